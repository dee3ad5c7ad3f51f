/- texts of this claim, merged by a program of this session out of its own texts and the print's words -/
import Derived.ArgAppend
import Derived.Below
import Derived.BigQuiet
import Derived.Deep.AppendLies
import Derived.Deep.CutBlock
import Derived.Deep.DeepCutAuto
import Derived.Deep.Draws
import Derived.Deep.LoopGhost
import Derived.Deep.OwnRows
import Derived.Deep.QuietTactic
import Derived.Deep.RegionHeld3
import Derived.IntWalk
import Derived.KernelRfl
import Derived.Laws.BitsLemmas
import Derived.Laws.BytesArg
import Derived.Laws.IdiomCopy
import Derived.Laws.MakeOwn
import Derived.Laws.OwnMore
import Derived.Laws.Rows
import Derived.Laws.Slices
import Derived.Lib.AppendStr
import Derived.Lib.ConvBytes
import Derived.Maps.AppendAt
import Derived.OrdersHeld
import Derived.OwnWalk
import Derived.RowKit
import Derived.RowKit3
import Derived.Tactics
import Derived.Test.YthgfhgjlilmieaaGreatProg
import Derived.WalkKit
import Derived.WideLaws
import Derived.Test.YthgfhgjlilmieaaGreatKA0
import Derived.Test.YthgfhgjlilmieaaGreatKA1
import Derived.Test.YthgfhgjlilmieaaGreatKA2
import Derived.Test.YthgfhgjlilmieaaGreatKA3
import Derived.Test.YthgfhgjlilmieaaGreatKA4
set_option linter.unusedVariables false
set_option linter.unusedSimpArgs false
namespace Go.Proofs.YthgfhgjlilmieaaGreatW.PrintWords
open Go.RowKit
section
variable {P : Program} {ops : Array Oper} {rest : List Oper} {o : Oper} {a : Act} {Q : Exit → Act → World → Prop}
end
section
variable {P : Program}
end
section
variable {P : Program} {ops : Array Oper} {rest : List Oper} {o : Oper} {a : Act} {Q : Exit → Act → World → Prop}
end
section
variable {P : Program} {ops : Array Oper} {rest : List Oper} {o : Oper} {a : Act} {Q : Exit → Act → World → Prop}
end
section
variable {P : Program} {ops : Array Oper} {o : Oper} {a : Act} {Q : Exit → Act → World → Prop} {K : Act → World → Prop}
end
section
variable {α : Type} {enc : α → Value} {d : α}
end
section
variable {α : Type} {P : Program} {ops : Array Oper} {rest : List Oper} {o : Oper} {a : Act} {Q : Exit → Act → World → Prop}
end
section
variable {P : Program}
end
section
variable {α : Type} {R R' : α → List Value → Prop} {e : TypeId} {size : Nat} {w w1 : World} {base : Nat} {v : Value} {ps : List α}
end
section
variable {P : Program} {ops : Array Oper} {rest : List Oper} {o : Oper} {a : Act} {Q : Exit → Act → World → Prop} {α : Type} {R : α → List Value → Prop}
end
section
variable {P : Program} {ops : Array Oper} {o : Oper} {a : Act} {Q : Exit → Act → World → Prop} {K : Act → World → Prop} {α : Type} {R : α → List Value → Prop}
end
section
variable {α : Type} {P : Program}
end
section
variable {P : Program} {ops : Array Oper} {rest : List Oper} {o : Oper} {a : Act} {Q : Exit → Act → World → Prop}
end
namespace Kd
section
variable {α : Type} {d : Kd α} {e : Nat} {w w1 : World} {base : Nat} {ok ok' : Nat → Prop} {v : Value} {xs : List α}
end
section
variable {P : Program} {ops : Array Oper} {rest : List Oper} {o : Oper} {a : Act} {Q : Exit → Act → World → Prop} {α : Type}
end
section
variable {P : Program} {ops : Array Oper} {o : Oper} {a : Act} {Q : Exit → Act → World → Prop} {Kc : Act → World → Prop} {α : Type}
end
end Kd
namespace Kd
section
variable {α : Type} {F : Kd α → Kd α} {sz : Nat} {E : List Nat} {hs : ∀ n, (upto F sz E n).sz = sz} {hE : ∀ n q, q ∈ (upto F sz E n).E → q ∈ E}
end
end Kd
namespace Kd
end Kd
namespace Kd
section
variable {α β : Type} {d : Kd α} {d' : Kd β} {e e' : Nat} {w w1 W : World} {base b b' : Nat} {ok ok' okv oku : Nat → Prop} {v u : Value} {xs : List α} {ys : List β}
theorem R_form (h : d.R e w base ok v xs) (hp : 0 < xs.length) : ∃ g cap, v = .slice (some ⟨g, 0, none⟩) xs.length cap ∧ base ≤ g ∧ g < w.heap.size ∧ ∃ cells, w.heap[g]? = some (.cells cells e (0, 0)) := by
  obtain ⟨inner, ho⟩ := R_own h
  obtain ⟨g, cap, he, hb, hl⟩ := ho.form hp
  obtain ⟨cells, hc⟩ := own_typed ho g (by rw [he]; simp [Value.ownBlock])
  exact ⟨g, cap, he, hb, hl, cells, hc⟩
end
section
variable {w W : World} {A : Option Addr} {n : Nat}
variable {α : Type} {enc : α → Value} {h1 : ∀ x, (enc x).oneCell' = true} {e base g cap : Nat} {ok : Nat → Prop} {xs : List α}
end
section
variable {P : Program} {ops : Array Oper} {rest : List Oper} {o : Oper} {a : Act} {Q : Exit → Act → World → Prop}
variable {α : Type}
end
end Kd
section
variable {P : Program}
end
section
variable {w w1 : World} {base n size : Nat} {e : TypeId} {v : Value} {xs : List Value}
theorem add_at (g o j : Nat) : (⟨g, o, none⟩ : Addr).add j = ⟨g, o + j, none⟩ := by unfold Addr.add; split <;> simp_all
end
section
variable {P : Program}
end
namespace Kd
section
variable {α : Type} {d : Kd α} {e : Nat} {w w1 W : World} {base : Nat} {ok ok' : Nat → Prop} {v : Value} {xs : List α}
end
section
variable {P : Program} {ops : Array Oper} {rest : List Oper} {o : Oper} {a : Act} {Q' : Exit → Act → World → Prop} {Kc : Act → World → Prop} {α : Type}
end
end Kd
namespace Kd
section
variable {α : Type} {d : Kd α} {e e' : Nat} {w w1 W : World} {base : Nat} {ok : Nat → Prop} {u v : Value} {xs : List α}
end
end Kd
namespace Kd
section
variable {α : Type} {d : Kd α} {e base g n cap : Nat} {ok okp : Nat → Prop} {W : World} {xs : List α}
theorem R_elem (h : d.R e W base ok (.slice (some ⟨g, 0, none⟩) n cap) xs) (z : α) (i : Int) (h0 : 0 ≤ i) (h1 : i < n) :
    ∃ c, c.length = d.sz ∧ d.M W base (fun k => ok k ∧ k ≠ g) (xs.getD i.toNat z) c ∧ (∀ j u, c[j]? = some u → W.cell? ⟨g, i.toNat * d.sz + j, none⟩ = some u) ∧ ∀ j, W.frozen? ⟨g, i.toNat * d.sz + j, none⟩ = false := by
  obtain ⟨hn, hnc, hC⟩ := R_reads' h
  obtain ⟨_, inner, ho, hr⟩ := h
  have hil : i.toNat < xs.length := by omega
  have hseg : i.toNat * d.sz + d.sz ≤ inner.length := by rw [hr.1, ← Nat.succ_mul]; exact Nat.mul_le_mul_right _ hil
  have hM := hr.2 i.toNat _ (List.getElem?_eq_getElem hil)
  refine ⟨(inner.drop (i.toNat * d.sz)).take d.sz, by rw [List.length_take, List.length_drop]; omega, ?_, fun j u hu => ?_, fun j => ?_⟩
  · rw [List.getD_eq_getElem?_getD, List.getElem?_eq_getElem hil]
    exact d.M_mono (fun k hk => ⟨hk.1, fun he => hk.2 (by rw [he]; simp [Value.ownBlock])⟩) hM
  · rw [List.getElem?_take] at hu
    split at hu
    · rw [List.getElem?_drop] at hu
      have := ho.cells (g := g) (by simp [Value.ownBlock]) _ u hu
      rwa [add_plain] at this
    · cases hu
  · obtain ⟨cells, hc⟩ := own_typed ho g (by simp [Value.ownBlock])
    exact blk_frozen hc _
end
end Kd
namespace Kd
section
variable {α : Type} {F : Kd α → Kd α} {sz : Nat} {E : List Nat} {hs : ∀ n, (upto F sz E n).sz = sz} {hE : ∀ n q, q ∈ (upto F sz E n).E → q ∈ E}
end
end Kd
namespace Kd
section
variable {P : Program} {ops : Array Oper} {rest : List Oper} {o : Oper} {a : Act} {Q : Exit → Act → World → Prop} {α : Type}
end
end Kd
namespace Kd
section
variable {P : Program} {ops : Array Oper} {rest : List Oper} {o : Oper} {a : Act} {Q : Exit → Act → World → Prop} {α : Type}
end
end Kd
namespace Kd
section
variable {α : Type} {k : Kd α} {w : World} {A : Option Addr} {xs : List α} {m c : Nat}
end
end Kd
section
variable {P : Program}
end
namespace Kd
section
variable {α β : Type} {d : Kd α} {d' : Kd β} {e e' base base' n : Nat} {ok ok' : Nat → Prop} {w W w1 W1 : World} {v u : Value} {xs : List α} {ys : List β} {A : Option Addr} {c : Nat}
end
section
variable {α : Type} {enc : α → Value} {h1 : ∀ x, (enc x).oneCell' = true} {w W : World} {A : Option Addr} {n g : Nat} {xs : List α}
end
end Kd
namespace Kd
section
variable {α : Type} {d : Kd α} {e base g : Nat} {ok : Nat → Prop} {w w1 : World} {v : Value} {xs : List α} {o : Obj}
end
end Kd
section
variable {P : Program} {ops : Array Oper} {rest : List Oper} {o : Oper} {a : Act} {Q : Exit → Act → World → Prop}
end
namespace Kd
section
variable {α : Type} {enc : α → Value} {h1 : ∀ x, (enc x).oneCell' = true} {e base g n cap : Nat} {ok : Nat → Prop} {W : World} {xs : List α}
end
end Kd
section
variable {P : Program} {ops : Array Oper} {rest : List Oper} {o : Oper} {a : Act} {Q : Exit → Act → World → Prop}
end
namespace Kd
section
variable {α : Type} {enc : α → Value} {h1 : ∀ x, (enc x).oneCell' = true} {e base g n cap : Nat} {ok : Nat → Prop} {W : World} {xs : List α}
end
end Kd
section
variable {P : Program} {ops : Array Oper} {rest : List Oper} {o : Oper} {a : Act} {Q : Exit → Act → World → Prop} {W : World}
theorem gate_store {t : TypeId} {p : Tmp} {v : Operand} (_ho : o.op = .store t (.tmp p) v) (h : wpList P ops Q (o :: rest) a W) : wpList P ops Q (o :: rest) a W := h
end
section
variable {P : Program} {ops : Array Oper} {o : Oper} {a : Act} {Q : Exit → Act → World → Prop} {Kc : Act → World → Prop}
namespace Kd
variable {α : Type}
end Kd
end
section
variable {P : Program} {tmps : Array Value} {w : World}
end
namespace Kd
section
variable {P : Program} {α : Type}
end
section
variable {P : Program} {ops : Array Oper} {rest : List Oper} {o : Oper} {a : Act} {Q : Exit → Act → World → Prop} {Kc : Act → World → Prop} {α : Type}
end
end Kd
end Go.Proofs.YthgfhgjlilmieaaGreatW.PrintWords
namespace Go.Proofs.YthgfhgjlilmieaaGreatW.PrintWords
open Go.RowKit
namespace Kd
section
variable {α β : Type} {d : Kd α} {d' : Kd β} {e e' : Nat} {w w1 W : World} {base b : Nat} {ok ok' okv oku : Nat → Prop} {u v : Value} {xs : List α} {ys : List β}
theorem R_head {ad : Addr} {n cap : Nat} (h : d.R e w base ok (.slice (some ad) n cap) xs) : ∃ g, ad = ⟨g, 0, none⟩ := by
  obtain ⟨_, inner, ho, hr⟩ := h
  rcases ho.2 with ⟨hv, _⟩ | ⟨g, cap', cur, hv, _⟩
  · cases hv
  · injection hv with ha _ _
    injection ha with ha
    exact ⟨g, ha⟩
end
section
variable {α β : Type} {d : Kd α} {d' : Kd β} {e e' g : Nat} {w w1 W : World} {base b : Nat} {ok ok' okv oku : Nat → Prop} {u v : Value} {xs : List α} {ys : List β}
end
section
variable {P : Program} {ops : Array Oper} {rest : List Oper} {o : Oper} {a : Act} {Q : Exit → Act → World → Prop} {Kc : Act → World → Prop} {α : Type}
end
section
variable {α β : Type} {d : Kd α} {e e' g n cap : Nat} {w w1 W : World} {base : Nat} {ok ok' oki okp : Nat → Prop} {u v : Value} {xs : List α} {i : Int} {c : List Value}
end
section
variable {P : Program} {ops : Array Oper} {rest : List Oper} {o : Oper} {a : Act} {Q : Exit → Act → World → Prop} {α : Type}
end
end Kd
end Go.Proofs.YthgfhgjlilmieaaGreatW.PrintWords
namespace Go.Proofs.YthgfhgjlilmieaaGreatW.PrintWords
open Go.RowKit
namespace Foot
variable {P Q : World → Prop} {W W1 : World} {ok ok' : Nat → Prop}
end Foot
namespace Kd
section
variable {α β : Type} {d : Kd α} {e base n n' cc g N : Nat} {ok ok' okp S : Nat → Prop} {w w0 w1 W W1 : World} {A A' : Option Addr} {u v v1 : Value} {xs : List α} {xs' : List β} {d' : Kd β} {x : α} {c : List Value}
theorem F_now (h : F d W ok A n xs) : d.C W A n xs := Foot.now h
theorem F_step (h : F d W ok A n xs) (hm : ∀ k, ok k → k < W.heap.size → W1.heap[k]? = W.heap[k]?) : F d W1 ok A n xs := Foot.step h hm
end
end Kd
end Go.Proofs.YthgfhgjlilmieaaGreatW.PrintWords
namespace Go.Proofs.YthgfhgjlilmieaaGreatW.PrintWords
open Go.RowKit
namespace Kd
section
variable {α : Type} {d : Kd α} {e base n cc g : Nat} {ok ok' okp S : Nat → Prop} {w w1 W W1 : World} {A : Option Addr} {u v v1 : Value} {xs : List α} {x : α} {c : List Value}
theorem N_form (h : N d e w base ok v xs) (hp : 0 < xs.length) : ∃ g cap, v = .slice (some ⟨g, 0, none⟩) xs.length cap ∧ base ≤ g ∧ g < w.heap.size ∧ ∃ cells, w.heap[g]? = some (.cells cells e (0, 0)) := by
  obtain ⟨_, rows, hl, hR, _⟩ := h
  rw [← hl] at hp ⊢
  exact R_form hR hp
theorem N_elem {n cap : Nat} (h : N d e W base ok (.slice (some ⟨g, 0, none⟩) n cap) xs) (z : α) (i : Int) (h0 : 0 ≤ i) (h1 : i < n) :
    ∃ c, c.length = d.sz ∧ FK d W (fun k => ok k ∧ k ≠ g) (xs.getD i.toNat z) c ∧ (∀ j u, c[j]? = some u → W.cell? ⟨g, i.toNat * d.sz + j, none⟩ = some u) ∧ ∀ j, W.frozen? ⟨g, i.toNat * d.sz + j, none⟩ = false := by
  obtain ⟨_, rows, hl, hR, hf⟩ := h
  have hn := (R_reads' hR).1
  obtain ⟨c, hcl, hM, hcc, hfr⟩ := R_elem hR [] i h0 h1
  have hil : i.toNat < rows.length := by omega
  have hil' : i.toNat < xs.length := by omega
  have hc : c = rows[i.toNat] := by
    have h2 := hM.1
    rwa [List.getD_eq_getElem?_getD, List.getElem?_eq_getElem hil] at h2
  refine ⟨c, hcl, ?_, hcc, hfr⟩
  rw [List.getD_eq_getElem?_getD, List.getElem?_eq_getElem hil']
  exact FK_mono (hf _ _ _ (List.getElem?_eq_getElem hil') (by rw [hc]; exact List.getElem?_eq_getElem hil)) (fun k hk => ⟨hk.1, fun he => hk.2 (by rw [he]; simp [Value.ownBlock])⟩)
theorem N_get {ad : Addr} {n cap : Nat} (h : N d e W base ok (.slice (some ad) n cap) xs) (z : α) (i : Int) (h0 : 0 ≤ i) (h1 : i < n) :
    ∃ c, c.length = d.sz ∧ FK d W (fun k => ok k ∧ some k ≠ (Value.slice (some ad) n cap).ownBlock) (xs.getD i.toNat z) c ∧ ∀ j u, c[j]? = some u → W.cell? (ad.add (i.toNat * d.sz + j)) = some u := by
  obtain ⟨g, rfl⟩ : ∃ g, ad = ⟨g, 0, none⟩ := by
    obtain ⟨_, rows, _, hR, _⟩ := h
    exact R_head hR
  obtain ⟨c, hcl, hM, hcc, _⟩ := N_elem h z i h0 h1
  refine ⟨c, hcl, FK_mono hM (fun k hk => ⟨hk.1, fun he => hk.2 (by simpa [Value.ownBlock] using he)⟩), fun j u hu => ?_⟩
  rw [add_at, Nat.zero_add]
  exact hcc j u hu
end
end Kd
end Go.Proofs.YthgfhgjlilmieaaGreatW.PrintWords
namespace Go.Proofs.YthgfhgjlilmieaaGreat.B
open Go.RowKit Go.Proofs.YthgfhgjlilmieaaGreatW.PrintWords Go.Proofs.YthgfhgjlilmieaaGreatW.PrintLast Go.Proofs.YthgfhgjlilmieaaGreatW.PrintMore
attribute [local go_sem] max2_int min2_int max_two min_two max_three min_three max_four min_four
set_option linter.unusedVariables false
set_option linter.unusedSimpArgs false
theorem k76_openF {W : World} {ok : Nat → Prop} {x : S76} {cs : List Value} (h : Kd.FK k76 W ok x cs) : ∃ A2 c2, cs = [.int .i64 x.f0, .int .i64 x.f1, .slice A2 x.f2.length c2] ∧ x.f2.length ≤ c2 ∧ Kd.F (Kd.int .i64) W ok A2 x.f2.length x.f2 := by
  obtain ⟨A2, c2, rfl, l2, _⟩ := k76_open (Kd.FK_now h)
  exact ⟨A2, c2, rfl, l2, (fun W' hW => by obtain ⟨A2_, c2_, he, l2_, g2_⟩ := k76_open (h W' hW); injection (Option.some.inj (show some (Value.slice A2 x.f2.length c2) = some (Value.slice A2_ x.f2.length c2_) from congrArg (fun l => l[2]?) he)) with ha_ _ _; rw [ha_]; exact g2_)⟩
theorem k75_mk (w : World) (x : S75)  : k75.K w x [.int .i64 x.f0, .int .i64 x.f1, .string x.f2] := ⟨[.int .i64 x.f0], [.int .i64 x.f1, .string x.f2], rfl, rfl, ⟨[.int .i64 x.f1], [.string x.f2], rfl, rfl, rfl⟩⟩
end Go.Proofs.YthgfhgjlilmieaaGreat.B
namespace Go.Proofs.YthgfhgjlilmieaaGreat.G
open Go.RowKit Go.Shelf Go.Proofs.YthgfhgjlilmieaaGreatW.PrintWords Go.Proofs.YthgfhgjlilmieaaGreatW.PrintLast Go.Proofs.YthgfhgjlilmieaaGreatW.PrintMore
open Go.Proofs.YthgfhgjlilmieaaGreat.B
set_option linter.unusedVariables false
set_option linter.unusedSimpArgs false
def okB (ES : List (Int × Int)) (J : Nat) (u : List Bool) (r b : Int) : Bool := (decide (-1 ≤ b) && decide (b ≤ (J : Int) - 1)) && freeB ES u r b
def paU (ES : List (Int × Int)) (J : Nat) (bs : List Int) : Nat → Option (List Bool)
  | 0 => some u0
  | k + 1 => (paU ES J bs k).bind fun u => if okB ES J u k (rd bs k) = true then some (freeU ES u k (rd bs k)) else none
theorem paU_len (ES : List (Int × Int)) (J : Nat) (bs : List Int) : ∀ k u, paU ES J bs k = some u → u.length = 8
  | 0, u, h => by cases h; rfl
  | k + 1, u, h => by
    simp only [paU, Option.bind_eq_some_iff] at h
    obtain ⟨u', h1, h2⟩ := h
    split at h2
    · cases h2
      rw [freeU_len]
      exact paU_len ES J bs k u' h1
    · cases h2
theorem paU_none (ES : List (Int × Int)) (J : Nat) (bs : List Int) (k : Nat) (h : paU ES J bs k = none) : ∀ m, k ≤ m → paU ES J bs m = none
  | 0, hm => by rw [show k = 0 by omega] at h; exact h
  | m + 1, hm => by
    by_cases e : k = m + 1
    · rw [← e]; exact h
    · simp [paU, paU_none ES J bs k h m (by omega)]
def paB (l : Lg) (bs : List Int) : Bool := (logE l == 0 && bs.length == l.rc.length) && (paU (esK l l.rc.length) l.jn.length bs bs.length).isSome
set_option maxRecDepth 100000 in
set_option maxHeartbeats 8000000 in
theorem prove_any (a : LV) (l : Lg) (A : Option Addr) (c : Nat) (bs : List Int) (w : World) (hL : LogAt w a l) (hr : Kd.C (Kd.int .i64) w A bs.length bs) :
    Calls Tryz.prog 45 #[logV a l, .slice A bs.length c] w fun e w' => e = .returned (.bool (paB l bs)) ∧ Below w.heap.size w w' := by
  have hu := Tryz.underlying38
  have hu6 := Tryz.underlying106
  have hb : Below w.heap.size w (w.alloc (logC a l)) := (Below.refl _ w).alloc (Nat.le_refl _) _
  have hcl := checkLog_any a l _ (hL.below hb)
  have HCL := Aside0.mk hcl
  have HB := Aside0.mk hb
  by_cases h0 : logE l = 0
  · by_cases h1 : bs.length = l.rc.length
    · obtain ⟨hsl, hjl, hrl⟩ := logE_len (l := l) h0
      have hst := logE_sent h0
      have hwork : ∀ W, Below w.heap.size w W → Calls Tryz.prog 65 #[logV a l] W fun e w' => e = .returned (.pointer (some ⟨W.heap.size + 3, 0, none⟩)) ∧ WkI W a l (esK l l.rc.length) (fun _ => False) w' := fun W hW => work_any a l W (hL.below hW) hjl hrl hst hL.z4
      have HW := Aside0.mk hwork
      have HRD := Aside0.mk hr
      have hlen : ((bs.length : Int) != (l.rc.length : Int)) = false := by simp [h1]
      have hlen3 : bs.length ≤ 6 := by omega
      have hres : paB l bs = (paU (esK l l.rc.length) l.jn.length bs bs.length).isSome := by simp [paB, h0, h1]
      have HRES := Aside0.mk hres
      rw [h0] at HCL
      obtain ⟨A0, A2, A3, A4, c0, c2, c3, c4⟩ := a
      dsimp only [logV] at *
      clear hL hcl hb hwork h0 hst hr hres h1
      generalize esK l l.rc.length = ES at *
      go_enter Tryz.func45, Tryz.ntmps45
      go_wp2_with (first
        | (go_at_call 19; refine HCL.out.mono ?_; rintro e w1 ⟨rfl, hb1⟩; obtain ⟨hc1, hf1⟩ := bcell hb1; have HB1 := Aside0.mk hb1; clear hb1))
      refine (HW.out _ (below_next HB.out HB1.out)).mono ?_
      rintro e w2 ⟨rfl, hW2⟩
      obtain ⟨k1, k2, k3, k4⟩ := hW2
      obtain ⟨q1, q2, _, _⟩ := k2
      obtain ⟨pb, hpb⟩ : ∃ pb, pb = w1.heap.size + 3 := ⟨_, rfl⟩
      obtain ⟨bc, hbc⟩ : ∃ bc, bc = w1.heap.size + 2 := ⟨_, rfl⟩
      rw [← hpb] at q1 ⊢
      rw [← hbc] at q1 q2
      generalize w1.heap.size + 1 = bo at q1
      have hb2 := below_next (below_next HB.out HB1.out) k3
      have hs2 := (below_next HB1.out k3).block w.heap.size (by simp)
      have hs3 : w2.heap[w.heap.size]? = some (logC ⟨A0, A2, A3, A4, c0, c2, c3, c4⟩ l) := hs2.trans (alloc_new _ _)
      have hba : Below w2.heap.size w2 (w2.alloc (.cells (uV u0) 106)) := (Below.refl _ w2).alloc (Nat.le_refl _) _
      have J1 := Aside0.mk (below_next hb2 hba)
      have J2 := Aside0.mk ((hba.block _ (Array.getElem?_eq_some_iff.1 hs3).1).trans hs3)
      have J3 := Aside0.mk ((hba.block _ (Array.getElem?_eq_some_iff.1 q1).1).trans q1)
      have J4 := Aside0.mk (q2.below hba)
      have J5 := Aside0.mk (alloc_new w2 (.cells (uV u0) 106))
      have hz6 : w.heap.size ≤ w2.heap.size := hb2.size
      clear k1 k3 k4 q1 q2 hb2 hs2 hs3 hba hpb hbc
      go_wp2
      obtain ⟨q6, hq6⟩ : ∃ q6, q6 = w2.heap.size := ⟨_, rfl⟩
      rw [← hq6] at J5 ⊢
      have hz7 : w.heap.size ≤ q6 := by omega
      clear hq6
      go_loopg [26] bs.length (fun gg v26 wr => ∃ (k : Nat) (u : List Bool), k ≤ bs.length ∧ bs.length - k ≤ gg ∧ v26 = .int .i64 k ∧ Aside0 (paU ES l.jn.length bs k = some u) ∧ Aside0 (Below w.heap.size w wr) ∧ Aside0 (wr.heap[w.heap.size]? = some (logC ⟨A0, A2, A3, A4, c0, c2, c3, c4⟩ l)) ∧ Aside0 (wr.heap[pb]? = some (wkC ⟨A0, A2, A3, A4, c0, c2, c3, c4⟩ l bo bc)) ∧ Aside0 (CanM bc ES wr) ∧ Aside0 (wr.heap[q6]? = some (.cells (uV u) 106 (0, 0))))
      case atStart => exact ⟨0, u0, Nat.zero_le _, by omega, by go_num, ⟨rfl⟩, J1, J2, J3, J4, J5⟩
      case round =>
        obtain ⟨k, u, hk, hg, rfl, HU, BW, HS, HP, HC, HQ⟩ := hrel
        by_cases hlt : k < bs.length
        · have hltz : (k : Int) < (bs.length : Int) := by omega
          have hpa : paU ES l.jn.length bs (k + 1) = if okB ES l.jn.length u k (rd bs k) = true then some (freeU ES u k (rd bs k)) else none := by
            simp [paU, HU.out]
          obtain ⟨ad, e1, hx⟩ := Kd.at_int (Kd.C_below HRD.out BW.out) (k : Int) (by omega) hltz
          cases e1
          rw [Int.toNat_natCast] at hx
          have hul := paU_len ES l.jn.length bs k u HU.out
          have HPA := Aside0.mk hpa
          obtain ⟨g0, g1, g2, g3, g4, g5, g6, g7⟩ := uV_cells HQ.out
          have hqlt : q6 < wr.heap.size := (Array.getElem?_eq_some_iff.1 HQ.out).1
          have hslt : w.heap.size < wr.heap.size := (Array.getElem?_eq_some_iff.1 HS.out).1
          have hba : Below wr.heap.size wr (wr.alloc (.cells (uV u) 106)) := (Below.refl _ wr).alloc (Nat.le_refl _) _
          have z3 : (wr.alloc (.cells (uV u) 106)).cell? ⟨w.heap.size, 3, none⟩ = some (.slice A3 l.jn.length c3) := alloc_old (by simp [World.cell?, HS.out]) hslt _
          obtain ⟨f0, f1, f2, f3, f4, f5, f6, f7⟩ := uV_cells ((hba.block q6 hqlt).trans HQ.out)
          have hP2 := (hba.block pb (Array.getElem?_eq_some_iff.1 HP.out).1).trans HP.out
          have hQ2 := (hba.block q6 hqlt).trans HQ.out
          have hS2 := (hba.block w.heap.size hslt).trans HS.out
          have hN2 : (wr.alloc (.cells (uV u) 106)).heap[wr.heap.size]? = some (.cells (uV u) 106 (0, 0)) := alloc_new _ _
          have c6 : (wr.alloc (.cells (uV u) 106)).cell? ⟨pb, 6, none⟩ = some (.map (some bc)) := by simp [World.cell?, hP2]
          have HBA := Aside0.mk hba
          have HP2 := Aside0.mk hP2
          have HQ2 := Aside0.mk hQ2
          have HS2 := Aside0.mk hS2
          have HN2 := Aside0.mk hN2
          generalize rd bs (k : Int) = n at *
          clear hpa hba hP2 hQ2 hS2 hN2
          by_cases hwi : -1 ≤ n ∧ n ≤ (l.jn.length : Int) - 1
          · have hW57 : ∀ W, Calls Tryz.prog 57 #[.int .i64 n, .int .i64 (-1), .int .i64 ((l.jn.length : Int) - 1)] W fun e w' => e = .returned (.bool true) ∧ W = w' := fun W => by
              have := within_m n (-1) ((l.jn.length : Int) - 1) W
              rwa [decide_eq_true hwi.1, decide_eq_true hwi.2] at this
            have hfree := free_any' ES pb bc k n u _ c6 (HC.out.below HBA.out) (by omega) (by omega) hul
            have HFR := Aside0.mk hfree
            have H57 := Aside0.mk hW57
            have hok : okB ES l.jn.length u k n = freeB ES u k n := by simp [okB, hwi]
            have HOK := Aside0.mk hok
            clear hfree hW57 hok hwi c6
            cases hfr : freeB ES u k n with
            | true =>
              rw [hfr] at HFR
              have hnx : paU ES l.jn.length bs (k + 1) = some (freeU ES u k n) := by rw [HPA.out, HOK.out, hfr]; rfl
              have HNX := Aside0.mk hnx
              clear hfr hnx
              generalize freeU ES u k n = u' at *
              go_wp2_with (first
                | (go_at_call 57; refine (H57.out _).mono ?_; rintro e w' ⟨rfl, rfl⟩)
                | (go_at_call 78; refine HFR.out.mono ?_; rintro e w3 ⟨rfl, hb3⟩; have HB3 := Aside0.mk hb3; clear hb3)
                | ((with_reducible refine gate_store (t := 106) (p := 9) (v := .tmp 44) rfl ?_); refine wpList_store_row rfl 106 (.tmp 9) (.tmp 44) rfl wr.heap.size (uV u') rfl rfl 106 (uV u) ((HB3.out.block _ (by simp)).trans HN2.out) size106 rfl (uV_ok u') ?_; have HN4 := Aside0.mk (setRow_heap w3 wr.heap.size _ (uV u') 106 _ ((HB3.out.block _ (by simp)).trans HN2.out)); obtain ⟨y0, y1, y2, y3, y4, y5, y6, y7⟩ := uV_cells HN4.out)
                | ((with_reducible refine gate_store (t := 106) (p := 6) (v := .tmp 48) rfl ?_); refine wpList_store_row rfl 106 (.tmp 6) (.tmp 48) rfl q6 (uV u') rfl rfl 106 (uV u) ?hq6 size106 rfl (uV_ok u') ?_; (case hq6 => rw [setRow_other _ _ _ _ (by omega)]; exact (HB3.out.block _ (by simp; omega)).trans HQ2.out)))
              have hP3 := (HB3.out.block pb (Array.getElem?_eq_some_iff.1 HP2.out).1).trans HP2.out
              have hQ3 := (HB3.out.block q6 (Array.getElem?_eq_some_iff.1 HQ2.out).1).trans HQ2.out
              have hS3 := (HB3.out.block w.heap.size (Array.getElem?_eq_some_iff.1 HS2.out).1).trans HS2.out
              have hb3 := below_next BW.out (below_next HBA.out HB3.out)
              have hC3 := HC.out.below (below_next HBA.out HB3.out)
              have hpq : pb ≠ q6 := by rintro rfl; rw [hQ3] at hP3; cases hP3
              have hsq : w.heap.size ≠ q6 := by intro e; rw [e, hQ3] at hS3; cases hS3
              have hpw : pb ≠ wr.heap.size := by have := (Array.getElem?_eq_some_iff.1 HP.out).1; omega
              have hQ4 : (w3.setRow wr.heap.size (uV u')).heap[q6]? = some (.cells (uV u) 106 (0, 0)) := by rw [setRow_other _ _ _ _ (by omega)]; exact hQ3
              have hle : w.heap.size ≤ wr.heap.size := by omega
              have hC5 : CanM bc ES ((w3.setRow wr.heap.size (uV u')).setRow q6 (uV u')) := by
                obtain ⟨f, hf, hf2⟩ := hC3
                have hN3 := (HB3.out.block _ (Array.getElem?_eq_some_iff.1 HN2.out).1).trans HN2.out
                have n1 : bc ≠ q6 := fun e => hf.notCells _ _ _ (by rw [e]; exact hQ3)
                have n2 : bc ≠ wr.heap.size := fun e => hf.notCells _ _ _ (by rw [e]; exact hN3)
                exact ⟨f, hf.same (by rw [setRow_other _ _ _ _ n1, setRow_other _ _ _ _ n2]), hf2⟩
              go_roundg (bs.length - (k + 1))
              case measure => omega
              case rel => exact ⟨k + 1, u', by omega, by omega, by go_num, HNX, ⟨bel_setRow (bel_setRow hb3 hle _) hz7 _⟩, ⟨by rw [setRow_other _ _ _ _ hsq, setRow_other _ _ _ _ (by omega)]; exact hS3⟩, ⟨by rw [setRow_other _ _ _ _ hpq, setRow_other _ _ _ _ hpw]; exact hP3⟩, ⟨hC5⟩, ⟨setRow_heap _ _ _ _ _ _ hQ4⟩⟩
            | false =>
              rw [hfr] at HFR
              have hnx : paU ES l.jn.length bs (k + 1) = none := by rw [HPA.out, HOK.out, hfr]; rfl
              have hfin : paB l bs = false := by rw [HRES.out, paU_none _ _ _ _ hnx _ (by omega)]; rfl
              have HFIN := Aside0.mk hfin
              clear hfr hnx hfin
              generalize freeU ES u k n = u' at *
              go_wp2_with (first
                | (go_at_call 57; refine (H57.out _).mono ?_; rintro e w' ⟨rfl, rfl⟩)
                | (go_at_call 78; refine HFR.out.mono ?_; rintro e w3 ⟨rfl, hb3⟩; have HB3 := Aside0.mk hb3; clear hb3)
                | ((with_reducible refine gate_store (t := 106) (p := 9) (v := .tmp 44) rfl ?_); refine wpList_store_row rfl 106 (.tmp 9) (.tmp 44) rfl wr.heap.size (uV u') rfl rfl 106 (uV u) ((HB3.out.block _ (by simp)).trans HN2.out) size106 rfl (uV_ok u') ?_))
              go_ret
              have hle : w.heap.size ≤ wr.heap.size := by omega
              exact ⟨by rw [HFIN.out]; rfl, bel_setRow (below_next BW.out (below_next HBA.out HB3.out)) hle _⟩
          · have hdd : (decide (-1 ≤ n) && decide (n ≤ (l.jn.length : Int) - 1)) = false := by
              by_cases h : -1 ≤ n
              · have : ¬ n ≤ (l.jn.length : Int) - 1 := fun h2 => hwi ⟨h, h2⟩
                simp [this]
              · simp [h]
            have hW57 : ∀ W, Calls Tryz.prog 57 #[.int .i64 n, .int .i64 (-1), .int .i64 ((l.jn.length : Int) - 1)] W fun e w' => e = .returned (.bool false) ∧ W = w' := fun W => by
              have := within_m n (-1) ((l.jn.length : Int) - 1) W
              rwa [hdd] at this
            have H57 := Aside0.mk hW57
            have hok : okB ES l.jn.length u k n = false := by unfold okB; rw [hdd]; rfl
            have hnx : paU ES l.jn.length bs (k + 1) = none := by rw [HPA.out, hok]; rfl
            have hfin : paB l bs = false := by rw [HRES.out, paU_none _ _ _ _ hnx _ (by omega)]; rfl
            have HFIN := Aside0.mk hfin
            clear hdd hW57 hok hnx hfin hwi
            go_wp2_with (first
              | (go_at_call 57; refine (H57.out _).mono ?_; rintro e w' ⟨rfl, rfl⟩))
            go_ret
            exact ⟨by rw [HFIN.out]; rfl, below_next BW.out HBA.out⟩
        · have hk2 : k = bs.length := by omega
          subst hk2
          have hltz : ¬ (bs.length : Int) < (bs.length : Int) := by omega
          have hfin : paB l bs = true := by rw [HRES.out, HU.out]; rfl
          have HFIN := Aside0.mk hfin
          clear hfin
          go_wp2
          go_ret
          exact ⟨by rw [HFIN.out]; rfl, BW.out⟩
    · have hres : paB l bs = false := by simp [paB, h1]
      have hlen : ((bs.length : Int) != (l.rc.length : Int)) = true := by simp; omega
      have hlen2 : ¬ (bs.length : Int) = (l.rc.length : Int) := by omega
      rw [hres]
      rw [h0] at HCL
      obtain ⟨A0, A2, A3, A4, c0, c2, c3, c4⟩ := a
      dsimp only [logV] at *
      clear hL hcl hb h0 hr hres h1
      go_enter Tryz.func45, Tryz.ntmps45
      go_wp2_with (first
        | (go_at_call 19; refine HCL.out.mono ?_; rintro e w1 ⟨rfl, hb1⟩; obtain ⟨hc1, hf1⟩ := bcell hb1; have HB1 := Aside0.mk hb1; clear hb1))
      go_ret
      exact ⟨rfl, below_next HB.out HB1.out⟩
  · have hres : paB l bs = false := by simp [paB, h0]
    have hd : (logE l = 0) = False := eq_false h0
    have hd2 : (logE l == 0) = false := by simp [h0]
    rw [hres]
    obtain ⟨A0, A2, A3, A4, c0, c2, c3, c4⟩ := a
    dsimp only [logV] at *
    clear hL hcl hb h0 hr hres
    generalize logE l = E at *
    go_enter Tryz.func45, Tryz.ntmps45
    go_wp2_with (first
      | (go_at_call 19; refine HCL.out.mono ?_; rintro e w1 ⟨rfl, hb1⟩; obtain ⟨hc1, hf1⟩ := bcell hb1; have HB1 := Aside0.mk hb1; clear hb1))
    go_ret
    exact ⟨rfl, below_next HB.out HB1.out⟩
end Go.Proofs.YthgfhgjlilmieaaGreat.G
namespace Go.Proofs.YthgfhgjlilmieaaGreat.G
open Go.RowKit Go.Shelf Go.Proofs.YthgfhgjlilmieaaGreatW.PrintWords Go.Proofs.YthgfhgjlilmieaaGreatW.PrintLast Go.Proofs.YthgfhgjlilmieaaGreatW.PrintMore
open Go.Proofs.YthgfhgjlilmieaaGreat.B
set_option linter.unusedVariables false
set_option linter.unusedSimpArgs false
theorem masked27_at (a : LV) (l : Lg) (n : Int) (w : World) (hL : LogAt w a l) : Calls Tryz.prog 27 #[logV a l, .int .i64 n] w (OwnP (mskL l n) (mskE l n) w) := (masked_any a l n w hL).mono fun e w' ⟨v, he, hR, hb⟩ => by
  obtain ⟨A, c, rfl, hl, hC⟩ := Kd.R_reads hR
  exact ⟨A, c, he, hl, hC, hb⟩
theorem verdicts35_at (a : LV) (l : Lg) (w : World) (hL : LogAt w a l) : Calls Tryz.prog 35 #[logV a l] w (OwnP (verdL l) (verdE l) w) := (verdicts_any a l w hL).mono fun e w' ⟨v, he, hR, hb⟩ => by
  obtain ⟨A, c, rfl, hl, hC⟩ := Kd.R_reads hR
  exact ⟨A, c, he, hl, hC, hb⟩
theorem assign36_at (a : LV) (l : Lg) (w : World) (hL : LogAt w a l) : Calls Tryz.prog 36 #[logV a l] w (OwnP (asgL l) (asgE l) w) := (assign_any a l w hL).mono fun e w' ⟨v, he, hR, hb⟩ => by
  obtain ⟨A, c, rfl, hl, hC⟩ := Kd.R_reads hR
  exact ⟨A, c, he, hl, hC, hb⟩
theorem leave32_at (a : LV) (l : Lg) (w : World) (hL : LogAt w a l) : Calls Tryz.prog 32 #[logV a l] w (OwnP (leaveL l) (leaveE l) w) := (leave32_any a l w hL).mono fun e w' ⟨v, he, hR, hb⟩ => by
  obtain ⟨A, c, rfl, hl, hC⟩ := Kd.R_reads hR
  exact ⟨A, c, he, hl, hC, hb⟩
end Go.Proofs.YthgfhgjlilmieaaGreat.G
namespace Go.Proofs.YthgfhgjlilmieaaGreat.G
open Go.RowKit Go.Shelf Go.Proofs.YthgfhgjlilmieaaGreatW.PrintWords Go.Proofs.YthgfhgjlilmieaaGreatW.PrintLast Go.Proofs.YthgfhgjlilmieaaGreatW.PrintMore
open Go.Proofs.YthgfhgjlilmieaaGreat.B
set_option linter.unusedVariables false
set_option linter.unusedSimpArgs false
structure VF (l : Lg) (r : Nat) (v a : Int) : Prop where
  ask : askE l r = 0
  val : v = 1 ∨ v = 2 ∨ v = 3
  m : mskE l r = 0 ∨ mskE l r = 7
  o : ownL l r = [] → v = 2
  n : mskE l r = 7 → v = 1
  f : a < 0 → v ≠ 1 ∧ mskE l r = 0
  t : 0 ≤ a → v ≠ 2 ∧ (ownL l r).contains a = true
end Go.Proofs.YthgfhgjlilmieaaGreat.G
namespace Go.Proofs.YthgfhgjlilmieaaGreat.G
open Go.RowKit Go.Shelf Go.Proofs.YthgfhgjlilmieaaGreatW.PrintWords Go.Proofs.YthgfhgjlilmieaaGreatW.PrintLast Go.Proofs.YthgfhgjlilmieaaGreatW.PrintMore
open Go.Proofs.YthgfhgjlilmieaaGreat.B
set_option linter.unusedVariables false
set_option linter.unusedSimpArgs false
def partB (t s : List Int) : Bool := decide (0 < t.length) && (List.range (s.length + 1 - t.length)).any fun (k : Nat) => t == (s.take (k + t.length)).drop k
structure PF (l : Lg) (b : Int) (t : List Int) : Prop where
  found : (l.jn.any fun s => decide (s.f0 < b) && partB t s.f2) = true
  tail : 1 < t.length → t.drop 1 ∈ heardL l b
  init : 1 < t.length → t.take (t.length - 1) ∈ heardL l b
end Go.Proofs.YthgfhgjlilmieaaGreat.G
namespace Go.Proofs.YthgfhgjlilmieaaGreat.G
open Go.RowKit Go.Shelf Go.Proofs.YthgfhgjlilmieaaGreatW.PrintWords Go.Proofs.YthgfhgjlilmieaaGreatW.PrintLast Go.Proofs.YthgfhgjlilmieaaGreatW.PrintMore
open Go.Proofs.YthgfhgjlilmieaaGreat.B
set_option linter.unusedVariables false
set_option linter.unusedSimpArgs false
def LlsP (xs : List (List Int)) (q : Int) (w : World) (e : Ending) (w' : World) : Prop := ∃ A c, e = .returned (.tuple #[.slice A xs.length c, .int .i64 q]) ∧ xs.length ≤ c ∧ Kd.C (Kd.slice 3 (Kd.int .i64)) w' A xs.length xs ∧ Below w.heap.size w w'
theorem heard26_at (a : LV) (l : Lg) (h : Int) (w : World) (hL : LogAt w a l) : Calls Tryz.prog 26 #[logV a l, .int .i64 h] w (LlsP (heaL l h) (heaE l h) w) := (hears_any a l h w hL).mono fun e w' ⟨v, he, hR, hb⟩ => by
  obtain ⟨A, c, rfl, hl, hC⟩ := Kd.R_reads hR
  exact ⟨A, c, he, hl, hC, hb⟩
end Go.Proofs.YthgfhgjlilmieaaGreat.G
namespace Go.Proofs.YthgfhgjlilmieaaGreat.G
open Go.RowKit Go.Shelf Go.Proofs.YthgfhgjlilmieaaGreatW.PrintWords Go.Proofs.YthgfhgjlilmieaaGreatW.PrintLast Go.Proofs.YthgfhgjlilmieaaGreatW.PrintMore
open Go.Proofs.YthgfhgjlilmieaaGreat.B
set_option linter.unusedVariables false
set_option linter.unusedSimpArgs false
abbrev L0 : Lg := lineG []
abbrev jn0 : List S76 := [⟨6, 0, [1, 0]⟩, ⟨8, 1, [2]⟩]
abbrev rc0 : List S75 := [⟨6, 0, bsD⟩, ⟨8, 1, bsB⟩, ⟨9, 0, bsA⟩]
structure LineP (w w' : World) (a : LV) : Prop where
  r0 : Kd.R Kd.string 9 w' w.heap.size (fun k => w.heap.size ≤ k) (.slice a.A0 3 a.c0) [bsA, bsB, bsC]
  r2 : Kd.R (Kd.int .i64) 3 w' w.heap.size (fun k => w.heap.size ≤ k) (.slice a.A2 2 a.c2) [5, -1]
  r3 : Kd.N k76 76 w' w.heap.size (fun k => w.heap.size ≤ k ∧ some k ≠ (Value.slice a.A0 3 a.c0).ownBlock ∧ some k ≠ (Value.slice a.A2 2 a.c2).ownBlock ∧ some k ≠ (Value.slice a.A4 3 a.c4).ownBlock) (.slice a.A3 2 a.c3) jn0
  r4 : Kd.R k75 75 w' w.heap.size (fun k => w.heap.size ≤ k) (.slice a.A4 3 a.c4) rc0
theorem line_own (w : World) : Calls Tryz.prog 49 #[.slice none 0 0] w fun e w' => ∃ a, e = .returned (logV a L0) ∧ LineP w w' a ∧ Below w.heap.size w w' := by
  obtain ⟨A, c, e, _, hC⟩ := Kd.R_reads (Kd.R_nil k75 75 w 0 (fun _ => True))
  cases e
  refine (glisterlaw06_line.calls none 0 [] _ _ _ _ _ w hC (Nat.le_refl _) (line_f [] (by simp))).mono ?_
  rintro e w' ⟨v0, v2, v3, v4, rfl, h0, h2, h3, h4, hb⟩
  obtain ⟨A0, c0, rfl⟩ := Kd.R_slice h0
  obtain ⟨A2, c2, rfl⟩ := Kd.R_slice h2
  obtain ⟨A3, c3, rfl⟩ := Kd.N_slice h3
  obtain ⟨A4, c4, rfl⟩ := Kd.R_slice h4
  exact ⟨⟨A0, A2, A3, A4, c0, c2, c3, c4⟩, rfl, ⟨h0, h2, h3, h4⟩, hb⟩
def SameOn (n x : Nat) (w' W : World) : Prop := ∀ k, n ≤ k → k < w'.heap.size → k ≠ x → W.heap[k]? = w'.heap[k]?
section
variable {w w' W : World} {a : LV} {x : Nat}
theorem LineP.c0 (h : LineP w w' a) (hs : SameOn w.heap.size x w' W) (hx : some x ≠ (Value.slice a.A0 3 a.c0).ownBlock) : Kd.C Kd.string W a.A0 3 [bsA, bsB, bsC] :=
  (Kd.R_reads' (Kd.R_step (Kd.R_tight rfl h.r0) (w1 := W) (fun k hk hlt => hs k (h.r0.1 k hk.symm) hlt (fun e => hx (by rw [← e]; exact hk))))).2.2
theorem LineP.c2_ (h : LineP w w' a) (hs : SameOn w.heap.size x w' W) (hx : some x ≠ (Value.slice a.A2 2 a.c2).ownBlock) : Kd.C (Kd.int .i64) W a.A2 2 [5, -1] :=
  (Kd.R_reads' (Kd.R_step (Kd.R_tight rfl h.r2) (w1 := W) (fun k hk hlt => hs k (h.r2.1 k hk.symm) hlt (fun e => hx (by rw [← e]; exact hk))))).2.2
theorem LineP.c4_ (h : LineP w w' a) (hs : SameOn w.heap.size x w' W) (hx : some x ≠ (Value.slice a.A4 3 a.c4).ownBlock) : Kd.C k75 W a.A4 3 rc0 :=
  (Kd.R_reads' (Kd.R_step (Kd.R_tight rfl h.r4) (w1 := W) (fun k hk hlt => hs k (h.r4.1 k hk.symm) hlt (fun e => hx (by rw [← e]; exact hk))))).2.2
theorem LineP.c3_ (h : LineP w w' a) (hs : SameOn w.heap.size x w' W) (hx : some x = (Value.slice a.A0 3 a.c0).ownBlock ∨ some x = (Value.slice a.A2 2 a.c2).ownBlock ∨ some x = (Value.slice a.A4 3 a.c4).ownBlock ∨ w'.heap.size ≤ x) : Kd.C k76 W a.A3 2 jn0 :=
  (Kd.N_reads' (Kd.N_step h.r3 (w1 := W) (fun k hk hlt => hs k hk.1 hlt (fun e => by
    subst e
    rcases hx with q | q | q | q
    · exact hk.2.1 q
    · exact hk.2.2.1 q
    · exact hk.2.2.2 q
    · omega)))).2.2
structure Own5 (w w' : World) (a : LV) (b0 b2 b3 b4 : Nat) (s0 s2 s3 s4 : Array Value) : Prop where
  e0 : a.A0 = some ⟨b0, 0, none⟩
  e2 : a.A2 = some ⟨b2, 0, none⟩
  e3 : a.A3 = some ⟨b3, 0, none⟩
  e4 : a.A4 = some ⟨b4, 0, none⟩
  k0 : w'.heap[b0]? = some (.cells s0 9 (0, 0))
  k2 : w'.heap[b2]? = some (.cells s2 3 (0, 0))
  k3 : w'.heap[b3]? = some (.cells s3 76 (0, 0))
  k4 : w'.heap[b4]? = some (.cells s4 75 (0, 0))
  n2 : w.heap.size ≤ b2 ∧ b2 < w'.heap.size
  n3 : w.heap.size ≤ b3 ∧ b3 < w'.heap.size
  n4 : w.heap.size ≤ b4 ∧ b4 < w'.heap.size
theorem LineP.own (h : LineP w w' a) : ∃ b0 b2 b3 b4 s0 s2 s3 s4, Own5 w w' a b0 b2 b3 b4 s0 s2 s3 s4 := by
  obtain ⟨b0, c0, e0, _, _, s0, k0⟩ := Kd.R_form h.r0 (by simp)
  obtain ⟨b2, c2, e2, n2, m2, s2, k2⟩ := Kd.R_form h.r2 (by simp)
  obtain ⟨b3, c3, e3, n3, m3, s3, k3⟩ := Kd.N_form h.r3 (by simp)
  obtain ⟨b4, c4, e4, n4, m4, s4, k4⟩ := Kd.R_form h.r4 (by simp)
  injection e0 with e0
  injection e2 with e2
  injection e3 with e3
  injection e4 with e4
  exact ⟨b0, b2, b3, b4, s0, s2, s3, s4, e0, e2, e3, e4, k0, k2, k3, k4, ⟨n2, m2⟩, ⟨n3, m3⟩, ⟨n4, m4⟩⟩
variable {b0 b2 b3 b4 : Nat} {s0 s2 s3 s4 : Array Value}
theorem ty_ne {b c : Nat} {s t : Array Value} {p q : TypeId} (h1 : w'.heap[b]? = some (.cells s p (0, 0))) (h2 : w'.heap[c]? = some (.cells t q (0, 0))) (h : p ≠ q) : b ≠ c := fun e => by
  subst e
  rw [h1] at h2
  injection h2 with h2
  injection h2 with _ h3
  exact h h3
theorem own_of {A : Option Addr} {b n c : Nat} (h : A = some ⟨b, 0, none⟩) : (Value.slice A n c).ownBlock = some b := by subst h; rfl
theorem zz0 : ∀ s, s ∈ L0.ls → s.size ≤ 140737488351232 := by decide
theorem zz4 : ∀ r, r ∈ L0.rc → r.f2.size ≤ 140737488351232 := by decide
theorem LineP.len (h : LineP w w' a) : 3 ≤ a.c0 ∧ 2 ≤ a.c2 ∧ 2 ≤ a.c3 ∧ 3 ≤ a.c4 := ⟨(Kd.R_reads' h.r0).2.1, (Kd.R_reads' h.r2).2.1, (Kd.N_reads' h.r3).2.1, (Kd.R_reads' h.r4).2.1⟩
theorem LineP.plain (h : LineP w w' a) (hs : SameOn w.heap.size w'.heap.size w' W) : LogAt W a L0 := by
  obtain ⟨b0, b2, b3, b4, s0, s2, s3, s4, ho⟩ := h.own
  obtain ⟨l0, l2, l3, l4⟩ := h.len
  have m0 := (Array.getElem?_eq_some_iff.1 ho.k0).1
  have := ho.n2; have := ho.n3; have := ho.n4
  refine ⟨h.c0 hs ?_, h.c2_ hs ?_, h.c3_ hs (.inr (.inr (.inr (Nat.le_refl _)))), h.c4_ hs ?_, l0, l2, l3, l4, zz0, zz4⟩
  · rw [own_of ho.e0]; intro e; cases e; omega
  · rw [own_of ho.e2]; intro e; cases e; omega
  · rw [own_of ho.e4]; intro e; cases e; omega
theorem LineP.many (h : LineP w w' a) (hs : SameOn w.heap.size w'.heap.size w' W) {g : Nat} (hg : W.heap[g]? = some (.cells #[.int .i64 0, .int .i64 0, .int .i64 0, .int .i64 0, .int .i64 0] 3 (0, 0))) : LogAt W { a with A2 := some ⟨g, 0, none⟩, c2 := 5 } { L0 with sees := [0, 0, 0, 0, 0] } := by
  have hp := h.plain hs
  exact ⟨hp.h0, C_lit W g [0, 0, 0, 0, 0] (by simp [maxLen]) hg, hp.h3, hp.h4, hp.l0, Nat.le_refl _, hp.l3, hp.l4, zz0, zz4⟩
theorem LineP.code (h : LineP w w' a) (hs : SameOn w.heap.size w'.heap.size w' W) {g : Nat} (hg : W.heap[g]? = some (.cells #[.string bsA, .string bsA] 9 (0, 0))) : LogAt W { a with A0 := some ⟨g, 0, none⟩, c0 := 2 } { L0 with ls := [bsA, bsA] } := by
  have hp := h.plain hs
  refine ⟨?_, hp.h2, hp.h3, hp.h4, Nat.le_refl _, hp.l2, hp.l3, hp.l4, (by decide), zz4⟩
  refine Kd.C_of_reads (d := ByteArray.empty) (h1 := fun _ => rfl) ⟨rfl, by simp, fun _ => ⟨_, rfl, fun j hj => ?_⟩⟩
  match j, hj with
  | 0, _ => rw [add_plain, cell_of_row W g 0 _ _ _ hg]; simp
  | 1, _ => rw [add_plain, cell_of_row W g 1 _ _ _ hg]; simp
theorem LineP.sees (h : LineP w w' a) (ho : Own5 w w' a b0 b2 b3 b4 s0 s2 s3 s4) (hs : SameOn w.heap.size b2 w' W) (hg : W.heap[b2]? = some (.cells (s2.setIfInBounds 0 (.int .i64 24)) 3 (0, 0))) : LogAt W a { L0 with sees := [24, -1] } := by
  obtain ⟨l0, l2, l3, l4⟩ := h.len
  have hC := (Kd.R_reads' h.r2).2.2
  obtain ⟨ad, e1, c0⟩ := Kd.at_int hC 0 (by omega) (by simp)
  obtain ⟨ad', e1', c1⟩ := Kd.at_int hC 1 (by omega) (by simp)
  rw [ho.e2] at e1 e1'
  cases e1
  cases e1'
  rw [add_plain, cell_of_row _ _ _ _ _ _ ho.k2] at c0 c1
  have z0 : 0 < s2.size := (Array.getElem?_eq_some_iff.1 c0).1
  refine ⟨h.c0 hs ?_, ?_, h.c3_ hs (.inr (.inl (own_of ho.e2).symm)), h.c4_ hs ?_, l0, l2, l3, l4, zz0, zz4⟩
  · rw [own_of ho.e0]; intro e; cases e; exact ty_ne ho.k0 ho.k2 (by decide) rfl
  · show Kd.C (Kd.int .i64) W a.A2 2 [24, -1]
    rw [ho.e2]
    refine Kd.C_of_reads (d := (0 : Int)) (h1 := fun _ => rfl) ⟨rfl, by simp, fun _ => ⟨_, rfl, fun j hj => ?_⟩⟩
    match j, hj with
    | 0, _ => rw [add_plain, cell_of_row _ _ _ _ _ _ hg, Array.getElem?_setIfInBounds, if_pos rfl, if_pos z0]; rfl
    | 1, _ => rw [add_plain, cell_of_row _ _ _ _ _ _ hg, Array.getElem?_setIfInBounds, if_neg (by omega)]; exact c1
  · rw [own_of ho.e4]; intro e; cases e; exact ty_ne ho.k4 ho.k2 (by decide) rfl
theorem LineP.read (h : LineP w w' a) (ho : Own5 w w' a b0 b2 b3 b4 s0 s2 s3 s4) (hs : SameOn w.heap.size b4 w' W) (hg : W.heap[b4]? = some (.cells (s4.setIfInBounds 2 (.string ⟨#[120]⟩)) 75 (0, 0))) : LogAt W a { L0 with rc := [⟨6, 0, ⟨#[120]⟩⟩, ⟨8, 1, bsB⟩, ⟨9, 0, bsA⟩] } := by
  obtain ⟨l0, l2, l3, l4⟩ := h.len
  have hC := (Kd.R_reads' h.r4).2.2
  have hold : ∀ (j i : Nat) (u : Value), j * 3 + i ≠ 2 → s4[j * 3 + i]? = some u → W.cell? ((⟨b4, 0, none⟩ : Addr).add (j * 3 + i)) = some u := fun j i u hne hu => by
    rw [add_plain, cell_of_row _ _ _ _ _ _ hg, Array.getElem?_setIfInBounds, if_neg (by omega)]; exact hu
  have hcs : ∀ (j : Nat) (hj : j < 3), ∃ u0 u1 u2, s4[j * 3 + 0]? = some u0 ∧ s4[j * 3 + 1]? = some u1 ∧ s4[j * 3 + 2]? = some u2 ∧ u0 = .int .i64 (rc0[j]'hj).f0 ∧ u1 = .int .i64 (rc0[j]'hj).f1 ∧ u2 = .string (rc0[j]'hj).f2 := fun j hj => by
    obtain ⟨ad, e, hc⟩ := hC.2.2 (by simp)
    rw [ho.e4] at e
    cases e
    obtain ⟨c, q1, q2, q3⟩ := hc j _ (List.getElem?_eq_getElem hj)
    have q4 := k75_open q2
    subst q4
    have a0 := q3 0 _ rfl
    have a1 := q3 1 _ rfl
    have a2 := q3 2 _ rfl
    rw [show k75.sz = 3 from rfl, add_plain, cell_of_row _ _ _ _ _ _ ho.k4] at a0 a1 a2
    exact ⟨_, _, _, a0, a1, a2, rfl, rfl, rfl⟩
  refine ⟨h.c0 hs ?_, h.c2_ hs ?_, h.c3_ hs (.inr (.inr (.inl (own_of ho.e4).symm))), ?_, l0, l2, l3, l4, zz0, (by decide)⟩
  · rw [own_of ho.e0]; intro e; cases e; exact ty_ne ho.k0 ho.k4 (by decide) rfl
  · rw [own_of ho.e2]; intro e; cases e; exact ty_ne ho.k2 ho.k4 (by decide) rfl
  · show Kd.C k75 W a.A4 3 [⟨6, 0, ⟨#[120]⟩⟩, ⟨8, 1, bsB⟩, ⟨9, 0, bsA⟩]
    rw [ho.e4]
    refine ⟨rfl, by omega, fun _ => ⟨_, rfl, fun j p hj => ?_⟩⟩
    match j, hj with
    | 0, hj =>
      cases hj
      obtain ⟨_, _, _, g0, g1, g2, rfl, rfl, rfl⟩ := hcs 0 (by omega)
      refine ⟨[.int .i64 6, .int .i64 0, .string ⟨#[120]⟩], rfl, k75_mk _ _, three (hold 0 0 _ (by omega) g0) (hold 0 1 _ (by omega) g1) ?_⟩
      rw [add_plain, cell_of_row _ _ _ _ _ _ hg, Array.getElem?_setIfInBounds, if_pos rfl, if_pos (Array.getElem?_eq_some_iff.1 g2).1]
    | 1, hj =>
      cases hj
      obtain ⟨_, _, _, g0, g1, g2, rfl, rfl, rfl⟩ := hcs 1 (by omega)
      exact ⟨[.int .i64 8, .int .i64 1, .string bsB], rfl, k75_mk _ _, three (hold 1 0 _ (by omega) g0) (hold 1 1 _ (by omega) g1) (hold 1 2 _ (by omega) g2)⟩
    | 2, hj =>
      cases hj
      obtain ⟨_, _, _, g0, g1, g2, rfl, rfl, rfl⟩ := hcs 2 (by omega)
      exact ⟨[.int .i64 9, .int .i64 0, .string bsA], rfl, k75_mk _ _, three (hold 2 0 _ (by omega) g0) (hold 2 1 _ (by omega) g1) (hold 2 2 _ (by omega) g2)⟩
theorem LineP.text (h : LineP w w' a) (ho : Own5 w w' a b0 b2 b3 b4 s0 s2 s3 s4) (hs : SameOn w.heap.size b3 w' W) (hg : W.heap[b3]? = some (.cells (s3.setIfInBounds 2 (.slice none 0 0)) 76 (0, 0))) : LogAt W a { L0 with jn := [⟨6, 0, []⟩, ⟨8, 1, [2]⟩] } := by
  obtain ⟨l0, l2, l3, l4⟩ := h.len
  have h3 := h.r3
  rw [ho.e3] at h3
  have hold : ∀ (j i : Nat) (u : Value), j * 3 + i ≠ 2 → w'.cell? ((⟨b3, 0, none⟩ : Addr).add (j * 3 + i)) = some u → W.cell? ((⟨b3, 0, none⟩ : Addr).add (j * 3 + i)) = some u := fun j i u hne hu => by
    rw [add_plain, cell_of_row _ _ _ _ _ _ ho.k3] at hu
    rw [add_plain, cell_of_row _ _ _ _ _ _ hg, Array.getElem?_setIfInBounds, if_neg (by omega)]; exact hu
  obtain ⟨c, q1, q2, q3⟩ := Kd.N_get h3 (⟨0, 0, []⟩ : S76) 0 (by omega) (by simp)
  obtain ⟨A5, c5, rfl, _, _⟩ := k76_openF q2
  have a0 := q3 0 _ rfl
  have a1 := q3 1 _ rfl
  have a2 := q3 2 _ rfl
  obtain ⟨d, t1, t2, t3⟩ := Kd.N_get h3 (⟨0, 0, []⟩ : S76) 1 (by omega) (by simp)
  obtain ⟨A6, c6, rfl, l6, f6⟩ := k76_openF t2
  have d0 := t3 0 _ rfl
  have d1 := t3 1 _ rfl
  have d2 := t3 2 _ rfl
  rw [show k76.sz = 3 from rfl] at a0 a1 a2 d0 d1 d2
  refine ⟨h.c0 hs ?_, h.c2_ hs ?_, ?_, h.c4_ hs ?_, l0, l2, l3, l4, zz0, zz4⟩
  · rw [own_of ho.e0]; intro e; cases e; exact ty_ne ho.k0 ho.k3 (by decide) rfl
  · rw [own_of ho.e2]; intro e; cases e; exact ty_ne ho.k2 ho.k3 (by decide) rfl
  · show Kd.C k76 W a.A3 2 [⟨6, 0, []⟩, ⟨8, 1, [2]⟩]
    rw [ho.e3]
    refine ⟨rfl, by omega, fun _ => ⟨_, rfl, fun j p hj => ?_⟩⟩
    match j, hj with
    | 0, hj =>
      cases hj
      refine ⟨[.int .i64 6, .int .i64 0, .slice none 0 0], rfl, k76_mk W ⟨6, 0, []⟩ (A2 := none) (c2 := 0) (Nat.le_refl _) (Kd.C_nil _ _), three (hold 0 0 _ (by omega) a0) (hold 0 1 _ (by omega) a1) ?_⟩
      rw [add_plain, cell_of_row _ _ _ _ _ _ ho.k3] at a2
      have z2 : 2 < s3.size := (Array.getElem?_eq_some_iff.1 a2).1
      rw [add_plain, cell_of_row _ _ _ _ _ _ hg, Array.getElem?_setIfInBounds, if_pos rfl, if_pos z2]
    | 1, hj =>
      cases hj
      exact ⟨[.int .i64 8, .int .i64 1, .slice A6 1 c6], rfl, k76_mk W ⟨8, 1, [2]⟩ l6 (Kd.F_now (Kd.F_step f6 (fun k hk hlt => hs k hk.1.1 hlt (fun e => hk.2 (by rw [e]; rfl))))), three (hold 1 0 _ (by omega) d0) (hold 1 1 _ (by omega) d1) (hold 1 2 _ (by omega) d2)⟩
  · rw [own_of ho.e4]; intro e; cases e; exact ty_ne ho.k4 ho.k3 (by decide) rfl
end
end Go.Proofs.YthgfhgjlilmieaaGreat.G
namespace Go.Proofs.YthgfhgjlilmieaaGreat.G
open Go.RowKit Go.Shelf Go.Proofs.YthgfhgjlilmieaaGreatW.PrintWords Go.Proofs.YthgfhgjlilmieaaGreatW.PrintLast Go.Proofs.YthgfhgjlilmieaaGreatW.PrintMore
open Go.Proofs.YthgfhgjlilmieaaGreat.B
set_option linter.unusedVariables false
set_option linter.unusedSimpArgs false
abbrev L1 : Lg := lineG [⟨6, 0, bsD⟩]
theorem l0_h6 : heardL L0 6 = [] := by
  have hp : partsL L0 6 = [] := by decide +kernel
  unfold heardL sortT
  rw [hp, List.mergeSort_nil]
  rfl
theorem nm_own2 (a : LV) (w : World) (h : LogAt w a L0) : Calls Tryz.prog 21 #[logV a L0, .int .i64 2] w (OwnP [] 0 w) := by
  have hc := own21_at a L0 2 w h
  rw [show askE L0 2 = 0 by decide +kernel, show ownL L0 2 = [] by decide +kernel] at hc
  exact hc
theorem nm_own3 (a : LV) (w : World) (h : LogAt w a L0) : Calls Tryz.prog 21 #[logV a L0, .int .i64 3] w (OwnP [] 2 w) := by
  have hc := own21_at a L0 3 w h
  rw [show askE L0 3 = 2 by decide +kernel, show ownL L0 3 = [] by decide +kernel] at hc
  exact hc
theorem nm_hea6 (a : LV) (w : World) (h : LogAt w a L0) : Calls Tryz.prog 26 #[logV a L0, .int .i64 6] w (LlsP [] 0 w) := by
  have hc := heard26_at a L0 6 w h
  have e1 : heaE L0 6 = 0 := by decide +kernel
  have e2 : heaL L0 6 = [] := by unfold heaL; rw [e1, if_pos rfl, l0_h6]
  rw [e1, e2] at hc
  exact hc
theorem nm_hea24 (a : LV) (w : World) (h : LogAt w a L0) : Calls Tryz.prog 26 #[logV a L0, .int .i64 24] w (LlsP [] 2 w) := by
  have hc := heard26_at a L0 24 w h
  have e1 : heaE L0 24 = 2 := by decide +kernel
  have e2 : heaL L0 24 = [] := by unfold heaL; rw [e1, if_neg (by decide)]
  rw [e1, e2] at hc
  exact hc
theorem nm_o1 : mskO L0 1 = some [1] := by
  have e : (rd_T75 L0.rc 1).f0 = 8 := rfl
  unfold mskO
  rw [e, line0_hl]
  decide +kernel
theorem nm_o0 : mskO L0 0 = none := by
  have e : (rd_T75 L0.rc 0).f0 = 6 := rfl
  unfold mskO
  rw [e, l0_h6]
  rfl
theorem nm_msk1 (a : LV) (w : World) (h : LogAt w a L0) : Calls Tryz.prog 27 #[logV a L0, .int .i64 1] w (OwnP [1] 0 w) := by
  have hc := masked27_at a L0 1 w h
  have e1 : askE L0 1 = 0 := by decide +kernel
  rw [show mskE L0 1 = 0 by unfold mskE; rw [if_pos e1, nm_o1]; rfl, show mskL L0 1 = [1] by unfold mskL; rw [if_pos e1, nm_o1]; rfl] at hc
  exact hc
theorem nm_msk0 (a : LV) (w : World) (h : LogAt w a L0) : Calls Tryz.prog 27 #[logV a L0, .int .i64 0] w (OwnP [] 7 w) := by
  have hc := masked27_at a L0 0 w h
  have e1 : askE L0 0 = 0 := by decide +kernel
  rw [show mskE L0 0 = 7 by unfold mskE; rw [if_pos e1, nm_o0]; rfl, show mskL L0 0 = [] by unfold mskL; rw [if_pos e1, nm_o0]; rfl] at hc
  exact hc
theorem nm_mskm (a : LV) (w : World) (h : LogAt w a L0) : Calls Tryz.prog 27 #[logV a L0, .int .i64 (-1)] w (OwnP [] 2 w) := by
  have hc := masked27_at a L0 (-1) w h
  have e1 : askE L0 (-1) = 2 := by decide +kernel
  rw [show mskE L0 (-1) = 2 by unfold mskE; rw [if_neg (by rw [e1]; decide), e1], show mskL L0 (-1) = [] by unfold mskL; rw [if_neg (by rw [e1]; decide)]] at hc
  exact hc
theorem nm_lve (a : LV) (w : World) (h : LogAt w a L0) : Calls Tryz.prog 32 #[logV a L0] w (OwnP [] 0 w) := by
  have hc := leave32_at a L0 w h
  rw [show leaveE L0 = 0 by decide +kernel, show leaveL L0 = [] by decide +kernel] at hc
  exact hc
theorem nm_ver (a : LV) (w : World) (h : LogAt w a L1) : Calls Tryz.prog 35 #[logV a L1] w (OwnP [] 11 w) := by
  have hc := verdicts35_at a L1 w h
  rw [show verdE L1 = 11 by decide +kernel, show verdL L1 = [] by decide +kernel] at hc
  exact hc
theorem nm_asg (a : LV) (w : World) (h : LogAt w a L1) : Calls Tryz.prog 36 #[logV a L1] w (OwnP [] 11 w) := by
  have hc := assign36_at a L1 w h
  rw [show asgE L1 = 11 by decide +kernel, show asgL L1 = [] by decide +kernel] at hc
  exact hc
def chkP (q : Int) (w : World) (e : Ending) (w' : World) : Prop := e = .returned (.int .i64 q) ∧ Below w.heap.size w w'
theorem nm_chk (a : LV) (l : Lg) (q : Int) (w : World) (h : LogAt w a l) (e : logE l = q) : Calls Tryz.prog 19 #[logV a l] w (chkP q w) := by
  have hc := checkLog_any a l w h
  rw [e] at hc
  exact hc
theorem ch_many : logE { L0 with sees := [0, 0, 0, 0, 0] } = 3 := by decide +kernel
theorem ch_code : logE { L0 with ls := [bsA, bsA] } = 1 := by decide +kernel
theorem ch_sees : logE { L0 with sees := [24, -1] } = 1 := by decide +kernel
theorem ch_text : logE { L0 with jn := [⟨6, 0, []⟩, ⟨8, 1, [2]⟩] } = 1 := by decide +kernel
theorem ch_read : logE { L0 with rc := [⟨6, 0, ⟨#[120]⟩⟩, ⟨8, 1, bsB⟩, ⟨9, 0, bsA⟩] } = 1 := by decide +kernel
theorem ch_nil : logE ⟨[], 0, [], [], []⟩ = 1 := by decide +kernel
theorem nil_at (w : World) : LogAt w ⟨none, none, none, none, 0, 0, 0, 0⟩ ⟨[], 0, [], [], []⟩ :=
  ⟨Kd.C_nil _ _, Kd.C_nil _ _, Kd.C_nil _ _, Kd.C_nil _ _, Nat.le_refl _, Nat.le_refl _, Nat.le_refl _, Nat.le_refl _, (by simp), (by simp)⟩
theorem nm_prove (a : LV) (w : World) (xs : List Int) (q : Bool) (h : LogAt w a L0) (b : Nat) (hn : xs.length ≤ maxLen) (hb : w.heap[b]? = some (.cells (xs.map (Value.int .i64)).toArray 3 (0, 0))) (e : paB L0 xs = q) : Calls Tryz.prog 45 #[logV a L0, .slice (some ⟨b, 0, none⟩) xs.length xs.length] w fun e w' => e = .returned (.bool q) ∧ Below w.heap.size w w' := by
  have hc := prove_any a L0 (some ⟨b, 0, none⟩) xs.length xs w h (C_lit w b xs hn hb)
  rw [e] at hc
  exact hc
theorem pa1 : paB L0 [0, 1, -1] = true := by decide +kernel
theorem pa2 : paB L0 [0, -1, -1] = true := by decide +kernel
theorem pa3 : paB L0 [-1, 1, -1] = false := by decide +kernel
theorem pa4 : paB L0 [0, 1] = false := by decide +kernel
theorem pa5 : paB L0 [0, 0, -1] = false := by decide +kernel
def LnP (w : World) (e : Ending) (w' : World) : Prop := ∃ A0 b2 b3 b4 c0 c2 c3 c4, e = .returned (.agg #[.slice A0 3 c0, .int .i64 1, .slice (some ⟨b2, 0, none⟩) 2 c2, .slice (some ⟨b3, 0, none⟩) 2 c3, .slice (some ⟨b4, 0, none⟩) 3 c4]) ∧ Aside0 (∃ b0 s0 s2 s3 s4, LineP w w' ⟨A0, some ⟨b2, 0, none⟩, some ⟨b3, 0, none⟩, some ⟨b4, 0, none⟩, c0, c2, c3, c4⟩ ∧ Own5 w w' ⟨A0, some ⟨b2, 0, none⟩, some ⟨b3, 0, none⟩, some ⟨b4, 0, none⟩, c0, c2, c3, c4⟩ b0 b2 b3 b4 s0 s2 s3 s4) ∧ Below w.heap.size w w'
theorem line_ln (w : World) : Calls Tryz.prog 49 #[.slice none 0 0] w (LnP w) := (line_own w).mono fun e w' ⟨a, he, hP, hb⟩ => by
  obtain ⟨b0, b2, b3, b4, s0, s2, s3, s4, ho⟩ := hP.own
  obtain ⟨A0, A2, A3, A4, c0, c2, c3, c4⟩ := a
  obtain rfl := ho.e2
  obtain rfl := ho.e3
  obtain rfl := ho.e4
  exact ⟨A0, b2, b3, b4, c0, c2, c3, c4, he, ⟨b0, s0, s2, s3, s4, hP, ho⟩, hb⟩
end Go.Proofs.YthgfhgjlilmieaaGreat.G
namespace Go.Proofs.YthgfhgjlilmieaaGreat.G
open Go.RowKit Go.Shelf Go.Proofs.YthgfhgjlilmieaaGreatW.PrintWords Go.Proofs.YthgfhgjlilmieaaGreatW.PrintLast Go.Proofs.YthgfhgjlilmieaaGreatW.PrintMore
open Go.Proofs.YthgfhgjlilmieaaGreat.B
set_option linter.unusedVariables false
set_option linter.unusedSimpArgs false
theorem row_frozen {W : World} {b i : Nat} {cs : Array Value} {t : TypeId} (h : W.heap[b]? = some (.cells cs t (0, 0))) : W.frozen? ⟨b, i, none⟩ = false := by simp [World.frozen?, h]
theorem row_cell {W : World} {b i : Nat} {cs : Array Value} {t : TypeId} (h : W.heap[b]? = some (.cells cs t (0, 0))) : W.cell? ⟨b, i, none⟩ = cs[i]? := cell_of_row W b i cs t _ h
structure Stg (y0 y5 : World) (n5 : Nat) (ex : Nat → Prop) (W : World) : Prop where
  size : n5 + 5 ≤ W.heap.size
  same : ∀ k, k < n5 → ¬ ex k → W.heap[k]? = y5.heap[k]?
  bel : Below y0.heap.size y0 W
theorem Stg.alloc {y0 y5 : World} {n5 : Nat} {ex : Nat → Prop} {W : World} (h : Stg y0 y5 n5 ex W) (hy : y0.heap.size ≤ n5) (o : Obj) : Stg y0 y5 n5 ex (W.alloc o) :=
  ⟨by have := h.size; simp; omega, fun k hk hx => (Below.heap_alloc W o k (by have := h.size; omega)).trans (h.same k hk hx), h.bel.alloc (by have := h.size; omega) o⟩
theorem Stg.set {y0 y5 : World} {n5 : Nat} {ex ex' : Nat → Prop} {W : World} (h : Stg y0 y5 n5 ex W) (hy : y0.heap.size ≤ n5) (b i : Nat) (v : Value) (hb : y0.heap.size ≤ b) (he : ∀ k, k < n5 → ¬ ex' k → ¬ ex k ∧ k ≠ b) : Stg y0 y5 n5 ex' (W.setCell ⟨b, i, none⟩ v) :=
  ⟨by have := h.size; rw [show (W.setCell ⟨b, i, none⟩ v).heap.size = W.heap.size by simp [World.setCell]]; omega, fun k hk hx => (Below.heap_setCell W ⟨b, i, none⟩ v k (he k hk hx).2).trans (h.same k hk (he k hk hx).1), h.bel.grown (grownBy_setC W b i v) h.bel.size (fun q e => by cases e; exact hb)⟩
theorem set_ne {W : World} {b i k : Nat} {v : Value} {o : Obj} (h : W.heap[k]? = some o) (hk : k ≠ b) : (W.setCell ⟨b, i, none⟩ v).heap[k]? = some o := (Below.heap_setCell W ⟨b, i, none⟩ v k hk).trans h
set_option maxRecDepth 100000 in
set_option maxHeartbeats 16000000 in
theorem maskNames_any (w : World) : Calls Tryz.prog 14 #[] w fun e w' => e = .returned (.bool true) ∧ Below w.heap.size w w' := by
  obtain ⟨l0, hL0⟩ : ∃ L, L = L0 := ⟨_, rfl⟩
  obtain ⟨l1, hL1⟩ : ∃ L, L = L1 := ⟨_, rfl⟩
  have FLN := Aside0.mk line0_any
  have FL1 := Aside0.mk line1_any
  have FLW := Aside0.mk line_ln
  have Fo2 := Aside0.mk nm_own2
  have Fo3 := Aside0.mk nm_own3
  have Fh6 := Aside0.mk nm_hea6
  have Fh24 := Aside0.mk nm_hea24
  have Fm1 := Aside0.mk nm_msk1
  have Fm0 := Aside0.mk nm_msk0
  have Fmm := Aside0.mk nm_mskm
  have Flv := Aside0.mk nm_lve
  have Fve := Aside0.mk nm_ver
  have Fas := Aside0.mk nm_asg
  have Fpr := Aside0.mk nm_prove
  have Fck := Aside0.mk nm_chk
  have HAW := Aside0.mk awake_any
  have Fp1 := Aside0.mk pa1
  have Fp2 := Aside0.mk pa2
  have Fp3 := Aside0.mk pa3
  have Fp4 := Aside0.mk pa4
  have Fp5 := Aside0.mk pa5
  change Aside0 (∀ w, Calls Tryz.prog 49 #[.slice none 0 0] w fun e w' => ∃ a, e = .returned (logV a L0) ∧ LogAt w' a L0 ∧ Below w.heap.size w w') at FLN
  change Aside0 (∀ (w : World) (b : Nat) (h : w.heap[b]? = some (.cells #[.int .i64 6, .int .i64 0, .string bsD] 75 (0, 0))), Calls Tryz.prog 49 #[.slice (some ⟨b, 0, none⟩) 1 1] w fun e w' => ∃ a, e = .returned (logV a L1) ∧ LogAt w' a L1 ∧ Below w.heap.size w w') at FL1
  rw [← hL0] at FLN Fo2 Fo3 Fh6 Fh24 Fm1 Fm0 Fmm Flv Fpr Fp1 Fp2 Fp3 Fp4 Fp5
  rw [← hL1] at FL1 Fve Fas
  clear hL0 hL1
  have HB := Aside0.mk (Below.refl w.heap.size w)
  have hu75 := Tryz.underlying75
  have hu76 := Tryz.underlying76
  have hu38 := Tryz.underlying38
  have hu34 := Tryz.underlying34
  have hu25 := Tryz.underlying25
  have hu3 := Tryz.underlying3
  have hu22 := Tryz.underlying22
  have hu9 := Tryz.underlying9
  have hu35 := Tryz.underlying35
  have hu36 := Tryz.underlying36
  go_enter Tryz.func14, Tryz.ntmps14
  go_wp2_with (fail)
  refine (FLN.out _).mono ?_
  rintro e x1 ⟨a, rfl, hl, hb⟩
  have HL := Aside0.mk hl
  clear hl
  have HB := Aside0.mk (below_next HB.out hb)
  clear hb
  go_wp2_with (fail)
  refine (Fo2.out _ _ HL.out).mono ?_
  rintro e x2 ⟨Ax1, cx1, rfl, hlc, hC, hb⟩
  clear hlc hC HL
  have HB := Aside0.mk (below_next HB.out hb)
  clear hb
  go_wp2_with (fail)
  refine (FLN.out _).mono ?_
  rintro e x3 ⟨a, rfl, hl, hb⟩
  have HL := Aside0.mk hl
  clear hl
  have HB := Aside0.mk (below_next HB.out hb)
  clear hb
  go_wp2_with (fail)
  refine (Fh6.out _ _ HL.out).mono ?_
  rintro e x4 ⟨Ax3, cx3, rfl, hlc, hC, hb⟩
  clear hlc hC HL
  have HB := Aside0.mk (below_next HB.out hb)
  clear hb
  go_wp2_with (fail)
  refine (FLN.out _).mono ?_
  rintro e x5 ⟨a, rfl, hl, hb⟩
  have HL := Aside0.mk hl
  clear hl
  have HB := Aside0.mk (below_next HB.out hb)
  clear hb
  go_wp2_with (fail)
  refine (Fm1.out _ _ HL.out).mono ?_
  rintro e x6 ⟨At, ct, rfl, hlc, hC, hb⟩
  have Ht := Aside0.mk hC
  have HCt := Aside0.mk hlc
  clear hlc hC HL
  have HB := Aside0.mk (below_next HB.out hb)
  clear hb
  go_wp2_with (fail)
  refine (FLN.out _).mono ?_
  rintro e x7 ⟨a, rfl, hl, hb⟩
  have HL := Aside0.mk hl
  clear hl
  have HB := Aside0.mk (below_next HB.out hb)
  have Ht := Aside0.mk (Kd.C_below Ht.out hb)
  clear hb
  go_wp2_with (fail)
  refine (Flv.out _ _ HL.out).mono ?_
  rintro e x8 ⟨Ax7, cx7, rfl, hlc, hC, hb⟩
  clear hlc hC HL
  have HB := Aside0.mk (below_next HB.out hb)
  have Ht := Aside0.mk (Kd.C_below Ht.out hb)
  clear hb
  go_wp2_with (fail)
  have hb := (Below.refl x8.heap.size x8).alloc (Nat.le_refl _) (.cells #[.int .i64 1] 3)
  have HB := Aside0.mk (below_next HB.out hb)
  have Ht := Aside0.mk (Kd.C_below Ht.out hb)
  clear hb
  refine (same_lit At ct [1] _ _ Ht.out HCt.out (by simp [maxLen]) (alloc_new _ _)).mono ?_
  rintro e x9 ⟨rfl, hb⟩
  have HB := Aside0.mk (below_next HB.out hb)
  clear hb Ht
  go_wp2_with (fail)
  refine (FLN.out _).mono ?_
  rintro e x10 ⟨a, rfl, hl, hb⟩
  have HL := Aside0.mk hl
  clear hl
  have HB := Aside0.mk (below_next HB.out hb)
  clear hb
  go_wp2_with (fail)
  have hb := (Below.refl x10.heap.size x10).alloc (Nat.le_refl _) (.cells #[.int .i64 0, .int .i64 1, .int .i64 (-1)] 3)
  have HB := Aside0.mk (below_next HB.out hb)
  have HL := Aside0.mk (LogAt.below HL.out hb)
  clear hb
  refine (Fpr.out _ _ [0, 1, -1] _ HL.out _ (by simp [maxLen]) (alloc_new _ _) Fp1.out).mono ?_
  rintro e x11 ⟨rfl, hb⟩
  have HB := Aside0.mk (below_next HB.out hb)
  clear hb HL
  go_wp2_with (fail)
  refine (FLN.out _).mono ?_
  rintro e x12 ⟨a, rfl, hl, hb⟩
  have HL := Aside0.mk hl
  clear hl
  have HB := Aside0.mk (below_next HB.out hb)
  clear hb
  go_wp2_with (fail)
  have hb := (Below.refl x12.heap.size x12).alloc (Nat.le_refl _) (.cells #[.int .i64 0, .int .i64 (-1), .int .i64 (-1)] 3)
  have HB := Aside0.mk (below_next HB.out hb)
  have HL := Aside0.mk (LogAt.below HL.out hb)
  clear hb
  refine (Fpr.out _ _ [0, -1, -1] _ HL.out _ (by simp [maxLen]) (alloc_new _ _) Fp2.out).mono ?_
  rintro e x13 ⟨rfl, hb⟩
  have HB := Aside0.mk (below_next HB.out hb)
  clear hb HL
  go_wp2_with (fail)
  refine (FLN.out _).mono ?_
  rintro e x14 ⟨a, rfl, hl, hb⟩
  have HL := Aside0.mk hl
  clear hl
  have HB := Aside0.mk (below_next HB.out hb)
  clear hb
  go_wp2_with (fail)
  have hb := (Below.refl x14.heap.size x14).alloc (Nat.le_refl _) (.cells #[.int .i64 (-1), .int .i64 1, .int .i64 (-1)] 3)
  have HB := Aside0.mk (below_next HB.out hb)
  have HL := Aside0.mk (LogAt.below HL.out hb)
  clear hb
  refine (Fpr.out _ _ [-1, 1, -1] _ HL.out _ (by simp [maxLen]) (alloc_new _ _) Fp3.out).mono ?_
  rintro e x15 ⟨rfl, hb⟩
  have HB := Aside0.mk (below_next HB.out hb)
  clear hb HL
  go_wp2_with (fail)
  refine (FLN.out _).mono ?_
  rintro e x16 ⟨a, rfl, hl, hb⟩
  have HL := Aside0.mk hl
  clear hl
  have HB := Aside0.mk (below_next HB.out hb)
  clear hb
  go_wp2_with (fail)
  have hb := (Below.refl x16.heap.size x16).alloc (Nat.le_refl _) (.cells #[.int .i64 0, .int .i64 1] 3)
  have HB := Aside0.mk (below_next HB.out hb)
  have HL := Aside0.mk (LogAt.below HL.out hb)
  clear hb
  refine (Fpr.out _ _ [0, 1] _ HL.out _ (by simp [maxLen]) (alloc_new _ _) Fp4.out).mono ?_
  rintro e x17 ⟨rfl, hb⟩
  have HB := Aside0.mk (below_next HB.out hb)
  clear hb HL
  go_wp2_with (fail)
  refine (FLN.out _).mono ?_
  rintro e x18 ⟨a, rfl, hl, hb⟩
  have HL := Aside0.mk hl
  clear hl
  have HB := Aside0.mk (below_next HB.out hb)
  clear hb
  go_wp2_with (fail)
  have hb := (Below.refl x18.heap.size x18).alloc (Nat.le_refl _) (.cells #[.int .i64 0, .int .i64 0, .int .i64 (-1)] 3)
  have HB := Aside0.mk (below_next HB.out hb)
  have HL := Aside0.mk (LogAt.below HL.out hb)
  clear hb
  refine (Fpr.out _ _ [0, 0, -1] _ HL.out _ (by simp [maxLen]) (alloc_new _ _) Fp5.out).mono ?_
  rintro e x19 ⟨rfl, hb⟩
  have HB := Aside0.mk (below_next HB.out hb)
  clear hb HL
  go_wp2_with (fail)
  have hb := (Below.refl x19.heap.size x19).alloc (Nat.le_refl _) (.cells #[.int .i64 6, .int .i64 0, .string bsD] 75)
  have HB := Aside0.mk (below_next HB.out hb)
  clear hb
  refine (FL1.out _ _ (alloc_new _ _)).mono ?_
  rintro e x20 ⟨a9, rfl, hl, hb⟩
  have HL9 := Aside0.mk hl
  clear hl
  have HB := Aside0.mk (below_next HB.out hb)
  clear hb
  go_upto_region 8 with (fail)
  have hb := (Below.refl x20.heap.size x20).alloc (Nat.le_refl _) (.cells #[.slice a9.A0 l1.ls.length a9.c0, .int .i64 l1.errs, .slice a9.A2 l1.sees.length a9.c2, .slice a9.A3 l1.jn.length a9.c3, .slice a9.A4 l1.rc.length a9.c4] 38)
  have HB := Aside0.mk (below_next HB.out hb)
  have HL9 := Aside0.mk (LogAt.below HL9.out hb)
  clear hb
  have hk9 := alloc_new x20 (.cells #[.slice a9.A0 l1.ls.length a9.c0, .int .i64 l1.errs, .slice a9.A2 l1.sees.length a9.c2, .slice a9.A3 l1.jn.length a9.c3, .slice a9.A4 l1.rc.length a9.c4] 38)
  have hg9 : x20.heap.size < (x20.alloc (.cells #[.slice a9.A0 l1.ls.length a9.c0, .int .i64 l1.errs, .slice a9.A2 l1.sees.length a9.c2, .slice a9.A3 l1.jn.length a9.c3, .slice a9.A4 l1.rc.length a9.c4] 38)).heap.size := by simp
  generalize x20.alloc (.cells #[.slice a9.A0 l1.ls.length a9.c0, .int .i64 l1.errs, .slice a9.A2 l1.sees.length a9.c2, .slice a9.A3 l1.jn.length a9.c3, .slice a9.A4 l1.rc.length a9.c4] 38) = y0 at *
  generalize x20.heap.size = g9 at *
  have HK9 := Aside0.mk hk9
  have HG9 := Aside0.mk hg9
  clear hk9 hg9
  have HB00 := HB
  have HK90 := HK9
  have HL90 := HL9
  have HG90 := HG9
  have HYY := Aside0.mk (Below.refl y0.heap.size y0)
  clear HK9 HL9 HG9
  go_wp2_with (fail)
  refine (FLW.out _).mono ?_
  rintro e y1 ⟨A01, b21, b31, b41, c01, c21, c31, c41, rfl, HP1, hb⟩
  have HB := Aside0.mk (below_next HB.out hb)
  have HY1 := Aside0.mk hb
  have HYY := Aside0.mk (below_next HYY.out hb)
  have HZ1 := Aside0.mk (Below.refl y1.heap.size y1)
  clear hb
  go_wp2_with (fail)
  refine (FLW.out _).mono ?_
  rintro e y2 ⟨A02, b22, b32, b42, c02, c22, c32, c42, rfl, HP2, hb⟩
  have HB := Aside0.mk (below_next HB.out hb)
  have HY2 := Aside0.mk hb
  have HYY := Aside0.mk (below_next HYY.out hb)
  have HZ1 := Aside0.mk (below_next HZ1.out hb)
  have HZ2 := Aside0.mk (Below.refl y2.heap.size y2)
  clear hb
  go_wp2_with (fail)
  refine (FLW.out _).mono ?_
  rintro e y3 ⟨A03, b23, b33, b43, c03, c23, c33, c43, rfl, HP3, hb⟩
  have HB := Aside0.mk (below_next HB.out hb)
  have HY3 := Aside0.mk hb
  have HYY := Aside0.mk (below_next HYY.out hb)
  have HZ1 := Aside0.mk (below_next HZ1.out hb)
  have HZ2 := Aside0.mk (below_next HZ2.out hb)
  have HZ3 := Aside0.mk (Below.refl y3.heap.size y3)
  clear hb
  go_wp2_with (fail)
  refine (FLW.out _).mono ?_
  rintro e y4 ⟨A04, b24, b34, b44, c04, c24, c34, c44, rfl, HP4, hb⟩
  have HB := Aside0.mk (below_next HB.out hb)
  have HY4 := Aside0.mk hb
  have HYY := Aside0.mk (below_next HYY.out hb)
  have HZ1 := Aside0.mk (below_next HZ1.out hb)
  have HZ2 := Aside0.mk (below_next HZ2.out hb)
  have HZ3 := Aside0.mk (below_next HZ3.out hb)
  have HZ4 := Aside0.mk (Below.refl y4.heap.size y4)
  clear hb
  go_wp2_with (fail)
  refine (FLW.out _).mono ?_
  rintro e y5 ⟨A05, b25, b35, b45, c05, c25, c35, c45, rfl, HP5, hb⟩
  have HB := Aside0.mk (below_next HB.out hb)
  have HY5 := Aside0.mk hb
  have HYY := Aside0.mk (below_next HYY.out hb)
  have HZ1 := Aside0.mk (below_next HZ1.out hb)
  have HZ2 := Aside0.mk (below_next HZ2.out hb)
  have HZ3 := Aside0.mk (below_next HZ3.out hb)
  have HZ4 := Aside0.mk (below_next HZ4.out hb)
  have HZ5 := Aside0.mk (Below.refl y5.heap.size y5)
  clear hb
  have hy05 : y0.heap.size ≤ y5.heap.size := HYY.out.size
  have HY05 := Aside0.mk hy05
  clear hy05
  go_upto_region 9 with (fail)
  have q1 : (((((y5.alloc (.cells #[.slice A01 3 c01, .int .i64 1, .slice (some ⟨b21, 0, none⟩) 2 c21, .slice (some ⟨b31, 0, none⟩) 2 c31, .slice (some ⟨b41, 0, none⟩) 3 c41] 38)).alloc (.cells #[.slice A02 3 c02, .int .i64 1, .slice (some ⟨b22, 0, none⟩) 2 c22, .slice (some ⟨b32, 0, none⟩) 2 c32, .slice (some ⟨b42, 0, none⟩) 3 c42] 38)).alloc (.cells #[.slice A03 3 c03, .int .i64 1, .slice (some ⟨b23, 0, none⟩) 2 c23, .slice (some ⟨b33, 0, none⟩) 2 c33, .slice (some ⟨b43, 0, none⟩) 3 c43] 38)).alloc (.cells #[.slice A04 3 c04, .int .i64 1, .slice (some ⟨b24, 0, none⟩) 2 c24, .slice (some ⟨b34, 0, none⟩) 2 c34, .slice (some ⟨b44, 0, none⟩) 3 c44] 38)).alloc (.cells #[.slice A05 3 c05, .int .i64 1, .slice (some ⟨b25, 0, none⟩) 2 c25, .slice (some ⟨b35, 0, none⟩) 2 c35, .slice (some ⟨b45, 0, none⟩) 3 c45] 38)).heap[y5.heap.size]? = some (.cells #[.slice A01 3 c01, .int .i64 1, .slice (some ⟨b21, 0, none⟩) 2 c21, .slice (some ⟨b31, 0, none⟩) 2 c31, .slice (some ⟨b41, 0, none⟩) 3 c41] 38 (0, 0)) := heap_old (heap_old (heap_old (heap_old (alloc_new _ _) _) _) _) _
  have q2 : (((((y5.alloc (.cells #[.slice A01 3 c01, .int .i64 1, .slice (some ⟨b21, 0, none⟩) 2 c21, .slice (some ⟨b31, 0, none⟩) 2 c31, .slice (some ⟨b41, 0, none⟩) 3 c41] 38)).alloc (.cells #[.slice A02 3 c02, .int .i64 1, .slice (some ⟨b22, 0, none⟩) 2 c22, .slice (some ⟨b32, 0, none⟩) 2 c32, .slice (some ⟨b42, 0, none⟩) 3 c42] 38)).alloc (.cells #[.slice A03 3 c03, .int .i64 1, .slice (some ⟨b23, 0, none⟩) 2 c23, .slice (some ⟨b33, 0, none⟩) 2 c33, .slice (some ⟨b43, 0, none⟩) 3 c43] 38)).alloc (.cells #[.slice A04 3 c04, .int .i64 1, .slice (some ⟨b24, 0, none⟩) 2 c24, .slice (some ⟨b34, 0, none⟩) 2 c34, .slice (some ⟨b44, 0, none⟩) 3 c44] 38)).alloc (.cells #[.slice A05 3 c05, .int .i64 1, .slice (some ⟨b25, 0, none⟩) 2 c25, .slice (some ⟨b35, 0, none⟩) 2 c35, .slice (some ⟨b45, 0, none⟩) 3 c45] 38)).heap[y5.heap.size + 1]? = some (.cells #[.slice A02 3 c02, .int .i64 1, .slice (some ⟨b22, 0, none⟩) 2 c22, .slice (some ⟨b32, 0, none⟩) 2 c32, .slice (some ⟨b42, 0, none⟩) 3 c42] 38 (0, 0)) := heap_old (heap_old (heap_old (alloc_at _ _ (by simp)) _) _) _
  have q3 : (((((y5.alloc (.cells #[.slice A01 3 c01, .int .i64 1, .slice (some ⟨b21, 0, none⟩) 2 c21, .slice (some ⟨b31, 0, none⟩) 2 c31, .slice (some ⟨b41, 0, none⟩) 3 c41] 38)).alloc (.cells #[.slice A02 3 c02, .int .i64 1, .slice (some ⟨b22, 0, none⟩) 2 c22, .slice (some ⟨b32, 0, none⟩) 2 c32, .slice (some ⟨b42, 0, none⟩) 3 c42] 38)).alloc (.cells #[.slice A03 3 c03, .int .i64 1, .slice (some ⟨b23, 0, none⟩) 2 c23, .slice (some ⟨b33, 0, none⟩) 2 c33, .slice (some ⟨b43, 0, none⟩) 3 c43] 38)).alloc (.cells #[.slice A04 3 c04, .int .i64 1, .slice (some ⟨b24, 0, none⟩) 2 c24, .slice (some ⟨b34, 0, none⟩) 2 c34, .slice (some ⟨b44, 0, none⟩) 3 c44] 38)).alloc (.cells #[.slice A05 3 c05, .int .i64 1, .slice (some ⟨b25, 0, none⟩) 2 c25, .slice (some ⟨b35, 0, none⟩) 2 c35, .slice (some ⟨b45, 0, none⟩) 3 c45] 38)).heap[y5.heap.size + 1 + 1]? = some (.cells #[.slice A03 3 c03, .int .i64 1, .slice (some ⟨b23, 0, none⟩) 2 c23, .slice (some ⟨b33, 0, none⟩) 2 c33, .slice (some ⟨b43, 0, none⟩) 3 c43] 38 (0, 0)) := heap_old (heap_old (alloc_at _ _ (by simp)) _) _
  have q4 : (((((y5.alloc (.cells #[.slice A01 3 c01, .int .i64 1, .slice (some ⟨b21, 0, none⟩) 2 c21, .slice (some ⟨b31, 0, none⟩) 2 c31, .slice (some ⟨b41, 0, none⟩) 3 c41] 38)).alloc (.cells #[.slice A02 3 c02, .int .i64 1, .slice (some ⟨b22, 0, none⟩) 2 c22, .slice (some ⟨b32, 0, none⟩) 2 c32, .slice (some ⟨b42, 0, none⟩) 3 c42] 38)).alloc (.cells #[.slice A03 3 c03, .int .i64 1, .slice (some ⟨b23, 0, none⟩) 2 c23, .slice (some ⟨b33, 0, none⟩) 2 c33, .slice (some ⟨b43, 0, none⟩) 3 c43] 38)).alloc (.cells #[.slice A04 3 c04, .int .i64 1, .slice (some ⟨b24, 0, none⟩) 2 c24, .slice (some ⟨b34, 0, none⟩) 2 c34, .slice (some ⟨b44, 0, none⟩) 3 c44] 38)).alloc (.cells #[.slice A05 3 c05, .int .i64 1, .slice (some ⟨b25, 0, none⟩) 2 c25, .slice (some ⟨b35, 0, none⟩) 2 c35, .slice (some ⟨b45, 0, none⟩) 3 c45] 38)).heap[y5.heap.size + 1 + 1 + 1]? = some (.cells #[.slice A04 3 c04, .int .i64 1, .slice (some ⟨b24, 0, none⟩) 2 c24, .slice (some ⟨b34, 0, none⟩) 2 c34, .slice (some ⟨b44, 0, none⟩) 3 c44] 38 (0, 0)) := heap_old (alloc_at _ _ (by simp)) _
  have q5 : (((((y5.alloc (.cells #[.slice A01 3 c01, .int .i64 1, .slice (some ⟨b21, 0, none⟩) 2 c21, .slice (some ⟨b31, 0, none⟩) 2 c31, .slice (some ⟨b41, 0, none⟩) 3 c41] 38)).alloc (.cells #[.slice A02 3 c02, .int .i64 1, .slice (some ⟨b22, 0, none⟩) 2 c22, .slice (some ⟨b32, 0, none⟩) 2 c32, .slice (some ⟨b42, 0, none⟩) 3 c42] 38)).alloc (.cells #[.slice A03 3 c03, .int .i64 1, .slice (some ⟨b23, 0, none⟩) 2 c23, .slice (some ⟨b33, 0, none⟩) 2 c33, .slice (some ⟨b43, 0, none⟩) 3 c43] 38)).alloc (.cells #[.slice A04 3 c04, .int .i64 1, .slice (some ⟨b24, 0, none⟩) 2 c24, .slice (some ⟨b34, 0, none⟩) 2 c34, .slice (some ⟨b44, 0, none⟩) 3 c44] 38)).alloc (.cells #[.slice A05 3 c05, .int .i64 1, .slice (some ⟨b25, 0, none⟩) 2 c25, .slice (some ⟨b35, 0, none⟩) 2 c35, .slice (some ⟨b45, 0, none⟩) 3 c45] 38)).heap[y5.heap.size + 1 + 1 + 1 + 1]? = some (.cells #[.slice A05 3 c05, .int .i64 1, .slice (some ⟨b25, 0, none⟩) 2 c25, .slice (some ⟨b35, 0, none⟩) 2 c35, .slice (some ⟨b45, 0, none⟩) 3 c45] 38 (0, 0)) := alloc_at _ _ (by simp)
  have st : Stg y0 y5 y5.heap.size (fun _ => False) (((((y5.alloc (.cells #[.slice A01 3 c01, .int .i64 1, .slice (some ⟨b21, 0, none⟩) 2 c21, .slice (some ⟨b31, 0, none⟩) 2 c31, .slice (some ⟨b41, 0, none⟩) 3 c41] 38)).alloc (.cells #[.slice A02 3 c02, .int .i64 1, .slice (some ⟨b22, 0, none⟩) 2 c22, .slice (some ⟨b32, 0, none⟩) 2 c32, .slice (some ⟨b42, 0, none⟩) 3 c42] 38)).alloc (.cells #[.slice A03 3 c03, .int .i64 1, .slice (some ⟨b23, 0, none⟩) 2 c23, .slice (some ⟨b33, 0, none⟩) 2 c33, .slice (some ⟨b43, 0, none⟩) 3 c43] 38)).alloc (.cells #[.slice A04 3 c04, .int .i64 1, .slice (some ⟨b24, 0, none⟩) 2 c24, .slice (some ⟨b34, 0, none⟩) 2 c34, .slice (some ⟨b44, 0, none⟩) 3 c44] 38)).alloc (.cells #[.slice A05 3 c05, .int .i64 1, .slice (some ⟨b25, 0, none⟩) 2 c25, .slice (some ⟨b35, 0, none⟩) 2 c35, .slice (some ⟨b45, 0, none⟩) 3 c45] 38)) := by
    have h5 := HY05.out
    refine ⟨by simp, fun k hk _ => ?_, ?_⟩
    · rw [Below.heap_alloc _ _ k (by simp; omega), Below.heap_alloc _ _ k (by simp; omega), Below.heap_alloc _ _ k (by simp; omega), Below.heap_alloc _ _ k (by simp; omega), Below.heap_alloc _ _ k (by omega)]
    · exact ((((HYY.out.alloc h5 _).alloc (by simp; omega) _).alloc (by simp; omega) _).alloc (by simp; omega) _).alloc (by simp; omega) _
  generalize (((((y5.alloc (.cells #[.slice A01 3 c01, .int .i64 1, .slice (some ⟨b21, 0, none⟩) 2 c21, .slice (some ⟨b31, 0, none⟩) 2 c31, .slice (some ⟨b41, 0, none⟩) 3 c41] 38)).alloc (.cells #[.slice A02 3 c02, .int .i64 1, .slice (some ⟨b22, 0, none⟩) 2 c22, .slice (some ⟨b32, 0, none⟩) 2 c32, .slice (some ⟨b42, 0, none⟩) 3 c42] 38)).alloc (.cells #[.slice A03 3 c03, .int .i64 1, .slice (some ⟨b23, 0, none⟩) 2 c23, .slice (some ⟨b33, 0, none⟩) 2 c33, .slice (some ⟨b43, 0, none⟩) 3 c43] 38)).alloc (.cells #[.slice A04 3 c04, .int .i64 1, .slice (some ⟨b24, 0, none⟩) 2 c24, .slice (some ⟨b34, 0, none⟩) 2 c34, .slice (some ⟨b44, 0, none⟩) 3 c44] 38)).alloc (.cells #[.slice A05 3 c05, .int .i64 1, .slice (some ⟨b25, 0, none⟩) 2 c25, .slice (some ⟨b35, 0, none⟩) 2 c35, .slice (some ⟨b45, 0, none⟩) 3 c45] 38)) = W8 at *
  generalize hn5 : y5.heap.size = n5 at *
  have HN5 := Aside0.mk hn5
  clear hn5
  have Q1 := Aside0.mk q1
  clear q1
  have Q2 := Aside0.mk q2
  clear q2
  have Q3 := Aside0.mk q3
  clear q3
  have Q4 := Aside0.mk q4
  clear q4
  have Q5 := Aside0.mk q5
  clear q5
  have ST := Aside0.mk st
  clear st
  obtain ⟨_, _, s23, s33, s43, hp3, ho3⟩ := HP3.out
  have hlt3 : b23 < n5 := by
    have h1 := ho3.n2.2
    have h4_ := HY4.out.size
    have h5_ := HY5.out.size
    have h9 := HN5.out
    omega
  have hrow3 : y5.heap[b23]? = some (.cells s23 3 (0, 0)) := (HY5.out.block b23 (by have h1 := ho3.n2.2; have h4_ := HY4.out.size; omega)).trans ((HY4.out.block b23 (by have h1 := ho3.n2.2;  omega)).trans (ho3.k2))
  have hv3 : s23[0]? = some (.int .i64 5) := by
    obtain ⟨ad, e1, c0⟩ := Kd.at_int (Kd.R_reads' hp3.r2).2.2 0 (by omega) (by simp)
    cases e1
    rw [add_plain, row_cell ho3.k2] at c0
    exact c0
  have HP3_ := Aside0.mk hp3
  have HO3_ := Aside0.mk ho3
  have HR3 := Aside0.mk hrow3
  have HV3 := Aside0.mk hv3
  have HLT3 := Aside0.mk hlt3
  clear hp3 ho3 hrow3 hv3 hlt3
  obtain ⟨_, _, s24, s34, s44, hp4, ho4⟩ := HP4.out
  have hlt4 : b34 < n5 := by
    have h1 := ho4.n3.2
    have h5_ := HY5.out.size
    have h9 := HN5.out
    omega
  have hrow4 : y5.heap[b34]? = some (.cells s34 76 (0, 0)) := (HY5.out.block b34 (by have h1 := ho4.n3.2;  omega)).trans (ho4.k3)
  obtain ⟨u4, hv4⟩ : ∃ u, s34[2]? = some u := by
    obtain ⟨c, q1, q2, q3⟩ := Kd.N_get hp4.r3 (⟨0, 0, []⟩ : S76) 0 (by omega) (by simp)
    obtain ⟨A5, c5, rfl, _, _⟩ := k76_openF q2
    have a2 := q3 2 _ rfl
    rw [show k76.sz = 3 from rfl, add_plain, row_cell ho4.k3] at a2
    exact ⟨_, a2⟩
  have HP4_ := Aside0.mk hp4
  have HO4_ := Aside0.mk ho4
  have HR4 := Aside0.mk hrow4
  have HV4 := Aside0.mk hv4
  have HLT4 := Aside0.mk hlt4
  clear hp4 ho4 hrow4 hv4 hlt4
  obtain ⟨_, _, s25, s35, s45, hp5, ho5⟩ := HP5.out
  have hlt5 : b45 < n5 := by
    have h1 := ho5.n4.2
    have h9 := HN5.out
    omega
  have hrow5 : y5.heap[b45]? = some (.cells s45 75 (0, 0)) := ho5.k4
  obtain ⟨u5, hv5⟩ : ∃ u, s45[2]? = some u := by
    obtain ⟨ad, e, hc⟩ := (Kd.R_reads' hp5.r4).2.2.2.2 (by simp)
    cases e
    obtain ⟨c, q1, q2, q3⟩ := hc 0 _ rfl
    have q4 := k75_open q2
    subst q4
    have a2 := q3 2 _ rfl
    rw [show k75.sz = 3 from rfl, add_plain, row_cell ho5.k4] at a2
    exact ⟨_, a2⟩
  have HP5_ := Aside0.mk hp5
  have HO5_ := Aside0.mk ho5
  have HR5 := Aside0.mk hrow5
  have HV5 := Aside0.mk hv5
  have HLT5 := Aside0.mk hlt5
  clear hp5 ho5 hrow5 hv5 hlt5
  have hmk : ∀ W : World, (Instr.makeSlice 25 (.int .i64 5) (.int .i64 5)).run Tryz.prog W = .ok (.slice (some ⟨W.heap.size, 0, none⟩) 5 5) (W.alloc (.cells #[.int .i64 0, .int .i64 0, .int .i64 0, .int .i64 0, .int .i64 0] 3)) := fun W => by kernel_rfl
  have f1 : ∀ o, (W8.alloc o).cell? ⟨n5, 2, none⟩ = some (.slice (some ⟨b21, 0, none⟩) 2 c21) := fun o => by rw [row_cell (heap_old Q1.out o)]; rfl
  have z1 : ∀ o, (W8.alloc o).frozen? ⟨n5, 2, none⟩ = false := fun o => row_frozen (heap_old Q1.out o)
  go_upto_region 10 with (fail)
  clear f1 z1
  have q1 : ((W8.alloc (.cells #[.int .i64 0, .int .i64 0, .int .i64 0, .int .i64 0, .int .i64 0] 3)).setCell ⟨n5, 2, none⟩ (.slice (some ⟨W8.heap.size, 0, none⟩) 5 5)).heap[n5]? = some (.cells #[.slice A01 3 c01, .int .i64 1, .slice (some ⟨W8.heap.size, 0, none⟩) 5 5, .slice (some ⟨b31, 0, none⟩) 2 c31, .slice (some ⟨b41, 0, none⟩) 3 c41] 38 (0, 0)) := (heap_setCell_at (heap_old Q1.out _)).trans rfl
  have q2 : ((W8.alloc (.cells #[.int .i64 0, .int .i64 0, .int .i64 0, .int .i64 0, .int .i64 0] 3)).setCell ⟨n5, 2, none⟩ (.slice (some ⟨W8.heap.size, 0, none⟩) 5 5)).heap[n5 + 1]? = some (.cells #[.slice A02 3 c02, .int .i64 1, .slice (some ⟨b22, 0, none⟩) 2 c22, .slice (some ⟨b32, 0, none⟩) 2 c32, .slice (some ⟨b42, 0, none⟩) 3 c42] 38 (0, 0)) := set_ne (heap_old Q2.out _) (by omega)
  have q3 : ((W8.alloc (.cells #[.int .i64 0, .int .i64 0, .int .i64 0, .int .i64 0, .int .i64 0] 3)).setCell ⟨n5, 2, none⟩ (.slice (some ⟨W8.heap.size, 0, none⟩) 5 5)).heap[n5 + 1 + 1]? = some (.cells #[.slice A03 3 c03, .int .i64 1, .slice (some ⟨b23, 0, none⟩) 2 c23, .slice (some ⟨b33, 0, none⟩) 2 c33, .slice (some ⟨b43, 0, none⟩) 3 c43] 38 (0, 0)) := set_ne (heap_old Q3.out _) (by omega)
  have q4 : ((W8.alloc (.cells #[.int .i64 0, .int .i64 0, .int .i64 0, .int .i64 0, .int .i64 0] 3)).setCell ⟨n5, 2, none⟩ (.slice (some ⟨W8.heap.size, 0, none⟩) 5 5)).heap[n5 + 1 + 1 + 1]? = some (.cells #[.slice A04 3 c04, .int .i64 1, .slice (some ⟨b24, 0, none⟩) 2 c24, .slice (some ⟨b34, 0, none⟩) 2 c34, .slice (some ⟨b44, 0, none⟩) 3 c44] 38 (0, 0)) := set_ne (heap_old Q4.out _) (by omega)
  have q5 : ((W8.alloc (.cells #[.int .i64 0, .int .i64 0, .int .i64 0, .int .i64 0, .int .i64 0] 3)).setCell ⟨n5, 2, none⟩ (.slice (some ⟨W8.heap.size, 0, none⟩) 5 5)).heap[n5 + 1 + 1 + 1 + 1]? = some (.cells #[.slice A05 3 c05, .int .i64 1, .slice (some ⟨b25, 0, none⟩) 2 c25, .slice (some ⟨b35, 0, none⟩) 2 c35, .slice (some ⟨b45, 0, none⟩) 3 c45] 38 (0, 0)) := set_ne (heap_old Q5.out _) (by omega)
  have qn : ((W8.alloc (.cells #[.int .i64 0, .int .i64 0, .int .i64 0, .int .i64 0, .int .i64 0] 3)).setCell ⟨n5, 2, none⟩ (.slice (some ⟨W8.heap.size, 0, none⟩) 5 5)).heap[W8.heap.size]? = some (.cells #[.int .i64 0, .int .i64 0, .int .i64 0, .int .i64 0, .int .i64 0] 3 (0, 0)) := set_ne (alloc_new _ _) (by have := ST.out.size; omega)
  have hge : n5 + 5 ≤ W8.heap.size := ST.out.size
  have st := (ST.out.alloc (by have := HN5.out; have := HY05.out; omega) (.cells #[.int .i64 0, .int .i64 0, .int .i64 0, .int .i64 0, .int .i64 0] 3)).set (ex' := fun _ => False) (by have := HN5.out; have := HY05.out; omega) (n5) 2 (.slice (some ⟨W8.heap.size, 0, none⟩) 5 5) (by have := HN5.out; have := HY05.out; omega) (fun k hk _ => ⟨id, by omega⟩)
  have hgl : W8.heap.size < ((W8.alloc (.cells #[.int .i64 0, .int .i64 0, .int .i64 0, .int .i64 0, .int .i64 0] 3)).setCell ⟨n5, 2, none⟩ (.slice (some ⟨W8.heap.size, 0, none⟩) 5 5)).heap.size := by simp [World.setCell]
  generalize ((W8.alloc (.cells #[.int .i64 0, .int .i64 0, .int .i64 0, .int .i64 0, .int .i64 0] 3)).setCell ⟨n5, 2, none⟩ (.slice (some ⟨W8.heap.size, 0, none⟩) 5 5)) = W9 at *
  generalize W8.heap.size = g6 at *
  have Q1 := Aside0.mk q1
  clear q1
  have Q2 := Aside0.mk q2
  clear q2
  have Q3 := Aside0.mk q3
  clear q3
  have Q4 := Aside0.mk q4
  clear q4
  have Q5 := Aside0.mk q5
  clear q5
  have HGEg6 := Aside0.mk hge
  clear hge
  have QNg6 := Aside0.mk qn
  have HGLg6 := Aside0.mk hgl
  have ST := Aside0.mk st
  clear qn st hgl
  clear hmk
  have f1 : ∀ o, (W9.alloc o).cell? ⟨n5 + 1, 0, none⟩ = some (.slice A02 3 c02) := fun o => by rw [row_cell (heap_old Q2.out o)]; rfl
  have z1 : ∀ o, (W9.alloc o).frozen? ⟨n5 + 1, 0, none⟩ = false := fun o => row_frozen (heap_old Q2.out o)
  go_upto_region 11 with (fail)
  clear f1 z1
  have q1 : ((W9.alloc (.cells #[.string ⟨#[46]⟩, .string ⟨#[46]⟩] 9)).setCell ⟨n5 + 1, 0, none⟩ (.slice (some ⟨W9.heap.size, 0, none⟩) 2 2)).heap[n5]? = some (.cells #[.slice A01 3 c01, .int .i64 1, .slice (some ⟨g6, 0, none⟩) 5 5, .slice (some ⟨b31, 0, none⟩) 2 c31, .slice (some ⟨b41, 0, none⟩) 3 c41] 38 (0, 0)) := set_ne (heap_old Q1.out _) (by omega)
  have q2 : ((W9.alloc (.cells #[.string ⟨#[46]⟩, .string ⟨#[46]⟩] 9)).setCell ⟨n5 + 1, 0, none⟩ (.slice (some ⟨W9.heap.size, 0, none⟩) 2 2)).heap[n5 + 1]? = some (.cells #[.slice (some ⟨W9.heap.size, 0, none⟩) 2 2, .int .i64 1, .slice (some ⟨b22, 0, none⟩) 2 c22, .slice (some ⟨b32, 0, none⟩) 2 c32, .slice (some ⟨b42, 0, none⟩) 3 c42] 38 (0, 0)) := (heap_setCell_at (heap_old Q2.out _)).trans rfl
  have q3 : ((W9.alloc (.cells #[.string ⟨#[46]⟩, .string ⟨#[46]⟩] 9)).setCell ⟨n5 + 1, 0, none⟩ (.slice (some ⟨W9.heap.size, 0, none⟩) 2 2)).heap[n5 + 1 + 1]? = some (.cells #[.slice A03 3 c03, .int .i64 1, .slice (some ⟨b23, 0, none⟩) 2 c23, .slice (some ⟨b33, 0, none⟩) 2 c33, .slice (some ⟨b43, 0, none⟩) 3 c43] 38 (0, 0)) := set_ne (heap_old Q3.out _) (by omega)
  have q4 : ((W9.alloc (.cells #[.string ⟨#[46]⟩, .string ⟨#[46]⟩] 9)).setCell ⟨n5 + 1, 0, none⟩ (.slice (some ⟨W9.heap.size, 0, none⟩) 2 2)).heap[n5 + 1 + 1 + 1]? = some (.cells #[.slice A04 3 c04, .int .i64 1, .slice (some ⟨b24, 0, none⟩) 2 c24, .slice (some ⟨b34, 0, none⟩) 2 c34, .slice (some ⟨b44, 0, none⟩) 3 c44] 38 (0, 0)) := set_ne (heap_old Q4.out _) (by omega)
  have q5 : ((W9.alloc (.cells #[.string ⟨#[46]⟩, .string ⟨#[46]⟩] 9)).setCell ⟨n5 + 1, 0, none⟩ (.slice (some ⟨W9.heap.size, 0, none⟩) 2 2)).heap[n5 + 1 + 1 + 1 + 1]? = some (.cells #[.slice A05 3 c05, .int .i64 1, .slice (some ⟨b25, 0, none⟩) 2 c25, .slice (some ⟨b35, 0, none⟩) 2 c35, .slice (some ⟨b45, 0, none⟩) 3 c45] 38 (0, 0)) := set_ne (heap_old Q5.out _) (by omega)
  have qn : ((W9.alloc (.cells #[.string ⟨#[46]⟩, .string ⟨#[46]⟩] 9)).setCell ⟨n5 + 1, 0, none⟩ (.slice (some ⟨W9.heap.size, 0, none⟩) 2 2)).heap[W9.heap.size]? = some (.cells #[.string ⟨#[46]⟩, .string ⟨#[46]⟩] 9 (0, 0)) := set_ne (alloc_new _ _) (by have := ST.out.size; omega)
  have ng6 := set_ne (b := n5 + 1) (i := 0) (v := .slice (some ⟨W9.heap.size, 0, none⟩) 2 2) (heap_old QNg6.out (.cells #[.string ⟨#[46]⟩, .string ⟨#[46]⟩] 9)) (by have := HGEg6.out; omega)
  have hge : n5 + 5 ≤ W9.heap.size := ST.out.size
  have st := (ST.out.alloc (by have := HN5.out; have := HY05.out; omega) (.cells #[.string ⟨#[46]⟩, .string ⟨#[46]⟩] 9)).set (ex' := fun _ => False) (by have := HN5.out; have := HY05.out; omega) (n5 + 1) 0 (.slice (some ⟨W9.heap.size, 0, none⟩) 2 2) (by have := HN5.out; have := HY05.out; omega) (fun k hk _ => ⟨id, by omega⟩)
  have hgl : W9.heap.size < ((W9.alloc (.cells #[.string ⟨#[46]⟩, .string ⟨#[46]⟩] 9)).setCell ⟨n5 + 1, 0, none⟩ (.slice (some ⟨W9.heap.size, 0, none⟩) 2 2)).heap.size := by simp [World.setCell]
  generalize ((W9.alloc (.cells #[.string ⟨#[46]⟩, .string ⟨#[46]⟩] 9)).setCell ⟨n5 + 1, 0, none⟩ (.slice (some ⟨W9.heap.size, 0, none⟩) 2 2)) = W10 at *
  generalize W9.heap.size = g7 at *
  have Q1 := Aside0.mk q1
  clear q1
  have Q2 := Aside0.mk q2
  clear q2
  have Q3 := Aside0.mk q3
  clear q3
  have Q4 := Aside0.mk q4
  clear q4
  have Q5 := Aside0.mk q5
  clear q5
  have QNg6 := Aside0.mk ng6
  skip
  clear ng6
  have HGEg7 := Aside0.mk hge
  clear hge
  have QNg7 := Aside0.mk qn
  have HGLg7 := Aside0.mk hgl
  have ST := Aside0.mk st
  clear qn st hgl
  have hne : b23 ≠ b34 ∧ b23 ≠ b45 ∧ b34 ≠ b45 ∧ y2.heap.size ≤ b23 ∧ y3.heap.size ≤ b34 ∧ y4.heap.size ≤ b45 ∧ y0.heap.size ≤ b23 ∧ y0.heap.size ≤ b34 ∧ y0.heap.size ≤ b45 ∧ b23 < y3.heap.size ∧ b34 < y4.heap.size := by
    have h1 := HO3_.out.n2
    have h2 := HO4_.out.n3
    have h3 := HO5_.out.n4
    have k1 := HY1.out.size
    have k2 := HY2.out.size
    have k3 := HY3.out.size
    have k4 := HY4.out.size
    omega
  have HNE := Aside0.mk hne
  clear hne
  have hlt := HLT3.out
  have hr : W10.heap[b23]? = some (.cells s23 3 (0, 0)) := (ST.out.same b23 hlt (by have := HNE.out; exact id)).trans HR3.out
  have f1 : W10.cell? ⟨n5 + 1 + 1, 2, none⟩ = some (.slice (some ⟨b23, 0, none⟩) 2 c23) := by rw [row_cell Q3.out]; rfl
  have f2 : W10.cell? ⟨b23, 0, none⟩ = some (.int .i64 5) := by rw [row_cell hr]; exact HV3.out
  have f3 : W10.frozen? ⟨b23, 0, none⟩ = false := row_frozen hr
  have HRW := Aside0.mk hr
  clear hr hlt
  go_upto_region 12 with (fail)
  clear f1 f2 f3
  have q1 : (W10.setCell ⟨b23, 0, none⟩ (.int .i64 24)).heap[n5]? = some (.cells #[.slice A01 3 c01, .int .i64 1, .slice (some ⟨g6, 0, none⟩) 5 5, .slice (some ⟨b31, 0, none⟩) 2 c31, .slice (some ⟨b41, 0, none⟩) 3 c41] 38 (0, 0)) := set_ne Q1.out (by have := HLT3.out; omega)
  have q2 : (W10.setCell ⟨b23, 0, none⟩ (.int .i64 24)).heap[n5 + 1]? = some (.cells #[.slice (some ⟨g7, 0, none⟩) 2 2, .int .i64 1, .slice (some ⟨b22, 0, none⟩) 2 c22, .slice (some ⟨b32, 0, none⟩) 2 c32, .slice (some ⟨b42, 0, none⟩) 3 c42] 38 (0, 0)) := set_ne Q2.out (by have := HLT3.out; omega)
  have q3 : (W10.setCell ⟨b23, 0, none⟩ (.int .i64 24)).heap[n5 + 1 + 1]? = some (.cells #[.slice A03 3 c03, .int .i64 1, .slice (some ⟨b23, 0, none⟩) 2 c23, .slice (some ⟨b33, 0, none⟩) 2 c33, .slice (some ⟨b43, 0, none⟩) 3 c43] 38 (0, 0)) := set_ne Q3.out (by have := HLT3.out; omega)
  have q4 : (W10.setCell ⟨b23, 0, none⟩ (.int .i64 24)).heap[n5 + 1 + 1 + 1]? = some (.cells #[.slice A04 3 c04, .int .i64 1, .slice (some ⟨b24, 0, none⟩) 2 c24, .slice (some ⟨b34, 0, none⟩) 2 c34, .slice (some ⟨b44, 0, none⟩) 3 c44] 38 (0, 0)) := set_ne Q4.out (by have := HLT3.out; omega)
  have q5 : (W10.setCell ⟨b23, 0, none⟩ (.int .i64 24)).heap[n5 + 1 + 1 + 1 + 1]? = some (.cells #[.slice A05 3 c05, .int .i64 1, .slice (some ⟨b25, 0, none⟩) 2 c25, .slice (some ⟨b35, 0, none⟩) 2 c35, .slice (some ⟨b45, 0, none⟩) 3 c45] 38 (0, 0)) := set_ne Q5.out (by have := HLT3.out; omega)
  have ng6 := set_ne (b := b23) (i := 0) (v := .int .i64 24) QNg6.out (by have := HGEg6.out; have := HLT3.out; omega)
  have ng7 := set_ne (b := b23) (i := 0) (v := .int .i64 24) QNg7.out (by have := HGEg7.out; have := HLT3.out; omega)
  have r3 := heap_setCell_at (i := 0) (v := .int .i64 24) HRW.out
  have st := ST.out.set (ex' := fun k => k = b23) (by have := HN5.out; have := HY05.out; omega) b23 0 (.int .i64 24) (by have := HNE.out; omega) (fun k hk hx => ⟨id, by omega⟩)
  generalize (W10.setCell ⟨b23, 0, none⟩ (.int .i64 24)) = W11 at *
  have Q1 := Aside0.mk q1
  clear q1
  have Q2 := Aside0.mk q2
  clear q2
  have Q3 := Aside0.mk q3
  clear q3
  have Q4 := Aside0.mk q4
  clear q4
  have Q5 := Aside0.mk q5
  clear q5
  have QNg6 := Aside0.mk ng6
  clear ng6
  have QNg7 := Aside0.mk ng7
  clear ng7
  have RB3 := Aside0.mk r3
  have ST := Aside0.mk st
  clear r3 st HRW
  have hlt := HLT4.out
  have hr : W11.heap[b34]? = some (.cells s34 76 (0, 0)) := (ST.out.same b34 hlt (by have := HNE.out; omega)).trans HR4.out
  have f1 : W11.cell? ⟨n5 + 1 + 1 + 1, 3, none⟩ = some (.slice (some ⟨b34, 0, none⟩) 2 c34) := by rw [row_cell Q4.out]; rfl
  have f2 : W11.cell? ⟨b34, 2, none⟩ = some (u4) := by rw [row_cell hr]; exact HV4.out
  have f3 : W11.frozen? ⟨b34, 2, none⟩ = false := row_frozen hr
  have HRW := Aside0.mk hr
  clear hr hlt
  go_upto_region 13 with (fail)
  clear f1 f2 f3
  have q1 : (W11.setCell ⟨b34, 2, none⟩ (.slice none 0 0)).heap[n5]? = some (.cells #[.slice A01 3 c01, .int .i64 1, .slice (some ⟨g6, 0, none⟩) 5 5, .slice (some ⟨b31, 0, none⟩) 2 c31, .slice (some ⟨b41, 0, none⟩) 3 c41] 38 (0, 0)) := set_ne Q1.out (by have := HLT4.out; omega)
  have q2 : (W11.setCell ⟨b34, 2, none⟩ (.slice none 0 0)).heap[n5 + 1]? = some (.cells #[.slice (some ⟨g7, 0, none⟩) 2 2, .int .i64 1, .slice (some ⟨b22, 0, none⟩) 2 c22, .slice (some ⟨b32, 0, none⟩) 2 c32, .slice (some ⟨b42, 0, none⟩) 3 c42] 38 (0, 0)) := set_ne Q2.out (by have := HLT4.out; omega)
  have q3 : (W11.setCell ⟨b34, 2, none⟩ (.slice none 0 0)).heap[n5 + 1 + 1]? = some (.cells #[.slice A03 3 c03, .int .i64 1, .slice (some ⟨b23, 0, none⟩) 2 c23, .slice (some ⟨b33, 0, none⟩) 2 c33, .slice (some ⟨b43, 0, none⟩) 3 c43] 38 (0, 0)) := set_ne Q3.out (by have := HLT4.out; omega)
  have q4 : (W11.setCell ⟨b34, 2, none⟩ (.slice none 0 0)).heap[n5 + 1 + 1 + 1]? = some (.cells #[.slice A04 3 c04, .int .i64 1, .slice (some ⟨b24, 0, none⟩) 2 c24, .slice (some ⟨b34, 0, none⟩) 2 c34, .slice (some ⟨b44, 0, none⟩) 3 c44] 38 (0, 0)) := set_ne Q4.out (by have := HLT4.out; omega)
  have q5 : (W11.setCell ⟨b34, 2, none⟩ (.slice none 0 0)).heap[n5 + 1 + 1 + 1 + 1]? = some (.cells #[.slice A05 3 c05, .int .i64 1, .slice (some ⟨b25, 0, none⟩) 2 c25, .slice (some ⟨b35, 0, none⟩) 2 c35, .slice (some ⟨b45, 0, none⟩) 3 c45] 38 (0, 0)) := set_ne Q5.out (by have := HLT4.out; omega)
  have ng6 := set_ne (b := b34) (i := 2) (v := .slice none 0 0) QNg6.out (by have := HGEg6.out; have := HLT4.out; omega)
  have ng7 := set_ne (b := b34) (i := 2) (v := .slice none 0 0) QNg7.out (by have := HGEg7.out; have := HLT4.out; omega)
  have r3 := set_ne (b := b34) (i := 2) (v := .slice none 0 0) RB3.out (by have := HNE.out; omega)
  have r4 := heap_setCell_at (i := 2) (v := .slice none 0 0) HRW.out
  have st := ST.out.set (ex' := fun k => k = b23 ∨ k = b34) (by have := HN5.out; have := HY05.out; omega) b34 2 (.slice none 0 0) (by have := HNE.out; omega) (fun k hk hx => ⟨by omega, by omega⟩)
  generalize (W11.setCell ⟨b34, 2, none⟩ (.slice none 0 0)) = W12 at *
  have Q1 := Aside0.mk q1
  clear q1
  have Q2 := Aside0.mk q2
  clear q2
  have Q3 := Aside0.mk q3
  clear q3
  have Q4 := Aside0.mk q4
  clear q4
  have Q5 := Aside0.mk q5
  clear q5
  have QNg6 := Aside0.mk ng6
  clear ng6
  have QNg7 := Aside0.mk ng7
  clear ng7
  have RB3 := Aside0.mk r3
  clear r3
  have RB4 := Aside0.mk r4
  have ST := Aside0.mk st
  clear r4 st HRW
  have hlt := HLT5.out
  have hr : W12.heap[b45]? = some (.cells s45 75 (0, 0)) := (ST.out.same b45 hlt (by have := HNE.out; omega)).trans HR5.out
  have f1 : W12.cell? ⟨n5 + 1 + 1 + 1 + 1, 4, none⟩ = some (.slice (some ⟨b45, 0, none⟩) 3 c45) := by rw [row_cell Q5.out]; rfl
  have f2 : W12.cell? ⟨b45, 2, none⟩ = some (u5) := by rw [row_cell hr]; exact HV5.out
  have f3 : W12.frozen? ⟨b45, 2, none⟩ = false := row_frozen hr
  have HRW := Aside0.mk hr
  clear hr hlt
  go_upto_region 14 with (fail)
  clear f1 f2 f3
  have q1 : (W12.setCell ⟨b45, 2, none⟩ (.string ⟨#[120]⟩)).heap[n5]? = some (.cells #[.slice A01 3 c01, .int .i64 1, .slice (some ⟨g6, 0, none⟩) 5 5, .slice (some ⟨b31, 0, none⟩) 2 c31, .slice (some ⟨b41, 0, none⟩) 3 c41] 38 (0, 0)) := set_ne Q1.out (by have := HLT5.out; omega)
  have q2 : (W12.setCell ⟨b45, 2, none⟩ (.string ⟨#[120]⟩)).heap[n5 + 1]? = some (.cells #[.slice (some ⟨g7, 0, none⟩) 2 2, .int .i64 1, .slice (some ⟨b22, 0, none⟩) 2 c22, .slice (some ⟨b32, 0, none⟩) 2 c32, .slice (some ⟨b42, 0, none⟩) 3 c42] 38 (0, 0)) := set_ne Q2.out (by have := HLT5.out; omega)
  have q3 : (W12.setCell ⟨b45, 2, none⟩ (.string ⟨#[120]⟩)).heap[n5 + 1 + 1]? = some (.cells #[.slice A03 3 c03, .int .i64 1, .slice (some ⟨b23, 0, none⟩) 2 c23, .slice (some ⟨b33, 0, none⟩) 2 c33, .slice (some ⟨b43, 0, none⟩) 3 c43] 38 (0, 0)) := set_ne Q3.out (by have := HLT5.out; omega)
  have q4 : (W12.setCell ⟨b45, 2, none⟩ (.string ⟨#[120]⟩)).heap[n5 + 1 + 1 + 1]? = some (.cells #[.slice A04 3 c04, .int .i64 1, .slice (some ⟨b24, 0, none⟩) 2 c24, .slice (some ⟨b34, 0, none⟩) 2 c34, .slice (some ⟨b44, 0, none⟩) 3 c44] 38 (0, 0)) := set_ne Q4.out (by have := HLT5.out; omega)
  have q5 : (W12.setCell ⟨b45, 2, none⟩ (.string ⟨#[120]⟩)).heap[n5 + 1 + 1 + 1 + 1]? = some (.cells #[.slice A05 3 c05, .int .i64 1, .slice (some ⟨b25, 0, none⟩) 2 c25, .slice (some ⟨b35, 0, none⟩) 2 c35, .slice (some ⟨b45, 0, none⟩) 3 c45] 38 (0, 0)) := set_ne Q5.out (by have := HLT5.out; omega)
  have ng6 := set_ne (b := b45) (i := 2) (v := .string ⟨#[120]⟩) QNg6.out (by have := HGEg6.out; have := HLT5.out; omega)
  have ng7 := set_ne (b := b45) (i := 2) (v := .string ⟨#[120]⟩) QNg7.out (by have := HGEg7.out; have := HLT5.out; omega)
  have r3 := set_ne (b := b45) (i := 2) (v := .string ⟨#[120]⟩) RB3.out (by have := HNE.out; omega)
  have r4 := set_ne (b := b45) (i := 2) (v := .string ⟨#[120]⟩) RB4.out (by have := HNE.out; omega)
  have r5 := heap_setCell_at (i := 2) (v := .string ⟨#[120]⟩) HRW.out
  have st := ST.out.set (ex' := fun k => k = b23 ∨ k = b34 ∨ k = b45) (by have := HN5.out; have := HY05.out; omega) b45 2 (.string ⟨#[120]⟩) (by have := HNE.out; omega) (fun k hk hx => ⟨by omega, by omega⟩)
  generalize (W12.setCell ⟨b45, 2, none⟩ (.string ⟨#[120]⟩)) = W13 at *
  have Q1 := Aside0.mk q1
  clear q1
  have Q2 := Aside0.mk q2
  clear q2
  have Q3 := Aside0.mk q3
  clear q3
  have Q4 := Aside0.mk q4
  clear q4
  have Q5 := Aside0.mk q5
  clear q5
  have QNg6 := Aside0.mk ng6
  clear ng6
  have QNg7 := Aside0.mk ng7
  clear ng7
  have RB3 := Aside0.mk r3
  clear r3
  have RB4 := Aside0.mk r4
  clear r4
  have RB5 := Aside0.mk r5
  have ST := Aside0.mk st
  clear r5 st HRW
  obtain ⟨_, _, _, _, _, hp1, _⟩ := HP1.out
  obtain ⟨_, _, _, _, _, hp2, _⟩ := HP2.out
  have hs1 : SameOn y0.heap.size y1.heap.size y1 W13 := fun k h1 h2 h3 => (ST.out.same k (by have := HZ1.out.size; have := HN5.out; omega) (by have := HNE.out; have := HY1.out.size; have := HY2.out.size; have := HY3.out.size; have := HY4.out.size; have := HY5.out.size; omega)).trans (HZ1.out.block k h2)
  have hs2 : SameOn y1.heap.size y2.heap.size y2 W13 := fun k h1 h2 h3 => (ST.out.same k (by have := HZ2.out.size; have := HN5.out; omega) (by have := HNE.out; have := HY1.out.size; have := HY2.out.size; have := HY3.out.size; have := HY4.out.size; have := HY5.out.size; omega)).trans (HZ2.out.block k h2)
  have hs3 : SameOn y2.heap.size b23 y3 W13 := fun k h1 h2 h3 => (ST.out.same k (by have := HZ3.out.size; have := HN5.out; omega) (by have := HNE.out; have := HY1.out.size; have := HY2.out.size; have := HY3.out.size; have := HY4.out.size; have := HY5.out.size; omega)).trans (HZ3.out.block k h2)
  have hs4 : SameOn y3.heap.size b34 y4 W13 := fun k h1 h2 h3 => (ST.out.same k (by have := HZ4.out.size; have := HN5.out; omega) (by have := HNE.out; have := HY1.out.size; have := HY2.out.size; have := HY3.out.size; have := HY4.out.size; have := HY5.out.size; omega)).trans (HZ4.out.block k h2)
  have hs5 : SameOn y4.heap.size b45 y5 W13 := fun k h1 h2 h3 => (ST.out.same k (by have := HZ5.out.size; have := HN5.out; omega) (by have := HNE.out; have := HY1.out.size; have := HY2.out.size; have := HY3.out.size; have := HY4.out.size; have := HY5.out.size; omega)).trans (rfl)
  have hm1 := hp1.many hs1 QNg6.out
  have hm2 := hp2.code hs2 QNg7.out
  have hm3 := HP3_.out.sees HO3_.out hs3 RB3.out
  have hm4 := HP4_.out.text HO4_.out hs4 RB4.out
  have hm5 := HP5_.out.read HO5_.out hs5 RB5.out
  have HM1 : Aside0 (∀ W, Below W13.heap.size W13 W → Calls Tryz.prog 19 #[.agg #[.slice A01 3 c01, .int .i64 1, .slice (some ⟨g6, 0, none⟩) 5 5, .slice (some ⟨b31, 0, none⟩) 2 c31, .slice (some ⟨b41, 0, none⟩) 3 c41]] W (chkP 3 W)) := ⟨fun W hb => by
    have hq := nm_chk _ _ 3 W (hm1.below hb) ch_many
    exact hq⟩
  have HC1 : Aside0 (∀ W, Below W13.heap.size W13 W → W.heap[n5]? = some (.cells #[.slice A01 3 c01, .int .i64 1, .slice (some ⟨g6, 0, none⟩) 5 5, .slice (some ⟨b31, 0, none⟩) 2 c31, .slice (some ⟨b41, 0, none⟩) 3 c41] 38 (0, 0))) := ⟨fun W hb => (hb.block _ (by have := ST.out.size; omega)).trans Q1.out⟩
  have HM2 : Aside0 (∀ W, Below W13.heap.size W13 W → Calls Tryz.prog 19 #[.agg #[.slice (some ⟨g7, 0, none⟩) 2 2, .int .i64 1, .slice (some ⟨b22, 0, none⟩) 2 c22, .slice (some ⟨b32, 0, none⟩) 2 c32, .slice (some ⟨b42, 0, none⟩) 3 c42]] W (chkP 1 W)) := ⟨fun W hb => by
    have hq := nm_chk _ _ 1 W (hm2.below hb) ch_code
    exact hq⟩
  have HC2 : Aside0 (∀ W, Below W13.heap.size W13 W → W.heap[n5 + 1]? = some (.cells #[.slice (some ⟨g7, 0, none⟩) 2 2, .int .i64 1, .slice (some ⟨b22, 0, none⟩) 2 c22, .slice (some ⟨b32, 0, none⟩) 2 c32, .slice (some ⟨b42, 0, none⟩) 3 c42] 38 (0, 0))) := ⟨fun W hb => (hb.block _ (by have := ST.out.size; omega)).trans Q2.out⟩
  have HM3 : Aside0 (∀ W, Below W13.heap.size W13 W → Calls Tryz.prog 19 #[.agg #[.slice A03 3 c03, .int .i64 1, .slice (some ⟨b23, 0, none⟩) 2 c23, .slice (some ⟨b33, 0, none⟩) 2 c33, .slice (some ⟨b43, 0, none⟩) 3 c43]] W (chkP 1 W)) := ⟨fun W hb => by
    have hq := nm_chk _ _ 1 W (hm3.below hb) ch_sees
    exact hq⟩
  have HC3 : Aside0 (∀ W, Below W13.heap.size W13 W → W.heap[n5 + 1 + 1]? = some (.cells #[.slice A03 3 c03, .int .i64 1, .slice (some ⟨b23, 0, none⟩) 2 c23, .slice (some ⟨b33, 0, none⟩) 2 c33, .slice (some ⟨b43, 0, none⟩) 3 c43] 38 (0, 0))) := ⟨fun W hb => (hb.block _ (by have := ST.out.size; omega)).trans Q3.out⟩
  have HM4 : Aside0 (∀ W, Below W13.heap.size W13 W → Calls Tryz.prog 19 #[.agg #[.slice A04 3 c04, .int .i64 1, .slice (some ⟨b24, 0, none⟩) 2 c24, .slice (some ⟨b34, 0, none⟩) 2 c34, .slice (some ⟨b44, 0, none⟩) 3 c44]] W (chkP 1 W)) := ⟨fun W hb => by
    have hq := nm_chk _ _ 1 W (hm4.below hb) ch_text
    exact hq⟩
  have HC4 : Aside0 (∀ W, Below W13.heap.size W13 W → W.heap[n5 + 1 + 1 + 1]? = some (.cells #[.slice A04 3 c04, .int .i64 1, .slice (some ⟨b24, 0, none⟩) 2 c24, .slice (some ⟨b34, 0, none⟩) 2 c34, .slice (some ⟨b44, 0, none⟩) 3 c44] 38 (0, 0))) := ⟨fun W hb => (hb.block _ (by have := ST.out.size; omega)).trans Q4.out⟩
  have HM5 : Aside0 (∀ W, Below W13.heap.size W13 W → Calls Tryz.prog 19 #[.agg #[.slice A05 3 c05, .int .i64 1, .slice (some ⟨b25, 0, none⟩) 2 c25, .slice (some ⟨b35, 0, none⟩) 2 c35, .slice (some ⟨b45, 0, none⟩) 3 c45]] W (chkP 1 W)) := ⟨fun W hb => by
    have hq := nm_chk _ _ 1 W (hm5.below hb) ch_read
    exact hq⟩
  have HC5 : Aside0 (∀ W, Below W13.heap.size W13 W → W.heap[n5 + 1 + 1 + 1 + 1]? = some (.cells #[.slice A05 3 c05, .int .i64 1, .slice (some ⟨b25, 0, none⟩) 2 c25, .slice (some ⟨b35, 0, none⟩) 2 c35, .slice (some ⟨b45, 0, none⟩) 3 c45] 38 (0, 0))) := ⟨fun W hb => (hb.block _ (by have := ST.out.size; omega)).trans Q5.out⟩
  have HC9 : Aside0 (∀ W, Below W13.heap.size W13 W → W.heap[g9]? = some (.cells #[.slice a9.A0 l1.ls.length a9.c0, .int .i64 l1.errs, .slice a9.A2 l1.sees.length a9.c2, .slice a9.A3 l1.jn.length a9.c3, .slice a9.A4 l1.rc.length a9.c4] 38)) := ⟨fun W hb => (hb.block _ (by have := ST.out.bel.size; have := HG90.out; omega)).trans ((ST.out.bel.block _ HG90.out).trans HK90.out)⟩
  have HL9 : Aside0 (∀ W, Below W13.heap.size W13 W → LogAt W a9 l1) := ⟨fun W hb => HL90.out.below (below_next ST.out.bel hb)⟩
  have HBW : Aside0 (∀ W, Below W13.heap.size W13 W → Below w.heap.size w W) := ⟨fun W hb => below_next (below_next HB00.out ST.out.bel) hb⟩
  clear hp1 hp2 hs1 hs2 hs3 hs4 hs5 hm1 hm2 hm3 hm4 hm5
  clear HB HB00 HK90 HL90 HG90 HYY HY05 HN5 Q1 Q2 Q3 Q4 Q5 QNg6 QNg7 HGEg6 HGEg7 HGLg6 HGLg7 RB3 RB4 RB5 ST HNE HZ1 HZ2 HZ3 HZ4 HZ5 HY1 HY2 HY3 HY4 HY5 HP1 HP2 HP3 HP4 HP5 HP3_ HP4_ HP5_ HO3_ HO4_ HO5_ HR3 HR4 HR5 HV3 HV4 HV5 HLT3 HLT4 HLT5
  have HB := Aside0.mk (Below.refl W13.heap.size W13)
  have hrow := HC9.out _ HB.out
  have d0 := (row_cell (i := 0) hrow).trans (show _ = some (.slice a9.A0 l1.ls.length a9.c0) from rfl)
  have d1 := (row_cell (i := 1) hrow).trans (show _ = some (.int .i64 l1.errs) from rfl)
  have d2 := (row_cell (i := 2) hrow).trans (show _ = some (.slice a9.A2 l1.sees.length a9.c2) from rfl)
  have d3 := (row_cell (i := 3) hrow).trans (show _ = some (.slice a9.A3 l1.jn.length a9.c3) from rfl)
  have d4 := (row_cell (i := 4) hrow).trans (show _ = some (.slice a9.A4 l1.rc.length a9.c4) from rfl)
  clear hrow
  go_wp2_with (fail)
  refine (Fve.out a9 _ (HL9.out _ HB.out)).mono ?_
  rintro e x21 ⟨Az21, cz21, rfl, hlc, hC, hb⟩
  clear hlc hC
  have HB := Aside0.mk (below_next HB.out hb)
  clear hb d0 d1 d2 d3 d4
  have hrow := HC9.out _ HB.out
  have d0 := (row_cell (i := 0) hrow).trans (show _ = some (.slice a9.A0 l1.ls.length a9.c0) from rfl)
  have d1 := (row_cell (i := 1) hrow).trans (show _ = some (.int .i64 l1.errs) from rfl)
  have d2 := (row_cell (i := 2) hrow).trans (show _ = some (.slice a9.A2 l1.sees.length a9.c2) from rfl)
  have d3 := (row_cell (i := 3) hrow).trans (show _ = some (.slice a9.A3 l1.jn.length a9.c3) from rfl)
  have d4 := (row_cell (i := 4) hrow).trans (show _ = some (.slice a9.A4 l1.rc.length a9.c4) from rfl)
  clear hrow
  go_wp2_with (fail)
  refine (Fas.out a9 _ (HL9.out _ HB.out)).mono ?_
  rintro e x22 ⟨Az22, cz22, rfl, hlc, hC, hb⟩
  clear hlc hC
  have HB := Aside0.mk (below_next HB.out hb)
  clear hb d0 d1 d2 d3 d4
  go_wp2_with (fail)
  refine (FLN.out _).mono ?_
  rintro e x23 ⟨a, rfl, hl, hb⟩
  have HL := Aside0.mk hl
  clear hl
  have HB := Aside0.mk (below_next HB.out hb)
  clear hb
  go_wp2_with (fail)
  refine (Fm0.out _ _ HL.out).mono ?_
  rintro e x24 ⟨Az24, cz24, rfl, hlc, hC, hb⟩
  clear hlc hC HL
  have HB := Aside0.mk (below_next HB.out hb)
  clear hb
  go_wp2_with (fail)
  refine (FLN.out _).mono ?_
  rintro e x25 ⟨a, rfl, hl, hb⟩
  have HL := Aside0.mk hl
  clear hl
  have HB := Aside0.mk (below_next HB.out hb)
  clear hb
  go_wp2_with (fail)
  refine (Fo3.out _ _ HL.out).mono ?_
  rintro e x26 ⟨Az26, cz26, rfl, hlc, hC, hb⟩
  clear hlc hC HL
  have HB := Aside0.mk (below_next HB.out hb)
  clear hb
  go_wp2_with (fail)
  refine (FLN.out _).mono ?_
  rintro e x27 ⟨a, rfl, hl, hb⟩
  have HL := Aside0.mk hl
  clear hl
  have HB := Aside0.mk (below_next HB.out hb)
  clear hb
  go_wp2_with (fail)
  refine (Fh24.out _ _ HL.out).mono ?_
  rintro e x28 ⟨Az28, cz28, rfl, hlc, hC, hb⟩
  clear hlc hC HL
  have HB := Aside0.mk (below_next HB.out hb)
  clear hb
  go_wp2_with (fail)
  refine (FLN.out _).mono ?_
  rintro e x29 ⟨a, rfl, hl, hb⟩
  have HL := Aside0.mk hl
  clear hl
  have HB := Aside0.mk (below_next HB.out hb)
  clear hb
  go_wp2_with (fail)
  refine (Fmm.out _ _ HL.out).mono ?_
  rintro e x30 ⟨Az30, cz30, rfl, hlc, hC, hb⟩
  clear hlc hC HL
  have HB := Aside0.mk (below_next HB.out hb)
  clear hb
  have hrow := HC1.out _ HB.out
  have d0 := (row_cell (i := 0) hrow).trans (show _ = some (.slice A01 3 c01) from rfl)
  have d1 := (row_cell (i := 1) hrow).trans (show _ = some (.int .i64 1) from rfl)
  have d2 := (row_cell (i := 2) hrow).trans (show _ = some (.slice (some ⟨g6, 0, none⟩) 5 5) from rfl)
  have d3 := (row_cell (i := 3) hrow).trans (show _ = some (.slice (some ⟨b31, 0, none⟩) 2 c31) from rfl)
  have d4 := (row_cell (i := 4) hrow).trans (show _ = some (.slice (some ⟨b41, 0, none⟩) 3 c41) from rfl)
  clear hrow
  go_wp2_with (fail)
  refine (HM1.out _ HB.out).mono ?_
  rintro e x31 ⟨rfl, hb⟩
  have HB := Aside0.mk (below_next HB.out hb)
  clear hb d0 d1 d2 d3 d4
  have hrow := HC2.out _ HB.out
  have d0 := (row_cell (i := 0) hrow).trans (show _ = some (.slice (some ⟨g7, 0, none⟩) 2 2) from rfl)
  have d1 := (row_cell (i := 1) hrow).trans (show _ = some (.int .i64 1) from rfl)
  have d2 := (row_cell (i := 2) hrow).trans (show _ = some (.slice (some ⟨b22, 0, none⟩) 2 c22) from rfl)
  have d3 := (row_cell (i := 3) hrow).trans (show _ = some (.slice (some ⟨b32, 0, none⟩) 2 c32) from rfl)
  have d4 := (row_cell (i := 4) hrow).trans (show _ = some (.slice (some ⟨b42, 0, none⟩) 3 c42) from rfl)
  clear hrow
  go_wp2_with (fail)
  refine (HM2.out _ HB.out).mono ?_
  rintro e x32 ⟨rfl, hb⟩
  have HB := Aside0.mk (below_next HB.out hb)
  clear hb d0 d1 d2 d3 d4
  have hrow := HC3.out _ HB.out
  have d0 := (row_cell (i := 0) hrow).trans (show _ = some (.slice A03 3 c03) from rfl)
  have d1 := (row_cell (i := 1) hrow).trans (show _ = some (.int .i64 1) from rfl)
  have d2 := (row_cell (i := 2) hrow).trans (show _ = some (.slice (some ⟨b23, 0, none⟩) 2 c23) from rfl)
  have d3 := (row_cell (i := 3) hrow).trans (show _ = some (.slice (some ⟨b33, 0, none⟩) 2 c33) from rfl)
  have d4 := (row_cell (i := 4) hrow).trans (show _ = some (.slice (some ⟨b43, 0, none⟩) 3 c43) from rfl)
  clear hrow
  go_wp2_with (fail)
  refine (HM3.out _ HB.out).mono ?_
  rintro e x33 ⟨rfl, hb⟩
  have HB := Aside0.mk (below_next HB.out hb)
  clear hb d0 d1 d2 d3 d4
  have hrow := HC4.out _ HB.out
  have d0 := (row_cell (i := 0) hrow).trans (show _ = some (.slice A04 3 c04) from rfl)
  have d1 := (row_cell (i := 1) hrow).trans (show _ = some (.int .i64 1) from rfl)
  have d2 := (row_cell (i := 2) hrow).trans (show _ = some (.slice (some ⟨b24, 0, none⟩) 2 c24) from rfl)
  have d3 := (row_cell (i := 3) hrow).trans (show _ = some (.slice (some ⟨b34, 0, none⟩) 2 c34) from rfl)
  have d4 := (row_cell (i := 4) hrow).trans (show _ = some (.slice (some ⟨b44, 0, none⟩) 3 c44) from rfl)
  clear hrow
  go_wp2_with (fail)
  refine (HM4.out _ HB.out).mono ?_
  rintro e x34 ⟨rfl, hb⟩
  have HB := Aside0.mk (below_next HB.out hb)
  clear hb d0 d1 d2 d3 d4
  have hrow := HC5.out _ HB.out
  have d0 := (row_cell (i := 0) hrow).trans (show _ = some (.slice A05 3 c05) from rfl)
  have d1 := (row_cell (i := 1) hrow).trans (show _ = some (.int .i64 1) from rfl)
  have d2 := (row_cell (i := 2) hrow).trans (show _ = some (.slice (some ⟨b25, 0, none⟩) 2 c25) from rfl)
  have d3 := (row_cell (i := 3) hrow).trans (show _ = some (.slice (some ⟨b35, 0, none⟩) 2 c35) from rfl)
  have d4 := (row_cell (i := 4) hrow).trans (show _ = some (.slice (some ⟨b45, 0, none⟩) 3 c45) from rfl)
  clear hrow
  go_wp2_with (fail)
  refine (HM5.out _ HB.out).mono ?_
  rintro e x35 ⟨rfl, hb⟩
  have HB := Aside0.mk (below_next HB.out hb)
  clear hb d0 d1 d2 d3 d4
  go_wp2_with (fail)
  refine (nm_chk ⟨none, none, none, none, 0, 0, 0, 0⟩ ⟨[], 0, [], [], []⟩ 1 _ (nil_at _) ch_nil).mono ?_
  rintro e x36 ⟨rfl, hb⟩
  have HB := Aside0.mk (below_next HB.out hb)
  clear hb
  go_wp2_with (fail)
  refine (HAW.out _).mono ?_
  rintro e x37 ⟨rfl, hb⟩
  have HB := Aside0.mk (below_next HB.out hb)
  clear hb
  go_wp2
  go_ret
  exact ⟨rfl, HBW.out _ HB.out⟩
end Go.Proofs.YthgfhgjlilmieaaGreat.G
