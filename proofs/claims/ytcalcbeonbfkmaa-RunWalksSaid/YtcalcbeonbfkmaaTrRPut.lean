/- What the law's proof needs of Put. -/
import Derived.Test.YtcalcbeonbfkmaaTrRO
import Derived.Test.YtcalcbeonbfkmaaTrRWMore
import Derived.Laws.Tables
namespace Go.Proofs.YtcalcbeonbfkmaaO
open Go Go.RowKit Go.Proofs.YtcalcbeonbfkmaaW.PrintWords Go.Proofs.YtcalcbeonbfkmaaW.PrintLast Go.Proofs.YtcalcbeonbfkmaaW.PrintMore
theorem setRow_grown (w : World) (g : Nat) (cs : Array Value) : w.grownBy (w.setRow g cs) (some g) :=
  ⟨rfl, rfl, rfl, by simp [World.setRow], fun k hk hne => by
    simp only [World.setRow]
    rw [Array.getElem?_modify]
    exact if_neg (fun e => hne (by rw [e]))⟩
theorem setRow_blk {w : World} {g : Nat} {t : TypeId} {old : Array Value} (h : w.heap[g]? = some (.cells old t (0, 0))) (cs : Array Value) : (w.setRow g cs).heap[g]? = some (.cells cs t (0, 0)) := by
  simp only [World.setRow]
  rw [Array.getElem?_modify, if_pos rfl, h]
  rfl
section
variable {P : Program} {ops : Array Oper} {rest : List Oper} {o : Oper} {a : Act} {Q : Exit → Act → World → Prop}
theorem store_box {W : World} (hgd : o.guard = none) {ty : TypeId} {p : Tmp} {x : Operand} (ho : o.op = .store ty (.tmp p) x) (hN : o.dst = none) (g : Nat) (t : TypeId) (old cells : Array Value)
    (hg : W.heap[g]? = some (.cells old t (0, 0))) (hx : a.eval (.tmp p) = .pointer (some ⟨g, 0, none⟩)) (hy : a.eval x = .agg cells) (hi : (P.info? ty).map (·.size) = some cells.size)
    (hold : old.size = cells.size) (h1 : cells.all (·.oneCell') = true)
    (h : ∀ w', w'.heap[g]? = some (.cells cells t (0, 0)) → W.grownBy w' (some g) → wpList P ops Q rest a w') : wpList P ops Q (o :: rest) a W := by
  refine wpList_store_row hgd ty (.tmp p) x ho g cells hx hy t old hg hi hold h1 ?_
  rw [hN]
  exact h _ (setRow_blk hg cells) (setRow_grown W g cells)
end
section
variable {α : Type} {d : Kd α} {e base g t : Nat} {ok : Nat → Prop} {w w' : World} {v : Value} {xs : List α} {cells : Array Value}
theorem R_boxed (h : d.R e w base ok v xs) (hb : w.heap[g]? = some (.cells cells t (0, 0))) (ht : ∀ q, q ∈ e :: d.E → q ≠ t) (hg : w.grownBy w' (some g)) : d.R e w' base ok v xs :=
  Kd.R_mono (Kd.R_grown (Kd.R_types h hb ht) hg (fun _ hk he => hk.2 (Option.some.inj he))) (fun _ hk => hk.1)
theorem S_boxed (h : Kd.S d e w base ok v xs) (hb : w.heap[g]? = some (.cells cells t (0, 0))) (ht : ∀ q, q ∈ e :: d.E → q ≠ t) (hg : w.grownBy w' (some g)) : Kd.S d e w' base ok v xs :=
  Kd.S_mono (Kd.S_step (Kd.S_types h hb ht) (w1 := w') (fun k ho hk => hg.block k hk (fun he => ho.2 (Option.some.inj he)))) (fun _ hk => hk.1)
theorem Below_boxed {w0 : World} {B : Nat} (h : Below B w0 w) (hB : B ≤ w0.heap.size) (hge : B ≤ g) (hg : w.grownBy w' (some g)) : Below B w0 w' :=
  pw_below_grown h (some g) (Nat.le_trans hB h.size) hg (fun k hk => by cases hk; exact hge)
end
end Go.Proofs.YtcalcbeonbfkmaaO
