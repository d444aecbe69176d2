/- The plain law of DbmSets: Set answers what the document's Set answers, its argument and what stands behind it stay, and what it answers is new. -/
import Derived.Test.YtklignhpkojmhaaM7
import Derived.Test.YtklignhpkojmhaaPx18
namespace Go.Proofs.Ytklignhpkojmhaa.Pure
open Go Go.RowKit Go.Proofs.Ytklignhpkojmhaa.P Go.Proofs.Ytklignhpkojmhaa.M Go.Proofs.YtklignhpkojmhaaW.PrintWords Go.Proofs.YtklignhpkojmhaaW.PrintMore Go.Proofs.YtklignhpkojmhaaO

theorem sets_l1 {y : List Int} (hy : y.length ≤ 17592186044000) : ∀ (d p : Nat) (x : List Int), x.length - p = d → p ≤ x.length → x.length ≤ 17592186044000 → Ev (fun k => gimballaw10_DbmSets.l1 k y y x (p : Int)) true := by
  intro d
  induction d with
  | zero =>
    intro p x hd hp hx
    refine Ev.step (f := fun k => (gimballaw10_same.f k y y).bind fun t => if t = true then ((gimballaw10_awake.f k).bind fun t2 => some t2) else some false) (fun k => by simp only [gimballaw10_DbmSets.l1]; rw [if_neg (by omega)]) ?_
    refine Ev.bind (same_self (by omega)) ?_
    exact Ev.congr (f := fun k => (gimballaw10_awake.f k).bind fun t => some t) (fun k => by rw [if_pos rfl]) (Ev.bind awake_ev (Ev.now _))
  | succ d ih =>
    intro p x hd hp hx
    have hw : wrap64 ((p : Int) + 1) = ((p + 1 : Nat) : Int) := by unfold wrap64; omega
    exact Ev.step (fun k => by simp only [gimballaw10_DbmSets.l1]; rw [if_pos (by omega), if_pos (by omega), hw, Int.toNat_natCast]) (ih (p + 1) (x.set p 77) (by rw [List.length_set]; omega) (by rw [List.length_set]; omega) (by rw [List.length_set]; omega))
theorem sets_l0 {m y : List Int} {a b c : Int} (hm : m.length * 8 ≤ 140737488351232) (hy : y.length ≤ 17592186044000) (hs : Ev (fun k => dbm_Set.f k m a b c) y) : ∀ (d p : Nat) (x : List Int), x.length - p = d → p ≤ x.length → x.length ≤ 17592186044000 → Ev (fun k => gimballaw10_DbmSets.l0 k m a b c x y y (p : Int)) true := by
  intro d
  induction d with
  | zero =>
    intro p x hd hp hx
    refine Ev.step (f := fun k => (dbm_Set.f k m a b c).bind fun t257 => gimballaw10_DbmSets.l1 k y y t257 0) (fun k => by simp only [gimballaw10_DbmSets.l0]; rw [if_neg (by omega), copied_f hm]; rfl) ?_
    exact Ev.bind hs (sets_l1 hy y.length 0 y (by omega) (by omega) hy)
  | succ d ih =>
    intro p x hd hp hx
    have hw : wrap64 ((p : Int) + 1) = ((p + 1 : Nat) : Int) := by unfold wrap64; omega
    exact Ev.step (fun k => by simp only [gimballaw10_DbmSets.l0]; rw [if_pos (by omega), if_pos (by omega), hw, Int.toNat_natCast]) (ih (p + 1) (x.set p 99) (by rw [List.length_set]; omega) (by rw [List.length_set]; omega) (by rw [List.length_set]; omega))
theorem DbmSets : gimballaw10_DbmSets.Pure := by
  intro m a b c _ hm _ _ _ _
  obtain ⟨y, hy, h1, h2⟩ := set_both hm a b c
  refine Ev.rounds (r := true) ?_
  refine Ev.congr (f := fun k => (dbm_Set.f k m a b c).bind fun t245 => ((gimbalref10_Set.f k m a b c).bind fun t248 => ((gimballaw10_kept.f k m m).bind fun t251 => (if t251 = true then ((gimballaw10_same.f k t245 t248).bind fun t252 => (gimballaw10_DbmSets.j0 k m a b c m t245 t248 (!t252))) else (gimballaw10_DbmSets.j0 k m a b c m t245 t248 true))))) (fun k => by unfold gimballaw10_DbmSets.f; rw [copied_f hm]; rfl) ?_
  refine Ev.bind h1 (Ev.bind h2 (Ev.bind (show Ev (fun k => gimballaw10_kept.f k m m) true from same_self (by omega)) ?_))
  refine Ev.congr (f := fun k => (gimballaw10_same.f k y y).bind fun t252 => (gimballaw10_DbmSets.j0 k m a b c m y y (!t252))) (fun k => by rw [if_pos rfl]) ?_
  refine Ev.bind (same_self (by omega)) ?_
  exact Ev.step (f := fun k => gimballaw10_DbmSets.l0 k m a b c m y y ((0 : Nat) : Int)) (fun k => by simp only [gimballaw10_DbmSets.j0]; rw [if_neg (by decide)]; rfl) (sets_l0 hm hy h1 m.length 0 m (by omega) (by omega) (by omega))

end Go.Proofs.Ytklignhpkojmhaa.Pure
