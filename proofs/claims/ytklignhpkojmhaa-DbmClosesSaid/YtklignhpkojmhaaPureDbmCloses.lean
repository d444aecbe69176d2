/- The plain law of DbmCloses: Close answers what the document's Close answers, and its argument and what stands behind it stay. -/
import Derived.Test.YtklignhpkojmhaaM7
import Derived.Test.YtklignhpkojmhaaPx20
namespace Go.Proofs.Ytklignhpkojmhaa.Pure
open Go Go.RowKit Go.Proofs.Ytklignhpkojmhaa.P Go.Proofs.Ytklignhpkojmhaa.M Go.Proofs.YtklignhpkojmhaaW.PrintWords Go.Proofs.YtklignhpkojmhaaW.PrintMore Go.Proofs.YtklignhpkojmhaaO

theorem closes_l0 {y : List Int} (hy : y.length ≤ 17592186044000) : ∀ (d p : Nat) (x : List Int), x.length - p = d → p ≤ x.length → x.length ≤ 17592186044000 → Ev (fun k => gimballaw10_DbmCloses.l0 k x y y (p : Int)) true := by
  intro d
  induction d with
  | zero =>
    intro p x hd hp hx
    refine Ev.step (f := fun k => (gimballaw10_same.f k y y).bind fun t => if t = true then ((gimballaw10_awake.f k).bind fun t2 => some t2) else some false) (fun k => by simp only [gimballaw10_DbmCloses.l0]; rw [if_neg (by omega)]) ?_
    refine Ev.bind (same_self (by omega)) ?_
    exact Ev.congr (f := fun k => (gimballaw10_awake.f k).bind fun t => some t) (fun k => by rw [if_pos rfl]) (Ev.bind awake_ev (Ev.now _))
  | succ d ih =>
    intro p x hd hp hx
    have hw : wrap64 ((p : Int) + 1) = ((p + 1 : Nat) : Int) := by unfold wrap64; omega
    exact Ev.step (fun k => by simp only [gimballaw10_DbmCloses.l0]; rw [if_pos (by omega), if_pos (by omega), hw, Int.toNat_natCast]) (ih (p + 1) (x.set p 99) (by rw [List.length_set]; omega) (by rw [List.length_set]; omega) (by rw [List.length_set]; omega))
theorem close_both (m : List Int) : ∃ r : List Int × Bool, r.1.length ≤ 256 ∧ Ev (fun k => dbm_Close.f k m) r ∧ Ev (fun k => gimbalref10_Close.f k m) r := by
  by_cases hs : ∃ n, Sq m n
  · obtain ⟨n, hs⟩ := hs
    obtain ⟨r, hr, er⟩ := close_sq hs
    refine ⟨r, ?_, er, refclose_sq hs hr⟩
    have hn := hs.1
    have : n * n ≤ 16 * 16 := Nat.mul_le_mul hn hn
    rcases hr with ⟨rfl, hneg⟩ | ⟨D, hD, h1, h2, h3⟩
    · simp
    · rw [h2]; omega
  · have hs' : ∀ n, ¬ Sq m n := fun n h => hs ⟨n, h⟩
    exact ⟨([], false), by simp, close_none hs', refclose_none hs'⟩
theorem DbmCloses : gimballaw10_DbmCloses.Pure := by
  intro m _ hm _
  obtain ⟨r, hy, h1, h2⟩ := close_both m
  refine Ev.rounds (r := true) ?_
  refine Ev.congr (f := fun k => (dbm_Close.f k m).bind fun bt284 => ((gimbalref10_Close.f k m).bind fun bt288 => ((gimballaw10_kept.f k m m).bind fun t292 => (if t292 = true then (if (bt284.2 != bt288.2) = true then (gimballaw10_DbmCloses.j0 k m bt284.1 bt288.1 true) else ((gimballaw10_same.f k bt284.1 bt288.1).bind fun t293 => (gimballaw10_DbmCloses.j0 k m bt284.1 bt288.1 (!t293)))) else (gimballaw10_DbmCloses.j0 k m bt284.1 bt288.1 true))))) (fun k => by unfold gimballaw10_DbmCloses.f; rw [copied_f hm]; rfl) ?_
  refine Ev.bind h1 (Ev.bind h2 (Ev.bind (show Ev (fun k => gimballaw10_kept.f k m m) true from same_self (by omega)) ?_))
  refine Ev.congr (f := fun k => (gimballaw10_same.f k r.1 r.1).bind fun t293 => (gimballaw10_DbmCloses.j0 k m r.1 r.1 (!t293))) (fun k => by rw [if_pos rfl, if_neg (by simp)]) ?_
  refine Ev.bind (same_self (by omega)) ?_
  exact Ev.step (f := fun k => gimballaw10_DbmCloses.l0 k m r.1 r.1 ((0 : Nat) : Int)) (fun k => by simp only [gimballaw10_DbmCloses.j0]; rw [if_neg (by decide)]; rfl) (closes_l0 (by omega) m.length 0 m (by omega) (by omega) (by omega))

end Go.Proofs.Ytklignhpkojmhaa.Pure
