/- Closing loses nothing: values are in a matrix just if they are in its closure, and none are in one that closes to nothing. -/
import Derived.Test.YtklignhpkojmhaaM3
import Derived.Test.YtklignhpkojmhaaPx21
namespace Go.Proofs.Ytklignhpkojmhaa.Pure
open Go Go.RowKit Go.Proofs.Ytklignhpkojmhaa.P Go.Proofs.YtklignhpkojmhaaW.PrintWords Go.Proofs.YtklignhpkojmhaaW.PrintMore Go.Proofs.Ytklignhpkojmhaa.M

theorem DbmKeeps : gimballaw10_DbmKeeps.Pure := by
  intro m v _ _ _ _ hv _
  have hv' : v.length ≤ 17592186044416 := by omega
  refine Ev.rounds (r := true) ?_
  unfold gimballaw10_DbmKeeps.f
  by_cases hs : ∃ n, Sq m n
  · obtain ⟨n, hs⟩ := hs
    obtain ⟨b, hb, eb⟩ := holds_sq hs hv'
    obtain ⟨r, hr, er⟩ := close_sq hs
    refine Ev.bind eb (Ev.bind er ?_)
    rcases hr with ⟨rfl, hneg⟩ | ⟨D, hD, h1, h2, h3⟩
    · have : b = false := by
        rw [← Bool.not_eq_true]
        exact fun e => neg_fits hneg (hb.mp e).2.2
      subst this
      refine Ev.congr (f := fun k => (gimballaw10_awake.f k).bind fun t => some t) (fun k => ?_) (Ev.bind awake_ev (Ev.now _))
      rfl
    · have hs' : Sq r.1 n := ⟨hs.1, hs.2.1, h2⟩
      obtain ⟨c, hc, ec⟩ := holds_sq hs' hv'
      have : b = c := by
        rw [Bool.eq_iff_iff, hb, hc]
        unfold HoldsP
        rw [closed_fits hD h3]
      subst this
      refine Ev.congr (f := fun k => (dbm_Holds.f k r.1 v).bind fun t => if (b == t) = true then (gimballaw10_awake.f k).bind fun t => some t else some false) (fun k => ?_) (Ev.bind ec ?_)
      · rw [if_pos h1]
      · refine Ev.congr (f := fun k => (gimballaw10_awake.f k).bind fun t => some t) (fun k => ?_) (Ev.bind awake_ev (Ev.now _))
        rw [if_pos (beq_self_eq_true b)]
  · have hs' : ∀ n, ¬ Sq m n := fun n h => hs ⟨n, h⟩
    refine Ev.bind (holds_none hs') (Ev.bind (close_none hs') ?_)
    refine Ev.congr (f := fun k => (gimballaw10_awake.f k).bind fun t => some t) (fun k => ?_) (Ev.bind awake_ev (Ev.now _))
    rfl

end Go.Proofs.Ytklignhpkojmhaa.Pure
