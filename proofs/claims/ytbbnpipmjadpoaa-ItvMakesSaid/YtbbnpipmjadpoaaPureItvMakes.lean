/- Of, Empty, All, Type, None and Has of any numbers are what the document answers; no condition. -/
import Derived.Test.YtbbnpipmjadpoaaM1
namespace Go.Proofs.Ytbbnpipmjadpoaa.Pure
open Go Go.RowKit Go.Proofs.Ytbbnpipmjadpoaa.P Go.Proofs.YtbbnpipmjadpoaaW.PrintWords Go.Proofs.YtbbnpipmjadpoaaW.PrintMore Go.Proofs.Ytbbnpipmjadpoaa.M

theorem ItvMakes : gimballaw02_ItvMakes.Pure := by
  intro a b c d _ _ _ _
  refine ⟨2, ?_⟩
  obtain ⟨t, ht1, ht2⟩ := type_eq c
  obtain ⟨u, hu1, hu2⟩ := type_eq 2
  obtain ⟨r, hr⟩ := has_some a b d
  unfold gimballaw02_ItvMakes.f
  rw [of1, of2 0, ht1, ht2, hu1, hu2, has_eq 0, hr, has_self]
  unfold itv_Empty.f gimbalref02_Empty.f itv_All.f gimbalref02_All.f itv_None.f
  simp only [Option.bind_some, beq_self_eq_true, Bool.and_self, if_true]
  have h : decide ((C a b).1 > (C a b).2) = decide (a > b) := by
    unfold C lo hi
    (repeat' split) <;> simp <;> omega
  rw [h]
  simp

end Go.Proofs.Ytbbnpipmjadpoaa.Pure
