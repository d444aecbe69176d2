/- What the law's proof needs of PureItvLattice. -/
import Derived.Test.YtbbnpipmjadpoaaTrLM4
import Derived.Test.YtbbnpipmjadpoaaTrLPx19
namespace Go.Proofs.Ytbbnpipmjadpoaa.Pure
open Go Go.RowKit Go.Proofs.Ytbbnpipmjadpoaa.P Go.Proofs.YtbbnpipmjadpoaaW.PrintWords Go.Proofs.YtbbnpipmjadpoaaW.PrintMore Go.Proofs.Ytbbnpipmjadpoaa.M
theorem awakeL : gimballaw02_awake.f 12 = some true := by decide +kernel
theorem lat0 (k : Nat) (a b c d e g : Int) : gimballaw02_ItvLattice.j0 (k + 1) false a b c d e g (jn (C a b) (C c d)).1 (jn (C a b) (C c d)).2 (me (C a b) (C c d)).1 (me (C a b) (C c d)).2 = gimballaw02_ItvLattice.j1 k false a b c d e g (jn (C a b) (C c d)).1 (jn (C a b) (C c d)).2 (me (C a b) (C c d)).1 (me (C a b) (C c d)).2 := by
  simp only [gimballaw02_ItvLattice.j0]
  rw [if_neg (by decide)]
  have hj := C_W (W_jn (W_C a b) (W_C c d))
  have hm := C_W (W_me (W_C a b) (W_C c d))
  have e1 : ∀ z, gimballaw02_ItvLattice.j1 k (!leq (C e g) (me (C a b) (C c d))) a b c d e g (jn (C a b) (C c d)).1 (jn (C a b) (C c d)).2 (me (C a b) (C c d)).1 (me (C a b) (C c d)).2 = z → leq (C e g) (C a b) = true → leq (C e g) (C c d) = true → gimballaw02_ItvLattice.j1 k false a b c d e g (jn (C a b) (C c d)).1 (jn (C a b) (C c d)).2 (me (C a b) (C c d)).1 (me (C a b) (C c d)).2 = z := by
    intro z hz h1 h2
    rw [leq_me h1 h2] at hz
    exact hz
  have tail : ((itv_Leq.f e g a b).bind fun t => if t = true then (itv_Leq.f e g c d).bind fun t2 => if t2 = true then (itv_Leq.f e g (me (C a b) (C c d)).1 (me (C a b) (C c d)).2).bind fun t3 => gimballaw02_ItvLattice.j1 k (!t3) a b c d e g (jn (C a b) (C c d)).1 (jn (C a b) (C c d)).2 (me (C a b) (C c d)).1 (me (C a b) (C c d)).2 else gimballaw02_ItvLattice.j1 k false a b c d e g (jn (C a b) (C c d)).1 (jn (C a b) (C c d)).2 (me (C a b) (C c d)).1 (me (C a b) (C c d)).2 else gimballaw02_ItvLattice.j1 k false a b c d e g (jn (C a b) (C c d)).1 (jn (C a b) (C c d)).2 (me (C a b) (C c d)).1 (me (C a b) (C c d)).2) = gimballaw02_ItvLattice.j1 k false a b c d e g (jn (C a b) (C c d)).1 (jn (C a b) (C c d)).2 (me (C a b) (C c d)).1 (me (C a b) (C c d)).2 := by
    rw [leqf, Option.bind_some]
    by_cases h1 : leq (C e g) (C a b) = true
    · rw [if_pos h1, leqf, Option.bind_some]
      by_cases h2 : leq (C e g) (C c d) = true
      · rw [if_pos h2, leqf, Option.bind_some, hm]
        exact (e1 _ rfl h1 h2).symm
      · rw [if_neg h2]
    · rw [if_neg h1]
  rw [leqf a b e g, Option.bind_some]
  by_cases h1 : leq (C a b) (C e g) = true
  · rw [if_pos h1, leqf c d e g, Option.bind_some]
    by_cases h2 : leq (C c d) (C e g) = true
    · rw [if_pos h2, leqf _ _ e g, Option.bind_some, hj, jn_leq h1 h2, if_pos rfl]
      exact tail
    · rw [if_neg h2]
      exact tail
  · rw [if_neg h1]
    exact tail
theorem lat1 (k : Nat) (a b c d e g j1 j2 m1 m2 : Int) : gimballaw02_ItvLattice.j1 (k + 1) false a b c d e g j1 j2 m1 m2 = gimballaw02_ItvLattice.j2 k false a b c d e g j1 j2 m1 m2 := by
  simp only [gimballaw02_ItvLattice.j1]
  rw [if_neg (by decide)]
  have tail : ((itv_Leq.f a b c d).bind fun t => if t = true then (itv_Leq.f c d a b).bind fun t2 => if t2 = true then (itv_Of.f a b).bind fun x => (itv_Of.f c d).bind fun y => gimballaw02_ItvLattice.j2 k (!(x.1 == y.1) || !(x.2 == y.2)) a b c d e g j1 j2 m1 m2 else gimballaw02_ItvLattice.j2 k false a b c d e g j1 j2 m1 m2 else gimballaw02_ItvLattice.j2 k false a b c d e g j1 j2 m1 m2) = gimballaw02_ItvLattice.j2 k false a b c d e g j1 j2 m1 m2 := by
    rw [leqf, Option.bind_some]
    by_cases h1 : leq (C a b) (C c d) = true
    · rw [if_pos h1, leqf, Option.bind_some]
      by_cases h2 : leq (C c d) (C a b) = true
      · rw [if_pos h2, of1, Option.bind_some, of1, Option.bind_some, leq_antisymm (W_C a b) (W_C c d) h1 h2, beq_self_eq_true, beq_self_eq_true]
        rfl
      · rw [if_neg h2]
    · rw [if_neg h1]
  rw [leqf a b c d, Option.bind_some]
  by_cases h1 : leq (C a b) (C c d) = true
  · rw [if_pos h1, leqf c d e g, Option.bind_some]
    by_cases h2 : leq (C c d) (C e g) = true
    · rw [if_pos h2, leqf a b e g, Option.bind_some, leq_trans h1 h2, if_pos rfl]
      have t := tail
      rw [leqf a b c d, Option.bind_some] at t
      first | exact tail | exact t
    · rw [if_neg h2]
      first | exact tail | (have t := tail; rw [leqf a b c d, Option.bind_some] at t; exact t)
  · rw [if_neg h1]
    first | exact tail | (have t := tail; rw [leqf a b c d, Option.bind_some] at t; exact t)
theorem lat2 (a b c d e g : Int) : gimballaw02_ItvLattice.j2 13 false a b c d e g (jn (C a b) (C c d)).1 (jn (C a b) (C c d)).2 (me (C a b) (C c d)).1 (me (C a b) (C c d)).2 = some true := by
  simp only [gimballaw02_ItvLattice.j2]
  have hp := W_C a b
  have hq := W_C c d
  have hr := W_C e g
  rw [if_neg (by decide), joinf, Option.bind_some, of1, Option.bind_some, C_W (W_me hp hq), jn_me hp, beq_self_eq_true, beq_self_eq_true]
  rw [if_pos (by rfl), joinf, Option.bind_some, joinf, Option.bind_some, joinf, Option.bind_some, C_W (W_jn hp hq), C_W (W_jn hq hr), jn_assoc, beq_self_eq_true, beq_self_eq_true]
  rw [if_pos (by rfl), meetf, Option.bind_some, meetf, Option.bind_some, meetf, Option.bind_some, C_W (W_me hp hq), C_W (W_me hq hr), me_assoc, beq_self_eq_true, beq_self_eq_true]
  rw [if_pos (by rfl), awakeL, Option.bind_some]
theorem ItvLattice : gimballaw02_ItvLattice.Pure := by
  intro a b c d e g _ _ _ _ _ _
  refine ⟨15, ?_⟩
  unfold gimballaw02_ItvLattice.f
  have hp := W_C a b
  have hq := W_C c d
  have hj := C_W (W_jn hp hq)
  have hm := C_W (W_me hp hq)
  rw [joinf, Option.bind_some, meetf, Option.bind_some, leqf, Option.bind_some, hj, leq_jn1, if_pos rfl, leqf, Option.bind_some, hj, leq_jn2, if_pos rfl]
  rw [leqf, Option.bind_some, hm, leq_me1, if_pos rfl, leqf, Option.bind_some, hm, leq_me2, if_pos rfl]
  rw [joinf, Option.bind_some, jn_comm hq hp, beq_self_eq_true, beq_self_eq_true, if_neg (by decide)]
  rw [meetf, Option.bind_some, me_comm (C c d), beq_self_eq_true, beq_self_eq_true]
  show gimballaw02_ItvLattice.j0 15 false _ _ _ _ _ _ _ _ _ _ = _
  rw [lat0, lat1, lat2]
end Go.Proofs.Ytbbnpipmjadpoaa.Pure
