/- What Close gives is closed and stays as it is when closed again, is as long as the matrix and no greater, with 0 at each node itself, and is mirrored where the matrix was. -/
import Derived.Test.YtklignhpkojmhaaM5
import Derived.Test.YtklignhpkojmhaaPx35
namespace Go.Proofs.Ytklignhpkojmhaa.Pure
open Go Go.RowKit Go.Proofs.Ytklignhpkojmhaa.P Go.Proofs.YtklignhpkojmhaaW.PrintWords Go.Proofs.YtklignhpkojmhaaW.PrintMore Go.Proofs.Ytklignhpkojmhaa.M

theorem again_tail : Ev (fun k => (gimballaw10_awake.f k).bind fun t => some t) true := Ev.bind awake_ev (Ev.now _)
section
variable {m y : List Int} {n : Nat} {D : Nat → Nat → Int}
theorem again_1 (hs : Sq m n) (hD : Closure (M0 m n) D n) (hy : y.length = n * n) (h3 : ∀ i j, i < n → j < n → at_ y n i j = tk (D i j)) {i : Nat} (hi : i < n) (hr : Ev (fun k => gimballaw10_DbmAgain.l0 k m y (n : Int) ((i + 1 : Nat) : Int)) true) :
    ∀ (d c : Nat), n - c = d → c ≤ n → Ev (fun k => gimballaw10_DbmAgain.l1 k m y (n : Int) (i : Int) (c : Int)) true := by
  have hn := hs.1
  intro d
  induction d with
  | zero =>
    intro c hd hc
    exact Ev.step (fun k => by simp only [gimballaw10_DbmAgain.l1]; rw [if_neg (by omega), w1 (by omega)]) hr
  | succ d ih =>
    intro c hd hc
    have hcn : c < n := by omega
    have hl : (((i * n + c : Nat) : Int)) < (y.length : Int) := by rw [hy]; have := ixn hi hcn; omega
    have hl2 : (((i * n + c : Nat) : Int)) < (m.length : Int) := by rw [hs.2.2]; have := ixn hi hcn; omega
    by_cases e : i = c
    · subst e
      have z : at_ y n i i = 0 := by rw [h3 i i hi hi, hD.diag i hi]; decide
      exact Ev.step (fun k => by simp only [gimballaw10_DbmAgain.l1]; rw [if_pos (by omega), if_pos trivial, ix hn hi hi, if_pos (by omega), if_pos hl, rd_at, if_pos z, w1 (by omega)]) (ih (i + 1) (by omega) (by omega))
    · have z := closed_le hD hi hcn e
      rw [← h3 i c hi hcn] at z
      exact Ev.step (fun k => by simp only [gimballaw10_DbmAgain.l1]; rw [if_pos (by omega), if_neg (by omega), ix hn hi hcn, if_pos (by omega), if_pos hl, if_pos hl2, rd_at, law_taken]; simp only [Option.bind_some]; rw [rd_at, if_neg (by omega), w1 (by omega)]) (ih (c + 1) (by omega) (by omega))
theorem again_0 (hs : Sq m n) (hD : Closure (M0 m n) D n) (hy : y.length = n * n) (h3 : ∀ i j, i < n → j < n → at_ y n i j = tk (D i j)) : ∀ (d i : Nat), n - i = d → i ≤ n → Ev (fun k => gimballaw10_DbmAgain.l0 k m y (n : Int) (i : Int)) true := by
  intro d
  induction d with
  | zero =>
    intro i hd hi
    exact Ev.step (fun k => by simp only [gimballaw10_DbmAgain.l0]; rw [if_neg (by omega)]) again_tail
  | succ d ih =>
    intro i hd hi
    refine Ev.step (f := fun k => gimballaw10_DbmAgain.l1 k m y (n : Int) (i : Int) ((0 : Nat) : Int)) (fun k => by simp only [gimballaw10_DbmAgain.l0]; rw [if_pos (by omega)]; rfl) ?_
    exact again_1 hs hD hy h3 (by omega) (ih (i + 1) (by omega) (by omega)) n 0 (by omega) (by omega)
end

theorem DbmAgain : gimballaw10_DbmAgain.Pure := by
  intro m _ hm _
  refine Ev.rounds (r := true) ?_
  unfold gimballaw10_DbmAgain.f
  have none_ : ∀ r : List Int × Bool, r = ([], false) → Ev (fun k => (if (r.1.length : Int) = 0 then ((gimballaw10_awake.f k).bind fun t450 => (some t450)) else (some false))) true := by
    rintro _ rfl
    exact Ev.congr (fun k => by rw [if_pos (by decide)]) again_tail
  by_cases hs : ∃ n, Sq m n
  · obtain ⟨n, hs⟩ := hs
    have hL : m.length ≤ 256 := by rw [hs.2.2]; exact Nat.mul_le_mul hs.1 hs.1
    obtain ⟨r, hr, er⟩ := close_sq hs
    refine Ev.bind er ?_
    rcases hr with ⟨rfl, hneg⟩ | ⟨D, hD, h1, h2, h3⟩
    · exact Ev.congr (fun k => by rw [if_neg (by decide)]) (none_ ([], false) rfl)
    · obtain ⟨y, t⟩ := r
      obtain rfl : t = true := h1
      have h2 : y.length = n * n := h2
      have h3 : ∀ i j, i < n → j < n → at_ y n i j = tk (D i j) := h3
      have hsy : Sq y n := ⟨hs.1, hs.2.1, h2⟩
      obtain ⟨r2, hr2, er2⟩ := close_sq hsy
      have e2 := again hD h2 h3 hr2
      rw [e2] at er2 hr2
      obtain ⟨c, hc, ec⟩ := closed_sq hsy
      have : c = true := hc.mpr hr2
      subst this
      obtain ⟨p, hp, ep⟩ := coh_sq hs
      obtain ⟨q, hq, eq⟩ := coh_sq hsy
      have tail : Ev (fun k => gimballaw10_DbmAgain.j0 k m y false) true := by
        refine Ev.step (f := fun k => (gimballaw10_nodes.f k m).bind fun t459 => gimballaw10_DbmAgain.l0 k m y t459 0) (fun k => by simp only [gimballaw10_DbmAgain.j0]; rw [if_neg (by decide)]) ?_
        exact Ev.bind (size_sq hs).2 (again_0 hs hD h2 h3 n 0 (by omega) (by omega))
      refine Ev.congr (f := fun k => (dbm_Close.f k y).bind fun bt451 => (if bt451.2 = true then ((gimballaw10_same.f k y bt451.1).bind fun t455 => (if t455 = true then ((dbm_Closed.f k y).bind fun t456 => (if t456 = true then (if (y.length : Int) = (m.length : Int) then ((dbm_Coherent.f k m).bind fun t457 => (if t457 = true then ((dbm_Coherent.f k y).bind fun t458 => (gimballaw10_DbmAgain.j0 k m y (!t458))) else (gimballaw10_DbmAgain.j0 k m y false))) else (gimballaw10_DbmAgain.j0 k m y true)) else (gimballaw10_DbmAgain.j0 k m y true))) else (gimballaw10_DbmAgain.j0 k m y true))) else (gimballaw10_DbmAgain.j0 k m y true))) (fun k => by rw [if_pos rfl]) ?_
      refine Ev.bind er2 ?_
      refine Ev.congr (f := fun k => (gimballaw10_same.f k y y).bind fun t455 => (if t455 = true then ((dbm_Closed.f k y).bind fun t456 => (if t456 = true then (if (y.length : Int) = (m.length : Int) then ((dbm_Coherent.f k m).bind fun t457 => (if t457 = true then ((dbm_Coherent.f k y).bind fun t458 => (gimballaw10_DbmAgain.j0 k m y (!t458))) else (gimballaw10_DbmAgain.j0 k m y false))) else (gimballaw10_DbmAgain.j0 k m y true)) else (gimballaw10_DbmAgain.j0 k m y true))) else (gimballaw10_DbmAgain.j0 k m y true))) (fun k => by rw [if_pos rfl]) ?_
      refine Ev.bind (same_self (by rw [h2, ← hs.2.2]; omega)) ?_
      refine Ev.congr (f := fun k => (dbm_Closed.f k y).bind fun t456 => (if t456 = true then (if (y.length : Int) = (m.length : Int) then ((dbm_Coherent.f k m).bind fun t457 => (if t457 = true then ((dbm_Coherent.f k y).bind fun t458 => (gimballaw10_DbmAgain.j0 k m y (!t458))) else (gimballaw10_DbmAgain.j0 k m y false))) else (gimballaw10_DbmAgain.j0 k m y true)) else (gimballaw10_DbmAgain.j0 k m y true))) (fun k => by rw [if_pos rfl]) ?_
      refine Ev.bind ec ?_
      refine Ev.congr (f := fun k => (dbm_Coherent.f k m).bind fun t457 => (if t457 = true then ((dbm_Coherent.f k y).bind fun t458 => (gimballaw10_DbmAgain.j0 k m y (!t458))) else (gimballaw10_DbmAgain.j0 k m y false))) (fun k => by rw [if_pos rfl, if_pos (by rw [h2, hs.2.2])]) ?_
      refine Ev.bind ep ?_
      cases p with
      | false => exact Ev.congr (fun k => by rw [if_neg (by decide)]) tail
      | true =>
        have : q = true := hq.mpr (closed_coh hs.2.1 (hp.mp rfl) hD h3)
        subst this
        refine Ev.congr (f := fun k => (dbm_Coherent.f k y).bind fun t458 => (gimballaw10_DbmAgain.j0 k m y (!t458))) (fun k => by rw [if_pos rfl]) ?_
        exact Ev.bind eq tail
  · have hs' : ∀ n, ¬ Sq m n := fun n h => hs ⟨n, h⟩
    refine Ev.bind (close_none hs') ?_
    exact Ev.congr (fun k => by rw [if_neg (by decide)]) (none_ ([], false) rfl)

end Go.Proofs.Ytklignhpkojmhaa.Pure
