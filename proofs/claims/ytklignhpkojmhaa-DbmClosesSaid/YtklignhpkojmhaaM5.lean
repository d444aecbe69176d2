/- What Close gives is closed, is no greater, and is mirrored where the matrix was. -/
import Derived.Test.YtklignhpkojmhaaM4
import Derived.Test.YtklignhpkojmhaaPx24
namespace Go.Proofs.Ytklignhpkojmhaa.M
open Go Go.RowKit Go.Proofs.Ytklignhpkojmhaa.P Go.Proofs.YtklignhpkojmhaaW.PrintWords Go.Proofs.YtklignhpkojmhaaW.PrintMore Go.Proofs.YtklignhpkojmhaaO

theorem closed_go {a b : List Int} (hL : a.length ≤ 1000) (hl : b.length = a.length) (r : Bool) (hr : a = b → r = true) (hf : a ≠ b → r = false) : ∀ (d p : Nat), a.length - p = d → p ≤ a.length → (∀ q, q < p → a.getD q 0 = b.getD q 0) → Ev (fun k => dbm_Closed.l0 k a b (a.length : Int) (p : Int)) r := by
  intro d
  induction d with
  | zero =>
    intro p hd hp h
    have : p = a.length := by omega
    subst this
    have := hr (list_ext rfl hl h)
    subst this
    exact Ev.step (f := fun _ => some true) (fun k => by simp only [dbm_Closed.l0]; rw [if_neg (by omega)]) (Ev.now _)
  | succ d ih =>
    intro p hd hp h
    have hpl : p < a.length := by omega
    by_cases e : a.getD p 0 = b.getD p 0
    · exact Ev.step (fun k => by simp only [dbm_Closed.l0]; rw [if_pos (by omega), if_pos (by omega), if_pos (by omega), if_pos (by omega), rd_nat, rd_nat, if_pos e, w1 (by omega)]) (ih (p + 1) (by omega) (by omega) (fun q hq => by
        by_cases e2 : q = p
        · rw [e2]; exact e
        · exact h q (by omega)))
    · have := hf (fun z => e (by rw [z]))
      subst this
      exact Ev.step (f := fun _ => some false) (fun k => by simp only [dbm_Closed.l0]; rw [if_pos (by omega), if_pos (by omega), if_pos (by omega), if_pos (by omega), rd_nat, rd_nat, if_neg e]) (Ev.now _)
/-- Closed tells whether Close answers the matrix itself. -/
theorem closed_sq {m : List Int} {n : Nat} (h : Sq m n) : ∃ b : Bool, (b = true ↔ CT m n (m, true)) ∧ Ev (fun k => dbm_Closed.f k m) b := by
  obtain ⟨r, hr, er⟩ := close_sq h
  have hL : m.length ≤ 256 := by rw [h.2.2]; exact Nat.mul_le_mul h.1 h.1
  have go : ∀ b : Bool, (CT m n (m, true) → b = true) → (¬ CT m n (m, true) → b = false) → Ev (fun k => dbm_Closed.f k m) b := by
    intro b hb hf
    unfold dbm_Closed.f
    refine Ev.bind er ?_
    rcases hr with ⟨rfl, hneg⟩ | ⟨D, hD, h1, h2, h3⟩
    · have : b = false := hf (fun z => by
        have := (show CT m n ([], false) from .inl ⟨rfl, hneg⟩).unique z
        exact Bool.noConfusion (show false = true from congrArg Prod.snd this))
      subst this
      exact Ev.congr (f := fun _ => some false) (fun k => by rw [if_neg (by decide)]) (Ev.now _)
    · have hr : CT m n r := .inr ⟨D, hD, h1, h2, h3⟩
      refine Ev.congr (f := fun k => dbm_Closed.l0 k m r.1 (m.length : Int) ((0 : Nat) : Int)) (fun k => by rw [if_pos h1]; rfl) (closed_go (by omega) (h2.trans h.2.2.symm) b (fun e => hb ?_) (fun e => hf (fun z => e ?_)) m.length 0 rfl (by omega) (fun q hq => by omega))
      · have : r = (m, true) := Prod.ext e.symm h1
        rwa [← this]
      · have := hr.unique z
        rw [this]
  by_cases hh : CT m n (m, true)
  · exact ⟨true, ⟨fun _ => hh, fun _ => rfl⟩, go true (fun _ => rfl) (fun z => absurd hh z)⟩
  · exact ⟨false, ⟨fun z => absurd z (by decide), fun z => absurd z hh⟩, go false (fun z => absurd z hh) (fun _ => rfl)⟩

section
variable {m k : List Int} {n : Nat} {D : Nat → Nat → Int}
theorem tk_inf (a : Int) : tk a ≤ INF := by
  have := tk_range a
  unfold INF MB at *
  omega
/-- k is the closure's taken matrix: closing it again gives it. -/
theorem again (hD : Closure (M0 m n) D n) (hk : k.length = n * n) (h3 : ∀ i j, i < n → j < n → at_ k n i j = tk (D i j)) {r : List Int × Bool} (hr : CT k n r) : r = (k, true) := by
  have e : ∀ i j, i < n → j < n → M0 k n i j = tk (D i j) := by
    intro i j hi hj
    unfold M0
    by_cases h : i = j
    · subst h
      rw [if_pos rfl, h3 i i hi hi, hD.diag i hi]
      decide
    · rw [if_neg h, h3 i j hi hj, tk_tk]
  have hE : Edges (M0 k n) D n := by
    intro i j hi hj hM
    rw [e i j hi hj] at hM ⊢
    have h1 := hD.inf i j hi hj
    have h2 := le_tk h1
    refine ⟨?_, h2⟩
    rcases Int.lt_or_eq_of_le h1 with h | h
    · exact h
    · rw [h] at hM
      exact absurd hM (by decide)
  have low : ∀ {i j l : Nat} {w : Int}, Wk (M0 k n) n i j l w → D i j < INF ∧ D i j ≤ w := fun hw => le_walk hD.diag hE hD.tri hw
  rcases hr with ⟨rfl, i, l, w, hw, hneg⟩ | ⟨D2, hD2, g1, g2, g3⟩
  · have := (low hw).2
    rw [hD.diag i hw.src] at this
    omega
  · refine Prod.ext (at_ext g2 hk (fun i j hi hj => ?_)) g1
    rw [g3 i j hi hj, h3 i j hi hj]
    have a1 : tk (D i j) ≤ tk (D2 i j) := by
      apply tk_mono
      by_cases hf : D2 i j < INF
      · obtain ⟨l, hw⟩ := hD2.walk i j hi hj hf
        exact (low hw).2
      · have := hD.inf i j hi hj
        omega
    have a2 : tk (D2 i j) ≤ tk (D i j) := by
      by_cases hf : tk (D i j) < INF
      · have := tk_mono (hD2.edges i j hi hj (by rw [e i j hi hj]; exact hf)).2
        rw [e i j hi hj, tk_tk] at this
        exact this
      · have := tk_inf (D2 i j)
        omega
    omega
/-- A mirrored matrix has mirrored ways. -/
theorem Wk.rev {M : Nat → Nat → Int} (hn : n % 2 = 0) (h : ∀ a b, a < n → b < n → M (bar b) (bar a) = M a b) {i j l : Nat} {w : Int} (hw : Wk M n i j l w) : Wk M n (bar j) (bar i) l w := by
  induction hw with
  | nil hi => exact Wk.nil (bar_lt hn hi)
  | @cons i k j l w hi hM hw ih =>
    have hk := hw.src
    have h1 := Wk.edge (M := M) (n := n) (bar_lt hn hk) (bar_lt hn hi) (by rw [h i k hi hk]; exact hM)
    rw [h i k hi hk] at h1
    have := ih.append h1
    rw [Int.add_comm] at this
    exact this
theorem M0_bar (hm : CohP m n) : ∀ a b, a < n → b < n → M0 m n (bar b) (bar a) = M0 m n a b := by
  intro a b ha hb
  unfold M0
  by_cases e : a = b
  · subst e
    rw [if_pos rfl, if_pos rfl, hm a a ha ha]
  · rw [if_neg e, if_neg (fun z => e (bar_inj z).symm), hm a b ha hb]
theorem closure_bar (hn : n % 2 = 0) (hm : CohP m n) (hD : Closure (M0 m n) D n) : ∀ i j, i < n → j < n → D (bar j) (bar i) = D i j := by
  have hM := M0_bar hm
  have : Closure (M0 m n) (fun i j => D (bar j) (bar i)) n := by
    refine ⟨fun i hi => hD.diag _ (bar_lt hn hi), fun i j hi hj h => ?_, fun i a j hi ha hj h1 h2 => ?_, fun i j hi hj h => ?_, fun i j hi hj => hD.inf _ _ (bar_lt hn hj) (bar_lt hn hi)⟩
    · have := hD.edges (bar j) (bar i) (bar_lt hn hj) (bar_lt hn hi) (by rw [hM i j hi hj]; exact h)
      rwa [hM i j hi hj] at this
    · have := hD.tri (bar j) (bar a) (bar i) (bar_lt hn hj) (bar_lt hn ha) (bar_lt hn hi) h2 h1
      refine ⟨this.1, ?_⟩
      show D (bar j) (bar i) ≤ D (bar a) (bar i) + D (bar j) (bar a)
      have := this.2
      omega
    · obtain ⟨l, hw⟩ := hD.walk (bar j) (bar i) (bar_lt hn hj) (bar_lt hn hi) h
      have := hw.rev hn hM
      rw [bar_bar, bar_bar] at this
      exact ⟨l, this⟩
  exact fun i j hi hj => this.unique hD hi hj
theorem closed_coh (hn : n % 2 = 0) (hm : CohP m n) (hD : Closure (M0 m n) D n) (h3 : ∀ i j, i < n → j < n → at_ k n i j = tk (D i j)) : CohP k n := by
  intro i j hi hj
  rw [h3 i j hi hj, h3 _ _ (bar_lt hn hj) (bar_lt hn hi), closure_bar hn hm hD i j hi hj]
/-- What Close gives is no greater. -/
theorem closed_le (hD : Closure (M0 m n) D n) {i j : Nat} (hi : i < n) (hj : j < n) (h : i ≠ j) : tk (D i j) ≤ tk (at_ m n i j) := by
  have e : M0 m n i j = tk (at_ m n i j) := by unfold M0; rw [if_neg h]
  by_cases hf : tk (at_ m n i j) < INF
  · have := tk_mono (hD.edges i j hi hj (by rw [e]; exact hf)).2
    rw [e, tk_tk] at this
    exact this
  · have := tk_inf (D i j)
    omega
end
end Go.Proofs.Ytklignhpkojmhaa.M
