/- What the law's proof needs of PureItvLeast. -/
import Derived.Test.YtbbnpipmjadpoaaTrJM12
namespace Go.Proofs.Ytbbnpipmjadpoaa.M
open Go Go.RowKit Go.Proofs.Ytbbnpipmjadpoaa.P Go.Proofs.YtbbnpipmjadpoaaW.PrintWords Go.Proofs.YtbbnpipmjadpoaaW.PrintMore
def wi (a : Wh) : Int × Int := if a.1 = true then (a.2.1, a.2.2) else (1, 0)
theorem witf (a : Wh) : gimballaw02_whole_itv.f a.1 a.2.1 a.2.2 = some ((wi a).1, (wi a).2, a.1, a.2.1, a.2.2) := by
  unfold gimballaw02_whole_itv.f wi
  by_cases g : a.1 = true
  · rw [if_pos g, if_pos g]
  · rw [if_neg g, if_neg g]
theorem Rp_end {a : Wh} {X : Int → Prop} {t : Int × Int} (hR : Rp a X) (h1 : ∀ v, X v → In t v) (h2 : (X t.1 ∧ X t.2) ∨ (t = (1, 0) ∧ ∀ v, ¬ X v)) : wi a = t := by
  unfold wi
  rcases h2 with ⟨k1, k2⟩ | ⟨k1, k2⟩
  · rcases hR with ⟨_, hn⟩ | ⟨e, a1, a2, a3⟩
    · exact absurd k1 (hn _)
    · rw [if_pos e]
      have b1 := h1 _ a1
      have b2 := h1 _ a2
      have b3 := a3 _ k1
      have b4 := a3 _ k2
      unfold In at b1 b2
      exact Prod.ext (by dsimp only; omega) (by dsimp only; omega)
  · rcases hR with ⟨e, _⟩ | ⟨_, a1, _⟩
    · rw [e, if_neg (by decide), k1]
    · exact absurd a1 (k2 _)
def Sm (p : Int × Int) : Prop := -40 ≤ p.1 ∧ p.1 ≤ p.2 ∧ p.2 ≤ 62
def Em (p : Int × Int) : Prop := p = (1, 0) ∨ Sm p
def Z (d : Int → Option Int) (c : Int → Int → Option Int) (p q : Int × Int) (v : Int) : Prop := ∃ u, (p.1 ≤ u ∧ u ≤ p.2) ∧ (d u = some v ∨ ∃ w, (q.1 ≤ w ∧ w ≤ q.2) ∧ c u w = some v)
theorem Rp_Z (d : Int → Option Int) (c : Int → Int → Option Int) {p q : Int × Int} (N m : Nat) (hN : q.1 + N = q.2 + 1) (hm : p.1 + m = p.2 + 1) : Rp (out d c q.1 N m p.1 (false, 0, 0)) (Z d c p q) := by
  have h0 : Rp ((false, 0, 0) : Wh) (fun _ => False) := Or.inl ⟨rfl, fun _ z => z⟩
  refine Rp_congr (fun v => ⟨?_, ?_⟩) (Rp_out d c q.1 N m p.1 _ _ h0)
  · rintro (z | ⟨u, z, e⟩)
    · exact z.elim
    · refine ⟨u, by omega, ?_⟩
      rcases e with e | ⟨w, e1, e2⟩
      · exact Or.inl e
      · exact Or.inr ⟨w, by omega, e2⟩
  · rintro ⟨u, z, e⟩
    refine Or.inr ⟨u, by omega, ?_⟩
    rcases e with e | ⟨w, e1, e2⟩
    · exact Or.inl e
    · exact Or.inr ⟨w, by omega, e2⟩
theorem bin {o : Int × Int → Int × Int → Int × Int} {c : Int → Int → Option Int} {p q : Int × Int} (hp : Em p) (hq : Em q) {a : Wh} (hR : Rp a (Z d0 c p q))
    (h : Sm p → Sm q → (∀ x y, In p x → In q y → ∀ v, c x y = some v → In (o p q) v) ∧ ((Z d0 c p q (o p q).1 ∧ Z d0 c p q (o p q).2) ∨ (o p q = (1, 0) ∧ ∀ v, ¬ Z d0 c p q v))) : wi a = op2 o p q := by
  by_cases g : p.1 > p.2 ∨ q.1 > q.2
  · have e : op2 o p q = (1, 0) := by unfold op2; rw [if_pos g]
    rw [e]
    have no : ∀ v, ¬ Z d0 c p q v := by
      rintro v ⟨u, z, e1 | ⟨w, e1, _⟩⟩
      · exact absurd e1 (by unfold d0; simp)
      · omega
    exact Rp_end hR (fun v z => absurd z (no v)) (Or.inr ⟨rfl, no⟩)
  · have e : op2 o p q = o p q := by unfold op2; rw [if_neg g]
    rw [e]
    have sp : Sm p := by
      rcases hp with hp | hp
      · exfalso; rw [hp] at g; exact g (Or.inl (by decide))
      · exact hp
    have sq : Sm q := by
      rcases hq with hq | hq
      · exfalso; rw [hq] at g; exact g (Or.inr (by decide))
      · exact hq
    obtain ⟨h1, h2⟩ := h sp sq
    refine Rp_end hR ?_ h2
    rintro v ⟨u, z, e1 | ⟨w, e1, e2⟩⟩
    · exact absurd e1 (by unfold d0; simp)
    · exact h1 u w z e1 v e2
theorem C_mid {a b : Int} (h1 : -10000 ≤ a) (h2 : a ≤ b) (h3 : b ≤ 10000) : C a b = (a, b) := C_S (p := (a, b)) (by unfold S; dsimp only; omega)
theorem Sm_S {p : Int × Int} (h : Sm p) : S p := by unfold Sm at h; unfold S; omega
theorem adS {p q : Int × Int} (hp : -100 ≤ p.1 ∧ p.1 ≤ p.2 ∧ p.2 ≤ 100) (hq : -100 ≤ q.1 ∧ q.1 ≤ q.2 ∧ q.2 ≤ 100) : ad p q = (p.1 + q.1, p.2 + q.2) := by
  unfold ad
  have e1 : dnv p.1 q.1 = p.1 + q.1 := by unfold dnv upv fitm; split <;> omega
  have e2 : upv p.2 q.2 = p.2 + q.2 := by unfold upv fitm; split <;> omega
  rw [e1, e2]
  exact C_mid (by omega) (by omega) (by omega)
theorem neS {p : Int × Int} (hp : Sm p) : ne p = (-p.2, -p.1) := by
  unfold Sm at hp
  unfold ne
  rw [if_neg (by omega)]
  exact C_mid (by omega) (by omega) (by omega)
theorem r1 {p q : Int × Int} (hp : Em p) (hq : Em q) {a : Wh} (hR : Rp a (Z d0 c1 p q)) : wi a = op2 ad p q := by
  refine bin hp hq hR (fun sp sq => ?_)
  unfold Sm at sp sq
  rw [adS (by omega) (by omega)]
  refine ⟨fun x y hx hy v e => ?_, Or.inl ⟨⟨p.1, by omega, Or.inr ⟨q.1, by omega, rfl⟩⟩, ⟨p.2, by omega, Or.inr ⟨q.2, by omega, rfl⟩⟩⟩⟩
  have := Option.some.inj e
  unfold In at *
  dsimp only
  omega
theorem r2 {p q : Int × Int} (hp : Em p) (hq : Em q) {a : Wh} (hR : Rp a (Z d0 c2 p q)) : wi a = op2 ad p (ne q) := by
  have e : op2 ad p (ne q) = op2 (fun p q => ad p (ne q)) p q := by
    rcases hq with e | e
    · rw [e]; unfold op2; rw [if_pos (Or.inr (by decide)), if_pos (Or.inr (by decide))]
    · have e' := e
      unfold Sm at e'
      unfold op2
      rw [neS e]
      by_cases g : p.1 > p.2
      · rw [if_pos (Or.inl g), if_pos (Or.inl g)]
      · rw [if_neg (by dsimp only; omega), if_neg (by omega)]
        show ad p (-q.2, -q.1) = ad p (ne q)
        rw [neS e]
  rw [e]
  refine bin hp hq hR (fun sp sq => ?_)
  have en := neS sq
  unfold Sm at sp sq
  rw [en, adS (by omega) (by dsimp only; omega)]
  dsimp only
  refine ⟨fun x y hx hy v e => ?_, Or.inl ⟨⟨p.1, by omega, Or.inr ⟨q.2, by omega, rfl⟩⟩, ⟨p.2, by omega, Or.inr ⟨q.1, by omega, rfl⟩⟩⟩⟩
  have := Option.some.inj e
  unfold In at *
  dsimp only
  omega
theorem mvS {x y : Int} (hx : -64 ≤ x ∧ x ≤ 64) (hy : -64 ≤ y ∧ y ≤ 64) : mv x y = x * y := by
  obtain ⟨t1, t2, _, _⟩ := sml hx hy
  unfold mv
  rw [fitm_id (a := x) (by omega) (by omega), fitm_id (a := y) (by omega) (by omega)]
  omega
theorem four (a b c d : Int) : (min (min a b) (min c d) = a ∨ min (min a b) (min c d) = b ∨ min (min a b) (min c d) = c ∨ min (min a b) (min c d) = d) ∧ (max (max a b) (max c d) = a ∨ max (max a b) (max c d) = b ∨ max (max a b) (max c d) = c ∨ max (max a b) (max c d) = d) := by omega
theorem r3 {p q : Int × Int} (hp : Em p) (hq : Em q) {a : Wh} (hR : Rp a (Z d0 c3 p q)) : wi a = op2 mu p q := by
  refine bin hp hq hR (fun sp sq => ?_)
  have s1 := Sm_S sp
  have s2 := Sm_S sq
  unfold Sm at sp sq
  refine ⟨fun x y hx hy v e => ?_, Or.inl ?_⟩
  · have := Option.some.inj e
    rw [← this]
    unfold In at hx hy
    obtain ⟨t1, t2, _, _⟩ := sml (x := x) (y := y) (by omega) (by omega)
    exact mu_In s1 s2 hx hy (by omega) (by omega)
  · unfold mu hl
    rw [mvS (by omega) (by omega), mvS (by omega) (by omega), mvS (by omega) (by omega), mvS (by omega) (by omega)]
    obtain ⟨a1, a2, _, _⟩ := sml (x := p.1) (y := q.1) (by omega) (by omega)
    obtain ⟨a3, a4, _, _⟩ := sml (x := p.1) (y := q.2) (by omega) (by omega)
    obtain ⟨a5, a6, _, _⟩ := sml (x := p.2) (y := q.1) (by omega) (by omega)
    obtain ⟨a7, a8, _, _⟩ := sml (x := p.2) (y := q.2) (by omega) (by omega)
    rw [C_mid (by omega) (by omega) (by omega)]
    dsimp only
    obtain ⟨f1, f2⟩ := four (p.1 * q.1) (p.1 * q.2) (p.2 * q.1) (p.2 * q.2)
    have z1 : Z d0 c3 p q (p.1 * q.1) := ⟨p.1, by omega, Or.inr ⟨q.1, by omega, rfl⟩⟩
    have z2 : Z d0 c3 p q (p.1 * q.2) := ⟨p.1, by omega, Or.inr ⟨q.2, by omega, rfl⟩⟩
    have z3 : Z d0 c3 p q (p.2 * q.1) := ⟨p.2, by omega, Or.inr ⟨q.1, by omega, rfl⟩⟩
    have z4 : Z d0 c3 p q (p.2 * q.2) := ⟨p.2, by omega, Or.inr ⟨q.2, by omega, rfl⟩⟩
    constructor
    · rcases f1 with f | f | f | f <;> rw [f] <;> assumption
    · rcases f2 with f | f | f | f <;> rw [f] <;> assumption
theorem r4 {p q : Int × Int} (hp : Em p) (hq : Em q) {a : Wh} (hR : Rp a (Z d0 c4 p q)) : wi a = op2 mi p q := by
  refine bin hp hq hR (fun sp sq => ?_)
  unfold Sm at sp sq
  unfold mi
  rw [C_mid (by omega) (by omega) (by omega)]
  refine ⟨fun x y hx hy v e => ?_, Or.inl ⟨⟨p.1, by omega, Or.inr ⟨q.1, by omega, rfl⟩⟩, ⟨p.2, by omega, Or.inr ⟨q.2, by omega, rfl⟩⟩⟩⟩
  have := Option.some.inj e
  unfold In at *
  dsimp only
  omega
theorem r5 {p q : Int × Int} (hp : Em p) (hq : Em q) {a : Wh} (hR : Rp a (Z d0 c5 p q)) : wi a = op2 ma p q := by
  refine bin hp hq hR (fun sp sq => ?_)
  unfold Sm at sp sq
  unfold ma
  rw [C_mid (by omega) (by omega) (by omega)]
  refine ⟨fun x y hx hy v e => ?_, Or.inl ⟨⟨p.1, by omega, Or.inr ⟨q.1, by omega, rfl⟩⟩, ⟨p.2, by omega, Or.inr ⟨q.2, by omega, rfl⟩⟩⟩⟩
  have := Option.some.inj e
  unfold In at *
  dsimp only
  omega
theorem dvS {x y : Int} (hx : -64 ≤ x ∧ x ≤ 64) (hy : -64 ≤ y ∧ y ≤ 64) (h0 : y ≠ 0) : dv x y = Int.tdiv x y := by
  unfold dv
  rw [fitm_id (a := x) (by omega) (by omega), fitm_id (a := y) (by omega) (by omega)]
  by_cases g : x = 0
  · rw [if_pos (by omega), g, Int.zero_tdiv]
  · rw [if_neg (by omega), if_neg (by omega), tdw (by omega) (by omega)]
theorem dq_ends {p q d : Int × Int} (hp : Sm p) (hq : Sm q) (hd : q.1 ≤ d.1 ∧ d.1 ≤ d.2 ∧ d.2 ≤ q.2) (h0 : 1 ≤ d.1 ∨ d.2 ≤ -1) : Z d0 c6 p q (dq p d).1 ∧ Z d0 c6 p q (dq p d).2 ∧ ¬ (dq p d).1 > (dq p d).2 := by
  unfold Sm at hp hq
  unfold dq
  rw [if_neg (by omega), dvS (by omega) (by omega) (by omega), dvS (by omega) (by omega) (by omega), dvS (by omega) (by omega) (by omega), dvS (by omega) (by omega) (by omega)]
  obtain ⟨_, _, a1, a2⟩ := sml (x := p.1) (y := d.1) (by omega) (by omega)
  obtain ⟨_, _, a3, a4⟩ := sml (x := p.1) (y := d.2) (by omega) (by omega)
  obtain ⟨_, _, a5, a6⟩ := sml (x := p.2) (y := d.1) (by omega) (by omega)
  obtain ⟨_, _, a7, a8⟩ := sml (x := p.2) (y := d.2) (by omega) (by omega)
  unfold hl
  rw [C_mid (by omega) (by omega) (by omega)]
  dsimp only
  obtain ⟨f1, f2⟩ := four (Int.tdiv p.1 d.1) (Int.tdiv p.1 d.2) (Int.tdiv p.2 d.1) (Int.tdiv p.2 d.2)
  have z1 : Z d0 c6 p q (Int.tdiv p.1 d.1) := ⟨p.1, by omega, Or.inr ⟨d.1, by omega, by unfold c6; rw [if_neg (by omega)]⟩⟩
  have z2 : Z d0 c6 p q (Int.tdiv p.1 d.2) := ⟨p.1, by omega, Or.inr ⟨d.2, by omega, by unfold c6; rw [if_neg (by omega)]⟩⟩
  have z3 : Z d0 c6 p q (Int.tdiv p.2 d.1) := ⟨p.2, by omega, Or.inr ⟨d.1, by omega, by unfold c6; rw [if_neg (by omega)]⟩⟩
  have z4 : Z d0 c6 p q (Int.tdiv p.2 d.2) := ⟨p.2, by omega, Or.inr ⟨d.2, by omega, by unfold c6; rw [if_neg (by omega)]⟩⟩
  refine ⟨?_, ?_, by omega⟩
  · rcases f1 with f | f | f | f <;> rw [f] <;> assumption
  · rcases f2 with f | f | f | f <;> rw [f] <;> assumption
theorem r6 {p q : Int × Int} (hp : Em p) (hq : Em q) {a : Wh} (hR : Rp a (Z d0 c6 p q)) : wi a = op2 DV p q := by
  refine bin hp hq hR (fun sp sq => ?_)
  have s1 := Sm_S sp
  have s2 := Sm_S sq
  have sp' := sp
  have sq' := sq
  unfold Sm at sp' sq'
  refine ⟨fun x y hx hy v e => ?_, ?_⟩
  · unfold c6 at e
    by_cases g : y = 0
    · rw [if_pos g] at e; cases e
    · rw [if_neg g] at e
      rw [← Option.some.inj e]
      have hx' := hx
      have hy' := hy
      unfold In at hx' hy'
      exact DV_In s1 s2 hx hy g (by omega) (by omega)
  · have en : ng q = if q.1 ≤ -1 then (q.1, min q.2 (-1)) else (1, 0) := by
      unfold ng me
      dsimp only
      by_cases g : q.1 ≤ -1
      · rw [if_neg (by omega), if_pos g, show max q.1 (-4611686018427387904) = q.1 by omega]
      · rw [if_pos (by omega), if_neg g]
    have ep : ps q = if q.2 ≥ 1 then (max q.1 1, q.2) else (1, 0) := by
      unfold ps me
      dsimp only
      by_cases g : q.2 ≥ 1
      · rw [if_neg (by omega), if_pos g, show min q.2 4611686018427387904 = q.2 by omega]
      · rw [if_pos (by omega), if_neg g]
    have dE : dq p (1, 0) = (1, 0) := by unfold dq; rw [if_pos (by decide)]
    unfold DV
    rw [en, ep]
    by_cases g1 : q.1 ≤ -1
    · rw [if_pos g1]
      obtain ⟨k1, k2, k3⟩ := dq_ends (d := (q.1, min q.2 (-1))) sp sq (by dsimp only; omega) (Or.inr (by dsimp only; omega))
      by_cases g2 : q.2 ≥ 1
      · rw [if_pos g2]
        obtain ⟨k4, k5, k6⟩ := dq_ends (d := (max q.1 1, q.2)) sp sq (by dsimp only; omega) (Or.inl (by dsimp only; omega))
        left
        unfold jn
        rw [if_neg k3, if_neg k6]
        dsimp only
        generalize (dq p (q.1, min q.2 (-1))).1 = u1 at *
        generalize (dq p (q.1, min q.2 (-1))).2 = u2 at *
        generalize (dq p (max q.1 1, q.2)).1 = v1 at *
        generalize (dq p (max q.1 1, q.2)).2 = v2 at *
        constructor
        · by_cases g3 : u1 ≤ v1
          · rw [show min u1 v1 = u1 by omega]; exact k1
          · rw [show min u1 v1 = v1 by omega]; exact k4
        · by_cases g3 : u2 ≤ v2
          · rw [show max u2 v2 = v2 by omega]; exact k5
          · rw [show max u2 v2 = u2 by omega]; exact k2
      · rw [if_neg g2, dE, jn_E (W_dq _ _)]
        exact Or.inl ⟨k1, k2⟩
    · rw [if_neg g1, dE, E_jn]
      by_cases g2 : q.2 ≥ 1
      · rw [if_pos g2]
        obtain ⟨k4, k5, k6⟩ := dq_ends (d := (max q.1 1, q.2)) sp sq (by dsimp only; omega) (Or.inl (by dsimp only; omega))
        exact Or.inl ⟨k4, k5⟩
      · rw [if_neg g2, dE]
        refine Or.inr ⟨rfl, ?_⟩
        rintro v ⟨u, z, e1 | ⟨w, e1, e2⟩⟩
        · exact absurd e1 (by unfold d0; simp)
        · unfold c6 at e2
          rw [if_pos (by omega)] at e2
          cases e2
theorem me_op (p q : Int × Int) : me p q = op2 me p q := by
  unfold op2
  by_cases g : p.1 > p.2 ∨ q.1 > q.2
  · rw [if_pos g]; unfold me; rw [if_pos (by omega)]
  · rw [if_neg g]
theorem r7 {p q : Int × Int} (hp : Em p) (hq : Em q) {a : Wh} (hR : Rp a (Z d0 c7 p q)) : wi a = me p q := by
  rw [me_op]
  refine bin hp hq hR (fun sp sq => ?_)
  unfold Sm at sp sq
  refine ⟨fun x y hx hy v e => ?_, ?_⟩
  · unfold c7 at e
    by_cases g : x = y
    · rw [if_pos g] at e
      rw [← Option.some.inj e]
      exact In_me hx (g ▸ hy)
    · rw [if_neg g] at e; cases e
  · unfold me
    by_cases g : max p.1 q.1 > min p.2 q.2
    · rw [if_pos (by omega)]
      refine Or.inr ⟨rfl, ?_⟩
      rintro v ⟨u, z, e1 | ⟨w, e1, e2⟩⟩
      · exact absurd e1 (by unfold d0; simp)
      · unfold c7 at e2
        by_cases g2 : u = w
        · omega
        · rw [if_neg g2] at e2; cases e2
    · rw [if_neg (by omega)]
      dsimp only
      exact Or.inl ⟨⟨max p.1 q.1, by omega, Or.inr ⟨max p.1 q.1, by omega, by unfold c7; rw [if_pos rfl]⟩⟩, ⟨min p.2 q.2, by omega, Or.inr ⟨min p.2 q.2, by omega, by unfold c7; rw [if_pos rfl]⟩⟩⟩
theorem noZ {d : Int → Option Int} {q : Int × Int} (v : Int) : ¬ Z d c0 (1, 0) q v := by
  rintro ⟨u, z, _⟩
  dsimp only at z
  omega
theorem Z_d {d : Int → Option Int} {p q : Int × Int} {v : Int} (h : Z d c0 p q v) : ∃ u, (p.1 ≤ u ∧ u ≤ p.2) ∧ d u = some v := by
  obtain ⟨u, z, e | ⟨w, _, e⟩⟩ := h
  · exact ⟨u, z, e⟩
  · exact absurd e (by unfold c0; simp)
theorem r9 {p q : Int × Int} (hp : Em p) {a : Wh} (hR : Rp a (Z d9 c0 p q)) : wi a = ne p := by
  rcases hp with e | sp
  · subst e
    have : ne (1, 0) = (1, 0) := by unfold ne; rw [if_pos (by decide)]
    rw [this]
    exact Rp_end hR (fun v z => absurd z (noZ v)) (Or.inr ⟨rfl, noZ⟩)
  · have en := neS sp
    unfold Sm at sp
    rw [en]
    refine Rp_end hR (fun v z => ?_) (Or.inl ⟨⟨p.2, by omega, Or.inl rfl⟩, ⟨p.1, by omega, Or.inl rfl⟩⟩)
    obtain ⟨u, z1, e⟩ := Z_d z
    have := Option.some.inj e
    unfold In
    dsimp only
    omega
theorem r10 {p q : Int × Int} (hp : Em p) {a : Wh} (hR : Rp a (Z d10 c0 p q)) : wi a = ab p := by
  rcases hp with e | sp
  · subst e
    have : ab (1, 0) = (1, 0) := by unfold ab; rw [if_pos (Or.inl (by decide))]
    rw [this]
    exact Rp_end hR (fun v z => absurd z (noZ v)) (Or.inr ⟨rfl, noZ⟩)
  · have s1 := Sm_S sp
    unfold Sm at sp
    have hin : ∀ v, Z d10 c0 p q v → In (ab p) v := by
      intro v z
      obtain ⟨u, z1, e⟩ := Z_d z
      rw [← Option.some.inj e]
      exact ab_In z1 (by omega) (by omega)
    refine Rp_end hR hin (Or.inl ?_)
    have zz : ∀ u, (p.1 ≤ u ∧ u ≤ p.2) → Z d10 c0 p q (if u < 0 then -u else u) := fun u h => ⟨u, h, Or.inl rfl⟩
    unfold ab
    by_cases g1 : p.1 ≥ 0
    · rw [if_pos (Or.inr g1)]
      have k1 := zz p.1 (by omega)
      have k2 := zz p.2 (by omega)
      rw [if_neg (by omega)] at k1 k2
      exact ⟨k1, k2⟩
    · rw [if_neg (by omega)]
      by_cases g2 : p.2 ≤ 0
      · rw [if_pos g2, C_mid (by omega) (by omega) (by omega)]
        have k1 := zz p.1 (by omega)
        rw [if_pos (by omega)] at k1
        have k2 := zz p.2 (by omega)
        refine ⟨?_, k1⟩
        dsimp only
        by_cases g3 : p.2 < 0
        · rw [if_pos g3] at k2; exact k2
        · rw [if_neg g3] at k2; rw [show -p.2 = p.2 by omega]; exact k2
      · rw [if_neg g2, C_mid (by omega) (by omega) (by omega)]
        have k0 := zz 0 (by omega)
        rw [if_neg (by omega)] at k0
        refine ⟨k0, ?_⟩
        dsimp only
        by_cases g3 : -p.1 ≤ p.2
        · have k := zz p.2 (by omega)
          rw [if_neg (by omega)] at k
          rw [show max (-p.1) p.2 = p.2 by omega]; exact k
        · have k := zz p.1 (by omega)
          rw [if_pos (by omega)] at k
          rw [show max (-p.1) p.2 = -p.1 by omega]; exact k
theorem r8 {p q : Int × Int} (hp : Em p) (hq : Em q) {a : Wh} (hR : Rp a (fun v => Z d8 c0 p q v ∨ (q.1 ≤ v ∧ v ≤ q.2))) : wi a = jn p q := by
  have zin : ∀ v, Z d8 c0 p q v ↔ (p.1 ≤ v ∧ v ≤ p.2) := by
    intro v
    constructor
    · intro z
      obtain ⟨u, z1, e⟩ := Z_d z
      rw [← Option.some.inj e]; exact z1
    · intro z; exact ⟨v, z, Or.inl rfl⟩
  have hR2 : Rp a (fun v => (p.1 ≤ v ∧ v ≤ p.2) ∨ (q.1 ≤ v ∧ v ≤ q.2)) := Rp_congr (fun v => by rw [zin v]) hR
  rcases hp with e | sp
  · subst e
    rw [E_jn]
    rcases hq with e | sq
    · subst e
      exact Rp_end hR2 (fun v z => by dsimp only at z; omega) (Or.inr ⟨rfl, fun v z => by dsimp only at z; omega⟩)
    · unfold Sm at sq
      refine Rp_end hR2 (fun v z => ?_) (Or.inl ⟨Or.inr (by omega), Or.inr (by omega)⟩)
      rcases z with z | z
      · dsimp only at z; omega
      · exact z
  · have wp : W p := Or.inr (Sm_S sp)
    unfold Sm at sp
    rcases hq with e | sq
    · subst e
      rw [jn_E wp]
      refine Rp_end hR2 (fun v z => ?_) (Or.inl ⟨Or.inl (by omega), Or.inl (by omega)⟩)
      rcases z with z | z
      · exact z
      · dsimp only at z; omega
    · unfold Sm at sq
      unfold jn
      rw [if_neg (by omega), if_neg (by omega)]
      refine Rp_end hR2 (fun v z => by unfold In; dsimp only; omega) (Or.inl ⟨?_, ?_⟩)
      · dsimp only; omega
      · dsimp only; omega
theorem minf (k : Nat) (a b c d : Int) : itv_Min.f (k + 1) a b c d = some (op2 mi (C a b) (C c d)) := by
  unfold itv_Min.f itv_both_itv_Min_1.f op2
  rw [sound1, sound1, Option.bind_some, Option.bind_some]
  generalize C a b = p at *
  generalize C c d = q at *
  unfold itv_None.f
  rw [Option.bind_some, Option.bind_some]
  have jt : itv_both_itv_Min_1.j0 (k + 1) true p.1 p.2 q.1 q.2 = some (1, 0) := rfl
  by_cases h1 : p.1 > p.2
  · rw [decide_eq_true h1, if_pos rfl, jt, if_pos (Or.inl h1), Option.bind_some]
  rw [decide_eq_false h1, if_neg (by decide)]
  by_cases h2 : q.1 > q.2
  · rw [decide_eq_true h2, jt, if_pos (Or.inr h2), Option.bind_some]
  rw [decide_eq_false h2, if_neg (by omega : ¬ (p.1 > p.2 ∨ q.1 > q.2))]
  simp only [itv_both_itv_Min_1.j0]
  unfold itv_Min_1.f mi
  rw [if_neg (by decide), mnm, mnm, of1, Option.bind_some, Option.bind_some, Option.bind_some]
theorem maxf (k : Nat) (a b c d : Int) : itv_Max.f (k + 1) a b c d = some (op2 ma (C a b) (C c d)) := by
  unfold itv_Max.f itv_both_itv_Max_1.f op2
  rw [sound1, sound1, Option.bind_some, Option.bind_some]
  generalize C a b = p at *
  generalize C c d = q at *
  unfold itv_None.f
  rw [Option.bind_some, Option.bind_some]
  have jt : itv_both_itv_Max_1.j0 (k + 1) true p.1 p.2 q.1 q.2 = some (1, 0) := rfl
  by_cases h1 : p.1 > p.2
  · rw [decide_eq_true h1, if_pos rfl, jt, if_pos (Or.inl h1), Option.bind_some]
  rw [decide_eq_false h1, if_neg (by decide)]
  by_cases h2 : q.1 > q.2
  · rw [decide_eq_true h2, jt, if_pos (Or.inr h2), Option.bind_some]
  rw [decide_eq_false h2, if_neg (by omega : ¬ (p.1 > p.2 ∨ q.1 > q.2))]
  simp only [itv_both_itv_Max_1.j0]
  unfold itv_Max_1.f ma
  rw [if_neg (by decide), mxm, mxm, of1, Option.bind_some, Option.bind_some, Option.bind_some]
theorem L2_end {p q : Int × Int} (hp : Em p) (hq : Em q) {a b c d e f g h i j : Wh} (e1 : wi a = op2 ad p q) (e2 : wi b = op2 ad p (ne q)) (e3 : wi c = op2 mu p q) (e4 : wi d = op2 mi p q) (e5 : wi e = op2 ma p q) (e6 : wi f = op2 DV p q) (e7 : wi g = me p q) (e8 : wi h = jn p q) (e9 : wi i = ne p) (e10 : wi j = ab p) :
    L2 20 (q.2 + 1) p q a b c d e f g h i j = some true := by
  have cp : C p.1 p.2 = p := by
    rcases hp with z | z
    · rw [z]; rfl
    · exact C_S (Sm_S z)
  have cq : C q.1 q.2 = q := by
    rcases hq with z | z
    · rw [z]; rfl
    · exact C_S (Sm_S z)
  have eD : DD p q = op2 DV p q := rfl
  unfold L2
  show gimballaw02_ItvLeast.l2 (19 + 1) _ _ _ _ _ _ _ _ _ _ _ _ _ _ _ _ _ _ _ _ _ _ _ _ _ _ _ _ _ _ _ _ _ _ _ = _
  simp only [gimballaw02_ItvLeast.l2]
  rw [if_neg (by omega), addf 18, Option.bind_some, witf, Option.bind_some, cp, cq, e1]
  dsimp only
  rw [beq_self_eq_true, beq_self_eq_true, if_pos (by rfl), subf 18, Option.bind_some, witf, Option.bind_some, cp, cq, e2]
  dsimp only
  rw [beq_self_eq_true, beq_self_eq_true, if_pos (by rfl), mulf 16, Option.bind_some, witf, Option.bind_some, cp, cq, e3]
  dsimp only
  rw [beq_self_eq_true, beq_self_eq_true, if_pos (by rfl), minf 18, Option.bind_some, witf, Option.bind_some, cp, cq, e4]
  dsimp only
  rw [beq_self_eq_true, beq_self_eq_true, if_pos (by rfl), maxf 18, Option.bind_some, witf, Option.bind_some, cp, cq, e5]
  dsimp only
  rw [beq_self_eq_true, beq_self_eq_true, if_pos (by rfl), divf 17, Option.bind_some, witf, Option.bind_some, cp, cq, eD, e6]
  dsimp only
  rw [beq_self_eq_true, beq_self_eq_true, if_pos (by rfl), negf', Option.bind_some, witf, Option.bind_some, cp, e9]
  dsimp only
  rw [beq_self_eq_true, beq_self_eq_true, if_pos (by rfl), absf' 18, Option.bind_some, witf, Option.bind_some, cp, e10]
  dsimp only
  rw [beq_self_eq_true, beq_self_eq_true, if_pos (by rfl), meetf 18, Option.bind_some, witf, Option.bind_some, cp, cq, e7]
  dsimp only
  rw [beq_self_eq_true, beq_self_eq_true, if_pos (by rfl), joinf, Option.bind_some, witf, Option.bind_some, cp, cq, e8]
  dsimp only
  rw [beq_self_eq_true, beq_self_eq_true]
  rfl
theorem smallf (a b : Int) : ∃ p, gimballaw02_small.f a b = some p ∧ Em p := by
  unfold gimballaw02_small.f
  have hb : 0 ≤ IntKind.u64.wrap b := by rw [IntKind.wrap_u64]; omega
  have ha : 0 ≤ IntKind.u64.wrap a := by rw [IntKind.wrap_u64]; omega
  have m1 : 0 ≤ Int.tmod (IntKind.u64.wrap b) 25 := Int.tmod_nonneg _ hb
  have m2 : Int.tmod (IntKind.u64.wrap b) 25 < 25 := Int.tmod_lt_of_pos _ (by omega)
  have m3 : 0 ≤ Int.tmod (IntKind.u64.wrap a) 80 := Int.tmod_nonneg _ ha
  have m4 : Int.tmod (IntKind.u64.wrap a) 80 < 80 := Int.tmod_lt_of_pos _ (by omega)
  generalize Int.tmod (IntKind.u64.wrap b) 25 = n at *
  generalize Int.tmod (IntKind.u64.wrap a) 80 = l at *
  rw [w64 (x := n) (by omega) (by omega), w64 (x := l) (by omega) (by omega), w64 (x := l - 40) (by omega) (by omega), w64 (x := l - 40 + n) (by omega) (by omega)]
  by_cases g : n = 24
  · rw [if_pos g]; exact ⟨_, rfl, Or.inl rfl⟩
  · rw [if_neg g]; exact ⟨_, rfl, Or.inr (by unfold Sm; dsimp only; omega)⟩
theorem Em_n {p : Int × Int} (h : Em p) : (∃ n : Nat, p.1 + n = p.2 + 1) ∧ -64 ≤ p.1 ∧ p.2 < 64 := by
  rcases h with e | e
  · rw [e]; exact ⟨⟨0, rfl⟩, by decide, by decide⟩
  · unfold Sm at e; exact ⟨⟨(p.2 + 1 - p.1).toNat, by omega⟩, by omega, by omega⟩
end Go.Proofs.Ytbbnpipmjadpoaa.M
namespace Go.Proofs.Ytbbnpipmjadpoaa.Pure
open Go Go.RowKit Go.Proofs.Ytbbnpipmjadpoaa.P Go.Proofs.YtbbnpipmjadpoaaW.PrintWords Go.Proofs.YtbbnpipmjadpoaaW.PrintMore Go.Proofs.Ytbbnpipmjadpoaa.M
theorem ItvLeast : gimballaw02_ItvLeast.Pure := by
  intro a b c d _ _ _ _
  obtain ⟨p, hp, ep⟩ := smallf a b
  obtain ⟨q, hq, eq⟩ := smallf c d
  obtain ⟨⟨m, hm⟩, p1, p2⟩ := Em_n ep
  obtain ⟨⟨N, hN⟩, q1, q2⟩ := Em_n eq
  refine ⟨m * (2 * N + 2) + (N + 19) + 2, ?_⟩
  unfold gimballaw02_ItvLeast.f
  rw [hp, Option.bind_some, hq, Option.bind_some]
  show L0 (m * (2 * N + 2) + (N + 19) + 2) p.1 p q (false, 0, 0) (false, 0, 0) (false, 0, 0) (false, 0, 0) (false, 0, 0) (false, 0, 0) (false, 0, 0) (false, 0, 0) (false, 0, 0) (false, 0, 0) = some true
  rw [L0_run p2 q2 q1 N hN m (N + 19) p.1 _ _ _ _ _ _ _ _ _ _ hm p1, show N + 19 + 1 = N + (18 + 2) by omega, L2_run q2 N 18 q.1 _ _ _ _ _ _ _ _ _ _ hN q1]
  have z := fun (dd : Int → Option Int) (cc : Int → Int → Option Int) => Rp_Z dd cc (p := p) (q := q) N m hN hm
  refine L2_end ep eq (r1 ep eq (z _ _)) (r2 ep eq (z _ _)) (r3 ep eq (z _ _)) (r4 ep eq (z _ _)) (r5 ep eq (z _ _)) (r6 ep eq (z _ _)) (r7 ep eq (z _ _)) (r8 ep eq ?_) (r9 (q := q) ep (z _ _)) (r10 (q := q) ep (z _ _))
  refine Rp_congr (fun v => ⟨?_, ?_⟩) (Rp_inn _ 0 N q.1 _ _ (z d8 c0))
  · rintro (t | ⟨u, t, e⟩)
    · exact Or.inl t
    · have := Option.some.inj e
      exact Or.inr (by omega)
  · rintro (t | t)
    · exact Or.inl t
    · exact Or.inr ⟨v, by omega, rfl⟩
end Go.Proofs.Ytbbnpipmjadpoaa.Pure
