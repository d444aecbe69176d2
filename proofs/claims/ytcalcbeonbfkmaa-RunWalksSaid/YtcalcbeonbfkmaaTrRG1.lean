/- What the law's proof needs of G1. -/
import Derived.Test.YtcalcbeonbfkmaaTrRF3
namespace Go.Proofs.Ytcalcbeonbfkmaa.P
open Go.RowKit Go.Proofs.YtcalcbeonbfkmaaW.PrintWords Go.Proofs.YtcalcbeonbfkmaaW.PrintLast Go.Proofs.YtcalcbeonbfkmaaW.PrintMore Go.Proofs.YtcalcbeonbfkmaaO
set_option linter.unusedVariables false
set_option linter.unusedSimpArgs false
/-- A run ars it stands. -/
structure St where
  fuel : Int
  at_ : Int
  regs : List Int
  en : Int
  site : Int
  kind : Int
  ticks : Int
  reads : Int
  arrs : List (List Int)
  marks : List (List Int)
abbrev kL : Kd (List Int) := Kd.slice 2 (Kd.int .i64)
/-- The rows of a run. -/
structure Mem (w W : World) (E : List (Nat × Array Value × Nat)) (vr va vm : Value) (rs : List Int) (ars mks : List (List Int)) : Prop where
  ex : ∃ okR okA : Nat → Prop, Kd.R (Kd.int .i64) 2 W w.heap.size okR vr rs ∧ Kd.S kL 29 W w.heap.size okA va ars ∧ Kd.R kL 29 W w.heap.size (fun k => ¬ okR k ∧ ¬ okA k) vm mks ∧ (∀ k, okR k → ¬ okA k) ∧ (∀ k, okR k ∨ okA k → k < W.heap.size) ∧ ∀ z ∈ E, okR z.1 ∧ vr.ownBlock ≠ some z.1
  hb : Below w.heap.size w W
theorem setCell_grown (w : World) (g i : Nat) (v : Value) : w.grownBy (w.setCell ⟨g, i, none⟩ v) (some g) := by
  refine ⟨rfl, rfl, rfl, by simp [World.setCell], fun k hk hne => Below.heap_setCell w _ v k (fun e => hne (by rw [e]))⟩
theorem ne_types {W : World} {g g' t t' : Nat} {c c' : Array Value} (h : W.heap[g]? = some (.cells c t (0, 0))) (h' : W.heap[g']? = some (.cells c' t' (0, 0))) (hne : t ≠ t') : g ≠ g' := by
  rintro rfl
  rw [h] at h'
  injection h' with h'
  injection h' with _ h'
  exact hne h'
section
variable {w W W1 : World} {E : List (Nat × Array Value × Nat)} {vr va vm : Value} {rs : List Int} {ars mks : List (List Int)}
theorem Mem.below (h : Mem w W E vr va vm rs ars mks) (hb : Below W.heap.size W W1) : Mem w W1 E vr va vm rs ars mks := by
  obtain ⟨⟨okR, okA, h1, h2, h3, h4, h5, h7⟩, h6⟩ := h
  exact ⟨⟨okR, okA, Kd.R_below h1 hb, Kd.S_below h2 hb, Kd.R_below h3 hb, h4, fun k hk => Nat.lt_of_lt_of_le (h5 k hk) hb.size, h7⟩, below_step h6 hb⟩
theorem Mem.box (h : Mem w W E vr va vm rs ars mks) {g t : Nat} {c : Array Value} (hc : W.heap[g]? = some (.cells c t (0, 0))) (t2 : 2 ≠ t) (t29 : 29 ≠ t) (hg : W.grownBy W1 (some g)) (hge : w.heap.size ≤ g) : Mem w W1 E vr va vm rs ars mks := by
  obtain ⟨⟨okR, okA, h1, h2, h3, h4, h5, h7⟩, h6⟩ := h
  have e1 : ∀ q, q ∈ [2] → q ≠ t := fun q hq => by
    rw [List.mem_singleton.1 hq]; exact t2
  have e2 : ∀ q, q ∈ [29, 2] → q ≠ t := fun q hq => by
    rcases List.mem_cons.1 hq with rfl | hq
    · exact t29
    · exact e1 q hq
  exact ⟨⟨okR, okA, R_boxed h1 hc e1 hg, S_boxed h2 hc e2 hg, R_boxed h3 hc e2 hg, h4, fun k hk => Nat.lt_of_lt_of_le (h5 k hk) hg.size, h7⟩, Below_boxed h6 (Nat.le_refl _) hge hg⟩
theorem Mem.typed (h : Mem w W E vr va vm rs ars mks) {g : Nat} (hr : vr.ownBlock = some g) : ∃ c, W.heap[g]? = some (.cells c 2 (0, 0)) := by
  obtain ⟨⟨okR, okA, h1, h2, h3, h4, h5, h7⟩, h6⟩ := h
  exact Kd.R_typed h1 g hr
/-- A register is written. -/
theorem Mem.setReg {gr n cr : Nat} (h : Mem w W E (.slice (some ⟨gr, 0, none⟩) n cr) va vm rs ars mks) (j : Nat) (x : Int) :
    Mem w (W.setCell ⟨gr, j, none⟩ (.int .i64 x)) E (.slice (some ⟨gr, 0, none⟩) n cr) va vm (rs.set j x) ars mks ∧ W.grownBy (W.setCell ⟨gr, j, none⟩ (.int .i64 x)) (some gr) ∧ ∃ c, W.heap[gr]? = some (.cells c 2 (0, 0)) ∧ ∀ z ∈ E, z.1 ≠ gr := by
  obtain ⟨c0, hc0⟩ := h.typed (g := gr) rfl
  obtain ⟨⟨okR, okA, h1, h2, h3, h4, h5, h7⟩, h6⟩ := h
  have HP := Kd.R_putg h1 (j : Int) x
  rw [Int.toNat_natCast] at HP
  obtain ⟨hp, hg⟩ := HP
  have hr : okR gr := h1.1 gr rfl
  have hge : w.heap.size ≤ gr := Kd.R_base h1 gr rfl
  refine ⟨⟨⟨okR, okA, hp, Kd.S_grown h2 hg (fun k hk e => ?_), Kd.R_grown h3 hg (fun k hk e => ?_), h4, fun k hk => Nat.lt_of_lt_of_le (h5 k hk) hg.size, h7⟩, below_set h6 hge⟩, hg, c0, hc0, fun z hz e => (h7 z hz).2 (by rw [e]; rfl)⟩
  · injection e with e; subst e; exact h4 _ hr hk
  · injection e with e; subst e; exact hk.1 hr
/-- A register is read. -/
theorem Mem.reg {gr n cr : Nat} (h : Mem w W E (.slice (some ⟨gr, 0, none⟩) n cr) va vm rs ars mks) (j : Nat) (hj : j < n) :
    W.cell? ⟨gr, j, none⟩ = some (.int .i64 (rs.getD j 0)) ∧ W.frozen? ⟨gr, j, none⟩ = false := by
  obtain ⟨⟨okR, okA, h1, h2, h3, h4, h5, h7⟩, h6⟩ := h
  obtain ⟨a, b⟩ := Kd.R_celln 0 h1 (j : Int) (by omega) (by omega)
  rw [Int.toNat_natCast] at a b
  refine ⟨a.trans ?_, b⟩
  show some (Value.int .i64 (rs.getD (j : Int).toNat 0)) = _
  rw [Int.toNat_natCast]
theorem Mem.regForm (h : Mem w W E vr va vm rs ars mks) (hp : 0 < rs.length) : ∃ gr cr, vr = .slice (some ⟨gr, 0, none⟩) rs.length cr := by
  obtain ⟨⟨okR, okA, h1, h2, h3, h4, h5, h7⟩, h6⟩ := h
  obtain ⟨g, c, e, _⟩ := Kd.R_form h1 hp
  exact ⟨g, c, e⟩
theorem Mem.arrForm (h : Mem w W E vr va vm rs ars mks) (hp : 0 < ars.length) : ∃ ga ca, va = .slice (some ⟨ga, 0, none⟩) ars.length ca := by
  obtain ⟨⟨okR, okA, h1, h2, h3, h4, h5, h7⟩, h6⟩ := h
  obtain ⟨g, c, e, _⟩ := Kd.S_form h2 hp
  exact ⟨g, c, e⟩
/-- An array: read, and written. -/
theorem Mem.arr {ga n ca : Nat} (h : Mem w W E vr (.slice (some ⟨ga, 0, none⟩) n ca) vm rs ars mks) (i : Nat) (hi : i < n) (hp : 0 < (ars.getD i []).length) :
    ∃ gi ci, W.cell? ⟨ga, i, none⟩ = some (.slice (some ⟨gi, 0, none⟩) (ars.getD i []).length ci) ∧ (∃ c, W.heap[gi]? = some (.cells c 2 (0, 0)) ∧ ∀ z ∈ E, z.1 ≠ gi) ∧ ∀ k : Nat, k < (ars.getD i []).length →
      W.cell? ⟨gi, k, none⟩ = some (.int .i64 ((ars.getD i []).getD k 0)) ∧ W.frozen? ⟨gi, k, none⟩ = false ∧
      ∀ x : Int, Mem w (W.setCell ⟨gi, k, none⟩ (.int .i64 x)) E vr (.slice (some ⟨ga, 0, none⟩) n ca) vm rs (ars.set i ((ars.getD i []).set k x)) mks ∧ W.grownBy (W.setCell ⟨gi, k, none⟩ (.int .i64 x)) (some gi) := by
  obtain ⟨⟨okR, okA, h1, h2, h3, h4, h5, h7⟩, h6⟩ := h
  obtain ⟨oki, c, hcl, hM, hcc, hoki, hput⟩ := Kd.S_borrow h2 ([] : List Int) (i : Int) (by omega) (by omega)
  rw [Int.toNat_natCast] at hM hcc hput
  obtain ⟨v, rfl, hR⟩ := hM
  obtain ⟨gi, ci, rfl, hgb, hgl, hty⟩ := Kd.R_form hR hp
  have hg00 : okA gi := (hoki gi (hR.1 gi rfl)).1
  obtain ⟨ct, hct⟩ := hty
  refine ⟨gi, ci, ?_, ⟨ct, hct, fun z hz e => h4 _ (h7 z hz).1 (by rw [e]; exact hg00)⟩, fun k hk => ?_⟩
  · have := hcc 0 _ rfl
    rwa [add_at, Nat.zero_add, show i * kL.sz + 0 = i from Nat.mul_one i] at this
  · obtain ⟨a, b⟩ := Kd.R_celln 0 hR (k : Int) (by omega) (by omega)
    rw [Int.toNat_natCast] at a b
    refine ⟨a.trans (by show some (Value.int .i64 ((ars.getD i []).getD (k : Int).toNat 0)) = _; rw [Int.toNat_natCast]), b, fun x => ?_⟩
    have HP := Kd.R_putg hR (k : Int) x
    rw [Int.toNat_natCast] at HP
    obtain ⟨hp2, hg⟩ := HP
    have hg0 : oki gi := hR.1 gi rfl
    have hA : okA gi := (hoki gi hg0).1
    refine ⟨⟨⟨okR, okA, Kd.R_grown h1 hg (fun k hk e => ?_), hput hg (fun k e => ?_) ⟨_, rfl, ?_⟩, Kd.R_grown h3 hg (fun k hk e => ?_), h4, fun k hk => Nat.lt_of_lt_of_le (h5 k hk) hg.size, h7⟩, below_set h6 hgb⟩, hg⟩
    · injection e with e; subst e; exact h4 _ hk hA
    · injection e with e; subst e; exact hg0
    · have e2 : ((ars.getD i []).set k x).length = (ars.getD i []).length := List.length_set
      exact hp2
    · injection e with e; subst e; exact hk.2 hA
end
section
variable {w W W1 : World} {E : List (Nat × Array Value × Nat)} {vr va vm : Value} {rs : List Int} {ars mks : List (List Int)}
theorem Mem.sub {E' : List (Nat × Array Value × Nat)} (h : Mem w W E vr va vm rs ars mks) (hs : ∀ z ∈ E', z ∈ E) : Mem w W E' vr va vm rs ars mks := by
  obtain ⟨⟨okR, okA, h1, h2, h3, h4, h5, h7⟩, h6⟩ := h
  exact ⟨⟨okR, okA, h1, h2, h3, h4, h5, fun z hz => h7 z (hs z hz)⟩, h6⟩
/-- A box beside the rows is set aside. -/
theorem Mem.cons {g t : Nat} {c : Array Value} (h : Mem w W E vr va vm rs ars mks) (hc : W.heap[g]? = some (.cells c t (0, 0))) (t2 : 2 ≠ t) (t29 : 29 ≠ t) : Mem w W ((g, c, t) :: E) vr va vm rs ars mks := by
  have hty : ∀ g', vr.ownBlock = some g' → ∃ c, W.heap[g']? = some (.cells c 2 (0, 0)) := fun g' => h.typed
  obtain ⟨⟨okR, okA, h1, h2, h3, h4, h5, h7⟩, h6⟩ := h
  have e1 : ∀ q, q ∈ [2] → q ≠ t := fun q hq => by
    rw [List.mem_singleton.1 hq]; exact t2
  have e2 : ∀ q, q ∈ [29, 2] → q ≠ t := fun q hq => by
    rcases List.mem_cons.1 hq with rfl | hq
    · exact t29
    · exact e1 q hq
  refine ⟨⟨fun k => okR k ∨ k = g, fun k => okA k ∧ k ≠ g, Kd.R_mono h1 (fun _ => Or.inl), Kd.S_types h2 hc e2, Kd.R_mono (Kd.R_types h3 hc e2) (fun k hk => ⟨fun hh => hh.elim hk.1.1 hk.2, fun hh => hk.1.2 hh.1⟩), fun k hr ha => hr.elim (fun hr => h4 k hr ha.1) ha.2, fun k hk => ?_, fun z hz => ?_⟩, h6⟩
  · rcases hk with (hk | rfl) | hk
    · exact h5 k (.inl hk)
    · exact blk_lt hc
    · exact h5 k (.inr hk.1)
  · rcases List.mem_cons.1 hz with rfl | hz
    · refine ⟨Or.inr rfl, fun e => ?_⟩
      obtain ⟨c', hc'⟩ := hty _ e
      exact ne_types hc' hc t2 rfl
    · exact ⟨Or.inl (h7 z hz).1, (h7 z hz).2⟩
end
/-- A machine in memory: its box (type tb), its rows; E: boxes that stay ars they are. -/
structure MB (w W : World) (E : List (Nat × Array Value × Nat)) (gb tb : Nat) (cs : Array Value) (vr va vm : Value) (rs : List Int) (ars mks : List (List Int)) : Prop where
  mem : Mem w W E vr va vm rs ars mks
  bx : W.heap[gb]? = some (.cells cs tb (0, 0))
  gw : w.heap.size ≤ gb
  t2 : 2 ≠ tb
  t29 : 29 ≠ tb
  fx : ∀ z ∈ E, W.heap[z.1]? = some (.cells z.2.1 z.2.2 (0, 0)) ∧ True ∧ True ∧ z.1 ≠ gb
section
variable {w W W1 : World} {E : List (Nat × Array Value × Nat)} {gb tb : Nat} {cs : Array Value} {vr va vm : Value} {rs : List Int} {ars mks : List (List Int)}
theorem MB.below (h : MB w W E gb tb cs vr va vm rs ars mks) (hb : Below W.heap.size W W1) : MB w W1 E gb tb cs vr va vm rs ars mks :=
  ⟨h.mem.below hb, (hb.block gb (blk_lt h.bx)).trans h.bx, h.gw, h.t2, h.t29, fun z hz => ⟨(hb.block z.1 (blk_lt (h.fx z hz).1)).trans (h.fx z hz).1, (h.fx z hz).2⟩⟩
theorem MB.drew (h : MB w W E gb tb cs vr va vm rs ars mks) : MB w W.drew E gb tb cs vr va vm rs ars mks := h.below (below_drew1 (Below.refl _ _))
theorem MB.drewN (h : MB w W E gb tb cs vr va vm rs ars mks) (n : Nat) : MB w (W.drewN n) E gb tb cs vr va vm rs ars mks := h.below (pw_below_drewN (Below.refl _ _) n)
theorem MB.alloc (h : MB w W E gb tb cs vr va vm rs ars mks) (o : Obj) : MB w (W.alloc o) E gb tb cs vr va vm rs ars mks := h.below (below_alloc (Below.refl _ _) o)
/-- The box is written. -/
theorem MB.put (h : MB w W E gb tb cs vr va vm rs ars mks) (hg : W.grownBy W1 (some gb)) {cs' : Array Value} (hb : W1.heap[gb]? = some (.cells cs' tb (0, 0))) : MB w W1 E gb tb cs' vr va vm rs ars mks :=
  ⟨h.mem.box h.bx h.t2 h.t29 hg h.gw, hb, h.gw, h.t2, h.t29, fun z hz => ⟨(hg.block z.1 (blk_lt (h.fx z hz).1) (fun e => (h.fx z hz).2.2.2 (Option.some.inj e))).trans (h.fx z hz).1, (h.fx z hz).2⟩⟩
theorem MB.set (h : MB w W E gb tb cs vr va vm rs ars mks) (i : Nat) (v : Value) {cs' : Array Value} (e : cs.setIfInBounds i v = cs') : MB w (W.setCell ⟨gb, i, none⟩ v) E gb tb cs' vr va vm rs ars mks :=
  h.put (setCell_grown W gb i v) (blk_put h.bx i v e)
/-- Another row is written, of int64's. -/
theorem MB.row {g : Nat} {c : Array Value} (h : MB w W E gb tb cs vr va vm rs ars mks) {vr' va' vm' : Value} {rs' : List Int} {ars' mks' : List (List Int)} (hm : Mem w W1 E vr' va' vm' rs' ars' mks') (hg : W.grownBy W1 (some g)) (hc : W.heap[g]? = some (.cells c 2 (0, 0)) ∧ ∀ z ∈ E, z.1 ≠ g) : MB w W1 E gb tb cs vr' va' vm' rs' ars' mks' :=
  ⟨hm, (hg.block gb (blk_lt h.bx) (fun e => ne_types hc.1 h.bx h.t2 (Option.some.inj e).symm)).trans h.bx, h.gw, h.t2, h.t29, fun z hz => ⟨(hg.block z.1 (blk_lt (h.fx z hz).1) (fun e => hc.2 z hz (Option.some.inj e))).trans (h.fx z hz).1, (h.fx z hz).2⟩⟩
theorem MB.setReg {gr n cr : Nat} (h : MB w W E gb tb cs (.slice (some ⟨gr, 0, none⟩) n cr) va vm rs ars mks) (j : Nat) (x : Int) :
    MB w (W.setCell ⟨gr, j, none⟩ (.int .i64 x)) E gb tb cs (.slice (some ⟨gr, 0, none⟩) n cr) va vm (rs.set j x) ars mks := by
  obtain ⟨h1, h2, c, h3⟩ := h.mem.setReg j x
  exact h.row h1 h2 h3
theorem MB.cell (h : MB w W E gb tb cs vr va vm rs ars mks) (i : Nat) {x : Value} (e : cs[i]? = some x := by rfl) : W.cell? ⟨gb, i, none⟩ = some x := (blk_cell h.bx i).trans e
theorem MB.froz (h : MB w W E gb tb cs vr va vm rs ars mks) (i : Nat) : W.frozen? ⟨gb, i, none⟩ = false := bfz ⟨h.bx⟩ i
theorem MB.new {g : Nat} (h : MB w W E gb tb cs vr va vm rs ars mks) (hg : g = W.heap.size) : gb ≠ g := by rw [hg]; exact Nat.ne_of_lt (blk_lt h.bx)
end
end Go.Proofs.Ytcalcbeonbfkmaa.P
