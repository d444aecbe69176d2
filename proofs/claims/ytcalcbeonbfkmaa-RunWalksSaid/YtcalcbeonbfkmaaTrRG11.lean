/- What the law's proof needs of G11. -/
import Derived.Test.YtcalcbeonbfkmaaTrRG10
namespace Go.Proofs.Ytcalcbeonbfkmaa.P
open Go.RowKit Go.Proofs.YtcalcbeonbfkmaaW.PrintWords Go.Proofs.YtcalcbeonbfkmaaW.PrintLast Go.Proofs.YtcalcbeonbfkmaaW.PrintMore Go.Proofs.YtcalcbeonbfkmaaO
attribute [local go_sem] max2_int min2_int max_two min_two max_three min_three max_four min_four
set_option linter.unusedVariables false
set_option linter.unusedSimpArgs false
theorem MB.lower {w W W1 : World} {E : List (Nat × Array Value × Nat)} {gb tb : Nat} {cb : Array Value} {vr va vm : Value} {rs : List Int} {ars mks : List (List Int)} (h : MB W1 W E gb tb cb vr va vm rs ars mks) (hb : Below w.heap.size w W1) : MB w W E gb tb cb vr va vm rs ars mks := by
  obtain ⟨⟨⟨okR, okA, h1, h2, h3, h4, h5, h7⟩, h6⟩, hx, hw, t2, t29, fx⟩ := h
  have hs := hb.size
  exact ⟨⟨⟨okR, okA, Kd.R_lower h1 hs, Kd.S_lower h2 hs, Kd.R_lower h3 hs, h4, h5, h7⟩, below_step hb h6⟩, hx, Nat.le_trans hs hw, t2, t29, fx⟩
theorem Mem.consL {w W : World} {E : List (Nat × Array Value × Nat)} {vr va vm : Value} {rs : List Int} {ars mks : List (List Int)} (h : Mem w W E vr va vm rs ars mks) : ∀ {L : List (Nat × Array Value × Nat)}, (∀ z ∈ L, W.heap[z.1]? = some (.cells z.2.1 z.2.2 (0, 0)) ∧ 2 ≠ z.2.2 ∧ 29 ≠ z.2.2) → Mem w W (L ++ E) vr va vm rs ars mks
  | [], _ => h
  | z :: L, hL => (Mem.consL h (fun z hz => hL z (List.mem_cons_of_mem _ hz))).cons (hL z List.mem_cons_self).1 (hL z List.mem_cons_self).2.1 (hL z List.mem_cons_self).2.2
theorem MB.consL {w W : World} {E : List (Nat × Array Value × Nat)} {gb tb : Nat} {cb : Array Value} {vr va vm : Value} {rs : List Int} {ars mks : List (List Int)} (h : MB w W E gb tb cb vr va vm rs ars mks) {L : List (Nat × Array Value × Nat)} (hL : ∀ z ∈ L, W.heap[z.1]? = some (.cells z.2.1 z.2.2 (0, 0)) ∧ 2 ≠ z.2.2 ∧ 29 ≠ z.2.2 ∧ z.1 ≠ gb) : MB w W (L ++ E) gb tb cb vr va vm rs ars mks :=
  ⟨h.mem.consL (fun z hz => ⟨(hL z hz).1, (hL z hz).2.1, (hL z hz).2.2.1⟩), h.bx, h.gw, h.t2, h.t29, fun z hz => (List.mem_append.1 hz).elim (fun hz => ⟨(hL z hz).1, trivial, trivial, (hL z hz).2.2.2⟩) (h.fx z)⟩
theorem Mem.reads {w W : World} {E : List (Nat × Array Value × Nat)} {vr : Value} {rs : List Int} {ars mks : List (List Int)} {A2 A3 : Option Addr} {n2 n3 c2 c3 : Nat} (h : Mem w W E vr (.slice A2 n2 c2) (.slice A3 n3 c3) rs ars mks) : Kd.C kL W A2 n2 ars ∧ Kd.C kL W A3 n3 mks := by
  obtain ⟨⟨okR, okA, h1, h2, h3, h4, h5, h7⟩, h6⟩ := h
  have a2 := Kd.S_reads' h2
  have a3 := Kd.R_reads' h3
  exact ⟨by rw [a2.1]; exact a2.2.2, by rw [a3.1]; exact a3.2.2⟩
theorem MB.bare0 {w W : World} {E : List (Nat × Array Value × Nat)} {gb tb : Nat} {cb : Array Value} {vr va vm : Value} {rs : List Int} {ars mks : List (List Int)} (h : MB w W E gb tb cb vr va vm rs ars mks) : MB w W [] gb tb cb vr va vm rs ars mks := ⟨h.mem.sub (fun z hz => nomatch hz), h.bx, h.gw, h.t2, h.t29, fun z hz => nomatch hz⟩
theorem stOps_ge {b : Nat} {z : Nat × Array Value × Nat} (hz : z ∈ stOps b) : b < z.1 ∧ 2 ≠ z.2.2 ∧ 29 ≠ z.2.2 := by
  simp only [stOps, List.mem_cons, List.not_mem_nil, or_false] at hz
  rcases hz with rfl | rfl | rfl | rfl | rfl | rfl | rfl | rfl | rfl | rfl | rfl | rfl | rfl | rfl <;> simp
theorem MB.code {w W : World} {E : List (Nat × Array Value × Nat)} {gb tb : Nat} {cb : Array Value} {vr va vm : Value} {rs : List Int} {ars mks : List (List Int)} {G : Gr} {i : Int} {ad0 : Addr} {y : S52} (hm : MB w W E gb tb cb vr va vm rs ars mks) (hG : G.Held w) (hi : 0 ≤ i ∧ i < (G.l0.length : Int)) (ee : G.A0 = some ad0) (hy : rd_T52 G.l0 i = y) :
    W.cell? (ad0.add (i.toNat * 8)) = some (.int .i64 y.f0) ∧ W.cell? ⟨(ad0.add (i.toNat * 8)).block, (ad0.add (i.toNat * 8)).off + 1, none⟩ = some (.int .i64 y.f1) ∧ W.cell? ⟨(ad0.add (i.toNat * 8)).block, (ad0.add (i.toNat * 8)).off + 2, none⟩ = some (.int .i64 y.f2) ∧ W.cell? ⟨(ad0.add (i.toNat * 8)).block, (ad0.add (i.toNat * 8)).off + 3, none⟩ = some (.int .i64 y.f3) ∧ W.cell? ⟨(ad0.add (i.toNat * 8)).block, (ad0.add (i.toNat * 8)).off + 4, none⟩ = some (.int .i64 y.f4) ∧ W.cell? ⟨(ad0.add (i.toNat * 8)).block, (ad0.add (i.toNat * 8)).off + 5, none⟩ = some (.int .i64 y.f5) ∧ W.cell? ⟨(ad0.add (i.toNat * 8)).block, (ad0.add (i.toNat * 8)).off + 6, none⟩ = some (.int .i64 y.f6.f0) ∧ W.cell? ⟨(ad0.add (i.toNat * 8)).block, (ad0.add (i.toNat * 8)).off + 7, none⟩ = some (.int .i64 y.f6.f1) := by
  obtain ⟨ad, e2, h0, h1, h2, h3, h4, h5, h6, h7⟩ := at_T52 ((hG.below hm.mem.hb).h0) i hi.1 hi.2
  rw [ee] at e2
  injection e2 with e2
  subst e2
  rw [hy] at h0 h1 h2 h3 h4 h5 h6 h7
  exact ⟨h0, h1, h2, h3, h4, h5, h6, h7⟩
/-- One step of the code's machine. -/
def stepC (G : Gr) (sc : List Int) (S : St) : St := opS G sc { S with at_ := (rd_T52 G.l0 S.at_).f6.f0 } (rd_T52 G.l0 S.at_)
def stepN (G : Gr) (sc : List Int) (S : St) : Nat → St
  | 0 => S
  | k + 1 => stepC G sc (stepN G sc S k)
/-- A run that comes to its end. -/
structure Runs (G : Gr) (sc : List Int) (S : St) (N : Nat) : Prop where
  good : ∀ k, k ≤ N → Good G sc (stepN G sc S k)
  go : ∀ k, k < N → (stepN G sc S k).en = 0 ∧ 0 ≤ (stepN G sc S k).at_ ∧ (stepN G sc S k).at_ < (G.l0.length : Int)
  stop : (stepN G sc S N).en ≠ 0
def WalkP (w : World) (E : List (Nat × Array Value × Nat)) (G : Gr) (vs : Value) (gb gr cr : Nat) (va : Value) (sc : List Int) (S0 : St) (N d : Nat) (wr : World) : Prop :=
  d ≤ N ∧ ∃ vm, MC w wr E G vs gb (.slice (some ⟨gr, 0, none⟩) G.regs.toNat cr) va vm (stepN G sc S0 (N - d))
theorem least {P : Nat → Prop} : ∀ d, P d → ∃ m, P m ∧ ∀ k, P k → m ≤ k := fun d => Nat.strongRecOn d fun d ih h => by
  by_cases e : ∃ k, k < d ∧ P k
  · obtain ⟨k, hk, hp⟩ := e
    exact ih k hk hp
  · exact ⟨d, h, fun k hk => Nat.le_of_not_lt fun hl => e ⟨k, hl, hk⟩⟩
open Classical in
noncomputable def dist (P : Nat → World → Prop) (w : World) : Nat := if h : ∃ m, P m w ∧ ∀ k, P k w → m ≤ k then Classical.choose h else 0
theorem dist_le {P : Nat → World → Prop} {w : World} {d : Nat} (h : P d w) : dist P w ≤ d := by
  have hl := least (P := fun d => P d w) d h
  unfold dist
  rw [dif_pos hl]
  exact (Classical.choose_spec hl).2 d h
theorem dist_spec {P : Nat → World → Prop} {w : World} {d : Nat} (h : P d w) : P (dist P w) w := by
  have hl := least (P := fun d => P d w) d h
  unfold dist
  rw [dif_pos hl]
  exact (Classical.choose_spec hl).1
theorem grown_trans {w1 w2 w3 : World} {r : Option Nat} (h1 : w1.grownBy w2 r) (h2 : w2.grownBy w3 r) : w1.grownBy w3 r :=
  ⟨h2.os.trans h1.os, h2.tape.trans h1.tape, h2.output.trans h1.output, Nat.le_trans h1.size h2.size, fun k hk hne => (h2.block k (Nat.lt_of_lt_of_le hk h1.size) hne).trans (h1.block k hk hne)⟩
/-- A walk that is held. -/
structure Hold (p : Prop) : Prop where
  out : p
/-- An outcome that is returned. -/
def RetO (e : Ending) (w' : World) (G : Gr) (S : St) : Prop := ∃ A1 c1 A2 c2 A3 c3 b1 b2 ok1 ok2 ok3, e = .returned (.agg #[.int .i64 S.en, .int .i64 S.site, .int .i64 S.kind, .int .i64 S.ticks, .int .i64 S.reads, .slice A1 (S.regs.take G.l5.length).length c1, .slice A2 S.arrs.length c2, .slice A3 S.marks.length c3]) ∧
  Kd.R (Kd.int .i64) 2 w' b1 ok1 (.slice A1 (S.regs.take G.l5.length).length c1) (S.regs.take G.l5.length) ∧ Kd.S kL 29 w' b2 ok2 (.slice A2 S.arrs.length c2) S.arrs ∧ Kd.R kL 29 w' b2 ok3 (.slice A3 S.marks.length c3) S.marks
theorem set8g {w : World} {g : Nat} {t : TypeId} {o0 o1 o2 o3 o4 o5 o6 o7 : Value} (h : w.heap[g]? = some (.cells #[o0, o1, o2, o3, o4, o5, o6, o7] t (0, 0))) (x0 x1 x2 x3 x4 x5 x6 x7 : Value) :
    ∀ w1, w1 = (((((((w.setCell ⟨g, 0, none⟩ x0).setCell ⟨g, 1, none⟩ x1).setCell ⟨g, 2, none⟩ x2).setCell ⟨g, 3, none⟩ x3).setCell ⟨g, 4, none⟩ x4).setCell ⟨g, 5, none⟩ x5).setCell ⟨g, 6, none⟩ x6).setCell ⟨g, 7, none⟩ x7 →
    w1.heap[g]? = some (.cells #[x0, x1, x2, x3, x4, x5, x6, x7] t (0, 0)) ∧ w.grownBy w1 (some g) := by
  intro w1 e1
  refine ⟨(set8 h x0 x1 x2 x3 x4 x5 x6 x7 w1 e1).1, ?_⟩
  rw [e1]
  exact grown_trans (grown_trans (grown_trans (grown_trans (grown_trans (grown_trans (grown_trans (setCell_grown _ g 0 _) (setCell_grown _ g 1 _)) (setCell_grown _ g 2 _)) (setCell_grown _ g 3 _)) (setCell_grown _ g 4 _)) (setCell_grown _ g 5 _)) (setCell_grown _ g 6 _)) (setCell_grown _ g 7 _)
def N15T : Bool × List (List Nat × List Nat) := (true, [([], []), ([0], [0]), ([], []), ([2], [2]), ([3], [3]), ([4], [4]), ([1, 5], [1, 5]), ([6], [6]), ([], []), ([8, 7, 0, 1, 2, 3, 4, 5, 6, 7, 8], [7, 8])])
def N15B : List Nat := [0, 1, 0, 4, 12, 28, 63, 127, 0, 511]
theorem N15tab : rtab .any (opsOf Try.f15 13) = N15T := by kernel_rfl
theorem N15bits : waitsOk N15T.2 N15B = true := by kernel_rfl
set_option maxHeartbeats 8000000 in
set_option maxRecDepth 100000 in
theorem walk_calls (G : Gr) (w : World) (hG : G.Held w) (As : Option Addr) (sc : List Int) (cs : Nat) (f : Int) (hsc : Kd.C (Kd.int .i64) w As sc.length sc) (hl : sc.length ≤ 9223372036854775807) (hF : FitOK G) {N : Nat} (hR : Runs G sc (beginS G (mx f 0) G.l5.length G.l6.length) N) :
    Calls Try.prog 15 #[G.v, .slice As sc.length cs, .int .i64 f, .nilFunc] w fun e w' => RetO e w' G (stepN G sc (beginS G (mx f 0) G.l5.length G.l6.length) N) ∧ Below w.heap.size w w' := by
  have hu28 := Try.underlying28
  have hu74 := Try.underlying74
  have hu36 := Try.underlying36
  have hu52 := Try.underlying52
  have hu71 := Try.underlying71
  have hu50 := Try.underlying50
  have hfn : ∀ W : World, (binOp .neq 45 .nilFunc .nilFunc).run Try.prog W = .ok (.bool false) W := fun _ => by kernel_rfl
  have HB := Aside0.mk (Below.refl w.heap.size w)
  obtain ⟨S0, hS0⟩ : ∃ S, beginS G (mx f 0) G.l5.length G.l6.length = S := ⟨_, rfl⟩
  rw [hS0] at hR ⊢
  have KS0 := Aside0.mk hS0
  have KR := Aside0.mk hR
  have KF := Aside0.mk hF
  have KG := Aside0.mk hG
  have KC := Aside0.mk hsc
  clear hR hF hG hsc hS0
  have KD : Aside0 (0 ≤ G.regs ∧ (G.l5.length : Int) ≤ G.regs ∧ G.regs ≤ 10000) := ⟨by obtain ⟨ds, hD, _⟩ := KF.out.rest; have := hD.regs; have := hD.le; have := KF.out.n2; have := KF.out.parts.n5; omega⟩
  go_enter Try.func15, Try.ntmps15
  go_wp2_with (first | ((with_reducible refine gate_dst (N := 4) rfl ?_); refine boxQ 4 (gC G) 28 HB ?_; clear HB; intro g4 w1 _ GW4 B4 _ HB; have hcf := hcf8 B4; obtain ⟨_, _, _, _, _, _, _, _, _, _, _, _, _, _, _, _⟩ := hcf) | ((with_reducible refine gate_dst (N := 8) rfl ?_); refine boxQ 8 #[.int .i64 0, .int .i64 0, .int .i64 0, .int .i64 0, .int .i64 0, .slice none 0 0, .slice none 0 0, .slice none 0 0] 36 HB ?_; intro g8 w2 eg GW8 B8 hb HX; have N48 := bn1 B4 eg.out; replace B4 := bbw B4 hb.out; clear HB hb eg; have HB := HX; clear HX; have hcf := hcf8 B4; obtain ⟨_, _, _, _, _, _, _, _, _, _, _, _, _, _, _, _⟩ := hcf) | ((with_reducible refine gate_callee (f := 32) rfl ?_); refine goesL_ _ rfl rfl Try.func32 (by kernel_rfl) rfl #[G.v, .slice As sc.length cs, .int .i64 f] rfl (by (try simp only [List.map_toArray, List.map_cons, List.map_nil]); first | done | rfl) ?_; refine (begin_calls G _ (KG.out.below HB.out) As sc.length cs f KD.out.1 KD.out.2.1 KD.out.2.2 KF.out.parts).mono ?_; rintro e w3 ⟨gb, va, rfl, gr, cr, hm⟩; rw [KS0.out] at hm; have n4 := Nat.ne_of_gt (Nat.lt_of_lt_of_le (blk_lt B4.out) hm.gw); have n8 := Nat.ne_of_gt (Nat.lt_of_lt_of_le (blk_lt B8.out) hm.gw); have HM := Aside0.mk (((hm.lower HB.out).cons (bbw B8 hm.mem.hb).out (by decide) (by decide) n8).cons (bbw B4 hm.mem.hb).out (by decide) (by decide) n4); clear n4 n8 hm HB B4 B8; refine ⟨_, rfl, ?_⟩))
  refine (ops_calls _).mono ?_
  rintro e w5 ⟨rfl, hb, hst⟩
  obtain ⟨b, hb0⟩ : ∃ b, w3.heap.size = b := ⟨_, rfl⟩
  rw [hb0] at hst ⊢
  have hgb : gb < b := by rw [← hb0]; exact blk_lt HM.out.bx
  have HN := Aside0.mk ((HM.out.below hb).consL (L := stOps b) (fun z hz => ⟨hst z hz, (stOps_ge hz).2.1, (stOps_ge hz).2.2, by have := (stOps_ge hz).1; omega⟩))
  clear HM hst hb hb0 hgb
  have HM := HN
  clear HN
  go_wp2_with (first | ((with_reducible refine gate_dst (N := 10) rfl ?_); refine boxM 10 #[.nilFunc, .nilFunc, .nilFunc, .nilFunc, .nilFunc, .nilFunc, .nilFunc, .nilFunc, .nilFunc, .nilFunc, .nilFunc, .nilFunc, .nilFunc, .nilFunc, .nilFunc, .nilFunc, .nilFunc, .nilFunc, .nilFunc, .nilFunc, .nilFunc, .nilFunc] 71 HM ?_; intro g10 w6 eg NG10 B10 hb HX; have NE := Aside0.mk ((mup HM).out.newE eg.out); have GE : Aside0 (w.heap.size ≤ g10) := ⟨by rw [eg.out]; exact ((mup HM).out.mem.hb).size⟩; clear HM hb eg; have HM := HX; clear HX) | ((with_reducible refine gate_store (p := 10) (t := 71) rfl ?_); refine store_box rfl rfl rfl g10 71 _ (mkOps b) (pkA B10).out rfl rfl (by kernel_rfl) rfl (by kernel_rfl) ?_; intro w7 hbs hgs; replace HM := Aside0.mk (((mup HM).out.side (pkA B10).out (by decide) (by decide) NG10.out NE.out GE.out hgs).cons hbs (by decide) (by decide) NG10.out); clear B10 hgs hbs NE GE NG10))
  obtain ⟨Pd, hPd⟩ : ∃ P, P = (WalkP w ((g10, mkOps b, 71) :: (stOps b ++ [(g4, gC G, 28), (g8, #[.int .i64 0, .int .i64 0, .int .i64 0, .int .i64 0, .int .i64 0, .slice none 0 0, .slice none 0 0, .slice none 0 0], 36)])) G (.slice As sc.length cs) gb gr cr va sc S0 N) := ⟨_, rfl⟩
  have KPd := Aside0.mk hPd
  have hst : Pd N w7 := by rw [hPd]; exact ⟨Nat.le_refl _, .slice none 0 0, by rw [Nat.sub_self]; exact HM.out⟩
  have HP := Aside0.mk hst
  clear hst hPd HM
  (try simp only [Act.put, List.setIfInBounds_toArray, List.set_cons_zero, List.set_cons_succ])
  go_loopw [3] (fun v3 wr => v3 = .nilFunc ∧ ∃ d, Aside0 (Pd d wr)) (fun _ wr => dist Pd wr)
  case atStart => exact ⟨rfl, N, HP⟩
  case round =>
   rename World => wl
   clear HP
   obtain ⟨rfl, d0, hP0⟩ := hrel
   have hP1 := dist_spec hP0.out
   obtain ⟨d, hd⟩ : ∃ d, dist Pd wl = d := ⟨_, rfl⟩
   rw [hd] at hP1 ⊢
   rw [KPd.out] at hP1
   obtain ⟨hdN, vm, hm⟩ := hP1
   have HM := Aside0.mk hm
   clear hm hP0
   have c12 := HM.out.cell 12
   by_cases hz : d = 0
   · subst hz
     have hs := KR.out.stop
     have KGd := Aside0.mk (KR.out.good N (Nat.le_refl _))
     rw [Nat.sub_zero] at HM c12
     obtain ⟨S, hSN⟩ : ∃ S, stepN G sc S0 N = S := ⟨_, rfl⟩
     rw [hSN] at HM c12 hs KGd
     have KSN := Aside0.mk hSN
     clear hSN
     have eb : (S.en == 0) = false := beq_eq_false_iff_ne.mpr hs
     clear hs
     have h5r : G.l5.length ≤ S.regs.length := by have := KGd.out.regs; have := KD.out; omega
     have hsm : S.regs.length ≤ 100000 := by have := KGd.out.regs; have := KD.out; omega
     have hvr : Value.slice (some ⟨gr, 0, none⟩) G.regs.toNat cr = .slice (some ⟨gr, 0, none⟩) S.regs.length cr := by have := KGd.out.regs; rw [show G.regs.toNat = S.regs.length by omega]
     obtain ⟨A2, c2, ea2⟩ := HM.out.mem.arrSlice
     obtain ⟨A3, c3, ea3⟩ := HM.out.mem.markForm
     subst ea2
     subst ea3
     go_wp2_with (first | ((with_reducible refine gate_callee (f := 34) rfl ?_); refine goesL_ _ rfl rfl Try.func34 (by kernel_rfl) rfl #[.pointer (some ⟨gb, 0, none⟩)] rfl (by (try simp only [List.map_toArray, List.map_cons, List.map_nil]); first | done | rfl) ?_; refine (scalars_calls (mup HM).out h5r ⟨gr, cr, hvr⟩ hsm).mono ?_; rintro e w8 ⟨v, rfl, ho, hm, hb⟩; obtain ⟨row, er⟩ : ∃ r, S.regs.take G.l5.length = r := ⟨_, rfl⟩; rw [er] at ho; have ER := Aside0.mk er; clear er; obtain ⟨A1, c1, ev⟩ := Kd.R_slice ho; subst ev; have HO := Aside0.mk ho; have B8 := Aside0.mk (hm.fx _ (List.mem_cons_of_mem _ (List.mem_append_right _ (List.mem_cons_of_mem _ List.mem_cons_self)))).1; have N8 := Aside0.mk (hm.fx _ (List.mem_cons_of_mem _ (List.mem_append_right _ (List.mem_cons_of_mem _ List.mem_cons_self)))).2.2.2; have HX := Aside0.mk hm.bare0; clear HM ho hm hb; have HM := HX; clear HX; have f17 := HM.out.froz 17; have c12 := HM.out.cell 12; have c13 := HM.out.cell 13; have c14 := HM.out.cell 14; have c15 := HM.out.cell 15; have c16 := HM.out.cell 16; have c17 := HM.out.cell 17; have c18 := HM.out.cell 18; have c19 := HM.out.cell 19; refine ⟨_, rfl, ?_⟩) | ((with_reducible refine gate_store (p := 8) (t := 36) rfl ?_); refine Hold.out ?_))
     constructor
     have hm0 := HM.out.set 17 (.slice A1 row.length c1) rfl
     have ho0 := Kd.R_set HO.out HM.out.bx (fun q hq => by rw [List.mem_singleton.1 hq]; decide) 17 (.slice A1 row.length c1)
     have hb8 : (w8.setCell ⟨gb, 17, none⟩ (.slice A1 row.length c1)).heap[g8]? = _ := (Below.heap_setCell _ _ _ g8 N8.out).trans B8.out
     refine store_box rfl rfl rfl g8 36 _ #[.int .i64 S.en, .int .i64 S.site, .int .i64 S.kind, .int .i64 S.ticks, .int .i64 S.reads, .slice A1 row.length c1, .slice A2 S.arrs.length c2, .slice A3 S.marks.length c3] hb8 rfl rfl (by kernel_rfl) rfl (by kernel_rfl) ?_
     intro w11 hbs hgs
     have hm := hm0.side hb8 (by decide) (by decide) N8.out.symm (fun z hz => nomatch hz) GW8.out hgs
     have ho := R_boxed ho0 hb8 (fun q hq => by rw [List.mem_singleton.1 hq]; decide) hgs
     clear HM HO B8 hm0 ho0 hb8
     have HM := Aside0.mk hm
     have HO := Aside0.mk ho
     have B8 := Aside0.mk hbs
     clear hm ho hbs hgs
     go_wp2
     refine bodyPost_ret (results_cell_row rfl _ _ g8 36 _ (0, 0) _ rfl B8.out Try.underlying36 rfl (by kernel_rfl)) rfl ?_
     obtain ⟨okR, okA, h1, h2, h3, h4, h5⟩ := HM.out.mem.ex
     rw [KSN.out]
     have ho := HO.out
     rw [← ER.out] at ho
     exact ⟨⟨A1, c1, A2, c2, A3, c3, _, _, _, _, _, by rw [ER.out], ho, h2, h3⟩, HM.out.mem.hb⟩
   · have hgo := KR.out.go (N - d) (by omega)
     have KGd := Aside0.mk (KR.out.good (N - d) (by omega))
     have hnx : stepN G sc S0 (N - (d - 1)) = stepC G sc (stepN G sc S0 (N - d)) := by rw [show N - (d - 1) = (N - d) + 1 by omega]; rfl
     have KNX := Aside0.mk hnx
     clear hnx
     generalize stepN G sc S0 (N - d) = S at HM c12 hgo KGd KNX
     obtain ⟨ge, ga0, ga1⟩ := hgo
     have eb : (S.en == 0) = true := beq_iff_eq.mpr ge
     replace ge := Aside0.mk ge
     go_upto_region 13 with (fail)
     clear c12 eb
     obtain ⟨y, hy⟩ : ∃ y, rd_T52 G.l0 S.at_ = y := ⟨_, rfl⟩
     obtain ⟨ad0, ee0, _⟩ := at_T52 ((KG.out.below HM.out.mem.hb).h0) S.at_ ga0 ga1
     have p1 := eq_true ga0
     have q1 := eq_true ga1
     have q2 : (S.at_.toNat < G.l0.length) = True := eq_true (by omega)
     have hS : ∀ w' : World, MC w w' ((g10, mkOps b, 71) :: (stOps b ++ [(g4, gC G, 28), (g8, #[.int .i64 0, .int .i64 0, .int .i64 0, .int .i64 0, .int .i64 0, .slice none 0 0, .slice none 0 0, .slice none 0 0], 36)])) G (.slice As sc.length cs) gb (.slice (some ⟨gr, 0, none⟩) G.regs.toNat cr) va vm S → (w'.cell? ⟨g4, 0, none⟩ = some (.slice (some ad0) G.l0.length G.c0) ∧ w'.cell? ⟨gb, 11, none⟩ = some (.int .i64 S.at_) ∧ w'.cell? (ad0.add (S.at_.toNat * 8)) = some (.int .i64 y.f0) ∧ w'.cell? ⟨(ad0.add (S.at_.toNat * 8)).block, (ad0.add (S.at_.toNat * 8)).off + 1, none⟩ = some (.int .i64 y.f1) ∧ w'.cell? ⟨(ad0.add (S.at_.toNat * 8)).block, (ad0.add (S.at_.toNat * 8)).off + 2, none⟩ = some (.int .i64 y.f2) ∧ w'.cell? ⟨(ad0.add (S.at_.toNat * 8)).block, (ad0.add (S.at_.toNat * 8)).off + 3, none⟩ = some (.int .i64 y.f3) ∧ w'.cell? ⟨(ad0.add (S.at_.toNat * 8)).block, (ad0.add (S.at_.toNat * 8)).off + 4, none⟩ = some (.int .i64 y.f4) ∧ w'.cell? ⟨(ad0.add (S.at_.toNat * 8)).block, (ad0.add (S.at_.toNat * 8)).off + 5, none⟩ = some (.int .i64 y.f5) ∧ w'.cell? ⟨(ad0.add (S.at_.toNat * 8)).block, (ad0.add (S.at_.toNat * 8)).off + 6, none⟩ = some (.int .i64 y.f6.f0) ∧ w'.cell? ⟨(ad0.add (S.at_.toNat * 8)).block, (ad0.add (S.at_.toNat * 8)).off + 7, none⟩ = some (.int .i64 y.f6.f1)) := fun w' hm => ⟨((blk_cell (hm.fx _ (List.mem_cons_of_mem _ (List.mem_append_right _ List.mem_cons_self))).1 0).trans rfl).trans (by rw [← ee0]; rfl), hm.cell 11, hm.code KG.out ⟨ga0, ga1⟩ ee0 hy⟩
     refine start_ (n := 10) (S := fun w' => w'.cell? ⟨g4, 0, none⟩ = some (.slice (some ad0) G.l0.length G.c0) ∧ w'.cell? ⟨gb, 11, none⟩ = some (.int .i64 S.at_) ∧ w'.cell? (ad0.add (S.at_.toNat * 8)) = some (.int .i64 y.f0) ∧ w'.cell? ⟨(ad0.add (S.at_.toNat * 8)).block, (ad0.add (S.at_.toNat * 8)).off + 1, none⟩ = some (.int .i64 y.f1) ∧ w'.cell? ⟨(ad0.add (S.at_.toNat * 8)).block, (ad0.add (S.at_.toNat * 8)).off + 2, none⟩ = some (.int .i64 y.f2) ∧ w'.cell? ⟨(ad0.add (S.at_.toNat * 8)).block, (ad0.add (S.at_.toNat * 8)).off + 3, none⟩ = some (.int .i64 y.f3) ∧ w'.cell? ⟨(ad0.add (S.at_.toNat * 8)).block, (ad0.add (S.at_.toNat * 8)).off + 4, none⟩ = some (.int .i64 y.f4) ∧ w'.cell? ⟨(ad0.add (S.at_.toNat * 8)).block, (ad0.add (S.at_.toNat * 8)).off + 5, none⟩ = some (.int .i64 y.f5) ∧ w'.cell? ⟨(ad0.add (S.at_.toNat * 8)).block, (ad0.add (S.at_.toNat * 8)).off + 6, none⟩ = some (.int .i64 y.f6.f0) ∧ w'.cell? ⟨(ad0.add (S.at_.toNat * 8)).block, (ad0.add (S.at_.toNat * 8)).off + 7, none⟩ = some (.int .i64 y.f6.f1)) (ds := []) #[false, false, false, false, false, false, false, false, false, false] (by kernel_rfl) rfl rfl (hS _ HM.out.drew) (fun hHeld => ?_)
     refine with_tabW N15tab N15bits (fun HT_ HW_ => ?_)
     replace HM := Aside0.mk HM.out.drew
     generalize World.drew _ = wa at HM hHeld ⊢
     refine pureQ 0 64 HT_.out ?_
     refine takeQ 1 65 HT_.out HW_.out hHeld ?_
     refine pureQ 2 66 HT_.out ?_
     refine pureQ 3 67 HT_.out ?_
     refine pureQ 4 68 HT_.out ?_
     refine takeQ 5 69 HT_.out HW_.out hHeld ?_
     refine pureQ 6 70 HT_.out ?_
     refine takeQ 7 71 HT_.out HW_.out hHeld ?_
     refine oneQ 8 14 HT_.out (fun K hK => ?_)
     refine box_step ?hg (N := 14) ?hd (cs := #[.int .i64 0, .int .i64 0, .int .i64 0, .int .i64 0, .int .i64 0, .int .i64 0, .int .i64 0, .int .i64 0]) (t := 52) ?hr ?_; (case hd => rfl); (case hg => rfl); (case hr => first | (go_simp; done) | (go_simp; rfl))
     intro gi hg w6' hbox hb
     have NG := Aside0.mk (HM.out.new hg)
     have NE := Aside0.mk (HM.out.newE hg)
     have GE : Aside0 (w.heap.size ≤ gi) := ⟨by rw [hg]; exact HM.out.mem.hb.size⟩
     replace HM := Aside0.mk (HM.out.below hb)
     have BK := Aside0.mk hbox
     clear hb hbox hg
     refine hK.out _ _ (hS _ HM.out) (fun hHeld => ?_)
     clear hK K
     refine normQ (N := 14) ?_
     refine one_ (i := 9) (N := none) #[true, true, true, true, true, true, true, true, true, true] rfl rfl (one_of HT_.out (by kernel_rfl)) (by decide) (fun K hK => ?_)
     obtain ⟨wz, hwz⟩ : ∃ wz, wz = ((((((((w6').setCell ⟨gi, 0, none⟩ (.int .i64 y.f0)).setCell ⟨gi, 1, none⟩ (.int .i64 y.f1)).setCell ⟨gi, 2, none⟩ (.int .i64 y.f2)).setCell ⟨gi, 3, none⟩ (.int .i64 y.f3)).setCell ⟨gi, 4, none⟩ (.int .i64 y.f4)).setCell ⟨gi, 5, none⟩ (.int .i64 y.f5)).setCell ⟨gi, 6, none⟩ (.int .i64 y.f6.f0)).setCell ⟨gi, 7, none⟩ (.int .i64 y.f6.f1) := ⟨_, rfl⟩
     obtain ⟨z1, z2⟩ := set8g BK.out _ _ _ _ _ _ _ _ wz hwz
     have hcf := hcf8 BK
     obtain ⟨_, _, _, _, _, _, _, _, _, _, _, _, _, _, _, _⟩ := hcf
     refine skip_ (w1 := wz) (by rfl) rfl (by rw [hwz]; go_simp) ?_
     clear hwz
     replace HM := Aside0.mk (HM.out.side BK.out (by decide) (by decide) NG.out NE.out GE.out z2)
     clear BK
     have BK := Aside0.mk z1
     clear z1 z2
     refine hK.out _ _ (hS _ HM.out) (fun hHeld => ?_)
     clear hK K
     refine done_ (done_of HT_.out (by kernel_rfl)) ?_
     clear hHeld HT_ HW_
     clear hS p1 q1 q2 NE GE
     have hcf := hcf8 BK
     obtain ⟨_, _, _, _, _, _, _, _, _, _, _, _, _, _, _, _⟩ := hcf
     have c11 := HM.out.cell 11
     have f11 := HM.out.froz 11
     go_upto_region 15 with (first | ((with_reducible refine gate_store (p := 77) (t := 3) rfl ?_); refine store_event (t := 3) (p := 77) (v := ?vf7) (w1 := wz.setCell ⟨gb, 11, none⟩ (.int .i64 y.f6.f0)) ?hg ?ho ?hn ?hr ?_; (case ho => rfl); (case hg => rfl); (case hn => rfl); (case hr => first | (go_simp; done) | (go_simp; rfl)); intro w9 hw; have hm : MC w _ ((g10, mkOps b, 71) :: (stOps b ++ [(g4, gC G, 28), (g8, #[.int .i64 0, .int .i64 0, .int .i64 0, .int .i64 0, .int .i64 0, .slice none 0 0, .slice none 0 0, .slice none 0 0], 36)])) G (.slice As sc.length cs) gb (.slice (some ⟨gr, 0, none⟩) G.regs.toNat cr) va vm { S with at_ := y.f6.f0 } := HM.out.set 11 (.int .i64 y.f6.f0) rfl; rw [← hw] at hm; replace BK : Aside0 (w9.heap[gi]? = some (.cells #[.int .i64 y.f0, .int .i64 y.f1, .int .i64 y.f2, .int .i64 y.f3, .int .i64 y.f4, .int .i64 y.f5, .int .i64 y.f6.f0, .int .i64 y.f6.f1] 52 (0, 0))) := ⟨by rw [hw]; exact (Below.heap_setCell _ _ _ gi (fun e => NG.out e.symm)).trans BK.out⟩; clear HM hw; have HM := Aside0.mk hm; clear hm))
     clear c11 f11
     have hgd : Good G sc { S with at_ := y.f6.f0 } := ⟨KGd.out.regs, KGd.out.fuel, KGd.out.reads, KGd.out.arrs, KGd.out.sizes⟩
     have hvr : ∃ a b, Value.slice (some ⟨gr, 0, none⟩) G.regs.toNat cr = .slice (some ⟨a, 0, none⟩) S.regs.length b := ⟨gr, cr, by have := KGd.out.regs; rw [show G.regs.toNat = S.regs.length by omega]⟩
     obtain ⟨c, fd, caps, ec, hc22, hmk, ⟨fnn, e1, e2, e3⟩, hcall⟩ := op_calls (S := { S with at_ := y.f6.f0 }) HM.out.drew rfl KG.out KC.out hl KF.out hgd hvr (b := b) (fun z hz => List.mem_cons_of_mem _ (List.mem_append_left _ hz)) (p := S.at_.toNat) (by omega) (y := y) (by rw [show ((S.at_.toNat : Nat) : Int) = S.at_ by omega]; exact hy)
     have HC := Aside0.mk hcall
     clear hcall hgd hvr
     have kc : w9.cell? ⟨g10, y.f0.toNat, none⟩ = some (.func (.func fd) #[] caps) := by rw [show y.f0.toNat = c by omega]; exact (blk_cell (HM.out.fx _ List.mem_cons_self).1 c).trans hmk
     have k1 : ((0 : Int) ≤ y.f0) = True := eq_true (by omega)
     have k2 : (y.f0 < (22 : Int)) = True := eq_true (by omega)
     have k3 : (y.f0.toNat < 22) = True := eq_true (by omega)
     have KEC := Aside0.mk ec
     clear ec hmk hc22
     have hcf := hcf8 BK
     obtain ⟨_, _, _, _, _, _, _, _, _, _, _, _, _, _, _, _⟩ := hcf
     go_still_tail 6, (by kernel_rfl)
     change wpList _ _ _ _ _ w9.drew
     go_wp2_with (first | ((with_reducible refine gate_dst (N := 84) rfl ?_); refine goesLD (some 84) rfl rfl e1 (#[.pointer (some ⟨gb, 0, none⟩), .agg #[.int .i64 y.f0, .int .i64 y.f1, .int .i64 y.f2, .int .i64 y.f3, .int .i64 y.f4, .int .i64 y.f5, .int .i64 y.f6.f0, .int .i64 y.f6.f1]] ++ caps) rfl rfl (by simp [Act.eval]) e2 e3 ?_; refine HC.out.mono ?_; rintro e w10 ⟨⟨v0, rfl⟩, vm2, hm2⟩; have HN := Aside0.mk hm2; clear HM hm2; refine ⟨_, rfl, ?_⟩))
     have hp : Pd (d - 1) w10 := by rw [KPd.out]; exact ⟨by omega, vm2, by rw [KNX.out]; unfold stepC; rw [hy]; exact HN.out⟩
     (try simp only [Act.put, List.setIfInBounds_toArray, List.set_cons_zero, List.set_cons_succ])
     go_roundw
     case measure => exact Nat.lt_of_le_of_lt (dist_le hp) (by omega)
     case rel => (rw [ee0]; first | exact ⟨Value.nilFunc, _, _, _, _, _, _, _, _, _, _, _, _, _, _, _, _, _, _, _, _, _, _, _, _, _, _, _, _, _, _, _, _, _, _, _, _, _, _, _, _, _, _, _, _, _, _, _, _, _, _, _, _, _, _, _, _, _, _, _, _, _, _, _, _, _, _, _, _, ⟨⟨rfl, d - 1, ⟨hp⟩⟩, rfl⟩⟩)
end Go.Proofs.Ytcalcbeonbfkmaa.P
