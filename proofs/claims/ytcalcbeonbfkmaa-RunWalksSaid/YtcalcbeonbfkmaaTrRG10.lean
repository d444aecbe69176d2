/- What the law's proof needs of G10. -/
import Derived.Test.YtcalcbeonbfkmaaTrRG9
namespace Go.Proofs.Ytcalcbeonbfkmaa.P
open Go.RowKit Go.Proofs.YtcalcbeonbfkmaaW.PrintWords Go.Proofs.YtcalcbeonbfkmaaW.PrintLast Go.Proofs.YtcalcbeonbfkmaaW.PrintMore Go.Proofs.YtcalcbeonbfkmaaO
attribute [local go_sem] max2_int min2_int max_two min_two max_three min_three max_four min_four
set_option linter.unusedVariables false
set_option linter.unusedSimpArgs false
abbrev gC (G : Gr) : Array Value := #[.slice G.A0 G.l0.length G.c0, .int .i64 G.loop, .int .i64 G.regs, .int .i64 G.ticks, .slice G.A4 G.l4.length G.c4, .slice G.A5 G.l5.length G.c5, .slice G.A6 G.l6.length G.c6, .slice G.A7 G.l7.length G.c7]
theorem Mem.arrSlice {w W : World} {E : List (Nat × Array Value × Nat)} {vr va vm : Value} {rs : List Int} {ars mks : List (List Int)} (h : Mem w W E vr va vm rs ars mks) : ∃ A c, va = .slice A ars.length c := by
  obtain ⟨⟨okR, okA, h1, h2, h3, h4, h5, h7⟩, h6⟩ := h
  exact Kd.S_slice h2
theorem R_some {α : Type} {d : Kd α} {e : Nat} {w : World} {base : Nat} {ok : Nat → Prop} {v : Value} {xs : List α} {g : Nat} (h : d.R e w base ok v xs) (hv : v.ownBlock = some g) : ∃ c, v = .slice (some ⟨g, 0, none⟩) xs.length c := by
  obtain ⟨_, inner, ho, _⟩ := h
  rcases ho.2 with ⟨rfl, _⟩ | ⟨g2, cap, cur, rfl, _⟩
  · simp [Value.ownBlock] at hv
  · have : g2 = g := by simpa [Value.ownBlock] using hv
    subst this
    exact ⟨cap, rfl⟩
theorem MB.fresh {w W : World} {gb tb : Nat} {cb : Array Value} {vr : Value} {rs : List Int} {ok : Nat → Prop} (hr : Kd.R (Kd.int .i64) 2 W w.heap.size ok vr rs) (hb : Below w.heap.size w W) (hx : W.heap[gb]? = some (.cells cb tb (0, 0))) (gw : w.heap.size ≤ gb) (t2 : 2 ≠ tb) (t29 : 29 ≠ tb) :
    MB w W [] gb tb cb vr (.slice none 0 0) (.slice none 0 0) rs [] [] :=
  ⟨⟨⟨fun k => some k = vr.ownBlock, fun _ => False, Kd.R_tight rfl hr, Kd.S_nil kL 29 W w.heap.size _, Kd.R_nil kL 29 W w.heap.size _, fun _ _ h => h, fun k hk => hk.elim (fun e => Kd.R_lt hr k e.symm) (fun h => h.elim), fun z hz => (nomatch hz)⟩, hb⟩, hx, gw, t2, t29, fun z hz => (nomatch hz)⟩
section
variable {ops : Array Oper} {o : Oper} {rest : List Oper} {a : Act} {Q : Exit → Act → World → Prop}
/-- An array is appended to the arrays. -/
theorem MB.pushA {w W0 W : World} {E : List (Nat × Array Value × Nat)} {gb tb : Nat} {cb : Array Value} {vr va v : Value} {rs row : List Int} {ars : List (List Int)} (h : MB w W0 E gb tb cb vr va (.slice none 0 0) rs ars []) (hb : Below W0.heap.size W0 W) (hv : Kd.R (Kd.int .i64) 2 W W0.heap.size (fun k => W0.heap.size ≤ k) v row) (hgd : o.guard = none)
    (s x : Operand) (ho : o.op = .call { callee := .builtin .append, args := #[s, x], argTypes := #[34, 34] }) (hs : a.eval s = va) (hx : a.eval x = .slice (some ⟨W.heap.size, 0, none⟩) 1 1) (hl : ars.length < 1000)
    (hk : ∀ v1 w1, MB w w1 E gb tb cb vr v1 (.slice none 0 0) rs (ars ++ [row]) [] → wpList Try.prog ops Q rest (a.put o.dst v1) w1) :
    wpList Try.prog ops Q (o :: rest) a (W.alloc (.cells [v].toArray 29)) := by
  have hW := h.below hb
  obtain ⟨⟨okR, okA, h1, h2, h3, h4, h5, h7⟩, h6⟩ := h.mem
  have g1 := Kd.R_below h1 hb
  have g2 := Kd.S_below h2 hb
  have hsz := hb.size
  have own : ∀ k, va.ownBlock = some k → okA k := (Kd.S_R h2).1
  refine Kd.S_append kL (w0 := w) w.heap.size hgd s x 34 29 (.slice none 0 0) 24 ho Try.underlying34 info29 rfl (by decide) (by omega) va ars row [v] (fun k => okA k ∨ W0.heap.size ≤ k) (fun k => W0.heap.size ≤ k) hs hx ⟨v, rfl, Kd.R_lower hv h6.size⟩ (fun k hk => ⟨.inr hk, fun e => ?_⟩) (fun k hk => .inr (by omega)) (Kd.S_mono g2 (fun k hk => ⟨.inl hk, fun hh => ?_⟩)) hW.mem.hb hW.mem.hb.size (by omega) ?_
  · have := h5 k (.inr (own k e.symm)); omega
  · have := h5 k (.inr hk); omega
  · intro v1 w1 hS hbw hg hat
    refine hk v1 w1 ⟨⟨⟨okR, fun k => (okA k ∨ W0.heap.size ≤ k) ∧ k < w1.heap.size, Kd.R_grown g1 hg (fun k hk e => h4 k hk (own k e.symm)), Kd.S_mono (Kd.S_bound hS) (fun k hk => ⟨hk.1, hk.2.2.1⟩), Kd.R_nil kL 29 w1 w.heap.size _, fun k hr hh => ?_, fun k hh => ?_, h7⟩, hbw⟩, (hg.block gb (blk_lt hW.bx) (Kd.S_ne g2 hW.bx hW.t29)).trans hW.bx, h.gw, h.t2, h.t29, fun z hz => ⟨(hg.block z.1 (blk_lt (hW.fx z hz).1) (fun e => h4 _ (h7 z hz).1 (own z.1 e.symm))).trans (hW.fx z hz).1, (hW.fx z hz).2⟩⟩
    · rcases hh.1 with ha | hn
      · exact h4 k hr ha
      · have := h5 k (.inl hr); omega
    · rcases hh with hr | ha
      · have := h5 k (.inl hr); have := hg.size; omega
      · exact ha.2
end
/-- The registers, so many scalars set. -/
def regK (G : Gr) : Nat → List Int
  | 0 => List.replicate G.regs.toNat 0
  | k + 1 => (regK G k).set k (rd_T83 G.l5 (k : Int)).f2
theorem regK_len (G : Gr) : ∀ k, (regK G k).length = G.regs.toNat
  | 0 => List.length_replicate
  | k + 1 => by unfold regK; rw [List.length_set]; exact regK_len G k
def arrK (G : Gr) : Nat → List (List Int)
  | 0 => []
  | k + 1 => arrK G k ++ [List.replicate (rd_T85 G.l6 (k : Int)).f2.toNat (rd_T85 G.l6 (k : Int)).f3]
theorem arrK_len (G : Gr) : ∀ k, (arrK G k).length = k
  | 0 => rfl
  | k + 1 => by unfold arrK; rw [List.length_append, arrK_len G k]; rfl
def beginS (G : Gr) (f : Int) (k j : Nat) : St := ⟨f, 0, regK G k, 0, 0, 0, 0, 0, arrK G j, []⟩
def fillL (n : Nat) (x : Int) (j : Nat) : List Int := List.replicate j x ++ List.replicate (n - j) 0
theorem fill_set {n j : Nat} {x : Int} (h : j < n) : (fillL n x j).set j x = fillL n x (j + 1) := by
  unfold fillL
  rw [show n - j = (n - (j + 1)) + 1 by omega, List.replicate_succ, List.set_append_right _ _ (by rw [List.length_replicate]; exact Nat.le_refl _), List.length_replicate, Nat.sub_self, List.set_cons_zero, List.replicate_succ', List.append_assoc]
  rfl
theorem fill_all (n : Nat) (x : Int) : fillL n x n = List.replicate n x := by unfold fillL; rw [Nat.sub_self]; exact List.append_nil _
def N32T : Bool × List (List Nat × List Nat) := (true, [([], []), ([], []), ([], []), ([2], [2]), ([], []), ([4], [4]), ([5, 5], [5]), ([0, 1, 3, 6], [0, 1, 3, 6]), ([7], [7]), ([8, 0, 1, 2, 3, 4, 5, 6, 7, 8], [8])])
def N32B : List Nat := [0, 0, 0, 4, 0, 16, 48, 127, 255, 511]
theorem N32tab : rtab .any (opsOf Try.f32 1) = N32T := by kernel_rfl
theorem N32bits : waitsOk N32T.2 N32B = true := by kernel_rfl
set_option maxHeartbeats 8000000 in
set_option maxRecDepth 100000 in
theorem begin_calls (G : Gr) (w : World) (hG : G.Held w) (As : Option Addr) (m cs : Nat) (f : Int) (hn0 : 0 ≤ G.regs) (hn1 : (G.l5.length : Int) ≤ G.regs) (hn2 : G.regs ≤ 10000) (hp : PartsOK G) :
    Calls Try.prog 32 #[G.v, .slice As m cs, .int .i64 f] w fun e w' => ∃ gb va, e = .returned (.pointer (some ⟨gb, 0, none⟩)) ∧ ∃ gr cr, MC w w' [] G (.slice As m cs) gb (.slice (some ⟨gr, 0, none⟩) G.regs.toNat cr) va (.slice none 0 0) (beginS G (mx f 0) G.l5.length G.l6.length) := by
  have hu28 := Try.underlying28
  have hu74 := Try.underlying74
  have hu36 := Try.underlying36
  have hu83 := Try.underlying83
  have hu85 := Try.underlying85
  have HB := Aside0.mk (Below.refl w.heap.size w)
  have KG := Aside0.mk hG
  have KP := Aside0.mk hp
  clear hG hp
  obtain ⟨n, hn⟩ : ∃ n : Nat, G.regs.toNat = n := ⟨_, rfl⟩
  rw [hn]
  have KN := Aside0.mk hn
  have K1 := Aside0.mk (And.intro hn0 (And.intro hn1 hn2))
  clear hn hn0 hn1 hn2
  obtain ⟨fu, hfu⟩ : ∃ x, mx f 0 = x := ⟨_, rfl⟩
  rw [hfu]
  have hfu2 : max f 0 = fu := by rw [← hfu]; unfold mx; split <;> omega
  have hfu3 : (if f < 0 then 0 else f) = fu := hfu
  go_enter Try.func32, Try.ntmps32
  go_upto_region 1 with (first | ((with_reducible refine gate_dst (N := 3) rfl ?_); refine boxQ 3 (gC G) 28 HB ?_; clear HB; intro gg w1 _ GW BK _ HB; have hcf := hcf8 BK; obtain ⟨_, _, _, _, _, _, _, _, _, _, _, _, _, _, _, _⟩ := hcf))
  have hS : ∀ w' : World, w'.heap[gg]? = some (.cells (gC G) 28 (0, 0)) → (w'.cell? ⟨gg, 0, none⟩ = some (.slice G.A0 G.l0.length G.c0) ∧ w'.cell? ⟨gg, 1, none⟩ = some (.int .i64 G.loop) ∧ w'.cell? ⟨gg, 2, none⟩ = some (.int .i64 G.regs) ∧ w'.cell? ⟨gg, 3, none⟩ = some (.int .i64 G.ticks) ∧ w'.cell? ⟨gg, 4, none⟩ = some (.slice G.A4 G.l4.length G.c4) ∧ w'.cell? ⟨gg, 5, none⟩ = some (.slice G.A5 G.l5.length G.c5) ∧ w'.cell? ⟨gg, 6, none⟩ = some (.slice G.A6 G.l6.length G.c6) ∧ w'.cell? ⟨gg, 7, none⟩ = some (.slice G.A7 G.l7.length G.c7)) := fun w' hb => ⟨hcz ⟨hb⟩ 0, hcz ⟨hb⟩ 1, hcz ⟨hb⟩ 2, hcz ⟨hb⟩ 3, hcz ⟨hb⟩ 4, hcz ⟨hb⟩ 5, hcz ⟨hb⟩ 6, hcz ⟨hb⟩ 7⟩
  refine start_ (n := 10) (S := fun w' => w'.cell? ⟨gg, 0, none⟩ = some (.slice G.A0 G.l0.length G.c0) ∧ w'.cell? ⟨gg, 1, none⟩ = some (.int .i64 G.loop) ∧ w'.cell? ⟨gg, 2, none⟩ = some (.int .i64 G.regs) ∧ w'.cell? ⟨gg, 3, none⟩ = some (.int .i64 G.ticks) ∧ w'.cell? ⟨gg, 4, none⟩ = some (.slice G.A4 G.l4.length G.c4) ∧ w'.cell? ⟨gg, 5, none⟩ = some (.slice G.A5 G.l5.length G.c5) ∧ w'.cell? ⟨gg, 6, none⟩ = some (.slice G.A6 G.l6.length G.c6) ∧ w'.cell? ⟨gg, 7, none⟩ = some (.slice G.A7 G.l7.length G.c7)) (ds := []) #[false, false, false, false, false, false, false, false, false, false] (by kernel_rfl) rfl rfl (hS _ (blk_drew BK.out)) (fun hHeld => ?_)
  refine with_tabW N32tab N32bits (fun HT_ HW_ => ?_)
  replace BK := Aside0.mk (blk_drew BK.out)
  replace HB := Aside0.mk (below_drew1 HB.out)
  generalize World.drew _ = wa at BK HB hHeld ⊢
  refine takeQ 0 14 HT_.out HW_.out hHeld ?_
  refine pureQ 1 15 HT_.out ?_
  refine pureQ 2 16 HT_.out ?_
  refine pureQ 3 17 HT_.out ?_
  refine pureQ 4 18 HT_.out ?_
  refine takeQ 5 19 HT_.out HW_.out hHeld ?_
  (try rw [hfu])
  (try rw [hfu2])
  refine oneQ 6 20 HT_.out (fun K hK => ?_)
  refine Kd.R_make_step (Kd.int .i64) _ 2 (by rfl) rfl 29 _ _ rfl G.regs rfl rfl Try.underlying29 (.int .i64 0) 8 info2 rfl (by decide) (by omega) 0 (ok := fun _ => True) (okp := fun _ => False) rfl (fun _ hk => hk.elim) trivial K1.out.1 (by have := K1.out.2.2; omega) (Below.refl _ _) (Nat.le_refl _) ?_
  intro v wo ho hb hg_ hnew
  obtain ⟨gr, hgr, _⟩ := hnew
  obtain ⟨cr, ev⟩ := R_some ho hgr
  rw [List.length_replicate, KN.out] at ev
  subst ev
  have HO := Aside0.mk (Kd.R_lower ho (below_size HB.out))
  replace BK := bbw BK hb
  replace HB := bst HB hb
  clear ho hb hg_ hgr
  refine hK.out _ _ (hS _ BK.out) (fun hHeld => ?_)
  clear hK K
  refine normQ (N := 20) ?_
  refine pureQ 7 21 HT_.out ?_
  refine oneQ 8 22 HT_.out (fun K hK => ?_)
  refine box_step ?hg (N := 22) ?hd (cs := bC G (.slice As m cs) (.slice (some ⟨gr, 0, none⟩) n cr) (.slice none 0 0) (.slice none 0 0) (beginS G fu 0 0)) (t := 74) ?hr ?_; (case hd => rfl); (case hg => rfl); (case hr => first | (go_simp; done) | (go_simp; rfl))
  intro gb hg w3 hbox hb
  have NG := Aside0.mk (show gb ≠ gg by rw [hg]; exact Nat.ne_of_gt (blk_lt BK.out))
  have GB := bsz HB hg
  replace BK := bbw BK hb
  replace HO := rbw HO hb
  replace HB := bst HB hb
  have HM : Aside0 (MC w w3 [(gg, gC G, 28)] G (.slice As m cs) gb (.slice (some ⟨gr, 0, none⟩) n cr) (.slice none 0 0) (.slice none 0 0) (beginS G fu 0 0)) := ⟨(MB.fresh HO.out HB.out hbox GB.out (by decide) (by decide)).cons BK.out (by decide) (by decide) NG.out⟩
  clear HO hbox hb hg
  refine hK.out _ _ (hS _ BK.out) (fun hHeld => ?_)
  clear hK K
  refine normQ (N := 22) ?_
  refine pureQ 9 7 HT_.out ?_
  refine done_ (done_of HT_.out (by kernel_rfl)) ?_
  clear hHeld HT_ HW_
  clear hS BK HB GB NG
  have BG := Aside0.mk HM.out.head
  have hcf := hcf8 BG
  obtain ⟨_, _, _, _, _, _, _, _, _, _, _, _, _, _, _, _⟩ := hcf
  go_wp2
  clear BG
  go_loopw [26] (fun i wr => ∃ k : Nat, k ≤ G.l5.length ∧ i = .int .i64 (k : Int) ∧ Aside0 (MC w wr [(gg, gC G, 28)] G (.slice As m cs) gb (.slice (some ⟨gr, 0, none⟩) n cr) (.slice none 0 0) (.slice none 0 0) (beginS G fu k 0))) (fun i _ => G.l5.length - (intOf i).toNat)
  case atStart => exact ⟨0, Nat.zero_le _, rfl, mup HM⟩
  case round =>
   rename World => wl
   clear HM
   obtain ⟨k, hk, rfl, HM⟩ := hrel
   by_cases hlt : k < G.l5.length
   · have hlt2 : decide ((k : Int) < (G.l5.length : Int)) = true := decide_eq_true (by omega)
     have hwk : IntKind.i64.wrap ((k : Int) + 1) = ((k + 1 : Nat) : Int) := (i64_w _).trans ((M.wrap64_in _ (by have := KP.out.n5; omega)).trans (by omega))
     obtain ⟨z, hz⟩ : ∃ z, rd_T83 G.l5 (k : Int) = z := ⟨_, rfl⟩
     obtain ⟨ad5, ee5, y0, y1, y2⟩ := at_T83 ((KG.out.below HM.out.mem.hb).h5) (k : Int) (by omega) (by omega)
     rw [Int.toNat_natCast, hz] at y0 y1 y2
     have p1 : ((0 : Int) ≤ (k : Int)) = True := eq_true (by omega)
     have q1 : ((k : Int) < (G.l5.length : Int)) = True := eq_true (by omega)
     have q2 : (k < G.l5.length) = True := eq_true hlt
     rw [ee5]
     go_upto_region 5 with (first | ((with_reducible refine gate_dst (N := 9) rfl ?_); refine boxM 9 #[.string ⟨#[]⟩, .int .i64 0, .int .i64 0] 83 HM ?_; intro g9 w3 eg NG9 B9 hb HX; have NE := Aside0.mk ((mup HM).out.newE eg.out); have GE : Aside0 (w.heap.size ≤ g9) := ⟨by rw [eg.out]; exact ((mup HM).out.mem.hb).size⟩; clear HM hb eg; have HM := HX; clear HX) | ((with_reducible refine gate_store (p := 9) (t := 83) rfl ?_); refine store_box rfl rfl rfl g9 83 _ #[.string z.f0, .int .i64 z.f1, .int .i64 z.f2] (pkA B9).out rfl rfl (by kernel_rfl) rfl (by kernel_rfl) ?_; intro w4 hbs hgs; replace HM := Aside0.mk ((mup HM).out.side (pkA B9).out (by decide) (by decide) NG9.out NE.out GE.out hgs); clear B9 hgs; have B9 := Aside0.mk hbs; clear hbs))
     have c10 := HM.out.cell 10
     have b2 := hcz B9 2
     have q3 : (k < n) = True := eq_true (by have := K1.out; have := KN.out; omega)
     have q4 : ((k : Int) < (n : Int)) = True := eq_true (by have := K1.out; have := KN.out; omega)
     obtain ⟨x1, r1⟩ := HM.out.mem.reg k (by have := K1.out; have := KN.out; omega)
     generalize (regK G k).getD k 0 = xg at x1
     go_still_tail 8, (by kernel_rfl)
     change wpList _ _ _ _ _ w4.drew
     replace HM := Aside0.mk (HM.out.drew.setReg k z.f2)
     go_wp2
     go_roundw
     case measure => simp [intOf] <;> omega
     case rel => exact ⟨k + 1, by omega, by first | rfl | simp, ⟨by have h1 := HM.out; rw [show (beginS G fu k 0).regs.set k z.f2 = regK G (k + 1) from by rw [← hz]; rfl] at h1; exact h1⟩⟩
   · have hk2 : k = G.l5.length := by omega
     subst hk2
     have hlt2 : decide ((G.l5.length : Int) < (G.l5.length : Int)) = false := decide_eq_false (by omega)
     have BG := Aside0.mk HM.out.head
     have hcf := hcf8 BG
     obtain ⟨_, _, _, _, _, _, _, _, _, _, _, _, _, _, _, _⟩ := hcf
     go_wp2
     clear BG
     go_loopw [43] (fun i wr => ∃ (k : Nat) (va : Value), k ≤ G.l6.length ∧ i = .int .i64 (k : Int) ∧ Aside0 (MC w wr [(gg, gC G, 28)] G (.slice As m cs) gb (.slice (some ⟨gr, 0, none⟩) n cr) va (.slice none 0 0) (beginS G fu G.l5.length k))) (fun i _ => G.l6.length - (intOf i).toNat)
     case atStart => exact ⟨0, .slice none 0 0, Nat.zero_le _, rfl, mup HM⟩
     case round =>
      rename World => wk
      clear HM
      obtain ⟨k, va, hk, rfl, HM⟩ := hrel
      by_cases hlt : k < G.l6.length
      · have hlt2 : decide ((k : Int) < (G.l6.length : Int)) = true := decide_eq_true (by omega)
        have hwk : IntKind.i64.wrap ((k : Int) + 1) = ((k + 1 : Nat) : Int) := (i64_w _).trans ((M.wrap64_in _ (by have := KP.out.n6; omega)).trans (by omega))
        obtain ⟨z, hz⟩ : ∃ z, rd_T85 G.l6 (k : Int) = z := ⟨_, rfl⟩
        obtain ⟨sz, hsz⟩ : ∃ s : Nat, z.f2 = (s : Int) := ⟨z.f2.toNat, by have := (KP.out.ar k hlt).2; rw [hz] at this; omega⟩
        have KZ : Aside0 (1 ≤ sz ∧ sz ≤ 256) := ⟨by have := (KP.out.ar k hlt).2; rw [hz] at this; omega⟩
        have KS2 := Aside0.mk hsz
        obtain ⟨ad6, ee6, y0, y1, y2, y3⟩ := at_T85 ((KG.out.below HM.out.mem.hb).h6) (k : Int) (by omega) (by omega)
        rw [Int.toNat_natCast, hz] at y0 y1 y2 y3
        have p1 : ((0 : Int) ≤ (k : Int)) = True := eq_true (by omega)
        have q1 : ((k : Int) < (G.l6.length : Int)) = True := eq_true (by omega)
        have q2 : (k < G.l6.length) = True := eq_true hlt
        rw [ee6]
        have KZZ := Aside0.mk hz
        clear hz
        obtain ⟨Aa, ca, eva⟩ := HM.out.mem.arrSlice
        rw [show (beginS G fu G.l5.length k).arrs = arrK G k from rfl, arrK_len] at eva
        subst eva
        go_upto_region 11 with (first | ((with_reducible refine gate_dst (N := 11) rfl ?_); refine boxM 11 #[.string ⟨#[]⟩, .int .i64 0, .int .i64 0, .int .i64 0] 85 HM ?_; intro g11 w3 eg NG11 B11 hb HX; have NE := Aside0.mk ((mup HM).out.newE eg.out); have GE : Aside0 (w.heap.size ≤ g11) := ⟨by rw [eg.out]; exact ((mup HM).out.mem.hb).size⟩; clear HM hb eg; have HM := HX; clear HX) | ((with_reducible refine gate_store (p := 11) (t := 85) rfl ?_); refine store_box rfl rfl rfl g11 85 _ #[.string z.f0, .int .i64 z.f1, .int .i64 (sz : Int), .int .i64 z.f3] (pkA B11).out rfl rfl (by kernel_rfl) rfl (by kernel_rfl) ?_; intro w4 hbs hgs; replace HM := Aside0.mk ((mup HM).out.side (pkA B11).out (by decide) (by decide) NG11.out NE.out GE.out hgs); clear B11 hgs; have B11 := Aside0.mk hbs; clear hbs; have hcf := hcf4 B11; obtain ⟨_, _, _, _, _, _, _, _⟩ := hcf) | ((with_reducible refine gate_dst (N := 49) rfl ?_); refine Kd.R_make (Kd.int .i64) w4.heap.size 2 rfl (N := 49) rfl 29 _ _ rfl (sz : Int) rfl rfl Try.underlying29 (.int .i64 0) 8 info2 rfl (by decide) (by omega) 0 (ok := fun k => w4.heap.size ≤ k) (okp := fun _ => False) rfl (fun _ hk => hk.elim) (Nat.le_refl _) (by omega) (by rw [Int.toNat_natCast]; have := KZ.out; omega) (Below.refl _ _) (Nat.le_refl _) ?_; intro v w5 ho hb hg_ hnew; obtain ⟨gl, hgl, hgl2⟩ := hnew; obtain ⟨cl, ev⟩ := R_some ho hgl; rw [List.length_replicate, Int.toNat_natCast] at ev; subst ev; rw [Int.toNat_natCast] at ho; have HO := Aside0.mk ho; have HB := Aside0.mk hb; clear ho hb hg_ hgl))
        go_wp2
        go_loopw [52] (fun i wr => ∃ j : Nat, j ≤ sz ∧ i = .int .i64 (j : Int) ∧ Aside0 (Kd.R (Kd.int .i64) 2 wr w4.heap.size (fun k => w4.heap.size ≤ k) (.slice (some ⟨gl, 0, none⟩) sz cl) (fillL sz z.f3 j)) ∧ Aside0 (Below w4.heap.size w4 wr)) (fun i _ => sz - (intOf i).toNat)
        case atStart => exact ⟨0, Nat.zero_le _, rfl, HO, HB⟩
        case round =>
         rename World => wj
         clear HO HB
         obtain ⟨j, hj, rfl, HO, HB⟩ := hrel
         by_cases hjl : j < sz
         · have hlt3 : decide ((j : Int) < (sz : Int)) = true := decide_eq_true (by omega)
           have hwj : IntKind.i64.wrap ((j : Int) + 1) = ((j + 1 : Nat) : Int) := (i64_w _).trans ((M.wrap64_in _ (by have := KZ.out; omega)).trans (by omega))
           have B11j := bbw B11 HB.out
           have b3 := hcz B11j 3
           have u1 : ((0 : Int) ≤ (j : Int)) = True := eq_true (by omega)
           have u2 : ((j : Int) < (sz : Int)) = True := eq_true (by omega)
           have u3 : (j < sz) = True := eq_true hjl
           obtain ⟨xc, xf⟩ := Kd.R_celln 0 HO.out (j : Int) (by omega) (by omega)
           have HP := Kd.R_putg HO.out (j : Int) z.f3
           rw [Int.toNat_natCast] at xc xf HP
           have HP1 := Aside0.mk HP.1
           clear HP
           generalize rdOf 0 (fillL sz z.f3 j) (j : Int) = xo at xc
           rw [fill_set hjl] at HP1
           go_wp2
           go_roundw
           case measure => simp [intOf] <;> omega
           case rel => exact ⟨j + 1, by omega, by first | rfl | simp, HP1, ⟨below_set HB.out hgl2⟩⟩
         · have hj2 : j = sz := by omega
           subst hj2
           have hlt3 : decide ((j : Int) < (j : Int)) = false := decide_eq_false (by omega)
           rw [fill_all] at HO
           have HMj := Aside0.mk (HM.out.below HB.out)
           have d18 := HMj.out.cell 18
           go_wp2_with (at_builtin; go_loud (refine MB.pushA HM.out HB.out HO.out rfl (.tmp 66) (.tmp 68) rfl rfl rfl (by show (arrK G k).length < 1000; rw [arrK_len]; have := KP.out.n6; omega) ?_); intro v1 w6 hm; clear HM; obtain ⟨Av, cv, ev⟩ := hm.mem.arrSlice; obtain ⟨nv, hnv⟩ : ∃ q, ((beginS G fu G.l5.length k).arrs ++ [List.replicate j z.f3]).length = q := ⟨_, rfl⟩; rw [hnv] at ev; clear hnv; subst ev; have HM := Aside0.mk hm; clear hm; have c18 := HM.out.cell 18; have f18 := HM.out.froz 18)
           go_roundw
           case measure => simp [intOf] <;> omega
           case rel => exact ⟨k + 1, _, by omega, by first | rfl | simp, ⟨by have h1 := HM.out.set 18 (.slice Av nv cv) rfl; rw [show (beginS G fu G.l5.length k).arrs ++ [List.replicate j z.f3] = arrK G (k + 1) from by show _ = arrK G k ++ [List.replicate (rd_T85 G.l6 (k : Int)).f2.toNat (rd_T85 G.l6 (k : Int)).f3]; rw [KZZ.out, KS2.out, Int.toNat_natCast]; rfl] at h1; exact h1⟩⟩
      · have hk2 : k = G.l6.length := by omega
        subst hk2
        have hlt2 : decide ((G.l6.length : Int) < (G.l6.length : Int)) = false := decide_eq_false (by omega)
        go_wp2
        go_ret
        exact ⟨gb, va, rfl, gr, cr, HM.out.tail⟩
end Go.Proofs.Ytcalcbeonbfkmaa.P
