/- What the law's proof needs of H7. -/
import Derived.Test.YtcalcbeonbfkmaaTrRH2
namespace Go.Proofs.Ytcalcbeonbfkmaa.P
open Go.RowKit Go.Proofs.YtcalcbeonbfkmaaW.PrintWords Go.Proofs.YtcalcbeonbfkmaaW.PrintLast Go.Proofs.YtcalcbeonbfkmaaW.PrintMore Go.Proofs.YtcalcbeonbfkmaaO
attribute [local go_sem] max2_int min2_int max_two min_two max_three min_three max_four min_four
set_option linter.unusedVariables false
set_option linter.unusedSimpArgs false
def N29T : Bool × List (List Nat × List Nat) := (true, [([], []), ([], []), ([], []), ([], []), ([3], [3]), ([4, 4], [4]), ([0, 1, 2, 5], [0, 1, 2, 5]), ([6], [6]), ([7, 0, 1, 2, 3, 4, 5, 6, 7], [7])])
def N29B : List Nat := [0, 0, 0, 0, 8, 24, 63, 127, 255]
theorem N29tab : rtab .any (opsOf Try.f29 1) = N29T := by kernel_rfl
theorem N29bits : waitsOk N29T.2 N29B = true := by kernel_rfl
set_option maxHeartbeats 8000000 in
set_option maxRecDepth 100000 in
theorem new_calls (G : Gr) (w : World) (hG : G.Held w) (As : Option Addr) (m cs : Nat) (f : Int) (hn0 : 0 ≤ G.regs) (hn1 : (G.l5.length : Int) ≤ G.regs) (hn2 : G.regs ≤ 10000) (hp : PartsOK G) :
    Calls Try.prog 29 #[G.v, .slice As m cs, .int .i64 f] w fun e w' => ∃ gb va, e = .returned (.pointer (some ⟨gb, 0, none⟩)) ∧ ∃ gr cr, MR w w' [] G (.slice As m cs) gb (.slice (some ⟨gr, 0, none⟩) G.regs.toNat cr) va (.slice none 0 0) (beginS G f G.l5.length G.l6.length) := by
  have hu28 := Try.underlying28
  have hu66 := Try.underlying66
  have hu36 := Try.underlying36
  have hu83 := Try.underlying83
  have hu85 := Try.underlying85
  have HB := Aside0.mk (Below.refl w.heap.size w)
  have KG := Aside0.mk hG
  have KP := Aside0.mk hp
  clear hG hp
  obtain ⟨n, hn⟩ : ∃ n : Nat, G.regs.toNat = n := ⟨_, rfl⟩
  rw [hn]
  have KN := Aside0.mk hn
  have K1 := Aside0.mk (And.intro hn0 (And.intro hn1 hn2))
  clear hn hn0 hn1 hn2
  go_enter Try.func29, Try.ntmps29
  go_upto_region 1 with (first | ((with_reducible refine gate_dst (N := 3) rfl ?_); refine boxQ 3 (gC G) 28 HB ?_; clear HB; intro gg w1 _ GW BK _ HB; have hcf := hcf8 BK; obtain ⟨_, _, _, _, _, _, _, _, _, _, _, _, _, _, _, _⟩ := hcf))
  have hS : ∀ w' : World, w'.heap[gg]? = some (.cells (gC G) 28 (0, 0)) → (w'.cell? ⟨gg, 0, none⟩ = some (.slice G.A0 G.l0.length G.c0) ∧ w'.cell? ⟨gg, 1, none⟩ = some (.int .i64 G.loop) ∧ w'.cell? ⟨gg, 2, none⟩ = some (.int .i64 G.regs) ∧ w'.cell? ⟨gg, 3, none⟩ = some (.int .i64 G.ticks) ∧ w'.cell? ⟨gg, 4, none⟩ = some (.slice G.A4 G.l4.length G.c4) ∧ w'.cell? ⟨gg, 5, none⟩ = some (.slice G.A5 G.l5.length G.c5) ∧ w'.cell? ⟨gg, 6, none⟩ = some (.slice G.A6 G.l6.length G.c6) ∧ w'.cell? ⟨gg, 7, none⟩ = some (.slice G.A7 G.l7.length G.c7)) := fun w' hb => ⟨hcz ⟨hb⟩ 0, hcz ⟨hb⟩ 1, hcz ⟨hb⟩ 2, hcz ⟨hb⟩ 3, hcz ⟨hb⟩ 4, hcz ⟨hb⟩ 5, hcz ⟨hb⟩ 6, hcz ⟨hb⟩ 7⟩
  refine start_ (n := 9) (S := fun w' => w'.cell? ⟨gg, 0, none⟩ = some (.slice G.A0 G.l0.length G.c0) ∧ w'.cell? ⟨gg, 1, none⟩ = some (.int .i64 G.loop) ∧ w'.cell? ⟨gg, 2, none⟩ = some (.int .i64 G.regs) ∧ w'.cell? ⟨gg, 3, none⟩ = some (.int .i64 G.ticks) ∧ w'.cell? ⟨gg, 4, none⟩ = some (.slice G.A4 G.l4.length G.c4) ∧ w'.cell? ⟨gg, 5, none⟩ = some (.slice G.A5 G.l5.length G.c5) ∧ w'.cell? ⟨gg, 6, none⟩ = some (.slice G.A6 G.l6.length G.c6) ∧ w'.cell? ⟨gg, 7, none⟩ = some (.slice G.A7 G.l7.length G.c7)) (ds := []) #[false, false, false, false, false, false, false, false, false] (by kernel_rfl) rfl rfl (hS _ (blk_drew BK.out)) (fun hHeld => ?_)
  refine with_tabW N29tab N29bits (fun HT_ HW_ => ?_)
  replace BK := Aside0.mk (blk_drew BK.out)
  replace HB := Aside0.mk (below_drew1 HB.out)
  generalize World.drew _ = wa at BK HB hHeld ⊢
  refine takeQ 0 12 HT_.out HW_.out hHeld ?_
  refine pureQ 1 13 HT_.out ?_
  refine pureQ 2 14 HT_.out ?_
  refine pureQ 3 15 HT_.out ?_
  refine takeQ 4 16 HT_.out HW_.out hHeld ?_
  refine oneQ 5 17 HT_.out (fun K hK => ?_)
  refine Kd.R_make_step (Kd.int .i64) _ 2 (by rfl) rfl 29 _ _ rfl G.regs rfl rfl Try.underlying29 (.int .i64 0) 8 info2 rfl (by decide) (by omega) 0 (ok := fun _ => True) (okp := fun _ => False) rfl (fun _ hk => hk.elim) trivial K1.out.1 (by have := K1.out.2.2; omega) (Below.refl _ _) (Nat.le_refl _) ?_
  intro v wo ho hb hg_ hnew
  obtain ⟨gr, hgr, _⟩ := hnew
  obtain ⟨cr, ev⟩ := R_some ho hgr
  rw [List.length_replicate, KN.out] at ev
  subst ev
  have HO := Aside0.mk (Kd.R_lower ho (below_size HB.out))
  replace BK := bbw BK hb
  replace HB := bst HB hb
  clear ho hb hg_ hgr
  refine hK.out _ _ (hS _ BK.out) (fun hHeld => ?_)
  clear hK K
  refine normQ (N := 17) ?_
  refine pureQ 6 18 HT_.out ?_
  refine oneQ 7 19 HT_.out (fun K hK => ?_)
  refine box_step ?hg (N := 19) ?hd (cs := bR G (.slice As m cs) (.slice (some ⟨gr, 0, none⟩) n cr) (.slice none 0 0) (.slice none 0 0) (beginS G f 0 0)) (t := 66) ?hr ?_; (case hd => rfl); (case hg => rfl); (case hr => first | (go_simp; done) | (go_simp; rfl))
  intro gb hg w3 hbox hb
  have NG := Aside0.mk (show gb ≠ gg by rw [hg]; exact Nat.ne_of_gt (blk_lt BK.out))
  have GB := bsz HB hg
  replace BK := bbw BK hb
  replace HO := rbw HO hb
  replace HB := bst HB hb
  have HM : Aside0 (MR w w3 [(gg, gC G, 28)] G (.slice As m cs) gb (.slice (some ⟨gr, 0, none⟩) n cr) (.slice none 0 0) (.slice none 0 0) (beginS G f 0 0)) := ⟨(MB.fresh HO.out HB.out hbox GB.out (by decide) (by decide)).cons BK.out (by decide) (by decide) NG.out⟩
  clear HO hbox hb hg
  refine hK.out _ _ (hS _ BK.out) (fun hHeld => ?_)
  clear hK K
  refine normQ (N := 19) ?_
  refine pureQ 8 7 HT_.out ?_
  refine done_ (done_of HT_.out (by kernel_rfl)) ?_
  clear hHeld HT_ HW_
  clear hS BK HB GB NG
  go_wp2
  go_loopw [8] (fun i wr => ∃ k : Nat, k ≤ G.l5.length ∧ i = .int .i64 (k : Int) ∧ Aside0 (MR w wr [(gg, gC G, 28)] G (.slice As m cs) gb (.slice (some ⟨gr, 0, none⟩) n cr) (.slice none 0 0) (.slice none 0 0) (beginS G f k 0))) (fun i _ => G.l5.length - (intOf i).toNat)
  case atStart => exact ⟨0, Nat.zero_le _, rfl, mup HM⟩
  case round =>
   rename World => wl
   clear HM
   obtain ⟨k, hk, rfl, HM⟩ := hrel
   by_cases hlt : k < G.l5.length
   · have hlt2 : decide ((k : Int) < (G.l5.length : Int)) = true := decide_eq_true (by omega)
     have hwk : IntKind.i64.wrap ((k : Int) + 1) = ((k + 1 : Nat) : Int) := (i64_w _).trans ((M.wrap64_in _ (by have := KP.out.n5; omega)).trans (by omega))
     obtain ⟨z, hz⟩ : ∃ z, rd_T83 G.l5 (k : Int) = z := ⟨_, rfl⟩
     obtain ⟨ad5, ee5, y0, y1, y2⟩ := at_T83 ((KG.out.below HM.out.mem.hb).h5) (k : Int) (by omega) (by omega)
     rw [Int.toNat_natCast, hz] at y0 y1 y2
     have p1 : ((0 : Int) ≤ (k : Int)) = True := eq_true (by omega)
     have q1 : ((k : Int) < (G.l5.length : Int)) = True := eq_true (by omega)
     have q2 : (k < G.l5.length) = True := eq_true hlt
     have BG := Aside0.mk HM.out.head
     have b5 : wl.cell? ⟨gg, 5, none⟩ = some (.slice (some ad5) G.l5.length G.c5) := (hcz BG 5).trans (by rw [← ee5]; rfl)
     clear BG ee5
     go_upto_region 5 with (fail)
     have c11 := HM.out.cell 11
     have q3 : (k < n) = True := eq_true (by have := K1.out; have := KN.out; omega)
     have q4 : ((k : Int) < (n : Int)) = True := eq_true (by have := K1.out; have := KN.out; omega)
     obtain ⟨x1, r1⟩ := HM.out.mem.reg k (by have := K1.out; have := KN.out; omega)
     generalize (regK G k).getD k 0 = xg at x1
     go_still_tail 12, (by kernel_rfl)
     change wpList _ _ _ _ _ wl.drew
     replace HM := Aside0.mk (HM.out.drew.setReg k z.f2)
     go_wp2
     go_roundw
     case measure => simp [intOf] <;> omega
     case rel => exact ⟨k + 1, by omega, by first | rfl | simp, ⟨by have h1 := HM.out; rw [show (beginS G f k 0).regs.set k z.f2 = regK G (k + 1) from by rw [← hz]; rfl] at h1; exact h1⟩⟩
   · have hk2 : k = G.l5.length := by omega
     subst hk2
     have hlt2 : decide ((G.l5.length : Int) < (G.l5.length : Int)) = false := decide_eq_false (by omega)
     have BG := Aside0.mk HM.out.head
     have b5 : wl.cell? ⟨gg, 5, none⟩ = some (.slice G.A5 G.l5.length G.c5) := hcz BG 5
     go_wp2
     clear BG b5
     go_loopw [9] (fun i wr => ∃ (k : Nat) (va : Value), k ≤ G.l6.length ∧ i = .int .i64 (k : Int) ∧ Aside0 (MR w wr [(gg, gC G, 28)] G (.slice As m cs) gb (.slice (some ⟨gr, 0, none⟩) n cr) va (.slice none 0 0) (beginS G f G.l5.length k))) (fun i _ => G.l6.length - (intOf i).toNat)
     case atStart => exact ⟨0, .slice none 0 0, Nat.zero_le _, rfl, mup HM⟩
     case round =>
      rename World => wk
      clear HM
      obtain ⟨k, va, hk, rfl, HM⟩ := hrel
      by_cases hlt : k < G.l6.length
      · have hlt2 : decide ((k : Int) < (G.l6.length : Int)) = true := decide_eq_true (by omega)
        have hwk : IntKind.i64.wrap ((k : Int) + 1) = ((k + 1 : Nat) : Int) := (i64_w _).trans ((M.wrap64_in _ (by have := KP.out.n6; omega)).trans (by omega))
        obtain ⟨z, hz⟩ : ∃ z, rd_T85 G.l6 (k : Int) = z := ⟨_, rfl⟩
        obtain ⟨sz, hsz⟩ : ∃ s : Nat, z.f2 = (s : Int) := ⟨z.f2.toNat, by have := (KP.out.ar k hlt).2; rw [hz] at this; omega⟩
        have KZ : Aside0 (1 ≤ sz ∧ sz ≤ 256) := ⟨by have := (KP.out.ar k hlt).2; rw [hz] at this; omega⟩
        have KS2 := Aside0.mk hsz
        clear hsz
        have KZZ := Aside0.mk hz
        clear hz
        have p1 : ((0 : Int) ≤ (k : Int)) = True := eq_true (by omega)
        have q1 : ((k : Int) < (G.l6.length : Int)) = True := eq_true (by omega)
        have q2 : (k < G.l6.length) = True := eq_true hlt
        obtain ⟨Aa, ca, eva⟩ := HM.out.mem.arrSlice
        rw [show (beginS G f G.l5.length k).arrs = arrK G k from rfl, arrK_len] at eva
        subst eva
        have BG := Aside0.mk HM.out.head
        have b6 : wk.cell? ⟨gg, 6, none⟩ = some (.slice G.A6 G.l6.length G.c6) := hcz BG 6
        go_wp2
        clear BG b6
        go_loopw [10, 11] (fun l i wr => ∃ (j : Nat) (A : Option Addr) (c : Nat), j ≤ sz ∧ l = .slice A j c ∧ i = .int .i64 (j : Int) ∧ Aside0 (Kd.R (Kd.int .i64) 2 wr wk.heap.size (fun k => wk.heap.size ≤ k) (.slice A j c) (List.replicate j z.f3)) ∧ Aside0 (Below wk.heap.size wk wr)) (fun _ i _ => sz - (intOf i).toNat)
        case atStart => exact ⟨0, none, 0, Nat.zero_le _, rfl, rfl, ⟨Kd.R_nil _ _ _ _ _⟩, ⟨Below.refl _ _⟩⟩
        case round =>
         rename World => wj
         obtain ⟨j, A, c, hj, rfl, rfl, HO, HB⟩ := hrel
         have HMj := Aside0.mk (HM.out.below HB.out)
         obtain ⟨ad6, ee6, y0, y1, y2, y3⟩ := at_T85 ((KG.out.below HMj.out.mem.hb).h6) (k : Int) (by omega) (by omega)
         rw [Int.toNat_natCast, KZZ.out] at y0 y1 y2 y3
         rw [KS2.out] at y2
         have BG := Aside0.mk HMj.out.head
         have b6 : wj.cell? ⟨gg, 6, none⟩ = some (.slice (some ad6) G.l6.length G.c6) := (hcz BG 6).trans (by rw [← ee6]; rfl)
         clear BG ee6
         by_cases hjl : j < sz
         · have hlt3 : decide ((j : Int) < (sz : Int)) = true := decide_eq_true (by omega)
           have hwj : IntKind.i64.wrap ((j : Int) + 1) = ((j + 1 : Nat) : Int) := (i64_w _).trans ((M.wrap64_in _ (by have := KZ.out; omega)).trans (by omega))
           go_wp2_with (at_builtin; go_loud (refine Kd.R_append (Kd.int .i64) (w0 := wk) wk.heap.size rfl (.tmp 56) (.tmp 63) 29 2 (.int .i64 0) 8 rfl Try.underlying29 info2 rfl (by decide) (by omega) (.slice A j c) (List.replicate j z.f3) z.f3 [.int .i64 z.f3] (fun k => wk.heap.size ≤ k) (fun _ => False) rfl rfl rfl (fun _ h => h.elim) (fun k hk => Nat.le_trans HB.out.size hk) HO.out HB.out HB.out.size (by rw [List.length_replicate]; have := KZ.out; omega) ?_); intro v1 w1 ho hb _ _; obtain ⟨A1, c1, ev⟩ := Kd.R_slice ho; rw [List.length_append, List.length_replicate, List.length_singleton] at ev; subst ev; rw [← List.replicate_succ'] at ho; replace HO := Aside0.mk ho; replace HB := Aside0.mk hb; clear ho hb HMj)
           go_roundw
           case measure => simp [intOf] <;> omega
           case rel => exact ⟨j + 1, A1, c1, by omega, rfl, by first | rfl | simp, HO, HB⟩
         · have hj2 : j = sz := by omega
           subst hj2
           have hlt3 : decide ((j : Int) < (j : Int)) = false := decide_eq_false (by omega)
           have d18 := HMj.out.cell 18
           go_wp2_with (at_builtin; go_loud (refine MB.pushA HM.out HB.out HO.out rfl (.tmp 70) (.tmp 72) rfl rfl rfl (by show (arrK G k).length < 1000; rw [arrK_len]; have := KP.out.n6; omega) ?_); intro v1 w6 hm; clear HM; obtain ⟨Av, cv, ev⟩ := hm.mem.arrSlice; obtain ⟨nv, hnv⟩ : ∃ q, ((beginS G f G.l5.length k).arrs ++ [List.replicate j z.f3]).length = q := ⟨_, rfl⟩; rw [hnv] at ev; clear hnv; subst ev; have HM := Aside0.mk hm; clear hm; have c18 := HM.out.cell 18; have f18 := HM.out.froz 18)
           go_roundw
           case measure => simp [intOf] <;> omega
           case rel => exact ⟨k + 1, _, by omega, by first | rfl | simp, ⟨by have h1 := HM.out.set 18 (.slice Av nv cv) rfl; rw [show (beginS G f G.l5.length k).arrs ++ [List.replicate j z.f3] = arrK G (k + 1) from by show _ = arrK G k ++ [List.replicate (rd_T85 G.l6 (k : Int)).f2.toNat (rd_T85 G.l6 (k : Int)).f3]; rw [KZZ.out, KS2.out, Int.toNat_natCast]; rfl] at h1; exact h1⟩⟩
      · have hk2 : k = G.l6.length := by omega
        subst hk2
        have hlt2 : decide ((G.l6.length : Int) < (G.l6.length : Int)) = false := decide_eq_false (by omega)
        have BG := Aside0.mk HM.out.head
        have b6 : wk.cell? ⟨gg, 6, none⟩ = some (.slice G.A6 G.l6.length G.c6) := hcz BG 6
        go_wp2
        go_ret
        exact ⟨gb, va, rfl, gr, cr, HM.out.tail⟩
end Go.Proofs.Ytcalcbeonbfkmaa.P
