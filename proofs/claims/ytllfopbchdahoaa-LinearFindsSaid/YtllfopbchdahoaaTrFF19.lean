/- What the law's proof needs of F19. -/
import Derived.Test.YtllfopbchdahoaaTrFF18
import Derived.Test.YtllfopbchdahoaaTrFM6
namespace Go.Proofs.Ytllfopbchdahoaa.P
open Go.RowKit Go.Proofs.YtllfopbchdahoaaW.PrintWords Go.Proofs.YtllfopbchdahoaaW.PrintLast Go.Proofs.YtllfopbchdahoaaW.PrintMore Go.Proofs.YtllfopbchdahoaaO
attribute [local go_sem] max2_int min2_int max_two min_two max_three min_three max_four min_four
set_option linter.unusedVariables false
set_option linter.unusedSimpArgs false
theorem awake_c (w : World) : Calls Try.prog 10 #[] w fun e w' => e = .returned (.bool true) ∧ Below w.heap.size w w' := by
  obtain ⟨k, hk⟩ := M.awake_ev.is
  exact gimballaw14_awake.calls k true w hk
set_option maxHeartbeats 8000000 in
set_option maxRecDepth 100000 in
theorem finds_calls (G : Gr) (r : Int) (w : World) (hG : G.Held w) (hd : ∀ p : Nat, p < G.l0.length → -9223372036854775808 ≤ (rd_T64 G.l0 (p : Int)).f1 ∧ (rd_T64 G.l0 (p : Int)).f1 ≤ 9223372036854775807) :
    Calls Try.prog 7 #[G.v, .int .i64 r] w fun e w' => e = .returned (.bool true) ∧ Below w.heap.size w w' := by
  have KT := Aside0.mk (tabV_len G G.l0.length)
  have KG : Aside0 (∀ i : Int, getV G i = if i < 0 ∨ G.regs ≤ i then (z23, false) else (rd_T23 (tabV G G.l0.length).1 i, (tabV G G.l0.length).2.getD i.toNat false)) := ⟨fun _ => rfl⟩
  have KFIT := Aside0.mk (fun (W : World) (h : G.Held W) => fit_calls G W h hd)
  have KF := Aside0.mk (fun (W : World) (h : G.Held W) (hF : FitOK G) => forms_calls G W h hF)
  have KR := Aside0.mk (fun (W : World) (h : G.Held W) (hF : FitOK G) => refForms_calls G W h hF)
  have KO := Aside0.mk (fun (i : Int) (W : World) (h : G.Held W) (hF : FitOK G) => lOf_calls G i W h hF)
  have KP := Aside0.mk (fun (i : Int) (W : World) (h : G.Held W) (hF : FitOK G) => refOf_calls G i W h hF)
  have KN : Aside0 (FitOK G → 0 ≤ G.regs) := ⟨fun hF => by obtain ⟨ds, hD, _⟩ := hF.rest; have := hD.regs; omega⟩
  generalize tabV G G.l0.length = T at *
  obtain ⟨A0, c0, l0, a1, a2, a3, A4, c4, l4, A5, c5, l5, A6, c6, l6, A7, c7, l7⟩ := G
  have QG := Aside0.mk hG
  simp only [Gr.v] at *
  have hu41 := Try.underlying41
  have hu23 := Try.underlying23
  have HB := Aside0.mk (Below.refl w.heap.size w)
  clear hG hd
  go_enter Try.func7, Try.ntmps7
  go_upto_region 3 with (first | ((with_reducible refine gate_dst (N := 2) rfl ?_); refine boxQ 2 #[.slice A0 l0.length c0, .int .i64 a1, .int .i64 a2, .int .i64 a3, .slice A4 l4.length c4, .slice A5 l5.length c5, .slice A6 l6.length c6, .slice A7 l7.length c7] 41 HB ?_; clear HB; intro gb w1 _ GW BK _ HB; have hcf := hcf8 BK; obtain ⟨_, _, _, _, _, _, _, _, _, _, _, _, _, _, _, _⟩ := hcf) | ((with_reducible refine gate_callee (f := 20) rfl ?_); refine goesL_ (some 17) rfl rfl Try.func20 (by kernel_rfl) rfl #[.agg #[.slice A0 l0.length c0, .int .i64 a1, .int .i64 a2, .int .i64 a3, .slice A4 l4.length c4, .slice A5 l5.length c5, .slice A6 l6.length c6, .slice A7 l7.length c7]] rfl (by (try simp only [List.map_toArray, List.map_cons, List.map_nil]); first | done | rfl) ?_; refine (KFIT.out _ (QG.out.below (bpk HB).out)).mono ?_; rintro e w' ⟨⟨fb, rfl, hp⟩, hb⟩; have HF := Aside0.mk hp; replace BK := bbw BK hb; replace HB := bst HB hb; clear hb hp; have hcf := hcf8 BK; obtain ⟨_, _, _, _, _, _, _, _, _, _, _, _, _, _, _, _⟩ := hcf; refine ⟨_, rfl, ?_⟩; cases fb) | ((with_reducible refine gate_callee (f := 10) rfl ?_); refine goesL_ (some 19) rfl rfl Try.func10 (by kernel_rfl) rfl #[] rfl (by (try simp only [List.map_toArray, List.map_cons, List.map_nil]); first | done | rfl) ?_; refine (awake_c _).mono ?_; rintro e w' ⟨rfl, hb⟩; replace HB := bst HB hb; clear hb; refine ⟨_, rfl, ?_⟩))
  all_goals first | (go_ret; exact ⟨rfl, (bpk HB).out⟩) | skip
  have HFO := Aside0.mk (HF.out rfl)
  have KN2 := Aside0.mk (KN.out HFO.out)
  clear HF KFIT KN
  go_upto_region 5 with (first | ((with_reducible refine gate_callee (f := 21) rfl ?_); refine goesL_ (some 22) rfl rfl Try.func21 (by kernel_rfl) rfl #[.agg #[.slice A0 l0.length c0, .int .i64 a1, .int .i64 a2, .int .i64 a3, .slice A4 l4.length c4, .slice A5 l5.length c5, .slice A6 l6.length c6, .slice A7 l7.length c7]] rfl (by (try simp only [List.map_toArray, List.map_cons, List.map_nil]); first | done | rfl) ?_; refine (KF.out _ (QG.out.below (bpk HB).out) HFO.out).mono ?_; rintro e w' ⟨⟨AP, eP, BP, gP, rfl, hCP, hOP, _, _⟩, hb⟩; replace BK := bbw BK hb; replace HB := bst HB hb; clear hb; have CP := Aside0.mk hCP; have OP := Aside0.mk hOP; clear hCP hOP; have hcf := hcf8 BK; obtain ⟨_, _, _, _, _, _, _, _, _, _, _, _, _, _, _, _⟩ := hcf; refine ⟨_, rfl, ?_⟩) | ((with_reducible refine gate_callee (f := 22) rfl ?_); refine goesL_ (some 27) rfl rfl Try.func22 (by kernel_rfl) rfl #[.agg #[.slice A0 l0.length c0, .int .i64 a1, .int .i64 a2, .int .i64 a3, .slice A4 l4.length c4, .slice A5 l5.length c5, .slice A6 l6.length c6, .slice A7 l7.length c7]] rfl (by (try simp only [List.map_toArray, List.map_cons, List.map_nil]); first | done | rfl) ?_; refine (KR.out _ (QG.out.below (bpk HB).out) HFO.out).mono ?_; rintro e w' ⟨⟨AQ, eQ, BQ, gQ, rfl, hCQ, hOQ, _, _⟩, hb⟩; replace BK := bbw BK hb; replace HB := bst HB hb; have CP' := CP; have OP' := OP; clear CP OP; have CP := Aside0.mk (Kd.C_below CP'.out hb); have OP := Aside0.mk (Kd.C_below OP'.out hb); clear CP' OP'; clear hb; have CQ := Aside0.mk hCQ; have OQ := Aside0.mk hOQ; clear hCQ hOQ; have hcf := hcf8 BK; obtain ⟨_, _, _, _, _, _, _, _, _, _, _, _, _, _, _, _⟩ := hcf; refine ⟨_, rfl, ?_⟩))
  obtain ⟨hlf, hlo⟩ := KT.out
  (try dsimp only at hlf hlo)
  have hn := KN2.out
  (try dsimp only at hn)
  obtain ⟨n, rfl⟩ : ∃ n : Nat, a2 = (n : Int) := ⟨a2.toNat, by omega⟩
  rw [Int.toNat_natCast] at hlf hlo
  have hb1 : ((T.1.length : Int) != (n : Int)) = false := bne_eq_false_iff_eq.mpr (by omega)
  have hb2 : ((T.2.length : Int) != (n : Int)) = false := bne_eq_false_iff_eq.mpr (by omega)
  have KL := Aside0.mk (And.intro hlf hlo)
  clear hlf hlo hn
  go_wp2
  rename World => wd
  have HBw := HB
  have BKd := BK
  have QD := Aside0.mk (QG.out.below HB.out)
  clear HB BK QG hb1 hb2
  have HB := Aside0.mk (Below.refl wd.heap.size wd)
  go_loopw [9] (fun i wr => ∃ k : Nat, k ≤ n ∧ i = .int .i64 (k : Int) ∧ Aside0 (Below wd.heap.size wd wr)) (fun i _ => n - (intOf i).toNat)
  case atStart => exact ⟨0, Nat.zero_le _, rfl, bpk HB⟩
  case round =>
   rename World => wl
   clear HB
   obtain ⟨k, hk, rfl, HB⟩ := hrel
   have BK : Aside0 (wl.heap[gb]? = _) := ⟨blk_below BKd.out HB.out⟩
   have hcf := hcf8 BK
   obtain ⟨_, _, _, _, _, _, _, _, _, _, _, _, _, _, _, _⟩ := hcf
   by_cases hlt : k < n
   · have hlt2 : decide ((k : Int) < (n : Int)) = true := decide_eq_true (by omega)
     have hwk : IntKind.i64.wrap ((k : Int) + 1) = ((k + 1 : Nat) : Int) := (i64_w _).trans ((Go.Proofs.Ytllfopbchdahoaa.M.wrap64_in _ (by have := (HFO.out.parts.n5); obtain ⟨ds, hD, _⟩ := HFO.out.rest; have := hD.regs; have := hD.le; have := HFO.out.n2; (try dsimp only at *); omega)).trans (by omega))
     have hgv := KG.out (k : Int)
     rw [if_neg (by (try dsimp only); omega), Int.toNat_natCast] at hgv
     obtain ⟨hlf, hlo⟩ := KL.out
     obtain ⟨adp, ee, xp_0, xp_1, xp_2, xp_3, xp_4⟩ := at_T23 CP.out (k : Int) (by omega) (by omega)
     cases ee
     obtain ⟨aop, ee, xp_5⟩ := Kd.at_bool OP.out (k : Int) (by omega) (by omega)
     cases ee
     simp only [Int.toNat_natCast] at xp_0 xp_1 xp_2 xp_3 xp_4 xp_5
     replace xp_5 : wd.cell? _ = some (.bool (T.2.getD k false)) := xp_5
     obtain ⟨adq, ee, xq_0, xq_1, xq_2, xq_3, xq_4⟩ := at_T23 CQ.out (k : Int) (by omega) (by omega)
     cases ee
     obtain ⟨aoq, ee, xq_5⟩ := Kd.at_bool OQ.out (k : Int) (by omega) (by omega)
     cases ee
     simp only [Int.toNat_natCast] at xq_0 xq_1 xq_2 xq_3 xq_4 xq_5
     replace xq_5 : wd.cell? _ = some (.bool (T.2.getD k false)) := xq_5
     generalize rd_T23 T.1 (k : Int) = la at *
     generalize T.2.getD k false = oa at *
     have KV := Aside0.mk hgv
     have pk1 := eq_true (show (k : Int) < (T.1.length : Int) by omega)
     have pn1 := eq_true (show k < T.1.length by omega)
     have pk2 := eq_true (show (k : Int) < (T.2.length : Int) by omega)
     have pn2 := eq_true (show k < T.2.length by omega)
     have p0 := eq_true (show (0 : Int) ≤ (k : Int) by omega)
     have KOK : Aside0 (∀ W : World, Gr.Held (⟨A0, c0, l0, a1, (n : Int), a3, A4, c4, l4, A5, c5, l5, A6, c6, l6, A7, c7, l7⟩ : Gr) W → Calls Try.prog 23 #[.agg #[.slice A0 l0.length c0, .int .i64 a1, .int .i64 (n : Int), .int .i64 a3, .slice A4 l4.length c4, .slice A5 l5.length c5, .slice A6 l6.length c6, .slice A7 l7.length c7], .int .i64 (k : Int)] W (Ret5 (la, oa) W)) := ⟨fun W h => by have h2 := KO.out (k : Int) W h HFO.out; rw [hgv] at h2; exact h2⟩
     have hlt3 : decide (k < n) = true := decide_eq_true hlt
     have hlt4 := eq_true hlt
     clear hgv hlf hlo
     go_upto_region 11 with (first | ((with_reducible refine gate_callee (f := 23) rfl ?_); refine goesL_ (some 51) rfl rfl Try.func23 (by kernel_rfl) rfl #[.agg #[.slice A0 l0.length c0, .int .i64 a1, .int .i64 (n : Int), .int .i64 a3, .slice A4 l4.length c4, .slice A5 l5.length c5, .slice A6 l6.length c6, .slice A7 l7.length c7], .int .i64 (k : Int)] rfl (by (try simp only [List.map_toArray, List.map_cons, List.map_nil]); first | done | rfl) ?_; refine (KOK.out _ (QD.out.below (bpk HB).out)).mono ?_; rintro e w' ⟨rfl, hb⟩; replace HB := bst HB hb; clear hb; refine ⟨_, rfl, ?_⟩) | ((with_reducible refine gate_dst (N := 10) rfl ?_); refine boxQ 10 #[.int .i64 0, .int .i64 0, .int .i64 0, .int .i64 0, .int .i64 0] 23 HB ?_; intro gx wx eg GX BX hb HX; clear HB hb eg; have HB := HX; clear HX) | ((with_reducible refine gate_store (p := 10) (t := 23) rfl ?_); refine store_box rfl rfl rfl gx 23 _ _ (pkA BX).out rfl rfl (by kernel_rfl) rfl (by kernel_rfl) ?_; intro ws hbs hgs; have HS := Aside0.mk (Below_boxed (bpk HB).out (Nat.le_refl _) GX.out hgs); clear HB BX hgs; have HB := HS; have BX := Aside0.mk hbs; clear HS hbs; have hcf := hcf5 BX; obtain ⟨_, _, _, _, _, _, _, _, _, _⟩ := hcf))
     replace xp_0 := (HB.out.cell (World.block_lt_of_cell? wd _ xp_0)).trans xp_0
     replace xp_1 := (HB.out.cell (World.block_lt_of_cell? wd _ xp_1)).trans xp_1
     replace xp_2 := (HB.out.cell (World.block_lt_of_cell? wd _ xp_2)).trans xp_2
     replace xp_3 := (HB.out.cell (World.block_lt_of_cell? wd _ xp_3)).trans xp_3
     replace xp_4 := (HB.out.cell (World.block_lt_of_cell? wd _ xp_4)).trans xp_4
     replace xp_5 := (HB.out.cell (World.block_lt_of_cell? wd _ xp_5)).trans xp_5
     replace xq_0 := (HB.out.cell (World.block_lt_of_cell? wd _ xq_0)).trans xq_0
     replace xq_1 := (HB.out.cell (World.block_lt_of_cell? wd _ xq_1)).trans xq_1
     replace xq_2 := (HB.out.cell (World.block_lt_of_cell? wd _ xq_2)).trans xq_2
     replace xq_3 := (HB.out.cell (World.block_lt_of_cell? wd _ xq_3)).trans xq_3
     replace xq_4 := (HB.out.cell (World.block_lt_of_cell? wd _ xq_4)).trans xq_4
     replace xq_5 := (HB.out.cell (World.block_lt_of_cell? wd _ xq_5)).trans xq_5
     go_quiet (fail)
     go_wp2
     go_roundw
     case measure => simp [intOf] <;> omega
     case rel => exact ⟨k + 1, by omega, by first | rfl | simp, bpk HB⟩
   · obtain rfl : k = n := by omega
     have hlt2 : decide ((k : Int) < (k : Int)) = false := decide_eq_false (by omega)
     obtain ⟨gr, hgr⟩ : ∃ gr, getV (⟨A0, c0, l0, a1, (k : Int), a3, A4, c4, l4, A5, c5, l5, A6, c6, l6, A7, c7, l7⟩ : Gr) r = gr := ⟨_, rfl⟩
     have KOK : Aside0 (∀ W : World, Gr.Held (⟨A0, c0, l0, a1, (k : Int), a3, A4, c4, l4, A5, c5, l5, A6, c6, l6, A7, c7, l7⟩ : Gr) W → Calls Try.prog 23 #[.agg #[.slice A0 l0.length c0, .int .i64 a1, .int .i64 (k : Int), .int .i64 a3, .slice A4 l4.length c4, .slice A5 l5.length c5, .slice A6 l6.length c6, .slice A7 l7.length c7], .int .i64 r] W (Ret5 gr W)) := ⟨fun W h => by have h2 := KO.out r W h HFO.out; rw [hgr] at h2; exact h2⟩
     have KPK : Aside0 (∀ W : World, Gr.Held (⟨A0, c0, l0, a1, (k : Int), a3, A4, c4, l4, A5, c5, l5, A6, c6, l6, A7, c7, l7⟩ : Gr) W → Calls Try.prog 24 #[.agg #[.slice A0 l0.length c0, .int .i64 a1, .int .i64 (k : Int), .int .i64 a3, .slice A4 l4.length c4, .slice A5 l5.length c5, .slice A6 l6.length c6, .slice A7 l7.length c7], .int .i64 r] W (Ret5 gr W)) := ⟨fun W h => by have h2 := KP.out r W h HFO.out; rw [hgr] at h2; exact h2⟩
     clear hgr
     go_wp2_with (first | ((with_reducible refine gate_callee (f := 23) rfl ?_); refine goesL_ (some 93) rfl rfl Try.func23 (by kernel_rfl) rfl #[.agg #[.slice A0 l0.length c0, .int .i64 a1, .int .i64 (k : Int), .int .i64 a3, .slice A4 l4.length c4, .slice A5 l5.length c5, .slice A6 l6.length c6, .slice A7 l7.length c7], .int .i64 r] rfl (by (try simp only [List.map_toArray, List.map_cons, List.map_nil]); first | done | rfl) ?_; refine (KOK.out _ (QD.out.below (bpk HB).out)).mono ?_; rintro e w' ⟨rfl, hb⟩; replace HB := bst HB hb; replace BK : Aside0 (w'.heap[gb]? = _) := ⟨blk_below BKd.out HB.out⟩; clear hb; refine ⟨_, rfl, ?_⟩) | ((with_reducible refine gate_dst (N := 12) rfl ?_); refine boxQ 12 #[.int .i64 0, .int .i64 0, .int .i64 0, .int .i64 0, .int .i64 0] 23 HB ?_; intro gx wx eg GX BX hb HX; clear HB hb eg; have HB := HX; clear HX) | ((with_reducible refine gate_store (p := 12) (t := 23) rfl ?_); refine store_box rfl rfl rfl gx 23 _ _ (pkA BX).out rfl rfl (by kernel_rfl) rfl (by kernel_rfl) ?_; intro ws hbs hgs; have HS := Aside0.mk (Below_boxed (bpk HB).out (Nat.le_refl _) GX.out hgs); clear HB BX hgs BK; have HB := HS; have BX := Aside0.mk hbs; have BK : Aside0 (ws.heap[gb]? = _) := ⟨blk_below BKd.out HB.out⟩; clear HS hbs; have hcf := hcf8 BK; obtain ⟨_, _, _, _, _, _, _, _, _, _, _, _, _, _, _, _⟩ := hcf) | ((with_reducible refine gate_callee (f := 24) rfl ?_); refine goesL_ (some 99) rfl rfl Try.func24 (by kernel_rfl) rfl #[.agg #[.slice A0 l0.length c0, .int .i64 a1, .int .i64 (k : Int), .int .i64 a3, .slice A4 l4.length c4, .slice A5 l5.length c5, .slice A6 l6.length c6, .slice A7 l7.length c7], .int .i64 r] rfl (by (try simp only [List.map_toArray, List.map_cons, List.map_nil]); first | done | rfl) ?_; refine (KPK.out _ (QD.out.below (bpk HB).out)).mono ?_; rintro e w' ⟨rfl, hb⟩; replace HB := bst HB hb; replace BK : Aside0 (w'.heap[gb]? = _) := ⟨blk_below BKd.out HB.out⟩; replace BX := bbw BX hb; clear hb; refine ⟨_, rfl, ?_⟩) | ((with_reducible refine gate_dst (N := 14) rfl ?_); refine boxQ 14 #[.int .i64 0, .int .i64 0, .int .i64 0, .int .i64 0, .int .i64 0] 23 HB ?_; intro gy wx eg GY BY hb HX; have NY := bn1 BX eg.out; replace BX := bbw BX hb.out; clear HB hb eg; have HB := HX; clear HX) | ((with_reducible refine gate_store (p := 14) (t := 23) rfl ?_); refine store_box rfl rfl rfl gy 23 _ _ (pkA BY).out rfl rfl (by kernel_rfl) rfl (by kernel_rfl) ?_; intro ws hbs hgs; have HS := Aside0.mk (Below_boxed (bpk HB).out (Nat.le_refl _) GY.out hgs); replace BX := boxed_other (pkA BX) hgs NY; clear HB BY hgs; have HB := HS; have BY := Aside0.mk hbs; clear HS hbs; have hcf := hcf5 BX; obtain ⟨_, _, _, _, _, _, _, _, _, _⟩ := hcf; have hcf := hcf5 BY; obtain ⟨_, _, _, _, _, _, _, _, _, _⟩ := hcf) | (go_at_call 10; refine (awake_c _).mono ?_; rintro e w' ⟨rfl, hb⟩; replace HB := bst HB hb; clear hb))
     all_goals go_ret
     all_goals exact ⟨by first | rfl | simp, below_step HBw.out (bpk HB).out⟩
end Go.Proofs.Ytllfopbchdahoaa.P
