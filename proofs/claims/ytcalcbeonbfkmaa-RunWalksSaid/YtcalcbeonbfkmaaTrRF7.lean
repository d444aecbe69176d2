/- What the law's proof needs of F7. -/
import Derived.Test.YtcalcbeonbfkmaaTrRF6
namespace Go.Proofs.Ytcalcbeonbfkmaa.P
open Go.RowKit Go.Proofs.YtcalcbeonbfkmaaW.PrintWords Go.Proofs.YtcalcbeonbfkmaaW.PrintLast Go.Proofs.YtcalcbeonbfkmaaW.PrintMore Go.Proofs.YtcalcbeonbfkmaaO
attribute [local go_sem] max2_int min2_int max_two min_two max_three min_three max_four min_four
set_option linter.unusedVariables false
set_option linter.unusedSimpArgs false
def Typed (t : Int) : Prop := 1 ≤ t ∧ t ≤ 3
structure PartsOK (G : Gr) : Prop where
  n4 : G.l4.length ≤ 32
  n5 : G.l5.length ≤ 64
  n6 : G.l6.length ≤ 16
  tk : 0 ≤ G.ticks
  sc : ∀ j : Nat, j < G.l5.length → Typed (rd_T83 G.l5 (j : Int)).f1
  ar : ∀ j : Nat, j < G.l6.length → Typed (rd_T85 G.l6 (j : Int)).f1 ∧ 1 ≤ (rd_T85 G.l6 (j : Int)).f2 ∧ (rd_T85 G.l6 (j : Int)).f2 ≤ 256
def PartsP (G : Gr) (b : Bool) : Prop := b = true → PartsOK G
theorem upto_next {P : Nat → Prop} {k : Nat} (h : ∀ j : Nat, j < k → P j) (hk : P k) : ∀ j : Nat, j < k + 1 → P j := fun j hj => by
  by_cases e : j = k
  · subst e; exact hk
  · exact h j (by omega)
set_option maxHeartbeats 8000000 in
set_option maxRecDepth 100000 in
theorem parts_calls (G : Gr) (w : World) (hG : G.Held w) : Calls Try.prog 18 #[G.v] w fun e w' => RetB e (PartsP G) ∧ Below w.heap.size w w' := by
  obtain ⟨A0, c0, l0, a1, a2, a3, A4, c4, l4, A5, c5, l5, A6, c6, l6, A7, c7, l7⟩ := G
  obtain ⟨H0, H4, H5, H6, H7, k0, k5, k7⟩ := hG
  simp only [Gr.v] at *
  have hu28 := Try.underlying28
  have HB := Aside0.mk (Below.refl w.heap.size w)
  have Q4 := Aside0.mk H4
  have Q5 := Aside0.mk H5
  have Q6 := Aside0.mk H6
  have Q7 := Aside0.mk H7
  clear H0 H4 H5 H6 H7
  go_enter Try.func18, Try.ntmps18
  by_cases cS : 1 ≤ l7.length
  · obtain ⟨ad7, ee, hs_0, hs_1⟩ := at_T77 Q7.out 0 (by omega) (by omega)
    rw [show ((0 : Int)).toNat * 2 = 0 from rfl, Addr.add_zero'] at hs_0 hs_1
    cases ee
    have cS2 : (0 < l7.length) = True := eq_true (by omega)
    have cS3 : decide ((l7.length : Int) < 1) = false := decide_eq_false (by omega)
    have cS4 : ((0 : Int) < (l7.length : Int)) = True := eq_true (by omega)
    go_wp2_with (first | ((with_reducible refine gate_dst (N := 1) rfl ?_); refine boxQ 1 #[.slice A0 l0.length c0, .int .i64 a1, .int .i64 a2, .int .i64 a3, .slice A4 l4.length c4, .slice A5 l5.length c5, .slice A6 l6.length c6, .slice (some ad7) l7.length c7] 28 HB ?_; clear HB; intro gb w1 _ GW BK _ HB; replace hs_0 := (HB.out.cell (World.block_lt_of_cell? w _ hs_0)).trans hs_0; replace hs_1 := (HB.out.cell (World.block_lt_of_cell? w _ hs_1)).trans hs_1; have hcf := hcf8 BK; obtain ⟨_, _, _, _, _, _, _, _, _, _, _, _, _, _, _, _⟩ := hcf))
    all_goals first | (go_ret; exact ⟨⟨_, rfl, fun h => nomatch h⟩, (bpk HB).out⟩) | skip
    have n4 : l4.length ≤ 32 := by omega
    have n5 : l5.length ≤ 64 := by omega
    have n6 : l6.length ≤ 16 := by omega
    have tk : 0 ≤ a3 := by omega
    clear hs_0 hs_1 cS2 cS3 cS4
    go_loopw [54] (fun i wr => ∃ k : Nat, k ≤ l7.length ∧ i = .int .i64 (k : Int) ∧ (True) ∧ Aside0 (wr.heap[gb]? = some (.cells #[.slice A0 l0.length c0, .int .i64 a1, .int .i64 a2, .int .i64 a3, .slice A4 l4.length c4, .slice A5 l5.length c5, .slice A6 l6.length c6, .slice (some ad7) l7.length c7] 28 (0, 0))) ∧ Aside0 (Below w.heap.size w wr)) (fun i _ => l7.length - (intOf i).toNat)
    case atStart => exact ⟨0, Nat.zero_le _, rfl, trivial, pkA BK, bpk HB⟩
    case round =>
     rename World => wl
     clear HB BK
     obtain ⟨k, hk, rfl, hF7, BK, HB⟩ := hrel
     by_cases hlt : k < l7.length
     · obtain ⟨ad7, ee, hx_0, hx_1⟩ := at_T77 Q7.out (k : Int) (by omega) (by omega)
       replace hx_0 := (HB.out.cell (World.block_lt_of_cell? w _ hx_0)).trans hx_0
       replace hx_1 := (HB.out.cell (World.block_lt_of_cell? w _ hx_1)).trans hx_1
       have hcf := hcf8 BK
       obtain ⟨_, _, _, _, _, _, _, _, _, _, _, _, _, _, _, _⟩ := hcf
       have hlt2 : decide ((k : Int) < (l7.length : Int)) = true := decide_eq_true (by omega)
       generalize hy : rd_T77 l7 (k : Int) = y at hx_0 hx_1
       cases ee
       simp only [Int.toNat_natCast] at hx_0 hx_1
       go_wp2_with (first | ((with_reducible refine gate_dst (N := 4) rfl ?_); refine boxQ 4 #[.int .i64 0, .int .i64 0] 77 HB ?_; intro gx wx eg GX BX hb HX; have NX := bn1 BK eg.out; have NX2 := bn2 BK eg.out; replace BK := bbw BK hb.out; clear HB hb eg; have HB := HX; clear HX; have hcf := hcf2 BX; obtain ⟨_, _, _, _⟩ := hcf; have hnx := NX.out; have hnx2 := NX2.out))
       all_goals first | (go_ret; exact ⟨⟨_, rfl, fun h => nomatch h⟩, (bpk HB).out⟩) | skip
       all_goals (go_roundw; (case measure => simp [intOf]; omega); (case rel => exact ⟨k + 1, by omega, by simp, trivial, ⟨pkF BK⟩, bpk HB⟩))
     · obtain rfl : k = l7.length := by omega
       have hlt2 : decide ((l7.length : Int) < (l7.length : Int)) = false := decide_eq_false (by omega)
       have hcf := hcf8 BK
       obtain ⟨_, _, _, _, _, _, _, _, _, _, _, _, _, _, _, _⟩ := hcf
       go_wp2
       go_loopw [76] (fun i wr => ∃ k : Nat, k ≤ l4.length ∧ i = .int .i64 (k : Int) ∧ (True) ∧ Aside0 (wr.heap[gb]? = some (.cells #[.slice A0 l0.length c0, .int .i64 a1, .int .i64 a2, .int .i64 a3, .slice A4 l4.length c4, .slice A5 l5.length c5, .slice A6 l6.length c6, .slice (some ad7) l7.length c7] 28 (0, 0))) ∧ Aside0 (Below w.heap.size w wr)) (fun i _ => l4.length - (intOf i).toNat)
       case atStart => exact ⟨0, Nat.zero_le _, rfl, trivial, pkA BK, bpk HB⟩
       case round =>
        rename World => wl
        clear HB BK
        obtain ⟨k, hk, rfl, hF4, BK, HB⟩ := hrel
        by_cases hlt : k < l4.length
        · obtain ⟨ad4, ee, hx_0, hx_1, hx_2, hx_3⟩ := at_T79 Q4.out (k : Int) (by omega) (by omega)
          replace hx_0 := (HB.out.cell (World.block_lt_of_cell? w _ hx_0)).trans hx_0
          replace hx_1 := (HB.out.cell (World.block_lt_of_cell? w _ hx_1)).trans hx_1
          replace hx_2 := (HB.out.cell (World.block_lt_of_cell? w _ hx_2)).trans hx_2
          replace hx_3 := (HB.out.cell (World.block_lt_of_cell? w _ hx_3)).trans hx_3
          have hcf := hcf8 BK
          obtain ⟨_, _, _, _, _, _, _, _, _, _, _, _, _, _, _, _⟩ := hcf
          have hlt2 : decide ((k : Int) < (l4.length : Int)) = true := decide_eq_true (by omega)
          generalize hy : rd_T79 l4 (k : Int) = y at hx_0 hx_1 hx_2 hx_3
          cases ee
          simp only [Int.toNat_natCast] at hx_0 hx_1 hx_2 hx_3
          go_wp2_with (first | ((with_reducible refine gate_dst (N := 6) rfl ?_); refine boxQ 6 #[.string (⟨#[]⟩ : ByteArray), .int .i64 0, .int .i64 0, .int .i64 0] 76 HB ?_; intro gx wx eg GX BX hb HX; have NX := bn1 BK eg.out; have NX2 := bn2 BK eg.out; replace BK := bbw BK hb.out; clear HB hb eg; have HB := HX; clear HX; have hcf := hcf4 BX; obtain ⟨_, _, _, _, _, _, _, _⟩ := hcf; have hnx := NX.out; have hnx2 := NX2.out))
          by_cases ct : 1 ≤ y.f1 ∧ y.f1 ≤ 3
          rotate_left
          · have ctb := decide_eq_false ct
            go_quiet (first | exact Calls.quiet_of ((typed_q _ _).mono fun e w' ⟨h1, n, h2⟩ => ⟨h1, n, h2⟩) | exact Calls.quiet_of ((Lo_q _ _).mono fun e w' ⟨h1, n, h2⟩ => ⟨h1, n, h2⟩) | exact Calls.quiet_of ((Hi_q _ _).mono fun e w' ⟨h1, n, h2⟩ => ⟨h1, n, h2⟩))
            go_wp2
            go_ret
            exact ⟨⟨_, rfl, fun h => nomatch h⟩, (bpk HB).out⟩
          · have ctb := decide_eq_true ct
            by_cases c2 : y.f3 < y.f2
            · have c2b := decide_eq_true c2
              go_quiet (first | exact Calls.quiet_of ((typed_q _ _).mono fun e w' ⟨h1, n, h2⟩ => ⟨h1, n, h2⟩) | exact Calls.quiet_of ((Lo_q _ _).mono fun e w' ⟨h1, n, h2⟩ => ⟨h1, n, h2⟩) | exact Calls.quiet_of ((Hi_q _ _).mono fun e w' ⟨h1, n, h2⟩ => ⟨h1, n, h2⟩))
              go_wp2
              go_ret
              exact ⟨⟨_, rfl, fun h => nomatch h⟩, (bpk HB).out⟩
            · have c2b := decide_eq_false c2
              by_cases c3 : y.f2 < LoV y.f1
              · have c3b := decide_eq_true c3
                go_quiet (first | exact Calls.quiet_of ((typed_q _ _).mono fun e w' ⟨h1, n, h2⟩ => ⟨h1, n, h2⟩) | exact Calls.quiet_of ((Lo_q _ _).mono fun e w' ⟨h1, n, h2⟩ => ⟨h1, n, h2⟩) | exact Calls.quiet_of ((Hi_q _ _).mono fun e w' ⟨h1, n, h2⟩ => ⟨h1, n, h2⟩))
                go_wp2
                go_ret
                exact ⟨⟨_, rfl, fun h => nomatch h⟩, (bpk HB).out⟩
              · have c3b := decide_eq_false c3
                by_cases c4 : HiV y.f1 < y.f3
                · have c4b := decide_eq_true c4
                  go_quiet (first | exact Calls.quiet_of ((typed_q _ _).mono fun e w' ⟨h1, n, h2⟩ => ⟨h1, n, h2⟩) | exact Calls.quiet_of ((Lo_q _ _).mono fun e w' ⟨h1, n, h2⟩ => ⟨h1, n, h2⟩) | exact Calls.quiet_of ((Hi_q _ _).mono fun e w' ⟨h1, n, h2⟩ => ⟨h1, n, h2⟩))
                  go_wp2
                  go_ret
                  exact ⟨⟨_, rfl, fun h => nomatch h⟩, (bpk HB).out⟩
                · have c4b := decide_eq_false c4
                  go_quiet (first | exact Calls.quiet_of ((typed_q _ _).mono fun e w' ⟨h1, n, h2⟩ => ⟨h1, n, h2⟩) | exact Calls.quiet_of ((Lo_q _ _).mono fun e w' ⟨h1, n, h2⟩ => ⟨h1, n, h2⟩) | exact Calls.quiet_of ((Hi_q _ _).mono fun e w' ⟨h1, n, h2⟩ => ⟨h1, n, h2⟩))
                  go_wp2
                  all_goals (go_roundw; (case measure => simp [intOf]; omega); (case rel => exact ⟨k + 1, by omega, by simp, trivial, ⟨pkF BK⟩, bpk HB⟩))
        · obtain rfl : k = l4.length := by omega
          have hlt2 : decide ((l4.length : Int) < (l4.length : Int)) = false := decide_eq_false (by omega)
          have hcf := hcf8 BK
          obtain ⟨_, _, _, _, _, _, _, _, _, _, _, _, _, _, _, _⟩ := hcf
          go_wp2
          go_loopw [111] (fun i wr => ∃ k : Nat, k ≤ l5.length ∧ i = .int .i64 (k : Int) ∧ (∀ j : Nat, j < k → Typed (rd_T83 l5 (j : Int)).f1) ∧ Aside0 (wr.heap[gb]? = some (.cells #[.slice A0 l0.length c0, .int .i64 a1, .int .i64 a2, .int .i64 a3, .slice A4 l4.length c4, .slice A5 l5.length c5, .slice A6 l6.length c6, .slice (some ad7) l7.length c7] 28 (0, 0))) ∧ Aside0 (Below w.heap.size w wr)) (fun i _ => l5.length - (intOf i).toNat)
          case atStart => exact ⟨0, Nat.zero_le _, rfl, fun j hj => absurd hj (Nat.not_lt_zero j), pkA BK, bpk HB⟩
          case round =>
           rename World => wl
           clear HB BK
           obtain ⟨k, hk, rfl, hF5, BK, HB⟩ := hrel
           by_cases hlt : k < l5.length
           · obtain ⟨ad5, ee, hx_0, hx_1, hx_2⟩ := at_T83 Q5.out (k : Int) (by omega) (by omega)
             replace hx_0 := (HB.out.cell (World.block_lt_of_cell? w _ hx_0)).trans hx_0
             replace hx_1 := (HB.out.cell (World.block_lt_of_cell? w _ hx_1)).trans hx_1
             replace hx_2 := (HB.out.cell (World.block_lt_of_cell? w _ hx_2)).trans hx_2
             have hcf := hcf8 BK
             obtain ⟨_, _, _, _, _, _, _, _, _, _, _, _, _, _, _, _⟩ := hcf
             have hlt2 : decide ((k : Int) < (l5.length : Int)) = true := decide_eq_true (by omega)
             generalize hy : rd_T83 l5 (k : Int) = y at hx_0 hx_1 hx_2
             cases ee
             simp only [Int.toNat_natCast] at hx_0 hx_1 hx_2
             go_wp2_with (first | ((with_reducible refine gate_dst (N := 8) rfl ?_); refine boxQ 8 #[.string (⟨#[]⟩ : ByteArray), .int .i64 0, .int .i64 0] 80 HB ?_; intro gx wx eg GX BX hb HX; have NX := bn1 BK eg.out; have NX2 := bn2 BK eg.out; replace BK := bbw BK hb.out; clear HB hb eg; have HB := HX; clear HX; have hcf := hcf3 BX; obtain ⟨_, _, _, _, _, _⟩ := hcf; have hnx := NX.out; have hnx2 := NX2.out))
             by_cases ct : 1 ≤ y.f1 ∧ y.f1 ≤ 3
             rotate_left
             · have ctb := decide_eq_false ct
               go_quiet (first | exact Calls.quiet_of ((typed_q _ _).mono fun e w' ⟨h1, n, h2⟩ => ⟨h1, n, h2⟩) | exact Calls.quiet_of ((Lo_q _ _).mono fun e w' ⟨h1, n, h2⟩ => ⟨h1, n, h2⟩) | exact Calls.quiet_of ((Hi_q _ _).mono fun e w' ⟨h1, n, h2⟩ => ⟨h1, n, h2⟩))
               go_wp2
               go_ret
               exact ⟨⟨_, rfl, fun h => nomatch h⟩, (bpk HB).out⟩
             · have ctb := decide_eq_true ct
               by_cases c3 : y.f2 < LoV y.f1
               · have c3b := decide_eq_true c3
                 go_quiet (first | exact Calls.quiet_of ((typed_q _ _).mono fun e w' ⟨h1, n, h2⟩ => ⟨h1, n, h2⟩) | exact Calls.quiet_of ((Lo_q _ _).mono fun e w' ⟨h1, n, h2⟩ => ⟨h1, n, h2⟩) | exact Calls.quiet_of ((Hi_q _ _).mono fun e w' ⟨h1, n, h2⟩ => ⟨h1, n, h2⟩))
                 go_wp2
                 go_ret
                 exact ⟨⟨_, rfl, fun h => nomatch h⟩, (bpk HB).out⟩
               · have c3b := decide_eq_false c3
                 by_cases c4 : HiV y.f1 < y.f2
                 · have c4b := decide_eq_true c4
                   go_quiet (first | exact Calls.quiet_of ((typed_q _ _).mono fun e w' ⟨h1, n, h2⟩ => ⟨h1, n, h2⟩) | exact Calls.quiet_of ((Lo_q _ _).mono fun e w' ⟨h1, n, h2⟩ => ⟨h1, n, h2⟩) | exact Calls.quiet_of ((Hi_q _ _).mono fun e w' ⟨h1, n, h2⟩ => ⟨h1, n, h2⟩))
                   go_wp2
                   go_ret
                   exact ⟨⟨_, rfl, fun h => nomatch h⟩, (bpk HB).out⟩
                 · have c4b := decide_eq_false c4
                   go_quiet (first | exact Calls.quiet_of ((typed_q _ _).mono fun e w' ⟨h1, n, h2⟩ => ⟨h1, n, h2⟩) | exact Calls.quiet_of ((Lo_q _ _).mono fun e w' ⟨h1, n, h2⟩ => ⟨h1, n, h2⟩) | exact Calls.quiet_of ((Hi_q _ _).mono fun e w' ⟨h1, n, h2⟩ => ⟨h1, n, h2⟩))
                   go_wp2
                   all_goals (go_roundw; (case measure => simp [intOf]; omega); (case rel => exact ⟨k + 1, by omega, by simp, upto_next hF5 (by rw [hy]; exact ct), ⟨pkF BK⟩, bpk HB⟩))
           · obtain rfl : k = l5.length := by omega
             have hlt2 : decide ((l5.length : Int) < (l5.length : Int)) = false := decide_eq_false (by omega)
             have hcf := hcf8 BK
             obtain ⟨_, _, _, _, _, _, _, _, _, _, _, _, _, _, _, _⟩ := hcf
             go_wp2
             go_loopw [139] (fun i wr => ∃ k : Nat, k ≤ l6.length ∧ i = .int .i64 (k : Int) ∧ (∀ j : Nat, j < k → Typed (rd_T85 l6 (j : Int)).f1 ∧ 1 ≤ (rd_T85 l6 (j : Int)).f2 ∧ (rd_T85 l6 (j : Int)).f2 ≤ 256) ∧ Aside0 (wr.heap[gb]? = some (.cells #[.slice A0 l0.length c0, .int .i64 a1, .int .i64 a2, .int .i64 a3, .slice A4 l4.length c4, .slice A5 l5.length c5, .slice A6 l6.length c6, .slice (some ad7) l7.length c7] 28 (0, 0))) ∧ Aside0 (Below w.heap.size w wr)) (fun i _ => l6.length - (intOf i).toNat)
             case atStart => exact ⟨0, Nat.zero_le _, rfl, fun j hj => absurd hj (Nat.not_lt_zero j), pkA BK, bpk HB⟩
             case round =>
              rename World => wl
              clear HB BK
              obtain ⟨k, hk, rfl, hF6, BK, HB⟩ := hrel
              by_cases hlt : k < l6.length
              · obtain ⟨ad6, ee, hx_0, hx_1, hx_2, hx_3⟩ := at_T85 Q6.out (k : Int) (by omega) (by omega)
                replace hx_0 := (HB.out.cell (World.block_lt_of_cell? w _ hx_0)).trans hx_0
                replace hx_1 := (HB.out.cell (World.block_lt_of_cell? w _ hx_1)).trans hx_1
                replace hx_2 := (HB.out.cell (World.block_lt_of_cell? w _ hx_2)).trans hx_2
                replace hx_3 := (HB.out.cell (World.block_lt_of_cell? w _ hx_3)).trans hx_3
                have hcf := hcf8 BK
                obtain ⟨_, _, _, _, _, _, _, _, _, _, _, _, _, _, _, _⟩ := hcf
                have hlt2 : decide ((k : Int) < (l6.length : Int)) = true := decide_eq_true (by omega)
                generalize hy : rd_T85 l6 (k : Int) = y at hx_0 hx_1 hx_2 hx_3
                cases ee
                simp only [Int.toNat_natCast] at hx_0 hx_1 hx_2 hx_3
                go_wp2_with (first | ((with_reducible refine gate_dst (N := 10) rfl ?_); refine boxQ 10 #[.string (⟨#[]⟩ : ByteArray), .int .i64 0, .int .i64 0, .int .i64 0] 82 HB ?_; intro gx wx eg GX BX hb HX; have NX := bn1 BK eg.out; have NX2 := bn2 BK eg.out; replace BK := bbw BK hb.out; clear HB hb eg; have HB := HX; clear HX; have hcf := hcf4 BX; obtain ⟨_, _, _, _, _, _, _, _⟩ := hcf; have hnx := NX.out; have hnx2 := NX2.out))
                by_cases ct : 1 ≤ y.f1 ∧ y.f1 ≤ 3
                rotate_left
                · have ctb := decide_eq_false ct
                  go_quiet (first | exact Calls.quiet_of ((typed_q _ _).mono fun e w' ⟨h1, n, h2⟩ => ⟨h1, n, h2⟩) | exact Calls.quiet_of ((Lo_q _ _).mono fun e w' ⟨h1, n, h2⟩ => ⟨h1, n, h2⟩) | exact Calls.quiet_of ((Hi_q _ _).mono fun e w' ⟨h1, n, h2⟩ => ⟨h1, n, h2⟩))
                  go_wp2
                  go_ret
                  exact ⟨⟨_, rfl, fun h => nomatch h⟩, (bpk HB).out⟩
                · have ctb := decide_eq_true ct
                  by_cases c3 : y.f3 < LoV y.f1
                  · have c3b := decide_eq_true c3
                    go_quiet (first | exact Calls.quiet_of ((typed_q _ _).mono fun e w' ⟨h1, n, h2⟩ => ⟨h1, n, h2⟩) | exact Calls.quiet_of ((Lo_q _ _).mono fun e w' ⟨h1, n, h2⟩ => ⟨h1, n, h2⟩) | exact Calls.quiet_of ((Hi_q _ _).mono fun e w' ⟨h1, n, h2⟩ => ⟨h1, n, h2⟩))
                    go_wp2
                    go_ret
                    exact ⟨⟨_, rfl, fun h => nomatch h⟩, (bpk HB).out⟩
                  · have c3b := decide_eq_false c3
                    by_cases c4 : HiV y.f1 < y.f3
                    · have c4b := decide_eq_true c4
                      go_quiet (first | exact Calls.quiet_of ((typed_q _ _).mono fun e w' ⟨h1, n, h2⟩ => ⟨h1, n, h2⟩) | exact Calls.quiet_of ((Lo_q _ _).mono fun e w' ⟨h1, n, h2⟩ => ⟨h1, n, h2⟩) | exact Calls.quiet_of ((Hi_q _ _).mono fun e w' ⟨h1, n, h2⟩ => ⟨h1, n, h2⟩))
                      go_wp2
                      go_ret
                      exact ⟨⟨_, rfl, fun h => nomatch h⟩, (bpk HB).out⟩
                    · have c4b := decide_eq_false c4
                      by_cases c5 : y.f2 < 1
                      · have c5b := decide_eq_true c5
                        go_quiet (first | exact Calls.quiet_of ((typed_q _ _).mono fun e w' ⟨h1, n, h2⟩ => ⟨h1, n, h2⟩) | exact Calls.quiet_of ((Lo_q _ _).mono fun e w' ⟨h1, n, h2⟩ => ⟨h1, n, h2⟩) | exact Calls.quiet_of ((Hi_q _ _).mono fun e w' ⟨h1, n, h2⟩ => ⟨h1, n, h2⟩))
                        go_wp2
                        go_ret
                        exact ⟨⟨_, rfl, fun h => nomatch h⟩, (bpk HB).out⟩
                      · have c5b := decide_eq_false c5
                        by_cases c6 : 256 < y.f2
                        · have c6b := decide_eq_true c6
                          go_quiet (first | exact Calls.quiet_of ((typed_q _ _).mono fun e w' ⟨h1, n, h2⟩ => ⟨h1, n, h2⟩) | exact Calls.quiet_of ((Lo_q _ _).mono fun e w' ⟨h1, n, h2⟩ => ⟨h1, n, h2⟩) | exact Calls.quiet_of ((Hi_q _ _).mono fun e w' ⟨h1, n, h2⟩ => ⟨h1, n, h2⟩))
                          go_wp2
                          go_ret
                          exact ⟨⟨_, rfl, fun h => nomatch h⟩, (bpk HB).out⟩
                        · have c6b := decide_eq_false c6
                          go_quiet (first | exact Calls.quiet_of ((typed_q _ _).mono fun e w' ⟨h1, n, h2⟩ => ⟨h1, n, h2⟩) | exact Calls.quiet_of ((Lo_q _ _).mono fun e w' ⟨h1, n, h2⟩ => ⟨h1, n, h2⟩) | exact Calls.quiet_of ((Hi_q _ _).mono fun e w' ⟨h1, n, h2⟩ => ⟨h1, n, h2⟩))
                          go_wp2
                          all_goals (go_roundw; (case measure => simp [intOf]; omega); (case rel => exact ⟨k + 1, by omega, by simp, upto_next hF6 (by rw [hy]; exact ⟨ct, by omega, by omega⟩), ⟨pkF BK⟩, bpk HB⟩))
              · obtain rfl : k = l6.length := by omega
                have hlt2 : decide ((l6.length : Int) < (l6.length : Int)) = false := decide_eq_false (by omega)
                have hcf := hcf8 BK
                obtain ⟨_, _, _, _, _, _, _, _, _, _, _, _, _, _, _, _⟩ := hcf
                go_wp2
                go_ret
                exact ⟨⟨_, rfl, fun _ => ⟨n4, n5, n6, tk, hF5, hF6⟩⟩, (bpk HB).out⟩
  · go_wp2_with (first | ((with_reducible refine gate_dst (N := 1) rfl ?_); refine boxQ 1 #[.slice A0 l0.length c0, .int .i64 a1, .int .i64 a2, .int .i64 a3, .slice A4 l4.length c4, .slice A5 l5.length c5, .slice A6 l6.length c6, .slice A7 l7.length c7] 28 HB ?_; clear HB; intro gb w1 _ GW BK _ HB; have hcf := hcf8 BK; obtain ⟨_, _, _, _, _, _, _, _, _, _, _, _, _, _, _, _⟩ := hcf))
    all_goals (go_ret; exact ⟨⟨_, rfl, fun h => nomatch h⟩, (bpk HB).out⟩)
end Go.Proofs.Ytcalcbeonbfkmaa.P
