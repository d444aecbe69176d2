/- What the law's proof needs of H6. -/
import Derived.Test.YtcalcbeonbfkmaaTrRH5
namespace Go.Proofs.Ytcalcbeonbfkmaa.P
open Go.RowKit Go.Proofs.YtcalcbeonbfkmaaW.PrintWords Go.Proofs.YtcalcbeonbfkmaaW.PrintLast Go.Proofs.YtcalcbeonbfkmaaW.PrintMore Go.Proofs.YtcalcbeonbfkmaaO
attribute [local go_sem] max2_int min2_int max_two min_two max_three min_three max_four min_four
set_option linter.unusedVariables false
set_option linter.unusedSimpArgs false
set_option maxHeartbeats 8000000 in
set_option maxRecDepth 100000 in
theorem routcome_calls {w W : World} {E : List (Nat × Array Value × Nat)} {G : Gr} {vs vr va vm : Value} {gb : Nat} {S : St} (h : MR w W E G vs gb vr va vm S) (h5 : G.l5.length ≤ S.regs.length) (h0 : ∃ gr cr, vr = .slice (some ⟨gr, 0, none⟩) S.regs.length cr) (hl : S.regs.length ≤ 100000) :
    Calls Try.prog 31 #[.pointer (some ⟨gb, 0, none⟩)] W fun e W' => RetO e W' G S ∧ Below w.heap.size w W' := by
  obtain ⟨A2, c2, ea2⟩ := h.mem.arrSlice
  obtain ⟨A3, c3, ea3⟩ := h.mem.markForm
  subst ea2
  subst ea3
  have H5 := Aside0.mk (And.intro h5 (And.intro h0 hl))
  clear h5 h0 hl
  have hu52 := Try.underlying52
  have hu66 := Try.underlying66
  have hu36 := Try.underlying36
  have hu28 := Try.underlying28
  have HM := Aside0.mk h
  clear h
  go_enter Try.func31, Try.ntmps31
  go_upto_region 2 with (first | ((with_reducible refine gate_dst (N := 2) rfl ?_); refine boxM 2 #[.int .i64 0, .int .i64 0, .int .i64 0, .int .i64 0, .int .i64 0, .slice none 0 0, .slice none 0 0, .slice none 0 0] 36 HM ?_; intro g2 w1 eg NG2 B2 hb HX; have NE2 := Aside0.mk ((mup HM).out.newE eg.out); have GE2 : Aside0 (w.heap.size ≤ g2) := ⟨by rw [eg.out]; exact ((mup HM).out.mem.hb).size⟩; clear HM hb eg; have HM := HX; clear HX; have c12 := HM.out.cell 12; have c13 := HM.out.cell 13; have c14 := HM.out.cell 14; have c15 := HM.out.cell 15; have c16 := HM.out.cell 16; have c17 := HM.out.cell 17; have c18 := HM.out.cell 18; have c19 := HM.out.cell 19) | ((with_reducible refine gate_dst (N := 3) rfl ?_); refine boxM 3 #[.int .i64 0, .int .i64 0, .int .i64 0, .int .i64 0, .int .i64 0, .slice none 0 0, .slice none 0 0, .slice none 0 0] 36 HM ?_; intro g3 w2 eg NG3 B3 hb HX; have NE3 := Aside0.mk ((mup HM).out.newE eg.out); have N23 := bn1 B2 eg.out; have GE3 : Aside0 (w.heap.size ≤ g3) := ⟨by rw [eg.out]; exact ((mup HM).out.mem.hb).size⟩; replace B2 := bbw B2 hb.out; clear HM hb eg; have HM := HX; clear HX) | ((with_reducible refine gate_store (p := 3) (t := 36) rfl ?_); refine store_box rfl rfl rfl g3 36 _ #[.int .i64 S.en, .int .i64 S.site, .int .i64 S.kind, .int .i64 S.ticks, .int .i64 S.reads, .slice none 0 0, .slice A2 S.arrs.length c2, .slice A3 S.marks.length c3] (pkA B3).out rfl rfl (by kernel_rfl) rfl (by kernel_rfl) ?_; intro w4 hbs hgs; replace HM := Aside0.mk ((mup HM).out.side (pkA B3).out (by decide) (by decide) NG3.out NE3.out GE3.out hgs); replace B2 := boxed_other (pkA B2) hgs N23; clear B3 hgs; have B3 := Aside0.mk hbs; clear hbs))
  go_upto_region 3 with (first | ((with_reducible refine gate_callee (f := 44) rfl ?_); refine goesL_ _ rfl rfl Try.func44 (by kernel_rfl) rfl #[.pointer (some ⟨gb, 0, none⟩)] rfl (by (try simp only [List.map_toArray, List.map_cons, List.map_nil]); first | done | rfl) ?_; refine (rscalars_calls (mup HM).out H5.out.1 H5.out.2.1 H5.out.2.2).mono ?_; rintro e w8 ⟨v, rfl, ho, hm, hb⟩; obtain ⟨row, er⟩ : ∃ r, S.regs.take G.l5.length = r := ⟨_, rfl⟩; rw [er] at ho; have ER := Aside0.mk er; clear er; obtain ⟨A1, c1, ev⟩ := Kd.R_slice ho; subst ev; have HO := Aside0.mk ho; replace B2 := bbw B2 hb; replace B3 := bbw B3 hb; clear HM ho hb; have HM := Aside0.mk hm; clear hm; have hcf := hcf8 B3; obtain ⟨_, _, _, _, _, _, _, _, _, _, _, _, _, _, _, _⟩ := hcf; refine ⟨_, rfl, ?_⟩))
  have hgr := setCell_grown w8 g3 5 (.slice A1 row.length c1)
  have b3' : (w8.setCell ⟨g3, 5, none⟩ (.slice A1 row.length c1)).heap[g3]? = some (.cells #[.int .i64 S.en, .int .i64 S.site, .int .i64 S.kind, .int .i64 S.ticks, .int .i64 S.reads, .slice A1 row.length c1, .slice A2 S.arrs.length c2, .slice A3 S.marks.length c3] 36 (0, 0)) := blk_put B3.out 5 _ rfl
  have b2' := boxed_other B2 hgr N23
  have ho' := R_boxed HO.out B3.out (fun q hq => by rw [List.mem_singleton.1 hq]; decide) hgr
  have hm' := HM.out.side B3.out (by decide) (by decide) NG3.out NE3.out GE3.out hgr
  generalize w8.setCell ⟨g3, 5, none⟩ (.slice A1 row.length c1) = w9 at b3' b2' ho' hm' ⊢
  clear hgr HM HO B3
  have HM := Aside0.mk hm'
  have HO := Aside0.mk ho'
  have B3 := Aside0.mk b3'
  have B2 := Aside0.mk (Aside0.out b2')
  clear hm' ho' b3' b2'
  have hcf := hcf8 B3
  obtain ⟨_, _, _, _, _, _, _, _, _, _, _, _, _, _, _, _⟩ := hcf
  go_wp2_with (first | ((with_reducible refine gate_store (p := 2) (t := 36) rfl ?_); refine Hold.out ?_))
  constructor
  refine store_box rfl rfl rfl g2 36 _ #[.int .i64 S.en, .int .i64 S.site, .int .i64 S.kind, .int .i64 S.ticks, .int .i64 S.reads, .slice A1 row.length c1, .slice A2 S.arrs.length c2, .slice A3 S.marks.length c3] (pkA B2).out rfl rfl (by kernel_rfl) rfl (by kernel_rfl) ?_
  intro w10 hbs hgs
  obtain ⟨okR, okA, h1, h2, h3, h4, h5⟩ := (mup HM).out.mem.ex
  have hO : RetO (.returned (.agg #[.int .i64 S.en, .int .i64 S.site, .int .i64 S.kind, .int .i64 S.ticks, .int .i64 S.reads, .slice A1 row.length c1, .slice A2 S.arrs.length c2, .slice A3 S.marks.length c3])) w10 G S := RetO.boxed ⟨A1, c1, A2, c2, A3, c3, _, _, _, _, _, by rw [ER.out], (by have hz := HO.out; rw [← ER.out] at hz; exact hz), h2, h3⟩ (pkA B2).out hgs
  have hw := ((mup HM).out.side (pkA B2).out (by decide) (by decide) NG2.out NE2.out GE2.out hgs).mem.hb
  go_wp2
  refine bodyPost_ret (results_cell_row rfl _ _ g2 36 _ (0, 0) _ rfl hbs Try.underlying36 rfl (by kernel_rfl)) rfl ?_
  exact ⟨hO, hw⟩
end Go.Proofs.Ytcalcbeonbfkmaa.P
