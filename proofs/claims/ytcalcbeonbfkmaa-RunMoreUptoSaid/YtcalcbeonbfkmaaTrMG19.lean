/- What the law's proof needs of G19. -/
import Derived.Test.YtcalcbeonbfkmaaTrMG18
namespace Go.Proofs.Ytcalcbeonbfkmaa.P
open Go.RowKit Go.Proofs.YtcalcbeonbfkmaaW.PrintWords Go.Proofs.YtcalcbeonbfkmaaW.PrintLast Go.Proofs.YtcalcbeonbfkmaaW.PrintMore Go.Proofs.YtcalcbeonbfkmaaO
attribute [local go_sem] max2_int min2_int max_two min_two max_three min_three max_four min_four
set_option linter.unusedVariables false
set_option linter.unusedSimpArgs false
theorem some_f2 (a : Int) (h : -9223372036854775808 ≤ a ∧ a ≤ 9223372036854775807) : ∃ r, gimballaw08_some.f a = some r ∧ -9223372036854775808 ≤ r ∧ r ≤ 1200 := by
  unfold gimballaw08_some.f
  by_cases c : a > 1000
  · rw [if_pos c]
    refine ⟨_, rfl, ?_⟩
    have h1 : Int.tmod a 200 = a % 200 := Int.tmod_eq_emod_of_nonneg (by omega)
    rw [h1, M.wrap64_in _ (by omega)]
    omega
  · rw [if_neg c]
    exact ⟨_, rfl, h.1, by omega⟩
/-- The marks alone, as an outcome. -/
abbrev mV (A : Option Addr) (n c : Nat) : Value := .agg #[.int .i64 0, .int .i64 0, .int .i64 0, .int .i64 0, .int .i64 0, .slice none 0 0, .slice none 0 0, .slice A n c]
theorem marks_same {S : St} {w : World} {A B : Option Addr} {c d : Nat} (h : S.marks.length ≤ 64) (hr : ∀ i : Int, (rd_L9 S.marks i).length ≤ 100000) (a : Kd.C kL w A S.marks.length S.marks ∧ S.marks.length ≤ c) (b : Kd.C kL w B S.marks.length S.marks ∧ S.marks.length ≤ d) :
    Calls Try.prog 9 #[mV A S.marks.length c, mV B S.marks.length d] w fun e w' => e = .returned (.bool true) ∧ Below w.heap.size w w' :=
  gimbalref06_Same.calls 3000001 0 0 0 0 0 none 0 [] none 0 [] A c S.marks 0 0 0 0 0 none 0 [] none 0 [] B d S.marks true w (C_none _ _) (Nat.le_refl _) (C_none _ _) (Nat.le_refl _) a.1 a.2 (C_none _ _) (Nat.le_refl _) (C_none _ _) (Nat.le_refl _) b.1 b.2
    (same_f _ _ _ _ _ _ _ _ (by simp) (by simp) (by omega) (fun i => by simp [rd_L9]) (fun i => by have := hr i; omega))
theorem mx_nonneg (f : Int) : 0 ≤ mx f 0 := by unfold mx; split <;> omega
theorem begin_up (G : Gr) (f : Int) (h : -9223372036854775808 ≤ f) (k j : Nat) : beginS G (mx (mx f 0 + 100) 0) k j = upF (beginS G (mx f 0) k j) 100 := by
  have h0 := mx_nonneg f
  have e : mx (mx f 0 + 100) 0 = mx f 0 + 100 := by
    generalize mx f 0 = a at h0
    unfold mx
    rw [if_neg (by omega)]
  rw [e]
  rfl
theorem take_pre {l t : List (List Int)} {m : List (List Int)} (h : m = l ++ t) : m.take l.length = l := by rw [h, List.take_left']; rfl
abbrev oW (S : St) (n : Nat) (A1 : Option Addr) (c1 : Nat) (A2 : Option Addr) (c2 : Nat) (A3 : Option Addr) (c3 : Nat) : Value := .agg #[.int .i64 S.en, .int .i64 S.site, .int .i64 S.kind, .int .i64 S.ticks, .int .i64 S.reads, .slice A1 n c1, .slice A2 S.arrs.length c2, .slice A3 S.marks.length c3]
/-- The rows of an outcome, as they were made. -/
structure Rw3 (G : Gr) (S : St) (w : World) (n : Nat) (A1 : Option Addr) (c1 : Nat) (A2 : Option Addr) (c2 : Nat) (A3 : Option Addr) (c3 : Nat) : Prop where
  hn : (S.regs.take G.l5.length).length = n
  ex : ∃ (b1 b2 : Nat) (ok1 ok2 ok3 : Nat → Prop), Kd.R (Kd.int .i64) 2 w b1 ok1 (.slice A1 n c1) (S.regs.take G.l5.length) ∧ Kd.S kL 29 w b2 ok2 (.slice A2 S.arrs.length c2) S.arrs ∧ Kd.R kL 29 w b2 ok3 (.slice A3 S.marks.length c3) S.marks
section
variable {G : Gr} {S : St} {w w' : World} {n : Nat} {A1 A2 A3 : Option Addr} {c1 c2 c3 : Nat}
theorem Rw3.below (h : Rw3 G S w n A1 c1 A2 c2 A3 c3) (hb : Below w.heap.size w w') : Rw3 G S w' n A1 c1 A2 c2 A3 c3 := by
  obtain ⟨b1, b2, ok1, ok2, ok3, r1, r2, r3⟩ := h.ex
  exact ⟨h.hn, b1, b2, ok1, ok2, ok3, Kd.R_below r1 hb, Kd.S_below r2 hb, Kd.R_below r3 hb⟩
theorem Rw3.boxed {g t : Nat} {c : Array Value} (h : Rw3 G S w n A1 c1 A2 c2 A3 c3) (hb : w.heap[g]? = some (.cells c t (0, 0))) (hg : w.grownBy w' (some g)) (t2 : 2 ≠ t := by decide) (t29 : 29 ≠ t := by decide) : Rw3 G S w' n A1 c1 A2 c2 A3 c3 := by
  obtain ⟨b1, b2, ok1, ok2, ok3, r1, r2, r3⟩ := h.ex
  have e1 : ∀ q, q ∈ [2] → q ≠ t := fun q hq => by rw [List.mem_singleton.1 hq]; exact t2
  have e2 : ∀ q, q ∈ [29, 2] → q ≠ t := fun q hq => by
    rcases List.mem_cons.1 hq with rfl | hq
    · exact t29
    · exact e1 q hq
  exact ⟨h.hn, b1, b2, ok1, ok2, ok3, R_boxed r1 hb e1 hg, S_boxed r2 hb e2 hg, R_boxed r3 hb e2 hg⟩
theorem Rw3.rd (h : Rw3 G S w n A1 c1 A2 c2 A3 c3) : Rd3 G S w A1 c1 A2 c2 A3 c3 := by
  obtain ⟨hn, b1, b2, ok1, ok2, ok3, r1, r2, r3⟩ := h
  subst hn
  have h1 := Kd.R_reads' r1
  have h2 := Kd.S_reads' r2
  have h3 := Kd.R_reads' r3
  exact ⟨⟨h1.2.2, h1.2.1⟩, ⟨h2.2.2, h2.2.1⟩, ⟨h3.2.2, h3.2.1⟩⟩
theorem RetO.rw {e : Ending} (h : RetO e w G S) : ∃ n A1 c1 A2 c2 A3 c3, e = .returned (oW S n A1 c1 A2 c2 A3 c3) ∧ Rw3 G S w n A1 c1 A2 c2 A3 c3 := by
  obtain ⟨A1, c1, A2, c2, A3, c3, b1, b2, ok1, ok2, ok3, he, r1, r2, r3⟩ := h
  exact ⟨_, A1, c1, A2, c2, A3, c3, he, ⟨rfl, b1, b2, ok1, ok2, ok3, r1, r2, r3⟩⟩
/-- Two outcomes of one run are the same. -/
theorem Rw3.same {m : Nat} {B1 B2 B3 : Option Addr} {d1 d2 d3 : Nat} (h : Rw3 G S w n A1 c1 A2 c2 A3 c3) (h' : Rw3 G S w m B1 d1 B2 d2 B3 d3) (hz : Sized G S) :
    Calls Try.prog 9 #[oW S n A1 c1 A2 c2 A3 c3, oW S m B1 d1 B2 d2 B3 d3] w fun e w' => e = .returned (.bool true) ∧ Below w.heap.size w w' := by
  have h1 := h.rd
  have h2 := h'.rd
  have e1 := h.hn
  have e2 := h'.hn
  subst e1 e2
  exact h1.same h2 hz
end
def N5T : Bool × List (List Nat × List Nat) := (true, [([], []), ([0], [0]), ([1], [1]), ([], []), ([3], [3]), ([], []), ([4, 5], [4, 5]), ([6], [6]), ([2, 7], [2, 7]), ([8, 8], [8]), ([9], [9]), ([10, 9], [9, 10]), ([11, 9], [9, 11]), ([9], [9]), ([13, 9], [9, 13]), ([9], [9]), ([14, 15, 9], [9, 14, 15]), ([16, 9], [9, 16]), ([12, 17, 9, 9], [9, 12, 17]), ([9, 18], [9, 18]), ([19, 18], [19]), ([20], [20]), ([21, 20], [20, 21]), ([20], [20]), ([23, 20], [20, 23]), ([22, 24, 20], [20, 22, 24]), ([20, 25], [20, 25]), ([26, 20], [26]), ([27], [27]), ([28, 27], [27, 28]), ([27], [27]), ([30, 27], [27, 30]), ([29, 31, 27], [27, 29, 31]), ([27, 32], [27, 32]), ([33, 27], [33]), ([34, 34], [34]), ([34, 35], [34, 35]), ([36, 35, 0, 1, 2, 3, 4, 5, 6, 7, 8, 9, 10, 11, 12, 13, 14, 15, 16, 17, 18, 19, 20, 21, 22, 23, 24, 25, 26, 27, 28, 29, 30, 31, 32, 33, 34, 35, 36], [36])])
def N5B : List Nat := [0, 1, 3, 0, 8, 0, 56, 120, 255, 511, 1023, 2047, 4095, 1023, 9215, 1023, 58367, 123903, 262143, 524287, 1048575, 2097151, 4194303, 2097151, 10485759, 33554431, 67108863, 134217727, 268435455, 536870911, 268435455, 1342177279, 4294967295, 8589934591, 17179869183, 34359738367, 68719476735, 137438953471]
theorem N5tab : rtab .any (opsOf Try.f5 15) = N5T := by kernel_rfl
theorem N5bits : waitsOk N5T.2 N5B = true := by kernel_rfl
set_option maxHeartbeats 8000000 in
set_option maxRecDepth 100000 in
theorem runmore_calls (G : Gr) (As : Option Addr) (sc : List Int) (cs : Nat) (fuel : Int) (Bs : Option Addr) (mo : List Int) (ds : Nat) (w : World) (hG : G.Held w) (hd : ∀ p : Nat, p < G.l0.length → -9223372036854775808 ≤ (rd_T52 G.l0 (p : Int)).f1 ∧ (rd_T52 G.l0 (p : Int)).f1 ≤ 9223372036854775807) (hsc : Kd.C (Kd.int .i64) w As sc.length sc) (hmo : Kd.C (Kd.int .i64) w Bs mo.length mo) (hl : sc.length + mo.length ≤ 1000000000) (hfu : -9223372036854775808 ≤ fuel ∧ fuel ≤ 9223372036854775807) :
    Calls Try.prog 5 #[G.v, .slice As sc.length cs, .int .i64 fuel, .slice Bs mo.length ds] w fun e w' => e = .returned (.bool true) ∧ Below w.heap.size w w' := by
  have hu28 := Try.underlying28
  have hu36 := Try.underlying36
  have HB := Aside0.mk (Below.refl w.heap.size w)
  obtain ⟨f, hs, hf1, hf2⟩ := some_f2 fuel hfu
  have KS := Aside0.mk hs
  have KFU := Aside0.mk (And.intro hf1 hf2)
  have KG := Aside0.mk hG
  have KC := Aside0.mk hsc
  have KM := Aside0.mk hmo
  have KL := Aside0.mk hl
  clear hs hf1 hf2 hG hsc hfu hmo hl
  go_enter Try.func5, Try.ntmps5
  go_upto_region 2 with (first | ((with_reducible refine gate_dst (N := 4) rfl ?_); refine boxQ 4 (gC G) 28 HB ?_; clear HB; intro g4 w1 _ GW4 BK _ HB) | ((with_reducible refine gate_callee (f := 6) rfl ?_); refine goesL_ _ rfl rfl Try.func6 (by kernel_rfl) rfl #[.int .i64 fuel] rfl (by (try simp only [List.map_toArray, List.map_cons, List.map_nil]); first | done | rfl) ?_; refine (gimballaw08_some.calls fuel f _ KS.out).mono ?_; rintro e w2 ⟨rfl, m, rfl⟩; replace BK := Aside0.mk (blk_drewN BK.out m); replace HB := Aside0.mk (pw_below_drewN (bpk HB).out m); have hcf := hcf8 BK; obtain ⟨_, _, _, _, _, _, _, _, _, _, _, _, _, _, _, _⟩ := hcf; refine ⟨_, rfl, ?_⟩))
  go_upto_if 18 with (first | ((with_reducible refine gate_callee (f := 7) rfl ?_); refine goesL_ _ rfl rfl Try.func7 (by kernel_rfl) rfl #[G.v] rfl (by (try simp only [List.map_toArray, List.map_cons, List.map_nil]); first | done | rfl) ?_; refine (fit_calls G _ (KG.out.below (bpk HB).out) hd).mono ?_; rintro e w3 ⟨⟨bf, rfl, hf⟩, hb⟩; have KF := Aside0.mk hf; replace BK := bbw BK hb; replace HB := bst HB hb; clear hf hb; refine ⟨_, rfl, ?_⟩))
  cases bf
  · go_wp2_with (first | ((with_reducible refine gate_callee (f := 8) rfl ?_); refine goesL_ _ rfl rfl Try.func8 (by kernel_rfl) rfl #[] rfl (by (try simp only [List.map_toArray, List.map_cons, List.map_nil]); first | done | rfl) ?_; refine (awake_calls _).mono ?_; rintro e w4 ⟨rfl, hb⟩; replace HB := bst HB hb; clear hb; refine ⟨_, rfl, ?_⟩))
    go_ret
    exact ⟨rfl, (bpk HB).out⟩
  · have KFit := Aside0.mk (KF.out rfl)
    have hf0 := mx_nonneg f
    obtain ⟨fu, hfu⟩ : ∃ x, mx f 0 = x := ⟨_, rfl⟩
    have hfu2 : max f 0 = fu := by rw [← hfu]; unfold mx; split <;> omega
    have hfu3 : (if f < 0 then 0 else f) = fu := hfu
    have hfb : 0 ≤ fu ∧ fu ≤ 1200 := by have := KFU.out; rw [← hfu]; unfold mx; split <;> omega
    have hwf : IntKind.i64.wrap (fu + 100) = fu + 100 := (i64_w _).trans (M.wrap64_in _ (by omega))
    obtain ⟨Na, hNa⟩ := begin_runs sc KFit.out f (by have := KFU.out; omega)
    obtain ⟨Nb, hNb⟩ := begin_runs sc KFit.out (fu + 100) (by omega)
    obtain ⟨Nc, hNc⟩ := begin_runs (sc ++ mo) KFit.out f (by have := KFU.out; omega)
    have hza := runs_sized KFit.out hNa (Nat.le_refl Na)
    have hzb := runs_sized KFit.out hNb (Nat.le_refl Nb)
    have hzc := runs_sized KFit.out hNc (Nat.le_refl Nc)
    have hNc0 := runs_bound KFit.out hNc 1200 (by show mx f 0 ≤ _; rw [hfu]; omega)
    have eb : beginS G (mx (fu + 100) 0) G.l5.length G.l6.length = upF (beginS G (mx f 0) G.l5.length G.l6.length) 100 := by rw [← hfu]; exact begin_up G f KFU.out.1 _ _
    have hup := runs_up (m := 100) KFit.out (by omega) hNa (by rw [← eb]; exact hNb)
    have hmore := runs_more KFit.out mo rfl rfl (by omega) hNa hNc
    rw [← eb] at hup
    clear eb hNc0
    obtain ⟨Sa, hSa⟩ : ∃ S, stepN G sc (beginS G (mx f 0) G.l5.length G.l6.length) Na = S := ⟨_, rfl⟩
    obtain ⟨Sb, hSb⟩ : ∃ S, stepN G sc (beginS G (mx (fu + 100) 0) G.l5.length G.l6.length) Nb = S := ⟨_, rfl⟩
    obtain ⟨Sc, hSc⟩ : ∃ S, stepN G (sc ++ mo) (beginS G (mx f 0) G.l5.length G.l6.length) Nc = S := ⟨_, rfl⟩
    have eMa := hNa.stop
    rw [hSa] at eMa hza hup hmore
    rw [hSb] at hzb hup
    rw [hSc] at hzc hmore
    have KSa := Aside0.mk hSa
    have KSb := Aside0.mk hSb
    have KSc := Aside0.mk hSc
    have KNa := Aside0.mk hNa
    have KNb := Aside0.mk hNb
    have KNc := Aside0.mk hNc
    have KZa := Aside0.mk hza
    have KZb := Aside0.mk hzb
    have KZc := Aside0.mk hzc
    have KUP : Aside0 ((Sa.en ≠ 4 → Sb = upF Sa 100) ∧ (∃ t, Sb.marks = Sa.marks ++ t) ∧ Sa.reads ≤ Sb.reads) := ⟨⟨fun h => (hup.1 h).2, hup.2⟩⟩
    have KMO : Aside0 ((Sa.en ≠ 2 → Sc = Sa) ∧ (∃ t, Sc.marks = Sa.marks ++ t) ∧ Sa.ticks ≤ Sc.ticks ∧ (Sa.en = 2 → Sa.reads = (sc.length : Int))) := ⟨⟨fun h => (hmore.1 h).2, hmore.2⟩⟩
    clear hSa hSb hSc hNa hNb hNc hza hzb hzc hup hmore eMa
    have KFB := Aside0.mk hfb
    have HFU := Aside0.mk hfu
    clear hfb hf0
    go_upto_region 7 with (first | ((with_reducible refine gate_builtin (b := .append) (xs := #[.tmp 20, .tmp 21]) rfl ?_); at_builtin; go_loud (refine Kd.R_append_rows (Kd.int .i64) (w0 := w) w.heap.size rfl (.tmp 20) (.tmp 21) 29 2 (.int .i64 0) 8 rfl Try.underlying29 info2 rfl (by decide) (by omega) (.slice none 0 0) ([] : List Int) sc As sc.length cs (fun k => w.heap.size ≤ k) (fun _ => False) rfl rfl (Kd.R_nil _ _ _ _ _) (Kd.C_below KC.out (bpk HB).out) (fun _ _ h => h) (fun _ h => h.elim) (fun k hk => Nat.le_trans (bpk HB).out.size hk) (bpk HB).out (bpk HB).out.size (by have := KL.out; simp; omega) ?_); intro v22 w5 ho hb hgr hat; rw [List.nil_append] at ho; replace BK := Aside0.mk ((hgr.block g4 (blk_lt BK.out) (by simp [Value.ownBlock])).trans BK.out); obtain ⟨Aa, ca, ev⟩ := Kd.R_slice ho; subst ev; clear HB; have HO := Aside0.mk ho; have HB := Aside0.mk hb; clear ho hb hgr hat) | ((with_reducible refine gate_builtin (b := .append) (xs := #[.tmp 23, .tmp 24]) rfl ?_); at_builtin; go_loud (refine Kd.R_append_rows (Kd.int .i64) (w0 := w) w.heap.size rfl (.tmp 23) (.tmp 24) 29 2 (.int .i64 0) 8 rfl Try.underlying29 info2 rfl (by decide) (by omega) (.slice Aa sc.length ca) sc mo Bs mo.length ds (fun k => w.heap.size ≤ k) (fun _ => False) rfl rfl HO.out (Kd.C_below KM.out (bpk HB).out) (fun _ _ h => h) (fun _ h => h.elim) (fun k hk => Nat.le_trans (bpk HB).out.size hk) (bpk HB).out (bpk HB).out.size (by have := KL.out; simp; omega) ?_); intro v25 w6 ho hb hgr hat; replace BK := Aside0.mk ((hgr.block g4 (blk_lt BK.out) (Kd.R_ne HO.out BK.out (by decide))).trans BK.out); obtain ⟨nal, hnal⟩ : ∃ l, sc ++ mo = l := ⟨_, rfl⟩; rw [hnal] at ho; have KAL := Aside0.mk hnal; clear hnal; obtain ⟨Al, cl, ev⟩ := Kd.R_slice ho; subst ev; clear HB HO; have HO := Aside0.mk ho; have HB := Aside0.mk hb; clear ho hb hgr hat; have hcf := hcf8 BK; obtain ⟨_, _, _, _, _, _, _, _, _, _, _, _, _, _, _, _⟩ := hcf))
    go_upto_region 8 with (first | ((with_reducible refine gate_callee (f := 10) rfl ?_); go_loud (refine goesL_ _ rfl rfl Try.func10 (by kernel_rfl) rfl #[G.v, .slice As sc.length cs, .int .i64 f] rfl (by (try simp only [List.map_toArray, List.map_cons, List.map_nil]); first | done | rfl) ?_); go_loud (refine (run_calls G _ (KG.out.below (bpk HB).out) As sc cs f (Kd.C_below KC.out (bpk HB).out) (by have := KL.out; have := KAL.out; first | omega | (rw [← this, List.length_append]; omega)) KFit.out KNa.out).mono ?_); rintro e wr10 ⟨hO, hb⟩; rw [KSa.out] at hO; obtain ⟨na, A1a, c1a, A2a, c2a, A3a, c3a, rfl, hr⟩ := hO.rw; have Ra := Aside0.mk hr; replace BK := bbw BK hb; replace HO := Aside0.mk (Kd.R_below HO.out hb); replace HB := bst HB hb; clear hO hr hb; refine ⟨_, rfl, ?_⟩) | ((with_reducible refine gate_dst (N := 10) rfl ?_); refine boxQ 10 #[.int .i64 0, .int .i64 0, .int .i64 0, .int .i64 0, .int .i64 0, .slice none 0 0, .slice none 0 0, .slice none 0 0] 36 HB ?_; intro g10 wb10 eg GW10 B10 hb HX; have NK10 := bn1 BK eg.out; replace BK := bbw BK hb.out; replace HO := Aside0.mk (Kd.R_below HO.out hb.out); replace Ra := Aside0.mk (Ra.out.below hb.out); clear HB hb eg; have HB := HX; clear HX) | ((with_reducible refine gate_store (p := 10) (t := 36) rfl ?_); refine store_box rfl rfl rfl g10 36 _ #[.int .i64 Sa.en, .int .i64 Sa.site, .int .i64 Sa.kind, .int .i64 Sa.ticks, .int .i64 Sa.reads, .slice A1a na c1a, .slice A2a Sa.arrs.length c2a, .slice A3a Sa.marks.length c3a] (pkA B10).out rfl rfl (by kernel_rfl) rfl (by kernel_rfl) ?_; intro ws10 hbs hgs; replace BK := boxed_other (pkA BK) hgs NK10; have hw := Below_boxed (bpk HB).out (Nat.le_refl _) GW10.out hgs; replace HO := Aside0.mk (R_boxed HO.out (pkA B10).out (fun q hq => by rw [List.mem_singleton.1 hq]; decide) hgs); replace Ra := Aside0.mk (Ra.out.boxed (pkA B10).out hgs); clear B10 HB hgs; have B10 := Aside0.mk hbs; have HB := Aside0.mk hw; clear hbs hw; have hcf := hcf8 BK; obtain ⟨_, _, _, _, _, _, _, _, _, _, _, _, _, _, _, _⟩ := hcf))
    go_upto_region 9 with (first | ((with_reducible refine gate_callee (f := 10) rfl ?_); go_loud (refine goesL_ _ rfl rfl Try.func10 (by kernel_rfl) rfl #[G.v, .slice As sc.length cs, .int .i64 (fu + 100)] rfl (by (try simp only [List.map_toArray, List.map_cons, List.map_nil]); first | done | rfl) ?_); go_loud (refine (run_calls G _ (KG.out.below (bpk HB).out) As sc cs (fu + 100) (Kd.C_below KC.out (bpk HB).out) (by have := KL.out; have := KAL.out; first | omega | (rw [← this, List.length_append]; omega)) KFit.out KNb.out).mono ?_); rintro e wr11 ⟨hO, hb⟩; rw [KSb.out] at hO; obtain ⟨nb, A1b, c1b, A2b, c2b, A3b, c3b, rfl, hr⟩ := hO.rw; have Rb := Aside0.mk hr; replace BK := bbw BK hb; replace HO := Aside0.mk (Kd.R_below HO.out hb); replace B10 := bbw B10 hb; replace Ra := Aside0.mk (Ra.out.below hb); replace HB := bst HB hb; clear hO hr hb; refine ⟨_, rfl, ?_⟩) | ((with_reducible refine gate_dst (N := 11) rfl ?_); refine boxQ 11 #[.int .i64 0, .int .i64 0, .int .i64 0, .int .i64 0, .int .i64 0, .slice none 0 0, .slice none 0 0, .slice none 0 0] 36 HB ?_; intro g11 wb11 eg GW11 B11 hb HX; have N1011 := bn1 B10 eg.out; have NK11 := bn1 BK eg.out; replace BK := bbw BK hb.out; replace HO := Aside0.mk (Kd.R_below HO.out hb.out); replace B10 := bbw B10 hb.out; replace Ra := Aside0.mk (Ra.out.below hb.out); replace Rb := Aside0.mk (Rb.out.below hb.out); clear HB hb eg; have HB := HX; clear HX) | ((with_reducible refine gate_store (p := 11) (t := 36) rfl ?_); refine store_box rfl rfl rfl g11 36 _ #[.int .i64 Sb.en, .int .i64 Sb.site, .int .i64 Sb.kind, .int .i64 Sb.ticks, .int .i64 Sb.reads, .slice A1b nb c1b, .slice A2b Sb.arrs.length c2b, .slice A3b Sb.marks.length c3b] (pkA B11).out rfl rfl (by kernel_rfl) rfl (by kernel_rfl) ?_; intro ws11 hbs hgs; replace B10 := boxed_other (pkA B10) hgs N1011; replace BK := boxed_other (pkA BK) hgs NK11; have hw := Below_boxed (bpk HB).out (Nat.le_refl _) GW11.out hgs; replace HO := Aside0.mk (R_boxed HO.out (pkA B11).out (fun q hq => by rw [List.mem_singleton.1 hq]; decide) hgs); replace Ra := Aside0.mk (Ra.out.boxed (pkA B11).out hgs); replace Rb := Aside0.mk (Rb.out.boxed (pkA B11).out hgs); clear B11 HB hgs; have B11 := Aside0.mk hbs; have HB := Aside0.mk hw; clear hbs hw; have hcf := hcf8 BK; obtain ⟨_, _, _, _, _, _, _, _, _, _, _, _, _, _, _, _⟩ := hcf))
    have KNc2 : Aside0 (Runs G nal (beginS G (mx f 0) G.l5.length G.l6.length) Nc) := ⟨by rw [← KAL.out]; exact KNc.out⟩
    have KSc2 : Aside0 (stepN G nal (beginS G (mx f 0) G.l5.length G.l6.length) Nc = Sc) := ⟨by rw [← KAL.out]; exact KSc.out⟩
    go_upto_region 10 with (first | ((with_reducible refine gate_callee (f := 10) rfl ?_); go_loud (refine goesL_ _ rfl rfl Try.func10 (by kernel_rfl) rfl #[G.v, .slice Al nal.length cl, .int .i64 f] rfl (by (try simp only [List.map_toArray, List.map_cons, List.map_nil]); first | done | rfl) ?_); go_loud (refine (run_calls G _ (KG.out.below (bpk HB).out) Al nal cl f (Kd.R_reads' HO.out).2.2 (by have := KL.out; have := KAL.out; first | omega | (rw [← this, List.length_append]; omega)) KFit.out KNc2.out).mono ?_); rintro e wr12 ⟨hO, hb⟩; rw [KSc2.out] at hO; obtain ⟨nc, A1c, c1c, A2c, c2c, A3c, c3c, rfl, hr⟩ := hO.rw; have Rc := Aside0.mk hr; replace BK := bbw BK hb; replace B10 := bbw B10 hb; replace B11 := bbw B11 hb; replace Ra := Aside0.mk (Ra.out.below hb); replace Rb := Aside0.mk (Rb.out.below hb); replace HO := Aside0.mk (Kd.R_below HO.out hb); replace HB := bst HB hb; clear hO hr hb; refine ⟨_, rfl, ?_⟩) | ((with_reducible refine gate_dst (N := 12) rfl ?_); refine boxQ 12 #[.int .i64 0, .int .i64 0, .int .i64 0, .int .i64 0, .int .i64 0, .slice none 0 0, .slice none 0 0, .slice none 0 0] 36 HB ?_; intro g12 wb12 eg GW12 B12 hb HX; have N1012 := bn1 B10 eg.out; have N1112 := bn1 B11 eg.out; have NK12 := bn1 BK eg.out; replace BK := bbw BK hb.out; replace B10 := bbw B10 hb.out; replace B11 := bbw B11 hb.out; replace Ra := Aside0.mk (Ra.out.below hb.out); replace Rb := Aside0.mk (Rb.out.below hb.out); replace HO := Aside0.mk (Kd.R_below HO.out hb.out); replace Rc := Aside0.mk (Rc.out.below hb.out); clear HB hb eg; have HB := HX; clear HX) | ((with_reducible refine gate_store (p := 12) (t := 36) rfl ?_); refine store_box rfl rfl rfl g12 36 _ #[.int .i64 Sc.en, .int .i64 Sc.site, .int .i64 Sc.kind, .int .i64 Sc.ticks, .int .i64 Sc.reads, .slice A1c nc c1c, .slice A2c Sc.arrs.length c2c, .slice A3c Sc.marks.length c3c] (pkA B12).out rfl rfl (by kernel_rfl) rfl (by kernel_rfl) ?_; intro ws12 hbs hgs; replace B10 := boxed_other (pkA B10) hgs N1012; replace B11 := boxed_other (pkA B11) hgs N1112; replace BK := boxed_other (pkA BK) hgs NK12; have hw := Below_boxed (bpk HB).out (Nat.le_refl _) GW12.out hgs; replace Ra := Aside0.mk (Ra.out.boxed (pkA B12).out hgs); replace Rb := Aside0.mk (Rb.out.boxed (pkA B12).out hgs); replace HO := Aside0.mk (R_boxed HO.out (pkA B12).out (fun q hq => by rw [List.mem_singleton.1 hq]; decide) hgs); replace Rc := Aside0.mk (Rc.out.boxed (pkA B12).out hgs); clear B12 HB hgs; have B12 := Aside0.mk hbs; have HB := Aside0.mk hw; clear hbs hw; have hcf := hcf8 BK; obtain ⟨_, _, _, _, _, _, _, _, _, _, _, _, _, _, _, _⟩ := hcf))
    have KAB : Aside0 (Sa.en ≠ 4 → ∀ W : World, Rw3 G Sa W na A1a c1a A2a c2a A3a c3a → Rw3 G Sb W nb A1b c1b A2b c2b A3b c3b → Calls Try.prog 9 #[oW Sa na A1a c1a A2a c2a A3a c3a, oW Sb nb A1b c1b A2b c2b A3b c3b] W fun e w' => e = .returned (.bool true) ∧ Below W.heap.size W w') := by
      refine ⟨fun hn W h1 h2 => ?_⟩
      have eB := KUP.out.1 hn
      rw [eB] at h2 ⊢
      exact h1.same (S := Sa) ⟨h2.hn, h2.ex⟩ KZa.out
    have KAC : Aside0 (Sa.en ≠ 2 → ∀ W : World, Rw3 G Sa W na A1a c1a A2a c2a A3a c3a → Rw3 G Sc W nc A1c c1c A2c c2c A3c c3c → Calls Try.prog 9 #[oW Sa na A1a c1a A2a c2a A3a c3a, oW Sc nc A1c c1c A2c c2c A3c c3c] W fun e w' => e = .returned (.bool true) ∧ Below W.heap.size W w') := by
      refine ⟨fun hn W h1 h2 => ?_⟩
      have eC := KMO.out.1 hn
      rw [eC] at h2 ⊢
      exact h1.same h2 KZa.out
    (try simp only [Act.put, List.setIfInBounds_toArray, List.set_cons_zero, List.set_cons_succ])
    clear BK HO
    go_cut [59] (fun v59 wc => v59 = .bool false ∧ Aside0 (wc.heap[g10]? = some (.cells #[.int .i64 Sa.en, .int .i64 Sa.site, .int .i64 Sa.kind, .int .i64 Sa.ticks, .int .i64 Sa.reads, .slice A1a na c1a, .slice A2a Sa.arrs.length c2a, .slice A3a Sa.marks.length c3a] 36 (0, 0))) ∧ Aside0 (wc.heap[g11]? = some (.cells #[.int .i64 Sb.en, .int .i64 Sb.site, .int .i64 Sb.kind, .int .i64 Sb.ticks, .int .i64 Sb.reads, .slice A1b nb c1b, .slice A2b Sb.arrs.length c2b, .slice A3b Sb.marks.length c3b] 36 (0, 0))) ∧ Aside0 (wc.heap[g12]? = some (.cells #[.int .i64 Sc.en, .int .i64 Sc.site, .int .i64 Sc.kind, .int .i64 Sc.ticks, .int .i64 Sc.reads, .slice A1c nc c1c, .slice A2c Sc.arrs.length c2c, .slice A3c Sc.marks.length c3c] 36 (0, 0))) ∧ Aside0 (Rw3 G Sa wc na A1a c1a A2a c2a A3a c3a) ∧ Aside0 (Rw3 G Sb wc nb A1b c1b A2b c2b A3b c3b) ∧ Aside0 (Rw3 G Sc wc nc A1c c1c A2c c2c A3c c3c) ∧ Aside0 (Below w.heap.size w wc))
    case first =>
     obtain ⟨b1, hb1⟩ : ∃ b, (Sa.en != 4) = b := ⟨_, rfl⟩
     obtain ⟨b2, hb2⟩ : ∃ b, (Sa.en != 2) = b := ⟨_, rfl⟩
     have hcf := hcf8 B10; obtain ⟨_, _, _, _, _, _, _, _, _, _, _, _, _, _, _, _⟩ := hcf; have hcf2 := hcf8 B11; obtain ⟨_, _, _, _, _, _, _, _, _, _, _, _, _, _, _, _⟩ := hcf2; have hcf3 := hcf8 B12; obtain ⟨_, _, _, _, _, _, _, _, _, _, _, _, _, _, _, _⟩ := hcf3
     cases b1
     · cases b2
       · exact absurd ((bne_eq_false_iff_eq.mp hb1).symm.trans (bne_eq_false_iff_eq.mp hb2)) (by decide)
       · go_wp2_with (first | ((with_reducible refine gate_callee (f := 9) rfl ?_); refine gate_guard (by rfl) ?_; refine goesL_ _ rfl rfl Try.func9 (by kernel_rfl) rfl #[oW Sa na A1a c1a A2a c2a A3a c3a, oW Sc nc A1c c1c A2c c2c A3c c3c] rfl (by (try simp only [List.map_toArray, List.map_cons, List.map_nil]); first | done | rfl) ?_; refine (KAC.out (bne_iff_ne.mp hb2) _ Ra.out Rc.out).mono ?_; rintro e wac ⟨rfl, hb⟩; replace B10 := bbw B10 hb; replace B11 := bbw B11 hb; replace B12 := bbw B12 hb; replace Ra := Aside0.mk (Ra.out.below hb); replace Rb := Aside0.mk (Rb.out.below hb); replace Rc := Aside0.mk (Rc.out.below hb); replace HB := bst HB hb; clear hb; have hcf := hcf8 B10; obtain ⟨_, _, _, _, _, _, _, _, _, _, _, _, _, _, _, _⟩ := hcf; have hcf2 := hcf8 B11; obtain ⟨_, _, _, _, _, _, _, _, _, _, _, _, _, _, _, _⟩ := hcf2; have hcf3 := hcf8 B12; obtain ⟨_, _, _, _, _, _, _, _, _, _, _, _, _, _, _, _⟩ := hcf3; refine ⟨_, rfl, ?_⟩))
         go_meet
         case rel => exact ⟨rfl, B10, B11, B12, Ra, Rb, Rc, HB⟩
     · cases b2
       · go_wp2_with (first | ((with_reducible refine gate_callee (f := 9) rfl ?_); refine gate_guard (by rfl) ?_; refine goesL_ _ rfl rfl Try.func9 (by kernel_rfl) rfl #[oW Sa na A1a c1a A2a c2a A3a c3a, oW Sb nb A1b c1b A2b c2b A3b c3b] rfl (by (try simp only [List.map_toArray, List.map_cons, List.map_nil]); first | done | rfl) ?_; refine (KAB.out (bne_iff_ne.mp hb1) _ Ra.out Rb.out).mono ?_; rintro e wab ⟨rfl, hb⟩; replace B10 := bbw B10 hb; replace B11 := bbw B11 hb; replace B12 := bbw B12 hb; replace Ra := Aside0.mk (Ra.out.below hb); replace Rb := Aside0.mk (Rb.out.below hb); replace Rc := Aside0.mk (Rc.out.below hb); replace HB := bst HB hb; clear hb; have hcf := hcf8 B10; obtain ⟨_, _, _, _, _, _, _, _, _, _, _, _, _, _, _, _⟩ := hcf; have hcf2 := hcf8 B11; obtain ⟨_, _, _, _, _, _, _, _, _, _, _, _, _, _, _, _⟩ := hcf2; have hcf3 := hcf8 B12; obtain ⟨_, _, _, _, _, _, _, _, _, _, _, _, _, _, _, _⟩ := hcf3; refine ⟨_, rfl, ?_⟩))
         go_meet
         case rel => exact ⟨rfl, B10, B11, B12, Ra, Rb, Rc, HB⟩
       · go_wp2_with (first | ((with_reducible refine gate_callee (f := 9) rfl ?_); refine gate_guard (by rfl) ?_; refine goesL_ _ rfl rfl Try.func9 (by kernel_rfl) rfl #[oW Sa na A1a c1a A2a c2a A3a c3a, oW Sb nb A1b c1b A2b c2b A3b c3b] rfl (by (try simp only [List.map_toArray, List.map_cons, List.map_nil]); first | done | rfl) ?_; refine (KAB.out (bne_iff_ne.mp hb1) _ Ra.out Rb.out).mono ?_; rintro e wab ⟨rfl, hb⟩; replace B10 := bbw B10 hb; replace B11 := bbw B11 hb; replace B12 := bbw B12 hb; replace Ra := Aside0.mk (Ra.out.below hb); replace Rb := Aside0.mk (Rb.out.below hb); replace Rc := Aside0.mk (Rc.out.below hb); replace HB := bst HB hb; clear hb; have hcf := hcf8 B10; obtain ⟨_, _, _, _, _, _, _, _, _, _, _, _, _, _, _, _⟩ := hcf; have hcf2 := hcf8 B11; obtain ⟨_, _, _, _, _, _, _, _, _, _, _, _, _, _, _, _⟩ := hcf2; have hcf3 := hcf8 B12; obtain ⟨_, _, _, _, _, _, _, _, _, _, _, _, _, _, _, _⟩ := hcf3; refine ⟨_, rfl, ?_⟩) | ((with_reducible refine gate_callee (f := 9) rfl ?_); refine gate_guard (by rfl) ?_; refine goesL_ _ rfl rfl Try.func9 (by kernel_rfl) rfl #[oW Sa na A1a c1a A2a c2a A3a c3a, oW Sc nc A1c c1c A2c c2c A3c c3c] rfl (by (try simp only [List.map_toArray, List.map_cons, List.map_nil]); first | done | rfl) ?_; refine (KAC.out (bne_iff_ne.mp hb2) _ Ra.out Rc.out).mono ?_; rintro e wac ⟨rfl, hb⟩; replace B10 := bbw B10 hb; replace B11 := bbw B11 hb; replace B12 := bbw B12 hb; replace Ra := Aside0.mk (Ra.out.below hb); replace Rb := Aside0.mk (Rb.out.below hb); replace Rc := Aside0.mk (Rc.out.below hb); replace HB := bst HB hb; clear hb; have hcf := hcf8 B10; obtain ⟨_, _, _, _, _, _, _, _, _, _, _, _, _, _, _, _⟩ := hcf; have hcf2 := hcf8 B11; obtain ⟨_, _, _, _, _, _, _, _, _, _, _, _, _, _, _, _⟩ := hcf2; have hcf3 := hcf8 B12; obtain ⟨_, _, _, _, _, _, _, _, _, _, _, _, _, _, _, _⟩ := hcf3; refine ⟨_, rfl, ?_⟩))
         go_meet
         case rel => exact ⟨rfl, B10, B11, B12, Ra, Rb, Rc, HB⟩
    case rest =>
     clear B10 B11 B12 Ra Rb Rc HB
     obtain ⟨rfl, B10, B11, B12, Ra, Rb, Rc, HB⟩ := hcut
     rename World => w13
     go_upto_region 12 with (fail)
     have hcf := hcf8 B10; obtain ⟨_, _, _, _, _, _, _, _, _, _, _, _, _, _, _, _⟩ := hcf; have hcf2 := hcf8 B11; obtain ⟨_, _, _, _, _, _, _, _, _, _, _, _, _, _, _, _⟩ := hcf2; have hcf3 := hcf8 B12; obtain ⟨_, _, _, _, _, _, _, _, _, _, _, _, _, _, _, _⟩ := hcf3
     obtain ⟨tb, htb⟩ := KUP.out.2.1
     obtain ⟨tc, htc⟩ := KMO.out.2.1
     have lb : Sa.marks.length ≤ Sb.marks.length := by rw [htb, List.length_append]; omega
     have lc : Sa.marks.length ≤ Sc.marks.length := by rw [htc, List.length_append]; omega
     have KTB := Aside0.mk htb
     have KTC := Aside0.mk htc
     clear htb htc
     have mb : ((Sb.marks.length : Int) < (Sa.marks.length : Int)) = False := eq_false (by omega)
     have mc : ((Sc.marks.length : Int) < (Sa.marks.length : Int)) = False := eq_false (by omega)
     have KLB := Aside0.mk lb
     have KLC := Aside0.mk lc
     clear lb lc
     (try simp only [Act.put, List.setIfInBounds_toArray, List.set_cons_zero, List.set_cons_succ])
     go_cut [87] (fun v87 wd => v87 = .bool false ∧ wd = w13)
     case first =>
      by_cases e2 : Sa.en = 2
      · have e2b : (Sa.en == 2) = true := beq_iff_eq.mpr e2
        have rb : (Sa.reads != (sc.length : Int)) = false := bne_eq_false_iff_eq.mpr (KMO.out.2.2.2 e2)
        clear e2
        go_wp2
        go_meet
        case rel => exact ⟨rfl, rfl⟩
      · have e2b : (Sa.en == 2) = false := beq_eq_false_iff_ne.mpr e2
        clear e2
        go_wp2
        go_meet
        case rel => exact ⟨rfl, rfl⟩
     case rest =>
      obtain ⟨rfl, rfl⟩ := hcut
      rename World => w13
      go_upto_region 15 with (fail)
      have hS : ∀ w' : World, w'.heap[g10]? = some (.cells #[.int .i64 Sa.en, .int .i64 Sa.site, .int .i64 Sa.kind, .int .i64 Sa.ticks, .int .i64 Sa.reads, .slice A1a na c1a, .slice A2a Sa.arrs.length c2a, .slice A3a Sa.marks.length c3a] 36 (0, 0)) → w'.heap[g11]? = some (.cells #[.int .i64 Sb.en, .int .i64 Sb.site, .int .i64 Sb.kind, .int .i64 Sb.ticks, .int .i64 Sb.reads, .slice A1b nb c1b, .slice A2b Sb.arrs.length c2b, .slice A3b Sb.marks.length c3b] 36 (0, 0)) → w'.heap[g12]? = some (.cells #[.int .i64 Sc.en, .int .i64 Sc.site, .int .i64 Sc.kind, .int .i64 Sc.ticks, .int .i64 Sc.reads, .slice A1c nc c1c, .slice A2c Sc.arrs.length c2c, .slice A3c Sc.marks.length c3c] 36 (0, 0)) → (w'.cell? ⟨g10, 7, none⟩ = some (.slice A3a Sa.marks.length c3a) ∧ w'.cell? ⟨g11, 7, none⟩ = some (.slice A3b Sb.marks.length c3b) ∧ w'.cell? ⟨g12, 7, none⟩ = some (.slice A3c Sc.marks.length c3c) ∧ w'.cell? ⟨g10, 4, none⟩ = some (.int .i64 Sa.reads) ∧ w'.cell? ⟨g11, 4, none⟩ = some (.int .i64 Sb.reads) ∧ w'.cell? ⟨g10, 3, none⟩ = some (.int .i64 Sa.ticks) ∧ w'.cell? ⟨g12, 3, none⟩ = some (.int .i64 Sc.ticks)) := fun w' h1 h2 h3 => ⟨hcz ⟨h1⟩ 7, hcz ⟨h2⟩ 7, hcz ⟨h3⟩ 7, hcz ⟨h1⟩ 4, hcz ⟨h2⟩ 4, hcz ⟨h1⟩ 3, hcz ⟨h3⟩ 3⟩
      have qb1 : ((Sa.marks.length : Int) ≤ (c3b : Int)) = True := eq_true (by have := Rb.out.rd.a3.2; have := KLB.out; omega)
      have qb2 : (Sa.marks.length ≤ c3b) = True := eq_true (by have := Rb.out.rd.a3.2; have := KLB.out; omega)
      have qc1 : ((Sa.marks.length : Int) ≤ (c3c : Int)) = True := eq_true (by have := Rc.out.rd.a3.2; have := KLC.out; omega)
      have qc2 : (Sa.marks.length ≤ c3c) = True := eq_true (by have := Rc.out.rd.a3.2; have := KLC.out; omega)
      have rr : (Sa.reads ≤ Sb.reads) = True := eq_true KUP.out.2.2
      have tt : (Sa.ticks ≤ Sc.ticks) = True := eq_true KMO.out.2.2.1
      refine start_ (n := 38) (S := fun w' => w'.cell? ⟨g10, 7, none⟩ = some (.slice A3a Sa.marks.length c3a) ∧ w'.cell? ⟨g11, 7, none⟩ = some (.slice A3b Sb.marks.length c3b) ∧ w'.cell? ⟨g12, 7, none⟩ = some (.slice A3c Sc.marks.length c3c) ∧ w'.cell? ⟨g10, 4, none⟩ = some (.int .i64 Sa.reads) ∧ w'.cell? ⟨g11, 4, none⟩ = some (.int .i64 Sb.reads) ∧ w'.cell? ⟨g10, 3, none⟩ = some (.int .i64 Sa.ticks) ∧ w'.cell? ⟨g12, 3, none⟩ = some (.int .i64 Sc.ticks)) (ds := []) #[false, false, false, false, false, false, false, false, false, false, false, false, false, false, false, false, false, false, false, false, false, false, false, false, false, false, false, false, false, false, false, false, false, false, false, false, false, false] (by kernel_rfl) rfl rfl (hS _ (blk_drew B10.out) (blk_drew B11.out) (blk_drew B12.out)) (fun hHeld => ?_)
      refine with_tabW N5tab N5bits (fun HT_ HW_ => ?_)
      replace B10 := Aside0.mk (blk_drew B10.out)
      replace B11 := Aside0.mk (blk_drew B11.out)
      replace B12 := Aside0.mk (blk_drew B12.out)
      replace Ra := Aside0.mk (Ra.out.below (below_drew1 (Below.refl _ _)))
      replace Rb := Aside0.mk (Rb.out.below (below_drew1 (Below.refl _ _)))
      replace Rc := Aside0.mk (Rc.out.below (below_drew1 (Below.refl _ _)))
      replace HB := Aside0.mk (below_drew1 HB.out)
      generalize World.drew _ = wa at B10 B11 B12 Ra Rb Rc HB hHeld ⊢
      refine pureQ 0 91 HT_.out ?_
      refine takeQ 1 92 HT_.out HW_.out hHeld ?_
      refine pureQ 2 93 HT_.out ?_
      refine pureQ 3 94 HT_.out ?_
      refine takeQ 4 95 HT_.out HW_.out hHeld ?_
      refine pureQ 5 96 HT_.out ?_
      refine pureQ 6 97 HT_.out ?_
      refine pureQ 7 98 HT_.out ?_
      refine oneQ 8 99 HT_.out (fun K hK => ?_)
      refine goesQ Try.func9 #[mV A3a Sa.marks.length c3a, mV A3b Sa.marks.length c3b] ?_
      refine (marks_same KZa.out.marks KZa.out.mrow Ra.out.rd.a3 ⟨by have h := Kd.C_take Rb.out.rd.a3.1 (m := Sa.marks.length) KLB.out; rw [take_pre KTB.out] at h; exact h, by have := Rb.out.rd.a3.2; have := KLB.out; omega⟩).mono ?_
      rintro e wm1 ⟨rfl, hb⟩
      replace B10 := bbw B10 hb; replace B11 := bbw B11 hb; replace B12 := bbw B12 hb; replace Ra := Aside0.mk (Ra.out.below hb); replace Rb := Aside0.mk (Rb.out.below hb); replace Rc := Aside0.mk (Rc.out.below hb); replace HB := bst HB hb; clear hb
      refine ⟨_, rfl, ?_⟩
      refine hK.out _ _ (hS _ B10.out B11.out B12.out) (fun hHeld => ?_)
      clear hK K
      refine normQ (N := 99) ?_
      refine pureQ 9 100 HT_.out ?_
      refine pureQ 10 101 HT_.out ?_
      refine takeQ 11 102 HT_.out HW_.out hHeld ?_
      refine pureQ 12 103 HT_.out ?_
      refine pureQ 13 104 HT_.out ?_
      refine takeQ 14 105 HT_.out HW_.out hHeld ?_
      refine pureQ 15 106 HT_.out ?_
      refine pureQ 16 107 HT_.out ?_
      refine pureQ 17 108 HT_.out ?_
      refine oneQ 18 109 HT_.out (fun K hK => ?_)
      refine goesQ Try.func9 #[mV A3a Sa.marks.length c3a, mV A3c Sa.marks.length c3c] ?_
      refine (marks_same KZa.out.marks KZa.out.mrow Ra.out.rd.a3 ⟨by have h := Kd.C_take Rc.out.rd.a3.1 (m := Sa.marks.length) KLC.out; rw [take_pre KTC.out] at h; exact h, by have := Rc.out.rd.a3.2; have := KLC.out; omega⟩).mono ?_
      rintro e wm2 ⟨rfl, hb⟩
      replace B10 := bbw B10 hb; replace B11 := bbw B11 hb; replace B12 := bbw B12 hb; replace Ra := Aside0.mk (Ra.out.below hb); replace Rb := Aside0.mk (Rb.out.below hb); replace Rc := Aside0.mk (Rc.out.below hb); replace HB := bst HB hb; clear hb
      refine ⟨_, rfl, ?_⟩
      refine hK.out _ _ (hS _ B10.out B11.out B12.out) (fun hHeld => ?_)
      clear hK K
      refine normQ (N := 109) ?_
      refine pureQ 19 110 HT_.out ?_
      refine pureQ 20 111 HT_.out ?_
      refine pureQ 21 112 HT_.out ?_
      refine takeQ 22 113 HT_.out HW_.out hHeld ?_
      refine pureQ 23 114 HT_.out ?_
      refine takeQ 24 115 HT_.out HW_.out hHeld ?_
      refine pureQ 25 116 HT_.out ?_
      refine pureQ 26 117 HT_.out ?_
      refine pureQ 27 118 HT_.out ?_
      refine pureQ 28 119 HT_.out ?_
      refine takeQ 29 120 HT_.out HW_.out hHeld ?_
      refine pureQ 30 121 HT_.out ?_
      refine takeQ 31 122 HT_.out HW_.out hHeld ?_
      refine pureQ 32 123 HT_.out ?_
      refine pureQ 33 124 HT_.out ?_
      refine pureQ 34 125 HT_.out ?_
      refine oneQ 35 126 HT_.out (fun K hK => ?_)
      refine goesQ Try.func8 #[] ?_
      refine (awake_calls _).mono ?_
      rintro e wm3 ⟨rfl, hb⟩
      replace B10 := bbw B10 hb; replace B11 := bbw B11 hb; replace B12 := bbw B12 hb; replace Ra := Aside0.mk (Ra.out.below hb); replace Rb := Aside0.mk (Rb.out.below hb); replace Rc := Aside0.mk (Rc.out.below hb); replace HB := bst HB hb; clear hb
      refine ⟨_, rfl, ?_⟩
      refine hK.out _ _ (hS _ B10.out B11.out B12.out) (fun hHeld => ?_)
      clear hK K
      refine normQ (N := 126) ?_
      refine pureQ 36 127 HT_.out ?_
      refine pureQ 37 8 HT_.out ?_
      refine done_ (done_of HT_.out (by kernel_rfl)) ?_
      clear hHeld HT_ HW_
      clear hS
      go_wp2
      go_ret
      exact ⟨rfl, (bpk HB).out⟩
end Go.Proofs.Ytcalcbeonbfkmaa.P
