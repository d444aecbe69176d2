-- PRINTED by print.py (a twelfth state) out of the translation. Not trusted: Lean checks it.
import Derived.Test.YtklignhpkojmhaaPx0
import Derived.Test.YtklignhpkojmhaaPx1
namespace Go.Proofs.Ytklignhpkojmhaa.P
open Go.RowKit Go.Proofs.YtklignhpkojmhaaW.PrintWords Go.Proofs.YtklignhpkojmhaaW.PrintLast Go.Proofs.YtklignhpkojmhaaW.PrintMore Go.Proofs.YtklignhpkojmhaaO
attribute [local go_sem] max2_int min2_int max_two min_two max_three min_three max_four min_four   -- for this text's walks alone
set_option linter.unusedVariables false
set_option linter.unusedSimpArgs false

/-! ### gimballaw10_kept, by hand: a slice whose spare room holds 4321 twice -/
/-- Behind a slice's numbers stands 4321 twice, within its room. -/
def Spare (w : World) (A : Option Addr) (c : Nat) (l : List Int) : Prop := l.length < 17592186044416 ∧ l.length + 2 ≤ c ∧ Kd.C (Kd.int .i64) w A (l.length + 2) (l ++ [4321, 4321])
theorem cut_room {P : Program} (t e : TypeId) (kh : IntKind) {i : TypeInfo} (ht : P.underlying t = some (.slice e)) (hi : P.info? e = some i) (A : Option Addr) (n c : Nat) (j : Int) (h0 : 0 ≤ j) (hm : j ≤ c) :
    ∀ W : World, (Instr.slice t (.slice A n c) none (some (.int kh j)) none).run P W = .ok (.slice A j.toNat c) W := by
  intro W
  have hel : P.elem t = e := by simp [Program.elem, ht]
  have hu : P.underlying t = some (.slice (P.elem t)) := by rw [hel]; exact ht
  have ha : (A.map fun x => x.add 0) = A := by cases A <;> simp [Addr.add]
  rw [run_slice_h W t A n c hu kh j h0 (by omega), hel]
  simp [sizeOf, typeInfo, hi, sliced, Result.andThen, ha]
def gimballaw10_kept.f (k : Nat) (l0 : List Int) (l1 : List Int) : Option (Bool) := gimballaw10_same.f k l0 l1
theorem gimballaw10_kept.mono : ∀ a0 a1 k, LeO (gimballaw10_kept.f k a0 a1) (gimballaw10_kept.f (k + 1) a0 a1) := fun a0 a1 k => gimballaw10_same.mono a0 a1 k
set_option maxHeartbeats 8000000 in
set_option maxRecDepth 100000 in
theorem gimballaw10_kept.calls (k : Nat) (A0 : Option Addr) (c0 : Nat) (l0 : List Int) (A1 : Option Addr) (c1 : Nat) (l1 : List Int) (r : Bool) (w : World) (hr0 : Kd.C (Kd.int .i64) w A0 l0.length l0) (hc0 : l0.length ≤ c0) (hr1 : Kd.C (Kd.int .i64) w A1 l1.length l1) (hc1 : l1.length ≤ c1) (h : gimballaw10_kept.f k l0 l1 = some r) (hs : Spare w A0 c0 l0 := by assumption) :
    Calls Try.prog 21 #[.slice A0 l0.length c0, .slice A1 l1.length c1] w fun e w' => e = .returned (.bool r) ∧ Drawn0 w w' := by
  have HR0 := Aside0.mk hr0
  have HC0 := Aside0.mk hc0
  clear hr0 hc0
  have HR1 := Aside0.mk hr1
  have HC1 := Aside0.mk hc1
  clear hr1 hc1
  have A3 := Aside0.mk (show gimballaw10_same.f k l0 l1 = some r from h)
  obtain ⟨hsz, hsc, hsC⟩ := hs
  cases r with
  | false =>
   clear h hsz hsc hsC
   go_enter Try.func21, Try.ntmps21
   go_wp2_with (first | ((with_reducible refine gate_callee (f := 13) rfl ?_); refine goesL_ (some 7) rfl rfl Try.func13 (by kernel_rfl) rfl #[.slice A0 l0.length c0, .slice A1 l1.length c1] rfl (by (try simp only [List.map_toArray, List.map_cons, List.map_nil]); first | done | rfl | (simp only [List.length_drop, List.length_take]; rfl)) ?_; (with_reducible refine (gimballaw10_same.calls k _ _ l0 _ _ l1 false _ ?side1 ?side2 ?side3 ?side4 A3.out).mono ?_); (case side1 => repeat (first | exact HR0.out | (with_reducible refine Kd.C_alloc ?_ _) | (with_reducible refine Kd.C_drewN ?_ _) | (with_reducible refine Kd.C_drew ?_))); (case side2 => exact HC0.out); (case side3 => repeat (first | exact HR1.out | (with_reducible refine Kd.C_alloc ?_ _) | (with_reducible refine Kd.C_drewN ?_ _) | (with_reducible refine Kd.C_drew ?_))); (case side4 => exact HC1.out); rintro e w' ⟨rfl, ⟨nd, rfl⟩⟩; refine ⟨_, rfl, ?_⟩))
   go_ret
   exact ⟨by first | rfl | (simp; done) | (simp [*]; done), by repeat (first | exact Drawn0.refl _ | apply Drawn0.step)⟩
  | true =>
   have hlen : l1.length = l0.length := by
     have h2 : gimballaw10_same.f k l0 l1 = some true := h
     unfold gimballaw10_same.f at h2
     by_cases g : (l0.length : Int) = (l1.length : Int)
     · omega
     · rw [if_neg g] at h2; simp at h2
   clear h
   obtain ⟨Lx, hL⟩ : ∃ L_ : List Int, L_ = l0 ++ [4321, 4321] := ⟨_, rfl⟩
   have hLl : Lx.length = l0.length + 2 := by rw [hL]; simp
   rw [← hL, ← hLl] at hsC
   have HX := Aside0.mk hsC
   clear hsC
   obtain ⟨ji5, hji5⟩ : ∃ j_ : Int, (wrap64 ((l1.length : Int) + 2)) = j_ := ⟨_, rfl⟩
   have hj5 : ji5 = (Lx.length : Int) := by rw [← hji5]; unfold wrap64; omega
   have hji5w : (IntKind.i64.wrap ((l1.length : Int) + 2)) = ji5 := (i64_w _).trans hji5
   obtain ⟨ji13, hji13⟩ : ∃ j_ : Int, (wrap64 ((l1.length : Int) + 1)) = j_ := ⟨_, rfl⟩
   have hj13 : ji13 = (l0.length : Int) + 1 := by rw [← hji13]; unfold wrap64; omega
   have hji13w : (IntKind.i64.wrap ((l1.length : Int) + 1)) = ji13 := (i64_w _).trans hji13
   have hv1 : rd Lx (l1.length : Int) = 4321 := by rw [hL, hlen]; unfold rd; simp
   have hv2 : rd Lx ji13 = 4321 := by rw [hL, hj13]; unfold rd; rw [show ((l0.length : Int) + 1).toNat = l0.length + 1 by omega]; simp
   have hq1 : (l1.length : Int) < (Lx.length : Int) := by omega
   have hp2 : 0 ≤ ji13 := by omega
   have hq2 : ji13 < (Lx.length : Int) := by omega
   obtain ⟨i016, hi016, _, hsz16, _⟩ := info_parts info2
   have hcut16 := cut_room (P := Try.prog) 22 2 .i64 Try.underlying22 hi016 A0 l0.length c0 ji5 (by omega) (by omega)
   rw [show ji5.toNat = Lx.length by omega] at hcut16
   clear hi016 hsz16 hL hlen hLl hj5 hj13 hsz hsc
   have c10b0 : (rd Lx (l1.length : Int) == 4321) = true := beq_iff_eq.mpr hv1
   have c11b0 : (rd Lx ji13 == 4321) = true := beq_iff_eq.mpr hv2
   clear hv1 hv2
   go_enter Try.func21, Try.ntmps21
   go_wp2_with (first | ((with_reducible refine gate_callee (f := 13) rfl ?_); refine goesL_ (some 7) rfl rfl Try.func13 (by kernel_rfl) rfl #[.slice A0 l0.length c0, .slice A1 l1.length c1] rfl (by (try simp only [List.map_toArray, List.map_cons, List.map_nil]); first | done | rfl | (simp only [List.length_drop, List.length_take]; rfl)) ?_; (with_reducible refine (gimballaw10_same.calls k _ _ l0 _ _ l1 true _ ?side1 ?side2 ?side3 ?side4 A3.out).mono ?_); (case side1 => repeat (first | exact HR0.out | (with_reducible refine Kd.C_alloc ?_ _) | (with_reducible refine Kd.C_drewN ?_ _) | (with_reducible refine Kd.C_drew ?_))); (case side2 => exact HC0.out); (case side3 => repeat (first | exact HR1.out | (with_reducible refine Kd.C_alloc ?_ _) | (with_reducible refine Kd.C_drewN ?_ _) | (with_reducible refine Kd.C_drew ?_))); (case side4 => exact HC1.out); rintro e w' ⟨rfl, ⟨nd, rfl⟩⟩; refine ⟨_, rfl, ?_⟩; have p183 : 0 ≤ ((l1.length : Int) : Int) := Int.natCast_nonneg _; have q183 : (l1.length : Int) < (Lx.length : Int) := hq1; obtain ⟨ad183, e183, hx183_0⟩ := Kd.at_int HX.out (l1.length : Int) p183 q183; cases e183; (try simp only [Go.IntWalk.toNatUp] at hx183_0); replace p183 := eq_true p183; replace q183 := eq_true q183; have p185 : 0 ≤ (ji13 : Int) := hp2; have q185 : (ji13) < (Lx.length : Int) := hq2; obtain ⟨ad185, e185, hx185_0⟩ := Kd.at_int HX.out (ji13) p185 q185; obtain rfl : ad183 = ad185 := (by injection e185); replace p185 := eq_true p185; replace q185 := eq_true q185))
   go_ret
   exact ⟨by first | rfl | (simp; done) | (simp [*]; done), by repeat (first | exact Drawn0.refl _ | apply Drawn0.step)⟩

end Go.Proofs.Ytklignhpkojmhaa.P
