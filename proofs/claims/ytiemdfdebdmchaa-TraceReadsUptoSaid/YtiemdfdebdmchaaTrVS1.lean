/- What the law's proof needs of S1. -/
import Derived.RangeFuncNested
import Derived.RangeFuncBound
import Derived.RangeFuncCalls
import Derived.RangeFuncLeaves
import Derived.RangeFuncFrom
import Derived.Laws.Closers25b
import Derived.Shelf.Abstract
import Derived.WalkKit
import Derived.OwnWalkIn
import Derived.TacticsInMore
import Derived.LoopNIn
import Derived.LoopIn
import Derived.Test.YtiemdfdebdmchaaTrVU4
import Derived.Test.YtiemdfdebdmchaaTrVU
import Derived.Test.YtiemdfdebdmchaaTrVPx0
import Derived.Test.YtiemdfdebdmchaaTrVPx2
namespace Go.Proofs.Ytiemdfdebdmchaa.P
open Go.RowKit Go.Shelf Go.Proofs.YtiemdfdebdmchaaW.PrintWords Go.Proofs.YtiemdfdebdmchaaW.PrintLast Go.Proofs.YtiemdfdebdmchaaW.PrintMore Go.Proofs.YtiemdfdebdmchaaO
attribute [local go_sem] Oper.semAt_some
set_option linter.unusedVariables false
set_option linter.unusedSimpArgs false
def upto {α : Type} (f : Nat → α) (k : Nat) : List α := (List.range k).map f
theorem upto_succ {α : Type} (f : Nat → α) (k : Nat) : upto f (k + 1) = upto f k ++ [f k] := by simp [upto, List.range_succ]
theorem upto_length {α : Type} (f : Nat → α) (k : Nat) : (upto f k).length = k := by simp [upto]
/-- What comes ahead of a row's number. -/
def bef (zs : List Int) (j : Nat) : Int := if j = 0 then 0 else rd zs ((j - 1 : Nat) : Int)
set_option maxRecDepth 100000 in
set_option maxHeartbeats 2000000 in
/-- **steps's closure**: each number with the one ahead. -/
theorem steps1_in (n : Nat) (hn : 1 ≤ n) (l Bs : Nat) (A : Option Addr) (c : Nat) (zs : List Int) (Kp : World → World → Prop) (hKr : ∀ W, Kp W W) (hKt : ∀ {A B C : World}, Kp A B → Kp B C → Kp A C) (J Jx : List (Int × Int) → World → Prop) (W : World)
    (hmax : zs.length ≤ 9223372036854775807)
    (hBs : ∀ W_, Kp W W_ → W_.cell? ⟨Bs, 0, none⟩ = some (.slice A zs.length c)) (hC : ∀ W_, Kp W W_ → Kd.C (Kd.int .i64) W_ A zs.length zs)
    (hY : ∀ pre x W, J pre W → pre.length < zs.length → YieldAt Fence.wide (n - 1) Try.prog l #[.int .i64 x.1, .int .i64 x.2] W fun e W' =>
      (e = .returned (.bool true) ∧ J (pre ++ [x]) W' ∧ Kp W W') ∨ (e = .returned (.bool false) ∧ Jx (pre ++ [x]) W'))
    (h0 : J [] W) :
    CallsIn Fence.wide n Try.prog 35 #[.func (.yield l) #[] #[], .pointer (some ⟨Bs, 0, none⟩)] W fun e W' => (∃ v, e = .returned v) ∧
      ((∃ ys, ys = upto (fun j => (rd zs (j : Int), bef zs j)) zs.length ∧ J ys W') ∨ (∃ pre, True ∧ Jx pre W')) := by
  have hBs0 := hBs W (hKr W)
  refine callsIn_of_wp Try.func35 rfl trivial ?_ rfl
  simp only [Try.ntmps35, List.size_toArray, List.length_cons, List.length_nil, Nat.reduceAdd, Nat.reduceSub, Array.replicate_succ, Array.replicate_zero, List.push_toArray, List.append_toArray, List.nil_append, List.cons_append]
  gi_wp2
  gi_loopw [3, 8] (fun b i wr => ∃ k : Nat, k ≤ zs.length ∧ i = .int .i64 k ∧ b = .int .i64 (bef zs k) ∧ J (upto (fun j => (rd zs (j : Int), bef zs j)) k) wr ∧ Kp W wr)
    (fun b i _ => zs.length - (intOf i).toNat)
  case atStart => exact ⟨0, Nat.zero_le _, rfl, rfl, h0, hKr _⟩
  case round =>
    obtain ⟨k, hk, rfl, rfl, hJs, hnx⟩ := hrel
    by_cases hlt : k < zs.length
    · obtain ⟨fn, tmps, assign, body, hy, hR⟩ := hY _ (rd zs (k : Int), bef zs k) wr hJs (by rw [upto_length]; exact hlt)
      dsimp only at hy
      obtain ⟨ad, ea, hx0⟩ := Kd.at_int (hC wr hnx) (k : Int) (by omega) (by omega)
      cases ea
      simp only [Int.toNat_natCast] at hx0
      gi_wp2
      refine hR.mono ?_
      rintro e W3 (⟨rfl, hJ3, hk3⟩ | ⟨rfl, hJx3⟩)
      · gi_wp2
        go_roundw
        case rel => exact ⟨k + 1, by omega, by simp, by simp [bef], by rw [upto_succ]; exact hJ3, hKt hnx hk3⟩
        case measure => simp [intOf]; omega
      · gi_wp2
        refine bodyPost_ret (results_none rfl _ _ _) rfl ?_
        exact ⟨⟨_, rfl⟩, .inr ⟨_, trivial, hJx3⟩⟩
    · obtain rfl : k = zs.length := by omega
      gi_wp2
      go_end0
      exact ⟨⟨_, rfl⟩, .inl ⟨_, rfl, hJs⟩⟩
def atS (l : List Int) (j : Nat) : Int := if j < l.length then rd l (j : Int) else 0
set_option maxRecDepth 100000 in
set_option maxHeartbeats 2000000 in
/-- trace.at, which leaves the world as it was. -/
theorem at_exact (A0 : Option Addr) (c0 : Nat) (l0 : List Int) (j : Nat) (w : World) (hr0 : Kd.C (Kd.int .i64) w A0 l0.length l0) :
    Calls Try.prog 37 #[.slice A0 l0.length c0, .int .i64 (j : Int)] w fun e w' => e = .returned (.int .i64 (atS l0 j)) ∧ w' = w := by
  by_cases h : j < l0.length
  · obtain ⟨ad, ea, hx0⟩ := Kd.at_int hr0 (j : Int) (by omega) (by omega)
    cases ea
    simp only [Int.toNat_natCast] at hx0
    have hc : decide ((j : Int) < (l0.length : Int)) = true := decide_eq_true (by omega)
    rw [show atS l0 j = rd l0 (j : Int) from if_pos h]
    go_enter Try.func37, Try.ntmps37
    go_wp2
    go_ret
    exact ⟨rfl, rfl⟩
  · have hc : decide ((j : Int) < (l0.length : Int)) = false := decide_eq_false (by omega)
    rw [show atS l0 j = 0 from if_neg h]
    go_enter Try.func37, Try.ntmps37
    go_wp2
    go_ret
    exact ⟨rfl, rfl⟩
set_option maxRecDepth 100000 in
set_option maxHeartbeats 2000000 in
/-- **beside's closure**: each number with the other row's at its place. -/
theorem beside1_in (n : Nat) (hn : 1 ≤ n) (l Bs Bo : Nat) (A : Option Addr) (c : Nat) (zs : List Int) (A2 : Option Addr) (c2 : Nat) (os : List Int) (Kp : World → World → Prop) (hKr : ∀ W, Kp W W) (hKt : ∀ {A B C : World}, Kp A B → Kp B C → Kp A C) (J Jx : List (Int × Int) → World → Prop) (W : World)
    (hmax : zs.length ≤ 9223372036854775807)
    (hBs : ∀ W_, Kp W W_ → W_.cell? ⟨Bs, 0, none⟩ = some (.slice A zs.length c)) (hC : ∀ W_, Kp W W_ → Kd.C (Kd.int .i64) W_ A zs.length zs)
    (hBo : ∀ W_, Kp W W_ → W_.cell? ⟨Bo, 0, none⟩ = some (.slice A2 os.length c2)) (hC2 : ∀ W_, Kp W W_ → Kd.C (Kd.int .i64) W_ A2 os.length os)
    (hY : ∀ pre x W, J pre W → pre.length < zs.length → YieldAt Fence.wide (n - 1) Try.prog l #[.int .i64 x.1, .int .i64 x.2] W fun e W' =>
      (e = .returned (.bool true) ∧ J (pre ++ [x]) W' ∧ Kp W W') ∨ (e = .returned (.bool false) ∧ Jx (pre ++ [x]) W'))
    (h0 : J [] W) :
    CallsIn Fence.wide n Try.prog 36 #[.func (.yield l) #[] #[], .pointer (some ⟨Bs, 0, none⟩), .pointer (some ⟨Bo, 0, none⟩)] W fun e W' => (∃ v, e = .returned v) ∧
      ((∃ ys, ys = upto (fun j => (rd zs (j : Int), atS os j)) zs.length ∧ J ys W') ∨ (∃ pre, True ∧ Jx pre W')) := by
  have hBs0 := hBs W (hKr W)
  refine callsIn_of_wp Try.func36 rfl trivial ?_ rfl
  simp only [Try.ntmps36, List.size_toArray, List.length_cons, List.length_nil, Nat.reduceAdd, Nat.reduceSub, Array.replicate_succ, Array.replicate_zero, List.push_toArray, List.append_toArray, List.nil_append, List.cons_append]
  gi_wp2
  gi_loopw [8] (fun i wr => ∃ k : Nat, k ≤ zs.length ∧ i = .int .i64 k ∧ J (upto (fun j => (rd zs (j : Int), atS os j)) k) wr ∧ Kp W wr)
    (fun i _ => zs.length - (intOf i).toNat)
  case atStart => exact ⟨0, Nat.zero_le _, rfl, h0, hKr _⟩
  case round =>
    obtain ⟨k, hk, rfl, hJs, hnx⟩ := hrel
    by_cases hlt : k < zs.length
    · obtain ⟨fn, tmps, assign, body, hy, hR⟩ := hY _ (rd zs (k : Int), atS os k) wr hJs (by rw [upto_length]; exact hlt)
      dsimp only at hy
      obtain ⟨ad, ea, hx0⟩ := Kd.at_int (hC wr hnx) (k : Int) (by omega) (by omega)
      cases ea
      simp only [Int.toNat_natCast] at hx0
      have hBo0 := hBo wr hnx
      gi_wp2_with (refine ⟨trivial, ?_⟩; refine (callsIn_wide.2 (at_exact A2 c2 os k wr (hC2 wr hnx))).mono ?_; rintro e w2 ⟨rfl, rfl⟩)
      refine hR.mono ?_
      rintro e W3 (⟨rfl, hJ3, hk3⟩ | ⟨rfl, hJx3⟩)
      · gi_wp2
        go_roundw
        case rel => exact ⟨k + 1, by omega, by simp, by rw [upto_succ]; exact hJ3, hKt hnx hk3⟩
        case measure => simp [intOf]; omega
      · gi_wp2
        refine bodyPost_ret (results_none rfl _ _ _) rfl ?_
        exact ⟨⟨_, rfl⟩, .inr ⟨_, trivial, hJx3⟩⟩
    · obtain rfl : k = zs.length := by omega
      gi_wp2
      go_end0
      exact ⟨⟨_, rfl⟩, .inl ⟨_, rfl, hJs⟩⟩
def numb : Nat → Int → List Int
  | 0, x => [x % 256]
  | n + 1, x => if x ≥ 128 then Go.bits .or .u8 (x % 256) 128 :: numb n (x / 128) else [x % 256]
theorem numb_length : ∀ n x, (numb n x).length ≤ n + 1
  | 0, x => Nat.le_refl _
  | n + 1, x => by
    unfold numb
    split
    · have := numb_length n (x / 128); simp only [List.length_cons]; omega
    · simp
def lim : Nat → Int
  | 0 => 128
  | n + 1 => 128 * lim n
theorem lim9 : lim 9 = 1180591620717411303424 := by decide
theorem number_l0 (n : Nat) : ∀ (k : Nat) (b : List Int) (x : Int), x < lim n → n < k → b.length + n < 140737488355328 → trace_number.l0 k b x = some (b ++ numb n x) := by
  induction n with
  | zero =>
    intro k b x hx hk hb
    obtain ⟨k, rfl⟩ : ∃ j, k = j + 1 := ⟨k - 1, by omega⟩
    simp only [lim] at hx
    unfold trace_number.l0 numb
    rw [if_neg (by omega), if_pos (by omega)]
  | succ n ih =>
    intro k b x hx hk hb
    obtain ⟨k, rfl⟩ : ∃ j, k = j + 1 := ⟨k - 1, by omega⟩
    simp only [lim] at hx
    unfold trace_number.l0 numb
    by_cases h : x ≥ 128
    · rw [if_pos h, if_pos h, if_pos (by omega), ih k _ (x / 128) (by omega) (by omega) (by simp only [List.length_append, List.length_cons, List.length_nil]; omega)]
      simp
    · rw [if_neg h, if_neg h, if_pos (by omega)]
def sgn (a : Int) : Int := Go.bits .xor .u64 (IntKind.u64.wrap ((IntKind.u64.wrap (a)) * 2)) (IntKind.u64.wrap (a / 9223372036854775808))
theorem sgn_lt (a : Int) : sgn a < lim 9 := by
  have := bits_hi_u64 .xor (IntKind.u64.wrap ((IntKind.u64.wrap (a)) * 2)) (IntKind.u64.wrap (a / 9223372036854775808))
  rw [lim9]
  unfold sgn
  omega
theorem u64_lt (a : Int) : IntKind.u64.wrap a < lim 9 := by
  have := (wrap_within .u64 a).2
  have e : IntKind.u64.max = 18446744073709551615 := by decide
  rw [lim9]
  omega
theorem number_some (k : Nat) (b : List Int) (a : Int) (hk : 10 ≤ k) (hb : b.length + 10 < 140737488355328) : trace_number.f k b (IntKind.u64.wrap a) = some (b ++ numb 9 (IntKind.u64.wrap a)) :=
  number_l0 9 k b _ (u64_lt a) (by omega) (by omega)
theorem signed_some (k : Nat) (b : List Int) (a : Int) (hk : 10 ≤ k) (hb : b.length + 10 < 140737488355328) : trace_signed.f k b a = some (b ++ numb 9 (sgn a)) := by
  have h : trace_number.f k b (sgn a) = some (b ++ numb 9 (sgn a)) := number_l0 9 k b _ (sgn_lt a) (by omega) (by omega)
  unfold trace_signed.f
  exact (congrArg (fun o => Option.bind o fun t109 => some t109) h).trans rfl
def rowOf (ps : List (Int × Int)) (b : List Int) : List Int := ps.foldl (fun b p => b ++ numb 9 (sgn (wrap64 (p.1 - p.2)))) b
theorem rowOf_snoc (ps : List (Int × Int)) (x : Int × Int) (b : List Int) : rowOf (ps ++ [x]) b = rowOf ps b ++ numb 9 (sgn (wrap64 (x.1 - x.2))) := by
  unfold rowOf
  rw [List.foldl_append]
  rfl
theorem rowOf_length : ∀ (ps : List (Int × Int)) (b : List Int), (rowOf ps b).length ≤ b.length + 10 * ps.length
  | [], b => by simp [rowOf]
  | p :: ps, b => by
    have h := rowOf_length ps (b ++ numb 9 (sgn (wrap64 (p.1 - p.2))))
    have h2 := numb_length 9 (sgn (wrap64 (p.1 - p.2)))
    have e : rowOf (p :: ps) b = rowOf ps (b ++ numb 9 (sgn (wrap64 (p.1 - p.2)))) := rfl
    rw [e]
    simp only [List.length_append, List.length_cons] at h ⊢
    omega
/-- What lay ahead and is none of S's stays. -/
def Kpt (n₀ : Nat) (S : Nat → Prop) (A B : World) : Prop := A.heap.size ≤ B.heap.size ∧ ∀ i, i < n₀ → ¬ S i → B.heap[i]? = A.heap[i]?
theorem Kpt.refl (n₀ : Nat) (S : Nat → Prop) (A : World) : Kpt n₀ S A A := ⟨Nat.le_refl _, fun _ _ _ => rfl⟩
theorem Kpt.trans {n₀ : Nat} {S : Nat → Prop} {A B C : World} (h : Kpt n₀ S A B) (k : Kpt n₀ S B C) : Kpt n₀ S A C := ⟨Nat.le_trans h.1 k.1, fun i hi hs => (k.2 i hi hs).trans (h.2 i hi hs)⟩
theorem Kpt.put {n₀ : Nat} {S : Nat → Prop} {w : World} (hn : n₀ ≤ w.heap.size) (W : World) (l : Nat) (o o' : Obj) (hl : w.heap.size ≤ l) (h : W.heap[l]? = some o) (_ : o.isCells = false) (_ : o.isWalk = false) : Kpt n₀ S W (W.putObj l o') :=
  have hg := grownBy_putObj' W l o'
  ⟨hg.size, fun i hi _ => hg.block i (by have := blk_lt h; omega) (fun e => by cases e; omega)⟩
theorem Kpt.of_grown {n₀ : Nat} {S : Nat → Prop} {A W W' : World} {row : Option Nat} (hk : Kpt n₀ S A W) (hn : n₀ ≤ A.heap.size) (hg : W.grownBy W' row) (hr : ∀ r, row = some r → n₀ ≤ r) : Kpt n₀ S A W' :=
  hk.trans ⟨hg.size, fun i hi _ => hg.block i (Nat.lt_of_lt_of_le hi (Nat.le_trans hn hk.1)) (fun e => by have := hr i e.symm; omega)⟩
theorem R_grown_nc {W W' : World} {n₀ : Nat} {ok : Nat → Prop} {v : Value} {b : List Int} {row : Option Nat} (h : Kd.R (Kd.int .u8) 5 W n₀ ok v b) (hg : W.grownBy W' row) (hr : ∀ r, row = some r → ∃ o : Obj, W.heap[r]? = some o ∧ o.isCells = false) : Kd.R (Kd.int .u8) 5 W' n₀ ok v b :=
  Kd.R_mono (Kd.R_step (Kd.R_bound h) (fun k ho hlt => hg.block k hlt (fun e => by
    obtain ⟨o, ho1, ho2⟩ := hr k e.symm
    obtain ⟨_, _, _, q, _, cells, hc⟩ := ho
    rw [hc] at ho1; cases ho1; cases ho2))) (fun k hk => hk.1)
set_option maxRecDepth 100000 in
set_option maxHeartbeats 4000000 in
/-- **row(b, n, l)**, l a function to be ranged over that gives the pairs ps. -/
theorem row_seq (k : Nat) (hk : 10 ≤ k) (Q : Nat → Prop) (u : Value) (l0 : List Int) (a1 : Int) (ps : List (Int × Int)) (gf : Nat) (lb : Array Value) (w0 w : World) (hB : Below w0.heap.size w0 w)
    (ho0 : Kd.R (Kd.int .u8) 5 w w0.heap.size Q u l0) (hQ : ∀ i, Q i → i < w.heap.size) (hlen : l0.length + 10 * ps.length + 20 < 140737488355328) (eg : ∀ args w, (callFunc gf args).run Try.prog w = .ok (.enter gf args) w)
    (hseq : ∀ w1, Kpt w.heap.size Q w w1 → SeqStopsK Fence.wide 2 Try.prog gf lb (fun x : Int × Int => #[.int .i64 x.1, .int .i64 x.2]) (Kpt w.heap.size Q) (fun ys => ys = ps) (fun pre => True) ps.length w1) :
    Calls Try.prog 20 #[u, .int .i64 a1, .func (.func gf) #[] lb] w fun e w' => ∃ v0_ : Value, e = .returned (v0_) ∧ Kd.R (Kd.int .u8) 5 w' w0.heap.size (fun k_ => (Q k_ ∨ w.heap.size ≤ k_)) v0_ (rowOf ps (l0 ++ numb 9 (IntKind.u64.wrap a1))) ∧ Below w0.heap.size w0 w' ∧ Kept w w' (fun k_ => Q k_) := by
  obtain ⟨Au, cu, rfl⟩ := Kd.R_slice ho0
  have hnum := number_some k l0 a1 hk (by omega)
  have hnl := numb_length 9 (IntKind.u64.wrap a1)
  obtain ⟨r0, hr0⟩ : ∃ r0, l0 ++ numb 9 (IntKind.u64.wrap a1) = r0 := ⟨_, rfl⟩
  have hr0l : r0.length ≤ l0.length + 10 := by rw [← hr0, List.length_append]; omega
  rw [hr0] at hnum ⊢
  clear hr0 hnl
  refine (callsIn_wide (n := 3)).1 ?_
  refine callsIn_of_wp_marks Try.func20 rfl trivial ?_ rfl
  simp only [Try.ntmps20, List.size_toArray, List.length_cons, List.length_nil, Nat.reduceAdd, Nat.reduceSub, Array.replicate_succ, Array.replicate_zero, List.push_toArray, List.append_toArray, List.nil_append, List.cons_append]
  have hs := blk_new w (.cells #[.slice Au l0.length cu] 28 (0, 0))
  have hs1 : (w.alloc (.cells #[.slice Au l0.length cu] 28)).cell? ⟨w.heap.size, 0, none⟩ = some (.slice Au l0.length cu) := (blk_cell hs 0).trans rfl
  gi_wp2_with (refine ⟨trivial, ?_⟩; refine (callsIn_wide.2 (trace_number.calls k (fun k_ => Q k_) (.slice Au l0.length cu) l0 (IntKind.u64.wrap a1) r0 w0 (w.alloc (.cells #[.slice Au l0.length cu] 28 (0, 0))) (hB.alloc hB.size _) (Kd.R_below ho0 (below_alloc (Below.refl _ _) _)) hnum)).mono ?_; rintro e w2 ⟨v1, rfl, hR, hB2, hK2⟩; obtain ⟨A1, c1, rfl⟩ := Kd.R_slice hR; have hx2 : w2.heap[w.heap.size]? = some (.cells #[.slice Au l0.length cu] 28 (0, 0)) := (hK2.2 _ (by simp) (fun hh => Nat.lt_irrefl _ (hQ _ hh))).trans hs; have hx3 : w2.cell? ⟨w.heap.size, 0, none⟩ = some (.slice Au l0.length cu) := (blk_cell hx2 0).trans rfl; have hx4 := blk_frozen hx2 0)
  have hlt2 : w.heap.size < w2.heap.size := blk_lt hx2
  have hK0 : Kpt w.heap.size Q w (w2.setCell ⟨w.heap.size, 0, none⟩ (.slice A1 r0.length c1)) :=
    ⟨by simp; omega, fun i hi hn => ((Below.heap_setCell w2 ⟨w.heap.size, 0, none⟩ _ i (Nat.ne_of_lt hi)).trans (hK2.2 i (by simp; omega) hn)).trans (Below.heap_alloc w _ i hi)⟩
  have hRx : Kd.R (Kd.int .u8) 5 (w2.setCell ⟨w.heap.size, 0, none⟩ (.slice A1 r0.length c1)) w0.heap.size (fun k_ => (Q k_ ∨ w.heap.size ≤ k_) ∧ k_ ≠ w.heap.size) (.slice A1 r0.length c1) r0 :=
    Kd.R_mono (Kd.R_set hR hx2 (by decide) 0 _) (fun k_ hk => hk.elim (fun hk => ⟨.inl hk, fun e => by have := hQ _ hk; omega⟩) (fun hk => ⟨.inr (by simp at hk; omega), fun e => by simp at hk; omega⟩))
  have hBx : Below w0.heap.size w0 (w2.setCell ⟨w.heap.size, 0, none⟩ (.slice A1 r0.length c1)) := hB2.setCell (p := ⟨w.heap.size, 0, none⟩) hB.size _
  have hcx : (w2.setCell ⟨w.heap.size, 0, none⟩ (.slice A1 r0.length c1)).heap[w.heap.size]? = some (.cells #[.slice A1 r0.length c1] 28 (0, 0)) := blk_put hx2 0 _ rfl
  obtain ⟨W0, hW0⟩ : ∃ W0, w2.setCell ⟨w.heap.size, 0, none⟩ (.slice A1 r0.length c1) = W0 := ⟨_, rfl⟩
  rw [hW0] at hRx hBx hcx hK0 ⊢
  have hWs : w.heap.size < W0.heap.size := blk_lt hcx
  refine wpIn_rangeFunc_ownF rfl (by decide) (gf := gf) (lb := lb) rfl trivial eg
    (hseq W0 hK0) Kpt.trans (Kpt.put (Nat.le_of_lt hWs)) (Below.refl _ _) (fun x => rfl)
    (fun pre W => ∃ A c, W.heap[w.heap.size]? = some (.cells #[.slice A (rowOf pre r0).length c] 28 (0, 0)) ∧ Kd.R (Kd.int .u8) 5 W w0.heap.size (fun k_ => (Q k_ ∨ w.heap.size ≤ k_) ∧ k_ ≠ w.heap.size) (.slice A (rowOf pre r0).length c) (rowOf pre r0) ∧ Below w0.heap.size w0 W ∧ Kpt w.heap.size Q W0 W)
    (fun _ _ _ => False)
    (fun s W W' row hs hg hr => by
      obtain ⟨A, c, hblk, hRb, hBb, hKb⟩ := hs
      refine ⟨A, c, blk_grown hblk hg (fun e => ?_), R_grown_nc hRb hg (fun r e => (hr r e).2), hBb.grown hg (Nat.le_trans hB.size (Nat.le_trans (Nat.le_of_lt hWs) hKb.1)) (fun r e => Nat.le_trans (Nat.le_trans hB.size (Nat.le_of_lt hWs)) (hr r e).1), hKb.of_grown (Nat.le_of_lt hWs) hg (fun r e => Nat.le_trans (Nat.le_of_lt hWs) (hr r e).1)⟩
      obtain ⟨o, ho1, ho2⟩ := (hr _ e.symm).2
      rw [hblk] at ho1; cases ho1; cases ho2)
    (fun _ _ _ _ _ hs _ _ => hs)
    ⟨A1, c1, hcx, hRx, hBx, Kpt.refl _ _ _⟩
    (fun x => { tmps := #[.slice Au l0.length cu, .int .i64 a1, .func (.func gf) #[] lb, .pointer (some ⟨w.heap.size, 0, none⟩), undef, undef, .slice none 0 0, .int .i64 x.1, .int .i64 x.2, .slice Au l0.length cu, .int .i64 a1, .int .u64 (IntKind.u64.wrap a1), .slice A1 r0.length c1, .func (.func gf) #[] lb, .int .i64 x.1, .int .i64 x.2, undef, undef, undef, undef, undef, undef], defers := [] }) ?assign ?body ?done ?stop
  case assign =>
    intro l x W K hK
    gi_wp2
    exact hK
  case body =>
    rintro l pre x W ⟨A, c, hblk, hRb, hBb, hKb⟩ hlt
    have hbl := rowOf_length pre r0
    have hsg := signed_some k (rowOf pre r0) (wrap64 (x.1 - x.2)) hk (by omega)
    rw [← rowOf_snoc] at hsg
    have hc0 : W.cell? ⟨w.heap.size, 0, none⟩ = some (.slice A (rowOf pre r0).length c) := (blk_cell hblk 0).trans rfl
    gi_wp2_with (refine ⟨trivial, ?_⟩; gi_at_call 19; refine (CallsIn.inRound l (callsIn_wide.2 (trace_signed.calls k (fun k_ => some k_ = (Value.slice A (rowOf pre r0).length c).ownBlock) _ _ _ _ w0 W hBb (Kd.R_tight rfl hRb) hsg))).mono ?_; rintro e w3 ⟨v3, rfl, hR3, hB3, hK3⟩; obtain ⟨A3, c3, rfl⟩ := Kd.R_slice hR3; have hy2 : w3.heap[w.heap.size]? = some (.cells #[.slice A (rowOf pre r0).length c] 28 (0, 0)) := (hK3.2 _ (blk_lt hblk) (fun hh => (hRb.1 _ hh.symm).2 rfl)).trans hblk; have hy3 : w3.cell? ⟨w.heap.size, 0, none⟩ = some (.slice A (rowOf pre r0).length c) := (blk_cell hy2 0).trans rfl; have hy4 := blk_frozen hy2 0)
    have hKo : KeepsOthers W w3 := ⟨hK3.1, fun i o ho hno => (hK3.2 i (blk_lt ho) (fun e => by
      obtain ⟨_, _, _, q, _, cells, hc⟩ := (Kd.R_bound hRb).1 i e.symm
      rw [hc] at ho; cases ho; cases hno)).trans ho⟩
    have hWs2 : w.heap.size < W.heap.size := blk_lt hblk
    have hKs : Kpt w.heap.size Q W (w3.setCell ⟨w.heap.size, 0, none⟩ (.slice A3 (rowOf (pre ++ [x]) r0).length c3)) :=
      ⟨by simp; exact hK3.1, fun i hi hn => (Below.heap_setCell w3 ⟨w.heap.size, 0, none⟩ _ i (Nat.ne_of_lt hi)).trans (hK3.2 i (by omega) (fun e => by
        have := (hRb.1 i e.symm).1
        rcases this with h | h
        · exact hn h
        · omega))⟩
    refine ⟨hKo.trans (KeepsOthers.setCell _ _ _), hKs, A3, c3, blk_put hy2 0 _ rfl, ?_, hB3.setCell (p := ⟨w.heap.size, 0, none⟩) hB.size _, hKb.trans hKs⟩
    exact Kd.R_mono (Kd.R_set hR3 hy2 (by decide) 0 _) (fun k_ hk => hk.elim (fun hk => hRb.1 k_ hk.symm) (fun hk => ⟨.inr (by omega), fun e => by omega⟩))
  case stop =>
    rintro D c pre W _ _ h _
    exact h.elim
  case done =>
    rintro D xs W hD rfl ⟨A, c, hblk, hRb, hBb, hKb⟩ hK
    have hcw : W.cell? ⟨w.heap.size, 0, none⟩ = some (.slice A (rowOf xs r0).length c) := (blk_cell hblk 0).trans rfl
    gi_wp2
    refine ⟨by simp, .inl ⟨_, _, rfl, run_takeDeferred hK, ?_⟩⟩
    have hBF : Kpt w.heap.size Q W0 (W.putObj D (.deferred none)) := hKb.trans (Kpt.put (w := W0) (Nat.le_of_lt hWs) W D _ _ hD hK rfl rfl)
    have hg := grownBy_putObj' W D (.deferred none)
    refine ⟨_, results_tmp rfl _ _ _, _, rfl, ?_, ?_, ?_⟩
    · exact Kd.R_mono (R_grown_nc hRb hg (fun r e => by cases e; exact ⟨_, hK, rfl⟩)) (fun k_ hk => hk.1)
    · exact hBb.grown hg (Nat.le_trans hB.size (Nat.le_trans (Nat.le_of_lt hWs) hKb.1)) (fun r e => by cases e; exact Nat.le_trans (Nat.le_trans hB.size (Nat.le_of_lt hWs)) hD)
    · have h2 := hK0.trans hBF
      exact ⟨h2.1, fun i hi hn => h2.2 i hi hn⟩
set_option maxRecDepth 100000 in
set_option maxHeartbeats 2000000 in
/-- steps(l): l is boxed, and the function value captures the box. -/
theorem trace_steps.calls (A : Option Addr) (n c : Nat) (w : World) :
    Calls Try.prog 21 #[.slice A n c] w fun e w' => e = .returned (.func (.func 35) #[] #[.pointer (some ⟨w.heap.size, 0, none⟩)]) ∧ w' = w.alloc (.cells #[.slice A n c] 22) := by
  go_enter Try.func21, Try.ntmps21
  go_wp2
  go_ret
  exact ⟨rfl, rfl⟩
/-- .. as one operation of a walk. -/
theorem seq_event21 {ops : Array Oper} {rest : List Oper} {o : Oper} {a : Act} {Q : Exit → Act → World → Prop} {W : World} (hgd : o.guard = none) {N : Tmp} (hd : o.dst = some N) (x : Operand) (v : Value)
    (ho : o.op = .call { callee := .value (.func 21), args := #[x], argTypes := #[22] }) (hx : a.eval x = v)
    (h : ∀ g, g = W.heap.size → ∀ w1, w1.heap[g]? = some (.cells #[v] 22 (0, 0)) → Below W.heap.size W w1 → wpList Try.prog ops Q rest (a.put o.dst (.func (.func 35) #[] #[.pointer (some ⟨g, 0, none⟩)])) w1)
    (hv : ∃ A n c, v = .slice A n c := by exact ⟨_, _, _, rfl⟩) : wpList Try.prog ops Q (o :: rest) a W := by
  obtain ⟨A, n, c, rfl⟩ := hv
  refine goesL_ (some N) hd hgd Try.func21 (by kernel_rfl) rfl #[.slice A n c] ho (by simp [hx]) ?_
  refine (trace_steps.calls A n c W).mono ?_
  rintro e w1 ⟨rfl, rfl⟩
  refine ⟨_, rfl, ?_⟩
  rw [← hd]
  exact h _ rfl _ (blk_new W _) (below_alloc (Below.refl _ _) _)
theorem seq_step21 {ops : Array Oper} {o : Oper} {a : Act} {K : Act → World → Prop} {Q : Exit → Act → World → Prop} {W : World} (hw : Region.wanted o (yielded ops a.tmps) = true) {N : Tmp} (hd : o.dst = some N) (x : Operand) (v : Value)
    (ho : o.op = .call { callee := .value (.func 21), args := #[x], argTypes := #[22] }) (hx : a.eval x = v)
    (h : ∀ g, g = W.heap.size → ∀ w1, w1.heap[g]? = some (.cells #[v] 22 (0, 0)) → Below W.heap.size W w1 → K (a.put o.dst (.func (.func 35) #[] #[.pointer (some ⟨g, 0, none⟩)])) w1)
    (hv : ∃ A n c, v = .slice A n c := by exact ⟨_, _, _, rfl⟩) : if Region.wanted o (yielded ops a.tmps) = true then Oper.wp Try.prog o a W K Q else K (a.put o.dst undef) W := by
  obtain ⟨A, n, c, rfl⟩ := hv
  rw [hd]
  refine goes_ Try.func21 (by kernel_rfl) rfl #[.slice A n c] hw hd ho (by simp [hx]) ?_
  refine (trace_steps.calls A n c W).mono ?_
  rintro e w1 ⟨rfl, rfl⟩
  refine ⟨_, rfl, ?_⟩
  rw [← hd]
  exact h _ rfl _ (blk_new W _) (below_alloc (Below.refl _ _) _)
set_option maxRecDepth 100000 in
set_option maxHeartbeats 2000000 in
/-- beside(l, other): both are boxed, and the function value captures the boxes. -/
theorem trace_beside.calls (A : Option Addr) (n c : Nat) (A2 : Option Addr) (n2 c2 : Nat) (w : World) :
    Calls Try.prog 23 #[.slice A n c, .slice A2 n2 c2] w fun e w' => e = .returned (.func (.func 36) #[] #[.pointer (some ⟨w.heap.size, 0, none⟩), .pointer (some ⟨w.heap.size + 1, 0, none⟩)]) ∧ w' = (w.alloc (.cells #[.slice A n c] 22)).alloc (.cells #[.slice A2 n2 c2] 22) := by
  go_enter Try.func23, Try.ntmps23
  go_wp2
  go_ret
  exact ⟨by simp, rfl⟩
/-- .. as one operation of a walk. -/
theorem seq_event23 {ops : Array Oper} {rest : List Oper} {o : Oper} {a : Act} {Q : Exit → Act → World → Prop} {W : World} (hgd : o.guard = none) {N : Tmp} (hd : o.dst = some N) (x y : Operand) (v v2 : Value)
    (ho : o.op = .call { callee := .value (.func 23), args := #[x, y], argTypes := #[22, 22] }) (hx : a.eval x = v) (hy : a.eval y = v2)
    (h : ∀ g, g = W.heap.size → ∀ w1, w1.heap[g]? = some (.cells #[v] 22 (0, 0)) → Below W.heap.size W w1 → ∀ g2, g < g2 → w1.heap[g2]? = some (.cells #[v2] 22 (0, 0)) → wpList Try.prog ops Q rest (a.put o.dst (.func (.func 36) #[] #[.pointer (some ⟨g, 0, none⟩), .pointer (some ⟨g2, 0, none⟩)])) w1)
    (hv : ∃ A n c, v = .slice A n c := by exact ⟨_, _, _, rfl⟩) (hv2 : ∃ A n c, v2 = .slice A n c := by exact ⟨_, _, _, rfl⟩) : wpList Try.prog ops Q (o :: rest) a W := by
  obtain ⟨A, n, c, rfl⟩ := hv; obtain ⟨A2, n2, c2, rfl⟩ := hv2
  refine goesL_ (some N) hd hgd Try.func23 (by kernel_rfl) rfl #[.slice A n c, .slice A2 n2 c2] ho (by simp [hx, hy]) ?_
  refine (trace_beside.calls A n c A2 n2 c2 W).mono ?_
  rintro e w1 ⟨rfl, rfl⟩
  refine ⟨_, rfl, ?_⟩
  rw [← hd]
  refine h _ rfl _ (blk_alloc (blk_new W _) _) (below_alloc (below_alloc (Below.refl _ _) _) _) _ (Nat.lt_succ_self _) ?_
  have := blk_new (W.alloc (.cells #[.slice A n c] 22)) (.cells #[.slice A2 n2 c2] 22)
  rwa [World.size_alloc] at this
def stepsOf (l : List Int) : List (Int × Int) := upto (fun j => (rd l (j : Int), bef l j)) l.length
def besideOf (l os : List Int) : List (Int × Int) := upto (fun j => (rd l (j : Int), atS os j)) l.length
/-- row(b, n, steps(l)). -/
def trace_rowsteps.f (k : Nat) (l0 : List Int) (a1 : Int) (l3 : List Int) : Option (List Int) := if 10 ≤ k ∧ l0.length + 10 * l3.length + 20 < 140737488355328 then some (rowOf (stepsOf l3) (l0 ++ numb 9 (IntKind.u64.wrap a1))) else none
theorem trace_rowsteps.mono : ∀ a0 a1 a2 k, LeO (trace_rowsteps.f k a0 a1 a2) (trace_rowsteps.f (k + 1) a0 a1 a2) := by
  intro a0 a1 a2 k
  unfold trace_rowsteps.f
  by_cases h : 10 ≤ k ∧ a0.length + 10 * a2.length + 20 < 140737488355328
  · rw [if_pos h, if_pos ⟨Nat.le_succ_of_le h.1, h.2⟩]
    exact LeO.refl _
  · rw [if_neg h]
    exact LeO.none _
/-- row(b, n, beside(l, other)). -/
def trace_rowbeside.f (k : Nat) (l0 : List Int) (a1 : Int) (l3 l4 : List Int) : Option (List Int) := if 10 ≤ k ∧ l0.length + 10 * l3.length + 20 < 140737488355328 then some (rowOf (besideOf l3 l4) (l0 ++ numb 9 (IntKind.u64.wrap a1))) else none
theorem trace_rowbeside.mono : ∀ a0 a1 a2 a3 k, LeO (trace_rowbeside.f k a0 a1 a2 a3) (trace_rowbeside.f (k + 1) a0 a1 a2 a3) := by
  intro a0 a1 a2 a3 k
  unfold trace_rowbeside.f
  by_cases h : 10 ≤ k ∧ a0.length + 10 * a2.length + 20 < 140737488355328
  · rw [if_pos h, if_pos ⟨Nat.le_succ_of_le h.1, h.2⟩]
    exact LeO.refl _
  · rw [if_neg h]
    exact LeO.none _
theorem trace_rowsteps.calls (k : Nat) (P0_ : Nat → Prop) (u9000_ : Value) (l0 : List Int) (a1 : Int) (g3 : Nat) (A3 : Option Addr) (c3 : Nat) (l3 : List Int) (r : List Int) (w0 w : World) (hB : Below w0.heap.size w0 w) (ho0 : Kd.R (Kd.int .u8) 5 w w0.heap.size P0_ u9000_ l0)
    (hr3 : ∀ W_, Kept w W_ (fun k_ => P0_ k_) → Kd.C (Kd.int .i64) W_ A3 l3.length l3) (hc3 : l3.length ≤ c3) (h : trace_rowsteps.f k l0 a1 l3 = some r)
    (hb3 : w.heap[g3]? = some (.cells #[.slice A3 l3.length c3] 22 (0, 0)) := by refine pkB ?_; exact Aside0.out (by assumption)) :
    Calls Try.prog 20 #[u9000_, .int .i64 a1, .func (.func 35) #[] #[.pointer (some ⟨g3, 0, none⟩)]] w fun e w' => ∃ v0_ : Value, e = .returned (v0_) ∧ Kd.R (Kd.int .u8) 5 w' w0.heap.size (fun k_ => (P0_ k_ ∨ w.heap.size ≤ k_)) v0_ r ∧ Below w0.heap.size w0 w' ∧ Kept w w' (fun k_ => P0_ k_) := by
  unfold trace_rowsteps.f at h
  by_cases hz : 10 ≤ k ∧ l0.length + 10 * l3.length + 20 < 140737488355328
  case neg => rw [if_neg hz] at h; cases h
  rw [if_pos hz] at h
  obtain rfl := Option.some.inj h
  have hg3 : g3 < w.heap.size := blk_lt hb3
  have ho1 : Kd.R (Kd.int .u8) 5 w w0.heap.size (fun k_ => P0_ k_ ∧ k_ < w.heap.size ∧ k_ ≠ g3) u9000_ l0 := by
    obtain ⟨Au, cu, rfl⟩ := Kd.R_slice ho0
    exact Kd.R_mono (Kd.R_bound (Kd.R_types ho0 hb3 (by decide))) (fun k_ hk => ⟨hk.1.1, hk.2.2.1, hk.1.2⟩)
  have hlen : (stepsOf l3).length = l3.length := upto_length _ _
  have now : ∀ W_, Kpt w.heap.size (fun k_ => P0_ k_ ∧ k_ < w.heap.size ∧ k_ ≠ g3) w W_ → W_.cell? ⟨g3, 0, none⟩ = some (.slice A3 l3.length c3) ∧ Kd.C (Kd.int .i64) W_ A3 l3.length l3 := fun W_ hk =>
    ⟨(blk_cell ((hk.2 g3 hg3 (fun hh => hh.2.2 rfl)).trans hb3) 0).trans rfl, hr3 W_ ⟨hk.1, fun i hi hn => hk.2 i hi (fun hh => hn hh.1)⟩⟩
  refine (row_seq k hz.1 (fun k_ => P0_ k_ ∧ k_ < w.heap.size ∧ k_ ≠ g3) u9000_ l0 a1 (stepsOf l3) 35 #[.pointer (some ⟨g3, 0, none⟩)] w0 w hB ho1 (fun i hi => hi.2.1) (by rw [hlen]; exact hz.2) (enters_of Try.func35 (by kernel_rfl) rfl) ?_).mono ?_
  · intro w1 hw1 l J Jx W hW hJ hJx hY h0
    have hW2 : Kpt w.heap.size (fun k_ => P0_ k_ ∧ k_ < w.heap.size ∧ k_ ≠ g3) w W := hw1.trans ⟨hW.size, fun i hi _ => hW.block i (Nat.lt_of_lt_of_le hi hw1.1)⟩
    rw [hlen] at hY
    exact steps1_in 2 (by decide) l g3 A3 c3 l3 _ (fun W => Kpt.refl _ _ W) Kpt.trans J Jx W (by omega) (fun W_ hk => (now W_ (hW2.trans hk)).1) (fun W_ hk => (now W_ (hW2.trans hk)).2) hY h0
  · rintro e w' ⟨v, rfl, hR, hb, hk⟩
    exact ⟨v, rfl, Kd.R_mono hR (fun k_ hk => hk.imp (fun h => h.1) (fun h => h)), hb, hk.mono (fun k_ h => h.1)⟩
theorem trace_rowbeside.calls (k : Nat) (P0_ : Nat → Prop) (u9000_ : Value) (l0 : List Int) (a1 : Int) (g3 : Nat) (A3 : Option Addr) (c3 : Nat) (l3 : List Int) (g4 : Nat) (A4 : Option Addr) (c4 : Nat) (l4 : List Int) (r : List Int) (w0 w : World) (hB : Below w0.heap.size w0 w) (ho0 : Kd.R (Kd.int .u8) 5 w w0.heap.size P0_ u9000_ l0)
    (hr3 : ∀ W_, Kept w W_ (fun k_ => P0_ k_) → Kd.C (Kd.int .i64) W_ A3 l3.length l3) (hc3 : l3.length ≤ c3) (hr4 : ∀ W_, Kept w W_ (fun k_ => P0_ k_) → Kd.C (Kd.int .i64) W_ A4 l4.length l4) (hc4 : l4.length ≤ c4) (h : trace_rowbeside.f k l0 a1 l3 l4 = some r)
    (hb3 : w.heap[g3]? = some (.cells #[.slice A3 l3.length c3] 22 (0, 0)) := by refine pkB ?_; exact Aside0.out (by assumption))
    (hb4 : w.heap[g4]? = some (.cells #[.slice A4 l4.length c4] 22 (0, 0)) := by refine pkB ?_; exact Aside0.out (by assumption)) :
    Calls Try.prog 20 #[u9000_, .int .i64 a1, .func (.func 36) #[] #[.pointer (some ⟨g3, 0, none⟩), .pointer (some ⟨g4, 0, none⟩)]] w fun e w' => ∃ v0_ : Value, e = .returned (v0_) ∧ Kd.R (Kd.int .u8) 5 w' w0.heap.size (fun k_ => (P0_ k_ ∨ w.heap.size ≤ k_)) v0_ r ∧ Below w0.heap.size w0 w' ∧ Kept w w' (fun k_ => P0_ k_) := by
  unfold trace_rowbeside.f at h
  by_cases hz : 10 ≤ k ∧ l0.length + 10 * l3.length + 20 < 140737488355328
  case neg => rw [if_neg hz] at h; cases h
  rw [if_pos hz] at h
  obtain rfl := Option.some.inj h
  have hg3 : g3 < w.heap.size := blk_lt hb3
  have hg4 : g4 < w.heap.size := blk_lt hb4
  have ho1 : Kd.R (Kd.int .u8) 5 w w0.heap.size (fun k_ => P0_ k_ ∧ k_ < w.heap.size ∧ k_ ≠ g3 ∧ k_ ≠ g4) u9000_ l0 := by
    obtain ⟨Au, cu, rfl⟩ := Kd.R_slice ho0
    exact Kd.R_mono (Kd.R_bound (Kd.R_types (Kd.R_types ho0 hb3 (by decide)) hb4 (by decide))) (fun k_ hk => ⟨hk.1.1.1, hk.2.2.1, hk.1.1.2, hk.1.2⟩)
  have hlen : (besideOf l3 l4).length = l3.length := upto_length _ _
  have now : ∀ W_, Kpt w.heap.size (fun k_ => P0_ k_ ∧ k_ < w.heap.size ∧ k_ ≠ g3 ∧ k_ ≠ g4) w W_ → (W_.cell? ⟨g3, 0, none⟩ = some (.slice A3 l3.length c3) ∧ Kd.C (Kd.int .i64) W_ A3 l3.length l3) ∧ (W_.cell? ⟨g4, 0, none⟩ = some (.slice A4 l4.length c4) ∧ Kd.C (Kd.int .i64) W_ A4 l4.length l4) := fun W_ hk =>
    have hkk : Kept w W_ (fun k_ => P0_ k_) := ⟨hk.1, fun i hi hn => hk.2 i hi (fun hh => hn hh.1)⟩
    ⟨⟨(blk_cell ((hk.2 g3 hg3 (fun hh => hh.2.2.1 rfl)).trans hb3) 0).trans rfl, hr3 W_ hkk⟩, ⟨(blk_cell ((hk.2 g4 hg4 (fun hh => hh.2.2.2 rfl)).trans hb4) 0).trans rfl, hr4 W_ hkk⟩⟩
  refine (row_seq k hz.1 (fun k_ => P0_ k_ ∧ k_ < w.heap.size ∧ k_ ≠ g3 ∧ k_ ≠ g4) u9000_ l0 a1 (besideOf l3 l4) 36 #[.pointer (some ⟨g3, 0, none⟩), .pointer (some ⟨g4, 0, none⟩)] w0 w hB ho1 (fun i hi => hi.2.1) (by rw [hlen]; exact hz.2) (enters_of Try.func36 (by kernel_rfl) rfl) ?_).mono ?_
  · intro w1 hw1 l J Jx W hW hJ hJx hY h0
    have hW2 : Kpt w.heap.size (fun k_ => P0_ k_ ∧ k_ < w.heap.size ∧ k_ ≠ g3 ∧ k_ ≠ g4) w W := hw1.trans ⟨hW.size, fun i hi _ => hW.block i (Nat.lt_of_lt_of_le hi hw1.1)⟩
    rw [hlen] at hY
    exact beside1_in 2 (by decide) l g3 g4 A3 c3 l3 A4 c4 l4 _ (fun W => Kpt.refl _ _ W) Kpt.trans J Jx W (by omega) (fun W_ hk => (now W_ (hW2.trans hk)).1.1) (fun W_ hk => (now W_ (hW2.trans hk)).1.2) (fun W_ hk => (now W_ (hW2.trans hk)).2.1) (fun W_ hk => (now W_ (hW2.trans hk)).2.2) hY h0
  · rintro e w' ⟨v, rfl, hR, hb, hk⟩
    exact ⟨v, rfl, Kd.R_mono hR (fun k_ hk => hk.imp (fun h => h.1) (fun h => h)), hb, hk.mono (fun k_ h => h.1)⟩
end Go.Proofs.Ytiemdfdebdmchaa.P
