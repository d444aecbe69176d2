/- What the law's proof needs of F11. -/
import Derived.Test.YtllfopbchdahoaaTrFF3
import Derived.Test.YtllfopbchdahoaaTrFM6
namespace Go.Proofs.Ytllfopbchdahoaa.P
open Go.RowKit Go.Proofs.YtllfopbchdahoaaW.PrintWords Go.Proofs.YtllfopbchdahoaaW.PrintLast Go.Proofs.YtllfopbchdahoaaW.PrintMore Go.Proofs.YtllfopbchdahoaaO
set_option linter.unusedVariables false
set_option linter.unusedSimpArgs false
def v5 (s : S23) : M.L5 := ⟨s.f0, s.f1, s.f2, s.f3, s.f4⟩
def s5 (l : M.L5) : S23 := ⟨l.x, l.s, l.y, l.t, l.c⟩
def r5 (r : M.L5 × Bool) : S23 × Bool := (s5 r.1, r.2)
def addS (a b : S23) : S23 × Bool := r5 (M.add5 (v5 a) (v5 b))
def subS (a b : S23) : S23 × Bool := r5 (M.subr (v5 a) (v5 b))
def negS (a : S23) : S23 × Bool := r5 (M.negr (v5 a))
def numS (c : Int) : S23 × Bool := r5 (M.told [] c)
abbrev c5 (a : S23) : Value := .agg #[.int .i64 a.f0, .int .i64 a.f1, .int .i64 a.f2, .int .i64 a.f3, .int .i64 a.f4]
abbrev Ret5 (r : S23 × Bool) (w : World) (e : Ending) (w' : World) : Prop := e = .returned (.tuple #[.agg #[.int .i64 r.1.f0, .int .i64 r.1.f1, .int .i64 r.1.f2, .int .i64 r.1.f3, .int .i64 r.1.f4], .bool r.2]) ∧ Below w.heap.size w w'
theorem refAdd_c (a b : S23) (r : S23 × Bool) (h : addS a b = r) (w : World) : Calls Try.prog 14 #[.agg #[.int .i64 a.f0, .int .i64 a.f1, .int .i64 a.f2, .int .i64 a.f3, .int .i64 a.f4], .agg #[.int .i64 b.f0, .int .i64 b.f1, .int .i64 b.f2, .int .i64 b.f3, .int .i64 b.f4]] w (Ret5 r w) := by
  subst h
  obtain ⟨k, hk⟩ := (M.refadd_eq (v5 a) (v5 b)).is
  exact gimbalref14_Add.calls k _ _ _ _ _ _ _ _ _ _ _ _ _ _ _ _ w hk
theorem refSub_c (a b : S23) (r : S23 × Bool) (h : subS a b = r) (w : World) : Calls Try.prog 15 #[.agg #[.int .i64 a.f0, .int .i64 a.f1, .int .i64 a.f2, .int .i64 a.f3, .int .i64 a.f4], .agg #[.int .i64 b.f0, .int .i64 b.f1, .int .i64 b.f2, .int .i64 b.f3, .int .i64 b.f4]] w (Ret5 r w) := by
  subst h
  obtain ⟨k, hk⟩ := (M.refsub_eq (v5 a) (v5 b)).is
  exact gimbalref14_Sub.calls k _ _ _ _ _ _ _ _ _ _ _ _ _ _ _ _ w hk
theorem refNeg_c (a : S23) (r : S23 × Bool) (h : negS a = r) (w : World) : Calls Try.prog 16 #[.agg #[.int .i64 a.f0, .int .i64 a.f1, .int .i64 a.f2, .int .i64 a.f3, .int .i64 a.f4]] w (Ret5 r w) := by
  subst h
  obtain ⟨k, hk⟩ := (M.refneg_eq (v5 a)).is
  exact gimbalref14_Neg.calls k _ _ _ _ _ _ _ _ _ _ _ w hk
theorem told_c (c : Int) (r : S23 × Bool) (h : numS c = r) (w : World) : Calls Try.prog 29 #[.slice none 0 0, .int .i64 c] w (Ret5 r w) := by
  subst h
  obtain ⟨k, hk⟩ := (M.told_ev [] c (by decide)).is
  exact gimbalref14_told.calls k none 0 [] c _ _ _ _ _ _ w (Kd.R_reads' (Kd.R_nil k56 56 w 0 (fun _ => True))).2.2 (Nat.le_refl _) hk
theorem add_c (a b : S23) (r : S23 × Bool) (h : addS a b = r) (w : World) : Calls Try.prog 11 #[.agg #[.int .i64 a.f0, .int .i64 a.f1, .int .i64 a.f2, .int .i64 a.f3, .int .i64 a.f4], .agg #[.int .i64 b.f0, .int .i64 b.f1, .int .i64 b.f2, .int .i64 b.f3, .int .i64 b.f4]] w (Ret5 r w) := by
  subst h
  obtain ⟨k, hk⟩ := (M.add_eq (v5 a) (v5 b)).is
  exact linear_Add.calls k _ _ _ _ _ _ _ _ _ _ _ _ _ _ _ _ w hk
theorem sub_c (a b : S23) (r : S23 × Bool) (h : subS a b = r) (w : World) : Calls Try.prog 12 #[.agg #[.int .i64 a.f0, .int .i64 a.f1, .int .i64 a.f2, .int .i64 a.f3, .int .i64 a.f4], .agg #[.int .i64 b.f0, .int .i64 b.f1, .int .i64 b.f2, .int .i64 b.f3, .int .i64 b.f4]] w (Ret5 r w) := by
  subst h
  obtain ⟨k, hk⟩ := (M.sub_eq (v5 a) (v5 b)).is
  exact linear_Sub.calls k _ _ _ _ _ _ _ _ _ _ _ _ _ _ _ _ w hk
theorem neg_c (a : S23) (r : S23 × Bool) (h : negS a = r) (w : World) : Calls Try.prog 13 #[.agg #[.int .i64 a.f0, .int .i64 a.f1, .int .i64 a.f2, .int .i64 a.f3, .int .i64 a.f4]] w (Ret5 r w) := by
  subst h
  obtain ⟨k, hk⟩ := (M.neg_eq (v5 a)).is
  exact linear_Neg.calls k _ _ _ _ _ _ _ _ _ _ _ w hk
/-- A form that is 0, 1 or -1. -/
def fac (l : S23) (ok : Bool) : Prop := ok = true ∧ l.f1 = 0 ∧ -1 ≤ l.f4 ∧ l.f4 ≤ 1
instance (l : S23) (ok : Bool) : Decidable (fac l ok) := by unfold fac; infer_instance
def mulK (lk lx : S23) (okx : Bool) : S23 × Bool := if lk.f4 = 0 then (z23, true) else if okx = false then (z23, false) else if lk.f4 = 1 then (lx, true) else negS lx
/-- What an instruction gives, of what two registers have. -/
def ofV (op num : Int) (la : S23) (oa : Bool) (lb : S23) (ob : Bool) : S23 × Bool :=
  if op = 1 then numS num
  else if op = 2 then (if oa = true then negS la else (z23, false))
  else if op = 6 then (if fac la oa then mulK la lb ob else if fac lb ob then mulK lb la oa else (z23, false))
  else if op = 4 then (if oa = true ∧ ob = true then addS la lb else (z23, false))
  else if op = 5 then (if oa = true ∧ ob = true then subS la lb else (z23, false))
  else (z23, false)
end Go.Proofs.Ytllfopbchdahoaa.P
