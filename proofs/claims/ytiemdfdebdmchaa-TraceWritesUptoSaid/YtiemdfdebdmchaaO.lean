/- My own words beside the print's: copy of whole numbers into a row of the call's own; a loop carried out once more; calls through a function value that is known. -/
import Derived.Test.YtiemdfdebdmchaaWMore
import Derived.Laws.CopyOwn
namespace Go.Proofs.YtiemdfdebdmchaaO
open Go Go.RowKit Go.Proofs.YtiemdfdebdmchaaW.PrintWords Go.Proofs.YtiemdfdebdmchaaW.PrintLast Go.Proofs.YtiemdfdebdmchaaW.PrintMore

/-- What copy leaves: the source's first numbers, and what the row held behind them. -/
def cpy (xs ys : List Int) : List Int := ys.take xs.length ++ xs.drop ys.length
theorem cpy_length (xs ys : List Int) : (cpy xs ys).length = xs.length := by unfold cpy; simp; omega
/-- copy(v, ys): v is a row of the call's own, of whole numbers. -/
theorem copy_event {k : IntKind} {P : Program} {ops : Array Oper} {rest : List Oper} {o : Oper} {a : Act} {Q : Exit → Act → World → Prop} {w0 W : World} {base : Nat} (hgd : o.guard = none) (ds ss : Operand) (dT sT e : TypeId) {z : Value} {bytes : Nat}
    (ho : o.op = .call { callee := .builtin .copy, args := #[ds, ss], argTypes := #[dT, sT] }) (hu : P.underlying dT = some (.slice e)) (hinfo : (P.info? e).map (fun i => (i.zero, i.size, i.bytes)) = some (some z, 1, bytes))
    (v : Value) (xs ys : List Int) (A : Option Addr) (m c : Nat) (ok : Nat → Prop) (hd : a.eval ds = v) (hs : a.eval ss = .slice A m c)
    (HO : (Kd.int k).R e W base ok v xs) (HR : (Kd.int k).C W A m ys) (HB : Below base w0 W)
    (h : ∀ w1, (Kd.int k).R e w1 base ok v (cpy xs ys) → Below base w0 w1 → W.grownBy w1 v.ownBlock → wpList P ops Q rest (a.put o.dst (goInt ((Nat.min ys.length xs.length : Nat) : Int))) w1) : wpList P ops Q (o :: rest) a W := by
  unfold cpy at h
  have hsz : (P.info? e).map (·.size) = some 1 := by
    obtain ⟨i, hi, hz⟩ := Option.map_eq_some_iff.1 hinfo
    simp only [Prod.mk.injEq] at hz
    rw [hi]
    simp [hz.2.1]
  have hrow := Kd.own_of_R (enc := Value.int k) (h1 := fun _ => rfl) HO
  have hok := HO.1
  have hm : ys.length = m := HR.1
  have hreads := Kd.reads_of_C (enc := Value.int k) (d := (0 : Int)) (h1 := fun _ => rfl) HR
  rcases hrow.2 with ⟨rfl, hn⟩ | ⟨g, cap, cur, rfl, hbg, hg, hnc, hcm, hcs, hct⟩
  · obtain rfl : xs = [] := List.eq_nil_of_length_eq_zero hn
    refine wpList_copy_nothing hgd ds ss dT sT ho e hu hsz none A 0 0 m c hd hs (by simp) ?_
    have := h W (by simpa using HO) HB (World.grownBy.refl W _)
    have e0 : Nat.min ys.length ([] : List Int).length = 0 := by simp
    rw [e0] at this
    exact this
  · by_cases hy : Nat.min ys.length xs.length = 0
    · refine wpList_copy_nothing hgd ds ss dT sT ho e hu hsz _ A _ cap m c hd hs (by rw [← hm]; exact hy) ?_
      have hl : ys.take xs.length ++ xs.drop ys.length = xs := by
        rcases Nat.eq_zero_or_pos ys.length with h0 | h0
        · obtain rfl : ys = [] := List.eq_nil_of_length_eq_zero h0
          simp
        · have h1 : xs.length = 0 := by
            have : Nat.min ys.length xs.length = min ys.length xs.length := rfl
            omega
          obtain rfl : xs = [] := List.eq_nil_of_length_eq_zero h1
          simp
      have := h W (by rw [hl]; exact HO) HB (World.grownBy.refl W _)
      rw [hy] at this
      exact this
    · have hmin : Nat.min ys.length xs.length ≤ ys.length ∧ Nat.min ys.length xs.length ≤ xs.length := ⟨Nat.min_le_left _ _, Nat.min_le_right _ _⟩
      obtain ⟨ad, rfl, hc⟩ := hreads.2.2 (by omega)
      let cs : List Value := (ys.take xs.length).map (Value.int k)
      have hcl : cs.length = Nat.min ys.length xs.length := by simp [cs]; exact Nat.min_comm _ _
      have hsrc : ∀ j v, cs[j]? = some v → W.cell? (ad.add j) = some v := by
        intro j v hj
        have hj' : j < cs.length := (List.getElem?_eq_some_iff.1 hj).1
        have := hc j (by omega)
        rw [this, ← hj]
        have hjy : j < ys.length := by omega
        have hjx : j < xs.length := by omega
        simp [cs, hjx, hjy, List.getD_eq_getElem?_getD]
      have hcurl : cur.toList.length = cap := by simpa using hcs
      have hfit : 0 + cs.length ≤ cur.size := by omega
      refine wpList_copy_own hgd ds ss dT sT ho e hu hsz g 0 xs.length cap ad m c hd hs cur e hg cs (by rw [hcl, hm]) hsrc hfit (by intro v hv; simp only [cs, List.mem_map] at hv; obtain ⟨x, _, rfl⟩ := hv; rfl) ?_
      have hgo : g < W.heap.size := (Array.getElem?_eq_some_iff.1 hg).1
      have := h (W.setRow g (cur.toList.take 0 ++ (cs ++ cur.toList.drop (0 + cs.length))).toArray) ?_ (below_setRow HB hbg _) ?_
      · rw [← hcl] at this; exact this
      · refine Kd.R_of_own ⟨by simp [encs], .inr ⟨g, cap, _, ?_, hbg, setRow_heap W g _ _ e _ hg, ?_, hcm, ?_, ?_⟩⟩ hok
        · have : (ys.take xs.length ++ xs.drop ys.length).length = xs.length := by simp; omega
          rw [this]
        · simp; omega
        · simp; omega
        · have hct' : cur.toList.take xs.length = encs (Value.int k) xs := by simpa using hct
          have hL : (ys.take xs.length ++ xs.drop ys.length).length = xs.length := by simp; omega
          rw [hL]
          simp only [List.take_zero, List.nil_append, Nat.zero_add, Nat.mul_one, encs, List.map_append]
          rw [List.take_append, hcl]
          have e1 : cs.take xs.length = cs := List.take_of_length_le (by omega)
          rw [e1]
          congr 1
          have e2 : (cur.toList.drop (Nat.min ys.length xs.length)).take (xs.length - Nat.min ys.length xs.length) = (cur.toList.take xs.length).drop (Nat.min ys.length xs.length) := by
            rw [List.drop_take]
          rw [e2, hct']
          unfold encs
          rw [List.map_drop]
          rcases Nat.le_total ys.length xs.length with h1 | h1
          · rw [show Nat.min ys.length xs.length = ys.length from Nat.min_eq_left h1]
          · rw [show Nat.min ys.length xs.length = xs.length from Nat.min_eq_right h1, List.drop_of_length_le (by simp), List.drop_of_length_le (by simpa using h1)]
      · exact ⟨rfl, rfl, rfl, by simp [World.setRow], fun q hq hne => setRow_other W g q _ (by rintro rfl; exact hne (by simp [Value.ownBlock]))⟩

/-- A loop that stands at the head of a round. -/
def Looped (P : Program) (c : Code) (Q : Exit → Act → World → Prop) (a : Act) (w : World) : Prop :=
  ∀ b k cs, ∃ e a' w', Q e a' w' ∧ Arrives P (lone (b.at a (.code c :: .inLoop c :: k)) cs w) b k cs e a' w'
theorem loop_looped {P : Program} {Q : Exit → Act → World → Prop} {a : Act} {w : World} {c : Code} (h : Looped P c Q a w) : (Code.loop c).wp P Q a w := by
  intro b k cs
  obtain ⟨e, a', w', hq, harr⟩ := h b k cs
  exact ⟨e, a', w', hq, .of_steps (.one step_loop) harr⟩
/-- One round is walked: what follows stands behind a letter. -/
theorem looped_round {P : Program} {Q : Exit → Act → World → Prop} {a : Act} {w : World} {c : Code} (h : ∀ K : Act → World → Prop, (∀ a' w', Looped P c Q a' w' → K a' w') → c.wp P (Exit.then K Q) a w) : Looped P c Q a w := by
  intro b k cs
  obtain ⟨e, a₁, w₁, hq, harr⟩ := h _ (fun _ _ h => h) b (.inLoop c :: k) cs
  cases e with
  | normal =>
    obtain ⟨e₂, a₂, w₂, hq₂, harr₂⟩ := hq b k cs
    exact ⟨e₂, a₂, w₂, hq₂, .of_steps (Steps.trans harr (.one step_inLoop)) harr₂⟩
  | exit id => exact ⟨_, a₁, w₁, hq, .pass (x := .inLoop c) rfl (fun _ _ => .inl (by simp)) harr⟩
  | goto l => exact ⟨_, a₁, w₁, hq, .pass (x := .inLoop c) rfl (fun _ _ => .inl (by simp)) harr⟩
  | ret => exact ⟨_, a₁, w₁, hq, .pass (x := .inLoop c) rfl (fun _ _ => .inl (by simp)) harr⟩
  | panic ch => exact ⟨_, a₁, w₁, hq, .pass (x := .inLoop c) rfl (fun _ _ => .inl (by simp)) harr⟩
  | outgrown => exact ⟨_, a₁, w₁, hq, .pass (x := .inLoop c) rfl (fun _ _ => .inl (by simp)) harr⟩
/-- A call through a function value that is known. -/
theorem goesV_ {P : Program} {ops : Array Oper} {Q : Exit → Act → World → Prop} {oi : Oper} {N : Option Tmp} {a : Act} {w : World} {K : Act → World → Prop} {f : FuncId} {fn : Func} {as : Array Operand} {ts : Array TypeId} (c : Operand) (first cap : Array Value) (hf : P.funcs[f]? = some fn) (hname : (fn.name == "runtime.NumGoroutine") = false) (hb : fn.body.isSome = true) (args : Array Value)
    (hw : Region.wanted oi (yielded ops a.tmps) = true) (hN : oi.dst = N) (hop : oi.op = .call { callee := .value c, args := as, argTypes := ts }) (hc : a.eval c = .func (.func f) first cap) (hargs : first ++ as.map a.eval ++ cap = args)
    (h : Calls P f args w fun e w' => ∃ v, e = .returned v ∧ K (a.put N v) w') : if Region.wanted oi (yielded ops a.tmps) = true then Oper.wp P oi a w K Q else K (a.put N undef) w := by
  refine call_ f args hw hN ?_ h
  have he := enters_ hf hname hb args w
  unfold execOp
  simp only [hop, resolve, hc, Deferred.ofValue, invoke]
  subst hargs
  simpa using he
/-- What a block holds, at a world that stands some plain steps behind. -/
theorem pk {w0 w : World} {g : Nat} {o : Obj} (h0 : w0.heap[g]? = some o) (h : w0.heap[g]? = some o → w.heap[g]? = some o := by (intro hq_; (with_reducible repeat (first | refine blk_drewN ?_ _ | refine blk_drew ?_ | refine blk_alloc ?_ _)); exact hq_)) : w.heap[g]? = some o := h h0
theorem bbw {w0 w w1 : World} {g : Nat} {o : Obj} (h0 : Aside0 (w0.heap[g]? = some o)) (hb : Below w.heap.size w w1) (h : w0.heap[g]? = some o → w.heap[g]? = some o := by (intro hq_; (with_reducible repeat (first | refine blk_drewN ?_ _ | refine blk_drew ?_ | refine blk_alloc ?_ _)); exact hq_)) : Aside0 (w1.heap[g]? = some o) := ⟨blk_below (h h0.out) hb⟩
/-- A table in memory, read at any place. -/
theorem box_at {w : World} {g : Nat} {t : TypeId} {l : List Int} (h : w.heap[g]? = some (.cells (l.map (Value.int .i64)).toArray t (0, 0))) (i : Int) (h0 : 0 ≤ i) (h1 : i < (l.length : Int)) : w.cell? ((⟨g, 0, none⟩ : Addr).add i.toNat) = some (.int .i64 (rd l i)) := by
  rw [add_plain, blk_cell h, List.getElem?_toArray, List.getElem?_map, List.getElem?_eq_getElem (by omega)]
  unfold rd
  rw [List.getD_eq_getElem?_getD, List.getElem?_eq_getElem (by omega)]
  rfl
theorem box_at2 {w : World} {g : Nat} {t : TypeId} {l : List Int} (h : w.heap[g]? = some (.cells (l.map (Value.int .i64)).toArray t (0, 0))) (i : Int) (h0 : 0 ≤ i) (h1 : i < (l.length : Int)) : w.cell? ⟨g, i.toNat, none⟩ = some (.int .i64 (rd l i)) := by
  rw [← add_plain]; exact box_at h i h0 h1
end Go.Proofs.YtiemdfdebdmchaaO
