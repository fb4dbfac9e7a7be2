/-
  Laws of single operations for the walk of 'desk.Defaults' and 'wherrylaw2.DefaultsAre': an operation whose run is known, a struct that is built, stored and loaded whole. No condition; nothing here is about the statement itself.
-/
import Derived.Test.YtjclpbgndnagiaaRows
import Derived.WalkKit
import Derived.ProofKit
import Derived.OpenShut
import Derived.Deep.WholeRow
import Derived.OrdersHeld
namespace Go.Proofs.Ytjclpbgndnagiaa.own

section
variable {P : Program} {ops : Array Oper} {Q : Exit → Act → World → Prop} {a a' : Act} {w w' : World} {rest : List Oper} {o : Oper} {K : Act → World → Prop}

/-- An operation whose run yields a value. -/
theorem wp_value (v : Value) (hr : (execOp a.eval o).run P w = .ok (.value v) w') (ha : a.put o.dst v = a') (h : K a' w') : o.wp P a w K Q := by
  subst ha
  unfold Oper.wp
  rw [hr]
  exact h

/-- An operation whose run yields nothing, and that names no slot. -/
theorem wp_none (hd : o.dst = none) (hr : (execOp a.eval o).run P w = .ok .skip w') (h : K a w') : o.wp P a w K Q := by
  unfold Oper.wp
  rw [hr, Oper.upon_skip]
  rw [hd]
  exact h

theorem list_value (hg : o.guard = none) (v : Value) (hr : (execOp a.eval o).run P w = .ok (.value v) w') (ha : a.put o.dst v = a')
    (h : wpList P ops Q rest a' w') : wpList P ops Q (o :: rest) a w :=
  wpList_plain hg fun _ hK => wp_value v hr ha (hK _ _ h)

theorem list_none (hg : o.guard = none) (hd : o.dst = none) (hr : (execOp a.eval o).run P w = .ok .skip w')
    (h : wpList P ops Q rest a w') : wpList P ops Q (o :: rest) a w :=
  wpList_plain hg fun _ hK => wp_none hd hr (hK _ _ h)
end

section
variable {P : Program} {w : World} {ρ : Operand → Value} {o : Oper}

/-- A struct that is built of parts. -/
theorem run_built (t : TypeId) (parts : Array (Nat × Operand)) (ho : o.op = .build t parts) (ps : List (Nat × Value)) (hp : (parts.map fun (i, x) => (i, ρ x)).toList = ps)
    (cells : Array Value) (hc : P.built t ps = some cells) : (execOp ρ o).run P w = .ok (.value (.agg cells)) w := by
  subst hp
  unfold execOp
  rw [ho]
  simp only [Sem.run_bind, run_build w t _ cells hc, Result.andThen_ok]
  rfl

/-- A struct that is loaded whole. -/
theorem run_loaded (t : TypeId) (x : Operand) (ho : o.op = .load t x) (g : Nat) (hx : ρ x = .pointer (some ⟨g, 0, none⟩)) (u : TypeId) (cs : Array Value) (d : TypeDesc)
    (hg : w.heap[g]? = some (.cells cs u (0, 0))) (hu : P.underlying t = some d) (hd : (match d with | .struct _ | .array _ _ => true | _ => false) = true)
    (hi : (P.info? t).map (·.size) = some cs.size) : (execOp ρ o).run P w = .ok (.value (.agg cs)) w := by
  unfold execOp
  rw [ho]
  simp only [hx, Instr.loadAt, Instr.sureAddr, Sem.run_bind, Sem.run_pure, Result.andThen_ok, run_loadVar_row w g u t cs (0, 0) d hg hu hd hi]

/-- A struct that is loaded out of a greater block. -/
theorem run_loaded_part (t : TypeId) (x : Operand) (ho : o.op = .load t x) (g off : Nat) (hx : ρ x = .pointer (some ⟨g, off, none⟩)) (u : TypeId) (big cs : Array Value) (d : TypeDesc)
    (hg : w.heap[g]? = some (.cells big u (0, 0))) (hc : ∀ j v, cs.toList[j]? = some v → big[off + j]? = some v) (hu : P.underlying t = some d)
    (hd : (match d with | .struct _ | .array _ _ => true | _ => false) = true)
    (hi : (P.info? t).map (·.size) = some cs.size) : (execOp ρ o).run P w = .ok (.value (.agg cs)) w := by
  obtain ⟨i, hq, hs⟩ : ∃ i, P.info? t = some i ∧ i.size = cs.size := by simpa using hi
  have hcell : ∀ j v, cs.toList[j]? = some v → w.cell? ((⟨g, off, none⟩ : Addr).add j) = some v := fun j v h => by
    have e : (⟨g, off, none⟩ : Addr).add j = ⟨g, off + j, none⟩ := by
      cases j with
      | zero => rfl
      | succ j => rfl
    rw [e, cell_of_row w g (off + j) big u (0, 0) hg]
    exact hc j v h
  have hagg : (isAgg t).run P w = .ok true w := by
    cases d <;> first | (cases hd; done) | simp [isAgg, run_underlying hu w]
  have hcells : (loadCells ⟨g, off, none⟩ cs.size).run P w = .ok cs w := run_loadCells_list (P := P) w ⟨g, off, none⟩ cs.toList hcell
  have hv : (loadVar t ⟨g, off, none⟩).run P w = .ok (.agg cs) w := by
    simp [loadVar, hagg, sizeOf, typeInfo, hq, hs, hcells]
  unfold execOp
  rw [ho]
  simp only [hx, Instr.loadAt, Instr.sureAddr, Sem.run_bind, Sem.run_pure, Result.andThen_ok, hv]

/-- A struct that is stored whole. -/
theorem run_stored (t : TypeId) (x y : Operand) (ho : o.op = .store t x y) (g : Nat) (hx : ρ x = .pointer (some ⟨g, 0, none⟩)) (cs : Array Value) (hy : ρ y = .agg cs)
    (u : TypeId) (old : Array Value) (hg : w.heap[g]? = some (.cells old u (0, 0))) (hi : (P.info? t).map (·.size) = some cs.size) (hs : old.size = cs.size)
    (h1 : cs.all (·.oneCell') = true) : (execOp ρ o).run P w = .ok .skip (w.setRow g cs) := by
  unfold execOp
  rw [ho]
  simp only [hx, hy, Instr.storeAt, Instr.sureAddr, Sem.run_bind, Sem.run_pure, Result.andThen_ok, run_storeVar_row w g u t old cs hg hi hs h1]

/-- A new variable. -/
theorem run_allocated (t : TypeId) (ho : o.op = .alloc t) (z : Array Value)
    (hz : (Instr.alloc t true (.tuple #[])).run P w = .ok (.pointer (some ⟨w.heap.size, 0, none⟩)) (w.alloc (.cells z t))) :
    (execOp ρ o).run P w = .ok (.value (.pointer (some ⟨w.heap.size, 0, none⟩))) (w.alloc (.cells z t)) := by
  unfold execOp
  rw [ho]
  simp only [Sem.run_bind, hz, Result.andThen_ok]
  rfl

/-- A field's address. -/
theorem run_field (t : TypeId) (f : Nat) (x : Operand) (ho : o.op = .fieldAddr t x f) (p : Value) (hx : ρ x = p) (q : Value)
    (h : (Instr.fieldAt t p f).run P w = .ok q w) : (execOp ρ o).run P w = .ok (.value q) w := by
  subst hx
  unfold execOp
  rw [ho]
  simp only [Sem.run_bind, h, Result.andThen_ok]
  rfl

/-- A slice that is built of parts. -/
theorem run_sliced (t : TypeId) (n : Nat) (parts : Array (Nat × Operand)) (ho : o.op = .buildSlice t n parts) (ps : Array (Nat × Value)) (hp : (parts.map fun (i, x) => (i, ρ x)) = ps)
    (v : Value) (w' : World) (h : (Instr.buildSlice t n ps).run P w = .ok v w') : (execOp ρ o).run P w = .ok (.value v) w' := by
  subst hp
  unfold execOp
  rw [ho]
  simp only [Sem.run_bind, h, Result.andThen_ok]
  rfl
end

/-! ### Worlds -/
theorem setRow_alloc_past (w : World) (o : Obj) (g : Nat) (cs : Array Value) (h : g < w.heap.size) : (w.alloc o).setRow g cs = (w.setRow g cs).alloc o := by
  simp only [World.setRow, World.alloc]
  congr 1
  apply Array.ext_getElem?
  intro i
  rw [Array.getElem?_modify]
  simp only [Array.getElem?_push, Array.getElem?_modify, Array.size_modify]
  by_cases h1 : i = w.heap.size
  · subst h1
    simp [show ¬ g = w.heap.size by omega]
  · simp [h1]

theorem frozen_setRow (w : World) (g : Nat) (cs : Array Value) (a : Addr) : (w.setRow g cs).frozen? a = w.frozen? a := by
  by_cases h : a.block = g
  · unfold World.frozen? World.setRow
    rw [Array.getElem?_modify, if_pos h.symm, h]
    cases w.heap[g]? with
    | none => rfl
    | some o => cases o <;> rfl
  · unfold World.frozen?
    rw [setRow_other w g a.block cs h]

theorem grown_setRow {W w : World} (h : RowKit.Grown W w) {g : Nat} (hg : W.heap.size ≤ g) (cs : Array Value) : RowKit.Grown W (w.setRow g cs) := by
  obtain ⟨⟨h1, h2, h3⟩, hf, hs⟩ := h
  refine ⟨⟨h1, h2, fun i hi => ?_⟩, fun x => (frozen_setRow _ _ _ _).trans (hf x), by rw [setRow_size]; exact hs⟩
  rw [setRow_other w g i cs (by omega)]
  exact h3 i hi

/-- A part of a greater block, cell by cell, out of the one equation on the part. -/
theorem part_of {big cs : Array Value} {off : Nat} (h : big.extract off (off + cs.size) = cs) : ∀ j v, cs.toList[j]? = some v → big[off + j]? = some v := by
  intro j v hv
  have hv' : (big.extract off (off + cs.size))[j]? = some v := by rw [h]; simpa using hv
  rw [Array.getElem?_extract] at hv'
  split at hv'
  · exact hv'
  · cases hv'

/-! ### A region that draws its order, under a condition on the world -/
section
variable {P : Program} {ops : Array Oper} {Q : Exit → Act → World → Prop} {md : Region.Mode} {S : World → Prop} {K : Act → World → Prop}

theorem op_value {i : Nat} {o : Oper} {a a' : Act} {w w' : World} (ho : ops[i]? = some o) (hg : o.guard = none) (v : Value) (hr : (execOp a.eval o).run P w = .ok (.value v) w')
    (ha : a.put o.dst v = a') (h : K a' w') : wpOp P ops Q i K a w := by
  unfold wpOp
  simp only [ho]
  rw [if_pos (by simp [Region.wanted, hg])]
  exact .inl (wp_value v hr ha h)

theorem op_none {i : Nat} {o : Oper} {a : Act} {w w' : World} (ho : ops[i]? = some o) (hg : o.guard = none) (hd : o.dst = none) (hr : (execOp a.eval o).run P w = .ok .skip w')
    (h : K a w') : wpOp P ops Q i K a w := by
  unfold wpOp
  simp only [ho]
  rw [if_pos (by simp [Region.wanted, hg])]
  exact .inl (wp_none hd hr h)

theorem take_first {i : Nat} {oi : Oper} {v : Value} {fuel : Nat} {listed : Array Bool} {a a' : Act} {w : World} (hi : ops[i]? = some oi)
    (hs : Region.noSelect ops = true) (hf : Region.free md ops listed i = true) (hr : (Region.ready md ops listed).contains i = true)
    (hQ : ∀ c a w, Q (.panic c) (a.put oi.dst v) w → Q (.panic c) a w) (hg : oi.guard = none) (hv : ∀ w, S w → (execOp a.eval oi).run P w = .ok (.value v) w) (hS : S w)
    (ha : a.put oi.dst v = a') (h : wpAnyH P md ops Q S fuel (listed.setIfInBounds i true) a' w) : wpAnyH P md ops Q S (fuel + 1) listed a w :=
  wpAnyH_take hi hs hf hr hQ (Or.inl ⟨by simp [Region.wanted, hg], hv⟩) hS (by rw [ha]; exact h)
end

end Go.Proofs.Ytjclpbgndnagiaa.own
