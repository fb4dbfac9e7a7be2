/-
  The contract of 'desk.Defaults': whatever the world, it hands back the options' 36 cells and leaves two new blocks behind. No condition.
-/
import Derived.Test.YtjclpbgndnagiaaOwn
namespace Go.Proofs.Ytjclpbgndnagiaa.own

def c24 : Array Value := #[.slice none 0 0, .int .i64 0, .int .i64 (-1), .int .i64 0, .int .i64 (-1), .int .i64 0]
def c28 : Array Value := #[.int .i64 1000, .int .i64 60000, .int .i64 2, .int .i64 0, .int .i64 3]
def c26 : Array Value := #[.int .i64 1, .int .i64 1, .slice none 0 0, .int .i64 0, .int .i64 (-1), .int .i64 0, .int .i64 (-1), .int .i64 0,
  .bool false, .bool false, .string ⟨#[]⟩, .bool false, .bool false, .bool false, .int .i64 (-1)]
def c36 : Array Value := #[.int .i64 0, .int .i64 (-1)]
def c31 (b : Nat) : Array Value := #[.int .i64 1, .int .i64 0, .int .i64 65536, .int .i64 0, .int .i64 0, .int .i64 1, .int .i64 0, .int .i64 0,
  .int .i64 1000, .int .i64 60000, .int .i64 2, .int .i64 0, .int .i64 3, .slice (some ⟨b, 0, none⟩) 1 1, .int .i64 1048576]
def c33 (b : Nat) : Array Value := #[.int .i64 1, .int .i64 1, .slice none 0 0, .int .i64 0, .int .i64 (-1), .int .i64 0, .int .i64 (-1), .int .i64 0,
  .bool false, .bool false, .string ⟨#[]⟩, .bool false, .bool false, .bool false, .int .i64 (-1),
  .int .i64 3,
  .int .i64 1, .int .i64 0, .int .i64 65536, .int .i64 0, .int .i64 0, .int .i64 1, .int .i64 0, .int .i64 0,
  .int .i64 1000, .int .i64 60000, .int .i64 2, .int .i64 0, .int .i64 3, .slice (some ⟨b, 0, none⟩) 1 1, .int .i64 1048576,
  .bool false, .bool false, .int .i64 0, .int .i64 50, .int .i64 1]
/-- The zero values of the options, of a plan's options, of a haul's. -/
def z26 : Array Value := #[.int .i64 0, .int .i64 0, .slice none 0 0, .int .i64 0, .int .i64 0, .int .i64 0, .int .i64 0, .int .i64 0,
  .bool false, .bool false, .string ⟨#[]⟩, .bool false, .bool false, .bool false, .int .i64 0]
def z31 : Array Value := #[.int .i64 0, .int .i64 0, .int .i64 0, .int .i64 0, .int .i64 0, .int .i64 0, .int .i64 0, .int .i64 0,
  .int .i64 0, .int .i64 0, .int .i64 0, .int .i64 0, .int .i64 0, .slice none 0 0, .int .i64 0]
def z33 : Array Value := z26 ++ #[.int .i64 0] ++ z31 ++ #[.bool false, .bool false, .int .i64 0, .int .i64 0, .int .i64 0]

theorem built24 : Try.prog.built 24 [(2, .int .i64 (-1)), (4, .int .i64 (-1))] = some c24 := by kernel_rfl
theorem built26 : Try.prog.built 26 [(0, .int .i64 1), (1, .int .i64 1), (2, .agg c24), (9, .int .i64 (-1))] = some c26 := by kernel_rfl
theorem built28 : Try.prog.built 28 [(0, .int .i64 1000), (1, .int .i64 60000), (2, .int .i64 2), (4, .int .i64 3)] = some c28 := by kernel_rfl
theorem built36 : Try.prog.built 36 [(1, .int .i64 (-1))] = some c36 := by kernel_rfl
theorem built31 (b : Nat) : Try.prog.built 31 [(0, .int .i64 1), (2, .int .i64 65536), (5, .int .i64 1), (8, .agg c28), (9, .slice (some ⟨b, 0, none⟩) 1 1), (10, .int .i64 1048576)] = some (c31 b) := by kernel_rfl
theorem built33 (b : Nat) : Try.prog.built 33 [(0, .agg c26), (1, .int .i64 3), (2, .agg (c31 b)), (6, .int .i64 50), (7, .int .i64 1)] = some (c33 b) := by kernel_rfl
theorem size36 : (Try.prog.info? 36).map (·.size) = some 2 := by kernel_rfl
theorem size33 : (Try.prog.info? 33).map (·.size) = some 36 := by kernel_rfl
theorem size31 : (Try.prog.info? 31).map (·.size) = some 15 := by kernel_rfl
theorem size26 : (Try.prog.info? 26).map (·.size) = some 15 := by kernel_rfl
theorem size28 : (Try.prog.info? 28).map (·.size) = some 5 := by kernel_rfl

theorem one33 (b : Nat) : (c33 b).all (·.oneCell') = true := by kernel_rfl
theorem one31 (b : Nat) : (c31 b).all (·.oneCell') = true := by kernel_rfl
theorem one26 : c26.all (·.oneCell') = true := by kernel_rfl

theorem alloc33 (w : World) : (Instr.alloc 33 true (.tuple #[])).run Try.prog w = .ok (.pointer (some ⟨w.heap.size, 0, none⟩)) (w.alloc (.cells z33 33)) := by kernel_rfl
theorem alloc26 (w : World) : (Instr.alloc 26 true (.tuple #[])).run Try.prog w = .ok (.pointer (some ⟨w.heap.size, 0, none⟩)) (w.alloc (.cells z26 26)) := by kernel_rfl
theorem alloc31 (w : World) : (Instr.alloc 31 true (.tuple #[])).run Try.prog w = .ok (.pointer (some ⟨w.heap.size, 0, none⟩)) (w.alloc (.cells z31 31)) := by kernel_rfl
theorem row29 (w : World) : (Instr.buildSlice 29 1 #[(0, .agg c36)]).run Try.prog w = .ok (.slice (some ⟨w.heap.size, 0, none⟩) 1 1) (w.alloc (.cells c36 36)) := by kernel_rfl



/-- The world behind 'desk.Defaults': the variable of its result, and the one rate's row. -/
def left (w : World) : World := (w.alloc (.cells (c33 (w.heap.size + 1)) 33)).alloc (.cells c36 36)

/-- The frame of 'desk.Defaults'. -/
def fr (v0 v1 v2 v3 v4 v5 v6 v7 : Value) : Act := ⟨#[v0, v1, v2, v3, v4, v5, v6, v7], []⟩

theorem callee (w : World) : Calls Try.prog 4 #[] w fun e w' => e = .returned (.agg (c33 (w.heap.size + 1))) ∧ w' = left w := by
  go_enter Try.func4, Try.ntmps4
  apply wp_seq_k; intro K hK
  apply wp_region_lit
  refine list_value (a' := fr (.pointer (some ⟨w.heap.size, 0, none⟩)) undef undef undef undef undef undef undef) rfl _ (run_allocated 33 rfl _ (alloc33 w)) (by rfl) ?_
  apply wpList_nil
  apply hK
  clear hK K
  apply wp_seq_k; intro K hK
  apply wp_region_lit
  have hsz : (w.alloc (.cells z33 33)).heap.size = w.heap.size + 1 := World.size_alloc _ _
  refine list_value (a' := fr (.pointer (some ⟨w.heap.size, 0, none⟩)) (.agg c24) undef undef undef undef undef undef) rfl _ (run_built 24 _ rfl _ (by kernel_rfl) _ built24) (by rfl) ?_
  refine list_value (a' := fr (.pointer (some ⟨w.heap.size, 0, none⟩)) (.agg c24) (.agg c26) undef undef undef undef undef) rfl _ (run_built 26 _ rfl _ (by kernel_rfl) _ built26) (by rfl) ?_
  refine list_value (a' := fr (.pointer (some ⟨w.heap.size, 0, none⟩)) (.agg c24) (.agg c26) (.agg c28) undef undef undef undef) rfl _ (run_built 28 _ rfl _ (by kernel_rfl) _ built28) (by rfl) ?_
  refine list_value (a' := fr (.pointer (some ⟨w.heap.size, 0, none⟩)) (.agg c24) (.agg c26) (.agg c28) (.agg c36) undef undef undef) rfl _ (run_built 36 _ rfl _ (by kernel_rfl) _ built36) (by rfl) ?_
  refine list_value (a' := fr (.pointer (some ⟨w.heap.size, 0, none⟩)) (.agg c24) (.agg c26) (.agg c28) (.agg c36) (.slice (some ⟨w.heap.size + 1, 0, none⟩) 1 1) undef undef) rfl _
    (run_sliced 29 1 _ rfl #[(0, .agg c36)] (by kernel_rfl) _ _ (hsz ▸ row29 (w.alloc (.cells z33 33)))) (by rfl) ?_
  refine list_value (a' := fr (.pointer (some ⟨w.heap.size, 0, none⟩)) (.agg c24) (.agg c26) (.agg c28) (.agg c36) (.slice (some ⟨w.heap.size + 1, 0, none⟩) 1 1) (.agg (c31 (w.heap.size + 1))) undef) rfl _
    (run_built 31 _ rfl _ (by kernel_rfl) _ (built31 _)) (by rfl) ?_
  refine list_value (a' := fr (.pointer (some ⟨w.heap.size, 0, none⟩)) (.agg c24) (.agg c26) (.agg c28) (.agg c36) (.slice (some ⟨w.heap.size + 1, 0, none⟩) 1 1) (.agg (c31 (w.heap.size + 1))) (.agg (c33 (w.heap.size + 1)))) rfl _
    (run_built 33 _ rfl _ (by kernel_rfl) _ (built33 _)) (by rfl) ?_
  refine list_none rfl rfl (run_stored 33 _ _ rfl w.heap.size rfl (c33 (w.heap.size + 1)) rfl 33 z33 (heap_alloc2_old w _ _) size33 rfl (one33 _)) ?_
  rw [setRow_alloc_past _ _ _ _ (by rw [hsz]; omega), World.setRow_alloc_new]
  apply wpList_nil
  apply hK
  clear hK K
  apply wp_ret
  exact bodyPost_ret (results_cell_row rfl _ _ w.heap.size 33 (c33 (w.heap.size + 1)) (0, 0) _ rfl (heap_alloc2_old w _ _) Try.underlying33 rfl size33) rfl ⟨rfl, rfl⟩

end Go.Proofs.Ytjclpbgndnagiaa.own
