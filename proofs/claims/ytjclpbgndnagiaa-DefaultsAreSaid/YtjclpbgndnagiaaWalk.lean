/-
  The walk of 'wherrylaw2.DefaultsAre': whatever the world, the call ends and returns true, and of what was there nothing turns. No condition.
  The statement that parts the options in two draws its order: its loads are taken first (nothing in it writes the options' block), the two new variables are laid in either order. The last statement is walked over a world of which only the cells that it reads are known.
-/
import Derived.Test.YtjclpbgndnagiaaCallee
import Derived.BigRegion
namespace Go.Proofs.Ytjclpbgndnagiaa.own
open Go.RowKit (Grown)

/-- What the callee leaves, its worlds not looked into. -/
def Made (w : World) (b : Nat) (w' : World) : Prop := w'.heap[b]? = some (.cells c36 36 (0, 0)) ∧ Grown w w'

theorem callee' (w : World) : Calls Try.prog 4 #[] w fun e w' => ∃ b, e = .returned (.agg (c33 b)) ∧ Made w b w' :=
  (callee w).mono fun _ _ ⟨he, hw⟩ => ⟨_, he, by
    subst hw
    exact ⟨heap_alloc2_new _ _ _, Grown.alloc (Grown.alloc (Grown.refl _) _ _) _ _⟩⟩

/-- The law's frame: what its first eight slots hold, the others not yet. -/
def frame (v1 v2 v3 v4 v5 v6 v7 v8 : Value) : Act := ⟨#[.bool false, v1, v2, v3, v4, v5, v6, v7, v8, undef, undef, undef, undef, undef, undef, undef, undef, undef, undef, undef, undef, undef, undef, undef, undef, undef, undef, undef, undef, undef, undef, undef, undef, undef, undef, undef, undef, undef, undef, undef, undef, undef, undef, undef, undef, undef, undef, undef, undef, undef, undef, undef, undef, undef, undef, undef, undef, undef, undef, undef, undef, undef, undef, undef, undef, undef, undef, undef, undef, undef, undef, undef, undef, undef, undef, undef, undef, undef, undef, undef, undef, undef, undef, undef, undef, undef, undef, undef, undef, undef, undef, undef, undef, undef, undef, undef, undef, undef, undef, undef, undef, undef, undef, undef, undef, undef, undef, undef, undef, undef, undef, undef, undef, undef, undef, undef, undef, undef, undef, undef, undef, undef, undef, undef, undef, undef, undef, undef, undef, undef, undef, undef, undef, undef, undef, undef], []⟩

/-- The world ahead of the law's last statement: the four blocks that it reads. -/
def Ahead (w : World) (b B1 B2 B3 : Nat) (w' : World) : Prop :=
  Grown w w' ∧ w'.heap[b]? = some (.cells c36 36 (0, 0)) ∧ w'.heap[B1]? = some (.cells (c33 b) 33 (0, 0)) ∧ w'.heap[B2]? = some (.cells c26 26 (0, 0)) ∧ w'.heap[B3]? = some (.cells (c31 b) 31 (0, 0))

theorem field33_0 (B : Nat) (w : World) : (Instr.fieldAt 33 (.pointer (some ⟨B, 0, none⟩)) 0).run Try.prog w = .ok (.pointer (some ⟨B, 0, none⟩)) w := by kernel_rfl
theorem field33_2 (B : Nat) (w : World) : (Instr.fieldAt 33 (.pointer (some ⟨B, 0, none⟩)) 2).run Try.prog w = .ok (.pointer (some ⟨B, 16, none⟩)) w := by kernel_rfl
theorem part26 (b : Nat) : (c33 b).extract 0 (0 + c26.size) = c26 := by kernel_rfl
theorem part31 (b : Nat) : (c33 b).extract 16 (16 + (c31 b).size) = c31 b := by kernel_rfl

set_option maxRecDepth 100000 in
theorem walk (w : World) : Calls Try.prog 3 #[] w fun e w' => e = .returned (.bool true) ∧ Grown w w' := by
  go_enter Try.func3, Try.ntmps3
  go_wp2_with fail
  refine (callee' w).mono ?_
  rintro e w1 ⟨b, rfl, hm⟩
  go_wp2_with (refine list_none rfl rfl (run_stored 33 _ _ rfl w1.heap.size rfl (c33 b) rfl 33 _ (heap_alloc_last _ _) size33 rfl (one33 _)) ?_)
  rw [World.setRow_alloc_new]
  obtain ⟨hb, hg⟩ := hm
  have hlt : b < w1.heap.size := (Array.getElem?_eq_some_iff.1 hb).1
  generalize hB1 : w1.heap.size = B1
  have hW1 : (w1.alloc (.cells (c33 b) 33)).heap[B1]? = some (.cells (c33 b) 33 (0, 0)) := by rw [← hB1]; exact heap_alloc_last _ _
  refine wp_region_held (S := fun w' => w'.heap[B1]? = some (.cells (c33 b) 33 (0, 0))) (by kernel_rfl) ?_
  refine take_first (i := 0) (a' := frame (.pointer (some ⟨B1, 0, none⟩)) undef undef (.agg (c33 b)) (.pointer (some ⟨B1, 0, none⟩)) undef undef undef) rfl (by kernel_rfl) (by kernel_rfl) (by kernel_rfl) (fun _ _ _ h => h) rfl
    (fun w' _ => run_field 33 0 _ (by rfl) (.pointer (some ⟨B1, 0, none⟩)) (by rfl) (.pointer (some ⟨B1, 0, none⟩)) (field33_0 B1 w')) hW1 (by rfl) ?_
  refine take_first (i := 1) (a' := frame (.pointer (some ⟨B1, 0, none⟩)) undef undef (.agg (c33 b)) (.pointer (some ⟨B1, 0, none⟩)) (.agg c26) undef undef) rfl (by kernel_rfl) (by kernel_rfl) (by kernel_rfl) (fun _ _ _ h => h) rfl
    (fun w' hS => run_loaded_part 26 _ (by rfl) B1 0 (by rfl) 33 (c33 b) c26 _ hS (part_of (part26 b)) Try.underlying26 rfl size26) hW1 (by rfl) ?_
  refine take_first (i := 2) (a' := frame (.pointer (some ⟨B1, 0, none⟩)) undef undef (.agg (c33 b)) (.pointer (some ⟨B1, 0, none⟩)) (.agg c26) (.pointer (some ⟨B1, 16, none⟩)) undef) rfl (by kernel_rfl) (by kernel_rfl) (by kernel_rfl) (fun _ _ _ h => h) rfl
    (fun w' _ => run_field 33 2 _ (by rfl) (.pointer (some ⟨B1, 0, none⟩)) (by rfl) (.pointer (some ⟨B1, 16, none⟩)) (field33_2 B1 w')) hW1 (by rfl) ?_
  refine take_first (i := 3) (a' := frame (.pointer (some ⟨B1, 0, none⟩)) undef undef (.agg (c33 b)) (.pointer (some ⟨B1, 0, none⟩)) (.agg c26) (.pointer (some ⟨B1, 16, none⟩)) (.agg (c31 b))) rfl (by kernel_rfl) (by kernel_rfl) (by kernel_rfl) (fun _ _ _ h => h) rfl
    (fun w' hS => run_loaded_part 31 _ (by rfl) B1 16 (by rfl) 33 (c33 b) (c31 b) _ hS (part_of (part31 b)) Try.underlying31 rfl size31) hW1 (by rfl) ?_
  change wpAnyH _ _ _ _ _ _ _ _ (World.drew _)
  have hW2 : Grown w (w1.alloc (.cells (c33 b) 33)).drew := (hg.alloc _ _).drew
  have hWb : (w1.alloc (.cells (c33 b) 33)).drew.heap[b]? = some (.cells c36 36 (0, 0)) := by rw [← hb]; exact heap_alloc_old _ _ hlt
  have hWz : (w1.alloc (.cells (c33 b) 33)).drew.heap.size = B1 + 1 := by rw [← hB1]; exact World.size_alloc _ _
  have hW1' : (w1.alloc (.cells (c33 b) 33)).drew.heap[B1]? = some (.cells (c33 b) 33 (0, 0)) := hW1
  have hw0 : w.heap.size ≤ B1 := by rw [← hB1]; exact hg.2.2
  have hlt' : b < B1 := by rw [← hB1]; exact hlt
  generalize (w1.alloc (.cells (c33 b) 33)).drew = W2 at *
  clear hW1 hb hg hlt hB1 w1
  refine wpAnyH_all (rs := [4, 5]) (by kernel_rfl) (by simp) ?_
  intro i hi
  have hi' : i = 4 ∨ i = 5 := by simpa using hi
  clear hi
  rcases hi' with rfl | rfl
  refine op_value (a' := frame (.pointer (some ⟨B1, 0, none⟩)) (.pointer (some ⟨W2.heap.size, 0, none⟩)) undef (.agg (c33 b)) (.pointer (some ⟨B1, 0, none⟩)) (.agg c26) (.pointer (some ⟨B1, 16, none⟩)) (.agg (c31 b)))
    rfl rfl _ (run_allocated 26 rfl z26 (alloc26 W2)) (by rfl) ⟨(heap_alloc_old _ _ (by omega)).trans hW1', ?_⟩
  refine wpAnyH_all (rs := [5]) (by kernel_rfl) (by simp) ?_
  intro i hi
  obtain rfl : i = 5 := by simpa using hi
  clear hi
  refine op_value (a' := frame (.pointer (some ⟨B1, 0, none⟩)) (.pointer (some ⟨W2.heap.size, 0, none⟩)) (.pointer (some ⟨(W2.alloc (.cells z26 26)).heap.size, 0, none⟩)) (.agg (c33 b)) (.pointer (some ⟨B1, 0, none⟩)) (.agg c26) (.pointer (some ⟨B1, 16, none⟩)) (.agg (c31 b)))
    rfl rfl _ (run_allocated 31 rfl z31 (alloc31 _)) (by rfl) ⟨(heap_alloc_old _ _ (by rw [World.size_alloc]; omega)).trans ((heap_alloc_old _ _ (by omega)).trans hW1'), ?_⟩
  have f1 : ((W2.alloc (.cells z26 26)).alloc (.cells z31 31)).heap[b]? = some (.cells c36 36 (0, 0)) :=
    (heap_alloc_old _ _ (by rw [World.size_alloc]; omega)).trans ((heap_alloc_old _ _ (by omega)).trans hWb)
  have f2 : ((W2.alloc (.cells z26 26)).alloc (.cells z31 31)).heap[B1]? = some (.cells (c33 b) 33 (0, 0)) :=
    (heap_alloc_old _ _ (by rw [World.size_alloc]; omega)).trans ((heap_alloc_old _ _ (by omega)).trans hW1')
  have f3 : ((W2.alloc (.cells z26 26)).alloc (.cells z31 31)).heap[W2.heap.size]? = some (.cells z26 26 (0, 0)) :=
    (heap_alloc_old _ _ (by rw [World.size_alloc]; omega)).trans (heap_alloc_last _ _)
  have f4 : ((W2.alloc (.cells z26 26)).alloc (.cells z31 31)).heap[(W2.alloc (.cells z26 26)).heap.size]? = some (.cells z31 31 (0, 0)) := heap_alloc_last _ _
  have f5 : Grown w ((W2.alloc (.cells z26 26)).alloc (.cells z31 31)) := (hW2.alloc _ _).alloc _ _
  have fne : W2.heap.size ≠ (W2.alloc (.cells z26 26)).heap.size := by rw [World.size_alloc]; omega
  have f6 : B1 < W2.heap.size := by omega
  have f7 : B1 < (W2.alloc (.cells z26 26)).heap.size := by rw [World.size_alloc]; omega
  generalize (W2.alloc (.cells z26 26)).heap.size = B3 at *
  generalize ((W2.alloc (.cells z26 26)).alloc (.cells z31 31)) = W3 at *
  generalize W2.heap.size = B2 at *
  clear hW1' hWb hWz hW2 W2
  rotate_left
  refine op_value (a' := frame (.pointer (some ⟨B1, 0, none⟩)) undef (.pointer (some ⟨W2.heap.size, 0, none⟩)) (.agg (c33 b)) (.pointer (some ⟨B1, 0, none⟩)) (.agg c26) (.pointer (some ⟨B1, 16, none⟩)) (.agg (c31 b)))
    rfl rfl _ (run_allocated 31 rfl z31 (alloc31 W2)) (by rfl) ⟨(heap_alloc_old _ _ (by omega)).trans hW1', ?_⟩
  refine wpAnyH_all (rs := [4]) (by kernel_rfl) (by simp) ?_
  intro i hi
  obtain rfl : i = 4 := by simpa using hi
  clear hi
  refine op_value (a' := frame (.pointer (some ⟨B1, 0, none⟩)) (.pointer (some ⟨(W2.alloc (.cells z31 31)).heap.size, 0, none⟩)) (.pointer (some ⟨W2.heap.size, 0, none⟩)) (.agg (c33 b)) (.pointer (some ⟨B1, 0, none⟩)) (.agg c26) (.pointer (some ⟨B1, 16, none⟩)) (.agg (c31 b)))
    rfl rfl _ (run_allocated 26 rfl z26 (alloc26 _)) (by rfl) ⟨(heap_alloc_old _ _ (by rw [World.size_alloc]; omega)).trans ((heap_alloc_old _ _ (by omega)).trans hW1'), ?_⟩
  have f1 : ((W2.alloc (.cells z31 31)).alloc (.cells z26 26)).heap[b]? = some (.cells c36 36 (0, 0)) :=
    (heap_alloc_old _ _ (by rw [World.size_alloc]; omega)).trans ((heap_alloc_old _ _ (by omega)).trans hWb)
  have f2 : ((W2.alloc (.cells z31 31)).alloc (.cells z26 26)).heap[B1]? = some (.cells (c33 b) 33 (0, 0)) :=
    (heap_alloc_old _ _ (by rw [World.size_alloc]; omega)).trans ((heap_alloc_old _ _ (by omega)).trans hW1')
  have f4 : ((W2.alloc (.cells z31 31)).alloc (.cells z26 26)).heap[W2.heap.size]? = some (.cells z31 31 (0, 0)) :=
    (heap_alloc_old _ _ (by rw [World.size_alloc]; omega)).trans (heap_alloc_last _ _)
  have f3 : ((W2.alloc (.cells z31 31)).alloc (.cells z26 26)).heap[(W2.alloc (.cells z31 31)).heap.size]? = some (.cells z26 26 (0, 0)) := heap_alloc_last _ _
  have f5 : Grown w ((W2.alloc (.cells z31 31)).alloc (.cells z26 26)) := (hW2.alloc _ _).alloc _ _
  have fne : (W2.alloc (.cells z31 31)).heap.size ≠ W2.heap.size := by rw [World.size_alloc]; omega
  have f6 : B1 < (W2.alloc (.cells z31 31)).heap.size := by rw [World.size_alloc]; omega
  have f7 : B1 < W2.heap.size := by omega
  generalize (W2.alloc (.cells z31 31)).heap.size = B2 at *
  generalize ((W2.alloc (.cells z31 31)).alloc (.cells z26 26)) = W3 at *
  generalize W2.heap.size = B3 at *
  clear hW1' hWb hWz hW2 W2
  all_goals
    refine wpAnyH_all (rs := [6]) (by kernel_rfl) (by simp) ?_
    intro i hi
    obtain rfl : i = 6 := by simpa using hi
    clear hi
    refine op_none rfl rfl rfl (run_stored 26 _ _ (by rfl) B2 (by rfl) c26 (by rfl) 26 z26 f3 size26 rfl one26) ⟨(setRow_other _ _ _ _ (by omega)).trans f2, ?_⟩
    refine wpAnyH_all (rs := [7]) (by kernel_rfl) (by simp) ?_
    intro i hi
    obtain rfl : i = 7 := by simpa using hi
    clear hi
    refine op_none rfl rfl rfl (run_stored 31 _ _ (by rfl) B3 (by rfl) (c31 b) (by rfl) 31 z31 ((setRow_other _ _ _ _ (by omega)).trans f4) size31 rfl (one31 b))
      ⟨(setRow_other _ _ _ _ (by omega)).trans ((setRow_other _ _ _ _ (by omega)).trans f2), ?_⟩
    refine wpAnyH_done (by kernel_rfl) ?_ _
    have hA : Ahead w b B1 B2 B3 ((W3.setRow B2 c26).setRow B3 (c31 b)) :=
      ⟨grown_setRow (grown_setRow f5 (by omega) _) (by omega) _, (setRow_other _ _ _ _ (by omega)).trans ((setRow_other _ _ _ _ (by omega)).trans f1),
        (setRow_other _ _ _ _ (by omega)).trans ((setRow_other _ _ _ _ (by omega)).trans f2), (setRow_other _ _ _ _ (by omega)).trans (setRow_heap _ _ _ _ _ _ f3),
        setRow_heap _ _ _ _ _ _ ((setRow_other _ _ _ _ (by omega)).trans f4)⟩
    generalize (W3.setRow B2 c26).setRow B3 (c31 b) = W4 at *
    clear f1 f2 f3 f4 f5 fne f6 f7 hw0 hlt' W3
    obtain ⟨hG, hb, h1, h2, h3⟩ := hA
    have kB1_15 : W4.cell? ⟨B1, 15, none⟩ = some (.int .i64 3) := cell_of_row _ _ _ _ _ _ h1
    have kB1_31 : W4.cell? ⟨B1, 31, none⟩ = some (.bool false) := cell_of_row _ _ _ _ _ _ h1
    have kB1_32 : W4.cell? ⟨B1, 32, none⟩ = some (.bool false) := cell_of_row _ _ _ _ _ _ h1
    have kB1_33 : W4.cell? ⟨B1, 33, none⟩ = some (.int .i64 0) := cell_of_row _ _ _ _ _ _ h1
    have kB1_34 : W4.cell? ⟨B1, 34, none⟩ = some (.int .i64 50) := cell_of_row _ _ _ _ _ _ h1
    have kB1_35 : W4.cell? ⟨B1, 35, none⟩ = some (.int .i64 1) := cell_of_row _ _ _ _ _ _ h1
    have kB2_0 : W4.cell? ⟨B2, 0, none⟩ = some (.int .i64 1) := cell_of_row _ _ _ _ _ _ h2
    have kB2_1 : W4.cell? ⟨B2, 1, none⟩ = some (.int .i64 1) := cell_of_row _ _ _ _ _ _ h2
    have kB2_2 : W4.cell? ⟨B2, 2, none⟩ = some (.slice none 0 0) := cell_of_row _ _ _ _ _ _ h2
    have kB2_4 : W4.cell? ⟨B2, 4, none⟩ = some (.int .i64 (-1)) := cell_of_row _ _ _ _ _ _ h2
    have kB2_6 : W4.cell? ⟨B2, 6, none⟩ = some (.int .i64 (-1)) := cell_of_row _ _ _ _ _ _ h2
    have kB2_14 : W4.cell? ⟨B2, 14, none⟩ = some (.int .i64 (-1)) := cell_of_row _ _ _ _ _ _ h2
    have kB3_0 : W4.cell? ⟨B3, 0, none⟩ = some (.int .i64 1) := cell_of_row _ _ _ _ _ _ h3
    have kB3_1 : W4.cell? ⟨B3, 1, none⟩ = some (.int .i64 0) := cell_of_row _ _ _ _ _ _ h3
    have kB3_2 : W4.cell? ⟨B3, 2, none⟩ = some (.int .i64 65536) := cell_of_row _ _ _ _ _ _ h3
    have kB3_3 : W4.cell? ⟨B3, 3, none⟩ = some (.int .i64 0) := cell_of_row _ _ _ _ _ _ h3
    have kB3_4 : W4.cell? ⟨B3, 4, none⟩ = some (.int .i64 0) := cell_of_row _ _ _ _ _ _ h3
    have kB3_5 : W4.cell? ⟨B3, 5, none⟩ = some (.int .i64 1) := cell_of_row _ _ _ _ _ _ h3
    have kB3_6 : W4.cell? ⟨B3, 6, none⟩ = some (.int .i64 0) := cell_of_row _ _ _ _ _ _ h3
    have kB3_7 : W4.cell? ⟨B3, 7, none⟩ = some (.int .i64 0) := cell_of_row _ _ _ _ _ _ h3
    have kB3_8 : W4.cell? ⟨B3, 8, none⟩ = some (.int .i64 1000) := cell_of_row _ _ _ _ _ _ h3
    have kB3_9 : W4.cell? ⟨B3, 9, none⟩ = some (.int .i64 60000) := cell_of_row _ _ _ _ _ _ h3
    have kB3_10 : W4.cell? ⟨B3, 10, none⟩ = some (.int .i64 2) := cell_of_row _ _ _ _ _ _ h3
    have kB3_11 : W4.cell? ⟨B3, 11, none⟩ = some (.int .i64 0) := cell_of_row _ _ _ _ _ _ h3
    have kB3_12 : W4.cell? ⟨B3, 12, none⟩ = some (.int .i64 3) := cell_of_row _ _ _ _ _ _ h3
    have kB3_13 : W4.cell? ⟨B3, 13, none⟩ = some (.slice (some ⟨b, 0, none⟩) 1 1) := cell_of_row _ _ _ _ _ _ h3
    have kB3_14 : W4.cell? ⟨B3, 14, none⟩ = some (.int .i64 1048576) := cell_of_row _ _ _ _ _ _ h3
    have kb_0 : W4.cell? ⟨b, 0, none⟩ = some (.int .i64 0) := cell_of_row _ _ _ _ _ _ hb
    have kb_1 : W4.cell? ⟨b, 1, none⟩ = some (.int .i64 (-1)) := cell_of_row _ _ _ _ _ _ hb
    clear hb h1 h2 h3
    unfold frame
    go_step
    go_step
    simp only [List.append_eq, List.cons_append, List.nil_append]
    go_wp2
    go_ret
    exact ⟨rfl, hG⟩
end Go.Proofs.Ytjclpbgndnagiaa.own
