/- slices.Clone and slices.Repeat as the printed contracts have it. -/
import Derived.Test.YtajhllhkbhbmnaaPLinesx0
import Derived.Test.YtajhllhkbhbmnaaShelf
import Derived.Lib.Hide
namespace Go.Proofs.Ytajhllhkbhbmnaa.PLines
set_option linter.unusedVariables false
set_option linter.unusedSimpArgs false
open Go.RowKit Go.Proofs.YtajhllhkbhbmnaaW.PrintWords Go.Proofs.YtajhllhkbhbmnaaW.PrintLast Go.Proofs.YtajhllhkbhbmnaaW.PrintMore

theorem addr_add_block (b o j : Nat) : (⟨b, o, none⟩ : Addr).add j = ⟨b, o + j, none⟩ := by simp [Addr.add]

theorem clone18_c (A0 : Option Addr) (c0 : Nat) (l0 : List Int) (w : World) (hr0 : Kd.C (Kd.int .i64) w A0 l0.length l0) (hl : l0.length < 17592186044416) :
    Calls Try.prog 18 #[.slice A0 l0.length c0] w fun e w' => ∃ v0_ : Value, e = .returned (v0_) ∧ Kd.R (Kd.int .i64) 3 w' w.heap.size (fun _ => True) v0_ l0 ∧ Below w.heap.size w w' := by
  have h := Kd.reads_of_C (enc := Value.int .i64) (d := (0 : Int)) (h1 := fun _ => rfl) hr0
  cases A0 with
  | none =>
    have h0 : l0 = [] := by
      apply Classical.byContradiction
      intro hne
      obtain ⟨ad, e, _⟩ := h.2.2 (List.length_pos_iff.2 hne)
      cases e
    subst h0
    refine (Try.slices_Clone_int_nil _ _ w).mono ?_
    rintro e w' ⟨rfl, rfl⟩
    exact ⟨_, rfl, Kd.R_nil _ _ _ _ _, Below.refl _ _⟩
  | some a =>
    by_cases h0 : l0 = []
    · subst h0
      refine (Try.slices_Clone_int_zero a c0 w).mono ?_
      rintro e w' ⟨v, rfl, ho, -, hb⟩
      exact ⟨v, rfl, Kd.R_of_own (enc := Value.int .i64) (h1 := fun _ => rfl) (xs := []) ho (fun _ _ => trivial), hb⟩
    · obtain ⟨ad, e, hc⟩ := h.2.2 (List.length_pos_iff.2 h0)
      cases e
      obtain ⟨b, off, sub⟩ := a
      cases sub with
      | some s =>
        have := hc 0 (List.length_pos_iff.2 h0)
        simp [World.cell?, Addr.add] at this
        split at this <;> cases this
      | none =>
        refine (Try.slices_Clone_int b off l0.length c0 l0 w (Nat.le_refl _) (by omega) (fun j hj => by rw [← addr_add_block]; exact hc j hj)).mono ?_
        rintro e w' ⟨v, rfl, ho, -, hb⟩
        rw [List.take_of_length_le (Nat.le_refl _)] at ho
        exact ⟨v, rfl, Kd.R_of_own (enc := Value.int .i64) (h1 := fun _ => rfl) ho (fun _ _ => trivial), hb⟩

theorem clone19_c (A0 : Option Addr) (c0 : Nat) (l0 : List ByteArray) (w : World) (hr0 : Kd.C Kd.string w A0 l0.length l0) (hl : l0.length < 8796093022208) :
    Calls Try.prog 19 #[.slice A0 l0.length c0] w fun e w' => ∃ v0_ : Value, e = .returned (v0_) ∧ Kd.R Kd.string 9 w' w.heap.size (fun _ => True) v0_ l0 ∧ Below w.heap.size w w' := by
  have h := Kd.reads_of_C (enc := Value.string) (d := ByteArray.empty) (h1 := fun _ => rfl) hr0
  cases A0 with
  | none =>
    have h0 : l0 = [] := by
      apply Classical.byContradiction
      intro hne
      obtain ⟨ad, e, _⟩ := h.2.2 (List.length_pos_iff.2 hne)
      cases e
    subst h0
    refine (Try.slices_Clone_string_nil _ _ w).mono ?_
    rintro e w' ⟨rfl, rfl⟩
    exact ⟨_, rfl, Kd.R_nil _ _ _ _ _, Below.refl _ _⟩
  | some a =>
    by_cases h0 : l0 = []
    · subst h0
      refine (Try.slices_Clone_string_zero a c0 w).mono ?_
      rintro e w' ⟨v, rfl, ho, -, hb⟩
      exact ⟨v, rfl, Kd.R_of_own (enc := Value.string) (h1 := fun _ => rfl) (xs := []) ho (fun _ _ => trivial), hb⟩
    · obtain ⟨ad, e, hc⟩ := h.2.2 (List.length_pos_iff.2 h0)
      cases e
      obtain ⟨b, off, sub⟩ := a
      cases sub with
      | some s =>
        have := hc 0 (List.length_pos_iff.2 h0)
        simp [World.cell?, Addr.add] at this
        split at this <;> cases this
      | none =>
        refine (Try.slices_Clone_string b off l0.length c0 l0 w (Nat.le_refl _) (by omega) (fun j hj => by rw [← addr_add_block]; exact hc j hj)).mono ?_
        rintro e w' ⟨v, rfl, ho, -, hb⟩
        rw [List.take_of_length_le (Nat.le_refl _)] at ho
        exact ⟨v, rfl, Kd.R_of_own (enc := Value.string) (h1 := fun _ => rfl) ho (fun _ _ => trivial), hb⟩

set_option maxRecDepth 100000 in
theorem make_ints2 (w : World) : (Instr.makeSlice 22 (.int .i64 2) (.int .i64 2)).run Try.prog w = .ok (.slice (some ⟨w.heap.size, 0, none⟩) 2 2) (w.alloc (.cells #[.int .i64 0, .int .i64 0] 3)) := by
  have h := run_makeSlice (P := Try.prog) (w := w) 22 3 _ _ Try.underlying22 rfl rfl .i64 .i64 2 2 (by decide) (by decide) (by decide) (by decide) (by decide)
  rw [h]
  have e : Obj.cells (madeCells (Value.int .i64 0).cells 2) 3 (0, 0) = .cells #[.int .i64 0, .int .i64 0] 3 := by kernel_rfl
  rw [← e]
  rfl

theorem setRow_alloc (w : World) (cur cs : Array Value) (T : TypeId) : (w.alloc (.cells cur T)).setRow w.heap.size cs = w.alloc (.cells cs T) := by
  simp only [World.setRow, World.alloc]
  congr 1
  apply Array.ext_getElem?
  intro j
  rw [Array.getElem?_modify, Array.getElem?_push, Array.getElem?_push]
  by_cases e : w.heap.size = j
  · subst e
    rw [if_pos rfl, if_pos rfl, if_pos rfl]
    rfl
  · rw [if_neg e, if_neg (Ne.symm e), if_neg (Ne.symm e)]
theorem cell_of_heap {w w' : World} {b i : Nat} {s : Option Nat} (h : w'.heap[b]? = w.heap[b]?) : w'.cell? ⟨b, i, s⟩ = w.cell? ⟨b, i, s⟩ := by simp only [World.cell?, h]

set_option maxHeartbeats 1000000 in
set_option maxRecDepth 100000 in
theorem repeat25_c (A0 : Option Addr) (c0 : Nat) (w : World) (hr0 : Kd.C (Kd.int .i64) w A0 [(-1 : Int)].length [-1]) (hc0 : [(-1 : Int)].length ≤ c0) :
    Calls Try.prog 25 #[.slice A0 [(-1 : Int)].length c0, .int .i64 2] w fun e w' => ∃ v0_ : Value, e = .returned (v0_) ∧ Kd.R (Kd.int .i64) 3 w' w.heap.size (fun _ => True) v0_ [-1, -1] ∧ Below w.heap.size w w' := by
  have h := Kd.reads_of_C (enc := Value.int .i64) (d := (0 : Int)) (h1 := fun _ => rfl) hr0
  obtain ⟨a, rfl, hc⟩ := h.2.2 (by decide)
  have hc1 := hc 0 (by decide)
  clear hc h hr0 hc0
  obtain ⟨b, off, sub⟩ := a
  cases sub with
  | some s =>
    simp [World.cell?, Addr.add] at hc1
    split at hc1 <;> cases hc1
  | none =>
    rw [addr_add_block] at hc1
    simp only [List.getD_cons_zero, Nat.add_zero] at hc1
    have HM := Go.Lib.hid (fun w => Try.bits_Mul 1 2 (by decide) (by decide) w)
    have hlt : b < w.heap.size := by
      apply Classical.byContradiction
      intro hn
      simp [World.cell?, Array.getElem?_eq_none (Nat.le_of_not_lt hn)] at hc1
    have hcp1 : (Builtin.copy_ #[22, 22] 3 #[.slice (some ⟨w.heap.size, 0, none⟩) 2 2, .slice (some ⟨b, off, none⟩) 1 c0]).run Try.prog (w.alloc (.cells #[.int .i64 0, .int .i64 0] 3)) = .ok (.int .i64 1) (w.alloc (.cells #[.int .i64 (-1), .int .i64 0] 3)) := by
      have := run_copy_row (P := Try.prog) (w.alloc (.cells #[.int .i64 0, .int .i64 0] 3)) 22 22 3 3 w.heap.size 0 2 2 ⟨b, off, none⟩ 1 c0 #[.int .i64 0, .int .i64 0] 3 [.int .i64 (-1)] Try.underlying22 (by kernel_rfl) (heap_alloc_new _ _) rfl (by
        intro j v hj
        cases j with
        | zero => simp at hj; subst hj; exact (cell_of_heap (Below.heap_alloc w _ b hlt)).trans hc1
        | succ j => simp at hj) (by decide) (by intro v hv; simp at hv; subst hv; rfl)
      rw [this, setRow_alloc]
      rfl
    have hcp2 : (Builtin.copy_ #[22, 22] 3 #[.slice (some ⟨w.heap.size, 1, none⟩) 1 1, .slice (some ⟨w.heap.size, 0, none⟩) 1 2]).run Try.prog (w.alloc (.cells #[.int .i64 (-1), .int .i64 0] 3)).drew = .ok (.int .i64 1) (w.alloc (.cells #[.int .i64 (-1), .int .i64 (-1)] 3)).drew := by
      have := run_copy_row (P := Try.prog) (w.alloc (.cells #[.int .i64 (-1), .int .i64 0] 3)).drew 22 22 3 3 w.heap.size 1 1 1 ⟨w.heap.size, 0, none⟩ 1 2 #[.int .i64 (-1), .int .i64 0] 3 [.int .i64 (-1)] Try.underlying22 (by kernel_rfl) (heap_alloc_new _ _) rfl (by
        intro j v hj
        cases j with
        | zero => simp at hj; subst hj; exact (show (w.alloc (.cells #[.int .i64 (-1), .int .i64 0] 3)).cell? ⟨w.heap.size, 0, none⟩ = _ by simp only [World.cell?, heap_alloc_new]; rfl)
        | succ j => simp at hj) (by decide) (by intro v hv; simp at hv; subst hv; rfl)
      rw [this]
      have e : ((w.alloc (.cells #[.int .i64 (-1), .int .i64 0] 3)).drew).setRow w.heap.size (#[Value.int .i64 (-1), Value.int .i64 0].toList.take 1 ++ [Value.int .i64 (-1)] ++ (#[Value.int .i64 (-1), Value.int .i64 0].toList.drop (1 + [Value.int .i64 (-1)].length))).toArray = ((w.alloc (.cells #[.int .i64 (-1), .int .i64 0] 3)).setRow w.heap.size #[.int .i64 (-1), .int .i64 (-1)]).drew := rfl
      rw [e, setRow_alloc]
      rfl
    have hmk := make_ints2
    go_enter Try.func25, Try.ntmps25
    go_wp2_with (go_at_call 29; refine (HM.out _).mono ?_; rintro e w2 ⟨rfl, rfl⟩)
    go_wp2
    refine wp_loop_rounds 2 ?_
    rw [rounds_succ]
    go_wp2
    go_region
    go_wp2
    rw [rounds_succ]
    go_wp2
    go_ret
    refine ⟨_, rfl, ?_, ((Below.refl _ _).alloc (Nat.le_refl _) _).drew⟩
    refine Kd.R_of_own (enc := Value.int .i64) (h1 := fun _ => rfl) ?_ (fun _ _ => trivial)
    refine ⟨rfl, .inr ⟨w2.heap.size, 2, #[.int .i64 (-1), .int .i64 (-1)], rfl, Nat.le_refl _, heap_alloc_new w2 _, ?_⟩⟩
    exact ⟨Nat.le_refl _, by unfold maxLen; omega, rfl, rfl⟩
end Go.Proofs.Ytajhllhkbhbmnaa.PLines
