/- line.Keep: its contract as the printed ones have it. -/
import Derived.Test.YtajhllhkbhbmnaaKeep
namespace Go.Proofs.Ytajhllhkbhbmnaa.PLines
set_option linter.unusedVariables false
set_option linter.unusedSimpArgs false
open Go.RowKit Go.Proofs.YtajhllhkbhbmnaaW.PrintWords Go.Proofs.YtajhllhkbhbmnaaW.PrintLast Go.Proofs.YtajhllhkbhbmnaaW.PrintMore

theorem begins_some (p : Int) : ∃ b, line_begins.f p = some b := by
  unfold line_begins.f
  split
  · split <;> exact ⟨_, rfl⟩
  · exact ⟨_, rfl⟩

theorem keep_calls (k : Nat) (A0 : Option Addr) (c0 : Nat) (l0 : List Int) (A1 : Option Addr) (c1 : Nat) (l1 : List ByteArray) (n p : Int) (s : ByteArray) (r1 : List Int) (r2 : List ByteArray) (r3 r4 : Int) (w : World)
    (hr0 : Kd.C (Kd.int .i64) w A0 l0.length l0) (hc0 : l0.length ≤ c0) (hr1 : Kd.C Kd.string w A1 l1.length l1) (hc1 : l1.length ≤ c1) (h : keepF k l0 l1 n p s = some (r1, r2, r3, r4)) :
    Calls Try.prog 5 #[.agg #[.slice A0 l0.length c0, .slice A1 l1.length c1, .int .i64 n], .int .i64 p, .string s] w (KeepPost w r1 r2 r3 r4) := by
  unfold keepF at h
  obtain ⟨b, hb⟩ := begins_some p
  cases hm : line_May.f k l0 l1 n with
  | none => rw [hm] at h; cases h
  | some t =>
    rw [hm, Option.bind_some] at h
    cases t with
    | false =>
      simp only [Bool.false_eq_true, if_false, Option.some.injEq, Prod.mk.injEq] at h
      obtain ⟨rfl, rfl, rfl, rfl⟩ := h
      exact keep_no k A0 c0 l0 A1 c1 l1 n p s w hr0 hc0 hr1 hc1 false b hm hb (.inl rfl)
    | true =>
      simp only [if_true] at h
      rw [hb, Option.bind_some] at h
      cases b with
      | false =>
        simp only [Bool.false_eq_true, if_false, Option.some.injEq, Prod.mk.injEq] at h
        obtain ⟨rfl, rfl, rfl, rfl⟩ := h
        exact keep_no k A0 c0 l0 A1 c1 l1 n p s w hr0 hc0 hr1 hc1 true false hm hb (.inr (.inl rfl))
      | true =>
        simp only [if_true] at h
        by_cases hz : (s.size : Int) = 16
        · rw [if_pos hz] at h
          obtain ⟨e0, e1, n0, n1⟩ := may_bounds hm
          cases hi : slices_Index_int_int.f k l0 p with
          | none => rw [hi] at h; cases h
          | some i =>
            rw [hi, Option.bind_some] at h
            match l0, l1, e0, e1 with
            | [x0, x1], [y0, y1], _, _ =>
              by_cases hi0 : i < 0
              · rw [if_pos hi0] at h
                simp only [Option.some.injEq, Prod.mk.injEq] at h
                obtain ⟨rfl, rfl, rfl, rfl⟩ := h
                exact keep_yes k A0 c0 x0 x1 A1 c1 y0 y1 n p s w hr0 hc0 hr1 hc1 n0 n1 i _ n.toNat hm hb hz hi (.inl ⟨hi0, rfl, rfl⟩)
              · rw [if_neg hi0] at h
                simp only [Option.some.injEq, Prod.mk.injEq] at h
                obtain ⟨rfl, rfl, rfl, rfl⟩ := h
                have hb2 := index_bounds [x0, x1] p _ k _ i hi
                have hi2 : i < 2 := by rcases hb2 with h | h; omega; exact h.2
                exact keep_yes k A0 c0 x0 x1 A1 c1 y0 y1 n p s w hr0 hc0 hr1 hc1 n0 n1 i _ i.toNat hm hb hz hi (.inr ⟨by omega, hi2, rfl, rfl⟩)
        · rw [if_neg hz] at h
          simp only [Option.some.injEq, Prod.mk.injEq] at h
          obtain ⟨rfl, rfl, rfl, rfl⟩ := h
          exact keep_no k A0 c0 l0 A1 c1 l1 n p s w hr0 hc0 hr1 hc1 true true hm hb (.inr (.inr hz))
end Go.Proofs.Ytajhllhkbhbmnaa.PLines
