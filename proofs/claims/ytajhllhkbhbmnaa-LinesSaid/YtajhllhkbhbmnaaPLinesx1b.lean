-- Printed by a program of this session (the kit's print, with functions that it lacks told beside it).
import Derived.Test.YtajhllhkbhbmnaaPLinesx0
import Derived.Test.YtajhllhkbhbmnaaPLinesx1
import Derived.Test.YtajhllhkbhbmnaaKeep2
import Derived.Test.YtajhllhkbhbmnaaOwn
namespace Go.Proofs.Ytajhllhkbhbmnaa.PLines
open Go.RowKit Go.Proofs.YtajhllhkbhbmnaaW.PrintWords Go.Proofs.YtajhllhkbhbmnaaW.PrintLast Go.Proofs.YtajhllhkbhbmnaaW.PrintMore
attribute [local go_sem] max2_int min2_int max_two min_two max_three min_three max_four min_four   -- for this text's walks alone
set_option linter.unusedVariables false
set_option linter.unusedSimpArgs false

/-! ### line_Keep: function 5 -/
-- IMPORT Derived.Test.YtajhllhkbhbmnaaKeep2
def line_Keep.f (k : Nat) (l0_0 : List Int) (l0_1 : List ByteArray) (a0_2 : Int) (a1 : Int) (a2 : ByteArray) : Option (List Int × List ByteArray × Int × Int) := keepF k l0_0 l0_1 a0_2 a1 a2
theorem line_Keep.mono : ∀ a0 a1 a2 a3 a4 k, LeO (line_Keep.f k a0 a1 a2 a3 a4) (line_Keep.f (k + 1) a0 a1 a2 a3 a4) := keepF.mono
theorem line_Keep.calls (k : Nat) (A0_0 : Option Addr) (c0_0 : Nat) (l0_0 : List Int) (A0_1 : Option Addr) (c0_1 : Nat) (l0_1 : List ByteArray) (a0_2 : Int) (a1 : Int) (a2 : ByteArray) (r1 : List Int) (r2 : List ByteArray) (r3 : Int) (r4 : Int) (w : World) (hr0_0 : Kd.C (Kd.int .i64) w A0_0 l0_0.length l0_0) (hc0_0 : l0_0.length ≤ c0_0) (hr0_1 : Kd.C Kd.string w A0_1 l0_1.length l0_1) (hc0_1 : l0_1.length ≤ c0_1) (h : line_Keep.f k l0_0 l0_1 a0_2 a1 a2 = some (r1, r2, r3, r4)) :
    Calls Try.prog 5 #[.agg #[.slice A0_0 l0_0.length c0_0, .slice A0_1 l0_1.length c0_1, .int .i64 a0_2], .int .i64 a1, .string a2] w fun e w' => ∃ v0_ v1_ : Value, e = .returned (.tuple #[.agg #[v0_, v1_, .int .i64 r3], .int .i64 r4]) ∧ Kd.R (Kd.int .i64) 3 w' w.heap.size (fun _ => True) v0_ r1 ∧ Kd.R Kd.string 9 w' w.heap.size (fun _ => True) v1_ r2 ∧ Below w.heap.size w w' :=
  keep_calls k A0_0 c0_0 l0_0 A0_1 c0_1 l0_1 a0_2 a1 a2 r1 r2 r3 r4 w hr0_0 hc0_0 hr0_1 hc0_1 h

end Go.Proofs.Ytajhllhkbhbmnaa.PLines
