-- Printed by a program of this session (the kit's print, with functions that it lacks told beside it).
import Derived.Test.YtajhllhkbhbmnaaProg
import Derived.Below
import Derived.Deep.Draws
import Derived.Deep.AppendLies
import Derived.Maps.AppendAt
import Derived.OwnWalk
import Derived.Laws.BytesArg
import Derived.Laws.MakeOwn
import Derived.Laws.OwnMore
import Derived.Deep.OwnRows
import Derived.Tactics
import Derived.Lib.ConvBytes
import Derived.Laws.Slices
import Derived.WalkKit
import Derived.KernelRfl
import Derived.RowKit3
import Derived.Deep.LoopGhost
import Derived.Deep.QuietTactic
import Derived.BigQuiet
import Derived.WideLaws
import Derived.Deep.DeepCutAuto
import Derived.Deep.CutBlock
import Derived.Deep.RegionHeld3
import Derived.Laws.Rows
import Derived.Lib.AppendStr
import Derived.ArgAppend
import Derived.Laws.IdiomCopy
import Derived.OrdersHeld
import Derived.Laws.BitsLemmas
import Derived.RowKit
import Derived.Test.YtajhllhkbhbmnaaWWords
import Derived.Test.YtajhllhkbhbmnaaWLast
import Derived.Test.YtajhllhkbhbmnaaWTab
import Derived.Test.YtajhllhkbhbmnaaWFour
import Derived.Test.YtajhllhkbhbmnaaWQPut
import Derived.Test.YtajhllhkbhbmnaaWApart
import Derived.Test.YtajhllhkbhbmnaaWArr
import Derived.Test.YtajhllhkbhbmnaaWZeros
import Derived.Test.YtajhllhkbhbmnaaWFoot
import Derived.Test.YtajhllhkbhbmnaaWKept
import Derived.Test.YtajhllhkbhbmnaaWShare
import Derived.Test.YtajhllhkbhbmnaaWN
import Derived.Test.YtajhllhkbhbmnaaWFootNe
import Derived.Test.YtajhllhkbhbmnaaWAt
import Derived.Test.YtajhllhkbhbmnaaWEqStruct
import Derived.Test.YtajhllhkbhbmnaaWRepsOne
import Derived.Test.YtajhllhkbhbmnaaWInv
import Derived.Test.YtajhllhkbhbmnaaWInvWords
import Derived.Test.YtajhllhkbhbmnaaWGuard
import Derived.Test.YtajhllhkbhbmnaaWNEv
import Derived.Test.YtajhllhkbhbmnaaWMore
namespace Go.Proofs.Ytajhllhkbhbmnaa.PLines
open Go.RowKit Go.Proofs.YtajhllhkbhbmnaaW.PrintWords Go.Proofs.YtajhllhkbhbmnaaW.PrintLast Go.Proofs.YtajhllhkbhbmnaaW.PrintMore
attribute [local go_sem] max2_int min2_int max_two min_two max_three min_three max_four min_four   -- for this text's walks alone
set_option linter.unusedVariables false
set_option linter.unusedSimpArgs false



def errW : Option Int → Value
  | none => .nilIface
  | some c => .iface 0 (.int .i64 c)
theorem errW_none : errW none = .nilIface := rfl
theorem errW_some (c : Int) : errW (some c) = .iface 0 (.int .i64 c) := rfl

theorem info3 : (Try.prog.info? 3).map (fun i => (i.zero, i.size, i.bytes)) = some (some (.int .i64 0), 1, 8) := by kernel_rfl
theorem info5 : (Try.prog.info? 5).map (fun i => (i.zero, i.size, i.bytes)) = some (some (.int .u8 0), 1, 1) := by kernel_rfl
theorem info9 : (Try.prog.info? 9).map (fun i => (i.zero, i.size, i.bytes)) = some (some (.string ⟨#[]⟩), 1, 16) := by kernel_rfl
-- the values' own types

end Go.Proofs.Ytajhllhkbhbmnaa.PLines
