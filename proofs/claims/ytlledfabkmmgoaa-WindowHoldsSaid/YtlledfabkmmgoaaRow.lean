/- Closed facts of the program that each row wants. -/
import Derived.Test.YtlledfabkmmgoaaRows
import Derived.Test.YtlledfabkmmgoaaLaw
namespace Go.Proofs.Ytlledfabkmmgoaa
theorem Try.own : ownKnob Try.prog.godebug = none := by kernel_rfl
theorem Try.laidOut : laidOutB Try.prog = true := by kernel_rfl
theorem cells_int : Try.prog.cellsOf 3 = 1 := by kernel_rfl
end Go.Proofs.Ytlledfabkmmgoaa
