/- What the theorem leans on, part 4. -/
import Derived.Test.YthjjncooaahejaaGreatDoorProg
import Derived.WalkKit
import Derived.Test.YthjjncooaahejaaGreatDoorBlPAA
import Derived.Test.YthjjncooaahejaaGreatDoorBlPAB
import Derived.Test.YthjjncooaahejaaGreatDoorBlPAC
namespace Go.Proofs.YthjjncooaahejaaGreatDoor
@[push_cast] theorem tld3 : ldT Tryz.prog 3 = (some (1, .false)) := by kernel_rfl
@[push_cast] theorem tkd3 : kdT Tryz.prog 3 = (some (.int .i64)) := by kernel_rfl
@[push_cast] theorem tzb3 : zbT Tryz.prog 3 = (some (((.int .i64 0) :: []), none)) := by kernel_rfl
@[push_cast] theorem tbt3 : btT Tryz.prog 3 = .false := by kernel_rfl
@[push_cast] theorem tld4 : ldT Tryz.prog 4 = (some (1, .false)) := by kernel_rfl
@[push_cast] theorem tkd4 : kdT Tryz.prog 4 = (some .bool) := by kernel_rfl
@[push_cast] theorem tld22 : ldT Tryz.prog 22 = (some (1, .false)) := by kernel_rfl
@[push_cast] theorem tkd22 : kdT Tryz.prog 22 = (some .slice) := by kernel_rfl
@[push_cast] theorem tsl22 : slT Tryz.prog 22 = (some (4, .true)) := by kernel_rfl
@[push_cast] theorem tap22 : apT Tryz.prog 22 = (some (4, 32)) := by kernel_rfl
@[push_cast] theorem tkd24 : kdT Tryz.prog 24 = (some .pointer) := by kernel_rfl
@[push_cast] theorem tld29 : ldT Tryz.prog 29 = (some (1, .false)) := by kernel_rfl
@[push_cast] theorem tkd29 : kdT Tryz.prog 29 = (some .slice) := by kernel_rfl
@[push_cast] theorem tsl29 : slT Tryz.prog 29 = (some (4, .true)) := by kernel_rfl
@[push_cast] theorem tap29 : apT Tryz.prog 29 = (some (4, 32)) := by kernel_rfl
@[push_cast] theorem tld31 : ldT Tryz.prog 31 = (some (3, .true)) := by kernel_rfl
@[push_cast] theorem tzb31 : zbT Tryz.prog 31 = (some (((.int .i64 0) :: ((.slice none 0 0) :: ((.int .i64 0) :: []))), none)) := by kernel_rfl
@[push_cast] theorem tbl31 : blT Tryz.prog 31 = (some (((.int .i64 0) :: ((.slice none 0 0) :: ((.int .i64 0) :: []))), ((0, 1) :: ((1, 1) :: ((2, 1) :: []))))) := by kernel_rfl
@[push_cast] theorem tfl31_0 : flT Tryz.prog 31 0 = (some (0, (1, .false))) := by kernel_rfl
@[push_cast] theorem tfl31_1 : flT Tryz.prog 31 1 = (some (1, (1, .false))) := by kernel_rfl
@[push_cast] theorem tfl31_2 : flT Tryz.prog 31 2 = (some (2, (1, .false))) := by kernel_rfl
@[push_cast] theorem tkd35 : kdT Tryz.prog 35 = (some .slice) := by kernel_rfl
@[push_cast] theorem tsl35 : slT Tryz.prog 35 = (some (4, .true)) := by kernel_rfl
@[push_cast] theorem tkd38 : kdT Tryz.prog 38 = (some .slice) := by kernel_rfl
@[push_cast] theorem tsl38 : slT Tryz.prog 38 = (some (4, .true)) := by kernel_rfl
@[push_cast] theorem tap38 : apT Tryz.prog 38 = (some (4, 32)) := by kernel_rfl
@[push_cast] theorem tld42 : ldT Tryz.prog 42 = (some (4, .true)) := by kernel_rfl
@[push_cast] theorem tzb42 : zbT Tryz.prog 42 = (some (((.int .i64 0) :: ((.int .i64 0) :: ((.int .i64 0) :: ((.bool .false) :: [])))), none)) := by kernel_rfl
@[push_cast] theorem tfl42_0 : flT Tryz.prog 42 0 = (some (0, (1, .false))) := by kernel_rfl
@[push_cast] theorem tfl42_1 : flT Tryz.prog 42 1 = (some (1, (1, .false))) := by kernel_rfl
@[push_cast] theorem tfl42_2 : flT Tryz.prog 42 2 = (some (2, (1, .false))) := by kernel_rfl
@[push_cast] theorem tfl42_3 : flT Tryz.prog 42 3 = (some (3, (1, .false))) := by kernel_rfl
@[push_cast] theorem tld60 : ldT Tryz.prog 60 = (some (0, .true)) := by kernel_rfl
@[push_cast] theorem tzb60 : zbT Tryz.prog 60 = (some ([], none)) := by kernel_rfl
@[push_cast] theorem tzv60 : zvD Tryz.prog 60 = (some (.agg [])) := by kernel_rfl
@[push_cast] theorem tbl60 : blT Tryz.prog 60 = (some ([], [])) := by kernel_rfl
@[push_cast] theorem tbl64 : blT Tryz.prog 64 = (some (((.int .i64 0) :: ((.slice none 0 0) :: [])), ((0, 1) :: ((1, 1) :: [])))) := by kernel_rfl
@[push_cast] theorem tfl64_0 : flT Tryz.prog 64 0 = (some (0, (1, .false))) := by kernel_rfl
@[push_cast] theorem tfl64_1 : flT Tryz.prog 64 1 = (some (1, (1, .false))) := by kernel_rfl
@[push_cast] theorem tld70 : ldT Tryz.prog 70 = (some (4, .true)) := by kernel_rfl
@[push_cast] theorem tkd70 : kdT Tryz.prog 70 = (some .other) := by kernel_rfl
@[push_cast] theorem tzb70 : zbT Tryz.prog 70 = (some (((.int .i64 0) :: ((.int .i64 0) :: ((.int .i64 0) :: ((.bool .false) :: [])))), none)) := by kernel_rfl
@[push_cast] theorem tbl70 : blT Tryz.prog 70 = (some (((.int .i64 0) :: ((.int .i64 0) :: ((.int .i64 0) :: ((.bool .false) :: [])))), ((0, 1) :: ((1, 1) :: ((2, 1) :: ((3, 1) :: [])))))) := by kernel_rfl
@[push_cast] theorem teq70 : EqOk Tryz.prog 70 ((.int .i64) :: ((.int .i64) :: ((.int .i64) :: (.bool :: [])))) := EqOk.of (by kernel_rfl)
@[push_cast] theorem tfl70_0 : flT Tryz.prog 70 0 = (some (0, (1, .false))) := by kernel_rfl
@[push_cast] theorem tfl70_1 : flT Tryz.prog 70 1 = (some (1, (1, .false))) := by kernel_rfl
@[push_cast] theorem tfl70_2 : flT Tryz.prog 70 2 = (some (2, (1, .false))) := by kernel_rfl
@[push_cast] theorem tld73 : ldT Tryz.prog 73 = (some (2, .true)) := by kernel_rfl
@[push_cast] theorem tfl73_0 : flT Tryz.prog 73 0 = (some (0, (1, .false))) := by kernel_rfl
@[push_cast] theorem tfl73_1 : flT Tryz.prog 73 1 = (some (1, (1, .false))) := by kernel_rfl
@[push_cast] theorem tld75 : ldT Tryz.prog 75 = (some (4, .true)) := by kernel_rfl
@[push_cast] theorem tzb75 : zbT Tryz.prog 75 = (some (((.int .i64 0) :: ((.int .i64 0) :: ((.int .i64 0) :: ((.int .i64 0) :: [])))), none)) := by kernel_rfl
@[push_cast] theorem tfl75_0 : flT Tryz.prog 75 0 = (some (0, (2, .true))) := by kernel_rfl
@[push_cast] theorem tfl75_1 : flT Tryz.prog 75 1 = (some (2, (2, .true))) := by kernel_rfl
@[push_cast] theorem tld79 : ldT Tryz.prog 79 = (some (4, .true)) := by kernel_rfl
@[push_cast] theorem tzb79 : zbT Tryz.prog 79 = (some (((.int .i64 0) :: ((.int .i64 0) :: ((.int .i64 0) :: ((.int .i64 0) :: [])))), none)) := by kernel_rfl
@[push_cast] theorem tbl79 : blT Tryz.prog 79 = (some (((.int .i64 0) :: ((.int .i64 0) :: ((.int .i64 0) :: ((.int .i64 0) :: [])))), ((0, 2) :: ((2, 2) :: [])))) := by kernel_rfl
@[push_cast] theorem tfl79_0 : flT Tryz.prog 79 0 = (some (0, (2, .true))) := by kernel_rfl
@[push_cast] theorem tfl79_1 : flT Tryz.prog 79 1 = (some (2, (2, .true))) := by kernel_rfl
@[push_cast] theorem tkd113 : kdT Tryz.prog 113 = (some (.int .u64)) := by kernel_rfl
@[push_cast] theorem tbt113 : btT Tryz.prog 113 = .false := by kernel_rfl
@[push_cast] theorem tkd114 : kdT Tryz.prog 114 = (some .slice) := by kernel_rfl
@[push_cast] theorem tsl114 : slT Tryz.prog 114 = (some (1, .false)) := by kernel_rfl
@[push_cast] theorem tap114 : apT Tryz.prog 114 = (some (1, 8)) := by kernel_rfl
@[push_cast] theorem tld241 : ldT Tryz.prog 241 = (some (1, .false)) := by kernel_rfl
@[push_cast] theorem tkd241 : kdT Tryz.prog 241 = (some (.int .u64)) := by kernel_rfl
@[push_cast] theorem tzb241 : zbT Tryz.prog 241 = (some (((.int .u64 0) :: []), none)) := by kernel_rfl
def G0 : Gl := fun g => if g = 0 then some (.pd 6 [.agg [.lit (.int .i32 768), .lit (.int .i32 879), .lit (.int .i32 8203), .lit (.int .i32 8207), .lit (.int .i32 65024), .lit (.int .i32 65039)]] 0 0) else if g = 1 then some (.pd 16 [.agg [.lit (.int .i32 4352), .lit (.int .i32 4447), .lit (.int .i32 11904), .lit (.int .i32 12350), .lit (.int .i32 12353), .lit (.int .i32 19903), .lit (.int .i32 19968), .lit (.int .i32 40959), .lit (.int .i32 44032), .lit (.int .i32 55203), .lit (.int .i32 63744), .lit (.int .i32 64255), .lit (.int .i32 65280), .lit (.int .i32 65376), .lit (.int .i32 127744), .lit (.int .i32 128591)]] 0 0) else if g = 2 then some (.pd 4 [.agg [.lit (.int .i32 127), .lit (.int .i32 2047), .lit (.int .i32 65535), .lit (.int .i32 1114111)]] 0 0) else none
theorem mixed : Tryz.prog.follows .mixedOrders = true := by kernel_rfl
end Go.Proofs.YthjjncooaahejaaGreatDoor
