/- What the theorem leans on, part 4. -/
import Derived.Test.YthnooilghadjkaaGreatDoorProg
import Derived.WalkKit
import Derived.Test.YthnooilghadjkaaGreatDoorSrPAA
import Derived.Test.YthnooilghadjkaaGreatDoorSrPAB
import Derived.Test.YthnooilghadjkaaGreatDoorSrPAC
namespace Go.Proofs.YthnooilghadjkaaGreatDoor
@[push_cast] theorem tld3 : ldT Tryz.prog 3 = (some (1, .false)) := by kernel_rfl
@[push_cast] theorem tkd3 : kdT Tryz.prog 3 = (some (.int .i64)) := by kernel_rfl
@[push_cast] theorem tzb3 : zbT Tryz.prog 3 = (some (((.int .i64 0) :: []), none)) := by kernel_rfl
@[push_cast] theorem tbt3 : btT Tryz.prog 3 = .false := by kernel_rfl
@[push_cast] theorem tkd5 : kdT Tryz.prog 5 = (some (.int .u8)) := by kernel_rfl
@[push_cast] theorem tbt5 : btT Tryz.prog 5 = .false := by kernel_rfl
@[push_cast] theorem tld9 : ldT Tryz.prog 9 = (some (1, .false)) := by kernel_rfl
@[push_cast] theorem tkd9 : kdT Tryz.prog 9 = (some .string) := by kernel_rfl
@[push_cast] theorem tsl9 : slT Tryz.prog 9 = none := by kernel_rfl
@[push_cast] theorem tld21 : ldT Tryz.prog 21 = (some (1, .false)) := by kernel_rfl
@[push_cast] theorem tkd21 : kdT Tryz.prog 21 = (some (.int .i32)) := by kernel_rfl
@[push_cast] theorem tbt21 : btT Tryz.prog 21 = .false := by kernel_rfl
@[push_cast] theorem tld22 : ldT Tryz.prog 22 = (some (1, .false)) := by kernel_rfl
@[push_cast] theorem tkd22 : kdT Tryz.prog 22 = (some .slice) := by kernel_rfl
@[push_cast] theorem tsl22 : slT Tryz.prog 22 = (some (2, .true)) := by kernel_rfl
@[push_cast] theorem tld23 : ldT Tryz.prog 23 = (some (1, .false)) := by kernel_rfl
@[push_cast] theorem tkd23 : kdT Tryz.prog 23 = (some .pointer) := by kernel_rfl
@[push_cast] theorem tld24 : ldT Tryz.prog 24 = (some (1, .false)) := by kernel_rfl
@[push_cast] theorem tkd24 : kdT Tryz.prog 24 = (some .pointer) := by kernel_rfl
@[push_cast] theorem tld26 : ldT Tryz.prog 26 = (some (3, .true)) := by kernel_rfl
@[push_cast] theorem tzb26 : zbT Tryz.prog 26 = (some (((.pointer none) :: ((.pointer none) :: ((.slice none 0 0) :: []))), none)) := by kernel_rfl
@[push_cast] theorem tbl26 : blT Tryz.prog 26 = (some (((.pointer none) :: ((.pointer none) :: ((.slice none 0 0) :: []))), ((0, 1) :: ((1, 1) :: ((2, 1) :: []))))) := by kernel_rfl
@[push_cast] theorem tfl26_0 : flT Tryz.prog 26 0 = (some (0, (1, .false))) := by kernel_rfl
@[push_cast] theorem tfl26_1 : flT Tryz.prog 26 1 = (some (1, (1, .false))) := by kernel_rfl
@[push_cast] theorem tfl26_2 : flT Tryz.prog 26 2 = (some (2, (1, .false))) := by kernel_rfl
@[push_cast] theorem tld27 : ldT Tryz.prog 27 = (some (1, .false)) := by kernel_rfl
@[push_cast] theorem tkd27 : kdT Tryz.prog 27 = (some .slice) := by kernel_rfl
@[push_cast] theorem tsl27 : slT Tryz.prog 27 = (some (1, .false)) := by kernel_rfl
@[push_cast] theorem tap27 : apT Tryz.prog 27 = (some (1, 4)) := by kernel_rfl
@[push_cast] theorem tld28 : ldT Tryz.prog 28 = (some (1, .false)) := by kernel_rfl
@[push_cast] theorem tkd28 : kdT Tryz.prog 28 = (some .slice) := by kernel_rfl
@[push_cast] theorem tsl28 : slT Tryz.prog 28 = (some (5, .true)) := by kernel_rfl
@[push_cast] theorem tap28 : apT Tryz.prog 28 = (some (5, 48)) := by kernel_rfl
@[push_cast] theorem tmk28 : mkT Tryz.prog 28 = (some (5, (48, (.agg ((.lit (.int .i64 0)) :: ((.lit (.int .i64 0)) :: ((.lit (.int .i64 0)) :: ((.lit (.int .i64 0)) :: ((.lit (.string ⟨⟨[]⟩⟩)) :: []))))))))) := by kernel_rfl
@[push_cast] theorem tld30 : ldT Tryz.prog 30 = (some (3, .true)) := by kernel_rfl
@[push_cast] theorem tzb30 : zbT Tryz.prog 30 = (some (((.int .i64 0) :: ((.slice none 0 0) :: ((.int .i64 0) :: []))), none)) := by kernel_rfl
@[push_cast] theorem tbl30 : blT Tryz.prog 30 = (some (((.int .i64 0) :: ((.slice none 0 0) :: ((.int .i64 0) :: []))), ((0, 1) :: ((1, 1) :: ((2, 1) :: []))))) := by kernel_rfl
@[push_cast] theorem tfl30_0 : flT Tryz.prog 30 0 = (some (0, (1, .false))) := by kernel_rfl
@[push_cast] theorem tfl30_1 : flT Tryz.prog 30 1 = (some (1, (1, .false))) := by kernel_rfl
@[push_cast] theorem tfl30_2 : flT Tryz.prog 30 2 = (some (2, (1, .false))) := by kernel_rfl
@[push_cast] theorem tld32 : ldT Tryz.prog 32 = (some (5, .true)) := by kernel_rfl
@[push_cast] theorem tzb32 : zbT Tryz.prog 32 = (some (((.slice none 0 0) :: ((.int .i64 0) :: ((.slice none 0 0) :: ((.int .i64 0) :: ((.slice none 0 0) :: []))))), none)) := by kernel_rfl
@[push_cast] theorem tbl32 : blT Tryz.prog 32 = (some (((.slice none 0 0) :: ((.int .i64 0) :: ((.slice none 0 0) :: ((.int .i64 0) :: ((.slice none 0 0) :: []))))), ((0, 1) :: ((1, 3) :: ((4, 1) :: []))))) := by kernel_rfl
@[push_cast] theorem tfl32_0 : flT Tryz.prog 32 0 = (some (0, (1, .false))) := by kernel_rfl
@[push_cast] theorem tfl32_1 : flT Tryz.prog 32 1 = (some (1, (3, .true))) := by kernel_rfl
@[push_cast] theorem tfl32_2 : flT Tryz.prog 32 2 = (some (4, (1, .false))) := by kernel_rfl
@[push_cast] theorem tkd36 : kdT Tryz.prog 36 = (some (.int .i64)) := by kernel_rfl
@[push_cast] theorem tld39 : ldT Tryz.prog 39 = (some (1, .false)) := by kernel_rfl
@[push_cast] theorem tkd39 : kdT Tryz.prog 39 = (some .slice) := by kernel_rfl
@[push_cast] theorem tsl39 : slT Tryz.prog 39 = (some (3, .true)) := by kernel_rfl
@[push_cast] theorem tap39 : apT Tryz.prog 39 = (some (3, 40)) := by kernel_rfl
@[push_cast] theorem tld41 : ldT Tryz.prog 41 = (some (3, .true)) := by kernel_rfl
@[push_cast] theorem tzb41 : zbT Tryz.prog 41 = (some (((.slice none 0 0) :: ((.int .i64 0) :: ((.int .i64 0) :: []))), none)) := by kernel_rfl
@[push_cast] theorem tbl41 : blT Tryz.prog 41 = (some (((.slice none 0 0) :: ((.int .i64 0) :: ((.int .i64 0) :: []))), ((0, 1) :: ((1, 1) :: ((2, 1) :: []))))) := by kernel_rfl
@[push_cast] theorem tfl41_0 : flT Tryz.prog 41 0 = (some (0, (1, .false))) := by kernel_rfl
@[push_cast] theorem tfl41_1 : flT Tryz.prog 41 1 = (some (1, (1, .false))) := by kernel_rfl
@[push_cast] theorem tfl41_2 : flT Tryz.prog 41 2 = (some (2, (1, .false))) := by kernel_rfl
@[push_cast] theorem tld45 : ldT Tryz.prog 45 = (some (4, .true)) := by kernel_rfl
@[push_cast] theorem tfl45_0 : flT Tryz.prog 45 0 = (some (0, (1, .false))) := by kernel_rfl
@[push_cast] theorem tfl45_1 : flT Tryz.prog 45 1 = (some (1, (1, .false))) := by kernel_rfl
@[push_cast] theorem tfl45_2 : flT Tryz.prog 45 2 = (some (2, (1, .false))) := by kernel_rfl
@[push_cast] theorem tfl45_3 : flT Tryz.prog 45 3 = (some (3, (1, .false))) := by kernel_rfl
@[push_cast] theorem tkd48 : kdT Tryz.prog 48 = (some .slice) := by kernel_rfl
@[push_cast] theorem tsl48 : slT Tryz.prog 48 = (some (3, .true)) := by kernel_rfl
@[push_cast] theorem tap48 : apT Tryz.prog 48 = (some (3, 40)) := by kernel_rfl
@[push_cast] theorem tkd52 : kdT Tryz.prog 52 = (some .slice) := by kernel_rfl
@[push_cast] theorem tsl52 : slT Tryz.prog 52 = (some (3, .true)) := by kernel_rfl
@[push_cast] theorem tap52 : apT Tryz.prog 52 = (some (3, 40)) := by kernel_rfl
@[push_cast] theorem tld54 : ldT Tryz.prog 54 = (some (1, .false)) := by kernel_rfl
@[push_cast] theorem tkd54 : kdT Tryz.prog 54 = (some .slice) := by kernel_rfl
@[push_cast] theorem tsl54 : slT Tryz.prog 54 = (some (3, .true)) := by kernel_rfl
@[push_cast] theorem tap54 : apT Tryz.prog 54 = (some (3, 40)) := by kernel_rfl
@[push_cast] theorem tzb54 : zbT Tryz.prog 54 = (some (((.slice none 0 0) :: []), none)) := by kernel_rfl
@[push_cast] theorem tld56 : ldT Tryz.prog 56 = (some (3, .true)) := by kernel_rfl
@[push_cast] theorem tzb56 : zbT Tryz.prog 56 = (some (((.slice none 0 0) :: ((.int .i64 0) :: ((.int .i64 0) :: []))), none)) := by kernel_rfl
@[push_cast] theorem tbl56 : blT Tryz.prog 56 = (some (((.slice none 0 0) :: ((.int .i64 0) :: ((.int .i64 0) :: []))), ((0, 1) :: ((1, 1) :: ((2, 1) :: []))))) := by kernel_rfl
@[push_cast] theorem tfl56_0 : flT Tryz.prog 56 0 = (some (0, (1, .false))) := by kernel_rfl
@[push_cast] theorem tfl56_1 : flT Tryz.prog 56 1 = (some (1, (1, .false))) := by kernel_rfl
@[push_cast] theorem tfl56_2 : flT Tryz.prog 56 2 = (some (2, (1, .false))) := by kernel_rfl
@[push_cast] theorem tld58 : ldT Tryz.prog 58 = (some (3, .true)) := by kernel_rfl
@[push_cast] theorem tzb58 : zbT Tryz.prog 58 = (some (((.int .i64 0) :: ((.int .i64 0) :: ((.slice none 0 0) :: []))), none)) := by kernel_rfl
@[push_cast] theorem tbl58 : blT Tryz.prog 58 = (some (((.int .i64 0) :: ((.int .i64 0) :: ((.slice none 0 0) :: []))), ((0, 1) :: ((1, 1) :: ((2, 1) :: []))))) := by kernel_rfl
@[push_cast] theorem tfl58_0 : flT Tryz.prog 58 0 = (some (0, (1, .false))) := by kernel_rfl
@[push_cast] theorem tfl58_1 : flT Tryz.prog 58 1 = (some (1, (1, .false))) := by kernel_rfl
@[push_cast] theorem tfl58_2 : flT Tryz.prog 58 2 = (some (2, (1, .false))) := by kernel_rfl
@[push_cast] theorem tld63 : ldT Tryz.prog 63 = (some (2, .true)) := by kernel_rfl
@[push_cast] theorem tzb63 : zbT Tryz.prog 63 = (some (((.int .i64 0) :: ((.int .i64 0) :: [])), none)) := by kernel_rfl
@[push_cast] theorem tbl63 : blT Tryz.prog 63 = (some (((.int .i64 0) :: ((.int .i64 0) :: [])), ((0, 1) :: ((1, 1) :: [])))) := by kernel_rfl
@[push_cast] theorem tfl63_0 : flT Tryz.prog 63 0 = (some (0, (1, .false))) := by kernel_rfl
@[push_cast] theorem tfl63_1 : flT Tryz.prog 63 1 = (some (1, (1, .false))) := by kernel_rfl
@[push_cast] theorem tld87 : ldT Tryz.prog 87 = (some (5, .true)) := by kernel_rfl
@[push_cast] theorem tzb87 : zbT Tryz.prog 87 = (some (((.int .i64 0) :: ((.int .i64 0) :: ((.int .i64 0) :: ((.int .i64 0) :: ((.string ⟨⟨[]⟩⟩) :: []))))), none)) := by kernel_rfl
@[push_cast] theorem tfl87_0 : flT Tryz.prog 87 0 = (some (0, (1, .false))) := by kernel_rfl
@[push_cast] theorem tfl87_1 : flT Tryz.prog 87 1 = (some (1, (1, .false))) := by kernel_rfl
@[push_cast] theorem tfl87_2 : flT Tryz.prog 87 2 = (some (2, (1, .false))) := by kernel_rfl
@[push_cast] theorem tfl87_3 : flT Tryz.prog 87 3 = (some (3, (1, .false))) := by kernel_rfl
@[push_cast] theorem tfl87_4 : flT Tryz.prog 87 4 = (some (4, (1, .false))) := by kernel_rfl
@[push_cast] theorem tld89 : ldT Tryz.prog 89 = (some (3, .true)) := by kernel_rfl
@[push_cast] theorem tzb89 : zbT Tryz.prog 89 = (some (((.int .i64 0) :: ((.int .i64 0) :: ((.slice none 0 0) :: []))), none)) := by kernel_rfl
@[push_cast] theorem tbl89 : blT Tryz.prog 89 = (some (((.int .i64 0) :: ((.int .i64 0) :: ((.slice none 0 0) :: []))), ((0, 1) :: ((1, 1) :: ((2, 1) :: []))))) := by kernel_rfl
@[push_cast] theorem tfl89_0 : flT Tryz.prog 89 0 = (some (0, (1, .false))) := by kernel_rfl
@[push_cast] theorem tfl89_1 : flT Tryz.prog 89 1 = (some (1, (1, .false))) := by kernel_rfl
@[push_cast] theorem tfl89_2 : flT Tryz.prog 89 2 = (some (2, (1, .false))) := by kernel_rfl
@[push_cast] theorem tld95 : ldT Tryz.prog 95 = (some (2, .true)) := by kernel_rfl
@[push_cast] theorem tzb95 : zbT Tryz.prog 95 = (some (((.int .i32 0) :: ((.int .i64 0) :: [])), none)) := by kernel_rfl
@[push_cast] theorem tbl95 : blT Tryz.prog 95 = (some (((.int .i32 0) :: ((.int .i64 0) :: [])), ((0, 1) :: ((1, 1) :: [])))) := by kernel_rfl
@[push_cast] theorem tfl95_0 : flT Tryz.prog 95 0 = (some (0, (1, .false))) := by kernel_rfl
@[push_cast] theorem tfl95_1 : flT Tryz.prog 95 1 = (some (1, (1, .false))) := by kernel_rfl
@[push_cast] theorem tld97 : ldT Tryz.prog 97 = (some (1, .false)) := by kernel_rfl
@[push_cast] theorem tkd97 : kdT Tryz.prog 97 = (some .pointer) := by kernel_rfl
@[push_cast] theorem tld100 : ldT Tryz.prog 100 = (some (1, .false)) := by kernel_rfl
@[push_cast] theorem tkd100 : kdT Tryz.prog 100 = (some .slice) := by kernel_rfl
@[push_cast] theorem tsl100 : slT Tryz.prog 100 = (some (7, .true)) := by kernel_rfl
@[push_cast] theorem tap100 : apT Tryz.prog 100 = (some (7, 64)) := by kernel_rfl
@[push_cast] theorem tmk100 : mkT Tryz.prog 100 = (some (7, (64, (.agg ((.lit (.int .i64 0)) :: ((.lit (.int .i64 0)) :: ((.lit (.int .i64 0)) :: ((.lit (.int .i64 0)) :: ((.lit (.int .i64 0)) :: ((.lit (.int .i64 0)) :: ((.lit (.string ⟨⟨[]⟩⟩)) :: []))))))))))) := by kernel_rfl
@[push_cast] theorem tbl103 : blT Tryz.prog 103 = (some (((.pointer none) :: []), ((0, 1) :: []))) := by kernel_rfl
@[push_cast] theorem tfl103_0 : flT Tryz.prog 103 0 = (some (0, (1, .false))) := by kernel_rfl
@[push_cast] theorem tbl105 : blT Tryz.prog 105 = (some (((.int .i64 0) :: ((.slice none 0 0) :: [])), ((0, 1) :: ((1, 1) :: [])))) := by kernel_rfl
@[push_cast] theorem tfl105_0 : flT Tryz.prog 105 0 = (some (0, (1, .false))) := by kernel_rfl
@[push_cast] theorem tfl105_1 : flT Tryz.prog 105 1 = (some (1, (1, .false))) := by kernel_rfl
@[push_cast] theorem tld108 : ldT Tryz.prog 108 = (some (0, .true)) := by kernel_rfl
@[push_cast] theorem tzb108 : zbT Tryz.prog 108 = (some ([], none)) := by kernel_rfl
@[push_cast] theorem tzv108 : zvD Tryz.prog 108 = (some (.agg [])) := by kernel_rfl
@[push_cast] theorem tbl108 : blT Tryz.prog 108 = (some ([], [])) := by kernel_rfl
@[push_cast] theorem tld119 : ldT Tryz.prog 119 = (some (3, .true)) := by kernel_rfl
@[push_cast] theorem tar119 : arT Tryz.prog 119 = (some (3, (1, .false))) := by kernel_rfl
@[push_cast] theorem tld121 : ldT Tryz.prog 121 = (some (6, .true)) := by kernel_rfl
@[push_cast] theorem tzb121 : zbT Tryz.prog 121 = (some (((.int .i64 0) :: ((.int .i64 0) :: ((.int .i64 0) :: ((.int .i64 0) :: ((.int .i64 0) :: ((.int .i64 0) :: [])))))), none)) := by kernel_rfl
@[push_cast] theorem tbl121 : blT Tryz.prog 121 = (some (((.int .i64 0) :: ((.int .i64 0) :: ((.int .i64 0) :: ((.int .i64 0) :: ((.int .i64 0) :: ((.int .i64 0) :: [])))))), ((0, 1) :: ((1, 3) :: ((4, 1) :: ((5, 1) :: [])))))) := by kernel_rfl
@[push_cast] theorem tfl121_0 : flT Tryz.prog 121 0 = (some (0, (1, .false))) := by kernel_rfl
@[push_cast] theorem tfl121_1 : flT Tryz.prog 121 1 = (some (1, (3, .true))) := by kernel_rfl
@[push_cast] theorem tfl121_2 : flT Tryz.prog 121 2 = (some (4, (1, .false))) := by kernel_rfl
@[push_cast] theorem tfl121_3 : flT Tryz.prog 121 3 = (some (5, (1, .false))) := by kernel_rfl
@[push_cast] theorem tld123 : ldT Tryz.prog 123 = (some (7, .true)) := by kernel_rfl
@[push_cast] theorem tzb123 : zbT Tryz.prog 123 = (some (((.int .i64 0) :: ((.int .i64 0) :: ((.int .i64 0) :: ((.int .i64 0) :: ((.int .i64 0) :: ((.int .i64 0) :: ((.string ⟨⟨[]⟩⟩) :: []))))))), none)) := by kernel_rfl
@[push_cast] theorem tbl123 : blT Tryz.prog 123 = (some (((.int .i64 0) :: ((.int .i64 0) :: ((.int .i64 0) :: ((.int .i64 0) :: ((.int .i64 0) :: ((.int .i64 0) :: ((.string ⟨⟨[]⟩⟩) :: []))))))), ((0, 1) :: ((1, 1) :: ((2, 3) :: ((5, 1) :: ((6, 1) :: []))))))) := by kernel_rfl
@[push_cast] theorem tfl123_2 : flT Tryz.prog 123 2 = (some (2, (3, .true))) := by kernel_rfl
@[push_cast] theorem tfl123_3 : flT Tryz.prog 123 3 = (some (5, (1, .false))) := by kernel_rfl
@[push_cast] theorem tfl123_4 : flT Tryz.prog 123 4 = (some (6, (1, .false))) := by kernel_rfl
@[push_cast] theorem tld125 : ldT Tryz.prog 125 = (some (14, .true)) := by kernel_rfl
@[push_cast] theorem tzb125 : zbT Tryz.prog 125 = (some (((.int .i64 0) :: ((.int .i64 0) :: ((.int .i64 0) :: ((.int .i64 0) :: ((.int .i64 0) :: ((.int .i64 0) :: ((.int .i64 0) :: ((.int .i64 0) :: ((.int .i64 0) :: ((.int .i64 0) :: ((.int .i64 0) :: ((.int .i64 0) :: ((.string ⟨⟨[]⟩⟩) :: ((.int .i64 0) :: [])))))))))))))), none)) := by kernel_rfl
@[push_cast] theorem tbl125 : blT Tryz.prog 125 = (some (((.int .i64 0) :: ((.int .i64 0) :: ((.int .i64 0) :: ((.int .i64 0) :: ((.int .i64 0) :: ((.int .i64 0) :: ((.int .i64 0) :: ((.int .i64 0) :: ((.int .i64 0) :: ((.int .i64 0) :: ((.int .i64 0) :: ((.int .i64 0) :: ((.string ⟨⟨[]⟩⟩) :: ((.int .i64 0) :: [])))))))))))))), ((0, 6) :: ((6, 7) :: ((13, 1) :: []))))) := by kernel_rfl
@[push_cast] theorem tfl125_0 : flT Tryz.prog 125 0 = (some (0, (6, .true))) := by kernel_rfl
@[push_cast] theorem tfl125_1 : flT Tryz.prog 125 1 = (some (6, (7, .true))) := by kernel_rfl
@[push_cast] theorem tfl125_2 : flT Tryz.prog 125 2 = (some (13, (1, .false))) := by kernel_rfl
@[push_cast] theorem tkd129 : kdT Tryz.prog 129 = (some .pointer) := by kernel_rfl
@[push_cast] theorem tld146 : ldT Tryz.prog 146 = (some (1, .false)) := by kernel_rfl
@[push_cast] theorem tkd146 : kdT Tryz.prog 146 = (some .iface) := by kernel_rfl
@[push_cast] theorem tkd149 : kdT Tryz.prog 149 = (some .pointer) := by kernel_rfl
@[push_cast] theorem tzv149 : zvD Tryz.prog 149 = (some (.lit (.pointer none))) := by kernel_rfl
@[push_cast] theorem tbl152 : blT Tryz.prog 152 = (some ((.nilIface :: []), ((0, 1) :: []))) := by kernel_rfl
@[push_cast] theorem tfl152_0 : flT Tryz.prog 152 0 = (some (0, (1, .false))) := by kernel_rfl
@[push_cast] theorem tkd158 : kdT Tryz.prog 158 = (some (.int .u64)) := by kernel_rfl
@[push_cast] theorem tbt158 : btT Tryz.prog 158 = .false := by kernel_rfl
@[push_cast] theorem tld174 : ldT Tryz.prog 174 = (some (1, .false)) := by kernel_rfl
@[push_cast] theorem tkd174 : kdT Tryz.prog 174 = (some .slice) := by kernel_rfl
@[push_cast] theorem tap174 : apT Tryz.prog 174 = (some (1, 1)) := by kernel_rfl
@[push_cast] theorem tbt174 : btT Tryz.prog 174 = .true := by kernel_rfl
@[push_cast] theorem tld175 : ldT Tryz.prog 175 = (some (1, .false)) := by kernel_rfl
@[push_cast] theorem tkd175 : kdT Tryz.prog 175 = (some .slice) := by kernel_rfl
@[push_cast] theorem tsl175 : slT Tryz.prog 175 = (some (1, .false)) := by kernel_rfl
@[push_cast] theorem tap175 : apT Tryz.prog 175 = (some (1, 16)) := by kernel_rfl
@[push_cast] theorem tmk175 : mkT Tryz.prog 175 = (some (1, (16, (.lit .nilIface)))) := by kernel_rfl
@[push_cast] theorem tkd177 : kdT Tryz.prog 177 = (some .pointer) := by kernel_rfl
@[push_cast] theorem tzv177 : zvD Tryz.prog 177 = (some (.lit (.pointer none))) := by kernel_rfl
@[push_cast] theorem tbl181 : blT Tryz.prog 181 = (some (((.slice none 0 0) :: ((.int .i64 0) :: ((.int .i64 0) :: ((.int .i64 0) :: ((.int .i64 0) :: ((.int .i64 0) :: ((.int .i64 0) :: []))))))), ((0, 1) :: ((1, 6) :: [])))) := by kernel_rfl
@[push_cast] theorem tfl181_0 : flT Tryz.prog 181 0 = (some (0, (1, .false))) := by kernel_rfl
@[push_cast] theorem tfl181_1 : flT Tryz.prog 181 1 = (some (1, (6, .true))) := by kernel_rfl
@[push_cast] theorem tkd195 : kdT Tryz.prog 195 = (some .slice) := by kernel_rfl
@[push_cast] theorem tsl195 : slT Tryz.prog 195 = (some (1, .false)) := by kernel_rfl
@[push_cast] theorem tap195 : apT Tryz.prog 195 = (some (1, 8)) := by kernel_rfl
@[push_cast] theorem tld197 : ldT Tryz.prog 197 = (some (8, .true)) := by kernel_rfl
@[push_cast] theorem tzb197 : zbT Tryz.prog 197 = (some (((.int .i64 0) :: ((.int .i64 0) :: ((.int .i64 0) :: ((.int .i64 0) :: ((.int .i64 0) :: ((.int .i64 0) :: ((.int .i64 0) :: ((.int .i64 0) :: [])))))))), none)) := by kernel_rfl
@[push_cast] theorem tbl197 : blT Tryz.prog 197 = (some (((.int .i64 0) :: ((.int .i64 0) :: ((.int .i64 0) :: ((.int .i64 0) :: ((.int .i64 0) :: ((.int .i64 0) :: ((.int .i64 0) :: ((.int .i64 0) :: [])))))))), ((0, 1) :: ((1, 6) :: ((7, 1) :: []))))) := by kernel_rfl
@[push_cast] theorem tfl197_0 : flT Tryz.prog 197 0 = (some (0, (1, .false))) := by kernel_rfl
@[push_cast] theorem tfl197_1 : flT Tryz.prog 197 1 = (some (1, (6, .true))) := by kernel_rfl
@[push_cast] theorem tfl197_2 : flT Tryz.prog 197 2 = (some (7, (1, .false))) := by kernel_rfl
@[push_cast] theorem tbl199 : blT Tryz.prog 199 = (some (((.pointer none) :: ((.int .i64 0) :: ((.int .i64 0) :: ((.int .i64 0) :: ((.int .i64 0) :: ((.int .i64 0) :: ((.int .i64 0) :: ((.int .i64 0) :: ((.int .i64 0) :: []))))))))), ((0, 1) :: ((1, 8) :: [])))) := by kernel_rfl
@[push_cast] theorem tfl199_0 : flT Tryz.prog 199 0 = (some (0, (1, .false))) := by kernel_rfl
@[push_cast] theorem tfl199_1 : flT Tryz.prog 199 1 = (some (1, (8, .true))) := by kernel_rfl
@[push_cast] theorem tld206 : ldT Tryz.prog 206 = (some (1, .false)) := by kernel_rfl
@[push_cast] theorem tkd206 : kdT Tryz.prog 206 = (some .pointer) := by kernel_rfl
@[push_cast] theorem tzb208 : zbT Tryz.prog 208 = (some (((.pointer none) :: ((.slice none 0 0) :: [])), (some 208))) := by kernel_rfl
@[push_cast] theorem tfl208_0 : flT Tryz.prog 208 0 = (some (0, (1, .false))) := by kernel_rfl
@[push_cast] theorem tfl208_1 : flT Tryz.prog 208 1 = (some (1, (1, .false))) := by kernel_rfl
@[push_cast] theorem tbl219 : blT Tryz.prog 219 = (some (((.slice none 0 0) :: ((.int .i64 0) :: ((.int .i64 0) :: ((.int .i64 0) :: ((.int .i64 0) :: ((.int .i64 0) :: ((.int .i64 0) :: ((.int .i64 0) :: [])))))))), ((0, 1) :: ((1, 1) :: ((2, 6) :: []))))) := by kernel_rfl
@[push_cast] theorem tfl219_0 : flT Tryz.prog 219 0 = (some (0, (1, .false))) := by kernel_rfl
@[push_cast] theorem tfl219_1 : flT Tryz.prog 219 1 = (some (1, (1, .false))) := by kernel_rfl
@[push_cast] theorem tfl219_2 : flT Tryz.prog 219 2 = (some (2, (6, .true))) := by kernel_rfl
@[push_cast] theorem tar226 : arT Tryz.prog 226 = (some (4, (1, .false))) := by kernel_rfl
@[push_cast] theorem tld227 : ldT Tryz.prog 227 = (some (1, .false)) := by kernel_rfl
@[push_cast] theorem tkd227 : kdT Tryz.prog 227 = (some (.int .u64)) := by kernel_rfl
@[push_cast] theorem tzb227 : zbT Tryz.prog 227 = (some (((.int .u64 0) :: []), none)) := by kernel_rfl
@[push_cast] theorem tkd242 : kdT Tryz.prog 242 = (some .other) := by kernel_rfl
def G0 : Gl := fun g => if g = 1 then some (.pd 4 [.agg [.lit (.int .i32 127), .lit (.int .i32 2047), .lit (.int .i32 65535), .lit (.int .i32 1114111)]] 0 0) else none
@[push_cast] theorem glob1 : G0 1 = some (.pd 4 [.agg [.lit (.int .i32 127), .lit (.int .i32 2047), .lit (.int .i32 65535), .lit (.int .i32 1114111)]] 0 0) := rfl
theorem mixed : Tryz.prog.follows .mixedOrders = true := by kernel_rfl
end Go.Proofs.YthnooilghadjkaaGreatDoor
