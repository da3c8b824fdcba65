/- What the theorem leans on, part 6. -/
import Derived.Test.YtkhonlnajdfhfaaGreatDoorProg
import Derived.WalkKit
import Derived.Test.YtkhonlnajdfhfaaGreatDoorLtYPAC
namespace Go.Proofs.YtkhonlnajdfhfaaGreatDoor
@[push_cast] theorem tld3:ldT Tryz.prog 3=(some (1,.false)):=by kernel_rfl
@[push_cast] theorem tkd3:kdT Tryz.prog 3=(some (.int .i64)):=by kernel_rfl
@[push_cast] theorem tzb3:zbT Tryz.prog 3=(some (((.int .i64 0)::[]),none)):=by kernel_rfl
@[push_cast] theorem tbt3:btT Tryz.prog 3 = .false:=by kernel_rfl
@[push_cast] theorem tld4:ldT Tryz.prog 4=(some (1,.false)):=by kernel_rfl
@[push_cast] theorem tkd4:kdT Tryz.prog 4=(some .bool):=by kernel_rfl
@[push_cast] theorem tkd5:kdT Tryz.prog 5=(some (.int .u8)):=by kernel_rfl
@[push_cast] theorem tbt5:btT Tryz.prog 5 = .false:=by kernel_rfl
@[push_cast] theorem tld9:ldT Tryz.prog 9=(some (1,.false)):=by kernel_rfl
@[push_cast] theorem tkd9:kdT Tryz.prog 9=(some .string):=by kernel_rfl
@[push_cast] theorem tld21:ldT Tryz.prog 21=(some (1,.false)):=by kernel_rfl
@[push_cast] theorem tkd21:kdT Tryz.prog 21=(some (.int .i32)):=by kernel_rfl
@[push_cast] theorem tbt21:btT Tryz.prog 21 = .false:=by kernel_rfl
@[push_cast] theorem tld22:ldT Tryz.prog 22=(some (1,.false)):=by kernel_rfl
@[push_cast] theorem tkd22:kdT Tryz.prog 22=(some .slice):=by kernel_rfl
@[push_cast] theorem tsl22:slT Tryz.prog 22=(some (5,.true)):=by kernel_rfl
@[push_cast] theorem tap22:apT Tryz.prog 22=(some (5,48)):=by kernel_rfl
@[push_cast] theorem tmk22:mkT Tryz.prog 22=(some (5,(48,(.agg ((.lit (.int .i64 0))::((.lit (.int .i64 0))::((.lit (.int .i64 0))::((.lit (.int .i64 0))::((.lit (.string ⟨⟨[]⟩⟩))::[]))))))))):=by kernel_rfl
@[push_cast] theorem tld23:ldT Tryz.prog 23=(some (1,.false)):=by kernel_rfl
@[push_cast] theorem tkd23:kdT Tryz.prog 23=(some .slice):=by kernel_rfl
@[push_cast] theorem tsl23:slT Tryz.prog 23=(some (2,.true)):=by kernel_rfl
@[push_cast] theorem tap23:apT Tryz.prog 23=(some (2,16)):=by kernel_rfl
@[push_cast] theorem tld25:ldT Tryz.prog 25=(some (5,.true)):=by kernel_rfl
@[push_cast] theorem tfl25_0:flT Tryz.prog 25 0=(some (0,(1,.false))):=by kernel_rfl
@[push_cast] theorem tfl25_1:flT Tryz.prog 25 1=(some (1,(1,.false))):=by kernel_rfl
@[push_cast] theorem tfl25_2:flT Tryz.prog 25 2=(some (2,(1,.false))):=by kernel_rfl
@[push_cast] theorem tfl25_3:flT Tryz.prog 25 3=(some (3,(1,.false))):=by kernel_rfl
@[push_cast] theorem tfl25_4:flT Tryz.prog 25 4=(some (4,(1,.false))):=by kernel_rfl
@[push_cast] theorem tld28:ldT Tryz.prog 28=(some (1,.false)):=by kernel_rfl
@[push_cast] theorem tkd28:kdT Tryz.prog 28=(some .pointer):=by kernel_rfl
@[push_cast] theorem tld29:ldT Tryz.prog 29=(some (1,.false)):=by kernel_rfl
@[push_cast] theorem tkd29:kdT Tryz.prog 29=(some .pointer):=by kernel_rfl
@[push_cast] theorem tld31:ldT Tryz.prog 31=(some (3,.true)):=by kernel_rfl
@[push_cast] theorem tzb31:zbT Tryz.prog 31=(some (((.pointer none)::((.pointer none)::((.slice none 0 0)::[]))),none)):=by kernel_rfl
@[push_cast] theorem tbl31:blT Tryz.prog 31=(some (((.pointer none)::((.pointer none)::((.slice none 0 0)::[]))),((0,1)::((1,1)::((2,1)::[]))))):=by kernel_rfl
@[push_cast] theorem tfl31_0:flT Tryz.prog 31 0=(some (0,(1,.false))):=by kernel_rfl
@[push_cast] theorem tfl31_1:flT Tryz.prog 31 1=(some (1,(1,.false))):=by kernel_rfl
@[push_cast] theorem tfl31_2:flT Tryz.prog 31 2=(some (2,(1,.false))):=by kernel_rfl
@[push_cast] theorem tld32:ldT Tryz.prog 32=(some (1,.false)):=by kernel_rfl
@[push_cast] theorem tkd32:kdT Tryz.prog 32=(some .pointer):=by kernel_rfl
@[push_cast] theorem tld34:ldT Tryz.prog 34=(some (6,.true)):=by kernel_rfl
@[push_cast] theorem tzb34:zbT Tryz.prog 34=(some (((.pointer none)::((.pointer none)::((.slice none 0 0)::((.pointer none)::((.int .i64 0)::((.int .i64 0)::[])))))),none)):=by kernel_rfl
@[push_cast] theorem tbl34:blT Tryz.prog 34=(some (((.pointer none)::((.pointer none)::((.slice none 0 0)::((.pointer none)::((.int .i64 0)::((.int .i64 0)::[])))))),((0,3)::((3,1)::((4,1)::((5,1)::[])))))):=by kernel_rfl
@[push_cast] theorem tfl34_0:flT Tryz.prog 34 0=(some (0,(3,.true))):=by kernel_rfl
@[push_cast] theorem tfl34_1:flT Tryz.prog 34 1=(some (3,(1,.false))):=by kernel_rfl
@[push_cast] theorem tfl34_2:flT Tryz.prog 34 2=(some (4,(1,.false))):=by kernel_rfl
@[push_cast] theorem tfl34_3:flT Tryz.prog 34 3=(some (5,(1,.false))):=by kernel_rfl
@[push_cast] theorem tkd37:kdT Tryz.prog 37=(some .slice):=by kernel_rfl
@[push_cast] theorem tsl37:slT Tryz.prog 37=(some (7,.true)):=by kernel_rfl
@[push_cast] theorem tap37:apT Tryz.prog 37=(some (7,64)):=by kernel_rfl
@[push_cast] theorem tld43:ldT Tryz.prog 43=(some (1,.false)):=by kernel_rfl
@[push_cast] theorem tkd43:kdT Tryz.prog 43=(some .slice):=by kernel_rfl
@[push_cast] theorem tsl43:slT Tryz.prog 43=(some (1,.false)):=by kernel_rfl
@[push_cast] theorem tap43:apT Tryz.prog 43=(some (1,4)):=by kernel_rfl
@[push_cast] theorem tld45:ldT Tryz.prog 45=(some (3,.true)):=by kernel_rfl
@[push_cast] theorem tzb45:zbT Tryz.prog 45=(some (((.int .i64 0)::((.slice none 0 0)::((.int .i64 0)::[]))),none)):=by kernel_rfl
@[push_cast] theorem tbl45:blT Tryz.prog 45=(some (((.int .i64 0)::((.slice none 0 0)::((.int .i64 0)::[]))),((0,1)::((1,1)::((2,1)::[]))))):=by kernel_rfl
@[push_cast] theorem tfl45_1:flT Tryz.prog 45 1=(some (1,(1,.false))):=by kernel_rfl
@[push_cast] theorem tfl45_2:flT Tryz.prog 45 2=(some (2,(1,.false))):=by kernel_rfl
@[push_cast] theorem tld47:ldT Tryz.prog 47=(some (5,.true)):=by kernel_rfl
@[push_cast] theorem tzb47:zbT Tryz.prog 47=(some (((.slice none 0 0)::((.int .i64 0)::((.slice none 0 0)::((.int .i64 0)::((.slice none 0 0)::[]))))),none)):=by kernel_rfl
@[push_cast] theorem tbl47:blT Tryz.prog 47=(some (((.slice none 0 0)::((.int .i64 0)::((.slice none 0 0)::((.int .i64 0)::((.slice none 0 0)::[]))))),((0,1)::((1,3)::((4,1)::[]))))):=by kernel_rfl
@[push_cast] theorem tfl47_0:flT Tryz.prog 47 0=(some (0,(1,.false))):=by kernel_rfl
@[push_cast] theorem tfl47_1:flT Tryz.prog 47 1=(some (1,(3,.true))):=by kernel_rfl
@[push_cast] theorem tfl47_2:flT Tryz.prog 47 2=(some (4,(1,.false))):=by kernel_rfl
@[push_cast] theorem tld48:ldT Tryz.prog 48=(some (1,.false)):=by kernel_rfl
@[push_cast] theorem tld50:ldT Tryz.prog 50=(some (8,.true)):=by kernel_rfl
@[push_cast] theorem tzb50:zbT Tryz.prog 50=(some (((.slice none 0 0)::((.int .i64 0)::((.slice none 0 0)::((.int .i64 0)::((.slice none 0 0)::((.pointer none)::((.int .i64 0)::((.int .i64 0)::[])))))))),none)):=by kernel_rfl
@[push_cast] theorem tbl50:blT Tryz.prog 50=(some (((.slice none 0 0)::((.int .i64 0)::((.slice none 0 0)::((.int .i64 0)::((.slice none 0 0)::((.pointer none)::((.int .i64 0)::((.int .i64 0)::[])))))))),((0,5)::((5,1)::((6,1)::((7,1)::[])))))):=by kernel_rfl
@[push_cast] theorem tfl50_0:flT Tryz.prog 50 0=(some (0,(5,.true))):=by kernel_rfl
@[push_cast] theorem tfl50_1:flT Tryz.prog 50 1=(some (5,(1,.false))):=by kernel_rfl
@[push_cast] theorem tfl50_2:flT Tryz.prog 50 2=(some (6,(1,.false))):=by kernel_rfl
@[push_cast] theorem tfl50_3:flT Tryz.prog 50 3=(some (7,(1,.false))):=by kernel_rfl
@[push_cast] theorem tld55:ldT Tryz.prog 55=(some (5,.true)):=by kernel_rfl
@[push_cast] theorem tzb55:zbT Tryz.prog 55=(some (((.int .i64 0)::((.int .i64 0)::((.int .i64 0)::((.int .i64 0)::((.string ⟨⟨[]⟩⟩)::[]))))),none)):=by kernel_rfl
@[push_cast] theorem tfl55_0:flT Tryz.prog 55 0=(some (0,(1,.false))):=by kernel_rfl
@[push_cast] theorem tfl55_1:flT Tryz.prog 55 1=(some (1,(1,.false))):=by kernel_rfl
@[push_cast] theorem tfl55_2:flT Tryz.prog 55 2=(some (2,(1,.false))):=by kernel_rfl
@[push_cast] theorem tfl55_3:flT Tryz.prog 55 3=(some (3,(1,.false))):=by kernel_rfl
@[push_cast] theorem tfl55_4:flT Tryz.prog 55 4=(some (4,(1,.false))):=by kernel_rfl
@[push_cast] theorem tld59:ldT Tryz.prog 59=(some (3,.true)):=by kernel_rfl
@[push_cast] theorem tzb59:zbT Tryz.prog 59=(some (((.int .i64 0)::((.slice none 0 0)::((.int .i64 0)::[]))),none)):=by kernel_rfl
@[push_cast] theorem tbl59:blT Tryz.prog 59=(some (((.int .i64 0)::((.slice none 0 0)::((.int .i64 0)::[]))),((0,1)::((1,1)::((2,1)::[]))))):=by kernel_rfl
@[push_cast] theorem tfl59_1:flT Tryz.prog 59 1=(some (1,(1,.false))):=by kernel_rfl
@[push_cast] theorem tfl59_2:flT Tryz.prog 59 2=(some (2,(1,.false))):=by kernel_rfl
@[push_cast] theorem tld66:ldT Tryz.prog 66=(some (1,.false)):=by kernel_rfl
@[push_cast] theorem tkd66:kdT Tryz.prog 66=(some .slice):=by kernel_rfl
@[push_cast] theorem tsl66:slT Tryz.prog 66=(some (4,.true)):=by kernel_rfl
@[push_cast] theorem tap66:apT Tryz.prog 66=(some (4,32)):=by kernel_rfl
@[push_cast] theorem tld68:ldT Tryz.prog 68=(some (7,.true)):=by kernel_rfl
@[push_cast] theorem tzb68:zbT Tryz.prog 68=(some (((.slice none 0 0)::((.int .i64 0)::((.int .i64 0)::((.int .i64 0)::((.bool .false)::((.bool .false)::((.int .i64 0)::[]))))))),none)):=by kernel_rfl
@[push_cast] theorem tbl68:blT Tryz.prog 68=(some (((.slice none 0 0)::((.int .i64 0)::((.int .i64 0)::((.int .i64 0)::((.bool .false)::((.bool .false)::((.int .i64 0)::[]))))))),((0,1)::((1,1)::((2,1)::((3,1)::((4,1)::((5,1)::((6,1)::[]))))))))):=by kernel_rfl
@[push_cast] theorem tfl68_0:flT Tryz.prog 68 0=(some (0,(1,.false))):=by kernel_rfl
@[push_cast] theorem tfl68_1:flT Tryz.prog 68 1=(some (1,(1,.false))):=by kernel_rfl
@[push_cast] theorem tfl68_2:flT Tryz.prog 68 2=(some (2,(1,.false))):=by kernel_rfl
@[push_cast] theorem tfl68_3:flT Tryz.prog 68 3=(some (3,(1,.false))):=by kernel_rfl
@[push_cast] theorem tfl68_4:flT Tryz.prog 68 4=(some (4,(1,.false))):=by kernel_rfl
@[push_cast] theorem tfl68_5:flT Tryz.prog 68 5=(some (5,(1,.false))):=by kernel_rfl
@[push_cast] theorem tfl68_6:flT Tryz.prog 68 6=(some (6,(1,.false))):=by kernel_rfl
@[push_cast] theorem tkd70:kdT Tryz.prog 70=(some .pointer):=by kernel_rfl
@[push_cast] theorem tkd74:kdT Tryz.prog 74=(some .slice):=by kernel_rfl
@[push_cast] theorem tsl74:slT Tryz.prog 74=(some (3,.true)):=by kernel_rfl
@[push_cast] theorem tap74:apT Tryz.prog 74=(some (3,40)):=by kernel_rfl
@[push_cast] theorem tld78:ldT Tryz.prog 78=(some (1,.false)):=by kernel_rfl
@[push_cast] theorem tkd78:kdT Tryz.prog 78=(some .slice):=by kernel_rfl
@[push_cast] theorem tsl78:slT Tryz.prog 78=(some (3,.true)):=by kernel_rfl
@[push_cast] theorem tap78:apT Tryz.prog 78=(some (3,40)):=by kernel_rfl
@[push_cast] theorem tzb78:zbT Tryz.prog 78=(some (((.slice none 0 0)::[]),none)):=by kernel_rfl
@[push_cast] theorem tld80:ldT Tryz.prog 80=(some (3,.true)):=by kernel_rfl
@[push_cast] theorem tzb80:zbT Tryz.prog 80=(some (((.slice none 0 0)::((.int .i64 0)::((.int .i64 0)::[]))),none)):=by kernel_rfl
@[push_cast] theorem tbl80:blT Tryz.prog 80=(some (((.slice none 0 0)::((.int .i64 0)::((.int .i64 0)::[]))),((0,1)::((1,1)::((2,1)::[]))))):=by kernel_rfl
@[push_cast] theorem tfl80_0:flT Tryz.prog 80 0=(some (0,(1,.false))):=by kernel_rfl
@[push_cast] theorem tfl80_1:flT Tryz.prog 80 1=(some (1,(1,.false))):=by kernel_rfl
@[push_cast] theorem tfl80_2:flT Tryz.prog 80 2=(some (2,(1,.false))):=by kernel_rfl
@[push_cast] theorem tkd86:kdT Tryz.prog 86=(some .slice):=by kernel_rfl
@[push_cast] theorem tsl86:slT Tryz.prog 86=(some (3,.true)):=by kernel_rfl
@[push_cast] theorem tap86:apT Tryz.prog 86=(some (3,40)):=by kernel_rfl
@[push_cast] theorem tld88:ldT Tryz.prog 88=(some (1,.false)):=by kernel_rfl
@[push_cast] theorem tkd88:kdT Tryz.prog 88=(some .slice):=by kernel_rfl
@[push_cast] theorem tsl88:slT Tryz.prog 88=(some (3,.true)):=by kernel_rfl
@[push_cast] theorem tap88:apT Tryz.prog 88=(some (3,40)):=by kernel_rfl
@[push_cast] theorem tld90:ldT Tryz.prog 90=(some (3,.true)):=by kernel_rfl
@[push_cast] theorem tzb90:zbT Tryz.prog 90=(some (((.slice none 0 0)::((.int .i64 0)::((.int .i64 0)::[]))),none)):=by kernel_rfl
@[push_cast] theorem tbl90:blT Tryz.prog 90=(some (((.slice none 0 0)::((.int .i64 0)::((.int .i64 0)::[]))),((0,1)::((1,1)::((2,1)::[]))))):=by kernel_rfl
@[push_cast] theorem tfl90_0:flT Tryz.prog 90 0=(some (0,(1,.false))):=by kernel_rfl
@[push_cast] theorem tfl90_1:flT Tryz.prog 90 1=(some (1,(1,.false))):=by kernel_rfl
@[push_cast] theorem tfl90_2:flT Tryz.prog 90 2=(some (2,(1,.false))):=by kernel_rfl
@[push_cast] theorem tld93:ldT Tryz.prog 93=(some (2,.true)):=by kernel_rfl
@[push_cast] theorem tzb93:zbT Tryz.prog 93=(some (((.int .i32 0)::((.int .i64 0)::[])),none)):=by kernel_rfl
@[push_cast] theorem tbl93:blT Tryz.prog 93=(some (((.int .i32 0)::((.int .i64 0)::[])),((0,1)::((1,1)::[])))):=by kernel_rfl
@[push_cast] theorem tfl93_0:flT Tryz.prog 93 0=(some (0,(1,.false))):=by kernel_rfl
@[push_cast] theorem tfl93_1:flT Tryz.prog 93 1=(some (1,(1,.false))):=by kernel_rfl
@[push_cast] theorem tld99:ldT Tryz.prog 99=(some (2,.true)):=by kernel_rfl
@[push_cast] theorem tzb99:zbT Tryz.prog 99=(some (((.int .i64 0)::((.int .i64 0)::[])),none)):=by kernel_rfl
@[push_cast] theorem tbl99:blT Tryz.prog 99=(some (((.int .i64 0)::((.int .i64 0)::[])),((0,1)::((1,1)::[])))):=by kernel_rfl
@[push_cast] theorem teq99:EqOk Tryz.prog 99 ((.int .i64)::((.int .i64)::[])):=EqOk.of (by kernel_rfl)
@[push_cast] theorem tfl99_0:flT Tryz.prog 99 0=(some (0,(1,.false))):=by kernel_rfl
@[push_cast] theorem tfl99_1:flT Tryz.prog 99 1=(some (1,(1,.false))):=by kernel_rfl
@[push_cast] theorem tld100:ldT Tryz.prog 100=(some (1,.false)):=by kernel_rfl
@[push_cast] theorem tkd100:kdT Tryz.prog 100=(some .pointer):=by kernel_rfl
@[push_cast] theorem tld103:ldT Tryz.prog 103=(some (1,.false)):=by kernel_rfl
@[push_cast] theorem tkd103:kdT Tryz.prog 103=(some .slice):=by kernel_rfl
@[push_cast] theorem tsl103:slT Tryz.prog 103=(some (7,.true)):=by kernel_rfl
@[push_cast] theorem tap103:apT Tryz.prog 103=(some (7,64)):=by kernel_rfl
@[push_cast] theorem tmk103:mkT Tryz.prog 103=(some (7,(64,(.agg ((.lit (.int .i64 0))::((.lit (.int .i64 0))::((.lit (.int .i64 0))::((.lit (.int .i64 0))::((.lit (.int .i64 0))::((.lit (.int .i64 0))::((.lit (.string ⟨⟨[]⟩⟩))::[]))))))))))):=by kernel_rfl
@[push_cast] theorem tbl106:blT Tryz.prog 106=(some (((.pointer none)::[]),((0,1)::[]))):=by kernel_rfl
@[push_cast] theorem tfl106_0:flT Tryz.prog 106 0=(some (0,(1,.false))):=by kernel_rfl
@[push_cast] theorem tbl108:blT Tryz.prog 108=(some (((.int .i64 0)::((.slice none 0 0)::[])),((0,1)::((1,1)::[])))):=by kernel_rfl
@[push_cast] theorem tfl108_0:flT Tryz.prog 108 0=(some (0,(1,.false))):=by kernel_rfl
@[push_cast] theorem tfl108_1:flT Tryz.prog 108 1=(some (1,(1,.false))):=by kernel_rfl
@[push_cast] theorem tld111:ldT Tryz.prog 111=(some (0,.true)):=by kernel_rfl
@[push_cast] theorem tzb111:zbT Tryz.prog 111=(some ([],none)):=by kernel_rfl
@[push_cast] theorem tzv111:zvD Tryz.prog 111=(some (.agg [])):=by kernel_rfl
@[push_cast] theorem tbl111:blT Tryz.prog 111=(some ([],[])):=by kernel_rfl
@[push_cast] theorem tld116:ldT Tryz.prog 116=(some (1,.false)):=by kernel_rfl
@[push_cast] theorem tkd116:kdT Tryz.prog 116=(some .slice):=by kernel_rfl
@[push_cast] theorem tsl116:slT Tryz.prog 116=(some (2,.true)):=by kernel_rfl
@[push_cast] theorem tfl118_0:flT Tryz.prog 118 0=(some (0,(1,.false))):=by kernel_rfl
@[push_cast] theorem tfl118_1:flT Tryz.prog 118 1=(some (1,(1,.false))):=by kernel_rfl
@[push_cast] theorem tfl120_0:flT Tryz.prog 120 0=(some (0,(1,.false))):=by kernel_rfl
@[push_cast] theorem tfl120_1:flT Tryz.prog 120 1=(some (1,(1,.false))):=by kernel_rfl
@[push_cast] theorem tbl127:blT Tryz.prog 127=(some (((.int .i64 0)::((.slice none 0 0)::((.slice none 0 0)::[]))),((0,1)::((1,1)::((2,1)::[]))))):=by kernel_rfl
@[push_cast] theorem tfl127_1:flT Tryz.prog 127 1=(some (1,(1,.false))):=by kernel_rfl
@[push_cast] theorem tfl127_2:flT Tryz.prog 127 2=(some (2,(1,.false))):=by kernel_rfl
@[push_cast] theorem tkd134:kdT Tryz.prog 134=(some .slice):=by kernel_rfl
@[push_cast] theorem tsl134:slT Tryz.prog 134=(some (1,.false)):=by kernel_rfl
@[push_cast] theorem tap134:apT Tryz.prog 134=(some (1,24)):=by kernel_rfl
@[push_cast] theorem tld144:ldT Tryz.prog 144=(some (2,.true)):=by kernel_rfl
@[push_cast] theorem tzb144:zbT Tryz.prog 144=(some (((.int .i32 0)::((.int .i32 0)::[])),none)):=by kernel_rfl
@[push_cast] theorem tfl144_0:flT Tryz.prog 144 0=(some (0,(1,.false))):=by kernel_rfl
@[push_cast] theorem tfl144_1:flT Tryz.prog 144 1=(some (1,(1,.false))):=by kernel_rfl
@[push_cast] theorem tld145:ldT Tryz.prog 145=(some (1,.false)):=by kernel_rfl
@[push_cast] theorem tkd145:kdT Tryz.prog 145=(some .slice):=by kernel_rfl
@[push_cast] theorem tsl145:slT Tryz.prog 145=(some (2,.true)):=by kernel_rfl
@[push_cast] theorem tfl147_0:flT Tryz.prog 147 0=(some (0,(1,.false))):=by kernel_rfl
@[push_cast] theorem tfl147_1:flT Tryz.prog 147 1=(some (1,(1,.false))):=by kernel_rfl
@[push_cast] theorem tld152:ldT Tryz.prog 152=(some (4,.true)):=by kernel_rfl
@[push_cast] theorem tzb152:zbT Tryz.prog 152=(some (((.int .i32 0)::((.int .i64 0)::((.int .i64 0)::((.int .i64 0)::[])))),none)):=by kernel_rfl
@[push_cast] theorem tbl152:blT Tryz.prog 152=(some (((.int .i32 0)::((.int .i64 0)::((.int .i64 0)::((.int .i64 0)::[])))),((0,1)::((1,1)::((2,1)::((3,1)::[])))))):=by kernel_rfl
@[push_cast] theorem teq152:EqOk Tryz.prog 152 ((.int .i32)::((.int .i64)::((.int .i64)::((.int .i64)::[])))):=EqOk.of (by kernel_rfl)
@[push_cast] theorem tfl152_0:flT Tryz.prog 152 0=(some (0,(1,.false))):=by kernel_rfl
@[push_cast] theorem tfl152_1:flT Tryz.prog 152 1=(some (1,(1,.false))):=by kernel_rfl
@[push_cast] theorem tfl152_2:flT Tryz.prog 152 2=(some (2,(1,.false))):=by kernel_rfl
@[push_cast] theorem tfl152_3:flT Tryz.prog 152 3=(some (3,(1,.false))):=by kernel_rfl
@[push_cast] theorem tld157:ldT Tryz.prog 157=(some (1,.false)):=by kernel_rfl
@[push_cast] theorem tkd157:kdT Tryz.prog 157=(some .iface):=by kernel_rfl
@[push_cast] theorem tld158:ldT Tryz.prog 158=(some (3,.true)):=by kernel_rfl
@[push_cast] theorem tar158:arT Tryz.prog 158=(some (3,(1,.false))):=by kernel_rfl
@[push_cast] theorem tld160:ldT Tryz.prog 160=(some (7,.true)):=by kernel_rfl
@[push_cast] theorem tzb160:zbT Tryz.prog 160=(some (((.int .i64 0)::((.int .i64 0)::((.int .i64 0)::((.int .i64 0)::((.int .i64 0)::((.int .i64 0)::((.string ⟨⟨[]⟩⟩)::[]))))))),none)):=by kernel_rfl
@[push_cast] theorem tbl160:blT Tryz.prog 160=(some (((.int .i64 0)::((.int .i64 0)::((.int .i64 0)::((.int .i64 0)::((.int .i64 0)::((.int .i64 0)::((.string ⟨⟨[]⟩⟩)::[]))))))),((0,1)::((1,1)::((2,3)::((5,1)::((6,1)::[]))))))):=by kernel_rfl
@[push_cast] theorem tfl160_2:flT Tryz.prog 160 2=(some (2,(3,.true))):=by kernel_rfl
@[push_cast] theorem tfl160_3:flT Tryz.prog 160 3=(some (5,(1,.false))):=by kernel_rfl
@[push_cast] theorem tfl160_4:flT Tryz.prog 160 4=(some (6,(1,.false))):=by kernel_rfl
@[push_cast] theorem tkd163:kdT Tryz.prog 163=(some .pointer):=by kernel_rfl
@[push_cast] theorem tzv163:zvD Tryz.prog 163=(some (.lit (.pointer none))):=by kernel_rfl
@[push_cast] theorem tbl166:blT Tryz.prog 166=(some ((.nilIface::[]),((0,1)::[]))):=by kernel_rfl
@[push_cast] theorem tfl166_0:flT Tryz.prog 166 0=(some (0,(1,.false))):=by kernel_rfl
@[push_cast] theorem tkd171:kdT Tryz.prog 171=(some (.int .u64)):=by kernel_rfl
@[push_cast] theorem tbt171:btT Tryz.prog 171 = .false:=by kernel_rfl
@[push_cast] theorem tld181:ldT Tryz.prog 181=(some (3,.true)):=by kernel_rfl
@[push_cast] theorem tzb181:zbT Tryz.prog 181=(some (((.int .i64 0)::((.int .i64 0)::((.slice none 0 0)::[]))),none)):=by kernel_rfl
@[push_cast] theorem tbl181:blT Tryz.prog 181=(some (((.int .i64 0)::((.int .i64 0)::((.slice none 0 0)::[]))),((0,1)::((1,1)::((2,1)::[]))))):=by kernel_rfl
@[push_cast] theorem tfl181_0:flT Tryz.prog 181 0=(some (0,(1,.false))):=by kernel_rfl
@[push_cast] theorem tfl181_1:flT Tryz.prog 181 1=(some (1,(1,.false))):=by kernel_rfl
@[push_cast] theorem tfl181_2:flT Tryz.prog 181 2=(some (2,(1,.false))):=by kernel_rfl
@[push_cast] theorem tld185:ldT Tryz.prog 185=(some (1,.false)):=by kernel_rfl
@[push_cast] theorem tkd185:kdT Tryz.prog 185=(some .slice):=by kernel_rfl
@[push_cast] theorem tsl185:slT Tryz.prog 185=(some (1,.false)):=by kernel_rfl
@[push_cast] theorem tap185:apT Tryz.prog 185=(some (1,8)):=by kernel_rfl
@[push_cast] theorem tzb185:zbT Tryz.prog 185=(some (((.slice none 0 0)::[]),none)):=by kernel_rfl
@[push_cast] theorem tld195:ldT Tryz.prog 195=(some (6,.true)):=by kernel_rfl
@[push_cast] theorem tzb195:zbT Tryz.prog 195=(some (((.int .i64 0)::((.int .i64 0)::((.int .i64 0)::((.int .i64 0)::((.int .i64 0)::((.int .i64 0)::[])))))),none)):=by kernel_rfl
@[push_cast] theorem tbl195:blT Tryz.prog 195=(some (((.int .i64 0)::((.int .i64 0)::((.int .i64 0)::((.int .i64 0)::((.int .i64 0)::((.int .i64 0)::[])))))),((0,1)::((1,3)::((4,1)::((5,1)::[])))))):=by kernel_rfl
@[push_cast] theorem tfl195_0:flT Tryz.prog 195 0=(some (0,(1,.false))):=by kernel_rfl
@[push_cast] theorem tfl195_1:flT Tryz.prog 195 1=(some (1,(3,.true))):=by kernel_rfl
@[push_cast] theorem tfl195_2:flT Tryz.prog 195 2=(some (4,(1,.false))):=by kernel_rfl
@[push_cast] theorem tfl195_3:flT Tryz.prog 195 3=(some (5,(1,.false))):=by kernel_rfl
@[push_cast] theorem tld197:ldT Tryz.prog 197=(some (14,.true)):=by kernel_rfl
@[push_cast] theorem tzb197:zbT Tryz.prog 197=(some (((.int .i64 0)::((.int .i64 0)::((.int .i64 0)::((.int .i64 0)::((.int .i64 0)::((.int .i64 0)::((.int .i64 0)::((.int .i64 0)::((.int .i64 0)::((.int .i64 0)::((.int .i64 0)::((.int .i64 0)::((.string ⟨⟨[]⟩⟩)::((.int .i64 0)::[])))))))))))))),none)):=by kernel_rfl
@[push_cast] theorem tbl197:blT Tryz.prog 197=(some (((.int .i64 0)::((.int .i64 0)::((.int .i64 0)::((.int .i64 0)::((.int .i64 0)::((.int .i64 0)::((.int .i64 0)::((.int .i64 0)::((.int .i64 0)::((.int .i64 0)::((.int .i64 0)::((.int .i64 0)::((.string ⟨⟨[]⟩⟩)::((.int .i64 0)::[])))))))))))))),((0,6)::((6,7)::((13,1)::[]))))):=by kernel_rfl
@[push_cast] theorem tfl197_0:flT Tryz.prog 197 0=(some (0,(6,.true))):=by kernel_rfl
@[push_cast] theorem tfl197_1:flT Tryz.prog 197 1=(some (6,(7,.true))):=by kernel_rfl
@[push_cast] theorem tfl197_2:flT Tryz.prog 197 2=(some (13,(1,.false))):=by kernel_rfl
@[push_cast] theorem tld202:ldT Tryz.prog 202=(some (3,.true)):=by kernel_rfl
@[push_cast] theorem tzb202:zbT Tryz.prog 202=(some (((.int .i64 0)::((.int .i64 0)::((.slice none 0 0)::[]))),none)):=by kernel_rfl
@[push_cast] theorem tbl202:blT Tryz.prog 202=(some (((.int .i64 0)::((.int .i64 0)::((.slice none 0 0)::[]))),((0,1)::((1,1)::((2,1)::[]))))):=by kernel_rfl
@[push_cast] theorem tfl202_0:flT Tryz.prog 202 0=(some (0,(1,.false))):=by kernel_rfl
@[push_cast] theorem tfl202_1:flT Tryz.prog 202 1=(some (1,(1,.false))):=by kernel_rfl
@[push_cast] theorem tfl202_2:flT Tryz.prog 202 2=(some (2,(1,.false))):=by kernel_rfl
@[push_cast] theorem tar206:arT Tryz.prog 206=(some (2,(1,.false))):=by kernel_rfl
@[push_cast] theorem tbl206:blT Tryz.prog 206=(some (((.int .i64 0)::((.int .i64 0)::[])),((0,1)::((1,1)::[])))):=by kernel_rfl
@[push_cast] theorem tld209:ldT Tryz.prog 209=(some (1,.false)):=by kernel_rfl
@[push_cast] theorem tkd209:kdT Tryz.prog 209=(some .slice):=by kernel_rfl
@[push_cast] theorem tap209:apT Tryz.prog 209=(some (1,1)):=by kernel_rfl
@[push_cast] theorem tbt209:btT Tryz.prog 209 = .true:=by kernel_rfl
@[push_cast] theorem tld210:ldT Tryz.prog 210=(some (1,.false)):=by kernel_rfl
@[push_cast] theorem tkd210:kdT Tryz.prog 210=(some .slice):=by kernel_rfl
@[push_cast] theorem tsl210:slT Tryz.prog 210=(some (1,.false)):=by kernel_rfl
@[push_cast] theorem tap210:apT Tryz.prog 210=(some (1,16)):=by kernel_rfl
@[push_cast] theorem tmk210:mkT Tryz.prog 210=(some (1,(16,(.lit .nilIface)))):=by kernel_rfl
@[push_cast] theorem tkd212:kdT Tryz.prog 212=(some .pointer):=by kernel_rfl
@[push_cast] theorem tzv212:zvD Tryz.prog 212=(some (.lit (.pointer none))):=by kernel_rfl
@[push_cast] theorem tbl216:blT Tryz.prog 216=(some (((.slice none 0 0)::((.int .i64 0)::((.int .i64 0)::((.int .i64 0)::((.int .i64 0)::((.int .i64 0)::((.int .i64 0)::[]))))))),((0,1)::((1,6)::[])))):=by kernel_rfl
@[push_cast] theorem tfl216_0:flT Tryz.prog 216 0=(some (0,(1,.false))):=by kernel_rfl
@[push_cast] theorem tfl216_1:flT Tryz.prog 216 1=(some (1,(6,.true))):=by kernel_rfl
@[push_cast] theorem tkd247:kdT Tryz.prog 247=(some .pointer):=by kernel_rfl
@[push_cast] theorem tbl253:blT Tryz.prog 253=(some (((.slice none 0 0)::((.int .i64 0)::((.int .i64 0)::((.int .i64 0)::((.int .i64 0)::((.int .i64 0)::((.int .i64 0)::((.int .i64 0)::[])))))))),((0,1)::((1,1)::((2,6)::[]))))):=by kernel_rfl
@[push_cast] theorem tfl253_0:flT Tryz.prog 253 0=(some (0,(1,.false))):=by kernel_rfl
@[push_cast] theorem tfl253_1:flT Tryz.prog 253 1=(some (1,(1,.false))):=by kernel_rfl
@[push_cast] theorem tfl253_2:flT Tryz.prog 253 2=(some (2,(6,.true))):=by kernel_rfl
@[push_cast] theorem tar261:arT Tryz.prog 261=(some (4,(1,.false))):=by kernel_rfl
@[push_cast] theorem tld262:ldT Tryz.prog 262=(some (1,.false)):=by kernel_rfl
@[push_cast] theorem tkd262:kdT Tryz.prog 262=(some (.int .u64)):=by kernel_rfl
@[push_cast] theorem tzb262:zbT Tryz.prog 262=(some (((.int .u64 0)::[]),none)):=by kernel_rfl
@[push_cast] theorem tld270:ldT Tryz.prog 270=(some (1,.false)):=by kernel_rfl
@[push_cast] theorem tkd270:kdT Tryz.prog 270=(some .pointer):=by kernel_rfl
@[push_cast] theorem tzb272:zbT Tryz.prog 272=(some (((.pointer none)::((.slice none 0 0)::[])),(some 272))):=by kernel_rfl
@[push_cast] theorem tfl272_0:flT Tryz.prog 272 0=(some (0,(1,.false))):=by kernel_rfl
@[push_cast] theorem tfl272_1:flT Tryz.prog 272 1=(some (1,(1,.false))):=by kernel_rfl
@[push_cast] theorem tld297:ldT Tryz.prog 297=(some (8,.true)):=by kernel_rfl
@[push_cast] theorem tzb297:zbT Tryz.prog 297=(some (((.int .i64 0)::((.int .i64 0)::((.int .i64 0)::((.int .i64 0)::((.int .i64 0)::((.int .i64 0)::((.int .i64 0)::((.int .i64 0)::[])))))))),none)):=by kernel_rfl
@[push_cast] theorem tbl297:blT Tryz.prog 297=(some (((.int .i64 0)::((.int .i64 0)::((.int .i64 0)::((.int .i64 0)::((.int .i64 0)::((.int .i64 0)::((.int .i64 0)::((.int .i64 0)::[])))))))),((0,1)::((1,6)::((7,1)::[]))))):=by kernel_rfl
@[push_cast] theorem tfl297_0:flT Tryz.prog 297 0=(some (0,(1,.false))):=by kernel_rfl
@[push_cast] theorem tfl297_1:flT Tryz.prog 297 1=(some (1,(6,.true))):=by kernel_rfl
@[push_cast] theorem tfl297_2:flT Tryz.prog 297 2=(some (7,(1,.false))):=by kernel_rfl
@[push_cast] theorem tbl299:blT Tryz.prog 299=(some (((.pointer none)::((.int .i64 0)::((.int .i64 0)::((.int .i64 0)::((.int .i64 0)::((.int .i64 0)::((.int .i64 0)::((.int .i64 0)::((.int .i64 0)::[]))))))))),((0,1)::((1,8)::[])))):=by kernel_rfl
@[push_cast] theorem tfl299_0:flT Tryz.prog 299 0=(some (0,(1,.false))):=by kernel_rfl
@[push_cast] theorem tfl299_1:flT Tryz.prog 299 1=(some (1,(8,.true))):=by kernel_rfl
@[push_cast] theorem tkd310:kdT Tryz.prog 310=(some .other):=by kernel_rfl
def G0:Gl:=fun g=>if g=0 then some (.pd 6 [.agg [.lit (.int .i32 768),.lit (.int .i32 879),.lit (.int .i32 8203),.lit (.int .i32 8207),.lit (.int .i32 65024),.lit (.int .i32 65039)]] 0 0) else if g=1 then some (.pd 16 [.agg [.lit (.int .i32 4352),.lit (.int .i32 4447),.lit (.int .i32 11904),.lit (.int .i32 12350),.lit (.int .i32 12353),.lit (.int .i32 19903),.lit (.int .i32 19968),.lit (.int .i32 40959),.lit (.int .i32 44032),.lit (.int .i32 55203),.lit (.int .i32 63744),.lit (.int .i32 64255),.lit (.int .i32 65280),.lit (.int .i32 65376),.lit (.int .i32 127744),.lit (.int .i32 128591)]] 0 0) else if g=2 then some (.pd 4 [.agg [.lit (.int .i32 127),.lit (.int .i32 2047),.lit (.int .i32 65535),.lit (.int .i32 1114111)]] 0 0) else none
@[push_cast] theorem glob2:G0 2=some (.pd 4 [.agg [.lit (.int .i32 127),.lit (.int .i32 2047),.lit (.int .i32 65535),.lit (.int .i32 1114111)]] 0 0):=rfl
theorem mixed:Tryz.prog.follows .mixedOrders=true:=by kernel_rfl
end Go.Proofs.YtkhonlnajdfhfaaGreatDoor
