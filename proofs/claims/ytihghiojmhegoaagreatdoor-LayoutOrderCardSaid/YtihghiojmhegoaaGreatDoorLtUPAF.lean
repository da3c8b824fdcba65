/- What the theorem leans on, part 6. -/
import Derived.Test.YtihghiojmhegoaaGreatDoorProg
import Derived.WalkKit
import Derived.Test.YtihghiojmhegoaaGreatDoorLtUPAC
namespace Go.Proofs.YtihghiojmhegoaaGreatDoor
@[push_cast] theorem tld3:ldT Tryz.prog 3=(some (1,.false)):=by kernel_rfl
@[push_cast] theorem tkd3:kdT Tryz.prog 3=(some (.int .i64)):=by kernel_rfl
@[push_cast] theorem tzb3:zbT Tryz.prog 3=(some (((.int .i64 0)::[]),none)):=by kernel_rfl
@[push_cast] theorem tbt3:btT Tryz.prog 3 = .false:=by kernel_rfl
@[push_cast] theorem tld4:ldT Tryz.prog 4=(some (1,.false)):=by kernel_rfl
@[push_cast] theorem tkd4:kdT Tryz.prog 4=(some .bool):=by kernel_rfl
@[push_cast] theorem tkd5:kdT Tryz.prog 5=(some (.int .u8)):=by kernel_rfl
@[push_cast] theorem tbt5:btT Tryz.prog 5 = .false:=by kernel_rfl
@[push_cast] theorem tld9:ldT Tryz.prog 9=(some (1,.false)):=by kernel_rfl
@[push_cast] theorem tkd9:kdT Tryz.prog 9=(some .string):=by kernel_rfl
@[push_cast] theorem tsl9:slT Tryz.prog 9=none:=by kernel_rfl
@[push_cast] theorem tld21:ldT Tryz.prog 21=(some (1,.false)):=by kernel_rfl
@[push_cast] theorem tkd21:kdT Tryz.prog 21=(some (.int .i32)):=by kernel_rfl
@[push_cast] theorem tbt21:btT Tryz.prog 21 = .false:=by kernel_rfl
@[push_cast] theorem tld22:ldT Tryz.prog 22=(some (1,.false)):=by kernel_rfl
@[push_cast] theorem tkd22:kdT Tryz.prog 22=(some .slice):=by kernel_rfl
@[push_cast] theorem tsl22:slT Tryz.prog 22=(some (5,.true)):=by kernel_rfl
@[push_cast] theorem tap22:apT Tryz.prog 22=(some (5,48)):=by kernel_rfl
@[push_cast] theorem tmk22:mkT Tryz.prog 22=(some (5,(48,(.agg ((.lit (.int .i64 0))::((.lit (.int .i64 0))::((.lit (.int .i64 0))::((.lit (.int .i64 0))::((.lit (.string ⟨⟨[]⟩⟩))::[]))))))))):=by kernel_rfl
@[push_cast] theorem tld23:ldT Tryz.prog 23=(some (1,.false)):=by kernel_rfl
@[push_cast] theorem tkd23:kdT Tryz.prog 23=(some .slice):=by kernel_rfl
@[push_cast] theorem tsl23:slT Tryz.prog 23=(some (2,.true)):=by kernel_rfl
@[push_cast] theorem tap23:apT Tryz.prog 23=(some (2,16)):=by kernel_rfl
@[push_cast] theorem tld25:ldT Tryz.prog 25=(some (5,.true)):=by kernel_rfl
@[push_cast] theorem tfl25_0:flT Tryz.prog 25 0=(some (0,(1,.false))):=by kernel_rfl
@[push_cast] theorem tfl25_1:flT Tryz.prog 25 1=(some (1,(1,.false))):=by kernel_rfl
@[push_cast] theorem tfl25_2:flT Tryz.prog 25 2=(some (2,(1,.false))):=by kernel_rfl
@[push_cast] theorem tfl25_3:flT Tryz.prog 25 3=(some (3,(1,.false))):=by kernel_rfl
@[push_cast] theorem tfl25_4:flT Tryz.prog 25 4=(some (4,(1,.false))):=by kernel_rfl
@[push_cast] theorem tld28:ldT Tryz.prog 28=(some (1,.false)):=by kernel_rfl
@[push_cast] theorem tkd28:kdT Tryz.prog 28=(some .pointer):=by kernel_rfl
@[push_cast] theorem tld29:ldT Tryz.prog 29=(some (1,.false)):=by kernel_rfl
@[push_cast] theorem tkd29:kdT Tryz.prog 29=(some .pointer):=by kernel_rfl
@[push_cast] theorem tld31:ldT Tryz.prog 31=(some (3,.true)):=by kernel_rfl
@[push_cast] theorem tzb31:zbT Tryz.prog 31=(some (((.pointer none)::((.pointer none)::((.slice none 0 0)::[]))),none)):=by kernel_rfl
@[push_cast] theorem tbl31:blT Tryz.prog 31=(some (((.pointer none)::((.pointer none)::((.slice none 0 0)::[]))),((0,1)::((1,1)::((2,1)::[]))))):=by kernel_rfl
@[push_cast] theorem tfl31_0:flT Tryz.prog 31 0=(some (0,(1,.false))):=by kernel_rfl
@[push_cast] theorem tfl31_1:flT Tryz.prog 31 1=(some (1,(1,.false))):=by kernel_rfl
@[push_cast] theorem tfl31_2:flT Tryz.prog 31 2=(some (2,(1,.false))):=by kernel_rfl
@[push_cast] theorem tld32:ldT Tryz.prog 32=(some (1,.false)):=by kernel_rfl
@[push_cast] theorem tkd32:kdT Tryz.prog 32=(some .pointer):=by kernel_rfl
@[push_cast] theorem tld34:ldT Tryz.prog 34=(some (6,.true)):=by kernel_rfl
@[push_cast] theorem tzb34:zbT Tryz.prog 34=(some (((.pointer none)::((.pointer none)::((.slice none 0 0)::((.pointer none)::((.int .i64 0)::((.int .i64 0)::[])))))),none)):=by kernel_rfl
@[push_cast] theorem tbl34:blT Tryz.prog 34=(some (((.pointer none)::((.pointer none)::((.slice none 0 0)::((.pointer none)::((.int .i64 0)::((.int .i64 0)::[])))))),((0,3)::((3,1)::((4,1)::((5,1)::[])))))):=by kernel_rfl
@[push_cast] theorem tfl34_0:flT Tryz.prog 34 0=(some (0,(3,.true))):=by kernel_rfl
@[push_cast] theorem tfl34_1:flT Tryz.prog 34 1=(some (3,(1,.false))):=by kernel_rfl
@[push_cast] theorem tfl34_2:flT Tryz.prog 34 2=(some (4,(1,.false))):=by kernel_rfl
@[push_cast] theorem tfl34_3:flT Tryz.prog 34 3=(some (5,(1,.false))):=by kernel_rfl
@[push_cast] theorem tkd37:kdT Tryz.prog 37=(some .slice):=by kernel_rfl
@[push_cast] theorem tsl37:slT Tryz.prog 37=(some (7,.true)):=by kernel_rfl
@[push_cast] theorem tap37:apT Tryz.prog 37=(some (7,64)):=by kernel_rfl
@[push_cast] theorem tld43:ldT Tryz.prog 43=(some (1,.false)):=by kernel_rfl
@[push_cast] theorem tkd43:kdT Tryz.prog 43=(some .slice):=by kernel_rfl
@[push_cast] theorem tsl43:slT Tryz.prog 43=(some (1,.false)):=by kernel_rfl
@[push_cast] theorem tap43:apT Tryz.prog 43=(some (1,4)):=by kernel_rfl
@[push_cast] theorem tld45:ldT Tryz.prog 45=(some (3,.true)):=by kernel_rfl
@[push_cast] theorem tzb45:zbT Tryz.prog 45=(some (((.int .i64 0)::((.slice none 0 0)::((.int .i64 0)::[]))),none)):=by kernel_rfl
@[push_cast] theorem tbl45:blT Tryz.prog 45=(some (((.int .i64 0)::((.slice none 0 0)::((.int .i64 0)::[]))),((0,1)::((1,1)::((2,1)::[]))))):=by kernel_rfl
@[push_cast] theorem tfl45_2:flT Tryz.prog 45 2=(some (2,(1,.false))):=by kernel_rfl
@[push_cast] theorem tld47:ldT Tryz.prog 47=(some (5,.true)):=by kernel_rfl
@[push_cast] theorem tzb47:zbT Tryz.prog 47=(some (((.slice none 0 0)::((.int .i64 0)::((.slice none 0 0)::((.int .i64 0)::((.slice none 0 0)::[]))))),none)):=by kernel_rfl
@[push_cast] theorem tbl47:blT Tryz.prog 47=(some (((.slice none 0 0)::((.int .i64 0)::((.slice none 0 0)::((.int .i64 0)::((.slice none 0 0)::[]))))),((0,1)::((1,3)::((4,1)::[]))))):=by kernel_rfl
@[push_cast] theorem tfl47_0:flT Tryz.prog 47 0=(some (0,(1,.false))):=by kernel_rfl
@[push_cast] theorem tfl47_2:flT Tryz.prog 47 2=(some (4,(1,.false))):=by kernel_rfl
@[push_cast] theorem tld50:ldT Tryz.prog 50=(some (8,.true)):=by kernel_rfl
@[push_cast] theorem tzb50:zbT Tryz.prog 50=(some (((.slice none 0 0)::((.int .i64 0)::((.slice none 0 0)::((.int .i64 0)::((.slice none 0 0)::((.pointer none)::((.int .i64 0)::((.int .i64 0)::[])))))))),none)):=by kernel_rfl
@[push_cast] theorem tbl50:blT Tryz.prog 50=(some (((.slice none 0 0)::((.int .i64 0)::((.slice none 0 0)::((.int .i64 0)::((.slice none 0 0)::((.pointer none)::((.int .i64 0)::((.int .i64 0)::[])))))))),((0,5)::((5,1)::((6,1)::((7,1)::[])))))):=by kernel_rfl
@[push_cast] theorem tfl50_0:flT Tryz.prog 50 0=(some (0,(5,.true))):=by kernel_rfl
@[push_cast] theorem tld54:ldT Tryz.prog 54=(some (1,.false)):=by kernel_rfl
@[push_cast] theorem tkd54:kdT Tryz.prog 54=(some .slice):=by kernel_rfl
@[push_cast] theorem tsl54:slT Tryz.prog 54=(some (4,.true)):=by kernel_rfl
@[push_cast] theorem tap54:apT Tryz.prog 54=(some (4,32)):=by kernel_rfl
@[push_cast] theorem tld56:ldT Tryz.prog 56=(some (7,.true)):=by kernel_rfl
@[push_cast] theorem tzb56:zbT Tryz.prog 56=(some (((.slice none 0 0)::((.int .i64 0)::((.int .i64 0)::((.int .i64 0)::((.bool .false)::((.bool .false)::((.int .i64 0)::[]))))))),none)):=by kernel_rfl
@[push_cast] theorem tbl56:blT Tryz.prog 56=(some (((.slice none 0 0)::((.int .i64 0)::((.int .i64 0)::((.int .i64 0)::((.bool .false)::((.bool .false)::((.int .i64 0)::[]))))))),((0,1)::((1,1)::((2,1)::((3,1)::((4,1)::((5,1)::((6,1)::[]))))))))):=by kernel_rfl
@[push_cast] theorem tfl56_0:flT Tryz.prog 56 0=(some (0,(1,.false))):=by kernel_rfl
@[push_cast] theorem tfl56_1:flT Tryz.prog 56 1=(some (1,(1,.false))):=by kernel_rfl
@[push_cast] theorem tfl56_2:flT Tryz.prog 56 2=(some (2,(1,.false))):=by kernel_rfl
@[push_cast] theorem tfl56_3:flT Tryz.prog 56 3=(some (3,(1,.false))):=by kernel_rfl
@[push_cast] theorem tfl56_4:flT Tryz.prog 56 4=(some (4,(1,.false))):=by kernel_rfl
@[push_cast] theorem tfl56_5:flT Tryz.prog 56 5=(some (5,(1,.false))):=by kernel_rfl
@[push_cast] theorem tfl56_6:flT Tryz.prog 56 6=(some (6,(1,.false))):=by kernel_rfl
@[push_cast] theorem tld58:ldT Tryz.prog 58=(some (4,.true)):=by kernel_rfl
@[push_cast] theorem tzb58:zbT Tryz.prog 58=(some (((.int .i32 0)::((.int .i64 0)::((.int .i64 0)::((.int .i64 0)::[])))),none)):=by kernel_rfl
@[push_cast] theorem tbl58:blT Tryz.prog 58=(some (((.int .i32 0)::((.int .i64 0)::((.int .i64 0)::((.int .i64 0)::[])))),((0,1)::((1,1)::((2,1)::((3,1)::[])))))):=by kernel_rfl
@[push_cast] theorem teq58:EqOk Tryz.prog 58 ((.int .i32)::((.int .i64)::((.int .i64)::((.int .i64)::[])))):=EqOk.of (by kernel_rfl)
@[push_cast] theorem tfl58_0:flT Tryz.prog 58 0=(some (0,(1,.false))):=by kernel_rfl
@[push_cast] theorem tfl58_1:flT Tryz.prog 58 1=(some (1,(1,.false))):=by kernel_rfl
@[push_cast] theorem tfl58_2:flT Tryz.prog 58 2=(some (2,(1,.false))):=by kernel_rfl
@[push_cast] theorem tfl58_3:flT Tryz.prog 58 3=(some (3,(1,.false))):=by kernel_rfl
@[push_cast] theorem tkd61:kdT Tryz.prog 61=(some .slice):=by kernel_rfl
@[push_cast] theorem tsl61:slT Tryz.prog 61=(some (3,.true)):=by kernel_rfl
@[push_cast] theorem tap61:apT Tryz.prog 61=(some (3,40)):=by kernel_rfl
@[push_cast] theorem tld64:ldT Tryz.prog 64=(some (1,.false)):=by kernel_rfl
@[push_cast] theorem tkd64:kdT Tryz.prog 64=(some .slice):=by kernel_rfl
@[push_cast] theorem tsl64:slT Tryz.prog 64=(some (3,.true)):=by kernel_rfl
@[push_cast] theorem tap64:apT Tryz.prog 64=(some (3,40)):=by kernel_rfl
@[push_cast] theorem tzb64:zbT Tryz.prog 64=(some (((.slice none 0 0)::[]),none)):=by kernel_rfl
@[push_cast] theorem tld66:ldT Tryz.prog 66=(some (3,.true)):=by kernel_rfl
@[push_cast] theorem tzb66:zbT Tryz.prog 66=(some (((.slice none 0 0)::((.int .i64 0)::((.int .i64 0)::[]))),none)):=by kernel_rfl
@[push_cast] theorem tbl66:blT Tryz.prog 66=(some (((.slice none 0 0)::((.int .i64 0)::((.int .i64 0)::[]))),((0,1)::((1,1)::((2,1)::[]))))):=by kernel_rfl
@[push_cast] theorem tfl66_0:flT Tryz.prog 66 0=(some (0,(1,.false))):=by kernel_rfl
@[push_cast] theorem tfl66_1:flT Tryz.prog 66 1=(some (1,(1,.false))):=by kernel_rfl
@[push_cast] theorem tfl66_2:flT Tryz.prog 66 2=(some (2,(1,.false))):=by kernel_rfl
@[push_cast] theorem tld69:ldT Tryz.prog 69=(some (5,.true)):=by kernel_rfl
@[push_cast] theorem tzb69:zbT Tryz.prog 69=(some (((.int .i64 0)::((.int .i64 0)::((.int .i64 0)::((.int .i64 0)::((.string ⟨⟨[]⟩⟩)::[]))))),none)):=by kernel_rfl
@[push_cast] theorem tfl69_0:flT Tryz.prog 69 0=(some (0,(1,.false))):=by kernel_rfl
@[push_cast] theorem tfl69_1:flT Tryz.prog 69 1=(some (1,(1,.false))):=by kernel_rfl
@[push_cast] theorem tfl69_2:flT Tryz.prog 69 2=(some (2,(1,.false))):=by kernel_rfl
@[push_cast] theorem tfl69_3:flT Tryz.prog 69 3=(some (3,(1,.false))):=by kernel_rfl
@[push_cast] theorem tfl69_4:flT Tryz.prog 69 4=(some (4,(1,.false))):=by kernel_rfl
@[push_cast] theorem tld73:ldT Tryz.prog 73=(some (3,.true)):=by kernel_rfl
@[push_cast] theorem tzb73:zbT Tryz.prog 73=(some (((.int .i64 0)::((.slice none 0 0)::((.int .i64 0)::[]))),none)):=by kernel_rfl
@[push_cast] theorem tbl73:blT Tryz.prog 73=(some (((.int .i64 0)::((.slice none 0 0)::((.int .i64 0)::[]))),((0,1)::((1,1)::((2,1)::[]))))):=by kernel_rfl
@[push_cast] theorem tfl73_1:flT Tryz.prog 73 1=(some (1,(1,.false))):=by kernel_rfl
@[push_cast] theorem tfl73_2:flT Tryz.prog 73 2=(some (2,(1,.false))):=by kernel_rfl
@[push_cast] theorem tkd81:kdT Tryz.prog 81=(some .pointer):=by kernel_rfl
@[push_cast] theorem tld98:ldT Tryz.prog 98=(some (2,.true)):=by kernel_rfl
@[push_cast] theorem tkd98:kdT Tryz.prog 98=(some .other):=by kernel_rfl
@[push_cast] theorem tzb98:zbT Tryz.prog 98=(some (((.int .i64 0)::((.int .i64 0)::[])),none)):=by kernel_rfl
@[push_cast] theorem tbl98:blT Tryz.prog 98=(some (((.int .i64 0)::((.int .i64 0)::[])),((0,1)::((1,1)::[])))):=by kernel_rfl
@[push_cast] theorem teq98:EqOk Tryz.prog 98 ((.int .i64)::((.int .i64)::[])):=EqOk.of (by kernel_rfl)
@[push_cast] theorem tfl98_0:flT Tryz.prog 98 0=(some (0,(1,.false))):=by kernel_rfl
@[push_cast] theorem tfl98_1:flT Tryz.prog 98 1=(some (1,(1,.false))):=by kernel_rfl
@[push_cast] theorem tld102:ldT Tryz.prog 102=(some (2,.true)):=by kernel_rfl
@[push_cast] theorem tzb102:zbT Tryz.prog 102=(some (((.int .i32 0)::((.int .i64 0)::[])),none)):=by kernel_rfl
@[push_cast] theorem tbl102:blT Tryz.prog 102=(some (((.int .i32 0)::((.int .i64 0)::[])),((0,1)::((1,1)::[])))):=by kernel_rfl
@[push_cast] theorem tfl102_0:flT Tryz.prog 102 0=(some (0,(1,.false))):=by kernel_rfl
@[push_cast] theorem tfl102_1:flT Tryz.prog 102 1=(some (1,(1,.false))):=by kernel_rfl
@[push_cast] theorem tld107:ldT Tryz.prog 107=(some (1,.false)):=by kernel_rfl
@[push_cast] theorem tkd107:kdT Tryz.prog 107=(some .pointer):=by kernel_rfl
@[push_cast] theorem tld110:ldT Tryz.prog 110=(some (1,.false)):=by kernel_rfl
@[push_cast] theorem tkd110:kdT Tryz.prog 110=(some .slice):=by kernel_rfl
@[push_cast] theorem tsl110:slT Tryz.prog 110=(some (7,.true)):=by kernel_rfl
@[push_cast] theorem tap110:apT Tryz.prog 110=(some (7,64)):=by kernel_rfl
@[push_cast] theorem tmk110:mkT Tryz.prog 110=(some (7,(64,(.agg ((.lit (.int .i64 0))::((.lit (.int .i64 0))::((.lit (.int .i64 0))::((.lit (.int .i64 0))::((.lit (.int .i64 0))::((.lit (.int .i64 0))::((.lit (.string ⟨⟨[]⟩⟩))::[]))))))))))):=by kernel_rfl
@[push_cast] theorem tbl113:blT Tryz.prog 113=(some (((.pointer none)::[]),((0,1)::[]))):=by kernel_rfl
@[push_cast] theorem tfl113_0:flT Tryz.prog 113 0=(some (0,(1,.false))):=by kernel_rfl
@[push_cast] theorem tbl115:blT Tryz.prog 115=(some (((.int .i64 0)::((.slice none 0 0)::[])),((0,1)::((1,1)::[])))):=by kernel_rfl
@[push_cast] theorem tfl115_0:flT Tryz.prog 115 0=(some (0,(1,.false))):=by kernel_rfl
@[push_cast] theorem tfl115_1:flT Tryz.prog 115 1=(some (1,(1,.false))):=by kernel_rfl
@[push_cast] theorem tld118:ldT Tryz.prog 118=(some (0,.true)):=by kernel_rfl
@[push_cast] theorem tzb118:zbT Tryz.prog 118=(some ([],none)):=by kernel_rfl
@[push_cast] theorem tzv118:zvD Tryz.prog 118=(some (.agg [])):=by kernel_rfl
@[push_cast] theorem tbl118:blT Tryz.prog 118=(some ([],[])):=by kernel_rfl
@[push_cast] theorem tld123:ldT Tryz.prog 123=(some (1,.false)):=by kernel_rfl
@[push_cast] theorem tkd123:kdT Tryz.prog 123=(some .slice):=by kernel_rfl
@[push_cast] theorem tsl123:slT Tryz.prog 123=(some (2,.true)):=by kernel_rfl
@[push_cast] theorem tfl125_0:flT Tryz.prog 125 0=(some (0,(1,.false))):=by kernel_rfl
@[push_cast] theorem tfl125_1:flT Tryz.prog 125 1=(some (1,(1,.false))):=by kernel_rfl
@[push_cast] theorem tfl127_0:flT Tryz.prog 127 0=(some (0,(1,.false))):=by kernel_rfl
@[push_cast] theorem tfl127_1:flT Tryz.prog 127 1=(some (1,(1,.false))):=by kernel_rfl
@[push_cast] theorem tbl134:blT Tryz.prog 134=(some (((.int .i64 0)::((.slice none 0 0)::((.slice none 0 0)::[]))),((0,1)::((1,1)::((2,1)::[]))))):=by kernel_rfl
@[push_cast] theorem tfl134_1:flT Tryz.prog 134 1=(some (1,(1,.false))):=by kernel_rfl
@[push_cast] theorem tfl134_2:flT Tryz.prog 134 2=(some (2,(1,.false))):=by kernel_rfl
@[push_cast] theorem tkd139:kdT Tryz.prog 139=(some .slice):=by kernel_rfl
@[push_cast] theorem tsl139:slT Tryz.prog 139=(some (1,.false)):=by kernel_rfl
@[push_cast] theorem tap139:apT Tryz.prog 139=(some (1,24)):=by kernel_rfl
@[push_cast] theorem tld163:ldT Tryz.prog 163=(some (3,.true)):=by kernel_rfl
@[push_cast] theorem tzb163:zbT Tryz.prog 163=(some (((.int .i64 0)::((.int .i64 0)::((.slice none 0 0)::[]))),none)):=by kernel_rfl
@[push_cast] theorem tbl163:blT Tryz.prog 163=(some (((.int .i64 0)::((.int .i64 0)::((.slice none 0 0)::[]))),((0,1)::((1,1)::((2,1)::[]))))):=by kernel_rfl
@[push_cast] theorem tfl163_0:flT Tryz.prog 163 0=(some (0,(1,.false))):=by kernel_rfl
@[push_cast] theorem tfl163_1:flT Tryz.prog 163 1=(some (1,(1,.false))):=by kernel_rfl
@[push_cast] theorem tfl163_2:flT Tryz.prog 163 2=(some (2,(1,.false))):=by kernel_rfl
@[push_cast] theorem tld168:ldT Tryz.prog 168=(some (1,.false)):=by kernel_rfl
@[push_cast] theorem tkd168:kdT Tryz.prog 168=(some .iface):=by kernel_rfl
@[push_cast] theorem tld169:ldT Tryz.prog 169=(some (3,.true)):=by kernel_rfl
@[push_cast] theorem tar169:arT Tryz.prog 169=(some (3,(1,.false))):=by kernel_rfl
@[push_cast] theorem tld171:ldT Tryz.prog 171=(some (7,.true)):=by kernel_rfl
@[push_cast] theorem tzb171:zbT Tryz.prog 171=(some (((.int .i64 0)::((.int .i64 0)::((.int .i64 0)::((.int .i64 0)::((.int .i64 0)::((.int .i64 0)::((.string ⟨⟨[]⟩⟩)::[]))))))),none)):=by kernel_rfl
@[push_cast] theorem tbl171:blT Tryz.prog 171=(some (((.int .i64 0)::((.int .i64 0)::((.int .i64 0)::((.int .i64 0)::((.int .i64 0)::((.int .i64 0)::((.string ⟨⟨[]⟩⟩)::[]))))))),((0,1)::((1,1)::((2,3)::((5,1)::((6,1)::[]))))))):=by kernel_rfl
@[push_cast] theorem tfl171_2:flT Tryz.prog 171 2=(some (2,(3,.true))):=by kernel_rfl
@[push_cast] theorem tfl171_3:flT Tryz.prog 171 3=(some (5,(1,.false))):=by kernel_rfl
@[push_cast] theorem tfl171_4:flT Tryz.prog 171 4=(some (6,(1,.false))):=by kernel_rfl
@[push_cast] theorem tkd174:kdT Tryz.prog 174=(some .pointer):=by kernel_rfl
@[push_cast] theorem tzv174:zvD Tryz.prog 174=(some (.lit (.pointer none))):=by kernel_rfl
@[push_cast] theorem tbl177:blT Tryz.prog 177=(some ((.nilIface::[]),((0,1)::[]))):=by kernel_rfl
@[push_cast] theorem tfl177_0:flT Tryz.prog 177 0=(some (0,(1,.false))):=by kernel_rfl
@[push_cast] theorem tkd182:kdT Tryz.prog 182=(some (.int .u64)):=by kernel_rfl
@[push_cast] theorem tbt182:btT Tryz.prog 182 = .false:=by kernel_rfl
@[push_cast] theorem tld188:ldT Tryz.prog 188=(some (1,.false)):=by kernel_rfl
@[push_cast] theorem tkd188:kdT Tryz.prog 188=(some .slice):=by kernel_rfl
@[push_cast] theorem tsl188:slT Tryz.prog 188=(some (1,.false)):=by kernel_rfl
@[push_cast] theorem tap188:apT Tryz.prog 188=(some (1,8)):=by kernel_rfl
@[push_cast] theorem tzb188:zbT Tryz.prog 188=(some (((.slice none 0 0)::[]),none)):=by kernel_rfl
@[push_cast] theorem tld198:ldT Tryz.prog 198=(some (6,.true)):=by kernel_rfl
@[push_cast] theorem tzb198:zbT Tryz.prog 198=(some (((.int .i64 0)::((.int .i64 0)::((.int .i64 0)::((.int .i64 0)::((.int .i64 0)::((.int .i64 0)::[])))))),none)):=by kernel_rfl
@[push_cast] theorem tbl198:blT Tryz.prog 198=(some (((.int .i64 0)::((.int .i64 0)::((.int .i64 0)::((.int .i64 0)::((.int .i64 0)::((.int .i64 0)::[])))))),((0,1)::((1,3)::((4,1)::((5,1)::[])))))):=by kernel_rfl
@[push_cast] theorem tfl198_0:flT Tryz.prog 198 0=(some (0,(1,.false))):=by kernel_rfl
@[push_cast] theorem tfl198_1:flT Tryz.prog 198 1=(some (1,(3,.true))):=by kernel_rfl
@[push_cast] theorem tfl198_2:flT Tryz.prog 198 2=(some (4,(1,.false))):=by kernel_rfl
@[push_cast] theorem tfl198_3:flT Tryz.prog 198 3=(some (5,(1,.false))):=by kernel_rfl
@[push_cast] theorem tld200:ldT Tryz.prog 200=(some (14,.true)):=by kernel_rfl
@[push_cast] theorem tzb200:zbT Tryz.prog 200=(some (((.int .i64 0)::((.int .i64 0)::((.int .i64 0)::((.int .i64 0)::((.int .i64 0)::((.int .i64 0)::((.int .i64 0)::((.int .i64 0)::((.int .i64 0)::((.int .i64 0)::((.int .i64 0)::((.int .i64 0)::((.string ⟨⟨[]⟩⟩)::((.int .i64 0)::[])))))))))))))),none)):=by kernel_rfl
@[push_cast] theorem tbl200:blT Tryz.prog 200=(some (((.int .i64 0)::((.int .i64 0)::((.int .i64 0)::((.int .i64 0)::((.int .i64 0)::((.int .i64 0)::((.int .i64 0)::((.int .i64 0)::((.int .i64 0)::((.int .i64 0)::((.int .i64 0)::((.int .i64 0)::((.string ⟨⟨[]⟩⟩)::((.int .i64 0)::[])))))))))))))),((0,6)::((6,7)::((13,1)::[]))))):=by kernel_rfl
@[push_cast] theorem tfl200_0:flT Tryz.prog 200 0=(some (0,(6,.true))):=by kernel_rfl
@[push_cast] theorem tfl200_1:flT Tryz.prog 200 1=(some (6,(7,.true))):=by kernel_rfl
@[push_cast] theorem tfl200_2:flT Tryz.prog 200 2=(some (13,(1,.false))):=by kernel_rfl
@[push_cast] theorem tld220:ldT Tryz.prog 220=(some (1,.false)):=by kernel_rfl
@[push_cast] theorem tkd220:kdT Tryz.prog 220=(some .slice):=by kernel_rfl
@[push_cast] theorem tap220:apT Tryz.prog 220=(some (1,1)):=by kernel_rfl
@[push_cast] theorem tbt220:btT Tryz.prog 220 = .true:=by kernel_rfl
@[push_cast] theorem tld221:ldT Tryz.prog 221=(some (1,.false)):=by kernel_rfl
@[push_cast] theorem tkd221:kdT Tryz.prog 221=(some .slice):=by kernel_rfl
@[push_cast] theorem tsl221:slT Tryz.prog 221=(some (1,.false)):=by kernel_rfl
@[push_cast] theorem tap221:apT Tryz.prog 221=(some (1,16)):=by kernel_rfl
@[push_cast] theorem tmk221:mkT Tryz.prog 221=(some (1,(16,(.lit .nilIface)))):=by kernel_rfl
@[push_cast] theorem tkd223:kdT Tryz.prog 223=(some .pointer):=by kernel_rfl
@[push_cast] theorem tzv223:zvD Tryz.prog 223=(some (.lit (.pointer none))):=by kernel_rfl
@[push_cast] theorem tbl227:blT Tryz.prog 227=(some (((.slice none 0 0)::((.int .i64 0)::((.int .i64 0)::((.int .i64 0)::((.int .i64 0)::((.int .i64 0)::((.int .i64 0)::[]))))))),((0,1)::((1,6)::[])))):=by kernel_rfl
@[push_cast] theorem tfl227_0:flT Tryz.prog 227 0=(some (0,(1,.false))):=by kernel_rfl
@[push_cast] theorem tfl227_1:flT Tryz.prog 227 1=(some (1,(6,.true))):=by kernel_rfl
@[push_cast] theorem tkd250:kdT Tryz.prog 250=(some .pointer):=by kernel_rfl
@[push_cast] theorem tld254:ldT Tryz.prog 254=(some (1,.false)):=by kernel_rfl
@[push_cast] theorem tkd254:kdT Tryz.prog 254=(some .pointer):=by kernel_rfl
@[push_cast] theorem tzb256:zbT Tryz.prog 256=(some (((.pointer none)::((.slice none 0 0)::[])),(some 256))):=by kernel_rfl
@[push_cast] theorem tfl256_0:flT Tryz.prog 256 0=(some (0,(1,.false))):=by kernel_rfl
@[push_cast] theorem tfl256_1:flT Tryz.prog 256 1=(some (1,(1,.false))):=by kernel_rfl
@[push_cast] theorem tbl271:blT Tryz.prog 271=(some (((.slice none 0 0)::((.int .i64 0)::((.int .i64 0)::((.int .i64 0)::((.int .i64 0)::((.int .i64 0)::((.int .i64 0)::((.int .i64 0)::[])))))))),((0,1)::((1,1)::((2,6)::[]))))):=by kernel_rfl
@[push_cast] theorem tfl271_0:flT Tryz.prog 271 0=(some (0,(1,.false))):=by kernel_rfl
@[push_cast] theorem tfl271_1:flT Tryz.prog 271 1=(some (1,(1,.false))):=by kernel_rfl
@[push_cast] theorem tfl271_2:flT Tryz.prog 271 2=(some (2,(6,.true))):=by kernel_rfl
@[push_cast] theorem tar278:arT Tryz.prog 278=(some (4,(1,.false))):=by kernel_rfl
@[push_cast] theorem tld279:ldT Tryz.prog 279=(some (1,.false)):=by kernel_rfl
@[push_cast] theorem tkd279:kdT Tryz.prog 279=(some (.int .u64)):=by kernel_rfl
@[push_cast] theorem tzb279:zbT Tryz.prog 279=(some (((.int .u64 0)::[]),none)):=by kernel_rfl
@[push_cast] theorem tld296:ldT Tryz.prog 296=(some (8,.true)):=by kernel_rfl
@[push_cast] theorem tzb296:zbT Tryz.prog 296=(some (((.int .i64 0)::((.int .i64 0)::((.int .i64 0)::((.int .i64 0)::((.int .i64 0)::((.int .i64 0)::((.int .i64 0)::((.int .i64 0)::[])))))))),none)):=by kernel_rfl
@[push_cast] theorem tbl296:blT Tryz.prog 296=(some (((.int .i64 0)::((.int .i64 0)::((.int .i64 0)::((.int .i64 0)::((.int .i64 0)::((.int .i64 0)::((.int .i64 0)::((.int .i64 0)::[])))))))),((0,1)::((1,6)::((7,1)::[]))))):=by kernel_rfl
@[push_cast] theorem tfl296_0:flT Tryz.prog 296 0=(some (0,(1,.false))):=by kernel_rfl
@[push_cast] theorem tfl296_1:flT Tryz.prog 296 1=(some (1,(6,.true))):=by kernel_rfl
@[push_cast] theorem tfl296_2:flT Tryz.prog 296 2=(some (7,(1,.false))):=by kernel_rfl
@[push_cast] theorem tbl298:blT Tryz.prog 298=(some (((.pointer none)::((.int .i64 0)::((.int .i64 0)::((.int .i64 0)::((.int .i64 0)::((.int .i64 0)::((.int .i64 0)::((.int .i64 0)::((.int .i64 0)::[]))))))))),((0,1)::((1,8)::[])))):=by kernel_rfl
@[push_cast] theorem tfl298_0:flT Tryz.prog 298 0=(some (0,(1,.false))):=by kernel_rfl
@[push_cast] theorem tfl298_1:flT Tryz.prog 298 1=(some (1,(8,.true))):=by kernel_rfl
@[push_cast] theorem tkd311:kdT Tryz.prog 311=(some .other):=by kernel_rfl
def G0:Gl:=fun g=>if g=0 then some (.pd 6 [.agg [.lit (.int .i32 768),.lit (.int .i32 879),.lit (.int .i32 8203),.lit (.int .i32 8207),.lit (.int .i32 65024),.lit (.int .i32 65039)]] 0 0) else if g=1 then some (.pd 16 [.agg [.lit (.int .i32 4352),.lit (.int .i32 4447),.lit (.int .i32 11904),.lit (.int .i32 12350),.lit (.int .i32 12353),.lit (.int .i32 19903),.lit (.int .i32 19968),.lit (.int .i32 40959),.lit (.int .i32 44032),.lit (.int .i32 55203),.lit (.int .i32 63744),.lit (.int .i32 64255),.lit (.int .i32 65280),.lit (.int .i32 65376),.lit (.int .i32 127744),.lit (.int .i32 128591)]] 0 0) else if g=2 then some (.pd 4 [.agg [.lit (.int .i32 127),.lit (.int .i32 2047),.lit (.int .i32 65535),.lit (.int .i32 1114111)]] 0 0) else none
@[push_cast] theorem glob2:G0 2=some (.pd 4 [.agg [.lit (.int .i32 127),.lit (.int .i32 2047),.lit (.int .i32 65535),.lit (.int .i32 1114111)]] 0 0):=rfl
theorem mixed:Tryz.prog.follows .mixedOrders=true:=by kernel_rfl
end Go.Proofs.YtihghiojmhegoaaGreatDoor
