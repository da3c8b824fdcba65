/- What the theorem leans on, part 6. -/
import Derived.Test.YtkkanlcjjpoklaaGreatDoorProg
import Derived.WalkKit
import Derived.Test.YtkkanlcjjpoklaaGreatDoorStVPAC
set_option linter.unusedSimpArgs false
namespace Go.Proofs.YtkkanlcjjpoklaaGreatDoor
@[push_cast] theorem tld3:cu Tryz.prog 3=(some (1,.false)):=by kernel_rfl
@[push_cast] theorem tkd3:cX Tryz.prog 3=(some (.int .i64)):=by kernel_rfl
@[push_cast] theorem tzb3:jR Tryz.prog 3=(some (((.int .i64 0)::[]),none)):=by kernel_rfl
@[push_cast] theorem tbt3:NR Tryz.prog 3 = .false:=by kernel_rfl
@[push_cast] theorem tld4:cu Tryz.prog 4=(some (1,.false)):=by kernel_rfl
@[push_cast] theorem tkd4:cX Tryz.prog 4=(some .bool):=by kernel_rfl
@[push_cast] theorem tkd5:cX Tryz.prog 5=(some (.int .u8)):=by kernel_rfl
@[push_cast] theorem tbt5:NR Tryz.prog 5 = .false:=by kernel_rfl
@[push_cast] theorem tld9:cu Tryz.prog 9=(some (1,.false)):=by kernel_rfl
@[push_cast] theorem tkd9:cX Tryz.prog 9=(some .string):=by kernel_rfl
@[push_cast] theorem tld21:cu Tryz.prog 21=(some (1,.false)):=by kernel_rfl
@[push_cast] theorem tkd21:cX Tryz.prog 21=(some (.int .i32)):=by kernel_rfl
@[push_cast] theorem tbt21:NR Tryz.prog 21 = .false:=by kernel_rfl
@[push_cast] theorem tld22:cu Tryz.prog 22=(some (1,.false)):=by kernel_rfl
@[push_cast] theorem tkd22:cX Tryz.prog 22=(some .slice):=by kernel_rfl
@[push_cast] theorem tsl22:oe Tryz.prog 22=(some (5,.true)):=by kernel_rfl
@[push_cast] theorem tap22:ob Tryz.prog 22=(some (5,48)):=by kernel_rfl
@[push_cast] theorem tmk22:QD Tryz.prog 22=(some (5,(48,(.agg ((.lit (.int .i64 0))::((.lit (.int .i64 0))::((.lit (.int .i64 0))::((.lit (.int .i64 0))::((.lit (.string ⟨⟨[]⟩⟩))::[]))))))))):=by kernel_rfl
@[push_cast] theorem tld23:cu Tryz.prog 23=(some (1,.false)):=by kernel_rfl
@[push_cast] theorem tkd23:cX Tryz.prog 23=(some .slice):=by kernel_rfl
@[push_cast] theorem tsl23:oe Tryz.prog 23=(some (2,.true)):=by kernel_rfl
@[push_cast] theorem tap23:ob Tryz.prog 23=(some (2,16)):=by kernel_rfl
@[push_cast] theorem tld25:cu Tryz.prog 25=(some (5,.true)):=by kernel_rfl
@[push_cast] theorem Xe:bi Tryz.prog 25 0=(some (0,(1,.false))):=by kernel_rfl
@[push_cast] theorem Xf:bi Tryz.prog 25 1=(some (1,(1,.false))):=by kernel_rfl
@[push_cast] theorem Xg:bi Tryz.prog 25 2=(some (2,(1,.false))):=by kernel_rfl
@[push_cast] theorem Xh:bi Tryz.prog 25 3=(some (3,(1,.false))):=by kernel_rfl
@[push_cast] theorem Xi:bi Tryz.prog 25 4=(some (4,(1,.false))):=by kernel_rfl
@[push_cast] theorem tkd28:cX Tryz.prog 28=(some .pointer):=by kernel_rfl
@[push_cast] theorem tkd30:cX Tryz.prog 30=(some .slice):=by kernel_rfl
@[push_cast] theorem tsl30:oe Tryz.prog 30=(some (7,.true)):=by kernel_rfl
@[push_cast] theorem tap30:ob Tryz.prog 30=(some (7,64)):=by kernel_rfl
@[push_cast] theorem tld31:cu Tryz.prog 31=(some (1,.false)):=by kernel_rfl
@[push_cast] theorem tkd31:cX Tryz.prog 31=(some .slice):=by kernel_rfl
@[push_cast] theorem tsl31:oe Tryz.prog 31=(some (1,.false)):=by kernel_rfl
@[push_cast] theorem tap31:ob Tryz.prog 31=(some (1,4)):=by kernel_rfl
@[push_cast] theorem tld33:cu Tryz.prog 33=(some (3,.true)):=by kernel_rfl
@[push_cast] theorem tzb33:jR Tryz.prog 33=(some (((.int .i64 0)::((.slice none 0 0)::((.int .i64 0)::[]))),none)):=by kernel_rfl
@[push_cast] theorem tbl33:gT Tryz.prog 33=(some (((.int .i64 0)::((.slice none 0 0)::((.int .i64 0)::[]))),((0,1)::((1,1)::((2,1)::[]))))):=by kernel_rfl
@[push_cast] theorem Xj:bi Tryz.prog 33 0=(some (0,(1,.false))):=by kernel_rfl
@[push_cast] theorem Xk:bi Tryz.prog 33 1=(some (1,(1,.false))):=by kernel_rfl
@[push_cast] theorem Xl:bi Tryz.prog 33 2=(some (2,(1,.false))):=by kernel_rfl
@[push_cast] theorem tld35:cu Tryz.prog 35=(some (5,.true)):=by kernel_rfl
@[push_cast] theorem tzb35:jR Tryz.prog 35=(some (((.slice none 0 0)::((.int .i64 0)::((.slice none 0 0)::((.int .i64 0)::((.slice none 0 0)::[]))))),none)):=by kernel_rfl
@[push_cast] theorem tbl35:gT Tryz.prog 35=(some (((.slice none 0 0)::((.int .i64 0)::((.slice none 0 0)::((.int .i64 0)::((.slice none 0 0)::[]))))),((0,1)::((1,3)::((4,1)::[]))))):=by kernel_rfl
@[push_cast] theorem Xm:bi Tryz.prog 35 0=(some (0,(1,.false))):=by kernel_rfl
@[push_cast] theorem Xn:bi Tryz.prog 35 1=(some (1,(3,.true))):=by kernel_rfl
@[push_cast] theorem Xo:bi Tryz.prog 35 2=(some (4,(1,.false))):=by kernel_rfl
@[push_cast] theorem tld36:cu Tryz.prog 36=(some (1,.false)):=by kernel_rfl
@[push_cast] theorem tld38:cu Tryz.prog 38=(some (8,.true)):=by kernel_rfl
@[push_cast] theorem tzb38:jR Tryz.prog 38=(some (((.slice none 0 0)::((.int .i64 0)::((.slice none 0 0)::((.int .i64 0)::((.slice none 0 0)::((.pointer none)::((.int .i64 0)::((.int .i64 0)::[])))))))),none)):=by kernel_rfl
@[push_cast] theorem tbl38:gT Tryz.prog 38=(some (((.slice none 0 0)::((.int .i64 0)::((.slice none 0 0)::((.int .i64 0)::((.slice none 0 0)::((.pointer none)::((.int .i64 0)::((.int .i64 0)::[])))))))),((0,5)::((5,1)::((6,1)::((7,1)::[])))))):=by kernel_rfl
@[push_cast] theorem Xp:bi Tryz.prog 38 0=(some (0,(5,.true))):=by kernel_rfl
@[push_cast] theorem Xq:bi Tryz.prog 38 1=(some (5,(1,.false))):=by kernel_rfl
@[push_cast] theorem Xr:bi Tryz.prog 38 2=(some (6,(1,.false))):=by kernel_rfl
@[push_cast] theorem Xs:bi Tryz.prog 38 3=(some (7,(1,.false))):=by kernel_rfl
@[push_cast] theorem tkd46:cX Tryz.prog 46=(some .slice):=by kernel_rfl
@[push_cast] theorem tsl46:oe Tryz.prog 46=(some (4,.true)):=by kernel_rfl
@[push_cast] theorem tap46:ob Tryz.prog 46=(some (4,32)):=by kernel_rfl
@[push_cast] theorem tkd49:cX Tryz.prog 49=(some .slice):=by kernel_rfl
@[push_cast] theorem tsl49:oe Tryz.prog 49=(some (4,.true)):=by kernel_rfl
@[push_cast] theorem tap49:ob Tryz.prog 49=(some (4,32)):=by kernel_rfl
@[push_cast] theorem tkd50:cX Tryz.prog 50=(some .slice):=by kernel_rfl
@[push_cast] theorem tsl50:oe Tryz.prog 50=(some (3,.true)):=by kernel_rfl
@[push_cast] theorem tap50:ob Tryz.prog 50=(some (3,40)):=by kernel_rfl
@[push_cast] theorem tld52:cu Tryz.prog 52=(some (1,.false)):=by kernel_rfl
@[push_cast] theorem tkd52:cX Tryz.prog 52=(some .slice):=by kernel_rfl
@[push_cast] theorem tsl52:oe Tryz.prog 52=(some (3,.true)):=by kernel_rfl
@[push_cast] theorem tap52:ob Tryz.prog 52=(some (3,40)):=by kernel_rfl
@[push_cast] theorem tld54:cu Tryz.prog 54=(some (3,.true)):=by kernel_rfl
@[push_cast] theorem tzb54:jR Tryz.prog 54=(some (((.slice none 0 0)::((.int .i64 0)::((.int .i64 0)::[]))),none)):=by kernel_rfl
@[push_cast] theorem tbl54:gT Tryz.prog 54=(some (((.slice none 0 0)::((.int .i64 0)::((.int .i64 0)::[]))),((0,1)::((1,1)::((2,1)::[]))))):=by kernel_rfl
@[push_cast] theorem Xt:bi Tryz.prog 54 0=(some (0,(1,.false))):=by kernel_rfl
@[push_cast] theorem Xu:bi Tryz.prog 54 1=(some (1,(1,.false))):=by kernel_rfl
@[push_cast] theorem Xv:bi Tryz.prog 54 2=(some (2,(1,.false))):=by kernel_rfl
@[push_cast] theorem tld56:cu Tryz.prog 56=(some (4,.true)):=by kernel_rfl
@[push_cast] theorem tzb56:jR Tryz.prog 56=(some (((.int .i64 0)::((.int .i64 0)::((.int .i64 0)::((.int .i64 0)::[])))),none)):=by kernel_rfl
@[push_cast] theorem tbl56:gT Tryz.prog 56=(some (((.int .i64 0)::((.int .i64 0)::((.int .i64 0)::((.int .i64 0)::[])))),((0,1)::((1,1)::((2,1)::((3,1)::[])))))):=by kernel_rfl
@[push_cast] theorem teq56:gU Tryz.prog 56 ((.int .i64)::((.int .i64)::((.int .i64)::((.int .i64)::[])))):=gU.of (by kernel_rfl)
@[push_cast] theorem Xw:bi Tryz.prog 56 0=(some (0,(1,.false))):=by kernel_rfl
@[push_cast] theorem Xx:bi Tryz.prog 56 1=(some (1,(1,.false))):=by kernel_rfl
@[push_cast] theorem Xy:bi Tryz.prog 56 2=(some (2,(1,.false))):=by kernel_rfl
@[push_cast] theorem Xz:bi Tryz.prog 56 3=(some (3,(1,.false))):=by kernel_rfl
@[push_cast] theorem tar60:Nl Tryz.prog 60=(some (2,(1,.false))):=by kernel_rfl
@[push_cast] theorem tbl60:gT Tryz.prog 60=(some (((.int .i64 0)::((.int .i64 0)::[])),((0,1)::((1,1)::[])))):=by kernel_rfl
@[push_cast] theorem tld62:cu Tryz.prog 62=(some (1,.false)):=by kernel_rfl
@[push_cast] theorem tkd62:cX Tryz.prog 62=(some .pointer):=by kernel_rfl
@[push_cast] theorem tld65:cu Tryz.prog 65=(some (1,.false)):=by kernel_rfl
@[push_cast] theorem tkd65:cX Tryz.prog 65=(some .pointer):=by kernel_rfl
@[push_cast] theorem tld68:cu Tryz.prog 68=(some (1,.false)):=by kernel_rfl
@[push_cast] theorem tkd68:cX Tryz.prog 68=(some .pointer):=by kernel_rfl
@[push_cast] theorem tld72:cu Tryz.prog 72=(some (5,.true)):=by kernel_rfl
@[push_cast] theorem tzb72:jR Tryz.prog 72=(some (((.pointer none)::((.pointer none)::((.pointer none)::((.int .i64 0)::((.int .i64 0)::[]))))),none)):=by kernel_rfl
@[push_cast] theorem tbl72:gT Tryz.prog 72=(some (((.pointer none)::((.pointer none)::((.pointer none)::((.int .i64 0)::((.int .i64 0)::[]))))),((0,1)::((1,1)::((2,1)::((3,1)::((4,1)::[]))))))):=by kernel_rfl
@[push_cast] theorem XA:bi Tryz.prog 72 0=(some (0,(1,.false))):=by kernel_rfl
@[push_cast] theorem XB:bi Tryz.prog 72 1=(some (1,(1,.false))):=by kernel_rfl
@[push_cast] theorem XC:bi Tryz.prog 72 2=(some (2,(1,.false))):=by kernel_rfl
@[push_cast] theorem XD:bi Tryz.prog 72 3=(some (3,(1,.false))):=by kernel_rfl
@[push_cast] theorem XE:bi Tryz.prog 72 4=(some (4,(1,.false))):=by kernel_rfl
@[push_cast] theorem tld84:cu Tryz.prog 84=(some (1,.false)):=by kernel_rfl
@[push_cast] theorem tkd84:cX Tryz.prog 84=(some .pointer):=by kernel_rfl
@[push_cast] theorem tld85:cu Tryz.prog 85=(some (1,.false)):=by kernel_rfl
@[push_cast] theorem tkd85:cX Tryz.prog 85=(some .pointer):=by kernel_rfl
@[push_cast] theorem tld86:cu Tryz.prog 86=(some (1,.false)):=by kernel_rfl
@[push_cast] theorem tkd86:cX Tryz.prog 86=(some .pointer):=by kernel_rfl
@[push_cast] theorem tld88:cu Tryz.prog 88=(some (3,.true)):=by kernel_rfl
@[push_cast] theorem tzb88:jR Tryz.prog 88=(some (((.pointer none)::((.pointer none)::((.pointer none)::[]))),none)):=by kernel_rfl
@[push_cast] theorem tbl88:gT Tryz.prog 88=(some (((.pointer none)::((.pointer none)::((.pointer none)::[]))),((0,1)::((1,1)::((2,1)::[]))))):=by kernel_rfl
@[push_cast] theorem XF:bi Tryz.prog 88 0=(some (0,(1,.false))):=by kernel_rfl
@[push_cast] theorem XG:bi Tryz.prog 88 1=(some (1,(1,.false))):=by kernel_rfl
@[push_cast] theorem XH:bi Tryz.prog 88 2=(some (2,(1,.false))):=by kernel_rfl
@[push_cast] theorem tkd91:cX Tryz.prog 91=(some .slice):=by kernel_rfl
@[push_cast] theorem tsl91:oe Tryz.prog 91=(some (2,.true)):=by kernel_rfl
@[push_cast] theorem tap91:ob Tryz.prog 91=(some (2,16)):=by kernel_rfl
@[push_cast] theorem tkd93:cX Tryz.prog 93=(some .slice):=by kernel_rfl
@[push_cast] theorem tsl93:oe Tryz.prog 93=(some (2,.true)):=by kernel_rfl
@[push_cast] theorem tap93:ob Tryz.prog 93=(some (2,16)):=by kernel_rfl
@[push_cast] theorem ZB:cu Tryz.prog 101=(some (5,.true)):=by kernel_rfl
@[push_cast] theorem aaq:jR Tryz.prog 101=(some (((.int .i64 0)::((.int .i64 0)::((.int .i64 0)::((.int .i64 0)::((.int .i64 0)::[]))))),none)):=by kernel_rfl
@[push_cast] theorem Yy:gT Tryz.prog 101=(some (((.int .i64 0)::((.int .i64 0)::((.int .i64 0)::((.int .i64 0)::((.int .i64 0)::[]))))),((0,1)::((1,1)::((2,1)::((3,1)::((4,1)::[]))))))):=by kernel_rfl
@[push_cast] theorem U7:bi Tryz.prog 101 0=(some (0,(1,.false))):=by kernel_rfl
@[push_cast] theorem U8:bi Tryz.prog 101 3=(some (3,(1,.false))):=by kernel_rfl
@[push_cast] theorem U9:bi Tryz.prog 101 4=(some (4,(1,.false))):=by kernel_rfl
@[push_cast] theorem ZC:cu Tryz.prog 105=(some (5,.true)):=by kernel_rfl
@[push_cast] theorem aar:jR Tryz.prog 105=(some (((.int .i64 0)::((.int .i64 0)::((.int .i64 0)::((.int .i64 0)::((.string ⟨⟨[]⟩⟩)::[]))))),none)):=by kernel_rfl
@[push_cast] theorem Va:bi Tryz.prog 105 0=(some (0,(1,.false))):=by kernel_rfl
@[push_cast] theorem Vb:bi Tryz.prog 105 1=(some (1,(1,.false))):=by kernel_rfl
@[push_cast] theorem Vc:bi Tryz.prog 105 2=(some (2,(1,.false))):=by kernel_rfl
@[push_cast] theorem Vd:bi Tryz.prog 105 3=(some (3,(1,.false))):=by kernel_rfl
@[push_cast] theorem Ve:bi Tryz.prog 105 4=(some (4,(1,.false))):=by kernel_rfl
@[push_cast] theorem ZD:cu Tryz.prog 109=(some (3,.true)):=by kernel_rfl
@[push_cast] theorem aas:jR Tryz.prog 109=(some (((.int .i64 0)::((.slice none 0 0)::((.int .i64 0)::[]))),none)):=by kernel_rfl
@[push_cast] theorem Yz:gT Tryz.prog 109=(some (((.int .i64 0)::((.slice none 0 0)::((.int .i64 0)::[]))),((0,1)::((1,1)::((2,1)::[]))))):=by kernel_rfl
@[push_cast] theorem Vf:bi Tryz.prog 109 1=(some (1,(1,.false))):=by kernel_rfl
@[push_cast] theorem Vg:bi Tryz.prog 109 2=(some (2,(1,.false))):=by kernel_rfl
@[push_cast] theorem ZE:cu Tryz.prog 111=(some (4,.true)):=by kernel_rfl
@[push_cast] theorem aat:jR Tryz.prog 111=(some (((.int .i64 0)::((.int .i64 0)::((.int .i64 0)::((.int .i64 0)::[])))),none)):=by kernel_rfl
@[push_cast] theorem YA:gT Tryz.prog 111=(some (((.int .i64 0)::((.int .i64 0)::((.int .i64 0)::((.int .i64 0)::[])))),((0,1)::((1,1)::((2,1)::((3,1)::[])))))):=by kernel_rfl
@[push_cast] theorem Za:gU Tryz.prog 111 ((.int .i64)::((.int .i64)::((.int .i64)::((.int .i64)::[])))):=gU.of (by kernel_rfl)
@[push_cast] theorem Vh:bi Tryz.prog 111 0=(some (0,(1,.false))):=by kernel_rfl
@[push_cast] theorem Vi:bi Tryz.prog 111 1=(some (1,(1,.false))):=by kernel_rfl
@[push_cast] theorem Vj:bi Tryz.prog 111 2=(some (2,(1,.false))):=by kernel_rfl
@[push_cast] theorem Vk:bi Tryz.prog 111 3=(some (3,(1,.false))):=by kernel_rfl
@[push_cast] theorem ZF:cu Tryz.prog 112=(some (1,.false)):=by kernel_rfl
@[push_cast] theorem Zf:cX Tryz.prog 112=(some .slice):=by kernel_rfl
@[push_cast] theorem aaf:oe Tryz.prog 112=(some (4,.true)):=by kernel_rfl
@[push_cast] theorem Ym:ob Tryz.prog 112=(some (4,32)):=by kernel_rfl
@[push_cast] theorem ZG:cu Tryz.prog 114=(some (7,.true)):=by kernel_rfl
@[push_cast] theorem aau:jR Tryz.prog 114=(some (((.slice none 0 0)::((.int .i64 0)::((.int .i64 0)::((.int .i64 0)::((.bool .false)::((.bool .false)::((.int .i64 0)::[]))))))),none)):=by kernel_rfl
@[push_cast] theorem YB:gT Tryz.prog 114=(some (((.slice none 0 0)::((.int .i64 0)::((.int .i64 0)::((.int .i64 0)::((.bool .false)::((.bool .false)::((.int .i64 0)::[]))))))),((0,1)::((1,1)::((2,1)::((3,1)::((4,1)::((5,1)::((6,1)::[]))))))))):=by kernel_rfl
@[push_cast] theorem Vl:bi Tryz.prog 114 1=(some (1,(1,.false))):=by kernel_rfl
@[push_cast] theorem Vm:bi Tryz.prog 114 2=(some (2,(1,.false))):=by kernel_rfl
@[push_cast] theorem Vn:bi Tryz.prog 114 3=(some (3,(1,.false))):=by kernel_rfl
@[push_cast] theorem Vo:bi Tryz.prog 114 5=(some (5,(1,.false))):=by kernel_rfl
@[push_cast] theorem Vp:bi Tryz.prog 114 6=(some (6,(1,.false))):=by kernel_rfl
@[push_cast] theorem YC:gT Tryz.prog 119=(some (((.pointer none)::((.pointer none)::((.pointer none)::((.int .i64 0)::((.int .i64 0)::[]))))),((0,5)::[]))):=by kernel_rfl
@[push_cast] theorem Vq:bi Tryz.prog 119 0=(some (0,(5,.true))):=by kernel_rfl
@[push_cast] theorem YD:gT Tryz.prog 121=(some (((.pointer none)::((.pointer none)::((.pointer none)::[]))),((0,3)::[]))):=by kernel_rfl
@[push_cast] theorem Vr:bi Tryz.prog 121 0=(some (0,(3,.true))):=by kernel_rfl
@[push_cast] theorem YE:gT Tryz.prog 123=(some (((.pointer none)::((.pointer none)::((.pointer none)::((.int .i64 0)::((.int .i64 0)::((.pointer none)::((.pointer none)::((.pointer none)::[])))))))),((0,5)::((5,3)::[])))):=by kernel_rfl
@[push_cast] theorem Vs:bi Tryz.prog 123 0=(some (0,(5,.true))):=by kernel_rfl
@[push_cast] theorem Vt:bi Tryz.prog 123 1=(some (5,(3,.true))):=by kernel_rfl
@[push_cast] theorem ZH:cu Tryz.prog 126=(some (3,.true)):=by kernel_rfl
@[push_cast] theorem aav:jR Tryz.prog 126=(some (((.pointer none)::((.pointer none)::((.slice none 0 0)::[]))),none)):=by kernel_rfl
@[push_cast] theorem YF:gT Tryz.prog 126=(some (((.pointer none)::((.pointer none)::((.slice none 0 0)::[]))),((0,1)::((1,1)::((2,1)::[]))))):=by kernel_rfl
@[push_cast] theorem Vu:bi Tryz.prog 126 0=(some (0,(1,.false))):=by kernel_rfl
@[push_cast] theorem Vv:bi Tryz.prog 126 1=(some (1,(1,.false))):=by kernel_rfl
@[push_cast] theorem Vw:bi Tryz.prog 126 2=(some (2,(1,.false))):=by kernel_rfl
@[push_cast] theorem ZI:cu Tryz.prog 127=(some (1,.false)):=by kernel_rfl
@[push_cast] theorem Zg:cX Tryz.prog 127=(some .pointer):=by kernel_rfl
@[push_cast] theorem ZJ:cu Tryz.prog 129=(some (6,.true)):=by kernel_rfl
@[push_cast] theorem aaw:jR Tryz.prog 129=(some (((.pointer none)::((.pointer none)::((.slice none 0 0)::((.pointer none)::((.int .i64 0)::((.int .i64 0)::[])))))),none)):=by kernel_rfl
@[push_cast] theorem YG:gT Tryz.prog 129=(some (((.pointer none)::((.pointer none)::((.slice none 0 0)::((.pointer none)::((.int .i64 0)::((.int .i64 0)::[])))))),((0,3)::((3,1)::((4,1)::((5,1)::[])))))):=by kernel_rfl
@[push_cast] theorem Vx:bi Tryz.prog 129 0=(some (0,(3,.true))):=by kernel_rfl
@[push_cast] theorem Vy:bi Tryz.prog 129 1=(some (3,(1,.false))):=by kernel_rfl
@[push_cast] theorem Vz:bi Tryz.prog 129 2=(some (4,(1,.false))):=by kernel_rfl
@[push_cast] theorem VA:bi Tryz.prog 129 3=(some (5,(1,.false))):=by kernel_rfl
@[push_cast] theorem ZK:cu Tryz.prog 131=(some (1,.false)):=by kernel_rfl
@[push_cast] theorem Zh:cX Tryz.prog 131=(some .slice):=by kernel_rfl
@[push_cast] theorem aag:oe Tryz.prog 131=(some (3,.true)):=by kernel_rfl
@[push_cast] theorem Yn:ob Tryz.prog 131=(some (3,40)):=by kernel_rfl
@[push_cast] theorem aax:jR Tryz.prog 131=(some (((.slice none 0 0)::[]),none)):=by kernel_rfl
@[push_cast] theorem ZL:cu Tryz.prog 133=(some (3,.true)):=by kernel_rfl
@[push_cast] theorem aay:jR Tryz.prog 133=(some (((.slice none 0 0)::((.int .i64 0)::((.int .i64 0)::[]))),none)):=by kernel_rfl
@[push_cast] theorem YH:gT Tryz.prog 133=(some (((.slice none 0 0)::((.int .i64 0)::((.int .i64 0)::[]))),((0,1)::((1,1)::((2,1)::[]))))):=by kernel_rfl
@[push_cast] theorem VB:bi Tryz.prog 133 0=(some (0,(1,.false))):=by kernel_rfl
@[push_cast] theorem VC:bi Tryz.prog 133 1=(some (1,(1,.false))):=by kernel_rfl
@[push_cast] theorem VD:bi Tryz.prog 133 2=(some (2,(1,.false))):=by kernel_rfl
@[push_cast] theorem ZM:cu Tryz.prog 140=(some (1,.false)):=by kernel_rfl
@[push_cast] theorem Zi:cX Tryz.prog 140=(some .pointer):=by kernel_rfl
@[push_cast] theorem ZN:cu Tryz.prog 143=(some (1,.false)):=by kernel_rfl
@[push_cast] theorem Zj:cX Tryz.prog 143=(some .slice):=by kernel_rfl
@[push_cast] theorem aah:oe Tryz.prog 143=(some (7,.true)):=by kernel_rfl
@[push_cast] theorem Yo:ob Tryz.prog 143=(some (7,64)):=by kernel_rfl
@[push_cast] theorem aaz:jR Tryz.prog 143=(some (((.slice none 0 0)::[]),none)):=by kernel_rfl
@[push_cast] theorem aad:QD Tryz.prog 143=(some (7,(64,(.agg ((.lit (.int .i64 0))::((.lit (.int .i64 0))::((.lit (.int .i64 0))::((.lit (.int .i64 0))::((.lit (.int .i64 0))::((.lit (.int .i64 0))::((.lit (.string ⟨⟨[]⟩⟩))::[]))))))))))):=by kernel_rfl
@[push_cast] theorem YI:gT Tryz.prog 146=(some (((.pointer none)::[]),((0,1)::[]))):=by kernel_rfl
@[push_cast] theorem VE:bi Tryz.prog 146 0=(some (0,(1,.false))):=by kernel_rfl
@[push_cast] theorem YJ:gT Tryz.prog 148=(some (((.int .i64 0)::((.slice none 0 0)::[])),((0,1)::((1,1)::[])))):=by kernel_rfl
@[push_cast] theorem VF:bi Tryz.prog 148 0=(some (0,(1,.false))):=by kernel_rfl
@[push_cast] theorem VG:bi Tryz.prog 148 1=(some (1,(1,.false))):=by kernel_rfl
@[push_cast] theorem ZO:cu Tryz.prog 151=(some (0,.true)):=by kernel_rfl
@[push_cast] theorem aaA:jR Tryz.prog 151=(some ([],none)):=by kernel_rfl
@[push_cast] theorem aaR:Qb Tryz.prog 151=(some (.agg [])):=by kernel_rfl
@[push_cast] theorem YK:gT Tryz.prog 151=(some ([],[])):=by kernel_rfl
@[push_cast] theorem ZP:cu Tryz.prog 158=(some (2,.true)):=by kernel_rfl
@[push_cast] theorem aaB:jR Tryz.prog 158=(some (((.int .i64 0)::((.int .i64 0)::[])),none)):=by kernel_rfl
@[push_cast] theorem YL:gT Tryz.prog 158=(some (((.int .i64 0)::((.int .i64 0)::[])),((0,1)::((1,1)::[])))):=by kernel_rfl
@[push_cast] theorem S4:gU Tryz.prog 158 ((.int .i64)::((.int .i64)::[])):=gU.of (by kernel_rfl)
@[push_cast] theorem VH:bi Tryz.prog 158 0=(some (0,(1,.false))):=by kernel_rfl
@[push_cast] theorem VI:bi Tryz.prog 158 1=(some (1,(1,.false))):=by kernel_rfl
@[push_cast] theorem YM:gT Tryz.prog 162=(some (((.int .i64 0)::((.slice none 0 0)::((.slice none 0 0)::[]))),((0,1)::((1,1)::((2,1)::[]))))):=by kernel_rfl
@[push_cast] theorem VJ:bi Tryz.prog 162 0=(some (0,(1,.false))):=by kernel_rfl
@[push_cast] theorem VK:bi Tryz.prog 162 1=(some (1,(1,.false))):=by kernel_rfl
@[push_cast] theorem VL:bi Tryz.prog 162 2=(some (2,(1,.false))):=by kernel_rfl
@[push_cast] theorem Zk:cX Tryz.prog 177=(some .slice):=by kernel_rfl
@[push_cast] theorem aai:oe Tryz.prog 177=(some (2,.true)):=by kernel_rfl
@[push_cast] theorem Yp:ob Tryz.prog 177=(some (2,16)):=by kernel_rfl
@[push_cast] theorem Zl:cX Tryz.prog 179=(some .slice):=by kernel_rfl
@[push_cast] theorem aaj:oe Tryz.prog 179=(some (2,.true)):=by kernel_rfl
@[push_cast] theorem Yq:ob Tryz.prog 179=(some (2,16)):=by kernel_rfl
@[push_cast] theorem ZQ:cu Tryz.prog 182=(some (2,.true)):=by kernel_rfl
@[push_cast] theorem aaC:jR Tryz.prog 182=(some (((.int .i64 0)::((.int .i64 0)::[])),none)):=by kernel_rfl
@[push_cast] theorem YN:gT Tryz.prog 182=(some (((.int .i64 0)::((.int .i64 0)::[])),((0,1)::((1,1)::[])))):=by kernel_rfl
@[push_cast] theorem Zb:gU Tryz.prog 182 ((.int .i64)::((.int .i64)::[])):=gU.of (by kernel_rfl)
@[push_cast] theorem VM:bi Tryz.prog 182 0=(some (0,(1,.false))):=by kernel_rfl
@[push_cast] theorem VN:bi Tryz.prog 182 1=(some (1,(1,.false))):=by kernel_rfl
@[push_cast] theorem ZR:cu Tryz.prog 183=(some (2,.true)):=by kernel_rfl
@[push_cast] theorem YO:gT Tryz.prog 183=(some (((.int .i64 0)::((.int .i64 0)::[])),((0,1)::((1,1)::[])))):=by kernel_rfl
@[push_cast] theorem Zc:gU Tryz.prog 183 ((.int .i64)::((.int .i64)::[])):=gU.of (by kernel_rfl)
@[push_cast] theorem VO:bi Tryz.prog 183 0=(some (0,(1,.false))):=by kernel_rfl
@[push_cast] theorem VP:bi Tryz.prog 183 1=(some (1,(1,.false))):=by kernel_rfl
@[push_cast] theorem ZS:cu Tryz.prog 185=(some (2,.true)):=by kernel_rfl
@[push_cast] theorem aaD:jR Tryz.prog 185=(some (((.int .i64 0)::((.int .i64 0)::[])),none)):=by kernel_rfl
@[push_cast] theorem YP:gT Tryz.prog 185=(some (((.int .i64 0)::((.int .i64 0)::[])),((0,1)::((1,1)::[])))):=by kernel_rfl
@[push_cast] theorem Zd:gU Tryz.prog 185 ((.int .i64)::((.int .i64)::[])):=gU.of (by kernel_rfl)
@[push_cast] theorem VQ:bi Tryz.prog 185 0=(some (0,(1,.false))):=by kernel_rfl
@[push_cast] theorem VR:bi Tryz.prog 185 1=(some (1,(1,.false))):=by kernel_rfl
@[push_cast] theorem ZT:cu Tryz.prog 186=(some (2,.true)):=by kernel_rfl
@[push_cast] theorem YQ:gT Tryz.prog 186=(some (((.int .i64 0)::((.int .i64 0)::[])),((0,1)::((1,1)::[])))):=by kernel_rfl
@[push_cast] theorem Ze:gU Tryz.prog 186 ((.int .i64)::((.int .i64)::[])):=gU.of (by kernel_rfl)
@[push_cast] theorem VS:bi Tryz.prog 186 0=(some (0,(1,.false))):=by kernel_rfl
@[push_cast] theorem VT:bi Tryz.prog 186 1=(some (1,(1,.false))):=by kernel_rfl
@[push_cast] theorem ZU:cu Tryz.prog 189=(some (3,.true)):=by kernel_rfl
@[push_cast] theorem Yw:Nl Tryz.prog 189=(some (3,(1,.false))):=by kernel_rfl
@[push_cast] theorem YR:gT Tryz.prog 189=(some (((.int .i64 0)::((.int .i64 0)::((.int .i64 0)::[]))),((0,1)::((1,1)::((2,1)::[]))))):=by kernel_rfl
@[push_cast] theorem ZV:cu Tryz.prog 191=(some (7,.true)):=by kernel_rfl
@[push_cast] theorem aaE:jR Tryz.prog 191=(some (((.int .i64 0)::((.int .i64 0)::((.int .i64 0)::((.int .i64 0)::((.int .i64 0)::((.int .i64 0)::((.string ⟨⟨[]⟩⟩)::[]))))))),none)):=by kernel_rfl
@[push_cast] theorem YS:gT Tryz.prog 191=(some (((.int .i64 0)::((.int .i64 0)::((.int .i64 0)::((.int .i64 0)::((.int .i64 0)::((.int .i64 0)::((.string ⟨⟨[]⟩⟩)::[]))))))),((0,1)::((1,1)::((2,3)::((5,1)::((6,1)::[]))))))):=by kernel_rfl
@[push_cast] theorem VU:bi Tryz.prog 191 0=(some (0,(1,.false))):=by kernel_rfl
@[push_cast] theorem VV:bi Tryz.prog 191 1=(some (1,(1,.false))):=by kernel_rfl
@[push_cast] theorem VW:bi Tryz.prog 191 2=(some (2,(3,.true))):=by kernel_rfl
@[push_cast] theorem VX:bi Tryz.prog 191 3=(some (5,(1,.false))):=by kernel_rfl
@[push_cast] theorem VY:bi Tryz.prog 191 4=(some (6,(1,.false))):=by kernel_rfl
@[push_cast] theorem ZW:cu Tryz.prog 196=(some (6,.true)):=by kernel_rfl
@[push_cast] theorem aaF:jR Tryz.prog 196=(some (((.int .i64 0)::((.int .i64 0)::((.int .i64 0)::((.int .i64 0)::((.int .i64 0)::((.int .i64 0)::[])))))),none)):=by kernel_rfl
@[push_cast] theorem YT:gT Tryz.prog 196=(some (((.int .i64 0)::((.int .i64 0)::((.int .i64 0)::((.int .i64 0)::((.int .i64 0)::((.int .i64 0)::[])))))),((0,1)::((1,3)::((4,1)::((5,1)::[])))))):=by kernel_rfl
@[push_cast] theorem VZ:bi Tryz.prog 196 0=(some (0,(1,.false))):=by kernel_rfl
@[push_cast] theorem V0:bi Tryz.prog 196 1=(some (1,(3,.true))):=by kernel_rfl
@[push_cast] theorem V1:bi Tryz.prog 196 2=(some (4,(1,.false))):=by kernel_rfl
@[push_cast] theorem V2:bi Tryz.prog 196 3=(some (5,(1,.false))):=by kernel_rfl
@[push_cast] theorem ZX:cu Tryz.prog 198=(some (8,.true)):=by kernel_rfl
@[push_cast] theorem aaG:jR Tryz.prog 198=(some (((.int .i64 0)::((.int .i64 0)::((.int .i64 0)::((.int .i64 0)::((.int .i64 0)::((.int .i64 0)::((.int .i64 0)::((.int .i64 0)::[])))))))),none)):=by kernel_rfl
@[push_cast] theorem YU:gT Tryz.prog 198=(some (((.int .i64 0)::((.int .i64 0)::((.int .i64 0)::((.int .i64 0)::((.int .i64 0)::((.int .i64 0)::((.int .i64 0)::((.int .i64 0)::[])))))))),((0,1)::((1,6)::((7,1)::[]))))):=by kernel_rfl
@[push_cast] theorem V3:bi Tryz.prog 198 0=(some (0,(1,.false))):=by kernel_rfl
@[push_cast] theorem V4:bi Tryz.prog 198 1=(some (1,(6,.true))):=by kernel_rfl
@[push_cast] theorem V5:bi Tryz.prog 198 2=(some (7,(1,.false))):=by kernel_rfl
@[push_cast] theorem ZY:cu Tryz.prog 206=(some (2,.true)):=by kernel_rfl
@[push_cast] theorem aaH:jR Tryz.prog 206=(some (((.int .i32 0)::((.int .i64 0)::[])),none)):=by kernel_rfl
@[push_cast] theorem YV:gT Tryz.prog 206=(some (((.int .i32 0)::((.int .i64 0)::[])),((0,1)::((1,1)::[])))):=by kernel_rfl
@[push_cast] theorem V6:bi Tryz.prog 206 0=(some (0,(1,.false))):=by kernel_rfl
@[push_cast] theorem V7:bi Tryz.prog 206 1=(some (1,(1,.false))):=by kernel_rfl
@[push_cast] theorem ZZ:cu Tryz.prog 213=(some (2,.true)):=by kernel_rfl
@[push_cast] theorem aaI:jR Tryz.prog 213=(some (((.int .i32 0)::((.int .i32 0)::[])),none)):=by kernel_rfl
@[push_cast] theorem V8:bi Tryz.prog 213 0=(some (0,(1,.false))):=by kernel_rfl
@[push_cast] theorem V9:bi Tryz.prog 213 1=(some (1,(1,.false))):=by kernel_rfl
@[push_cast] theorem Z0:cu Tryz.prog 214=(some (1,.false)):=by kernel_rfl
@[push_cast] theorem Zm:cX Tryz.prog 214=(some .slice):=by kernel_rfl
@[push_cast] theorem aak:oe Tryz.prog 214=(some (2,.true)):=by kernel_rfl
@[push_cast] theorem Wa:bi Tryz.prog 216 0=(some (0,(1,.false))):=by kernel_rfl
@[push_cast] theorem Wb:bi Tryz.prog 216 1=(some (1,(1,.false))):=by kernel_rfl
@[push_cast] theorem Zn:cX Tryz.prog 217=(some .slice):=by kernel_rfl
@[push_cast] theorem aal:oe Tryz.prog 217=(some (1,.false)):=by kernel_rfl
@[push_cast] theorem Yr:ob Tryz.prog 217=(some (1,24)):=by kernel_rfl
@[push_cast] theorem Z1:cu Tryz.prog 222=(some (4,.true)):=by kernel_rfl
@[push_cast] theorem aaJ:jR Tryz.prog 222=(some (((.int .i32 0)::((.int .i64 0)::((.int .i64 0)::((.int .i64 0)::[])))),none)):=by kernel_rfl
@[push_cast] theorem YW:gT Tryz.prog 222=(some (((.int .i32 0)::((.int .i64 0)::((.int .i64 0)::((.int .i64 0)::[])))),((0,1)::((1,1)::((2,1)::((3,1)::[])))))):=by kernel_rfl
@[push_cast] theorem Wc:bi Tryz.prog 222 0=(some (0,(1,.false))):=by kernel_rfl
@[push_cast] theorem Wd:bi Tryz.prog 222 1=(some (1,(1,.false))):=by kernel_rfl
@[push_cast] theorem We:bi Tryz.prog 222 2=(some (2,(1,.false))):=by kernel_rfl
@[push_cast] theorem Wf:bi Tryz.prog 222 3=(some (3,(1,.false))):=by kernel_rfl
@[push_cast] theorem Z2:cu Tryz.prog 233=(some (3,.true)):=by kernel_rfl
@[push_cast] theorem aaK:jR Tryz.prog 233=(some (((.int .i64 0)::((.int .i64 0)::((.slice none 0 0)::[]))),none)):=by kernel_rfl
@[push_cast] theorem YX:gT Tryz.prog 233=(some (((.int .i64 0)::((.int .i64 0)::((.slice none 0 0)::[]))),((0,1)::((1,1)::((2,1)::[]))))):=by kernel_rfl
@[push_cast] theorem Wg:bi Tryz.prog 233 0=(some (0,(1,.false))):=by kernel_rfl
@[push_cast] theorem Wh:bi Tryz.prog 233 1=(some (1,(1,.false))):=by kernel_rfl
@[push_cast] theorem Wi:bi Tryz.prog 233 2=(some (2,(1,.false))):=by kernel_rfl
@[push_cast] theorem Z3:cu Tryz.prog 237=(some (1,.false)):=by kernel_rfl
@[push_cast] theorem Zo:cX Tryz.prog 237=(some .iface):=by kernel_rfl
@[push_cast] theorem Zp:cX Tryz.prog 240=(some .pointer):=by kernel_rfl
@[push_cast] theorem aaS:Qb Tryz.prog 240=(some (.lit (.pointer none))):=by kernel_rfl
@[push_cast] theorem YY:gT Tryz.prog 243=(some ((.nilIface::[]),((0,1)::[]))):=by kernel_rfl
@[push_cast] theorem Wj:bi Tryz.prog 243 0=(some (0,(1,.false))):=by kernel_rfl
@[push_cast] theorem Zq:cX Tryz.prog 248=(some (.int .u64)):=by kernel_rfl
@[push_cast] theorem Y8:NR Tryz.prog 248 = .false:=by kernel_rfl
@[push_cast] theorem YZ:gT Tryz.prog 255=(some (((.pointer none)::[]),((0,1)::[]))):=by kernel_rfl
@[push_cast] theorem Wl:bi Tryz.prog 255 0=(some (0,(1,.false))):=by kernel_rfl
@[push_cast] theorem Y0:gT Tryz.prog 260=(some (((.pointer none)::[]),((0,1)::[]))):=by kernel_rfl
@[push_cast] theorem Wm:bi Tryz.prog 260 0=(some (0,(1,.false))):=by kernel_rfl
@[push_cast] theorem Zr:cX Tryz.prog 275=(some .pointer):=by kernel_rfl
@[push_cast] theorem aaT:Qb Tryz.prog 275=(some (.lit (.pointer none))):=by kernel_rfl
@[push_cast] theorem Z4:cu Tryz.prog 277=(some (1,.false)):=by kernel_rfl
@[push_cast] theorem Zs:cX Tryz.prog 277=(some .slice):=by kernel_rfl
@[push_cast] theorem aam:oe Tryz.prog 277=(some (1,.false)):=by kernel_rfl
@[push_cast] theorem Ys:ob Tryz.prog 277=(some (1,16)):=by kernel_rfl
@[push_cast] theorem aae:QD Tryz.prog 277=(some (1,(16,(.lit .nilIface)))):=by kernel_rfl
@[push_cast] theorem Y1:gT Tryz.prog 279=(some (((.slice none 0 0)::((.int .i64 0)::((.int .i64 0)::((.int .i64 0)::((.int .i64 0)::((.int .i64 0)::((.int .i64 0)::((.int .i64 0)::[])))))))),((0,1)::((1,1)::((2,6)::[]))))):=by kernel_rfl
@[push_cast] theorem Wn:bi Tryz.prog 279 0=(some (0,(1,.false))):=by kernel_rfl
@[push_cast] theorem Wo:bi Tryz.prog 279 1=(some (1,(1,.false))):=by kernel_rfl
@[push_cast] theorem Wp:bi Tryz.prog 279 2=(some (2,(6,.true))):=by kernel_rfl
@[push_cast] theorem Y2:gT Tryz.prog 284=(some (((.slice none 0 0)::((.int .i64 0)::((.int .i64 0)::((.int .i64 0)::((.int .i64 0)::((.int .i64 0)::((.int .i64 0)::[]))))))),((0,1)::((1,6)::[])))):=by kernel_rfl
@[push_cast] theorem Wq:bi Tryz.prog 284 0=(some (0,(1,.false))):=by kernel_rfl
@[push_cast] theorem Wr:bi Tryz.prog 284 1=(some (1,(6,.true))):=by kernel_rfl
@[push_cast] theorem Y3:gT Tryz.prog 288=(some (((.pointer none)::[]),((0,1)::[]))):=by kernel_rfl
@[push_cast] theorem Ws:bi Tryz.prog 288 0=(some (0,(1,.false))):=by kernel_rfl
@[push_cast] theorem Z5:cu Tryz.prog 293=(some (1,.false)):=by kernel_rfl
@[push_cast] theorem Zt:cX Tryz.prog 293=(some .slice):=by kernel_rfl
@[push_cast] theorem aan:oe Tryz.prog 293=(some (1,.false)):=by kernel_rfl
@[push_cast] theorem Yt:ob Tryz.prog 293=(some (1,8)):=by kernel_rfl
@[push_cast] theorem aaL:jR Tryz.prog 293=(some (((.slice none 0 0)::[]),none)):=by kernel_rfl
@[push_cast] theorem Z6:cu Tryz.prog 307=(some (3,.true)):=by kernel_rfl
@[push_cast] theorem aaM:jR Tryz.prog 307=(some (((.int .i64 0)::((.int .i64 0)::((.slice none 0 0)::[]))),none)):=by kernel_rfl
@[push_cast] theorem Y4:gT Tryz.prog 307=(some (((.int .i64 0)::((.int .i64 0)::((.slice none 0 0)::[]))),((0,1)::((1,1)::((2,1)::[]))))):=by kernel_rfl
@[push_cast] theorem Wt:bi Tryz.prog 307 0=(some (0,(1,.false))):=by kernel_rfl
@[push_cast] theorem Wu:bi Tryz.prog 307 1=(some (1,(1,.false))):=by kernel_rfl
@[push_cast] theorem Wv:bi Tryz.prog 307 2=(some (2,(1,.false))):=by kernel_rfl
@[push_cast] theorem Z7:cu Tryz.prog 318=(some (1,.false)):=by kernel_rfl
@[push_cast] theorem Zu:cX Tryz.prog 318=(some .slice):=by kernel_rfl
@[push_cast] theorem Yu:ob Tryz.prog 318=(some (1,1)):=by kernel_rfl
@[push_cast] theorem Y9:NR Tryz.prog 318 = .true:=by kernel_rfl
@[push_cast] theorem Z8:cu Tryz.prog 343=(some (1,.false)):=by kernel_rfl
@[push_cast] theorem Zv:cX Tryz.prog 343=(some .slice):=by kernel_rfl
@[push_cast] theorem aao:oe Tryz.prog 343=(some (2,.true)):=by kernel_rfl
@[push_cast] theorem Ww:bi Tryz.prog 345 0=(some (0,(1,.false))):=by kernel_rfl
@[push_cast] theorem Wx:bi Tryz.prog 345 1=(some (1,(1,.false))):=by kernel_rfl
@[push_cast] theorem Wy:bi Tryz.prog 346 0=(some (0,(1,.false))):=by kernel_rfl
@[push_cast] theorem Wz:bi Tryz.prog 346 1=(some (1,(1,.false))):=by kernel_rfl
@[push_cast] theorem Zw:cX Tryz.prog 350=(some .slice):=by kernel_rfl
@[push_cast] theorem aap:oe Tryz.prog 350=(some (2,.true)):=by kernel_rfl
@[push_cast] theorem Yv:ob Tryz.prog 350=(some (2,16)):=by kernel_rfl
@[push_cast] theorem Z9:cu Tryz.prog 353=(some (2,.true)):=by kernel_rfl
@[push_cast] theorem aaN:jR Tryz.prog 353=(some (((.int .i64 0)::((.int .i64 0)::[])),none)):=by kernel_rfl
@[push_cast] theorem Y5:gT Tryz.prog 353=(some (((.int .i64 0)::((.int .i64 0)::[])),((0,1)::((1,1)::[])))):=by kernel_rfl
@[push_cast] theorem WA:bi Tryz.prog 353 1=(some (1,(1,.false))):=by kernel_rfl
@[push_cast] theorem aaa:cu Tryz.prog 358=(some (14,.true)):=by kernel_rfl
@[push_cast] theorem aaO:jR Tryz.prog 358=(some (((.int .i64 0)::((.int .i64 0)::((.int .i64 0)::((.int .i64 0)::((.int .i64 0)::((.int .i64 0)::((.int .i64 0)::((.int .i64 0)::((.int .i64 0)::((.int .i64 0)::((.int .i64 0)::((.int .i64 0)::((.string ⟨⟨[]⟩⟩)::((.int .i64 0)::[])))))))))))))),none)):=by kernel_rfl
@[push_cast] theorem Y6:gT Tryz.prog 358=(some (((.int .i64 0)::((.int .i64 0)::((.int .i64 0)::((.int .i64 0)::((.int .i64 0)::((.int .i64 0)::((.int .i64 0)::((.int .i64 0)::((.int .i64 0)::((.int .i64 0)::((.int .i64 0)::((.int .i64 0)::((.string ⟨⟨[]⟩⟩)::((.int .i64 0)::[])))))))))))))),((0,6)::((6,7)::((13,1)::[]))))):=by kernel_rfl
@[push_cast] theorem WB:bi Tryz.prog 358 0=(some (0,(6,.true))):=by kernel_rfl
@[push_cast] theorem WC:bi Tryz.prog 358 1=(some (6,(7,.true))):=by kernel_rfl
@[push_cast] theorem WD:bi Tryz.prog 358 2=(some (13,(1,.false))):=by kernel_rfl
@[push_cast] theorem Yx:Nl Tryz.prog 380=(some (4,(1,.false))):=by kernel_rfl
@[push_cast] theorem aab:cu Tryz.prog 381=(some (1,.false)):=by kernel_rfl
@[push_cast] theorem Zx:cX Tryz.prog 381=(some (.int .u64)):=by kernel_rfl
@[push_cast] theorem aaP:jR Tryz.prog 381=(some (((.int .u64 0)::[]),none)):=by kernel_rfl
@[push_cast] theorem Zy:cX Tryz.prog 391=(some .pointer):=by kernel_rfl
@[push_cast] theorem aac:cu Tryz.prog 394=(some (1,.false)):=by kernel_rfl
@[push_cast] theorem Zz:cX Tryz.prog 394=(some .pointer):=by kernel_rfl
@[push_cast] theorem aaQ:jR Tryz.prog 396=(some (((.pointer none)::((.slice none 0 0)::[])),(some 396))):=by kernel_rfl
@[push_cast] theorem WE:bi Tryz.prog 396 0=(some (0,(1,.false))):=by kernel_rfl
@[push_cast] theorem WF:bi Tryz.prog 396 1=(some (1,(1,.false))):=by kernel_rfl
@[push_cast] theorem Y7:gT Tryz.prog 417=(some (((.pointer none)::((.int .i64 0)::((.int .i64 0)::((.int .i64 0)::((.int .i64 0)::((.int .i64 0)::((.int .i64 0)::((.int .i64 0)::((.int .i64 0)::[]))))))))),((0,1)::((1,8)::[])))):=by kernel_rfl
@[push_cast] theorem WG:bi Tryz.prog 417 0=(some (0,(1,.false))):=by kernel_rfl
@[push_cast] theorem WH:bi Tryz.prog 417 1=(some (1,(8,.true))):=by kernel_rfl
@[push_cast] theorem ZA:cX Tryz.prog 426=(some .other):=by kernel_rfl
def G0:Gl:=fun g=>if g=0 then some (.pd 6 [.agg [.lit (.int .i32 768),.lit (.int .i32 879),.lit (.int .i32 8203),.lit (.int .i32 8207),.lit (.int .i32 65024),.lit (.int .i32 65039)]] 0 0) else if g=1 then some (.pd 16 [.agg [.lit (.int .i32 4352),.lit (.int .i32 4447),.lit (.int .i32 11904),.lit (.int .i32 12350),.lit (.int .i32 12353),.lit (.int .i32 19903),.lit (.int .i32 19968),.lit (.int .i32 40959),.lit (.int .i32 44032),.lit (.int .i32 55203),.lit (.int .i32 63744),.lit (.int .i32 64255),.lit (.int .i32 65280),.lit (.int .i32 65376),.lit (.int .i32 127744),.lit (.int .i32 128591)]] 0 0) else if g=2 then some (.pd 4 [.agg [.lit (.int .i32 127),.lit (.int .i32 2047),.lit (.int .i32 65535),.lit (.int .i32 1114111)]] 0 0) else none
@[push_cast] theorem glob2:G0 2=some (.pd 4 [.agg [.lit (.int .i32 127),.lit (.int .i32 2047),.lit (.int .i32 65535),.lit (.int .i32 1114111)]] 0 0):=rfl
theorem ab:Tryz.prog.follows .mixedOrders=true:=by kernel_rfl
end Go.Proofs.YtkkanlcjjpoklaaGreatDoor
