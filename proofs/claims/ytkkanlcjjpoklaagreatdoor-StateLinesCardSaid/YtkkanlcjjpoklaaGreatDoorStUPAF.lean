/- What the theorem leans on, part 6. -/
import Derived.Test.YtkkanlcjjpoklaaGreatDoorProg
import Derived.WalkKit
import Derived.Test.YtkkanlcjjpoklaaGreatDoorStUPAC
namespace Go.Proofs.YtkkanlcjjpoklaaGreatDoor
@[push_cast] theorem Z6:cF Tryz.prog 3=(some (1,.false)):=by kernel_rfl
@[push_cast] theorem Z2:cY Tryz.prog 3=(some (.int .i64)):=by kernel_rfl
@[push_cast] theorem Z9:kK Tryz.prog 3=(some (((.int .i64 0)::[]),none)):=by kernel_rfl
@[push_cast] theorem Z0:LC Tryz.prog 3 = .false:=by kernel_rfl
@[push_cast] theorem Z7:cF Tryz.prog 4=(some (1,.false)):=by kernel_rfl
@[push_cast] theorem Z3:cY Tryz.prog 4=(some .bool):=by kernel_rfl
@[push_cast] theorem Z4:cY Tryz.prog 5=(some (.int .u8)):=by kernel_rfl
@[push_cast] theorem Z1:LC Tryz.prog 5 = .false:=by kernel_rfl
@[push_cast] theorem Z8:cF Tryz.prog 9=(some (1,.false)):=by kernel_rfl
@[push_cast] theorem Z5:cY Tryz.prog 9=(some .string):=by kernel_rfl
@[push_cast] theorem YY:cF Tryz.prog 21=(some (1,.false)):=by kernel_rfl
@[push_cast] theorem YJ:cY Tryz.prog 21=(some (.int .i32)):=by kernel_rfl
@[push_cast] theorem YG:LC Tryz.prog 21 = .false:=by kernel_rfl
@[push_cast] theorem YZ:cF Tryz.prog 22=(some (1,.false)):=by kernel_rfl
@[push_cast] theorem YK:cY Tryz.prog 22=(some .slice):=by kernel_rfl
@[push_cast] theorem Zg:sG Tryz.prog 22=(some (5,.true)):=by kernel_rfl
@[push_cast] theorem Yp:qv Tryz.prog 22=(some (5,48)):=by kernel_rfl
@[push_cast] theorem Zf:Oa Tryz.prog 22=(some (5,(48,(.agg ((.lit (.int .i64 0))::((.lit (.int .i64 0))::((.lit (.int .i64 0))::((.lit (.int .i64 0))::((.lit (.string ⟨⟨[]⟩⟩))::[]))))))))):=by kernel_rfl
@[push_cast] theorem Y0:cF Tryz.prog 23=(some (1,.false)):=by kernel_rfl
@[push_cast] theorem YL:cY Tryz.prog 23=(some .slice):=by kernel_rfl
@[push_cast] theorem Zh:sG Tryz.prog 23=(some (2,.true)):=by kernel_rfl
@[push_cast] theorem Yq:qv Tryz.prog 23=(some (2,16)):=by kernel_rfl
@[push_cast] theorem Y1:cF Tryz.prog 25=(some (5,.true)):=by kernel_rfl
@[push_cast] theorem Ul:bp Tryz.prog 25 0=(some (0,(1,.false))):=by kernel_rfl
@[push_cast] theorem Um:bp Tryz.prog 25 1=(some (1,(1,.false))):=by kernel_rfl
@[push_cast] theorem Un:bp Tryz.prog 25 2=(some (2,(1,.false))):=by kernel_rfl
@[push_cast] theorem Uo:bp Tryz.prog 25 3=(some (3,(1,.false))):=by kernel_rfl
@[push_cast] theorem Uq:bp Tryz.prog 25 4=(some (4,(1,.false))):=by kernel_rfl
@[push_cast] theorem YM:cY Tryz.prog 28=(some .pointer):=by kernel_rfl
@[push_cast] theorem YN:cY Tryz.prog 30=(some .slice):=by kernel_rfl
@[push_cast] theorem Zi:sG Tryz.prog 30=(some (7,.true)):=by kernel_rfl
@[push_cast] theorem Yr:qv Tryz.prog 30=(some (7,64)):=by kernel_rfl
@[push_cast] theorem Y2:cF Tryz.prog 31=(some (1,.false)):=by kernel_rfl
@[push_cast] theorem YO:cY Tryz.prog 31=(some .slice):=by kernel_rfl
@[push_cast] theorem Zj:sG Tryz.prog 31=(some (1,.false)):=by kernel_rfl
@[push_cast] theorem Ys:qv Tryz.prog 31=(some (1,4)):=by kernel_rfl
@[push_cast] theorem Y3:cF Tryz.prog 33=(some (3,.true)):=by kernel_rfl
@[push_cast] theorem Zo:kK Tryz.prog 33=(some (((.int .i64 0)::((.slice none 0 0)::((.int .i64 0)::[]))),none)):=by kernel_rfl
@[push_cast] theorem Yy:gT Tryz.prog 33=(some (((.int .i64 0)::((.slice none 0 0)::((.int .i64 0)::[]))),((0,1)::((1,1)::((2,1)::[]))))):=by kernel_rfl
@[push_cast] theorem Ur:bp Tryz.prog 33 1=(some (1,(1,.false))):=by kernel_rfl
@[push_cast] theorem Us:bp Tryz.prog 33 2=(some (2,(1,.false))):=by kernel_rfl
@[push_cast] theorem Y4:cF Tryz.prog 35=(some (5,.true)):=by kernel_rfl
@[push_cast] theorem Zp:kK Tryz.prog 35=(some (((.slice none 0 0)::((.int .i64 0)::((.slice none 0 0)::((.int .i64 0)::((.slice none 0 0)::[]))))),none)):=by kernel_rfl
@[push_cast] theorem Yz:gT Tryz.prog 35=(some (((.slice none 0 0)::((.int .i64 0)::((.slice none 0 0)::((.int .i64 0)::((.slice none 0 0)::[]))))),((0,1)::((1,3)::((4,1)::[]))))):=by kernel_rfl
@[push_cast] theorem Ut:bp Tryz.prog 35 0=(some (0,(1,.false))):=by kernel_rfl
@[push_cast] theorem Uu:bp Tryz.prog 35 1=(some (1,(3,.true))):=by kernel_rfl
@[push_cast] theorem Uv:bp Tryz.prog 35 2=(some (4,(1,.false))):=by kernel_rfl
@[push_cast] theorem Y5:cF Tryz.prog 36=(some (1,.false)):=by kernel_rfl
@[push_cast] theorem Y6:cF Tryz.prog 38=(some (8,.true)):=by kernel_rfl
@[push_cast] theorem Zq:kK Tryz.prog 38=(some (((.slice none 0 0)::((.int .i64 0)::((.slice none 0 0)::((.int .i64 0)::((.slice none 0 0)::((.pointer none)::((.int .i64 0)::((.int .i64 0)::[])))))))),none)):=by kernel_rfl
@[push_cast] theorem YA:gT Tryz.prog 38=(some (((.slice none 0 0)::((.int .i64 0)::((.slice none 0 0)::((.int .i64 0)::((.slice none 0 0)::((.pointer none)::((.int .i64 0)::((.int .i64 0)::[])))))))),((0,5)::((5,1)::((6,1)::((7,1)::[])))))):=by kernel_rfl
@[push_cast] theorem Uw:bp Tryz.prog 38 0=(some (0,(5,.true))):=by kernel_rfl
@[push_cast] theorem Ux:bp Tryz.prog 38 1=(some (5,(1,.false))):=by kernel_rfl
@[push_cast] theorem Uy:bp Tryz.prog 38 2=(some (6,(1,.false))):=by kernel_rfl
@[push_cast] theorem Uz:bp Tryz.prog 38 3=(some (7,(1,.false))):=by kernel_rfl
@[push_cast] theorem YP:cY Tryz.prog 46=(some .slice):=by kernel_rfl
@[push_cast] theorem Zk:sG Tryz.prog 46=(some (4,.true)):=by kernel_rfl
@[push_cast] theorem Yt:qv Tryz.prog 46=(some (4,32)):=by kernel_rfl
@[push_cast] theorem YQ:cY Tryz.prog 49=(some .slice):=by kernel_rfl
@[push_cast] theorem Zl:sG Tryz.prog 49=(some (4,.true)):=by kernel_rfl
@[push_cast] theorem Yu:qv Tryz.prog 49=(some (4,32)):=by kernel_rfl
@[push_cast] theorem YR:cY Tryz.prog 50=(some .slice):=by kernel_rfl
@[push_cast] theorem Zm:sG Tryz.prog 50=(some (3,.true)):=by kernel_rfl
@[push_cast] theorem Yv:qv Tryz.prog 50=(some (3,40)):=by kernel_rfl
@[push_cast] theorem Y7:cF Tryz.prog 52=(some (1,.false)):=by kernel_rfl
@[push_cast] theorem YS:cY Tryz.prog 52=(some .slice):=by kernel_rfl
@[push_cast] theorem Zn:sG Tryz.prog 52=(some (3,.true)):=by kernel_rfl
@[push_cast] theorem Yw:qv Tryz.prog 52=(some (3,40)):=by kernel_rfl
@[push_cast] theorem Y8:cF Tryz.prog 54=(some (3,.true)):=by kernel_rfl
@[push_cast] theorem Zr:kK Tryz.prog 54=(some (((.slice none 0 0)::((.int .i64 0)::((.int .i64 0)::[]))),none)):=by kernel_rfl
@[push_cast] theorem YB:gT Tryz.prog 54=(some (((.slice none 0 0)::((.int .i64 0)::((.int .i64 0)::[]))),((0,1)::((1,1)::((2,1)::[]))))):=by kernel_rfl
@[push_cast] theorem UA:bp Tryz.prog 54 0=(some (0,(1,.false))):=by kernel_rfl
@[push_cast] theorem UB:bp Tryz.prog 54 1=(some (1,(1,.false))):=by kernel_rfl
@[push_cast] theorem UC:bp Tryz.prog 54 2=(some (2,(1,.false))):=by kernel_rfl
@[push_cast] theorem Y9:cF Tryz.prog 56=(some (4,.true)):=by kernel_rfl
@[push_cast] theorem Zs:kK Tryz.prog 56=(some (((.int .i64 0)::((.int .i64 0)::((.int .i64 0)::((.int .i64 0)::[])))),none)):=by kernel_rfl
@[push_cast] theorem YC:gT Tryz.prog 56=(some (((.int .i64 0)::((.int .i64 0)::((.int .i64 0)::((.int .i64 0)::[])))),((0,1)::((1,1)::((2,1)::((3,1)::[])))))):=by kernel_rfl
@[push_cast] theorem YH:lV Tryz.prog 56 ((.int .i64)::((.int .i64)::((.int .i64)::((.int .i64)::[])))):=lV.of (by kernel_rfl)
@[push_cast] theorem UD:bp Tryz.prog 56 0=(some (0,(1,.false))):=by kernel_rfl
@[push_cast] theorem UE:bp Tryz.prog 56 1=(some (1,(1,.false))):=by kernel_rfl
@[push_cast] theorem UF:bp Tryz.prog 56 2=(some (2,(1,.false))):=by kernel_rfl
@[push_cast] theorem UG:bp Tryz.prog 56 3=(some (3,(1,.false))):=by kernel_rfl
@[push_cast] theorem Yx:Lb Tryz.prog 60=(some (2,(1,.false))):=by kernel_rfl
@[push_cast] theorem YD:gT Tryz.prog 60=(some (((.int .i64 0)::((.int .i64 0)::[])),((0,1)::((1,1)::[])))):=by kernel_rfl
@[push_cast] theorem Za:cF Tryz.prog 62=(some (1,.false)):=by kernel_rfl
@[push_cast] theorem YT:cY Tryz.prog 62=(some .pointer):=by kernel_rfl
@[push_cast] theorem Zb:cF Tryz.prog 65=(some (1,.false)):=by kernel_rfl
@[push_cast] theorem YU:cY Tryz.prog 65=(some .pointer):=by kernel_rfl
@[push_cast] theorem Zc:cF Tryz.prog 68=(some (1,.false)):=by kernel_rfl
@[push_cast] theorem YV:cY Tryz.prog 68=(some .pointer):=by kernel_rfl
@[push_cast] theorem Zd:cF Tryz.prog 72=(some (5,.true)):=by kernel_rfl
@[push_cast] theorem Zt:kK Tryz.prog 72=(some (((.pointer none)::((.pointer none)::((.pointer none)::((.int .i64 0)::((.int .i64 0)::[]))))),none)):=by kernel_rfl
@[push_cast] theorem YE:gT Tryz.prog 72=(some (((.pointer none)::((.pointer none)::((.pointer none)::((.int .i64 0)::((.int .i64 0)::[]))))),((0,1)::((1,1)::((2,1)::((3,1)::((4,1)::[]))))))):=by kernel_rfl
@[push_cast] theorem UH:bp Tryz.prog 72 0=(some (0,(1,.false))):=by kernel_rfl
@[push_cast] theorem UI:bp Tryz.prog 72 1=(some (1,(1,.false))):=by kernel_rfl
@[push_cast] theorem UJ:bp Tryz.prog 72 2=(some (2,(1,.false))):=by kernel_rfl
@[push_cast] theorem UK:bp Tryz.prog 72 3=(some (3,(1,.false))):=by kernel_rfl
@[push_cast] theorem UL:bp Tryz.prog 72 4=(some (4,(1,.false))):=by kernel_rfl
@[push_cast] theorem YW:cY Tryz.prog 84=(some .pointer):=by kernel_rfl
@[push_cast] theorem Ze:cF Tryz.prog 86=(some (1,.false)):=by kernel_rfl
@[push_cast] theorem YX:cY Tryz.prog 86=(some .pointer):=by kernel_rfl
@[push_cast] theorem YF:gT Tryz.prog 88=(some (((.pointer none)::((.pointer none)::((.pointer none)::[]))),((0,1)::((1,1)::((2,1)::[]))))):=by kernel_rfl
@[push_cast] theorem UM:bp Tryz.prog 88 2=(some (2,(1,.false))):=by kernel_rfl
@[push_cast] theorem Wl:cF Tryz.prog 101=(some (5,.true)):=by kernel_rfl
@[push_cast] theorem W2:kK Tryz.prog 101=(some (((.int .i64 0)::((.int .i64 0)::((.int .i64 0)::((.int .i64 0)::((.int .i64 0)::[]))))),none)):=by kernel_rfl
@[push_cast] theorem Vt:gT Tryz.prog 101=(some (((.int .i64 0)::((.int .i64 0)::((.int .i64 0)::((.int .i64 0)::((.int .i64 0)::[]))))),((0,1)::((1,1)::((2,1)::((3,1)::((4,1)::[]))))))):=by kernel_rfl
@[push_cast] theorem Sp:bp Tryz.prog 101 1=(some (1,(1,.false))):=by kernel_rfl
@[push_cast] theorem Sq:bp Tryz.prog 101 2=(some (2,(1,.false))):=by kernel_rfl
@[push_cast] theorem Sr:bp Tryz.prog 101 4=(some (4,(1,.false))):=by kernel_rfl
@[push_cast] theorem Wm:cF Tryz.prog 105=(some (5,.true)):=by kernel_rfl
@[push_cast] theorem W4:kK Tryz.prog 105=(some (((.int .i64 0)::((.int .i64 0)::((.int .i64 0)::((.int .i64 0)::((.string ⟨⟨[]⟩⟩)::[]))))),none)):=by kernel_rfl
@[push_cast] theorem Ss:bp Tryz.prog 105 0=(some (0,(1,.false))):=by kernel_rfl
@[push_cast] theorem Su:bp Tryz.prog 105 1=(some (1,(1,.false))):=by kernel_rfl
@[push_cast] theorem Sv:bp Tryz.prog 105 2=(some (2,(1,.false))):=by kernel_rfl
@[push_cast] theorem Sw:bp Tryz.prog 105 3=(some (3,(1,.false))):=by kernel_rfl
@[push_cast] theorem Sx:bp Tryz.prog 105 4=(some (4,(1,.false))):=by kernel_rfl
@[push_cast] theorem Wn:cF Tryz.prog 109=(some (3,.true)):=by kernel_rfl
@[push_cast] theorem W5:kK Tryz.prog 109=(some (((.int .i64 0)::((.slice none 0 0)::((.int .i64 0)::[]))),none)):=by kernel_rfl
@[push_cast] theorem Vu:gT Tryz.prog 109=(some (((.int .i64 0)::((.slice none 0 0)::((.int .i64 0)::[]))),((0,1)::((1,1)::((2,1)::[]))))):=by kernel_rfl
@[push_cast] theorem Sy:bp Tryz.prog 109 1=(some (1,(1,.false))):=by kernel_rfl
@[push_cast] theorem Sz:bp Tryz.prog 109 2=(some (2,(1,.false))):=by kernel_rfl
@[push_cast] theorem Wo:cF Tryz.prog 111=(some (4,.true)):=by kernel_rfl
@[push_cast] theorem W7:kK Tryz.prog 111=(some (((.int .i64 0)::((.int .i64 0)::((.int .i64 0)::((.int .i64 0)::[])))),none)):=by kernel_rfl
@[push_cast] theorem Vv:gT Tryz.prog 111=(some (((.int .i64 0)::((.int .i64 0)::((.int .i64 0)::((.int .i64 0)::[])))),((0,1)::((1,1)::((2,1)::((3,1)::[])))))):=by kernel_rfl
@[push_cast] theorem SA:bp Tryz.prog 111 0=(some (0,(1,.false))):=by kernel_rfl
@[push_cast] theorem SB:bp Tryz.prog 111 1=(some (1,(1,.false))):=by kernel_rfl
@[push_cast] theorem SC:bp Tryz.prog 111 2=(some (2,(1,.false))):=by kernel_rfl
@[push_cast] theorem SD:bp Tryz.prog 111 3=(some (3,(1,.false))):=by kernel_rfl
@[push_cast] theorem Wp:cF Tryz.prog 112=(some (1,.false)):=by kernel_rfl
@[push_cast] theorem V1:cY Tryz.prog 112=(some .slice):=by kernel_rfl
@[push_cast] theorem WU:sG Tryz.prog 112=(some (4,.true)):=by kernel_rfl
@[push_cast] theorem Vk:qv Tryz.prog 112=(some (4,32)):=by kernel_rfl
@[push_cast] theorem Wq:cF Tryz.prog 114=(some (7,.true)):=by kernel_rfl
@[push_cast] theorem W8:kK Tryz.prog 114=(some (((.slice none 0 0)::((.int .i64 0)::((.int .i64 0)::((.int .i64 0)::((.bool .false)::((.bool .false)::((.int .i64 0)::[]))))))),none)):=by kernel_rfl
@[push_cast] theorem Vw:gT Tryz.prog 114=(some (((.slice none 0 0)::((.int .i64 0)::((.int .i64 0)::((.int .i64 0)::((.bool .false)::((.bool .false)::((.int .i64 0)::[]))))))),((0,1)::((1,1)::((2,1)::((3,1)::((4,1)::((5,1)::((6,1)::[]))))))))):=by kernel_rfl
@[push_cast] theorem SE:bp Tryz.prog 114 0=(some (0,(1,.false))):=by kernel_rfl
@[push_cast] theorem SF:bp Tryz.prog 114 1=(some (1,(1,.false))):=by kernel_rfl
@[push_cast] theorem SG:bp Tryz.prog 114 2=(some (2,(1,.false))):=by kernel_rfl
@[push_cast] theorem SH:bp Tryz.prog 114 3=(some (3,(1,.false))):=by kernel_rfl
@[push_cast] theorem SI:bp Tryz.prog 114 4=(some (4,(1,.false))):=by kernel_rfl
@[push_cast] theorem SJ:bp Tryz.prog 114 5=(some (5,(1,.false))):=by kernel_rfl
@[push_cast] theorem SK:bp Tryz.prog 114 6=(some (6,(1,.false))):=by kernel_rfl
@[push_cast] theorem Vx:gT Tryz.prog 119=(some (((.pointer none)::((.pointer none)::((.pointer none)::((.int .i64 0)::((.int .i64 0)::[]))))),((0,5)::[]))):=by kernel_rfl
@[push_cast] theorem SL:bp Tryz.prog 119 0=(some (0,(5,.true))):=by kernel_rfl
@[push_cast] theorem Vy:gT Tryz.prog 121=(some (((.pointer none)::((.pointer none)::((.pointer none)::[]))),((0,3)::[]))):=by kernel_rfl
@[push_cast] theorem SM:bp Tryz.prog 121 0=(some (0,(3,.true))):=by kernel_rfl
@[push_cast] theorem Vz:gT Tryz.prog 123=(some (((.pointer none)::((.pointer none)::((.pointer none)::((.int .i64 0)::((.int .i64 0)::((.pointer none)::((.pointer none)::((.pointer none)::[])))))))),((0,5)::((5,3)::[])))):=by kernel_rfl
@[push_cast] theorem SN:bp Tryz.prog 123 0=(some (0,(5,.true))):=by kernel_rfl
@[push_cast] theorem SO:bp Tryz.prog 123 1=(some (5,(3,.true))):=by kernel_rfl
@[push_cast] theorem Wr:cF Tryz.prog 126=(some (3,.true)):=by kernel_rfl
@[push_cast] theorem W9:kK Tryz.prog 126=(some (((.pointer none)::((.pointer none)::((.slice none 0 0)::[]))),none)):=by kernel_rfl
@[push_cast] theorem VA:gT Tryz.prog 126=(some (((.pointer none)::((.pointer none)::((.slice none 0 0)::[]))),((0,1)::((1,1)::((2,1)::[]))))):=by kernel_rfl
@[push_cast] theorem SP:bp Tryz.prog 126 0=(some (0,(1,.false))):=by kernel_rfl
@[push_cast] theorem SQ:bp Tryz.prog 126 1=(some (1,(1,.false))):=by kernel_rfl
@[push_cast] theorem SR:bp Tryz.prog 126 2=(some (2,(1,.false))):=by kernel_rfl
@[push_cast] theorem Ws:cF Tryz.prog 127=(some (1,.false)):=by kernel_rfl
@[push_cast] theorem V2:cY Tryz.prog 127=(some .pointer):=by kernel_rfl
@[push_cast] theorem Wt:cF Tryz.prog 129=(some (6,.true)):=by kernel_rfl
@[push_cast] theorem Xa:kK Tryz.prog 129=(some (((.pointer none)::((.pointer none)::((.slice none 0 0)::((.pointer none)::((.int .i64 0)::((.int .i64 0)::[])))))),none)):=by kernel_rfl
@[push_cast] theorem VB:gT Tryz.prog 129=(some (((.pointer none)::((.pointer none)::((.slice none 0 0)::((.pointer none)::((.int .i64 0)::((.int .i64 0)::[])))))),((0,3)::((3,1)::((4,1)::((5,1)::[])))))):=by kernel_rfl
@[push_cast] theorem ST:bp Tryz.prog 129 0=(some (0,(3,.true))):=by kernel_rfl
@[push_cast] theorem SU:bp Tryz.prog 129 1=(some (3,(1,.false))):=by kernel_rfl
@[push_cast] theorem SV:bp Tryz.prog 129 2=(some (4,(1,.false))):=by kernel_rfl
@[push_cast] theorem SW:bp Tryz.prog 129 3=(some (5,(1,.false))):=by kernel_rfl
@[push_cast] theorem Wu:cF Tryz.prog 131=(some (1,.false)):=by kernel_rfl
@[push_cast] theorem V3:cY Tryz.prog 131=(some .slice):=by kernel_rfl
@[push_cast] theorem WV:sG Tryz.prog 131=(some (3,.true)):=by kernel_rfl
@[push_cast] theorem Vl:qv Tryz.prog 131=(some (3,40)):=by kernel_rfl
@[push_cast] theorem Xb:kK Tryz.prog 131=(some (((.slice none 0 0)::[]),none)):=by kernel_rfl
@[push_cast] theorem Wv:cF Tryz.prog 133=(some (3,.true)):=by kernel_rfl
@[push_cast] theorem Xc:kK Tryz.prog 133=(some (((.slice none 0 0)::((.int .i64 0)::((.int .i64 0)::[]))),none)):=by kernel_rfl
@[push_cast] theorem VC:gT Tryz.prog 133=(some (((.slice none 0 0)::((.int .i64 0)::((.int .i64 0)::[]))),((0,1)::((1,1)::((2,1)::[]))))):=by kernel_rfl
@[push_cast] theorem SX:bp Tryz.prog 133 0=(some (0,(1,.false))):=by kernel_rfl
@[push_cast] theorem SY:bp Tryz.prog 133 1=(some (1,(1,.false))):=by kernel_rfl
@[push_cast] theorem SZ:bp Tryz.prog 133 2=(some (2,(1,.false))):=by kernel_rfl
@[push_cast] theorem Ww:cF Tryz.prog 140=(some (1,.false)):=by kernel_rfl
@[push_cast] theorem V4:cY Tryz.prog 140=(some .pointer):=by kernel_rfl
@[push_cast] theorem Wx:cF Tryz.prog 143=(some (1,.false)):=by kernel_rfl
@[push_cast] theorem V5:cY Tryz.prog 143=(some .slice):=by kernel_rfl
@[push_cast] theorem WW:sG Tryz.prog 143=(some (7,.true)):=by kernel_rfl
@[push_cast] theorem Vm:qv Tryz.prog 143=(some (7,64)):=by kernel_rfl
@[push_cast] theorem WS:Oa Tryz.prog 143=(some (7,(64,(.agg ((.lit (.int .i64 0))::((.lit (.int .i64 0))::((.lit (.int .i64 0))::((.lit (.int .i64 0))::((.lit (.int .i64 0))::((.lit (.int .i64 0))::((.lit (.string ⟨⟨[]⟩⟩))::[]))))))))))):=by kernel_rfl
@[push_cast] theorem VD:gT Tryz.prog 146=(some (((.pointer none)::[]),((0,1)::[]))):=by kernel_rfl
@[push_cast] theorem S0:bp Tryz.prog 146 0=(some (0,(1,.false))):=by kernel_rfl
@[push_cast] theorem VE:gT Tryz.prog 148=(some (((.int .i64 0)::((.slice none 0 0)::[])),((0,1)::((1,1)::[])))):=by kernel_rfl
@[push_cast] theorem S1:bp Tryz.prog 148 0=(some (0,(1,.false))):=by kernel_rfl
@[push_cast] theorem S2:bp Tryz.prog 148 1=(some (1,(1,.false))):=by kernel_rfl
@[push_cast] theorem Wy:cF Tryz.prog 151=(some (0,.true)):=by kernel_rfl
@[push_cast] theorem Xd:kK Tryz.prog 151=(some ([],none)):=by kernel_rfl
@[push_cast] theorem Xr:NI Tryz.prog 151=(some (.agg [])):=by kernel_rfl
@[push_cast] theorem VF:gT Tryz.prog 151=(some ([],[])):=by kernel_rfl
@[push_cast] theorem Wz:cF Tryz.prog 158=(some (2,.true)):=by kernel_rfl
@[push_cast] theorem Xe:kK Tryz.prog 158=(some (((.int .i64 0)::((.int .i64 0)::[])),none)):=by kernel_rfl
@[push_cast] theorem VG:gT Tryz.prog 158=(some (((.int .i64 0)::((.int .i64 0)::[])),((0,1)::((1,1)::[])))):=by kernel_rfl
@[push_cast] theorem Qr:lV Tryz.prog 158 ((.int .i64)::((.int .i64)::[])):=lV.of (by kernel_rfl)
@[push_cast] theorem S3:bp Tryz.prog 158 0=(some (0,(1,.false))):=by kernel_rfl
@[push_cast] theorem S4:bp Tryz.prog 158 1=(some (1,(1,.false))):=by kernel_rfl
@[push_cast] theorem VH:gT Tryz.prog 162=(some (((.int .i64 0)::((.slice none 0 0)::((.slice none 0 0)::[]))),((0,1)::((1,1)::((2,1)::[]))))):=by kernel_rfl
@[push_cast] theorem S5:bp Tryz.prog 162 0=(some (0,(1,.false))):=by kernel_rfl
@[push_cast] theorem S6:bp Tryz.prog 162 1=(some (1,(1,.false))):=by kernel_rfl
@[push_cast] theorem S7:bp Tryz.prog 162 2=(some (2,(1,.false))):=by kernel_rfl
@[push_cast] theorem WA:cF Tryz.prog 189=(some (3,.true)):=by kernel_rfl
@[push_cast] theorem Vr:Lb Tryz.prog 189=(some (3,(1,.false))):=by kernel_rfl
@[push_cast] theorem VI:gT Tryz.prog 189=(some (((.int .i64 0)::((.int .i64 0)::((.int .i64 0)::[]))),((0,1)::((1,1)::((2,1)::[]))))):=by kernel_rfl
@[push_cast] theorem WB:cF Tryz.prog 191=(some (7,.true)):=by kernel_rfl
@[push_cast] theorem Xf:kK Tryz.prog 191=(some (((.int .i64 0)::((.int .i64 0)::((.int .i64 0)::((.int .i64 0)::((.int .i64 0)::((.int .i64 0)::((.string ⟨⟨[]⟩⟩)::[]))))))),none)):=by kernel_rfl
@[push_cast] theorem VJ:gT Tryz.prog 191=(some (((.int .i64 0)::((.int .i64 0)::((.int .i64 0)::((.int .i64 0)::((.int .i64 0)::((.int .i64 0)::((.string ⟨⟨[]⟩⟩)::[]))))))),((0,1)::((1,1)::((2,3)::((5,1)::((6,1)::[]))))))):=by kernel_rfl
@[push_cast] theorem S8:bp Tryz.prog 191 2=(some (2,(3,.true))):=by kernel_rfl
@[push_cast] theorem S9:bp Tryz.prog 191 3=(some (5,(1,.false))):=by kernel_rfl
@[push_cast] theorem Ta:bp Tryz.prog 191 4=(some (6,(1,.false))):=by kernel_rfl
@[push_cast] theorem WC:cF Tryz.prog 196=(some (6,.true)):=by kernel_rfl
@[push_cast] theorem Xg:kK Tryz.prog 196=(some (((.int .i64 0)::((.int .i64 0)::((.int .i64 0)::((.int .i64 0)::((.int .i64 0)::((.int .i64 0)::[])))))),none)):=by kernel_rfl
@[push_cast] theorem VK:gT Tryz.prog 196=(some (((.int .i64 0)::((.int .i64 0)::((.int .i64 0)::((.int .i64 0)::((.int .i64 0)::((.int .i64 0)::[])))))),((0,1)::((1,3)::((4,1)::((5,1)::[])))))):=by kernel_rfl
@[push_cast] theorem Tb:bp Tryz.prog 196 0=(some (0,(1,.false))):=by kernel_rfl
@[push_cast] theorem Tc:bp Tryz.prog 196 1=(some (1,(3,.true))):=by kernel_rfl
@[push_cast] theorem Td:bp Tryz.prog 196 2=(some (4,(1,.false))):=by kernel_rfl
@[push_cast] theorem Te:bp Tryz.prog 196 3=(some (5,(1,.false))):=by kernel_rfl
@[push_cast] theorem WD:cF Tryz.prog 198=(some (8,.true)):=by kernel_rfl
@[push_cast] theorem Xh:kK Tryz.prog 198=(some (((.int .i64 0)::((.int .i64 0)::((.int .i64 0)::((.int .i64 0)::((.int .i64 0)::((.int .i64 0)::((.int .i64 0)::((.int .i64 0)::[])))))))),none)):=by kernel_rfl
@[push_cast] theorem VL:gT Tryz.prog 198=(some (((.int .i64 0)::((.int .i64 0)::((.int .i64 0)::((.int .i64 0)::((.int .i64 0)::((.int .i64 0)::((.int .i64 0)::((.int .i64 0)::[])))))))),((0,1)::((1,6)::((7,1)::[]))))):=by kernel_rfl
@[push_cast] theorem Tf:bp Tryz.prog 198 0=(some (0,(1,.false))):=by kernel_rfl
@[push_cast] theorem Tg:bp Tryz.prog 198 1=(some (1,(6,.true))):=by kernel_rfl
@[push_cast] theorem Th:bp Tryz.prog 198 2=(some (7,(1,.false))):=by kernel_rfl
@[push_cast] theorem WE:cF Tryz.prog 206=(some (2,.true)):=by kernel_rfl
@[push_cast] theorem Xi:kK Tryz.prog 206=(some (((.int .i32 0)::((.int .i64 0)::[])),none)):=by kernel_rfl
@[push_cast] theorem VM:gT Tryz.prog 206=(some (((.int .i32 0)::((.int .i64 0)::[])),((0,1)::((1,1)::[])))):=by kernel_rfl
@[push_cast] theorem Ti:bp Tryz.prog 206 0=(some (0,(1,.false))):=by kernel_rfl
@[push_cast] theorem Tj:bp Tryz.prog 206 1=(some (1,(1,.false))):=by kernel_rfl
@[push_cast] theorem WF:cF Tryz.prog 213=(some (2,.true)):=by kernel_rfl
@[push_cast] theorem Xj:kK Tryz.prog 213=(some (((.int .i32 0)::((.int .i32 0)::[])),none)):=by kernel_rfl
@[push_cast] theorem Tl:bp Tryz.prog 213 0=(some (0,(1,.false))):=by kernel_rfl
@[push_cast] theorem Tm:bp Tryz.prog 213 1=(some (1,(1,.false))):=by kernel_rfl
@[push_cast] theorem WG:cF Tryz.prog 214=(some (1,.false)):=by kernel_rfl
@[push_cast] theorem V6:cY Tryz.prog 214=(some .slice):=by kernel_rfl
@[push_cast] theorem WX:sG Tryz.prog 214=(some (2,.true)):=by kernel_rfl
@[push_cast] theorem Tn:bp Tryz.prog 216 0=(some (0,(1,.false))):=by kernel_rfl
@[push_cast] theorem To:bp Tryz.prog 216 1=(some (1,(1,.false))):=by kernel_rfl
@[push_cast] theorem V7:cY Tryz.prog 217=(some .slice):=by kernel_rfl
@[push_cast] theorem WY:sG Tryz.prog 217=(some (1,.false)):=by kernel_rfl
@[push_cast] theorem Vn:qv Tryz.prog 217=(some (1,24)):=by kernel_rfl
@[push_cast] theorem WH:cF Tryz.prog 222=(some (4,.true)):=by kernel_rfl
@[push_cast] theorem Xk:kK Tryz.prog 222=(some (((.int .i32 0)::((.int .i64 0)::((.int .i64 0)::((.int .i64 0)::[])))),none)):=by kernel_rfl
@[push_cast] theorem VN:gT Tryz.prog 222=(some (((.int .i32 0)::((.int .i64 0)::((.int .i64 0)::((.int .i64 0)::[])))),((0,1)::((1,1)::((2,1)::((3,1)::[])))))):=by kernel_rfl
@[push_cast] theorem V0:lV Tryz.prog 222 ((.int .i32)::((.int .i64)::((.int .i64)::((.int .i64)::[])))):=lV.of (by kernel_rfl)
@[push_cast] theorem Tp:bp Tryz.prog 222 0=(some (0,(1,.false))):=by kernel_rfl
@[push_cast] theorem Tq:bp Tryz.prog 222 1=(some (1,(1,.false))):=by kernel_rfl
@[push_cast] theorem Tr:bp Tryz.prog 222 2=(some (2,(1,.false))):=by kernel_rfl
@[push_cast] theorem Ts:bp Tryz.prog 222 3=(some (3,(1,.false))):=by kernel_rfl
@[push_cast] theorem WI:cF Tryz.prog 233=(some (3,.true)):=by kernel_rfl
@[push_cast] theorem Xl:kK Tryz.prog 233=(some (((.int .i64 0)::((.int .i64 0)::((.slice none 0 0)::[]))),none)):=by kernel_rfl
@[push_cast] theorem VO:gT Tryz.prog 233=(some (((.int .i64 0)::((.int .i64 0)::((.slice none 0 0)::[]))),((0,1)::((1,1)::((2,1)::[]))))):=by kernel_rfl
@[push_cast] theorem Tt:bp Tryz.prog 233 0=(some (0,(1,.false))):=by kernel_rfl
@[push_cast] theorem Tu:bp Tryz.prog 233 1=(some (1,(1,.false))):=by kernel_rfl
@[push_cast] theorem Tv:bp Tryz.prog 233 2=(some (2,(1,.false))):=by kernel_rfl
@[push_cast] theorem WJ:cF Tryz.prog 237=(some (1,.false)):=by kernel_rfl
@[push_cast] theorem V8:cY Tryz.prog 237=(some .iface):=by kernel_rfl
@[push_cast] theorem V9:cY Tryz.prog 240=(some .pointer):=by kernel_rfl
@[push_cast] theorem Xs:NI Tryz.prog 240=(some (.lit (.pointer none))):=by kernel_rfl
@[push_cast] theorem VP:gT Tryz.prog 243=(some ((.nilIface::[]),((0,1)::[]))):=by kernel_rfl
@[push_cast] theorem Tw:bp Tryz.prog 243 0=(some (0,(1,.false))):=by kernel_rfl
@[push_cast] theorem Wa:cY Tryz.prog 248=(some (.int .u64)):=by kernel_rfl
@[push_cast] theorem VY:LC Tryz.prog 248 = .false:=by kernel_rfl
@[push_cast] theorem VQ:gT Tryz.prog 255=(some (((.pointer none)::[]),((0,1)::[]))):=by kernel_rfl
@[push_cast] theorem Tx:bp Tryz.prog 255 0=(some (0,(1,.false))):=by kernel_rfl
@[push_cast] theorem VR:gT Tryz.prog 260=(some (((.pointer none)::[]),((0,1)::[]))):=by kernel_rfl
@[push_cast] theorem Wb:cY Tryz.prog 275=(some .pointer):=by kernel_rfl
@[push_cast] theorem Xt:NI Tryz.prog 275=(some (.lit (.pointer none))):=by kernel_rfl
@[push_cast] theorem WK:cF Tryz.prog 277=(some (1,.false)):=by kernel_rfl
@[push_cast] theorem Wc:cY Tryz.prog 277=(some .slice):=by kernel_rfl
@[push_cast] theorem WZ:sG Tryz.prog 277=(some (1,.false)):=by kernel_rfl
@[push_cast] theorem Vo:qv Tryz.prog 277=(some (1,16)):=by kernel_rfl
@[push_cast] theorem WT:Oa Tryz.prog 277=(some (1,(16,(.lit .nilIface)))):=by kernel_rfl
@[push_cast] theorem VS:gT Tryz.prog 279=(some (((.slice none 0 0)::((.int .i64 0)::((.int .i64 0)::((.int .i64 0)::((.int .i64 0)::((.int .i64 0)::((.int .i64 0)::((.int .i64 0)::[])))))))),((0,1)::((1,1)::((2,6)::[]))))):=by kernel_rfl
@[push_cast] theorem Ty:bp Tryz.prog 279 0=(some (0,(1,.false))):=by kernel_rfl
@[push_cast] theorem Tz:bp Tryz.prog 279 1=(some (1,(1,.false))):=by kernel_rfl
@[push_cast] theorem TA:bp Tryz.prog 279 2=(some (2,(6,.true))):=by kernel_rfl
@[push_cast] theorem VT:gT Tryz.prog 284=(some (((.slice none 0 0)::((.int .i64 0)::((.int .i64 0)::((.int .i64 0)::((.int .i64 0)::((.int .i64 0)::((.int .i64 0)::[]))))))),((0,1)::((1,6)::[])))):=by kernel_rfl
@[push_cast] theorem TB:bp Tryz.prog 284 0=(some (0,(1,.false))):=by kernel_rfl
@[push_cast] theorem TC:bp Tryz.prog 284 1=(some (1,(6,.true))):=by kernel_rfl
@[push_cast] theorem VU:gT Tryz.prog 288=(some (((.pointer none)::[]),((0,1)::[]))):=by kernel_rfl
@[push_cast] theorem TD:bp Tryz.prog 288 0=(some (0,(1,.false))):=by kernel_rfl
@[push_cast] theorem WL:cF Tryz.prog 293=(some (1,.false)):=by kernel_rfl
@[push_cast] theorem Wd:cY Tryz.prog 293=(some .slice):=by kernel_rfl
@[push_cast] theorem W0:sG Tryz.prog 293=(some (1,.false)):=by kernel_rfl
@[push_cast] theorem Vp:qv Tryz.prog 293=(some (1,8)):=by kernel_rfl
@[push_cast] theorem Xm:kK Tryz.prog 293=(some (((.slice none 0 0)::[]),none)):=by kernel_rfl
@[push_cast] theorem WM:cF Tryz.prog 307=(some (3,.true)):=by kernel_rfl
@[push_cast] theorem Xn:kK Tryz.prog 307=(some (((.int .i64 0)::((.int .i64 0)::((.slice none 0 0)::[]))),none)):=by kernel_rfl
@[push_cast] theorem VV:gT Tryz.prog 307=(some (((.int .i64 0)::((.int .i64 0)::((.slice none 0 0)::[]))),((0,1)::((1,1)::((2,1)::[]))))):=by kernel_rfl
@[push_cast] theorem TE:bp Tryz.prog 307 0=(some (0,(1,.false))):=by kernel_rfl
@[push_cast] theorem TF:bp Tryz.prog 307 1=(some (1,(1,.false))):=by kernel_rfl
@[push_cast] theorem TG:bp Tryz.prog 307 2=(some (2,(1,.false))):=by kernel_rfl
@[push_cast] theorem WN:cF Tryz.prog 318=(some (1,.false)):=by kernel_rfl
@[push_cast] theorem We:cY Tryz.prog 318=(some .slice):=by kernel_rfl
@[push_cast] theorem Vq:qv Tryz.prog 318=(some (1,1)):=by kernel_rfl
@[push_cast] theorem VZ:LC Tryz.prog 318 = .true:=by kernel_rfl
@[push_cast] theorem WO:cF Tryz.prog 343=(some (1,.false)):=by kernel_rfl
@[push_cast] theorem Wf:cY Tryz.prog 343=(some .slice):=by kernel_rfl
@[push_cast] theorem W1:sG Tryz.prog 343=(some (2,.true)):=by kernel_rfl
@[push_cast] theorem TH:bp Tryz.prog 345 0=(some (0,(1,.false))):=by kernel_rfl
@[push_cast] theorem TI:bp Tryz.prog 345 1=(some (1,(1,.false))):=by kernel_rfl
@[push_cast] theorem TJ:bp Tryz.prog 346 0=(some (0,(1,.false))):=by kernel_rfl
@[push_cast] theorem TK:bp Tryz.prog 346 1=(some (1,(1,.false))):=by kernel_rfl
@[push_cast] theorem WP:cF Tryz.prog 358=(some (14,.true)):=by kernel_rfl
@[push_cast] theorem Xo:kK Tryz.prog 358=(some (((.int .i64 0)::((.int .i64 0)::((.int .i64 0)::((.int .i64 0)::((.int .i64 0)::((.int .i64 0)::((.int .i64 0)::((.int .i64 0)::((.int .i64 0)::((.int .i64 0)::((.int .i64 0)::((.int .i64 0)::((.string ⟨⟨[]⟩⟩)::((.int .i64 0)::[])))))))))))))),none)):=by kernel_rfl
@[push_cast] theorem VW:gT Tryz.prog 358=(some (((.int .i64 0)::((.int .i64 0)::((.int .i64 0)::((.int .i64 0)::((.int .i64 0)::((.int .i64 0)::((.int .i64 0)::((.int .i64 0)::((.int .i64 0)::((.int .i64 0)::((.int .i64 0)::((.int .i64 0)::((.string ⟨⟨[]⟩⟩)::((.int .i64 0)::[])))))))))))))),((0,6)::((6,7)::((13,1)::[]))))):=by kernel_rfl
@[push_cast] theorem TL:bp Tryz.prog 358 0=(some (0,(6,.true))):=by kernel_rfl
@[push_cast] theorem TM:bp Tryz.prog 358 1=(some (6,(7,.true))):=by kernel_rfl
@[push_cast] theorem TN:bp Tryz.prog 358 2=(some (13,(1,.false))):=by kernel_rfl
@[push_cast] theorem Vs:Lb Tryz.prog 380=(some (4,(1,.false))):=by kernel_rfl
@[push_cast] theorem WQ:cF Tryz.prog 381=(some (1,.false)):=by kernel_rfl
@[push_cast] theorem Wg:cY Tryz.prog 381=(some (.int .u64)):=by kernel_rfl
@[push_cast] theorem Xp:kK Tryz.prog 381=(some (((.int .u64 0)::[]),none)):=by kernel_rfl
@[push_cast] theorem Wh:cY Tryz.prog 391=(some .pointer):=by kernel_rfl
@[push_cast] theorem WR:cF Tryz.prog 394=(some (1,.false)):=by kernel_rfl
@[push_cast] theorem Wi:cY Tryz.prog 394=(some .pointer):=by kernel_rfl
@[push_cast] theorem Xq:kK Tryz.prog 396=(some (((.pointer none)::((.slice none 0 0)::[])),(some 396))):=by kernel_rfl
@[push_cast] theorem TO:bp Tryz.prog 396 0=(some (0,(1,.false))):=by kernel_rfl
@[push_cast] theorem TP:bp Tryz.prog 396 1=(some (1,(1,.false))):=by kernel_rfl
@[push_cast] theorem VX:gT Tryz.prog 417=(some (((.pointer none)::((.int .i64 0)::((.int .i64 0)::((.int .i64 0)::((.int .i64 0)::((.int .i64 0)::((.int .i64 0)::((.int .i64 0)::((.int .i64 0)::[]))))))))),((0,1)::((1,8)::[])))):=by kernel_rfl
@[push_cast] theorem TQ:bp Tryz.prog 417 0=(some (0,(1,.false))):=by kernel_rfl
@[push_cast] theorem TR:bp Tryz.prog 417 1=(some (1,(8,.true))):=by kernel_rfl
@[push_cast] theorem Wj:cY Tryz.prog 426=(some .other):=by kernel_rfl
def G0:Gl:=fun g=>if g=0 then some (.pd 6 [.agg [.lit (.int .i32 768),.lit (.int .i32 879),.lit (.int .i32 8203),.lit (.int .i32 8207),.lit (.int .i32 65024),.lit (.int .i32 65039)]] 0 0) else if g=1 then some (.pd 16 [.agg [.lit (.int .i32 4352),.lit (.int .i32 4447),.lit (.int .i32 11904),.lit (.int .i32 12350),.lit (.int .i32 12353),.lit (.int .i32 19903),.lit (.int .i32 19968),.lit (.int .i32 40959),.lit (.int .i32 44032),.lit (.int .i32 55203),.lit (.int .i32 63744),.lit (.int .i32 64255),.lit (.int .i32 65280),.lit (.int .i32 65376),.lit (.int .i32 127744),.lit (.int .i32 128591)]] 0 0) else if g=2 then some (.pd 4 [.agg [.lit (.int .i32 127),.lit (.int .i32 2047),.lit (.int .i32 65535),.lit (.int .i32 1114111)]] 0 0) else none
@[push_cast] theorem XU:G0 2=some (.pd 4 [.agg [.lit (.int .i32 127),.lit (.int .i32 2047),.lit (.int .i32 65535),.lit (.int .i32 1114111)]] 0 0):=rfl
theorem ab:Tryz.prog.follows .mixedOrders=true:=by kernel_rfl
end Go.Proofs.YtkkanlcjjpoklaaGreatDoor
