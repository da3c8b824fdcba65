/- What the theorem leans on, part 6. -/
import Derived.Test.YtkkanlcjjpoklaaGreatDoorProg
import Derived.WalkKit
import Derived.Test.YtkkanlcjjpoklaaGreatDoorSpTPAC
namespace Go.Proofs.YtkkanlcjjpoklaaGreatDoor
@[push_cast] theorem QW:cW Tryz.prog 3=(some (1,.false)):=by kernel_rfl
@[push_cast] theorem QY:si Tryz.prog 3=(some (((.int .i64 0)::[]),none)):=by kernel_rfl
@[push_cast] theorem QU:cO Tryz.prog 4=(some .bool):=by kernel_rfl
@[push_cast] theorem QX:cW Tryz.prog 9=(some (1,.false)):=by kernel_rfl
@[push_cast] theorem QV:cO Tryz.prog 9=(some .string):=by kernel_rfl
@[push_cast] theorem Qi:cW Tryz.prog 21=(some (1,.false)):=by kernel_rfl
@[push_cast] theorem P8:cO Tryz.prog 21=(some (.int .i32)):=by kernel_rfl
@[push_cast] theorem P6:Kf Tryz.prog 21 = .false:=by kernel_rfl
@[push_cast] theorem Qj:cW Tryz.prog 22=(some (1,.false)):=by kernel_rfl
@[push_cast] theorem P9:cO Tryz.prog 22=(some .slice):=by kernel_rfl
@[push_cast] theorem Qr:ua Tryz.prog 22=(some (5,.true)):=by kernel_rfl
@[push_cast] theorem PZ:sA Tryz.prog 22=(some (5,48)):=by kernel_rfl
@[push_cast] theorem Qq:H6 Tryz.prog 22=(some (5,(48,(.agg ((.lit (.int .i64 0))::((.lit (.int .i64 0))::((.lit (.int .i64 0))::((.lit (.int .i64 0))::((.lit (.string ⟨⟨[]⟩⟩))::[]))))))))):=by kernel_rfl
@[push_cast] theorem Qk:cW Tryz.prog 23=(some (1,.false)):=by kernel_rfl
@[push_cast] theorem Qa:cO Tryz.prog 23=(some .slice):=by kernel_rfl
@[push_cast] theorem Qs:ua Tryz.prog 23=(some (2,.true)):=by kernel_rfl
@[push_cast] theorem P0:sA Tryz.prog 23=(some (2,16)):=by kernel_rfl
@[push_cast] theorem MS:b9 Tryz.prog 25 0=(some (0,(1,.false))):=by kernel_rfl
@[push_cast] theorem MT:b9 Tryz.prog 25 3=(some (3,(1,.false))):=by kernel_rfl
@[push_cast] theorem MU:b9 Tryz.prog 25 4=(some (4,(1,.false))):=by kernel_rfl
@[push_cast] theorem Qb:cO Tryz.prog 28=(some .pointer):=by kernel_rfl
@[push_cast] theorem Ql:cW Tryz.prog 31=(some (1,.false)):=by kernel_rfl
@[push_cast] theorem Qc:cO Tryz.prog 31=(some .slice):=by kernel_rfl
@[push_cast] theorem Qt:ua Tryz.prog 31=(some (1,.false)):=by kernel_rfl
@[push_cast] theorem P1:sA Tryz.prog 31=(some (1,4)):=by kernel_rfl
@[push_cast] theorem Qd:cO Tryz.prog 46=(some .slice):=by kernel_rfl
@[push_cast] theorem Qu:ua Tryz.prog 46=(some (4,.true)):=by kernel_rfl
@[push_cast] theorem P2:sA Tryz.prog 46=(some (4,32)):=by kernel_rfl
@[push_cast] theorem P3:Fb Tryz.prog 60=(some (2,(1,.false))):=by kernel_rfl
@[push_cast] theorem Qm:cW Tryz.prog 62=(some (1,.false)):=by kernel_rfl
@[push_cast] theorem Qe:cO Tryz.prog 62=(some .pointer):=by kernel_rfl
@[push_cast] theorem Qn:cW Tryz.prog 65=(some (1,.false)):=by kernel_rfl
@[push_cast] theorem Qf:cO Tryz.prog 65=(some .pointer):=by kernel_rfl
@[push_cast] theorem Qo:cW Tryz.prog 68=(some (1,.false)):=by kernel_rfl
@[push_cast] theorem Qg:cO Tryz.prog 68=(some .pointer):=by kernel_rfl
@[push_cast] theorem Qp:cW Tryz.prog 72=(some (5,.true)):=by kernel_rfl
@[push_cast] theorem Qv:si Tryz.prog 72=(some (((.pointer none)::((.pointer none)::((.pointer none)::((.int .i64 0)::((.int .i64 0)::[]))))),none)):=by kernel_rfl
@[push_cast] theorem P4:jT Tryz.prog 72=(some (((.pointer none)::((.pointer none)::((.pointer none)::((.int .i64 0)::((.int .i64 0)::[]))))),((0,1)::((1,1)::((2,1)::((3,1)::((4,1)::[]))))))):=by kernel_rfl
@[push_cast] theorem MV:b9 Tryz.prog 72 0=(some (0,(1,.false))):=by kernel_rfl
@[push_cast] theorem MW:b9 Tryz.prog 72 1=(some (1,(1,.false))):=by kernel_rfl
@[push_cast] theorem MX:b9 Tryz.prog 72 2=(some (2,(1,.false))):=by kernel_rfl
@[push_cast] theorem MY:b9 Tryz.prog 72 3=(some (3,(1,.false))):=by kernel_rfl
@[push_cast] theorem MZ:b9 Tryz.prog 72 4=(some (4,(1,.false))):=by kernel_rfl
@[push_cast] theorem Qh:cO Tryz.prog 84=(some .pointer):=by kernel_rfl
@[push_cast] theorem P5:jT Tryz.prog 88=(some (((.pointer none)::((.pointer none)::((.pointer none)::[]))),((0,1)::((1,1)::((2,1)::[]))))):=by kernel_rfl
@[push_cast] theorem Oo:cW Tryz.prog 105=(some (5,.true)):=by kernel_rfl
@[push_cast] theorem OZ:si Tryz.prog 105=(some (((.int .i64 0)::((.int .i64 0)::((.int .i64 0)::((.int .i64 0)::((.string ⟨⟨[]⟩⟩)::[]))))),none)):=by kernel_rfl
@[push_cast] theorem Lt:b9 Tryz.prog 105 0=(some (0,(1,.false))):=by kernel_rfl
@[push_cast] theorem Lu:b9 Tryz.prog 105 1=(some (1,(1,.false))):=by kernel_rfl
@[push_cast] theorem Lv:b9 Tryz.prog 105 4=(some (4,(1,.false))):=by kernel_rfl
@[push_cast] theorem Oq:cW Tryz.prog 111=(some (4,.true)):=by kernel_rfl
@[push_cast] theorem O0:si Tryz.prog 111=(some (((.int .i64 0)::((.int .i64 0)::((.int .i64 0)::((.int .i64 0)::[])))),none)):=by kernel_rfl
@[push_cast] theorem NI:jT Tryz.prog 111=(some (((.int .i64 0)::((.int .i64 0)::((.int .i64 0)::((.int .i64 0)::[])))),((0,1)::((1,1)::((2,1)::((3,1)::[])))))):=by kernel_rfl
@[push_cast] theorem Lw:b9 Tryz.prog 111 0=(some (0,(1,.false))):=by kernel_rfl
@[push_cast] theorem Lx:b9 Tryz.prog 111 1=(some (1,(1,.false))):=by kernel_rfl
@[push_cast] theorem Ly:b9 Tryz.prog 111 2=(some (2,(1,.false))):=by kernel_rfl
@[push_cast] theorem Lz:b9 Tryz.prog 111 3=(some (3,(1,.false))):=by kernel_rfl
@[push_cast] theorem Ot:cW Tryz.prog 112=(some (1,.false)):=by kernel_rfl
@[push_cast] theorem N8:cO Tryz.prog 112=(some .slice):=by kernel_rfl
@[push_cast] theorem OS:ua Tryz.prog 112=(some (4,.true)):=by kernel_rfl
@[push_cast] theorem Nz:sA Tryz.prog 112=(some (4,32)):=by kernel_rfl
@[push_cast] theorem NJ:jT Tryz.prog 119=(some (((.pointer none)::((.pointer none)::((.pointer none)::((.int .i64 0)::((.int .i64 0)::[]))))),((0,5)::[]))):=by kernel_rfl
@[push_cast] theorem NK:jT Tryz.prog 121=(some (((.pointer none)::((.pointer none)::((.pointer none)::[]))),((0,3)::[]))):=by kernel_rfl
@[push_cast] theorem NL:jT Tryz.prog 123=(some (((.pointer none)::((.pointer none)::((.pointer none)::((.int .i64 0)::((.int .i64 0)::((.pointer none)::((.pointer none)::((.pointer none)::[])))))))),((0,5)::((5,3)::[])))):=by kernel_rfl
@[push_cast] theorem Ou:cW Tryz.prog 126=(some (3,.true)):=by kernel_rfl
@[push_cast] theorem O1:si Tryz.prog 126=(some (((.pointer none)::((.pointer none)::((.slice none 0 0)::[]))),none)):=by kernel_rfl
@[push_cast] theorem NM:jT Tryz.prog 126=(some (((.pointer none)::((.pointer none)::((.slice none 0 0)::[]))),((0,1)::((1,1)::((2,1)::[]))))):=by kernel_rfl
@[push_cast] theorem LA:b9 Tryz.prog 126 0=(some (0,(1,.false))):=by kernel_rfl
@[push_cast] theorem LB:b9 Tryz.prog 126 1=(some (1,(1,.false))):=by kernel_rfl
@[push_cast] theorem LC:b9 Tryz.prog 126 2=(some (2,(1,.false))):=by kernel_rfl
@[push_cast] theorem Ov:cW Tryz.prog 127=(some (1,.false)):=by kernel_rfl
@[push_cast] theorem N9:cO Tryz.prog 127=(some .pointer):=by kernel_rfl
@[push_cast] theorem Ow:cW Tryz.prog 129=(some (6,.true)):=by kernel_rfl
@[push_cast] theorem O2:si Tryz.prog 129=(some (((.pointer none)::((.pointer none)::((.slice none 0 0)::((.pointer none)::((.int .i64 0)::((.int .i64 0)::[])))))),none)):=by kernel_rfl
@[push_cast] theorem NN:jT Tryz.prog 129=(some (((.pointer none)::((.pointer none)::((.slice none 0 0)::((.pointer none)::((.int .i64 0)::((.int .i64 0)::[])))))),((0,3)::((3,1)::((4,1)::((5,1)::[])))))):=by kernel_rfl
@[push_cast] theorem LD:b9 Tryz.prog 129 0=(some (0,(3,.true))):=by kernel_rfl
@[push_cast] theorem LE:b9 Tryz.prog 129 1=(some (3,(1,.false))):=by kernel_rfl
@[push_cast] theorem LF:b9 Tryz.prog 129 2=(some (4,(1,.false))):=by kernel_rfl
@[push_cast] theorem LG:b9 Tryz.prog 129 3=(some (5,(1,.false))):=by kernel_rfl
@[push_cast] theorem Ox:cW Tryz.prog 131=(some (1,.false)):=by kernel_rfl
@[push_cast] theorem Oa:cO Tryz.prog 131=(some .slice):=by kernel_rfl
@[push_cast] theorem OT:ua Tryz.prog 131=(some (3,.true)):=by kernel_rfl
@[push_cast] theorem NA:sA Tryz.prog 131=(some (3,40)):=by kernel_rfl
@[push_cast] theorem O3:si Tryz.prog 131=(some (((.slice none 0 0)::[]),none)):=by kernel_rfl
@[push_cast] theorem Oy:cW Tryz.prog 133=(some (3,.true)):=by kernel_rfl
@[push_cast] theorem O4:si Tryz.prog 133=(some (((.slice none 0 0)::((.int .i64 0)::((.int .i64 0)::[]))),none)):=by kernel_rfl
@[push_cast] theorem NO:jT Tryz.prog 133=(some (((.slice none 0 0)::((.int .i64 0)::((.int .i64 0)::[]))),((0,1)::((1,1)::((2,1)::[]))))):=by kernel_rfl
@[push_cast] theorem LH:b9 Tryz.prog 133 0=(some (0,(1,.false))):=by kernel_rfl
@[push_cast] theorem LI:b9 Tryz.prog 133 1=(some (1,(1,.false))):=by kernel_rfl
@[push_cast] theorem LJ:b9 Tryz.prog 133 2=(some (2,(1,.false))):=by kernel_rfl
@[push_cast] theorem Oz:cW Tryz.prog 140=(some (1,.false)):=by kernel_rfl
@[push_cast] theorem Ob:cO Tryz.prog 140=(some .pointer):=by kernel_rfl
@[push_cast] theorem OA:cW Tryz.prog 143=(some (1,.false)):=by kernel_rfl
@[push_cast] theorem Oc:cO Tryz.prog 143=(some .slice):=by kernel_rfl
@[push_cast] theorem OU:ua Tryz.prog 143=(some (7,.true)):=by kernel_rfl
@[push_cast] theorem NB:sA Tryz.prog 143=(some (7,64)):=by kernel_rfl
@[push_cast] theorem OP:H6 Tryz.prog 143=(some (7,(64,(.agg ((.lit (.int .i64 0))::((.lit (.int .i64 0))::((.lit (.int .i64 0))::((.lit (.int .i64 0))::((.lit (.int .i64 0))::((.lit (.int .i64 0))::((.lit (.string ⟨⟨[]⟩⟩))::[]))))))))))):=by kernel_rfl
@[push_cast] theorem NP:jT Tryz.prog 146=(some (((.pointer none)::[]),((0,1)::[]))):=by kernel_rfl
@[push_cast] theorem LK:b9 Tryz.prog 146 0=(some (0,(1,.false))):=by kernel_rfl
@[push_cast] theorem NQ:jT Tryz.prog 148=(some (((.int .i64 0)::((.slice none 0 0)::[])),((0,1)::((1,1)::[])))):=by kernel_rfl
@[push_cast] theorem LL:b9 Tryz.prog 148 0=(some (0,(1,.false))):=by kernel_rfl
@[push_cast] theorem LM:b9 Tryz.prog 148 1=(some (1,(1,.false))):=by kernel_rfl
@[push_cast] theorem OB:cW Tryz.prog 158=(some (2,.true)):=by kernel_rfl
@[push_cast] theorem O5:si Tryz.prog 158=(some (((.int .i64 0)::((.int .i64 0)::[])),none)):=by kernel_rfl
@[push_cast] theorem NR:jT Tryz.prog 158=(some (((.int .i64 0)::((.int .i64 0)::[])),((0,1)::((1,1)::[])))):=by kernel_rfl
@[push_cast] theorem LN:b9 Tryz.prog 158 0=(some (0,(1,.false))):=by kernel_rfl
@[push_cast] theorem LO:b9 Tryz.prog 158 1=(some (1,(1,.false))):=by kernel_rfl
@[push_cast] theorem NS:jT Tryz.prog 162=(some (((.int .i64 0)::((.slice none 0 0)::((.slice none 0 0)::[]))),((0,1)::((1,1)::((2,1)::[]))))):=by kernel_rfl
@[push_cast] theorem LP:b9 Tryz.prog 162 0=(some (0,(1,.false))):=by kernel_rfl
@[push_cast] theorem LQ:b9 Tryz.prog 162 1=(some (1,(1,.false))):=by kernel_rfl
@[push_cast] theorem LR:b9 Tryz.prog 162 2=(some (2,(1,.false))):=by kernel_rfl
@[push_cast] theorem OC:cW Tryz.prog 189=(some (3,.true)):=by kernel_rfl
@[push_cast] theorem NG:Fb Tryz.prog 189=(some (3,(1,.false))):=by kernel_rfl
@[push_cast] theorem NT:jT Tryz.prog 189=(some (((.int .i64 0)::((.int .i64 0)::((.int .i64 0)::[]))),((0,1)::((1,1)::((2,1)::[]))))):=by kernel_rfl
@[push_cast] theorem OD:cW Tryz.prog 191=(some (7,.true)):=by kernel_rfl
@[push_cast] theorem O6:si Tryz.prog 191=(some (((.int .i64 0)::((.int .i64 0)::((.int .i64 0)::((.int .i64 0)::((.int .i64 0)::((.int .i64 0)::((.string ⟨⟨[]⟩⟩)::[]))))))),none)):=by kernel_rfl
@[push_cast] theorem NU:jT Tryz.prog 191=(some (((.int .i64 0)::((.int .i64 0)::((.int .i64 0)::((.int .i64 0)::((.int .i64 0)::((.int .i64 0)::((.string ⟨⟨[]⟩⟩)::[]))))))),((0,1)::((1,1)::((2,3)::((5,1)::((6,1)::[]))))))):=by kernel_rfl
@[push_cast] theorem LS:b9 Tryz.prog 191 2=(some (2,(3,.true))):=by kernel_rfl
@[push_cast] theorem LT:b9 Tryz.prog 191 3=(some (5,(1,.false))):=by kernel_rfl
@[push_cast] theorem LU:b9 Tryz.prog 191 4=(some (6,(1,.false))):=by kernel_rfl
@[push_cast] theorem OE:cW Tryz.prog 196=(some (6,.true)):=by kernel_rfl
@[push_cast] theorem O7:si Tryz.prog 196=(some (((.int .i64 0)::((.int .i64 0)::((.int .i64 0)::((.int .i64 0)::((.int .i64 0)::((.int .i64 0)::[])))))),none)):=by kernel_rfl
@[push_cast] theorem NV:jT Tryz.prog 196=(some (((.int .i64 0)::((.int .i64 0)::((.int .i64 0)::((.int .i64 0)::((.int .i64 0)::((.int .i64 0)::[])))))),((0,1)::((1,3)::((4,1)::((5,1)::[])))))):=by kernel_rfl
@[push_cast] theorem LV:b9 Tryz.prog 196 0=(some (0,(1,.false))):=by kernel_rfl
@[push_cast] theorem LW:b9 Tryz.prog 196 1=(some (1,(3,.true))):=by kernel_rfl
@[push_cast] theorem LX:b9 Tryz.prog 196 2=(some (4,(1,.false))):=by kernel_rfl
@[push_cast] theorem LY:b9 Tryz.prog 196 3=(some (5,(1,.false))):=by kernel_rfl
@[push_cast] theorem OF:cW Tryz.prog 198=(some (8,.true)):=by kernel_rfl
@[push_cast] theorem O8:si Tryz.prog 198=(some (((.int .i64 0)::((.int .i64 0)::((.int .i64 0)::((.int .i64 0)::((.int .i64 0)::((.int .i64 0)::((.int .i64 0)::((.int .i64 0)::[])))))))),none)):=by kernel_rfl
@[push_cast] theorem NW:jT Tryz.prog 198=(some (((.int .i64 0)::((.int .i64 0)::((.int .i64 0)::((.int .i64 0)::((.int .i64 0)::((.int .i64 0)::((.int .i64 0)::((.int .i64 0)::[])))))))),((0,1)::((1,6)::((7,1)::[]))))):=by kernel_rfl
@[push_cast] theorem LZ:b9 Tryz.prog 198 0=(some (0,(1,.false))):=by kernel_rfl
@[push_cast] theorem L0:b9 Tryz.prog 198 1=(some (1,(6,.true))):=by kernel_rfl
@[push_cast] theorem L1:b9 Tryz.prog 198 2=(some (7,(1,.false))):=by kernel_rfl
@[push_cast] theorem Od:cO Tryz.prog 217=(some .slice):=by kernel_rfl
@[push_cast] theorem OV:ua Tryz.prog 217=(some (1,.false)):=by kernel_rfl
@[push_cast] theorem NC:sA Tryz.prog 217=(some (1,24)):=by kernel_rfl
@[push_cast] theorem OG:cW Tryz.prog 222=(some (4,.true)):=by kernel_rfl
@[push_cast] theorem O9:si Tryz.prog 222=(some (((.int .i32 0)::((.int .i64 0)::((.int .i64 0)::((.int .i64 0)::[])))),none)):=by kernel_rfl
@[push_cast] theorem NX:jT Tryz.prog 222=(some (((.int .i32 0)::((.int .i64 0)::((.int .i64 0)::((.int .i64 0)::[])))),((0,1)::((1,1)::((2,1)::((3,1)::[])))))):=by kernel_rfl
@[push_cast] theorem L2:b9 Tryz.prog 222 0=(some (0,(1,.false))):=by kernel_rfl
@[push_cast] theorem L3:b9 Tryz.prog 222 2=(some (2,(1,.false))):=by kernel_rfl
@[push_cast] theorem L4:b9 Tryz.prog 222 3=(some (3,(1,.false))):=by kernel_rfl
@[push_cast] theorem OH:cW Tryz.prog 237=(some (1,.false)):=by kernel_rfl
@[push_cast] theorem Oe:cO Tryz.prog 237=(some .iface):=by kernel_rfl
@[push_cast] theorem Of:cO Tryz.prog 240=(some .pointer):=by kernel_rfl
@[push_cast] theorem Ph:Il Tryz.prog 240=(some (.lit (.pointer none))):=by kernel_rfl
@[push_cast] theorem NY:jT Tryz.prog 243=(some ((.nilIface::[]),((0,1)::[]))):=by kernel_rfl
@[push_cast] theorem L5:b9 Tryz.prog 243 0=(some (0,(1,.false))):=by kernel_rfl
@[push_cast] theorem NZ:jT Tryz.prog 255=(some (((.pointer none)::[]),((0,1)::[]))):=by kernel_rfl
@[push_cast] theorem L6:b9 Tryz.prog 255 0=(some (0,(1,.false))):=by kernel_rfl
@[push_cast] theorem N0:jT Tryz.prog 260=(some (((.pointer none)::[]),((0,1)::[]))):=by kernel_rfl
@[push_cast] theorem Og:cO Tryz.prog 275=(some .pointer):=by kernel_rfl
@[push_cast] theorem Pi:Il Tryz.prog 275=(some (.lit (.pointer none))):=by kernel_rfl
@[push_cast] theorem OI:cW Tryz.prog 277=(some (1,.false)):=by kernel_rfl
@[push_cast] theorem Oh:cO Tryz.prog 277=(some .slice):=by kernel_rfl
@[push_cast] theorem OW:ua Tryz.prog 277=(some (1,.false)):=by kernel_rfl
@[push_cast] theorem ND:sA Tryz.prog 277=(some (1,16)):=by kernel_rfl
@[push_cast] theorem OQ:H6 Tryz.prog 277=(some (1,(16,(.lit .nilIface)))):=by kernel_rfl
@[push_cast] theorem N1:jT Tryz.prog 279=(some (((.slice none 0 0)::((.int .i64 0)::((.int .i64 0)::((.int .i64 0)::((.int .i64 0)::((.int .i64 0)::((.int .i64 0)::((.int .i64 0)::[])))))))),((0,1)::((1,1)::((2,6)::[]))))):=by kernel_rfl
@[push_cast] theorem L7:b9 Tryz.prog 279 0=(some (0,(1,.false))):=by kernel_rfl
@[push_cast] theorem L8:b9 Tryz.prog 279 1=(some (1,(1,.false))):=by kernel_rfl
@[push_cast] theorem L9:b9 Tryz.prog 279 2=(some (2,(6,.true))):=by kernel_rfl
@[push_cast] theorem N2:jT Tryz.prog 284=(some (((.slice none 0 0)::((.int .i64 0)::((.int .i64 0)::((.int .i64 0)::((.int .i64 0)::((.int .i64 0)::((.int .i64 0)::[]))))))),((0,1)::((1,6)::[])))):=by kernel_rfl
@[push_cast] theorem Ma:b9 Tryz.prog 284 0=(some (0,(1,.false))):=by kernel_rfl
@[push_cast] theorem Mb:b9 Tryz.prog 284 1=(some (1,(6,.true))):=by kernel_rfl
@[push_cast] theorem N3:jT Tryz.prog 288=(some (((.pointer none)::[]),((0,1)::[]))):=by kernel_rfl
@[push_cast] theorem OJ:cW Tryz.prog 293=(some (1,.false)):=by kernel_rfl
@[push_cast] theorem Oi:cO Tryz.prog 293=(some .slice):=by kernel_rfl
@[push_cast] theorem OX:ua Tryz.prog 293=(some (1,.false)):=by kernel_rfl
@[push_cast] theorem NE:sA Tryz.prog 293=(some (1,8)):=by kernel_rfl
@[push_cast] theorem Pb:si Tryz.prog 293=(some (((.slice none 0 0)::[]),none)):=by kernel_rfl
@[push_cast] theorem OK:cW Tryz.prog 307=(some (3,.true)):=by kernel_rfl
@[push_cast] theorem Pc:si Tryz.prog 307=(some (((.int .i64 0)::((.int .i64 0)::((.slice none 0 0)::[]))),none)):=by kernel_rfl
@[push_cast] theorem N4:jT Tryz.prog 307=(some (((.int .i64 0)::((.int .i64 0)::((.slice none 0 0)::[]))),((0,1)::((1,1)::((2,1)::[]))))):=by kernel_rfl
@[push_cast] theorem Mc:b9 Tryz.prog 307 0=(some (0,(1,.false))):=by kernel_rfl
@[push_cast] theorem Md:b9 Tryz.prog 307 1=(some (1,(1,.false))):=by kernel_rfl
@[push_cast] theorem Me:b9 Tryz.prog 307 2=(some (2,(1,.false))):=by kernel_rfl
@[push_cast] theorem OL:cW Tryz.prog 318=(some (1,.false)):=by kernel_rfl
@[push_cast] theorem Oj:cO Tryz.prog 318=(some .slice):=by kernel_rfl
@[push_cast] theorem NF:sA Tryz.prog 318=(some (1,1)):=by kernel_rfl
@[push_cast] theorem N7:Kf Tryz.prog 318 = .true:=by kernel_rfl
@[push_cast] theorem OM:cW Tryz.prog 343=(some (1,.false)):=by kernel_rfl
@[push_cast] theorem Ok:cO Tryz.prog 343=(some .slice):=by kernel_rfl
@[push_cast] theorem OY:ua Tryz.prog 343=(some (2,.true)):=by kernel_rfl
@[push_cast] theorem Mf:b9 Tryz.prog 345 0=(some (0,(1,.false))):=by kernel_rfl
@[push_cast] theorem Mg:b9 Tryz.prog 345 1=(some (1,(1,.false))):=by kernel_rfl
@[push_cast] theorem Mh:b9 Tryz.prog 346 0=(some (0,(1,.false))):=by kernel_rfl
@[push_cast] theorem Mi:b9 Tryz.prog 346 1=(some (1,(1,.false))):=by kernel_rfl
@[push_cast] theorem ON:cW Tryz.prog 358=(some (14,.true)):=by kernel_rfl
@[push_cast] theorem Pf:si Tryz.prog 358=(some (((.int .i64 0)::((.int .i64 0)::((.int .i64 0)::((.int .i64 0)::((.int .i64 0)::((.int .i64 0)::((.int .i64 0)::((.int .i64 0)::((.int .i64 0)::((.int .i64 0)::((.int .i64 0)::((.int .i64 0)::((.string ⟨⟨[]⟩⟩)::((.int .i64 0)::[])))))))))))))),none)):=by kernel_rfl
@[push_cast] theorem N5:jT Tryz.prog 358=(some (((.int .i64 0)::((.int .i64 0)::((.int .i64 0)::((.int .i64 0)::((.int .i64 0)::((.int .i64 0)::((.int .i64 0)::((.int .i64 0)::((.int .i64 0)::((.int .i64 0)::((.int .i64 0)::((.int .i64 0)::((.string ⟨⟨[]⟩⟩)::((.int .i64 0)::[])))))))))))))),((0,6)::((6,7)::((13,1)::[]))))):=by kernel_rfl
@[push_cast] theorem Mj:b9 Tryz.prog 358 0=(some (0,(6,.true))):=by kernel_rfl
@[push_cast] theorem Mk:b9 Tryz.prog 358 1=(some (6,(7,.true))):=by kernel_rfl
@[push_cast] theorem Ml:b9 Tryz.prog 358 2=(some (13,(1,.false))):=by kernel_rfl
@[push_cast] theorem NH:Fb Tryz.prog 380=(some (4,(1,.false))):=by kernel_rfl
@[push_cast] theorem Ol:cO Tryz.prog 391=(some .pointer):=by kernel_rfl
@[push_cast] theorem OO:cW Tryz.prog 394=(some (1,.false)):=by kernel_rfl
@[push_cast] theorem Om:cO Tryz.prog 394=(some .pointer):=by kernel_rfl
@[push_cast] theorem Pg:si Tryz.prog 396=(some (((.pointer none)::((.slice none 0 0)::[])),(some 396))):=by kernel_rfl
@[push_cast] theorem Mm:b9 Tryz.prog 396 0=(some (0,(1,.false))):=by kernel_rfl
@[push_cast] theorem Mn:b9 Tryz.prog 396 1=(some (1,(1,.false))):=by kernel_rfl
@[push_cast] theorem N6:jT Tryz.prog 417=(some (((.pointer none)::((.int .i64 0)::((.int .i64 0)::((.int .i64 0)::((.int .i64 0)::((.int .i64 0)::((.int .i64 0)::((.int .i64 0)::((.int .i64 0)::[]))))))))),((0,1)::((1,8)::[])))):=by kernel_rfl
@[push_cast] theorem Mo:b9 Tryz.prog 417 0=(some (0,(1,.false))):=by kernel_rfl
@[push_cast] theorem Mp:b9 Tryz.prog 417 1=(some (1,(8,.true))):=by kernel_rfl
@[push_cast] theorem On:cO Tryz.prog 426=(some .other):=by kernel_rfl
def G0:Gl:=fun g=>if g=0 then some (.pd 6 [.agg [.lit (.int .i32 768),.lit (.int .i32 879),.lit (.int .i32 8203),.lit (.int .i32 8207),.lit (.int .i32 65024),.lit (.int .i32 65039)]] 0 0) else if g=1 then some (.pd 16 [.agg [.lit (.int .i32 4352),.lit (.int .i32 4447),.lit (.int .i32 11904),.lit (.int .i32 12350),.lit (.int .i32 12353),.lit (.int .i32 19903),.lit (.int .i32 19968),.lit (.int .i32 40959),.lit (.int .i32 44032),.lit (.int .i32 55203),.lit (.int .i32 63744),.lit (.int .i32 64255),.lit (.int .i32 65280),.lit (.int .i32 65376),.lit (.int .i32 127744),.lit (.int .i32 128591)]] 0 0) else if g=2 then some (.pd 4 [.agg [.lit (.int .i32 127),.lit (.int .i32 2047),.lit (.int .i32 65535),.lit (.int .i32 1114111)]] 0 0) else none
@[push_cast] theorem PD:G0 2=some (.pd 4 [.agg [.lit (.int .i32 127),.lit (.int .i32 2047),.lit (.int .i32 65535),.lit (.int .i32 1114111)]] 0 0):=rfl
theorem ab:Tryz.prog.follows .mixedOrders=true:=by kernel_rfl
end Go.Proofs.YtkkanlcjjpoklaaGreatDoor
