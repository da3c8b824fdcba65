/- What the theorem leans on, part 4. -/
import Derived.Test.YtkhonlnajdfhfaaDoorProg
import Derived.WalkKit
import Derived.Test.YtkhonlnajdfhfaaDoorStTPAB
namespace Go.Proofs.YtkhonlnajdfhfaaDoor
@[push_cast] theorem Gr:dT Tryd.prog 3=(some (1,.false)):=by kernel_rfl
@[push_cast] theorem Gm:cG Tryd.prog 3=(some (.int .i64)):=by kernel_rfl
@[push_cast] theorem Gj:zS Tryd.prog 3 = .false:=by kernel_rfl
@[push_cast] theorem Gn:cG Tryd.prog 4=(some .bool):=by kernel_rfl
@[push_cast] theorem Gp:cG Tryd.prog 5=(some (.int .u8)):=by kernel_rfl
@[push_cast] theorem Gk:zS Tryd.prog 5 = .false:=by kernel_rfl
@[push_cast] theorem Gs:dT Tryd.prog 9=(some (1,.false)):=by kernel_rfl
@[push_cast] theorem Gq:cG Tryd.prog 9=(some .string):=by kernel_rfl
@[push_cast] theorem Fq:dT Tryd.prog 21=(some (1,.false)):=by kernel_rfl
@[push_cast] theorem Fd:cG Tryd.prog 21=(some (.int .i32)):=by kernel_rfl
@[push_cast] theorem E9:zS Tryd.prog 21 = .false:=by kernel_rfl
@[push_cast] theorem Fs:dT Tryd.prog 22=(some (1,.false)):=by kernel_rfl
@[push_cast] theorem Fe:cG Tryd.prog 22=(some .slice):=by kernel_rfl
@[push_cast] theorem FH:rH Tryd.prog 22=(some (2,.true)):=by kernel_rfl
@[push_cast] theorem ER:qt Tryd.prog 22=(some (2,16)):=by kernel_rfl
@[push_cast] theorem FV:rR Tryd.prog 22=(some (((.slice none 0 0)::[]),none)):=by kernel_rfl
@[push_cast] theorem Ff:cG Tryd.prog 24=(some .slice):=by kernel_rfl
@[push_cast] theorem FI:rH Tryd.prog 24=(some (1,.false)):=by kernel_rfl
@[push_cast] theorem ES:qt Tryd.prog 24=(some (1,4)):=by kernel_rfl
@[push_cast] theorem Ft:dT Tryd.prog 26=(some (1,.false)):=by kernel_rfl
@[push_cast] theorem Fg:cG Tryd.prog 26=(some .slice):=by kernel_rfl
@[push_cast] theorem FJ:rH Tryd.prog 26=(some (2,.true)):=by kernel_rfl
@[push_cast] theorem ET:qt Tryd.prog 26=(some (2,16)):=by kernel_rfl
@[push_cast] theorem Fu:dT Tryd.prog 28=(some (3,.true)):=by kernel_rfl
@[push_cast] theorem FW:rR Tryd.prog 28=(some (((.int .i64 0)::((.slice none 0 0)::((.int .i64 0)::[]))),none)):=by kernel_rfl
@[push_cast] theorem EZ:nA Tryd.prog 28=(some (((.int .i64 0)::((.slice none 0 0)::((.int .i64 0)::[]))),((0,1)::((1,1)::((2,1)::[]))))):=by kernel_rfl
@[push_cast] theorem C6:dL Tryd.prog 28 0=(some (0,(1,.false))):=by kernel_rfl
@[push_cast] theorem C7:dL Tryd.prog 28 1=(some (1,(1,.false))):=by kernel_rfl
@[push_cast] theorem C8:dL Tryd.prog 28 2=(some (2,(1,.false))):=by kernel_rfl
@[push_cast] theorem Fh:cG Tryd.prog 31=(some .pointer):=by kernel_rfl
@[push_cast] theorem Fi:cG Tryd.prog 36=(some .slice):=by kernel_rfl
@[push_cast] theorem FK:rH Tryd.prog 36=(some (3,.true)):=by kernel_rfl
@[push_cast] theorem EU:qt Tryd.prog 36=(some (3,32)):=by kernel_rfl
@[push_cast] theorem Fj:cG Tryd.prog 38=(some .pointer):=by kernel_rfl
@[push_cast] theorem Fk:cG Tryd.prog 41=(some .slice):=by kernel_rfl
@[push_cast] theorem FL:rH Tryd.prog 41=(some (1,.false)):=by kernel_rfl
@[push_cast] theorem EV:qt Tryd.prog 41=(some (1,16)):=by kernel_rfl
@[push_cast] theorem Fv:dT Tryd.prog 49=(some (2,.true)):=by kernel_rfl
@[push_cast] theorem FX:rR Tryd.prog 49=(some (((.int .i64 0)::((.int .i64 0)::[])),none)):=by kernel_rfl
@[push_cast] theorem E0:nA Tryd.prog 49=(some (((.int .i64 0)::((.int .i64 0)::[])),((0,1)::((1,1)::[])))):=by kernel_rfl
@[push_cast] theorem Fa:kI Tryd.prog 49 ((.int .i64)::((.int .i64)::[])):=kI.of (by kernel_rfl)
@[push_cast] theorem C9:dL Tryd.prog 49 0=(some (0,(1,.false))):=by kernel_rfl
@[push_cast] theorem Da:dL Tryd.prog 49 1=(some (1,(1,.false))):=by kernel_rfl
@[push_cast] theorem Fw:dT Tryd.prog 51=(some (2,.true)):=by kernel_rfl
@[push_cast] theorem FY:rR Tryd.prog 51=(some (((.int .i64 0)::((.int .i64 0)::[])),none)):=by kernel_rfl
@[push_cast] theorem E1:nA Tryd.prog 51=(some (((.int .i64 0)::((.int .i64 0)::[])),((0,1)::((1,1)::[])))):=by kernel_rfl
@[push_cast] theorem Db:dL Tryd.prog 51 0=(some (0,(1,.false))):=by kernel_rfl
@[push_cast] theorem Dc:dL Tryd.prog 51 1=(some (1,(1,.false))):=by kernel_rfl
@[push_cast] theorem Fx:dT Tryd.prog 54=(some (3,.true)):=by kernel_rfl
@[push_cast] theorem FZ:rR Tryd.prog 54=(some (((.int .i64 0)::((.int .i64 0)::((.string ⟨⟨[]⟩⟩)::[]))),none)):=by kernel_rfl
@[push_cast] theorem E2:nA Tryd.prog 54=(some (((.int .i64 0)::((.int .i64 0)::((.string ⟨⟨[]⟩⟩)::[]))),((0,1)::((1,1)::((2,1)::[]))))):=by kernel_rfl
@[push_cast] theorem Fb:kI Tryd.prog 54 ((.int .i64)::((.int .i64)::(.str::[]))):=kI.of (by kernel_rfl)
@[push_cast] theorem Dd:dL Tryd.prog 54 0=(some (0,(1,.false))):=by kernel_rfl
@[push_cast] theorem De:dL Tryd.prog 54 1=(some (1,(1,.false))):=by kernel_rfl
@[push_cast] theorem Df:dL Tryd.prog 54 2=(some (2,(1,.false))):=by kernel_rfl
@[push_cast] theorem Fy:dT Tryd.prog 57=(some (2,.true)):=by kernel_rfl
@[push_cast] theorem F1:rR Tryd.prog 57=(some (((.int .i64 0)::((.int .i64 0)::[])),none)):=by kernel_rfl
@[push_cast] theorem E3:nA Tryd.prog 57=(some (((.int .i64 0)::((.int .i64 0)::[])),((0,1)::((1,1)::[])))):=by kernel_rfl
@[push_cast] theorem Fc:kI Tryd.prog 57 ((.int .i64)::((.int .i64)::[])):=kI.of (by kernel_rfl)
@[push_cast] theorem Dg:dL Tryd.prog 57 0=(some (0,(1,.false))):=by kernel_rfl
@[push_cast] theorem Dh:dL Tryd.prog 57 1=(some (1,(1,.false))):=by kernel_rfl
@[push_cast] theorem Fz:dT Tryd.prog 61=(some (2,.true)):=by kernel_rfl
@[push_cast] theorem F2:rR Tryd.prog 61=(some (((.int .i32 0)::((.int .i64 0)::[])),none)):=by kernel_rfl
@[push_cast] theorem E4:nA Tryd.prog 61=(some (((.int .i32 0)::((.int .i64 0)::[])),((0,1)::((1,1)::[])))):=by kernel_rfl
@[push_cast] theorem Di:dL Tryd.prog 61 0=(some (0,(1,.false))):=by kernel_rfl
@[push_cast] theorem Dj:dL Tryd.prog 61 1=(some (1,(1,.false))):=by kernel_rfl
@[push_cast] theorem E5:nA Tryd.prog 67=(some (((.int .i64 0)::((.slice none 0 0)::[])),((0,1)::((1,1)::[])))):=by kernel_rfl
@[push_cast] theorem Dk:dL Tryd.prog 67 0=(some (0,(1,.false))):=by kernel_rfl
@[push_cast] theorem Dl:dL Tryd.prog 67 1=(some (1,(1,.false))):=by kernel_rfl
@[push_cast] theorem FA:dT Tryd.prog 68=(some (1,.false)):=by kernel_rfl
@[push_cast] theorem Fl:cG Tryd.prog 68=(some .pointer):=by kernel_rfl
@[push_cast] theorem FB:dT Tryd.prog 71=(some (1,.false)):=by kernel_rfl
@[push_cast] theorem Fm:cG Tryd.prog 71=(some .slice):=by kernel_rfl
@[push_cast] theorem FM:rH Tryd.prog 71=(some (7,.true)):=by kernel_rfl
@[push_cast] theorem EW:qt Tryd.prog 71=(some (7,64)):=by kernel_rfl
@[push_cast] theorem FF:BA Tryd.prog 71=(some (7,(64,(.agg ((.lit (.int .i64 0))::((.lit (.int .i64 0))::((.lit (.int .i64 0))::((.lit (.int .i64 0))::((.lit (.int .i64 0))::((.lit (.int .i64 0))::((.lit (.string ⟨⟨[]⟩⟩))::[]))))))))))):=by kernel_rfl
@[push_cast] theorem E6:nA Tryd.prog 74=(some (((.pointer none)::[]),((0,1)::[]))):=by kernel_rfl
@[push_cast] theorem Dm:dL Tryd.prog 74 0=(some (0,(1,.false))):=by kernel_rfl
@[push_cast] theorem EX:zM Tryd.prog 80=(some (2,(1,.false))):=by kernel_rfl
@[push_cast] theorem E7:nA Tryd.prog 80=(some (((.int .i64 0)::((.int .i64 0)::[])),((0,1)::((1,1)::[])))):=by kernel_rfl
@[push_cast] theorem FC:dT Tryd.prog 91=(some (1,.false)):=by kernel_rfl
@[push_cast] theorem Fo:cG Tryd.prog 91=(some .iface):=by kernel_rfl
@[push_cast] theorem FD:dT Tryd.prog 92=(some (3,.true)):=by kernel_rfl
@[push_cast] theorem EY:zM Tryd.prog 92=(some (3,(1,.false))):=by kernel_rfl
@[push_cast] theorem FE:dT Tryd.prog 94=(some (7,.true)):=by kernel_rfl
@[push_cast] theorem F3:rR Tryd.prog 94=(some (((.int .i64 0)::((.int .i64 0)::((.int .i64 0)::((.int .i64 0)::((.int .i64 0)::((.int .i64 0)::((.string ⟨⟨[]⟩⟩)::[]))))))),none)):=by kernel_rfl
@[push_cast] theorem E8:nA Tryd.prog 94=(some (((.int .i64 0)::((.int .i64 0)::((.int .i64 0)::((.int .i64 0)::((.int .i64 0)::((.int .i64 0)::((.string ⟨⟨[]⟩⟩)::[]))))))),((0,1)::((1,1)::((2,3)::((5,1)::((6,1)::[]))))))):=by kernel_rfl
@[push_cast] theorem Dn:dL Tryd.prog 94 2=(some (2,(3,.true))):=by kernel_rfl
@[push_cast] theorem Do:dL Tryd.prog 94 3=(some (5,(1,.false))):=by kernel_rfl
@[push_cast] theorem Dp:dL Tryd.prog 94 4=(some (6,(1,.false))):=by kernel_rfl
@[push_cast] theorem Fp:cG Tryd.prog 97=(some .pointer):=by kernel_rfl
@[push_cast] theorem F4:Ak Tryd.prog 97=(some (.lit (.pointer none))):=by kernel_rfl
@[push_cast] theorem DU:nA Tryd.prog 100=(some ((.nilIface::[]),((0,1)::[]))):=by kernel_rfl
@[push_cast] theorem Cu:dL Tryd.prog 100 0=(some (0,(1,.false))):=by kernel_rfl
@[push_cast] theorem Eb:dT Tryd.prog 106=(some (6,.true)):=by kernel_rfl
@[push_cast] theorem El:rR Tryd.prog 106=(some (((.int .i64 0)::((.int .i64 0)::((.int .i64 0)::((.int .i64 0)::((.int .i64 0)::((.int .i64 0)::[])))))),none)):=by kernel_rfl
@[push_cast] theorem DV:nA Tryd.prog 106=(some (((.int .i64 0)::((.int .i64 0)::((.int .i64 0)::((.int .i64 0)::((.int .i64 0)::((.int .i64 0)::[])))))),((0,1)::((1,3)::((4,1)::((5,1)::[])))))):=by kernel_rfl
@[push_cast] theorem Cv:dL Tryd.prog 106 0=(some (0,(1,.false))):=by kernel_rfl
@[push_cast] theorem Cw:dL Tryd.prog 106 1=(some (1,(3,.true))):=by kernel_rfl
@[push_cast] theorem Cx:dL Tryd.prog 106 2=(some (4,(1,.false))):=by kernel_rfl
@[push_cast] theorem Cy:dL Tryd.prog 106 3=(some (5,(1,.false))):=by kernel_rfl
@[push_cast] theorem Ec:dT Tryd.prog 108=(some (14,.true)):=by kernel_rfl
@[push_cast] theorem Em:rR Tryd.prog 108=(some (((.int .i64 0)::((.int .i64 0)::((.int .i64 0)::((.int .i64 0)::((.int .i64 0)::((.int .i64 0)::((.int .i64 0)::((.int .i64 0)::((.int .i64 0)::((.int .i64 0)::((.int .i64 0)::((.int .i64 0)::((.string ⟨⟨[]⟩⟩)::((.int .i64 0)::[])))))))))))))),none)):=by kernel_rfl
@[push_cast] theorem DW:nA Tryd.prog 108=(some (((.int .i64 0)::((.int .i64 0)::((.int .i64 0)::((.int .i64 0)::((.int .i64 0)::((.int .i64 0)::((.int .i64 0)::((.int .i64 0)::((.int .i64 0)::((.int .i64 0)::((.int .i64 0)::((.int .i64 0)::((.string ⟨⟨[]⟩⟩)::((.int .i64 0)::[])))))))))))))),((0,6)::((6,7)::((13,1)::[]))))):=by kernel_rfl
@[push_cast] theorem Cz:dL Tryd.prog 108 0=(some (0,(6,.true))):=by kernel_rfl
@[push_cast] theorem CA:dL Tryd.prog 108 1=(some (6,(7,.true))):=by kernel_rfl
@[push_cast] theorem CB:dL Tryd.prog 108 2=(some (13,(1,.false))):=by kernel_rfl
@[push_cast] theorem D3:cG Tryd.prog 109=(some .pointer):=by kernel_rfl
@[push_cast] theorem Ed:dT Tryd.prog 112=(some (1,.false)):=by kernel_rfl
@[push_cast] theorem D4:cG Tryd.prog 112=(some .pointer):=by kernel_rfl
@[push_cast] theorem Ee:dT Tryd.prog 113=(some (1,.false)):=by kernel_rfl
@[push_cast] theorem D5:cG Tryd.prog 113=(some .slice):=by kernel_rfl
@[push_cast] theorem DQ:qt Tryd.prog 113=(some (1,1)):=by kernel_rfl
@[push_cast] theorem D1:zS Tryd.prog 113 = .true:=by kernel_rfl
@[push_cast] theorem En:rR Tryd.prog 115=(some (((.pointer none)::((.slice none 0 0)::[])),(some 115))):=by kernel_rfl
@[push_cast] theorem CC:dL Tryd.prog 115 0=(some (0,(1,.false))):=by kernel_rfl
@[push_cast] theorem CD:dL Tryd.prog 115 1=(some (1,(1,.false))):=by kernel_rfl
@[push_cast] theorem D6:cG Tryd.prog 127=(some .slice):=by kernel_rfl
@[push_cast] theorem Ei:rH Tryd.prog 127=(some (1,.false)):=by kernel_rfl
@[push_cast] theorem DR:qt Tryd.prog 127=(some (1,8)):=by kernel_rfl
@[push_cast] theorem Ef:dT Tryd.prog 129=(some (1,.false)):=by kernel_rfl
@[push_cast] theorem D7:cG Tryd.prog 129=(some .slice):=by kernel_rfl
@[push_cast] theorem Ej:rH Tryd.prog 129=(some (1,.false)):=by kernel_rfl
@[push_cast] theorem DS:qt Tryd.prog 129=(some (1,16)):=by kernel_rfl
@[push_cast] theorem Eh:BA Tryd.prog 129=(some (1,(16,(.lit .nilIface)))):=by kernel_rfl
@[push_cast] theorem D8:cG Tryd.prog 131=(some .pointer):=by kernel_rfl
@[push_cast] theorem Ep:Ak Tryd.prog 131=(some (.lit (.pointer none))):=by kernel_rfl
@[push_cast] theorem DX:nA Tryd.prog 135=(some (((.slice none 0 0)::((.int .i64 0)::((.int .i64 0)::((.int .i64 0)::((.int .i64 0)::((.int .i64 0)::((.int .i64 0)::[]))))))),((0,1)::((1,6)::[])))):=by kernel_rfl
@[push_cast] theorem CE:dL Tryd.prog 135 0=(some (0,(1,.false))):=by kernel_rfl
@[push_cast] theorem CF:dL Tryd.prog 135 1=(some (1,(6,.true))):=by kernel_rfl
@[push_cast] theorem Eg:dT Tryd.prog 142=(some (8,.true)):=by kernel_rfl
@[push_cast] theorem Eo:rR Tryd.prog 142=(some (((.int .i64 0)::((.int .i64 0)::((.int .i64 0)::((.int .i64 0)::((.int .i64 0)::((.int .i64 0)::((.int .i64 0)::((.int .i64 0)::[])))))))),none)):=by kernel_rfl
@[push_cast] theorem DY:nA Tryd.prog 142=(some (((.int .i64 0)::((.int .i64 0)::((.int .i64 0)::((.int .i64 0)::((.int .i64 0)::((.int .i64 0)::((.int .i64 0)::((.int .i64 0)::[])))))))),((0,1)::((1,6)::((7,1)::[]))))):=by kernel_rfl
@[push_cast] theorem CG:dL Tryd.prog 142 0=(some (0,(1,.false))):=by kernel_rfl
@[push_cast] theorem CH:dL Tryd.prog 142 1=(some (1,(6,.true))):=by kernel_rfl
@[push_cast] theorem CI:dL Tryd.prog 142 2=(some (7,(1,.false))):=by kernel_rfl
@[push_cast] theorem DZ:nA Tryd.prog 144=(some (((.pointer none)::((.int .i64 0)::((.int .i64 0)::((.int .i64 0)::((.int .i64 0)::((.int .i64 0)::((.int .i64 0)::((.int .i64 0)::((.int .i64 0)::[]))))))))),((0,1)::((1,8)::[])))):=by kernel_rfl
@[push_cast] theorem CJ:dL Tryd.prog 144 0=(some (0,(1,.false))):=by kernel_rfl
@[push_cast] theorem CL:dL Tryd.prog 144 1=(some (1,(8,.true))):=by kernel_rfl
@[push_cast] theorem D0:nA Tryd.prog 152=(some (((.slice none 0 0)::((.int .i64 0)::((.int .i64 0)::((.int .i64 0)::((.int .i64 0)::((.int .i64 0)::((.int .i64 0)::((.int .i64 0)::[])))))))),((0,1)::((1,1)::((2,6)::[]))))):=by kernel_rfl
@[push_cast] theorem CM:dL Tryd.prog 152 0=(some (0,(1,.false))):=by kernel_rfl
@[push_cast] theorem CN:dL Tryd.prog 152 1=(some (1,(1,.false))):=by kernel_rfl
@[push_cast] theorem CO:dL Tryd.prog 152 2=(some (2,(6,.true))):=by kernel_rfl
@[push_cast] theorem D9:cG Tryd.prog 165=(some .other):=by kernel_rfl
@[push_cast] theorem Ea:cG Tryd.prog 167=(some (.int .u64)):=by kernel_rfl
@[push_cast] theorem D2:zS Tryd.prog 167 = .false:=by kernel_rfl
@[push_cast] theorem DT:zM Tryd.prog 168=(some (4,(1,.false))):=by kernel_rfl
def G0:Gl:=fun g=>if g=0 then some (.pd 4 [.agg [.lit (.int .i32 127),.lit (.int .i32 2047),.lit (.int .i32 65535),.lit (.int .i32 1114111)]] 0 0) else none
@[push_cast] theorem EC:G0 0=some (.pd 4 [.agg [.lit (.int .i32 127),.lit (.int .i32 2047),.lit (.int .i32 65535),.lit (.int .i32 1114111)]] 0 0):=rfl
theorem ab:Tryd.prog.follows .mixedOrders=true:=by kernel_rfl
end Go.Proofs.YtkhonlnajdfhfaaDoor
