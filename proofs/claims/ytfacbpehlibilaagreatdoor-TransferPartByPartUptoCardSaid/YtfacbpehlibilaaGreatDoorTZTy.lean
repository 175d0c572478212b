import Derived.Test.YtfacbpehlibilaaGreatDoorProg
import Derived.Test.YtfacbpehlibilaaGreatDoorTZAm2
set_option linter.unusedVariables false
set_option linter.unusedSimpArgs false
namespace Go.Proofs.YtfacbpehlibilaaGreatDoor
open Go Go.Am
theorem ty0:w8 Tryz.prog 0=⟨1,0,[.any],[.any],some (.any),.other⟩:=by kernel_rfl
theorem ty2:w8 Tryz.prog 2=⟨1,8,[.int .i64 0],[.int .i64 0],some (.int .i64 0),.int .i64⟩:=by kernel_rfl
theorem ty3:w8 Tryz.prog 3=⟨1,8,[.int .i64 0],[.int .i64 0],some (.int .i64 0),.int .i64⟩:=by kernel_rfl
theorem ty4:w8 Tryz.prog 4=⟨1,1,[.bool false],[.bool false],some (.bool false),.bool⟩:=by kernel_rfl
theorem ty5:w8 Tryz.prog 5=⟨1,1,[.int .u8 0],[.int .u8 0],some (.int .u8 0),.int .u8⟩:=by kernel_rfl
theorem ty7:w8 Tryz.prog 7=⟨4,24,[.int .i64 0,.int .i64 0,.bool false,.int .u8 0],[.int .i64 0,.int .i64 0,.bool false,.int .u8 0],some (.agg [.int .i64 0,.int .i64 0,.bool false,.int .u8 0]),.struct [(0,1,false),(1,1,false),(2,1,false),(3,1,false)]⟩:=by kernel_rfl
theorem ty9:w8 Tryz.prog 9=⟨1,16,[.str []],[.str []],some (.str []),.str⟩:=by kernel_rfl
theorem Vm:w8 Tryz.prog 12=⟨1,8,[.int .u64 0],[.int .u64 0],some (.int .u64 0),.int .u64⟩:=by kernel_rfl
theorem Vn:w8 Tryz.prog 13=⟨2,24,[.str [],.int .u64 0],[.str [],.int .u64 0],some (.agg [.str [],.int .u64 0]),.struct [(0,1,false),(1,1,false)]⟩:=by kernel_rfl
theorem Vo:w8 Tryz.prog 18=⟨1,8,[.qR],[.qR],some (.agg [.qR]),.struct [(0,1,false)]⟩:=by kernel_rfl
theorem Vp:w8 Tryz.prog 21=⟨1,4,[.int .i32 0],[.int .i32 0],some (.int .i32 0),.int .i32⟩:=by kernel_rfl
theorem Vq:w8 Tryz.prog 22=⟨1,24,[.A9],[.sl false 11 216 []],some (.A9),.slice 49⟩:=by kernel_rfl
theorem Vr:w8 Tryz.prog 24=⟨2,16,[.int .i64 0,.int .i64 0],[.int .i64 0,.int .i64 0],some (.agg [.int .i64 0,.int .i64 0]),.struct [(0,1,false),(1,1,false)]⟩:=by kernel_rfl
theorem Vs:w8 Tryz.prog 25=⟨2,16,[.int .i64 0,.int .i64 0],[.int .i64 0,.int .i64 0],some (.agg [.int .i64 0,.int .i64 0]),.struct [(0,1,false),(1,1,false)]⟩:=by kernel_rfl
theorem RY:w8 Tryz.prog 28=⟨1,24,[.A9],[.sl false 1 16 []],some (.A9),.slice 9⟩:=by kernel_rfl
theorem Vt:w8 Tryz.prog 29=⟨1,24,[.A9],[.sl false 4 72 []],some (.A9),.slice 31⟩:=by kernel_rfl
theorem Vu:w8 Tryz.prog 30=⟨4,72,[.int .i64 0,.str [],.A9,.A9],[.int .i64 0,.str [],.sl false 1 16 [],.sl false 4 72 []],some (.agg [.int .i64 0,.str [],.A9,.A9]),.struct [(0,1,false),(1,1,false),(2,1,false),(3,1,false)]⟩:=by kernel_rfl
theorem Vv:w8 Tryz.prog 31=⟨4,72,[.int .i64 0,.str [],.A9,.A9],[.int .i64 0,.str [],.sl false 1 16 [],.sl false 4 72 []],some (.agg [.int .i64 0,.str [],.A9,.A9]),.struct [(0,1,false),(1,1,false),(2,1,false),(3,1,false)]⟩:=by kernel_rfl
theorem Vw:w8 Tryz.prog 32=⟨1,0,[.any],[.any],some (.any),.other⟩:=by kernel_rfl
theorem Vx:w8 Tryz.prog 34=⟨1,24,[.A9],[.sl false 2 16 []],some (.A9),.slice 43⟩:=by kernel_rfl
theorem Vy:w8 Tryz.prog 35=⟨1,0,[.any],[.any],some (.any),.other⟩:=by kernel_rfl
theorem Vz:w8 Tryz.prog 38=⟨1,8,[.hJ],[.hJ],some (.hJ),.other⟩:=by kernel_rfl
theorem VA:w8 Tryz.prog 39=⟨1,0,[.any],[.any],some (.any),.other⟩:=by kernel_rfl
theorem VB:w8 Tryz.prog 42=⟨2,16,[.int .i64 0,.int .i64 0],[.int .i64 0,.int .i64 0],some (.agg [.int .i64 0,.int .i64 0]),.struct [(0,1,false),(1,1,false)]⟩:=by kernel_rfl
theorem VD:w8 Tryz.prog 43=⟨2,16,[.int .i64 0,.int .i64 0],[.int .i64 0,.int .i64 0],some (.agg [.int .i64 0,.int .i64 0]),.struct [(0,1,false),(1,1,false)]⟩:=by kernel_rfl
theorem VE:w8 Tryz.prog 46=⟨7,144,[.int .i64 0,.str [],.A9,.A9,.A9,.A9,.A9],[.int .i64 0,.str [],.sl false 1 16 [],.sl false 4 72 [],.sl false 1 16 [],.sl false 1 16 [],.sl false 1 16 []],some (.agg [.int .i64 0,.str [],.A9,.A9,.A9,.A9,.A9]),.struct [(0,4,true),(4,1,false),(5,1,false),(6,1,false)]⟩:=by kernel_rfl
theorem VF:w8 Tryz.prog 47=⟨7,144,[.int .i64 0,.str [],.A9,.A9,.A9,.A9,.A9],[.int .i64 0,.str [],.sl false 1 16 [],.sl false 4 72 [],.sl false 1 16 [],.sl false 1 16 [],.sl false 1 16 []],some (.agg [.int .i64 0,.str [],.A9,.A9,.A9,.A9,.A9]),.struct [(0,4,true),(4,1,false),(5,1,false),(6,1,false)]⟩:=by kernel_rfl
theorem VG:w8 Tryz.prog 48=⟨11,216,[.int .i64 0,.str [],.A9,.A9,.A9,.A9,.A9,.int .i64 0,.str [],.A9,.A9],[.int .i64 0,.str [],.sl false 1 16 [],.sl false 4 72 [],.sl false 1 16 [],.sl false 1 16 [],.sl false 1 16 [],.int .i64 0,.str [],.sl false 1 16 [],.sl false 4 72 []],some (.agg [.int .i64 0,.str [],.A9,.A9,.A9,.A9,.A9,.int .i64 0,.str [],.A9,.A9]),.struct [(0,7,true),(7,4,true)]⟩:=by kernel_rfl
theorem VH:w8 Tryz.prog 49=⟨11,216,[.int .i64 0,.str [],.A9,.A9,.A9,.A9,.A9,.int .i64 0,.str [],.A9,.A9],[.int .i64 0,.str [],.sl false 1 16 [],.sl false 4 72 [],.sl false 1 16 [],.sl false 1 16 [],.sl false 1 16 [],.int .i64 0,.str [],.sl false 1 16 [],.sl false 4 72 []],some (.agg [.int .i64 0,.str [],.A9,.A9,.A9,.A9,.A9,.int .i64 0,.str [],.A9,.A9]),.struct [(0,7,true),(7,4,true)]⟩:=by kernel_rfl
theorem VI:w8 Tryz.prog 52=⟨1,0,[.any],[.any],some (.any),.other⟩:=by kernel_rfl
theorem VJ:w8 Tryz.prog 54=⟨1,8,[.hJ],[.hJ],some (.hJ),.other⟩:=by kernel_rfl
theorem VK:w8 Tryz.prog 55=⟨1,24,[.A9],[.sl false 1 1 []],some (.A9),.slice 5⟩:=by kernel_rfl
theorem VL:w8 Tryz.prog 68=⟨1,24,[.A9],[.sl false 1 1 []],some (.A9),.slice 4⟩:=by kernel_rfl
theorem VN:w8 Tryz.prog 69=⟨5,80,[.int .i64 0,.str [],.A9,.A9,.int .i64 0],[.int .i64 0,.str [],.sl false 1 16 [],.sl false 1 1 [],.int .i64 0],some (.agg [.int .i64 0,.str [],.A9,.A9,.int .i64 0]),.struct [(0,1,false),(1,1,false),(2,1,false),(3,1,false),(4,1,false)]⟩:=by kernel_rfl
theorem VO:w8 Tryz.prog 70=⟨5,80,[.int .i64 0,.str [],.A9,.A9,.int .i64 0],[.int .i64 0,.str [],.sl false 1 16 [],.sl false 1 1 [],.int .i64 0],some (.agg [.int .i64 0,.str [],.A9,.A9,.int .i64 0]),.struct [(0,1,false),(1,1,false),(2,1,false),(3,1,false),(4,1,false)]⟩:=by kernel_rfl
theorem VP:w8 Tryz.prog 71=⟨1,24,[.A9],[.sl false 5 80 []],some (.A9),.slice 70⟩:=by kernel_rfl
theorem VQ:w8 Tryz.prog 76=⟨1,0,[.any],[.any],some (.any),.other⟩:=by kernel_rfl
theorem VT:w8 Tryz.prog 78=⟨1,0,[.any],[.any],some (.any),.other⟩:=by kernel_rfl
theorem VU:w8 Tryz.prog 86=⟨1,0,[.any],[.any],some (.any),.other⟩:=by kernel_rfl
theorem VW:w8 Tryz.prog 88=⟨1,8,[.iL],[.iL],some (.iL),.map 9 28⟩:=by kernel_rfl
theorem VX:w8 Tryz.prog 90=⟨1,8,[.hJ],[.hJ],some (.hJ),.other⟩:=by kernel_rfl
theorem VY:w8 Tryz.prog 93=⟨1,24,[.A9],[.sl false 1 24 []],some (.A9),.slice 28⟩:=by kernel_rfl
theorem VZ:w8 Tryz.prog 95=⟨1,8,[.qR],[.qR],some (.qR),.ptr 98⟩:=by kernel_rfl
theorem Wa:w8 Tryz.prog 96=⟨1,8,[.iL],[.iL],some (.iL),.map 9 3⟩:=by kernel_rfl
theorem Wb:w8 Tryz.prog 97=⟨4,64,[.A9,.iL,.A9,.int .i64 0],[.sl false 11 216 [],.iL,.sl false 2 16 [],.int .i64 0],some (.agg [.A9,.iL,.A9,.int .i64 0]),.struct [(0,1,false),(1,1,false),(2,1,false),(3,1,false)]⟩:=by kernel_rfl
theorem Wc:w8 Tryz.prog 98=⟨4,64,[.A9,.iL,.A9,.int .i64 0],[.sl false 11 216 [],.iL,.sl false 2 16 [],.int .i64 0],some (.agg [.A9,.iL,.A9,.int .i64 0]),.struct [(0,1,false),(1,1,false),(2,1,false),(3,1,false)]⟩:=by kernel_rfl
theorem TB:w8 Tryz.prog 100=⟨1,8,[.hJ],[.hJ],some (.hJ),.other⟩:=by kernel_rfl
theorem TD:w8 Tryz.prog 101=⟨6,88,[.int .i64 0,.str [],.A9,.A9,.int .i64 0,.int .i64 0],[.int .i64 0,.str [],.sl false 1 16 [],.sl false 4 72 [],.int .i64 0,.int .i64 0],some (.agg [.int .i64 0,.str [],.A9,.A9,.int .i64 0,.int .i64 0]),.struct [(0,4,true),(4,1,false),(5,1,false)]⟩:=by kernel_rfl
theorem TF:w8 Tryz.prog 102=⟨6,88,[.int .i64 0,.str [],.A9,.A9,.int .i64 0,.int .i64 0],[.int .i64 0,.str [],.sl false 1 16 [],.sl false 4 72 [],.int .i64 0,.int .i64 0],some (.agg [.int .i64 0,.str [],.A9,.A9,.int .i64 0,.int .i64 0]),.struct [(0,4,true),(4,1,false),(5,1,false)]⟩:=by kernel_rfl
theorem TG:w8 Tryz.prog 103=⟨1,0,[.any],[.any],some (.any),.other⟩:=by kernel_rfl
theorem TH:w8 Tryz.prog 106=⟨1,8,[.hJ],[.hJ],some (.hJ),.other⟩:=by kernel_rfl
theorem TJ:w8 Tryz.prog 107=⟨5,80,[.int .i64 0,.str [],.A9,.A9,.int .i64 0],[.int .i64 0,.str [],.sl false 1 16 [],.sl false 4 72 [],.int .i64 0],some (.agg [.int .i64 0,.str [],.A9,.A9,.int .i64 0]),.struct [(0,4,true),(4,1,false)]⟩:=by kernel_rfl
theorem TL:w8 Tryz.prog 108=⟨5,80,[.int .i64 0,.str [],.A9,.A9,.int .i64 0],[.int .i64 0,.str [],.sl false 1 16 [],.sl false 4 72 [],.int .i64 0],some (.agg [.int .i64 0,.str [],.A9,.A9,.int .i64 0]),.struct [(0,4,true),(4,1,false)]⟩:=by kernel_rfl
theorem TM:w8 Tryz.prog 109=⟨1,24,[.A9],[.sl false 5 80 []],some (.A9),.slice 108⟩:=by kernel_rfl
theorem TN:w8 Tryz.prog 111=⟨1,24,[.A9],[.sl false 6 104 []],some (.A9),.slice 142⟩:=by kernel_rfl
theorem TP:w8 Tryz.prog 112=⟨1,24,[.A9],[.sl false 1 8 []],some (.A9),.slice 3⟩:=by kernel_rfl
theorem TQ:w8 Tryz.prog 113=⟨1,0,[.any],[.any],some (.any),.other⟩:=by kernel_rfl
theorem TS:w8 Tryz.prog 119=⟨1,8,[.hJ],[.hJ],some (.hJ),.other⟩:=by kernel_rfl
theorem TT:w8 Tryz.prog 121=⟨1,8,[.hJ],[.hJ],some (.hJ),.other⟩:=by kernel_rfl
theorem TU:w8 Tryz.prog 122=⟨1,8,[.hJ],[.hJ],some (.hJ),.other⟩:=by kernel_rfl
theorem TV:w8 Tryz.prog 123=⟨1,0,[.any],[.any],some (.any),.other⟩:=by kernel_rfl
theorem TW:w8 Tryz.prog 126=⟨1,8,[.iL],[.iL],some (.iL),.map 9 9⟩:=by kernel_rfl
theorem TX:w8 Tryz.prog 127=⟨1,0,[.any],[.any],some (.any),.other⟩:=by kernel_rfl
theorem TY:w8 Tryz.prog 128=⟨1,8,[.hJ],[.hJ],some (.hJ),.other⟩:=by kernel_rfl
theorem Ua:w8 Tryz.prog 129=⟨1,0,[.any],[.any],some (.any),.other⟩:=by kernel_rfl
theorem Ub:w8 Tryz.prog 132=⟨1,24,[.A9],[.sl false 6 88 []],some (.A9),.slice 102⟩:=by kernel_rfl
theorem Uc:w8 Tryz.prog 133=⟨1,0,[.any],[.any],some (.any),.other⟩:=by kernel_rfl
theorem Ud:w8 Tryz.prog 137=⟨1,8,[.int .u64 0],[.int .u64 0],some (.int .u64 0),.int .u64⟩:=by kernel_rfl
theorem Ue:w8 Tryz.prog 138=⟨1,8,[.int .u64 0],[.int .u64 0],some (.int .u64 0),.int .u64⟩:=by kernel_rfl
theorem Uf:w8 Tryz.prog 141=⟨6,104,[.str [],.str [],.int .i64 0,.str [],.A9,.A9],[.str [],.str [],.int .i64 0,.str [],.sl false 1 16 [],.sl false 4 72 []],some (.agg [.str [],.str [],.int .i64 0,.str [],.A9,.A9]),.struct [(0,1,false),(1,1,false),(2,4,true)]⟩:=by kernel_rfl
theorem Ug:w8 Tryz.prog 142=⟨6,104,[.str [],.str [],.int .i64 0,.str [],.A9,.A9],[.str [],.str [],.int .i64 0,.str [],.sl false 1 16 [],.sl false 4 72 []],some (.agg [.str [],.str [],.int .i64 0,.str [],.A9,.A9]),.struct [(0,1,false),(1,1,false),(2,4,true)]⟩:=by kernel_rfl
theorem Uh:w8 Tryz.prog 143=⟨1,24,[.A9],[.sl false 1 24 []],some (.A9),.slice 71⟩:=by kernel_rfl
theorem Ui:w8 Tryz.prog 146=⟨1,8,[.qR],[.qR],some (.qR),.ptr 3⟩:=by kernel_rfl
theorem Uj:w8 Tryz.prog 147=⟨1,24,[.A9],[.sl false 2 32 []],some (.A9),.slice 149⟩:=by kernel_rfl
theorem Uk:w8 Tryz.prog 148=⟨2,32,[.str [],.str []],[.str [],.str []],some (.agg [.str [],.str []]),.struct [(0,1,false),(1,1,false)]⟩:=by kernel_rfl
theorem Ul:w8 Tryz.prog 149=⟨2,32,[.str [],.str []],[.str [],.str []],some (.agg [.str [],.str []]),.struct [(0,1,false),(1,1,false)]⟩:=by kernel_rfl
theorem Um:w8 Tryz.prog 155=⟨1,8,[.iL],[.iL],some (.iL),.map 9 142⟩:=by kernel_rfl
theorem Un:w8 Tryz.prog 156=⟨1,8,[.iL],[.iL],some (.iL),.map 9 142⟩:=by kernel_rfl
theorem Uo:w8 Tryz.prog 159=⟨1,8,[.hJ],[.hJ],some (.hJ),.other⟩:=by kernel_rfl
theorem Uq:w8 Tryz.prog 161=⟨1,8,[.iL],[.iL],some (.iL),.map 9 102⟩:=by kernel_rfl
theorem Ur:w8 Tryz.prog 162=⟨1,8,[.hJ],[.hJ],some (.hJ),.other⟩:=by kernel_rfl
theorem Us:w8 Tryz.prog 164=⟨1,8,[.int .i64 0],[.int .i64 0],some (.int .i64 0),.int .i64⟩:=by kernel_rfl
theorem Ut:w8 Tryz.prog 165=⟨1,0,[.any],[.any],some (.any),.other⟩:=by kernel_rfl
theorem Uu:w8 Tryz.prog 169=⟨1,0,[.any],[.any],some (.any),.other⟩:=by kernel_rfl
theorem Uv:w8 Tryz.prog 172=⟨1,4,[.int .u32 0],[.int .u32 0],some (.int .u32 0),.int .u32⟩:=by kernel_rfl
theorem Uw:w8 Tryz.prog 175=⟨24,24,[.int .u8 0,.int .u8 0,.int .u8 0,.int .u8 0,.int .u8 0,.int .u8 0,.int .u8 0,.int .u8 0,.int .u8 0,.int .u8 0,.int .u8 0,.int .u8 0,.int .u8 0,.int .u8 0,.int .u8 0,.int .u8 0,.int .u8 0,.int .u8 0,.int .u8 0,.int .u8 0,.int .u8 0,.int .u8 0,.int .u8 0,.int .u8 0],[.int .u8 0,.int .u8 0,.int .u8 0,.int .u8 0,.int .u8 0,.int .u8 0,.int .u8 0,.int .u8 0,.int .u8 0,.int .u8 0,.int .u8 0,.int .u8 0,.int .u8 0,.int .u8 0,.int .u8 0,.int .u8 0,.int .u8 0,.int .u8 0,.int .u8 0,.int .u8 0,.int .u8 0,.int .u8 0,.int .u8 0,.int .u8 0],some (.agg [.int .u8 0,.int .u8 0,.int .u8 0,.int .u8 0,.int .u8 0,.int .u8 0,.int .u8 0,.int .u8 0,.int .u8 0,.int .u8 0,.int .u8 0,.int .u8 0,.int .u8 0,.int .u8 0,.int .u8 0,.int .u8 0,.int .u8 0,.int .u8 0,.int .u8 0,.int .u8 0,.int .u8 0,.int .u8 0,.int .u8 0,.int .u8 0]),.arr 24 5⟩:=by kernel_rfl
theorem Ux:w8 Tryz.prog 177=⟨1,0,[.any],[.any],some (.any),.other⟩:=by kernel_rfl
theorem Uy:w8 Tryz.prog 185=⟨1,8,[.hJ],[.hJ],some (.hJ),.other⟩:=by kernel_rfl
theorem Uz:w8 Tryz.prog 186=⟨1,8,[.hJ],[.hJ],some (.hJ),.other⟩:=by kernel_rfl
theorem UA:w8 Tryz.prog 187=⟨1,0,[.any],[.any],some (.any),.other⟩:=by kernel_rfl
theorem UC:w8 Tryz.prog 188=⟨1,8,[.int .u64 0],[.int .u64 0],some (.int .u64 0),.int .u64⟩:=by kernel_rfl
theorem UD:w8 Tryz.prog 195=⟨20,160,[.int .u64 0,.int .u64 0,.int .u64 0,.int .u64 0,.int .u64 0,.int .u64 0,.int .u64 0,.int .u64 0,.int .u64 0,.int .u64 0,.int .u64 0,.int .u64 0,.int .u64 0,.int .u64 0,.int .u64 0,.int .u64 0,.int .u64 0,.int .u64 0,.int .u64 0,.int .u64 0],[.int .u64 0,.int .u64 0,.int .u64 0,.int .u64 0,.int .u64 0,.int .u64 0,.int .u64 0,.int .u64 0,.int .u64 0,.int .u64 0,.int .u64 0,.int .u64 0,.int .u64 0,.int .u64 0,.int .u64 0,.int .u64 0,.int .u64 0,.int .u64 0,.int .u64 0,.int .u64 0],some (.agg [.int .u64 0,.int .u64 0,.int .u64 0,.int .u64 0,.int .u64 0,.int .u64 0,.int .u64 0,.int .u64 0,.int .u64 0,.int .u64 0,.int .u64 0,.int .u64 0,.int .u64 0,.int .u64 0,.int .u64 0,.int .u64 0,.int .u64 0,.int .u64 0,.int .u64 0,.int .u64 0]),.arr 20 138⟩:=by kernel_rfl
theorem UE:w8 Tryz.prog 196=⟨65,65,[.int .u8 0,.int .u8 0,.int .u8 0,.int .u8 0,.int .u8 0,.int .u8 0,.int .u8 0,.int .u8 0,.int .u8 0,.int .u8 0,.int .u8 0,.int .u8 0,.int .u8 0,.int .u8 0,.int .u8 0,.int .u8 0,.int .u8 0,.int .u8 0,.int .u8 0,.int .u8 0,.int .u8 0,.int .u8 0,.int .u8 0,.int .u8 0,.int .u8 0,.int .u8 0,.int .u8 0,.int .u8 0,.int .u8 0,.int .u8 0,.int .u8 0,.int .u8 0,.int .u8 0,.int .u8 0,.int .u8 0,.int .u8 0,.int .u8 0,.int .u8 0,.int .u8 0,.int .u8 0,.int .u8 0,.int .u8 0,.int .u8 0,.int .u8 0,.int .u8 0,.int .u8 0,.int .u8 0,.int .u8 0,.int .u8 0,.int .u8 0,.int .u8 0,.int .u8 0,.int .u8 0,.int .u8 0,.int .u8 0,.int .u8 0,.int .u8 0,.int .u8 0,.int .u8 0,.int .u8 0,.int .u8 0,.int .u8 0,.int .u8 0,.int .u8 0,.int .u8 0],[],some (.agg [.int .u8 0,.int .u8 0,.int .u8 0,.int .u8 0,.int .u8 0,.int .u8 0,.int .u8 0,.int .u8 0,.int .u8 0,.int .u8 0,.int .u8 0,.int .u8 0,.int .u8 0,.int .u8 0,.int .u8 0,.int .u8 0,.int .u8 0,.int .u8 0,.int .u8 0,.int .u8 0,.int .u8 0,.int .u8 0,.int .u8 0,.int .u8 0,.int .u8 0,.int .u8 0,.int .u8 0,.int .u8 0,.int .u8 0,.int .u8 0,.int .u8 0,.int .u8 0,.int .u8 0,.int .u8 0,.int .u8 0,.int .u8 0,.int .u8 0,.int .u8 0,.int .u8 0,.int .u8 0,.int .u8 0,.int .u8 0,.int .u8 0,.int .u8 0,.int .u8 0,.int .u8 0,.int .u8 0,.int .u8 0,.int .u8 0,.int .u8 0,.int .u8 0,.int .u8 0,.int .u8 0,.int .u8 0,.int .u8 0,.int .u8 0,.int .u8 0,.int .u8 0,.int .u8 0,.int .u8 0,.int .u8 0,.int .u8 0,.int .u8 0,.int .u8 0,.int .u8 0]),.arr 65 5⟩:=by kernel_rfl
theorem UF:w8 Tryz.prog 200=⟨1,8,[.qR],[.qR],some (.qR),.ptr 188⟩:=by kernel_rfl
theorem UG:w8 Tryz.prog 201=⟨1,0,[.any],[.any],some (.any),.other⟩:=by kernel_rfl
theorem UH:w8 Tryz.prog 204=⟨32,32,[.int .u8 0,.int .u8 0,.int .u8 0,.int .u8 0,.int .u8 0,.int .u8 0,.int .u8 0,.int .u8 0,.int .u8 0,.int .u8 0,.int .u8 0,.int .u8 0,.int .u8 0,.int .u8 0,.int .u8 0,.int .u8 0,.int .u8 0,.int .u8 0,.int .u8 0,.int .u8 0,.int .u8 0,.int .u8 0,.int .u8 0,.int .u8 0,.int .u8 0,.int .u8 0,.int .u8 0,.int .u8 0,.int .u8 0,.int .u8 0,.int .u8 0,.int .u8 0],[.int .u8 0,.int .u8 0,.int .u8 0,.int .u8 0,.int .u8 0,.int .u8 0,.int .u8 0,.int .u8 0,.int .u8 0,.int .u8 0,.int .u8 0,.int .u8 0,.int .u8 0,.int .u8 0,.int .u8 0,.int .u8 0,.int .u8 0,.int .u8 0,.int .u8 0,.int .u8 0,.int .u8 0,.int .u8 0,.int .u8 0,.int .u8 0,.int .u8 0,.int .u8 0,.int .u8 0,.int .u8 0,.int .u8 0,.int .u8 0,.int .u8 0,.int .u8 0],some (.agg [.int .u8 0,.int .u8 0,.int .u8 0,.int .u8 0,.int .u8 0,.int .u8 0,.int .u8 0,.int .u8 0,.int .u8 0,.int .u8 0,.int .u8 0,.int .u8 0,.int .u8 0,.int .u8 0,.int .u8 0,.int .u8 0,.int .u8 0,.int .u8 0,.int .u8 0,.int .u8 0,.int .u8 0,.int .u8 0,.int .u8 0,.int .u8 0,.int .u8 0,.int .u8 0,.int .u8 0,.int .u8 0,.int .u8 0,.int .u8 0,.int .u8 0,.int .u8 0]),.arr 32 5⟩:=by kernel_rfl
theorem UJ:w8 Tryz.prog 205=⟨64,64,[.int .u8 0,.int .u8 0,.int .u8 0,.int .u8 0,.int .u8 0,.int .u8 0,.int .u8 0,.int .u8 0,.int .u8 0,.int .u8 0,.int .u8 0,.int .u8 0,.int .u8 0,.int .u8 0,.int .u8 0,.int .u8 0,.int .u8 0,.int .u8 0,.int .u8 0,.int .u8 0,.int .u8 0,.int .u8 0,.int .u8 0,.int .u8 0,.int .u8 0,.int .u8 0,.int .u8 0,.int .u8 0,.int .u8 0,.int .u8 0,.int .u8 0,.int .u8 0,.int .u8 0,.int .u8 0,.int .u8 0,.int .u8 0,.int .u8 0,.int .u8 0,.int .u8 0,.int .u8 0,.int .u8 0,.int .u8 0,.int .u8 0,.int .u8 0,.int .u8 0,.int .u8 0,.int .u8 0,.int .u8 0,.int .u8 0,.int .u8 0,.int .u8 0,.int .u8 0,.int .u8 0,.int .u8 0,.int .u8 0,.int .u8 0,.int .u8 0,.int .u8 0,.int .u8 0,.int .u8 0,.int .u8 0,.int .u8 0,.int .u8 0,.int .u8 0],[.int .u8 0,.int .u8 0,.int .u8 0,.int .u8 0,.int .u8 0,.int .u8 0,.int .u8 0,.int .u8 0,.int .u8 0,.int .u8 0,.int .u8 0,.int .u8 0,.int .u8 0,.int .u8 0,.int .u8 0,.int .u8 0,.int .u8 0,.int .u8 0,.int .u8 0,.int .u8 0,.int .u8 0,.int .u8 0,.int .u8 0,.int .u8 0,.int .u8 0,.int .u8 0,.int .u8 0,.int .u8 0,.int .u8 0,.int .u8 0,.int .u8 0,.int .u8 0,.int .u8 0,.int .u8 0,.int .u8 0,.int .u8 0,.int .u8 0,.int .u8 0,.int .u8 0,.int .u8 0,.int .u8 0,.int .u8 0,.int .u8 0,.int .u8 0,.int .u8 0,.int .u8 0,.int .u8 0,.int .u8 0,.int .u8 0,.int .u8 0,.int .u8 0,.int .u8 0,.int .u8 0,.int .u8 0,.int .u8 0,.int .u8 0,.int .u8 0,.int .u8 0,.int .u8 0,.int .u8 0,.int .u8 0,.int .u8 0,.int .u8 0,.int .u8 0],some (.agg [.int .u8 0,.int .u8 0,.int .u8 0,.int .u8 0,.int .u8 0,.int .u8 0,.int .u8 0,.int .u8 0,.int .u8 0,.int .u8 0,.int .u8 0,.int .u8 0,.int .u8 0,.int .u8 0,.int .u8 0,.int .u8 0,.int .u8 0,.int .u8 0,.int .u8 0,.int .u8 0,.int .u8 0,.int .u8 0,.int .u8 0,.int .u8 0,.int .u8 0,.int .u8 0,.int .u8 0,.int .u8 0,.int .u8 0,.int .u8 0,.int .u8 0,.int .u8 0,.int .u8 0,.int .u8 0,.int .u8 0,.int .u8 0,.int .u8 0,.int .u8 0,.int .u8 0,.int .u8 0,.int .u8 0,.int .u8 0,.int .u8 0,.int .u8 0,.int .u8 0,.int .u8 0,.int .u8 0,.int .u8 0,.int .u8 0,.int .u8 0,.int .u8 0,.int .u8 0,.int .u8 0,.int .u8 0,.int .u8 0,.int .u8 0,.int .u8 0,.int .u8 0,.int .u8 0,.int .u8 0,.int .u8 0,.int .u8 0,.int .u8 0,.int .u8 0]),.arr 64 5⟩:=by kernel_rfl
theorem UK:w8 Tryz.prog 215=⟨1,8,[.qR],[.qR],some (.qR),.ptr 5⟩:=by kernel_rfl
theorem fk7:F5 Tryz.prog 7=some [1,1,3,1]:=by kernel_rfl
theorem Wd:F5 Tryz.prog 24=some [1,1]:=by kernel_rfl
theorem Wf:F5 Tryz.prog 25=some [1,1]:=by kernel_rfl
theorem Wg:F5 Tryz.prog 30=some [1,2,0,0]:=by kernel_rfl
theorem Wh:F5 Tryz.prog 31=some [1,2,0,0]:=by kernel_rfl
theorem Wi:F5 Tryz.prog 42=some [1,1]:=by kernel_rfl
theorem Wj:F5 Tryz.prog 43=some [1,1]:=by kernel_rfl
theorem Wk:F5 Tryz.prog 69=some [1,2,0,0,1]:=by kernel_rfl
theorem Wm:F5 Tryz.prog 70=some [1,2,0,0,1]:=by kernel_rfl
theorem Wn:F5 Tryz.prog 97=some [0,0,0,1]:=by kernel_rfl
theorem Wo:F5 Tryz.prog 98=some [0,0,0,1]:=by kernel_rfl
theorem UL:F5 Tryz.prog 141=some [2,2,0]:=by kernel_rfl
theorem UM:F5 Tryz.prog 142=some [2,2,0]:=by kernel_rfl
theorem UN:F5 Tryz.prog 148=some [2,2]:=by kernel_rfl
theorem UO:F5 Tryz.prog 149=some [2,2]:=by kernel_rfl
attribute [go_sem] ty0 ty2 ty3 ty4 ty5 ty7 ty9 Vm Vn Vo Vp Vq Vr Vs RY Vt Vu Vv Vw Vx Vy Vz VA VB VD VE VF VG VH VI VJ VK VL VN VO VP VQ VT VU VW VX VY VZ Wa Wb Wc TB TD TF TG TH TJ TL TM TN TP TQ TS TT TU TV TW TX TY Ua Ub Uc Ud Ue Uf Ug Uh Ui Uj Uk Ul Um Un Uo Uq Ur Us Ut Uu Uv Uw Ux Uy Uz UA UC UD UE UF UG UH UJ UK fk7 Wd Wf Wg Wh Wi Wj Wk Wm Wn Wo UL UM UN UO
end Go.Proofs.YtfacbpehlibilaaGreatDoor
