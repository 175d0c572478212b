import Derived.Test.YtanlbioodbnakaaGreatDoorProg
import Derived.Test.YtanlbioodbnakaaGreatDoorTTAm2
set_option linter.unusedVariables false
set_option linter.unusedSimpArgs false
namespace Go.Proofs.YtanlbioodbnakaaGreatDoor
open Go Go.Am
theorem ty0:w9 Tryz.prog 0=⟨1,0,[.any],[.any],some (.any),.other⟩:=by kernel_rfl
theorem ty2:w9 Tryz.prog 2=⟨1,8,[.int .i64 0],[.int .i64 0],some (.int .i64 0),.int .i64⟩:=by kernel_rfl
theorem ty3:w9 Tryz.prog 3=⟨1,8,[.int .i64 0],[.int .i64 0],some (.int .i64 0),.int .i64⟩:=by kernel_rfl
theorem ty4:w9 Tryz.prog 4=⟨1,1,[.bool false],[.bool false],some (.bool false),.bool⟩:=by kernel_rfl
theorem ty5:w9 Tryz.prog 5=⟨1,1,[.int .u8 0],[.int .u8 0],some (.int .u8 0),.int .u8⟩:=by kernel_rfl
theorem ty7:w9 Tryz.prog 7=⟨4,24,[.int .i64 0,.int .i64 0,.bool false,.int .u8 0],[.int .i64 0,.int .i64 0,.bool false,.int .u8 0],some (.agg [.int .i64 0,.int .i64 0,.bool false,.int .u8 0]),.struct [(0,1,false),(1,1,false),(2,1,false),(3,1,false)]⟩:=by kernel_rfl
theorem ty9:w9 Tryz.prog 9=⟨1,16,[.str []],[.str []],some (.str []),.str⟩:=by kernel_rfl
theorem Vf:w9 Tryz.prog 12=⟨1,8,[.int .u64 0],[.int .u64 0],some (.int .u64 0),.int .u64⟩:=by kernel_rfl
theorem Vg:w9 Tryz.prog 13=⟨2,24,[.str [],.int .u64 0],[.str [],.int .u64 0],some (.agg [.str [],.int .u64 0]),.struct [(0,1,false),(1,1,false)]⟩:=by kernel_rfl
theorem Vh:w9 Tryz.prog 18=⟨1,8,[.qX],[.qX],some (.agg [.qX]),.struct [(0,1,false)]⟩:=by kernel_rfl
theorem Vi:w9 Tryz.prog 21=⟨1,4,[.int .i32 0],[.int .i32 0],some (.int .i32 0),.int .i32⟩:=by kernel_rfl
theorem Vj:w9 Tryz.prog 22=⟨1,24,[.B2],[.sl false 2 24 []],some (.B2),.slice 58⟩:=by kernel_rfl
theorem Vk:w9 Tryz.prog 23=⟨1,24,[.B2],[.sl false 3 48 []],some (.B2),.slice 36⟩:=by kernel_rfl
theorem Vl:w9 Tryz.prog 24=⟨3,56,[.int .i64 0,.B2,.B2],[.int .i64 0,.sl false 2 24 [],.sl false 3 48 []],some (.agg [.int .i64 0,.B2,.B2]),.struct [(0,1,false),(1,1,false),(2,1,false)]⟩:=by kernel_rfl
theorem Vm:w9 Tryz.prog 25=⟨3,56,[.int .i64 0,.B2,.B2],[.int .i64 0,.sl false 2 24 [],.sl false 3 48 []],some (.agg [.int .i64 0,.B2,.B2]),.struct [(0,1,false),(1,1,false),(2,1,false)]⟩:=by kernel_rfl
theorem Sd:w9 Tryz.prog 26=⟨1,24,[.B2],[.sl false 1 16 []],some (.B2),.slice 9⟩:=by kernel_rfl
theorem Vn:w9 Tryz.prog 27=⟨1,24,[.B2],[.sl false 4 72 []],some (.B2),.slice 29⟩:=by kernel_rfl
theorem Vo:w9 Tryz.prog 28=⟨4,72,[.int .i64 0,.str [],.B2,.B2],[.int .i64 0,.str [],.sl false 1 16 [],.sl false 4 72 []],some (.agg [.int .i64 0,.str [],.B2,.B2]),.struct [(0,1,false),(1,1,false),(2,1,false),(3,1,false)]⟩:=by kernel_rfl
theorem Vp:w9 Tryz.prog 29=⟨4,72,[.int .i64 0,.str [],.B2,.B2],[.int .i64 0,.str [],.sl false 1 16 [],.sl false 4 72 []],some (.agg [.int .i64 0,.str [],.B2,.B2]),.struct [(0,1,false),(1,1,false),(2,1,false),(3,1,false)]⟩:=by kernel_rfl
theorem Vq:w9 Tryz.prog 31=⟨2,16,[.int .i64 0,.int .i64 0],[.int .i64 0,.int .i64 0],some (.agg [.int .i64 0,.int .i64 0]),.struct [(0,1,false),(1,1,false)]⟩:=by kernel_rfl
theorem Vr:w9 Tryz.prog 32=⟨2,16,[.int .i64 0,.int .i64 0],[.int .i64 0,.int .i64 0],some (.agg [.int .i64 0,.int .i64 0]),.struct [(0,1,false),(1,1,false)]⟩:=by kernel_rfl
theorem Vs:w9 Tryz.prog 34=⟨1,24,[.B2],[.sl false 1 24 []],some (.B2),.slice 62⟩:=by kernel_rfl
theorem Vt:w9 Tryz.prog 35=⟨3,48,[.str [],.int .i64 0,.B2],[.str [],.int .i64 0,.sl false 1 24 []],some (.agg [.str [],.int .i64 0,.B2]),.struct [(0,1,false),(1,1,false),(2,1,false)]⟩:=by kernel_rfl
theorem Vu:w9 Tryz.prog 36=⟨3,48,[.str [],.int .i64 0,.B2],[.str [],.int .i64 0,.sl false 1 24 []],some (.agg [.str [],.int .i64 0,.B2]),.struct [(0,1,false),(1,1,false),(2,1,false)]⟩:=by kernel_rfl
theorem Vv:w9 Tryz.prog 37=⟨7,144,[.int .i64 0,.str [],.B2,.B2,.B2,.B2,.B2],[.int .i64 0,.str [],.sl false 1 16 [],.sl false 4 72 [],.sl false 1 16 [],.sl false 1 16 [],.sl false 1 16 []],some (.agg [.int .i64 0,.str [],.B2,.B2,.B2,.B2,.B2]),.struct [(0,4,true),(4,1,false),(5,1,false),(6,1,false)]⟩:=by kernel_rfl
theorem Vw:w9 Tryz.prog 38=⟨7,144,[.int .i64 0,.str [],.B2,.B2,.B2,.B2,.B2],[.int .i64 0,.str [],.sl false 1 16 [],.sl false 4 72 [],.sl false 1 16 [],.sl false 1 16 [],.sl false 1 16 []],some (.agg [.int .i64 0,.str [],.B2,.B2,.B2,.B2,.B2]),.struct [(0,4,true),(4,1,false),(5,1,false),(6,1,false)]⟩:=by kernel_rfl
theorem Vx:w9 Tryz.prog 39=⟨11,216,[.int .i64 0,.str [],.B2,.B2,.B2,.B2,.B2,.int .i64 0,.str [],.B2,.B2],[.int .i64 0,.str [],.sl false 1 16 [],.sl false 4 72 [],.sl false 1 16 [],.sl false 1 16 [],.sl false 1 16 [],.int .i64 0,.str [],.sl false 1 16 [],.sl false 4 72 []],some (.agg [.int .i64 0,.str [],.B2,.B2,.B2,.B2,.B2,.int .i64 0,.str [],.B2,.B2]),.struct [(0,7,true),(7,4,true)]⟩:=by kernel_rfl
theorem Vy:w9 Tryz.prog 40=⟨11,216,[.int .i64 0,.str [],.B2,.B2,.B2,.B2,.B2,.int .i64 0,.str [],.B2,.B2],[.int .i64 0,.str [],.sl false 1 16 [],.sl false 4 72 [],.sl false 1 16 [],.sl false 1 16 [],.sl false 1 16 [],.int .i64 0,.str [],.sl false 1 16 [],.sl false 4 72 []],some (.agg [.int .i64 0,.str [],.B2,.B2,.B2,.B2,.B2,.int .i64 0,.str [],.B2,.B2]),.struct [(0,7,true),(7,4,true)]⟩:=by kernel_rfl
theorem Vz:w9 Tryz.prog 41=⟨1,0,[.any],[.any],some (.any),.other⟩:=by kernel_rfl
theorem VA:w9 Tryz.prog 43=⟨1,0,[.any],[.any],some (.any),.other⟩:=by kernel_rfl
theorem VB:w9 Tryz.prog 45=⟨1,0,[.any],[.any],some (.any),.other⟩:=by kernel_rfl
theorem VD:w9 Tryz.prog 47=⟨1,24,[.B2],[.sl false 11 216 []],some (.B2),.slice 40⟩:=by kernel_rfl
theorem VE:w9 Tryz.prog 51=⟨1,24,[.B2],[.sl false 2 16 []],some (.B2),.slice 56⟩:=by kernel_rfl
theorem VF:w9 Tryz.prog 52=⟨1,0,[.any],[.any],some (.any),.other⟩:=by kernel_rfl
theorem VG:w9 Tryz.prog 55=⟨2,16,[.int .i64 0,.int .i64 0],[.int .i64 0,.int .i64 0],some (.agg [.int .i64 0,.int .i64 0]),.struct [(0,1,false),(1,1,false)]⟩:=by kernel_rfl
theorem VH:w9 Tryz.prog 56=⟨2,16,[.int .i64 0,.int .i64 0],[.int .i64 0,.int .i64 0],some (.agg [.int .i64 0,.int .i64 0]),.struct [(0,1,false),(1,1,false)]⟩:=by kernel_rfl
theorem VI:w9 Tryz.prog 57=⟨2,24,[.str [],.int .i64 0],[.str [],.int .i64 0],some (.agg [.str [],.int .i64 0]),.struct [(0,1,false),(1,1,false)]⟩:=by kernel_rfl
theorem VJ:w9 Tryz.prog 58=⟨2,24,[.str [],.int .i64 0],[.str [],.int .i64 0],some (.agg [.str [],.int .i64 0]),.struct [(0,1,false),(1,1,false)]⟩:=by kernel_rfl
theorem VK:w9 Tryz.prog 59=⟨1,8,[.eE],[.eE],some (.eE),.other⟩:=by kernel_rfl
theorem VL:w9 Tryz.prog 60=⟨1,8,[.eE],[.eE],some (.eE),.other⟩:=by kernel_rfl
theorem VN:w9 Tryz.prog 61=⟨1,8,[.eE],[.eE],some (.eE),.other⟩:=by kernel_rfl
theorem VO:w9 Tryz.prog 62=⟨1,24,[.B2],[.sl false 1 8 []],some (.B2),.slice 3⟩:=by kernel_rfl
theorem VP:w9 Tryz.prog 63=⟨1,8,[.eE],[.eE],some (.eE),.other⟩:=by kernel_rfl
theorem VQ:w9 Tryz.prog 70=⟨1,0,[.any],[.any],some (.any),.other⟩:=by kernel_rfl
theorem VT:w9 Tryz.prog 79=⟨1,0,[.any],[.any],some (.any),.other⟩:=by kernel_rfl
theorem VU:w9 Tryz.prog 81=⟨1,8,[.eE],[.eE],some (.eE),.other⟩:=by kernel_rfl
theorem VW:w9 Tryz.prog 82=⟨1,0,[.any],[.any],some (.any),.other⟩:=by kernel_rfl
theorem VX:w9 Tryz.prog 84=⟨1,24,[.B2],[.sl false 2 24 []],some (.B2),.slice 85⟩:=by kernel_rfl
theorem VY:w9 Tryz.prog 85=⟨2,24,[.str [],.int .i64 0],[.str [],.int .i64 0],some (.agg [.str [],.int .i64 0]),.struct [(0,1,false),(1,1,false)]⟩:=by kernel_rfl
theorem VZ:w9 Tryz.prog 86=⟨1,8,[.eE],[.eE],some (.eE),.other⟩:=by kernel_rfl
theorem Wa:w9 Tryz.prog 89=⟨1,8,[.qX],[.qX],some (.qX),.ptr 92⟩:=by kernel_rfl
theorem Wb:w9 Tryz.prog 90=⟨1,8,[.jc],[.jc],some (.jc),.map 9 3⟩:=by kernel_rfl
theorem Wc:w9 Tryz.prog 91=⟨4,64,[.B2,.jc,.B2,.int .i64 0],[.sl false 11 216 [],.jc,.sl false 2 16 [],.int .i64 0],some (.agg [.B2,.jc,.B2,.int .i64 0]),.struct [(0,1,false),(1,1,false),(2,1,false),(3,1,false)]⟩:=by kernel_rfl
theorem Wd:w9 Tryz.prog 92=⟨4,64,[.B2,.jc,.B2,.int .i64 0],[.sl false 11 216 [],.jc,.sl false 2 16 [],.int .i64 0],some (.agg [.B2,.jc,.B2,.int .i64 0]),.struct [(0,1,false),(1,1,false),(2,1,false),(3,1,false)]⟩:=by kernel_rfl
theorem Wf:w9 Tryz.prog 94=⟨1,8,[.eE],[.eE],some (.eE),.other⟩:=by kernel_rfl
theorem Wg:w9 Tryz.prog 95=⟨6,88,[.int .i64 0,.str [],.B2,.B2,.int .i64 0,.int .i64 0],[.int .i64 0,.str [],.sl false 1 16 [],.sl false 4 72 [],.int .i64 0,.int .i64 0],some (.agg [.int .i64 0,.str [],.B2,.B2,.int .i64 0,.int .i64 0]),.struct [(0,4,true),(4,1,false),(5,1,false)]⟩:=by kernel_rfl
theorem Wh:w9 Tryz.prog 96=⟨6,88,[.int .i64 0,.str [],.B2,.B2,.int .i64 0,.int .i64 0],[.int .i64 0,.str [],.sl false 1 16 [],.sl false 4 72 [],.int .i64 0,.int .i64 0],some (.agg [.int .i64 0,.str [],.B2,.B2,.int .i64 0,.int .i64 0]),.struct [(0,4,true),(4,1,false),(5,1,false)]⟩:=by kernel_rfl
theorem Wi:w9 Tryz.prog 97=⟨1,0,[.any],[.any],some (.any),.other⟩:=by kernel_rfl
theorem TB:w9 Tryz.prog 100=⟨1,8,[.eE],[.eE],some (.eE),.other⟩:=by kernel_rfl
theorem TD:w9 Tryz.prog 104=⟨1,8,[.eE],[.eE],some (.eE),.other⟩:=by kernel_rfl
theorem TF:w9 Tryz.prog 106=⟨1,8,[.eE],[.eE],some (.eE),.other⟩:=by kernel_rfl
theorem TG:w9 Tryz.prog 111=⟨1,8,[.eE],[.eE],some (.eE),.other⟩:=by kernel_rfl
theorem TH:w9 Tryz.prog 113=⟨1,8,[.int .u64 0],[.int .u64 0],some (.int .u64 0),.int .u64⟩:=by kernel_rfl
theorem TJ:w9 Tryz.prog 117=⟨1,8,[.jc],[.jc],some (.jc),.map 9 9⟩:=by kernel_rfl
theorem TL:w9 Tryz.prog 118=⟨1,0,[.any],[.any],some (.any),.other⟩:=by kernel_rfl
theorem TM:w9 Tryz.prog 119=⟨1,8,[.eE],[.eE],some (.eE),.other⟩:=by kernel_rfl
theorem TN:w9 Tryz.prog 120=⟨1,24,[.B2],[.sl false 6 104 []],some (.B2),.slice 151⟩:=by kernel_rfl
theorem TP:w9 Tryz.prog 121=⟨1,0,[.any],[.any],some (.any),.other⟩:=by kernel_rfl
theorem TQ:w9 Tryz.prog 124=⟨1,24,[.B2],[.sl false 6 88 []],some (.B2),.slice 96⟩:=by kernel_rfl
theorem TS:w9 Tryz.prog 125=⟨1,0,[.any],[.any],some (.any),.other⟩:=by kernel_rfl
theorem TT:w9 Tryz.prog 130=⟨24,24,[.int .u8 0,.int .u8 0,.int .u8 0,.int .u8 0,.int .u8 0,.int .u8 0,.int .u8 0,.int .u8 0,.int .u8 0,.int .u8 0,.int .u8 0,.int .u8 0,.int .u8 0,.int .u8 0,.int .u8 0,.int .u8 0,.int .u8 0,.int .u8 0,.int .u8 0,.int .u8 0,.int .u8 0,.int .u8 0,.int .u8 0,.int .u8 0],[.int .u8 0,.int .u8 0,.int .u8 0,.int .u8 0,.int .u8 0,.int .u8 0,.int .u8 0,.int .u8 0,.int .u8 0,.int .u8 0,.int .u8 0,.int .u8 0,.int .u8 0,.int .u8 0,.int .u8 0,.int .u8 0,.int .u8 0,.int .u8 0,.int .u8 0,.int .u8 0,.int .u8 0,.int .u8 0,.int .u8 0,.int .u8 0],some (.agg [.int .u8 0,.int .u8 0,.int .u8 0,.int .u8 0,.int .u8 0,.int .u8 0,.int .u8 0,.int .u8 0,.int .u8 0,.int .u8 0,.int .u8 0,.int .u8 0,.int .u8 0,.int .u8 0,.int .u8 0,.int .u8 0,.int .u8 0,.int .u8 0,.int .u8 0,.int .u8 0,.int .u8 0,.int .u8 0,.int .u8 0,.int .u8 0]),.arr 24 5⟩:=by kernel_rfl
theorem TU:w9 Tryz.prog 131=⟨1,8,[.int .u64 0],[.int .u64 0],some (.int .u64 0),.int .u64⟩:=by kernel_rfl
theorem TV:w9 Tryz.prog 134=⟨1,24,[.B2],[.sl false 1 1 []],some (.B2),.slice 5⟩:=by kernel_rfl
theorem TW:w9 Tryz.prog 135=⟨1,0,[.any],[.any],some (.any),.other⟩:=by kernel_rfl
theorem TX:w9 Tryz.prog 140=⟨1,0,[.any],[.any],some (.any),.other⟩:=by kernel_rfl
theorem TY:w9 Tryz.prog 142=⟨1,8,[.jc],[.jc],some (.jc),.map 9 26⟩:=by kernel_rfl
theorem Ua:w9 Tryz.prog 144=⟨1,8,[.eE],[.eE],some (.eE),.other⟩:=by kernel_rfl
theorem Ub:w9 Tryz.prog 146=⟨1,8,[.jc],[.jc],some (.jc),.map 9 151⟩:=by kernel_rfl
theorem Uc:w9 Tryz.prog 147=⟨1,8,[.jc],[.jc],some (.jc),.map 9 151⟩:=by kernel_rfl
theorem Ud:w9 Tryz.prog 150=⟨6,104,[.str [],.str [],.int .i64 0,.str [],.B2,.B2],[.str [],.str [],.int .i64 0,.str [],.sl false 1 16 [],.sl false 4 72 []],some (.agg [.str [],.str [],.int .i64 0,.str [],.B2,.B2]),.struct [(0,1,false),(1,1,false),(2,4,true)]⟩:=by kernel_rfl
theorem Ue:w9 Tryz.prog 151=⟨6,104,[.str [],.str [],.int .i64 0,.str [],.B2,.B2],[.str [],.str [],.int .i64 0,.str [],.sl false 1 16 [],.sl false 4 72 []],some (.agg [.str [],.str [],.int .i64 0,.str [],.B2,.B2]),.struct [(0,1,false),(1,1,false),(2,4,true)]⟩:=by kernel_rfl
theorem Uf:w9 Tryz.prog 153=⟨1,8,[.eE],[.eE],some (.eE),.other⟩:=by kernel_rfl
theorem Ug:w9 Tryz.prog 155=⟨1,8,[.jc],[.jc],some (.jc),.map 9 96⟩:=by kernel_rfl
theorem Uh:w9 Tryz.prog 156=⟨1,8,[.eE],[.eE],some (.eE),.other⟩:=by kernel_rfl
theorem Ui:w9 Tryz.prog 158=⟨1,8,[.int .i64 0],[.int .i64 0],some (.int .i64 0),.int .i64⟩:=by kernel_rfl
theorem Uj:w9 Tryz.prog 159=⟨1,0,[.any],[.any],some (.any),.other⟩:=by kernel_rfl
theorem Uk:w9 Tryz.prog 165=⟨1,4,[.int .u32 0],[.int .u32 0],some (.int .u32 0),.int .u32⟩:=by kernel_rfl
theorem Ul:w9 Tryz.prog 166=⟨1,24,[.B2],[.sl false 2 32 []],some (.B2),.slice 168⟩:=by kernel_rfl
theorem Um:w9 Tryz.prog 167=⟨2,32,[.str [],.str []],[.str [],.str []],some (.agg [.str [],.str []]),.struct [(0,1,false),(1,1,false)]⟩:=by kernel_rfl
theorem Un:w9 Tryz.prog 168=⟨2,32,[.str [],.str []],[.str [],.str []],some (.agg [.str [],.str []]),.struct [(0,1,false),(1,1,false)]⟩:=by kernel_rfl
theorem Uo:w9 Tryz.prog 171=⟨20,160,[.int .u64 0,.int .u64 0,.int .u64 0,.int .u64 0,.int .u64 0,.int .u64 0,.int .u64 0,.int .u64 0,.int .u64 0,.int .u64 0,.int .u64 0,.int .u64 0,.int .u64 0,.int .u64 0,.int .u64 0,.int .u64 0,.int .u64 0,.int .u64 0,.int .u64 0,.int .u64 0],[.int .u64 0,.int .u64 0,.int .u64 0,.int .u64 0,.int .u64 0,.int .u64 0,.int .u64 0,.int .u64 0,.int .u64 0,.int .u64 0,.int .u64 0,.int .u64 0,.int .u64 0,.int .u64 0,.int .u64 0,.int .u64 0,.int .u64 0,.int .u64 0,.int .u64 0,.int .u64 0],some (.agg [.int .u64 0,.int .u64 0,.int .u64 0,.int .u64 0,.int .u64 0,.int .u64 0,.int .u64 0,.int .u64 0,.int .u64 0,.int .u64 0,.int .u64 0,.int .u64 0,.int .u64 0,.int .u64 0,.int .u64 0,.int .u64 0,.int .u64 0,.int .u64 0,.int .u64 0,.int .u64 0]),.arr 20 131⟩:=by kernel_rfl
theorem Uq:w9 Tryz.prog 172=⟨65,65,[.int .u8 0,.int .u8 0,.int .u8 0,.int .u8 0,.int .u8 0,.int .u8 0,.int .u8 0,.int .u8 0,.int .u8 0,.int .u8 0,.int .u8 0,.int .u8 0,.int .u8 0,.int .u8 0,.int .u8 0,.int .u8 0,.int .u8 0,.int .u8 0,.int .u8 0,.int .u8 0,.int .u8 0,.int .u8 0,.int .u8 0,.int .u8 0,.int .u8 0,.int .u8 0,.int .u8 0,.int .u8 0,.int .u8 0,.int .u8 0,.int .u8 0,.int .u8 0,.int .u8 0,.int .u8 0,.int .u8 0,.int .u8 0,.int .u8 0,.int .u8 0,.int .u8 0,.int .u8 0,.int .u8 0,.int .u8 0,.int .u8 0,.int .u8 0,.int .u8 0,.int .u8 0,.int .u8 0,.int .u8 0,.int .u8 0,.int .u8 0,.int .u8 0,.int .u8 0,.int .u8 0,.int .u8 0,.int .u8 0,.int .u8 0,.int .u8 0,.int .u8 0,.int .u8 0,.int .u8 0,.int .u8 0,.int .u8 0,.int .u8 0,.int .u8 0,.int .u8 0],[],some (.agg [.int .u8 0,.int .u8 0,.int .u8 0,.int .u8 0,.int .u8 0,.int .u8 0,.int .u8 0,.int .u8 0,.int .u8 0,.int .u8 0,.int .u8 0,.int .u8 0,.int .u8 0,.int .u8 0,.int .u8 0,.int .u8 0,.int .u8 0,.int .u8 0,.int .u8 0,.int .u8 0,.int .u8 0,.int .u8 0,.int .u8 0,.int .u8 0,.int .u8 0,.int .u8 0,.int .u8 0,.int .u8 0,.int .u8 0,.int .u8 0,.int .u8 0,.int .u8 0,.int .u8 0,.int .u8 0,.int .u8 0,.int .u8 0,.int .u8 0,.int .u8 0,.int .u8 0,.int .u8 0,.int .u8 0,.int .u8 0,.int .u8 0,.int .u8 0,.int .u8 0,.int .u8 0,.int .u8 0,.int .u8 0,.int .u8 0,.int .u8 0,.int .u8 0,.int .u8 0,.int .u8 0,.int .u8 0,.int .u8 0,.int .u8 0,.int .u8 0,.int .u8 0,.int .u8 0,.int .u8 0,.int .u8 0,.int .u8 0,.int .u8 0,.int .u8 0,.int .u8 0]),.arr 65 5⟩:=by kernel_rfl
theorem Ur:w9 Tryz.prog 179=⟨1,0,[.any],[.any],some (.any),.other⟩:=by kernel_rfl
theorem Us:w9 Tryz.prog 182=⟨1,8,[.eE],[.eE],some (.eE),.other⟩:=by kernel_rfl
theorem Ut:w9 Tryz.prog 183=⟨1,8,[.eE],[.eE],some (.eE),.other⟩:=by kernel_rfl
theorem Uu:w9 Tryz.prog 184=⟨1,0,[.any],[.any],some (.any),.other⟩:=by kernel_rfl
theorem Uv:w9 Tryz.prog 185=⟨1,24,[.B2],[.sl false 1 24 []],some (.B2),.slice 26⟩:=by kernel_rfl
theorem Uw:w9 Tryz.prog 187=⟨1,8,[.int .u64 0],[.int .u64 0],some (.int .u64 0),.int .u64⟩:=by kernel_rfl
theorem Ux:w9 Tryz.prog 191=⟨1,8,[.qX],[.qX],some (.qX),.ptr 3⟩:=by kernel_rfl
theorem Uy:w9 Tryz.prog 196=⟨1,8,[.qX],[.qX],some (.qX),.ptr 187⟩:=by kernel_rfl
theorem Uz:w9 Tryz.prog 197=⟨1,0,[.any],[.any],some (.any),.other⟩:=by kernel_rfl
theorem UA:w9 Tryz.prog 199=⟨32,32,[.int .u8 0,.int .u8 0,.int .u8 0,.int .u8 0,.int .u8 0,.int .u8 0,.int .u8 0,.int .u8 0,.int .u8 0,.int .u8 0,.int .u8 0,.int .u8 0,.int .u8 0,.int .u8 0,.int .u8 0,.int .u8 0,.int .u8 0,.int .u8 0,.int .u8 0,.int .u8 0,.int .u8 0,.int .u8 0,.int .u8 0,.int .u8 0,.int .u8 0,.int .u8 0,.int .u8 0,.int .u8 0,.int .u8 0,.int .u8 0,.int .u8 0,.int .u8 0],[.int .u8 0,.int .u8 0,.int .u8 0,.int .u8 0,.int .u8 0,.int .u8 0,.int .u8 0,.int .u8 0,.int .u8 0,.int .u8 0,.int .u8 0,.int .u8 0,.int .u8 0,.int .u8 0,.int .u8 0,.int .u8 0,.int .u8 0,.int .u8 0,.int .u8 0,.int .u8 0,.int .u8 0,.int .u8 0,.int .u8 0,.int .u8 0,.int .u8 0,.int .u8 0,.int .u8 0,.int .u8 0,.int .u8 0,.int .u8 0,.int .u8 0,.int .u8 0],some (.agg [.int .u8 0,.int .u8 0,.int .u8 0,.int .u8 0,.int .u8 0,.int .u8 0,.int .u8 0,.int .u8 0,.int .u8 0,.int .u8 0,.int .u8 0,.int .u8 0,.int .u8 0,.int .u8 0,.int .u8 0,.int .u8 0,.int .u8 0,.int .u8 0,.int .u8 0,.int .u8 0,.int .u8 0,.int .u8 0,.int .u8 0,.int .u8 0,.int .u8 0,.int .u8 0,.int .u8 0,.int .u8 0,.int .u8 0,.int .u8 0,.int .u8 0,.int .u8 0]),.arr 32 5⟩:=by kernel_rfl
theorem UC:w9 Tryz.prog 200=⟨64,64,[.int .u8 0,.int .u8 0,.int .u8 0,.int .u8 0,.int .u8 0,.int .u8 0,.int .u8 0,.int .u8 0,.int .u8 0,.int .u8 0,.int .u8 0,.int .u8 0,.int .u8 0,.int .u8 0,.int .u8 0,.int .u8 0,.int .u8 0,.int .u8 0,.int .u8 0,.int .u8 0,.int .u8 0,.int .u8 0,.int .u8 0,.int .u8 0,.int .u8 0,.int .u8 0,.int .u8 0,.int .u8 0,.int .u8 0,.int .u8 0,.int .u8 0,.int .u8 0,.int .u8 0,.int .u8 0,.int .u8 0,.int .u8 0,.int .u8 0,.int .u8 0,.int .u8 0,.int .u8 0,.int .u8 0,.int .u8 0,.int .u8 0,.int .u8 0,.int .u8 0,.int .u8 0,.int .u8 0,.int .u8 0,.int .u8 0,.int .u8 0,.int .u8 0,.int .u8 0,.int .u8 0,.int .u8 0,.int .u8 0,.int .u8 0,.int .u8 0,.int .u8 0,.int .u8 0,.int .u8 0,.int .u8 0,.int .u8 0,.int .u8 0,.int .u8 0],[.int .u8 0,.int .u8 0,.int .u8 0,.int .u8 0,.int .u8 0,.int .u8 0,.int .u8 0,.int .u8 0,.int .u8 0,.int .u8 0,.int .u8 0,.int .u8 0,.int .u8 0,.int .u8 0,.int .u8 0,.int .u8 0,.int .u8 0,.int .u8 0,.int .u8 0,.int .u8 0,.int .u8 0,.int .u8 0,.int .u8 0,.int .u8 0,.int .u8 0,.int .u8 0,.int .u8 0,.int .u8 0,.int .u8 0,.int .u8 0,.int .u8 0,.int .u8 0,.int .u8 0,.int .u8 0,.int .u8 0,.int .u8 0,.int .u8 0,.int .u8 0,.int .u8 0,.int .u8 0,.int .u8 0,.int .u8 0,.int .u8 0,.int .u8 0,.int .u8 0,.int .u8 0,.int .u8 0,.int .u8 0,.int .u8 0,.int .u8 0,.int .u8 0,.int .u8 0,.int .u8 0,.int .u8 0,.int .u8 0,.int .u8 0,.int .u8 0,.int .u8 0,.int .u8 0,.int .u8 0,.int .u8 0,.int .u8 0,.int .u8 0,.int .u8 0],some (.agg [.int .u8 0,.int .u8 0,.int .u8 0,.int .u8 0,.int .u8 0,.int .u8 0,.int .u8 0,.int .u8 0,.int .u8 0,.int .u8 0,.int .u8 0,.int .u8 0,.int .u8 0,.int .u8 0,.int .u8 0,.int .u8 0,.int .u8 0,.int .u8 0,.int .u8 0,.int .u8 0,.int .u8 0,.int .u8 0,.int .u8 0,.int .u8 0,.int .u8 0,.int .u8 0,.int .u8 0,.int .u8 0,.int .u8 0,.int .u8 0,.int .u8 0,.int .u8 0,.int .u8 0,.int .u8 0,.int .u8 0,.int .u8 0,.int .u8 0,.int .u8 0,.int .u8 0,.int .u8 0,.int .u8 0,.int .u8 0,.int .u8 0,.int .u8 0,.int .u8 0,.int .u8 0,.int .u8 0,.int .u8 0,.int .u8 0,.int .u8 0,.int .u8 0,.int .u8 0,.int .u8 0,.int .u8 0,.int .u8 0,.int .u8 0,.int .u8 0,.int .u8 0,.int .u8 0,.int .u8 0,.int .u8 0,.int .u8 0,.int .u8 0,.int .u8 0]),.arr 64 5⟩:=by kernel_rfl
theorem UD:w9 Tryz.prog 211=⟨1,8,[.qX],[.qX],some (.qX),.ptr 5⟩:=by kernel_rfl
theorem fk7:E1 Tryz.prog 7=some [1,1,3,1]:=by kernel_rfl
theorem Wj:E1 Tryz.prog 24=some [1,0,0]:=by kernel_rfl
theorem Wk:E1 Tryz.prog 25=some [1,0,0]:=by kernel_rfl
theorem Wm:E1 Tryz.prog 28=some [1,2,0,0]:=by kernel_rfl
theorem Wn:E1 Tryz.prog 29=some [1,2,0,0]:=by kernel_rfl
theorem Wo:E1 Tryz.prog 31=some [1,1]:=by kernel_rfl
theorem Wp:E1 Tryz.prog 32=some [1,1]:=by kernel_rfl
theorem Wq:E1 Tryz.prog 35=some [2,1,0]:=by kernel_rfl
theorem Wr:E1 Tryz.prog 36=some [2,1,0]:=by kernel_rfl
theorem Ws:E1 Tryz.prog 55=some [1,1]:=by kernel_rfl
theorem Wt:E1 Tryz.prog 56=some [1,1]:=by kernel_rfl
theorem Wu:E1 Tryz.prog 57=some [2,1]:=by kernel_rfl
theorem Wv:E1 Tryz.prog 58=some [2,1]:=by kernel_rfl
theorem Ww:E1 Tryz.prog 85=some [2,1]:=by kernel_rfl
theorem Wx:E1 Tryz.prog 91=some [0,0,0,1]:=by kernel_rfl
theorem Wy:E1 Tryz.prog 92=some [0,0,0,1]:=by kernel_rfl
theorem UE:E1 Tryz.prog 150=some [2,2,0]:=by kernel_rfl
theorem UF:E1 Tryz.prog 151=some [2,2,0]:=by kernel_rfl
theorem UG:E1 Tryz.prog 167=some [2,2]:=by kernel_rfl
theorem UH:E1 Tryz.prog 168=some [2,2]:=by kernel_rfl
attribute [go_sem] ty0 ty2 ty3 ty4 ty5 ty7 ty9 Vf Vg Vh Vi Vj Vk Vl Vm Sd Vn Vo Vp Vq Vr Vs Vt Vu Vv Vw Vx Vy Vz VA VB VD VE VF VG VH VI VJ VK VL VN VO VP VQ VT VU VW VX VY VZ Wa Wb Wc Wd Wf Wg Wh Wi TB TD TF TG TH TJ TL TM TN TP TQ TS TT TU TV TW TX TY Ua Ub Uc Ud Ue Uf Ug Uh Ui Uj Uk Ul Um Un Uo Uq Ur Us Ut Uu Uv Uw Ux Uy Uz UA UC UD fk7 Wj Wk Wm Wn Wo Wp Wq Wr Ws Wt Wu Wv Ww Wx Wy UE UF UG UH
end Go.Proofs.YtanlbioodbnakaaGreatDoor
