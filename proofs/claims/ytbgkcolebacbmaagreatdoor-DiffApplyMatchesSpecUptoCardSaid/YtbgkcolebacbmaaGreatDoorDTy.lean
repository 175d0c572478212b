import Derived.Test.YtbgkcolebacbmaaGreatDoorProg
import Derived.Test.YtbgkcolebacbmaaGreatDoorDAm3
set_option linter.unusedVariables false
set_option linter.unusedSimpArgs false
namespace Go.Proofs.YtbgkcolebacbmaaGreatDoor
open Go Go.Am
theorem ty0:y6 Tryz.prog 0=⟨1,0,[.any],[.any],some (.any),.other⟩:=by kernel_rfl
theorem ty2:y6 Tryz.prog 2=⟨1,8,[.int .i64 0],[.int .i64 0],some (.int .i64 0),.int .i64⟩:=by kernel_rfl
theorem ty3:y6 Tryz.prog 3=⟨1,8,[.int .i64 0],[.int .i64 0],some (.int .i64 0),.int .i64⟩:=by kernel_rfl
theorem ty4:y6 Tryz.prog 4=⟨1,1,[.bool false],[.bool false],some (.bool false),.bool⟩:=by kernel_rfl
theorem ty5:y6 Tryz.prog 5=⟨1,1,[.int .u8 0],[.int .u8 0],some (.int .u8 0),.int .u8⟩:=by kernel_rfl
theorem ty7:y6 Tryz.prog 7=⟨4,24,[.int .i64 0,.int .i64 0,.bool false,.int .u8 0],[.int .i64 0,.int .i64 0,.bool false,.int .u8 0],some (.agg [.int .i64 0,.int .i64 0,.bool false,.int .u8 0]),.struct [(0,1,false),(1,1,false),(2,1,false),(3,1,false)]⟩:=by kernel_rfl
theorem ty9:y6 Tryz.prog 9=⟨1,16,[.str []],[.str []],some (.str []),.str⟩:=by kernel_rfl
theorem Ue:y6 Tryz.prog 12=⟨1,8,[.int .u64 0],[.int .u64 0],some (.int .u64 0),.int .u64⟩:=by kernel_rfl
theorem Uf:y6 Tryz.prog 13=⟨2,24,[.str [],.int .u64 0],[.str [],.int .u64 0],some (.agg [.str [],.int .u64 0]),.struct [(0,1,false),(1,1,false)]⟩:=by kernel_rfl
theorem Ug:y6 Tryz.prog 18=⟨1,8,[.qP],[.qP],some (.agg [.qP]),.struct [(0,1,false)]⟩:=by kernel_rfl
theorem Uh:y6 Tryz.prog 21=⟨1,4,[.int .i32 0],[.int .i32 0],some (.int .i32 0),.int .i32⟩:=by kernel_rfl
theorem Ui:y6 Tryz.prog 22=⟨1,24,[.B0],[.sl false 2 40 []],some (.B0),.slice 140⟩:=by kernel_rfl
theorem Sk:y6 Tryz.prog 23=⟨1,24,[.B0],[.sl false 3 32 []],some (.B0),.slice 94⟩:=by kernel_rfl
theorem Uj:y6 Tryz.prog 24=⟨2,48,[.B0,.B0],[.sl false 2 40 [],.sl false 3 32 []],some (.agg [.B0,.B0]),.struct [(0,1,false),(1,1,false)]⟩:=by kernel_rfl
theorem Uk:y6 Tryz.prog 25=⟨2,48,[.B0,.B0],[.sl false 2 40 [],.sl false 3 32 []],some (.agg [.B0,.B0]),.struct [(0,1,false),(1,1,false)]⟩:=by kernel_rfl
theorem Ul:y6 Tryz.prog 26=⟨1,24,[.B0],[.sl false 10 152 []],some (.B0),.slice 72⟩:=by kernel_rfl
theorem Um:y6 Tryz.prog 27=⟨1,24,[.B0],[.sl false 9 144 []],some (.B0),.slice 76⟩:=by kernel_rfl
theorem Un:y6 Tryz.prog 28=⟨1,24,[.B0],[.sl false 2 32 []],some (.B0),.slice 130⟩:=by kernel_rfl
theorem Uo:y6 Tryz.prog 29=⟨1,24,[.B0],[.sl false 2 32 []],some (.agg [.B0]),.struct [(0,1,false)]⟩:=by kernel_rfl
theorem Uq:y6 Tryz.prog 30=⟨1,24,[.B0],[.sl false 2 32 []],some (.agg [.B0]),.struct [(0,1,false)]⟩:=by kernel_rfl
theorem Ur:y6 Tryz.prog 31=⟨5,120,[.B0,.B0,.B0,.B0,.B0],[.sl false 2 40 [],.sl false 3 32 [],.sl false 10 152 [],.sl false 9 144 [],.sl false 2 32 []],some (.agg [.B0,.B0,.B0,.B0,.B0]),.struct [(0,2,true),(2,1,false),(3,1,false),(4,1,true)]⟩:=by kernel_rfl
theorem Us:y6 Tryz.prog 32=⟨5,120,[.B0,.B0,.B0,.B0,.B0],[.sl false 2 40 [],.sl false 3 32 [],.sl false 10 152 [],.sl false 9 144 [],.sl false 2 32 []],some (.agg [.B0,.B0,.B0,.B0,.B0]),.struct [(0,2,true),(2,1,false),(3,1,false),(4,1,true)]⟩:=by kernel_rfl
theorem Ut:y6 Tryz.prog 33=⟨1,24,[.B0],[.sl false 2 48 []],some (.B0),.slice 25⟩:=by kernel_rfl
theorem Uu:y6 Tryz.prog 34=⟨1,24,[.B0],[.sl false 1 24 []],some (.B0),.slice 30⟩:=by kernel_rfl
theorem Uv:y6 Tryz.prog 35=⟨1,24,[.B0],[.sl false 3 40 []],some (.B0),.slice 46⟩:=by kernel_rfl
theorem Uw:y6 Tryz.prog 36=⟨1,24,[.B0],[.sl false 3 40 []],some (.B0),.slice 48⟩:=by kernel_rfl
theorem Ux:y6 Tryz.prog 37=⟨4,96,[.B0,.B0,.B0,.B0],[.sl false 2 48 [],.sl false 1 24 [],.sl false 3 40 [],.sl false 3 40 []],some (.agg [.B0,.B0,.B0,.B0]),.struct [(0,1,false),(1,1,false),(2,1,false),(3,1,false)]⟩:=by kernel_rfl
theorem Uy:y6 Tryz.prog 38=⟨4,96,[.B0,.B0,.B0,.B0],[.sl false 2 48 [],.sl false 1 24 [],.sl false 3 40 [],.sl false 3 40 []],some (.agg [.B0,.B0,.B0,.B0]),.struct [(0,1,false),(1,1,false),(2,1,false),(3,1,false)]⟩:=by kernel_rfl
theorem Uz:y6 Tryz.prog 40=⟨2,16,[.int .i64 0,.int .i64 0],[.int .i64 0,.int .i64 0],some (.agg [.int .i64 0,.int .i64 0]),.struct [(0,1,false),(1,1,false)]⟩:=by kernel_rfl
theorem UA:y6 Tryz.prog 41=⟨2,16,[.int .i64 0,.int .i64 0],[.int .i64 0,.int .i64 0],some (.agg [.int .i64 0,.int .i64 0]),.struct [(0,1,false),(1,1,false)]⟩:=by kernel_rfl
theorem UC:y6 Tryz.prog 42=⟨1,0,[.any],[.any],some (.any),.other⟩:=by kernel_rfl
theorem UD:y6 Tryz.prog 45=⟨3,40,[.int .i64 0,.int .i64 0,.B0],[.int .i64 0,.int .i64 0,.sl false 10 152 []],some (.agg [.int .i64 0,.int .i64 0,.B0]),.struct [(0,1,false),(1,1,false),(2,1,false)]⟩:=by kernel_rfl
theorem UE:y6 Tryz.prog 46=⟨3,40,[.int .i64 0,.int .i64 0,.B0],[.int .i64 0,.int .i64 0,.sl false 10 152 []],some (.agg [.int .i64 0,.int .i64 0,.B0]),.struct [(0,1,false),(1,1,false),(2,1,false)]⟩:=by kernel_rfl
theorem UF:y6 Tryz.prog 47=⟨3,40,[.int .i64 0,.int .i64 0,.B0],[.int .i64 0,.int .i64 0,.sl false 9 144 []],some (.agg [.int .i64 0,.int .i64 0,.B0]),.struct [(0,1,false),(1,1,false),(2,1,false)]⟩:=by kernel_rfl
theorem UG:y6 Tryz.prog 48=⟨3,40,[.int .i64 0,.int .i64 0,.B0],[.int .i64 0,.int .i64 0,.sl false 9 144 []],some (.agg [.int .i64 0,.int .i64 0,.B0]),.struct [(0,1,false),(1,1,false),(2,1,false)]⟩:=by kernel_rfl
theorem UH:y6 Tryz.prog 49=⟨1,0,[.any],[.any],some (.any),.other⟩:=by kernel_rfl
theorem UJ:y6 Tryz.prog 55=⟨1,0,[.any],[.any],some (.any),.other⟩:=by kernel_rfl
theorem UK:y6 Tryz.prog 57=⟨1,24,[.B0],[.sl false 3 40 []],some (.B0),.slice 59⟩:=by kernel_rfl
theorem UL:y6 Tryz.prog 58=⟨3,40,[.int .i64 0,.int .i64 0,.B0],[.int .i64 0,.int .i64 0,.sl false 10 152 []],some (.agg [.int .i64 0,.int .i64 0,.B0]),.struct [(0,1,false),(1,1,false),(2,1,false)]⟩:=by kernel_rfl
theorem UM:y6 Tryz.prog 59=⟨3,40,[.int .i64 0,.int .i64 0,.B0],[.int .i64 0,.int .i64 0,.sl false 10 152 []],some (.agg [.int .i64 0,.int .i64 0,.B0]),.struct [(0,1,false),(1,1,false),(2,1,false)]⟩:=by kernel_rfl
theorem UN:y6 Tryz.prog 60=⟨1,24,[.B0],[.sl false 3 40 []],some (.B0),.slice 62⟩:=by kernel_rfl
theorem UO:y6 Tryz.prog 61=⟨3,40,[.int .i64 0,.int .i64 0,.B0],[.int .i64 0,.int .i64 0,.sl false 9 144 []],some (.agg [.int .i64 0,.int .i64 0,.B0]),.struct [(0,1,false),(1,1,false),(2,1,false)]⟩:=by kernel_rfl
theorem UP:y6 Tryz.prog 62=⟨3,40,[.int .i64 0,.int .i64 0,.B0],[.int .i64 0,.int .i64 0,.sl false 9 144 []],some (.agg [.int .i64 0,.int .i64 0,.B0]),.struct [(0,1,false),(1,1,false),(2,1,false)]⟩:=by kernel_rfl
theorem UQ:y6 Tryz.prog 63=⟨1,0,[.any],[.any],some (.any),.other⟩:=by kernel_rfl
theorem UR:y6 Tryz.prog 65=⟨1,24,[.B0],[.sl false 2 40 []],some (.B0),.slice 67⟩:=by kernel_rfl
theorem UU:y6 Tryz.prog 66=⟨2,40,[.str [],.B0],[.str [],.sl false 2 40 []],some (.agg [.str [],.B0]),.struct [(0,1,false),(1,1,false)]⟩:=by kernel_rfl
theorem UW:y6 Tryz.prog 67=⟨2,40,[.str [],.B0],[.str [],.sl false 2 40 []],some (.agg [.str [],.B0]),.struct [(0,1,false),(1,1,false)]⟩:=by kernel_rfl
theorem UY:y6 Tryz.prog 68=⟨1,24,[.B0],[.sl false 6 96 []],some (.B0),.slice 70⟩:=by kernel_rfl
theorem UZ:y6 Tryz.prog 69=⟨6,96,[.int .i64 0,.str [],.int .i64 0,.str [],.B0,.B0],[.int .i64 0,.str [],.int .i64 0,.str [],.sl false 2 40 [],.sl false 6 96 []],some (.agg [.int .i64 0,.str [],.int .i64 0,.str [],.B0,.B0]),.struct [(0,1,false),(1,1,false),(2,1,false),(3,2,true),(5,1,false)]⟩:=by kernel_rfl
theorem Va:y6 Tryz.prog 70=⟨6,96,[.int .i64 0,.str [],.int .i64 0,.str [],.B0,.B0],[.int .i64 0,.str [],.int .i64 0,.str [],.sl false 2 40 [],.sl false 6 96 []],some (.agg [.int .i64 0,.str [],.int .i64 0,.str [],.B0,.B0]),.struct [(0,1,false),(1,1,false),(2,1,false),(3,2,true),(5,1,false)]⟩:=by kernel_rfl
theorem Vb:y6 Tryz.prog 71=⟨10,152,[.str [],.B0,.int .i64 0,.int .i64 0,.int .i64 0,.str [],.int .i64 0,.str [],.B0,.B0],[.str [],.sl false 2 32 [],.int .i64 0,.int .i64 0,.int .i64 0,.str [],.int .i64 0,.str [],.sl false 2 40 [],.sl false 6 96 []],some (.agg [.str [],.B0,.int .i64 0,.int .i64 0,.int .i64 0,.str [],.int .i64 0,.str [],.B0,.B0]),.struct [(0,1,false),(1,1,true),(2,1,false),(3,1,false),(4,6,true)]⟩:=by kernel_rfl
theorem Vc:y6 Tryz.prog 72=⟨10,152,[.str [],.B0,.int .i64 0,.int .i64 0,.int .i64 0,.str [],.int .i64 0,.str [],.B0,.B0],[.str [],.sl false 2 32 [],.int .i64 0,.int .i64 0,.int .i64 0,.str [],.int .i64 0,.str [],.sl false 2 40 [],.sl false 6 96 []],some (.agg [.str [],.B0,.int .i64 0,.int .i64 0,.int .i64 0,.str [],.int .i64 0,.str [],.B0,.B0]),.struct [(0,1,false),(1,1,true),(2,1,false),(3,1,false),(4,6,true)]⟩:=by kernel_rfl
theorem Vd:y6 Tryz.prog 73=⟨1,0,[.any],[.any],some (.any),.other⟩:=by kernel_rfl
theorem Ve:y6 Tryz.prog 75=⟨9,144,[.str [],.B0,.int .i64 0,.int .i64 0,.str [],.int .i64 0,.str [],.B0,.B0],[.str [],.sl false 2 32 [],.int .i64 0,.int .i64 0,.str [],.int .i64 0,.str [],.sl false 2 40 [],.sl false 6 96 []],some (.agg [.str [],.B0,.int .i64 0,.int .i64 0,.str [],.int .i64 0,.str [],.B0,.B0]),.struct [(0,1,false),(1,1,true),(2,1,false),(3,6,true)]⟩:=by kernel_rfl
theorem Vf:y6 Tryz.prog 76=⟨9,144,[.str [],.B0,.int .i64 0,.int .i64 0,.str [],.int .i64 0,.str [],.B0,.B0],[.str [],.sl false 2 32 [],.int .i64 0,.int .i64 0,.str [],.int .i64 0,.str [],.sl false 2 40 [],.sl false 6 96 []],some (.agg [.str [],.B0,.int .i64 0,.int .i64 0,.str [],.int .i64 0,.str [],.B0,.B0]),.struct [(0,1,false),(1,1,true),(2,1,false),(3,6,true)]⟩:=by kernel_rfl
theorem Vg:y6 Tryz.prog 91=⟨1,24,[.B0],[.sl false 1 16 []],some (.B0),.slice 9⟩:=by kernel_rfl
theorem Sl:y6 Tryz.prog 92=⟨1,24,[.B0],[.sl false 1 8 []],some (.B0),.slice 3⟩:=by kernel_rfl
theorem Vh:y6 Tryz.prog 93=⟨3,32,[.str [],.int .i64 0,.int .i64 0],[.str [],.int .i64 0,.int .i64 0],some (.agg [.str [],.int .i64 0,.int .i64 0]),.struct [(0,1,false),(1,1,false),(2,1,false)]⟩:=by kernel_rfl
theorem Vi:y6 Tryz.prog 94=⟨3,32,[.str [],.int .i64 0,.int .i64 0],[.str [],.int .i64 0,.int .i64 0],some (.agg [.str [],.int .i64 0,.int .i64 0]),.struct [(0,1,false),(1,1,false),(2,1,false)]⟩:=by kernel_rfl
theorem Vj:y6 Tryz.prog 97=⟨1,24,[.B0],[.sl false 1 24 []],some (.B0),.slice 92⟩:=by kernel_rfl
theorem Vk:y6 Tryz.prog 98=⟨1,8,[.kr],[.kr],some (.kr),.other⟩:=by kernel_rfl
theorem Sm:y6 Tryz.prog 104=⟨1,24,[.B0],[.sl false 5 120 []],some (.B0),.slice 32⟩:=by kernel_rfl
theorem Sn:y6 Tryz.prog 108=⟨1,8,[.kr],[.kr],some (.kr),.other⟩:=by kernel_rfl
theorem Sp:y6 Tryz.prog 111=⟨1,8,[.kr],[.kr],some (.kr),.other⟩:=by kernel_rfl
theorem Sq:y6 Tryz.prog 113=⟨1,8,[.kr],[.kr],some (.kr),.other⟩:=by kernel_rfl
theorem Sr:y6 Tryz.prog 114=⟨1,24,[.B0],[.sl false 1 8 []],some (.B0),.slice 152⟩:=by kernel_rfl
theorem Ss:y6 Tryz.prog 115=⟨2,48,[.B0,.B0],[.sl false 1 8 [],.sl false 1 8 []],some (.agg [.B0,.B0]),.struct [(0,1,false),(1,1,false)]⟩:=by kernel_rfl
theorem Sv:y6 Tryz.prog 116=⟨2,48,[.B0,.B0],[.sl false 1 8 [],.sl false 1 8 []],some (.agg [.B0,.B0]),.struct [(0,1,false),(1,1,false)]⟩:=by kernel_rfl
theorem Sw:y6 Tryz.prog 118=⟨1,8,[.Cw],[.Cw],some (.Cw),.map 9 3⟩:=by kernel_rfl
theorem Sx:y6 Tryz.prog 119=⟨1,0,[.any],[.any],some (.any),.other⟩:=by kernel_rfl
theorem Sy:y6 Tryz.prog 125=⟨1,24,[.B0],[.sl false 1 1 []],some (.B0),.slice 5⟩:=by kernel_rfl
theorem Qo:y6 Tryz.prog 128=⟨1,24,[.B0],[.sl false 2 16 []],some (.B0),.slice 132⟩:=by kernel_rfl
theorem Sz:y6 Tryz.prog 129=⟨2,32,[.int .i64 0,.B0],[.int .i64 0,.sl false 2 16 []],some (.agg [.int .i64 0,.B0]),.struct [(0,1,false),(1,1,false)]⟩:=by kernel_rfl
theorem SA:y6 Tryz.prog 130=⟨2,32,[.int .i64 0,.B0],[.int .i64 0,.sl false 2 16 []],some (.agg [.int .i64 0,.B0]),.struct [(0,1,false),(1,1,false)]⟩:=by kernel_rfl
theorem SB:y6 Tryz.prog 131=⟨2,16,[.int .i64 0,.int .i64 0],[.int .i64 0,.int .i64 0],some (.agg [.int .i64 0,.int .i64 0]),.struct [(0,1,false),(1,1,false)]⟩:=by kernel_rfl
theorem SC:y6 Tryz.prog 132=⟨2,16,[.int .i64 0,.int .i64 0],[.int .i64 0,.int .i64 0],some (.agg [.int .i64 0,.int .i64 0]),.struct [(0,1,false),(1,1,false)]⟩:=by kernel_rfl
theorem SD:y6 Tryz.prog 137=⟨1,8,[.kr],[.kr],some (.kr),.other⟩:=by kernel_rfl
theorem SE:y6 Tryz.prog 139=⟨2,40,[.str [],.B0],[.str [],.sl false 1 8 []],some (.agg [.str [],.B0]),.struct [(0,1,false),(1,1,false)]⟩:=by kernel_rfl
theorem SF:y6 Tryz.prog 140=⟨2,40,[.str [],.B0],[.str [],.sl false 1 8 []],some (.agg [.str [],.B0]),.struct [(0,1,false),(1,1,false)]⟩:=by kernel_rfl
theorem SG:y6 Tryz.prog 143=⟨1,8,[.kr],[.kr],some (.kr),.other⟩:=by kernel_rfl
theorem SH:y6 Tryz.prog 147=⟨1,8,[.kr],[.kr],some (.kr),.other⟩:=by kernel_rfl
theorem SI:y6 Tryz.prog 150=⟨1,0,[.any],[.any],some (.any),.other⟩:=by kernel_rfl
theorem SJ:y6 Tryz.prog 152=⟨1,8,[.int .u64 0],[.int .u64 0],some (.int .u64 0),.int .u64⟩:=by kernel_rfl
theorem SK:y6 Tryz.prog 155=⟨1,24,[.B0],[.sl false 1 24 []],some (.B0),.slice 156⟩:=by kernel_rfl
theorem SL:y6 Tryz.prog 156=⟨1,24,[.B0],[.sl false 1 1 []],some (.B0),.slice 4⟩:=by kernel_rfl
theorem SM:y6 Tryz.prog 159=⟨1,8,[.kr],[.kr],some (.kr),.other⟩:=by kernel_rfl
theorem SN:y6 Tryz.prog 163=⟨1,8,[.kr],[.kr],some (.kr),.other⟩:=by kernel_rfl
theorem SQ:y6 Tryz.prog 164=⟨1,8,[.kr],[.kr],some (.kr),.other⟩:=by kernel_rfl
theorem SR:y6 Tryz.prog 167=⟨1,0,[.any],[.any],some (.any),.other⟩:=by kernel_rfl
theorem SS:y6 Tryz.prog 170=⟨8,112,[.int .i64 0,.str [],.int .i64 0,.str [],.B0,.B0,.int .i64 0,.int .i64 0],[.int .i64 0,.str [],.int .i64 0,.str [],.sl false 2 40 [],.sl false 6 96 [],.int .i64 0,.int .i64 0],some (.agg [.int .i64 0,.str [],.int .i64 0,.str [],.B0,.B0,.int .i64 0,.int .i64 0]),.struct [(0,6,true),(6,1,false),(7,1,false)]⟩:=by kernel_rfl
theorem SV:y6 Tryz.prog 171=⟨8,112,[.int .i64 0,.str [],.int .i64 0,.str [],.B0,.B0,.int .i64 0,.int .i64 0],[.int .i64 0,.str [],.int .i64 0,.str [],.sl false 2 40 [],.sl false 6 96 [],.int .i64 0,.int .i64 0],some (.agg [.int .i64 0,.str [],.int .i64 0,.str [],.B0,.B0,.int .i64 0,.int .i64 0]),.struct [(0,6,true),(6,1,false),(7,1,false)]⟩:=by kernel_rfl
theorem SW:y6 Tryz.prog 172=⟨1,24,[.B0],[.sl false 8 112 []],some (.B0),.slice 171⟩:=by kernel_rfl
theorem SX:y6 Tryz.prog 176=⟨64,64,[.int .u8 0,.int .u8 0,.int .u8 0,.int .u8 0,.int .u8 0,.int .u8 0,.int .u8 0,.int .u8 0,.int .u8 0,.int .u8 0,.int .u8 0,.int .u8 0,.int .u8 0,.int .u8 0,.int .u8 0,.int .u8 0,.int .u8 0,.int .u8 0,.int .u8 0,.int .u8 0,.int .u8 0,.int .u8 0,.int .u8 0,.int .u8 0,.int .u8 0,.int .u8 0,.int .u8 0,.int .u8 0,.int .u8 0,.int .u8 0,.int .u8 0,.int .u8 0,.int .u8 0,.int .u8 0,.int .u8 0,.int .u8 0,.int .u8 0,.int .u8 0,.int .u8 0,.int .u8 0,.int .u8 0,.int .u8 0,.int .u8 0,.int .u8 0,.int .u8 0,.int .u8 0,.int .u8 0,.int .u8 0,.int .u8 0,.int .u8 0,.int .u8 0,.int .u8 0,.int .u8 0,.int .u8 0,.int .u8 0,.int .u8 0,.int .u8 0,.int .u8 0,.int .u8 0,.int .u8 0,.int .u8 0,.int .u8 0,.int .u8 0,.int .u8 0],[.int .u8 0,.int .u8 0,.int .u8 0,.int .u8 0,.int .u8 0,.int .u8 0,.int .u8 0,.int .u8 0,.int .u8 0,.int .u8 0,.int .u8 0,.int .u8 0,.int .u8 0,.int .u8 0,.int .u8 0,.int .u8 0,.int .u8 0,.int .u8 0,.int .u8 0,.int .u8 0,.int .u8 0,.int .u8 0,.int .u8 0,.int .u8 0,.int .u8 0,.int .u8 0,.int .u8 0,.int .u8 0,.int .u8 0,.int .u8 0,.int .u8 0,.int .u8 0,.int .u8 0,.int .u8 0,.int .u8 0,.int .u8 0,.int .u8 0,.int .u8 0,.int .u8 0,.int .u8 0,.int .u8 0,.int .u8 0,.int .u8 0,.int .u8 0,.int .u8 0,.int .u8 0,.int .u8 0,.int .u8 0,.int .u8 0,.int .u8 0,.int .u8 0,.int .u8 0,.int .u8 0,.int .u8 0,.int .u8 0,.int .u8 0,.int .u8 0,.int .u8 0,.int .u8 0,.int .u8 0,.int .u8 0,.int .u8 0,.int .u8 0,.int .u8 0],some (.agg [.int .u8 0,.int .u8 0,.int .u8 0,.int .u8 0,.int .u8 0,.int .u8 0,.int .u8 0,.int .u8 0,.int .u8 0,.int .u8 0,.int .u8 0,.int .u8 0,.int .u8 0,.int .u8 0,.int .u8 0,.int .u8 0,.int .u8 0,.int .u8 0,.int .u8 0,.int .u8 0,.int .u8 0,.int .u8 0,.int .u8 0,.int .u8 0,.int .u8 0,.int .u8 0,.int .u8 0,.int .u8 0,.int .u8 0,.int .u8 0,.int .u8 0,.int .u8 0,.int .u8 0,.int .u8 0,.int .u8 0,.int .u8 0,.int .u8 0,.int .u8 0,.int .u8 0,.int .u8 0,.int .u8 0,.int .u8 0,.int .u8 0,.int .u8 0,.int .u8 0,.int .u8 0,.int .u8 0,.int .u8 0,.int .u8 0,.int .u8 0,.int .u8 0,.int .u8 0,.int .u8 0,.int .u8 0,.int .u8 0,.int .u8 0,.int .u8 0,.int .u8 0,.int .u8 0,.int .u8 0,.int .u8 0,.int .u8 0,.int .u8 0,.int .u8 0]),.arr 64 5⟩:=by kernel_rfl
theorem SY:y6 Tryz.prog 177=⟨1,8,[.int .u64 0],[.int .u64 0],some (.int .u64 0),.int .u64⟩:=by kernel_rfl
theorem SZ:y6 Tryz.prog 180=⟨1,8,[.kr],[.kr],some (.kr),.other⟩:=by kernel_rfl
theorem Ta:y6 Tryz.prog 181=⟨1,8,[.kr],[.kr],some (.kr),.other⟩:=by kernel_rfl
theorem Td:y6 Tryz.prog 183=⟨256,256,(List.replicate 256 (.int .u8 0)),[],some (.agg (List.replicate 256 (.int .u8 0))),.arr 256 5⟩:=by kernel_rfl
theorem Te:y6 Tryz.prog 184=⟨2,2,[.int .u8 0,.int .u8 0],[.int .u8 0,.int .u8 0],some (.agg [.int .u8 0,.int .u8 0]),.struct [(0,1,false),(1,1,false)]⟩:=by kernel_rfl
theorem Tf:y6 Tryz.prog 185=⟨2,2,[.int .u8 0,.int .u8 0],[.int .u8 0,.int .u8 0],some (.agg [.int .u8 0,.int .u8 0]),.struct [(0,1,false),(1,1,false)]⟩:=by kernel_rfl
theorem Tg:y6 Tryz.prog 186=⟨32,32,[.int .u8 0,.int .u8 0,.int .u8 0,.int .u8 0,.int .u8 0,.int .u8 0,.int .u8 0,.int .u8 0,.int .u8 0,.int .u8 0,.int .u8 0,.int .u8 0,.int .u8 0,.int .u8 0,.int .u8 0,.int .u8 0,.int .u8 0,.int .u8 0,.int .u8 0,.int .u8 0,.int .u8 0,.int .u8 0,.int .u8 0,.int .u8 0,.int .u8 0,.int .u8 0,.int .u8 0,.int .u8 0,.int .u8 0,.int .u8 0,.int .u8 0,.int .u8 0],[.int .u8 0,.int .u8 0,.int .u8 0,.int .u8 0,.int .u8 0,.int .u8 0,.int .u8 0,.int .u8 0,.int .u8 0,.int .u8 0,.int .u8 0,.int .u8 0,.int .u8 0,.int .u8 0,.int .u8 0,.int .u8 0,.int .u8 0,.int .u8 0,.int .u8 0,.int .u8 0,.int .u8 0,.int .u8 0,.int .u8 0,.int .u8 0,.int .u8 0,.int .u8 0,.int .u8 0,.int .u8 0,.int .u8 0,.int .u8 0,.int .u8 0,.int .u8 0],some (.agg [.int .u8 0,.int .u8 0,.int .u8 0,.int .u8 0,.int .u8 0,.int .u8 0,.int .u8 0,.int .u8 0,.int .u8 0,.int .u8 0,.int .u8 0,.int .u8 0,.int .u8 0,.int .u8 0,.int .u8 0,.int .u8 0,.int .u8 0,.int .u8 0,.int .u8 0,.int .u8 0,.int .u8 0,.int .u8 0,.int .u8 0,.int .u8 0,.int .u8 0,.int .u8 0,.int .u8 0,.int .u8 0,.int .u8 0,.int .u8 0,.int .u8 0,.int .u8 0]),.arr 16 185⟩:=by kernel_rfl
theorem Ti:y6 Tryz.prog 188=⟨3,48,[.str [],.B0,.int .i64 0],[.str [],.sl false 2 40 [],.int .i64 0],some (.agg [.str [],.B0,.int .i64 0]),.struct [(0,2,true),(2,1,false)]⟩:=by kernel_rfl
theorem Tj:y6 Tryz.prog 189=⟨3,48,[.str [],.B0,.int .i64 0],[.str [],.sl false 2 40 [],.int .i64 0],some (.agg [.str [],.B0,.int .i64 0]),.struct [(0,2,true),(2,1,false)]⟩:=by kernel_rfl
theorem Tl:y6 Tryz.prog 190=⟨1,24,[.B0],[.sl false 3 48 []],some (.B0),.slice 189⟩:=by kernel_rfl
theorem Tm:y6 Tryz.prog 191=⟨1,24,[.B0],[.sl false 7 104 []],some (.B0),.slice 194⟩:=by kernel_rfl
theorem Tn:y6 Tryz.prog 193=⟨7,104,[.int .i64 0,.str [],.str [],.B0,.int .i64 0,.B0,.int .i64 0],[.int .i64 0,.str [],.str [],.sl false 2 40 [],.int .i64 0,.sl false 1 8 [],.int .i64 0],some (.agg [.int .i64 0,.str [],.str [],.B0,.int .i64 0,.B0,.int .i64 0]),.struct [(0,1,false),(1,1,false),(2,2,true),(4,1,false),(5,1,false),(6,1,false)]⟩:=by kernel_rfl
theorem Tp:y6 Tryz.prog 194=⟨7,104,[.int .i64 0,.str [],.str [],.B0,.int .i64 0,.B0,.int .i64 0],[.int .i64 0,.str [],.str [],.sl false 2 40 [],.int .i64 0,.sl false 1 8 [],.int .i64 0],some (.agg [.int .i64 0,.str [],.str [],.B0,.int .i64 0,.B0,.int .i64 0]),.struct [(0,1,false),(1,1,false),(2,2,true),(4,1,false),(5,1,false),(6,1,false)]⟩:=by kernel_rfl
theorem Tq:y6 Tryz.prog 198=⟨256,256,(List.replicate 256 (.bool false)),[],some (.agg (List.replicate 256 (.bool false))),.arr 256 4⟩:=by kernel_rfl
theorem Tr:y6 Tryz.prog 199=⟨256,256,(List.replicate 256 (.bool false)),[],some (.agg (List.replicate 256 (.bool false))),.arr 256 4⟩:=by kernel_rfl
theorem Ts:y6 Tryz.prog 200=⟨1,0,[.any],[.any],some (.any),.other⟩:=by kernel_rfl
theorem Tt:y6 Tryz.prog 207=⟨1,8,[.qP],[.qP],some (.qP),.ptr 199⟩:=by kernel_rfl
theorem Tv:y6 Tryz.prog 209=⟨4,40,[.qP,.qP,.qP,.str []],[.qP,.qP,.qP,.str []],some (.agg [.qP,.qP,.qP,.str []]),.struct [(0,1,false),(1,1,false),(2,1,false),(3,1,false)]⟩:=by kernel_rfl
theorem Tw:y6 Tryz.prog 212=⟨0,0,[],[],some (.agg []),.struct [(0,0,true)]⟩:=by kernel_rfl
theorem Tx:y6 Tryz.prog 215=⟨1,4,[.int .u32 0],[.int .u32 0],some (.int .u32 0),.int .u32⟩:=by kernel_rfl
theorem Tz:y6 Tryz.prog 219=⟨1,8,[.qP],[.qP],some (.qP),.ptr 5⟩:=by kernel_rfl
theorem TA:y6 Tryz.prog 222=⟨11,48,[.int .u64 0,.int .u64 0,.int .u32 0,.int .u8 0,.int .u8 0,.int .u8 0,.int .u8 0,.kr,.qP,.int .i32 0,.int .i32 0],[.int .u64 0,.int .u64 0,.int .u32 0,.int .u8 0,.int .u8 0,.int .u8 0,.int .u8 0,.kr,.qP,.int .i32 0,.int .i32 0],some (.agg [.int .u64 0,.int .u64 0,.int .u32 0,.int .u8 0,.int .u8 0,.int .u8 0,.int .u8 0,.kr,.qP,.int .i32 0,.int .i32 0]),.struct [(0,1,false),(1,1,false),(2,1,false),(3,1,false),(4,1,false),(5,1,false),(6,1,false),(7,1,false),(8,1,false),(9,1,false),(10,1,false)]⟩:=by kernel_rfl
theorem fk7:D8 Tryz.prog 7=some [1,1,3,1]:=by kernel_rfl
theorem Vl:D8 Tryz.prog 24=some [0,0]:=by kernel_rfl
theorem Vm:D8 Tryz.prog 25=some [0,0]:=by kernel_rfl
theorem Vn:D8 Tryz.prog 29=some [0]:=by kernel_rfl
theorem Vo:D8 Tryz.prog 30=some [0]:=by kernel_rfl
theorem Vp:D8 Tryz.prog 37=some [0,0,0,0]:=by kernel_rfl
theorem Vq:D8 Tryz.prog 38=some [0,0,0,0]:=by kernel_rfl
theorem Vr:D8 Tryz.prog 40=some [1,1]:=by kernel_rfl
theorem Vs:D8 Tryz.prog 41=some [1,1]:=by kernel_rfl
theorem Vt:D8 Tryz.prog 45=some [1,1,0]:=by kernel_rfl
theorem Vu:D8 Tryz.prog 46=some [1,1,0]:=by kernel_rfl
theorem Vv:D8 Tryz.prog 47=some [1,1,0]:=by kernel_rfl
theorem Vw:D8 Tryz.prog 48=some [1,1,0]:=by kernel_rfl
theorem Vx:D8 Tryz.prog 58=some [1,1,0]:=by kernel_rfl
theorem Vy:D8 Tryz.prog 59=some [1,1,0]:=by kernel_rfl
theorem Vz:D8 Tryz.prog 61=some [1,1,0]:=by kernel_rfl
theorem VA:D8 Tryz.prog 62=some [1,1,0]:=by kernel_rfl
theorem VB:D8 Tryz.prog 66=some [2,0]:=by kernel_rfl
theorem VD:D8 Tryz.prog 67=some [2,0]:=by kernel_rfl
theorem VE:D8 Tryz.prog 71=some [2,0,1,1,0]:=by kernel_rfl
theorem VF:D8 Tryz.prog 72=some [2,0,1,1,0]:=by kernel_rfl
theorem VG:D8 Tryz.prog 75=some [2,0,1,0]:=by kernel_rfl
theorem VH:D8 Tryz.prog 76=some [2,0,1,0]:=by kernel_rfl
theorem VI:D8 Tryz.prog 93=some [2,1,1]:=by kernel_rfl
theorem VJ:D8 Tryz.prog 94=some [2,1,1]:=by kernel_rfl
theorem TB:D8 Tryz.prog 115=some [0,0]:=by kernel_rfl
theorem TD:D8 Tryz.prog 116=some [0,0]:=by kernel_rfl
theorem TF:D8 Tryz.prog 129=some [1,0]:=by kernel_rfl
theorem TG:D8 Tryz.prog 130=some [1,0]:=by kernel_rfl
theorem TH:D8 Tryz.prog 131=some [1,1]:=by kernel_rfl
theorem TJ:D8 Tryz.prog 132=some [1,1]:=by kernel_rfl
theorem TL:D8 Tryz.prog 139=some [2,0]:=by kernel_rfl
theorem TM:D8 Tryz.prog 140=some [2,0]:=by kernel_rfl
theorem TN:D8 Tryz.prog 184=some [1,1]:=by kernel_rfl
theorem TP:D8 Tryz.prog 185=some [1,1]:=by kernel_rfl
attribute [go_sem] ty0 ty2 ty3 ty4 ty5 ty7 ty9 Ue Uf Ug Uh Ui Sk Uj Uk Ul Um Un Uo Uq Ur Us Ut Uu Uv Uw Ux Uy Uz UA UC UD UE UF UG UH UJ UK UL UM UN UO UP UQ UR UU UW UY UZ Va Vb Vc Vd Ve Vf Vg Sl Vh Vi Vj Vk Sm Sn Sp Sq Sr Ss Sv Sw Sx Sy Qo Sz SA SB SC SD SE SF SG SH SI SJ SK SL SM SN SQ SR SS SV SW SX SY SZ Ta Td Te Tf Tg Ti Tj Tl Tm Tn Tp Tq Tr Ts Tt Tv Tw Tx Tz TA fk7 Vl Vm Vn Vo Vp Vq Vr Vs Vt Vu Vv Vw Vx Vy Vz VA VB VD VE VF VG VH VI VJ TB TD TF TG TH TJ TL TM TN TP
end Go.Proofs.YtbgkcolebacbmaaGreatDoor
