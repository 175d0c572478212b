import Derived.Test.YtonfgoanbllceaaGreatDoorProg
import Derived.Test.YtonfgoanbllceaaGreatDoorAAm3
set_option linter.unusedVariables false
set_option linter.unusedSimpArgs false
namespace Go.Proofs.YtonfgoanbllceaaGreatDoor
open Go Go.Am
theorem ty0:y6 Tryz.prog 0=⟨1,0,[.any],[.any],some (.any),.other⟩:=by kernel_rfl
theorem ty2:y6 Tryz.prog 2=⟨1,8,[.int .i64 0],[.int .i64 0],some (.int .i64 0),.int .i64⟩:=by kernel_rfl
theorem ty3:y6 Tryz.prog 3=⟨1,8,[.int .i64 0],[.int .i64 0],some (.int .i64 0),.int .i64⟩:=by kernel_rfl
theorem ty4:y6 Tryz.prog 4=⟨1,1,[.bool false],[.bool false],some (.bool false),.bool⟩:=by kernel_rfl
theorem ty5:y6 Tryz.prog 5=⟨1,1,[.int .u8 0],[.int .u8 0],some (.int .u8 0),.int .u8⟩:=by kernel_rfl
theorem ty7:y6 Tryz.prog 7=⟨4,24,[.int .i64 0,.int .i64 0,.bool false,.int .u8 0],[.int .i64 0,.int .i64 0,.bool false,.int .u8 0],some (.agg [.int .i64 0,.int .i64 0,.bool false,.int .u8 0]),.struct [(0,1,false),(1,1,false),(2,1,false),(3,1,false)]⟩:=by kernel_rfl
theorem ty9:y6 Tryz.prog 9=⟨1,16,[.str []],[.str []],some (.str []),.str⟩:=by kernel_rfl
theorem Wv:y6 Tryz.prog 12=⟨1,8,[.int .u64 0],[.int .u64 0],some (.int .u64 0),.int .u64⟩:=by kernel_rfl
theorem Ww:y6 Tryz.prog 13=⟨2,24,[.str [],.int .u64 0],[.str [],.int .u64 0],some (.agg [.str [],.int .u64 0]),.struct [(0,1,false),(1,1,false)]⟩:=by kernel_rfl
theorem Wx:y6 Tryz.prog 18=⟨1,8,[.rH],[.rH],some (.agg [.rH]),.struct [(0,1,false)]⟩:=by kernel_rfl
theorem Wy:y6 Tryz.prog 21=⟨1,4,[.int .i32 0],[.int .i32 0],some (.int .i32 0),.int .i32⟩:=by kernel_rfl
theorem Wz:y6 Tryz.prog 22=⟨1,24,[.B3],[.sl false 2 40 []],some (.B3),.slice 126⟩:=by kernel_rfl
theorem UK:y6 Tryz.prog 23=⟨1,24,[.B3],[.sl false 3 32 []],some (.B3),.slice 103⟩:=by kernel_rfl
theorem WA:y6 Tryz.prog 24=⟨2,48,[.B3,.B3],[.sl false 2 40 [],.sl false 3 32 []],some (.agg [.B3,.B3]),.struct [(0,1,false),(1,1,false)]⟩:=by kernel_rfl
theorem WB:y6 Tryz.prog 25=⟨2,48,[.B3,.B3],[.sl false 2 40 [],.sl false 3 32 []],some (.agg [.B3,.B3]),.struct [(0,1,false),(1,1,false)]⟩:=by kernel_rfl
theorem WC:y6 Tryz.prog 26=⟨1,24,[.B3],[.sl false 10 152 []],some (.B3),.slice 68⟩:=by kernel_rfl
theorem WD:y6 Tryz.prog 27=⟨1,24,[.B3],[.sl false 9 144 []],some (.B3),.slice 78⟩:=by kernel_rfl
theorem WE:y6 Tryz.prog 28=⟨1,24,[.B3],[.sl false 2 32 []],some (.B3),.slice 135⟩:=by kernel_rfl
theorem WG:y6 Tryz.prog 29=⟨1,24,[.B3],[.sl false 2 32 []],some (.agg [.B3]),.struct [(0,1,false)]⟩:=by kernel_rfl
theorem WH:y6 Tryz.prog 30=⟨1,24,[.B3],[.sl false 2 32 []],some (.agg [.B3]),.struct [(0,1,false)]⟩:=by kernel_rfl
theorem WI:y6 Tryz.prog 31=⟨5,120,[.B3,.B3,.B3,.B3,.B3],[.sl false 2 40 [],.sl false 3 32 [],.sl false 10 152 [],.sl false 9 144 [],.sl false 2 32 []],some (.agg [.B3,.B3,.B3,.B3,.B3]),.struct [(0,2,true),(2,1,false),(3,1,false),(4,1,true)]⟩:=by kernel_rfl
theorem WJ:y6 Tryz.prog 32=⟨5,120,[.B3,.B3,.B3,.B3,.B3],[.sl false 2 40 [],.sl false 3 32 [],.sl false 10 152 [],.sl false 9 144 [],.sl false 2 32 []],some (.agg [.B3,.B3,.B3,.B3,.B3]),.struct [(0,2,true),(2,1,false),(3,1,false),(4,1,true)]⟩:=by kernel_rfl
theorem WK:y6 Tryz.prog 34=⟨1,24,[.B3],[.sl false 2 48 []],some (.B3),.slice 25⟩:=by kernel_rfl
theorem WL:y6 Tryz.prog 35=⟨1,24,[.B3],[.sl false 1 24 []],some (.B3),.slice 30⟩:=by kernel_rfl
theorem WM:y6 Tryz.prog 36=⟨1,24,[.B3],[.sl false 3 40 []],some (.B3),.slice 73⟩:=by kernel_rfl
theorem WO:y6 Tryz.prog 37=⟨1,24,[.B3],[.sl false 3 40 []],some (.B3),.slice 83⟩:=by kernel_rfl
theorem WQ:y6 Tryz.prog 38=⟨4,96,[.B3,.B3,.B3,.B3],[.sl false 2 48 [],.sl false 1 24 [],.sl false 3 40 [],.sl false 3 40 []],some (.agg [.B3,.B3,.B3,.B3]),.struct [(0,1,false),(1,1,false),(2,1,false),(3,1,false)]⟩:=by kernel_rfl
theorem WR:y6 Tryz.prog 39=⟨4,96,[.B3,.B3,.B3,.B3],[.sl false 2 48 [],.sl false 1 24 [],.sl false 3 40 [],.sl false 3 40 []],some (.agg [.B3,.B3,.B3,.B3]),.struct [(0,1,false),(1,1,false),(2,1,false),(3,1,false)]⟩:=by kernel_rfl
theorem WS:y6 Tryz.prog 40=⟨2,16,[.int .i64 0,.int .i64 0],[.int .i64 0,.int .i64 0],some (.agg [.int .i64 0,.int .i64 0]),.struct [(0,1,false),(1,1,false)]⟩:=by kernel_rfl
theorem WT:y6 Tryz.prog 41=⟨2,16,[.int .i64 0,.int .i64 0],[.int .i64 0,.int .i64 0],some (.agg [.int .i64 0,.int .i64 0]),.struct [(0,1,false),(1,1,false)]⟩:=by kernel_rfl
theorem WU:y6 Tryz.prog 42=⟨1,0,[.any],[.any],some (.any),.other⟩:=by kernel_rfl
theorem WV:y6 Tryz.prog 46=⟨1,0,[.any],[.any],some (.any),.other⟩:=by kernel_rfl
theorem WW:y6 Tryz.prog 48=⟨1,0,[.any],[.any],some (.any),.other⟩:=by kernel_rfl
theorem WX:y6 Tryz.prog 53=⟨1,24,[.B3],[.sl false 5 120 []],some (.B3),.slice 32⟩:=by kernel_rfl
theorem WY:y6 Tryz.prog 59=⟨1,24,[.B3],[.sl false 3 40 []],some (.B3),.slice 71⟩:=by kernel_rfl
theorem WZ:y6 Tryz.prog 61=⟨1,24,[.B3],[.sl false 2 40 []],some (.B3),.slice 63⟩:=by kernel_rfl
theorem Xa:y6 Tryz.prog 62=⟨2,40,[.str [],.B3],[.str [],.sl false 2 40 []],some (.agg [.str [],.B3]),.struct [(0,1,false),(1,1,false)]⟩:=by kernel_rfl
theorem Xb:y6 Tryz.prog 63=⟨2,40,[.str [],.B3],[.str [],.sl false 2 40 []],some (.agg [.str [],.B3]),.struct [(0,1,false),(1,1,false)]⟩:=by kernel_rfl
theorem Xc:y6 Tryz.prog 64=⟨1,24,[.B3],[.sl false 6 96 []],some (.B3),.slice 66⟩:=by kernel_rfl
theorem Xd:y6 Tryz.prog 65=⟨6,96,[.int .i64 0,.str [],.int .i64 0,.str [],.B3,.B3],[.int .i64 0,.str [],.int .i64 0,.str [],.sl false 2 40 [],.sl false 6 96 []],some (.agg [.int .i64 0,.str [],.int .i64 0,.str [],.B3,.B3]),.struct [(0,1,false),(1,1,false),(2,1,false),(3,2,true),(5,1,false)]⟩:=by kernel_rfl
theorem Xe:y6 Tryz.prog 66=⟨6,96,[.int .i64 0,.str [],.int .i64 0,.str [],.B3,.B3],[.int .i64 0,.str [],.int .i64 0,.str [],.sl false 2 40 [],.sl false 6 96 []],some (.agg [.int .i64 0,.str [],.int .i64 0,.str [],.B3,.B3]),.struct [(0,1,false),(1,1,false),(2,1,false),(3,2,true),(5,1,false)]⟩:=by kernel_rfl
theorem Xf:y6 Tryz.prog 67=⟨10,152,[.str [],.B3,.int .i64 0,.int .i64 0,.int .i64 0,.str [],.int .i64 0,.str [],.B3,.B3],[.str [],.sl false 2 32 [],.int .i64 0,.int .i64 0,.int .i64 0,.str [],.int .i64 0,.str [],.sl false 2 40 [],.sl false 6 96 []],some (.agg [.str [],.B3,.int .i64 0,.int .i64 0,.int .i64 0,.str [],.int .i64 0,.str [],.B3,.B3]),.struct [(0,1,false),(1,1,true),(2,1,false),(3,1,false),(4,6,true)]⟩:=by kernel_rfl
theorem Xg:y6 Tryz.prog 68=⟨10,152,[.str [],.B3,.int .i64 0,.int .i64 0,.int .i64 0,.str [],.int .i64 0,.str [],.B3,.B3],[.str [],.sl false 2 32 [],.int .i64 0,.int .i64 0,.int .i64 0,.str [],.int .i64 0,.str [],.sl false 2 40 [],.sl false 6 96 []],some (.agg [.str [],.B3,.int .i64 0,.int .i64 0,.int .i64 0,.str [],.int .i64 0,.str [],.B3,.B3]),.struct [(0,1,false),(1,1,true),(2,1,false),(3,1,false),(4,6,true)]⟩:=by kernel_rfl
theorem Xh:y6 Tryz.prog 69=⟨1,8,[.kJ],[.kJ],some (.kJ),.other⟩:=by kernel_rfl
theorem Xi:y6 Tryz.prog 70=⟨3,40,[.int .i64 0,.int .i64 0,.B3],[.int .i64 0,.int .i64 0,.sl false 10 152 []],some (.agg [.int .i64 0,.int .i64 0,.B3]),.struct [(0,1,false),(1,1,false),(2,1,false)]⟩:=by kernel_rfl
theorem Xj:y6 Tryz.prog 71=⟨3,40,[.int .i64 0,.int .i64 0,.B3],[.int .i64 0,.int .i64 0,.sl false 10 152 []],some (.agg [.int .i64 0,.int .i64 0,.B3]),.struct [(0,1,false),(1,1,false),(2,1,false)]⟩:=by kernel_rfl
theorem Xk:y6 Tryz.prog 72=⟨3,40,[.int .i64 0,.int .i64 0,.B3],[.int .i64 0,.int .i64 0,.sl false 10 152 []],some (.agg [.int .i64 0,.int .i64 0,.B3]),.struct [(0,1,false),(1,1,false),(2,1,false)]⟩:=by kernel_rfl
theorem Xl:y6 Tryz.prog 73=⟨3,40,[.int .i64 0,.int .i64 0,.B3],[.int .i64 0,.int .i64 0,.sl false 10 152 []],some (.agg [.int .i64 0,.int .i64 0,.B3]),.struct [(0,1,false),(1,1,false),(2,1,false)]⟩:=by kernel_rfl
theorem Xm:y6 Tryz.prog 75=⟨1,24,[.B3],[.sl false 3 40 []],some (.B3),.slice 81⟩:=by kernel_rfl
theorem Xn:y6 Tryz.prog 77=⟨9,144,[.str [],.B3,.int .i64 0,.int .i64 0,.str [],.int .i64 0,.str [],.B3,.B3],[.str [],.sl false 2 32 [],.int .i64 0,.int .i64 0,.str [],.int .i64 0,.str [],.sl false 2 40 [],.sl false 6 96 []],some (.agg [.str [],.B3,.int .i64 0,.int .i64 0,.str [],.int .i64 0,.str [],.B3,.B3]),.struct [(0,1,false),(1,1,true),(2,1,false),(3,6,true)]⟩:=by kernel_rfl
theorem Xo:y6 Tryz.prog 78=⟨9,144,[.str [],.B3,.int .i64 0,.int .i64 0,.str [],.int .i64 0,.str [],.B3,.B3],[.str [],.sl false 2 32 [],.int .i64 0,.int .i64 0,.str [],.int .i64 0,.str [],.sl false 2 40 [],.sl false 6 96 []],some (.agg [.str [],.B3,.int .i64 0,.int .i64 0,.str [],.int .i64 0,.str [],.B3,.B3]),.struct [(0,1,false),(1,1,true),(2,1,false),(3,6,true)]⟩:=by kernel_rfl
theorem Xp:y6 Tryz.prog 79=⟨1,8,[.kJ],[.kJ],some (.kJ),.other⟩:=by kernel_rfl
theorem Xq:y6 Tryz.prog 80=⟨3,40,[.int .i64 0,.int .i64 0,.B3],[.int .i64 0,.int .i64 0,.sl false 9 144 []],some (.agg [.int .i64 0,.int .i64 0,.B3]),.struct [(0,1,false),(1,1,false),(2,1,false)]⟩:=by kernel_rfl
theorem Xr:y6 Tryz.prog 81=⟨3,40,[.int .i64 0,.int .i64 0,.B3],[.int .i64 0,.int .i64 0,.sl false 9 144 []],some (.agg [.int .i64 0,.int .i64 0,.B3]),.struct [(0,1,false),(1,1,false),(2,1,false)]⟩:=by kernel_rfl
theorem Xt:y6 Tryz.prog 82=⟨3,40,[.int .i64 0,.int .i64 0,.B3],[.int .i64 0,.int .i64 0,.sl false 9 144 []],some (.agg [.int .i64 0,.int .i64 0,.B3]),.struct [(0,1,false),(1,1,false),(2,1,false)]⟩:=by kernel_rfl
theorem Xu:y6 Tryz.prog 83=⟨3,40,[.int .i64 0,.int .i64 0,.B3],[.int .i64 0,.int .i64 0,.sl false 9 144 []],some (.agg [.int .i64 0,.int .i64 0,.B3]),.struct [(0,1,false),(1,1,false),(2,1,false)]⟩:=by kernel_rfl
theorem Xv:y6 Tryz.prog 86=⟨1,0,[.any],[.any],some (.any),.other⟩:=by kernel_rfl
theorem Xw:y6 Tryz.prog 88=⟨1,0,[.any],[.any],some (.any),.other⟩:=by kernel_rfl
theorem Xx:y6 Tryz.prog 92=⟨1,24,[.B3],[.sl false 1 24 []],some (.B3),.slice 93⟩:=by kernel_rfl
theorem Xy:y6 Tryz.prog 93=⟨1,24,[.B3],[.sl false 1 1 []],some (.B3),.slice 4⟩:=by kernel_rfl
theorem UL:y6 Tryz.prog 100=⟨1,24,[.B3],[.sl false 1 16 []],some (.B3),.slice 9⟩:=by kernel_rfl
theorem Sz:y6 Tryz.prog 101=⟨1,24,[.B3],[.sl false 1 8 []],some (.B3),.slice 3⟩:=by kernel_rfl
theorem UM:y6 Tryz.prog 102=⟨3,32,[.str [],.int .i64 0,.int .i64 0],[.str [],.int .i64 0,.int .i64 0],some (.agg [.str [],.int .i64 0,.int .i64 0]),.struct [(0,1,false),(1,1,false),(2,1,false)]⟩:=by kernel_rfl
theorem UN:y6 Tryz.prog 103=⟨3,32,[.str [],.int .i64 0,.int .i64 0],[.str [],.int .i64 0,.int .i64 0],some (.agg [.str [],.int .i64 0,.int .i64 0]),.struct [(0,1,false),(1,1,false),(2,1,false)]⟩:=by kernel_rfl
theorem UO:y6 Tryz.prog 106=⟨1,24,[.B3],[.sl false 1 24 []],some (.B3),.slice 101⟩:=by kernel_rfl
theorem UP:y6 Tryz.prog 107=⟨1,8,[.kJ],[.kJ],some (.kJ),.other⟩:=by kernel_rfl
theorem UQ:y6 Tryz.prog 114=⟨1,24,[.B3],[.sl false 1 8 []],some (.B3),.slice 151⟩:=by kernel_rfl
theorem UR:y6 Tryz.prog 115=⟨2,48,[.B3,.B3],[.sl false 1 8 [],.sl false 1 8 []],some (.agg [.B3,.B3]),.struct [(0,1,false),(1,1,false)]⟩:=by kernel_rfl
theorem UU:y6 Tryz.prog 116=⟨2,48,[.B3,.B3],[.sl false 1 8 [],.sl false 1 8 []],some (.agg [.B3,.B3]),.struct [(0,1,false),(1,1,false)]⟩:=by kernel_rfl
theorem UW:y6 Tryz.prog 118=⟨1,8,[.En],[.En],some (.En),.map 9 3⟩:=by kernel_rfl
theorem UY:y6 Tryz.prog 120=⟨1,0,[.any],[.any],some (.any),.other⟩:=by kernel_rfl
theorem UZ:y6 Tryz.prog 125=⟨2,40,[.str [],.B3],[.str [],.sl false 1 8 []],some (.agg [.str [],.B3]),.struct [(0,1,false),(1,1,false)]⟩:=by kernel_rfl
theorem Va:y6 Tryz.prog 126=⟨2,40,[.str [],.B3],[.str [],.sl false 1 8 []],some (.agg [.str [],.B3]),.struct [(0,1,false),(1,1,false)]⟩:=by kernel_rfl
theorem Vb:y6 Tryz.prog 128=⟨1,8,[.kJ],[.kJ],some (.kJ),.other⟩:=by kernel_rfl
theorem SA:y6 Tryz.prog 133=⟨1,24,[.B3],[.sl false 2 16 []],some (.B3),.slice 138⟩:=by kernel_rfl
theorem Vc:y6 Tryz.prog 134=⟨2,32,[.int .i64 0,.B3],[.int .i64 0,.sl false 2 16 []],some (.agg [.int .i64 0,.B3]),.struct [(0,1,false),(1,1,false)]⟩:=by kernel_rfl
theorem Vd:y6 Tryz.prog 135=⟨2,32,[.int .i64 0,.B3],[.int .i64 0,.sl false 2 16 []],some (.agg [.int .i64 0,.B3]),.struct [(0,1,false),(1,1,false)]⟩:=by kernel_rfl
theorem Ve:y6 Tryz.prog 137=⟨2,16,[.int .i64 0,.int .i64 0],[.int .i64 0,.int .i64 0],some (.agg [.int .i64 0,.int .i64 0]),.struct [(0,1,false),(1,1,false)]⟩:=by kernel_rfl
theorem Vf:y6 Tryz.prog 138=⟨2,16,[.int .i64 0,.int .i64 0],[.int .i64 0,.int .i64 0],some (.agg [.int .i64 0,.int .i64 0]),.struct [(0,1,false),(1,1,false)]⟩:=by kernel_rfl
theorem Vg:y6 Tryz.prog 139=⟨1,8,[.kJ],[.kJ],some (.kJ),.other⟩:=by kernel_rfl
theorem Vh:y6 Tryz.prog 141=⟨1,8,[.kJ],[.kJ],some (.kJ),.other⟩:=by kernel_rfl
theorem Vi:y6 Tryz.prog 146=⟨1,8,[.kJ],[.kJ],some (.kJ),.other⟩:=by kernel_rfl
theorem Vj:y6 Tryz.prog 149=⟨1,0,[.any],[.any],some (.any),.other⟩:=by kernel_rfl
theorem Vk:y6 Tryz.prog 151=⟨1,8,[.int .u64 0],[.int .u64 0],some (.int .u64 0),.int .u64⟩:=by kernel_rfl
theorem Vl:y6 Tryz.prog 156=⟨1,8,[.kJ],[.kJ],some (.kJ),.other⟩:=by kernel_rfl
theorem Vm:y6 Tryz.prog 160=⟨1,24,[.B3],[.sl false 1 1 []],some (.B3),.slice 5⟩:=by kernel_rfl
theorem Vn:y6 Tryz.prog 164=⟨1,8,[.kJ],[.kJ],some (.kJ),.other⟩:=by kernel_rfl
theorem Vo:y6 Tryz.prog 165=⟨1,8,[.kJ],[.kJ],some (.kJ),.other⟩:=by kernel_rfl
theorem Vp:y6 Tryz.prog 168=⟨1,0,[.any],[.any],some (.any),.other⟩:=by kernel_rfl
theorem Vq:y6 Tryz.prog 174=⟨64,64,[.int .u8 0,.int .u8 0,.int .u8 0,.int .u8 0,.int .u8 0,.int .u8 0,.int .u8 0,.int .u8 0,.int .u8 0,.int .u8 0,.int .u8 0,.int .u8 0,.int .u8 0,.int .u8 0,.int .u8 0,.int .u8 0,.int .u8 0,.int .u8 0,.int .u8 0,.int .u8 0,.int .u8 0,.int .u8 0,.int .u8 0,.int .u8 0,.int .u8 0,.int .u8 0,.int .u8 0,.int .u8 0,.int .u8 0,.int .u8 0,.int .u8 0,.int .u8 0,.int .u8 0,.int .u8 0,.int .u8 0,.int .u8 0,.int .u8 0,.int .u8 0,.int .u8 0,.int .u8 0,.int .u8 0,.int .u8 0,.int .u8 0,.int .u8 0,.int .u8 0,.int .u8 0,.int .u8 0,.int .u8 0,.int .u8 0,.int .u8 0,.int .u8 0,.int .u8 0,.int .u8 0,.int .u8 0,.int .u8 0,.int .u8 0,.int .u8 0,.int .u8 0,.int .u8 0,.int .u8 0,.int .u8 0,.int .u8 0,.int .u8 0,.int .u8 0],[.int .u8 0,.int .u8 0,.int .u8 0,.int .u8 0,.int .u8 0,.int .u8 0,.int .u8 0,.int .u8 0,.int .u8 0,.int .u8 0,.int .u8 0,.int .u8 0,.int .u8 0,.int .u8 0,.int .u8 0,.int .u8 0,.int .u8 0,.int .u8 0,.int .u8 0,.int .u8 0,.int .u8 0,.int .u8 0,.int .u8 0,.int .u8 0,.int .u8 0,.int .u8 0,.int .u8 0,.int .u8 0,.int .u8 0,.int .u8 0,.int .u8 0,.int .u8 0,.int .u8 0,.int .u8 0,.int .u8 0,.int .u8 0,.int .u8 0,.int .u8 0,.int .u8 0,.int .u8 0,.int .u8 0,.int .u8 0,.int .u8 0,.int .u8 0,.int .u8 0,.int .u8 0,.int .u8 0,.int .u8 0,.int .u8 0,.int .u8 0,.int .u8 0,.int .u8 0,.int .u8 0,.int .u8 0,.int .u8 0,.int .u8 0,.int .u8 0,.int .u8 0,.int .u8 0,.int .u8 0,.int .u8 0,.int .u8 0,.int .u8 0,.int .u8 0],some (.agg [.int .u8 0,.int .u8 0,.int .u8 0,.int .u8 0,.int .u8 0,.int .u8 0,.int .u8 0,.int .u8 0,.int .u8 0,.int .u8 0,.int .u8 0,.int .u8 0,.int .u8 0,.int .u8 0,.int .u8 0,.int .u8 0,.int .u8 0,.int .u8 0,.int .u8 0,.int .u8 0,.int .u8 0,.int .u8 0,.int .u8 0,.int .u8 0,.int .u8 0,.int .u8 0,.int .u8 0,.int .u8 0,.int .u8 0,.int .u8 0,.int .u8 0,.int .u8 0,.int .u8 0,.int .u8 0,.int .u8 0,.int .u8 0,.int .u8 0,.int .u8 0,.int .u8 0,.int .u8 0,.int .u8 0,.int .u8 0,.int .u8 0,.int .u8 0,.int .u8 0,.int .u8 0,.int .u8 0,.int .u8 0,.int .u8 0,.int .u8 0,.int .u8 0,.int .u8 0,.int .u8 0,.int .u8 0,.int .u8 0,.int .u8 0,.int .u8 0,.int .u8 0,.int .u8 0,.int .u8 0,.int .u8 0,.int .u8 0,.int .u8 0,.int .u8 0]),.arr 64 5⟩:=by kernel_rfl
theorem Vr:y6 Tryz.prog 175=⟨1,8,[.int .u64 0],[.int .u64 0],some (.int .u64 0),.int .u64⟩:=by kernel_rfl
theorem Vs:y6 Tryz.prog 178=⟨1,8,[.kJ],[.kJ],some (.kJ),.other⟩:=by kernel_rfl
theorem Vt:y6 Tryz.prog 179=⟨1,8,[.kJ],[.kJ],some (.kJ),.other⟩:=by kernel_rfl
theorem Vu:y6 Tryz.prog 181=⟨256,256,(List.replicate 256 (.int .u8 0)),[],some (.agg (List.replicate 256 (.int .u8 0))),.arr 256 5⟩:=by kernel_rfl
theorem Vv:y6 Tryz.prog 182=⟨2,2,[.int .u8 0,.int .u8 0],[.int .u8 0,.int .u8 0],some (.agg [.int .u8 0,.int .u8 0]),.struct [(0,1,false),(1,1,false)]⟩:=by kernel_rfl
theorem Vw:y6 Tryz.prog 183=⟨2,2,[.int .u8 0,.int .u8 0],[.int .u8 0,.int .u8 0],some (.agg [.int .u8 0,.int .u8 0]),.struct [(0,1,false),(1,1,false)]⟩:=by kernel_rfl
theorem Vx:y6 Tryz.prog 184=⟨32,32,[.int .u8 0,.int .u8 0,.int .u8 0,.int .u8 0,.int .u8 0,.int .u8 0,.int .u8 0,.int .u8 0,.int .u8 0,.int .u8 0,.int .u8 0,.int .u8 0,.int .u8 0,.int .u8 0,.int .u8 0,.int .u8 0,.int .u8 0,.int .u8 0,.int .u8 0,.int .u8 0,.int .u8 0,.int .u8 0,.int .u8 0,.int .u8 0,.int .u8 0,.int .u8 0,.int .u8 0,.int .u8 0,.int .u8 0,.int .u8 0,.int .u8 0,.int .u8 0],[.int .u8 0,.int .u8 0,.int .u8 0,.int .u8 0,.int .u8 0,.int .u8 0,.int .u8 0,.int .u8 0,.int .u8 0,.int .u8 0,.int .u8 0,.int .u8 0,.int .u8 0,.int .u8 0,.int .u8 0,.int .u8 0,.int .u8 0,.int .u8 0,.int .u8 0,.int .u8 0,.int .u8 0,.int .u8 0,.int .u8 0,.int .u8 0,.int .u8 0,.int .u8 0,.int .u8 0,.int .u8 0,.int .u8 0,.int .u8 0,.int .u8 0,.int .u8 0],some (.agg [.int .u8 0,.int .u8 0,.int .u8 0,.int .u8 0,.int .u8 0,.int .u8 0,.int .u8 0,.int .u8 0,.int .u8 0,.int .u8 0,.int .u8 0,.int .u8 0,.int .u8 0,.int .u8 0,.int .u8 0,.int .u8 0,.int .u8 0,.int .u8 0,.int .u8 0,.int .u8 0,.int .u8 0,.int .u8 0,.int .u8 0,.int .u8 0,.int .u8 0,.int .u8 0,.int .u8 0,.int .u8 0,.int .u8 0,.int .u8 0,.int .u8 0,.int .u8 0]),.arr 16 183⟩:=by kernel_rfl
theorem Vy:y6 Tryz.prog 186=⟨8,112,[.int .i64 0,.str [],.int .i64 0,.str [],.B3,.B3,.int .i64 0,.int .i64 0],[.int .i64 0,.str [],.int .i64 0,.str [],.sl false 2 40 [],.sl false 6 96 [],.int .i64 0,.int .i64 0],some (.agg [.int .i64 0,.str [],.int .i64 0,.str [],.B3,.B3,.int .i64 0,.int .i64 0]),.struct [(0,6,true),(6,1,false),(7,1,false)]⟩:=by kernel_rfl
theorem Vz:y6 Tryz.prog 187=⟨8,112,[.int .i64 0,.str [],.int .i64 0,.str [],.B3,.B3,.int .i64 0,.int .i64 0],[.int .i64 0,.str [],.int .i64 0,.str [],.sl false 2 40 [],.sl false 6 96 [],.int .i64 0,.int .i64 0],some (.agg [.int .i64 0,.str [],.int .i64 0,.str [],.B3,.B3,.int .i64 0,.int .i64 0]),.struct [(0,6,true),(6,1,false),(7,1,false)]⟩:=by kernel_rfl
theorem VA:y6 Tryz.prog 188=⟨1,24,[.B3],[.sl false 8 112 []],some (.B3),.slice 187⟩:=by kernel_rfl
theorem VB:y6 Tryz.prog 193=⟨256,256,(List.replicate 256 (.bool false)),[],some (.agg (List.replicate 256 (.bool false))),.arr 256 4⟩:=by kernel_rfl
theorem VD:y6 Tryz.prog 194=⟨256,256,(List.replicate 256 (.bool false)),[],some (.agg (List.replicate 256 (.bool false))),.arr 256 4⟩:=by kernel_rfl
theorem VE:y6 Tryz.prog 195=⟨1,0,[.any],[.any],some (.any),.other⟩:=by kernel_rfl
theorem VF:y6 Tryz.prog 198=⟨3,48,[.str [],.B3,.int .i64 0],[.str [],.sl false 2 40 [],.int .i64 0],some (.agg [.str [],.B3,.int .i64 0]),.struct [(0,2,true),(2,1,false)]⟩:=by kernel_rfl
theorem VG:y6 Tryz.prog 199=⟨3,48,[.str [],.B3,.int .i64 0],[.str [],.sl false 2 40 [],.int .i64 0],some (.agg [.str [],.B3,.int .i64 0]),.struct [(0,2,true),(2,1,false)]⟩:=by kernel_rfl
theorem VH:y6 Tryz.prog 200=⟨1,24,[.B3],[.sl false 3 48 []],some (.B3),.slice 199⟩:=by kernel_rfl
theorem VI:y6 Tryz.prog 201=⟨1,24,[.B3],[.sl false 7 104 []],some (.B3),.slice 204⟩:=by kernel_rfl
theorem VJ:y6 Tryz.prog 203=⟨7,104,[.int .i64 0,.str [],.str [],.B3,.int .i64 0,.B3,.int .i64 0],[.int .i64 0,.str [],.str [],.sl false 2 40 [],.int .i64 0,.sl false 1 8 [],.int .i64 0],some (.agg [.int .i64 0,.str [],.str [],.B3,.int .i64 0,.B3,.int .i64 0]),.struct [(0,1,false),(1,1,false),(2,2,true),(4,1,false),(5,1,false),(6,1,false)]⟩:=by kernel_rfl
theorem VK:y6 Tryz.prog 204=⟨7,104,[.int .i64 0,.str [],.str [],.B3,.int .i64 0,.B3,.int .i64 0],[.int .i64 0,.str [],.str [],.sl false 2 40 [],.int .i64 0,.sl false 1 8 [],.int .i64 0],some (.agg [.int .i64 0,.str [],.str [],.B3,.int .i64 0,.B3,.int .i64 0]),.struct [(0,1,false),(1,1,false),(2,2,true),(4,1,false),(5,1,false),(6,1,false)]⟩:=by kernel_rfl
theorem VL:y6 Tryz.prog 209=⟨1,8,[.rH],[.rH],some (.rH),.ptr 194⟩:=by kernel_rfl
theorem VN:y6 Tryz.prog 212=⟨4,40,[.rH,.rH,.rH,.str []],[.rH,.rH,.rH,.str []],some (.agg [.rH,.rH,.rH,.str []]),.struct [(0,1,false),(1,1,false),(2,1,false),(3,1,false)]⟩:=by kernel_rfl
theorem VO:y6 Tryz.prog 215=⟨0,0,[],[],some (.agg []),.struct [(0,0,true)]⟩:=by kernel_rfl
theorem VP:y6 Tryz.prog 218=⟨1,4,[.int .u32 0],[.int .u32 0],some (.int .u32 0),.int .u32⟩:=by kernel_rfl
theorem VQ:y6 Tryz.prog 222=⟨1,8,[.rH],[.rH],some (.rH),.ptr 5⟩:=by kernel_rfl
theorem VT:y6 Tryz.prog 225=⟨11,48,[.int .u64 0,.int .u64 0,.int .u32 0,.int .u8 0,.int .u8 0,.int .u8 0,.int .u8 0,.kJ,.rH,.int .i32 0,.int .i32 0],[.int .u64 0,.int .u64 0,.int .u32 0,.int .u8 0,.int .u8 0,.int .u8 0,.int .u8 0,.kJ,.rH,.int .i32 0,.int .i32 0],some (.agg [.int .u64 0,.int .u64 0,.int .u32 0,.int .u8 0,.int .u8 0,.int .u8 0,.int .u8 0,.kJ,.rH,.int .i32 0,.int .i32 0]),.struct [(0,1,false),(1,1,false),(2,1,false),(3,1,false),(4,1,false),(5,1,false),(6,1,false),(7,1,false),(8,1,false),(9,1,false),(10,1,false)]⟩:=by kernel_rfl
theorem fk7:D7 Tryz.prog 7=some [1,1,3,1]:=by kernel_rfl
theorem Xz:D7 Tryz.prog 24=some [0,0]:=by kernel_rfl
theorem XA:D7 Tryz.prog 25=some [0,0]:=by kernel_rfl
theorem XB:D7 Tryz.prog 29=some [0]:=by kernel_rfl
theorem XC:D7 Tryz.prog 30=some [0]:=by kernel_rfl
theorem XD:D7 Tryz.prog 38=some [0,0,0,0]:=by kernel_rfl
theorem XE:D7 Tryz.prog 39=some [0,0,0,0]:=by kernel_rfl
theorem XF:D7 Tryz.prog 40=some [1,1]:=by kernel_rfl
theorem XG:D7 Tryz.prog 41=some [1,1]:=by kernel_rfl
theorem XH:D7 Tryz.prog 62=some [2,0]:=by kernel_rfl
theorem XI:D7 Tryz.prog 63=some [2,0]:=by kernel_rfl
theorem XJ:D7 Tryz.prog 67=some [2,0,1,1,0]:=by kernel_rfl
theorem XK:D7 Tryz.prog 68=some [2,0,1,1,0]:=by kernel_rfl
theorem XL:D7 Tryz.prog 70=some [1,1,0]:=by kernel_rfl
theorem XM:D7 Tryz.prog 71=some [1,1,0]:=by kernel_rfl
theorem XO:D7 Tryz.prog 72=some [1,1,0]:=by kernel_rfl
theorem XP:D7 Tryz.prog 73=some [1,1,0]:=by kernel_rfl
theorem XQ:D7 Tryz.prog 77=some [2,0,1,0]:=by kernel_rfl
theorem XR:D7 Tryz.prog 78=some [2,0,1,0]:=by kernel_rfl
theorem XS:D7 Tryz.prog 80=some [1,1,0]:=by kernel_rfl
theorem XT:D7 Tryz.prog 81=some [1,1,0]:=by kernel_rfl
theorem XU:D7 Tryz.prog 82=some [1,1,0]:=by kernel_rfl
theorem XV:D7 Tryz.prog 83=some [1,1,0]:=by kernel_rfl
theorem VU:D7 Tryz.prog 102=some [2,1,1]:=by kernel_rfl
theorem VW:D7 Tryz.prog 103=some [2,1,1]:=by kernel_rfl
theorem VX:D7 Tryz.prog 115=some [0,0]:=by kernel_rfl
theorem VY:D7 Tryz.prog 116=some [0,0]:=by kernel_rfl
theorem VZ:D7 Tryz.prog 125=some [2,0]:=by kernel_rfl
theorem Wa:D7 Tryz.prog 126=some [2,0]:=by kernel_rfl
theorem Wb:D7 Tryz.prog 134=some [1,0]:=by kernel_rfl
theorem Wc:D7 Tryz.prog 135=some [1,0]:=by kernel_rfl
theorem Wd:D7 Tryz.prog 137=some [1,1]:=by kernel_rfl
theorem Wf:D7 Tryz.prog 138=some [1,1]:=by kernel_rfl
theorem Wg:D7 Tryz.prog 182=some [1,1]:=by kernel_rfl
theorem Wh:D7 Tryz.prog 183=some [1,1]:=by kernel_rfl
attribute [go_sem] ty0 ty2 ty3 ty4 ty5 ty7 ty9 Wv Ww Wx Wy Wz UK WA WB WC WD WE WG WH WI WJ WK WL WM WO WQ WR WS WT WU WV WW WX WY WZ Xa Xb Xc Xd Xe Xf Xg Xh Xi Xj Xk Xl Xm Xn Xo Xp Xq Xr Xt Xu Xv Xw Xx Xy UL Sz UM UN UO UP UQ UR UU UW UY UZ Va Vb SA Vc Vd Ve Vf Vg Vh Vi Vj Vk Vl Vm Vn Vo Vp Vq Vr Vs Vt Vu Vv Vw Vx Vy Vz VA VB VD VE VF VG VH VI VJ VK VL VN VO VP VQ VT fk7 Xz XA XB XC XD XE XF XG XH XI XJ XK XL XM XO XP XQ XR XS XT XU XV VU VW VX VY VZ Wa Wb Wc Wd Wf Wg Wh
end Go.Proofs.YtonfgoanbllceaaGreatDoor
