import Derived.Test.YtfogbhjeihkliaaGreatDoorProg
import Derived.Test.YtfogbhjeihkliaaGreatDoorDXAm3
set_option linter.unusedVariables false
set_option linter.unusedSimpArgs false
namespace Go.Proofs.YtfogbhjeihkliaaGreatDoor
open Go Go.Am
theorem ty0:y5 Tryz.prog 0=⟨1,0,[.any],[.any],some (.any),.other⟩:=by kernel_rfl
theorem ty2:y5 Tryz.prog 2=⟨1,8,[.int .i64 0],[.int .i64 0],some (.int .i64 0),.int .i64⟩:=by kernel_rfl
theorem ty3:y5 Tryz.prog 3=⟨1,8,[.int .i64 0],[.int .i64 0],some (.int .i64 0),.int .i64⟩:=by kernel_rfl
theorem ty4:y5 Tryz.prog 4=⟨1,1,[.bool false],[.bool false],some (.bool false),.bool⟩:=by kernel_rfl
theorem ty5:y5 Tryz.prog 5=⟨1,1,[.int .u8 0],[.int .u8 0],some (.int .u8 0),.int .u8⟩:=by kernel_rfl
theorem ty7:y5 Tryz.prog 7=⟨4,24,[.int .i64 0,.int .i64 0,.bool false,.int .u8 0],[.int .i64 0,.int .i64 0,.bool false,.int .u8 0],some (.agg [.int .i64 0,.int .i64 0,.bool false,.int .u8 0]),.struct [(0,1,false),(1,1,false),(2,1,false),(3,1,false)]⟩:=by kernel_rfl
theorem ty9:y5 Tryz.prog 9=⟨1,16,[.str []],[.str []],some (.str []),.str⟩:=by kernel_rfl
theorem XT:y5 Tryz.prog 12=⟨1,8,[.int .u64 0],[.int .u64 0],some (.int .u64 0),.int .u64⟩:=by kernel_rfl
theorem XU:y5 Tryz.prog 13=⟨2,24,[.str [],.int .u64 0],[.str [],.int .u64 0],some (.agg [.str [],.int .u64 0]),.struct [(0,1,false),(1,1,false)]⟩:=by kernel_rfl
theorem XV:y5 Tryz.prog 18=⟨1,8,[.xg],[.xg],some (.agg [.xg]),.struct [(0,1,false)]⟩:=by kernel_rfl
theorem XW:y5 Tryz.prog 21=⟨1,4,[.int .i32 0],[.int .i32 0],some (.int .i32 0),.int .i32⟩:=by kernel_rfl
theorem XY:y5 Tryz.prog 22=⟨1,24,[.F6],[.sl false 2 40 []],some (.F6),.slice 124⟩:=by kernel_rfl
theorem XZ:y5 Tryz.prog 23=⟨1,24,[.F6],[.sl false 3 32 []],some (.F6),.slice 88⟩:=by kernel_rfl
theorem Ya:y5 Tryz.prog 24=⟨2,48,[.F6,.F6],[.sl false 2 40 [],.sl false 3 32 []],some (.agg [.F6,.F6]),.struct [(0,1,false),(1,1,false)]⟩:=by kernel_rfl
theorem Yb:y5 Tryz.prog 25=⟨2,48,[.F6,.F6],[.sl false 2 40 [],.sl false 3 32 []],some (.agg [.F6,.F6]),.struct [(0,1,false),(1,1,false)]⟩:=by kernel_rfl
theorem Yc:y5 Tryz.prog 26=⟨1,24,[.F6],[.sl false 10 152 []],some (.F6),.slice 95⟩:=by kernel_rfl
theorem Yd:y5 Tryz.prog 27=⟨1,24,[.F6],[.sl false 9 144 []],some (.F6),.slice 98⟩:=by kernel_rfl
theorem Ye:y5 Tryz.prog 28=⟨1,24,[.F6],[.sl false 2 32 []],some (.F6),.slice 127⟩:=by kernel_rfl
theorem Yf:y5 Tryz.prog 29=⟨1,24,[.F6],[.sl false 2 32 []],some (.agg [.F6]),.struct [(0,1,false)]⟩:=by kernel_rfl
theorem Yg:y5 Tryz.prog 30=⟨1,24,[.F6],[.sl false 2 32 []],some (.agg [.F6]),.struct [(0,1,false)]⟩:=by kernel_rfl
theorem Yh:y5 Tryz.prog 31=⟨5,120,[.F6,.F6,.F6,.F6,.F6],[.sl false 2 40 [],.sl false 3 32 [],.sl false 10 152 [],.sl false 9 144 [],.sl false 2 32 []],some (.agg [.F6,.F6,.F6,.F6,.F6]),.struct [(0,2,true),(2,1,false),(3,1,false),(4,1,true)]⟩:=by kernel_rfl
theorem Yi:y5 Tryz.prog 32=⟨5,120,[.F6,.F6,.F6,.F6,.F6],[.sl false 2 40 [],.sl false 3 32 [],.sl false 10 152 [],.sl false 9 144 [],.sl false 2 32 []],some (.agg [.F6,.F6,.F6,.F6,.F6]),.struct [(0,2,true),(2,1,false),(3,1,false),(4,1,true)]⟩:=by kernel_rfl
theorem Yj:y5 Tryz.prog 33=⟨1,24,[.F6],[.sl false 3 40 []],some (.F6),.slice 58⟩:=by kernel_rfl
theorem Yk:y5 Tryz.prog 35=⟨1,24,[.F6],[.sl false 5 40 []],some (.F6),.slice 43⟩:=by kernel_rfl
theorem Yl:y5 Tryz.prog 36=⟨2,16,[.int .i64 0,.int .i64 0],[.int .i64 0,.int .i64 0],some (.agg [.int .i64 0,.int .i64 0]),.struct [(0,1,false),(1,1,false)]⟩:=by kernel_rfl
theorem Ym:y5 Tryz.prog 37=⟨2,16,[.int .i64 0,.int .i64 0],[.int .i64 0,.int .i64 0],some (.agg [.int .i64 0,.int .i64 0]),.struct [(0,1,false),(1,1,false)]⟩:=by kernel_rfl
theorem Yn:y5 Tryz.prog 38=⟨1,0,[.any],[.any],some (.any),.other⟩:=by kernel_rfl
theorem Yo:y5 Tryz.prog 42=⟨5,40,[.int .i64 0,.int .i64 0,.int .i64 0,.int .i64 0,.int .i64 0],[.int .i64 0,.int .i64 0,.int .i64 0,.int .i64 0,.int .i64 0],some (.agg [.int .i64 0,.int .i64 0,.int .i64 0,.int .i64 0,.int .i64 0]),.struct [(0,1,false),(1,1,false),(2,1,false),(3,1,false),(4,1,false)]⟩:=by kernel_rfl
theorem Yp:y5 Tryz.prog 43=⟨5,40,[.int .i64 0,.int .i64 0,.int .i64 0,.int .i64 0,.int .i64 0],[.int .i64 0,.int .i64 0,.int .i64 0,.int .i64 0,.int .i64 0],some (.agg [.int .i64 0,.int .i64 0,.int .i64 0,.int .i64 0,.int .i64 0]),.struct [(0,1,false),(1,1,false),(2,1,false),(3,1,false),(4,1,false)]⟩:=by kernel_rfl
theorem Yq:y5 Tryz.prog 45=⟨1,24,[.F6],[.sl false 6 48 []],some (.F6),.slice 55⟩:=by kernel_rfl
theorem Yr:y5 Tryz.prog 46=⟨1,24,[.F6],[.sl false 1 8 []],some (.F6),.slice 3⟩:=by kernel_rfl
theorem Ys:y5 Tryz.prog 47=⟨1,0,[.any],[.any],some (.any),.other⟩:=by kernel_rfl
theorem Yt:y5 Tryz.prog 52=⟨1,0,[.any],[.any],some (.any),.other⟩:=by kernel_rfl
theorem Yu:y5 Tryz.prog 54=⟨6,48,[.int .i64 0,.int .i64 0,.int .i64 0,.int .i64 0,.int .i64 0,.bool false],[.int .i64 0,.int .i64 0,.int .i64 0,.int .i64 0,.int .i64 0,.bool false],some (.agg [.int .i64 0,.int .i64 0,.int .i64 0,.int .i64 0,.int .i64 0,.bool false]),.struct [(0,5,true),(5,1,false)]⟩:=by kernel_rfl
theorem Yv:y5 Tryz.prog 55=⟨6,48,[.int .i64 0,.int .i64 0,.int .i64 0,.int .i64 0,.int .i64 0,.bool false],[.int .i64 0,.int .i64 0,.int .i64 0,.int .i64 0,.int .i64 0,.bool false],some (.agg [.int .i64 0,.int .i64 0,.int .i64 0,.int .i64 0,.int .i64 0,.bool false]),.struct [(0,5,true),(5,1,false)]⟩:=by kernel_rfl
theorem Yw:y5 Tryz.prog 57=⟨3,40,[.int .i64 0,.int .i64 0,.F6],[.int .i64 0,.int .i64 0,.sl false 3 40 []],some (.agg [.int .i64 0,.int .i64 0,.F6]),.struct [(0,1,false),(1,1,false),(2,1,false)]⟩:=by kernel_rfl
theorem Yx:y5 Tryz.prog 58=⟨3,40,[.int .i64 0,.int .i64 0,.F6],[.int .i64 0,.int .i64 0,.sl false 3 40 []],some (.agg [.int .i64 0,.int .i64 0,.F6]),.struct [(0,1,false),(1,1,false),(2,1,false)]⟩:=by kernel_rfl
theorem Yy:y5 Tryz.prog 60=⟨1,0,[.any],[.any],some (.any),.other⟩:=by kernel_rfl
theorem Yz:y5 Tryz.prog 68=⟨1,24,[.F6],[.sl false 1 24 []],some (.F6),.slice 35⟩:=by kernel_rfl
theorem YA:y5 Tryz.prog 72=⟨1,24,[.F6],[.sl false 1 16 []],some (.F6),.slice 9⟩:=by kernel_rfl
theorem YB:y5 Tryz.prog 81=⟨1,24,[.F6],[.sl false 2 40 []],some (.F6),.slice 83⟩:=by kernel_rfl
theorem YC:y5 Tryz.prog 82=⟨2,40,[.str [],.F6],[.str [],.sl false 2 40 []],some (.agg [.str [],.F6]),.struct [(0,1,false),(1,1,false)]⟩:=by kernel_rfl
theorem YD:y5 Tryz.prog 83=⟨2,40,[.str [],.F6],[.str [],.sl false 2 40 []],some (.agg [.str [],.F6]),.struct [(0,1,false),(1,1,false)]⟩:=by kernel_rfl
theorem YE:y5 Tryz.prog 87=⟨3,32,[.str [],.int .i64 0,.int .i64 0],[.str [],.int .i64 0,.int .i64 0],some (.agg [.str [],.int .i64 0,.int .i64 0]),.struct [(0,1,false),(1,1,false),(2,1,false)]⟩:=by kernel_rfl
theorem YF:y5 Tryz.prog 88=⟨3,32,[.str [],.int .i64 0,.int .i64 0],[.str [],.int .i64 0,.int .i64 0],some (.agg [.str [],.int .i64 0,.int .i64 0]),.struct [(0,1,false),(1,1,false),(2,1,false)]⟩:=by kernel_rfl
theorem YG:y5 Tryz.prog 89=⟨1,24,[.F6],[.sl false 6 96 []],some (.F6),.slice 92⟩:=by kernel_rfl
theorem YH:y5 Tryz.prog 91=⟨6,96,[.int .i64 0,.str [],.int .i64 0,.str [],.F6,.F6],[.int .i64 0,.str [],.int .i64 0,.str [],.sl false 2 40 [],.sl false 6 96 []],some (.agg [.int .i64 0,.str [],.int .i64 0,.str [],.F6,.F6]),.struct [(0,1,false),(1,1,false),(2,1,false),(3,2,true),(5,1,false)]⟩:=by kernel_rfl
theorem YI:y5 Tryz.prog 92=⟨6,96,[.int .i64 0,.str [],.int .i64 0,.str [],.F6,.F6],[.int .i64 0,.str [],.int .i64 0,.str [],.sl false 2 40 [],.sl false 6 96 []],some (.agg [.int .i64 0,.str [],.int .i64 0,.str [],.F6,.F6]),.struct [(0,1,false),(1,1,false),(2,1,false),(3,2,true),(5,1,false)]⟩:=by kernel_rfl
theorem YJ:y5 Tryz.prog 94=⟨10,152,[.str [],.F6,.int .i64 0,.int .i64 0,.int .i64 0,.str [],.int .i64 0,.str [],.F6,.F6],[.str [],.sl false 2 32 [],.int .i64 0,.int .i64 0,.int .i64 0,.str [],.int .i64 0,.str [],.sl false 2 40 [],.sl false 6 96 []],some (.agg [.str [],.F6,.int .i64 0,.int .i64 0,.int .i64 0,.str [],.int .i64 0,.str [],.F6,.F6]),.struct [(0,1,false),(1,1,true),(2,1,false),(3,1,false),(4,6,true)]⟩:=by kernel_rfl
theorem YK:y5 Tryz.prog 95=⟨10,152,[.str [],.F6,.int .i64 0,.int .i64 0,.int .i64 0,.str [],.int .i64 0,.str [],.F6,.F6],[.str [],.sl false 2 32 [],.int .i64 0,.int .i64 0,.int .i64 0,.str [],.int .i64 0,.str [],.sl false 2 40 [],.sl false 6 96 []],some (.agg [.str [],.F6,.int .i64 0,.int .i64 0,.int .i64 0,.str [],.int .i64 0,.str [],.F6,.F6]),.struct [(0,1,false),(1,1,true),(2,1,false),(3,1,false),(4,6,true)]⟩:=by kernel_rfl
theorem YL:y5 Tryz.prog 96=⟨1,24,[.F6],[.sl false 1 24 []],some (.F6),.slice 46⟩:=by kernel_rfl
theorem YM:y5 Tryz.prog 97=⟨9,144,[.str [],.F6,.int .i64 0,.int .i64 0,.str [],.int .i64 0,.str [],.F6,.F6],[.str [],.sl false 2 32 [],.int .i64 0,.int .i64 0,.str [],.int .i64 0,.str [],.sl false 2 40 [],.sl false 6 96 []],some (.agg [.str [],.F6,.int .i64 0,.int .i64 0,.str [],.int .i64 0,.str [],.F6,.F6]),.struct [(0,1,false),(1,1,true),(2,1,false),(3,6,true)]⟩:=by kernel_rfl
theorem YN:y5 Tryz.prog 98=⟨9,144,[.str [],.F6,.int .i64 0,.int .i64 0,.str [],.int .i64 0,.str [],.F6,.F6],[.str [],.sl false 2 32 [],.int .i64 0,.int .i64 0,.str [],.int .i64 0,.str [],.sl false 2 40 [],.sl false 6 96 []],some (.agg [.str [],.F6,.int .i64 0,.int .i64 0,.str [],.int .i64 0,.str [],.F6,.F6]),.struct [(0,1,false),(1,1,true),(2,1,false),(3,6,true)]⟩:=by kernel_rfl
theorem YO:y5 Tryz.prog 99=⟨1,8,[.qI],[.qI],some (.qI),.other⟩:=by kernel_rfl
theorem Wo:y5 Tryz.prog 105=⟨1,0,[.any],[.any],some (.any),.other⟩:=by kernel_rfl
theorem Wp:y5 Tryz.prog 110=⟨1,8,[.qI],[.qI],some (.qI),.other⟩:=by kernel_rfl
theorem Wq:y5 Tryz.prog 118=⟨1,8,[.xg],[.xg],some (.xg),.ptr 3⟩:=by kernel_rfl
theorem Wr:y5 Tryz.prog 120=⟨1,8,[.qI],[.qI],some (.qI),.other⟩:=by kernel_rfl
theorem Ws:y5 Tryz.prog 121=⟨1,0,[.any],[.any],some (.any),.other⟩:=by kernel_rfl
theorem Wt:y5 Tryz.prog 123=⟨2,40,[.str [],.F6],[.str [],.sl false 1 8 []],some (.agg [.str [],.F6]),.struct [(0,1,false),(1,1,false)]⟩:=by kernel_rfl
theorem Wu:y5 Tryz.prog 124=⟨2,40,[.str [],.F6],[.str [],.sl false 1 8 []],some (.agg [.str [],.F6]),.struct [(0,1,false),(1,1,false)]⟩:=by kernel_rfl
theorem Wv:y5 Tryz.prog 125=⟨1,24,[.F6],[.sl false 2 16 []],some (.F6),.slice 129⟩:=by kernel_rfl
theorem Ww:y5 Tryz.prog 126=⟨2,32,[.int .i64 0,.F6],[.int .i64 0,.sl false 2 16 []],some (.agg [.int .i64 0,.F6]),.struct [(0,1,false),(1,1,false)]⟩:=by kernel_rfl
theorem Wx:y5 Tryz.prog 127=⟨2,32,[.int .i64 0,.F6],[.int .i64 0,.sl false 2 16 []],some (.agg [.int .i64 0,.F6]),.struct [(0,1,false),(1,1,false)]⟩:=by kernel_rfl
theorem Wy:y5 Tryz.prog 128=⟨2,16,[.int .i64 0,.int .i64 0],[.int .i64 0,.int .i64 0],some (.agg [.int .i64 0,.int .i64 0]),.struct [(0,1,false),(1,1,false)]⟩:=by kernel_rfl
theorem Wz:y5 Tryz.prog 129=⟨2,16,[.int .i64 0,.int .i64 0],[.int .i64 0,.int .i64 0],some (.agg [.int .i64 0,.int .i64 0]),.struct [(0,1,false),(1,1,false)]⟩:=by kernel_rfl
theorem WA:y5 Tryz.prog 130=⟨1,24,[.F6],[.sl false 1 8 []],some (.F6),.slice 158⟩:=by kernel_rfl
theorem WB:y5 Tryz.prog 131=⟨2,48,[.F6,.F6],[.sl false 1 8 [],.sl false 1 8 []],some (.agg [.F6,.F6]),.struct [(0,1,false),(1,1,false)]⟩:=by kernel_rfl
theorem WC:y5 Tryz.prog 132=⟨2,48,[.F6,.F6],[.sl false 1 8 [],.sl false 1 8 []],some (.agg [.F6,.F6]),.struct [(0,1,false),(1,1,false)]⟩:=by kernel_rfl
theorem WD:y5 Tryz.prog 134=⟨1,8,[.Fj],[.Fj],some (.Fj),.map 9 3⟩:=by kernel_rfl
theorem WE:y5 Tryz.prog 138=⟨1,8,[.qI],[.qI],some (.qI),.other⟩:=by kernel_rfl
theorem WG:y5 Tryz.prog 140=⟨1,8,[.qI],[.qI],some (.qI),.other⟩:=by kernel_rfl
theorem WH:y5 Tryz.prog 144=⟨1,8,[.int .u64 0],[.int .u64 0],some (.int .u64 0),.int .u64⟩:=by kernel_rfl
theorem WI:y5 Tryz.prog 147=⟨1,8,[.qI],[.qI],some (.qI),.other⟩:=by kernel_rfl
theorem WJ:y5 Tryz.prog 150=⟨1,24,[.F6],[.sl false 1 1 []],some (.F6),.slice 5⟩:=by kernel_rfl
theorem WK:y5 Tryz.prog 156=⟨1,0,[.any],[.any],some (.any),.other⟩:=by kernel_rfl
theorem WL:y5 Tryz.prog 158=⟨1,8,[.int .u64 0],[.int .u64 0],some (.int .u64 0),.int .u64⟩:=by kernel_rfl
theorem WM:y5 Tryz.prog 162=⟨1,8,[.int .i64 0],[.int .i64 0],some (.int .i64 0),.int .i64⟩:=by kernel_rfl
theorem WO:y5 Tryz.prog 163=⟨1,0,[.any],[.any],some (.any),.other⟩:=by kernel_rfl
theorem WQ:y5 Tryz.prog 169=⟨1,4,[.int .u32 0],[.int .u32 0],some (.int .u32 0),.int .u32⟩:=by kernel_rfl
theorem WR:y5 Tryz.prog 172=⟨1,24,[.F6],[.sl false 1 24 []],some (.F6),.slice 173⟩:=by kernel_rfl
theorem WS:y5 Tryz.prog 173=⟨1,24,[.F6],[.sl false 1 1 []],some (.F6),.slice 4⟩:=by kernel_rfl
theorem WT:y5 Tryz.prog 176=⟨1,8,[.qI],[.qI],some (.qI),.other⟩:=by kernel_rfl
theorem WU:y5 Tryz.prog 177=⟨1,8,[.qI],[.qI],some (.qI),.other⟩:=by kernel_rfl
theorem WV:y5 Tryz.prog 180=⟨1,0,[.any],[.any],some (.any),.other⟩:=by kernel_rfl
theorem WW:y5 Tryz.prog 183=⟨1,8,[.int .u64 0],[.int .u64 0],some (.int .u64 0),.int .u64⟩:=by kernel_rfl
theorem WX:y5 Tryz.prog 188=⟨8,112,[.int .i64 0,.str [],.int .i64 0,.str [],.F6,.F6,.int .i64 0,.int .i64 0],[.int .i64 0,.str [],.int .i64 0,.str [],.sl false 2 40 [],.sl false 6 96 [],.int .i64 0,.int .i64 0],some (.agg [.int .i64 0,.str [],.int .i64 0,.str [],.F6,.F6,.int .i64 0,.int .i64 0]),.struct [(0,6,true),(6,1,false),(7,1,false)]⟩:=by kernel_rfl
theorem WY:y5 Tryz.prog 189=⟨8,112,[.int .i64 0,.str [],.int .i64 0,.str [],.F6,.F6,.int .i64 0,.int .i64 0],[.int .i64 0,.str [],.int .i64 0,.str [],.sl false 2 40 [],.sl false 6 96 [],.int .i64 0,.int .i64 0],some (.agg [.int .i64 0,.str [],.int .i64 0,.str [],.F6,.F6,.int .i64 0,.int .i64 0]),.struct [(0,6,true),(6,1,false),(7,1,false)]⟩:=by kernel_rfl
theorem WZ:y5 Tryz.prog 190=⟨1,24,[.F6],[.sl false 8 112 []],some (.F6),.slice 189⟩:=by kernel_rfl
theorem Xa:y5 Tryz.prog 193=⟨64,64,[.int .u8 0,.int .u8 0,.int .u8 0,.int .u8 0,.int .u8 0,.int .u8 0,.int .u8 0,.int .u8 0,.int .u8 0,.int .u8 0,.int .u8 0,.int .u8 0,.int .u8 0,.int .u8 0,.int .u8 0,.int .u8 0,.int .u8 0,.int .u8 0,.int .u8 0,.int .u8 0,.int .u8 0,.int .u8 0,.int .u8 0,.int .u8 0,.int .u8 0,.int .u8 0,.int .u8 0,.int .u8 0,.int .u8 0,.int .u8 0,.int .u8 0,.int .u8 0,.int .u8 0,.int .u8 0,.int .u8 0,.int .u8 0,.int .u8 0,.int .u8 0,.int .u8 0,.int .u8 0,.int .u8 0,.int .u8 0,.int .u8 0,.int .u8 0,.int .u8 0,.int .u8 0,.int .u8 0,.int .u8 0,.int .u8 0,.int .u8 0,.int .u8 0,.int .u8 0,.int .u8 0,.int .u8 0,.int .u8 0,.int .u8 0,.int .u8 0,.int .u8 0,.int .u8 0,.int .u8 0,.int .u8 0,.int .u8 0,.int .u8 0,.int .u8 0],[.int .u8 0,.int .u8 0,.int .u8 0,.int .u8 0,.int .u8 0,.int .u8 0,.int .u8 0,.int .u8 0,.int .u8 0,.int .u8 0,.int .u8 0,.int .u8 0,.int .u8 0,.int .u8 0,.int .u8 0,.int .u8 0,.int .u8 0,.int .u8 0,.int .u8 0,.int .u8 0,.int .u8 0,.int .u8 0,.int .u8 0,.int .u8 0,.int .u8 0,.int .u8 0,.int .u8 0,.int .u8 0,.int .u8 0,.int .u8 0,.int .u8 0,.int .u8 0,.int .u8 0,.int .u8 0,.int .u8 0,.int .u8 0,.int .u8 0,.int .u8 0,.int .u8 0,.int .u8 0,.int .u8 0,.int .u8 0,.int .u8 0,.int .u8 0,.int .u8 0,.int .u8 0,.int .u8 0,.int .u8 0,.int .u8 0,.int .u8 0,.int .u8 0,.int .u8 0,.int .u8 0,.int .u8 0,.int .u8 0,.int .u8 0,.int .u8 0,.int .u8 0,.int .u8 0,.int .u8 0,.int .u8 0,.int .u8 0,.int .u8 0,.int .u8 0],some (.agg [.int .u8 0,.int .u8 0,.int .u8 0,.int .u8 0,.int .u8 0,.int .u8 0,.int .u8 0,.int .u8 0,.int .u8 0,.int .u8 0,.int .u8 0,.int .u8 0,.int .u8 0,.int .u8 0,.int .u8 0,.int .u8 0,.int .u8 0,.int .u8 0,.int .u8 0,.int .u8 0,.int .u8 0,.int .u8 0,.int .u8 0,.int .u8 0,.int .u8 0,.int .u8 0,.int .u8 0,.int .u8 0,.int .u8 0,.int .u8 0,.int .u8 0,.int .u8 0,.int .u8 0,.int .u8 0,.int .u8 0,.int .u8 0,.int .u8 0,.int .u8 0,.int .u8 0,.int .u8 0,.int .u8 0,.int .u8 0,.int .u8 0,.int .u8 0,.int .u8 0,.int .u8 0,.int .u8 0,.int .u8 0,.int .u8 0,.int .u8 0,.int .u8 0,.int .u8 0,.int .u8 0,.int .u8 0,.int .u8 0,.int .u8 0,.int .u8 0,.int .u8 0,.int .u8 0,.int .u8 0,.int .u8 0,.int .u8 0,.int .u8 0,.int .u8 0]),.arr 64 5⟩:=by kernel_rfl
theorem Xb:y5 Tryz.prog 195=⟨1,8,[.qI],[.qI],some (.qI),.other⟩:=by kernel_rfl
theorem Xc:y5 Tryz.prog 196=⟨1,8,[.qI],[.qI],some (.qI),.other⟩:=by kernel_rfl
theorem Xd:y5 Tryz.prog 199=⟨256,256,(List.replicate 256 (.int .u8 0)),[],some (.agg (List.replicate 256 (.int .u8 0))),.arr 256 5⟩:=by kernel_rfl
theorem Xe:y5 Tryz.prog 200=⟨2,2,[.int .u8 0,.int .u8 0],[.int .u8 0,.int .u8 0],some (.agg [.int .u8 0,.int .u8 0]),.struct [(0,1,false),(1,1,false)]⟩:=by kernel_rfl
theorem Xf:y5 Tryz.prog 201=⟨2,2,[.int .u8 0,.int .u8 0],[.int .u8 0,.int .u8 0],some (.agg [.int .u8 0,.int .u8 0]),.struct [(0,1,false),(1,1,false)]⟩:=by kernel_rfl
theorem Xg:y5 Tryz.prog 202=⟨32,32,[.int .u8 0,.int .u8 0,.int .u8 0,.int .u8 0,.int .u8 0,.int .u8 0,.int .u8 0,.int .u8 0,.int .u8 0,.int .u8 0,.int .u8 0,.int .u8 0,.int .u8 0,.int .u8 0,.int .u8 0,.int .u8 0,.int .u8 0,.int .u8 0,.int .u8 0,.int .u8 0,.int .u8 0,.int .u8 0,.int .u8 0,.int .u8 0,.int .u8 0,.int .u8 0,.int .u8 0,.int .u8 0,.int .u8 0,.int .u8 0,.int .u8 0,.int .u8 0],[.int .u8 0,.int .u8 0,.int .u8 0,.int .u8 0,.int .u8 0,.int .u8 0,.int .u8 0,.int .u8 0,.int .u8 0,.int .u8 0,.int .u8 0,.int .u8 0,.int .u8 0,.int .u8 0,.int .u8 0,.int .u8 0,.int .u8 0,.int .u8 0,.int .u8 0,.int .u8 0,.int .u8 0,.int .u8 0,.int .u8 0,.int .u8 0,.int .u8 0,.int .u8 0,.int .u8 0,.int .u8 0,.int .u8 0,.int .u8 0,.int .u8 0,.int .u8 0],some (.agg [.int .u8 0,.int .u8 0,.int .u8 0,.int .u8 0,.int .u8 0,.int .u8 0,.int .u8 0,.int .u8 0,.int .u8 0,.int .u8 0,.int .u8 0,.int .u8 0,.int .u8 0,.int .u8 0,.int .u8 0,.int .u8 0,.int .u8 0,.int .u8 0,.int .u8 0,.int .u8 0,.int .u8 0,.int .u8 0,.int .u8 0,.int .u8 0,.int .u8 0,.int .u8 0,.int .u8 0,.int .u8 0,.int .u8 0,.int .u8 0,.int .u8 0,.int .u8 0]),.arr 16 201⟩:=by kernel_rfl
theorem Xh:y5 Tryz.prog 204=⟨1,8,[.xg],[.xg],some (.xg),.ptr 183⟩:=by kernel_rfl
theorem Xi:y5 Tryz.prog 205=⟨1,0,[.any],[.any],some (.any),.other⟩:=by kernel_rfl
theorem Xj:y5 Tryz.prog 207=⟨3,48,[.str [],.F6,.int .i64 0],[.str [],.sl false 2 40 [],.int .i64 0],some (.agg [.str [],.F6,.int .i64 0]),.struct [(0,2,true),(2,1,false)]⟩:=by kernel_rfl
theorem Xk:y5 Tryz.prog 208=⟨3,48,[.str [],.F6,.int .i64 0],[.str [],.sl false 2 40 [],.int .i64 0],some (.agg [.str [],.F6,.int .i64 0]),.struct [(0,2,true),(2,1,false)]⟩:=by kernel_rfl
theorem Xl:y5 Tryz.prog 209=⟨1,24,[.F6],[.sl false 3 48 []],some (.F6),.slice 208⟩:=by kernel_rfl
theorem Xm:y5 Tryz.prog 210=⟨1,24,[.F6],[.sl false 7 104 []],some (.F6),.slice 213⟩:=by kernel_rfl
theorem Xn:y5 Tryz.prog 212=⟨7,104,[.int .i64 0,.str [],.str [],.F6,.int .i64 0,.F6,.int .i64 0],[.int .i64 0,.str [],.str [],.sl false 2 40 [],.int .i64 0,.sl false 1 8 [],.int .i64 0],some (.agg [.int .i64 0,.str [],.str [],.F6,.int .i64 0,.F6,.int .i64 0]),.struct [(0,1,false),(1,1,false),(2,2,true),(4,1,false),(5,1,false),(6,1,false)]⟩:=by kernel_rfl
theorem Xo:y5 Tryz.prog 213=⟨7,104,[.int .i64 0,.str [],.str [],.F6,.int .i64 0,.F6,.int .i64 0],[.int .i64 0,.str [],.str [],.sl false 2 40 [],.int .i64 0,.sl false 1 8 [],.int .i64 0],some (.agg [.int .i64 0,.str [],.str [],.F6,.int .i64 0,.F6,.int .i64 0]),.struct [(0,1,false),(1,1,false),(2,2,true),(4,1,false),(5,1,false),(6,1,false)]⟩:=by kernel_rfl
theorem Xp:y5 Tryz.prog 216=⟨256,256,(List.replicate 256 (.bool false)),[],some (.agg (List.replicate 256 (.bool false))),.arr 256 4⟩:=by kernel_rfl
theorem Xq:y5 Tryz.prog 217=⟨256,256,(List.replicate 256 (.bool false)),[],some (.agg (List.replicate 256 (.bool false))),.arr 256 4⟩:=by kernel_rfl
theorem Xr:y5 Tryz.prog 218=⟨1,0,[.any],[.any],some (.any),.other⟩:=by kernel_rfl
theorem Xt:y5 Tryz.prog 225=⟨1,8,[.xg],[.xg],some (.xg),.ptr 217⟩:=by kernel_rfl
theorem Xu:y5 Tryz.prog 236=⟨1,8,[.xg],[.xg],some (.xg),.ptr 5⟩:=by kernel_rfl
theorem fk7:E9 Tryz.prog 7=some [1,1,3,1]:=by kernel_rfl
theorem YP:E9 Tryz.prog 24=some [0,0]:=by kernel_rfl
theorem YQ:E9 Tryz.prog 25=some [0,0]:=by kernel_rfl
theorem YR:E9 Tryz.prog 29=some [0]:=by kernel_rfl
theorem YS:E9 Tryz.prog 30=some [0]:=by kernel_rfl
theorem YT:E9 Tryz.prog 36=some [1,1]:=by kernel_rfl
theorem YU:E9 Tryz.prog 37=some [1,1]:=by kernel_rfl
theorem YV:E9 Tryz.prog 42=some [1,1,1,1,1]:=by kernel_rfl
theorem YW:E9 Tryz.prog 43=some [1,1,1,1,1]:=by kernel_rfl
theorem YX:E9 Tryz.prog 54=some [1,1,1,1,1,3]:=by kernel_rfl
theorem YZ:E9 Tryz.prog 55=some [1,1,1,1,1,3]:=by kernel_rfl
theorem Za:E9 Tryz.prog 57=some [1,1,0]:=by kernel_rfl
theorem Zb:E9 Tryz.prog 58=some [1,1,0]:=by kernel_rfl
theorem Zc:E9 Tryz.prog 82=some [2,0]:=by kernel_rfl
theorem Zd:E9 Tryz.prog 83=some [2,0]:=by kernel_rfl
theorem Ze:E9 Tryz.prog 87=some [2,1,1]:=by kernel_rfl
theorem Zf:E9 Tryz.prog 88=some [2,1,1]:=by kernel_rfl
theorem Zg:E9 Tryz.prog 94=some [2,0,1,1,0]:=by kernel_rfl
theorem Zh:E9 Tryz.prog 95=some [2,0,1,1,0]:=by kernel_rfl
theorem Zi:E9 Tryz.prog 97=some [2,0,1,0]:=by kernel_rfl
theorem Zj:E9 Tryz.prog 98=some [2,0,1,0]:=by kernel_rfl
theorem Xv:E9 Tryz.prog 123=some [2,0]:=by kernel_rfl
theorem Xw:E9 Tryz.prog 124=some [2,0]:=by kernel_rfl
theorem Xx:E9 Tryz.prog 126=some [1,0]:=by kernel_rfl
theorem Xy:E9 Tryz.prog 127=some [1,0]:=by kernel_rfl
theorem Xz:E9 Tryz.prog 128=some [1,1]:=by kernel_rfl
theorem XA:E9 Tryz.prog 129=some [1,1]:=by kernel_rfl
theorem XB:E9 Tryz.prog 131=some [0,0]:=by kernel_rfl
theorem XC:E9 Tryz.prog 132=some [0,0]:=by kernel_rfl
theorem XD:E9 Tryz.prog 200=some [1,1]:=by kernel_rfl
theorem XE:E9 Tryz.prog 201=some [1,1]:=by kernel_rfl
attribute [go_sem] ty0 ty2 ty3 ty4 ty5 ty7 ty9 XT XU XV XW XY XZ Ya Yb Yc Yd Ye Yf Yg Yh Yi Yj Yk Yl Ym Yn Yo Yp Yq Yr Ys Yt Yu Yv Yw Yx Yy Yz YA YB YC YD YE YF YG YH YI YJ YK YL YM YN YO Wo Wp Wq Wr Ws Wt Wu Wv Ww Wx Wy Wz WA WB WC WD WE WG WH WI WJ WK WL WM WO WQ WR WS WT WU WV WW WX WY WZ Xa Xb Xc Xd Xe Xf Xg Xh Xi Xj Xk Xl Xm Xn Xo Xp Xq Xr Xt Xu fk7 YP YQ YR YS YT YU YV YW YX YZ Za Zb Zc Zd Ze Zf Zg Zh Zi Zj Xv Xw Xx Xy Xz XA XB XC XD XE
end Go.Proofs.YtfogbhjeihkliaaGreatDoor
