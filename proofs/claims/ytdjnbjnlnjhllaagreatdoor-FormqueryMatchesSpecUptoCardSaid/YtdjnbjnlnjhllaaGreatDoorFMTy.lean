import Derived.Test.YtdjnbjnlnjhllaaGreatDoorProg
import Derived.Test.YtdjnbjnlnjhllaaGreatDoorFMAm3
set_option linter.unusedVariables false
set_option linter.unusedSimpArgs false
namespace Go.Proofs.YtdjnbjnlnjhllaaGreatDoor
open Go Go.Am
theorem ty0:i8L Tryz.prog 0=⟨1,0,[.any],[.any],some (.any),.other⟩:=by kernel_rfl
theorem ty2:i8L Tryz.prog 2=⟨1,8,[.int .i64 0],[.int .i64 0],some (.int .i64 0),.int .i64⟩:=by kernel_rfl
theorem ty3:i8L Tryz.prog 3=⟨1,8,[.int .i64 0],[.int .i64 0],some (.int .i64 0),.int .i64⟩:=by kernel_rfl
theorem ty4:i8L Tryz.prog 4=⟨1,1,[.bool false],[.bool false],some (.bool false),.bool⟩:=by kernel_rfl
theorem ty5:i8L Tryz.prog 5=⟨1,1,[.int .u8 0],[.int .u8 0],some (.int .u8 0),.int .u8⟩:=by kernel_rfl
theorem ty7:i8L Tryz.prog 7=⟨4,24,[.int .i64 0,.int .i64 0,.bool false,.int .u8 0],[.int .i64 0,.int .i64 0,.bool false,.int .u8 0],some (.agg [.int .i64 0,.int .i64 0,.bool false,.int .u8 0]),.struct [(0,1,false),(1,1,false),(2,1,false),(3,1,false)]⟩:=by kernel_rfl
theorem ty9:i8L Tryz.prog 9=⟨1,16,[.str []],[.str []],some (.str []),.str⟩:=by kernel_rfl
theorem w2Y:i8L Tryz.prog 12=⟨1,8,[.int .u64 0],[.int .u64 0],some (.int .u64 0),.int .u64⟩:=by kernel_rfl
theorem w2Z:i8L Tryz.prog 13=⟨2,24,[.str [],.int .u64 0],[.str [],.int .u64 0],some (.agg [.str [],.int .u64 0]),.struct [(0,1,false),(1,1,false)]⟩:=by kernel_rfl
theorem w3a:i8L Tryz.prog 18=⟨1,8,[.p9S],[.p9S],some (.agg [.p9S]),.struct [(0,1,false)]⟩:=by kernel_rfl
theorem w3b:i8L Tryz.prog 21=⟨1,4,[.int .i32 0],[.int .i32 0],some (.int .i32 0),.int .i32⟩:=by kernel_rfl
theorem w0M:i8L Tryz.prog 22=⟨1,24,[.i8S],[.sl false 1 16 []],some (.i8S),.slice 9⟩:=by kernel_rfl
theorem w3c:i8L Tryz.prog 23=⟨1,24,[.i8S],[.sl false 4 72 []],some (.i8S),.slice 25⟩:=by kernel_rfl
theorem w3d:i8L Tryz.prog 24=⟨4,72,[.int .i64 0,.str [],.i8S,.i8S],[.int .i64 0,.str [],.sl false 1 16 [],.sl false 4 72 []],some (.agg [.int .i64 0,.str [],.i8S,.i8S]),.struct [(0,1,false),(1,1,false),(2,1,false),(3,1,false)]⟩:=by kernel_rfl
theorem w3e:i8L Tryz.prog 25=⟨4,72,[.int .i64 0,.str [],.i8S,.i8S],[.int .i64 0,.str [],.sl false 1 16 [],.sl false 4 72 []],some (.agg [.int .i64 0,.str [],.i8S,.i8S]),.struct [(0,1,false),(1,1,false),(2,1,false),(3,1,false)]⟩:=by kernel_rfl
theorem w3f:i8L Tryz.prog 26=⟨7,144,[.int .i64 0,.str [],.i8S,.i8S,.i8S,.i8S,.i8S],[.int .i64 0,.str [],.sl false 1 16 [],.sl false 4 72 [],.sl false 1 16 [],.sl false 1 16 [],.sl false 1 16 []],some (.agg [.int .i64 0,.str [],.i8S,.i8S,.i8S,.i8S,.i8S]),.struct [(0,4,true),(4,1,false),(5,1,false),(6,1,false)]⟩:=by kernel_rfl
theorem w3g:i8L Tryz.prog 27=⟨7,144,[.int .i64 0,.str [],.i8S,.i8S,.i8S,.i8S,.i8S],[.int .i64 0,.str [],.sl false 1 16 [],.sl false 4 72 [],.sl false 1 16 [],.sl false 1 16 [],.sl false 1 16 []],some (.agg [.int .i64 0,.str [],.i8S,.i8S,.i8S,.i8S,.i8S]),.struct [(0,4,true),(4,1,false),(5,1,false),(6,1,false)]⟩:=by kernel_rfl
theorem w3h:i8L Tryz.prog 29=⟨1,24,[.i8S],[.sl false 6 104 []],some (.i8S),.slice 61⟩:=by kernel_rfl
theorem w3i:i8L Tryz.prog 30=⟨2,16,[.int .i64 0,.int .i64 0],[.int .i64 0,.int .i64 0],some (.agg [.int .i64 0,.int .i64 0]),.struct [(0,1,false),(1,1,false)]⟩:=by kernel_rfl
theorem w3j:i8L Tryz.prog 31=⟨2,16,[.int .i64 0,.int .i64 0],[.int .i64 0,.int .i64 0],some (.agg [.int .i64 0,.int .i64 0]),.struct [(0,1,false),(1,1,false)]⟩:=by kernel_rfl
theorem w3k:i8L Tryz.prog 32=⟨1,0,[.any],[.any],some (.any),.other⟩:=by kernel_rfl
theorem w3l:i8L Tryz.prog 34=⟨1,24,[.i8S],[.sl false 2 32 []],some (.i8S),.slice 46⟩:=by kernel_rfl
theorem w3m:i8L Tryz.prog 35=⟨1,0,[.any],[.any],some (.any),.other⟩:=by kernel_rfl
theorem w3n:i8L Tryz.prog 39=⟨1,24,[.i8S],[.sl false 5 80 []],some (.i8S),.slice 67⟩:=by kernel_rfl
theorem w3o:i8L Tryz.prog 42=⟨1,0,[.any],[.any],some (.any),.other⟩:=by kernel_rfl
theorem w3p:i8L Tryz.prog 45=⟨2,32,[.int .i64 0,.i8S],[.int .i64 0,.sl false 6 104 []],some (.agg [.int .i64 0,.i8S]),.struct [(0,1,false),(1,1,false)]⟩:=by kernel_rfl
theorem w3q:i8L Tryz.prog 46=⟨2,32,[.int .i64 0,.i8S],[.int .i64 0,.sl false 6 104 []],some (.agg [.int .i64 0,.i8S]),.struct [(0,1,false),(1,1,false)]⟩:=by kernel_rfl
theorem w3r:i8L Tryz.prog 48=⟨1,0,[.any],[.any],some (.any),.other⟩:=by kernel_rfl
theorem w3s:i8L Tryz.prog 60=⟨6,104,[.str [],.str [],.int .i64 0,.str [],.i8S,.i8S],[.str [],.str [],.int .i64 0,.str [],.sl false 1 16 [],.sl false 4 72 []],some (.agg [.str [],.str [],.int .i64 0,.str [],.i8S,.i8S]),.struct [(0,1,false),(1,1,false),(2,4,true)]⟩:=by kernel_rfl
theorem w3t:i8L Tryz.prog 61=⟨6,104,[.str [],.str [],.int .i64 0,.str [],.i8S,.i8S],[.str [],.str [],.int .i64 0,.str [],.sl false 1 16 [],.sl false 4 72 []],some (.agg [.str [],.str [],.int .i64 0,.str [],.i8S,.i8S]),.struct [(0,1,false),(1,1,false),(2,4,true)]⟩:=by kernel_rfl
theorem w3u:i8L Tryz.prog 63=⟨1,8,[.p9T],[.p9T],some (.p9T),.other⟩:=by kernel_rfl
theorem w3v:i8L Tryz.prog 65=⟨1,24,[.i8S],[.sl false 1 1 []],some (.i8S),.slice 4⟩:=by kernel_rfl
theorem w3w:i8L Tryz.prog 66=⟨5,80,[.int .i64 0,.str [],.i8S,.i8S,.int .i64 0],[.int .i64 0,.str [],.sl false 1 16 [],.sl false 1 1 [],.int .i64 0],some (.agg [.int .i64 0,.str [],.i8S,.i8S,.int .i64 0]),.struct [(0,1,false),(1,1,false),(2,1,false),(3,1,false),(4,1,false)]⟩:=by kernel_rfl
theorem w3x:i8L Tryz.prog 67=⟨5,80,[.int .i64 0,.str [],.i8S,.i8S,.int .i64 0],[.int .i64 0,.str [],.sl false 1 16 [],.sl false 1 1 [],.int .i64 0],some (.agg [.int .i64 0,.str [],.i8S,.i8S,.int .i64 0]),.struct [(0,1,false),(1,1,false),(2,1,false),(3,1,false),(4,1,false)]⟩:=by kernel_rfl
theorem w3y:i8L Tryz.prog 71=⟨1,24,[.i8S],[.sl false 1 8 []],some (.i8S),.slice 3⟩:=by kernel_rfl
theorem w3z:i8L Tryz.prog 72=⟨1,0,[.any],[.any],some (.any),.other⟩:=by kernel_rfl
theorem w3A:i8L Tryz.prog 79=⟨1,0,[.any],[.any],some (.any),.other⟩:=by kernel_rfl
theorem w3B:i8L Tryz.prog 83=⟨1,0,[.any],[.any],some (.any),.other⟩:=by kernel_rfl
theorem w3C:i8L Tryz.prog 87=⟨1,0,[.any],[.any],some (.any),.other⟩:=by kernel_rfl
theorem w3D:i8L Tryz.prog 89=⟨1,8,[.r5t],[.r5t],some (.r5t),.map 9 61⟩:=by kernel_rfl
theorem w3E:i8L Tryz.prog 90=⟨1,8,[.r5t],[.r5t],some (.r5t),.map 9 61⟩:=by kernel_rfl
theorem w3F:i8L Tryz.prog 94=⟨5,80,[.int .i64 0,.str [],.i8S,.i8S,.int .i64 0],[.int .i64 0,.str [],.sl false 1 16 [],.sl false 4 72 [],.int .i64 0],some (.agg [.int .i64 0,.str [],.i8S,.i8S,.int .i64 0]),.struct [(0,4,true),(4,1,false)]⟩:=by kernel_rfl
theorem w3G:i8L Tryz.prog 95=⟨5,80,[.int .i64 0,.str [],.i8S,.i8S,.int .i64 0],[.int .i64 0,.str [],.sl false 1 16 [],.sl false 4 72 [],.int .i64 0],some (.agg [.int .i64 0,.str [],.i8S,.i8S,.int .i64 0]),.struct [(0,4,true),(4,1,false)]⟩:=by kernel_rfl
theorem w3H:i8L Tryz.prog 96=⟨1,24,[.i8S],[.sl false 5 80 []],some (.i8S),.slice 95⟩:=by kernel_rfl
theorem w3I:i8L Tryz.prog 98=⟨1,8,[.p9S],[.p9S],some (.p9S),.ptr 3⟩:=by kernel_rfl
theorem w2h:i8L Tryz.prog 101=⟨1,24,[.i8S],[.sl false 1 24 []],some (.i8S),.slice 22⟩:=by kernel_rfl
theorem w2i:i8L Tryz.prog 103=⟨1,8,[.p9T],[.p9T],some (.p9T),.other⟩:=by kernel_rfl
theorem w2j:i8L Tryz.prog 105=⟨1,8,[.p9T],[.p9T],some (.p9T),.other⟩:=by kernel_rfl
theorem w2k:i8L Tryz.prog 106=⟨1,8,[.p9T],[.p9T],some (.p9T),.other⟩:=by kernel_rfl
theorem w2l:i8L Tryz.prog 107=⟨1,8,[.p9T],[.p9T],some (.p9T),.other⟩:=by kernel_rfl
theorem w2m:i8L Tryz.prog 108=⟨1,8,[.p9T],[.p9T],some (.p9T),.other⟩:=by kernel_rfl
theorem w2n:i8L Tryz.prog 109=⟨1,0,[.any],[.any],some (.any),.other⟩:=by kernel_rfl
theorem w2o:i8L Tryz.prog 111=⟨1,24,[.i8S],[.sl false 2 32 []],some (.i8S),.slice 113⟩:=by kernel_rfl
theorem w2p:i8L Tryz.prog 112=⟨2,32,[.str [],.str []],[.str [],.str []],some (.agg [.str [],.str []]),.struct [(0,1,false),(1,1,false)]⟩:=by kernel_rfl
theorem w2q:i8L Tryz.prog 113=⟨2,32,[.str [],.str []],[.str [],.str []],some (.agg [.str [],.str []]),.struct [(0,1,false),(1,1,false)]⟩:=by kernel_rfl
theorem w2r:i8L Tryz.prog 114=⟨1,8,[.p9T],[.p9T],some (.p9T),.other⟩:=by kernel_rfl
theorem w2s:i8L Tryz.prog 117=⟨1,24,[.i8S],[.sl false 1 1 []],some (.i8S),.slice 5⟩:=by kernel_rfl
theorem w2t:i8L Tryz.prog 120=⟨1,8,[.int .u64 0],[.int .u64 0],some (.int .u64 0),.int .u64⟩:=by kernel_rfl
theorem w2u:i8L Tryz.prog 123=⟨1,8,[.int .i64 0],[.int .i64 0],some (.int .i64 0),.int .i64⟩:=by kernel_rfl
theorem w2v:i8L Tryz.prog 124=⟨1,0,[.any],[.any],some (.any),.other⟩:=by kernel_rfl
theorem w2w:i8L Tryz.prog 128=⟨1,0,[.any],[.any],some (.any),.other⟩:=by kernel_rfl
theorem w2x:i8L Tryz.prog 131=⟨1,4,[.int .u32 0],[.int .u32 0],some (.int .u32 0),.int .u32⟩:=by kernel_rfl
theorem w2y:i8L Tryz.prog 133=⟨1,8,[.int .u64 0],[.int .u64 0],some (.int .u64 0),.int .u64⟩:=by kernel_rfl
theorem w2z:i8L Tryz.prog 135=⟨1,8,[.int .u64 0],[.int .u64 0],some (.int .u64 0),.int .u64⟩:=by kernel_rfl
theorem w2A:i8L Tryz.prog 140=⟨24,24,[.int .u8 0,.int .u8 0,.int .u8 0,.int .u8 0,.int .u8 0,.int .u8 0,.int .u8 0,.int .u8 0,.int .u8 0,.int .u8 0,.int .u8 0,.int .u8 0,.int .u8 0,.int .u8 0,.int .u8 0,.int .u8 0,.int .u8 0,.int .u8 0,.int .u8 0,.int .u8 0,.int .u8 0,.int .u8 0,.int .u8 0,.int .u8 0],[.int .u8 0,.int .u8 0,.int .u8 0,.int .u8 0,.int .u8 0,.int .u8 0,.int .u8 0,.int .u8 0,.int .u8 0,.int .u8 0,.int .u8 0,.int .u8 0,.int .u8 0,.int .u8 0,.int .u8 0,.int .u8 0,.int .u8 0,.int .u8 0,.int .u8 0,.int .u8 0,.int .u8 0,.int .u8 0,.int .u8 0,.int .u8 0],some (.agg [.int .u8 0,.int .u8 0,.int .u8 0,.int .u8 0,.int .u8 0,.int .u8 0,.int .u8 0,.int .u8 0,.int .u8 0,.int .u8 0,.int .u8 0,.int .u8 0,.int .u8 0,.int .u8 0,.int .u8 0,.int .u8 0,.int .u8 0,.int .u8 0,.int .u8 0,.int .u8 0,.int .u8 0,.int .u8 0,.int .u8 0,.int .u8 0]),.arr 24 5⟩:=by kernel_rfl
theorem w2B:i8L Tryz.prog 142=⟨1,0,[.any],[.any],some (.any),.other⟩:=by kernel_rfl
theorem w2C:i8L Tryz.prog 144=⟨1,8,[.p9S],[.p9S],some (.p9S),.ptr 135⟩:=by kernel_rfl
theorem w2D:i8L Tryz.prog 147=⟨20,160,[.int .u64 0,.int .u64 0,.int .u64 0,.int .u64 0,.int .u64 0,.int .u64 0,.int .u64 0,.int .u64 0,.int .u64 0,.int .u64 0,.int .u64 0,.int .u64 0,.int .u64 0,.int .u64 0,.int .u64 0,.int .u64 0,.int .u64 0,.int .u64 0,.int .u64 0,.int .u64 0],[.int .u64 0,.int .u64 0,.int .u64 0,.int .u64 0,.int .u64 0,.int .u64 0,.int .u64 0,.int .u64 0,.int .u64 0,.int .u64 0,.int .u64 0,.int .u64 0,.int .u64 0,.int .u64 0,.int .u64 0,.int .u64 0,.int .u64 0,.int .u64 0,.int .u64 0,.int .u64 0],some (.agg [.int .u64 0,.int .u64 0,.int .u64 0,.int .u64 0,.int .u64 0,.int .u64 0,.int .u64 0,.int .u64 0,.int .u64 0,.int .u64 0,.int .u64 0,.int .u64 0,.int .u64 0,.int .u64 0,.int .u64 0,.int .u64 0,.int .u64 0,.int .u64 0,.int .u64 0,.int .u64 0]),.arr 20 133⟩:=by kernel_rfl
theorem w2E:i8L Tryz.prog 148=⟨65,65,[.int .u8 0,.int .u8 0,.int .u8 0,.int .u8 0,.int .u8 0,.int .u8 0,.int .u8 0,.int .u8 0,.int .u8 0,.int .u8 0,.int .u8 0,.int .u8 0,.int .u8 0,.int .u8 0,.int .u8 0,.int .u8 0,.int .u8 0,.int .u8 0,.int .u8 0,.int .u8 0,.int .u8 0,.int .u8 0,.int .u8 0,.int .u8 0,.int .u8 0,.int .u8 0,.int .u8 0,.int .u8 0,.int .u8 0,.int .u8 0,.int .u8 0,.int .u8 0,.int .u8 0,.int .u8 0,.int .u8 0,.int .u8 0,.int .u8 0,.int .u8 0,.int .u8 0,.int .u8 0,.int .u8 0,.int .u8 0,.int .u8 0,.int .u8 0,.int .u8 0,.int .u8 0,.int .u8 0,.int .u8 0,.int .u8 0,.int .u8 0,.int .u8 0,.int .u8 0,.int .u8 0,.int .u8 0,.int .u8 0,.int .u8 0,.int .u8 0,.int .u8 0,.int .u8 0,.int .u8 0,.int .u8 0,.int .u8 0,.int .u8 0,.int .u8 0,.int .u8 0],[],some (.agg [.int .u8 0,.int .u8 0,.int .u8 0,.int .u8 0,.int .u8 0,.int .u8 0,.int .u8 0,.int .u8 0,.int .u8 0,.int .u8 0,.int .u8 0,.int .u8 0,.int .u8 0,.int .u8 0,.int .u8 0,.int .u8 0,.int .u8 0,.int .u8 0,.int .u8 0,.int .u8 0,.int .u8 0,.int .u8 0,.int .u8 0,.int .u8 0,.int .u8 0,.int .u8 0,.int .u8 0,.int .u8 0,.int .u8 0,.int .u8 0,.int .u8 0,.int .u8 0,.int .u8 0,.int .u8 0,.int .u8 0,.int .u8 0,.int .u8 0,.int .u8 0,.int .u8 0,.int .u8 0,.int .u8 0,.int .u8 0,.int .u8 0,.int .u8 0,.int .u8 0,.int .u8 0,.int .u8 0,.int .u8 0,.int .u8 0,.int .u8 0,.int .u8 0,.int .u8 0,.int .u8 0,.int .u8 0,.int .u8 0,.int .u8 0,.int .u8 0,.int .u8 0,.int .u8 0,.int .u8 0,.int .u8 0,.int .u8 0,.int .u8 0,.int .u8 0,.int .u8 0]),.arr 65 5⟩:=by kernel_rfl
theorem w2F:i8L Tryz.prog 150=⟨32,32,[.int .u8 0,.int .u8 0,.int .u8 0,.int .u8 0,.int .u8 0,.int .u8 0,.int .u8 0,.int .u8 0,.int .u8 0,.int .u8 0,.int .u8 0,.int .u8 0,.int .u8 0,.int .u8 0,.int .u8 0,.int .u8 0,.int .u8 0,.int .u8 0,.int .u8 0,.int .u8 0,.int .u8 0,.int .u8 0,.int .u8 0,.int .u8 0,.int .u8 0,.int .u8 0,.int .u8 0,.int .u8 0,.int .u8 0,.int .u8 0,.int .u8 0,.int .u8 0],[.int .u8 0,.int .u8 0,.int .u8 0,.int .u8 0,.int .u8 0,.int .u8 0,.int .u8 0,.int .u8 0,.int .u8 0,.int .u8 0,.int .u8 0,.int .u8 0,.int .u8 0,.int .u8 0,.int .u8 0,.int .u8 0,.int .u8 0,.int .u8 0,.int .u8 0,.int .u8 0,.int .u8 0,.int .u8 0,.int .u8 0,.int .u8 0,.int .u8 0,.int .u8 0,.int .u8 0,.int .u8 0,.int .u8 0,.int .u8 0,.int .u8 0,.int .u8 0],some (.agg [.int .u8 0,.int .u8 0,.int .u8 0,.int .u8 0,.int .u8 0,.int .u8 0,.int .u8 0,.int .u8 0,.int .u8 0,.int .u8 0,.int .u8 0,.int .u8 0,.int .u8 0,.int .u8 0,.int .u8 0,.int .u8 0,.int .u8 0,.int .u8 0,.int .u8 0,.int .u8 0,.int .u8 0,.int .u8 0,.int .u8 0,.int .u8 0,.int .u8 0,.int .u8 0,.int .u8 0,.int .u8 0,.int .u8 0,.int .u8 0,.int .u8 0,.int .u8 0]),.arr 32 5⟩:=by kernel_rfl
theorem w2G:i8L Tryz.prog 151=⟨64,64,[.int .u8 0,.int .u8 0,.int .u8 0,.int .u8 0,.int .u8 0,.int .u8 0,.int .u8 0,.int .u8 0,.int .u8 0,.int .u8 0,.int .u8 0,.int .u8 0,.int .u8 0,.int .u8 0,.int .u8 0,.int .u8 0,.int .u8 0,.int .u8 0,.int .u8 0,.int .u8 0,.int .u8 0,.int .u8 0,.int .u8 0,.int .u8 0,.int .u8 0,.int .u8 0,.int .u8 0,.int .u8 0,.int .u8 0,.int .u8 0,.int .u8 0,.int .u8 0,.int .u8 0,.int .u8 0,.int .u8 0,.int .u8 0,.int .u8 0,.int .u8 0,.int .u8 0,.int .u8 0,.int .u8 0,.int .u8 0,.int .u8 0,.int .u8 0,.int .u8 0,.int .u8 0,.int .u8 0,.int .u8 0,.int .u8 0,.int .u8 0,.int .u8 0,.int .u8 0,.int .u8 0,.int .u8 0,.int .u8 0,.int .u8 0,.int .u8 0,.int .u8 0,.int .u8 0,.int .u8 0,.int .u8 0,.int .u8 0,.int .u8 0,.int .u8 0],[.int .u8 0,.int .u8 0,.int .u8 0,.int .u8 0,.int .u8 0,.int .u8 0,.int .u8 0,.int .u8 0,.int .u8 0,.int .u8 0,.int .u8 0,.int .u8 0,.int .u8 0,.int .u8 0,.int .u8 0,.int .u8 0,.int .u8 0,.int .u8 0,.int .u8 0,.int .u8 0,.int .u8 0,.int .u8 0,.int .u8 0,.int .u8 0,.int .u8 0,.int .u8 0,.int .u8 0,.int .u8 0,.int .u8 0,.int .u8 0,.int .u8 0,.int .u8 0,.int .u8 0,.int .u8 0,.int .u8 0,.int .u8 0,.int .u8 0,.int .u8 0,.int .u8 0,.int .u8 0,.int .u8 0,.int .u8 0,.int .u8 0,.int .u8 0,.int .u8 0,.int .u8 0,.int .u8 0,.int .u8 0,.int .u8 0,.int .u8 0,.int .u8 0,.int .u8 0,.int .u8 0,.int .u8 0,.int .u8 0,.int .u8 0,.int .u8 0,.int .u8 0,.int .u8 0,.int .u8 0,.int .u8 0,.int .u8 0,.int .u8 0,.int .u8 0],some (.agg [.int .u8 0,.int .u8 0,.int .u8 0,.int .u8 0,.int .u8 0,.int .u8 0,.int .u8 0,.int .u8 0,.int .u8 0,.int .u8 0,.int .u8 0,.int .u8 0,.int .u8 0,.int .u8 0,.int .u8 0,.int .u8 0,.int .u8 0,.int .u8 0,.int .u8 0,.int .u8 0,.int .u8 0,.int .u8 0,.int .u8 0,.int .u8 0,.int .u8 0,.int .u8 0,.int .u8 0,.int .u8 0,.int .u8 0,.int .u8 0,.int .u8 0,.int .u8 0,.int .u8 0,.int .u8 0,.int .u8 0,.int .u8 0,.int .u8 0,.int .u8 0,.int .u8 0,.int .u8 0,.int .u8 0,.int .u8 0,.int .u8 0,.int .u8 0,.int .u8 0,.int .u8 0,.int .u8 0,.int .u8 0,.int .u8 0,.int .u8 0,.int .u8 0,.int .u8 0,.int .u8 0,.int .u8 0,.int .u8 0,.int .u8 0,.int .u8 0,.int .u8 0,.int .u8 0,.int .u8 0,.int .u8 0,.int .u8 0,.int .u8 0,.int .u8 0]),.arr 64 5⟩:=by kernel_rfl
theorem w2H:i8L Tryz.prog 152=⟨4,40,[.p9S,.p9S,.p9S,.str []],[.p9S,.p9S,.p9S,.str []],some (.agg [.p9S,.p9S,.p9S,.str []]),.struct [(0,1,false),(1,1,false),(2,1,false),(3,1,false)]⟩:=by kernel_rfl
theorem w2I:i8L Tryz.prog 155=⟨0,0,[],[],some (.agg []),.struct [(0,0,true)]⟩:=by kernel_rfl
theorem w2J:i8L Tryz.prog 161=⟨1,8,[.p9S],[.p9S],some (.p9S),.ptr 5⟩:=by kernel_rfl
theorem w2K:i8L Tryz.prog 164=⟨11,48,[.int .u64 0,.int .u64 0,.int .u32 0,.int .u8 0,.int .u8 0,.int .u8 0,.int .u8 0,.p9T,.p9S,.int .i32 0,.int .i32 0],[.int .u64 0,.int .u64 0,.int .u32 0,.int .u8 0,.int .u8 0,.int .u8 0,.int .u8 0,.p9T,.p9S,.int .i32 0,.int .i32 0],some (.agg [.int .u64 0,.int .u64 0,.int .u32 0,.int .u8 0,.int .u8 0,.int .u8 0,.int .u8 0,.p9T,.p9S,.int .i32 0,.int .i32 0]),.struct [(0,1,false),(1,1,false),(2,1,false),(3,1,false),(4,1,false),(5,1,false),(6,1,false),(7,1,false),(8,1,false),(9,1,false),(10,1,false)]⟩:=by kernel_rfl
theorem fk7:i9A Tryz.prog 7=some [1,1,3,1]:=by kernel_rfl
theorem w3J:i9A Tryz.prog 24=some [1,2,0,0]:=by kernel_rfl
theorem w3K:i9A Tryz.prog 25=some [1,2,0,0]:=by kernel_rfl
theorem w3L:i9A Tryz.prog 30=some [1,1]:=by kernel_rfl
theorem w3M:i9A Tryz.prog 31=some [1,1]:=by kernel_rfl
theorem w3N:i9A Tryz.prog 45=some [1,0]:=by kernel_rfl
theorem w3O:i9A Tryz.prog 46=some [1,0]:=by kernel_rfl
theorem w3P:i9A Tryz.prog 60=some [2,2,0]:=by kernel_rfl
theorem w3Q:i9A Tryz.prog 61=some [2,2,0]:=by kernel_rfl
theorem w3R:i9A Tryz.prog 66=some [1,2,0,0,1]:=by kernel_rfl
theorem w3S:i9A Tryz.prog 67=some [1,2,0,0,1]:=by kernel_rfl
theorem w2L:i9A Tryz.prog 112=some [2,2]:=by kernel_rfl
theorem w2M:i9A Tryz.prog 113=some [2,2]:=by kernel_rfl
attribute [go_sem] ty0 ty2 ty3 ty4 ty5 ty7 ty9 w2Y w2Z w3a w3b w0M w3c w3d w3e w3f w3g w3h w3i w3j w3k w3l w3m w3n w3o w3p w3q w3r w3s w3t w3u w3v w3w w3x w3y w3z w3A w3B w3C w3D w3E w3F w3G w3H w3I w2h w2i w2j w2k w2l w2m w2n w2o w2p w2q w2r w2s w2t w2u w2v w2w w2x w2y w2z w2A w2B w2C w2D w2E w2F w2G w2H w2I w2J w2K fk7 w3J w3K w3L w3M w3N w3O w3P w3Q w3R w3S w2L w2M
end Go.Proofs.YtdjnbjnlnjhllaaGreatDoor
