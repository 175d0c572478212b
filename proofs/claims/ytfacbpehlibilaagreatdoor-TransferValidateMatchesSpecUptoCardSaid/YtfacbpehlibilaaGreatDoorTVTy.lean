import Derived.Test.YtfacbpehlibilaaGreatDoorProg
import Derived.Test.YtfacbpehlibilaaGreatDoorTVAm2
set_option linter.unusedVariables false
set_option linter.unusedSimpArgs false
namespace Go.Proofs.YtfacbpehlibilaaGreatDoor
open Go Go.Am
theorem ty0:r5c Tryz.prog 0=⟨1,0,[.any],[.any],some (.any),.other⟩:=by kernel_rfl
theorem ty2:r5c Tryz.prog 2=⟨1,8,[.int .i64 0],[.int .i64 0],some (.int .i64 0),.int .i64⟩:=by kernel_rfl
theorem ty3:r5c Tryz.prog 3=⟨1,8,[.int .i64 0],[.int .i64 0],some (.int .i64 0),.int .i64⟩:=by kernel_rfl
theorem ty4:r5c Tryz.prog 4=⟨1,1,[.bool false],[.bool false],some (.bool false),.bool⟩:=by kernel_rfl
theorem ty5:r5c Tryz.prog 5=⟨1,1,[.int .u8 0],[.int .u8 0],some (.int .u8 0),.int .u8⟩:=by kernel_rfl
theorem ty7:r5c Tryz.prog 7=⟨4,24,[.int .i64 0,.int .i64 0,.bool false,.int .u8 0],[.int .i64 0,.int .i64 0,.bool false,.int .u8 0],some (.agg [.int .i64 0,.int .i64 0,.bool false,.int .u8 0]),.struct [(0,1,false),(1,1,false),(2,1,false),(3,1,false)]⟩:=by kernel_rfl
theorem ty9:r5c Tryz.prog 9=⟨1,16,[.str []],[.str []],some (.str []),.str⟩:=by kernel_rfl
theorem y4f:r5c Tryz.prog 12=⟨1,8,[.int .u64 0],[.int .u64 0],some (.int .u64 0),.int .u64⟩:=by kernel_rfl
theorem y4g:r5c Tryz.prog 13=⟨2,24,[.str [],.int .u64 0],[.str [],.int .u64 0],some (.agg [.str [],.int .u64 0]),.struct [(0,1,false),(1,1,false)]⟩:=by kernel_rfl
theorem y4h:r5c Tryz.prog 18=⟨1,8,[.u6b],[.u6b],some (.agg [.u6b]),.struct [(0,1,false)]⟩:=by kernel_rfl
theorem y4i:r5c Tryz.prog 21=⟨1,4,[.int .i32 0],[.int .i32 0],some (.int .i32 0),.int .i32⟩:=by kernel_rfl
theorem y4j:r5c Tryz.prog 22=⟨1,24,[.r5g],[.sl false 11 216 []],some (.r5g),.slice 49⟩:=by kernel_rfl
theorem y4k:r5c Tryz.prog 24=⟨2,16,[.int .i64 0,.int .i64 0],[.int .i64 0,.int .i64 0],some (.agg [.int .i64 0,.int .i64 0]),.struct [(0,1,false),(1,1,false)]⟩:=by kernel_rfl
theorem y4l:r5c Tryz.prog 25=⟨2,16,[.int .i64 0,.int .i64 0],[.int .i64 0,.int .i64 0],some (.agg [.int .i64 0,.int .i64 0]),.struct [(0,1,false),(1,1,false)]⟩:=by kernel_rfl
theorem y1u:r5c Tryz.prog 28=⟨1,24,[.r5g],[.sl false 1 16 []],some (.r5g),.slice 9⟩:=by kernel_rfl
theorem y4m:r5c Tryz.prog 29=⟨1,24,[.r5g],[.sl false 4 72 []],some (.r5g),.slice 31⟩:=by kernel_rfl
theorem y4n:r5c Tryz.prog 30=⟨4,72,[.int .i64 0,.str [],.r5g,.r5g],[.int .i64 0,.str [],.sl false 1 16 [],.sl false 4 72 []],some (.agg [.int .i64 0,.str [],.r5g,.r5g]),.struct [(0,1,false),(1,1,false),(2,1,false),(3,1,false)]⟩:=by kernel_rfl
theorem y4o:r5c Tryz.prog 31=⟨4,72,[.int .i64 0,.str [],.r5g,.r5g],[.int .i64 0,.str [],.sl false 1 16 [],.sl false 4 72 []],some (.agg [.int .i64 0,.str [],.r5g,.r5g]),.struct [(0,1,false),(1,1,false),(2,1,false),(3,1,false)]⟩:=by kernel_rfl
theorem y4p:r5c Tryz.prog 32=⟨1,0,[.any],[.any],some (.any),.other⟩:=by kernel_rfl
theorem y4q:r5c Tryz.prog 34=⟨1,24,[.r5g],[.sl false 2 16 []],some (.r5g),.slice 43⟩:=by kernel_rfl
theorem y4r:r5c Tryz.prog 35=⟨1,0,[.any],[.any],some (.any),.other⟩:=by kernel_rfl
theorem y4s:r5c Tryz.prog 38=⟨1,8,[.u3I],[.u3I],some (.u3I),.other⟩:=by kernel_rfl
theorem y4t:r5c Tryz.prog 39=⟨1,0,[.any],[.any],some (.any),.other⟩:=by kernel_rfl
theorem y4u:r5c Tryz.prog 42=⟨2,16,[.int .i64 0,.int .i64 0],[.int .i64 0,.int .i64 0],some (.agg [.int .i64 0,.int .i64 0]),.struct [(0,1,false),(1,1,false)]⟩:=by kernel_rfl
theorem y4v:r5c Tryz.prog 43=⟨2,16,[.int .i64 0,.int .i64 0],[.int .i64 0,.int .i64 0],some (.agg [.int .i64 0,.int .i64 0]),.struct [(0,1,false),(1,1,false)]⟩:=by kernel_rfl
theorem y4w:r5c Tryz.prog 46=⟨7,144,[.int .i64 0,.str [],.r5g,.r5g,.r5g,.r5g,.r5g],[.int .i64 0,.str [],.sl false 1 16 [],.sl false 4 72 [],.sl false 1 16 [],.sl false 1 16 [],.sl false 1 16 []],some (.agg [.int .i64 0,.str [],.r5g,.r5g,.r5g,.r5g,.r5g]),.struct [(0,4,true),(4,1,false),(5,1,false),(6,1,false)]⟩:=by kernel_rfl
theorem y4x:r5c Tryz.prog 47=⟨7,144,[.int .i64 0,.str [],.r5g,.r5g,.r5g,.r5g,.r5g],[.int .i64 0,.str [],.sl false 1 16 [],.sl false 4 72 [],.sl false 1 16 [],.sl false 1 16 [],.sl false 1 16 []],some (.agg [.int .i64 0,.str [],.r5g,.r5g,.r5g,.r5g,.r5g]),.struct [(0,4,true),(4,1,false),(5,1,false),(6,1,false)]⟩:=by kernel_rfl
theorem y4y:r5c Tryz.prog 48=⟨11,216,[.int .i64 0,.str [],.r5g,.r5g,.r5g,.r5g,.r5g,.int .i64 0,.str [],.r5g,.r5g],[.int .i64 0,.str [],.sl false 1 16 [],.sl false 4 72 [],.sl false 1 16 [],.sl false 1 16 [],.sl false 1 16 [],.int .i64 0,.str [],.sl false 1 16 [],.sl false 4 72 []],some (.agg [.int .i64 0,.str [],.r5g,.r5g,.r5g,.r5g,.r5g,.int .i64 0,.str [],.r5g,.r5g]),.struct [(0,7,true),(7,4,true)]⟩:=by kernel_rfl
theorem y4z:r5c Tryz.prog 49=⟨11,216,[.int .i64 0,.str [],.r5g,.r5g,.r5g,.r5g,.r5g,.int .i64 0,.str [],.r5g,.r5g],[.int .i64 0,.str [],.sl false 1 16 [],.sl false 4 72 [],.sl false 1 16 [],.sl false 1 16 [],.sl false 1 16 [],.int .i64 0,.str [],.sl false 1 16 [],.sl false 4 72 []],some (.agg [.int .i64 0,.str [],.r5g,.r5g,.r5g,.r5g,.r5g,.int .i64 0,.str [],.r5g,.r5g]),.struct [(0,7,true),(7,4,true)]⟩:=by kernel_rfl
theorem y4A:r5c Tryz.prog 52=⟨1,0,[.any],[.any],some (.any),.other⟩:=by kernel_rfl
theorem y4B:r5c Tryz.prog 54=⟨1,8,[.u3I],[.u3I],some (.u3I),.other⟩:=by kernel_rfl
theorem y4C:r5c Tryz.prog 55=⟨1,24,[.r5g],[.sl false 1 1 []],some (.r5g),.slice 5⟩:=by kernel_rfl
theorem y4D:r5c Tryz.prog 68=⟨1,24,[.r5g],[.sl false 1 1 []],some (.r5g),.slice 4⟩:=by kernel_rfl
theorem y4E:r5c Tryz.prog 69=⟨5,80,[.int .i64 0,.str [],.r5g,.r5g,.int .i64 0],[.int .i64 0,.str [],.sl false 1 16 [],.sl false 1 1 [],.int .i64 0],some (.agg [.int .i64 0,.str [],.r5g,.r5g,.int .i64 0]),.struct [(0,1,false),(1,1,false),(2,1,false),(3,1,false),(4,1,false)]⟩:=by kernel_rfl
theorem y4F:r5c Tryz.prog 70=⟨5,80,[.int .i64 0,.str [],.r5g,.r5g,.int .i64 0],[.int .i64 0,.str [],.sl false 1 16 [],.sl false 1 1 [],.int .i64 0],some (.agg [.int .i64 0,.str [],.r5g,.r5g,.int .i64 0]),.struct [(0,1,false),(1,1,false),(2,1,false),(3,1,false),(4,1,false)]⟩:=by kernel_rfl
theorem y4G:r5c Tryz.prog 71=⟨1,24,[.r5g],[.sl false 5 80 []],some (.r5g),.slice 70⟩:=by kernel_rfl
theorem y4H:r5c Tryz.prog 76=⟨1,0,[.any],[.any],some (.any),.other⟩:=by kernel_rfl
theorem y4I:r5c Tryz.prog 78=⟨1,0,[.any],[.any],some (.any),.other⟩:=by kernel_rfl
theorem y4J:r5c Tryz.prog 86=⟨1,0,[.any],[.any],some (.any),.other⟩:=by kernel_rfl
theorem y4K:r5c Tryz.prog 88=⟨1,8,[.u4v],[.u4v],some (.u4v),.map 9 28⟩:=by kernel_rfl
theorem y4L:r5c Tryz.prog 90=⟨1,8,[.u3I],[.u3I],some (.u3I),.other⟩:=by kernel_rfl
theorem y4M:r5c Tryz.prog 93=⟨1,24,[.r5g],[.sl false 1 24 []],some (.r5g),.slice 28⟩:=by kernel_rfl
theorem y4N:r5c Tryz.prog 95=⟨1,8,[.u6b],[.u6b],some (.u6b),.ptr 98⟩:=by kernel_rfl
theorem y4O:r5c Tryz.prog 96=⟨1,8,[.u4v],[.u4v],some (.u4v),.map 9 3⟩:=by kernel_rfl
theorem y4P:r5c Tryz.prog 97=⟨4,64,[.r5g,.u4v,.r5g,.int .i64 0],[.sl false 11 216 [],.u4v,.sl false 2 16 [],.int .i64 0],some (.agg [.r5g,.u4v,.r5g,.int .i64 0]),.struct [(0,1,false),(1,1,false),(2,1,false),(3,1,false)]⟩:=by kernel_rfl
theorem y4Q:r5c Tryz.prog 98=⟨4,64,[.r5g,.u4v,.r5g,.int .i64 0],[.sl false 11 216 [],.u4v,.sl false 2 16 [],.int .i64 0],some (.agg [.r5g,.u4v,.r5g,.int .i64 0]),.struct [(0,1,false),(1,1,false),(2,1,false),(3,1,false)]⟩:=by kernel_rfl
theorem y2D:r5c Tryz.prog 100=⟨1,8,[.u3I],[.u3I],some (.u3I),.other⟩:=by kernel_rfl
theorem y2E:r5c Tryz.prog 101=⟨6,88,[.int .i64 0,.str [],.r5g,.r5g,.int .i64 0,.int .i64 0],[.int .i64 0,.str [],.sl false 1 16 [],.sl false 4 72 [],.int .i64 0,.int .i64 0],some (.agg [.int .i64 0,.str [],.r5g,.r5g,.int .i64 0,.int .i64 0]),.struct [(0,4,true),(4,1,false),(5,1,false)]⟩:=by kernel_rfl
theorem y2F:r5c Tryz.prog 102=⟨6,88,[.int .i64 0,.str [],.r5g,.r5g,.int .i64 0,.int .i64 0],[.int .i64 0,.str [],.sl false 1 16 [],.sl false 4 72 [],.int .i64 0,.int .i64 0],some (.agg [.int .i64 0,.str [],.r5g,.r5g,.int .i64 0,.int .i64 0]),.struct [(0,4,true),(4,1,false),(5,1,false)]⟩:=by kernel_rfl
theorem y2G:r5c Tryz.prog 103=⟨1,0,[.any],[.any],some (.any),.other⟩:=by kernel_rfl
theorem y2H:r5c Tryz.prog 106=⟨1,8,[.u3I],[.u3I],some (.u3I),.other⟩:=by kernel_rfl
theorem y2I:r5c Tryz.prog 107=⟨5,80,[.int .i64 0,.str [],.r5g,.r5g,.int .i64 0],[.int .i64 0,.str [],.sl false 1 16 [],.sl false 4 72 [],.int .i64 0],some (.agg [.int .i64 0,.str [],.r5g,.r5g,.int .i64 0]),.struct [(0,4,true),(4,1,false)]⟩:=by kernel_rfl
theorem y2J:r5c Tryz.prog 108=⟨5,80,[.int .i64 0,.str [],.r5g,.r5g,.int .i64 0],[.int .i64 0,.str [],.sl false 1 16 [],.sl false 4 72 [],.int .i64 0],some (.agg [.int .i64 0,.str [],.r5g,.r5g,.int .i64 0]),.struct [(0,4,true),(4,1,false)]⟩:=by kernel_rfl
theorem y2K:r5c Tryz.prog 109=⟨1,24,[.r5g],[.sl false 5 80 []],some (.r5g),.slice 108⟩:=by kernel_rfl
theorem y2L:r5c Tryz.prog 111=⟨1,24,[.r5g],[.sl false 6 104 []],some (.r5g),.slice 142⟩:=by kernel_rfl
theorem y2M:r5c Tryz.prog 112=⟨1,24,[.r5g],[.sl false 1 8 []],some (.r5g),.slice 3⟩:=by kernel_rfl
theorem y2N:r5c Tryz.prog 113=⟨1,0,[.any],[.any],some (.any),.other⟩:=by kernel_rfl
theorem y2O:r5c Tryz.prog 119=⟨1,8,[.u3I],[.u3I],some (.u3I),.other⟩:=by kernel_rfl
theorem y2P:r5c Tryz.prog 121=⟨1,8,[.u3I],[.u3I],some (.u3I),.other⟩:=by kernel_rfl
theorem y2Q:r5c Tryz.prog 122=⟨1,8,[.u3I],[.u3I],some (.u3I),.other⟩:=by kernel_rfl
theorem y2R:r5c Tryz.prog 123=⟨1,0,[.any],[.any],some (.any),.other⟩:=by kernel_rfl
theorem y2S:r5c Tryz.prog 126=⟨1,8,[.u4v],[.u4v],some (.u4v),.map 9 9⟩:=by kernel_rfl
theorem y2T:r5c Tryz.prog 127=⟨1,0,[.any],[.any],some (.any),.other⟩:=by kernel_rfl
theorem y2U:r5c Tryz.prog 128=⟨1,8,[.u3I],[.u3I],some (.u3I),.other⟩:=by kernel_rfl
theorem y2V:r5c Tryz.prog 129=⟨1,0,[.any],[.any],some (.any),.other⟩:=by kernel_rfl
theorem y2W:r5c Tryz.prog 132=⟨1,24,[.r5g],[.sl false 6 88 []],some (.r5g),.slice 102⟩:=by kernel_rfl
theorem y2X:r5c Tryz.prog 133=⟨1,0,[.any],[.any],some (.any),.other⟩:=by kernel_rfl
theorem y2Y:r5c Tryz.prog 137=⟨1,8,[.int .u64 0],[.int .u64 0],some (.int .u64 0),.int .u64⟩:=by kernel_rfl
theorem y2Z:r5c Tryz.prog 138=⟨1,8,[.int .u64 0],[.int .u64 0],some (.int .u64 0),.int .u64⟩:=by kernel_rfl
theorem y3a:r5c Tryz.prog 141=⟨6,104,[.str [],.str [],.int .i64 0,.str [],.r5g,.r5g],[.str [],.str [],.int .i64 0,.str [],.sl false 1 16 [],.sl false 4 72 []],some (.agg [.str [],.str [],.int .i64 0,.str [],.r5g,.r5g]),.struct [(0,1,false),(1,1,false),(2,4,true)]⟩:=by kernel_rfl
theorem y3b:r5c Tryz.prog 142=⟨6,104,[.str [],.str [],.int .i64 0,.str [],.r5g,.r5g],[.str [],.str [],.int .i64 0,.str [],.sl false 1 16 [],.sl false 4 72 []],some (.agg [.str [],.str [],.int .i64 0,.str [],.r5g,.r5g]),.struct [(0,1,false),(1,1,false),(2,4,true)]⟩:=by kernel_rfl
theorem y3c:r5c Tryz.prog 143=⟨1,24,[.r5g],[.sl false 1 24 []],some (.r5g),.slice 71⟩:=by kernel_rfl
theorem y3d:r5c Tryz.prog 146=⟨1,8,[.u6b],[.u6b],some (.u6b),.ptr 3⟩:=by kernel_rfl
theorem y3e:r5c Tryz.prog 147=⟨1,24,[.r5g],[.sl false 2 32 []],some (.r5g),.slice 149⟩:=by kernel_rfl
theorem y3f:r5c Tryz.prog 148=⟨2,32,[.str [],.str []],[.str [],.str []],some (.agg [.str [],.str []]),.struct [(0,1,false),(1,1,false)]⟩:=by kernel_rfl
theorem y3g:r5c Tryz.prog 149=⟨2,32,[.str [],.str []],[.str [],.str []],some (.agg [.str [],.str []]),.struct [(0,1,false),(1,1,false)]⟩:=by kernel_rfl
theorem y3h:r5c Tryz.prog 155=⟨1,8,[.u4v],[.u4v],some (.u4v),.map 9 142⟩:=by kernel_rfl
theorem y3i:r5c Tryz.prog 156=⟨1,8,[.u4v],[.u4v],some (.u4v),.map 9 142⟩:=by kernel_rfl
theorem y3j:r5c Tryz.prog 159=⟨1,8,[.u3I],[.u3I],some (.u3I),.other⟩:=by kernel_rfl
theorem y3k:r5c Tryz.prog 161=⟨1,8,[.u4v],[.u4v],some (.u4v),.map 9 102⟩:=by kernel_rfl
theorem y3l:r5c Tryz.prog 162=⟨1,8,[.u3I],[.u3I],some (.u3I),.other⟩:=by kernel_rfl
theorem y3m:r5c Tryz.prog 164=⟨1,8,[.int .i64 0],[.int .i64 0],some (.int .i64 0),.int .i64⟩:=by kernel_rfl
theorem y3n:r5c Tryz.prog 165=⟨1,0,[.any],[.any],some (.any),.other⟩:=by kernel_rfl
theorem y3o:r5c Tryz.prog 169=⟨1,0,[.any],[.any],some (.any),.other⟩:=by kernel_rfl
theorem y3p:r5c Tryz.prog 172=⟨1,4,[.int .u32 0],[.int .u32 0],some (.int .u32 0),.int .u32⟩:=by kernel_rfl
theorem y3q:r5c Tryz.prog 175=⟨24,24,[.int .u8 0,.int .u8 0,.int .u8 0,.int .u8 0,.int .u8 0,.int .u8 0,.int .u8 0,.int .u8 0,.int .u8 0,.int .u8 0,.int .u8 0,.int .u8 0,.int .u8 0,.int .u8 0,.int .u8 0,.int .u8 0,.int .u8 0,.int .u8 0,.int .u8 0,.int .u8 0,.int .u8 0,.int .u8 0,.int .u8 0,.int .u8 0],[.int .u8 0,.int .u8 0,.int .u8 0,.int .u8 0,.int .u8 0,.int .u8 0,.int .u8 0,.int .u8 0,.int .u8 0,.int .u8 0,.int .u8 0,.int .u8 0,.int .u8 0,.int .u8 0,.int .u8 0,.int .u8 0,.int .u8 0,.int .u8 0,.int .u8 0,.int .u8 0,.int .u8 0,.int .u8 0,.int .u8 0,.int .u8 0],some (.agg [.int .u8 0,.int .u8 0,.int .u8 0,.int .u8 0,.int .u8 0,.int .u8 0,.int .u8 0,.int .u8 0,.int .u8 0,.int .u8 0,.int .u8 0,.int .u8 0,.int .u8 0,.int .u8 0,.int .u8 0,.int .u8 0,.int .u8 0,.int .u8 0,.int .u8 0,.int .u8 0,.int .u8 0,.int .u8 0,.int .u8 0,.int .u8 0]),.arr 24 5⟩:=by kernel_rfl
theorem y3r:r5c Tryz.prog 177=⟨1,0,[.any],[.any],some (.any),.other⟩:=by kernel_rfl
theorem y3s:r5c Tryz.prog 185=⟨1,8,[.u3I],[.u3I],some (.u3I),.other⟩:=by kernel_rfl
theorem y3t:r5c Tryz.prog 186=⟨1,8,[.u3I],[.u3I],some (.u3I),.other⟩:=by kernel_rfl
theorem y3u:r5c Tryz.prog 187=⟨1,0,[.any],[.any],some (.any),.other⟩:=by kernel_rfl
theorem y3v:r5c Tryz.prog 188=⟨1,8,[.int .u64 0],[.int .u64 0],some (.int .u64 0),.int .u64⟩:=by kernel_rfl
theorem y3w:r5c Tryz.prog 195=⟨20,160,[.int .u64 0,.int .u64 0,.int .u64 0,.int .u64 0,.int .u64 0,.int .u64 0,.int .u64 0,.int .u64 0,.int .u64 0,.int .u64 0,.int .u64 0,.int .u64 0,.int .u64 0,.int .u64 0,.int .u64 0,.int .u64 0,.int .u64 0,.int .u64 0,.int .u64 0,.int .u64 0],[.int .u64 0,.int .u64 0,.int .u64 0,.int .u64 0,.int .u64 0,.int .u64 0,.int .u64 0,.int .u64 0,.int .u64 0,.int .u64 0,.int .u64 0,.int .u64 0,.int .u64 0,.int .u64 0,.int .u64 0,.int .u64 0,.int .u64 0,.int .u64 0,.int .u64 0,.int .u64 0],some (.agg [.int .u64 0,.int .u64 0,.int .u64 0,.int .u64 0,.int .u64 0,.int .u64 0,.int .u64 0,.int .u64 0,.int .u64 0,.int .u64 0,.int .u64 0,.int .u64 0,.int .u64 0,.int .u64 0,.int .u64 0,.int .u64 0,.int .u64 0,.int .u64 0,.int .u64 0,.int .u64 0]),.arr 20 138⟩:=by kernel_rfl
theorem y3x:r5c Tryz.prog 196=⟨65,65,[.int .u8 0,.int .u8 0,.int .u8 0,.int .u8 0,.int .u8 0,.int .u8 0,.int .u8 0,.int .u8 0,.int .u8 0,.int .u8 0,.int .u8 0,.int .u8 0,.int .u8 0,.int .u8 0,.int .u8 0,.int .u8 0,.int .u8 0,.int .u8 0,.int .u8 0,.int .u8 0,.int .u8 0,.int .u8 0,.int .u8 0,.int .u8 0,.int .u8 0,.int .u8 0,.int .u8 0,.int .u8 0,.int .u8 0,.int .u8 0,.int .u8 0,.int .u8 0,.int .u8 0,.int .u8 0,.int .u8 0,.int .u8 0,.int .u8 0,.int .u8 0,.int .u8 0,.int .u8 0,.int .u8 0,.int .u8 0,.int .u8 0,.int .u8 0,.int .u8 0,.int .u8 0,.int .u8 0,.int .u8 0,.int .u8 0,.int .u8 0,.int .u8 0,.int .u8 0,.int .u8 0,.int .u8 0,.int .u8 0,.int .u8 0,.int .u8 0,.int .u8 0,.int .u8 0,.int .u8 0,.int .u8 0,.int .u8 0,.int .u8 0,.int .u8 0,.int .u8 0],[],some (.agg [.int .u8 0,.int .u8 0,.int .u8 0,.int .u8 0,.int .u8 0,.int .u8 0,.int .u8 0,.int .u8 0,.int .u8 0,.int .u8 0,.int .u8 0,.int .u8 0,.int .u8 0,.int .u8 0,.int .u8 0,.int .u8 0,.int .u8 0,.int .u8 0,.int .u8 0,.int .u8 0,.int .u8 0,.int .u8 0,.int .u8 0,.int .u8 0,.int .u8 0,.int .u8 0,.int .u8 0,.int .u8 0,.int .u8 0,.int .u8 0,.int .u8 0,.int .u8 0,.int .u8 0,.int .u8 0,.int .u8 0,.int .u8 0,.int .u8 0,.int .u8 0,.int .u8 0,.int .u8 0,.int .u8 0,.int .u8 0,.int .u8 0,.int .u8 0,.int .u8 0,.int .u8 0,.int .u8 0,.int .u8 0,.int .u8 0,.int .u8 0,.int .u8 0,.int .u8 0,.int .u8 0,.int .u8 0,.int .u8 0,.int .u8 0,.int .u8 0,.int .u8 0,.int .u8 0,.int .u8 0,.int .u8 0,.int .u8 0,.int .u8 0,.int .u8 0,.int .u8 0]),.arr 65 5⟩:=by kernel_rfl
theorem y3y:r5c Tryz.prog 200=⟨1,8,[.u6b],[.u6b],some (.u6b),.ptr 188⟩:=by kernel_rfl
theorem y3z:r5c Tryz.prog 201=⟨1,0,[.any],[.any],some (.any),.other⟩:=by kernel_rfl
theorem y3A:r5c Tryz.prog 204=⟨32,32,[.int .u8 0,.int .u8 0,.int .u8 0,.int .u8 0,.int .u8 0,.int .u8 0,.int .u8 0,.int .u8 0,.int .u8 0,.int .u8 0,.int .u8 0,.int .u8 0,.int .u8 0,.int .u8 0,.int .u8 0,.int .u8 0,.int .u8 0,.int .u8 0,.int .u8 0,.int .u8 0,.int .u8 0,.int .u8 0,.int .u8 0,.int .u8 0,.int .u8 0,.int .u8 0,.int .u8 0,.int .u8 0,.int .u8 0,.int .u8 0,.int .u8 0,.int .u8 0],[.int .u8 0,.int .u8 0,.int .u8 0,.int .u8 0,.int .u8 0,.int .u8 0,.int .u8 0,.int .u8 0,.int .u8 0,.int .u8 0,.int .u8 0,.int .u8 0,.int .u8 0,.int .u8 0,.int .u8 0,.int .u8 0,.int .u8 0,.int .u8 0,.int .u8 0,.int .u8 0,.int .u8 0,.int .u8 0,.int .u8 0,.int .u8 0,.int .u8 0,.int .u8 0,.int .u8 0,.int .u8 0,.int .u8 0,.int .u8 0,.int .u8 0,.int .u8 0],some (.agg [.int .u8 0,.int .u8 0,.int .u8 0,.int .u8 0,.int .u8 0,.int .u8 0,.int .u8 0,.int .u8 0,.int .u8 0,.int .u8 0,.int .u8 0,.int .u8 0,.int .u8 0,.int .u8 0,.int .u8 0,.int .u8 0,.int .u8 0,.int .u8 0,.int .u8 0,.int .u8 0,.int .u8 0,.int .u8 0,.int .u8 0,.int .u8 0,.int .u8 0,.int .u8 0,.int .u8 0,.int .u8 0,.int .u8 0,.int .u8 0,.int .u8 0,.int .u8 0]),.arr 32 5⟩:=by kernel_rfl
theorem y3B:r5c Tryz.prog 205=⟨64,64,[.int .u8 0,.int .u8 0,.int .u8 0,.int .u8 0,.int .u8 0,.int .u8 0,.int .u8 0,.int .u8 0,.int .u8 0,.int .u8 0,.int .u8 0,.int .u8 0,.int .u8 0,.int .u8 0,.int .u8 0,.int .u8 0,.int .u8 0,.int .u8 0,.int .u8 0,.int .u8 0,.int .u8 0,.int .u8 0,.int .u8 0,.int .u8 0,.int .u8 0,.int .u8 0,.int .u8 0,.int .u8 0,.int .u8 0,.int .u8 0,.int .u8 0,.int .u8 0,.int .u8 0,.int .u8 0,.int .u8 0,.int .u8 0,.int .u8 0,.int .u8 0,.int .u8 0,.int .u8 0,.int .u8 0,.int .u8 0,.int .u8 0,.int .u8 0,.int .u8 0,.int .u8 0,.int .u8 0,.int .u8 0,.int .u8 0,.int .u8 0,.int .u8 0,.int .u8 0,.int .u8 0,.int .u8 0,.int .u8 0,.int .u8 0,.int .u8 0,.int .u8 0,.int .u8 0,.int .u8 0,.int .u8 0,.int .u8 0,.int .u8 0,.int .u8 0],[.int .u8 0,.int .u8 0,.int .u8 0,.int .u8 0,.int .u8 0,.int .u8 0,.int .u8 0,.int .u8 0,.int .u8 0,.int .u8 0,.int .u8 0,.int .u8 0,.int .u8 0,.int .u8 0,.int .u8 0,.int .u8 0,.int .u8 0,.int .u8 0,.int .u8 0,.int .u8 0,.int .u8 0,.int .u8 0,.int .u8 0,.int .u8 0,.int .u8 0,.int .u8 0,.int .u8 0,.int .u8 0,.int .u8 0,.int .u8 0,.int .u8 0,.int .u8 0,.int .u8 0,.int .u8 0,.int .u8 0,.int .u8 0,.int .u8 0,.int .u8 0,.int .u8 0,.int .u8 0,.int .u8 0,.int .u8 0,.int .u8 0,.int .u8 0,.int .u8 0,.int .u8 0,.int .u8 0,.int .u8 0,.int .u8 0,.int .u8 0,.int .u8 0,.int .u8 0,.int .u8 0,.int .u8 0,.int .u8 0,.int .u8 0,.int .u8 0,.int .u8 0,.int .u8 0,.int .u8 0,.int .u8 0,.int .u8 0,.int .u8 0,.int .u8 0],some (.agg [.int .u8 0,.int .u8 0,.int .u8 0,.int .u8 0,.int .u8 0,.int .u8 0,.int .u8 0,.int .u8 0,.int .u8 0,.int .u8 0,.int .u8 0,.int .u8 0,.int .u8 0,.int .u8 0,.int .u8 0,.int .u8 0,.int .u8 0,.int .u8 0,.int .u8 0,.int .u8 0,.int .u8 0,.int .u8 0,.int .u8 0,.int .u8 0,.int .u8 0,.int .u8 0,.int .u8 0,.int .u8 0,.int .u8 0,.int .u8 0,.int .u8 0,.int .u8 0,.int .u8 0,.int .u8 0,.int .u8 0,.int .u8 0,.int .u8 0,.int .u8 0,.int .u8 0,.int .u8 0,.int .u8 0,.int .u8 0,.int .u8 0,.int .u8 0,.int .u8 0,.int .u8 0,.int .u8 0,.int .u8 0,.int .u8 0,.int .u8 0,.int .u8 0,.int .u8 0,.int .u8 0,.int .u8 0,.int .u8 0,.int .u8 0,.int .u8 0,.int .u8 0,.int .u8 0,.int .u8 0,.int .u8 0,.int .u8 0,.int .u8 0,.int .u8 0]),.arr 64 5⟩:=by kernel_rfl
theorem y3C:r5c Tryz.prog 206=⟨4,40,[.u6b,.u6b,.u6b,.str []],[.u6b,.u6b,.u6b,.str []],some (.agg [.u6b,.u6b,.u6b,.str []]),.struct [(0,1,false),(1,1,false),(2,1,false),(3,1,false)]⟩:=by kernel_rfl
theorem y3D:r5c Tryz.prog 209=⟨0,0,[],[],some (.agg []),.struct [(0,0,true)]⟩:=by kernel_rfl
theorem y3E:r5c Tryz.prog 215=⟨1,8,[.u6b],[.u6b],some (.u6b),.ptr 5⟩:=by kernel_rfl
theorem y3F:r5c Tryz.prog 218=⟨11,48,[.int .u64 0,.int .u64 0,.int .u32 0,.int .u8 0,.int .u8 0,.int .u8 0,.int .u8 0,.u3I,.u6b,.int .i32 0,.int .i32 0],[.int .u64 0,.int .u64 0,.int .u32 0,.int .u8 0,.int .u8 0,.int .u8 0,.int .u8 0,.u3I,.u6b,.int .i32 0,.int .i32 0],some (.agg [.int .u64 0,.int .u64 0,.int .u32 0,.int .u8 0,.int .u8 0,.int .u8 0,.int .u8 0,.u3I,.u6b,.int .i32 0,.int .i32 0]),.struct [(0,1,false),(1,1,false),(2,1,false),(3,1,false),(4,1,false),(5,1,false),(6,1,false),(7,1,false),(8,1,false),(9,1,false),(10,1,false)]⟩:=by kernel_rfl
theorem fk7:r5Y Tryz.prog 7=some [1,1,3,1]:=by kernel_rfl
theorem y4R:r5Y Tryz.prog 24=some [1,1]:=by kernel_rfl
theorem y4S:r5Y Tryz.prog 25=some [1,1]:=by kernel_rfl
theorem y4T:r5Y Tryz.prog 30=some [1,2,0,0]:=by kernel_rfl
theorem y4U:r5Y Tryz.prog 31=some [1,2,0,0]:=by kernel_rfl
theorem y4V:r5Y Tryz.prog 42=some [1,1]:=by kernel_rfl
theorem y4W:r5Y Tryz.prog 43=some [1,1]:=by kernel_rfl
theorem y4X:r5Y Tryz.prog 69=some [1,2,0,0,1]:=by kernel_rfl
theorem y4Y:r5Y Tryz.prog 70=some [1,2,0,0,1]:=by kernel_rfl
theorem y4Z:r5Y Tryz.prog 97=some [0,0,0,1]:=by kernel_rfl
theorem y5a:r5Y Tryz.prog 98=some [0,0,0,1]:=by kernel_rfl
theorem y3G:r5Y Tryz.prog 141=some [2,2,0]:=by kernel_rfl
theorem y3H:r5Y Tryz.prog 142=some [2,2,0]:=by kernel_rfl
theorem y3I:r5Y Tryz.prog 148=some [2,2]:=by kernel_rfl
theorem y3J:r5Y Tryz.prog 149=some [2,2]:=by kernel_rfl
attribute [go_sem] ty0 ty2 ty3 ty4 ty5 ty7 ty9 y4f y4g y4h y4i y4j y4k y4l y1u y4m y4n y4o y4p y4q y4r y4s y4t y4u y4v y4w y4x y4y y4z y4A y4B y4C y4D y4E y4F y4G y4H y4I y4J y4K y4L y4M y4N y4O y4P y4Q y2D y2E y2F y2G y2H y2I y2J y2K y2L y2M y2N y2O y2P y2Q y2R y2S y2T y2U y2V y2W y2X y2Y y2Z y3a y3b y3c y3d y3e y3f y3g y3h y3i y3j y3k y3l y3m y3n y3o y3p y3q y3r y3s y3t y3u y3v y3w y3x y3y y3z y3A y3B y3C y3D y3E y3F fk7 y4R y4S y4T y4U y4V y4W y4X y4Y y4Z y5a y3G y3H y3I y3J
end Go.Proofs.YtfacbpehlibilaaGreatDoor
