import Derived.Test.YtfacbpehlibilaaGreatDoorProg
import Derived.Test.YtfacbpehlibilaaGreatDoorTAAm2
set_option linter.unusedVariables false
set_option linter.unusedSimpArgs false
namespace Go.Proofs.YtfacbpehlibilaaGreatDoor
open Go Go.Am
theorem ty0:Wv Tryz.prog 0=⟨1,0,[.any],[.any],some (.any),.other⟩:=by kernel_rfl
theorem ty2:Wv Tryz.prog 2=⟨1,8,[.int .i64 0],[.int .i64 0],some (.int .i64 0),.int .i64⟩:=by kernel_rfl
theorem ty3:Wv Tryz.prog 3=⟨1,8,[.int .i64 0],[.int .i64 0],some (.int .i64 0),.int .i64⟩:=by kernel_rfl
theorem ty4:Wv Tryz.prog 4=⟨1,1,[.bool false],[.bool false],some (.bool false),.bool⟩:=by kernel_rfl
theorem ty5:Wv Tryz.prog 5=⟨1,1,[.int .u8 0],[.int .u8 0],some (.int .u8 0),.int .u8⟩:=by kernel_rfl
theorem ty7:Wv Tryz.prog 7=⟨4,24,[.int .i64 0,.int .i64 0,.bool false,.int .u8 0],[.int .i64 0,.int .i64 0,.bool false,.int .u8 0],some (.agg [.int .i64 0,.int .i64 0,.bool false,.int .u8 0]),.struct [(0,1,false),(1,1,false),(2,1,false),(3,1,false)]⟩:=by kernel_rfl
theorem ty9:Wv Tryz.prog 9=⟨1,16,[.str []],[.str []],some (.str []),.str⟩:=by kernel_rfl
theorem r3Y:Wv Tryz.prog 12=⟨1,8,[.int .u64 0],[.int .u64 0],some (.int .u64 0),.int .u64⟩:=by kernel_rfl
theorem r3Z:Wv Tryz.prog 13=⟨2,24,[.str [],.int .u64 0],[.str [],.int .u64 0],some (.agg [.str [],.int .u64 0]),.struct [(0,1,false),(1,1,false)]⟩:=by kernel_rfl
theorem r4a:Wv Tryz.prog 18=⟨1,8,[.d9r],[.d9r],some (.agg [.d9r]),.struct [(0,1,false)]⟩:=by kernel_rfl
theorem r4b:Wv Tryz.prog 21=⟨1,4,[.int .i32 0],[.int .i32 0],some (.int .i32 0),.int .i32⟩:=by kernel_rfl
theorem r4c:Wv Tryz.prog 22=⟨1,24,[.WB],[.sl false 11 216 []],some (.WB),.slice 49⟩:=by kernel_rfl
theorem r4d:Wv Tryz.prog 24=⟨2,16,[.int .i64 0,.int .i64 0],[.int .i64 0,.int .i64 0],some (.agg [.int .i64 0,.int .i64 0]),.struct [(0,1,false),(1,1,false)]⟩:=by kernel_rfl
theorem r4e:Wv Tryz.prog 25=⟨2,16,[.int .i64 0,.int .i64 0],[.int .i64 0,.int .i64 0],some (.agg [.int .i64 0,.int .i64 0]),.struct [(0,1,false),(1,1,false)]⟩:=by kernel_rfl
theorem r1p:Wv Tryz.prog 28=⟨1,24,[.WB],[.sl false 1 16 []],some (.WB),.slice 9⟩:=by kernel_rfl
theorem r4f:Wv Tryz.prog 29=⟨1,24,[.WB],[.sl false 4 72 []],some (.WB),.slice 31⟩:=by kernel_rfl
theorem r4g:Wv Tryz.prog 30=⟨4,72,[.int .i64 0,.str [],.WB,.WB],[.int .i64 0,.str [],.sl false 1 16 [],.sl false 4 72 []],some (.agg [.int .i64 0,.str [],.WB,.WB]),.struct [(0,1,false),(1,1,false),(2,1,false),(3,1,false)]⟩:=by kernel_rfl
theorem r4h:Wv Tryz.prog 31=⟨4,72,[.int .i64 0,.str [],.WB,.WB],[.int .i64 0,.str [],.sl false 1 16 [],.sl false 4 72 []],some (.agg [.int .i64 0,.str [],.WB,.WB]),.struct [(0,1,false),(1,1,false),(2,1,false),(3,1,false)]⟩:=by kernel_rfl
theorem r4i:Wv Tryz.prog 32=⟨1,0,[.any],[.any],some (.any),.other⟩:=by kernel_rfl
theorem r4j:Wv Tryz.prog 34=⟨1,24,[.WB],[.sl false 2 16 []],some (.WB),.slice 43⟩:=by kernel_rfl
theorem r4k:Wv Tryz.prog 35=⟨1,0,[.any],[.any],some (.any),.other⟩:=by kernel_rfl
theorem r4l:Wv Tryz.prog 38=⟨1,8,[.d3M],[.d3M],some (.d3M),.other⟩:=by kernel_rfl
theorem r4m:Wv Tryz.prog 39=⟨1,0,[.any],[.any],some (.any),.other⟩:=by kernel_rfl
theorem r4n:Wv Tryz.prog 42=⟨2,16,[.int .i64 0,.int .i64 0],[.int .i64 0,.int .i64 0],some (.agg [.int .i64 0,.int .i64 0]),.struct [(0,1,false),(1,1,false)]⟩:=by kernel_rfl
theorem r4o:Wv Tryz.prog 43=⟨2,16,[.int .i64 0,.int .i64 0],[.int .i64 0,.int .i64 0],some (.agg [.int .i64 0,.int .i64 0]),.struct [(0,1,false),(1,1,false)]⟩:=by kernel_rfl
theorem r4p:Wv Tryz.prog 46=⟨7,144,[.int .i64 0,.str [],.WB,.WB,.WB,.WB,.WB],[.int .i64 0,.str [],.sl false 1 16 [],.sl false 4 72 [],.sl false 1 16 [],.sl false 1 16 [],.sl false 1 16 []],some (.agg [.int .i64 0,.str [],.WB,.WB,.WB,.WB,.WB]),.struct [(0,4,true),(4,1,false),(5,1,false),(6,1,false)]⟩:=by kernel_rfl
theorem r4q:Wv Tryz.prog 47=⟨7,144,[.int .i64 0,.str [],.WB,.WB,.WB,.WB,.WB],[.int .i64 0,.str [],.sl false 1 16 [],.sl false 4 72 [],.sl false 1 16 [],.sl false 1 16 [],.sl false 1 16 []],some (.agg [.int .i64 0,.str [],.WB,.WB,.WB,.WB,.WB]),.struct [(0,4,true),(4,1,false),(5,1,false),(6,1,false)]⟩:=by kernel_rfl
theorem r4r:Wv Tryz.prog 48=⟨11,216,[.int .i64 0,.str [],.WB,.WB,.WB,.WB,.WB,.int .i64 0,.str [],.WB,.WB],[.int .i64 0,.str [],.sl false 1 16 [],.sl false 4 72 [],.sl false 1 16 [],.sl false 1 16 [],.sl false 1 16 [],.int .i64 0,.str [],.sl false 1 16 [],.sl false 4 72 []],some (.agg [.int .i64 0,.str [],.WB,.WB,.WB,.WB,.WB,.int .i64 0,.str [],.WB,.WB]),.struct [(0,7,true),(7,4,true)]⟩:=by kernel_rfl
theorem r4s:Wv Tryz.prog 49=⟨11,216,[.int .i64 0,.str [],.WB,.WB,.WB,.WB,.WB,.int .i64 0,.str [],.WB,.WB],[.int .i64 0,.str [],.sl false 1 16 [],.sl false 4 72 [],.sl false 1 16 [],.sl false 1 16 [],.sl false 1 16 [],.int .i64 0,.str [],.sl false 1 16 [],.sl false 4 72 []],some (.agg [.int .i64 0,.str [],.WB,.WB,.WB,.WB,.WB,.int .i64 0,.str [],.WB,.WB]),.struct [(0,7,true),(7,4,true)]⟩:=by kernel_rfl
theorem r4t:Wv Tryz.prog 52=⟨1,0,[.any],[.any],some (.any),.other⟩:=by kernel_rfl
theorem r4u:Wv Tryz.prog 54=⟨1,8,[.d3M],[.d3M],some (.d3M),.other⟩:=by kernel_rfl
theorem r4v:Wv Tryz.prog 55=⟨1,24,[.WB],[.sl false 1 1 []],some (.WB),.slice 5⟩:=by kernel_rfl
theorem r4w:Wv Tryz.prog 68=⟨1,24,[.WB],[.sl false 1 1 []],some (.WB),.slice 4⟩:=by kernel_rfl
theorem r4x:Wv Tryz.prog 69=⟨5,80,[.int .i64 0,.str [],.WB,.WB,.int .i64 0],[.int .i64 0,.str [],.sl false 1 16 [],.sl false 1 1 [],.int .i64 0],some (.agg [.int .i64 0,.str [],.WB,.WB,.int .i64 0]),.struct [(0,1,false),(1,1,false),(2,1,false),(3,1,false),(4,1,false)]⟩:=by kernel_rfl
theorem r4y:Wv Tryz.prog 70=⟨5,80,[.int .i64 0,.str [],.WB,.WB,.int .i64 0],[.int .i64 0,.str [],.sl false 1 16 [],.sl false 1 1 [],.int .i64 0],some (.agg [.int .i64 0,.str [],.WB,.WB,.int .i64 0]),.struct [(0,1,false),(1,1,false),(2,1,false),(3,1,false),(4,1,false)]⟩:=by kernel_rfl
theorem r4z:Wv Tryz.prog 71=⟨1,24,[.WB],[.sl false 5 80 []],some (.WB),.slice 70⟩:=by kernel_rfl
theorem r4A:Wv Tryz.prog 76=⟨1,0,[.any],[.any],some (.any),.other⟩:=by kernel_rfl
theorem r4B:Wv Tryz.prog 78=⟨1,0,[.any],[.any],some (.any),.other⟩:=by kernel_rfl
theorem r4C:Wv Tryz.prog 86=⟨1,0,[.any],[.any],some (.any),.other⟩:=by kernel_rfl
theorem r4D:Wv Tryz.prog 88=⟨1,8,[.d4d],[.d4d],some (.d4d),.map 9 28⟩:=by kernel_rfl
theorem r4E:Wv Tryz.prog 90=⟨1,8,[.d3M],[.d3M],some (.d3M),.other⟩:=by kernel_rfl
theorem r4F:Wv Tryz.prog 93=⟨1,24,[.WB],[.sl false 1 24 []],some (.WB),.slice 28⟩:=by kernel_rfl
theorem r4G:Wv Tryz.prog 95=⟨1,8,[.d9r],[.d9r],some (.d9r),.ptr 98⟩:=by kernel_rfl
theorem r4H:Wv Tryz.prog 96=⟨1,8,[.d4d],[.d4d],some (.d4d),.map 9 3⟩:=by kernel_rfl
theorem r4I:Wv Tryz.prog 97=⟨4,64,[.WB,.d4d,.WB,.int .i64 0],[.sl false 11 216 [],.d4d,.sl false 2 16 [],.int .i64 0],some (.agg [.WB,.d4d,.WB,.int .i64 0]),.struct [(0,1,false),(1,1,false),(2,1,false),(3,1,false)]⟩:=by kernel_rfl
theorem r4J:Wv Tryz.prog 98=⟨4,64,[.WB,.d4d,.WB,.int .i64 0],[.sl false 11 216 [],.d4d,.sl false 2 16 [],.int .i64 0],some (.agg [.WB,.d4d,.WB,.int .i64 0]),.struct [(0,1,false),(1,1,false),(2,1,false),(3,1,false)]⟩:=by kernel_rfl
theorem r2z:Wv Tryz.prog 100=⟨1,8,[.d3M],[.d3M],some (.d3M),.other⟩:=by kernel_rfl
theorem r2A:Wv Tryz.prog 101=⟨6,88,[.int .i64 0,.str [],.WB,.WB,.int .i64 0,.int .i64 0],[.int .i64 0,.str [],.sl false 1 16 [],.sl false 4 72 [],.int .i64 0,.int .i64 0],some (.agg [.int .i64 0,.str [],.WB,.WB,.int .i64 0,.int .i64 0]),.struct [(0,4,true),(4,1,false),(5,1,false)]⟩:=by kernel_rfl
theorem r2B:Wv Tryz.prog 102=⟨6,88,[.int .i64 0,.str [],.WB,.WB,.int .i64 0,.int .i64 0],[.int .i64 0,.str [],.sl false 1 16 [],.sl false 4 72 [],.int .i64 0,.int .i64 0],some (.agg [.int .i64 0,.str [],.WB,.WB,.int .i64 0,.int .i64 0]),.struct [(0,4,true),(4,1,false),(5,1,false)]⟩:=by kernel_rfl
theorem r2C:Wv Tryz.prog 103=⟨1,0,[.any],[.any],some (.any),.other⟩:=by kernel_rfl
theorem r2D:Wv Tryz.prog 106=⟨1,8,[.d3M],[.d3M],some (.d3M),.other⟩:=by kernel_rfl
theorem r2E:Wv Tryz.prog 107=⟨5,80,[.int .i64 0,.str [],.WB,.WB,.int .i64 0],[.int .i64 0,.str [],.sl false 1 16 [],.sl false 4 72 [],.int .i64 0],some (.agg [.int .i64 0,.str [],.WB,.WB,.int .i64 0]),.struct [(0,4,true),(4,1,false)]⟩:=by kernel_rfl
theorem r2F:Wv Tryz.prog 108=⟨5,80,[.int .i64 0,.str [],.WB,.WB,.int .i64 0],[.int .i64 0,.str [],.sl false 1 16 [],.sl false 4 72 [],.int .i64 0],some (.agg [.int .i64 0,.str [],.WB,.WB,.int .i64 0]),.struct [(0,4,true),(4,1,false)]⟩:=by kernel_rfl
theorem r2G:Wv Tryz.prog 109=⟨1,24,[.WB],[.sl false 5 80 []],some (.WB),.slice 108⟩:=by kernel_rfl
theorem r2H:Wv Tryz.prog 111=⟨1,24,[.WB],[.sl false 6 104 []],some (.WB),.slice 142⟩:=by kernel_rfl
theorem r2I:Wv Tryz.prog 112=⟨1,24,[.WB],[.sl false 1 8 []],some (.WB),.slice 3⟩:=by kernel_rfl
theorem r2J:Wv Tryz.prog 113=⟨1,0,[.any],[.any],some (.any),.other⟩:=by kernel_rfl
theorem r2K:Wv Tryz.prog 119=⟨1,8,[.d3M],[.d3M],some (.d3M),.other⟩:=by kernel_rfl
theorem r2L:Wv Tryz.prog 121=⟨1,8,[.d3M],[.d3M],some (.d3M),.other⟩:=by kernel_rfl
theorem r2M:Wv Tryz.prog 122=⟨1,8,[.d3M],[.d3M],some (.d3M),.other⟩:=by kernel_rfl
theorem r2N:Wv Tryz.prog 123=⟨1,0,[.any],[.any],some (.any),.other⟩:=by kernel_rfl
theorem r2O:Wv Tryz.prog 126=⟨1,8,[.d4d],[.d4d],some (.d4d),.map 9 9⟩:=by kernel_rfl
theorem r2P:Wv Tryz.prog 127=⟨1,0,[.any],[.any],some (.any),.other⟩:=by kernel_rfl
theorem r2Q:Wv Tryz.prog 128=⟨1,8,[.d3M],[.d3M],some (.d3M),.other⟩:=by kernel_rfl
theorem r2R:Wv Tryz.prog 129=⟨1,0,[.any],[.any],some (.any),.other⟩:=by kernel_rfl
theorem r2S:Wv Tryz.prog 132=⟨1,24,[.WB],[.sl false 6 88 []],some (.WB),.slice 102⟩:=by kernel_rfl
theorem r2T:Wv Tryz.prog 133=⟨1,0,[.any],[.any],some (.any),.other⟩:=by kernel_rfl
theorem r2U:Wv Tryz.prog 137=⟨1,8,[.int .u64 0],[.int .u64 0],some (.int .u64 0),.int .u64⟩:=by kernel_rfl
theorem r2V:Wv Tryz.prog 138=⟨1,8,[.int .u64 0],[.int .u64 0],some (.int .u64 0),.int .u64⟩:=by kernel_rfl
theorem r2W:Wv Tryz.prog 141=⟨6,104,[.str [],.str [],.int .i64 0,.str [],.WB,.WB],[.str [],.str [],.int .i64 0,.str [],.sl false 1 16 [],.sl false 4 72 []],some (.agg [.str [],.str [],.int .i64 0,.str [],.WB,.WB]),.struct [(0,1,false),(1,1,false),(2,4,true)]⟩:=by kernel_rfl
theorem r2X:Wv Tryz.prog 142=⟨6,104,[.str [],.str [],.int .i64 0,.str [],.WB,.WB],[.str [],.str [],.int .i64 0,.str [],.sl false 1 16 [],.sl false 4 72 []],some (.agg [.str [],.str [],.int .i64 0,.str [],.WB,.WB]),.struct [(0,1,false),(1,1,false),(2,4,true)]⟩:=by kernel_rfl
theorem r2Y:Wv Tryz.prog 143=⟨1,24,[.WB],[.sl false 1 24 []],some (.WB),.slice 71⟩:=by kernel_rfl
theorem r2Z:Wv Tryz.prog 146=⟨1,8,[.d9r],[.d9r],some (.d9r),.ptr 3⟩:=by kernel_rfl
theorem r3a:Wv Tryz.prog 147=⟨1,24,[.WB],[.sl false 2 32 []],some (.WB),.slice 149⟩:=by kernel_rfl
theorem r3b:Wv Tryz.prog 148=⟨2,32,[.str [],.str []],[.str [],.str []],some (.agg [.str [],.str []]),.struct [(0,1,false),(1,1,false)]⟩:=by kernel_rfl
theorem r3c:Wv Tryz.prog 149=⟨2,32,[.str [],.str []],[.str [],.str []],some (.agg [.str [],.str []]),.struct [(0,1,false),(1,1,false)]⟩:=by kernel_rfl
theorem r3d:Wv Tryz.prog 155=⟨1,8,[.d4d],[.d4d],some (.d4d),.map 9 142⟩:=by kernel_rfl
theorem r3e:Wv Tryz.prog 156=⟨1,8,[.d4d],[.d4d],some (.d4d),.map 9 142⟩:=by kernel_rfl
theorem r3f:Wv Tryz.prog 159=⟨1,8,[.d3M],[.d3M],some (.d3M),.other⟩:=by kernel_rfl
theorem r3g:Wv Tryz.prog 161=⟨1,8,[.d4d],[.d4d],some (.d4d),.map 9 102⟩:=by kernel_rfl
theorem r3h:Wv Tryz.prog 162=⟨1,8,[.d3M],[.d3M],some (.d3M),.other⟩:=by kernel_rfl
theorem r3i:Wv Tryz.prog 164=⟨1,8,[.int .i64 0],[.int .i64 0],some (.int .i64 0),.int .i64⟩:=by kernel_rfl
theorem r3j:Wv Tryz.prog 165=⟨1,0,[.any],[.any],some (.any),.other⟩:=by kernel_rfl
theorem r3k:Wv Tryz.prog 169=⟨1,0,[.any],[.any],some (.any),.other⟩:=by kernel_rfl
theorem r3l:Wv Tryz.prog 172=⟨1,4,[.int .u32 0],[.int .u32 0],some (.int .u32 0),.int .u32⟩:=by kernel_rfl
theorem r3m:Wv Tryz.prog 175=⟨24,24,[.int .u8 0,.int .u8 0,.int .u8 0,.int .u8 0,.int .u8 0,.int .u8 0,.int .u8 0,.int .u8 0,.int .u8 0,.int .u8 0,.int .u8 0,.int .u8 0,.int .u8 0,.int .u8 0,.int .u8 0,.int .u8 0,.int .u8 0,.int .u8 0,.int .u8 0,.int .u8 0,.int .u8 0,.int .u8 0,.int .u8 0,.int .u8 0],[.int .u8 0,.int .u8 0,.int .u8 0,.int .u8 0,.int .u8 0,.int .u8 0,.int .u8 0,.int .u8 0,.int .u8 0,.int .u8 0,.int .u8 0,.int .u8 0,.int .u8 0,.int .u8 0,.int .u8 0,.int .u8 0,.int .u8 0,.int .u8 0,.int .u8 0,.int .u8 0,.int .u8 0,.int .u8 0,.int .u8 0,.int .u8 0],some (.agg [.int .u8 0,.int .u8 0,.int .u8 0,.int .u8 0,.int .u8 0,.int .u8 0,.int .u8 0,.int .u8 0,.int .u8 0,.int .u8 0,.int .u8 0,.int .u8 0,.int .u8 0,.int .u8 0,.int .u8 0,.int .u8 0,.int .u8 0,.int .u8 0,.int .u8 0,.int .u8 0,.int .u8 0,.int .u8 0,.int .u8 0,.int .u8 0]),.arr 24 5⟩:=by kernel_rfl
theorem r3n:Wv Tryz.prog 177=⟨1,0,[.any],[.any],some (.any),.other⟩:=by kernel_rfl
theorem r3o:Wv Tryz.prog 185=⟨1,8,[.d3M],[.d3M],some (.d3M),.other⟩:=by kernel_rfl
theorem r3p:Wv Tryz.prog 186=⟨1,8,[.d3M],[.d3M],some (.d3M),.other⟩:=by kernel_rfl
theorem r3q:Wv Tryz.prog 187=⟨1,0,[.any],[.any],some (.any),.other⟩:=by kernel_rfl
theorem r3r:Wv Tryz.prog 188=⟨1,8,[.int .u64 0],[.int .u64 0],some (.int .u64 0),.int .u64⟩:=by kernel_rfl
theorem r3s:Wv Tryz.prog 195=⟨20,160,[.int .u64 0,.int .u64 0,.int .u64 0,.int .u64 0,.int .u64 0,.int .u64 0,.int .u64 0,.int .u64 0,.int .u64 0,.int .u64 0,.int .u64 0,.int .u64 0,.int .u64 0,.int .u64 0,.int .u64 0,.int .u64 0,.int .u64 0,.int .u64 0,.int .u64 0,.int .u64 0],[.int .u64 0,.int .u64 0,.int .u64 0,.int .u64 0,.int .u64 0,.int .u64 0,.int .u64 0,.int .u64 0,.int .u64 0,.int .u64 0,.int .u64 0,.int .u64 0,.int .u64 0,.int .u64 0,.int .u64 0,.int .u64 0,.int .u64 0,.int .u64 0,.int .u64 0,.int .u64 0],some (.agg [.int .u64 0,.int .u64 0,.int .u64 0,.int .u64 0,.int .u64 0,.int .u64 0,.int .u64 0,.int .u64 0,.int .u64 0,.int .u64 0,.int .u64 0,.int .u64 0,.int .u64 0,.int .u64 0,.int .u64 0,.int .u64 0,.int .u64 0,.int .u64 0,.int .u64 0,.int .u64 0]),.arr 20 138⟩:=by kernel_rfl
theorem r3t:Wv Tryz.prog 196=⟨65,65,[.int .u8 0,.int .u8 0,.int .u8 0,.int .u8 0,.int .u8 0,.int .u8 0,.int .u8 0,.int .u8 0,.int .u8 0,.int .u8 0,.int .u8 0,.int .u8 0,.int .u8 0,.int .u8 0,.int .u8 0,.int .u8 0,.int .u8 0,.int .u8 0,.int .u8 0,.int .u8 0,.int .u8 0,.int .u8 0,.int .u8 0,.int .u8 0,.int .u8 0,.int .u8 0,.int .u8 0,.int .u8 0,.int .u8 0,.int .u8 0,.int .u8 0,.int .u8 0,.int .u8 0,.int .u8 0,.int .u8 0,.int .u8 0,.int .u8 0,.int .u8 0,.int .u8 0,.int .u8 0,.int .u8 0,.int .u8 0,.int .u8 0,.int .u8 0,.int .u8 0,.int .u8 0,.int .u8 0,.int .u8 0,.int .u8 0,.int .u8 0,.int .u8 0,.int .u8 0,.int .u8 0,.int .u8 0,.int .u8 0,.int .u8 0,.int .u8 0,.int .u8 0,.int .u8 0,.int .u8 0,.int .u8 0,.int .u8 0,.int .u8 0,.int .u8 0,.int .u8 0],[],some (.agg [.int .u8 0,.int .u8 0,.int .u8 0,.int .u8 0,.int .u8 0,.int .u8 0,.int .u8 0,.int .u8 0,.int .u8 0,.int .u8 0,.int .u8 0,.int .u8 0,.int .u8 0,.int .u8 0,.int .u8 0,.int .u8 0,.int .u8 0,.int .u8 0,.int .u8 0,.int .u8 0,.int .u8 0,.int .u8 0,.int .u8 0,.int .u8 0,.int .u8 0,.int .u8 0,.int .u8 0,.int .u8 0,.int .u8 0,.int .u8 0,.int .u8 0,.int .u8 0,.int .u8 0,.int .u8 0,.int .u8 0,.int .u8 0,.int .u8 0,.int .u8 0,.int .u8 0,.int .u8 0,.int .u8 0,.int .u8 0,.int .u8 0,.int .u8 0,.int .u8 0,.int .u8 0,.int .u8 0,.int .u8 0,.int .u8 0,.int .u8 0,.int .u8 0,.int .u8 0,.int .u8 0,.int .u8 0,.int .u8 0,.int .u8 0,.int .u8 0,.int .u8 0,.int .u8 0,.int .u8 0,.int .u8 0,.int .u8 0,.int .u8 0,.int .u8 0,.int .u8 0]),.arr 65 5⟩:=by kernel_rfl
theorem r3u:Wv Tryz.prog 200=⟨1,8,[.d9r],[.d9r],some (.d9r),.ptr 188⟩:=by kernel_rfl
theorem r3v:Wv Tryz.prog 201=⟨1,0,[.any],[.any],some (.any),.other⟩:=by kernel_rfl
theorem r3w:Wv Tryz.prog 204=⟨32,32,[.int .u8 0,.int .u8 0,.int .u8 0,.int .u8 0,.int .u8 0,.int .u8 0,.int .u8 0,.int .u8 0,.int .u8 0,.int .u8 0,.int .u8 0,.int .u8 0,.int .u8 0,.int .u8 0,.int .u8 0,.int .u8 0,.int .u8 0,.int .u8 0,.int .u8 0,.int .u8 0,.int .u8 0,.int .u8 0,.int .u8 0,.int .u8 0,.int .u8 0,.int .u8 0,.int .u8 0,.int .u8 0,.int .u8 0,.int .u8 0,.int .u8 0,.int .u8 0],[.int .u8 0,.int .u8 0,.int .u8 0,.int .u8 0,.int .u8 0,.int .u8 0,.int .u8 0,.int .u8 0,.int .u8 0,.int .u8 0,.int .u8 0,.int .u8 0,.int .u8 0,.int .u8 0,.int .u8 0,.int .u8 0,.int .u8 0,.int .u8 0,.int .u8 0,.int .u8 0,.int .u8 0,.int .u8 0,.int .u8 0,.int .u8 0,.int .u8 0,.int .u8 0,.int .u8 0,.int .u8 0,.int .u8 0,.int .u8 0,.int .u8 0,.int .u8 0],some (.agg [.int .u8 0,.int .u8 0,.int .u8 0,.int .u8 0,.int .u8 0,.int .u8 0,.int .u8 0,.int .u8 0,.int .u8 0,.int .u8 0,.int .u8 0,.int .u8 0,.int .u8 0,.int .u8 0,.int .u8 0,.int .u8 0,.int .u8 0,.int .u8 0,.int .u8 0,.int .u8 0,.int .u8 0,.int .u8 0,.int .u8 0,.int .u8 0,.int .u8 0,.int .u8 0,.int .u8 0,.int .u8 0,.int .u8 0,.int .u8 0,.int .u8 0,.int .u8 0]),.arr 32 5⟩:=by kernel_rfl
theorem r3x:Wv Tryz.prog 205=⟨64,64,[.int .u8 0,.int .u8 0,.int .u8 0,.int .u8 0,.int .u8 0,.int .u8 0,.int .u8 0,.int .u8 0,.int .u8 0,.int .u8 0,.int .u8 0,.int .u8 0,.int .u8 0,.int .u8 0,.int .u8 0,.int .u8 0,.int .u8 0,.int .u8 0,.int .u8 0,.int .u8 0,.int .u8 0,.int .u8 0,.int .u8 0,.int .u8 0,.int .u8 0,.int .u8 0,.int .u8 0,.int .u8 0,.int .u8 0,.int .u8 0,.int .u8 0,.int .u8 0,.int .u8 0,.int .u8 0,.int .u8 0,.int .u8 0,.int .u8 0,.int .u8 0,.int .u8 0,.int .u8 0,.int .u8 0,.int .u8 0,.int .u8 0,.int .u8 0,.int .u8 0,.int .u8 0,.int .u8 0,.int .u8 0,.int .u8 0,.int .u8 0,.int .u8 0,.int .u8 0,.int .u8 0,.int .u8 0,.int .u8 0,.int .u8 0,.int .u8 0,.int .u8 0,.int .u8 0,.int .u8 0,.int .u8 0,.int .u8 0,.int .u8 0,.int .u8 0],[.int .u8 0,.int .u8 0,.int .u8 0,.int .u8 0,.int .u8 0,.int .u8 0,.int .u8 0,.int .u8 0,.int .u8 0,.int .u8 0,.int .u8 0,.int .u8 0,.int .u8 0,.int .u8 0,.int .u8 0,.int .u8 0,.int .u8 0,.int .u8 0,.int .u8 0,.int .u8 0,.int .u8 0,.int .u8 0,.int .u8 0,.int .u8 0,.int .u8 0,.int .u8 0,.int .u8 0,.int .u8 0,.int .u8 0,.int .u8 0,.int .u8 0,.int .u8 0,.int .u8 0,.int .u8 0,.int .u8 0,.int .u8 0,.int .u8 0,.int .u8 0,.int .u8 0,.int .u8 0,.int .u8 0,.int .u8 0,.int .u8 0,.int .u8 0,.int .u8 0,.int .u8 0,.int .u8 0,.int .u8 0,.int .u8 0,.int .u8 0,.int .u8 0,.int .u8 0,.int .u8 0,.int .u8 0,.int .u8 0,.int .u8 0,.int .u8 0,.int .u8 0,.int .u8 0,.int .u8 0,.int .u8 0,.int .u8 0,.int .u8 0,.int .u8 0],some (.agg [.int .u8 0,.int .u8 0,.int .u8 0,.int .u8 0,.int .u8 0,.int .u8 0,.int .u8 0,.int .u8 0,.int .u8 0,.int .u8 0,.int .u8 0,.int .u8 0,.int .u8 0,.int .u8 0,.int .u8 0,.int .u8 0,.int .u8 0,.int .u8 0,.int .u8 0,.int .u8 0,.int .u8 0,.int .u8 0,.int .u8 0,.int .u8 0,.int .u8 0,.int .u8 0,.int .u8 0,.int .u8 0,.int .u8 0,.int .u8 0,.int .u8 0,.int .u8 0,.int .u8 0,.int .u8 0,.int .u8 0,.int .u8 0,.int .u8 0,.int .u8 0,.int .u8 0,.int .u8 0,.int .u8 0,.int .u8 0,.int .u8 0,.int .u8 0,.int .u8 0,.int .u8 0,.int .u8 0,.int .u8 0,.int .u8 0,.int .u8 0,.int .u8 0,.int .u8 0,.int .u8 0,.int .u8 0,.int .u8 0,.int .u8 0,.int .u8 0,.int .u8 0,.int .u8 0,.int .u8 0,.int .u8 0,.int .u8 0,.int .u8 0,.int .u8 0]),.arr 64 5⟩:=by kernel_rfl
theorem r3y:Wv Tryz.prog 215=⟨1,8,[.d9r],[.d9r],some (.d9r),.ptr 5⟩:=by kernel_rfl
theorem fk7:Xh Tryz.prog 7=some [1,1,3,1]:=by kernel_rfl
theorem r4K:Xh Tryz.prog 24=some [1,1]:=by kernel_rfl
theorem r4L:Xh Tryz.prog 25=some [1,1]:=by kernel_rfl
theorem r4M:Xh Tryz.prog 30=some [1,2,0,0]:=by kernel_rfl
theorem r4N:Xh Tryz.prog 31=some [1,2,0,0]:=by kernel_rfl
theorem r4O:Xh Tryz.prog 42=some [1,1]:=by kernel_rfl
theorem r4P:Xh Tryz.prog 43=some [1,1]:=by kernel_rfl
theorem r4Q:Xh Tryz.prog 69=some [1,2,0,0,1]:=by kernel_rfl
theorem r4R:Xh Tryz.prog 70=some [1,2,0,0,1]:=by kernel_rfl
theorem r4S:Xh Tryz.prog 97=some [0,0,0,1]:=by kernel_rfl
theorem r4T:Xh Tryz.prog 98=some [0,0,0,1]:=by kernel_rfl
theorem r3z:Xh Tryz.prog 141=some [2,2,0]:=by kernel_rfl
theorem r3A:Xh Tryz.prog 142=some [2,2,0]:=by kernel_rfl
theorem r3B:Xh Tryz.prog 148=some [2,2]:=by kernel_rfl
theorem r3C:Xh Tryz.prog 149=some [2,2]:=by kernel_rfl
attribute [go_sem] ty0 ty2 ty3 ty4 ty5 ty7 ty9 r3Y r3Z r4a r4b r4c r4d r4e r1p r4f r4g r4h r4i r4j r4k r4l r4m r4n r4o r4p r4q r4r r4s r4t r4u r4v r4w r4x r4y r4z r4A r4B r4C r4D r4E r4F r4G r4H r4I r4J r2z r2A r2B r2C r2D r2E r2F r2G r2H r2I r2J r2K r2L r2M r2N r2O r2P r2Q r2R r2S r2T r2U r2V r2W r2X r2Y r2Z r3a r3b r3c r3d r3e r3f r3g r3h r3i r3j r3k r3l r3m r3n r3o r3p r3q r3r r3s r3t r3u r3v r3w r3x r3y fk7 r4K r4L r4M r4N r4O r4P r4Q r4R r4S r4T r3z r3A r3B r3C
end Go.Proofs.YtfacbpehlibilaaGreatDoor
