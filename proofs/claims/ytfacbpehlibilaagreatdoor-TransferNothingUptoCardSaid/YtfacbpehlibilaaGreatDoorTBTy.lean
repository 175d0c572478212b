import Derived.Test.YtfacbpehlibilaaGreatDoorProg
import Derived.Test.YtfacbpehlibilaaGreatDoorTBAm2
set_option linter.unusedVariables false
set_option linter.unusedSimpArgs false
namespace Go.Proofs.YtfacbpehlibilaaGreatDoor
open Go Go.Am
theorem ty0:OD Tryz.prog 0=⟨1,0,[.any],[.any],some (.any),.other⟩:=by kernel_rfl
theorem ty2:OD Tryz.prog 2=⟨1,8,[.int .i64 0],[.int .i64 0],some (.int .i64 0),.int .i64⟩:=by kernel_rfl
theorem ty3:OD Tryz.prog 3=⟨1,8,[.int .i64 0],[.int .i64 0],some (.int .i64 0),.int .i64⟩:=by kernel_rfl
theorem ty4:OD Tryz.prog 4=⟨1,1,[.bool false],[.bool false],some (.bool false),.bool⟩:=by kernel_rfl
theorem ty5:OD Tryz.prog 5=⟨1,1,[.int .u8 0],[.int .u8 0],some (.int .u8 0),.int .u8⟩:=by kernel_rfl
theorem ty7:OD Tryz.prog 7=⟨4,24,[.int .i64 0,.int .i64 0,.bool false,.int .u8 0],[.int .i64 0,.int .i64 0,.bool false,.int .u8 0],some (.agg [.int .i64 0,.int .i64 0,.bool false,.int .u8 0]),.struct [(0,1,false),(1,1,false),(2,1,false),(3,1,false)]⟩:=by kernel_rfl
theorem ty9:OD Tryz.prog 9=⟨1,16,[.str []],[.str []],some (.str []),.str⟩:=by kernel_rfl
theorem p3h:OD Tryz.prog 12=⟨1,8,[.int .u64 0],[.int .u64 0],some (.int .u64 0),.int .u64⟩:=by kernel_rfl
theorem p3i:OD Tryz.prog 13=⟨2,24,[.str [],.int .u64 0],[.str [],.int .u64 0],some (.agg [.str [],.int .u64 0]),.struct [(0,1,false),(1,1,false)]⟩:=by kernel_rfl
theorem p3j:OD Tryz.prog 18=⟨1,8,[.d2v],[.d2v],some (.agg [.d2v]),.struct [(0,1,false)]⟩:=by kernel_rfl
theorem p3k:OD Tryz.prog 21=⟨1,4,[.int .i32 0],[.int .i32 0],some (.int .i32 0),.int .i32⟩:=by kernel_rfl
theorem p3l:OD Tryz.prog 22=⟨1,24,[.OI],[.sl false 11 216 []],some (.OI),.slice 49⟩:=by kernel_rfl
theorem p3m:OD Tryz.prog 24=⟨2,16,[.int .i64 0,.int .i64 0],[.int .i64 0,.int .i64 0],some (.agg [.int .i64 0,.int .i64 0]),.struct [(0,1,false),(1,1,false)]⟩:=by kernel_rfl
theorem p3n:OD Tryz.prog 25=⟨2,16,[.int .i64 0,.int .i64 0],[.int .i64 0,.int .i64 0],some (.agg [.int .i64 0,.int .i64 0]),.struct [(0,1,false),(1,1,false)]⟩:=by kernel_rfl
theorem p0F:OD Tryz.prog 28=⟨1,24,[.OI],[.sl false 1 16 []],some (.OI),.slice 9⟩:=by kernel_rfl
theorem p3o:OD Tryz.prog 29=⟨1,24,[.OI],[.sl false 4 72 []],some (.OI),.slice 31⟩:=by kernel_rfl
theorem p3p:OD Tryz.prog 30=⟨4,72,[.int .i64 0,.str [],.OI,.OI],[.int .i64 0,.str [],.sl false 1 16 [],.sl false 4 72 []],some (.agg [.int .i64 0,.str [],.OI,.OI]),.struct [(0,1,false),(1,1,false),(2,1,false),(3,1,false)]⟩:=by kernel_rfl
theorem p3q:OD Tryz.prog 31=⟨4,72,[.int .i64 0,.str [],.OI,.OI],[.int .i64 0,.str [],.sl false 1 16 [],.sl false 4 72 []],some (.agg [.int .i64 0,.str [],.OI,.OI]),.struct [(0,1,false),(1,1,false),(2,1,false),(3,1,false)]⟩:=by kernel_rfl
theorem p3r:OD Tryz.prog 32=⟨1,0,[.any],[.any],some (.any),.other⟩:=by kernel_rfl
theorem p3s:OD Tryz.prog 34=⟨1,24,[.OI],[.sl false 2 16 []],some (.OI),.slice 43⟩:=by kernel_rfl
theorem p3t:OD Tryz.prog 35=⟨1,0,[.any],[.any],some (.any),.other⟩:=by kernel_rfl
theorem p3u:OD Tryz.prog 38=⟨1,8,[.WZ],[.WZ],some (.WZ),.other⟩:=by kernel_rfl
theorem p3v:OD Tryz.prog 39=⟨1,0,[.any],[.any],some (.any),.other⟩:=by kernel_rfl
theorem p3w:OD Tryz.prog 42=⟨2,16,[.int .i64 0,.int .i64 0],[.int .i64 0,.int .i64 0],some (.agg [.int .i64 0,.int .i64 0]),.struct [(0,1,false),(1,1,false)]⟩:=by kernel_rfl
theorem p3x:OD Tryz.prog 43=⟨2,16,[.int .i64 0,.int .i64 0],[.int .i64 0,.int .i64 0],some (.agg [.int .i64 0,.int .i64 0]),.struct [(0,1,false),(1,1,false)]⟩:=by kernel_rfl
theorem p3y:OD Tryz.prog 46=⟨7,144,[.int .i64 0,.str [],.OI,.OI,.OI,.OI,.OI],[.int .i64 0,.str [],.sl false 1 16 [],.sl false 4 72 [],.sl false 1 16 [],.sl false 1 16 [],.sl false 1 16 []],some (.agg [.int .i64 0,.str [],.OI,.OI,.OI,.OI,.OI]),.struct [(0,4,true),(4,1,false),(5,1,false),(6,1,false)]⟩:=by kernel_rfl
theorem p3z:OD Tryz.prog 47=⟨7,144,[.int .i64 0,.str [],.OI,.OI,.OI,.OI,.OI],[.int .i64 0,.str [],.sl false 1 16 [],.sl false 4 72 [],.sl false 1 16 [],.sl false 1 16 [],.sl false 1 16 []],some (.agg [.int .i64 0,.str [],.OI,.OI,.OI,.OI,.OI]),.struct [(0,4,true),(4,1,false),(5,1,false),(6,1,false)]⟩:=by kernel_rfl
theorem p3A:OD Tryz.prog 48=⟨11,216,[.int .i64 0,.str [],.OI,.OI,.OI,.OI,.OI,.int .i64 0,.str [],.OI,.OI],[.int .i64 0,.str [],.sl false 1 16 [],.sl false 4 72 [],.sl false 1 16 [],.sl false 1 16 [],.sl false 1 16 [],.int .i64 0,.str [],.sl false 1 16 [],.sl false 4 72 []],some (.agg [.int .i64 0,.str [],.OI,.OI,.OI,.OI,.OI,.int .i64 0,.str [],.OI,.OI]),.struct [(0,7,true),(7,4,true)]⟩:=by kernel_rfl
theorem p3B:OD Tryz.prog 49=⟨11,216,[.int .i64 0,.str [],.OI,.OI,.OI,.OI,.OI,.int .i64 0,.str [],.OI,.OI],[.int .i64 0,.str [],.sl false 1 16 [],.sl false 4 72 [],.sl false 1 16 [],.sl false 1 16 [],.sl false 1 16 [],.int .i64 0,.str [],.sl false 1 16 [],.sl false 4 72 []],some (.agg [.int .i64 0,.str [],.OI,.OI,.OI,.OI,.OI,.int .i64 0,.str [],.OI,.OI]),.struct [(0,7,true),(7,4,true)]⟩:=by kernel_rfl
theorem p3C:OD Tryz.prog 52=⟨1,0,[.any],[.any],some (.any),.other⟩:=by kernel_rfl
theorem p3D:OD Tryz.prog 54=⟨1,8,[.WZ],[.WZ],some (.WZ),.other⟩:=by kernel_rfl
theorem p3E:OD Tryz.prog 55=⟨1,24,[.OI],[.sl false 1 1 []],some (.OI),.slice 5⟩:=by kernel_rfl
theorem p3F:OD Tryz.prog 68=⟨1,24,[.OI],[.sl false 1 1 []],some (.OI),.slice 4⟩:=by kernel_rfl
theorem p3G:OD Tryz.prog 69=⟨5,80,[.int .i64 0,.str [],.OI,.OI,.int .i64 0],[.int .i64 0,.str [],.sl false 1 16 [],.sl false 1 1 [],.int .i64 0],some (.agg [.int .i64 0,.str [],.OI,.OI,.int .i64 0]),.struct [(0,1,false),(1,1,false),(2,1,false),(3,1,false),(4,1,false)]⟩:=by kernel_rfl
theorem p3H:OD Tryz.prog 70=⟨5,80,[.int .i64 0,.str [],.OI,.OI,.int .i64 0],[.int .i64 0,.str [],.sl false 1 16 [],.sl false 1 1 [],.int .i64 0],some (.agg [.int .i64 0,.str [],.OI,.OI,.int .i64 0]),.struct [(0,1,false),(1,1,false),(2,1,false),(3,1,false),(4,1,false)]⟩:=by kernel_rfl
theorem p3I:OD Tryz.prog 71=⟨1,24,[.OI],[.sl false 5 80 []],some (.OI),.slice 70⟩:=by kernel_rfl
theorem p3J:OD Tryz.prog 76=⟨1,0,[.any],[.any],some (.any),.other⟩:=by kernel_rfl
theorem p3K:OD Tryz.prog 78=⟨1,0,[.any],[.any],some (.any),.other⟩:=by kernel_rfl
theorem p3L:OD Tryz.prog 86=⟨1,0,[.any],[.any],some (.any),.other⟩:=by kernel_rfl
theorem p3M:OD Tryz.prog 88=⟨1,8,[.Xu],[.Xu],some (.Xu),.map 9 28⟩:=by kernel_rfl
theorem p3N:OD Tryz.prog 90=⟨1,8,[.WZ],[.WZ],some (.WZ),.other⟩:=by kernel_rfl
theorem p3O:OD Tryz.prog 93=⟨1,24,[.OI],[.sl false 1 24 []],some (.OI),.slice 28⟩:=by kernel_rfl
theorem p3P:OD Tryz.prog 95=⟨1,8,[.d2v],[.d2v],some (.d2v),.ptr 98⟩:=by kernel_rfl
theorem p3Q:OD Tryz.prog 96=⟨1,8,[.Xu],[.Xu],some (.Xu),.map 9 3⟩:=by kernel_rfl
theorem p3R:OD Tryz.prog 97=⟨4,64,[.OI,.Xu,.OI,.int .i64 0],[.sl false 11 216 [],.Xu,.sl false 2 16 [],.int .i64 0],some (.agg [.OI,.Xu,.OI,.int .i64 0]),.struct [(0,1,false),(1,1,false),(2,1,false),(3,1,false)]⟩:=by kernel_rfl
theorem p3S:OD Tryz.prog 98=⟨4,64,[.OI,.Xu,.OI,.int .i64 0],[.sl false 11 216 [],.Xu,.sl false 2 16 [],.int .i64 0],some (.agg [.OI,.Xu,.OI,.int .i64 0]),.struct [(0,1,false),(1,1,false),(2,1,false),(3,1,false)]⟩:=by kernel_rfl
theorem p1L:OD Tryz.prog 100=⟨1,8,[.WZ],[.WZ],some (.WZ),.other⟩:=by kernel_rfl
theorem p1M:OD Tryz.prog 101=⟨6,88,[.int .i64 0,.str [],.OI,.OI,.int .i64 0,.int .i64 0],[.int .i64 0,.str [],.sl false 1 16 [],.sl false 4 72 [],.int .i64 0,.int .i64 0],some (.agg [.int .i64 0,.str [],.OI,.OI,.int .i64 0,.int .i64 0]),.struct [(0,4,true),(4,1,false),(5,1,false)]⟩:=by kernel_rfl
theorem p1N:OD Tryz.prog 102=⟨6,88,[.int .i64 0,.str [],.OI,.OI,.int .i64 0,.int .i64 0],[.int .i64 0,.str [],.sl false 1 16 [],.sl false 4 72 [],.int .i64 0,.int .i64 0],some (.agg [.int .i64 0,.str [],.OI,.OI,.int .i64 0,.int .i64 0]),.struct [(0,4,true),(4,1,false),(5,1,false)]⟩:=by kernel_rfl
theorem p1O:OD Tryz.prog 103=⟨1,0,[.any],[.any],some (.any),.other⟩:=by kernel_rfl
theorem p1P:OD Tryz.prog 106=⟨1,8,[.WZ],[.WZ],some (.WZ),.other⟩:=by kernel_rfl
theorem p1Q:OD Tryz.prog 107=⟨5,80,[.int .i64 0,.str [],.OI,.OI,.int .i64 0],[.int .i64 0,.str [],.sl false 1 16 [],.sl false 4 72 [],.int .i64 0],some (.agg [.int .i64 0,.str [],.OI,.OI,.int .i64 0]),.struct [(0,4,true),(4,1,false)]⟩:=by kernel_rfl
theorem p1R:OD Tryz.prog 108=⟨5,80,[.int .i64 0,.str [],.OI,.OI,.int .i64 0],[.int .i64 0,.str [],.sl false 1 16 [],.sl false 4 72 [],.int .i64 0],some (.agg [.int .i64 0,.str [],.OI,.OI,.int .i64 0]),.struct [(0,4,true),(4,1,false)]⟩:=by kernel_rfl
theorem p1S:OD Tryz.prog 109=⟨1,24,[.OI],[.sl false 5 80 []],some (.OI),.slice 108⟩:=by kernel_rfl
theorem p1T:OD Tryz.prog 111=⟨1,24,[.OI],[.sl false 6 104 []],some (.OI),.slice 142⟩:=by kernel_rfl
theorem p1U:OD Tryz.prog 112=⟨1,24,[.OI],[.sl false 1 8 []],some (.OI),.slice 3⟩:=by kernel_rfl
theorem p1V:OD Tryz.prog 113=⟨1,0,[.any],[.any],some (.any),.other⟩:=by kernel_rfl
theorem p1W:OD Tryz.prog 119=⟨1,8,[.WZ],[.WZ],some (.WZ),.other⟩:=by kernel_rfl
theorem p1X:OD Tryz.prog 121=⟨1,8,[.WZ],[.WZ],some (.WZ),.other⟩:=by kernel_rfl
theorem p1Y:OD Tryz.prog 122=⟨1,8,[.WZ],[.WZ],some (.WZ),.other⟩:=by kernel_rfl
theorem p1Z:OD Tryz.prog 123=⟨1,0,[.any],[.any],some (.any),.other⟩:=by kernel_rfl
theorem p2a:OD Tryz.prog 126=⟨1,8,[.Xu],[.Xu],some (.Xu),.map 9 9⟩:=by kernel_rfl
theorem p2b:OD Tryz.prog 127=⟨1,0,[.any],[.any],some (.any),.other⟩:=by kernel_rfl
theorem p2c:OD Tryz.prog 128=⟨1,8,[.WZ],[.WZ],some (.WZ),.other⟩:=by kernel_rfl
theorem p2d:OD Tryz.prog 129=⟨1,0,[.any],[.any],some (.any),.other⟩:=by kernel_rfl
theorem p2e:OD Tryz.prog 132=⟨1,24,[.OI],[.sl false 6 88 []],some (.OI),.slice 102⟩:=by kernel_rfl
theorem p2f:OD Tryz.prog 133=⟨1,0,[.any],[.any],some (.any),.other⟩:=by kernel_rfl
theorem p2g:OD Tryz.prog 137=⟨1,8,[.int .u64 0],[.int .u64 0],some (.int .u64 0),.int .u64⟩:=by kernel_rfl
theorem p2h:OD Tryz.prog 138=⟨1,8,[.int .u64 0],[.int .u64 0],some (.int .u64 0),.int .u64⟩:=by kernel_rfl
theorem p2i:OD Tryz.prog 141=⟨6,104,[.str [],.str [],.int .i64 0,.str [],.OI,.OI],[.str [],.str [],.int .i64 0,.str [],.sl false 1 16 [],.sl false 4 72 []],some (.agg [.str [],.str [],.int .i64 0,.str [],.OI,.OI]),.struct [(0,1,false),(1,1,false),(2,4,true)]⟩:=by kernel_rfl
theorem p2j:OD Tryz.prog 142=⟨6,104,[.str [],.str [],.int .i64 0,.str [],.OI,.OI],[.str [],.str [],.int .i64 0,.str [],.sl false 1 16 [],.sl false 4 72 []],some (.agg [.str [],.str [],.int .i64 0,.str [],.OI,.OI]),.struct [(0,1,false),(1,1,false),(2,4,true)]⟩:=by kernel_rfl
theorem p2k:OD Tryz.prog 143=⟨1,24,[.OI],[.sl false 1 24 []],some (.OI),.slice 71⟩:=by kernel_rfl
theorem p2l:OD Tryz.prog 146=⟨1,8,[.d2v],[.d2v],some (.d2v),.ptr 3⟩:=by kernel_rfl
theorem p2m:OD Tryz.prog 147=⟨1,24,[.OI],[.sl false 2 32 []],some (.OI),.slice 149⟩:=by kernel_rfl
theorem p2n:OD Tryz.prog 148=⟨2,32,[.str [],.str []],[.str [],.str []],some (.agg [.str [],.str []]),.struct [(0,1,false),(1,1,false)]⟩:=by kernel_rfl
theorem p2o:OD Tryz.prog 149=⟨2,32,[.str [],.str []],[.str [],.str []],some (.agg [.str [],.str []]),.struct [(0,1,false),(1,1,false)]⟩:=by kernel_rfl
theorem p2p:OD Tryz.prog 155=⟨1,8,[.Xu],[.Xu],some (.Xu),.map 9 142⟩:=by kernel_rfl
theorem p2q:OD Tryz.prog 156=⟨1,8,[.Xu],[.Xu],some (.Xu),.map 9 142⟩:=by kernel_rfl
theorem p2r:OD Tryz.prog 159=⟨1,8,[.WZ],[.WZ],some (.WZ),.other⟩:=by kernel_rfl
theorem p2s:OD Tryz.prog 161=⟨1,8,[.Xu],[.Xu],some (.Xu),.map 9 102⟩:=by kernel_rfl
theorem p2t:OD Tryz.prog 162=⟨1,8,[.WZ],[.WZ],some (.WZ),.other⟩:=by kernel_rfl
theorem p2u:OD Tryz.prog 164=⟨1,8,[.int .i64 0],[.int .i64 0],some (.int .i64 0),.int .i64⟩:=by kernel_rfl
theorem p2v:OD Tryz.prog 165=⟨1,0,[.any],[.any],some (.any),.other⟩:=by kernel_rfl
theorem p2w:OD Tryz.prog 169=⟨1,0,[.any],[.any],some (.any),.other⟩:=by kernel_rfl
theorem p2x:OD Tryz.prog 172=⟨1,4,[.int .u32 0],[.int .u32 0],some (.int .u32 0),.int .u32⟩:=by kernel_rfl
theorem p2y:OD Tryz.prog 175=⟨24,24,[.int .u8 0,.int .u8 0,.int .u8 0,.int .u8 0,.int .u8 0,.int .u8 0,.int .u8 0,.int .u8 0,.int .u8 0,.int .u8 0,.int .u8 0,.int .u8 0,.int .u8 0,.int .u8 0,.int .u8 0,.int .u8 0,.int .u8 0,.int .u8 0,.int .u8 0,.int .u8 0,.int .u8 0,.int .u8 0,.int .u8 0,.int .u8 0],[.int .u8 0,.int .u8 0,.int .u8 0,.int .u8 0,.int .u8 0,.int .u8 0,.int .u8 0,.int .u8 0,.int .u8 0,.int .u8 0,.int .u8 0,.int .u8 0,.int .u8 0,.int .u8 0,.int .u8 0,.int .u8 0,.int .u8 0,.int .u8 0,.int .u8 0,.int .u8 0,.int .u8 0,.int .u8 0,.int .u8 0,.int .u8 0],some (.agg [.int .u8 0,.int .u8 0,.int .u8 0,.int .u8 0,.int .u8 0,.int .u8 0,.int .u8 0,.int .u8 0,.int .u8 0,.int .u8 0,.int .u8 0,.int .u8 0,.int .u8 0,.int .u8 0,.int .u8 0,.int .u8 0,.int .u8 0,.int .u8 0,.int .u8 0,.int .u8 0,.int .u8 0,.int .u8 0,.int .u8 0,.int .u8 0]),.arr 24 5⟩:=by kernel_rfl
theorem p2z:OD Tryz.prog 177=⟨1,0,[.any],[.any],some (.any),.other⟩:=by kernel_rfl
theorem p2A:OD Tryz.prog 185=⟨1,8,[.WZ],[.WZ],some (.WZ),.other⟩:=by kernel_rfl
theorem p2B:OD Tryz.prog 186=⟨1,8,[.WZ],[.WZ],some (.WZ),.other⟩:=by kernel_rfl
theorem p2C:OD Tryz.prog 187=⟨1,0,[.any],[.any],some (.any),.other⟩:=by kernel_rfl
theorem p2D:OD Tryz.prog 188=⟨1,8,[.int .u64 0],[.int .u64 0],some (.int .u64 0),.int .u64⟩:=by kernel_rfl
theorem p2E:OD Tryz.prog 195=⟨20,160,[.int .u64 0,.int .u64 0,.int .u64 0,.int .u64 0,.int .u64 0,.int .u64 0,.int .u64 0,.int .u64 0,.int .u64 0,.int .u64 0,.int .u64 0,.int .u64 0,.int .u64 0,.int .u64 0,.int .u64 0,.int .u64 0,.int .u64 0,.int .u64 0,.int .u64 0,.int .u64 0],[.int .u64 0,.int .u64 0,.int .u64 0,.int .u64 0,.int .u64 0,.int .u64 0,.int .u64 0,.int .u64 0,.int .u64 0,.int .u64 0,.int .u64 0,.int .u64 0,.int .u64 0,.int .u64 0,.int .u64 0,.int .u64 0,.int .u64 0,.int .u64 0,.int .u64 0,.int .u64 0],some (.agg [.int .u64 0,.int .u64 0,.int .u64 0,.int .u64 0,.int .u64 0,.int .u64 0,.int .u64 0,.int .u64 0,.int .u64 0,.int .u64 0,.int .u64 0,.int .u64 0,.int .u64 0,.int .u64 0,.int .u64 0,.int .u64 0,.int .u64 0,.int .u64 0,.int .u64 0,.int .u64 0]),.arr 20 138⟩:=by kernel_rfl
theorem p2F:OD Tryz.prog 196=⟨65,65,[.int .u8 0,.int .u8 0,.int .u8 0,.int .u8 0,.int .u8 0,.int .u8 0,.int .u8 0,.int .u8 0,.int .u8 0,.int .u8 0,.int .u8 0,.int .u8 0,.int .u8 0,.int .u8 0,.int .u8 0,.int .u8 0,.int .u8 0,.int .u8 0,.int .u8 0,.int .u8 0,.int .u8 0,.int .u8 0,.int .u8 0,.int .u8 0,.int .u8 0,.int .u8 0,.int .u8 0,.int .u8 0,.int .u8 0,.int .u8 0,.int .u8 0,.int .u8 0,.int .u8 0,.int .u8 0,.int .u8 0,.int .u8 0,.int .u8 0,.int .u8 0,.int .u8 0,.int .u8 0,.int .u8 0,.int .u8 0,.int .u8 0,.int .u8 0,.int .u8 0,.int .u8 0,.int .u8 0,.int .u8 0,.int .u8 0,.int .u8 0,.int .u8 0,.int .u8 0,.int .u8 0,.int .u8 0,.int .u8 0,.int .u8 0,.int .u8 0,.int .u8 0,.int .u8 0,.int .u8 0,.int .u8 0,.int .u8 0,.int .u8 0,.int .u8 0,.int .u8 0],[],some (.agg [.int .u8 0,.int .u8 0,.int .u8 0,.int .u8 0,.int .u8 0,.int .u8 0,.int .u8 0,.int .u8 0,.int .u8 0,.int .u8 0,.int .u8 0,.int .u8 0,.int .u8 0,.int .u8 0,.int .u8 0,.int .u8 0,.int .u8 0,.int .u8 0,.int .u8 0,.int .u8 0,.int .u8 0,.int .u8 0,.int .u8 0,.int .u8 0,.int .u8 0,.int .u8 0,.int .u8 0,.int .u8 0,.int .u8 0,.int .u8 0,.int .u8 0,.int .u8 0,.int .u8 0,.int .u8 0,.int .u8 0,.int .u8 0,.int .u8 0,.int .u8 0,.int .u8 0,.int .u8 0,.int .u8 0,.int .u8 0,.int .u8 0,.int .u8 0,.int .u8 0,.int .u8 0,.int .u8 0,.int .u8 0,.int .u8 0,.int .u8 0,.int .u8 0,.int .u8 0,.int .u8 0,.int .u8 0,.int .u8 0,.int .u8 0,.int .u8 0,.int .u8 0,.int .u8 0,.int .u8 0,.int .u8 0,.int .u8 0,.int .u8 0,.int .u8 0,.int .u8 0]),.arr 65 5⟩:=by kernel_rfl
theorem p2G:OD Tryz.prog 200=⟨1,8,[.d2v],[.d2v],some (.d2v),.ptr 188⟩:=by kernel_rfl
theorem p2H:OD Tryz.prog 201=⟨1,0,[.any],[.any],some (.any),.other⟩:=by kernel_rfl
theorem p2I:OD Tryz.prog 204=⟨32,32,[.int .u8 0,.int .u8 0,.int .u8 0,.int .u8 0,.int .u8 0,.int .u8 0,.int .u8 0,.int .u8 0,.int .u8 0,.int .u8 0,.int .u8 0,.int .u8 0,.int .u8 0,.int .u8 0,.int .u8 0,.int .u8 0,.int .u8 0,.int .u8 0,.int .u8 0,.int .u8 0,.int .u8 0,.int .u8 0,.int .u8 0,.int .u8 0,.int .u8 0,.int .u8 0,.int .u8 0,.int .u8 0,.int .u8 0,.int .u8 0,.int .u8 0,.int .u8 0],[.int .u8 0,.int .u8 0,.int .u8 0,.int .u8 0,.int .u8 0,.int .u8 0,.int .u8 0,.int .u8 0,.int .u8 0,.int .u8 0,.int .u8 0,.int .u8 0,.int .u8 0,.int .u8 0,.int .u8 0,.int .u8 0,.int .u8 0,.int .u8 0,.int .u8 0,.int .u8 0,.int .u8 0,.int .u8 0,.int .u8 0,.int .u8 0,.int .u8 0,.int .u8 0,.int .u8 0,.int .u8 0,.int .u8 0,.int .u8 0,.int .u8 0,.int .u8 0],some (.agg [.int .u8 0,.int .u8 0,.int .u8 0,.int .u8 0,.int .u8 0,.int .u8 0,.int .u8 0,.int .u8 0,.int .u8 0,.int .u8 0,.int .u8 0,.int .u8 0,.int .u8 0,.int .u8 0,.int .u8 0,.int .u8 0,.int .u8 0,.int .u8 0,.int .u8 0,.int .u8 0,.int .u8 0,.int .u8 0,.int .u8 0,.int .u8 0,.int .u8 0,.int .u8 0,.int .u8 0,.int .u8 0,.int .u8 0,.int .u8 0,.int .u8 0,.int .u8 0]),.arr 32 5⟩:=by kernel_rfl
theorem p2J:OD Tryz.prog 205=⟨64,64,[.int .u8 0,.int .u8 0,.int .u8 0,.int .u8 0,.int .u8 0,.int .u8 0,.int .u8 0,.int .u8 0,.int .u8 0,.int .u8 0,.int .u8 0,.int .u8 0,.int .u8 0,.int .u8 0,.int .u8 0,.int .u8 0,.int .u8 0,.int .u8 0,.int .u8 0,.int .u8 0,.int .u8 0,.int .u8 0,.int .u8 0,.int .u8 0,.int .u8 0,.int .u8 0,.int .u8 0,.int .u8 0,.int .u8 0,.int .u8 0,.int .u8 0,.int .u8 0,.int .u8 0,.int .u8 0,.int .u8 0,.int .u8 0,.int .u8 0,.int .u8 0,.int .u8 0,.int .u8 0,.int .u8 0,.int .u8 0,.int .u8 0,.int .u8 0,.int .u8 0,.int .u8 0,.int .u8 0,.int .u8 0,.int .u8 0,.int .u8 0,.int .u8 0,.int .u8 0,.int .u8 0,.int .u8 0,.int .u8 0,.int .u8 0,.int .u8 0,.int .u8 0,.int .u8 0,.int .u8 0,.int .u8 0,.int .u8 0,.int .u8 0,.int .u8 0],[.int .u8 0,.int .u8 0,.int .u8 0,.int .u8 0,.int .u8 0,.int .u8 0,.int .u8 0,.int .u8 0,.int .u8 0,.int .u8 0,.int .u8 0,.int .u8 0,.int .u8 0,.int .u8 0,.int .u8 0,.int .u8 0,.int .u8 0,.int .u8 0,.int .u8 0,.int .u8 0,.int .u8 0,.int .u8 0,.int .u8 0,.int .u8 0,.int .u8 0,.int .u8 0,.int .u8 0,.int .u8 0,.int .u8 0,.int .u8 0,.int .u8 0,.int .u8 0,.int .u8 0,.int .u8 0,.int .u8 0,.int .u8 0,.int .u8 0,.int .u8 0,.int .u8 0,.int .u8 0,.int .u8 0,.int .u8 0,.int .u8 0,.int .u8 0,.int .u8 0,.int .u8 0,.int .u8 0,.int .u8 0,.int .u8 0,.int .u8 0,.int .u8 0,.int .u8 0,.int .u8 0,.int .u8 0,.int .u8 0,.int .u8 0,.int .u8 0,.int .u8 0,.int .u8 0,.int .u8 0,.int .u8 0,.int .u8 0,.int .u8 0,.int .u8 0],some (.agg [.int .u8 0,.int .u8 0,.int .u8 0,.int .u8 0,.int .u8 0,.int .u8 0,.int .u8 0,.int .u8 0,.int .u8 0,.int .u8 0,.int .u8 0,.int .u8 0,.int .u8 0,.int .u8 0,.int .u8 0,.int .u8 0,.int .u8 0,.int .u8 0,.int .u8 0,.int .u8 0,.int .u8 0,.int .u8 0,.int .u8 0,.int .u8 0,.int .u8 0,.int .u8 0,.int .u8 0,.int .u8 0,.int .u8 0,.int .u8 0,.int .u8 0,.int .u8 0,.int .u8 0,.int .u8 0,.int .u8 0,.int .u8 0,.int .u8 0,.int .u8 0,.int .u8 0,.int .u8 0,.int .u8 0,.int .u8 0,.int .u8 0,.int .u8 0,.int .u8 0,.int .u8 0,.int .u8 0,.int .u8 0,.int .u8 0,.int .u8 0,.int .u8 0,.int .u8 0,.int .u8 0,.int .u8 0,.int .u8 0,.int .u8 0,.int .u8 0,.int .u8 0,.int .u8 0,.int .u8 0,.int .u8 0,.int .u8 0,.int .u8 0,.int .u8 0]),.arr 64 5⟩:=by kernel_rfl
theorem p2K:OD Tryz.prog 215=⟨1,8,[.d2v],[.d2v],some (.d2v),.ptr 5⟩:=by kernel_rfl
theorem fk7:Pu Tryz.prog 7=some [1,1,3,1]:=by kernel_rfl
theorem p3T:Pu Tryz.prog 24=some [1,1]:=by kernel_rfl
theorem p3U:Pu Tryz.prog 25=some [1,1]:=by kernel_rfl
theorem p3V:Pu Tryz.prog 30=some [1,2,0,0]:=by kernel_rfl
theorem p3W:Pu Tryz.prog 31=some [1,2,0,0]:=by kernel_rfl
theorem p3X:Pu Tryz.prog 42=some [1,1]:=by kernel_rfl
theorem p3Y:Pu Tryz.prog 43=some [1,1]:=by kernel_rfl
theorem p3Z:Pu Tryz.prog 69=some [1,2,0,0,1]:=by kernel_rfl
theorem p4a:Pu Tryz.prog 70=some [1,2,0,0,1]:=by kernel_rfl
theorem p4b:Pu Tryz.prog 97=some [0,0,0,1]:=by kernel_rfl
theorem p4c:Pu Tryz.prog 98=some [0,0,0,1]:=by kernel_rfl
theorem p2L:Pu Tryz.prog 141=some [2,2,0]:=by kernel_rfl
theorem p2M:Pu Tryz.prog 142=some [2,2,0]:=by kernel_rfl
theorem p2N:Pu Tryz.prog 148=some [2,2]:=by kernel_rfl
theorem p2O:Pu Tryz.prog 149=some [2,2]:=by kernel_rfl
attribute [go_sem] ty0 ty2 ty3 ty4 ty5 ty7 ty9 p3h p3i p3j p3k p3l p3m p3n p0F p3o p3p p3q p3r p3s p3t p3u p3v p3w p3x p3y p3z p3A p3B p3C p3D p3E p3F p3G p3H p3I p3J p3K p3L p3M p3N p3O p3P p3Q p3R p3S p1L p1M p1N p1O p1P p1Q p1R p1S p1T p1U p1V p1W p1X p1Y p1Z p2a p2b p2c p2d p2e p2f p2g p2h p2i p2j p2k p2l p2m p2n p2o p2p p2q p2r p2s p2t p2u p2v p2w p2x p2y p2z p2A p2B p2C p2D p2E p2F p2G p2H p2I p2J p2K fk7 p3T p3U p3V p3W p3X p3Y p3Z p4a p4b p4c p2L p2M p2N p2O
end Go.Proofs.YtfacbpehlibilaaGreatDoor
