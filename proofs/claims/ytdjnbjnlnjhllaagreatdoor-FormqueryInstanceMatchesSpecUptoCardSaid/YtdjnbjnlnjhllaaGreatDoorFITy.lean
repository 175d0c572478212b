import Derived.Test.YtdjnbjnlnjhllaaGreatDoorProg
import Derived.Test.YtdjnbjnlnjhllaaGreatDoorFIAm3
set_option linter.unusedVariables false
set_option linter.unusedSimpArgs false
namespace Go.Proofs.YtdjnbjnlnjhllaaGreatDoor
open Go Go.Am
theorem ty0:w3Z Tryz.prog 0=⟨1,0,[.any],[.any],some (.any),.other⟩:=by kernel_rfl
theorem ty2:w3Z Tryz.prog 2=⟨1,8,[.int .i64 0],[.int .i64 0],some (.int .i64 0),.int .i64⟩:=by kernel_rfl
theorem ty3:w3Z Tryz.prog 3=⟨1,8,[.int .i64 0],[.int .i64 0],some (.int .i64 0),.int .i64⟩:=by kernel_rfl
theorem ty4:w3Z Tryz.prog 4=⟨1,1,[.bool false],[.bool false],some (.bool false),.bool⟩:=by kernel_rfl
theorem ty5:w3Z Tryz.prog 5=⟨1,1,[.int .u8 0],[.int .u8 0],some (.int .u8 0),.int .u8⟩:=by kernel_rfl
theorem ty7:w3Z Tryz.prog 7=⟨4,24,[.int .i64 0,.int .i64 0,.bool false,.int .u8 0],[.int .i64 0,.int .i64 0,.bool false,.int .u8 0],some (.agg [.int .i64 0,.int .i64 0,.bool false,.int .u8 0]),.struct [(0,1,false),(1,1,false),(2,1,false),(3,1,false)]⟩:=by kernel_rfl
theorem ty9:w3Z Tryz.prog 9=⟨1,16,[.str []],[.str []],some (.str []),.str⟩:=by kernel_rfl
theorem z9n:w3Z Tryz.prog 12=⟨1,8,[.int .u64 0],[.int .u64 0],some (.int .u64 0),.int .u64⟩:=by kernel_rfl
theorem z9o:w3Z Tryz.prog 13=⟨2,24,[.str [],.int .u64 0],[.str [],.int .u64 0],some (.agg [.str [],.int .u64 0]),.struct [(0,1,false),(1,1,false)]⟩:=by kernel_rfl
theorem z9p:w3Z Tryz.prog 18=⟨1,8,[.x6g],[.x6g],some (.agg [.x6g]),.struct [(0,1,false)]⟩:=by kernel_rfl
theorem z9q:w3Z Tryz.prog 21=⟨1,4,[.int .i32 0],[.int .i32 0],some (.int .i32 0),.int .i32⟩:=by kernel_rfl
theorem z7e:w3Z Tryz.prog 22=⟨1,24,[.w4g],[.sl false 1 16 []],some (.w4g),.slice 9⟩:=by kernel_rfl
theorem z9r:w3Z Tryz.prog 23=⟨1,24,[.w4g],[.sl false 4 72 []],some (.w4g),.slice 25⟩:=by kernel_rfl
theorem z9s:w3Z Tryz.prog 24=⟨4,72,[.int .i64 0,.str [],.w4g,.w4g],[.int .i64 0,.str [],.sl false 1 16 [],.sl false 4 72 []],some (.agg [.int .i64 0,.str [],.w4g,.w4g]),.struct [(0,1,false),(1,1,false),(2,1,false),(3,1,false)]⟩:=by kernel_rfl
theorem z9t:w3Z Tryz.prog 25=⟨4,72,[.int .i64 0,.str [],.w4g,.w4g],[.int .i64 0,.str [],.sl false 1 16 [],.sl false 4 72 []],some (.agg [.int .i64 0,.str [],.w4g,.w4g]),.struct [(0,1,false),(1,1,false),(2,1,false),(3,1,false)]⟩:=by kernel_rfl
theorem z9u:w3Z Tryz.prog 26=⟨7,144,[.int .i64 0,.str [],.w4g,.w4g,.w4g,.w4g,.w4g],[.int .i64 0,.str [],.sl false 1 16 [],.sl false 4 72 [],.sl false 1 16 [],.sl false 1 16 [],.sl false 1 16 []],some (.agg [.int .i64 0,.str [],.w4g,.w4g,.w4g,.w4g,.w4g]),.struct [(0,4,true),(4,1,false),(5,1,false),(6,1,false)]⟩:=by kernel_rfl
theorem z9v:w3Z Tryz.prog 27=⟨7,144,[.int .i64 0,.str [],.w4g,.w4g,.w4g,.w4g,.w4g],[.int .i64 0,.str [],.sl false 1 16 [],.sl false 4 72 [],.sl false 1 16 [],.sl false 1 16 [],.sl false 1 16 []],some (.agg [.int .i64 0,.str [],.w4g,.w4g,.w4g,.w4g,.w4g]),.struct [(0,4,true),(4,1,false),(5,1,false),(6,1,false)]⟩:=by kernel_rfl
theorem z9w:w3Z Tryz.prog 29=⟨1,24,[.w4g],[.sl false 6 104 []],some (.w4g),.slice 61⟩:=by kernel_rfl
theorem z9x:w3Z Tryz.prog 30=⟨2,16,[.int .i64 0,.int .i64 0],[.int .i64 0,.int .i64 0],some (.agg [.int .i64 0,.int .i64 0]),.struct [(0,1,false),(1,1,false)]⟩:=by kernel_rfl
theorem z9y:w3Z Tryz.prog 31=⟨2,16,[.int .i64 0,.int .i64 0],[.int .i64 0,.int .i64 0],some (.agg [.int .i64 0,.int .i64 0]),.struct [(0,1,false),(1,1,false)]⟩:=by kernel_rfl
theorem z9z:w3Z Tryz.prog 32=⟨1,0,[.any],[.any],some (.any),.other⟩:=by kernel_rfl
theorem z9A:w3Z Tryz.prog 34=⟨1,24,[.w4g],[.sl false 2 32 []],some (.w4g),.slice 46⟩:=by kernel_rfl
theorem z9B:w3Z Tryz.prog 35=⟨1,0,[.any],[.any],some (.any),.other⟩:=by kernel_rfl
theorem z9C:w3Z Tryz.prog 39=⟨1,24,[.w4g],[.sl false 5 80 []],some (.w4g),.slice 67⟩:=by kernel_rfl
theorem z9D:w3Z Tryz.prog 42=⟨1,0,[.any],[.any],some (.any),.other⟩:=by kernel_rfl
theorem z9E:w3Z Tryz.prog 45=⟨2,32,[.int .i64 0,.w4g],[.int .i64 0,.sl false 6 104 []],some (.agg [.int .i64 0,.w4g]),.struct [(0,1,false),(1,1,false)]⟩:=by kernel_rfl
theorem z9F:w3Z Tryz.prog 46=⟨2,32,[.int .i64 0,.w4g],[.int .i64 0,.sl false 6 104 []],some (.agg [.int .i64 0,.w4g]),.struct [(0,1,false),(1,1,false)]⟩:=by kernel_rfl
theorem z9G:w3Z Tryz.prog 48=⟨1,0,[.any],[.any],some (.any),.other⟩:=by kernel_rfl
theorem z9H:w3Z Tryz.prog 60=⟨6,104,[.str [],.str [],.int .i64 0,.str [],.w4g,.w4g],[.str [],.str [],.int .i64 0,.str [],.sl false 1 16 [],.sl false 4 72 []],some (.agg [.str [],.str [],.int .i64 0,.str [],.w4g,.w4g]),.struct [(0,1,false),(1,1,false),(2,4,true)]⟩:=by kernel_rfl
theorem z9I:w3Z Tryz.prog 61=⟨6,104,[.str [],.str [],.int .i64 0,.str [],.w4g,.w4g],[.str [],.str [],.int .i64 0,.str [],.sl false 1 16 [],.sl false 4 72 []],some (.agg [.str [],.str [],.int .i64 0,.str [],.w4g,.w4g]),.struct [(0,1,false),(1,1,false),(2,4,true)]⟩:=by kernel_rfl
theorem z9J:w3Z Tryz.prog 63=⟨1,8,[.x5g],[.x5g],some (.x5g),.other⟩:=by kernel_rfl
theorem z9K:w3Z Tryz.prog 65=⟨1,24,[.w4g],[.sl false 1 1 []],some (.w4g),.slice 4⟩:=by kernel_rfl
theorem z9L:w3Z Tryz.prog 66=⟨5,80,[.int .i64 0,.str [],.w4g,.w4g,.int .i64 0],[.int .i64 0,.str [],.sl false 1 16 [],.sl false 1 1 [],.int .i64 0],some (.agg [.int .i64 0,.str [],.w4g,.w4g,.int .i64 0]),.struct [(0,1,false),(1,1,false),(2,1,false),(3,1,false),(4,1,false)]⟩:=by kernel_rfl
theorem z9M:w3Z Tryz.prog 67=⟨5,80,[.int .i64 0,.str [],.w4g,.w4g,.int .i64 0],[.int .i64 0,.str [],.sl false 1 16 [],.sl false 1 1 [],.int .i64 0],some (.agg [.int .i64 0,.str [],.w4g,.w4g,.int .i64 0]),.struct [(0,1,false),(1,1,false),(2,1,false),(3,1,false),(4,1,false)]⟩:=by kernel_rfl
theorem z9N:w3Z Tryz.prog 71=⟨1,24,[.w4g],[.sl false 1 8 []],some (.w4g),.slice 3⟩:=by kernel_rfl
theorem z9O:w3Z Tryz.prog 72=⟨1,0,[.any],[.any],some (.any),.other⟩:=by kernel_rfl
theorem z9P:w3Z Tryz.prog 77=⟨1,8,[.x5g],[.x5g],some (.x5g),.other⟩:=by kernel_rfl
theorem z9Q:w3Z Tryz.prog 78=⟨1,8,[.x5g],[.x5g],some (.x5g),.other⟩:=by kernel_rfl
theorem z9R:w3Z Tryz.prog 79=⟨1,0,[.any],[.any],some (.any),.other⟩:=by kernel_rfl
theorem z9S:w3Z Tryz.prog 83=⟨1,0,[.any],[.any],some (.any),.other⟩:=by kernel_rfl
theorem z9T:w3Z Tryz.prog 87=⟨1,0,[.any],[.any],some (.any),.other⟩:=by kernel_rfl
theorem z9U:w3Z Tryz.prog 89=⟨1,8,[.y1E],[.y1E],some (.y1E),.map 9 61⟩:=by kernel_rfl
theorem z9V:w3Z Tryz.prog 90=⟨1,8,[.y1E],[.y1E],some (.y1E),.map 9 61⟩:=by kernel_rfl
theorem z9W:w3Z Tryz.prog 94=⟨5,80,[.int .i64 0,.str [],.w4g,.w4g,.int .i64 0],[.int .i64 0,.str [],.sl false 1 16 [],.sl false 4 72 [],.int .i64 0],some (.agg [.int .i64 0,.str [],.w4g,.w4g,.int .i64 0]),.struct [(0,4,true),(4,1,false)]⟩:=by kernel_rfl
theorem z9X:w3Z Tryz.prog 95=⟨5,80,[.int .i64 0,.str [],.w4g,.w4g,.int .i64 0],[.int .i64 0,.str [],.sl false 1 16 [],.sl false 4 72 [],.int .i64 0],some (.agg [.int .i64 0,.str [],.w4g,.w4g,.int .i64 0]),.struct [(0,4,true),(4,1,false)]⟩:=by kernel_rfl
theorem z9Y:w3Z Tryz.prog 96=⟨1,24,[.w4g],[.sl false 5 80 []],some (.w4g),.slice 95⟩:=by kernel_rfl
theorem z9Z:w3Z Tryz.prog 98=⟨1,8,[.x6g],[.x6g],some (.x6g),.ptr 3⟩:=by kernel_rfl
theorem z8w:w3Z Tryz.prog 101=⟨1,24,[.w4g],[.sl false 1 24 []],some (.w4g),.slice 22⟩:=by kernel_rfl
theorem z8x:w3Z Tryz.prog 103=⟨1,8,[.x5g],[.x5g],some (.x5g),.other⟩:=by kernel_rfl
theorem z8y:w3Z Tryz.prog 105=⟨1,8,[.x5g],[.x5g],some (.x5g),.other⟩:=by kernel_rfl
theorem z8z:w3Z Tryz.prog 106=⟨1,8,[.x5g],[.x5g],some (.x5g),.other⟩:=by kernel_rfl
theorem z8A:w3Z Tryz.prog 107=⟨1,8,[.x5g],[.x5g],some (.x5g),.other⟩:=by kernel_rfl
theorem z8B:w3Z Tryz.prog 108=⟨1,8,[.x5g],[.x5g],some (.x5g),.other⟩:=by kernel_rfl
theorem z8C:w3Z Tryz.prog 109=⟨1,0,[.any],[.any],some (.any),.other⟩:=by kernel_rfl
theorem z8D:w3Z Tryz.prog 111=⟨1,24,[.w4g],[.sl false 2 32 []],some (.w4g),.slice 113⟩:=by kernel_rfl
theorem z8E:w3Z Tryz.prog 112=⟨2,32,[.str [],.str []],[.str [],.str []],some (.agg [.str [],.str []]),.struct [(0,1,false),(1,1,false)]⟩:=by kernel_rfl
theorem z8F:w3Z Tryz.prog 113=⟨2,32,[.str [],.str []],[.str [],.str []],some (.agg [.str [],.str []]),.struct [(0,1,false),(1,1,false)]⟩:=by kernel_rfl
theorem z8G:w3Z Tryz.prog 114=⟨1,8,[.x5g],[.x5g],some (.x5g),.other⟩:=by kernel_rfl
theorem z8H:w3Z Tryz.prog 117=⟨1,24,[.w4g],[.sl false 1 1 []],some (.w4g),.slice 5⟩:=by kernel_rfl
theorem z8I:w3Z Tryz.prog 120=⟨1,8,[.int .u64 0],[.int .u64 0],some (.int .u64 0),.int .u64⟩:=by kernel_rfl
theorem z8J:w3Z Tryz.prog 123=⟨1,8,[.int .i64 0],[.int .i64 0],some (.int .i64 0),.int .i64⟩:=by kernel_rfl
theorem z8K:w3Z Tryz.prog 124=⟨1,0,[.any],[.any],some (.any),.other⟩:=by kernel_rfl
theorem z8L:w3Z Tryz.prog 128=⟨1,0,[.any],[.any],some (.any),.other⟩:=by kernel_rfl
theorem z8M:w3Z Tryz.prog 131=⟨1,4,[.int .u32 0],[.int .u32 0],some (.int .u32 0),.int .u32⟩:=by kernel_rfl
theorem z8N:w3Z Tryz.prog 133=⟨1,8,[.int .u64 0],[.int .u64 0],some (.int .u64 0),.int .u64⟩:=by kernel_rfl
theorem z8O:w3Z Tryz.prog 135=⟨1,8,[.int .u64 0],[.int .u64 0],some (.int .u64 0),.int .u64⟩:=by kernel_rfl
theorem z8P:w3Z Tryz.prog 140=⟨24,24,[.int .u8 0,.int .u8 0,.int .u8 0,.int .u8 0,.int .u8 0,.int .u8 0,.int .u8 0,.int .u8 0,.int .u8 0,.int .u8 0,.int .u8 0,.int .u8 0,.int .u8 0,.int .u8 0,.int .u8 0,.int .u8 0,.int .u8 0,.int .u8 0,.int .u8 0,.int .u8 0,.int .u8 0,.int .u8 0,.int .u8 0,.int .u8 0],[.int .u8 0,.int .u8 0,.int .u8 0,.int .u8 0,.int .u8 0,.int .u8 0,.int .u8 0,.int .u8 0,.int .u8 0,.int .u8 0,.int .u8 0,.int .u8 0,.int .u8 0,.int .u8 0,.int .u8 0,.int .u8 0,.int .u8 0,.int .u8 0,.int .u8 0,.int .u8 0,.int .u8 0,.int .u8 0,.int .u8 0,.int .u8 0],some (.agg [.int .u8 0,.int .u8 0,.int .u8 0,.int .u8 0,.int .u8 0,.int .u8 0,.int .u8 0,.int .u8 0,.int .u8 0,.int .u8 0,.int .u8 0,.int .u8 0,.int .u8 0,.int .u8 0,.int .u8 0,.int .u8 0,.int .u8 0,.int .u8 0,.int .u8 0,.int .u8 0,.int .u8 0,.int .u8 0,.int .u8 0,.int .u8 0]),.arr 24 5⟩:=by kernel_rfl
theorem z8Q:w3Z Tryz.prog 142=⟨1,0,[.any],[.any],some (.any),.other⟩:=by kernel_rfl
theorem z8R:w3Z Tryz.prog 144=⟨1,8,[.x6g],[.x6g],some (.x6g),.ptr 135⟩:=by kernel_rfl
theorem z8S:w3Z Tryz.prog 147=⟨20,160,[.int .u64 0,.int .u64 0,.int .u64 0,.int .u64 0,.int .u64 0,.int .u64 0,.int .u64 0,.int .u64 0,.int .u64 0,.int .u64 0,.int .u64 0,.int .u64 0,.int .u64 0,.int .u64 0,.int .u64 0,.int .u64 0,.int .u64 0,.int .u64 0,.int .u64 0,.int .u64 0],[.int .u64 0,.int .u64 0,.int .u64 0,.int .u64 0,.int .u64 0,.int .u64 0,.int .u64 0,.int .u64 0,.int .u64 0,.int .u64 0,.int .u64 0,.int .u64 0,.int .u64 0,.int .u64 0,.int .u64 0,.int .u64 0,.int .u64 0,.int .u64 0,.int .u64 0,.int .u64 0],some (.agg [.int .u64 0,.int .u64 0,.int .u64 0,.int .u64 0,.int .u64 0,.int .u64 0,.int .u64 0,.int .u64 0,.int .u64 0,.int .u64 0,.int .u64 0,.int .u64 0,.int .u64 0,.int .u64 0,.int .u64 0,.int .u64 0,.int .u64 0,.int .u64 0,.int .u64 0,.int .u64 0]),.arr 20 133⟩:=by kernel_rfl
theorem z8T:w3Z Tryz.prog 148=⟨65,65,[.int .u8 0,.int .u8 0,.int .u8 0,.int .u8 0,.int .u8 0,.int .u8 0,.int .u8 0,.int .u8 0,.int .u8 0,.int .u8 0,.int .u8 0,.int .u8 0,.int .u8 0,.int .u8 0,.int .u8 0,.int .u8 0,.int .u8 0,.int .u8 0,.int .u8 0,.int .u8 0,.int .u8 0,.int .u8 0,.int .u8 0,.int .u8 0,.int .u8 0,.int .u8 0,.int .u8 0,.int .u8 0,.int .u8 0,.int .u8 0,.int .u8 0,.int .u8 0,.int .u8 0,.int .u8 0,.int .u8 0,.int .u8 0,.int .u8 0,.int .u8 0,.int .u8 0,.int .u8 0,.int .u8 0,.int .u8 0,.int .u8 0,.int .u8 0,.int .u8 0,.int .u8 0,.int .u8 0,.int .u8 0,.int .u8 0,.int .u8 0,.int .u8 0,.int .u8 0,.int .u8 0,.int .u8 0,.int .u8 0,.int .u8 0,.int .u8 0,.int .u8 0,.int .u8 0,.int .u8 0,.int .u8 0,.int .u8 0,.int .u8 0,.int .u8 0,.int .u8 0],[],some (.agg [.int .u8 0,.int .u8 0,.int .u8 0,.int .u8 0,.int .u8 0,.int .u8 0,.int .u8 0,.int .u8 0,.int .u8 0,.int .u8 0,.int .u8 0,.int .u8 0,.int .u8 0,.int .u8 0,.int .u8 0,.int .u8 0,.int .u8 0,.int .u8 0,.int .u8 0,.int .u8 0,.int .u8 0,.int .u8 0,.int .u8 0,.int .u8 0,.int .u8 0,.int .u8 0,.int .u8 0,.int .u8 0,.int .u8 0,.int .u8 0,.int .u8 0,.int .u8 0,.int .u8 0,.int .u8 0,.int .u8 0,.int .u8 0,.int .u8 0,.int .u8 0,.int .u8 0,.int .u8 0,.int .u8 0,.int .u8 0,.int .u8 0,.int .u8 0,.int .u8 0,.int .u8 0,.int .u8 0,.int .u8 0,.int .u8 0,.int .u8 0,.int .u8 0,.int .u8 0,.int .u8 0,.int .u8 0,.int .u8 0,.int .u8 0,.int .u8 0,.int .u8 0,.int .u8 0,.int .u8 0,.int .u8 0,.int .u8 0,.int .u8 0,.int .u8 0,.int .u8 0]),.arr 65 5⟩:=by kernel_rfl
theorem z8U:w3Z Tryz.prog 150=⟨32,32,[.int .u8 0,.int .u8 0,.int .u8 0,.int .u8 0,.int .u8 0,.int .u8 0,.int .u8 0,.int .u8 0,.int .u8 0,.int .u8 0,.int .u8 0,.int .u8 0,.int .u8 0,.int .u8 0,.int .u8 0,.int .u8 0,.int .u8 0,.int .u8 0,.int .u8 0,.int .u8 0,.int .u8 0,.int .u8 0,.int .u8 0,.int .u8 0,.int .u8 0,.int .u8 0,.int .u8 0,.int .u8 0,.int .u8 0,.int .u8 0,.int .u8 0,.int .u8 0],[.int .u8 0,.int .u8 0,.int .u8 0,.int .u8 0,.int .u8 0,.int .u8 0,.int .u8 0,.int .u8 0,.int .u8 0,.int .u8 0,.int .u8 0,.int .u8 0,.int .u8 0,.int .u8 0,.int .u8 0,.int .u8 0,.int .u8 0,.int .u8 0,.int .u8 0,.int .u8 0,.int .u8 0,.int .u8 0,.int .u8 0,.int .u8 0,.int .u8 0,.int .u8 0,.int .u8 0,.int .u8 0,.int .u8 0,.int .u8 0,.int .u8 0,.int .u8 0],some (.agg [.int .u8 0,.int .u8 0,.int .u8 0,.int .u8 0,.int .u8 0,.int .u8 0,.int .u8 0,.int .u8 0,.int .u8 0,.int .u8 0,.int .u8 0,.int .u8 0,.int .u8 0,.int .u8 0,.int .u8 0,.int .u8 0,.int .u8 0,.int .u8 0,.int .u8 0,.int .u8 0,.int .u8 0,.int .u8 0,.int .u8 0,.int .u8 0,.int .u8 0,.int .u8 0,.int .u8 0,.int .u8 0,.int .u8 0,.int .u8 0,.int .u8 0,.int .u8 0]),.arr 32 5⟩:=by kernel_rfl
theorem z8V:w3Z Tryz.prog 151=⟨64,64,[.int .u8 0,.int .u8 0,.int .u8 0,.int .u8 0,.int .u8 0,.int .u8 0,.int .u8 0,.int .u8 0,.int .u8 0,.int .u8 0,.int .u8 0,.int .u8 0,.int .u8 0,.int .u8 0,.int .u8 0,.int .u8 0,.int .u8 0,.int .u8 0,.int .u8 0,.int .u8 0,.int .u8 0,.int .u8 0,.int .u8 0,.int .u8 0,.int .u8 0,.int .u8 0,.int .u8 0,.int .u8 0,.int .u8 0,.int .u8 0,.int .u8 0,.int .u8 0,.int .u8 0,.int .u8 0,.int .u8 0,.int .u8 0,.int .u8 0,.int .u8 0,.int .u8 0,.int .u8 0,.int .u8 0,.int .u8 0,.int .u8 0,.int .u8 0,.int .u8 0,.int .u8 0,.int .u8 0,.int .u8 0,.int .u8 0,.int .u8 0,.int .u8 0,.int .u8 0,.int .u8 0,.int .u8 0,.int .u8 0,.int .u8 0,.int .u8 0,.int .u8 0,.int .u8 0,.int .u8 0,.int .u8 0,.int .u8 0,.int .u8 0,.int .u8 0],[.int .u8 0,.int .u8 0,.int .u8 0,.int .u8 0,.int .u8 0,.int .u8 0,.int .u8 0,.int .u8 0,.int .u8 0,.int .u8 0,.int .u8 0,.int .u8 0,.int .u8 0,.int .u8 0,.int .u8 0,.int .u8 0,.int .u8 0,.int .u8 0,.int .u8 0,.int .u8 0,.int .u8 0,.int .u8 0,.int .u8 0,.int .u8 0,.int .u8 0,.int .u8 0,.int .u8 0,.int .u8 0,.int .u8 0,.int .u8 0,.int .u8 0,.int .u8 0,.int .u8 0,.int .u8 0,.int .u8 0,.int .u8 0,.int .u8 0,.int .u8 0,.int .u8 0,.int .u8 0,.int .u8 0,.int .u8 0,.int .u8 0,.int .u8 0,.int .u8 0,.int .u8 0,.int .u8 0,.int .u8 0,.int .u8 0,.int .u8 0,.int .u8 0,.int .u8 0,.int .u8 0,.int .u8 0,.int .u8 0,.int .u8 0,.int .u8 0,.int .u8 0,.int .u8 0,.int .u8 0,.int .u8 0,.int .u8 0,.int .u8 0,.int .u8 0],some (.agg [.int .u8 0,.int .u8 0,.int .u8 0,.int .u8 0,.int .u8 0,.int .u8 0,.int .u8 0,.int .u8 0,.int .u8 0,.int .u8 0,.int .u8 0,.int .u8 0,.int .u8 0,.int .u8 0,.int .u8 0,.int .u8 0,.int .u8 0,.int .u8 0,.int .u8 0,.int .u8 0,.int .u8 0,.int .u8 0,.int .u8 0,.int .u8 0,.int .u8 0,.int .u8 0,.int .u8 0,.int .u8 0,.int .u8 0,.int .u8 0,.int .u8 0,.int .u8 0,.int .u8 0,.int .u8 0,.int .u8 0,.int .u8 0,.int .u8 0,.int .u8 0,.int .u8 0,.int .u8 0,.int .u8 0,.int .u8 0,.int .u8 0,.int .u8 0,.int .u8 0,.int .u8 0,.int .u8 0,.int .u8 0,.int .u8 0,.int .u8 0,.int .u8 0,.int .u8 0,.int .u8 0,.int .u8 0,.int .u8 0,.int .u8 0,.int .u8 0,.int .u8 0,.int .u8 0,.int .u8 0,.int .u8 0,.int .u8 0,.int .u8 0,.int .u8 0]),.arr 64 5⟩:=by kernel_rfl
theorem z8W:w3Z Tryz.prog 152=⟨4,40,[.x6g,.x6g,.x6g,.str []],[.x6g,.x6g,.x6g,.str []],some (.agg [.x6g,.x6g,.x6g,.str []]),.struct [(0,1,false),(1,1,false),(2,1,false),(3,1,false)]⟩:=by kernel_rfl
theorem z8X:w3Z Tryz.prog 155=⟨0,0,[],[],some (.agg []),.struct [(0,0,true)]⟩:=by kernel_rfl
theorem z8Y:w3Z Tryz.prog 161=⟨1,8,[.x6g],[.x6g],some (.x6g),.ptr 5⟩:=by kernel_rfl
theorem z8Z:w3Z Tryz.prog 164=⟨11,48,[.int .u64 0,.int .u64 0,.int .u32 0,.int .u8 0,.int .u8 0,.int .u8 0,.int .u8 0,.x5g,.x6g,.int .i32 0,.int .i32 0],[.int .u64 0,.int .u64 0,.int .u32 0,.int .u8 0,.int .u8 0,.int .u8 0,.int .u8 0,.x5g,.x6g,.int .i32 0,.int .i32 0],some (.agg [.int .u64 0,.int .u64 0,.int .u32 0,.int .u8 0,.int .u8 0,.int .u8 0,.int .u8 0,.x5g,.x6g,.int .i32 0,.int .i32 0]),.struct [(0,1,false),(1,1,false),(2,1,false),(3,1,false),(4,1,false),(5,1,false),(6,1,false),(7,1,false),(8,1,false),(9,1,false),(10,1,false)]⟩:=by kernel_rfl
theorem fk7:w4U Tryz.prog 7=some [1,1,3,1]:=by kernel_rfl
theorem A0a:w4U Tryz.prog 24=some [1,2,0,0]:=by kernel_rfl
theorem A0b:w4U Tryz.prog 25=some [1,2,0,0]:=by kernel_rfl
theorem A0c:w4U Tryz.prog 30=some [1,1]:=by kernel_rfl
theorem A0d:w4U Tryz.prog 31=some [1,1]:=by kernel_rfl
theorem A0e:w4U Tryz.prog 45=some [1,0]:=by kernel_rfl
theorem A0f:w4U Tryz.prog 46=some [1,0]:=by kernel_rfl
theorem A0g:w4U Tryz.prog 60=some [2,2,0]:=by kernel_rfl
theorem A0h:w4U Tryz.prog 61=some [2,2,0]:=by kernel_rfl
theorem A0i:w4U Tryz.prog 66=some [1,2,0,0,1]:=by kernel_rfl
theorem A0j:w4U Tryz.prog 67=some [1,2,0,0,1]:=by kernel_rfl
theorem z9a:w4U Tryz.prog 112=some [2,2]:=by kernel_rfl
theorem z9b:w4U Tryz.prog 113=some [2,2]:=by kernel_rfl
attribute [go_sem] ty0 ty2 ty3 ty4 ty5 ty7 ty9 z9n z9o z9p z9q z7e z9r z9s z9t z9u z9v z9w z9x z9y z9z z9A z9B z9C z9D z9E z9F z9G z9H z9I z9J z9K z9L z9M z9N z9O z9P z9Q z9R z9S z9T z9U z9V z9W z9X z9Y z9Z z8w z8x z8y z8z z8A z8B z8C z8D z8E z8F z8G z8H z8I z8J z8K z8L z8M z8N z8O z8P z8Q z8R z8S z8T z8U z8V z8W z8X z8Y z8Z fk7 A0a A0b A0c A0d A0e A0f A0g A0h A0i A0j z9a z9b
end Go.Proofs.YtdjnbjnlnjhllaaGreatDoor
