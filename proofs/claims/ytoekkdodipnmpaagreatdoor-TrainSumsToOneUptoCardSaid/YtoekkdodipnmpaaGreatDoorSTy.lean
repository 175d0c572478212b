import Derived.Test.YtoekkdodipnmpaaGreatDoorProg
import Derived.Test.YtoekkdodipnmpaaGreatDoorSAm3
set_option linter.unusedVariables false
set_option linter.unusedSimpArgs false
namespace Go.Proofs.YtoekkdodipnmpaaGreatDoor
open Go Go.Am
theorem ty0:x6 Tryz.prog 0=⟨1,0,[.any],[.any],some (.any),.other⟩:=by kernel_rfl
theorem ty2:x6 Tryz.prog 2=⟨1,8,[.int .i64 0],[.int .i64 0],some (.int .i64 0),.int .i64⟩:=by kernel_rfl
theorem ty3:x6 Tryz.prog 3=⟨1,8,[.int .i64 0],[.int .i64 0],some (.int .i64 0),.int .i64⟩:=by kernel_rfl
theorem ty4:x6 Tryz.prog 4=⟨1,1,[.bool false],[.bool false],some (.bool false),.bool⟩:=by kernel_rfl
theorem ty5:x6 Tryz.prog 5=⟨1,1,[.int .u8 0],[.int .u8 0],some (.int .u8 0),.int .u8⟩:=by kernel_rfl
theorem ty7:x6 Tryz.prog 7=⟨4,24,[.int .i64 0,.int .i64 0,.bool false,.int .u8 0],[.int .i64 0,.int .i64 0,.bool false,.int .u8 0],some (.agg [.int .i64 0,.int .i64 0,.bool false,.int .u8 0]),.struct [(0,1,false),(1,1,false),(2,1,false),(3,1,false)]⟩:=by kernel_rfl
theorem ty9:x6 Tryz.prog 9=⟨1,16,[.str []],[.str []],some (.str []),.str⟩:=by kernel_rfl
theorem PW:x6 Tryz.prog 12=⟨1,8,[.int .u64 0],[.int .u64 0],some (.int .u64 0),.int .u64⟩:=by kernel_rfl
theorem PX:x6 Tryz.prog 13=⟨2,24,[.str [],.int .u64 0],[.str [],.int .u64 0],some (.agg [.str [],.int .u64 0]),.struct [(0,1,false),(1,1,false)]⟩:=by kernel_rfl
theorem PY:x6 Tryz.prog 18=⟨1,8,[.vw],[.vw],some (.agg [.vw]),.struct [(0,1,false)]⟩:=by kernel_rfl
theorem PZ:x6 Tryz.prog 21=⟨1,4,[.int .i32 0],[.int .i32 0],some (.int .i32 0),.int .i32⟩:=by kernel_rfl
theorem Qa:x6 Tryz.prog 22=⟨1,24,[.D3],[.sl false 2 40 []],some (.D3),.slice 114⟩:=by kernel_rfl
theorem Qb:x6 Tryz.prog 23=⟨1,24,[.D3],[.sl false 3 32 []],some (.D3),.slice 80⟩:=by kernel_rfl
theorem Qc:x6 Tryz.prog 24=⟨2,48,[.D3,.D3],[.sl false 2 40 [],.sl false 3 32 []],some (.agg [.D3,.D3]),.struct [(0,1,false),(1,1,false)]⟩:=by kernel_rfl
theorem Qd:x6 Tryz.prog 25=⟨2,48,[.D3,.D3],[.sl false 2 40 [],.sl false 3 32 []],some (.agg [.D3,.D3]),.struct [(0,1,false),(1,1,false)]⟩:=by kernel_rfl
theorem Qe:x6 Tryz.prog 26=⟨1,24,[.D3],[.sl false 10 152 []],some (.D3),.slice 71⟩:=by kernel_rfl
theorem Qf:x6 Tryz.prog 27=⟨1,24,[.D3],[.sl false 9 144 []],some (.D3),.slice 69⟩:=by kernel_rfl
theorem Qg:x6 Tryz.prog 28=⟨1,24,[.D3],[.sl false 2 32 []],some (.D3),.slice 61⟩:=by kernel_rfl
theorem Qh:x6 Tryz.prog 29=⟨1,24,[.D3],[.sl false 2 32 []],some (.agg [.D3]),.struct [(0,1,false)]⟩:=by kernel_rfl
theorem Qi:x6 Tryz.prog 30=⟨1,24,[.D3],[.sl false 2 32 []],some (.agg [.D3]),.struct [(0,1,false)]⟩:=by kernel_rfl
theorem Qj:x6 Tryz.prog 31=⟨5,120,[.D3,.D3,.D3,.D3,.D3],[.sl false 2 40 [],.sl false 3 32 [],.sl false 10 152 [],.sl false 9 144 [],.sl false 2 32 []],some (.agg [.D3,.D3,.D3,.D3,.D3]),.struct [(0,2,true),(2,1,false),(3,1,false),(4,1,true)]⟩:=by kernel_rfl
theorem Qk:x6 Tryz.prog 32=⟨5,120,[.D3,.D3,.D3,.D3,.D3],[.sl false 2 40 [],.sl false 3 32 [],.sl false 10 152 [],.sl false 9 144 [],.sl false 2 32 []],some (.agg [.D3,.D3,.D3,.D3,.D3]),.struct [(0,2,true),(2,1,false),(3,1,false),(4,1,true)]⟩:=by kernel_rfl
theorem Ql:x6 Tryz.prog 33=⟨1,24,[.D3],[.sl false 1 8 []],some (.D3),.slice 3⟩:=by kernel_rfl
theorem Qm:x6 Tryz.prog 34=⟨2,48,[.D3,.D3],[.sl false 1 8 [],.sl false 1 8 []],some (.agg [.D3,.D3]),.struct [(0,1,false),(1,1,false)]⟩:=by kernel_rfl
theorem Qn:x6 Tryz.prog 35=⟨2,48,[.D3,.D3],[.sl false 1 8 [],.sl false 1 8 []],some (.agg [.D3,.D3]),.struct [(0,1,false),(1,1,false)]⟩:=by kernel_rfl
theorem Qo:x6 Tryz.prog 37=⟨1,24,[.D3],[.sl false 2 16 []],some (.D3),.slice 45⟩:=by kernel_rfl
theorem Qp:x6 Tryz.prog 38=⟨2,16,[.int .i64 0,.int .i64 0],[.int .i64 0,.int .i64 0],some (.agg [.int .i64 0,.int .i64 0]),.struct [(0,1,false),(1,1,false)]⟩:=by kernel_rfl
theorem Qq:x6 Tryz.prog 39=⟨2,16,[.int .i64 0,.int .i64 0],[.int .i64 0,.int .i64 0],some (.agg [.int .i64 0,.int .i64 0]),.struct [(0,1,false),(1,1,false)]⟩:=by kernel_rfl
theorem Qr:x6 Tryz.prog 40=⟨1,0,[.any],[.any],some (.any),.other⟩:=by kernel_rfl
theorem Qs:x6 Tryz.prog 44=⟨2,16,[.int .i64 0,.int .i64 0],[.int .i64 0,.int .i64 0],some (.agg [.int .i64 0,.int .i64 0]),.struct [(0,1,false),(1,1,false)]⟩:=by kernel_rfl
theorem Qt:x6 Tryz.prog 45=⟨2,16,[.int .i64 0,.int .i64 0],[.int .i64 0,.int .i64 0],some (.agg [.int .i64 0,.int .i64 0]),.struct [(0,1,false),(1,1,false)]⟩:=by kernel_rfl
theorem Qu:x6 Tryz.prog 46=⟨1,0,[.any],[.any],some (.any),.other⟩:=by kernel_rfl
theorem Qv:x6 Tryz.prog 50=⟨1,24,[.D3],[.sl false 3 40 []],some (.D3),.slice 52⟩:=by kernel_rfl
theorem Qw:x6 Tryz.prog 51=⟨3,40,[.int .i64 0,.int .i64 0,.D3],[.int .i64 0,.int .i64 0,.sl false 3 40 []],some (.agg [.int .i64 0,.int .i64 0,.D3]),.struct [(0,1,false),(1,1,false),(2,1,false)]⟩:=by kernel_rfl
theorem Qx:x6 Tryz.prog 52=⟨3,40,[.int .i64 0,.int .i64 0,.D3],[.int .i64 0,.int .i64 0,.sl false 3 40 []],some (.agg [.int .i64 0,.int .i64 0,.D3]),.struct [(0,1,false),(1,1,false),(2,1,false)]⟩:=by kernel_rfl
theorem Qy:x6 Tryz.prog 53=⟨1,0,[.any],[.any],some (.any),.other⟩:=by kernel_rfl
theorem Qz:x6 Tryz.prog 56=⟨1,0,[.any],[.any],some (.any),.other⟩:=by kernel_rfl
theorem QA:x6 Tryz.prog 59=⟨1,24,[.D3],[.sl false 2 16 []],some (.D3),.slice 103⟩:=by kernel_rfl
theorem QB:x6 Tryz.prog 60=⟨2,32,[.int .i64 0,.D3],[.int .i64 0,.sl false 2 16 []],some (.agg [.int .i64 0,.D3]),.struct [(0,1,false),(1,1,false)]⟩:=by kernel_rfl
theorem QC:x6 Tryz.prog 61=⟨2,32,[.int .i64 0,.D3],[.int .i64 0,.sl false 2 16 []],some (.agg [.int .i64 0,.D3]),.struct [(0,1,false),(1,1,false)]⟩:=by kernel_rfl
theorem QD:x6 Tryz.prog 62=⟨1,24,[.D3],[.sl false 2 40 []],some (.D3),.slice 64⟩:=by kernel_rfl
theorem QE:x6 Tryz.prog 63=⟨2,40,[.str [],.D3],[.str [],.sl false 2 40 []],some (.agg [.str [],.D3]),.struct [(0,1,false),(1,1,false)]⟩:=by kernel_rfl
theorem QF:x6 Tryz.prog 64=⟨2,40,[.str [],.D3],[.str [],.sl false 2 40 []],some (.agg [.str [],.D3]),.struct [(0,1,false),(1,1,false)]⟩:=by kernel_rfl
theorem QG:x6 Tryz.prog 65=⟨1,24,[.D3],[.sl false 6 96 []],some (.D3),.slice 67⟩:=by kernel_rfl
theorem QH:x6 Tryz.prog 66=⟨6,96,[.int .i64 0,.str [],.int .i64 0,.str [],.D3,.D3],[.int .i64 0,.str [],.int .i64 0,.str [],.sl false 2 40 [],.sl false 6 96 []],some (.agg [.int .i64 0,.str [],.int .i64 0,.str [],.D3,.D3]),.struct [(0,1,false),(1,1,false),(2,1,false),(3,2,true),(5,1,false)]⟩:=by kernel_rfl
theorem QI:x6 Tryz.prog 67=⟨6,96,[.int .i64 0,.str [],.int .i64 0,.str [],.D3,.D3],[.int .i64 0,.str [],.int .i64 0,.str [],.sl false 2 40 [],.sl false 6 96 []],some (.agg [.int .i64 0,.str [],.int .i64 0,.str [],.D3,.D3]),.struct [(0,1,false),(1,1,false),(2,1,false),(3,2,true),(5,1,false)]⟩:=by kernel_rfl
theorem QJ:x6 Tryz.prog 68=⟨9,144,[.str [],.D3,.int .i64 0,.int .i64 0,.str [],.int .i64 0,.str [],.D3,.D3],[.str [],.sl false 2 32 [],.int .i64 0,.int .i64 0,.str [],.int .i64 0,.str [],.sl false 2 40 [],.sl false 6 96 []],some (.agg [.str [],.D3,.int .i64 0,.int .i64 0,.str [],.int .i64 0,.str [],.D3,.D3]),.struct [(0,1,false),(1,1,true),(2,1,false),(3,6,true)]⟩:=by kernel_rfl
theorem QK:x6 Tryz.prog 69=⟨9,144,[.str [],.D3,.int .i64 0,.int .i64 0,.str [],.int .i64 0,.str [],.D3,.D3],[.str [],.sl false 2 32 [],.int .i64 0,.int .i64 0,.str [],.int .i64 0,.str [],.sl false 2 40 [],.sl false 6 96 []],some (.agg [.str [],.D3,.int .i64 0,.int .i64 0,.str [],.int .i64 0,.str [],.D3,.D3]),.struct [(0,1,false),(1,1,true),(2,1,false),(3,6,true)]⟩:=by kernel_rfl
theorem QL:x6 Tryz.prog 70=⟨10,152,[.str [],.D3,.int .i64 0,.int .i64 0,.int .i64 0,.str [],.int .i64 0,.str [],.D3,.D3],[.str [],.sl false 2 32 [],.int .i64 0,.int .i64 0,.int .i64 0,.str [],.int .i64 0,.str [],.sl false 2 40 [],.sl false 6 96 []],some (.agg [.str [],.D3,.int .i64 0,.int .i64 0,.int .i64 0,.str [],.int .i64 0,.str [],.D3,.D3]),.struct [(0,1,false),(1,1,true),(2,1,false),(3,1,false),(4,6,true)]⟩:=by kernel_rfl
theorem QM:x6 Tryz.prog 71=⟨10,152,[.str [],.D3,.int .i64 0,.int .i64 0,.int .i64 0,.str [],.int .i64 0,.str [],.D3,.D3],[.str [],.sl false 2 32 [],.int .i64 0,.int .i64 0,.int .i64 0,.str [],.int .i64 0,.str [],.sl false 2 40 [],.sl false 6 96 []],some (.agg [.str [],.D3,.int .i64 0,.int .i64 0,.int .i64 0,.str [],.int .i64 0,.str [],.D3,.D3]),.struct [(0,1,false),(1,1,true),(2,1,false),(3,1,false),(4,6,true)]⟩:=by kernel_rfl
theorem QN:x6 Tryz.prog 78=⟨1,24,[.D3],[.sl false 1 16 []],some (.D3),.slice 9⟩:=by kernel_rfl
theorem QO:x6 Tryz.prog 79=⟨3,32,[.str [],.int .i64 0,.int .i64 0],[.str [],.int .i64 0,.int .i64 0],some (.agg [.str [],.int .i64 0,.int .i64 0]),.struct [(0,1,false),(1,1,false),(2,1,false)]⟩:=by kernel_rfl
theorem QS:x6 Tryz.prog 80=⟨3,32,[.str [],.int .i64 0,.int .i64 0],[.str [],.int .i64 0,.int .i64 0],some (.agg [.str [],.int .i64 0,.int .i64 0]),.struct [(0,1,false),(1,1,false),(2,1,false)]⟩:=by kernel_rfl
theorem QT:x6 Tryz.prog 83=⟨1,24,[.D3],[.sl false 1 24 []],some (.D3),.slice 33⟩:=by kernel_rfl
theorem QU:x6 Tryz.prog 84=⟨1,8,[.kH],[.kH],some (.kH),.other⟩:=by kernel_rfl
theorem QV:x6 Tryz.prog 91=⟨1,8,[.kH],[.kH],some (.kH),.other⟩:=by kernel_rfl
theorem QW:x6 Tryz.prog 93=⟨1,0,[.any],[.any],some (.any),.other⟩:=by kernel_rfl
theorem QX:x6 Tryz.prog 96=⟨1,8,[.kH],[.kH],some (.kH),.other⟩:=by kernel_rfl
theorem Ot:x6 Tryz.prog 102=⟨2,16,[.int .i64 0,.int .i64 0],[.int .i64 0,.int .i64 0],some (.agg [.int .i64 0,.int .i64 0]),.struct [(0,1,false),(1,1,false)]⟩:=by kernel_rfl
theorem Ou:x6 Tryz.prog 103=⟨2,16,[.int .i64 0,.int .i64 0],[.int .i64 0,.int .i64 0],some (.agg [.int .i64 0,.int .i64 0]),.struct [(0,1,false),(1,1,false)]⟩:=by kernel_rfl
theorem Ov:x6 Tryz.prog 104=⟨1,8,[.int .u64 0],[.int .u64 0],some (.int .u64 0),.int .u64⟩:=by kernel_rfl
theorem Ow:x6 Tryz.prog 107=⟨1,0,[.any],[.any],some (.any),.other⟩:=by kernel_rfl
theorem Ox:x6 Tryz.prog 110=⟨1,0,[.any],[.any],some (.any),.other⟩:=by kernel_rfl
theorem Oy:x6 Tryz.prog 113=⟨2,40,[.str [],.D3],[.str [],.sl false 1 8 []],some (.agg [.str [],.D3]),.struct [(0,1,false),(1,1,false)]⟩:=by kernel_rfl
theorem Oz:x6 Tryz.prog 114=⟨2,40,[.str [],.D3],[.str [],.sl false 1 8 []],some (.agg [.str [],.D3]),.struct [(0,1,false),(1,1,false)]⟩:=by kernel_rfl
theorem OA:x6 Tryz.prog 115=⟨1,24,[.D3],[.sl false 1 8 []],some (.D3),.slice 104⟩:=by kernel_rfl
theorem OB:x6 Tryz.prog 116=⟨2,48,[.D3,.D3],[.sl false 1 8 [],.sl false 1 8 []],some (.agg [.D3,.D3]),.struct [(0,1,false),(1,1,false)]⟩:=by kernel_rfl
theorem OC:x6 Tryz.prog 117=⟨2,48,[.D3,.D3],[.sl false 1 8 [],.sl false 1 8 []],some (.agg [.D3,.D3]),.struct [(0,1,false),(1,1,false)]⟩:=by kernel_rfl
theorem OD:x6 Tryz.prog 119=⟨1,8,[.yY],[.yY],some (.yY),.map 9 3⟩:=by kernel_rfl
theorem OE:x6 Tryz.prog 120=⟨1,0,[.any],[.any],some (.any),.other⟩:=by kernel_rfl
theorem OG:x6 Tryz.prog 124=⟨1,8,[.kH],[.kH],some (.kH),.other⟩:=by kernel_rfl
theorem OH:x6 Tryz.prog 125=⟨1,8,[.kH],[.kH],some (.kH),.other⟩:=by kernel_rfl
theorem OI:x6 Tryz.prog 128=⟨1,8,[.kH],[.kH],some (.kH),.other⟩:=by kernel_rfl
theorem OJ:x6 Tryz.prog 131=⟨1,24,[.D3],[.sl false 1 1 []],some (.D3),.slice 5⟩:=by kernel_rfl
theorem OL:x6 Tryz.prog 135=⟨1,8,[.int .u64 0],[.int .u64 0],some (.int .u64 0),.int .u64⟩:=by kernel_rfl
theorem OM:x6 Tryz.prog 137=⟨1,16,[.any],[.any],some (.any),.other⟩:=by kernel_rfl
theorem OO:x6 Tryz.prog 139=⟨1,0,[.any],[.any],some (.any),.other⟩:=by kernel_rfl
theorem OP:x6 Tryz.prog 145=⟨1,24,[.D3],[.sl false 1 24 []],some (.D3),.slice 146⟩:=by kernel_rfl
theorem OQ:x6 Tryz.prog 146=⟨1,24,[.D3],[.sl false 1 1 []],some (.D3),.slice 4⟩:=by kernel_rfl
theorem OT:x6 Tryz.prog 149=⟨1,8,[.kH],[.kH],some (.kH),.other⟩:=by kernel_rfl
theorem OU:x6 Tryz.prog 150=⟨1,8,[.kH],[.kH],some (.kH),.other⟩:=by kernel_rfl
theorem OV:x6 Tryz.prog 153=⟨1,0,[.any],[.any],some (.any),.other⟩:=by kernel_rfl
theorem OW:x6 Tryz.prog 156=⟨8,112,[.int .i64 0,.str [],.int .i64 0,.str [],.D3,.D3,.int .i64 0,.int .i64 0],[.int .i64 0,.str [],.int .i64 0,.str [],.sl false 2 40 [],.sl false 6 96 [],.int .i64 0,.int .i64 0],some (.agg [.int .i64 0,.str [],.int .i64 0,.str [],.D3,.D3,.int .i64 0,.int .i64 0]),.struct [(0,6,true),(6,1,false),(7,1,false)]⟩:=by kernel_rfl
theorem OX:x6 Tryz.prog 157=⟨8,112,[.int .i64 0,.str [],.int .i64 0,.str [],.D3,.D3,.int .i64 0,.int .i64 0],[.int .i64 0,.str [],.int .i64 0,.str [],.sl false 2 40 [],.sl false 6 96 [],.int .i64 0,.int .i64 0],some (.agg [.int .i64 0,.str [],.int .i64 0,.str [],.D3,.D3,.int .i64 0,.int .i64 0]),.struct [(0,6,true),(6,1,false),(7,1,false)]⟩:=by kernel_rfl
theorem OY:x6 Tryz.prog 158=⟨1,24,[.D3],[.sl false 8 112 []],some (.D3),.slice 157⟩:=by kernel_rfl
theorem OZ:x6 Tryz.prog 161=⟨64,64,[.int .u8 0,.int .u8 0,.int .u8 0,.int .u8 0,.int .u8 0,.int .u8 0,.int .u8 0,.int .u8 0,.int .u8 0,.int .u8 0,.int .u8 0,.int .u8 0,.int .u8 0,.int .u8 0,.int .u8 0,.int .u8 0,.int .u8 0,.int .u8 0,.int .u8 0,.int .u8 0,.int .u8 0,.int .u8 0,.int .u8 0,.int .u8 0,.int .u8 0,.int .u8 0,.int .u8 0,.int .u8 0,.int .u8 0,.int .u8 0,.int .u8 0,.int .u8 0,.int .u8 0,.int .u8 0,.int .u8 0,.int .u8 0,.int .u8 0,.int .u8 0,.int .u8 0,.int .u8 0,.int .u8 0,.int .u8 0,.int .u8 0,.int .u8 0,.int .u8 0,.int .u8 0,.int .u8 0,.int .u8 0,.int .u8 0,.int .u8 0,.int .u8 0,.int .u8 0,.int .u8 0,.int .u8 0,.int .u8 0,.int .u8 0,.int .u8 0,.int .u8 0,.int .u8 0,.int .u8 0,.int .u8 0,.int .u8 0,.int .u8 0,.int .u8 0],[.int .u8 0,.int .u8 0,.int .u8 0,.int .u8 0,.int .u8 0,.int .u8 0,.int .u8 0,.int .u8 0,.int .u8 0,.int .u8 0,.int .u8 0,.int .u8 0,.int .u8 0,.int .u8 0,.int .u8 0,.int .u8 0,.int .u8 0,.int .u8 0,.int .u8 0,.int .u8 0,.int .u8 0,.int .u8 0,.int .u8 0,.int .u8 0,.int .u8 0,.int .u8 0,.int .u8 0,.int .u8 0,.int .u8 0,.int .u8 0,.int .u8 0,.int .u8 0,.int .u8 0,.int .u8 0,.int .u8 0,.int .u8 0,.int .u8 0,.int .u8 0,.int .u8 0,.int .u8 0,.int .u8 0,.int .u8 0,.int .u8 0,.int .u8 0,.int .u8 0,.int .u8 0,.int .u8 0,.int .u8 0,.int .u8 0,.int .u8 0,.int .u8 0,.int .u8 0,.int .u8 0,.int .u8 0,.int .u8 0,.int .u8 0,.int .u8 0,.int .u8 0,.int .u8 0,.int .u8 0,.int .u8 0,.int .u8 0,.int .u8 0,.int .u8 0],some (.agg [.int .u8 0,.int .u8 0,.int .u8 0,.int .u8 0,.int .u8 0,.int .u8 0,.int .u8 0,.int .u8 0,.int .u8 0,.int .u8 0,.int .u8 0,.int .u8 0,.int .u8 0,.int .u8 0,.int .u8 0,.int .u8 0,.int .u8 0,.int .u8 0,.int .u8 0,.int .u8 0,.int .u8 0,.int .u8 0,.int .u8 0,.int .u8 0,.int .u8 0,.int .u8 0,.int .u8 0,.int .u8 0,.int .u8 0,.int .u8 0,.int .u8 0,.int .u8 0,.int .u8 0,.int .u8 0,.int .u8 0,.int .u8 0,.int .u8 0,.int .u8 0,.int .u8 0,.int .u8 0,.int .u8 0,.int .u8 0,.int .u8 0,.int .u8 0,.int .u8 0,.int .u8 0,.int .u8 0,.int .u8 0,.int .u8 0,.int .u8 0,.int .u8 0,.int .u8 0,.int .u8 0,.int .u8 0,.int .u8 0,.int .u8 0,.int .u8 0,.int .u8 0,.int .u8 0,.int .u8 0,.int .u8 0,.int .u8 0,.int .u8 0,.int .u8 0]),.arr 64 5⟩:=by kernel_rfl
theorem Pa:x6 Tryz.prog 162=⟨1,8,[.kH],[.kH],some (.kH),.other⟩:=by kernel_rfl
theorem Pb:x6 Tryz.prog 165=⟨256,256,(List.replicate 256 (.int .u8 0)),[],some (.agg (List.replicate 256 (.int .u8 0))),.arr 256 5⟩:=by kernel_rfl
theorem Pc:x6 Tryz.prog 166=⟨2,2,[.int .u8 0,.int .u8 0],[.int .u8 0,.int .u8 0],some (.agg [.int .u8 0,.int .u8 0]),.struct [(0,1,false),(1,1,false)]⟩:=by kernel_rfl
theorem Pf:x6 Tryz.prog 167=⟨2,2,[.int .u8 0,.int .u8 0],[.int .u8 0,.int .u8 0],some (.agg [.int .u8 0,.int .u8 0]),.struct [(0,1,false),(1,1,false)]⟩:=by kernel_rfl
theorem Pg:x6 Tryz.prog 168=⟨32,32,[.int .u8 0,.int .u8 0,.int .u8 0,.int .u8 0,.int .u8 0,.int .u8 0,.int .u8 0,.int .u8 0,.int .u8 0,.int .u8 0,.int .u8 0,.int .u8 0,.int .u8 0,.int .u8 0,.int .u8 0,.int .u8 0,.int .u8 0,.int .u8 0,.int .u8 0,.int .u8 0,.int .u8 0,.int .u8 0,.int .u8 0,.int .u8 0,.int .u8 0,.int .u8 0,.int .u8 0,.int .u8 0,.int .u8 0,.int .u8 0,.int .u8 0,.int .u8 0],[.int .u8 0,.int .u8 0,.int .u8 0,.int .u8 0,.int .u8 0,.int .u8 0,.int .u8 0,.int .u8 0,.int .u8 0,.int .u8 0,.int .u8 0,.int .u8 0,.int .u8 0,.int .u8 0,.int .u8 0,.int .u8 0,.int .u8 0,.int .u8 0,.int .u8 0,.int .u8 0,.int .u8 0,.int .u8 0,.int .u8 0,.int .u8 0,.int .u8 0,.int .u8 0,.int .u8 0,.int .u8 0,.int .u8 0,.int .u8 0,.int .u8 0,.int .u8 0],some (.agg [.int .u8 0,.int .u8 0,.int .u8 0,.int .u8 0,.int .u8 0,.int .u8 0,.int .u8 0,.int .u8 0,.int .u8 0,.int .u8 0,.int .u8 0,.int .u8 0,.int .u8 0,.int .u8 0,.int .u8 0,.int .u8 0,.int .u8 0,.int .u8 0,.int .u8 0,.int .u8 0,.int .u8 0,.int .u8 0,.int .u8 0,.int .u8 0,.int .u8 0,.int .u8 0,.int .u8 0,.int .u8 0,.int .u8 0,.int .u8 0,.int .u8 0,.int .u8 0]),.arr 16 167⟩:=by kernel_rfl
theorem Ph:x6 Tryz.prog 170=⟨3,48,[.str [],.D3,.int .i64 0],[.str [],.sl false 2 40 [],.int .i64 0],some (.agg [.str [],.D3,.int .i64 0]),.struct [(0,2,true),(2,1,false)]⟩:=by kernel_rfl
theorem Pj:x6 Tryz.prog 171=⟨3,48,[.str [],.D3,.int .i64 0],[.str [],.sl false 2 40 [],.int .i64 0],some (.agg [.str [],.D3,.int .i64 0]),.struct [(0,2,true),(2,1,false)]⟩:=by kernel_rfl
theorem Pk:x6 Tryz.prog 172=⟨1,24,[.D3],[.sl false 3 48 []],some (.D3),.slice 171⟩:=by kernel_rfl
theorem Pm:x6 Tryz.prog 173=⟨1,24,[.D3],[.sl false 7 104 []],some (.D3),.slice 176⟩:=by kernel_rfl
theorem Pn:x6 Tryz.prog 175=⟨7,104,[.int .i64 0,.str [],.str [],.D3,.int .i64 0,.D3,.int .i64 0],[.int .i64 0,.str [],.str [],.sl false 2 40 [],.int .i64 0,.sl false 1 8 [],.int .i64 0],some (.agg [.int .i64 0,.str [],.str [],.D3,.int .i64 0,.D3,.int .i64 0]),.struct [(0,1,false),(1,1,false),(2,2,true),(4,1,false),(5,1,false),(6,1,false)]⟩:=by kernel_rfl
theorem Po:x6 Tryz.prog 176=⟨7,104,[.int .i64 0,.str [],.str [],.D3,.int .i64 0,.D3,.int .i64 0],[.int .i64 0,.str [],.str [],.sl false 2 40 [],.int .i64 0,.sl false 1 8 [],.int .i64 0],some (.agg [.int .i64 0,.str [],.str [],.D3,.int .i64 0,.D3,.int .i64 0]),.struct [(0,1,false),(1,1,false),(2,2,true),(4,1,false),(5,1,false),(6,1,false)]⟩:=by kernel_rfl
theorem Pp:x6 Tryz.prog 179=⟨256,256,(List.replicate 256 (.bool false)),[],some (.agg (List.replicate 256 (.bool false))),.arr 256 4⟩:=by kernel_rfl
theorem Pq:x6 Tryz.prog 180=⟨256,256,(List.replicate 256 (.bool false)),[],some (.agg (List.replicate 256 (.bool false))),.arr 256 4⟩:=by kernel_rfl
theorem Pr:x6 Tryz.prog 181=⟨1,0,[.any],[.any],some (.any),.other⟩:=by kernel_rfl
theorem Pt:x6 Tryz.prog 188=⟨1,8,[.vw],[.vw],some (.vw),.ptr 180⟩:=by kernel_rfl
theorem Pu:x6 Tryz.prog 197=⟨1,4,[.int .u32 0],[.int .u32 0],some (.int .u32 0),.int .u32⟩:=by kernel_rfl
theorem Pv:x6 Tryz.prog 201=⟨1,8,[.vw],[.vw],some (.vw),.ptr 5⟩:=by kernel_rfl
theorem fk7:D6 Tryz.prog 7=some [1,1,3,1]:=by kernel_rfl
theorem QY:D6 Tryz.prog 24=some [0,0]:=by kernel_rfl
theorem QZ:D6 Tryz.prog 25=some [0,0]:=by kernel_rfl
theorem Ra:D6 Tryz.prog 29=some [0]:=by kernel_rfl
theorem Rb:D6 Tryz.prog 30=some [0]:=by kernel_rfl
theorem Rc:D6 Tryz.prog 34=some [0,0]:=by kernel_rfl
theorem Rf:D6 Tryz.prog 35=some [0,0]:=by kernel_rfl
theorem Rg:D6 Tryz.prog 38=some [1,1]:=by kernel_rfl
theorem Rh:D6 Tryz.prog 39=some [1,1]:=by kernel_rfl
theorem Ri:D6 Tryz.prog 44=some [1,1]:=by kernel_rfl
theorem Rj:D6 Tryz.prog 45=some [1,1]:=by kernel_rfl
theorem Rk:D6 Tryz.prog 51=some [1,1,0]:=by kernel_rfl
theorem Rl:D6 Tryz.prog 52=some [1,1,0]:=by kernel_rfl
theorem Rm:D6 Tryz.prog 60=some [1,0]:=by kernel_rfl
theorem Rn:D6 Tryz.prog 61=some [1,0]:=by kernel_rfl
theorem Ro:D6 Tryz.prog 63=some [2,0]:=by kernel_rfl
theorem Rp:D6 Tryz.prog 64=some [2,0]:=by kernel_rfl
theorem Rq:D6 Tryz.prog 68=some [2,0,1,0]:=by kernel_rfl
theorem Rr:D6 Tryz.prog 69=some [2,0,1,0]:=by kernel_rfl
theorem Rs:D6 Tryz.prog 70=some [2,0,1,1,0]:=by kernel_rfl
theorem Rt:D6 Tryz.prog 71=some [2,0,1,1,0]:=by kernel_rfl
theorem Ru:D6 Tryz.prog 79=some [2,1,1]:=by kernel_rfl
theorem Rv:D6 Tryz.prog 80=some [2,1,1]:=by kernel_rfl
theorem Pw:D6 Tryz.prog 102=some [1,1]:=by kernel_rfl
theorem Px:D6 Tryz.prog 103=some [1,1]:=by kernel_rfl
theorem Py:D6 Tryz.prog 113=some [2,0]:=by kernel_rfl
theorem Pz:D6 Tryz.prog 114=some [2,0]:=by kernel_rfl
theorem PA:D6 Tryz.prog 116=some [0,0]:=by kernel_rfl
theorem PB:D6 Tryz.prog 117=some [0,0]:=by kernel_rfl
theorem PC:D6 Tryz.prog 166=some [1,1]:=by kernel_rfl
theorem PD:D6 Tryz.prog 167=some [1,1]:=by kernel_rfl
attribute [go_sem] ty0 ty2 ty3 ty4 ty5 ty7 ty9 PW PX PY PZ Qa Qb Qc Qd Qe Qf Qg Qh Qi Qj Qk Ql Qm Qn Qo Qp Qq Qr Qs Qt Qu Qv Qw Qx Qy Qz QA QB QC QD QE QF QG QH QI QJ QK QL QM QN QO QS QT QU QV QW QX Ot Ou Ov Ow Ox Oy Oz OA OB OC OD OE OG OH OI OJ OL OM OO OP OQ OT OU OV OW OX OY OZ Pa Pb Pc Pf Pg Ph Pj Pk Pm Pn Po Pp Pq Pr Pt Pu Pv fk7 QY QZ Ra Rb Rc Rf Rg Rh Ri Rj Rk Rl Rm Rn Ro Rp Rq Rr Rs Rt Ru Rv Pw Px Py Pz PA PB PC PD
end Go.Proofs.YtoekkdodipnmpaaGreatDoor
