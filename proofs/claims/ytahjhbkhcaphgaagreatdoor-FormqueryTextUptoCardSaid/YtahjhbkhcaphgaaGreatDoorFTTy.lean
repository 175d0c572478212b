import Derived.Test.YtahjhbkhcaphgaaGreatDoorProg
import Derived.Test.YtahjhbkhcaphgaaGreatDoorFTAm3
set_option linter.unusedVariables false
set_option linter.unusedSimpArgs false
namespace Go.Proofs.YtahjhbkhcaphgaaGreatDoor
open Go Go.Am
theorem ty0:x5 Tryz.prog 0=⟨1,0,[.any],[.any],some (.any),.other⟩:=by kernel_rfl
theorem ty2:x5 Tryz.prog 2=⟨1,8,[.int .i64 0],[.int .i64 0],some (.int .i64 0),.int .i64⟩:=by kernel_rfl
theorem ty3:x5 Tryz.prog 3=⟨1,8,[.int .i64 0],[.int .i64 0],some (.int .i64 0),.int .i64⟩:=by kernel_rfl
theorem ty4:x5 Tryz.prog 4=⟨1,1,[.bool false],[.bool false],some (.bool false),.bool⟩:=by kernel_rfl
theorem ty5:x5 Tryz.prog 5=⟨1,1,[.int .u8 0],[.int .u8 0],some (.int .u8 0),.int .u8⟩:=by kernel_rfl
theorem ty7:x5 Tryz.prog 7=⟨4,24,[.int .i64 0,.int .i64 0,.bool false,.int .u8 0],[.int .i64 0,.int .i64 0,.bool false,.int .u8 0],some (.agg [.int .i64 0,.int .i64 0,.bool false,.int .u8 0]),.struct [(0,1,false),(1,1,false),(2,1,false),(3,1,false)]⟩:=by kernel_rfl
theorem ty9:x5 Tryz.prog 9=⟨1,16,[.str []],[.str []],some (.str []),.str⟩:=by kernel_rfl
theorem OU:x5 Tryz.prog 12=⟨1,8,[.int .u64 0],[.int .u64 0],some (.int .u64 0),.int .u64⟩:=by kernel_rfl
theorem OV:x5 Tryz.prog 13=⟨2,24,[.str [],.int .u64 0],[.str [],.int .u64 0],some (.agg [.str [],.int .u64 0]),.struct [(0,1,false),(1,1,false)]⟩:=by kernel_rfl
theorem OW:x5 Tryz.prog 18=⟨1,8,[.eB],[.eB],some (.agg [.eB]),.struct [(0,1,false)]⟩:=by kernel_rfl
theorem OX:x5 Tryz.prog 21=⟨1,4,[.int .i32 0],[.int .i32 0],some (.int .i32 0),.int .i32⟩:=by kernel_rfl
theorem LY:x5 Tryz.prog 22=⟨1,24,[.y5],[.sl false 1 16 []],some (.y5),.slice 9⟩:=by kernel_rfl
theorem OY:x5 Tryz.prog 23=⟨1,24,[.y5],[.sl false 4 72 []],some (.y5),.slice 25⟩:=by kernel_rfl
theorem OZ:x5 Tryz.prog 24=⟨4,72,[.int .i64 0,.str [],.y5,.y5],[.int .i64 0,.str [],.sl false 1 16 [],.sl false 4 72 []],some (.agg [.int .i64 0,.str [],.y5,.y5]),.struct [(0,1,false),(1,1,false),(2,1,false),(3,1,false)]⟩:=by kernel_rfl
theorem Pa:x5 Tryz.prog 25=⟨4,72,[.int .i64 0,.str [],.y5,.y5],[.int .i64 0,.str [],.sl false 1 16 [],.sl false 4 72 []],some (.agg [.int .i64 0,.str [],.y5,.y5]),.struct [(0,1,false),(1,1,false),(2,1,false),(3,1,false)]⟩:=by kernel_rfl
theorem Pb:x5 Tryz.prog 26=⟨7,144,[.int .i64 0,.str [],.y5,.y5,.y5,.y5,.y5],[.int .i64 0,.str [],.sl false 1 16 [],.sl false 4 72 [],.sl false 1 16 [],.sl false 1 16 [],.sl false 1 16 []],some (.agg [.int .i64 0,.str [],.y5,.y5,.y5,.y5,.y5]),.struct [(0,4,true),(4,1,false),(5,1,false),(6,1,false)]⟩:=by kernel_rfl
theorem Pc:x5 Tryz.prog 27=⟨7,144,[.int .i64 0,.str [],.y5,.y5,.y5,.y5,.y5],[.int .i64 0,.str [],.sl false 1 16 [],.sl false 4 72 [],.sl false 1 16 [],.sl false 1 16 [],.sl false 1 16 []],some (.agg [.int .i64 0,.str [],.y5,.y5,.y5,.y5,.y5]),.struct [(0,4,true),(4,1,false),(5,1,false),(6,1,false)]⟩:=by kernel_rfl
theorem Pf:x5 Tryz.prog 29=⟨2,16,[.int .i64 0,.int .i64 0],[.int .i64 0,.int .i64 0],some (.agg [.int .i64 0,.int .i64 0]),.struct [(0,1,false),(1,1,false)]⟩:=by kernel_rfl
theorem Pg:x5 Tryz.prog 30=⟨2,16,[.int .i64 0,.int .i64 0],[.int .i64 0,.int .i64 0],some (.agg [.int .i64 0,.int .i64 0]),.struct [(0,1,false),(1,1,false)]⟩:=by kernel_rfl
theorem Ph:x5 Tryz.prog 31=⟨1,0,[.any],[.any],some (.any),.other⟩:=by kernel_rfl
theorem Pj:x5 Tryz.prog 34=⟨1,0,[.any],[.any],some (.any),.other⟩:=by kernel_rfl
theorem Pk:x5 Tryz.prog 42=⟨1,24,[.y5],[.sl false 6 104 []],some (.y5),.slice 49⟩:=by kernel_rfl
theorem Pm:x5 Tryz.prog 43=⟨1,0,[.any],[.any],some (.any),.other⟩:=by kernel_rfl
theorem Pn:x5 Tryz.prog 45=⟨1,24,[.y5],[.sl false 2 32 []],some (.y5),.slice 51⟩:=by kernel_rfl
theorem Po:x5 Tryz.prog 46=⟨1,0,[.any],[.any],some (.any),.other⟩:=by kernel_rfl
theorem Pp:x5 Tryz.prog 48=⟨6,104,[.str [],.str [],.int .i64 0,.str [],.y5,.y5],[.str [],.str [],.int .i64 0,.str [],.sl false 1 16 [],.sl false 4 72 []],some (.agg [.str [],.str [],.int .i64 0,.str [],.y5,.y5]),.struct [(0,1,false),(1,1,false),(2,4,true)]⟩:=by kernel_rfl
theorem Pq:x5 Tryz.prog 49=⟨6,104,[.str [],.str [],.int .i64 0,.str [],.y5,.y5],[.str [],.str [],.int .i64 0,.str [],.sl false 1 16 [],.sl false 4 72 []],some (.agg [.str [],.str [],.int .i64 0,.str [],.y5,.y5]),.struct [(0,1,false),(1,1,false),(2,4,true)]⟩:=by kernel_rfl
theorem Pr:x5 Tryz.prog 50=⟨2,32,[.int .i64 0,.y5],[.int .i64 0,.sl false 6 104 []],some (.agg [.int .i64 0,.y5]),.struct [(0,1,false),(1,1,false)]⟩:=by kernel_rfl
theorem Pt:x5 Tryz.prog 51=⟨2,32,[.int .i64 0,.y5],[.int .i64 0,.sl false 6 104 []],some (.agg [.int .i64 0,.y5]),.struct [(0,1,false),(1,1,false)]⟩:=by kernel_rfl
theorem Pu:x5 Tryz.prog 56=⟨1,24,[.y5],[.sl false 5 80 []],some (.y5),.slice 61⟩:=by kernel_rfl
theorem Pv:x5 Tryz.prog 59=⟨1,24,[.y5],[.sl false 1 1 []],some (.y5),.slice 4⟩:=by kernel_rfl
theorem Pw:x5 Tryz.prog 60=⟨5,80,[.int .i64 0,.str [],.y5,.y5,.int .i64 0],[.int .i64 0,.str [],.sl false 1 16 [],.sl false 1 1 [],.int .i64 0],some (.agg [.int .i64 0,.str [],.y5,.y5,.int .i64 0]),.struct [(0,1,false),(1,1,false),(2,1,false),(3,1,false),(4,1,false)]⟩:=by kernel_rfl
theorem Px:x5 Tryz.prog 61=⟨5,80,[.int .i64 0,.str [],.y5,.y5,.int .i64 0],[.int .i64 0,.str [],.sl false 1 16 [],.sl false 1 1 [],.int .i64 0],some (.agg [.int .i64 0,.str [],.y5,.y5,.int .i64 0]),.struct [(0,1,false),(1,1,false),(2,1,false),(3,1,false),(4,1,false)]⟩:=by kernel_rfl
theorem Py:x5 Tryz.prog 63=⟨1,0,[.any],[.any],some (.any),.other⟩:=by kernel_rfl
theorem Pz:x5 Tryz.prog 68=⟨3,72,[.y5,.y5,.y5],[.sl false 1 16 [],.sl false 1 16 [],.sl false 1 16 []],some (.agg [.y5,.y5,.y5]),.arr 3 22⟩:=by kernel_rfl
theorem PA:x5 Tryz.prog 69=⟨1,0,[.any],[.any],some (.any),.other⟩:=by kernel_rfl
theorem PB:x5 Tryz.prog 71=⟨1,0,[.any],[.any],some (.any),.other⟩:=by kernel_rfl
theorem PC:x5 Tryz.prog 74=⟨1,8,[.jx],[.jx],some (.jx),.other⟩:=by kernel_rfl
theorem PD:x5 Tryz.prog 78=⟨1,0,[.any],[.any],some (.any),.other⟩:=by kernel_rfl
theorem PE:x5 Tryz.prog 80=⟨1,8,[.eB],[.eB],some (.eB),.ptr 83⟩:=by kernel_rfl
theorem PF:x5 Tryz.prog 81=⟨1,24,[.y5],[.sl false 1 1 []],some (.y5),.slice 5⟩:=by kernel_rfl
theorem PG:x5 Tryz.prog 82=⟨2,32,[.eB,.y5],[.eB,.sl false 1 1 []],some (.agg [.eB,.y5]),.struct [(0,1,false),(1,1,false)]⟩:=by kernel_rfl
theorem PI:x5 Tryz.prog 83=⟨2,32,[.eB,.y5],[.eB,.sl false 1 1 []],some (.agg [.eB,.y5]),.struct [(0,1,false),(1,1,false)]⟩:=by kernel_rfl
theorem PJ:x5 Tryz.prog 86=⟨1,16,[.any],[.any],some (.any),.other⟩:=by kernel_rfl
theorem PK:x5 Tryz.prog 87=⟨1,0,[.any],[.any],some (.any),.other⟩:=by kernel_rfl
theorem PL:x5 Tryz.prog 89=⟨1,8,[.jx],[.jx],some (.jx),.other⟩:=by kernel_rfl
theorem PN:x5 Tryz.prog 93=⟨1,8,[.eB],[.eB],some (.eB),.ptr 97⟩:=by kernel_rfl
theorem PO:x5 Tryz.prog 94=⟨4,40,[.str [],.int .i64 0,.int .i64 0,.int .i64 0],[.str [],.int .i64 0,.int .i64 0,.int .i64 0],some (.agg [.str [],.int .i64 0,.int .i64 0,.int .i64 0]),.struct [(0,1,false),(1,1,false),(2,2,true)]⟩:=by kernel_rfl
theorem PS:x5 Tryz.prog 95=⟨4,40,[.str [],.int .i64 0,.int .i64 0,.int .i64 0],[.str [],.int .i64 0,.int .i64 0,.int .i64 0],some (.agg [.str [],.int .i64 0,.int .i64 0,.int .i64 0]),.struct [(0,1,false),(1,1,false),(2,2,true)]⟩:=by kernel_rfl
theorem PU:x5 Tryz.prog 96=⟨5,48,[.str [],.int .i64 0,.int .i64 0,.int .i64 0,.int .i64 0],[.str [],.int .i64 0,.int .i64 0,.int .i64 0,.int .i64 0],some (.agg [.str [],.int .i64 0,.int .i64 0,.int .i64 0,.int .i64 0]),.struct [(0,4,true),(4,1,false)]⟩:=by kernel_rfl
theorem PV:x5 Tryz.prog 97=⟨5,48,[.str [],.int .i64 0,.int .i64 0,.int .i64 0,.int .i64 0],[.str [],.int .i64 0,.int .i64 0,.int .i64 0,.int .i64 0],some (.agg [.str [],.int .i64 0,.int .i64 0,.int .i64 0,.int .i64 0]),.struct [(0,4,true),(4,1,false)]⟩:=by kernel_rfl
theorem Np:x5 Tryz.prog 100=⟨1,8,[.mh],[.mh],some (.mh),.map 9 49⟩:=by kernel_rfl
theorem Nq:x5 Tryz.prog 101=⟨1,8,[.mh],[.mh],some (.mh),.map 9 49⟩:=by kernel_rfl
theorem Nr:x5 Tryz.prog 106=⟨1,8,[.jx],[.jx],some (.jx),.other⟩:=by kernel_rfl
theorem Ns:x5 Tryz.prog 109=⟨1,8,[.eB],[.eB],some (.eB),.ptr 5⟩:=by kernel_rfl
theorem Nt:x5 Tryz.prog 111=⟨5,80,[.int .i64 0,.str [],.y5,.y5,.int .i64 0],[.int .i64 0,.str [],.sl false 1 16 [],.sl false 4 72 [],.int .i64 0],some (.agg [.int .i64 0,.str [],.y5,.y5,.int .i64 0]),.struct [(0,4,true),(4,1,false)]⟩:=by kernel_rfl
theorem Nu:x5 Tryz.prog 112=⟨5,80,[.int .i64 0,.str [],.y5,.y5,.int .i64 0],[.int .i64 0,.str [],.sl false 1 16 [],.sl false 4 72 [],.int .i64 0],some (.agg [.int .i64 0,.str [],.y5,.y5,.int .i64 0]),.struct [(0,4,true),(4,1,false)]⟩:=by kernel_rfl
theorem Nv:x5 Tryz.prog 113=⟨1,24,[.y5],[.sl false 5 80 []],some (.y5),.slice 112⟩:=by kernel_rfl
theorem Nw:x5 Tryz.prog 120=⟨1,8,[.mh],[.mh],some (.mh),.map 9 3⟩:=by kernel_rfl
theorem Nx:x5 Tryz.prog 121=⟨1,8,[.eB],[.eB],some (.eB),.ptr 95⟩:=by kernel_rfl
theorem Ny:x5 Tryz.prog 122=⟨1,8,[.jx],[.jx],some (.jx),.other⟩:=by kernel_rfl
theorem Nz:x5 Tryz.prog 123=⟨1,8,[.jx],[.jx],some (.jx),.other⟩:=by kernel_rfl
theorem NA:x5 Tryz.prog 124=⟨1,8,[.jx],[.jx],some (.jx),.other⟩:=by kernel_rfl
theorem NC:x5 Tryz.prog 125=⟨1,8,[.jx],[.jx],some (.jx),.other⟩:=by kernel_rfl
theorem ND:x5 Tryz.prog 127=⟨1,0,[.any],[.any],some (.any),.other⟩:=by kernel_rfl
theorem NG:x5 Tryz.prog 128=⟨1,24,[.y5],[.sl false 1 24 []],some (.y5),.slice 22⟩:=by kernel_rfl
theorem NH:x5 Tryz.prog 130=⟨1,24,[.y5],[.sl false 2 32 []],some (.y5),.slice 132⟩:=by kernel_rfl
theorem NI:x5 Tryz.prog 131=⟨2,32,[.str [],.str []],[.str [],.str []],some (.agg [.str [],.str []]),.struct [(0,1,false),(1,1,false)]⟩:=by kernel_rfl
theorem NJ:x5 Tryz.prog 132=⟨2,32,[.str [],.str []],[.str [],.str []],some (.agg [.str [],.str []]),.struct [(0,1,false),(1,1,false)]⟩:=by kernel_rfl
theorem NK:x5 Tryz.prog 137=⟨1,8,[.int .u64 0],[.int .u64 0],some (.int .u64 0),.int .u64⟩:=by kernel_rfl
theorem NM:x5 Tryz.prog 141=⟨1,24,[.y5],[.sl false 1 8 []],some (.y5),.slice 3⟩:=by kernel_rfl
theorem NP:x5 Tryz.prog 144=⟨1,0,[.any],[.any],some (.any),.other⟩:=by kernel_rfl
theorem NQ:x5 Tryz.prog 146=⟨1,8,[.mh],[.mh],some (.mh),.map 5 3⟩:=by kernel_rfl
theorem NR:x5 Tryz.prog 148=⟨1,8,[.int .i64 0],[.int .i64 0],some (.int .i64 0),.int .i64⟩:=by kernel_rfl
theorem NS:x5 Tryz.prog 149=⟨1,0,[.any],[.any],some (.any),.other⟩:=by kernel_rfl
theorem NT:x5 Tryz.prog 153=⟨1,0,[.any],[.any],some (.any),.other⟩:=by kernel_rfl
theorem NU:x5 Tryz.prog 156=⟨1,4,[.int .u32 0],[.int .u32 0],some (.int .u32 0),.int .u32⟩:=by kernel_rfl
theorem NV:x5 Tryz.prog 158=⟨1,8,[.int .u64 0],[.int .u64 0],some (.int .u64 0),.int .u64⟩:=by kernel_rfl
theorem NW:x5 Tryz.prog 159=⟨1,0,[.any],[.any],some (.any),.other⟩:=by kernel_rfl
theorem NX:x5 Tryz.prog 162=⟨1,8,[.int .u64 0],[.int .u64 0],some (.int .u64 0),.int .u64⟩:=by kernel_rfl
theorem NY:x5 Tryz.prog 166=⟨1,8,[.eB],[.eB],some (.eB),.ptr 3⟩:=by kernel_rfl
theorem NZ:x5 Tryz.prog 168=⟨256,256,(List.replicate 256 (.int .u8 0)),[],some (.agg (List.replicate 256 (.int .u8 0))),.arr 256 5⟩:=by kernel_rfl
theorem Oa:x5 Tryz.prog 169=⟨2,2,[.int .u8 0,.int .u8 0],[.int .u8 0,.int .u8 0],some (.agg [.int .u8 0,.int .u8 0]),.struct [(0,1,false),(1,1,false)]⟩:=by kernel_rfl
theorem Oc:x5 Tryz.prog 170=⟨2,2,[.int .u8 0,.int .u8 0],[.int .u8 0,.int .u8 0],some (.agg [.int .u8 0,.int .u8 0]),.struct [(0,1,false),(1,1,false)]⟩:=by kernel_rfl
theorem Od:x5 Tryz.prog 171=⟨32,32,[.int .u8 0,.int .u8 0,.int .u8 0,.int .u8 0,.int .u8 0,.int .u8 0,.int .u8 0,.int .u8 0,.int .u8 0,.int .u8 0,.int .u8 0,.int .u8 0,.int .u8 0,.int .u8 0,.int .u8 0,.int .u8 0,.int .u8 0,.int .u8 0,.int .u8 0,.int .u8 0,.int .u8 0,.int .u8 0,.int .u8 0,.int .u8 0,.int .u8 0,.int .u8 0,.int .u8 0,.int .u8 0,.int .u8 0,.int .u8 0,.int .u8 0,.int .u8 0],[.int .u8 0,.int .u8 0,.int .u8 0,.int .u8 0,.int .u8 0,.int .u8 0,.int .u8 0,.int .u8 0,.int .u8 0,.int .u8 0,.int .u8 0,.int .u8 0,.int .u8 0,.int .u8 0,.int .u8 0,.int .u8 0,.int .u8 0,.int .u8 0,.int .u8 0,.int .u8 0,.int .u8 0,.int .u8 0,.int .u8 0,.int .u8 0,.int .u8 0,.int .u8 0,.int .u8 0,.int .u8 0,.int .u8 0,.int .u8 0,.int .u8 0,.int .u8 0],some (.agg [.int .u8 0,.int .u8 0,.int .u8 0,.int .u8 0,.int .u8 0,.int .u8 0,.int .u8 0,.int .u8 0,.int .u8 0,.int .u8 0,.int .u8 0,.int .u8 0,.int .u8 0,.int .u8 0,.int .u8 0,.int .u8 0,.int .u8 0,.int .u8 0,.int .u8 0,.int .u8 0,.int .u8 0,.int .u8 0,.int .u8 0,.int .u8 0,.int .u8 0,.int .u8 0,.int .u8 0,.int .u8 0,.int .u8 0,.int .u8 0,.int .u8 0,.int .u8 0]),.arr 16 170⟩:=by kernel_rfl
theorem Oe:x5 Tryz.prog 172=⟨24,24,[.int .u8 0,.int .u8 0,.int .u8 0,.int .u8 0,.int .u8 0,.int .u8 0,.int .u8 0,.int .u8 0,.int .u8 0,.int .u8 0,.int .u8 0,.int .u8 0,.int .u8 0,.int .u8 0,.int .u8 0,.int .u8 0,.int .u8 0,.int .u8 0,.int .u8 0,.int .u8 0,.int .u8 0,.int .u8 0,.int .u8 0,.int .u8 0],[.int .u8 0,.int .u8 0,.int .u8 0,.int .u8 0,.int .u8 0,.int .u8 0,.int .u8 0,.int .u8 0,.int .u8 0,.int .u8 0,.int .u8 0,.int .u8 0,.int .u8 0,.int .u8 0,.int .u8 0,.int .u8 0,.int .u8 0,.int .u8 0,.int .u8 0,.int .u8 0,.int .u8 0,.int .u8 0,.int .u8 0,.int .u8 0],some (.agg [.int .u8 0,.int .u8 0,.int .u8 0,.int .u8 0,.int .u8 0,.int .u8 0,.int .u8 0,.int .u8 0,.int .u8 0,.int .u8 0,.int .u8 0,.int .u8 0,.int .u8 0,.int .u8 0,.int .u8 0,.int .u8 0,.int .u8 0,.int .u8 0,.int .u8 0,.int .u8 0,.int .u8 0,.int .u8 0,.int .u8 0,.int .u8 0]),.arr 24 5⟩:=by kernel_rfl
theorem Og:x5 Tryz.prog 174=⟨1,0,[.any],[.any],some (.any),.other⟩:=by kernel_rfl
theorem Oh:x5 Tryz.prog 176=⟨1,8,[.eB],[.eB],some (.eB),.ptr 162⟩:=by kernel_rfl
theorem Oi:x5 Tryz.prog 177=⟨1,0,[.any],[.any],some (.any),.other⟩:=by kernel_rfl
theorem Oj:x5 Tryz.prog 180=⟨20,160,[.int .u64 0,.int .u64 0,.int .u64 0,.int .u64 0,.int .u64 0,.int .u64 0,.int .u64 0,.int .u64 0,.int .u64 0,.int .u64 0,.int .u64 0,.int .u64 0,.int .u64 0,.int .u64 0,.int .u64 0,.int .u64 0,.int .u64 0,.int .u64 0,.int .u64 0,.int .u64 0],[.int .u64 0,.int .u64 0,.int .u64 0,.int .u64 0,.int .u64 0,.int .u64 0,.int .u64 0,.int .u64 0,.int .u64 0,.int .u64 0,.int .u64 0,.int .u64 0,.int .u64 0,.int .u64 0,.int .u64 0,.int .u64 0,.int .u64 0,.int .u64 0,.int .u64 0,.int .u64 0],some (.agg [.int .u64 0,.int .u64 0,.int .u64 0,.int .u64 0,.int .u64 0,.int .u64 0,.int .u64 0,.int .u64 0,.int .u64 0,.int .u64 0,.int .u64 0,.int .u64 0,.int .u64 0,.int .u64 0,.int .u64 0,.int .u64 0,.int .u64 0,.int .u64 0,.int .u64 0,.int .u64 0]),.arr 20 158⟩:=by kernel_rfl
theorem Ol:x5 Tryz.prog 181=⟨65,65,[.int .u8 0,.int .u8 0,.int .u8 0,.int .u8 0,.int .u8 0,.int .u8 0,.int .u8 0,.int .u8 0,.int .u8 0,.int .u8 0,.int .u8 0,.int .u8 0,.int .u8 0,.int .u8 0,.int .u8 0,.int .u8 0,.int .u8 0,.int .u8 0,.int .u8 0,.int .u8 0,.int .u8 0,.int .u8 0,.int .u8 0,.int .u8 0,.int .u8 0,.int .u8 0,.int .u8 0,.int .u8 0,.int .u8 0,.int .u8 0,.int .u8 0,.int .u8 0,.int .u8 0,.int .u8 0,.int .u8 0,.int .u8 0,.int .u8 0,.int .u8 0,.int .u8 0,.int .u8 0,.int .u8 0,.int .u8 0,.int .u8 0,.int .u8 0,.int .u8 0,.int .u8 0,.int .u8 0,.int .u8 0,.int .u8 0,.int .u8 0,.int .u8 0,.int .u8 0,.int .u8 0,.int .u8 0,.int .u8 0,.int .u8 0,.int .u8 0,.int .u8 0,.int .u8 0,.int .u8 0,.int .u8 0,.int .u8 0,.int .u8 0,.int .u8 0,.int .u8 0],[],some (.agg [.int .u8 0,.int .u8 0,.int .u8 0,.int .u8 0,.int .u8 0,.int .u8 0,.int .u8 0,.int .u8 0,.int .u8 0,.int .u8 0,.int .u8 0,.int .u8 0,.int .u8 0,.int .u8 0,.int .u8 0,.int .u8 0,.int .u8 0,.int .u8 0,.int .u8 0,.int .u8 0,.int .u8 0,.int .u8 0,.int .u8 0,.int .u8 0,.int .u8 0,.int .u8 0,.int .u8 0,.int .u8 0,.int .u8 0,.int .u8 0,.int .u8 0,.int .u8 0,.int .u8 0,.int .u8 0,.int .u8 0,.int .u8 0,.int .u8 0,.int .u8 0,.int .u8 0,.int .u8 0,.int .u8 0,.int .u8 0,.int .u8 0,.int .u8 0,.int .u8 0,.int .u8 0,.int .u8 0,.int .u8 0,.int .u8 0,.int .u8 0,.int .u8 0,.int .u8 0,.int .u8 0,.int .u8 0,.int .u8 0,.int .u8 0,.int .u8 0,.int .u8 0,.int .u8 0,.int .u8 0,.int .u8 0,.int .u8 0,.int .u8 0,.int .u8 0,.int .u8 0]),.arr 65 5⟩:=by kernel_rfl
theorem Om:x5 Tryz.prog 183=⟨32,32,[.int .u8 0,.int .u8 0,.int .u8 0,.int .u8 0,.int .u8 0,.int .u8 0,.int .u8 0,.int .u8 0,.int .u8 0,.int .u8 0,.int .u8 0,.int .u8 0,.int .u8 0,.int .u8 0,.int .u8 0,.int .u8 0,.int .u8 0,.int .u8 0,.int .u8 0,.int .u8 0,.int .u8 0,.int .u8 0,.int .u8 0,.int .u8 0,.int .u8 0,.int .u8 0,.int .u8 0,.int .u8 0,.int .u8 0,.int .u8 0,.int .u8 0,.int .u8 0],[.int .u8 0,.int .u8 0,.int .u8 0,.int .u8 0,.int .u8 0,.int .u8 0,.int .u8 0,.int .u8 0,.int .u8 0,.int .u8 0,.int .u8 0,.int .u8 0,.int .u8 0,.int .u8 0,.int .u8 0,.int .u8 0,.int .u8 0,.int .u8 0,.int .u8 0,.int .u8 0,.int .u8 0,.int .u8 0,.int .u8 0,.int .u8 0,.int .u8 0,.int .u8 0,.int .u8 0,.int .u8 0,.int .u8 0,.int .u8 0,.int .u8 0,.int .u8 0],some (.agg [.int .u8 0,.int .u8 0,.int .u8 0,.int .u8 0,.int .u8 0,.int .u8 0,.int .u8 0,.int .u8 0,.int .u8 0,.int .u8 0,.int .u8 0,.int .u8 0,.int .u8 0,.int .u8 0,.int .u8 0,.int .u8 0,.int .u8 0,.int .u8 0,.int .u8 0,.int .u8 0,.int .u8 0,.int .u8 0,.int .u8 0,.int .u8 0,.int .u8 0,.int .u8 0,.int .u8 0,.int .u8 0,.int .u8 0,.int .u8 0,.int .u8 0,.int .u8 0]),.arr 32 5⟩:=by kernel_rfl
theorem Oo:x5 Tryz.prog 184=⟨64,64,[.int .u8 0,.int .u8 0,.int .u8 0,.int .u8 0,.int .u8 0,.int .u8 0,.int .u8 0,.int .u8 0,.int .u8 0,.int .u8 0,.int .u8 0,.int .u8 0,.int .u8 0,.int .u8 0,.int .u8 0,.int .u8 0,.int .u8 0,.int .u8 0,.int .u8 0,.int .u8 0,.int .u8 0,.int .u8 0,.int .u8 0,.int .u8 0,.int .u8 0,.int .u8 0,.int .u8 0,.int .u8 0,.int .u8 0,.int .u8 0,.int .u8 0,.int .u8 0,.int .u8 0,.int .u8 0,.int .u8 0,.int .u8 0,.int .u8 0,.int .u8 0,.int .u8 0,.int .u8 0,.int .u8 0,.int .u8 0,.int .u8 0,.int .u8 0,.int .u8 0,.int .u8 0,.int .u8 0,.int .u8 0,.int .u8 0,.int .u8 0,.int .u8 0,.int .u8 0,.int .u8 0,.int .u8 0,.int .u8 0,.int .u8 0,.int .u8 0,.int .u8 0,.int .u8 0,.int .u8 0,.int .u8 0,.int .u8 0,.int .u8 0,.int .u8 0],[.int .u8 0,.int .u8 0,.int .u8 0,.int .u8 0,.int .u8 0,.int .u8 0,.int .u8 0,.int .u8 0,.int .u8 0,.int .u8 0,.int .u8 0,.int .u8 0,.int .u8 0,.int .u8 0,.int .u8 0,.int .u8 0,.int .u8 0,.int .u8 0,.int .u8 0,.int .u8 0,.int .u8 0,.int .u8 0,.int .u8 0,.int .u8 0,.int .u8 0,.int .u8 0,.int .u8 0,.int .u8 0,.int .u8 0,.int .u8 0,.int .u8 0,.int .u8 0,.int .u8 0,.int .u8 0,.int .u8 0,.int .u8 0,.int .u8 0,.int .u8 0,.int .u8 0,.int .u8 0,.int .u8 0,.int .u8 0,.int .u8 0,.int .u8 0,.int .u8 0,.int .u8 0,.int .u8 0,.int .u8 0,.int .u8 0,.int .u8 0,.int .u8 0,.int .u8 0,.int .u8 0,.int .u8 0,.int .u8 0,.int .u8 0,.int .u8 0,.int .u8 0,.int .u8 0,.int .u8 0,.int .u8 0,.int .u8 0,.int .u8 0,.int .u8 0],some (.agg [.int .u8 0,.int .u8 0,.int .u8 0,.int .u8 0,.int .u8 0,.int .u8 0,.int .u8 0,.int .u8 0,.int .u8 0,.int .u8 0,.int .u8 0,.int .u8 0,.int .u8 0,.int .u8 0,.int .u8 0,.int .u8 0,.int .u8 0,.int .u8 0,.int .u8 0,.int .u8 0,.int .u8 0,.int .u8 0,.int .u8 0,.int .u8 0,.int .u8 0,.int .u8 0,.int .u8 0,.int .u8 0,.int .u8 0,.int .u8 0,.int .u8 0,.int .u8 0,.int .u8 0,.int .u8 0,.int .u8 0,.int .u8 0,.int .u8 0,.int .u8 0,.int .u8 0,.int .u8 0,.int .u8 0,.int .u8 0,.int .u8 0,.int .u8 0,.int .u8 0,.int .u8 0,.int .u8 0,.int .u8 0,.int .u8 0,.int .u8 0,.int .u8 0,.int .u8 0,.int .u8 0,.int .u8 0,.int .u8 0,.int .u8 0,.int .u8 0,.int .u8 0,.int .u8 0,.int .u8 0,.int .u8 0,.int .u8 0,.int .u8 0,.int .u8 0]),.arr 64 5⟩:=by kernel_rfl
theorem Oq:x5 Tryz.prog 185=⟨4,40,[.eB,.eB,.eB,.str []],[.eB,.eB,.eB,.str []],some (.agg [.eB,.eB,.eB,.str []]),.struct [(0,1,false),(1,1,false),(2,1,false),(3,1,false)]⟩:=by kernel_rfl
theorem Ot:x5 Tryz.prog 188=⟨0,0,[],[],some (.agg []),.struct [(0,0,true)]⟩:=by kernel_rfl
theorem Ou:x5 Tryz.prog 196=⟨11,48,[.int .u64 0,.int .u64 0,.int .u32 0,.int .u8 0,.int .u8 0,.int .u8 0,.int .u8 0,.jx,.eB,.int .i32 0,.int .i32 0],[.int .u64 0,.int .u64 0,.int .u32 0,.int .u8 0,.int .u8 0,.int .u8 0,.int .u8 0,.jx,.eB,.int .i32 0,.int .i32 0],some (.agg [.int .u64 0,.int .u64 0,.int .u32 0,.int .u8 0,.int .u8 0,.int .u8 0,.int .u8 0,.jx,.eB,.int .i32 0,.int .i32 0]),.struct [(0,1,false),(1,1,false),(2,1,false),(3,1,false),(4,1,false),(5,1,false),(6,1,false),(7,1,false),(8,1,false),(9,1,false),(10,1,false)]⟩:=by kernel_rfl
theorem fk7:C0 Tryz.prog 7=some [1,1,3,1]:=by kernel_rfl
theorem PW:C0 Tryz.prog 24=some [1,2,0,0]:=by kernel_rfl
theorem PX:C0 Tryz.prog 25=some [1,2,0,0]:=by kernel_rfl
theorem PY:C0 Tryz.prog 29=some [1,1]:=by kernel_rfl
theorem PZ:C0 Tryz.prog 30=some [1,1]:=by kernel_rfl
theorem Qa:C0 Tryz.prog 48=some [2,2,0]:=by kernel_rfl
theorem Qb:C0 Tryz.prog 49=some [2,2,0]:=by kernel_rfl
theorem Qc:C0 Tryz.prog 50=some [1,0]:=by kernel_rfl
theorem Qd:C0 Tryz.prog 51=some [1,0]:=by kernel_rfl
theorem Qe:C0 Tryz.prog 60=some [1,2,0,0,1]:=by kernel_rfl
theorem Qf:C0 Tryz.prog 61=some [1,2,0,0,1]:=by kernel_rfl
theorem Qg:C0 Tryz.prog 82=some [0,0]:=by kernel_rfl
theorem Qh:C0 Tryz.prog 83=some [0,0]:=by kernel_rfl
theorem Qi:C0 Tryz.prog 94=some [2,1,0]:=by kernel_rfl
theorem Qj:C0 Tryz.prog 95=some [2,1,0]:=by kernel_rfl
theorem Qk:C0 Tryz.prog 96=some [2,1,1,1,1]:=by kernel_rfl
theorem Ql:C0 Tryz.prog 97=some [2,1,1,1,1]:=by kernel_rfl
theorem Ov:C0 Tryz.prog 131=some [2,2]:=by kernel_rfl
theorem Ow:C0 Tryz.prog 132=some [2,2]:=by kernel_rfl
theorem Ox:C0 Tryz.prog 169=some [1,1]:=by kernel_rfl
theorem Oy:C0 Tryz.prog 170=some [1,1]:=by kernel_rfl
attribute [go_sem] ty0 ty2 ty3 ty4 ty5 ty7 ty9 OU OV OW OX LY OY OZ Pa Pb Pc Pf Pg Ph Pj Pk Pm Pn Po Pp Pq Pr Pt Pu Pv Pw Px Py Pz PA PB PC PD PE PF PG PI PJ PK PL PN PO PS PU PV Np Nq Nr Ns Nt Nu Nv Nw Nx Ny Nz NA NC ND NG NH NI NJ NK NM NP NQ NR NS NT NU NV NW NX NY NZ Oa Oc Od Oe Og Oh Oi Oj Ol Om Oo Oq Ot Ou fk7 PW PX PY PZ Qa Qb Qc Qd Qe Qf Qg Qh Qi Qj Qk Ql Ov Ow Ox Oy
end Go.Proofs.YtahjhbkhcaphgaaGreatDoor
