import Derived.Test.YtdjnbjnlnjhllaaDoorProg
import Derived.Test.YtdjnbjnlnjhllaaDoorFQAm3
set_option linter.unusedVariables false
set_option linter.unusedSimpArgs false
namespace Go.Proofs.YtdjnbjnlnjhllaaDoor
open Go Go.Am
theorem ty0:w7 Tryd.prog 0=⟨1,0,[.any],[.any],some (.any),.other⟩:=by kernel_rfl
theorem ty2:w7 Tryd.prog 2=⟨1,8,[.int .i64 0],[.int .i64 0],some (.int .i64 0),.int .i64⟩:=by kernel_rfl
theorem ty3:w7 Tryd.prog 3=⟨1,8,[.int .i64 0],[.int .i64 0],some (.int .i64 0),.int .i64⟩:=by kernel_rfl
theorem ty4:w7 Tryd.prog 4=⟨1,1,[.bool false],[.bool false],some (.bool false),.bool⟩:=by kernel_rfl
theorem ty5:w7 Tryd.prog 5=⟨1,1,[.int .u8 0],[.int .u8 0],some (.int .u8 0),.int .u8⟩:=by kernel_rfl
theorem ty7:w7 Tryd.prog 7=⟨4,24,[.int .i64 0,.int .i64 0,.bool false,.int .u8 0],[.int .i64 0,.int .i64 0,.bool false,.int .u8 0],some (.agg [.int .i64 0,.int .i64 0,.bool false,.int .u8 0]),.struct [(0,1,false),(1,1,false),(2,1,false),(3,1,false)]⟩:=by kernel_rfl
theorem ty9:w7 Tryd.prog 9=⟨1,16,[.str []],[.str []],some (.str []),.str⟩:=by kernel_rfl
theorem KT:w7 Tryd.prog 12=⟨1,8,[.int .u64 0],[.int .u64 0],some (.int .u64 0),.int .u64⟩:=by kernel_rfl
theorem KU:w7 Tryd.prog 13=⟨2,24,[.str [],.int .u64 0],[.str [],.int .u64 0],some (.agg [.str [],.int .u64 0]),.struct [(0,1,false),(1,1,false)]⟩:=by kernel_rfl
theorem KV:w7 Tryd.prog 18=⟨1,8,[.iG],[.iG],some (.agg [.iG]),.struct [(0,1,false)]⟩:=by kernel_rfl
theorem KW:w7 Tryd.prog 21=⟨1,4,[.int .i32 0],[.int .i32 0],some (.int .i32 0),.int .i32⟩:=by kernel_rfl
theorem Jg:w7 Tryd.prog 22=⟨1,24,[.y6],[.sl false 1 16 []],some (.y6),.slice 9⟩:=by kernel_rfl
theorem KX:w7 Tryd.prog 23=⟨1,24,[.y6],[.sl false 4 72 []],some (.y6),.slice 25⟩:=by kernel_rfl
theorem KY:w7 Tryd.prog 24=⟨4,72,[.int .i64 0,.str [],.y6,.y6],[.int .i64 0,.str [],.sl false 1 16 [],.sl false 4 72 []],some (.agg [.int .i64 0,.str [],.y6,.y6]),.struct [(0,1,false),(1,1,false),(2,1,false),(3,1,false)]⟩:=by kernel_rfl
theorem KZ:w7 Tryd.prog 25=⟨4,72,[.int .i64 0,.str [],.y6,.y6],[.int .i64 0,.str [],.sl false 1 16 [],.sl false 4 72 []],some (.agg [.int .i64 0,.str [],.y6,.y6]),.struct [(0,1,false),(1,1,false),(2,1,false),(3,1,false)]⟩:=by kernel_rfl
theorem La:w7 Tryd.prog 26=⟨7,144,[.int .i64 0,.str [],.y6,.y6,.y6,.y6,.y6],[.int .i64 0,.str [],.sl false 1 16 [],.sl false 4 72 [],.sl false 1 16 [],.sl false 1 16 [],.sl false 1 16 []],some (.agg [.int .i64 0,.str [],.y6,.y6,.y6,.y6,.y6]),.struct [(0,4,true),(4,1,false),(5,1,false),(6,1,false)]⟩:=by kernel_rfl
theorem Lb:w7 Tryd.prog 27=⟨7,144,[.int .i64 0,.str [],.y6,.y6,.y6,.y6,.y6],[.int .i64 0,.str [],.sl false 1 16 [],.sl false 4 72 [],.sl false 1 16 [],.sl false 1 16 [],.sl false 1 16 []],some (.agg [.int .i64 0,.str [],.y6,.y6,.y6,.y6,.y6]),.struct [(0,4,true),(4,1,false),(5,1,false),(6,1,false)]⟩:=by kernel_rfl
theorem Lc:w7 Tryd.prog 29=⟨2,16,[.int .i64 0,.int .i64 0],[.int .i64 0,.int .i64 0],some (.agg [.int .i64 0,.int .i64 0]),.struct [(0,1,false),(1,1,false)]⟩:=by kernel_rfl
theorem Ld:w7 Tryd.prog 30=⟨2,16,[.int .i64 0,.int .i64 0],[.int .i64 0,.int .i64 0],some (.agg [.int .i64 0,.int .i64 0]),.struct [(0,1,false),(1,1,false)]⟩:=by kernel_rfl
theorem Le:w7 Tryd.prog 33=⟨1,24,[.y6],[.sl false 2 32 []],some (.y6),.slice 38⟩:=by kernel_rfl
theorem Lf:w7 Tryd.prog 34=⟨1,0,[.any],[.any],some (.any),.other⟩:=by kernel_rfl
theorem Lg:w7 Tryd.prog 36=⟨1,24,[.y6],[.sl false 6 104 []],some (.y6),.slice 50⟩:=by kernel_rfl
theorem Lh:w7 Tryd.prog 37=⟨2,32,[.int .i64 0,.y6],[.int .i64 0,.sl false 6 104 []],some (.agg [.int .i64 0,.y6]),.struct [(0,1,false),(1,1,false)]⟩:=by kernel_rfl
theorem Li:w7 Tryd.prog 38=⟨2,32,[.int .i64 0,.y6],[.int .i64 0,.sl false 6 104 []],some (.agg [.int .i64 0,.y6]),.struct [(0,1,false),(1,1,false)]⟩:=by kernel_rfl
theorem Lj:w7 Tryd.prog 41=⟨1,0,[.any],[.any],some (.any),.other⟩:=by kernel_rfl
theorem Lk:w7 Tryd.prog 43=⟨1,0,[.any],[.any],some (.any),.other⟩:=by kernel_rfl
theorem Ll:w7 Tryd.prog 49=⟨6,104,[.str [],.str [],.int .i64 0,.str [],.y6,.y6],[.str [],.str [],.int .i64 0,.str [],.sl false 1 16 [],.sl false 4 72 []],some (.agg [.str [],.str [],.int .i64 0,.str [],.y6,.y6]),.struct [(0,1,false),(1,1,false),(2,4,true)]⟩:=by kernel_rfl
theorem Lm:w7 Tryd.prog 50=⟨6,104,[.str [],.str [],.int .i64 0,.str [],.y6,.y6],[.str [],.str [],.int .i64 0,.str [],.sl false 1 16 [],.sl false 4 72 []],some (.agg [.str [],.str [],.int .i64 0,.str [],.y6,.y6]),.struct [(0,1,false),(1,1,false),(2,4,true)]⟩:=by kernel_rfl
theorem Ln:w7 Tryd.prog 57=⟨1,0,[.any],[.any],some (.any),.other⟩:=by kernel_rfl
theorem Lo:w7 Tryd.prog 59=⟨1,24,[.y6],[.sl false 5 80 []],some (.y6),.slice 63⟩:=by kernel_rfl
theorem Lp:w7 Tryd.prog 61=⟨1,24,[.y6],[.sl false 1 1 []],some (.y6),.slice 4⟩:=by kernel_rfl
theorem Lq:w7 Tryd.prog 62=⟨5,80,[.int .i64 0,.str [],.y6,.y6,.int .i64 0],[.int .i64 0,.str [],.sl false 1 16 [],.sl false 1 1 [],.int .i64 0],some (.agg [.int .i64 0,.str [],.y6,.y6,.int .i64 0]),.struct [(0,1,false),(1,1,false),(2,1,false),(3,1,false),(4,1,false)]⟩:=by kernel_rfl
theorem Lr:w7 Tryd.prog 63=⟨5,80,[.int .i64 0,.str [],.y6,.y6,.int .i64 0],[.int .i64 0,.str [],.sl false 1 16 [],.sl false 1 1 [],.int .i64 0],some (.agg [.int .i64 0,.str [],.y6,.y6,.int .i64 0]),.struct [(0,1,false),(1,1,false),(2,1,false),(3,1,false),(4,1,false)]⟩:=by kernel_rfl
theorem Ls:w7 Tryd.prog 65=⟨1,8,[.iH],[.iH],some (.iH),.other⟩:=by kernel_rfl
theorem Lu:w7 Tryd.prog 66=⟨1,0,[.any],[.any],some (.any),.other⟩:=by kernel_rfl
theorem Lv:w7 Tryd.prog 72=⟨1,0,[.any],[.any],some (.any),.other⟩:=by kernel_rfl
theorem Lw:w7 Tryd.prog 76=⟨1,0,[.any],[.any],some (.any),.other⟩:=by kernel_rfl
theorem Lx:w7 Tryd.prog 79=⟨1,8,[.iH],[.iH],some (.iH),.other⟩:=by kernel_rfl
theorem Lz:w7 Tryd.prog 81=⟨1,8,[.qd],[.qd],some (.qd),.map 9 50⟩:=by kernel_rfl
theorem LA:w7 Tryd.prog 82=⟨1,8,[.qd],[.qd],some (.qd),.map 9 50⟩:=by kernel_rfl
theorem LB:w7 Tryd.prog 86=⟨1,24,[.y6],[.sl false 1 24 []],some (.y6),.slice 22⟩:=by kernel_rfl
theorem LC:w7 Tryd.prog 88=⟨1,8,[.iH],[.iH],some (.iH),.other⟩:=by kernel_rfl
theorem LD:w7 Tryd.prog 89=⟨1,8,[.iH],[.iH],some (.iH),.other⟩:=by kernel_rfl
theorem LG:w7 Tryd.prog 93=⟨1,8,[.int .u64 0],[.int .u64 0],some (.int .u64 0),.int .u64⟩:=by kernel_rfl
theorem LH:w7 Tryd.prog 94=⟨5,80,[.int .i64 0,.str [],.y6,.y6,.int .i64 0],[.int .i64 0,.str [],.sl false 1 16 [],.sl false 4 72 [],.int .i64 0],some (.agg [.int .i64 0,.str [],.y6,.y6,.int .i64 0]),.struct [(0,4,true),(4,1,false)]⟩:=by kernel_rfl
theorem LI:w7 Tryd.prog 95=⟨5,80,[.int .i64 0,.str [],.y6,.y6,.int .i64 0],[.int .i64 0,.str [],.sl false 1 16 [],.sl false 4 72 [],.int .i64 0],some (.agg [.int .i64 0,.str [],.y6,.y6,.int .i64 0]),.struct [(0,4,true),(4,1,false)]⟩:=by kernel_rfl
theorem LJ:w7 Tryd.prog 96=⟨1,24,[.y6],[.sl false 5 80 []],some (.y6),.slice 95⟩:=by kernel_rfl
theorem LK:w7 Tryd.prog 97=⟨1,8,[.iH],[.iH],some (.iH),.other⟩:=by kernel_rfl
theorem LL:w7 Tryd.prog 98=⟨1,8,[.iH],[.iH],some (.iH),.other⟩:=by kernel_rfl
theorem LM:w7 Tryd.prog 99=⟨1,0,[.any],[.any],some (.any),.other⟩:=by kernel_rfl
theorem Kk:w7 Tryd.prog 101=⟨1,24,[.y6],[.sl false 2 32 []],some (.y6),.slice 103⟩:=by kernel_rfl
theorem Kl:w7 Tryd.prog 102=⟨2,32,[.str [],.str []],[.str [],.str []],some (.agg [.str [],.str []]),.struct [(0,1,false),(1,1,false)]⟩:=by kernel_rfl
theorem Km:w7 Tryd.prog 103=⟨2,32,[.str [],.str []],[.str [],.str []],some (.agg [.str [],.str []]),.struct [(0,1,false),(1,1,false)]⟩:=by kernel_rfl
theorem Kn:w7 Tryd.prog 105=⟨1,8,[.iH],[.iH],some (.iH),.other⟩:=by kernel_rfl
theorem Ko:w7 Tryd.prog 108=⟨1,8,[.int .i64 0],[.int .i64 0],some (.int .i64 0),.int .i64⟩:=by kernel_rfl
theorem Kp:w7 Tryd.prog 109=⟨1,0,[.any],[.any],some (.any),.other⟩:=by kernel_rfl
theorem Kq:w7 Tryd.prog 113=⟨1,0,[.any],[.any],some (.any),.other⟩:=by kernel_rfl
theorem Kr:w7 Tryd.prog 116=⟨1,4,[.int .u32 0],[.int .u32 0],some (.int .u32 0),.int .u32⟩:=by kernel_rfl
theorem Ks:w7 Tryd.prog 118=⟨1,8,[.int .u64 0],[.int .u64 0],some (.int .u64 0),.int .u64⟩:=by kernel_rfl
theorem Kt:w7 Tryd.prog 119=⟨1,24,[.y6],[.sl false 1 8 []],some (.y6),.slice 3⟩:=by kernel_rfl
theorem Ku:w7 Tryd.prog 120=⟨1,8,[.int .u64 0],[.int .u64 0],some (.int .u64 0),.int .u64⟩:=by kernel_rfl
theorem Kv:w7 Tryd.prog 124=⟨1,8,[.iG],[.iG],some (.iG),.ptr 3⟩:=by kernel_rfl
theorem Kw:w7 Tryd.prog 127=⟨1,8,[.iG],[.iG],some (.iG),.ptr 120⟩:=by kernel_rfl
theorem Kx:w7 Tryd.prog 129=⟨24,24,[.int .u8 0,.int .u8 0,.int .u8 0,.int .u8 0,.int .u8 0,.int .u8 0,.int .u8 0,.int .u8 0,.int .u8 0,.int .u8 0,.int .u8 0,.int .u8 0,.int .u8 0,.int .u8 0,.int .u8 0,.int .u8 0,.int .u8 0,.int .u8 0,.int .u8 0,.int .u8 0,.int .u8 0,.int .u8 0,.int .u8 0,.int .u8 0],[.int .u8 0,.int .u8 0,.int .u8 0,.int .u8 0,.int .u8 0,.int .u8 0,.int .u8 0,.int .u8 0,.int .u8 0,.int .u8 0,.int .u8 0,.int .u8 0,.int .u8 0,.int .u8 0,.int .u8 0,.int .u8 0,.int .u8 0,.int .u8 0,.int .u8 0,.int .u8 0,.int .u8 0,.int .u8 0,.int .u8 0,.int .u8 0],some (.agg [.int .u8 0,.int .u8 0,.int .u8 0,.int .u8 0,.int .u8 0,.int .u8 0,.int .u8 0,.int .u8 0,.int .u8 0,.int .u8 0,.int .u8 0,.int .u8 0,.int .u8 0,.int .u8 0,.int .u8 0,.int .u8 0,.int .u8 0,.int .u8 0,.int .u8 0,.int .u8 0,.int .u8 0,.int .u8 0,.int .u8 0,.int .u8 0]),.arr 24 5⟩:=by kernel_rfl
theorem Ky:w7 Tryd.prog 131=⟨1,24,[.y6],[.sl false 1 1 []],some (.y6),.slice 5⟩:=by kernel_rfl
theorem Kz:w7 Tryd.prog 132=⟨1,0,[.any],[.any],some (.any),.other⟩:=by kernel_rfl
theorem KA:w7 Tryd.prog 135=⟨20,160,[.int .u64 0,.int .u64 0,.int .u64 0,.int .u64 0,.int .u64 0,.int .u64 0,.int .u64 0,.int .u64 0,.int .u64 0,.int .u64 0,.int .u64 0,.int .u64 0,.int .u64 0,.int .u64 0,.int .u64 0,.int .u64 0,.int .u64 0,.int .u64 0,.int .u64 0,.int .u64 0],[.int .u64 0,.int .u64 0,.int .u64 0,.int .u64 0,.int .u64 0,.int .u64 0,.int .u64 0,.int .u64 0,.int .u64 0,.int .u64 0,.int .u64 0,.int .u64 0,.int .u64 0,.int .u64 0,.int .u64 0,.int .u64 0,.int .u64 0,.int .u64 0,.int .u64 0,.int .u64 0],some (.agg [.int .u64 0,.int .u64 0,.int .u64 0,.int .u64 0,.int .u64 0,.int .u64 0,.int .u64 0,.int .u64 0,.int .u64 0,.int .u64 0,.int .u64 0,.int .u64 0,.int .u64 0,.int .u64 0,.int .u64 0,.int .u64 0,.int .u64 0,.int .u64 0,.int .u64 0,.int .u64 0]),.arr 20 118⟩:=by kernel_rfl
theorem KB:w7 Tryd.prog 136=⟨65,65,[.int .u8 0,.int .u8 0,.int .u8 0,.int .u8 0,.int .u8 0,.int .u8 0,.int .u8 0,.int .u8 0,.int .u8 0,.int .u8 0,.int .u8 0,.int .u8 0,.int .u8 0,.int .u8 0,.int .u8 0,.int .u8 0,.int .u8 0,.int .u8 0,.int .u8 0,.int .u8 0,.int .u8 0,.int .u8 0,.int .u8 0,.int .u8 0,.int .u8 0,.int .u8 0,.int .u8 0,.int .u8 0,.int .u8 0,.int .u8 0,.int .u8 0,.int .u8 0,.int .u8 0,.int .u8 0,.int .u8 0,.int .u8 0,.int .u8 0,.int .u8 0,.int .u8 0,.int .u8 0,.int .u8 0,.int .u8 0,.int .u8 0,.int .u8 0,.int .u8 0,.int .u8 0,.int .u8 0,.int .u8 0,.int .u8 0,.int .u8 0,.int .u8 0,.int .u8 0,.int .u8 0,.int .u8 0,.int .u8 0,.int .u8 0,.int .u8 0,.int .u8 0,.int .u8 0,.int .u8 0,.int .u8 0,.int .u8 0,.int .u8 0,.int .u8 0,.int .u8 0],[],some (.agg [.int .u8 0,.int .u8 0,.int .u8 0,.int .u8 0,.int .u8 0,.int .u8 0,.int .u8 0,.int .u8 0,.int .u8 0,.int .u8 0,.int .u8 0,.int .u8 0,.int .u8 0,.int .u8 0,.int .u8 0,.int .u8 0,.int .u8 0,.int .u8 0,.int .u8 0,.int .u8 0,.int .u8 0,.int .u8 0,.int .u8 0,.int .u8 0,.int .u8 0,.int .u8 0,.int .u8 0,.int .u8 0,.int .u8 0,.int .u8 0,.int .u8 0,.int .u8 0,.int .u8 0,.int .u8 0,.int .u8 0,.int .u8 0,.int .u8 0,.int .u8 0,.int .u8 0,.int .u8 0,.int .u8 0,.int .u8 0,.int .u8 0,.int .u8 0,.int .u8 0,.int .u8 0,.int .u8 0,.int .u8 0,.int .u8 0,.int .u8 0,.int .u8 0,.int .u8 0,.int .u8 0,.int .u8 0,.int .u8 0,.int .u8 0,.int .u8 0,.int .u8 0,.int .u8 0,.int .u8 0,.int .u8 0,.int .u8 0,.int .u8 0,.int .u8 0,.int .u8 0]),.arr 65 5⟩:=by kernel_rfl
theorem KC:w7 Tryd.prog 138=⟨32,32,[.int .u8 0,.int .u8 0,.int .u8 0,.int .u8 0,.int .u8 0,.int .u8 0,.int .u8 0,.int .u8 0,.int .u8 0,.int .u8 0,.int .u8 0,.int .u8 0,.int .u8 0,.int .u8 0,.int .u8 0,.int .u8 0,.int .u8 0,.int .u8 0,.int .u8 0,.int .u8 0,.int .u8 0,.int .u8 0,.int .u8 0,.int .u8 0,.int .u8 0,.int .u8 0,.int .u8 0,.int .u8 0,.int .u8 0,.int .u8 0,.int .u8 0,.int .u8 0],[.int .u8 0,.int .u8 0,.int .u8 0,.int .u8 0,.int .u8 0,.int .u8 0,.int .u8 0,.int .u8 0,.int .u8 0,.int .u8 0,.int .u8 0,.int .u8 0,.int .u8 0,.int .u8 0,.int .u8 0,.int .u8 0,.int .u8 0,.int .u8 0,.int .u8 0,.int .u8 0,.int .u8 0,.int .u8 0,.int .u8 0,.int .u8 0,.int .u8 0,.int .u8 0,.int .u8 0,.int .u8 0,.int .u8 0,.int .u8 0,.int .u8 0,.int .u8 0],some (.agg [.int .u8 0,.int .u8 0,.int .u8 0,.int .u8 0,.int .u8 0,.int .u8 0,.int .u8 0,.int .u8 0,.int .u8 0,.int .u8 0,.int .u8 0,.int .u8 0,.int .u8 0,.int .u8 0,.int .u8 0,.int .u8 0,.int .u8 0,.int .u8 0,.int .u8 0,.int .u8 0,.int .u8 0,.int .u8 0,.int .u8 0,.int .u8 0,.int .u8 0,.int .u8 0,.int .u8 0,.int .u8 0,.int .u8 0,.int .u8 0,.int .u8 0,.int .u8 0]),.arr 32 5⟩:=by kernel_rfl
theorem KD:w7 Tryd.prog 139=⟨64,64,[.int .u8 0,.int .u8 0,.int .u8 0,.int .u8 0,.int .u8 0,.int .u8 0,.int .u8 0,.int .u8 0,.int .u8 0,.int .u8 0,.int .u8 0,.int .u8 0,.int .u8 0,.int .u8 0,.int .u8 0,.int .u8 0,.int .u8 0,.int .u8 0,.int .u8 0,.int .u8 0,.int .u8 0,.int .u8 0,.int .u8 0,.int .u8 0,.int .u8 0,.int .u8 0,.int .u8 0,.int .u8 0,.int .u8 0,.int .u8 0,.int .u8 0,.int .u8 0,.int .u8 0,.int .u8 0,.int .u8 0,.int .u8 0,.int .u8 0,.int .u8 0,.int .u8 0,.int .u8 0,.int .u8 0,.int .u8 0,.int .u8 0,.int .u8 0,.int .u8 0,.int .u8 0,.int .u8 0,.int .u8 0,.int .u8 0,.int .u8 0,.int .u8 0,.int .u8 0,.int .u8 0,.int .u8 0,.int .u8 0,.int .u8 0,.int .u8 0,.int .u8 0,.int .u8 0,.int .u8 0,.int .u8 0,.int .u8 0,.int .u8 0,.int .u8 0],[.int .u8 0,.int .u8 0,.int .u8 0,.int .u8 0,.int .u8 0,.int .u8 0,.int .u8 0,.int .u8 0,.int .u8 0,.int .u8 0,.int .u8 0,.int .u8 0,.int .u8 0,.int .u8 0,.int .u8 0,.int .u8 0,.int .u8 0,.int .u8 0,.int .u8 0,.int .u8 0,.int .u8 0,.int .u8 0,.int .u8 0,.int .u8 0,.int .u8 0,.int .u8 0,.int .u8 0,.int .u8 0,.int .u8 0,.int .u8 0,.int .u8 0,.int .u8 0,.int .u8 0,.int .u8 0,.int .u8 0,.int .u8 0,.int .u8 0,.int .u8 0,.int .u8 0,.int .u8 0,.int .u8 0,.int .u8 0,.int .u8 0,.int .u8 0,.int .u8 0,.int .u8 0,.int .u8 0,.int .u8 0,.int .u8 0,.int .u8 0,.int .u8 0,.int .u8 0,.int .u8 0,.int .u8 0,.int .u8 0,.int .u8 0,.int .u8 0,.int .u8 0,.int .u8 0,.int .u8 0,.int .u8 0,.int .u8 0,.int .u8 0,.int .u8 0],some (.agg [.int .u8 0,.int .u8 0,.int .u8 0,.int .u8 0,.int .u8 0,.int .u8 0,.int .u8 0,.int .u8 0,.int .u8 0,.int .u8 0,.int .u8 0,.int .u8 0,.int .u8 0,.int .u8 0,.int .u8 0,.int .u8 0,.int .u8 0,.int .u8 0,.int .u8 0,.int .u8 0,.int .u8 0,.int .u8 0,.int .u8 0,.int .u8 0,.int .u8 0,.int .u8 0,.int .u8 0,.int .u8 0,.int .u8 0,.int .u8 0,.int .u8 0,.int .u8 0,.int .u8 0,.int .u8 0,.int .u8 0,.int .u8 0,.int .u8 0,.int .u8 0,.int .u8 0,.int .u8 0,.int .u8 0,.int .u8 0,.int .u8 0,.int .u8 0,.int .u8 0,.int .u8 0,.int .u8 0,.int .u8 0,.int .u8 0,.int .u8 0,.int .u8 0,.int .u8 0,.int .u8 0,.int .u8 0,.int .u8 0,.int .u8 0,.int .u8 0,.int .u8 0,.int .u8 0,.int .u8 0,.int .u8 0,.int .u8 0,.int .u8 0,.int .u8 0]),.arr 64 5⟩:=by kernel_rfl
theorem KE:w7 Tryd.prog 140=⟨4,40,[.iG,.iG,.iG,.str []],[.iG,.iG,.iG,.str []],some (.agg [.iG,.iG,.iG,.str []]),.struct [(0,1,false),(1,1,false),(2,1,false),(3,1,false)]⟩:=by kernel_rfl
theorem KF:w7 Tryd.prog 143=⟨0,0,[],[],some (.agg []),.struct [(0,0,true)]⟩:=by kernel_rfl
theorem KG:w7 Tryd.prog 149=⟨1,8,[.iG],[.iG],some (.iG),.ptr 5⟩:=by kernel_rfl
theorem KH:w7 Tryd.prog 152=⟨11,48,[.int .u64 0,.int .u64 0,.int .u32 0,.int .u8 0,.int .u8 0,.int .u8 0,.int .u8 0,.iH,.iG,.int .i32 0,.int .i32 0],[.int .u64 0,.int .u64 0,.int .u32 0,.int .u8 0,.int .u8 0,.int .u8 0,.int .u8 0,.iH,.iG,.int .i32 0,.int .i32 0],some (.agg [.int .u64 0,.int .u64 0,.int .u32 0,.int .u8 0,.int .u8 0,.int .u8 0,.int .u8 0,.iH,.iG,.int .i32 0,.int .i32 0]),.struct [(0,1,false),(1,1,false),(2,1,false),(3,1,false),(4,1,false),(5,1,false),(6,1,false),(7,1,false),(8,1,false),(9,1,false),(10,1,false)]⟩:=by kernel_rfl
theorem fk7:C1 Tryd.prog 7=some [1,1,3,1]:=by kernel_rfl
theorem LN:C1 Tryd.prog 24=some [1,2,0,0]:=by kernel_rfl
theorem LO:C1 Tryd.prog 25=some [1,2,0,0]:=by kernel_rfl
theorem LP:C1 Tryd.prog 29=some [1,1]:=by kernel_rfl
theorem LQ:C1 Tryd.prog 30=some [1,1]:=by kernel_rfl
theorem LS:C1 Tryd.prog 37=some [1,0]:=by kernel_rfl
theorem LU:C1 Tryd.prog 38=some [1,0]:=by kernel_rfl
theorem LV:C1 Tryd.prog 49=some [2,2,0]:=by kernel_rfl
theorem LW:C1 Tryd.prog 50=some [2,2,0]:=by kernel_rfl
theorem LX:C1 Tryd.prog 62=some [1,2,0,0,1]:=by kernel_rfl
theorem LY:C1 Tryd.prog 63=some [1,2,0,0,1]:=by kernel_rfl
theorem KI:C1 Tryd.prog 102=some [2,2]:=by kernel_rfl
theorem KJ:C1 Tryd.prog 103=some [2,2]:=by kernel_rfl
attribute [go_sem] ty0 ty2 ty3 ty4 ty5 ty7 ty9 KT KU KV KW Jg KX KY KZ La Lb Lc Ld Le Lf Lg Lh Li Lj Lk Ll Lm Ln Lo Lp Lq Lr Ls Lu Lv Lw Lx Lz LA LB LC LD LG LH LI LJ LK LL LM Kk Kl Km Kn Ko Kp Kq Kr Ks Kt Ku Kv Kw Kx Ky Kz KA KB KC KD KE KF KG KH fk7 LN LO LP LQ LS LU LV LW LX LY KI KJ
end Go.Proofs.YtdjnbjnlnjhllaaDoor
