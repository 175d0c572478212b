import Derived.Shelf.Slices.Turned
import Derived.Tactics2
import Derived.Test.YtchbmngmmdeenaaGreatDoorTMBase
set_option maxHeartbeats 2000000
set_option maxRecDepth 100000
open List renaming map_cons->bv,mem_singleton->ao,getElem_of_mem->gz
open Subtype renaming val->th
namespace Go.Proofs.YtchbmngmmdeenaaGreatDoor
open Go Go.Am
abbrev U5:=Am.Spec Tryz.prog gl
abbrev L8:=Am.Pure Tryz.prog gl
abbrev OI(x:O):List D:=[.int .i64 x.kind,.str x.name,.sl false 1 16 (rows B2 x.words),.sl false 4 72 (rows O.cells x.subs)]
abbrev zP(x:F1):List D:=[.int .i64 x.code,.int .i64 x.index]
abbrev d9G(x:C6):List D:=[.int .i64 x.at_,.int .i64 x.rule]
abbrev d9H(x:B1):List D:=[.int .i64 x.form.kind,.str x.form.name,.sl false 1 16 (rows B2 x.form.words),.sl false 4 72 (rows O.cells x.form.subs),.sl false 1 16 (rows B2 x.words),.sl false 1 16 (rows B2 x.A8),.sl false 1 16 (rows B2 x.parts)]
abbrev Dz(x:C5):List D:=[.int .i64 x.from_.form.kind,.str x.from_.form.name,.sl false 1 16 (rows B2 x.from_.form.words),.sl false 4 72 (rows O.cells x.from_.form.subs),.sl false 1 16 (rows B2 x.from_.words),.sl false 1 16 (rows B2 x.from_.A8),.sl false 1 16 (rows B2 x.from_.parts),.int .i64 x.B4.kind,.str x.B4.name,.sl false 1 16 (rows B2 x.B4.words),.sl false 4 72 (rows O.cells x.B4.subs)]
abbrev YM(x:K1):List D:=[.int .i64 x.form.kind,.str x.form.name,.sl false 1 16 (rows B2 x.form.words),.sl false 4 72 (rows O.cells x.form.subs),.int .i64 x.nodes,.int .i64 x.depth]
abbrev C0(x0:w7):D:=.sl false 1 16 (rows B2 x0)
abbrev J9(x0:G0):D:=.sl false 4 72 (rows O.cells x0)
abbrev aS(x0:O)(x1:Int)(x2:J)(x3:Int)(x4:J)(x5:Nat)(x6:Nat)(x7:Nat)(x8:w7):St:=[some (.arr 0 4 0 [OI x0]),some (.arr 0 4 0 [[.int .i64 x1,.str x2,.A9,.A9]]),some (.arr 0 4 0 [[.int .i64 x3,.str x4,.ref false (x5+3) x6 0 x7,.A9]]),some (.arr x6 1 16 (rows B2 x8))]
abbrev bC(x0:Nat)(x1:O2)(x2:Nat)(x3:Nat)(x4:Nat)(x5:Nat)(x6:Int)(x7:RZ)(x8:F7):List (Nat×Ob):=[(x0,.arr 0 4 0 [[.sl false 11 216 (rows C5.cells x1),.mp x2,.ref false x3 x4 0 x5,.int .i64 x6]]),(x2,.mps false (L5 aY x7)),(x3,.arr x4 2 16 (rows C6.cells x8))]
abbrev E9(x0:D3):D:=.sl false 5 80 (rows L7.cells x0)
abbrev T(x0:Int):D:=.int .i64 x0
abbrev O4(x0:Int)(x1:J):Option Ob:=some (.arr 0 4 0 [[T x0,.str x1,.A9,.A9]])
abbrev ot(x0:Nat)(x1:w7):Ob:=(.arr x0 1 16 (rows B2 x1))
abbrev B6(x0:Nat):D:=.ptr x0 0 0 0
abbrev G3(x0:O):Option Ob:=some (.arr 0 4 0 [OI x0])
abbrev zQ(x0:St)(x1:Int)(x2:Nat)(x3:Bu)(x4:Int)(x5:J)(x6:w7)(x7:G0)(x8:Int):St:=(x0++[none,some (.arr 0 2 0 [[T x1,T x1]]),some (.arr x2 5 80 (rows eK.cells x3)),some (.arr 0 5 0 [[T x4,.str x5,C0 x6,J9 x7,T x8]]),some (.arr 0 4 0 [[T x4,.str x5,C0 x6,J9 x7]])])
abbrev U6(x0:O2):D:=.sl false 11 216 (rows C5.cells x0)
abbrev bL(x0:Int)(x1:J)(x2:w7)(x3:G0)(x4:w7)(x5:w7)(x6:w7)(x7:Int)(x8:J)(x9:w7)(x10:G0):List (List D):=[[T x0,.str x1,C0 x2,J9 x3,C0 x4,C0 x5,C0 x6,T x7,.str x8,C0 x9,J9 x10]]
abbrev Z2(x0:Nat):D:=.ptr (x0+1) 0 0 0
abbrev jN(x0:Nat)(x1:D3):Ob:=(.arr x0 5 80 (rows L7.cells x1))
abbrev W6(x0:R7):D:=.sl false 6 104 (rows C4.cells x0)
abbrev pZ(x0:Nat)(x1:O2)(x2:Nat)(x3:Nat)(x4:Nat)(x5:Nat)(x6:Int)(x7:RZ)(x8:F7)(x9:Nat)(x10:ES):List (Nat×Ob):=[(x0,.arr 0 4 0 [[U6 x1,.mp x2,.ref false x3 x4 0 x5,T x6]]),(x2,.mps false (L5 aY x7)),(x3,.arr x4 2 16 (rows C6.cells x8)),(x9,.mps false (L5 B2 x10))]
abbrev M5(x0:Nat):D:=.ptr (x0+2) 0 0 0
abbrev Z4(x0:Int)(x1:Int):Option Ob:=some (.arr 0 2 0 [[T x0,T x1]])
abbrev wT(x0:St)(x1:Nat)(x2:Int)(x3:J)(x4:w7)(x5:G0)(x6:w7)(x7:w7)(x8:w7)(x9:Int)(x10:J)(ou:w7)(zR:G0)(DA:Nat)(DB:Nat)(Hw:Bv)(zS:Nat)(Hx:w7)(x18:Nat):St:=(C2 x0 [(x1,.arr 0 11 0 (bL x2 x3 x4 x5 x6 x7 x8 x9 x10 ou zR)),(DA,.arr 0 1 0 [[.mp DB]]),(DB,.mps false (L5 (slc 1 16 B2) Hw)),(zS,.arr 0 1 0 [[C0 Hx]]),(x18,.arr 0 1 0 [[.fn 78 [] [B6 x1,B6 DA,B6 zS,B6 x18]]])])
abbrev W9(x0:Nat)(x1:Nat)(x2:Nat):D:=.ref false (x0+3) x1 0 x2
abbrev iu(x0:B1):Option Ob:=some (.arr 0 7 0 [d9H x0])
abbrev rD(x0:St)(x1:Nat)(x2:Int)(x3:J)(x4:w7)(x5:G0)(x6:w7)(x7:w7)(x8:w7)(x9:Nat):St:=(C2 x0 [(x1,.arr 0 7 0 [[T x2,.str x3,C0 x4,J9 x5,C0 x6,C0 x7,C0 x8]]),(x9,.arr 0 1 0 [[.fn 115 [] [B6 x1,B6 x9]]])])
abbrev nk(x0:Nat)(x1:Nat)(x2:Nat)(x3:Nat)(x4:Nat)(x5:Nat)(x6:Nat)(x7:Nat)(x8:Nat)(x9:Nat)(x10:Nat)(ou:Nat):List (List D):=[[.fn 92 [] [B6 x0,B6 x1,B6 x2,B6 x3,B6 x4,B6 x5,B6 x6,B6 x7,B6 x8,B6 x9,B6 x10,B6 ou]]]
abbrev ju(x0:Int)(x1:J):Option Ob:=some (.arr 0 6 0 [[T x0,.str x1,.A9,.A9,T x0,T x0]])
abbrev eC(x0:Nat)(x1:G0):Option Ob:=some (.arr x0 4 72 (rows O.cells x1))
abbrev wU(x0:Int)(x1:J)(x2:Nat)(x3:Nat)(x4:Nat)(x5:Nat)(x6:Nat):Option Ob:=some (.arr 0 4 0 [[T x0,.str x1,W9 x2 x3 x4,.ref false (x2+4) x5 0 x6]])
abbrev qb(x0:Nat)(x1:F7):Option Ob:=some (.arr x0 2 16 (rows C6.cells x1))
abbrev eZ(x0:Int):Ob:=(.arr 0 1 0 [[T x0]])
abbrev K4(x0:O):D:=.agg (OI x0)
abbrev I0(x0:Nat)(x1:Nat)(x2:Nat):D:=.ref false x0 x1 0 x2
abbrev fV(x0:w7):Ob:=(.arr 0 1 0 [[C0 x0]])
abbrev fW(x0:F7):D:=.sl false 2 16 (rows C6.cells x0)
abbrev wV(x0:O)(x1:Int)(x2:J)(x3:w7)(x4:Nat)(x5:Nat)(x6:Nat)(x7:Int)(x8:dQ):St:=[G3 x0,some (.arr 0 5 0 [[T x1,.str x2,C0 x3,.ref false (x4+2) x5 0 x6,T x7]]),some (.arr x5 1 1 (rows cu x8))]
abbrev wW(x0:Nat)(x1:Int)(x2:Nat)(x3:Bool)(x4:Nat):List (Nat×Ob):=[(x0,eZ x1),(x2,.arr 0 1 0 [[.bool x3]]),(x4,.arr 0 1 0 [[.fn 82 [] [B6 x0,B6 x2,B6 x4]]])]
abbrev zT(x0:St)(x1:C5)(x2:Nat)(x3:D3)(x4:Nat)(x5:F7)(x6:Nat)(x7:List D3):St:=(x0++[some (.arr 0 11 0 [Dz x1]),some (jN x2 x3),qb x4 x5,some (.arr x6 1 24 (rows (fA 5 80 L7.cells) x7))])
abbrev wX(x0:O)(x1:Int)(x2:J)(x3:Int)(x4:J)(x5:Nat)(x6:Nat)(x7:w7):St:=[G3 x0,O4 x1 x2,some (.arr 0 4 0 [[T x3,.str x4,W9 x5 x6 x6,.A9]]),some (.arr 0 1 16 (rows B2 x7))]
abbrev zU(x0:St)(x1:B1)(x2:Nat)(x3:R7)(x4:Nat)(x5:dQ)(x6:Nat)(x7:oY):St:=(x0++[iu x1,some (.arr x2 6 104 (rows C4.cells x3)),some (.arr x4 1 1 (rows cu x5)),some (.arr x6 1 8 (rows aY x7))])
abbrev Hy(x0:Nat)(x1:Nat)(x2:ES)(x3:Nat)(x4:Int)(x5:J)(x6:w7)(x7:G0)(x8:w7)(x9:w7)(x10:w7)(ou:Nat):List (Nat×Ob):=[(x0,.arr 0 1 0 [[.mp x1]]),(x1,.mps false (L5 B2 x2)),(x3,.arr 0 7 0 [[T x4,.str x5,C0 x6,J9 x7,C0 x8,C0 x9,C0 x10]]),(ou,.arr 0 1 0 [[.fn 119 [] [B6 x0,B6 x3,B6 ou]]])]
abbrev jv(x0:mL):D:=.sl false 2 32 (rows gq.cells x0)
abbrev OJ(x0:Nat)(x1:Nat)(x2:Nat)(x3:Nat)(x4:Nat)(x5:Nat)(x6:Nat)(x7:Int)(x8:Int):Fr:=[(6,Z2 x0),(7,M5 x0),(8,.ptr (x0+3) 0 0 0),(9,.ref false (x0+4) x1 0 x2),(12,.ref false (x0+5) x3 0 x4),(13,.ref false (x0+6) x5 0 x6),(14,T x7),(15,T x8)]
abbrev aD(x0:Nat)(x1:Nat)(x2:Nat):D:=.ref false (x0+2) x1 0 x2
abbrev oz(x0:Int)(x1:J)(x2:w7)(x3:dQ)(x4:Int):List D:=[T x0,.str x1,C0 x2,.sl false 1 1 (rows cu x3),T x4]
abbrev zV(x0:Nat)(x1:Nat)(x2:Nat)(x3:Nat)(x4:w7)(x5:Nat):List (Nat×Ob):=[(x0,.arr 0 1 0 [[I0 x1 x2 x3]]),(x1,ot x2 x4),(x5,.arr 0 1 0 [[.fn 106 [] [B6 x0,B6 x5]]])]
abbrev J2(x0:Nat)(x1:w7):Option Ob:=some (ot x0 x1)
abbrev kG(x0:G0):Option Ob:=some (.arr 0 4 72 (rows O.cells x0))
abbrev dM(x0:Int)(x1:J)(x2:G0):List D:=[T x0,.str x1,.A9,J9 x2]
abbrev gL(x0:Int)(x1:J)(x2:w7)(x3:G0):D:=.agg [T x0,.str x1,C0 x2,J9 x3]
abbrev Hz(x0:St)(x1:Nat)(x2:Nat)(x3:Nat)(x4:Nat)(x5:Int)(x6:J)(x7:w7)(x8:G0)(x9:w7)(x10:w7)(ou:w7)(zR:Int)(DA:J)(DB:w7)(Hw:G0)(zS:Nat)(Hx:Bv)(x18:w7)(YN:Nat)(x20:w7):St:=(C2 x0 [(x1,.arr 0 1 0 [[.fn 78 [] [B6 x2,B6 x3,B6 x4,B6 x1]]]),(x2,.arr 0 11 0 (bL x5 x6 x7 x8 x9 x10 ou zR DA DB Hw)),(x3,.arr 0 1 0 [[.mp zS]]),(zS,.mps false (L5 (slc 1 16 B2) Hx)),(x4,fV x18),(YN,fV x20)])
abbrev G4(x0:Nat):Nat×D:=(4,B6 x0)
abbrev kH(x0:oY):D:=.sl false 1 8 (rows aY x0)
abbrev dN(x0:St)(x1:Nat)(x2:Nat)(x3:w7)(x4:Nat)(x5:Nat)(x6:w7):St:=(C2 x0 [(x1,ot x2 x3),(x4,ot x5 x6)])
abbrev fX(x0:O2)(x1:Nat)(x2:Nat)(x3:Nat)(x4:Nat)(x5:Int):List (List D):=[[U6 x0,.mp x1,I0 x2 x3 x4,T x5]]
abbrev OL(x0:Int)(x1:Nat)(x2:Nat)(x3:Nat)(x4:Nat)(x5:Nat)(x6:Int):Fr:=[(3,T x0),G4 x1,(8,Z2 x1),(10,M5 x1),(14,.ref false (x1+4) x2 0 x3),(15,.ref false (x1+5) x4 0 x5),(17,T x6)]
abbrev OM(x0:Int)(x1:Nat)(x2:Nat)(x3:Nat)(x4:Nat)(x5:Nat):Fr:=[(3,T x0),G4 x1,(8,Z2 x1),(10,M5 x1),(14,.ref false (x1+4) x2 0 x3),(15,.ref false (x1+5) x4 0 x5)]
abbrev aT(x0:Nat)(x1:Nat)(x2:Nat):D:=.ref false (x0+1) x1 0 x2
abbrev nr(x0:C5):Option Ob:=some (.arr 0 11 0 [Dz x0])
abbrev oB(x0:List w7):D:=.sl false 1 24 (rows (slc 1 16 B2) x0)
abbrev kI(x0:w7):Option Ob:=some (.arr 0 1 16 (rows B2 x0))
abbrev P3(x0:Nat):Nat×D:=(6,Z2 x0)
abbrev nu(x0:St)(x1:B1)(x2:Int)(x3:Nat)(x4:w7):St:=(x0++[iu x1,Z4 x2 x2,none,J2 x3 x4])
abbrev tV(x0:Nat)(x1:Nat)(x2:Nat):List (List D):=[[.fn 109 [] [B6 x0,B6 x1,B6 x2]]]
abbrev cO(x0:Nat)(x1:Nat)(x2:Nat):D:=.ref false (x0+4) x1 0 x2
abbrev cP(x0:F1):D:=.agg (zP x0)
abbrev HA(x0:St)(x1:Nat)(x2:R7)(x3:Nat)(x4:oY):St:=(x0++[none,some (.arr x1 6 104 (rows C4.cells x2)),none,some (.arr x3 1 8 (rows aY x4))])
abbrev U9(x0:Nat):Nat×D:=(7,M5 x0)
abbrev DC(x0:O)(x1:Int)(x2:J)(x3:Int)(x4:J)(x5:Nat)(x6:Nat)(x7:Nat)(x8:w7)(x9:Nat)(x10:w7)(ou:Nat)(zR:w7):St:=[G3 x0,O4 x1 x2,some (.arr 0 4 0 [[T x3,.str x4,W9 x5 x6 x7,.A9]]),J2 x6 x8,J2 x9 x10,J2 ou zR]
abbrev DE(x0:Int)(x1:J)(x2:Nat)(x3:Nat)(x4:Nat)(x5:Nat)(x6:Nat):Option Ob:=some (.arr 0 4 0 [[T x0,.str x1,W9 x2 x3 x4,.ref false (x2+5) x5 0 x6]])
abbrev DF(x0:Int)(x1:J)(x2:Nat)(x3:Nat)(x4:Nat)(x5:Nat)(x6:Nat):Option Ob:=some (.arr 0 4 0 [[T x0,.str x1,W9 x2 x3 x4,.ref false (x2+6) x5 0 x6]])
abbrev OO(x0:Nat)(x1:Nat)(x2:G0)(x3:Int)(x4:Int):Fr:=[(0,B6 x0),(2,.mp (x1+4)),P3 x1,U9 x1,(67,J9 x2),(68,T x3),(69,T x4)]
abbrev OP(x0:Nat)(x1:Nat):Fr:=[(0,B6 x0),G4 x1,P3 x1,U9 x1,(12,.mp (x1+4))]
abbrev ny(x0:St)(x1:Nat)(x2:Int)(x3:Nat)(x4:w7):St:=(C2 x0 [(x1,eZ x2),(x3,fV x4)])
abbrev jO(x0:Nat):Nat×D:=(7,.ptr (x0+3) 0 0 0)
abbrev dO(x0:St)(x1:Nat)(x2:Nat)(x3:D3):St:=(C2 x0 [(x1,jN x2 x3)])
abbrev bM(x0:B1):List D:=(d9H x0)
abbrev OQ(x0:O2)(x1:Nat)(x2:Int):Fr:=[(0,U6 x0),(2,B6 x1),(3,T x2),(4,Z2 x1),(5,M5 x1)]
abbrev tW(x0:Int)(x1:J)(x2:w7)(x3:G0)(x4:Int)(x5:Int):List D:=[T x0,.str x1,C0 x2,J9 x3,T x4,T x5]
abbrev DG(x0:Int)(x1:J)(x2:Nat)(x3:Nat)(x4:Nat)(x5:Nat)(x6:Nat):Option Ob:=some (.arr 0 4 0 [[T x0,.str x1,aD x2 x3 x4,W9 x2 x5 x6]])
abbrev HB(x0:Nat)(x1:List D3):Option Ob:=some (.arr x0 1 24 (rows (fA 5 80 L7.cells) x1))
abbrev U1(x0:Nat):Nat×D:=(3,B6 x0)
abbrev I5(x0:J):List (List D):=[[.str x0]]
abbrev zW(x0:Nat)(x1:Nat)(x2:Nat)(x3:Nat):List (List D):=[[.fn 78 [] [B6 x0,B6 x1,B6 x2,B6 x3]]]
abbrev Z9(x0:Nat):Nat×D:=(8,Z2 x0)
abbrev jw(x0:Nat):D:=.ptr (x0+4) 0 0 0
abbrev OT(x0:Nat)(x1:B1)(x2:Nat)(x3:Nat)(x4:Nat):List (Nat×Ob):=[(x0,.arr 0 7 0 [bM x1]),(x2,.arr 0 1 0 [[.mp x3]]),(x4,.arr 0 1 0 (tV x0 x2 x4))]
abbrev HD(x0:Int)(x1:J)(x2:Nat)(x3:Nat)(x4:Nat)(x5:Int):Option Ob:=some (.arr 0 6 0 [[T x0,.str x1,W9 x2 x3 x4,.A9,T x5,T x5]])
abbrev zX(x0:K1)(x1:Bool):D:=.E8 [.agg (YM x0),.bool x1]
abbrev DH(x0:Int)(x1:J)(x2:Nat)(x3:Nat)(x4:Nat):Option Ob:=some (.arr 0 4 0 [[T x0,.str x1,aD x2 x3 x4,.A9]])
abbrev wY(x0:Nat)(x1:Nat):Nat×D:=(2,.fn 103 [] [B6 x0,B6 x1])
abbrev W7(x0:w7):Nat×D:=(1,C0 x0)
abbrev kJ:List (List D):=[[.fn 90 [] []]]
abbrev Y3(x0:Nat):Nat×D:=(1,B6 x0)
abbrev wZ(x0:ES):Option Ob:=some (.mps false (L5 B2 x0))
abbrev DI(x0:Int)(x1:J)(x2:w7)(x3:Nat)(x4:Nat)(x5:Nat):Option Ob:=some (.arr 0 4 0 [[T x0,.str x1,C0 x2,W9 x3 x4 x5]])
abbrev tX(x0:R7)(x1:oY)(x2:Bool):D:=.E8 [W6 x0,kH x1,.bool x2]
abbrev xq(x0:Int)(x1:J)(x2:Int)(x3:J)(x4:Nat)(x5:Nat)(x6:Nat)(x7:Nat)(x8:Nat)(x9:w7)(x10:G0):St:=[none,O4 x0 x1,wU x2 x3 x4 x5 x6 x7 x8,J2 x5 x9,eC x7 x10]
abbrev ah(x0:Int):Nat×D:=(7,T x0)
abbrev zY(x0:Nat):Fr:=[P3 x0,U9 x0]
abbrev nA(x0:Nat)(x1:Nat)(x2:Nat):D:=.ref false (x0+5) x1 0 x2
abbrev aF(x0:w7):Nat×D:=(2,C0 x0)
abbrev U2(x0:Int):List (List D):=[[T x0]]
abbrev gM(x0:O):List (List D):=[OI x0]
abbrev rE(x0:Nat)(x1:D3)(x2:Nat)(x3:F7):St:=[none,some (jN x0 x1),qb x2 x3]
abbrev eD(x0:Nat):Nat×D:=(2,Z2 x0)
abbrev fh(x0:Nat):Nat×D:=(4,Z2 x0)
abbrev qc(x0:St)(x1:Nat)(x2:Int):St:=(C2 x0 [(x1,eZ x2)])
abbrev cQ(x0:Int):Nat×D:=(3,T x0)
abbrev cR(x0:Int):Nat×D:=(5,T x0)
abbrev dh(x0:Int):Nat×D:=(6,T x0)
abbrev iw(x0:Nat):Nat×D:=(5,Z2 x0)
abbrev oC(x0:Nat)(x1:List (List D))(x2:Nat)(x3:Nat)(x4:List (J×K1))(x5:Nat)(x6:D)(x7:Nat)(x8:List (List D))(x9:Nat)(x10:List (List D))(ou:Nat)(zR:List (List D))(DA:Nat)(DB:D)(Hw:Nat)(zS:List (List D))(Hx:Nat)(x18:RZ)(YN:Nat)(x20:Nat)(x21:F7)(x22:Nat)(x23:List (List D))(x24:Nat)(x25:Nat)(x26:ES)(x27:Nat)(x28:Nat)(x29:ES)(x30:Nat)(x31:List (List D))(x32:Nat)(x33:List (List D)):List (Nat×Ob):=[(x0,.arr 0 11 0 x1),(x2,.arr 0 1 0 [[.mp x3]]),(x3,.mps true (L5 K1.cells x4)),(x5,.arr 0 1 0 [[x6]]),(x7,.arr 0 1 0 x8),(x9,.arr 0 1 0 x10),(ou,.arr 0 1 0 zR),(DA,.arr 0 1 0 [[DB]]),(Hw,.arr 0 4 0 zS),(Hx,.mps false (L5 aY x18)),(YN,.arr x20 2 16 (rows C6.cells x21)),(x22,.arr 0 1 0 x23),(x24,.arr 0 1 0 [[.mp x25]]),(x25,.mps false (L5 B2 x26)),(x27,.arr 0 1 0 [[.mp x28]]),(x28,.mps false (L5 B2 x29)),(x30,.arr 0 1 0 x31),(x32,.arr 0 1 0 x33)]
abbrev nB(x0:List (J×C4)):Ob:=(.mps true (L5 C4.cells x0))
abbrev DJ(x0:D)(x1:J)(x2:D)(x3:D)(x4:D):Option Ob:=some (.arr 0 6 0 [[x0,.str x1,x2,x3,x4,x4]])
attribute [go_sem] oC nB DJ OI zP d9G d9H Dz YM C0 J9 aS bC E9 T O4 ot B6 G3 zQ U6 bL Z2 jN W6 pZ M5 Z4 wT W9 iu rD nk ju eC wU qb eZ K4 I0 fV fW wV wW zT wX zU Hy jv OJ aD oz zV J2 kG dM gL Hz G4 kH dN fX OL OM aT nr oB kI P3 nu tV cO cP HA U9 DC DE DF OO OP ny jO dO bM OQ tW DG HB U1 I5 zW Z9 jw OT HD zX DH wY W7 kJ Y3 wZ DI tX xq ah zY nA aF U2 gM rE eD fh qc cQ cR dh iw
end Go.Proofs.YtchbmngmmdeenaaGreatDoor
namespace Go.Proofs.YtchbmngmmdeenaaGreatDoor
open Go Go.Am Go.Shelf Go.Sort
def DK:Ren:=⟨fun x=>if x=6 then 35 else if x=14 then 59 else if x=15 then 60 else if x=20 then 93 else if x=21 then 94 else if x=22 then 95 else if x=23 then 96 else if x=24 then 97 else if x=25 then 98 else if x=26 then 99 else if x=27 then 100 else if x=28 then 101 else if x=29 then 102 else if x=46 then 120 else if x=47 then 121 else if x=48 then 122 else if x=49 then 123 else if x=50 then 124 else if x=57 then 133 else x,
 fun x=>if x=22 then 32 else if x=24 then 42 else if x=25 then 82 else if x=39 then 111 else if x=45 then 143 else if x=46 then 144 else if x=50 then 148 else if x=53 then 151 else if x=55 then 113 else if x=66 then 169 else if x=70 then 123 else if x=76 then 181 else if x=77 then 182 else x,fun x=>x⟩
theorem p1y:Go.Proofs.SlLaysF0.n6 Tryz.prog DK where
 mixed:=follows
 f6:=jh Tryz.func35 (by kernel_rfl) (by kernel_rfl)
 f14:=jh Tryz.func59 (by kernel_rfl) (by kernel_rfl)
 f15:=Tryz.func60.trans (by kernel_rfl)
 f20:=jh Tryz.func93 (by kernel_rfl) (by kernel_rfl)
 f21:=jh Tryz.func94 (by kernel_rfl) (by kernel_rfl)
 f22:=jh Tryz.func95 (by kernel_rfl) (by kernel_rfl)
 f23:=jh Tryz.func96 (by kernel_rfl) (by kernel_rfl)
 f24:=jh Tryz.func97 (by kernel_rfl) (by kernel_rfl)
 f25:=jh Tryz.func98 (by kernel_rfl) (by kernel_rfl)
 f26:=jh Tryz.func99 (by kernel_rfl) (by kernel_rfl)
 f27:=jh Tryz.func100 (by kernel_rfl) (by kernel_rfl)
 f28:=Tryz.func101.trans (by kernel_rfl)
 f29:=Tryz.func102.trans (by kernel_rfl)
 f46:=jh Tryz.func120 (by kernel_rfl) (by kernel_rfl)
 f47:=Tryz.func121.trans (by kernel_rfl)
 f48:=Tryz.func122.trans (by kernel_rfl)
 f49:=jh Tryz.func123 (by kernel_rfl) (by kernel_rfl)
 f50:=jh Tryz.func124 (by kernel_rfl) (by kernel_rfl)
 f57:=jh Tryz.func133 (by kernel_rfl) (by kernel_rfl)
 t0:=Tryz.underlying0
 a0:=Tryz.isAgg0
 z0:=Tryz.sizeOf0
 v0:=Tryz.zeroValue0
 t3:=Tryz.underlying3
 a3:=Tryz.isAgg3
 z3:=Tryz.sizeOf3
 v3:=Tryz.zeroValue3
 t4:=Tryz.underlying4
 a4:=Tryz.isAgg4
 z4:=Tryz.sizeOf4
 v4:=Tryz.zeroValue4
 t5:=Tryz.underlying5
 a5:=Tryz.isAgg5
 z5:=Tryz.sizeOf5
 v5:=Tryz.zeroValue5
 t9:=Tryz.underlying9
 a9:=Tryz.isAgg9
 z9:=Tryz.sizeOf9
 v9:=Tryz.zeroValue9
 t22:=Tryz.underlying32
 a22:=Tryz.isAgg32
 z22:=Tryz.sizeOf32
 v22:=Tryz.zeroValue32
 t25:=Tryz.underlying82
 a25:=Tryz.isAgg82
 z25:=Tryz.sizeOf82
 v25:=Tryz.zeroValue82
 t39:=Tryz.underlying111
 a39:=Tryz.isAgg111
 z39:=Tryz.sizeOf111
 v39:=Tryz.zeroValue111
 t45:=Tryz.underlying143
 a45:=Tryz.isAgg143
 z45:=Tryz.sizeOf143
 v45:=Tryz.zeroValue143
 t46:=Tryz.underlying144
 a46:=Tryz.isAgg144
 z46:=Tryz.sizeOf144
 v46:=Tryz.zeroValue144
 t50:=Tryz.underlying148
 a50:=Tryz.isAgg148
 z50:=Tryz.sizeOf148
 v50:=Tryz.zeroValue148
 t53:=Tryz.underlying151
 a53:=Tryz.isAgg151
 z53:=Tryz.sizeOf151
 v53:=Tryz.zeroValue151
 t55:=Tryz.underlying113
 a55:=Tryz.isAgg113
 z55:=Tryz.sizeOf113
 v55:=Tryz.zeroValue113
 t66:=Tryz.underlying169
 a66:=Tryz.isAgg169
 z66:=Tryz.sizeOf169
 v66:=Tryz.zeroValue169
 t70:=Tryz.underlying123
 a70:=Tryz.isAgg123
 z70:=Tryz.sizeOf123
 v70:=Tryz.zeroValue123
 t76:=Tryz.underlying181
 a76:=Tryz.isAgg181
 z76:=Tryz.sizeOf181
 v76:=Tryz.zeroValue181
 t77:=Tryz.underlying182
 a77:=Tryz.isAgg182
 z77:=Tryz.sizeOf182
 v77:=Tryz.zeroValue182
theorem p1z:∀w,(isAgg (DK.t 24)).run Tryz.prog w= .ok true w:=Tryz.isAgg42
theorem p1A:∀w,(Go.sizeOf (DK.t 24)).run Tryz.prog w= .ok 2 w:=Tryz.sizeOf42
theorem d9J{α β:Type}(f:α->β){c:α->α->Int}{d:β->β->Int}(h:∀x y,c x y=d (f x) (f y))(x:α):∀l,(ins c x l).map f=ins d (f x) (l.map f)
 | []=>rfl
 |y::l=>by
  rw[bv];unfold ins;rw[h y x];split
  ·rw[bv,d9J f h x l]
  ·rfl
theorem d9K{α β:Type}(f:α->β){c:α->α->Int}{d:β->β->Int}(h:∀x y,c x y=d (f x) (f y)):∀l,(cw c l).map f=cw d (l.map f)
 | []=>rfl
 |x::l=>by rw[cw,bv,cw,d9J f h,d9K f h l]
section
variable {yk:F7}
abbrev SA(yk:F7):={x:C6 // x∈yk}
def xr(a b:SA yk):Int:=a.1.at_-b.1.at_
theorem d9L:SWO (ltOf (xr (yk:=yk))) where
 irrefl x:=decide_eq_false (by unfold xr;omega)
 trans x y z h k:=decide_eq_true (by have h:=of_decide_eq_true h;have k:=of_decide_eq_true k;unfold xr at *; omega)
 ntrans x y z h k:=decide_eq_false (by have h:=of_decide_eq_false h;have k:=of_decide_eq_false k;unfold xr at *; omega)
def d9M(x:SA yk):List Value:=[.int .i64 x.1.at_,.int .i64 x.1.rule]
theorem p1B:RH (fun x:SA yk=>C6.cells x.1) d9M 2 where
 qP:=fun _=>rfl
 ly:=fun _=>rfl
 one:=fun x v Q=>by simp only[d9M,List.mem_cons,List.not_mem_nil,or_false]at Q;rcases Q with rfl|rfl<;>rfl
 to:=fun w μ st x j h v Q=>by
  have h5:j<2:=h;match j,h5 with
  |0,_=>exact dy Q
  |1,_=>exact dy Q
 RI:=fun w μ st x j h=>by
  have h5:j<2:=h;match j,h5 with
  |0,_=>exact cE _ _ _ _ _
  |1,_=>exact cE _ _ _ _ _
end
theorem p1C{c s:Nat}(hs:s=DK.f 6)(K:iZ Tryz.prog c=true){G:Gl}(e3:∀x y:C6,Pure Tryz.prog G c [.agg (C6.cells x),.agg (C6.cells y)] (.int .i64 (wr .i64 (x.at_-y.at_)))){st:St}{o g:Nat}{l:F7}{full:Bool}(hlk:Am.look st o=some (Ob.arr g 2 16 (rows C6.cells l)))(hl:l.length<4611686018427387904/\Kr l):
 Am.Spec Tryz.prog G s [.ref full o g 0 l.length,.fn c [] []] st (fun d st'=>d= .E8 []/\st'=C2 st [(o,Ob.arr g 2 16 (rows C6.cells (cw gu l)))]):=by
 subst hs
 have e2:iZ Tryz.prog (DK.f 6)=true:=by kernel_rfl
 have⟨hl,U,X⟩:=hl
 let yk:F7:=if l=[]then [default]else l
 have xt:∀x∈yk,0<=x.at_/\x.at_<=1000000:=fun x A=>by
  simp only[yk]at A;split at A
  ·rw[ao]at A;subst A;decide
  ·exact U x A
 have hS2:∀x∈yk,∀y∈yk,x.at_=y.at_->x=y:=fun x A y hy e=>by
  simp only[yk]at A hy;split at A
  ·rename_i hn;rw[if_pos hn]at hy;rw[ao]at A hy;rw[A,hy]
  ·rename_i hn;rw[if_neg hn]at hy;obtain⟨i,u,rfl⟩:=gz A;obtain⟨j,L,rfl⟩:=gz hy;have e2:(l.map (·.at_))[i]'(by simpa using u)=(l.map (·.at_))[j]'(by simpa using L):=by simpa using e
   have:=(List.getElem_inj X).1 e2;subst this;rfl
 have hmem:∀x∈l,x∈yk:=fun x A=>by
  simp only[yk];split
  ·rename_i hn;rw[hn]at A;cases A
  ·exact A
 have hne:∃x,x∈yk:=by
  simp only[yk];split
  ·exact⟨default,by simp⟩
  ·rename_i hn;cases l with
   |nil=>exact absurd rfl hn
   |cons a _=>exact⟨a,List.mem_cons_self ..⟩
 have⟨x0,hx0⟩:=hne
 letI:Inhabited (SA yk):=⟨⟨x0,hx0⟩⟩
 let lS:List (SA yk):=l.pmap (fun x h=>⟨x,h⟩) hmem
 have hmap:lS.map th=l:=by simp only[lS,List.map_pmap];exact List.pmap_eq_self.2 fun _ _=>rfl
 have hlen:lS.length=l.length:=by simp[lS]
 have hrow:∀m:List (SA yk),rows (fun x:SA yk=>C6.cells x.1) m=rows C6.cells (m.map th):=fun m=>by simp only[rows,List.map_map];rfl
 have key:=i5r (P:=Tryz.prog) (G:=G) (full:=full) (ρ:=DK) (k:=2) (b:=16) (cf:=xr (yk:=yk)) (l:=lS) (gen:=g) (o:=o) (st:=st) (g:=c) p1y p1z p1A p1B D5 d9L K e2 (fun x y=>by have h:=e3 x.1 y.1;have a:=xt x.1 x.2;have b:=xt y.1 y.2;rw[F9 M M]at h;exact h) (by rw[hrow,hmap];exact hlk) (by rw[hlen];exact hl)
 rw[hlen]at key
 refine key.mono fun d st' ⟨a,b⟩=>⟨a,?_⟩
 rw[b,i5o d9L (fun x y p q=>Subtype.ext (hS2 x.1 x.2 y.1 y.2 (by unfold xr at p q;omega))),hrow,show(cw xr lS).map th=cw gu l from(d9K (c:=xr) (d:=gu) th (fun _ _=>rfl) lS).trans (by rw[hmap])]
def d9N:Ren:=⟨fun x=>if x=6 then 127 else if x=10 then 110 else x,
 fun x=>if x=22 then 23 else if x=23 then 9 else if x=25 then 83 else x,fun x=>x⟩
theorem p1E:Go.Proofs.SlLaysH.n10 Tryz.prog d9N where
 mixed:=follows
 f6:=jh Tryz.func127 (by kernel_rfl) (by kernel_rfl)
 f10:=jh Tryz.func110 (by kernel_rfl) (by kernel_rfl)
 t0:=Tryz.underlying0
 a0:=Tryz.isAgg0
 z0:=Tryz.sizeOf0
 v0:=Tryz.zeroValue0
 t3:=Tryz.underlying3
 a3:=Tryz.isAgg3
 z3:=Tryz.sizeOf3
 v3:=Tryz.zeroValue3
 t4:=Tryz.underlying4
 a4:=Tryz.isAgg4
 z4:=Tryz.sizeOf4
 v4:=Tryz.zeroValue4
 t22:=Tryz.underlying23
 a22:=Tryz.isAgg23
 z22:=Tryz.sizeOf23
 v22:=Tryz.zeroValue23
 a23:=Tryz.isAgg9
 z23:=Tryz.sizeOf9
 t25:=Tryz.underlying83
 a25:=Tryz.isAgg83
 z25:=Tryz.sizeOf83
 v25:=Tryz.zeroValue83
def p1F:Ren:=⟨fun x=>if x=109 then 76 else if x=110 then 50 else x,
 fun x=>if x=31 then 23 else x,fun x=>x⟩
theorem d9O:Go.Proofs.Lays.n110 Tryz.prog p1F where
 mixed:=follows
 f109:=Tryz.func76.trans (by kernel_rfl)
 f110:=Tryz.func50.trans (by kernel_rfl)
 t0:=Tryz.underlying0
 a0:=Tryz.isAgg0
 z0:=Tryz.sizeOf0
 v0:=Tryz.zeroValue0
 t3:=Tryz.underlying3
 a3:=Tryz.isAgg3
 z3:=Tryz.sizeOf3
 v3:=Tryz.zeroValue3
 t4:=Tryz.underlying4
 a4:=Tryz.isAgg4
 z4:=Tryz.sizeOf4
 v4:=Tryz.zeroValue4
 t9:=Tryz.underlying9
 a9:=Tryz.isAgg9
 z9:=Tryz.sizeOf9
 v9:=Tryz.zeroValue9
 t31:=Tryz.underlying23
 a31:=Tryz.isAgg23
 z31:=Tryz.sizeOf23
 v31:=Tryz.zeroValue23
theorem d9P{BB:World}{a:Addr}{sa:Option Addr}{cap:Nat}{ar:w7}(x:J)(ha:BB.cell? a=some (.slice sa ar.length cap))(hl:ar.length<=9223372036854775807)
 (K:ar=[]\/∃blk off,sa=some ⟨blk,off,none⟩/\∀i (h:i<ar.length),BB.cell? ⟨blk,off+i,none⟩=some (.string (bs ar[i]))):
 Calls Tryz.prog 111 #[.string (bs x),.pointer (some a)] BB fun e w'=>e= .returned (.bool (!decide (x∈ar)))/\w'=BB:=by
 have hcall:Calls Tryz.prog 50 #[.slice sa ar.length cap,.string (bs x)] BB fun e w'=>e= .returned (.bool (decide (x∈ar)))/\w'=BB:=by
  rcases K with rfl|⟨blk,off,rfl,K⟩
  ·exact(Go.Proofs.Any.slices_Contains_string_empty d9O sa cap (bs x) BB).mono fun e w' h=>⟨by rw[h.1];simp,h.2⟩
  ·refine(Go.Proofs.Any.slices_Contains_string d9O blk off ar.length cap (ar.map bs) (bs x) BB B5 hl (fun j L=>?_)).mono fun e w' h=>⟨?_,h.2⟩
   ·have hj':j<ar.length:=by simpa using L
    rw[K j hj',List.getD_eq_getElem?_getD,List.getElem?_map,List.getElem?_eq_getElem hj'];rfl
   ·rw[h.1];have H:∀ {p q:J},bs p=bs q->p=q:=fun {p q} e=>by have:=congrArg (fun z:ByteArray=>z.data.toList) e;simpa[bs]using this
    have:Lib.containsS ((ar.map bs).take ar.length) (bs x)=decide (x∈ar):=by rw[Bool.eq_iff_iff,Lib.containsS_iff,decide_eq_true_eq,List.take_of_length_le B5,List.mem_map];exact⟨fun⟨y,hy,e⟩=>H e▸hy,fun h=>⟨x,h,rfl⟩⟩
    rw[this]
 go_enter Tryz.func111,Tryz.ntmps111
 go_wp2_with (go_at_call 50;refine hcall.mono ?_;rintro e w' ⟨rfl,rfl⟩)
 go_ret
 exact⟨rfl,rfl⟩
theorem p1G{w:World}{μ:Mu}{st:St}{o oA gA b blk base:Nat}{es:List (List D)}{gen n2 b2:Nat}{ar:w7}{v:Value}(hs:J0 w μ st)(ho:Am.look st o=some (.arr gen n2 b2 es))(hm:μ o=some (blk,base))
 (hA:Am.look st oA=some (.arr gA 1 b [[.sl false 1 16 (rows B2 ar)]])) (hne:oA≠o) (Q:VR w μ st v (.ptr oA gA 0 0)):
 ∃a sa cap,v= .pointer (some a)/\ar.length<=9223372036854775807/\∀BB:World,(∀j,j<w.heap.size->j≠blk->BB.heap[j]? =w.heap[j]?)->BB.cell? a=some (.slice sa ar.length cap)/\
  (ar=[]\/∃blk off,sa=some ⟨blk,off,none⟩/\∀i (h:i<ar.length),BB.cell? ⟨blk,off+i,none⟩=some (.string (bs ar[i]))):=by
 have YO:=V7 hA
 have ho':=V7 ho
 cases Q with
 |tr h=>cases h
 |ptr _ _ _ _ _ _ _ _ _ h=>
  obtain⟨OU,p1H,mA,rfl⟩:=h 1 b _ YO;have ak:bk w μ st (μ oA) 1 b [[.sl false 1 16 (rows B2 ar)]]:=hs.obj oA _ YO;have⟨bS,base',c,ty,hm',aJ,hsz,hcell⟩:=ak.loc.resolve_left (fun h=>by rw[mA]at h;cases h.1);rw[mA]at hm';cases hm';have⟨v',e1,e2,_⟩:=hcell 0 0 B5 B5;have e2:VR w μ st v' (.sl false 1 16 (rows B2 ar)):=e2;have hbA:OU≠blk:=fun e=>by subst e;exact hne (hs.inj _ _ _ _ OU p1H base YO ho' mA hm)
  have p1J:OU<w.heap.size:=(Array.getElem?_eq_some_iff.1 aJ).1;cases e2 with
  |tr X=>
   cases X with
   |sl _ _ _ _ sa len cap cv hlen hcap fY H hb1 hn ha K=>
    rw[av]at hlen;subst hlen;refine⟨_,sa,cap,rfl,?_,fun BB hW=>⟨?_,?_⟩⟩
    ·rw[av]at H;simp only[top]at H;omega
    ·unfold World.cell?;simp only[hW OU p1J hbA,aJ];exact e1
    ·rcases ha with h0|⟨DU,off,rfl,hlt2,hown,p1K⟩
     ·left;have:=congrArg List.length h0;rw[av]at this;exact List.length_eq_zero_iff.1 this
     ·refine .inr ⟨DU,off,rfl,fun i u=>?_⟩;have gR:DU≠blk:=fun e=>by subst e;exact hown ⟨o,_,base,ho',hm⟩
      have hi2:i<(rows B2 ar).length:=by rw[av];exact u
      have h3:=p1K i 0 hi2 D5;have er:(rows B2 ar)[i]=[D.str (ar[i])]:=by simp[rows,B2]
      have h4:=K i 0 hi2 (by rw[er];simp);have e5:((rows B2 ar)[i])[0]'(by rw[er];simp)=D.str (ar[i]):=by simp[er]
      rw[e5]at h4;have h6:cv i 0= .string (bs ar[i]):=jA (VR.tr h4);rw[Nat.mul_one,Nat.add_zero,h6]at h3;unfold World.cell? at h3⊢;simp only[hW DU hlt2 gR];exact h3
set_option maxRecDepth 100000 in
theorem d9Q{o gen oA gA b:Nat}{full:Bool}{st:St}{l z ar:w7}(hlk:Am.look st o=some (.arr gen 1 16 (rows B2 (l++z))))(hA:Am.look st oA=some (.arr gA 1 b [[.sl false 1 16 (rows B2 ar)]]))(hne:oA≠o)(hl:l.length<=9223372036854775807):
 Am.Spec Tryz.prog gl 110 [.ref full o gen 0 l.length,.fn 111 [] [.ptr oA gA 0 0]] st (fun d st'=>d= .ref false o gen 0 (flt (fun x=> !decide (x∈ar)) l).length/\st'=C2 st [(o,.arr gen 1 16 (rows B2 (fu (fun x=> !decide (x∈ar)) l++z)))]):=by
 refine i4J p1E (by unfold iZ;rw[show d9N.f 10=110 from rfl,Tryz.func110];kernel_rfl) Tryz.zeroValue9 (Go.Proofs.enters_of Tryz.func111 (by kernel_rfl) rfl) hlk hl (fun w μ lb blk base hs hG hm T4 hn=>?_)
 obtain⟨v,rfl⟩:=JU (show lb.size=1 by simpa using hn)
 have Q:VR w μ st v (.ptr oA gA 0 0):=T4 0 B5
 obtain⟨a,sa,cap,rfl,har,key⟩:=p1G hs hlk hm hA hne Q
 refine⟨fun BB x H=>?_,fun n os dk x hd=>?_⟩
 ·have⟨k1,k2⟩:=key BB fun j L _=>H.block j L;exact(d9P x k1 har k2).mono fun e w' h=>⟨h.1,0,h.2⟩
 ·have⟨k1,k2⟩:=key (sortWorld Go.Proofs.encStr w blk base n dk os) fun j L hne=>by show(grow (putRow Go.Proofs.encStr (Sort.ahead w n) blk base dk) os).heap[j]? =_;rw[Bo,Array.getElem?_append_left (by simpa using L),Array.getElem?_modify,if_neg (fun e=>hne e.symm)]
  exact(d9P x k1 har k2).mono fun e w' h=>⟨h.1,0,h.2⟩
