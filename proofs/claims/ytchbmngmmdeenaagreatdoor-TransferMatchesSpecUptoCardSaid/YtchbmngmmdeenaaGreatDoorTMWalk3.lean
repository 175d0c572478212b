import Derived.Test.YtchbmngmmdeenaaGreatDoorTMWalk2
set_option linter.unusedVariables false
set_option linter.unusedSimpArgs false
set_option maxHeartbeats 2000000
set_option maxRecDepth 100000
open List renaming replicate->be
namespace Go.Proofs.YtchbmngmmdeenaaGreatDoor
open Go Go.Am
theorem i0V n a0 r(h:Cq n a0=some r):L8 63 [.agg (bM a0)] (C0 r):=by
 intro st;unfold Cq at h;have V:=trivial;refine mM ?_;refine fb 87 [.tmp 2] [0,1,2,3,4,5,6,7,8,14,29,44,61,71,72,73,74,75,76,77] Tryz.func63 fun hsc=>?_;refine rn ?_;refine L3 0 h
  (fun A0 Y=>[Y3 st.length,(3,aT st.length A0 Y.1.length),(4,T Y.2)])
  (fun A0 Y=>(st++[iu a0,J2 A0 Y.1]))
  (fun(gt0:Nat) t0=>[Y3 st.length,(3,aT st.length gt0 t0.length)])
  (fun gt0 t0=>(st++[iu a0,J2 gt0 t0]))
  bm
  (fun A0 Y b0 h hx0=>?_) (fun gt0 t0 C8 st1 h H=>?_)
 ·unfold d9q at h;refine cd h ?_ ?_<;>intro K h
  ·refine r0 ?_;refine r0 ?_;have⟨V,h⟩:=ck V h;have⟨tK,HG,h⟩:=E1 h;have fy:=J1 B2 (I5 (get a0.words Y.2.toNat)) HG;have fy:=fl fy HG;have⟨V,h⟩:=ck V h;refine r1 ?_;refine rn ?_;cases h;exact I7 (A0+1) bm
  ·refine rn ?_;cases h;exact K7 A0 bm
 ·unfold Ux at h;refine D1 H ?_;refine rn ?_;refine L3 gt0 h
   (fun D8 s1=>[Y3 st.length,(3,aT st.length D8 s1.1.length),cR s1.2])
   (fun D8 s1=>(st++[iu a0,J2 D8 s1.1]))
   (fun(G1:Nat) t1=>[Y3 st.length,(3,aT st.length G1 t1.length)])
   (fun G1 t1=>(st++[iu a0,J2 G1 t1]))
   bm
   (fun D8 s1 b1 h U8=>?_) (fun G1 t1 C8 st1 h H=>?_)
  ·unfold d9r at h;refine cd h ?_ ?_<;>intro K h
   ·refine r0 ?_;refine r0 ?_;have⟨V,h⟩:=ck V h;have⟨T8,qg,h⟩:=E1 h;have fy:=J1 B2 (I5 (get a0.A8 s1.2.toNat)) qg;have fy:=fl fy qg;have⟨V,h⟩:=ck V h;refine r1 ?_;refine rn ?_;cases h;exact I7 (D8+1) bm
   ·refine rn ?_;cases h;exact K7 D8 bm
  ·unfold Uy at h;refine D1 H ?_;refine rn ?_;refine L3 G1 h
    (fun J3 s2=>[Y3 st.length,(3,aT st.length J3 s2.1.length),dh s2.2])
    (fun J3 s2=>(st++[iu a0,J2 J3 s2.1]))
    (fun(I3:Nat) t2=>[Y3 st.length,(3,aT st.length I3 t2.length)])
    (fun I3 t2=>(st++[iu a0,J2 I3 t2]))
    bm
    (fun J3 s2 b2 h V3=>?_) (fun I3 t2 C8 st1 h H=>?_)
   ·unfold d9s at h;refine cd h ?_ ?_<;>intro K h
    ·refine r0 ?_;refine r0 ?_;have⟨V,h⟩:=ck V h;have⟨Ol,i0W,h⟩:=E1 h;have fy:=J1 B2 (I5 (get a0.parts s2.2.toNat)) i0W;have fy:=fl fy i0W;have⟨V,h⟩:=ck V h;refine r1 ?_;refine rn ?_;cases h;exact I7 (J3+1) bm
    ·refine rn ?_;cases h;exact K7 J3 bm
   ·unfold Uz at h;refine D1 H ?_;refine rn ?_;have⟨v54,Zs,h⟩:=D0 h;refine(aP ((ud n _ _ _ Zs).vq)).to ?_;refine rn ?_;refine L3 I3 h
     (fun P4 s3=>[(3,aT st.length P4 s3.1.length),(7,E9 v54),(8,T s3.2)])
     (fun P4 s3=>((st++[none,J2 P4 s3.1])))
     (fun(T3:Nat) t3=>[(3,aT st.length T3 t3.length)])
     (fun T3 t3=>((st++[none,J2 T3 t3])))
     bm
     (fun P4 s3 b3 h lW=>?_) (fun T3 t3 C8 st1 h H=>?_)
    ·unfold Lv at h;refine cd h ?_ ?_<;>intro K h
     ·have⟨V,h⟩:=ck V h;refine cd h ?_ ?_<;>intro K h
      ·have⟨Om,i0X,h⟩:=E1 h;have fy:=J1 B2 (I5 ((get v54 s3.2.toNat).name)) i0X;have fy:=fl fy i0X;have⟨V,h⟩:=ck V h;refine r1 ?_;refine rn ?_;cases h;exact I7 (P4+1) bm
      ·refine rn ?_;cases h;exact I7 P4 bm
     ·refine rn ?_;cases h;exact K7 P4 bm
    ·unfold d9t at h;refine D1 H ?_;refine rr ?_;exact fp (C0 t3)
theorem p4f n a0 I r(h:FU n a0 I=some r):L8 64 [E9 a0,E9 I] (.bool r):=by
 intro st;unfold FU at h;have V:=trivial;refine fb 84 [.tmp 4] [0,1,4,5,6,11,15,30,31,32,33,34,35,36,37,38,39,40,43,44,45,46,47,48,49,50,51,52,53,54,55,56,64,83] Tryz.func64 fun hsc=>?_;refine cd h ?_ ?_<;>intro K h
 ·exact rt
 ·refine rn ?_;refine L3 () h
   (fun A0 Y=>[(0,E9 a0),(1,E9 I),cR Y])
   (fun A0 Y=>st)
   (fun(gt0:Unit) t0=>[])
   (fun gt0 t0=>st)
   O7
   (fun A0 Y b0 h hx0=>?_) (fun gt0 t0 C8 st1 h H=>?_)
  ·unfold Ls at h;refine cd h ?_ ?_<;>intro K h
   ·refine rn ?_;have⟨V,h⟩:=ck V h;have⟨V,h⟩:=ck V h;refine dw [] 0 ?_;refine cd h ?_ ?_<;>intro K h
    ·refine ra ?_;cases h;refine W0 ?_;have h:=congrArg some (hx0 _ rfl);exact rt
    ·refine rn ?_;refine L3 () h
      (fun J3 s2=>[(0,E9 a0),(1,E9 I),cR Y,dh s2])
      (fun J3 s2=>st)
      (fun(I3:Unit) t2=>[(0,E9 a0),(1,E9 I),cR Y])
      (fun I3 t2=>st)
      O7
      (fun J3 s2 b2 h V3=>?_) (fun I3 t2 C8 st1 h H=>?_)
     ·unfold Lu at h;refine cd h ?_ ?_<;>intro K h
      ·refine rn ?_;have⟨V,h⟩:=ck V h;have⟨V,h⟩:=ck V h;refine dw [] 0 ?_;refine cd h ?_ ?_<;>intro K h
       ·refine ra ?_;cases h;refine W0 ?_;obtain rfl:=V3 _ rfl;try simp only[go_sem,V]
        refine W0 ?_;have h:=congrArg some (hx0 _ rfl);exact rt
       ·refine rn ?_;cases h;exact I7 () O7
      ·refine rn ?_;cases h;exact K7 () O7
     ·unfold Uw at h;refine D1 H ?_;refine rn ?_;cases h;exact I7 () O7
   ·refine rn ?_;cases h;exact K7 () O7
  ·unfold d9u at h;refine D1 H ?_;exact rt
theorem Iw a0 r(h:sR a0=some r):L8 45 [T a0] (T r):=by
 intro st;unfold sR at h;have V:=trivial;refine fb 23 [.tmp 2] [0,2,6,7,10,11,12,16,17,20,21,22] Tryz.func45 fun hsc=>?_;refine cd h ?_ ?_<;>intro K h
 ·exact rt
 ·refine cd h ?_ ?_<;>intro K h
  ·exact rt
  ·exact rt
theorem p4g:∀n a0 I r (h:CD n a0 I=some r),L8 28 [E9 a0,T I] (K4 r):=by
 intro n;induction n with
 |zero=>intro a0 I r h;cases h
 |succ n ih=>
  intro a0 I r h st;unfold CD at h;have V:=trivial;refine fb 66 [.cell 4 26] [0,1,4,5,6,7,8,27,49] Tryz.func28 fun hsc=>?_;refine rn ?_;have⟨V,h⟩:=ck V h;refine dw [] 1 ?_;refine r0 ?_;(repeat apply I6)
  refine S9 1 16 ?_;refine V5 ?_;refine Q0 [(0,E9 a0),(1,T I),G4 st.length,iw st.length,dh 0] (st++[O4 0 [],DH ((get a0 I.toNat).kind) ((get a0 I.toNat).name) st.length 0 0,kI []]) bm ?_;(repeat apply I6)
  refine L3 0 h
   (fun A0 Y=>[(0,E9 a0),(1,T I),G4 st.length,iw st.length,dh Y.2])
   (fun A0 Y=>(st++[O4 0 [],DH ((get a0 I.toNat).kind) ((get a0 I.toNat).name) st.length A0 Y.1.length,J2 A0 Y.1]))
   (fun(gt0:Nat) t0=>[(0,E9 a0),(1,T I),G4 st.length,iw st.length])
   (fun gt0 t0=>(st++[O4 0 [],DH ((get a0 I.toNat).kind) ((get a0 I.toNat).name) st.length gt0 t0.length,J2 gt0 t0]))
   bm
   (fun A0 Y b0 h hx0=>?_) (fun gt0 t0 C8 st1 h H=>?_)
  ·unfold LJ at h;refine cd h ?_ ?_<;>intro K h
   ·refine rn ?_;have⟨V,h⟩:=ck V h;have⟨Oo,i0Y,h⟩:=E1 h;have fy:=J1 B2 (I5 (get ((get a0 I.toNat).words) Y.2.toNat)) i0Y;have fy:=fl fy i0Y;have⟨V,h⟩:=ck V h;refine cG [] 2 ?_;refine rn ?_;cases h;exact I7 (A0+1) bm
   ·refine rn ?_;cases h;exact K7 A0 bm
  ·unfold Vy at h;refine D1 H ?_;refine r0 ?_;refine r0 ?_;(repeat apply I6)
   refine S9 4 72 ?_;refine V5 ?_;refine Q0 [(0,E9 a0),G4 st.length,iw st.length,ah (wr .i64 (I+1)),(8,T 0)] (st++[O4 0 [],DG ((get a0 I.toNat).kind) ((get a0 I.toNat).name) st.length gt0 t0.length 0 0,J2 gt0 t0,kG []]) bm ?_;(repeat apply I6)
   refine L3 0 h
    (fun D8 s1=>[(0,E9 a0),G4 st.length,iw st.length,ah s1.2.1,(8,T s1.2.2)])
    (fun D8 s1=>(st++[O4 0 [],DG ((get a0 I.toNat).kind) ((get a0 I.toNat).name) st.length gt0 t0.length D8 s1.1.length,J2 gt0 t0,eC D8 s1.1]))
    (fun(G1:Nat) t1=>[G4 st.length,iw st.length])
    (fun G1 t1=>(st++[O4 0 [],DG ((get a0 I.toNat).kind) ((get a0 I.toNat).name) st.length gt0 t0.length G1 t1.length,J2 gt0 t0,eC G1 t1]))
    bm
    (fun D8 s1 b1 h U8=>?_) (fun G1 t1 C8 st1 h H=>?_)
   ·unfold LK at h;refine cl h (Iw _) fun v28 h=>?_;refine cd h ?_ ?_<;>intro K h
    ·refine rn ?_;refine dw [] 2 ?_;have⟨jF,Tg,h⟩:=D0 h;refine aL (ih _ _ _ Tg) ?_;have⟨Oq,i0Z,h⟩:=E1 h;have fy:=J1 O.cells (gM jF) i0Z;have fy:=fl fy i0Z;have⟨V,h⟩:=ck V h;try simp only[go_sem,V,fy]
     have⟨V,h⟩:=ck V h;refine rn ?_;cases h;exact I7 (D8+1) bm
    ·refine rn ?_;cases h;exact K7 D8 bm
   ·unfold VA at h;refine D1 H ?_;refine rr ?_;exact fp (gL ((get a0 I.toNat).kind) ((get a0 I.toNat).name) t0 t1)
set_option maxHeartbeats 20000000 in
set_option maxRecDepth 100000 in
theorem p4h n a0 I a2 r(h:Gn n a0 I a2=some r):L8 43 [.agg (bM a0),E9 I,T a2] (tX r.1 r.2.1 r.2.2):=by
 intro st;unfold Gn at h;have V:=trivial;refine fb 415 [.tmp 6,.tmp 7,.tmp 8] [0,1,2,3,6,7,8,9,10,11,12,13,14,15,16,17,18,19,20,21,22,23,24,52,62,63,64,65,66,67,68,71,72,73,74,75,76,77,78,79,80,98,99,100,101,102,103,104,105,106,107,108,109,110,111,112,113,114,115,116,117,118,119,120,121,122,127,163,164,165,166,167,168,169,170,171,172,173,174,175,176,184,185,186,187,188,189,190,217,218,219,220,221,222,223,224,225,226,247,249,255,256,257,258,259,260,261,262,263,264,265,266,290,308,328,342,344,350,351,352,353,354,355,356,357,358,359,360,361,362,363,364,388,399,412] Tryz.func43 fun hsc=>?_;refine cl h (i0V n _) fun v1 h=>?_;refine rn ?_;refine dw [] 0 ?_;have⟨V,h⟩:=ck V h;refine r0 ?_;(repeat apply I6)
 refine Q0 [(1,E9 I),(2,T a2),(3,B6 st.length),(9,C0 v1),(10,T ↑a0.words.length),(11,T ↑a0.A8.length),(12,T ↑a0.parts.length),(13,.ref true (st.length+1) 0 0 v1.length)] (st++[iu a0,some (.arr 0 6 104 (rows C4.cells (be v1.length (default:C4))))]) (uW hsc (.lv (.live _ _ _ _ (.arr _ _ _ _ _ (d2I (by rw[C4.cV];exact(.cons _ _ _ _ .s (.cons _ _ _ _ .s (.cons _ _ _ _ .s (.cons _ _ _ _ .s (.cons _ _ _ _ (.A9 _ _ _ D5) (.cons _ _ _ _ (.A9 _ _ _ D5) .nil))))))))) (.nil _))) B5 ⟨.s,.s,.s,.s,.s,.s,.s,.s,trivial⟩ B5) ?_;have⟨V,h⟩:=ck V h;have fy:=(show be v1.length [.bool false]=rows cu (be v1.length (default:Bool))from d1N (E:=cu) _ default);refine r1 ?_;have⟨V,h⟩:=ck V h;have fy:=(show be v1.length [T 0]=rows aY (be v1.length (default:Int))from d1N (E:=aY) _ default);refine r1 ?_;refine cl h (up (ud n _ _) (fun _=>(.cons _ _ _ _ .s (.cons _ _ _ _ .s (.cons _ _ _ _ (.A9 _ _ _ D5) .nil))))) fun v8 h=>?_;refine rn ?_;refine L3 (0,0,0) h
  (fun A0 Y=>[(1,E9 I),(3,B6 st.length),(9,C0 v1),(10,T ↑a0.words.length),(11,T ↑a0.A8.length),(12,T ↑a0.parts.length),(13,.ref true (st.length+1) A0.1 0 Y.1.length),(14,.ref true (st.length+2) A0.2.1 0 Y.2.1.length),(15,.ref true (st.length+3) A0.2.2 0 Y.2.2.1.length),(16,E9 v8),(17,T Y.2.2.2.1),(18,T Y.2.2.2.2)])
  (fun A0 Y=>(zU st a0 A0.1 Y.1 A0.2.1 Y.2.1 A0.2.2 Y.2.2.1))
  (fun(gt0:kf) t0=>[(10,T ↑a0.words.length),(11,T ↑a0.A8.length),(12,T ↑a0.parts.length),(13,.ref true (st.length+1) gt0.1 0 t0.1.length),(15,.ref true (st.length+3) gt0.2 0 t0.2.length)])
  (fun gt0 t0=>(HA st gt0.1 t0.1 gt0.2 t0.2))
  (bm (hf:=⟨.s,.s,.s,.s,.s,.s,JK (by first|(simp;done)|simp[Fr.get]),JK (by first|(simp;done)|simp[Fr.get]),JK (by first|(simp;done)|simp[Fr.get]),.s,.s,.s,trivial⟩))
  (fun A0 Y b0 h hx0=>?_) (fun gt0 t0 C8 st1 h H=>?_)
 ·unfold wo at h;refine cd h ?_ ?_<;>intro K h
  ·refine rn ?_;have⟨V,h⟩:=ck V h;refine dw [] 0 ?_;have⟨v146,p4i,h⟩:=D0 h;refine AY (fun hG=>(gP n _ _ _ (cg p4i (by simpa using hG)))) ?_;try simp only[go_sem,V]
   refine cd h ?_ ?_<;>intro K h
   ·refine B ?_;refine dw [] 0 ?_;have⟨O5,p4j,h⟩:=D0 h;refine aL (gP n _ _ _ p4j) ?_;try simp only[go_sem,V]
    refine B ?_;have⟨V,h⟩:=ck V h;have fy:=S2 cu Y.2.1 ((wr .i64 ((wr .i64 ((a0.words.length:Int)+(a0.A8.length:Int)))+O5)).toNat);have fy:=fm fy ((wr .i64 ((wr .i64 ((a0.words.length:Int)+(a0.A8.length:Int)))+O5)).toNat<Y.2.1.length);have⟨V,h⟩:=ck V h;have⟨V,h⟩:=ck V h;have fy:=fa fy (S2 aY Y.2.2.1 ((wr .i64 ((wr .i64 ((a0.words.length:Int)+(a0.A8.length:Int)))+O5)).toNat));have fy:=fm fy ((wr .i64 ((wr .i64 ((a0.words.length:Int)+(a0.A8.length:Int)))+O5)).toNat<Y.2.2.1.length);have⟨V,h⟩:=ck V h;have fy:=fa fy (S2 aY Y.2.2.1 ((wr .i64 ((wr .i64 ((a0.words.length:Int)+(a0.A8.length:Int)))+O5)).toNat));have fy:=fm fy ((wr .i64 ((wr .i64 ((a0.words.length:Int)+(a0.A8.length:Int)))+O5)).toNat<Y.2.2.1.length);have⟨V,h⟩:=ck V h;have⟨V,h⟩:=ck V h;have⟨V,h⟩:=ck V h;have⟨V,h⟩:=ck V h;refine cG [] 0 ?_;have⟨d9y,p4k,h⟩:=D0 h;refine AY (fun hG=>(p4f n _ _ _ (cg p4k (by simpa using hG)))) ?_;try simp only[go_sem,V,fy]
    refine cd h ?_ ?_<;>intro K h
    ·refine ra ?_;cases h;refine W0 ?_;have h:=congrArg some (hx0 _ rfl);refine rr ?_;exact fp (tX [] [] false)
    ·refine r0 ?_;have fy:=S2 cu Y.2.1 ((wr .i64 ((wr .i64 ((a0.words.length:Int)+(a0.A8.length:Int)))+O5)).toNat);have fy:=fm fy ((wr .i64 ((wr .i64 ((a0.words.length:Int)+(a0.A8.length:Int)))+O5)).toNat<Y.2.1.length);refine r1 ?_;(repeat apply I6)
     refine V4 (CM Y I) b0 (fun(bQ:Nat×Nat×Nat) j7=>[(1,E9 I),(3,B6 st.length),(9,C0 v1),(10,T ↑a0.words.length),(11,T ↑a0.A8.length),(12,T ↑a0.parts.length),(13,.ref true (st.length+1) bQ.1 0 j7.1.length),(14,.ref true (st.length+2) bQ.2.1 0 j7.2.1.length),(15,.ref true (st.length+3) bQ.2.2 0 j7.2.2.length),(16,E9 v8),(17,T Y.2.2.2.1),(18,T Y.2.2.2.2)]) (fun bQ j7=>(zU st a0 bQ.1 j7.1 bQ.2.1 j7.2.1 bQ.2.2 j7.2.2)) (fun bQ j7 C8 st1 h H=>?_) (fun qj=>?_)
     ·unfold CM at h;refine D1 H ?_;have⟨V,h⟩:=ck V h;refine rn ?_;cases h;exact I7 (bQ.1,bQ.2.1,bQ.2.2) bm
     ·refine cd h ?_ ?_<;>intro K h
      ·have fy:=(show(rows cu Y.2.1).getD ((wr .i64 ((wr .i64 ((a0.words.length:Int)+(a0.A8.length:Int)))+O5)).toNat) []=cu (get Y.2.1 ((wr .i64 ((wr .i64 ((a0.words.length:Int)+(a0.A8.length:Int)))+O5)).toNat))from sq (E:=cu) (l:=Y.2.1) (k:=(wr .i64 ((wr .i64 ((a0.words.length:Int)+(a0.A8.length:Int)))+O5)).toNat) (by first|omega|(simp;omega)));have fy:=fm fy ((wr .i64 ((wr .i64 ((a0.words.length:Int)+(a0.A8.length:Int)))+O5)).toNat<Y.2.1.length);have⟨wS,Ix,h⟩:=E1 h;have fy:=fa fy (qN cu [.bool true] Ix);refine r1 ?_;have p4l:D.ref true (st.length+2) A0.2.1 0 Y.2.1.length=D.ref true (st.length+2) A0.2.1 0 wS.length:=by simp[Ix]
       try simp only[p4l]
       have⟨V,h⟩:=ck V h;have fy:=S2 aY Y.2.2.1 ((wr .i64 ((wr .i64 ((a0.words.length:Int)+(a0.A8.length:Int)))+O5)).toNat);have fy:=fm fy ((wr .i64 ((wr .i64 ((a0.words.length:Int)+(a0.A8.length:Int)))+O5)).toNat<Y.2.2.1.length);have⟨YJ,i1a,h⟩:=E1 h;have fy:=fa fy (qN aY [T Y.2.2.2.1] i1a);refine r1 ?_;have p4m:D.ref true (st.length+3) A0.2.2 0 Y.2.2.1.length=D.ref true (st.length+3) A0.2.2 0 YJ.length:=by simp[i1a]
       try simp only[p4m]
       refine B ?_;have⟨V,h⟩:=ck V h;refine dw [] 0 ?_;have⟨pX,Zt,h⟩:=D0 h;refine aL (p4g n _ _ _ Zt) ?_;have⟨V,h⟩:=ck V h;have fy:=S2 C4.cells Y.1 ((wr .i64 ((wr .i64 ((a0.words.length:Int)+(a0.A8.length:Int)))+O5)).toNat);have fy:=fm fy ((wr .i64 ((wr .i64 ((a0.words.length:Int)+(a0.A8.length:Int)))+O5)).toNat<Y.1.length);have⟨YK,i1b,h⟩:=E1 h;have fy:=fa fy (qN C4.cells [.str (get v1 ((wr .i64 ((wr .i64 ((a0.words.length:Int)+(a0.A8.length:Int)))+O5)).toNat)),.str [],T pX.kind,.str pX.name,C0 pX.words,J9 pX.subs] i1b);try simp only[go_sem,V,fy]
       have p4n:D.ref true (st.length+1) A0.1 0 Y.1.length=D.ref true (st.length+1) A0.1 0 YK.length:=by simp[i1b]
       try simp only[p4n]
       exact qj (A0.1,A0.2.1,A0.2.2) _ _ _ h bm
      ·refine r0 ?_;exact qj (A0.1,A0.2.1,A0.2.2) _ _ _ h bm
   ·refine rn ?_;have⟨V,h⟩:=ck V h;refine dw [] 0 ?_;refine cd h ?_ ?_<;>intro K h
    ·refine ra ?_;cases h;refine W0 ?_;have h:=congrArg some (hx0 _ rfl);refine rr ?_;exact fp (tX [] [] false)
    ·refine rn ?_;refine V4 (wA n Y I v1 v8 a0) b0 (fun(dr:Unit) j8=>[(1,E9 I),(3,B6 st.length),(9,C0 v1),(10,T ↑a0.words.length),(11,T ↑a0.A8.length),(12,T ↑a0.parts.length),(13,.ref true (st.length+1) A0.1 0 Y.1.length),(14,.ref true (st.length+2) A0.2.1 0 Y.2.1.length),(15,.ref true (st.length+3) A0.2.2 0 Y.2.2.1.length),(16,E9 v8),(17,T Y.2.2.2.1),(18,T Y.2.2.2.2),(20,T j8)]) (fun dr j8=>(zU st a0 A0.1 Y.1 A0.2.1 Y.2.1 A0.2.2 Y.2.2.1)) (fun dr j8 C8 st1 h H=>?_) (fun oD=>?_)
     ·unfold wA at h;refine D1 H ?_;refine rn ?_;refine V4 (CN n v8 Y a0 v1 I) b0 (fun(qk:kf) j9=>[(1,E9 I),(3,B6 st.length),(9,C0 v1),(10,T ↑a0.words.length),(11,T ↑a0.A8.length),(12,T ↑a0.parts.length),(13,.ref true (st.length+1) qk.1 0 j9.1.length),(14,.ref true (st.length+2) qk.2 0 j9.2.length),(15,.ref true (st.length+3) A0.2.2 0 Y.2.2.1.length),(16,E9 v8),(17,T Y.2.2.2.1),(18,T Y.2.2.2.2)]) (fun qk j9=>(zU st a0 qk.1 j9.1 qk.2 j9.2 A0.2.2 Y.2.2.1)) (fun qk j9 C8 st1 h H=>?_) (fun Ie=>?_)
      ·unfold CN at h;refine D1 H ?_;refine rn ?_;refine L3 (qk.1,qk.2) h
        (fun cC K3=>[(1,E9 I),(3,B6 st.length),(9,C0 v1),(10,T ↑a0.words.length),(11,T ↑a0.A8.length),(12,T ↑a0.parts.length),(13,.ref true (st.length+1) cC.1 0 K3.1.length),(14,.ref true (st.length+2) cC.2 0 K3.2.1.length),(15,.ref true (st.length+3) A0.2.2 0 Y.2.2.1.length),(16,E9 v8),(17,T Y.2.2.2.1),(18,T Y.2.2.2.2),(21,T K3.2.2)])
        (fun cC K3=>(zU st a0 cC.1 K3.1 cC.2 K3.2.1 A0.2.2 Y.2.2.1))
        (fun(lY:kf) t10=>[(1,E9 I),(3,B6 st.length),(9,C0 v1),(10,T ↑a0.words.length),(11,T ↑a0.A8.length),(12,T ↑a0.parts.length),(13,.ref true (st.length+1) lY.1 0 t10.1.length),(14,.ref true (st.length+2) lY.2 0 t10.2.length),(15,.ref true (st.length+3) A0.2.2 0 Y.2.2.1.length),(16,E9 v8),(17,T Y.2.2.2.1),(18,T Y.2.2.2.2)])
        (fun lY t10=>(zU st a0 lY.1 t10.1 lY.2 t10.2 A0.2.2 Y.2.2.1))
        bm
        (fun cC K3 b10 h Zu=>?_) (fun lY t10 C8 st1 h H=>?_)
       ·unfold Gk at h;refine cd h ?_ ?_<;>intro K h
        ·have⟨V,h⟩:=ck V h;have⟨V,h⟩:=ck V h;refine rn ?_;refine V4 (sU K3 I Y v1) b10 (fun(i1c:Unit) cM=>[(1,E9 I),(3,B6 st.length),(9,C0 v1),(10,T ↑a0.words.length),(11,T ↑a0.A8.length),(12,T ↑a0.parts.length),(13,.ref true (st.length+1) cC.1 0 K3.1.length),(14,.ref true (st.length+2) cC.2 0 K3.2.1.length),(15,.ref true (st.length+3) A0.2.2 0 Y.2.2.1.length),(16,E9 v8),(17,T Y.2.2.2.1),(18,T Y.2.2.2.2),(20,T cM),(21,T K3.2.2)]) (fun i1c cM=>(zU st a0 cC.1 K3.1 cC.2 K3.2.1 A0.2.2 Y.2.2.1)) (fun i1c cM C8 st1 h H=>?_) (fun CH=>?_)
         ·unfold sU at h;refine D1 H ?_;refine cd h ?_ ?_<;>intro K h
          ·refine B ?_;have⟨V,h⟩:=ck V h;have fy:=S2 cu K3.2.1 cM.toNat;have fy:=fm fy (cM.toNat<K3.2.1.length);have⟨V,h⟩:=ck V h;have⟨V,h⟩:=ck V h;have fy:=fa fy (S2 C4.cells K3.1 cM.toNat);have fy:=fm fy (cM.toNat<K3.1.length);have⟨V,h⟩:=ck V h;refine cG [] 0 ?_;refine cd h ?_ ?_<;>intro K h
           ·refine ra ?_;cases h;refine W0 ?_;obtain rfl:=Zu _ rfl;try simp only[go_sem,V]
            refine W0 ?_;have h:=congrArg some (hx0 _ rfl);refine rr ?_;exact fp (tX [] [] false)
           ·refine r0 ?_;have fy:=S2 cu K3.2.1 cM.toNat;have fy:=fm fy (cM.toNat<K3.2.1.length);have⟨YF,i1d,h⟩:=E1 h;have fy:=fa fy (qN cu [.bool true] i1d);refine r1 ?_;have e283:D.ref true (st.length+2) cC.2 0 K3.2.1.length=D.ref true (st.length+2) cC.2 0 YF.length:=by simp[i1d]
            try simp only[e283]
            refine B ?_;have⟨V,h⟩:=ck V h;have⟨V,h⟩:=ck V h;have⟨V,h⟩:=ck V h;have fy:=S2 C4.cells K3.1 cM.toNat;have fy:=fm fy (cM.toNat<K3.1.length);have⟨YG,i1e,h⟩:=E1 h;refine cG [] 0 ?_;have p4o:D.ref true (st.length+1) cC.1 0 K3.1.length=D.ref true (st.length+1) cC.1 0 YG.length:=by simp[i1e]
            try simp only[p4o]
            refine rn ?_;cases h;exact I7 (cC.1,cC.2) (bm (hu:=(.lv (.live _ _ _ _ (.arr _ _ _ _ _ (d3c i1e (by rw[C4.cV];exact(.cons _ _ _ _ .s (.cons _ _ _ _ .s (.cons _ _ _ _ .s (.cons _ _ _ _ .s (.cons _ _ _ _ (.A9 _ _ _ D5) (.cons _ _ _ _ (.A9 _ _ _ D5) .nil))))))))) (.lv (.lv (.nil _)))))))
          ·refine rn ?_;cases h;exact I7 (cC.1,cC.2) bm
         ·refine cd h ?_ ?_<;>intro K h
          ·have⟨V,h⟩:=ck V h;refine cl h (gP n _ _) fun d9v h=>?_;try simp only[go_sem,V]
           exact CH () _ _ _ h bm
          ·refine cl h (gP n _ _) fun d9w h=>?_;refine cd h ?_ ?_<;>intro K h
           ·refine cl h (gP n _ _) fun d9x h=>?_;try simp only[go_sem,V]
            exact CH () _ _ _ h bm
           ·have⟨V,h⟩:=ck V h;refine cd h ?_ ?_<;>intro K h
            ·refine ra ?_;cases h;refine W0 ?_;obtain rfl:=Zu _ rfl;try simp only[go_sem,V]
             refine W0 ?_;have h:=congrArg some (hx0 _ rfl);refine rr ?_;exact fp (tX [] [] false)
            ·refine r0 ?_;exact CH () _ _ _ h bm
        ·refine rn ?_;cases h;exact K7 (cC.1,cC.2) bm
       ·unfold Wa at h;refine D1 H ?_;refine rn ?_;cases h;exact I7 (lY.1,lY.2,A0.2.2) bm
      ·refine cd h ?_ ?_<;>intro K h
       ·refine B ?_;have⟨V,h⟩:=ck V h;have fy:=S2 cu Y.2.1 j8.toNat;have fy:=fm fy (j8.toNat<Y.2.1.length);have⟨V,h⟩:=ck V h;have⟨V,h⟩:=ck V h;have fy:=fa fy (S2 C4.cells Y.1 j8.toNat);have fy:=fm fy (j8.toNat<Y.1.length);refine cG [] 0 ?_;refine cd h ?_ ?_<;>intro K h
        ·refine ra ?_;cases h;refine W0 ?_;have h:=congrArg some (hx0 _ rfl);refine rr ?_;exact fp (tX [] [] false)
        ·refine r0 ?_;have fy:=S2 cu Y.2.1 j8.toNat;have fy:=fm fy (j8.toNat<Y.2.1.length);have⟨YH,i1f,h⟩:=E1 h;have fy:=fa fy (qN cu [.bool true] i1f);refine r1 ?_;have p4p:D.ref true (st.length+2) A0.2.1 0 Y.2.1.length=D.ref true (st.length+2) A0.2.1 0 YH.length:=by simp[i1f]
         try simp only[p4p]
         refine B ?_;have⟨V,h⟩:=ck V h;have⟨V,h⟩:=ck V h;have fy:=S2 C4.cells Y.1 j8.toNat;have fy:=fm fy (j8.toNat<Y.1.length);have⟨YI,i1g,h⟩:=E1 h;refine cG [] 0 ?_;have p4q:D.ref true (st.length+1) A0.1 0 Y.1.length=D.ref true (st.length+1) A0.1 0 YI.length:=by simp[i1g]
         try simp only[p4q]
         refine Ie (A0.1,A0.2.1) _ _ _ h ?_;exact(bm (hu:=(.lv (.live _ _ _ _ (.arr _ _ _ _ _ (d3c i1g (by rw[C4.cV];exact(.cons _ _ _ _ .s (.cons _ _ _ _ .s (.cons _ _ _ _ .s (.cons _ _ _ _ .s (.cons _ _ _ _ (.A9 _ _ _ D5) (.cons _ _ _ _ (.A9 _ _ _ D5) .nil))))))))) (.lv (.lv (.nil _)))))))
       ·refine r0 ?_;exact Ie (A0.1,A0.2.1) _ _ _ h bm
     ·refine cd h ?_ ?_<;>intro K h
      ·refine B ?_;have⟨V,h⟩:=ck V h;refine dw [] 0 ?_;have⟨d9z,p4r,h⟩:=D0 h;refine aL (gP n _ _ _ p4r) ?_;try simp only[go_sem,V]
       exact oD () _ _ _ h bm
      ·refine B ?_;refine dw [] 0 ?_;have⟨v206,p4s,h⟩:=D0 h;refine AY (fun hG=>(gP n _ _ _ (cg p4s (by simpa using hG)))) ?_;try simp only[go_sem,V]
       refine cd h ?_ ?_<;>intro K h
       ·refine B ?_;refine dw [] 0 ?_;have⟨d9A,p4t,h⟩:=D0 h;refine aL (gP n _ _ _ p4t) ?_;try simp only[go_sem,V]
        exact oD () _ _ _ h bm
       ·refine B ?_;refine dw [] 0 ?_;refine cd h ?_ ?_<;>intro K h
        ·refine ra ?_;cases h;refine W0 ?_;have h:=congrArg some (hx0 _ rfl);refine rr ?_;exact fp (tX [] [] false)
        ·refine r0 ?_;exact oD () _ _ _ h bm
  ·refine rn ?_;cases h;exact K7 (A0.1,A0.2.2) bm
 ·unfold LB at h;refine D1 H ?_;refine rn ?_;refine L3 () h
   (fun i1h jt=>[(10,T ↑a0.words.length),(11,T ↑a0.A8.length),(12,T ↑a0.parts.length),(13,.ref true (st.length+1) gt0.1 0 t0.1.length),(15,.ref true (st.length+3) gt0.2 0 t0.2.length),(23,T jt)])
   (fun i1h jt=>(HA st gt0.1 t0.1 gt0.2 t0.2))
   (fun(i1i:Unit) t13=>[(13,.ref true (st.length+1) gt0.1 0 t0.1.length),(15,.ref true (st.length+3) gt0.2 0 t0.2.length)])
   (fun i1i t13=>(HA st gt0.1 t0.1 gt0.2 t0.2))
   bm
   (fun i1h jt b13 h p4u=>?_) (fun i1i t13 C8 st1 h H=>?_)
  ·unfold LC at h;refine cd h ?_ ?_<;>intro K h
   ·refine rn ?_;refine L3 () h
     (fun i1j pY=>[(10,T ↑a0.words.length),(11,T ↑a0.A8.length),(12,T ↑a0.parts.length),(13,.ref true (st.length+1) gt0.1 0 t0.1.length),(15,.ref true (st.length+3) gt0.2 0 t0.2.length),(23,T jt),(24,T pY)])
     (fun i1j pY=>(HA st gt0.1 t0.1 gt0.2 t0.2))
     (fun(i1k:Unit) t15=>[(10,T ↑a0.words.length),(11,T ↑a0.A8.length),(12,T ↑a0.parts.length),(13,.ref true (st.length+1) gt0.1 0 t0.1.length),(15,.ref true (st.length+3) gt0.2 0 t0.2.length),(23,T jt)])
     (fun i1k t15=>(HA st gt0.1 t0.1 gt0.2 t0.2))
     bm
     (fun i1j pY b15 h p4v=>?_) (fun i1k t15 C8 st1 h H=>?_)
    ·unfold LG at h;refine cd h ?_ ?_<;>intro K h
     ·refine rn ?_;have⟨V,h⟩:=ck V h;have fy:=S2 C4.cells t0.1 jt.toNat;have fy:=fm fy (jt.toNat<t0.1.length);have⟨V,h⟩:=ck V h;have fy:=fa fy (S2 C4.cells t0.1 pY.toNat);have fy:=fm fy (pY.toNat<t0.1.length);refine cG [] 0 ?_;refine cd h ?_ ?_<;>intro K h
      ·refine ra ?_;cases h;refine W0 ?_;obtain rfl:=p4v _ rfl;try simp only[go_sem,V]
       refine W0 ?_;have h:=congrArg some (p4u _ rfl);refine rr ?_;exact fp (tX [] [] false)
      ·refine rn ?_;cases h;exact I7 () bm
     ·refine rn ?_;cases h;exact K7 () bm
    ·unfold UK at h;refine D1 H ?_;refine rn ?_;cases h;exact I7 () bm
   ·refine rn ?_;cases h;exact K7 () bm
  ·unfold UM at h;refine D1 H ?_;refine rr ?_;exact fp (tX t0.1 t0.2 true)
