import Derived.Test.YtchbmngmmdeenaaGreatDoorTMWalk3
set_option linter.unusedVariables false
set_option linter.unusedSimpArgs false
set_option maxHeartbeats 2000000
set_option maxRecDepth 100000
open List renaming map_cons->bv,map_nil->jn,nil_append->fw,map_append->cm
namespace Go.Proofs.YtchbmngmmdeenaaGreatDoor
open Go Go.Am
theorem i1l n a0 I a2 a3 r(h:Df n a0 I a2 a3=some r):L8 65 [C0 a0,W6 I,.str a2,T a3] (.str r):=by
 intro st;unfold Df at h;have V:=trivial;refine fb 26 [.tmp 8] [0,1,2,3,8,9,14] Tryz.func65 fun hsc=>?_;refine cl h (gP n _ _) fun v1 h=>?_;refine cd h ?_ ?_<;>intro K h
 ·have⟨V,h⟩:=ck V h;exact rt
 ·have⟨V,h⟩:=ck V h;have⟨V,h⟩:=ck V h;refine cl h (Zr n _) fun v6 h=>?_;have⟨V,h⟩:=ck V h;exact rt
theorem p4w Dy(p4x:∀a0 I a2 r (h:Dy a0 I a2=some r),L8 24 [U6 a0,E9 I,T a2] (.E8 [E9 r.1,fW r.2.1,.bool r.2.2])) n a0 I a2 a3 a4 a5 r(h:GL Dy n a0 I a2 a3 a4 a5=some r):∀st,U5 44 [U6 a0,E9 I,T a2,.agg (Dz a3),W6 a4,kH a5] st (NwR L7.cells 5 80 C6.cells 2 16 r st):=by
 intro st;unfold GL at h;have V:=trivial;refine mM ?_;refine fb 271 [.tmp 12,.tmp 13,.tmp 14] [0,1,2,3,4,5,9,12,13,14,15,16,17,18,19,20,21,22,23,24,25,26,27,28,29,30,31,32,58,67,81,98,106,122,150,151,152,153,177,178,179,180,181,182,183,184,205,223,246,268] Tryz.func44 fun hsc=>?_;refine rn ?_;refine dw [] 0 ?_;refine rn ?_;have⟨v1,hv1,h⟩:=D0 h;refine(aP (i0V n _ _ hv1)).to ?_;refine rn ?_;have⟨v2,hv2,h⟩:=D0 h;refine(aP ((ud n _ _ _ hv2).vq)).to ?_;have⟨V,h⟩:=ck V h;refine r0 ?_;refine r0 ?_;refine r0 ?_;(repeat apply I6)
 refine Q0 [(0,U6 a0),(1,E9 I),(2,T a2),(4,W6 a4),(5,kH a5),(9,B6 st.length),(15,T ↑a3.from_.words.length),(16,T ↑a3.from_.A8.length),(17,T ↑a3.from_.parts.length),(18,C0 v1),(19,E9 v2),(20,.ref true (st.length+1) 0 0 0),(21,.ref true (st.length+2) 0 0 0),(22,.ref true (st.length+3) 0 0 a3.from_.parts.length)] (st++[nr a3,some (.arr 0 5 80 []),some (.arr 0 2 16 []),some (.arr 0 1 24 (rows (fA 5 80 L7.cells) (List.replicate a3.from_.parts.length (default:D3))))]) (uW hsc (.lv (.lv (.lv (.live _ _ _ _ (.arr _ _ _ _ _ (d2I (E:=(fA 5 80 L7.cells)) (v:=default) (r:=[.A9]) (show bq _ _ [.A9] (fA 5 80 L7.cells [])from bq.refl [.A9]))) (.nil _))))) B5 ⟨.s,.s,.s,.s,.s,.s,.s,.s,.s,.s,.s,.s,.s,.s,trivial⟩ B5) ?_;refine rn ?_;refine d1U
  (fun(A0:Nat×Nat×Nat)(Y:sD)=>[(0,U6 a0),(1,E9 I),(2,T a2),(4,W6 a4),(5,kH a5),(9,B6 st.length),(15,T ↑a3.from_.words.length),(16,T ↑a3.from_.A8.length),(17,T ↑a3.from_.parts.length),(18,C0 v1),(19,E9 v2),(20,aT st.length A0.1 Y.1.length),(21,aD st.length A0.2.1 Y.2.1.length),(22,.ref true (st.length+3) A0.2.2 0 Y.2.2.1.length),(23,T Y.2.2.2)])
  (fun A0 Y=>(zT st a3 A0.1 Y.1 A0.2.1 Y.2.1 A0.2.2 Y.2.2.1))
  (fun(gt0:kf)(t0:D3×F7)=>[(20,aT st.length gt0.1 t0.1.length),(21,aD st.length gt0.2 t0.2.length)])
  (fun gt0 t0=>(st++(rE gt0.1 t0.1 gt0.2 t0.2)))
  (0,0,0) h (bm (hu:=(.lv (.live _ _ _ _ (by simp only[go_sem,rows,bv,jn];exact .same _) (.live _ _ _ _ (by simp only[go_sem,rows,bv,jn];exact .same _) (.lv (.nil _)))))) (hf:=⟨.s,.s,.s,.s,.s,.s,.s,.s,.s,.s,.s,.Ey _ _ _ _,.Ey _ _ _ _,JK (by first|(simp;done)|simp[Fr.get]),.s,trivial⟩))
  (fun A0 Y b0 h hx0=>?_) (fun gt0 t0 C8 st1 h H=>?_)
 ·unfold zF at h;refine cd h ?_ ?_<;>intro K h
  ·refine rn ?_;have⟨V,h⟩:=ck V h;refine dw [] 0 ?_;have⟨d9B,p4y,h⟩:=D0 h;refine aL (aP (OZ n _ _ _ p4y)) ?_;try simp only[go_sem,V]
   (repeat apply I6)
   refine V4 (Dg Y) b0 (fun(bQ:Nat×Nat×Nat) j7=>[(0,U6 a0),(1,E9 I),(2,T a2),(4,W6 a4),(5,kH a5),(9,B6 st.length),(15,T ↑a3.from_.words.length),(16,T ↑a3.from_.A8.length),(17,T ↑a3.from_.parts.length),(18,C0 v1),(19,E9 v2),(20,aT st.length bQ.1 j7.1.length),(21,aD st.length bQ.2.1 j7.2.1.length),(22,.ref true (st.length+3) bQ.2.2 0 j7.2.2.length),(23,T Y.2.2.2)]) (fun bQ j7=>(zT st a3 bQ.1 j7.1 bQ.2.1 j7.2.1 bQ.2.2 j7.2.2)) (fun bQ j7 C8 st1 h H=>?_) (fun qj=>?_)
   ·unfold Dg at h;refine D1 H ?_;refine cd h ?_ ?_<;>intro K h
    ·refine ra ?_;cases h;refine W0 ?_;have h:=congrArg some (hx0 _ rfl);refine rr ?_;exact fp (.E8 [.A9,.A9,.bool false]) (hr:=by rintro rfl;exact .inl ⟨rfl,rfl,rfl⟩)
    ·refine rn ?_;cases h;exact I7 (bQ.1,bQ.2.1,bQ.2.2) bm
   ·refine cd h ?_ ?_<;>intro K h
    ·refine B ?_;refine dw [] 0 ?_;have⟨P7,Hl,h⟩:=D0 h;refine aL (aP (gP n _ _ _ Hl)) ?_;try simp only[go_sem,V]
     have⟨V,h⟩:=ck V h;(try simp only[go_sem,V]);apply I6
     refine V4 (Dh n P7 Y) b0 (fun(dr:kf) j8=>[(0,U6 a0),(1,E9 I),(2,T a2),(4,W6 a4),(5,kH a5),(9,B6 st.length),(15,T ↑a3.from_.words.length),(16,T ↑a3.from_.A8.length),(17,T ↑a3.from_.parts.length),(18,C0 v1),(19,E9 v2),(20,aT st.length A0.1 Y.1.length),(21,aD st.length dr.1 j8.1.length),(22,.ref true (st.length+3) dr.2 0 j8.2.length),(23,T Y.2.2.2),(24,T P7)]) (fun dr j8=>(zT st a3 A0.1 Y.1 dr.1 j8.1 dr.2 j8.2)) (fun dr j8 C8 st1 h H=>?_) (fun oD=>?_)
     ·unfold Dh at h;refine D1 H ?_;refine rn ?_;refine L3 A0.1 h
       (fun cC K3=>[(0,U6 a0),(1,E9 I),(2,T a2),(4,W6 a4),(5,kH a5),(9,B6 st.length),(15,T ↑a3.from_.words.length),(16,T ↑a3.from_.A8.length),(17,T ↑a3.from_.parts.length),(18,C0 v1),(19,E9 v2),(20,aT st.length cC K3.1.length),(21,aD st.length dr.1 j8.1.length),(22,.ref true (st.length+3) dr.2 0 j8.2.length),(23,T Y.2.2.2),(24,T P7),(29,T K3.2)])
       (fun cC K3=>(zT st a3 cC K3.1 dr.1 j8.1 dr.2 j8.2))
       (fun(lY:Nat) t10=>[(0,U6 a0),(1,E9 I),(2,T a2),(4,W6 a4),(5,kH a5),(9,B6 st.length),(15,T ↑a3.from_.words.length),(16,T ↑a3.from_.A8.length),(17,T ↑a3.from_.parts.length),(18,C0 v1),(19,E9 v2),(20,aT st.length lY t10.length),(21,aD st.length dr.1 j8.1.length),(22,.ref true (st.length+3) dr.2 0 j8.2.length),(23,T Y.2.2.2)])
       (fun lY t10=>(zT st a3 lY t10 dr.1 j8.1 dr.2 j8.2))
       bm
       (fun cC K3 b10 h Zu=>?_) (fun lY t10 C8 st1 h H=>?_)
      ·unfold MS at h;have⟨V,h⟩:=ck V h;have⟨V,h⟩:=ck V h;have zq:=V.2;have fy:=(show(rows (fA 5 80 L7.cells) j8.2).getD P7.toNat []=[E9 (get j8.2 P7.toNat)]from(sq (E:=(fA 5 80 L7.cells)) (l:=j8.2) (k:=P7.toNat) (by first|omega|(simp;omega))).trans (RE zq));have fy:=fm fy (P7.toNat<j8.2.length);refine r1 ?_;refine cd h ?_ ?_<;>intro K h
       ·refine r0 ?_;refine r0 ?_;have fy:=(show(rows (fA 5 80 L7.cells) j8.2).getD P7.toNat []=[E9 (get j8.2 P7.toNat)]from(sq (E:=(fA 5 80 L7.cells)) (l:=j8.2) (k:=P7.toNat) (by first|omega|(simp;omega))).trans (RE zq));have fy:=fm fy (P7.toNat<j8.2.length);have⟨V,h⟩:=ck V h;have⟨wS,Ix,h⟩:=E1 h;have fy:=fa fy (J1 L7.cells [oz ((get (get j8.2 P7.toNat) K3.2.toNat).kind) ((get (get j8.2 P7.toNat) K3.2.toNat).name) ((get (get j8.2 P7.toNat) K3.2.toNat).words) ((get (get j8.2 P7.toNat) K3.2.toNat).bound) ((get (get j8.2 P7.toNat) K3.2.toNat).end_)] Ix);have fy:=fl fy Ix;have⟨V,h⟩:=ck V h;refine r1 ?_;refine rn ?_;cases h;exact I7 (cC+1) bm
       ·refine rn ?_;cases h;exact K7 cC bm
      ·try simp only[go_sem,V]
       unfold Xu at h;refine qj (lY,dr.1,dr.2) _ _ _ h ?_;exact(H.trans bm)
     ·have hlt:P7.toNat<Y.2.2.1.length:=by first|omega|(simp;omega)
      rcases Nat.eq_zero_or_pos (get Y.2.2.1 P7.toNat).length with hz|hz
      ·replace h:=d1H h (decide_eq_true M);have fy:=(show(rows (fA 5 80 L7.cells) Y.2.2.1).getD P7.toNat []=[.A9]from(sq (E:=(fA 5 80 L7.cells)) (l:=Y.2.2.1) (k:=P7.toNat) hlt).trans (d2L hz));have fy:=fa fy hlt;refine r1 ?_;refine ct ?_;have⟨V,h⟩:=ck V h;refine rn ?_;have⟨v141,p4z,h⟩:=D0 h;refine(aP (p4x _ _ _ _ p4z)).to ?_;refine cd h ?_ ?_<;>intro K h
       ·refine ra ?_;cases h;refine W0 ?_;have h:=congrArg some (hx0 _ rfl);refine rr ?_;exact fp (.E8 [.A9,.A9,.bool false]) (hr:=by rintro rfl;exact .inl ⟨rfl,rfl,rfl⟩)
       ·refine r0 ?_;have fy:=(show(rows (fA 5 80 L7.cells) Y.2.2.1).getD P7.toNat []=[.A9]from(sq (E:=(fA 5 80 L7.cells)) (l:=Y.2.2.1) (k:=P7.toNat) hlt).trans (d2L hz));have fy:=fm fy (P7.toNat<Y.2.2.1.length);have⟨V,h⟩:=ck V h;have zq:=V.2;have⟨rC,i1m,h⟩:=E1 h;have fy:=fa fy (show(rows (fA 5 80 L7.cells) Y.2.2.1).set P7.toNat [E9 v141.1]=rows (fA 5 80 L7.cells) rC from by rw[i1m, <-d1M (E:=(fA 5 80 L7.cells)),RE zq]);refine r1 ?_;have p4A:D.ref true (st.length+3) A0.2.2 0 Y.2.2.1.length=D.ref true (st.length+3) A0.2.2 0 rC.length:=by simp[i1m]
        try simp only[p4A]
        refine rn ?_;refine L3 A0.2.1 h
         (fun iW s9=>[(0,U6 a0),(1,E9 I),(2,T a2),(4,W6 a4),(5,kH a5),(9,B6 st.length),(15,T ↑a3.from_.words.length),(16,T ↑a3.from_.A8.length),(17,T ↑a3.from_.parts.length),(18,C0 v1),(19,E9 v2),(20,aT st.length A0.1 Y.1.length),(21,aD st.length iW s9.1.length),(22,.ref true (st.length+3) A0.2.2 0 rC.length),(23,T Y.2.2.2),(24,T P7),(26,fW v141.2.1),(28,T s9.2)])
         (fun iW s9=>(zT st a3 A0.1 Y.1 iW s9.1 A0.2.2 rC))
         (fun(ql:Nat) t9=>[(0,U6 a0),(1,E9 I),(2,T a2),(4,W6 a4),(5,kH a5),(9,B6 st.length),(15,T ↑a3.from_.words.length),(16,T ↑a3.from_.A8.length),(17,T ↑a3.from_.parts.length),(18,C0 v1),(19,E9 v2),(20,aT st.length A0.1 Y.1.length),(21,aD st.length ql t9.length),(22,.ref true (st.length+3) A0.2.2 0 rC.length),(23,T Y.2.2.2),(24,T P7)])
         (fun ql t9=>(zT st a3 A0.1 Y.1 ql t9 A0.2.2 rC))
         bm
         (fun iW s9 b9 h Ip=>?_) (fun ql t9 C8 st1 h H=>?_)
        ·unfold Xv at h;refine cd h ?_ ?_<;>intro K h
         ·refine r0 ?_;refine r0 ?_;have⟨V,h⟩:=ck V h;have⟨Ot,i1n,h⟩:=E1 h;have fy:=J1 C6.cells [[T ((get v141.2.1 s9.2.toNat).at_),T ((get v141.2.1 s9.2.toNat).rule)]] i1n;have fy:=fl fy i1n;have⟨V,h⟩:=ck V h;refine r1 ?_;refine rn ?_;cases h;exact I7 (iW+1) bm
         ·refine rn ?_;cases h;exact K7 iW bm
        ·try simp only[go_sem,V]
         unfold Xw at h;refine oD (ql,A0.2.2) _ _ _ h ?_;exact(H.trans bm)
      ·replace h:=d1I h (decide_eq_false M);obtain⟨y1,yl,hyl⟩:=List.exists_cons_of_length_pos hz;have fy:=(show(rows (fA 5 80 L7.cells) Y.2.2.1).getD P7.toNat []=[.sl false 5 80 (L7.cells y1::rows L7.cells yl)]from(sq (E:=(fA 5 80 L7.cells)) (l:=Y.2.2.1) (k:=P7.toNat) hlt).trans (by rw[hyl];rfl));have fy:=fa fy hlt;refine r1 ?_;refine cf ?_;refine r0 ?_;exact oD (A0.2.1,A0.2.2) _ _ _ h bm
    ·refine B ?_;refine dw [] 1 ?_;refine rn ?_;refine V4 (zG n v2 Y a3 v1 a4 a2) b0 (fun(i1o:Unit) jI=>[(0,U6 a0),(1,E9 I),(2,T a2),(4,W6 a4),(5,kH a5),(9,B6 st.length),(15,T ↑a3.from_.words.length),(16,T ↑a3.from_.A8.length),(17,T ↑a3.from_.parts.length),(18,C0 v1),(19,E9 v2),(20,aT st.length A0.1 Y.1.length),(21,aD st.length A0.2.1 Y.2.1.length),(22,.ref true (st.length+3) A0.2.2 0 Y.2.2.1.length),(23,T Y.2.2.2),(30,jw st.length)]) (fun i1o jI=>(st++[nr a3,some (jN A0.1 Y.1),qb A0.2.1 Y.2.1,HB A0.2.2 Y.2.2.1,some (.arr 0 5 0 [[T ((get v2 Y.2.2.2.toNat).kind),.str jI,.A9,.A9,T 0]])])) (fun i1o jI C8 st1 h H=>?_) (fun Zv=>?_)
     ·unfold zG at h;refine D1 H ?_;refine r0 ?_;(repeat apply I6)
      refine S9 1 16 ?_;refine V5 ?_;refine Q0 [(0,U6 a0),(1,E9 I),(2,T a2),(4,W6 a4),(5,kH a5),(9,B6 st.length),(15,T ↑a3.from_.words.length),(16,T ↑a3.from_.A8.length),(17,T ↑a3.from_.parts.length),(18,C0 v1),(19,E9 v2),(20,aT st.length A0.1 Y.1.length),(21,aD st.length A0.2.1 Y.2.1.length),(22,.ref true (st.length+3) A0.2.2 0 Y.2.2.1.length),(23,T Y.2.2.2),(30,jw st.length),(31,T 0)] (st++[nr a3,some (jN A0.1 Y.1),qb A0.2.1 Y.2.1,HB A0.2.2 Y.2.2.1,some (.arr 0 5 0 [[T ((get v2 Y.2.2.2.toNat).kind),.str jI,nA st.length 0 0,.A9,T 0]]),kI []]) bm ?_;(repeat apply I6)
      refine L3 0 h
       (fun eE M6=>[(0,U6 a0),(1,E9 I),(2,T a2),(4,W6 a4),(5,kH a5),(9,B6 st.length),(15,T ↑a3.from_.words.length),(16,T ↑a3.from_.A8.length),(17,T ↑a3.from_.parts.length),(18,C0 v1),(19,E9 v2),(20,aT st.length A0.1 Y.1.length),(21,aD st.length A0.2.1 Y.2.1.length),(22,.ref true (st.length+3) A0.2.2 0 Y.2.2.1.length),(23,T Y.2.2.2),(30,jw st.length),(31,T M6.2)])
       (fun eE M6=>(st++[nr a3,some (jN A0.1 Y.1),qb A0.2.1 Y.2.1,HB A0.2.2 Y.2.2.1,some (.arr 0 5 0 [[T ((get v2 Y.2.2.2.toNat).kind),.str jI,nA st.length eE M6.1.length,.A9,T 0]]),J2 eE M6.1]))
       (fun(nD:Nat) t12=>[(0,U6 a0),(1,E9 I),(2,T a2),(4,W6 a4),(5,kH a5),(9,B6 st.length),(15,T ↑a3.from_.words.length),(16,T ↑a3.from_.A8.length),(17,T ↑a3.from_.parts.length),(18,C0 v1),(19,E9 v2),(20,aT st.length A0.1 Y.1.length),(21,aD st.length A0.2.1 Y.2.1.length),(22,.ref true (st.length+3) A0.2.2 0 Y.2.2.1.length),(23,T Y.2.2.2),(30,jw st.length)])
       (fun nD t12=>(st++[nr a3,some (jN A0.1 Y.1),qb A0.2.1 Y.2.1,HB A0.2.2 Y.2.2.1,some (.arr 0 5 0 [[T ((get v2 Y.2.2.2.toNat).kind),.str jI,nA st.length nD t12.length,.A9,T 0]]),J2 nD t12]))
       bm
       (fun eE M6 b12 h Zk=>?_) (fun nD t12 C8 st1 h H=>?_)
      ·unfold GJ at h;refine cd h ?_ ?_<;>intro K h
       ·have⟨V,h⟩:=ck V h;have⟨V,h⟩:=ck V h;refine cd h ?_ ?_<;>intro K h
        ·refine B ?_;have⟨V,h⟩:=ck V h;have⟨V,h⟩:=ck V h;refine dw [] 0 ?_;have⟨v229,p4C,h⟩:=D0 h;refine aL (aP (i1l n _ _ _ _ _ p4C)) ?_;try simp only[go_sem,V]
         have⟨Ou,i1p,h⟩:=E1 h;have fy:=J1 B2 (I5 v229) i1p;have fy:=fl fy i1p;have⟨V,h⟩:=ck V h;refine r1 ?_;refine rn ?_;cases h;exact I7 (eE+1) bm
        ·refine rn ?_;have⟨v236,p4D,h⟩:=D0 h;refine(aP (gP n _ _ _ p4D)).to ?_;refine cd h ?_ ?_<;>intro K h
         ·refine rn ?_;have⟨Hv,p4E,h⟩:=D0 h;refine(aP (gP n _ _ _ p4E)).to ?_;have⟨V,h⟩:=ck V h;try simp only[go_sem,V]
          have⟨Ov,i1q,h⟩:=E1 h;have fy:=J1 B2 (I5 ((get a4 Hv.toNat).text)) i1q;have fy:=fl fy i1q;have⟨V,h⟩:=ck V h;refine r1 ?_;refine rn ?_;cases h;exact I7 (eE+1) bm
         ·refine r0 ?_;have⟨Ow,i1r,h⟩:=E1 h;have fy:=J1 B2 (I5 (get ((get v2 Y.2.2.2.toNat).words) M6.2.toNat)) i1r;have fy:=fl fy i1r;have⟨V,h⟩:=ck V h;refine r1 ?_;refine rn ?_;cases h;exact I7 (eE+1) bm
       ·refine rn ?_;cases h;exact K7 eE bm
      ·unfold Xt at h;refine D1 H ?_;(repeat apply I6)
       refine Q0 [(0,U6 a0),(1,E9 I),(2,T a2),(4,W6 a4),(5,kH a5),(9,B6 st.length),(15,T ↑a3.from_.words.length),(16,T ↑a3.from_.A8.length),(17,T ↑a3.from_.parts.length),(18,C0 v1),(19,E9 v2),(20,aT st.length A0.1 Y.1.length),(21,aD st.length A0.2.1 Y.2.1.length),(22,.ref true (st.length+3) A0.2.2 0 Y.2.2.1.length),(23,T Y.2.2.2),(30,jw st.length)] (st++[nr a3,some (jN A0.1 Y.1),qb A0.2.1 Y.2.1,HB A0.2.2 Y.2.2.1,some (.arr 0 5 0 [oz ((get v2 Y.2.2.2.toNat).kind) jI t12 [] 0])]) bm ?_;have⟨Ox,i1s,h⟩:=E1 h;have fy:=J1 L7.cells [oz ((get v2 Y.2.2.2.toNat).kind) jI t12 [] 0] i1s;have fy:=fl fy i1s;have⟨V,h⟩:=ck V h;refine r1 ?_;exact qj ((A0.1+1),A0.2.1,A0.2.2) _ _ _ h bm
     ·refine cd h ?_ ?_<;>intro K h
      ·refine B ?_;have⟨V,h⟩:=ck V h;have⟨V,h⟩:=ck V h;refine dw [] 0 ?_;have⟨d9C,p4F,h⟩:=D0 h;refine aL (aP (i1l n _ _ _ _ _ p4F)) ?_;try simp only[go_sem,V]
       exact Zv () _ _ _ h bm
      ·refine rn ?_;have⟨d9D,p4G,h⟩:=D0 h;refine gi (fun hG=>(aP (gP n _ _ _ (cg p4G (by simpa using hG))))) ?_;refine cd h ?_ ?_<;>intro K h
       ·refine rn ?_;have⟨pX,Zt,h⟩:=D0 h;refine(aP (gP n _ _ _ Zt)).to ?_;have⟨V,h⟩:=ck V h;try simp only[go_sem,V]
        exact Zv () _ _ _ h bm
       ·refine r0 ?_;exact Zv () _ _ _ h bm
  ·refine rn ?_;cases h;exact K7 (A0.1,A0.2.1) bm
 ·unfold Xx at h;refine D1 H ?_;refine rr ?_;exact Ke (rE gt0.1 t0.1 gt0.2 t0.2) _ (.same _) h hsc (hr:=by rintro rfl;exact .inr ⟨rfl,_,_,rfl,rfl⟩)
theorem p4H:∀n a0 I a2 r (h:rB n a0 I a2=some r),∀st,U5 24 [U6 a0,E9 I,T a2] st (RD L7.cells 5 80 C6.cells 2 16 r st):=by
 intro n;induction n with
 |zero=>intro a0 I a2 r h;cases h
 |succ n ih=>
  intro a0 I a2 r h st;unfold rB at h;have V:=trivial;refine mM ?_;refine fb 143 [.tmp 6,.tmp 7,.tmp 8] [0,1,2,6,7,8,9,10,11,12,13,14,15,16,17,18,19,20,21,22,23,24,28,43,94,106,110,123] Tryz.func24 fun hsc=>?_;refine rn ?_;refine L3 () h
   (fun A0 Y=>[(0,U6 a0),(1,E9 I),(2,T a2),(9,T Y)])
   (fun A0 Y=>st)
   (fun(gt0:Unit) t0=>[(0,U6 a0),(1,E9 I),(2,T a2)])
   (fun gt0 t0=>st)
   O7
   (fun A0 Y b0 h hx0=>?_) (fun gt0 t0 C8 st1 h H=>?_)
  ·unfold MW at h;refine cd h ?_ ?_<;>intro K h
   ·have⟨V,h⟩:=ck V h;refine rn ?_;have⟨v7,zZ,h⟩:=D0 h;refine(aP (p4h n _ _ _ _ zZ)).to ?_;refine cd h ?_ ?_<;>intro K h
    ·refine rn ?_;have⟨v8,mV,h⟩:=D0 h;have⟨v9,qh,h⟩:=D0 h;obtain⟨h9a,Iy⟩:=oT qh;replace Iy:=Option.some.inj Iy;have Ip:v9.length=v8.2.1.length+1:=by rw[<-Iy];simp
     have V:=fa V (show v9.length*16<=top/\v9.length<=top by rw[Ip];exact h9a);refine i5g (vH (p4w (rB n) (fun a0 I a2 r h=>d2K D5 D5 (ih a0 I a2 r h)) n _ _ _ _ _ _ _ mV _)) (fun hok=>?_) (fun hok g1 g2=>?_)
     ·subst hok;have V:=fa V (show 16<=top/\1<=top by decide);have e9: [[T a2,T Y]]=rows C6.cells v9:=by rw[<-Iy];rfl
      refine r0 ?_;refine ra ?_;cases h;refine W0 ?_;have h:=congrArg some (hx0 _ rfl);refine rr ?_;exact fo (.E8 [E9 [],fW v9,.bool false]) (.E8 _ _ (.cons _ _ _ _ (.A9 _ _ _ D5) (.cons _ _ _ _ (.ref _ _ _ _ _ _ _ _ _ (je.trans rfl) uV D5 (by rw[e9];exact br _) (by rw[<-e9];rfl)) (.cons _ _ _ _ .s .nil))) rfl) h hsc (hr:=by rintro rfl;exact .inl ⟨rfl,rfl,rfl⟩)
     ·have fy:=(show rows C6.cells v8.2.1++[[T a2,T Y]]=rows C6.cells v9 from by rw[<-Iy];exact Rj (E:=C6.cells) v8.2.1 [C6.mk a2 Y]);have fy:=fa fy (show v8.2.1.length+1=v9.length from Ip.symm);refine r1 ?_;refine ra ?_;cases h;refine W0 ?_;have h:=congrArg some (hx0 _ rfl);refine rr ?_;exact Ke (rE g1 v8.1 (g2+1) v9) _ (.same _) h hsc (hr:=by rintro rfl;exact .inr ⟨hok,_,_,by rw[hok],rfl⟩)
    ·refine rn ?_;cases h;exact I7 () O7
   ·refine rn ?_;cases h;exact K7 () O7
  ·unfold MU at h;refine D1 H ?_;refine S9 1 1 ?_;refine B ?_;have⟨V,h⟩:=ck V h;refine dw [] 1 ?_;refine rn ?_;refine L3 (0,0) h
    (fun D8 s1=>[(0,U6 a0),(1,E9 I),(2,T a2),(16,aT st.length D8.1 s1.1.length),(17,aD st.length D8.2 s1.2.1.length),(18,T s1.2.2.1),(19,T s1.2.2.2)])
    (fun D8 s1=>(st++(rE D8.1 s1.1 D8.2 s1.2.1)))
    (fun(G1:kf) t1=>[(16,aT st.length G1.1 t1.1.length),(17,aD st.length G1.2 t1.2.length)])
    (fun G1 t1=>(st++(rE G1.1 t1.1 G1.2 t1.2)))
    (bm (hu:=.dead _ _ _ (.live _ _ _ _ (.arr _ _ _ _ _ (.cons _ _ _ _ (.cons _ _ _ _ .s (.cons _ _ _ _ .s (.cons _ _ _ _ .s (.cons _ _ _ _ (.A9 _ _ _ D5) (.cons _ _ _ _ .s .nil))))) .nil)) (.live _ _ _ _ (by simp only[go_sem,rows,bv,jn];exact .same _) (.nil _)))))
    (fun D8 s1 b1 h U8=>?_) (fun G1 t1 C8 st1 h H=>?_)
   ·unfold MV at h;refine rn ?_;have⟨eW,Ir,h⟩:=D0 h;refine(aP (Iw _ _ Ir)).to ?_;refine cd h ?_ ?_<;>intro K h
    ·refine rn ?_;have⟨v64,p4J,h⟩:=D0 h;refine(aP (d2K D5 D5 (ih _ _ _ _ p4J))).to ?_;refine cd h ?_ ?_<;>intro K h
     ·refine ra ?_;cases h;refine W0 ?_;have h:=congrArg some (U8 _ rfl);refine rr ?_;exact fp (.E8 [E9 [],fW [],.bool false]) (hr:=by rintro rfl;exact .inl ⟨rfl,rfl,rfl⟩)
     ·refine rn ?_;refine L3 D8.1 h
       (fun Y4 s4=>[(0,U6 a0),(1,E9 I),(2,T a2),(16,aT st.length Y4 s4.1.length),(17,aD st.length D8.2 s1.2.1.length),(18,T s1.2.2.1),(19,T s1.2.2.2),(20,E9 v64.1),(21,fW v64.2.1),(23,T s4.2)])
       (fun Y4 s4=>(st++(rE Y4 s4.1 D8.2 s1.2.1)))
       (fun(aH:Nat) t4=>[(0,U6 a0),(1,E9 I),(2,T a2),(16,aT st.length aH t4.length),(17,aD st.length D8.2 s1.2.1.length),(18,T s1.2.2.1),(19,T s1.2.2.2),(21,fW v64.2.1)])
       (fun aH t4=>(st++(rE aH t4 D8.2 s1.2.1)))
       bm
       (fun Y4 s4 b4 h xE=>?_) (fun aH t4 C8 st1 h H=>?_)
      ·unfold Xz at h;refine cd h ?_ ?_<;>intro K h
       ·refine r0 ?_;refine r0 ?_;have⟨V,h⟩:=ck V h;have⟨tU,Iv,h⟩:=E1 h;have fy:=J1 L7.cells [oz ((get v64.1 s4.2.toNat).kind) ((get v64.1 s4.2.toNat).name) ((get v64.1 s4.2.toNat).words) ((get v64.1 s4.2.toNat).bound) ((get v64.1 s4.2.toNat).end_)] Iv;have fy:=fl fy Iv;have⟨V,h⟩:=ck V h;refine r1 ?_;refine rn ?_;cases h;exact I7 (Y4+1) bm
       ·refine rn ?_;cases h;exact K7 Y4 bm
      ·unfold XA at h;refine D1 H ?_;refine rn ?_;refine L3 D8.2 h
        (fun V9 s5=>[(0,U6 a0),(1,E9 I),(2,T a2),(16,aT st.length aH t4.length),(17,aD st.length V9 s5.1.length),(18,T s1.2.2.1),(19,T s1.2.2.2),(21,fW v64.2.1),(24,T s5.2)])
        (fun V9 s5=>(st++(rE aH t4 V9 s5.1)))
        (fun(aj:Nat) t5=>[(0,U6 a0),(1,E9 I),(2,T a2),(16,aT st.length aH t4.length),(17,aD st.length aj t5.length),(18,T s1.2.2.1),(19,T s1.2.2.2)])
        (fun aj t5=>(st++(rE aH t4 aj t5)))
        bm
        (fun V9 s5 b5 h Il=>?_) (fun aj t5 C8 st1 h H=>?_)
       ·unfold XB at h;refine cd h ?_ ?_<;>intro K h
        ·refine r0 ?_;refine r0 ?_;have⟨V,h⟩:=ck V h;have⟨Oy,i1t,h⟩:=E1 h;have fy:=J1 C6.cells [[T ((get v64.2.1 s5.2.toNat).at_),T ((get v64.2.1 s5.2.toNat).rule)]] i1t;have fy:=fl fy i1t;have⟨V,h⟩:=ck V h;refine r1 ?_;refine rn ?_;cases h;exact I7 (V9+1) bm
        ·refine rn ?_;cases h;exact K7 V9 bm
       ·unfold XC at h;refine D1 H ?_;have⟨V,h⟩:=ck V h;refine rn ?_;cases h;exact I7 (aH,aj) bm
    ·refine rn ?_;cases h;exact K7 (D8.1,D8.2) bm
   ·unfold XD at h;refine D1 H ?_;refine rr ?_;cases hd:decide ((t1.1.length:Int)<=200)with
    |false=>rw[hd]at h;exact fp (.E8 [E9 t1.1,fW t1.2,.bool false]) (hr:=by rintro rfl;exact .inl ⟨rfl,rfl,rfl⟩)
    |true=>rw[hd]at h;exact Ke (rE G1.1 t1.1 G1.2 t1.2) _ (.same _) h hsc (hr:=by rintro rfl;exact .inr ⟨rfl,_,_,rfl,rfl⟩)
theorem p4K n l0 r(h:GI n l0=some r):∀st o0 q0 (hnd: [o0].Nodup) (E7:Am.look st o0=some (.arr q0 5 80 (rows L7.cells l0))),U5 25 [I0 o0 q0 l0.length] st (fun d st'=>∃Ij:Nat,d=(I0 o0 Ij r.length)/\st'=puts st [(o0,jN Ij r)]):=by
 intro st o0 q0 hnd E7;unfold GI at h;have N9:=E2 E7;have V:=H7 N9;refine fb 36 [.tmp 2] [0,2,3,4,5,10,22] Tryz.func25 fun hsc=>?_;refine ast (dO st o0 q0 l0) ?_;refine rn ?_;refine L3 q0 h
  (fun A0 Y=>[(0,I0 o0 A0 Y.1.length),cQ Y.2])
  (fun A0 Y=>(dO st o0 A0 Y.1))
  (fun(gt0:Nat) t0=>[(0,I0 o0 gt0 t0.length)])
  (fun gt0 t0=>(dO st o0 gt0 t0))
  jE
  (fun A0 Y b0 h hx0=>?_) (fun gt0 t0 C8 st1 h H=>?_)
 ·unfold MH at h;refine cd h ?_ ?_<;>intro K h
  ·refine rn ?_;refine L3 () h
    (fun J3 s2=>[(0,I0 o0 A0 Y.1.length),cQ Y.2,(4,T s2.1),cR s2.2])
    (fun J3 s2=>(dO st o0 A0 Y.1))
    (fun(I3:Unit) t2=>[(0,I0 o0 A0 Y.1.length),cQ Y.2,(4,T t2)])
    (fun I3 t2=>(dO st o0 A0 Y.1))
    jE
    (fun J3 s2 b2 h V3=>?_) (fun I3 t2 C8 st1 h H=>?_)
   ·unfold MI at h;have⟨V,h⟩:=ck V h;have fy:=S2 L7.cells Y.1 Y.2.toNat;have fy:=fm fy (Y.2.toNat<Y.1.length);refine r1 ?_;refine cl h (Iw _) fun v39 h=>?_;try simp only[go_sem,V,fy]
    refine cd h ?_ ?_<;>intro K h
    ·refine r0 ?_;refine r0 ?_;have⟨V,h⟩:=ck V h;have fy:=S2 L7.cells Y.1 s2.1.toNat;have fy:=fm fy (s2.1.toNat<Y.1.length);refine r1 ?_;refine rn ?_;cases h;exact I7 () jE
    ·refine rn ?_;cases h;exact K7 () jE
   ·unfold Xl at h;refine D1 H ?_;have⟨V,h⟩:=ck V h;have fy:=S2 L7.cells Y.1 Y.2.toNat;have fy:=fm fy (Y.2.toNat<Y.1.length);have⟨wQ,HY,h⟩:=E1 h;have fy:=fa fy (qN L7.cells (oz ((get Y.1 Y.2.toNat).kind) ((get Y.1 Y.2.toNat).name) ((get Y.1 Y.2.toNat).words) ((get Y.1 Y.2.toNat).bound) t2) HY);refine r1 ?_;have e50:D.ref false o0 A0 0 Y.1.length=D.ref false o0 A0 0 wQ.length:=by simp[HY]
    try simp only[e50]
    refine rn ?_;cases h;exact I7 A0 jE
  ·refine rn ?_;cases h;exact K7 A0 jE
 ·unfold Xm at h;refine D1 H ?_;refine rr ?_;exact vo (I0 o0 gt0 t0.length) (hr:=by rintro rfl;exact⟨gt0,rfl,rfl⟩)
theorem p4M:∀n a0 I r (h:Dc n a0 I=some r),L8 26 [E9 a0,T I] (T r):=by
 intro n;induction n with
 |zero=>intro a0 I r h;cases h
 |succ n ih=>
  intro a0 I r h st;unfold Dc at h;have V:=trivial;refine fb 35 [.tmp 4] [0,1,4,5,6,7,8,18,26] Tryz.func26 fun hsc=>?_;refine rn ?_;refine L3 () h
   (fun A0 Y=>[(0,E9 a0),(1,T I),cR Y.1,dh Y.2.1,ah Y.2.2])
   (fun A0 Y=>st)
   (fun(gt0:Unit) t0=>[cR t0])
   (fun gt0 t0=>st)
   O7
   (fun A0 Y b0 h hx0=>?_) (fun gt0 t0 C8 st1 h H=>?_)
  ·unfold MG at h;have⟨V,h⟩:=ck V h;refine cl h (Iw _) fun v11 h=>?_;refine cd h ?_ ?_<;>intro K h
   ·refine cl h (ih _ _) fun v12 h=>?_;refine cd h ?_ ?_<;>intro K h
    ·have⟨V,h⟩:=ck V h;refine rn ?_;cases h;exact I7 () O7
    ·have⟨V,h⟩:=ck V h;refine rn ?_;cases h;exact I7 () O7
   ·refine rn ?_;cases h;exact K7 () O7
  ·unfold Xk at h;refine D1 H ?_;exact rt
theorem p4N:∀n I l0 r (h:Db n I l0=some r),∀st o0 q0 (hnd: [o0].Nodup) (E7:Am.look st o0=some (.arr q0 5 80 (rows L7.cells l0))),U5 28 [I0 o0 q0 l0.length,T I] st (fun d st'=>d=(K4 r)/\st'=puts st []):=by
 intro n;induction n with
 |zero=>intro I l0 r h;cases h
 |succ n ih=>
  intro I l0 r h st o0 q0 hnd E7;unfold Db at h;have N9:=E2 E7;have V:=H7 N9;refine fb 66 [.cell 4 26] [0,1,4,5,6,7,8,27,49] Tryz.func28 fun hsc=>?_;refine ast (dO st o0 q0 l0) ?_;refine rn ?_;have⟨V,h⟩:=ck V h;have fy:=S2 L7.cells l0 I.toNat;have fy:=fm fy (I.toNat<l0.length);have fy:=fa fy (S2 L7.cells l0 I.toNat);have fy:=fm fy (I.toNat<l0.length);refine cG [] 1 ?_;refine r0 ?_;(repeat apply I6)
  refine S9 1 16 ?_;refine V5 ?_;refine Q0 [(0,I0 o0 q0 l0.length),(1,T I),G4 st.length,iw st.length,dh 0] ((dO st o0 q0 l0)++[O4 0 [],DH ((get l0 I.toNat).kind) ((get l0 I.toNat).name) st.length 0 0,kI []]) bu ?_;(repeat apply I6)
  refine L3 0 h
   (fun A0 Y=>[(0,I0 o0 q0 l0.length),(1,T I),G4 st.length,iw st.length,dh Y.2])
   (fun A0 Y=>((dO st o0 q0 l0)++[O4 0 [],DH ((get l0 I.toNat).kind) ((get l0 I.toNat).name) st.length A0 Y.1.length,J2 A0 Y.1]))
   (fun(gt0:Nat) t0=>[(0,I0 o0 q0 l0.length),(1,T I),G4 st.length,iw st.length])
   (fun gt0 t0=>((dO st o0 q0 l0)++[O4 0 [],DH ((get l0 I.toNat).kind) ((get l0 I.toNat).name) st.length gt0 t0.length,J2 gt0 t0]))
   bu
   (fun A0 Y b0 h hx0=>?_) (fun gt0 t0 C8 st1 h H=>?_)
  ·unfold ME at h;have fy:=S2 L7.cells l0 I.toNat;have fy:=fm fy (I.toNat<l0.length);refine r1 ?_;refine cd h ?_ ?_<;>intro K h
   ·refine rn ?_;have fy:=S2 L7.cells l0 I.toNat;have fy:=fm fy (I.toNat<l0.length);have⟨V,h⟩:=ck V h;have⟨Oz,i1u,h⟩:=E1 h;have fy:=fa fy (J1 B2 (I5 (get ((get l0 I.toNat).words) Y.2.toNat)) i1u);have fy:=fl fy i1u;have⟨V,h⟩:=ck V h;refine cG [] 2 ?_;refine rn ?_;cases h;exact I7 (A0+1) bu
   ·refine rn ?_;cases h;exact K7 A0 bu
  ·unfold Xi at h;refine D1 H ?_;refine r0 ?_;refine r0 ?_;(repeat apply I6)
   refine S9 4 72 ?_;refine V5 ?_;refine Q0 [(0,I0 o0 q0 l0.length),G4 st.length,iw st.length,ah (wr .i64 (I+1)),(8,T 0)] ((dO st o0 q0 l0)++[O4 0 [],DG ((get l0 I.toNat).kind) ((get l0 I.toNat).name) st.length gt0 t0.length 0 0,J2 gt0 t0,kG []]) bu ?_;(repeat apply I6)
   refine L3 0 h
    (fun D8 s1=>[(0,I0 o0 q0 l0.length),G4 st.length,iw st.length,ah s1.2.1,(8,T s1.2.2)])
    (fun D8 s1=>((dO st o0 q0 l0)++[O4 0 [],DG ((get l0 I.toNat).kind) ((get l0 I.toNat).name) st.length gt0 t0.length D8 s1.1.length,J2 gt0 t0,eC D8 s1.1]))
    (fun(G1:Nat) t1=>[G4 st.length,iw st.length])
    (fun G1 t1=>((dO st o0 q0 l0)++[O4 0 [],DG ((get l0 I.toNat).kind) ((get l0 I.toNat).name) st.length gt0 t0.length G1 t1.length,J2 gt0 t0,eC G1 t1]))
    bu
    (fun D8 s1 b1 h U8=>?_) (fun G1 t1 C8 st1 h H=>?_)
   ·unfold MF at h;refine cl h (Iw _) fun wR h=>?_;refine cd h ?_ ?_<;>intro K h
    ·refine rn ?_;refine dw [1,4] 2 ?_;have⟨kF,p4O,h⟩:=D0 h;refine K0 [o0] (fun st2 X=>(ih _ _ _ p4O st2 _ q0 hnd (T6 X))) ?_;have⟨tO,HZ,h⟩:=E1 h;have fy:=J1 O.cells (gM kF) HZ;have fy:=fl fy HZ;have⟨V,h⟩:=ck V h;try simp only[go_sem,V,fy]
     try refine⟨by first|omega|(simp<;>omega),?_⟩
     have⟨V,h⟩:=ck V h;have fy:=S2 L7.cells l0 s1.2.1.toNat;have fy:=fm fy (s1.2.1.toNat<l0.length);refine r1 ?_;refine rn ?_;cases h;exact I7 (D8+1) bu
    ·refine rn ?_;cases h;exact K7 D8 bu
   ·unfold Xj at h;refine D1 H ?_;refine rr ?_;exact sw (gL ((get l0 I.toNat).kind) ((get l0 I.toNat).name) t0 t1)
theorem Pa n a0 r(h:vU n a0=some r):L8 69 [T a0] (.str r):=by
 intro st;unfold vU at h;have V:=trivial;refine fb 17 [.tmp 2] [0,2,3,15] Tryz.func69 fun hsc=>?_;refine rn ?_;refine L3 () h
  (fun A0 Y=>[(0,T Y.1),(3,.str Y.2)])
  (fun A0 Y=>st)
  (fun(gt0:Unit) t0=>[])
  (fun gt0 t0=>st)
  O7
  (fun A0 Y b0 h hx0=>?_) (fun gt0 t0 C8 st1 h H=>?_)
 ·unfold Tv at h;have⟨V,h⟩:=ck V h;have⟨V,h⟩:=ck V h;refine cd h ?_ ?_<;>intro K h
  ·refine ra ?_;cases h;refine W0 ?_;have h:=congrArg some (hx0 _ rfl);exact rt
  ·refine rn ?_;cases h;exact I7 () O7
 ·try simp only[go_sem,V]
  unfold d9E at h;cases h
theorem p4P:∀n a0 I a2 B0 r (h:wK n a0 I a2 B0=some r),∀st o0 (hnd: [o0].Nodup) (E7:Am.look st o0=some (.arr 0 1 0 (U2 B0))),U5 66 [K4 a0,C0 I,C0 a2,B6 o0] st (fun d st'=>d=(K4 r.1)/\st'=puts st [(o0,eZ r.2)]):=by
 intro n;induction n with
 |zero=>intro a0 I a2 B0 r h;cases h
 |succ n ih=>
  intro a0 I a2 B0 r h st o0 hnd E7;unfold wK at h;have N9:=E2 E7;have V:=H7 N9;refine mM ?_;refine fb 105 [.cell 8 26] [0,1,2,3,4,8,9,11,12,13,20,21,22,23,30,38,54,55,56,57,85,86,87] Tryz.func66 fun hsc=>?_;refine ast (qc st o0 B0) ?_;refine r0 ?_;refine r0 ?_;refine r0 ?_;(repeat apply I6)
  refine S9 1 16 ?_;refine V5 ?_;refine Q0 [W7 I,aF a2,U1 o0,G4 st.length,Z9 st.length,(9,M5 st.length),(20,C0 a0.words),(21,T ↑a0.words.length),(22,T 0)] ((qc st o0 B0)++(wX a0 0 [] a0.kind a0.name st.length 0 [])) bu ?_;refine Q9 20 fun H6=>?_;refine O8 0 V H6 h
   (fun A0 k0 Y=>[W7 I,aF a2,U1 o0,G4 st.length,Z9 st.length,(9,M5 st.length),(20,C0 a0.words),(21,T ↑a0.words.length),(22,T ↑k0)])
   (fun A0 k0 Y=>((qc st o0 B0)++(aS a0 0 [] a0.kind a0.name st.length A0 Y.length Y)))
   (fun gt0 t0=>[W7 I,aF a2,U1 o0,G4 st.length,Z9 st.length,(9,M5 st.length)])
   (fun gt0 t0=>((qc st o0 B0)++(aS a0 0 [] a0.kind a0.name st.length gt0 t0.length t0)))
   bu
   (fun A0 k0 Y b0 V h hx0=>?_) (fun gt0 t0 C8 st1 h H=>?_)
  ·unfold WQ at h;refine ct ?_;refine rn ?_;refine L3 () h
    (fun J3 s2=>[W7 I,aF a2,U1 o0,G4 st.length,Z9 st.length,(9,M5 st.length),(11,.str (get a0.words k0)),(12,T s2),(20,C0 a0.words),(21,T ↑a0.words.length),(22,T ↑k0)])
    (fun J3 s2=>((qc st o0 B0)++(aS a0 0 [] a0.kind a0.name st.length A0 Y.length Y)))
    (fun(I3:Unit) t2=>[W7 I,aF a2,U1 o0,G4 st.length,Z9 st.length,(9,M5 st.length),(11,.str t2),(20,C0 a0.words),(21,T ↑a0.words.length),(22,T ↑k0)])
    (fun I3 t2=>((qc st o0 B0)++(aS a0 0 [] a0.kind a0.name st.length A0 Y.length Y)))
    bu
    (fun J3 s2 b2 h V3=>?_) (fun I3 t2 C8 st1 h H=>?_)
   ·unfold Mx at h;refine cd h ?_ ?_<;>intro K h
    ·have⟨V,h⟩:=ck V h;refine cd h ?_ ?_<;>intro K h
     ·have⟨V,h⟩:=ck V h;refine rn ?_;cases h;exact K7 () bu
     ·refine rn ?_;cases h;exact I7 () bu
    ·refine rn ?_;cases h;exact K7 () bu
   ·unfold WR at h;refine D1 H ?_;have⟨cL,lX,h⟩:=E1 h;have fy:=J1 B2 (I5 t2) lX;have fy:=fl fy lX;have⟨V,h⟩:=ck V h;refine r1 ?_;refine rn ?_;cases h;exact L6 (A0+1) bu
  ·unfold WU at h;refine D1 H ?_;refine rn ?_;refine V4 (Da (wK n) a0 t0) r (fun(jy:Unit) j3=>[W7 j3.2.2.1,aF j3.2.2.2,U1 o0,G4 st.length,Z9 st.length,(9,M5 st.length)]) (fun jy j3=>((qc st o0 j3.1)++(aS a0 0 [] a0.kind j3.2.1 st.length gt0 t0.length t0))) (fun jy j3 C8 st1 h H=>?_) (fun hj3=>?_)
   ·unfold Da at h;refine D1 H ?_;refine r0 ?_;(repeat apply I6)
    refine S9 4 72 ?_;refine V5 ?_;refine Q0 [W7 j3.2.2.1,aF j3.2.2.2,U1 o0,G4 st.length,Z9 st.length,(9,M5 st.length),(85,T ↑a0.subs.length),(86,T 0)] ((qc st o0 j3.1)++[G3 a0,O4 0 [],wU a0.kind j3.2.1 st.length gt0 t0.length 0 0,J2 gt0 t0,kG []]) bu ?_;have⟨V,h⟩:=ck V h;(repeat apply I6)
    refine O8 0 V V.2 h
     (fun Y4 k4 s4=>[W7 j3.2.2.1,aF j3.2.2.2,U1 o0,G4 st.length,Z9 st.length,(9,M5 st.length),(85,T ↑a0.subs.length),(86,T ↑k4)])
     (fun Y4 k4 s4=>((qc st o0 s4.1)++[G3 a0,O4 0 [],wU a0.kind j3.2.1 st.length gt0 t0.length Y4 s4.2.length,J2 gt0 t0,eC Y4 s4.2]))
     (fun aH t4=>[Z9 st.length,(9,M5 st.length)])
     (fun aH t4=>((qc st o0 t4.1)++(xq 0 [] a0.kind j3.2.1 st.length gt0 t0.length aH t4.2.length t0 t4.2)))
     bu
     (fun Y4 k4 s4 b4 V h xE=>?_) (fun aH t4 C8 st1 h H=>?_)
    ·unfold WS at h;refine ct ?_;refine rn ?_;refine dw [1,10] 2 ?_;have⟨OA,p4Q,h⟩:=D0 h;refine K0 [o0] (fun st2 X=>(vH (ih _ _ _ _ _ p4Q st2 _ hnd (T6 X)))) ?_;have⟨OB,i1v,h⟩:=E1 h;have fy:=J1 O.cells (gM OA.1) i1v;have fy:=fl fy i1v;have⟨V,h⟩:=ck V h;try simp only[go_sem,V,fy]
     try refine⟨by first|omega|(simp<;>omega),?_⟩
     refine rn ?_;cases h;exact L6 (Y4+1) bu
    ·unfold WT at h;refine D1 H ?_;refine rr ?_;exact aO (gL a0.kind j3.2.1 t0 t4.2)
   ·refine cd h ?_ ?_<;>intro K h
    ·refine rn ?_;have⟨v25,Zh,h⟩:=D0 h;refine(aP (Pa n _ _ Zh)).to ?_;have⟨V,h⟩:=ck V h;refine rn ?_;have⟨eB,Ad,h⟩:=E1 h;have fy:=(show rows B2 I=rows B2 eB from by rw[Ad];first|rfl|simp only[go_sem,rows,fw,cm,bv,jn])
     have fy:=fa fy (show 0+I.length=eB.length from by rw[Ad];simp);have⟨V,h⟩:=ck V h;have⟨OC,i1w,h⟩:=E1 h;have fy:=fa fy (J1 B2 (I5 a0.name) i1w);have fy:=fl fy i1w;have⟨V,h⟩:=ck V h;have⟨pU,HU,h⟩:=E1 h;have fy:=fa fy (show rows B2 a2=rows B2 pU from by rw[HU];first|rfl|simp only[go_sem,rows,fw,cm,bv,jn])
     have fy:=fa fy (show 0+a2.length=pU.length from by rw[HU];simp);have⟨V,h⟩:=ck V h;have⟨OD,i1x,h⟩:=E1 h;have fy:=fa fy (J1 B2 (I5 (O1 [33] v25)) i1x);have fy:=fl fy i1x;have⟨V,h⟩:=ck V h;refine cG [2,4,6,9,11] 8 ?_;try refine⟨by first|omega|(simp<;>omega),?_⟩
     refine hj3 () _ _ _ h ?_;exact(bu (hf:=⟨.ref _ _ _ _ _ _ _ _ _ (lq.trans rfl) (qK (by first|decide|simp)) D5 (br _) (by simp only[go_sem]),.ref _ _ _ _ _ _ _ _ _ (lq.trans rfl) (qK (by first|decide|simp)) D5 (br _) (by simp only[go_sem]),.s,.s,.s,.s,trivial⟩))
    ·refine r0 ?_;exact hj3 () _ _ _ h bu
theorem Zw a0 I r(h:vW a0 I=some r):L8 68 [C0 a0,.str I] (.bool r):=by
 intro st;unfold vW at h;have V:=trivial;refine fb 17 [.tmp 4] [0,1,4,6,7,8,9,10,15] Tryz.func68 fun hsc=>?_;refine Q9 7 fun H6=>?_;refine O8 () V H6 h
  (fun A0 k0 Y=>[(1,.str I),(7,C0 a0),(8,T ↑a0.length),(9,T ↑k0)])
  (fun A0 k0 Y=>st)
  (fun gt0 t0=>[])
  (fun gt0 t0=>st)
  O7
  (fun A0 k0 Y b0 V h hx0=>?_) (fun gt0 t0 C8 st1 h H=>?_)
 ·unfold TB at h;refine ct ?_;refine cd h ?_ ?_<;>intro K h
  ·refine ra ?_;cases h;refine aM ?_;have h:=congrArg some (hx0 _ rfl);exact rt
  ·refine rn ?_;cases h;exact L6 () O7
 ·unfold TD at h;refine D1 H ?_;exact rt
theorem p4R n a0 I r(h:FN n a0 I=some r):L8 125 [C0 a0,.str I] (C0 r):=by
 intro st;unfold FN at h;have V:=trivial;refine fb 39 [.tmp 4] [0,1,4,5,6,9,16,17,18,19,20,21,22] Tryz.func125 fun hsc=>?_;refine cl h (Zw _ _) fun v1 h=>?_;refine cd h ?_ ?_<;>intro K h
 ·exact rt
 ·refine rn ?_;refine L3 () h
   (fun A0 Y=>[(0,C0 a0),(1,.str I),(5,.A9),dh Y])
   (fun A0 Y=>st)
   (fun(gt0:Unit) t0=>[(0,C0 a0),(1,.str I),(5,.A9),dh t0])
   (fun gt0 t0=>st)
   O7
   (fun A0 Y b0 h hx0=>?_) (fun gt0 t0 C8 st1 h H=>?_)
  ·unfold TG at h;have⟨V,h⟩:=ck V h;refine cd h ?_ ?_<;>intro K h
   ·refine rn ?_;cases h;exact I7 () O7
   ·refine rn ?_;cases h;exact K7 () O7
  ·unfold TH at h;refine D1 H ?_;have⟨V,h⟩:=ck V h;have⟨c9,Pb,h⟩:=E1 h;have fy:=(show rows B2 (a0.take t0.toNat)=rows B2 c9 from by rw[Pb];try first|rfl|simp only[go_sem,rows,bv,jn])
   have fy:=fa fy (show(a0.take t0.toNat).length=c9.length from by rw[Pb];try rfl)
   have⟨V,h⟩:=ck V h;refine r1 ?_;have⟨pT,HI,h⟩:=E1 h;have fy:=J1 B2 (I5 I) HI;have fy:=fl fy HI;have⟨V,h⟩:=ck V h;refine r1 ?_;have⟨cL,lX,h⟩:=E1 h;have fy:=J1 B2 (rows B2 (a0.drop t0.toNat)) lX;have fy:=fa fy (show pT.length+(a0.drop t0.toNat).length=cL.length from by rw[lX];simp);have⟨V,h⟩:=ck V h;refine r1 ?_;refine rr ?_;exact fp (C0 cL)
theorem p4S:∀n a0 I a2 r (h:vX n a0 I a2=some r),L8 105 [K4 a0,C0 I,C0 a2] (C0 r):=by
 intro n;induction n with
 |zero=>intro a0 I a2 r h;cases h
 |succ n ih=>
  intro a0 I a2 r h st;unfold vX at h;have V:=trivial;refine mM ?_;refine fb 56 [.tmp 6] [0,1,2,3,6,8,9,11,12,13,14,20,29,30,31,32,42,43,44] Tryz.func105 fun hsc=>?_;refine Q9 11 fun H6=>?_;refine O8 () V H6 h
   (fun A0 k0 Y=>[W7 I,aF Y,U1 st.length,(11,C0 a0.words),(12,T ↑a0.words.length),(13,T ↑k0)])
   (fun A0 k0 Y=>(st++[G3 a0]))
   (fun gt0 t0=>[W7 I,aF t0,U1 st.length])
   (fun gt0 t0=>(st++[G3 a0]))
   bm
   (fun A0 k0 Y b0 V h hx0=>?_) (fun gt0 t0 C8 st1 h H=>?_)
  ·unfold TJ at h;refine ct ?_;refine rn ?_;have⟨v3,W4,h⟩:=D0 h;refine(aP (Zw _ _ _ W4)).to ?_;refine cd h ?_ ?_<;>intro K h
   ·refine rn ?_;have⟨v4,fF,h⟩:=D0 h;refine(aP (p4R n _ _ _ fF)).to ?_;refine rn ?_;cases h;exact L6 () bm
   ·refine rn ?_;cases h;exact L6 () bm
  ·unfold TN at h;refine D1 H ?_;refine rn ?_;refine V4 (Ch (vX n) a0 t0) r (fun(gN:Unit) j1=>[W7 j1,aF t0,U1 st.length]) (fun gN j1=>(st++[G3 a0])) (fun gN j1 C8 st1 h H=>?_) (fun cA=>?_)
   ·unfold Ch at h;refine D1 H ?_;have⟨V,h⟩:=ck V h;refine rn ?_;refine O8 () V V.2 h
     (fun J3 k2 s2=>[W7 j1,aF s2,U1 st.length,(42,T ↑a0.subs.length),(43,T ↑k2)])
     (fun J3 k2 s2=>(st++[G3 a0]))
     (fun I3 t2=>[aF t2])
     (fun I3 t2=>st)
     bm
     (fun J3 k2 s2 b2 V h V3=>?_) (fun I3 t2 C8 st1 h H=>?_)
    ·unfold TL at h;refine ct ?_;refine rn ?_;have⟨Hq,p4T,h⟩:=D0 h;refine(aP (ih _ _ _ _ p4T)).to ?_;refine rn ?_;cases h;exact L6 () bm
    ·unfold TM at h;refine D1 H ?_;exact rt
   ·refine cd h ?_ ?_<;>intro K h
    ·refine B ?_;have⟨c5,hc5,h⟩:=E1 h;have fy:=(show rows B2 I=rows B2 c5 from by rw[hc5];first|rfl|simp only[go_sem,rows,fw,cm,bv,jn])
     have fy:=fa fy (show 0+I.length=c5.length from by rw[hc5];simp);have⟨V,h⟩:=ck V h;have⟨lV,xD,h⟩:=E1 h;have fy:=fa fy (J1 B2 (I5 a0.name) xD);have fy:=fl fy xD;have⟨V,h⟩:=ck V h;refine cG [2,4] 4 ?_;try refine⟨by first|omega|(simp<;>omega),?_⟩
     refine cA () _ _ _ h ?_;exact(bm (hf:=⟨.ref _ _ _ _ _ _ _ _ _ (je.trans rfl) (JL (by first|decide|simp)) D5 (br _) (by simp only[go_sem]),.s,.s,trivial⟩))
    ·refine r0 ?_;exact cA () _ _ _ h bm
theorem p4U n a0 r(h:MA n a0=some r):L8 67 [K4 a0] (C0 r):=by intro st;unfold MA at h;have V:=trivial;refine fb 5 [.tmp 2] [0,1,2] Tryz.func67 fun hsc=>?_;refine cl h (up (p4S n _ _ _) (fun _=>(.cons _ _ _ _ .s (.cons _ _ _ _ (.A9 _ _ _ D5) (.cons _ _ _ _ (.A9 _ _ _ D5) .nil))))) fun v1 h=>?_;exact rt
theorem p4V:∀n a0 l0 l1 r (h:vY n a0 l0 l1=some r),∀st o0 o1 q0 q1 (hnd: [o0,o1].Nodup) (E7:Am.look st o0=some (.arr q0 1 16 (rows B2 l0))) (L9:Am.look st o1=some (.arr q1 1 16 (rows B2 l1))),U5 70 [K4 a0,I0 o0 q0 l0.length,I0 o1 q1 l1.length] st (fun d st'=>d=(K4 r)/\st'=puts st []):=by
 intro n;induction n with
 |zero=>intro a0 l0 l1 r h;cases h
 |succ n ih=>
  intro a0 l0 l1 r h st o0 o1 q0 q1 hnd E7 L9;unfold vY at h;have N9:=E2 E7;have T5:=E2 L9;have V:=fa (fa (H7 N9) (H7 T5)) (Bl hnd);refine fb 95 [.cell 6 26] [0,1,2,3,6,7,9,10,11,12,19,20,21,22,26,27,28,35,52,53,54,55,57,58,59,67,76,77,78] Tryz.func70 fun hsc=>?_;refine ast (dN st o0 q0 l0 o1 q1 l1) ?_;refine r0 ?_;refine r0 ?_;refine r0 ?_;(repeat apply I6)
  refine S9 1 16 ?_;refine V5 ?_;refine Q0 [(1,I0 o0 q0 l0.length),(2,I0 o1 q1 l1.length),U1 st.length,P3 st.length,U9 st.length,(19,C0 a0.words),(20,T ↑a0.words.length),(21,T 0)] ((dN st o0 q0 l0 o1 q1 l1)++(wX a0 0 [] a0.kind a0.name st.length 0 [])) bu ?_;refine Q9 19 fun H6=>?_;refine O8 0 V H6 h
   (fun A0 k0 Y=>[(1,I0 o0 q0 l0.length),(2,I0 o1 q1 l1.length),U1 st.length,P3 st.length,U9 st.length,(19,C0 a0.words),(20,T ↑a0.words.length),(21,T ↑k0)])
   (fun A0 k0 Y=>((dN st o0 q0 l0 o1 q1 l1)++(aS a0 0 [] a0.kind a0.name st.length A0 Y.length Y)))
   (fun gt0 t0=>[(1,I0 o0 q0 l0.length),(2,I0 o1 q1 l1.length),U1 st.length,P3 st.length,U9 st.length])
   (fun gt0 t0=>((dN st o0 q0 l0 o1 q1 l1)++(aS a0 0 [] a0.kind a0.name st.length gt0 t0.length t0)))
   bu
   (fun A0 k0 Y b0 V h hx0=>?_) (fun gt0 t0 C8 st1 h H=>?_)
  ·unfold TP at h;refine ct ?_;have⟨V,h⟩:=ck V h;refine rn ?_;refine O8 () V V.2 h
    (fun J3 k2 s2=>[(1,I0 o0 q0 l0.length),(2,I0 o1 q1 l1.length),U1 st.length,P3 st.length,U9 st.length,(9,.str s2),(19,C0 a0.words),(20,T ↑a0.words.length),(21,T ↑k0),(26,T ↑l0.length),(27,T ↑k2)])
    (fun J3 k2 s2=>((dN st o0 q0 l0 o1 q1 l1)++(aS a0 0 [] a0.kind a0.name st.length A0 Y.length Y)))
    (fun I3 t2=>[(1,I0 o0 q0 l0.length),(2,I0 o1 q1 l1.length),U1 st.length,P3 st.length,U9 st.length,(9,.str t2),(19,C0 a0.words),(20,T ↑a0.words.length),(21,T ↑k0)])
    (fun I3 t2=>((dN st o0 q0 l0 o1 q1 l1)++(aS a0 0 [] a0.kind a0.name st.length A0 Y.length Y)))
    bu
    (fun J3 k2 s2 b2 V h V3=>?_) (fun I3 t2 C8 st1 h H=>?_)
   ·unfold d9F at h;refine ct ?_;refine r0 ?_;refine r0 ?_;refine r0 ?_;have fy:=S2 B2 l0 k2;have fy:=fm fy (k2<l0.length);refine r1 ?_;refine cd h ?_ ?_<;>intro K h
    ·have⟨V,h⟩:=ck V h;have fy:=S2 B2 l1 k2;have fy:=fm fy (k2<l1.length);refine r1 ?_;refine rn ?_;cases h;exact d1V () bu
    ·refine rn ?_;cases h;exact L6 () bu
   ·unfold TQ at h;refine D1 H ?_;have⟨tP,Ib,h⟩:=E1 h;have fy:=J1 B2 (I5 t2) Ib;have fy:=fl fy Ib;have⟨V,h⟩:=ck V h;refine r1 ?_;refine rn ?_;cases h;exact L6 (A0+1) bu
  ·unfold TV at h;refine D1 H ?_;refine rn ?_;refine V4 (Ci (vY n) a0 l0 l1 t0) r (fun(jy:Unit) j3=>[(1,I0 o0 q0 l0.length),(2,I0 o1 q1 l1.length),U1 st.length,P3 st.length,U9 st.length]) (fun jy j3=>((dN st o0 q0 l0 o1 q1 l1)++(aS a0 0 [] a0.kind j3 st.length gt0 t0.length t0))) (fun jy j3 C8 st1 h H=>?_) (fun hj3=>?_)
   ·unfold Ci at h;refine D1 H ?_;refine r0 ?_;(repeat apply I6)
    refine S9 4 72 ?_;refine V5 ?_;refine Q0 [(1,I0 o0 q0 l0.length),(2,I0 o1 q1 l1.length),U1 st.length,P3 st.length,U9 st.length,(76,T ↑a0.subs.length),(77,T 0)] ((dN st o0 q0 l0 o1 q1 l1)++[G3 a0,O4 0 [],wU a0.kind j3 st.length gt0 t0.length 0 0,J2 gt0 t0,kG []]) bu ?_;have⟨V,h⟩:=ck V h;(repeat apply I6)
    refine O8 0 V V.2 h
     (fun V9 k5 s5=>[(1,I0 o0 q0 l0.length),(2,I0 o1 q1 l1.length),U1 st.length,P3 st.length,U9 st.length,(76,T ↑a0.subs.length),(77,T ↑k5)])
     (fun V9 k5 s5=>((dN st o0 q0 l0 o1 q1 l1)++[G3 a0,O4 0 [],wU a0.kind j3 st.length gt0 t0.length V9 s5.length,J2 gt0 t0,eC V9 s5]))
     (fun aj t5=>(zY st.length))
     (fun aj t5=>((dN st o0 q0 l0 o1 q1 l1)++(xq 0 [] a0.kind j3 st.length gt0 t0.length aj t5.length t0 t5)))
     bu
     (fun V9 k5 s5 b5 V h Il=>?_) (fun aj t5 C8 st1 h H=>?_)
    ·unfold TS at h;refine ct ?_;refine rn ?_;refine dw [1,9] 2 ?_;have⟨v54,Zs,h⟩:=D0 h;refine K0 [o0,o1] (fun st2 X=>(ih _ _ _ _ Zs st2 _ _ q0 q1 hnd (T6 X) (T6 X))) ?_;have⟨OE,i1z,h⟩:=E1 h;have fy:=J1 O.cells (gM v54) i1z;have fy:=fl fy i1z;have⟨V,h⟩:=ck V h;try simp only[go_sem,V,fy]
     try refine⟨by first|omega|(simp<;>omega),?_⟩
     refine rn ?_;cases h;exact L6 (V9+1) bu
    ·unfold TU at h;refine D1 H ?_;refine rr ?_;exact sw (gL a0.kind j3 t0 t5)
   ·refine cd h ?_ ?_<;>intro K h
    ·have⟨V,h⟩:=ck V h;refine rn ?_;refine O8 () V V.2 h
      (fun Y4 k4 s4=>[(1,I0 o0 q0 l0.length),(2,I0 o1 q1 l1.length),U1 st.length,P3 st.length,U9 st.length,(57,T ↑l0.length),(58,T ↑k4)])
      (fun Y4 k4 s4=>((dN st o0 q0 l0 o1 q1 l1)++(aS a0 0 [] a0.kind s4 st.length gt0 t0.length t0)))
      (fun aH t4=>[(1,I0 o0 q0 l0.length),(2,I0 o1 q1 l1.length),U1 st.length,P3 st.length,U9 st.length])
      (fun aH t4=>((dN st o0 q0 l0 o1 q1 l1)++(aS a0 0 [] a0.kind t4 st.length gt0 t0.length t0)))
      bu
      (fun Y4 k4 s4 b4 V h xE=>?_) (fun aH t4 C8 st1 h H=>?_)
     ·unfold TW at h;refine ct ?_;refine rn ?_;have fy:=S2 B2 l0 k4;have fy:=fm fy (k4<l0.length);refine cG [] 0 ?_;refine cd h ?_ ?_<;>intro K h
      ·have⟨V,h⟩:=ck V h;have fy:=S2 B2 l1 k4;have fy:=fm fy (k4<l1.length);refine r1 ?_;refine rn ?_;cases h;exact d1V () bu
      ·refine rn ?_;cases h;exact L6 () bu
     ·try simp only[go_sem,V]
      unfold TX at h;refine hj3 () _ _ _ h ?_;exact(H.trans bu)
    ·refine r0 ?_;exact hj3 () _ _ _ h bu
theorem p4W n a0 I a2 r(h:Mz n a0 I a2=some r):L8 46 [K4 a0,C0 I,C0 a2] (K4 r):=by
 intro st;unfold Mz at h;have V:=trivial;refine fb 62 [.cell 6 26] [0,1,2,3,6,7,8,9,11,12,13,14,15,21,22,23,24,34,41] Tryz.func46 fun hsc=>?_;refine rn ?_;have⟨v1,hv1,h⟩:=D0 h;refine(p4P n _ _ _ _ _ hv1 _ _ B5 (P5.trans rfl)).mono ?_;rintro d1 st1 ⟨rfl,rfl⟩;refine cl h (p4U n _) fun v2 h=>?_;try simp only[go_sem,V]
 (repeat apply I6)
 refine S9 1 16 ?_;refine V5 ?_;refine Q0 [P3 st.length,U9 st.length,(8,.ptr (st.length+3) 0 0 0),(9,cO st.length 0 0),(21,C0 v2),(22,T ↑v2.length),(23,T 0)] (st++[G3 a0,O4 0 [],some (eZ v1.2),G3 v1.1,kI []]) bm ?_;refine Q9 21 fun H6=>?_;refine O8 0 V H6 h
  (fun A0 k0 Y=>[P3 st.length,U9 st.length,(8,.ptr (st.length+3) 0 0 0),(9,cO st.length A0 Y.length),(21,C0 v2),(22,T ↑v2.length),(23,T ↑k0)])
  (fun A0 k0 Y=>((st++[none,O4 0 [],some (eZ v1.2),G3 v1.1,J2 A0 Y])))
  (fun gt0 t0=>[P3 st.length,U9 st.length,(8,.ptr (st.length+3) 0 0 0),(9,cO st.length gt0 t0.length)])
  (fun gt0 t0=>((st++[none,O4 0 [],some (eZ v1.2),G3 v1.1,J2 gt0 t0])))
  bm
  (fun A0 k0 Y b0 V h hx0=>?_) (fun gt0 t0 C8 st1 h H=>?_)
 ·unfold WW at h;refine ct ?_;refine r0 ?_;refine r0 ?_;refine r0 ?_;have⟨eA,nC,h⟩:=E1 h;have fy:=J1 B2 (I5 (get v2 k0)) nC;have fy:=fl fy nC;have⟨V,h⟩:=ck V h;refine r1 ?_;refine rn ?_;cases h;exact L6 (A0+1) bm
 ·unfold WX at h;refine D1 H ?_;refine r0 ?_;refine r0 ?_;refine r0 ?_;(repeat apply I6)
  refine S9 1 16 ?_;refine S9 1 16 ?_;refine V5 ?_;refine Q0 (OJ st.length gt0 t0.length 0 0 0 0 0 0) ((st++[none,O4 0 [],some (eZ v1.2),G3 v1.1,J2 gt0 t0,kI [],kI []])) bm ?_;(repeat apply I6)
  refine L3 (0,0) h
   (fun D8 s1=>(OJ st.length gt0 t0.length D8.1 s1.1.length D8.2 s1.2.1.length s1.2.2.1 s1.2.2.2))
   (fun D8 s1=>((st++[none,O4 0 [],some (eZ v1.2),G3 v1.1,J2 gt0 t0,J2 D8.1 s1.1,J2 D8.2 s1.2.1])))
   (fun(G1:kf) t1=>[P3 st.length,(8,.ptr (st.length+3) 0 0 0),(12,nA st.length G1.1 t1.1.length),(13,.ref false (st.length+6) G1.2 0 t1.2.length)])
   (fun G1 t1=>((st++[none,O4 0 [],none,G3 v1.1,none,J2 G1.1 t1.1,J2 G1.2 t1.2])))
   bm
   (fun D8 s1 b1 h U8=>?_) (fun G1 t1 C8 st1 h H=>?_)
  ·unfold MB at h;refine cd h ?_ ?_<;>intro K h
   ·refine rn ?_;refine L3 () h
     (fun P4 s3=>(OJ st.length gt0 t0.length D8.1 s1.1.length D8.2 s1.2.1.length s3 s1.2.2.2))
     (fun P4 s3=>((st++[none,O4 0 [],some (eZ v1.2),G3 v1.1,J2 gt0 t0,J2 D8.1 s1.1,J2 D8.2 s1.2.1])))
     (fun(T3:Unit) t3=>(OJ st.length gt0 t0.length D8.1 s1.1.length D8.2 s1.2.1.length t3 s1.2.2.2))
     (fun T3 t3=>((st++[none,O4 0 [],some (eZ v1.2),G3 v1.1,J2 gt0 t0,J2 D8.1 s1.1,J2 D8.2 s1.2.1])))
     bm
     (fun P4 s3 b3 h lW=>?_) (fun T3 t3 C8 st1 h H=>?_)
    ·unfold MC at h;refine cl h (Pa n _) fun v40 h=>?_;have⟨V,h⟩:=ck V h;refine rn ?_;have⟨wR,p4X,h⟩:=D0 h;refine((Zw _ _ _ p4X).borrow (args:=[cO st.length gt0 t0.length,.str (O1 [118] v40)]) (.cons _ _ _ _ (.ref _ _ _ _ _ _ _ _ _ (je.trans rfl) EH D5 (br _) (by simp only[go_sem])) (.cons _ _ _ _ .s .nil)) B5 rfl ) ?_;refine cd h ?_ ?_<;>intro K h
     ·refine rn ?_;cases h;exact I7 () bm
     ·refine rn ?_;cases h;exact K7 () bm
    ·unfold WY at h;refine D1 H ?_;refine cl h (Pa n _) fun kF h=>?_;have⟨V,h⟩:=ck V h;have⟨OG,i1A,h⟩:=E1 h;have fy:=J1 B2 (I5 (O1 [33] kF)) i1A;have fy:=fl fy i1A;have⟨V,h⟩:=ck V h;try simp only[go_sem,V,fy]
     refine cl h (Pa n _) fun v51 h=>?_;have⟨V,h⟩:=ck V h;have⟨OH,i1B,h⟩:=E1 h;have fy:=fa fy (J1 B2 (I5 (O1 [118] v51)) i1B);have fy:=fl fy i1B;have⟨V,h⟩:=ck V h;try simp only[go_sem,V,fy]
     refine rn ?_;cases h;exact I7 ((D8.1+1),(D8.2+1)) bm
   ·refine rn ?_;cases h;exact K7 (D8.1,D8.2) bm
  ·unfold WZ at h;refine D1 H ?_;refine rn ?_;have⟨v59,Zq,h⟩:=D0 h;refine(p4V n _ _ _ _ Zq _ _ _ G1.1 G1.2 B5 (P5.trans rfl) (P5.trans rfl)).mono ?_;rintro d1 st1 ⟨rfl,rfl⟩;exact rt
theorem p4Y n a0 r(h:GH n a0=some r):L8 27 [K4 a0] (K4 r):=by intro st;unfold GH at h;have V:=trivial;refine fb 5 [.cell 2 26] [0,1,2] Tryz.func27 fun hsc=>?_;refine cl h (up (p4W n _ _ _) (fun _=>(.cons _ _ _ _ .s (.cons _ _ _ _ (.A9 _ _ _ D5) (.cons _ _ _ _ (.A9 _ _ _ D5) .nil))))) fun v1 h=>?_;exact rt
theorem p4Z n a0 I r(h:Hi n a0 I=some r):L8 10 [U6 a0,K4 I] (.E8 [K4 r.1,fW r.2.1,.bool r.2.2]):=by
 intro st;unfold Hi at h;have V:=trivial;refine fb 81 [.cell 4 26,.tmp 5,.tmp 6] [0,1,3,4,5,6,7,9,10,11,12,13,28,34,39,46,47,48,49,50,51,52,53,54,55,56,57,58] Tryz.func10 fun hsc=>?_;refine cl h (up (p4c n _ _ _ _) (fun _=>(.cons _ _ _ _ .s (.cons _ _ _ _ (.A9 _ _ _ D5) (.cons _ _ _ _ (.A9 _ _ _ D5) (.cons _ _ _ _ .s .nil)))))) fun v1 h=>?_;try simp only[go_sem,V]
 refine cl h (up (ud n _ _) (fun _=>(.cons _ _ _ _ .s (.cons _ _ _ _ .s (.cons _ _ _ _ (.A9 _ _ _ D5) .nil))))) fun v2 h=>?_;refine rn ?_;have⟨v3,W4,h⟩:=D0 h;have⟨c4,hc4,h⟩:=E1 h;subst hc4;have⟨V,h⟩:=ck V h;have⟨c9,Pb,h⟩:=E1 h;subst Pb;have⟨V,h⟩:=ck V h;refine i5h (p4H n _ _ _ _ W4 _) (fun hok=>?_) (fun hok g1 g2=>?_)
 ·rw[hok]at h;refine ct ?_;refine rr ?_;exact fp (.E8 [gL 0 [] [] [],fW [],.bool false])
 ·rw[hok]at h;refine cf ?_;refine rn ?_;have⟨bf,Hj,h⟩:=D0 h;refine(p4K n _ _ Hj _ _ g1 B5 (P5.trans rfl)).mono ?_;rintro d1 st1 ⟨g15,rfl,rfl⟩;refine rn ?_;have⟨cK,tC,h⟩:=D0 h;refine((p4M n _ _ _ tC).borrow (args:=[cO st.length g15 bf.length,T 0]) (.cons _ _ _ _ (.ref _ _ _ _ _ _ _ _ _ (je.trans rfl) EH D5 (br _) (by simp only[go_sem])) (.cons _ _ _ _ .s .nil)) B5 rfl ) ?_;refine cd h ?_ ?_<;>intro K h
  ·refine rr ?_;exact fp (.E8 [gL 0 [] [] [],fW [],.bool false])
  ·refine rn ?_;refine L3 g2 h
    (fun A0 Y=>[fh st.length,(9,cO st.length g15 bf.length),(10,nA st.length A0 Y.1.length),(12,T Y.2)])
    (fun A0 Y=>((st++[none,O4 0 [],none,none,some (jN g15 bf),qb A0 Y.1])))
    (fun(gt0:Nat) t0=>[fh st.length,(9,cO st.length g15 bf.length),(10,nA st.length gt0 t0.length)])
    (fun gt0 t0=>((st++[none,O4 0 [],none,none,some (jN g15 bf),qb gt0 t0])))
    bm
    (fun A0 Y b0 h hx0=>?_) (fun gt0 t0 C8 st1 h H=>?_)
   ·unfold Hg at h;refine cd h ?_ ?_<;>intro K h
    ·refine rn ?_;refine L3 A0 h
      (fun J3 s2=>[fh st.length,(9,cO st.length g15 bf.length),(10,nA st.length J3 s2.1.length),(12,T Y.2),(13,T s2.2)])
      (fun J3 s2=>((st++[none,O4 0 [],none,none,some (jN g15 bf),qb J3 s2.1])))
      (fun(I3:Nat) t2=>[fh st.length,(9,cO st.length g15 bf.length),(10,nA st.length I3 t2.length),(12,T Y.2)])
      (fun I3 t2=>((st++[none,O4 0 [],none,none,some (jN g15 bf),qb I3 t2])))
      bm
      (fun J3 s2 b2 h V3=>?_) (fun I3 t2 C8 st1 h H=>?_)
     ·unfold Hf at h;refine B ?_;have⟨V,h⟩:=ck V h;have⟨V,h⟩:=ck V h;have fy:=S2 C6.cells s2.1 s2.2.toNat;have fy:=fm fy (s2.2.toNat<s2.1.length);have⟨V,h⟩:=ck V h;have⟨V,h⟩:=ck V h;have fy:=fa fy (S2 C6.cells s2.1 ((wr .i64 (s2.2-1)).toNat));have fy:=fm fy ((wr .i64 (s2.2-1)).toNat<s2.1.length);refine cG [] 0 ?_;refine cd h ?_ ?_<;>intro K h
      ·refine rn ?_;have⟨V,h⟩:=ck V h;have fy:=S2 C6.cells s2.1 ((wr .i64 (s2.2-1)).toNat);have fy:=fm fy ((wr .i64 (s2.2-1)).toNat<s2.1.length);have⟨V,h⟩:=ck V h;have fy:=fa fy (S2 C6.cells s2.1 s2.2.toNat);have fy:=fm fy (s2.2.toNat<s2.1.length);have fy:=fa fy (S2 C6.cells s2.1 s2.2.toNat);have fy:=fm fy (s2.2.toNat<s2.1.length);have⟨pW,Af,h⟩:=E1 h;have fy:=fa fy (qN C6.cells [T ((get s2.1 ((wr .i64 (s2.2-1)).toNat)).at_),T ((get s2.1 ((wr .i64 (s2.2-1)).toNat)).rule)] Af);have fy:=fa fy (show pW.length=s2.1.length from by simp[Af]);have fy:=fa fy (show(rows C6.cells pW).getD ((wr .i64 (s2.2-1)).toNat) []=C6.cells (get pW ((wr .i64 (s2.2-1)).toNat))from sq (E:=C6.cells) (l:=pW) (k:=(wr .i64 (s2.2-1)).toNat) (by first|omega|(simp;omega)|(rw[Af,List.length_set];omega)));have fy:=fm fy ((wr .i64 (s2.2-1)).toNat<s2.1.length);have⟨YL,i1C,h⟩:=E1 h;have fy:=fa fy (qN C6.cells [T ((get s2.1 s2.2.toNat).at_),T ((get s2.1 s2.2.toNat).rule)] i1C);refine cG [] 0 ?_;have p5b:D.ref false (st.length+5) J3 0 s2.1.length=D.ref false (st.length+5) J3 0 YL.length:=by simp[Af,i1C]
       try simp only[p5b]
       refine rn ?_;cases h;exact I7 J3 bm
      ·refine rn ?_;cases h;exact K7 J3 bm
     ·unfold Yq at h;refine D1 H ?_;refine rn ?_;cases h;exact I7 I3 bm
    ·refine rn ?_;cases h;exact K7 A0 bm
   ·unfold Yt at h;refine D1 H ?_;refine rn ?_;have⟨P7,Hl,h⟩:=D0 h;refine(p4N n _ _ _ Hl _ _ g15 B5 (P5.trans rfl)).mono ?_;rintro d1 st1 ⟨rfl,rfl⟩;refine cl h (p4Y n _) fun Nz h=>?_;refine rr ?_;exact fp (.E8 [K4 Nz,fW t0,.bool true])
theorem i6s n a0 I r(h:NI n a0 I=some r):L8 3 [U6 a0,K4 I] (.bool r):=by
 intro st;unfold NI at h;have V:=trivial;refine fb 118 [.tmp 4] [0,1,3,4,5,6,7,8,9,10,11,12,13,15,32,37,42,43,44,47,48,51,52,53,63,69,70,71,74,75,78,79,80,86,87,88,91,92,93,94,97,98,99,100,101,102,106,117] Tryz.func3 fun hsc=>?_;refine cl h (p3q n) fun v1 h=>?_;refine cd h ?_ ?_<;>intro K h
 ·exact rt
 ·refine cl h (i0w n _ _) fun v2 h=>?_;refine cl h (i0x n _ _) fun v3 h=>?_;refine cl h (p3R n _) fun v4 h=>?_;refine rn ?_;refine V4 (zM n v2 v3 a0 I) r (fun(bN:Unit) j0=>[(0,U6 a0),U1 st.length,iw st.length,(6,M5 st.length),(7,fW v3.1),(8,.ptr (st.length+3) 0 0 0),(9,jw st.length)]) (fun bN j0=>(st++[G3 I,G3 v2.1,some (.arr 0 2 0 [zP v2.2]),some (.arr 0 2 0 [zP v3.2]),Z4 j0.1 j0.2])) (fun bN j0 C8 st1 h H=>?_) (fun hj0=>?_)
  ·unfold zM at h;refine D1 H ?_;refine cd h ?_ ?_<;>intro K h
   ·refine rn ?_;have⟨v6,jk,h⟩:=D0 h;refine gi (fun hG=>(i0M n _ _ (cg jk (by simpa using hG)))) ?_;exact rt
   ·refine cl h (p4Z n _ _) fun v7 h=>?_;refine cd h ?_ ?_<;>intro K h
    ·refine rn ?_;have⟨v8,mV,h⟩:=D0 h;refine gi (fun hG=>(i0M n _ _ (cg mV (by simpa using hG)))) ?_;exact rt
    ·refine rn ?_;have⟨v9,qh,h⟩:=D0 h;refine gi (fun hG=>(Zj n _ _ _ (cg qh (by simpa using hG)))) ?_;refine cd h ?_ ?_<;>intro K h
     ·exact rt
     ·refine rn ?_;refine L3 () h
       (fun D8 s1=>[(7,fW v3.1),(11,fW v7.2.1),(13,T s1)])
       (fun D8 s1=>st)
       (fun(G1:Unit) t1=>[])
       (fun G1 t1=>st)
       uZ
       (fun D8 s1 b1 h U8=>?_) (fun G1 t1 C8 st1 h H=>?_)
      ·unfold Dx at h;refine cd h ?_ ?_<;>intro K h
       ·refine rn ?_;have⟨V,h⟩:=ck V h;have⟨V,h⟩:=ck V h;refine dw [] 0 ?_;refine cd h ?_ ?_<;>intro K h
        ·refine ra ?_;cases h;refine W0 ?_;have h:=congrArg some (U8 _ rfl);exact rt
        ·refine rn ?_;cases h;exact I7 () O7
       ·refine rn ?_;cases h;exact K7 () O7
      ·unfold NH at h;refine D1 H ?_;exact rt
  ·refine cd h ?_ ?_<;>intro K h
   ·refine cl h (Zl n _) fun v5 h=>?_;try simp only[go_sem,V]
    exact hj0 () _ _ _ h bm
   ·refine r0 ?_;exact hj0 () _ _ _ h bm
