import Derived.Test.YtchbmngmmdeenaaGreatDoorTMWalk1
set_option linter.unusedVariables false
set_option linter.unusedSimpArgs false
set_option maxHeartbeats 2000000
set_option maxRecDepth 100000
open List renaming map_cons->bv,map_nil->jn,length_append->aa,set_append_right->xN,replicate->be,getElem?_append_right->c8,append_nil->gf,append_assoc->bl
open Option.some renaming inj->dj
namespace Go.Proofs.YtchbmngmmdeenaaGreatDoor
open Go Go.Am
set_option maxHeartbeats 30000000 in
set_option maxRecDepth 100000 in
theorem p3c jM(Zg:∀I a2 B0 C7 m1 l2 r (h:jM I a2 B0 C7 m1 l2=some r),∀st o0 o1 o2 q2 (hnd: [o0,o1,o2].Nodup) (E7:Am.look st o0=some (.arr 0 4 0 (fX B0 o1 o2 (q2+l2.length) l2.length C7))) (L9:Am.look st o1=some (.mps false (L5 aY m1))) (T2:Am.look st o2=some (.arr (q2+l2.length) 2 16 (rows C6.cells l2))),U5 34 [B6 o0,K4 I,.str a2] st (fun d st'=>d=(zX r.1 r.2.1)/\st'=puts st (bC o0 B0 o1 o2 (q2+r.2.2.2.length) r.2.2.2.length r.2.2.1 m1 r.2.2.2))) n I a2 a3 B0 C7 m1 l2 r(h:GD jM n I a2 a3 B0 C7 m1 l2=some r):∀st o0 o1 o2 q2 (hnd: [o0,o1,o2].Nodup) (E7:Am.look st o0=some (.arr 0 4 0 (fX B0 o1 o2 (q2+l2.length) l2.length C7))) (L9:Am.look st o1=some (.mps false (L5 aY m1))) (T2:Am.look st o2=some (.arr (q2+l2.length) 2 16 (rows C6.cells l2))),U5 57 [B6 o0,.agg (Dz I),W6 a2,.str a3] st (fun d st'=>d=(zX r.1 r.2.1)/\st'=puts st (bC o0 B0 o1 o2 (q2+r.2.2.2.length) r.2.2.2.length r.2.2.1 m1 r.2.2.2)):=by
 intro st o0 o1 o2 q2 hnd E7 L9 T2;unfold GD at h;have N9:=E2 E7;have T5:=E2 L9;have V2:=E2 T2;have V:=fa (fa (fa (H7 N9) (H7 T5)) (H7 V2)) (qL hnd);refine fb 74 [.cell 8 78,.tmp 9] [0,1,2,3,4,5,6,7,8,9,10,11,12,13,14,16,17,18,19,35,36,37,38,57] Tryz.func57 fun hsc=>?_;refine ast (C2 st (bC o0 B0 o1 o2 (q2+l2.length) l2.length C7 m1 l2)) ?_;refine rn ?_;refine dw [6,7,10,11,15,16] 3 ?_;try refine⟨by first|omega|(simp<;>omega),?_⟩
 refine cl h (DN n _) fun v1 h=>?_;refine Q9 35 fun H6=>?_;refine O8 () V H6 h
  (fun A0 k0 Y=>[G4 st.length,iw st.length,(6,M5 st.length),jO st.length,(8,jw st.length),(10,.ptr (st.length+5) 0 0 0),(11,.ptr (st.length+6) 0 0 0),(12,.ptr (st.length+7) 0 0 0),(13,.ptr (st.length+8) 0 0 0),(14,.ptr (st.length+10) 0 0 0),(35,C0 v1),(36,T ↑v1.length),(37,T ↑k0)])
  (fun A0 k0 Y=>((C2 st (bC o0 B0 o1 o2 (q2+l2.length) l2.length Y.1 m1 l2))++[some (.arr 0 1 0 [[B6 o0]]),nr I,some (.arr 0 1 0 [[W6 a2]]),some (.arr 0 1 0 (I5 a3)),ju 0 [],some (eZ (I.from_.words.length:Int)),some (eZ (I.from_.A8.length:Int)),some (eZ (I.from_.parts.length:Int)),some (.arr 0 1 0 kJ),wZ Y.2,some (.arr 0 1 0 [[.mp (st.length+9)]])]))
  (fun gt0 t0=>[G4 st.length,iw st.length,(6,M5 st.length),jO st.length,(8,jw st.length),(10,.ptr (st.length+5) 0 0 0),(11,.ptr (st.length+6) 0 0 0),(12,.ptr (st.length+7) 0 0 0),(13,.ptr (st.length+8) 0 0 0),(14,.ptr (st.length+10) 0 0 0)])
  (fun gt0 t0=>((C2 st (bC o0 B0 o1 o2 (q2+l2.length) l2.length t0.1 m1 l2))++[some (.arr 0 1 0 [[B6 o0]]),nr I,some (.arr 0 1 0 [[W6 a2]]),some (.arr 0 1 0 (I5 a3)),ju 0 [],some (eZ (I.from_.words.length:Int)),some (eZ (I.from_.A8.length:Int)),some (eZ (I.from_.parts.length:Int)),some (.arr 0 1 0 kJ),wZ t0.2,some (.arr 0 1 0 [[.mp (st.length+9)]])]))
  bu
  (fun A0 k0 Y b0 V h hx0=>?_) (fun gt0 t0 C8 st1 h H=>?_)
 ·unfold Mt at h;refine ct ?_;refine rn ?_;have⟨V,h⟩:=ck V h;refine dw [] 0 ?_;have⟨zO,p3d,h⟩:=D0 h;refine aL (Zf _ _ _ p3d) ?_;have⟨jr,Ac,h⟩:=E1 h;have fy:=(show I4 (get v1 k0) [.str zO] (L5 B2 Y.2)=L5 B2 jr from by rw[Ac];exact qG (κ:=J) (E:=B2) (get v1 k0) zO Y.2);try simp only[go_sem,V,fy]
  refine cd h ?_ ?_<;>intro K h
  ·refine B ?_;refine dw [0,3] 0 ?_;have⟨cK,tC,h⟩:=D0 h;refine K0 [o0,o1,o2] (fun st2 X=>(Zb _ _ _ _ _ tC st2 _ _ _ (q2+l2.length) hnd (T6 X) (T6 X) (T6 X))) ?_;have⟨YD,p3e,h⟩:=E1 h;have fy:=(show I4 (get v1 k0) [.str cK.1] (L5 B2 jr)=L5 B2 YD from by rw[p3e];exact qG (κ:=J) (E:=B2) (get v1 k0) cK.1 jr);try simp only[go_sem,V,fy]
   try refine⟨by first|omega|(simp<;>omega),?_⟩
   refine rn ?_;cases h;exact L6 () bu
  ·refine rn ?_;cases h;exact L6 () bu
 ·unfold WG at h;refine D1 H ?_;refine rn ?_;have⟨S0,Ae,h⟩:=D0 h;refine(p2L n _ _ Ae _).mono ?_;rintro d1 st1 ⟨rfl,rfl⟩;refine rn ?_;have⟨v20,p3f,h⟩:=D0 h;refine RL ((p2M jM Zg n _ _ _ _ _ _ _ _ _ _ _ _ _ _ _ _ _ _ _ _ _ _ _ _ _ _ p3f _ (st.length+1) (st.length+15) (st.length+14) (st.length+2) (st.length+5) (st.length+6) (st.length+7) st.length o0 o1 o2 (st.length+3) (st.length+13) (st.length+12) (st.length+10) (st.length+9) (st.length+8) (st.length+16) q2 (by simp[V]<;>omega) (aN.trans rfl) (aN.trans rfl) (aN.trans rfl) (aN.trans rfl) (aN.trans rfl) (aN.trans rfl) (aN.trans rfl) (Rm.trans rfl) sg sg sg (aN.trans rfl) (aN.trans rfl) (aN.trans rfl) (aN.trans rfl) (aN.trans rfl) (aN.trans rfl) (aN.trans rfl)).up (.cons _ _ _ _ .s (.cons _ _ _ _ (.A9 _ _ _ D5) (.cons _ _ _ _ .s (.cons _ _ _ _ .s (.cons _ _ _ _ .s (.cons _ _ _ _ .s (.cons _ _ _ _ .s (.cons _ _ _ _ .s (.cons _ _ _ _ .s (.cons _ _ _ _ .s (.cons _ _ _ _ .s (.cons _ _ _ _ .s (.cons _ _ _ _ .s (.cons _ _ _ _ .s .nil)))))))))))))) (by simp<;>omega)) ?_;refine rr ?_;exact aO (zX v20.1 v20.2.1)
theorem p3g:∀n I a2 B0 C7 m1 l2 r (h:sZ n I a2 B0 C7 m1 l2=some r),∀st o0 o1 o2 q2 (hnd: [o0,o1,o2].Nodup) (E7:Am.look st o0=some (.arr 0 4 0 (fX B0 o1 o2 (q2+l2.length) l2.length C7))) (L9:Am.look st o1=some (.mps false (L5 aY m1))) (T2:Am.look st o2=some (.arr (q2+l2.length) 2 16 (rows C6.cells l2))),U5 34 [B6 o0,K4 I,.str a2] st (fun d st'=>d=(zX r.1 r.2.1)/\st'=puts st (bC o0 B0 o1 o2 (q2+r.2.2.2.length) r.2.2.2.length r.2.2.1 m1 r.2.2.2)):=by
 intro n;induction n with
 |zero=>intro I a2 B0 C7 m1 l2 r h;cases h
 |succ n ih=>
  intro I a2 B0 C7 m1 l2 r h st o0 o1 o2 q2 hnd E7 L9 T2;unfold sZ at h;have N9:=E2 E7;have T5:=E2 L9;have V2:=E2 T2;have V:=fa (fa (fa (H7 N9) (H7 T5)) (H7 V2)) (qL hnd);refine fb 116 [.cell 6 78,.tmp 7] [0,1,2,4,6,7,8,9,10,11,12,13,14,15,16,17,18,22,23,24,25,37,72,73,74,75,90] Tryz.func34 fun hsc=>?_;refine ast (C2 st (bC o0 B0 o1 o2 (q2+l2.length) l2.length C7 m1 l2)) ?_;refine Q9 22 fun H6=>?_;refine O8 () V H6 h
   (fun A0 k0 Y=>[(0,B6 o0),(2,.str a2),G4 st.length,P3 st.length,(22,U6 B0),(23,T ↑B0.length),(24,T ↑k0)])
   (fun A0 k0 Y=>((C2 st (bC o0 B0 o1 o2 (q2+l2.length) l2.length C7 m1 l2))++[G3 I,ju 0 []]))
   (fun gt0 t0=>[(0,B6 o0),(2,.str a2),G4 st.length,P3 st.length])
   (fun gt0 t0=>((C2 st (bC o0 B0 o1 o2 (q2+l2.length) l2.length C7 m1 l2))++[G3 I,ju 0 []]))
   bu
   (fun A0 k0 Y b0 V h hx0=>?_) (fun gt0 t0 C8 st1 h H=>?_)
  ·unfold WJ at h;refine ct ?_;refine cl h (p2J n _ _) fun v1 h=>?_;refine cd h ?_ ?_<;>intro K h
   ·refine rn ?_;cases h;exact L6 () bu
   ·refine rn ?_;have⟨c3,mT,h⟩:=E1 h;have fy:=J1 C6.cells [[T ((assoc a2 m1).getD default),T ↑k0]] mT;have fy:=fl fy mT;have⟨V,h⟩:=ck V h;have fy:=fa fy (show q2+l2.length+1=q2+c3.length from by rw[mT];simp;omega);refine cG [] 2 ?_;refine rn ?_;have⟨v9,qh,h⟩:=D0 h;refine(p3c (sZ n) ih n _ _ _ _ _ _ _ _ qh _ _ _ _ q2 hnd sg sg sg).mono ?_;rintro d1 st1 ⟨rfl,rfl⟩;refine ra ?_;cases h;refine aM ?_;have h:=congrArg some (hx0 _ rfl);refine rr ?_;exact aO (zX v9.1 v9.2.1)
  ·unfold WK at h;refine D1 H ?_;refine r0 ?_;refine r0 ?_;refine r0 ?_;(repeat apply I6)
   refine S9 6 88 ?_;refine S9 4 72 ?_;refine V5 ?_;refine Q0 [(0,B6 o0),(2,.str a2),P3 st.length,(12,M5 st.length),(13,W9 st.length 0 0),(72,J9 I.subs),(73,T ↑I.subs.length),(74,T 0)] ((C2 st (bC o0 B0 o1 o2 (q2+l2.length) l2.length C7 m1 l2))++[G3 I,ju 0 [],DJ (T I.kind) I.name (C0 I.words) (cO st.length 0 0) (T 0),some (.arr 0 6 88 (rows K1.cells [])),kG []]) bu ?_;refine Q9 72 fun aR=>?_;refine rng
    (fun(D8:kf)(k1:Nat)(s1:Kp)=>[(0,B6 o0),(2,.str a2),P3 st.length,(12,M5 st.length),(13,W9 st.length D8.1 s1.2.2.1.length),(72,J9 I.subs),(73,T ↑I.subs.length),(74,T ↑k1)])
    (fun D8 k1 s1=>((C2 st (bC o0 B0 o1 o2 (q2+s1.2.1.length) s1.2.1.length s1.1 m1 s1.2.1))++[none,ju 0 [],DJ (T I.kind) I.name (C0 I.words) (cO st.length D8.2 s1.2.2.2.length) (T 0),some (.arr D8.1 6 88 (rows K1.cells s1.2.2.1)),eC D8.2 s1.2.2.2]))
    (fun(G1:kf)(t1:Kp)=>[P3 st.length,(12,M5 st.length),(13,W9 st.length G1.1 t1.2.2.1.length)])
    (fun G1 t1=>((C2 st (bC o0 B0 o1 o2 (q2+t1.2.1.length) t1.2.1.length t1.1 m1 t1.2.1))++[none,ju 0 [],DJ (T I.kind) I.name (C0 I.words) (cO st.length G1.2 t1.2.2.2.length) (T 0),some (.arr G1.1 6 88 (rows K1.cells t1.2.2.1)),eC G1.2 t1.2.2.2]))
    (0,0) V aR h bu
    (fun D8 k1 s1 b1 V h U8=>?_) (fun D8 s1=>?_) (fun G1 t1 C8 st1 h H=>?_)
   ·unfold WL at h;refine ct ?_;refine rn ?_;refine dw [6] 1 ?_;have⟨v25,Zh,h⟩:=D0 h;refine aL (EV _ _ Zh) ?_;have⟨V,h⟩:=ck V h;try simp only[go_sem,V]
    have⟨dc,p3h,h⟩:=D0 h;refine K0 [o0,o1,o2] (fun st2 X=>(ih _ _ _ _ _ _ _ p3h st2 _ _ _ q2 hnd (T6 X) (T6 X) (T6 X))) ?_;try simp only[go_sem,V]
    try refine⟨by first|omega|(simp<;>omega),?_⟩
    refine cd h ?_ ?_<;>intro K h
    ·refine ra ?_;cases h;refine aM ?_;have h:=congrArg some (U8 _ rfl);refine rr ?_;exact aO (.E8 [.agg (tW 0 [] [] [] 0 0),.bool false])
    ·refine r0 ?_;have⟨NS,i0t,h⟩:=E1 h;have fy:=J1 K1.cells [YM dc.1] i0t;have fy:=fl fy i0t;have⟨V,h⟩:=ck V h;refine r1 ?_;have⟨tQ,Ic,h⟩:=E1 h;have fy:=J1 O.cells (gM dc.1.form) Ic;have fy:=fl fy Ic;have⟨V,h⟩:=ck V h;refine r1 ?_;refine rn ?_;cases h;exact L6 ((D8.1+1),(D8.2+1)) bu
   ·refine cf ?_;refine EM ?_;exact⟨(D8.1,D8.2),bu⟩
   ·unfold WM at h;refine D1 H ?_;refine rn ?_;have⟨v40,p3i,h⟩:=D0 h;refine((i0d _ _ p3i).borrow (args:=[W9 st.length G1.1 t1.2.2.1.length]) (.cons _ _ _ _ (.ref _ _ _ _ _ _ _ _ _ (lq.trans rfl) EH D5 (br _) (by simp only[go_sem])) .nil) B5 rfl ) ?_;refine rr ?_;exact aO (.E8 [.agg (tW I.kind I.name I.words t1.2.2.2 v40.1 v40.2.1),.bool v40.2.2])
theorem p3j{l r:(F7)}(h:CZ l=some r):r.length=l.length:=by unfold CZ at h;obtain⟨_,h⟩:=oT h;obtain rfl:=dj h;exact(oV _ _).length_eq
theorem p3k l0 r(h:CZ l0=some r):∀st o0 q0 (hnd: [o0].Nodup) (E7:Am.look st o0=some (.arr q0 2 16 (rows C6.cells l0))),U5 35 [I0 o0 q0 l0.length,.fn 36 [] []] st (fun d st'=>d= .E8 []/\st'=puts st [(o0,.arr q0 2 16 (rows C6.cells r))]):=by intro st o0 q0 hnd E7;unfold CZ at h;obtain⟨hl,h⟩:=oT h;obtain rfl:=dj h;exact p1C rfl (by kernel_rfl) (fun x y=>p1L x y _ rfl) E7 hl
theorem p3l n B0 I9 r(h:FM n B0 I9=some r):∀st o0 o1 (hnd: [o0,o1].Nodup) (E7:Am.look st o0=some (.arr 0 1 0 (U2 B0))) (L9:Am.look st o1=some (.arr 0 1 0 [[C0 I9]])),U5 103 [B6 o0,B6 o1] st (fun d st'=>d= .str r.1/\st'=puts st [(o0,eZ r.2),(o1,fV I9)]):=by
 intro st o0 o1 hnd E7 L9;unfold FM at h;have N9:=E2 E7;have T5:=E2 L9;have V:=fa (fa (H7 N9) (H7 T5)) (Bl hnd);refine fb 14 [.tmp 2] [0,1,2,3,12] Tryz.func103 fun hsc=>?_;refine ast (ny st o0 B0 o1 I9) ?_;refine rn ?_;refine L3 () h
  (fun A0 Y=>[(0,B6 o0),Y3 o1])
  (fun A0 Y=>(ny st o0 Y o1 I9))
  (fun(gt0:Unit) t0=>[])
  (fun gt0 t0=>(ny st o0 B0 o1 I9))
  jE
  (fun A0 Y b0 h hx0=>?_) (fun gt0 t0 C8 st1 h H=>?_)
 ·unfold Lg at h;refine cl h (EV _) fun v4 h=>?_;have⟨V,h⟩:=ck V h;refine cl h (gO _ _) fun v6 h=>?_;refine cd h ?_ ?_<;>intro K h
  ·refine ra ?_;cases h;refine W0 ?_;have h:=congrArg some (hx0 _ rfl);refine rr ?_;exact vo (.str (O1 [118] v4))
  ·refine rn ?_;cases h;exact I7 () jE
 ·try simp only[go_sem,V]
  unfold d8M at h;cases h
theorem p3m:∀n a0 I B0 I9 r (h:wu n a0 I B0 I9=some r),∀st o0 o1 (hnd: [o0,o1].Nodup) (E7:Am.look st o0=some (.arr 0 1 0 (U2 B0))) (L9:Am.look st o1=some (.arr 0 1 0 [[C0 I9]])),U5 104 [K4 a0,jv I,.fn 103 [] [B6 o0,B6 o1]] st (fun d st'=>d=(K4 r.1)/\st'=puts st [(o0,eZ r.2),(o1,fV I9)]):=by
 intro n;induction n with
 |zero=>intro a0 I B0 I9 r h;cases h
 |succ n ih=>
  intro a0 I B0 I9 r h st o0 o1 hnd E7 L9;unfold wu at h;have N9:=E2 E7;have T5:=E2 L9;have V:=fa (fa (H7 N9) (H7 T5)) (Bl hnd);refine fb 87 [.cell 6 26] [0,1,2,3,6,7,9,10,12,19,20,21,22,29,38,52,70,71,72,73] Tryz.func104 fun hsc=>?_;refine ast (ny st o0 B0 o1 I9) ?_;refine r0 ?_;refine r0 ?_;refine r0 ?_;(repeat apply I6)
  refine S9 1 16 ?_;refine V5 ?_;refine Q0 [(1,jv I),wY o0 o1,U1 st.length,P3 st.length,U9 st.length,(19,C0 a0.words),(20,T ↑a0.words.length),(21,T 0)] ((ny st o0 B0 o1 I9)++(wX a0 0 [] a0.kind a0.name st.length 0 [])) bu ?_;refine Q9 19 fun H6=>?_;refine O8 0 V H6 h
   (fun A0 k0 Y=>[(1,jv I),wY o0 o1,U1 st.length,P3 st.length,U9 st.length,(19,C0 a0.words),(20,T ↑a0.words.length),(21,T ↑k0)])
   (fun A0 k0 Y=>((ny st o0 B0 o1 I9)++(aS a0 0 [] a0.kind a0.name st.length A0 Y.length Y)))
   (fun gt0 t0=>[(1,jv I),wY o0 o1,U1 st.length,P3 st.length,U9 st.length])
   (fun gt0 t0=>((ny st o0 B0 o1 I9)++(aS a0 0 [] a0.kind a0.name st.length gt0 t0.length t0)))
   bu
   (fun A0 k0 Y b0 V h hx0=>?_) (fun gt0 t0 C8 st1 h H=>?_)
  ·unfold UO at h;refine ct ?_;refine rn ?_;refine L3 () h
    (fun J3 s2=>[(1,jv I),wY o0 o1,U1 st.length,P3 st.length,U9 st.length,(9,.str (get a0.words k0)),(10,T s2),(19,C0 a0.words),(20,T ↑a0.words.length),(21,T ↑k0)])
    (fun J3 s2=>((ny st o0 B0 o1 I9)++(aS a0 0 [] a0.kind a0.name st.length A0 Y.length Y)))
    (fun(I3:Unit) t2=>[(1,jv I),wY o0 o1,U1 st.length,P3 st.length,U9 st.length,(9,.str t2),(19,C0 a0.words),(20,T ↑a0.words.length),(21,T ↑k0)])
    (fun I3 t2=>((ny st o0 B0 o1 I9)++(aS a0 0 [] a0.kind a0.name st.length A0 Y.length Y)))
    bu
    (fun J3 s2 b2 h V3=>?_) (fun I3 t2 C8 st1 h H=>?_)
   ·unfold LH at h;refine cd h ?_ ?_<;>intro K h
    ·have⟨V,h⟩:=ck V h;refine cd h ?_ ?_<;>intro K h
     ·refine rn ?_;cases h;exact K7 () bu
     ·refine rn ?_;cases h;exact I7 () bu
    ·refine rn ?_;cases h;exact K7 () bu
   ·unfold UP at h;refine D1 H ?_;have⟨NT,i0u,h⟩:=E1 h;have fy:=J1 B2 (I5 t2) i0u;have fy:=fl fy i0u;have⟨V,h⟩:=ck V h;refine r1 ?_;refine rn ?_;cases h;exact L6 (A0+1) bu
  ·unfold UW at h;refine D1 H ?_;refine cl h (qd _) fun v21 h=>?_;refine rn ?_;refine V4 (Cw (wu n) a0 I9 t0) r (fun(jy:Unit) j3=>[(1,jv j3.2.2),wY o0 o1,U1 st.length,P3 st.length,U9 st.length]) (fun jy j3=>((ny st o0 j3.1 o1 I9)++(aS a0 0 [] a0.kind j3.2.1 st.length gt0 t0.length t0))) (fun jy j3 C8 st1 h H=>?_) (fun hj3=>?_)
   ·unfold Cw at h;refine D1 H ?_;refine r0 ?_;(repeat apply I6)
    refine S9 4 72 ?_;refine V5 ?_;refine Q0 [(1,jv j3.2.2),wY o0 o1,P3 st.length,U9 st.length,(70,J9 a0.subs),(71,T ↑a0.subs.length),(72,T 0)] ((ny st o0 j3.1 o1 I9)++[G3 a0,O4 0 [],wU a0.kind j3.2.1 st.length gt0 t0.length 0 0,J2 gt0 t0,kG []]) bu ?_;refine Q9 70 fun Fl=>?_;refine O8 0 V Fl h
     (fun Y4 k4 s4=>[(1,jv j3.2.2),wY o0 o1,P3 st.length,U9 st.length,(70,J9 a0.subs),(71,T ↑a0.subs.length),(72,T ↑k4)])
     (fun Y4 k4 s4=>((ny st o0 s4.1 o1 I9)++(xq 0 [] a0.kind j3.2.1 st.length gt0 t0.length Y4 s4.2.length t0 s4.2)))
     (fun aH t4=>(zY st.length))
     (fun aH t4=>((ny st o0 t4.1 o1 I9)++(xq 0 [] a0.kind j3.2.1 st.length gt0 t0.length aH t4.2.length t0 t4.2)))
     bu
     (fun Y4 k4 s4 b4 V h xE=>?_) (fun aH t4 C8 st1 h H=>?_)
    ·unfold UR at h;refine ct ?_;refine rn ?_;refine dw [1,5] 2 ?_;have⟨kq,Fy,h⟩:=D0 h;refine K0 [o0,o1] (fun st2 X=>(ih _ _ _ _ _ Fy st2 _ _ hnd (T6 X) (T6 X))) ?_;have⟨tM,HW,h⟩:=E1 h;have fy:=J1 O.cells (gM kq.1) HW;have fy:=fl fy HW;have⟨V,h⟩:=ck V h;try simp only[go_sem,V,fy]
     try refine⟨by first|omega|(simp<;>omega),?_⟩
     refine rn ?_;cases h;exact L6 (Y4+1) bu
    ·unfold UU at h;refine D1 H ?_;refine rr ?_;exact aO (gL a0.kind j3.2.1 t0 t4.2)
   ·refine cd h ?_ ?_<;>intro K h
    ·refine rn ?_;have⟨v22,Zi,h⟩:=D0 h;refine(p3l n _ _ _ Zi _ _ _ hnd sg sg).mono ?_;rintro d1 st1 ⟨rfl,rfl⟩;refine rn ?_;have⟨V,h⟩:=ck V h;have⟨tL,HV,h⟩:=E1 h;have fy:=J1 gq.cells [[.str a0.name,.str v22.1]] HV;have fy:=fl fy HV;have⟨V,h⟩:=ck V h;refine cG [] 2 ?_;refine hj3 () _ _ _ h ?_;exact(bu (hf:=⟨.ref _ _ _ _ _ _ _ _ _ (lq.trans rfl) (qK (by first|decide|simp)) D5 (br _) (by simp only[go_sem]),.s,.s,.s,.s,trivial⟩))
    ·refine r0 ?_;exact hj3 () _ _ _ h bu
theorem p3n n a0 I r(h:LI n a0 I=some r):L8 61 [K4 a0,jv I] (K4 r):=by
 intro st;unfold LI at h;have V:=trivial;refine fb 43 [.cell 4 26] [0,1,2,4,5,7,8,9,10,11,14,15,16,17,20,21,22,23,30] Tryz.func61 fun hsc=>?_;refine cl h (d9T n _) fun v1 h=>?_;refine Q9 1 fun H6=>?_;refine O8 () V H6 h
  (fun A0 k0 Y=>[(1,jv I),(2,B6 st.length),fh st.length,(5,M5 st.length),(14,jv I),(15,T ↑I.length),(16,T ↑k0)])
  (fun A0 k0 Y=>(st++[G3 a0,O4 0 [],some (fV v1)]))
  (fun gt0 t0=>[(1,jv I),(2,B6 st.length),fh st.length,(5,M5 st.length)])
  (fun gt0 t0=>(st++[G3 a0,O4 0 [],some (fV v1)]))
  bm
  (fun A0 k0 Y b0 V h hx0=>?_) (fun gt0 t0 C8 st1 h H=>?_)
 ·unfold d8P at h;refine ct ?_;refine Q9 20 fun aR=>?_;refine O8 () V aR h
   (fun D8 k1 s1=>[(1,jv I),(2,B6 st.length),fh st.length,(5,M5 st.length),jO st.length,(14,jv I),(15,T ↑I.length),(16,T ↑k0),(20,C0 v1),(21,T ↑v1.length),(22,T ↑k1)])
   (fun D8 k1 s1=>(st++[G3 a0,O4 0 [],some (fV v1),some (.arr 0 2 0 [[.str ((get I k0).from_),.str ((get I k0).B4)]])]))
   (fun G1 t1=>[(1,jv I),(2,B6 st.length),fh st.length,(5,M5 st.length),(14,jv I),(15,T ↑I.length),(16,T ↑k0)])
   (fun G1 t1=>(st++[G3 a0,O4 0 [],some (fV v1)]))
   bm
   (fun D8 k1 s1 b1 V h U8=>?_) (fun G1 t1 C8 st1 h H=>?_)
  ·unfold d8N at h;refine ct ?_;refine cd h ?_ ?_<;>intro K h
   ·cases h
   ·refine rn ?_;cases h;exact L6 () bm
  ·unfold d8O at h;refine D1 H ?_;refine rn ?_;cases h;exact L6 () bm
 ·unfold UY at h;refine D1 H ?_;refine rn ?_;have⟨v2,hv2,h⟩:=D0 h;refine(p3m n _ _ _ _ _ hv2 _ _ _ B5 (P5.trans rfl) (P5.trans rfl)).mono ?_;rintro d1 st1 ⟨rfl,rfl⟩;exact rt
theorem p3o n a0 r(h:FX n a0=some r):L8 37 [K4 a0] (K4 r):=by intro st;unfold FX at h;have V:=trivial;refine fb 5 [.cell 2 26] [0,1,2] Tryz.func37 fun hsc=>?_;refine cl h (up (p3n n _ _) (fun _=>(.cons _ _ _ _ .s (.cons _ _ _ _ (.A9 _ _ _ D5) .nil)))) fun v1 h=>?_;exact rt
theorem i0v n a0 I r(h:zA n a0 I=some r):L8 15 [U6 a0,K4 I] (.E8 [K4 r.1,fW r.2.1,.bool r.2.2]):=by
 intro st;unfold zA at h;have V:=trivial;refine fb 42 [.cell 4 26,.tmp 5,.tmp 6] [0,1,3,4,5,6,7,8,9,10,28] Tryz.func15 fun hsc=>?_;refine r0 ?_;refine r0 ?_;(repeat apply I6)
 refine S9 2 16 ?_;refine V5 ?_;refine Q0 [U1 st.length,fh st.length,jO st.length] (st++[G3 I,O4 0 [],some (.mps false (L5 aY [])),some (.arr 0 4 0 [[U6 a0,.mp (st.length+2),cO st.length 0 0,T 0]]),some (.arr 0 2 16 (rows C6.cells []))]) bm ?_;refine rn ?_;have⟨v1,hv1,h⟩:=D0 h;refine(p2w n _ _ _ _ _ _ hv1 _ _ _ _ 0 B5 (P5.trans rfl) (P5.trans rfl) (P5.trans rfl)).mono ?_;rintro d1 st1 ⟨rfl,rfl⟩;refine rn ?_;have⟨v2,hv2,h⟩:=D0 h;refine(p2y n _ _ _ _ _ _ _ hv2 _ _ _ _ 0 B5 (P5.trans rfl) (P5.trans rfl) (P5.trans rfl)).mono ?_;rintro d1 st1 ⟨rfl,rfl⟩;refine rn ?_;have⟨v3,W4,h⟩:=D0 h;refine(p3g n _ _ _ _ _ _ _ W4 _ _ _ _ 0 B5 (P5.trans rfl) (P5.trans rfl) (P5.trans rfl)).mono ?_;rintro d1 st1 ⟨rfl,rfl⟩;refine cd h ?_ ?_<;>intro K h
 ·refine rr ?_;exact fp (.E8 [gL 0 [] [] [],fW [],.bool false])
 ·refine rn ?_;have⟨v4,fF,h⟩:=D0 h;refine(p3k _ _ fF _ _ v3.2.2.2.length B5 (P5.trans rfl)).mono ?_;rintro d1 st1 ⟨rfl,rfl⟩;try simp only[go_sem,V]
  have e5:D.ref false (st.length+4) v3.2.2.2.length 0 v3.2.2.2.length=D.ref false (st.length+4) v3.2.2.2.length 0 v4.length:=by rw[p3j fF]
  try simp only[e5]
  refine B ?_;refine dw [6,7] 0 ?_;have⟨v6,jk,h⟩:=D0 h;refine aL (p3o n _ _ jk) ?_;try simp only[go_sem,V]
  try refine⟨by first|omega|(simp<;>omega),?_⟩
  refine rr ?_;exact fp (.E8 [K4 v6,fW v4,.bool true])
theorem i0w n a0 I r(h:Dv n a0 I=some r):L8 5 [U6 a0,K4 I] (.E8 [K4 r.1,cP r.2]):=by
 intro st;unfold Dv at h;have V:=trivial;refine fb 31 [.cell 4 26,.cell 5 29] [0,1,3,4,5,6,7,9,15,26] Tryz.func5 fun hsc=>?_;refine cl h (d9Y n _ _) fun v1 h=>?_;refine cd h ?_ ?_<;>intro K h
 ·refine B ?_;refine dw [1,2] 0 ?_;try refine⟨by first|omega|(simp<;>omega),?_⟩
  refine rr ?_;exact fp (.E8 [gL 0 [] [] [],cP v1])
 ·refine cl h (i0v n _ _) fun v2 h=>?_;refine cd h ?_ ?_<;>intro K h
  ·refine cl h (xu _ _) fun v3 h=>?_;refine rr ?_;exact fp (.E8 [gL 0 [] [] [],cP v3])
  ·exact rt
theorem i0x n a0 I r(h:Dw n a0 I=some r):L8 6 [U6 a0,K4 I] (.E8 [fW r.1,cP r.2]):=by
 intro st;unfold Dw at h;have V:=trivial;refine fb 29 [.tmp 4,.cell 5 29] [0,1,3,4,5,6,8,9,15,25] Tryz.func6 fun hsc=>?_;refine cl h (d9Y n _ _) fun v1 h=>?_;refine cd h ?_ ?_<;>intro K h
 ·refine B ?_;refine dw [] 0 ?_;refine rr ?_;exact fp (.E8 [fW [],cP v1])
 ·refine cl h (i0v n _ _) fun v2 h=>?_;refine cd h ?_ ?_<;>intro K h
  ·refine cl h (xu _ _) fun v3 h=>?_;refine rr ?_;exact fp (.E8 [fW [],cP v3])
  ·exact rt
theorem p3p n a0 I r(h:FT n a0 I=some r):L8 29 [C0 a0,C0 I] (.bool r):=by
 intro st;unfold FT at h;have V:=trivial;refine fb 26 [.tmp 4] [0,1,4,5,10,14,25] Tryz.func29 fun hsc=>?_;refine cd h ?_ ?_<;>intro K h
 ·exact rt
 ·refine rn ?_;refine L3 () h
   (fun A0 Y=>[(0,C0 a0),W7 I,cR Y])
   (fun A0 Y=>st)
   (fun(gt0:Unit) t0=>[])
   (fun gt0 t0=>st)
   O7
   (fun A0 Y b0 h hx0=>?_) (fun gt0 t0 C8 st1 h H=>?_)
  ·unfold Lq at h;refine cd h ?_ ?_<;>intro K h
   ·refine rn ?_;have⟨V,h⟩:=ck V h;have⟨V,h⟩:=ck V h;refine dw [] 0 ?_;refine cd h ?_ ?_<;>intro K h
    ·refine ra ?_;cases h;refine W0 ?_;have h:=congrArg some (hx0 _ rfl);exact rt
    ·refine rn ?_;cases h;exact I7 () O7
   ·refine rn ?_;cases h;exact K7 () O7
  ·unfold d8Q at h;refine D1 H ?_;exact rt
theorem Zj:∀n a0 I r (h:wj n a0 I=some r),L8 11 [K4 a0,K4 I] (.bool r):=by
 intro n;induction n with
 |zero=>intro a0 I r h;cases h
 |succ n ih=>
  intro a0 I r h st;unfold wj at h;have V:=trivial;refine fb 54 [.tmp 4] [0,1,2,3,4,5,12,13,14,15,16,19,20,21,22,23,24,27,28,29,30,31,32,33,34,39,53] Tryz.func11 fun hsc=>?_;refine rn ?_;have⟨v1,hv1,h⟩:=D0 h;refine gi (fun hG=>(p3p n _ _ _ (cg hv1 (by simpa using hG)))) ?_;refine cd h ?_ ?_<;>intro K h
  ·exact rt
  ·refine rn ?_;refine L3 () h
    (fun A0 Y=>[(2,B6 st.length),(3,Z2 st.length),cR Y])
    (fun A0 Y=>(st++[G3 a0,G3 I]))
    (fun(gt0:Unit) t0=>[])
    (fun gt0 t0=>st)
    bm
    (fun A0 Y b0 h hx0=>?_) (fun gt0 t0 C8 st1 h H=>?_)
   ·unfold Lr at h;refine cd h ?_ ?_<;>intro K h
    ·refine rn ?_;have⟨V,h⟩:=ck V h;have⟨V,h⟩:=ck V h;refine dw [] 0 ?_;have⟨v8,mV,h⟩:=D0 h;refine aL (ih _ _ _ mV) ?_;try simp only[go_sem,V]
     refine cd h ?_ ?_<;>intro K h
     ·refine ra ?_;cases h;refine W0 ?_;have h:=congrArg some (hx0 _ rfl);exact rt
     ·refine rn ?_;cases h;exact I7 () bm
    ·refine rn ?_;cases h;exact K7 () uZ
   ·unfold d8R at h;refine D1 H ?_;exact rt
theorem p3q n r(h:FY n=some r):L8 4 [] (.bool r):=by
 intro st;unfold FY at h;have V:=trivial;refine fb 68 [.tmp 0] [0,1,2,3,4,5,6,7,47,48,49,52,53,54,57,58,59,62,63,64,65,66] Tryz.func4 fun hsc=>?_;refine cl h (DL _ _) fun v2 h=>?_;refine cl h (DL _ _) fun v5 h=>?_;refine cl h (DL _ _) fun v7 h=>?_;refine cl h (d9R _ _ _) fun v8 h=>?_;refine cl h (DL _ _) fun v10 h=>?_;try simp only[go_sem,V]
 (repeat apply I6)
 refine Q0 [Y3 st.length,(2,M5 st.length)] (st++[some (.arr 0 11 0 [[T v2.kind,.str v2.name,C0 v2.words,J9 v2.subs,.sl false 1 16 (I5 [120]),.A9,.A9,T v8.kind,.str v8.name,C0 v8.words,J9 v8.subs]]),some (.arr 0 4 72 (rows O.cells [v10])),some (.arr 0 4 0 [[T 9,.str [121],.A9,.ref true (st.length+1) 0 0 1]])]) (uW hsc (.lv (.live _ _ _ _ (by simp only[go_sem,rows,bv,jn];exact .same _) (.lv (.nil _)))) B5 ⟨.s,.s,trivial⟩ B5) ?_;(repeat apply I6)
 refine Q0 [Y3 st.length,(2,M5 st.length)] (st++[some (.arr 0 11 0 [[T v2.kind,.str v2.name,C0 v2.words,J9 v2.subs,.sl false 1 16 (I5 [120]),.A9,.A9,T v8.kind,.str v8.name,C0 v8.words,J9 v8.subs]]),none,some (.arr 0 4 0 [dM 9 [121] [v10]])]) (uW hsc (.lv (.dead _ _ _ (.live _ _ _ _ (.arr _ _ _ _ _ (.cons _ _ _ _ (.cons _ _ _ _ .s (.cons _ _ _ _ .s (.cons _ _ _ _ .s (.cons _ _ _ _ (.ref _ _ _ _ _ _ _ _ _ (je.trans rfl) (P5.trans rfl) D5 (br _) (by simp only[go_sem])) .nil)))) (.same _))) (.nil _)))) B5 ⟨.s,.s,trivial⟩ B5) ?_;refine cl h (DL _ _) fun zO h=>?_;refine cl h (DL _ _) fun tJ h=>?_;refine cl h (d9R _ _ _) fun cK h=>?_;try simp only[go_sem,V]
 (repeat apply I6)
 refine Q0 [Y3 st.length,(2,M5 st.length),(3,jw st.length)] (st++[some (.arr 0 11 0 [[T v2.kind,.str v2.name,C0 v2.words,J9 v2.subs,.sl false 1 16 (I5 [120]),.A9,.A9,T v8.kind,.str v8.name,C0 v8.words,J9 v8.subs]]),none,some (.arr 0 4 0 [dM 9 [121] [v10]]),some (.arr 0 4 72 (rows O.cells [cK])),some (.arr 0 4 0 [[T 9,.str [118,48],.A9,.ref true (st.length+3) 0 0 1]])]) (uW hsc (.lv (.dead _ _ _ (.lv (.live _ _ _ _ (by simp only[go_sem,rows,bv,jn];exact .same _) (.lv (.nil _)))))) B5 ⟨.s,.s,.s,trivial⟩ B5) ?_;(repeat apply I6)
 refine Q0 [Y3 st.length,(2,M5 st.length),(3,jw st.length)] (st++[some (.arr 0 11 0 [[T v2.kind,.str v2.name,C0 v2.words,J9 v2.subs,.sl false 1 16 (I5 [120]),.A9,.A9,T v8.kind,.str v8.name,C0 v8.words,J9 v8.subs]]),none,some (.arr 0 4 0 [dM 9 [121] [v10]]),none,some (.arr 0 4 0 [dM 9 [118,48] [cK]])]) (uW hsc (.lv (.dead _ _ _ (.lv (.dead _ _ _ (.live _ _ _ _ (.arr _ _ _ _ _ (.cons _ _ _ _ (.cons _ _ _ _ .s (.cons _ _ _ _ .s (.cons _ _ _ _ .s (.cons _ _ _ _ (.ref _ _ _ _ _ _ _ _ _ (je.trans rfl) (P5.trans rfl) D5 (br _) (by simp only[go_sem])) .nil)))) (.same _))) (.nil _)))))) B5 ⟨.s,.s,.s,trivial⟩ B5) ?_;refine rn ?_;have⟨S0,Ae,h⟩:=D0 h;refine d2O (st:=st++[some (.arr 0 11 0 [[T v2.kind,.str v2.name,C0 v2.words,J9 v2.subs,.sl false 1 16 (I5 [120]),.A9,.A9,T v8.kind,.str v8.name,C0 v8.words,J9 v8.subs]]),none,some (.arr 0 4 0 [dM 9 [121] [v10]]),none,some (.arr 0 4 0 [dM 9 [118,48] [cK]]),some (.arr 0 11 216 [[T v2.kind,.str v2.name,C0 v2.words,J9 v2.subs,.sl false 1 16 (I5 [120]),.A9,.A9,T v8.kind,.str v8.name,C0 v8.words,J9 v8.subs]])]) (args:=[.ref true (st.length+5) 0 0 1,.agg (dM 9 [121] [v10])]) (De:=st++[some (.arr 0 11 0 [[T v2.kind,.str v2.name,C0 v2.words,J9 v2.subs,.sl false 1 16 (I5 [120]),.A9,.A9,T v8.kind,.str v8.name,C0 v8.words,J9 v8.subs]]),none,some (.arr 0 4 0 [dM 9 [121] [v10]]),none,some (.arr 0 4 0 [dM 9 [118,48] [cK]]),some (.arr 0 11 216 [[T v2.kind,.str v2.name,C0 v2.words,J9 v2.subs,.sl false 1 16 (I5 [120]),.sl false 1 16 [],.sl false 1 16 [],T v8.kind,.str v8.name,C0 v8.words,J9 v8.subs]])]) (sj hsc (.lv (.dead _ _ _ (.lv (.dead _ _ _ (.lv (.live _ _ _ _ (.arr _ _ _ _ _ (.cons _ _ _ _ (.cons _ _ _ _ .s (.cons _ _ _ _ .s (.cons _ _ _ _ .s (.cons _ _ _ _ .s (.cons _ _ _ _ .s (.cons _ _ _ _ (.A9 _ _ _ D5) (.cons _ _ _ _ (.A9 _ _ _ D5) (.cons _ _ _ _ .s (.cons _ _ _ _ .s (.cons _ _ _ _ .s (.cons _ _ _ _ .s .nil))))))))))) .nil)) (.nil _))))))) B5) B5 B5 ((i0w n _ _ _ Ae).freeze (st:=st++[some (.arr 0 11 0 [[T v2.kind,.str v2.name,C0 v2.words,J9 v2.subs,.sl false 1 16 (I5 [120]),.A9,.A9,T v8.kind,.str v8.name,C0 v8.words,J9 v8.subs]]),none,some (.arr 0 4 0 [dM 9 [121] [v10]]),none,some (.arr 0 4 0 [dM 9 [118,48] [cK]]),some (.arr 0 11 216 [[T v2.kind,.str v2.name,C0 v2.words,J9 v2.subs,.sl false 1 16 (I5 [120]),.sl false 1 16 [],.sl false 1 16 [],T v8.kind,.str v8.name,C0 v8.words,J9 v8.subs]])]) (args:=[.ref true (st.length+5) 0 0 1,.agg (dM 9 [121] [v10])]) (De:=st++[some (.arr 0 11 0 [[T v2.kind,.str v2.name,C0 v2.words,J9 v2.subs,.sl false 1 16 (I5 [120]),.A9,.A9,T v8.kind,.str v8.name,C0 v8.words,J9 v8.subs]]),none,some (.arr 0 4 0 [dM 9 [121] [v10]]),none,some (.arr 0 4 0 [dM 9 [118,48] [cK]]),none]) (sj hsc (.lv (.dead _ _ _ (.lv (.dead _ _ _ (.lv (.dead _ _ _ (.nil _))))))) B5) B5 (.cons _ _ _ _ (.ref _ _ _ _ _ _ _ _ _ (je.trans rfl) (P5.trans rfl) D5 (by simp[qF,D.M7]) (by simp only[go_sem,rows,bv,jn])) (.cons _ _ _ _ (.agg _ _ (.cons _ _ _ _ .s (.cons _ _ _ _ .s (.cons _ _ _ _ (.A9 _ _ _ D5) (.cons _ _ _ _ .s .nil))))) .nil)) B5 ?_);refine rn ?_;have⟨v21,p3r,h⟩:=D0 h;refine d2O (st:=st++[some (.arr 0 11 0 [[T v2.kind,.str v2.name,C0 v2.words,J9 v2.subs,.sl false 1 16 (I5 [120]),.A9,.A9,T v8.kind,.str v8.name,C0 v8.words,J9 v8.subs]]),none,some (.arr 0 4 0 [dM 9 [121] [v10]]),none,some (.arr 0 4 0 [dM 9 [118,48] [cK]]),none,some (.arr 0 4 0 (gM S0.1)),some (.arr 0 2 0 [zP S0.2]),some (.arr 0 11 216 [[T v2.kind,.str v2.name,C0 v2.words,J9 v2.subs,.sl false 1 16 (I5 [120]),.A9,.A9,T v8.kind,.str v8.name,C0 v8.words,J9 v8.subs]])]) (args:=[.ref true (st.length+8) 0 0 1,.agg (dM 9 [121] [v10])]) (De:=st++[some (.arr 0 11 0 [[T v2.kind,.str v2.name,C0 v2.words,J9 v2.subs,.sl false 1 16 (I5 [120]),.A9,.A9,T v8.kind,.str v8.name,C0 v8.words,J9 v8.subs]]),none,some (.arr 0 4 0 [dM 9 [121] [v10]]),none,some (.arr 0 4 0 [dM 9 [118,48] [cK]]),none,some (.arr 0 4 0 (gM S0.1)),some (.arr 0 2 0 [zP S0.2]),some (.arr 0 11 216 [[T v2.kind,.str v2.name,C0 v2.words,J9 v2.subs,.sl false 1 16 (I5 [120]),.sl false 1 16 [],.sl false 1 16 [],T v8.kind,.str v8.name,C0 v8.words,J9 v8.subs]])]) (sj hsc (.lv (.dead _ _ _ (.lv (.dead _ _ _ (.lv (.dead _ _ _ (.lv (.lv (.live _ _ _ _ (.arr _ _ _ _ _ (.cons _ _ _ _ (.cons _ _ _ _ .s (.cons _ _ _ _ .s (.cons _ _ _ _ .s (.cons _ _ _ _ .s (.cons _ _ _ _ .s (.cons _ _ _ _ (.A9 _ _ _ D5) (.cons _ _ _ _ (.A9 _ _ _ D5) (.cons _ _ _ _ .s (.cons _ _ _ _ .s (.cons _ _ _ _ .s (.cons _ _ _ _ .s .nil))))))))))) .nil)) (.nil _)))))))))) B5) B5 B5 ((i0x n _ _ _ p3r).freeze (st:=st++[some (.arr 0 11 0 [[T v2.kind,.str v2.name,C0 v2.words,J9 v2.subs,.sl false 1 16 (I5 [120]),.A9,.A9,T v8.kind,.str v8.name,C0 v8.words,J9 v8.subs]]),none,some (.arr 0 4 0 [dM 9 [121] [v10]]),none,some (.arr 0 4 0 [dM 9 [118,48] [cK]]),none,some (.arr 0 4 0 (gM S0.1)),some (.arr 0 2 0 [zP S0.2]),some (.arr 0 11 216 [[T v2.kind,.str v2.name,C0 v2.words,J9 v2.subs,.sl false 1 16 (I5 [120]),.sl false 1 16 [],.sl false 1 16 [],T v8.kind,.str v8.name,C0 v8.words,J9 v8.subs]])]) (args:=[.ref true (st.length+8) 0 0 1,.agg (dM 9 [121] [v10])]) (De:=st++[some (.arr 0 11 0 [[T v2.kind,.str v2.name,C0 v2.words,J9 v2.subs,.sl false 1 16 (I5 [120]),.A9,.A9,T v8.kind,.str v8.name,C0 v8.words,J9 v8.subs]]),none,some (.arr 0 4 0 [dM 9 [121] [v10]]),none,some (.arr 0 4 0 [dM 9 [118,48] [cK]]),none,some (.arr 0 4 0 (gM S0.1)),some (.arr 0 2 0 [zP S0.2]),none]) (sj hsc (.lv (.dead _ _ _ (.lv (.dead _ _ _ (.lv (.dead _ _ _ (.lv (.lv (.dead _ _ _ (.nil _)))))))))) B5) B5 (.cons _ _ _ _ (.ref _ _ _ _ _ _ _ _ _ (je.trans rfl) (P5.trans rfl) D5 (by simp[qF,D.M7]) (by simp only[go_sem,rows,bv,jn])) (.cons _ _ _ _ (.agg _ _ (.cons _ _ _ _ .s (.cons _ _ _ _ .s (.cons _ _ _ _ (.A9 _ _ _ D5) (.cons _ _ _ _ .s .nil))))) .nil)) B5 ?_);refine rn ?_;have⟨v22,Zi,h⟩:=D0 h;refine gi (fun hG=>((Zj n _ _ _ (cg Zi (by simpa using hG))).vq)) ?_;have⟨V,h⟩:=ck V h;exact rt
theorem p3s a0 r(h:Fh a0=some r):L8 40 [T a0] (T r):=by
 intro st;unfold Fh at h;have V:=trivial;refine fb 13 [.tmp 2] [0,2,6,7,8] Tryz.func40 fun hsc=>?_;refine cd h ?_ ?_<;>intro K h
 ·exact rt
 ·refine r0 ?_;have⟨V,h⟩:=ck V h;have fy:=(show [[D.int .i64 0],[D.int .i64 0],[D.int .i64 0],[D.int .i64 0],[D.int .i64 1],[D.int .i64 2],[D.int .i64 2],[D.int .i64 2],[D.int .i64 1],[D.int .i64 1]].getD a0.toNat [D.int .i64 0]=[D.int .i64 (get [0,0,0,0,1,2,2,2,1,1] a0.toNat)]from i4h [0,0,0,0,1,2,2,2,1,1] _);refine r1 ?_;exact rt
theorem i0y n a0 r(h:BJ n a0=some r):L8 41 [.str a0] (.bool r):=by
 intro st;unfold BJ at h;have V:=trivial;refine fb 62 [.tmp 2] [0,2,3,4,5,10,11,12,13,17,25,26,27,28,35,36,37,38,41,42,43,44,47,48,49,50,55,56,57,58,59,60,61] Tryz.func41 fun hsc=>?_;refine cd h ?_ ?_<;>intro K h
 ·exact rt
 ·refine rn ?_;refine L3 () h
   (fun A0 Y=>[(0,.str a0),cQ Y])
   (fun A0 Y=>st)
   (fun(gt0:Unit) t0=>[])
   (fun gt0 t0=>st)
   O7
   (fun A0 Y b0 h hx0=>?_) (fun gt0 t0 C8 st1 h H=>?_)
  ·unfold Sp at h;refine cd h ?_ ?_<;>intro K h
   ·have⟨V,h⟩:=ck V h;refine cd h ?_ ?_<;>intro K h
    ·refine ra ?_;cases h;refine W0 ?_;have h:=congrArg some (hx0 _ rfl);exact rt
    ·refine rn ?_;cases h;exact I7 () O7
   ·refine rn ?_;cases h;exact K7 () O7
  ·unfold d8S at h;refine D1 H ?_;exact rt
theorem p3t n a0 I r(h:KE n a0 I=some r):L8 22 [K4 a0,.bool I] (cP r):=by
 intro st;unfold KE at h;have V:=trivial;refine fb 150 [.cell 4 29] [0,1,2,4,5,6,7,8,9,10,11,12,13,15,16,22,43,44,45,46,49,52,57,58,59,62,63,64,67,68,69,74,75,76,77,79,86,87,88,89,90,93,94,95,96,97,98,101,102,103,104,105,109,110,111,112,114,115,116,117,122,125,134] Tryz.func22 fun hsc=>?_;refine rn ?_;refine L3 0 h
  (fun A0 Y=>[(1,.bool I),fh st.length,(5,aD st.length A0 Y.2.2),dh Y.2.1])
  (fun A0 Y=>((st++[none,Z4 0 0,some (.arr A0 5 80 (rows eK.cells Y.1))])))
  (fun(gt0:Unit) t0=>[fh st.length])
  (fun gt0 t0=>((st++[none,Z4 0 0])))
  bm
  (fun A0 Y b0 h hx0=>?_) (fun gt0 t0 C8 st1 h H=>?_)
 ·unfold Fi at h;refine cd h ?_ ?_<;>intro K h
  ·refine r0 ?_;refine r0 ?_;have⟨V,h⟩:=ck V h;have⟨V,h⟩:=ck V h;have fy:=S2 eK.cells Y.1 ((wr .i64 ((Y.2.2:Int)-1)).toNat);have fy:=fm fy ((wr .i64 ((Y.2.2:Int)-1)).toNat<Y.1.length);refine r1 ?_;have⟨V,h⟩:=ck V h;refine cl h (p3s _) fun v34 h=>?_;refine rn ?_;refine V4 (Fj n Y) b0 (fun(bQ:Unit) j7=>[(1,.bool I),fh st.length,(5,aD st.length A0 ((wr .i64 ((Y.2.2:Int)-1)).toNat)),dh Y.2.1,jO st.length,(8,jw st.length),(9,T j7)]) (fun bQ j7=>(zQ st 0 A0 Y.1 ((get Y.1 ((wr .i64 ((Y.2.2:Int)-1)).toNat)).f.kind) ((get Y.1 ((wr .i64 ((Y.2.2:Int)-1)).toNat)).f.name) ((get Y.1 ((wr .i64 ((Y.2.2:Int)-1)).toNat)).f.words) ((get Y.1 ((wr .i64 ((Y.2.2:Int)-1)).toNat)).f.subs) ((get Y.1 ((wr .i64 ((Y.2.2:Int)-1)).toNat)).depth))) (fun bQ j7 C8 st1 h H=>?_) (fun qj=>?_)
   ·unfold Fj at h;refine D1 H ?_;refine rn ?_;refine V4 (BS n Y j7) b0 (fun(dr:Unit) j8=>[(1,.bool I),fh st.length,(5,aD st.length A0 ((wr .i64 ((Y.2.2:Int)-1)).toNat)),dh Y.2.1,jO st.length,(8,jw st.length),(9,T j7),(10,T j8),(11,T 0)]) (fun dr j8=>(zQ st 0 A0 Y.1 ((get Y.1 ((wr .i64 ((Y.2.2:Int)-1)).toNat)).f.kind) ((get Y.1 ((wr .i64 ((Y.2.2:Int)-1)).toNat)).f.name) ((get Y.1 ((wr .i64 ((Y.2.2:Int)-1)).toNat)).f.words) ((get Y.1 ((wr .i64 ((Y.2.2:Int)-1)).toNat)).f.subs) ((get Y.1 ((wr .i64 ((Y.2.2:Int)-1)).toNat)).depth))) (fun dr j8 C8 st1 h H=>?_) (fun oD=>?_)
    ·unfold BS at h;refine D1 H ?_;refine rn ?_;refine V4 (BR n Y j7) b0 (fun(qk:Unit) j9=>[(1,.bool I),fh st.length,(5,aD st.length A0 ((wr .i64 ((Y.2.2:Int)-1)).toNat)),dh Y.2.1,jO st.length,(8,jw st.length),(9,T j7),(10,T j9.1),(11,T j9.2)]) (fun qk j9=>(zQ st 0 A0 Y.1 ((get Y.1 ((wr .i64 ((Y.2.2:Int)-1)).toNat)).f.kind) ((get Y.1 ((wr .i64 ((Y.2.2:Int)-1)).toNat)).f.name) ((get Y.1 ((wr .i64 ((Y.2.2:Int)-1)).toNat)).f.words) ((get Y.1 ((wr .i64 ((Y.2.2:Int)-1)).toNat)).f.subs) ((get Y.1 ((wr .i64 ((Y.2.2:Int)-1)).toNat)).depth))) (fun qk j9 C8 st1 h H=>?_) (fun Ie=>?_)
     ·unfold BR at h;refine D1 H ?_;refine rn ?_;refine V4 (nX n Y) b0 (fun(Ig:Unit) nj=>[(1,.bool I),fh st.length,(5,aD st.length A0 ((wr .i64 ((Y.2.2:Int)-1)).toNat)),dh Y.2.1,jO st.length,(8,jw st.length),(13,T nj)]) (fun Ig nj=>(zQ st 0 A0 Y.1 ((get Y.1 ((wr .i64 ((Y.2.2:Int)-1)).toNat)).f.kind) ((get Y.1 ((wr .i64 ((Y.2.2:Int)-1)).toNat)).f.name) ((get Y.1 ((wr .i64 ((Y.2.2:Int)-1)).toNat)).f.words) ((get Y.1 ((wr .i64 ((Y.2.2:Int)-1)).toNat)).f.subs) ((get Y.1 ((wr .i64 ((Y.2.2:Int)-1)).toNat)).depth))) (fun Ig nj C8 st1 h H=>?_) (fun uc=>?_)
      ·unfold nX at h;refine D1 H ?_;refine cd h ?_ ?_<;>intro K h
       ·refine ra ?_;cases h;refine W0 ?_;have h:=congrArg some (hx0 _ rfl);exact rt
       ·refine rn ?_;refine L3 A0 h
         (fun eE M6=>[(1,.bool I),fh st.length,(5,aD st.length eE M6.2.2),dh Y.2.1,jO st.length,(8,jw st.length),(16,T M6.2.1)])
         (fun eE M6=>(zQ st 0 eE M6.1 ((get Y.1 ((wr .i64 ((Y.2.2:Int)-1)).toNat)).f.kind) ((get Y.1 ((wr .i64 ((Y.2.2:Int)-1)).toNat)).f.name) ((get Y.1 ((wr .i64 ((Y.2.2:Int)-1)).toNat)).f.words) ((get Y.1 ((wr .i64 ((Y.2.2:Int)-1)).toNat)).f.subs) ((get Y.1 ((wr .i64 ((Y.2.2:Int)-1)).toNat)).depth)))
         (fun(nD:Nat) t12=>[(1,.bool I),fh st.length,(5,aD st.length nD t12.2),dh Y.2.1])
         (fun nD t12=>((st++[none,Z4 0 0,some (.arr nD 5 80 (rows eK.cells t12.1))])))
         bm
         (fun eE M6 b12 h Zk=>?_) (fun nD t12 C8 st1 h H=>?_)
        ·unfold SH at h;refine cd h ?_ ?_<;>intro K h
         ·refine rn ?_;have⟨V,h⟩:=ck V h;have⟨V,h⟩:=ck V h;have⟨pV,Ia,h⟩:=E1 h;have fy:=J1 eK.cells [[T ((get ((get Y.1 ((wr .i64 ((Y.2.2:Int)-1)).toNat)).f.subs) M6.2.1.toNat).kind),.str ((get ((get Y.1 ((wr .i64 ((Y.2.2:Int)-1)).toNat)).f.subs) M6.2.1.toNat).name),C0 ((get ((get Y.1 ((wr .i64 ((Y.2.2:Int)-1)).toNat)).f.subs) M6.2.1.toNat).words),J9 ((get ((get Y.1 ((wr .i64 ((Y.2.2:Int)-1)).toNat)).f.subs) M6.2.1.toNat).subs),T (wr .i64 (((get Y.1 ((wr .i64 ((Y.2.2:Int)-1)).toNat)).depth)+1))]] Ia;have fy:=fa fy (show M6.2.2+1=pV.length from by rw[Ia];simp<;>omega);have⟨V,h⟩:=ck V h;refine cG [] 2 ?_;refine rn ?_;cases h;exact I7 (eE+1) bm
         ·refine rn ?_;cases h;exact K7 eE bm
        ·unfold SI at h;refine D1 H ?_;refine rn ?_;cases h;exact I7 nD bm
      ·refine cd h ?_ ?_<;>intro K h
       ·refine r0 ?_;exact uc () _ _ _ h bm
       ·refine cd h ?_ ?_<;>intro K h
        ·refine r0 ?_;exact uc () _ _ _ h bm
        ·refine cd h ?_ ?_<;>intro K h
         ·refine r0 ?_;exact uc () _ _ _ h bm
         ·refine rn ?_;have⟨v35,p3u,h⟩:=D0 h;refine gi (fun hG=>(i0y n _ _ (cg p3u (by simpa using hG)))) ?_;refine cd h ?_ ?_<;>intro K h
          ·refine r0 ?_;exact uc () _ _ _ h bm
          ·refine cd h ?_ ?_<;>intro K h
           ·refine r0 ?_;exact uc () _ _ _ h bm
           ·refine Q9 114 fun p3v=>?_;refine O8 () V p3v h
             (fun Ih Hs cB=>[(1,.bool I),fh st.length,(5,aD st.length A0 ((wr .i64 ((Y.2.2:Int)-1)).toNat)),dh Y.2.1,jO st.length,(8,jw st.length),(13,T cB),(114,C0 ((get Y.1 ((wr .i64 ((Y.2.2:Int)-1)).toNat)).f.words)),(115,T (↑(((get Y.1 ((wr .i64 ((Y.2.2:Int)-1)).toNat)).f.words).length):Int)),(116,T ↑Hs)])
             (fun Ih Hs cB=>(zQ st 0 A0 Y.1 ((get Y.1 ((wr .i64 ((Y.2.2:Int)-1)).toNat)).f.kind) ((get Y.1 ((wr .i64 ((Y.2.2:Int)-1)).toNat)).f.name) ((get Y.1 ((wr .i64 ((Y.2.2:Int)-1)).toNat)).f.words) ((get Y.1 ((wr .i64 ((Y.2.2:Int)-1)).toNat)).f.subs) ((get Y.1 ((wr .i64 ((Y.2.2:Int)-1)).toNat)).depth)))
             (fun Ii t11=>[(1,.bool I),fh st.length,(5,aD st.length A0 ((wr .i64 ((Y.2.2:Int)-1)).toNat)),dh Y.2.1,jO st.length,(8,jw st.length),(13,T t11)])
             (fun Ii t11=>(zQ st 0 A0 Y.1 ((get Y.1 ((wr .i64 ((Y.2.2:Int)-1)).toNat)).f.kind) ((get Y.1 ((wr .i64 ((Y.2.2:Int)-1)).toNat)).f.name) ((get Y.1 ((wr .i64 ((Y.2.2:Int)-1)).toNat)).f.words) ((get Y.1 ((wr .i64 ((Y.2.2:Int)-1)).toNat)).f.subs) ((get Y.1 ((wr .i64 ((Y.2.2:Int)-1)).toNat)).depth)))
             bm
             (fun Ih Hs cB b11 V h p3x=>?_) (fun Ii t11 C8 st1 h H=>?_)
            ·unfold SK at h;refine ct ?_;refine cl h (i0y n _) fun v37 h=>?_;refine cd h ?_ ?_<;>intro K h
             ·refine rn ?_;cases h;exact L6 () bm
             ·refine rn ?_;cases h;exact L6 () bm
            ·try simp only[go_sem,V]
             unfold SL at h;refine uc () _ _ _ h ?_;exact(H.trans bm)
     ·refine cd h ?_ ?_<;>intro K h
      ·refine r0 ?_;exact Ie () _ _ _ h bm
      ·refine r0 ?_;exact Ie () _ _ _ h bm
    ·refine cd h ?_ ?_<;>intro K h
     ·refine r0 ?_;exact oD () _ _ _ h bm
     ·refine r0 ?_;exact oD () _ _ _ h bm
   ·refine cd h ?_ ?_<;>intro K h
    ·refine r0 ?_;exact qj () _ _ _ h bm
    ·refine r0 ?_;exact qj () _ _ _ h bm
  ·refine rn ?_;cases h;exact K7 () bm
 ·unfold d8U at h;refine D1 H ?_;exact rt
theorem Zl n a0 r(h:yO n a0=some r):L8 8 [K4 a0] (cP r):=by intro st;unfold yO at h;have V:=trivial;refine fb 5 [.cell 2 29] [0,1,2] Tryz.func8 fun hsc=>?_;refine cl h (p3t n _ _) fun v1 h=>?_;exact rt
theorem p3y:∀n I a2 l0 r (h:pA n I a2 l0=some r),∀st o0 q0 (hnd: [o0].Nodup) (E7:Am.look st o0=some (.arr q0 5 80 (rows L7.cells l0))),U5 19 [I0 o0 q0 l0.length,K4 I,C0 a2] st (fun d st'=>∃Ij:Nat,d=(I0 o0 Ij r.length)/\st'=puts st [(o0,jN Ij r)]):=by
 intro n;induction n with
 |zero=>intro I a2 l0 r h;cases h
 |succ n ih=>
  intro I a2 l0 r h st o0 q0 hnd E7;unfold pA at h;have N9:=E2 E7;have V:=H7 N9;refine mM ?_;refine fb 107 [.tmp 6] [0,1,2,4,6,7,8,9,10,11,12,13,14,28,34,39,40,41,42,43,44,45,46,47,48,65,66,67,68,75,89] Tryz.func19 fun hsc=>?_;refine ast (dO st o0 q0 l0) ?_;refine r0 ?_;refine r0 ?_;refine r0 ?_;refine r0 ?_;(repeat apply I6)
  refine S9 1 1 ?_;refine V5 ?_;refine Q0 [(0,I0 o0 q0 l0.length),aF a2,G4 st.length,ah (l0.length:Int),Z9 st.length,(9,T 0)] ((dO st o0 q0 l0)++[G3 I,some (.arr 0 5 0 [[T I.kind,.str I.name,C0 I.words,aD st.length 0 0,T 0]]),some (.arr 0 1 1 (rows cu []))]) bu ?_;(repeat apply I6)
  refine L3 0 h
   (fun A0 Y=>[(0,I0 o0 q0 l0.length),aF a2,G4 st.length,ah (l0.length:Int),Z9 st.length,(9,T Y.2)])
   (fun A0 Y=>((dO st o0 q0 l0)++(wV I I.kind I.name I.words st.length A0 Y.1.length 0 Y.1)))
   (fun(gt0:Nat) t0=>[(0,I0 o0 q0 l0.length),aF a2,G4 st.length,ah (l0.length:Int),Z9 st.length])
   (fun gt0 t0=>((dO st o0 q0 l0)++(wV I I.kind I.name I.words st.length gt0 t0.length 0 t0)))
   bu
   (fun A0 Y b0 h hx0=>?_) (fun gt0 t0 C8 st1 h H=>?_)
  ·unfold KI at h;refine cd h ?_ ?_<;>intro K h
   ·refine rn ?_;refine L3 () h
     (fun J3 s2=>[(0,I0 o0 q0 l0.length),aF a2,G4 st.length,ah (l0.length:Int),Z9 st.length,(9,T Y.2),(10,.bool s2.1),(11,T s2.2)])
     (fun J3 s2=>((dO st o0 q0 l0)++(wV I I.kind I.name I.words st.length A0 Y.1.length 0 Y.1)))
     (fun(I3:Unit) t2=>[(0,I0 o0 q0 l0.length),aF a2,G4 st.length,ah (l0.length:Int),Z9 st.length,(9,T Y.2),(10,.bool t2)])
     (fun I3 t2=>((dO st o0 q0 l0)++(wV I I.kind I.name I.words st.length A0 Y.1.length 0 Y.1)))
     bu
     (fun J3 s2 b2 h V3=>?_) (fun I3 t2 C8 st1 h H=>?_)
    ·unfold KJ at h;refine cd h ?_ ?_<;>intro K h
     ·refine rn ?_;have⟨V,h⟩:=ck V h;have⟨V,h⟩:=ck V h;refine dw [] 0 ?_;refine rn ?_;cases h;exact I7 () bu
     ·refine rn ?_;cases h;exact K7 () bu
    ·unfold d8V at h;refine D1 H ?_;have⟨tR,Ik,h⟩:=E1 h;have fy:=J1 cu [[.bool t2]] Ik;have fy:=fl fy Ik;have⟨V,h⟩:=ck V h;refine r1 ?_;refine rn ?_;cases h;exact I7 (A0+1) bu
   ·refine rn ?_;cases h;exact K7 A0 bu
  ·unfold KL at h;refine D1 H ?_;(repeat apply I6)
   refine Q0 [(0,I0 o0 q0 l0.length),aF a2,G4 st.length,ah (l0.length:Int),Z9 st.length] ((dO st o0 q0 l0)++[G3 I,some (.arr 0 5 0 [oz I.kind I.name I.words t0 0])]) bu ?_;have⟨T8,qg,h⟩:=E1 h;have fy:=J1 L7.cells [oz I.kind I.name I.words t0 0] qg;have fy:=fl fy qg;have⟨V,h⟩:=ck V h;refine r1 ?_;refine rn ?_;refine V4 (vN (pA n) n I T8 l0) r (fun(jy:Unit) j3=>[(0,I0 o0 (q0+1) T8.length),G4 st.length,ah (l0.length:Int),(12,C0 j3)]) (fun jy j3=>((dO st o0 (q0+1) T8)++[G3 I])) (fun jy j3 C8 st1 h H=>?_) (fun hj3=>?_)
   ·unfold vN at h;refine D1 H ?_;refine rn ?_;refine L3 (q0+1) h
     (fun V9 s5=>[(0,I0 o0 V9 s5.1.length),G4 st.length,ah (l0.length:Int),(12,C0 j3),(14,T s5.2)])
     (fun V9 s5=>((dO st o0 V9 s5.1)++[G3 I]))
     (fun(aj:Nat) t5=>[(0,I0 o0 aj t5.length),ah (l0.length:Int)])
     (fun aj t5=>(dO st o0 aj t5))
     bu
     (fun V9 s5 b5 h Il=>?_) (fun aj t5 C8 st1 h H=>?_)
    ·unfold BT at h;refine cd h ?_ ?_<;>intro K h
     ·have⟨V,h⟩:=ck V h;refine rn ?_;have⟨Ht,Zm,h⟩:=D0 h;refine(vH (ih _ _ _ _ Zm _ _ V9 hnd sg)).mono ?_;rintro d1 st1 ⟨Zn,rfl,rfl⟩;refine rn ?_;cases h;exact I7 Zn bu
     ·refine rn ?_;cases h;exact K7 V9 vd
    ·unfold KM at h;refine D1 H ?_;have⟨V,h⟩:=ck V h;have fy:=S2 L7.cells t5 l0.length;have fy:=fm fy (l0.length<t5.length);have⟨tS,Im,h⟩:=E1 h;have fy:=fa fy (qN L7.cells (oz ((get t5 l0.length).kind) ((get t5 l0.length).name) ((get t5 l0.length).words) ((get t5 l0.length).bound) (t5.length:Int)) Im);refine r1 ?_;have Zo:D.ref false o0 aj 0 t5.length=D.ref false o0 aj 0 tS.length:=by simp[Im]
     try simp only[Zo]
     refine rr ?_;exact vo (I0 o0 aj tS.length) (hr:=by rintro rfl;exact⟨aj,rfl,rfl⟩)
   ·refine cd h ?_ ?_<;>intro K h
    ·refine rn ?_;refine L3 0 h
      (fun Y4 s4=>[(0,I0 o0 (q0+1) T8.length),aF a2,G4 st.length,ah (l0.length:Int),(12,W9 st.length Y4 s4.1.length),(13,T s4.2)])
      (fun Y4 s4=>((dO st o0 (q0+1) T8)++[G3 I,none,none,J2 Y4 s4.1]))
      (fun(aH:Nat) t4=>[(0,I0 o0 (q0+1) T8.length),G4 st.length,ah (l0.length:Int),(12,W9 st.length aH t4.length)])
      (fun aH t4=>((dO st o0 (q0+1) T8)++[G3 I,none,none,J2 aH t4]))
      bu
      (fun Y4 s4 b4 h xE=>?_) (fun aH t4 C8 st1 h H=>?_)
     ·unfold KN at h;refine cd h ?_ ?_<;>intro K h
      ·refine r0 ?_;refine r0 ?_;have⟨V,h⟩:=ck V h;have⟨tT,Io,h⟩:=E1 h;have fy:=J1 B2 (I5 (get a2 s4.2.toNat)) Io;have fy:=fl fy Io;have⟨V,h⟩:=ck V h;refine r1 ?_;refine rn ?_;cases h;exact I7 (Y4+1) bu
      ·refine rn ?_;cases h;exact K7 Y4 bu
     ·try simp only[go_sem,V]
      unfold d8W at h;refine hj3 () _ _ _ h ?_;exact(H.trans (bu (hf:=⟨.s,.s,.s,.ref _ _ _ _ _ _ _ _ _ (lq.trans rfl) (qK (by first|decide|simp)) D5 (br _) (by simp only[go_sem]),trivial⟩)))
    ·refine r0 ?_;exact hj3 () _ _ _ h bu
theorem ud n I a2 r(h:kl n I a2=some r):L8 19 [.A9,K4 I,C0 a2] (E9 r):=by
 intro st;unfold kl at h;have V:=trivial;refine mM ?_;refine fb 107 [.tmp 6] [0,1,2,4,6,7,8,9,10,11,12,13,14,28,34,39,40,41,42,43,44,45,46,47,48,65,66,67,68,75,89] Tryz.func19 fun hsc=>?_;refine r0 ?_;refine r0 ?_;refine r0 ?_;refine r0 ?_;(repeat apply I6)
 refine S9 1 1 ?_;refine V5 ?_;refine Q0 [(0,.A9),aF a2,G4 st.length,ah 0,Z9 st.length,(9,T 0)] (st++[G3 I,some (.arr 0 5 0 [[T I.kind,.str I.name,C0 I.words,aD st.length 0 0,T 0]]),some (.arr 0 1 1 (rows cu []))]) bm ?_;(repeat apply I6)
 refine L3 0 h
  (fun A0 Y=>[(0,.A9),aF a2,G4 st.length,ah 0,Z9 st.length,(9,T Y.2)])
  (fun A0 Y=>(st++(wV I I.kind I.name I.words st.length A0 Y.1.length 0 Y.1)))
  (fun(gt0:Nat) t0=>[(0,.A9),aF a2,G4 st.length,ah 0,Z9 st.length])
  (fun gt0 t0=>(st++(wV I I.kind I.name I.words st.length gt0 t0.length 0 t0)))
  bm
  (fun A0 Y b0 h hx0=>?_) (fun gt0 t0 C8 st1 h H=>?_)
 ·unfold KO at h;refine cd h ?_ ?_<;>intro K h
  ·refine rn ?_;refine L3 () h
    (fun J3 s2=>[(0,.A9),aF a2,G4 st.length,ah 0,Z9 st.length,(9,T Y.2),(10,.bool s2.1),(11,T s2.2)])
    (fun J3 s2=>(st++(wV I I.kind I.name I.words st.length A0 Y.1.length 0 Y.1)))
    (fun(I3:Unit) t2=>[(0,.A9),aF a2,G4 st.length,ah 0,Z9 st.length,(9,T Y.2),(10,.bool t2)])
    (fun I3 t2=>(st++(wV I I.kind I.name I.words st.length A0 Y.1.length 0 Y.1)))
    bm
    (fun J3 s2 b2 h V3=>?_) (fun I3 t2 C8 st1 h H=>?_)
   ·unfold KP at h;refine cd h ?_ ?_<;>intro K h
    ·refine rn ?_;have⟨V,h⟩:=ck V h;have⟨V,h⟩:=ck V h;refine dw [] 0 ?_;refine rn ?_;cases h;exact I7 () bm
    ·refine rn ?_;cases h;exact K7 () bm
   ·unfold d8X at h;refine D1 H ?_;have⟨tR,Ik,h⟩:=E1 h;have fy:=J1 cu [[.bool t2]] Ik;have fy:=fl fy Ik;have⟨V,h⟩:=ck V h;refine r1 ?_;refine rn ?_;cases h;exact I7 (A0+1) bm
  ·refine rn ?_;cases h;exact K7 A0 bm
 ·unfold KQ at h;refine D1 H ?_;(repeat apply I6)
  refine Q0 [(0,.A9),aF a2,G4 st.length,ah 0,Z9 st.length] (st++[G3 I,some (.arr 0 5 0 [oz I.kind I.name I.words t0 0])]) bm ?_;have⟨T8,qg,h⟩:=E1 h;have⟨V,h⟩:=ck V h;refine r0 ?_;have e37:D.ref false (st.length+3) 0 0 1=D.ref false (st.length+3) 0 0 T8.length:=by simp[qg]
  have e38: [oz I.kind I.name I.words t0 0]=rows L7.cells T8:=by rw[qg];first|rfl|simp only[go_sem,rows,bv,jn]
  try simp only[e37,e38]
  refine rn ?_;refine V4 (vP n I T8) r (fun(jy:Unit) j3=>[(0,W9 st.length 0 T8.length),G4 st.length,ah 0,(12,C0 j3)]) (fun jy j3=>(st++[G3 I,none,none,some (.arr 0 5 80 (rows L7.cells T8))])) (fun jy j3 C8 st1 h H=>?_) (fun hj3=>?_)
  ·unfold vP at h;refine D1 H ?_;refine rn ?_;refine L3 0 h
    (fun V9 s5=>[(0,W9 st.length V9 s5.1.length),G4 st.length,ah 0,(12,C0 j3),(14,T s5.2)])
    (fun V9 s5=>(st++[G3 I,none,none,some (jN V9 s5.1)]))
    (fun(aj:Nat) t5=>[(0,W9 st.length aj t5.length),ah 0])
    (fun aj t5=>((st++[none,none,none,some (jN aj t5)])))
    bm
    (fun V9 s5 b5 h Il=>?_) (fun aj t5 C8 st1 h H=>?_)
   ·unfold BU at h;refine cd h ?_ ?_<;>intro K h
    ·have⟨V,h⟩:=ck V h;refine rn ?_;have⟨Ht,Zm,h⟩:=D0 h;refine(vH (p3y n _ _ _ _ Zm _ _ V9 B5 (P5.trans rfl))).mono ?_;rintro d1 st1 ⟨Zn,rfl,rfl⟩;refine rn ?_;cases h;exact I7 Zn bm
    ·refine rn ?_;cases h;exact K7 V9 bm
   ·unfold KR at h;refine D1 H ?_;have⟨V,h⟩:=ck V h;have fy:=S2 L7.cells t5 0;have fy:=fm fy (0<t5.length);have⟨tS,Im,h⟩:=E1 h;have fy:=fa fy (qN L7.cells (oz ((get t5 0).kind) ((get t5 0).name) ((get t5 0).words) ((get t5 0).bound) (t5.length:Int)) Im);refine r1 ?_;have Zo:D.ref false (st.length+3) aj 0 t5.length=D.ref false (st.length+3) aj 0 tS.length:=by simp[Im]
    try simp only[Zo]
    refine rr ?_;exact fp (E9 tS)
  ·refine cd h ?_ ?_<;>intro K h
   ·refine rn ?_;refine L3 0 h
     (fun Y4 s4=>[(0,W9 st.length 0 T8.length),aF a2,G4 st.length,ah 0,(12,cO st.length Y4 s4.1.length),(13,T s4.2)])
     (fun Y4 s4=>(st++[G3 I,none,none,some (.arr 0 5 80 (rows L7.cells T8)),J2 Y4 s4.1]))
     (fun(aH:Nat) t4=>[(0,W9 st.length 0 T8.length),G4 st.length,ah 0,(12,cO st.length aH t4.length)])
     (fun aH t4=>(st++[G3 I,none,none,some (.arr 0 5 80 (rows L7.cells T8)),J2 aH t4]))
     bm
     (fun Y4 s4 b4 h xE=>?_) (fun aH t4 C8 st1 h H=>?_)
    ·unfold KS at h;refine cd h ?_ ?_<;>intro K h
     ·refine r0 ?_;refine r0 ?_;have⟨V,h⟩:=ck V h;have⟨tT,Io,h⟩:=E1 h;have fy:=J1 B2 (I5 (get a2 s4.2.toNat)) Io;have fy:=fl fy Io;have⟨V,h⟩:=ck V h;refine r1 ?_;refine rn ?_;cases h;exact I7 (Y4+1) bm
     ·refine rn ?_;cases h;exact K7 Y4 bm
    ·try simp only[go_sem,V]
     unfold d8Y at h;refine hj3 () _ _ _ h ?_;exact(H.trans (bm (hf:=⟨.s,.s,.s,.ref _ _ _ _ _ _ _ _ _ (je.trans rfl) (JL (by first|decide|simp)) D5 (br _) (by simp only[go_sem]),trivial⟩)))
   ·refine r0 ?_;exact hj3 () _ _ _ h bm
theorem p3B n a0 r(h:Fz n a0=some r):L8 38 [.str a0] (.bool r):=by
 intro st;unfold Fz at h;have V:=trivial;refine fb 51 [.tmp 2] [0,2,3,4,5,9,18,19,22,23,24,25,26,27,28,29,30,31,32,33,34,35,36,37,38,39,42,47,48,49] Tryz.func38 fun hsc=>?_;refine rn ?_;refine L3 () h
  (fun A0 Y=>[(0,.str a0),cQ Y])
  (fun A0 Y=>st)
  (fun(gt0:Unit) t0=>[(0,.str a0)])
  (fun gt0 t0=>st)
  O7
  (fun A0 Y b0 h hx0=>?_) (fun gt0 t0 C8 st1 h H=>?_)
 ·unfold Lb at h;refine cd h ?_ ?_<;>intro K h
  ·have⟨V,h⟩:=ck V h;refine cd h ?_ ?_<;>intro K h
   ·refine ra ?_;cases h;refine W0 ?_;have h:=congrArg some (hx0 _ rfl);exact rt
   ·refine rn ?_;cases h;exact I7 () O7
  ·refine rn ?_;cases h;exact K7 () O7
 ·unfold Tl at h;refine D1 H ?_;exact rt
theorem gP n a0 I r(h:dV n a0 I=some r):L8 20 [C0 a0,.str I] (T r):=by
 intro st;unfold dV at h;have V:=trivial;refine fb 19 [.tmp 4] [0,1,4,5,9,17] Tryz.func20 fun hsc=>?_;refine rn ?_;refine L3 () h
  (fun A0 Y=>[(0,C0 a0),(1,.str I),cR Y])
  (fun A0 Y=>st)
  (fun(gt0:Unit) t0=>[])
  (fun gt0 t0=>st)
  O7
  (fun A0 Y b0 h hx0=>?_) (fun gt0 t0 C8 st1 h H=>?_)
 ·unfold Ta at h;refine cd h ?_ ?_<;>intro K h
  ·have⟨V,h⟩:=ck V h;refine cd h ?_ ?_<;>intro K h
   ·refine ra ?_;cases h;refine W0 ?_;have h:=congrArg some (hx0 _ rfl);exact rt
   ·refine rn ?_;cases h;exact I7 () O7
  ·refine rn ?_;cases h;exact K7 () O7
 ·unfold d8Z at h;refine D1 H ?_;exact rt
theorem i0A n I l0 r(h:Fv n I l0=some r):∀st o0 q0 (hnd: [o0].Nodup) (E7:Am.look st o0=some (.arr q0 1 16 (rows B2 l0))),U5 20 [I0 o0 q0 l0.length,.str I] st (fun d st'=>d=(T r)/\st'=puts st []):=by
 intro st o0 q0 hnd E7;unfold Fv at h;have N9:=E2 E7;have V:=H7 N9;refine fb 19 [.tmp 4] [0,1,4,5,9,17] Tryz.func20 fun hsc=>?_;refine ast (C2 st [(o0,ot q0 l0)]) ?_;refine rn ?_;refine L3 () h
  (fun A0 Y=>[(0,I0 o0 q0 l0.length),(1,.str I),cR Y])
  (fun A0 Y=>(C2 st [(o0,ot q0 l0)]))
  (fun(gt0:Unit) t0=>[])
  (fun gt0 t0=>(C2 st [(o0,ot q0 l0)]))
  jE
  (fun A0 Y b0 h hx0=>?_) (fun gt0 t0 C8 st1 h H=>?_)
 ·unfold Td at h;refine cd h ?_ ?_<;>intro K h
  ·refine r0 ?_;refine r0 ?_;have⟨V,h⟩:=ck V h;have fy:=S2 B2 l0 Y.toNat;have fy:=fm fy (Y.toNat<l0.length);refine r1 ?_;refine cd h ?_ ?_<;>intro K h
   ·refine ra ?_;cases h;refine W0 ?_;have h:=congrArg some (hx0 _ rfl);refine rr ?_;exact vp (T Y)
   ·refine rn ?_;cases h;exact I7 () jE
  ·refine rn ?_;cases h;exact K7 () jE
 ·unfold d9a at h;refine D1 H ?_;refine rr ?_;exact vp (T (-1))
theorem p3C n a0 r(h:FK n a0=some r):L8 17 [.agg (bM a0)] (cP r):=by
 intro st;unfold FK at h;have V:=trivial;refine mM ?_;refine fb 254 [.cell 2 29] [0,1,2,3,4,5,6,7,8,9,10,11,12,13,14,15,16,17,18,19,25,41,46,59,72,89,97,102,113,119,124,132,137,138,139,140,141,142,143,144,145,146,147,148,149,150,151,152,153,154,155,156,157,158,159,160,169,170,171,172,173,174,175,176,177,178,179,182,183,184,185,186,187,188,196,197,201,208,218,219,220,221,222,223,224,234,235,236,237,238,239,240,241,242,243] Tryz.func17 fun hsc=>?_;refine rn ?_;have⟨v1,hv1,h⟩:=D0 h;refine(aP (Zl n _ _ hv1)).to ?_;refine cd h ?_ ?_<;>intro K h
 ·exact rt
 ·refine rn ?_;refine dw [] 0 ?_;refine cd h ?_ ?_<;>intro K h
  ·exact rt
  ·refine rn ?_;refine L3 0 h
    (fun A0 Y=>[Y3 st.length,eD st.length,(4,T ↑a0.words.length),cR (a0.A8.length:Int),dh (a0.parts.length:Int),(7,W9 st.length A0 Y.1.length),(8,T Y.2)])
    (fun A0 Y=>(nu st a0 0 A0 Y.1))
    (fun(gt0:Nat) t0=>[Y3 st.length,eD st.length,(4,T ↑a0.words.length),cR (a0.A8.length:Int),dh (a0.parts.length:Int),(7,W9 st.length gt0 t0.length)])
    (fun gt0 t0=>(nu st a0 0 gt0 t0))
    bm
    (fun A0 Y b0 h hx0=>?_) (fun gt0 t0 C8 st1 h H=>?_)
   ·unfold d9b at h;refine cd h ?_ ?_<;>intro K h
    ·refine r0 ?_;refine r0 ?_;have⟨V,h⟩:=ck V h;have⟨cL,lX,h⟩:=E1 h;have fy:=J1 B2 (I5 (get a0.words Y.2.toNat)) lX;have fy:=fl fy lX;have⟨V,h⟩:=ck V h;refine r1 ?_;refine rn ?_;cases h;exact I7 (A0+1) bm
    ·refine rn ?_;cases h;exact K7 A0 bm
   ·unfold Tq at h;refine D1 H ?_;refine rn ?_;refine L3 gt0 h
     (fun D8 s1=>[Y3 st.length,eD st.length,(4,T ↑a0.words.length),cR (a0.A8.length:Int),dh (a0.parts.length:Int),(7,W9 st.length D8 s1.1.length),(9,T s1.2)])
     (fun D8 s1=>(nu st a0 0 D8 s1.1))
     (fun(G1:Nat) t1=>[Y3 st.length,eD st.length,(4,T ↑a0.words.length),cR (a0.A8.length:Int),dh (a0.parts.length:Int),(7,W9 st.length G1 t1.length)])
     (fun G1 t1=>(nu st a0 0 G1 t1))
     bm
     (fun D8 s1 b1 h U8=>?_) (fun G1 t1 C8 st1 h H=>?_)
    ·unfold d9c at h;refine cd h ?_ ?_<;>intro K h
     ·refine r0 ?_;refine r0 ?_;have⟨V,h⟩:=ck V h;have⟨tQ,Ic,h⟩:=E1 h;have fy:=J1 B2 (I5 (get a0.A8 s1.2.toNat)) Ic;have fy:=fl fy Ic;have⟨V,h⟩:=ck V h;refine r1 ?_;refine rn ?_;cases h;exact I7 (D8+1) bm
     ·refine rn ?_;cases h;exact K7 D8 bm
    ·unfold Tr at h;refine D1 H ?_;refine rn ?_;refine L3 G1 h
      (fun J3 s2=>[Y3 st.length,eD st.length,(4,T ↑a0.words.length),cR (a0.A8.length:Int),dh (a0.parts.length:Int),(7,W9 st.length J3 s2.1.length),(10,T s2.2)])
      (fun J3 s2=>(nu st a0 0 J3 s2.1))
      (fun(I3:Nat) t2=>[Y3 st.length,eD st.length,(4,T ↑a0.words.length),cR (a0.A8.length:Int),(7,W9 st.length I3 t2.length)])
      (fun I3 t2=>(nu st a0 0 I3 t2))
      bm
      (fun J3 s2 b2 h V3=>?_) (fun I3 t2 C8 st1 h H=>?_)
     ·unfold d9d at h;refine cd h ?_ ?_<;>intro K h
      ·refine r0 ?_;refine r0 ?_;have⟨V,h⟩:=ck V h;have⟨NU,i0B,h⟩:=E1 h;have fy:=J1 B2 (I5 (get a0.parts s2.2.toNat)) i0B;have fy:=fl fy i0B;have⟨V,h⟩:=ck V h;refine r1 ?_;refine rn ?_;cases h;exact I7 (J3+1) bm
      ·refine rn ?_;cases h;exact K7 J3 bm
     ·unfold Ts at h;refine D1 H ?_;refine rn ?_;have⟨v55,p3D,h⟩:=D0 h;refine(aP ((ud n _ _ _ p3D).vq)).to ?_;refine rn ?_;refine L3 () h
       (fun P4 s3=>[Y3 st.length,eD st.length,(4,T ↑a0.words.length),cR (a0.A8.length:Int),(7,W9 st.length I3 t2.length),(11,E9 v55),(12,T s3)])
       (fun P4 s3=>(nu st a0 0 I3 t2))
       (fun(T3:Unit) t3=>[Y3 st.length,eD st.length,(11,E9 v55)])
       (fun T3 t3=>(st++[iu a0,Z4 0 0]))
       bm
       (fun P4 s3 b3 h lW=>?_) (fun T3 t3 C8 st1 h H=>?_)
      ·unfold FH at h;refine cd h ?_ ?_<;>intro K h
       ·refine r0 ?_;refine r0 ?_;have⟨V,h⟩:=ck V h;have fy:=S2 B2 t2 s3.toNat;have fy:=fm fy (s3.toNat<t2.length);refine r1 ?_;have⟨d9e,p3E,h⟩:=D0 h;refine(aP (p3B n _ _ p3E)).to ?_;try simp only[go_sem,V,fy]
        refine cd h ?_ ?_<;>intro K h
        ·refine ra ?_;cases h;refine W0 ?_;have h:=congrArg some (lW _ rfl);exact rt
        ·refine rn ?_;refine L3 () h
          (fun gs8 s8=>[Y3 st.length,eD st.length,(4,T ↑a0.words.length),cR (a0.A8.length:Int),(7,W9 st.length I3 t2.length),(11,E9 v55),(12,T s3),(13,T s8)])
          (fun gs8 s8=>(nu st a0 0 I3 t2))
          (fun(gt8:Unit) t8=>[Y3 st.length,eD st.length,(4,T ↑a0.words.length),cR (a0.A8.length:Int),(7,W9 st.length I3 t2.length),(11,E9 v55),(12,T s3)])
          (fun gt8 t8=>(nu st a0 0 I3 t2))
          bm
          (fun gs8 s8 b8 h hx8=>?_) (fun gt8 t8 C8 st1 h H=>?_)
         ·unfold Ld at h;refine cd h ?_ ?_<;>intro K h
          ·refine rn ?_;have⟨V,h⟩:=ck V h;have fy:=S2 B2 t2 s8.toNat;have fy:=fm fy (s8.toNat<t2.length);have fy:=fa fy (S2 B2 t2 s3.toNat);have fy:=fm fy (s3.toNat<t2.length);refine cG [] 0 ?_;refine cd h ?_ ?_<;>intro K h
           ·refine ra ?_;cases h;refine W0 ?_;obtain rfl:=hx8 _ rfl;try simp only[go_sem,V]
            refine W0 ?_;have h:=congrArg some (lW _ rfl);exact rt
           ·refine rn ?_;cases h;exact I7 () bm
          ·refine rn ?_;cases h;exact K7 () bm
         ·unfold Tn at h;refine D1 H ?_;refine rn ?_;refine L3 () h
           (fun iW s9=>[Y3 st.length,eD st.length,(4,T ↑a0.words.length),cR (a0.A8.length:Int),(7,W9 st.length I3 t2.length),(11,E9 v55),(12,T s3),(14,.bool s9.1),(15,.bool s9.2.1),(16,T s9.2.2)])
           (fun iW s9=>(nu st a0 0 I3 t2))
           (fun(ql:Unit) t9=>[Y3 st.length,eD st.length,(4,T ↑a0.words.length),cR (a0.A8.length:Int),(7,W9 st.length I3 t2.length),(11,E9 v55),(12,T s3),(14,.bool t9.1),(15,.bool t9.2)])
           (fun ql t9=>(nu st a0 0 I3 t2))
           bm
           (fun iW s9 b9 h Ip=>?_) (fun ql t9 C8 st1 h H=>?_)
          ·unfold FE at h;refine cd h ?_ ?_<;>intro K h
           ·refine cd h ?_ ?_<;>intro K h
            ·refine rn ?_;refine L3 () h
              (fun Ih cB=>[Y3 st.length,eD st.length,(4,T ↑a0.words.length),cR (a0.A8.length:Int),(7,W9 st.length I3 t2.length),(11,E9 v55),(12,T s3),(14,.bool cB.1),(15,.bool s9.2.1),(16,T s9.2.2),(17,T cB.2)])
              (fun Ih cB=>(nu st a0 0 I3 t2))
              (fun(Ii:Unit) t11=>[Y3 st.length,eD st.length,(4,T ↑a0.words.length),cR (a0.A8.length:Int),(7,W9 st.length I3 t2.length),(11,E9 v55),(12,T s3),(14,.bool t11),(15,.bool s9.2.1),(16,T s9.2.2)])
              (fun Ii t11=>(nu st a0 0 I3 t2))
              bm
              (fun Ih cB b11 h p3x=>?_) (fun Ii t11 C8 st1 h H=>?_)
             ·unfold FD at h;have⟨V,h⟩:=ck V h;refine cd h ?_ ?_<;>intro K h
              ·refine rn ?_;have⟨V,h⟩:=ck V h;have⟨V,h⟩:=ck V h;have fy:=S2 B2 t2 s3.toNat;have fy:=fm fy (s3.toNat<t2.length);have⟨V,h⟩:=ck V h;refine cG [] 0 ?_;refine rn ?_;cases h;exact I7 () bm
              ·refine rn ?_;cases h;exact K7 () bm
             ·unfold Tm at h;refine D1 H ?_;refine rn ?_;cases h;exact I7 () bm
            ·refine B ?_;have⟨V,h⟩:=ck V h;have⟨V,h⟩:=ck V h;have fy:=S2 B2 t2 s3.toNat;have fy:=fm fy (s3.toNat<t2.length);refine cG [] 0 ?_;refine cd h ?_ ?_<;>intro K h
             ·refine rn ?_;cases h;exact I7 () bm
             ·refine rn ?_;cases h;exact I7 () bm
           ·refine rn ?_;cases h;exact K7 () bm
          ·unfold Tp at h;refine D1 H ?_;refine cd h ?_ ?_<;>intro K h
           ·refine ra ?_;cases h;refine W0 ?_;have h:=congrArg some (lW _ rfl);exact rt
           ·refine cd h ?_ ?_<;>intro K h
            ·refine ra ?_;cases h;refine W0 ?_;have h:=congrArg some (lW _ rfl);exact rt
            ·refine rn ?_;cases h;exact I7 () bm
       ·refine rn ?_;cases h;exact K7 () bm
      ·unfold Tt at h;refine D1 H ?_;refine rn ?_;refine L3 0 h
        (fun eE M6=>[Y3 st.length,eD st.length,(11,E9 v55),(18,aD st.length eE M6.1.length),(19,T M6.2)])
        (fun eE M6=>(st++[iu a0,Z4 0 0,J2 eE M6.1]))
        (fun(nD:Unit) t12=>[eD st.length])
        (fun nD t12=>((st++[none,Z4 0 0])))
        bm
        (fun eE M6 b12 h Zk=>?_) (fun nD t12 C8 st1 h H=>?_)
       ·unfold FJ at h;refine cd h ?_ ?_<;>intro K h
        ·have⟨V,h⟩:=ck V h;refine cd h ?_ ?_<;>intro K h
         ·refine B ?_;refine dw [6] 0 ?_;have⟨YE,p3G,h⟩:=D0 h;refine K0 [(st.length+2)] (fun st2 X=>(vH (i0A n _ _ _ p3G st2 _ eE B5 (T6 X (P5.trans rfl))))) ?_;try simp only[go_sem,V]
          have⟨v196,p3H,h⟩:=D0 h;refine AY (fun hG=>(aP (gP n _ _ _ (cg p3H (by simpa using hG))))) ?_;try simp only[go_sem,V]
          try refine⟨by first|omega|(simp<;>omega),?_⟩
          refine cd h ?_ ?_<;>intro K h
          ·refine ra ?_;cases h;refine W0 ?_;have h:=congrArg some (Zk _ rfl);exact rt
          ·refine r0 ?_;have⟨NV,i0E,h⟩:=E1 h;have fy:=J1 B2 (I5 ((get v55 M6.2.toNat).name)) i0E;have fy:=fl fy i0E;have⟨V,h⟩:=ck V h;refine r1 ?_;refine rn ?_;cases h;exact I7 (eE+1) bm
         ·refine rn ?_;cases h;exact I7 eE bm
        ·refine rn ?_;cases h;exact K7 () bm
       ·unfold d9f at h;refine D1 H ?_;exact rt
theorem OZ n a0 I r(h:rA n a0 I=some r):L8 18 [.agg (bM a0),.agg (oz I.kind I.name I.words I.bound I.end_)] (.bool r):=by intro st;unfold rA at h;have V:=trivial;refine fb 22 [.tmp 4] [0,1,2,3,4,9,10,11,12,15,16,17,18,19,20] Tryz.func18 fun hsc=>?_;refine rn ?_;have⟨v1,hv1,h⟩:=D0 h;refine gi (fun hG=>(gP n _ _ _ (cg hv1 (by simpa using hG)))) ?_;exact rt
theorem i0F(l:D3)(i:Nat):∀k,(S7 l i k).length<=k
 |0=>Nat.le_refl _
 |k+1=>by
  have:=i0F l i k;rw[S7];cases tB l i k
  ·rw[cond_false];omega
  ·rw[cond_true,aa];show _+1<=_;omega
theorem p3I{st R AM yk:St}{a a':Ob}(hS:yk=st++(some a'::R)):C2 yk [(st.length,a)]++AM=st++(some a::(R++AM)):=by subst hS;simp[C2,xN]
theorem p3J{st R AM yk:St}{a a' r:Ob}{i:Nat}(hS:yk=st++(some a'::R)):C2 yk [(st.length,a),(st.length+(i+1),r)]++AM=st++(some a::(R.set i (some r)++AM)):=by subst hS;simp[C2,xN]
set_option maxHeartbeats 4000000 in
set_option maxRecDepth 100000 in
theorem i0G a0 r(h:Dp a0=some r):L8 39 [E9 a0] (oB r):=by
 intro st;unfold Dp at h;obtain⟨ha,h⟩:=oT h;have h:=dj h;have hn:a0.length<=top:=by unfold top;omega
 have V:=fa ha.1 hn;refine fb 58 [.tmp 2] [0,2,3,4,5,42,12,17,57] Tryz.func39 fun hsc=>?_;refine rn ?_;refine rW (fr':=[(0,E9 a0),(3,.ref true st.length 0 0 a0.length),(4,T ((0:Nat):Int))]) ⟨rfl,rfl,rfl,trivial⟩ ?_;refine JR (ρ:=Unit) (n:=a0.length) (body:=fun _ (s:Unit)=>some (.B7 s)) (kk:=fun s=>some s) (Y:=()) (e:=())
  (fun(k:Nat) (_:Unit) B' yk=>∃C N,B'=[(0,E9 a0),(3,.ref true st.length 0 0 a0.length),(4,T ↑k)]/\yk=st++(some (.arr 0 1 24 (C++be (a0.length-k) [.A9]))::N)/\iB st.length N B2 16 C (rf k fun i=>S7 a0 i i))
  (fun(_:Unit) B' yk=>∃C N,B'=[(3,.ref true st.length 0 0 a0.length)]/\yk=st++(some (.arr 0 1 24 C)::N)/\iB st.length N B2 16 C (rf a0.length fun i=>S7 a0 i i))
  (fun k s b H=>⟨s,(dj H).symm⟩) (JQ _ _) ⟨[],[],rfl,by simp,.nil⟩
  (fun k s s' fr yk S H u=>?_) (fun s fr yk u=>?_) (fun s B' fr yk hkk L hF=>?_)
 ·obtain⟨C,N,rfl,rfl,xG⟩:=u;have hC:C.length=k:=by rw[xG.len];simp[rf]
  have hw:wr .i64 ((k:Int)+1)=((k+1:Nat):Int):=Bc S M;have V:=fa V hw;refine ct ?_;refine rn ?_;refine rW (fr':=[(0,E9 a0),(3,.ref true st.length 0 0 a0.length),(4,T ↑k),(5,T ((0:Nat):Int))]) ⟨rfl,rfl,rfl,rfl,trivial⟩ ?_;refine JR (ρ:=Unit) (n:=k) (body:=fun _ (s:Unit)=>some (.B7 s)) (kk:=fun s=>some s) (Y:=()) (e:=())
   (fun(j:Nat) (_:Unit) B' yk=>∃c yb,B'=[(0,E9 a0),(3,.ref true st.length 0 0 a0.length),(4,T ↑k),(5,T ↑j)]/\yk=st++(some (.arr 0 1 24 (C++[c]::be (a0.length-(k+1)) [.A9]))::(N++yb))/\
    ((S7 a0 k j=[]/\c= .A9/\yb=[])\/∃ro i g,ro=st.length+(N.length+i+1)/\c=(I0 ro g (S7 a0 k j).length)/\yb[i]? =some (some (.arr g 1 16 (rows B2 (S7 a0 k j))))))
   (fun(_:Unit) B' yk=>∃C N,B'=[(0,E9 a0),(3,.ref true st.length 0 0 a0.length),(4,T ↑k)]/\yk=st++(some (.arr 0 1 24 (C++be (a0.length-(k+1)) [.A9]))::N)/\iB st.length N B2 16 C (rf (k+1) fun i=>S7 a0 i i))
   (fun k s b H=>⟨s,(dj H).symm⟩) (JQ _ _) ⟨.A9,[],rfl,?_,.inl ⟨rfl,rfl,rfl⟩⟩
   (fun j s s' fr yk L H u=>?_) (fun s fr yk u=>?_) (fun s B' fr yk hkk L hF=>?_)
  ·rw[show a0.length-k=(a0.length-(k+1))+1 by omega,List.replicate_succ];try simp
  ·obtain⟨c,yb,rfl,rfl,K⟩:=u;have hjn:j<a0.length:=by omega
   have sF:wr .i64 ((j:Int)+1)=((j+1:Nat):Int):=Bc L M;have V:=fa V (fa sF (fa (rg L7.cells a0 j hjn) L));refine ct ?_;refine rn ?_;refine AE rfl (fun F=>?_) (fun F=>?_)
   ·have T4:tB a0 k j=true:=F;have hR:S7 a0 k (j+1)=S7 a0 k j++[(Am.get a0 j).name]:=by rw[S7,T4,cond_true]
    have hRl:=i0F a0 k j;have hX1:∀c,(C++[c]::be (a0.length-(k+1)) [D.A9]).length=a0.length:=fun c=>by simp[hC];omega
    have hX2:∀c,(C++[c]::be (a0.length-(k+1)) [D.A9]).getD k []=[c]:=fun c=>by rw[<-hC];simp[List.getD_eq_getElem?_getD]
    have hX3:∀c x,(C++[c]::be (a0.length-(k+1)) [D.A9]).set k x=C++x::be (a0.length-(k+1)) [D.A9]:=fun c x=>by rw[<-hC];simp
    have V:=fa V (fa hX1 (fa hX2 (fa hX3 S)));obtain⟨yk,hS⟩:∃x,x=st++(some (Ob.arr 0 1 24 (C++[c]::be (a0.length-(k+1)) [.A9]))::(N++yb)):=⟨_,rfl⟩;have lt:Am.look yk st.length=some (.arr 0 1 24 (C++[c]::be (a0.length-(k+1)) [.A9])):=by rw[hS];simp[Am.look,c8]
    refine sv hS ?_;have V:=fa V (H7 (E2 lt));rcases K with⟨hr0,rfl,rfl⟩|⟨ro,i,g,Iq,rfl,hM⟩
    ·refine ast (C2 yk [(st.length,.arr 0 1 24 (C++[.A9]::be (a0.length-(k+1)) [.A9]))]) ?_;refine dw [] 2 ?_;try simp only[go_sem,V]
     refine rn ?_;refine⟨[(0,E9 a0),(3,.ref true st.length 0 0 a0.length),(4,T ↑k),(5,T (↑(j+1):Int))],⟨rfl,rfl,rfl,rfl,trivial⟩,aT yk.length 0 1,be 1 (some .resv)++[some (.arr 0 1 16 (I5 (Am.get a0 j).name))],rfl,(p3I hS).trans (by rw[gf];rfl),.inr ⟨_,1,0,?_,by rw[hR,hr0];rfl,?_⟩⟩
     ·rw[hS];simp;omega
     ·rw[hR,hr0];rfl
    ·have lr:Am.look yk ro=some (.arr g 1 16 (rows B2 (S7 a0 k j))):=by rw[hS,Iq];unfold Am.look;rw[c8 M,show st.length+(N.length+i+1)-st.length=(N.length+i)+1 by omega];simp[c8,hM]
     have hr1:(rows B2 (S7 a0 k j)).length=(S7 a0 k j).length:=av ..
     have CJ:(rows B2 (S7 a0 k j)).take (S7 a0 k j).length=rows B2 (S7 a0 k j):=by rw[List.take_of_length_le];omega
     have hr3:(S7 a0 k j).length+1<=top:=by unfold top;omega
     have hr5:((S7 a0 k j).length+1)*16<=top:=by unfold top;omega
     have hr4:rows B2 (S7 a0 k j)++[[D.str (Am.get a0 j).name]]=rows B2 (S7 a0 k j++[(Am.get a0 j).name]):=by simp[rows];rfl
     have V:=fa V (fa (H7 (E2 lr)) (fa (Bl (a:=st.length) (b:=ro) (by rw[Iq,List.nodup_cons];exact⟨fun e=>by rw[List.mem_singleton]at e;omega,by simp⟩)) (fa hr1 (fa CJ (fa hr3 (fa hr5 hr4))))))
     refine ast (C2 yk [(st.length,.arr 0 1 24 (C++[I0 ro g (S7 a0 k j).length]::be (a0.length-(k+1)) [.A9])),(ro,.arr g 1 16 (rows B2 (S7 a0 k j)))]) ?_
     refine dw [] 2 ?_
     try simp only[go_sem,V]
     refine rn ?_
     refine⟨[(0,E9 a0),(3,.ref true st.length 0 0 a0.length),(4,T ↑k),(5,T (↑(j+1):Int))],⟨rfl,rfl,rfl,rfl,trivial⟩,_,yb.set i (some (.arr (g+1) 1 16 (rows B2 (S7 a0 k (j+1)))))++be 2 (some .resv),rfl,?_,.inr ⟨ro,i,g+1,by omega,by rw[hR,aa],?_⟩⟩
     ·rw[Iq,hR];exact(p3J hS).trans (by rw[i4t,bl];rfl)
     ·have u:i<yb.length:=(List.getElem?_eq_some_iff.1 hM).1;rw[List.getElem?_append_left (by simpa using u),List.getElem?_set_self u]
   ·have T4:tB a0 k j=false:=F;have hR:S7 a0 k (j+1)=S7 a0 k j:=by rw[S7,T4,cond_false]
    refine rn ?_;exact⟨[(0,E9 a0),(3,.ref true st.length 0 0 a0.length),(4,T ↑k),(5,T (↑(j+1):Int))],⟨rfl,rfl,rfl,rfl,trivial⟩,c,yb,rfl,rfl,by rw[hR];exact K⟩
  ·obtain⟨c,yb,rfl,rfl,K⟩:=u;refine cf ?_;refine uL ?_;refine⟨rfl,[(0,E9 a0),(3,.ref true st.length 0 0 a0.length),(4,T ↑k)],⟨rfl,rfl,rfl,trivial⟩,C++[[c]],N++yb,rfl,by rw[bl];rfl,?_⟩;rw[i4s];refine xG.app.snoc ?_;rcases K with⟨h0,rfl,rfl⟩|⟨ro,i,g,Iq,rfl,hM⟩
   ·exact .inl ⟨rfl,h0⟩
   ·refine .inr ⟨N.length+i,g,?_,?_⟩
    ·rw[Iq]
    ·rw[c8 M,Nat.add_sub_cancel_left];exact hM
  ·obtain⟨C,N,rfl,rfl,xG⟩:=L;try simp only[go_sem,V]
   refine rW hF ?_;refine rn ?_;exact⟨[(0,E9 a0),(3,.ref true st.length 0 0 a0.length),(4,T (↑(k+1):Int))],⟨rfl,rfl,rfl,trivial⟩,C,N,rfl,rfl,xG⟩
 ·obtain⟨C,N,rfl,rfl,xG⟩:=u;refine cf ?_;refine uL ?_;exact⟨rfl,[(3,.ref true st.length 0 0 a0.length)],⟨rfl,trivial⟩,C,N,rfl,by rw[Nat.sub_self,List.replicate_zero,gf],xG⟩
 obtain⟨C,N,rfl,rfl,xG⟩:=L;try simp only[go_sem,V]
 refine rW hF ?_;refine qH (i4r (E:=B2) (b:=16) (F0:=[(3,.ref true st.length 0 0 a0.length)]) (B':=[(3,oB (rf a0.length fun i=>S7 a0 i i))]) D5 hsc xG (by simp[rf]) (fun _ _=>⟨.s,trivial⟩) (fun _ _ C'=>⟨C',trivial⟩) B5 B5) ?_;rw[h];have h:some r=some r:=rfl;exact rt
theorem p3Q n a0 r(h:GW n a0=some r):L8 21 [.agg (Dz a0)] (.bool r):=by
 intro st;unfold GW at h;have V:=trivial;refine fb 113 [.tmp 2] [0,1,2,3,4,5,6,7,8,9,10,11,26,32,42,43,44,45,46,47,48,60,68,76,80,91,92,93,94,95,96,97,98,99,100,101,104,105,106,107,108,109,110,111,112] Tryz.func21 fun hsc=>?_;refine rn ?_;refine dw [] 0 ?_;have⟨v1,hv1,h⟩:=D0 h;refine aL ((ud n _ _ _ hv1).vq) ?_;try simp only[go_sem,V]
 have⟨v2,hv2,h⟩:=D0 h;refine aL ((ud n _ _ _ hv2).vq) ?_;try simp only[go_sem,V]
 refine cl h (i0G _) fun v3 h=>?_;refine cl h (i0G _) fun v4 h=>?_;refine rn ?_;refine L3 () h
  (fun A0 Y=>[Y3 st.length,(3,E9 v1),(4,E9 v2),(5,oB v3),(6,oB v4),ah Y])
  (fun A0 Y=>(st++[nr a0]))
  (fun(gt0:Unit) t0=>[])
  (fun gt0 t0=>st)
  bm
  (fun A0 Y b0 h hx0=>?_) (fun gt0 t0 C8 st1 h H=>?_)
 ·unfold Nk at h;refine cd h ?_ ?_<;>intro K h
  ·refine rn ?_;refine L3 () h
    (fun Y4 s4=>[Y3 st.length,(3,E9 v1),(4,E9 v2),(5,oB v3),(6,oB v4),ah Y,(8,T s4)])
    (fun Y4 s4=>(st++[nr a0]))
    (fun(aH:Unit) t4=>[Y3 st.length,(3,E9 v1),(4,E9 v2),(5,oB v3),(6,oB v4),ah Y])
    (fun aH t4=>(st++[nr a0]))
    bm
    (fun Y4 s4 b4 h xE=>?_) (fun aH t4 C8 st1 h H=>?_)
   ·unfold Nn at h;refine cd h ?_ ?_<;>intro K h
    ·have⟨V,h⟩:=ck V h;refine cd h ?_ ?_<;>intro K h
     ·refine rn ?_;cases h;exact I7 () bm
     ·have⟨V,h⟩:=ck V h;refine cl h (gP n _ _) fun v60 h=>?_;refine cd h ?_ ?_<;>intro K h
      ·refine rn ?_;cases h;exact I7 () bm
      ·have⟨V,h⟩:=ck V h;refine cl h (gP n _ _) fun wL h=>?_;refine cd h ?_ ?_<;>intro K h
       ·refine ra ?_;cases h;refine W0 ?_;obtain rfl:=xE _ rfl;try simp only[go_sem,V]
        refine W0 ?_;have h:=congrArg some (hx0 _ rfl);exact rt
       ·refine rn ?_;refine dw [] 0 ?_;have⟨eW,Ir,h⟩:=D0 h;refine aL (OZ n _ _ _ Ir) ?_;try simp only[go_sem,V]
        refine cd h ?_ ?_<;>intro K h
        ·refine rn ?_;cases h;exact I7 () bm
        ·refine rn ?_;refine L3 () h
          (fun gs6 s6=>[Y3 st.length,(3,E9 v1),(4,E9 v2),(5,oB v3),(6,oB v4),ah Y,(8,T s4),(9,.str ((get v1 s4.toNat).name)),(10,.bool s6.1),(11,T s6.2)])
          (fun gs6 s6=>(st++[nr a0]))
          (fun(gt6:Unit) t6=>[Y3 st.length,(3,E9 v1),(4,E9 v2),(5,oB v3),(6,oB v4),ah Y,(8,T s4),(10,.bool t6)])
          (fun gt6 t6=>(st++[nr a0]))
          bm
          (fun gs6 s6 b6 h hx6=>?_) (fun gt6 t6 C8 st1 h H=>?_)
         ·unfold Np at h;refine cd h ?_ ?_<;>intro K h
          ·refine rn ?_;have⟨V,h⟩:=ck V h;refine dw [] 0 ?_;have⟨GX,Yh,h⟩:=D0 h;refine aL (OZ n _ _ _ Yh) ?_;have⟨V,h⟩:=ck V h;try simp only[go_sem,V]
           have⟨GY,Nq,h⟩:=D0 h;refine AY (fun hG=>(gP n _ _ _ (cg Nq (by simpa using hG)))) ?_;try simp only[go_sem,V]
           refine cd h ?_ ?_<;>intro K h
           ·refine rn ?_;cases h;exact I7 () bm
           ·refine rn ?_;cases h;exact I7 () bm
          ·refine rn ?_;cases h;exact K7 () bm
         ·unfold Yi at h;refine D1 H ?_;refine cd h ?_ ?_<;>intro K h
          ·refine ra ?_;cases h;refine W0 ?_;obtain rfl:=xE _ rfl;try simp only[go_sem,V]
           refine W0 ?_;have h:=congrArg some (hx0 _ rfl);exact rt
          ·refine rn ?_;cases h;exact I7 () bm
    ·refine rn ?_;cases h;exact K7 () bm
   ·unfold Yj at h;refine D1 H ?_;refine rn ?_;cases h;exact I7 () bm
  ·refine rn ?_;cases h;exact K7 () uZ
 ·unfold Yk at h;refine D1 H ?_;exact rt
theorem p3R n a0 r(h:Hp n a0=some r):L8 7 [U6 a0] (cP r):=by
 intro st;unfold Hp at h;have V:=trivial;refine mM ?_;refine fb 117 [.cell 2 29] [0,2,3,4,5,6,7,8,11,16,28,37,41,47,55,65,66,67,68,69,70,71,81,82,83,84,85,86,87,88,89,90,91,105,106,107,111] Tryz.func7 fun hsc=>?_;refine cd h ?_ ?_<;>intro K h
 ·exact rt
 ·refine rn ?_;refine L3 () h
   (fun A0 Y=>[(0,U6 a0),(2,B6 st.length),cQ Y])
   (fun A0 Y=>(st++[Z4 0 0]))
   (fun(gt0:Unit) t0=>[(2,B6 st.length)])
   (fun gt0 t0=>(st++[Z4 0 0]))
   bm
   (fun A0 Y b0 h hx0=>?_) (fun gt0 t0 C8 st1 h H=>?_)
  ·unfold NC at h;refine cd h ?_ ?_<;>intro K h
   ·have⟨V,h⟩:=ck V h;refine rn ?_;have⟨v58,p3S,h⟩:=D0 h;refine(aP (p3C n _ _ p3S)).to ?_;refine rn ?_;refine V4 (wN n a0 Y v58) b0 (fun(gj6:Unit) j6=>(OQ a0 st.length Y)) (fun gj6 j6=>(st++[Z4 0 0,some (.arr 0 11 0 (bL ((get a0 Y.toNat).from_.form.kind) ((get a0 Y.toNat).from_.form.name) ((get a0 Y.toNat).from_.form.words) ((get a0 Y.toNat).from_.form.subs) ((get a0 Y.toNat).from_.words) ((get a0 Y.toNat).from_.A8) ((get a0 Y.toNat).from_.parts) ((get a0 Y.toNat).B4.kind) ((get a0 Y.toNat).B4.name) ((get a0 Y.toNat).B4.words) ((get a0 Y.toNat).B4.subs))),Z4 j6 v58.index])) (fun gj6 j6 C8 st1 h H=>?_) (fun Zp=>?_)
    ·unfold wN at h;refine D1 H ?_;refine rn ?_;refine V4 (zK n a0 Y) b0 (fun(bQ:Unit) j7=>(OQ a0 st.length Y)) (fun bQ j7=>(st++[Z4 0 0,some (.arr 0 11 0 (bL ((get a0 Y.toNat).from_.form.kind) ((get a0 Y.toNat).from_.form.name) ((get a0 Y.toNat).from_.form.words) ((get a0 Y.toNat).from_.form.subs) ((get a0 Y.toNat).from_.words) ((get a0 Y.toNat).from_.A8) ((get a0 Y.toNat).from_.parts) ((get a0 Y.toNat).B4.kind) ((get a0 Y.toNat).B4.name) ((get a0 Y.toNat).B4.words) ((get a0 Y.toNat).B4.subs))),Z4 j7.1 j7.2])) (fun bQ j7 C8 st1 h H=>?_) (fun qj=>?_)
     ·unfold zK at h;refine D1 H ?_;refine rn ?_;refine V4 (zJ n a0 Y) b0 (fun(dr:Unit) j8=>(OQ a0 st.length Y)) (fun dr j8=>(st++[Z4 0 0,some (.arr 0 11 0 (bL ((get a0 Y.toNat).from_.form.kind) ((get a0 Y.toNat).from_.form.name) ((get a0 Y.toNat).from_.form.words) ((get a0 Y.toNat).from_.form.subs) ((get a0 Y.toNat).from_.words) ((get a0 Y.toNat).from_.A8) ((get a0 Y.toNat).from_.parts) ((get a0 Y.toNat).B4.kind) ((get a0 Y.toNat).B4.name) ((get a0 Y.toNat).B4.words) ((get a0 Y.toNat).B4.subs))),Z4 j8 j7.2])) (fun dr j8 C8 st1 h H=>?_) (fun oD=>?_)
      ·unfold zJ at h;refine D1 H ?_;refine rn ?_;have⟨d9g,p3T,h⟩:=D0 h;refine gi (fun hG=>(aP (p3Q n _ _ (cg p3T (by simpa using hG))))) ?_;refine rn ?_;refine V4 (Ds Y) b0 (fun(Ig:Unit) nj=>[(0,U6 a0),(2,B6 st.length),cQ Y,(5,M5 st.length)]) (fun Ig nj=>(st++[Z4 0 0,none,Z4 nj j7.2])) (fun Ig nj C8 st1 h H=>?_) (fun uc=>?_)
       ·unfold Ds at h;refine D1 H ?_;refine cd h ?_ ?_<;>intro K h
        ·refine ra ?_;cases h;refine W0 ?_;have h:=congrArg some (hx0 _ rfl);exact rt
        ·refine rn ?_;cases h;exact I7 () bm
       ·refine cd h ?_ ?_<;>intro K h
        ·refine r0 ?_;exact uc () _ _ _ h bm
        ·refine r0 ?_;exact uc () _ _ _ h bm
      ·refine cd h ?_ ?_<;>intro K h
       ·refine rn ?_;have⟨eW,Ir,h⟩:=D0 h;refine(aP ((ud n _ _ _ Ir).vq)).to ?_;refine rn ?_;refine L3 0 h
         (fun iW s9=>[(0,U6 a0),(2,B6 st.length),cQ Y,fh st.length,(5,M5 st.length),(6,E9 eW),(7,W9 st.length iW s9.2.1.length),(8,T s9.2.2)])
         (fun iW s9=>(st++[Z4 0 0,some (.arr 0 11 0 (bL ((get a0 Y.toNat).from_.form.kind) ((get a0 Y.toNat).from_.form.name) ((get a0 Y.toNat).from_.form.words) ((get a0 Y.toNat).from_.form.subs) ((get a0 Y.toNat).from_.words) ((get a0 Y.toNat).from_.A8) ((get a0 Y.toNat).from_.parts) ((get a0 Y.toNat).B4.kind) ((get a0 Y.toNat).B4.name) ((get a0 Y.toNat).B4.words) ((get a0 Y.toNat).B4.subs))),Z4 s9.1 j7.2,J2 iW s9.2.1]))
         (fun(ql:Unit) t9=>(OQ a0 st.length Y))
         (fun ql t9=>(st++[Z4 0 0,some (.arr 0 11 0 (bL ((get a0 Y.toNat).from_.form.kind) ((get a0 Y.toNat).from_.form.name) ((get a0 Y.toNat).from_.form.words) ((get a0 Y.toNat).from_.form.subs) ((get a0 Y.toNat).from_.words) ((get a0 Y.toNat).from_.A8) ((get a0 Y.toNat).from_.parts) ((get a0 Y.toNat).B4.kind) ((get a0 Y.toNat).B4.name) ((get a0 Y.toNat).B4.words) ((get a0 Y.toNat).B4.subs))),Z4 t9 j7.2]))
         bm
         (fun iW s9 b9 h Ip=>?_) (fun ql t9 C8 st1 h H=>?_)
        ·unfold ND at h;refine cd h ?_ ?_<;>intro K h
         ·have⟨V,h⟩:=ck V h;refine cd h ?_ ?_<;>intro K h
          ·refine rn ?_;cases h;exact I7 iW bm
          ·refine rn ?_;refine dw [6] 0 ?_;have⟨zL,p3U,h⟩:=D0 h;refine K0 [(st.length+3)] (fun st2 X=>(vH (i0A n _ _ _ p3U st2 _ iW B5 (T6 X (P5.trans rfl))))) ?_;try simp only[go_sem,V]
           have⟨NG,p3V,h⟩:=D0 h;refine AY (fun hG=>(aP (gP n _ _ _ (cg p3V (by simpa using hG))))) ?_;try simp only[go_sem,V]
           try refine⟨by first|omega|(simp<;>omega),?_⟩
           refine cd h ?_ ?_<;>intro K h
           ·refine r0 ?_;have⟨NW,i0K,h⟩:=E1 h;have fy:=J1 B2 (I5 ((get eW s9.2.2.toNat).name)) i0K;have fy:=fl fy i0K;have⟨V,h⟩:=ck V h;refine r1 ?_;refine rn ?_;cases h;exact I7 (iW+1) bm
           ·refine r0 ?_;have⟨NX,i0L,h⟩:=E1 h;have fy:=J1 B2 (I5 ((get eW s9.2.2.toNat).name)) i0L;have fy:=fl fy i0L;have⟨V,h⟩:=ck V h;refine r1 ?_;refine rn ?_;cases h;exact I7 (iW+1) bm
         ·refine rn ?_;cases h;exact K7 () bm
        ·try simp only[go_sem,V]
         unfold YA at h;refine oD () _ _ _ h ?_;exact(H.trans bm)
       ·refine r0 ?_;exact oD () _ _ _ h bm
     ·refine cd h ?_ ?_<;>intro K h
      ·refine rn ?_;have⟨wL,p3W,h⟩:=D0 h;refine(aP (Zl n _ _ p3W)).to ?_;try simp only[go_sem,V]
       exact qj () _ _ _ h bm
      ·refine r0 ?_;exact qj () _ _ _ h bm
    ·refine cd h ?_ ?_<;>intro K h
     ·refine B ?_;refine dw [] 0 ?_;have⟨v59,Zq,h⟩:=D0 h;refine aL (aP ((ud n _ _ _ Zq).vq)) ?_;have⟨V,h⟩:=ck V h;try simp only[go_sem,V]
      have⟨Yz,p3X,h⟩:=D0 h;refine aL (aP (OZ n _ _ _ p3X)) ?_;try simp only[go_sem,V]
      refine cd h ?_ ?_<;>intro K h
      ·refine r0 ?_;exact Zp () _ _ _ h bm
      ·refine r0 ?_;exact Zp () _ _ _ h bm
     ·refine r0 ?_;exact Zp () _ _ _ h bm
   ·refine rn ?_;cases h;exact K7 () bm
  ·unfold YB at h;refine D1 H ?_;exact rt
theorem i0M n a0 r(h:Dt n a0=some r):L8 9 [K4 a0] (.bool r):=by intro st;unfold Dt at h;have V:=trivial;refine fb 6 [.tmp 2] [0,1,2] Tryz.func9 fun hsc=>?_;refine cl h (up (Zj n _ _) (fun _=>(.cons _ _ _ _ .s (.cons _ _ _ _ (.agg _ _ (.cons _ _ _ _ .s (.cons _ _ _ _ .s (.cons _ _ _ _ (.A9 _ _ _ D5) (.cons _ _ _ _ (.A9 _ _ _ D5) .nil))))) .nil)))) fun v1 h=>?_;exact rt
theorem p3Y a0 r(h:MJ a0=some r):L8 62 [T a0] (.int .u64 r):=by
 intro st;unfold MJ at h;have V:=trivial;refine fb 10 [.tmp 2] [0,2,4] Tryz.func62 fun hsc=>?_;refine cd h ?_ ?_<;>intro K h
 ·exact rt
 ·exact rt
theorem Zr n a0 r(h:zD n a0=some r):L8 42 [T a0] (.str r):=by
 intro st;unfold zD at h;have V:=trivial;refine fb 26 [.tmp 2] [0,2,3,4,6,10,22] Tryz.func42 fun hsc=>?_;refine cd h ?_ ?_<;>intro K h
 ·exact rt
 ·refine cl h (p3Y _) fun v1 h=>?_;refine rn ?_;refine L3 () h
   (fun A0 Y=>[(0,T a0),(3,.str Y.1),(4,.int .u64 Y.2)])
   (fun A0 Y=>st)
   (fun(gt0:Unit) t0=>[(0,T a0),(3,.str t0)])
   (fun gt0 t0=>st)
   O7
   (fun A0 Y b0 h hx0=>?_) (fun gt0 t0 C8 st1 h H=>?_)
  ·unfold Xo at h;refine cd h ?_ ?_<;>intro K h
   ·have⟨V,h⟩:=ck V h;have⟨V,h⟩:=ck V h;refine rn ?_;cases h;exact I7 () O7
   ·refine rn ?_;cases h;exact K7 () O7
  ·unfold Xp at h;refine D1 H ?_;refine cd h ?_ ?_<;>intro K h
   ·have⟨V,h⟩:=ck V h;exact rt
   ·exact rt
theorem p3Z:∀n a0 a3 l0 l1 r (h:oo n a0 a3 l0 l1=some r),∀st o0 o1 q0 q1 (hnd: [o0,o1].Nodup) (E7:Am.look st o0=some (.arr q0 1 16 (rows B2 l0))) (L9:Am.look st o1=some (.arr q1 1 16 (rows B2 l1))),U5 23 [K4 a0,I0 o0 q0 l0.length,I0 o1 q1 l1.length,T a3] st (fun d st'=>d= .E8 [K4 r.1,T r.2]/\st'=puts st []):=by
 intro n;induction n with
 |zero=>intro a0 a3 l0 l1 r h;cases h
 |succ n ih=>
  intro a0 a3 l0 l1 r h st o0 o1 q0 q1 hnd E7 L9;unfold oo at h;have N9:=E2 E7;have T5:=E2 L9;have V:=fa (fa (H7 N9) (H7 T5)) (Bl hnd);refine mM ?_;refine fb 133 [.cell 8 26,.tmp 9] [0,1,2,3,4,8,9,10,11,12,13,14,15,16,17,18,28,40,48,64,85,86,87,88,109] Tryz.func23 fun hsc=>?_;refine ast (dN st o0 q0 l0 o1 q1 l1) ?_;refine r0 ?_;refine r0 ?_;refine r0 ?_;(repeat apply I6)
  refine S9 1 16 ?_;refine V5 ?_;refine Q0 [(1,I0 o0 q0 l0.length),(2,I0 o1 q1 l1.length),cQ a3,G4 st.length,Z9 st.length,(10,M5 st.length),(11,T 0)] ((dN st o0 q0 l0 o1 q1 l1)++(wX a0 0 [] a0.kind a0.name st.length 0 [])) bu ?_;(repeat apply I6)
  refine L3 0 h
   (fun A0 Y=>[(1,I0 o0 q0 l0.length),(2,I0 o1 q1 l1.length),cQ a3,G4 st.length,Z9 st.length,(10,M5 st.length),(11,T Y.2)])
   (fun A0 Y=>((dN st o0 q0 l0 o1 q1 l1)++(aS a0 0 [] a0.kind a0.name st.length A0 Y.1.length Y.1)))
   (fun(gt0:Nat) t0=>[(1,I0 o0 q0 l0.length),(2,I0 o1 q1 l1.length),cQ a3,G4 st.length,Z9 st.length,(10,M5 st.length)])
   (fun gt0 t0=>((dN st o0 q0 l0 o1 q1 l1)++(aS a0 0 [] a0.kind a0.name st.length gt0 t0.length t0)))
   bu
   (fun A0 Y b0 h hx0=>?_) (fun gt0 t0 C8 st1 h H=>?_)
  ·unfold GN at h;refine cd h ?_ ?_<;>intro K h
   ·have⟨V,h⟩:=ck V h;refine rn ?_;refine L3 () h
     (fun J3 s2=>[(1,I0 o0 q0 l0.length),(2,I0 o1 q1 l1.length),cQ a3,G4 st.length,Z9 st.length,(10,M5 st.length),(11,T Y.2),(12,.str (get a0.words Y.2.toNat)),(13,T s2)])
     (fun J3 s2=>((dN st o0 q0 l0 o1 q1 l1)++(aS a0 0 [] a0.kind a0.name st.length A0 Y.1.length Y.1)))
     (fun(I3:Unit) t2=>[(1,I0 o0 q0 l0.length),(2,I0 o1 q1 l1.length),cQ a3,G4 st.length,Z9 st.length,(10,M5 st.length),(11,T Y.2),(12,.str t2)])
     (fun I3 t2=>((dN st o0 q0 l0 o1 q1 l1)++(aS a0 0 [] a0.kind a0.name st.length A0 Y.1.length Y.1)))
     bu
     (fun J3 s2 b2 h V3=>?_) (fun I3 t2 C8 st1 h H=>?_)
    ·unfold d9h at h;refine cd h ?_ ?_<;>intro K h
     ·refine r0 ?_;refine r0 ?_;have⟨V,h⟩:=ck V h;have fy:=S2 B2 l0 s2.toNat;have fy:=fm fy (s2.toNat<l0.length);refine r1 ?_;refine cd h ?_ ?_<;>intro K h
      ·have⟨V,h⟩:=ck V h;have fy:=S2 B2 l1 s2.toNat;have fy:=fm fy (s2.toNat<l1.length);refine r1 ?_;refine rn ?_;cases h;exact K7 () bu
      ·refine rn ?_;cases h;exact I7 () bu
     ·refine rn ?_;cases h;exact K7 () bu
    ·unfold XF at h;refine D1 H ?_;have⟨lU,xC,h⟩:=E1 h;have fy:=J1 B2 (I5 t2) xC;have fy:=fl fy xC;have⟨V,h⟩:=ck V h;refine r1 ?_;refine rn ?_;cases h;exact I7 (A0+1) bu
   ·refine rn ?_;cases h;exact K7 A0 bu
  ·unfold XH at h;refine D1 H ?_;refine rn ?_;refine L3 (0,0) h
    (fun P4 s3=>[(1,I0 o0 q0 l0.length),(2,I0 o1 q1 l1.length),cQ a3,G4 st.length,Z9 st.length,(10,M5 st.length),(14,cO st.length P4.1 s3.1.length),(15,nA st.length P4.2 s3.2.1.length),(16,T s3.2.2)])
    (fun P4 s3=>((dN st o0 q0 l0 o1 q1 l1)++(DC a0 0 [] a0.kind a0.name st.length gt0 t0.length t0 P4.1 s3.1 P4.2 s3.2.1)))
    (fun(T3:kf) t3=>(OM a3 st.length T3.1 t3.1.length T3.2 t3.2.length))
    (fun T3 t3=>((dN st o0 q0 l0 o1 q1 l1)++(DC a0 0 [] a0.kind a0.name st.length gt0 t0.length t0 T3.1 t3.1 T3.2 t3.2)))
    bu
    (fun P4 s3 b3 h lW=>?_) (fun T3 t3 C8 st1 h H=>?_)
   ·unfold GO at h;refine cd h ?_ ?_<;>intro K h
    ·refine rn ?_;have⟨V,h⟩:=ck V h;have fy:=S2 B2 l0 s3.2.2.toNat;have fy:=fm fy (s3.2.2.toNat<l0.length);have⟨NY,i0N,h⟩:=E1 h;have fy:=fa fy (J1 B2 (I5 (get l0 s3.2.2.toNat)) i0N);have fy:=fl fy i0N;have⟨V,h⟩:=ck V h;have⟨V,h⟩:=ck V h;have fy:=fa fy (S2 B2 l1 s3.2.2.toNat);have fy:=fm fy (s3.2.2.toNat<l1.length);have⟨NZ,i0O,h⟩:=E1 h;have fy:=fa fy (J1 B2 (I5 (get l1 s3.2.2.toNat)) i0O);have fy:=fl fy i0O;have⟨V,h⟩:=ck V h;refine cG [6,10,11] 4 ?_;try refine⟨by first|omega|(simp<;>omega),?_⟩
     refine rn ?_;cases h;exact I7 ((P4.1+1),(P4.2+1)) bu
    ·refine rn ?_;cases h;exact K7 (P4.1,P4.2) bu
   ·unfold XI at h;refine D1 H ?_;refine rn ?_;refine V4 (Di (oo n) n a0 a3 t0) r (fun(aI:kf) j4=>(OM a3 st.length aI.1 j4.2.1.length aI.2 j4.2.2.length)) (fun aI j4=>((dN st o0 q0 l0 o1 q1 l1)++(DC a0 0 [] a0.kind j4.1 st.length gt0 t0.length t0 aI.1 j4.2.1 aI.2 j4.2.2))) (fun aI j4 C8 st1 h H=>?_) (fun Iu=>?_)
    ·unfold Di at h;refine D1 H ?_;refine r0 ?_;refine r0 ?_;(repeat apply I6)
     refine S9 4 72 ?_;refine V5 ?_;refine Q0 (OL (wr .i64 (a3+1)) st.length aI.1 j4.2.1.length aI.2 j4.2.2.length 0) ((dN st o0 q0 l0 o1 q1 l1)++[G3 a0,O4 0 [],DF a0.kind j4.1 st.length gt0 t0.length 0 0,J2 gt0 t0,J2 aI.1 j4.2.1,J2 aI.2 j4.2.2,kG []]) bu ?_;(repeat apply I6)
     refine L3 0 h
      (fun V9 s5=>(OL s5.2.2 st.length aI.1 j4.2.1.length aI.2 j4.2.2.length s5.2.1))
      (fun V9 s5=>((dN st o0 q0 l0 o1 q1 l1)++[G3 a0,O4 0 [],DF a0.kind j4.1 st.length gt0 t0.length V9 s5.1.length,J2 gt0 t0,J2 aI.1 j4.2.1,J2 aI.2 j4.2.2,eC V9 s5.1]))
      (fun(aj:Nat) t5=>[cQ t5.2,Z9 st.length,(10,M5 st.length)])
      (fun aj t5=>((dN st o0 q0 l0 o1 q1 l1)++[none,O4 0 [],DF a0.kind j4.1 st.length gt0 t0.length aj t5.1.length,J2 gt0 t0,none,none,eC aj t5.1]))
      bu
      (fun V9 s5 b5 h Il=>?_) (fun aj t5 C8 st1 h H=>?_)
     ·unfold MX at h;refine cd h ?_ ?_<;>intro K h
      ·have⟨V,h⟩:=ck V h;refine rn ?_;have⟨v124,p4a,h⟩:=D0 h;refine(vH (ih _ _ _ _ _ p4a _ _ _ aI.1 aI.2 B5 (aN.trans rfl) (aN.trans rfl))).mono ?_;rintro d1 st1 ⟨rfl,rfl⟩;try simp only[go_sem,V]
       have⟨pW,Af,h⟩:=E1 h;have fy:=J1 O.cells (gM v124.1) Af;have fy:=fl fy Af;have⟨V,h⟩:=ck V h;refine r1 ?_;refine rn ?_;cases h;exact I7 (V9+1) bu
      ·refine rn ?_;cases h;exact K7 V9 bu
     ·unfold XG at h;refine D1 H ?_;refine rr ?_;exact sw (.E8 [gL a0.kind j4.1 t0 t5.1,T t5.2])
    ·refine cd h ?_ ?_<;>intro K h
     ·refine rn ?_;have⟨Hu,p4b,h⟩:=D0 h;refine(aP (Zr n _ _ p4b)).to ?_;have⟨V,h⟩:=ck V h;refine rn ?_;have⟨Oa,i0P,h⟩:=E1 h;have fy:=J1 B2 (I5 a0.name) i0P;have fy:=fl fy i0P;have⟨V,h⟩:=ck V h;have⟨Oc,i0Q,h⟩:=E1 h;have fy:=fa fy (J1 B2 (I5 (O1 [63] Hu)) i0Q);have fy:=fl fy i0Q;have⟨V,h⟩:=ck V h;refine cG [4,7] 4 ?_;try refine⟨by first|omega|(simp<;>omega),?_⟩
      exact Iu ((T3.1+1),(T3.2+1)) _ _ _ h bu
     ·refine r0 ?_;exact Iu (T3.1,T3.2) _ _ _ h bu
theorem p4c n a0 I a2 a3 r(h:GP n a0 I a2 a3=some r):L8 23 [K4 a0,C0 I,C0 a2,T a3] (.E8 [K4 r.1,T r.2]):=by
 intro st;unfold GP at h;have V:=trivial;refine mM ?_;refine fb 133 [.cell 8 26,.tmp 9] [0,1,2,3,4,8,9,10,11,12,13,14,15,16,17,18,28,40,48,64,85,86,87,88,109] Tryz.func23 fun hsc=>?_;refine r0 ?_;refine r0 ?_;refine r0 ?_;(repeat apply I6)
 refine S9 1 16 ?_;refine V5 ?_;refine Q0 [W7 I,aF a2,cQ a3,G4 st.length,Z9 st.length,(10,M5 st.length),(11,T 0)] (st++(wX a0 0 [] a0.kind a0.name st.length 0 [])) bm ?_;(repeat apply I6)
 refine L3 0 h
  (fun A0 Y=>[W7 I,aF a2,cQ a3,G4 st.length,Z9 st.length,(10,M5 st.length),(11,T Y.2)])
  (fun A0 Y=>(st++(aS a0 0 [] a0.kind a0.name st.length A0 Y.1.length Y.1)))
  (fun(gt0:Nat) t0=>[W7 I,aF a2,cQ a3,G4 st.length,Z9 st.length,(10,M5 st.length)])
  (fun gt0 t0=>(st++(aS a0 0 [] a0.kind a0.name st.length gt0 t0.length t0)))
  bm
  (fun A0 Y b0 h hx0=>?_) (fun gt0 t0 C8 st1 h H=>?_)
 ·unfold d9k at h;refine cd h ?_ ?_<;>intro K h
  ·have⟨V,h⟩:=ck V h;refine rn ?_;refine L3 () h
    (fun J3 s2=>[W7 I,aF a2,cQ a3,G4 st.length,Z9 st.length,(10,M5 st.length),(11,T Y.2),(12,.str (get a0.words Y.2.toNat)),(13,T s2)])
    (fun J3 s2=>(st++(aS a0 0 [] a0.kind a0.name st.length A0 Y.1.length Y.1)))
    (fun(I3:Unit) t2=>[W7 I,aF a2,cQ a3,G4 st.length,Z9 st.length,(10,M5 st.length),(11,T Y.2),(12,.str t2)])
    (fun I3 t2=>(st++(aS a0 0 [] a0.kind a0.name st.length A0 Y.1.length Y.1)))
    bm
    (fun J3 s2 b2 h V3=>?_) (fun I3 t2 C8 st1 h H=>?_)
   ·unfold d9i at h;refine cd h ?_ ?_<;>intro K h
    ·have⟨V,h⟩:=ck V h;refine cd h ?_ ?_<;>intro K h
     ·have⟨V,h⟩:=ck V h;refine rn ?_;cases h;exact K7 () bm
     ·refine rn ?_;cases h;exact I7 () bm
    ·refine rn ?_;cases h;exact K7 () bm
   ·unfold d9j at h;refine D1 H ?_;have⟨Od,i0R,h⟩:=E1 h;have fy:=J1 B2 (I5 t2) i0R;have fy:=fl fy i0R;have⟨V,h⟩:=ck V h;refine r1 ?_;refine rn ?_;cases h;exact I7 (A0+1) bm
  ·refine rn ?_;cases h;exact K7 A0 bm
 ·unfold d9p at h;refine D1 H ?_;refine rn ?_;refine L3 (0,0) h
   (fun P4 s3=>[W7 I,aF a2,cQ a3,G4 st.length,Z9 st.length,(10,M5 st.length),(14,cO st.length P4.1 s3.1.length),(15,nA st.length P4.2 s3.2.1.length),(16,T s3.2.2)])
   (fun P4 s3=>(st++(DC a0 0 [] a0.kind a0.name st.length gt0 t0.length t0 P4.1 s3.1 P4.2 s3.2.1)))
   (fun(T3:kf) t3=>(OM a3 st.length T3.1 t3.1.length T3.2 t3.2.length))
   (fun T3 t3=>(st++(DC a0 0 [] a0.kind a0.name st.length gt0 t0.length t0 T3.1 t3.1 T3.2 t3.2)))
   bm
   (fun P4 s3 b3 h lW=>?_) (fun T3 t3 C8 st1 h H=>?_)
  ·unfold d9l at h;refine cd h ?_ ?_<;>intro K h
   ·refine rn ?_;have⟨V,h⟩:=ck V h;have⟨Oe,i0S,h⟩:=E1 h;have fy:=J1 B2 (I5 (get I s3.2.2.toNat)) i0S;have fy:=fl fy i0S;have⟨V,h⟩:=ck V h;have⟨V,h⟩:=ck V h;have⟨tN,HX,h⟩:=E1 h;have fy:=fa fy (J1 B2 (I5 (get a2 s3.2.2.toNat)) HX);have fy:=fl fy HX;have⟨V,h⟩:=ck V h;refine cG [6,10,11] 4 ?_;try refine⟨by first|omega|(simp<;>omega),?_⟩
    refine rn ?_;cases h;exact I7 ((P4.1+1),(P4.2+1)) bm
   ·refine rn ?_;cases h;exact K7 (P4.1,P4.2) bm
  ·unfold d9o at h;refine D1 H ?_;refine rn ?_;refine V4 (Oi n a0 a3 t0) r (fun(aI:kf) j4=>(OM a3 st.length aI.1 j4.2.1.length aI.2 j4.2.2.length)) (fun aI j4=>(st++(DC a0 0 [] a0.kind j4.1 st.length gt0 t0.length t0 aI.1 j4.2.1 aI.2 j4.2.2))) (fun aI j4 C8 st1 h H=>?_) (fun Iu=>?_)
   ·unfold Oi at h;refine D1 H ?_;refine r0 ?_;refine r0 ?_;(repeat apply I6)
    refine S9 4 72 ?_;refine V5 ?_;refine Q0 (OL (wr .i64 (a3+1)) st.length aI.1 j4.2.1.length aI.2 j4.2.2.length 0) (st++[G3 a0,O4 0 [],DF a0.kind j4.1 st.length gt0 t0.length 0 0,J2 gt0 t0,J2 aI.1 j4.2.1,J2 aI.2 j4.2.2,kG []]) bm ?_;(repeat apply I6)
    refine L3 0 h
     (fun V9 s5=>(OL s5.2.2 st.length aI.1 j4.2.1.length aI.2 j4.2.2.length s5.2.1))
     (fun V9 s5=>(st++[G3 a0,O4 0 [],DF a0.kind j4.1 st.length gt0 t0.length V9 s5.1.length,J2 gt0 t0,J2 aI.1 j4.2.1,J2 aI.2 j4.2.2,eC V9 s5.1]))
     (fun(aj:Nat) t5=>[cQ t5.2,Z9 st.length,(10,M5 st.length)])
     (fun aj t5=>((st++[none,O4 0 [],DF a0.kind j4.1 st.length gt0 t0.length aj t5.1.length,J2 gt0 t0,none,none,eC aj t5.1])))
     bm
     (fun V9 s5 b5 h Il=>?_) (fun aj t5 C8 st1 h H=>?_)
    ·unfold d9m at h;refine cd h ?_ ?_<;>intro K h
     ·have⟨V,h⟩:=ck V h;refine rn ?_;have⟨Og,p4d,h⟩:=D0 h;refine(vH (p3Z n _ _ _ _ _ p4d _ _ _ aI.1 aI.2 B5 (P5.trans rfl) (P5.trans rfl))).mono ?_;rintro d1 st1 ⟨rfl,rfl⟩;try simp only[go_sem,V]
      have⟨Oh,i0T,h⟩:=E1 h;have fy:=J1 O.cells (gM Og.1) i0T;have fy:=fl fy i0T;have⟨V,h⟩:=ck V h;refine r1 ?_;refine rn ?_;cases h;exact I7 (V9+1) bm
     ·refine rn ?_;cases h;exact K7 V9 bm
    ·unfold d9n at h;refine D1 H ?_;refine rr ?_;exact fp (.E8 [gL a0.kind j4.1 t0 t5.1,T t5.2])
   ·refine cd h ?_ ?_<;>intro K h
    ·refine rn ?_;have⟨v72,p4e,h⟩:=D0 h;refine(aP (Zr n _ _ p4e)).to ?_;have⟨V,h⟩:=ck V h;refine rn ?_;have⟨tU,Iv,h⟩:=E1 h;have fy:=J1 B2 (I5 a0.name) Iv;have fy:=fl fy Iv;have⟨V,h⟩:=ck V h;have⟨Oj,i0U,h⟩:=E1 h;have fy:=fa fy (J1 B2 (I5 (O1 [63] v72)) i0U);have fy:=fl fy i0U;have⟨V,h⟩:=ck V h;refine cG [4,7] 4 ?_;try refine⟨by first|omega|(simp<;>omega),?_⟩
     exact Iu ((T3.1+1),(T3.2+1)) _ _ _ h bm
    ·refine r0 ?_;exact Iu (T3.1,T3.2) _ _ _ h bm
