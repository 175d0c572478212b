import Derived.Test.YtchbmngmmdeenaaGreatDoorTMWalk0
set_option linter.unusedVariables false
set_option linter.unusedSimpArgs false
set_option maxHeartbeats 2000000
set_option maxRecDepth 100000
namespace Go.Proofs.YtchbmngmmdeenaaGreatDoor
open Go Go.Am
theorem p2J n a0 I r(h:Gb n a0 I=some r):L8 56 [.agg (bM a0),K4 I] (.E8 [W6 r.1,.bool r.2]):=by
 intro st;unfold Gb at h;have V:=trivial;refine fb 83 [.tmp 4,.tmp 5] [0,1,2,3,4,5,6,7,8,9,11,13,14,24,27,28,29,30,47,48,49,50,61,62,63,64,65,72] Tryz.func56 fun hsc=>?_;refine cl h (p2C n _) fun v1 h=>?_;refine rn ?_;have⟨v2,hv2,h⟩:=D0 h;refine(p2F n _ _ _ _ _ hv2 _ _ B5 (P5.trans rfl)).mono ?_;rintro d1 st1 ⟨rfl,rfl⟩;refine cd h ?_ ?_<;>intro K h
 ·refine rr ?_;exact fp (.E8 [W6 [],.bool false])
 ·refine cl h (DN n _) fun v3 h=>?_;try simp only[go_sem,V]
  (repeat apply I6)
  refine S9 1 16 ?_;refine V5 ?_;refine Q0 [(6,.mp (st.length+2)),jO st.length,(8,.A9),(9,cO st.length 0 0),(27,C0 v3),(28,T ↑v3.length),(29,T 0)] ((st++[some (.arr 0 7 0 [bM a0]),some (.arr 0 4 0 (gM I)),some (nB v2.2),some (.arr 0 7 0 [bM v1]),some (.arr 0 1 16 (rows B2 []))])) bm ?_;refine Q9 27 fun H6=>?_;refine O8 0 V H6 h
   (fun A0 k0 Y=>[(6,.mp (st.length+2)),jO st.length,(8,.A9),(9,cO st.length A0 Y.length),(27,C0 v3),(28,T ↑v3.length),(29,T ↑k0)])
   (fun A0 k0 Y=>(st++[none,none,some (nB v2.2),some (.arr 0 7 0 [bM v1]),some (.arr A0 1 16 (rows B2 Y))]))
   (fun gt0 t0=>[(6,.mp (st.length+2)),jO st.length,(8,.A9),(9,cO st.length gt0 t0.length)])
   (fun gt0 t0=>(st++[none,none,some (nB v2.2),some (.arr 0 7 0 [bM v1]),some (.arr gt0 1 16 (rows B2 t0))]))
   bm
   (fun A0 k0 Y b0 V h hx0=>?_) (fun gt0 t0 C8 st1 h H=>?_)
  ·unfold Vu at h;refine ct ?_;refine r0 ?_;refine r0 ?_;refine r0 ?_;have⟨lV,xD,h⟩:=E1 h;have fy:=J1 B2 (I5 (((assoc (get v3 k0) v2.2).getD default).text)) xD;have fy:=fl fy xD;have⟨V,h⟩:=ck V h;refine r1 ?_;refine rn ?_;cases h;exact L6 (A0+1) bm
  ·unfold Vv at h;refine D1 H ?_;refine B ?_;refine dw [] 1 ?_;have⟨cK,tC,h⟩:=D0 h;refine aL (d9S _ _ tC) ?_;try simp only[go_sem,V]
   have⟨v17,KZ,h⟩:=D0 h;refine aL (DN n _ _ KZ) ?_;try simp only[go_sem,V]
   have⟨S0,Ae,h⟩:=D0 h;refine aL (d3i _ _ Ae) ?_;try simp only[go_sem,V]
   (repeat apply I6)
   refine S9 6 104 ?_;refine V5 ?_;refine Q0 [(6,.mp (st.length+2)),jO st.length,(8,.ref false (st.length+6) 0 0 0),(9,cO st.length gt0 t0.length),(47,C0 S0),(48,T ↑S0.length),(49,T 0)] ((st++[none,none,some (nB v2.2),some (.arr 0 7 0 [bM v1]),some (.arr gt0 1 16 (rows B2 t0)),none,some (.arr 0 6 104 (rows C4.cells []))])) bm ?_;refine Q9 47 fun aR=>?_;refine O8 0 V aR h
    (fun D8 k1 s1=>[(6,.mp (st.length+2)),jO st.length,(8,.ref false (st.length+6) D8 0 s1.length),(9,cO st.length gt0 t0.length),(47,C0 S0),(48,T ↑S0.length),(49,T ↑k1)])
    (fun D8 k1 s1=>(st++[none,none,some (nB v2.2),some (.arr 0 7 0 [bM v1]),some (.arr gt0 1 16 (rows B2 t0)),none,some (.arr D8 6 104 (rows C4.cells s1))]))
    (fun G1 t1=>[(8,.ref false (st.length+6) G1 0 t1.length)])
    (fun G1 t1=>((st++[none,none,none,none,none,none,some (.arr G1 6 104 (rows C4.cells t1))])))
    bm
    (fun D8 k1 s1 b1 V h U8=>?_) (fun G1 t1 C8 st1 h H=>?_)
   ·unfold Vw at h;refine ct ?_;refine cl h (gO _ _) fun kq h=>?_;refine rn ?_;have⟨v39,i0c,h⟩:=D0 h;refine i4q (fun hG=>(p2H _ _ _ (cg i0c (by simpa using hG)) _ _ gt0 B5 (P5.trans rfl))) (fun hF=>by obtain rfl:=i4e i0c (by simpa using hF);simp only[go_sem,V]) ?_;refine cd h ?_ ?_<;>intro K h
    ·refine ra ?_;cases h;refine aM ?_;have h:=congrArg some (U8 _ rfl);refine rr ?_;exact fp (.E8 [W6 [],.bool false])
    ·have⟨V,h⟩:=ck V h;refine cl h (gO _ _) fun wR h=>?_;refine cd h ?_ ?_<;>intro K h
     ·refine cl h (p2I n _) fun kF h=>?_;try simp only[go_sem,V]
      have⟨tO,HZ,h⟩:=E1 h;have fy:=J1 C4.cells [[.str ((get S0 k1).drop 1),.str (((assoc (get S0 k1) v2.2).getD default).text),T kF.kind,.str kF.name,C0 kF.words,J9 kF.subs]] HZ;have fy:=fl fy HZ;have⟨V,h⟩:=ck V h;refine r1 ?_;refine rn ?_;cases h;exact L6 (D8+1) bm
     ·refine r0 ?_;have⟨pV,Ia,h⟩:=E1 h;have fy:=J1 C4.cells [[.str ((get S0 k1).drop 1),.str (((assoc (get S0 k1) v2.2).getD default).text),T (((assoc (get S0 k1) v2.2).getD default).form.kind),.str (((assoc (get S0 k1) v2.2).getD default).form.name),C0 (((assoc (get S0 k1) v2.2).getD default).form.words),J9 (((assoc (get S0 k1) v2.2).getD default).form.subs)]] Ia;have fy:=fl fy Ia;have⟨V,h⟩:=ck V h;refine r1 ?_;refine rn ?_;cases h;exact L6 (D8+1) bm
   ·unfold Vx at h;refine D1 H ?_;refine rr ?_;exact fp (.E8 [W6 t1,.bool true])
theorem Zf a0 I r(h:zj a0 I=some r):L8 90 [W6 a0,.str I] (.str r):=by
 intro st;unfold zj at h;have V:=trivial;refine fb 21 [.tmp 4] [0,1,4,6,7,8,9,10,16] Tryz.func90 fun hsc=>?_;refine Q9 7 fun H6=>?_;refine O8 () V H6 h
  (fun A0 k0 Y=>[(1,.str I),(7,W6 a0),(8,T ↑a0.length),(9,T ↑k0)])
  (fun A0 k0 Y=>st)
  (fun gt0 t0=>[(1,.str I)])
  (fun gt0 t0=>st)
  O7
  (fun A0 k0 Y b0 V h hx0=>?_) (fun gt0 t0 C8 st1 h H=>?_)
 ·unfold VN at h;refine ct ?_;refine cd h ?_ ?_<;>intro K h
  ·refine ra ?_;cases h;refine aM ?_;have h:=congrArg some (hx0 _ rfl);exact rt
  ·refine rn ?_;cases h;exact L6 () uZ
 ·unfold VO at h;refine D1 H ?_;exact rt
theorem p2K:∀n a0 I m1 iP iQ iR iS iT iU iV r (h:sT n a0 I m1 iP iQ iR iS iT iU iV=some r),∀st o0 o1 o2 o3 (hnd: [o0,o1,o2,o3].Nodup) (E7:Am.look st o0=some (.arr 0 1 0 [[.mp o1]])) (L9:Am.look st o1=some (.mps false (L5 B2 m1))) (T2:Am.look st o2=some (.arr 0 7 0 [[T iP,.str iQ,C0 iR,J9 iS,C0 iT,C0 iU,C0 iV]])) (aG:Am.look st o3=some (.arr 0 1 0 [[.fn 119 [] [B6 o0,B6 o2,B6 o3]]])),U5 119 [K4 a0,.str I,B6 o0,B6 o2,B6 o3] st (fun d st'=>d= .E8 []/\st'=puts st (Hy o0 o1 r o2 iP iQ iR iS iT iU iV o3)):=by
 intro n;induction n with
 |zero=>intro a0 I m1 iP iQ iR iS iT iU iV r h;cases h
 |succ n ih=>
  intro a0 I m1 iP iQ iR iS iT iU iV r h st o0 o1 o2 o3 hnd E7 L9 T2 aG;unfold sT at h;have N9:=E2 E7;have T5:=E2 L9;have V2:=E2 T2;have jP:=E2 aG;have V:=fa (fa (fa (fa (H7 N9) (H7 T5)) (H7 V2)) (H7 jP)) (Ro hnd);refine fb 45 [] [0,1,2,3,4,5,8,9,10,21,22,23,24,30,31,32,33] Tryz.func119 fun hsc=>?_;refine ast (C2 st (Hy o0 o1 m1 o2 iP iQ iR iS iT iU iV o3)) ?_;refine rn ?_;have⟨v1,hv1,h⟩:=D0 h;refine gi (fun hG=>(Aa _ _ _ (cg hv1 (by simpa using hG)))) ?_;refine rn ?_;refine V4 (CG (sT n) I a0 iP iQ iR iS iT iU iV) r (fun(bN:Unit) j0=>[(1,.str I),G4 o3,(5,B6 st.length)]) (fun bN j0=>((C2 st (Hy o0 o1 j0 o2 iP iQ iR iS iT iU iV o3))++[G3 a0])) (fun bN j0 C8 st1 h H=>?_) (fun hj0=>?_)
  ·unfold CG at h;refine D1 H ?_;refine Q9 30 fun aR=>?_;refine O8 () V aR h
    (fun D8 k1 s1=>[(1,.str I),G4 o3,(30,J9 a0.subs),(31,T ↑a0.subs.length),(32,T ↑k1)])
    (fun D8 k1 s1=>(C2 st (Hy o0 o1 s1 o2 iP iQ iR iS iT iU iV o3)))
    (fun G1 t1=>[])
    (fun G1 t1=>(C2 st (Hy o0 o1 t1 o2 iP iQ iR iS iT iU iV o3)))
    vd
    (fun D8 k1 s1 b1 V h U8=>?_) (fun G1 t1 C8 st1 h H=>?_)
   ·unfold VX at h;refine ct ?_;refine rn ?_;refine dw [6] 0 ?_;have⟨v7,zZ,h⟩:=D0 h;refine aL (EV _ _ zZ) ?_;have⟨V,h⟩:=ck V h;try simp only[go_sem,V]
    have⟨v9,qh,h⟩:=D0 h;refine K0 [o0,o1,o2,o3] (fun st2 X=>(ih _ _ _ _ _ _ _ _ _ _ _ qh st2 _ _ _ _ hnd (T6 X) (T6 X) (T6 X) (T6 X))) ?_;try simp only[go_sem,V]
    try refine⟨by first|omega|(simp<;>omega),?_⟩
    refine rn ?_;cases h;exact L6 () vd
   ·try simp only[go_sem,V]
    unfold VY at h;refine JM H ?_;refine rr ?_;exact vo (.E8 [])
  ·refine cd h ?_ ?_<;>intro K h
   ·have⟨c2,hc2,h⟩:=E1 h;have fy:=(show I4 a0.name [.str I] (L5 B2 m1)=L5 B2 c2 from by rw[hc2];exact qG (κ:=J) (E:=B2) a0.name I m1);refine r1 ?_;exact hj0 () _ _ _ h bu
   ·refine r0 ?_;exact hj0 () _ _ _ h bu
theorem p2L n a0 r(h:Gg n a0=some r):∀st:St,U5 91 [.agg (bM a0)] st (fun d st'=>d= .mp (st.length+1)/\st'=(st++[none,wZ r])):=by intro st;unfold Gg at h;have V:=trivial;refine fb 12 [.tmp 2] [0,1,2,3,4] Tryz.func91 fun hsc=>?_;refine rn ?_;have⟨v1,hv1,h⟩:=D0 h;refine(p2K n _ _ _ _ _ _ _ _ _ _ _ hv1 _ _ _ _ _ B5 (P5.trans rfl) (P5.trans rfl) (uN.trans rfl) (P5.trans rfl)).mono ?_;rintro d1 st1 ⟨rfl,rfl⟩;refine rr ?_;exact Ke [none,wZ v1] (.mp (st.length+1)) (.same _) h hsc
theorem i0d a0 r(h:Cz a0=some r):L8 58 [.sl false 6 88 (rows K1.cells a0)] (.E8 [T r.1,T r.2.1,.bool r.2.2]):=by
 intro st;unfold Cz at h;have V:=trivial;refine fb 33 [.tmp 2,.tmp 3,.tmp 4] [0,2,3,4,5,6,8,9,10,11,12,30,31] Tryz.func58 fun hsc=>?_;refine Q9 9 fun H6=>?_;refine O8 () V H6 h
  (fun A0 k0 Y=>[cR Y.1,dh Y.2,(9,.sl false 6 88 (rows K1.cells a0)),(10,T ↑a0.length),(11,T ↑k0)])
  (fun A0 k0 Y=>st)
  (fun gt0 t0=>[cR t0.1,dh t0.2])
  (fun gt0 t0=>st)
  O7
  (fun A0 k0 Y b0 V h hx0=>?_) (fun gt0 t0 C8 st1 h H=>?_)
 ·unfold Vp at h;refine ct ?_;refine rn ?_;refine dw [] 0 ?_;refine rn ?_;cases h;exact L6 () uZ
 ·unfold Vq at h;refine D1 H ?_;exact rt
set_option maxHeartbeats 30000000 in
set_option maxRecDepth 100000 in
theorem p2M jM(Zg:∀I a2 B0 C7 m1 l2 r (h:jM I a2 B0 C7 m1 l2=some r),∀st o0 o1 o2 q2 (hnd: [o0,o1,o2].Nodup) (E7:Am.look st o0=some (.arr 0 4 0 (fX B0 o1 o2 (q2+l2.length) l2.length C7))) (L9:Am.look st o1=some (.mps false (L5 aY m1))) (T2:Am.look st o2=some (.arr (q2+l2.length) 2 16 (rows C6.cells l2))),U5 34 [B6 o0,K4 I,.str a2] st (fun d st'=>d=(zX r.1 r.2.1)/\st'=puts st (bC o0 B0 o1 o2 (q2+r.2.2.2.length) r.2.2.2.length r.2.2.1 m1 r.2.2.2))):∀n a0 I B0 G7 G8 C7 G5 G6 G9 M9 N0 N2 N3 m2 J7 J5 K8 Y2 bB eY m9 l10 bh m13 m15 r (h:wI jM n a0 I B0 G7 G8 C7 G5 G6 G9 M9 N0 N2 N3 m2 J7 J5 K8 Y2 bB eY m9 l10 bh m13 m15=some r),∀st o0 o1 o2 o3 o4 o5 o6 o7 o8 o9 bO bD bE jQ aU jR aV Z5 bP (hnd: [o0,o1,o2,o3,o4,o5,o6,o7,o8,o9,bO,bD,bE,jQ,aU,jR,aV,Z5].Nodup) (E7:Am.look st o0=some (.arr 0 11 0 (bL B0 G7 G8 C7 G5 G6 G9 M9 N0 N2 N3))) (L9:Am.look st o1=some (.arr 0 1 0 [[.mp o2]])) (T2:Am.look st o2=some (.mps true (L5 K1.cells m2))) (aG:Am.look st o3=some (.arr 0 1 0 [[W6 J7]])) (jx:Am.look st o4=some (.arr 0 1 0 (U2 J5))) (qe:Am.look st o5=some (.arr 0 1 0 (U2 K8))) (i0e:Am.look st o6=some (.arr 0 1 0 (U2 Y2))) (i0f:Am.look st o7=some (.arr 0 1 0 [[B6 o8]])) (i0g:Am.look st o8=some (.arr 0 4 0 (fX bB o9 bO (bP+l10.length) l10.length eY))) (i0h:Am.look st o9=some (.mps false (L5 aY m9))) (i0i:Am.look st bO=some (.arr (bP+l10.length) 2 16 (rows C6.cells l10))) (i0j:Am.look st bD=some (.arr 0 1 0 (I5 bh))) (i0k:Am.look st bE=some (.arr 0 1 0 [[.mp jQ]])) (i0l:Am.look st jQ=some (.mps false (L5 B2 m13))) (i0m:Am.look st aU=some (.arr 0 1 0 [[.mp jR]])) (i0n:Am.look st jR=some (.mps false (L5 B2 m15))) (i0o:Am.look st aV=some (.arr 0 1 0 kJ)) (i0p:Am.look st Z5=some (.arr 0 1 0 (nk o0 o1 o3 o4 o5 o6 o7 bD bE aU aV Z5))),U5 92 [K4 a0,C0 I,B6 o0,B6 o1,B6 o3,B6 o4,B6 o5,B6 o6,B6 o7,B6 bD,B6 bE,B6 aU,B6 aV,B6 Z5] st (fun d st'=>d=(zX r.1 r.2.1)/\st'=puts st (oC o0 (bL B0 G7 G8 C7 G5 G6 G9 M9 N0 N2 N3) o1 o2 r.2.2.2.2 o3 (W6 J7) o4 (U2 J5) o5 (U2 K8) o6 (U2 Y2) o7 (B6 o8) o8 (fX bB o9 bO (bP+r.2.2.2.1.length) r.2.2.2.1.length r.2.2.1) o9 m9 bO (bP+r.2.2.2.1.length) r.2.2.2.1 bD (I5 bh) bE jQ m13 aU jR m15 aV kJ Z5 (nk o0 o1 o3 o4 o5 o6 o7 bD bE aU aV Z5))):=by
 intro n;induction n with
 |zero=>intro a0 I B0 G7 G8 C7 G5 G6 G9 M9 N0 N2 N3 m2 J7 J5 K8 Y2 bB eY m9 l10 bh m13 m15 r h;cases h
 |succ n ih=>
  intro a0 I B0 G7 G8 C7 G5 G6 G9 M9 N0 N2 N3 m2 J7 J5 K8 Y2 bB eY m9 l10 bh m13 m15 r h st o0 o1 o2 o3 o4 o5 o6 o7 o8 o9 bO bD bE jQ aU jR aV Z5 bP hnd E7 L9 T2 aG jx qe i0e i0f i0g i0h i0i i0j i0k i0l i0m i0n i0o i0p;unfold wI at h;have N9:=E2 E7;have T5:=E2 L9;have V2:=E2 T2;have jP:=E2 aG;have tY:=E2 jx;have Ab:=E2 qe;have ho6:=E2 i0e;have ho7:=E2 i0f;have ho8:=E2 i0g;have ho9:=E2 i0h;have p2R:=E2 i0i;have p2S:=E2 i0j;have p2T:=E2 i0k;have p2U:=E2 i0l;have p2V:=E2 i0m;have p2W:=E2 i0n;have p2X:=E2 i0o;have p2Y:=E2 i0p;have V:=fa (i5u hnd N9 T5 V2 jP tY Ab ho6 ho7 ho8 ho9 p2R p2S p2T p2U p2V p2W p2X p2Y) (qL (i5B hnd));refine fb 188 [.cell 16 78,.tmp 17] [0,1,2,3,4,5,6,7,8,9,10,11,12,13,14,16,17,18,19,21,22,24,25,27,28,29,30,34,42,53,54,55,56,63,91,92,93,94,99,119,134,148,149,150,151,162] Tryz.func92 fun hsc=>?_;refine ast (C2 st (oC o0 (bL B0 G7 G8 C7 G5 G6 G9 M9 N0 N2 N3) o1 o2 m2 o3 (W6 J7) o4 (U2 J5) o5 (U2 K8) o6 (U2 Y2) o7 (B6 o8) o8 (fX bB o9 bO (bP+l10.length) l10.length eY) o9 m9 bO (bP+l10.length) l10 bD (I5 bh) bE jQ m13 aU jR m15 aV kJ Z5 (nk o0 o1 o3 o4 o5 o6 o7 bD bE aU aV Z5))) ?_;refine cl h (Aa _ _) fun v1 h=>?_;refine cd h ?_ ?_<;>intro K h
  ·refine cd h ?_ ?_<;>intro K h
   ·refine rr ?_;exact aO (.E8 [.agg (tW (((assoc a0.name m2).getD default).form.kind) (((assoc a0.name m2).getD default).form.name) (((assoc a0.name m2).getD default).form.words) (((assoc a0.name m2).getD default).form.subs) (((assoc a0.name m2).getD default).nodes) (((assoc a0.name m2).getD default).depth)),.bool true])
   ·have⟨V,h⟩:=ck V h;refine Q9 53 fun H6=>?_;refine O8 () V H6 h
     (fun A0 k0 Y=>[U1 o1,(8,B6 o7),(9,B6 bD),(10,B6 bE),(14,B6 st.length),(16,Z2 st.length),(18,M5 st.length),(19,.bool Y.2.2.2.2.2.2.2.2),(53,W6 ((J7.drop ((wr .i64 (J5+K8)).toNat)).take ((wr .i64 ((wr .i64 (J5+K8))+Y2)).toNat-(wr .i64 (J5+K8)).toNat))),(54,T (↑(((J7.drop ((wr .i64 (J5+K8)).toNat)).take ((wr .i64 ((wr .i64 (J5+K8))+Y2)).toNat-(wr .i64 (J5+K8)).toNat)).length):Int)),(55,T ↑k0)])
     (fun A0 k0 Y=>((C2 st (oC o0 (bL B0 G7 G8 C7 G5 G6 G9 M9 N0 N2 N3) o1 o2 m2 o3 (W6 J7) o4 (U2 J5) o5 (U2 K8) o6 (U2 Y2) o7 (B6 o8) o8 (fX bB o9 bO (bP+Y.2.2.2.2.2.2.2.1.length) Y.2.2.2.2.2.2.2.1.length Y.1) o9 m9 bO (bP+Y.2.2.2.2.2.2.2.1.length) Y.2.2.2.2.2.2.2.1 bD (I5 bh) bE jQ m13 aU jR m15 aV kJ Z5 (nk o0 o1 o3 o4 o5 o6 o7 bD bE aU aV Z5)))++[G3 a0,ju 0 [],some (.arr 0 6 0 [tW Y.2.1 Y.2.2.1 Y.2.2.2.1 Y.2.2.2.2.1 Y.2.2.2.2.2.1 Y.2.2.2.2.2.2.1])]))
     (fun gt0 t0=>[U1 o1,(14,B6 st.length),(16,Z2 st.length),(18,M5 st.length),(19,.bool t0.2.2.2.2.2.2.2.2)])
     (fun gt0 t0=>((C2 st (oC o0 (bL B0 G7 G8 C7 G5 G6 G9 M9 N0 N2 N3) o1 o2 m2 o3 (W6 J7) o4 (U2 J5) o5 (U2 K8) o6 (U2 Y2) o7 (B6 o8) o8 (fX bB o9 bO (bP+t0.2.2.2.2.2.2.2.1.length) t0.2.2.2.2.2.2.2.1.length t0.1) o9 m9 bO (bP+t0.2.2.2.2.2.2.2.1.length) t0.2.2.2.2.2.2.2.1 bD (I5 bh) bE jQ m13 aU jR m15 aV kJ Z5 (nk o0 o1 o3 o4 o5 o6 o7 bD bE aU aV Z5)))++[G3 a0,ju 0 [],some (.arr 0 6 0 [tW t0.2.1 t0.2.2.1 t0.2.2.2.1 t0.2.2.2.2.1 t0.2.2.2.2.2.1 t0.2.2.2.2.2.2.1])]))
     bu
     (fun A0 k0 Y b0 V h hx0=>?_) (fun gt0 t0 C8 st1 h H=>?_) (he:=by intro gs s;refine cf ?_;refine EM ?_;exact⟨gs,bu⟩)
    ·unfold Mp at h;refine ct ?_;refine cd h ?_ ?_<;>intro K h
     ·have⟨V,h⟩:=ck V h;refine rn ?_;have⟨v9,qh,h⟩:=D0 h;refine RL (Zg _ _ _ _ _ _ _ qh _ o8 o9 bO bP (by simp[V]<;>omega) sg sg sg) ?_;refine rn ?_;cases h;exact L6 () bu
     ·refine rn ?_;cases h;exact L6 () bu
    ·unfold Mq at h;refine D1 H ?_;have⟨eA,nC,h⟩:=E1 h;have fy:=(show I4 a0.name (tW t0.2.1 t0.2.2.1 t0.2.2.2.1 t0.2.2.2.2.1 t0.2.2.2.2.2.1 t0.2.2.2.2.2.2.1) (L5 K1.cells m2)=L5 K1.cells eA from by rw[nC];exact qG (κ:=J) (E:=K1.cells) a0.name (K1.mk (O.mk t0.2.1 t0.2.2.1 t0.2.2.2.1 t0.2.2.2.2.1) t0.2.2.2.2.2.1 t0.2.2.2.2.2.2.1) m2);refine r1 ?_;refine rr ?_;exact aO (.E8 [.agg (tW t0.2.1 t0.2.2.1 t0.2.2.2.1 t0.2.2.2.2.1 t0.2.2.2.2.2.1 t0.2.2.2.2.2.2.1),.bool t0.2.2.2.2.2.2.2.2])
  ·refine r0 ?_;refine r0 ?_;refine r0 ?_;(repeat apply I6)
   refine S9 1 16 ?_;refine V5 ?_;refine Q0 [W7 I,G4 o3,(5,B6 o4),(6,B6 o5),(11,B6 aU),(12,B6 aV),(13,B6 Z5),(14,B6 st.length),(16,Z2 st.length),(22,M5 st.length),(91,C0 a0.words),(92,T ↑a0.words.length),(93,T 0)] (((C2 st (oC o0 (bL B0 G7 G8 C7 G5 G6 G9 M9 N0 N2 N3) o1 o2 m2 o3 (W6 J7) o4 (U2 J5) o5 (U2 K8) o6 (U2 Y2) o7 (B6 o8) o8 (fX bB o9 bO (bP+l10.length) l10.length eY) o9 m9 bO (bP+l10.length) l10 bD (I5 bh) bE jQ m13 aU jR m15 aV kJ Z5 (nk o0 o1 o3 o4 o5 o6 o7 bD bE aU aV Z5)))++[G3 a0,ju 0 [],HD a0.kind a0.name st.length 0 0 0,kI []])) bu ?_;refine Q9 91 fun aR=>?_;refine O8 0 V aR h
    (fun D8 k1 s1=>[W7 I,G4 o3,(5,B6 o4),(6,B6 o5),(11,B6 aU),(12,B6 aV),(13,B6 Z5),(14,B6 st.length),(16,Z2 st.length),(22,M5 st.length),(91,C0 a0.words),(92,T ↑a0.words.length),(93,T ↑k1)])
    (fun D8 k1 s1=>((C2 st (oC o0 (bL B0 G7 G8 C7 G5 G6 G9 M9 N0 N2 N3) o1 o2 m2 o3 (W6 J7) o4 (U2 J5) o5 (U2 K8) o6 (U2 Y2) o7 (B6 o8) o8 (fX bB o9 bO (bP+l10.length) l10.length eY) o9 m9 bO (bP+l10.length) l10 bD (I5 bh) bE jQ m13 aU jR m15 aV kJ Z5 (nk o0 o1 o3 o4 o5 o6 o7 bD bE aU aV Z5)))++[G3 a0,ju 0 [],HD a0.kind a0.name st.length D8 s1.length 0,J2 D8 s1]))
    (fun G1 t1=>[W7 I,G4 o3,(5,B6 o4),(6,B6 o5),(11,B6 aU),(12,B6 aV),(13,B6 Z5),(14,B6 st.length),(16,Z2 st.length),(22,M5 st.length)])
    (fun G1 t1=>((C2 st (oC o0 (bL B0 G7 G8 C7 G5 G6 G9 M9 N0 N2 N3) o1 o2 m2 o3 (W6 J7) o4 (U2 J5) o5 (U2 K8) o6 (U2 Y2) o7 (B6 o8) o8 (fX bB o9 bO (bP+l10.length) l10.length eY) o9 m9 bO (bP+l10.length) l10 bD (I5 bh) bE jQ m13 aU jR m15 aV kJ Z5 (nk o0 o1 o3 o4 o5 o6 o7 bD bE aU aV Z5)))++[G3 a0,ju 0 [],HD a0.kind a0.name st.length G1 t1.length 0,J2 G1 t1]))
    bu
    (fun D8 k1 s1 b1 V h U8=>?_) (fun G1 t1 C8 st1 h H=>?_) (he:=by intro gs s;refine cf ?_;refine EM ?_;exact⟨gs,bu⟩)
   ·unfold Wy at h;refine ct ?_;refine cl h (gO _ _) fun v28 h=>?_;refine cd h ?_ ?_<;>intro K h
    ·refine r0 ?_;have⟨tP,Ib,h⟩:=E1 h;have fy:=J1 B2 (I5 ((assoc (get a0.words k1) m15).getD default)) Ib;have fy:=fl fy Ib;have⟨V,h⟩:=ck V h;refine r1 ?_;refine rn ?_;cases h;exact L6 (D8+1) bu
    ·refine B ?_;have⟨V,h⟩:=ck V h;refine dw [] 0 ?_;have⟨v37,Zc,h⟩:=D0 h;refine aL (Zf _ _ _ Zc) ?_;try simp only[go_sem,V]
     have⟨lU,xC,h⟩:=E1 h;have fy:=J1 B2 (I5 v37) xC;have fy:=fl fy xC;have⟨V,h⟩:=ck V h;refine r1 ?_;refine rn ?_;cases h;exact L6 (D8+1) bu
   ·unfold WD at h;refine D1 H ?_;refine cl h (qd _) fun v44 h=>?_;refine rn ?_;refine V4 (zx (wI jM n) a0 B0 G7 G8 C7 G5 G6 G9 M9 N0 N2 N3 J7 J5 K8 Y2 bB m9 bh m13 m15 eY l10 m2 t1) r (fun(HE:Unit) j2=>[W7 j2.2,(13,B6 Z5),(14,B6 st.length),(16,Z2 st.length),(22,M5 st.length)]) (fun HE j2=>((C2 st (oC o0 (bL B0 G7 G8 C7 G5 G6 G9 M9 N0 N2 N3) o1 o2 m2 o3 (W6 J7) o4 (U2 J5) o5 (U2 K8) o6 (U2 Y2) o7 (B6 o8) o8 (fX bB o9 bO (bP+l10.length) l10.length eY) o9 m9 bO (bP+l10.length) l10 bD (I5 bh) bE jQ m13 aU jR m15 aV kJ Z5 (nk o0 o1 o3 o4 o5 o6 o7 bD bE aU aV Z5)))++[G3 a0,ju 0 [],HD a0.kind j2.1 st.length G1 t1.length 0,J2 G1 t1])) (fun HE j2 C8 st1 h H=>?_) (fun hj2=>?_)
    ·unfold zx at h;refine D1 H ?_;refine r0 ?_;refine r0 ?_;(repeat apply I6)
     refine S9 6 88 ?_;refine S9 4 72 ?_;refine V5 ?_;refine Q0 [W7 j2.2,(13,B6 Z5),(16,Z2 st.length),(22,M5 st.length),(25,cO st.length 0 0),(148,J9 a0.subs),(149,T ↑a0.subs.length),(150,T 0)] (((C2 st (oC o0 (bL B0 G7 G8 C7 G5 G6 G9 M9 N0 N2 N3) o1 o2 m2 o3 (W6 J7) o4 (U2 J5) o5 (U2 K8) o6 (U2 Y2) o7 (B6 o8) o8 (fX bB o9 bO (bP+l10.length) l10.length eY) o9 m9 bO (bP+l10.length) l10 bD (I5 bh) bE jQ m13 aU jR m15 aV kJ Z5 (nk o0 o1 o3 o4 o5 o6 o7 bD bE aU aV Z5)))++[G3 a0,ju 0 [],DJ (T a0.kind) j2.1 (W9 st.length G1 t1.length) (nA st.length 0 0) (T 0),J2 G1 t1,some (.arr 0 6 88 (rows K1.cells [])),kG []])) bu ?_;refine Q9 148 fun iI=>?_;refine rng
      (fun(P4:kf)(k3:Nat)(s3:Ko)=>[W7 j2.2,(13,B6 Z5),(16,Z2 st.length),(22,M5 st.length),(25,cO st.length P4.1 s3.2.2.2.1.length),(148,J9 a0.subs),(149,T ↑a0.subs.length),(150,T ↑k3)])
      (fun P4 k3 s3=>((C2 st (oC o0 (bL B0 G7 G8 C7 G5 G6 G9 M9 N0 N2 N3) o1 o2 s3.2.2.1 o3 (W6 J7) o4 (U2 J5) o5 (U2 K8) o6 (U2 Y2) o7 (B6 o8) o8 (fX bB o9 bO (bP+s3.2.1.length) s3.2.1.length s3.1) o9 m9 bO (bP+s3.2.1.length) s3.2.1 bD (I5 bh) bE jQ m13 aU jR m15 aV kJ Z5 (nk o0 o1 o3 o4 o5 o6 o7 bD bE aU aV Z5)))++[none,ju 0 [],DJ (T a0.kind) j2.1 (W9 st.length G1 t1.length) (nA st.length P4.2 s3.2.2.2.2.length) (T 0),J2 G1 t1,some (.arr P4.1 6 88 (rows K1.cells s3.2.2.2.1)),eC P4.2 s3.2.2.2.2]))
      (fun(T3:kf)(t3:Ko)=>[(16,Z2 st.length),(22,M5 st.length),(25,cO st.length T3.1 t3.2.2.2.1.length)])
      (fun T3 t3=>((C2 st (oC o0 (bL B0 G7 G8 C7 G5 G6 G9 M9 N0 N2 N3) o1 o2 t3.2.2.1 o3 (W6 J7) o4 (U2 J5) o5 (U2 K8) o6 (U2 Y2) o7 (B6 o8) o8 (fX bB o9 bO (bP+t3.2.1.length) t3.2.1.length t3.1) o9 m9 bO (bP+t3.2.1.length) t3.2.1 bD (I5 bh) bE jQ m13 aU jR m15 aV kJ Z5 (nk o0 o1 o3 o4 o5 o6 o7 bD bE aU aV Z5)))++[none,ju 0 [],DJ (T a0.kind) j2.1 (W9 st.length G1 t1.length) (nA st.length T3.2 t3.2.2.2.2.length) (T 0),J2 G1 t1,some (.arr T3.1 6 88 (rows K1.cells t3.2.2.2.1)),eC T3.2 t3.2.2.2.2]))
      (0,0) V iI h bu
      (fun P4 k3 s3 b3 V h lW=>?_) (fun P4 s3=>?_) (fun T3 t3 C8 st1 h H=>?_)
     ·unfold WA at h;refine ct ?_;refine rn ?_;have⟨v70,p2Z,h⟩:=D0 h;refine RL (ih _ _ _ _ _ _ _ _ _ _ _ _ _ _ _ _ _ _ _ _ _ _ _ _ _ _ p2Z _ _ _ _ _ _ _ _ _ _ _ _ _ _ _ _ _ _ _ bP hnd sg sg sg sg sg sg sg sg sg sg sg sg sg sg sg sg sg sg) ?_;refine cd h ?_ ?_<;>intro K h
      ·refine ra ?_;cases h;refine aM ?_;have h:=congrArg some (lW _ rfl);refine rr ?_;exact aO (.E8 [.agg (tW 0 [] [] [] 0 0),.bool false])
      ·refine r0 ?_;have⟨NP,i0q,h⟩:=E1 h;have fy:=J1 K1.cells [YM v70.1] i0q;have fy:=fl fy i0q;have⟨V,h⟩:=ck V h;refine r1 ?_;have⟨NQ,i0r,h⟩:=E1 h;have fy:=J1 O.cells (gM v70.1.form) i0r;have fy:=fl fy i0r;have⟨V,h⟩:=ck V h;refine r1 ?_;refine rn ?_;cases h;exact L6 ((P4.1+1),(P4.2+1)) bu
     ·refine cf ?_;refine EM ?_;exact⟨(P4.1,P4.2),bu⟩
     ·unfold WC at h;refine D1 H ?_;refine rn ?_;have⟨zN,p3a,h⟩:=D0 h;refine((i0d _ _ p3a).borrow (args:=[cO st.length T3.1 t3.2.2.2.1.length]) (.cons _ _ _ _ (.ref _ _ _ _ _ _ _ _ _ (lq.trans rfl) EH D5 (br _) (by simp only[go_sem])) .nil) B5 rfl ) ?_;refine rr ?_;exact aO (.E8 [.agg (tW a0.kind j2.1 t1 t3.2.2.2.2 zN.1 zN.2.1),.bool zN.2.2])
    ·refine cd h ?_ ?_<;>intro K h
     ·refine r0 ?_;(repeat apply I6)
      refine S9 1 16 ?_;refine V5 ?_;refine Q0 [W7 I,(13,B6 Z5),(14,B6 st.length),(16,Z2 st.length),(22,M5 st.length)] (((C2 st (oC o0 (bL B0 G7 G8 C7 G5 G6 G9 M9 N0 N2 N3) o1 o2 m2 o3 (W6 J7) o4 (U2 J5) o5 (U2 K8) o6 (U2 Y2) o7 (B6 o8) o8 (fX bB o9 bO (bP+l10.length) l10.length eY) o9 m9 bO (bP+l10.length) l10 bD (I5 bh) bE jQ m13 aU jR m15 aV kJ Z5 (nk o0 o1 o3 o4 o5 o6 o7 bD bE aU aV Z5)))++[G3 a0,ju 0 [],HD a0.kind ((assoc a0.name m15).getD default) st.length G1 t1.length 0,J2 G1 t1,kI []])) (EF B5 (uX hsc (by simp<;>omega)) (.lv (.lv (.lv (.lv (.lv (.nil _)))))) (by simp<;>omega) ⟨.s,.s,.s,.s,.s,trivial⟩ (by simp<;>omega)) ?_;refine B ?_;refine dw [1,3] 2 ?_;have⟨v45,p3b,h⟩:=D0 h;refine K0 [(st.length+4)] (fun st2 X=>(HJ _ _ _ p3b st2 (st.length+4) 0 B5 (T6 X (aN.trans rfl)))) ?_;have⟨NR,i0s,h⟩:=E1 h;have fy:=J1 B2 (I5 a0.name) i0s;have fy:=fl fy i0s;have⟨V,h⟩:=ck V h;try simp only[go_sem,V,fy]
      try refine⟨by first|omega|(simp<;>omega),?_⟩
      refine hj2 () _ _ _ h ?_;exact(bu (hf:=⟨.ref _ _ _ _ _ _ _ _ _ (lq.trans rfl) (qK (by first|decide|simp)) D5 (br _) (by simp only[go_sem]),.s,.s,.s,.s,trivial⟩))
     ·refine cd h ?_ ?_<;>intro K h
      ·refine B ?_;have⟨V,h⟩:=ck V h;refine dw [] 0 ?_;have⟨Hr,Zd,h⟩:=D0 h;refine aL (Zf _ _ _ Zd) ?_;try simp only[go_sem,V]
       exact hj2 () _ _ _ h bu
      ·refine r0 ?_;exact hj2 () _ _ _ h bu
