import Derived.Test.YtchbmngmmdeenaaGreatDoorTMMirrors
import Derived.Test.YtchbmngmmdeenaaGreatDoorTMSk
set_option linter.unusedVariables false
set_option linter.unusedSimpArgs false
set_option maxHeartbeats 2000000
set_option maxRecDepth 100000
open List renaming nil_append->fw,mem_cons_of_mem->aw,mem_cons_self->az,getElem?_set_ne->k7,getElem?_eq_some_iff->c7,length_append->aa,append_nil->gf,mem_cons->ce,not_mem_nil->uB,replicate->be,append_assoc->bl,getElem?_append_right->c8,length_cons->an,length_replicate->oj,getElem?_append_left->cy
open Nat renaming le_add_right->re,add_lt_add_left->A1
open Option.some renaming inj->dj
namespace Go.Proofs.YtchbmngmmdeenaaGreatDoor
open Go Go.Am
theorem p1L a0 I r(h:d8K a0 I=some r):L8 36 [.agg (d9G a0),.agg (d9G I)] (T r):=by intro st;unfold d8K at h;have V:=trivial;refine fb 10 [.tmp 4] [0,1,2,3,4] Tryz.func36 fun hsc=>?_;exact rt
theorem DL a0 I r(h:wO a0 I=some r):L8 12 [.str a0,C0 I] (K4 r):=by intro st;unfold wO at h;have V:=trivial;refine fb 8 [.cell 4 26] [0,1,4] Tryz.func12 fun hsc=>?_;refine rr ?_;exact fp (gL 2 a0 I [])
theorem d9R a0 I a2 r(h:NJ a0 I a2=some r):L8 13 [T a0,K4 I,K4 a2] (K4 r):=by intro st;unfold NJ at h;have V:=trivial;refine fb 12 [.cell 6 26] [0,1,2,4,5,6] Tryz.func13 fun hsc=>?_;refine rr ?_;exact fp (gL a0 [] [] [I,a2])
theorem xu a0 I r(h:jL a0 I=some r):L8 16 [T a0,T I] (cP r):=by intro st;unfold jL at h;have V:=trivial;refine fb 8 [.cell 4 29] [0,1,4] Tryz.func16 fun hsc=>?_;exact rt
theorem DM a0 B0 r(h:wP a0 B0=some r):∀st o0 (hnd: [o0].Nodup) (E7:Am.look st o0=some (.arr 0 1 0 (U2 B0))),U5 83 [T a0,B6 o0] st (fun d st'=>d=(cP r)/\st'=puts st []):=by intro st o0 hnd E7;unfold wP at h;have N9:=E2 E7;have V:=H7 N9;refine fb 7 [.cell 3 29] [0,1,3] Tryz.func83 fun hsc=>?_;refine ast (qc st o0 B0) ?_;refine rr ?_;exact sw (.agg [T a0,T B0])
theorem p1M a0 r(h:Fe a0=some r):L8 84 [T a0] (T r):=by
 intro st;unfold Fe at h;have V:=trivial;refine fb 16 [.tmp 2] [0,2,3,4,8,12] Tryz.func84 fun hsc=>?_;refine rn ?_;refine V4 (BM a0) r (fun(bN:Unit) j0=>[cQ a0,(4,.bool j0)]) (fun bN j0=>st) (fun bN j0 C8 st1 h H=>?_) (fun hj0=>?_)
 ·unfold BM at h;refine D1 H ?_;refine cd h ?_ ?_<;>intro K h
  ·exact rt
  ·refine rn ?_;refine V4 (BN a0) r (fun(gN:Unit) j1=>[cQ a0,(8,.bool j1)]) (fun gN j1=>st) (fun gN j1 C8 st1 h H=>?_) (fun cA=>?_)
   ·unfold BN at h;refine D1 H ?_;refine cd h ?_ ?_<;>intro K h
    ·exact rt
    ·refine rn ?_;refine V4 (BO) r (fun(HE:Unit) j2=>[(12,.bool j2)]) (fun HE j2=>st) (fun HE j2 C8 st1 h H=>?_) (fun hj2=>?_)
     ·unfold BO at h;refine D1 H ?_;refine cd h ?_ ?_<;>intro K h
      ·exact rt
      ·exact rt
     ·refine cd h ?_ ?_<;>intro K h
      ·refine r0 ?_;exact hj2 () _ _ _ h O7
      ·refine cd h ?_ ?_<;>intro K h
       ·refine r0 ?_;exact hj2 () _ _ _ h O7
       ·refine r0 ?_;exact hj2 () _ _ _ h O7
   ·refine cd h ?_ ?_<;>intro K h
    ·refine r0 ?_;exact cA () _ _ _ h O7
    ·refine cd h ?_ ?_<;>intro K h
     ·refine r0 ?_;exact cA () _ _ _ h O7
     ·refine r0 ?_;exact cA () _ _ _ h O7
 ·refine cd h ?_ ?_<;>intro K h
  ·refine r0 ?_;exact hj0 () _ _ _ h O7
  ·refine cd h ?_ ?_<;>intro K h
   ·refine r0 ?_;exact hj0 () _ _ _ h O7
   ·refine r0 ?_;exact hj0 () _ _ _ h O7
theorem qd a0 r(h:kj a0=some r):L8 53 [K4 a0] (.bool r):=by intro st;unfold kj at h;have V:=trivial;refine fb 11 [.tmp 2] [0,1,2,7,8,9] Tryz.func53 fun hsc=>?_;exact rt
theorem YP a0 r(h:termName a0=some r):L8 74 [.str a0] (.bool r):=by
 intro st;unfold termName at h;have V:=trivial;refine fb 55 [.tmp 2] [0,2,3,4,9,10,11,14,15,16,19,20,21,22,24,25,26,34,35,38,39,40,41,42,43,46,47,50,51,53] Tryz.func74 fun hsc=>?_;have⟨V,h⟩:=ck V h;have⟨V,h⟩:=ck V h;refine cd h ?_ ?_<;>intro K h
 ·exact rt
 ·have⟨V,h⟩:=ck V h;refine rn ?_;refine O8 () V V.2 h
   (fun A0 k0 Y=>[(0,.str a0),(24,T ↑a0.length),(25,T ↑k0)])
   (fun A0 k0 Y=>st)
   (fun gt0 t0=>[])
   (fun gt0 t0=>st)
   O7
   (fun A0 k0 Y b0 V h hx0=>?_) (fun gt0 t0 C8 st1 h H=>?_)
  ·unfold Sl at h;refine ct ?_;refine cd h ?_ ?_<;>intro K h
   ·refine ra ?_;cases h;refine aM ?_;have h:=congrArg some (hx0 _ rfl);exact rt
   ·refine rn ?_;cases h;exact L6 () O7
  ·unfold Sm at h;refine D1 H ?_;exact rt
theorem p1N:∀n a0 I B0 I9 r (h:pe n a0 I B0 I9=some r),∀st o0 o1 o2 (hnd: [o0,o1,o2].Nodup) (E7:Am.look st o0=some (.arr 0 1 0 (U2 B0))) (L9:Am.look st o1=some (.arr 0 1 0 [[.bool I9]])) (T2:Am.look st o2=some (.arr 0 1 0 [[.fn 82 [] [B6 o0,B6 o1,B6 o2]]])),U5 82 [K4 a0,T I,B6 o0,B6 o1,B6 o2] st (fun d st'=>d=(cP r.1)/\st'=puts st (wW o0 r.2 o1 I9 o2)):=by
 intro n;induction n with
 |zero=>intro a0 I B0 I9 r h;cases h
 |succ n ih=>
  intro a0 I B0 I9 r h st o0 o1 o2 hnd E7 L9 T2;unfold pe at h;have N9:=E2 E7;have T5:=E2 L9;have V2:=E2 T2;have V:=fa (fa (fa (H7 N9) (H7 T5)) (H7 V2)) (qL hnd);refine fb 133 [.cell 7 29] [0,1,2,3,4,5,7,8,9,10,11,12,14,16,17,25,26,27,37,38,40,49,56,67,68,69,76,77,80,81,82,86,87,88,89,90,96,97,98,99,103,104,105,106,111,116,117,118,119,129] Tryz.func82 fun hsc=>?_;refine ast (C2 st (wW o0 B0 o1 I9 o2)) ?_;refine cd h ?_ ?_<;>intro K h
  ·refine rn ?_;have⟨v1,hv1,h⟩:=D0 h;refine(DM _ _ _ hv1 _ _ B5 (aN.trans rfl)).mono ?_;rintro d1 st1 ⟨rfl,rfl⟩;refine rr ?_;exact aO (cP v1)
  ·refine cl h (p1M _) fun v2 h=>?_;refine rn ?_;refine V4 (BP (pe n) B0 a0 I I9) r (fun(bN:Unit) j0=>[(1,T I),G4 o2,(5,B6 st.length),(7,Z2 st.length),(9,.fn 83 [] [M5 st.length]),(10,T j0)]) (fun bN j0=>((C2 st (wW o0 (wr .i64 (B0+1)) o1 I9 o2))++[G3 a0,Z4 0 0,some (eZ B0)])) (fun bN j0 C8 st1 h H=>?_) (fun hj0=>?_)
   ·unfold BP at h;refine D1 H ?_;refine cd h ?_ ?_<;>intro K h
    ·refine rn ?_;have⟨v3,W4,h⟩:=D0 h;refine(DM _ _ _ W4 _ _ B5 (aN.trans rfl)).mono ?_;rintro d1 st1 ⟨rfl,rfl⟩;refine rr ?_;exact aO (cP v3)
    ·refine rn ?_;refine V4 (yM (pe n) a0 j0 B0 I I9) r (fun(gN:Unit) j1=>[(1,T I),G4 o2,(5,B6 st.length),(7,Z2 st.length),(9,.fn 83 [] [M5 st.length]),(10,T j0),(11,.bool j1)]) (fun gN j1=>((C2 st (wW o0 (wr .i64 (B0+1)) o1 I9 o2))++[G3 a0,Z4 0 0,some (eZ B0)])) (fun gN j1 C8 st1 h H=>?_) (fun cA=>?_)
     ·unfold yM at h;refine D1 H ?_;refine cd h ?_ ?_<;>intro K h
      ·refine rn ?_;have⟨v4,fF,h⟩:=D0 h;refine(DM _ _ _ fF _ _ B5 (aN.trans rfl)).mono ?_;rintro d1 st1 ⟨rfl,rfl⟩;refine rr ?_;exact aO (cP v4)
      ·refine rn ?_;have⟨v5,KB,h⟩:=D0 h;refine gi (fun hG=>(qd _ _ (cg KB (by simpa using hG)))) ?_;refine rn ?_;have⟨v6,jk,h⟩:=D0 h;refine gi (fun hG=>(YP _ _ (cg jk (by simpa using hG)))) ?_;refine cd h ?_ ?_<;>intro K h
       ·refine rn ?_;have⟨v7,zZ,h⟩:=D0 h;refine(DM _ _ _ zZ _ _ B5 (aN.trans rfl)).mono ?_;rintro d1 st1 ⟨rfl,rfl⟩;refine rr ?_;exact aO (cP v7)
       ·refine cd h ?_ ?_<;>intro K h
        ·refine rn ?_;have⟨v8,mV,h⟩:=D0 h;refine(DM _ _ _ mV _ _ B5 (aN.trans rfl)).mono ?_;rintro d1 st1 ⟨rfl,rfl⟩;refine rr ?_;exact aO (cP v8)
        ·refine Q9 103 fun hl2=>?_;refine O8 () V hl2 h
          (fun J3 k2 s2=>[(1,T I),G4 o2,(5,B6 st.length),(7,Z2 st.length),(9,.fn 83 [] [M5 st.length]),(103,C0 a0.words),(104,T ↑a0.words.length),(105,T ↑k2)])
          (fun J3 k2 s2=>((C2 st (wW o0 (wr .i64 (B0+1)) o1 I9 o2))++[G3 a0,Z4 0 0,some (eZ B0)]))
          (fun I3 t2=>[(1,T I),G4 o2,(5,B6 st.length),(7,Z2 st.length)])
          (fun I3 t2=>((C2 st (wW o0 (wr .i64 (B0+1)) o1 I9 o2))++[G3 a0,Z4 0 0]))
          bu
          (fun J3 k2 s2 b2 V h V3=>?_) (fun I3 t2 C8 st1 h H=>?_)
         ·unfold Sz at h;refine ct ?_;refine cl h (YP _) fun v9 h=>?_;refine cd h ?_ ?_<;>intro K h
          ·refine rn ?_;have⟨v10,p1O,h⟩:=D0 h;refine(DM _ _ _ p1O _ _ B5 (aN.trans rfl)).mono ?_;rintro d1 st1 ⟨rfl,rfl⟩;refine ra ?_;cases h;refine aM ?_;have h:=congrArg some (V3 _ rfl);refine rr ?_;exact aO (cP v10)
          ·refine rn ?_;cases h;exact L6 () bu
         ·unfold SC at h;refine D1 H ?_;refine Q9 116 fun iI=>?_;refine O8 () V iI h
           (fun P4 k3 s3=>[(1,T I),G4 o2,(7,Z2 st.length),(116,J9 a0.subs),(117,T ↑a0.subs.length),(118,T ↑k3)])
           (fun P4 k3 s3=>((C2 st (wW o0 s3 o1 I9 o2))++[none,Z4 0 0]))
           (fun T3 t3=>[(7,Z2 st.length)])
           (fun T3 t3=>((C2 st (wW o0 t3 o1 I9 o2))++[none,Z4 0 0]))
           bu
           (fun P4 k3 s3 b3 V h lW=>?_) (fun T3 t3 C8 st1 h H=>?_)
          ·unfold SD at h;refine ct ?_;refine rn ?_;have⟨v12,YQ,h⟩:=D0 h;refine(ih _ _ _ _ _ YQ _ _ _ _ hnd sg sg sg).mono ?_;rintro d1 st1 ⟨rfl,rfl⟩;refine cd h ?_ ?_<;>intro K h
           ·refine ra ?_;cases h;refine aM ?_;have h:=congrArg some (lW _ rfl);refine rr ?_;exact aO (cP v12.1)
           ·refine rn ?_;cases h;exact L6 () bu
          ·unfold SE at h;refine D1 H ?_;refine rr ?_;exact aO (.agg [T 0,T 0])
     ·refine cd h ?_ ?_<;>intro K h
      ·refine r0 ?_;exact cA () _ _ _ h bu
      ·refine cd h ?_ ?_<;>intro K h
       ·refine r0 ?_;exact cA () _ _ _ h bu
       ·refine r0 ?_;exact cA () _ _ _ h bu
   ·refine cd h ?_ ?_<;>intro K h
    ·refine r0 ?_;exact hj0 () _ _ _ h bu
    ·refine r0 ?_;exact hj0 () _ _ _ h bu
theorem p1P n a0 I r(h:KC n a0 I=some r):L8 52 [K4 a0,.bool I] (cP r):=by intro st;unfold KC at h;have V:=trivial;refine fb 11 [.cell 4 29] [0,1,2,3,4,5,6] Tryz.func52 fun hsc=>?_;refine rn ?_;have⟨v1,hv1,h⟩:=D0 h;refine(p1N n _ _ _ _ _ hv1 _ _ _ _ B5 (P5.trans rfl) (P5.trans rfl) (P5.trans rfl)).mono ?_;rintro d1 st1 ⟨rfl,rfl⟩;exact rt
theorem YR n a0 r(h:yN n a0=some r):L8 31 [K4 a0] (cP r):=by intro st;unfold yN at h;have V:=trivial;refine fb 5 [.cell 2 29] [0,1,2] Tryz.func31 fun hsc=>?_;refine cl h (p1P n _ _) fun v1 h=>?_;exact rt
theorem d9S a0 r(h:Cb a0=some r):L8 71 [.agg (bM a0)] (C0 r):=by intro st;unfold Cb at h;have V:=trivial;refine fb 11 [.tmp 2] [0,1,2] Tryz.func71 fun hsc=>?_;refine cl h (d3i _) fun v2 h=>?_;exact rt
theorem xA a0 I r(h:nY a0 I=some r):L8 72 [T a0,T I] (cP r):=by intro st;unfold nY at h;have V:=trivial;refine fb 8 [.cell 4 29] [0,1,4] Tryz.func72 fun hsc=>?_;exact rt
theorem p1Q a0 I r(h:KT a0 I=some r):L8 76 [C0 a0,.str I] (T r):=by
 intro st;unfold KT at h;have V:=trivial;refine fb 19 [.tmp 4] [0,1,4,5,7,8,9,16] Tryz.func76 fun hsc=>?_;refine Q9 0 fun H6=>?_;refine O8 () V H6 h
  (fun A0 k0 Y=>[(0,C0 a0),(1,.str I),ah (a0.length:Int),(8,T ↑k0)])
  (fun A0 k0 Y=>st)
  (fun gt0 t0=>[])
  (fun gt0 t0=>st)
  O7
  (fun A0 k0 Y b0 V h hx0=>?_) (fun gt0 t0 C8 st1 h H=>?_)
 ·unfold SN at h;refine ct ?_;refine cd h ?_ ?_<;>intro K h
  ·refine ra ?_;cases h;refine aM ?_;have h:=congrArg some (hx0 _ rfl);exact rt
  ·refine rn ?_;cases h;exact L6 () O7
 ·unfold SQ at h;refine D1 H ?_;exact rt
theorem gO a0 I r(h:cW a0 I=some r):L8 50 [C0 a0,.str I] (.bool r):=by intro st;unfold cW at h;have V:=trivial;refine fb 9 [.tmp 4] [0,1,4] Tryz.func50 fun hsc=>?_;refine cl h (p1Q _ _) fun v1 h=>?_;exact rt
theorem p1R:∀n a0 I l1 r (h:pB n a0 I l1=some r),∀st o0 o1 o2 q1 (hnd: [o0,o1,o2].Nodup) (E7:Am.look st o0=some (.arr 0 1 0 [[I0 o1 q1 l1.length]])) (L9:Am.look st o1=some (.arr q1 1 16 (rows B2 l1))) (T2:Am.look st o2=some (.arr 0 1 0 [[.fn 106 [] [B6 o0,B6 o2]]])),U5 106 [K4 a0,C0 I,B6 o0,B6 o2] st (fun d st'=>∃zo1:Nat,d= .E8 []/\st'=puts st (zV o0 o1 zo1 r.length r o2)):=by
 intro n;induction n with
 |zero=>intro a0 I l1 r h;cases h
 |succ n ih=>
  intro a0 I l1 r h st o0 o1 o2 q1 hnd E7 L9 T2;unfold pB at h;have N9:=E2 E7;have T5:=E2 L9;have V2:=E2 T2;have V:=fa (fa (fa (H7 N9) (H7 T5)) (H7 V2)) (qL hnd);refine fb 50 [] [0,1,2,3,4,7,9,11,12,13,14,20,27,39,40,41,42] Tryz.func106 fun hsc=>?_;refine ast (C2 st (zV o0 o1 q1 l1.length l1 o2)) ?_;refine Q9 11 fun H6=>?_;refine O8 q1 V H6 h
   (fun A0 k0 Y=>[W7 I,(2,B6 o0),U1 o2,G4 st.length,(11,C0 a0.words),(12,T ↑a0.words.length),(13,T ↑k0)])
   (fun A0 k0 Y=>((C2 st (zV o0 o1 A0 Y.length Y o2))++[G3 a0]))
   (fun gt0 t0=>[W7 I,U1 o2,G4 st.length])
   (fun gt0 t0=>((C2 st (zV o0 o1 gt0 t0.length t0 o2))++[G3 a0]))
   bu
   (fun A0 k0 Y b0 V h hx0=>?_) (fun gt0 t0 C8 st1 h H=>?_)
  ·unfold KU at h;refine ct ?_;refine cl h (gO _ _) fun v8 h=>?_;refine cd h ?_ ?_<;>intro K h
   ·have⟨eA,nC,h⟩:=E1 h;have fy:=J1 B2 (I5 (get a0.words k0)) nC;have fy:=fl fy nC;have⟨V,h⟩:=ck V h;refine r1 ?_;refine rn ?_;cases h;exact L6 (A0+1) bu
   ·refine rn ?_;cases h;exact L6 A0 bu
  ·unfold KX at h;refine D1 H ?_;refine cl h (qd _) fun tJ h=>?_;refine rn ?_;refine V4 (vQ (pB n) a0 t0) r (fun(gN:Unit) j1=>[W7 j1,U1 o2,G4 st.length]) (fun gN j1=>((C2 st (zV o0 o1 gt0 t0.length t0 o2))++[G3 a0])) (fun gN j1 C8 st1 h H=>?_) (fun cA=>?_)
   ·unfold vQ at h;refine D1 H ?_;refine Q9 39 fun hl2=>?_;refine O8 gt0 V hl2 h
     (fun J3 k2 s2=>[W7 j1,U1 o2,(39,J9 a0.subs),(40,T ↑a0.subs.length),(41,T ↑k2)])
     (fun J3 k2 s2=>(C2 st (zV o0 o1 J3 s2.length s2 o2)))
     (fun I3 t2=>[])
     (fun I3 t2=>(C2 st (zV o0 o1 I3 t2.length t2 o2)))
     vd
     (fun J3 k2 s2 b2 V h V3=>?_) (fun I3 t2 C8 st1 h H=>?_)
    ·unfold KV at h;refine ct ?_;refine rn ?_;have⟨v26,HF,h⟩:=D0 h;refine(ih _ _ _ _ HF _ _ _ _ J3 hnd sg sg sg).mono ?_;rintro d1 st1 ⟨g27,rfl,rfl⟩;refine rn ?_;cases h;exact L6 g27 vd
    ·try simp only[go_sem,V]
     unfold KW at h;refine JM H ?_;refine rr ?_;exact vo (.E8 []) (hr:=by rintro rfl;exact⟨I3,rfl,rfl⟩)
   ·refine cd h ?_ ?_<;>intro K h
    ·refine B ?_;have⟨V,h⟩:=ck V h;have⟨tK,HG,h⟩:=E1 h;have fy:=J1 B2 (I5 a0.name) HG;have fy:=fl fy HG;have⟨V,h⟩:=ck V h;refine cG [] 2 ?_;refine cA () _ _ _ h ?_;exact(bu (hf:=⟨.ref _ _ _ _ _ _ _ _ _ (lq.trans rfl) (qK (by first|decide|simp)) D5 (br _) (by simp only[go_sem]),.s,.s,trivial⟩))
    ·refine r0 ?_;exact cA () _ _ _ h bu
theorem p1U{l r:(w7)}(h:yQ l=some r):r.length=l.length:=by unfold yQ at h;obtain⟨_,h⟩:=oT h;obtain rfl:=dj h;exact(oV _ _).length_eq
set_option maxRecDepth 100000 in
theorem p1V l0 r(h:yQ l0=some r):∀st o0 q0 (hnd: [o0].Nodup) (E7:Am.look st o0=some (.arr q0 1 16 (rows B2 l0))),U5 107 [I0 o0 q0 l0.length] st (fun d st'=>d= .E8 []/\st'=puts st [(o0,ot q0 r)]):=by intro st o0 q0 hnd E7;unfold yQ at h;obtain⟨hl,h⟩:=oT h;obtain rfl:=dj h;rw[<-i4D];exact i4y i5R (by kernel_rfl) E7 hl
set_option maxRecDepth 100000 in
theorem p1W l0 r(h:Fq l0=some r):∀st o0 q0 (hnd: [o0].Nodup) (E7:Am.look st o0=some (.arr q0 1 16 (rows B2 l0))),U5 108 [I0 o0 q0 l0.length] st (fun d st'=>d=(I0 o0 q0 (Lib.compact l0).length)/\st'=puts st [(o0,.arr q0 1 16 (rows B2 (lx l0)))]):=by intro st o0 q0 hnd E7;unfold Fq at h;obtain⟨hl,h⟩:=oT h;exact i4z i5S (by kernel_rfl) E7 hl
theorem d9T n a0 r(h:vR n a0=some r):L8 73 [K4 a0] (C0 r):=by
 intro st;unfold vR at h;have V:=trivial;refine fb 13 [.tmp 2] [0,1,2,3,4] Tryz.func73 fun hsc=>?_;refine r0 ?_;refine r0 ?_;refine r0 ?_;refine r0 ?_;(repeat apply I6)
 refine S9 1 16 ?_;refine V5 ?_;refine Q0 [Y3 st.length,(3,Z2 st.length),(4,M5 st.length)] (st++[G3 a0,some (.arr 0 1 0 [[W9 st.length 0 0]]),some (.arr 0 1 0 [[.fn 106 [] [Z2 st.length,M5 st.length]]]),kI []]) bm ?_;refine rn ?_;have⟨v1,hv1,h⟩:=D0 h;refine((p1R n _ _ _ _ hv1 _ _ _ _ 0 B5 (P5.trans rfl) (P5.trans rfl) (P5.trans rfl)).up (.cons _ _ _ _ .s (.cons _ _ _ _ (.A9 _ _ _ D5) (.cons _ _ _ _ .s (.cons _ _ _ _ .s .nil)))) (by simp<;>omega)).mono ?_;rintro d1 st1 ⟨g2,rfl,rfl⟩;refine rn ?_;have⟨v3,W4,h⟩:=D0 h;refine(p1V _ _ W4 _ _ g2 B5 (P5.trans rfl)).mono ?_;rintro d1 st1 ⟨rfl,rfl⟩;try simp only[go_sem,V]
 have e4:D.ref false (st.length+3) g2 0 v1.length=D.ref false (st.length+3) g2 0 v3.length:=by rw[p1U W4]
 try simp only[e4]
 refine rn ?_;have⟨v5,KB,h⟩:=D0 h;refine(p1W _ _ KB _ _ g2 B5 (P5.trans rfl)).mono ?_;rintro d1 st1 ⟨rfl,rfl⟩;refine rr ?_;exact fo (C0 (Lib.compact v3)) (.ref _ _ _ _ _ _ _ _ _ (je.trans rfl) uV D5 (br _) (i4w _).symm) h hsc
theorem p1X:∀n a0 I r (h:sL n a0 I=some r),L8 75 [K4 a0,.str I] (.E8 [.bool r.1,.bool r.2]):=by
 intro n;induction n with
 |zero=>intro a0 I r h;cases h
 |succ n ih=>
  intro a0 I r h st;unfold sL at h;have V:=trivial;refine fb 51 [.tmp 4,.tmp 5] [0,1,2,4,5,7,8,9,14,15,16,17,18,28,29,30,31,42,46] Tryz.func75 fun hsc=>?_;refine rn ?_;refine V4 (BZ (sL n) a0 I) r (fun(bN:Unit) j0=>[(1,.str I),(2,B6 st.length),(4,.bool j0.1),(5,.bool j0.2)]) (fun bN j0=>(st++[G3 a0])) (fun bN j0 C8 st1 h H=>?_) (fun hj0=>?_)
  ·unfold BZ at h;refine D1 H ?_;refine Q9 28 fun aR=>?_;refine O8 () V aR h
    (fun D8 k1 s1=>[(1,.str I),(4,.bool s1.1),(5,.bool s1.2),(28,J9 a0.subs),(29,T ↑a0.subs.length),(30,T ↑k1)])
    (fun D8 k1 s1=>st)
    (fun G1 t1=>[(4,.bool t1.1),(5,.bool t1.2)])
    (fun G1 t1=>st)
    uZ
    (fun D8 k1 s1 b1 V h U8=>?_) (fun G1 t1 C8 st1 h H=>?_)
   ·unfold SY at h;refine ct ?_;refine cl h (ih _ _) fun v2 h=>?_;refine rn ?_;cases h;exact L6 () uZ
   ·unfold SZ at h;refine D1 H ?_;exact rt
  ·refine cd h ?_ ?_<;>intro K h
   ·refine B ?_;refine dw [] 0 ?_;exact hj0 () _ _ _ h bm
   ·refine r0 ?_;exact hj0 () _ _ _ h bm
theorem DN:∀n a0 r (h:ko n a0=some r),L8 49 [K4 a0] (C0 r):=by
 intro n;induction n with
 |zero=>intro a0 r h;cases h
 |succ n ih=>
  intro a0 r h st;unfold ko at h;have V:=trivial;refine fb 26 [.tmp 2] [0,1,2,3,5,7,14,15,16,17] Tryz.func49 fun hsc=>?_;refine cl h (qd _) fun v1 h=>?_;try simp only[go_sem,V]
  (repeat apply I6)
  refine S9 1 16 ?_;refine V5 ?_;refine Q0 [Y3 st.length,(3,aT st.length 0 0),(7,.bool v1)] (st++[G3 a0,kI []]) bm ?_;(repeat apply I6)
  refine V4 (BW (ko n) a0) r (fun(bN:Nat) j0=>[Y3 st.length,(3,aT st.length bN j0.length)]) (fun bN j0=>(st++[G3 a0,J2 bN j0])) (fun bN j0 C8 st1 h H=>?_) (fun hj0=>?_)
  ·unfold BW at h;refine D1 H ?_;refine Q9 14 fun aR=>?_;refine O8 bN V aR h
    (fun D8 k1 s1=>[(3,aT st.length D8 s1.length),(14,J9 a0.subs),(15,T ↑a0.subs.length),(16,T ↑k1)])
    (fun D8 k1 s1=>((st++[none,J2 D8 s1])))
    (fun G1 t1=>[(3,aT st.length G1 t1.length)])
    (fun G1 t1=>((st++[none,J2 G1 t1])))
    bm
    (fun D8 k1 s1 b1 V h U8=>?_) (fun G1 t1 C8 st1 h H=>?_)
   ·unfold SS at h;refine ct ?_;refine r0 ?_;refine r0 ?_;refine r0 ?_;refine cl h (ih _) fun bf h=>?_;have⟨pT,HI,h⟩:=E1 h;have fy:=J1 B2 (rows B2 bf) HI;have fy:=fa fy (show s1.length+bf.length=pT.length from by rw[HI];simp);have⟨V,h⟩:=ck V h;try simp only[go_sem,V,fy]
    refine rn ?_;cases h;exact L6 (D8+1) bm
   ·unfold SV at h;refine D1 H ?_;refine rr ?_;exact fp (C0 t1)
  ·refine cd h ?_ ?_<;>intro K h
   ·have⟨c3,mT,h⟩:=E1 h;have⟨V,h⟩:=ck V h;refine r0 ?_;have e6:D.ref false (st.length+1) 1 0 1=D.ref false (st.length+1) 1 0 c3.length:=by simp[mT]
    have e7:(I5 a0.name)=rows B2 c3:=by rw[mT];first|rfl|simp only[go_sem,rows,fw,List.map_append,List.map_cons,List.map_nil]
    try simp only[e6,e7]
    exact hj0 1 _ _ _ h bm
   ·refine r0 ?_;exact hj0 0 _ _ _ h bm
theorem p1Y n a0 r(h:Fx n a0=some r):L8 47 [.agg (bM a0)] (cP r):=by
 intro st;unfold Fx at h;have V:=trivial;refine fb 119 [.cell 2 29] [0,1,2,3,4,5,6,7,8,9,10,11,12,18,24,29,30,31,32,38,45,55,64,67,80,81,82,85,89,98,99,100,101,111,112,113,114,115] Tryz.func47 fun hsc=>?_;refine cl h (YR n _) fun v1 h=>?_;refine cd h ?_ ?_<;>intro K h
 ·exact rt
 ·refine cl h (d9S _) fun v2 h=>?_;refine cd h ?_ ?_<;>intro K h
  ·refine cl h (xA _ _) fun v3 h=>?_;exact rt
  ·refine cl h (d9T n _) fun v4 h=>?_;refine Q9 4 fun H6=>?_;refine O8 () V H6 h
    (fun A0 k0 Y=>[Y3 st.length,eD st.length,(4,C0 v2),(5,C0 v4),(29,C0 v2),(30,T ↑v2.length),(31,T ↑k0)])
    (fun A0 k0 Y=>(st++[iu a0,Z4 0 0]))
    (fun gt0 t0=>[Y3 st.length,eD st.length])
    (fun gt0 t0=>(st++[iu a0,Z4 0 0]))
    bm
    (fun A0 k0 Y b0 V h hx0=>?_) (fun gt0 t0 C8 st1 h H=>?_)
   ·unfold Te at h;refine ct ?_;refine cl h (YP _) fun v17 h=>?_;refine cd h ?_ ?_<;>intro K h
    ·refine cl h (xA _ _) fun Hq h=>?_;refine ra ?_;cases h;refine aM ?_;have h:=congrArg some (hx0 _ rfl);exact rt
    ·have⟨V,h⟩:=ck V h;refine cl h (gO _ _) fun v21 h=>?_;refine cd h ?_ ?_<;>intro K h
     ·refine cl h (xA _ _) fun v22 h=>?_;refine ra ?_;cases h;refine aM ?_;have h:=congrArg some (hx0 _ rfl);exact rt
     ·refine cl h (p1X n _ _) fun v23 h=>?_;refine cd h ?_ ?_<;>intro K h
      ·refine cl h (gO _ _) fun v24 h=>?_;refine cd h ?_ ?_<;>intro K h
       ·refine cl h (xA _ _) fun v25 h=>?_;refine ra ?_;cases h;refine aM ?_;have h:=congrArg some (hx0 _ rfl);exact rt
       ·refine rn ?_;cases h;exact L6 () bm
      ·refine cd h ?_ ?_<;>intro K h
       ·refine cd h ?_ ?_<;>intro K h
        ·refine cl h (xA _ _) fun v26 h=>?_;refine ra ?_;cases h;refine aM ?_;have h:=congrArg some (hx0 _ rfl);exact rt
        ·refine rn ?_;cases h;exact L6 () bm
       ·refine cd h ?_ ?_<;>intro K h
        ·refine cl h (xA _ _) fun dc h=>?_;refine ra ?_;cases h;refine aM ?_;have h:=congrArg some (hx0 _ rfl);exact rt
        ·refine cd h ?_ ?_<;>intro K h
         ·refine cl h (xA _ _) fun v28 h=>?_;refine ra ?_;cases h;refine aM ?_;have h:=congrArg some (hx0 _ rfl);exact rt
         ·refine rn ?_;cases h;exact L6 () bm
   ·unfold Tf at h;refine D1 H ?_;refine cl h (DN n _) fun jF h=>?_;refine Q9 10 fun aR=>?_;refine O8 () V aR h
     (fun D8 k1 s1=>[Y3 st.length,eD st.length,(10,C0 jF),(98,C0 jF),(99,T ↑jF.length),(100,T ↑k1)])
     (fun D8 k1 s1=>(st++[iu a0,Z4 0 0]))
     (fun G1 t1=>[eD st.length])
     (fun G1 t1=>((st++[none,Z4 0 0])))
     bm
     (fun D8 k1 s1 b1 V h U8=>?_) (fun G1 t1 C8 st1 h H=>?_)
    ·unfold Ti at h;refine ct ?_;have⟨V,h⟩:=ck V h;refine cl h (gO _ _) fun v37 h=>?_;refine rn ?_;have⟨kq,Fy,h⟩:=D0 h;refine gi (fun hG=>(gO _ _ _ (cg Fy (by simpa using hG)))) ?_;refine cd h ?_ ?_<;>intro K h
     ·refine cl h (xA _ _) fun v39 h=>?_;refine ra ?_;cases h;refine aM ?_;have h:=congrArg some (U8 _ rfl);exact rt
     ·refine rn ?_;cases h;exact L6 () bm
    ·unfold Tj at h;refine D1 H ?_;exact rt
theorem Aa a0 I r(h:lF a0 I=some r):L8 48 [.agg (bM a0),K4 I] (.bool r):=by intro st;unfold lF at h;have V:=trivial;refine fb 21 [.tmp 4] [0,1,2,3,4,9,10,11,12,15,16,17,18,19] Tryz.func48 fun hsc=>?_;refine rn ?_;have⟨v1,hv1,h⟩:=D0 h;refine gi (fun hG=>(gO _ _ _ (cg hv1 (by simpa using hG)))) ?_;exact rt
theorem p1Z a0 r(h:Ln a0=some r):L8 79 [C0 a0] (C0 r):=by
 intro st;refine mM ?_;unfold Ln at h;have hr:=dj h;subst hr;refine Rl (N:=8) (B:=[.tmp 2]) (keep:=[0,2,4]) Tryz.func79 rfl rfl rfl (by kernel_rfl) rfl fun hsc=>?_;refine Rf (t:=0) rfl fun hl=>?_;(repeat apply I6);apply oR;simp only[go_sem]
 (repeat apply I6);refine d1G rfl ⟨9,by rw[d3f]⟩ M M fun c kN=>?_
 simp only[go_sem];(repeat apply I6);refine AE (by rfl) (fun K=>?_) fun K=>?_
 ·(repeat apply I6);apply oR;simp only[go_sem]
  refine xZ ?_;try simp only[go_sem]
  have YS:=kN K;rw[YS];refine Bf ?_;simp only[go_sem];exact EC hsc (.A9 _ _ _ D5) B5 ⟨rfl,rfl⟩
 ·refine Jo ?_;try simp only[go_sem]
  (repeat apply I6);apply oR;simp only[go_sem]
  simp only[av]at hl;refine⟨⟨by omega,by simp only[top]at *; omega⟩,?_⟩;refine xZ ?_;try simp only[go_sem]
  refine Bf ?_;simp only[go_sem];exact JJ hsc (.ref _ _ _ _ _ _ _ _ _ (je.trans rfl) uV D5 (br a0) (by simp only[go_sem])) B5 ⟨rfl,rfl⟩
theorem HJ(a0 l0:w7) r(h:sY a0 l0=some r):∀st o0 q0 (hnd: [o0].Nodup) (E7:Am.look st o0=some (.arr q0 1 16 (rows B2 l0))),U5 79 [C0 a0] st (fun d st'=>d=(I0 o0 (q0+1) r.length)/\st'=puts st [(o0,.arr (q0+1) 1 16 (rows B2 r))]):=by
 intro st o0 q0 hnd E7;obtain⟨rfl,rfl⟩:l0=[]/\r=a0:=by
  unfold sY at h;cases l0 with
  |nil=>exact⟨rfl,(dj h).symm⟩
  |cons x l=>cases h
 refine mM ?_;rw[show r.length=(rows B2 r).length from(av r).symm];refine i5l (g:=0) (fun hsc=>(uX (m:=[(o0,.arr (q0+1) 1 16 (rows B2 r))]) hsc B5)) E7 ?_;refine Rl (N:=8) (B:=[.tmp 2]) (keep:=[0,2,4]) Tryz.func79 rfl rfl rfl (by kernel_rfl) rfl fun hsc=>?_;refine Rf (t:=0) rfl fun hl=>?_;(repeat apply I6);apply oR;simp only[go_sem]
 (repeat apply I6);refine d1G rfl ⟨9,by rw[d3f]⟩ M M fun c kN=>?_
 simp only[go_sem];(repeat apply I6);refine AE (by rfl) (fun K=>?_) fun K=>?_
 ·(repeat apply I6);apply oR;simp only[go_sem]
  refine xZ ?_;try simp only[go_sem]
  have YS:=kN K;refine Bf ?_;simp only[go_sem];exact EC hsc (.same _) B5 (.inr (.inr ⟨rfl,rfl,YS⟩))
 ·refine Jo ?_;try simp only[go_sem]
  (repeat apply I6);apply oR;simp only[go_sem]
  simp only[av]at hl;refine⟨⟨by omega,by simp only[top]at *; omega⟩,?_⟩;refine xZ ?_;try simp only[go_sem]
  refine Bf ?_;simp only[go_sem];exact⟨(st++[none,kI r]),_,by simp,sj hsc (.dead _ _ _ (.lv (.nil _))) B5,.s,by simp,.inr (.inl ⟨rfl,rfl⟩)⟩
theorem YT{st:St}{o:Nat}:∀ {m:List (Nat×Ob)},(∀p∈m,p.1≠o)->Am.look (C2 st m) o=Am.look st o
 | [],_=>rfl
 |(a,x)::m,h=>by have ih:=YT (st:=st) (m:=m) fun p hp=>h p (aw _ hp);have h0:=h (a,x) (az ..);unfold Am.look at ih⊢;simp only[C2];rw[k7 h0];exact ih
theorem YU{st:St}{oM AD n:Nat}:∀ {m:List (Nat×Ob)},(∀p∈m,p.1=oM\/(AD<=p.1/\p.1<AD+n)\/st[p.1]? =some (some p.2))->fC st (C2 st m) oM AD n
 | [],_=>fC.refl _ _ _ _
 |(a,x)::m,h=>by
  have ih:=YU (st:=st) (m:=m) fun p hp=>h p (aw _ hp);refine⟨by simp[C2,ih.len],fun o U X=>?_⟩;simp only[C2];by_cases e:a=o
  ·subst e;have h3:st[a]? =some (some x):=((h (a,x) (az ..)).resolve_left U).resolve_left X;have hl:a<(C2 st m).length:=by rw[ih.len];exact(c7.1 h3).1
   rw[List.getElem?_set_self hl,h3]
  ·rw[k7 e];exact ih.same o U X
theorem p2a{t:Nat}:jV ⟨1,24,[.A9],[.sl false 1 16 []],some .A9,.slice t⟩ none= .sl false 1 16 []:=rfl
theorem p2b{t o g len:Nat}:jV ⟨1,24,[.A9],[.sl false 1 16 []],some .A9,.slice t⟩ (some [I0 o g len])=(I0 o g len):=rfl
set_option maxHeartbeats 4000000 in
set_option maxRecDepth 100000 in
theorem p2c:∀n (f:O) I (s:B1) (m r:Bv) (h:ng n f I s m=some r) (hnm:s.parts.Nodup),∀(st:St) (o0 o1 oM o3 AD:Nat) (hnd: [o0,o1,oM,o3].Nodup) (hB:o0<AD/\o1<AD/\oM<AD/\o3<AD) (hBl:AD+s.parts.length<=st.length)
 (E7:Am.look st o0=some (.arr 0 7 0 [bM s]))
 (L9:Am.look st o1=some (.arr 0 1 0 [[.mp oM]])) (aG:Am.look st o3=some (.arr 0 1 0 (tV o0 o1 o3))) (g:Nat->Nat) (z:Nat->w7) (hF:Fam st oM AD s.parts g z m),
 U5 109 [K4 f,C0 I,B6 o0,B6 o1,B6 o3] st (fun d st'=>d= .E8 []/\fC st st' oM AD s.parts.length/\∃g z,Fam st' oM AD s.parts g z r):=by
 intro n
 induction n with
 |zero=>intro f I s m r h;cases h
 |succ n ih=>
  intro f I s m r h hnm st o0 o1 oM o3 AD hnd hB hBl E7 L9 aG g z hF;unfold ng at h;have OV:=hF.mp;have N9:=E2 E7;have T5:=E2 L9;have hoM:=E2 OV;have jP:=E2 aG;obtain⟨YV,YW,hBM,YX⟩:=hB;have V:=fa (fa (fa (fa (H7 N9) (H7 T5)) (H7 hoM)) (H7 jP)) (Ro hnd);refine fb 51 [] [0,1,2,3,4,5,6,7,8,10,13,22,32,40,41,42,43] Tryz.func109 fun hsc=>?_;have e4:C2 st [(o0,.arr 0 7 0 [bM s]),(o1,.arr 0 1 0 [[.mp oM]]),(oM,.mps false (mref AD s.parts g m)),(o3,.arr 0 1 0 (tV o0 o1 o3))]=st:=lu (by simp[E7,L9,OV,aG]);refine sv e4 ?_;refine cl h (Aa _ _) fun v1 h=>?_;refine rn ?_;refine V4 (σ:={q:List (J×w7)×St // fC st q.2 oM AD s.parts.length/\∃g z,Fam q.2 oM AD s.parts g z q.1}) (fun q=>zI (fun f a m=>ng n f a s m) f I q.1.1) r
   (fun(bN:Unit) q=>[G4 o3,(5,B6 st.length),P3 st.length])
   (fun(bN:Unit) q=>q.1.2++[G3 f,some (fV I)]) (fun bN q C8 st1 h H=>?_) (fun hj0=>?_)
  ·obtain⟨⟨m1,yk⟩,hC,g1,z1,OW⟩:=q;replace hC:fC st yk oM AD s.parts.length:=hC;replace OW:Fam yk oM AD s.parts g1 z1 m1:=OW;replace h:zI (fun f a m=>ng n f a s m) f I m1=some r:=h;have qO:yk.length=st.length:=hC.len;have hlt:(∀x∈ [o0,o1,o3],x≠oM):=by simp at hnd ⊢; omega
   have H6:Am.look yk o0=_:=(hC.look (hlt o0 B5) YV).trans E7;have aR:Am.look yk o1=_:=(hC.look (hlt o1 B5) YW).trans L9;have iI:Am.look yk o3=_:=(hC.look (hlt o3 B5) YX).trans aG;have OX:Q8 yk.length yk:=OW.sc hC hsc;have V:=fa (fa (fa (H7 (E2 H6)) (H7 (E2 aR))) (H7 (E2 iI))) (qL (show [o0,o1,o3].Nodup by simp at hnd ⊢; omega));try simp only[go_sem,V]
   unfold zI at h;refine qH H ?_;rw[<-qO];have e3:C2 yk (OT o0 s o1 oM o3)=yk:=lu (by simp[H6,aR,iI]);refine sv (congrArg (· ++_) e3) ?_;refine cl h (qd _) fun v3 h=>?_;refine rn ?_;refine V4 (Dl (fun f a m=>ng n f a s m) f m1) r (fun(gN:Unit) j1=>[G4 o3,(5,B6 yk.length),P3 yk.length]) (fun gN j1=>C2 yk (OT o0 s o1 oM o3)++[G3 f,some (fV j1)]) (fun gN j1 C8 st1 h H=>?_) (fun cA=>?_)
   ·unfold Dl at h;refine D1 H ?_;refine Q9 40 fun hl2=>?_;refine i5C (body:=GQ (fun f a m=>ng n f a s m) f j1) (n:=f.subs.length) (Y:=m1) (kk:=fun t=>some t) (e:=r)
     (fun k sm fr De=>∃S1,fC st S1 oM AD s.parts.length/\(∃g z,Fam S1 oM AD s.parts g z sm)/\fr=[G4 o3,P3 yk.length,(40,J9 f.subs),(41,T ↑f.subs.length),(42,T ↑k)]/\De=((S1++[none,some (fV j1)])))
     (fun sm fr De=>∃S1,fC st S1 oM AD s.parts.length/\(∃g z,Fam S1 oM AD s.parts g z sm)/\fr=[]/\De=S1)
     (fun k sm b H=>?_) h ?_ (fun k sm s2 fr De S H hI=>?_) (fun sm fr De hI=>?_) (fun sm B' De fr st2 S hJ H=>?_)
    ·unfold GQ at H;obtain⟨v,Q,H⟩:=D0 H;exact⟨v,(dj H).symm⟩
    ·rw[e3];exact⟨_,_,bm OX (hs:=by simp<;>omega),yk,hC,⟨g1,z1,OW⟩,rfl,rfl⟩
    ·obtain⟨S1,kK,⟨g2,z2,xB⟩,rfl,rfl⟩:=hI;have xt:yk.length=S1.length:=qO.trans kK.len.symm;have H6:Am.look S1 o0=_:=(kK.look (hlt o0 B5) YV).trans E7;have aR:Am.look S1 o1=_:=(kK.look (hlt o1 B5) YW).trans L9;have iI:Am.look S1 o3=_:=(kK.look (hlt o3 B5) YX).trans aG;have OY:Q8 S1.length S1:=xB.sc kK hsc;have hwr:=Bc S hl2;have V:=fa (fa (fa (fa (fa (H7 (E2 H6)) (H7 (E2 aR))) (H7 (E2 iI))) (qL (show [o0,o1,o3].Nodup by simp at hnd ⊢; omega))) S) hwr;rw[xt];have e3':C2 S1 (OT o0 s o1 oM o3)=S1:=lu (by simp[H6,aR,iI]);refine sv (congrArg (· ++_) e3') ?_;unfold GQ at H;obtain⟨v,Q,H⟩:=D0 H;cases H;refine ct ?_;refine rn ?_;rw[e3'];refine(ih _ _ _ _ _ Q hnm _ o0 o1 oM o3 AD hnd ⟨YV,YW,hBM,YX⟩ (by rw[aa];omega) ((yE (E2 H6)).trans H6) ((yE (E2 aR)).trans aR) ((yE (E2 iI)).trans iI) g2 z2 xB.app).mono ?_;rintro d1 st1 ⟨rfl,hC3,g3,z3,hF3⟩;obtain⟨S3,rfl,HL⟩:=i5F hC3 M M;have hF4:=hF3.left (by rw[HL.len];omega) (by rw[HL.len];omega);have hS3:S1.length=S3.length:=HL.len.symm;refine rn ?_;exact⟨[G4 o3,P3 S1.length,(40,J9 f.subs),(41,T ↑f.subs.length),(42,T (↑(k+1):Int))],(S3++[none,some (fV j1)]),EF M (hF4.sc (kK.trans HL) hsc) (.dead _ _ _ (.lv (.nil _))) B5 ⟨.s,.s,.s,.s,.s,trivial⟩ (by simp<;>omega),S3,kK.trans HL,⟨g3,z3,hF4⟩,rfl,rfl⟩
    ·obtain⟨S1,kK,⟨g2,z2,xB⟩,rfl,rfl⟩:=hI;have xt:yk.length=S1.length:=qO.trans kK.len.symm;have OY:Q8 S1.length S1:=xB.sc kK hsc;rw[xt];refine cf ?_;refine EM ?_;exact⟨[],S1,d1Z (Nat.le_refl _) OY trivial trivial,S1,kK,⟨g2,z2,xB⟩,rfl,rfl⟩
    ·obtain⟨S1,kK,⟨g2,z2,xB⟩,hfe,wh⟩:=hJ;rw[hfe,wh]at H;have xt:yk.length=S1.length:=qO.trans kK.len.symm;have OY:Q8 S1.length S1:=xB.sc kK hsc;rw[xt]at H⊢;refine JM H ?_;refine rr ?_;exact fs (.E8 []) (.same _) S OY (hr:=by rintro rfl;exact⟨rfl,kK,g2,z2,xB⟩)
   ·refine cd h ?_ ?_<;>intro K h
    ·(repeat apply I6)
     refine S9 1 16 ?_;refine V5 ?_;refine Q0 [G4 o3,(5,B6 yk.length),P3 yk.length,(32,.bool v3)] (C2 yk (OT o0 s o1 oM o3)++[G3 f,some (fV I),kI []]) (bu OX) ?_;refine B ?_;refine dw [1,3] 2 ?_;have⟨v4,fF,h⟩:=D0 h;refine K0 [(yk.length+2)] (fun st2 X=>(HJ _ _ _ fF st2 (yk.length+2) 0 B5 (T6 X (aN.trans rfl)))) ?_;have⟨c6,hc6,h⟩:=E1 h;have fy:=J1 B2 (I5 f.name) hc6;have fy:=fl fy hc6;have⟨V,h⟩:=ck V h;try simp only[go_sem,V,fy]
     try refine⟨by first|omega|(simp<;>omega),?_⟩
     refine cA () _ _ _ h ?_;exact(bu OX (hu:=(.lv (.live _ _ _ _ (.arr _ _ _ _ _ (.cons _ _ _ _ (.cons _ _ _ _ (.ref _ _ _ _ _ _ _ _ _ (lq.trans rfl) (qK (by first|decide|simp)) D5 (br _) (by simp only[go_sem])) .nil) (.same _))) (.nil _)))))
    ·refine r0 ?_;refine cA () _ _ _ h ?_;exact(bu OX)
  ·refine cd h ?_ ?_<;>intro K h
   ·obtain⟨⟨_,hmem,hle⟩,h⟩:=ck V h;obtain⟨S,A⟩:=Bt hmem;generalize hkk:fB s.parts f.name=k at S A;have ak:=hF.ob k S;rw[A]at ak;have hoP:=E2 ak;have p2j: [o0,o1,oM,o3,AD+k].Nodup:=by simp at hnd ⊢; omega
    have V:=fa (fa (fa (fa (fa (H7 N9) (H7 T5)) (H7 hoM)) (H7 jP)) (H7 hoP)) (nd5 p2j);rw[e4];cases hp:assoc f.name m with
    |none=>
     have hz:z k=[]:=hF.z0 k S (by rw[A];exact hp);have YZ:ent m f.name=[]:=by unfold ent;rw[hp];rfl
     rw[YZ,hz,gf]at ak;rw[hp]at h hle;simp only[Option.getD_none]at h hle;have V:=fa V (show assoc f.name (mref AD s.parts g m)=none by rw[RO,hp];rfl);have V:=fa V (@p2a);have e5:C2 st [(o0,.arr 0 7 0 [bM s]),(o1,.arr 0 1 0 [[.mp oM]]),(oM,.mps false (mref AD s.parts g m)),(o3,.arr 0 1 0 (tV o0 o1 o3)),(AD+k,.arr (g k) 1 16 (rows B2 []))]=st:=lu (by simp[E7,L9,OV,aG,ak]);refine sv (congrArg (· ++_) e5) ?_;refine rn ?_;refine ct ?_;refine rn ?_;refine(HJ I [] I rfl _ (AD+k) (g k) B5 sg).mono ?_;rintro d1 st1 ⟨rfl,rfl⟩;refine rn ?_;refine dw [0,2,5,6] 0 ?_;refine K0 [AD+k,st.length+1] (r:=(I0 (AD+k) (g k+1) (flt (fK I) I).length)) (ups:=[(AD+k,.arr (g k+1) 1 16 (rows B2 (fu (fK I) I++[])))]) (fun st2 X=>(d9Q (st:=st2) (z:=[]) (l:=I) (ar:=I) (by rw[gf];exact(X _ B5).trans sg) ((X _ B5).trans (by simp only[go_sem,V]<;>rfl)) M M).mono fun d st' hd=>⟨hd.1,hd.2⟩) ?_;try simp only[go_sem,V]
     refine⟨by simp<;>omega,?_⟩;have HM:fC st (C2 st [(o0,.arr 0 7 0 [bM s]),(o1,.arr 0 1 0 [[.mp oM]]),(oM,.mps false (I4 f.name [I0 (AD+k) (g k+1) (flt (fK I) I).length] (mref AD s.parts g m))),(o3,.arr 0 1 0 (tV o0 o1 o3)),(AD+k,.arr (g k+1) 1 16 (rows B2 (fu (fK I) I)))]) oM AD s.parts.length:=YU (fun p hp=>by
      simp only[ce,uB,or_false]at hp;rcases hp with rfl|rfl|rfl|rfl|rfl
      ·exact .inr (.inr (V7 E7))
      ·exact .inr (.inr (V7 L9))
      ·exact .inl rfl
      ·exact .inr (.inr (V7 aG))
      ·exact .inr (.inl ⟨re _ _,A1 S _⟩))
     have HN:=Fam.put (De:=C2 st [(o0,.arr 0 7 0 [bM s]),(o1,.arr 0 1 0 [[.mp oM]]),(oM,.mps false (I4 f.name [I0 (AD+k) (g k+1) (flt (fK I) I).length] (mref AD s.parts g m))),(o3,.arr 0 1 0 (tV o0 o1 o3)),(AD+k,.arr (g k+1) 1 16 (rows B2 (fu (fK I) I)))]) (zk:=be (I.length-(flt (fK I) I).length) []) (l:=flt (fK I) I) hF hnm S A (gk:=(g k+1)) (fun e=>by rw[hp]at e;cases e) sg (by simp only[go_sem,V,fu]) (fun j L hjk=>YT (by simp;omega));have kY:=HN.sc HM hsc;refine hj0 () ⟨(_,_),HM,_,_,HN⟩ _ _ h ?_;exact EF B5 kY (.lv (.lv (.nil _))) B5 ⟨.s,.s,.s,trivial⟩ (by simp<;>omega)
    |some l=>
     have YZ:ent m f.name=l:=by unfold ent;rw[hp];rfl
     rw[YZ]at ak;rw[hp]at h hle;simp only[Option.getD_some]at h hle;have V:=fa V (show assoc f.name (mref AD s.parts g m)=some [I0 (AD+k) (g k) l.length]by rw[RO,hp,hkk];rfl);have V:=fa V (@p2b);have e5:C2 st [(o0,.arr 0 7 0 [bM s]),(o1,.arr 0 1 0 [[.mp oM]]),(oM,.mps false (mref AD s.parts g m)),(o3,.arr 0 1 0 (tV o0 o1 o3)),(AD+k,.arr (g k) 1 16 (rows B2 (l++z k)))]=st:=lu (by simp[E7,L9,OV,aG,ak]);refine sv (congrArg (· ++_) e5) ?_;refine rn ?_;refine cf ?_;refine rn ?_;refine dw [0,2,5,6] 0 ?_;refine K0 [AD+k,st.length+1] (r:=(I0 (AD+k) (g k) (flt (fK I) l).length)) (ups:=[(AD+k,.arr (g k) 1 16 (rows B2 (fu (fK I) l++z k)))]) (fun st2 X=>(d9Q (st:=st2) (z:=z k) (l:=l) (ar:=I) (T6 X) ((X _ B5).trans (by simp only[go_sem,V]<;>rfl)) M M).mono fun d st' hd=>⟨hd.1,hd.2⟩) ?_;try simp only[go_sem,V]
     refine⟨by simp<;>omega,?_⟩;have HM:fC st (C2 st [(o0,.arr 0 7 0 [bM s]),(o1,.arr 0 1 0 [[.mp oM]]),(oM,.mps false (I4 f.name [I0 (AD+k) (g k) (flt (fK I) l).length] (mref AD s.parts g m))),(o3,.arr 0 1 0 (tV o0 o1 o3)),(AD+k,.arr (g k) 1 16 (rows B2 (fu (fK I) l++z k)))]) oM AD s.parts.length:=YU (fun p hp=>by
      simp only[ce,uB,or_false]at hp;rcases hp with rfl|rfl|rfl|rfl|rfl
      ·exact .inr (.inr (V7 E7))
      ·exact .inr (.inr (V7 L9))
      ·exact .inl rfl
      ·exact .inr (.inr (V7 aG))
      ·exact .inr (.inl ⟨re _ _,A1 S _⟩))
     have HN:=Fam.put (De:=C2 st [(o0,.arr 0 7 0 [bM s]),(o1,.arr 0 1 0 [[.mp oM]]),(oM,.mps false (I4 f.name [I0 (AD+k) (g k) (flt (fK I) l).length] (mref AD s.parts g m))),(o3,.arr 0 1 0 (tV o0 o1 o3)),(AD+k,.arr (g k) 1 16 (rows B2 (fu (fK I) l++z k)))]) (zk:=be (l.length-(flt (fK I) l).length) []++z k) (l:=flt (fK I) l) hF hnm S A (gk:=(g k)) (fun _=>rfl) sg (by simp only[go_sem,V,fu,bl]) (fun j L hjk=>YT (by simp;omega));have kY:=HN.sc HM hsc;refine hj0 () ⟨(_,_),HM,_,_,HN⟩ _ _ h ?_;exact EF B5 kY (.lv (.lv (.nil _))) B5 ⟨.s,.s,.s,trivial⟩ (by simp<;>omega)
   ·rw[e4];refine r0 ?_;refine hj0 () ⟨(m,st),fC.refl _ _ _ _,g,z,hF⟩ _ _ h ?_;exact bm hsc (hs:=by simp<;>omega)
theorem p2k{α:Type}(x:α){n k:Nat}(h:k<n):(be n x)[k]? =some x:=by rw[List.getElem?_replicate,if_pos h]
set_option maxHeartbeats 4000000 in
set_option maxRecDepth 100000 in
theorem p2l n a0 r(h:GR n a0=some r):∀st:St,U5 77 [.agg (bM a0)] st (fun d st'=>d= .mp (st.length+1)/\st'=(st++[none,some (.mps false (L5 (slc 1 16 B2) r))])):=by
 intro st;unfold GR at h;obtain⟨hnm,h⟩:=oT h;have V:=trivial;refine fb 12 [.tmp 2] [0,1,2,3,4] Tryz.func77 fun hsc=>?_;refine r0 ?_;refine r0 ?_;refine r0 ?_;refine r0 ?_;refine d2U 1 16 a0.parts.length ?_;simp only[bl,List.cons_append,fw];refine rn ?_;have p2m:Fam (st++some (.arr 0 7 0 [bM a0])::some (.mps false [])::some (.arr 0 1 0 [[.mp (st.length+1)]])::some (.arr 0 1 0 [[.fn 109 [] [B6 st.length,M5 st.length,.ptr (st.length+3) 0 0 0]]])::be a0.parts.length (some (.arr 0 1 16 []))) (st.length+1) (st.length+4) a0.parts (fun _=>0) (fun _=>[]) []:=by refine⟨fun p hp=>(by cases hp),P5.trans rfl,fun k S=>?_,fun _ _ _=>rfl,List.nodup_nil⟩;refine uO.2 ?_;rw[c8 M,show st.length+4+k-st.length=k+4 by omega];exact p2k _ S
 refine((p2c n _ _ _ _ _ h hnm _ st.length (st.length+2) (st.length+1) (st.length+3) (st.length+4) B5 M (by simp only[aa,an,oj];omega) (uN.trans rfl) (P5.trans rfl) (P5.trans rfl) _ _ p2m).up (.cons _ _ _ _ .s (.cons _ _ _ _ (.A9 _ _ _ D5) (.cons _ _ _ _ .s (.cons _ _ _ _ .s (.cons _ _ _ _ .s .nil))))) (by simp<;>omega)).mono ?_;rintro d1 st1 ⟨rfl,hC,g,z,hF⟩;have V:=(hC.look (o:=st.length+2) M M).trans (P5.trans rfl);have hlen:st1.length=st.length+(a0.parts.length+4):=by rw[hC.len];simp only[aa,an,oj]
 refine rr ?_;refine⟨(st++[none,some (.mps false (L5 (slc 1 16 B2) r))]),.mp (st.length+1),by simp,⟨by simp;omega,fun o ob' e=>?_,fun o ob' e=>?_⟩,.s,by simp,rfl,rfl⟩
 ·by_cases ho:o<st.length
  ·rw[cy ho]at e;exact⟨ob',by rw[hC.same o M M,cy ho];exact e,.s⟩
  ·rw[c8 M]at e;have V2:o-st.length<2:=by have:=(c7.1 e).1;simpa using this
   by_cases h0:o-st.length=0
   ·rw[h0]at e;cases e
   ·have U:o-st.length=1:=by omega
    rw[U]at e;cases e;obtain rfl:o=st.length+1:=by omega
    refine⟨_,uO.1 hF.mp,hF.ups fun k S=>?_⟩;unfold Am.look;rw[List.getElem?_eq_none (by simp;omega)];rfl
 ·by_cases ho:o<st.length
  ·rw[cy ho]at e;exact Ob.AZ B5 (hsc o ob' e)
  ·rw[c8 M]at e;have V2:o-st.length<2:=by have:=(c7.1 e).1;simpa using this
   by_cases h0:o-st.length=0
   ·rw[h0]at e;cases e
   ·have U:o-st.length=1:=by omega
    rw[U]at e;cases e;intro q hq;obtain⟨x,_,rfl⟩:=List.mem_map.1 hq;exact⟨trivial,trivial⟩
theorem p2n iO(HO:∀a0 I B0 G7 G8 C7 G5 G6 G9 M9 N0 N2 N3 m2 J7 r (h:iO a0 I B0 G7 G8 C7 G5 G6 G9 M9 N0 N2 N3 m2 J7=some r),∀st o0 o1 o2 o3 o4 (hnd: [o0,o1,o2,o3,o4].Nodup) (E7:Am.look st o0=some (.arr 0 11 0 (bL B0 G7 G8 C7 G5 G6 G9 M9 N0 N2 N3))) (L9:Am.look st o1=some (.arr 0 1 0 [[.mp o2]])) (T2:Am.look st o2=some (.mps false (L5 (slc 1 16 B2) m2))) (aG:Am.look st o3=some (.arr 0 1 0 [[C0 J7]])) (jx:Am.look st o4=some (.arr 0 1 0 (zW o0 o1 o3 o4))),U5 78 [K4 a0,C0 I,B6 o0,B6 o1,B6 o3,B6 o4] st (fun d st'=>d= .bool r/\st'=puts st [])) a0 I9 fL fM fN fO fP fQ fR fS fT fU m3 J5 K8 r(h:Ng iO a0 I9 fL fM fN fO fP fQ fR fS fT fU m3 J5 K8=some r):∀st o0 o1 o2 o3 o4 o5 (hnd: [o0,o1,o2,o3,o4,o5].Nodup) (E7:Am.look st o0=some (.arr 0 1 0 (zW o1 o2 o4 o0))) (L9:Am.look st o1=some (.arr 0 11 0 (bL I9 fL fM fN fO fP fQ fR fS fT fU))) (T2:Am.look st o2=some (.arr 0 1 0 [[.mp o3]])) (aG:Am.look st o3=some (.mps false (L5 (slc 1 16 B2) m3))) (jx:Am.look st o4=some (.arr 0 1 0 [[C0 J5]])) (qe:Am.look st o5=some (.arr 0 1 0 [[C0 K8]])),U5 81 [K4 a0,B6 o0,B6 o5] st (fun d st'=>d= .bool r/\st'=puts st []):=by intro st o0 o1 o2 o3 o4 o5 hnd E7 L9 T2 aG jx qe;unfold Ng at h;have N9:=E2 E7;have T5:=E2 L9;have V2:=E2 T2;have jP:=E2 aG;have tY:=E2 jx;have Ab:=E2 qe;have V:=fa (fa (fa (fa (fa (fa (H7 N9) (H7 T5)) (H7 V2)) (H7 jP)) (H7 tY)) (H7 Ab)) (RP hnd);refine fb 9 [.tmp 4] [0,1,2,3,4] Tryz.func81 fun hsc=>?_;refine ast (Hz st o0 o1 o2 o4 I9 fL fM fN fO fP fQ fR fS fT fU o3 m3 J5 o5 K8) ?_;refine rn ?_;have⟨v1,hv1,h⟩:=D0 h;refine(HO _ _ _ _ _ _ _ _ _ _ _ _ _ _ _ _ hv1 _ o1 o2 o3 o4 o0 (by simp[V]<;>omega) sg sg sg sg sg).mono ?_;rintro d1 st1 ⟨rfl,rfl⟩;refine rr ?_;exact sw (.bool v1)
theorem p2o iO(HO:∀a0 I B0 G7 G8 C7 G5 G6 G9 M9 N0 N2 N3 m2 J7 r (h:iO a0 I B0 G7 G8 C7 G5 G6 G9 M9 N0 N2 N3 m2 J7=some r),∀st o0 o1 o2 o3 o4 (hnd: [o0,o1,o2,o3,o4].Nodup) (E7:Am.look st o0=some (.arr 0 11 0 (bL B0 G7 G8 C7 G5 G6 G9 M9 N0 N2 N3))) (L9:Am.look st o1=some (.arr 0 1 0 [[.mp o2]])) (T2:Am.look st o2=some (.mps false (L5 (slc 1 16 B2) m2))) (aG:Am.look st o3=some (.arr 0 1 0 [[C0 J7]])) (jx:Am.look st o4=some (.arr 0 1 0 (zW o0 o1 o3 o4))),U5 78 [K4 a0,C0 I,B6 o0,B6 o1,B6 o3,B6 o4] st (fun d st'=>d= .bool r/\st'=puts st [])) a0 I9 fL fM fN fO fP fQ fR fS fT fU m3 J5 K8 r(h:Nf iO a0 I9 fL fM fN fO fP fQ fR fS fT fU m3 J5 K8=some r):∀st o0 o1 o2 o3 o4 o5 (hnd: [o0,o1,o2,o3,o4,o5].Nodup) (E7:Am.look st o0=some (.arr 0 1 0 (zW o1 o2 o4 o0))) (L9:Am.look st o1=some (.arr 0 11 0 (bL I9 fL fM fN fO fP fQ fR fS fT fU))) (T2:Am.look st o2=some (.arr 0 1 0 [[.mp o3]])) (aG:Am.look st o3=some (.mps false (L5 (slc 1 16 B2) m3))) (jx:Am.look st o4=some (.arr 0 1 0 [[C0 J5]])) (qe:Am.look st o5=some (.arr 0 1 0 [[C0 K8]])),U5 112 [J9 a0,.fn 81 [] [B6 o0,B6 o5]] st (fun d st'=>d=(T r)/\st'=puts st []):=by
 intro st o0 o1 o2 o3 o4 o5 hnd E7 L9 T2 aG jx qe;unfold Nf at h;have N9:=E2 E7;have T5:=E2 L9;have V2:=E2 T2;have jP:=E2 aG;have tY:=E2 jx;have Ab:=E2 qe;have V:=fa (fa (fa (fa (fa (fa (H7 N9) (H7 T5)) (H7 V2)) (H7 jP)) (H7 tY)) (H7 Ab)) (RP hnd);refine fb 19 [.tmp 4] [0,1,4,5,7,8,9,16] Tryz.func112 fun hsc=>?_;refine ast (Hz st o0 o1 o2 o4 I9 fL fM fN fO fP fQ fR fS fT fU o3 m3 J5 o5 K8) ?_;refine Q9 0 fun H6=>?_;refine O8 () V H6 h
  (fun A0 k0 Y=>[(0,J9 a0),(1,.fn 81 [] [B6 o0,B6 o5]),ah (a0.length:Int),(8,T ↑k0)])
  (fun A0 k0 Y=>(Hz st o0 o1 o2 o4 I9 fL fM fN fO fP fQ fR fS fT fU o3 m3 J5 o5 K8))
  (fun gt0 t0=>[])
  (fun gt0 t0=>(Hz st o0 o1 o2 o4 I9 fL fM fN fO fP fQ fR fS fT fU o3 m3 J5 o5 K8))
  jE
  (fun A0 k0 Y b0 V h hx0=>?_) (fun gt0 t0 C8 st1 h H=>?_)
 ·unfold XW at h;refine ct ?_;refine rn ?_;have⟨v1,hv1,h⟩:=D0 h;refine(p2n iO HO _ _ _ _ _ _ _ _ _ _ _ _ _ _ _ _ hv1 _ _ _ _ _ _ _ hnd sg sg sg sg sg sg).mono ?_;rintro d1 st1 ⟨rfl,rfl⟩;refine cd h ?_ ?_<;>intro K h
  ·refine ra ?_;cases h;refine aM ?_;have h:=congrArg some (hx0 _ rfl);refine rr ?_;exact vp (T ↑k0)
  ·refine rn ?_;cases h;exact L6 () jE
 ·unfold XZ at h;refine D1 H ?_;refine rr ?_;exact vp (T (-1))
theorem p2p iO(HO:∀a0 I B0 G7 G8 C7 G5 G6 G9 M9 N0 N2 N3 m2 J7 r (h:iO a0 I B0 G7 G8 C7 G5 G6 G9 M9 N0 N2 N3 m2 J7=some r),∀st o0 o1 o2 o3 o4 (hnd: [o0,o1,o2,o3,o4].Nodup) (E7:Am.look st o0=some (.arr 0 11 0 (bL B0 G7 G8 C7 G5 G6 G9 M9 N0 N2 N3))) (L9:Am.look st o1=some (.arr 0 1 0 [[.mp o2]])) (T2:Am.look st o2=some (.mps false (L5 (slc 1 16 B2) m2))) (aG:Am.look st o3=some (.arr 0 1 0 [[C0 J7]])) (jx:Am.look st o4=some (.arr 0 1 0 (zW o0 o1 o3 o4))),U5 78 [K4 a0,C0 I,B6 o0,B6 o1,B6 o3,B6 o4] st (fun d st'=>d= .bool r/\st'=puts st [])) a0 I9 fL fM fN fO fP fQ fR fS fT fU m3 J5 K8 r(h:Nd iO a0 I9 fL fM fN fO fP fQ fR fS fT fU m3 J5 K8=some r):∀st o0 o1 o2 o3 o4 o5 (hnd: [o0,o1,o2,o3,o4,o5].Nodup) (E7:Am.look st o0=some (.arr 0 1 0 (zW o1 o2 o4 o0))) (L9:Am.look st o1=some (.arr 0 11 0 (bL I9 fL fM fN fO fP fQ fR fS fT fU))) (T2:Am.look st o2=some (.arr 0 1 0 [[.mp o3]])) (aG:Am.look st o3=some (.mps false (L5 (slc 1 16 B2) m3))) (jx:Am.look st o4=some (.arr 0 1 0 [[C0 J5]])) (qe:Am.look st o5=some (.arr 0 1 0 [[C0 K8]])),U5 80 [J9 a0,.fn 81 [] [B6 o0,B6 o5]] st (fun d st'=>d= .bool r/\st'=puts st []):=by intro st o0 o1 o2 o3 o4 o5 hnd E7 L9 T2 aG jx qe;unfold Nd at h;have N9:=E2 E7;have T5:=E2 L9;have V2:=E2 T2;have jP:=E2 aG;have tY:=E2 jx;have Ab:=E2 qe;have V:=fa (fa (fa (fa (fa (fa (H7 N9) (H7 T5)) (H7 V2)) (H7 jP)) (H7 tY)) (H7 Ab)) (RP hnd);refine fb 9 [.tmp 4] [0,1,4] Tryz.func80 fun hsc=>?_;refine ast (Hz st o0 o1 o2 o4 I9 fL fM fN fO fP fQ fR fS fT fU o3 m3 J5 o5 K8) ?_;refine rn ?_;have⟨v1,hv1,h⟩:=D0 h;refine(p2o iO HO _ _ _ _ _ _ _ _ _ _ _ _ _ _ _ _ hv1 _ _ _ _ _ _ _ hnd sg sg sg sg sg sg).mono ?_;rintro d1 st1 ⟨rfl,rfl⟩;refine rr ?_;exact vp (.bool (decide (0<=v1)))
theorem p2q:∀n a0 I B0 G7 G8 C7 G5 G6 G9 M9 N0 N2 N3 m2 J7 r (h:oq n a0 I B0 G7 G8 C7 G5 G6 G9 M9 N0 N2 N3 m2 J7=some r),∀st o0 o1 o2 o3 o4 (hnd: [o0,o1,o2,o3,o4].Nodup) (E7:Am.look st o0=some (.arr 0 11 0 (bL B0 G7 G8 C7 G5 G6 G9 M9 N0 N2 N3))) (L9:Am.look st o1=some (.arr 0 1 0 [[.mp o2]])) (T2:Am.look st o2=some (.mps false (L5 (slc 1 16 B2) m2))) (aG:Am.look st o3=some (.arr 0 1 0 [[C0 J7]])) (jx:Am.look st o4=some (.arr 0 1 0 (zW o0 o1 o3 o4))),U5 78 [K4 a0,C0 I,B6 o0,B6 o1,B6 o3,B6 o4] st (fun d st'=>d= .bool r/\st'=puts st []):=by
 intro n;induction n with
 |zero=>intro a0 I B0 G7 G8 C7 G5 G6 G9 M9 N0 N2 N3 m2 J7 r h;cases h
 |succ n ih=>
  intro a0 I B0 G7 G8 C7 G5 G6 G9 M9 N0 N2 N3 m2 J7 r h st o0 o1 o2 o3 o4 hnd E7 L9 T2 aG jx;unfold oq at h;have N9:=E2 E7;have T5:=E2 L9;have V2:=E2 T2;have jP:=E2 aG;have tY:=E2 jx;have V:=fa (fa (fa (fa (fa (H7 N9) (H7 T5)) (H7 V2)) (H7 jP)) (H7 tY)) (nd5 hnd);refine fb 60 [.tmp 8] [0,1,2,3,4,5,6,7,8,10,12,16,20,21,22,23,29,32,33,34,35,42,43,44,45,46,49] Tryz.func78 fun hsc=>?_;refine ast (wT st o0 B0 G7 G8 C7 G5 G6 G9 M9 N0 N2 N3 o1 o2 m2 o3 J7 o4) ?_;refine cl h (Aa _ _) fun v1 h=>?_;refine rn ?_;refine V4 (Dm (oq n) J7 a0 I B0 G7 G8 C7 G5 G6 G9 M9 N0 N2 N3 m2) r (fun(bN:Unit) j0=>[G4 o3,(5,B6 o4),(6,B6 st.length),(7,Z2 st.length)]) (fun bN j0=>((wT st o0 B0 G7 G8 C7 G5 G6 G9 M9 N0 N2 N3 o1 o2 m2 o3 J7 o4)++[G3 a0,some (fV I)])) (fun bN j0 C8 st1 h H=>?_) (fun hj0=>?_)
  ·unfold Dm at h;refine D1 H ?_;refine Q9 32 fun hl2=>?_;refine O8 () V hl2 h
    (fun J3 k2 s2=>[G4 o3,(5,B6 o4),(6,B6 st.length),(7,Z2 st.length),(32,C0 a0.words),(33,T ↑a0.words.length),(34,T ↑k2)])
    (fun J3 k2 s2=>((wT st o0 B0 G7 G8 C7 G5 G6 G9 M9 N0 N2 N3 o1 o2 m2 o3 J7 o4)++[G3 a0,some (fV I)]))
    (fun I3 t2=>[(5,B6 o4),(6,B6 st.length),(7,Z2 st.length)])
    (fun I3 t2=>((wT st o0 B0 G7 G8 C7 G5 G6 G9 M9 N0 N2 N3 o1 o2 m2 o3 J7 o4)++[G3 a0,some (fV I)]))
    bu
    (fun J3 k2 s2 b2 V h V3=>?_) (fun I3 t2 C8 st1 h H=>?_)
   ·unfold XV at h;refine ct ?_;refine cl h (gO _ _) fun v5 h=>?_;refine rn ?_;have⟨v6,jk,h⟩:=D0 h;refine gi (fun hG=>(gO _ _ _ (cg jk (by simpa using hG)))) ?_;refine cd h ?_ ?_<;>intro K h
    ·refine ra ?_;cases h;refine aM ?_;have h:=congrArg some (V3 _ rfl);refine rr ?_;exact sw (.bool true)
    ·refine rn ?_;cases h;exact L6 () bu
   ·unfold Ya at h;refine D1 H ?_;refine cl h (qd _) fun v7 h=>?_;refine rn ?_;refine V4 (Dn (oq n) a0 B0 G7 G8 C7 G5 G6 G9 M9 N0 N2 N3 m2 J7) r (fun(jy:Unit) j3=>[(5,B6 o4),(6,B6 st.length),(7,Z2 st.length)]) (fun jy j3=>((wT st o0 B0 G7 G8 C7 G5 G6 G9 M9 N0 N2 N3 o1 o2 m2 o3 J7 o4)++[G3 a0,some (fV j3)])) (fun jy j3 C8 st1 h H=>?_) (fun hj3=>?_)
    ·unfold Dn at h;refine D1 H ?_;refine rn ?_;have⟨tJ,p2r,h⟩:=D0 h;refine(p2p (oq n) ih _ _ _ _ _ _ _ _ _ _ _ _ _ _ _ _ p2r _ o4 o0 o1 o2 o3 (st.length+1) (by simp[V]<;>omega) sg sg sg sg sg (aN.trans rfl)).mono ?_;rintro d1 st1 ⟨rfl,rfl⟩;refine rr ?_;exact sw (.bool tJ)
    ·refine cd h ?_ ?_<;>intro K h
     ·(repeat apply I6)
      refine S9 1 16 ?_;refine V5 ?_;refine Q0 [(5,B6 o4),(6,B6 st.length),(7,Z2 st.length),(49,.bool v7)] ((wT st o0 B0 G7 G8 C7 G5 G6 G9 M9 N0 N2 N3 o1 o2 m2 o3 J7 o4)++[G3 a0,some (fV I),kI []]) bu ?_;refine B ?_;refine dw [1,3] 2 ?_;have⟨v8,mV,h⟩:=D0 h;refine K0 [(st.length+2)] (fun st2 X=>(HJ _ _ _ mV st2 (st.length+2) 0 B5 (T6 X (aN.trans rfl)))) ?_;have⟨eA,nC,h⟩:=E1 h;have fy:=J1 B2 (I5 a0.name) nC;have fy:=fl fy nC;have⟨V,h⟩:=ck V h;try simp only[go_sem,V,fy]
      try refine⟨by first|omega|(simp<;>omega),?_⟩
      refine hj3 () _ _ _ h ?_;exact(bu (hu:=(.lv (.live _ _ _ _ (.arr _ _ _ _ _ (.cons _ _ _ _ (.cons _ _ _ _ (.ref _ _ _ _ _ _ _ _ _ (lq.trans rfl) (qK (by first|decide|simp)) D5 (br _) (by simp only[go_sem])) .nil) (.same _))) (.nil _)))))
     ·refine r0 ?_;exact hj3 () _ _ _ h bu
  ·refine cd h ?_ ?_<;>intro K h
   ·refine Q9 20 fun aR=>?_;refine O8 () V aR h
     (fun D8 k1 s1=>[G4 o3,(5,B6 o4),(6,B6 st.length),(7,Z2 st.length),(20,C0 ((assoc a0.name m2).getD default)),(21,T (↑(((assoc a0.name m2).getD default).length):Int)),(22,T ↑k1)])
     (fun D8 k1 s1=>((wT st o0 B0 G7 G8 C7 G5 G6 G9 M9 N0 N2 N3 o1 o2 m2 o3 J7 o4)++[G3 a0,some (fV I)]))
     (fun G1 t1=>[G4 o3,(5,B6 o4),(6,B6 st.length),(7,Z2 st.length)])
     (fun G1 t1=>((wT st o0 B0 G7 G8 C7 G5 G6 G9 M9 N0 N2 N3 o1 o2 m2 o3 J7 o4)++[G3 a0,some (fV I)]))
     bu
     (fun D8 k1 s1 b1 V h U8=>?_) (fun G1 t1 C8 st1 h H=>?_)
    ·unfold Yb at h;refine ct ?_;refine cl h (gO _ _) fun v2 h=>?_;refine cd h ?_ ?_<;>intro K h
     ·refine ra ?_;cases h;refine aM ?_;have h:=congrArg some (U8 _ rfl);refine rr ?_;exact sw (.bool true)
     ·refine rn ?_;cases h;exact L6 () bu
    ·try simp only[go_sem,V]
     unfold Yc at h;refine hj0 () _ _ _ h ?_;exact(H.trans bu)
   ·refine r0 ?_;exact hj0 () _ _ _ h bu
theorem p2s n a0 r(h:GS n a0=some r):L8 51 [.agg (Dz a0)] (.bool r):=by intro st;unfold GS at h;have V:=trivial;refine fb 18 [.tmp 2] [0,1,2,3,4,5] Tryz.func51 fun hsc=>?_;refine rn ?_;have⟨v1,hv1,h⟩:=D0 h;refine(p2l n _ _ hv1 _).mono ?_;rintro d1 st1 ⟨rfl,rfl⟩;refine cl h (DN n _) fun v2 h=>?_;refine rn ?_;have⟨v3,W4,h⟩:=D0 h;refine((p2q n _ _ _ _ _ _ _ _ _ _ _ _ _ _ _ _ W4 _ _ _ _ _ _ B5 (uN.trans rfl) (P5.trans rfl) (P5.trans rfl) (P5.trans rfl) (P5.trans rfl)).up (.cons _ _ _ _ .s (.cons _ _ _ _ (.A9 _ _ _ D5) (.cons _ _ _ _ .s (.cons _ _ _ _ .s (.cons _ _ _ _ .s (.cons _ _ _ _ .s .nil)))))) (by simp<;>omega)).mono ?_;rintro d1 st1 ⟨rfl,rfl⟩;exact rt
theorem p2t n a0 r(h:Ho n a0=some r):L8 30 [U6 a0] (cP r):=by
 intro st;unfold Ho at h;have V:=trivial;refine fb 80 [.cell 2 29] [0,2,3,4,5,6,7,8,9,12,14,15,16,17,26,36,44,52,53,54,55,65,66,67,68,69,70,75] Tryz.func30 fun hsc=>?_;refine cd h ?_ ?_<;>intro K h
 ·refine cl h (xu _ _) fun v1 h=>?_;exact rt
 ·refine Q9 14 fun H6=>?_;refine O8 () V H6 h
   (fun A0 k0 Y=>[(2,B6 st.length),(14,U6 a0),(15,T ↑a0.length),(16,T ↑k0)])
   (fun A0 k0 Y=>(st++[Z4 0 0]))
   (fun gt0 t0=>[(2,B6 st.length)])
   (fun gt0 t0=>(st++[Z4 0 0]))
   bm
   (fun A0 k0 Y b0 V h hx0=>?_) (fun gt0 t0 C8 st1 h H=>?_)
  ·unfold Yu at h;refine ct ?_;refine cl h (p1Y n _) fun v21 h=>?_;refine cd h ?_ ?_<;>intro K h
   ·refine cl h (xu _ _) fun v22 h=>?_;refine ra ?_;cases h;refine aM ?_;have h:=congrArg some (hx0 _ rfl);exact rt
   ·refine cl h (Aa _ _) fun v23 h=>?_;refine cd h ?_ ?_<;>intro K h
    ·refine cl h (xu _ _) fun v24 h=>?_;refine ra ?_;cases h;refine aM ?_;have h:=congrArg some (hx0 _ rfl);exact rt
    ·refine cl h (YR n _) fun v25 h=>?_;refine cd h ?_ ?_<;>intro K h
     ·refine cl h (xu _ _) fun v26 h=>?_;refine ra ?_;cases h;refine aM ?_;have h:=congrArg some (hx0 _ rfl);exact rt
     ·refine cl h (DN n _) fun dc h=>?_;refine Q9 7 fun hl2=>?_;refine O8 () V hl2 h
       (fun J3 k2 s2=>[(2,B6 st.length),cQ (k0:Int),fh st.length,(7,C0 dc),(14,U6 a0),(15,T ↑a0.length),(16,T ↑k0),(52,C0 dc),(53,T ↑dc.length),(54,T ↑k2)])
       (fun J3 k2 s2=>(st++[Z4 0 0,some (.arr 0 11 0 (bL ((get a0 k0).from_.form.kind) ((get a0 k0).from_.form.name) ((get a0 k0).from_.form.words) ((get a0 k0).from_.form.subs) ((get a0 k0).from_.words) ((get a0 k0).from_.A8) ((get a0 k0).from_.parts) ((get a0 k0).B4.kind) ((get a0 k0).B4.name) ((get a0 k0).B4.words) ((get a0 k0).B4.subs)))]))
       (fun I3 t2=>[(2,B6 st.length),cQ (k0:Int),fh st.length,(14,U6 a0),(15,T ↑a0.length),(16,T ↑k0)])
       (fun I3 t2=>(st++[Z4 0 0,some (.arr 0 11 0 (bL ((get a0 k0).from_.form.kind) ((get a0 k0).from_.form.name) ((get a0 k0).from_.form.words) ((get a0 k0).from_.form.subs) ((get a0 k0).from_.words) ((get a0 k0).from_.A8) ((get a0 k0).from_.parts) ((get a0 k0).B4.kind) ((get a0 k0).B4.name) ((get a0 k0).B4.words) ((get a0 k0).B4.subs)))]))
       bm
       (fun J3 k2 s2 b2 V h V3=>?_) (fun I3 t2 C8 st1 h H=>?_)
      ·unfold Yv at h;refine ct ?_;have⟨V,h⟩:=ck V h;refine cl h (gO _ _) fun v35 h=>?_;refine rn ?_;have⟨tG,Za,h⟩:=D0 h;refine gi (fun hG=>(gO _ _ _ (cg Za (by simpa using hG)))) ?_;refine cd h ?_ ?_<;>intro K h
       ·refine cl h (xu _ _) fun v37 h=>?_;refine ra ?_;cases h;refine aM ?_;obtain rfl:=V3 _ rfl;try simp only[go_sem,V]
        refine aM ?_;have h:=congrArg some (hx0 _ rfl);exact rt
       ·refine rn ?_;cases h;exact L6 () bm
      ·unfold Yw at h;refine D1 H ?_;refine cl h (p2s n _) fun kq h=>?_;refine cd h ?_ ?_<;>intro K h
       ·refine cl h (xu _ _) fun v39 h=>?_;refine ra ?_;cases h;refine aM ?_;have h:=congrArg some (hx0 _ rfl);exact rt
       ·refine rn ?_;cases h;exact L6 () bm
  ·unfold Yx at h;refine D1 H ?_;exact rt
theorem d9Y n a0 I r(h:Du n a0 I=some r):L8 14 [U6 a0,K4 I] (cP r):=by
 intro st;unfold Du at h;have V:=trivial;refine fb 14 [.cell 4 29] [0,1,3,4,5,10] Tryz.func14 fun hsc=>?_;refine cl h (p2t n _) fun v1 h=>?_;refine cd h ?_ ?_<;>intro K h
 ·exact rt
 ·refine cl h (YR n _) fun v2 h=>?_;exact rt
theorem Zb B0 C7 m1 l2 r(h:zc B0 C7 m1 l2=some r):∀st o0 o1 o2 q2 (hnd: [o0,o1,o2].Nodup) (E7:Am.look st o0=some (.arr 0 4 0 (fX B0 o1 o2 q2 l2.length C7))) (L9:Am.look st o1=some (.mps false (L5 aY m1))) (T2:Am.look st o2=some (.arr q2 2 16 (rows C6.cells l2))),U5 54 [B6 o0] st (fun d st'=>d= .str r.1/\st'=puts st (bC o0 B0 o1 o2 q2 l2.length r.2 m1 l2)):=by intro st o0 o1 o2 q2 hnd E7 L9 T2;unfold zc at h;have N9:=E2 E7;have T5:=E2 L9;have V2:=E2 T2;have V:=fa (fa (fa (H7 N9) (H7 T5)) (H7 V2)) (qL hnd);refine fb 16 [.tmp 2] [0,2] Tryz.func54 fun hsc=>?_;refine ast (C2 st (bC o0 B0 o1 o2 q2 l2.length C7 m1 l2)) ?_;refine cl h (EV _) fun v1 h=>?_;have⟨V,h⟩:=ck V h;refine rr ?_;exact vo (.str (O1 [63] v1))
theorem p2u:∀n I B0 C7 m1 l2 m3 r (h:Cx n I B0 C7 m1 l2 m3=some r),∀st o0 o1 o2 o3 q2 (hnd: [o0,o1,o2,o3].Nodup) (E7:Am.look st o0=some (.arr 0 4 0 (fX B0 o1 o2 q2 l2.length C7))) (L9:Am.look st o1=some (.mps false (L5 aY m1))) (T2:Am.look st o2=some (.arr q2 2 16 (rows C6.cells l2))) (aG:Am.look st o3=some (.mps false (L5 B2 m3))),U5 32 [B6 o0,K4 I,.mp o3] st (fun d st'=>d=(K4 r.1)/\st'=puts st (pZ o0 B0 o1 o2 q2 l2.length r.2 m1 l2 o3 m3)):=by
 intro n;induction n with
 |zero=>intro I B0 C7 m1 l2 m3 r h;cases h
 |succ n ih=>
  intro I B0 C7 m1 l2 m3 r h st o0 o1 o2 o3 q2 hnd E7 L9 T2 aG;unfold Cx at h;have N9:=E2 E7;have T5:=E2 L9;have V2:=E2 T2;have jP:=E2 aG;have V:=fa (fa (fa (fa (H7 N9) (H7 T5)) (H7 V2)) (H7 jP)) (Ro hnd);refine fb 84 [.cell 6 26] [0,1,2,4,6,7,9,10,11,12,13,14,16,23,24,25,26,35,45,48,50,67,68,69,70] Tryz.func32 fun hsc=>?_;refine ast (C2 st (pZ o0 B0 o1 o2 q2 l2.length C7 m1 l2 o3 m3)) ?_;refine r0 ?_;refine r0 ?_;refine r0 ?_;(repeat apply I6)
  refine S9 1 16 ?_;refine V5 ?_;refine Q0 [(0,B6 o0),(2,.mp o3),G4 st.length,P3 st.length,U9 st.length,(23,C0 I.words),(24,T ↑I.words.length),(25,T 0)] ((C2 st (pZ o0 B0 o1 o2 q2 l2.length C7 m1 l2 o3 m3))++(wX I 0 [] I.kind I.name st.length 0 [])) bu ?_;refine Q9 23 fun H6=>?_;refine O8 0 V H6 h
   (fun A0 k0 Y=>[(0,B6 o0),(2,.mp o3),G4 st.length,P3 st.length,U9 st.length,(23,C0 I.words),(24,T ↑I.words.length),(25,T ↑k0)])
   (fun A0 k0 Y=>((C2 st (pZ o0 B0 o1 o2 q2 l2.length C7 m1 l2 o3 m3))++(aS I 0 [] I.kind I.name st.length A0 Y.length Y)))
   (fun gt0 t0=>[(0,B6 o0),(2,.mp o3),G4 st.length,P3 st.length,U9 st.length])
   (fun gt0 t0=>((C2 st (pZ o0 B0 o1 o2 q2 l2.length C7 m1 l2 o3 m3))++(aS I 0 [] I.kind I.name st.length gt0 t0.length t0)))
   bu
   (fun A0 k0 Y b0 V h hx0=>?_) (fun gt0 t0 C8 st1 h H=>?_)
  ·unfold Vb at h;refine ct ?_;refine cd h ?_ ?_<;>intro K h
   ·refine r0 ?_;have⟨jr,Ac,h⟩:=E1 h;have fy:=J1 B2 (I5 ((assoc (get I.words k0) m3).getD default)) Ac;have fy:=fl fy Ac;have⟨V,h⟩:=ck V h;refine r1 ?_;refine rn ?_;cases h;exact L6 (A0+1) bu
   ·refine r0 ?_;have⟨cL,lX,h⟩:=E1 h;have fy:=J1 B2 (I5 (get I.words k0)) lX;have fy:=fl fy lX;have⟨V,h⟩:=ck V h;refine r1 ?_;refine rn ?_;cases h;exact L6 (A0+1) bu
  ·unfold Vc at h;refine D1 H ?_;refine cl h (qd _) fun v25 h=>?_;refine cd h ?_ ?_<;>intro K h
   ·refine r0 ?_;first|refine I6 (d2G (b:=47) (tI:=12) (tE:=2) (tk:=13) (tv:=14) (id2:=2) (id3:=3) (i1:=12) (i2:=13) (i3:=14) (i4:=15) (B':=(OP o0 st.length)) (oi:=(st.length+4)) (oe:=o3) (es:=L5 B2 m3) Tryz.underlying100 Tryz.underlying9 D5 rfl rfl (by simp only[go_sem,V]<;>rfl) rfl (by simp only[go_sem,V]<;>rfl) M (by simp[Fr.leq,Fr.get]) rfl ?_)|refine d2G (b:=47) (tI:=12) (tE:=2) (tk:=13) (tv:=14) (id2:=2) (id3:=3) (i1:=12) (i2:=13) (i3:=14) (i4:=15) (B':=(OP o0 st.length)) (oi:=(st.length+4)) (oe:=o3) (es:=L5 B2 m3) Tryz.underlying100 Tryz.underlying9 D5 rfl rfl (by simp only[go_sem,V]<;>rfl) rfl (by simp only[go_sem,V]<;>rfl) M (by simp[Fr.leq,Fr.get]) rfl ?_
    try simp only[go_sem,V]
    refine rn ?_;have⟨v26,HF,h⟩:=D0 h;refine(Zb _ _ _ _ _ HF _ o0 o1 o2 q2 (by simp[V]<;>omega) sg sg sg).mono ?_;rintro d1 st1 ⟨rfl,rfl⟩;try simp only[go_sem,V]
    have⟨eB,Ad,h⟩:=E1 h;have fy:=(show I4 I.name [.str v26.1] (L5 B2 m3)=L5 B2 eB from by rw[Ad];exact qG (κ:=J) (E:=B2) I.name v26.1 m3);refine r1 ?_;refine r0 ?_;refine r0 ?_;(repeat apply I6)
    refine S9 4 72 ?_;refine V5 ?_;refine Q0 (OO o0 st.length I.subs (I.subs.length:Int) 0) ((C2 st (pZ o0 B0 o1 o2 q2 l2.length v26.2 m1 l2 o3 m3))++[G3 I,O4 0 [],DE I.kind v26.1 st.length gt0 t0.length 0 0,J2 gt0 t0,wZ eB,kG []]) bu ?_;refine Q9 67 fun aR=>?_;refine O8 0 V aR h
     (fun D8 k1 s1=>(OO o0 st.length I.subs (I.subs.length:Int) (k1:Int)))
     (fun D8 k1 s1=>((C2 st (pZ o0 B0 o1 o2 q2 l2.length s1.1 m1 l2 o3 m3))++[none,O4 0 [],DE I.kind v26.1 st.length gt0 t0.length D8 s1.2.length,J2 gt0 t0,wZ eB,eC D8 s1.2]))
     (fun G1 t1=>(zY st.length))
     (fun G1 t1=>((C2 st (pZ o0 B0 o1 o2 q2 l2.length t1.1 m1 l2 o3 m3))++[none,O4 0 [],DE I.kind v26.1 st.length gt0 t0.length G1 t1.2.length,J2 gt0 t0,none,eC G1 t1.2]))
     bu
     (fun D8 k1 s1 b1 V h U8=>?_) (fun G1 t1 C8 st1 h H=>?_)
    ·unfold Ve at h;refine ct ?_;refine rn ?_;refine dw [1,5] 2 ?_;have⟨tG,Za,h⟩:=D0 h;refine K0 [o0,o1,o2,(st.length+4)] (fun st2 X=>(ih _ _ _ _ _ _ _ Za st2 o0 o1 o2 (st.length+4) q2 (by simp[V]<;>omega) (T6 X) (T6 X) (T6 X) (T6 X (aN.trans rfl)))) ?_;have⟨pU,HU,h⟩:=E1 h;have fy:=J1 O.cells (gM tG.1) HU;have fy:=fl fy HU;have⟨V,h⟩:=ck V h;try simp only[go_sem,V,fy]
     try refine⟨by first|omega|(simp<;>omega),?_⟩
     refine rn ?_;cases h;exact L6 (D8+1) bu
    ·unfold Vf at h;refine D1 H ?_;refine rr ?_;exact aO (gL I.kind v26.1 t0 t1.2)
   ·refine r0 ?_;refine r0 ?_;(repeat apply I6)
    refine S9 4 72 ?_;refine V5 ?_;refine Q0 [(0,B6 o0),(2,.mp o3),P3 st.length,U9 st.length,(67,J9 I.subs),(68,T ↑I.subs.length),(69,T 0)] ((C2 st (pZ o0 B0 o1 o2 q2 l2.length C7 m1 l2 o3 m3))++[G3 I,O4 0 [],wU I.kind I.name st.length gt0 t0.length 0 0,J2 gt0 t0,kG []]) bu ?_;refine Q9 67 fun hl2=>?_;refine O8 0 V hl2 h
     (fun J3 k2 s2=>[(0,B6 o0),(2,.mp o3),P3 st.length,U9 st.length,(67,J9 I.subs),(68,T ↑I.subs.length),(69,T ↑k2)])
     (fun J3 k2 s2=>((C2 st (pZ o0 B0 o1 o2 q2 l2.length s2.1 m1 l2 o3 m3))++(xq 0 [] I.kind I.name st.length gt0 t0.length J3 s2.2.length t0 s2.2)))
     (fun I3 t2=>(zY st.length))
     (fun I3 t2=>((C2 st (pZ o0 B0 o1 o2 q2 l2.length t2.1 m1 l2 o3 m3))++(xq 0 [] I.kind I.name st.length gt0 t0.length I3 t2.2.length t0 t2.2)))
     bu
     (fun J3 k2 s2 b2 V h V3=>?_) (fun I3 t2 C8 st1 h H=>?_)
    ·unfold Vg at h;refine ct ?_;refine rn ?_;refine dw [1,5] 2 ?_;have⟨v50,p2v,h⟩:=D0 h;refine K0 [o0,o1,o2,o3] (fun st2 X=>(ih _ _ _ _ _ _ _ p2v st2 _ _ _ _ q2 hnd (T6 X) (T6 X) (T6 X) (T6 X))) ?_;have⟨NK,d9Z,h⟩:=E1 h;have fy:=J1 O.cells (gM v50.1) d9Z;have fy:=fl fy d9Z;have⟨V,h⟩:=ck V h;try simp only[go_sem,V,fy]
     try refine⟨by first|omega|(simp<;>omega),?_⟩
     refine rn ?_;cases h;exact L6 (J3+1) bu
    ·unfold Vh at h;refine D1 H ?_;refine rr ?_;exact aO (gL I.kind I.name t0 t2.2)
theorem p2w:∀n I B0 C7 m1 l2 r (h:Cy n I B0 C7 m1 l2=some r),∀st o0 o1 o2 q2 (hnd: [o0,o1,o2].Nodup) (E7:Am.look st o0=some (.arr 0 4 0 (fX B0 o1 o2 q2 l2.length C7))) (L9:Am.look st o1=some (.mps false (L5 aY m1))) (T2:Am.look st o2=some (.arr q2 2 16 (rows C6.cells l2))),U5 32 [B6 o0,K4 I,.S8] st (fun d st'=>d=(K4 r.1)/\st'=puts st (bC o0 B0 o1 o2 q2 l2.length r.2 m1 l2)):=by
 intro n;induction n with
 |zero=>intro I B0 C7 m1 l2 r h;cases h
 |succ n ih=>
  intro I B0 C7 m1 l2 r h st o0 o1 o2 q2 hnd E7 L9 T2;unfold Cy at h;have N9:=E2 E7;have T5:=E2 L9;have V2:=E2 T2;have V:=fa (fa (fa (H7 N9) (H7 T5)) (H7 V2)) (qL hnd);refine fb 84 [.cell 6 26] [0,1,2,4,6,7,9,10,11,12,13,14,16,23,24,25,26,35,45,48,50,67,68,69,70] Tryz.func32 fun hsc=>?_;refine ast (C2 st (bC o0 B0 o1 o2 q2 l2.length C7 m1 l2)) ?_;refine r0 ?_;refine r0 ?_;refine r0 ?_;(repeat apply I6)
  refine S9 1 16 ?_;refine V5 ?_;refine Q0 [(0,B6 o0),(2,.S8),G4 st.length,P3 st.length,U9 st.length,(23,C0 I.words),(24,T ↑I.words.length),(25,T 0)] ((C2 st (bC o0 B0 o1 o2 q2 l2.length C7 m1 l2))++(wX I 0 [] I.kind I.name st.length 0 [])) bu ?_;refine Q9 23 fun H6=>?_;refine O8 0 V H6 h
   (fun A0 k0 Y=>[(0,B6 o0),(2,.S8),G4 st.length,P3 st.length,U9 st.length,(23,C0 I.words),(24,T ↑I.words.length),(25,T ↑k0)])
   (fun A0 k0 Y=>((C2 st (bC o0 B0 o1 o2 q2 l2.length C7 m1 l2))++(aS I 0 [] I.kind I.name st.length A0 Y.length Y)))
   (fun gt0 t0=>[(0,B6 o0),(2,.S8),G4 st.length,P3 st.length,U9 st.length])
   (fun gt0 t0=>((C2 st (bC o0 B0 o1 o2 q2 l2.length C7 m1 l2))++(aS I 0 [] I.kind I.name st.length gt0 t0.length t0)))
   bu
   (fun A0 k0 Y b0 V h hx0=>?_) (fun gt0 t0 C8 st1 h H=>?_)
  ·unfold Vi at h;refine ct ?_;refine cd h ?_ ?_<;>intro K h
   ·refine r0 ?_;have⟨jr,Ac,h⟩:=E1 h;have fy:=J1 B2 (I5 ([]:J)) Ac;have fy:=fl fy Ac;have⟨V,h⟩:=ck V h;refine r1 ?_;refine rn ?_;cases h;exact L6 (A0+1) bu
   ·refine r0 ?_;have⟨cL,lX,h⟩:=E1 h;have fy:=J1 B2 (I5 (get I.words k0)) lX;have fy:=fl fy lX;have⟨V,h⟩:=ck V h;refine r1 ?_;refine rn ?_;cases h;exact L6 (A0+1) bu
  ·unfold Vj at h;refine D1 H ?_;refine cl h (qd _) fun v25 h=>?_;refine cd h ?_ ?_<;>intro K h
   ·refine r0 ?_;first|refine I6 (d2H (b:=47) (tI:=12) (tE:=2) (tk:=13) (tv:=14) (id2:=2) (id3:=3) (i1:=12) (i2:=13) (i3:=14) (i4:=15) (B':=(OP o0 st.length)) Tryz.underlying100 D5 rfl (by simp[Fr.leq,Fr.get]) rfl ?_)|refine d2H (b:=47) (tI:=12) (tE:=2) (tk:=13) (tv:=14) (id2:=2) (id3:=3) (i1:=12) (i2:=13) (i3:=14) (i4:=15) (B':=(OP o0 st.length)) Tryz.underlying100 D5 rfl (by simp[Fr.leq,Fr.get]) rfl ?_
    try simp only[go_sem,V]
    refine rn ?_;have⟨v26,HF,h⟩:=D0 h;refine(Zb _ _ _ _ _ HF _ _ _ _ q2 hnd sg sg sg).mono ?_;rintro d1 st1 ⟨rfl,rfl⟩;try simp only[go_sem,V]
    have⟨eB,Ad,h⟩:=E1 h;have fy:=(show [(I.name,[.str v26.1])]=L5 B2 eB from by rw[Ad];exact qG (κ:=J) (E:=B2) I.name v26.1 []);have fy:=fa fy (show I4 I.name [.str v26.1] (L5 B2 [])=L5 B2 eB from by rw[Ad];exact qG (κ:=J) (E:=B2) I.name v26.1 []);refine r1 ?_;refine r0 ?_;refine r0 ?_;(repeat apply I6)
    refine S9 4 72 ?_;refine V5 ?_;refine Q0 (OO o0 st.length I.subs (I.subs.length:Int) 0) ((C2 st (bC o0 B0 o1 o2 q2 l2.length v26.2 m1 l2))++[G3 I,O4 0 [],DE I.kind v26.1 st.length gt0 t0.length 0 0,J2 gt0 t0,wZ eB,kG []]) bu ?_;refine Q9 67 fun aR=>?_;refine O8 0 V aR h
     (fun D8 k1 s1=>(OO o0 st.length I.subs (I.subs.length:Int) (k1:Int)))
     (fun D8 k1 s1=>((C2 st (bC o0 B0 o1 o2 q2 l2.length s1.1 m1 l2))++[none,O4 0 [],DE I.kind v26.1 st.length gt0 t0.length D8 s1.2.length,J2 gt0 t0,wZ eB,eC D8 s1.2]))
     (fun G1 t1=>(zY st.length))
     (fun G1 t1=>((C2 st (bC o0 B0 o1 o2 q2 l2.length t1.1 m1 l2))++[none,O4 0 [],DE I.kind v26.1 st.length gt0 t0.length G1 t1.2.length,J2 gt0 t0,none,eC G1 t1.2]))
     bu
     (fun D8 k1 s1 b1 V h U8=>?_) (fun G1 t1 C8 st1 h H=>?_)
    ·unfold Vk at h;refine ct ?_;refine rn ?_;refine dw [1,5] 2 ?_;have⟨v37,Zc,h⟩:=D0 h;refine K0 [o0,o1,o2,(st.length+4)] (fun st2 X=>(p2u n _ _ _ _ _ _ _ Zc st2 o0 o1 o2 (st.length+4) q2 (by simp[V]<;>omega) (T6 X) (T6 X) (T6 X) (T6 X (aN.trans rfl)))) ?_;have⟨lU,xC,h⟩:=E1 h;have fy:=J1 O.cells (gM v37.1) xC;have fy:=fl fy xC;have⟨V,h⟩:=ck V h;try simp only[go_sem,V,fy]
     try refine⟨by first|omega|(simp<;>omega),?_⟩
     refine rn ?_;cases h;exact L6 (D8+1) bu
    ·unfold Vl at h;refine D1 H ?_;refine rr ?_;exact aO (gL I.kind v26.1 t0 t1.2)
   ·refine r0 ?_;refine r0 ?_;(repeat apply I6)
    refine S9 4 72 ?_;refine V5 ?_;refine Q0 [(0,B6 o0),(2,.S8),P3 st.length,U9 st.length,(67,J9 I.subs),(68,T ↑I.subs.length),(69,T 0)] ((C2 st (bC o0 B0 o1 o2 q2 l2.length C7 m1 l2))++[G3 I,O4 0 [],wU I.kind I.name st.length gt0 t0.length 0 0,J2 gt0 t0,kG []]) bu ?_;refine Q9 67 fun hl2=>?_;refine O8 0 V hl2 h
     (fun J3 k2 s2=>[(0,B6 o0),(2,.S8),P3 st.length,U9 st.length,(67,J9 I.subs),(68,T ↑I.subs.length),(69,T ↑k2)])
     (fun J3 k2 s2=>((C2 st (bC o0 B0 o1 o2 q2 l2.length s2.1 m1 l2))++(xq 0 [] I.kind I.name st.length gt0 t0.length J3 s2.2.length t0 s2.2)))
     (fun I3 t2=>(zY st.length))
     (fun I3 t2=>((C2 st (bC o0 B0 o1 o2 q2 l2.length t2.1 m1 l2))++(xq 0 [] I.kind I.name st.length gt0 t0.length I3 t2.2.length t0 t2.2)))
     bu
     (fun J3 k2 s2 b2 V h V3=>?_) (fun I3 t2 C8 st1 h H=>?_)
    ·unfold Vm at h;refine ct ?_;refine rn ?_;refine dw [1,5] 2 ?_;have⟨v51,p2x,h⟩:=D0 h;refine K0 [o0,o1,o2] (fun st2 X=>(ih _ _ _ _ _ _ p2x st2 _ _ _ q2 hnd (T6 X) (T6 X) (T6 X))) ?_;have⟨NM,i0a,h⟩:=E1 h;have fy:=J1 O.cells (gM v51.1) i0a;have fy:=fl fy i0a;have⟨V,h⟩:=ck V h;try simp only[go_sem,V,fy]
     try refine⟨by first|omega|(simp<;>omega),?_⟩
     refine rn ?_;cases h;exact L6 (J3+1) bu
    ·unfold Vn at h;refine D1 H ?_;refine rr ?_;exact aO (gL I.kind I.name t0 t2.2)
theorem p2y:∀n I a2 B0 C7 m1 l2 r (h:CF n I a2 B0 C7 m1 l2=some r),∀st o0 o1 o2 q2 (hnd: [o0,o1,o2].Nodup) (E7:Am.look st o0=some (.arr 0 4 0 (fX B0 o1 o2 q2 l2.length C7))) (L9:Am.look st o1=some (.mps false (L5 aY m1))) (T2:Am.look st o2=some (.arr q2 2 16 (rows C6.cells l2))),U5 33 [B6 o0,K4 I,.str a2] st (fun d st'=>d= .E8 []/\st'=puts st (bC o0 B0 o1 o2 q2 l2.length C7 r l2)):=by
 intro n;induction n with
 |zero=>intro I a2 B0 C7 m1 l2 r h;cases h
 |succ n ih=>
  intro I a2 B0 C7 m1 l2 r h st o0 o1 o2 q2 hnd E7 L9 T2;unfold CF at h;have N9:=E2 E7;have T5:=E2 L9;have V2:=E2 T2;have V:=fa (fa (fa (H7 N9) (H7 T5)) (H7 V2)) (qL hnd);refine fb 34 [] [0,1,2,4,6,7,19,20,21,22] Tryz.func33 fun hsc=>?_;refine ast (C2 st (bC o0 B0 o1 o2 q2 l2.length C7 m1 l2)) ?_;refine rn ?_;have⟨c1,hc1,h⟩:=E1 h;have fy:=(show I4 a2 [T ↑m1.length] (L5 aY m1)=L5 aY c1 from by rw[hc1];exact qG (κ:=J) (E:=aY) a2 (m1.length:Int) m1);refine cG [] 0 ?_;refine Q9 19 fun H6=>?_;refine O8 () V H6 h
   (fun A0 k0 Y=>[(0,B6 o0),(2,.str a2),(19,J9 I.subs),(20,T ↑I.subs.length),(21,T ↑k0)])
   (fun A0 k0 Y=>(C2 st (bC o0 B0 o1 o2 q2 l2.length C7 Y l2)))
   (fun gt0 t0=>[])
   (fun gt0 t0=>(C2 st (bC o0 B0 o1 o2 q2 l2.length C7 t0 l2)))
   vd
   (fun A0 k0 Y b0 V h hx0=>?_) (fun gt0 t0 C8 st1 h H=>?_)
  ·unfold VH at h;refine ct ?_;refine rn ?_;refine dw [6] 0 ?_;have⟨v6,jk,h⟩:=D0 h;refine aL (EV _ _ jk) ?_;have⟨V,h⟩:=ck V h;try simp only[go_sem,V]
   have⟨v8,mV,h⟩:=D0 h;refine K0 [o0,o1,o2] (fun st2 X=>(ih _ _ _ _ _ _ _ mV st2 _ _ _ q2 hnd (T6 X) (T6 X) (T6 X))) ?_;try simp only[go_sem,V]
   try refine⟨by first|omega|(simp<;>omega),?_⟩
   refine rn ?_;cases h;exact L6 () vd
  ·try simp only[go_sem,V]
   unfold VI at h;refine JM H ?_;refine rr ?_;exact vo (.E8 [])
theorem p2z:∀n a0 I B0 G7 G8 C7 G5 G6 G9 r (h:vZ n a0 I B0 G7 G8 C7 G5 G6 G9=some r),∀st o0 o1 (hnd: [o0,o1].Nodup) (E7:Am.look st o0=some (.arr 0 7 0 [[T B0,.str G7,C0 G8,J9 C7,C0 G5,C0 G6,C0 G9]])) (L9:Am.look st o1=some (.arr 0 1 0 [[.fn 115 [] [B6 o0,B6 o1]]])),U5 115 [K4 a0,C0 I,B6 o0,B6 o1] st (fun d st'=>d=(K4 r)/\st'=puts st []):=by
 intro n;induction n with
 |zero=>intro a0 I B0 G7 G8 C7 G5 G6 G9 r h;cases h
 |succ n ih=>
  intro a0 I B0 G7 G8 C7 G5 G6 G9 r h st o0 o1 hnd E7 L9;unfold vZ at h;have N9:=E2 E7;have T5:=E2 L9;have V:=fa (fa (H7 N9) (H7 T5)) (Bl hnd);refine fb 98 [.cell 6 26] [0,1,2,3,4,6,7,9,11,18,19,20,21,24,30,44,57,65,70,71,72,73,74,81,82,83,84] Tryz.func115 fun hsc=>?_;refine ast (rD st o0 B0 G7 G8 C7 G5 G6 G9 o1) ?_;refine r0 ?_;refine r0 ?_;refine r0 ?_;(repeat apply I6)
  refine S9 1 16 ?_;refine V5 ?_;refine Q0 [W7 I,(2,B6 o0),U1 o1,G4 st.length,P3 st.length,U9 st.length,(18,C0 a0.words),(19,T ↑a0.words.length),(20,T 0)] ((rD st o0 B0 G7 G8 C7 G5 G6 G9 o1)++(wX a0 0 [] a0.kind a0.name st.length 0 [])) bu ?_;refine Q9 18 fun H6=>?_;refine O8 0 V H6 h
   (fun A0 k0 Y=>[W7 I,(2,B6 o0),U1 o1,G4 st.length,P3 st.length,U9 st.length,(18,C0 a0.words),(19,T ↑a0.words.length),(20,T ↑k0)])
   (fun A0 k0 Y=>((rD st o0 B0 G7 G8 C7 G5 G6 G9 o1)++(aS a0 0 [] a0.kind a0.name st.length A0 Y.length Y)))
   (fun gt0 t0=>[W7 I,(2,B6 o0),U1 o1,G4 st.length,P3 st.length,U9 st.length])
   (fun gt0 t0=>((rD st o0 B0 G7 G8 C7 G5 G6 G9 o1)++(aS a0 0 [] a0.kind a0.name st.length gt0 t0.length t0)))
   bu
   (fun A0 k0 Y b0 V h hx0=>?_) (fun gt0 t0 C8 st1 h H=>?_)
  ·unfold Uc at h;refine ct ?_;refine cl h (gO _ _) fun v23 h=>?_;refine cd h ?_ ?_<;>intro K h
   ·have⟨V,h⟩:=ck V h;refine r0 ?_;have⟨tL,HV,h⟩:=E1 h;have fy:=J1 B2 (I5 (O1 [63] (get a0.words k0))) HV;have fy:=fl fy HV;have⟨V,h⟩:=ck V h;refine r1 ?_;refine rn ?_;cases h;exact L6 (A0+1) bu
   ·refine cl h (gO _ _) fun v31 h=>?_;refine cd h ?_ ?_<;>intro K h
    ·have⟨V,h⟩:=ck V h;refine r0 ?_;have⟨T8,qg,h⟩:=E1 h;have fy:=J1 B2 (I5 (O1 [46] (get a0.words k0))) qg;have fy:=fl fy qg;have⟨V,h⟩:=ck V h;refine r1 ?_;refine rn ?_;cases h;exact L6 (A0+1) bu
    ·refine r0 ?_;have⟨tM,HW,h⟩:=E1 h;have fy:=J1 B2 (I5 (get a0.words k0)) HW;have fy:=fl fy HW;have⟨V,h⟩:=ck V h;refine r1 ?_;refine rn ?_;cases h;exact L6 (A0+1) bu
  ·unfold Uf at h;refine D1 H ?_;refine cl h (qd _) fun v45 h=>?_;refine rn ?_;refine V4 (wg (vZ n) a0 B0 G7 G8 C7 G5 G6 G9 t0) r (fun(gN:Unit) j1=>[W7 j1.2,U1 o1,G4 st.length,P3 st.length,U9 st.length]) (fun gN j1=>((rD st o0 B0 G7 G8 C7 G5 G6 G9 o1)++(aS a0 0 [] a0.kind j1.1 st.length gt0 t0.length t0))) (fun gN j1 C8 st1 h H=>?_) (fun cA=>?_)
   ·unfold wg at h;refine D1 H ?_;(repeat apply I6)
    refine Q0 [W7 j1.2,U1 o1,G4 st.length,P3 st.length,U9 st.length] ((rD st o0 B0 G7 G8 C7 G5 G6 G9 o1)++[G3 a0,O4 0 [],some (.arr 0 4 0 [[T a0.kind,.str j1.1,C0 t0,.A9]])]) bu ?_;refine r0 ?_;(repeat apply I6)
    refine S9 4 72 ?_;refine V5 ?_;refine Q0 [W7 j1.2,U1 o1,P3 st.length,U9 st.length,(81,J9 a0.subs),(82,T ↑a0.subs.length),(83,T 0)] ((rD st o0 B0 G7 G8 C7 G5 G6 G9 o1)++[G3 a0,O4 0 [],DI a0.kind j1.1 t0 st.length 0 0,kG []]) bu ?_;refine Q9 81 fun hl2=>?_;refine O8 0 V hl2 h
     (fun J3 k2 s2=>[W7 j1.2,U1 o1,P3 st.length,U9 st.length,(81,J9 a0.subs),(82,T ↑a0.subs.length),(83,T ↑k2)])
     (fun J3 k2 s2=>((rD st o0 B0 G7 G8 C7 G5 G6 G9 o1)++[none,O4 0 [],DI a0.kind j1.1 t0 st.length J3 s2.length,eC J3 s2]))
     (fun I3 t2=>(zY st.length))
     (fun I3 t2=>((rD st o0 B0 G7 G8 C7 G5 G6 G9 o1)++[none,O4 0 [],DI a0.kind j1.1 t0 st.length I3 t2.length,eC I3 t2]))
     bu
     (fun J3 k2 s2 b2 V h V3=>?_) (fun I3 t2 C8 st1 h H=>?_)
    ·unfold Ud at h;refine ct ?_;refine rn ?_;refine dw [1,5] 2 ?_;have⟨YC,p2A,h⟩:=D0 h;refine K0 [o0,o1] (fun st2 X=>(ih _ _ _ _ _ _ _ _ _ _ p2A st2 _ _ hnd (T6 X) (T6 X))) ?_;have⟨tN,HX,h⟩:=E1 h;have fy:=J1 O.cells (gM YC) HX;have fy:=fl fy HX;have⟨V,h⟩:=ck V h;try simp only[go_sem,V,fy]
     try refine⟨by first|omega|(simp<;>omega),?_⟩
     refine rn ?_;cases h;exact L6 (J3+1) bu
    ·unfold Ue at h;refine D1 H ?_;refine rr ?_;exact sw (gL a0.kind j1.1 t0 t2)
   ·refine cd h ?_ ?_<;>intro K h
    ·(repeat apply I6)
     refine S9 1 16 ?_;refine V5 ?_;refine Q0 [W7 I,(2,B6 o0),U1 o1,G4 st.length,P3 st.length,U9 st.length,(44,.bool v45)] ((rD st o0 B0 G7 G8 C7 G5 G6 G9 o1)++[G3 a0,O4 0 [],some (.arr 0 4 0 [[T a0.kind,.str a0.name,W9 st.length gt0 t0.length,.A9]]),J2 gt0 t0,kI []]) bu ?_;refine B ?_;refine dw [1,3] 2 ?_;have⟨v46,p2B,h⟩:=D0 h;refine K0 [(st.length+4)] (fun st2 X=>(HJ _ _ _ p2B st2 (st.length+4) 0 B5 (T6 X (aN.trans rfl)))) ?_;have⟨wQ,HY,h⟩:=E1 h;have fy:=J1 B2 (I5 a0.name) HY;have fy:=fl fy HY;have⟨V,h⟩:=ck V h;try simp only[go_sem,V,fy]
     try refine⟨by first|omega|(simp<;>omega),?_⟩
     have⟨V,h⟩:=ck V h;refine r0 ?_;refine cA () _ _ _ h ?_;exact(bu (hf:=⟨.ref _ _ _ _ _ _ _ _ _ (lq.trans rfl) (qK (by first|decide|simp)) D5 (br _) (by simp only[go_sem]),.s,.s,.s,.s,trivial⟩))
    ·refine cl h (Aa _ _) fun v54 h=>?_;refine cd h ?_ ?_<;>intro K h
     ·have⟨V,h⟩:=ck V h;refine r0 ?_;exact cA () _ _ _ h bu
     ·refine rn ?_;have⟨Hr,Zd,h⟩:=D0 h;refine gi (fun hG=>(gO _ _ _ (cg Zd (by simpa using hG)))) ?_;refine cd h ?_ ?_<;>intro K h
      ·have⟨V,h⟩:=ck V h;refine r0 ?_;exact cA () _ _ _ h bu
      ·refine r0 ?_;exact cA () _ _ _ h bu
theorem Ze a0 I r(h:yX a0 I=some r):L8 114 [.str a0,C0 I] (C0 r):=by
 intro st;unfold yX at h;have V:=trivial;refine fb 22 [.tmp 4] [0,1,4,5,7,8,9,10,11] Tryz.func114 fun hsc=>?_;refine r0 ?_;refine r0 ?_;refine r0 ?_;(repeat apply I6)
 refine S9 1 16 ?_;refine V5 ?_;refine Q0 [(0,.str a0),(5,I0 st.length 0 0),(8,C0 I),(9,T ↑I.length),(10,T 0)] (st++[kI []]) bm ?_;refine Q9 8 fun H6=>?_;refine O8 0 V H6 h
  (fun A0 k0 Y=>[(0,.str a0),(5,I0 st.length A0 Y.length),(8,C0 I),(9,T ↑I.length),(10,T ↑k0)])
  (fun A0 k0 Y=>(st++[J2 A0 Y]))
  (fun gt0 t0=>[(5,I0 st.length gt0 t0.length)])
  (fun gt0 t0=>(st++[J2 gt0 t0]))
  bm
  (fun A0 k0 Y b0 V h hx0=>?_) (fun gt0 t0 C8 st1 h H=>?_)
 ·unfold Uh at h;refine ct ?_;refine r0 ?_;refine r0 ?_;refine r0 ?_;have⟨V,h⟩:=ck V h;have⟨eA,nC,h⟩:=E1 h;have fy:=J1 B2 (I5 (O1 a0 (get I k0))) nC;have fy:=fl fy nC;have⟨V,h⟩:=ck V h;refine r1 ?_;refine rn ?_;cases h;exact L6 (A0+1) bm
 ·unfold d8L at h;refine D1 H ?_;refine rr ?_;exact fp (C0 t0)
theorem p2C n a0 r(h:FQ n a0=some r):L8 86 [.agg (bM a0)] (.agg (bM r)):=by
 intro st;unfold FQ at h;have V:=trivial;refine fb 23 [.cell 2 46] [0,1,2,3,4] Tryz.func86 fun hsc=>?_;refine rn ?_;refine dw [3,6,10,14] 0 ?_;have⟨v1,hv1,h⟩:=D0 h;refine K0 [st.length,(st.length+2)] (fun st2 X=>((p2z n _ _ _ _ _ _ _ _ _ _ hv1 st2 _ _ B5 ((X _ B5).trans (uN.trans rfl)) (T6 X (P5.trans rfl))).up (.cons _ _ _ _ .s (.cons _ _ _ _ (.A9 _ _ _ D5) (.cons _ _ _ _ .s (.cons _ _ _ _ .s .nil)))) (by have q0:=E2 ((X st.length B5).trans (uN.trans rfl));have q1:=E2 ((X (st.length+2) B5).trans (P5.trans rfl));simp<;>omega))) ?_;try simp only[go_sem,V]
 have⟨v2,hv2,h⟩:=D0 h;refine aL (Ze _ _ _ hv2) ?_;try simp only[go_sem,V]
 have⟨v3,W4,h⟩:=D0 h;refine aL (Ze _ _ _ W4) ?_;try simp only[go_sem,V]
 have⟨v4,fF,h⟩:=D0 h;refine aL (Ze _ _ _ fF) ?_;try simp only[go_sem,V]
 try refine⟨by first|omega|(simp<;>omega),?_⟩
 exact rt
theorem p2D a0 I r(h:Cl a0 I=some r):L8 132 [C0 a0,C0 I] (.bool r):=by
 intro st;unfold Cl at h;have V:=trivial;refine fb 26 [.tmp 4] [0,1,4,5,10,12,13,14,24] Tryz.func132 fun hsc=>?_;refine cd h ?_ ?_<;>intro K h
 ·exact rt
 ·refine Q9 0 fun H6=>?_;refine O8 () V H6 h
   (fun A0 k0 Y=>[(0,C0 a0),W7 I,(12,T ↑a0.length),(13,T ↑k0)])
   (fun A0 k0 Y=>st)
   (fun gt0 t0=>[])
   (fun gt0 t0=>st)
   O7
   (fun A0 k0 Y b0 V h hx0=>?_) (fun gt0 t0 C8 st1 h H=>?_)
  ·unfold Um at h;refine ct ?_;refine rn ?_;have⟨V,h⟩:=ck V h;refine dw [] 0 ?_;refine cd h ?_ ?_<;>intro K h
   ·refine ra ?_;cases h;refine aM ?_;have h:=congrArg some (hx0 _ rfl);exact rt
   ·refine rn ?_;cases h;exact L6 () O7
  ·unfold Un at h;refine D1 H ?_;exact rt
theorem p2E:∀n a0 I r (h:Cm n a0 I=some r),L8 116 [K4 a0,K4 I] (.bool r):=by
 intro n;induction n with
 |zero=>intro a0 I r h;cases h
 |succ n ih=>
  intro a0 I r h st;unfold Cm at h;have V:=trivial;refine fb 54 [.tmp 4] [0,1,2,3,4,5,12,13,14,15,16,19,20,21,22,23,24,27,28,29,30,31,32,33,34,37,38,39,52] Tryz.func116 fun hsc=>?_;refine rn ?_;have⟨v1,hv1,h⟩:=D0 h;refine gi (fun hG=>(p2D _ _ _ (cg hv1 (by simpa using hG)))) ?_;refine cd h ?_ ?_<;>intro K h
  ·exact rt
  ·have⟨V,h⟩:=ck V h;refine rn ?_;refine O8 () V V.2 h
    (fun A0 k0 Y=>[(2,B6 st.length),(3,Z2 st.length),(37,T ↑a0.subs.length),(38,T ↑k0)])
    (fun A0 k0 Y=>(st++[G3 a0,G3 I]))
    (fun gt0 t0=>[])
    (fun gt0 t0=>st)
    bm
    (fun A0 k0 Y b0 V h hx0=>?_) (fun gt0 t0 C8 st1 h H=>?_)
   ·unfold Uo at h;refine ct ?_;refine rn ?_;have⟨V,h⟩:=ck V h;refine dw [] 0 ?_;have⟨v4,fF,h⟩:=D0 h;refine aL (ih _ _ _ fF) ?_;try simp only[go_sem,V]
    refine cd h ?_ ?_<;>intro K h
    ·refine ra ?_;cases h;refine aM ?_;have h:=congrArg some (hx0 _ rfl);exact rt
    ·refine rn ?_;cases h;exact L6 () bm
   ·unfold Uq at h;refine D1 H ?_;exact rt
theorem i0b I a2 m0 r(h:yZ I a2 m0=some r):∀st o0 (hnd: [o0].Nodup) (E7:Am.look st o0=some (.mps true (L5 C4.cells m0))),U5 117 [.mp o0,.str I,.str a2] st (fun d st'=>d= .bool r.1/\st'=puts st [(o0,.mps true (L5 C4.cells r.2))]):=by
 intro st o0 hnd E7;unfold yZ at h;have N9:=E2 E7;have V:=H7 N9;refine fb 25 [.tmp 6] [0,1,2,6,7,8,15] Tryz.func117 fun hsc=>?_;refine ast (C2 st [(o0,nB m0)]) ?_;refine cd h ?_ ?_<;>intro K h
 ·refine rr ?_;exact aO (.bool (decide ((((assoc I m0).getD default).text)=a2)))
 ·refine r0 ?_;have⟨c1,hc1,h⟩:=E1 h;have fy:=(show I4 I [.str I,.str a2,T 0,.str [],.sl false 1 16 [],.sl false 4 72 []] (L5 C4.cells m0)=L5 C4.cells c1 from by rw[hc1];exact qG (κ:=J) (E:=C4.cells) I (C4.mk I a2 (O.mk 0 [] [] [])) m0);refine r1 ?_;refine rr ?_;exact aO (.bool true)
theorem p2F:∀n a0 I a2 m0 r (h:pK n a0 I a2 m0=some r),∀st o0 (hnd: [o0].Nodup) (E7:Am.look st o0=some (.mps true (L5 C4.cells m0))),U5 87 [.agg (bM a0),K4 I,K4 a2,.mp o0] st (fun d st'=>d= .bool r.1/\st'=puts st [(o0,.mps true (L5 C4.cells r.2))]):=by
 intro n;induction n with
 |zero=>intro a0 I a2 m0 r h;cases h
 |succ n ih=>
  intro a0 I a2 m0 r h st o0 hnd E7;unfold pK at h;have N9:=E2 E7;have V:=H7 N9;refine fb 138 [.tmp 8] [0,1,2,3,4,5,6,8,9,10,11,12,14,15,16,19,27,45,46,47,48,49,50,51,52,53,60,61,62,63,64,72,73,80,81,82,83,93,96,97,98,99,109,110,120,121,122,123,136] Tryz.func87 fun hsc=>?_;refine ast (C2 st [(o0,nB m0)]) ?_;refine cl h (Aa _ _) fun v1 h=>?_;refine cd h ?_ ?_<;>intro K h
  ·refine cd h ?_ ?_<;>intro K h
   ·refine cl h (p2E n _ _) fun v2 h=>?_;refine rr ?_;exact aO (.bool v2)
   ·refine r0 ?_;have⟨c3,mT,h⟩:=E1 h;have fy:=(show I4 I.name [.str I.name,.str [],T a2.kind,.str a2.name,C0 a2.words,J9 a2.subs] (L5 C4.cells m0)=L5 C4.cells c3 from by rw[mT];exact qG (κ:=J) (E:=C4.cells) I.name (C4.mk I.name [] a2) m0);refine r1 ?_;refine rr ?_;exact aO (.bool true)
  ·refine cd h ?_ ?_<;>intro K h
   ·refine rr ?_;exact aO (.bool false)
   ·refine cl h (qd _) fun v5 h=>?_;refine rn ?_;refine V4 (ze (pK n) I a2 m0 a0) r (fun(bN:Unit) j0=>[(3,.mp o0),G4 st.length,iw st.length,(6,M5 st.length),(53,.bool j0)]) (fun bN j0=>((C2 st [(o0,nB m0)])++[iu a0,G3 I,G3 a2])) (fun bN j0 C8 st1 h H=>?_) (fun hj0=>?_)
    ·unfold ze at h;refine D1 H ?_;(repeat apply I6)
     refine V4 (CA (pK n) I a0 a2) r (fun(gN:Unit) j1=>[(3,.mp o0),G4 st.length,iw st.length,(6,M5 st.length)]) (fun gN j1=>((C2 st [(o0,nB j1)])++[iu a0,G3 I,G3 a2])) (fun gN j1 C8 st1 h H=>?_) (fun cA=>?_)
     ·unfold CA at h;refine D1 H ?_;refine Q9 80 fun hl2=>?_;refine O8 () V hl2 h
       (fun J3 k2 s2=>[(3,.mp o0),G4 st.length,iw st.length,(6,M5 st.length),(80,C0 I.words),(81,T ↑I.words.length),(82,T ↑k2)])
       (fun J3 k2 s2=>((C2 st [(o0,nB s2)])++[iu a0,G3 I,G3 a2]))
       (fun I3 t2=>[(3,.mp o0),G4 st.length,iw st.length,(6,M5 st.length)])
       (fun I3 t2=>((C2 st [(o0,nB t2)])++[iu a0,G3 I,G3 a2]))
       bu
       (fun J3 k2 s2 b2 V h V3=>?_) (fun I3 t2 C8 st1 h H=>?_)
      ·unfold Ll at h;refine ct ?_;refine rn ?_;have⟨v12,YQ,h⟩:=D0 h;refine gi (fun hG=>(gO _ _ _ (cg YQ (by simpa using hG)))) ?_;refine cd h ?_ ?_<;>intro K h
       ·have⟨V,h⟩:=ck V h;refine rn ?_;have⟨bf,Hj,h⟩:=D0 h;refine(i0b _ _ _ _ Hj _ _ hnd sg).mono ?_;rintro d1 st1 ⟨rfl,rfl⟩;refine cd h ?_ ?_<;>intro K h
        ·refine ra ?_;cases h;refine aM ?_;have h:=congrArg some (V3 _ rfl);refine rr ?_;exact aO (.bool false)
        ·refine rn ?_;cases h;exact L6 () bu
       ·have⟨V,h⟩:=ck V h;refine cd h ?_ ?_<;>intro K h
        ·refine ra ?_;cases h;refine aM ?_;have h:=congrArg some (V3 _ rfl);refine rr ?_;exact aO (.bool false)
        ·refine rn ?_;cases h;exact L6 () bu
      ·unfold Vr at h;refine D1 H ?_;refine Q9 120 fun iI=>?_;refine O8 () V iI h
        (fun P4 k3 s3=>[(3,.mp o0),G4 st.length,(6,M5 st.length),(120,J9 I.subs),(121,T ↑I.subs.length),(122,T ↑k3)])
        (fun P4 k3 s3=>((C2 st [(o0,nB s3)])++[iu a0,none,G3 a2]))
        (fun T3 t3=>[])
        (fun T3 t3=>(C2 st [(o0,nB t3)]))
        bu
        (fun P4 k3 s3 b3 V h lW=>?_) (fun T3 t3 C8 st1 h H=>?_)
       ·unfold Vs at h;refine ct ?_;refine rn ?_;have⟨V,h⟩:=ck V h;refine dw [8] 0 ?_;have⟨S0,Ae,h⟩:=D0 h;refine K0 [o0] (fun st2 X=>(ih _ _ _ _ _ Ae st2 _ hnd (T6 X))) ?_;try simp only[go_sem,V]
        try refine⟨by first|omega|(simp<;>omega),?_⟩
        refine cd h ?_ ?_<;>intro K h
        ·refine ra ?_;cases h;refine aM ?_;have h:=congrArg some (lW _ rfl);refine rr ?_;exact aO (.bool false)
        ·refine rn ?_;cases h;exact L6 () bu
       ·unfold Vt at h;refine D1 H ?_;refine rr ?_;exact vo (.bool true)
     ·refine cd h ?_ ?_<;>intro K h
      ·refine rn ?_;have⟨v7,zZ,h⟩:=D0 h;refine(i0b _ _ _ _ zZ _ _ hnd sg).mono ?_;rintro d1 st1 ⟨rfl,rfl⟩;refine cd h ?_ ?_<;>intro K h
       ·refine rr ?_;exact aO (.bool false)
       ·refine r0 ?_;exact cA () _ _ _ h bu
      ·refine cd h ?_ ?_<;>intro K h
       ·refine rr ?_;exact aO (.bool false)
       ·refine r0 ?_;exact cA () _ _ _ h bu
    ·refine cd h ?_ ?_<;>intro K h
     ·refine r0 ?_;exact hj0 () _ _ _ h bu
     ·refine rn ?_;have⟨v6,jk,h⟩:=D0 h;refine gi (fun hG=>(gO _ _ _ (cg jk (by simpa using hG)))) ?_;try simp only[go_sem,V]
      exact hj0 () _ _ _ h bu
theorem p2G I l0 r(h:Lo I l0=some r):∀st o0 q0 (hnd: [o0].Nodup) (E7:Am.look st o0=some (.arr q0 1 16 (rows B2 l0))),U5 76 [I0 o0 q0 l0.length,.str I] st (fun d st'=>d=(T r)/\st'=puts st []):=by
 intro st o0 q0 hnd E7;unfold Lo at h;have N9:=E2 E7;have V:=H7 N9;refine fb 19 [.tmp 4] [0,1,4,5,7,8,9,16] Tryz.func76 fun hsc=>?_;refine ast (C2 st [(o0,ot q0 l0)]) ?_;have⟨V,h⟩:=ck V h;refine rn ?_;refine O8 () V V.2 h
  (fun A0 k0 Y=>[(0,I0 o0 q0 l0.length),(1,.str I),ah (l0.length:Int),(8,T ↑k0)])
  (fun A0 k0 Y=>(C2 st [(o0,ot q0 l0)]))
  (fun gt0 t0=>[])
  (fun gt0 t0=>(C2 st [(o0,ot q0 l0)]))
  jE
  (fun A0 k0 Y b0 V h hx0=>?_) (fun gt0 t0 C8 st1 h H=>?_)
 ·unfold Uu at h;refine ct ?_;refine r0 ?_;refine r0 ?_;refine r0 ?_;have fy:=S2 B2 l0 k0;have fy:=fm fy (k0<l0.length);refine r1 ?_;refine cd h ?_ ?_<;>intro K h
  ·refine ra ?_;cases h;refine aM ?_;have h:=congrArg some (hx0 _ rfl);refine rr ?_;exact vp (T ↑k0)
  ·refine rn ?_;cases h;exact L6 () jE
 ·unfold Uv at h;refine D1 H ?_;refine rr ?_;exact vp (T (-1))
theorem p2H I l0 r(h:za I l0=some r):∀st o0 q0 (hnd: [o0].Nodup) (E7:Am.look st o0=some (.arr q0 1 16 (rows B2 l0))),U5 50 [I0 o0 q0 l0.length,.str I] st (fun d st'=>d= .bool r/\st'=puts st []):=by intro st o0 q0 hnd E7;unfold za at h;have N9:=E2 E7;have V:=H7 N9;refine fb 9 [.tmp 4] [0,1,4] Tryz.func50 fun hsc=>?_;refine ast (C2 st [(o0,ot q0 l0)]) ?_;refine rn ?_;have⟨v1,hv1,h⟩:=D0 h;refine(p2G _ _ _ hv1 _ _ q0 hnd sg).mono ?_;rintro d1 st1 ⟨rfl,rfl⟩;refine rr ?_;exact vp (.bool (decide (0<=v1)))
theorem p2I:∀n a0 r (h:Co n a0=some r),L8 89 [K4 a0] (K4 r):=by
 intro n;induction n with
 |zero=>intro a0 r h;cases h
 |succ n ih=>
  intro a0 r h st;unfold Co at h;have V:=trivial;refine fb 30 [.cell 2 26] [0,1,2,3,5,15,16,17,18] Tryz.func89 fun hsc=>?_;refine rn ?_;refine dw [] 1 ?_;have⟨v1,hv1,h⟩:=D0 h;refine aL (p1Z _ _ hv1) ?_;try simp only[go_sem,V]
  refine r0 ?_;(repeat apply I6)
  refine S9 4 72 ?_;refine V5 ?_;refine Q0 [eD st.length,(3,M5 st.length),(15,J9 a0.subs),(16,T ↑a0.subs.length),(17,T 0)] (st++[G3 a0,O4 0 [],DI a0.kind a0.name v1 st.length 0 0,kG []]) bm ?_;refine Q9 15 fun H6=>?_;refine O8 0 V H6 h
   (fun A0 k0 Y=>[eD st.length,(3,M5 st.length),(15,J9 a0.subs),(16,T ↑a0.subs.length),(17,T ↑k0)])
   (fun A0 k0 Y=>((st++[none,O4 0 [],DI a0.kind a0.name v1 st.length A0 Y.length,eC A0 Y])))
   (fun gt0 t0=>[eD st.length,(3,M5 st.length)])
   (fun gt0 t0=>((st++[none,O4 0 [],DI a0.kind a0.name v1 st.length gt0 t0.length,eC gt0 t0])))
   bm
   (fun A0 k0 Y b0 V h hx0=>?_) (fun gt0 t0 C8 st1 h H=>?_)
  ·unfold Us at h;refine ct ?_;refine rn ?_;refine dw [] 2 ?_;have⟨v9,qh,h⟩:=D0 h;refine aL (ih _ _ qh) ?_;have⟨lV,xD,h⟩:=E1 h;have fy:=J1 O.cells (gM v9) xD;have fy:=fl fy xD;have⟨V,h⟩:=ck V h;try simp only[go_sem,V,fy]
   refine rn ?_;cases h;exact L6 (A0+1) bm
  ·unfold Ut at h;refine D1 H ?_;refine rr ?_;exact fp (gL a0.kind a0.name v1 t0)
