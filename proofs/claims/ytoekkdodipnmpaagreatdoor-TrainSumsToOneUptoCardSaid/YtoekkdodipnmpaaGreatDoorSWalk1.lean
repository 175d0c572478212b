import Derived.Test.YtoekkdodipnmpaaGreatDoorSWalk0
set_option linter.unusedVariables false
set_option linter.unusedSimpArgs false
set_option maxHeartbeats 2000000
set_option maxRecDepth 100000
namespace Go.Proofs.YtoekkdodipnmpaaGreatDoor
open Go Go.Am
theorem B9(a0:Bs)(a1:u0)(r:w6)(h:C1 a0 a1=some r):Pure Tryz.prog gl 25 [.str a0,.agg [.str a1.base,.sl false 2 40 (rows u0.cells a1.args)]] (.agg [.int .i64 r.kind,.str r.name,.int .i64 r.index,.str r.type.base,.sl false 2 40 (rows u0.cells r.type.args),.sl false 6 96 (rows w6.cells r.args)]):=by
 intro st
 unfold C1 at h
 have fx:=trivial
 refine fb 8 [.cell 4 67] [0,1,3,4] Tryz.func25 fun hsc=>?_
 refine rr ?_
 exact fo (.agg [.int .i64 1,.str a0,.int .i64 0,.str a1.base,.sl false 2 40 (rows u0.cells a1.args),.sl false 6 96 (rows w6.cells [])]) (.agg _ _ (.cons _ _ _ _ .s (.cons _ _ _ _ .s (.cons _ _ _ _ .s (.cons _ _ _ _ .s (.cons _ _ _ _ .s (.cons _ _ _ _ (.D3 _ _ _ (by decide)) .nil))))))) h hsc
theorem U3(a0:Bs)(a1:Bs)(a2:Bool)(r:w6)(h:L3 a0 a1 a2=some r):Pure Tryz.prog gl 24 [.str a0,.str a1,.bool a2] (.agg [.int .i64 r.kind,.str r.name,.int .i64 r.index,.str r.type.base,.sl false 2 40 (rows u0.cells r.type.args),.sl false 6 96 (rows w6.cells r.args)]):=by
 intro st
 unfold L3 at h
 have fx:=trivial
 refine fb 51 [.cell 6 67] [0,1,2,6,7,8,9,10,39] Tryz.func24 fun hsc=>?_
 refine cl h (L0 _) fun v1 h=>?_
 refine cl h (L0 _) fun v2 h=>?_
 refine cl h (C7 _ _) fun v3 h=>?_
 refine rn ?_
 refine dw [] 1 ?_
 obtain⟨v4,hv4,h⟩:=E7 h
 refine y9 (C7 _ _ _ hv4) ?_
 try simp only[go_sem,fx]
 obtain⟨v5,hv5,h⟩:=E7 h
 refine y9 (B9 _ _ _ hv5) ?_
 try simp only[go_sem,fx]
 obtain⟨v6,hv6,h⟩:=E7 h
 refine y9 (C7 _ _ _ hv6) ?_
 try simp only[go_sem,fx]
 obtain⟨v7,hv7,h⟩:=E7 h
 refine y9 (C7 _ _ _ hv7) ?_
 try simp only[go_sem,fx]
 obtain⟨v8,hv8,h⟩:=E7 h
 refine y9 (B9 _ _ _ hv8) ?_
 try simp only[go_sem,fx]
 obtain⟨v9,hv9,h⟩:=E7 h
 refine y9 (y3 _ _ hv9) ?_
 try simp only[go_sem,fx]
 obtain⟨v10,hv10,h⟩:=E7 h
 refine y9 (y3 _ _ hv10) ?_
 try simp only[go_sem,fx]
 obtain⟨v11,hv11,h⟩:=E7 h
 refine y9 (B2 _ _ _ hv11) ?_
 try simp only[go_sem,fx]
 obtain⟨v12,hv12,h⟩:=E7 h
 refine y9 (B2 _ _ _ hv12) ?_
 try simp only[go_sem,fx]
 obtain⟨v13,hv13,h⟩:=E7 h
 refine y9 (y3 _ _ hv13) ?_
 try simp only[go_sem,fx]
 obtain⟨v14,hv14,h⟩:=E7 h
 refine y9 (y3 _ _ hv14) ?_
 try simp only[go_sem,fx]
 obtain⟨v15,hv15,h⟩:=E7 h
 refine y9 (B2 _ _ _ hv15) ?_
 try simp only[go_sem,fx]
 obtain⟨v16,hv16,h⟩:=E7 h
 refine y9 (B2 _ _ _ hv16) ?_
 try simp only[go_sem,fx]
 obtain⟨v17,hv17,h⟩:=E7 h
 refine y9 (y6 _ _ _ hv17) ?_
 try simp only[go_sem,fx]
 obtain⟨v18,hv18,h⟩:=E7 h
 refine y9 (B2 _ _ _ hv18) ?_
 try simp only[go_sem,fx]
 refine rn ?_
 refine eP (N7 v3) r (fun(gj0:Unit) (j0:Int×Bs×Int×Bs×(List u0)×(List w6))=>[(6,.ptr st.length 0 0 0),(9,.ptr (st.length+3) 0 0 0),(10,.ptr (st.length+4) 0 0 0)]) (fun(gj0:Unit) (j0:Int×Bs×Int×Bs×(List u0)×(List w6))=>st++[some (.arr 0 6 0 [[.int .i64 0,.str [],.int .i64 0,.str [],.D3,.D3]]),none,none,some (.arr 0 2 0 [[.str v3.base,.sl false 2 40 (rows u0.cells v3.args)]]),some (.arr 0 6 0 [[.int .i64 j0.1,.str j0.2.1,.int .i64 j0.2.2.1,.str j0.2.2.2.1,.sl false 2 40 (rows u0.cells j0.2.2.2.2.1),.sl false 6 96 (rows w6.cells j0.2.2.2.2.2)]])]) (fun gj0 j0 fr1 st1 h hb=>?_) (fun hj0=>?_)
 ·try simp only[go_sem,fx]
  unfold N7 at h
  refine R8 hb ?_
  refine rs ?_
  refine dw [] 0 ?_
  obtain⟨v22,hv22,h⟩:=E7 h
  refine y9 (y6 _ _ _ hv22) ?_
  try simp only[go_sem,fx]
  obtain⟨v23,hv23,h⟩:=E7 h
  refine y9 (y6 _ _ _ hv23) ?_
  try simp only[go_sem,fx]
  exact rt
 ·refine cd h (fun hc h=>?_) fun hc h=>?_
  ·refine rs ?_
   refine dw [] 0 ?_
   obtain⟨v19,hv19,h⟩:=E7 h
   refine y9 (C7 _ _ _ hv19) ?_
   try simp only[go_sem,fx]
   obtain⟨v20,hv20,h⟩:=E7 h
   refine y9 (B9 _ _ _ hv20) ?_
   try simp only[go_sem,fx]
   obtain⟨v21,hv21,h⟩:=E7 h
   refine y9 (B2 _ _ _ hv21) ?_
   try simp only[go_sem,fx]
   refine hj0 () _ _ _ h ?_;exact(bm hsc)
  ·refine r0 ?_
   refine hj0 () _ _ _ h ?_;exact(bm hsc)
theorem B1(n:Nat)(a0:Bs)(a1:Int)(a2:w6)(a3:(List (List Int)))(S5:(List x5))(Kc:(List A0))(Kd:(List w8))(l1:(List D0))(l2:(List y4))(r:(List D0))(h:B4 n a0 a1 a2 a3 S5 Kc Kd l1 l2=some r):∀(st:St) (o0 o1 o2 q1 q2:Nat) (hnd: [o0,o1,o2].Nodup) (fY:Am.look st o0=some (.arr 0 5 0 [[.sl false 2 40 (rows x5.cells S5),.sl false 3 32 (rows A0.cells Kc),.sl false 10 152 (rows w8.cells Kd),.ref false o1 q1 0 l1.length,.ref false o2 q2 0 l2.length]])) (ot:Am.look st o1=some (.arr q1 9 144 (rows D0.cells l1))) (tX:Am.look st o2=some (.arr q2 2 32 (rows y4.cells l2))),Am.Spec Tryz.prog gl 23 [.str a0,.int .i64 a1,.agg [.int .i64 a2.kind,.str a2.name,.int .i64 a2.index,.str a2.type.base,.sl false 2 40 (rows u0.cells a2.type.args),.sl false 6 96 (rows w6.cells a2.args)],.sl false 1 24 (rows (slc 1 8 E1) a3),.ptr o0 0 0 0] st (fun d st'=>d= .tup []∧st'=puts st [(o0,(.arr 0 5 0 [[.sl false 2 40 (rows x5.cells S5),.sl false 3 32 (rows A0.cells Kc),.sl false 10 152 (rows w8.cells Kd),.ref false o1 (q1+1) 0 r.length,.ref false o2 q2 0 l2.length]])),(o1,(.arr (q1+1) 9 144 (rows D0.cells r))),(o2,(.arr q2 2 32 (rows y4.cells l2)))]):=by
 intro st o0 o1 o2 q1 q2 hnd fY ot tX
 unfold B4 at h
 have ho0:=S9 fY
 have ho1:=S9 ot
 have ho2:=S9 tX
 have fx:=fa (fa (fa (idf ho0) (idf ho1)) (idf ho2)) (nd3 hnd)
 refine fb 20 [] [0,1,2,3,4,7] Tryz.func23 fun hsc=>?_
 refine kS (s':=(U1 st [(o0,(.arr 0 5 0 [[.sl false 2 40 (rows x5.cells S5),.sl false 3 32 (rows A0.cells Kc),.sl false 10 152 (rows w8.cells Kd),.ref false o1 q1 0 l1.length,.ref false o2 q2 0 l2.length]])),(o1,(.arr q1 9 144 (rows D0.cells l1))),(o2,(.arr q2 2 32 (rows y4.cells l2)))])) (K5 (by simp[fY,ot,tX])) ?_
 refine rn ?_
 refine dw [] 2 ?_
 obtain⟨v1,hv1,h⟩:=E7 h
 refine y9 (E8 n _ _ hv1) ?_
 obtain⟨c3,hc3,h⟩:=lK h
 have fy:=(show rows D0.cells l1++[[.str a0,.sl false 2 32 (rows y4.cells v1.nodes),.int .i64 a1,.int .i64 a2.kind,.str a2.name,.int .i64 a2.index,.str a2.type.base,.sl false 2 40 (rows u0.cells a2.type.args),.sl false 6 96 (rows w6.cells a2.args)]]=rows D0.cells c3 from by rw[hc3];first|exact bA (E:=D0.cells) l1 [(D0.mk a0 v1 a1 a2)]|simp only[go_sem,rows,List.map_append,List.map_cons,List.map_nil])
 have fy:=fa fy (show l1.length+1=c3.length from by rw[hc3];simp)
 obtain⟨fx,h⟩:=ck fx h
 try simp only[go_sem,fx,fy]
 refine rr ?_
 exact fuo (.tup []) (.same _) h hsc
theorem jG(n:Nat)(r:y7)(h:bT n=some r):Pure Tryz.prog gl 9 [] (.agg [.sl false 2 40 (rows x5.cells r.hierarchy.types),.sl false 3 32 (rows A0.cells r.hierarchy.C2),.sl false 10 152 (rows w8.cells r.rules),.sl false 9 144 (rows D0.cells r.B3),.sl false 2 32 (rows y4.cells r.start.nodes)]):=by
 intro st
 unfold bT at h
 have fx:=trivial
 refine fb 256 [.cell 0 32] [0,1,2,3,4,5,6,7] Tryz.func9 fun hsc=>?_
 refine cl h (L0 _) fun v1 h=>?_
 refine cl h (L0 _) fun v2 h=>?_
 refine cl h (C7 _ _) fun v3 h=>?_
 refine cl h (C7 _ _) fun v4 h=>?_
 refine cl h (fJ _ _ _) fun v8 h=>?_
 refine cl h (ig _) fun v9 h=>?_
 refine rn ?_
 obtain⟨fx,h⟩:=ck fx h
 refine dw [] 37 ?_
 obtain⟨v17,hv17,h⟩:=E7 h
 refine y9 (E8 n _ _ hv17) ?_
 obtain⟨fx,h⟩:=ck fx h
 try simp only[go_sem,fx]
 obtain⟨v25,hv25,h⟩:=E7 h
 refine y9 (E8 n _ _ hv25) ?_
 obtain⟨fx,h⟩:=ck fx h
 try simp only[go_sem,fx]
 obtain⟨v32,hv32,h⟩:=E7 h
 refine y9 (E8 n _ _ hv32) ?_
 obtain⟨fx,h⟩:=ck fx h
 try simp only[go_sem,fx]
 obtain⟨v40,hv40,h⟩:=E7 h
 refine y9 (E8 n _ _ hv40) ?_
 obtain⟨fx,h⟩:=ck fx h
 try simp only[go_sem,fx]
 obtain⟨v48,hv48,h⟩:=E7 h
 refine y9 (E8 n _ _ hv48) ?_
 obtain⟨fx,h⟩:=ck fx h
 try simp only[go_sem,fx]
 obtain⟨v57,hv57,h⟩:=E7 h
 refine y9 (E8 n _ _ hv57) ?_
 try simp only[go_sem,fx]
 refine r0 ?_
 (repeat apply sq_)
 refine nJ 9 144 ?_
 refine nJ 2 32 ?_
 try simp only[List.append_assoc,List.cons_append,List.nil_append]
 refine R8 (F:=[(0,.ptr st.length 0 0 0),(1,.ptr (st.length+1) 0 0 0),(2,.ptr (st.length+2) 0 0 0),(3,.ptr (st.length+3) 0 0 0),(4,.ptr (st.length+4) 0 0 0),(5,.ptr (st.length+5) 0 0 0),(7,.fn 23 [] [.ptr (st.length+5) 0 0 0])]) (T:=st++[some (.arr 0 5 0 [[.D3,.D3,.D3,.D3,.D3]]),some (.arr 0 2 0 [[.str v1.base,.sl false 2 40 (rows u0.cells v1.args)]]),some (.arr 0 2 0 [[.str v2.base,.sl false 2 40 (rows u0.cells v2.args)]]),some (.arr 0 2 0 [[.str v3.base,.sl false 2 40 (rows u0.cells v3.args)]]),some (.arr 0 2 0 [[.str v4.base,.sl false 2 40 (rows u0.cells v4.args)]]),some (.arr 0 5 0 [[.sl false 2 40 (rows x5.cells v8.types),.sl false 3 32 (rows A0.cells v8.C2),.sl false 10 152 [[.str [115],.sl false 2 32 (rows y4.cells v17.nodes),.int .i64 2,.int .i64 0,.int .i64 ((get v9 0).kind),.str ((get v9 0).name),.int .i64 ((get v9 0).index),.str ((get v9 0).type.base),.sl false 2 40 (rows u0.cells ((get v9 0).type.args)),.sl false 6 96 (rows w6.cells ((get v9 0).args))],[.str [110,112],.sl false 2 32 (rows y4.cells v25.nodes),.int .i64 2,.int .i64 1,.int .i64 ((get v9 1).kind),.str ((get v9 1).name),.int .i64 ((get v9 1).index),.str ((get v9 1).type.base),.sl false 2 40 (rows u0.cells ((get v9 1).type.args)),.sl false 6 96 (rows w6.cells ((get v9 1).args))],[.str [118,112,45,105,118],.sl false 2 32 (rows y4.cells v32.nodes),.int .i64 1,.int .i64 0,.int .i64 ((get v9 2).kind),.str ((get v9 2).name),.int .i64 ((get v9 2).index),.str ((get v9 2).type.base),.sl false 2 40 (rows u0.cells ((get v9 2).type.args)),.sl false 6 96 (rows w6.cells ((get v9 2).args))],[.str [118,112,45,116,118],.sl false 2 32 (rows y4.cells v40.nodes),.int .i64 2,.int .i64 2,.int .i64 ((get v9 3).kind),.str ((get v9 3).name),.int .i64 ((get v9 3).index),.str ((get v9 3).type.base),.sl false 2 40 (rows u0.cells ((get v9 3).type.args)),.sl false 6 96 (rows w6.cells ((get v9 3).args))],[.str [118,112,45,110,111,116],.sl false 2 32 (rows y4.cells v48.nodes),.int .i64 2,.int .i64 3,.int .i64 ((get v9 4).kind),.str ((get v9 4).name),.int .i64 ((get v9 4).index),.str ((get v9 4).type.base),.sl false 2 40 (rows u0.cells ((get v9 4).type.args)),.sl false 6 96 (rows w6.cells ((get v9 4).args))],[.str [110,112,45,97,110,100],.sl false 2 32 (rows y4.cells v57.nodes),.int .i64 3,.int .i64 4,.int .i64 ((get v9 5).kind),.str ((get v9 5).name),.int .i64 ((get v9 5).index),.str ((get v9 5).type.base),.sl false 2 40 (rows u0.cells ((get v9 5).type.args)),.sl false 6 96 (rows w6.cells ((get v9 5).args))]],.ref false (st.length+43) 0 0 0,.ref false (st.length+44) 0 0 0]]),none,none,none,none,none,none,none,none,none,none,none,none,none,none,none,none,none,none,none,none,none,none,none,none,none,none,none,none,none,none,none,none,none,none,none,none,none,some (.arr 0 9 144 (rows D0.cells [])),some (.arr 0 2 32 (rows y4.cells []))]) (yu hsc (.lv (.lv (.lv (.lv (.lv (.live _ _ _ _ (.arr _ _ _ _ _ (.cons _ _ _ _ (.cons _ _ _ _ .s (.cons _ _ _ _ .s (.cons _ _ _ _ .s (.cons _ _ _ _ (.nref _ _ _ _ _ _ (nK.trans rfl)) (.cons _ _ _ _ (.nref _ _ _ _ _ _ (nK.trans rfl)) .nil))))) (.same _))) (.dead _ _ _ (.dead _ _ _ (.dead _ _ _ (.dead _ _ _ (.dead _ _ _ (.dead _ _ _ (.dead _ _ _ (.dead _ _ _ (.dead _ _ _ (.dead _ _ _ (.dead _ _ _ (.dead _ _ _ (.dead _ _ _ (.dead _ _ _ (.dead _ _ _ (.dead _ _ _ (.dead _ _ _ (.dead _ _ _ (.dead _ _ _ (.dead _ _ _ (.dead _ _ _ (.dead _ _ _ (.dead _ _ _ (.dead _ _ _ (.dead _ _ _ (.dead _ _ _ (.dead _ _ _ (.dead _ _ _ (.dead _ _ _ (.dead _ _ _ (.dead _ _ _ (.dead _ _ _ (.dead _ _ _ (.dead _ _ _ (.dead _ _ _ (.dead _ _ _ (.dead _ _ _ (.lv (.lv (.nil _)))))))))))))))))))))))))))))))))))))))))))))) (by simp) ⟨.s,.s,.s,.s,.s,.s,.s,trivial⟩ (by simp)) ?_
 refine cl h (U3 _ _ _) fun v59 h=>?_
 refine rn ?_
 obtain⟨v63,hv63,h⟩:=E7 h
 refine(B1 n _ _ _ _ _ _ _ _ _ _ hv63 _ _ _ _ 0 0 (by simp) (U5.trans rfl) (U5.trans rfl) (U5.trans rfl)).mono ?_
 rintro d1 st1 ⟨rfl,rfl⟩
 refine cl h (U3 _ _ _) fun v64 h=>?_
 refine rn ?_
 obtain⟨v68,hv68,h⟩:=E7 h
 refine(B1 n _ _ _ _ _ _ _ _ _ _ hv68 _ _ _ _ 1 0 (by simp) (U5.trans rfl) (U5.trans rfl) (U5.trans rfl)).mono ?_
 rintro d1 st1 ⟨rfl,rfl⟩
 refine cl h (U3 _ _ _) fun v69 h=>?_
 refine rn ?_
 obtain⟨v72,hv72,h⟩:=E7 h
 refine(B1 n _ _ _ _ _ _ _ _ _ _ hv72 _ _ _ _ 2 0 (by simp) (U5.trans rfl) (U5.trans rfl) (U5.trans rfl)).mono ?_
 rintro d1 st1 ⟨rfl,rfl⟩
 refine cl h (B9 _ _) fun v73 h=>?_
 refine rn ?_
 obtain⟨v77,hv77,h⟩:=E7 h
 refine(B1 n _ _ _ _ _ _ _ _ _ _ hv77 _ _ _ _ 3 0 (by simp) (U5.trans rfl) (U5.trans rfl) (U5.trans rfl)).mono ?_
 rintro d1 st1 ⟨rfl,rfl⟩
 refine cl h (B9 _ _) fun v78 h=>?_
 refine rn ?_
 obtain⟨v82,hv82,h⟩:=E7 h
 refine(B1 n _ _ _ _ _ _ _ _ _ _ hv82 _ _ _ _ 4 0 (by simp) (U5.trans rfl) (U5.trans rfl) (U5.trans rfl)).mono ?_
 rintro d1 st1 ⟨rfl,rfl⟩
 refine cl h (B9 _ _) fun v83 h=>?_
 refine rn ?_
 obtain⟨v87,hv87,h⟩:=E7 h
 refine(B1 n _ _ _ _ _ _ _ _ _ _ hv87 _ _ _ _ 5 0 (by simp) (U5.trans rfl) (U5.trans rfl) (U5.trans rfl)).mono ?_
 rintro d1 st1 ⟨rfl,rfl⟩
 refine cl h (B9 _ _) fun v88 h=>?_
 refine rn ?_
 obtain⟨v92,hv92,h⟩:=E7 h
 refine(B1 n _ _ _ _ _ _ _ _ _ _ hv92 _ _ _ _ 6 0 (by simp) (U5.trans rfl) (U5.trans rfl) (U5.trans rfl)).mono ?_
 rintro d1 st1 ⟨rfl,rfl⟩
 refine cl h (B9 _ _) fun v93 h=>?_
 refine rn ?_
 obtain⟨v97,hv97,h⟩:=E7 h
 refine(B1 n _ _ _ _ _ _ _ _ _ _ hv97 _ _ _ _ 7 0 (by simp) (U5.trans rfl) (U5.trans rfl) (U5.trans rfl)).mono ?_
 rintro d1 st1 ⟨rfl,rfl⟩
 refine cl h (B9 _ _) fun v98 h=>?_
 refine rn ?_
 obtain⟨v102,hv102,h⟩:=E7 h
 refine(B1 n _ _ _ _ _ _ _ _ _ _ hv102 _ _ _ _ 8 0 (by simp) (U5.trans rfl) (U5.trans rfl) (U5.trans rfl)).mono ?_
 rintro d1 st1 ⟨rfl,rfl⟩
 refine cl h (B9 _ _) fun v103 h=>?_
 refine rn ?_
 obtain⟨v107,hv107,h⟩:=E7 h
 refine(B1 n _ _ _ _ _ _ _ _ _ _ hv107 _ _ _ _ 9 0 (by simp) (U5.trans rfl) (U5.trans rfl) (U5.trans rfl)).mono ?_
 rintro d1 st1 ⟨rfl,rfl⟩
 refine cl h (B9 _ _) fun v108 h=>?_
 refine rn ?_
 obtain⟨v112,hv112,h⟩:=E7 h
 refine(B1 n _ _ _ _ _ _ _ _ _ _ hv112 _ _ _ _ 10 0 (by simp) (U5.trans rfl) (U5.trans rfl) (U5.trans rfl)).mono ?_
 rintro d1 st1 ⟨rfl,rfl⟩
 refine cl h (B9 _ _) fun v113 h=>?_
 refine rn ?_
 obtain⟨v117,hv117,h⟩:=E7 h
 refine(B1 n _ _ _ _ _ _ _ _ _ _ hv117 _ _ _ _ 11 0 (by simp) (U5.trans rfl) (U5.trans rfl) (U5.trans rfl)).mono ?_
 rintro d1 st1 ⟨rfl,rfl⟩
 refine cl h (B9 _ _) fun v118 h=>?_
 refine rn ?_
 obtain⟨v122,hv122,h⟩:=E7 h
 refine(B1 n _ _ _ _ _ _ _ _ _ _ hv122 _ _ _ _ 12 0 (by simp) (U5.trans rfl) (U5.trans rfl) (U5.trans rfl)).mono ?_
 rintro d1 st1 ⟨rfl,rfl⟩
 refine cl h (B9 _ _) fun v123 h=>?_
 refine rn ?_
 obtain⟨v127,hv127,h⟩:=E7 h
 refine(B1 n _ _ _ _ _ _ _ _ _ _ hv127 _ _ _ _ 13 0 (by simp) (U5.trans rfl) (U5.trans rfl) (U5.trans rfl)).mono ?_
 rintro d1 st1 ⟨rfl,rfl⟩
 refine cl h (B9 _ _) fun v128 h=>?_
 refine rn ?_
 obtain⟨v132,hv132,h⟩:=E7 h
 refine(B1 n _ _ _ _ _ _ _ _ _ _ hv132 _ _ _ _ 14 0 (by simp) (U5.trans rfl) (U5.trans rfl) (U5.trans rfl)).mono ?_
 rintro d1 st1 ⟨rfl,rfl⟩
 refine cl h (B9 _ _) fun v133 h=>?_
 refine rn ?_
 obtain⟨v137,hv137,h⟩:=E7 h
 refine(B1 n _ _ _ _ _ _ _ _ _ _ hv137 _ _ _ _ 15 0 (by simp) (U5.trans rfl) (U5.trans rfl) (U5.trans rfl)).mono ?_
 rintro d1 st1 ⟨rfl,rfl⟩
 refine cl h (B9 _ _) fun v138 h=>?_
 refine rn ?_
 obtain⟨v142,hv142,h⟩:=E7 h
 refine(B1 n _ _ _ _ _ _ _ _ _ _ hv142 _ _ _ _ 16 0 (by simp) (U5.trans rfl) (U5.trans rfl) (U5.trans rfl)).mono ?_
 rintro d1 st1 ⟨rfl,rfl⟩
 refine cl h (C7 _ _) fun v143 h=>?_
 refine cl h (B9 _ _) fun v144 h=>?_
 refine rn ?_
 obtain⟨v147,hv147,h⟩:=E7 h
 refine(B1 n _ _ _ _ _ _ _ _ _ _ hv147 _ _ _ _ 17 0 (by simp) (U5.trans rfl) (U5.trans rfl) (U5.trans rfl)).mono ?_
 rintro d1 st1 ⟨rfl,rfl⟩
 refine rn ?_
 refine dw [9] 2 ?_
 obtain⟨v148,hv148,h⟩:=E7 h
 refine y9 (C7 _ _ _ hv148) ?_
 try simp only[go_sem,fx]
 obtain⟨v149,hv149,h⟩:=E7 h
 refine y9 (C7 _ _ _ hv149) ?_
 try simp only[go_sem,fx]
 obtain⟨v150,hv150,h⟩:=E7 h
 refine y9 (B9 _ _ _ hv150) ?_
 try simp only[go_sem,fx]
 obtain⟨v153,hv153,h⟩:=E7 h
 refine pN [(st.length+5),(st.length+43),(st.length+44)] (fun st2 h2=>(B1 n _ _ _ _ _ _ _ _ _ _ hv153 st2 _ _ _ 18 0 (by simp) ((h2 _ (by simp)).trans (U5.trans rfl)) ((h2 _ (by simp)).trans (U5.trans rfl)) ((h2 _ (by simp)).trans (U5.trans rfl)))) (by simp) (by simp only[List.mem_cons,List.not_mem_nil,or_false,forall_eq_or_imp,forall_eq];exact⟨⟨by first|omega|(simp<;>omega),_,(U5.trans rfl),Ob.noConfusion⟩,⟨by first|omega|(simp<;>omega),_,(U5.trans rfl),Ob.noConfusion⟩,⟨by first|omega|(simp<;>omega),_,(U5.trans rfl),Ob.noConfusion⟩⟩) (by simp) ?_
 try simp only[go_sem,fx]
 try refine⟨by(simp<;>omega),?_⟩
 refine rs ?_
 refine dw [10] 3 ?_
 obtain⟨v154,hv154,h⟩:=E7 h
 refine y9 (y3 _ _ hv154) ?_
 try simp only[go_sem,fx]
 obtain⟨v155,hv155,h⟩:=E7 h
 refine y9 (B9 _ _ _ hv155) ?_
 try simp only[go_sem,fx]
 obtain⟨v156,hv156,h⟩:=E7 h
 refine y9 (B2 _ _ _ hv156) ?_
 try simp only[go_sem,fx]
 obtain⟨v157,hv157,h⟩:=E7 h
 refine y9 (y6 _ _ _ hv157) ?_
 try simp only[go_sem,fx]
 obtain⟨v161,hv161,h⟩:=E7 h
 refine pN [(st.length+5),(st.length+43),(st.length+44)] (fun st2 h2=>(B1 n _ _ _ _ _ _ _ _ _ _ hv161 st2 _ _ _ 19 0 (by simp) ((h2 _ (by simp)).trans (U5.trans rfl)) ((h2 _ (by simp)).trans (U5.trans rfl)) ((h2 _ (by simp)).trans (U5.trans rfl)))) (by simp) (by simp only[List.mem_cons,List.not_mem_nil,or_false,forall_eq_or_imp,forall_eq];exact⟨⟨by first|omega|(simp<;>omega),_,(U5.trans rfl),Ob.noConfusion⟩,⟨by first|omega|(simp<;>omega),_,(U5.trans rfl),Ob.noConfusion⟩,⟨by first|omega|(simp<;>omega),_,(U5.trans rfl),Ob.noConfusion⟩⟩) (by simp) ?_
 try simp only[go_sem,fx]
 try refine⟨by(simp<;>omega),?_⟩
 refine rs ?_
 refine dw [10] 3 ?_
 obtain⟨v162,hv162,h⟩:=E7 h
 refine y9 (y3 _ _ hv162) ?_
 try simp only[go_sem,fx]
 obtain⟨v163,hv163,h⟩:=E7 h
 refine y9 (B9 _ _ _ hv163) ?_
 try simp only[go_sem,fx]
 obtain⟨v164,hv164,h⟩:=E7 h
 refine y9 (B2 _ _ _ hv164) ?_
 try simp only[go_sem,fx]
 obtain⟨v165,hv165,h⟩:=E7 h
 refine y9 (y6 _ _ _ hv165) ?_
 try simp only[go_sem,fx]
 obtain⟨v169,hv169,h⟩:=E7 h
 refine pN [(st.length+5),(st.length+43),(st.length+44)] (fun st2 h2=>(B1 n _ _ _ _ _ _ _ _ _ _ hv169 st2 _ _ _ 20 0 (by simp) ((h2 _ (by simp)).trans (U5.trans rfl)) ((h2 _ (by simp)).trans (U5.trans rfl)) ((h2 _ (by simp)).trans (U5.trans rfl)))) (by simp) (by simp only[List.mem_cons,List.not_mem_nil,or_false,forall_eq_or_imp,forall_eq];exact⟨⟨by first|omega|(simp<;>omega),_,(U5.trans rfl),Ob.noConfusion⟩,⟨by first|omega|(simp<;>omega),_,(U5.trans rfl),Ob.noConfusion⟩,⟨by first|omega|(simp<;>omega),_,(U5.trans rfl),Ob.noConfusion⟩⟩) (by simp) ?_
 try simp only[go_sem,fx]
 try refine⟨by(simp<;>omega),?_⟩
 refine cl h (E8 n _) fun v172 h=>?_
 refine rr ?_
 exact fo (.agg [.sl false 2 40 (rows x5.cells v8.types),.sl false 3 32 (rows A0.cells v8.C2),.sl false 10 152 (rows w8.cells [(w8.mk [115] v17 2 0 (get v9 0)),(w8.mk [110,112] v25 2 1 (get v9 1)),(w8.mk [118,112,45,105,118] v32 1 0 (get v9 2)),(w8.mk [118,112,45,116,118] v40 2 2 (get v9 3)),(w8.mk [118,112,45,110,111,116] v48 2 3 (get v9 4)),(w8.mk [110,112,45,97,110,100] v57 3 4 (get v9 5))]),.sl false 9 144 (rows D0.cells v169),.sl false 2 32 (rows y4.cells v172.nodes)]) (.agg _ _ (.cons _ _ _ _ .s (.cons _ _ _ _ .s (.cons _ _ _ _ .s (.cons _ _ _ _ (.ref _ _ _ _ _ _ _ _ _ (nK.trans rfl) zE (by decide) (sD _) (by simp only[go_sem])) (.cons _ _ _ _ .s .nil)))))) h hsc
theorem G8(a0:Int)(a1:Int)(r:w5)(h:H6 a0 a1=some r):Pure Tryz.prog gl 72 [.int .i64 a0,.int .i64 a1] (.agg [.int .i64 r.code,.int .i64 r.index]):=by
 intro st
 unfold H6 at h
 have fx:=trivial
 refine fb 8 [.cell 4 39] [0,1,4] Tryz.func72 fun hsc=>?_
 exact rt
theorem kh(a0:Bs)(r:Bool)(h:termName a0=some r):Pure Tryz.prog gl 53 [.str a0] (.bool r):=by
 intro st
 unfold termName at h
 have fx:=trivial
 refine fb 55 [.tmp 2] [0,2,3,4,9,10,11,14,15,16,19,20,21,22,24,25,26,34,35,38,39,40,41,42,43,46,47,50,51,53] Tryz.func53 fun hsc=>?_
 obtain⟨fx,h⟩:=ck fx h
 obtain⟨fx,h⟩:=ck fx h
 refine cd h (fun hc h=>?_) fun hc h=>?_
 ·exact rt
 ·obtain⟨fx,h⟩:=ck fx h
  refine rn ?_
  refine rng (body:=jU a0) (kk:=jV) (n:=a0.length) (s0:=())
   (fun(gs0:Unit) (k0:Nat) (s0:Unit)=>[(0,.str a0),(24,.int .i64 (↑a0.length:Int)),(25,.int .i64 (↑k0:Int))])
   (fun(gs0:Unit) (k0:Nat) (s0:Unit)=>st)
   (fun(gt0:Unit) (t0:Unit)=>[])
   (fun(gt0:Unit) (t0:Unit)=>st)
   () fx fx.2 h (cT hsc)
   (fun gs0 k0 s0 b0 fx h hx0=>?_) (fun gs0 s0=>?_) (fun gt0 t0 fr1 st1 h hb=>?_)
  ·unfold jU at h
   refine ct ?_
   refine cd h (fun hc h=>?_) fun hc h=>?_
   ·refine ra ?_
    cases h
    refine D4 ?_;have h:=congrArg some (hx0 _ rfl)
    exact rt
   ·refine rn ?_
    cases h
    exact dc () (cT hsc)
  ·refine cf ?_
   refine cP ?_;simp only[go_sem,fx]
   exact⟨(),(cT hsc)⟩
  ·try simp only[go_sem,fx]
   unfold jV at h
   refine R8 hb ?_
   exact rt
theorem pC(a0:(List x5))(r:w5)(h:aZ a0=some r):Pure Tryz.prog gl 73 [.sl false 2 40 (rows x5.cells a0)] (.agg [.int .i64 r.code,.int .i64 r.index]):=by
 intro st
 unfold aZ at h
 have fx:=trivial
 refine fb 82 [.cell 2 39] [0,2,3,4,5,7,8,10,15,16,17,18,21,22,23,24,31,41,54,58,59,60,61,67,68,69,70,75] Tryz.func73 fun hsc=>?_
 refine cd h (fun hc h=>?_) fun hc h=>?_
 ·refine cl h (G8 _ _) fun v1 h=>?_
  exact rt
 ·refine aln 21 fun hl0=>?_
  refine rng (body:=cr a0) (kk:=eW) (n:=a0.length) (s0:=[])
   (fun(gs0:Unit) (k0:Nat) (s0:(List (Bs×Int)))=>[(2,.ptr st.length 0 0 0),(3,.mp (st.length+1)),(21,.sl false 2 40 (rows x5.cells a0)),(22,.int .i64 (↑a0.length:Int)),(23,.int .i64 (↑k0:Int))])
   (fun(gs0:Unit) (k0:Nat) (s0:(List (Bs×Int)))=>st++[some (.arr 0 2 0 [[.int .i64 0,.int .i64 0]]),some (.mps false (mrw E1 s0))])
   (fun(gt0:Unit) (t0:(List (Bs×Int)))=>[(2,.ptr st.length 0 0 0)])
   (fun(gt0:Unit) (t0:(List (Bs×Int)))=>st++[some (.arr 0 2 0 [[.int .i64 0,.int .i64 0]])])
   () fx hl0 h (bm hsc)
   (fun gs0 k0 s0 b0 fx h hx0=>?_) (fun gs0 s0=>?_) (fun gt0 t0 fr1 st1 h hb=>?_)
  ·unfold cr at h
   refine ct ?_
   refine cl h (kh _) fun v12 h=>?_
   refine cd h (fun hc h=>?_) fun hc h=>?_
   ·refine cl h (G8 _ _) fun v13 h=>?_
    refine ra ?_
    cases h
    refine D4 ?_;have h:=congrArg some (hx0 _ rfl)
    exact rt
   ·refine cd h (fun hc h=>?_) fun hc h=>?_
    ·refine cl h (G8 _ _) fun v14 h=>?_
     refine ra ?_
     cases h
     refine D4 ?_;have h:=congrArg some (hx0 _ rfl)
     exact rt
    ·refine r0 ?_
     obtain⟨c15,Mc,h⟩:=lK h
     have fy:=(show I7 ((get a0 k0).name) [.int .i64 (↑k0:Int)] (mrw E1 s0)=mrw E1 c15 from by rw[Mc];exact yt (E:=E1) _ _ _)
     refine r1 ?_
     refine cd h (fun hc h=>?_) fun hc h=>?_
     ·refine cl h (G8 _ _) fun v17 h=>?_
      refine ra ?_
      cases h
      refine D4 ?_;have h:=congrArg some (hx0 _ rfl)
      exact rt
     ·refine aln 58 fun hl2=>?_
      refine rng (body:=cu a0 k0) (kk:=cw c15) (n:=((get a0 k0).parents).length) (s0:= -1)
       (fun(gs2:Unit) (k2:Nat) (s2:Int)=>[(2,.ptr st.length 0 0 0),(3,.mp (st.length+1)),(4,.int .i64 (↑k0:Int)),(8,.int .i64 s2),(21,.sl false 2 40 (rows x5.cells a0)),(22,.int .i64 (↑a0.length:Int)),(23,.int .i64 (↑k0:Int)),(58,.sl false 1 8 (rows E1 ((get a0 k0).parents))),(59,.int .i64 (↑(((get a0 k0).parents).length):Int)),(60,.int .i64 (↑k2:Int))])
       (fun(gs2:Unit) (k2:Nat) (s2:Int)=>st++[some (.arr 0 2 0 [[.int .i64 0,.int .i64 0]]),some (.mps false (mrw E1 c15))])
       (fun(gt2:Unit) (t2:Int)=>[(2,.ptr st.length 0 0 0),(3,.mp (st.length+1)),(21,.sl false 2 40 (rows x5.cells a0)),(22,.int .i64 (↑a0.length:Int)),(23,.int .i64 (↑k0:Int))])
       (fun(gt2:Unit) (t2:Int)=>st++[some (.arr 0 2 0 [[.int .i64 0,.int .i64 0]]),some (.mps false (mrw E1 c15))])
       () fx hl2 h (bm hsc)
       (fun gs2 k2 s2 b2 fx h hx2=>?_) (fun gs2 s2=>?_) (fun gt2 t2 fr1 st1 h hb=>?_)
      ·unfold cu at h
       refine ct ?_
       refine cd h (fun hc h=>?_) fun hc h=>?_
       ·refine cl h (G8 _ _) fun v20 h=>?_
        refine ra ?_
        cases h
        refine D4 ?_;obtain rfl:=hx2 _ rfl;try simp only[go_sem,fx]
        refine D4 ?_;have h:=congrArg some (hx0 _ rfl)
        exact rt
       ·refine cd h (fun hc h=>?_) fun hc h=>?_
        ·refine cl h (G8 _ _) fun v21 h=>?_
         refine ra ?_
         cases h
         refine D4 ?_;obtain rfl:=hx2 _ rfl;try simp only[go_sem,fx]
         refine D4 ?_;have h:=congrArg some (hx0 _ rfl)
         exact rt
        ·refine rn ?_
         cases h
         exact dc () (bm hsc)
      ·refine cf ?_
       refine cP ?_;simp only[go_sem,fx]
       exact⟨(),(bm hsc)⟩
      ·try simp only[go_sem,fx]
       unfold cw at h
       refine R8 hb ?_
       refine rn ?_
       cases h
       exact dc () (bm hsc)
  ·refine cf ?_
   refine cP ?_;simp only[go_sem,fx]
   exact⟨(),(bm hsc)⟩
  ·try simp only[go_sem,fx]
   unfold eW at h
   refine R8 hb ?_
   exact rt
end Go.Proofs.YtoekkdodipnmpaaGreatDoor
