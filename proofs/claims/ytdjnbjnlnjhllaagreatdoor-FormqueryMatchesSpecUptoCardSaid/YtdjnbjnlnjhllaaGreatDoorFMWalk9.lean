import Derived.Test.YtdjnbjnlnjhllaaGreatDoorFMWalk8
set_option linter.unusedVariables false
set_option linter.unusedSimpArgs false
namespace Go.Proofs.YtdjnbjnlnjhllaaGreatDoor
open Go Go.Am
set_option maxHeartbeats 20000000 in
set_option maxRecDepth 100000 in
theorem p7v(n:Nat)(a0:i8I)(a1:(List i8G))(a2:Int)(r:(List i8H)×(List Int)×Bool)(h:p2w n a0 a1 a2=some r):Pure Tryz.prog gl 33 [.agg [.int .i64 a0.form.kind,.str a0.form.name,.sl false 1 16 (rows i8K a0.form.words),.sl false 4 72 (rows i8F.cells a0.form.subs),.sl false 1 16 (rows i8K a0.words),.sl false 1 16 (rows i8K a0.i8M),.sl false 1 16 (rows i8K a0.parts)],.sl false 5 80 (rows i8G.cells a1),.int .i64 a2] (.tup [.sl false 6 104 (rows i8H.cells r.1),.sl false 1 8 (rows p8C r.2.1),.bool r.2.2]):=by
 intro st
 unfold p2w at h
 have fx:=trivial
 refine fb 415 [.tmp 6,.tmp 7,.tmp 8] [0,1,2,3,6,7,8,9,10,11,12,13,14,15,16,17,18,19,20,21,22,23,24,52,62,63,64,65,66,67,68,71,72,73,74,75,76,77,78,79,80,98,99,100,101,102,103,104,105,106,107,108,109,110,111,112,113,114,115,116,117,118,119,120,121,122,127,163,164,165,166,167,168,169,170,171,172,173,174,175,176,184,185,186,187,188,189,190,217,218,219,220,221,222,223,224,225,226,247,249,255,256,257,258,259,260,261,262,263,264,265,266,290,308,328,342,344,350,351,352,353,354,355,356,357,358,359,360,361,362,363,364,388,399,412] Tryz.func33 fun hsc=>?_
 refine cl h (p6R n _) fun v1 h=>?_
 refine rn ?_
 refine dw [] 0 ?_
 obtain⟨fx,h⟩:=ck fx h
 refine r0 ?_
 (repeat apply sq_)
 refine p0E (F:=[(1,.sl false 5 80 (rows i8G.cells a1)),(2,.int .i64 a2),(3,.ptr st.length 0 0 0),(9,.sl false 1 16 (rows i8K v1)),(10,.int .i64 (↑a0.words.length:Int)),(11,.int .i64 (↑a0.i8M.length:Int)),(12,.int .i64 (↑a0.parts.length:Int)),(13,.ref true (st.length+1) 0 0 v1.length)]) (T:=st++[some (.arr 0 7 0 [[.int .i64 a0.form.kind,.str a0.form.name,.sl false 1 16 (rows i8K a0.form.words),.sl false 4 72 (rows i8F.cells a0.form.subs),.sl false 1 16 (rows i8K a0.words),.sl false 1 16 (rows i8K a0.i8M),.sl false 1 16 (rows i8K a0.parts)]]),some (.arr 0 6 104 (rows i8H.cells (List.replicate v1.length (default:i8H))))]) (r5T hsc (.lv (.live _ _ _ _ (.arr _ _ _ _ _ (u7r (by rw[i8H.p3n];exact(.cons _ _ _ _ .s (.cons _ _ _ _ .s (.cons _ _ _ _ .s (.cons _ _ _ _ .s (.cons _ _ _ _ (.i8S _ _ _ (by decide)) (.cons _ _ _ _ (.i8S _ _ _ (by decide)) .nil))))))))) (.nil _))) (by simp) ⟨.s,.s,.s,.s,.s,.s,.s,.s,trivial⟩ (by simp)) ?_
 obtain⟨fx,h⟩:=ck fx h
 have fy:=(show List.replicate v1.length [.bool false]=rows p0x (List.replicate v1.length (default:Bool))from r8d (E:=p0x) _ default)
 refine r1 ?_
 obtain⟨fx,h⟩:=ck fx h
 have fy:=(show List.replicate v1.length [.int .i64 0]=rows p8C (List.replicate v1.length (default:Int))from r8d (E:=p8C) _ default)
 refine r1 ?_
 refine cl h (up (p2U n _ _) (fun _=>(.cons _ _ _ _ .s (.cons _ _ _ _ .s (.cons _ _ _ _ (.i8S _ _ _ (by decide)) .nil))))) fun v8 h=>?_
 refine rn ?_
 refine i8V (body:=i8Z n v8 a0 a1 v1) (kk:=p0n n a0) (n:=n) (s0:=((List.replicate v1.length (default:i8H)),(List.replicate v1.length (default:Bool)),(List.replicate v1.length (default:Int)),a2,0))
  (fun(gs0:Nat×Nat×Nat) (s0:(List i8H)×(List Bool)×(List Int)×Int×Int)=>[(1,.sl false 5 80 (rows i8G.cells a1)),(3,.ptr st.length 0 0 0),(9,.sl false 1 16 (rows i8K v1)),(10,.int .i64 (↑a0.words.length:Int)),(11,.int .i64 (↑a0.i8M.length:Int)),(12,.int .i64 (↑a0.parts.length:Int)),(13,.ref true (st.length+1) gs0.1 0 s0.1.length),(14,.ref true (st.length+2) gs0.2.1 0 s0.2.1.length),(15,.ref true (st.length+3) gs0.2.2 0 s0.2.2.1.length),(16,.sl false 5 80 (rows i8G.cells v8)),(17,.int .i64 s0.2.2.2.1),(18,.int .i64 s0.2.2.2.2)])
  (fun(gs0:Nat×Nat×Nat) (s0:(List i8H)×(List Bool)×(List Int)×Int×Int)=>st++[some (.arr 0 7 0 [[.int .i64 a0.form.kind,.str a0.form.name,.sl false 1 16 (rows i8K a0.form.words),.sl false 4 72 (rows i8F.cells a0.form.subs),.sl false 1 16 (rows i8K a0.words),.sl false 1 16 (rows i8K a0.i8M),.sl false 1 16 (rows i8K a0.parts)]]),some (.arr gs0.1 6 104 (rows i8H.cells s0.1)),some (.arr gs0.2.1 1 1 (rows p0x s0.2.1)),some (.arr gs0.2.2 1 8 (rows p8C s0.2.2.1))])
  (fun(gt0:Nat×Nat) (t0:(List i8H)×(List Int))=>[(10,.int .i64 (↑a0.words.length:Int)),(11,.int .i64 (↑a0.i8M.length:Int)),(12,.int .i64 (↑a0.parts.length:Int)),(13,.ref true (st.length+1) gt0.1 0 t0.1.length),(15,.ref true (st.length+3) gt0.2 0 t0.2.length)])
  (fun(gt0:Nat×Nat) (t0:(List i8H)×(List Int))=>st++[none,some (.arr gt0.1 6 104 (rows i8H.cells t0.1)),none,some (.arr gt0.2 1 8 (rows p8C t0.2))])
  (0,0,0) h (bm hsc (hf:=⟨.s,.s,.s,.s,.s,.s,u5h (by first|(simp;done)|simp[Fr.get]),u5h (by first|(simp;done)|simp[Fr.get]),u5h (by first|(simp;done)|simp[Fr.get]),.s,.s,.s,trivial⟩))
  (fun gs0 s0 b0 h hx0=>?_) (fun gt0 t0 fr1 st1 h hb=>?_)
 ·unfold i8Z at h
  refine cd h (fun hc h=>?_) fun hc h=>?_
  ·refine rn ?_
   obtain⟨fx,h⟩:=ck fx h
   refine dw [] 0 ?_
   obtain⟨v146,hv146,h⟩:=p3S h
   refine p8L (fun hG=>(i9e n _ _ _ (r4k hv146 (by simpa using hG)))) ?_
   try simp only[go_sem,fx]
   refine cd h (fun hc h=>?_) fun hc h=>?_
   ·refine rs ?_
    refine dw [] 0 ?_
    obtain⟨v147,hv147,h⟩:=p3S h
    refine p3w (i9e n _ _ _ hv147) ?_
    try simp only[go_sem,fx]
    refine rs ?_
    obtain⟨fx,h⟩:=ck fx h
    have fy:=(show(rows p0x s0.2.1).getD ((wr .i64 ((wr .i64 ((↑a0.words.length:Int)+(↑a0.i8M.length:Int)))+v147)).toNat) []=p0x (get s0.2.1 ((wr .i64 ((wr .i64 ((↑a0.words.length:Int)+(↑a0.i8M.length:Int)))+v147)).toNat))from r0n (E:=p0x) (l:=s0.2.1) (k:=(wr .i64 ((wr .i64 ((↑a0.words.length:Int)+(↑a0.i8M.length:Int)))+v147)).toNat) (by first|omega|(simp;omega)))
    have fy:=fa fy (show(wr .i64 ((wr .i64 ((↑a0.words.length:Int)+(↑a0.i8M.length:Int)))+v147)).toNat<s0.2.1.length from by first|omega|(simp;omega))
    obtain⟨fx,h⟩:=ck fx h
    obtain⟨fx,h⟩:=ck fx h
    have fy:=fa fy (show(rows p8C s0.2.2.1).getD ((wr .i64 ((wr .i64 ((↑a0.words.length:Int)+(↑a0.i8M.length:Int)))+v147)).toNat) []=p8C (get s0.2.2.1 ((wr .i64 ((wr .i64 ((↑a0.words.length:Int)+(↑a0.i8M.length:Int)))+v147)).toNat))from r0n (E:=p8C) (l:=s0.2.2.1) (k:=(wr .i64 ((wr .i64 ((↑a0.words.length:Int)+(↑a0.i8M.length:Int)))+v147)).toNat) (by first|omega|(simp;omega)))
    have fy:=fa fy (show(wr .i64 ((wr .i64 ((↑a0.words.length:Int)+(↑a0.i8M.length:Int)))+v147)).toNat<s0.2.2.1.length from by first|omega|(simp;omega))
    obtain⟨fx,h⟩:=ck fx h
    have fy:=fa fy (show(rows p8C s0.2.2.1).getD ((wr .i64 ((wr .i64 ((↑a0.words.length:Int)+(↑a0.i8M.length:Int)))+v147)).toNat) []=p8C (get s0.2.2.1 ((wr .i64 ((wr .i64 ((↑a0.words.length:Int)+(↑a0.i8M.length:Int)))+v147)).toNat))from r0n (E:=p8C) (l:=s0.2.2.1) (k:=(wr .i64 ((wr .i64 ((↑a0.words.length:Int)+(↑a0.i8M.length:Int)))+v147)).toNat) (by first|omega|(simp;omega)))
    have fy:=fa fy (show(wr .i64 ((wr .i64 ((↑a0.words.length:Int)+(↑a0.i8M.length:Int)))+v147)).toNat<s0.2.2.1.length from by first|omega|(simp;omega))
    obtain⟨fx,h⟩:=ck fx h
    obtain⟨fx,h⟩:=ck fx h
    obtain⟨fx,h⟩:=ck fx h
    obtain⟨fx,h⟩:=ck fx h
    refine dwy [] 0 ?_
    obtain⟨v177,hv177,h⟩:=p3S h
    refine p8L (fun hG=>(p7z n _ _ _ (r4k hv177 (by simpa using hG)))) ?_
    try simp only[go_sem,fx,fy]
    refine cd h (fun hc h=>?_) fun hc h=>?_
    ·refine ra ?_
     cases h
     refine p0T ?_;have h:=congrArg some (hx0 _ rfl)
     refine rr ?_
     exact fo (.tup [.sl false 6 104 (rows i8H.cells []),.sl false 1 8 (rows p8C []),.bool false]) (.tup _ _ (.cons _ _ _ _ (.i8S _ _ _ (by decide)) (.cons _ _ _ _ (.i8S _ _ _ (by decide)) (.cons _ _ _ _ .s .nil))) rfl) h hsc
    ·refine r0 ?_
     have fy:=(show(rows p0x s0.2.1).getD ((wr .i64 ((wr .i64 ((↑a0.words.length:Int)+(↑a0.i8M.length:Int)))+v147)).toNat) []=p0x (get s0.2.1 ((wr .i64 ((wr .i64 ((↑a0.words.length:Int)+(↑a0.i8M.length:Int)))+v147)).toNat))from r0n (E:=p0x) (l:=s0.2.1) (k:=(wr .i64 ((wr .i64 ((↑a0.words.length:Int)+(↑a0.i8M.length:Int)))+v147)).toNat) (by first|omega|(simp;omega)))
     have fy:=fa fy (show(wr .i64 ((wr .i64 ((↑a0.words.length:Int)+(↑a0.i8M.length:Int)))+v147)).toNat<s0.2.1.length from by first|omega|(simp;omega))
     refine r1 ?_
     (repeat apply sq_)
     refine p4c (i9G s0 a1) b0 (fun(gj7:Nat×Nat×Nat) (j7:(List i8H)×(List Bool)×(List Int))=>[(1,.sl false 5 80 (rows i8G.cells a1)),(3,.ptr st.length 0 0 0),(9,.sl false 1 16 (rows i8K v1)),(10,.int .i64 (↑a0.words.length:Int)),(11,.int .i64 (↑a0.i8M.length:Int)),(12,.int .i64 (↑a0.parts.length:Int)),(13,.ref true (st.length+1) gj7.1 0 j7.1.length),(14,.ref true (st.length+2) gj7.2.1 0 j7.2.1.length),(15,.ref true (st.length+3) gj7.2.2 0 j7.2.2.length),(16,.sl false 5 80 (rows i8G.cells v8)),(17,.int .i64 s0.2.2.2.1),(18,.int .i64 s0.2.2.2.2)]) (fun(gj7:Nat×Nat×Nat) (j7:(List i8H)×(List Bool)×(List Int))=>st++[some (.arr 0 7 0 [[.int .i64 a0.form.kind,.str a0.form.name,.sl false 1 16 (rows i8K a0.form.words),.sl false 4 72 (rows i8F.cells a0.form.subs),.sl false 1 16 (rows i8K a0.words),.sl false 1 16 (rows i8K a0.i8M),.sl false 1 16 (rows i8K a0.parts)]]),some (.arr gj7.1 6 104 (rows i8H.cells j7.1)),some (.arr gj7.2.1 1 1 (rows p0x j7.2.1)),some (.arr gj7.2.2 1 8 (rows p8C j7.2.2))]) (fun gj7 j7 fr1 st1 h hb=>?_) (fun hj7=>?_)
     ·try simp only[go_sem,fx]
      unfold i9G at h
      refine p0E hb ?_
      obtain⟨fx,h⟩:=ck fx h
      refine rn ?_
      cases h
      exact i9h (gj7.1,gj7.2.1,gj7.2.2) (bm hsc)
     ·refine cd h (fun hc h=>?_) fun hc h=>?_
      ·have fy:=(show(rows p0x s0.2.1).getD ((wr .i64 ((wr .i64 ((↑a0.words.length:Int)+(↑a0.i8M.length:Int)))+v147)).toNat) []=p0x (get s0.2.1 ((wr .i64 ((wr .i64 ((↑a0.words.length:Int)+(↑a0.i8M.length:Int)))+v147)).toNat))from r0n (E:=p0x) (l:=s0.2.1) (k:=(wr .i64 ((wr .i64 ((↑a0.words.length:Int)+(↑a0.i8M.length:Int)))+v147)).toNat) (by first|omega|(simp;omega)))
       have fy:=fa fy (show(wr .i64 ((wr .i64 ((↑a0.words.length:Int)+(↑a0.i8M.length:Int)))+v147)).toNat<s0.2.1.length from by first|omega|(simp;omega))
       obtain⟨c182,u8j,h⟩:=p5L h
       have fy:=fa fy (show(rows p0x s0.2.1).set ((wr .i64 ((wr .i64 ((↑a0.words.length:Int)+(↑a0.i8M.length:Int)))+v147)).toNat) [.bool true]=rows p0x c182 from by rw[u8j];first|exact u5d (E:=p0x) _ _ _|simp only[go_sem,rows,List.map_set])
       refine r1 ?_
       have e184:D.ref true (st.length+2) gs0.2.1 0 s0.2.1.length=D.ref true (st.length+2) gs0.2.1 0 c182.length:=by simp[u8j]
       try simp only[e184]
       obtain⟨fx,h⟩:=ck fx h
       have fy:=(show(rows p8C s0.2.2.1).getD ((wr .i64 ((wr .i64 ((↑a0.words.length:Int)+(↑a0.i8M.length:Int)))+v147)).toNat) []=p8C (get s0.2.2.1 ((wr .i64 ((wr .i64 ((↑a0.words.length:Int)+(↑a0.i8M.length:Int)))+v147)).toNat))from r0n (E:=p8C) (l:=s0.2.2.1) (k:=(wr .i64 ((wr .i64 ((↑a0.words.length:Int)+(↑a0.i8M.length:Int)))+v147)).toNat) (by first|omega|(simp;omega)))
       have fy:=fa fy (show(wr .i64 ((wr .i64 ((↑a0.words.length:Int)+(↑a0.i8M.length:Int)))+v147)).toNat<s0.2.2.1.length from by first|omega|(simp;omega))
       obtain⟨c188,u8k,h⟩:=p5L h
       have fy:=fa fy (show(rows p8C s0.2.2.1).set ((wr .i64 ((wr .i64 ((↑a0.words.length:Int)+(↑a0.i8M.length:Int)))+v147)).toNat) [.int .i64 s0.2.2.2.1]=rows p8C c188 from by rw[u8k];first|exact u5d (E:=p8C) _ _ _|simp only[go_sem,rows,List.map_set])
       refine r1 ?_
       have e190:D.ref true (st.length+3) gs0.2.2 0 s0.2.2.1.length=D.ref true (st.length+3) gs0.2.2 0 c188.length:=by simp[u8k]
       try simp only[e190]
       refine rs ?_
       obtain⟨fx,h⟩:=ck fx h
       refine dw [] 0 ?_
       obtain⟨v192,hv192,h⟩:=p3S h
       refine p3w (p8B n _ _ _ hv192) ?_
       obtain⟨fx,h⟩:=ck fx h
       have fy:=(show(rows i8H.cells s0.1).getD ((wr .i64 ((wr .i64 ((↑a0.words.length:Int)+(↑a0.i8M.length:Int)))+v147)).toNat) []=i8H.cells (get s0.1 ((wr .i64 ((wr .i64 ((↑a0.words.length:Int)+(↑a0.i8M.length:Int)))+v147)).toNat))from r0n (E:=i8H.cells) (l:=s0.1) (k:=(wr .i64 ((wr .i64 ((↑a0.words.length:Int)+(↑a0.i8M.length:Int)))+v147)).toNat) (by first|omega|(simp;omega)))
       have fy:=fa fy (show(wr .i64 ((wr .i64 ((↑a0.words.length:Int)+(↑a0.i8M.length:Int)))+v147)).toNat<s0.1.length from by first|omega|(simp;omega))
       obtain⟨c196,u8l,h⟩:=p5L h
       have fy:=fa fy (show(rows i8H.cells s0.1).set ((wr .i64 ((wr .i64 ((↑a0.words.length:Int)+(↑a0.i8M.length:Int)))+v147)).toNat) [.str (get v1 ((wr .i64 ((wr .i64 ((↑a0.words.length:Int)+(↑a0.i8M.length:Int)))+v147)).toNat)),.str [],.int .i64 v192.kind,.str v192.name,.sl false 1 16 (rows i8K v192.words),.sl false 4 72 (rows i8F.cells v192.subs)]=rows i8H.cells c196 from by rw[u8l];first|exact u5d (E:=i8H.cells) _ _ _|simp only[go_sem,rows,List.map_set])
       try simp only[go_sem,fx,fy]
       have e198:D.ref true (st.length+1) gs0.1 0 s0.1.length=D.ref true (st.length+1) gs0.1 0 c196.length:=by simp[u8l]
       try simp only[e198]
       refine hj7 (gs0.1,gs0.2.1,gs0.2.2) _ _ _ h ?_;exact(bm hsc)
      ·refine r0 ?_
       refine hj7 (gs0.1,gs0.2.1,gs0.2.2) _ _ _ h ?_;exact(bm hsc)
   ·refine rn ?_
    obtain⟨fx,h⟩:=ck fx h
    refine dw [] 0 ?_
    refine cd h (fun hc h=>?_) fun hc h=>?_
    ·refine ra ?_
     cases h
     refine p0T ?_;have h:=congrArg some (hx0 _ rfl)
     refine rr ?_
     exact fo (.tup [.sl false 6 104 (rows i8H.cells []),.sl false 1 8 (rows p8C []),.bool false]) (.tup _ _ (.cons _ _ _ _ (.i8S _ _ _ (by decide)) (.cons _ _ _ _ (.i8S _ _ _ (by decide)) (.cons _ _ _ _ .s .nil))) rfl) h hsc
    ·refine rn ?_
     refine p4c (i9f n s0 a1 v1 v8 a0) b0 (fun(gj8:Unit) (j8:Int)=>[(1,.sl false 5 80 (rows i8G.cells a1)),(3,.ptr st.length 0 0 0),(9,.sl false 1 16 (rows i8K v1)),(10,.int .i64 (↑a0.words.length:Int)),(11,.int .i64 (↑a0.i8M.length:Int)),(12,.int .i64 (↑a0.parts.length:Int)),(13,.ref true (st.length+1) gs0.1 0 s0.1.length),(14,.ref true (st.length+2) gs0.2.1 0 s0.2.1.length),(15,.ref true (st.length+3) gs0.2.2 0 s0.2.2.1.length),(16,.sl false 5 80 (rows i8G.cells v8)),(17,.int .i64 s0.2.2.2.1),(18,.int .i64 s0.2.2.2.2),(20,.int .i64 j8)]) (fun(gj8:Unit) (j8:Int)=>st++[some (.arr 0 7 0 [[.int .i64 a0.form.kind,.str a0.form.name,.sl false 1 16 (rows i8K a0.form.words),.sl false 4 72 (rows i8F.cells a0.form.subs),.sl false 1 16 (rows i8K a0.words),.sl false 1 16 (rows i8K a0.i8M),.sl false 1 16 (rows i8K a0.parts)]]),some (.arr gs0.1 6 104 (rows i8H.cells s0.1)),some (.arr gs0.2.1 1 1 (rows p0x s0.2.1)),some (.arr gs0.2.2 1 8 (rows p8C s0.2.2.1))]) (fun gj8 j8 fr1 st1 h hb=>?_) (fun hj8=>?_)
     ·try simp only[go_sem,fx]
      unfold i9f at h
      refine p0E hb ?_
      refine rn ?_
      refine p4c (i9H n v8 s0 a0 v1 a1) b0 (fun(gj9:Nat×Nat) (j9:(List i8H)×(List Bool))=>[(1,.sl false 5 80 (rows i8G.cells a1)),(3,.ptr st.length 0 0 0),(9,.sl false 1 16 (rows i8K v1)),(10,.int .i64 (↑a0.words.length:Int)),(11,.int .i64 (↑a0.i8M.length:Int)),(12,.int .i64 (↑a0.parts.length:Int)),(13,.ref true (st.length+1) gj9.1 0 j9.1.length),(14,.ref true (st.length+2) gj9.2 0 j9.2.length),(15,.ref true (st.length+3) gs0.2.2 0 s0.2.2.1.length),(16,.sl false 5 80 (rows i8G.cells v8)),(17,.int .i64 s0.2.2.2.1),(18,.int .i64 s0.2.2.2.2)]) (fun(gj9:Nat×Nat) (j9:(List i8H)×(List Bool))=>st++[some (.arr 0 7 0 [[.int .i64 a0.form.kind,.str a0.form.name,.sl false 1 16 (rows i8K a0.form.words),.sl false 4 72 (rows i8F.cells a0.form.subs),.sl false 1 16 (rows i8K a0.words),.sl false 1 16 (rows i8K a0.i8M),.sl false 1 16 (rows i8K a0.parts)]]),some (.arr gj9.1 6 104 (rows i8H.cells j9.1)),some (.arr gj9.2 1 1 (rows p0x j9.2)),some (.arr gs0.2.2 1 8 (rows p8C s0.2.2.1))]) (fun gj9 j9 fr1 st1 h hb=>?_) (fun hj9=>?_)
      ·try simp only[go_sem,fx]
       unfold i9H at h
       refine p0E hb ?_
       refine rn ?_
       refine i8V (body:=i9x n v8 s0 a0 v1 a1) (kk:=p1j s0) (n:=n) (s0:=(j9.1,j9.2,0))
        (fun(r4v:Nat×Nat) (s10:(List i8H)×(List Bool)×Int)=>[(1,.sl false 5 80 (rows i8G.cells a1)),(3,.ptr st.length 0 0 0),(9,.sl false 1 16 (rows i8K v1)),(10,.int .i64 (↑a0.words.length:Int)),(11,.int .i64 (↑a0.i8M.length:Int)),(12,.int .i64 (↑a0.parts.length:Int)),(13,.ref true (st.length+1) r4v.1 0 s10.1.length),(14,.ref true (st.length+2) r4v.2 0 s10.2.1.length),(15,.ref true (st.length+3) gs0.2.2 0 s0.2.2.1.length),(16,.sl false 5 80 (rows i8G.cells v8)),(17,.int .i64 s0.2.2.2.1),(18,.int .i64 s0.2.2.2.2),(21,.int .i64 s10.2.2)])
        (fun(r4v:Nat×Nat) (s10:(List i8H)×(List Bool)×Int)=>st++[some (.arr 0 7 0 [[.int .i64 a0.form.kind,.str a0.form.name,.sl false 1 16 (rows i8K a0.form.words),.sl false 4 72 (rows i8F.cells a0.form.subs),.sl false 1 16 (rows i8K a0.words),.sl false 1 16 (rows i8K a0.i8M),.sl false 1 16 (rows i8K a0.parts)]]),some (.arr r4v.1 6 104 (rows i8H.cells s10.1)),some (.arr r4v.2 1 1 (rows p0x s10.2.1)),some (.arr gs0.2.2 1 8 (rows p8C s0.2.2.1))])
        (fun(u4A:Nat×Nat) (t10:(List i8H)×(List Bool))=>[(1,.sl false 5 80 (rows i8G.cells a1)),(3,.ptr st.length 0 0 0),(9,.sl false 1 16 (rows i8K v1)),(10,.int .i64 (↑a0.words.length:Int)),(11,.int .i64 (↑a0.i8M.length:Int)),(12,.int .i64 (↑a0.parts.length:Int)),(13,.ref true (st.length+1) u4A.1 0 t10.1.length),(14,.ref true (st.length+2) u4A.2 0 t10.2.length),(15,.ref true (st.length+3) gs0.2.2 0 s0.2.2.1.length),(16,.sl false 5 80 (rows i8G.cells v8)),(17,.int .i64 s0.2.2.2.1),(18,.int .i64 s0.2.2.2.2)])
        (fun(u4A:Nat×Nat) (t10:(List i8H)×(List Bool))=>st++[some (.arr 0 7 0 [[.int .i64 a0.form.kind,.str a0.form.name,.sl false 1 16 (rows i8K a0.form.words),.sl false 4 72 (rows i8F.cells a0.form.subs),.sl false 1 16 (rows i8K a0.words),.sl false 1 16 (rows i8K a0.i8M),.sl false 1 16 (rows i8K a0.parts)]]),some (.arr u4A.1 6 104 (rows i8H.cells t10.1)),some (.arr u4A.2 1 1 (rows p0x t10.2)),some (.arr gs0.2.2 1 8 (rows p8C s0.2.2.1))])
        (gj9.1,gj9.2) h (bm hsc)
        (fun r4v s10 b10 h w1i=>?_) (fun u4A t10 fr1 st1 h hb=>?_)
       ·unfold i9x at h
        refine cd h (fun hc h=>?_) fun hc h=>?_
        ·obtain⟨fx,h⟩:=ck fx h
         obtain⟨fx,h⟩:=ck fx h
         refine rn ?_
         refine p4c (i8W s10 a1 s0 v1) b10 (fun(w1j:Unit) (j12:Int)=>[(1,.sl false 5 80 (rows i8G.cells a1)),(3,.ptr st.length 0 0 0),(9,.sl false 1 16 (rows i8K v1)),(10,.int .i64 (↑a0.words.length:Int)),(11,.int .i64 (↑a0.i8M.length:Int)),(12,.int .i64 (↑a0.parts.length:Int)),(13,.ref true (st.length+1) r4v.1 0 s10.1.length),(14,.ref true (st.length+2) r4v.2 0 s10.2.1.length),(15,.ref true (st.length+3) gs0.2.2 0 s0.2.2.1.length),(16,.sl false 5 80 (rows i8G.cells v8)),(17,.int .i64 s0.2.2.2.1),(18,.int .i64 s0.2.2.2.2),(20,.int .i64 j12),(21,.int .i64 s10.2.2)]) (fun(w1j:Unit) (j12:Int)=>st++[some (.arr 0 7 0 [[.int .i64 a0.form.kind,.str a0.form.name,.sl false 1 16 (rows i8K a0.form.words),.sl false 4 72 (rows i8F.cells a0.form.subs),.sl false 1 16 (rows i8K a0.words),.sl false 1 16 (rows i8K a0.i8M),.sl false 1 16 (rows i8K a0.parts)]]),some (.arr r4v.1 6 104 (rows i8H.cells s10.1)),some (.arr r4v.2 1 1 (rows p0x s10.2.1)),some (.arr gs0.2.2 1 8 (rows p8C s0.2.2.1))]) (fun w1j j12 fr1 st1 h hb=>?_) (fun u6l=>?_)
         ·try simp only[go_sem,fx]
          unfold i8W at h
          refine p0E hb ?_
          refine cd h (fun hc h=>?_) fun hc h=>?_
          ·refine rs ?_
           obtain⟨fx,h⟩:=ck fx h
           have fy:=(show(rows p0x s10.2.1).getD j12.toNat []=p0x (get s10.2.1 j12.toNat)from r0n (E:=p0x) (l:=s10.2.1) (k:=j12.toNat) (by first|omega|(simp;omega)))
           have fy:=fa fy (show j12.toNat<s10.2.1.length from by first|omega|(simp;omega))
           obtain⟨fx,h⟩:=ck fx h
           obtain⟨fx,h⟩:=ck fx h
           have fy:=fa fy (show(rows i8H.cells s10.1).getD j12.toNat []=i8H.cells (get s10.1 j12.toNat)from r0n (E:=i8H.cells) (l:=s10.1) (k:=j12.toNat) (by first|omega|(simp;omega)))
           have fy:=fa fy (show j12.toNat<s10.1.length from by first|omega|(simp;omega))
           obtain⟨fx,h⟩:=ck fx h
           refine dwy [] 0 ?_
           refine cd h (fun hc h=>?_) fun hc h=>?_
           ·refine ra ?_
            cases h
            refine p0T ?_;obtain rfl:=w1i _ rfl;try simp only[go_sem,fx]
            refine p0T ?_;have h:=congrArg some (hx0 _ rfl)
            refine rr ?_
            exact fo (.tup [.sl false 6 104 (rows i8H.cells []),.sl false 1 8 (rows p8C []),.bool false]) (.tup _ _ (.cons _ _ _ _ (.i8S _ _ _ (by decide)) (.cons _ _ _ _ (.i8S _ _ _ (by decide)) (.cons _ _ _ _ .s .nil))) rfl) h hsc
           ·refine r0 ?_
            have fy:=(show(rows p0x s10.2.1).getD j12.toNat []=p0x (get s10.2.1 j12.toNat)from r0n (E:=p0x) (l:=s10.2.1) (k:=j12.toNat) (by first|omega|(simp;omega)))
            have fy:=fa fy (show j12.toNat<s10.2.1.length from by first|omega|(simp;omega))
            obtain⟨c281,u8m,h⟩:=p5L h
            have fy:=fa fy (show(rows p0x s10.2.1).set j12.toNat [.bool true]=rows p0x c281 from by rw[u8m];first|exact u5d (E:=p0x) _ _ _|simp only[go_sem,rows,List.map_set])
            refine r1 ?_
            have e283:D.ref true (st.length+2) r4v.2 0 s10.2.1.length=D.ref true (st.length+2) r4v.2 0 c281.length:=by simp[u8m]
            try simp only[e283]
            refine rs ?_
            obtain⟨fx,h⟩:=ck fx h
            obtain⟨fx,h⟩:=ck fx h
            obtain⟨fx,h⟩:=ck fx h
            have fy:=(show(rows i8H.cells s10.1).getD j12.toNat []=i8H.cells (get s10.1 j12.toNat)from r0n (E:=i8H.cells) (l:=s10.1) (k:=j12.toNat) (by first|omega|(simp;omega)))
            have fy:=fa fy (show j12.toNat<s10.1.length from by first|omega|(simp;omega))
            obtain⟨c289,u8n,h⟩:=p5L h
            refine dwy [] 0 ?_
            have e290:D.ref true (st.length+1) r4v.1 0 s10.1.length=D.ref true (st.length+1) r4v.1 0 c289.length:=by simp[u8n]
            try simp only[e290]
            refine rn ?_
            cases h
            exact i9h (r4v.1,r4v.2) (bm hsc (hu:=(.lv (.live _ _ _ _ (.arr _ _ _ _ _ (r4n u8n (by rw[i8H.p3n];exact(.cons _ _ _ _ .s (.cons _ _ _ _ .s (.cons _ _ _ _ .s (.cons _ _ _ _ .s (.cons _ _ _ _ (.i8S _ _ _ (by decide)) (.cons _ _ _ _ (.i8S _ _ _ (by decide)) .nil))))))))) (.lv (.lv (.nil _)))))))
          ·refine rn ?_
           cases h
           exact i9h (r4v.1,r4v.2) (bm hsc)
         ·refine cd h (fun hc h=>?_) fun hc h=>?_
          ·obtain⟨fx,h⟩:=ck fx h
           refine cl h (i9e n _ _) fun v264 h=>?_
           try simp only[go_sem,fx]
           refine u6l () _ _ _ h ?_;exact(bm hsc)
          ·refine cl h (i9e n _ _) fun v265 h=>?_
           refine cd h (fun hc h=>?_) fun hc h=>?_
           ·refine cl h (i9e n _ _) fun v266 h=>?_
            try simp only[go_sem,fx]
            refine u6l () _ _ _ h ?_;exact(bm hsc)
           ·obtain⟨fx,h⟩:=ck fx h
            refine cd h (fun hc h=>?_) fun hc h=>?_
            ·refine ra ?_
             cases h
             refine p0T ?_;obtain rfl:=w1i _ rfl;try simp only[go_sem,fx]
             refine p0T ?_;have h:=congrArg some (hx0 _ rfl)
             refine rr ?_
             exact fo (.tup [.sl false 6 104 (rows i8H.cells []),.sl false 1 8 (rows p8C []),.bool false]) (.tup _ _ (.cons _ _ _ _ (.i8S _ _ _ (by decide)) (.cons _ _ _ _ (.i8S _ _ _ (by decide)) (.cons _ _ _ _ .s .nil))) rfl) h hsc
            ·refine r0 ?_
             refine u6l () _ _ _ h ?_;exact(bm hsc)
        ·refine rn ?_
         cases h
         exact i9r (r4v.1,r4v.2) (bm hsc)
       ·try simp only[go_sem,fx]
        unfold p1j at h
        refine p0E hb ?_
        refine rn ?_
        cases h
        exact i9h (u4A.1,u4A.2,gs0.2.2) (bm hsc)
      ·refine cd h (fun hc h=>?_) fun hc h=>?_
       ·refine rs ?_
        obtain⟨fx,h⟩:=ck fx h
        have fy:=(show(rows p0x s0.2.1).getD j8.toNat []=p0x (get s0.2.1 j8.toNat)from r0n (E:=p0x) (l:=s0.2.1) (k:=j8.toNat) (by first|omega|(simp;omega)))
        have fy:=fa fy (show j8.toNat<s0.2.1.length from by first|omega|(simp;omega))
        obtain⟨fx,h⟩:=ck fx h
        obtain⟨fx,h⟩:=ck fx h
        have fy:=fa fy (show(rows i8H.cells s0.1).getD j8.toNat []=i8H.cells (get s0.1 j8.toNat)from r0n (E:=i8H.cells) (l:=s0.1) (k:=j8.toNat) (by first|omega|(simp;omega)))
        have fy:=fa fy (show j8.toNat<s0.1.length from by first|omega|(simp;omega))
        refine dwy [] 0 ?_
        refine cd h (fun hc h=>?_) fun hc h=>?_
        ·refine ra ?_
         cases h
         refine p0T ?_;have h:=congrArg some (hx0 _ rfl)
         refine rr ?_
         exact fo (.tup [.sl false 6 104 (rows i8H.cells []),.sl false 1 8 (rows p8C []),.bool false]) (.tup _ _ (.cons _ _ _ _ (.i8S _ _ _ (by decide)) (.cons _ _ _ _ (.i8S _ _ _ (by decide)) (.cons _ _ _ _ .s .nil))) rfl) h hsc
        ·refine r0 ?_
         have fy:=(show(rows p0x s0.2.1).getD j8.toNat []=p0x (get s0.2.1 j8.toNat)from r0n (E:=p0x) (l:=s0.2.1) (k:=j8.toNat) (by first|omega|(simp;omega)))
         have fy:=fa fy (show j8.toNat<s0.2.1.length from by first|omega|(simp;omega))
         obtain⟨c219,u8o,h⟩:=p5L h
         have fy:=fa fy (show(rows p0x s0.2.1).set j8.toNat [.bool true]=rows p0x c219 from by rw[u8o];first|exact u5d (E:=p0x) _ _ _|simp only[go_sem,rows,List.map_set])
         refine r1 ?_
         have e221:D.ref true (st.length+2) gs0.2.1 0 s0.2.1.length=D.ref true (st.length+2) gs0.2.1 0 c219.length:=by simp[u8o]
         try simp only[e221]
         refine rs ?_
         obtain⟨fx,h⟩:=ck fx h
         obtain⟨fx,h⟩:=ck fx h
         have fy:=(show(rows i8H.cells s0.1).getD j8.toNat []=i8H.cells (get s0.1 j8.toNat)from r0n (E:=i8H.cells) (l:=s0.1) (k:=j8.toNat) (by first|omega|(simp;omega)))
         have fy:=fa fy (show j8.toNat<s0.1.length from by first|omega|(simp;omega))
         obtain⟨c226,u8p,h⟩:=p5L h
         refine dwy [] 0 ?_
         have e227:D.ref true (st.length+1) gs0.1 0 s0.1.length=D.ref true (st.length+1) gs0.1 0 c226.length:=by simp[u8p]
         try simp only[e227]
         refine hj9 (gs0.1,gs0.2.1) _ _ _ h ?_;exact(bm hsc (hu:=(.lv (.live _ _ _ _ (.arr _ _ _ _ _ (r4n u8p (by rw[i8H.p3n];exact(.cons _ _ _ _ .s (.cons _ _ _ _ .s (.cons _ _ _ _ .s (.cons _ _ _ _ .s (.cons _ _ _ _ (.i8S _ _ _ (by decide)) (.cons _ _ _ _ (.i8S _ _ _ (by decide)) .nil))))))))) (.lv (.lv (.nil _)))))))
       ·refine r0 ?_
        refine hj9 (gs0.1,gs0.2.1) _ _ _ h ?_;exact(bm hsc)
     ·refine cd h (fun hc h=>?_) fun hc h=>?_
      ·refine rs ?_
       obtain⟨fx,h⟩:=ck fx h
       refine dw [] 0 ?_
       obtain⟨v205,hv205,h⟩:=p3S h
       refine p3w (i9e n _ _ _ hv205) ?_
       try simp only[go_sem,fx]
       refine hj8 () _ _ _ h ?_;exact(bm hsc)
      ·refine rs ?_
       refine dw [] 0 ?_
       obtain⟨v206,hv206,h⟩:=p3S h
       refine p8L (fun hG=>(i9e n _ _ _ (r4k hv206 (by simpa using hG)))) ?_
       try simp only[go_sem,fx]
       refine cd h (fun hc h=>?_) fun hc h=>?_
       ·refine rs ?_
        refine dw [] 0 ?_
        obtain⟨v207,hv207,h⟩:=p3S h
        refine p3w (i9e n _ _ _ hv207) ?_
        try simp only[go_sem,fx]
        refine hj8 () _ _ _ h ?_;exact(bm hsc)
       ·refine rs ?_
        refine dw [] 0 ?_
        refine cd h (fun hc h=>?_) fun hc h=>?_
        ·refine ra ?_
         cases h
         refine p0T ?_;have h:=congrArg some (hx0 _ rfl)
         refine rr ?_
         exact fo (.tup [.sl false 6 104 (rows i8H.cells []),.sl false 1 8 (rows p8C []),.bool false]) (.tup _ _ (.cons _ _ _ _ (.i8S _ _ _ (by decide)) (.cons _ _ _ _ (.i8S _ _ _ (by decide)) (.cons _ _ _ _ .s .nil))) rfl) h hsc
        ·refine r0 ?_
         refine hj8 () _ _ _ h ?_;exact(bm hsc)
  ·refine rn ?_
   cases h
   exact i9r (gs0.1,gs0.2.2) (bm hsc)
 ·try simp only[go_sem,fx]
  unfold p0n at h
  refine p0E hb ?_
  refine rn ?_
  refine i8V (body:=p0d n a0 t0) (kk:=p1l t0) (n:=n) (s0:=0)
   (fun(w1k:Unit) (s13:Int)=>[(10,.int .i64 (↑a0.words.length:Int)),(11,.int .i64 (↑a0.i8M.length:Int)),(12,.int .i64 (↑a0.parts.length:Int)),(13,.ref true (st.length+1) gt0.1 0 t0.1.length),(15,.ref true (st.length+3) gt0.2 0 t0.2.length),(23,.int .i64 s13)])
   (fun(w1k:Unit) (s13:Int)=>st++[none,some (.arr gt0.1 6 104 (rows i8H.cells t0.1)),none,some (.arr gt0.2 1 8 (rows p8C t0.2))])
   (fun(w1l:Unit) (t13:Unit)=>[(13,.ref true (st.length+1) gt0.1 0 t0.1.length),(15,.ref true (st.length+3) gt0.2 0 t0.2.length)])
   (fun(w1l:Unit) (t13:Unit)=>st++[none,some (.arr gt0.1 6 104 (rows i8H.cells t0.1)),none,some (.arr gt0.2 1 8 (rows p8C t0.2))])
   () h (bm hsc)
   (fun w1k s13 b13 h w2O=>?_) (fun w1l t13 fr1 st1 h hb=>?_)
  ·unfold p0d at h
   refine cd h (fun hc h=>?_) fun hc h=>?_
   ·refine rn ?_
    refine i8V (body:=p0e t0 s13) (kk:=p1k s13) (n:=n) (s0:=(wr .i64 ((wr .i64 ((↑a0.words.length:Int)+(↑a0.i8M.length:Int)))+(↑a0.parts.length:Int))))
     (fun(w1m:Unit) (s15:Int)=>[(10,.int .i64 (↑a0.words.length:Int)),(11,.int .i64 (↑a0.i8M.length:Int)),(12,.int .i64 (↑a0.parts.length:Int)),(13,.ref true (st.length+1) gt0.1 0 t0.1.length),(15,.ref true (st.length+3) gt0.2 0 t0.2.length),(23,.int .i64 s13),(24,.int .i64 s15)])
     (fun(w1m:Unit) (s15:Int)=>st++[none,some (.arr gt0.1 6 104 (rows i8H.cells t0.1)),none,some (.arr gt0.2 1 8 (rows p8C t0.2))])
     (fun(w1n:Unit) (t15:Unit)=>[(10,.int .i64 (↑a0.words.length:Int)),(11,.int .i64 (↑a0.i8M.length:Int)),(12,.int .i64 (↑a0.parts.length:Int)),(13,.ref true (st.length+1) gt0.1 0 t0.1.length),(15,.ref true (st.length+3) gt0.2 0 t0.2.length),(23,.int .i64 s13)])
     (fun(w1n:Unit) (t15:Unit)=>st++[none,some (.arr gt0.1 6 104 (rows i8H.cells t0.1)),none,some (.arr gt0.2 1 8 (rows p8C t0.2))])
     () h (bm hsc)
     (fun w1m s15 b15 h w2P=>?_) (fun w1n t15 fr1 st1 h hb=>?_)
    ·unfold p0e at h
     refine cd h (fun hc h=>?_) fun hc h=>?_
     ·refine rn ?_
      obtain⟨fx,h⟩:=ck fx h
      have fy:=(show(rows i8H.cells t0.1).getD s13.toNat []=i8H.cells (get t0.1 s13.toNat)from r0n (E:=i8H.cells) (l:=t0.1) (k:=s13.toNat) (by first|omega|(simp;omega)))
      have fy:=fa fy (show s13.toNat<t0.1.length from by first|omega|(simp;omega))
      obtain⟨fx,h⟩:=ck fx h
      have fy:=fa fy (show(rows i8H.cells t0.1).getD s15.toNat []=i8H.cells (get t0.1 s15.toNat)from r0n (E:=i8H.cells) (l:=t0.1) (k:=s15.toNat) (by first|omega|(simp;omega)))
      have fy:=fa fy (show s15.toNat<t0.1.length from by first|omega|(simp;omega))
      refine dwy [] 0 ?_
      refine cd h (fun hc h=>?_) fun hc h=>?_
      ·refine ra ?_
       cases h
       refine p0T ?_;obtain rfl:=w2P _ rfl;try simp only[go_sem,fx]
       refine p0T ?_;have h:=congrArg some (w2O _ rfl)
       refine rr ?_
       exact fo (.tup [.sl false 6 104 (rows i8H.cells []),.sl false 1 8 (rows p8C []),.bool false]) (.tup _ _ (.cons _ _ _ _ (.i8S _ _ _ (by decide)) (.cons _ _ _ _ (.i8S _ _ _ (by decide)) (.cons _ _ _ _ .s .nil))) rfl) h hsc
      ·refine rn ?_
       cases h
       exact i9h () (bm hsc)
     ·refine rn ?_
      cases h
      exact i9r () (bm hsc)
    ·try simp only[go_sem,fx]
     unfold p1k at h
     refine p0E hb ?_
     refine rn ?_
     cases h
     exact i9h () (bm hsc)
   ·refine rn ?_
    cases h
    exact i9r () (bm hsc)
  ·try simp only[go_sem,fx]
   unfold p1l at h
   refine p0E hb ?_
   refine rr ?_
   exact fo (.tup [.sl false 6 104 (rows i8H.cells t0.1),.sl false 1 8 (rows p8C t0.2),.bool true]) (.tup _ _ (.cons _ _ _ _ (.ref _ _ _ _ _ _ _ _ _ (r0c.trans rfl) r7l (by decide) (p9b _) (by simp only[go_sem])) (.cons _ _ _ _ (.ref _ _ _ _ _ _ _ _ _ (r0c.trans rfl) r7l (by decide) (p9b _) (by simp only[go_sem])) (.cons _ _ _ _ .s .nil))) rfl) h hsc
end Go.Proofs.YtdjnbjnlnjhllaaGreatDoor
