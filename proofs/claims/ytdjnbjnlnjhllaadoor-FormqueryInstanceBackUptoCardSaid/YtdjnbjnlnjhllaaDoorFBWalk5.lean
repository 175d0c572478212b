import Derived.Test.YtdjnbjnlnjhllaaDoorFBWalk4
set_option linter.unusedVariables false
set_option linter.unusedSimpArgs false
set_option maxHeartbeats 2000000
set_option maxRecDepth 100000
namespace Go.Proofs.YtdjnbjnlnjhllaaDoor
open Go Go.Am
theorem RI(n:Nat)(r:Bool)(h:MK n=some r):Pure Tryd.prog gl 7 [] (.bool r):=by
 intro st
 unfold MK at h
 have fx:=trivial
 refine fb 79 [.tmp 0] [0,1,2,3,4,5,6,7,8,39,40,41,44,47,48,49,52,53,54,55,56,57,60,61,62,63,64,65,68,69,70,73,74,75,76,77] Tryd.func7 fun hsc=>?_
 refine cl h (up (RJ _ _) (fun _=>(.cons _ _ _ _ .s (.cons _ _ _ _ (.Mk _ _ _ (by decide)) .nil)))) fun v1 h=>?_
 refine cl h (up (RJ _ _) (fun _=>(.cons _ _ _ _ .s (.cons _ _ _ _ (.Mk _ _ _ (by decide)) .nil)))) fun v2 h=>?_
 refine cl h (Qc _ _ _) fun v3 h=>?_
 refine r0 ?_
 refine r0 ?_
 (repeat apply sq_)
 refine Ql (F:=[(1,.ptr st.length 0 0 0),(2,.ptr (st.length+1) 0 0 0),(3,.ptr (st.length+3) 0 0 0)]) (T:=st++[some (.arr 0 7 0 [[.int .i64 v3.kind,.str v3.name,.sl false 1 16 (rows Me v3.words),.sl false 4 72 (rows LZ.cells v3.subs),.Mk,.Mk,.sl false 1 16 [[.str [112]],[.str [113]]]]]),some (.arr 0 4 0 [[.int .i64 1,.str [],.Mk,.Mk]]),some (.arr 0 4 72 (rows LZ.cells [(LZ.mk 1 [] [] [])])),some (.arr 0 4 0 [[.int .i64 4,.str [],.Mk,.ref true (st.length+2) 0 0 1]])]) (d7N hsc (.lv (.lv (.live _ _ _ _ (.arr _ _ _ _ _ (.cons _ _ _ _ (.cons _ _ _ _ .s (.cons _ _ _ _ .s (.cons _ _ _ _ (.Mk _ _ _ (by decide)) (.cons _ _ _ _ (.Mk _ _ _ (by decide)) .nil)))) .nil)) (.lv (.nil _))))) (by simp) ⟨.s,.s,.s,trivial⟩ (by simp)) ?_
 (repeat apply sq_)
 refine Ql (F:=[(1,.ptr st.length 0 0 0),(2,.ptr (st.length+1) 0 0 0),(3,.ptr (st.length+3) 0 0 0)]) (T:=st++[some (.arr 0 7 0 [[.int .i64 v3.kind,.str v3.name,.sl false 1 16 (rows Me v3.words),.sl false 4 72 (rows LZ.cells v3.subs),.Mk,.Mk,.sl false 1 16 [[.str [112]],[.str [113]]]]]),some (.arr 0 4 0 [[.int .i64 1,.str [],.Mk,.Mk]]),none,some (.arr 0 4 0 [[.int .i64 4,.str [],.Mk,.sl false 4 72 (rows LZ.cells [(LZ.mk 1 [] [] [])])]])]) (d7N hsc (.lv (.lv (.dead _ _ _ (.live _ _ _ _ (.arr _ _ _ _ _ (.cons _ _ _ _ (.cons _ _ _ _ .s (.cons _ _ _ _ .s (.cons _ _ _ _ .s (.cons _ _ _ _ (.ref _ _ _ _ _ _ _ _ _ (d2t.trans rfl) (Xv.trans rfl) (by decide) (ZJ _) (by simp only[go_sem])) .nil)))) (.same _))) (.nil _))))) (by simp) ⟨.s,.s,.s,trivial⟩ (by simp)) ?_
 refine rs ?_
 refine dw [] 1 ?_
 obtain⟨v6,hv6,h⟩:=QJ h
 refine Pt ((Qc _ _ _ _ hv6).up (fun _=>(.cons _ _ _ _ .s (.cons _ _ _ _ (.agg _ _ (.cons _ _ _ _ .s (.cons _ _ _ _ .s (.cons _ _ _ _ (.Mk _ _ _ (by decide)) (.cons _ _ _ _ (.Mk _ _ _ (by decide)) .nil))))) (.cons _ _ _ _ (.agg _ _ (.cons _ _ _ _ .s (.cons _ _ _ _ .s (.cons _ _ _ _ (.Mk _ _ _ (by decide)) (.cons _ _ _ _ .s .nil))))) .nil)))) (.inr fun n=>by simp)) ?_
 try simp only[go_sem,fx]
 obtain⟨v7,hv7,h⟩:=QJ h
 refine Pt ((Ul n _ _ _ hv7).up (fun _=>(.cons _ _ _ _ (.agg _ _ (.cons _ _ _ _ .s (.cons _ _ _ _ .s (.cons _ _ _ _ .s (.cons _ _ _ _ .s (.cons _ _ _ _ (.Mk _ _ _ (by decide)) (.cons _ _ _ _ (.Mk _ _ _ (by decide)) (.cons _ _ _ _ .s .nil)))))))) (.cons _ _ _ _ .s .nil))) (.inr fun n=>by simp)) ?_
 try simp only[go_sem,fx]
 refine rs ?_
 refine dw [] 1 ?_
 obtain⟨v8,hv8,h⟩:=QJ h
 refine Pt ((Qc _ _ _ _ hv8).up (fun _=>(.cons _ _ _ _ .s (.cons _ _ _ _ (.agg _ _ (.cons _ _ _ _ .s (.cons _ _ _ _ .s (.cons _ _ _ _ (.Mk _ _ _ (by decide)) (.cons _ _ _ _ (.Mk _ _ _ (by decide)) .nil))))) (.cons _ _ _ _ (.agg _ _ (.cons _ _ _ _ .s (.cons _ _ _ _ .s (.cons _ _ _ _ (.Mk _ _ _ (by decide)) (.cons _ _ _ _ .s .nil))))) .nil)))) (.inr fun n=>by simp)) ?_
 try simp only[go_sem,fx]
 obtain⟨v9,hv9,h⟩:=QJ h
 refine Pt ((Yg n _ _ _ hv9).up (fun _=>(.cons _ _ _ _ (.agg _ _ (.cons _ _ _ _ .s (.cons _ _ _ _ .s (.cons _ _ _ _ .s (.cons _ _ _ _ .s (.cons _ _ _ _ (.Mk _ _ _ (by decide)) (.cons _ _ _ _ (.Mk _ _ _ (by decide)) (.cons _ _ _ _ .s .nil)))))))) (.cons _ _ _ _ .s .nil))) (.inr fun n=>by simp)) ?_
 try simp only[go_sem,fx]
 refine rs ?_
 obtain⟨fx,h⟩:=ck fx h
 refine dw [] 0 ?_
 obtain⟨v12,hv12,h⟩:=QJ h
 refine d3Y (fun hG=>((OJ n _ _ _ (d3Z hv12 (by simpa using hG))).up (fun _=>(.cons _ _ _ _ .s (.cons _ _ _ _ (.agg _ _ (.cons _ _ _ _ .s (.cons _ _ _ _ .s (.cons _ _ _ _ (.Mk _ _ _ (by decide)) (.cons _ _ _ _ (.Mk _ _ _ (by decide)) .nil))))) .nil))) (.inr fun n=>by simp))) ?_
 obtain⟨fx,h⟩:=ck fx h
 try simp only[go_sem,fx]
 obtain⟨v15,hv15,h⟩:=QJ h
 refine d3Y (fun hG=>((OJ n _ _ _ (d3Z hv15 (by simpa using hG))).up (fun _=>(.cons _ _ _ _ .s (.cons _ _ _ _ (.agg _ _ (.cons _ _ _ _ .s (.cons _ _ _ _ .s (.cons _ _ _ _ (.Mk _ _ _ (by decide)) (.cons _ _ _ _ .s .nil))))) .nil))) (.inr fun n=>by simp))) ?_
 obtain⟨fx,h⟩:=ck fx h
 try simp only[go_sem,fx]
 exact rt
end Go.Proofs.YtdjnbjnlnjhllaaDoor
