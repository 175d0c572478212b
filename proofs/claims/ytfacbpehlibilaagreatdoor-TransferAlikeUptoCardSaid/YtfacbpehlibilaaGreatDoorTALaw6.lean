import Derived.Test.YtfacbpehlibilaaGreatDoorTALaw5
set_option linter.unusedVariables false
set_option linter.unusedSimpArgs false
namespace Go.Proofs.YtfacbpehlibilaaGreatDoor
open Go Go.Am
theorem r0w{f:Lr}(hs:SmF f)(hn:ndF f≤1000){Q:List Bs}(hQ:Q.Nodup)(hsub:∀q∈Q,q∈d7f f []){l:List Wp}(h:l.map (·.at_)=Q.map fun q=>(assoc q (i1M (d7f f []) 0)).getD default):p9a l:=by
 have hnd:=i0G f [] hs
 have key:∀q∈Q,∃j,j<ndF f∧Am.get (d7f f []) j=q∧(assoc q (i1M (d7f f []) 0)).getD default=(j:Int):=fun q hq=>by
  obtain⟨j,hj,e⟩:=d1g.1 (hsub q hq)
  refine⟨j,by rw[←d9o f []];exact hj,e,?_⟩
  rw[←e,i1N _ 0 j hnd hj,Nat.zero_add]
  rfl
 refine⟨fun x hx=>?_,?_⟩
 ·have:x.at_∈l.map (·.at_):=List.mem_map.2 ⟨x,hx,rfl⟩
  rw[h]at this
  obtain⟨q,hq,e⟩:=List.mem_map.1 this
  obtain⟨j,hj,_,e2⟩:=key q hq
  rw[←e,e2]
  exact⟨by omega,by omega⟩
 ·rw[h]
  refine List.pairwise_map.2 (hQ.imp_of_mem fun {x y} hx hy hne e=>?_)
  obtain⟨i,_,e1,e2⟩:=key x hx
  obtain⟨j,_,e3,e4⟩:=key y hy
  rw[e2,e4]at e
  have:i=j:=by omega
  subst this
  exact hne (e1.symm.trans e3)
theorem p5z{rs:List Wq}(hr:∀r∈rs,i4A r)(hrl:rs.length≤1000000){f:Lr}(h:OkF f):Evt (fun n=>Yo n rs f) (fun x=>SmF x.1):=by
 have hn:=h.2.1
 have hq:=i0r f
 have har:=WfF.ar f h.1
 have hsm:=WfF.sm f h.1
 have hag:ArF (ren qn f [] 0):=ArF.ren qn f [] 0 har
 have hsg:SmF (ren qn f [] 0):=ArF.sm _ hag
 have hgn:ndF (ren qn f [] 0)=ndF f:=p0s qn f [] 0
 unfold Yo
 refine Evt.bind (i2Q _ f (Nat.le_refl _) hsm _ 0 [] [] (by omega)) fun v1 hv1=>?_
 subst hv1
 refine Evt.bind (i8s _ _ (Nat.le_refl _) hsg [] _ _ [] [] (by simp;omega) (fun q hq=>by cases hq)) fun v2 hv2=>?_
 subst hv2
 refine Evt.bind (p1v hr hrl _ _ (Nat.le_refl _) hag [] (0+nq f) _ [] (by simp;omega) (by simp;omega) (by omega)) fun v3 hv3=>?_
 refine Evt.cond (fun _=>Evt.pure smz) (fun e=>?_)
 obtain⟨h1,Q,hQ,hQs⟩:=hv3 (by simpa using e)
 obtain⟨hs,e1,e2⟩:=hQ.app
 have hl:=d9q hQ.nd hQs
 have hl2:=hQ.len
 rw[d9o]at hl
 rw[e1,List.nil_append]
 rw[e1,List.nil_append]at hl2
 simp only[List.length_nil]at hl2
 refine Evt.bind (P:=fun _=>True) ?_ fun v4 _=>Evt.bind (p0N (ArF.sm _ h1.ar) h1.nd) fun v6 hv6=>Evt.pure ?_
 ·unfold WW
  exact Evt.chk ⟨by omega,r0w hsg (by omega) hQ.nd hQs e2⟩ (Evt.pure trivial)
 ·subst hv6
  exact ArF.sm _ (ArF.ren _ _ _ _ h1.ar)
theorem p3k{f:Lr}(h:OkF f):ren qn (cf f) [] 0=ren qn f [] 0:=by
 obtain⟨C,_,hC⟩:=i7e h
 have hC2:∀x,fre f [] x→x∈C:=fun x=>(hC x).1
 exact p0S (NN (fre f [])) qn (fre f []) (fun i j h=>p8b hC2 h) (fun i=>p8a hC2 i) f [] [] [] 0 0 (fun x hx=>hx) (fun p hp=>by cases hp) (fun w _=>by rw[d8i])
theorem p3l{α:Type}{x y:Nat→Option α}{r:α}(h:Evt x (fun v=>v=r))(k:Evt y (fun v=>v=r)):∃N,∀n,N≤n→y n=x n:=by
 obtain⟨_,rfl,N,hN⟩:=h
 obtain⟨_,rfl,M,hM⟩:=k
 exact⟨N+M,fun n hn=>by rw[hN n (by omega),hM n (by omega)]⟩
theorem p3m(rs:List Wq){f:Lr}(h:OkF f):∃N,∀n,N≤n→Yo n rs (cf f)=Yo n rs f:=by
 have hn:=h.2.1
 have hq:=i0r f
 have hc:=p5k h
 have hqc:nq (cf f)=nq f:=i4c _ f [] 0
 have h1:=i2Q _ f (Nat.le_refl _) (WfF.sm f h.1) rs 0 [] [] (by omega)
 have h2:=i2Q _ (cf f) (Nat.le_refl _) (WfF.sm _ hc.1) rs 0 [] [] (by omega)
 rw[p3k h,hqc]at h2
 obtain⟨N,hN⟩:=p3l h1 h2
 refine⟨N,fun n hn=>?_⟩
 have:=hN n hn
 unfold Yo
 simp only[Int.natCast_zero,Int.ofNat_zero]at this
 rw[this]
theorem p3n{rs:List Wq}(hb:∀r∈rs,SB r.from_):∃v:WC,(v.code=0→rs.length≤40∧∀r∈rs,i4A r)∧∀f,OkF f→Evt (fun n=>ZU n rs f) (fun r=>r=v):=by
 obtain⟨v,hv,hv2⟩:=(i4C hb).eq
 by_cases hz:v.code=0
 ·refine⟨⟨0,0⟩,fun _=>hv hz,fun f h=>?_⟩
  unfold ZU
  refine Evt.bind hv2 fun r hr=>?_
  subst hr
  refine Evt.cond (fun e=>by simp[hz]at e) (fun e=>Evt.bind (d1j f) fun w hw=>Evt.pure ?_)
  rw[hw,i0s h]
 ·refine⟨v,hv,fun f h=>?_⟩
  unfold ZU
  refine Evt.bind hv2 fun r hr=>?_
  subst hr
  exact Evt.cond (fun _=>Evt.pure rfl) (fun e=>absurd (by simpa using e) hz)
theorem i3d{rs:List Wq}{f:Lr}{v:WC}(hc:Evt (fun n=>ZU n rs f) (fun r=>r=v)){w:Lr×List Wp×Bool}(hw:v.code=0→Evt (fun n=>Yo n rs f) (fun r=>r=w)):Evt (fun n=>Zg n rs f) (fun r=>r=if v.code=0 then(if w.2.2=true then(w.1,⟨0,0⟩)else(zf,⟨1,0⟩))else(zf,v)):=by
 unfold Zg Xr
 refine Evt.bind hc fun r hr=>?_
 subst hr
 by_cases hz:r.code=0
 ·rw[if_pos hz]
  refine Evt.cond (fun e=>by simp[hz]at e) (fun _=>Evt.bind (hw hz) fun x hx=>?_)
  subst hx
  refine Evt.cond (fun e=>Evt.pure ?_) (fun e=>Evt.pure ?_)
  ·have e:x.2.2=false:=by simpa using e
   rw[if_neg (by rw[e];decide)]
   rfl
  ·have e:x.2.2=true:=by simpa using e
   rw[if_pos e]
 ·rw[if_neg hz]
  exact Evt.cond (fun _=>Evt.pure rfl) (fun e=>absurd (by simpa using e) hz)
theorem p1w{rs:List Wq}(hb:∀r∈rs,SB r.from_){f:Lr}(h:OkF f):∃x:Lr×WC,SmF x.1∧Evt (fun n=>Zg n rs f) (fun r=>r=x)∧Evt (fun n=>Zg n rs (cf f)) (fun r=>r=x):=by
 obtain⟨v,hv,hc⟩:=p3n hb
 by_cases hz:v.code=0
 ·obtain⟨hl,hr⟩:=hv hz
  obtain⟨w,hw,hw2⟩:=(p5z hr (by omega) h).eq
  obtain⟨M,hM⟩:=p3m rs h
  have hw3:Evt (fun n=>Yo n rs (cf f)) (fun r=>r=w):=by
   obtain⟨_,rfl,N,hN⟩:=hw2
   exact⟨_,rfl,N+M,fun n hn=>by
    show Yo n rs (cf f)=_
    rw[hM n (by omega)]
    exact hN n (by omega)⟩
  refine⟨_,?_,i3d (hc f h) fun _=>hw2,i3d (hc _ (p5k h)) fun _=>hw3⟩
  rw[if_pos hz]
  by_cases hb2:w.2.2=true
  ·rw[if_pos hb2];exact hw
  ·rw[if_neg hb2];exact smz
 ·have hw:v.code=0→Evt (fun n=>Yo n rs f) (fun r=>r=(zf,[],false)):=fun e=>absurd e hz
  have hw2:v.code=0→Evt (fun n=>Yo n rs (cf f)) (fun r=>r=(zf,[],false)):=fun e=>absurd e hz
  refine⟨_,?_,i3d (hc f h) hw,i3d (hc _ (p5k h)) hw2⟩
  rw[if_neg hz]
  exact smz
theorem p0g{rs:List Wq}(hb:∀r∈rs,SB r.from_)(f:Lr):Evt (fun n=>Yh n rs f) (fun b=>b=true):=by
 unfold Yh
 refine Evt.bind d7E fun v hv=>?_
 subst hv
 refine Evt.cond (fun e=>by cases e) (fun _=>?_)
 refine Evt.bind (i2S f) fun v2 h2=>?_
 by_cases hok:OkF f
 ·obtain rfl:=h2.2 hok
  obtain⟨x,hx,h3,h4⟩:=p1w hb hok
  refine Evt.cond (fun e=>by simp at e) (fun _=>Evt.bind h3 fun v3 e3=>Evt.bind h4 fun v4 e4=>?_)
  subst e3 e4
  refine Evt.bind (P:=fun v=>v=true) (Evt.gd (fun _=>i2N _ _ (Nat.le_refl _) hx) (fun e=>by simp at e)) fun v5 e5=>Evt.pure ?_
  subst e5
  simp
 ·obtain rfl:=h2.1 hok
  have hne:=p0Q hok
  exact Evt.cond (fun _=>Evt.pure rfl) (fun e=>by simp[hne]at e)
end Go.Proofs.YtfacbpehlibilaaGreatDoor
