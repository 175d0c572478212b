import Derived.Lib.ValidLaws
import Derived.Lib.RuneCount
import Derived.Lib.IndexAny
import Derived.Test.YtoekkdodipnmpaaGreatDoorSLaw1
set_option linter.unusedVariables false
set_option linter.unusedSimpArgs false
namespace Go.Proofs.YtoekkdodipnmpaaGreatDoor
open Go Go.Am
def FB(T:List gW):Prop:=∀r∈T,r.kind=1∨r.kind=3→∃k,SOk r.typ k∧k≤200
theorem Hi{t:w6}{b n:Nat}(h:WfT b t n):∀ {T:List gW} {up:Int} {i:Nat},Tab t up i T→FB T:=by
 induction h with
 |con b t k h hs hk h0=>
  intro T up i hT
  cases hT with
  |leaf _ _ _ _=>intro r hr _;rw[List.mem_singleton]at hr;subst hr;exact⟨k,hs,hk⟩
  |one _ u _ _ T h1 _=>rw[h0]at h1;cases h1
  |two _ u v _ _ T U h1 _ _=>rw[h0]at h1;cases h1
 |var b t h hi h0=>
  intro T up i hT
  cases hT with
  |leaf _ _ _ _=>intro r hr hk;rw[List.mem_singleton]at hr;subst hr;simp only[rowOf]at hk;omega
  |one _ u _ _ T h1 _=>rw[h0]at h1;cases h1
  |two _ u v _ _ T U h1 _ _=>rw[h0]at h1;cases h1
 |abs b t u k n h hs hk h0 hu0 ih=>
  intro T up i hT
  cases hT with
  |leaf _ _ _ h1=>rw[h0]at h1;cases h1
  |one _ u' _ _ T h1 hT=>
   rw[h0]at h1;cases h1
   intro r hr hk2
   rcases List.mem_cons.1 hr with rfl|hr
   ·exact⟨k,hs,hk⟩
   ·exact ih hT r hr hk2
  |two _ u v _ _ T U h1 _ _=>rw[h0]at h1;cases h1
 |app b t u v n m h h0 hu0 hv0 ihu ihv=>
  intro T up i hT
  cases hT with
  |leaf _ _ _ h1=>rw[h0]at h1;cases h1
  |one _ u' _ _ T h1 hT=>rw[h0]at h1;cases h1
  |two _ u' v' _ _ T U h1 hT hU=>
   rw[h0]at h1;cases h1
   intro r hr hk
   rcases List.mem_cons.1 hr with rfl|hr
   ·simp only[rowOf]at hk;omega
   ·rcases List.mem_append.1 hr with hr|hr
    ·exact ihu hT r hr hk
    ·exact ihv hU r hr hk
structure wK(W:List gW)(ty:List u0)(i:Nat):Prop where
 len:ty.length=W.length
 typ:∀j,i≤j→j<W.length→∀u ctx m,Node W j u ctx m→jB ctx u=some (Am.get ty j)
 ok:∀j,i≤j→j<W.length→∃k,SOk (Am.get ty j) k∧k≤201*(W.length-j)
theorem wK.set{W:List gW}{ty:List u0}{i:Nat}{s:u0}(h:wK W ty (i+1))(hi:i<W.length)(h1:∀u ctx m,Node W i u ctx m→jB ctx u=some s)(h2:∃k,SOk s k∧k≤201*(W.length-i)):wK W (ty.set i s) i:=by
 obtain⟨a,b,c⟩:=h
 refine⟨by simp[a],fun j hj hj2 u ctx m hn=>?_,fun j hj hj2=>?_⟩
 ·rw[S1]
  by_cases e:i=j
  ·subst e;rw[if_pos ⟨rfl,by omega⟩];exact h1 u ctx m hn
  ·rw[if_neg (by omega)];exact b j (by omega) hj2 u ctx m hn
 ·rw[S1]
  by_cases e:i=j
  ·subst e;rw[if_pos ⟨rfl,by omega⟩];exact h2
  ·rw[if_neg (by omega)];exact c j (by omega) hj2
theorem eB{W:List gW}{i:Nat}{u:w6}{ctx:List u0}{m:Nat}(h:Node W i u ctx m):(Am.get W i).kind=u.kind∧(Am.get W i).typ=u.type∧(1≤u.kind∧u.kind≤4)∧i<W.length:=by
 cases h with
 |con _ _ _ up h e hl=>rw[e];exact⟨rfl,rfl,by omega,hl⟩
 |var _ _ _ up h hi e hl hu hup=>rw[e];exact⟨rfl,rfl,by omega,hl⟩
 |abs _ _ u _ up n h h0 e hl hu=>rw[e];exact⟨rfl,rfl,by omega,hl⟩
 |app _ _ u v _ up n m h h0 e hl hu hv=>rw[e];exact⟨rfl,rfl,by omega,hl⟩
theorem zO{W:List gW}{i:Nat}{t:w6}{ctx:List u0}{m:Nat}(h:Node W i t ctx m)(hk:t.kind=3):(Am.get W i).kids=[((i+1:Nat):Int)]∧i+1<W.length∧∃u n,Node W (i+1) u (ctx++[t.type]) n∧jB ctx t=Ib t.type [jB (ctx++[t.type]) u]:=by
 cases h with
 |con _ _ _ up h e hl=>omega
 |var _ _ _ up h hi e hl hu hup=>omega
 |abs _ _ u _ up n h h0 e hl hu=>rw[e];exact⟨rfl,(eB hu).2.2.2,u,n,hu,CP h h0⟩
 |app _ _ u v _ up n m h h0 e hl hu hv=>omega
theorem zP{W:List gW}{i:Nat}{t:w6}{ctx:List u0}{m:Nat}(h:Node W i t ctx m)(hk:t.kind=4):∃n,(Am.get W i).kids=[((i+1:Nat):Int),((i+1+n:Nat):Int)]∧(i+1<W.length∧i+1+n<W.length)∧∃u v q,Node W (i+1) u ctx n∧Node W (i+1+n) v ctx q∧jB ctx t=yK [jB ctx u,jB ctx v]:=by
 cases h with
 |con _ _ _ up h e hl=>omega
 |var _ _ _ up h hi e hl hu hup=>omega
 |abs _ _ u _ up n h h0 e hl hu=>omega
 |app _ _ u v _ up n m h h0 e hl hu hv=>rw[e];exact⟨n,rfl,⟨(eB hu).2.2.2,(eB hv).2.2.2⟩,u,v,m,hu,hv,yM h h0⟩
theorem EH{W:List gW}{i:Nat}{t:w6}{ctx:List u0}{m:Nat}(h:Node W i t ctx m)(hk:t.kind=1):jB ctx t=some t.type:=by
 rw[dD,if_pos hk]
theorem UpC.len{W:List gW}{up:Int}{ctx:List u0}(h:UpC W up ctx):(ctx.length:Int)≤up+1:=by
 induction h with
 |top=>simp
 |abs i ctx hi hk hu h ih=>simp only[List.length_append,List.length_cons,List.length_nil];omega
 |app i ctx hi hk hu h ih=>omega
theorem zQ{W:List gW}{i:Nat}{t:w6}{ctx:List u0}{m:Nat}(h:Node W i t ctx m)(hk:t.kind=2)(hl:W.length≤1000):Evt (fun n=>O1 n W i) (fun p=>(0≤p∧p<W.length∧(Am.get W p.toNat).kind=3)∧jB ctx t=some (Am.get W p.toNat).typ):=by
 cases h with
 |con _ _ _ up h e hl=>omega
 |var _ _ _ up h hi e hl2 hu hup=>
  have:=hu.len
  exact(CQ e hl2 hi (by omega) hu).mono fun p hp=>⟨hp.1,by rw[dD,if_neg (by omega),if_pos hk,hp.2]⟩
 |abs _ _ u _ up n h h0 e hl hu=>omega
 |app _ _ u v _ up n m h h0 e hl hu hv=>omega
theorem Evt.uniq{α:Type}{x:Nat→Option α}{P:α→Prop}{r:α}(h:Evt x (fun a=>a=r))(k:Evt x P):P r:=by
 obtain⟨a,rfl,N,hN⟩:=h
 obtain⟨b,hb,M,hM⟩:=k
 have h1:=hN (max N M) (by omega)
 have h2:=hM (max N M) (by omega)
 rw[h1]at h2
 cases h2
 exact hb
theorem wL{W:List gW}{t:w6}{n:Nat}{ty:List u0}{i:Nat}(hr:FB W)(hw:W.length≤1000)(hT:Node W 0 t [] n)(hn:n=W.length)(hi:i<W.length)(h:wK W ty (i+1)):
 Evt (fun k=>J7 k W (ty,(i:Int))) (Ew (fun s=>wK W s.1 i∧s.2=(i:Int)-1) (fun _=>False) (fun r=>r.2=false∧jB [] t=none)):=by
 obtain⟨u,ctx,m,hN,hS⟩:=Hg hT i (by omega) (by omega)
 obtain⟨hk,PS,hk4,_⟩:=eB hN
 have hlen:=h.len
 have hw1:wr .i64 ((i:Int)-1)=(i:Int)-1:=N9 (by omega) (by omega)
 unfold J7
 simp only[Int.toNat_natCast,hw1]
 refine Evt.cond (fun _=>Evt.chk (by omega) ?_) (fun e=>?_)
 ·refine Evt.cond (fun e=>?_) (fun e=>Evt.cond (fun e2=>?_) (fun e2=>Evt.cond (fun e3=>?_) (fun e3=>Evt.cond (fun e4=>?_) (fun e4=>?_))))
  ·replace e:=bx e
   obtain⟨k,hk1,hk2⟩:=hr _ (get_mem hi) (.inl e)
   refine Evt.chk (by omega) (Evt.cR (Evt.pure ⟨h.set hi (fun u' ctx' m' h'=>?_) ⟨k,hk1,by omega⟩,rfl⟩))
   rw[(eB h').2.1]
   exact EH h' (by rw[←(eB h').1];exact e)
  ·replace e2:=bx e2
   obtain⟨p,hp,hpe⟩:=(zQ hN (by rw[←hk];exact e2) hw).eq
   refine Evt.bind hpe fun q hq=>?_
   subst hq
   obtain⟨⟨p0,p1,p3⟩,_⟩:=hp
   obtain⟨k,hk1,hk2⟩:=hr _ (get_mem (l:=W) (k:=q.toNat) (by omega)) (.inr p3)
   refine Evt.chk ⟨p0,p1⟩ (Evt.chk (by omega) (Evt.cR (Evt.pure ⟨h.set hi (fun u' ctx' m' h'=>?_) ⟨k,hk1,by omega⟩,rfl⟩)))
   exact(Evt.uniq hpe (zQ h' (by rw[←(eB h').1];exact e2) hw)).2
  ·replace e3:=bx e3
   obtain⟨EI,hi1,u1,n1,hN1,hty⟩:=zO hN (by rw[←hk];exact e3)
   have g0:Am.get [((i+1:Nat):Int)] 0=((i+1:Nat):Int):=rfl
   obtain⟨k,hk1,hk2⟩:=hr _ (get_mem hi) (.inr e3)
   obtain⟨k',hk1',hk2'⟩:=h.ok (i+1) (by omega) hi1
   simp only[EI,g0,Int.toNat_natCast,cD,Option.bind_some]
   refine Evt.chk (by simp) (Evt.chk (by omega) (Evt.chk (by omega) (Evt.cR (Evt.pure ⟨h.set hi (fun u' ctx' m' h'=>?_) ⟨_,.node _ _ _ _ _ rfl rfl hk1 hk1',by omega⟩,rfl⟩))))
   obtain⟨_,_,u2,n2,hN2,Oa⟩:=zO h' (by rw[←(eB h').1];exact e3)
   rw[Oa,h.typ (i+1) (by omega) hi1 _ _ _ hN2,(eB h').2.1]
   rfl
  ·replace e4:=bx e4
   obtain⟨n1,EI,⟨hi1,hi2⟩,u1,v1,q1,hN1,hN2,hty⟩:=zP hN (by rw[←hk];exact e4)
   have g0:Am.get [((i+1:Nat):Int),((i+1+n1:Nat):Int)] 0=((i+1:Nat):Int):=rfl
   have g1:Am.get [((i+1:Nat):Int),((i+1+n1:Nat):Int)] 1=((i+1+n1:Nat):Int):=rfl
   have gl: [((i+1:Nat):Int),((i+1+n1:Nat):Int)].length=2:=rfl
   have key:∀u' ctx' m',Node W i u' ctx' m'→jB ctx' u'=yK [some (Am.get ty (i+1)),some (Am.get ty (i+1+n1))]:=fun u' ctx' m' h'=>by
    obtain⟨n1',FC,⟨PU,Oc⟩,u1',v1',q1',Od,Oe,Og⟩:=zP h' (by rw[←(eB h').1];exact e4)
    rw[EI]at FC
    have:n1'=n1:=by
     have:=(List.cons.inj (List.cons.inj FC).2).1
     omega
    subst this
    rw[Og,h.typ (i+1) (by omega) hi1 _ _ _ Od,h.typ (i+1+n1') (by omega) Oc _ _ _ Oe]
   obtain⟨k,hk1,hk2⟩:=h.ok (i+1) (by omega) hi1
   obtain⟨k',hk1',hk2'⟩:=h.ok (i+1+n1) (by omega) hi2
   simp only[EI,g0,g1,gl,Int.toNat_natCast]
   generalize hf:Am.get ty (i+1)=f at*
   generalize hx:Am.get ty (i+1+n1)=x at*
   have bad:yK [some f,some x]=none→jB [] t=none:=fun hb=>Classical.byContradiction fun hc=>hS hc (by rw[key _ _ _ hN,hb])
   refine Evt.chk (by omega) (Evt.chk (by omega) (Evt.chk (by omega) (Evt.chk (by omega) ?_)))
   cases hk1 with
   |leaf _ hb h0=>
    have:f.base≠ []:=by rcases hb with h|h<;>rw[h]<;>simp
    simp only[this,decide_false,Bool.not_false,cond_true,Bool.not_true]
    refine Evt.chk (G4 fun h=>by cases h) (Evt.pure ⟨rfl,bad ?_⟩)
    unfold yK
    simp only[]
    rw[if_neg (by rw[h0];simp)]
   |node _ a c j l e1 e2 e3 e4=>
    have hl2:(f.args.length:Int)=2:=by rw[e2];rfl
    simp only[e1,hl2,decide_true,Bool.not_true,Bool.not_false,cond_false]
    have ga:Am.get f.args 0=a:=by rw[e2];rfl
    refine Evt.chk (G4 fun _=>by omega) (Evt.bind (rJ (s:=Am.get f.args 0) (t:=x) (by rw[ga];exact e3) hk1' (by omega) (by omega)) fun w hw2=>Evt.cond (fun e=>Evt.pure ⟨rfl,bad ?_⟩) (fun e=>Evt.chk (by omega) (Evt.chk (by omega) (Evt.cR (Evt.pure ⟨h.set hi (fun u' ctx' m' h'=>?_) ⟨l,by rw[e2];exact e4,by omega⟩,rfl⟩)))))
    ·replace e:=bx e
     unfold yK
     simp only[]
     rw[if_neg]
     intro hh
     rw[hw2.2 hh.2]at e;cases e
    ·replace e:=bx e
     rw[key _ _ _ h']
     unfold yK
     simp only[]
     rw[if_pos ⟨by omega,hw2.1 e⟩]
  ·replace e:=bx e;replace e2:=bx e2;replace e3:=bx e3;replace e4:=bx e4
   omega
 ·replace e:=bx e
  have:¬(0:Int)≤(i:Int):=by omega
  omega
theorem uT{t:w6}{n:Nat}(h:WfT 0 t n)(hn:n≤1000):Evt (fun k=>T3 k t) (TyR [] t):=by
 unfold T3 CS
 refine Evt.bind (EG h (-1) 0 (by omega)) fun W hW=>?_
 obtain⟨hl,hT⟩:=hW
 have hN:Node W 0 t [] n:=Hf h rfl hT hl ⟨by omega,fun k _=>by rw[Nat.zero_add]⟩ .top (by omega)
 have hro:=Hi h hT
 have hpos:=(eB hN).2.2.2
 have hw1:wr .i64 ((W.length:Int)-1)=(W.length:Int)-1:=N9 (by omega) (by omega)
 rw[hw1]
 refine Evt.chk (by rw[bR];omega) (Evt.C6 (P:=ExP (fun ty=>wK W ty 0) (fun r:u0×Bool=>r.2=false∧jB [] t=none)) (Evt.loop (fun s:List u0×Int=>(s.2+1).toNat) (fun s=>∃i:Nat,i≤W.length∧s.2=(i:Int)-1∧wK W s.1 i) _ _ ⟨W.length,Nat.le_refl _,rfl,by simp,fun j h1 h2=>by omega,fun j h1 h2=>by omega⟩ (fun s hs=>?_)) (fun ty hty=>?_) (fun r hr=>.inr hr))
 ·obtain⟨i,hi,hs2,hinv⟩:=hs
  obtain⟨ty,x⟩:=s
  simp only at hs2 hinv
  subst hs2
  match i,hi,hinv with
  |0,hi,hinv=>
   unfold J7
   refine Evt.cond (fun e=>?_) (fun e=>Evt.pure hinv)
   replace e:=bx e
   have e:(0:Int)≤((0:Nat):Int)-1:=e
   omega
  |i+1,hi,hinv=>
   have:=wL hro (by omega) hN (by omega) (by omega) hinv
   rw[show(((i+1:Nat):Int)-1)=(i:Int)by omega]
   refine this.mono fun c hc=>?_
   cases c with
   |nxt s'=>exact⟨⟨i,by omega,hc.2,hc.1⟩,by show(s'.2+1).toNat<((i:Int)+1).toNat;rw[hc.2];omega⟩
   |brk t'=>exact hc.elim
   |ret r=>exact hc
 ·have hty:wK W ty 0:=hty
  unfold T8
  have:=hty.len
  exact Evt.chk (by omega) (Evt.pure (.inl ⟨rfl,hty.typ 0 (by omega) (by omega) _ _ _ hN⟩))
theorem uU(t:w6):Ev2 (fun n=>bS n t) (fun n=>O2 n t) (fun a b=>a=b):=by
 unfold bS O2
 have h1:=kA _ t (Nat.le_refl _) 1 0 0 (by omega) (by omega) (by omega) (by omega) (by omega) (by omega)
 refine Ev2.bZ h1 fun a ha=>?_
 obtain⟨rfl,_⟩:=ha
 by_cases hc:(lO t 1 0 0).1.code=0
 ·obtain⟨n,hwf,_,hn⟩:=He _ t (Nat.le_refl _) 1 0 0 hc
  refine Ev2.sN (mH t) (fun u hu=>?_) (fun r hr=>?_)
  ·simp only[hc,decide_true,Bool.not_true,cond_false]
   unfold R0
   refine Ev2.bZ (wI hwf (ctx:=[]) ⟨rfl,fun j hj=>by omega⟩ (by omega) (by omega)) fun x hx=>Ev2.yC (uT hwf (by omega)) fun y hy=>?_
   have e:x.2=y.2:=by
    rcases hx with⟨h1,h2⟩|⟨h1,h2⟩<;>rcases hy with⟨h3,h4⟩|⟨h3,h4⟩
    ·rw[h1,h3]
    ·rw[h4]at h2;cases h2
    ·rw[h4]at h2;cases h2
    ·rw[h1,h3]
   rw[e]
   exact Ev2.cond rfl (fun _=>Ev2.pure rfl) (fun _=>Ev2.pure rfl)
  ·rw[if_pos hc]at hr;cases hr
 ·refine Ev2.sN (mH t) (fun u hu=>?_) (fun r hr=>?_)
  ·rw[if_neg hc]at hu;cases hu
  ·rw[if_neg hc]at hr;cases hr
   simp only[hc,decide_false,Bool.not_false,cond_true]
   exact Evt.pure rfl
end Go.Proofs.YtoekkdodipnmpaaGreatDoor
namespace Go.Proofs.YtoekkdodipnmpaaGreatDoor
open Go Go.Am Go.Lib
theorem FD(s:Bs):(bs s).data.toList=s:=by simp[bs]
theorem JU(s:Bs):(bs s).size=s.length:=by simp[bs,ByteArray.size]
theorem gX{s:Bs}{p:Nat}(h:p<s.length):1≤fD s p:=by
 unfold fD
 rw[if_pos h]
 exact Lib.decode_width_pos _ _ (by rw[JU];exact h)
theorem CT(s:Bs)(i:Int):0≤y8 s i:=by unfold y8;omega
theorem cE(s:Bs)(i:Nat):y8 s i=((s.getD i 0).toNat:Int):=by unfold y8;rw[Int.toNat_natCast]
def rpos(s:Bs):Nat→Nat
 |0=>0
 |k+1=>rpos s k+fD s (rpos s k)
def RC(s:Bs)(c:Nat):Prop:=s.length≤rpos s c∧∀j,j<c→rpos s j<s.length
theorem rK(s:Bs){j k:Nat}(h:j≤k):rpos s j≤rpos s k:=by
 induction k with
 |zero=>have:j=0:=by omega
        subst this;exact Nat.le_refl _
 |succ k ih=>
  by_cases e:j=k+1
  ·subst e;exact Nat.le_refl _
  ·have:=ih (by omega)
   show rpos s j≤rpos s k+fD s (rpos s k)
   omega
theorem RC.uniq{s:Bs}{c d:Nat}(h:RC s c)(k:RC s d):c=d:=by
 rcases Nat.lt_trichotomy c d with e|e|e
 ·have:=k.2 c e;have:=h.1;omega
 ·exact e
 ·have:=h.2 d e;have:=k.1;omega
theorem CU{s:Bs}:∀ {k:Nat},(∀j,j<k→rpos s j<s.length)→k≤rpos s k
 |0,_=>Nat.le_refl _
 |k+1,h=>by
  have h1:=CU (s:=s) (k:=k) (fun j hj=>h j (by omega))
  have h2:=gX (h k (by omega))
  show k+1≤rpos s k+fD s (rpos s k)
  omega
theorem JV{s:Bs}{c:Nat}(h:∀j,j<c→rpos s j<s.length):c≤s.length:=by
 cases c with
 |zero=>omega
 |succ c=>have h1:=CU (s:=s) (k:=c) (fun j hj=>h j (by omega));have h2:=h c (by omega);omega
theorem wM(s:Bs)(hs:s.length<4294967296):Evt (fun n=>J5 n s) (fun v=>∃c:Nat,v=c∧RC s c):=by
 unfold J5
 refine Evt.C6 (P:=ExP (fun v:Int=>∃c:Nat,v=c∧RC s c) (fun _=>False)) (Evt.loop (fun u:Nat×Int=>s.length-u.1) (fun u=>∃k:Nat,u=(rpos s k,(k:Int))∧∀j,j<k→rpos s j<s.length) _ _ ⟨0,rfl,fun j hj=>by omega⟩ (fun u hu=>?_)) (fun t ht=>Evt.pure ht) (fun _ h=>h.elim)
 obtain⟨k,rfl,hk⟩:=hu
 unfold K8
 have hkl:=JV hk
 refine Evt.cond (fun e=>Evt.pure ?_) (fun e=>Evt.pure ?_)
 ·replace e:=bx e
  have e:rpos s k<s.length:=e
  have:=gX e
  refine⟨⟨k+1,?_,fun j hj=>?_⟩,by show s.length-(rpos s k+fD s (rpos s k))<s.length-rpos s k;omega⟩
  ·show(rpos s k+fD s (rpos s k),wr .i64 ((k:Int)+1))=_
   rw[N9 (by omega) (by omega)];rfl
  ·by_cases ej:j=k
   ·subst ej;exact e
   ·exact hk j (by omega)
 ·replace e:=bx e
  have e:s.length≤rpos s k:=e
  exact⟨k,rfl,e,hk⟩
def pU(r:Int):Prop:=r=32∨r=9∨r=10∨r=40∨r=41∨r=91∨r=93∨r=44∨r=59
def stops:Bs:=[32,9,10,40,41,91,93,44,59]
theorem rL(b:UInt8):b∈stops↔pU (b.toNat:Int):=by
 unfold stops pU
 simp only[List.mem_cons,List.not_mem_nil,or_false, ←UInt8.toNat_inj]
 simp only[UInt8.reduceToNat]
 omega
theorem yN{n b0 b1 b2 b3:Nat}(h:(decodeN n b0 b1 b2 b3).1<128):b0<128∧(decodeN n b0 b1 b2 b3).1=b0:=by
 unfold decodeN at h⊢
 repeat' split at h
 all_goals first|(rename_i h1;exact⟨h1,by simp[h1]⟩)|(exfalso;simp only at h;omega)
theorem decodeN_ascii{n b0 b1 b2 b3:Nat}(h:b0<128):decodeN n b0 b1 b2 b3=(b0,1):=by unfold decodeN;rw[if_pos h]
theorem AK{n b0 b1 b2 b3:Nat}:(2≤(decodeN n b0 b1 b2 b3).2→128≤b1)∧(3≤(decodeN n b0 b1 b2 b3).2→128≤b2)∧(4≤(decodeN n b0 b1 b2 b3).2→128≤b3)∧(decodeN n b0 b1 b2 b3).2≤4:=by
 unfold decodeN
 repeat' split
 all_goals (refine⟨fun h=>?_,fun h=>?_,fun h=>?_,?_⟩<;>(try simp only at h)<;>(try simp only)<;>omega)
theorem AL{n b0 b1 b2 b3:Nat}(hn:1≤n):(decodeN n b0 b1 b2 b3).2≤n:=by
 unfold decodeN
 repeat' split
 all_goals (simp only;omega)
theorem decodeL_le{l:Bs}(h:0<l.length):(decodeL l).2≤l.length:=by rw[decodeL_N];exact AL h
theorem yO(s:Bs)(p:Nat):rune s p=((decodeN (s.length-p) (s.getD p 0).toNat (s.getD (p+1) 0).toNat (s.getD (p+2) 0).toNat (s.getD (p+3) 0).toNat).1:Nat):=by
 unfold rune
 rw[decode_N,FD]
theorem EJ{s:Bs}{p:Nat}(h:p<s.length):fD s p=(decodeN (s.length-p) (s.getD p 0).toNat (s.getD (p+1) 0).toNat (s.getD (p+2) 0).toNat (s.getD (p+3) 0).toNat).2:=by
 unfold fD
 rw[if_pos h,decode_N,FD]
theorem EK{s:Bs}{p:Nat}(h:rune s p<128):rune s p=((s.getD p 0).toNat:Int):=by
 rw[yO]at h⊢
 rw[(yN (by omega)).2]
theorem yP{r:Int}(h:pU r):r<128:=by unfold pU at h;omega
def FE(s:Bs):Prop:=∃k,rpos s k<s.length∧pU (rune s (rpos s k))
theorem nI{s:Bs}{p:Nat}(h:p<s.length):s.getD p 0∈s:=by
 rw[List.getD_eq_getElem?_getD,List.getElem?_eq_getElem h]
 exact List.getElem_mem h
theorem AO{s:Bs}{i:Nat}(hi:i<s.length)(hb:(s.getD i 0).toNat<128):∃k,rpos s k=i:=by
 have key:∀m,∃k,(rpos s k=i)∨(rpos s k<i∧m≤rpos s k):=by
  intro m
  induction m with
  |zero=>
   by_cases h0:i=0
   ·exact⟨0,.inl h0.symm⟩
   ·exact⟨0,.inr ⟨by show 0<i;omega,Nat.zero_le _⟩⟩
  |succ m ih=>
   obtain⟨k,h|⟨h1,h2⟩⟩:=ih
   ·exact⟨k,.inl h⟩
   ·have hlt:rpos s k<s.length:=by omega
    have hw:=gX hlt
    have hwe:=EJ hlt
    have hin:=AK (n:=s.length-rpos s k) (b0:=(s.getD (rpos s k) 0).toNat) (b1:=(s.getD (rpos s k+1) 0).toNat) (b2:=(s.getD (rpos s k+2) 0).toNat) (b3:=(s.getD (rpos s k+3) 0).toNat)
    rw[←hwe]at hin
    have hstep:rpos s (k+1)=rpos s k+fD s (rpos s k):=rfl
    by_cases e:rpos s (k+1)≤i
    ·by_cases e2:rpos s (k+1)=i
     ·exact⟨k+1,.inl e2⟩
     ·exact⟨k+1,.inr ⟨by omega,by omega⟩⟩
    ·exfalso
     obtain⟨a1,a2,a3,a4⟩:=hin
     obtain⟨d,hd⟩:∃d,i=rpos s k+d:=⟨i-rpos s k,by omega⟩
     have hd':d=1∨d=2∨d=3:=by omega
     rcases hd' with rfl|rfl|rfl
     ·have:=a1 (by omega);rw[←hd]at this;omega
     ·have:=a2 (by omega);rw[←hd]at this;omega
     ·have:=a3 (by omega);rw[←hd]at this;omega
 obtain⟨k,h|⟨h1,h2⟩⟩:=key i
 ·exact⟨k,h⟩
 ·omega
theorem EL(s:Bs):FE s↔ ∃b∈s,b∈stops:=by
 constructor
 ·rintro⟨k,h1,h2⟩
  refine⟨s.getD (rpos s k) 0,nI h1,(rL _).2 ?_⟩
  rw[←EK (yP h2)]
  exact h2
 ·rintro⟨b,hb,hs⟩
  obtain⟨i,hi,e⟩:=List.getElem_of_mem hb
  have e2:s.getD i 0=b:=by rw[List.getD_eq_getElem?_getD,List.getElem?_eq_getElem hi];exact e
  have h3:=(rL b).1 hs
  have JR:=yP h3
  obtain⟨k,hk⟩:=AO hi (by rw[e2];omega)
  refine⟨k,by omega,?_⟩
  rw[hk,yO,e2,decodeN_ascii (by omega)]
  exact h3
theorem lQ{j0:Int×Int×Int}{l:Bs}{r i:Int}(hi0:0≤i)(hi:i<j0.1)(h1:i<l.length)(h4:i<5)(hr:0≤r)(hr2:r<100000000000)(hg:128≤y8 l i∧y8 l i≤191):aT (fun _=>D2 j0 l) (r,i) (64*r+y8 l i-128,i+1):=by
 refine aT.one ?_
 unfold D2
 refine Evt.cond (fun _=>Evt.chk ⟨hi0,h1⟩ (Evt.cond (fun e=>?_) (fun _=>Evt.pure ?_))) (fun e=>?_)
 ·replace e:=bx e
  have e:y8 l i<128∨191<y8 l i:=e
  omega
 ·show Ctl.nxt (wr .i64 (wr .i64 (wr .i64 (64*r)+wr .i64 (y8 l i))-128),wr .i64 (i+1))=_
  have hb:=CT l i
  rw[N9 (n:=64*r) (by omega) (by omega),N9 (n:=y8 l i) (by omega) (by omega),N9 (n:=64*r+y8 l i) (by omega) (by omega),N9 (by omega) (by omega),N9 (by omega) (by omega)]
 ·replace e:=bx e
  have e:j0.1≤i:=e
  omega
theorem tR{j0:Int×Int×Int}{l:Bs}{r i:Int}(hi0:0≤i)(hi:i<j0.1)(h1:i<l.length)(hg:y8 l i<128∨191<y8 l i):eV (fun _=>D2 j0 l) (r,i) (.ret 0):=by
 refine eV.ret ?_
 unfold D2
 refine Evt.cond (fun _=>Evt.chk ⟨hi0,h1⟩ (Evt.cond (fun e=>Evt.pure rfl) (fun e=>?_))) (fun e=>?_)
 ·replace e:=bx e
  have e1:128≤y8 l i:=e.1
  have e2:y8 l i≤191:=e.2
  omega
 ·replace e:=bx e
  have e:j0.1≤i:=e
  omega
theorem CV{j0:Int×Int×Int}{l:Bs}{r i:Int}(hi:i=j0.1):eV (fun _=>D2 j0 l) (r,i) (.nxt r):=by
 refine eV.brk ?_
 unfold D2
 refine Evt.cond (fun e=>?_) (fun _=>Evt.pure rfl)
 replace e:=bx e
 have e:i<j0.1:=e
 omega
theorem nX{j0:Int×Int×Int}{l:Bs}{e:Ex Int Int}{v:Int}(hl:¬(l.length:Int)<j0.1)(h:eV (fun _=>D2 j0 l) (j0.2.2,1) e)(hv:(e= .ret v)∨∃r,e= .nxt r∧v=if r<j0.2.1∨1114111<r∨(55296≤r∧r≤57343)then 0 else j0.1):Evt (fun n=>D8 n l j0) (fun w=>w=v):=by
 unfold D8
 refine Evt.cond (fun e2=>?_) (fun _=>Evt.C6 h.evt (fun t ht=>?_) (fun r hr=>?_))
 ·replace e2:=bx e2
  exact absurd e2 hl
 ·subst ht
  rcases hv with hv|⟨r,hv,hv2⟩
  ·cases hv
  ·cases hv
   unfold P2
   refine Evt.cond (fun e2=>Evt.pure ?_) (fun e2=>Evt.pure ?_)
   ·replace e2:=bx e2
    rw[hv2,if_pos (by omega)]
   ·replace e2:=bx e2
    rw[hv2,if_neg]
    rintro(h|h|h)
    ·omega
    ·omega
    ·simp[h]at e2;omega
 ·rcases hv with hv|⟨q,hv,hv2⟩
  ·rw[hv]at hr;cases hr;rfl
  ·rw[hv]at hr;cases hr
theorem uV{j0:Int×Int×Int}{l:Bs}(hl:(l.length:Int)<j0.1):Evt (fun n=>D8 n l j0) (fun w=>w=0):=by
 unfold D8
 exact Evt.cond (fun _=>Evt.pure rfl) (fun e=>by replace e:=bx e;omega)
def lenOf(p:Nat×Nat):Int:=if p.1=65533∧p.2=1 then 0 else p.2
theorem aU{p:Nat×Nat}(h:p=(65533,1)):lenOf p=0:=by subst h;rfl
theorem oY{p:Nat×Nat}(h:p.2≠1):lenOf p=p.2:=by unfold lenOf;rw[if_neg (fun e=>h e.2)]
theorem uW{l:Bs}(hl:0<l.length):Evt (fun n=>M4 n l) (fun v=>v=lenOf (decodeL l)):=by
 rw[decodeL_N]
 have e0:=cE l 0
 have e1:=cE l 1
 have e2:=cE l 2
 have e3:=cE l 3
 have q0:=(l.getD 0 0).toNat_lt
 have q1:=(l.getD 1 0).toNat_lt
 have q2:=(l.getD 2 0).toNat_lt
 have q3:=(l.getD 3 0).toNat_lt
 generalize (l.getD 0 0).toNat=b0 at*
 generalize (l.getD 1 0).toNat=b1 at*
 generalize (l.getD 2 0).toNat=b2 at*
 generalize (l.getD 3 0).toNat=b3 at*
 have e0:y8 l 0=(b0:Int):=e0
 have e1:y8 l 1=(b1:Int):=e1
 have e2:y8 l 2=(b2:Int):=e2
 have e3:y8 l 3=(b3:Int):=e3
 unfold M4
 rw[e0]
 have w0:wr .i64 (b0:Int)=b0:=N9 (by omega) (by omega)
 rw[w0]
 refine Evt.chk (by omega) (Evt.cond (fun e=>Evt.pure ?_) (fun e=>Evt.cond (fun k=>?_) (fun k=>Evt.cond (fun k2=>?_) (fun k2=>Evt.cond (fun k3=>?_) (fun k3=>Evt.pure ?_)))))
 ·replace e:=bx e
  rw[decodeN_ascii (by omega)]
  unfold lenOf
  simp only
  rw[if_neg (by omega)];rfl
 ·replace e:=bx e;replace k:=bx k
  rw[N9 (n:=(b0:Int)-192) (by omega) (by omega)]
  by_cases hn:(l.length:Int)<2
  ·refine(uV hn).mono fun w hw=>?_
   rw[hw,aU]
   unfold decodeN
   repeat' split
   all_goals first|rfl|(exfalso;omega)
  ·by_cases g1:128≤y8 l 1∧y8 l 1≤191
   ·have h:=(lQ (j0:=(2,128,(b0:Int)-192)) (l:=l) (r:=(b0:Int)-192) (i:=1) (by omega) (by show(1:Int)<2;omega) (by omega) (by omega) (by omega) (by omega) g1).ends (CV rfl)
    refine nX hn h (.inr ⟨_,rfl,?_⟩)
    rw[e1]at g1⊢
    show _=if 64*((b0:Int)-192)+(b1:Int)-128<128∨1114111<64*((b0:Int)-192)+(b1:Int)-128∨(55296≤64*((b0:Int)-192)+(b1:Int)-128∧64*((b0:Int)-192)+(b1:Int)-128≤57343)then(0:Int)else 2
    rw[if_neg (by omega)]
    obtain⟨x,hx⟩:∃x,decodeN l.length b0 b1 b2 b3=(x,2):=⟨_,by unfold decodeN;rw[if_neg (by omega),if_pos (by omega),if_pos (by omega)]⟩
    rw[hx,oY (by simp)];rfl
   ·have h:=tR (j0:=(2,128,(b0:Int)-192)) (l:=l) (r:=(b0:Int)-192) (i:=1) (by omega) (by show(1:Int)<2;omega) (by omega) (by omega)
    refine nX hn h (.inl ?_)
    rw[e1]at g1
    rw[aU]
    unfold decodeN
    repeat' split
    all_goals first|rfl|(exfalso;omega)
 ·replace e:=bx e;replace k2:=bx k2
  have k:=k2
  rw[N9 (n:=(b0:Int)-224) (by omega) (by omega)]
  by_cases hn:(l.length:Int)<3
  ·refine(uV hn).mono fun w hw=>?_
   rw[hw,aU]
   unfold decodeN
   repeat' split
   all_goals first|rfl|(exfalso;omega)
  ·by_cases g1:128≤y8 l 1∧y8 l 1≤191
   ·have s1:=lQ (j0:=(3,2048,(b0:Int)-224)) (l:=l) (r:=(b0:Int)-224) (i:=1) (by omega) (by show(1:Int)<3;omega) (by omega) (by omega) (by omega) (by omega) g1
    by_cases g2:128≤y8 l 2∧y8 l 2≤191
    ·have h:=(s1.trans (lQ (j0:=(3,2048,(b0:Int)-224)) (l:=l) (r:=64*((b0:Int)-224)+y8 l 1-128) (i:=2) (by omega) (by show(2:Int)<3;omega) (by omega) (by omega) (by omega) (by omega) g2)).ends (CV rfl)
     refine nX hn h (.inr ⟨_,rfl,?_⟩)
     rw[e1]at g1;rw[e2]at g2;rw[e1,e2]
     generalize hr:64*(64*((b0:Int)-224)+(b1:Int)-128)+(b2:Int)-128=r
     show _=if r<2048∨1114111<r∨(55296≤r∧r≤57343)then(0:Int)else 3
     by_cases hc:r<2048∨1114111<r∨(55296≤r∧r≤57343)
     ·rw[if_pos hc,aU]
      unfold decodeN
      repeat' split
      all_goals first|rfl|(exfalso;omega)
     ·rw[if_neg hc]
      obtain⟨x,hx⟩:∃x,decodeN l.length b0 b1 b2 b3=(x,3):=⟨_,by unfold decodeN;rw[if_neg (by omega),if_neg (by omega),if_pos (by omega),if_pos (by omega)]⟩
      rw[hx,oY (by simp)];rfl
    ·have h:=s1.ends (tR (i:=2) (by omega) (by show(2:Int)<3;omega) (by omega) (by omega))
     refine nX hn h (.inl ?_)
     rw[e1]at g1;rw[e2]at g2
     rw[aU]
     unfold decodeN
     repeat' split
     all_goals first|rfl|(exfalso;omega)
   ·have h:=tR (j0:=(3,2048,(b0:Int)-224)) (l:=l) (r:=(b0:Int)-224) (i:=1) (by omega) (by show(1:Int)<3;omega) (by omega) (by omega)
    refine nX hn h (.inl ?_)
    rw[e1]at g1
    rw[aU]
    unfold decodeN
    repeat' split
    all_goals first|rfl|(exfalso;omega)
 ·replace e:=bx e;replace k3:=bx k3
  rw[N9 (n:=(b0:Int)-240) (by omega) (by omega)]
  by_cases hn:(l.length:Int)<4
  ·refine(uV hn).mono fun w hw=>?_
   rw[hw,aU]
   unfold decodeN
   repeat' split
   all_goals first|rfl|(exfalso;omega)
  ·by_cases g1:128≤y8 l 1∧y8 l 1≤191
   ·have s1:=lQ (j0:=(4,65536,(b0:Int)-240)) (l:=l) (r:=(b0:Int)-240) (i:=1) (by omega) (by show(1:Int)<4;omega) (by omega) (by omega) (by omega) (by omega) g1
    by_cases g2:128≤y8 l 2∧y8 l 2≤191
    ·have s2:=s1.trans (lQ (j0:=(4,65536,(b0:Int)-240)) (l:=l) (r:=64*((b0:Int)-240)+y8 l 1-128) (i:=2) (by omega) (by show(2:Int)<4;omega) (by omega) (by omega) (by omega) (by omega) g2)
     by_cases g3:128≤y8 l 3∧y8 l 3≤191
     ·have h:=(s2.trans (lQ (j0:=(4,65536,(b0:Int)-240)) (l:=l) (r:=64*(64*((b0:Int)-240)+y8 l 1-128)+y8 l 2-128) (i:=3) (by omega) (by show(3:Int)<4;omega) (by omega) (by omega) (by omega) (by omega) g3)).ends (CV rfl)
      refine nX hn h (.inr ⟨_,rfl,?_⟩)
      rw[e1]at g1;rw[e2]at g2;rw[e3]at g3;rw[e1,e2,e3]
      generalize hr:64*(64*(64*((b0:Int)-240)+(b1:Int)-128)+(b2:Int)-128)+(b3:Int)-128=r
      show _=if r<65536∨1114111<r∨(55296≤r∧r≤57343)then(0:Int)else 4
      by_cases hc:r<65536∨1114111<r∨(55296≤r∧r≤57343)
      ·rw[if_pos hc,aU]
       unfold decodeN
       repeat' split
       all_goals first|rfl|(exfalso;omega)
      ·rw[if_neg hc]
       obtain⟨x,hx⟩:∃x,decodeN l.length b0 b1 b2 b3=(x,4):=⟨_,by unfold decodeN;rw[if_neg (by omega),if_neg (by omega),if_neg (by omega),if_pos (by omega),if_pos (by omega)]⟩
       rw[hx,oY (by simp)];rfl
     ·have h:=s2.ends (tR (i:=3) (by omega) (by show(3:Int)<4;omega) (by omega) (by omega))
      refine nX hn h (.inl ?_)
      rw[e1]at g1;rw[e2]at g2;rw[e3]at g3
      rw[aU]
      unfold decodeN
      repeat' split
      all_goals first|rfl|(exfalso;omega)
    ·have h:=s1.ends (tR (i:=2) (by omega) (by show(2:Int)<4;omega) (by omega) (by omega))
     refine nX hn h (.inl ?_)
     rw[e1]at g1;rw[e2]at g2
     rw[aU]
     unfold decodeN
     repeat' split
     all_goals first|rfl|(exfalso;omega)
   ·have h:=tR (j0:=(4,65536,(b0:Int)-240)) (l:=l) (r:=(b0:Int)-240) (i:=1) (by omega) (by show(1:Int)<4;omega) (by omega) (by omega)
    refine nX hn h (.inl ?_)
    rw[e1]at g1
    rw[aU]
    unfold decodeN
    repeat' split
    all_goals first|rfl|(exfalso;omega)
 ·replace e:=bx e;replace k:=bx k;replace k2:=bx k2;replace k3:=bx k3
  rw[aU]
  unfold decodeN
  repeat' split
  all_goals first|rfl|(exfalso;omega)
theorem Hj:∀b:Fin 256,∀i:Fin 8,decide ((b.val*2^(8*i.val))&&&9259542123273814144=0)=decide (b.val<128):=by decide+kernel
theorem fH(b:UInt8)(i:Nat)(hi:i<8):(b.toNat*2^(8*i))&&&9259542123273814144=0↔b.toNat<128:=by
 have:=Hj ⟨b.toNat,b.toNat_lt⟩ ⟨i,hi⟩
 simpa using this
def IsW(v:Int)(w:Nat):Prop:=v=w∧w<18446744073709551616
theorem IsW.or{v u:Int}{w x:Nat}(h:IsW v w)(k:IsW u x):IsW (P3 .or .u64 v u) (w|||x):=by
 obtain⟨rfl,h⟩:=h
 obtain⟨rfl,k⟩:=k
 exact⟨wB h k,Nat.or_lt_two_pow (n:=64) h k⟩
theorem jW(b:UInt8)(i:Nat)(hi:i<8):IsW (wr .u64 (wr .u64 (b.toNat:Int)*2^(min (8*i) 64))) (b.toNat*2^(8*i)):=by
 have hb:=b.toNat_lt
 have h1:b.toNat*2^(8*i)≤255*2^56:=Nat.mul_le_mul (by omega) (Nat.pow_le_pow_right (by decide) (by omega))
 have h2:b.toNat*2^(8*i)<18446744073709551616:=by omega
 refine⟨?_,h2⟩
 have e1:wr .u64 (b.toNat:Int)=(b.toNat:Int):=bQ (by omega)
 have e2:min (8*i) 64=8*i:=by omega
 rw[e1,e2]
 have e3:((b.toNat:Int)*2^(8*i))=((b.toNat*2^(8*i):Nat):Int):=by simp
 rw[e3]
 exact bQ h2
theorem EM(b:UInt8):IsW (wr .u64 (b.toNat:Int)) (b.toNat*2^(8*0)):=by
 have hb:=b.toNat_lt
 have e1:wr .u64 (b.toNat:Int)=(b.toNat:Int):=bQ (by omega)
 exact⟨by rw[e1];simp,by simp;omega⟩
theorem uX{v:Int}{w:Nat}(h:IsW v w):P3 .and .u64 v 9259542123273814144=0↔w&&&9259542123273814144=0:=by
 obtain⟨rfl,h⟩:=h
 have:=jw (x:=w) (y:=9259542123273814144) h (by decide)
 have e:((9259542123273814144:Nat):Int)=9259542123273814144:=rfl
 rw[e]at this
 rw[this]
 omega
theorem aM{s:Bs}(h:8≤s.length):Evt (fun _=>E6 s) (fun v=>∃w,IsW v w∧(w&&&9259542123273814144=0↔ ∀b∈s.take 8,b.toNat<128)):=by
 match s,h with
 |b0::b1::b2::b3::b4::b5::b6::b7::t,h=>
  unfold E6
  refine Evt.cond (fun e=>by cases e) (fun _=>Evt.chk (by omega) (Evt.chk (by omega) (Evt.chk (by omega) (Evt.chk (by omega) (Evt.chk (by omega) (Evt.chk (by omega) (Evt.chk (by omega) (Evt.chk (by omega) (Evt.pure ⟨_,(((((((EM b0).or (jW b1 1 (by omega))).or (jW b2 2 (by omega))).or (jW b3 3 (by omega))).or (jW b4 4 (by omega))).or (jW b5 5 (by omega))).or (jW b6 6 (by omega))).or (jW b7 7 (by omega)),?_⟩)))))))))
  simp only[or_mask,fH _ _ (show 0<8 by omega),fH _ _ (show 1<8 by omega),fH _ _ (show 2<8 by omega),fH _ _ (show 3<8 by omega),fH _ _ (show 4<8 by omega),fH _ _ (show 5<8 by omega),fH _ _ (show 6<8 by omega),fH _ _ (show 7<8 by omega)]
  simp only[List.take_succ_cons,List.take_zero,List.mem_cons,List.not_mem_nil,or_false,forall_eq_or_imp,forall_eq]
  simp only[and_assoc]
theorem dF{s:Bs}(h:∀b∈s.take 8,b.toNat<128):validD s=validD (s.drop 8):=validD_ascii 8 s h
theorem oZ(L:Nat)(V:Bool)(s:Bs)(hs:s.length≤L)(hv:validD s=V):Evt (fun _=>M5 s) (Ew (fun s'=>(s'.length≤L∧validD s'=V)∧s'.length<s.length) (fun t=>t.length≤L∧validD t=V) (fun _=>False)):=by
 unfold M5
 by_cases h:(32:Int)<(s.length:Int)
 ·simp only[h,decide_true,nW,cond_true]
  refine Evt.bind (aM (by omega)) fun a ha=>Evt.chk (G4 fun _=>by omega) (Evt.bind (aM (by rw[List.length_drop];omega)) fun b hb=>Evt.chk (G4 fun _=>by omega)
   (Evt.bind (aM (by rw[List.length_drop];omega)) fun c hc=>Evt.chk ⟨G4 fun _=>by omega,G4 fun _=>by omega⟩ (Evt.bind (aM (by rw[List.length_drop];omega)) fun d hd=>Evt.cond (fun e=>Evt.chk ⟨by omega,by omega⟩ (Evt.pure ?_)) (fun _=>Evt.pure ⟨hs,hv⟩))))
  replace e:=bx e
  obtain⟨wa,ia,ma⟩:=ha
  obtain⟨wb,ib,mb⟩:=hb
  obtain⟨wc,ic,mc⟩:=hc
  obtain⟨wd,id,md⟩:=hd
  have e2:=(uX ((ia.or ib).or (ic.or id))).1 e
  simp only[or_mask,ma,mb,mc,md]at e2
  obtain⟨⟨k1,k2⟩,k3,k4⟩:=e2
  refine⟨⟨by rw[List.length_drop];omega,?_⟩,by rw[List.length_drop];omega⟩
  have r1:=dF k1
  have r2:=dF k2
  have r3:=dF k3
  have r4:=dF k4
  rw[List.drop_drop]at r2 r3 r4
  rw[←hv,r1,r2,r3,r4]
 ·simp only[h,decide_false,uR,cond_false,Option.bind_some]
  exact Evt.chk (G4 fun h=>Bool.noConfusion h) (Evt.chk (G4 fun h=>Bool.noConfusion h) (Evt.chk ⟨G4 fun h=>Bool.noConfusion h,G4 fun h=>Bool.noConfusion h⟩ (Evt.pure ⟨hs,hv⟩)))
theorem Hl:∀b:Fin 256,Am.get jv b.val=(firstT b.val:Int)∧wr .i64 (P3 .and .u8 (Am.get jv b.val) 7)=((firstT b.val%8:Nat):Int)∧Int.fdiv (Am.get jv b.val) (2^(min 4 8))=((firstT b.val / 16:Nat):Int)∧firstT b.val / 16<16:=by decide+kernel
theorem Ho:∀k:Fin 16,(Am.get mR k.val).lo=(accLo k.val:Int)∧(Am.get mR k.val).hi=(accHi k.val:Int):=by decide+kernel
theorem take_one:∀ {s:Bs},(s.getD 0 0).toNat<128→∀b∈s.take 1,b.toNat<128
 | [],_,c,hc=>by simp at hc
 |b::t,h,c,hc=>by
  simp only[List.take_succ_cons,List.take_zero,List.mem_singleton]at hc
  subst hc
  exact h
theorem pe(V:Bool)(s:Bs)(hv:validD s=V):Evt (fun n=>M6 n s) (Ew (fun s'=>validD s'=V∧s'.length<s.length) (fun _=>V=true) (fun r=>r=V)):=by
 unfold M6
 refine Evt.cond (fun e=>?_) (fun e=>Evt.pure ?_)
 rotate_left
 ·replace e:=bx e
  have:s=[]:=List.eq_nil_of_length_eq_zero (by omega)
  subst this
  exact hv.symm
 replace e:=bx e
 have hne:s≠ []:=fun h=>by rw[h]at e;simp at e
 have hb:=cE s 0
 have q0:=(s.getD 0 0).toNat_lt
 have hb:y8 s 0=((s.getD 0 0).toNat:Int):=hb
 refine Evt.chk e (Evt.cond (fun e2=>?_) (fun e2=>?_))
 ·replace e2:=bx e2
  have h1:validD s=validD (s.drop 1):=validD_ascii 1 s (take_one (by omega))
  have hl1:(s.drop 1).length=s.length-1:=List.length_drop
  refine Evt.chk ⟨by omega,by omega⟩ ?_
  by_cases h8:(8:Int)<((s.drop 1).length:Int)
  ·simp only[h8,decide_true,nW,cond_true]
   refine Evt.bind (aM (by omega)) fun a ha=>Evt.cond (fun e3=>?_) (fun _=>Evt.pure ⟨by rw[←h1];exact hv,by omega⟩)
   replace e3:=bx e3
   obtain⟨wa,ia,ma⟩:=ha
   have k1:=ma.1 ((uX ia).1 e3)
   have h2:=dF k1
   have hl2:((s.drop 1).drop 8).length=s.length-9:=by rw[List.length_drop,hl1];omega
   have hv2:validD ((s.drop 1).drop 8)=V:=by rw[←h2, ←h1];exact hv
   generalize (s.drop 1).drop 8=u at*
   refine Evt.chk ⟨by omega,by omega⟩ ?_
   by_cases h16:(16:Int)<(u.length:Int)
   ·simp only[h16,decide_true,nW,cond_true]
    refine Evt.bind (aM (by omega)) fun b hb=>Evt.chk (G4 fun _=>by omega) (Evt.bind (aM (by rw[List.length_drop];omega)) fun c hc=>Evt.cond (fun e4=>?_) (fun _=>Evt.pure ⟨hv2,by omega⟩))
    replace e4:=bx e4
    obtain⟨wb,ib,mb⟩:=hb
    obtain⟨wc,ic,mc⟩:=hc
    have e5:=(uX (ib.or ic)).1 e4
    simp only[or_mask,mb,mc]at e5
    have r1:=dF e5.1
    have r2:=dF e5.2
    rw[List.drop_drop]at r2
    refine Evt.chk ⟨by omega,by omega⟩ (Evt.C6 (P:=ExP (fun t:Bs=>t.length≤u.length∧validD t=V) (fun _=>False)) (Evt.loop (fun u:Bs=>u.length) (fun t=>t.length≤u.length∧validD t=V) _ _ ⟨by rw[List.length_drop];omega,by rw[←hv2,r1,r2]⟩ (fun t ht=>oZ _ V t ht.1 ht.2)) (fun t ht=>?_) (fun r hr=>hr.elim))
    unfold S6 I9
    exact Evt.pure ⟨ht.2,by have:=ht.1;omega⟩
   ·simp only[h16,decide_false,uR,cond_false,Option.bind_some]
    exact Evt.chk (G4 fun h=>Bool.noConfusion h) (Evt.pure ⟨hv2,by omega⟩)
  ·simp only[h8,decide_false,uR,cond_false,Option.bind_some]
   exact Evt.pure ⟨by rw[←h1];exact hv,by omega⟩
 ·replace e2:=bx e2
  have jX:=validD_lead s hne (by omega)
  obtain⟨_,t2,t3,t4⟩:=Hl ⟨(s.getD 0 0).toNat,q0⟩
  obtain⟨a1,a2⟩:=Ho ⟨firstT (s.getD 0 0).toNat / 16,t4⟩
  have hbn:(y8 s 0).toNat=(s.getD 0 0).toNat:=by omega
  simp only at t2 t3 t4 a1 a2
  rw[hbn]
  simp only[t2,t3,Int.toNat_natCast,a1,a2]
  refine Evt.chk ⟨by omega,by omega⟩ (Evt.chk ⟨by omega,by omega⟩ ?_)
  generalize firstT (s.getD 0 0).toNat%8=Z at*
  generalize accLo (firstT (s.getD 0 0).toNat / 16)=lo at*
  generalize accHi (firstT (s.getD 0 0).toNat / 16)=hi at*
  have e1:y8 s 1=((s.getD 1 0).toNat:Int):=cE s 1
  have e2:y8 s 2=((s.getD 2 0).toNat:Int):=cE s 2
  have e3:y8 s 3=((s.getD 3 0).toNat:Int):=cE s 3
  rw[e1,e2,e3]
  generalize (s.getD 1 0).toNat=b1 at*
  generalize (s.getD 2 0).toNat=b2 at*
  generalize (s.getD 3 0).toNat=b3 at*
  rw[hv]at jX
  unfold checkN at jX
  refine Evt.cond (fun k=>?_) (fun k=>Evt.cond (fun k2=>?_) (fun k2=>Evt.cond (fun k3=>?_) (fun k3=>Evt.pure ?_)))
  ·replace k:=bx k
   have hZ:Z=2:=by omega
   rw[if_pos hZ]at jX
   refine Evt.chk (G4 fun c=>by replace c:=bx c;omega) (Evt.chk (G4 fun c=>by replace c:=bx c;omega) (Evt.cond (fun c=>Evt.pure ?_) (fun c=>?_)))
   ·replace c:=bx c
    rw[if_pos (by omega)]at jX
    exact jX.symm
   ·replace c:=bx c
    rw[if_neg (by omega)]at jX
    exact Evt.chk ⟨by omega,by omega⟩ (Evt.pure ⟨jX.symm,by rw[List.length_drop];omega⟩)
  ·replace k2:=bx k2
   have hZ:Z=3:=by omega
   rw[if_neg (by omega),if_pos hZ]at jX
   refine Evt.chk (G4 fun c=>by replace c:=bx c;omega) (Evt.chk (G4 fun c=>by replace c:=bx c;omega) (Evt.chk (G4 fun c=>by replace c:=bx c;omega) (Evt.chk (G4 fun c=>by replace c:=bx c;omega) (Evt.cond (fun c=>Evt.pure ?_) (fun c=>?_)))))
   ·replace c:=bx c
    rw[if_pos (by omega)]at jX
    exact jX.symm
   ·replace c:=bx c
    rw[if_neg (by omega)]at jX
    exact Evt.chk ⟨by omega,by omega⟩ (Evt.pure ⟨jX.symm,by rw[List.length_drop];omega⟩)
  ·replace k3:=bx k3
   have hZ:Z=4:=by omega
   rw[if_neg (by omega),if_neg (by omega),if_pos hZ]at jX
   refine Evt.chk (G4 fun c=>by replace c:=bx c;omega) (Evt.chk (G4 fun c=>by replace c:=bx c;omega) (Evt.chk (G4 fun c=>by replace c:=bx c;omega) (Evt.chk (G4 fun c=>by replace c:=bx c;omega) (Evt.chk (G4 fun c=>by replace c:=bx c;omega) (Evt.chk (G4 fun c=>by replace c:=bx c;omega) (Evt.cond (fun c=>Evt.pure ?_) (fun c=>?_)))))))
   ·replace c:=bx c
    rw[if_pos (by omega)]at jX
    exact jX.symm
   ·replace c:=bx c
    rw[if_neg (by omega)]at jX
    exact Evt.chk ⟨by omega,by omega⟩ (Evt.pure ⟨jX.symm,by rw[List.length_drop];omega⟩)
  ·replace k:=bx k;replace k2:=bx k2;replace k3:=bx k3
   rw[if_neg (by omega),if_neg (by omega),if_neg (by omega)]at jX
   exact jX.symm
theorem sQ(s:Bs):Evt (fun n=>R9 n s) (fun r=>r=validD s):=by
 unfold R9
 exact Evt.C6 (P:=ExP (fun _=>validD s=true) (fun r=>r=validD s)) (Evt.loop (fun u:Bs=>u.length) (fun u=>validD u=validD s) _ _ rfl (fun u hu=>pe _ u hu)) (fun t ht=>Evt.pure (Eq.symm ht)) (fun _ h=>h)
theorem pP(c:Bs):∀l:Bs,0≤Lib.indexAny l c↔ ∃b∈l,b∈c
 | []=>by simp[Lib.indexAny]
 |b::l=>by
  have ih:=pP c l
  have hge:=Lib.indexAny_ge c l
  unfold Lib.indexAny
  by_cases hb:c.contains b=true
  ·rw[if_pos hb]
   have:b∈c:=by simpa using hb
   exact⟨fun _=>⟨b,by simp,this⟩,fun _=>by decide⟩
  ·rw[if_neg hb]
   have hn:b∉c:=by simpa using hb
   by_cases h1:Lib.indexAny l c= -1
   ·rw[if_pos (by simp[h1])]
    constructor
    ·intro h;omega
    ·rintro⟨x,hx,hc⟩
     rcases List.mem_cons.1 hx with rfl|hx
     ·exact absurd hc hn
     ·have:=ih.2 ⟨x,hx,hc⟩;omega
   ·rw[if_neg (by simp[h1])]
    constructor
    ·intro _
     obtain⟨x,hx,hc⟩:=ih.1 (by omega)
     exact⟨x,by simp[hx],hc⟩
    ·intro _;omega
theorem nY(c:UInt8):∀l:Bs,0≤Lib.indexByte l c↔c∈l
 | []=>by simp[Lib.indexByte]
 |b::l=>by
  have ih:=nY c l
  unfold Lib.indexByte
  by_cases hb:b=c
  ·subst hb;simp
  ·rw[if_neg (by simp[hb])]
   have hn:¬c=b:=fun h=>hb h.symm
   by_cases h1:Lib.indexByte l c= -1
   ·rw[if_pos (by simp[h1])]
    simp only[List.mem_cons,hn,false_or, ←ih]
    omega
   ·rw[if_neg (by simp[h1])]
    simp only[List.mem_cons,hn,false_or, ←ih]
    have: -1≤Lib.indexByte l c:=by
     clear ih h1
     induction l with
     |nil=>simp[Lib.indexByte]
     |cons x l ihl=>unfold Lib.indexByte;split; · decide
                    ·split; · decide
                     ·omega
    omega
theorem gY(s:Bs)(c:Int):Evt (fun _=>aV s c) (fun v=>v=Lib.indexByte s c.toNat.toUInt8):=Evt.pure rfl
theorem wN{r:Int}(h:128≤r):∃(l:Bs) (b:UInt8),H9 r=l++[b]∧1≤l.length∧l.length≤3∧128≤b.toNat:=by
 have key:∀c:Nat,128≤c→128≤(UInt8.ofNat (0x80+c%64)).toNat:=fun c _=>by
  rw[UInt8.toNat_ofNat']
  omega
 unfold H9 Utf8.encode
 have hc:128≤(if Utf8.valid r then r.toNat else Utf8.runeError):=by
  split
  ·omega
  ·decide
 generalize (if Utf8.valid r then r.toNat else Utf8.runeError)=c at hc
 simp only
 split
 ·omega
 ·split
  ·exact⟨[_],_,rfl,by simp,by simp,key c hc⟩
  ·split
   ·exact⟨[_,_],_,rfl,by simp,by simp,key c hc⟩
   ·exact⟨[_,_,_],_,rfl,by simp,by simp,key c hc⟩
theorem rM:stops.all (fun b=>decide (b.toNat<128))=true:=by decide
theorem AP{l:Bs}{b:UInt8}:y8 (l++[b]) l.length=b.toNat:=by
 unfold y8
 rw[Int.toNat_natCast,List.getD_eq_getElem?_getD,List.getElem?_append_right (Nat.le_refl _)]
 simp
theorem uY(k:Nat):(stops.getD k 0).toNat<128:=by
 rw[List.getD_eq_getElem?_getD]
 by_cases h:k<stops.length
 ·rw[List.getElem?_eq_getElem h]
  exact of_decide_eq_true (List.all_eq_true.1 rM _ (List.getElem_mem h))
 ·rw[List.getElem?_eq_none (by omega)]
  simp
theorem wO(k:Nat):y8 stops k<128:=by
 rw[cE]
 have:=uY k
 omega
theorem nZ:∀(l:List UInt8) (c:UInt8),(∀b∈l,b≠c)→Lib.indexByte l c= -1
 | [],_,_=>rfl
 |b::l,c,h=>by
  have hb:(b==c)=false:=beq_false_of_ne (h b (List.mem_cons_self ..))
  have ih:=nZ l c (fun x hx=>h x (List.mem_cons_of_mem _ hx))
  simp[Lib.indexByte,hb,ih]
theorem rN(r:Int)(h:128≤r):Evt (fun n=>W6 n r stops ()) (Ew (fun _=>False) (fun _=>True) (fun v=>v= -1)):=by
 obtain⟨l,b,e,h1,h3,hb⟩:=wN h
 have hl:(H9 r).length=l.length+1:=by rw[e];simp
 have hs:stops.length=9:=rfl
 have hw:wr .i64 (((H9 r).length:Int)-1)=(l.length:Int):=by
  rw[hl,N9 (by omega) (by omega)];omega
 have hw2:wr .i64 ((l.length:Int)+1)=((l.length+1:Nat):Int):=by
  rw[N9 (by omega) (by omega)];omega
 have LY:y8 (H9 r) (l.length:Int)=b.toNat:=by rw[e];exact AP
 have hst:=wO l.length
 unfold W6
 rw[hw,hw2,LY,Int.toNat_natCast]
 refine Evt.cond (fun _=>?_) (fun _=>Evt.pure trivial)
 refine Evt.chk (by omega) (Evt.chk (by omega) (Evt.cond (fun _=>?_) (fun e2=>?_)))
 ·refine Evt.chk (by omega) (Evt.bind (gY _ _) fun v hv=>Evt.cond (fun _=>Evt.pure rfl) (fun e3=>?_))
  exfalso
  have hn:Lib.indexByte (stops.drop (l.length+1)) ((b.toNat:Int).toNat.toUInt8)= -1:=nZ _ _ (fun x hx e4=>by
   have hm:x∈stops:=List.mem_of_mem_drop hx
   have:=of_decide_eq_true (List.all_eq_true.1 rM _ hm)
   have e5:x=b:=by rw[e4];simp
   rw[e5]at this
   omega)
  rw[hn]at hv
  replace e3:=bx e3
  omega
 ·exfalso
  replace e2:=bx e2
  omega
theorem wP(r:Int)(hr:0≤r):Evt (fun n=>Y3 n stops r) (fun v=>0≤v↔pU r):=by
 have no:128≤r→((0:Int)≤ -1↔pU r):=fun h=>⟨fun h=>by omega,fun h2=>by have:=yP h2;omega⟩
 unfold Y3
 refine Evt.cond (fun e=>Evt.bind (gY _ _) fun v hv=>Evt.pure ?_) (fun e=>?_)
 ·replace e:=bx e
  obtain⟨c,rfl⟩:∃c:Nat,r=c:=⟨r.toNat,by omega⟩
  have e1:wr .u8 (c:Int)=(c:Int):=by
   have h1:IntKind.u8.min=0:=by decide
   have h2:IntKind.u8.max=255:=by decide
   exact ug ⟨by omega,by omega⟩
  rw[hv,e1,Int.toNat_natCast,nY,rL]
  have:(c.toUInt8).toNat=c:=by
   rw[Nat.toUInt8,UInt8.toNat_ofNat']
   omega
  rw[this]
 have h128:128≤r:=by
  by_cases h:128≤r
  ·exact h
  ·exfalso
   have e1:decide (0≤r)=true:=decide_eq_true hr
   have e2:decide (r<128)=true:=decide_eq_true (by omega)
   rw[e1,e2]at e
   cases e
 refine Evt.cond (fun _=>?_) (fun _=>?_)
 ·refine Evt.C6 (P:=ExP (fun _=>True) (fun _=>False)) (Evt.loop (fun u:Nat=>stops.length-u) (fun _=>True) _ _ trivial (fun u _=>?_)) (fun t _=>Evt.pure (no h128)) (fun _ h=>h.elim)
  unfold aN
  refine Evt.cond (fun e=>?_) (fun _=>Evt.pure trivial)
  replace e:=bx e
  have:=gX e
  refine Evt.chk e (Evt.cond (fun e2=>?_) (fun _=>Evt.pure ⟨trivial,by omega⟩))
  replace e2:=bx e2
  exfalso
  rw[yO,decodeN_ascii (uY u)]at e2
  have:=uY u
  simp only at e2
  omega
 ·refine Evt.bind (P:=fun _=>True) ?_ fun v _=>Evt.cond (fun _=>Evt.pure (no h128)) (fun _=>?_)
  ·unfold ak
   exact Evt.cond (fun _=>Evt.pure trivial) (fun _=>Evt.cond (fun _=>Evt.pure trivial) (fun _=>Evt.pure trivial))
  ·exact Evt.C6 (P:=ExP (fun _=>True) (fun v=>v= -1)) (Evt.loop (fun _:Unit=>0) (fun _=>True) _ _ trivial (fun u _=>(rN r h128).mono fun c hc=>by
    cases c with
    |nxt s=>exact hc.elim
    |brk t=>trivial
    |ret x=>exact hc)) (fun t _=>Evt.pure (no h128)) (fun r h=>(show r= -1 from h).symm▸no h128)
theorem sR(s:Bs)(hs:s.length<4294967281):Evt (fun n=>T9 n s [32,9,10,40,41,91,93,44,59]) (fun r=>r=true↔FE s):=by
 show Evt (fun n=>T9 n s stops) _
 unfold T9
 refine Evt.bind (P:=fun v=>0≤v↔FE s) ?_ fun v hv=>Evt.pure (by rw[decide_eq_true_eq];exact hv)
 unfold eC
 refine Evt.cond (fun _=>Evt.chk ⟨by decide,hs,by decide,rM⟩ (Evt.pure (by rw[pP,EL]))) (fun e=>?_)
 replace e:=bx e
 unfold dj
 refine Evt.cond (fun e2=>by cases e2) (fun _=>Evt.cond (fun e2=>?_) (fun _=>?_))
 ·replace e2:=bx e2
  exact absurd e2 (by decide)
 refine Evt.bind (P:=fun b=>b=false) (Evt.pure ?_) fun b hb=>Evt.cond (fun e2=>?_) (fun _=>?_)
 ·exact decide_eq_false (by omega)
 ·rw[hb]at e2;cases e2
 unfold aO
 refine Evt.C6 (P:=ExP (fun _=>¬FE s) (fun v=>0≤v∧FE s)) (Evt.loop (fun u:Nat=>s.length-u) (fun u=>∃k,u=rpos s k∧∀j,j<k→¬pU (rune s (rpos s j))) _ _ ⟨0,rfl,fun j hj=>by omega⟩ (fun u hu=>?_)) (fun t ht=>Evt.pure ⟨fun h=>by omega,fun h=>absurd h ht⟩) (fun r h=>⟨fun _=>h.2,fun _=>h.1⟩)
 obtain⟨k,rfl,hk⟩:=hu
 unfold aP
 refine Evt.cond (fun e2=>?_) (fun e2=>Evt.pure ?_)
 ·replace e2:=bx e2
  have:=gX e2
  refine Evt.chk e2 (Evt.bind (wP _ (by unfold rune;omega)) fun v hv=>Evt.cond (fun e3=>Evt.pure ?_) (fun e3=>Evt.pure ⟨⟨k+1,rfl,fun j hj=>?_⟩,by omega⟩))
  ·replace e3:=bx e3
   exact⟨by omega,k,e2,hv.1 e3⟩
  ·replace e3:=bx e3
   by_cases ej:j=k
   ·subst ej;intro h;have:=hv.2 h;omega
   ·exact hk j (by omega)
 ·replace e2:=bx e2
  rintro⟨j,h1,h2⟩
  by_cases hj:j<k
  ·exact hk j hj h2
  ·have:=rK s (show k≤j by omega);omega
def zR(s:Bs):Prop:=(∃c,RC s c∧1≤c∧c≤30)∧validD s=true∧¬FE s
theorem RC.ex(s:Bs):∃c,RC s c:=by
 obtain⟨c,_,h⟩:∃c,c≤s.length∧s.length≤rpos s c:=⟨s.length,Nat.le_refl _,by
  have:∀k,k≤rpos s k∨s.length≤rpos s k:=fun k=>by
   induction k with
   |zero=>left;exact Nat.le_refl _
   |succ k ih=>
    have hs:rpos s (k+1)=rpos s k+fD s (rpos s k):=rfl
    rcases ih with h|h
    ·by_cases hl:rpos s k<s.length
     ·have:=gX hl;left;omega
     ·right;omega
    ·right;omega
  rcases this s.length with h|h<;>omega⟩
 induction c with
 |zero=>exact⟨0,h,fun j hj=>by omega⟩
 |succ c ih=>
  by_cases hc:s.length≤rpos s c
  ·exact ih (by omega) hc
  ·exact⟨c+1,h,fun j hj=>by have:=rK s (show j≤c by omega);omega⟩
theorem sS(s:Bs)(hs:s.length<4294967281):Evt (fun n=>gZ n s) (fun r=>r=true↔zR s):=by
 unfold gZ
 refine Evt.bind (wM s (by omega)) fun v hv=>?_
 obtain⟨c,rfl,hc⟩:=hv
 by_cases hr:1≤c∧c≤30
 ·have e1:(decide ((1:Int)≤(c:Int)))=true:=decide_eq_true (by omega)
  have e2:(decide ((c:Int)≤30))=true:=decide_eq_true (by omega)
  simp only[e1,e2,cond_true,nW]
  refine Evt.bind (sQ s) fun b hb=>?_
  subst hb
  cases hv:validD s with
  |true=>
   simp only[nW,cond_true]
   refine Evt.bind (sR s hs) fun b hb=>Evt.pure ?_
   unfold zR
   cases b with
   |true=>simp only[Bool.not_true];exact⟨fun h=>(by cases h),fun h=>absurd (hb.1 rfl) h.2.2⟩
   |false=>simp only[Bool.not_false];exact⟨fun _=>⟨⟨c,hc,hr⟩,hv,fun h=>by have:=hb.2 h;cases this⟩,fun _=>(by trivial)⟩
  |false=>
   simp only[uR,cond_false,Option.bind_some]
   exact Evt.pure ⟨fun h=>(by cases h),fun h=>by have:=h.2.1;rw[hv]at this;cases this⟩
 ·have e3:(bif (decide ((1:Int)≤(c:Int)))then(decide ((c:Int)≤30))else false)=false:=by
   cases h1:decide ((1:Int)≤(c:Int))with
   |true=>
    have:=of_decide_eq_true h1
    simp only[cond_true,decide_eq_false_iff_not];omega
   |false=>rfl
  simp only[e3,uR,cond_false,Option.bind_some]
  refine Evt.pure ⟨fun h=>(by cases h),fun h=>?_⟩
  obtain⟨⟨d,hd,h1⟩,_⟩:=h
  have:=hc.uniq hd
  omega
theorem kZ{s:Bs}{p:Nat}:(bif (bif (bif (bif (bif (bif (bif (bif (decide ((rune s p)=32))then true else(decide ((rune s p)=9)))then true else(decide ((rune s p)=10)))then true else(decide ((rune s p)=40)))then true else(decide ((rune s p)=41)))then true else(decide ((rune s p)=91)))then true else(decide ((rune s p)=93)))then true else(decide ((rune s p)=44)))then true else(decide ((rune s p)=59)))=true↔pU (rune s p):=by
 generalize rune s p=r
 unfold pU
 simp only[Bool.cond_true_left,Bool.or_eq_true,decide_eq_true_eq]
 omega
theorem yQ(s:Bs)(hs:s.length<4294967281):Evt (fun n=>W7 n s) (fun r=>r=true↔zR s):=by
 unfold W7
 refine Evt.C6 (P:=ExP (fun v:Int=>(∃c:Nat,v=c∧RC s c)∧¬FE s) (fun r=>r=false∧FE s)) (Evt.loop (fun u:Nat×Int=>s.length-u.1) (fun u=>∃k:Nat,u=(rpos s k,(k:Int))∧∀j,j<k→rpos s j<s.length∧¬pU (rune s (rpos s j))) _ _ ⟨0,rfl,fun j hj=>by omega⟩ (fun u hu=>?_)) (fun t ht=>?_) (fun r h=>?_)
 ·obtain⟨k,rfl,hk⟩:=hu
  have hkl:=JV fun j hj=>(hk j hj).1
  unfold X5
  refine Evt.cond (fun e=>?_) (fun e=>Evt.pure ?_)
  ·replace e:=bx e
   have e:rpos s k<s.length:=e
   have:=gX e
   refine Evt.chk e (Evt.cond (fun e2=>Evt.pure ?_) (fun e2=>Evt.pure ?_))
   ·exact⟨rfl,k,e,kZ.1 e2⟩
   ·have hn:¬pU (rune s (rpos s k)):=fun h=>by
     have h2:=kZ.2 h
     have e2:_=false:=e2
     rw[h2]at e2;cases e2
    refine⟨⟨k+1,?_,fun j hj=>?_⟩,by show s.length-(rpos s k+fD s (rpos s k))<s.length-rpos s k;omega⟩
    ·show(rpos s k+fD s (rpos s k),wr .i64 ((k:Int)+1))=_
     rw[N9 (by omega) (by omega)];rfl
    ·by_cases ej:j=k
     ·subst ej;exact⟨e,hn⟩
     ·exact hk j (by omega)
  ·replace e:=bx e
   have e:s.length≤rpos s k:=e
   refine⟨⟨k,rfl,e,fun j hj=>(hk j hj).1⟩,?_⟩
   rintro⟨j,h1,h2⟩
   by_cases hj:j<k
   ·exact(hk j hj).2 h2
   ·have:=rK s (show k≤j by omega);omega
 ·obtain⟨⟨c,hc0,hc⟩,hns⟩:=ht
  subst hc0
  unfold X6
  refine Evt.cond (fun e=>Evt.pure ⟨fun h=>(by cases h),fun h=>?_⟩) (fun e=>?_)
  ·replace e:=bx e
   obtain⟨⟨d,hd,h1⟩,_⟩:=h
   have:=hc.uniq hd
   omega
  ·replace e:=bx e
   refine Evt.C6 (P:=ExP (fun _=>validD s=true) (fun r=>r=false∧validD s=false)) (Evt.loop (fun u:Int=>s.length-u.toNat) (fun u=>0≤u∧u≤s.length∧validD (s.drop u.toNat)=validD s) _ _ ⟨by omega,by omega,rfl⟩ (fun u hu=>?_)) (fun t ht=>Evt.pure ⟨fun _=>⟨⟨c,hc,by omega⟩,ht,hns⟩,fun _=>rfl⟩) (fun r h=>?_)
   ·obtain⟨h0,h1,h2⟩:=hu
    unfold X7
    refine Evt.cond (fun e2=>?_) (fun e2=>Evt.pure ?_)
    ·replace e2:=bx e2
     have hlen:(s.drop u.toNat).length=s.length-u.toNat:=List.length_drop
     have hne:s.drop u.toNat≠ []:=fun h=>by rw[h]at hlen;simp at hlen;omega
     refine Evt.chk ⟨h0,by omega⟩ (Evt.bind (uW (by omega)) fun v hv=>?_)
     have hst:=validD_step _ hne
     have hw1:=decodeL_width (s.drop u.toNat)
     have hw2:(decodeL (s.drop u.toNat)).2≤(s.drop u.toNat).length:=decodeL_le (by omega)
     unfold lenOf at hv
     by_cases hb:(decodeL (s.drop u.toNat)).1=65533∧(decodeL (s.drop u.toNat)).2=1
     ·rw[if_pos hb]at hst hv
      refine Evt.cond (fun e3=>Evt.pure ⟨rfl,by rw[←h2,hst]⟩) (fun e3=>?_)
      replace e3:=bx e3
      exact absurd hv e3
     ·rw[if_neg hb]at hst hv
      refine Evt.cond (fun e3=>?_) (fun e3=>Evt.pure ?_)
      ·replace e3:=bx e3
       omega
      ·have hwr:wr .i64 (u+v)=u+v:=N9 (by omega) (by omega)
       rw[hwr]
       have ht:(u+v).toNat=u.toNat+(decodeL (s.drop u.toNat)).2:=by omega
       refine⟨⟨by omega,by omega,?_⟩,by omega⟩
       rw[ht, ←List.drop_drop, ←hst,h2]
    ·replace e2:=bx e2
     have:s.drop u.toNat=[]:=List.drop_eq_nil_of_le (by omega)
     rw[←h2,this];rfl
   ·obtain⟨rfl,h2⟩:=h
    refine⟨fun h=>(by cases h),fun h=>?_⟩
    have:=h.2.1
    rw[h2]at this
    cases this
 ·obtain⟨rfl,h2⟩:=h
  exact⟨fun h=>(by cases h),fun h=>absurd h2 h.2.2⟩
end Go.Proofs.YtoekkdodipnmpaaGreatDoor
namespace Go.Am
open Go
theorem Evt.JW{α:Type}{x:Nat→Option α}{P:α→Prop}{r:α}(h:Evt x (fun a=>a=r))(k:Evt x P):P r:=by
 obtain⟨a,rfl,N,hN⟩:=h
 obtain⟨b,hb,M,hM⟩:=k
 have h1:=hN (max N M) (by omega)
 have h2:=hM (max N M) (by omega)
 rw[h1]at h2
 cases h2
 exact hb
theorem Evt.and{α:Type}{x:Nat→Option α}{P Q:α→Prop}(h:Evt x P)(k:Evt x Q):Evt x (fun a=>P a∧Q a):=by
 obtain⟨r,hr,e⟩:=h.eq
 exact e.mono fun a ha=>by subst ha;exact⟨hr,Evt.JW e k⟩
theorem Ev2.split{α β:Type}{x:Nat→Option α}{y:Nat→Option β}{P:α→β→Prop}(h:Ev2 x y P):∃a b,P a b∧Evt x (fun c=>c=a)∧Evt y (fun c=>c=b):=by
 obtain⟨a,b,hp,N,hN⟩:=h
 exact⟨a,b,hp,⟨a,rfl,N,fun n hn=>(hN n hn).1⟩,⟨b,rfl,N,fun n hn=>(hN n hn).2⟩⟩
theorem Ev2.join{α β:Type}{x:Nat→Option α}{y:Nat→Option β}{P:α→β→Prop}{a:α}{b:β}(hp:P a b)(h:Evt x (fun c=>c=a))(k:Evt y (fun c=>c=b)):Ev2 x y P:=
 (Ev2.both h k).mono fun a b h=>by obtain⟨rfl,rfl⟩:=h;exact hp
end Go.Am
namespace Go.Proofs.YtoekkdodipnmpaaGreatDoor
open Go Go.Am
def zS(g:B0)(kids:Int):Prop:=∀k:Nat,k<4→∀r,kY g 0 k r→(0≤r↔(k:Int)≤kids)
structure zT(h:x7)(r:w8):Prop where
 kids:1≤r.kids∧r.kids≤3
 weight:0≤r.weight∧r.weight≤1000000
 graph:V4 h r.graph
 places:zS r.graph r.kids
structure Hq(h:x7)(x:D0):Prop where
 weight:0≤x.weight∧x.weight≤1000000
 graph:V4 h x.graph
 word:zR x.word
structure rO(g:y7):Prop where
 hier:rE g.hierarchy
 C2:3<g.hierarchy.C2.length
 rules:g.rules.length≤40
 B3:g.B3.length≤100
 rule:∀k,k<g.rules.length→zT g.hierarchy (Am.get g.rules k)
 lex:∀k,k<g.B3.length→Hq g.hierarchy (Am.get g.B3 k)
 start:V4 g.hierarchy g.start
def Hr(g:B0):Prop:=∀k,k<g.nodes.length→(Am.get g.nodes k).links.length≤9223372036854775807
theorem pV{h:x7}{g:B0}(hg:V4 h g)(hh:h.C2.length≤40)(kids:Int):Evt (fun n=>aL n g kids) (fun b=>b=true→zS g kids):=by
 unfold aL
 have h1:=hg.some
 refine Evt.C6 (Evt.range (fun k _=>∀j:Nat,j<k→∀r,kY g 0 j r→(0≤r↔(j:Int)≤kids)) (fun _=>False) (fun b=>b=false) (fun j hj=>by omega) (fun k s hk hi=>?_)) (fun t ht=>Evt.pure fun _=>ht.elim id False.elim) (fun r hr h=>by rw[h]at hr;cases hr)
 unfold U2
 refine Evt.bind (ft hg hh (a:=0) (by omega) k) fun v hv=>Evt.cond (fun _=>Evt.pure rfl) (fun e=>Evt.pure fun j hj r hr=>?_)
 have hv:kY g 0 k v:=hv
 by_cases ej:j=k
 ·subst ej
  have:=kY.uniq hg (a:=0) h1 hr hv
  subst this
  simp only[Bool.not_eq_false',decide_eq_true_eq]at e
  by_cases h0:0≤r
  ·simp[h0]at e;simp[h0,e]
  ·simp[h0]at e;simp only[h0,false_iff];omega
 ·exact hi j (by omega) r hr
theorem rP(t:w6):Ev2 (fun n=>bS n t) (fun n=>G7 n t) (fun a b=>a=b):=by
 unfold G7
 obtain⟨a,b,rfl,h,k⟩:=(uU t).split
 exact Ev2.join rfl h (Evt.bind k fun v hv=>by subst hv;exact Evt.pure rfl)
theorem rQ{h:x7}(hh:rE h){t:A9}(ht:yE h.types t){r:w8}(hlen:Hr r.graph):Ev2 (fun n=>hB n h t r) (fun n=>O4 n h r) (fun a b=>a=b∧(a=0→zT h r)):=by
 unfold hB O4
 refine Ev2.cond rfl (fun _=>Ev2.pure ⟨rfl,fun h=>absurd (show(3:Int)=0 from h) (by decide)⟩) (fun e=>?_)
 replace e:=bx e
 refine Ev2.bind (gT hh ht hlen) fun f f' hf=>?_
 obtain⟨rfl,hf⟩:=hf
 refine Ev2.cond rfl (fun e2=>Ev2.pure ⟨rfl,fun h=>?_⟩) (fun e2=>?_)
 ·replace e2:=bx e2
  exact absurd h e2
 replace e2:=bx e2
 have hg:=hf e2
 obtain⟨b,ex,hbe,hl,hr⟩:=(AH (r:=r) hg hh.n r.kids rfl rfl).split
 have hpl:=Evt.JW hl (pV hg hh.n r.kids)
 refine Ev2.bZ hl fun b' hb'=>?_
 subst hb'
 rcases hbe with⟨rfl,rfl⟩|⟨rfl,rfl⟩
 ·simp only[Bool.not_true,cond_false]
  refine Ev2.sN hr (fun t ht=>?_) (fun r hr=>by cases hr)
  unfold R2
  exact Ev2.bind (rP r.meaning) fun a b hab=>by subst hab;exact Ev2.pure ⟨rfl,fun _=>⟨by omega,by omega,hg,hpl rfl⟩⟩
 ·simp only[Bool.not_false,cond_true]
  refine Ev2.sN hr (fun t ht=>by cases ht) (fun r hr=>?_)
  cases hr
  exact Evt.pure ⟨rfl,fun h=>absurd (show(5:Int)=0 from h) (by decide)⟩
theorem pW{h:x7}(hh:rE h){t:A9}(ht:yE h.types t){x:D0}(hlen:Hr x.graph)(hw:x.word.length<4294967281):Ev2 (fun n=>fI n h t x) (fun n=>R3 n h x) (fun a b=>a=b∧(a=0→Hq h x)):=by
 unfold fI R3
 refine Ev2.bind (Ev2.both (sS x.word hw) (yQ x.word hw)) fun a b hab=>?_
 have e0:a=b:=by
  cases a<;>cases b<;>simp_all
 subst e0
 refine Ev2.cond rfl (fun _=>Ev2.pure ⟨rfl,fun h=>absurd (show(10:Int)=0 from h) (by decide)⟩) (fun e1=>?_)
 replace e1:=bx e1
 refine Ev2.cond rfl (fun _=>Ev2.pure ⟨rfl,fun h=>absurd (show(3:Int)=0 from h) (by decide)⟩) (fun e=>?_)
 replace e:=bx e
 refine Ev2.bind (gT hh ht hlen) fun f f' hf=>?_
 obtain⟨rfl,hf⟩:=hf
 refine Ev2.cond rfl (fun e2=>Ev2.pure ⟨rfl,fun h=>?_⟩) (fun e2=>?_)
 ·replace e2:=bx e2
  exact absurd h e2
 replace e2:=bx e2
 exact Ev2.bind (rP x.meaning) fun a b hab=>by subst hab;exact Ev2.pure ⟨rfl,fun _=>⟨by omega,hf e2,hab.1.1 e1⟩⟩
structure Holds(g:y7):Prop where
 rule:∀k,k<g.rules.length→Hr (Am.get g.rules k).graph
 lex:∀k,k<g.B3.length→Hr (Am.get g.B3 k).graph∧(Am.get g.B3 k).word.length<4294967281
 start:Hr g.start
def EN(P:Prop)(a b:w5):Prop:=a=b∧(a.code=0→a=⟨0,0⟩∧P)
theorem hC{P:Prop}{a b:Int}(h:a≠0):EN P ⟨a,b⟩ ⟨a,b⟩:=⟨rfl,fun e=>absurd e h⟩
theorem mV{g:y7}(hm:Holds g):Ev2 (fun n=>aE n g) (fun n=>K7 n g) (EN (rO g)):=by
 unfold aE K7
 refine Ev2.bind ((kX g.hierarchy)) fun f f' hf=>?_
 obtain⟨rfl,hf⟩:=hf
 refine Ev2.cond rfl (fun e=>Ev2.pure ⟨rfl,fun h=>?_⟩) (fun e=>?_)
 ·replace e:=bx e
  exact absurd h e
 replace e:=bx e
 have hh:=hf e
 refine Ev2.cond rfl (fun _=>Ev2.bZ (W2 _ _) fun f hf=>by subst hf;exact Ev2.pure (hC (by decide))) (fun e1=>?_)
 replace e1:=bx e1
 refine Ev2.cond rfl (fun _=>Ev2.bZ (W2 _ _) fun f hf=>by subst hf;exact Ev2.pure (hC (by decide))) (fun e2=>?_)
 replace e2:=bx e2
 refine Ev2.bZ (iN hh.types) fun t ht=>?_
 refine Ev2.C6 (Ev2.range (fun k s _=>Known (fun i=>(Am.get g.rules i).name) k s∧∀i,i<k→zT g.hierarchy (Am.get g.rules i)) (fun _ _=>False) (EN (rO g)) ⟨oR,fun i hi=>by omega⟩ (fun k s u hk hi=>?_)) (fun s u hu=>?_) (fun r r' hr=>hr)
 ·obtain⟨hkn,hp⟩:=hi
  unfold bJ L4
  refine Ev2.bZ (jT _) fun a ha=>Ev2.yC (mT _) fun b hb=>?_
  subst ha hb
  refine Ev2.cond rfl (fun _=>Ev2.bZ (W2 _ _) fun f hf=>by subst hf;exact Ev2.pure (hC (by decide))) (fun _=>?_)
  refine Ev2.GO (by omega) ?_
  have hlen:(g.rules.take k).length=k:=by rw[List.length_take];omega
  refine Ev2.AG (fun e=>?_) (fun e=>?_)
  ·refine Ev2.sN (oT (fun i=>(Am.get g.rules i).name) (Am.get g.rules k).name ⟨7,(k:Int)⟩ (fun j hj=>?_)) (fun t ht=>?_) (fun r hr=>?_)
   ·rw[hlen]at hj
    unfold H7
    rw[iM hj]
    by_cases e2:(Am.get g.rules j).name=(Am.get g.rules k).name<;>simp[e2]
   ·rw[hlen]at ht
    rcases ht with⟨_,h2⟩|⟨h1,_⟩
    ·exact absurd ((hkn _).1 e) h2
    ·cases h1
   ·rw[hlen]at hr
    rcases hr with⟨h1,_⟩|⟨h1,_⟩
    ·cases h1
    ·cases h1
     exact Evt.bind (W2 _ _) fun f hf=>by subst hf;exact Evt.pure (hC (by decide))
  ·have hno:¬ ∃j,j<k∧(Am.get g.rules j).name=(Am.get g.rules k).name:=fun h=>by
    rw[(hkn _).2 h]at e;cases e
   refine Ev2.sN (oT (fun i=>(Am.get g.rules i).name) (Am.get g.rules k).name ⟨7,(k:Int)⟩ (fun j hj=>?_)) (fun t ht=>?_) (fun r hr=>?_)
   ·rw[hlen]at hj
    unfold H7
    rw[iM hj]
    by_cases e2:(Am.get g.rules j).name=(Am.get g.rules k).name<;>simp[e2]
   ·unfold L5
    refine Ev2.LU (Ev2.bind (rQ hh ‹yE _ _› (hm.rule k hk)) fun a b hab=>?_)
    obtain⟨rfl,hr⟩:=hab
    refine Ev2.cond rfl (fun e3=>Ev2.bZ (W2 _ _) fun f hf=>?_) (fun e3=>Ev2.pure ⟨oS hkn,fun i hi=>?_⟩)
    ·subst hf
     replace e3:=bx e3
     exact Ev2.pure (hC e3)
    ·replace e3:=bx e3
     by_cases ei:i=k
     ·subst ei;exact hr e3
     ·exact hp i (by omega)
   ·rw[hlen]at hr
    rcases hr with⟨h1,_⟩|⟨_,h2⟩
    ·cases h1
    ·exact absurd h2 hno
 ·have JX:=(hu.elim id False.elim).2
  unfold bK L6
  refine Ev2.C6 (Ev2.range (fun k _ _=>∀i,i<k→Hq g.hierarchy (Am.get g.B3 i)) (fun _ _=>False) (EN (rO g)) (fun i hi=>by omega) (fun k s u hk hi=>?_)) (fun s u hu=>?_) (fun r r' hr=>hr)
  ·unfold bL L7
   refine Ev2.bind (pW hh ht (hm.lex k hk).1 (hm.lex k hk).2) fun a b hab=>?_
   obtain⟨rfl,hr⟩:=hab
   refine Ev2.cond rfl (fun e3=>Ev2.bZ (W2 _ _) fun f hf=>?_) (fun e3=>Ev2.pure fun i hi2=>?_)
   ·subst hf
    replace e3:=bx e3
    exact Ev2.pure (hC e3)
   ·replace e3:=bx e3
    by_cases ei:i=k
    ·subst ei;exact hr e3
    ·exact hi i (by omega)
  ·have JY:=hu.elim id False.elim
   unfold bM L8
   refine Ev2.bind (gT hh ht hm.start) fun f f' hf=>?_
   obtain⟨rfl,hf⟩:=hf
   refine Ev2.cond rfl (fun e3=>Ev2.bZ (W2 _ _) fun f hf=>?_) (fun e3=>Ev2.pure ⟨rfl,fun _=>⟨rfl,?_⟩⟩)
   ·subst hf
    replace e3:=bx e3
    exact Ev2.pure (hC e3)
   ·replace e3:=bx e3
    exact⟨hh,by omega,by omega,by omega,JX,JY,hf e3⟩
inductive uZ:u0→Prop
 |mk (s:u0) (h:s.args.length≤1048576) (h2:∀k,k<s.args.length→uZ (Am.get s.args k)):uZ s
inductive CW:w6→Prop
 |mk (t:w6) (h0:uZ t.type) (h:t.args.length≤1048576) (h2:∀k,k<t.args.length→CW (Am.get t.args k)):CW t
structure wQ(g:B0):Prop where
 nodes:g.nodes.length≤1048576
 links:∀y∈g.nodes,y.links.length≤1048576
structure JZ(r:w8):Prop where
 graph:wQ r.graph
 meaning:CW r.meaning
structure MK(r:D0):Prop where
 word:r.word.length≤1048576
 graph:wQ r.graph
 meaning:CW r.meaning
structure Ka(h:x7):Prop where
 types:h.types.length≤1048576
structure Hs(g:y7):Prop where
 hier:Ka g.hierarchy
 nr:g.rules.length≤1048576
 nl:g.B3.length≤1048576
 rule:∀y∈g.rules,JZ y
 lex:∀y∈g.B3,MK y
 start:wQ g.start
theorem Hr.of{g:B0}(h:wQ g):Hr g:=fun k hk=>by
 have:=h.links _ (get_mem hk)
 omega
theorem Hs.holds{g:y7}(h:Hs g):Holds g:=⟨fun k hk=>.of (h.rule _ (get_mem hk)).graph,fun k hk=>⟨.of (h.lex _ (get_mem hk)).graph,by have:=(h.lex _ (get_mem hk)).word;omega⟩,.of h.start⟩
def wR(g:B0)(v:Int):Prop:=kY g 0 0 v∧0≤v∧v<g.nodes.length
theorem CX{h:x7}{r:w8}(hr:zT h r)(hh:h.C2.length≤40):∃v,wR r.graph v:=by
 have h1:=hr.graph.some
 obtain⟨v,hv,_⟩:=ft hr.graph hh (a:=0) (by omega) 0
 have hv:kY r.graph 0 0 v:=hv
 have hk:=hr.kids
 have:=(hr.places 0 (by omega) v hv).2 (by omega)
 exact⟨v,hv,this,hv.lt hr.graph h1⟩
theorem lR(a b:Nat):Evt (fun n=>hH n a b) (fun v=>v=(Nat.gcd a b:Nat)):=by
 unfold hH
 refine Evt.C6 (P:=ExP (fun t:Int=>t=(Nat.gcd a b:Nat)) (fun _:Int=>False)) (Evt.loop (fun s:Int×Int=>s.2.toNat) (fun s=>0≤s.1∧0≤s.2∧Nat.gcd s.1.toNat s.2.toNat=Nat.gcd a b) _ _ ⟨by show(0:Int)≤(a:Int);omega,by show(0:Int)≤(b:Int);omega,rfl⟩ (fun s hs=>?_)) (fun t ht=>Evt.pure ht) (fun r hr=>hr.elim)
 obtain⟨h0,h1,h2⟩:=hs
 unfold lS
 refine Evt.cond (fun e=>?_) (fun e=>Evt.pure ?_)
 ·replace e:=bx e
  have hm:Int.tmod s.1 s.2=((s.1.toNat%s.2.toNat:Nat):Int):=by
   obtain⟨x,hx⟩:∃x:Nat,s.1=x:=⟨s.1.toNat,by omega⟩
   obtain⟨y,hy⟩:∃y:Nat,s.2=y:=⟨s.2.toNat,by omega⟩
   rw[hx,hy,Int.toNat_natCast,Int.toNat_natCast]
   exact(Int.ofNat_tmod x y).symm
  have hp:0<s.2.toNat:=by omega
  have hlt:s.1.toNat%s.2.toNat<s.2.toNat:=Nat.mod_lt _ hp
  refine Evt.chk e (Evt.pure ?_)
  rw[hm]
  refine⟨⟨h1,by show(0:Int)≤((s.1.toNat%s.2.toNat:Nat):Int);omega,?_⟩,by show(((s.1.toNat%s.2.toNat:Nat):Int)).toNat<_;omega⟩
  show Nat.gcd s.2.toNat (((s.1.toNat%s.2.toNat:Nat):Int)).toNat=_
  rw[Int.toNat_natCast,Nat.gcd_comm, ←Nat.gcd_rec,Nat.gcd_comm,h2]
 ·replace e:=bx e
  show s.1=_
  rw[e]at h2
  simp at h2
  omega
def L2(a t:Nat):w7:=if 0<t then⟨((a / Nat.gcd a t:Nat):Int),((t / Nat.gcd a t:Nat):Int)⟩else⟨0,1⟩
theorem hJ(a:Nat)(ha:a≤1152921504606846976):Evt (fun _=>eD a) (fun v=>v=a):=by
 unfold eD
 refine Evt.cond (fun e=>?_) (fun _=>Evt.pure ?_)
 ·replace e:=bx e
  omega
 ·exact bQ (by omega)
theorem yR(a t:Nat)(ha:a≤1152921504606846976)(ht:t≤1152921504606846976)(h0:0<t):Evt (fun n=>oa n a t) (fun r=>r.1=L2 a t):=by
 have hg:0<Nat.gcd a t:=Nat.gcd_pos_of_pos_right _ h0
 have h1:a / Nat.gcd a t≤a:=Nat.div_le_self _ _
 have h2:t / Nat.gcd a t≤t:=Nat.div_le_self _ _
 unfold oa
 refine Evt.cond (fun e=>?_) (fun _=>?_)
 ·replace e:=bx e
  omega
 refine Evt.bind (hJ a ha) fun v1 e1=>Evt.bind (hJ t ht) fun v2 e2=>?_
 subst e1;subst e2
 refine Evt.bind (lR a t) fun v3 e3=>?_
 subst e3
 have d1:Int.tdiv (a:Int) (Nat.gcd a t:Nat)=((a / Nat.gcd a t:Nat):Int):=(Int.ofNat_tdiv a _).symm
 have d2:Int.tdiv (t:Int) (Nat.gcd a t:Nat)=((t / Nat.gcd a t:Nat):Int):=(Int.ofNat_tdiv t _).symm
 rw[d1,d2]
 have hk:∀x:Nat,x≤1152921504606846976→InK .u64 (x:Int):=fun x hx=>by
  have e1:IntKind.u64.min=0:=by decide
  have e2:IntKind.u64.max=18446744073709551615:=by decide
  exact⟨by omega,by omega⟩
 refine Evt.chk ⟨by omega,hk _ (by omega)⟩ (Evt.chk (hk _ (by omega)) ?_)
 refine Evt.bind (P:=fun r:w7×w5=>r.1=L2 a t) ?_ fun r hr=>Evt.pure hr
 unfold rR
 refine Evt.cond (fun e=>?_) (fun _=>Evt.cond (fun e=>?_) (fun _=>Evt.pure ?_))
 ·exfalso
  replace e:=bx e
  omega
 ·exfalso
  have e1:decide ((a:Int)<0)=false:=decide_eq_false (by omega)
  have e2:decide ((t:Int)<0)=false:=decide_eq_false (by omega)
  rw[e1,e2]at e
  cases e
 ·show w7.mk (wr .i64 ((a / Nat.gcd a t:Nat):Int)) (wr .i64 ((t / Nat.gcd a t:Nat):Int))=_
  unfold L2
  rw[if_pos h0]
  clear d1 d2
  generalize a / Nat.gcd a t=x at h1
  generalize t / Nat.gcd a t=y at h2
  rw[N9 (by omega) (by omega),N9 (by omega) (by omega)]
open Classical in
noncomputable def aW(g:y7)(k:Nat):Nat:=if h:∃v,wR (Am.get g.rules k).graph v then(Am.get (Am.get g.rules k).graph.nodes (Classical.choose h).toNat).type.toNat else 0
def cL(g:y7)(k:Nat):Nat:=(Am.get (Am.get g.B3 k).graph.nodes 0).type.toNat
theorem rS{g:y7}(hg:rO g){k:Nat}(hk:k<g.rules.length):∃v,wR (Am.get g.rules k).graph v∧(Am.get (Am.get g.rules k).graph.nodes v.toNat).type=aW g k∧aW g k<g.hierarchy.types.length:=by
 have hr:=hg.rule k hk
 have hm:=CX hr hg.hier.n
 have hs:=Classical.choose_spec hm
 have ht:=hr.graph.type (Classical.choose hm).toNat (by have:=hs.2;omega)
 refine⟨Classical.choose hm,hs,?_⟩
 have e:aW g k=(Am.get (Am.get g.rules k).graph.nodes (Classical.choose hm).toNat).type.toNat:=dif_pos hm
 rw[e]
 omega
theorem rT{g:y7}(hg:rO g){k:Nat}(hk:k<g.B3.length):(Am.get (Am.get g.B3 k).graph.nodes 0).type=cL g k∧cL g k<g.hierarchy.types.length:=by
 have hr:=(hg.lex k hk).graph
 have ht:=hr.type 0 hr.some
 unfold cL
 omega
theorem CY{h:x7}{g:B0}(hg:V4 h g)(hh:h.C2.length≤40){v:Int}(hm:wR g v):Evt (fun n=>dB n g 0 0) (fun u=>u=v):=
 (ft hg hh (a:=0) (by have:=hg.some;omega) 0).mono fun u hu=>kY.uniq hg hg.some (show kY g 0 0 u from hu) hm.1
theorem AU{h:x7}{g:B0}(hg:V4 h g){v:Int}(hm:wR g v):Evt (fun _=>K6 g 0 0) (fun u=>u=v):=
 (nT (g:=g) (a:=0) (by have:=hg.some;omega) 0).mono fun u hu=>kY.uniq hg hg.some (show kY g 0 0 u from hu) hm.1
def acc(cls:Nat→Nat)(v:Nat→Int):Nat→Nat→Int
 |0,_=>0
 |k+1,c=>acc cls v k c+if cls k=c then v k else 0
theorem jC{cls:Nat→Nat}{v:Nat→Int}{M:Int}(hM:0≤M):∀k c,(∀j,j<k→0≤v j∧v j≤M)→0≤acc cls v k c∧acc cls v k c≤k*M
 |0,c,_=>by simp[acc]
 |k+1,c,h=>by
  have ih:=jC (cls:=cls) hM k c (fun j hj=>h j (by omega))
  have hk:=h k (by omega)
  have e:((k+1:Nat):Int)*M=k*M+M:=by
   rw[Int.natCast_succ,Int.add_mul,Int.one_mul]
  rw[e]
  unfold acc
  split<;>omega
noncomputable def tot(g:y7)(c:C4)(cl:Nat):Int:=acc (aW g) (fun k=>Am.get c.rules k) g.rules.length cl+acc (cL g) (fun k=>Am.get c.B3 k) g.B3.length cl
structure FG(g:y7)(c:C4)(M:Int):Prop where
 r:c.rules.length=g.rules.length
 l:c.B3.length=g.B3.length
 vr:∀k,k<g.rules.length→0≤Am.get c.rules k∧Am.get c.rules k≤M
 vl:∀k,k<g.B3.length→0≤Am.get c.B3 k∧Am.get c.B3 k≤M
structure WSt(T:Nat)(cls:Nat→Nat)(base:Nat→Int)(v:Nat→Int)(k:Nat)(s:List Int×List Int):Prop where
 len:s.1.length=T
 sums:∀c,c<T→Am.get s.1 c=base c+acc cls v k c
 cl:s.2.length=k
 at_:∀j,j<k→Am.get s.2 j=cls j
theorem WSt.step{T:Nat}{cls:Nat→Nat}{base v:Nat→Int}{k:Nat}{s:List Int×List Int}(h:WSt T cls base v k s)(hc:cls k<T)(hb:∀c,c<T→ -4611686018427387904≤base c+acc cls v (k+1) c∧base c+acc cls v (k+1) c≤4611686018427387904):
 WSt T cls base v (k+1) (s.1.set (cls k) (wr .i64 (Am.get s.1 (cls k)+v k)),s.2++[(cls k:Int)]):=by
 refine⟨by simp;exact h.len,fun c hc2=>?_,by simp;exact h.cl,fun j hj=>?_⟩
 ·show Am.get (s.1.set (cls k) _) c=_
  rw[S1]
  by_cases e:cls k=c
  ·subst e
   rw[if_pos ⟨rfl,by rw[h.len];exact hc⟩,h.sums _ hc]
   have e2:acc cls v (k+1) (cls k)=acc cls v k (cls k)+v k:=by simp[acc]
   have:=hb (cls k) hc
   rw[e2]at this⊢
   rw[N9 (by omega) (by omega)]
   omega
  ·rw[if_neg (fun x=>e x.1),h.sums _ hc2]
   have e2:acc cls v (k+1) c=acc cls v k c:=by simp[acc,e]
   rw[e2]
 ·show Am.get (s.2++[(cls k:Int)]) j=_
  by_cases e:j=k
  ·subst e
   have:=eU (l:=s.2) (x:=(cls j:Int))
   rwa[h.cl]at this
  ·rw[ep (by rw[h.cl];omega)]
   exact h.at_ j (by omega)
theorem rU(T m:Nat)(cls:Nat→Nat)(tt:Nat→Int)(a l0 l2:List Int)(hm:m≤100)(ha:a.length=m)(h0:l0.length=m)(h2:l2.length=T)(hc:∀k,k<m→Am.get l0 k=cls k∧cls k<T)
 (hs:∀c,c<T→Am.get l2 c=tt c∧0≤tt c∧tt c≤1152921504606846976) (hv:∀k,k<m→0≤Am.get a k∧Am.get a k≤1152921504606846976):
 Evt (fun n=>cF n a l0 l2) (fun r=>r.length=m∧∀k,k<m→Am.get r k=L2 (Am.get a k).toNat (tt (cls k)).toNat):=by
 unfold cF
 refine Evt.chk (by omega) ?_
 refine Evt.C6 (Evt.range (fun k s=>s.length=k∧∀j,j<k→Am.get s j=L2 (Am.get a j).toNat (tt (cls j)).toNat) (fun _=>False) (fun _=>False) ⟨rfl,fun j h=>absurd h (Nat.not_lt_zero _)⟩ (fun k s hk hi=>?_)) (fun t ht=>?_) (fun r (hr:False)=>hr.elim)
 ·rw[h0]at hk
  obtain⟨e1,e2⟩:=hc k hk
  obtain⟨e3,e4,e5⟩:=hs (cls k) e2
  have e6:=hv k hk
  have key:∀x:w7,x=L2 (Am.get a k).toNat (tt (cls k)).toNat→(s++[x]).length=k+1∧∀j,j<k+1→Am.get (s++[x]) j=L2 (Am.get a j).toNat (tt (cls j)).toNat:=fun x hx=>by
   refine⟨by simp;exact hi.1,fun j hj=>?_⟩
   by_cases ej:j=k
   ·subst ej
    have:=eU (l:=s) (x:=x)
    rw[hi.1]at this
    rw[this,hx]
   ·rw[ep (by rw[hi.1];omega)]
    exact hi.2 j (by omega)
  have hlen:∀x:w7,(s++[x]).length=k+1:=fun x=>by simp;exact hi.1
  unfold dr
  rw[e1,Int.toNat_natCast,e3]
  refine Evt.chk (by omega) (Evt.cond (fun e=>?_) (fun e=>?_))
  ·replace e:=bx e
   obtain⟨x,hx⟩:∃x:Nat,Am.get a k=x:=⟨(Am.get a k).toNat,by omega⟩
   obtain⟨y,hy⟩:∃y:Nat,tt (cls k)=y:=⟨(tt (cls k)).toNat,by omega⟩
   rw[hx,hy]
   refine Evt.chk (by omega) (Evt.bind (yR x y (by omega) (by omega) (by omega)) fun r hr=>Evt.cR (Evt.chk (by rw[hlen,bR];omega) (Evt.pure (key _ ?_))))
   rw[hr,hx,hy]
   rfl
  ·replace e:=bx e
   refine Evt.cR (Evt.chk (by rw[hlen,bR];omega) (Evt.pure (key _ ?_)))
   unfold L2
   rw[if_neg (by omega)]
 ·simp only[ExP,or_false]at ht
  rw[h0]at ht
  exact Evt.pure ht
def WIs(g:y7)(c:C4)(r:List w7×List w7):Prop:=
 (r.1.length=g.rules.length∧∀k,k<g.rules.length→Am.get r.1 k=L2 (Am.get c.rules k).toNat (tot g c (aW g k)).toNat)∧
 (r.2.length=g.B3.length∧∀k,k<g.B3.length→Am.get r.2 k=L2 (Am.get c.B3 k).toNat (tot g c (cL g k)).toNat)
theorem rV{g:y7}(hg:rO g){c:C4}(hc:FG g c 1000000000):Evt (fun n=>dQ n g c) (WIs g c):=by
 have g1:=hg.hier.types.1
 have g2:=hg.rules
 have g3:=hg.B3
 have c1:=hc.r
 have c2:=hc.l
 have hbR:∀k cl,k≤g.rules.length→0≤acc (aW g) (fun k=>Am.get c.rules k) k cl∧acc (aW g) (fun k=>Am.get c.rules k) k cl≤40000000000:=fun k cl hk=>by
  have:=jC (cls:=aW g) (v:=fun k=>Am.get c.rules k) (M:=1000000000) (by omega) k cl (fun j hj=>hc.vr j (by omega))
  omega
 have hbL:∀k cl,k≤g.B3.length→0≤acc (cL g) (fun k=>Am.get c.B3 k) k cl∧acc (cL g) (fun k=>Am.get c.B3 k) k cl≤100000000000:=fun k cl hk=>by
  have:=jC (cls:=cL g) (v:=fun k=>Am.get c.B3 k) (M:=1000000000) (by omega) k cl (fun j hj=>hc.vl j (by omega))
  omega
 have g60:=hg.hier.types.1
 unfold dQ
 refine Evt.chk (by rw[bR];omega) ?_
 refine Evt.C6 (Evt.range (fun k s=>WSt g.hierarchy.types.length (aW g) (fun _=>0) (fun k=>Am.get c.rules k) k s) (fun _=>False) (fun _=>False) ⟨by simp,fun cl _=>by show Am.get (List.replicate _ default) cl=_;rw[mU];rfl,rfl,fun j h=>absurd h (Nat.not_lt_zero _)⟩ (fun k s hk hi=>?_)) (fun t ht=>?_) (fun r (hr:False)=>hr.elim)
 ·obtain⟨v,hmm,ht,hcl⟩:=rS hg hk
  have⟨_,hv0,hv1⟩:=hmm
  have hs:=hi.step hcl (fun cl _=>by have:=hbR (k+1) cl (by omega);omega)
  unfold eE
  refine Evt.bind (CY (hg.rule k hk).graph hg.hier.n hmm) fun u hu=>?_
  subst hu
  rw[ht,Int.toNat_natCast]
  have hl2:(s.2++[(aW g k:Int)]).length=k+1:=hs.cl
  refine Evt.chk ⟨hv0,hv1⟩ (Evt.cR (Evt.chk (by rw[hl2,bR];omega) (Evt.chk (by rw[hi.len];omega) (Evt.chk (by omega) (Evt.cR (Evt.pure hs))))))
 ·simp only[ExP,or_false]at ht
  unfold eF
  refine Evt.C6 (Evt.range (fun k s=>WSt g.hierarchy.types.length (cL g) (fun cl=>acc (aW g) (fun k=>Am.get c.rules k) g.rules.length cl) (fun k=>Am.get c.B3 k) k s) (fun _=>False) (fun _=>False) ⟨ht.len,fun cl hcl=>by have:=ht.sums cl hcl;simp only[acc];omega,rfl,fun j h=>absurd h (Nat.not_lt_zero _)⟩ (fun k s hk hi=>?_)) (fun u hu=>?_) (fun r (hr:False)=>hr.elim)
  ·obtain⟨ht2,hcl⟩:=rT hg hk
   have hs:=hi.step hcl (fun cl _=>by have:=hbR g.rules.length cl (Nat.le_refl _);have:=hbL (k+1) cl (by omega);omega)
   have hn:=(hg.lex k hk).graph.some
   unfold eG
   rw[ht2,Int.toNat_natCast]
   have hl2:(s.2++[(cL g k:Int)]).length=k+1:=hs.cl
   exact Evt.chk (by omega) (Evt.cR (Evt.chk (by rw[hl2,bR];omega) (Evt.chk (by rw[hi.len];omega) (Evt.chk (by omega) (Evt.cR (Evt.pure hs))))))
  ·simp only[ExP,or_false]at hu
   have ML:∀cl,cl<g.hierarchy.types.length→Am.get u.1 cl=tot g c cl∧0≤tot g c cl∧tot g c cl≤1152921504606846976:=fun cl hcl=>by
    have h1:=hu.sums cl hcl
    have h2:=hbR g.rules.length cl (Nat.le_refl _)
    have h3:=hbL g.B3.length cl (Nat.le_refl _)
    unfold tot
    omega
   unfold eH
   refine Evt.bind (rU g.hierarchy.types.length g.rules.length (aW g) (tot g c) c.rules t.2 u.1 (by omega) c1 ht.cl hu.len (fun k hk=>⟨ht.at_ k hk,by obtain⟨_,_,_,h⟩:=rS hg hk;exact h⟩) ML (fun k hk=>by have:=hc.vr k hk;omega)) fun x hx=>?_
   refine Evt.bind (rU g.hierarchy.types.length g.B3.length (cL g) (tot g c) c.B3 u.2 u.1 (by omega) c2 hu.cl hu.len (fun k hk=>⟨hu.at_ k hk,(rT hg hk).2⟩) ML (fun k hk=>by have:=hc.vl k hk;omega)) fun y hy=>?_
   exact Evt.pure ⟨hx,hy⟩
theorem FG.le{g:y7}{c:C4}{M N:Int}(h:FG g c M)(hm:M≤N):FG g c N:=⟨h.r,h.l,fun k hk=>by have:=h.vr k hk;omega,fun k hk=>by have:=h.vl k hk;omega⟩
set_option maxRecDepth 1000000 in
theorem sT(m:Nat):M7 (m+300)=some true:=by kernel_rfl
theorem rW:Evt M7 (fun b=>b=true):=⟨true,rfl,300,fun n hn=>by
 obtain⟨m,rfl⟩:∃m,n=m+300:=⟨n-300,by omega⟩
 exact sT m⟩
end Go.Proofs.YtoekkdodipnmpaaGreatDoor
