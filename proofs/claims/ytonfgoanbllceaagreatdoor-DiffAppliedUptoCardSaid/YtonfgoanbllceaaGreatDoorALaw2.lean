import Derived.Lib.ValidLaws
import Derived.Lib.RuneCount
import Derived.Lib.IndexAny
import Derived.Test.YtonfgoanbllceaaGreatDoorALaw1
set_option linter.unusedVariables false
set_option linter.unusedSimpArgs false
namespace Go.Proofs.YtonfgoanbllceaaGreatDoor
open Go Go.Am
def LH(T:List kW):Prop:=∀r∈T,r.kind=1∨r.kind=3→∃k,SOk r.typ k∧k≤200
theorem Nt{t:w6}{b n:Nat}(h:WfT b t n):∀ {T:List kW} {up:Int} {i:Nat},Tab t up i T→LH T:=by
 induction h with
 |con b t k h hs hk h0=>
  intro T up i hT
  cases hT with
  |leaf _ _ _ _=>intro r hr _;rw[List.mem_singleton]at hr;subst hr;exact⟨k,hs,hk⟩
  |one _ u _ _ T h1 _=>rw[h0]at h1;cases h1
  |two _ u v _ _ T U h1 _ _=>rw[h0]at h1;cases h1
 |var b t h hi h0=>
  intro T up i hT
  cases hT with
  |leaf _ _ _ _=>intro r hr hk;rw[List.mem_singleton]at hr;subst hr;simp only[rowOf]at hk;omega
  |one _ u _ _ T h1 _=>rw[h0]at h1;cases h1
  |two _ u v _ _ T U h1 _ _=>rw[h0]at h1;cases h1
 |abs b t u k n h hs hk h0 hu0 ih=>
  intro T up i hT
  cases hT with
  |leaf _ _ _ h1=>rw[h0]at h1;cases h1
  |one _ u' _ _ T h1 hT=>
   rw[h0]at h1;cases h1
   intro r hr hk2
   rcases List.mem_cons.1 hr with rfl|hr
   ·exact⟨k,hs,hk⟩
   ·exact ih hT r hr hk2
  |two _ u v _ _ T U h1 _ _=>rw[h0]at h1;cases h1
 |app b t u v n m h h0 hu0 hv0 ihu ihv=>
  intro T up i hT
  cases hT with
  |leaf _ _ _ h1=>rw[h0]at h1;cases h1
  |one _ u' _ _ T h1 hT=>rw[h0]at h1;cases h1
  |two _ u' v' _ _ T U h1 hT hU=>
   rw[h0]at h1;cases h1
   intro r hr hk
   rcases List.mem_cons.1 hr with rfl|hr
   ·simp only[rowOf]at hk;omega
   ·rcases List.mem_append.1 hr with hr|hr
    ·exact ihu hT r hr hk
    ·exact ihv hU r hr hk
structure BW(W:List kW)(ty:List u0)(i:Nat):Prop where
 len:ty.length=W.length
 typ:∀j,i≤j→j<W.length→∀u ctx m,Node W j u ctx m→nD ctx u=some (Am.get ty j)
 ok:∀j,i≤j→j<W.length→∃k,SOk (Am.get ty j) k∧k≤201*(W.length-j)
theorem BW.set{W:List kW}{ty:List u0}{i:Nat}{s:u0}(h:BW W ty (i+1))(hi:i<W.length)(h1:∀u ctx m,Node W i u ctx m→nD ctx u=some s)(h2:∃k,SOk s k∧k≤201*(W.length-i)):BW W (ty.set i s) i:=by
 obtain⟨a,b,c⟩:=h
 refine⟨by simp[a],fun j hj hj2 u ctx m hn=>?_,fun j hj hj2=>?_⟩
 ·rw[W5]
  by_cases e:i=j
  ·subst e;rw[if_pos ⟨rfl,by omega⟩];exact h1 u ctx m hn
  ·rw[if_neg (by omega)];exact b j (by omega) hj2 u ctx m hn
 ·rw[W5]
  by_cases e:i=j
  ·subst e;rw[if_pos ⟨rfl,by omega⟩];exact h2
  ·rw[if_neg (by omega)];exact c j (by omega) hj2
theorem iM{W:List kW}{i:Nat}{u:w6}{ctx:List u0}{m:Nat}(h:Node W i u ctx m):(Am.get W i).kind=u.kind∧(Am.get W i).typ=u.type∧(1≤u.kind∧u.kind≤4)∧i<W.length:=by
 cases h with
 |con _ _ _ up h e hl=>rw[e];exact⟨rfl,rfl,by omega,hl⟩
 |var _ _ _ up h hi e hl hu hup=>rw[e];exact⟨rfl,rfl,by omega,hl⟩
 |abs _ _ u _ up n h h0 e hl hu=>rw[e];exact⟨rfl,rfl,by omega,hl⟩
 |app _ _ u v _ up n m h h0 e hl hu hv=>rw[e];exact⟨rfl,rfl,by omega,hl⟩
theorem Fe{W:List kW}{i:Nat}{t:w6}{ctx:List u0}{m:Nat}(h:Node W i t ctx m)(hk:t.kind=3):(Am.get W i).kids=[((i+1:Nat):Int)]∧i+1<W.length∧∃u n,Node W (i+1) u (ctx++[t.type]) n∧nD ctx t=Ou t.type [nD (ctx++[t.type]) u]:=by
 cases h with
 |con _ _ _ up h e hl=>omega
 |var _ _ _ up h hi e hl hu hup=>omega
 |abs _ _ u _ up n h h0 e hl hu=>rw[e];exact⟨rfl,(iM hu).2.2.2,u,n,hu,IV h h0⟩
 |app _ _ u v _ up n m h h0 e hl hu hv=>omega
theorem Fg{W:List kW}{i:Nat}{t:w6}{ctx:List u0}{m:Nat}(h:Node W i t ctx m)(hk:t.kind=4):∃n,(Am.get W i).kids=[((i+1:Nat):Int),((i+1+n:Nat):Int)]∧(i+1<W.length∧i+1+n<W.length)∧∃u v q,Node W (i+1) u ctx n∧Node W (i+1+n) v ctx q∧nD ctx t=DU [nD ctx u,nD ctx v]:=by
 cases h with
 |con _ _ _ up h e hl=>omega
 |var _ _ _ up h hi e hl hu hup=>omega
 |abs _ _ u _ up n h h0 e hl hu=>omega
 |app _ _ u v _ up n m h h0 e hl hu hv=>rw[e];exact⟨n,rfl,⟨(iM hu).2.2.2,(iM hv).2.2.2⟩,u,v,m,hu,hv,DW h h0⟩
theorem KO{W:List kW}{i:Nat}{t:w6}{ctx:List u0}{m:Nat}(h:Node W i t ctx m)(hk:t.kind=1):nD ctx t=some t.type:=by
 rw[gR,if_pos hk]
theorem UpC.len{W:List kW}{up:Int}{ctx:List u0}(h:UpC W up ctx):(ctx.length:Int)≤up+1:=by
 induction h with
 |top=>simp
 |abs i ctx hi hk hu h ih=>simp only[List.length_append,List.length_cons,List.length_nil];omega
 |app i ctx hi hk hu h ih=>omega
theorem Fh{W:List kW}{i:Nat}{t:w6}{ctx:List u0}{m:Nat}(h:Node W i t ctx m)(hk:t.kind=2)(hl:W.length≤1000):Evt (fun n=>R2 n W i) (fun p=>(0≤p∧p<W.length∧(Am.get W p.toNat).kind=3)∧nD ctx t=some (Am.get W p.toNat).typ):=by
 cases h with
 |con _ _ _ up h e hl=>omega
 |var _ _ _ up h hi e hl2 hu hup=>
  have:=hu.len
  exact(IW e hl2 hi (by omega) hu).mono fun p hp=>⟨hp.1,by rw[gR,if_neg (by omega),if_pos hk,hp.2]⟩
 |abs _ _ u _ up n h h0 e hl hu=>omega
 |app _ _ u v _ up n m h h0 e hl hu hv=>omega
theorem Evt.uniq{α:Type}{x:Nat→Option α}{P:α→Prop}{r:α}(h:Evt x (fun a=>a=r))(k:Evt x P):P r:=by
 obtain⟨a,rfl,N,hN⟩:=h
 obtain⟨b,hb,M,hM⟩:=k
 have h1:=hN (max N M) (by omega)
 have h2:=hM (max N M) (by omega)
 rw[h1]at h2
 cases h2
 exact hb
theorem BX{W:List kW}{t:w6}{n:Nat}{ty:List u0}{i:Nat}(hr:LH W)(hw:W.length≤1000)(hT:Node W 0 t [] n)(hn:n=W.length)(hi:i<W.length)(h:BW W ty (i+1)):
 Evt (fun k=>N0 k W (ty,(i:Int))) (Io (fun s=>BW W s.1 i∧s.2=(i:Int)-1) (fun _=>False) (fun r=>r.2=false∧nD [] t=none)):=by
 obtain⟨u,ctx,m,hN,hS⟩:=Ns hT i (by omega) (by omega)
 obtain⟨hk,Ws,hk4,_⟩:=iM hN
 have hlen:=h.len
 have hw1:wr .i64 ((i:Int)-1)=(i:Int)-1:=G3 (by omega) (by omega)
 unfold N0
 simp only[Int.toNat_natCast,hw1]
 refine Evt.cond (fun _=>Evt.chk (by omega) ?_) (fun e=>?_)
 ·refine Evt.cond (fun e=>?_) (fun e=>Evt.cond (fun e2=>?_) (fun e2=>Evt.cond (fun e3=>?_) (fun e3=>Evt.cond (fun e4=>?_) (fun e4=>?_))))
  ·replace e:=bx e
   obtain⟨k,hk1,hk2⟩:=hr _ (get_mem hi) (.inl e)
   refine Evt.chk (by omega) (Evt.cW (Evt.pure ⟨h.set hi (fun u' ctx' m' h'=>?_) ⟨k,hk1,by omega⟩,rfl⟩))
   rw[(iM h').2.1]
   exact KO h' (by rw[←(iM h').1];exact e)
  ·replace e2:=bx e2
   obtain⟨p,hp,hpe⟩:=(Fh hN (by rw[←hk];exact e2) hw).eq
   refine Evt.bind hpe fun q hq=>?_
   subst hq
   obtain⟨⟨p0,p1,p3⟩,_⟩:=hp
   obtain⟨k,hk1,hk2⟩:=hr _ (get_mem (l:=W) (k:=q.toNat) (by omega)) (.inr p3)
   refine Evt.chk ⟨p0,p1⟩ (Evt.chk (by omega) (Evt.cW (Evt.pure ⟨h.set hi (fun u' ctx' m' h'=>?_) ⟨k,hk1,by omega⟩,rfl⟩)))
   exact(Evt.uniq hpe (Fh h' (by rw[←(iM h').1];exact e2) hw)).2
  ·replace e3:=bx e3
   obtain⟨KP,hi1,u1,n1,hN1,hty⟩:=Fe hN (by rw[←hk];exact e3)
   have g0:Am.get [((i+1:Nat):Int)] 0=((i+1:Nat):Int):=rfl
   obtain⟨k,hk1,hk2⟩:=hr _ (get_mem hi) (.inr e3)
   obtain⟨k',hk1',hk2'⟩:=h.ok (i+1) (by omega) hi1
   simp only[KP,g0,Int.toNat_natCast,fW,Option.bind_some]
   refine Evt.chk (by simp) (Evt.chk (by omega) (Evt.chk (by omega) (Evt.cW (Evt.pure ⟨h.set hi (fun u' ctx' m' h'=>?_) ⟨_,.node _ _ _ _ _ rfl rfl hk1 hk1',by omega⟩,rfl⟩))))
   obtain⟨_,_,u2,n2,hN2,UA⟩:=Fe h' (by rw[←(iM h').1];exact e3)
   rw[UA,h.typ (i+1) (by omega) hi1 _ _ _ hN2,(iM h').2.1]
   rfl
  ·replace e4:=bx e4
   obtain⟨n1,KP,⟨hi1,hi2⟩,u1,v1,q1,hN1,hN2,hty⟩:=Fg hN (by rw[←hk];exact e4)
   have g0:Am.get [((i+1:Nat):Int),((i+1+n1:Nat):Int)] 0=((i+1:Nat):Int):=rfl
   have g1:Am.get [((i+1:Nat):Int),((i+1+n1:Nat):Int)] 1=((i+1+n1:Nat):Int):=rfl
   have gl: [((i+1:Nat):Int),((i+1+n1:Nat):Int)].length=2:=rfl
   have key:∀u' ctx' m',Node W i u' ctx' m'→nD ctx' u'=DU [some (Am.get ty (i+1)),some (Am.get ty (i+1+n1))]:=fun u' ctx' m' h'=>by
    obtain⟨n1',LI,⟨Wt,UC⟩,u1',v1',q1',UD,UE,UF⟩:=Fg h' (by rw[←(iM h').1];exact e4)
    rw[KP]at LI
    have:n1'=n1:=by
     have:=(List.cons.inj (List.cons.inj LI).2).1
     omega
    subst this
    rw[UF,h.typ (i+1) (by omega) hi1 _ _ _ UD,h.typ (i+1+n1') (by omega) UC _ _ _ UE]
   obtain⟨k,hk1,hk2⟩:=h.ok (i+1) (by omega) hi1
   obtain⟨k',hk1',hk2'⟩:=h.ok (i+1+n1) (by omega) hi2
   simp only[KP,g0,g1,gl,Int.toNat_natCast]
   generalize hf:Am.get ty (i+1)=f at*
   generalize hx:Am.get ty (i+1+n1)=x at*
   have bad:DU [some f,some x]=none→nD [] t=none:=fun hb=>Classical.byContradiction fun hc=>hS hc (by rw[key _ _ _ hN,hb])
   refine Evt.chk (by omega) (Evt.chk (by omega) (Evt.chk (by omega) (Evt.chk (by omega) ?_)))
   cases hk1 with
   |leaf _ hb h0=>
    have:f.base≠ []:=by rcases hb with h|h<;>rw[h]<;>simp
    simp only[this,decide_false,Bool.not_false,cond_true,Bool.not_true]
    refine Evt.chk (J4 fun h=>by cases h) (Evt.pure ⟨rfl,bad ?_⟩)
    unfold DU
    simp only[]
    rw[if_neg (by rw[h0];simp)]
   |node _ a c j l e1 e2 e3 e4=>
    have hl2:(f.args.length:Int)=2:=by rw[e2];rfl
    simp only[e1,hl2,decide_true,Bool.not_true,Bool.not_false,cond_false]
    have ga:Am.get f.args 0=a:=by rw[e2];rfl
    refine Evt.chk (J4 fun _=>by omega) (Evt.bind (xq (s:=Am.get f.args 0) (t:=x) (by rw[ga];exact e3) hk1' (by omega) (by omega)) fun w hw2=>Evt.cond (fun e=>Evt.pure ⟨rfl,bad ?_⟩) (fun e=>Evt.chk (by omega) (Evt.chk (by omega) (Evt.cW (Evt.pure ⟨h.set hi (fun u' ctx' m' h'=>?_) ⟨l,by rw[e2];exact e4,by omega⟩,rfl⟩)))))
    ·replace e:=bx e
     unfold DU
     simp only[]
     rw[if_neg]
     intro hh
     rw[hw2.2 hh.2]at e;cases e
    ·replace e:=bx e
     rw[key _ _ _ h']
     unfold DU
     simp only[]
     rw[if_pos ⟨by omega,hw2.1 e⟩]
  ·replace e:=bx e;replace e2:=bx e2;replace e3:=bx e3;replace e4:=bx e4
   omega
 ·replace e:=bx e
  have:¬(0:Int)≤(i:Int):=by omega
  omega
theorem Ah{t:w6}{n:Nat}(h:WfT 0 t n)(hn:n≤1000):Evt (fun k=>W8 k t) (TyR [] t):=by
 unfold W8 IX
 refine Evt.bind (KN h (-1) 0 (by omega)) fun W hW=>?_
 obtain⟨hl,hT⟩:=hW
 have hN:Node W 0 t [] n:=Nr h rfl hT hl ⟨by omega,fun k _=>by rw[Nat.zero_add]⟩ .top (by omega)
 have hro:=Nt h hT
 have hpos:=(iM hN).2.2.2
 have hw1:wr .i64 ((W.length:Int)-1)=(W.length:Int)-1:=G3 (by omega) (by omega)
 rw[hw1]
 refine Evt.chk (by rw[M8];omega) (Evt.C2 (P:=ExP (fun ty=>BW W ty 0) (fun r:u0×Bool=>r.2=false∧nD [] t=none)) (Evt.loop (fun s:List u0×Int=>(s.2+1).toNat) (fun s=>∃i:Nat,i≤W.length∧s.2=(i:Int)-1∧BW W s.1 i) _ _ ⟨W.length,Nat.le_refl _,rfl,by simp,fun j h1 h2=>by omega,fun j h1 h2=>by omega⟩ (fun s hs=>?_)) (fun ty hty=>?_) (fun r hr=>.inr hr))
 ·obtain⟨i,hi,hs2,hinv⟩:=hs
  obtain⟨ty,x⟩:=s
  simp only at hs2 hinv
  subst hs2
  match i,hi,hinv with
  |0,hi,hinv=>
   unfold N0
   refine Evt.cond (fun e=>?_) (fun e=>Evt.pure hinv)
   replace e:=bx e
   have e:(0:Int)≤((0:Nat):Int)-1:=e
   omega
  |i+1,hi,hinv=>
   have:=BX hro (by omega) hN (by omega) (by omega) hinv
   rw[show(((i+1:Nat):Int)-1)=(i:Int)by omega]
   refine this.mono fun c hc=>?_
   cases c with
   |nxt s'=>exact⟨⟨i,by omega,hc.2,hc.1⟩,by show(s'.2+1).toNat<((i:Int)+1).toNat;rw[hc.2];omega⟩
   |brk t'=>exact hc.elim
   |ret r=>exact hc
 ·have hty:BW W ty 0:=hty
  unfold X8
  have:=hty.len
  exact Evt.chk (by omega) (Evt.pure (.inl ⟨rfl,hty.typ 0 (by omega) (by omega) _ _ _ hN⟩))
theorem Ai(t:w6):Ev2 (fun n=>fu n t) (fun n=>R3 n t) (fun a b=>a=b):=by
 unfold fu R3
 have h1:=oH _ t (Nat.le_refl _) 1 0 0 (by omega) (by omega) (by omega) (by omega) (by omega) (by omega)
 refine Ev2.gB h1 fun a ha=>?_
 obtain⟨rfl,_⟩:=ha
 by_cases hc:(qu t 1 0 0).1.code=0
 ·obtain⟨n,hwf,_,hn⟩:=Nq _ t (Nat.le_refl _) 1 0 0 hc
  refine Ev2.yq (qQ t) (fun u hu=>?_) (fun r hr=>?_)
  ·simp only[hc,decide_true,Bool.not_true,cond_false]
   unfold U4
   refine Ev2.gB (BT hwf (ctx:=[]) ⟨rfl,fun j hj=>by omega⟩ (by omega) (by omega)) fun x hx=>Ev2.DL (Ah hwf (by omega)) fun y hy=>?_
   have e:x.2=y.2:=by
    rcases hx with⟨h1,h2⟩|⟨h1,h2⟩<;>rcases hy with⟨h3,h4⟩|⟨h3,h4⟩
    ·rw[h1,h3]
    ·rw[h4]at h2;cases h2
    ·rw[h4]at h2;cases h2
    ·rw[h1,h3]
   rw[e]
   exact Ev2.cond rfl (fun _=>Ev2.pure rfl) (fun _=>Ev2.pure rfl)
  ·rw[if_pos hc]at hr;cases hr
 ·refine Ev2.yq (qQ t) (fun u hu=>?_) (fun r hr=>?_)
  ·rw[if_neg hc]at hu;cases hu
  ·rw[if_neg hc]at hr;cases hr
   simp only[hc,decide_false,Bool.not_false,cond_true]
   exact Evt.pure rfl
end Go.Proofs.YtonfgoanbllceaaGreatDoor
namespace Go.Proofs.YtonfgoanbllceaaGreatDoor
open Go Go.Am Go.Lib
theorem LJ(s:Bs):(bs s).data.toList=s:=by simp[bs]
theorem Qn(s:Bs):(bs s).size=s.length:=by simp[bs,ByteArray.size]
theorem kX{s:Bs}{p:Nat}(h:p<s.length):1≤jB s p:=by
 unfold jB
 rw[if_pos h]
 exact Lib.decode_width_pos _ _ (by rw[Qn];exact h)
theorem IY(s:Bs)(i:Int):0≤B2 s i:=by unfold B2;omega
theorem fX(s:Bs)(i:Nat):B2 s i=((s.getD i 0).toNat:Int):=by unfold B2;rw[Int.toNat_natCast]
def rpos(s:Bs):Nat→Nat
 |0=>0
 |k+1=>rpos s k+jB s (rpos s k)
def RC(s:Bs)(c:Nat):Prop:=s.length≤rpos s c∧∀j,j<c→rpos s j<s.length
theorem xr(s:Bs){j k:Nat}(h:j≤k):rpos s j≤rpos s k:=by
 induction k with
 |zero=>have:j=0:=by omega
        subst this;exact Nat.le_refl _
 |succ k ih=>
  by_cases e:j=k+1
  ·subst e;exact Nat.le_refl _
  ·have:=ih (by omega)
   show rpos s j≤rpos s k+jB s (rpos s k)
   omega
theorem RC.uniq{s:Bs}{c d:Nat}(h:RC s c)(k:RC s d):c=d:=by
 rcases Nat.lt_trichotomy c d with e|e|e
 ·have:=k.2 c e;have:=h.1;omega
 ·exact e
 ·have:=h.2 d e;have:=k.1;omega
theorem IZ{s:Bs}:∀ {k:Nat},(∀j,j<k→rpos s j<s.length)→k≤rpos s k
 |0,_=>Nat.le_refl _
 |k+1,h=>by
  have h1:=IZ (s:=s) (k:=k) (fun j hj=>h j (by omega))
  have h2:=kX (h k (by omega))
  show k+1≤rpos s k+jB s (rpos s k)
  omega
theorem Qo{s:Bs}{c:Nat}(h:∀j,j<c→rpos s j<s.length):c≤s.length:=by
 cases c with
 |zero=>omega
 |succ c=>have h1:=IZ (s:=s) (k:=c) (fun j hj=>h j (by omega));have h2:=h c (by omega);omega
theorem BZ(s:Bs)(hs:s.length<4294967296):Evt (fun n=>M6 n s) (fun v=>∃c:Nat,v=c∧RC s c):=by
 unfold M6
 refine Evt.C2 (P:=ExP (fun v:Int=>∃c:Nat,v=c∧RC s c) (fun _=>False)) (Evt.loop (fun u:Nat×Int=>s.length-u.1) (fun u=>∃k:Nat,u=(rpos s k,(k:Int))∧∀j,j<k→rpos s j<s.length) _ _ ⟨0,rfl,fun j hj=>by omega⟩ (fun u hu=>?_)) (fun t ht=>Evt.pure ht) (fun _ h=>h.elim)
 obtain⟨k,rfl,hk⟩:=hu
 unfold O1
 have hkl:=Qo hk
 refine Evt.cond (fun e=>Evt.pure ?_) (fun e=>Evt.pure ?_)
 ·replace e:=bx e
  have e:rpos s k<s.length:=e
  have:=kX e
  refine⟨⟨k+1,?_,fun j hj=>?_⟩,by show s.length-(rpos s k+jB s (rpos s k))<s.length-rpos s k;omega⟩
  ·show(rpos s k+jB s (rpos s k),wr .i64 ((k:Int)+1))=_
   rw[G3 (by omega) (by omega)];rfl
  ·by_cases ej:j=k
   ·subst ej;exact e
   ·exact hk j (by omega)
 ·replace e:=bx e
  have e:s.length≤rpos s k:=e
  exact⟨k,rfl,e,hk⟩
def uZ(r:Int):Prop:=r=32∨r=9∨r=10∨r=40∨r=41∨r=91∨r=93∨r=44∨r=59
def stops:Bs:=[32,9,10,40,41,91,93,44,59]
theorem xt(b:UInt8):b∈stops↔uZ (b.toNat:Int):=by
 unfold stops uZ
 simp only[List.mem_cons,List.not_mem_nil,or_false, ←UInt8.toNat_inj]
 simp only[UInt8.reduceToNat]
 omega
theorem DX{n b0 b1 b2 b3:Nat}(h:(decodeN n b0 b1 b2 b3).1<128):b0<128∧(decodeN n b0 b1 b2 b3).1=b0:=by
 unfold decodeN at h⊢
 repeat' split at h
 all_goals first|(rename_i h1;exact⟨h1,by simp[h1]⟩)|(exfalso;simp only at h;omega)
theorem decodeN_ascii{n b0 b1 b2 b3:Nat}(h:b0<128):decodeN n b0 b1 b2 b3=(b0,1):=by unfold decodeN;rw[if_pos h]
theorem Gj{n b0 b1 b2 b3:Nat}:(2≤(decodeN n b0 b1 b2 b3).2→128≤b1)∧(3≤(decodeN n b0 b1 b2 b3).2→128≤b2)∧(4≤(decodeN n b0 b1 b2 b3).2→128≤b3)∧(decodeN n b0 b1 b2 b3).2≤4:=by
 unfold decodeN
 repeat' split
 all_goals (refine⟨fun h=>?_,fun h=>?_,fun h=>?_,?_⟩<;>(try simp only at h)<;>(try simp only)<;>omega)
theorem Gk{n b0 b1 b2 b3:Nat}(hn:1≤n):(decodeN n b0 b1 b2 b3).2≤n:=by
 unfold decodeN
 repeat' split
 all_goals (simp only;omega)
theorem decodeL_le{l:Bs}(h:0<l.length):(decodeL l).2≤l.length:=by rw[decodeL_N];exact Gk h
theorem DY(s:Bs)(p:Nat):rune s p=((decodeN (s.length-p) (s.getD p 0).toNat (s.getD (p+1) 0).toNat (s.getD (p+2) 0).toNat (s.getD (p+3) 0).toNat).1:Nat):=by
 unfold rune
 rw[decode_N,LJ]
theorem KQ{s:Bs}{p:Nat}(h:p<s.length):jB s p=(decodeN (s.length-p) (s.getD p 0).toNat (s.getD (p+1) 0).toNat (s.getD (p+2) 0).toNat (s.getD (p+3) 0).toNat).2:=by
 unfold jB
 rw[if_pos h,decode_N,LJ]
theorem KR{s:Bs}{p:Nat}(h:rune s p<128):rune s p=((s.getD p 0).toNat:Int):=by
 rw[DY]at h⊢
 rw[(DX (by omega)).2]
theorem DZ{r:Int}(h:uZ r):r<128:=by unfold uZ at h;omega
def LK(s:Bs):Prop:=∃k,rpos s k<s.length∧uZ (rune s (rpos s k))
theorem kg{s:Bs}{p:Nat}(h:p<s.length):s.getD p 0∈s:=by
 rw[List.getD_eq_getElem?_getD,List.getElem?_eq_getElem h]
 exact List.getElem_mem h
theorem Gm{s:Bs}{i:Nat}(hi:i<s.length)(hb:(s.getD i 0).toNat<128):∃k,rpos s k=i:=by
 have key:∀m,∃k,(rpos s k=i)∨(rpos s k<i∧m≤rpos s k):=by
  intro m
  induction m with
  |zero=>
   by_cases h0:i=0
   ·exact⟨0,.inl h0.symm⟩
   ·exact⟨0,.inr ⟨by show 0<i;omega,Nat.zero_le _⟩⟩
  |succ m ih=>
   obtain⟨k,h|⟨h1,h2⟩⟩:=ih
   ·exact⟨k,.inl h⟩
   ·have hlt:rpos s k<s.length:=by omega
    have hw:=kX hlt
    have hwe:=KQ hlt
    have hin:=Gj (n:=s.length-rpos s k) (b0:=(s.getD (rpos s k) 0).toNat) (b1:=(s.getD (rpos s k+1) 0).toNat) (b2:=(s.getD (rpos s k+2) 0).toNat) (b3:=(s.getD (rpos s k+3) 0).toNat)
    rw[←hwe]at hin
    have hstep:rpos s (k+1)=rpos s k+jB s (rpos s k):=rfl
    by_cases e:rpos s (k+1)≤i
    ·by_cases e2:rpos s (k+1)=i
     ·exact⟨k+1,.inl e2⟩
     ·exact⟨k+1,.inr ⟨by omega,by omega⟩⟩
    ·exfalso
     obtain⟨a1,a2,a3,a4⟩:=hin
     obtain⟨d,hd⟩:∃d,i=rpos s k+d:=⟨i-rpos s k,by omega⟩
     have hd':d=1∨d=2∨d=3:=by omega
     rcases hd' with rfl|rfl|rfl
     ·have:=a1 (by omega);rw[←hd]at this;omega
     ·have:=a2 (by omega);rw[←hd]at this;omega
     ·have:=a3 (by omega);rw[←hd]at this;omega
 obtain⟨k,h|⟨h1,h2⟩⟩:=key i
 ·exact⟨k,h⟩
 ·omega
theorem KS(s:Bs):LK s↔ ∃b∈s,b∈stops:=by
 constructor
 ·rintro⟨k,h1,h2⟩
  refine⟨s.getD (rpos s k) 0,kg h1,(xt _).2 ?_⟩
  rw[←KR (DZ h2)]
  exact h2
 ·rintro⟨b,hb,hs⟩
  obtain⟨i,hi,e⟩:=List.getElem_of_mem hb
  have e2:s.getD i 0=b:=by rw[List.getD_eq_getElem?_getD,List.getElem?_eq_getElem hi];exact e
  have h3:=(xt b).1 hs
  have Ql:=DZ h3
  obtain⟨k,hk⟩:=Gm hi (by rw[e2];omega)
  refine⟨k,by omega,?_⟩
  rw[hk,DY,e2,decodeN_ascii (by omega)]
  exact h3
theorem qw{j0:Int×Int×Int}{l:Bs}{r i:Int}(hi0:0≤i)(hi:i<j0.1)(h1:i<l.length)(h4:i<5)(hr:0≤r)(hr2:r<100000000000)(hg:128≤B2 l i∧B2 l i≤191):dP (fun _=>D9 j0 l) (r,i) (64*r+B2 l i-128,i+1):=by
 refine dP.one ?_
 unfold D9
 refine Evt.cond (fun _=>Evt.chk ⟨hi0,h1⟩ (Evt.cond (fun e=>?_) (fun _=>Evt.pure ?_))) (fun e=>?_)
 ·replace e:=bx e
  have e:B2 l i<128∨191<B2 l i:=e
  omega
 ·show Ctl.nxt (wr .i64 (wr .i64 (wr .i64 (64*r)+wr .i64 (B2 l i))-128),wr .i64 (i+1))=_
  have hb:=IY l i
  rw[G3 (n:=64*r) (by omega) (by omega),G3 (n:=B2 l i) (by omega) (by omega),G3 (n:=64*r+B2 l i) (by omega) (by omega),G3 (by omega) (by omega),G3 (by omega) (by omega)]
 ·replace e:=bx e
  have e:j0.1≤i:=e
  omega
theorem zf{j0:Int×Int×Int}{l:Bs}{r i:Int}(hi0:0≤i)(hi:i<j0.1)(h1:i<l.length)(hg:B2 l i<128∨191<B2 l i):jk (fun _=>D9 j0 l) (r,i) (.ret 0):=by
 refine jk.ret ?_
 unfold D9
 refine Evt.cond (fun _=>Evt.chk ⟨hi0,h1⟩ (Evt.cond (fun e=>Evt.pure rfl) (fun e=>?_))) (fun e=>?_)
 ·replace e:=bx e
  have e1:128≤B2 l i:=e.1
  have e2:B2 l i≤191:=e.2
  omega
 ·replace e:=bx e
  have e:j0.1≤i:=e
  omega
theorem Ja{j0:Int×Int×Int}{l:Bs}{r i:Int}(hi:i=j0.1):jk (fun _=>D9 j0 l) (r,i) (.nxt r):=by
 refine jk.brk ?_
 unfold D9
 refine Evt.cond (fun e=>?_) (fun _=>Evt.pure rfl)
 replace e:=bx e
 have e:i<j0.1:=e
 omega
theorem sI{j0:Int×Int×Int}{l:Bs}{e:Ex Int Int}{v:Int}(hl:¬(l.length:Int)<j0.1)(h:jk (fun _=>D9 j0 l) (j0.2.2,1) e)(hv:(e= .ret v)∨∃r,e= .nxt r∧v=if r<j0.2.1∨1114111<r∨(55296≤r∧r≤57343)then 0 else j0.1):Evt (fun n=>E3 n l j0) (fun w=>w=v):=by
 unfold E3
 refine Evt.cond (fun e2=>?_) (fun _=>Evt.C2 h.evt (fun t ht=>?_) (fun r hr=>?_))
 ·replace e2:=bx e2
  exact absurd e2 hl
 ·subst ht
  rcases hv with hv|⟨r,hv,hv2⟩
  ·cases hv
  ·cases hv
   unfold S9
   refine Evt.cond (fun e2=>Evt.pure ?_) (fun e2=>Evt.pure ?_)
   ·replace e2:=bx e2
    rw[hv2,if_pos (by omega)]
   ·replace e2:=bx e2
    rw[hv2,if_neg]
    rintro(h|h|h)
    ·omega
    ·omega
    ·simp[h]at e2;omega
 ·rcases hv with hv|⟨q,hv,hv2⟩
  ·rw[hv]at hr;cases hr;rfl
  ·rw[hv]at hr;cases hr
theorem Aj{j0:Int×Int×Int}{l:Bs}(hl:(l.length:Int)<j0.1):Evt (fun n=>E3 n l j0) (fun w=>w=0):=by
 unfold E3
 exact Evt.cond (fun _=>Evt.pure rfl) (fun e=>by replace e:=bx e;omega)
def lenOf(p:Nat×Nat):Int:=if p.1=65533∧p.2=1 then 0 else p.2
theorem dQ{p:Nat×Nat}(h:p=(65533,1)):lenOf p=0:=by subst h;rfl
theorem ud{p:Nat×Nat}(h:p.2≠1):lenOf p=p.2:=by unfold lenOf;rw[if_neg (fun e=>h e.2)]
theorem Ak{l:Bs}(hl:0<l.length):Evt (fun n=>P6 n l) (fun v=>v=lenOf (decodeL l)):=by
 rw[decodeL_N]
 have e0:=fX l 0
 have e1:=fX l 1
 have e2:=fX l 2
 have e3:=fX l 3
 have q0:=(l.getD 0 0).toNat_lt
 have q1:=(l.getD 1 0).toNat_lt
 have q2:=(l.getD 2 0).toNat_lt
 have q3:=(l.getD 3 0).toNat_lt
 generalize (l.getD 0 0).toNat=b0 at*
 generalize (l.getD 1 0).toNat=b1 at*
 generalize (l.getD 2 0).toNat=b2 at*
 generalize (l.getD 3 0).toNat=b3 at*
 have e0:B2 l 0=(b0:Int):=e0
 have e1:B2 l 1=(b1:Int):=e1
 have e2:B2 l 2=(b2:Int):=e2
 have e3:B2 l 3=(b3:Int):=e3
 unfold P6
 rw[e0]
 have w0:wr .i64 (b0:Int)=b0:=G3 (by omega) (by omega)
 rw[w0]
 refine Evt.chk (by omega) (Evt.cond (fun e=>Evt.pure ?_) (fun e=>Evt.cond (fun k=>?_) (fun k=>Evt.cond (fun k2=>?_) (fun k2=>Evt.cond (fun k3=>?_) (fun k3=>Evt.pure ?_)))))
 ·replace e:=bx e
  rw[decodeN_ascii (by omega)]
  unfold lenOf
  simp only
  rw[if_neg (by omega)];rfl
 ·replace e:=bx e;replace k:=bx k
  rw[G3 (n:=(b0:Int)-192) (by omega) (by omega)]
  by_cases hn:(l.length:Int)<2
  ·refine(Aj hn).mono fun w hw=>?_
   rw[hw,dQ]
   unfold decodeN
   repeat' split
   all_goals first|rfl|(exfalso;omega)
  ·by_cases g1:128≤B2 l 1∧B2 l 1≤191
   ·have h:=(qw (j0:=(2,128,(b0:Int)-192)) (l:=l) (r:=(b0:Int)-192) (i:=1) (by omega) (by show(1:Int)<2;omega) (by omega) (by omega) (by omega) (by omega) g1).ends (Ja rfl)
    refine sI hn h (.inr ⟨_,rfl,?_⟩)
    rw[e1]at g1⊢
    show _=if 64*((b0:Int)-192)+(b1:Int)-128<128∨1114111<64*((b0:Int)-192)+(b1:Int)-128∨(55296≤64*((b0:Int)-192)+(b1:Int)-128∧64*((b0:Int)-192)+(b1:Int)-128≤57343)then(0:Int)else 2
    rw[if_neg (by omega)]
    obtain⟨x,hx⟩:∃x,decodeN l.length b0 b1 b2 b3=(x,2):=⟨_,by unfold decodeN;rw[if_neg (by omega),if_pos (by omega),if_pos (by omega)]⟩
    rw[hx,ud (by simp)];rfl
   ·have h:=zf (j0:=(2,128,(b0:Int)-192)) (l:=l) (r:=(b0:Int)-192) (i:=1) (by omega) (by show(1:Int)<2;omega) (by omega) (by omega)
    refine sI hn h (.inl ?_)
    rw[e1]at g1
    rw[dQ]
    unfold decodeN
    repeat' split
    all_goals first|rfl|(exfalso;omega)
 ·replace e:=bx e;replace k2:=bx k2
  have k:=k2
  rw[G3 (n:=(b0:Int)-224) (by omega) (by omega)]
  by_cases hn:(l.length:Int)<3
  ·refine(Aj hn).mono fun w hw=>?_
   rw[hw,dQ]
   unfold decodeN
   repeat' split
   all_goals first|rfl|(exfalso;omega)
  ·by_cases g1:128≤B2 l 1∧B2 l 1≤191
   ·have s1:=qw (j0:=(3,2048,(b0:Int)-224)) (l:=l) (r:=(b0:Int)-224) (i:=1) (by omega) (by show(1:Int)<3;omega) (by omega) (by omega) (by omega) (by omega) g1
    by_cases g2:128≤B2 l 2∧B2 l 2≤191
    ·have h:=(s1.trans (qw (j0:=(3,2048,(b0:Int)-224)) (l:=l) (r:=64*((b0:Int)-224)+B2 l 1-128) (i:=2) (by omega) (by show(2:Int)<3;omega) (by omega) (by omega) (by omega) (by omega) g2)).ends (Ja rfl)
     refine sI hn h (.inr ⟨_,rfl,?_⟩)
     rw[e1]at g1;rw[e2]at g2;rw[e1,e2]
     generalize hr:64*(64*((b0:Int)-224)+(b1:Int)-128)+(b2:Int)-128=r
     show _=if r<2048∨1114111<r∨(55296≤r∧r≤57343)then(0:Int)else 3
     by_cases hc:r<2048∨1114111<r∨(55296≤r∧r≤57343)
     ·rw[if_pos hc,dQ]
      unfold decodeN
      repeat' split
      all_goals first|rfl|(exfalso;omega)
     ·rw[if_neg hc]
      obtain⟨x,hx⟩:∃x,decodeN l.length b0 b1 b2 b3=(x,3):=⟨_,by unfold decodeN;rw[if_neg (by omega),if_neg (by omega),if_pos (by omega),if_pos (by omega)]⟩
      rw[hx,ud (by simp)];rfl
    ·have h:=s1.ends (zf (i:=2) (by omega) (by show(2:Int)<3;omega) (by omega) (by omega))
     refine sI hn h (.inl ?_)
     rw[e1]at g1;rw[e2]at g2
     rw[dQ]
     unfold decodeN
     repeat' split
     all_goals first|rfl|(exfalso;omega)
   ·have h:=zf (j0:=(3,2048,(b0:Int)-224)) (l:=l) (r:=(b0:Int)-224) (i:=1) (by omega) (by show(1:Int)<3;omega) (by omega) (by omega)
    refine sI hn h (.inl ?_)
    rw[e1]at g1
    rw[dQ]
    unfold decodeN
    repeat' split
    all_goals first|rfl|(exfalso;omega)
 ·replace e:=bx e;replace k3:=bx k3
  rw[G3 (n:=(b0:Int)-240) (by omega) (by omega)]
  by_cases hn:(l.length:Int)<4
  ·refine(Aj hn).mono fun w hw=>?_
   rw[hw,dQ]
   unfold decodeN
   repeat' split
   all_goals first|rfl|(exfalso;omega)
  ·by_cases g1:128≤B2 l 1∧B2 l 1≤191
   ·have s1:=qw (j0:=(4,65536,(b0:Int)-240)) (l:=l) (r:=(b0:Int)-240) (i:=1) (by omega) (by show(1:Int)<4;omega) (by omega) (by omega) (by omega) (by omega) g1
    by_cases g2:128≤B2 l 2∧B2 l 2≤191
    ·have s2:=s1.trans (qw (j0:=(4,65536,(b0:Int)-240)) (l:=l) (r:=64*((b0:Int)-240)+B2 l 1-128) (i:=2) (by omega) (by show(2:Int)<4;omega) (by omega) (by omega) (by omega) (by omega) g2)
     by_cases g3:128≤B2 l 3∧B2 l 3≤191
     ·have h:=(s2.trans (qw (j0:=(4,65536,(b0:Int)-240)) (l:=l) (r:=64*(64*((b0:Int)-240)+B2 l 1-128)+B2 l 2-128) (i:=3) (by omega) (by show(3:Int)<4;omega) (by omega) (by omega) (by omega) (by omega) g3)).ends (Ja rfl)
      refine sI hn h (.inr ⟨_,rfl,?_⟩)
      rw[e1]at g1;rw[e2]at g2;rw[e3]at g3;rw[e1,e2,e3]
      generalize hr:64*(64*(64*((b0:Int)-240)+(b1:Int)-128)+(b2:Int)-128)+(b3:Int)-128=r
      show _=if r<65536∨1114111<r∨(55296≤r∧r≤57343)then(0:Int)else 4
      by_cases hc:r<65536∨1114111<r∨(55296≤r∧r≤57343)
      ·rw[if_pos hc,dQ]
       unfold decodeN
       repeat' split
       all_goals first|rfl|(exfalso;omega)
      ·rw[if_neg hc]
       obtain⟨x,hx⟩:∃x,decodeN l.length b0 b1 b2 b3=(x,4):=⟨_,by unfold decodeN;rw[if_neg (by omega),if_neg (by omega),if_neg (by omega),if_pos (by omega),if_pos (by omega)]⟩
       rw[hx,ud (by simp)];rfl
     ·have h:=s2.ends (zf (i:=3) (by omega) (by show(3:Int)<4;omega) (by omega) (by omega))
      refine sI hn h (.inl ?_)
      rw[e1]at g1;rw[e2]at g2;rw[e3]at g3
      rw[dQ]
      unfold decodeN
      repeat' split
      all_goals first|rfl|(exfalso;omega)
    ·have h:=s1.ends (zf (i:=2) (by omega) (by show(2:Int)<4;omega) (by omega) (by omega))
     refine sI hn h (.inl ?_)
     rw[e1]at g1;rw[e2]at g2
     rw[dQ]
     unfold decodeN
     repeat' split
     all_goals first|rfl|(exfalso;omega)
   ·have h:=zf (j0:=(4,65536,(b0:Int)-240)) (l:=l) (r:=(b0:Int)-240) (i:=1) (by omega) (by show(1:Int)<4;omega) (by omega) (by omega)
    refine sI hn h (.inl ?_)
    rw[e1]at g1
    rw[dQ]
    unfold decodeN
    repeat' split
    all_goals first|rfl|(exfalso;omega)
 ·replace e:=bx e;replace k:=bx k;replace k2:=bx k2;replace k3:=bx k3
  rw[dQ]
  unfold decodeN
  repeat' split
  all_goals first|rfl|(exfalso;omega)
theorem Nu:∀b:Fin 256,∀i:Fin 8,decide ((b.val*2^(8*i.val))&&&9259542123273814144=0)=decide (b.val<128):=by decide+kernel
theorem jF(b:UInt8)(i:Nat)(hi:i<8):(b.toNat*2^(8*i))&&&9259542123273814144=0↔b.toNat<128:=by
 have:=Nu ⟨b.toNat,b.toNat_lt⟩ ⟨i,hi⟩
 simpa using this
def IsW(v:Int)(w:Nat):Prop:=v=w∧w<18446744073709551616
theorem IsW.or{v u:Int}{w x:Nat}(h:IsW v w)(k:IsW u x):IsW (Y9 .or .u64 v u) (w|||x):=by
 obtain⟨rfl,h⟩:=h
 obtain⟨rfl,k⟩:=k
 exact⟨BM h k,Nat.or_lt_two_pow (n:=64) h k⟩
theorem oc(b:UInt8)(i:Nat)(hi:i<8):IsW (wr .u64 (wr .u64 (b.toNat:Int)*2^(min (8*i) 64))) (b.toNat*2^(8*i)):=by
 have hb:=b.toNat_lt
 have h1:b.toNat*2^(8*i)≤255*2^56:=Nat.mul_le_mul (by omega) (Nat.pow_le_pow_right (by decide) (by omega))
 have h2:b.toNat*2^(8*i)<18446744073709551616:=by omega
 refine⟨?_,h2⟩
 have e1:wr .u64 (b.toNat:Int)=(b.toNat:Int):=iK (by omega)
 have e2:min (8*i) 64=8*i:=by omega
 rw[e1,e2]
 have e3:((b.toNat:Int)*2^(8*i))=((b.toNat*2^(8*i):Nat):Int):=by simp
 rw[e3]
 exact iK h2
theorem KT(b:UInt8):IsW (wr .u64 (b.toNat:Int)) (b.toNat*2^(8*0)):=by
 have hb:=b.toNat_lt
 have e1:wr .u64 (b.toNat:Int)=(b.toNat:Int):=iK (by omega)
 exact⟨by rw[e1];simp,by simp;omega⟩
theorem Al{v:Int}{w:Nat}(h:IsW v w):Y9 .and .u64 v 9259542123273814144=0↔w&&&9259542123273814144=0:=by
 obtain⟨rfl,h⟩:=h
 have:=qq (x:=w) (y:=9259542123273814144) h (by decide)
 have e:((9259542123273814144:Nat):Int)=9259542123273814144:=rfl
 rw[e]at this
 rw[this]
 omega
theorem dx{s:Bs}(h:8≤s.length):Evt (fun _=>F2 s) (fun v=>∃w,IsW v w∧(w&&&9259542123273814144=0↔ ∀b∈s.take 8,b.toNat<128)):=by
 match s,h with
 |b0::b1::b2::b3::b4::b5::b6::b7::t,h=>
  unfold F2
  refine Evt.cond (fun e=>by cases e) (fun _=>Evt.chk (by omega) (Evt.chk (by omega) (Evt.chk (by omega) (Evt.chk (by omega) (Evt.chk (by omega) (Evt.chk (by omega) (Evt.chk (by omega) (Evt.chk (by omega) (Evt.pure ⟨_,(((((((KT b0).or (oc b1 1 (by omega))).or (oc b2 2 (by omega))).or (oc b3 3 (by omega))).or (oc b4 4 (by omega))).or (oc b5 5 (by omega))).or (oc b6 6 (by omega))).or (oc b7 7 (by omega)),?_⟩)))))))))
  simp only[or_mask,jF _ _ (show 0<8 by omega),jF _ _ (show 1<8 by omega),jF _ _ (show 2<8 by omega),jF _ _ (show 3<8 by omega),jF _ _ (show 4<8 by omega),jF _ _ (show 5<8 by omega),jF _ _ (show 6<8 by omega),jF _ _ (show 7<8 by omega)]
  simp only[List.take_succ_cons,List.take_zero,List.mem_cons,List.not_mem_nil,or_false,forall_eq_or_imp,forall_eq]
  simp only[and_assoc]
theorem gS{s:Bs}(h:∀b∈s.take 8,b.toNat<128):validD s=validD (s.drop 8):=validD_ascii 8 s h
theorem uf(L:Nat)(V:Bool)(s:Bs)(hs:s.length≤L)(hv:validD s=V):Evt (fun _=>P7 s) (Io (fun s'=>(s'.length≤L∧validD s'=V)∧s'.length<s.length) (fun t=>t.length≤L∧validD t=V) (fun _=>False)):=by
 unfold P7
 by_cases h:(32:Int)<(s.length:Int)
 ·simp only[h,decide_true,ig,cond_true]
  refine Evt.bind (dx (by omega)) fun a ha=>Evt.chk (J4 fun _=>by omega) (Evt.bind (dx (by rw[List.length_drop];omega)) fun b hb=>Evt.chk (J4 fun _=>by omega)
   (Evt.bind (dx (by rw[List.length_drop];omega)) fun c hc=>Evt.chk ⟨J4 fun _=>by omega,J4 fun _=>by omega⟩ (Evt.bind (dx (by rw[List.length_drop];omega)) fun d hd=>Evt.cond (fun e=>Evt.chk ⟨by omega,by omega⟩ (Evt.pure ?_)) (fun _=>Evt.pure ⟨hs,hv⟩))))
  replace e:=bx e
  obtain⟨wa,ia,ma⟩:=ha
  obtain⟨wb,ib,mb⟩:=hb
  obtain⟨wc,ic,mc⟩:=hc
  obtain⟨wd,id,md⟩:=hd
  have e2:=(Al ((ia.or ib).or (ic.or id))).1 e
  simp only[or_mask,ma,mb,mc,md]at e2
  obtain⟨⟨k1,k2⟩,k3,k4⟩:=e2
  refine⟨⟨by rw[List.length_drop];omega,?_⟩,by rw[List.length_drop];omega⟩
  have r1:=gS k1
  have r2:=gS k2
  have r3:=gS k3
  have r4:=gS k4
  rw[List.drop_drop]at r2 r3 r4
  rw[←hv,r1,r2,r3,r4]
 ·simp only[h,decide_false,oa,cond_false,Option.bind_some]
  exact Evt.chk (J4 fun h=>Bool.noConfusion h) (Evt.chk (J4 fun h=>Bool.noConfusion h) (Evt.chk ⟨J4 fun h=>Bool.noConfusion h,J4 fun h=>Bool.noConfusion h⟩ (Evt.pure ⟨hs,hv⟩)))
theorem Nv:∀b:Fin 256,Am.get nu b.val=(firstT b.val:Int)∧wr .i64 (Y9 .and .u8 (Am.get nu b.val) 7)=((firstT b.val%8:Nat):Int)∧Int.fdiv (Am.get nu b.val) (2^(min 4 8))=((firstT b.val / 16:Nat):Int)∧firstT b.val / 16<16:=by decide+kernel
theorem Nw:∀k:Fin 16,(Am.get rj k.val).lo=(accLo k.val:Int)∧(Am.get rj k.val).hi=(accHi k.val:Int):=by decide+kernel
theorem take_one:∀ {s:Bs},(s.getD 0 0).toNat<128→∀b∈s.take 1,b.toNat<128
 | [],_,c,hc=>by simp at hc
 |b::t,h,c,hc=>by
  simp only[List.take_succ_cons,List.take_zero,List.mem_singleton]at hc
  subst hc
  exact h
theorem ug(V:Bool)(s:Bs)(hv:validD s=V):Evt (fun n=>P8 n s) (Io (fun s'=>validD s'=V∧s'.length<s.length) (fun _=>V=true) (fun r=>r=V)):=by
 unfold P8
 refine Evt.cond (fun e=>?_) (fun e=>Evt.pure ?_)
 rotate_left
 ·replace e:=bx e
  have:s=[]:=List.eq_nil_of_length_eq_zero (by omega)
  subst this
  exact hv.symm
 replace e:=bx e
 have hne:s≠ []:=fun h=>by rw[h]at e;simp at e
 have hb:=fX s 0
 have q0:=(s.getD 0 0).toNat_lt
 have hb:B2 s 0=((s.getD 0 0).toNat:Int):=hb
 refine Evt.chk e (Evt.cond (fun e2=>?_) (fun e2=>?_))
 ·replace e2:=bx e2
  have h1:validD s=validD (s.drop 1):=validD_ascii 1 s (take_one (by omega))
  have hl1:(s.drop 1).length=s.length-1:=List.length_drop
  refine Evt.chk ⟨by omega,by omega⟩ ?_
  by_cases h8:(8:Int)<((s.drop 1).length:Int)
  ·simp only[h8,decide_true,ig,cond_true]
   refine Evt.bind (dx (by omega)) fun a ha=>Evt.cond (fun e3=>?_) (fun _=>Evt.pure ⟨by rw[←h1];exact hv,by omega⟩)
   replace e3:=bx e3
   obtain⟨wa,ia,ma⟩:=ha
   have k1:=ma.1 ((Al ia).1 e3)
   have h2:=gS k1
   have hl2:((s.drop 1).drop 8).length=s.length-9:=by rw[List.length_drop,hl1];omega
   have hv2:validD ((s.drop 1).drop 8)=V:=by rw[←h2, ←h1];exact hv
   generalize (s.drop 1).drop 8=u at*
   refine Evt.chk ⟨by omega,by omega⟩ ?_
   by_cases h16:(16:Int)<(u.length:Int)
   ·simp only[h16,decide_true,ig,cond_true]
    refine Evt.bind (dx (by omega)) fun b hb=>Evt.chk (J4 fun _=>by omega) (Evt.bind (dx (by rw[List.length_drop];omega)) fun c hc=>Evt.cond (fun e4=>?_) (fun _=>Evt.pure ⟨hv2,by omega⟩))
    replace e4:=bx e4
    obtain⟨wb,ib,mb⟩:=hb
    obtain⟨wc,ic,mc⟩:=hc
    have e5:=(Al (ib.or ic)).1 e4
    simp only[or_mask,mb,mc]at e5
    have r1:=gS e5.1
    have r2:=gS e5.2
    rw[List.drop_drop]at r2
    refine Evt.chk ⟨by omega,by omega⟩ (Evt.C2 (P:=ExP (fun t:Bs=>t.length≤u.length∧validD t=V) (fun _=>False)) (Evt.loop (fun u:Bs=>u.length) (fun t=>t.length≤u.length∧validD t=V) _ _ ⟨by rw[List.length_drop];omega,by rw[←hv2,r1,r2]⟩ (fun t ht=>uf _ V t ht.1 ht.2)) (fun t ht=>?_) (fun r hr=>hr.elim))
    unfold W2 L7
    exact Evt.pure ⟨ht.2,by have:=ht.1;omega⟩
   ·simp only[h16,decide_false,oa,cond_false,Option.bind_some]
    exact Evt.chk (J4 fun h=>Bool.noConfusion h) (Evt.pure ⟨hv2,by omega⟩)
  ·simp only[h8,decide_false,oa,cond_false,Option.bind_some]
   exact Evt.pure ⟨by rw[←h1];exact hv,by omega⟩
 ·replace e2:=bx e2
  have od:=validD_lead s hne (by omega)
  obtain⟨_,t2,t3,t4⟩:=Nv ⟨(s.getD 0 0).toNat,q0⟩
  obtain⟨a1,a2⟩:=Nw ⟨firstT (s.getD 0 0).toNat / 16,t4⟩
  have hbn:(B2 s 0).toNat=(s.getD 0 0).toNat:=by omega
  simp only at t2 t3 t4 a1 a2
  rw[hbn]
  simp only[t2,t3,Int.toNat_natCast,a1,a2]
  refine Evt.chk ⟨by omega,by omega⟩ (Evt.chk ⟨by omega,by omega⟩ ?_)
  generalize firstT (s.getD 0 0).toNat%8=Z at*
  generalize accLo (firstT (s.getD 0 0).toNat / 16)=lo at*
  generalize accHi (firstT (s.getD 0 0).toNat / 16)=hi at*
  have e1:B2 s 1=((s.getD 1 0).toNat:Int):=fX s 1
  have e2:B2 s 2=((s.getD 2 0).toNat:Int):=fX s 2
  have e3:B2 s 3=((s.getD 3 0).toNat:Int):=fX s 3
  rw[e1,e2,e3]
  generalize (s.getD 1 0).toNat=b1 at*
  generalize (s.getD 2 0).toNat=b2 at*
  generalize (s.getD 3 0).toNat=b3 at*
  rw[hv]at od
  unfold checkN at od
  refine Evt.cond (fun k=>?_) (fun k=>Evt.cond (fun k2=>?_) (fun k2=>Evt.cond (fun k3=>?_) (fun k3=>Evt.pure ?_)))
  ·replace k:=bx k
   have hZ:Z=2:=by omega
   rw[if_pos hZ]at od
   refine Evt.chk (J4 fun c=>by replace c:=bx c;omega) (Evt.chk (J4 fun c=>by replace c:=bx c;omega) (Evt.cond (fun c=>Evt.pure ?_) (fun c=>?_)))
   ·replace c:=bx c
    rw[if_pos (by omega)]at od
    exact od.symm
   ·replace c:=bx c
    rw[if_neg (by omega)]at od
    exact Evt.chk ⟨by omega,by omega⟩ (Evt.pure ⟨od.symm,by rw[List.length_drop];omega⟩)
  ·replace k2:=bx k2
   have hZ:Z=3:=by omega
   rw[if_neg (by omega),if_pos hZ]at od
   refine Evt.chk (J4 fun c=>by replace c:=bx c;omega) (Evt.chk (J4 fun c=>by replace c:=bx c;omega) (Evt.chk (J4 fun c=>by replace c:=bx c;omega) (Evt.chk (J4 fun c=>by replace c:=bx c;omega) (Evt.cond (fun c=>Evt.pure ?_) (fun c=>?_)))))
   ·replace c:=bx c
    rw[if_pos (by omega)]at od
    exact od.symm
   ·replace c:=bx c
    rw[if_neg (by omega)]at od
    exact Evt.chk ⟨by omega,by omega⟩ (Evt.pure ⟨od.symm,by rw[List.length_drop];omega⟩)
  ·replace k3:=bx k3
   have hZ:Z=4:=by omega
   rw[if_neg (by omega),if_neg (by omega),if_pos hZ]at od
   refine Evt.chk (J4 fun c=>by replace c:=bx c;omega) (Evt.chk (J4 fun c=>by replace c:=bx c;omega) (Evt.chk (J4 fun c=>by replace c:=bx c;omega) (Evt.chk (J4 fun c=>by replace c:=bx c;omega) (Evt.chk (J4 fun c=>by replace c:=bx c;omega) (Evt.chk (J4 fun c=>by replace c:=bx c;omega) (Evt.cond (fun c=>Evt.pure ?_) (fun c=>?_)))))))
   ·replace c:=bx c
    rw[if_pos (by omega)]at od
    exact od.symm
   ·replace c:=bx c
    rw[if_neg (by omega)]at od
    exact Evt.chk ⟨by omega,by omega⟩ (Evt.pure ⟨od.symm,by rw[List.length_drop];omega⟩)
  ·replace k:=bx k;replace k2:=bx k2;replace k3:=bx k3
   rw[if_neg (by omega),if_neg (by omega),if_neg (by omega)]at od
   exact od.symm
theorem yu(s:Bs):Evt (fun n=>V8 n s) (fun r=>r=validD s):=by
 unfold V8
 exact Evt.C2 (P:=ExP (fun _=>validD s=true) (fun r=>r=validD s)) (Evt.loop (fun u:Bs=>u.length) (fun u=>validD u=validD s) _ _ rfl (fun u hu=>ug _ u hu)) (fun t ht=>Evt.pure (Eq.symm ht)) (fun _ h=>h)
theorem uN(c:Bs):∀l:Bs,0≤Lib.indexAny l c↔ ∃b∈l,b∈c
 | []=>by simp[Lib.indexAny]
 |b::l=>by
  have ih:=uN c l
  have hge:=Lib.indexAny_ge c l
  unfold Lib.indexAny
  by_cases hb:c.contains b=true
  ·rw[if_pos hb]
   have:b∈c:=by simpa using hb
   exact⟨fun _=>⟨b,by simp,this⟩,fun _=>by decide⟩
  ·rw[if_neg hb]
   have hn:b∉c:=by simpa using hb
   by_cases h1:Lib.indexAny l c= -1
   ·rw[if_pos (by simp[h1])]
    constructor
    ·intro h;omega
    ·rintro⟨x,hx,hc⟩
     rcases List.mem_cons.1 hx with rfl|hx
     ·exact absurd hc hn
     ·have:=ih.2 ⟨x,hx,hc⟩;omega
   ·rw[if_neg (by simp[h1])]
    constructor
    ·intro _
     obtain⟨x,hx,hc⟩:=ih.1 (by omega)
     exact⟨x,by simp[hx],hc⟩
    ·intro _;omega
theorem sJ(c:UInt8):∀l:Bs,0≤Lib.indexByte l c↔c∈l
 | []=>by simp[Lib.indexByte]
 |b::l=>by
  have ih:=sJ c l
  unfold Lib.indexByte
  by_cases hb:b=c
  ·subst hb;simp
  ·rw[if_neg (by simp[hb])]
   have hn:¬c=b:=fun h=>hb h.symm
   by_cases h1:Lib.indexByte l c= -1
   ·rw[if_pos (by simp[h1])]
    simp only[List.mem_cons,hn,false_or, ←ih]
    omega
   ·rw[if_neg (by simp[h1])]
    simp only[List.mem_cons,hn,false_or, ←ih]
    have: -1≤Lib.indexByte l c:=by
     clear ih h1
     induction l with
     |nil=>simp[Lib.indexByte]
     |cons x l ihl=>unfold Lib.indexByte;split; · decide
                    ·split; · decide
                     ·omega
    omega
theorem kY(s:Bs)(c:Int):Evt (fun _=>dR s c) (fun v=>v=Lib.indexByte s c.toNat.toUInt8):=Evt.pure rfl
theorem Ca{r:Int}(h:128≤r):∃(l:Bs) (b:UInt8),L0 r=l++[b]∧1≤l.length∧l.length≤3∧128≤b.toNat:=by
 have key:∀c:Nat,128≤c→128≤(UInt8.ofNat (0x80+c%64)).toNat:=fun c _=>by
  rw[UInt8.toNat_ofNat']
  omega
 unfold L0 Utf8.encode
 have hc:128≤(if Utf8.valid r then r.toNat else Utf8.runeError):=by
  split
  ·omega
  ·decide
 generalize (if Utf8.valid r then r.toNat else Utf8.runeError)=c at hc
 simp only
 split
 ·omega
 ·split
  ·exact⟨[_],_,rfl,by simp,by simp,key c hc⟩
  ·split
   ·exact⟨[_,_],_,rfl,by simp,by simp,key c hc⟩
   ·exact⟨[_,_,_],_,rfl,by simp,by simp,key c hc⟩
theorem xu:stops.all (fun b=>decide (b.toNat<128))=true:=by decide
theorem Gn{l:Bs}{b:UInt8}:B2 (l++[b]) l.length=b.toNat:=by
 unfold B2
 rw[Int.toNat_natCast,List.getD_eq_getElem?_getD,List.getElem?_append_right (Nat.le_refl _)]
 simp
theorem Ao(k:Nat):(stops.getD k 0).toNat<128:=by
 rw[List.getD_eq_getElem?_getD]
 by_cases h:k<stops.length
 ·rw[List.getElem?_eq_getElem h]
  exact of_decide_eq_true (List.all_eq_true.1 xu _ (List.getElem_mem h))
 ·rw[List.getElem?_eq_none (by omega)]
  simp
theorem Cb(k:Nat):B2 stops k<128:=by
 rw[fX]
 have:=Ao k
 omega
theorem sK:∀(l:List UInt8) (c:UInt8),(∀b∈l,b≠c)→Lib.indexByte l c= -1
 | [],_,_=>rfl
 |b::l,c,h=>by
  have hb:(b==c)=false:=beq_false_of_ne (h b (List.mem_cons_self ..))
  have ih:=sK l c (fun x hx=>h x (List.mem_cons_of_mem _ hx))
  simp[Lib.indexByte,hb,ih]
theorem xw(r:Int)(h:128≤r):Evt (fun n=>aL n r stops ()) (Io (fun _=>False) (fun _=>True) (fun v=>v= -1)):=by
 obtain⟨l,b,e,h1,h3,hb⟩:=Ca h
 have hl:(L0 r).length=l.length+1:=by rw[e];simp
 have hs:stops.length=9:=rfl
 have hw:wr .i64 (((L0 r).length:Int)-1)=(l.length:Int):=by
  rw[hl,G3 (by omega) (by omega)];omega
 have hw2:wr .i64 ((l.length:Int)+1)=((l.length+1:Nat):Int):=by
  rw[G3 (by omega) (by omega)];omega
 have Sv:B2 (L0 r) (l.length:Int)=b.toNat:=by rw[e];exact Gn
 have hst:=Cb l.length
 unfold aL
 rw[hw,hw2,Sv,Int.toNat_natCast]
 refine Evt.cond (fun _=>?_) (fun _=>Evt.pure trivial)
 refine Evt.chk (by omega) (Evt.chk (by omega) (Evt.cond (fun _=>?_) (fun e2=>?_)))
 ·refine Evt.chk (by omega) (Evt.bind (kY _ _) fun v hv=>Evt.cond (fun _=>Evt.pure rfl) (fun e3=>?_))
  exfalso
  have hn:Lib.indexByte (stops.drop (l.length+1)) ((b.toNat:Int).toNat.toUInt8)= -1:=sK _ _ (fun x hx e4=>by
   have hm:x∈stops:=List.mem_of_mem_drop hx
   have:=of_decide_eq_true (List.all_eq_true.1 xu _ hm)
   have e5:x=b:=by rw[e4];simp
   rw[e5]at this
   omega)
  rw[hn]at hv
  replace e3:=bx e3
  omega
 ·exfalso
  replace e2:=bx e2
  omega
theorem Cc(r:Int)(hr:0≤r):Evt (fun n=>bw n stops r) (fun v=>0≤v↔uZ r):=by
 have no:128≤r→((0:Int)≤ -1↔uZ r):=fun h=>⟨fun h=>by omega,fun h2=>by have:=DZ h2;omega⟩
 unfold bw
 refine Evt.cond (fun e=>Evt.bind (kY _ _) fun v hv=>Evt.pure ?_) (fun e=>?_)
 ·replace e:=bx e
  obtain⟨c,rfl⟩:∃c:Nat,r=c:=⟨r.toNat,by omega⟩
  have e1:wr .u8 (c:Int)=(c:Int):=by
   have h1:IntKind.u8.min=0:=by decide
   have h2:IntKind.u8.max=255:=by decide
   exact zF ⟨by omega,by omega⟩
  rw[hv,e1,Int.toNat_natCast,sJ,xt]
  have:(c.toUInt8).toNat=c:=by
   rw[Nat.toUInt8,UInt8.toNat_ofNat']
   omega
  rw[this]
 have h128:128≤r:=by
  by_cases h:128≤r
  ·exact h
  ·exfalso
   have e1:decide (0≤r)=true:=decide_eq_true hr
   have e2:decide (r<128)=true:=decide_eq_true (by omega)
   rw[e1,e2]at e
   cases e
 refine Evt.cond (fun _=>?_) (fun _=>?_)
 ·refine Evt.C2 (P:=ExP (fun _=>True) (fun _=>False)) (Evt.loop (fun u:Nat=>stops.length-u) (fun _=>True) _ _ trivial (fun u _=>?_)) (fun t _=>Evt.pure (no h128)) (fun _ h=>h.elim)
  unfold dy
  refine Evt.cond (fun e=>?_) (fun _=>Evt.pure trivial)
  replace e:=bx e
  have:=kX e
  refine Evt.chk e (Evt.cond (fun e2=>?_) (fun _=>Evt.pure ⟨trivial,by omega⟩))
  replace e2:=bx e2
  exfalso
  rw[DY,decodeN_ascii (Ao u)]at e2
  have:=Ao u
  simp only at e2
  omega
 ·refine Evt.bind (P:=fun _=>True) ?_ fun v _=>Evt.cond (fun _=>Evt.pure (no h128)) (fun _=>?_)
  ·unfold cw
   exact Evt.cond (fun _=>Evt.pure trivial) (fun _=>Evt.cond (fun _=>Evt.pure trivial) (fun _=>Evt.pure trivial))
  ·exact Evt.C2 (P:=ExP (fun _=>True) (fun v=>v= -1)) (Evt.loop (fun _:Unit=>0) (fun _=>True) _ _ trivial (fun u _=>(xw r h128).mono fun c hc=>by
    cases c with
    |nxt s=>exact hc.elim
    |brk t=>trivial
    |ret x=>exact hc)) (fun t _=>Evt.pure (no h128)) (fun r h=>(show r= -1 from h).symm▸no h128)
theorem yw(s:Bs)(hs:s.length<4294967281):Evt (fun n=>X9 n s [32,9,10,40,41,91,93,44,59]) (fun r=>r=true↔LK s):=by
 show Evt (fun n=>X9 n s stops) _
 unfold X9
 refine Evt.bind (P:=fun v=>0≤v↔LK s) ?_ fun v hv=>Evt.pure (by rw[decide_eq_true_eq];exact hv)
 unfold iN
 refine Evt.cond (fun _=>Evt.chk ⟨by decide,hs,by decide,xu⟩ (Evt.pure (by rw[uN,KS]))) (fun e=>?_)
 replace e:=bx e
 unfold gL
 refine Evt.cond (fun e2=>by cases e2) (fun _=>Evt.cond (fun e2=>?_) (fun _=>?_))
 ·replace e2:=bx e2
  exact absurd e2 (by decide)
 refine Evt.bind (P:=fun b=>b=false) (Evt.pure ?_) fun b hb=>Evt.cond (fun e2=>?_) (fun _=>?_)
 ·exact decide_eq_false (by omega)
 ·rw[hb]at e2;cases e2
 unfold dz
 refine Evt.C2 (P:=ExP (fun _=>¬LK s) (fun v=>0≤v∧LK s)) (Evt.loop (fun u:Nat=>s.length-u) (fun u=>∃k,u=rpos s k∧∀j,j<k→¬uZ (rune s (rpos s j))) _ _ ⟨0,rfl,fun j hj=>by omega⟩ (fun u hu=>?_)) (fun t ht=>Evt.pure ⟨fun h=>by omega,fun h=>absurd h ht⟩) (fun r h=>⟨fun _=>h.2,fun _=>h.1⟩)
 obtain⟨k,rfl,hk⟩:=hu
 unfold dA
 refine Evt.cond (fun e2=>?_) (fun e2=>Evt.pure ?_)
 ·replace e2:=bx e2
  have:=kX e2
  refine Evt.chk e2 (Evt.bind (Cc _ (by unfold rune;omega)) fun v hv=>Evt.cond (fun e3=>Evt.pure ?_) (fun e3=>Evt.pure ⟨⟨k+1,rfl,fun j hj=>?_⟩,by omega⟩))
  ·replace e3:=bx e3
   exact⟨by omega,k,e2,hv.1 e3⟩
  ·replace e3:=bx e3
   by_cases ej:j=k
   ·subst ej;intro h;have:=hv.2 h;omega
   ·exact hk j (by omega)
 ·replace e2:=bx e2
  rintro⟨j,h1,h2⟩
  by_cases hj:j<k
  ·exact hk j hj h2
  ·have:=xr s (show k≤j by omega);omega
def Fi(s:Bs):Prop:=(∃c,RC s c∧1≤c∧c≤30)∧validD s=true∧¬LK s
theorem RC.ex(s:Bs):∃c,RC s c:=by
 obtain⟨c,_,h⟩:∃c,c≤s.length∧s.length≤rpos s c:=⟨s.length,Nat.le_refl _,by
  have:∀k,k≤rpos s k∨s.length≤rpos s k:=fun k=>by
   induction k with
   |zero=>left;exact Nat.le_refl _
   |succ k ih=>
    have hs:rpos s (k+1)=rpos s k+jB s (rpos s k):=rfl
    rcases ih with h|h
    ·by_cases hl:rpos s k<s.length
     ·have:=kX hl;left;omega
     ·right;omega
    ·right;omega
  rcases this s.length with h|h<;>omega⟩
 induction c with
 |zero=>exact⟨0,h,fun j hj=>by omega⟩
 |succ c ih=>
  by_cases hc:s.length≤rpos s c
  ·exact ih (by omega) hc
  ·exact⟨c+1,h,fun j hj=>by have:=xr s (show j≤c by omega);omega⟩
theorem yx(s:Bs)(hs:s.length<4294967281):Evt (fun n=>kZ n s) (fun r=>r=true↔Fi s):=by
 unfold kZ
 refine Evt.bind (BZ s (by omega)) fun v hv=>?_
 obtain⟨c,rfl,hc⟩:=hv
 by_cases hr:1≤c∧c≤30
 ·have e1:(decide ((1:Int)≤(c:Int)))=true:=decide_eq_true (by omega)
  have e2:(decide ((c:Int)≤30))=true:=decide_eq_true (by omega)
  simp only[e1,e2,cond_true,ig]
  refine Evt.bind (yu s) fun b hb=>?_
  subst hb
  cases hv:validD s with
  |true=>
   simp only[ig,cond_true]
   refine Evt.bind (yw s hs) fun b hb=>Evt.pure ?_
   unfold Fi
   cases b with
   |true=>simp only[Bool.not_true];exact⟨fun h=>(by cases h),fun h=>absurd (hb.1 rfl) h.2.2⟩
   |false=>simp only[Bool.not_false];exact⟨fun _=>⟨⟨c,hc,hr⟩,hv,fun h=>by have:=hb.2 h;cases this⟩,fun _=>(by trivial)⟩
  |false=>
   simp only[oa,cond_false,Option.bind_some]
   exact Evt.pure ⟨fun h=>(by cases h),fun h=>by have:=h.2.1;rw[hv]at this;cases this⟩
 ·have e3:(bif (decide ((1:Int)≤(c:Int)))then(decide ((c:Int)≤30))else false)=false:=by
   cases h1:decide ((1:Int)≤(c:Int))with
   |true=>
    have:=of_decide_eq_true h1
    simp only[cond_true,decide_eq_false_iff_not];omega
   |false=>rfl
  simp only[e3,oa,cond_false,Option.bind_some]
  refine Evt.pure ⟨fun h=>(by cases h),fun h=>?_⟩
  obtain⟨⟨d,hd,h1⟩,_⟩:=h
  have:=hc.uniq hd
  omega
theorem pG{s:Bs}{p:Nat}:(bif (bif (bif (bif (bif (bif (bif (bif (decide ((rune s p)=32))then true else(decide ((rune s p)=9)))then true else(decide ((rune s p)=10)))then true else(decide ((rune s p)=40)))then true else(decide ((rune s p)=41)))then true else(decide ((rune s p)=91)))then true else(decide ((rune s p)=93)))then true else(decide ((rune s p)=44)))then true else(decide ((rune s p)=59)))=true↔uZ (rune s p):=by
 generalize rune s p=r
 unfold uZ
 simp only[Bool.cond_true_left,Bool.or_eq_true,decide_eq_true_eq]
 omega
theorem Ea(s:Bs)(hs:s.length<4294967281):Evt (fun n=>aM n s) (fun r=>r=true↔Fi s):=by
 unfold aM
 refine Evt.C2 (P:=ExP (fun v:Int=>(∃c:Nat,v=c∧RC s c)∧¬LK s) (fun r=>r=false∧LK s)) (Evt.loop (fun u:Nat×Int=>s.length-u.1) (fun u=>∃k:Nat,u=(rpos s k,(k:Int))∧∀j,j<k→rpos s j<s.length∧¬uZ (rune s (rpos s j))) _ _ ⟨0,rfl,fun j hj=>by omega⟩ (fun u hu=>?_)) (fun t ht=>?_) (fun r h=>?_)
 ·obtain⟨k,rfl,hk⟩:=hu
  have hkl:=Qo fun j hj=>(hk j hj).1
  unfold aY
  refine Evt.cond (fun e=>?_) (fun e=>Evt.pure ?_)
  ·replace e:=bx e
   have e:rpos s k<s.length:=e
   have:=kX e
   refine Evt.chk e (Evt.cond (fun e2=>Evt.pure ?_) (fun e2=>Evt.pure ?_))
   ·exact⟨rfl,k,e,pG.1 e2⟩
   ·have hn:¬uZ (rune s (rpos s k)):=fun h=>by
     have h2:=pG.2 h
     have e2:_=false:=e2
     rw[h2]at e2;cases e2
    refine⟨⟨k+1,?_,fun j hj=>?_⟩,by show s.length-(rpos s k+jB s (rpos s k))<s.length-rpos s k;omega⟩
    ·show(rpos s k+jB s (rpos s k),wr .i64 ((k:Int)+1))=_
     rw[G3 (by omega) (by omega)];rfl
    ·by_cases ej:j=k
     ·subst ej;exact⟨e,hn⟩
     ·exact hk j (by omega)
  ·replace e:=bx e
   have e:s.length≤rpos s k:=e
   refine⟨⟨k,rfl,e,fun j hj=>(hk j hj).1⟩,?_⟩
   rintro⟨j,h1,h2⟩
   by_cases hj:j<k
   ·exact(hk j hj).2 h2
   ·have:=xr s (show k≤j by omega);omega
 ·obtain⟨⟨c,hc0,hc⟩,hns⟩:=ht
  subst hc0
  unfold aZ
  refine Evt.cond (fun e=>Evt.pure ⟨fun h=>(by cases h),fun h=>?_⟩) (fun e=>?_)
  ·replace e:=bx e
   obtain⟨⟨d,hd,h1⟩,_⟩:=h
   have:=hc.uniq hd
   omega
  ·replace e:=bx e
   refine Evt.C2 (P:=ExP (fun _=>validD s=true) (fun r=>r=false∧validD s=false)) (Evt.loop (fun u:Int=>s.length-u.toNat) (fun u=>0≤u∧u≤s.length∧validD (s.drop u.toNat)=validD s) _ _ ⟨by omega,by omega,rfl⟩ (fun u hu=>?_)) (fun t ht=>Evt.pure ⟨fun _=>⟨⟨c,hc,by omega⟩,ht,hns⟩,fun _=>rfl⟩) (fun r h=>?_)
   ·obtain⟨h0,h1,h2⟩:=hu
    unfold bf
    refine Evt.cond (fun e2=>?_) (fun e2=>Evt.pure ?_)
    ·replace e2:=bx e2
     have hlen:(s.drop u.toNat).length=s.length-u.toNat:=List.length_drop
     have hne:s.drop u.toNat≠ []:=fun h=>by rw[h]at hlen;simp at hlen;omega
     refine Evt.chk ⟨h0,by omega⟩ (Evt.bind (Ak (by omega)) fun v hv=>?_)
     have hst:=validD_step _ hne
     have hw1:=decodeL_width (s.drop u.toNat)
     have hw2:(decodeL (s.drop u.toNat)).2≤(s.drop u.toNat).length:=decodeL_le (by omega)
     unfold lenOf at hv
     by_cases hb:(decodeL (s.drop u.toNat)).1=65533∧(decodeL (s.drop u.toNat)).2=1
     ·rw[if_pos hb]at hst hv
      refine Evt.cond (fun e3=>Evt.pure ⟨rfl,by rw[←h2,hst]⟩) (fun e3=>?_)
      replace e3:=bx e3
      exact absurd hv e3
     ·rw[if_neg hb]at hst hv
      refine Evt.cond (fun e3=>?_) (fun e3=>Evt.pure ?_)
      ·replace e3:=bx e3
       omega
      ·have hwr:wr .i64 (u+v)=u+v:=G3 (by omega) (by omega)
       rw[hwr]
       have ht:(u+v).toNat=u.toNat+(decodeL (s.drop u.toNat)).2:=by omega
       refine⟨⟨by omega,by omega,?_⟩,by omega⟩
       rw[ht, ←List.drop_drop, ←hst,h2]
    ·replace e2:=bx e2
     have:s.drop u.toNat=[]:=List.drop_eq_nil_of_le (by omega)
     rw[←h2,this];rfl
   ·obtain⟨rfl,h2⟩:=h
    refine⟨fun h=>(by cases h),fun h=>?_⟩
    have:=h.2.1
    rw[h2]at this
    cases this
 ·obtain⟨rfl,h2⟩:=h
  exact⟨fun h=>(by cases h),fun h=>absurd h2 h.2.2⟩
end Go.Proofs.YtonfgoanbllceaaGreatDoor
namespace Go.Am
open Go
theorem Evt.Qp{α:Type}{x:Nat→Option α}{P:α→Prop}{r:α}(h:Evt x (fun a=>a=r))(k:Evt x P):P r:=by
 obtain⟨a,rfl,N,hN⟩:=h
 obtain⟨b,hb,M,hM⟩:=k
 have h1:=hN (max N M) (by omega)
 have h2:=hM (max N M) (by omega)
 rw[h1]at h2
 cases h2
 exact hb
theorem Evt.and{α:Type}{x:Nat→Option α}{P Q:α→Prop}(h:Evt x P)(k:Evt x Q):Evt x (fun a=>P a∧Q a):=by
 obtain⟨r,hr,e⟩:=h.eq
 exact e.mono fun a ha=>by subst ha;exact⟨hr,Evt.Qp e k⟩
theorem Ev2.split{α β:Type}{x:Nat→Option α}{y:Nat→Option β}{P:α→β→Prop}(h:Ev2 x y P):∃a b,P a b∧Evt x (fun c=>c=a)∧Evt y (fun c=>c=b):=by
 obtain⟨a,b,hp,N,hN⟩:=h
 exact⟨a,b,hp,⟨a,rfl,N,fun n hn=>(hN n hn).1⟩,⟨b,rfl,N,fun n hn=>(hN n hn).2⟩⟩
theorem Ev2.join{α β:Type}{x:Nat→Option α}{y:Nat→Option β}{P:α→β→Prop}{a:α}{b:β}(hp:P a b)(h:Evt x (fun c=>c=a))(k:Evt y (fun c=>c=b)):Ev2 x y P:=
 (Ev2.both h k).mono fun a b h=>by obtain⟨rfl,rfl⟩:=h;exact hp
end Go.Am
namespace Go.Proofs.YtonfgoanbllceaaGreatDoor
open Go Go.Am
def Fj(g:y5)(kids:Int):Prop:=∀k:Nat,k<4→∀r,wX g 0 k r→(0≤r↔(k:Int)≤kids)
structure Jb(h:w5)(r:w4):Prop where
 kids:1≤r.kids∧r.kids≤3
 weight:0≤r.weight∧r.weight≤1000000
 graph:bg h r.graph
 places:Fj r.graph r.kids
structure Nx(h:w5)(x:x7):Prop where
 weight:0≤x.weight∧x.weight≤1000000
 graph:bg h x.graph
 word:Fi x.word
structure Gp(g:x9):Prop where
 hier:wV g.hierarchy
 B1:3<g.hierarchy.B1.length
 rules:g.rules.length≤40
 y9:g.y9.length≤100
 rule:∀k,k<g.rules.length→Jb g.hierarchy (Am.get g.rules k)
 lex:∀k,k<g.y9.length→Nx g.hierarchy (Am.get g.y9 k)
 start:bg g.hierarchy g.start
def Ny(g:y5):Prop:=∀k,k<g.nodes.length→(Am.get g.nodes k).links.length≤9223372036854775807
theorem vd{h:w5}{g:y5}(hg:bg h g)(hh:h.B1.length≤40)(kids:Int):Evt (fun n=>dr n g kids) (fun b=>b=true→Fj g kids):=by
 unfold dr
 have h1:=hg.some
 refine Evt.C2 (Evt.range (fun k _=>∀j:Nat,j<k→∀r,wX g 0 j r→(0≤r↔(j:Int)≤kids)) (fun _=>False) (fun b=>b=false) (fun j hj=>by omega) (fun k s hk hi=>?_)) (fun t ht=>Evt.pure fun _=>ht.elim id False.elim) (fun r hr h=>by rw[h]at hr;cases hr)
 unfold Y4
 refine Evt.bind (qP hg hh (a:=0) (by omega) k) fun v hv=>Evt.cond (fun _=>Evt.pure rfl) (fun e=>Evt.pure fun j hj r hr=>?_)
 have hv:wX g 0 k v:=hv
 by_cases ej:j=k
 ·subst ej
  have:=wX.uniq hg (a:=0) h1 hr hv
  subst this
  simp only[Bool.not_eq_false',decide_eq_true_eq]at e
  by_cases h0:0≤r
  ·simp[h0]at e;simp[h0,e]
  ·simp[h0]at e;simp only[h0,false_iff];omega
 ·exact hi j (by omega) r hr
theorem xA(t:w6):Ev2 (fun n=>fu n t) (fun n=>J7 n t) (fun a b=>a=b):=by
 unfold J7
 obtain⟨a,b,rfl,h,k⟩:=(Ai t).split
 exact Ev2.join rfl h (Evt.bind k fun v hv=>by subst hv;exact Evt.pure rfl)
theorem xB{h:w5}(hh:wV h){t:B6}(ht:DN h.types t){r:w4}(hlen:Ny r.graph):Ev2 (fun n=>ld n h t r) (fun n=>R4 n h r) (fun a b=>a=b∧(a=0→Jb h r)):=by
 unfold ld R4
 refine Ev2.cond rfl (fun _=>Ev2.pure ⟨rfl,fun h=>absurd (show(3:Int)=0 from h) (by decide)⟩) (fun e=>?_)
 replace e:=bx e
 refine Ev2.bind (kU hh ht hlen) fun f f' hf=>?_
 obtain⟨rfl,hf⟩:=hf
 refine Ev2.cond rfl (fun e2=>Ev2.pure ⟨rfl,fun h=>?_⟩) (fun e2=>?_)
 ·replace e2:=bx e2
  exact absurd h e2
 replace e2:=bx e2
 have hg:=hf e2
 obtain⟨b,ex,hbe,hl,hr⟩:=(Gh (r:=r) hg hh.n r.kids rfl rfl).split
 have hpl:=Evt.Qp hl (vd hg hh.n r.kids)
 refine Ev2.gB hl fun b' hb'=>?_
 subst hb'
 rcases hbe with⟨rfl,rfl⟩|⟨rfl,rfl⟩
 ·simp only[Bool.not_true,cond_false]
  refine Ev2.yq hr (fun t ht=>?_) (fun r hr=>by cases hr)
  unfold U5
  exact Ev2.bind (xA r.meaning) fun a b hab=>by subst hab;exact Ev2.pure ⟨rfl,fun _=>⟨by omega,by omega,hg,hpl rfl⟩⟩
 ·simp only[Bool.not_false,cond_true]
  refine Ev2.yq hr (fun t ht=>by cases ht) (fun r hr=>?_)
  cases hr
  exact Evt.pure ⟨rfl,fun h=>absurd (show(5:Int)=0 from h) (by decide)⟩
theorem vg{h:w5}(hh:wV h){t:B6}(ht:DN h.types t){x:x7}(hlen:Ny x.graph)(hw:x.word.length<4294967281):Ev2 (fun n=>jG n h t x) (fun n=>U6 n h x) (fun a b=>a=b∧(a=0→Nx h x)):=by
 unfold jG U6
 refine Ev2.bind (Ev2.both (yx x.word hw) (Ea x.word hw)) fun a b hab=>?_
 have e0:a=b:=by
  cases a<;>cases b<;>simp_all
 subst e0
 refine Ev2.cond rfl (fun _=>Ev2.pure ⟨rfl,fun h=>absurd (show(10:Int)=0 from h) (by decide)⟩) (fun e1=>?_)
 replace e1:=bx e1
 refine Ev2.cond rfl (fun _=>Ev2.pure ⟨rfl,fun h=>absurd (show(3:Int)=0 from h) (by decide)⟩) (fun e=>?_)
 replace e:=bx e
 refine Ev2.bind (kU hh ht hlen) fun f f' hf=>?_
 obtain⟨rfl,hf⟩:=hf
 refine Ev2.cond rfl (fun e2=>Ev2.pure ⟨rfl,fun h=>?_⟩) (fun e2=>?_)
 ·replace e2:=bx e2
  exact absurd h e2
 replace e2:=bx e2
 exact Ev2.bind (xA x.meaning) fun a b hab=>by subst hab;exact Ev2.pure ⟨rfl,fun _=>⟨by omega,hf e2,hab.1.1 e1⟩⟩
structure Holds(g:x9):Prop where
 rule:∀k,k<g.rules.length→Ny (Am.get g.rules k).graph
 lex:∀k,k<g.y9.length→Ny (Am.get g.y9 k).graph∧(Am.get g.y9 k).word.length<4294967281
 start:Ny g.start
def KU(P:Prop)(a b:x6):Prop:=a=b∧(a.code=0→a=⟨0,0⟩∧P)
theorem lf{P:Prop}{a b:Int}(h:a≠0):KU P ⟨a,b⟩ ⟨a,b⟩:=⟨rfl,fun e=>absurd e h⟩
theorem lq{g:x9}(hm:Holds g):Ev2 (fun n=>N7 n g) (fun n=>J8 n g) (KU (Gp g)):=by
 unfold N7 J8
 refine Ev2.bind ((pE g.hierarchy)) fun f f' hf=>?_
 obtain⟨rfl,hf⟩:=hf
 refine Ev2.cond rfl (fun e=>Ev2.pure ⟨rfl,fun h=>?_⟩) (fun e=>?_)
 ·replace e:=bx e
  exact absurd h e
 replace e:=bx e
 have hh:=hf e
 refine Ev2.cond rfl (fun _=>Ev2.gB (aH _ _) fun f hf=>by subst hf;exact Ev2.pure (lf (by decide))) (fun e1=>?_)
 replace e1:=bx e1
 refine Ev2.cond rfl (fun _=>Ev2.gB (aH _ _) fun f hf=>by subst hf;exact Ev2.pure (lf (by decide))) (fun e2=>?_)
 replace e2:=bx e2
 refine Ev2.gB (mj hh.types) fun t ht=>?_
 refine Ev2.C2 (Ev2.range (fun k s _=>Known (fun i=>(Am.get g.rules i).name) k s∧∀i,i<k→Jb g.hierarchy (Am.get g.rules i)) (fun _ _=>False) (KU (Gp g)) ⟨tT,fun i hi=>by omega⟩ (fun k s u hk hi=>?_)) (fun s u hu=>?_) (fun r r' hr=>hr)
 ·obtain⟨hkn,hp⟩:=hi
  unfold eP O7
  refine Ev2.gB (nX _) fun a ha=>Ev2.DL (ru _) fun b hb=>?_
  subst ha hb
  refine Ev2.cond rfl (fun _=>Ev2.gB (aH _ _) fun f hf=>by subst hf;exact Ev2.pure (lf (by decide))) (fun _=>?_)
  refine Ev2.Nc (by omega) ?_
  have hlen:(g.rules.take k).length=k:=by rw[List.length_take];omega
  refine Ev2.Ix (fun e=>?_) (fun e=>?_)
  ·refine Ev2.yq (tV (fun i=>(Am.get g.rules i).name) (Am.get g.rules k).name ⟨7,(k:Int)⟩ (fun j hj=>?_)) (fun t ht=>?_) (fun r hr=>?_)
   ·rw[hlen]at hj
    unfold K7
    rw[mh hj]
    by_cases e2:(Am.get g.rules j).name=(Am.get g.rules k).name<;>simp[e2]
   ·rw[hlen]at ht
    rcases ht with⟨_,h2⟩|⟨h1,_⟩
    ·exact absurd ((hkn _).1 e) h2
    ·cases h1
   ·rw[hlen]at hr
    rcases hr with⟨h1,_⟩|⟨h1,_⟩
    ·cases h1
    ·cases h1
     exact Evt.bind (aH _ _) fun f hf=>by subst hf;exact Evt.pure (lf (by decide))
  ·have hno:¬ ∃j,j<k∧(Am.get g.rules j).name=(Am.get g.rules k).name:=fun h=>by
    rw[(hkn _).2 h]at e;cases e
   refine Ev2.yq (tV (fun i=>(Am.get g.rules i).name) (Am.get g.rules k).name ⟨7,(k:Int)⟩ (fun j hj=>?_)) (fun t ht=>?_) (fun r hr=>?_)
   ·rw[hlen]at hj
    unfold K7
    rw[mh hj]
    by_cases e2:(Am.get g.rules j).name=(Am.get g.rules k).name<;>simp[e2]
   ·unfold O8
    refine Ev2.Sp (Ev2.bind (xB hh ‹DN _ _› (hm.rule k hk)) fun a b hab=>?_)
    obtain⟨rfl,hr⟩:=hab
    refine Ev2.cond rfl (fun e3=>Ev2.gB (aH _ _) fun f hf=>?_) (fun e3=>Ev2.pure ⟨tU hkn,fun i hi=>?_⟩)
    ·subst hf
     replace e3:=bx e3
     exact Ev2.pure (lf e3)
    ·replace e3:=bx e3
     by_cases ei:i=k
     ·subst ei;exact hr e3
     ·exact hp i (by omega)
   ·rw[hlen]at hr
    rcases hr with⟨h1,_⟩|⟨_,h2⟩
    ·cases h1
    ·exact absurd h2 hno
 ·have Qq:=(hu.elim id False.elim).2
  unfold eR O9
  refine Ev2.C2 (Ev2.range (fun k _ _=>∀i,i<k→Nx g.hierarchy (Am.get g.y9 i)) (fun _ _=>False) (KU (Gp g)) (fun i hi=>by omega) (fun k s u hk hi=>?_)) (fun s u hu=>?_) (fun r r' hr=>hr)
  ·unfold eS P0
   refine Ev2.bind (vg hh ht (hm.lex k hk).1 (hm.lex k hk).2) fun a b hab=>?_
   obtain⟨rfl,hr⟩:=hab
   refine Ev2.cond rfl (fun e3=>Ev2.gB (aH _ _) fun f hf=>?_) (fun e3=>Ev2.pure fun i hi2=>?_)
   ·subst hf
    replace e3:=bx e3
    exact Ev2.pure (lf e3)
   ·replace e3:=bx e3
    by_cases ei:i=k
    ·subst ei;exact hr e3
    ·exact hi i (by omega)
  ·have Qr:=hu.elim id False.elim
   unfold eU P1
   refine Ev2.bind (kU hh ht hm.start) fun f f' hf=>?_
   obtain⟨rfl,hf⟩:=hf
   refine Ev2.cond rfl (fun e3=>Ev2.gB (aH _ _) fun f hf=>?_) (fun e3=>Ev2.pure ⟨rfl,fun _=>⟨rfl,?_⟩⟩)
   ·subst hf
    replace e3:=bx e3
    exact Ev2.pure (lf e3)
   ·replace e3:=bx e3
    exact⟨hh,by omega,by omega,by omega,Qq,Qr,hf e3⟩
inductive uh:u0→Prop
 |mk (s:u0) (h:s.args.length≤1048576) (h2:∀k,k<s.args.length→uh (Am.get s.args k)):uh s
inductive Eb:w6→Prop
 |mk (t:w6) (h0:uh t.type) (h:t.args.length≤1048576) (h2:∀k,k<t.args.length→Eb (Am.get t.args k)):Eb t
structure xC(g:y5):Prop where
 nodes:g.nodes.length≤1048576
 links:∀y∈g.nodes,y.links.length≤1048576
structure Cd(r:w4):Prop where
 graph:xC r.graph
 meaning:Eb r.meaning
structure LL(r:x7):Prop where
 word:r.word.length≤1048576
 graph:xC r.graph
 meaning:Eb r.meaning
structure KV(h:w5):Prop where
 types:h.types.length≤1048576
structure uj(g:x9):Prop where
 hier:KV g.hierarchy
 nr:g.rules.length≤1048576
 nl:g.y9.length≤1048576
 rule:∀y∈g.rules,Cd y
 lex:∀y∈g.y9,LL y
 start:xC g.start
structure Ap(c:B4):Prop where
 hier:∀y∈c.hierarchy,KV y
 start:∀y∈c.start,xC y
 rules:∀y∈c.rules,∀r∈y.put,Cd r
 y9:∀y∈c.y9,∀r∈y.put,LL r
theorem Ny.of{g:y5}(h:xC g):Ny g:=fun k hk=>by
 have:=h.links _ (get_mem hk)
 omega
theorem uj.holds{g:x9}(h:uj g):Holds g:=⟨fun k hk=>.of (h.rule _ (get_mem hk)).graph,fun k hk=>⟨.of (h.lex _ (get_mem hk)).graph,by have:=(h.lex _ (get_mem hk)).word;omega⟩,.of h.start⟩
def Gq(l:List A8):Int:=(l.map fun x=>x.drop+(↑x.put.length:Int)).sum
def GC(l:List B9):Int:=(l.map fun x=>x.drop+(↑x.put.length:Int)).sum
def ROk(x:A8):Prop:=0≤x.keep∧x.keep≤100∧0≤x.drop∧x.drop≤100∧x.put.length≤100
def LOk(x:B9):Prop:=0≤x.keep∧x.keep≤100∧0≤x.drop∧x.drop≤100∧x.put.length≤100
structure LM(c:B4):Prop where
 hier:c.hierarchy.length≤1
 start:c.start.length≤1
 rules:c.rules.length≤300
 y9:c.y9.length≤300
 rok:∀k,k<c.rules.length→ROk (Am.get c.rules k)
 lok:∀k,k<c.y9.length→LOk (Am.get c.y9 k)
theorem Ce{a b c:Int}(h1:0≤a)(h2:0≤b)(h3:a≤100)(h4:b≤100)(h5:c≤100):Evt (fun _=>ij a b c) (fun v=>v=false):=by
 unfold ij
 refine Evt.pure ?_
 rw[decide_eq_false (show ¬a<0 by omega),decide_eq_false (show ¬b<0 by omega),decide_eq_false (show ¬100<a by omega),decide_eq_false (show ¬100<b by omega),decide_eq_false (show ¬100<c by omega)]
 rfl
theorem KW(c:B4)(h:LM c):Evt (fun _=>iO c) (fun f=>f.code=0):=by
 unfold iO
 have h1:=h.hier
 have h2:=h.start
 have h3:=h.rules
 have h4:=h.y9
 refine Evt.cond (fun e=>?_) (fun _=>?_)
 ·exfalso
  replace e:=bx e
  omega
 refine Evt.C2 (Evt.range (fun _ _=>True) (fun _=>False) (fun _=>False) trivial (fun k s hk _=>?_)) (fun u _=>?_) (fun r h=>h.elim)
 ·unfold iq
  obtain⟨a1,a2,a3,a4,a5⟩:=h.rok k hk
  refine Evt.bind (Ce a1 a3 a2 a4 (by omega)) fun v hv=>?_
  rw[hv]
  exact Evt.pure trivial
 ·unfold iu
  refine Evt.C2 (Evt.range (fun _ _=>True) (fun _=>False) (fun _=>False) trivial (fun k s hk _=>?_)) (fun u _=>?_) (fun r h=>h.elim)
  ·unfold jH
   obtain⟨a1,a2,a3,a4,a5⟩:=h.lok k hk
   refine Evt.bind (Ce a1 a3 a2 a4 (by omega)) fun v hv=>?_
   rw[hv]
   exact Evt.pure trivial
  ·exact Evt.pure rfl
theorem U7{α:Type}[Inhabited α]{l:List α}{k:Nat}(h:k<l.length):l.take (k+1)=l.take k++[Am.get l k]:=by
 rw[List.take_add_one,List.getElem?_eq_getElem h]
 simp[Am.get,h]
theorem Jc{l:List A8}{k:Nat}(h:k<l.length):Gq (l.take (k+1))=Gq (l.take k)+((Am.get l k).drop+(↑(Am.get l k).put.length:Int)):=by
 rw[U7 h];simp[Gq]
theorem Jd{l:List B9}{k:Nat}(h:k<l.length):GC (l.take (k+1))=GC (l.take k)+((Am.get l k).drop+(↑(Am.get l k).put.length:Int)):=by
 rw[U7 h];simp[GC]
theorem Nz(c:B4)(h:LM c):Evt (fun _=>og c) (fun r=>r.2.code=0∧r.1=↑c.hierarchy.length+↑c.start.length+Gq c.rules+GC c.y9∧0≤r.1∧r.1≤1000000):=by
 unfold og
 have h1:=h.hier
 have h2:=h.start
 have h3:=h.rules
 have h4:=h.y9
 refine Evt.bind (KW c h) fun v hv=>Evt.cond (fun e=>?_) (fun _=>?_)
 ·exfalso
  replace e:=bx e
  exact e hv
 refine Evt.C2 (Evt.range (fun k (s:Int)=>s=↑c.hierarchy.length+↑c.start.length+Gq (c.rules.take k)∧0≤s∧s≤2+200*(↑k:Int)) (fun _=>False) (fun _=>False) ?_ (fun k s hk hs=>?_)) (fun u hu=>?_) (fun r h=>h.elim)
 ·rw[G3 (by omega) (by omega)]
  simp[Gq]
  omega
 ·unfold oh
  obtain⟨a1,a2,a3,a4,a5⟩:=h.rok k hk
  obtain⟨e1,e2,e3⟩:=hs
  refine Evt.pure ⟨?_,?_,?_⟩<;>rw[G3 (n:=(Am.get c.rules k).drop+_) (by omega) (by omega),G3 (by omega) (by omega)]
  ·rw[Jc hk];omega
  ·omega
  ·omega
 ·simp only[ExP,or_false,List.take_length]at hu
  obtain⟨e1,e2,e3⟩:=hu
  unfold om
  refine Evt.C2 (Evt.range (fun k (s:Int)=>s=↑c.hierarchy.length+↑c.start.length+Gq c.rules+GC (c.y9.take k)∧0≤s∧s≤2+200*300+200*(↑k:Int)) (fun _=>False) (fun _=>False) ?_ (fun k s hk hs=>?_)) (fun u hu=>?_) (fun r h=>h.elim)
  ·simp[GC]
   omega
  ·unfold oo
   obtain⟨a1,a2,a3,a4,a5⟩:=h.lok k hk
   obtain⟨f1,f2,f3⟩:=hs
   refine Evt.pure ⟨?_,?_,?_⟩<;>rw[G3 (n:=(Am.get c.y9 k).drop+_) (by omega) (by omega),G3 (by omega) (by omega)]
   ·rw[Jd hk];omega
   ·omega
   ·omega
  ·simp only[ExP,or_false,List.take_length]at hu
   obtain⟨f1,f2,f3⟩:=hu
   exact Evt.pure ⟨rfl,f1,f2,by show _≤(1000000:Int);omega⟩
def Cg(k d p:Int):Prop:=0≤k∧k≤100∧0≤d∧d≤100∧p≤100
def pH(c:B4)(i:Nat):Prop:=if i<c.rules.length then Cg (Am.get c.rules i).keep (Am.get c.rules i).drop ((Am.get c.rules i).put.length:Int)else Cg (Am.get c.y9 (i-c.rules.length)).keep (Am.get c.y9 (i-c.rules.length)).drop ((Am.get c.y9 (i-c.rules.length)).put.length:Int)
def zh(m:Nat)(G:Nat→Prop)(f:x6):Prop:=(f=⟨0,0⟩∧∀k,k<m→G k)∨∃i:Nat,i<m∧f=⟨3,(i:Int)⟩∧¬G i∧∀k,k<i→G k
theorem zh.uniq{m:Nat}{G:Nat→Prop}{f g:x6}(h:zh m G f)(k:zh m G g):f=g:=by
 rcases h with⟨rfl,h⟩|⟨i,hi,rfl,h1,h2⟩<;>rcases k with⟨rfl,k⟩|⟨j,hj,rfl,k1,k2⟩
 ·rfl
 ·exact absurd (h j hj) k1
 ·exact absurd (k i hi) h1
 ·rcases Nat.lt_trichotomy i j with e|e|e
  ·exact absurd (k2 i e) h1
  ·rw[e]
  ·exact absurd (h2 j e) k1
theorem zi(a b c:Int):Evt (fun _=>ij a b c) (fun v=>v=false↔Cg a b c):=by
 unfold ij
 refine Evt.pure ?_
 unfold Cg
 simp only[Bool.cond_true_left,Bool.or_eq_false_iff,decide_eq_false_iff_not]
 omega
theorem Ch(c:B4)(h:c.rules.length+c.y9.length≤1000):Evt (fun _=>C2 (D1 (iq c) c.rules.length ()) (iu c)) (zh (c.rules.length+c.y9.length) (pH c)):=by
 refine Evt.C2 (Evt.range (fun k _=>∀j,j<k→pH c j) (fun _=>False) (zh (c.rules.length+c.y9.length) (pH c)) (fun j hj=>by omega) (fun k s hk hi=>?_)) (fun t ht=>?_) (fun r hr=>hr)
 ·have hg:pH c k↔Cg (Am.get c.rules k).keep (Am.get c.rules k).drop ((Am.get c.rules k).put.length:Int):=by unfold pH;rw[if_pos hk]
  unfold iq iP
  refine Evt.bind (zi _ _ _) fun v hv=>Evt.cond (fun e=>Evt.bind (P:=fun f=>f=⟨3,(k:Int)⟩) (Evt.pure rfl) fun f hf=>Evt.pure ?_) (fun e=>Evt.pure fun j hj=>?_)
  ·subst hf
   exact .inr ⟨k,by omega,rfl,fun h=>(by rw[hg, ←hv]at h;rw[h]at e;cases e),hi⟩
  ·by_cases ej:j=k
   ·subst ej;rw[hg, ←hv];exact e
   ·exact hi j (by omega)
 ·have ht:=ht.elim id False.elim
  unfold iu
  refine Evt.C2 (Evt.range (fun k _=>∀j,j<c.rules.length+k→pH c j) (fun _=>False) (zh (c.rules.length+c.y9.length) (pH c)) ht (fun k s hk hi=>?_)) (fun t ht=>Evt.pure (.inl ⟨rfl,fun k hk=>?_⟩)) (fun r hr=>hr)
  ·have hg:pH c (c.rules.length+k)↔Cg (Am.get c.y9 k).keep (Am.get c.y9 k).drop ((Am.get c.y9 k).put.length:Int):=by unfold pH;rw[if_neg (by omega),Nat.add_sub_cancel_left]
   unfold jH iP
   have hw:wr .i64 ((c.rules.length:Int)+(k:Int))=((c.rules.length+k:Nat):Int):=by rw[G3 (by omega) (by omega)];omega
   rw[hw]
   refine Evt.bind (zi _ _ _) fun v hv=>Evt.cond (fun e=>Evt.bind (P:=fun f=>f=⟨3,((c.rules.length+k:Nat):Int)⟩) (Evt.pure rfl) fun f hf=>Evt.pure ?_) (fun e=>Evt.pure fun j hj=>?_)
   ·subst hf
    exact .inr ⟨c.rules.length+k,by omega,rfl,fun h=>(by rw[hg, ←hv]at h;rw[h]at e;cases e),hi⟩
   ·by_cases ej:j=c.rules.length+k
    ·subst ej;rw[hg, ←hv];exact e
    ·exact hi j (by omega)
  ·exact(ht.elim id False.elim) k hk
section
variable {α:Type} [Inhabited α]
theorem uO{l m:List α}(hl:l.length=m.length)(h:∀k,k<l.length→Am.get l k=Am.get m k):l=m:=by
 refine List.ext_getElem hl fun k h1 h2=>?_
 have:=h k h1
 simpa[Am.get,h1,h2]using this
theorem Je(f:Nat→α→α→Option Bool)(l m:List α)(hl:l.length=m.length)(hf:∀k,k<l.length→Evt (fun n=>f n (Am.get l k) (Am.get m k)) (fun r=>r=true↔Am.get l k=Am.get m k)):
 Evt (fun n=>C2 (D1 (fun(k:Nat) (_:Unit)=>chk ((↑k:Int)<(↑m.length:Int)) ((f n (Am.get l k) (Am.get m k)).bind fun v=>bif (!v)then some (Ctl.ret false)else some (Ctl.nxt ()))) l.length ()) (fun _=>some true)) (fun r=>r=true↔l=m):=by
 refine Evt.C2 (Evt.range (fun k _=>∀j,j<k→Am.get l j=Am.get m j) (fun _=>False) (fun r:Bool=>r=false∧l≠m) (fun j h=>absurd h (Nat.not_lt_zero _)) (fun k u hk hj=>?_)) (fun u hu=>?_) (fun r hr=>?_)
 ·refine Evt.chk (by omega) (Evt.bind (hf k hk) fun v hv=>Evt.cond (fun e=>Evt.pure ⟨rfl,fun e2=>?_⟩) (fun e=>Evt.pure fun j hj'=>?_))
  ·rw[e2]at hv
   rw[hv.2 rfl]at e;cases e
  ·by_cases ej:j=k
   ·subst ej;exact hv.1 (by simpa using e)
   ·exact hj j (by omega)
 ·simp only[ExP,or_false]at hu
  exact Evt.pure (by simp only[true_iff];exact uO hl hu)
 ·obtain⟨rfl,h⟩:=(hr:r=false∧l≠m)
  simp[h]
theorem lu(f:Nat→α→α→Option Bool)(l m:List α)(hf:l.length=m.length→∀k,k<l.length→Evt (fun n=>f n (Am.get l k) (Am.get m k)) (fun r=>r=true↔Am.get l k=Am.get m k)):
 Evt (fun n=>bif (!decide ((↑l.length:Int)=(↑m.length:Int)))then some false else C2 (D1 (fun(k:Nat) (_:Unit)=>chk ((↑k:Int)<(↑m.length:Int)) ((f n (Am.get l k) (Am.get m k)).bind fun v=>bif (!v)then some (Ctl.ret false)else some (Ctl.nxt ()))) l.length ()) (fun _=>some true)) (fun r=>r=true↔l=m):=by
 refine Evt.cond (fun e=>Evt.pure ?_) (fun e=>?_)
 ·replace e:=bx e
  simp only[Bool.false_eq_true,false_iff]
  intro h;exact e (by rw[h])
 ·replace e:=bx e
  have hl:l.length=m.length:=by omega
  exact Je f l m hl (hf hl)
end
theorem Ci(a b:List Int):Evt (fun _=>aF a b) (fun r=>r=true↔a=b):=by
 unfold aF
 exact lu (fun _ x y=>some (decide (x=y))) a b (fun _ k _=>Evt.pure (by simp))
theorem zj(a b:List y3):Evt (fun _=>L8 a b) (fun r=>r=true↔a=b):=by
 unfold L8
 exact lu (fun _ x y=>some (decide (x.name=y.name)&&(decide (x.of_=y.of_)&&decide (x.value=y.value)))) a b (fun _ k _=>Evt.pure (by
  generalize Am.get a k=x
  generalize Am.get b k=y
  cases x;cases y;simp))
theorem zk(a b:List D3):Evt (fun _=>L9 a b) (fun r=>r=true↔a=b):=by
 unfold L9
 exact lu (fun _ x y=>some (decide (x.hJ=y.hJ)&&decide (x.to_=y.to_))) a b (fun _ k _=>Evt.pure (by
  generalize Am.get a k=x
  generalize Am.get b k=y
  cases x;cases y;simp))
theorem vj(a b:w5):Evt (fun _=>cI a b) (fun r=>r=true↔a=b):=by
 unfold cI
 refine Evt.bind (P:=fun r=>r=true↔a.types=b.types) ?_ fun v1 h1=>Evt.bind (P:=fun r=>v1=true→(r=true↔a.B1=b.B1)) (Evt.gd (fun _=>(zj _ _).mono fun r hr _=>hr) (fun e h=>by rw[e]at h;cases h)) fun v2 h2=>Evt.pure ?_
 ·unfold G0
  refine lu (fun _ x y=>bI x y) a.types b.types (fun _ k _=>?_)
  generalize Am.get a.types k=x
  generalize Am.get b.types k=y
  unfold bI
  refine Evt.bind (P:=fun r=>x.name=y.name→(r=true↔x.parents=y.parents)) (Evt.gd (fun _=>(Ci _ _).mono fun r hr _=>hr) (fun e h=>absurd h (of_decide_eq_false e))) fun v hv=>Evt.pure ?_
  obtain⟨n1,p1⟩:=x
  obtain⟨n2,p2⟩:=y
  simp only[w8.mk.injEq]at*
  by_cases h:n1=n2<;>simp_all
 ·cases a;cases b
  simp only[w5.mk.injEq]at*
  cases v1<;>simp_all
theorem pI(a b:y5):Evt (fun _=>dB a b) (fun r=>r=true↔a=b):=by
 unfold dB
 refine Evt.bind (P:=fun r=>r=true↔a.nodes=b.nodes) ?_ fun v1 h1=>Evt.pure ?_
 ·unfold G1
  refine lu (fun _ x y=>gE x y) a.nodes b.nodes (fun _ k _=>?_)
  generalize Am.get a.nodes k=x
  generalize Am.get b.nodes k=y
  unfold gE
  refine Evt.bind (P:=fun r=>x.type=y.type→(r=true↔x.links=y.links)) (Evt.gd (fun _=>(zk _ _).mono fun r hr _=>hr) (fun e h=>absurd h (of_decide_eq_false e))) fun v hv=>Evt.pure ?_
  obtain⟨n1,p1⟩:=x
  obtain⟨n2,p2⟩:=y
  simp only[x5.mk.injEq]at*
  by_cases h:n1=n2<;>simp_all
 ·cases a;cases b
  simpa using h1
theorem Aq:∀(m:Nat) (s:u0),SizeOf.sizeOf s≤m→∀t:u0,Evt (fun n=>aB n s t) (fun r=>r=true↔s=t):=by
 intro m
 induction m with
 |zero=>intro s h;cases s;simp only[u0.mk.sizeOf_spec]at h;omega
 |succ m ih=>
  intro s hs t
  refine Evt.succ ?_
  simp only[aB]
  refine Evt.bind (P:=fun r=>s.base=t.base→(r=true↔s.args=t.args)) (Evt.gd (fun _=>?_) (fun e h=>absurd h (of_decide_eq_false e))) fun v hv=>Evt.pure ?_
  ·refine Evt.mono (P:=fun r=>r=true↔s.args=t.args) ?_ fun r hr _=>hr
   unfold E5
   exact lu (fun n x y=>aB n x y) s.args t.args (fun _ k hk=>ih _ (by have:=ft hk;omega) _)
  ·obtain⟨n1,p1⟩:=s
   obtain⟨n2,p2⟩:=t
   simp only[u0.tR,u0.nW,u0.mk.injEq]at*
   by_cases h:n1=n2<;>simp_all
theorem xD:∀(m:Nat) (s:w6),SizeOf.sizeOf s≤m→∀t:w6,Evt (fun n=>bJ n s t) (fun r=>r=true↔s=t):=by
 intro m
 induction m with
 |zero=>intro s h;cases s;simp only[w6.mk.sizeOf_spec]at h;omega
 |succ m ih=>
  intro s hs t
  refine Evt.succ ?_
  simp only[bJ]
  refine Evt.bind (P:=fun r=>(s.kind=t.kind∧s.name=t.name∧s.index=t.index)→(r=true↔s.type=t.type)) (Evt.gd (fun _=>(Aq _ _ (Nat.le_refl _) _).mono fun r hr _=>hr) (fun e h=>?_)) fun v1 hv1=>?_
  ·rw[h.1,h.2.1,h.2.2]at e;simp at e
  refine Evt.bind (P:=fun r=>(s.kind=t.kind∧s.name=t.name∧s.index=t.index∧v1=true)→(r=true↔s.args=t.args)) (Evt.gd (fun _=>?_) (fun e h=>?_)) fun v hv=>Evt.pure ?_
  ·refine Evt.mono (P:=fun r=>r=true↔s.args=t.args) ?_ fun r hr _=>hr
   unfold G2
   exact lu (fun n x y=>bJ n x y) s.args t.args (fun _ k hk=>ih _ (by have:=gC hk;omega) _)
  ·rw[h.1,h.2.1,h.2.2.1,h.2.2.2]at e;simp at e
  ·obtain⟨k1,n1,i1,t1,g1⟩:=s
   obtain⟨k2,n2,i2,t2,g2⟩:=t
   simp only[w6.Ir,w6.Iu,w6.EX,w6.Iv,w6.nW,w6.mk.injEq]at*
   by_cases h1:k1=k2<;>by_cases h2:n1=n2<;>by_cases h3:i1=i2<;>cases v1<;>simp_all
theorem rz(a b:w4):Evt (fun n=>R5 n a b) (fun r=>r=true↔a=b):=by
 unfold R5
 refine Evt.bind (P:=fun r=>(a.name=b.name∧a.kids=b.kids∧a.weight=b.weight)→(r=true↔a.graph=b.graph)) (Evt.gd (fun _=>(pI _ _).mono fun r hr _=>hr) (fun e h=>?_)) fun v1 hv1=>?_
 ·rw[h.1,h.2.1,h.2.2]at e;simp at e
 refine Evt.bind (P:=fun r=>(a.name=b.name∧a.kids=b.kids∧a.weight=b.weight∧v1=true)→(r=true↔a.meaning=b.meaning)) (Evt.gd (fun _=>(xD _ _ (Nat.le_refl _) _).mono fun r hr _=>hr) (fun e h=>?_)) fun v hv=>Evt.pure ?_
 ·rw[h.1,h.2.1,h.2.2.1,h.2.2.2]at e;simp at e
 ·obtain⟨n1,g1,k1,w1,m1⟩:=a
  obtain⟨n2,g2,k2,w2,m2⟩:=b
  simp only[w4.mk.injEq]at*
  by_cases h1:n1=n2<;>by_cases h2:k1=k2<;>by_cases h3:w1=w2<;>cases v1<;>simp_all
theorem um(a b:x7):Evt (fun n=>W0 n a b) (fun r=>r=true↔a=b):=by
 unfold W0
 refine Evt.bind (P:=fun r=>(a.word=b.word∧a.weight=b.weight)→(r=true↔a.graph=b.graph)) (Evt.gd (fun _=>(pI _ _).mono fun r hr _=>hr) (fun e h=>?_)) fun v1 hv1=>?_
 ·rw[h.1,h.2]at e;simp at e
 refine Evt.bind (P:=fun r=>(a.word=b.word∧a.weight=b.weight∧v1=true)→(r=true↔a.meaning=b.meaning)) (Evt.gd (fun _=>(xD _ _ (Nat.le_refl _) _).mono fun r hr _=>hr) (fun e h=>?_)) fun v hv=>Evt.pure ?_
 ·rw[h.1,h.2.1,h.2.2]at e;simp at e
 ·obtain⟨n1,g1,w1,m1⟩:=a
  obtain⟨n2,g2,w2,m2⟩:=b
  simp only[x7.mk.injEq]at*
  by_cases h1:n1=n2<;>by_cases h2:w1=w2<;>cases v1<;>simp_all
section
variable {α:Type}
def fol(l:List α):List (Nat×Nat×List α)→Nat→List α
 | [],_=>[]
 |(k,d,p)::r,at_=>(l.drop at_).take k++(p++fol l r (at_+k+d))
def mU:List (Nat×Nat×List α)→Nat→Nat
 | [],at_=>at_
 |(k,d,_)::r,at_=>mU r (at_+k+d)
theorem Ec:∀(es:List (Nat×Nat×List α)) (at_:Nat),at_≤mU es at_
 | [],at_=>Nat.le_refl _
 |(k,d,p)::r,at_=>by have:=Ec r (at_+k+d);rw[mU];omega
theorem Ed{l:List α}{y:α}:∀(es:List (Nat×Nat×List α)) (at_:Nat),y∈fol l es at_→y∈l∨∃e∈es,y∈e.2.2
 | [],_,h=>by cases h
 |(k,d,p)::r,at_,h=>by
  rw[fol]at h
  rcases List.mem_append.1 h with h|h
  ·exact .inl (List.mem_of_mem_drop (List.mem_of_mem_take h))
  ·rcases List.mem_append.1 h with h|h
   ·exact .inr ⟨_,List.mem_cons_self ..,h⟩
   ·rcases Ed r _ h with h|⟨e,he,h⟩
    ·exact .inl h
    ·exact .inr ⟨e,List.mem_cons_of_mem _ he,h⟩
theorem Ee{l:List α}:∀(es:List (Nat×Nat×List α)) (at_:Nat),(∀e∈es,e.1≤100∧e.2.2.length≤100)→(fol l es at_).length≤200*es.length
 | [],_,_=>by simp[fol]
 |(k,d,p)::r,at_,h=>by
  have h1:=h _ (List.mem_cons_self ..)
  have h2:=Ee (l:=l) r (at_+k+d) (fun e he=>h e (List.mem_cons_of_mem _ he))
  rw[fol]
  simp only[List.length_append,List.length_take,List.length_cons]at*
  omega
theorem Ar{l:List α}{k d:Nat}{p:List α}:∀(es:List (Nat×Nat×List α)) (at_:Nat),fol l (es++[(k,d,p)]) at_=fol l es at_++((l.drop (mU es at_)).take k++p)
 | [],at_=>by simp[fol,mU]
 |(k',d',p')::r,at_=>by rw[List.cons_append,fol,fol,mU,Ar r];simp only[List.append_assoc]
theorem xE{k d:Nat}{p:List α}:∀(es:List (Nat×Nat×List α)) (at_:Nat),mU (es++[(k,d,p)]) at_=mU es at_+k+d
 | [],at_=>rfl
 |(k',d',p')::r,at_=>by rw[List.cons_append,mU,mU,xE r]
theorem qR[Inhabited α]{l:List α}{a k:Nat}:(l.drop a).take (k+1)=(l.drop a).take k++if a+k<l.length then [Am.get l (a+k)]else []:=by
 rw[List.take_add_one,List.getElem?_drop]
 by_cases h:a+k<l.length
 ·rw[if_pos h,List.getElem?_eq_getElem h]
  simp[Am.get,h]
 ·rw[if_neg h,List.getElem?_eq_none (by omega)]
  simp
end
end Go.Proofs.YtonfgoanbllceaaGreatDoor
