import Derived.Lib.ValidLaws
import Derived.Lib.RuneCount
import Derived.Lib.IndexAny
import Derived.Test.YtfogbhjeihkliaaGreatDoorDXLaw1
set_option linter.unusedVariables false
set_option linter.unusedSimpArgs false
namespace Go.Proofs.YtfogbhjeihkliaaGreatDoor
open Go Go.Am
def MS(T:List nP):Prop:=∀r∈T,r.kind=1∨r.kind=3→∃k,SOk r.typ k∧k≤200
theorem Ox{t:x9}{b n:Nat}(h:WfT b t n):∀ {T:List nP} {up:Int} {i:Nat},Tab t up i T→MS T:=by
 induction h with
 |con b t k h hs hk h0=>
  intro T up i hT
  cases hT with
  |leaf _ _ _ _=>intro r hr _;rw[List.mem_singleton]at hr;subst hr;exact⟨k,hs,hk⟩
  |one _ u _ _ T h1 _=>rw[h0]at h1;cases h1
  |two _ u v _ _ T U h1 _ _=>rw[h0]at h1;cases h1
 |var b t h hi h0=>
  intro T up i hT
  cases hT with
  |leaf _ _ _ _=>intro r hr hk;rw[List.mem_singleton]at hr;subst hr;simp only[rowOf]at hk;omega
  |one _ u _ _ T h1 _=>rw[h0]at h1;cases h1
  |two _ u v _ _ T U h1 _ _=>rw[h0]at h1;cases h1
 |abs b t u k n h hs hk h0 hu0 ih=>
  intro T up i hT
  cases hT with
  |leaf _ _ _ h1=>rw[h0]at h1;cases h1
  |one _ u' _ _ T h1 hT=>
   rw[h0]at h1;cases h1
   intro r hr hk2
   rcases List.mem_cons.1 hr with rfl|hr
   ·exact⟨k,hs,hk⟩
   ·exact ih hT r hr hk2
  |two _ u v _ _ T U h1 _ _=>rw[h0]at h1;cases h1
 |app b t u v n m h h0 hu0 hv0 ihu ihv=>
  intro T up i hT
  cases hT with
  |leaf _ _ _ h1=>rw[h0]at h1;cases h1
  |one _ u' _ _ T h1 hT=>rw[h0]at h1;cases h1
  |two _ u' v' _ _ T U h1 hT hU=>
   rw[h0]at h1;cases h1
   intro r hr hk
   rcases List.mem_cons.1 hr with rfl|hr
   ·simp only[rowOf]at hk;omega
   ·rcases List.mem_append.1 hr with hr|hr
    ·exact ihu hT r hr hk
    ·exact ihv hU r hr hk
structure CZ(W:List nP)(ty:List w6)(i:Nat):Prop where
 len:ty.length=W.length
 typ:∀j,i≤j→j<W.length→∀u ctx m,Node W j u ctx m→pT ctx u=some (Am.get ty j)
 ok:∀j,i≤j→j<W.length→∃k,SOk (Am.get ty j) k∧k≤201*(W.length-j)
theorem CZ.set{W:List nP}{ty:List w6}{i:Nat}{s:w6}(h:CZ W ty (i+1))(hi:i<W.length)(h1:∀u ctx m,Node W i u ctx m→pT ctx u=some s)(h2:∃k,SOk s k∧k≤201*(W.length-i)):CZ W (ty.set i s) i:=by
 obtain⟨a,b,c⟩:=h
 refine⟨by simp[a],fun j hj hj2 u ctx m hn=>?_,fun j hj hj2=>?_⟩
 ·rw[bG]
  by_cases e:i=j
  ·subst e;rw[if_pos ⟨rfl,by omega⟩];exact h1 u ctx m hn
  ·rw[if_neg (by omega)];exact b j (by omega) hj2 u ctx m hn
 ·rw[bG]
  by_cases e:i=j
  ·subst e;rw[if_pos ⟨rfl,by omega⟩];exact h2
  ·rw[if_neg (by omega)];exact c j (by omega) hj2
theorem kM{W:List nP}{i:Nat}{u:x9}{ctx:List w6}{m:Nat}(h:Node W i u ctx m):(Am.get W i).kind=u.kind∧(Am.get W i).typ=u.type∧(1≤u.kind∧u.kind≤4)∧i<W.length:=by
 cases h with
 |con _ _ _ up h e hl=>rw[e];exact⟨rfl,rfl,by omega,hl⟩
 |var _ _ _ up h hi e hl hu hup=>rw[e];exact⟨rfl,rfl,by omega,hl⟩
 |abs _ _ u _ up n h h0 e hl hu=>rw[e];exact⟨rfl,rfl,by omega,hl⟩
 |app _ _ u v _ up n m h h0 e hl hu hv=>rw[e];exact⟨rfl,rfl,by omega,hl⟩
theorem Ga{W:List nP}{i:Nat}{t:x9}{ctx:List w6}{m:Nat}(h:Node W i t ctx m)(hk:t.kind=3):(Am.get W i).kids=[((i+1:Nat):Int)]∧i+1<W.length∧∃u n,Node W (i+1) u (ctx++[t.type]) n∧pT ctx t=Px t.type [pT (ctx++[t.type]) u]:=by
 cases h with
 |con _ _ _ up h e hl=>omega
 |var _ _ _ up h hi e hl hu hup=>omega
 |abs _ _ u _ up n h h0 e hl hu=>rw[e];exact⟨rfl,(kM hu).2.2.2,u,n,hu,JA h h0⟩
 |app _ _ u v _ up n m h h0 e hl hu hv=>omega
theorem Gb{W:List nP}{i:Nat}{t:x9}{ctx:List w6}{m:Nat}(h:Node W i t ctx m)(hk:t.kind=4):∃n,(Am.get W i).kids=[((i+1:Nat):Int),((i+1+n:Nat):Int)]∧(i+1<W.length∧i+1+n<W.length)∧∃u v q,Node W (i+1) u ctx n∧Node W (i+1+n) v ctx q∧pT ctx t=EH [pT ctx u,pT ctx v]:=by
 cases h with
 |con _ _ _ up h e hl=>omega
 |var _ _ _ up h hi e hl hu hup=>omega
 |abs _ _ u _ up n h h0 e hl hu=>omega
 |app _ _ u v _ up n m h h0 e hl hu hv=>rw[e];exact⟨n,rfl,⟨(kM hu).2.2.2,(kM hv).2.2.2⟩,u,v,m,hu,hv,EJ h h0⟩
theorem LK{W:List nP}{i:Nat}{t:x9}{ctx:List w6}{m:Nat}(h:Node W i t ctx m)(hk:t.kind=1):pT ctx t=some t.type:=by
 rw[jQ,if_pos hk]
theorem UpC.len{W:List nP}{up:Int}{ctx:List w6}(h:UpC W up ctx):(ctx.length:Int)≤up+1:=by
 induction h with
 |top=>simp
 |abs i ctx hi hk hu h ih=>simp only[List.length_append,List.length_cons,List.length_nil];omega
 |app i ctx hi hk hu h ih=>omega
theorem Gc{W:List nP}{i:Nat}{t:x9}{ctx:List w6}{m:Nat}(h:Node W i t ctx m)(hk:t.kind=2)(hl:W.length≤1000):Evt (fun n=>X7 n W i) (fun p=>(0≤p∧p<W.length∧(Am.get W p.toNat).kind=3)∧pT ctx t=some (Am.get W p.toNat).typ):=by
 cases h with
 |con _ _ _ up h e hl=>omega
 |var _ _ _ up h hi e hl2 hu hup=>
  have:=hu.len
  exact(JB e hl2 hi (by omega) hu).mono fun p hp=>⟨hp.1,by rw[jQ,if_neg (by omega),if_pos hk,hp.2]⟩
 |abs _ _ u _ up n h h0 e hl hu=>omega
 |app _ _ u v _ up n m h h0 e hl hu hv=>omega
theorem Evt.uniq{α:Type}{x:Nat→Option α}{P:α→Prop}{r:α}(h:Evt x (fun a=>a=r))(k:Evt x P):P r:=by
 obtain⟨a,rfl,N,hN⟩:=h
 obtain⟨b,hb,M,hM⟩:=k
 have h1:=hN (max N M) (by omega)
 have h2:=hM (max N M) (by omega)
 rw[h1]at h2
 cases h2
 exact hb
theorem Da{W:List nP}{t:x9}{n:Nat}{ty:List w6}{i:Nat}(hr:MS W)(hw:W.length≤1000)(hT:Node W 0 t [] n)(hn:n=W.length)(hi:i<W.length)(h:CZ W ty (i+1)):
 Evt (fun k=>S4 k W (ty,(i:Int))) (Lz (fun s=>CZ W s.1 i∧s.2=(i:Int)-1) (fun _=>False) (fun r=>r.2=false∧pT [] t=none)):=by
 obtain⟨u,ctx,m,hN,hS⟩:=Ow hT i (by omega) (by omega)
 obtain⟨hk,XP,hk4,_⟩:=kM hN
 have hlen:=h.len
 have hw1:wr .i64 ((i:Int)-1)=(i:Int)-1:=H9 (by omega) (by omega)
 unfold S4
 simp only[Int.toNat_natCast,hw1]
 refine Evt.cond (fun _=>Evt.chk (by omega) ?_) (fun e=>?_)
 ·refine Evt.cond (fun e=>?_) (fun e=>Evt.cond (fun e2=>?_) (fun e2=>Evt.cond (fun e3=>?_) (fun e3=>Evt.cond (fun e4=>?_) (fun e4=>?_))))
  ·replace e:=bx e
   obtain⟨k,hk1,hk2⟩:=hr _ (get_mem hi) (.inl e)
   refine Evt.chk (by omega) (Evt.eE (Evt.pure ⟨h.set hi (fun u' ctx' m' h'=>?_) ⟨k,hk1,by omega⟩,rfl⟩))
   rw[(kM h').2.1]
   exact LK h' (by rw[←(kM h').1];exact e)
  ·replace e2:=bx e2
   obtain⟨p,hp,hpe⟩:=(Gc hN (by rw[←hk];exact e2) hw).eq
   refine Evt.bind hpe fun q hq=>?_
   subst hq
   obtain⟨⟨p0,p1,p3⟩,_⟩:=hp
   obtain⟨k,hk1,hk2⟩:=hr _ (get_mem (l:=W) (k:=q.toNat) (by omega)) (.inr p3)
   refine Evt.chk ⟨p0,p1⟩ (Evt.chk (by omega) (Evt.eE (Evt.pure ⟨h.set hi (fun u' ctx' m' h'=>?_) ⟨k,hk1,by omega⟩,rfl⟩)))
   exact(Evt.uniq hpe (Gc h' (by rw[←(kM h').1];exact e2) hw)).2
  ·replace e3:=bx e3
   obtain⟨LL,hi1,u1,n1,hN1,hty⟩:=Ga hN (by rw[←hk];exact e3)
   have g0:Am.get [((i+1:Nat):Int)] 0=((i+1:Nat):Int):=rfl
   obtain⟨k,hk1,hk2⟩:=hr _ (get_mem hi) (.inr e3)
   obtain⟨k',hk1',hk2'⟩:=h.ok (i+1) (by omega) hi1
   simp only[LL,g0,Int.toNat_natCast,jf,Option.bind_some]
   refine Evt.chk (by simp) (Evt.chk (by omega) (Evt.chk (by omega) (Evt.eE (Evt.pure ⟨h.set hi (fun u' ctx' m' h'=>?_) ⟨_,.node _ _ _ _ _ rfl rfl hk1 hk1',by omega⟩,rfl⟩))))
   obtain⟨_,_,u2,n2,hN2,VY⟩:=Ga h' (by rw[←(kM h').1];exact e3)
   rw[VY,h.typ (i+1) (by omega) hi1 _ _ _ hN2,(kM h').2.1]
   rfl
  ·replace e4:=bx e4
   obtain⟨n1,LL,⟨hi1,hi2⟩,u1,v1,q1,hN1,hN2,hty⟩:=Gb hN (by rw[←hk];exact e4)
   have g0:Am.get [((i+1:Nat):Int),((i+1+n1:Nat):Int)] 0=((i+1:Nat):Int):=rfl
   have g1:Am.get [((i+1:Nat):Int),((i+1+n1:Nat):Int)] 1=((i+1+n1:Nat):Int):=rfl
   have gl: [((i+1:Nat):Int),((i+1+n1:Nat):Int)].length=2:=rfl
   have key:∀u' ctx' m',Node W i u' ctx' m'→pT ctx' u'=EH [some (Am.get ty (i+1)),some (Am.get ty (i+1+n1))]:=fun u' ctx' m' h'=>by
    obtain⟨n1',MU,⟨XQ,VZ⟩,u1',v1',q1',Wa,Wb,Wc⟩:=Gb h' (by rw[←(kM h').1];exact e4)
    rw[LL]at MU
    have:n1'=n1:=by
     have:=(List.cons.inj (List.cons.inj MU).2).1
     omega
    subst this
    rw[Wc,h.typ (i+1) (by omega) hi1 _ _ _ Wa,h.typ (i+1+n1') (by omega) VZ _ _ _ Wb]
   obtain⟨k,hk1,hk2⟩:=h.ok (i+1) (by omega) hi1
   obtain⟨k',hk1',hk2'⟩:=h.ok (i+1+n1) (by omega) hi2
   simp only[LL,g0,g1,gl,Int.toNat_natCast]
   generalize hf:Am.get ty (i+1)=f at*
   generalize hx:Am.get ty (i+1+n1)=x at*
   have bad:EH [some f,some x]=none→pT [] t=none:=fun hb=>Classical.byContradiction fun hc=>hS hc (by rw[key _ _ _ hN,hb])
   refine Evt.chk (by omega) (Evt.chk (by omega) (Evt.chk (by omega) (Evt.chk (by omega) ?_)))
   cases hk1 with
   |leaf _ hb h0=>
    have:f.base≠ []:=by rcases hb with h|h<;>rw[h]<;>simp
    simp only[this,decide_false,Bool.not_false,cond_true,Bool.not_true]
    refine Evt.chk (N6 fun h=>by cases h) (Evt.pure ⟨rfl,bad ?_⟩)
    unfold EH
    simp only[]
    rw[if_neg (by rw[h0];simp)]
   |node _ a c j l e1 e2 e3 e4=>
    have hl2:(f.args.length:Int)=2:=by rw[e2];rfl
    simp only[e1,hl2,decide_true,Bool.not_true,Bool.not_false,cond_false]
    have ga:Am.get f.args 0=a:=by rw[e2];rfl
    refine Evt.chk (N6 fun _=>by omega) (Evt.bind (yH (s:=Am.get f.args 0) (t:=x) (by rw[ga];exact e3) hk1' (by omega) (by omega)) fun w hw2=>Evt.cond (fun e=>Evt.pure ⟨rfl,bad ?_⟩) (fun e=>Evt.chk (by omega) (Evt.chk (by omega) (Evt.eE (Evt.pure ⟨h.set hi (fun u' ctx' m' h'=>?_) ⟨l,by rw[e2];exact e4,by omega⟩,rfl⟩)))))
    ·replace e:=bx e
     unfold EH
     simp only[]
     rw[if_neg]
     intro hh
     rw[hw2.2 hh.2]at e;cases e
    ·replace e:=bx e
     rw[key _ _ _ h']
     unfold EH
     simp only[]
     rw[if_pos ⟨by omega,hw2.1 e⟩]
  ·replace e:=bx e;replace e2:=bx e2;replace e3:=bx e3;replace e4:=bx e4
   omega
 ·replace e:=bx e
  have:¬(0:Int)≤(i:Int):=by omega
  omega
theorem BH{t:x9}{n:Nat}(h:WfT 0 t n)(hn:n≤1000):Evt (fun k=>bJ k t) (TyR [] t):=by
 unfold bJ JC
 refine Evt.bind (LJ h (-1) 0 (by omega)) fun W hW=>?_
 obtain⟨hl,hT⟩:=hW
 have hN:Node W 0 t [] n:=Ov h rfl hT hl ⟨by omega,fun k _=>by rw[Nat.zero_add]⟩ .top (by omega)
 have hro:=Ox h hT
 have hpos:=(kM hN).2.2.2
 have hw1:wr .i64 ((W.length:Int)-1)=(W.length:Int)-1:=H9 (by omega) (by omega)
 rw[hw1]
 refine Evt.chk (by rw[bO];omega) (Evt.B5 (P:=ExP (fun ty=>CZ W ty 0) (fun r:w6×Bool=>r.2=false∧pT [] t=none)) (Evt.loop (fun s:List w6×Int=>(s.2+1).toNat) (fun s=>∃i:Nat,i≤W.length∧s.2=(i:Int)-1∧CZ W s.1 i) _ _ ⟨W.length,Nat.le_refl _,rfl,by simp,fun j h1 h2=>by omega,fun j h1 h2=>by omega⟩ (fun s hs=>?_)) (fun ty hty=>?_) (fun r hr=>.inr hr))
 ·obtain⟨i,hi,hs2,hinv⟩:=hs
  obtain⟨ty,x⟩:=s
  simp only at hs2 hinv
  subst hs2
  match i,hi,hinv with
  |0,hi,hinv=>
   unfold S4
   refine Evt.cond (fun e=>?_) (fun e=>Evt.pure hinv)
   replace e:=bx e
   have e:(0:Int)≤((0:Nat):Int)-1:=e
   omega
  |i+1,hi,hinv=>
   have:=Da hro (by omega) hN (by omega) (by omega) hinv
   rw[show(((i+1:Nat):Int)-1)=(i:Int)by omega]
   refine this.mono fun c hc=>?_
   cases c with
   |nxt s'=>exact⟨⟨i,by omega,hc.2,hc.1⟩,by show(s'.2+1).toNat<((i:Int)+1).toNat;rw[hc.2];omega⟩
   |brk t'=>exact hc.elim
   |ret r=>exact hc
 ·have hty:CZ W ty 0:=hty
  unfold bR
  have:=hty.len
  exact Evt.chk (by omega) (Evt.pure (.inl ⟨rfl,hty.typ 0 (by omega) (by omega) _ _ _ hN⟩))
theorem BI(t:x9):Ev2 (fun n=>iO n t) (fun n=>X8 n t) (fun a b=>a=b):=by
 unfold iO X8
 have h1:=qM _ t (Nat.le_refl _) 1 0 0 (by omega) (by omega) (by omega) (by omega) (by omega) (by omega)
 refine Ev2.jw h1 fun a ha=>?_
 obtain⟨rfl,_⟩:=ha
 by_cases hc:(rX t 1 0 0).1.code=0
 ·obtain⟨n,hwf,_,hn⟩:=Ou _ t (Nat.le_refl _) 1 0 0 hc
  refine Ev2.zy (sI t) (fun u hu=>?_) (fun r hr=>?_)
  ·simp only[hc,decide_true,Bool.not_true,cond_false]
   unfold aB
   refine Ev2.jw (CX hwf (ctx:=[]) ⟨rfl,fun j hj=>by omega⟩ (by omega) (by omega)) fun x hx=>Ev2.Ey (BH hwf (by omega)) fun y hy=>?_
   have e:x.2=y.2:=by
    rcases hx with⟨h1,h2⟩|⟨h1,h2⟩<;>rcases hy with⟨h3,h4⟩|⟨h3,h4⟩
    ·rw[h1,h3]
    ·rw[h4]at h2;cases h2
    ·rw[h4]at h2;cases h2
    ·rw[h1,h3]
   rw[e]
   exact Ev2.cond rfl (fun _=>Ev2.pure rfl) (fun _=>Ev2.pure rfl)
  ·rw[if_pos hc]at hr;cases hr
 ·refine Ev2.zy (sI t) (fun u hu=>?_) (fun r hr=>?_)
  ·rw[if_neg hc]at hu;cases hu
  ·rw[if_neg hc]at hr;cases hr
   simp only[hc,decide_false,Bool.not_false,cond_true]
   exact Evt.pure rfl
end Go.Proofs.YtfogbhjeihkliaaGreatDoor
namespace Go.Proofs.YtfogbhjeihkliaaGreatDoor
open Go Go.Am Go.Lib
theorem MV(s:Bs):(bs s).data.toList=s:=by simp[bs]
theorem Rq(s:Bs):(bs s).size=s.length:=by simp[bs,ByteArray.size]
theorem nQ{s:Bs}{p:Nat}(h:p<s.length):1≤lR s p:=by
 unfold lR
 rw[if_pos h]
 exact Lib.decode_width_pos _ _ (by rw[Rq];exact h)
theorem JD(s:Bs)(i:Int):0≤B0 s i:=by unfold B0;omega
theorem jg(s:Bs)(i:Nat):B0 s i=((s.getD i 0).toNat:Int):=by unfold B0;rw[Int.toNat_natCast]
def rpos(s:Bs):Nat→Nat
 |0=>0
 |k+1=>rpos s k+lR s (rpos s k)
def RC(s:Bs)(c:Nat):Prop:=s.length≤rpos s c∧∀j,j<c→rpos s j<s.length
theorem yI(s:Bs){j k:Nat}(h:j≤k):rpos s j≤rpos s k:=by
 induction k with
 |zero=>have:j=0:=by omega
        subst this;exact Nat.le_refl _
 |succ k ih=>
  by_cases e:j=k+1
  ·subst e;exact Nat.le_refl _
  ·have:=ih (by omega)
   show rpos s j≤rpos s k+lR s (rpos s k)
   omega
theorem RC.uniq{s:Bs}{c d:Nat}(h:RC s c)(k:RC s d):c=d:=by
 rcases Nat.lt_trichotomy c d with e|e|e
 ·have:=k.2 c e;have:=h.1;omega
 ·exact e
 ·have:=h.2 d e;have:=k.1;omega
theorem JE{s:Bs}:∀ {k:Nat},(∀j,j<k→rpos s j<s.length)→k≤rpos s k
 |0,_=>Nat.le_refl _
 |k+1,h=>by
  have h1:=JE (s:=s) (k:=k) (fun j hj=>h j (by omega))
  have h2:=nQ (h k (by omega))
  show k+1≤rpos s k+lR s (rpos s k)
  omega
theorem Rr{s:Bs}{c:Nat}(h:∀j,j<c→rpos s j<s.length):c≤s.length:=by
 cases c with
 |zero=>omega
 |succ c=>have h1:=JE (s:=s) (k:=c) (fun j hj=>h j (by omega));have h2:=h c (by omega);omega
theorem Db(s:Bs)(hs:s.length<4294967296):Evt (fun n=>R9 n s) (fun v=>∃c:Nat,v=c∧RC s c):=by
 unfold R9
 refine Evt.B5 (P:=ExP (fun v:Int=>∃c:Nat,v=c∧RC s c) (fun _=>False)) (Evt.loop (fun u:Nat×Int=>s.length-u.1) (fun u=>∃k:Nat,u=(rpos s k,(k:Int))∧∀j,j<k→rpos s j<s.length) _ _ ⟨0,rfl,fun j hj=>by omega⟩ (fun u hu=>?_)) (fun t ht=>Evt.pure ht) (fun _ h=>h.elim)
 obtain⟨k,rfl,hk⟩:=hu
 unfold T8
 have hkl:=Rr hk
 refine Evt.cond (fun e=>Evt.pure ?_) (fun e=>Evt.pure ?_)
 ·replace e:=bx e
  have e:rpos s k<s.length:=e
  have:=nQ e
  refine⟨⟨k+1,?_,fun j hj=>?_⟩,by show s.length-(rpos s k+lR s (rpos s k))<s.length-rpos s k;omega⟩
  ·show(rpos s k+lR s (rpos s k),wr .i64 ((k:Int)+1))=_
   rw[H9 (by omega) (by omega)];rfl
  ·by_cases ej:j=k
   ·subst ej;exact e
   ·exact hk j (by omega)
 ·replace e:=bx e
  have e:s.length≤rpos s k:=e
  exact⟨k,rfl,e,hk⟩
def wG(r:Int):Prop:=r=32∨r=9∨r=10∨r=40∨r=41∨r=91∨r=93∨r=44∨r=59
def stops:Bs:=[32,9,10,40,41,91,93,44,59]
theorem yJ(b:UInt8):b∈stops↔wG (b.toNat:Int):=by
 unfold stops wG
 simp only[List.mem_cons,List.not_mem_nil,or_false, ←UInt8.toNat_inj]
 simp only[UInt8.reduceToNat]
 omega
theorem EK{n b0 b1 b2 b3:Nat}(h:(decodeN n b0 b1 b2 b3).1<128):b0<128∧(decodeN n b0 b1 b2 b3).1=b0:=by
 unfold decodeN at h⊢
 repeat' split at h
 all_goals first|(rename_i h1;exact⟨h1,by simp[h1]⟩)|(exfalso;simp only at h;omega)
theorem decodeN_ascii{n b0 b1 b2 b3:Nat}(h:b0<128):decodeN n b0 b1 b2 b3=(b0,1):=by unfold decodeN;rw[if_pos h]
theorem GZ{n b0 b1 b2 b3:Nat}:(2≤(decodeN n b0 b1 b2 b3).2→128≤b1)∧(3≤(decodeN n b0 b1 b2 b3).2→128≤b2)∧(4≤(decodeN n b0 b1 b2 b3).2→128≤b3)∧(decodeN n b0 b1 b2 b3).2≤4:=by
 unfold decodeN
 repeat' split
 all_goals (refine⟨fun h=>?_,fun h=>?_,fun h=>?_,?_⟩<;>(try simp only at h)<;>(try simp only)<;>omega)
theorem He{n b0 b1 b2 b3:Nat}(hn:1≤n):(decodeN n b0 b1 b2 b3).2≤n:=by
 unfold decodeN
 repeat' split
 all_goals (simp only;omega)
theorem decodeL_le{l:Bs}(h:0<l.length):(decodeL l).2≤l.length:=by rw[decodeL_N];exact He h
theorem EL(s:Bs)(p:Nat):rune s p=((decodeN (s.length-p) (s.getD p 0).toNat (s.getD (p+1) 0).toNat (s.getD (p+2) 0).toNat (s.getD (p+3) 0).toNat).1:Nat):=by
 unfold rune
 rw[decode_N,MV]
theorem LM{s:Bs}{p:Nat}(h:p<s.length):lR s p=(decodeN (s.length-p) (s.getD p 0).toNat (s.getD (p+1) 0).toNat (s.getD (p+2) 0).toNat (s.getD (p+3) 0).toNat).2:=by
 unfold lR
 rw[if_pos h,decode_N,MV]
theorem LN{s:Bs}{p:Nat}(h:rune s p<128):rune s p=((s.getD p 0).toNat:Int):=by
 rw[EL]at h⊢
 rw[(EK (by omega)).2]
theorem EM{r:Int}(h:wG r):r<128:=by unfold wG at h;omega
def MW(s:Bs):Prop:=∃k,rpos s k<s.length∧wG (rune s (rpos s k))
theorem tN{s:Bs}{p:Nat}(h:p<s.length):s.getD p 0∈s:=by
 rw[List.getD_eq_getElem?_getD,List.getElem?_eq_getElem h]
 exact List.getElem_mem h
theorem Hf{s:Bs}{i:Nat}(hi:i<s.length)(hb:(s.getD i 0).toNat<128):∃k,rpos s k=i:=by
 have key:∀m,∃k,(rpos s k=i)∨(rpos s k<i∧m≤rpos s k):=by
  intro m
  induction m with
  |zero=>
   by_cases h0:i=0
   ·exact⟨0,.inl h0.symm⟩
   ·exact⟨0,.inr ⟨by show 0<i;omega,Nat.zero_le _⟩⟩
  |succ m ih=>
   obtain⟨k,h|⟨h1,h2⟩⟩:=ih
   ·exact⟨k,.inl h⟩
   ·have hlt:rpos s k<s.length:=by omega
    have hw:=nQ hlt
    have hwe:=LM hlt
    have hin:=GZ (n:=s.length-rpos s k) (b0:=(s.getD (rpos s k) 0).toNat) (b1:=(s.getD (rpos s k+1) 0).toNat) (b2:=(s.getD (rpos s k+2) 0).toNat) (b3:=(s.getD (rpos s k+3) 0).toNat)
    rw[←hwe]at hin
    have hstep:rpos s (k+1)=rpos s k+lR s (rpos s k):=rfl
    by_cases e:rpos s (k+1)≤i
    ·by_cases e2:rpos s (k+1)=i
     ·exact⟨k+1,.inl e2⟩
     ·exact⟨k+1,.inr ⟨by omega,by omega⟩⟩
    ·exfalso
     obtain⟨a1,a2,a3,a4⟩:=hin
     obtain⟨d,hd⟩:∃d,i=rpos s k+d:=⟨i-rpos s k,by omega⟩
     have hd':d=1∨d=2∨d=3:=by omega
     rcases hd' with rfl|rfl|rfl
     ·have:=a1 (by omega);rw[←hd]at this;omega
     ·have:=a2 (by omega);rw[←hd]at this;omega
     ·have:=a3 (by omega);rw[←hd]at this;omega
 obtain⟨k,h|⟨h1,h2⟩⟩:=key i
 ·exact⟨k,h⟩
 ·omega
theorem LO(s:Bs):MW s↔ ∃b∈s,b∈stops:=by
 constructor
 ·rintro⟨k,h1,h2⟩
  refine⟨s.getD (rpos s k) 0,tN h1,(yJ _).2 ?_⟩
  rw[←LN (EM h2)]
  exact h2
 ·rintro⟨b,hb,hs⟩
  obtain⟨i,hi,e⟩:=List.getElem_of_mem hb
  have e2:s.getD i 0=b:=by rw[List.getD_eq_getElem?_getD,List.getElem?_eq_getElem hi];exact e
  have h3:=(yJ b).1 hs
  have ML:=EM h3
  obtain⟨k,hk⟩:=Hf hi (by rw[e2];omega)
  refine⟨k,by omega,?_⟩
  rw[hk,EL,e2,decodeN_ascii (by omega)]
  exact h3
theorem rZ{j0:Int×Int×Int}{l:Bs}{r i:Int}(hi0:0≤i)(hi:i<j0.1)(h1:i<l.length)(h4:i<5)(hr:0≤r)(hr2:r<100000000000)(hg:128≤B0 l i∧B0 l i≤191):gA (fun _=>F1 j0 l) (r,i) (64*r+B0 l i-128,i+1):=by
 refine gA.one ?_
 unfold F1
 refine Evt.cond (fun _=>Evt.chk ⟨hi0,h1⟩ (Evt.cond (fun e=>?_) (fun _=>Evt.pure ?_))) (fun e=>?_)
 ·replace e:=bx e
  have e:B0 l i<128∨191<B0 l i:=e
  omega
 ·show Ctl.nxt (wr .i64 (wr .i64 (wr .i64 (64*r)+wr .i64 (B0 l i))-128),wr .i64 (i+1))=_
  have hb:=JD l i
  rw[H9 (n:=64*r) (by omega) (by omega),H9 (n:=B0 l i) (by omega) (by omega),H9 (n:=64*r+B0 l i) (by omega) (by omega),H9 (by omega) (by omega),H9 (by omega) (by omega)]
 ·replace e:=bx e
  have e:j0.1≤i:=e
  omega
theorem Aq{j0:Int×Int×Int}{l:Bs}{r i:Int}(hi0:0≤i)(hi:i<j0.1)(h1:i<l.length)(hg:B0 l i<128∨191<B0 l i):lD (fun _=>F1 j0 l) (r,i) (.ret 0):=by
 refine lD.ret ?_
 unfold F1
 refine Evt.cond (fun _=>Evt.chk ⟨hi0,h1⟩ (Evt.cond (fun e=>Evt.pure rfl) (fun e=>?_))) (fun e=>?_)
 ·replace e:=bx e
  have e1:128≤B0 l i:=e.1
  have e2:B0 l i≤191:=e.2
  omega
 ·replace e:=bx e
  have e:j0.1≤i:=e
  omega
theorem JF{j0:Int×Int×Int}{l:Bs}{r i:Int}(hi:i=j0.1):lD (fun _=>F1 j0 l) (r,i) (.nxt r):=by
 refine lD.brk ?_
 unfold F1
 refine Evt.cond (fun e=>?_) (fun _=>Evt.pure rfl)
 replace e:=bx e
 have e:i<j0.1:=e
 omega
theorem ur{j0:Int×Int×Int}{l:Bs}{e:Ex Int Int}{v:Int}(hl:¬(l.length:Int)<j0.1)(h:lD (fun _=>F1 j0 l) (j0.2.2,1) e)(hv:(e= .ret v)∨∃r,e= .nxt r∧v=if r<j0.2.1∨1114111<r∨(55296≤r∧r≤57343)then 0 else j0.1):Evt (fun n=>G1 n l j0) (fun w=>w=v):=by
 unfold G1
 refine Evt.cond (fun e2=>?_) (fun _=>Evt.B5 h.evt (fun t ht=>?_) (fun r hr=>?_))
 ·replace e2:=bx e2
  exact absurd e2 hl
 ·subst ht
  rcases hv with hv|⟨r,hv,hv2⟩
  ·cases hv
  ·cases hv
   unfold Y8
   refine Evt.cond (fun e2=>Evt.pure ?_) (fun e2=>Evt.pure ?_)
   ·replace e2:=bx e2
    rw[hv2,if_pos (by omega)]
   ·replace e2:=bx e2
    rw[hv2,if_neg]
    rintro(h|h|h)
    ·omega
    ·omega
    ·simp[h]at e2;omega
 ·rcases hv with hv|⟨q,hv,hv2⟩
  ·rw[hv]at hr;cases hr;rfl
  ·rw[hv]at hr;cases hr
theorem BJ{j0:Int×Int×Int}{l:Bs}(hl:(l.length:Int)<j0.1):Evt (fun n=>G1 n l j0) (fun w=>w=0):=by
 unfold G1
 exact Evt.cond (fun _=>Evt.pure rfl) (fun e=>by replace e:=bx e;omega)
def lenOf(p:Nat×Nat):Int:=if p.1=65533∧p.2=1 then 0 else p.2
theorem gB{p:Nat×Nat}(h:p=(65533,1)):lenOf p=0:=by subst h;rfl
theorem vK{p:Nat×Nat}(h:p.2≠1):lenOf p=p.2:=by unfold lenOf;rw[if_neg (fun e=>h e.2)]
theorem BK{l:Bs}(hl:0<l.length):Evt (fun n=>W2 n l) (fun v=>v=lenOf (decodeL l)):=by
 rw[decodeL_N]
 have e0:=jg l 0
 have e1:=jg l 1
 have e2:=jg l 2
 have e3:=jg l 3
 have q0:=(l.getD 0 0).toNat_lt
 have q1:=(l.getD 1 0).toNat_lt
 have q2:=(l.getD 2 0).toNat_lt
 have q3:=(l.getD 3 0).toNat_lt
 generalize (l.getD 0 0).toNat=b0 at*
 generalize (l.getD 1 0).toNat=b1 at*
 generalize (l.getD 2 0).toNat=b2 at*
 generalize (l.getD 3 0).toNat=b3 at*
 have e0:B0 l 0=(b0:Int):=e0
 have e1:B0 l 1=(b1:Int):=e1
 have e2:B0 l 2=(b2:Int):=e2
 have e3:B0 l 3=(b3:Int):=e3
 unfold W2
 rw[e0]
 have w0:wr .i64 (b0:Int)=b0:=H9 (by omega) (by omega)
 rw[w0]
 refine Evt.chk (by omega) (Evt.cond (fun e=>Evt.pure ?_) (fun e=>Evt.cond (fun k=>?_) (fun k=>Evt.cond (fun k2=>?_) (fun k2=>Evt.cond (fun k3=>?_) (fun k3=>Evt.pure ?_)))))
 ·replace e:=bx e
  rw[decodeN_ascii (by omega)]
  unfold lenOf
  simp only
  rw[if_neg (by omega)];rfl
 ·replace e:=bx e;replace k:=bx k
  rw[H9 (n:=(b0:Int)-192) (by omega) (by omega)]
  by_cases hn:(l.length:Int)<2
  ·refine(BJ hn).mono fun w hw=>?_
   rw[hw,gB]
   unfold decodeN
   repeat' split
   all_goals first|rfl|(exfalso;omega)
  ·by_cases g1:128≤B0 l 1∧B0 l 1≤191
   ·have h:=(rZ (j0:=(2,128,(b0:Int)-192)) (l:=l) (r:=(b0:Int)-192) (i:=1) (by omega) (by show(1:Int)<2;omega) (by omega) (by omega) (by omega) (by omega) g1).ends (JF rfl)
    refine ur hn h (.inr ⟨_,rfl,?_⟩)
    rw[e1]at g1⊢
    show _=if 64*((b0:Int)-192)+(b1:Int)-128<128∨1114111<64*((b0:Int)-192)+(b1:Int)-128∨(55296≤64*((b0:Int)-192)+(b1:Int)-128∧64*((b0:Int)-192)+(b1:Int)-128≤57343)then(0:Int)else 2
    rw[if_neg (by omega)]
    obtain⟨x,hx⟩:∃x,decodeN l.length b0 b1 b2 b3=(x,2):=⟨_,by unfold decodeN;rw[if_neg (by omega),if_pos (by omega),if_pos (by omega)]⟩
    rw[hx,vK (by simp)];rfl
   ·have h:=Aq (j0:=(2,128,(b0:Int)-192)) (l:=l) (r:=(b0:Int)-192) (i:=1) (by omega) (by show(1:Int)<2;omega) (by omega) (by omega)
    refine ur hn h (.inl ?_)
    rw[e1]at g1
    rw[gB]
    unfold decodeN
    repeat' split
    all_goals first|rfl|(exfalso;omega)
 ·replace e:=bx e;replace k2:=bx k2
  have k:=k2
  rw[H9 (n:=(b0:Int)-224) (by omega) (by omega)]
  by_cases hn:(l.length:Int)<3
  ·refine(BJ hn).mono fun w hw=>?_
   rw[hw,gB]
   unfold decodeN
   repeat' split
   all_goals first|rfl|(exfalso;omega)
  ·by_cases g1:128≤B0 l 1∧B0 l 1≤191
   ·have s1:=rZ (j0:=(3,2048,(b0:Int)-224)) (l:=l) (r:=(b0:Int)-224) (i:=1) (by omega) (by show(1:Int)<3;omega) (by omega) (by omega) (by omega) (by omega) g1
    by_cases g2:128≤B0 l 2∧B0 l 2≤191
    ·have h:=(s1.trans (rZ (j0:=(3,2048,(b0:Int)-224)) (l:=l) (r:=64*((b0:Int)-224)+B0 l 1-128) (i:=2) (by omega) (by show(2:Int)<3;omega) (by omega) (by omega) (by omega) (by omega) g2)).ends (JF rfl)
     refine ur hn h (.inr ⟨_,rfl,?_⟩)
     rw[e1]at g1;rw[e2]at g2;rw[e1,e2]
     generalize hr:64*(64*((b0:Int)-224)+(b1:Int)-128)+(b2:Int)-128=r
     show _=if r<2048∨1114111<r∨(55296≤r∧r≤57343)then(0:Int)else 3
     by_cases hc:r<2048∨1114111<r∨(55296≤r∧r≤57343)
     ·rw[if_pos hc,gB]
      unfold decodeN
      repeat' split
      all_goals first|rfl|(exfalso;omega)
     ·rw[if_neg hc]
      obtain⟨x,hx⟩:∃x,decodeN l.length b0 b1 b2 b3=(x,3):=⟨_,by unfold decodeN;rw[if_neg (by omega),if_neg (by omega),if_pos (by omega),if_pos (by omega)]⟩
      rw[hx,vK (by simp)];rfl
    ·have h:=s1.ends (Aq (i:=2) (by omega) (by show(2:Int)<3;omega) (by omega) (by omega))
     refine ur hn h (.inl ?_)
     rw[e1]at g1;rw[e2]at g2
     rw[gB]
     unfold decodeN
     repeat' split
     all_goals first|rfl|(exfalso;omega)
   ·have h:=Aq (j0:=(3,2048,(b0:Int)-224)) (l:=l) (r:=(b0:Int)-224) (i:=1) (by omega) (by show(1:Int)<3;omega) (by omega) (by omega)
    refine ur hn h (.inl ?_)
    rw[e1]at g1
    rw[gB]
    unfold decodeN
    repeat' split
    all_goals first|rfl|(exfalso;omega)
 ·replace e:=bx e;replace k3:=bx k3
  rw[H9 (n:=(b0:Int)-240) (by omega) (by omega)]
  by_cases hn:(l.length:Int)<4
  ·refine(BJ hn).mono fun w hw=>?_
   rw[hw,gB]
   unfold decodeN
   repeat' split
   all_goals first|rfl|(exfalso;omega)
  ·by_cases g1:128≤B0 l 1∧B0 l 1≤191
   ·have s1:=rZ (j0:=(4,65536,(b0:Int)-240)) (l:=l) (r:=(b0:Int)-240) (i:=1) (by omega) (by show(1:Int)<4;omega) (by omega) (by omega) (by omega) (by omega) g1
    by_cases g2:128≤B0 l 2∧B0 l 2≤191
    ·have s2:=s1.trans (rZ (j0:=(4,65536,(b0:Int)-240)) (l:=l) (r:=64*((b0:Int)-240)+B0 l 1-128) (i:=2) (by omega) (by show(2:Int)<4;omega) (by omega) (by omega) (by omega) (by omega) g2)
     by_cases g3:128≤B0 l 3∧B0 l 3≤191
     ·have h:=(s2.trans (rZ (j0:=(4,65536,(b0:Int)-240)) (l:=l) (r:=64*(64*((b0:Int)-240)+B0 l 1-128)+B0 l 2-128) (i:=3) (by omega) (by show(3:Int)<4;omega) (by omega) (by omega) (by omega) (by omega) g3)).ends (JF rfl)
      refine ur hn h (.inr ⟨_,rfl,?_⟩)
      rw[e1]at g1;rw[e2]at g2;rw[e3]at g3;rw[e1,e2,e3]
      generalize hr:64*(64*(64*((b0:Int)-240)+(b1:Int)-128)+(b2:Int)-128)+(b3:Int)-128=r
      show _=if r<65536∨1114111<r∨(55296≤r∧r≤57343)then(0:Int)else 4
      by_cases hc:r<65536∨1114111<r∨(55296≤r∧r≤57343)
      ·rw[if_pos hc,gB]
       unfold decodeN
       repeat' split
       all_goals first|rfl|(exfalso;omega)
      ·rw[if_neg hc]
       obtain⟨x,hx⟩:∃x,decodeN l.length b0 b1 b2 b3=(x,4):=⟨_,by unfold decodeN;rw[if_neg (by omega),if_neg (by omega),if_neg (by omega),if_pos (by omega),if_pos (by omega)]⟩
       rw[hx,vK (by simp)];rfl
     ·have h:=s2.ends (Aq (i:=3) (by omega) (by show(3:Int)<4;omega) (by omega) (by omega))
      refine ur hn h (.inl ?_)
      rw[e1]at g1;rw[e2]at g2;rw[e3]at g3
      rw[gB]
      unfold decodeN
      repeat' split
      all_goals first|rfl|(exfalso;omega)
    ·have h:=s1.ends (Aq (i:=2) (by omega) (by show(2:Int)<4;omega) (by omega) (by omega))
     refine ur hn h (.inl ?_)
     rw[e1]at g1;rw[e2]at g2
     rw[gB]
     unfold decodeN
     repeat' split
     all_goals first|rfl|(exfalso;omega)
   ·have h:=Aq (j0:=(4,65536,(b0:Int)-240)) (l:=l) (r:=(b0:Int)-240) (i:=1) (by omega) (by show(1:Int)<4;omega) (by omega) (by omega)
    refine ur hn h (.inl ?_)
    rw[e1]at g1
    rw[gB]
    unfold decodeN
    repeat' split
    all_goals first|rfl|(exfalso;omega)
 ·replace e:=bx e;replace k:=bx k;replace k2:=bx k2;replace k3:=bx k3
  rw[gB]
  unfold decodeN
  repeat' split
  all_goals first|rfl|(exfalso;omega)
theorem Oy:∀b:Fin 256,∀i:Fin 8,decide ((b.val*2^(8*i.val))&&&9259542123273814144=0)=decide (b.val<128):=by decide+kernel
theorem mj(b:UInt8)(i:Nat)(hi:i<8):(b.toNat*2^(8*i))&&&9259542123273814144=0↔b.toNat<128:=by
 have:=Oy ⟨b.toNat,b.toNat_lt⟩ ⟨i,hi⟩
 simpa using this
def IsW(v:Int)(w:Nat):Prop:=v=w∧w<18446744073709551616
theorem IsW.or{v u:Int}{w x:Nat}(h:IsW v w)(k:IsW u x):IsW (cu .or .u64 v u) (w|||x):=by
 obtain⟨rfl,h⟩:=h
 obtain⟨rfl,k⟩:=k
 exact⟨CP h k,Nat.or_lt_two_pow (n:=64) h k⟩
theorem qx(b:UInt8)(i:Nat)(hi:i<8):IsW (wr .u64 (wr .u64 (b.toNat:Int)*2^(min (8*i) 64))) (b.toNat*2^(8*i)):=by
 have hb:=b.toNat_lt
 have h1:b.toNat*2^(8*i)≤255*2^56:=Nat.mul_le_mul (by omega) (Nat.pow_le_pow_right (by decide) (by omega))
 have h2:b.toNat*2^(8*i)<18446744073709551616:=by omega
 refine⟨?_,h2⟩
 have e1:wr .u64 (b.toNat:Int)=(b.toNat:Int):=kL (by omega)
 have e2:min (8*i) 64=8*i:=by omega
 rw[e1,e2]
 have e3:((b.toNat:Int)*2^(8*i))=((b.toNat*2^(8*i):Nat):Int):=by simp
 rw[e3]
 exact kL h2
theorem LP(b:UInt8):IsW (wr .u64 (b.toNat:Int)) (b.toNat*2^(8*0)):=by
 have hb:=b.toNat_lt
 have e1:wr .u64 (b.toNat:Int)=(b.toNat:Int):=kL (by omega)
 exact⟨by rw[e1];simp,by simp;omega⟩
theorem BL{v:Int}{w:Nat}(h:IsW v w):cu .and .u64 v 9259542123273814144=0↔w&&&9259542123273814144=0:=by
 obtain⟨rfl,h⟩:=h
 have:=rV (x:=w) (y:=9259542123273814144) h (by decide)
 have e:((9259542123273814144:Nat):Int)=9259542123273814144:=rfl
 rw[e]at this
 rw[this]
 omega
theorem fW{s:Bs}(h:8≤s.length):Evt (fun _=>I3 s) (fun v=>∃w,IsW v w∧(w&&&9259542123273814144=0↔ ∀b∈s.take 8,b.toNat<128)):=by
 match s,h with
 |b0::b1::b2::b3::b4::b5::b6::b7::t,h=>
  unfold I3
  refine Evt.cond (fun e=>by cases e) (fun _=>Evt.chk (by omega) (Evt.chk (by omega) (Evt.chk (by omega) (Evt.chk (by omega) (Evt.chk (by omega) (Evt.chk (by omega) (Evt.chk (by omega) (Evt.chk (by omega) (Evt.pure ⟨_,(((((((LP b0).or (qx b1 1 (by omega))).or (qx b2 2 (by omega))).or (qx b3 3 (by omega))).or (qx b4 4 (by omega))).or (qx b5 5 (by omega))).or (qx b6 6 (by omega))).or (qx b7 7 (by omega)),?_⟩)))))))))
  simp only[or_mask,mj _ _ (show 0<8 by omega),mj _ _ (show 1<8 by omega),mj _ _ (show 2<8 by omega),mj _ _ (show 3<8 by omega),mj _ _ (show 4<8 by omega),mj _ _ (show 5<8 by omega),mj _ _ (show 6<8 by omega),mj _ _ (show 7<8 by omega)]
  simp only[List.take_succ_cons,List.take_zero,List.mem_cons,List.not_mem_nil,or_false,forall_eq_or_imp,forall_eq]
  simp only[and_assoc]
theorem jR{s:Bs}(h:∀b∈s.take 8,b.toNat<128):validD s=validD (s.drop 8):=validD_ascii 8 s h
theorem vL(L:Nat)(V:Bool)(s:Bs)(hs:s.length≤L)(hv:validD s=V):Evt (fun _=>W3 s) (Lz (fun s'=>(s'.length≤L∧validD s'=V)∧s'.length<s.length) (fun t=>t.length≤L∧validD t=V) (fun _=>False)):=by
 unfold W3
 by_cases h:(32:Int)<(s.length:Int)
 ·simp only[h,decide_true,uq,cond_true]
  refine Evt.bind (fW (by omega)) fun a ha=>Evt.chk (N6 fun _=>by omega) (Evt.bind (fW (by rw[List.length_drop];omega)) fun b hb=>Evt.chk (N6 fun _=>by omega)
   (Evt.bind (fW (by rw[List.length_drop];omega)) fun c hc=>Evt.chk ⟨N6 fun _=>by omega,N6 fun _=>by omega⟩ (Evt.bind (fW (by rw[List.length_drop];omega)) fun d hd=>Evt.cond (fun e=>Evt.chk ⟨by omega,by omega⟩ (Evt.pure ?_)) (fun _=>Evt.pure ⟨hs,hv⟩))))
  replace e:=bx e
  obtain⟨wa,ia,ma⟩:=ha
  obtain⟨wb,ib,mb⟩:=hb
  obtain⟨wc,ic,mc⟩:=hc
  obtain⟨wd,id,md⟩:=hd
  have e2:=(BL ((ia.or ib).or (ic.or id))).1 e
  simp only[or_mask,ma,mb,mc,md]at e2
  obtain⟨⟨k1,k2⟩,k3,k4⟩:=e2
  refine⟨⟨by rw[List.length_drop];omega,?_⟩,by rw[List.length_drop];omega⟩
  have r1:=jR k1
  have r2:=jR k2
  have r3:=jR k3
  have r4:=jR k4
  rw[List.drop_drop]at r2 r3 r4
  rw[←hv,r1,r2,r3,r4]
 ·simp only[h,decide_false,BF,cond_false,Option.bind_some]
  exact Evt.chk (N6 fun h=>Bool.noConfusion h) (Evt.chk (N6 fun h=>Bool.noConfusion h) (Evt.chk ⟨N6 fun h=>Bool.noConfusion h,N6 fun h=>Bool.noConfusion h⟩ (Evt.pure ⟨hs,hv⟩)))
theorem Oz:∀b:Fin 256,Am.get pN b.val=(firstT b.val:Int)∧wr .i64 (cu .and .u8 (Am.get pN b.val) 7)=((firstT b.val%8:Nat):Int)∧Int.fdiv (Am.get pN b.val) (2^(min 4 8))=((firstT b.val / 16:Nat):Int)∧firstT b.val / 16<16:=by decide+kernel
theorem OA:∀k:Fin 16,(Am.get sS k.val).lo=(accLo k.val:Int)∧(Am.get sS k.val).hi=(accHi k.val:Int):=by decide+kernel
theorem take_one:∀ {s:Bs},(s.getD 0 0).toNat<128→∀b∈s.take 1,b.toNat<128
 | [],_,c,hc=>by simp at hc
 |b::t,h,c,hc=>by
  simp only[List.take_succ_cons,List.take_zero,List.mem_singleton]at hc
  subst hc
  exact h
theorem vM(V:Bool)(s:Bs)(hv:validD s=V):Evt (fun n=>W4 n s) (Lz (fun s'=>validD s'=V∧s'.length<s.length) (fun _=>V=true) (fun r=>r=V)):=by
 unfold W4
 refine Evt.cond (fun e=>?_) (fun e=>Evt.pure ?_)
 rotate_left
 ·replace e:=bx e
  have:s=[]:=List.eq_nil_of_length_eq_zero (by omega)
  subst this
  exact hv.symm
 replace e:=bx e
 have hne:s≠ []:=fun h=>by rw[h]at e;simp at e
 have hb:=jg s 0
 have q0:=(s.getD 0 0).toNat_lt
 have hb:B0 s 0=((s.getD 0 0).toNat:Int):=hb
 refine Evt.chk e (Evt.cond (fun e2=>?_) (fun e2=>?_))
 ·replace e2:=bx e2
  have h1:validD s=validD (s.drop 1):=validD_ascii 1 s (take_one (by omega))
  have hl1:(s.drop 1).length=s.length-1:=List.length_drop
  refine Evt.chk ⟨by omega,by omega⟩ ?_
  by_cases h8:(8:Int)<((s.drop 1).length:Int)
  ·simp only[h8,decide_true,uq,cond_true]
   refine Evt.bind (fW (by omega)) fun a ha=>Evt.cond (fun e3=>?_) (fun _=>Evt.pure ⟨by rw[←h1];exact hv,by omega⟩)
   replace e3:=bx e3
   obtain⟨wa,ia,ma⟩:=ha
   have k1:=ma.1 ((BL ia).1 e3)
   have h2:=jR k1
   have hl2:((s.drop 1).drop 8).length=s.length-9:=by rw[List.length_drop,hl1];omega
   have hv2:validD ((s.drop 1).drop 8)=V:=by rw[←h2, ←h1];exact hv
   generalize (s.drop 1).drop 8=u at*
   refine Evt.chk ⟨by omega,by omega⟩ ?_
   by_cases h16:(16:Int)<(u.length:Int)
   ·simp only[h16,decide_true,uq,cond_true]
    refine Evt.bind (fW (by omega)) fun b hb=>Evt.chk (N6 fun _=>by omega) (Evt.bind (fW (by rw[List.length_drop];omega)) fun c hc=>Evt.cond (fun e4=>?_) (fun _=>Evt.pure ⟨hv2,by omega⟩))
    replace e4:=bx e4
    obtain⟨wb,ib,mb⟩:=hb
    obtain⟨wc,ic,mc⟩:=hc
    have e5:=(BL (ib.or ic)).1 e4
    simp only[or_mask,mb,mc]at e5
    have r1:=jR e5.1
    have r2:=jR e5.2
    rw[List.drop_drop]at r2
    refine Evt.chk ⟨by omega,by omega⟩ (Evt.B5 (P:=ExP (fun t:Bs=>t.length≤u.length∧validD t=V) (fun _=>False)) (Evt.loop (fun u:Bs=>u.length) (fun t=>t.length≤u.length∧validD t=V) _ _ ⟨by rw[List.length_drop];omega,by rw[←hv2,r1,r2]⟩ (fun t ht=>vL _ V t ht.1 ht.2)) (fun t ht=>?_) (fun r hr=>hr.elim))
    unfold br Q9
    exact Evt.pure ⟨ht.2,by have:=ht.1;omega⟩
   ·simp only[h16,decide_false,BF,cond_false,Option.bind_some]
    exact Evt.chk (N6 fun h=>Bool.noConfusion h) (Evt.pure ⟨hv2,by omega⟩)
  ·simp only[h8,decide_false,BF,cond_false,Option.bind_some]
   exact Evt.pure ⟨by rw[←h1];exact hv,by omega⟩
 ·replace e2:=bx e2
  have qy:=validD_lead s hne (by omega)
  obtain⟨_,t2,t3,t4⟩:=Oz ⟨(s.getD 0 0).toNat,q0⟩
  obtain⟨a1,a2⟩:=OA ⟨firstT (s.getD 0 0).toNat / 16,t4⟩
  have hbn:(B0 s 0).toNat=(s.getD 0 0).toNat:=by omega
  simp only at t2 t3 t4 a1 a2
  rw[hbn]
  simp only[t2,t3,Int.toNat_natCast,a1,a2]
  refine Evt.chk ⟨by omega,by omega⟩ (Evt.chk ⟨by omega,by omega⟩ ?_)
  generalize firstT (s.getD 0 0).toNat%8=Z at*
  generalize accLo (firstT (s.getD 0 0).toNat / 16)=lo at*
  generalize accHi (firstT (s.getD 0 0).toNat / 16)=hi at*
  have e1:B0 s 1=((s.getD 1 0).toNat:Int):=jg s 1
  have e2:B0 s 2=((s.getD 2 0).toNat:Int):=jg s 2
  have e3:B0 s 3=((s.getD 3 0).toNat:Int):=jg s 3
  rw[e1,e2,e3]
  generalize (s.getD 1 0).toNat=b1 at*
  generalize (s.getD 2 0).toNat=b2 at*
  generalize (s.getD 3 0).toNat=b3 at*
  rw[hv]at qy
  unfold checkN at qy
  refine Evt.cond (fun k=>?_) (fun k=>Evt.cond (fun k2=>?_) (fun k2=>Evt.cond (fun k3=>?_) (fun k3=>Evt.pure ?_)))
  ·replace k:=bx k
   have hZ:Z=2:=by omega
   rw[if_pos hZ]at qy
   refine Evt.chk (N6 fun c=>by replace c:=bx c;omega) (Evt.chk (N6 fun c=>by replace c:=bx c;omega) (Evt.cond (fun c=>Evt.pure ?_) (fun c=>?_)))
   ·replace c:=bx c
    rw[if_pos (by omega)]at qy
    exact qy.symm
   ·replace c:=bx c
    rw[if_neg (by omega)]at qy
    exact Evt.chk ⟨by omega,by omega⟩ (Evt.pure ⟨qy.symm,by rw[List.length_drop];omega⟩)
  ·replace k2:=bx k2
   have hZ:Z=3:=by omega
   rw[if_neg (by omega),if_pos hZ]at qy
   refine Evt.chk (N6 fun c=>by replace c:=bx c;omega) (Evt.chk (N6 fun c=>by replace c:=bx c;omega) (Evt.chk (N6 fun c=>by replace c:=bx c;omega) (Evt.chk (N6 fun c=>by replace c:=bx c;omega) (Evt.cond (fun c=>Evt.pure ?_) (fun c=>?_)))))
   ·replace c:=bx c
    rw[if_pos (by omega)]at qy
    exact qy.symm
   ·replace c:=bx c
    rw[if_neg (by omega)]at qy
    exact Evt.chk ⟨by omega,by omega⟩ (Evt.pure ⟨qy.symm,by rw[List.length_drop];omega⟩)
  ·replace k3:=bx k3
   have hZ:Z=4:=by omega
   rw[if_neg (by omega),if_neg (by omega),if_pos hZ]at qy
   refine Evt.chk (N6 fun c=>by replace c:=bx c;omega) (Evt.chk (N6 fun c=>by replace c:=bx c;omega) (Evt.chk (N6 fun c=>by replace c:=bx c;omega) (Evt.chk (N6 fun c=>by replace c:=bx c;omega) (Evt.chk (N6 fun c=>by replace c:=bx c;omega) (Evt.chk (N6 fun c=>by replace c:=bx c;omega) (Evt.cond (fun c=>Evt.pure ?_) (fun c=>?_)))))))
   ·replace c:=bx c
    rw[if_pos (by omega)]at qy
    exact qy.symm
   ·replace c:=bx c
    rw[if_neg (by omega)]at qy
    exact Evt.chk ⟨by omega,by omega⟩ (Evt.pure ⟨qy.symm,by rw[List.length_drop];omega⟩)
  ·replace k:=bx k;replace k2:=bx k2;replace k3:=bx k3
   rw[if_neg (by omega),if_neg (by omega),if_neg (by omega)]at qy
   exact qy.symm
theorem zC(s:Bs):Evt (fun n=>aV n s) (fun r=>r=validD s):=by
 unfold aV
 exact Evt.B5 (P:=ExP (fun _=>validD s=true) (fun r=>r=validD s)) (Evt.loop (fun u:Bs=>u.length) (fun u=>validD u=validD s) _ _ rfl (fun u hu=>vM _ u hu)) (fun t ht=>Evt.pure (Eq.symm ht)) (fun _ h=>h)
theorem wm(c:Bs):∀l:Bs,0≤Lib.indexAny l c↔ ∃b∈l,b∈c
 | []=>by simp[Lib.indexAny]
 |b::l=>by
  have ih:=wm c l
  have hge:=Lib.indexAny_ge c l
  unfold Lib.indexAny
  by_cases hb:c.contains b=true
  ·rw[if_pos hb]
   have:b∈c:=by simpa using hb
   exact⟨fun _=>⟨b,by simp,this⟩,fun _=>by decide⟩
  ·rw[if_neg hb]
   have hn:b∉c:=by simpa using hb
   by_cases h1:Lib.indexAny l c= -1
   ·rw[if_pos (by simp[h1])]
    constructor
    ·intro h;omega
    ·rintro⟨x,hx,hc⟩
     rcases List.mem_cons.1 hx with rfl|hx
     ·exact absurd hc hn
     ·have:=ih.2 ⟨x,hx,hc⟩;omega
   ·rw[if_neg (by simp[h1])]
    constructor
    ·intro _
     obtain⟨x,hx,hc⟩:=ih.1 (by omega)
     exact⟨x,by simp[hx],hc⟩
    ·intro _;omega
theorem uw(c:UInt8):∀l:Bs,0≤Lib.indexByte l c↔c∈l
 | []=>by simp[Lib.indexByte]
 |b::l=>by
  have ih:=uw c l
  unfold Lib.indexByte
  by_cases hb:b=c
  ·subst hb;simp
  ·rw[if_neg (by simp[hb])]
   have hn:¬c=b:=fun h=>hb h.symm
   by_cases h1:Lib.indexByte l c= -1
   ·rw[if_pos (by simp[h1])]
    simp only[List.mem_cons,hn,false_or, ←ih]
    omega
   ·rw[if_neg (by simp[h1])]
    simp only[List.mem_cons,hn,false_or, ←ih]
    have: -1≤Lib.indexByte l c:=by
     clear ih h1
     induction l with
     |nil=>simp[Lib.indexByte]
     |cons x l ihl=>unfold Lib.indexByte;split; · decide
                    ·split; · decide
                     ·omega
    omega
theorem nR(s:Bs)(c:Int):Evt (fun _=>gC s c) (fun v=>v=Lib.indexByte s c.toNat.toUInt8):=Evt.pure rfl
theorem Dc{r:Int}(h:128≤r):∃(l:Bs) (b:UInt8),P3 r=l++[b]∧1≤l.length∧l.length≤3∧128≤b.toNat:=by
 have key:∀c:Nat,128≤c→128≤(UInt8.ofNat (0x80+c%64)).toNat:=fun c _=>by
  rw[UInt8.toNat_ofNat']
  omega
 unfold P3 Utf8.encode
 have hc:128≤(if Utf8.valid r then r.toNat else Utf8.runeError):=by
  split
  ·omega
  ·decide
 generalize (if Utf8.valid r then r.toNat else Utf8.runeError)=c at hc
 simp only
 split
 ·omega
 ·split
  ·exact⟨[_],_,rfl,by simp,by simp,key c hc⟩
  ·split
   ·exact⟨[_,_],_,rfl,by simp,by simp,key c hc⟩
   ·exact⟨[_,_,_],_,rfl,by simp,by simp,key c hc⟩
theorem yK:stops.all (fun b=>decide (b.toNat<128))=true:=by decide
theorem Hg{l:Bs}{b:UInt8}:B0 (l++[b]) l.length=b.toNat:=by
 unfold B0
 rw[Int.toNat_natCast,List.getD_eq_getElem?_getD,List.getElem?_append_right (Nat.le_refl _)]
 simp
theorem BM(k:Nat):(stops.getD k 0).toNat<128:=by
 rw[List.getD_eq_getElem?_getD]
 by_cases h:k<stops.length
 ·rw[List.getElem?_eq_getElem h]
  exact of_decide_eq_true (List.all_eq_true.1 yK _ (List.getElem_mem h))
 ·rw[List.getElem?_eq_none (by omega)]
  simp
theorem Dd(k:Nat):B0 stops k<128:=by
 rw[jg]
 have:=BM k
 omega
theorem ux:∀(l:List UInt8) (c:UInt8),(∀b∈l,b≠c)→Lib.indexByte l c= -1
 | [],_,_=>rfl
 |b::l,c,h=>by
  have hb:(b==c)=false:=beq_false_of_ne (h b (List.mem_cons_self ..))
  have ih:=ux l c (fun x hx=>h x (List.mem_cons_of_mem _ hx))
  simp[Lib.indexByte,hb,ih]
theorem yL(r:Int)(h:128≤r):Evt (fun n=>dh n r stops ()) (Lz (fun _=>False) (fun _=>True) (fun v=>v= -1)):=by
 obtain⟨l,b,e,h1,h3,hb⟩:=Dc h
 have hl:(P3 r).length=l.length+1:=by rw[e];simp
 have hs:stops.length=9:=rfl
 have hw:wr .i64 (((P3 r).length:Int)-1)=(l.length:Int):=by
  rw[hl,H9 (by omega) (by omega)];omega
 have hw2:wr .i64 ((l.length:Int)+1)=((l.length+1:Nat):Int):=by
  rw[H9 (by omega) (by omega)];omega
 have TW:B0 (P3 r) (l.length:Int)=b.toNat:=by rw[e];exact Hg
 have hst:=Dd l.length
 unfold dh
 rw[hw,hw2,TW,Int.toNat_natCast]
 refine Evt.cond (fun _=>?_) (fun _=>Evt.pure trivial)
 refine Evt.chk (by omega) (Evt.chk (by omega) (Evt.cond (fun _=>?_) (fun e2=>?_)))
 ·refine Evt.chk (by omega) (Evt.bind (nR _ _) fun v hv=>Evt.cond (fun _=>Evt.pure rfl) (fun e3=>?_))
  exfalso
  have hn:Lib.indexByte (stops.drop (l.length+1)) ((b.toNat:Int).toNat.toUInt8)= -1:=ux _ _ (fun x hx e4=>by
   have hm:x∈stops:=List.mem_of_mem_drop hx
   have:=of_decide_eq_true (List.all_eq_true.1 yK _ hm)
   have e5:x=b:=by rw[e4];simp
   rw[e5]at this
   omega)
  rw[hn]at hv
  replace e3:=bx e3
  omega
 ·exfalso
  replace e2:=bx e2
  omega
theorem Df(r:Int)(hr:0≤r):Evt (fun n=>eG n stops r) (fun v=>0≤v↔wG r):=by
 have no:128≤r→((0:Int)≤ -1↔wG r):=fun h=>⟨fun h=>by omega,fun h2=>by have:=EM h2;omega⟩
 unfold eG
 refine Evt.cond (fun e=>Evt.bind (nR _ _) fun v hv=>Evt.pure ?_) (fun e=>?_)
 ·replace e:=bx e
  obtain⟨c,rfl⟩:∃c:Nat,r=c:=⟨r.toNat,by omega⟩
  have e1:wr .u8 (c:Int)=(c:Int):=by
   have h1:IntKind.u8.min=0:=by decide
   have h2:IntKind.u8.max=255:=by decide
   exact AV ⟨by omega,by omega⟩
  rw[hv,e1,Int.toNat_natCast,uw,yJ]
  have:(c.toUInt8).toNat=c:=by
   rw[Nat.toUInt8,UInt8.toNat_ofNat']
   omega
  rw[this]
 have h128:128≤r:=by
  by_cases h:128≤r
  ·exact h
  ·exfalso
   have e1:decide (0≤r)=true:=decide_eq_true hr
   have e2:decide (r<128)=true:=decide_eq_true (by omega)
   rw[e1,e2]at e
   cases e
 refine Evt.cond (fun _=>?_) (fun _=>?_)
 ·refine Evt.B5 (P:=ExP (fun _=>True) (fun _=>False)) (Evt.loop (fun u:Nat=>stops.length-u) (fun _=>True) _ _ trivial (fun u _=>?_)) (fun t _=>Evt.pure (no h128)) (fun _ h=>h.elim)
  unfold fX
  refine Evt.cond (fun e=>?_) (fun _=>Evt.pure trivial)
  replace e:=bx e
  have:=nQ e
  refine Evt.chk e (Evt.cond (fun e2=>?_) (fun _=>Evt.pure ⟨trivial,by omega⟩))
  replace e2:=bx e2
  exfalso
  rw[EL,decodeN_ascii (BM u)]at e2
  have:=BM u
  simp only at e2
  omega
 ·refine Evt.bind (P:=fun _=>True) ?_ fun v _=>Evt.cond (fun _=>Evt.pure (no h128)) (fun _=>?_)
  ·unfold fE
   exact Evt.cond (fun _=>Evt.pure trivial) (fun _=>Evt.cond (fun _=>Evt.pure trivial) (fun _=>Evt.pure trivial))
  ·exact Evt.B5 (P:=ExP (fun _=>True) (fun v=>v= -1)) (Evt.loop (fun _:Unit=>0) (fun _=>True) _ _ trivial (fun u _=>(yL r h128).mono fun c hc=>by
    cases c with
    |nxt s=>exact hc.elim
    |brk t=>trivial
    |ret x=>exact hc)) (fun t _=>Evt.pure (no h128)) (fun r h=>(show r= -1 from h).symm▸no h128)
theorem zD(s:Bs)(hs:s.length<4294967281):Evt (fun n=>bS n s [32,9,10,40,41,91,93,44,59]) (fun r=>r=true↔MW s):=by
 show Evt (fun n=>bS n s stops) _
 unfold bS
 refine Evt.bind (P:=fun v=>0≤v↔MW s) ?_ fun v hv=>Evt.pure (by rw[decide_eq_true_eq];exact hv)
 unfold kN
 refine Evt.cond (fun _=>Evt.chk ⟨by decide,hs,by decide,yK⟩ (Evt.pure (by rw[wm,LO]))) (fun e=>?_)
 replace e:=bx e
 unfold jH
 refine Evt.cond (fun e2=>by cases e2) (fun _=>Evt.cond (fun e2=>?_) (fun _=>?_))
 ·replace e2:=bx e2
  exact absurd e2 (by decide)
 refine Evt.bind (P:=fun b=>b=false) (Evt.pure ?_) fun b hb=>Evt.cond (fun e2=>?_) (fun _=>?_)
 ·exact decide_eq_false (by omega)
 ·rw[hb]at e2;cases e2
 unfold fY
 refine Evt.B5 (P:=ExP (fun _=>¬MW s) (fun v=>0≤v∧MW s)) (Evt.loop (fun u:Nat=>s.length-u) (fun u=>∃k,u=rpos s k∧∀j,j<k→¬wG (rune s (rpos s j))) _ _ ⟨0,rfl,fun j hj=>by omega⟩ (fun u hu=>?_)) (fun t ht=>Evt.pure ⟨fun h=>by omega,fun h=>absurd h ht⟩) (fun r h=>⟨fun _=>h.2,fun _=>h.1⟩)
 obtain⟨k,rfl,hk⟩:=hu
 unfold fZ
 refine Evt.cond (fun e2=>?_) (fun e2=>Evt.pure ?_)
 ·replace e2:=bx e2
  have:=nQ e2
  refine Evt.chk e2 (Evt.bind (Df _ (by unfold rune;omega)) fun v hv=>Evt.cond (fun e3=>Evt.pure ?_) (fun e3=>Evt.pure ⟨⟨k+1,rfl,fun j hj=>?_⟩,by omega⟩))
  ·replace e3:=bx e3
   exact⟨by omega,k,e2,hv.1 e3⟩
  ·replace e3:=bx e3
   by_cases ej:j=k
   ·subst ej;intro h;have:=hv.2 h;omega
   ·exact hk j (by omega)
 ·replace e2:=bx e2
  rintro⟨j,h1,h2⟩
  by_cases hj:j<k
  ·exact hk j hj h2
  ·have:=yI s (show k≤j by omega);omega
def Gd(s:Bs):Prop:=(∃c,RC s c∧1≤c∧c≤30)∧validD s=true∧¬MW s
theorem RC.ex(s:Bs):∃c,RC s c:=by
 obtain⟨c,_,h⟩:∃c,c≤s.length∧s.length≤rpos s c:=⟨s.length,Nat.le_refl _,by
  have:∀k,k≤rpos s k∨s.length≤rpos s k:=fun k=>by
   induction k with
   |zero=>left;exact Nat.le_refl _
   |succ k ih=>
    have hs:rpos s (k+1)=rpos s k+lR s (rpos s k):=rfl
    rcases ih with h|h
    ·by_cases hl:rpos s k<s.length
     ·have:=nQ hl;left;omega
     ·right;omega
    ·right;omega
  rcases this s.length with h|h<;>omega⟩
 induction c with
 |zero=>exact⟨0,h,fun j hj=>by omega⟩
 |succ c ih=>
  by_cases hc:s.length≤rpos s c
  ·exact ih (by omega) hc
  ·exact⟨c+1,h,fun j hj=>by have:=yI s (show j≤c by omega);omega⟩
theorem zF(s:Bs)(hs:s.length<4294967281):Evt (fun n=>nS n s) (fun r=>r=true↔Gd s):=by
 unfold nS
 refine Evt.bind (Db s (by omega)) fun v hv=>?_
 obtain⟨c,rfl,hc⟩:=hv
 by_cases hr:1≤c∧c≤30
 ·have e1:(decide ((1:Int)≤(c:Int)))=true:=decide_eq_true (by omega)
  have e2:(decide ((c:Int)≤30))=true:=decide_eq_true (by omega)
  simp only[e1,e2,cond_true,uq]
  refine Evt.bind (zC s) fun b hb=>?_
  subst hb
  cases hv:validD s with
  |true=>
   simp only[uq,cond_true]
   refine Evt.bind (zD s hs) fun b hb=>Evt.pure ?_
   unfold Gd
   cases b with
   |true=>simp only[Bool.not_true];exact⟨fun h=>(by cases h),fun h=>absurd (hb.1 rfl) h.2.2⟩
   |false=>simp only[Bool.not_false];exact⟨fun _=>⟨⟨c,hc,hr⟩,hv,fun h=>by have:=hb.2 h;cases this⟩,fun _=>(by trivial)⟩
  |false=>
   simp only[BF,cond_false,Option.bind_some]
   exact Evt.pure ⟨fun h=>(by cases h),fun h=>by have:=h.2.1;rw[hv]at this;cases this⟩
 ·have e3:(bif (decide ((1:Int)≤(c:Int)))then(decide ((c:Int)≤30))else false)=false:=by
   cases h1:decide ((1:Int)≤(c:Int))with
   |true=>
    have:=of_decide_eq_true h1
    simp only[cond_true,decide_eq_false_iff_not];omega
   |false=>rfl
  simp only[e3,BF,cond_false,Option.bind_some]
  refine Evt.pure ⟨fun h=>(by cases h),fun h=>?_⟩
  obtain⟨⟨d,hd,h1⟩,_⟩:=h
  have:=hc.uniq hd
  omega
theorem rF{s:Bs}{p:Nat}:(bif (bif (bif (bif (bif (bif (bif (bif (decide ((rune s p)=32))then true else(decide ((rune s p)=9)))then true else(decide ((rune s p)=10)))then true else(decide ((rune s p)=40)))then true else(decide ((rune s p)=41)))then true else(decide ((rune s p)=91)))then true else(decide ((rune s p)=93)))then true else(decide ((rune s p)=44)))then true else(decide ((rune s p)=59)))=true↔wG (rune s p):=by
 generalize rune s p=r
 unfold wG
 simp only[Bool.cond_true_left,Bool.or_eq_true,decide_eq_true_eq]
 omega
theorem EN(s:Bs)(hs:s.length<4294967281):Evt (fun n=>dn n s) (fun r=>r=true↔Gd s):=by
 unfold dn
 refine Evt.B5 (P:=ExP (fun v:Int=>(∃c:Nat,v=c∧RC s c)∧¬MW s) (fun r=>r=false∧MW s)) (Evt.loop (fun u:Nat×Int=>s.length-u.1) (fun u=>∃k:Nat,u=(rpos s k,(k:Int))∧∀j,j<k→rpos s j<s.length∧¬wG (rune s (rpos s j))) _ _ ⟨0,rfl,fun j hj=>by omega⟩ (fun u hu=>?_)) (fun t ht=>?_) (fun r h=>?_)
 ·obtain⟨k,rfl,hk⟩:=hu
  have hkl:=Rr fun j hj=>(hk j hj).1
  unfold dJ
  refine Evt.cond (fun e=>?_) (fun e=>Evt.pure ?_)
  ·replace e:=bx e
   have e:rpos s k<s.length:=e
   have:=nQ e
   refine Evt.chk e (Evt.cond (fun e2=>Evt.pure ?_) (fun e2=>Evt.pure ?_))
   ·exact⟨rfl,k,e,rF.1 e2⟩
   ·have hn:¬wG (rune s (rpos s k)):=fun h=>by
     have h2:=rF.2 h
     have e2:_=false:=e2
     rw[h2]at e2;cases e2
    refine⟨⟨k+1,?_,fun j hj=>?_⟩,by show s.length-(rpos s k+lR s (rpos s k))<s.length-rpos s k;omega⟩
    ·show(rpos s k+lR s (rpos s k),wr .i64 ((k:Int)+1))=_
     rw[H9 (by omega) (by omega)];rfl
    ·by_cases ej:j=k
     ·subst ej;exact⟨e,hn⟩
     ·exact hk j (by omega)
  ·replace e:=bx e
   have e:s.length≤rpos s k:=e
   refine⟨⟨k,rfl,e,fun j hj=>(hk j hj).1⟩,?_⟩
   rintro⟨j,h1,h2⟩
   by_cases hj:j<k
   ·exact(hk j hj).2 h2
   ·have:=yI s (show k≤j by omega);omega
 ·obtain⟨⟨c,hc0,hc⟩,hns⟩:=ht
  subst hc0
  unfold dK
  refine Evt.cond (fun e=>Evt.pure ⟨fun h=>(by cases h),fun h=>?_⟩) (fun e=>?_)
  ·replace e:=bx e
   obtain⟨⟨d,hd,h1⟩,_⟩:=h
   have:=hc.uniq hd
   omega
  ·replace e:=bx e
   refine Evt.B5 (P:=ExP (fun _=>validD s=true) (fun r=>r=false∧validD s=false)) (Evt.loop (fun u:Int=>s.length-u.toNat) (fun u=>0≤u∧u≤s.length∧validD (s.drop u.toNat)=validD s) _ _ ⟨by omega,by omega,rfl⟩ (fun u hu=>?_)) (fun t ht=>Evt.pure ⟨fun _=>⟨⟨c,hc,by omega⟩,ht,hns⟩,fun _=>rfl⟩) (fun r h=>?_)
   ·obtain⟨h0,h1,h2⟩:=hu
    unfold dL
    refine Evt.cond (fun e2=>?_) (fun e2=>Evt.pure ?_)
    ·replace e2:=bx e2
     have hlen:(s.drop u.toNat).length=s.length-u.toNat:=List.length_drop
     have hne:s.drop u.toNat≠ []:=fun h=>by rw[h]at hlen;simp at hlen;omega
     refine Evt.chk ⟨h0,by omega⟩ (Evt.bind (BK (by omega)) fun v hv=>?_)
     have hst:=validD_step _ hne
     have hw1:=decodeL_width (s.drop u.toNat)
     have hw2:(decodeL (s.drop u.toNat)).2≤(s.drop u.toNat).length:=decodeL_le (by omega)
     unfold lenOf at hv
     by_cases hb:(decodeL (s.drop u.toNat)).1=65533∧(decodeL (s.drop u.toNat)).2=1
     ·rw[if_pos hb]at hst hv
      refine Evt.cond (fun e3=>Evt.pure ⟨rfl,by rw[←h2,hst]⟩) (fun e3=>?_)
      replace e3:=bx e3
      exact absurd hv e3
     ·rw[if_neg hb]at hst hv
      refine Evt.cond (fun e3=>?_) (fun e3=>Evt.pure ?_)
      ·replace e3:=bx e3
       omega
      ·have hwr:wr .i64 (u+v)=u+v:=H9 (by omega) (by omega)
       rw[hwr]
       have ht:(u+v).toNat=u.toNat+(decodeL (s.drop u.toNat)).2:=by omega
       refine⟨⟨by omega,by omega,?_⟩,by omega⟩
       rw[ht, ←List.drop_drop, ←hst,h2]
    ·replace e2:=bx e2
     have:s.drop u.toNat=[]:=List.drop_eq_nil_of_le (by omega)
     rw[←h2,this];rfl
   ·obtain⟨rfl,h2⟩:=h
    refine⟨fun h=>(by cases h),fun h=>?_⟩
    have:=h.2.1
    rw[h2]at this
    cases this
 ·obtain⟨rfl,h2⟩:=h
  exact⟨fun h=>(by cases h),fun h=>absurd h2 h.2.2⟩
end Go.Proofs.YtfogbhjeihkliaaGreatDoor
namespace Go.Am
open Go
theorem Evt.Rs{α:Type}{x:Nat→Option α}{P:α→Prop}{r:α}(h:Evt x (fun a=>a=r))(k:Evt x P):P r:=by
 obtain⟨a,rfl,N,hN⟩:=h
 obtain⟨b,hb,M,hM⟩:=k
 have h1:=hN (max N M) (by omega)
 have h2:=hM (max N M) (by omega)
 rw[h1]at h2
 cases h2
 exact hb
theorem Evt.and{α:Type}{x:Nat→Option α}{P Q:α→Prop}(h:Evt x P)(k:Evt x Q):Evt x (fun a=>P a∧Q a):=by
 obtain⟨r,hr,e⟩:=h.eq
 exact e.mono fun a ha=>by subst ha;exact⟨hr,Evt.Rs e k⟩
theorem Ev2.split{α β:Type}{x:Nat→Option α}{y:Nat→Option β}{P:α→β→Prop}(h:Ev2 x y P):∃a b,P a b∧Evt x (fun c=>c=a)∧Evt y (fun c=>c=b):=by
 obtain⟨a,b,hp,N,hN⟩:=h
 exact⟨a,b,hp,⟨a,rfl,N,fun n hn=>(hN n hn).1⟩,⟨b,rfl,N,fun n hn=>(hN n hn).2⟩⟩
theorem Ev2.join{α β:Type}{x:Nat→Option α}{y:Nat→Option β}{P:α→β→Prop}{a:α}{b:β}(hp:P a b)(h:Evt x (fun c=>c=a))(k:Evt y (fun c=>c=b)):Ev2 x y P:=
 (Ev2.both h k).mono fun a b h=>by obtain⟨rfl,rfl⟩:=h;exact hp
end Go.Am
namespace Go.Proofs.YtfogbhjeihkliaaGreatDoor
open Go Go.Am
def Ge(g:B3)(kids:Int):Prop:=∀k:Nat,k<4→∀r,yD g 0 k r→(0≤r↔(k:Int)≤kids)
structure JG(h:y6)(r:x6):Prop where
 kids:1≤r.kids∧r.kids≤3
 weight:0≤r.weight∧r.weight≤1000000
 graph:dW h r.graph
 places:Ge r.graph r.kids
structure OB(h:y6)(x:C5):Prop where
 weight:0≤x.weight∧x.weight≤1000000
 graph:dW h x.graph
 word:Gd x.word
structure qO(g:x5):Prop where
 hier:yB g.hierarchy
 C1:3<g.hierarchy.C1.length
 rules:g.rules.length≤40
 I7:g.I7.length≤100
 rule:∀k,k<g.rules.length→JG g.hierarchy (Am.get g.rules k)
 lex:∀k,k<g.I7.length→OB g.hierarchy (Am.get g.I7 k)
 start:dW g.hierarchy g.start
def OC(g:B3):Prop:=∀k,k<g.nodes.length→(Am.get g.nodes k).links.length≤9223372036854775807
theorem wH{h:y6}{g:B3}(hg:dW h g)(hh:h.C1.length≤40)(kids:Int):Evt (fun n=>fV n g kids) (fun b=>b=true→Ge g kids):=by
 unfold fV
 have h1:=hg.some
 refine Evt.B5 (Evt.range (fun k _=>∀j:Nat,j<k→∀r,yD g 0 j r→(0≤r↔(j:Int)≤kids)) (fun _=>False) (fun b=>b=false) (fun j hj=>by omega) (fun k s hk hi=>?_)) (fun t ht=>Evt.pure fun _=>ht.elim id False.elim) (fun r hr h=>by rw[h]at hr;cases hr)
 unfold bY
 refine Evt.bind (sH hg hh (a:=0) (by omega) k) fun v hv=>Evt.cond (fun _=>Evt.pure rfl) (fun e=>Evt.pure fun j hj r hr=>?_)
 have hv:yD g 0 k v:=hv
 by_cases ej:j=k
 ·subst ej
  have:=yD.uniq hg (a:=0) h1 hr hv
  subst this
  simp only[Bool.not_eq_false',decide_eq_true_eq]at e
  by_cases h0:0≤r
  ·simp[h0]at e;simp[h0,e]
  ·simp[h0]at e;simp only[h0,false_iff];omega
 ·exact hi j (by omega) r hr
theorem yM(t:x9):Ev2 (fun n=>iO n t) (fun n=>N9 n t) (fun a b=>a=b):=by
 unfold N9
 obtain⟨a,b,rfl,h,k⟩:=(BI t).split
 exact Ev2.join rfl h (Evt.bind k fun v hv=>by subst hv;exact Evt.pure rfl)
theorem yN{h:y6}(hh:yB h){t:B2}(ht:EA h.types t){r:x6}(hlen:OC r.graph):Ev2 (fun n=>nT n h t r) (fun n=>X9 n h r) (fun a b=>a=b∧(a=0→JG h r)):=by
 unfold nT X9
 refine Ev2.cond rfl (fun _=>Ev2.pure ⟨rfl,fun h=>absurd (show(3:Int)=0 from h) (by decide)⟩) (fun e=>?_)
 replace e:=bx e
 refine Ev2.bind (nL hh ht hlen) fun f f' hf=>?_
 obtain⟨rfl,hf⟩:=hf
 refine Ev2.cond rfl (fun e2=>Ev2.pure ⟨rfl,fun h=>?_⟩) (fun e2=>?_)
 ·replace e2:=bx e2
  exact absurd h e2
 replace e2:=bx e2
 have hg:=hf e2
 obtain⟨b,ex,hbe,hl,hr⟩:=(GX (r:=r) hg hh.n r.kids rfl rfl).split
 have hpl:=Evt.Rs hl (wH hg hh.n r.kids)
 refine Ev2.jw hl fun b' hb'=>?_
 subst hb'
 rcases hbe with⟨rfl,rfl⟩|⟨rfl,rfl⟩
 ·simp only[Bool.not_true,cond_false]
  refine Ev2.zy hr (fun t ht=>?_) (fun r hr=>by cases hr)
  unfold aC
  exact Ev2.bind (yM r.meaning) fun a b hab=>by subst hab;exact Ev2.pure ⟨rfl,fun _=>⟨by omega,by omega,hg,hpl rfl⟩⟩
 ·simp only[Bool.not_false,cond_true]
  refine Ev2.zy hr (fun t ht=>by cases ht) (fun r hr=>?_)
  cases hr
  exact Evt.pure ⟨rfl,fun h=>absurd (show(5:Int)=0 from h) (by decide)⟩
theorem wI{h:y6}(hh:yB h){t:B2}(ht:EA h.types t){x:C5}(hlen:OC x.graph)(hw:x.word.length<4294967281):Ev2 (fun n=>mo n h t x) (fun n=>aD n h x) (fun a b=>a=b∧(a=0→OB h x)):=by
 unfold mo aD
 refine Ev2.bind (Ev2.both (zF x.word hw) (EN x.word hw)) fun a b hab=>?_
 have e0:a=b:=by
  cases a<;>cases b<;>simp_all
 subst e0
 refine Ev2.cond rfl (fun _=>Ev2.pure ⟨rfl,fun h=>absurd (show(10:Int)=0 from h) (by decide)⟩) (fun e1=>?_)
 replace e1:=bx e1
 refine Ev2.cond rfl (fun _=>Ev2.pure ⟨rfl,fun h=>absurd (show(3:Int)=0 from h) (by decide)⟩) (fun e=>?_)
 replace e:=bx e
 refine Ev2.bind (nL hh ht hlen) fun f f' hf=>?_
 obtain⟨rfl,hf⟩:=hf
 refine Ev2.cond rfl (fun e2=>Ev2.pure ⟨rfl,fun h=>?_⟩) (fun e2=>?_)
 ·replace e2:=bx e2
  exact absurd h e2
 replace e2:=bx e2
 exact Ev2.bind (yM x.meaning) fun a b hab=>by subst hab;exact Ev2.pure ⟨rfl,fun _=>⟨by omega,hf e2,hab.1.1 e1⟩⟩
structure Holds(g:x5):Prop where
 rule:∀k,k<g.rules.length→OC (Am.get g.rules k).graph
 lex:∀k,k<g.I7.length→OC (Am.get g.I7 k).graph∧(Am.get g.I7 k).word.length<4294967281
 start:OC g.start
def LQ(P:Prop)(a b:w9):Prop:=a=b∧(a.code=0→a=⟨0,0⟩∧P)
theorem nU{P:Prop}{a b:Int}(h:a≠0):LQ P ⟨a,b⟩ ⟨a,b⟩:=⟨rfl,fun e=>absurd e h⟩
theorem sV{g:x5}(hm:Holds g):Ev2 (fun n=>dr n g) (fun n=>T3 n g) (LQ (qO g)):=by
 unfold dr T3
 refine Ev2.bind ((rE g.hierarchy)) fun f f' hf=>?_
 obtain⟨rfl,hf⟩:=hf
 refine Ev2.cond rfl (fun e=>Ev2.pure ⟨rfl,fun h=>?_⟩) (fun e=>?_)
 ·replace e:=bx e
  exact absurd h e
 replace e:=bx e
 have hh:=hf e
 refine Ev2.cond rfl (fun _=>Ev2.jw (cY _ _) fun f hf=>by subst hf;exact Ev2.pure (nU (by decide))) (fun e1=>?_)
 replace e1:=bx e1
 refine Ev2.cond rfl (fun _=>Ev2.jw (cY _ _) fun f hf=>by subst hf;exact Ev2.pure (nU (by decide))) (fun e2=>?_)
 replace e2:=bx e2
 refine Ev2.jw (oM hh.types) fun t ht=>?_
 refine Ev2.B5 (Ev2.range (fun k s _=>Known (fun i=>(Am.get g.rules i).name) k s∧∀i,i<k→JG g.hierarchy (Am.get g.rules i)) (fun _ _=>False) (LQ (qO g)) ⟨vC,fun i hi=>by omega⟩ (fun k s u hk hi=>?_)) (fun s u hu=>?_) (fun r r' hr=>hr)
 ·obtain⟨hkn,hp⟩:=hi
  unfold iw V0
  refine Ev2.jw (qt _) fun a ha=>Ev2.Ey (sU _) fun b hb=>?_
  subst ha hb
  refine Ev2.cond rfl (fun _=>Ev2.jw (cY _ _) fun f hf=>by subst hf;exact Ev2.pure (nU (by decide))) (fun _=>?_)
  refine Ev2.MK (by omega) ?_
  have hlen:(g.rules.take k).length=k:=by rw[List.length_take];omega
  refine Ev2.Bz (fun e=>?_) (fun e=>?_)
  ·refine Ev2.zy (vE (fun i=>(Am.get g.rules i).name) (Am.get g.rules k).name ⟨7,(k:Int)⟩ (fun j hj=>?_)) (fun t ht=>?_) (fun r hr=>?_)
   ·rw[hlen]at hj
    unfold P0
    rw[oL hj]
    by_cases e2:(Am.get g.rules j).name=(Am.get g.rules k).name<;>simp[e2]
   ·rw[hlen]at ht
    rcases ht with⟨_,h2⟩|⟨h1,_⟩
    ·exact absurd ((hkn _).1 e) h2
    ·cases h1
   ·rw[hlen]at hr
    rcases hr with⟨h1,_⟩|⟨h1,_⟩
    ·cases h1
    ·cases h1
     exact Evt.bind (cY _ _) fun f hf=>by subst hf;exact Evt.pure (nU (by decide))
  ·have hno:¬ ∃j,j<k∧(Am.get g.rules j).name=(Am.get g.rules k).name:=fun h=>by
    rw[(hkn _).2 h]at e;cases e
   refine Ev2.zy (vE (fun i=>(Am.get g.rules i).name) (Am.get g.rules k).name ⟨7,(k:Int)⟩ (fun j hj=>?_)) (fun t ht=>?_) (fun r hr=>?_)
   ·rw[hlen]at hj
    unfold P0
    rw[oL hj]
    by_cases e2:(Am.get g.rules j).name=(Am.get g.rules k).name<;>simp[e2]
   ·unfold V1
    refine Ev2.TS (Ev2.bind (yN hh ‹EA _ _› (hm.rule k hk)) fun a b hab=>?_)
    obtain⟨rfl,hr⟩:=hab
    refine Ev2.cond rfl (fun e3=>Ev2.jw (cY _ _) fun f hf=>?_) (fun e3=>Ev2.pure ⟨vD hkn,fun i hi=>?_⟩)
    ·subst hf
     replace e3:=bx e3
     exact Ev2.pure (nU e3)
    ·replace e3:=bx e3
     by_cases ei:i=k
     ·subst ei;exact hr e3
     ·exact hp i (by omega)
   ·rw[hlen]at hr
    rcases hr with⟨h1,_⟩|⟨_,h2⟩
    ·cases h1
    ·exact absurd h2 hno
 ·have Rt:=(hu.elim id False.elim).2
  unfold iy V2
  refine Ev2.B5 (Ev2.range (fun k _ _=>∀i,i<k→OB g.hierarchy (Am.get g.I7 i)) (fun _ _=>False) (LQ (qO g)) (fun i hi=>by omega) (fun k s u hk hi=>?_)) (fun s u hu=>?_) (fun r r' hr=>hr)
  ·unfold iz V3
   refine Ev2.bind (wI hh ht (hm.lex k hk).1 (hm.lex k hk).2) fun a b hab=>?_
   obtain⟨rfl,hr⟩:=hab
   refine Ev2.cond rfl (fun e3=>Ev2.jw (cY _ _) fun f hf=>?_) (fun e3=>Ev2.pure fun i hi2=>?_)
   ·subst hf
    replace e3:=bx e3
    exact Ev2.pure (nU e3)
   ·replace e3:=bx e3
    by_cases ei:i=k
    ·subst ei;exact hr e3
    ·exact hi i (by omega)
  ·have Ru:=hu.elim id False.elim
   unfold iA V4
   refine Ev2.bind (nL hh ht hm.start) fun f f' hf=>?_
   obtain⟨rfl,hf⟩:=hf
   refine Ev2.cond rfl (fun e3=>Ev2.jw (cY _ _) fun f hf=>?_) (fun e3=>Ev2.pure ⟨rfl,fun _=>⟨rfl,?_⟩⟩)
   ·subst hf
    replace e3:=bx e3
    exact Ev2.pure (nU e3)
   ·replace e3:=bx e3
    exact⟨hh,by omega,by omega,by omega,Rt,Ru,hf e3⟩
inductive BN:w6→Prop
 |mk (s:w6) (h:s.args.length≤1048576) (h2:∀k,k<s.args.length→BN (Am.get s.args k)):BN s
inductive JH:x9→Prop
 |mk (t:x9) (h0:BN t.type) (h:t.args.length≤1048576) (h2:∀k,k<t.args.length→JH (Am.get t.args k)):JH t
structure Dg(g:B3):Prop where
 nodes:g.nodes.length≤1048576
 links:∀y∈g.nodes,y.links.length≤1048576
structure Rv(r:x6):Prop where
 graph:Dg r.graph
 meaning:JH r.meaning
structure UK(r:C5):Prop where
 word:r.word.length≤1048576
 graph:Dg r.graph
 meaning:JH r.meaning
structure Rw(h:y6):Prop where
 types:h.types.length≤1048576
structure zG(g:x5):Prop where
 hier:Rw g.hierarchy
 nr:g.rules.length≤1048576
 nl:g.I7.length≤1048576
 rule:∀y∈g.rules,Rv y
 lex:∀y∈g.I7,UK y
 start:Dg g.start
theorem OC.of{g:B3}(h:Dg g):OC g:=fun k hk=>by
 have:=h.links _ (get_mem hk)
 omega
theorem zG.holds{g:x5}(h:zG g):Holds g:=⟨fun k hk=>.of (h.rule _ (get_mem hk)).graph,fun k hk=>⟨.of (h.lex _ (get_mem hk)).graph,by have:=(h.lex _ (get_mem hk)).word;omega⟩,.of h.start⟩
end Go.Proofs.YtfogbhjeihkliaaGreatDoor
namespace Go.Am
open Go
theorem Ev2.succ{α β:Type}{x:Nat→Option α}{y:Nat→Option β}{P:α→β→Prop}(h:Ev2 (fun n=>x (n+1)) (fun n=>y (n+1)) P):Ev2 x y P:=by
 obtain⟨a,b,hp,N,hN⟩:=h
 refine⟨a,b,hp,N+1,fun n hn=>?_⟩
 obtain⟨m,rfl⟩:∃m,n=m+1:=⟨n-1,by omega⟩
 exact hN m (by omega)
end Go.Am
namespace Go.Proofs.YtfogbhjeihkliaaGreatDoor
open Go Go.Am
theorem mq{s:w8}{k:Nat}(h:k<s.kids.length):SizeOf.sizeOf (Am.get s.kids k)<SizeOf.sizeOf s:=by
 cases s with
 |mk a b c=>
  have:=List.sizeOf_lt_of_mem (get_mem (l:=c) h)
  show SizeOf.sizeOf (Am.get c k)<_
  simp only[w8.mk.sizeOf_spec]
  omega
inductive cB(g:x5):w8→Prop
 |leaf (t:w8) (h:t.rule= -1) (hl:0≤t.lex∧t.lex<g.I7.length) (hk:t.kids=[]):cB g t
 |node (t:w8) (h:0≤t.rule∧t.rule<g.rules.length) (hl:t.lex=0) (hn:(t.kids.length:Int)=(Am.get g.rules t.rule.toNat).kids) (hk:∀k,k<t.kids.length→cB g (Am.get t.kids k)):cB g t
mutual
def ndT:w8→Nat
 | .mk _ _ kids=>1+ndL kids
def ndL:List w8→Nat
 | []=>0
 |t::l=>ndT t+ndL l
end
theorem yO(t:w8):ndT t=1+ndL t.kids:=by cases t;rw[ndT];rfl
def Rx(g:x5)(t:w8)(b:Int)(x y:w9×Int×Int):Prop:=x.1=y.1∧(x.1.code=0→x=y∧x.1=⟨0,0⟩∧cB g t∧x.2.1=b+ndT t∧x.2.1≤200∧0≤x.2.2∧x.2.2≤x.2.1)
theorem vN{g:x5}{t:w8}{b c:Int}{p q:Int×Int}(h:c≠0){i:Int}:Rx g t b (⟨c,i⟩,p) (⟨c,i⟩,q):=⟨rfl,fun e=>absurd e h⟩
theorem Gf{g:x5}{m:Nat}(ih:∀(t:w8),SizeOf.sizeOf t≤m→∀d ch b l:Int,0≤d→d≤49→0≤ch→ch≤3→0≤b→b≤200→0≤l→l≤b→Ev2 (fun n=>bg n t d ch b g.hierarchy.types g.hierarchy.C1 g.rules g.I7 g.start.nodes l) (fun n=>G2 n g t d ch b l) (Rx g t b))
 {t:w8} (ht:SizeOf.sizeOf t≤m+1) {d ch b l:Int} (d0:0≤d) (d1:d≤48) (c0:0≤ch) (c1:ch≤3) (b0:0≤b) (b1:b<200) (l0:0≤l) (l1:l≤b+1) (hk:(∀k,k<t.kids.length→cB g (Am.get t.kids k))→cB g t):
 Ev2 (fun n=>B5 (F2 (jy (bg n) t d ch g.hierarchy.types g.hierarchy.C1 g.rules g.I7 g.start.nodes) t.kids.length ((wr .i64 (b+1)),l)) (lN)) (fun n=>B5 (F2 (aW (G2 n) g t d ch) t.kids.length ((wr .i64 (b+1)),l)) (dM)) (Rx g t b):=by
 have hw:wr .i64 (b+1)=b+1:=H9 (by omega) (by omega)
 have hd:wr .i64 (d+1)=d+1:=H9 (by omega) (by omega)
 rw[hw]
 refine Ev2.B5 (Ev2.range (fun k s u=>s=u∧(∀j,j<k→cB g (Am.get t.kids j))∧s.1+ndL (t.kids.drop k)=b+1+ndL t.kids∧b+1≤s.1∧s.1≤200∧0≤s.2∧s.2≤s.1) (fun _ _=>False) (fun x y:w9×Int×Int=>x.1=y.1∧x.1.code≠0) ⟨rfl,fun j hj=>by omega,rfl,by show b+1≤b+1;omega,by show b+1≤200;omega,l0,l1⟩ (fun k s u hk2 hi=>?_)) (fun s u hu=>?_) (fun r r' hr=>⟨hr.1,fun e=>absurd e hr.2⟩)
 ·obtain⟨rfl,i1,i0,i2,i3,i4,i5⟩:=hi
  rw[ij hk2,ndL]at i0
  unfold jy aW
  rw[hd]
  have hsz:=mq hk2
  refine Ev2.bind (ih _ (by omega) (d+1) ch s.1 s.2 (by omega) (by omega) c0 c1 (by omega) i3 i4 i5) fun x y hxy=>?_
  obtain⟨e1,e2⟩:=hxy
  refine Ev2.cond (by rw[e1]) (fun e=>Ev2.pure ?_) (fun e=>Ev2.pure ?_)
  ·replace e:=bx e
   exact⟨e1,e⟩
  ·replace e:=bx e
   obtain⟨rfl,_,h2,h3,h4,h5,h6⟩:=e2 e
   refine⟨rfl,fun j hj=>?_,by show x.2.1+_=_;omega,by show b+1≤x.2.1;omega,h4,h5,h6⟩
   by_cases ej:j=k
   ·subst ej;exact h2
   ·exact i1 j (by omega)
 ·obtain⟨rfl,i1,i0,i2,i3,i4,i5⟩:=hu.elim id False.elim
  rw[List.drop_length,ndL]at i0
  exact Ev2.pure ⟨rfl,fun _=>⟨rfl,rfl,hk i1,by show s.1=_;rw[yO];omega,i3,i4,i5⟩⟩
theorem JI{g:x5}(hg:qO g):∀(m:Nat) (t:w8),SizeOf.sizeOf t≤m→∀d ch b l:Int,0≤d→d≤49→0≤ch→ch≤3→0≤b→b≤200→0≤l→l≤b→Ev2 (fun n=>bg n t d ch b g.hierarchy.types g.hierarchy.C1 g.rules g.I7 g.start.nodes l) (fun n=>G2 n g t d ch b l) (Rx g t b):=by
 intro m
 induction m with
 |zero=>intro s h;cases s;simp only[w8.mk.sizeOf_spec]at h;omega
 |succ m ih=>
  intro t ht d ch b l d0 d1 c0 c1 b0 b1 l0 l1
  have hw:wr .i64 (b+1)=b+1:=H9 (by omega) (by omega)
  have hl:wr .i64 (l+1)=l+1:=H9 (by omega) (by omega)
  have hc:wr .i64 (ch+1)=ch+1:=H9 (by omega) (by omega)
  refine Ev2.succ ?_
  simp only[bg,G2,bh,Option.bind_some]
  refine Ev2.cond rfl (fun _=>Ev2.pure (vN (by decide))) (fun e1=>Ev2.cond rfl (fun _=>Ev2.pure (vN (by decide))) (fun e2=>Ev2.cond rfl (fun _=>Ev2.pure (vN (by decide))) (fun e3=>Ev2.cond rfl (fun e4=>?_) (fun e4=>?_))))
  ·replace e4:=bx e4
   rw[hw]at e1
   replace e1:=bx e1;replace e2:=bx e2;replace e3:=bx e3
   refine Ev2.Rl (by omega) (Ev2.MK (by omega) ?_)
   have hkr:=(hg.rule t.rule.toNat (by omega)).kids
   unfold gJ V7
   simp only[bh,Option.bind_some]
   refine Ev2.cond rfl (fun _=>Ev2.pure (vN (by decide))) (fun e5=>?_)
   replace e5:=bx e5
   have hk:(∀k,k<t.kids.length→cB g (Am.get t.kids k))→cB g t:=fun h=>.node t (by omega) (e3 (by omega)) e5 h
   have one:∀c:Int,0≤c→c≤4→Ev2 (fun n=>ft (bg n) b (l,(Am.get g.rules t.rule.toNat).kids) t d g.hierarchy.types g.hierarchy.C1 g.rules g.I7 g.start.nodes c) (fun n=>R6 (G2 n) b l (Am.get g.rules t.rule.toNat).kids g t d c) (Rx g t b):=fun c h0 h4=>by
    unfold ft R6 V8
    simp only[bh,Option.bind_some]
    refine Ev2.cond rfl (fun _=>Ev2.pure (vN (by decide))) (fun e6=>?_)
    replace e6:=bx e6
    refine Ev2.zx (fun e7=>?_) (fun _=>?_)
    ·replace e7:=bx e7
     omega
    ·exact Gf ih ht d0 (by omega) h0 (by omega) b0 (by omega) l0 (by omega) hk
   refine Ev2.Bz (fun e6=>Ev2.zx (fun e7=>?_) (fun _=>one 0 (by omega) (by omega))) (fun e6=>Ev2.zx (fun _=>?_) (fun e7=>?_))
   ·replace e6:=bx e6;replace e7:=bx e7
    exact absurd e7 e6
   ·rw[hc];exact one _ (by omega) (by omega)
   ·replace e6:=bx e6;replace e7:=bx e7
    exact absurd e6 e7
  ·rw[hw]at e1
   replace e1:=bx e1;replace e2:=bx e2;replace e3:=bx e3;replace e4:=bx e4
   unfold gJ V7
   simp only[bh,Option.bind_some]
   refine Ev2.cond rfl (fun _=>Ev2.pure (vN (by decide))) (fun e5=>?_)
   replace e5:=bx e5
   have hk:(∀k,k<t.kids.length→cB g (Am.get t.kids k))→cB g t:=fun _=>.leaf t (by omega) (by omega) (List.length_eq_zero_iff.1 (by omega))
   refine Ev2.Bz (fun _=>Ev2.zx (fun e7=>?_) (fun _=>?_)) (fun e6=>?_)
   ·replace e7:=bx e7
    omega
   ·unfold ft R6 V8
    refine Ev2.Bz (fun e8=>?_) (fun _=>Ev2.zx (fun e8=>?_) (fun _=>Ev2.zx (fun _=>?_) (fun e8=>?_)))
    ·replace e8:=bx e8
     omega
    ·replace e8:=bx e8
     omega
    ·rw[hl]
     exact Gf ih ht d0 (by omega) (by omega) (by omega) b0 (by omega) (by omega) (by omega) hk
    ·cases e8
   ·replace e6:=bx e6
    omega
theorem LS{g:x5}(hg:qO g)(t:w8):Ev2 (fun n=>kl n g t) (fun n=>O1 n g t) (ud (cB g t∧ndT t≤200)):=by
 unfold kl O1
 refine Ev2.bind (JI hg _ t (Nat.le_refl _) 1 0 0 0 (by omega) (by omega) (by omega) (by omega) (by omega) (by omega) (by omega) (by omega)) fun x y hxy=>?_
 obtain⟨e1,e2⟩:=hxy
 simp only[bh,Option.bind_some]
 refine Ev2.Bz (fun e=>?_) (fun e=>?_)
 ·replace e:=bx e
  refine Ev2.zx (fun e3=>?_) (fun _=>Ev2.pure ⟨e1,fun h=>absurd h e⟩)
  rw[←e1,decide_eq_false e]at e3
  cases e3
 ·replace e:=bx e
  obtain⟨rfl,h1,h2,h3,h4,_⟩:=e2 e
  rw[decide_eq_true e]
  refine Ev2.cond rfl (fun _=>Ev2.pure (Z7 (by decide))) (fun _=>Ev2.pure ⟨h1.symm,fun _=>⟨h2,by omega⟩⟩)
abbrev DD:=w5
theorem Z1{α:Type}[Inhabited α]{l:List α}{k:Nat}(h:k<l.length):l.take (k+1)=l.take k++[Am.get l k]:=by
 rw[List.take_add_one,List.getElem?_eq_getElem h]
 simp[Am.get,h]
mutual
def wid:w8→Nat
 | .mk r _ ks=>(if r<0 then 1 else 0)+kW ks
def kW:List w8→Nat
 | []=>0
 |t::l=>wid t+kW l
end
mutual
def mks:w8→Nat→Int→List DD
 | .mk r x ks,f,lv=>⟨f,((f+((if r<0 then 1 else 0)+kW ks):Nat):Int),lv,r,x⟩::sw ks (f+if r<0 then 1 else 0) (if ks.length=1 then lv+1 else 0)
def sw:List w8→Nat→Int→List DD
 | [],_,_=>[]
 |t::l,f,nl=>mks t f nl++sw l (f+wid t) nl
end
theorem JJ(t:w8):wid t=(if t.rule<0 then 1 else 0)+kW t.kids:=by cases t;rw[wid];rfl
theorem wo(t:w8)(f:Nat)(lv:Int):mks t f lv=⟨f,((f+wid t:Nat):Int),lv,t.rule,t.lex⟩::sw t.kids (f+if t.rule<0 then 1 else 0) (if t.kids.length=1 then lv+1 else 0):=by
 cases t;rw[mks,wid];rfl
mutual
theorem sW:∀(t:w8) (f:Nat) (lv:Int),(mks t f lv).length=ndT t
 | .mk r x ks,f,lv=>by rw[mks,ndT,List.length_cons,wW];omega
theorem wW:∀(l:List w8) (f:Nat) (lv:Int),(sw l f lv).length=ndL l
 | [],_,_=>by rw[sw,ndL];rfl
 |t::l,f,lv=>by rw[sw,ndL,List.length_append,sW,wW]
end
mutual
theorem JK:∀t:w8,wid t≤ndT t
 | .mk r x ks=>by
   rw[wid,ndT]
   have:=BO ks
   split<;>omega
theorem BO:∀l:List w8,kW l≤ndL l
 | []=>by rw[kW,ndL];omega
 |t::l=>by
  rw[kW,ndL]
  have h1:=JK t
  have h2:=BO l
  omega
end
theorem MX:∀l:List w8,l.length≤ndL l
 | []=>by rw[ndL];exact Nat.le_refl _
 |t::l=>by
  rw[ndL,List.length_cons]
  have h1:=yO t
  have h2:=MX l
  omega
theorem uy:∀(l:List w8) (t:w8) (f:Nat) (nl:Int),sw (l++[t]) f nl=sw l f nl++mks t (f+kW l) nl
 | [],t,f,nl=>by simp[sw,kW]
 |a::l,t,f,nl=>by
  rw[List.cons_append,sw,sw,kW,uy l t,List.append_assoc,Nat.add_assoc]
theorem nV:∀(l:List w8) (t:w8),kW (l++[t])=kW l+wid t
 | [],t=>by simp[kW]
 |a::l,t=>by rw[List.cons_append,kW,kW,nV l t];omega
theorem wX{l:List w8}{k:Nat}(h:k<l.length):ndL (l.take k)+ndT (Am.get l k)≤ndL l:=by
 have e:l=l.take k++(Am.get l k::l.drop (k+1)):=by rw[←ij h];exact(List.take_append_drop k l).symm
 have app:∀a b:List w8,ndL (a++b)=ndL a+ndL b:=fun a b=>by
  induction a with
  |nil=>simp[ndL]
  |cons x a ih=>rw[List.cons_append,ndL,ndL,ih];omega
 have h2:ndL l=ndL (l.take k)+(ndT (Am.get l k)+ndL (l.drop (k+1))):=by
  conv=>lhs;rw[e]
  rw[app,ndL]
 omega
theorem Ry:∀(m:Nat) (t:w8),SizeOf.sizeOf t≤m→∀(lv:Int) (l:List DD) (f:Nat),0≤lv→lv+ndT t≤100000→l.length+ndT t≤100000→f+ndT t≤100000→
 Evt (fun n=>Q5 n t lv l (f:Int)) (fun r=>r=(((f+wid t:Nat):Int),l++mks t f lv)):=by
 intro m
 induction m with
 |zero=>intro s h;cases s;simp only[w8.mk.sizeOf_spec]at h;omega
 |succ m ih=>
  intro t ht lv l f h0 h1 h2 h3
  have hnd:=yO t
  have hw:=JK t
  have hwe:=JJ t
  refine Evt.succ ?_
  simp only[Q5]
  refine Evt.eE (Evt.chk (by simp only[List.length_append,List.length_cons,List.length_nil,bO];omega) ?_)
  obtain⟨d,hd⟩:∃d:Nat,d=if t.rule<0 then 1 else 0:=⟨_,rfl⟩
  have hd1:d≤1:=by rw[hd];split<;>omega
  obtain⟨nl,hnl⟩:∃nl:Int,nl=if t.kids.length=1 then lv+1 else 0:=⟨_,rfl⟩
  have hj1:Evt (fun n=>bT (Q5 n) t ((f+d:Nat):Int) (l++[w5.mk (f:Int) 0 lv t.rule t.lex]) l nl) (fun r=>r=(((f+wid t:Nat):Int),l++mks t f lv)):=by
   unfold bT
   refine Evt.B5 (Evt.range (fun k s=>s=(((f+d+kW (t.kids.take k):Nat):Int),(l++[w5.mk (f:Int) 0 lv t.rule t.lex])++sw (t.kids.take k) (f+d) nl)) (fun _=>False) (fun _=>False) (by rw[List.take_zero,kW,sw,Nat.add_zero,List.append_nil]) (fun k s hk hs=>?_)) (fun s hs=>?_) (fun _ h=>h.elim)
   ·subst hs
    unfold iB
    have hsz:=mq hk
    have ht2:=wX hk
    have hw2:=BO (t.kids.take k)
    have hl2:=wW (t.kids.take k) (f+d) nl
    have Wd:nl≤lv+1:=by rw[hnl];split<;>omega
    have TX:0≤nl:=by rw[hnl];split<;>omega
    refine Evt.bind (ih _ (by omega) nl _ (f+d+kW (t.kids.take k)) TX (by omega) (by simp only[List.length_append,List.length_cons,List.length_nil,hl2];omega) (by omega)) fun v hv=>Evt.pure ?_
    subst hv
    rw[Z1 hk,nV,uy]
    show(_,_)=(_,_)
    simp only[Nat.add_assoc,List.append_assoc]
   ·have hs:s=_:=hs.elim id False.elim
    subst hs
    rw[List.take_length]
    unfold iC
    refine Evt.chk (by simp only[List.length_append,List.length_cons,List.length_nil];omega) (Evt.eE (Evt.pure ?_))
    have e1:f+d+kW t.kids=f+wid t:=by rw[hwe,hd];omega
    have e2:Am.get ((l++[w5.mk (f:Int) 0 lv t.rule t.lex])++sw t.kids (f+d) nl) l.length=w5.mk (f:Int) 0 lv t.rule t.lex:=by
     rw[List.append_assoc]
     simp[Am.get,List.getD_eq_getElem?_getD]
    rw[e1,e2,wo, ←hd, ←hnl,List.append_assoc,List.set_append_right _ _ (Nat.le_refl _),Nat.sub_self]
    rfl
  have hj0:Evt (fun n=>bU (Q5 n) t (l++[w5.mk (f:Int) 0 lv t.rule t.lex]) l lv ((f+d:Nat):Int)) (fun r=>r=(((f+wid t:Nat):Int),l++mks t f lv)):=by
   unfold bU
   rw[H9 (n:=lv+1) (by omega) (by omega)]
   refine Evt.cond (fun e=>?_) (fun e=>?_)
   ·replace e:=bx e
    rw[if_pos (by omega)]at hnl
    rw[←hnl];exact hj1
   ·replace e:=bx e
    rw[if_neg (by omega)]at hnl
    subst hnl
    exact hj1
  rw[H9 (n:=(f:Int)+1) (by omega) (by omega)]
  refine Evt.cond (fun e=>?_) (fun e=>?_)
  ·replace e:=bx e
   rw[if_pos (by omega)]at hd
   subst hd
   exact hj0
  ·replace e:=bx e
   rw[if_neg (by omega)]at hd
   subst hd
   exact hj0
theorem EO(v base:List DD)(h:base.length+v.length≤100000):Evt (fun n=>P4 (P7 v) n (base,0)) (ExP (fun t=>t=base++v) (fun _=>False)):=by
 refine Evt.loop (body:=fun _=>P7 v) (fun s=>(v.length-s.2).toNat) (fun s=>∃j:Nat,j≤v.length∧s=(base++v.take j,(j:Int))) (fun t=>t=base++v) (fun _=>False) ⟨0,by omega,by rw[List.take_zero,List.append_nil];rfl⟩ (fun s hs=>?_)
 obtain⟨j,hj,rfl⟩:=hs
 show Evt (fun _=>P7 v (base++v.take j,(j:Int))) _
 unfold P7
 refine Evt.cond (fun e=>?_) (fun e=>?_)
 ·replace e:=bx e
  have hj2:j<v.length:=by omega
  have e1:base++v.take j++[Am.get v j]=base++v.take (j+1):=by rw[Z1 hj2,List.append_assoc]
  refine Evt.chk (by omega) (Evt.eE ?_)
  simp only[Int.toNat_natCast,e1]
  refine Evt.chk (by simp only[List.length_append,List.length_take,bO];omega) (Evt.pure ⟨⟨j+1,by omega,?_⟩,?_⟩)
  ·rw[H9 (by omega) (by omega)];rfl
  ·show((v.length:Int)-wr .i64 ((j:Int)+1)).toNat<((v.length:Int)-(j:Int)).toNat
   rw[H9 (by omega) (by omega)];omega
 ·replace e:=bx e
  refine Evt.pure ?_
  show base++v.take j=base++v
  rw[List.take_of_length_le (by omega)]
theorem Gg{g:x5}:∀(m:Nat) (t:w8),SizeOf.sizeOf t≤m→cB g t→∀(f:Nat) (lv:Int),0≤lv→lv+ndT t≤100000→f+ndT t≤100000→Evt (fun n=>G9 n t (f:Int) lv) (fun r=>r=mks t f lv):=by
 intro m
 induction m with
 |zero=>intro s h;cases s;simp only[w8.mk.sizeOf_spec]at h;omega
 |succ m ih=>
  intro t ht hok f lv h0 h1 h2
  have hnd:=yO t
  have hw:=JK t
  have hwe:=JJ t
  have hge:=MX t.kids
  refine Evt.succ ?_
  simp only[G9]
  refine Evt.cond (fun e=>?_) (fun e=>?_)
  ·replace e:=bx e
   cases hok with
   |node _ h=>omega
   |leaf _ h hl hk=>
    refine Evt.pure ?_
    rw[wo,hwe,hk,H9 (by omega) (by omega),if_pos (by omega)]
    rfl
  ·replace e:=bx e
   cases hok with
   |leaf _ h=>omega
   |node _ hr hl hn hk=>
    obtain⟨nl,hnl⟩:∃nl:Int,nl=if t.kids.length=1 then lv+1 else 0:=⟨_,rfl⟩
    have Wd:nl≤lv+1:=by rw[hnl];split<;>omega
    have TX:0≤nl:=by rw[hnl];split<;>omega
    rw[if_neg (by omega),Nat.zero_add]at hwe
    refine Evt.B5 (P:=ExP (fun t2=>t2=(w5.mk (f:Int) 0 lv t.rule t.lex::sw t.kids f nl,((f+kW t.kids:Nat):Int))) (fun _=>False))
     (Evt.loop (body:=fun n=>T9 (G9 n) n t lv) (fun s=>((t.kids.length:Int)-s.2.1).toNat) (fun s=>∃k:Nat,k≤t.kids.length∧s=(w5.mk (f:Int) 0 lv t.rule t.lex::sw (t.kids.take k) f nl,(k:Int),((f+kW (t.kids.take k):Nat):Int)))
      (fun t2=>t2=(w5.mk (f:Int) 0 lv t.rule t.lex::sw t.kids f nl,((f+kW t.kids:Nat):Int))) (fun _=>False) ⟨0,by omega,by rw[List.take_zero,sw,kW];rfl⟩ (fun s hs=>?_)) (fun s hs=>?_) (fun _ h=>h.elim)
    ·obtain⟨k,hk1,rfl⟩:=hs
     have step:k<t.kids.length→Evt (fun n=>U0 (G9 n) n (w5.mk (f:Int) 0 lv t.rule t.lex::sw (t.kids.take k) f nl,(k:Int),((f+kW (t.kids.take k):Nat):Int)) t nl)
      (Lz (fun s'=>(∃k:Nat,k≤t.kids.length∧s'=(w5.mk (f:Int) 0 lv t.rule t.lex::sw (t.kids.take k) f nl,(k:Int),((f+kW (t.kids.take k):Nat):Int)))∧((t.kids.length:Int)-s'.2.1).toNat<((t.kids.length:Int)-(k:Int)).toNat)
       (fun t2=>t2=(w5.mk (f:Int) 0 lv t.rule t.lex::sw t.kids f nl,((f+kW t.kids:Nat):Int))) (fun _=>False)):=fun hk2=>by
      have hsz:=mq hk2
      have ht2:=wX hk2
      have hw2:=BO (t.kids.take k)
      have hl2:=wW (t.kids.take k) f nl
      have hl3:=sW (Am.get t.kids k) (f+kW (t.kids.take k)) nl
      unfold U0
      dsimp only
      rw[Int.toNat_natCast]
      refine Evt.chk (by omega) (Evt.bind (ih _ (by omega) (hk k hk2) (f+kW (t.kids.take k)) nl TX (by omega) (by omega)) fun v hv=>?_)
      subst hv
      have hpos:=yO (Am.get t.kids k)
      refine Evt.chk (by rw[hl3];omega) (Evt.B5 (EO _ _ (by simp only[List.length_cons,hl2,hl3];omega)) (fun t4 ht4=>?_) (fun _ h=>h.elim))
      have ht4:t4=_:=ht4
      subst ht4
      unfold cN
      dsimp only
      refine Evt.pure ⟨⟨k+1,by omega,?_⟩,?_⟩
      ·have e1:(Am.get (mks (Am.get t.kids k) (f+kW (t.kids.take k)) nl) 0).to_=((f+kW (t.kids.take k)+wid (Am.get t.kids k):Nat):Int):=by rw[wo];rfl
       rw[e1,H9 (by omega) (by omega),Z1 hk2,uy,nV,Nat.add_assoc]
       rfl
      ·show((t.kids.length:Int)-wr .i64 ((k:Int)+1)).toNat<_
       rw[H9 (by omega) (by omega)];omega
     show Evt (fun n=>T9 (G9 n) n t lv (w5.mk (f:Int) 0 lv t.rule t.lex::sw (t.kids.take k) f nl,(k:Int),((f+kW (t.kids.take k):Nat):Int))) _
     unfold T9
     refine Evt.cond (fun e2=>?_) (fun e2=>?_)
     ·replace e2:=bx e2
      refine Evt.cond (fun e3=>?_) (fun e3=>?_)
      ·replace e3:=bx e3
       rw[if_pos (by omega)]at hnl
       rw[H9 (by omega) (by omega), ←hnl]
       exact step (by omega)
      ·replace e3:=bx e3
       rw[if_neg (by omega)]at hnl
       subst hnl
       exact step (by omega)
     ·replace e2:=bx e2
      refine Evt.pure ?_
      show(_,_)=_
      rw[show k=t.kids.length by omega,List.take_length]
    ·have hs:s=_:=hs
     subst hs
     unfold cO
     refine Evt.chk (by simp) (Evt.eE (Evt.pure ?_))
     rw[wo,hwe,if_neg (by omega), ←hnl]
     rfl
theorem sj{g:x5}{t:w8}(hok:cB g t)(hn:ndT t≤200)(d:DD):Evt (fun n=>M5 n t d) (fun r=>r=true↔d∈mks t 0 0):=by
 unfold M5
 refine Evt.bind (Gg (g:=g) _ t (Nat.le_refl _) hok 0 0 (by omega) (by omega) (by omega)) fun v hv=>?_
 subst hv
 have hlen:=sW t 0 0
 refine Evt.B5 (P:=ExP (fun _=>d∉mks t 0 0) (fun r=>r=true∧d∈mks t 0 0)) (Evt.loop (body:=fun _=>R0 (mks t 0 0) d) (fun s=>((mks t 0 0).length-s).toNat) (fun s=>∃k:Nat,s=k∧k≤(mks t 0 0).length∧∀j,j<k→Am.get (mks t 0 0) j≠d) (fun _=>d∉mks t 0 0) (fun r=>r=true∧d∈mks t 0 0) ⟨0,rfl,by omega,fun j hj=>by omega⟩ (fun s hs=>?_)) (fun _ ht=>?_) (fun r hr=>by obtain⟨rfl,h⟩:=(hr:r=true∧_);simp[h])
 ·obtain⟨k,rfl,hk,hi⟩:=hs
  show Evt (fun _=>R0 (mks t 0 0) d (k:Int)) _
  unfold R0
  rw[Int.toNat_natCast]
  refine Evt.cond (fun e=>?_) (fun e=>?_)
  ·replace e:=bx e
   have hk2:k<(mks t 0 0).length:=by omega
   refine Evt.chk (by omega) (Evt.cond (fun e2=>Evt.pure ?_) (fun e2=>Evt.pure ⟨⟨k+1,?_,by omega,fun j hj=>?_⟩,?_⟩))
   ·have e3:Am.get (mks t 0 0) k=d:=by
     generalize Am.get (mks t 0 0) k=x at e2
     cases x;cases d
     simpa using e2
    exact⟨rfl,e3▸get_mem hk2⟩
   ·rw[H9 (by omega) (by omega)];rfl
   ·by_cases ej:j=k
    ·subst ej
     intro h
     rw[h]at e2
     simp at e2
    ·exact hi j (by omega)
   ·rw[H9 (by omega) (by omega)];omega
  ·replace e:=bx e
   refine Evt.pure fun h=>?_
   obtain⟨j,hj,he⟩:=List.getElem_of_mem h
   exact hi j (by omega) (by simpa[Am.get,hj]using he)
 ·unfold bw
  exact Evt.pure (by simp only[Bool.false_eq_true,false_iff];exact ht)
end Go.Proofs.YtfogbhjeihkliaaGreatDoor
