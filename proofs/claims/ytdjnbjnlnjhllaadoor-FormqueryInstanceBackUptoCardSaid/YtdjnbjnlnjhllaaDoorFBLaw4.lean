import Derived.Test.YtdjnbjnlnjhllaaDoorFBLaw3
set_option linter.unusedVariables false
set_option linter.unusedSimpArgs false
namespace Go.Proofs.YtdjnbjnlnjhllaaDoor
open Go Go.Am
theorem Zu(s:Mb):(ME s).map (·.drop 1)=vns s++qs s.form:=by
 unfold ME vns
 simp only[List.map_append,List.map_map]
 have:∀(c:UInt8) (l:List Bs),l.map ((fun x:Bs=>x.drop 1)∘fun x=>c::x)=l:=fun c l=>by
  induction l with
  |nil=>rfl
  |cons a l ih=>rw[List.map_cons,ih];rfl
 rw[this,this,this,this]
theorem d0Z{α:Type}[Inhabited α]{a b:List α}{i:Nat}(h:i<a.length):Am.get (a++b) i=Am.get a i:=by
 unfold Am.get
 rw[List.getD_eq_getElem?_getD,List.getD_eq_getElem?_getD,List.getElem?_append_left h]
theorem d1a{α:Type}[Inhabited α]{a b:List α}{i:Nat}:Am.get (a++b) (a.length+i)=Am.get b i:=by
 unfold Am.get
 rw[List.getD_eq_getElem?_getD,List.getD_eq_getElem?_getD,List.getElem?_append_right (by omega)]
 congr 2;omega
theorem d5l{s:Mb}{i:Nat}(h:i<s.words.length):Am.get (ME s) i=46::Am.get s.words i:=by
 unfold ME
 rw[List.append_assoc,List.append_assoc,d0Z (by rw[List.length_map];exact h),get_map _ h]
theorem d5m{s:Mb}{i:Nat}(h:i<s.Mj.length):Am.get (ME s) (s.words.length+i)=33::Am.get s.Mj i:=by
 unfold ME
 have e:s.words.length=(s.words.map (46:: ·)).length:=(List.length_map _).symm
 rw[List.append_assoc,List.append_assoc,e,d1a,d0Z (by rw[List.length_map];exact h),get_map _ h]
theorem d7B{s:Mb}{i:Nat}(h:i<s.parts.length):Am.get (ME s) (s.words.length+s.Mj.length+i)=43::Am.get s.parts i:=by
 unfold ME
 have e:s.words.length+s.Mj.length=(s.words.map (46:: ·)++s.Mj.map (33:: ·)).length:=by simp
 rw[List.append_assoc,e,d1a,d0Z (by rw[List.length_map];exact h),get_map _ h]
theorem d5n{s:Mb}{i:Nat}(h:i<(qs s.form).length):Am.get (ME s) (s.words.length+s.Mj.length+s.parts.length+i)=63::Am.get (qs s.form) i:=by
 unfold ME
 have e:s.words.length+s.Mj.length+s.parts.length=(s.words.map (46:: ·)++s.Mj.map (33:: ·)++s.parts.map (43:: ·)).length:=by simp only[List.length_append,List.length_map]
 rw[e,d1a,get_map _ h]
theorem MP(s:Mb):(ME s).length=s.words.length+s.Mj.length+s.parts.length+(qs s.form).length:=by
 unfold ME;simp only[List.length_append,List.length_map]
theorem Xe{s:Mb}{i:Nat}(h:i<(ME s).length):
 (i<s.words.length∧Am.get (ME s) i=46::Am.get s.words i)∨(∃j,j<s.Mj.length∧i=s.words.length+j∧Am.get (ME s) i=33::Am.get s.Mj j)∨
 (∃j,j<s.parts.length∧i=s.words.length+s.Mj.length+j∧Am.get (ME s) i=43::Am.get s.parts j)∨(∃j,j<(qs s.form).length∧i=s.words.length+s.Mj.length+s.parts.length+j∧Am.get (ME s) i=63::Am.get (qs s.form) j):=by
 rw[MP]at h
 by_cases h1:i<s.words.length
 ·exact .inl ⟨h1,d5l h1⟩
 ·by_cases h2:i<s.words.length+s.Mj.length
  ·obtain⟨j,rfl⟩:∃j,i=s.words.length+j:=⟨i-s.words.length,by omega⟩
   exact .inr (.inl ⟨j,by omega,rfl,d5m (by omega)⟩)
  ·by_cases h3:i<s.words.length+s.Mj.length+s.parts.length
   ·obtain⟨j,rfl⟩:∃j,i=s.words.length+s.Mj.length+j:=⟨i-(s.words.length+s.Mj.length),by omega⟩
    exact .inr (.inr (.inl ⟨j,by omega,rfl,d7B (by omega)⟩))
   ·obtain⟨j,rfl⟩:∃j,i=s.words.length+s.Mj.length+s.parts.length+j:=⟨i-(s.words.length+s.Mj.length+s.parts.length),by omega⟩
    exact .inr (.inr (.inr ⟨j,by omega,rfl,d5n (by omega)⟩))
theorem key_inj{s:Mb}(hs:QT s){i j:Nat}(hi:i<(ME s).length)(hj:j<(ME s).length)(h:Am.get (ME s) i=Am.get (ME s) j):i=j:=by
 have hvl:=Tn s
 have hu:∀a b,a<(vns s).length→b<(vns s).length→Am.get (vns s) a=Am.get (vns s) b→a=b:=fun a b ha hb e=>by
  rcases Nat.lt_trichotomy a b with h|h|h
  ·exact absurd e (hs.uniq a b h hb)
  ·exact h
  ·exact absurd e.symm (hs.uniq b a h ha)
 have hq:∀a b,a<(qs s.form).length→b<(qs s.form).length→Am.get (qs s.form) a=Am.get (qs s.form) b→a=b:=fun a b ha hb e=>by
  rcases Nat.lt_trichotomy a b with h|h|h
  ·exact absurd ((Vr (by omega)).2 ⟨a,h,e⟩) (hs.d9H b hb).1
  ·exact h
  ·exact absurd ((Vr (by omega)).2 ⟨b,h,e.symm⟩) (hs.d9H a ha).1
 rcases Xe hi with⟨h1,e1⟩|⟨a,h1,rfl,e1⟩|⟨a,h1,rfl,e1⟩|⟨a,h1,rfl,e1⟩<;>
 rcases Xe hj with⟨h2,e2⟩|⟨b,h2,rfl,e2⟩|⟨b,h2,rfl,e2⟩|⟨b,h2,rfl,e2⟩<;>
 rw[e1,e2]at h<;>
 (first
  |exact absurd (List.cons.inj h).1 (by decide)
  |skip)
 ·have:=(List.cons.inj h).2
  exact hu _ _ (by omega) (by omega) (by rw[Zq h1,Zq h2];exact this)
 ·have:=(List.cons.inj h).2
  exact hu _ _ (by omega) (by omega) (by rw[Xb h1,Xb h2];exact this)
 ·have:=(List.cons.inj h).2
  exact hu _ _ (by omega) (by omega) (by rw[Xc h1,Xc h2];exact this)
 ·have:=(List.cons.inj h).2
  rw[hq _ _ h1 h2 this]
theorem VN{a b:Option (List Ma)}{ps:List Ma}(h:cat a b=some ps):∃x y,a=some x∧b=some y∧ps=x++y:=by
 unfold cat at h
 cases a with
 |none=>cases h
 |some x=>
  cases b with
  |none=>cases h
  |some y=>exact⟨x,y,rfl,rfl,(Option.some.inj h).symm⟩
theorem d7C{W bd:List Bs}:∀ {xs ys:List Bs} {ps:List Ma},xs.length=ys.length→ptw W bd xs ys=some ps→∀x∈xs,(x∈bd→∃b∈ps,b.name=63::x)∧(x∉bd→x∈W→∃b∈ps,b.name=46::x)
 | [],ys,ps,_,h,x,hx=>by cases hx
 |a::xs,[],ps,hl,h,x,hx=>by simp at hl
 |a::xs,y::ys,ps,hl,h,x,hx=>by
  rw[ptw]at h
  have hl2:xs.length=ys.length:=by simpa using hl
  have mp:∀c:Ma,(ptw W bd xs ys).map (c:: ·)=some ps→c∈ps∧∃q,ptw W bd xs ys=some q∧∀b∈q,b∈ps:=fun c h=>by
   cases hp:ptw W bd xs ys with
   |none=>rw[hp]at h;cases h
   |some q=>
    rw[hp]at h;cases h
    exact⟨List.mem_cons_self ..,q,rfl,fun b hb=>List.mem_cons_of_mem _ hb⟩
  have tail:∀q,ptw W bd xs ys=some q→(∀b∈q,b∈ps)→x∈xs→(x∈bd→∃b∈ps,b.name=63::x)∧(x∉bd→x∈W→∃b∈ps,b.name=46::x):=fun q hq hs hx=>by
   obtain⟨h1,h2⟩:=d7C hl2 hq x hx
   exact⟨fun h=>let ⟨b,hb,e⟩:=h1 h;⟨b,hs b hb,e⟩,fun h h'=>let ⟨b,hb,e⟩:=h2 h h';⟨b,hs b hb,e⟩⟩
  split at h
  ·rename_i hb
   obtain⟨h1,q,h2,h3⟩:=mp _ h
   rcases List.mem_cons.1 hx with rfl|hx
   ·exact⟨fun _=>⟨_,h1,rfl⟩,fun hn=>absurd hb hn⟩
   ·exact tail q h2 h3 hx
  ·rename_i hb
   split at h
   ·rename_i hw
    obtain⟨h1,q,h2,h3⟩:=mp _ h
    rcases List.mem_cons.1 hx with rfl|hx
    ·exact⟨fun hn=>absurd hn hb,fun _ _=>⟨_,h1,rfl⟩⟩
    ·exact tail q h2 h3 hx
   ·rename_i hw
    split at h
    ·rcases List.mem_cons.1 hx with rfl|hx
     ·exact⟨fun hn=>absurd hn hb,fun _ hn=>absurd hn hw⟩
     ·exact tail ps h (fun b hb=>hb) hx
    ·cases h
def Cov(s:Mb)(f:LZ)(bd:List Bs)(ps:List Ma):Prop:=
 (∀x,fre f bd x→x∈s.words→∃b∈ps,b.name=46::x)∧(∀x∈qs f,∃b∈ps,b.name=63::x)∧(∀x,(Wx (Oa f) x∨Vq (Oa f) x)→x∈s.Mj→x∉s.parts→∃b∈ps,b.name=33::x)∧(∀x,Vq (Oa f) x→x∈s.parts→∃b∈ps,b.name=43::x)
def i3P(s:Mb)(l:List LZ)(bd:List Bs)(ps:List Ma):Prop:=
 (∀x,Un l bd x→x∈s.words→∃b∈ps,b.name=46::x)∧(∀x∈qsL l,∃b∈ps,b.name=63::x)∧(∀x,(Wx (NC l) x∨Vq (NC l) x)→x∈s.Mj→x∉s.parts→∃b∈ps,b.name=33::x)∧(∀x,Vq (NC l) x→x∈s.parts→∃b∈ps,b.name=43::x)
theorem i3P.nil{s:Mb}{bd:List Bs}{ps:List Ma}:i3P s [] bd ps:=by
 refine⟨fun x h=>?_,fun x h=>?_,fun x h=>?_,fun x h=>?_⟩
 ·rw[Un]at h;exact h.elim
 ·rw[qsL]at h;cases h
 ·rw[NC]at h;rcases h with⟨g,hg,_⟩|⟨g,hg,_⟩<;>cases hg
 ·rw[NC]at h;obtain⟨g,hg,_⟩:=h;cases hg
theorem i0V(s:Mb):∀(m:Nat) (f:LZ),SizeOf.sizeOf f≤m→WfF f→∀(g:LZ),WfF g→∀(bd:List Bs) (ps:List Ma),pts s f bd g=some ps→Cov s f bd ps:=by
 intro m
 induction m with
 |zero=>intro f h;cases f;simp only[LZ.mk.sizeOf_spec]at h;omega
 |succ m ih=>
  intro f hf hwf g hwg bd ps h
  have hnf:=OT ((Qe f).1 hwf).1
  have hng:=OT ((Qe g).1 hwg).1
  rw[d4x]at h
  by_cases hp:QU s f
  ·rw[if_pos hp]at h
   cases h
   have hk:f.kind=2:=hp.1.1
   have hnk:¬QK f.kind:=by rw[hk];decide
   have hsub:f.subs=[]:=List.length_eq_zero_iff.1 (by have:=hnf.1;rw[hk]at this;have e:arF 2=0:=(by decide);omega)
   have hwd:f.words=[]:=List.length_eq_zero_iff.1 hp.1.2
   have hfl:Oa f=[f]:=by rw[Xa,hsub,NC]
   refine⟨fun x hx=>?_,fun x hx=>?_,fun x hx h1 h2=>?_,fun x hx h1=>?_⟩
   ·rw[d7c,hwd,hsub,Un]at hx
    rcases hx with hx|hx
    ·cases hx.1
    ·exact hx.elim
   ·rw[d0N,if_neg hnk,hsub,qsL]at hx;cases hx
   ·rw[hfl,Wx.one,Vq.one]at hx
    have:f.name=x:=by rcases hx with hx|hx<;>exact hx.2.1
    exact absurd (this▸hp.2) h2
   ·rw[hfl,Vq.one]at hx
    exact⟨_,List.mem_singleton.2 rfl,by rw[←hx.2.1]⟩
  ·rw[if_neg hp]at h
   split at h
   ·cases h
   ·rename_i hc
    obtain⟨hk,hl⟩:=not_or.1 hc
    have hk:=Classical.not_not.1 hk
    have hl:=Classical.not_not.1 hl
    obtain⟨x1,y1,h1,h2,rfl⟩:=VN h
    obtain⟨x2,y2,h3,h4,rfl⟩:=VN h2
    have hsl:f.subs.length=g.subs.length:=by have:=hnf.1;have:=hng.1;rw[hk]at *; omega
    have parts:∀(l gs:List LZ) (bd:List Bs) (ps:List Ma),(∀y∈l,SizeOf.sizeOf y≤m∧WfF y)→(∀y∈gs,WfF y)→l.length=gs.length→Ya s l bd gs=some ps→i3P s l bd ps:=by
     intro l
     induction l with
     |nil=>intro gs bd ps _ _ _ _;exact i3P.nil
     |cons a l ihl=>
      intro gs bd ps ha hb hl h
      cases gs with
      |nil=>simp at hl
      |cons b gs=>
       rw[Ya]at h
       obtain⟨x,y,e1,e2,rfl⟩:=VN h
       obtain⟨c1,c2,c3,c4⟩:=ih a (ha a (List.mem_cons_self ..)).1 (ha a (List.mem_cons_self ..)).2 b (hb b (List.mem_cons_self ..)) bd x e1
       obtain⟨d1,d2,d3,d4⟩:=ihl gs bd y (fun z hz=>ha z (List.mem_cons_of_mem _ hz)) (fun z hz=>hb z (List.mem_cons_of_mem _ hz)) (by simpa using hl) e2
       have L:∀ {p:Ma→Prop},(∃b∈x,p b)→∃b∈x++y,p b:=fun⟨b,hb,h⟩=>⟨b,List.mem_append.2 (.inl hb),h⟩
       have R:∀ {p:Ma→Prop},(∃b∈y,p b)→∃b∈x++y,p b:=fun⟨b,hb,h⟩=>⟨b,List.mem_append.2 (.inr hb),h⟩
       refine⟨fun z hz hw=>?_,fun z hz=>?_,fun z hz hw hn=>?_,fun z hz hw=>?_⟩
       ·rw[Un]at hz
        exact hz.elim (fun h=>L (c1 z h hw)) (fun h=>R (d1 z h hw))
       ·rw[qsL]at hz
        exact(List.mem_append.1 hz).elim (fun h=>L (c2 z h)) (fun h=>R (d2 z h))
       ·rw[NC,Wx.app,Vq.app]at hz
        rcases hz with(h|h)|(h|h)
        ·exact L (c3 z (.inl h) hw hn)
        ·exact R (d3 z (.inl h) hw hn)
        ·exact L (c3 z (.inr h) hw hn)
        ·exact R (d3 z (.inr h) hw hn)
       ·rw[NC,Vq.app]at hz
        exact hz.elim (fun h=>L (c4 z h hw)) (fun h=>R (d4 z h hw))
    obtain⟨d1,d2,d3,d4⟩:=parts f.subs g.subs _ y2 (fun y hy=>by
     obtain⟨j,hj,rfl⟩:=Na.1 hy
     have:=Oi hj
     exact⟨by omega,Uh hwf hj⟩) (fun y hy=>by
     obtain⟨j,hj,rfl⟩:=Na.1 hy
     exact Uh hwg hj) hsl h4
    have H:∀ {p:Ma→Prop},(∃b∈x1,p b)→∃b∈x1++(x2++y2),p b:=fun⟨b,hb,h⟩=>⟨b,List.mem_append.2 (.inl hb),h⟩
    have W:∀ {p:Ma→Prop},(∃b∈x2,p b)→∃b∈x1++(x2++y2),p b:=fun⟨b,hb,h⟩=>⟨b,List.mem_append.2 (.inr (List.mem_append.2 (.inl hb))),h⟩
    have S:∀ {p:Ma→Prop},(∃b∈y2,p b)→∃b∈x1++(x2++y2),p b:=fun⟨b,hb,h⟩=>⟨b,List.mem_append.2 (.inr (List.mem_append.2 (.inr hb))),h⟩
    refine⟨fun x hx hw=>?_,fun x hx=>?_,fun x hx hw hn=>?_,fun x hx hw=>?_⟩
    ·rw[d7c]at hx
     rcases hx with hx|hx
     ·exact W ((d7C hl h3 x hx.1).2 hx.2 hw)
     ·exact S (d1 x hx hw)
    ·rw[d0N]at hx
     rcases List.mem_append.1 hx with hx|hx
     ·by_cases hq:QK f.kind
      ·rw[if_pos hq,List.mem_singleton]at hx
       subst hx
       unfold pth at h1
       rw[if_pos hq]at h1
       cases h1
       exact H ⟨_,List.mem_singleton.2 rfl,rfl⟩
      ·rw[if_neg hq]at hx;cases hx
     ·exact S (d2 x hx)
    ·rw[Xa, ←List.singleton_append,Wx.app,Vq.app,Wx.one,Vq.one]at hx
     have hd:f.kind=2→f.name=x→∃b∈x1,b.name=33::x:=fun e1 e2=>by
      have hnq:¬QK f.kind:=by rw[e1];decide
      unfold pth at h1
      rw[if_neg hnq,if_pos ⟨e1,by rw[e2];exact hw⟩]at h1
      cases h1
      exact⟨_,List.mem_singleton.2 rfl,by rw[e2]⟩
     rcases hx with(h|h)|(h|h)
     ·exact H (hd h.1 h.2.1)
     ·exact S (d3 x (.inl h) hw hn)
     ·exact H (hd h.1 h.2.1)
     ·exact S (d3 x (.inr h) hw hn)
    ·rw[Xa, ←List.singleton_append,Vq.app,Vq.one]at hx
     rcases hx with h|h
     ·exact absurd ⟨⟨h.1,h.2.2⟩,by rw[h.2.1];exact hw⟩ hp
     ·exact S (d4 x h hw)
theorem d7D{s:Mb}(hs:QT s){g:LZ}(hg:WfF g){ps:List Ma}{e:Env}(hp:pts s s.form [] g=some ps)(he:Sq [] ps=some e):∀j,j<(ME s).length→∃b,assoc (Am.get (ME s) j) e=some b:=fun j hj=>by
 obtain⟨c1,c2,c3,c4⟩:=i0V s _ s.form (Nat.le_refl _) hs.form.1 g hg [] ps hp
 have fin:∀k,(∃b∈ps,b.name=k)→∃b,assoc k e=some b:=fun k ⟨b,hb,hk⟩=>⟨b,by rw[←hk];exact(VK _ _ _ he).1 b hb⟩
 have hvl:=Tn s
 rcases Xe hj with⟨h1,e1⟩|⟨a,h1,rfl,e1⟩|⟨a,h1,rfl,e1⟩|⟨a,h1,rfl,e1⟩<;>rw[e1]
 ·exact fin _ (c1 _ (hs.words _ (get_mem h1)) (get_mem h1))
 ·refine fin _ (c3 _ (hs.Mj _ (get_mem h1)) (get_mem h1) fun hq=>?_)
  obtain⟨b,hb,e⟩:=Na.1 hq
  exact hs.uniq (s.words.length+a) (s.words.length+s.Mj.length+b) (by omega) (by omega) (by rw[Xb h1,Xc hb,e])
 ·exact fin _ (c4 _ (hs.parts _ (get_mem h1)).2 (get_mem h1))
 ·exact fin _ (c2 _ (get_mem h1))
theorem d2p{V:Type}[Inhabited V]:∀(ks:List Bs) (vs:List V),ks.length=vs.length→(∀i j,i<ks.length→j<ks.length→Am.get ks i=Am.get ks j→i=j)→∀j,j<ks.length→assoc (Am.get ks j) (ks.zip vs)=some (Am.get vs j)
 | [],vs,_,_,j,hj=>by simp at hj
 |k::ks,[],hl,_,j,hj=>by simp at hl
 |k::ks,v::vs,hl,hu,j,hj=>by
  rw[List.zip_cons_cons]
  cases j with
  |zero=>
   show(if k=k then some v else _)=some v
   rw[if_pos rfl]
  |succ j=>
   have hne:Am.get (k::ks) (j+1)≠k:=fun e=>by
    have:=hu (j+1) 0 hj (by simp) e
    omega
   show(if Am.get (k::ks) (j+1)=k then some v else assoc (Am.get (k::ks) (j+1)) (ks.zip vs))=_
   rw[if_neg hne]
   exact d2p ks vs (by simpa using hl) (fun a b ha hb e=>by
    have:=hu (a+1) (b+1) (by simpa using ha) (by simpa using hb) e
    omega) j (by simpa using hj)
def bOf(s:Mb)(bs:List Ma)(k:Bs):Ma:=(assoc k ((ME s).zip bs)).getD default
theorem Xf{s:Mb}(hs:QT s){bs:List Ma}(hl:bs.length=(ME s).length){j:Nat}(hj:j<(ME s).length):bOf s bs (Am.get (ME s) j)=Am.get bs j:=by
 unfold bOf
 rw[d2p _ _ hl.symm (fun a b ha hb e=>key_inj hs ha hb e) j hj];rfl
def inm(s:Mb)(bs:List Ma)(f:LZ):Bs:=if QK f.kind then(bOf s bs (63::f.name)).text else if f.kind=2∧f.name∈s.Mj then(bOf s bs (33::f.name)).text else f.name
def iwd(s:Mb)(bs:List Ma)(bd:List Bs)(x:Bs):Bs:=if x∈bd then(bOf s bs (63::x)).text else if x∈s.words then(bOf s bs (46::x)).text else x
mutual
def Sj(s:Mb)(bs:List Ma):LZ→List Bs→LZ
 | .mk k n w l,bd=>if QU s (.mk k n w l)then(bOf s bs (43::n)).form else .mk k (inm s bs (.mk k n w l)) (w.map (iwd s bs bd)) (Nx s bs l (if QK k then n::bd else bd))
def Nx(s:Mb)(bs:List Ma):List LZ→List Bs→List LZ
 | [],_=>[]
 |f::l,bd=>Sj s bs f bd::Nx s bs l bd
end
theorem d1b(s:Mb)(bs:List Ma)(f:LZ)(bd:List Bs):Sj s bs f bd=if QU s f then(bOf s bs (43::f.name)).form else .mk f.kind (inm s bs f) (f.words.map (iwd s bs bd)) (Nx s bs f.subs (if QK f.kind then f.name::bd else bd)):=by cases f;rw[Sj];rfl
theorem Zv(s:Mb)(bs:List Ma):∀(l:List LZ) (x:LZ) (bd:List Bs),Nx s bs (l++[x]) bd=Nx s bs l bd++[Sj s bs x bd]
 | [],x,bd=>by simp[Nx]
 |a::l,x,bd=>by rw[List.cons_append,Nx,Nx,Zv s bs l x];rfl
theorem XK(s:Mb)(bs:List Ma):∀(l:List LZ) (bd:List Bs),(Nx s bs l bd).length=l.length
 | [],_=>by rw[Nx]
 |f::l,bd=>by rw[Nx,List.length_cons,List.length_cons,XK s bs l]
theorem d7E{s:Mb}{bs:List Ma}{bd bd':List Bs}(h:∀y,y∈bd↔y∈bd')(w:Bs):iwd s bs bd w=iwd s bs bd' w:=by
 unfold iwd
 by_cases e:w∈bd
 ·rw[if_pos e,if_pos ((h w).1 e)]
 ·rw[if_neg e,if_neg fun e'=>e ((h w).2 e')]
mutual
theorem d3y(s:Mb)(bs:List Ma):∀(f:LZ) (bd bd':List Bs),(∀y,y∈bd↔y∈bd')→Sj s bs f bd=Sj s bs f bd'
 | .mk k n w l,bd,bd',h=>by
   rw[Sj,Sj,Vw s bs l _ (if QK k then n::bd' else bd') (fun y=>?_),List.map_congr_left fun x _=>d7E h x]
   split
   ·simp[h y]
   ·exact h y
theorem Vw(s:Mb)(bs:List Ma):∀(l:List LZ) (bd bd':List Bs),(∀y,y∈bd↔y∈bd')→Nx s bs l bd=Nx s bs l bd'
 | [],bd,bd',h=>by rw[Nx,Nx]
 |f::l,bd,bd',h=>by rw[Nx,Nx,d3y s bs f bd bd' h,Vw s bs l bd bd' h]
end
theorem Zw:∀(l:List LZ) (x:LZ),VI (l++[x])=max (VI l) (dpF x)
 | [],x=>by simp[VI]
 |a::l,x=>by
  rw[List.cons_append,VI,VI,Zw l x]
  omega
theorem i3h:∀(m:Nat) (f:LZ),SizeOf.sizeOf f≤m→dpF f≤ndF f:=by
 intro m
 induction m with
 |zero=>intro f h;cases f;simp only[LZ.mk.sizeOf_spec]at h;omega
 |succ m ih=>
  intro f hf
  rw[d4j,WW]
  have:∀l:List LZ,(∀y∈l,SizeOf.sizeOf y≤m)→VI l≤Pb l:=by
   intro l
   induction l with
   |nil=>intro _;rw[VI];omega
   |cons a l ihl=>
    intro h
    rw[VI,Pb]
    have:=ih a (h a (List.mem_cons_self ..))
    have:=ihl fun y hy=>h y (List.mem_cons_of_mem _ hy)
    omega
  have:=this f.subs fun y hy=>by
   obtain⟨j,hj,rfl⟩:=Na.1 hy
   have:=Oi hj
   omega
  omega
theorem i0W:∀(m:Nat) (f:LZ),SizeOf.sizeOf f≤m→ndF f≤100000→Evt (fun n=>Rn n f) (fun r=>r=((ndF f:Int),(dpF f:Int))):=by
 intro m
 induction m with
 |zero=>intro f h;cases f;simp only[LZ.mk.sizeOf_spec]at h;omega
 |succ m ih=>
  intro f hf hn
  have hnd:=WW f
  have hdp:=d4j f
  have hdl:=i3h _ f (Nat.le_refl _)
  refine Evt.succ ?_
  simp only[Rn]
  refine Evt.Mw (P:=ExP (fun t=>t=(((1+Pb f.subs:Nat):Int),((VI f.subs:Nat):Int))) (fun _=>False)) ((Evt.range (fun k t=>t=(((1+Pb (f.subs.take k):Nat):Int),((VI (f.subs.take k):Nat):Int))) (fun _=>False) (fun _=>False) (by simp[Pb,VI]) (fun k t hk ht=>?_)).mono fun e he=>?_) (fun t ht=>?_) (fun _ h=>h.elim)
  ·subst ht
   have hsz:=Oi hk
   have htk:=Tl hk
   unfold RY
   refine Evt.bind (ih _ (by omega) (by omega)) fun v hv=>Evt.pure ?_
   subst hv
   show(_,_)=(_,_)
   rw[Od hk,Vo,Zw,Tt (by omega) (by omega)]
   congr 1
   ·omega
   ·omega
  ·cases e with
   |ret r=>exact he
   |nxt t=>
    have:=he.elim id False.elim
    rw[List.take_length]at this
    exact this
  ·have ht:t=(((1+Pb f.subs:Nat):Int),((VI f.subs:Nat):Int)):=ht
   subst ht
   unfold RZ
   refine Evt.pure ?_
   show(_,_)=(_,_)
   rw[Tt (by omega) (by omega)]
   congr 1
   ·omega
   ·omega
structure d5o(s:Mb)(bs:List Ma):Prop where
 len:bs.length=(ME s).length
 name:∀j,j<(ME s).length→(Am.get bs j).name=(Am.get (ME s) j).drop 1
 part:∀j,j<s.parts.length→OkF (Am.get bs (s.words.length+s.Mj.length+j)).form
theorem d1c{bs:List Ma}(hl:bs.length≤1000)(lo hi:Nat)(hle:lo≤hi)(hh:hi≤bs.length)(nm:Bs):Evt (fun n=>MA n (lo:Int) (hi:Int) nm bs) (fun r=>(∃j,lo≤j∧j<hi∧(Am.get bs j).name=nm∧r=(Am.get bs j).text)∨((∀j,lo≤j→j<hi→(Am.get bs j).name≠nm)∧r=nm)):=by
 unfold MA
 refine Evt.Mw (Evt.d6Q (hi-lo) (fun k s=>s=((lo+k:Nat):Int)∧∀j,lo≤j→j<lo+k→(Am.get bs j).name≠nm) (fun _=>∀j,lo≤j→j<hi→(Am.get bs j).name≠nm) (fun r=>∃j,lo≤j∧j<hi∧(Am.get bs j).name=nm∧r=(Am.get bs j).text) ⟨rfl,fun j h1 h2=>absurd h2 (by omega)⟩ (fun k s hk hs=>?_) (fun s hs=>?_)) (fun t ht=>?_) (fun r hr=>.inl hr)
 ·obtain⟨rfl,hs⟩:=hs
  unfold NZ
  simp only[Int.toNat_natCast]
  refine Evt.cond (fun _=>Evt.chk (by omega) (Evt.cond (fun e=>Evt.pure ?_) (fun e=>Evt.pure ⟨?_,fun j h1 h2=>?_⟩))) (fun e=>by replace e:=bx e;omega)
  ·replace e:=bx e
   exact⟨lo+k,by omega,by omega,e,rfl⟩
  ·rw[Tt (by omega) (by omega)];rfl
  ·replace e:=bx e
   by_cases ej:j=lo+k
   ·subst ej;exact e
   ·exact hs j h1 (by omega)
 ·obtain⟨rfl,hs⟩:=hs
  unfold NZ
  refine Evt.cond (fun e=>by replace e:=bx e;omega) (fun _=>Evt.pure fun j h1 h2=>hs j h1 (by omega))
 ·exact Evt.pure (.inr ⟨ht,rfl⟩)
section
variable {s:Mb} {bs:List Ma}
theorem d9L(hs:QT s)(hb:d5o s bs){x:Bs}(hx:x∈qs s.form):Evt (fun n=>MA n ((s.words.length+s.Mj.length+s.parts.length:Nat):Int) (bs.length:Int) x bs) (fun r=>r=(bOf s bs (63::x)).text):=by
 have hkl:=MP s
 have hk5:=Uj hs
 have hbl:=hb.len
 refine(d1c (by omega) _ bs.length (by omega) (Nat.le_refl _) x).mono fun r hr=>?_
 obtain⟨q,hq,rfl⟩:=Na.1 hx
 rcases hr with⟨j,h1,h2,h3,h4⟩|⟨h1,_⟩
 ·rw[hb.name j (by omega)]at h3
  obtain⟨a,rfl⟩:∃a,j=s.words.length+s.Mj.length+s.parts.length+a:=⟨j-(s.words.length+s.Mj.length+s.parts.length),by omega⟩
  rw[d5n (by omega)]at h3
  have h3:Am.get (qs s.form) a=Am.get (qs s.form) q:=h3
  rw[h4, ←h3, ←d5n (by omega),Xf hs hbl (by omega)]
 ·exact absurd (by rw[hb.name _ (by omega),d5n hq];rfl) (h1 (s.words.length+s.Mj.length+s.parts.length+q) (by omega) (by omega))
theorem i3i(hs:QT s)(hb:d5o s bs)(x:Bs):Evt (fun n=>MA n 0 (s.words.length:Int) x bs) (fun r=>r=if x∈s.words then(bOf s bs (46::x)).text else x):=by
 have hkl:=MP s
 have hk5:=Uj hs
 have hbl:=hb.len
 refine(d1c (by omega) 0 s.words.length (by omega) (by omega) x).mono fun r hr=>?_
 rcases hr with⟨j,h1,h2,h3,h4⟩|⟨h1,h2⟩
 ·rw[hb.name j (by omega),d5l h2]at h3
  have h3:Am.get s.words j=x:=h3
  rw[if_pos (h3▸get_mem h2),h4, ←h3, ←d5l h2,Xf hs hbl (by omega)]
 ·rw[if_neg fun hx=>?_,h2]
  obtain⟨q,hq,rfl⟩:=Na.1 hx
  exact h1 q (by omega) hq (by rw[hb.name _ (by omega),d5l hq];rfl)
theorem i3j(hs:QT s)(hb:d5o s bs)(x:Bs):Evt (fun n=>MA n (s.words.length:Int) ((s.words.length+s.Mj.length:Nat):Int) x bs) (fun r=>r=if x∈s.Mj then(bOf s bs (33::x)).text else x):=by
 have hkl:=MP s
 have hk5:=Uj hs
 have hbl:=hb.len
 refine(d1c (by omega) s.words.length (s.words.length+s.Mj.length) (by omega) (by omega) x).mono fun r hr=>?_
 rcases hr with⟨j,h1,h2,h3,h4⟩|⟨h1,h2⟩
 ·obtain⟨a,rfl⟩:∃a,j=s.words.length+a:=⟨j-s.words.length,by omega⟩
  have ha:a<s.Mj.length:=by omega
  rw[hb.name _ (by omega),d5m ha]at h3
  have h3:Am.get s.Mj a=x:=h3
  rw[if_pos (h3▸get_mem ha),h4, ←h3, ←d5m ha,Xf hs hbl (by omega)]
 ·rw[if_neg fun hx=>?_,h2]
  obtain⟨q,hq,rfl⟩:=Na.1 hx
  exact h1 (s.words.length+q) (by omega) (by omega) (by rw[hb.name _ (by omega),d5m hq];rfl)
end
theorem d2q{s:Mb}{bs:List Ma}(hs:QT s)(hb:d5o s bs){x:Bs}(hx:x∈s.parts):OkF (bOf s bs (43::x)).form:=by
 have hkl:=MP s
 obtain⟨q,hq,rfl⟩:=Na.1 hx
 rw[←d7B hq,Xf hs hb.len (by omega)]
 exact hb.part q hq
mutual
theorem d4E{s:Mb}{bs:List Ma}(hs:QT s)(hb:d5o s bs):∀(f:LZ) (bd:List Bs),ndF (Sj s bs f bd)≤200*ndF f
 | .mk k n w l,bd=>by
   rw[Sj,ndF]
   split
   ·rename_i h
    have h2:ndF (bOf s bs (43::n)).form≤200:=(d2q hs hb h.2).2.1
    omega
   ·rw[ndF]
    have:=Xg hs hb l (if QK k then n::bd else bd)
    omega
theorem Xg{s:Mb}{bs:List Ma}(hs:QT s)(hb:d5o s bs):∀(l:List LZ) (bd:List Bs),Pb (Nx s bs l bd)≤200*Pb l
 | [],bd=>by rw[Nx,Pb];omega
 |f::l,bd=>by
  rw[Nx,Pb,Pb]
  have:=d4E hs hb f bd
  have:=Xg hs hb l bd
  omega
end
def fits(c a:Nat)(r:LZ):Bool:=decide (c+ndF r≤200∧a+dpF r≤41)
def d5p(s:Mb)(bs:List Ma)(f:LZ)(bd:List Bs)(a c:Nat)(r:LZ×Bool×Int):Prop:=r=(Sj s bs f bd,fits c a (Sj s bs f bd),((c+ndF (Sj s bs f bd):Nat):Int))
theorem d9c{s:Mb}{bs:List Ma}(hs:QT s)(hb:d5o s bs):∀(m:Nat) (f:LZ),SizeOf.sizeOf f≤m→WfF f→(∀x∈qs f,x∈qs s.form)→∀(bd:List Bs),(∀x∈bd,x∈qs s.form)→bd.length+ndF f≤1000→∀a c:Nat,a+ndF f≤10000→c+200*ndF f≤1000000→
 Evt (fun n=>Mq n f (a:Int) bd s.form.kind s.form.name s.form.words s.form.subs s.words s.Mj s.parts bs ((s.words.length+s.Mj.length:Nat):Int) (c:Int)) (d5p s bs f bd a c):=by
 have hkl:=MP s
 have hk5:=Uj hs
 have hbl:=hb.len
 have hvl:=Tn s
 have hwM:wr .i64 (((s.words.length+s.Mj.length:Nat):Int)+(s.parts.length:Int))=((s.words.length+s.Mj.length+s.parts.length:Nat):Int):=by rw[Tt (by omega) (by omega)];omega
 intro m
 induction m with
 |zero=>intro f h;cases f;simp only[LZ.mk.sizeOf_spec]at h;omega
 |succ m ih=>
  intro f hf hwf hqf bd hbd i7A a c ha hc
  have hnd:=WW f
  have hws:=d2c hwf
  have hsl:=d0S hwf
  have hin:=d4E hs hb f bd
  refine Evt.succ ?_
  simp only[Mq,d3s,Option.bind_some]
  have e0:(⟨⟨s.form.kind,s.form.name,s.form.words,s.form.subs⟩,s.words,s.Mj,s.parts⟩:Mb)=s:=by rw[d4C]
  rw[e0]
  have rest:¬QU s f→Evt (fun n=>Nq (Mq n) n bd f ((s.words.length+s.Mj.length:Nat):Int) s.parts bs s.words (a:Int) s.form.kind s.form.name s.form.words s.form.subs s.Mj (c:Int) ()) (d5p s bs f bd a c):=by
   intro hpart
   unfold Nq
   refine Evt.Mw (P:=ExP (fun t=>t=f.words.map (iwd s bs bd)) (fun _=>False)) ((Evt.range (fun k t=>t=(f.words.take k).map (iwd s bs bd)) (fun _=>False) (fun _=>False) (by simp) (fun k t hk ht=>?_)).mono fun e he=>?_) (fun t ht=>?_) (fun _ h=>h.elim)
   ·unfold OU
    simp only[NY,Option.bind_some,hwM]
    have htl:t.length=k:=by rw[ht,List.length_map,List.length_take];omega
    have hsn:(f.words.take (k+1)).map (iwd s bs bd)=t++[iwd s bs bd (Am.get f.words k)]:=by rw[Od hk,List.map_append,ht];rfl
    refine Evt.cond (fun e=>?_) (fun e=>?_)
    ·replace e:=bx e
     refine Evt.bind (d9L hs hb (hbd _ e)) fun v hv=>Evt.Sk (Evt.chk ?_ (Evt.pure ?_))
     ·rw[QS];simp only[List.length_append,List.length_cons,List.length_nil];omega
     ·show _=_
      rw[hsn,hv];unfold iwd;rw[if_pos e]
    ·replace e:=bx e
     refine Evt.bind (i3i hs hb _) fun v hv=>Evt.Sk (Evt.chk ?_ (Evt.pure ?_))
     ·rw[QS];simp only[List.length_append,List.length_cons,List.length_nil];omega
     ·show _=_
      rw[hsn,hv];unfold iwd;rw[if_neg e]
   ·cases e with
    |ret r=>exact he
    |nxt t=>
     have:=he.elim id False.elim
     rw[List.take_length]at this
     exact this
   ·have ht:t=f.words.map (iwd s bs bd):=ht
    subst ht
    have key:∀(nm:Bs) (bd':List Bs),nm=inm s bs f→(∀y,y∈bd'↔y∈(if QK f.kind then f.name::bd else bd))→bd'.length≤bd.length+1→
     Evt (fun n=>MW (Mq n) f (a:Int) s.form.kind s.form.name s.form.words s.form.subs s.words s.Mj s.parts bs ((s.words.length+s.Mj.length:Nat):Int) (c:Int) (f.words.map (iwd s bs bd)) (nm,bd')) (d5p s bs f bd a c):=by
     intro nm bd' hnm hbq hlen
     have i5d:∀x∈bd',x∈qs s.form:=fun x hx=>by
      have hx:=(hbq x).1 hx
      by_cases hq:QK f.kind
      ·rw[if_pos hq]at hx
       rcases List.mem_cons.1 hx with rfl|hx
       ·exact hqf _ (by rw[d0N,if_pos hq];simp)
       ·exact hbd x hx
      ·rw[if_neg hq]at hx;exact hbd x hx
     have hqs:∀k,k<f.subs.length→∀x∈qs (Am.get f.subs k),x∈qs s.form:=fun k hk x hx=>hqf x (by
      rw[d0N]
      refine List.mem_append.2 (.inr ?_)
      have:∀(l:List LZ) (k:Nat),k<l.length→∀x∈qs (Am.get l k),x∈qsL l:=by
       intro l
       induction l with
       |nil=>intro k h;simp at h
       |cons b l ihl=>
        intro k h x hx
        rw[qsL]
        cases k with
        |zero=>exact List.mem_append.2 (.inl hx)
        |succ k=>exact List.mem_append.2 (.inr (ihl k (by simpa using h) x hx))
      exact this _ k hk x hx)
     have hw1:wr .i64 ((c:Int)+1)=((c+1:Nat):Int):=by rw[Tt (by omega) (by omega)];rfl
     have hw2:wr .i64 ((a:Int)+1)=((a+1:Nat):Int):=by rw[Tt (by omega) (by omega)];rfl
     have hnl:=Xg hs hb f.subs bd'
     unfold MW
     rw[hw1]
     refine Evt.Mw (P:=ExP (fun t=>t=(((c+1+Pb (Nx s bs f.subs bd'):Nat):Int),Nx s bs f.subs bd',decide (c+1+Pb (Nx s bs f.subs bd')≤200∧a+VI (Nx s bs f.subs bd')≤40))) (fun _=>False)) ((Evt.range (fun k t=>t=(((c+1+Pb (Nx s bs (f.subs.take k) bd'):Nat):Int),Nx s bs (f.subs.take k) bd',decide (c+1+Pb (Nx s bs (f.subs.take k) bd')≤200∧a+VI (Nx s bs (f.subs.take k) bd')≤40))) (fun _=>False) (fun _=>False) ?_ (fun k t hk ht=>?_)).mono fun e he=>?_) (fun t ht=>?_) (fun _ h=>h.elim)
     ·rw[List.take_zero,Nx,Pb,VI]
      have hd:(bif decide (((c+1:Nat):Int)≤200)then decide ((a:Int)≤40)else false)=decide (c+1+0≤200∧a+0≤40):=by
       by_cases h1:c+1≤200
       ·rw[decide_eq_true (show((c+1:Nat):Int)≤200 by omega),cond_true]
        exact decide_eq_decide.2 (by omega)
       ·rw[decide_eq_false (show ¬((c+1:Nat):Int)≤200 by omega),cond_false]
        exact(decide_eq_false (by omega)).symm
      rw[hd]
     ·subst ht
      have hsz:=Oi hk
      have htk:=Tl hk
      have hn2:=Xg hs hb (f.subs.take k) bd'
      unfold OV
      rw[hw2]
      refine Evt.bind (ih _ (by omega) (Uh hwf hk) (hqs k hk) bd' i5d (by omega) (a+1) (c+1+Pb (Nx s bs (f.subs.take k) bd')) (by omega) (by omega)) fun v hv=>?_
      have hv:v=_:=hv
      subst hv
      refine Evt.Sk (Evt.chk ?_ (Evt.pure ?_))
      ·rw[QS];simp only[List.length_append,XK,List.length_take,List.length_cons,List.length_nil];omega
      ·show(_,_,_)=(_,_,_)
       rw[Od hk,Zv,Vo,Zw, ←Nat.add_assoc]
       congr 2
       unfold fits
       generalize Pb (Nx s bs (f.subs.take k) bd')=A
       generalize ndF (Sj s bs (Am.get f.subs k) bd')=B
       generalize VI (Nx s bs (f.subs.take k) bd')=C
       generalize dpF (Sj s bs (Am.get f.subs k) bd')=D
       by_cases h1:c+1+A≤200∧a+C≤40
       ·rw[decide_eq_true h1]
        show decide _=decide _
        exact decide_eq_decide.2 (by omega)
       ·rw[decide_eq_false h1]
        show false=decide _
        exact(decide_eq_false (by omega)).symm
     ·cases e with
      |ret r=>exact he
      |nxt t=>
       have:=he.elim id False.elim
       rw[List.take_length]at this
       exact this
     ·have ht:t=_:=ht
      subst ht
      unfold OW
      refine Evt.pure ?_
      unfold d5p fits
      rw[d1b,if_neg hpart,hnm,Vw s bs f.subs _ _ hbq,WW,d4j]
      generalize Nx s bs f.subs (if QK f.kind then f.name::bd else bd)=L
      have h1:decide (c+1+Pb L≤200∧a+VI L≤40)=decide (c+(1+Pb L)≤200∧a+(1+VI L)≤41):=decide_eq_decide.2 (by omega)
      show(LZ.mk f.kind (inm s bs f) (f.words.map (iwd s bs bd)) L,decide (c+1+Pb L≤200∧a+VI L≤40),((c+1+Pb L:Nat):Int))=(LZ.mk f.kind (inm s bs f) (f.words.map (iwd s bs bd)) L,decide (c+(1+Pb L)≤200∧a+(1+VI L)≤41),((c+(1+Pb L):Nat):Int))
      rw[h1,Nat.add_assoc c 1]
    unfold OX
    simp only[UD,Option.bind_some,hwM]
    refine Evt.cond (fun e=>?_) (fun e=>?_)
    ·replace e:=bx e
     refine Evt.bind (P:=fun v=>v=bd) (Evt.pure rfl) fun v hv=>?_
     subst hv
     refine Evt.Sk (Evt.chk ?_ (Evt.bind (d9L hs hb (hqf _ (by rw[d0N,if_pos e];simp))) fun w hw=>key _ _ ?_ (fun y=>?_) (by simp)))
     ·rw[QS];simp only[List.length_append,List.length_cons,List.length_nil];omega
     ·rw[hw];unfold inm;rw[if_pos e]
     ·rw[if_pos e];simp[or_comm]
    ·replace e:=bx e
     have hbq:∀y,y∈bd↔y∈(if QK f.kind then f.name::bd else bd):=fun y=>by rw[if_neg e]
     refine Evt.cond (fun e2=>?_) (fun e2=>?_)
     ·replace e2:=bx e2
      refine Evt.bind (i3j hs hb f.name) fun w hw=>key _ _ ?_ hbq (by omega)
      rw[hw];unfold inm;rw[if_neg e]
      by_cases hp:f.name∈s.Mj
      ·rw[if_pos hp,if_pos ⟨e2,hp⟩]
      ·rw[if_neg hp,if_neg fun h=>hp h.2]
     ·replace e2:=bx e2
      exact key _ _ (by unfold inm;rw[if_neg e,if_neg fun h=>e2 h.1]) hbq (by omega)
  refine Evt.cond (fun e=>?_) (fun e=>rest (of_decide_eq_false e))
  have hpart:QU s f:=of_decide_eq_true e
  obtain⟨q,hq,hqe⟩:=Na.1 hpart.2
  have hdl:((bs.drop (s.words.length+s.Mj.length)).take s.parts.length).length=s.parts.length:=by rw[List.length_take,List.length_drop];omega
  have hdg:∀k,k<s.parts.length→Am.get ((bs.drop (s.words.length+s.Mj.length)).take s.parts.length) k=Am.get bs (s.words.length+s.Mj.length+k):=fun k hk=>by
   unfold Am.get
   rw[List.getD_eq_getElem?_getD,List.getD_eq_getElem?_getD,List.getElem?_take_of_lt hk,List.getElem?_drop]
  have htk:s.words.length+s.Mj.length+s.parts.length-(s.words.length+s.Mj.length)=s.parts.length:=by omega
  simp only[hwM,Int.toNat_natCast,htk]
  refine Evt.chk (by omega) ?_
  rw[hdl]
  refine Evt.Mw (Evt.scan (fun k _=>∀j,j<k→Am.get s.parts j≠f.name) (fun k r=>d5p s bs f bd a c r) (fun j hj=>absurd hj (Nat.not_lt_zero _)) (fun k u hk hi=>?_)) (fun t ht=>?_) (fun r hr=>?_)
  ·unfold OY
   simp only[hwM,Int.toNat_natCast,htk,hdg k hk]
   have hnm:(Am.get bs (s.words.length+s.Mj.length+k)).name=Am.get s.parts k:=by
    rw[hb.name _ (by omega),d7B hk];rfl
   rw[hnm]
   refine Evt.cond (fun e=>?_) (fun e=>Evt.pure fun j hj=>?_)
   ·replace e:=bx e
    have hfm:(bOf s bs (43::f.name)).form=(Am.get bs (s.words.length+s.Mj.length+k)).form:=by
     rw[←e, ←d7B hk,Xf hs hbl (by omega)]
    have hok:=hb.part k hk
    have hdp:=i3h _ (Am.get bs (s.words.length+s.Mj.length+k)).form (Nat.le_refl _)
    have i7B:=hok.2.1
    refine Evt.bind (i0W _ _ (Nat.le_refl _) (by omega)) fun v hv=>Evt.pure ?_
    subst hv
    unfold d5p fits
    rw[d1b,if_pos hpart,hfm]
    show(_,_,_)=(_,_,_)
    rw[Tt (n:=(c:Int)+((ndF (Am.get bs (s.words.length+s.Mj.length+k)).form:Nat):Int)) (by omega) (by omega),Tt (n:=(a:Int)+((dpF (Am.get bs (s.words.length+s.Mj.length+k)).form:Nat):Int)) (by omega) (by omega),Tt (n:=(a:Int)+((dpF (Am.get bs (s.words.length+s.Mj.length+k)).form:Nat):Int)-1) (by omega) (by omega)]
    congr 2
    generalize ndF (Am.get bs (s.words.length+s.Mj.length+k)).form=A
    generalize dpF (Am.get bs (s.words.length+s.Mj.length+k)).form=B
    by_cases h1:c+A≤200
    ·rw[decide_eq_true (show(c:Int)+(A:Int)≤200 by omega)]
     show decide _=decide _
     exact decide_eq_decide.2 (by omega)
    ·rw[decide_eq_false (show ¬(c:Int)+(A:Int)≤200 by omega)]
     show false=decide _
     exact(decide_eq_false (by omega)).symm
   ·replace e:=bx e
    by_cases ej:j=k
    ·subst ej;exact e
    ·exact hi j (by omega)
  ·exact absurd hqe (ht q hq)
  ·obtain⟨_,_,_,_,hr⟩:=hr
   exact hr
theorem get_set_same{α:Type}[Inhabited α]{l:List α}{j:Nat}{v:α}(h:j<l.length):Am.get (l.set j v) j=v:=by
 unfold Am.get
 rw[List.getD_eq_getElem?_getD,List.getElem?_set_self h];rfl
theorem VO{α:Type}[Inhabited α]{l:List α}{i j:Nat}{v:α}(h:i≠j):Am.get (l.set j v) i=Am.get l i:=by
 unfold Am.get
 rw[List.getD_eq_getElem?_getD,List.getD_eq_getElem?_getD,List.getElem?_set_ne (Ne.symm h)]
structure Rel(s:Mb)(RG:List IT)(env:Env)(out:List Ma)(st:List Bool)(frm:List Int):Prop where
 ok:Vt env
 lo:out.length=(ME s).length
 ls:st.length=(ME s).length
 lf:frm.length=(ME s).length
 no:∀j,j<(ME s).length→assoc (Am.get (ME s) j) env=none→Am.get st j=false∧Am.get out j=default
 yes:∀j,j<(ME s).length→∀b,assoc (Am.get (ME s) j) env=some b→Am.get st j=true∧Am.get out j=⟨(Am.get (ME s) j).drop 1,b.text,b.form⟩∧((∃x,Am.get (ME s) j=43::x)→∃(p:Nat) (ar:List Bs),Am.get frm j=(p:Int)∧Vv RG b.form ar p∧WfF b.form)
theorem Rel.put{s:Mb}(hs:QT s){RG:List IT}{env env':Env}{out:List Ma}{st:List Bool}{frm fr':List Int}(h:Rel s RG env out st frm){b:Ma}{j:Nat}(hj:j<(ME s).length)(hk:Am.get (ME s) j=b.name)(hb:XJ b)(hp:d1n env b=some env'){v:Ma}(hv:v=⟨(Am.get (ME s) j).drop 1,b.text,b.form⟩)
 (hfl:fr'.length=(ME s).length) (hfo:∀i,i≠j→Am.get fr' i=Am.get frm i) (hfj:(∃x,Am.get (ME s) j=43::x)→∃(p:Nat) (ar:List Bs),Am.get fr' j=(p:Int)∧Vv RG b.form ar p∧WfF b.form):
 Rel s RG env' (out.set j v) (st.set j true) fr':=by
 obtain⟨p1,p2,p3⟩:=VJ hp
 refine⟨d3u h.ok hb hp,by rw[List.length_set];exact h.lo,by rw[List.length_set];exact h.ls,hfl,fun i hi hn=>?_,fun i hi c hc=>?_⟩
 ·by_cases e:i=j
  ·subst e
   rw[hk,p1]at hn;cases hn
  ·rw[VO e,VO e]
   refine h.no i hi ?_
   cases ha:assoc (Am.get (ME s) i) env with
   |none=>rfl
   |some c=>rw[p2 _ _ ha]at hn;cases hn
 ·by_cases e:i=j
  ·subst e
   rw[hk,p1]at hc
   cases hc
   rw[get_set_same (by rw[h.ls];exact hi),get_set_same (by rw[h.lo];exact hi)]
   exact⟨rfl,hv,hfj⟩
  ·rw[VO e,VO e,hfo i e]
   rcases p3 _ _ hc with h1|⟨h1,_⟩
   ·exact h.yes i hi c h1
   ·exact absurd (key_inj hs hi hj (by rw[hk,h1])) e
theorem d7F{s:Mb}{j:Nat}(hj:j<(ME s).length):Am.get (vns s++qs s.form) j=(Am.get (ME s) j).drop 1:=by
 rw[←Zu,get_map _ hj]
theorem d7G(s:Mb):(vns s++qs s.form).length=(ME s).length:=by rw[←Zu,List.length_map]
theorem nwp{s:Mb}(hs:QT s):wr .i64 ((s.words.length:Int)+(s.Mj.length:Int))=((s.words.length+s.Mj.length:Nat):Int):=by
 have:=Tn s
 have:=hs.len
 rw[Tt (by omega) (by omega)];omega
theorem i5e{s:Mb}(hs:QT s):wr .i64 (wr .i64 ((s.words.length:Int)+(s.Mj.length:Int))+(s.parts.length:Int))=((s.words.length+s.Mj.length+s.parts.length:Nat):Int):=by
 have:=Tn s
 have:=hs.len
 rw[nwp hs,Tt (by omega) (by omega)];omega
theorem d5q{k:Int}{n n':Bs}{w w':List Bs}{l l':List LZ}(h:Rk (.mk k n w l)=0)(hq:k=2∨QK k→MI n')(hn:¬(k=2∨QK k)→n'=n)(hw:w'.length=w.length)(hl:l'.length=l.length)(hx:∀x∈w',MI x):Rk (.mk k n' w' l')=0:=by
 have o:=OT h
 refine d4n (by have:=o.1;show 0≤arF k;have h2:((l.length:Nat):Int)=arF k:=this;omega) (by show(l'.length:Int)=arF k;rw[hl];exact o.1) (by show Vl k w'.length;rw[hw];exact o.2.1) hq (fun h=>?_) hx
 show n'=[]
 rw[hn h];exact o.2.2.2.1 h
def i1C(s:Mb)(bs:List Ma):Prop:=∀j,j<(ME s).length→¬(s.words.length+s.Mj.length≤j∧j<s.words.length+s.Mj.length+s.parts.length)→MI (Am.get bs j).text
theorem i5R{s:Mb}{bs:List Ma}(hs:QT s)(hb:d5o s bs)(ht:i1C s bs){x:Bs}(hx:x∈qs s.form):MI (bOf s bs (63::x)).text:=by
 have hkl:=MP s
 obtain⟨q,hq,rfl⟩:=Na.1 hx
 rw[←d5n hq,Xf hs hb.len (by omega)]
 exact ht _ (by omega) (by omega)
theorem i6Q{s:Mb}{bs:List Ma}(hs:QT s)(hb:d5o s bs)(ht:i1C s bs){x:Bs}(hx:x∈s.words):MI (bOf s bs (46::x)).text:=by
 have hkl:=MP s
 obtain⟨q,hq,rfl⟩:=Na.1 hx
 rw[←d5l hq,Xf hs hb.len (by omega)]
 exact ht _ (by omega) (by omega)
theorem i6R{s:Mb}{bs:List Ma}(hs:QT s)(hb:d5o s bs)(ht:i1C s bs){x:Bs}(hx:x∈s.Mj):MI (bOf s bs (33::x)).text:=by
 have hkl:=MP s
 obtain⟨q,hq,rfl⟩:=Na.1 hx
 rw[←d5m hq,Xf hs hb.len (by omega)]
 exact ht _ (by omega) (by omega)
mutual
theorem d4F{s:Mb}{bs:List Ma}(hs:QT s)(hb:d5o s bs)(ht:i1C s bs):∀(f:LZ) (bd:List Bs),WfF f→(∀x∈qs f,x∈qs s.form)→(∀x∈bd,x∈qs s.form)→WfF (Sj s bs f bd)
 | .mk k n w l,bd,h,hqf,hbd=>by
   have h0:=(Qe _).1 h
   have hnn:Rk (.mk k n w l)=0:=h0.1
   have hss:WX l:=h0.2
   have o:=OT hnn
   rw[Sj]
   split
   ·rename_i hp
    exact(d2q hs hb hp.2).1
   ·rename_i hp
    rw[Qe]
    refine⟨d5q hnn (fun hk=>?_) (fun hk=>?_) (List.length_map _) (XK _ _ _ _) (fun x hx=>?_),?_⟩
    ·unfold inm
     by_cases hq:QK k
     ·have e:QK (LZ.mk k n w l).kind:=hq
      rw[if_pos e]
      exact i5R hs hb ht (hqf n (by rw[qs,if_pos hq];simp))
     ·have e:¬QK (LZ.mk k n w l).kind:=hq
      rw[if_neg e]
      split
      ·rename_i hpr
       exact i6R hs hb ht hpr.2
      ·exact o.2.2.1 hk
    ·unfold inm
     have e:¬QK (LZ.mk k n w l).kind:=fun hq=>hk (.inr hq)
     rw[if_neg e,if_neg fun hpr=>hk (.inl hpr.1)];rfl
    ·obtain⟨y,hy,rfl⟩:=List.mem_map.1 hx
     unfold iwd
     split
     ·rename_i hyb
      exact i5R hs hb ht (hbd y hyb)
     ·split
      ·rename_i hyw
       exact i6Q hs hb ht hyw
      ·exact Zs h hy
    ·refine d2r hs hb ht l _ hss (fun x hx=>hqf x (by rw[qs];exact List.mem_append.2 (.inr hx))) (fun x hx=>?_)
     by_cases hq:QK k
     ·rw[if_pos hq]at hx
      rcases List.mem_cons.1 hx with rfl|hx
      ·exact hqf _ (by rw[qs,if_pos hq];simp)
      ·exact hbd x hx
     ·rw[if_neg hq]at hx;exact hbd x hx
theorem d2r{s:Mb}{bs:List Ma}(hs:QT s)(hb:d5o s bs)(ht:i1C s bs):∀(l:List LZ) (bd:List Bs),WX l→(∀x∈qsL l,x∈qs s.form)→(∀x∈bd,x∈qs s.form)→WX (Nx s bs l bd)
 | [],bd,_,_,_=>by rw[Nx,WX];trivial
 |f::l,bd,h,hqf,hbd=>by
  rw[Nx,WX]
  rw[qsL]at hqf
  exact⟨d4F hs hb ht f bd (Nv.1 h f (List.mem_cons_self ..)) (fun x hx=>hqf x (List.mem_append.2 (.inl hx))) hbd,d2r hs hb ht l bd (Nv.2 fun x hx=>Nv.1 h x (List.mem_cons_of_mem _ hx)) (fun x hx=>hqf x (List.mem_append.2 (.inr hx))) hbd⟩
end
def d7H(f:LZ):Prop:=((f.kind=0∧f.name=[])∧f.words.length=0)∧f.subs.length=0
def Uk(s:Mb)(j:Nat):Prop:=s.words.length+s.Mj.length≤j∧j<s.words.length+s.Mj.length+s.parts.length
open Classical in
noncomputable def Ro(s:Mb)(bs:List Ma)(j:Nat):Int:=
 if(Am.get bs j).name≠Am.get (vns s++qs s.form) j then 10
 else if Uk s j then(if(Am.get bs j).text≠ []then 5 else(Wg (Am.get bs j).form).code)
 else if d7H (Am.get bs j).form∧MI (Am.get bs j).text then 0 else 5
theorem i0X{s:Mb}{bs:List Ma}(hl:bs.length=(ME s).length)(h:∀j,j<bs.length→Ro s bs j=0):d5o s bs∧i1C s bs:=by
 have hkl:=MP s
 refine⟨⟨hl,fun j hj=>?_,fun j hj=>?_⟩,fun j hj hp=>?_⟩
 ·have:=h j (by omega)
  unfold Ro at this
  by_cases e:(Am.get bs j).name≠Am.get (vns s++qs s.form) j
  ·rw[if_pos e]at this;exact absurd this (by decide)
  ·rw[Classical.not_not.1 e,d7F hj]
 ·have:=h (s.words.length+s.Mj.length+j) (by omega)
  unfold Ro at this
  by_cases e:(Am.get bs (s.words.length+s.Mj.length+j)).name≠Am.get (vns s++qs s.form) (s.words.length+s.Mj.length+j)
  ·rw[if_pos e]at this;exact absurd this (by decide)
  ·rw[if_neg e,if_pos (show Uk s _ from⟨by omega,by omega⟩)]at this
   by_cases e2:(Am.get bs (s.words.length+s.Mj.length+j)).text≠ []
   ·rw[if_pos e2]at this;exact absurd this (by decide)
   ·rw[if_neg e2]at this
    exact(RN _).1 this
 ·have:=h j (by omega)
  unfold Ro at this
  by_cases e:(Am.get bs j).name≠Am.get (vns s++qs s.form) j
  ·rw[if_pos e]at this;exact absurd this (by decide)
  ·rw[if_neg e,if_neg (show ¬Uk s j from hp)]at this
   by_cases e2:d7H (Am.get bs j).form∧MI (Am.get bs j).text
   ·exact e2.2
   ·rw[if_neg e2]at this;exact absurd this (by decide)
theorem d3z{s:Mb}(hb:SB s)(bs:List Ma):Evt (fun n=>Ov n s bs) (fun r=>∃v,d7k s v∧(v.code≠0→r=(zf,v))∧(v.code=0→bs.length≠(ME s).length→r=(zf,⟨9, -2⟩))∧
 (v.code=0→bs.length=(ME s).length→∀r0,FB (Ro s bs) bs.length r0→r=(zf,r0))∧
 (v.code=0→bs.length=(ME s).length→(∀j,j<bs.length→Ro s bs j=0)→(fits 0 1 (Sj s bs s.form [])=false→r=(zf,⟨1,0⟩))∧(fits 0 1 (Sj s bs s.form [])=true→r=(cf (Sj s bs s.form []),⟨0,0⟩)))):=by
 unfold Ov
 refine Evt.bind (Zo hb) fun v hv=>Evt.cond (fun e=>?_) (fun e=>?_)
 ·have h0:v.code≠0:=by simpa using e
  exact Evt.pure ⟨v,hv,fun _=>rfl,fun h=>absurd h h0,fun h=>absurd h h0,fun h=>absurd h h0⟩
 have h0:v.code=0:=by simpa using e
 have hs:=((hv.code h0).1).good
 have hvl:=Tn s
 have hl:=hs.len
 have hnd:=hs.form.2.1
 have hkl:=MP s
 have hk5:=Uj hs
 have hnl:=d7G s
 have hql:(qs s.form).length≤200:=by rw[d0i];have:=d2a s.form;omega
 have hfl: [s.words,s.Mj,s.parts].flatten=vns s:=by simp[vns]
 unfold Ni
 refine Evt.bind (P:=fun v=>v=vns s) ?_ fun v2 hv2=>Evt.bind (Zm _ s.form (Nat.le_refl _) (by omega)) fun v3 hv3=>?_
 ·unfold Ux
  rw[hfl]
  exact Evt.bind (P:=fun v=>v=vns s) (Evt.chk ⟨by simp,by omega⟩ (Evt.pure rfl)) fun v hv=>Evt.pure hv
 subst hv2 hv3
 have i5a: [vns s,qs s.form].flatten=vns s++qs s.form:=by simp
 refine Evt.bind (P:=fun v=>v=vns s++qs s.form) ?_ fun v5 hv5=>?_
 ·unfold Ux
  rw[i5a]
  exact Evt.chk ⟨by simp,by omega⟩ (Evt.pure rfl)
 subst hv5
 refine Evt.cond (fun e=>?_) (fun e=>?_)
 ·replace e:=bx e
  unfold Mn
  exact Evt.pure ⟨v,hv,fun h=>absurd h0 h,fun _ _=>rfl,fun _ h=>absurd h (by omega),fun _ h=>absurd h (by omega)⟩
 replace e:=bx e
 have hlen:bs.length=(ME s).length:=by omega
 refine Evt.Mw (P:=ExP (fun _=>∀j,j<bs.length→Ro s bs j=0) (fun r=>∃r0,FB (Ro s bs) bs.length r0∧r=(zf,r0))) ((Evt.scan (fun k _=>∀j,j<k→Ro s bs j=0) (fun k r=>Ro s bs k≠0∧r=(zf,⟨Ro s bs k,(k:Int)⟩)) (fun j hj=>absurd hj (Nat.not_lt_zero _)) (fun k u hk hi=>?_)).mono fun e he=>?_) (fun t ht=>?_) (fun r hr=>?_)
 ·have bad:∀c:Int,c≠0→Ro s bs k=c→d6H (fun _:Unit=>∀j,j<k+1→Ro s bs j=0) (fun _:Unit=>False) (fun r=>Ro s bs k≠0∧r=(zf,(⟨Ro s bs k,(k:Int)⟩:Mi))) (Ctl.ret (zf,⟨c,(k:Int)⟩)):=fun c hc h=>⟨by rw[h];exact hc,by rw[h]⟩
  have good:Ro s bs k=0→d6H (fun _:Unit=>∀j,j<k+1→Ro s bs j=0) (fun _:Unit=>False) (fun r:LZ×Mi=>Ro s bs k≠0∧r=(zf,⟨Ro s bs k,(k:Int)⟩)) (Ctl.nxt ()):=fun h j hj=>by
   by_cases ej:j=k
   ·subst ej;exact h
   ·exact hi j (by omega)
  unfold Pq Mn
  simp only[i5e hs,nwp hs,Option.bind_some]
  have hnq:wr .i64 (((s.words.length+s.Mj.length:Nat):Int)+(s.parts.length:Int))=((s.words.length+s.Mj.length+s.parts.length:Nat):Int):=by rw[Tt (by omega) (by omega)];omega
  simp only[hnq]
  refine Evt.chk (by omega) (Evt.cond (fun e=>Evt.pure (bad 10 (by decide) ?_)) (fun e=>?_))
  ·replace e:=bx e
   unfold Ro;rw[if_pos e]
  replace e:=bx e
  have n1:¬(Am.get bs k).name≠Am.get (vns s++qs s.form) k:=fun h=>h e
  have hpart:(bif decide (((s.words.length+s.Mj.length:Nat):Int)≤(k:Int))then decide ((k:Int)<((s.words.length+s.Mj.length+s.parts.length:Nat):Int))else false)=true↔Uk s k:=by
   unfold Uk
   by_cases a:s.words.length+s.Mj.length≤k
   ·rw[decide_eq_true (show((s.words.length+s.Mj.length:Nat):Int)≤(k:Int)by omega),cond_true,decide_eq_true_iff];omega
   ·rw[decide_eq_false (show ¬((s.words.length+s.Mj.length:Nat):Int)≤(k:Int)by omega),cond_false]
    exact⟨fun h=>(by cases h),fun h=>absurd h.1 a⟩
  generalize hP:(bif decide (((s.words.length+s.Mj.length:Nat):Int)≤(k:Int))then decide ((k:Int)<((s.words.length+s.Mj.length+s.parts.length:Nat):Int))else false)=P at hpart
  have j2t:∀b:Bool,b=true→Ro s bs k=5→Evt (fun n=>MQ n k s bs b) (d6H (fun _:Unit=>∀j,j<k+1→Ro s bs j=0) (fun _:Unit=>False) (fun r:LZ×Mi=>Ro s bs k≠0∧r=(zf,⟨Ro s bs k,(k:Int)⟩))):=fun b hb1 h5=>by
   subst hb1
   unfold MQ Mn
   exact Evt.cond (fun _=>Evt.pure (bad 5 (by decide) h5)) (fun e=>by cases e)
  by_cases hpt:Uk s k
  ·have hP1:P=true:=hpart.2 hpt
   subst hP1
   refine Evt.cond (fun e2=>?_) (fun e2=>?_)
   ·have htx:(Am.get bs k).text≠ []:=by simpa using e2
    refine j2t _ e2 ?_
    unfold Ro;rw[if_neg n1,if_pos hpt,if_pos htx]
   ·have htx:¬(Am.get bs k).text≠ []:=by simpa using e2
    refine Evt.bind (P:=fun _=>True) (Evt.gd (fun g=>by cases g) (fun _=>trivial)) fun v15 _=>?_
    unfold MQ Mn
    simp only[i5e hs,nwp hs,hnq,hP,Option.bind_some]
    refine Evt.cond (fun e3=>by cases e3) (fun _=>Evt.cond (fun _=>?_) (fun e3=>by cases e3))
    refine Evt.bind (Qf (Am.get bs k).form) fun w hw=>?_
    subst hw
    have hst:Ro s bs k=(Wg (Am.get bs k).form).code:=by unfold Ro;rw[if_neg n1,if_pos hpt,if_neg htx]
    refine Evt.cond (fun e3=>Evt.pure (bad _ (by simpa using e3) hst)) (fun e3=>Evt.pure (good (hst.trans (by simpa using e3))))
  ·have hP1:P=false:=by
    cases P
    ·rfl
    ·exact absurd (hpart.1 rfl) hpt
   subst hP1
   refine Evt.cond (fun e2=>by simp at e2) (fun _=>?_)
   have hz:(bif (bif (bif decide ((Am.get bs k).form.kind=0)then decide ((Am.get bs k).form.name=[])else false)then decide (((Am.get bs k).form.words.length:Int)=0)else false)then decide (((Am.get bs k).form.subs.length:Int)=0)else false)=true↔d7H (Am.get bs k).form:=by
    unfold d7H
    by_cases a:(Am.get bs k).form.kind=0<;>by_cases b:(Am.get bs k).form.name=[]<;>simp[a,b]
   generalize hZ:(bif (bif (bif decide ((Am.get bs k).form.kind=0)then decide ((Am.get bs k).form.name=[])else false)then decide (((Am.get bs k).form.words.length:Int)=0)else false)then decide (((Am.get bs k).form.subs.length:Int)=0)else false)=Z at hz
   refine Evt.bind (P:=fun v=>Z=true→v=d0M (Am.get bs k).text) (Evt.gd (fun _=>(Uy _).mono fun b hb _=>hb) (fun g h=>by rw[h]at g;simp at g)) fun v15 hv15=>?_
   by_cases hok:d7H (Am.get bs k).form∧MI (Am.get bs k).text
   ·have hZ1:Z=true:=hz.2 hok.1
    subst hZ1
    have hv1:v15=true:=(hv15 rfl).trans (d0h hok.2)
    subst hv1
    unfold MQ Mn
    simp only[i5e hs,nwp hs,hnq,hP,Option.bind_some]
    refine Evt.cond (fun e3=>by cases e3) (fun _=>Evt.cond (fun e3=>by cases e3) (fun _=>Evt.pure (good ?_)))
    unfold Ro;rw[if_neg n1,if_neg hpt,if_pos hok]
   ·refine j2t _ ?_ (by unfold Ro;rw[if_neg n1,if_neg hpt,if_neg hok])
    cases hZ2:Z
    ·rfl
    ·have h1:=hv15 hZ2
     have h2:v15=false:=h1.trans (Wq fun hn=>hok ⟨hz.1 hZ2,hn⟩)
     rw[h2];rfl
 ·cases e with
  |ret r=>
   obtain⟨k,_,hk,hi,h1,h2⟩:=he
   exact⟨_,⟨k,hk,hi,h1,rfl⟩,h2⟩
  |nxt t=>exact he
 ·obtain⟨hbn,hbt⟩:=i0X hlen ht
  unfold Pr
  rw[nwp hs]
  have hwf:=d4F hs hbn hbt s.form [] hs.form.1 (fun x hx=>hx) (fun x hx=>by cases hx)
  refine Evt.bind (d9c hs hbn _ s.form (Nat.le_refl _) hs.form.1 (fun x hx=>hx) [] (fun x hx=>by cases hx) (by simp;omega) 1 0 (by omega) (by omega)) fun w hw=>?_
  have hw:w=_:=hw
  subst hw
  refine Evt.cond (fun e2=>?_) (fun e2=>?_)
  ·have hf:fits 0 1 (Sj s bs s.form [])=false:=by simpa using e2
   unfold Mn
   refine Evt.pure ⟨v,hv,fun h=>absurd h0 h,fun _ h=>absurd hlen h,fun _ _ r0 ⟨k,hk,hi,h1,_⟩=>absurd (ht k hk) h1,fun _ _ _=>⟨fun _=>rfl,fun h=>?_⟩⟩
   rw[hf]at h;cases h
  ·have hf:fits 0 1 (Sj s bs s.form [])=true:=by simpa using e2
   have hf2:=of_decide_eq_true hf
   have hok:OkF (Sj s bs s.form []):=⟨hwf,by omega,by omega⟩
   refine Evt.bind (d0U hok) fun c hc=>?_
   subst hc
   refine Evt.pure ⟨v,hv,fun h=>absurd h0 h,fun _ h=>absurd hlen h,fun _ _ r0 ⟨k,hk,hi,h1,_⟩=>absurd (ht k hk) h1,fun _ _ _=>⟨fun h=>?_,fun _=>rfl⟩⟩
   rw[hf]at h;cases h
 ·obtain⟨r0,h1,h2⟩:=hr
  refine⟨v,hv,fun h=>absurd h0 h,fun _ h=>absurd hlen h,fun _ _ r1 hr1=>?_,fun _ _ hall=>?_⟩
  ·rw[h2,h1.uniq hr1]
  ·obtain⟨k,hk,_,h3,_⟩:=h1
   exact absurd (hall k hk) h3
def Yc(s:Mb)(e:Env):List Ma:=(ME s).map fun k=>⟨k.drop 1,txE e k,fmE e k⟩
theorem d1d{s:Mb}(hs:QT s){e:Env}{j:Nat}(hj:j<(ME s).length){b:Ma}(hb:assoc (Am.get (ME s) j) e=some b):(bOf s (Yc s e) (Am.get (ME s) j)).text=b.text∧(bOf s (Yc s e) (Am.get (ME s) j)).form=b.form:=by
 rw[Xf hs (bs:=Yc s e) (List.length_map _) hj]
 unfold Yc
 rw[get_map _ hj]
 unfold txE fmE
 rw[hb]
 exact⟨rfl,rfl⟩
section
variable {s:Mb} {e:Env}
theorem i3k(hs:QT s){x:Bs}(hx:x∈qs s.form){b:Ma}(hb:assoc (63::x) e=some b):(bOf s (Yc s e) (63::x)).text=b.text:=by
 have hkl:=MP s
 obtain⟨q,hq,rfl⟩:=Na.1 hx
 rw[←d5n hq]at hb⊢
 exact(d1d hs (by omega) hb).1
theorem i5f(hs:QT s){x:Bs}(hx:x∈s.words){b:Ma}(hb:assoc (46::x) e=some b):(bOf s (Yc s e) (46::x)).text=b.text:=by
 have hkl:=MP s
 obtain⟨q,hq,rfl⟩:=Na.1 hx
 rw[←d5l hq]at hb⊢
 exact(d1d hs (by omega) hb).1
theorem i5g(hs:QT s){x:Bs}(hx:x∈s.Mj){b:Ma}(hb:assoc (33::x) e=some b):(bOf s (Yc s e) (33::x)).text=b.text:=by
 have hkl:=MP s
 obtain⟨q,hq,rfl⟩:=Na.1 hx
 rw[←d5m hq]at hb⊢
 exact(d1d hs (by omega) hb).1
theorem i5h(hs:QT s){x:Bs}(hx:x∈s.parts){b:Ma}(hb:assoc (43::x) e=some b):(bOf s (Yc s e) (43::x)).form=b.form:=by
 have hkl:=MP s
 obtain⟨q,hq,rfl⟩:=Na.1 hx
 rw[←d7B hq]at hb⊢
 exact(d1d hs (by omega) hb).2
theorem d1e(hs:QT s){bd:List Bs}(hbd:∀x∈bd,x∈qs s.form):∀(xs ys:List Bs) (ps:List Ma),xs.length=ys.length→ptw s.words bd xs ys=some ps→(∀b∈ps,assoc b.name e=some b)→xs.map (iwd s (Yc s e) bd)=ys
 | [],[],ps,_,_,_=>rfl
 | [],y::ys,ps,hl,_,_=>by simp at hl
 |x::xs,[],ps,hl,_,_=>by simp at hl
 |x::xs,y::ys,ps,hl,h,hb=>by
  rw[ptw]at h
  have hl2:xs.length=ys.length:=by simpa using hl
  have mp:∀c:Ma,(ptw s.words bd xs ys).map (c:: ·)=some ps→assoc c.name e=some c∧xs.map (iwd s (Yc s e) bd)=ys:=fun c h=>by
   cases hp:ptw s.words bd xs ys with
   |none=>rw[hp]at h;cases h
   |some q=>
    rw[hp]at h;cases h
    exact⟨hb _ (List.mem_cons_self ..),d1e hs hbd xs ys q hl2 hp fun b hm=>hb b (List.mem_cons_of_mem _ hm)⟩
  rw[List.map_cons]
  split at h
  ·rename_i h1
   obtain⟨a1,a2⟩:=mp _ h
   have:iwd s (Yc s e) bd x=y:=by unfold iwd;rw[if_pos h1];exact i3k hs (hbd x h1) a1
   rw[this,a2]
  ·rename_i h1
   split at h
   ·rename_i h2
    obtain⟨a1,a2⟩:=mp _ h
    have:iwd s (Yc s e) bd x=y:=by unfold iwd;rw[if_neg h1,if_pos h2];exact i5f hs h2 a1
    rw[this,a2]
   ·rename_i h2
    split at h
    ·rename_i h3
     have:iwd s (Yc s e) bd x=y:=by unfold iwd;rw[if_neg h1,if_neg h2];exact h3
     rw[this,d1e hs hbd xs ys ps hl2 h hb]
    ·cases h
theorem d9d(hs:QT s):∀(m:Nat) (f:LZ),SizeOf.sizeOf f≤m→WfF f→(∀x∈qs f,x∈qs s.form)→∀g:LZ,WfF g→∀(bd:List Bs),(∀x∈bd,x∈qs s.form)→∀ps,pts s f bd g=some ps→(∀b∈ps,assoc b.name e=some b)→Sj s (Yc s e) f bd=g:=by
 intro m
 induction m with
 |zero=>intro f h;cases f;simp only[LZ.mk.sizeOf_spec]at h;omega
 |succ m ih=>
  intro f hf hwf hqf g hwg bd hbd ps h hb
  have hnf:=OT ((Qe f).1 hwf).1
  have hng:=OT ((Qe g).1 hwg).1
  rw[d4x]at h
  rw[d1b]
  by_cases hp:QU s f
  ·rw[if_pos hp]at h⊢
   cases h
   exact i5h hs hp.2 (hb _ (List.mem_singleton.2 rfl))
  ·rw[if_neg hp]at h⊢
   split at h
   ·cases h
   ·rename_i hc
    obtain⟨hk,hl⟩:=not_or.1 hc
    have hk:=Classical.not_not.1 hk
    have hl:=Classical.not_not.1 hl
    obtain⟨x1,y1,h1,h2,rfl⟩:=VN h
    obtain⟨x2,y2,h3,h4,rfl⟩:=VN h2
    have hsl:f.subs.length=g.subs.length:=by have:=hnf.1;have:=hng.1;rw[hk]at *; omega
    have en:inm s (Yc s e) f=g.name:=by
     unfold inm
     unfold pth at h1
     by_cases hq:QK f.kind
     ·rw[if_pos hq]at h1⊢
      cases h1
      exact i3k hs (hqf _ (by rw[d0N,if_pos hq];simp)) (hb _ (List.mem_append.2 (.inl (List.mem_singleton.2 rfl))))
     ·rw[if_neg hq]at h1⊢
      by_cases hpr:f.kind=2∧f.name∈s.Mj
      ·rw[if_pos hpr]at h1⊢
       cases h1
       exact i5g hs hpr.2 (hb _ (List.mem_append.2 (.inl (List.mem_singleton.2 rfl))))
      ·rw[if_neg hpr]at h1⊢
       by_cases he:f.name=g.name
       ·exact he
       ·rw[if_neg he]at h1;cases h1
    have ew:=d1e hs hbd _ _ _ hl h3 fun b hm=>hb b (List.mem_append.2 (.inr (List.mem_append.2 (.inl hm))))
    have i5d:∀x∈(if QK f.kind then f.name::bd else bd),x∈qs s.form:=fun x hx=>by
     by_cases hq:QK f.kind
     ·rw[if_pos hq]at hx
      rcases List.mem_cons.1 hx with rfl|hx
      ·exact hqf _ (by rw[d0N,if_pos hq];simp)
      ·exact hbd x hx
     ·rw[if_neg hq]at hx;exact hbd x hx
    have parts:∀(l gs:List LZ) (bd:List Bs) (ps:List Ma),(∀x∈bd,x∈qs s.form)→(∀y∈l,SizeOf.sizeOf y≤m∧WfF y)→(∀x∈qsL l,x∈qs s.form)→(∀y∈gs,WfF y)→l.length=gs.length→Ya s l bd gs=some ps→(∀b∈ps,assoc b.name e=some b)→Nx s (Yc s e) l bd=gs:=by
     intro l
     induction l with
     |nil=>
      intro gs bd ps _ _ _ _ hl _ _
      rw[Nx]
      exact(List.length_eq_zero_iff.1 hl.symm).symm
     |cons a l ihl=>
      intro gs bd ps hbd ha hq hg hl h hb
      cases gs with
      |nil=>simp at hl
      |cons b gs=>
       rw[Ya]at h
       rw[qsL]at hq
       obtain⟨x,y,e1,e2,rfl⟩:=VN h
       rw[Nx,ih a (ha a (List.mem_cons_self ..)).1 (ha a (List.mem_cons_self ..)).2 (fun z hz=>hq z (List.mem_append.2 (.inl hz))) b (hg b (List.mem_cons_self ..)) bd hbd x e1 (fun c hc=>hb c (List.mem_append.2 (.inl hc))),
        ihl gs bd y hbd (fun z hz=>ha z (List.mem_cons_of_mem _ hz)) (fun z hz=>hq z (List.mem_append.2 (.inr hz))) (fun z hz=>hg z (List.mem_cons_of_mem _ hz)) (by simpa using hl) e2 (fun c hc=>hb c (List.mem_append.2 (.inr hc)))]
    have es:=parts f.subs g.subs _ y2 i5d (fun y hy=>by
     obtain⟨j,hj,rfl⟩:=Na.1 hy
     have:=Oi hj
     exact⟨by omega,Uh hwf hj⟩) (fun x hx=>hqf x (by rw[d0N];exact List.mem_append.2 (.inr hx))) (fun y hy=>by
     obtain⟨j,hj,rfl⟩:=Na.1 hy
     exact Uh hwg hj) hsl h4 (fun b hm=>hb b (List.mem_append.2 (.inr (List.mem_append.2 (.inr hm)))))
    rw[en,ew,es,hk]
    exact d4C g
end
def d5r(G:LZ)(b:Ma):Prop:=(∀x,b.name=43::x→WfF b.form∧ndF b.form≤ndF G∧dpF b.form≤dpF G)∧((¬ ∃x,b.name=43::x)→MI b.text)
theorem i3l{f:LZ}{k:Nat}(hk:k<f.subs.length):ndF (Am.get f.subs k)≤ndF f∧dpF (Am.get f.subs k)≤dpF f:=by
 have h1:=Tl hk
 rw[WW f,d4j f]
 have:∀(l:List LZ) (k:Nat),k<l.length→dpF (Am.get l k)≤VI l:=by
  intro l
  induction l with
  |nil=>intro k h;simp at h
  |cons a l ih=>
   intro k h
   rw[VI]
   cases k with
   |zero=>exact Nat.le_max_left _ _
   |succ k=>exact Nat.le_trans (ih k (by simpa using h)) (Nat.le_max_right _ _)
 have:=this _ k hk
 omega
theorem i3m(s:Mb)(G:LZ):∀(m:Nat) (f:LZ),SizeOf.sizeOf f≤m→WfF f→∀g:LZ,WfF g→ndF g≤ndF G→dpF g≤dpF G→∀(bd:List Bs) ps,pts s f bd g=some ps→∀b∈ps,d5r G b:=by
 intro m
 induction m with
 |zero=>intro f h;cases f;simp only[LZ.mk.sizeOf_spec]at h;omega
 |succ m ih=>
  intro f hf hwf g hwg hn hd bd ps h
  have hnf:=OT ((Qe f).1 hwf).1
  have hng:=OT ((Qe g).1 hwg).1
  have txt:∀(c:UInt8) (x y:Bs),c≠43→MI y→d5r G ⟨c::x,y,zf⟩:=fun c x y hc hy=>⟨fun z e=>absurd (List.cons.inj e).1 hc,fun _=>hy⟩
  rw[d4x]at h
  by_cases hp:QU s f
  ·rw[if_pos hp]at h
   cases h
   intro b hb
   rw[List.mem_singleton]at hb
   subst hb
   exact⟨fun _ _=>⟨hwg,hn,hd⟩,fun h=>absurd ⟨_,rfl⟩ h⟩
  ·rw[if_neg hp]at h
   split at h
   ·cases h
   ·rename_i hc
    obtain⟨hk,hl⟩:=not_or.1 hc
    have hk:=Classical.not_not.1 hk
    have hl:=Classical.not_not.1 hl
    have hsl:f.subs.length=g.subs.length:=by have:=hnf.1;have:=hng.1;rw[hk]at *; omega
    refine d0l (fun x hx=>?_) (d0l (fun x hx=>?_) (fun x hx=>?_)) ps h
    ·unfold pth at hx
     split at hx
     ·rename_i hq
      cases hx
      intro b hb
      rw[List.mem_singleton]at hb;subst hb
      exact txt _ _ _ (by decide) (hng.2.2.1 (.inr (hk▸hq)))
     ·split at hx
      ·rename_i hq
       cases hx
       intro b hb
       rw[List.mem_singleton]at hb;subst hb
       exact txt _ _ _ (by decide) (hng.2.2.1 (.inl (hk▸hq.1)))
      ·split at hx
       ·cases hx
        intro b hb;cases hb
       ·cases hx
    ·have:∀(xs ys:List Bs),(∀y∈ys,MI y)→∀ps,ptw s.words bd xs ys=some ps→∀b∈ps,d5r G b:=by
      intro xs
      induction xs with
      |nil=>intro ys _ ps h;rw[d7v]at h;cases h;intro b hb;cases hb
      |cons a xs ihx=>
       intro ys hy ps h
       cases ys with
       |nil=>rw[ptw]at h;cases h;intro b hb;cases hb;simp
       |cons y ys=>
        rw[ptw]at h
        have rest:=ihx ys fun z hz=>hy z (List.mem_cons_of_mem _ hz)
        have mp:∀c:Ma,d5r G c→(ptw s.words bd xs ys).map (c:: ·)=some ps→∀b∈ps,d5r G b:=fun c hc h=>by
         cases hp:ptw s.words bd xs ys with
         |none=>rw[hp]at h;cases h
         |some q=>
          rw[hp]at h;cases h
          intro b hb
          rcases List.mem_cons.1 hb with rfl|hb
          ·exact hc
          ·exact rest q hp b hb
        split at h
        ·exact mp _ (txt _ _ _ (by decide) (hy y (List.mem_cons_self ..))) h
        ·split at h
         ·exact mp _ (txt _ _ _ (by decide) (hy y (List.mem_cons_self ..))) h
         ·split at h
          ·exact rest ps h
          ·cases h
     exact this _ _ (fun y hy=>Zs hwg hy) x hx
    ·have:∀(l gs:List LZ),(∀y∈l,SizeOf.sizeOf y≤m∧WfF y)→(∀y∈gs,WfF y∧ndF y≤ndF G∧dpF y≤dpF G)→∀(bd:List Bs) ps,Ya s l bd gs=some ps→∀b∈ps,d5r G b:=by
      intro l
      induction l with
      |nil=>intro gs _ _ bd ps h;rw[Ya]at h;cases h;intro b hb;cases hb
      |cons a l ihl=>
       intro gs ha hg bd ps h
       cases gs with
       |nil=>rw[Ya]at h;cases h;intro b hb;cases hb
       |cons c gs=>
        rw[Ya]at h
        obtain⟨g1,g2,g3⟩:=hg c (List.mem_cons_self ..)
        exact d0l (fun x hx=>ih a (ha a (List.mem_cons_self ..)).1 (ha a (List.mem_cons_self ..)).2 c g1 g2 g3 bd x hx) (fun x hx=>ihl gs (fun z hz=>ha z (List.mem_cons_of_mem _ hz)) (fun z hz=>hg z (List.mem_cons_of_mem _ hz)) bd x hx) ps h
     refine this _ _ (fun y hy=>?_) (fun y hy=>?_) _ x hx
     ·obtain⟨j,hj,rfl⟩:=Na.1 hy
      have:=Oi hj
      exact⟨by omega,Uh hwf hj⟩
     ·obtain⟨j,hj,rfl⟩:=Na.1 hy
      have:=i3l hj
      exact⟨Uh hwg hj,by omega,by omega⟩
theorem d3l{s:Mb}(hb:SB s)(f:LZ):Evt (fun n=>MH n s f) (fun b=>b=true):=by
 unfold MH
 refine Evt.bind Ws fun v hv=>?_
 subst hv
 refine Evt.cond (fun e=>by cases e) (fun _=>?_)
 refine Evt.bind (d7z hb f) fun v2 ⟨w2,hw2,a2,b2,c2⟩=>?_
 refine Evt.cond (fun _=>Evt.pure rfl) (fun e=>?_)
 have e1:v2.2.2.code=0:=Classical.byContradiction fun h=>by simp[h]at e
 have e2:v2.2.1=true:=by
  cases h:v2.2.1
  ·simp[h,e1]at e
  ·rfl
 have h0:w2.code=0:=Classical.byContradiction fun h=>by rw[a2 h]at e1;exact h e1
 have hok:OkF f:=Classical.byContradiction fun h=>by rw[b2 h0 h]at e1;exact h ((RN f).1 e1)
 have hs:=((hw2.code h0).1).good
 have hcf:=i3f hok
 have hv2:=c2 h0 hok
 subst hv2
 have e2:(Yb s (cf f)).2=true:=e2
 have hout:∃ps e,pts s s.form [] (cf f)=some ps∧Sq [] ps=some e∧(Yb s (cf f)).1=Yc s e:=by
  unfold Yb at e2⊢
  cases hq:pts s s.form [] (cf f)with
  |none=>rw[hq]at e2;cases e2
  |some ps=>
   rw[hq]at e2
   cases hr:Sq [] ps with
   |none=>
    have hr2:(some ps).bind (Sq [])=none:=hr
    rw[hr2]at e2;cases e2
   |some e=>
    have hr2:(some ps).bind (Sq [])=some e:=hr
    rw[hr2]at e2
    rw[hr2]
    refine⟨ps,e,rfl,hr,?_⟩
    by_cases hc:caught s e
    ·simp only[if_pos hc]at e2;cases e2
    ·simp only[if_neg hc];rfl
 obtain⟨ps,e,hp,hr,hb1⟩:=hout
 show Evt (fun n=>(Ov n s (Yb s (cf f)).1).bind _) _
 rw[hb1]
 have hget:=VK _ _ _ hr
 have i3n:Sj s (Yc s e) s.form []=cf f:=d9d hs _ s.form (Nat.le_refl _) hs.form.1 (fun x hx=>hx) (cf f) hcf.1 [] (fun x hx=>by cases hx) ps hp hget.1
 have hall:=d7D hs hcf.1 hp hr
 have hgd:=i3m s (cf f) _ s.form (Nat.le_refl _) hs.form.1 (cf f) hcf.1 (Nat.le_refl _) (Nat.le_refl _) [] ps hp
 have i6S:=d2h s s.form [] (cf f) (WfF.sm _ hcf.1) ps hp
 have hlen:(Yc s e).length=(ME s).length:=List.length_map _
 have hkl:=MP s
 have hstep:∀j,j<(Yc s e).length→Ro s (Yc s e) j=0:=fun j hj=>by
  rw[hlen]at hj
  obtain⟨b,hbj⟩:=hall j hj
  have hg:Am.get (Yc s e) j=⟨(Am.get (ME s) j).drop 1,b.text,b.form⟩:=by
   unfold Yc
   rw[get_map _ hj]
   unfold txE fmE
   rw[hbj];rfl
  have hmem:b∈ps∧b.name=Am.get (ME s) j:=by
   rcases hget.2.2 _ _ hbj with h|⟨c,hc,h1,h2⟩
   ·cases h
   ·subst h2;exact⟨hc,h1⟩
  obtain⟨g1,g2⟩:=hgd b hmem.1
  obtain⟨o1,o2⟩:=i6S b hmem.1
  unfold Ro
  rw[hg]
  show(if(Am.get (ME s) j).drop 1≠_ then _ else _)=(0:Int)
  rw[if_neg fun h=>h (d7F hj).symm]
  rcases Xe hj with⟨h1,k1⟩|⟨a,h1,rfl,k1⟩|⟨a,h1,rfl,k1⟩|⟨a,h1,rfl,k1⟩
  ·have hn:¬ ∃x,b.name=43::x:=fun⟨x,hx⟩=>by rw[hmem.2,k1]at hx;exact absurd (List.cons.inj hx).1 (by decide)
   rw[if_neg (show ¬Uk s _ from fun h=>by unfold Uk at h;omega)]
   have hz:b.form=zf:=by
    rcases o2 with⟨x,hx,_⟩|⟨_,_,_,_,h⟩
    ·exact absurd ⟨x,hx⟩ hn
    ·exact h
   rw[if_pos ⟨by rw[hz];exact⟨⟨⟨rfl,rfl⟩,rfl⟩,rfl⟩,g2 hn⟩]
  ·have hn:¬ ∃x,b.name=43::x:=fun⟨x,hx⟩=>by rw[hmem.2,k1]at hx;exact absurd (List.cons.inj hx).1 (by decide)
   rw[if_neg (show ¬Uk s _ from fun h=>by unfold Uk at h;omega)]
   have hz:b.form=zf:=by
    rcases o2 with⟨x,hx,_⟩|⟨_,_,_,_,h⟩
    ·exact absurd ⟨x,hx⟩ hn
    ·exact h
   rw[if_pos ⟨by rw[hz];exact⟨⟨⟨rfl,rfl⟩,rfl⟩,rfl⟩,g2 hn⟩]
  ·have hx:b.name=43::Am.get s.parts a:=hmem.2.trans k1
   rw[if_pos (show Uk s _ from⟨by omega,by omega⟩)]
   have ht:b.text=[]:=by
    rcases o2 with⟨x,_,h⟩|⟨c,x,h1,hc,_⟩
    ·exact h
    ·rw[hx]at h1
     have:=(List.cons.inj h1).1
     rcases hc with rfl|rfl|rfl<;>cases this
   obtain⟨q1,q2,q3⟩:=g1 _ hx
   have:OkF b.form:=⟨q1,by have:=hcf.2.1;omega,by have:=hcf.2.2;omega⟩
   rw[if_neg fun h=>h ht,WY this]
  ·have hn:¬ ∃x,b.name=43::x:=fun⟨x,hx⟩=>by rw[hmem.2,k1]at hx;exact absurd (List.cons.inj hx).1 (by decide)
   rw[if_neg (show ¬Uk s _ from fun h=>by unfold Uk at h;omega)]
   have hz:b.form=zf:=by
    rcases o2 with⟨x,hx,_⟩|⟨_,_,_,_,h⟩
    ·exact absurd ⟨x,hx⟩ hn
    ·exact h
   rw[if_pos ⟨by rw[hz];exact⟨⟨⟨rfl,rfl⟩,rfl⟩,rfl⟩,g2 hn⟩]
 have hfit:fits 0 1 (Sj s (Yc s e) s.form [])=true:=by
  rw[i3n]
  have:=hcf.2.1
  have:=hcf.2.2
  exact decide_eq_true (by omega)
 refine Evt.bind (d3z hb (Yc s e)) fun v3 ⟨w3,hw3,_,_,_,d3⟩=>Evt.bind (d2n f) fun v4 h4=>?_
 obtain rfl:=hw3.uniq hw2
 have r3:=(d3 h0 hlen hstep).2 hfit
 rw[i3n,i5c hok]at r3
 have r4:=h4.2 hok
 subst r3 r4
 refine Evt.bind (P:=fun v=>v=true) (Evt.gd (fun _=>d0Y _ _ (Nat.le_refl _) (WfF.sm _ hcf.1)) (fun h=>by simp at h)) fun v hv=>Evt.pure ?_
 subst hv
 simp
end Go.Proofs.YtdjnbjnlnjhllaaDoor
