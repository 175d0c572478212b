import Derived.Test.YtdjnbjnlnjhllaaGreatDoorFMLaw3
set_option linter.unusedVariables false
set_option linter.unusedSimpArgs false
namespace Go.Proofs.YtdjnbjnlnjhllaaGreatDoor
open Go Go.Am
theorem r3B(s:i8I):(i9I s).map (·.drop 1)=vns s++qs s.form:=by
 unfold i9I vns
 simp only[List.map_append,List.map_map]
 have:∀(c:UInt8) (l:List Bs),l.map ((fun x:Bs=>x.drop 1)∘fun x=>c::x)=l:=fun c l=>by
  induction l with
  |nil=>rfl
  |cons a l ih=>rw[List.map_cons,ih];rfl
 rw[this,this,this,this]
theorem r5i{α:Type}[Inhabited α]{a b:List α}{i:Nat}(h:i<a.length):Am.get (a++b) i=Am.get a i:=by
 unfold Am.get
 rw[List.getD_eq_getElem?_getD,List.getD_eq_getElem?_getD,List.getElem?_append_left h]
theorem r5j{α:Type}[Inhabited α]{a b:List α}{i:Nat}:Am.get (a++b) (a.length+i)=Am.get b i:=by
 unfold Am.get
 rw[List.getD_eq_getElem?_getD,List.getD_eq_getElem?_getD,List.getElem?_append_right (by omega)]
 congr 2;omega
theorem u5F{s:i8I}{i:Nat}(h:i<s.words.length):Am.get (i9I s) i=46::Am.get s.words i:=by
 unfold i9I
 rw[List.append_assoc,List.append_assoc,r5i (by rw[List.length_map];exact h),get_map _ h]
theorem u7S{s:i8I}{i:Nat}(h:i<s.i8M.length):Am.get (i9I s) (s.words.length+i)=33::Am.get s.i8M i:=by
 unfold i9I
 have e:s.words.length=(s.words.map (46:: ·)).length:=(List.length_map _).symm
 rw[List.append_assoc,List.append_assoc,e,r5j,r5i (by rw[List.length_map];exact h),get_map _ h]
theorem u7T{s:i8I}{i:Nat}(h:i<s.parts.length):Am.get (i9I s) (s.words.length+s.i8M.length+i)=43::Am.get s.parts i:=by
 unfold i9I
 have e:s.words.length+s.i8M.length=(s.words.map (46:: ·)++s.i8M.map (33:: ·)).length:=by simp
 rw[List.append_assoc,e,r5j,r5i (by rw[List.length_map];exact h),get_map _ h]
theorem u3C{s:i8I}{i:Nat}(h:i<(qs s.form).length):Am.get (i9I s) (s.words.length+s.i8M.length+s.parts.length+i)=63::Am.get (qs s.form) i:=by
 unfold i9I
 have e:s.words.length+s.i8M.length+s.parts.length=(s.words.map (46:: ·)++s.i8M.map (33:: ·)++s.parts.map (43:: ·)).length:=by simp only[List.length_append,List.length_map]
 rw[e,r5j,get_map _ h]
theorem p6D(s:i8I):(i9I s).length=s.words.length+s.i8M.length+s.parts.length+(qs s.form).length:=by
 unfold i9I;simp only[List.length_append,List.length_map]
theorem r3C{s:i8I}{i:Nat}(h:i<(i9I s).length):
 (i<s.words.length∧Am.get (i9I s) i=46::Am.get s.words i)∨(∃j,j<s.i8M.length∧i=s.words.length+j∧Am.get (i9I s) i=33::Am.get s.i8M j)∨
 (∃j,j<s.parts.length∧i=s.words.length+s.i8M.length+j∧Am.get (i9I s) i=43::Am.get s.parts j)∨(∃j,j<(qs s.form).length∧i=s.words.length+s.i8M.length+s.parts.length+j∧Am.get (i9I s) i=63::Am.get (qs s.form) j):=by
 rw[p6D]at h
 by_cases h1:i<s.words.length
 ·exact .inl ⟨h1,u5F h1⟩
 ·by_cases h2:i<s.words.length+s.i8M.length
  ·obtain⟨j,rfl⟩:∃j,i=s.words.length+j:=⟨i-s.words.length,by omega⟩
   exact .inr (.inl ⟨j,by omega,rfl,u7S (by omega)⟩)
  ·by_cases h3:i<s.words.length+s.i8M.length+s.parts.length
   ·obtain⟨j,rfl⟩:∃j,i=s.words.length+s.i8M.length+j:=⟨i-(s.words.length+s.i8M.length),by omega⟩
    exact .inr (.inr (.inl ⟨j,by omega,rfl,u7T (by omega)⟩))
   ·obtain⟨j,rfl⟩:∃j,i=s.words.length+s.i8M.length+s.parts.length+j:=⟨i-(s.words.length+s.i8M.length+s.parts.length),by omega⟩
    exact .inr (.inr (.inr ⟨j,by omega,rfl,u3C (by omega)⟩))
theorem key_inj{s:i8I}(hs:p7X s){i j:Nat}(hi:i<(i9I s).length)(hj:j<(i9I s).length)(h:Am.get (i9I s) i=Am.get (i9I s) j):i=j:=by
 have hvl:=p4K s
 have hu:∀a b,a<(vns s).length→b<(vns s).length→Am.get (vns s) a=Am.get (vns s) b→a=b:=fun a b ha hb e=>by
  rcases Nat.lt_trichotomy a b with h|h|h
  ·exact absurd e (hs.uniq a b h hb)
  ·exact h
  ·exact absurd e.symm (hs.uniq b a h ha)
 have hq:∀a b,a<(qs s.form).length→b<(qs s.form).length→Am.get (qs s.form) a=Am.get (qs s.form) b→a=b:=fun a b ha hb e=>by
  rcases Nat.lt_trichotomy a b with h|h|h
  ·exact absurd ((p6C (by omega)).2 ⟨a,h,e⟩) (hs.u4n b hb).1
  ·exact h
  ·exact absurd ((p6C (by omega)).2 ⟨b,h,e.symm⟩) (hs.u4n a ha).1
 rcases r3C hi with⟨h1,e1⟩|⟨a,h1,rfl,e1⟩|⟨a,h1,rfl,e1⟩|⟨a,h1,rfl,e1⟩<;>
 rcases r3C hj with⟨h2,e2⟩|⟨b,h2,rfl,e2⟩|⟨b,h2,rfl,e2⟩|⟨b,h2,rfl,e2⟩<;>
 rw[e1,e2]at h<;>
 (first
  |exact absurd (List.cons.inj h).1 (by decide)
  |skip)
 ·have:=(List.cons.inj h).2
  exact hu _ _ (by omega) (by omega) (by rw[r3y h1,r3y h2];exact this)
 ·have:=(List.cons.inj h).2
  exact hu _ _ (by omega) (by omega) (by rw[r1b h1,r1b h2];exact this)
 ·have:=(List.cons.inj h).2
  exact hu _ _ (by omega) (by omega) (by rw[r1c h1,r1c h2];exact this)
 ·have:=(List.cons.inj h).2
  rw[hq _ _ h1 h2 this]
theorem r5k{a b:Option (List i8H)}{ps:List i8H}(h:cat a b=some ps):∃x y,a=some x∧b=some y∧ps=x++y:=by
 unfold cat at h
 cases a with
 |none=>cases h
 |some x=>
  cases b with
  |none=>cases h
  |some y=>exact⟨x,y,rfl,rfl,(Option.some.inj h).symm⟩
theorem u1U{W bd:List Bs}:∀ {xs ys:List Bs} {ps:List i8H},xs.length=ys.length→ptw W bd xs ys=some ps→∀x∈xs,(x∈bd→∃b∈ps,b.name=63::x)∧(x∉bd→x∈W→∃b∈ps,b.name=46::x)
 | [],ys,ps,_,h,x,hx=>by cases hx
 |a::xs,[],ps,hl,h,x,hx=>by simp at hl
 |a::xs,y::ys,ps,hl,h,x,hx=>by
  rw[ptw]at h
  have hl2:xs.length=ys.length:=by simpa using hl
  have mp:∀c:i8H,(ptw W bd xs ys).map (c:: ·)=some ps→c∈ps∧∃q,ptw W bd xs ys=some q∧∀b∈q,b∈ps:=fun c h=>by
   cases hp:ptw W bd xs ys with
   |none=>rw[hp]at h;cases h
   |some q=>
    rw[hp]at h;cases h
    exact⟨List.mem_cons_self ..,q,rfl,fun b hb=>List.mem_cons_of_mem _ hb⟩
  have tail:∀q,ptw W bd xs ys=some q→(∀b∈q,b∈ps)→x∈xs→(x∈bd→∃b∈ps,b.name=63::x)∧(x∉bd→x∈W→∃b∈ps,b.name=46::x):=fun q hq hs hx=>by
   obtain⟨h1,h2⟩:=u1U hl2 hq x hx
   exact⟨fun h=>let ⟨b,hb,e⟩:=h1 h;⟨b,hs b hb,e⟩,fun h h'=>let ⟨b,hb,e⟩:=h2 h h';⟨b,hs b hb,e⟩⟩
  split at h
  ·rename_i hb
   obtain⟨h1,q,h2,h3⟩:=mp _ h
   rcases List.mem_cons.1 hx with rfl|hx
   ·exact⟨fun _=>⟨_,h1,rfl⟩,fun hn=>absurd hb hn⟩
   ·exact tail q h2 h3 hx
  ·rename_i hb
   split at h
   ·rename_i hw
    obtain⟨h1,q,h2,h3⟩:=mp _ h
    rcases List.mem_cons.1 hx with rfl|hx
    ·exact⟨fun hn=>absurd hn hb,fun _ _=>⟨_,h1,rfl⟩⟩
    ·exact tail q h2 h3 hx
   ·rename_i hw
    split at h
    ·rcases List.mem_cons.1 hx with rfl|hx
     ·exact⟨fun hn=>absurd hn hb,fun _ hn=>absurd hn hw⟩
     ·exact tail ps h (fun b hb=>hb) hx
    ·cases h
def Cov(s:i8I)(f:i8F)(bd:List Bs)(ps:List i8H):Prop:=
 (∀x,fre f bd x→x∈s.words→∃b∈ps,b.name=46::x)∧(∀x∈qs f,∃b∈ps,b.name=63::x)∧(∀x,(p8D (i9g f) x∨p8e (i9g f) x)→x∈s.i8M→x∉s.parts→∃b∈ps,b.name=33::x)∧(∀x,p8e (i9g f) x→x∈s.parts→∃b∈ps,b.name=43::x)
def u8M(s:i8I)(l:List i8F)(bd:List Bs)(ps:List i8H):Prop:=
 (∀x,p7W l bd x→x∈s.words→∃b∈ps,b.name=46::x)∧(∀x∈qsL l,∃b∈ps,b.name=63::x)∧(∀x,(p8D (p0r l) x∨p8e (p0r l) x)→x∈s.i8M→x∉s.parts→∃b∈ps,b.name=33::x)∧(∀x,p8e (p0r l) x→x∈s.parts→∃b∈ps,b.name=43::x)
theorem u8M.nil{s:i8I}{bd:List Bs}{ps:List i8H}:u8M s [] bd ps:=by
 refine⟨fun x h=>?_,fun x h=>?_,fun x h=>?_,fun x h=>?_⟩
 ·rw[p7W]at h;exact h.elim
 ·rw[qsL]at h;cases h
 ·rw[p0r]at h;rcases h with⟨g,hg,_⟩|⟨g,hg,_⟩<;>cases hg
 ·rw[p0r]at h;obtain⟨g,hg,_⟩:=h;cases hg
theorem u5G(s:i8I):∀(m:Nat) (f:i8F),SizeOf.sizeOf f≤m→WfF f→∀(g:i8F),WfF g→∀(bd:List Bs) (ps:List i8H),pts s f bd g=some ps→Cov s f bd ps:=by
 intro m
 induction m with
 |zero=>intro f h;cases f;simp only[i8F.mk.sizeOf_spec]at h;omega
 |succ m ih=>
  intro f hf hwf g hwg bd ps h
  have hnf:=p3F ((p4O f).1 hwf).1
  have hng:=p3F ((p4O g).1 hwg).1
  rw[u1G]at h
  by_cases hp:p6f s f
  ·rw[if_pos hp]at h
   cases h
   have hk:f.kind=2:=hp.1.1
   have hnk:¬QK f.kind:=by rw[hk];decide
   have hsub:f.subs=[]:=List.length_eq_zero_iff.1 (by have:=hnf.1;rw[hk]at this;have e:arF 2=0:=(by decide);omega)
   have hwd:f.words=[]:=List.length_eq_zero_iff.1 hp.1.2
   have hfl:i9g f=[f]:=by rw[p7N,hsub,p0r]
   refine⟨fun x hx=>?_,fun x hx=>?_,fun x hx h1 h2=>?_,fun x hx h1=>?_⟩
   ·rw[r8o,hwd,hsub,p7W]at hx
    rcases hx with hx|hx
    ·cases hx.1
    ·exact hx.elim
   ·rw[r9p,if_neg hnk,hsub,qsL]at hx;cases hx
   ·rw[hfl,p8D.one,p8e.one]at hx
    have:f.name=x:=by rcases hx with hx|hx<;>exact hx.2.1
    exact absurd (this▸hp.2) h2
   ·rw[hfl,p8e.one]at hx
    exact⟨_,List.mem_singleton.2 rfl,by rw[←hx.2.1]⟩
  ·rw[if_neg hp]at h
   split at h
   ·cases h
   ·rename_i hc
    obtain⟨hk,hl⟩:=not_or.1 hc
    have hk:=Classical.not_not.1 hk
    have hl:=Classical.not_not.1 hl
    obtain⟨x1,y1,h1,h2,rfl⟩:=r5k h
    obtain⟨x2,y2,h3,h4,rfl⟩:=r5k h2
    have hsl:f.subs.length=g.subs.length:=by have:=hnf.1;have:=hng.1;rw[hk]at *; omega
    have parts:∀(l gs:List i8F) (bd:List Bs) (ps:List i8H),(∀y∈l,SizeOf.sizeOf y≤m∧WfF y)→(∀y∈gs,WfF y)→l.length=gs.length→r2i s l bd gs=some ps→u8M s l bd ps:=by
     intro l
     induction l with
     |nil=>intro gs bd ps _ _ _ _;exact u8M.nil
     |cons a l ihl=>
      intro gs bd ps ha hb hl h
      cases gs with
      |nil=>simp at hl
      |cons b gs=>
       rw[r2i]at h
       obtain⟨x,y,e1,e2,rfl⟩:=r5k h
       obtain⟨c1,c2,c3,c4⟩:=ih a (ha a (List.mem_cons_self ..)).1 (ha a (List.mem_cons_self ..)).2 b (hb b (List.mem_cons_self ..)) bd x e1
       obtain⟨d1,d2,d3,d4⟩:=ihl gs bd y (fun z hz=>ha z (List.mem_cons_of_mem _ hz)) (fun z hz=>hb z (List.mem_cons_of_mem _ hz)) (by simpa using hl) e2
       have L:∀ {p:i8H→Prop},(∃b∈x,p b)→∃b∈x++y,p b:=fun⟨b,hb,h⟩=>⟨b,List.mem_append.2 (.inl hb),h⟩
       have R:∀ {p:i8H→Prop},(∃b∈y,p b)→∃b∈x++y,p b:=fun⟨b,hb,h⟩=>⟨b,List.mem_append.2 (.inr hb),h⟩
       refine⟨fun z hz hw=>?_,fun z hz=>?_,fun z hz hw hn=>?_,fun z hz hw=>?_⟩
       ·rw[p7W]at hz
        exact hz.elim (fun h=>L (c1 z h hw)) (fun h=>R (d1 z h hw))
       ·rw[qsL]at hz
        exact(List.mem_append.1 hz).elim (fun h=>L (c2 z h)) (fun h=>R (d2 z h))
       ·rw[p0r,p8D.app,p8e.app]at hz
        rcases hz with(h|h)|(h|h)
        ·exact L (c3 z (.inl h) hw hn)
        ·exact R (d3 z (.inl h) hw hn)
        ·exact L (c3 z (.inr h) hw hn)
        ·exact R (d3 z (.inr h) hw hn)
       ·rw[p0r,p8e.app]at hz
        exact hz.elim (fun h=>L (c4 z h hw)) (fun h=>R (d4 z h hw))
    obtain⟨d1,d2,d3,d4⟩:=parts f.subs g.subs _ y2 (fun y hy=>by
     obtain⟨j,hj,rfl⟩:=p1x.1 hy
     have:=p0V hj
     exact⟨by omega,p6B hwf hj⟩) (fun y hy=>by
     obtain⟨j,hj,rfl⟩:=p1x.1 hy
     exact p6B hwg hj) hsl h4
    have H:∀ {p:i8H→Prop},(∃b∈x1,p b)→∃b∈x1++(x2++y2),p b:=fun⟨b,hb,h⟩=>⟨b,List.mem_append.2 (.inl hb),h⟩
    have W:∀ {p:i8H→Prop},(∃b∈x2,p b)→∃b∈x1++(x2++y2),p b:=fun⟨b,hb,h⟩=>⟨b,List.mem_append.2 (.inr (List.mem_append.2 (.inl hb))),h⟩
    have S:∀ {p:i8H→Prop},(∃b∈y2,p b)→∃b∈x1++(x2++y2),p b:=fun⟨b,hb,h⟩=>⟨b,List.mem_append.2 (.inr (List.mem_append.2 (.inr hb))),h⟩
    refine⟨fun x hx hw=>?_,fun x hx=>?_,fun x hx hw hn=>?_,fun x hx hw=>?_⟩
    ·rw[r8o]at hx
     rcases hx with hx|hx
     ·exact W ((u1U hl h3 x hx.1).2 hx.2 hw)
     ·exact S (d1 x hx hw)
    ·rw[r9p]at hx
     rcases List.mem_append.1 hx with hx|hx
     ·by_cases hq:QK f.kind
      ·rw[if_pos hq,List.mem_singleton]at hx
       subst hx
       unfold pth at h1
       rw[if_pos hq]at h1
       cases h1
       exact H ⟨_,List.mem_singleton.2 rfl,rfl⟩
      ·rw[if_neg hq]at hx;cases hx
     ·exact S (d2 x hx)
    ·rw[p7N, ←List.singleton_append,p8D.app,p8e.app,p8D.one,p8e.one]at hx
     have hd:f.kind=2→f.name=x→∃b∈x1,b.name=33::x:=fun e1 e2=>by
      have hnq:¬QK f.kind:=by rw[e1];decide
      unfold pth at h1
      rw[if_neg hnq,if_pos ⟨e1,by rw[e2];exact hw⟩]at h1
      cases h1
      exact⟨_,List.mem_singleton.2 rfl,by rw[e2]⟩
     rcases hx with(h|h)|(h|h)
     ·exact H (hd h.1 h.2.1)
     ·exact S (d3 x (.inl h) hw hn)
     ·exact H (hd h.1 h.2.1)
     ·exact S (d3 x (.inr h) hw hn)
    ·rw[p7N, ←List.singleton_append,p8e.app,p8e.one]at hx
     rcases hx with h|h
     ·exact absurd ⟨⟨h.1,h.2.2⟩,by rw[h.2.1];exact hw⟩ hp
     ·exact S (d4 x h hw)
theorem u1V{s:i8I}(hs:p7X s){g:i8F}(hg:WfF g){ps:List i8H}{e:Env}(hp:pts s s.form [] g=some ps)(he:p4s [] ps=some e):∀j,j<(i9I s).length→∃b,assoc (Am.get (i9I s) j) e=some b:=fun j hj=>by
 obtain⟨c1,c2,c3,c4⟩:=u5G s _ s.form (Nat.le_refl _) hs.form.1 g hg [] ps hp
 have fin:∀k,(∃b∈ps,b.name=k)→∃b,assoc k e=some b:=fun k ⟨b,hb,hk⟩=>⟨b,by rw[←hk];exact(r1d _ _ _ he).1 b hb⟩
 have hvl:=p4K s
 rcases r3C hj with⟨h1,e1⟩|⟨a,h1,rfl,e1⟩|⟨a,h1,rfl,e1⟩|⟨a,h1,rfl,e1⟩<;>rw[e1]
 ·exact fin _ (c1 _ (hs.words _ (get_mem h1)) (get_mem h1))
 ·refine fin _ (c3 _ (hs.i8M _ (get_mem h1)) (get_mem h1) fun hq=>?_)
  obtain⟨b,hb,e⟩:=p1x.1 hq
  exact hs.uniq (s.words.length+a) (s.words.length+s.i8M.length+b) (by omega) (by omega) (by rw[r1b h1,r1c hb,e])
 ·exact fin _ (c4 _ (hs.parts _ (get_mem h1)).2 (get_mem h1))
 ·exact fin _ (c2 _ (get_mem h1))
theorem get_set_same{α:Type}[Inhabited α]{l:List α}{j:Nat}{v:α}(h:j<l.length):Am.get (l.set j v) j=v:=by
 unfold Am.get
 rw[List.getD_eq_getElem?_getD,List.getElem?_set_self h];rfl
theorem p8v{α:Type}[Inhabited α]{l:List α}{i j:Nat}{v:α}(h:i≠j):Am.get (l.set j v) i=Am.get l i:=by
 unfold Am.get
 rw[List.getD_eq_getElem?_getD,List.getD_eq_getElem?_getD,List.getElem?_set_ne (Ne.symm h)]
structure Rel(s:i8I)(RG:List IT)(env:Env)(out:List i8H)(st:List Bool)(frm:List Int):Prop where
 ok:p9z env
 lo:out.length=(i9I s).length
 ls:st.length=(i9I s).length
 lf:frm.length=(i9I s).length
 no:∀j,j<(i9I s).length→assoc (Am.get (i9I s) j) env=none→Am.get st j=false∧Am.get out j=default
 yes:∀j,j<(i9I s).length→∀b,assoc (Am.get (i9I s) j) env=some b→Am.get st j=true∧Am.get out j=⟨(Am.get (i9I s) j).drop 1,b.text,b.form⟩∧((∃x,Am.get (i9I s) j=43::x)→∃(p:Nat) (ar:List Bs),Am.get frm j=(p:Int)∧p5n RG b.form ar p∧WfF b.form)
theorem Rel.put{s:i8I}(hs:p7X s){RG:List IT}{env env':Env}{out:List i8H}{st:List Bool}{frm fr':List Int}(h:Rel s RG env out st frm){b:i8H}{j:Nat}(hj:j<(i9I s).length)(hk:Am.get (i9I s) j=b.name)(hb:r1e b)(hp:p8S env b=some env'){v:i8H}(hv:v=⟨(Am.get (i9I s) j).drop 1,b.text,b.form⟩)
 (hfl:fr'.length=(i9I s).length) (hfo:∀i,i≠j→Am.get fr' i=Am.get frm i) (hfj:(∃x,Am.get (i9I s) j=43::x)→∃(p:Nat) (ar:List Bs),Am.get fr' j=(p:Int)∧p5n RG b.form ar p∧WfF b.form):
 Rel s RG env' (out.set j v) (st.set j true) fr':=by
 obtain⟨p1,p2,p3⟩:=p9N hp
 refine⟨r7D h.ok hb hp,by rw[List.length_set];exact h.lo,by rw[List.length_set];exact h.ls,hfl,fun i hi hn=>?_,fun i hi c hc=>?_⟩
 ·by_cases e:i=j
  ·subst e
   rw[hk,p1]at hn;cases hn
  ·rw[p8v e,p8v e]
   refine h.no i hi ?_
   cases ha:assoc (Am.get (i9I s) i) env with
   |none=>rfl
   |some c=>rw[p2 _ _ ha]at hn;cases hn
 ·by_cases e:i=j
  ·subst e
   rw[hk,p1]at hc
   cases hc
   rw[get_set_same (by rw[h.ls];exact hi),get_set_same (by rw[h.lo];exact hi)]
   exact⟨rfl,hv,hfj⟩
  ·rw[p8v e,p8v e,hfo i e]
   rcases p3 _ _ hc with h1|⟨h1,_⟩
   ·exact h.yes i hi c h1
   ·exact absurd (key_inj hs hi hj (by rw[hk,h1])) e
theorem u1W{s:i8I}{j:Nat}(hj:j<(i9I s).length):Am.get (vns s++qs s.form) j=(Am.get (i9I s) j).drop 1:=by
 rw[←r3B,get_map _ hj]
theorem p8w(s:i8I):(vns s++qs s.form).length=(i9I s).length:=by rw[←r3B,List.length_map]
theorem r8M{s:i8I}(hs:p7X s){RG:List IT}{env:Env}{out:List i8H}{st:List Bool}{frm:List Int}(h:Rel s RG env out st frm){c:UInt8}(hc:c=33∨c=46∨c=63){x:Bs}(y:Bs){j:Nat}(hj:j<(i9I s).length)(hk:Am.get (i9I s) j=c::x):
 (p8S env ⟨c::x,y,zf⟩=none∧Am.get st j=true∧(Am.get out j).text≠y)∨(∃env',p8S env ⟨c::x,y,zf⟩=some env'∧¬(Am.get st j=true∧(Am.get out j).text≠y)∧Rel s RG env' (out.set j ⟨Am.get (vns s++qs s.form) j,y,zf⟩) (st.set j true) frm):=by
 have hne:¬ ∃x,Am.get (i9I s) j=43::x:=fun⟨z,e⟩=>by
  rw[hk]at e
  have:=(List.cons.inj e).1
  rcases hc with rfl|rfl|rfl<;>cases this
 have mkR:∀env',p8S env ⟨c::x,y,zf⟩=some env'→Rel s RG env' (out.set j ⟨Am.get (vns s++qs s.form) j,y,zf⟩) (st.set j true) frm:=fun env' hp=>
  h.put hs hj hk (r7F hc) hp (by rw[u1W hj]) h.lf (fun _ _=>rfl) (fun hx=>absurd hx hne)
 cases ha:assoc (c::x) env with
 |none=>
  have hp:p8S env ⟨c::x,y,zf⟩=some (i9J (c::x) ⟨c::x,y,zf⟩ env):=by unfold p8S;simp only[ha]
  refine .inr ⟨_,hp,fun h1=>?_,mkR _ hp⟩
  rw[(h.no j hj (by rw[hk];exact ha)).1]at h1
  cases h1.1
 |some b'=>
  obtain⟨y1,y2,_⟩:=h.yes j hj b' (by rw[hk];exact ha)
  have e2:(Am.get out j).text=b'.text:=by rw[y2]
  obtain⟨n1,n2⟩:=h.ok _ _ ha
  have hiff:b'=⟨c::x,y,zf⟩↔b'.text=y:=by
   constructor
   ·intro e;rw[e]
   ·intro e
    rcases n2.2 with⟨z,e1,_⟩|⟨c',z,e1,hc',e3⟩
    ·rw[n1]at e1
     have:=(List.cons.inj e1).1
     rcases hc with rfl|rfl|rfl<;>cases this
    ·cases b'
     simp only at n1 e3 e
     rw[n1,e,e3]
  by_cases hb:b'.text=y
  ·have hp:p8S env ⟨c::x,y,zf⟩=some env:=by
    unfold p8S
    simp only[ha]
    rw[if_pos (hiff.2 hb)]
   exact .inr ⟨_,hp,fun h1=>h1.2 (e2.trans hb),mkR _ hp⟩
  ·have hp:p8S env ⟨c::x,y,zf⟩=none:=by
    unfold p8S
    simp only[ha]
    rw[if_neg fun e=>hb (hiff.1 e)]
   exact .inl ⟨hp,y1,by rw[e2];exact hb⟩
theorem nwp{s:i8I}(hs:p7X s):wr .i64 ((s.words.length:Int)+(s.i8M.length:Int))=((s.words.length+s.i8M.length:Nat):Int):=by
 have:=p4K s
 have:=hs.len
 rw[p0D (by omega) (by omega)];omega
theorem w0J{s:i8I}(hs:p7X s):wr .i64 (wr .i64 ((s.words.length:Int)+(s.i8M.length:Int))+(s.parts.length:Int))=((s.words.length+s.i8M.length+s.parts.length:Nat):Int):=by
 have:=p4K s
 have:=hs.len
 rw[nwp hs,p0D (by omega) (by omega)];omega
theorem r8N(s:i8I):(vns s++qs s.form).drop (s.words.length+s.i8M.length+s.parts.length)=qs s.form:=by
 rw[←p4K,List.drop_left]
theorem u5H{s:i8I}(hs:p7X s){RG:List IT}{env:Env}{out:List i8H}{st:List Bool}{frm:List Int}(h:Rel s RG env out st frm){c:UInt8}(hc:c=33∨c=46∨c=63){x:Bs}{j:Nat}(hj:j<(i9I s).length)(hk:Am.get (i9I s) j=c::x)
 {s0:List i8H×List Bool×List Int×Int×Int} {p k:Nat} (hp:s0.2.2.2.1=(p:Int)) (hkw:k<(Am.get RG p).words.length) (hw3:(Am.get RG p).words.length≤3):
 Evt (fun _=>i8W (out,st,(k:Int)) RG s0 (vns s++qs s.form) (j:Int)) (fun r=>(∃env' o' s',p8S env ⟨c::x,Am.get (Am.get RG p).words k,zf⟩=some env'∧r= .nxt (o',s',((k+1:Nat):Int))∧Rel s RG env' o' s' frm)∨(p8S env ⟨c::x,Am.get (Am.get RG p).words k,zf⟩=none∧r= .ret (.ret ([],[],false)))):=by
 have hlo:=h.lo
 have hls:=h.ls
 have hnl:=p8w s
 unfold i8W
 simp only[hp,Int.toNat_natCast]
 refine Evt.cond (fun _=>?_) (fun e=>by replace e:=bx e;omega)
 refine Evt.chk (by omega) (Evt.chk (i9v fun _=>by omega) (Evt.chk (by omega) (Evt.chk (i9v fun _=>by omega) ?_)))
 rcases r8M hs h hc (Am.get (Am.get RG p).words k) hj hk with⟨q1,q2,q3⟩|⟨env',q1,q2,q3⟩
 ·refine Evt.cond (fun _=>Evt.pure (.inr ⟨q1,rfl⟩)) (fun e=>?_)
  rw[q2]at e
  simp[q3]at e
 ·refine Evt.cond (fun e=>?_) (fun _=>Evt.p1m (Evt.chk (by omega) (Evt.chk (by omega) (Evt.chk (by omega) (Evt.p1m (Evt.pure (.inl ⟨env',_,_,q1,?_,q3⟩)))))))
  ·exfalso
   refine q2 ?_
   cases hst:Am.get st j
   ·rw[hst]at e;cases e
   ·rw[hst]at e
    refine⟨rfl,?_⟩
    simpa using e
  ·have hw:wr .i64 ((k:Int)+1)=((k+1:Nat):Int):=by rw[p0D (by omega) (by omega)];rfl
   rw[hw];rfl
theorem u1X{s:i8I}(hs:p7X s){RS RG:List IT}{f g:i8F}(hwf:WfF f)(hwg:WfF g)(hl:f.words.length=g.words.length){bd:List Bs}(hbd:∀x∈bd,x∈qs s.form){i p:Nat}(hiS:i<RS.length)(hpG:p<RG.length){e1 e2:Int}{bG:List Bool}
 (hS:Am.get RS i=⟨f.kind,f.name,f.words,f.words.map (fun x=>decide (x∈bd)),e1⟩) (hG:Am.get RG p=⟨g.kind,g.name,g.words,bG,e2⟩) {s0:List i8H×List Bool×List Int×Int×Int} (hp:s0.2.2.2.1=(p:Int)) (hi:s0.2.2.2.2=(i:Int)) {frm:List Int}
 {env:Env} {out:List i8H} {st:List Bool} (h:Rel s RG env out st frm):
 Evt (fun n=>i9z (i9x n RS s0 s (vns s++qs s.form) RG) n (out,st,0)) (ExP (fun t=>∃env',(ptw s.words bd f.words g.words).bind (p4s env)=some env'∧Rel s RG env' t.1 t.2 frm) (fun r=>r= .ret ([],[],false)∧(ptw s.words bd f.words g.words).bind (p4s env)=none)):=by
 have hvl:=p4K s
 have hsl:=hs.len
 have hkl:=p6D s
 have hw3:=p9w hwg
 have hnl:=p8w s
 have hGw:(Am.get RG p).words=g.words:=by rw[hG]
 refine Evt.p6d f.words.length (fun k t=>t.2.2=(k:Int)∧∃e',Rel s RG e' t.1 t.2.1 frm∧(ptw s.words bd f.words g.words).bind (p4s env)=(ptw s.words bd (f.words.drop k) (g.words.drop k)).bind (p4s e')) _ _ ⟨rfl,env,h,rfl⟩ (fun k t hk ht=>?_) (fun t ht=>?_)
 ·obtain⟨out,st,kk⟩:=t
  obtain⟨ht0,e',hr,ht⟩:=ht
  have ht0:kk=(k:Int):=ht0
  have hr:Rel s RG e' out st frm:=hr
  subst ht0
  have hkg:k<g.words.length:=by omega
  rw[r3x hk,r3x hkg,ptw]at ht
  unfold i9x
  simp only[hi,hp,Int.toNat_natCast,hS]
  refine Evt.cond (fun _=>Evt.chk (by omega) (Evt.chk (by rw[List.length_map];omega) ?_)) (fun e=>by replace e:=bx e;omega)
  rw[get_map _ hk]
  have fin:∀(c:UInt8) (j:Nat),c=33∨c=46∨c=63→j<(i9I s).length→Am.get (i9I s) j=c::Am.get f.words k→(ptw s.words bd f.words g.words).bind (p4s env)=((ptw s.words bd (f.words.drop (k+1)) (g.words.drop (k+1))).map (⟨c::Am.get f.words k,Am.get g.words k,zf⟩:: ·)).bind (p4s e')→
   Evt (fun _=>i8W (out,st,(k:Int)) RG s0 (vns s++qs s.form) (j:Int)) (u0P (fun t=>t.2.2=((k+1:Nat):Int)∧∃e',Rel s RG e' t.1 t.2.1 frm∧(ptw s.words bd f.words g.words).bind (p4s env)=(ptw s.words bd (f.words.drop (k+1)) (g.words.drop (k+1))).bind (p4s e')) (fun t=>∃env',(ptw s.words bd f.words g.words).bind (p4s env)=some env'∧Rel s RG env' t.1 t.2 frm) (fun r=>r= .ret ([],[],false)∧(ptw s.words bd f.words g.words).bind (p4s env)=none)):=by
   intro c j hc hj hkk ht
   rw[r8F]at ht
   have u6l:=u5H hs hr hc hj hkk (s0:=s0) (p:=p) (k:=k) hp (by rw[hGw];exact hkg) (by rw[hGw];exact hw3)
   rw[hGw]at u6l
   refine u6l.mono fun r hr2=>?_
   rcases hr2 with⟨e'',o',s',h1,rfl,h3⟩|⟨h1,rfl⟩
   ·rw[h1]at ht
    exact⟨rfl,e'',h3,ht⟩
   ·rw[h1]at ht
    exact⟨rfl,ht⟩
  by_cases hb:Am.get f.words k∈bd
  ·rw[if_pos hb]at ht
   rw[decide_eq_true hb]
   refine Evt.cond (fun _=>?_) (fun e=>by cases e)
   simp only[w0J hs,Int.toNat_natCast,r8N]
   refine Evt.chk (by omega) ?_
   have hql:(qs s.form).length≤200:=by rw[r0d];have:=r1G s.form;have:=hs.form.2.1;omega
   refine Evt.bind (p5q (qs s.form) (Am.get f.words k) (by omega)) fun v hv=>?_
   rcases hv with⟨hn,_⟩|⟨j,hj,hje,_,rfl⟩
   ·exact absurd (hbd _ hb) hn
   ·have hw:wr .i64 (((s.words.length+s.i8M.length+s.parts.length:Nat):Int)+(j:Int))=((s.words.length+s.i8M.length+s.parts.length+j:Nat):Int):=by rw[p0D (by omega) (by omega)];omega
    rw[hw]
    exact fin 63 _ (.inr (.inr rfl)) (by omega) (by rw[u3C hj,hje]) ht
  ·rw[if_neg hb]at ht
   rw[decide_eq_false hb]
   refine Evt.cond (fun e=>by cases e) (fun _=>?_)
   refine Evt.bind (p5q s.words (Am.get f.words k) (by omega)) fun v hv=>?_
   refine Evt.cond (fun e=>?_) (fun e=>?_)
   ·replace e:=bx e
    refine Evt.bind (p5q s.words (Am.get f.words k) (by omega)) fun v2 hv2=>?_
    have hm:Am.get f.words k∈s.words:=hv.mem.1 e
    rw[if_pos hm]at ht
    rcases hv2 with⟨hn,_⟩|⟨j,hj,hje,_,rfl⟩
    ·exact absurd hm hn
    ·exact fin 46 _ (.inr (.inl rfl)) (by omega) (by rw[u5F hj,hje]) ht
   ·replace e:=bx e
    have hm:Am.get f.words k∉s.words:=fun hm=>by have:=hv.mem.2 hm;omega
    rw[if_neg hm]at ht
    rw[hGw]
    refine Evt.chk (by omega) (Evt.cond (fun e=>Evt.pure ?_) (fun e=>?_))
    ·replace e:=bx e
     rw[if_neg e]at ht
     exact⟨rfl,ht⟩
    ·replace e:=bx e
     rw[if_pos e]at ht
     unfold i8W
     refine Evt.cond (fun e=>by replace e:=bx e;omega) (fun _=>Evt.pure ⟨?_,e',hr,ht⟩)
     show wr .i64 ((k:Int)+1)=_
     rw[p0D (by omega) (by omega)];rfl
 ·obtain⟨out,st,kk⟩:=t
  obtain⟨ht0,e',hr,ht⟩:=ht
  have ht0:kk=(f.words.length:Int):=ht0
  subst ht0
  unfold i9x
  simp only[hi,Int.toNat_natCast,hS]
  refine Evt.cond (fun e=>by replace e:=bx e;omega) (fun _=>Evt.pure ⟨e',?_,hr⟩)
  rw[List.drop_length,u1K]at ht
  exact ht
structure u6m(s:i8I)(RS RG:List IT):Prop where
 hs:p7X s
 lS:RS.length≤1000
 lG:RG.length≤1000
 wG:∀it∈RG,it.words.length≤3
abbrev MSt:=List i8H×List Bool×List Int×Int×Int
abbrev u7U:=Ctl (List i8H×List Int×Bool) MSt (List i8H×List Int)
theorem r2c{a b:Option (List i8H)}{env:Env}:(cat a b).bind (p4s env)=(a.bind (p4s env)).bind fun e=>b.bind (p4s e):=r5f a b env
section
variable {s:i8I} {RS RG:List IT}
theorem u3D(E:u6m s RS RG){f g:i8F}(hwf:WfF f)(hwg:WfF g){bd ar:List Bs}{i p:Nat}(hS:p5n RS f bd i)(hG:p5n RG g ar p)(hpart:p6f s f){env:Env}{out:List i8H}{st:List Bool}{frm:List Int}(h:Rel s RG env out st frm):
 Evt (fun n=>i8Z n RS s RG (vns s++qs s.form) (out,st,frm,(p:Int),(i:Int))) (fun c:u7U=>(∃env' o' s' f',p8S env ⟨43::f.name,[],g⟩=some env'∧c= .nxt (o',s',f',((p+ndF g:Nat):Int),((i+1:Nat):Int))∧Rel s RG env' o' s' f')∨(p8S env ⟨43::f.name,[],g⟩=none∧c= .ret ([],[],false))):=by
 have hs:=E.hs
 have hvl:=p4K s
 have hsl:=hs.len
 have hkl:=p6D s
 have hnl:=p8w s
 have hlS:=E.lS
 have hlG:=E.lG
 have hlo:=h.lo
 have hls:=h.ls
 have hlf:=h.lf
 obtain⟨hiS,u7V,_⟩:=(p5l RS f bd i).1 hS
 obtain⟨hpG,u2n,_⟩:=(p5l RG g ar p).1 hG
 have w2W:=hG.le
 unfold i8Z
 simp only[Int.toNat_natCast,u7V,nwp hs]
 refine Evt.cond (fun _=>Evt.chk (by omega) ?_) (fun e=>by replace e:=bx e;omega)
 obtain⟨⟨hk2,hw0⟩,hpm⟩:=hpart
 refine Evt.bind (P:=fun v=>0≤v) (Evt.gd (fun _=>(p5q s.parts f.name (by omega)).mono fun v hv=>hv.mem.2 hpm) (fun hh=>by simp[hk2,hw0]at hh)) fun v0 hv0=>?_
 refine Evt.cond (fun _=>?_) (fun e=>by simp[hk2,hw0,hv0]at e)
 refine Evt.bind (p5q s.parts f.name (by omega)) fun v hv=>?_
 rcases hv with⟨hn,_⟩|⟨q,hq,hqe,_,rfl⟩
 ·exact absurd hpm hn
 have hJ:s.words.length+s.i8M.length+q<(i9I s).length:=by omega
 have hkey:Am.get (i9I s) (s.words.length+s.i8M.length+q)=43::f.name:=by rw[u7T hq,hqe]
 have hw:wr .i64 (((s.words.length+s.i8M.length:Nat):Int)+(q:Int))=((s.words.length+s.i8M.length+q:Nat):Int):=by rw[p0D (by omega) (by omega)];omega
 simp only[hw,Int.toNat_natCast]
 generalize hJd:s.words.length+s.i8M.length+q=J at hJ hkey
 have j7:∀o' s' f',Evt (fun _:Nat=>i9G (out,st,frm,(p:Int),(i:Int)) RG (o',s',f')) (fun c:u7U=>c= .nxt (o',s',f',((p+ndF g:Nat):Int),((i+1:Nat):Int))):=fun o' s' f'=>by
  unfold i9G
  simp only[Int.toNat_natCast,u2n]
  refine Evt.chk (by omega) (Evt.pure ?_)
  rw[p0D (by omega) (by omega)];rfl
 have w2a:r1e ⟨43::f.name,[],g⟩:=⟨WfF.sm g hwg,.inl ⟨f.name,rfl,rfl⟩⟩
 cases ha:assoc (43::f.name) env with
 |none=>
  obtain⟨n1,n2⟩:=h.no J hJ (by rw[hkey];exact ha)
  have hp:p8S env ⟨43::f.name,[],g⟩=some (i9J (43::f.name) ⟨43::f.name,[],g⟩ env):=by unfold p8S;simp only[ha]
  simp only[n1]
  refine Evt.chk (by omega) (Evt.chk (i9v fun hh=>(by cases hh)) (Evt.chk (by omega) (Evt.chk (i9v fun hh=>(by cases hh)) (Evt.chk ⟨i9v fun hh=>(by cases hh),i9v fun hh=>(by cases hh)⟩ (Evt.chk ⟨i9v fun hh=>(by cases hh),i9v fun hh=>(by cases hh),i9v fun hh=>(by cases hh),i9v fun hh=>(by cases hh)⟩ (Evt.chk ⟨i9v fun hh=>(by cases hh),i9v fun hh=>(by cases hh)⟩ (Evt.chk ⟨i9v fun hh=>(by cases hh),i9v fun hh=>(by cases hh),i9v fun hh=>(by cases hh),i9v fun hh=>(by cases hh)⟩ ?_)))))))
  refine Evt.bind (P:=fun _=>True) (Evt.gd (fun hh=>(by cases hh)) (fun _=>trivial)) fun v _=>?_
  refine Evt.cond (fun e=>by simp at e) (fun _=>Evt.cond (fun _=>?_) (fun e=>by simp at e))
  refine Evt.p1m (Evt.chk (by omega) (Evt.p1m (Evt.chk (by omega) (Evt.bind (u1T (by omega) _ g (Nat.le_refl _) hwg ar p hG) fun v hv=>Evt.chk (by omega) (Evt.p1m ?_)))))
  subst hv
  refine(j7 _ _ _).mono fun c hc=>.inl ⟨_,_,_,_,hp,hc,?_⟩
  refine h.put hs hJ hkey w2a hp (by rw[u1W hJ]) (by rw[List.length_set];exact hlf) (fun a ha=>p8v ha) (fun _=>⟨p,ar,get_set_same (by omega),hG,hwg⟩)
 |some b'=>
  obtain⟨y1,y2,y3⟩:=h.yes J hJ b' (by rw[hkey];exact ha)
  obtain⟨p',ar',z1,z2,z3⟩:=y3 ⟨_,hkey⟩
  obtain⟨hp',hit',_⟩:=(p5l RG b'.form ar' p').1 z2
  have hle':=z2.le
  obtain⟨n1,n2⟩:=h.ok _ _ ha
  have htx:b'.text=[]:=by
   rcases n2.2 with⟨z,e1,e2⟩|⟨c',z,e1,hc',e2⟩
   ·exact e2
   ·rw[n1]at e1
    have:=(List.cons.inj e1).1
    rcases hc' with rfl|rfl|rfl<;>cases this
  have hiff:b'=⟨43::f.name,[],g⟩↔b'.form=g:=by
   constructor
   ·intro e;rw[e]
   ·intro e
    cases b'
    simp only at n1 htx e
    rw[n1,htx,e]
  simp only[y1,z1,Int.toNat_natCast,hit',u2n]
  refine Evt.chk (by omega) (Evt.chk (i9v fun _=>by omega) (Evt.chk (by omega) (Evt.chk (i9v fun _=>by omega) (Evt.chk ⟨i9v fun _=>by omega,i9v fun _=>by omega⟩ (Evt.chk ⟨i9v fun _=>(by omega),i9v fun _=>(by omega),i9v fun _=>(by omega),i9v fun _=>(by omega)⟩ (Evt.chk ⟨i9v fun _=>by omega,i9v fun _=>by omega⟩ (Evt.chk ⟨i9v fun _=>(by omega),i9v fun _=>(by omega),i9v fun _=>(by omega),i9v fun _=>(by omega)⟩ ?_)))))))
  have s1:p'+ndF b'.form-p'=ndF b'.form:=by omega
  have s2:p+ndF g-p=ndF g:=by omega
  rw[s1,s2]
  refine Evt.bind (P:=fun v=>v=true↔b'.form=g) (Evt.gd (fun _=>(r6z (by rw[List.length_take,List.length_drop];omega) (fun it hit=>by have:=E.wG it (List.mem_of_mem_drop (List.mem_of_mem_take hit));omega)).mono fun v hv=>?_) (fun hh=>(by cases hh))) fun v hv=>?_
  ·rw[hv,decide_eq_true_iff,u4r z2,u4r hG]
   refine⟨fun e=>?_,fun e=>by rw[e]⟩
   exact(u3B _ b'.form (Nat.le_refl _) z3 g hwg [] [] (by rw[e])).1
  by_cases hb:b'.form=g
  ·have hv1:=hv.2 hb
   subst hv1
   have hp:p8S env ⟨43::f.name,[],g⟩=some env:=by
    unfold p8S
    simp only[ha]
    rw[if_pos (hiff.2 hb)]
   refine Evt.cond (fun e=>by cases e) (fun _=>Evt.cond (fun e=>by cases e) (fun _=>?_))
   exact(j7 _ _ _).mono fun c hc=>.inl ⟨_,_,_,_,hp,hc,h⟩
  ·have hv1:v=false:=by
    cases v
    ·rfl
    ·exact absurd (hv.1 rfl) hb
   subst hv1
   have hp:p8S env ⟨43::f.name,[],g⟩=none:=by
    unfold p8S
    simp only[ha]
    rw[if_neg fun e=>hb (hiff.1 e)]
   exact Evt.cond (fun _=>Evt.pure (.inr ⟨hp,rfl⟩)) (fun e=>by cases e)
end
theorem u9V{s:i8I}(hs:p7X s):wr .i64 (((s.words.length+s.i8M.length:Nat):Int)+(s.parts.length:Int))=((s.words.length+s.i8M.length+s.parts.length:Nat):Int):=by
 have:=p4K s
 have:=hs.len
 rw[p0D (by omega) (by omega)];omega
section
variable {s:i8I} {RS RG:List IT}
theorem u4s(E:u6m s RS RG){f g:i8F}(hwf:WfF f)(hwg:WfF g)(hl:f.words.length=g.words.length){bd ar:List Bs}(hbd:∀x∈bd,x∈qs s.form){i p:Nat}(hS:p5n RS f bd i)(hG:p5n RG g ar p){w2b:List i8H}{st0:List Bool}{frm:List Int}{env:Env}{out:List i8H}{st:List Bool}(h:Rel s RG env out st frm):
 Evt (fun n=>i9H n RS (w2b,st0,frm,(p:Int),(i:Int)) s (vns s++qs s.form) RG (out,st)) (fun c:u7U=>(∃env' o' s',(ptw s.words bd f.words g.words).bind (p4s env)=some env'∧c= .nxt (o',s',frm,((p+1:Nat):Int),((i+1:Nat):Int))∧Rel s RG env' o' s' frm)∨((ptw s.words bd f.words g.words).bind (p4s env)=none∧c= .ret ([],[],false))):=by
 have hlS:=E.lS
 have hlG:=E.lG
 obtain⟨hiS,u7V,_⟩:=(p5l RS f bd i).1 hS
 obtain⟨hpG,u2n,_⟩:=(p5l RG g ar p).1 hG
 unfold i9H
 refine Evt.i8R (u1X E.hs hwf hwg hl hbd hiS hpG u7V u2n rfl rfl h) (fun t ht=>?_) (fun r hr=>?_)
 ·obtain⟨env',h1,h2⟩:=ht
  unfold p1j
  refine Evt.pure (.inl ⟨env',t.1,t.2,h1,?_,h2⟩)
  show Ctl.nxt (t.1,t.2,frm,wr .i64 ((p:Int)+1),wr .i64 ((i:Int)+1))=_
  rw[p0D (n:=(p:Int)+1) (by omega) (by omega),p0D (by omega) (by omega)];rfl
 ·exact .inr ⟨hr.2,hr.1⟩
def u3E(s:i8I)(RG:List IT)(f g:i8F)(bd:List Bs)(p i:Nat)(frm:List Int)(env:Env)(c:u7U):Prop:=
 (∃env' o' s',(f.kind=g.kind∧f.words.length=g.words.length)∧(cat (pth s f g) (ptw s.words bd f.words g.words)).bind (p4s env)=some env'∧c= .nxt (o',s',frm,((p+1:Nat):Int),((i+1:Nat):Int))∧Rel s RG env' o' s' frm)∨
 (((f.kind≠g.kind∨f.words.length≠g.words.length)∨(cat (pth s f g) (ptw s.words bd f.words g.words)).bind (p4s env)=none)∧c= .ret ([],[],false))
theorem u4t(E:u6m s RS RG){f g:i8F}(hwf:WfF f)(hwg:WfF g)(hk:f.kind=g.kind)(hl:f.words.length=g.words.length){bd ar:List Bs}(hbd:∀x∈bd,x∈qs s.form){i p:Nat}(hS:p5n RS f bd i)(hG:p5n RG g ar p){frm:List Int}{env:Env}{out:List i8H}{st:List Bool}(h:Rel s RG env out st frm)
 {c:UInt8} (hc:c=33∨c=63) {j:Nat} (hj:j<(i9I s).length) (hkey:Am.get (i9I s) j=c::f.name) (hpt:pth s f g=some [⟨c::f.name,g.name,zf⟩]):
 Evt (fun n=>i9f n (out,st,frm,(p:Int),(i:Int)) RG (vns s++qs s.form) RS s (j:Int)) (u3E s RG f g bd p i frm env):=by
 have hc3:c=33∨c=46∨c=63:=hc.elim .inl fun h=>.inr (.inr h)
 have hlo:=h.lo
 have hls:=h.ls
 have hnl:=p8w s
 obtain⟨hpG,u2n,_⟩:=(p5l RG g ar p).1 hG
 have hnm:(Am.get RG p).name=g.name:=by rw[u2n]
 unfold i9f u3E
 simp only[Int.toNat_natCast,hnm]
 rw[r2c,hpt]
 have e0:(some [(⟨c::f.name,g.name,zf⟩:i8H)]).bind (p4s env)=p8S env ⟨c::f.name,g.name,zf⟩:=r5g _ _
 rw[e0]
 refine Evt.cond (fun _=>?_) (fun e=>by replace e:=bx e;omega)
 refine Evt.chk (by omega) (Evt.chk (i9v fun _=>by omega) (Evt.chk (by omega) ?_))
 rcases r8M E.hs h hc3 g.name hj hkey with⟨q1,q2,q3⟩|⟨env',q1,q2,q3⟩
 ·refine Evt.cond (fun _=>Evt.pure (.inr ⟨.inr (by rw[q1];rfl),rfl⟩)) (fun e=>?_)
  rw[q2]at e
  simp[q3]at e
 ·refine Evt.cond (fun e=>?_) (fun _=>Evt.p1m (Evt.chk (by omega) (Evt.chk (by omega) (Evt.p1m ?_))))
  ·exfalso
   refine q2 ?_
   cases hst:Am.get st j
   ·rw[hst]at e;cases e
   ·rw[hst]at e
    exact⟨rfl,by simpa using e⟩
  ·rw[q1]
   refine(u4s E hwf hwg hl hbd hS hG q3).mono fun r hr=>?_
   rcases hr with⟨u9W,o',s',h1,h2,h3⟩|⟨h1,h2⟩
   ·exact .inl ⟨u9W,o',s',⟨hk,hl⟩,h1,h2,h3⟩
   ·exact .inr ⟨.inr h1,h2⟩
theorem u3F(E:u6m s RS RG){f g:i8F}(hwf:WfF f)(hwg:WfF g){bd ar:List Bs}(hbd:∀x∈bd,x∈qs s.form)(hqf:∀x∈qs f,x∈qs s.form){i p:Nat}(hS:p5n RS f bd i)(hG:p5n RG g ar p)(hpart:¬p6f s f){frm:List Int}{env:Env}{out:List i8H}{st:List Bool}(h:Rel s RG env out st frm):
 Evt (fun n=>i8Z n RS s RG (vns s++qs s.form) (out,st,frm,(p:Int),(i:Int))) (u3E s RG f g bd p i frm env):=by
 have hs:=E.hs
 have hvl:=p4K s
 have hsl:=hs.len
 have hkl:=p6D s
 have hnl:=p8w s
 have hlS:=E.lS
 have hlG:=E.lG
 have hnf:=p3F ((p4O f).1 hwf).1
 obtain⟨hiS,u7V,_⟩:=(p5l RS f bd i).1 hS
 obtain⟨hpG,u2n,_⟩:=(p5l RG g ar p).1 hG
 have hgk:(Am.get RG p).kind=g.kind:=by rw[u2n]
 have hgw:(Am.get RG p).words=g.words:=by rw[u2n]
 have hgn:(Am.get RG p).name=g.name:=by rw[u2n]
 have hql:(qs s.form).length≤200:=by rw[r0d];have:=r1G s.form;have:=hs.form.2.1;omega
 unfold i8Z
 simp only[Int.toNat_natCast,u7V,nwp hs,u9V hs,r8N]
 refine Evt.cond (fun _=>Evt.chk (by omega) ?_) (fun e=>by replace e:=bx e;omega)
 refine Evt.bind (P:=fun v=>(f.kind=2∧f.words.length=0)→¬0≤v) (Evt.gd (fun _=>(p5q s.parts f.name (by omega)).mono fun v hv hh h0=>hpart ⟨hh,hv.mem.1 h0⟩) (fun hh h1=>by simp[h1.1,h1.2]at hh)) fun v0 hv0=>?_
 refine Evt.cond (fun e=>?_) (fun _=>?_)
 ·exfalso
  replace e:=bx e
  exact hv0 ⟨e.1.1,by omega⟩ e.2
 refine Evt.chk (by omega) ?_
 simp only[hgk,hgw,hgn]
 refine Evt.cond (fun e=>Evt.pure (.inr ⟨.inl ?_,rfl⟩)) (fun e=>?_)
 ·refine Classical.byContradiction fun hh=>?_
  obtain⟨h1,h2⟩:=not_or.1 hh
  have h1:=Classical.not_not.1 h1
  have h2:=Classical.not_not.1 h2
  simp[h1,h2]at e
 have hk:f.kind=g.kind:=Classical.byContradiction fun hh=>by simp[hh]at e
 have hl:f.words.length=g.words.length:=Classical.byContradiction fun hh=>by
  have:¬((f.words.length:Int)=(g.words.length:Int)):=by omega
  simp[this]at e
 refine Evt.cond (fun e=>?_) (fun e=>?_)
 ·replace e:=bx e
  have hq:QK f.kind:=e
  have hm:f.name∈qs s.form:=hqf _ (by rw[r9p,if_pos hq];simp)
  refine Evt.chk (by omega) (Evt.bind (p5q (qs s.form) f.name (by omega)) fun v hv=>?_)
  rcases hv with⟨hn,_⟩|⟨j,hj,hje,_,rfl⟩
  ·exact absurd hm hn
  ·have hw:wr .i64 (((s.words.length+s.i8M.length+s.parts.length:Nat):Int)+(j:Int))=((s.words.length+s.i8M.length+s.parts.length+j:Nat):Int):=by rw[p0D (by omega) (by omega)];omega
   rw[hw]
   exact u4t E hwf hwg hk hl hbd hS hG h (.inr rfl) (by omega) (by rw[u3C hj,hje]) (by unfold pth;rw[if_pos hq])
 ·replace e:=bx e
  have hq:¬QK f.kind:=fun hh=>by unfold QK at hh;omega
  refine Evt.bind (P:=fun v=>f.kind=2→r4r s.i8M f.name v) (Evt.gd (fun _=>(p5q s.i8M f.name (by omega)).mono fun v hv _=>hv) (fun hh h1=>by simp[h1]at hh)) fun v hv=>?_
  refine Evt.cond (fun e=>?_) (fun e=>?_)
  ·replace e:=bx e
   have hm:f.name∈s.i8M:=(hv e.1).mem.1 e.2
   refine Evt.bind (p5q s.i8M f.name (by omega)) fun v2 hv2=>?_
   rcases hv2 with⟨hn,_⟩|⟨j,hj,hje,_,rfl⟩
   ·exact absurd hm hn
   ·have hw:wr .i64 ((s.words.length:Int)+(j:Int))=((s.words.length+j:Nat):Int):=by rw[p0D (by omega) (by omega)];omega
    rw[hw]
    exact u4t E hwf hwg hk hl hbd hS hG h (.inl rfl) (by omega) (by rw[u7S hj,hje]) (by unfold pth;rw[if_neg hq,if_pos ⟨e.1,hm⟩])
  ·have hnp:¬(f.kind=2∧f.name∈s.i8M):=fun hh=>by
    have h0:=(hv hh.1).mem.2 hh.2
    simp[hh.1,h0]at e
   have hpt:pth s f g=if f.name=g.name then some []else none:=by unfold pth;rw[if_neg hq,if_neg hnp]
   refine Evt.cond (fun e=>Evt.pure (.inr ⟨.inr ?_,rfl⟩)) (fun e=>?_)
   ·replace e:=bx e
    rw[r2c,hpt,if_neg e];rfl
   ·replace e:=bx e
    unfold i9f
    refine Evt.cond (fun e=>by replace e:=bx e;omega) (fun _=>?_)
    refine(u4s E hwf hwg hl hbd hS hG h).mono fun r hr=>?_
    unfold u3E
    rw[r2c,hpt,if_pos e]
    rcases hr with⟨u9W,o',s',h1,h2,h3⟩|⟨h1,h2⟩
    ·exact .inl ⟨u9W,o',s',⟨hk,hl⟩,h1,h2,h3⟩
    ·exact .inr ⟨.inr h1,h2⟩
abbrev u1Y(s:i8I)(RS RG:List IT):Nat→MSt→Option u7U:=fun n=>i8Z n RS s RG (vns s++qs s.form)
def w0K(s:i8I)(RS RG:List IT)(o:Option Env)(st:MSt)(p' i':Nat):Prop:=
 (∀env',o=some env'→∃o' s' f',p5O (u1Y s RS RG) st (o',s',f',(p':Int),(i':Int))∧Rel s RG env' o' s' f')∧(o=none→p8P (u1Y s RS RG) st (.ret ([],[],false)))
theorem u1Z(E:u6m s RS RG):∀(m:Nat) (f:i8F),SizeOf.sizeOf f≤m→WfF f→(∀x∈qs f,x∈qs s.form)→∀g:i8F,WfF g→∀(bd ar:List Bs),(∀x∈bd,x∈qs s.form)→∀i p:Nat,p5n RS f bd i→p5n RG g ar p→∀(env:Env) (out:List i8H) (st:List Bool) (frm:List Int),Rel s RG env out st frm→
 w0K s RS RG ((pts s f bd g).bind (p4s env)) (out,st,frm,(p:Int),(i:Int)) (p+ndF g) (i+ndF f):=by
 intro m
 induction m with
 |zero=>intro f h;cases f;simp only[i8F.mk.sizeOf_spec]at h;omega
 |succ m ih=>
  intro f hf hwf hqf g hwg bd ar hbd i p hS hG env out st frm h
  have hnf:=p3F ((p4O f).1 hwf).1
  have hng:=p3F ((p4O g).1 hwg).1
  have w0L:=p9u f
  have w2c:=p9u g
  rw[u1G]
  by_cases hpart:p6f s f
  ·rw[if_pos hpart]
   have hk:f.kind=2:=hpart.1.1
   have hsub:f.subs=[]:=List.length_eq_zero_iff.1 (by have:=hnf.1;rw[hk]at this;have e:arF 2=0:=(by decide);omega)
   have w2d:ndF f=1:=by rw[w0L,hsub,p3T]
   have e0:(some [(⟨43::f.name,[],g⟩:i8H)]).bind (p4s env)=p8S env ⟨43::f.name,[],g⟩:=r5g _ _
   rw[e0,w2d]
   obtain⟨c,hc,N,hN⟩:=u3D E hwf hwg hS hG hpart h
   rcases hc with⟨env',o',s',f',h1,rfl,h3⟩|⟨h1,rfl⟩
   ·rw[h1]
    exact⟨fun e he=>by cases he;exact⟨o',s',f',p5O.one ⟨_,rfl,N,hN⟩,h3⟩,fun he=>by cases he⟩
   ·rw[h1]
    exact⟨fun e he=>(by cases he),fun _=>p8P.ret ⟨_,rfl,N,hN⟩⟩
  ·rw[if_neg hpart]
   obtain⟨c,hc,N,hN⟩:=u3F E hwf hwg hbd hqf hS hG hpart h
   rcases hc with⟨u2m,o1,s1,⟨hk,hl⟩,h1,rfl,h3⟩|⟨h1,rfl⟩
   ·rw[if_neg fun hh=>hh.elim (fun h=>h hk) fun h=>h hl]
    have e1:(cat (pth s f g) (cat (ptw s.words bd f.words g.words) (r2i s f.subs (if QK f.kind then f.name::bd else bd) g.subs))).bind (p4s env)=(r2i s f.subs (if QK f.kind then f.name::bd else bd) g.subs).bind (p4s u2m):=by
     rw[r2c]at h1⊢
     cases hp:(pth s f g).bind (p4s env)with
     |none=>rw[hp]at h1;cases h1
     |some ea=>
      rw[hp]at h1
      have h1:(ptw s.words bd f.words g.words).bind (p4s ea)=some u2m:=h1
      show(cat (ptw s.words bd f.words g.words) _).bind (p4s ea)=_
      rw[r2c,h1];rfl
    rw[e1]
    have hstep:p5O (u1Y s RS RG) (out,st,frm,(p:Int),(i:Int)) (o1,s1,frm,((p+1:Nat):Int),((i+1:Nat):Int)):=p5O.one ⟨_,rfl,N,hN⟩
    have hsl:f.subs.length=g.subs.length:=by have:=hnf.1;have:=hng.1;rw[hk]at *; omega
    have w2e:∀x∈(if QK f.kind then f.name::bd else bd),x∈qs s.form:=fun x hx=>by
     by_cases hq:QK f.kind
     ·rw[if_pos hq]at hx
      rcases List.mem_cons.1 hx with rfl|hx
      ·exact hqf _ (by rw[r9p,if_pos hq];simp)
      ·exact hbd x hx
     ·rw[if_neg hq]at hx;exact hbd x hx
    have hqs:∀x∈qsL f.subs,x∈qs s.form:=fun x hx=>hqf x (by rw[r9p];exact List.mem_append.2 (.inr hx))
    have parts:∀(l gs:List i8F),(∀y∈l,SizeOf.sizeOf y≤m∧WfF y)→(∀y∈gs,WfF y)→l.length=gs.length→(∀x∈qsL l,x∈qs s.form)→∀(bd ar:List Bs),(∀x∈bd,x∈qs s.form)→∀i p:Nat,p4D RS l bd i→p4D RG gs ar p→∀(env:Env) (out:List i8H) (st:List Bool) (frm:List Int),Rel s RG env out st frm→
     w0K s RS RG ((r2i s l bd gs).bind (p4s env)) (out,st,frm,(p:Int),(i:Int)) (p+p3T gs) (i+p3T l):=by
     intro l
     induction l with
     |nil=>
      intro gs _ _ hl _ bd ar _ i p _ _ env out st frm h
      have:gs=[]:=List.length_eq_zero_iff.1 hl.symm
      subst this
      rw[r2i,p3T]
      exact⟨fun e he=>by cases he;exact⟨out,st,frm,p5O.refl,h⟩,fun he=>by cases he⟩
     |cons a l ihl=>
      intro gs ha hb hl hq bd ar hbd i p hS hG env out st frm h
      cases gs with
      |nil=>simp at hl
      |cons b gs=>
       rw[p4D]at hS hG
       rw[qsL]at hq
       rw[r2i,p3T,p3T,r2c, ←Nat.add_assoc, ←Nat.add_assoc]
       obtain⟨c1,c2⟩:=ih a (ha a (List.mem_cons_self ..)).1 (ha a (List.mem_cons_self ..)).2 (fun x hx=>hq x (List.mem_append.2 (.inl hx))) b (hb b (List.mem_cons_self ..)) bd ar hbd i p hS.1 hG.1 env out st frm h
       cases hp:(pts s a bd b).bind (p4s env)with
       |none=>exact⟨fun e he=>(by cases he),fun _=>c2 hp⟩
       |some e1=>
        obtain⟨o',s',f',d1,d2⟩:=c1 e1 hp
        obtain⟨k1,k2⟩:=ihl gs (fun y hy=>ha y (List.mem_cons_of_mem _ hy)) (fun y hy=>hb y (List.mem_cons_of_mem _ hy)) (by simpa using hl) (fun x hx=>hq x (List.mem_append.2 (.inr hx))) bd ar hbd (i+ndF a) (p+ndF b) hS.2 hG.2 e1 o' s' f' d2
        refine⟨fun e he=>?_,fun he=>d1.ends (k2 he)⟩
        obtain⟨o2,s2,f2,m1,m2⟩:=k1 e he
        exact⟨o2,s2,f2,d1.trans m1,m2⟩
    obtain⟨k1,k2⟩:=parts f.subs g.subs (fun y hy=>by
     obtain⟨j,hj,rfl⟩:=p1x.1 hy
     have:=p0V hj
     exact⟨by omega,p6B hwf hj⟩) (fun y hy=>by
     obtain⟨j,hj,rfl⟩:=p1x.1 hy
     exact p6B hwg hj) hsl hqs _ _ w2e (i+1) (p+1) ((p5l RS f bd i).1 hS).2.2 ((p5l RG g ar p).1 hG).2.2 u2m o1 s1 frm h3
    rw[w0L,w2c, ←Nat.add_assoc, ←Nat.add_assoc]
    refine⟨fun e he=>?_,fun he=>hstep.ends (k2 he)⟩
    obtain⟨o2,s2,f2,m1,m2⟩:=k1 e he
    exact⟨o2,s2,f2,hstep.trans m1,m2⟩
   ·have hnone:(if f.kind≠g.kind∨f.words.length≠g.words.length then none else cat (pth s f g) (cat (ptw s.words bd f.words g.words) (r2i s f.subs (if QK f.kind then f.name::bd else bd) g.subs))).bind (p4s env)=none:=by
     by_cases hc:f.kind≠g.kind∨f.words.length≠g.words.length
     ·rw[if_pos hc];rfl
     ·rw[if_neg hc]
      have h1:=h1.resolve_left hc
      rw[r2c]at h1⊢
      cases hp:(pth s f g).bind (p4s env)with
      |none=>rfl
      |some ea=>
       rw[hp]at h1
       have h1:(ptw s.words bd f.words g.words).bind (p4s ea)=none:=h1
       show(cat (ptw s.words bd f.words g.words) _).bind (p4s ea)=_
       rw[r2c,h1];rfl
    rw[hnone]
    exact⟨fun e he=>(by cases he),fun _=>p8P.ret ⟨_,rfl,N,hN⟩⟩
end
theorem r6A{α:Type}[Inhabited α]{n j:Nat}{v:α}(h:j<n):Am.get (List.replicate n v) j=v:=by
 unfold Am.get;simp[h]
theorem w2f(s:i8I)(RG:List IT){n:Nat}(hn:n=(i9I s).length):Rel s RG [] (List.replicate n default) (List.replicate n default) (List.replicate n default):=by
 subst hn
 exact⟨fun k b h=>(by cases h),by simp,by simp,by simp,fun j hj _=>⟨r6A hj,r6A hj⟩,fun j hj b h=>(by cases h)⟩
def u2a(s:i8I)(e:Env):List i8H:=(i9I s).map fun k=>⟨k.drop 1,txE e k,fmE e k⟩
theorem u3G{s:i8I}{RG:List IT}{e:Env}{out:List i8H}{st:List Bool}{frm:List Int}(h:Rel s RG e out st frm)(hall:∀j,j<(i9I s).length→∃b,assoc (Am.get (i9I s) j) e=some b):out=u2a s e:=by
 unfold u2a
 refine r0h (by rw[List.length_map];exact h.lo) fun j hj=>?_
 rw[h.lo]at hj
 rw[get_map _ hj]
 obtain⟨b,hb⟩:=hall j hj
 rw[(h.yes j hj b hb).2.1]
 unfold txE fmE
 rw[hb];rfl
open Classical in
theorem u2b{s:i8I}(hs:p7X s)(e:Env)(frm:List Int):Evt (fun n=>p0n n s (u2a s e,frm)) (fun r=>r=if caught s e then([],[],false)else(u2a s e,frm,true)):=by
 have hvl:=p4K s
 have hsl:=hs.len
 have hkl:=p6D s
 have hql:(qs s.form).length≤200:=by rw[r0d];have:=r1G s.form;have:=hs.form.2.1;omega
 have hol:(u2a s e).length=(i9I s).length:=List.length_map _
 have tw:∀a,a<s.words.length→(Am.get (u2a s e) a).text=txE e (46::Am.get s.words a):=fun a ha=>by
  unfold u2a
  rw[get_map _ (by omega),u5F ha]
 have tv:∀b,b<(qs s.form).length→(Am.get (u2a s e) (s.words.length+s.i8M.length+s.parts.length+b)).text=txE e (63::Am.get (qs s.form) b):=fun b hb=>by
  unfold u2a
  rw[get_map _ (by omega),u3C hb]
 unfold p0n
 refine Evt.i8R (Evt.p6d s.words.length (fun k t=>t=(k:Int)∧∀a,a<k→∀b,b<(qs s.form).length→txE e (46::Am.get s.words a)≠txE e (63::Am.get (qs s.form) b)) (fun _=>¬caught s e) (fun r=>r=([],[],false)∧caught s e) ⟨rfl,fun a ha=>absurd ha (Nat.not_lt_zero _)⟩ (fun k t hk ht=>?_) (fun t ht=>?_)) (fun t ht=>?_) (fun r hr=>?_)
 ·obtain⟨rfl,ht⟩:=ht
  unfold p0d
  rw[w0J hs]
  refine Evt.cond (fun _=>?_) (fun e=>by replace e:=bx e;omega)
  refine Evt.i8R (Evt.p6d (qs s.form).length (fun b t=>t=((s.words.length+s.i8M.length+s.parts.length+b:Nat):Int)∧∀b',b'<b→txE e (46::Am.get s.words k)≠txE e (63::Am.get (qs s.form) b')) (fun _=>∀b',b'<(qs s.form).length→txE e (46::Am.get s.words k)≠txE e (63::Am.get (qs s.form) b')) (fun r=>r= .ret ([],[],false)∧caught s e) ⟨rfl,fun b hb=>absurd hb (Nat.not_lt_zero _)⟩ (fun b t hb hbt=>?_) (fun t hbt=>?_)) (fun u hu=>?_) (fun r hr=>?_)
  ·obtain⟨rfl,hbt⟩:=hbt
   unfold p0e
   simp only[Int.toNat_natCast,tw k hk,tv b hb]
   refine Evt.cond (fun _=>Evt.chk (by omega) (Evt.chk (by omega) (Evt.cond (fun e=>Evt.pure ⟨rfl,?_⟩) (fun e=>Evt.pure ⟨?_,fun b' hb'=>?_⟩)))) (fun e=>by replace e:=bx e;omega)
   ·replace e:=bx e
    exact⟨_,get_mem hk,List.mem_map.2 ⟨_,get_mem hb,e.symm⟩⟩
   ·rw[p0D (by omega) (by omega)];rfl
   ·replace e:=bx e
    by_cases eb:b'=b
    ·subst eb;exact e
    ·exact hbt b' (by omega)
  ·obtain⟨rfl,hbt⟩:=hbt
   unfold p0e
   exact Evt.cond (fun e=>by replace e:=bx e;omega) (fun _=>Evt.pure hbt)
  ·unfold p1k
   refine Evt.pure ⟨by rw[p0D (by omega) (by omega)];rfl,fun a ha b hb=>?_⟩
   by_cases ea:a=k
   ·subst ea;exact hu b hb
   ·exact ht a (by omega) b hb
  ·obtain⟨rfl,hc⟩:=hr
   exact⟨rfl,hc⟩
 ·obtain⟨rfl,ht⟩:=ht
  unfold p0d
  refine Evt.cond (fun e=>by replace e:=bx e;omega) (fun _=>Evt.pure fun⟨w,hw,hc⟩=>?_)
  obtain⟨x,hx,hxe⟩:=List.mem_map.1 hc
  obtain⟨a,ha,rfl⟩:=p1x.1 hw
  obtain⟨b,hb,rfl⟩:=p1x.1 hx
  exact ht a ha b hb hxe.symm
 ·have ht:¬caught s e:=ht
  unfold p1l
  refine Evt.pure ?_
  rw[if_neg ht]
 ·obtain⟨rfl,hc⟩:=hr
  rw[if_pos hc]
theorem u2c{f:i8F}(hwf:WfF f):∀it∈p4B f [] 0,it.words.length≤3:=fun it hit=>by
 obtain⟨j,hj,rfl⟩:=p1x.1 hit
 rw[p4l]at hj
 have ht:=r1I f [] 0 j hj
 rw[ht.2.2.1]
 exact p9w (r0Z f hwf _ (get_mem (by rw[p3f];exact hj)))
theorem r9w{s:i8I}(hs:p7X s){G:i8F}(hG:OkF G){i:Nat}(hi:i<ndF G):Evt (fun n=>p1G n s (p4B G [] 0) (i:Int)) (fun r=>r=p8t s (Am.get (i9g G) i)):=by
 have hnd:=hs.form.2.1
 have hGn:=hG.2.1
 have hkl:=r6x hs
 have hnl:=p8w s
 have hwg:WfF (Am.get (i9g G) i):=r0Z G hG.1 _ (get_mem (by rw[p3f];exact hi))
 obtain⟨ar,hrow⟩:=p5n.node (r3k G []) i hi
 rw[Nat.zero_add]at hrow
 have E:u6m s (p4B s.form [] 0) (p4B G [] 0):=⟨hs,by rw[p4l];omega,by rw[p4l];omega,u2c hG.1⟩
 unfold p1G p2w
 refine Evt.bind (P:=fun r=>(r.1,r.2.2)=p8t s (Am.get (i9g G) i)) (Evt.bind (r3S hs) fun v1 hv1=>?_) fun v hv=>Evt.pure hv
 subst hv1
 refine Evt.chk (by rw[p0q];omega) (Evt.chk (by rw[p0q];omega) (Evt.chk (by rw[p0q];omega) (Evt.bind (r2w hs.form.1 [] (by omega) (by simp)) fun v8 hv8=>?_)))
 subst hv8
 obtain⟨k1,k2⟩:=u1Z E _ s.form (Nat.le_refl _) hs.form.1 (fun x hx=>hx) _ hwg [] ar (fun x hx=>by cases hx) 0 i (r3k s.form []) hrow [] _ _ _ (w2f s (p4B G [] 0) hnl)
 unfold p8t
 cases hp:(pts s s.form [] (Am.get (i9g G) i)).bind (p4s [])with
 |none=>exact Evt.i8R (k2 hp).evt (fun t ht=>by cases ht) (fun r hr=>by cases hr;rfl)
 |some e=>
  obtain⟨o',s',f',m1,m2⟩:=k1 e hp
  have hall:∀j,j<(i9I s).length→∃b,assoc (Am.get (i9I s) j) e=some b:=by
   cases hq:pts s s.form [] (Am.get (i9g G) i)with
   |none=>rw[hq]at hp;cases hp
   |some ps=>rw[hq]at hp;exact u1V hs hwg hq hp
  have ho:=u3G m2 hall
  subst ho
  have hend:p8P (u1Y s (p4B s.form [] 0) (p4B G [] 0)) (u2a s e,s',f',((i+ndF (Am.get (i9g G) i):Nat):Int),((0+ndF s.form:Nat):Int)) (.nxt (u2a s e,f')):=p8P.brk (by
   unfold u1Y i8Z
   refine Evt.cond (fun e=>?_) (fun _=>Evt.pure rfl)
   replace e:=bx e
   have h2:=p4l s.form [] 0
   have e:((0+ndF s.form:Nat):Int)<((p4B s.form [] 0).length:Int):=e
   omega)
  refine Evt.i8R (m1.ends hend).evt (fun t ht=>?_) (fun r hr=>by cases hr)
  cases ht
  refine(u2b hs e f').mono fun r hr=>?_
  rw[hr]
  by_cases hc:caught s e
  ·simp only[if_pos hc]
  ·simp only[if_neg hc];rfl
noncomputable def fl(s:i8I):List i8F→Nat→List i8U
 | [],_=>[]
 |x::l,b=>(if(p8t s x).2 then [⟨(b:Int),(p8t s x).1⟩]else [])++fl s l (b+1)
theorem r8O(s:i8I):∀(a c:List i8F) (b:Nat),fl s (a++c) b=fl s a b++fl s c (b+a.length)
 | [],c,b=>by simp[fl]
 |x::a,c,b=>by rw[List.cons_append,fl,fl,r8O s a c,List.append_assoc,List.length_cons,show b+1+a.length=b+(a.length+1)by omega]
mutual
theorem r8P(s:i8I):∀(g:i8F) (b:Nat),p7O s g b=fl s (i9g g) b
 | .mk k n w l,b=>by rw[p7O,i9g,fl,r6B s l]
theorem r6B(s:i8I):∀(l:List i8F) (b:Nat),p3L s l b=fl s (p0r l) b
 | [],b=>by rw[p3L,p0r];rfl
 |f::l,b=>by rw[p3L,p0r,r8O,r8P s f,r6B s l,p3f]
end
theorem r3D(f:i8F):Am.get (i9g f) 0=f:=by rw[p7N];rfl
theorem r3P{s:i8I}(hb:SB s)(f:i8F):Evt (fun n=>i9N n s f) (fun b=>b=true):=by
 unfold i9N
 refine Evt.bind r0v fun v hv=>?_
 subst hv
 refine Evt.cond (fun e=>by cases e) (fun _=>?_)
 refine Evt.bind (u1Q hb f) fun v2 ⟨w2,hw2,a2,b2,c2⟩=>Evt.bind (u3A hb f) fun v3 ⟨w3,hw3,a3,b3,c3⟩=>Evt.bind (r3Q hb) fun v4 hv4=>?_
 obtain rfl:=hw2.uniq hv4
 obtain rfl:=hw3.uniq hv4
 refine Evt.cond (fun e=>?_) (fun e=>?_)
 ·have h0:w3.code=0:=by simpa using e
  have hs:=((hv4.code h0).1).good
  refine Evt.bind (r2a f) fun v5 hv5=>?_
  subst hv5
  unfold i8Y
  refine Evt.cond (fun e=>Evt.pure ?_) (fun e=>?_)
  ·have hok:¬OkF f:=fun h=>by rw[p9v h]at e;simp at e
   rw[b2 h0 hok,b3 h0 hok]
   simp
  ·have hok:OkF f:=(p6l f).1 (by simpa using e)
   have r2:=c2 h0 hok
   have r3:=c3 h0 hok
   have hcf:=u3y hok
   have hnd:=hcf.2.1
   rw[r8P]at r3
   have hfl:(i9g (cf f)).length=ndF (cf f):=p3f _
   refine Evt.bind (r6s hok) fun v6 hv6=>?_
   subst hv6
   refine Evt.bind (r2w hcf.1 [] (by omega) (by simp)) fun v7 hv7=>?_
   subst hv7
   subst r2 r3
   have u9X:∀l:List i8F,∀b,(fl s l b).length≤l.length:=fun l=>by
    induction l with
    |nil=>intro b;simp[fl]
    |cons x l ih=>
     intro b
     rw[fl,List.length_append,List.length_cons]
     have:=ih (b+1)
     split
     ·simp only[List.length_cons,List.length_nil];omega
     ·simp only[List.length_nil];omega
   refine Evt.i8R (Evt.p6d (ndF (cf f)) (fun k t=>t=(((fl s ((i9g (cf f)).take k) 0).length:Int),(k:Int))) (fun t=>t=((fl s (i9g (cf f)) 0).length:Int)) (fun _=>False) (by simp[fl]) (fun k t hk ht=>?_) (fun t ht=>?_)) (fun t ht=>?_) (fun r hr=>?_)
   ·subst ht
    have hwg:WfF (Am.get (i9g (cf f)) k):=r0Z _ hcf.1 _ (get_mem (by omega))
    have hbo:=r8K hs hwg
    have hrl:(p4B (cf f) [] 0).length=ndF (cf f):=p4l _ _ _
    have hsn:fl s ((i9g (cf f)).take (k+1)) 0=fl s ((i9g (cf f)).take k) 0++(if(p8t s (Am.get (i9g (cf f)) k)).2 then [⟨(k:Int),(p8t s (Am.get (i9g (cf f)) k)).1⟩]else []):=by
     rw[i9n (by omega),r8O,fl,fl,List.append_nil,List.length_take,Nat.min_eq_left (by omega),Nat.zero_add]
    have u4u:fl s (i9g (cf f)) 0=fl s ((i9g (cf f)).take (k+1)) 0++fl s ((i9g (cf f)).drop (k+1)) (0+((i9g (cf f)).take (k+1)).length):=by
     rw[←r8O,List.take_append_drop]
    have hcl:=u9X ((i9g (cf f)).take k) 0
    have w0D:((i9g (cf f)).take k).length≤200:=by rw[List.length_take];omega
    unfold i9i
    refine Evt.cond (fun _=>?_) (fun e=>by replace e:=bx e;omega)
    refine Evt.bind (r9w hs hcf hk) fun v15 hv15=>?_
    subst hv15
    refine Evt.bind (P:=fun v=>k=0→v=true) (Evt.gd (fun g=>?_) (fun g h=>?_)) fun v hv=>?_
    ·by_cases h:k=0
     ·subst h
      rw[r3D]at hbo⊢
      exact(p8u hbo).mono fun b hb _=>hb
     ·exfalso
      have:¬((k:Int)=0):=by omega
      simp[this,h]at g
    ·subst h
     rw[r3D]at g
     simp at g
    refine Evt.cond (fun e=>?_) (fun _=>?_)
    ·exfalso
     by_cases h:k=0
     ·have hv1:=hv h
      subst hv1
      subst h
      rw[r3D]at e
      simp at e
     ·have:¬((k:Int)=0):=by omega
      simp[this,h]at e
    have hwk:wr .i64 ((k:Int)+1)=((k+1:Nat):Int):=by rw[p0D (by omega) (by omega)];rfl
    refine Evt.cond (fun hf=>?_) (fun hf=>Evt.pure ?_)
    ·rw[hf]at hsn
     rw[if_pos rfl]at hsn
     have hlt:(fl s ((i9g (cf f)).take k) 0).length<(fl s (i9g (cf f)) 0).length:=by
      rw[u4u,hsn];simp only[List.length_append,List.length_cons,List.length_nil];omega
     have hgt:Am.get (fl s (i9g (cf f)) 0) (fl s ((i9g (cf f)).take k) 0).length=⟨(k:Int),(p8t s (Am.get (i9g (cf f)) k)).1⟩:=by
      rw[u4u,hsn,List.append_assoc]
      exact r3A _ _ _
     simp only[Int.toNat_natCast,hgt]
     refine Evt.chk ⟨i9v fun _=>by omega,i9v fun _=>by omega⟩ (Evt.chk ⟨i9v fun _=>by omega,i9v fun _=>by omega⟩ ?_)
     have hle:decide (((fl s (i9g (cf f)) 0).length:Int)≤((fl s ((i9g (cf f)).take k) 0).length:Int))=false:=decide_eq_false (by omega)
     refine Evt.bind (P:=fun v=>v=true) (Evt.gd (fun _=>p8u hbo) (fun g=>by rw[hle]at g;simp at g)) fun v hv=>?_
     subst hv
     refine Evt.cond (fun e=>by rw[hle]at e;simp at e) (fun _=>Evt.pure ?_)
     show(_,_)=(_,_)
     rw[hwk,hsn,p0D (by omega) (by omega),List.length_append];rfl
    ·rw[hf]at hsn
     rw[if_neg (by decide),List.append_nil]at hsn
     show(_,_)=(_,_)
     rw[hwk,hsn]
   ·subst ht
    have hrl:(p4B (cf f) [] 0).length=ndF (cf f):=p4l _ _ _
    unfold i9i
    refine Evt.cond (fun e=>by replace e:=bx e;omega) (fun _=>Evt.pure ?_)
    show((fl s ((i9g (cf f)).take (ndF (cf f))) 0).length:Int)=_
    rw[←hfl,List.take_length]
   ·have ht:t=((fl s (i9g (cf f)) 0).length:Int):=ht
    subst ht
    unfold i9y
    refine Evt.pure ?_
    simp
   ·exact False.elim hr
 ·have h0:w3.code≠0:=by simpa using e
  unfold i8Y
  refine Evt.cond (fun _=>Evt.pure ?_) (fun e=>by simp at e;exact absurd e h0)
  rw[a2 h0,a3 h0]
  simp
end Go.Proofs.YtdjnbjnlnjhllaaGreatDoor
