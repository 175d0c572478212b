import Derived.Test.YtonfgoanbllceaaGreatDoorALaw2
import Derived.Test.YtonfgoanbllceaaGreatDoorALcs2
set_option linter.unusedVariables false
set_option linter.unusedSimpArgs false
namespace Go.Proofs.YtonfgoanbllceaaGreatDoor
open Go Go.Am
theorem rA{α:Type}{f:Nat→α→Option Bool}{P:α→Bool→Prop}:∀(l:List α),(∀x∈l,Evt (fun n=>f n x) (P x))→∃N,∀n,N≤n→∀x∈l,∃r,f n x=some r∧P x r
 | [],_=>⟨0,fun _ _ x hx=>by cases hx⟩
 |a::l,h=>by
  obtain⟨N,hN⟩:=rA l fun x hx=>h x (List.mem_cons_of_mem _ hx)
  obtain⟨r,hr,M,hM⟩:=h a (List.mem_cons_self ..)
  refine⟨max N M,fun n hn x hx=>?_⟩
  rcases List.mem_cons.1 hx with rfl|hx
  ·exact⟨r,hM n (by omega),hr⟩
  ·exact hN n (by omega) x hx
open Classical in
noncomputable def aN(x y:w4):Bool:=decide (x=y)
theorem uo{x y:w4}:aN x y=true↔x=y:=by unfold aN;simp
theorem sL{x y:w4}{v:Bool}(h:v=true↔x=y):v=aN x y:=by
 cases v
 ·cases e:aN x y
  ·rfl
  ·exact absurd (h.2 (uo.1 e)) (by decide)
 ·exact(uo.2 (h.1 rfl)).symm
theorem Gr(a b:List w4)(ha:a.length≤100)(hb:b.length≤100):Evt (fun n=>xG n a b) (fun T=>T=Lcs.tab aN a b):=by
 have hx:∀x∈a,∃N,∀n,N≤n→∀y∈b,∃r,R5 n x y=some r∧(r=true↔x=y):=fun x _=>rA b fun y _=>rz x y
 have key:∀l:List w4,(∀x∈l,x∈a)→∃N,∀n,N≤n→∀x∈l,∀y∈b,∃r,R5 n x y=some r∧(r=true↔x=y):=by
  intro l
  induction l with
  |nil=>exact fun _=>⟨0,fun _ _ x hx=>by cases hx⟩
  |cons c l ih=>
   intro hl
   obtain⟨N,hN⟩:=ih fun x hx=>hl x (List.mem_cons_of_mem _ hx)
   obtain⟨M,hM⟩:=hx c (hl c (List.mem_cons_self ..))
   refine⟨max N M,fun n hn x hx y hy=>?_⟩
   rcases List.mem_cons.1 hx with rfl|hx
   ·exact hM n (by omega) y hy
   ·exact hN n (by omega) x hx y hy
 obtain⟨N,hN⟩:=key a fun _ h=>h
 refine⟨_,rfl,N,fun n hn=>?_⟩
 show xG n a b=_
 unfold xG
 rw[gP ⟨by rw[M8];omega,by rw[M8];omega⟩,gP (List.all_eq_true.2 fun x hx=>List.all_eq_true.2 fun y hy=>by
  obtain⟨r,h1,_⟩:=hN n hn x hx y hy
  rw[h1];rfl)]
 refine congrArg some (Lcs.Cj fun x hx y hy=>?_)
 obtain⟨r,h1,h2⟩:=hN n hn x hx y hy
 rw[h1]
 exact sL h2
def jx(a b:List w4)(i k:Int):Prop:=0≤i∧i≤a.length∧0≤k∧k≤b.length
noncomputable def M7(a b:List w4)(i k:Int):Int:=((Lcs.cost aN (a.drop i.toNat) (b.drop k.toNat):Nat):Int)
theorem fz{a:List w4}{i:Int}(h:0≤i)(h2:i<a.length):a.drop i.toNat=Am.get a i.toNat::a.drop (i+1).toNat:=by
 have hi:i.toNat<a.length:=by omega
 rw[List.drop_eq_getElem_cons hi,show(i+1).toNat=i.toNat+1 by omega]
 simp[Am.get,hi]
theorem mw{a:List w4}{i:Int}(h2:(a.length:Int)≤i):a.drop i.toNat=[]:=List.drop_eq_nil_of_le (by omega)
theorem Au{a b:List w4}{i k:Int}(hi:0≤i)(hi2:i<a.length)(hk:0≤k)(hk2:k<b.length)(h:aN (Am.get a i.toNat) (Am.get b k.toNat)=true):M7 a b i k=M7 a b (i+1) (k+1):=by
 unfold M7
 rw[fz hi hi2,fz hk hk2,Lcs.sM _ h]
theorem Av{a b:List w4}{i k:Int}(hi:0≤i)(hi2:i<a.length)(hk:0≤k)(hk2:k<b.length)(h:aN (Am.get a i.toNat) (Am.get b k.toNat)=false)
 (hc:Lcs.lc aN a b i.toNat (k+1).toNat≤Lcs.lc aN a b (i+1).toNat k.toNat):M7 a b i k=1+M7 a b (i+1) k:=by
 unfold M7
 unfold Lcs.lc at hc
 rw[fz hi hi2,fz hk hk2]at*
 rw[Lcs.xH _ h (by omega)]
 omega
theorem Ck{a b:List w4}{i k:Int}(hi:0≤i)(hi2:i<a.length)(hk:0≤k)(hk2:k<b.length)(h:aN (Am.get a i.toNat) (Am.get b k.toNat)=false)
 (hc:¬Lcs.lc aN a b i.toNat (k+1).toNat≤Lcs.lc aN a b (i+1).toNat k.toNat):M7 a b i k=1+M7 a b i (k+1):=by
 unfold M7
 unfold Lcs.lc at hc
 rw[fz hi hi2,fz hk hk2]at*
 rw[Lcs.Aw _ h (by omega)]
 omega
theorem Ax{a b:List w4}{i k:Int}(hi:0≤i)(hi2:i<a.length)(hk2:(b.length:Int)≤k):M7 a b i k=1+M7 a b (i+1) k:=by
 unfold M7
 rw[fz hi hi2,mw hk2,Lcs.nE,Lcs.nE]
 simp only[List.length_cons]
 omega
theorem Ay{a b:List w4}{i k:Int}(hi2:(a.length:Int)≤i)(hk:0≤k)(hk2:k<b.length):M7 a b i k=1+M7 a b i (k+1):=by
 unfold M7
 rw[fz hk hk2,mw hi2,Lcs.iw,Lcs.iw]
 simp only[List.length_cons]
 omega
theorem Cl{a b:List w4}{i k:Int}(hi2:(a.length:Int)≤i)(hk2:(b.length:Int)≤k):M7 a b i k=0:=by
 unfold M7
 rw[mw hk2,mw hi2,Lcs.iw]
 rfl
theorem zl{a b:List w4}{i k:Nat}(hi:i≤a.length)(hk:k≤b.length):Am.get (Am.get (Lcs.tab aN a b) i) k=Lcs.lc aN a b i k:=Lcs.LN hi hk
theorem Ef{a b:List w4}:(Lcs.tab aN a b).length=a.length+1:=Lcs.iJ ..
theorem uP{a b:List w4}{i:Nat}(hi:i≤a.length):(Am.get (Lcs.tab aN a b) i).length=b.length+1:=Lcs.Jf hi
def KX(a b:List w4)(i k:Int):Prop:=i<a.length→k<b.length→aN (Am.get a i.toNat) (Am.get b k.toNat)=false
def LO(a b:List w4)(i k:Int):Prop:=((a.length:Int)≤i∧(b.length:Int)≤k)∨(i<a.length∧k<b.length∧aN (Am.get a i.toNat) (Am.get b k.toNat)=true)
def Az(a b:List w4)(i k x y:Int):Prop:=M7 a b i k=M7 a b x y∧b.take y.toNat=b.take k.toNat++(a.drop i.toNat).take (x-i).toNat
def xI(a b:List w4)(i k d:Int)(u:List w4)(x y:Int):Prop:=M7 a b i k=d+u.length+M7 a b x y∧b.take y.toNat=b.take k.toNat++u
theorem Cm{a b:List w4}{i k x y:Int}(hi:0≤i)(hix:i≤x)(hx:x<a.length)(hy0:0≤y)(hy:y<b.length)(h:aN (Am.get a x.toNat) (Am.get b y.toNat)=true)(h5:Az a b i k x y):Az a b i k (x+1) (y+1):=by
 refine⟨by rw[h5.1,Au (by omega) hx hy0 hy h],?_⟩
 have e1:(y+1).toNat=y.toNat+1:=by omega
 have e2:(x+1-i).toNat=(x-i).toNat+1:=by omega
 have e3:i.toNat+(x-i).toNat=x.toNat:=by omega
 rw[e1,e2,U7 (by omega),qR,e3,if_pos (by omega),h5.2,List.append_assoc,uo.1 h]
theorem AA(a b:List w4)(ha:a.length≤100)(hb:b.length≤100)(i k:Int)(h:jx a b i k):
 Evt (fun n=>V2 (aO n a b) n (0,i,k)) (ExP (fun t=>t.1=t.2.1-i∧i≤t.2.1∧k≤t.2.2∧jx a b t.2.1 t.2.2∧Az a b i k t.2.1 t.2.2∧KX a b t.2.1 t.2.2) (fun _=>False)):=by
 refine Evt.loop (fun s:Int×Int×Int=>(a.length-s.2.1).toNat) (fun s=>s.1=s.2.1-i∧i≤s.2.1∧k≤s.2.2∧jx a b s.2.1 s.2.2∧Az a b i k s.2.1 s.2.2) _ _ ⟨by show(0:Int)=i-i;omega,Int.le_refl _,Int.le_refl _,h,rfl,by show _=_++List.take (i-i).toNat _;simp⟩ (fun s hs=>?_)
 have h0:0≤i:=h.1
 have h00:0≤k:=h.2.2.1
 obtain⟨p,x,y⟩:=s
 obtain⟨h1,h2,h3,⟨s1,s2,s3,s4⟩,h5⟩:=hs
 simp only at*
 unfold aO
 by_cases hi:x<(↑a.length:Int)
 ·by_cases hk:y<(↑b.length:Int)
  ·rw[decide_eq_true hi,decide_eq_true hk]
   simp only[cond_true]
   refine Evt.chk ⟨fun _=>s1,fun _=>hi⟩ (Evt.chk ⟨fun _=>s3,fun _=>hk⟩ (Evt.bind (P:=fun v=>v=true↔Am.get a x.toNat=Am.get b y.toNat) (rz _ _) fun v hv=>?_))
   have hv:=sL hv
   refine Evt.cond (fun e=>Evt.pure ?_) (fun e=>Evt.pure ?_)
   ·rw[hv]at e
    simp only[Io]
    rw[G3 (by omega) (by omega),G3 (by omega) (by omega),G3 (by omega) (by omega)]
    refine⟨⟨by omega,by omega,by omega,⟨by omega,by omega,by omega,by omega⟩,?_⟩,by omega⟩
    exact Cm h0 h2 hi s3 hk e h5
   ·rw[hv]at e
    exact⟨h1,h2,h3,⟨s1,s2,s3,s4⟩,h5,fun _ _=>e⟩
  ·rw[decide_eq_true hi,decide_eq_false hk]
   simp only[cond_true]
   exact Evt.chk ⟨fun e=>by(cases e),fun e=>by(cases e)⟩ (Evt.chk ⟨fun e=>by(cases e),fun e=>by(cases e)⟩ (Evt.bind (P:=fun _=>True) (Evt.gd (fun e=>by(cases e)) (fun _=>trivial)) fun v hv=>Evt.pure ⟨h1,h2,h3,⟨s1,s2,s3,s4⟩,h5,fun _ h=>absurd h hk⟩))
 ·rw[decide_eq_false hi]
  simp only[cond_false]
  exact Evt.chk ⟨fun e=>by(cases e),fun e=>by(cases e)⟩ (Evt.chk ⟨fun e=>by(cases e),fun e=>by(cases e)⟩ (Evt.bind (P:=fun _=>True) (Evt.gd (fun e=>by(cases e)) (fun _=>trivial)) fun v hv=>Evt.pure ⟨h1,h2,h3,⟨s1,s2,s3,s4⟩,h5,fun h=>absurd h hi⟩))
theorem AB(a b:List w4)(ha:a.length≤100)(hb:b.length≤100)(i k:Int)(h:jx a b i k):
 Evt (fun n=>V2 (aP n a b (Lcs.tab aN a b)) n (0,[],i,k)) (ExP (fun t:Int×List w4×Int×Int=>t.1=t.2.2.1-i∧(t.2.1.length:Int)=t.2.2.2-k∧i≤t.2.2.1∧k≤t.2.2.2∧jx a b t.2.2.1 t.2.2.2∧xI a b i k t.1 t.2.1 t.2.2.1 t.2.2.2∧(∀v∈t.2.1,v∈b)∧LO a b t.2.2.1 t.2.2.2) (fun _=>False)):=by
 refine Evt.loop (fun s:Int×List w4×Int×Int=>(a.length-s.2.2.1).toNat+(b.length-s.2.2.2).toNat) (fun s=>s.1=s.2.2.1-i∧(s.2.1.length:Int)=s.2.2.2-k∧i≤s.2.2.1∧k≤s.2.2.2∧jx a b s.2.2.1 s.2.2.2∧xI a b i k s.1 s.2.1 s.2.2.1 s.2.2.2∧∀v∈s.2.1,v∈b) _ _ ⟨by show(0:Int)=i-i;omega,by show(([]:List w4).length:Int)=k-k;simp,Int.le_refl _,Int.le_refl _,h,⟨by simp,by simp⟩,fun v hv=>by cases hv⟩ (fun s hs=>?_)
 have h0:0≤i:=h.1
 have h00:0≤k:=h.2.2.1
 obtain⟨d,u,x,y⟩:=s
 obtain⟨h1,h2,h3,h4,⟨s1,s2,s3,s4⟩,h5,hmem⟩:=hs
 have h8:=h5.2
 have h9:=h5.1
 simp only at*
 have hwx:wr .i64 (x+1)=x+1:=G3 (by omega) (by omega)
 have hwy:wr .i64 (y+1)=y+1:=G3 (by omega) (by omega)
 have hwd:wr .i64 (d+1)=d+1:=G3 (by omega) (by omega)
 have Qs:y<(↑b.length:Int)→M7 a b x y=1+M7 a b x (y+1)→Evt (fun _=>chk (0≤y∧y<(↑b.length:Int)) <| cW (u++[(Am.get b y.toNat)]) fun c133=>chk (c133.length*152≤top∧c133.length≤top) <| some (Ctl.nxt (ρ:=Ctl (List w7) (List w7×Int×Int) (List w7)) (τ:=Int×List w4×Int×Int) (d,c133,x,(wr .i64 (y+1)))))
  (Io (fun s'=>(s'.1=s'.2.2.1-i∧(s'.2.1.length:Int)=s'.2.2.2-k∧i≤s'.2.2.1∧k≤s'.2.2.2∧jx a b s'.2.2.1 s'.2.2.2∧xI a b i k s'.1 s'.2.1 s'.2.2.1 s'.2.2.2∧∀v∈s'.2.1,v∈b)∧(a.length-s'.2.2.1).toNat+(b.length-s'.2.2.2).toNat<(a.length-x).toNat+(b.length-y).toNat)
   (fun t=>t.1=t.2.2.1-i∧(t.2.1.length:Int)=t.2.2.2-k∧i≤t.2.2.1∧k≤t.2.2.2∧jx a b t.2.2.1 t.2.2.2∧xI a b i k t.1 t.2.1 t.2.2.1 t.2.2.2∧(∀v∈t.2.1,v∈b)∧LO a b t.2.2.1 t.2.2.2) (fun _=>False)):=fun hk hr=>by
  have hl:((u++[(Am.get b y.toNat)]).length:Int)=u.length+1:=by simp
  refine Evt.chk ⟨s3,hk⟩ (Evt.cW (Evt.chk ⟨by rw[M8];omega,by rw[M8];omega⟩ (Evt.pure ?_)))
  rw[hwy]
  refine⟨⟨h1,?_,h3,?_,⟨s1,s2,?_,?_⟩,?_,?_⟩,?_⟩
  ·show((u++[(Am.get b y.toNat)]).length:Int)=y+1-k;omega
  ·show k≤y+1;omega
  ·show 0≤y+1;omega
  ·show y+1≤_;omega
  ·refine⟨by show _=d+((u++[(Am.get b y.toNat)]).length:Int)+M7 a b x (y+1);omega,?_⟩
   show b.take (y+1).toNat=_++(u++[(Am.get b y.toNat)])
   rw[show(y+1).toNat=y.toNat+1 by omega,U7 (by omega),h8,List.append_assoc]
  ·intro v hv
   rcases List.mem_append.1 hv with hv|hv
   ·exact hmem v hv
   ·rw[List.mem_singleton.1 hv]
    exact get_mem (by omega)
  ·show(a.length-x).toNat+(b.length-(y+1)).toNat<_;omega
 have Jg:x<(↑a.length:Int)→M7 a b x y=1+M7 a b (x+1) y→(d+1=x+1-i∧(u.length:Int)=y-k∧i≤x+1∧k≤y∧jx a b (x+1) y∧xI a b i k (d+1) u (x+1) y∧∀v∈u,v∈b)∧(a.length-(x+1)).toNat+(b.length-y).toNat<(a.length-x).toNat+(b.length-y).toNat:=fun hi hr=>
  ⟨⟨by omega,h2,by omega,h4,⟨by omega,by omega,s3,s4⟩,⟨by omega,h8⟩,hmem⟩,by omega⟩
 unfold aP
 simp only[hwx,hwd]
 by_cases hi:x<(↑a.length:Int)
 ·by_cases hk:y<(↑b.length:Int)
  ·have hne:¬y=(↑b.length:Int):=by omega
   rw[decide_eq_true hi,decide_eq_true hk,decide_eq_false hne]
   simp only[cond_true,cond_false,Bool.and_self,Bool.not_false,Bool.true_and,Bool.and_true]
   refine Evt.chk ⟨fun _=>s1,fun _=>hi⟩ (Evt.chk ⟨fun _=>s3,fun _=>hk⟩ (Evt.bind (P:=fun v=>v=true↔Am.get a x.toNat=Am.get b y.toNat) (rz _ _) fun v hv=>?_))
   have hv:=sL hv
   refine Evt.cond (fun e=>?_) (fun e=>Evt.pure ⟨h1,h2,h3,h4,⟨s1,s2,s3,s4⟩,h5,hmem,.inr ⟨hi,hk,?_⟩⟩)
   ·have e1:aN (Am.get a x.toNat) (Am.get b y.toNat)=false:=by rw[←hv];simpa using e
    have tx:(x+1).toNat=x.toNat+1:=by omega
    have ty:(y+1).toNat=y.toNat+1:=by omega
    have b1:x.toNat<a.length:=by omega
    have b2:y.toNat<b.length:=by omega
    have g1:=zl (a:=a) (b:=b) (i:=(x+1).toNat) (k:=y.toNat) (by omega) (by omega)
    have g2:=zl (a:=a) (b:=b) (i:=x.toNat) (k:=(y+1).toNat) (by omega) (by omega)
    rw[Ef,hwy,uP (i:=(x+1).toNat) (by omega),uP (i:=x.toNat) (by omega),g1,g2]
    refine Evt.chk ⟨fun _=>by omega,fun _=>by omega⟩ (Evt.chk ⟨fun _=>by omega,fun _=>by omega⟩ (Evt.chk ⟨fun _=>by omega,fun _=>by omega⟩ (Evt.chk ⟨fun _=>by omega,fun _=>by omega⟩ ?_)))
    refine Evt.cond (fun e2=>Evt.pure (Jg hi (Av s1 hi s3 hk e1 (of_decide_eq_true e2)))) (fun e2=>?_)
    have:=Qs hk (Ck s1 hi s3 hk e1 (of_decide_eq_false e2))
    rw[hwy]at this
    exact this
   ·rw[←hv];simpa using e
  ·have he:y=(↑b.length:Int):=by omega
   rw[decide_eq_true hi,decide_eq_false hk,decide_eq_true he]
   simp only[cond_true,cond_false,Bool.and_false,Bool.not_false,Bool.not_true,Bool.false_and]
   refine Evt.chk ⟨fun e=>by(cases e),fun e=>by(cases e)⟩ (Evt.chk ⟨fun e=>by(cases e),fun e=>by(cases e)⟩ (Evt.bind (P:=fun _=>True) (Evt.gd (fun e=>by(cases e)) (fun _=>trivial)) fun v hv=>?_))
   refine Evt.chk ⟨fun e=>by(cases e),fun e=>by(cases e)⟩ (Evt.chk ⟨fun e=>by(cases e),fun e=>by(cases e)⟩ (Evt.chk ⟨fun e=>by(cases e),fun e=>by(cases e)⟩ (Evt.chk ⟨fun e=>by(cases e),fun e=>by(cases e)⟩ ?_)))
   exact Evt.pure (Jg hi (Ax s1 hi (by omega)))
 ·by_cases hk:y<(↑b.length:Int)
  ·have hne:¬y=(↑b.length:Int):=by omega
   rw[decide_eq_false hi,decide_eq_true hk,decide_eq_false hne]
   simp only[cond_true,cond_false,Bool.and_false,Bool.not_false,Bool.not_true,Bool.false_and]
   refine Evt.chk ⟨fun e=>by(cases e),fun e=>by(cases e)⟩ (Evt.chk ⟨fun e=>by(cases e),fun e=>by(cases e)⟩ (Evt.bind (P:=fun _=>True) (Evt.gd (fun e=>by(cases e)) (fun _=>trivial)) fun v hv=>?_))
   refine Evt.chk ⟨fun e=>by(cases e),fun e=>by(cases e)⟩ (Evt.chk ⟨fun e=>by(cases e),fun e=>by(cases e)⟩ (Evt.chk ⟨fun e=>by(cases e),fun e=>by(cases e)⟩ (Evt.chk ⟨fun e=>by(cases e),fun e=>by(cases e)⟩ ?_)))
   exact Qs hk (Ay (by omega) s3 hk)
  ·rw[decide_eq_false hi,decide_eq_false hk]
   simp only[cond_true,cond_false,Bool.and_false,Bool.not_false,Bool.not_true,Bool.false_and]
   refine Evt.chk ⟨fun e=>by(cases e),fun e=>by(cases e)⟩ (Evt.chk ⟨fun e=>by(cases e),fun e=>by(cases e)⟩ (Evt.bind (P:=fun _=>True) (Evt.gd (fun e=>by(cases e)) (fun _=>trivial)) fun v hv=>?_))
   exact Evt.pure ⟨h1,h2,h3,h4,⟨s1,s2,s3,s4⟩,h5,hmem,.inl ⟨by show(↑a.length:Int)≤x;omega,by show(↑b.length:Int)≤y;omega⟩⟩
def iQ(l:List w7):Int:=(l.map fun x=>x.drop+(↑x.put.length:Int)).sum
def Eh(b:List w4)(x:w7):Prop:=0≤x.keep∧x.keep≤100∧0≤x.drop∧x.drop≤100∧x.put.length≤100∧∀v∈x.put,v∈b
def mP(x:w7):Nat×Nat×List w4:=(x.keep.toNat,x.drop.toNat,x.put)
structure Jh(a b:List w4)(l:List w7):Prop where
 sum:iQ l=((Lcs.cost aN a b:Nat):Int)
 len:l.length≤200
 ok:∀x∈l,Eh b x
 fol:fol a (l.map mP) 0=b
 mU:mU (l.map mP) 0=a.length
theorem Cn(a b:List w4)(ha:a.length≤100)(hb:b.length≤100):
 Evt (fun n=>dS n a b) (Jh a b):=by
 unfold dS
 refine Evt.bind (Gr a b ha hb) fun v1 hv1=>?_
 subst hv1
 refine Evt.C2 (P:=ExP (Jh a b) (fun _=>False)) (Evt.loop (fun s:List w7×Int×Int=>(a.length-s.2.1).toNat+(b.length-s.2.2).toNat)
  (fun s=>jx a b s.2.1 s.2.2∧((Lcs.cost aN a b:Nat):Int)=iQ s.1+M7 a b s.2.1 s.2.2∧(s.1.length:Int)≤s.2.1+s.2.2∧(∀x∈s.1,Eh b x)∧fol a (s.1.map mP) 0=b.take s.2.2.toNat∧mU (s.1.map mP) 0=s.2.1.toNat) _ _ ⟨⟨Int.le_refl _,by show(0:Int)≤_;omega,Int.le_refl _,by show(0:Int)≤_;omega⟩,by simp[iQ,M7],by simp,fun x hx=>(by cases hx),by simp[fol],rfl⟩ (fun s hs=>?_)) (fun t ht=>Evt.pure ht) (fun _ h=>h.elim)
 obtain⟨out,i,k⟩:=s
 obtain⟨hs0,h5,h6,h7,hf1,hf2⟩:=hs
 have Sw:=hs0
 obtain⟨s1,s2,s3,s4⟩:=Sw
 simp only at*
 unfold dD
 refine Evt.cond (fun e=>?_) (fun e=>Evt.pure ?_)
 ·have hne:i<a.length∨k<b.length:=by
   simpa using e
  refine Evt.C2 (AA a b ha hb i k hs0) (fun t ht=>?_) (fun _ h=>h.elim)
  obtain⟨p,x,y⟩:=t
  obtain⟨p1,p2,p3,pk,⟨p5,p7⟩,p6⟩:=ht
  have pk':=pk
  obtain⟨q1,q2,q3,q4⟩:=pk'
  simp only at*
  unfold dF
  refine Evt.C2 (AB a b ha hb x y pk) (fun t ht=>?_) (fun _ h=>h.elim)
  obtain⟨d,u,z,w⟩:=t
  obtain⟨m1,m2,m3,m4,mk,⟨m6,m8⟩,mm,m7⟩:=ht
  have mk':=mk
  obtain⟨n1,n2,n3,n4⟩:=mk'
  simp only at*
  unfold dG
  simp only
  have Sx:i+k<z+w:=by
   by_cases hz:z=i∧w=k
   ·exfalso
    obtain⟨rfl,rfl⟩:=hz
    have ex:x=z:=by omega
    have ey:y=w:=by omega
    rw[ex,ey]at p6
    rcases m7 with⟨g1,g2⟩|⟨g1,g2,g3⟩
    ·omega
    ·rw[p6 g1 g2]at g3;cases g3
   ·omega
  refine Evt.chk ⟨by rw[M8];omega,by rw[M8];omega⟩ (Evt.pure ⟨⟨mk,?_,?_,?_,?_,?_⟩,?_⟩)
  ·have:iQ (out++[w7.mk p d u])=iQ out+(d+u.length):=by simp[iQ]
   show _=iQ (out++[w7.mk p d u])+M7 a b z w
   omega
  ·have:((out++[w7.mk p d u]).length:Int)=out.length+1:=by simp
   show((out++[w7.mk p d u]).length:Int)≤z+w
   omega
  ·intro v hv
   rcases List.mem_append.1 hv with hv|hv
   ·exact h7 v hv
   ·rw[List.mem_singleton.1 hv]
    exact⟨by show 0≤p;omega,by show p≤100;omega,by show 0≤d;omega,by show d≤100;omega,by show u.length≤100;omega,mm⟩
  ·show fol a ((out++[w7.mk p d u]).map mP) 0=b.take w.toNat
   rw[List.map_append,List.map_cons,List.map_nil]
   show fol a (_++[(p.toNat,d.toNat,u)]) 0=_
   rw[Ar,hf1,hf2,m8,p7,p1,List.append_assoc]
  ·show mU ((out++[w7.mk p d u]).map mP) 0=z.toNat
   rw[List.map_append,List.map_cons,List.map_nil]
   show mU (_++[(p.toNat,d.toNat,u)]) 0=_
   rw[xE,hf2]
   omega
  ·show(a.length-z).toNat+(b.length-w).toNat<(a.length-i).toNat+(b.length-k).toNat
   omega
 ·have hne:¬(i<a.length∨k<b.length):=by
   intro h
   have:(bif (decide (i<(↑a.length:Int)))then true else(decide (k<(↑b.length:Int))))=true:=by
    rcases h with h|h
    ·rw[decide_eq_true h];rfl
    ·rw[decide_eq_true h];cases decide (i<(↑a.length:Int))<;>rfl
   rw[this]at e;cases e
  rw[Cl (by omega) (by omega)]at h5
  refine⟨by show iQ out=_;omega,by show out.length≤200;omega,h7,?_,?_⟩
  ·show fol a (out.map mP) 0=b
   rw[hf1,List.take_of_length_le (by omega)]
  ·show mU (out.map mP) 0=a.length
   omega
theorem zm{α:Type}{f:Nat→α→Option Bool}{P:α→Bool→Prop}:∀(l:List α),(∀x∈l,Evt (fun n=>f n x) (P x))→∃N,∀n,N≤n→∀x∈l,∃r,f n x=some r∧P x r
 | [],_=>⟨0,fun _ _ x hx=>by cases hx⟩
 |a::l,h=>by
  obtain⟨N,hN⟩:=zm l fun x hx=>h x (List.mem_cons_of_mem _ hx)
  obtain⟨r,hr,M,hM⟩:=h a (List.mem_cons_self ..)
  refine⟨max N M,fun n hn x hx=>?_⟩
  rcases List.mem_cons.1 hx with rfl|hx
  ·exact⟨r,hM n (by omega),hr⟩
  ·exact hN n (by omega) x hx
open Classical in
noncomputable def iB(x y:x7):Bool:=decide (x=y)
theorem xJ{x y:x7}:iB x y=true↔x=y:=by unfold iB;simp
theorem vJ{x y:x7}{v:Bool}(h:v=true↔x=y):v=iB x y:=by
 cases v
 ·cases e:iB x y
  ·rfl
  ·exact absurd (h.2 (xJ.1 e)) (by decide)
 ·exact(xJ.2 (h.1 rfl)).symm
theorem Ji(a b:List x7)(ha:a.length≤100)(hb:b.length≤100):Evt (fun n=>Co n a b) (fun T=>T=Lcs.tab iB a b):=by
 have hx:∀x∈a,∃N,∀n,N≤n→∀y∈b,∃r,W0 n x y=some r∧(r=true↔x=y):=fun x _=>zm b fun y _=>um x y
 have key:∀l:List x7,(∀x∈l,x∈a)→∃N,∀n,N≤n→∀x∈l,∀y∈b,∃r,W0 n x y=some r∧(r=true↔x=y):=by
  intro l
  induction l with
  |nil=>exact fun _=>⟨0,fun _ _ x hx=>by cases hx⟩
  |cons c l ih=>
   intro hl
   obtain⟨N,hN⟩:=ih fun x hx=>hl x (List.mem_cons_of_mem _ hx)
   obtain⟨M,hM⟩:=hx c (hl c (List.mem_cons_self ..))
   refine⟨max N M,fun n hn x hx y hy=>?_⟩
   rcases List.mem_cons.1 hx with rfl|hx
   ·exact hM n (by omega) y hy
   ·exact hN n (by omega) x hx y hy
 obtain⟨N,hN⟩:=key a fun _ h=>h
 refine⟨_,rfl,N,fun n hn=>?_⟩
 show Co n a b=_
 unfold Co
 rw[gP ⟨by rw[M8];omega,by rw[M8];omega⟩,gP (List.all_eq_true.2 fun x hx=>List.all_eq_true.2 fun y hy=>by
  obtain⟨r,h1,_⟩:=hN n hn x hx y hy
  rw[h1];rfl)]
 refine congrArg some (Lcs.Cj fun x hx y hy=>?_)
 obtain⟨r,h1,h2⟩:=hN n hn x hx y hy
 rw[h1]
 exact vJ h2
def mQ(a b:List x7)(i k:Int):Prop:=0≤i∧i≤a.length∧0≤k∧k≤b.length
noncomputable def U8(a b:List x7)(i k:Int):Int:=((Lcs.cost iB (a.drop i.toNat) (b.drop k.toNat):Nat):Int)
theorem iy{a:List x7}{i:Int}(h:0≤i)(h2:i<a.length):a.drop i.toNat=Am.get a i.toNat::a.drop (i+1).toNat:=by
 have hi:i.toNat<a.length:=by omega
 rw[List.drop_eq_getElem_cons hi,show(i+1).toNat=i.toNat+1 by omega]
 simp[Am.get,hi]
theorem oq{a:List x7}{i:Int}(h2:(a.length:Int)≤i):a.drop i.toNat=[]:=List.drop_eq_nil_of_le (by omega)
theorem Cp{a b:List x7}{i k:Int}(hi:0≤i)(hi2:i<a.length)(hk:0≤k)(hk2:k<b.length)(h:iB (Am.get a i.toNat) (Am.get b k.toNat)=true):U8 a b i k=U8 a b (i+1) (k+1):=by
 unfold U8
 rw[iy hi hi2,iy hk hk2,Lcs.sM _ h]
theorem Cq{a b:List x7}{i k:Int}(hi:0≤i)(hi2:i<a.length)(hk:0≤k)(hk2:k<b.length)(h:iB (Am.get a i.toNat) (Am.get b k.toNat)=false)
 (hc:Lcs.lc iB a b i.toNat (k+1).toNat≤Lcs.lc iB a b (i+1).toNat k.toNat):U8 a b i k=1+U8 a b (i+1) k:=by
 unfold U8
 unfold Lcs.lc at hc
 rw[iy hi hi2,iy hk hk2]at*
 rw[Lcs.xH _ h (by omega)]
 omega
theorem Ei{a b:List x7}{i k:Int}(hi:0≤i)(hi2:i<a.length)(hk:0≤k)(hk2:k<b.length)(h:iB (Am.get a i.toNat) (Am.get b k.toNat)=false)
 (hc:¬Lcs.lc iB a b i.toNat (k+1).toNat≤Lcs.lc iB a b (i+1).toNat k.toNat):U8 a b i k=1+U8 a b i (k+1):=by
 unfold U8
 unfold Lcs.lc at hc
 rw[iy hi hi2,iy hk hk2]at*
 rw[Lcs.Aw _ h (by omega)]
 omega
theorem Cr{a b:List x7}{i k:Int}(hi:0≤i)(hi2:i<a.length)(hk2:(b.length:Int)≤k):U8 a b i k=1+U8 a b (i+1) k:=by
 unfold U8
 rw[iy hi hi2,oq hk2,Lcs.nE,Lcs.nE]
 simp only[List.length_cons]
 omega
theorem Ct{a b:List x7}{i k:Int}(hi2:(a.length:Int)≤i)(hk:0≤k)(hk2:k<b.length):U8 a b i k=1+U8 a b i (k+1):=by
 unfold U8
 rw[iy hk hk2,oq hi2,Lcs.iw,Lcs.iw]
 simp only[List.length_cons]
 omega
theorem Ej{a b:List x7}{i k:Int}(hi2:(a.length:Int)≤i)(hk2:(b.length:Int)≤k):U8 a b i k=0:=by
 unfold U8
 rw[oq hk2,oq hi2,Lcs.iw]
 rfl
theorem Cu{a b:List x7}{i k:Nat}(hi:i≤a.length)(hk:k≤b.length):Am.get (Am.get (Lcs.tab iB a b) i) k=Lcs.lc iB a b i k:=Lcs.LN hi hk
theorem Gs{a b:List x7}:(Lcs.tab iB a b).length=a.length+1:=Lcs.iJ ..
theorem xK{a b:List x7}{i:Nat}(hi:i≤a.length):(Am.get (Lcs.tab iB a b) i).length=b.length+1:=Lcs.Jf hi
def NA(a b:List x7)(i k:Int):Prop:=i<a.length→k<b.length→iB (Am.get a i.toNat) (Am.get b k.toNat)=false
def Qt(a b:List x7)(i k:Int):Prop:=((a.length:Int)≤i∧(b.length:Int)≤k)∨(i<a.length∧k<b.length∧iB (Am.get a i.toNat) (Am.get b k.toNat)=true)
def Fl(a b:List x7)(i k x y:Int):Prop:=U8 a b i k=U8 a b x y∧b.take y.toNat=b.take k.toNat++(a.drop i.toNat).take (x-i).toNat
def Cv(a b:List x7)(i k d:Int)(u:List x7)(x y:Int):Prop:=U8 a b i k=d+u.length+U8 a b x y∧b.take y.toNat=b.take k.toNat++u
theorem Ek{a b:List x7}{i k x y:Int}(hi:0≤i)(hix:i≤x)(hx:x<a.length)(hy0:0≤y)(hy:y<b.length)(h:iB (Am.get a x.toNat) (Am.get b y.toNat)=true)(h5:Fl a b i k x y):Fl a b i k (x+1) (y+1):=by
 refine⟨by rw[h5.1,Cp (by omega) hx hy0 hy h],?_⟩
 have e1:(y+1).toNat=y.toNat+1:=by omega
 have e2:(x+1-i).toNat=(x-i).toNat+1:=by omega
 have e3:i.toNat+(x-i).toNat=x.toNat:=by omega
 rw[e1,e2,U7 (by omega),qR,e3,if_pos (by omega),h5.2,List.append_assoc,xJ.1 h]
theorem Cw(a b:List x7)(ha:a.length≤100)(hb:b.length≤100)(i k:Int)(h:mQ a b i k):
 Evt (fun n=>V2 (bK n a b) n (0,i,k)) (ExP (fun t=>t.1=t.2.1-i∧i≤t.2.1∧k≤t.2.2∧mQ a b t.2.1 t.2.2∧Fl a b i k t.2.1 t.2.2∧NA a b t.2.1 t.2.2) (fun _=>False)):=by
 refine Evt.loop (fun s:Int×Int×Int=>(a.length-s.2.1).toNat) (fun s=>s.1=s.2.1-i∧i≤s.2.1∧k≤s.2.2∧mQ a b s.2.1 s.2.2∧Fl a b i k s.2.1 s.2.2) _ _ ⟨by show(0:Int)=i-i;omega,Int.le_refl _,Int.le_refl _,h,rfl,by show _=_++List.take (i-i).toNat _;simp⟩ (fun s hs=>?_)
 have h0:0≤i:=h.1
 have h00:0≤k:=h.2.2.1
 obtain⟨p,x,y⟩:=s
 obtain⟨h1,h2,h3,⟨s1,s2,s3,s4⟩,h5⟩:=hs
 simp only at*
 unfold bK
 by_cases hi:x<(↑a.length:Int)
 ·by_cases hk:y<(↑b.length:Int)
  ·rw[decide_eq_true hi,decide_eq_true hk]
   simp only[cond_true]
   refine Evt.chk ⟨fun _=>s1,fun _=>hi⟩ (Evt.chk ⟨fun _=>s3,fun _=>hk⟩ (Evt.bind (P:=fun v=>v=true↔Am.get a x.toNat=Am.get b y.toNat) (um _ _) fun v hv=>?_))
   have hv:=vJ hv
   refine Evt.cond (fun e=>Evt.pure ?_) (fun e=>Evt.pure ?_)
   ·rw[hv]at e
    simp only[Io]
    rw[G3 (by omega) (by omega),G3 (by omega) (by omega),G3 (by omega) (by omega)]
    refine⟨⟨by omega,by omega,by omega,⟨by omega,by omega,by omega,by omega⟩,?_⟩,by omega⟩
    exact Ek h0 h2 hi s3 hk e h5
   ·rw[hv]at e
    exact⟨h1,h2,h3,⟨s1,s2,s3,s4⟩,h5,fun _ _=>e⟩
  ·rw[decide_eq_true hi,decide_eq_false hk]
   simp only[cond_true]
   exact Evt.chk ⟨fun e=>by(cases e),fun e=>by(cases e)⟩ (Evt.chk ⟨fun e=>by(cases e),fun e=>by(cases e)⟩ (Evt.bind (P:=fun _=>True) (Evt.gd (fun e=>by(cases e)) (fun _=>trivial)) fun v hv=>Evt.pure ⟨h1,h2,h3,⟨s1,s2,s3,s4⟩,h5,fun _ h=>absurd h hk⟩))
 ·rw[decide_eq_false hi]
  simp only[cond_false]
  exact Evt.chk ⟨fun e=>by(cases e),fun e=>by(cases e)⟩ (Evt.chk ⟨fun e=>by(cases e),fun e=>by(cases e)⟩ (Evt.bind (P:=fun _=>True) (Evt.gd (fun e=>by(cases e)) (fun _=>trivial)) fun v hv=>Evt.pure ⟨h1,h2,h3,⟨s1,s2,s3,s4⟩,h5,fun h=>absurd h hi⟩))
theorem Cx(a b:List x7)(ha:a.length≤100)(hb:b.length≤100)(i k:Int)(h:mQ a b i k):
 Evt (fun n=>V2 (bL n a b (Lcs.tab iB a b)) n (0,[],i,k)) (ExP (fun t:Int×List x7×Int×Int=>t.1=t.2.2.1-i∧(t.2.1.length:Int)=t.2.2.2-k∧i≤t.2.2.1∧k≤t.2.2.2∧mQ a b t.2.2.1 t.2.2.2∧Cv a b i k t.1 t.2.1 t.2.2.1 t.2.2.2∧(∀v∈t.2.1,v∈b)∧Qt a b t.2.2.1 t.2.2.2) (fun _=>False)):=by
 refine Evt.loop (fun s:Int×List x7×Int×Int=>(a.length-s.2.2.1).toNat+(b.length-s.2.2.2).toNat) (fun s=>s.1=s.2.2.1-i∧(s.2.1.length:Int)=s.2.2.2-k∧i≤s.2.2.1∧k≤s.2.2.2∧mQ a b s.2.2.1 s.2.2.2∧Cv a b i k s.1 s.2.1 s.2.2.1 s.2.2.2∧∀v∈s.2.1,v∈b) _ _ ⟨by show(0:Int)=i-i;omega,by show(([]:List x7).length:Int)=k-k;simp,Int.le_refl _,Int.le_refl _,h,⟨by simp,by simp⟩,fun v hv=>by cases hv⟩ (fun s hs=>?_)
 have h0:0≤i:=h.1
 have h00:0≤k:=h.2.2.1
 obtain⟨d,u,x,y⟩:=s
 obtain⟨h1,h2,h3,h4,⟨s1,s2,s3,s4⟩,h5,hmem⟩:=hs
 have h8:=h5.2
 have h9:=h5.1
 simp only at*
 have hwx:wr .i64 (x+1)=x+1:=G3 (by omega) (by omega)
 have hwy:wr .i64 (y+1)=y+1:=G3 (by omega) (by omega)
 have hwd:wr .i64 (d+1)=d+1:=G3 (by omega) (by omega)
 have Qs:y<(↑b.length:Int)→U8 a b x y=1+U8 a b x (y+1)→Evt (fun _=>chk (0≤y∧y<(↑b.length:Int)) <| cW (u++[(Am.get b y.toNat)]) fun c133=>chk (c133.length*144≤top∧c133.length≤top) <| some (Ctl.nxt (ρ:=Ctl (List w9) (List w9×Int×Int) (List w9)) (τ:=Int×List x7×Int×Int) (d,c133,x,(wr .i64 (y+1)))))
  (Io (fun s'=>(s'.1=s'.2.2.1-i∧(s'.2.1.length:Int)=s'.2.2.2-k∧i≤s'.2.2.1∧k≤s'.2.2.2∧mQ a b s'.2.2.1 s'.2.2.2∧Cv a b i k s'.1 s'.2.1 s'.2.2.1 s'.2.2.2∧∀v∈s'.2.1,v∈b)∧(a.length-s'.2.2.1).toNat+(b.length-s'.2.2.2).toNat<(a.length-x).toNat+(b.length-y).toNat)
   (fun t=>t.1=t.2.2.1-i∧(t.2.1.length:Int)=t.2.2.2-k∧i≤t.2.2.1∧k≤t.2.2.2∧mQ a b t.2.2.1 t.2.2.2∧Cv a b i k t.1 t.2.1 t.2.2.1 t.2.2.2∧(∀v∈t.2.1,v∈b)∧Qt a b t.2.2.1 t.2.2.2) (fun _=>False)):=fun hk hr=>by
  have hl:((u++[(Am.get b y.toNat)]).length:Int)=u.length+1:=by simp
  refine Evt.chk ⟨s3,hk⟩ (Evt.cW (Evt.chk ⟨by rw[M8];omega,by rw[M8];omega⟩ (Evt.pure ?_)))
  rw[hwy]
  refine⟨⟨h1,?_,h3,?_,⟨s1,s2,?_,?_⟩,?_,?_⟩,?_⟩
  ·show((u++[(Am.get b y.toNat)]).length:Int)=y+1-k;omega
  ·show k≤y+1;omega
  ·show 0≤y+1;omega
  ·show y+1≤_;omega
  ·refine⟨by show _=d+((u++[(Am.get b y.toNat)]).length:Int)+U8 a b x (y+1);omega,?_⟩
   show b.take (y+1).toNat=_++(u++[(Am.get b y.toNat)])
   rw[show(y+1).toNat=y.toNat+1 by omega,U7 (by omega),h8,List.append_assoc]
  ·intro v hv
   rcases List.mem_append.1 hv with hv|hv
   ·exact hmem v hv
   ·rw[List.mem_singleton.1 hv]
    exact get_mem (by omega)
  ·show(a.length-x).toNat+(b.length-(y+1)).toNat<_;omega
 have Jg:x<(↑a.length:Int)→U8 a b x y=1+U8 a b (x+1) y→(d+1=x+1-i∧(u.length:Int)=y-k∧i≤x+1∧k≤y∧mQ a b (x+1) y∧Cv a b i k (d+1) u (x+1) y∧∀v∈u,v∈b)∧(a.length-(x+1)).toNat+(b.length-y).toNat<(a.length-x).toNat+(b.length-y).toNat:=fun hi hr=>
  ⟨⟨by omega,h2,by omega,h4,⟨by omega,by omega,s3,s4⟩,⟨by omega,h8⟩,hmem⟩,by omega⟩
 unfold bL
 simp only[hwx,hwd]
 by_cases hi:x<(↑a.length:Int)
 ·by_cases hk:y<(↑b.length:Int)
  ·have hne:¬y=(↑b.length:Int):=by omega
   rw[decide_eq_true hi,decide_eq_true hk,decide_eq_false hne]
   simp only[cond_true,cond_false,Bool.and_self,Bool.not_false,Bool.true_and,Bool.and_true]
   refine Evt.chk ⟨fun _=>s1,fun _=>hi⟩ (Evt.chk ⟨fun _=>s3,fun _=>hk⟩ (Evt.bind (P:=fun v=>v=true↔Am.get a x.toNat=Am.get b y.toNat) (um _ _) fun v hv=>?_))
   have hv:=vJ hv
   refine Evt.cond (fun e=>?_) (fun e=>Evt.pure ⟨h1,h2,h3,h4,⟨s1,s2,s3,s4⟩,h5,hmem,.inr ⟨hi,hk,?_⟩⟩)
   ·have e1:iB (Am.get a x.toNat) (Am.get b y.toNat)=false:=by rw[←hv];simpa using e
    have tx:(x+1).toNat=x.toNat+1:=by omega
    have ty:(y+1).toNat=y.toNat+1:=by omega
    have b1:x.toNat<a.length:=by omega
    have b2:y.toNat<b.length:=by omega
    have g1:=Cu (a:=a) (b:=b) (i:=(x+1).toNat) (k:=y.toNat) (by omega) (by omega)
    have g2:=Cu (a:=a) (b:=b) (i:=x.toNat) (k:=(y+1).toNat) (by omega) (by omega)
    rw[Gs,hwy,xK (i:=(x+1).toNat) (by omega),xK (i:=x.toNat) (by omega),g1,g2]
    refine Evt.chk ⟨fun _=>by omega,fun _=>by omega⟩ (Evt.chk ⟨fun _=>by omega,fun _=>by omega⟩ (Evt.chk ⟨fun _=>by omega,fun _=>by omega⟩ (Evt.chk ⟨fun _=>by omega,fun _=>by omega⟩ ?_)))
    refine Evt.cond (fun e2=>Evt.pure (Jg hi (Cq s1 hi s3 hk e1 (of_decide_eq_true e2)))) (fun e2=>?_)
    have:=Qs hk (Ei s1 hi s3 hk e1 (of_decide_eq_false e2))
    rw[hwy]at this
    exact this
   ·rw[←hv];simpa using e
  ·have he:y=(↑b.length:Int):=by omega
   rw[decide_eq_true hi,decide_eq_false hk,decide_eq_true he]
   simp only[cond_true,cond_false,Bool.and_false,Bool.not_false,Bool.not_true,Bool.false_and]
   refine Evt.chk ⟨fun e=>by(cases e),fun e=>by(cases e)⟩ (Evt.chk ⟨fun e=>by(cases e),fun e=>by(cases e)⟩ (Evt.bind (P:=fun _=>True) (Evt.gd (fun e=>by(cases e)) (fun _=>trivial)) fun v hv=>?_))
   refine Evt.chk ⟨fun e=>by(cases e),fun e=>by(cases e)⟩ (Evt.chk ⟨fun e=>by(cases e),fun e=>by(cases e)⟩ (Evt.chk ⟨fun e=>by(cases e),fun e=>by(cases e)⟩ (Evt.chk ⟨fun e=>by(cases e),fun e=>by(cases e)⟩ ?_)))
   exact Evt.pure (Jg hi (Cr s1 hi (by omega)))
 ·by_cases hk:y<(↑b.length:Int)
  ·have hne:¬y=(↑b.length:Int):=by omega
   rw[decide_eq_false hi,decide_eq_true hk,decide_eq_false hne]
   simp only[cond_true,cond_false,Bool.and_false,Bool.not_false,Bool.not_true,Bool.false_and]
   refine Evt.chk ⟨fun e=>by(cases e),fun e=>by(cases e)⟩ (Evt.chk ⟨fun e=>by(cases e),fun e=>by(cases e)⟩ (Evt.bind (P:=fun _=>True) (Evt.gd (fun e=>by(cases e)) (fun _=>trivial)) fun v hv=>?_))
   refine Evt.chk ⟨fun e=>by(cases e),fun e=>by(cases e)⟩ (Evt.chk ⟨fun e=>by(cases e),fun e=>by(cases e)⟩ (Evt.chk ⟨fun e=>by(cases e),fun e=>by(cases e)⟩ (Evt.chk ⟨fun e=>by(cases e),fun e=>by(cases e)⟩ ?_)))
   exact Qs hk (Ct (by omega) s3 hk)
  ·rw[decide_eq_false hi,decide_eq_false hk]
   simp only[cond_true,cond_false,Bool.and_false,Bool.not_false,Bool.not_true,Bool.false_and]
   refine Evt.chk ⟨fun e=>by(cases e),fun e=>by(cases e)⟩ (Evt.chk ⟨fun e=>by(cases e),fun e=>by(cases e)⟩ (Evt.bind (P:=fun _=>True) (Evt.gd (fun e=>by(cases e)) (fun _=>trivial)) fun v hv=>?_))
   exact Evt.pure ⟨h1,h2,h3,h4,⟨s1,s2,s3,s4⟩,h5,hmem,.inl ⟨by show(↑a.length:Int)≤x;omega,by show(↑b.length:Int)≤y;omega⟩⟩
def lx(l:List w9):Int:=(l.map fun x=>x.drop+(↑x.put.length:Int)).sum
def Jj(b:List x7)(x:w9):Prop:=0≤x.keep∧x.keep≤100∧0≤x.drop∧x.drop≤100∧x.put.length≤100∧∀v∈x.put,v∈b
def qS(x:w9):Nat×Nat×List x7:=(x.keep.toNat,x.drop.toNat,x.put)
structure LP(a b:List x7)(l:List w9):Prop where
 sum:lx l=((Lcs.cost iB a b:Nat):Int)
 len:l.length≤200
 ok:∀x∈l,Jj b x
 fol:fol a (l.map qS) 0=b
 mU:mU (l.map qS) 0=a.length
theorem El(a b:List x7)(ha:a.length≤100)(hb:b.length≤100):
 Evt (fun n=>fA n a b) (LP a b):=by
 unfold fA
 refine Evt.bind (Ji a b ha hb) fun v1 hv1=>?_
 subst hv1
 refine Evt.C2 (P:=ExP (LP a b) (fun _=>False)) (Evt.loop (fun s:List w9×Int×Int=>(a.length-s.2.1).toNat+(b.length-s.2.2).toNat)
  (fun s=>mQ a b s.2.1 s.2.2∧((Lcs.cost iB a b:Nat):Int)=lx s.1+U8 a b s.2.1 s.2.2∧(s.1.length:Int)≤s.2.1+s.2.2∧(∀x∈s.1,Jj b x)∧fol a (s.1.map qS) 0=b.take s.2.2.toNat∧mU (s.1.map qS) 0=s.2.1.toNat) _ _ ⟨⟨Int.le_refl _,by show(0:Int)≤_;omega,Int.le_refl _,by show(0:Int)≤_;omega⟩,by simp[lx,U8],by simp,fun x hx=>(by cases hx),by simp[fol],rfl⟩ (fun s hs=>?_)) (fun t ht=>Evt.pure ht) (fun _ h=>h.elim)
 obtain⟨out,i,k⟩:=s
 obtain⟨hs0,h5,h6,h7,hf1,hf2⟩:=hs
 have Sw:=hs0
 obtain⟨s1,s2,s3,s4⟩:=Sw
 simp only at*
 unfold eV
 refine Evt.cond (fun e=>?_) (fun e=>Evt.pure ?_)
 ·have hne:i<a.length∨k<b.length:=by
   simpa using e
  refine Evt.C2 (Cw a b ha hb i k hs0) (fun t ht=>?_) (fun _ h=>h.elim)
  obtain⟨p,x,y⟩:=t
  obtain⟨p1,p2,p3,pk,⟨p5,p7⟩,p6⟩:=ht
  have pk':=pk
  obtain⟨q1,q2,q3,q4⟩:=pk'
  simp only at*
  unfold eW
  refine Evt.C2 (Cx a b ha hb x y pk) (fun t ht=>?_) (fun _ h=>h.elim)
  obtain⟨d,u,z,w⟩:=t
  obtain⟨m1,m2,m3,m4,mk,⟨m6,m8⟩,mm,m7⟩:=ht
  have mk':=mk
  obtain⟨n1,n2,n3,n4⟩:=mk'
  simp only at*
  unfold eX
  simp only
  have Sx:i+k<z+w:=by
   by_cases hz:z=i∧w=k
   ·exfalso
    obtain⟨rfl,rfl⟩:=hz
    have ex:x=z:=by omega
    have ey:y=w:=by omega
    rw[ex,ey]at p6
    rcases m7 with⟨g1,g2⟩|⟨g1,g2,g3⟩
    ·omega
    ·rw[p6 g1 g2]at g3;cases g3
   ·omega
  refine Evt.chk ⟨by rw[M8];omega,by rw[M8];omega⟩ (Evt.pure ⟨⟨mk,?_,?_,?_,?_,?_⟩,?_⟩)
  ·have:lx (out++[w9.mk p d u])=lx out+(d+u.length):=by simp[lx]
   show _=lx (out++[w9.mk p d u])+U8 a b z w
   omega
  ·have:((out++[w9.mk p d u]).length:Int)=out.length+1:=by simp
   show((out++[w9.mk p d u]).length:Int)≤z+w
   omega
  ·intro v hv
   rcases List.mem_append.1 hv with hv|hv
   ·exact h7 v hv
   ·rw[List.mem_singleton.1 hv]
    exact⟨by show 0≤p;omega,by show p≤100;omega,by show 0≤d;omega,by show d≤100;omega,by show u.length≤100;omega,mm⟩
  ·show fol a ((out++[w9.mk p d u]).map qS) 0=b.take w.toNat
   rw[List.map_append,List.map_cons,List.map_nil]
   show fol a (_++[(p.toNat,d.toNat,u)]) 0=_
   rw[Ar,hf1,hf2,m8,p7,p1,List.append_assoc]
  ·show mU ((out++[w9.mk p d u]).map qS) 0=z.toNat
   rw[List.map_append,List.map_cons,List.map_nil]
   show mU (_++[(p.toNat,d.toNat,u)]) 0=_
   rw[xE,hf2]
   omega
  ·show(a.length-z).toNat+(b.length-w).toNat<(a.length-i).toNat+(b.length-k).toNat
   omega
 ·have hne:¬(i<a.length∨k<b.length):=by
   intro h
   have:(bif (decide (i<(↑a.length:Int)))then true else(decide (k<(↑b.length:Int))))=true:=by
    rcases h with h|h
    ·rw[decide_eq_true h];rfl
    ·rw[decide_eq_true h];cases decide (i<(↑a.length:Int))<;>rfl
   rw[this]at e;cases e
  rw[Ej (by omega) (by omega)]at h5
  refine⟨by show lx out=_;omega,by show out.length≤200;omega,h7,?_,?_⟩
  ·show fol a (out.map qS) 0=b
   rw[hf1,List.take_of_length_le (by omega)]
  ·show mU (out.map qS) 0=a.length
   omega
def uQ(x:A8):Nat×Nat×List w4:=(x.keep.toNat,x.drop.toNat,x.put)
def W9(c:B4):List (Nat×Nat×List w4):=c.rules.map uQ
theorem xL{c:B4}{k:Nat}(h:k<c.rules.length):(W9 c).drop k=uQ (Am.get c.rules k)::(W9 c).drop (k+1):=by
 unfold W9
 rw[←List.map_drop, ←List.map_drop,eM h,List.map_cons]
theorem AE{a:List w4}{c:B4}(hc:LM c)(hl:a.length≤100){l:List w7}(hL:l.length=c.rules.length)(hg:∀k,k<l.length→Am.get l k=w7.mk (Am.get c.rules k).keep (Am.get c.rules k).drop (Am.get c.rules k).put):
 Evt (fun _=>cJ a l) (fun r=>(r.2=true↔mU (W9 c) 0=a.length)∧(r.2=true→r.1=fol a (W9 c) 0)):=by
 have hcl:=hc.rules
 unfold cJ
 refine Evt.chk (by omega) (Evt.C2 (Evt.range (fun i s=>∃at_:Nat,s.2=(at_:Int)∧at_≤a.length∧s.1.length≤200*i∧s.1++fol a ((W9 c).drop i) at_=fol a (W9 c) 0∧mU ((W9 c).drop i) at_=mU (W9 c) 0) (fun _=>False) (fun r:List w4×Bool=>r.2=false∧a.length<mU (W9 c) 0) ⟨0,rfl,by omega,by simp,by simp,by simp⟩ (fun i s hi2 hs=>?_)) (fun t ht=>?_) (fun r hr=>?_))
 ·obtain⟨at_,e1,h1,h2,h3,h4⟩:=hs
  obtain⟨o,x⟩:=s
  have e1:x=(at_:Int):=e1
  subst e1
  have h2:o.length≤200*i:=h2
  have h3:o++fol a ((W9 c).drop i) at_=fol a (W9 c) 0:=h3
  have hlt:i<c.rules.length:=by omega
  obtain⟨k0,k1,d0,d1,hp⟩:=hc.rok i hlt
  obtain⟨K,hK⟩:∃K:Nat,(Am.get c.rules i).keep=K:=⟨(Am.get c.rules i).keep.toNat,by omega⟩
  obtain⟨Dn,hD⟩:∃Dn:Nat,(Am.get c.rules i).drop=Dn:=⟨(Am.get c.rules i).drop.toNat,by omega⟩
  have hed:uQ (Am.get c.rules i)=(K,Dn,(Am.get c.rules i).put):=by unfold uQ;rw[hK,hD,Int.toNat_natCast,Int.toNat_natCast]
  rw[xL hlt,hed,fol]at h3
  rw[xL hlt,hed,mU]at h4
  have hge:=Ec ((W9 c).drop (i+1)) (at_+K+Dn)
  unfold cx
  rw[hg i (by omega),hK,hD]
  have hw1:wr .i64 ((K:Int)+(Dn:Int))=((K+Dn:Nat):Int):=by rw[G3 (by omega) (by omega)];omega
  have hw2:wr .i64 ((a.length:Int)-(at_:Int))=((a.length-at_:Nat):Int):=by rw[G3 (by omega) (by omega)];omega
  have hw3:wr .i64 ((at_:Int)+(K:Int))=((at_+K:Nat):Int):=by rw[G3 (by omega) (by omega)];omega
  have hw4:wr .i64 ((at_:Int)+((K+Dn:Nat):Int))=((at_+(K+Dn):Nat):Int):=by rw[G3 (by omega) (by omega)];omega
  simp only[hw1,hw2,hw3,hw4,Int.toNat_natCast]
  refine Evt.cond (fun e=>Evt.pure ?_) (fun e=>?_)
  ·replace e:=bx e
   exact⟨rfl,by omega⟩
  ·replace e:=bx e
   have hlo:(o++(a.drop at_).take K).length≤200*i+100:=by
    simp only[List.length_append,List.length_take,List.length_drop]
    omega
   have NC:(o++(a.drop at_).take K++(Am.get c.rules i).put).length≤200*(i+1):=by
    rw[List.length_append];omega
   have hk:at_+K-at_=K:=by omega
   rw[hk]
   refine Evt.chk (by omega) (Evt.cW (Evt.chk (by rw[M8];omega) (Evt.cW (Evt.chk (by rw[M8];omega) (Evt.pure ⟨at_+(K+Dn),rfl,by omega,NC,?_,?_⟩)))))
   ·show o++(a.drop at_).take K++(Am.get c.rules i).put++_=_
    rw[←h3, ←Nat.add_assoc];simp only[List.append_assoc]
   ·rw[←h4, ←Nat.add_assoc]
 ·obtain⟨at_,e1,h1,h2,h3,h4⟩:=ht.elim id False.elim
  have hnil:(W9 c).drop l.length=[]:=List.drop_eq_nil_of_le (by simp[W9];omega)
  rw[hnil,fol,List.append_nil]at h3
  rw[hnil,mU]at h4
  unfold cA
  refine Evt.pure ⟨?_,fun _=>h3⟩
  rw[e1,decide_eq_true_eq, ←h4]
  omega
 ·obtain⟨h1,h2⟩:=hr
  rw[h1]
  exact⟨⟨fun h=>(by cases h),fun h=>by omega⟩,fun h=>(by cases h)⟩
def Cy(x:B9):Nat×Nat×List x7:=(x.keep.toNat,x.drop.toNat,x.put)
def cZ(c:B4):List (Nat×Nat×List x7):=c.y9.map Cy
theorem zn{c:B4}{k:Nat}(h:k<c.y9.length):(cZ c).drop k=Cy (Am.get c.y9 k)::(cZ c).drop (k+1):=by
 unfold cZ
 rw[←List.map_drop, ←List.map_drop,eM h,List.map_cons]
theorem Cz{a:List x7}{c:B4}(hc:LM c)(hl:a.length≤100){l:List w9}(hL:l.length=c.y9.length)(hg:∀k,k<l.length→Am.get l k=w9.mk (Am.get c.y9 k).keep (Am.get c.y9 k).drop (Am.get c.y9 k).put):
 Evt (fun _=>dU a l) (fun r=>(r.2=true↔mU (cZ c) 0=a.length)∧(r.2=true→r.1=fol a (cZ c) 0)):=by
 have hcl:=hc.y9
 unfold dU
 refine Evt.chk (by omega) (Evt.C2 (Evt.range (fun i s=>∃at_:Nat,s.2=(at_:Int)∧at_≤a.length∧s.1.length≤200*i∧s.1++fol a ((cZ c).drop i) at_=fol a (cZ c) 0∧mU ((cZ c).drop i) at_=mU (cZ c) 0) (fun _=>False) (fun r:List x7×Bool=>r.2=false∧a.length<mU (cZ c) 0) ⟨0,rfl,by omega,by simp,by simp,by simp⟩ (fun i s hi2 hs=>?_)) (fun t ht=>?_) (fun r hr=>?_))
 ·obtain⟨at_,e1,h1,h2,h3,h4⟩:=hs
  obtain⟨o,x⟩:=s
  have e1:x=(at_:Int):=e1
  subst e1
  have h2:o.length≤200*i:=h2
  have h3:o++fol a ((cZ c).drop i) at_=fol a (cZ c) 0:=h3
  have hlt:i<c.y9.length:=by omega
  obtain⟨k0,k1,d0,d1,hp⟩:=hc.lok i hlt
  obtain⟨K,hK⟩:∃K:Nat,(Am.get c.y9 i).keep=K:=⟨(Am.get c.y9 i).keep.toNat,by omega⟩
  obtain⟨Dn,hD⟩:∃Dn:Nat,(Am.get c.y9 i).drop=Dn:=⟨(Am.get c.y9 i).drop.toNat,by omega⟩
  have hed:Cy (Am.get c.y9 i)=(K,Dn,(Am.get c.y9 i).put):=by unfold Cy;rw[hK,hD,Int.toNat_natCast,Int.toNat_natCast]
  rw[zn hlt,hed,fol]at h3
  rw[zn hlt,hed,mU]at h4
  have hge:=Ec ((cZ c).drop (i+1)) (at_+K+Dn)
  unfold dH
  rw[hg i (by omega),hK,hD]
  have hw1:wr .i64 ((K:Int)+(Dn:Int))=((K+Dn:Nat):Int):=by rw[G3 (by omega) (by omega)];omega
  have hw2:wr .i64 ((a.length:Int)-(at_:Int))=((a.length-at_:Nat):Int):=by rw[G3 (by omega) (by omega)];omega
  have hw3:wr .i64 ((at_:Int)+(K:Int))=((at_+K:Nat):Int):=by rw[G3 (by omega) (by omega)];omega
  have hw4:wr .i64 ((at_:Int)+((K+Dn:Nat):Int))=((at_+(K+Dn):Nat):Int):=by rw[G3 (by omega) (by omega)];omega
  simp only[hw1,hw2,hw3,hw4,Int.toNat_natCast]
  refine Evt.cond (fun e=>Evt.pure ?_) (fun e=>?_)
  ·replace e:=bx e
   exact⟨rfl,by omega⟩
  ·replace e:=bx e
   have hlo:(o++(a.drop at_).take K).length≤200*i+100:=by
    simp only[List.length_append,List.length_take,List.length_drop]
    omega
   have NC:(o++(a.drop at_).take K++(Am.get c.y9 i).put).length≤200*(i+1):=by
    rw[List.length_append];omega
   have hk:at_+K-at_=K:=by omega
   rw[hk]
   refine Evt.chk (by omega) (Evt.cW (Evt.chk (by rw[M8];omega) (Evt.cW (Evt.chk (by rw[M8];omega) (Evt.pure ⟨at_+(K+Dn),rfl,by omega,NC,?_,?_⟩)))))
   ·show o++(a.drop at_).take K++(Am.get c.y9 i).put++_=_
    rw[←h3, ←Nat.add_assoc];simp only[List.append_assoc]
   ·rw[←h4, ←Nat.add_assoc]
 ·obtain⟨at_,e1,h1,h2,h3,h4⟩:=ht.elim id False.elim
  have hnil:(cZ c).drop l.length=[]:=List.drop_eq_nil_of_le (by simp[cZ];omega)
  rw[hnil,fol,List.append_nil]at h3
  rw[hnil,mU]at h4
  unfold dI
  refine Evt.pure ⟨?_,fun _=>h3⟩
  rw[e1,decide_eq_true_eq, ←h4]
  omega
 ·obtain⟨h1,h2⟩:=hr
  rw[h1]
  exact⟨⟨fun h=>(by cases h),fun h=>by omega⟩,fun h=>(by cases h)⟩
theorem kI{α:Type}[Inhabited α](body:Nat→Nat→Unit→Option (Ctl Bool Unit Unit))(l m:List α)(hl:l.length=m.length)(hb:∀k,k<l.length→Evt (fun n=>body n k ()) (fun c=>(Am.get l k=Am.get m k∧c= .nxt ())∨(Am.get l k≠Am.get m k∧c= .ret false))):
 Evt (fun n=>C2 (D1 (body n) l.length ()) (fun _=>some true)) (fun r=>r=true↔l=m):=by
 refine Evt.C2 (Evt.range (fun k _=>∀j,j<k→Am.get l j=Am.get m j) (fun _=>False) (fun r:Bool=>r=false∧l≠m) (fun j h=>absurd h (Nat.not_lt_zero _)) (fun k u hk hj=>(hb k hk).mono fun c hc=>?_)) (fun u hu=>?_) (fun r hr=>?_)
 ·rcases hc with⟨h,rfl⟩|⟨h,rfl⟩
  ·intro j hj'
   by_cases ej:j=k
   ·subst ej;exact h
   ·exact hj j (by omega)
  ·exact⟨rfl,fun e=>h (by rw[e])⟩
 ·exact Evt.pure (by simp only[true_iff];exact uO hl (hu.elim id False.elim))
 ·obtain⟨rfl,h⟩:=(hr:r=false∧l≠m)
  simp[h]
theorem Gt{α:Type}{l m:List α}(e:(!decide ((l.length:Int)=(m.length:Int)))=true):l≠m:=by
 intro h
 subst h
 simp at e
theorem AF{α:Type}{l m:List α}(e:(!decide ((l.length:Int)=(m.length:Int)))=false):l.length=m.length:=by
 simp at e
 omega
theorem gM{p:Prop}(h:¬p):false=true↔p:=⟨fun e=>Bool.noConfusion e,fun e=>absurd e h⟩
theorem Jk(a b:List w8):Evt (fun _=>X0 a b) (fun r=>r=true↔a=b):=by
 unfold X0
 refine Evt.cond (fun e=>Evt.pure (gM (Gt e))) (fun e=>?_)
 refine kI (fun _=>R6 b a) a b (AF e) (fun k hk=>?_)
 unfold R6
 have hl:=AF e
 generalize Am.get a k=x
 generalize Am.get b k=y
 refine Evt.chk (by omega) ?_
 by_cases h:x.name=y.name
 ·simp only[h,decide_true,Bool.not_true,Bool.not_false,ig,cond_false]
  refine Evt.bind (Ci _ _) fun v hv=>Evt.cond (fun e2=>Evt.pure (.inr ⟨fun e3=>?_,rfl⟩)) (fun e2=>Evt.pure (.inl ⟨?_,rfl⟩))
  ·rw[e3]at hv
   rw[hv.2 rfl]at e2;cases e2
  ·have:v=true:=by simpa using e2
   cases x;cases y
   simp only[w8.mk.injEq]at*
   exact⟨h,hv.1 this⟩
 ·simp only[h,decide_false,Bool.not_false,Bool.not_true,oa,Option.bind_some,cond_true]
  exact Evt.pure (.inr ⟨fun e3=>h (by rw[e3]),rfl⟩)
theorem Fm(a b:w5):Evt (fun _=>J9 a b) (fun r=>r=true↔a=b):=by
 unfold J9
 refine Evt.bind (Jk _ _) fun v1 h1=>Evt.bind (P:=fun r=>v1=true→(r=true↔a.B1=b.B1)) (Evt.gd (fun _=>(zj _ _).mono fun r hr _=>hr) (fun e h=>by rw[e]at h;cases h)) fun v2 h2=>Evt.pure ?_
 cases a;cases b
 simp only[w5.mk.injEq]at*
 cases v1<;>simp_all
theorem sN{a:y5}(ha:a.nodes.length≤9223372036854775807)(b:y5):Evt (fun _=>I0 a b) (fun r=>r=true↔a=b):=by
 unfold I0
 refine Evt.cond (fun e=>Evt.pure (gM fun h=>Gt e (by rw[h]))) (fun e=>Evt.chk ha ?_)
 have hl:=AF e
 refine(kI (fun _=>R7 b a) a.nodes b.nodes hl (fun k hk=>?_)).mono fun r hr=>?_
 ·unfold R7
  generalize Am.get a.nodes k=x
  generalize Am.get b.nodes k=y
  refine Evt.chk (by omega) ?_
  by_cases h:x.type=y.type
  ·simp only[h,decide_true,Bool.not_true,Bool.not_false,ig,cond_false]
   refine Evt.bind (zk _ _) fun v hv=>Evt.cond (fun e2=>Evt.pure (.inr ⟨fun e3=>?_,rfl⟩)) (fun e2=>Evt.pure (.inl ⟨?_,rfl⟩))
   ·rw[e3]at hv
    rw[hv.2 rfl]at e2;cases e2
   ·have:v=true:=by simpa using e2
    cases x;cases y
    simp only[x5.mk.injEq]at*
    exact⟨h,hv.1 this⟩
  ·simp only[h,decide_false,Bool.not_false,Bool.not_true,oa,Option.bind_some,cond_true]
   exact Evt.pure (.inr ⟨fun e3=>h (by rw[e3]),rfl⟩)
 ·cases a;cases b
  simpa using hr
theorem Gu:∀(m:Nat) (s:u0),SizeOf.sizeOf s≤m→uh s→∀t:u0,Evt (fun n=>F6 n s t) (fun r=>r=true↔s=t):=by
 intro m
 induction m with
 |zero=>intro s h;cases s;simp only[u0.mk.sizeOf_spec]at h;omega
 |succ m ih=>
  intro s hs hB t
  obtain⟨_,b1,b2⟩:=hB
  refine Evt.succ ?_
  simp only[F6]
  by_cases h:s.base=t.base
  ·simp only[h,decide_true,Bool.not_true,cond_false]
   refine Evt.cond (fun e=>Evt.pure (gM fun h=>Gt e (by rw[h]))) (fun e=>Evt.chk (by omega) ?_)
   have hl:=AF e
   refine(kI (fun n=>L3 (F6 n) t s) s.args t.args hl (fun k hk=>?_)).mono fun r hr=>?_
   ·unfold L3
    refine Evt.chk (by omega) (Evt.bind (ih _ (by have:=ft hk;omega) (b2 k hk) _) fun v hv=>Evt.cond (fun e2=>Evt.pure (.inr ⟨fun e3=>?_,rfl⟩)) (fun e2=>Evt.pure (.inl ⟨?_,rfl⟩)))
    ·rw[hv.2 e3]at e2;cases e2
    ·exact hv.1 (by simpa using e2)
   ·obtain⟨n1,p1⟩:=s
    obtain⟨n2,p2⟩:=t
    simp only[u0.tR,u0.nW,u0.mk.injEq]at*
    simp_all
  ·simp only[h,decide_false,Bool.not_false,cond_true]
   exact Evt.pure (gM fun e3=>h (by rw[e3]))
theorem Fo:∀(m:Nat) (s:w6),SizeOf.sizeOf s≤m→Eb s→∀t:w6,Evt (fun n=>E7 n s t) (fun r=>r=true↔s=t):=by
 intro m
 induction m with
 |zero=>intro s h;cases s;simp only[w6.mk.sizeOf_spec]at h;omega
 |succ m ih=>
  intro s hs hB t
  obtain⟨_,b0,b1,b2⟩:=hB
  refine Evt.succ ?_
  simp only[E7]
  by_cases h:s.kind=t.kind∧s.name=t.name∧s.index=t.index
  ·obtain⟨h1,h2,h3⟩:=h
   simp only[h1,h2,h3,decide_true,Bool.not_true,Bool.not_false,cond_false,ig]
   refine Evt.bind (Gu _ _ (Nat.le_refl _) b0 t.type) fun v hv=>?_
   cases v with
   |false=>
    simp only[Bool.not_false,cond_true]
    exact Evt.pure (gM fun e3=>by have:=hv.2 (by rw[e3]);cases this)
   |true=>
    have ht:=hv.1 rfl
    simp only[Bool.not_true,cond_false]
    refine Evt.cond (fun e=>Evt.pure (gM fun h=>Gt e (by rw[h]))) (fun e=>Evt.chk (by omega) ?_)
    have hl:=AF e
    refine(kI (fun n=>N8 (E7 n) t s) s.args t.args hl (fun k hk=>?_)).mono fun r hr=>?_
    ·unfold N8
     refine Evt.chk (by omega) (Evt.bind (ih _ (by have:=gC hk;omega) (b2 k hk) _) fun v hv=>Evt.cond (fun e2=>Evt.pure (.inr ⟨fun e3=>?_,rfl⟩)) (fun e2=>Evt.pure (.inl ⟨?_,rfl⟩)))
     ·rw[hv.2 e3]at e2;cases e2
     ·exact hv.1 (by simpa using e2)
    ·obtain⟨k1,n1,i1,t1,g1⟩:=s
     obtain⟨k2,n2,i2,t2,g2⟩:=t
     simp only[w6.Ir,w6.Iu,w6.EX,w6.Iv,w6.nW,w6.mk.injEq]at*
     rw[hr]
     exact⟨fun e=>⟨h1,h2,h3,ht,e⟩,fun e=>e.2.2.2.2⟩
  ·have hc:(bif (bif (!decide (s.kind=t.kind))then true else(!decide (s.name=t.name)))then true else(!decide (s.index=t.index)))=true:=by
    by_cases h1:s.kind=t.kind<;>by_cases h2:s.name=t.name<;>by_cases h3:s.index=t.index<;>simp[h1,h2,h3]<;>exact h ⟨h1,h2,h3⟩
   simp only[hc,Bool.not_true,oa,Option.bind_some,cond_true]
   exact Evt.pure (gM fun e3=>h (by rw[e3];exact⟨rfl,rfl,rfl⟩))
theorem CA{x y:w4}(hB:Cd x):Evt (fun n=>
 (gd (!(bif (bif (!decide (x.name=y.name))then true else(!decide (x.kids=y.kids)))then true else(!decide (x.weight=y.weight)))) (I0 x.graph y.graph) default).bind fun v5=>
 (gd (!(bif (bif (bif (!decide (x.name=y.name))then true else(!decide (x.kids=y.kids)))then true else(!decide (x.weight=y.weight)))then true else(!v5))) (E7 n x.meaning y.meaning) default).bind fun v6=>
 bif (bif (bif (bif (bif (!decide (x.name=y.name))then true else(!decide (x.kids=y.kids)))then true else(!decide (x.weight=y.weight)))then true else(!v5))then true else(!v6))then
  some (Ctl.ret false)
 else
  some (Ctl.nxt ())) (fun c:Ctl Bool Unit Unit=>(x=y∧c= .nxt ())∨(x≠y∧c= .ret false)):=by
 by_cases h:x.name=y.name∧x.kids=y.kids∧x.weight=y.weight
 ·obtain⟨h1,h2,h3⟩:=h
  simp only[h1,h2,h3,decide_true,Bool.not_true,Bool.not_false,cond_false,ig]
  refine Evt.bind (sN (by have:=hB.graph.nodes;omega) _) fun v hv=>?_
  cases v with
  |false=>
   simp only[Bool.not_false,Bool.not_true,cond_true,oa,Option.bind_some]
   exact Evt.pure (.inr ⟨fun e3=>(by have:=hv.2 (by rw[e3]);cases this),rfl⟩)
  |true=>
   have hgr:=hv.1 rfl
   simp only[Bool.not_true,Bool.not_false,cond_false,ig]
   refine Evt.bind (Fo _ _ (Nat.le_refl _) hB.meaning _) fun v hv=>Evt.cond (fun e=>Evt.pure (.inr ⟨fun e3=>?_,rfl⟩)) (fun e=>Evt.pure (.inl ⟨?_,rfl⟩))
   ·rw[hv.2 (by rw[e3])]at e;cases e
   ·have hm:=hv.1 (by simpa using e)
    cases x;cases y
    simp only[w4.mk.injEq]at*
    exact⟨h1,hgr,h2,h3,hm⟩
 ·have hc:(bif (bif (!decide (x.name=y.name))then true else(!decide (x.kids=y.kids)))then true else(!decide (x.weight=y.weight)))=true:=by
   by_cases h1:x.name=y.name<;>by_cases h2:x.kids=y.kids<;>by_cases h3:x.weight=y.weight<;>simp[h1,h2,h3]<;>exact h ⟨h1,h2,h3⟩
  simp only[hc,Bool.not_true,oa,Option.bind_some,cond_true]
  exact Evt.pure (.inr ⟨fun e3=>h (by rw[e3];exact⟨rfl,rfl,rfl⟩),rfl⟩)
theorem CB{a:List w4}(ha:∀y∈a,Cd y)(b:List w4):Evt (fun n=>E6 n a b) (fun r=>r=true↔a=b):=by
 unfold E6
 refine Evt.cond (fun e=>Evt.pure (gM (Gt e))) (fun e=>?_)
 refine kI (fun n=>R8 n b a) a b (AF e) (fun k hk=>?_)
 unfold R8
 have hl:=AF e
 exact Evt.chk (by omega) (CA (ha _ (get_mem hk)))
theorem Jl{x:x7}(hB:LL x)(y:x7):Evt (fun n=>F5 n x y) (fun r=>r=true↔x=y):=by
 unfold F5
 by_cases h:x.word=y.word∧x.weight=y.weight
 ·obtain⟨h1,h2⟩:=h
  simp only[h1,h2,decide_true,cond_true,ig]
  refine Evt.bind (sN (by have:=hB.graph.nodes;omega) _) fun v hv=>?_
  cases v with
  |false=>
   simp only[cond_false,oa,Option.bind_some]
   exact Evt.pure (gM fun e3=>by have:=hv.2 (by rw[e3]);cases this)
  |true=>
   have hgr:=hv.1 rfl
   simp only[cond_true,ig]
   refine Evt.bind (Fo _ _ (Nat.le_refl _) hB.meaning _) fun v hv=>Evt.pure ⟨fun e=>?_,fun e=>hv.2 (by rw[e])⟩
   have hm:=hv.1 e
   cases x;cases y
   simp only[x7.mk.injEq]at*
   exact⟨h1,hgr,h2,hm⟩
 ·have hc:(bif (decide (x.word=y.word))then(decide (x.weight=y.weight))else false)=false:=by
   by_cases h1:x.word=y.word<;>by_cases h2:x.weight=y.weight<;>simp[h1,h2]<;>exact h ⟨h1,h2⟩
  simp only[hc,oa,Option.bind_some,cond_false]
  exact Evt.pure (gM fun e3=>h (by rw[e3];exact⟨rfl,rfl⟩))
theorem Jm{a:List x7}(ha:∀y∈a,LL y)(b:List x7):Evt (fun n=>X1 n a b) (fun r=>r=true↔a=b):=by
 unfold X1
 refine Evt.cond (fun e=>Evt.pure (gM (Gt e))) (fun e=>?_)
 refine kI (fun n=>R9 n b a) a b (AF e) (fun k hk=>?_)
 unfold R9
 have hl:=AF e
 refine Evt.chk (by omega) (Evt.bind (Jl (ha _ (get_mem hk)) _) fun v hv=>Evt.cond (fun e2=>Evt.pure (.inr ⟨fun e3=>?_,rfl⟩)) (fun e2=>Evt.pure (.inl ⟨?_,rfl⟩)))
 ·rw[hv.2 e3]at e2;cases e2
 ·exact hv.1 (by simpa using e2)
theorem CD{a:x9}(ha:uj a)(b:x9):Evt (fun n=>K0 n a b) (fun r=>r=true↔a=b):=by
 have ff:∀p:Prop,¬p→Evt (fun _:Nat=>some false) (fun r=>r=true↔p):=fun p h=>Evt.pure (gM h)
 unfold K0
 refine Evt.bind (Fm _ _) fun v1 h1=>?_
 cases v1 with
 |false=>
  simp only[oa,Option.bind_some,cond_false]
  exact ff _ fun e=>by have:=h1.2 (by rw[e]);cases this
 |true=>
  simp only[ig,cond_true]
  refine Evt.bind (CB ha.rule _) fun v2 h2=>?_
  cases v2 with
  |false=>
   simp only[oa,Option.bind_some,cond_false]
   exact ff _ fun e=>by have:=h2.2 (by rw[e]);cases this
  |true=>
   simp only[ig,cond_true]
   refine Evt.bind (Jm ha.lex _) fun v3 h3=>?_
   cases v3 with
   |false=>
    simp only[oa,Option.bind_some,cond_false]
    exact ff _ fun e=>by have:=h3.2 (by rw[e]);cases this
   |true=>
    simp only[ig,cond_true]
    refine Evt.bind (sN (by have:=ha.start.nodes;omega) _) fun v4 h4=>Evt.pure ⟨fun e=>?_,fun e=>h4.2 (by rw[e])⟩
    have q1:=h1.1 rfl
    have q2:=h2.1 rfl
    have q3:=h3.1 rfl
    have q4:=h4.1 e
    cases a;cases b
    simp only[x9.mk.injEq]at*
    exact⟨q1,q2,q3,q4⟩
set_option maxRecDepth 1000000 in
theorem AG(m:Nat):S0 (m+300)=some true:=by kernel_rfl
theorem yA:Evt S0 (fun b=>b=true):=⟨true,rfl,300,fun n hn=>by
 obtain⟨m,rfl⟩:∃m,n=m+300:=⟨n-300,by omega⟩
 exact AG m⟩
theorem bM{α ρ:Type}[Inhabited α](f:Nat→α→Option α)(l:List α)(b:Nat)(hb:b≤4096)(hl:l.length≤1048576)(hf:∀k,k<l.length→Evt (fun n=>f n (Am.get l k)) (fun v=>v=Am.get l k)):
 Evt (fun n=>D1 (ρ:=ρ) (fun(k:Nat) (s:List α)=>(f n (Am.get l k)).bind fun v=>cW (s++[v]) fun c=>chk (c.length*b≤top∧c.length≤top) (some (Ctl.nxt c))) l.length []) (ExP (fun t=>t=l) (fun _=>False)):=by
 refine(Evt.range (fun k (s:List α)=>s=l.take k) (fun _=>False) (fun _=>False) (by simp) (fun k s hk hs=>?_)).mono fun r hr=>?_
 ·refine Evt.bind (hf k hk) fun v hv=>Evt.cW (Evt.chk ?_ (Evt.pure ?_))
  ·have:(s++[v]).length=k+1:=by simp[hs];omega
   rw[this,M8]
   have:(k+1)*b≤1048576*4096:=Nat.mul_le_mul (by omega) hb
   omega
  ·show s++[v]=l.take (k+1)
   rw[hs,hv,U7 hk]
 ·cases r with
  |nxt t=>have:t=l.take l.length:=hr.elim id False.elim
          rw[List.take_length]at this
          exact this
  |ret x=>exact hr
theorem xM:∀(m:Nat) (s:u0),SizeOf.sizeOf s≤m→uh s→Evt (fun n=>X2 n s) (fun v=>v=s):=by
 intro m
 induction m with
 |zero=>intro s h;cases s;simp only[u0.mk.sizeOf_spec]at h;omega
 |succ m ih=>
  intro s hs hb
  obtain⟨_,h1,h2⟩:=hb
  refine Evt.succ ?_
  simp only[X2]
  refine Evt.C2 (bM (fun n x=>X2 n x) s.args 40 (by decide) h1 (fun k hk=>ih _ (by have:=ft hk;omega) (h2 k hk))) (fun t ht=>Evt.pure ?_) (fun _ h=>h.elim)
  have ht:t=s.args:=ht
  subst ht
  cases s;rfl
theorem sO:∀(m:Nat) (s:w6),SizeOf.sizeOf s≤m→Eb s→Evt (fun n=>aj n s) (fun v=>v=s):=by
 intro m
 induction m with
 |zero=>intro s h;cases s;simp only[w6.mk.sizeOf_spec]at h;omega
 |succ m ih=>
  intro s hs hb
  obtain⟨_,h0,h1,h2⟩:=hb
  refine Evt.succ ?_
  simp only[aj]
  refine Evt.bind (xM _ _ (Nat.le_refl _) h0) fun v hv=>?_
  refine Evt.C2 (bM (fun n x=>aj n x) s.args 96 (by decide) h1 (fun k hk=>ih _ (by have:=gC hk;omega) (h2 k hk))) (fun t ht=>Evt.pure ?_) (fun _ h=>h.elim)
  have ht:t=s.args:=ht
  subst ht hv
  cases s;rfl
theorem jy{g:y5}(h:g.nodes.length≤1048576):Evt (fun _=>aC g) (fun v=>v=g):=by
 unfold aC
 refine Evt.C2 (bM (fun _ x=>some (x5.mk x.type x.links)) g.nodes 32 (by decide) h (fun k hk=>Evt.pure (by generalize Am.get g.nodes k=x;cases x;rfl))) (fun t ht=>Evt.pure ?_) (fun _ h=>h.elim)
 have ht:t=g.nodes:=ht
 subst ht
 cases g;rfl
theorem sP{g:w5}(h:g.types.length≤1048576):Evt (fun _=>Y0 g) (fun v=>v=g):=by
 unfold Y0
 refine Evt.bind (P:=fun v=>v=g.B1) (Evt.pure rfl) fun v hv=>?_
 refine Evt.C2 (bM (fun _ x=>some (w8.mk x.name x.parents)) g.types 40 (by decide) h (fun k hk=>Evt.pure (by generalize Am.get g.types k=x;cases x;rfl))) (fun t ht=>Evt.pure ?_) (fun _ h=>h.elim)
 have ht:t=g.types:=ht
 subst ht hv
 cases g;rfl
theorem sQ{r:w4}(h:Cd r):Evt (fun n=>bN n r) (fun v=>v=r):=by
 unfold bN
 refine Evt.bind (jy h.graph.nodes) fun v hv=>Evt.bind (sO _ _ (Nat.le_refl _) h.meaning) fun w hw=>Evt.pure ?_
 subst hv hw
 cases r;rfl
theorem uR{r:x7}(h:LL r):Evt (fun n=>dc n r) (fun v=>v=r):=by
 unfold dc
 refine Evt.bind (jy h.graph.nodes) fun v hv=>Evt.bind (sO _ _ (Nat.le_refl _) h.meaning) fun w hw=>Evt.pure ?_
 subst hv hw
 cases r;rfl
theorem Jo{g:x9}(h:uj g):Evt (fun n=>pJ n g) (fun v=>v=g):=by
 unfold pJ
 refine Evt.bind (sP h.hier.types) fun v1 h1=>Evt.bind (jy h.start.nodes) fun v2 h2=>?_
 refine Evt.C2 (bM (fun n x=>bN n x) g.rules 152 (by decide) h.nr (fun k hk=>sQ (h.rule _ (get_mem hk)))) (fun t ht=>?_) (fun _ h=>h.elim)
 have ht:t=g.rules:=ht
 unfold mz
 refine Evt.C2 (bM (fun n x=>dc n x) g.y9 144 (by decide) h.nl (fun k hk=>uR (h.lex _ (get_mem hk)))) (fun u hu=>Evt.pure ?_) (fun _ h=>h.elim)
 have hu:u=g.y9:=hu
 subst h1 h2 ht hu
 cases g;rfl
noncomputable def sR(a:x9)(c:B4):w5:=if c.hierarchy.length=1 then Am.get c.hierarchy 0 else a.hierarchy
noncomputable def pK(a:x9)(c:B4):y5:=if c.start.length=1 then Am.get c.start 0 else a.start
noncomputable def Rr(a:x9)(c:B4):x9:=⟨sR a c,fol a.rules (W9 c) 0,fol a.y9 (cZ c) 0,pK a c⟩
def Fits(a:x9)(c:B4):Prop:=mU (W9 c) 0=a.rules.length∧mU (cZ c) 0=a.y9.length
theorem Qu{a:x9}{c:B4}(ha:uj a)(hc:Ap c)(hok:LM c):uj (Rr a c):=by
 have hR:(fol a.rules (W9 c) 0).length≤200*(W9 c).length:=Ee _ _ fun e he=>by
  unfold W9 at he
  obtain⟨x,hx,rfl⟩:=List.mem_map.1 he
  obtain⟨i,hi,rfl⟩:=pD.1 hx
  obtain⟨k0,k1,d0,d1,hp⟩:=hok.rok i hi
  exact⟨by show(Am.get c.rules i).keep.toNat≤100;omega,hp⟩
 have hL:(fol a.y9 (cZ c) 0).length≤200*(cZ c).length:=Ee _ _ fun e he=>by
  unfold cZ at he
  obtain⟨x,hx,rfl⟩:=List.mem_map.1 he
  obtain⟨i,hi,rfl⟩:=pD.1 hx
  obtain⟨k0,k1,d0,d1,hp⟩:=hok.lok i hi
  exact⟨by show(Am.get c.y9 i).keep.toNat≤100;omega,hp⟩
 have l1:(W9 c).length=c.rules.length:=by simp[W9]
 have l2:(cZ c).length=c.y9.length:=by simp[cZ]
 have k1:=hok.rules
 have k2:=hok.y9
 refine⟨?_,by show(fol a.rules (W9 c) 0).length≤_;omega,by show(fol a.y9 (cZ c) 0).length≤_;omega,fun y hy=>?_,fun y hy=>?_,?_⟩
 ·show KV (sR a c)
  unfold sR
  split
  ·exact hc.hier _ (get_mem (by omega))
  ·exact ha.hier
 ·rcases Ed _ _ hy with h|⟨e,he,h⟩
  ·exact ha.rule _ h
  ·unfold W9 at he
   obtain⟨x,hx,rfl⟩:=List.mem_map.1 he
   exact hc.rules _ hx _ h
 ·rcases Ed _ _ hy with h|⟨e,he,h⟩
  ·exact ha.lex _ h
  ·unfold cZ at he
   obtain⟨x,hx,rfl⟩:=List.mem_map.1 he
   exact hc.y9 _ hx _ h
 ·show xC (pK a c)
  unfold pK
  split
  ·exact hc.start _ (get_mem (by omega))
  ·exact ha.start
def LQ:x9:=⟨⟨[],[]⟩,[],[],⟨[]⟩⟩
def Rs(a:x9)(c:B4)(f:x6)(r:x9×x6):Prop:=(¬Fits a c∧r=(LQ,⟨9, -2⟩))∨(Fits a c∧f.code≠0∧r=(LQ,⟨f.code, -3⟩))∨(Fits a c∧f.code=0∧r=(Rr a c,⟨0,0⟩))
theorem Rs.uniq{a:x9}{c:B4}{f:x6}{r s:x9×x6}(h:Rs a c f r)(k:Rs a c f s):r=s:=by
 rcases h with⟨h1,rfl⟩|⟨h1,h2,rfl⟩|⟨h1,h2,rfl⟩<;>rcases k with⟨k1,rfl⟩|⟨k1,k2,rfl⟩|⟨k1,k2,rfl⟩
 ·rfl
 ·exact absurd k1 h1
 ·exact absurd k1 h1
 ·exact absurd h1 k1
 ·rfl
 ·exact absurd k2 h2
 ·exact absurd h1 k1
 ·exact absurd h2 k2
 ·rfl
theorem CF{α β:Type}[Inhabited α](l:List α)(hl:l.length≤1)(g:α→β)(b0:β):Evt (fun _=>D1 (ρ:=x9×x6) (fun(k:Nat) (_:β)=>some (Ctl.nxt (g (Am.get l k)))) l.length b0) (fun e=>e= .nxt (if l.length=1 then g (Am.get l 0)else b0)):=by
 match l,hl with
 | [],_=>exact Evt.pure rfl
 | [x],_=>exact Evt.pure rfl
theorem zo{α β:Type}[Inhabited α][Inhabited β](l:List α)(hl:l.length≤300)(g:α→β):Evt (fun _=>D1 (ρ:=x9×x6) (fun(k:Nat) (s:List β)=>cW (s++[g (Am.get l k)]) fun c=>chk (c.length*40≤top∧c.length≤top) (some (Ctl.nxt c))) l.length []) (ExP (fun t=>t.length=l.length∧∀k,k<t.length→Am.get t k=g (Am.get l k)) (fun _=>False)):=by
 refine(Evt.range (fun k (s:List β)=>s.length=k∧∀j,j<k→Am.get s j=g (Am.get l j)) (fun _=>False) (fun _=>False) ⟨rfl,fun j hj=>by omega⟩ (fun k s hk hs=>?_)).mono fun r hr=>?_
 ·obtain⟨h1,h2⟩:=hs
  have hlen:(s++[g (Am.get l k)]).length=k+1:=by simp[h1]
  refine Evt.cW (Evt.chk (by rw[hlen,M8];omega) (Evt.pure ⟨hlen,fun j hj=>?_⟩))
  show Am.get (s++[g (Am.get l k)]) j=_
  by_cases ej:j=k
  ·subst ej
   have:=kT (l:=s) (x:=g (Am.get l j))
   rwa[h1]at this
  ·rw[pF (by omega)]
   exact h2 j (by omega)
 ·cases r with
  |nxt t=>obtain⟨h1,h2⟩:=hr.elim id False.elim
          exact⟨h1,fun k hk=>h2 k (by omega)⟩
  |ret x=>exact hr
theorem KY{a:x9}{c:B4}(ha:uj a)(hcB:Ap c)(hg:Gp a)(hok:LM c)(hv:Evt (fun n=>N7 n a) (fun f=>f.code=0))(hck:Evt (fun _=>iO c) (fun f=>f.code=0)){f:x6}(hf:Evt (fun n=>N7 n (Rr a c)) (fun r=>r=f)):Evt (fun n=>ly n a c) (Rs a c f):=by
 have g2:=hg.rules
 have g3:=hg.y9
 unfold ly
 refine Evt.bind hv fun v hv=>Evt.cond (fun e=>?_) (fun _=>Evt.bind hck fun v hv=>Evt.cond (fun e=>?_) (fun _=>?_))
 ·replace e:=bx e
  exact absurd hv e
 ·replace e:=bx e
  exact absurd hv e
 refine Evt.C2 (zo (β:=w7) c.rules hok.rules (fun x=>w7.mk x.keep x.drop x.put)) (fun t0 ht0=>?_) (fun r hr=>hr.elim)
 unfold mA
 refine Evt.C2 (zo (β:=w9) c.y9 hok.y9 (fun x=>w9.mk x.keep x.drop x.put)) (fun t1 ht1=>?_) (fun r hr=>hr.elim)
 unfold mB
 refine Evt.C2 (CF c.hierarchy hok.hier (fun h=>(h.types,h.B1)) (a.hierarchy.types,a.hierarchy.B1)) (fun t2 ht2=>?_) (fun r hr=>by cases hr)
 unfold mC
 refine Evt.C2 (CF c.start hok.start (fun h=>h.nodes) a.start.nodes) (fun t3 ht3=>?_) (fun r hr=>by cases hr)
 have e2:t2=((sR a c).types,(sR a c).B1):=by
  cases ht2
  unfold sR
  split<;>rfl
 have e3:t3=(pK a c).nodes:=by
  cases ht3
  unfold pK
  split<;>rfl
 subst e2 e3
 unfold mE
 refine Evt.bind (AE hok (by omega) ht0.1 ht0.2) fun v27 h27=>Evt.bind (Cz hok (by omega) ht1.1 ht1.2) fun v28 h28=>?_
 refine Evt.cond (fun e=>?_) (fun e=>?_)
 ·refine Evt.bind (P:=fun v=>v=⟨9, -2⟩) (Evt.pure rfl) fun v hv=>Evt.pure (.inl ⟨fun h=>?_,by rw[hv];rfl⟩)
  rw[h27.1.2 h.1,h28.1.2 h.2]at e
  cases e
 ·simp only[Bool.cond_true_left,Bool.or_eq_false_iff,Bool.not_eq_false']at e
  have hfit:Fits a c:=⟨h27.1.1 e.1,h28.1.1 e.2⟩
  rw[h27.2 e.1,h28.2 e.2]
  refine Evt.bind hf fun v hv=>?_
  subst hv
  refine Evt.cond (fun e2=>?_) (fun e2=>?_)
  ·replace e2:=bx e2
   exact Evt.bind (P:=fun x=>x=⟨v.code, -3⟩) (Evt.pure rfl) fun x hx=>Evt.pure (.inr (.inl ⟨hfit,e2,by rw[hx];rfl⟩))
  ·replace e2:=bx e2
   exact Evt.bind (Jo (Qu ha hcB hok)) fun x hx=>Evt.pure (.inr (.inr ⟨hfit,e2,by rw[hx];rfl⟩))
end Go.Proofs.YtonfgoanbllceaaGreatDoor
