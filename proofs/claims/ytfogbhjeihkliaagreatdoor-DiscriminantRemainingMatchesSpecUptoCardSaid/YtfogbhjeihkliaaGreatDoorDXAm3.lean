/-
 AM, part 33: the rules that say less of what stands.
-/
import Derived.Scope
import Derived.Shelf.SlSortCmp.NoneTotal
import Derived.Shelf.Spec.SlicesGrow
import Derived.Test.YtfogbhjeihkliaaGreatDoorDXAm2
import Derived.Test.YtfogbhjeihkliaaGreatDoorDXLcs
set_option linter.unusedVariables false
set_option linter.unusedSimpArgs false
namespace Go.Am
open Go
section
variable {P:Program} {gl:Gl} {N n0:Nat} {keep:List Nat} {Q:AQ} {fr:Fr} {st:St} {c:Code} {w:World} {μ:Mu} {T:St}
theorem Sim.wk(hs:Sim w μ st)(hw:KA st T):Sim w μ T:=by
 have hk:=hw.kill
 refine⟨fun o ob' h=>?_,fun o1 o2 ob1 ob2 blk b1 b2 h1 h2 m1 m2=>?_⟩
 ·obtain⟨ob,h1,h2⟩:=hw.obs o ob' h
  have hob:=hs.obj o ob h1
  have hsc:=hw.sc o ob' h
  cases h2 with
  |same=>
   cases ob' with
   |arr g n b es=>
    obtain⟨a1,a2,a3⟩:=(hob:tj w μ st (μ o) n b es)
    refine(⟨a1,a2,?_⟩:tj w μ T (μ o) n b es)
    rcases a3 with a3|⟨blk,base,cc,ty,em,hh,hsz,hc⟩
    ·exact .inl a3
    ·exact .inr ⟨blk,base,cc,ty,em,hh,hsz,fun i j hi hj=>let ⟨v,e,hv,h1⟩:=hc i j hi hj;⟨v,e,hv.kill hk (iG (hsc _ (List.getElem_mem hi)) j hj),h1⟩⟩
   |mps ag es=>
    obtain⟨blk,ents,clock,em,hh,hsz,hc⟩:=(hob:td _ ag w μ _ (μ o) es).loc
    refine(⟨⟨blk,ents,clock,em,hh,hsz,fun i hi=>?_⟩⟩:td _ ag w μ T (μ o) es)
    obtain⟨e,e1,e2,e3⟩:=hc i hi
    refine⟨e,e1,e2,?_⟩
    have Ef:=hsc _ (List.getElem_mem hi)
    cases ag with
    |true=>exact VR.kill hk e3 Ef
    |false=>obtain⟨d,a,b⟩:=e3;rw[a]at Ef;exact⟨d,a,b.kill hk Ef.1⟩
   |mpi ag k es=>
    obtain⟨blk,ents,clock,em,hh,hsz,hc⟩:=(hob:td _ ag w μ _ (μ o) es).loc
    refine(⟨⟨blk,ents,clock,em,hh,hsz,fun i hi=>?_⟩⟩:td _ ag w μ T (μ o) es)
    obtain⟨e,e1,e2,e3⟩:=hc i hi
    refine⟨e,e1,e2,?_⟩
    have Ef:=hsc _ (List.getElem_mem hi)
    cases ag with
    |true=>exact VR.kill hk e3 Ef
    |false=>obtain⟨d,a,b⟩:=e3;rw[a]at Ef;exact⟨d,a,b.kill hk Ef.1⟩
   |sit=>exact hob
   |resv=>exact hob
  |arr g n b es es' hu=>
   obtain⟨u1,u2⟩:=hu.spec
   obtain⟨a1,a2,a3⟩:=(hob:tj w μ st (μ o) n b es)
   refine(⟨by rw[u1];exact a1,fun e he=>?_,?_⟩:tj w μ T (μ o) n b es')
   ·obtain⟨i,hi,e1⟩:=List.getElem_of_mem he
    rw[←e1,(u2 i (by omega) hi).len]
    exact a2 _ (List.getElem_mem _)
   ·rcases a3 with⟨a3,a4⟩|⟨blk,base,cc,ty,em,hh,hsz,hc⟩
    ·subst a4;left;exact⟨a3,List.eq_nil_of_length_eq_zero (by simpa using u1)⟩
    ·refine .inr ⟨blk,base,cc,ty,em,hh,by rw[u1];exact hsz,fun i j hi hj=>?_⟩
     have hu':=u2 i (by omega) hi
     obtain⟨v,e,hv,h1⟩:=hc i j (by omega) (by rw[←hu'.len];exact hj)
     exact⟨v,e,VR.up hs hk (hu'.get j _ hj) hv (iG (hsc _ (List.getElem_mem hi)) j hj),h1⟩
 ·obtain⟨XJ,e1,_⟩:=hw.obs o1 ob1 h1
  obtain⟨XK,e2,_⟩:=hw.obs o2 ob2 h2
  exact hs.inj o1 o2 _ _ blk b1 b2 e1 e2 m1 m2
theorem jt.sh{w':World}{m m':Option (Nat×Nat)}{a ob ob':Ob}(h:jt w w' m m' a ob)(hs:Qj ob ob'):jt w w' m m' a ob':=by
 cases ob<;>cases ob'<;>first|exact hs.elim|skip
 ·obtain⟨rfl,rfl,rfl,e⟩:=hs
  cases a<;>first|exact h|skip
  refine⟨h.1,fun hg=>?_⟩
  obtain⟨a1,a2,a3,a4,a5⟩:=h.2 hg
  exact⟨a1,a2,by rw[e];exact a3,a4,a5⟩
 ·cases a<;>first|exact h|skip
  exact⟨h.1.trans (Eq.symm hs),h.2⟩
 ·cases a<;>first|exact h|skip
  exact⟨h.1.trans hs.1.symm,h.2.1.trans hs.2.symm,h.2.2⟩
 ·cases a<;>exact h
 ·exact h
theorem Step.wk{w0:World}{μ0:Mu}{st0:St}(hl:st0.length≤T.length)(hw:KA st T)(h:Step w0 μ0 st0 w μ st):Step w0 μ0 st0 w μ T where
 size:=h.size
 os:=h.os
 output:=h.output
 tape:=h.tape
 imm:=h.imm
 own:=fun blk hb=>h.own blk (hw.kill.own hb)
 len:=hl
 keep:=fun o ob' ho h1=>by
  obtain⟨ob,e1,e2⟩:=hw.obs o ob' h1
  obtain⟨a,a1,a2⟩:=h.keep o ob ho e1
  exact⟨a,a1,a2.sh e2.sh⟩
def zp(st T:St)(fr:Fr):Fr→Prop
 | []=>True
 |(t,d)::r=>Up st T (fr.get t) d∧zp st T fr r
theorem zp.get:∀ {F:Fr},zp st T fr F→∀t,Up st T (fr.get t) (F.get t)
 | [],_,_=>.any _
 |(k,d)::r,h,t=>by
  simp only[Fr.get]
  split
  ·rename_i e;subst e;exact h.1
  ·exact h.2.get t
structure Bk(n0:Nat)(F:Fr)(T:St)(fr:Fr)(st:St):Prop where
 len:n0≤T.length
 wk:KA st T
 up:zp st T fr F
 sc:Fr.sc T.length F
theorem Ql{F:Fr}(hb:Bk n0 F T fr st)(h:AWp P gl N n0 keep c Q F T):AWp P gl N n0 keep c Q fr st:=
 fun w0 μ0 st0 hl0 a w ⟨μ,hc⟩=>h w0 μ0 st0 hl0 a w ⟨μ,hc.sim.wk hb.wk,Ba hc.glob (fun _ h=>hb.wk.kill.own h),
  fun t=>VR.up hc.sim hb.wk.kill (hb.up.get t) (hc.fr t) (Fr.Ib F hb.sc t),hc.size,hc.defers,Step.wk (by rw[hl0];exact hb.len) hb.wk hc.step⟩
def fin(n0:Nat)(R:D→St→Prop)(d:D)(st:St):Prop:=∃T d',n0≤T.length∧KA st T∧Up st T d d'∧D.sc T.length d'∧R d' T
@[congr] theorem Qm{n:Nat}{st st':St}{R:D→St→Prop}{d d':D}(h:d=d')(h2:st=st'):fin n R d st=fin n R d' st':=by rw[h,h2]
def Sn(P:Program)(rs:List ResultVar)(n0:Nat)(R:D→St→Prop):AQ
 | .exit _,_,_=>False
 | _,fr,st=>Pa P fr st rs∧fin n0 R (rsD P fr st rs) st
theorem NG{f:FuncId}{fn:Func}{c:Code}{args:List D}{R:D→St→Prop}{rs:List ResultVar}(keep:List Nat)(hf:P.funcs[f]? =some fn)(hb:fn.body=some c)(hN:fn.ntmps=N)(hr:fn.results.toList=rs)
 (hname:(fn.name != "runtime.NumGoroutine")=true) (hlen:Nat.ble args.length N=true)
 (h:qN st.length st→AWp P gl N st.length keep c (Sn P rs st.length R) (Bc 0 args) st):Spec P gl f args st R:=by
 subst hN hr
 have hlen:=Nat.le_of_ble_eq_true hlen
 refine⟨trivial,fun w μ vs hs hg hsz hvs=>.inl ⟨by unfold kE;rw[hf];simp[hb,hname],?_⟩⟩
 refine calls_of_wp hf hb ?_
 have hc:uV gl fn.ntmps w μ st (Bc 0 args) st { tmps:=vs++Array.replicate (fn.ntmps-vs.size) undef,defers:=[] } w μ:=by
  refine⟨hs,hg,fun t=>?_,by simp;omega,rfl,Step.refl _ _ _⟩
  rw[Ct]
  split
  ·rename_i ht
   have hts:t<vs.size:=by rw[hsz];omega
   have:=hvs t (by omega)
   rw[Array.getD_eq_getD_getElem?, Array.getElem?_append_left hts, ←Array.getD_eq_getD_getElem?]
   simpa using this
  ·exact .any _
 refine wp_mono (h hs.sc w μ st rfl _ w ⟨μ,hc⟩) fun e a' w' hq=>?_
 have fin:∀fr' st',Sn P fn.results.toList st.length R .ret fr' st'→Cp gl fn.ntmps w μ st fr' st' a' w'→a'.defers=[]∧∃v,(results fn a'.tmps).run P w'= .ok v w'∧
  ∃v' d Gq μ',Ending.returned v= .returned v'∧R d Gq∧Sim w' μ' Gq∧Step w μ st w' μ' Gq∧VR w' μ' Gq v' d:=by
  rintro fr' st' ⟨VO,T,d',hle,hw,hu,hsc,hR⟩ ⟨μ',hc'⟩
  obtain⟨v,h1,h2⟩:=Ic hc'.sim hc'.fr (Ft _ VO)
  exact⟨hc'.defers,v,h1,v,d',T,μ',rfl,hR,hc'.sim.wk hw,Step.wk hle hw hc'.step,VR.up hc'.sim hw.kill hu h2 hsc⟩
 cases e with
 |normal=>obtain⟨fr',st',h1,h2⟩:=hq;exact fin fr' st' h1 h2
 |ret=>obtain⟨fr',st',h1,h2⟩:=hq;exact fin fr' st' h1 h2
 |exit id=>obtain⟨fr',st',h1,h2⟩:=hq;exact h1.elim
 |goto=>exact hq.elim
 |panic=>exact hq.elim
 |outgrown=>exact hq.elim
inductive UpL(st T:St):St→St→Prop
 |nil (l:St):UpL st T l []
 |dead (x:Option Ob) (l l':St) (h:UpL st T l l'):UpL st T (x::l) (none::l')
 |live (ob ob':Ob) (l l':St) (h:IL st T ob ob') (hl:UpL st T l l'):UpL st T (some ob::l) (some ob'::l')
theorem UpL.lv{ob:Ob}{l l2:St}(h:UpL st T l l2):UpL st T (some ob::l) (some ob::l2):=.live _ _ _ _ (.same _) h
theorem IL.s{ob:Ob}:IL st T ob ob:=.same _
theorem Up.s{d:D}:Up st T d d:=.same _
theorem UpL.len:∀ {l l':St},UpL st T l l'→l'.length≤l.length
 | _,_,.nil _=>Nat.zero_le _
 | _,_,.dead _ _ _ h=>by simp[h.len]
 | _,_,.live _ _ _ _ _ h=>by simp[h.len]
theorem UpL.get:∀ {l l':St},UpL st T l l'→∀(j:Nat) (ob':Ob),l'[j]? =some (some ob')→∃ob,l[j]? =some (some ob)∧IL st T ob ob'
 | _,_,.nil _,j,ob',h=>by simp at h
 | _,_,.dead _ _ _ h,0,ob',e=>by simp at e
 | _,_,.dead _ _ _ h,j+1,ob',e=>by simpa using h.get j ob' (by simpa using e)
 | _,_,.live ob ob2 _ _ h _,0,ob',e=>by simp at e;subst e;exact⟨ob,rfl,h⟩
 | _,_,.live _ _ _ _ _ h,j+1,ob',e=>by simpa using h.get j ob' (by simpa using e)
def ScL(n:Nat):St→Prop
 | []=>True
 |none::l=>ScL n l
 |some ob::l=>ob.sc n∧ScL n l
theorem ScL.get{n:Nat}:∀ {l:St},ScL n l→∀(j:Nat) (ob:Ob),l[j]? =some (some ob)→ob.sc n
 |none::l,h,0,ob,e=>by simp at e
 |some a::l,h,0,ob,e=>by simp at e;subst e;exact h.1
 |none::l,h,j+1,ob,e=>ScL.get (l:=l) h j ob (by simpa using e)
 |some a::l,h,j+1,ob,e=>ScL.get (l:=l) h.2 j ob (by simpa using e)
end
mutual
theorem D.GN{n m:Nat}(h:n≤m):∀(d:D),D.sc n d→D.sc m d
 | .agg cs,hd=>D.wg h cs hd
 | .tup cs,hd=>D.wg h cs hd
 | .fn _ a b,hd=>⟨D.wg h a hd.1,D.wg h b hd.2⟩
 | .ref _ o _ _ _,hd=>(Nat.lt_of_lt_of_le hd h:o<m)
 | .ptr o _ _ _,hd=>(Nat.lt_of_lt_of_le hd h:o<m)
 | .mp o,hd=>(Nat.lt_of_lt_of_le hd h:o<m)
 | .it o,hd=>(Nat.lt_of_lt_of_le hd h:o<m)
 | .cond _ d,hd=>fun e=>D.GN h d (hd e)
 | .any,_=>trivial
 | .bool _,_=>trivial
 | .int _ _,_=>trivial
 | .str _,_=>trivial
 | .xg,_=>trivial
 | .F6,_=>trivial
 | .qI,_=>trivial
 | .Fj,_=>trivial
 | .sl _ _ _ _,_=>trivial
 | .tg _,_=>trivial
theorem D.wg{n m:Nat}(h:n≤m):∀(l:List D),D.scs n l→D.scs m l
 | [],_=>trivial
 |d::l,hd=>⟨D.GN h d hd.1,D.wg h l hd.2⟩
end
theorem Ob.GN{n m:Nat}(h:n≤m){ob:Ob}(hs:ob.sc n):ob.sc m:=by
 cases ob with
 |arr=>exact fun e he=>D.wg h _ (hs e he)
 |mps=>exact fun e he=>D.wg h _ (hs e he)
 |mpi=>exact fun e he=>D.wg h _ (hs e he)
 |sit=>trivial
 |resv=>trivial
theorem IQ{d:D}(h:d.imm=true)(n:Nat):D.sc n d:=by cases d<;>first|trivial|cases h
theorem Imm.sc{rows:List (List D)}(h:Imm rows)(n:Nat):∀e∈rows,D.scs n e:=fun e he=>
 tF fun j hj=>IQ (List.all_eq_true.1 (h e he) _ (List.getElem_mem _)) n
theorem IU{s l l':St}(hs:qN s.length s)(hu:UpL (s++l) (s++l') l l')(hl:ScL (s++l').length l'):KA (s++l) (s++l'):=by
 refine⟨by simp;exact hu.len,fun o ob' h=>?_,fun o ob' h=>?_⟩
 ·rcases Nat.lt_or_ge o s.length with ho|ho
  ·rw[List.getElem?_append_left ho]at h
   exact⟨ob',by rw[List.getElem?_append_left ho];exact h,.same _⟩
  ·rw[List.getElem?_append_right ho]at h
   obtain⟨ob,h1,h2⟩:=hu.get _ _ h
   exact⟨ob,by rw[List.getElem?_append_right ho];exact h1,h2⟩
 ·rcases Nat.lt_or_ge o s.length with ho|ho
  ·rw[List.getElem?_append_left ho]at h
   exact Ob.GN (by simp) (hs o ob' h)
  ·rw[List.getElem?_append_right ho]at h
   exact hl.get _ _ h
theorem CD{s l:St}(hs:qN s.length s):KA (s++l) s:=by
 have:=IU (l:=l) (l':=[]) hs (.nil l) trivial
 rwa[List.append_nil]at this
theorem vo{s:St}(hs:qN s.length s):KA s s:=by
 have:=CD (l:=[]) hs
 rwa[List.append_nil]at this
section
variable {P:Program} {gl:Gl} {N n0:Nat} {keep:List Nat} {Q:AQ} {fr:Fr} {st:St} {c:Code} {w:World} {μ:Mu} {T:St}
theorem Hu.refl(st:St):Hu st st:=⟨Nat.le_refl _,fun o ob h=>⟨ob,h,by cases ob<;>simp[Qj]⟩⟩
theorem Spec.up{f:FuncId}{args args':List D}{R:D→St→Prop}(h:Spec P gl f args' st R)(hu:Ups st st args args')(hsc:D.scs st.length args'):Spec P gl f args st R:=
 ⟨h.1,fun w μ vs h1 h2 h3 h4=>h.2 w μ vs h1 h2 (h3.trans hu.len.symm) fun j hj=>VR.up h1 (Hu.refl st) (hu.get j (by rw[←hu.len];exact hj) hj) (h4 j (by rw[←hu.len];exact hj)) (iG hsc j hj)⟩
theorem Pure.up{f:FuncId}{args args':List D}{r:D}(h:Pure P gl f args' r)(hu:∀st,Ups st st args args')(hi:args'.all D.imm=true∨∀n,D.scs n args'):Pure P gl f args r:=fun st=>
 (h st).up (hu st) (hi.elim (fun hi=>tF fun j _=>IQ (List.all_eq_true.1 hi _ (List.getElem_mem _)) _) (fun h=>h _))
theorem Qn(hs:Sim w μ st)(n b:Nat):
 Sim w (upd μ st.length none) (st++[some (.arr 0 n b [])])∧Step w μ st w (upd μ st.length none) (st++[some (.arr 0 n b [])]):=by
 have look:∀o ob,(st++[some (Ob.arr 0 n b [])])[o]? =some (some ob)→(o<st.length∧st[o]? =some (some ob))∨(o=st.length∧ob= .arr 0 n b []):=by
  intro o ob h
  rcases Nat.lt_or_ge o st.length with hl|hl
  ·rw[List.getElem?_append_left hl]at h;exact .inl ⟨hl,h⟩
  ·rw[List.getElem?_append_right hl]at h
   have:o-st.length=0:=by
    rcases Nat.eq_zero_or_pos (o-st.length)with h0|h0
    ·exact h0
    ·rw[List.getElem?_eq_none (by simp;omega)]at h;cases h
   rw[this]at h
   simp at h
   exact .inr ⟨by omega,h.symm⟩
 have step:Step w μ st w (upd μ st.length none) (st++[some (.arr 0 n b [])]):=by
  refine⟨Nat.le_refl _,rfl,rfl,⟨rfl,Nat.le_refl _⟩,fun _ _ _=>rfl,fun blk hw=>?_,by simp,fun o ob hl h=>?_⟩
  ·obtain⟨o,ob,base,h,hm⟩:=hw
   rcases look o ob h with⟨hl,h⟩|⟨e,_⟩
   ·rw[eI μ _ _ (by omega)]at hm;exact .inl ⟨o,ob,base,h,hm⟩
   ·subst e;rw[M7]at hm;cases hm
  ·rw[List.getElem?_append_left hl]at h
   refine⟨ob,h,?_⟩
   rw[eI μ _ _ (by omega)]
   exact jt.refl _ _ _
 refine⟨⟨fun o ob h=>?_,fun o1 o2 ob1 ob2 blk b1 b2 h1 h2 m1 m2=>?_⟩,step⟩
 ·rcases look o ob h with⟨hl,h⟩|⟨e,e2⟩
  ·rw[eI μ _ _ (by omega)]
   exact(hs.obj o ob h).step step (fun _ _ _=>rfl)
  ·subst e;subst e2
   exact(⟨by simp[top],fun e he=>(by cases he),.inl ⟨M7 _ _ _,rfl⟩⟩:tj w _ _ _ n b [])
 ·rcases look o1 ob1 h1 with⟨l1,h1⟩|⟨e,_⟩
  ·rcases look o2 ob2 h2 with⟨l2,h2⟩|⟨e,_⟩
   ·rw[eI μ _ _ (by omega)]at m1 m2
    exact hs.inj _ _ _ _ _ _ _ h1 h2 m1 m2
   ·subst e;rw[M7]at m2;cases m2
  ·subst e;rw[M7]at m1;cases m1
theorem oI(n b:Nat)(h:AWp P gl N n0 keep c Q fr (st++[some (.arr 0 n b [])])):AWp P gl N n0 keep c Q fr st:=
 fun w0 μ0 st0 hl0 a w ⟨_,hc⟩=>h w0 μ0 st0 hl0 a w (let ⟨k1,k2⟩:=Qn hc.sim n b;⟨_,k1,hc.glob.step k2,hc.fr.step k2,hc.size,hc.defers,hc.step.trans k2⟩)
theorem FL{s l:St}{d d':D}{R:D→St→Prop}(hsc:qN s.length s)(hu:Up (s++l) s d d')(hd:D.sc s.length d')(h:R d' s):fin s.length R d (s++l):=
 ⟨s,d',Nat.le_refl _,CD hsc,hu,hd,h⟩
end
theorem pL{s t:St}{k:Nat}:(s++t)[s.length+k]? =t[k]? :=by
 rw[List.getElem?_append_right (by omega)];congr 1;omega
theorem zq{s:St}{k:Nat}:look s (s.length+k)=none:=by
 unfold look;rw[List.getElem?_eq_none (by omega)];rfl
attribute [go_sem] Sn
section
variable {P:Program} {gl:Gl} {N n0:Nat} {keep:List Nat} {Q:AQ} {fr:Fr} {st:St}
end
def wr(k:IntKind)(n:Int):Int:=k.wrap n
def get{α:Type}[Inhabited α](l:List α)(k:Nat):α:=l.getD k default
def chk{α:Type}(p:Prop)[Decidable p](x:Option α):Option α:=if p then x else none
def eE{α β:Type}(a:α)(f:α→Option β):Option β:=f a
def gd{α:Type}(G:Bool)(x:Option α)(d:α):Option α:=bif G then x else some d
inductive Ctl(ρ σ τ:Type) where
 |nxt (s:σ)
 |brk (t:τ)
 |ret (x:ρ)
inductive Ex(ρ τ:Type) where
 |nxt (t:τ)
 |ret (x:ρ)
def B5{ρ τ:Type}(x:Option (Ex ρ τ))(k:τ→Option ρ):Option ρ:=
 match x with
 |none=>none
 |some (.nxt t)=>k t
 |some (.ret r)=>some r
def P4{ρ σ τ:Type}(body:σ→Option (Ctl ρ σ τ)):Nat→σ→Option (Ex ρ τ)
 |0,_=>none
 |n+1,s=>match body s with
  |none=>none
  |some (.nxt s')=>P4 body n s'
  |some (.brk t)=>some (.nxt t)
  |some (.ret x)=>some (.ret x)
def cX{ρ σ:Type}(body:Nat→σ→Option (Ctl ρ σ σ)):Nat→Nat→σ→Option (Ex ρ σ)
 |0,_,s=>some (.nxt s)
 |m+1,k,s=>match body k s with
  |none=>none
  |some (.nxt s')=>cX body m (k+1) s'
  |some (.brk s')=>some (.nxt s')
  |some (.ret x)=>some (.ret x)
def F2{ρ σ:Type}(body:Nat→σ→Option (Ctl ρ σ σ))(n:Nat)(s:σ):Option (Ex ρ σ):=cX body n 0 s
section
variable {α β ρ σ τ:Type}
theorem MD{p:Prop}[Decidable p]{x:Option α}{e:α}(h:chk p x=some e):p∧x=some e:=by
 unfold chk at h
 split at h
 ·rename_i hp;exact⟨hp,h⟩
 ·cases h
theorem oz{a:α}{f:α→Option β}{e:β}(h:eE a f=some e):∃y,y=a∧f y=some e:=⟨a,rfl,h⟩
theorem F9{x:Option α}{f:α→Option β}{e:β}(h:x.bind f=some e):∃v,x=some v∧f v=some e:=Option.bind_eq_some_iff.1 h
theorem Qo{c:Bool}{a b:Option α}{e:α}(h:(bif c then a else b)=some e)(hc:c=true):a=some e:=by subst hc;exact h
theorem Qp{c:Bool}{a b:Option α}{e:α}(h:(bif c then a else b)=some e)(hc:c=false):b=some e:=by subst hc;exact h
theorem tO{G:Bool}{x:Option α}{d v:α}(h:gd G x d=some v)(hG:G=true):x=some v:=by subst hG;exact h
end
def rows{α:Type}(E:α→List D)(l:List α):List (List D):=l.map E
class iH{α:Type}(E:α→List D)(n:outParam Nat):Prop where
 len:∀x,(E x).length=n
 one:∀x,(E x).all D.one=true
 imm:∀x,(E x).all D.imm=true
def bytesOf(s:Bs):List Int:=s.map fun c=>(c.toNat:Int)
def Z4(x:Int):List D:=[.int .i64 x]
def eZ(x:Int):List D:=[.int .u64 x]
def Sp(x:Int):List D:=[.int .i32 x]
def u8c(x:Int):List D:=[.int .u8 x]
def J9(x:Bool):List D:=[.bool x]
def pA(x:Bs):List D:=[.str x]
def slc{α:Type}(n b:Nat)(E:α→List D)(x:List α):List D:=[.sl false n b (rows E x)]
instance:iH Z4 1:=⟨fun _=>rfl,fun _=>rfl,fun _=>rfl⟩
instance:iH eZ 1:=⟨fun _=>rfl,fun _=>rfl,fun _=>rfl⟩
instance:iH Sp 1:=⟨fun _=>rfl,fun _=>rfl,fun _=>rfl⟩
instance:iH u8c 1:=⟨fun _=>rfl,fun _=>rfl,fun _=>rfl⟩
instance:iH J9 1:=⟨fun _=>rfl,fun _=>rfl,fun _=>rfl⟩
instance:iH pA 1:=⟨fun _=>rfl,fun _=>rfl,fun _=>rfl⟩
instance{α:Type}{n b:Nat}{E:α→List D}:iH (slc n b E) 1:=⟨fun _=>rfl,fun _=>rfl,fun _=>rfl⟩
section
variable {α:Type} {E:α→List D} {n:Nat}
theorem Ae(l:List α):(rows E l).length=l.length:=by simp[rows]
theorem Eo(x:α)(l:List α):rows E (x::l)=E x::rows E l:=rfl
theorem U8(l m:List α):rows E l++rows E m=rows E (l++m):=by simp[rows]
theorem IV(l:List α)(x:α):rows E l++[E x]=rows E (l++[x]):=by simp[rows]
theorem Qq(l:List α)(k:Nat):(rows E l).take k=rows E (l.take k):=by simp[rows,List.map_take]
theorem Qr(l:List α)(k:Nat):(rows E l).drop k=rows E (l.drop k):=by simp[rows,List.map_drop]
theorem CF(l:List α)(k:Nat)(x:α):(rows E l).set k (E x)=rows E (l.set k x):=by simp[rows]
theorem tP(m:Nat)(x:α):List.replicate m (E x)=rows E (List.replicate m x):=by simp[rows]
theorem Qs(l:List α):l.take l.length=l:=List.take_length
theorem N4[Inhabited α](l:List α)(k:Nat):(rows E l).getD k (E default)=E (get l k):=by
 simp only[rows,List.getD_eq_getElem?_getD,get,List.getElem?_map]
 cases l[k]? <;>rfl
theorem qg[Inhabited α]{l:List α}{k:Nat}{d:List D}(h:k<l.length):(rows E l).getD k d=E (get l k):=by
 simp[rows,get,h]
theorem ru[h:iH E n](l:List α):Imm (rows E l):=by
 intro e he
 obtain⟨s,_,rfl⟩:=List.mem_map.1 he
 exact h.imm s
theorem Sq[h:iH E n](l:List α)(m:Nat):(∀e∈rows E l,D.scs m e)=True:=eq_true (Imm.sc (ru l) m)
theorem Tj(x:Int):Z4 x=[.int .i64 x]:=rfl
theorem Tl(x:Int):eZ x=[.int .u64 x]:=rfl
theorem Tm(x:Int):Sp x=[.int .i32 x]:=rfl
theorem UA(x:Int):u8c x=[.int .u8 x]:=rfl
theorem Sr(x:Bool):J9 x=[.bool x]:=rfl
theorem Tn(x:Bs):pA x=[.str x]:=rfl
theorem UC{a b:Nat}(x:List α):slc a b E x=[.sl false a b (rows E x)]:=rfl
theorem NH(l:List Int)(k:Nat):(rows Z4 l).getD k [.int .i64 0]=[.int .i64 (get l k)]:=N4 (E:=Z4) l k
theorem Tp(l:List Int)(k:Nat):(rows eZ l).getD k [.int .u64 0]=[.int .u64 (get l k)]:=N4 (E:=eZ) l k
theorem Tq(l:List Int)(k:Nat):(rows Sp l).getD k [.int .i32 0]=[.int .i32 (get l k)]:=N4 (E:=Sp) l k
theorem UD(l:List Int)(k:Nat):(rows u8c l).getD k [.int .u8 0]=[.int .u8 (get l k)]:=N4 (E:=u8c) l k
theorem Ss(l:List Bool)(k:Nat):(rows J9 l).getD k [.bool false]=[.bool (get l k)]:=N4 (E:=J9) l k
theorem Tr(l:List Bs)(k:Nat):(rows pA l).getD k [.str []]=[.str (get l k)]:=N4 (E:=pA) l k
theorem UE{a b:Nat}(l:List (List α))(k:Nat):(rows (slc a b E) l).getD k [.sl false a b []]=[.sl false a b (rows E (get l k))]:=N4 (E:=slc a b E) l k
end
theorem ME(s:Bs):kB s=rows u8c (bytesOf s):=by simp[kB,rows,bytesOf,u8c]
def mrw{κ α:Type}(E:α→List D)(m:List (κ×α)):List (κ×List D):=m.map fun p=>(p.1,E p.2)
theorem Ts{κ α:Type}{E:α→List D}(m:List (κ×α)):(mrw E m).length=m.length:=by simp[mrw]
theorem Qt{κ α:Type}[DecidableEq κ]{E:α→List D}(k:κ)(m:List (κ×α)):assoc k (mrw E m)=(assoc k m).map E:=by
 induction m with
 |nil=>rfl
 |cons p m ih=>
  obtain⟨a,v⟩:=p
  simp only[mrw,List.map_cons,assoc]at ih⊢
  split
  ·rfl
  ·exact ih
theorem Ep{κ α:Type}[DecidableEq κ]{E:α→List D}(k:κ)(v:α)(m:List (κ×α)):Q6 k (E v) (mrw E m)=mrw E (Q6 k v m):=by
 induction m with
 |nil=>rfl
 |cons p m ih=>
  obtain⟨a,u⟩:=p
  simp only[mrw,List.map_cons,Q6]at ih⊢
  split
  ·rfl
  ·simp only[List.map_cons];rw[ih]
theorem NI{a b:Nat}{z dd:List D}{o:Option Int}:uO ⟨a,b,z,dd,some (.int .i64 0),.int .i64⟩ (o.map Z4)= .int .i64 (o.getD default):=by cases o<;>rfl
theorem MF{a b:Nat}{z dd:List D}{o:Option Bool}:uO ⟨a,b,z,dd,some (.bool false),.bool⟩ (o.map J9)= .bool (o.getD default):=by cases o<;>rfl
theorem NJ{a b:Nat}{z dd:List D}{o:Option Bs}:uO ⟨a,b,z,dd,some (.str []),.str⟩ (o.map pA)= .str (o.getD default):=by cases o<;>rfl
theorem Tt{κ α:Type}{E:α→List D}{n:Nat}[h:iH E n](l:List (κ×α))(m:Nat):(∀(a:κ) (b:List D),(a,b)∈mrw E l→D.scs m b)=True:=by
 refine eq_true fun a b hb=>?_
 obtain⟨⟨x,y⟩,h1,h2⟩:=List.mem_map.1 hb
 cases h2
 exact tF fun j hj=>IQ (List.all_eq_true.1 (h.imm y) _ (List.getElem_mem _)) m
theorem IW{st T:St}{d d':D}(h:d=d'):Up st T d d':=h▸ .same _
section
variable {P:Program} {gl:Gl} {N n0:Nat} {keep:List Nat} {Q:AQ} {fr:Fr} {st:St}
theorem lS{c:Code}(h:AWp P gl N n0 keep c Q fr st):AWp P gl N n0 keep (.scope c) Q fr st:=
 fun w0 μ0 st0 hl a w hc=>wp_scope_straight (wp_mono (h w0 μ0 st0 hl a w hc) fun e a' w' hq=>by
  cases e<;>exact hq)
theorem lT{l:Nat}(h:Q .normal fr st):AWp P gl N n0 keep (.label l) Q fr st:=
 fun w0 μ0 st0 hl a w hc=>wp_label ⟨fr,st,h,hc⟩
end
def ju{α:Type}(E:α→List D)(l:List α):List D:=(rows E l).flatten
theorem yd{α:Type}[Inhabited α]{E:α→List D}{l:List α}{k n:Nat}(hn:∀a,(E a).length=n)(hk:k<l.length):rowAt (ju E l) k n=E (get l k):=by
 induction l generalizing k with
 |nil=>cases hk
 |cons a l ih=>
  have e:ju E (a::l)=E a++ju E l:=by simp[ju,rows]
  rw[e]
  cases k with
  |zero=>simp only[rowAt,Nat.zero_mul,List.drop_zero];rw[←hn a,List.take_left];rfl
  |succ k=>
   have h2:rowAt (E a++ju E l) (k+1) n=rowAt (ju E l) k n:=by
    simp only[rowAt]
    rw[show(k+1)*n=(E a).length+k*n by rw[hn a,Nat.succ_mul,Nat.add_comm], ←List.drop_drop,List.drop_left]
   rw[h2];exact ih (by simpa using hk)
theorem yg{α:Type}{E:α→List D}{st T:St}{x ys:List α}{es:List (List D)}(h:nH st T es (rows E ys)):nH st T (rows E x++es) (rows E (x++ys)):=by
 rw[show rows E (x++ys)=rows E x++rows E ys by simp[rows]]
 induction x with
 |nil=>exact h
 |cons a x ih=>exact .cons _ _ _ _ (Ups.refl _) ih
theorem Ln{α:Type}(l:List α)(k:Nat):(l.drop k).take (l.length-k)=l.drop k:=List.take_of_length_le (by rw[List.length_drop];exact Nat.le_refl _)
theorem Qu{st:St}(a b:Nat):st.length+a+b=st.length+(a+b):=Nat.add_assoc _ _ _
theorem Qv{G:Bool}:iQ G True=True:=by simp[iQ]
theorem Sv{G:Bool}{p q:Prop}:iQ G (p∧q)=(iQ G p∧iQ G q):=by unfold iQ;exact propext ⟨fun h=>⟨fun e=>(h e).1,fun e=>(h e).2⟩,fun h e=>⟨h.1 e,h.2 e⟩⟩
instance{G:Bool}{p:Prop}[Decidable p]:Decidable (iQ G p):=by unfold iQ;exact inferInstance
instance{k:IntKind}{n:Int}:Decidable (InK k n):=by unfold InK;exact inferInstance
theorem Sw(k:IntKind)(n:Int):arith k n=⟨.int k (wr k n),True,[],none,none⟩:=rfl
theorem Tv(k:IntKind)(n:Int):k.wrap n=wr k n:=rfl
theorem H9{n:Int}(h1: -9223372036854775808≤n)(h2:n≤9223372036854775807):wr .i64 n=n:=by
 unfold wr
 exact AV (k:=.i64) ⟨h1,h2⟩
theorem GO{k n:Nat}(hk:k<n)(h:n≤9223372036854775807):wr .i64 ((k:Int)+1)=((k+1:Nat):Int):=by
 rw[H9 (by omega) (by omega)];omega
section
variable {P:Program} {gl:Gl} {N n0:Nat} {keep:List Nat} {Q:AQ} {fr:Fr} {st:St} {c x:Code} {id:Nat}
inductive BkS(n0:Nat)(F:Fr)(T:St):Fr→St→Prop
 |nil:BkS n0 F T F T
 |cons {F' fr:Fr} {T' st:St} (h:Bk n0 F' T' fr st) (ht:BkS n0 F T F' T'):BkS n0 F T fr st
theorem BkS.one{F:Fr}{T:St}(h:Bk n0 F T fr st):BkS n0 F T fr st:=.cons h .nil
theorem BkS.trans{F F':Fr}{T T':St}(h:BkS n0 F' T' fr st)(h2:BkS n0 F T F' T'):BkS n0 F T fr st:=by
 induction h with
 |nil=>exact h2
 |cons h _ ih=>exact .cons h ih
theorem R4{F:Fr}{T:St}(hb:BkS n0 F T fr st)(h:AWp P gl N n0 keep c Q F T):AWp P gl N n0 keep c Q fr st:=by
 induction hb with
 |nil=>exact h
 |cons hb _ ih=>exact Ql hb ih
theorem Af{s l l':St}{F:Fr}(hsc:qN s.length s)(hu:UpL (s++l) (s++l') l l')(hl:ScL (s++l').length l')(hf:zp (s++l) (s++l') fr F)(hs:Fr.sc (s++l').length F):
 BkS s.length F (s++l') fr (s++l):=.one ⟨by simp,IU hsc hu hl,hf,hs⟩
theorem Bo{s l:St}{F:Fr}(hsc:qN s.length s)(hf:zp (s++l) s fr F)(hs:Fr.sc s.length F):BkS s.length F s fr (s++l):=.one ⟨Nat.le_refl _,CD hsc,hf,hs⟩
theorem Lo{s:St}{F:Fr}(hsc:qN s.length s)(hf:zp s s fr F)(hs:Fr.sc s.length F):BkS s.length F s fr s:=.one ⟨Nat.le_refl _,vo hsc,hf,hs⟩
theorem lH{s t:St}:(s++t)[s.length]? =t[0]? :=pL (k:=0)
theorem nI{s:St}:look s s.length=none:=zq (k:=0)
theorem tQ{s t:St}{k:Nat}(h:t.length≤k):look (s++t) (s.length+k)=none:=by
 unfold look;rw[List.getElem?_eq_none (by simp;omega)];rfl
theorem CG{s:St}{d d':D}{R:D→St→Prop}(hsc:qN s.length s)(hu:Up s s d d')(hd:D.sc s.length d')(h:R d' s):fin s.length R d s:=
 ⟨s,d',Nat.le_refl _,vo hsc,hu,hd,h⟩
def Pm(P:Program)(rs:List ResultVar)(n0:Nat)(R:D→St→Prop):AQ
 | .exit _,_,_=>False
 | _,fr,st=>∃F T,BkS n0 F T fr st∧Pa P F T rs∧fin n0 R (rsD P F T rs) T
theorem UF{rs:List ResultVar}{R:D→St→Prop}(h:Sn P rs n0 R .ret fr st):Pm P rs n0 R .ret fr st:=⟨fr,st,.nil,h.1,h.2⟩
theorem FM{rs:List ResultVar}{R:D→St→Prop}(h:Sn P rs n0 R .ret fr st):Pm P rs n0 R .normal fr st:=⟨fr,st,.nil,h.1,h.2⟩
theorem Lp{rs:List ResultVar}{R:D→St→Prop}{F:Fr}{T:St}(hb:BkS n0 F T fr st)(h:Pm P rs n0 R .normal F T):Pm P rs n0 R .normal fr st:=by
 obtain⟨F',T',h1,h2⟩:=h
 exact⟨F',T',hb.trans h1,h2⟩
theorem Cp.bks{w0:World}{μ0:Mu}{st0:St}{a:Act}{w:World}{F:Fr}{T:St}(hl0:st0.length=n0)(hb:BkS n0 F T fr st)(h:Cp gl N w0 μ0 st0 fr st a w):Cp gl N w0 μ0 st0 F T a w:=by
 induction hb with
 |nil=>exact h
 |cons hb _ ih=>
  obtain⟨μ,hc⟩:=h
  exact ih ⟨μ,hc.sim.wk hb.wk,Ba hc.glob (fun _ h=>hb.wk.kill.own h),
   fun t=>VR.up hc.sim hb.wk.kill (hb.up.get t) (hc.fr t) (Fr.Ib _ hb.sc t),hc.size,hc.defers,Step.wk (by rw[hl0];exact hb.len) hb.wk hc.step⟩
theorem VP{f:FuncId}{fn:Func}{c:Code}{args:List D}{R:D→St→Prop}{rs:List ResultVar}(keep:List Nat)(hf:P.funcs[f]? =some fn)(hb:fn.body=some c)(hN:fn.ntmps=N)(hr:fn.results.toList=rs)
 (hname:(fn.name != "runtime.NumGoroutine")=true) (hlen:Nat.ble args.length N=true)
 (h:qN st.length st→AWp P gl N st.length keep c (Pm P rs st.length R) (Bc 0 args) st):Spec P gl f args st R:=by
 refine NG keep hf hb hN hr hname hlen fun hsc=>?_
 intro w0 μ0 st0 hl a w hc
 refine wp_mono (h hsc w0 μ0 st0 hl a w hc) fun e a' w' hq=>?_
 cases e with
 |normal=>
  obtain⟨fr',st',⟨F,T,h1,h2,h3⟩,h4⟩:=hq
  exact⟨F,T,⟨h2,h3⟩,h4.bks hl h1⟩
 |ret=>
  obtain⟨fr',st',⟨F,T,h1,h2,h3⟩,h4⟩:=hq
  exact⟨F,T,⟨h2,h3⟩,h4.bks hl h1⟩
 |exit id=>obtain⟨fr',st',h1,h2⟩:=hq;exact h1.elim
 |goto=>exact hq.elim
 |panic=>exact hq.elim
 |outgrown=>exact hq.elim
theorem iI{σ Γ ρ:Type}(K:σ→Option ρ)(e:ρ)(F:Γ→σ→Fr)(T:Γ→σ→St)(hk:∀γ s fr st,K s=some e→BkS n0 (F γ s) (T γ s) fr st→Q .normal fr st)
 (hx:(∀γ s fr st,K s=some e→BkS n0 (F γ s) (T γ s) fr st→Q .normal fr st)→AWp P gl N n0 keep x Q fr st):AWp P gl N n0 keep x Q fr st:=hx hk
def PBr{Γ ρ σ:Type}(n0 id:Nat)(F:Γ→Nat→σ→Fr)(T:Γ→Nat→σ→St)(Fb:Γ→σ→Fr)(Tb:Γ→σ→St)(Q:AQ)(k:Nat):Ctl ρ σ σ→AQ
 | .nxt s=>fun ex fr st=>ex= .normal∧∃γ,BkS n0 (F γ (k+1) s) (T γ (k+1) s) fr st
 | .brk s=>fun ex fr st=>ex= .exit id∧∃γ,BkS n0 (Fb γ s) (Tb γ s) fr st
 | .ret _=>fun ex fr st=>ex≠ .normal∧AQ.block id Q ex fr st
theorem arg_{Γ ρ σ:Type}{body:Nat→σ→Option (Ctl ρ σ σ)}{n:Nat}{s0:σ}{kk:σ→Option ρ}{e:ρ}(F:Γ→Nat→σ→Fr)(T:Γ→Nat→σ→St)(Fb:Γ→σ→Fr)(Tb:Γ→σ→St)(γ0:Γ)
 (h:B5 (F2 body n s0) kk=some e)
 (h0:BkS n0 (F γ0 0 s0) (T γ0 0 s0) fr st)
 (hs:∀γ k s b,k<n→body k s=some b→(∀x,b= .ret x→x=e)→AWp P gl N n0 keep c (PBr n0 id F T Fb Tb Q k b) (F γ k s) (T γ k s))
 (he:∀γ s,AWp P gl N n0 keep c (fun ex fr st=>ex= .exit id∧∃γ',BkS n0 (Fb γ' s) (Tb γ' s) fr st) (F γ n s) (T γ n s))
 (hk:∀γ s fr st,kk s=some e→BkS n0 (Fb γ s) (Tb γ s) fr st→Q .normal fr st):
 AWp P gl N n0 keep (.block id (.loop c)) Q fr st:=by
 refine Mv (R4 h0 ?_)
 unfold F2 at h
 have key:∀m k s γ,k+m=n→B5 (cX body m k s) kk=some e→AWp P gl N n0 keep (.loop c) (AQ.block id Q) (F γ k s) (T γ k s):=by
  intro m
  induction m with
  |zero=>
   intro k s γ hk' h1
   have:k=n:=by omega
   subst this
   refine tG (tH (he γ s) fun ex fr st hq=>?_)
   obtain⟨rfl,γ',hb⟩:=hq
   show AQ.block id Q (.exit id) fr st
   simp only[AQ.block,if_true]
   exact hk γ' s fr st h1 hb
  |succ m ih=>
   intro k s γ hk' h
   simp only[cX]at h
   cases hb:body k s with
   |none=>rw[hb]at h;cases h
   |some b=>
    rw[hb]at h
    refine tG (tH (hs γ k s b (by omega) hb ?_) fun ex fr st hq=>?_)
    ·intro x hx
     subst hx
     cases h;rfl
    ·cases b with
     |nxt s'=>
      obtain⟨rfl,γ',hb'⟩:=hq
      exact R4 hb' (ih (k+1) s' γ' (by omega) h)
     |brk s'=>
      obtain⟨rfl,γ',hb'⟩:=hq
      show AQ.block id Q (.exit id) fr st
      simp only[AQ.block,if_true]
      exact hk γ' s' fr st h hb'
     |ret x=>
      obtain⟨h1,h2⟩:=hq
      cases ex with
      |normal=>exact absurd rfl h1
      | _=>exact h2
 exact key n 0 s0 γ0 (by omega) h
def PBw{Γ Δ ρ σ τ:Type}(n0 id:Nat)(F:Γ→σ→Fr)(T:Γ→σ→St)(Fb:Δ→τ→Fr)(Tb:Δ→τ→St)(Q:AQ):Ctl ρ σ τ→AQ
 | .nxt s=>fun ex fr st=>ex= .normal∧∃γ,BkS n0 (F γ s) (T γ s) fr st
 | .brk s=>fun ex fr st=>ex= .exit id∧∃γ,BkS n0 (Fb γ s) (Tb γ s) fr st
 | .ret _=>fun ex fr st=>ex≠ .normal∧AQ.block id Q ex fr st
theorem E8{Γ Δ ρ σ τ:Type}{body:σ→Option (Ctl ρ σ τ)}{n:Nat}{s0:σ}{kk:τ→Option ρ}{e:ρ}(F:Γ→σ→Fr)(T:Γ→σ→St)(Fb:Δ→τ→Fr)(Tb:Δ→τ→St)(γ0:Γ)
 (h:B5 (P4 body n s0) kk=some e)
 (h0:BkS n0 (F γ0 s0) (T γ0 s0) fr st)
 (hs:∀γ s b,body s=some b→(∀x,b= .ret x→x=e)→AWp P gl N n0 keep c (PBw n0 id F T Fb Tb Q b) (F γ s) (T γ s))
 (hk:∀γ s fr st,kk s=some e→BkS n0 (Fb γ s) (Tb γ s) fr st→Q .normal fr st):
 AWp P gl N n0 keep (.block id (.loop c)) Q fr st:=by
 refine Mv (R4 h0 ?_)
 have key:∀m s γ,B5 (P4 body m s) kk=some e→AWp P gl N n0 keep (.loop c) (AQ.block id Q) (F γ s) (T γ s):=by
  intro m
  induction m with
  |zero=>intro s γ h;cases h
  |succ m ih=>
   intro s γ h
   simp only[P4]at h
   cases hb:body s with
   |none=>rw[hb]at h;cases h
   |some b=>
    rw[hb]at h
    refine tG (tH (hs γ s b hb ?_) fun ex fr st hq=>?_)
    ·intro x hx
     subst hx
     cases h;rfl
    ·cases b with
     |nxt s'=>
      obtain⟨rfl,γ',hb'⟩:=hq
      exact R4 hb' (ih s' γ' h)
     |brk s'=>
      obtain⟨rfl,γ',hb'⟩:=hq
      show AQ.block id Q (.exit id) fr st
      simp only[AQ.block,if_true]
      exact hk γ' s' fr st h hb'
     |ret x=>
      obtain⟨h1,h2⟩:=hq
      cases ex with
      |normal=>exact absurd rfl h1
      | _=>exact h2
 exact key n s0 γ0 h
section
variable {Γ Δ ρ σ τ:Type} {F:Γ→σ→Fr} {T:Γ→σ→St} {Fb:Δ→τ→Fr} {Tb:Δ→τ→St} {Fk:Γ→Nat→σ→Fr} {Tk:Γ→Nat→σ→St} {Fc:Γ→σ→Fr} {Tc:Γ→σ→St} {k:Nat} {ex:KR}
theorem gW{s:σ}(γ:Γ)(h:BkS n0 (Fk γ (k+1) s) (Tk γ (k+1) s) fr st):PBr (ρ:=ρ) n0 id Fk Tk Fc Tc Q k (.nxt s) .normal fr st:=⟨rfl,γ,h⟩
theorem F4{x:ρ}(h:AQ.block id Q .ret fr st):PBr n0 id Fk Tk Fc Tc Q k (.ret x) .ret fr st:=⟨KR.noConfusion,h⟩
theorem F5{s:σ}(γ:Γ)(h:BkS n0 (F γ s) (T γ s) fr st):PBw (ρ:=ρ) n0 id F T Fb Tb Q (.nxt s) .normal fr st:=⟨rfl,γ,h⟩
theorem K7{s:τ}(γ:Δ)(h:BkS n0 (Fb γ s) (Tb γ s) fr st):PBw (ρ:=ρ) n0 id F T Fb Tb Q (.brk s) (.exit id) fr st:=⟨rfl,γ,h⟩
theorem aP{x:ρ}(h:AQ.block id Q .ret fr st):PBw n0 id F T Fb Tb Q (.ret x) .ret fr st:=⟨KR.noConfusion,h⟩
end
end
attribute [simp] Tt ScL Ob.sc D.sc D.scs Fr.sc Sq
attribute [go_sem] ME or_true Int.cast_ofNat_Int Tj Tl Tm UA Sr Tn UC Int.reduceEq Int.reduceNe Nat.zero_le true_or List.length_replicate Option.mem_def Option.map_some Option.map_none false_implies forall_eq' Option.isSome_none Option.some.injEq Qu Int.le_refl decide_true decide_false Ts Qt NI MF NJ Qq Qr Ln Tv IntKind.bits Option.isSome_map List.drop_zero Int.toNat_zero Int.reduceToNat Int.reduceNeg Int.reduceLT Int.reduceLE Nat.reducePow Sw Qv Sv Option.isSome_some Ae Qs NH Tp Tq UD Ss Tr UE Int.toNat_natCast Nat.zero_add Nat.sub_zero Nat.le_refl Int.natCast_nonneg Int.ofNat_lt reduceCtorEq
 Nat.reduceAdd Nat.reduceEqDiff Nat.reduceLT Nat.reduceLeDiff Nat.reduceMul Nat.reduceSub Nat.reduceBEq Nat.reduceBNe reduceIte
def aZ(st:St):List (Nat×Ob)→St
 | []=>st
 |(o,x)::m=>(aZ st m).set o (some x)
def Er:List (Nat×Ob)→Nat→Option Ob→Option Ob
 | [],_,d=>d
 |(a,x)::m,o,d=>if o=a then some x else Er m o d
def NK:List (Nat×Ob)→Nat→Ob→List (Nat×Ob)
 | [],o,x=>[(o,x)]
 |(a,y)::m,o,x=>if o=a then(a,x)::m else(a,y)::NK m o x
theorem mO(st:St):∀m:List (Nat×Ob),(aZ st m).length=st.length
 | []=>rfl
 |(o,x)::m=>by simp[aZ,mO st m]
theorem Tw{st l:St}{o:Nat}(ho:o<st.length):∀m:List (Nat×Ob),look (aZ st m++l) o=Er m o (look st o)
 | []=>by
  simp only[aZ,Er]
  unfold look
  rw[List.getElem?_append_left ho]
 |(a,x)::m=>by
  have ih:=Tw (l:=l) ho m
  have hl:=mO st m
  simp only[aZ,Er]
  unfold look at ih⊢
  rw[List.getElem?_append_left (by simp[hl];exact ho)]
  rw[List.getElem?_append_left (by rw[hl];exact ho)]at ih
  rw[List.getElem?_set]
  by_cases e:o=a
  ·subst e;rw[if_pos rfl,if_pos (by rw[hl];exact ho),if_pos rfl];rfl
  ·rw[if_neg (fun h=>e h.symm),if_neg e];exact ih
theorem Tx{st:St}{o:Nat}(ho:o<st.length)(m:List (Nat×Ob)):look (aZ st m) o=Er m o (look st o):=by
 have:=Tw (l:=[]) ho m
 rwa[List.append_nil]at this
theorem eF{st l:St}{m:List (Nat×Ob)}{k:Nat}:look (aZ st m++l) (st.length+k)=look l k:=by
 rw[←mO st m];exact cW
theorem NM{st l:St}{m:List (Nat×Ob)}:look (aZ st m++l) st.length=look l 0:=eF (k:=0)
theorem Tz{st l:St}{o:Nat}{x:Ob}(ho:o<st.length):∀m:List (Nat×Ob),(aZ st m++l).set o (some x)=aZ st (NK m o x)++l
 | []=>by simp only[NK,aZ];rw[List.set_append_left _ _ ho]
 |(a,y)::m=>by
  have ih:=Tz (l:=l) (x:=x) ho m
  have hl:=mO st m
  simp only[aZ,NK]
  rw[List.set_append_left _ _ (by simp[hl];exact ho)]
  rw[List.set_append_left _ _ (by rw[hl];exact ho)]at ih
  have ih':=List.append_cancel_right ih
  split
  ·rename_i e;subst e
   simp[aZ,List.set_set]
  ·rename_i e
   simp only[aZ]
   rw[List.set_comm _ _ (fun h=>e h.symm),ih']
theorem TA{st:St}{o:Nat}{x:Ob}(ho:o<st.length)(m:List (Nat×Ob)):(aZ st m).set o (some x)=aZ st (NK m o x):=by
 have:=Tz (l:=[]) (x:=x) ho m
 rwa[List.append_nil,List.append_nil]at this
theorem IX{st l:St}{m:List (Nat×Ob)}{k:Nat}{x:Option Ob}:(aZ st m++l).set (st.length+k) x=aZ st m++l.set k x:=by
 rw[←mO st m];exact Ik
theorem Pn{st l:St}{m:List (Nat×Ob)}{x:Option Ob}:(aZ st m++l).set st.length x=aZ st m++l.set 0 x:=IX (k:=0)
theorem IY{st l:St}{m:List (Nat×Ob)}{k:Nat}:(aZ st m++l)[st.length+k]? =l[k]? :=by
 rw[←mO st m];exact pL
theorem Qw{st l:St}{m:List (Nat×Ob)}:(aZ st m++l).length=st.length+l.length:=by rw[List.length_append,mO]
theorem N5{st:St}:∀ {m:List (Nat×Ob)},(∀p∈m,look st p.1=some p.2)→aZ st m=st
 | [],_=>rfl
 |(o,x)::m,h=>by
  simp only[aZ]
  rw[N5 (fun p hp=>h p (List.mem_cons_of_mem _ hp))]
  have:=U3 (h (o,x) (List.mem_cons_self ..))
  apply List.ext_getElem?
  intro i
  rw[List.getElem?_set]
  split
  ·rename_i e;subst e
   have hl:=(List.getElem?_eq_some_iff.1 this).1
   rw[if_pos hl,this]
  ·rfl
theorem T6{st:St}{o:Nat}{x:Ob}(h:look st o=some x):o<st.length:=(List.getElem?_eq_some_iff.1 (U3 h)).1
def scM(n:Nat):List (Nat×Ob)→Prop
 | []=>True
 |(_,x)::m=>x.sc n∧scM n m
theorem vr{st:St}(h:qN st.length st):∀ {m:List (Nat×Ob)},scM st.length m→qN (aZ st m).length (aZ st m)
 | [],_=>h
 |(o,x)::m,hm=>by
  have ih:=vr h hm.2
  intro o' ob e
  simp only[aZ]at e⊢
  rw[List.length_set]
  rw[List.getElem?_set]at e
  split at e
  ·split at e
   ·cases e;rw[mO];exact hm.1
   ·cases e
  ·exact ih o' ob e
section
variable {P:Program} {gl:Gl} {N n0:Nat} {keep:List Nat} {Q:AQ} {fr:Fr} {st:St} {c:Code}
theorem mJ{s s':St}(e:s'=s)(h:AWp P gl N n0 keep c Q fr s'):AWp P gl N n0 keep c Q fr s:=e▸h
theorem Qx{s l l':St}{F:Fr}(hn:n0≤s.length)(hsc:qN s.length s)(hu:UpL (s++l) (s++l') l l')(hl:ScL (s++l').length l')(hf:zp (s++l) (s++l') fr F)(hs:Fr.sc (s++l').length F):
 BkS n0 F (s++l') fr (s++l):=.one ⟨by simp;omega,IU hsc hu hl,hf,hs⟩
theorem NP{s l:St}{F:Fr}(hn:n0≤s.length)(hsc:qN s.length s)(hf:zp (s++l) s fr F)(hs:Fr.sc s.length F):BkS n0 F s fr (s++l):=.one ⟨hn,CD hsc,hf,hs⟩
theorem Lq{s:St}{F:Fr}(hn:n0≤s.length)(hsc:qN s.length s)(hf:zp s s fr F)(hs:Fr.sc s.length F):BkS n0 F s fr s:=.one ⟨hn,vo hsc,hf,hs⟩
theorem Lr{s l:St}{d d':D}{R:D→St→Prop}(hn:n0≤s.length)(hsc:qN s.length s)(hu:Up (s++l) s d d')(hd:D.sc s.length d')(h:R d' s):fin n0 R d (s++l):=
 ⟨s,d',hn,CD hsc,hu,hd,h⟩
theorem IZ{s:St}{d d':D}{R:D→St→Prop}(hn:n0≤s.length)(hsc:qN s.length s)(hu:Up s s d d')(hd:D.sc s.length d')(h:R d' s):fin n0 R d s:=
 ⟨s,d',hn,vo hsc,hu,hd,h⟩
mutual
def D.flat:D→Bool
 | .bool _=>true
 | .int _ _=>true
 | .str _=>true
 | .agg cs=>D.GP cs
 | .tup cs=>D.GP cs
 | _=>false
def D.GP:List D→Bool
 | []=>true
 |d::l=>d.flat&&D.GP l
end
theorem yh:∀ {l:List D},D.GP l=true→∀j (h:j<l.length),(l[j]).flat=true
 |d::l,h,0,_=>by simp only[D.GP,Bool.and_eq_true]at h;exact h.1
 |d::l,h,j+1,hj=>by
  simp only[D.GP,Bool.and_eq_true]at h
  exact yh (l:=l) h.2 j (by simpa using hj)
theorem VR.flat{w w':World}{μ μ':Mu}{s s':St}{v:Value}{d:D}(h:VR w μ s v d)(hf:d.flat=true):VR w' μ' s' v d:=by
 induction h with
 |any=>cases hf
 |tr h=>
  cases h with
  |bool b=>exact .tr (.bool b)
  |int k n=>exact .tr (.int k n)
  |str x=>exact .tr (.str x)
  | _=>cases hf
 |agg vs cs hs hc ih=>exact .agg vs cs hs fun j hj=>ih j hj (yh hf j hj)
 |tup vs cs hs hc ih=>exact .tup vs cs hs fun j hj=>ih j hj (yh hf j hj)
 |fn=>cases hf
 |ref=>cases hf
 |ptr=>cases hf
 |mp=>cases hf
 |it=>cases hf
 |cond=>cases hf
def dead(st:St):St:=List.replicate st.length none
theorem tR{st:St}{o:Nat}{ob:Ob}:¬(dead st)[o]? =some (some ob):=by
 unfold dead
 rw[List.getElem?_replicate]
 split<;>simp
theorem tS{st:St}{o:Nat}:look (dead st) o=none:=by
 cases h:look (dead st) o with
 |none=>rfl
 |some x=>exact absurd (U3 h) tR
theorem FN{μ:Mu}{st:St}{blk:Nat}:¬own μ (dead st) blk:=fun⟨_,_,_,h,_⟩=>tR h
theorem Ja{st:St}:Hu st (dead st):=⟨by simp[dead],fun _ _ h=>absurd h tR⟩
theorem Pure.borrow{f:FuncId}{args args':List D}{r:D}(h:Pure P gl f args' r)(hu:Ups st (dead st) args args')(hsc:D.scs (dead st).length args')(hr:r.flat=true){R:D→St→Prop}(hR:R r st):Spec P gl f args st R:=by
 refine⟨(h st).1,fun w μ vs hs hg hsz hvs=>?_⟩
 have hs0:Sim w μ (dead st):=⟨fun o ob e=>absurd e tR,fun o _ _ _ _ _ _ e=>absurd e tR⟩
 have hg0:Glob gl w μ (dead st):=Ba hg (fun blk hb=>absurd hb FN)
 have hv0:∀j (hj:j<args'.length),VR w μ (dead st) (vs.getD j undef) (args'[j]):=fun j hj=>by
  have hj':j<args.length:=by rw[←hu.len];exact hj
  exact VR.up hs Ja (hu.get j hj' hj) (hvs j hj') (iG hsc j hj)
 refine((h (dead st)).2 w μ vs hs0 hg0 (by rw[hsz,hu.len]) hv0).mono fun e w' ⟨v,d,st',μ',he,⟨hd,hst⟩,hs',hstep,hv⟩=>?_
 subst hd;subst hst
 have hblk:∀blk,blk<w.heap.size→w'.heap[blk]? =w.heap[blk]? :=fun blk hb=>hstep.imm blk hb FN
 have hlt:∀ {blk:Nat},(w.heap[blk]?).isSome=true→blk<w.heap.size:=fun {blk} e=>by
  rcases Nat.lt_or_ge blk w.heap.size with h|h
  ·exact h
  ·rw[Array.getElem?_eq_none h]at e;cases e
 have step:Step w μ st w' μ st:={
  size:=hstep.size,os:=hstep.os,output:=hstep.output,tape:=hstep.tape
  imm:=fun blk hb _=>hblk blk hb
  own:=fun blk hb=>.inl hb
  len:=Nat.le_refl _
  keep:=fun o ob ho e=>⟨ob,e,by
   cases ob with
   |arr g n b es=>exact⟨Nat.le_refl _,fun _=>⟨rfl,rfl,rfl,rfl,fun blk base c ty _ hh=>⟨c,by rw[hblk blk (hlt (by rw[hh];rfl))];exact hh,rfl⟩⟩⟩
   |mps=>exact⟨rfl,rfl⟩
   |mpi=>exact⟨rfl,rfl,rfl⟩
   |sit=>exact rfl
   |resv=>exact trivial⟩ }
 refine⟨v,d,st,μ,he,hR,⟨fun o ob e=>?_,hs.inj⟩,step,hv.flat hr⟩
 have hob:=hs.obj o ob e
 refine hob.step step fun blk base em=>?_
 cases ob with
 |arr g n b es=>
  obtain⟨_,_,h3⟩:=(hob:tj w μ st (μ o) n b es)
  rcases h3 with⟨h3,_⟩|⟨wA,base',c,ty,em',hh,_⟩
  ·rw[em]at h3;cases h3
  ·rw[em]at em';cases em';exact hblk _ (hlt (by rw[hh];rfl))
 |mps ag es=>
  obtain⟨wA,ents,clock,em',hh,_⟩:=(hob:td _ ag w μ _ (μ o) es).loc
  rw[em]at em';cases em';exact hblk _ (hlt (by rw[hh];rfl))
 |mpi ag k es=>
  obtain⟨wA,ents,clock,em',hh,_⟩:=(hob:td _ ag w μ _ (μ o) es).loc
  rw[em]at em';cases em';exact hblk _ (hlt (by rw[hh];rfl))
 |sit s p=>
  obtain⟨wA,em',hh⟩:=hob
  rw[em]at em';cases em';exact hblk _ (hlt (by rw[hh];rfl))
 |resv=>
  have:μ o=none:=hob
  rw[em]at this;cases this
end
section
variable {P:Program} {gl:Gl} {st:St}
theorem Pure.freeze{f:FuncId}{args args':List D}{r:D}{T:St}(h:Pure P gl f args' r)(hw:KA st T)(hl:st.length≤T.length)(hu:Ups st T args args')(hsc:D.scs T.length args'){R:D→St→Prop}(hR:R r T):Spec P gl f args st R:=by
 refine⟨(h T).1,fun w μ vs hs hg hsz hvs=>?_⟩
 have hv0:∀j (hj:j<args'.length),VR w μ T (vs.getD j undef) (args'[j]):=fun j hj=>by
  have hj':j<args.length:=by rw[←hu.len];exact hj
  exact VR.up hs hw.kill (hu.get j hj' hj) (hvs j hj') (iG hsc j hj)
 refine((h T).2 w μ vs (hs.wk hw) (Ba hg (fun _ h=>hw.kill.own h)) (by rw[hsz,hu.len]) hv0).mono fun e w' ⟨v,d,st',μ',he,⟨hd,hst⟩,hs',hstep,hv⟩=>?_
 subst hd;subst hst
 exact⟨v,d,st',μ',he,hR,hs',(Step.wk hl hw (Step.refl w μ st)).trans hstep,hv⟩
end
attribute [simp] scM mO
attribute [go_sem] Er NK eF NM IX Pn Qw mO
theorem Jb{st:St}{m:List (Nat×Ob)}{k:Nat}:look (aZ st m) (st.length+k)=none:=by rw[←mO st m];exact zq
attribute [go_sem] RZ PA
section
variable {P:Program} {gl:Gl} {N b:Nat} {fr:Fr} {st:St} {dst:Option Nat} {f:FuncId} {args:List D} {r:D} {lg:Log} {tr G:Bool} {kk:Log→Fr→St→Prop} {k:Fr→St→Prop}
theorem Ag(rd:List Nat){ups:List (Nat×Ob)}(h:∀st2,(∀o∈rd,look st2 o=look st o)→Spec P gl f args st2 fun d st'=>d=r∧st'=puts st2 ups)(hu:∀p∈ups,p.1∈rd)
 (hrd:∀o∈rd,o<b∧∃ob,look st o=some ob∧ob≠ .resv) (ht:tr=false→rd=[]) (hk:kk (rm tr lg ⟨r,True,rd,none,none⟩ ups) (fr.qh dst r) (puts st ups)):
 GH P gl b tr dst lg fr st kk f args:=
 ⟨r,rd,ups,h,hu,hrd,ht,hk⟩
end
section
variable {P:Program} {gl:Gl} {N n0:Nat} {keep:List Nat} {Q:AQ} {fr:Fr} {st:St} {x y:Code} {o:Operand} {i:Nat}
theorem rz(h:AWp P gl N n0 keep (.seq x y) (AQ.block i Q) fr st):AWp P gl N n0 keep (.block i (.seq x y)) Q fr st:=Mv h
theorem oJ(h:AWp P gl N n0 keep (.cond o x y) (AQ.block i Q) fr st):AWp P gl N n0 keep (.block i (.cond o x y)) Q fr st:=Mv h
theorem rA{k:Nat}{l:Array Oper}{b:Bool}(h:AWp P gl N n0 keep (.region k l b) (AQ.block i Q) fr st):AWp P gl N n0 keep (.block i (.region k l b)) Q fr st:=Mv h
theorem rB{k:Nat}(h:AWp P gl N n0 keep (.block k x) (AQ.block i Q) fr st):AWp P gl N n0 keep (.block i (.block k x)) Q fr st:=Mv h
theorem lU(h:AWp P gl N n0 keep (.scope x) (AQ.block i Q) fr st):AWp P gl N n0 keep (.block i (.scope x)) Q fr st:=Mv h
theorem rn{A B:Prop}(b:B)(e:B→A:=by
 intro hb;(try simp only[go_sem,fx]);(repeat (first|apply sq_|(apply er_;simp only[go_sem,fx])|(apply Mt;(try simp only[go_sem,fx]))|(apply gV;(try simp only[go_sem,fx]))|apply rz|apply oJ|apply rA|apply rB|apply lU|apply lS|(apply lT;(try simp only[go_sem,fx]))));exact hb):A:=e b
theorem r0{A B:Prop}(b:B)(e:B→A:=by
 intro hb;(try simp only[go_sem,fx]);(repeat apply sq_);(first|(apply er_;simp only[go_sem,fx])|(apply Mt;(try simp only[go_sem,fx]))|(apply gV;(try simp only[go_sem,fx]))|apply rz|apply oJ|apply rA|apply rB|apply lU|apply lS|(apply lT;(try simp only[go_sem,fx])));exact hb):A:=e b
theorem r1{A B:Prop}(b:B)(e:B→A:=by
 intro hb;(try simp only[go_sem,fx]);(repeat apply sq_);apply er_;simp only[go_sem,fx,fy];exact hb):A:=e b
theorem rs{A B:Prop}(b:B)(e:B→A:=by
 intro hb;(try simp only[go_sem,fx]);(repeat apply sq_);exact hb):A:=e b
theorem cd{α:Type}{c t:Bool}{a b:Option α}{r:α}{W:Prop}(h:(bif c then a else b)=some r)
 (k1:c=true→a=some r→AWp P gl N n0 keep x Q fr st) (k0:c=false→b=some r→AWp P gl N n0 keep y Q fr st)
 (e:AWp P gl N n0 keep (.cond o x y) Q fr st→W:=by
  intro hb;(try simp only[go_sem,fx]);(repeat (first|apply sq_|(apply er_;simp only[go_sem,fx])|(apply Mt;(try simp only[go_sem,fx]))|(apply gV;(try simp only[go_sem,fx]))|apply rz|apply oJ|apply rA|apply rB|apply lU|apply lS|(apply lT;(try simp only[go_sem,fx]))));exact hb)
 (ho:ev gl fr o= .bool t:=by rfl) (hc:t=c:=by first|rfl|simp):W:=
 e (SK ho (fun ht=>k1 (hc▸ht) (Qo h (hc▸ht))) fun ht=>k0 (hc▸ht) (Qp h (hc▸ht)))
theorem ct{t:Bool}{W:Prop}(k:AWp P gl N n0 keep x Q fr st)
 (e:AWp P gl N n0 keep (.cond o x y) Q fr st→W:=by
  intro hb;(try simp only[go_sem,fx]);(repeat (first|apply sq_|(apply er_;simp only[go_sem,fx])));exact hb)
 (ho:ev gl fr o= .bool t:=by rfl) (ht:t=true:=by first|rfl|exact decide_eq_true (by omega)|(simp;done)|(simp;omega)):W:=
 e (SK ho (fun _=>k) fun h=>by rw[ht]at h;cases h)
theorem cf{t:Bool}{W:Prop}(k:AWp P gl N n0 keep y Q fr st)
 (e:AWp P gl N n0 keep (.cond o x y) Q fr st→W:=by
  intro hb;(try simp only[go_sem,fx]);(repeat (first|apply sq_|(apply er_;simp only[go_sem,fx])));exact hb)
 (ho:ev gl fr o= .bool t:=by rfl) (ht:t=false:=by first|rfl|exact decide_eq_false (by omega)|(simp;done)|(simp;omega)):W:=
 e (SK ho (fun h=>by rw[ht]at h;cases h) fun _=>k)
theorem ck{φ p:Prop}[Decidable p]{β:Type}{x:Option β}{e:β}(f:φ)(h:chk p x=some e):(φ∧p)∧x=some e:=
 let ⟨a,b⟩:=MD h;⟨⟨f,a⟩,b⟩
theorem cl{α β:Type}{x:Option α}{k:α→Option β}{r:β}{d:α→D}{f:FuncId}{args:List D}{R:D→St→Prop}{W:Prop}
 (h:x.bind k=some r) (p:∀v,x=some v→Pure P gl f args (d v)) (b:∀v,k v=some r→R (d v) st)
 (e:Spec P gl f args st R→W:=by
  intro hb;(try simp only[go_sem,fx]);(repeat (first|apply sq_|(apply er_;simp only[go_sem,fx])|(apply Mt;(try simp only[go_sem,fx]))|(apply gV;(try simp only[go_sem,fx]))|apply rz|apply oJ|apply rA|apply rB|apply lU|apply lS|(apply lT;(try simp only[go_sem,fx]))));exact hb):W:=by
 obtain⟨v,hv,h⟩:=F9 h
 exact e ((p v hv).to (b v h))
theorem up{α:Type}{x:Option α}{f:FuncId}{args args':List D}{d:α→D}(p:∀v,x=some v→Pure P gl f args' (d v))(u:∀st,Ups st st args args')(s:∀n,D.scs n args':=by intro n;simp):∀v,x=some v→Pure P gl f args (d v):=
 fun v hv=>(p v hv).up u (.inr s)
theorem c0{α β:Type}{x:Option α}{k:α→Option β}{r:β}{W:Prop}(h:x.bind k=some r)(b:∀v,x=some v→k v=some r→W):W:=by
 obtain⟨v,hv,h⟩:=F9 h
 exact b v hv h
theorem l0{α β:Type}{a:α}{f:α→Option β}{e:β}{W:Prop}(h:eE a f=some e)(b:∀y,y=a→f y=some e→W):W:=b a rfl h
theorem fa{p q:Prop}(a:p)(b:q):p∧q:=⟨a,b⟩
theorem rt{W:Prop}(e:W:=by
 (try simp only[go_sem,fx]);(repeat (first|apply sq_|(apply er_;simp only[go_sem,fx])|(apply Mt;(try simp only[go_sem,fx]))|(apply gV;(try simp only[go_sem,fx]))|apply rz|apply oJ|apply rA|apply rB|apply lU|apply lS|(apply lT;(try simp only[go_sem,fx]))));(try (apply SJ;(try simp only[go_sem,fx])));(first|apply UF|apply FM);simp only[go_sem,fx];
 first|exact CG hsc (.same _) (by simp) ⟨by cases h;rfl,rfl⟩|exact FL hsc (.same _) (by simp) ⟨by cases h;rfl,rfl⟩):W:=e
theorem rr{A B:Prop}(b:B)(e:B→A:=by
 intro hb;(try simp only[go_sem,fx]);(repeat (first|apply sq_|(apply er_;simp only[go_sem,fx])|(apply Mt;(try simp only[go_sem,fx]))|(apply gV;(try simp only[go_sem,fx]))|apply rz|apply oJ|apply rA|apply rB|apply lU|apply lS|(apply lT;(try simp only[go_sem,fx]))));(try (apply SJ;(try simp only[go_sem,fx])));(first|apply UF|apply FM);simp only[go_sem,fx];exact hb):A:=e b
theorem ra{A B:Prop}(b:B)(e:B→A:=by
 intro hb;(try simp only[go_sem,fx]);(repeat (first|apply sq_|(apply er_;simp only[go_sem,fx])|(apply Mt;(try simp only[go_sem,fx]))|(apply gV;(try simp only[go_sem,fx]))|apply rz|apply oJ|apply rA|apply rB|apply lU|apply lS|(apply lT;(try simp only[go_sem,fx]))));apply SJ;(try simp only[go_sem,fx]);exact hb):A:=e b
theorem fo{α:Type}{e r:α}{s l:St}{d:D}(d':D){R:D→St→Prop}(hu:Up (s++l) s d d')(h:some e=some r)(hsc:qN s.length s)(hd:D.sc s.length d':=by simp)(hr:e=r→R d' s:=by rintro rfl;exact⟨rfl,rfl⟩):fin s.length R d (s++l):=
 FL hsc hu hd (hr (Option.some.inj h))
theorem fs{α:Type}{e r:α}{s:St}{d:D}(d':D){R:D→St→Prop}(hu:Up s s d d')(h:some e=some r)(hsc:qN s.length s)(hd:D.sc s.length d':=by simp)(hr:e=r→R d' s:=by rintro rfl;exact⟨rfl,rfl⟩):fin s.length R d s:=
 CG hsc hu hd (hr (Option.some.inj h))
theorem bm{s l l':St}{F:Fr}(hsc:qN s.length s)(hu:UpL (s++l) (s++l') l l':=by(repeat (first|exact .nil _|refine .live _ _ _ _ (.same _) ?_|refine .dead _ _ _ ?_)))(hf:zp (s++l) (s++l') fr F:=by(repeat (first|exact trivial|refine⟨.same _,?_⟩|refine⟨.CB _ _ _ _,?_⟩|refine⟨.full _ _ _ _,?_⟩|refine⟨.F6 _ _ _ (by decide),?_⟩|refine⟨.any _,?_⟩)))(hl:ScL (s++l').length l':=by simp)(hs:Fr.sc (s++l').length F:=by simp):BkS s.length F (s++l') fr (s++l):=Af hsc hu hl hf hs
theorem bm0{s l:St}{F:Fr}(hsc:qN s.length s)(hf:zp (s++l) s fr F:=by(repeat (first|exact trivial|refine⟨.same _,?_⟩|refine⟨.CB _ _ _ _,?_⟩|refine⟨.full _ _ _ _,?_⟩|refine⟨.F6 _ _ _ (by decide),?_⟩|refine⟨.any _,?_⟩)))(hs:Fr.sc s.length F:=by simp):BkS s.length F s fr (s++l):=Bo hsc hf hs
theorem gX{s:St}{F:Fr}(hsc:qN s.length s)(hf:zp s s fr F:=by(repeat (first|exact trivial|refine⟨.same _,?_⟩|refine⟨.CB _ _ _ _,?_⟩|refine⟨.full _ _ _ _,?_⟩|refine⟨.F6 _ _ _ (by decide),?_⟩|refine⟨.any _,?_⟩)))(hs:Fr.sc s.length F:=by simp):BkS s.length F s fr s:=Lo hsc hf hs
theorem bu{s:St}{m:List (Nat×Ob)}{l l':St}{F:Fr}(hsc:qN s.length s)(hu:UpL (aZ s m++l) (aZ s m++l') l l':=by(repeat (first|exact .nil _|refine .live _ _ _ _ (.same _) ?_|refine .dead _ _ _ ?_)))(hf:zp (aZ s m++l) (aZ s m++l') fr F:=by(repeat (first|exact trivial|refine⟨.same _,?_⟩|refine⟨.CB _ _ _ _,?_⟩|refine⟨.full _ _ _ _,?_⟩|refine⟨.F6 _ _ _ (by decide),?_⟩|refine⟨.any _,?_⟩)))(hm:scM s.length m:=by simp<;>omega)(hl:ScL (aZ s m++l').length l':=by simp<;>omega)(hs:Fr.sc (aZ s m++l').length F:=by simp<;>omega):BkS s.length F (aZ s m++l') fr (aZ s m++l):=Qx (by simp) (vr hsc hm) hu hl hf hs
theorem bu0{s:St}{m:List (Nat×Ob)}{l:St}{F:Fr}(hsc:qN s.length s)(hf:zp (aZ s m++l) (aZ s m) fr F:=by(repeat (first|exact trivial|refine⟨.same _,?_⟩|refine⟨.CB _ _ _ _,?_⟩|refine⟨.full _ _ _ _,?_⟩|refine⟨.F6 _ _ _ (by decide),?_⟩|refine⟨.any _,?_⟩)))(hm:scM s.length m:=by simp<;>omega)(hs:Fr.sc (aZ s m).length F:=by simp<;>omega):BkS s.length F (aZ s m) fr (aZ s m++l):=NP (by simp) (vr hsc hm) hf hs
theorem Po{s:St}{m:List (Nat×Ob)}{F:Fr}(hsc:qN s.length s)(hf:zp (aZ s m) (aZ s m) fr F:=by(repeat (first|exact trivial|refine⟨.same _,?_⟩|refine⟨.CB _ _ _ _,?_⟩|refine⟨.full _ _ _ _,?_⟩|refine⟨.F6 _ _ _ (by decide),?_⟩|refine⟨.any _,?_⟩)))(hm:scM s.length m:=by simp<;>omega)(hs:Fr.sc (aZ s m).length F:=by simp<;>omega):BkS s.length F (aZ s m) fr (aZ s m):=Lq (by simp) (vr hsc hm) hf hs
theorem rng{φ:Prop}{Γ ρ σ:Type}{c:Code}{id n:Nat}{body:Nat→σ→Option (Ctl ρ σ σ)}{s0:σ}{kk:σ→Option ρ}{e:ρ}(F:Γ→Nat→σ→Fr)(T:Γ→Nat→σ→St)(Fb:Γ→σ→Fr)(Tb:Γ→σ→St)(γ0:Γ)(fx:φ)(hl:n≤9223372036854775807)
 (h:B5 (F2 body n s0) kk=some e)
 (h0:BkS n0 (F γ0 0 s0) (T γ0 0 s0) fr st)
 (hs:∀γ k s b,φ∧k<n∧wr .i64 ((k:Int)+1)=((k+1:Nat):Int)→body k s=some b→(∀x,b= .ret x→x=e)→AWp P gl N n0 keep c (PBr n0 id F T Fb Tb Q k b) (F γ k s) (T γ k s))
 (he:∀γ s,AWp P gl N n0 keep c (fun ex fr st=>ex= .exit id∧∃γ',BkS n0 (Fb γ' s) (Tb γ' s) fr st) (F γ n s) (T γ n s))
 (hk:∀γ s fr st,kk s=some e→BkS n0 (Fb γ s) (Tb γ s) fr st→Q .normal fr st):
 AWp P gl N n0 keep (.block id (.loop c)) Q fr st:=
 arg_ F T Fb Tb γ0 h h0 (fun γ k s b hk=>hs γ k s b ⟨fx,hk,GO hk hl⟩) he hk
theorem aln{W:Prop}{n b:Nat}{full:Bool}{α:Type}{E:α→List D}{l:List α}{c:Code}(t:Nat)(k:l.length≤9223372036854775807→AWp P gl N n0 keep c Q fr st)
 (e:AWp P gl N n0 keep c Q fr st→W:=by
  intro hb;(try simp only[go_sem,fx]);(repeat (first|apply sq_|(apply er_;simp only[go_sem,fx])|(apply Mt;(try simp only[go_sem,fx]))|(apply gV;(try simp only[go_sem,fx]))|apply rz|apply oJ|apply rA|apply rB|apply lU|apply lS|(apply lT;(try simp only[go_sem,fx]))));exact hb)
 (hg:fr.get t= .sl full n b (rows E l):=by rfl) (hb:1≤b:=by decide):W:=
 e (Uy hg fun h=>k (by
  rw[Ae]at h
  have h1:l.length*1≤l.length*b:=Nat.mul_le_mul_left _ hb
  unfold top at h;omega))
theorem fb{f:FuncId}{fn:Func}{c:Code}{args:List D}{R:D→St→Prop}(N:Nat)(rs:List ResultVar)(keep:List Nat)(hf:P.funcs[f]? =some fn)(h:qN st.length st→AWp P gl N st.length keep c (Pm P rs st.length R) (Bc 0 args) st)
 (hb:fn.body=some c:=by rfl) (hN:fn.ntmps=N:=by rfl) (hr:fn.results.toList=rs:=by rfl) (hname:(fn.name != "runtime.NumGoroutine")=true:=by kernel_rfl) (hlen:Nat.ble args.length N=true:=by rfl):Spec P gl f args st R:=
 VP keep hf hb hN hr hname hlen h
theorem idf{o:Nat}(ho:o<st.length):(∀(l:St) (x:Ob) (m:List (Nat×Ob)),(aZ st m++l).set o (some x)=aZ st (NK m o x)++l)∧(∀(x:Ob) (m:List (Nat×Ob)),(aZ st m).set o (some x)=aZ st (NK m o x))∧(∀(l:St) (m:List (Nat×Ob)),look (aZ st m++l) o=Er m o (look st o))∧∀m:List (Nat×Ob),look (aZ st m) o=Er m o (look st o):=
 ⟨fun _ _ m=>Tz ho m,fun _ m=>TA ho m,fun _ m=>Tw ho m,fun m=>Tx ho m⟩
theorem nd2{a b:Nat}(h: [a,b].Nodup):((a=b)=False)∧((b=a)=False):=by
 simp at h;exact⟨eq_false h,eq_false fun e=>h e.symm⟩
theorem nd3{a b c:Nat}(h: [a,b,c].Nodup):(((a=b)=False)∧((b=a)=False))∧(((a=c)=False)∧((c=a)=False))∧((b=c)=False)∧((c=b)=False):=by
 simp at h
 exact⟨nd2 (by simp[h]),nd2 (by simp[h]),nd2 (by simp[h])⟩
theorem nd4{a b c d:Nat}(h: [a,b,c,d].Nodup):(((a=b)=False)∧((b=a)=False))∧(((a=c)=False)∧((c=a)=False))∧(((a=d)=False)∧((d=a)=False))∧(((b=c)=False)∧((c=b)=False))∧(((b=d)=False)∧((d=b)=False))∧((c=d)=False)∧((d=c)=False):=by
 simp at h
 exact⟨nd2 (by simp[h]),nd2 (by simp[h]),nd2 (by simp[h]),nd2 (by simp[h]),nd2 (by simp[h]),nd2 (by simp[h])⟩
theorem fuo{α:Type}{e r:α}{s l:St}{m:List (Nat×Ob)}{d:D}(d':D){R:D→St→Prop}(hu:Up (aZ s m++l) (aZ s m) d d')(h:some e=some r)(hsc:qN s.length s)(hr:e=r→R d' (aZ s m):=by rintro rfl;exact⟨rfl,rfl⟩)(hm:scM s.length m:=by simp<;>omega)(hd:D.sc (aZ s m).length d':=by simp<;>omega):fin s.length R d (aZ s m++l):=
 Lr (by simp) (vr hsc hm) hu hd (hr (Option.some.inj h))
theorem fus{α:Type}{e r:α}{s:St}{m:List (Nat×Ob)}{d:D}(d':D){R:D→St→Prop}(hu:Up (aZ s m) (aZ s m) d d')(h:some e=some r)(hsc:qN s.length s)(hr:e=r→R d' (aZ s m):=by rintro rfl;exact⟨rfl,rfl⟩)(hm:scM s.length m:=by simp<;>omega)(hd:D.sc (aZ s m).length d':=by simp<;>omega):fin s.length R d (aZ s m):=
 IZ (by simp) (vr hsc hm) hu hd (hr (Option.some.inj h))
theorem dw{B:Prop}{i:Nat}{l:List Oper}(trk:List Nat)(n:Nat)(b:B)
 (e:B→EvD P gl N l.toArray st.length trk (fun fr st=>Q .normal (Fr.only keep fr) st) l 0 0 [] fr (st++List.replicate n (some .resv)):=by intro hb;simp only[go_sem,List.replicate_succ,List.replicate_zero,fx];exact hb)
 (hm:P.follows .mixedOrders=true:=by exact follows) (ho:Bm l.toArray trk=true:=by kernel_rfl) (hn:pJ l=n:=by rfl):AWp P gl N n0 keep (.region i l.toArray true) Q fr st:=SZ trk n hm ho hn (e b)
theorem dwy{B:Prop}{i:Nat}{l:List Oper}(trk:List Nat)(n:Nat)(b:B)
 (e:B→EvD P gl N l.toArray st.length trk (fun fr st=>Q .normal (Fr.only keep fr) st) l 0 0 [] fr (st++List.replicate n (some .resv)):=by intro hb;simp only[go_sem,List.replicate_succ,List.replicate_zero,fx,fy];exact hb)
 (hm:P.follows .mixedOrders=true:=by exact follows) (ho:Bm l.toArray trk=true:=by kernel_rfl) (hn:pJ l=n:=by rfl):AWp P gl N n0 keep (.region i l.toArray true) Q fr st:=SZ trk n hm ho hn (e b)
theorem Pp{k:Nat}(h:k≤140737488355328):(k≤top)=True:=eq_true (by unfold top;exact h)
section
variable {α:Type} {E:α→List D}
end
end
attribute [go_sem] Pp
def sG(q m n k:Nat):List (List D):=((List.range k).map fun i=>[.ref true (q+(i+1)) 0 0 m])++List.replicate (n-k) [.F6]
section
variable {q m n k i:Nat} {M:List (List Int)} {R:List Int}
theorem rU(h:k≤n):(sG q m n k).length=n:=by simp[sG];omega
theorem Jc:sG q m n 0=List.replicate n [.F6]:=by simp[sG]
theorem Ls(h:k<n):(sG q m n k).set k [.ref true (q+(k+1)) 0 0 m]=sG q m n (k+1):=by
 unfold sG
 rw[List.set_append_right _ _ (by simp),List.length_map,List.length_range,Nat.sub_self,show n-k=(n-(k+1))+1 by omega,List.replicate_succ,List.set_cons_zero,List.range_succ,List.map_append]
 simp
theorem FP(h:i<k){d:List D}:(sG q m n k).getD i d=[.ref true (q+(i+1)) 0 0 m]:=by
 unfold sG
 rw[List.getD_eq_getElem?_getD,List.getElem?_append_left (by simpa using h)]
 simp[h]
theorem Lu(h:k≤i)(hn:i<n){d:List D}:(sG q m n k).getD i d=[.F6]:=by
 unfold sG
 rw[List.getD_eq_getElem?_getD,List.getElem?_append_right (by simpa using h)]
 simp only[List.length_map,List.length_range,List.getElem?_replicate]
 rw[if_pos (by omega)];rfl
theorem Bp{st T:St}:∀l:St,UpL st T l l
 | []=>.nil _
 |none::l=>.dead _ _ _ (Bp l)
 |some _::l=>.live _ _ _ _ (.same _) (Bp l)
theorem CH{st T:St}:∀(l l':List (List D)) (_:l'.length=l.length) (_:∀(j:Nat) (h:j<l.length) (h':j<l'.length),Ups st T (l[j]) (l'[j])),nH st T l l'
 | [],[],_,_=>.nil
 |e::l,e'::l',hl,h=>.cons _ _ _ _ (h 0 (by simp) (by simp)) (CH l l' (by simpa using hl) fun j h1 h2=>h (j+1) (by simpa using h1) (by simpa using h2))
def zs(k:Nat)(r:List Int):List (List Int):=List.replicate k r
section
variable {α:Type} {same:α→α→Bool} {a b:List α}
end
theorem tT{σ:Type}(n:Nat)(s:σ):B5 (ρ:=σ) (F2 (fun _ s=>some (.nxt s)) n s) (fun s=>some s)=some s:=by
 unfold F2
 generalize 0=k
 induction n generalizing k with
 |zero=>rfl
 |succ n ih=>simp only[cX];exact ih _
end
section
variable {α:Type} {E:α→List D} {b:Nat} {M:List (List α)} {R:List α} {i k m n q:Nat}
def ine(E:α→List D)(b:Nat)(r:List α):Option Ob:=some (.arr 0 1 b (rows E r))
theorem Lv(h:i<M.length):look (M.map (ine E b)) i=some (.arr 0 1 b (rows E (get M i))):=by
 unfold look
 rw[List.getElem?_map,List.getElem?_eq_getElem h]
 simp[ine,get,h]
theorem NQ:(M.map (ine E b)).set i (some (.arr 0 1 b (rows E R)))=(M.set i R).map (ine E b):=by rw[List.map_set];rfl
theorem NR:M.map (ine E b)++[some (.arr 0 1 b (rows E R))]=(M++[R]).map (ine E b):=by rw[List.map_append];rfl
theorem Jd[iH E 1]{x:Nat}:∀M:List (List α),ScL x (M.map (ine E b))
 | []=>trivial
 |r::M=>⟨by intro e he;exact Imm.sc (ru (E:=E) r) x e he,Jd M⟩
theorem Qy[iH E 1]{s:St}(h:k≤M.length):ScL (s++(some (.arr 0 1 24 (sG s.length m n k))::M.map (ine E b))).length (some (.arr 0 1 24 (sG s.length m n k))::M.map (ine E b)):=by
 refine⟨?_,Jd M⟩
 intro e he
 simp only[List.length_append,List.length_cons,List.length_map]
 rcases List.mem_append.1 he with he|he
 ·obtain⟨i,hi,rfl⟩:=List.mem_map.1 he
  have:=List.mem_range.1 hi
  exact⟨(by show s.length+(i+1)<_;omega),trivial⟩
 ·rw[List.eq_of_mem_replicate he];exact⟨trivial,trivial⟩
theorem Ah[iH E 1]{s:St}{F fr:Fr}(hsc:qN s.length s)(h:k≤M.length)(hf:zp (s++(some (.arr 0 1 24 (sG s.length m n k))::M.map (ine E b))) (s++(some (.arr 0 1 24 (sG s.length m n k))::M.map (ine E b))) fr F)
 (hs:Fr.sc (s++(some (.arr 0 1 24 (sG s.length m n k))::M.map (ine E b))).length F):
 BkS s.length F (s++(some (.arr 0 1 24 (sG s.length m n k))::M.map (ine E b))) fr (s++(some (.arr 0 1 24 (sG s.length m n k))::M.map (ine E b))):=
 Af hsc (Bp _) (Qy h) hf hs
theorem Je[iH E 1]{s:St}{F0 F:Fr}(hb:1≤b)(hsc:qN s.length s)(hm:∀r∈M,r.length=m)(hn:M.length=n)
 (h1:∀st T,zp st T F0 F0) (h2:∀st T:St,Up st T (.ref true s.length 0 0 n) (.sl false 1 24 (rows (slc 1 b E) M))→zp st T F0 F)
 (s1:Fr.sc (s++[some (Ob.arr 0 1 24 (rows (slc 1 b E) M))]).length F0) (s2:Fr.sc s.length F):
 BkS s.length F s F0 (s++(some (.arr 0 1 24 (sG s.length m n n))::M.map (ine E b))):=by
 have h1:BkS s.length F0 (s++[some (.arr 0 1 24 (rows (slc 1 b E) M))]) F0 (s++(some (.arr 0 1 24 (sG s.length m n n))::M.map (ine E b))):=by
  refine Af hsc (.live _ _ _ _ (IL.arr _ _ _ _ _ (CH _ _ (by rw[Ae,rU (Nat.le_refl _)];exact hn) fun j h h'=>?_)) (.nil _)) ⟨?_,trivial⟩ (h1 _ _) s1
  ·rw[rU (Nat.le_refl _)]at h
   have hj:j<M.length:=by omega
   have e1:(sG s.length m n n)[j]'(by rw[rU (Nat.le_refl _)];exact h)=[.ref true (s.length+(j+1)) 0 0 m]:=by
    have:=FP (q:=s.length) (m:=m) (n:=n) h (d:=[])
    rw[List.getD_eq_getElem?_getD,List.getElem?_eq_getElem (by rw[rU (Nat.le_refl _)];exact h)]at this
    exact this
   have e2:(rows (slc 1 b E) M)[j]=[.sl false 1 b (rows E M[j])]:=by simp[rows,slc]
   rw[e1,e2]
   refine .cons _ _ _ _ (.ref _ _ _ _ _ 1 b (rows E M[j]) _ ?_ (tQ (by simp)) hb (ru _) ?_) .nil
   ·rw[List.getElem?_append_right (by omega),show s.length+(j+1)-s.length=j+1 by omega,List.getElem?_cons_succ,List.getElem?_map,List.getElem?_eq_getElem hj]
    rfl
   ·rw[List.drop_zero,List.take_of_length_le]
    rw[Ae,hm _ (List.getElem_mem hj)];exact Nat.le_refl _
  ·intro e he
   exact Imm.sc (ru (E:=slc 1 b E) M) _ e he
 refine h1.trans (Bo hsc (h2 _ _ (.ref _ _ _ _ _ 1 24 (rows (slc 1 b E) M) _ (lH.trans rfl) nI (by decide) (ru _) ?_)) s2)
 rw[List.drop_zero,List.take_of_length_le]
 rw[Ae];omega
def rf(n:Nat)(f:Nat→α):List α:=(List.range n).map f
def tf(k n:Nat)(f:Nat→Nat→α):List (List α):=(List.range k).map fun i=>rf n (f i)
def NS(f:Nat→Nat→α)(i j:Nat)(v:α):Nat→Nat→α:=fun i' j'=>if i'=i∧j'=j then v else f i' j'
theorem Jf{f:Nat→α}:(rf n f).length=n:=by simp[rf]
theorem FQ{f:Nat→Nat→α}:(tf k n f).length=k:=by simp[tf]
theorem NT{f:Nat→Nat→α}:∀r∈tf k n f,r.length=n:=by
 intro r hr
 obtain⟨i,_,rfl⟩:=List.mem_map.1 hr
 exact Jf
theorem FT[Inhabited α]{f:Nat→α}(h:i<n):get (rf n f) i=f i:=by
 simp[rf,get,List.getD_eq_getElem?_getD,List.getElem?_map,List.getElem?_range h]
theorem MG{f:Nat→Nat→α}(h:i<k):get (tf k n f) i=rf n (f i):=by
 simp[tf,get,List.getD_eq_getElem?_getD,List.getElem?_map,List.getElem?_range h]
theorem Qz{v:α}:List.replicate n v=rf n fun _=>v:=by simp[rf,List.map_const']
theorem QA{f:Nat→Nat→α}:tf k n f++[rf n (f k)]=tf (k+1) n f:=by simp[tf,List.range_succ]
theorem Bq{f g:Nat→Nat→α}(h:∀i j,i<k→j<n→f i j=g i j):tf k n f=tf k n g:=
 List.map_congr_left fun i hi=>List.map_congr_left fun j hj=>h i j (List.mem_range.1 hi) (List.mem_range.1 hj)
theorem QB{f:Nat→α}{v:α}:(rf n f).set i v=rf n fun j=>if j=i then v else f j:=by
 apply List.ext_getElem?
 intro j
 simp only[rf,List.getElem?_set,List.getElem?_map,List.length_map,List.length_range]
 by_cases e:i=j
 ·subst e
  by_cases h:i<n
  ·simp[h]
  ·have:(List.range n)[i]? =none:=by simp;omega
   simp[h]
 ·by_cases h:j<n
  ·simp[e,h,Ne.symm e]
  ·simp[e,h]
theorem QC{f:Nat→Nat→α}{v:α}{j:Nat}:(tf k n f).set i ((rf n (f i)).set j v)=tf k n (NS f i j v):=by
 apply List.ext_getElem?
 intro x
 simp only[tf,List.getElem?_set,List.getElem?_map,List.length_map,List.length_range]
 by_cases e:i=x
 ·subst e
  by_cases h:i<k
  ·simp only[h,if_true,if_pos,List.getElem?_range,Option.map_some]
   rw[QB]
   congr 2
   funext j'
   simp[NS]
  ·simp[h]
 ·by_cases h:x<k
  ·simp only[e,if_false,h,List.getElem?_range,Option.map_some]
   congr 2
   funext j'
   simp[NS,Ne.symm e]
  ·simp[e,h]
theorem NU{f:Nat→Nat→α}{v:α}{j:Nat}:((tf k n f).map (ine E b)).set i (some (.arr 0 1 b (rows E ((rf n (f i)).set j v))))=(tf k n (NS f i j v)).map (ine E b):=by
 rw[NQ,QC]
theorem Lw{f:Nat→Nat→α}(h:i<k):look ((tf k n f).map (ine E b)) i=some (.arr 0 1 b (rows E (rf n (f i)))):=by
 rw[Lv (by rw[FQ];exact h),MG h]
def pfl[Inhabited α](f:Nat→Nat→α)(i j:Nat):Nat→Nat→α:=fun i' j'=>if i'<i∨(i'=i∧j'<j)then f i' j' else default
theorem NV[Inhabited α]{f:Nat→Nat→α}:tf k n (pfl f k 0)++[rf n fun _=>default]=tf (k+1) n (pfl f k 0):=by
 rw[←QA]
 have e:(fun _=>default)=pfl f k 0 k:=by funext j;simp[pfl]
 rw[e]
theorem NW[Inhabited α]{f:Nat→Nat→α}{j:Nat}:NS (pfl f i j) i j (f i j)=pfl f i (j+1):=by
 funext i' j'
 unfold NS pfl
 by_cases h:i'=i∧j'=j
 ·obtain⟨rfl,rfl⟩:=h
  simp
 ·rw[if_neg h]
  by_cases h2:i'<i∨(i'=i∧j'<j)
  ·rw[if_pos h2,if_pos (by omega)]
  ·rw[if_neg h2,if_neg (by omega)]
theorem Lx[Inhabited α]{f:Nat→Nat→α}:tf (i+1) n (pfl f i n)=tf (i+1) n (pfl f (i+1) 0):=
 Bq fun i' j' hi hj=>by
  unfold pfl
  by_cases h:i'<i∨(i'=i∧j'<n)
  ·rw[if_pos h,if_pos (by omega)]
  ·rw[if_neg h,if_neg (by omega)]
theorem NX[Inhabited α]{f:Nat→Nat→α}:tf k n (pfl f k 0)=tf k n f:=
 Bq fun i' j' hi hj=>by unfold pfl;rw[if_pos (Or.inl hi)]
end
section
variable {P:Program} {gl:Gl} {N n0:Nat} {keep:List Nat} {Q:AQ} {fr:Fr} {st:St} {c:Code} {id n:Nat}
theorem vu{ρ σ:Type}{body:Nat→σ→Option (Ctl ρ σ σ)}{s0:σ}{kk:σ→Option ρ}{e:ρ}(I:Nat→σ→Fr→St→Prop)(J:σ→Fr→St→Prop)
 (hn:∀k s b,body k s=some b→∃s',b= .nxt s') (h:B5 (F2 body n s0) kk=some e) (h0:I 0 s0 fr st)
 (hs:∀k s s' fr st,k<n→body k s=some (.nxt s')→I k s fr st→AWp P gl N n0 keep c (fun ex fr st=>ex= .normal∧∃F,Fr.leq F fr∧I (k+1) s' F st) fr st)
 (he:∀s fr st,I n s fr st→AWp P gl N n0 keep c (fun ex fr st=>ex= .exit id∧∃F,Fr.leq F fr∧J s F st) fr st)
 (hk:∀s F fr st,kk s=some e→J s F st→Fr.leq F fr→Q .normal fr st):AWp P gl N n0 keep (.block id (.loop c)) Q fr st:=by
 refine Mv ?_
 unfold F2 at h
 have key:∀m k s fr st,k+m=n→B5 (cX body m k s) kk=some e→I k s fr st→AWp P gl N n0 keep (.loop c) (AQ.block id Q) fr st:=by
  intro m
  induction m with
  |zero=>
   intro k s fr st hk' h1 hi
   have:k=n:=by omega
   subst this
   refine tG (tH (he s fr st hi) fun ex fr st hq=>?_)
   obtain⟨rfl,F,hb,hj⟩:=hq
   show AQ.block id Q (.exit id) fr st
   simp only[AQ.block,if_true]
   exact hk s F fr st h1 hj hb
  |succ m ih=>
   intro k s fr st hk' h1 hi
   simp only[cX]at h1
   cases hb:body k s with
   |none=>rw[hb]at h1;cases h1
   |some b=>
    rw[hb]at h1
    obtain⟨s',rfl⟩:=hn k s b hb
    refine tG (tH (hs k s s' fr st (by omega) hb hi) fun ex fr st hq=>?_)
    obtain⟨rfl,F,hb,hi'⟩:=hq
    exact ql hb (ih (k+1) s' F st (by omega) h1 hi')
 exact key n 0 s0 fr st (by omega) h h0
end
section
variable {α:Type} {E:α→List D} {b q n k:Nat} {N:St}
def QD(q:Nat)(N:St)(E:α→List D)(b:Nat)(r:List α)(c:D):Prop:=(c= .F6∧r=[])∨∃j g,c= .ref false (q+(j+1)) g 0 r.length∧N[j]? =some (some (.arr g 1 b (rows E r)))
inductive GQ(q:Nat)(N:St)(E:α→List D)(b:Nat):List (List D)→List (List α)→Prop
 |nil:GQ q N E b [] []
 |cons (r:List α) (c:D) (C:List (List D)) (T:List (List α)) (h:QD q N E b r c) (t:GQ q N E b C T):GQ q N E b ([c]::C) (r::T)
theorem GQ.len{C:List (List D)}{T:List (List α)}(h:GQ q N E b C T):C.length=T.length:=by
 induction h with
 |nil=>rfl
 |cons r c C T _ _ ih=>simp[ih]
theorem QD.app{M:St}{r:List α}{c:D}(h:QD q N E b r c):QD q (N++M) E b r c:=by
 rcases h with h|⟨j,g,h1,h2⟩
 ·exact .inl h
 ·exact .inr ⟨j,g,h1,by rw[List.getElem?_append_left (List.getElem?_eq_some_iff.1 h2).1];exact h2⟩
theorem GQ.app{M:St}{C:List (List D)}{T:List (List α)}(h:GQ q N E b C T):GQ q (N++M) E b C T:=by
 induction h with
 |nil=>exact .nil
 |cons r c C T h _ ih=>exact .cons r c C T h.app ih
theorem GQ.snoc{C:List (List D)}{T:List (List α)}{r:List α}{c:D}(h:GQ q N E b C T)(k:QD q N E b r c):GQ q N E b (C++[[c]]) (T++[r]):=by
 induction h with
 |nil=>exact .cons r c [] [] k .nil
 |cons r' c' C T h _ ih=>exact .cons r' c' _ _ h ih
theorem GQ.ups[iH E 1]{S T0:St}(hb:1≤b)(hget:∀(j:Nat) x,N[j]? =some x→S[q+(j+1)]? =some x)(hT:T0.length≤q+1){C:List (List D)}{T:List (List α)}(h:GQ q N E b C T):nH S T0 C (rows (slc 1 b E) T):=by
 induction h with
 |nil=>exact .nil
 |cons r c C T h _ ih=>
  refine .cons _ _ _ _ (.cons _ _ _ _ ?_ .nil) ih
  rcases h with⟨rfl,h2⟩|⟨j,g,rfl,h2⟩
  ·rw[h2];exact .F6 _ _ _ hb
  ·refine .ref _ _ _ _ _ 1 b (rows E r) _ (hget _ _ h2) ?_ hb (ru _) ?_
   ·unfold look;rw[List.getElem?_eq_none (by omega)];rfl
   ·rw[List.drop_zero,List.take_of_length_le]
    rw[Ae];exact Nat.le_refl _
end
end Go.Am
namespace Go.Am
open Go Go.Sort Go.Shelf
open Go.Proofs (ltOf sortWorldK)
section
variable {α:Type} [Inhabited α] {P:Program} {G:Gl}
def kq(cf:α→α→Int)(l:List α):List α:=(pdq (ltOf cf) l.toArray 0 l.toArray.size (Lib.bitLen l.toArray.size) true true).toList
omit [Inhabited α] in
theorem Jg{X:Array α}{n:Nat}(h:X.size=n):X.extract 0 n=X:=by rw[←h];simp
theorem vw{cf:α→α→Int}(hO:SWO (ltOf cf))(l:List α):(kq cf l).Perm l∧(kq cf l).length=l.length∧∀i j,i<j→j<l.length→¬cf (get (kq cf l) j) (get (kq cf l) i)<0:=by
 have h:=pdq_sorts (ltOf cf) hO l.toArray 0 l.toArray.size (Lib.bitLen l.toArray.size) true true (Nat.zero_le _) (Nat.le_refl _) (Or.inl rfl)
 obtain⟨⟨hs,_,hp⟩,hso⟩:=h
 have hs2:(kq cf l).length=l.length:=by
  unfold kq
  simpa using hs
 refine⟨?_,hs2,fun i j hi hj=>?_⟩
 ·have e1:(pdq (ltOf cf) l.toArray 0 l.toArray.size (Lib.bitLen l.toArray.size) true true).extract 0 l.toArray.size=pdq (ltOf cf) l.toArray 0 l.toArray.size (Lib.bitLen l.toArray.size) true true:=Jg hs
  have e2:l.toArray.extract 0 l.toArray.size=l.toArray:=Jg rfl
  rw[e1,e2]at hp
  exact hp
 ·have:=hso i j (Nat.zero_le _) hi (by simpa using hj)
  have g:∀k,get (kq cf l) k=(pdq (ltOf cf) l.toArray 0 l.toArray.size (Lib.bitLen l.toArray.size) true true)[k]! :=fun k=>by
   unfold kq get
   rw[List.getD_eq_getElem?_getD,Array.getElem?_toList,Array.getElem!_eq_getD,Array.getD_eq_getD_getElem?]
  rw[g,g]
  unfold ltOf at this
  exact of_decide_eq_false this
def ins(cf:α→α→Int)(x:α):List α→List α
 | []=>[x]
 |y::l=>if cf y x<0 then y::ins cf x l else x::y::l
def lV(cf:α→α→Int):List α→List α
 | []=>[]
 |x::l=>ins cf x (lV cf l)
def Asc(cf:α→α→Int)(l:List α):Prop:=l.Pairwise fun a b=>¬cf b a<0
omit [Inhabited α] in
theorem Br(cf:α→α→Int)(x:α):∀l,(ins cf x l).Perm (x::l)
 | []=>.refl _
 |y::l=>by
  unfold ins
  split
  ·exact((Br cf x l).cons y).trans (.swap x y l)
  ·exact .refl _
omit [Inhabited α] in
theorem ke(cf:α→α→Int):∀l,(lV cf l).Perm l
 | []=>.refl _
 |x::l=>(Br cf x _).trans ((ke cf l).cons x)
omit [Inhabited α] in
theorem QE{cf:α→α→Int}(hO:SWO (ltOf cf)){x y z:α}(h1:¬cf x y<0)(h2:¬cf y z<0):¬cf x z<0:=
 of_decide_eq_false (hO.ntrans x y z (decide_eq_false h1) (decide_eq_false h2))
omit [Inhabited α] in
theorem QF{cf:α→α→Int}(hO:SWO (ltOf cf)){x y:α}(h1:cf x y<0):¬cf y x<0:=fun h2=>
 absurd (of_decide_eq_true (hO.trans x y x (decide_eq_true h1) (decide_eq_true h2))) (of_decide_eq_false (hO.irrefl x))
omit [Inhabited α] in
theorem Jh{cf:α→α→Int}(hO:SWO (ltOf cf))(x:α):∀l,Asc cf l→Asc cf (ins cf x l)
 | [],_=>List.pairwise_singleton _ _
 |y::l,h=>by
  obtain⟨h1,h2⟩:=List.pairwise_cons.1 h
  unfold ins
  split
  ·rename_i hlt
   refine List.pairwise_cons.2 ⟨fun z hz=>?_,Jh hO x l h2⟩
   rcases List.mem_cons.1 ((Br cf x l).mem_iff.1 hz)with rfl|hz
   ·exact QF hO hlt
   ·exact h1 z hz
  ·rename_i hnl
   refine List.pairwise_cons.2 ⟨fun z hz=>?_,h⟩
   rcases List.mem_cons.1 hz with rfl|hz
   ·exact hnl
   ·exact QE hO (h1 z hz) hnl
omit [Inhabited α] in
theorem yj{cf:α→α→Int}(hO:SWO (ltOf cf)):∀l,Asc cf (lV cf l)
 | []=>.nil
 |x::l=>Jh hO x _ (yj hO l)
omit [Inhabited α] in
theorem FU{cf:α→α→Int}(ha:∀x y,¬cf x y<0→¬cf y x<0→x=y):∀(l m:List α),Asc cf l→Asc cf m→l.Perm m→l=m
 | [],m,_,_,h=>(List.nil_perm.1 h).symm
 |a::l,[],_,_,h=>absurd (h.length_eq) (by simp)
 |a::l,b::m,h1,h2,h=>by
  obtain⟨p1,p2⟩:=List.pairwise_cons.1 h1
  obtain⟨q1,q2⟩:=List.pairwise_cons.1 h2
  have e:a=b:=by
   rcases List.mem_cons.1 (h.mem_iff.1 (List.mem_cons_self ..))with e|ha'
   ·exact e
   ·rcases List.mem_cons.1 (h.symm.mem_iff.1 (List.mem_cons_self ..))with e|hb'
    ·exact e.symm
    ·exact ha a b (q1 a ha') (p1 b hb')
  subst e
  rw[FU ha l m p2 q2 (List.Perm.cons_inv h)]
theorem FV{cf:α→α→Int}(hO:SWO (ltOf cf))(ha:∀x y,¬cf x y<0→¬cf y x<0→x=y)(l:List α):kq cf l=lV cf l:=by
 obtain⟨h1,h2,h3⟩:=vw hO l
 refine FU ha _ _ (List.pairwise_iff_getElem.2 fun i j hi hj hij=>?_) (yj hO l) (h1.trans (ke cf l).symm)
 have:=h3 i j hij (by omega)
 simpa[get,hi,hj]using this
structure Es(E:α→List D)(enc:α→List Value)(k:Nat):Prop where
 Ji:∀x,(E x).length=k
 QG:∀x,(enc x).length=k
 one:∀x,∀v∈enc x,v.oneCell'=true
 to:∀(w:World) (μ:Mu) (st:St) (x:α) (j:Nat) (h:j<(E x).length) (v:Value),VR w μ st v ((E x)[j])→v=(enc x)[j]!
 fro:∀(w:World) (μ:Mu) (st:St) (x:α) (j:Nat) (h:j<(E x).length),VR w μ st ((enc x)[j]!) ((E x)[j])
theorem GR{W w':World}(hs:W.heap.size≤w'.heap.size)(ho:w'.os=W.os)(hout:w'.output=W.output)(ht:w'.tape=W.tape)(hd:W.drawn≤w'.drawn)(hh:∀j,j<W.heap.size→w'.heap[j]? =W.heap[j]?):∃q os',w'=grow (W.drewN q) os':=by
 refine⟨w'.drawn-W.drawn,w'.heap.extract W.heap.size w'.heap.size,?_⟩
 obtain⟨heap,tape,drawn,os,output⟩:=w'
 simp only at*
 subst ho hout ht
 unfold grow World.drewN
 have e1:heap=W.heap++heap.extract W.heap.size heap.size:=by
  apply Array.ext_getElem?
  intro j
  by_cases hj:j<W.heap.size
  ·rw[hh j hj,Array.getElem?_append_left hj]
  ·rw[Array.getElem?_append_right (by omega),Array.getElem?_extract]
   by_cases hj2:j<heap.size
   ·rw[if_pos (by omega),show W.heap.size+(j-W.heap.size)=j by omega]
   ·rw[if_neg (by omega),Array.getElem?_eq_none (by omega)]
 have e2:drawn=W.drawn+(drawn-W.drawn):=by omega
 rw[World.mk.injEq]
 exact⟨e1,rfl,e2,rfl,rfl⟩
theorem Ly{E:α→List D}{enc:α→List Value}{k g:Nat}{cf:α→α→Int}(he:Es E enc k)(hg:kE P g=true)(hcf:∀x y,Pure P G g [.agg (E x),.agg (E y)] (.int .i64 (cf x y)))
 {blk off size:Nat} {w:World} (hG:∀m os (dk:Array α),dk.size=size→Glob G (sortWorldK enc k w blk off m dk os) (fun _=>none) []):Go.Proofs.CmpLays P g #[] enc k cf blk off size w:=by
 intro m os dk hs x y
 have hx:∀z:α,VR (sortWorldK enc k w blk off m dk os) (fun _=>none) [] (.agg (enc z).toArray) (.agg (E z)):=fun z=>
  .agg _ _ (by simp[he.Ji,he.QG]) fun j hj=>by
   have:=he.fro (sortWorldK enc k w blk off m dk os) (fun _=>none) [] z j hj
   have e:(enc z).toArray.getD j undef=(enc z)[j]! :=by
    have hj2:j<(enc z).length:=by rw[he.QG, ←he.Ji z];exact hj
    simp[Array.getD_eq_getD_getElem?, hj2]
   rw[e];exact this
 have h:=((hcf x y []).2 (sortWorldK enc k w blk off m dk os) (fun _=>none) #[.agg (enc x).toArray,.agg (enc y).toArray] ⟨fun o ob h=>by simp at h,fun o o' ob ob' blk b b' h=>by simp at h⟩ (hG m os dk hs) rfl (fun j hj=>by
  match j,hj with
  |0,_=>exact hx x
  |1,_=>exact hx y)).calls hg
 refine h.mono fun e w' ⟨v,d,st',μ',h1,⟨hd,hst⟩,_,hstep,hv⟩=>?_
 subst hd;subst hst
 have hv:=fQ hv
 subst hv
 exact⟨h1,GR hstep.size hstep.os hstep.output hstep.tape.1 hstep.tape.2 fun j hj=>hstep.imm j hj fun⟨o,ob,b,h,_⟩=>by simp at h⟩
theorem Bt{enc:α→List Value}{k:Nat}{w:World}{blk off m:Nat}{d:Array α}{os:Array Obj}:(sortWorldK enc k w blk off m d os).heap=w.heap.modify blk (onCells (putCells id off (flatK enc k d)))++os:=rfl
theorem wh{enc:α→List Value}{k:Nat}{w:World}{blk off m:Nat}{d:Array α}{os:Array Obj}{c:Array Value}{ty:TypeId}{fr:Nat×Nat}(hb:w.heap[blk]? =some (.cells c ty fr)):
 (sortWorldK enc k w blk off m d os).heap[blk]? =some (.cells (putCells id off (flatK enc k d) c) ty fr):=by
 have hlt:blk<w.heap.size:=(Array.getElem?_eq_some_iff.1 hb).1
 rw[Bt,Array.getElem?_append_left (by simpa using hlt),Array.getElem?_modify,if_pos rfl,hb]
 rfl
theorem tU{enc:α→List Value}{k:Nat}{w:World}{blk off m j:Nat}{d:Array α}{os:Array Obj}(hj:j<w.heap.size)(hne:j≠blk):
 (sortWorldK enc k w blk off m d os).heap[j]? =w.heap[j]? :=by
 rw[Bt,Array.getElem?_append_left (by simpa using hj),Array.getElem?_modify,if_neg (fun e=>hne e.symm)]
theorem Jj{ρ:Ren}{E:α→List D}{enc:α→List Value}{k g o gen b:Nat}{cf:α→α→Int}{full:Bool}{st:St}{l:List α}(L:Go.Proofs.SlLaysF0.n6 P ρ)(aE:∀w,(isAgg (ρ.t 24)).run P w= .ok true w)(zE:∀w,(Go.sizeOf (ρ.t 24)).run P w= .ok k w)
 (he:Es E enc k) (hk:0<k) (hO:SWO (ltOf cf)) (hg:kE P g=true) (hb:kE P (ρ.f 6)=true) (hcf:∀x y,Pure P G g [.agg (E x),.agg (E y)] (.int .i64 (cf x y)))
 (hlk:look st o=some (.arr gen k b (rows E l))) (hl:l.length<4611686018427387904):
 Am.Spec P G (ρ.f 6) [.ref full o gen 0 l.length,.fn g [] []] st (fun d st'=>d= .tup []∧st'=aZ st [(o,.arr gen k b (rows E (kq cf l)))]):=by
 refine⟨trivial,fun w μ vs hs hG hn hv=>.inl ⟨hb,?_⟩⟩
 have h0:=hv 0 (by simp)
 have h1:=hv 1 (by simp)
 obtain⟨v0,v1,rfl⟩:∃a b,vs= #[a,b]:=by
  have:vs.size=2:=by simpa using hn
  refine⟨vs[0],vs[1],?_⟩
  apply Array.ext
  ·simpa using this
  ·intro i h1 h2
   match i,h1,h2 with
   |0,_,_=>rfl
   |1,_,_=>rfl
   |n+2,h1,_=>omega
 have h0:VR w μ st v0 (.ref full o gen 0 l.length):=h0
 have h1:VR w μ st v1 (.fn g [] []):=h1
 obtain rfl:v1= .func (.func g) #[] #[]:=by
  cases h1 with
  |tr h=>cases h
  |fn _ vf vc _ _ hf hc _ _=>
   have e1:vf= #[]:=Array.eq_empty_of_size_eq_zero hf
   have e2:vc= #[]:=Array.eq_empty_of_size_eq_zero hc
   rw[e1,e2]
 have hst:st[o]? =some (some (.arr gen k b (rows E l))):=U3 hlk
 have ho:o<st.length:=T6 hlk
 cases h0 with
 |tr h=>cases h
 |ref _ _ _ _ _ _ _ _ _ _ hr=>
  obtain⟨a,cap,rfl,c1,c2,_,c4⟩:=hr k b (rows E l) hst
  by_cases hl0:l=[]
  ·subst hl0
   refine(Go.Proofs.AnyF.slices_SortFunc_none L a cap _ w).mono fun e w' ⟨he1,he2⟩=>?_
   subst he2
   refine⟨_,.tup [],st,μ,he1,⟨rfl,?_⟩,hs,Step.refl _ _ _,.tup _ _ (fun j h=>absurd h (Nat.not_lt_zero _)) (fun j h=>absurd h (Nat.not_lt_zero _))⟩
   have e:kq cf ([]:List α)=[]:=List.eq_nil_of_length_eq_zero (by rw[(vw hO []).2.1];rfl)
   rw[e,N5 (by simp[hlk])]
  ·have hlen:0<l.length:=List.length_pos_iff.2 hl0
   obtain⟨blk,base,hm,rfl,c,ty,iR,hsz⟩:=c4.resolve_left (by omega)
   rw[Nat.zero_mul,Nat.add_zero]at*
   have hob:tj w μ st (μ o) k b (rows E l):=hs.obj o _ hst
   obtain⟨wA,base',c',ty',hm',MH,hsz',hcell⟩:=hob.loc.resolve_left (fun h=>by rw[hm]at h;cases h.1)
   rw[hm]at hm'
   cases hm'
   rw[iR]at MH
   cases MH
   have hblk:blk<w.heap.size:=(Array.getElem?_eq_some_iff.1 iR).1
   have hrl:(rows E l).length=l.length:=Ae l
   have Cd:∀i j,i<l.length→j<k→c[base+(i*k+j)]? =some (enc (l.toArray[i]!))[j]! :=fun i j hi hj=>by
    have hi':i<(rows E l).length:=by rw[hrl];exact hi
    have er:(rows E l)[i]=E l[i]:=by simp[rows]
    have hj':j<((rows E l)[i]).length:=by rw[er,he.Ji];exact hj
    obtain⟨v,e1,e2,_⟩:=hcell i j hi' hj'
    have e3:VR w μ st v ((E l[i])[j]'(by rw[he.Ji];exact hj)):=by
     have:((rows E l)[i])[j]=(E l[i])[j]'(by rw[he.Ji];exact hj):=by simp[er]
     rw[←this];exact e2
    rw[e1,he.to w μ st l[i] j (by rw[he.Ji];exact hj) v e3]
    simp[hi]
   have hH:HoldsK enc k w blk base l.toArray:=fun t ht=>by
    rw[size_flatK]at ht
    have ht2:t<l.length*k:=by simpa using ht
    have hi:t / k<l.length:=Nat.div_lt_of_lt_mul (by rw[Nat.mul_comm];exact ht2)
    have hj:t%k<k:=Nat.mod_lt _ hk
    have e1:t=t / k*k+t%k:=by rw[Nat.mul_comm];exact(Nat.div_add_mod t k).symm
    refine⟨?_,?_⟩
    ·rw[get_flatK _ _ _ _ ht]
     unfold World.cell?
     simp only[iR]
     have:=Cd (t / k) (t%k) hi hj
     rw[←e1]at this
     simpa using this
    ·unfold World.frozen?
     simp only[iR]
     simp
   have hGl:∀m os (dk:Array α),dk.size=l.toArray.size→Glob G (sortWorldK enc k w blk base m dk os) (fun _=>none) []:=fun m os dk _ gg cs e=>by
    refine(hG gg cs e).mono (fun b' hb' hnb=>⟨tU hb' fun e2=>hnb ⟨o,_,base,hst,by rw[e2];exact hm⟩,fun⟨o',ob',b2,h3,_⟩=>by simp at h3⟩) ?_
    rw[Bt];simp
   refine(Go.Proofs.AnyQ.slices_SortFunc_eq L k aE zE enc he.QG he.one cf hO g #[] blk base cap l.toArray w (fun args w2=>xX hg args w2) (Ly he hg hcf hGl) hH hblk (by simpa using hl)).mono fun e w' ⟨he1,m,os,hw⟩=>?_
   subst hw
   obtain⟨_,sl2,_⟩:=vw hO l
   have hds:(pdq (ltOf cf) l.toArray 0 l.toArray.size (Lib.bitLen l.toArray.size) true true)=(kq cf l).toArray:=by unfold kq;simp
   rw[hds]
   have key:=mA (w':=sortWorldK enc k w blk base m (kq cf l).toArray os) (μ':=μ) (ob':=.arr gen k b (rows E (kq cf l))) hs hst (fun _ _=>rfl)
    (fun b' hb' hne=>tU hb' fun e2=>hne base (by rw[e2];exact hm)) (by rw[Bt];simp) rfl rfl ⟨rfl,Nat.le_add_right _ _⟩
    (fun b' base' e2=>.inl ⟨base',e2⟩) ⟨Nat.le_refl _,fun _=>⟨rfl,rfl,by rw[Ae,Ae,sl2],rfl,fun b' base' c2 ty2 hm2 hh2=>by
     rw[hm]at hm2
     cases hm2
     rw[iR]at hh2
     cases hh2
     exact⟨_,wh iR,by simp[putCells]⟩⟩⟩
    (fun s=>⟨by rw[Ae,sl2];simpa[Ae]using hob.Uc,fun x hx=>by
     obtain⟨y,_,rfl⟩:=List.mem_map.1 hx
     exact he.Ji y,.inr ⟨blk,base,_,ty,hm,wh iR,by rw[Ae,sl2];simpa[putCells,Ae]using hsz',fun i j hi hj=>by
     have hi2:i<(kq cf l).length:=by rw[Ae]at hi;exact hi
     have er:(rows E (kq cf l))[i]=E (kq cf l)[i]:=by simp[rows]
     have hj2:j<k:=by rw[er,he.Ji]at hj;exact hj
     have hlt:i*k+j<(kq cf l).toArray.size*k:=by
      have:=Nat.mul_le_mul_right k (show i+1≤(kq cf l).toArray.size by simp only[List.size_toArray];omega)
      rw[Nat.add_mul,Nat.one_mul]at this
      omega
     have q1:(i*k+j) / k=i:=by rw[Nat.mul_comm,Nat.mul_add_div hk,Nat.div_eq_of_lt hj2,Nat.add_zero]
     have q2:(i*k+j)%k=j:=by rw[Nat.mul_comm,Nat.mul_add_mod,Nat.mod_eq_of_lt hj2]
     have hc:base+(i*k+j)<c.size:=by
      have h9:base+(rows E l).length*k≤c.size:=hsz'
      rw[Ae, ←sl2]at h9
      have:i*k+j<(kq cf l).length*k:=by simpa using hlt
      omega
     refine⟨(enc (kq cf l)[i])[j]!, ?_,?_,?_⟩
     ·unfold putCells
      rw[Array.getElem?_mapIdx,Array.getElem?_eq_getElem hc,Option.map_some,if_pos ⟨by omega,by rw[size_flatK];omega⟩,Nat.add_sub_cancel_left,get_flatK _ _ _ _ hlt,q1,q2]
      simp[hi2]
     ·have:=he.fro (sortWorldK enc k w blk base m (kq cf l).toArray os) μ (st.set o (some (.arr gen k b (rows E (kq cf l))))) (kq cf l)[i] j (by rw[he.Ji];exact hj2)
      have e4:((rows E (kq cf l))[i])[j]=(E (kq cf l)[i])[j]'(by rw[he.Ji];exact hj2):=by simp[er]
      rw[e4];exact this
     ·refine he.one (kq cf l)[i] _ ?_
      have hj3:j<(enc (kq cf l)[i]).length:=by rw[he.QG];exact hj2
      rw[List.getElem!_eq_getElem?_getD,List.getElem?_eq_getElem hj3]
      exact List.getElem_mem hj3⟩⟩)
   exact⟨_,.tup [],_,μ,he1,⟨rfl,rfl⟩,key.1,key.2,.tup _ _ (fun j h=>absurd h (Nat.not_lt_zero _)) (fun j h=>absurd h (Nat.not_lt_zero _))⟩
end
end Go.Am
namespace Go.Am
open Go
def Evt{α:Type}(x:Nat→Option α)(P:α→Prop):Prop:=∃r,P r∧∃N,∀n,N≤n→x n=some r
section
variable {α β ρ σ τ:Type} {P:α→Prop} {Q:β→Prop}
theorem Evt.mono{x:Nat→Option α}{P':α→Prop}(h:Evt x P)(hp:∀r,P r→P' r):Evt x P':=by
 obtain⟨r,hr,N,hN⟩:=h
 exact⟨r,hp r hr,N,hN⟩
theorem Evt.pure{r:α}(h:P r):Evt (fun _=>some r) P:=⟨r,h,0,fun _ _=>rfl⟩
theorem Evt.of{x:Option α}{r:α}(e:x=some r)(h:P r):Evt (fun _=>x) P:=⟨r,h,0,fun _ _=>e⟩
theorem Evt.congr{x y:Nat→Option α}(h:Evt x P)(e:∀n,y n=x n):Evt y P:=by
 obtain⟨r,hr,N,hN⟩:=h
 exact⟨r,hr,N,fun n hn=>(e n).trans (hN n hn)⟩
theorem Evt.succ{x:Nat→Option α}(h:Evt (fun n=>x (n+1)) P):Evt x P:=by
 obtain⟨r,hr,N,hN⟩:=h
 refine⟨r,hr,N+1,fun n hn=>?_⟩
 obtain⟨m,rfl⟩:∃m,n=m+1:=⟨n-1,by omega⟩
 exact hN m (by omega)
theorem Evt.bind{x:Nat→Option α}{f:Nat→α→Option β}(h:Evt x P)(hf:∀r,P r→Evt (fun n=>f n r) Q):Evt (fun n=>(x n).bind (f n)) Q:=by
 obtain⟨r,hr,N,hN⟩:=h
 obtain⟨s,hs,M,hM⟩:=hf r hr
 exact⟨s,hs,max N M,fun n hn=>by show(x n).bind (f n)=_;rw[hN n (by omega)];exact hM n (by omega)⟩
theorem Evt.chk{p:Prop}[Decidable p]{x:Nat→Option α}(hp:p)(h:Evt x P):Evt (fun n=>chk p (x n)) P:=by
 obtain⟨r,hr,N,hN⟩:=h
 exact⟨r,hr,N,fun n hn=>by show Am.chk p (x n)=_;unfold Am.chk;rw[if_pos hp];exact hN n hn⟩
theorem Evt.eE{a:α}{f:Nat→α→Option β}(h:Evt (fun n=>f n a) Q):Evt (fun n=>eE a (f n)) Q:=h
theorem Evt.cond{b:Bool}{x y:Nat→Option α}(h1:b=true→Evt x P)(h2:b=false→Evt y P):Evt (fun n=>bif b then x n else y n) P:=by
 cases b
 ·exact h2 rfl
 ·exact h1 rfl
theorem Evt.gd{G:Bool}{x:Nat→Option α}{d:α}(h1:G=true→Evt x P)(h2:G=false→P d):Evt (fun n=>gd G (x n) d) P:=by
 cases G
 ·exact Evt.pure (h2 rfl)
 ·exact h1 rfl
theorem Evt.B5{x:Nat→Option (Ex ρ τ)}{k:Nat→τ→Option ρ}{P:Ex ρ τ→Prop}{Q:ρ→Prop}(h:Evt x P)(hn:∀t,P (.nxt t)→Evt (fun n=>k n t) Q)(hr:∀r,P (.ret r)→Q r):
 Evt (fun n=>B5 (x n) (k n)) Q:=by
 obtain⟨e,he,N,hN⟩:=h
 cases e with
 |nxt t=>
  obtain⟨s,hs,M,hM⟩:=hn t he
  exact⟨s,hs,max N M,fun n hn=>by simp only[hN n (by omega),Am.B5];exact hM n (by omega)⟩
 |ret r=>exact⟨r,hr r he,N,fun n hn=>by simp only[hN n hn,Am.B5]⟩
def Lz(I:σ→Prop)(B:τ→Prop)(R:ρ→Prop):Ctl ρ σ τ→Prop
 | .nxt s=>I s
 | .brk t=>B t
 | .ret x=>R x
def ExP(B:τ→Prop)(R:ρ→Prop):Ex ρ τ→Prop
 | .nxt t=>B t
 | .ret x=>R x
theorem Evt.range{body:Nat→Nat→σ→Option (Ctl ρ σ σ)}{m:Nat}{s0:σ}(I:Nat→σ→Prop)(B:σ→Prop)(R:ρ→Prop)(h0:I 0 s0)
 (hs:∀k s,k<m→I k s→Evt (fun n=>body n k s) (Lz (I (k+1)) B R)):
 Evt (fun n=>F2 (body n) m s0) (ExP (fun s=>I m s∨B s) R):=by
 unfold F2
 have key:∀j k s,k+j=m→I k s→Evt (fun n=>cX (body n) j k s) (ExP (fun s=>I m s∨B s) R):=by
  intro j
  induction j with
  |zero=>
   intro k s e hi
   have:k=m:=by omega
   subst this
   exact Evt.pure (.inl hi)
  |succ j ih=>
   intro k s e hi
   obtain⟨c,hc,N,hN⟩:=hs k s (by omega) hi
   cases c with
   |nxt s'=>
    obtain⟨r,hr,M,hM⟩:=ih (k+1) s' (by omega) hc
    exact⟨r,hr,max N M,fun n hn=>by simp only[cX,hN n (by omega)];exact hM n (by omega)⟩
   |brk t=>exact⟨.nxt t,.inr hc,N,fun n hn=>by simp only[cX,hN n hn]⟩
   |ret x=>exact⟨.ret x,hc,N,fun n hn=>by simp only[cX,hN n hn]⟩
 exact key m 0 s0 (by omega) h0
theorem Evt.loop{body:Nat→σ→Option (Ctl ρ σ τ)}{s0:σ}(mu:σ→Nat)(I:σ→Prop)(B:τ→Prop)(R:ρ→Prop)(h0:I s0)
 (hs:∀s,I s→Evt (fun n=>body n s) (Lz (fun s'=>I s'∧mu s'<mu s) B R)):
 Evt (fun n=>P4 (body n) n s0) (ExP B R):=by
 have key:∀d s,mu s≤d→I s→∃e,ExP B R e∧∃N,∀n,N≤n→∀f,d<f→P4 (body n) f s=some e:=by
  intro d
  induction d with
  |zero=>
   intro s hd hi
   obtain⟨c,hc,N,hN⟩:=hs s hi
   cases c with
   |nxt s'=>exact absurd hc.2 (by omega)
   |brk t=>refine⟨.nxt t,hc,N,fun n hn f hf=>?_⟩;obtain⟨g,rfl⟩:∃g,f=g+1:=⟨f-1,by omega⟩;simp only[P4,hN n hn]
   |ret x=>refine⟨.ret x,hc,N,fun n hn f hf=>?_⟩;obtain⟨g,rfl⟩:∃g,f=g+1:=⟨f-1,by omega⟩;simp only[P4,hN n hn]
  |succ d ih=>
   intro s hd hi
   obtain⟨c,hc,N,hN⟩:=hs s hi
   cases c with
   |nxt s'=>
    obtain⟨e,he,M,hM⟩:=ih s' (by have:=hc.2;omega) hc.1
    refine⟨e,he,max N M,fun n hn f hf=>?_⟩
    obtain⟨g,rfl⟩:∃g,f=g+1:=⟨f-1,by omega⟩
    simp only[P4,hN n (by omega)]
    exact hM n (by omega) g (by omega)
   |brk t=>refine⟨.nxt t,hc,N,fun n hn f hf=>?_⟩;obtain⟨g,rfl⟩:∃g,f=g+1:=⟨f-1,by omega⟩;simp only[P4,hN n hn]
   |ret x=>refine⟨.ret x,hc,N,fun n hn f hf=>?_⟩;obtain⟨g,rfl⟩:∃g,f=g+1:=⟨f-1,by omega⟩;simp only[P4,hN n hn]
 obtain⟨e,he,N,hN⟩:=key (mu s0) s0 (Nat.le_refl _) h0
 exact⟨e,he,max N (mu s0+1),fun n hn=>hN n (by omega) n (by omega)⟩
end
end Go.Am
namespace Go.Am
open Go Go.Shelf
theorem Jk{P:Program}{G:Gl}{ρ:Ren}(L:Go.Proofs.Lays8.n4 P ρ){i0:TypeInfo}{z:Value}(hi0:P.info? (ρ.t 25)=some i0)(hz0:i0.zero=some z)(hzs:z.cells.size=i0.size)(hs0:0<i0.size)(hb:kE P (ρ.f 4)=true){n:Nat}{st:St}(hn:n*i0.bytes≤top)(h63:n≤4611686018427387904):
 Am.Spec P G (ρ.f 4) [.F6,.int .i64 (n:Int)] st (fun d st'=>d= .ref false st.length 0 0 0∧st'=st++[some (.arr 0 i0.size i0.bytes [])]):=by
 refine⟨trivial,fun w μ vs hs hG hsz hv=>.inl ⟨hb,?_⟩⟩
 have h0:=hv 0 (by simp)
 have h1:=hv 1 (by simp)
 obtain⟨v0,v1,rfl⟩:∃a b,vs= #[a,b]:=by
  have:vs.size=2:=by simpa using hsz
  refine⟨vs[0],vs[1],?_⟩
  apply Array.ext
  ·simpa using this
  ·intro i h1 h2
   match i,h1,h2 with
   |0,_,_=>rfl
   |1,_,_=>rfl
   |n+2,h1,_=>omega
 obtain rfl:v0= .slice none 0 0:=qS h0
 obtain rfl:v1= .int .i64 (n:Int):=fQ h1
 by_cases hz:n=0
 ·subst hz
  refine(Go.Proofs.Any8.slices_Grow_room L none 0 0 0 w (by omega) (by omega) (by omega) (by omega)).mono fun e w' ⟨he,hw⟩=>?_
  subst hw
  obtain⟨k1,k2⟩:=wP hs
  have hq:(st++[some Ob.resv])[st.length]? =some (some .resv):=by simp
  have h:=mA (w:=w') (w':=w') (μ':=upd (upd μ st.length none) st.length none) (ob':=.arr 0 i0.size i0.bytes []) k1 hq (fun o' h=>eI _ _ _ h) (fun _ _ _=>rfl) (Nat.le_refl _) rfl rfl ⟨rfl,Nat.le_refl _⟩ (fun blk base e=>by rw[M7]at e;cases e) trivial
   (fun s=>(⟨by simp,by simp,.inl ⟨M7 _ _ _,rfl⟩⟩:tj _ _ _ _ _ _ _))
  have DA:(st++[some Ob.resv]).set st.length (some (.arr 0 i0.size i0.bytes []))=st++[some (.arr 0 i0.size i0.bytes [])]:=by
   rw[List.set_append_right _ _ (Nat.le_refl _)];simp
  rw[DA]at h
  refine⟨_,.ref false st.length 0 0 0,_,_,he,⟨rfl,rfl⟩,h.1,k2.trans h.2,?_⟩
  refine .ref _ false st.length 0 0 0 ⟨_,_,_,rfl⟩ (by simp) (by simp) (fun g' n b es e=>Nat.zero_le _) (fun n' b es' e=>?_)
  exact⟨_,_,rfl,Nat.le_refl _,by simp,fun hf=>(by cases hf),.inl rfl⟩
 ·refine(Go.Proofs.Any8.slices_Grow_grow L i0 z hi0 hz0 hs0 none 0 0 n [] w (by omega) (by omega) (by rw[Nat.zero_add];unfold top at hn;exact hn) (by omega) (by simp) (fun _=>rfl) (fun a ha=>by cases ha)).mono fun e w' ⟨he,hw⟩=>?_
  obtain⟨k1,k2⟩:=wP hs
  have hq:(st++[some Ob.resv])[st.length]? =some (some .resv):=by simp
  have step:Step w (upd μ st.length none) (st++[some .resv]) w.drew (upd μ st.length none) (st++[some .resv]):=⟨Nat.le_refl _,rfl,rfl,⟨rfl,Nat.le_succ _⟩,fun _ _ _=>rfl,fun _ h=>.inl h,Nat.le_refl _,fun _ ob' _ h=>⟨ob',h,by
   cases ob' with
   |arr g n b es=>exact⟨Nat.le_refl _,fun _=>⟨rfl,rfl,rfl,rfl,fun blk base c ty _ hh=>⟨c,hh,rfl⟩⟩⟩
   |mps=>exact⟨rfl,rfl⟩
   |mpi=>exact⟨rfl,rfl,rfl⟩
   |sit=>rfl
   |resv=>trivial⟩⟩
  have hd0:Sim w.drew (upd μ st.length none) (st++[some .resv]):=⟨fun o ob h=>(k1.obj o ob h).step step (fun _ _ _=>rfl),k1.inj⟩
  have h:=mL (w:=w.drew) (x:=.cells ((#[]:Array Value)++Builtin.zeroCells z.cells (0+n-0)++Builtin.zeroCells z.cells (grownCap w (0+n) 0 (ρ.t 25)-(0+n))) (ρ.t 25)) (ob:=.arr 0 i0.size i0.bytes []) hd0 hq
   (fun s=>uN (fun a b ha hb'=>absurd ha (Nat.not_lt_zero _)) (by simp) (fun e he=>by cases he) (by simp) s)
  have DA:(st++[some Ob.resv]).set st.length (some (.arr 0 i0.size i0.bytes []))=st++[some (.arr 0 i0.size i0.bytes [])]:=by
   rw[List.set_append_right _ _ (Nat.le_refl _)];simp
  rw[DA]at h
  subst hw
  refine⟨_,.ref false st.length 0 0 0,_,_,he,⟨rfl,rfl⟩,h.1,(k2.trans step).trans h.2,?_⟩
  refine .ref _ false st.length 0 0 0 ⟨_,_,_,rfl⟩ (by simp) (by simp) (fun g' n b es e=>Nat.zero_le _) (fun n' b es' e=>?_)
  have e:some (some (Ob.arr 0 i0.size i0.bytes []))=some (some (Ob.arr 0 n' b es')):=by rw[←e];simp
  cases e
  refine⟨_,_,rfl,Nat.zero_le _,by simp,fun hf=>(by cases hf),.inr ⟨w.heap.size,0,by rw[M7];rfl,by simp,_,ρ.t 25,heap_alloc_new _ _,?_⟩⟩
  have hzc:∀m,(Builtin.zeroCells z.cells m).size=m*z.cells.size:=fun m=>by simp[Builtin.zeroCells]
  have hge:=grownCap_ge w (0+n) 0 (ρ.t 25)
  rw[Array.size_append,Array.size_append,hzc,hzc,hzs]
  simp only[List.size_toArray,List.length_nil,Nat.zero_add,Nat.sub_zero]at*
  rw[←Nat.add_mul]
  refine Nat.le_of_eq ?_
  congr 1
  omega
end Go.Am
namespace Go.Am
open Go
theorem QH{α:Type}{st T:St}{r:List D}{v:α}{n:Nat}{E:α→List D}(h:Ups st T r (E v)):nH st T (List.replicate n r) (rows E (List.replicate n v)):=by
 induction n with
 |zero=>exact .nil
 |succ n ih=>exact .cons _ _ _ _ h ih
end Go.Am
