import Derived.Test.YtfacbpehlibilaaGreatDoorTZLaw4
set_option linter.unusedVariables false
set_option linter.unusedSimpArgs false
namespace Go.Proofs.YtfacbpehlibilaaGreatDoor
open Go Go.Am
theorem wI{env:List (Bs×Bs)}{w:Bs}(h:w∈env.map (·.1)):∃p∈env,sub env w=p.2:=by
 obtain⟨p,hp,e⟩:=List.mem_map.1 (vZ h)
 exact⟨p,hp,e.symm⟩
mutual
theorem GA(N M:Nat→Bs)(U:Bs→Prop)(hN:∀i j,N i=N j→i=j)(hN2:∀i,¬U (N i)):∀(f:u5) (env env' cE:List (Bs×Bs)) (i j:Nat),(∀x,fre f (env.map (·.1)) x→U x)→(∀p∈env,∃k,k<i∧p.2=N k)→(∀w,w∈env.map (·.1)∨U w→sub env' (sub env w)=sub cE w)→ren M (ren N f env i) env' j=ren M f cE j
 | .mk k n w s,env,env',cE,i,j,hf,he,ha=>by
   have hw:∀x∈w,x∈env.map (·.1)∨U x:=fun x hx=>by
    by_cases h:x∈env.map (·.1)
    ·exact .inl h
    ·exact .inr (hf x (by rw[fre];exact .inl ⟨hx,h⟩))
   have e1:(w.map (sub env)).map (sub env')=w.map (sub cE):=by
    rw[List.map_map]
    exact List.map_congr_left fun x hx=>ha x (hw x hx)
   rw[ren,ren,ren,e1]
   by_cases hq:QK k
   ·simp only[if_pos hq]
    rw[wJ N M U hN hN2 s _ ((N i,M j)::env') ((n,M j)::cE) (i+1) (j+1) (fun x hx=>hf x (by rw[fre,if_pos hq];exact .inr hx)) (fun p hp=>?_) (fun y hy=>?_)]
    ·rcases List.mem_cons.1 hp with rfl|hp
     ·exact⟨i,by omega,rfl⟩
     ·obtain⟨l,h1,h2⟩:=he p hp
      exact⟨l,by omega,h2⟩
    ·by_cases e:n=y
     ·subst e
      have a:sub ((n,N i)::env) n=N i:=by rw[K1,if_pos rfl]
      have b:sub ((n,M j)::cE) n=M j:=by rw[K1,if_pos rfl]
      rw[a,b,K1,if_pos rfl]
     ·have a:sub ((n,N i)::env) y=sub env y:=by rw[K1,if_neg e]
      have b:sub ((n,M j)::cE) y=sub cE y:=by rw[K1,if_neg e]
      have hy':y∈env.map (·.1)∨U y:=by
       rcases hy with hy|hy
       ·rw[List.map_cons,List.mem_cons]at hy
        exact hy.elim (fun h=>absurd h.symm e) .inl
       ·exact .inr hy
      rw[a,b,K1,if_neg fun e2=>?_]
      ·exact ha y hy'
      ·by_cases hm:y∈env.map (·.1)
       ·obtain⟨p,hp,e3⟩:=wI hm
        obtain⟨l,hl,e4⟩:=he p hp
        rw[e3,e4]at e2
        have:=hN _ _ e2
        omega
       ·rw[kV fun p hp h=>hm (List.mem_map.2 ⟨p,hp,h⟩)]at e2
        exact hN2 i (e2▸hy'.elim (fun h=>absurd h hm) id)
   ·simp only[if_neg hq]
    rw[wJ N M U hN hN2 s env env' cE (i+0) (j+0) (fun x hx=>hf x (by rw[fre,if_neg hq];exact .inr hx)) he ha]
theorem wJ(N M:Nat→Bs)(U:Bs→Prop)(hN:∀i j,N i=N j→i=j)(hN2:∀i,¬U (N i)):∀(l:List u5) (env env' cE:List (Bs×Bs)) (i j:Nat),(∀x,W8 l (env.map (·.1)) x→U x)→(∀p∈env,∃k,k<i∧p.2=N k)→(∀w,w∈env.map (·.1)∨U w→sub env' (sub env w)=sub cE w)→I7 M (I7 N l env i) env' j=I7 M l cE j
 | [],env,env',cE,i,j,_,_,_=>by rw[I7,I7,I7]
 |f::l,env,env',cE,i,j,hf,he,ha=>by
  rw[I7,I7,I7,GA N M U hN hN2 f env env' cE i j (fun x hx=>hf x (by rw[W8];exact .inl hx)) he ha,yu,wJ N M U hN hN2 l env env' cE (i+nq f) (j+nq f) (fun x hx=>hf x (by rw[W8];exact .inr hx)) (fun p hp=>by
   obtain⟨k,h1,h2⟩:=he p hp
   exact⟨k,by omega,h2⟩) ha]
end
mutual
def jt(φ:Bs→Bs):u5→u5
 | .mk k n w s=>.mk k (if QK k then φ n else n) (w.map φ) (cH φ s)
def cH(φ:Bs→Bs):List u5→List u5
 | []=>[]
 |f::l=>jt φ f::cH φ l
end
section
variable (φ:Bs→Bs)
theorem AV(f:u5):jt φ f= .mk f.kind (if QK f.kind then φ f.name else f.name) (f.words.map φ) (cH φ f.subs):=by cases f;rw[jt];rfl
mutual
theorem Lh:∀f:u5,ndF (jt φ f)=ndF f
 | .mk k n w s=>by rw[jt,ndF,ndF,CG s]
theorem CG:∀l:List u5,T6 (cH φ l)=T6 l
 | []=>by rw[cH]
 |f::l=>by rw[cH,T6,T6,Lh f,CG l]
end
mutual
theorem Li:∀f:u5,dpF (jt φ f)=dpF f
 | .mk k n w s=>by rw[jt,dpF,dpF,CH s]
theorem CH:∀l:List u5,eM (cH φ l)=eM l
 | []=>by rw[cH]
 |f::l=>by rw[cH,eM,eM,Li f,CH l]
end
mutual
theorem AW:∀f:u5,nq (jt φ f)=nq f
 | .mk k n w s=>by rw[jt,nq,nq,CJ s]
theorem CJ:∀l:List u5,nqL (cH φ l)=nqL l
 | []=>by rw[cH]
 |f::l=>by rw[cH,nqL,nqL,AW f,CJ l]
end
variable {φ}
theorem CK(hφ:∀a b,φ a=φ b→a=b):∀(env:List (Bs×Bs)) (w:Bs),(w∉env.map (·.1)→φ w=w)→sub (env.map fun p=>(φ p.1,p.2)) (φ w)=sub env w
 | [],w,h=>by rw[List.map_nil,mP,mP];exact h (by simp)
 |(a,b)::env,w,h=>by
  rw[List.map_cons,K1,K1]
  by_cases e:a=w
  ·rw[if_pos e,if_pos (by rw[e])]
  ·rw[if_neg e,if_neg fun e2=>e (hφ _ _ e2)]
   exact CK hφ env w fun hm=>h fun hm2=>by
    rw[List.map_cons,List.mem_cons]at hm2
    exact hm2.elim (fun h=>e h.symm) hm
mutual
theorem CM(hφ:∀a b,φ a=φ b→a=b)(M:Nat→Bs):∀(f:u5) (env:List (Bs×Bs)) (i:Nat),(∀x,fre f (env.map (·.1)) x→φ x=x)→ren M (jt φ f) (env.map fun p=>(φ p.1,p.2)) i=ren M f env i
 | .mk k n w s,env,i,hf=>by
   have e1:(w.map φ).map (sub (env.map fun p=>(φ p.1,p.2)))=w.map (sub env):=by
    rw[List.map_map]
    exact List.map_congr_left fun x hx=>CK hφ env x fun h=>hf x (by rw[fre];exact .inl ⟨hx,h⟩)
   rw[jt,ren,ren,e1]
   by_cases hq:QK k
   ·simp only[if_pos hq]
    have:=td hφ M s ((n,M i)::env) (i+1) (fun x hx=>hf x (by rw[fre,if_pos hq];exact .inr hx))
    rw[List.map_cons]at this
    rw[this]
   ·simp only[if_neg hq]
    rw[td hφ M s env (i+0) (fun x hx=>hf x (by rw[fre,if_neg hq];exact .inr hx))]
theorem td(hφ:∀a b,φ a=φ b→a=b)(M:Nat→Bs):∀(l:List u5) (env:List (Bs×Bs)) (i:Nat),(∀x,W8 l (env.map (·.1)) x→φ x=x)→I7 M (cH φ l) (env.map fun p=>(φ p.1,p.2)) i=I7 M l env i
 | [],env,i,_=>by rw[cH,I7,I7]
 |f::l,env,i,hf=>by rw[cH,I7,I7,CM hφ M f env i (fun x hx=>hf x (by rw[W8];exact .inl hx)),AW,td hφ M l env _ (fun x hx=>hf x (by rw[W8];exact .inr hx))]
end
mutual
theorem wK(hφ:∀a b,φ a=φ b→a=b):∀(f:u5) (bd:List Bs) (x:Bs),fre (jt φ f) (bd.map φ) (φ x)↔fre f bd x
 | .mk k n w s,bd,x=>by
   have hm:∀(l:List Bs) (y:Bs),φ y∈l.map φ↔y∈l:=fun l y=>by
    constructor
    ·intro h
     obtain⟨z,hz,e⟩:=List.mem_map.1 h
     exact hφ _ _ e▸hz
    ·exact fun h=>List.mem_map.2 ⟨y,h,rfl⟩
   rw[jt,fre,fre,hm,hm]
   by_cases hq:QK k
   ·simp only[if_pos hq]
    rw[←List.map_cons,tg hφ s]
   ·simp only[if_neg hq]
    rw[tg hφ s]
theorem tg(hφ:∀a b,φ a=φ b→a=b):∀(l:List u5) (bd:List Bs) (x:Bs),W8 (cH φ l) (bd.map φ) (φ x)↔W8 l bd x
 | [],bd,x=>by rw[cH,W8,W8]
 |f::l,bd,x=>by rw[cH,W8,W8,wK hφ f,tg hφ l]
end
mutual
theorem CN:∀(f:u5) (bd:List Bs) (x:Bs),fre (jt φ f) bd x→∃y,x=φ y
 | .mk k n w s,bd,x,h=>by
   rw[jt,fre]at h
   rcases h with h|h
   ·obtain⟨y,_,e⟩:=List.mem_map.1 h.1
    exact⟨y,e.symm⟩
   ·exact yW s _ x h
theorem yW:∀(l:List u5) (bd:List Bs) (x:Bs),W8 (cH φ l) bd x→∃y,x=φ y
 | [],bd,x,h=>by rw[cH,W8]at h;exact h.elim
 |f::l,bd,x,h=>by
  rw[cH,W8]at h
  exact h.elim (CN f bd x) (yW l bd x)
end
theorem AX(hφ:∀a b,φ a=φ b→a=b){f:u5}(hf:∀x,fre f [] x→φ x=x):fre (jt φ f) []=fre f []:=by
 funext x
 refine propext ⟨fun h=>?_,fun h=>?_⟩
 ·obtain⟨y,rfl⟩:=CN f [] x h
  have h2:=(wK hφ f [] y).1 h
  rw[hf y h2];exact h2
 ·have:=(wK hφ f [] x).2 h
  rw[hf x h]at this
  exact this
end
def uY(φ:Bs→Bs)(b:w5):w5:=⟨b.name,if b.name.head? =some 46 then φ b.text else b.text,b.form⟩
def uZ(φ:Bs→Bs)(e:Env):Env:=e.map fun p=>(p.1,uY φ p.2)
section
variable {φ:Bs→Bs}
theorem IC(hφ:∀a b,φ a=φ b→a=b){a b:w5}(h:uY φ a=uY φ b):a=b:=by
 obtain⟨n,t,f⟩:=a
 obtain⟨n',t',f'⟩:=b
 unfold uY at h
 simp only[w5.mk.injEq]at h
 obtain⟨rfl,h2,rfl⟩:=h
 by_cases hh:n.head? =some 46
 ·rw[if_pos hh,if_pos hh]at h2
  rw[hφ _ _ h2]
 ·rw[if_neg hh,if_neg hh]at h2
  rw[h2]
theorem pD(k:Bs):∀e:Env,assoc k (uZ φ e)=(assoc k e).map (uY φ)
 | []=>rfl
 |(a,b)::e=>by
  show(if k=a then some (uY φ b)else assoc k (uZ φ e))=Option.map _ (if k=a then some b else assoc k e)
  by_cases h:k=a
  ·rw[if_pos h,if_pos h];rfl
  ·rw[if_neg h,if_neg h];exact pD k e
theorem nY(k:Bs)(b:w5):∀e:Env,B6 k (uY φ b) (uZ φ e)=uZ φ (B6 k b e)
 | []=>rfl
 |(a,c)::e=>by
  show(if k=a then(k,uY φ b)::uZ φ e else(a,uY φ c)::B6 k (uY φ b) (uZ φ e))=uZ φ (if k=a then(k,b)::e else(a,c)::B6 k b e)
  by_cases h:k=a
  ·rw[if_pos h,if_pos h];rfl
  ·rw[if_neg h,if_neg h,nY k b e];rfl
open Classical in
theorem GC(hφ:∀a b,φ a=φ b→a=b)(e:Env)(b:w5):oE (uZ φ e) (uY φ b)=(oE e b).map (uZ φ):=by
 unfold oE
 show(match assoc b.name (uZ φ e)with|none=>some (B6 b.name (uY φ b) (uZ φ e))|some b'=>if b'=uY φ b then some (uZ φ e)else none)=_
 rw[pD]
 cases h:assoc b.name e with
 |none=>simp only[Option.map_none,Option.map_some,nY]
 |some b'=>
  simp only[Option.map_some]
  by_cases hb:b'=b
  ·rw[if_pos hb,if_pos (by rw[hb])];rfl
  ·rw[if_neg hb,if_neg fun h2=>hb (IC hφ h2)];rfl
theorem yX(hφ:∀a b,φ a=φ b→a=b):∀(ps:List w5) (e:Env),bW (uZ φ e) (ps.map (uY φ))=(bW e ps).map (uZ φ)
 | [],e=>rfl
 |b::ps,e=>by
  rw[List.map_cons,bW,bW,GC hφ]
  cases oE e b with
  |none=>rfl
  |some e'=>exact yX hφ ps e'
theorem CO(hφ:∀a b,φ a=φ b→a=b)(W:List Bs):∀(ws ys:List Bs),(∀x∈ws,φ x=x)→ptw W [] ws (ys.map φ)=(ptw W [] ws ys).map (List.map (uY φ))
 | [],ys,_=>by
   cases ys<;>simp[ptw]
 |x::ws,[],_=>by simp[ptw]
 |x::ws,y::ys,h=>by
  have ih:=CO hφ W ws ys fun z hz=>h z (List.mem_cons_of_mem _ hz)
  have hx:=h x (List.mem_cons_self ..)
  rw[List.map_cons,ptw,ptw,if_neg List.not_mem_nil,if_neg List.not_mem_nil,ih]
  by_cases hw:x∈W
  ·rw[if_pos hw,if_pos hw]
   cases ptw W [] ws ys with
   |none=>rfl
   |some l=>rfl
  ·rw[if_neg hw,if_neg hw]
   by_cases e:x=y
   ·rw[if_pos e,if_pos (by rw[←e];exact hx.symm)]
   ·rw[if_neg e,if_neg fun e2=>e (hφ _ _ (hx.trans e2))];rfl
structure lR(s:w9):Prop where
 kind:s.form.kind=2
 subs:s.form.subs=[]
 parts:s.parts=[]
theorem lR.part{s:w9}(h:lR s)(f:u5):¬cr s f:=fun e=>by
 have:=e.2
 rw[h.parts]at this
 cases this
theorem lR.qs{s:w9}(h:lR s):qs s.form=[]:=by
 rw[KB,h.subs,qsL,if_neg (q2 h.kind)];rfl
noncomputable def eF(s:w9)(g:u5):Option Env:=(pts s s.form [] g).bind (bW [])
open Classical in
theorem DI{s:w9}(h:lR s)(g:u5):DG s g=match eF s g with
 |none=>([],false)
 |some e=>((gy s).map fun k=>⟨k.drop 1,txE e k,fmE e k⟩,true):=by
 unfold DG eF
 cases (pts s s.form [] g).bind (bW [])with
 |none=>rfl
 |some e=>
  have hc:¬caught s e:=fun⟨w,_,h2⟩=>by rw[h.qs]at h2;cases h2
  simp only[if_neg hc]
theorem Lj(hφ:∀a b,φ a=φ b→a=b){s:w9}(h:lR s)(hw:∀x∈s.form.words,φ x=x)(g:u5):eF s (jt φ g)=(eF s g).map (uZ φ):=by
 unfold eF
 have hq:¬QK s.form.kind:=q2 h.kind
 have key:pts s s.form [] (jt φ g)=(pts s s.form [] g).map (List.map (uY φ)):=by
  rw[pY,pY,if_neg (h.part _),if_neg (h.part _),h.subs,mR,mR]
  have m1:(jt φ g).kind=g.kind:=by rw[AV];rfl
  have m2:(jt φ g).words=g.words.map φ:=by rw[AV];rfl
  have m3:(jt φ g).name=if QK g.kind then φ g.name else g.name:=by rw[AV];rfl
  rw[m1,m2,List.length_map]
  by_cases hk:s.form.kind≠g.kind∨s.form.words.length≠g.words.length
  ·rw[if_pos hk,if_pos hk];rfl
  ·rw[if_neg hk,if_neg hk]
   rw[not_or,Classical.not_not,Classical.not_not]at hk
   have hp:pth s s.form (jt φ g)=(pth s s.form g).map (List.map (uY φ)):=by
    unfold pth
    rw[if_neg hq,if_neg hq,m3]
    have hn:(if QK g.kind then φ g.name else g.name)=g.name:=if_neg (by rw[←hk.1];exact hq)
    rw[hn]
    by_cases hp:s.form.kind=2∧s.form.name∈s.C4
    ·rw[if_pos hp]
     simp[uY]
    ·rw[if_neg hp]
     by_cases e:s.form.name=g.name
     ·rw[if_pos e];rfl
     ·rw[if_neg e];rfl
   rw[hp,CO hφ _ _ _ hw]
   unfold cat
   cases pth s s.form g with
   |none=>rfl
   |some a=>
    cases ptw s.words [] s.form.words g.words with
    |none=>rfl
    |some b=>simp
 rw[key]
 cases pts s s.form [] g with
 |none=>rfl
 |some ps=>exact yX hφ ps []
end
section
variable {φ:Bs→Bs}
mutual
theorem wL(N:Nat→Bs):∀(f:u5) (env:List (Bs×Bs)) (i:Nat),(∀x,fre f (env.map (·.1)) x→φ x=x)→jt φ (ren N f env i)=ren (fun j=>φ (N j)) f (env.map fun p=>(p.1,φ p.2)) i
 | .mk k n w s,env,i,hf=>by
   have e1:(w.map (sub env)).map φ=w.map (sub (env.map fun p=>(p.1,φ p.2))):=by
    rw[List.map_map]
    refine List.map_congr_left fun x hx=>?_
    show φ (sub env x)=_
    by_cases hm:x∈env.map (·.1)
    ·have:∀l:List (Bs×Bs),x∈l.map (·.1)→φ (sub l x)=sub (l.map fun p=>(p.1,φ p.2)) x:=fun l=>by
      induction l with
      |nil=>intro h;cases h
      |cons p l ih=>
       intro h
       obtain⟨a,b⟩:=p
       rw[List.map_cons,K1,K1]
       by_cases e:a=x
       ·rw[if_pos e,if_pos e]
       ·rw[if_neg e,if_neg e]
        rw[List.map_cons,List.mem_cons]at h
        exact ih (h.elim (fun h=>absurd h.symm e) id)
     exact this env hm
    ·have hm2:x∉ (env.map fun p=>(p.1,φ p.2)).map (·.1):=fun h=>hm (by
      rw[List.map_map]at h
      obtain⟨p,hp,e⟩:=List.mem_map.1 h
      exact List.mem_map.2 ⟨p,hp,e⟩)
     rw[kV fun p hp e=>hm (List.mem_map.2 ⟨p,hp,e⟩),kV fun p hp e=>hm2 (List.mem_map.2 ⟨p,hp,e⟩)]
     exact hf x (by rw[fre];exact .inl ⟨hx,hm⟩)
   rw[ren,jt,ren,e1]
   by_cases hq:QK k
   ·simp only[if_pos hq]
    rw[pE N s _ (i+1) (fun x hx=>hf x (by rw[fre,if_pos hq];exact .inr hx)),List.map_cons]
   ·simp only[if_neg hq]
    rw[pE N s _ (i+0) (fun x hx=>hf x (by rw[fre,if_neg hq];exact .inr hx))]
theorem pE(N:Nat→Bs):∀(l:List u5) (env:List (Bs×Bs)) (i:Nat),(∀x,W8 l (env.map (·.1)) x→φ x=x)→cH φ (I7 N l env i)=I7 (fun j=>φ (N j)) l (env.map fun p=>(p.1,φ p.2)) i
 | [],env,i,_=>by rw[I7,cH,I7]
 |f::l,env,i,hf=>by rw[I7,cH,I7,wL N f env i (fun x hx=>hf x (by rw[W8];exact .inl hx)),pE N l env _ (fun x hx=>hf x (by rw[W8];exact .inr hx))]
end
end
mutual
def prF(h:Bs→Bs):u5→u5
 | .mk k n w s=>.mk k (if k=2 then h n else n) w (kA h s)
def kA(h:Bs→Bs):List u5→List u5
 | []=>[]
 |f::l=>prF h f::kA h l
end
section
variable (h:Bs→Bs)
theorem OO(f:u5):prF h f= .mk f.kind (if f.kind=2 then h f.name else f.name) f.words (kA h f.subs):=by cases f;rw[prF];rfl
theorem je:∀l:List u5,kA h l=l.map (prF h)
 | []=>by rw[kA];rfl
 |f::l=>by rw[kA,je l];rfl
mutual
theorem GD:∀f:u5,ndF (prF h f)=ndF f
 | .mk k n w s=>by rw[prF,ndF,ndF,AY s]
theorem AY:∀l:List u5,T6 (kA h l)=T6 l
 | []=>by rw[kA]
 |f::l=>by rw[kA,T6,T6,GD f,AY l]
end
mutual
theorem GF:∀f:u5,dpF (prF h f)=dpF f
 | .mk k n w s=>by rw[prF,dpF,dpF,AZ s]
theorem AZ:∀l:List u5,eM (kA h l)=eM l
 | []=>by rw[kA]
 |f::l=>by rw[kA,eM,eM,GF f,AZ l]
end
mutual
theorem OP:∀f:u5,nq (prF h f)=nq f
 | .mk k n w s=>by rw[prF,nq,nq,Ba s]
theorem Ba:∀l:List u5,nqL (kA h l)=nqL l
 | []=>by rw[kA]
 |f::l=>by rw[kA,nqL,nqL,OP f,Ba l]
end
mutual
theorem Bb:∀(f:u5) (bd:List Bs) (x:Bs),fre (prF h f) bd x↔fre f bd x
 | .mk k n w s,bd,x=>by
   rw[prF,fre,fre]
   by_cases hq:QK k
   ·rw[if_neg (fun e=>q2 e hq),wM s]
   ·simp only[if_neg hq]
    rw[wM s]
theorem wM:∀(l:List u5) (bd:List Bs) (x:Bs),W8 (kA h l) bd x↔W8 l bd x
 | [],bd,x=>by rw[kA]
 |f::l,bd,x=>by rw[kA,W8,W8,Bb f,wM l]
end
end
noncomputable def nZ:List u6→u5→Option (u6×Env)
 | [],_=>none
 |r::rs,f=>match eF r.from_ f with
  |some e=>some (r,e)
  |none=>nZ rs f
def bp(s:w9)(e:Env)(n:Bs):Bs:=if n∈s.C4 then txE e (33::n)else n
def IE(s:w9)(e:Env):List (Bs×Bs):=s.words.map fun w=>(w,txE e (46::w))
def inst(r:u6)(e:Env)(c:Nat):u5:=ren (fun j=>qn (c+j)) (prF (bp r.from_ e) r.to_) (IE r.from_ e) 0
section
variable (rs:List u6)
mutual
noncomputable def nR:u5→Nat
 | .mk k n w s=>match nZ rs (.mk k n w s)with
   |some p=>nq p.1.to_
   |none=>nRL s
noncomputable def nRL:List u5→Nat
 | []=>0
 |f::l=>nR f+nRL l
end
mutual
noncomputable def RP:u5→Nat→u5
 | .mk k n w s,c=>match nZ rs (.mk k n w s)with
   |some p=>inst p.1 p.2 c
   |none=>.mk k n w (RPL s c)
noncomputable def RPL:List u5→Nat→List u5
 | [],_=>[]
 |f::l,c=>RP f c::RPL l (c+nR rs f)
end
theorem Lk(f:u5):nR rs f=match nZ rs f with|some p=>nq p.1.to_|none=>nRL rs f.subs:=by cases f;rw[nR];rfl
theorem IG(f:u5)(c:Nat):RP rs f c=match nZ rs f with|some p=>inst p.1 p.2 c|none=>.mk f.kind f.name f.words (RPL rs f.subs c):=by cases f;rw[RP];rfl
end
structure Ll(φ:Bs→Bs)(rs:List u6):Prop where
 inj:∀a b,φ a=φ b→a=b
 nil:φ []=[]
 pred:∀r∈rs,lR r.from_
 frm:∀r∈rs,∀x∈r.from_.form.words,φ x=x
 tow:∀r∈rs,∀x,fre r.to_ [] x→φ x=x
section
variable {φ:Bs→Bs} {rs:List u6}
theorem tj:∀ {rs:List u6} (_:Ll φ rs) (f:u5),nZ rs (jt φ f)=(nZ rs f).map fun p=>(p.1,uZ φ p.2)
 | [],_,f=>rfl
 |r::rs,h,f=>by
  have ih:=tj (rs:=rs) ⟨h.inj,h.nil,fun r hr=>h.pred r (List.mem_cons_of_mem _ hr),fun r hr=>h.frm r (List.mem_cons_of_mem _ hr),fun r hr=>h.tow r (List.mem_cons_of_mem _ hr)⟩ f
  rw[nZ,nZ,Lj h.inj (h.pred r (List.mem_cons_self ..)) (h.frm r (List.mem_cons_self ..))]
  cases eF r.from_ f with
  |none=>exact ih
  |some e=>rfl
theorem oa:∀ {rs:List u6} {f:u5} {p:u6×Env},nZ rs f=some p→p.1∈rs∧eF p.1.from_ f=some p.2
 | [],f,p,h=>by cases h
 |r::rs,f,p,h=>by
  rw[nZ]at h
  cases he:eF r.from_ f with
  |none=>
   rw[he]at h
   obtain⟨h1,h2⟩:=oa (rs:=rs) h
   exact⟨List.mem_cons_of_mem _ h1,h2⟩
  |some e=>
   rw[he]at h
   cases h
   exact⟨List.mem_cons_self ..,he⟩
theorem CP(h0:φ []=[])(e:Env)(hn:∀k b,assoc k e=some b→b.name=k)(k:Bs):txE (uZ φ e) k=if k.head? =some 46 then φ (txE e k)else txE e k:=by
 unfold txE
 rw[pD]
 cases h:assoc k e with
 |none=>
  show(default:w5).text=if k.head? =some 46 then φ (default:w5).text else(default:w5).text
  have:(default:w5).text=[]:=rfl
  rw[this,h0];simp
 |some b=>
  show(uY φ b).text=if k.head? =some 46 then φ b.text else b.text
  unfold uY
  rw[hn k b h]
theorem GH(h:Ll φ rs){r:u6}(hr:r∈rs){e:Env}(hn:∀k b,assoc k e=some b→b.name=k){c c':Nat}(hc:∀j,φ (qn (c+j))=qn (c'+j)):inst r (uZ φ e) c'=jt φ (inst r e c):=by
 have hb:bp r.from_ (uZ φ e)=bp r.from_ e:=by
  funext n
  unfold bp
  rw[CP h.nil e hn,if_neg (show ¬(33::n:Bs).head? =some 46 from fun e=>by cases e)]
 have hw:IE r.from_ (uZ φ e)=(IE r.from_ e).map fun p=>(p.1,φ p.2):=by
  unfold IE
  rw[List.map_map]
  refine List.map_congr_left fun w _=>?_
  rw[CP h.nil e hn,if_pos (show(46::w:Bs).head? =some 46 from rfl)];rfl
 unfold inst
 rw[hb,hw,wL]
 ·simp only[hc]
 ·intro x hx
  rw[Bb]at hx
  refine h.tow r hr x ?_
  have:∀(m:Nat) (f:u5),SizeOf.sizeOf f≤m→∀(bd bd':List Bs) (x:Bs),(∀y∈bd',y∈bd)→fre f bd x→fre f bd' x:=by
   intro m
   induction m with
   |zero=>intro f h;cases f;simp only[u5.mk.sizeOf_spec]at h;omega
   |succ m ih=>
    intro f hf bd bd' x hs hx
    have hL:∀l:List u5,(∀y∈l,SizeOf.sizeOf y≤m)→∀(bd bd':List Bs),(∀y∈bd',y∈bd)→W8 l bd x→W8 l bd' x:=by
     intro l
     induction l with
     |nil=>intro _ bd bd' _ h;rw[W8]at h;exact h.elim
     |cons a l ihl=>
      intro hl bd bd' hs h
      rw[W8]at h⊢
      exact h.elim (fun h=>.inl (ih a (hl a (List.mem_cons_self ..)) bd bd' x hs h)) fun h=>.inr (ihl (fun y hy=>hl y (List.mem_cons_of_mem _ hy)) bd bd' hs h)
    rw[yw]at hx⊢
    rcases hx with⟨h1,h2⟩|hx
    ·exact .inl ⟨h1,fun h3=>h2 (hs x h3)⟩
    ·refine .inr (hL f.subs (fun y hy=>?_) _ _ (fun y hy=>?_) hx)
     ·obtain⟨j,hj,rfl⟩:=V7.1 hy
      have:=I6 hj
      omega
     ·by_cases hq:QK f.kind
      ·rw[if_pos hq]at hy⊢
       rcases List.mem_cons.1 hy with rfl|hy
       ·exact List.mem_cons_self ..
       ·exact List.mem_cons_of_mem _ (hs y hy)
      ·rw[if_neg hq]at hy ⊢; exact hs y hy
  exact this _ _ (Nat.le_refl _) _ [] x (fun y hy=>by cases hy) hx
theorem II{s:w9}{g:u5}(hg:SmF g){e:Env}(h:eF s g=some e):∀k b,assoc k e=some b→b.name=k:=by
 have Cg:ke e:=by
  unfold eF at h
  cases hq:pts s s.form [] g with
  |none=>rw[hq]at h;cases h
  |some ps=>rw[hq]at h;exact wz (fun k b h=>by cases h) (yJ s _ _ _ hg ps hq) h
 exact fun k b hb=>(Cg k b hb).1
mutual
theorem GI(h:Ll φ rs):∀f:u5,nR rs (jt φ f)=nR rs f
 | .mk k n w s=>by
   have e1:nR rs (jt φ (.mk k n w s))=_:=Lk rs _
   rw[e1,tj h,nR]
   cases nZ rs (.mk k n w s)with
   |none=>
    show nRL rs (jt φ (.mk k n w s)).subs=nRL rs s
    rw[jt]
    exact CQ h s
   |some p=>rfl
theorem CQ(h:Ll φ rs):∀l:List u5,nRL rs (cH φ l)=nRL rs l
 | []=>by rw[cH]
 |f::l=>by rw[cH,nRL,nRL,GI h f,CQ h l]
end
mutual
theorem Bc(h:Ll φ rs):∀(f:u5),SmF f→∀(c c':Nat),(∀j,φ (qn (c+j))=qn (c'+j))→RP rs (jt φ f) c'=jt φ (RP rs f c)
 | .mk k n w s,hs,c,c',hc=>by
   have e1:RP rs (jt φ (.mk k n w s)) c'=_:=IG rs _ _
   rw[e1,tj h,RP]
   cases hm:nZ rs (.mk k n w s)with
   |none=>
    show u5.mk _ _ _ (RPL rs (jt φ (.mk k n w s)).subs c')=jt φ (.mk k n w (RPL rs s c))
    rw[SmF]at hs
    rw[jt,jt]
    show u5.mk k _ _ (RPL rs (cH φ s) c')=_
    rw[CS h s hs.2.2 c c' hc];rfl
   |some p=>
    obtain⟨h1,h2⟩:=oa hm
    exact GH h h1 (II hs h2) hc
theorem CS(h:Ll φ rs):∀(l:List u5),nS l→∀(c c':Nat),(∀j,φ (qn (c+j))=qn (c'+j))→RPL rs (cH φ l) c'=cH φ (RPL rs l c)
 | [],_,c,c',_=>by rw[cH,RPL,RPL,cH]
 |f::l,hs,c,c',hc=>by
  rw[nS]at hs
  rw[cH,RPL,RPL,cH,Bc h f hs.1 c c' hc,GI h f,CS h l hs.2 (c+nR rs f) (c'+nR rs f) (fun j=>by rw[Nat.add_assoc,hc,Nat.add_assoc])]
end
end
mutual
theorem qb(N:Nat→Bs):∀(f:u5) (env:List (Bs×Bs)) (bd:List Bs) (i:Nat) (x:Bs),fre (ren N f env i) bd x→x∉bd∧((∃p∈env,x=p.2)∨fre f (env.map (·.1)) x)
 | .mk k n w s,env,bd,i,x,h=>by
   refine⟨FN _ _ _ h,?_⟩
   rw[ren,fre]at h
   rw[fre]
   rcases h with⟨h1,h2⟩|h
   ·obtain⟨y,hy,rfl⟩:=List.mem_map.1 h1
    by_cases hm:y∈env.map (·.1)
    ·obtain⟨p,hp,e⟩:=wI hm
     exact .inl ⟨p,hp,e⟩
    ·rw[kV fun p hp e=>hm (List.mem_map.2 ⟨p,hp,e⟩)]
     exact .inr (.inl ⟨hy,hm⟩)
   ·by_cases hq:QK k
    ·simp only[if_pos hq]at h⊢
     obtain⟨h1,h2⟩:=kg N s _ _ _ x h
     rcases h2 with⟨p,hp,e⟩|h2
     ·rcases List.mem_cons.1 hp with rfl|hp
      ·exact absurd (List.mem_cons.2 (.inl e)) h1
      ·exact .inl ⟨p,hp,e⟩
     ·rw[List.map_cons]at h2
      exact .inr (.inr h2)
    ·simp only[if_neg hq]at h⊢
     obtain⟨_,h2⟩:=kg N s _ _ _ x h
     exact h2.elim .inl fun h=>.inr (.inr h)
theorem kg(N:Nat→Bs):∀(l:List u5) (env:List (Bs×Bs)) (bd:List Bs) (i:Nat) (x:Bs),W8 (I7 N l env i) bd x→x∉bd∧((∃p∈env,x=p.2)∨W8 l (env.map (·.1)) x)
 | [],env,bd,i,x,h=>by rw[I7,W8]at h;exact h.elim
 |f::l,env,bd,i,x,h=>by
  rw[I7,W8]at h
  rw[W8]
  rcases h with h|h
  ·obtain⟨h1,h2⟩:=qb N f env bd _ x h
   exact⟨h1,h2.elim .inl fun h=>.inr (.inl h)⟩
  ·obtain⟨h1,h2⟩:=kg N l env bd _ x h
   exact⟨h1,h2.elim .inl fun h=>.inr (.inr h)⟩
end
theorem Bd(W:List Bs):∀(ws ys:List Bs) (l:List w5),ws.length=ys.length→ptw W [] ws ys=some l→∀x∈ws,x∈W→∃y∈ys,(⟨46::x,y,zf⟩:w5)∈l
 | [],ys,l,_,_,x,hx,_=>by cases hx
 |a::ws,[],l,hl,_,x,_,_=>by simp at hl
 |a::ws,b::ys,l,hl,h,x,hx,hW=>by
  rw[ptw,if_neg List.not_mem_nil]at h
  have hl':ws.length=ys.length:=by simpa using hl
  by_cases ha:a∈W
  ·rw[if_pos ha]at h
   cases hp:ptw W [] ws ys with
   |none=>rw[hp]at h;cases h
   |some l'=>
    rw[hp]at h
    cases h
    rcases List.mem_cons.1 hx with rfl|hx
    ·exact⟨b,List.mem_cons_self ..,List.mem_cons_self ..⟩
    ·obtain⟨y,h1,h2⟩:=Bd W ws ys l' hl' hp x hx hW
     exact⟨y,List.mem_cons_of_mem _ h1,List.mem_cons_of_mem _ h2⟩
  ·rw[if_neg ha]at h
   by_cases e:a=b
   ·rw[if_pos e]at h
    rcases List.mem_cons.1 hx with rfl|hx
    ·exact absurd hW ha
    ·obtain⟨y,h1,h2⟩:=Bd W ws ys l hl' h x hx hW
     exact⟨y,List.mem_cons_of_mem _ h1,h2⟩
   ·rw[if_neg e]at h;cases h
theorem IJ{s:w9}(hs:lR s){g:u5}{e:Env}(h:eF s g=some e){x:Bs}(h1:x∈s.words)(h2:x∈s.form.words):txE e (46::x)∈g.words:=by
 unfold eF at h
 rw[pY,if_neg (hs.part _),hs.subs,mR]at h
 by_cases hk:s.form.kind≠g.kind∨s.form.words.length≠g.words.length
 ·rw[if_pos hk]at h;cases h
 rw[if_neg hk]at h
 rw[not_or,Classical.not_not,Classical.not_not]at hk
 cases hp:pth s s.form g with
 |none=>rw[hp]at h;cases h
 |some a=>
  cases hw:ptw s.words [] s.form.words g.words with
  |none=>rw[hp,hw]at h;cases h
  |some b=>
   rw[hp,hw]at h
   have h:bW [] (a++(b++[]))=some e:=h
   obtain⟨y,hy,hm⟩:=Bd _ _ _ _ hk.2 hw x h2 h1
   have:=(jc _ _ _ h).1 _ (List.mem_append.2 (.inr (List.mem_append.2 (.inl hm))))
   have this:assoc (46::x) e=some ⟨46::x,y,zf⟩:=this
   unfold txE
   rw[this]
   exact hy
structure kh(r:u6):Prop where
 pred:lR r.from_
 good:Iv r.from_
 to:OkF r.to_
theorem kh.words{r:u6}(h:kh r){x:Bs}(hx:x∈r.from_.words):x∈r.from_.form.words:=by
 have:=h.good.words x hx
 rw[yw,h.pred.subs]at this
 rcases this with h|h
 ·exact h.1
 ·rw[W8]at h;exact h.elim
theorem kh.names{r:u6}(h:kh r):∀x∈r.from_.form.words,B9 x:=(Z8 ((Z4 _).1 h.good.form.1).1).2.2.2.2
section
variable {rs:List u6}
theorem IK(hr:∀r∈rs,kh r){g:u5}{p:u6×Env}(hm:nZ rs g=some p)(c:Nat)(bd:List Bs)(x:Bs)(h:fre (inst p.1 p.2 c) bd x):fre g bd x∨B9 x:=by
 obtain⟨h1,h2⟩:=oa hm
 have hp:=hr _ h1
 unfold inst at h
 obtain⟨h3,h4⟩:=qb _ _ _ _ _ _ h
 rcases h4 with⟨q,hq,rfl⟩|h4
 ·obtain⟨w,hw,rfl⟩:=List.mem_map.1 hq
  left
  rw[yw]
  exact .inl ⟨IJ hp.pred h2 hw (hp.words hw),h3⟩
 ·right
  rw[Bb]at h4
  exact kc _ hp.to.1 _ x h4
mutual
theorem yY(hr:∀r∈rs,kh r):∀(f:u5) (c:Nat) (bd:List Bs) (x:Bs),fre (RP rs f c) bd x→fre f bd x∨B9 x
 | .mk k n w s,c,bd,x,h=>by
   rw[RP]at h
   cases hm:nZ rs (.mk k n w s)with
   |some p=>
    rw[hm]at h
    exact IK hr hm c bd x h
   |none=>
    rw[hm]at h
    have h:fre (.mk k n w (RPL rs s c)) bd x:=h
    rw[fre]at h⊢
    rcases h with h|h
    ·exact .inl (.inl h)
    ·exact(GJ hr s c _ x h).elim (fun h=>.inl (.inr h)) .inr
theorem GJ(hr:∀r∈rs,kh r):∀(l:List u5) (c:Nat) (bd:List Bs) (x:Bs),W8 (RPL rs l c) bd x→W8 l bd x∨B9 x
 | [],c,bd,x,h=>by rw[RPL]at h;exact .inl h
 |f::l,c,bd,x,h=>by
  rw[RPL,W8]at h
  rw[W8]
  rcases h with h|h
  ·exact(yY hr f c bd x h).elim (fun h=>.inl (.inl h)) .inr
  ·exact(GJ hr l _ bd x h).elim (fun h=>.inl (.inr h)) .inr
end
end
open Classical in
noncomputable def phi(σ:Nat→Nat)(w:Bs):Bs:=if h:∃i,w=qn i then qn (σ h.choose)else w
theorem vd(σ:Nat→Nat)(i:Nat):phi σ (qn i)=qn (σ i):=by
 unfold phi
 have h:∃j,qn i=qn j:=⟨i,rfl⟩
 rw[dif_pos h]
 congr 2
 exact(Gk _ _ h.choose_spec).symm
theorem tq(σ:Nat→Nat){w:Bs}(h:∀i,w≠qn i):phi σ w=w:=by
 unfold phi
 rw[dif_neg fun⟨i,e⟩=>h i e]
theorem oc(σ:Nat→Nat){w:Bs}(h:B9 w):phi σ w=w:=tq σ fun i e=>AF i (e▸h)
theorem Bf{σ:Nat→Nat}(hσ:∀i j,σ i=σ j→i=j)(a b:Bs)(h:phi σ a=phi σ b):a=b:=by
 by_cases ha:∃i,a=qn i
 ·obtain⟨i,rfl⟩:=ha
  rw[vd]at h
  by_cases hb:∃j,b=qn j
  ·obtain⟨j,rfl⟩:=hb
   rw[vd]at h
   rw[hσ _ _ (Gk _ _ h)]
  ·rw[tq σ fun i e=>hb ⟨i,e⟩]at h
   exact absurd ⟨_,h.symm⟩ hb
 ·rw[tq σ fun i e=>ha ⟨i,e⟩]at h
  by_cases hb:∃j,b=qn j
  ·obtain⟨j,rfl⟩:=hb
   rw[vd]at h
   exact absurd ⟨_,h⟩ ha
  ·rw[tq σ fun i e=>hb ⟨i,e⟩]at h
   exact h
theorem GK{σ:Nat→Nat}(hσ:∀i j,σ i=σ j→i=j){rs:List u6}(hr:∀r∈rs,kh r):Ll (phi σ) rs where
 inj:=Bf hσ
 nil:=tq σ fun i e=>by cases e
 pred:=fun r h=>(hr r h).pred
 frm:=fun r h x hx=>oc σ ((hr r h).names x hx)
 tow:=fun r h x hx=>oc σ (kc _ (hr r h).to.1 _ x hx)
mutual
theorem yZ{N N':Nat→Bs}:∀(f:u5) (env:List (Bs×Bs)) (i j:Nat),(∀k,k<nq f→N (i+k)=N' (j+k))→ren N f env i=ren N' f env j
 | .mk k n w s,env,i,j,h=>by
   rw[nq]at h
   rw[ren,ren]
   by_cases hq:QK k
   ·simp only[if_pos hq]at h⊢
    have h0:N i=N' j:=h 0 (by omega)
    rw[h0,pF s _ (i+1) (j+1) fun k hk=>by rw[Nat.add_assoc,Nat.add_assoc];exact h _ (by omega)]
   ·simp only[if_neg hq]at h⊢
    rw[pF s _ (i+0) (j+0) fun k hk=>by rw[Nat.add_zero,Nat.add_zero];exact h _ (by omega)]
theorem pF{N N':Nat→Bs}:∀(l:List u5) (env:List (Bs×Bs)) (i j:Nat),(∀k,k<nqL l→N (i+k)=N' (j+k))→I7 N l env i=I7 N' l env j
 | [],env,i,j,_=>by rw[I7,I7]
 |f::l,env,i,j,h=>by
  rw[nqL]at h
  rw[I7,I7,yZ f env i j fun k hk=>h k (by omega),pF l env (i+nq f) (j+nq f) fun k hk=>by rw[Nat.add_assoc,Nat.add_assoc];exact h _ (by omega)]
end
theorem GL{σ:Nat→Nat}{f:u5}(hf:WfF f){i:Nat}(h:∀k,k<nq f→σ k=i+k):ren qn f [] i=jt (phi σ) (ren qn f [] 0):=by
 rw[wL qn f [] 0 fun x hx=>oc σ (kc f hf _ x hx)]
 refine yZ f [] i 0 fun k hk=>?_
 show qn (i+k)=phi σ (qn (0+k))
 rw[vd,Nat.zero_add,h k hk]
section
variable (h:Bs→Bs)
mutual
theorem JE:∀f:u5,ArF f→ArF (prF h f)
 | .mk k n w s,hf=>by
   rw[ArF]at hf
   rw[prF,ArF,je,List.length_map, ←je]
   exact⟨hf.1,hf.2.1,hf.2.2.1,GN s hf.2.2.2⟩
theorem GN:∀l:List u5,kB l→kB (kA h l)
 | [],_=>by rw[kA,kB];trivial
 |f::l,hf=>by
  rw[kB]at hf
  rw[kA,kB]
  exact⟨JE f hf.1,GN l hf.2⟩
end
end
section
variable {rs:List u6}
theorem wN:∀(l:List u5) (c:Nat),(RPL rs l c).length=l.length
 | [],c=>by rw[RPL]
 |f::l,c=>by rw[RPL,List.length_cons,List.length_cons,wN l]
mutual
theorem DJ(hr:∀r∈rs,kh r):∀(f:u5) (c:Nat),ArF f→ArF (RP rs f c)
 | .mk k n w s,c,hf=>by
   rw[RP]
   cases hm:nZ rs (.mk k n w s)with
   |some p=>exact ArF.ren _ _ _ _ (JE _ _ (WfF.ar _ (hr _ (oa hm).1).to.1))
   |none=>
    rw[ArF]at hf
    show ArF (.mk k n w (RPL rs s c))
    rw[ArF,wN]
    exact⟨hf.1,hf.2.1,hf.2.2.1,JF hr s c hf.2.2.2⟩
theorem JF(hr:∀r∈rs,kh r):∀(l:List u5) (c:Nat),kB l→kB (RPL rs l c)
 | [],c,_=>by rw[RPL,kB];trivial
 |f::l,c,hf=>by
  rw[kB]at hf
  rw[RPL,kB]
  exact⟨DJ hr f c hf.1,JF hr l _ hf.2⟩
end
end
structure AlF(a b:u5):Prop where
 free:fre a []=fre b []
 Bg:nq a=nq b
 same:∀(M:Nat→Bs) (j:Nat),ren M a [] j=ren M b [] j
theorem AlF.symm{a b:u5}(h:AlF a b):AlF b a:=⟨h.free.symm,h.Bg.symm,fun M j=>(h.same M j).symm⟩
theorem AlF.trans{a b c:u5}(h:AlF a b)(h':AlF b c):AlF a c:=⟨h.free.trans h'.free,h.Bg.trans h'.Bg,fun M j=>(h.same M j).trans (h'.same M j)⟩
theorem AlF.cf{a b:u5}(h:AlF a b):cf a=cf b:=by
 show ren (NN (fre a [])) a [] 0=ren (NN (fre b [])) b [] 0
 rw[h.free,h.same]
theorem AlF.phi{σ:Nat→Nat}(hσ:∀i j,σ i=σ j→i=j){z:u5}(hz:∀x,fre z [] x→B9 x):AlF (jt (phi σ) z) z where
 free:=AX (Bf hσ) fun x hx=>oc σ (hz x hx)
 Bg:=AW _ z
 same:=fun M j=>CM (Bf hσ) M z [] j fun x hx=>oc σ (hz x hx)
theorem AlF.canon{z:u5}(hs:SmF z)(hn:ndF z≤50000):AlF (Go.Proofs.YtfacbpehlibilaaGreatDoor.cf z) z:=by
 obtain⟨C,hC,_⟩:=kf hs hn
 have hC2:∀x,fre z [] x→x∈C:=fun x hx=>(hC.1 x).2 hx
 refine⟨?_,yu _ z [] 0,fun M j=>?_⟩
 ·funext x
  exact propext (sJ (NN (fre z [])) (fre z []) (fun i=>FW hC2 i) z [] 0 (fun x hx=>hx) (fun p hp=>by cases hp) x)
 ·exact GA (NN (fre z [])) M (fre z []) (fun i j h=>Ot hC2 h) (fun i=>FW hC2 i) z [] [] [] 0 j (fun x hx=>hx) (fun p hp=>by cases hp) (fun w _=>by rw[mP])
theorem AlF.pair{k:Int}(hk:¬QK k){a a' b b':u5}(h:AlF a a')(h':AlF b b'):AlF (.mk k [] [] [a,b]) (.mk k [] [] [a',b']):=by
 refine⟨?_,?_,fun M j=>?_⟩
 ·funext x
  rw[fre,fre,W8,W8,W8,W8,W8,W8]
  simp only[if_neg hk]
  rw[h.free,h'.free]
 ·rw[nq,nq,nqL,nqL,nqL,nqL,nqL,nqL,h.Bg,h'.Bg]
 ·rw[ren,ren,I7,I7,I7,I7,I7,I7]
  simp only[if_neg hk]
  rw[h.same,h'.same,h.Bg]
theorem qQ{f:u5}(hf:WfF f)(i:Nat)(x:Bs)(hx:fre (ren qn f [] i) [] x):B9 x:=
 kc f hf _ x ((sJ qn B9 AF f [] i (fun x hx=>kc f hf _ x hx) (fun p hp=>by cases hp) x).1 hx)
theorem Lm{rs:List u6}(hr:∀r∈rs,kh r){f g:u5}(hf:OkF f)(hg:OkF g){k:Int}(hk:¬QK k)
 (hx:ndF (RP rs (ren qn f [] 0) (nq f))≤50000) (hy:ndF (RP rs (ren qn g [] 0) (nq g))≤50000):
 cf (.mk k [] [] [RP rs (ren qn f [] 0) (nq f+nq g),RP rs (ren qn g [] (nq f)) (nq f+nq g+nR rs (ren qn f [] 0))])=cf (.mk k [] [] [cf (RP rs (ren qn f [] 0) (nq f)),cf (RP rs (ren qn g [] 0) (nq g))]):=by
 have aF:ArF (ren qn f [] 0):=ArF.ren qn f [] 0 (WfF.ar f hf.1)
 have aG:ArF (ren qn g [] 0):=ArF.ren qn g [] 0 (WfF.ar g hg.1)
 have fx:∀x,fre (RP rs (ren qn f [] 0) (nq f)) [] x→B9 x:=fun x h=>(yY hr _ _ _ x h).elim (qQ hf.1 0 x) id
 have fy:∀x,fre (RP rs (ren qn g [] 0) (nq g)) [] x→B9 x:=fun x h=>(yY hr _ _ _ x h).elim (qQ hg.1 0 x) id
 have i1:∀i j,(if i<nq f then i else i+nq g)=(if j<nq f then j else j+nq g)→i=j:=fun i j h=>by
  by_cases hi:i<nq f
  ·by_cases hj:j<nq f
   ·rw[if_pos hi,if_pos hj]at h;exact h
   ·rw[if_pos hi,if_neg hj]at h;omega
  ·by_cases hj:j<nq f
   ·rw[if_neg hi,if_pos hj]at h;omega
   ·rw[if_neg hi,if_neg hj]at h;omega
 have i2:∀i j,(if i<nq g then nq f+i else i-nq g+(nq f+nq g+nR rs (ren qn f [] 0)))=(if j<nq g then nq f+j else j-nq g+(nq f+nq g+nR rs (ren qn f [] 0)))→i=j:=fun i j h=>by
  by_cases hi:i<nq g
  ·by_cases hj:j<nq g
   ·rw[if_pos hi,if_pos hj]at h;omega
   ·rw[if_pos hi,if_neg hj]at h;omega
  ·by_cases hj:j<nq g
   ·rw[if_neg hi,if_pos hj]at h;omega
   ·rw[if_neg hi,if_neg hj]at h;omega
 have e1:RP rs (ren qn f [] 0) (nq f+nq g)=jt (phi fun i=>if i<nq f then i else i+nq g) (RP rs (ren qn f [] 0) (nq f)):=by
  have e0:ren qn f [] 0=jt (phi fun i=>if i<nq f then i else i+nq g) (ren qn f [] 0):=GL hf.1 fun k hk=>by simp only[if_pos hk,Nat.zero_add]
  refine(congrArg (fun z=>RP rs z (nq f+nq g)) e0).trans ?_
  refine Bc (GK i1 hr) _ (ArF.sm _ aF) (nq f) (nq f+nq g) fun j=>?_
  rw[vd,if_neg (by omega)]
  congr 1
  omega
 have e2:RP rs (ren qn g [] (nq f)) (nq f+nq g+nR rs (ren qn f [] 0))=jt (phi fun i=>if i<nq g then nq f+i else i-nq g+(nq f+nq g+nR rs (ren qn f [] 0))) (RP rs (ren qn g [] 0) (nq g)):=by
  have e0:ren qn g [] (nq f)=jt (phi fun i=>if i<nq g then nq f+i else i-nq g+(nq f+nq g+nR rs (ren qn f [] 0))) (ren qn g [] 0):=GL hg.1 fun k hk=>by simp only[if_pos hk]
  rw[e0]
  refine Bc (GK i2 hr) _ (ArF.sm _ aG) (nq g) _ fun j=>?_
  rw[vd,if_neg (by omega)]
  congr 1
  omega
 rw[e1,e2]
 refine AlF.cf (AlF.pair hk ((AlF.phi i1 fx).trans (AlF.canon (ArF.sm _ (DJ hr _ _ aF)) hx).symm) ((AlF.phi i2 fy).trans (AlF.canon (ArF.sm _ (DJ hr _ _ aG)) hy).symm))
def od:List w5→Bs→Bs
 | [],x=>x
 |b::l,x=>if b.name=x then b.text else od l x
theorem vg{l:List w5}{x:Bs}:∀k,k≤l.length→(∀j,j<k→(Am.get l j).name≠x)→od l x=od (l.drop k) x:=by
 induction l with
 |nil=>intro k hk _;obtain rfl:k=0:=by simpa using hk
       rfl
 |cons b l ih=>
  intro k hk h
  cases k with
  |zero=>rfl
  |succ k=>
   rw[List.drop_succ_cons,od,if_neg (show ¬b.name=x from h 0 (by omega))]
   exact ih k (by simpa using hk) fun j hj=>h (j+1) (by omega)
theorem wO(l:List w5)(x:Bs):Evt (fun _=>N3 l x) (fun r=>r=od l x):=by
 unfold N3
 refine Evt.C1 (Evt.scan (fun k _=>∀j,j<k→(Am.get l j).name≠x) (fun k r=>(Am.get l k).name=x∧r=(Am.get l k).text) (fun j hj=>absurd hj (Nat.not_lt_zero _)) (fun k u hk hi=>?_)) (fun t ht=>?_) (fun r hr=>?_)
 ·unfold Y6
  refine Evt.cond (fun e=>Evt.pure ?_) (fun e=>Evt.pure ?_)
  ·replace e:=bx e
   exact⟨e,rfl⟩
  ·replace e:=bx e
   intro j hj
   by_cases ej:j=k
   ·subst ej;exact e
   ·exact hi j (by omega)
 ·unfold bR
  refine Evt.pure ?_
  rw[vg l.length (Nat.le_refl _) ht,List.drop_length]
  rfl
 ·obtain⟨k,_,hk,hi,e1,rfl⟩:=hr
  rw[vg k (by omega) hi,List.drop_eq_getElem_cons hk,od]
  have e2:l[k]=Am.get l k:=by simp[Am.get,hk]
  rw[e2,if_pos e1]
theorem tu(T:Bs→Bs)(F:Bs→u5)(x:Bs):∀W:List Bs,od (W.map fun w=>⟨w,T w,F w⟩) x=sub (W.map fun w=>(w,T w)) x
 | []=>by rw[List.map_nil,List.map_nil,od,mP]
 |w::W=>by
  rw[List.map_cons,List.map_cons,od,K1,tu T F x W]
theorem tA(T:Bs→Bs)(F:Bs→u5)(x:Bs):∀P:List Bs,od (P.map fun w=>⟨w,T w,F w⟩) x=if x∈P then T x else x
 | []=>rfl
 |w::P=>by
  rw[List.map_cons,od,tA T F x P]
  by_cases e:w=x
  ·subst e;simp
  ·have e':¬x=w:=fun h=>e h.symm
   simp[e,e']
def bL(s:w9)(e:Env):List w5:=(s.words.map fun w=>⟨w,txE e (46::w),fmE e (46::w)⟩)++s.C4.map fun w=>⟨w,txE e (33::w),fmE e (33::w)⟩
theorem QZ{s:w9}(h:lR s)(e:Env):((gy s).map fun k=>(⟨k.drop 1,txE e k,fmE e k⟩:w5))=bL s e:=by
 unfold gy bL
 rw[h.qs,h.parts]
 simp[List.map_map,Function.comp_def]
theorem JG(s:w9)(e:Env):(bL s e).length=s.words.length+s.C4.length:=by unfold bL;simp
theorem IL(s:w9)(e:Env)(x:Bs):od ((bL s e).take s.words.length) x=sub (IE s e) x:=by
 unfold bL IE
 rw[List.take_append_of_le_length (by simp),List.take_of_length_le (by simp)]
 exact tu (fun w=>txE e (46::w)) (fun w=>fmE e (46::w)) x s.words
theorem IQ(s:w9)(e:Env)(x:Bs):od (((bL s e).drop s.words.length).take s.C4.length) x=bp s e x:=by
 unfold bL bp
 rw[List.drop_append_of_le_length (by simp),List.drop_of_length_le (by simp),List.nil_append,List.take_of_length_le (by simp)]
 exact tA (fun w=>txE e (33::w)) (fun w=>fmE e (33::w)) x s.C4
theorem GO:∀(l:List u5) (k j:Nat),k<l.length→j<nq (Am.get l k)→Am.get (qsL l) (nqL (l.take k)+j)=Am.get (qs (Am.get l k)) j∧nqL (l.take k)+j<nqL l
 | [],k,j,h,_=>by simp at h
 |f::l,0,j,_,hj=>by
  have e:Am.get (f::l) 0=f:=rfl
  rw[e]at hj⊢
  rw[List.take_zero,nqL,Nat.zero_add,qsL,nqL]
  have hq:j<(qs f).length:=by rw[nO];exact hj
  refine⟨?_,by omega⟩
  unfold Am.get
  rw[List.getD_eq_getElem?_getD,List.getD_eq_getElem?_getD,List.getElem?_append_left hq]
 |f::l,k+1,j,h,hj=>by
  have e:Am.get (f::l) (k+1)=Am.get l k:=rfl
  rw[e]at hj⊢
  obtain⟨h1,h2⟩:=GO l k j (by simpa using h) hj
  rw[List.take_succ_cons,nqL,qsL,nqL]
  refine⟨?_,by omega⟩
  rw[←h1]
  unfold Am.get
  rw[List.getD_eq_getElem?_getD,List.getD_eq_getElem?_getD,List.getElem?_append_right (by rw[nO];omega),nO]
  congr 2
  omega
theorem og{s:w9}(h:lR s)(f:u5):D4 s f=some false:=by
 rw[pe]
 congr 1
 exact decide_eq_false (h.part f)
theorem Ln{s:w9}(hs:lR s)(hl:s.words.length+s.C4.length≤1000)(e:Env)(c0:Nat)(vars:List (Bs×Bs)):∀(m:Nat) (f:u5),SizeOf.sizeOf f≤m→SmF f→ndF f≤1000→
 ∀(self:Nat→u5→Bs→List u6→Int→List (Bs×Int)→List u7→Option (w6×Bool×Int×List u7)) (bd:List Bs) (env:List (Bs×Bs)) (i:Nat) (tk:Int) (tn:Bs) (tw:List Bs) (ts:List u5) (rs:List u6) (c:Int) (mp:List (Bs×Int)) (u:List u7) (path:Bs) (first:List (Bs×Bs)),
 bd.length+ndF f≤100000→(∀j,j<nq f→assoc (Am.get (qs f) j) vars=some (qn (c0+(i+j))))→(∀w,sub env w=if w∈bd then(assoc w vars).getD default else sub (IE s e) w)→
 Evt (fun n=>J1 (self n) n f bd s.form.kind s.form.name s.form.words s.form.subs s.words s.C4 s.parts tk tn tw ts [] (bL s e) (s.words.length:Int) (s.C4.length:Int) (s.parts.length:Int) rs c mp u path first vars)
  (fun r=>r.2.2.1=c∧r.2.2.2.1=u∧r.2.2.2.2=[]∧(r.2.1=true→r.1=szF (ren (fun j=>qn (c0+j)) (prF (bp s e) f) env i))):=by
 intro m
 induction m with
 |zero=>intro f h;cases f;simp only[u5.mk.sizeOf_spec]at h;omega
 |succ m ih=>
  intro f hf hsm RW self bd env i tk tn tw ts rs c mp u path first hbd hv hrel
  have hws:=yN hsm
  have hsl:=kZ hsm
  have hnd:=kr f
  have hnq:=FE f
  have hqs:=KB f
  have hbl:=JG s e
  refine Evt.succ ?_
  simp only[J1]
  show Evt (fun n=>(D4 s f).bind _) _
  rw[og hs]
  simp only[Option.bind_some,cond_false]
  refine Evt.C1 (P:=ExP (fun t=>t=f.words.map (sub env)) (fun _=>False)) ((Evt.range (fun k t=>t=(f.words.take k).map (sub env)) (fun _=>False) (fun _=>False) (by simp) (fun k t hk ht=>?_)).mono fun e he=>?_) (fun t ht=>?_) (fun _ h=>h.elim)
  ·have hsn:(f.words.take (k+1)).map (sub env)=t++[sub env (Am.get f.words k)]:=by rw[D8 hk,List.map_append,ht];rfl
   have htl:t.length≤3:=by rw[ht,List.length_map,List.length_take];omega
   have hw:=hrel (Am.get f.words k)
   unfold Y7
   rw[F9]
   simp only[Option.bind_some]
   refine Evt.cond (fun e=>Evt.Q8 (Evt.chk ?_ (Evt.pure ?_))) (fun e=>Evt.chk ⟨by omega,by rw[hbl];omega⟩ (Evt.bind (wO _ _) fun v hv=>Evt.Q8 (Evt.chk ?_ (Evt.pure ?_))))
   ·rw[J4];simp only[List.length_append,List.length_cons,List.length_nil];omega
   ·rw[if_pos (of_decide_eq_true e)]at hw
    show t++[_]=_
    rw[hsn,hw]
   ·rw[J4];simp only[List.length_append,List.length_cons,List.length_nil];omega
   ·rw[if_neg (of_decide_eq_false e)]at hw
    show t++[v]=_
    rw[hsn,hw,hv,Int.toNat_natCast,IL]
  ·cases e with
   |ret r=>exact he
   |nxt t=>
    have:=he.elim id False.elim
    rw[List.take_length]at this
    exact this
  have ht:t=f.words.map (sub env):=ht
  subst ht
  have key:∀(nm:Bs) (bd':List Bs) (env':List (Bs×Bs)) (i':Nat),nm=(if QK f.kind then qn (c0+i)else if f.kind=2 then bp s e f.name else f.name)→env'=(if QK f.kind then(f.name,qn (c0+i))::env else env)→i'=i+(if QK f.kind then 1 else 0)→
   (∀w,sub env' w=if w∈bd' then(assoc w vars).getD default else sub (IE s e) w)→(∀j,j<nqL f.subs→assoc (Am.get (qsL f.subs) j) vars=some (qn (c0+(i'+j))))→bd'.length≤bd.length+1→
   Evt (fun n=>K2 (J1 (self (n+1)) n) f s.form.kind s.form.name s.form.words s.form.subs s.words s.C4 s.parts tk tn tw ts (bL s e) (s.words.length:Int) (s.C4.length:Int) (s.parts.length:Int) rs mp path first vars c u [] (f.words.map (sub env)) (nm,bd'))
    (fun r=>r.2.2.1=c∧r.2.2.2.1=u∧r.2.2.2.2=[]∧(r.2.1=true→r.1=szF (ren (fun j=>qn (c0+j)) (prF (bp s e) f) env i))):=by
   intro nm bd' env' i' hnm Cg hi' Ra hv' Vk
   unfold K2
   have hpt:∀k,nqL (kA (bp s e) (f.subs.take k))=nqL (f.subs.take k):=fun k=>Ba _ _
   refine Evt.C1 (P:=ExP (fun t=>t=(c,u,[],(I7 (fun j=>qn (c0+j)) (kA (bp s e) f.subs) env' i').map szF,I7 (fun j=>qn (c0+j)) (kA (bp s e) f.subs) env' i')) (fun r=>r.2.2.1=c∧r.2.2.2.1=u∧r.2.2.2.2=[]∧r.2.1=false))
    ((Evt.range (fun k t=>t=(c,u,[],(I7 (fun j=>qn (c0+j)) (kA (bp s e) (f.subs.take k)) env' i').map szF,I7 (fun j=>qn (c0+j)) (kA (bp s e) (f.subs.take k)) env' i')) (fun _=>False) (fun r=>r.2.2.1=c∧r.2.2.2.1=u∧r.2.2.2.2=[]∧r.2.1=false) (by rw[List.take_zero,kA,I7];rfl) (fun k t hk ht=>?_)).mono fun e he=>?_) (fun t ht=>?_) (fun r hr=>⟨hr.1,hr.2.1,hr.2.2.1,fun h=>by rw[hr.2.2.2]at h;cases h⟩)
   ·subst ht
    have hsz:=I6 hk
    have htk:=bE hk
    unfold bS
    refine Evt.bind (ih _ (by omega) (mB hsm hk) (by omega) (fun n=>self (n+1)) bd' env' (i'+nqL (f.subs.take k)) tk tn tw ts rs c mp u path first (by omega) (fun j hj=>?_) Ra) fun v hvv=>?_
    ·obtain⟨g1,g2⟩:=GO f.subs k j hk hj
     rw[←g1,hv' _ g2,Nat.add_assoc]
    ·obtain⟨v1,v2,v3,v4⟩:=hvv
     refine Evt.cond (fun hc=>Evt.pure ⟨v1,v2,v3,rfl⟩) (fun hc=>?_)
     have v4:=v4 (by simpa using hc)
     have hpre:∀(l:List u5),(I7 (fun j=>qn (c0+j)) (kA (bp s e) l) env' i').length=l.length:=fun l=>by rw[bP,je,List.length_map]
     refine Evt.Q8 (Evt.chk ?_ (Evt.Q8 (Evt.chk ?_ (Evt.pure ?_))))
     ·have:=hpre (f.subs.take k)
      rw[List.length_take]at this
      rw[J4];simp only[List.length_append,List.length_map,List.length_cons,List.length_nil];omega
     ·have:=hpre (f.subs.take k)
      rw[List.length_take]at this
      rw[J4];simp only[List.length_append,List.length_cons,List.length_nil];omega
     ·show(_,_,_,_,_)=(_,_,_,_,_)
      have hsn:I7 (fun j=>qn (c0+j)) (kA (bp s e) (f.subs.take (k+1))) env' i'=I7 (fun j=>qn (c0+j)) (kA (bp s e) (f.subs.take k)) env' i'++[ren (fun j=>qn (c0+j)) (prF (bp s e) (Am.get f.subs k)) env' (i'+nqL (f.subs.take k))]:=by
       rw[D8 hk,je,List.map_append, ←je,List.map_cons,List.map_nil,gq,hpt]
      rw[hsn,List.map_append,v1,v2,v3,v4];rfl
   ·cases e with
    |ret r=>exact he
    |nxt t=>
     have:=he.elim id False.elim
     rw[List.take_length]at this
     exact this
   ·have ht:t=_:=ht
    subst ht
    unfold bT
    have hn1:T6 (I7 (fun j=>qn (c0+j)) (kA (bp s e) f.subs) env' i')=T6 f.subs:=by rw[Ao,AY]
    have hd1:eM (I7 (fun j=>qn (c0+j)) (kA (bp s e) f.subs) env' i')=eM f.subs:=by rw[Ap,AZ]
    have hdn:eM f.subs≤100000:=by
     have:∀(m:Nat) (l:List u5),SizeOf.sizeOf l≤m→eM l≤T6 l:=by
      intro m
      induction m with
      |zero=>intro l h;cases l<;>simp at h
      |succ m ih=>
       intro l h
       cases l with
       |nil=>rw[eM,T6];exact Nat.le_refl _
       |cons x l=>
        simp only[List.cons.sizeOf_spec]at h
        have h1:=ih l (by omega)
        have h2:dpF x≤ndF x:=by
         cases x with
         |mk k n w s=>
          simp only[u5.mk.sizeOf_spec]at h
          have:=ih s (by omega)
          rw[dpF,ndF];omega
        rw[eM,T6];omega
     have:=this _ f.subs (Nat.le_refl _)
     omega
    refine Evt.bind (AH (by rw[hn1];omega) (by rw[hd1];exact hdn)) fun v hv=>Evt.pure ⟨rfl,rfl,rfl,fun _=>?_⟩
    subst hv
    have Tz:ren (fun j=>qn (c0+j)) (prF (bp s e) f) env i= .mk f.kind nm (f.words.map (sub env)) (I7 (fun j=>qn (c0+j)) (kA (bp s e) f.subs) env' i'):=by
     rw[OO,sH,hnm,Cg,hi']
     show u5.mk f.kind (if QK f.kind then qn (c0+i)else(if f.kind=2 then bp s e f.name else f.name)) (f.words.map (sub env)) (I7 _ (kA (bp s e) f.subs) (if QK f.kind then((if f.kind=2 then bp s e f.name else f.name),qn (c0+i))::env else env) (i+if QK f.kind then 1 else 0))=_
     by_cases hq:QK f.kind
     ·have h2:¬f.kind=2:=fun e=>q2 e hq
      simp only[if_pos hq,if_neg h2]
     ·simp only[if_neg hq]
    unfold szF
    rw[sI,GD,uQ,GF,Tz,hn1,hd1,hnd,Jw f,Nat.add_comm (eM f.subs) 1]
  unfold Y8
  simp only[aX,Option.bind_some]
  refine Evt.cond (fun hq=>?_) (fun hq=>?_)
  ·replace hq:=bx hq
   rw[if_pos hq]at hnq hqs
   have h0:=hv 0 (by omega)
   have hg:Am.get (qs f) 0=f.name:=by rw[hqs];rfl
   rw[hg,Nat.add_zero]at h0
   simp only[D6,List.isEmpty_nil,cond_true,Option.bind_some]
   refine Evt.Q8 (Evt.chk ?_ ?_)
   ·rw[J4];simp only[List.length_append,List.length_cons,List.length_nil];omega
   ·refine key _ _ ((f.name,qn (c0+i))::env) (i+1) (by rw[if_pos hq,h0];rfl) (by rw[if_pos hq]) (by rw[if_pos hq]) (fun w=>?_) (fun j hj=>?_) (by simp)
    ·rw[K1]
     by_cases e1:f.name=w
     ·subst e1
      rw[if_pos rfl,if_pos (by simp),h0];rfl
     ·rw[if_neg e1,hrel w]
      have:(w∈bd++[f.name])↔w∈bd:=by
       rw[List.mem_append,List.mem_singleton]
       exact⟨fun h=>h.elim id fun h=>absurd h.symm e1,.inl⟩
      simp only[this]
    ·have h1:=hv (j+1) (by omega)
     have hg:Am.get (qs f) (j+1)=Am.get (qsL f.subs) j:=by rw[hqs];rfl
     rw[hg]at h1
     rw[h1]
     congr 3
     omega
  ·replace hq:=bx hq
   rw[if_neg hq]at hnq hqs
   have hv':∀j,j<nqL f.subs→assoc (Am.get (qsL f.subs) j) vars=some (qn (c0+(i+j))):=fun j hj=>by
    have h1:=hv j (by omega)
    rw[hqs]at h1
    exact h1
   refine Evt.cond (fun hk=>?_) (fun hk=>?_)
   ·replace hk:=bx hk
    have hwr:wr .i64 ((s.words.length:Int)+(s.C4.length:Int))=((s.words.length+s.C4.length:Nat):Int):=by rw[iy (by omega) (by omega)];omega
    rw[hwr]
    refine Evt.chk ⟨by omega,by omega,by omega,by rw[hbl];omega⟩ (Evt.bind (wO _ _) fun v hvv=>?_)
    refine key _ _ env i ?_ (by rw[if_neg hq]) (by rw[if_neg hq];rfl) hrel hv' (by omega)
    rw[if_neg hq,if_pos hk,hvv,Int.toNat_natCast,Int.toNat_natCast,Nat.add_sub_cancel_left,IQ]
   ·replace hk:=bx hk
    exact key _ _ env i (by rw[if_neg hq,if_neg hk]) (by rw[if_neg hq]) (by rw[if_neg hq];rfl) hrel hv' (by omega)
structure wP(r:u6):Prop extends kh r where
 uniq:∀k,k<(qs r.to_).length→Am.get (qs r.to_) k∉ (qs r.to_).take k
theorem wP.len{r:u6}(h:wP r):r.from_.words.length+r.from_.C4.length≤1000:=by
 have:=h.good.len
 unfold vns at this
 simp only[List.length_append]at this
 omega
theorem GP{s:w9}(hs:lR s):Evt (fun n=>cF n s) (fun _=>True):=by
 unfold cF
 refine Evt.bind (P:=fun _=>True) (Evt.succ ?_) fun _ _=>Evt.pure trivial
 simp only[P7]
 show Evt (fun n=>(gd (!(assoc s.form.name ([]:List (Bs×Bs))).isSome) (D4 s s.form) default).bind _) _
 rw[og hs]
 unfold aP
 rw[hs.subs]
 exact⟨_,trivial,0,fun n _=>rfl⟩
theorem Lo{r:u6}(hr:wP r)(e:Env)(self:Nat→u5→Bs→List u6→Int→List (Bs×Int)→List u7→Option (w6×Bool×Int×List u7))(path:Bs)(rs:List u6)(c:Nat)(hc:c≤900000)(mp:List (Bs×Int))(u:List u7):
 Evt (fun n=>Z2 (self n) n r (bL r.from_ e) path rs (c:Int) mp u) (fun x=>x.2.2.1=((c+nq r.to_:Nat):Int)∧x.2.2.2=u∧(x.2.1=true→x.1=szF (inst r e c))):=by
 have hnd:=hr.to.2.1
 have hqn:=oW r.to_
 have hql:=nO r.to_
 have hl:=hr.len
 have hbl:=JG r.from_ e
 unfold Z2
 refine Evt.bind (jJ _ r.to_ (Nat.le_refl _) (by omega)) fun v hv=>?_
 subst hv
 refine Evt.C1 (P:=ExP (fun t=>t.1=((c+nq r.to_:Nat):Int)∧∀j,j<nq r.to_→assoc (Am.get (qs r.to_) j) t.2=some (qn (c+j))) (fun _=>False)) ((Evt.range (fun k t=>t.1=((c+k:Nat):Int)∧∀j,j<k→assoc (Am.get (qs r.to_) j) t.2=some (qn (c+j))) (fun _=>False) (fun _=>False) ⟨rfl,fun j hj=>absurd hj (Nat.not_lt_zero _)⟩ (fun k t hk ht=>?_)).mono fun e he=>?_) (fun t ht=>?_) (fun _ h=>h.elim)
 ·obtain⟨t1,t2⟩:=t
  obtain⟨h1,h2⟩:=ht
  simp only at h1 h2
  subst h1
  have hwr:wr .i64 (wr .i64 ((r.from_.words.length:Int)+(r.from_.C4.length:Int))+(r.from_.parts.length:Int))=((r.from_.words.length+r.from_.C4.length:Nat):Int):=by
   have h1:wr .i64 ((r.from_.words.length:Int)+(r.from_.C4.length:Int))=((r.from_.words.length+r.from_.C4.length:Nat):Int):=by rw[iy (by omega) (by omega)];omega
   rw[h1,hr.pred.parts]
   show wr .i64 (((r.from_.words.length+r.from_.C4.length:Nat):Int)+0)=_
   rw[iy (by omega) (by omega)];omega
  unfold cI
  rw[hwr]
  have hd:(bL r.from_ e).drop (((r.from_.words.length+r.from_.C4.length:Nat):Int)).toNat=[]:=List.drop_of_length_le (by rw[hbl,Int.toNat_natCast];exact Nat.le_refl _)
  rw[hd]
  refine Evt.chk ⟨by omega,by rw[hbl,Int.toNat_natCast];exact Nat.le_refl _⟩ (Evt.bind (wO [] _) fun v hv=>?_)
  subst hv
  refine Evt.Q8 (Evt.cond (fun _=>?_) (fun e=>?_))
  ·simp only[AG (c:=c+k) (by omega),Option.bind_some]
   refine Evt.Q8 (Evt.pure ⟨rfl,fun j hj=>?_⟩)
   show assoc _ (B6 _ _ (B6 _ _ t2))=_
   by_cases ej:j=k
   ·subst ej
    rw[gZ]
   ·have hne:Am.get (qs r.to_) j≠Am.get (qs r.to_) k:=fun e=>hr.uniq k hk (V7.2 ⟨j,by rw[List.length_take];omega,by rw[vX (by omega),e]⟩)
    rw[lN hne,lN hne]
    exact h2 j (by omega)
  ·exfalso
   rw[gZ]at e
   simp[od]at e
 ·cases e with
  |ret r=>exact he
  |nxt t=>
   have:=he.elim id False.elim
   rw[hql]at this
   exact this
 ·obtain⟨t1,t2⟩:=t
  obtain⟨h1,h2⟩:=ht
  simp only at h1 h2
  subst h1
  unfold aO
  refine Evt.bind (GP hr.pred) fun v19 _=>?_
  refine Evt.bind (Ln hr.pred hl e c t2 _ r.to_ (Nat.le_refl _) (WfF.sm _ hr.to.1) (by omega) self [] (IE r.from_ e) 0 r.to_.kind r.to_.name r.to_.words r.to_.subs rs _ mp u path v19 (by simp;omega) (fun j hj=>by rw[h2 j hj,Nat.zero_add]) (fun w=>by rw[if_neg List.not_mem_nil])) fun v20 hv20=>Evt.pure ⟨hv20.1,hv20.2.1,hv20.2.2.2⟩
section
variable (rs:List u6)
mutual
noncomputable def tB:u5→Bs→List Bs
 | .mk k n w s,p=>match nZ rs (.mk k n w s)with
   |some _=>[p]
   |none=>iH s p 0
noncomputable def iH:List u5→Bs→Nat→List Bs
 | [],_,_=>[]
 |f::l,p,i=>tB f (p++Lib.decDigits i)++iH l p (i+1)
end
theorem CT(f:u5)(p:Bs):tB rs f p=match nZ rs f with|some _=>[p]|none=>iH rs f.subs p 0:=by cases f;rw[tB];rfl
theorem tC:∀(l:List u5) (x:u5) (p:Bs) (i:Nat),iH rs (l++[x]) p i=iH rs l p i++tB rs x (p++Lib.decDigits (i+l.length))
 | [],x,p,i=>by simp[iH]
 |b::l,x,p,i=>by rw[List.cons_append,iH,iH,tC l,List.append_assoc,List.length_cons,show i+1+l.length=i+(l.length+1)by omega]
mutual
theorem za:∀(f:u5) (p:Bs),(tB rs f p).Sublist (qK f p)
 | .mk k n w s,p=>by
   rw[tB,qK]
   split
   ·exact(List.nil_sublist _).cons_cons p
   ·exact(vj s p 0).cons p
theorem vj:∀(l:List u5) (p:Bs) (i:Nat),(iH rs l p i).Sublist (fC l p i)
 | [],p,i=>by rw[iH,fC];exact List.nil_sublist _
 |f::l,p,i=>by rw[iH,fC];exact(za f _).append (vj l p (i+1))
end
theorem CU:∀(l:List u5) (x:u5),nRL rs (l++[x])=nRL rs l+nR rs x
 | [],x=>by rw[List.nil_append,nRL,nRL,nRL];omega
 |f::l,x=>by rw[List.cons_append,nRL,nRL,CU l];omega
theorem oh:∀(l:List u5) (x:u5) (c:Nat),RPL rs (l++[x]) c=RPL rs l c++[RP rs x (c+nRL rs l)]
 | [],x,c=>by rw[List.nil_append,RPL,RPL,RPL,nRL];rfl
 |f::l,x,c=>by rw[List.cons_append,RPL,RPL,oh l,nRL,Nat.add_assoc];rfl
end
def ApR(rs:List u6)(f:u5)(path:Bs)(c:Nat)(mp:List (Bs×Int))(u:List u7)(x:w6×Bool×Int×List u7):Prop:=
 ∃(hs:List u7) (c2:Nat),x.2.2.2=u++hs∧hs.length≤ndF f∧x.2.2.1=(c2:Int)∧c2≤c+200*ndF f∧
  (x.2.1=true→x.1=szF (RP rs f c)∧ndF (RP rs f c)≤200∧dpF (RP rs f c)≤40∧c2=c+nR rs f∧hs.map (·.at_)=(tB rs f path).map fun q=>(assoc q mp).getD default)
theorem GQ{rs:List u6}(hr:∀r∈rs,wP r)(hrl:rs.length≤1000000):∀(m:Nat) (f:u5),SizeOf.sizeOf f≤m→ArF f→∀(path:Bs) (c:Nat) (mp:List (Bs×Int)) (u:List u7),path.length+ndF f≤100000→u.length+ndF f≤100000→c+200*ndF f≤500000→
 Evt (fun n=>F4 n f path rs (c:Int) mp u) (ApR rs f path c mp u):=by
 intro m
 induction m with
 |zero=>intro f h;cases f;simp only[u5.mk.sizeOf_spec]at h;omega
 |succ m ih=>
  intro f hf har path c mp u hp hu hc
  have hsm:=ArF.sm f har
  have hsl:=kZ hsm
  have hnd:=kr f
  refine Evt.succ ?_
  simp only[F4]
  refine Evt.C1 (P:=ExP (fun _=>nZ rs f=none) (ApR rs f path c mp u)) ((Evt.scan (fun k _=>nZ rs f=nZ (rs.drop k) f) (fun _ x=>ApR rs f path c mp u x) (by rw[List.drop_zero]) (fun k s hk hs=>?_)).mono fun e he=>?_) (fun t ht=>?_) (fun r hr=>hr)
  ·have hrk:=hr _ (get_mem hk)
   have hdr:rs.drop k=Am.get rs k::rs.drop (k+1):=by rw[List.drop_eq_getElem_cons hk];simp[Am.get,hk]
   rw[hdr,nZ]at hs
   unfold P3
   refine Evt.bind (wC hrk.good har) fun v hv=>?_
   rw[DI hrk.pred]at hv
   cases he:eF (Am.get rs k).from_ f with
   |none=>
    rw[he]at hv hs
    subst hv
    exact Evt.cond (fun _=>Evt.pure hs) (fun e=>by cases e)
   |some e=>
    rw[he]at hv hs
    simp only at hv hs
    subst hv
    have hqn:=oW (Am.get rs k).to_
    have hnt:=hrk.to.2.1
    refine Evt.cond (fun e=>by cases e) (fun _=>Evt.Q8 (Evt.chk ?_ ?_))
    ·rw[J4];simp only[List.length_append,List.length_cons,List.length_nil];omega
    simp only[QZ hrk.pred]
    refine Evt.bind (Lo hrk e _ path rs c (by omega) mp _) fun x hx=>Evt.pure ?_
    obtain⟨x1,x2,x3⟩:=hx
    refine⟨[⟨(assoc path mp).getD default,(k:Int)⟩],c+nq (Am.get rs k).to_,x2,by simp;omega,x1,by rw[hnd];omega,fun h=>?_⟩
    have hRP:RP rs f c=inst (Am.get rs k) e c:=by rw[IG,hs]
    have hnR:nR rs f=nq (Am.get rs k).to_:=by rw[Lk,hs]
    have hhi:tB rs f path=[path]:=by rw[CT,hs]
    refine⟨by rw[hRP];exact x3 h,?_,?_,by rw[hnR],by rw[hhi];rfl⟩
    ·rw[hRP];unfold inst;rw[sI,GD];exact hrk.to.2.1
    ·rw[hRP];unfold inst;rw[uQ,GF];exact hrk.to.2.2
  ·cases e with
   |ret r=>obtain⟨_,_,_,_,h⟩:=he;exact h
   |nxt t=>
    have he:nZ rs f=nZ (rs.drop rs.length) f:=he
    rw[List.drop_length,nZ]at he
    exact he
  have hm:nZ rs f=none:=ht
  have hRP:RP rs f c= .mk f.kind f.name f.words (RPL rs f.subs c):=by rw[IG,hm]
  have hnR:nR rs f=nRL rs f.subs:=by rw[Lk,hm]
  have hhi:tB rs f path=iH rs f.subs path 0:=by rw[CT,hm]
  unfold V0
  refine Evt.C1 (P:=ExP (fun t=>∃(hs:List u7) (c2:Nat),t.2.1=u++hs∧hs.length≤T6 f.subs∧t.1=(c2:Int)∧c2≤c+200*T6 f.subs∧t.2.2.1=(RPL rs f.subs c).map szF∧t.2.2.2=RPL rs f.subs c∧T6 (RPL rs f.subs c)≤200*f.subs.length∧eM (RPL rs f.subs c)≤40∧c2=c+nRL rs f.subs∧hs.map (·.at_)=(iH rs f.subs path 0).map fun q=>(assoc q mp).getD default) (fun x=>ApR rs f path c mp u x∧x.2.1=false))
   ((Evt.range (fun k t=>∃(hs:List u7) (c2:Nat),t.2.1=u++hs∧hs.length≤T6 (f.subs.take k)∧t.1=(c2:Int)∧c2≤c+200*T6 (f.subs.take k)∧t.2.2.1=(RPL rs (f.subs.take k) c).map szF∧t.2.2.2=RPL rs (f.subs.take k) c∧T6 (RPL rs (f.subs.take k) c)≤200*k∧eM (RPL rs (f.subs.take k) c)≤40∧c2=c+nRL rs (f.subs.take k)∧hs.map (·.at_)=(iH rs (f.subs.take k) path 0).map fun q=>(assoc q mp).getD default) (fun _=>False) (fun x=>ApR rs f path c mp u x∧x.2.1=false) ⟨[],c,by simp,by simp,rfl,by omega,by rw[List.take_zero,RPL];rfl,by rw[List.take_zero,RPL],by rw[List.take_zero,RPL,T6];omega,by rw[List.take_zero,RPL,eM];omega,by rw[List.take_zero,nRL];rfl,by rw[List.take_zero,iH];rfl⟩ (fun k t hk ht=>?_)).mono fun e he=>?_) (fun t ht=>?_) (fun r hr=>hr.1)
  ·obtain⟨t1,t2,t3,t4⟩:=t
   obtain⟨hs,c2,a1,a2,a3,a4,a5,a6,a7,a8,a9,a10⟩:=ht
   simp only at a1 a3 a5 a6
   subst a1 a3 a5 a6
   have hsz:=I6 hk
   have htk:=bE hk
   have hd:=iG (k:=k) (by omega)
   have hlk:(f.subs.take k).length=k:=by rw[List.length_take];omega
   unfold V1
   simp only[oY (m:=k) (by omega),Option.bind_some]
   refine Evt.chk (by unfold M5;omega) (Evt.bind (ih _ (by omega) (Cw har hk) _ c2 mp _ ?_ ?_ (by omega)) fun v hv=>?_)
   ·show(path++Lib.decDigits k).length+_≤_
    rw[List.length_append];omega
   ·simp only[List.length_append];omega
   ·obtain⟨hs',c3,b1,b2,b3,b4,b5⟩:=hv
    refine Evt.cond (fun e=>Evt.pure ⟨⟨hs++hs',c3,?_,?_,b3,?_,fun h=>by cases h⟩,rfl⟩) (fun e=>?_)
    ·show v.2.2.2=_
     rw[b1,List.append_assoc]
    ·rw[List.length_append];omega
    ·omega
    ·obtain⟨d1,d2,d3,d4,d5⟩:=b5 (by simpa using e)
     have hpl:(RPL rs (f.subs.take k) c).length=k:=by rw[wN,hlk]
     refine Evt.Q8 (Evt.chk ?_ (Evt.Q8 (Evt.chk ?_ (Evt.pure ⟨hs++hs',c3,?_,?_,b3,?_,?_,?_,?_,?_,?_,?_⟩))))
     ·rw[J4];simp only[List.length_append,List.length_map,List.length_cons,List.length_nil];omega
     ·rw[J4];simp only[List.length_append,List.length_cons,List.length_nil];omega
     ·show v.2.2.2=_
      rw[b1,List.append_assoc]
     ·rw[D8 hk,gn,List.length_append];omega
     ·rw[D8 hk,gn];omega
     ·show(RPL rs (f.subs.take k) c).map szF++[v.1]=_
      rw[D8 hk,oh,List.map_append,d1,a9];rfl
     ·show RPL rs (f.subs.take k) c++[v.1.form]=_
      rw[D8 hk,oh,d1,a9];rfl
     ·rw[D8 hk,oh,gn, ←a9];omega
     ·rw[D8 hk,oh,wB, ←a9];omega
     ·rw[D8 hk,CU];omega
     ·rw[D8 hk,tC,List.map_append,List.map_append,a10,d5,hlk,Nat.zero_add];rfl
  ·cases e with
   |ret r=>exact he
   |nxt t=>
    obtain h:=he.elim id False.elim
    rw[List.take_length]at h
    exact h
  ·obtain⟨t1,t2,t3,t4⟩:=t
   obtain⟨hs,c2,a1,a2,a3,a4,a5,a6,a7,a8,a9,a10⟩:=ht
   simp only at a1 a3 a5 a6
   subst a1 a3 a5 a6
   unfold V2
   refine Evt.bind (AH (by omega) (by omega)) fun v hv=>Evt.pure ⟨hs,c2,rfl,by omega,rfl,by omega,fun h=>?_⟩
   subst hv
   have h:decide (1+T6 (RPL rs f.subs c)≤200∧eM (RPL rs f.subs c)<40)=true:=h
   have h:=of_decide_eq_true h
   have e1:ndF (RP rs f c)=1+T6 (RPL rs f.subs c):=by rw[hRP,ndF]
   have e2:dpF (RP rs f c)=1+eM (RPL rs f.subs c):=by rw[hRP,dpF]
   refine⟨?_,by omega,by omega,by rw[hnR];exact a9,by rw[hhi];exact a10⟩
   unfold szF
   rw[e1,e2,hRP,Nat.add_comm (eM _) 1]
theorem Lp{rs:List u6}{f:u5}(hs:SmF f)(hn:ndF f≤1000){l:List u7}(h:l.map (·.at_)=(tB rs f []).map fun q=>(assoc q (qM (qK f []) 0)).getD default):Oh l:=by
 have hnd:=AJ f [] hs
 have hsub:=za rs f []
 have key:∀q∈tB rs f [],∃j,j<ndF f∧Am.get (qK f []) j=q∧(assoc q (qM (qK f []) 0)).getD default=(j:Int):=fun q hq=>by
  obtain⟨j,hj,e⟩:=V7.1 (hsub.subset hq)
  refine⟨j,by rw[←qL f []];exact hj,e,?_⟩
  rw[←e,pB _ 0 j hnd hj,Nat.zero_add]
  rfl
 refine⟨fun x hx=>?_,?_⟩
 ·have:x.at_∈l.map (·.at_):=List.mem_map.2 ⟨x,hx,rfl⟩
  rw[h]at this
  obtain⟨q,hq,e⟩:=List.mem_map.1 this
  obtain⟨j,hj,_,e2⟩:=key q hq
  rw[←e,e2]
  exact⟨by omega,by omega⟩
 ·rw[h]
  refine List.pairwise_map.2 ((hnd.sublist hsub).imp_of_mem fun {x y} hx hy hne e=>?_)
  obtain⟨i,_,e1,e2⟩:=key x hx
  obtain⟨j,_,e3,e4⟩:=key y hy
  rw[e2,e4]at e
  have:i=j:=by omega
  subst this
  exact hne (e1.symm.trans e3)
theorem Lq{rs:List u6}(hr:∀r∈rs,wP r)(hrl:rs.length≤1000000){f:u5}(h:OkF f):Evt (fun n=>cx n rs f) (fun x=>x.2.2=true→x.1=cf (RP rs (ren qn f [] 0) (nq f))∧ndF (RP rs (ren qn f [] 0) (nq f))≤200∧dpF (RP rs (ren qn f [] 0) (nq f))≤40):=by
 have hn:=h.2.1
 have hq:=oW f
 have har:=WfF.ar f h.1
 have hsm:=WfF.sm f h.1
 have hag:ArF (ren qn f [] 0):=ArF.ren qn f [] 0 har
 have hsg:SmF (ren qn f [] 0):=ArF.sm _ hag
 have hgn:ndF (ren qn f [] 0)=ndF f:=sI qn f [] 0
 unfold cx
 refine Evt.bind (Co _ f (Nat.le_refl _) hsm _ 0 [] [] (by omega)) fun v1 hv1=>?_
 subst hv1
 refine Evt.bind (uU _ _ (Nat.le_refl _) hsg [] _ _ [] [] (by simp;omega) (fun q hq=>by cases hq)) fun v2 hv2=>?_
 subst hv2
 refine Evt.bind (GQ hr hrl _ _ (Nat.le_refl _) hag [] (0+nq f) _ [] (by simp;omega) (by simp;omega) (by omega)) fun v3 hv3=>?_
 obtain⟨hs,c2,a1,a2,a3,a4,a5⟩:=hv3
 refine Evt.cond (fun _=>Evt.pure fun e=>by cases e) (fun e=>?_)
 obtain⟨b1,b2,b3,b4,b5⟩:=a5 (by simpa using e)
 rw[Nat.zero_add]at b1 b2 b3
 rw[a1,b1,List.nil_append]
 refine Evt.bind (P:=fun _=>True) ?_ fun v4 _=>Evt.bind (P:=fun v=>v=cf (RP rs (ren qn f [] 0) (nq f))) (yO (f:=RP rs (ren qn f [] 0) (nq f)) (ArF.sm _ (DJ (fun r h=>(hr r h).tokh) _ _ hag)) b2) fun v6 hv6=>Evt.pure fun _=>⟨hv6,b2,b3⟩
 unfold D0
 exact Evt.chk ⟨by omega,Lp hsg (by omega) b5⟩ (Evt.pure trivial)
theorem Bh{r:u6}(hs:lR r.from_)(ht:OkF r.to_):Evt (fun n=>U5 n r) (fun _=>True):=by
 unfold U5 cX
 refine Evt.bind (P:=fun v=>v=[]) (Evt.bind (P:=fun _=>True) (Evt.succ ?_) fun _ _=>Evt.pure rfl) fun v hv=>?_
 ·simp only[K7]
  show Evt (fun n=>(D4 r.from_ r.from_.form).bind _) (fun _=>True)
  rw[og hs]
  simp only[Option.bind_some,cond_false]
  unfold R4
  rw[aX,decide_eq_false (q2 hs.kind)]
  simp only[Option.bind_some,cond_false]
  unfold R5
  rw[hs.subs]
  exact⟨(),trivial,0,fun n _=>rfl⟩
 ·subst hv
  have hqf:Evt (fun n=>C0 n r.from_.form) (fun v=>v=[]):=by
   refine(jJ _ _ (Nat.le_refl _) ?_).mono fun v hv=>by rw[hv,hs.qs]
   rw[kr,hs.subs,T6];omega
  refine Evt.bind hqf fun v2 hv2=>?_
  subst hv2
  refine Evt.bind (P:=fun _=>True) ?_ fun v _=>Evt.pure trivial
  have key:∀(m:Nat) (f:u5),SizeOf.sizeOf f≤m→SmF f→∀bd:List Bs,bd.length+ndF f≤100000→Evt (fun n=>E8 n f bd r.from_.form.kind r.from_.form.name r.from_.form.words r.from_.form.subs r.from_.words r.from_.C4 r.from_.parts r.to_.kind r.to_.name r.to_.words r.to_.subs [] []) (fun _=>True):=by
   intro m
   induction m with
   |zero=>intro f h;cases f;simp only[u5.mk.sizeOf_spec]at h;omega
   |succ m ih=>
    intro f hf hsm bd hbd
    have hnd:=kr f
    refine Evt.succ ?_
    simp only[E8]
    show Evt (fun n=>(D4 r.from_ f).bind _) _
    rw[og hs]
    simp only[Option.bind_some,cond_false]
    unfold P2
    refine Evt.C1 (P:=ExP (fun _=>True) (fun _=>False)) ((Evt.range (fun _ _=>True) (fun _=>False) (fun _=>False) trivial (fun k s hk _=>?_)).mono fun e he=>?_) (fun t _=>?_) (fun _ h=>h.elim)
    ·unfold U6
     rw[F9]
     simp only[Option.bind_some,List.not_mem_nil,decide_false]
     exact Evt.pure trivial
    ·cases e with
     |ret r=>exact he
     |nxt t=>trivial
    ·have rest:∀bd':List Bs,bd'.length≤bd.length+1→Evt (fun n=>L1 (E8 n) f r.from_.form.kind r.from_.form.name r.from_.form.words r.from_.form.subs r.from_.words r.from_.C4 r.from_.parts r.to_.kind r.to_.name r.to_.words r.to_.subs [] [] bd') (fun _=>True):=fun bd' hb=>by
      unfold L1 F8 G5
      refine Evt.bind (P:=fun _=>True) (Evt.bind (P:=fun _=>True) ?_ fun _ _=>Evt.pure trivial) fun _ _=>Evt.pure trivial
      refine Evt.C1 (P:=ExP (fun _=>True) (fun _=>True)) ((Evt.range (fun _ _=>True) (fun _=>False) (fun _=>True) trivial (fun k s hk _=>?_)).mono fun e he=>?_) (fun t _=>Evt.pure trivial) (fun _ h=>trivial)
      ·have hsz:=I6 hk
       have htk:=bE hk
       unfold I5 cJ
       refine Evt.bind (P:=fun _=>True) (Evt.bind (ih _ (by omega) (mB hsm hk) bd' (by omega)) fun v _=>Evt.pure trivial) fun v _=>Evt.cond (fun _=>Evt.pure trivial) (fun _=>Evt.pure trivial)
      ·cases e with
       |ret r=>trivial
       |nxt t=>trivial
     unfold U7
     simp only[aX,Option.bind_some,D6,List.isEmpty_nil,cond_true]
     refine Evt.cond (fun _=>Evt.Q8 (Evt.chk ?_ (rest _ (by simp)))) (fun _=>rest _ (by omega))
     rw[J4];simp only[List.length_append,List.length_cons,List.length_nil];omega
  have:=ht.2.1
  exact key _ r.to_ (Nat.le_refl _) (WfF.sm _ ht.1) [] (by simp;omega)
mutual
def StF:u5→Prop
 | .mk k n w s=>((s.length:Nat):Int)=arF k∧iE k w.length∧(k=2→B9 n)∧(¬(k=2∨QK k)→n=[])∧lT s
def lT:List u5→Prop
 | []=>True
 |f::l=>StF f∧lT l
end
theorem OQ(f:u5):StF f↔((f.subs.length:Nat):Int)=arF f.kind∧iE f.kind f.words.length∧(f.kind=2→B9 f.name)∧(¬(f.kind=2∨QK f.kind)→f.name=[])∧lT f.subs:=by cases f;rw[StF];exact Iff.rfl
mutual
theorem WfF.st:∀f:u5,WfF f→StF f
 | .mk k n w s,h=>by
   obtain⟨h1,h2⟩:=(Z4 _).1 h
   obtain⟨a,b,c,d,_⟩:=Z8 h1
   rw[StF]
   exact⟨a,b,fun e=>c (.inl e),d,gY.st s h2⟩
theorem gY.st:∀l:List u5,gY l→lT l
 | [],_=>by rw[lT];trivial
 |f::l,h=>by
  rw[gY]at h
  rw[lT]
  exact⟨WfF.st f h.1,gY.st l h.2⟩
end
mutual
theorem StF.ren(N:Nat→Bs):∀(f:u5) (env:List (Bs×Bs)) (i:Nat),StF f→StF (ren N f env i)
 | .mk k n w s,env,i,h=>by
   rw[StF]at h
   rw[Go.Proofs.YtfacbpehlibilaaGreatDoor.ren,StF,bP,List.length_map]
   refine⟨h.1,h.2.1,fun e=>?_,fun e=>?_,lT.ren N s _ _ h.2.2.2.2⟩
   ·rw[if_neg (q2 e)];exact h.2.2.1 e
   ·rw[if_neg fun q=>e (.inr q)];exact h.2.2.2.1 e
theorem lT.ren(N:Nat→Bs):∀(l:List u5) (env:List (Bs×Bs)) (i:Nat),lT l→lT (I7 N l env i)
 | [],env,i,_=>by rw[I7,lT];trivial
 |f::l,env,i,h=>by
  rw[lT]at h
  rw[I7,lT]
  exact⟨StF.ren N f env i h.1,lT.ren N l env _ h.2⟩
end
mutual
theorem StF.pr{h:Bs→Bs}(hh:∀n,B9 n→B9 (h n)):∀f:u5,StF f→StF (prF h f)
 | .mk k n w s,hf=>by
   rw[StF]at hf
   rw[prF,StF,je,List.length_map, ←je]
   refine⟨hf.1,hf.2.1,fun e=>?_,fun e=>?_,lT.pr hh s hf.2.2.2.2⟩
   ·rw[if_pos e];exact hh _ (hf.2.2.1 e)
   ·rw[if_neg fun q=>e (.inl q)];exact hf.2.2.2.1 e
theorem lT.pr{h:Bs→Bs}(hh:∀n,B9 n→B9 (h n)):∀l:List u5,lT l→lT (kA h l)
 | [],_=>by rw[kA,lT];trivial
 |f::l,hf=>by
  rw[lT]at hf
  rw[kA,lT]
  exact⟨StF.pr hh f hf.1,lT.pr hh l hf.2⟩
end
mutual
theorem StF.wf(N:Nat→Bs)(q:Nat)(hN:∀i,i<q→B9 (N i)):∀(f:u5) (env:List (Bs×Bs)) (i:Nat),StF f→i+nq f≤q→(∀p∈env,B9 p.2)→(∀x,fre f (env.map (·.1)) x→B9 x)→WfF (ren N f env i)
 | .mk k n w s,env,i,h,hq,he,hf=>by
   rw[StF]at h
   rw[nq]at hq
   obtain⟨h1,h2,h3,h4,h5⟩:=h
   rw[Go.Proofs.YtfacbpehlibilaaGreatDoor.ren,Z4]
   refine⟨qP ?_ ?_ ?_ ?_ ?_,?_⟩
   ·show((I7 _ _ _ _).length:Int)=_
    rw[bP];exact h1
   ·show iE k (w.map _).length
    rw[List.length_map];exact h2
   ·intro e
    show B9 (if QK k then N i else n)
    by_cases hk:QK k
    ·rw[if_pos hk]at hq ⊢; exact hN i (by omega)
    ·rw[if_neg hk];exact h3 (e.resolve_right hk)
   ·intro e
    have e:¬(k=2∨QK k):=e
    show(if QK k then N i else n)=[]
    rw[if_neg fun q=>e (.inr q)];exact h4 e
   ·intro x hx
    obtain⟨y,hy,rfl⟩:=List.mem_map.1 (show x∈w.map (sub env)from hx)
    by_cases hm:y∈env.map (·.1)
    ·obtain⟨p,hp,e⟩:=wI hm
     rw[e];exact he p hp
    ·rw[kV fun p hp e=>hm (List.mem_map.2 ⟨p,hp,e⟩)]
     exact hf y (by rw[fre];exact .inl ⟨hy,hm⟩)
   ·by_cases hk:QK k
    ·simp only[if_pos hk]at hq⊢
     refine lT.wf N q hN s _ _ h5 (by omega) (fun p hp=>?_) (fun x hx=>hf x (by rw[fre,if_pos hk];exact .inr hx))
     rcases List.mem_cons.1 hp with rfl|hp
     ·exact hN i (by omega)
     ·exact he p hp
    ·simp only[if_neg hk]at hq⊢
     exact lT.wf N q hN s _ _ h5 (by omega) he (fun x hx=>hf x (by rw[fre,if_neg hk];exact .inr hx))
theorem lT.wf(N:Nat→Bs)(q:Nat)(hN:∀i,i<q→B9 (N i)):∀(l:List u5) (env:List (Bs×Bs)) (i:Nat),lT l→i+nqL l≤q→(∀p∈env,B9 p.2)→(∀x,W8 l (env.map (·.1)) x→B9 x)→gY (I7 N l env i)
 | [],env,i,_,_,_,_=>by rw[I7,gY];trivial
 |f::l,env,i,h,hq,he,hf=>by
  rw[lT]at h
  rw[nqL]at hq
  rw[I7,gY]
  exact⟨StF.wf N q hN f env i h.1 (by omega) he (fun x hx=>hf x (by rw[W8];exact .inl hx)),lT.wf N q hN l env _ h.2 (by omega) he (fun x hx=>hf x (by rw[W8];exact .inr hx))⟩
end
theorem StF.cf{z:u5}(hst:StF z)(hs:SmF z)(hn:ndF z≤200)(hz:∀x,fre z [] x→B9 x):WfF (cf z):=by
 obtain⟨C,hC,hCl⟩:=kf hs (by omega)
 have QV:=yF (fun x hx=>(hC.1 x).2 hx) 600 (by have:=hC.2;omega)
 have hq:=oW z
 exact StF.wf _ 200 (fun i hi=>Gg (by have:=QV i;omega)) z [] 0 hst (by omega) (fun p hp=>by cases hp) hz
theorem Ls{s:w9}(hs:lR s){g:u5}(hg:StF g)(hsm:SmF g){e:Env}(h:eF s g=some e)(hn:∀x∈s.C4,x=s.form.name){n:Bs}(hnn:B9 n):B9 (bp s e n):=by
 unfold bp
 by_cases hp:n∈s.C4
 ·rw[if_pos hp]
  obtain rfl:=hn n hp
  unfold eF at h
  rw[pY,if_neg (hs.part _),hs.subs,mR]at h
  by_cases hk:s.form.kind≠g.kind∨s.form.words.length≠g.words.length
  ·rw[if_pos hk]at h;cases h
  rw[if_neg hk]at h
  rw[not_or,Classical.not_not,Classical.not_not]at hk
  have hpt:pth s s.form g=some [⟨33::s.form.name,g.name,zf⟩]:=by
   unfold pth
   rw[if_neg (q2 hs.kind),if_pos ⟨hs.kind,hp⟩]
  rw[hpt]at h
  cases hw:ptw s.words [] s.form.words g.words with
  |none=>rw[hw]at h;cases h
  |some b=>
   rw[hw]at h
   have h:bW [] ([⟨33::s.form.name,g.name,zf⟩]++(b++[]))=some e:=h
   have:=(jc _ _ _ h).1 _ (List.mem_append.2 (.inl (List.mem_singleton.2 rfl)))
   have this:assoc (33::s.form.name) e=some ⟨33::s.form.name,g.name,zf⟩:=this
   unfold txE
   rw[this]
   exact((OQ g).1 hg).2.2.1 (by rw[←hk.1];exact hs.kind)
 ·rw[if_neg hp];exact hnn
theorem kh.C4{r:u6}(h:kh r):∀x∈r.from_.C4,x=r.from_.form.name:=fun x hx=>by
 have hfl:∀g∈Z0 r.from_.form,g=r.from_.form:=fun g hg=>by
  rw[qI,h.pred.subs,av]at hg
  simpa using hg
 rcases h.good.C4 x hx with⟨g,hg,_,e,_⟩|⟨g,hg,_,e,_⟩
 ·rw[hfl g hg]at e;exact e.symm
 ·rw[hfl g hg]at e;exact e.symm
section
variable {rs:List u6}
mutual
theorem Lu(hr:∀r∈rs,kh r):∀(f:u5) (c:Nat),StF f→SmF f→StF (RP rs f c)
 | .mk k n w s,c,hf,hs=>by
   rw[RP]
   cases hm:nZ rs (.mk k n w s)with
   |some p=>
    obtain⟨h1,h2⟩:=oa hm
    have hp:=hr _ h1
    exact StF.ren _ _ _ _ (StF.pr (fun x hx=>Ls hp.pred hf hs h2 hp.C4 hx) _ (WfF.st _ hp.to.1))
   |none=>
    rw[StF]at hf
    rw[SmF]at hs
    show StF (.mk k n w (RPL rs s c))
    rw[StF,wN]
    exact⟨hf.1,hf.2.1,hf.2.2.1,hf.2.2.2.1,JH hr s c hf.2.2.2.2 hs.2.2⟩
theorem JH(hr:∀r∈rs,kh r):∀(l:List u5) (c:Nat),lT l→nS l→lT (RPL rs l c)
 | [],c,_,_=>by rw[RPL,lT];trivial
 |f::l,c,hf,hs=>by
  rw[lT]at hf
  rw[nS]at hs
  rw[RPL,lT]
  exact⟨Lu hr f c hf.1 hs.1,JH hr l _ hf.2 hs.2⟩
end
end
theorem Lv{r:u6}(hk:r.from_.form.kind=2)(hs:OkS r.from_)(hp:¬cr r.from_ r.from_.form)(ht:OkF r.to_):kh r:=by
 have hg:=hs.good
 have hsub:r.from_.form.subs=[]:=by
  have:=(Z8 ((Z4 _).1 hg.form.1).1).1
  rw[hk]at this
  have e:arF 2=0:=rfl
  rw[e]at this
  exact List.length_eq_zero_iff.1 (by omega)
 refine⟨⟨hk,hsub,?_⟩,hg,ht⟩
 cases hpt:r.from_.parts with
 |nil=>rfl
 |cons x l=>
  exfalso
  obtain⟨_,g,hgm,h1,h2,h3⟩:=hg.parts x (by rw[hpt];exact List.mem_cons_self ..)
  rw[qI,hsub,av]at hgm
  obtain rfl:g=r.from_.form:=by simpa using hgm
  exact hp ⟨⟨h1,h3⟩,by rw[h2,hpt];exact List.mem_cons_self ..⟩
theorem zc{rs:List u6}(hb:∀r∈rs,SB r.from_)(hk2:∀r∈rs,r.from_.form.kind=2):Evt (fun n=>R9 n rs) (fun v=>v.code=0→rs.length≤40∧∀r∈rs,wP r):=by
 unfold R9 C9
 refine Evt.cond (fun _=>Evt.pure fun e=>by cases e) (fun e=>?_)
 replace e:=bx e
 have hlen:rs.length≤40:=by omega
 refine Evt.C1 (Evt.scan (fun k _=>∀j,j<k→wP (Am.get rs j)) (fun _ r=>r.code≠0) (fun j hj=>absurd hj (Nat.not_lt_zero _)) (fun k s hk hi=>?_)) (fun t ht=>?_) (fun r hr=>?_)
 ·unfold U8 C9
  have hm:=get_mem hk
  refine Evt.bind (sO (hb _ hm)) fun v hv=>?_
  refine Evt.cond (fun e=>Evt.pure ?_) (fun e=>?_)
  ·show v.code≠0
   simpa using e
  have hs:=(hv.code (by simpa using e)).1
  rw[pe]
  simp only[Option.bind_some]
  refine Evt.cond (fun _=>Evt.pure (by show(5:Int)≠0;decide)) (fun hp=>?_)
  have hp:=of_decide_eq_false hp
  refine Evt.bind (R2 _) fun v hv=>?_
  subst hv
  refine Evt.cond (fun e=>Evt.pure ?_) (fun e=>?_)
  ·show(kW (Am.get rs k).to_).code≠0
   simpa using e
  have hto:OkF (Am.get rs k).to_:=(fN _).1 (by simpa using e)
  have hR:=Lv (hk2 _ hm) hs hp hto
  have hnq:=oW (Am.get rs k).to_
  have hnt:=hto.2.1
  have hql:=nO (Am.get rs k).to_
  refine Evt.bind (jJ _ _ (Nat.le_refl _) (by omega)) fun v hv=>?_
  subst hv
  refine Evt.C1 (Evt.scan (fun i _=>∀j,j<i→Am.get (qs (Am.get rs k).to_) j∉ (qs (Am.get rs k).to_).take j) (fun _ r=>∃z:B1,r= .ret z∧z.code≠0) (fun j hj=>absurd hj (Nat.not_lt_zero _)) (fun i s hi hI=>?_)) (fun t ht=>?_) (fun r hr=>?_)
  ·unfold bB C9
   rw[F9]
   simp only[Option.bind_some,F9]
   refine Evt.chk (by omega) (Evt.bind (P:=fun _=>True) (Evt.gd (fun _=>Evt.pure trivial) (fun _=>trivial)) fun v36 _=>Evt.cond (fun _=>Evt.pure ⟨_,rfl,by show(7:Int)≠0;decide⟩) (fun e=>Evt.pure fun j hj=>?_))
   by_cases ej:j=i
   ·subst ej
    intro hmem
    rw[decide_eq_true hmem]at e
    simp at e
   ·exact hI j (by omega)
  ·unfold U9 C9
   refine Evt.bind (Bh hR.pred hto) fun v _=>Evt.cond (fun _=>Evt.pure (by show(15:Int)≠0;decide)) (fun _=>Evt.pure fun j hj=>?_)
   by_cases ej:j=k
   ·subst ej
    exact⟨hR,fun i hi=>ht i hi⟩
   ·exact hi j (by omega)
  ·obtain⟨_,_,_,_,z,rfl,hz⟩:=hr
   exact hz
 ·unfold bC
  refine Evt.pure fun _=>⟨hlen,fun r hr=>?_⟩
  obtain⟨j,hj,rfl⟩:=V7.1 hr
  exact ht j hj
 ·obtain⟨_,_,_,_,hz⟩:=hr
  exact fun e=>absurd e hz
theorem pG{rs:List u6}(hb:∀r∈rs,SB r.from_)(hk2:∀r∈rs,r.from_.form.kind=2)(f:u5):Evt (fun n=>K8 n rs f) (fun x=>x.2.code=0→OkF f∧(∀r∈rs,wP r)∧x.1=cf (RP rs (ren qn f [] 0) (nq f))∧ndF (RP rs (ren qn f [] 0) (nq f))≤200∧dpF (RP rs (ren qn f [] 0) (nq f))≤40):=by
 unfold K8 cG C9
 refine Evt.bind (P:=fun v=>v.code=0→rs.length≤40∧(∀r∈rs,wP r)∧OkF f) (Evt.bind (zc hb hk2) fun v hv=>Evt.cond (fun e=>Evt.pure fun h=>by simp[h]at e) (fun e=>Evt.bind (R2 f) fun w hw=>Evt.pure fun h=>?_)) fun v hv=>?_
 ·obtain⟨h1,h2⟩:=hv (by simpa using e)
  subst hw
  exact⟨h1,h2,(fN f).1 h⟩
 ·refine Evt.cond (fun e=>Evt.pure fun h=>?_) (fun e=>?_)
  ·have h:v.code=0:=h
   simp[h]at e
  obtain⟨h1,h2,h3⟩:=hv (by simpa using e)
  refine Evt.bind (Lq h2 (by omega) h3) fun w hw=>Evt.cond (fun _=>Evt.pure fun h=>?_) (fun e=>Evt.pure fun _=>?_)
  ·have h:(1:Int)=0:=h
   cases h
  ·obtain⟨e1,e2⟩:=hw (by simpa using e)
   exact⟨h3,h2,e1,e2⟩
theorem zd:∀ {rs:List u6} (_:∀r∈rs,lR r.from_) {X:u5} (_:X.kind≠2),nZ rs X=none
 | [],_,X,_=>rfl
 |r::rs,h,X,hX=>by
  have hs:=h r (List.mem_cons_self ..)
  have:eF r.from_ X=none:=by
   unfold eF
   rw[pY,if_neg (hs.part _),if_pos (.inl fun e=>hX (by rw[←e];exact hs.kind))]
   rfl
  rw[nZ,this]
  exact zd (rs:=rs) (fun r hr=>h r (List.mem_cons_of_mem _ hr)) hX
theorem Lw{rs:List u6}(hr:∀r∈rs,kh r){k:Int}(hk:¬QK k)(h2:k≠2)(f g:u5):RP rs (ren qn (.mk k [] [] [f,g]) [] 0) (nq (.mk k [] [] [f,g]))= .mk k [] [] [RP rs (ren qn f [] 0) (nq f+nq g),RP rs (ren qn g [] (nq f)) (nq f+nq g+nR rs (ren qn f [] 0))]:=by
 have hq:nq (.mk k [] [] [f,g])=nq f+nq g:=by rw[nq,if_neg hk,nqL,nqL,nqL];omega
 have hrn:ren qn (.mk k [] [] [f,g]) [] 0= .mk k [] [] [ren qn f [] 0,ren qn g [] (nq f)]:=by
  rw[ren,I7,I7,I7]
  simp only[if_neg hk,List.map_nil,Nat.zero_add]
 rw[hq,hrn,IG,zd (fun r h=>(hr r h).pred) (show(u5.mk k [] [] [ren qn f [] 0,ren qn g [] (nq f)]).kind≠2 from h2)]
 show u5.mk k [] [] (RPL rs [ren qn f [] 0,ren qn g [] (nq f)] (nq f+nq g))=_
 rw[RPL,RPL,RPL]
theorem Aj{rs:List u6}(hl:rs.length≤1048576)(hb:∀r∈rs,SB r.from_)(k:Int)(f g:u5):Evt (fun n=>I0 n rs k f g) (fun b=>b=true):=by
 unfold I0
 refine Evt.bind eT fun v hv=>?_
 subst hv
 refine Evt.cond (fun e=>by cases e) (fun _=>?_)
 refine Evt.C1 (Evt.vY rs.length (fun i s=>s=(i:Int)∧∀j,j<i→(Am.get rs j).from_.form.kind=2) (fun _=>∀r∈rs,r.from_.form.kind=2) (fun r=>r=true) ⟨rfl,fun j hj=>absurd hj (Nat.not_lt_zero _)⟩ (fun i s hi hs=>?_) (fun s hs=>?_)) (fun t ht=>?_) (fun r hr=>hr)
 ·obtain⟨rfl,hs⟩:=hs
  unfold E6
  refine Evt.cond (fun _=>Evt.chk (by omega) (Evt.cond (fun _=>Evt.pure rfl) (fun e=>Evt.pure ?_))) (fun e=>by replace e:=bx e;omega)
  rw[iy (by omega) (by omega)]
  refine⟨rfl,fun j hj=>?_⟩
  by_cases ej:j=i
  ·subst ej;simpa using e
  ·exact hs j (by omega)
 ·obtain⟨rfl,hs⟩:=hs
  unfold E6
  refine Evt.cond (fun e=>by replace e:=bx e;omega) (fun _=>Evt.pure fun r hr=>?_)
  obtain⟨j,hj,rfl⟩:=V7.1 hr
  exact hs j hj
 ·have hk2:∀r∈rs,r.from_.form.kind=2:=ht
  unfold G1
  refine Evt.cond (fun _=>Evt.pure rfl) (fun e=>?_)
  have hk:k=5∨k=6∨k=7:=Classical.byContradiction fun h=>by
   rw[not_or,not_or]at h
   simp[h.1,h.2.1,h.2.2]at e
  have hq:¬QK k:=by unfold QK;omega
  refine Evt.bind (pG hb hk2 f) fun v5 h5=>Evt.bind (pG hb hk2 g) fun v6 h6=>?_
  unfold L2
  simp only[Option.bind_some]
  refine Evt.bind (pG hb hk2 _) fun v8 h8=>?_
  refine Evt.cond (fun _=>Evt.pure rfl) (fun e=>?_)
  have hz:v5.2.code=0∧v6.2.code=0∧v8.2.code=0:=by
   by_cases a:v5.2.code=0
   ·by_cases b:v6.2.code=0
    ·by_cases c:v8.2.code=0
     ·exact⟨a,b,c⟩
     ·simp[a,b,c]at e
    ·simp[a,b]at e
   ·simp[a]at e
  obtain⟨o5,hR,e5,n5,_⟩:=h5 hz.1
  obtain⟨o6,_,e6,n6,_⟩:=h6 hz.2.1
  obtain⟨o8,_,e8,n8,d8⟩:=h8 hz.2.2
  have hP:∀r∈rs,kh r:=fun r h=>(hR r h).tokh
  rw[Lw hP hq (by omega)]at e8 n8 d8
  have hcf:=Lm hP o5 o6 hq (by omega) (by omega)
  rw[hcf]at e8
  have aF:ArF (ren qn f [] 0):=ArF.ren qn f [] 0 (WfF.ar f o5.1)
  have aG:ArF (ren qn g [] 0):=ArF.ren qn g [] 0 (WfF.ar g o6.1)
  have wx:WfF (cf (RP rs (ren qn f [] 0) (nq f))):=StF.cf (Lu hP _ _ (StF.ren _ _ _ _ (WfF.st f o5.1)) (ArF.sm _ aF)) (ArF.sm _ (DJ hP _ _ aF)) n5 fun x h=>(yY hP _ _ _ x h).elim (qQ o5.1 0 x) id
  have wy:WfF (cf (RP rs (ren qn g [] 0) (nq g))):=StF.cf (Lu hP _ _ (StF.ren _ _ _ _ (WfF.st g o6.1)) (ArF.sm _ aG)) (ArF.sm _ (DJ hP _ _ aG)) n6 fun x h=>(yY hP _ _ _ x h).elim (qQ o6.1 0 x) id
  have hnd:=congrArg ndF hcf
  have hdp:=congrArg dpF hcf
  have c1:∀z,ndF (cf z)=ndF z:=fun z=>sI _ z [] 0
  have c2:∀z,dpF (cf z)=dpF z:=fun z=>uQ _ z [] 0
  rw[c1,c1 (.mk k [] [] [cf _,cf _])]at hnd
  rw[c2,c2 (.mk k [] [] [cf _,cf _])]at hdp
  have hD:OkF (.mk k [] [] [v5.1,v6.1]):=by
   rw[e5,e6]
   refine⟨(Z4 _).2 ⟨qP ?_ ?_ ?_ ?_ ?_,?_⟩,by omega,by omega⟩
   ·show(2:Int)=arF k
    rcases hk with rfl|rfl|rfl<;>rfl
   ·show iE k 0
    rcases hk with rfl|rfl|rfl<;>decide
   ·intro e
    have e:k=2∨QK k:=e
    exact absurd (e.resolve_left (by omega)) hq
   ·intro _;rfl
   ·intro w hw;cases hw
   ·show gY [_,_]
    rw[gY,gY,gY]
    exact⟨wx,wy,trivial⟩
  refine Evt.bind (nU _) fun v10 h10=>?_
  obtain rfl:=h10.2 hD
  rw[←e5, ←e6]at e8
  refine Evt.bind (P:=fun v=>v=true) (Evt.gd (fun _=>?_) (fun e=>by simp at e)) fun v11 hv11=>Evt.pure ?_
  ·rw[e8]
   exact eS _ _ (Nat.le_refl _) (WfF.sm _ (KS hD).1)
  ·subst hv11;rfl
end Go.Proofs.YtfacbpehlibilaaGreatDoor
