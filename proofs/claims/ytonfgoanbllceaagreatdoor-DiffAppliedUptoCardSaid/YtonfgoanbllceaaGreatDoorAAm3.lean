/-
 AM, part 30: the equations for drawn regions.
-/
import Derived.Scope
import Derived.Test.YtonfgoanbllceaaGreatDoorAAm2
import Derived.Test.YtonfgoanbllceaaGreatDoorALcs
set_option linter.unusedVariables false
set_option linter.unusedSimpArgs false
namespace Go.Am
open Go
section
variable {P:Program} {gl:Gl} {N n0:Nat} {ops:Array Oper} {keep:List Nat} {Q:AQ} {fr:Fr} {st:St} {lg:Log} {b q:Nat} {trk:List Nat} {K:Fr→St→Prop}
 {dst:Option Nat} {op:Op} {l:List Oper} {i k:Nat} {tr:Bool} {kk k1:Log→Fr→St→Prop} {d:D} {p:Prop} {rd:List Nat} {o:Nat} {ob:Ob} {G:Bool}
@[congr] theorem Pc{fr':Fr}{st':St}{lg':Log}{i' k':Nat}(h0:i=i')(h1:k=k')(h2:lg=lg')(h:fr=fr')(h3:st=st'):EvD P gl N ops b trk K l i k lg fr st=EvD P gl N ops b trk K l i' k' lg' fr' st':=by rw[h0,h1,h2,h,h3]
@[congr] theorem NX{r r':LR}(h:r=r'):Kv N q tr dst lg fr st kk r=Kv N q tr dst lg fr st kk r':=by rw[h]
@[congr] theorem Mx{r r':LR}(h:r=r'):HK N q G tr dst lg fr st kk r=HK N q G tr dst lg fr st kk r':=by rw[h]
@[congr] theorem NY{n n':Nat}{q':Nat}{tr':Bool}(h1:q=q')(h2:tr=tr')(h:n=n'):Lo P gl N b q tr kk k1 dst op lg fr st n=Lo P gl N b q' tr' kk k1 dst op lg fr st n':=by rw[h,h1,h2]
@[congr] theorem NZ{n n':Nat}{g g':Option Bool}{q':Nat}{tr':Bool}(h1:q=q')(h2:tr=tr')(h:n=n')(h3:g=g'):Lp P gl N b q tr kk dst op lg fr st n g=Lp P gl N b q' tr' kk dst op lg fr st n' g':=by rw[h,h1,h2,h3]
@[congr] theorem Oa{a a':Prop}{f f':D}{args args':List D}(h:a=a')(h2:f=f')(h3:args=args'):NW P gl N b tr dst lg fr st kk a f args=NW P gl N b tr dst lg fr st kk a' f' args':=by rw[h,h2,h3]
@[congr] theorem Mz{a a':Prop}{f f':D}{args args':List D}(h:a=a')(h2:f=f')(h3:args=args'):FU P gl N b G tr dst lg fr st kk a f args=FU P gl N b G tr dst lg fr st kk a' f' args':=by rw[h,h2,h3]
@[congr] theorem MA{f:FuncId}{args args':List D}(h:args=args'):FT P gl b tr dst lg fr st kk f args=FT P gl b tr dst lg fr st kk f args':=by rw[h]
@[congr] theorem Ls{f:FuncId}{args args':List D}(h:args=args'):Bn P gl b G tr dst lg fr st kk f args=Bn P gl b G tr dst lg fr st kk f args':=by rw[h]
theorem RM:EvD P gl N ops b trk K [] i k lg fr st=(Ln lg∧K fr st):=rfl
theorem RN{o:Oper}{l':List Oper}:EvD P gl N ops b trk K (List.append (o::l) l') i k lg fr st=EvD P gl N ops b trk K (o::List.append l l') i k lg fr st:=rfl
theorem QY{l':List Oper}:EvD P gl N ops b trk K (List.append [] l') i k lg fr st=EvD P gl N ops b trk K l' i k lg fr st:=rfl
theorem QZ{ty:TypeId}{pos:String}{af:Array Edge}:EvD P gl N ops b trk K (⟨dst,op,ty,pos,af,none⟩::l) i k lg fr st=
 Lo P gl N b (b+k) (trk.contains i) (EvD P gl N ops b trk K l (i+1) k) (EvD P gl N ops b trk K l (i+1) (k+1)) dst op lg fr st (opk op):=rfl
theorem Pf{ty:TypeId}{pos:String}{af:Array Edge}{j:Nat}{want:Bool}:EvD P gl N ops b trk K (⟨dst,op,ty,pos,af,some (j,want)⟩::l) i k lg fr st=
 Lp P gl N b (b+k) (trk.contains i) (EvD P gl N ops b trk K l (i+1) k) dst op lg fr st (opk op) (Ke fr want (gslot ops j)):=rfl
theorem SV:Lo P gl N b q tr kk k1 dst op lg fr st 0=Kv N q tr dst lg fr st kk (aop P gl true op fr (look st) q):=rfl
theorem SW:Lo P gl N b q tr kk k1 dst op lg fr st 1=Kv N q tr dst lg fr st k1 (aop P gl true op fr (look st) q):=rfl
theorem SX{f:Operand}{args:Array Operand}{ats:Array TypeId}:Lo P gl N b q tr kk k1 dst (.call ⟨.value f,args,ats⟩) lg fr st 2=NW P gl N b tr dst lg fr st kk (eok gl true fr f∧(∀x∈args.toList,eok gl true fr x)) (ev1 gl fr f) (args.toList.map (ev1 gl fr)):=rfl
theorem SY:Lp P gl N b q tr kk dst op lg fr st 0 (some G)=HK N q G tr dst lg fr st kk (aop P gl G op fr (look st) q):=rfl
theorem SZ{f:Operand}{args:Array Operand}{ats:Array TypeId}:Lp P gl N b q tr kk dst (.call ⟨.value f,args,ats⟩) lg fr st 2 (some G)=FU P gl N b G tr dst lg fr st kk (eok gl G fr f∧(∀x∈args.toList,eok gl G fr x)) (ev1 gl fr f) (args.toList.map (ev1 gl fr)):=rfl
theorem Ta:Kv N q tr dst lg fr st kk ⟨d,p,rd,none,none⟩=(p∧dlt N dst∧kk (oY tr lg ⟨d,p,rd,none,none⟩ []) (fr.mV dst d) st):=rfl
theorem Td:Kv N q tr dst lg fr st kk ⟨d,p,rd,some (o,ob),none⟩=(p∧dlt N dst∧kk (oY tr lg ⟨d,p,rd,some (o,ob),none⟩ []) (fr.mV dst d) (st.set o (some ob))):=rfl
theorem Te:Kv N q tr dst lg fr st kk ⟨d,p,rd,none,some ob⟩=(p∧dlt N dst∧kk (oY tr lg ⟨d,p,rd,none,some ob⟩ []) (fr.mV dst d) (st.set q (some ob))):=rfl
theorem RO:HK N q G tr dst lg fr st kk ⟨d,p,rd,none,none⟩=(cX G p∧dlt N dst∧kk (oY tr lg ⟨d,p,rd,none,none⟩ []) (fr.mV dst (.cond G d)) st):=by cases G<;>rfl
theorem RP{g:FuncId}{first cap args:List D}:NW P gl N b tr dst lg fr st kk p (.fn g first cap) args=(dlt N dst∧p∧FT P gl b tr dst lg fr st kk g (first++args++cap)):=rfl
theorem Ra{g:FuncId}{first cap args:List D}:FU P gl N b G tr dst lg fr st kk p (.fn g first cap) args=(dlt N dst∧p∧Bn P gl b G tr dst lg fr st kk g (first++args++cap)):=rfl
theorem RQ{r:LR}{ups:List (Nat×Ob)}:oY false lg r ups=lg:=rfl
theorem A9{f:FuncId}{args:List D}{r:D}(h:Pure P gl f args r)(hk:kk (oY tr lg ⟨r,True,[],none,none⟩ []) (fr.mV dst r) st):
 FT P gl b tr dst lg fr st kk f args:=
 ⟨r,[],[],h.loc,fun _ h=>(by cases h),fun _ h=>(by cases h),fun _=>rfl,hk⟩
theorem bB{f:FuncId}{args:List D}{r:D}(h:G=true→Pure P gl f args r)(hk:kk (oY tr lg ⟨r,True,[],none,none⟩ []) (fr.mV dst (.cond G r)) st):
 Bn P gl b G tr dst lg fr st kk f args:=
 ⟨r,[],[],fun e=>(h e).loc,fun _ h=>(by cases h),fun _ h=>(by cases h),fun _=>rfl,fun _=>rfl,hk⟩
theorem RR{ups:List (Nat×Ob)}:oY true lg ⟨d,p,rd,none,some ob⟩ ups=lg++[(rd,ups.map (·.1))]:=rfl
theorem Rb{ups:List (Nat×Ob)}:oY true lg ⟨d,p,rd,none,none⟩ ups=lg++[(rd,ups.map (·.1))]:=rfl
theorem Rc{ups:List (Nat×Ob)}:oY true lg ⟨d,p,rd,some (o,ob),none⟩ ups=lg++[(rd,o::ups.map (·.1))]:=rfl
theorem Uq{b:Bool}:(b==true)=b:=by cases b<;>rfl
theorem Ur{b:Bool}:(b==false)= !b:=by cases b<;>rfl
theorem Oc{l:List Oper}{j:Nat}:gslot l.toArray j=(l[j]?).bind (·.dst):=by simp[gslot]
theorem Rf{e:Nat}:(∃t,TK.slice e=TK.slice t)=True:=eq_true ⟨e,rfl⟩
theorem Tf{a c:Nat}:(∃t u,TK.map a c=TK.map t u)=True:=eq_true ⟨a,c,rfl⟩
end
attribute [go_sem] Uq Ur Oc Option.bind_some Rf Tf JM qI Int.toNat_natCast imp_self false_implies RN QY RM QZ Pf SV SW SX SY SZ Ta Td Te RO RP Ra RQ RR Rb Rc RL Ln Nat.add_zero
section
variable {P:Program} {gl:Gl} {N n0:Nat} {keep:List Nat} {Q:AQ} {fr:Fr} {st:St} {c:Code}
theorem Pg{t n b:Nat}{full:Bool}{es:List (List D)}(hg:fr.get t= .sl full n b es)(h:es.length*b≤top→AWp P gl N n0 keep c Q fr st):AWp P gl N n0 keep c Q fr st:=
 Hf (p:=es.length*b≤top) (fun w μ tmps _ hf=>by
  have:=hf t
  rw[hg]at this
  generalize tmps.getD t undef=v at this
  cases this with
  |tr h=>cases h;assumption) h
end
def FX(n:Nat)(rows:List (List D)):Prop:=∀r∈rows,r.length=n∧r.all D.one=true
theorem kg{α:Type}{l:List α}{k:Nat}{d:α}(h:k<l.length):l.getD k d∈l:=by
 rw[List.getD_eq_getElem?_getD,List.getElem?_eq_getElem h];exact List.getElem_mem h
theorem FX.at{n:Nat}{rows:List (List D)}(h:FX n rows){k:Nat}(hk:k<rows.length):∃r,rows.getD k []=r∧r.length=n∧r.take n=r∧r.all D.one=true∧r∈rows:=by
 have hm:=kg (d:=[]) hk
 obtain⟨h1,h2⟩:=h _ hm
 exact⟨_,rfl,h1,List.take_of_length_le (by omega),h2,hm⟩
theorem FX.at1{rows:List (List D)}(h:FX 1 rows){k:Nat}(hk:k<rows.length):∃a,rows.getD k []=[a]∧a.one=true∧ [a]∈rows:=by
 have hm:=kg (d:=[]) hk
 obtain⟨h1,h2⟩:=h _ hm
 generalize rows.getD k []=r at*
 match r,h1 with
 | [a],_=>simp at h2;exact⟨a,rfl,h2,hm⟩
theorem FX.at2{rows:List (List D)}(h:FX 2 rows){k:Nat}(hk:k<rows.length):∃a b,rows.getD k []=[a,b]∧a.one=true∧b.one=true∧ [a,b]∈rows:=by
 have hm:=kg (d:=[]) hk
 obtain⟨h1,h2⟩:=h _ hm
 generalize rows.getD k []=r at*
 match r,h1 with
 | [a,b],_=>simp at h2;exact⟨a,b,rfl,h2.1,h2.2,hm⟩
def Ph:Ob→Ob→Prop
 | .arr g n b es,.arr g' n' b' es'=>g'=g∧n'=n∧b'=b∧es'.length=es.length
 | .mps ag _,.mps ag' _=>ag'=ag
 | .mpi ag k _,.mpi ag' k' _=>ag'=ag∧k'=k
 | .sit s p,.sit s' p'=>s'=s∧p'=p
 | .resv,.resv=>True
 | _,_=>False
structure GA(st T:St):Prop where
 len:T.length≤st.length
 sh:∀(o:Nat) (ob':Ob),T[o]? =some (some ob')→∃ob,st[o]? =some (some ob)∧Ph ob ob'
section
variable {w:World} {μ:Mu} {st T:St}
theorem GA.own(hk:GA st T){blk:Nat}(h:own μ T blk):own μ st blk:=by
 obtain⟨o,ob,base,h1,h2⟩:=h
 obtain⟨ob',h3,_⟩:=hk.sh o ob h1
 exact⟨o,ob',base,h3,h2⟩
theorem TR.kill(hk:GA st T){v:Value}{d:D}(h:TR w (Am.own μ st) v d):TR w (Am.own μ T) v d:=
 h.mono (fun _ _ hn=>⟨rfl,fun h=>hn (hk.own h)⟩) (Nat.le_refl _)
theorem GA.resv(hk:GA st T){o:Nat}(h:st[o]? ≠some (some .resv)):T[o]? ≠some (some .resv):=fun e=>by
 obtain⟨ob,h1,h2⟩:=hk.sh o _ e
 cases ob<;>first|exact h2.elim|exact h h1
theorem VR.kill(hk:GA st T){v:Value}{d:D}(h:VR w μ st v d)(hd:D.sc T.length d):VR w μ T v d:=by
 induction h with
 |any v=>exact .any v
 |tr h=>exact .tr (h.kill hk)
 |agg vs cs hs hc ih=>exact .agg vs cs hs (fun j hj=>ih j hj (fq hd j hj))
 |tup vs cs hs hc ih=>exact .tup vs cs hs (fun j hj=>ih j hj (fq hd j hj))
 |fn f vf vc first cap hf hc hfc hcc ih1 ih2=>exact .fn f vf vc first cap hf hc (fun j hj=>ih1 j hj (fq hd.1 j hj)) (fun j hj=>ih2 j hj (fq hd.2 j hj))
 |ref v full o g off len hv ho hr hg h=>
  refine .ref v full o g off len hv hd (hk.resv hr) (fun g' n b es e=>?_) (fun n b es e=>?_)
  ·obtain⟨ob,h1,h2⟩:=hk.sh o _ e
   cases ob<;>first|exact h2.elim|skip
   have:=hg _ _ _ _ h1
   rw[h2.1];exact this
  ·obtain⟨ob,h1,h2⟩:=hk.sh o _ e
   cases ob<;>first|exact h2.elim|skip
   obtain⟨rfl,rfl,rfl,e4⟩:=h2
   have:=h _ _ _ h1
   unfold qe at this⊢
   rw[e4];exact this
 |ptr v o g i c hv ho hr hg h=>
  refine .ptr v o g i c hv hd (hk.resv hr) (fun g' n b es e=>?_) (fun n b es e=>?_)
  ·obtain⟨ob,h1,h2⟩:=hk.sh o _ e
   cases ob<;>first|exact h2.elim|skip
   have:=hg _ _ _ _ h1
   rw[h2.1];exact this
  ·obtain⟨ob,h1,h2⟩:=hk.sh o _ e
   cases ob<;>first|exact h2.elim|skip
   obtain⟨rfl,rfl,rfl,e4⟩:=h2
   exact h _ _ _ h1
 |mp v o hv ho hr h1 h2=>
  refine .mp v o hv hd (hk.resv hr) (fun ag es e=>?_) (fun ag k es e=>?_)
  ·obtain⟨ob,h3,h4⟩:=hk.sh o _ e
   cases ob<;>first|exact h4.elim|skip
   exact h1 _ _ h3
  ·obtain⟨ob,h3,h4⟩:=hk.sh o _ e
   cases ob<;>first|exact h4.elim|skip
   exact h2 _ _ _ h3
 |it v o hv ho hr h=>
  refine .it v o hv hd (hk.resv hr) (fun s p e=>?_)
  obtain⟨ob,h3,h4⟩:=hk.sh o _ e
  cases ob<;>first|exact h4.elim|skip
  exact h _ _ h3
 |cond v g d h h0 ih=>exact .cond v g d (fun e=>ih e (hd e)) h0
end
def D.imm:D→Bool
 | .agg _| .tup _| .fn _ _ _| .ref _ _ _ _ _| .ptr _ _ _ _| .mp _| .it _| .cond _ _=>false
 | _=>true
def Imm(rows:List (List D)):Prop:=∀e∈rows,e.all D.imm=true
mutual
inductive Up(st T:St):D→D→Prop
 |any (d:D):Up st T d .any
 |same (d:D):Up st T d d
 |B3 (full:Bool) (n b:Nat) (hb:1≤b):Up st T .B3 (.sl full n b [])
 |nref (full:Bool) (o g n b:Nat) (es:List (List D)) (h:T[o]? =some (some (.arr g n b es))):Up st T .B3 (.ref full o g 0 0)
 |full (f:Bool) (n b:Nat) (es:List (List D)):Up st T (.sl true n b es) (.sl f n b es)
 |ref (full:Bool) (o g off len n b:Nat) (es:List (List D)) (rows:List (List D)) (h:st[o]? =some (some (.arr g n b es))) (hT:look T o=none) (hb:1≤b) (hi:Imm es)
  (hr:rows=(es.drop off).take len):Up st T (.ref full o g off len) (.sl false n b rows)
 |Br (o g off len:Nat):Up st T (.ref true o g off len) (.ref false o g off len)
 |agg (cs cs':List D) (h:Ups st T cs cs'):Up st T (.agg cs) (.agg cs')
 |tup (cs cs':List D) (h:Ups st T cs cs') (hl:cs.all D.live=true):Up st T (.tup cs) (.tup cs')
 |cond (g:Bool) (d d':D) (h:Up st T d d'):Up st T (.cond g d) (.cond g d')
inductive Ups(st T:St):List D→List D→Prop
 |nil:Ups st T [] []
 |cons (d d':D) (l l':List D) (h:Up st T d d') (hl:Ups st T l l'):Ups st T (d::l) (d'::l')
end
theorem Ups.len{st T:St}:∀ {l l':List D},Ups st T l l'→l'.length=l.length
 | _,_,.nil=>rfl
 | _,_,.cons _ _ _ _ _ h=>by simp[h.len]
theorem Ups.get{st T:St}:∀ {l l':List D},Ups st T l l'→∀(j:Nat) (h:j<l.length) (h':j<l'.length),Up st T (l[j]) (l'[j])
 | _,_,.cons _ _ _ _ h _,0,_,_=>h
 | _,_,.cons _ _ _ _ _ h,j+1,hj,hj'=>h.get j (by simpa using hj) (by simpa using hj')
theorem Ups.refl{st T:St}:∀(l:List D),Ups st T l l
 | []=>.nil
 |d::l=>.cons d d l l (.same d) (Ups.refl l)
inductive kS(st T:St):List (List D)→List (List D)→Prop
 |same (l:List (List D)):kS st T l l
 |nil:kS st T [] []
 |cons (e e':List D) (l l':List (List D)) (h:Ups st T e e') (hl:kS st T l l'):kS st T (e::l) (e'::l')
 |snoc (e e':List D) (l l':List (List D)) (hl:kS st T l l') (h:Ups st T e e'):kS st T (l++[e]) (l'++[e'])
theorem kS.spec{st T:St}{l l':List (List D)}(h:kS st T l l'):l'.length=l.length∧∀(j:Nat) (h:j<l.length) (h':j<l'.length),Ups st T (l[j]) (l'[j]):=by
 induction h with
 |same l=>exact⟨rfl,fun j _ _=>Ups.refl _⟩
 |nil=>exact⟨rfl,fun j h _=>absurd h (Nat.not_lt_zero _)⟩
 |cons e e' l l' h hl ih=>
  refine⟨by simp[ih.1],fun j hj hj'=>?_⟩
  cases j with
  |zero=>exact h
  |succ j=>exact ih.2 j (by simpa using hj) (by simpa using hj')
 |snoc e e' l l' hl h ih=>
  refine⟨by simp[ih.1],fun j hj hj'=>?_⟩
  by_cases hjl:j<l.length
  ·rw[List.getElem_append_left hjl,List.getElem_append_left (by rw[ih.1];exact hjl)]
   exact ih.2 j hjl _
  ·have:j=l.length:=by simp at hj;omega
   subst this
   have e1:(l++[e])[l.length]=e:=by simp
   have e2:(l'++[e'])[l.length]'hj'=e':=by rw[List.getElem_append_right (by omega)];simp
   rw[e1,e2];exact h
inductive FY(st T:St):Ob→Ob→Prop
 |same (ob:Ob):FY st T ob ob
 |arr (g n b:Nat) (es es':List (List D)) (h:kS st T es es'):FY st T (.arr g n b es) (.arr g n b es')
theorem FY.sh{st T:St}{ob ob':Ob}(h:FY st T ob ob'):Ph ob ob':=by
 cases h with
 |same=>cases ob<;>simp[Ph]
 |arr g n b es es' h=>exact⟨rfl,rfl,rfl,h.spec.1⟩
structure JJ(st T:St):Prop where
 len:T.length≤st.length
 obs:∀(o:Nat) (ob':Ob),T[o]? =some (some ob')→∃ob,st[o]? =some (some ob)∧FY st T ob ob'
 sc:nQ T.length T
theorem JJ.kill{st T:St}(h:JJ st T):GA st T:=⟨h.len,fun o ob' e=>let ⟨ob,h1,h2⟩:=h.obs o ob' e;⟨ob,h1,h2.sh⟩⟩
section
variable {w:World} {μ:Mu} {st T:St}
theorem Pj{v:Value}{d:D}(h:VR w μ st v d)(hi:d.imm=true)(h1:v.oneCell'=true):TR w (own μ st) v d:=by
 cases h with
 |any=>exact .any _ h1
 |tr h=>exact h
 | _=>cases hi
theorem VR.up(hs:Sim w μ st)(hk:GA st T){v:Value}{d d':D}(hu:Up st T d d')(h:VR w μ st v d)(hd:D.sc T.length d'):VR w μ T v d':=by
 induction h generalizing d' with
 |any v=>cases hu with
  |any=>exact .any _
  |same=>exact .any _
 |tr h=>
  cases hu with
  |any=>exact .any _
  |same=>exact .tr (h.kill hk)
  |B3 full n b hb=>cases h;exact .tr (.sl full n b [] none 0 0 (fun _ _=>undef) rfl (Nat.le_refl _) (fun _=>rfl) (by simp[top]) hb (fun e he=>by cases he) (.inl rfl) (fun i j hi=>absurd hi (Nat.not_lt_zero _)))
  |nref full o g n b es hT=>
   cases h
   refine .ref _ full o g 0 0 ⟨none,0,0,rfl⟩ (List.getElem?_eq_some_iff.1 hT).1 (by rw[hT];simp) (fun g' n' b' es' e=>?_) (fun n' b' es' e=>?_)
   ·rw[hT]at e;cases e;exact Nat.le_refl _
   ·exact⟨none,0,rfl,Nat.le_refl _,by omega,fun _=>rfl,.inl rfl⟩
  |full f n b es=>
   cases h.kill hk with
   |sl _ _ _ _ a len cap cv hlen hcap xX hb hb1 hn ha hc=>exact .tr (.sl f n b es a len cap cv hlen hcap (fun _=>xX rfl) hb hb1 hn ha hc)
  |ref=>cases h
  |Br=>cases h
  |agg=>cases h
  |tup=>cases h
  |cond=>cases h
 |agg vs cs hs' hc ih=>
  cases hu with
  |any=>exact .any _
  |same=>exact VR.kill hk (.agg vs cs hs' hc) hd
  |agg _ cs' hu=>exact .agg vs cs' (by rw[hu.len];exact hs') fun j hj=>ih j (by rw[←hu.len];exact hj) (hu.get j _ hj) (fq hd j hj)
 |tup vs cs hs' hc ih=>
  cases hu with
  |any=>exact .any _
  |same=>exact VR.kill hk (.tup vs cs hs' hc) hd
  |tup _ cs' hu hl=>
   exact .tup vs cs' (fun j hj _=>hs' j (by rw[←hu.len];exact hj) (List.all_eq_true.1 hl _ (List.getElem_mem _))) fun j hj=>ih j (by rw[←hu.len];exact hj) (hu.get j _ hj) (fq hd j hj)
 |fn f vf vc first cap hf hc hfc hcc ih1 ih2=>
  cases hu with
  |any=>exact .any _
  |same=>exact VR.kill hk (.fn f vf vc first cap hf hc hfc hcc) hd
 |ref v full o g off len hv ho hr hg h=>
  cases hu with
  |any=>exact .any _
  |same=>exact VR.kill hk (.ref v full o g off len hv ho hr hg h) hd
  |Br=>exact VR.kill hk (.ref v false o g off len hv ho hr hg fun n b es e=>by
   obtain⟨a,cap,h1,h2,h3,h4,h5⟩:=h n b es e
   exact⟨a,cap,h1,h2,h3,(fun hf=>by cases hf),h5⟩) hd
  |ref _ _ _ _ _ n b es rows hst hT hb hi qW=>
   subst qW
   obtain⟨a,cap,e1,e2,e3,e4,e5⟩:=h n b es hst
   subst e1
   have hA:tw w μ st (μ o) n b es:=hs.obj o _ hst
   have hlen:((es.drop off).take len).length=len:=by simp;omega
   have hrow:∀i (hi:i<((es.drop off).take len).length),((es.drop off).take len)[i]=es[off+i]'(by rw[hlen]at hi;omega):=fun i hi=>by simp
   rcases hA.loc with⟨m0,e0⟩|⟨blk,base,c,ty,em,hh,hsz,hcell⟩
   ·subst e0
    have h0:len=0:=by simp at e3;omega
    subst h0
    refine .tr (.sl false n b _ a 0 cap (fun _ _=>undef) (by simp) e2 (fun hf=>by cases hf) (by simp) hb (fun e he=>by simp at he) (.inl (by simp)) (fun i j hi=>by simp at hi))
   ·have hcv:∀i j,∃u,∀(hi:i<len) (hj:j<n),c[base+((off+i)*n+j)]? =some u∧TR w (own μ T) u ((es[off+i]'(by omega))[j]'(by rw[hA.hn _ (List.getElem_mem _)];exact hj)):=fun i j=>by
     by_cases hc:i<len∧j<n
     ·obtain⟨u,h1,h2,h3⟩:=hcell (off+i) j (by omega) (by rw[hA.hn _ (List.getElem_mem _)];exact hc.2)
      refine⟨u,fun _ _=>⟨h1,?_⟩⟩
      have Tg:=hi (es[off+i]'(by omega)) (List.getElem_mem _)
      rw[List.all_eq_true]at Tg
      exact(Pj h2 (Tg _ (List.getElem_mem _)) h3).kill hk
     ·exact⟨undef,fun hi hj=>absurd ⟨hi,hj⟩ hc⟩
    have Us:∃cv:Nat→Nat→Value,∀i j (hi:i<len) (hj:j<n),c[base+((off+i)*n+j)]? =some (cv i j)∧TR w (own μ T) (cv i j) ((es[off+i]'(by omega))[j]'(by rw[hA.hn _ (List.getElem_mem _)];exact hj)):=
     ⟨fun i j=>Classical.choose (hcv i j),fun i j hi hj=>Classical.choose_spec (hcv i j) hi hj⟩
    obtain⟨cv,hcv⟩:=Us
    have hlb:((es.drop off).take len).length*b≤top:=by
     rw[hlen]
     exact Nat.le_trans (Nat.mul_le_mul_right b (show len≤es.length by omega)) hA.TU
    have hno:¬own μ T blk:=by
     rintro⟨o',ob',base',h1,h2⟩
     obtain⟨ob,h3,_⟩:=hk.sh o' ob' h1
     have:=hs.inj o o' _ _ blk base base' hst h3 em h2
     subst this
     rw[qo.2 h1]at hT;cases hT
    refine .tr (.sl false n b _ a len cap cv hlen.symm e2 (fun hf=>by cases hf) hlb hb ?_ ?_ ?_)
    ·intro e he
     obtain⟨i,hi',e'⟩:=List.getElem_of_mem he
     rw[hrow i hi']at e'
     rw[←e'];exact hA.hn _ (List.getElem_mem _)
    ·by_cases h0:len=0
     ·subst h0;left;simp
     ·right
      rcases e5 with e5|⟨vu,base',em',ea,c',ty',hh',hsz'⟩
      ·omega
      ·rw[em]at em';cases em'
       have hlt:blk<w.heap.size:=by
        rcases Nat.lt_or_ge blk w.heap.size with h|h
        ·exact h
        ·rw[Array.getElem?_eq_none h]at hh;cases hh
       refine⟨blk,base+off*n,ea,hlt,hno,fun i j hi' hj=>?_⟩
       rw[hlen]at hi'
       have:=(hcv i j hi' hj).1
       simp only[World.cell?, hh]
       rw[show base+off*n+(i*n+j)=base+((off+i)*n+j)by rw[Nat.add_mul];omega]
       simpa using this
    ·intro i j hi' hj
     have hi2:i<len:=by rw[hlen]at hi';exact hi'
     have hn2:(((es.drop off).take len)[i]).length=n:=by rw[hrow i hi'];exact hA.hn _ (List.getElem_mem _)
     have:=(hcv i j hi2 (by omega)).2
     have e:(((es.drop off).take len)[i])[j]=(es[off+i]'(by omega))[j]'(by rw[hA.hn _ (List.getElem_mem _)];omega):=by
      have:=hrow i hi'
      congr 1
     rw[e];exact this
 |ptr v o g i c hv ho hr hg h=>
  cases hu with
  |any=>exact .any _
  |same=>exact VR.kill hk (.ptr v o g i c hv ho hr hg h) hd
 |mp v o hv ho hr h1 h2=>
  cases hu with
  |any=>exact .any _
  |same=>exact VR.kill hk (.mp v o hv ho hr h1 h2) hd
 |it v o hv ho hr h=>
  cases hu with
  |any=>exact .any _
  |same=>exact VR.kill hk (.it v o hv ho hr h) hd
 |cond v g d h h0 ih=>
  cases hu with
  |any=>exact .any _
  |same=>exact VR.kill hk (.cond v g d h h0) hd
  |cond _ _ d' hu=>exact .cond v g d' (fun e=>ih e hu (hd e)) h0
end
section
variable {P:Program} {gl:Gl} {N n0:Nat} {keep:List Nat} {Q:AQ} {fr:Fr} {st:St} {c:Code} {w:World} {μ:Mu} {T:St}
theorem Sim.wk(hs:Sim w μ st)(hw:JJ st T):Sim w μ T:=by
 have hk:=hw.kill
 refine⟨fun o ob' h=>?_,fun o1 o2 ob1 ob2 blk b1 b2 h1 h2 m1 m2=>?_⟩
 ·obtain⟨ob,h1,h2⟩:=hw.obs o ob' h
  have hob:=hs.obj o ob h1
  have hsc:=hw.sc o ob' h
  cases h2 with
  |same=>
   cases ob' with
   |arr g n b es=>
    obtain⟨a1,a2,a3⟩:=(hob:tw w μ st (μ o) n b es)
    refine(⟨a1,a2,?_⟩:tw w μ T (μ o) n b es)
    rcases a3 with a3|⟨blk,base,cc,ty,em,hh,hsz,hc⟩
    ·exact .inl a3
    ·exact .inr ⟨blk,base,cc,ty,em,hh,hsz,fun i j hi hj=>let ⟨v,e,hv,h1⟩:=hc i j hi hj;⟨v,e,hv.kill hk (fq (hsc _ (List.getElem_mem hi)) j hj),h1⟩⟩
   |mps ag es=>
    obtain⟨blk,ents,clock,em,hh,hsz,hc⟩:=(hob:rG _ ag w μ _ (μ o) es).loc
    refine(⟨⟨blk,ents,clock,em,hh,hsz,fun i hi=>?_⟩⟩:rG _ ag w μ T (μ o) es)
    obtain⟨e,e1,e2,e3⟩:=hc i hi
    refine⟨e,e1,e2,?_⟩
    have Dz:=hsc _ (List.getElem_mem hi)
    cases ag with
    |true=>exact VR.kill hk e3 Dz
    |false=>obtain⟨d,a,b⟩:=e3;rw[a]at Dz;exact⟨d,a,b.kill hk Dz.1⟩
   |mpi ag k es=>
    obtain⟨blk,ents,clock,em,hh,hsz,hc⟩:=(hob:rG _ ag w μ _ (μ o) es).loc
    refine(⟨⟨blk,ents,clock,em,hh,hsz,fun i hi=>?_⟩⟩:rG _ ag w μ T (μ o) es)
    obtain⟨e,e1,e2,e3⟩:=hc i hi
    refine⟨e,e1,e2,?_⟩
    have Dz:=hsc _ (List.getElem_mem hi)
    cases ag with
    |true=>exact VR.kill hk e3 Dz
    |false=>obtain⟨d,a,b⟩:=e3;rw[a]at Dz;exact⟨d,a,b.kill hk Dz.1⟩
   |sit=>exact hob
   |resv=>exact hob
  |arr g n b es es' hu=>
   obtain⟨u1,u2⟩:=hu.spec
   obtain⟨a1,a2,a3⟩:=(hob:tw w μ st (μ o) n b es)
   refine(⟨by rw[u1];exact a1,fun e he=>?_,?_⟩:tw w μ T (μ o) n b es')
   ·obtain⟨i,hi,e1⟩:=List.getElem_of_mem he
    rw[←e1,(u2 i (by omega) hi).len]
    exact a2 _ (List.getElem_mem _)
   ·rcases a3 with⟨a3,a4⟩|⟨blk,base,cc,ty,em,hh,hsz,hc⟩
    ·subst a4;left;exact⟨a3,List.eq_nil_of_length_eq_zero (by simpa using u1)⟩
    ·refine .inr ⟨blk,base,cc,ty,em,hh,by rw[u1];exact hsz,fun i j hi hj=>?_⟩
     have hu':=u2 i (by omega) hi
     obtain⟨v,e,hv,h1⟩:=hc i j (by omega) (by rw[←hu'.len];exact hj)
     exact⟨v,e,VR.up hs hk (hu'.get j _ hj) hv (fq (hsc _ (List.getElem_mem hi)) j hj),h1⟩
 ·obtain⟨Wn,e1,_⟩:=hw.obs o1 ob1 h1
  obtain⟨Wo,e2,_⟩:=hw.obs o2 ob2 h2
  exact hs.inj o1 o2 _ _ blk b1 b2 e1 e2 m1 m2
theorem gy.sh{w':World}{m m':Option (Nat×Nat)}{a ob ob':Ob}(h:gy w w' m m' a ob)(hs:Ph ob ob'):gy w w' m m' a ob':=by
 cases ob<;>cases ob'<;>first|exact hs.elim|skip
 ·obtain⟨rfl,rfl,rfl,e⟩:=hs
  cases a<;>first|exact h|skip
  refine⟨h.1,fun hg=>?_⟩
  obtain⟨a1,a2,a3,a4,a5⟩:=h.2 hg
  exact⟨a1,a2,by rw[e];exact a3,a4,a5⟩
 ·cases a<;>first|exact h|skip
  exact⟨h.1.trans (Eq.symm hs),h.2⟩
 ·cases a<;>first|exact h|skip
  exact⟨h.1.trans hs.1.symm,h.2.1.trans hs.2.symm,h.2.2⟩
 ·cases a<;>exact h
 ·exact h
theorem Step.wk{w0:World}{μ0:Mu}{st0:St}(hl:st0.length≤T.length)(hw:JJ st T)(h:Step w0 μ0 st0 w μ st):Step w0 μ0 st0 w μ T where
 size:=h.size
 os:=h.os
 output:=h.output
 tape:=h.tape
 imm:=h.imm
 own:=fun blk hb=>h.own blk (hw.kill.own hb)
 len:=hl
 keep:=fun o ob' ho h1=>by
  obtain⟨ob,e1,e2⟩:=hw.obs o ob' h1
  obtain⟨a,a1,a2⟩:=h.keep o ob ho e1
  exact⟨a,a1,a2.sh e2.sh⟩
def vF(st T:St)(fr:Fr):Fr→Prop
 | []=>True
 |(t,d)::r=>Up st T (fr.get t) d∧vF st T fr r
theorem vF.get:∀ {F:Fr},vF st T fr F→∀t,Up st T (fr.get t) (F.get t)
 | [],_,_=>.any _
 |(k,d)::r,h,t=>by
  simp only[Fr.get]
  split
  ·rename_i e;subst e;exact h.1
  ·exact h.2.get t
structure Bk(n0:Nat)(F:Fr)(T:St)(fr:Fr)(st:St):Prop where
 len:n0≤T.length
 wk:JJ st T
 up:vF st T fr F
 sc:Fr.sc T.length F
theorem Pk{F:Fr}(hb:Bk n0 F T fr st)(h:AWp P gl N n0 keep c Q F T):AWp P gl N n0 keep c Q fr st:=
 fun w0 μ0 st0 hl0 a w ⟨μ,hc⟩=>h w0 μ0 st0 hl0 a w ⟨μ,hc.sim.wk hb.wk,zK hc.glob (fun _ h=>hb.wk.kill.own h),
  fun t=>VR.up hc.sim hb.wk.kill (hb.up.get t) (hc.fr t) (Fr.Hi F hb.sc t),hc.size,hc.defers,Step.wk (by rw[hl0];exact hb.len) hb.wk hc.step⟩
def fin(n0:Nat)(R:D→St→Prop)(d:D)(st:St):Prop:=∃T d',n0≤T.length∧JJ st T∧Up st T d d'∧D.sc T.length d'∧R d' T
@[congr] theorem Pm{n:Nat}{st st':St}{R:D→St→Prop}{d d':D}(h:d=d')(h2:st=st'):fin n R d st=fin n R d' st':=by rw[h,h2]
def Rg(P:Program)(rs:List ResultVar)(n0:Nat)(R:D→St→Prop):AQ
 | .exit _,_,_=>False
 | _,fr,st=>NU P fr st rs∧fin n0 R (rsD P fr st rs) st
theorem MB{f:FuncId}{fn:Func}{c:Code}{args:List D}{R:D→St→Prop}{rs:List ResultVar}(keep:List Nat)(hf:P.funcs[f]? =some fn)(hb:fn.body=some c)(hN:fn.ntmps=N)(hr:fn.results.toList=rs)
 (hname:(fn.name != "runtime.NumGoroutine")=true) (hlen:Nat.ble args.length N=true)
 (h:nQ st.length st→AWp P gl N st.length keep c (Rg P rs st.length R) (zM 0 args) st):Spec P gl f args st R:=by
 subst hN hr
 have hlen:=Nat.le_of_ble_eq_true hlen
 refine⟨trivial,fun w μ vs hs hg hsz hvs=>.inl ⟨by unfold uG;rw[hf];simp[hb,hname],?_⟩⟩
 refine calls_of_wp hf hb ?_
 have hc:tu gl fn.ntmps w μ st (zM 0 args) st { tmps:=vs++Array.replicate (fn.ntmps-vs.size) undef,defers:=[] } w μ:=by
  refine⟨hs,hg,fun t=>?_,by simp;omega,rfl,Step.refl _ _ _⟩
  rw[Bg]
  split
  ·rename_i ht
   have hts:t<vs.size:=by rw[hsz];omega
   have:=hvs t (by omega)
   rw[Array.getD_eq_getD_getElem?, Array.getElem?_append_left hts, ←Array.getD_eq_getD_getElem?]
   simpa using this
  ·exact .any _
 refine wp_mono (h hs.sc w μ st rfl _ w ⟨μ,hc⟩) fun e a' w' hq=>?_
 have fin:∀fr' st',Rg P fn.results.toList st.length R .ret fr' st'→Bc gl fn.ntmps w μ st fr' st' a' w'→a'.defers=[]∧∃v,(results fn a'.tmps).run P w'= .ok v w'∧
  ∃v' d Fz μ',Ending.returned v= .returned v'∧R d Fz∧Sim w' μ' Fz∧Step w μ st w' μ' Fz∧VR w' μ' Fz v' d:=by
  rintro fr' st' ⟨Ut,T,d',hle,hw,hu,hsc,hR⟩ ⟨μ',hc'⟩
  obtain⟨v,h1,h2⟩:=Hj hc'.sim hc'.fr (Ew _ Ut)
  exact⟨hc'.defers,v,h1,v,d',T,μ',rfl,hR,hc'.sim.wk hw,Step.wk hle hw hc'.step,VR.up hc'.sim hw.kill hu h2 hsc⟩
 cases e with
 |normal=>obtain⟨fr',st',h1,h2⟩:=hq;exact fin fr' st' h1 h2
 |ret=>obtain⟨fr',st',h1,h2⟩:=hq;exact fin fr' st' h1 h2
 |exit id=>obtain⟨fr',st',h1,h2⟩:=hq;exact h1.elim
 |goto=>exact hq.elim
 |panic=>exact hq.elim
 |outgrown=>exact hq.elim
inductive UpL(st T:St):St→St→Prop
 |nil (l:St):UpL st T l []
 |dead (x:Option Ob) (l l':St) (h:UpL st T l l'):UpL st T (x::l) (none::l')
 |live (ob ob':Ob) (l l':St) (h:FY st T ob ob') (hl:UpL st T l l'):UpL st T (some ob::l) (some ob'::l')
theorem UpL.lv{ob:Ob}{l l2:St}(h:UpL st T l l2):UpL st T (some ob::l) (some ob::l2):=.live _ _ _ _ (.same _) h
theorem FY.s{ob:Ob}:FY st T ob ob:=.same _
theorem Up.s{d:D}:Up st T d d:=.same _
theorem UpL.len:∀ {l l':St},UpL st T l l'→l'.length≤l.length
 | _,_,.nil _=>Nat.zero_le _
 | _,_,.dead _ _ _ h=>by simp[h.len]
 | _,_,.live _ _ _ _ _ h=>by simp[h.len]
theorem UpL.get:∀ {l l':St},UpL st T l l'→∀(j:Nat) (ob':Ob),l'[j]? =some (some ob')→∃ob,l[j]? =some (some ob)∧FY st T ob ob'
 | _,_,.nil _,j,ob',h=>by simp at h
 | _,_,.dead _ _ _ h,0,ob',e=>by simp at e
 | _,_,.dead _ _ _ h,j+1,ob',e=>by simpa using h.get j ob' (by simpa using e)
 | _,_,.live ob ob2 _ _ h _,0,ob',e=>by simp at e;subst e;exact⟨ob,rfl,h⟩
 | _,_,.live _ _ _ _ _ h,j+1,ob',e=>by simpa using h.get j ob' (by simpa using e)
def ScL(n:Nat):St→Prop
 | []=>True
 |none::l=>ScL n l
 |some ob::l=>ob.sc n∧ScL n l
theorem ScL.get{n:Nat}:∀ {l:St},ScL n l→∀(j:Nat) (ob:Ob),l[j]? =some (some ob)→ob.sc n
 |none::l,h,0,ob,e=>by simp at e
 |some a::l,h,0,ob,e=>by simp at e;subst e;exact h.1
 |none::l,h,j+1,ob,e=>ScL.get (l:=l) h j ob (by simpa using e)
 |some a::l,h,j+1,ob,e=>ScL.get (l:=l) h.2 j ob (by simpa using e)
end
mutual
theorem D.wI{n m:Nat}(h:n≤m):∀(d:D),D.sc n d→D.sc m d
 | .agg cs,hd=>D.uI h cs hd
 | .tup cs,hd=>D.uI h cs hd
 | .fn _ a b,hd=>⟨D.uI h a hd.1,D.uI h b hd.2⟩
 | .ref _ o _ _ _,hd=>(Nat.lt_of_lt_of_le hd h:o<m)
 | .ptr o _ _ _,hd=>(Nat.lt_of_lt_of_le hd h:o<m)
 | .mp o,hd=>(Nat.lt_of_lt_of_le hd h:o<m)
 | .it o,hd=>(Nat.lt_of_lt_of_le hd h:o<m)
 | .cond _ d,hd=>fun e=>D.wI h d (hd e)
 | .any,_=>trivial
 | .bool _,_=>trivial
 | .int _ _,_=>trivial
 | .str _,_=>trivial
 | .rH,_=>trivial
 | .B3,_=>trivial
 | .kJ,_=>trivial
 | .En,_=>trivial
 | .sl _ _ _ _,_=>trivial
 | .rI _,_=>trivial
theorem D.uI{n m:Nat}(h:n≤m):∀(l:List D),D.scs n l→D.scs m l
 | [],_=>trivial
 |d::l,hd=>⟨D.wI h d hd.1,D.uI h l hd.2⟩
end
theorem Ob.wI{n m:Nat}(h:n≤m){ob:Ob}(hs:ob.sc n):ob.sc m:=by
 cases ob with
 |arr=>exact fun e he=>D.uI h _ (hs e he)
 |mps=>exact fun e he=>D.uI h _ (hs e he)
 |mpi=>exact fun e he=>D.uI h _ (hs e he)
 |sit=>trivial
 |resv=>trivial
theorem HV{d:D}(h:d.imm=true)(n:Nat):D.sc n d:=by cases d<;>first|trivial|cases h
theorem Imm.sc{rows:List (List D)}(h:Imm rows)(n:Nat):∀e∈rows,D.scs n e:=fun e he=>
 rS fun j hj=>HV (List.all_eq_true.1 (h e he) _ (List.getElem_mem _)) n
theorem MC{s l l':St}(hs:nQ s.length s)(hu:UpL (s++l) (s++l') l l')(hl:ScL (s++l').length l'):JJ (s++l) (s++l'):=by
 refine⟨by simp;exact hu.len,fun o ob' h=>?_,fun o ob' h=>?_⟩
 ·rcases Nat.lt_or_ge o s.length with ho|ho
  ·rw[List.getElem?_append_left ho]at h
   exact⟨ob',by rw[List.getElem?_append_left ho];exact h,.same _⟩
  ·rw[List.getElem?_append_right ho]at h
   obtain⟨ob,h1,h2⟩:=hu.get _ _ h
   exact⟨ob,by rw[List.getElem?_append_right ho];exact h1,h2⟩
 ·rcases Nat.lt_or_ge o s.length with ho|ho
  ·rw[List.getElem?_append_left ho]at h
   exact Ob.wI (by simp) (hs o ob' h)
  ·rw[List.getElem?_append_right ho]at h
   exact hl.get _ _ h
theorem Bt{s l:St}(hs:nQ s.length s):JJ (s++l) s:=by
 have:=MC (l:=l) (l':=[]) hs (.nil l) trivial
 rwa[List.append_nil]at this
theorem wJ{s:St}(hs:nQ s.length s):JJ s s:=by
 have:=Bt (l:=[]) hs
 rwa[List.append_nil]at this
section
variable {P:Program} {gl:Gl} {N n0:Nat} {keep:List Nat} {Q:AQ} {fr:Fr} {st:St} {c:Code} {w:World} {μ:Mu} {T:St}
theorem GA.refl(st:St):GA st st:=⟨Nat.le_refl _,fun o ob h=>⟨ob,h,by cases ob<;>simp[Ph]⟩⟩
theorem Spec.up{f:FuncId}{args args':List D}{R:D→St→Prop}(h:Spec P gl f args' st R)(hu:Ups st st args args')(hsc:D.scs st.length args'):Spec P gl f args st R:=
 ⟨h.1,fun w μ vs h1 h2 h3 h4=>h.2 w μ vs h1 h2 (h3.trans hu.len.symm) fun j hj=>VR.up h1 (GA.refl st) (hu.get j (by rw[←hu.len];exact hj) hj) (h4 j (by rw[←hu.len];exact hj)) (fq hsc j hj)⟩
theorem Pure.up{f:FuncId}{args args':List D}{r:D}(h:Pure P gl f args' r)(hu:∀st,Ups st st args args')(hi:args'.all D.imm=true∨∀n,D.scs n args'):Pure P gl f args r:=fun st=>
 (h st).up (hu st) (hi.elim (fun hi=>rS fun j _=>HV (List.all_eq_true.1 hi _ (List.getElem_mem _)) _) (fun h=>h _))
theorem Pn(hs:Sim w μ st)(n b:Nat):
 Sim w (upd μ st.length none) (st++[some (.arr 0 n b [])])∧Step w μ st w (upd μ st.length none) (st++[some (.arr 0 n b [])]):=by
 have look:∀o ob,(st++[some (Ob.arr 0 n b [])])[o]? =some (some ob)→(o<st.length∧st[o]? =some (some ob))∨(o=st.length∧ob= .arr 0 n b []):=by
  intro o ob h
  rcases Nat.lt_or_ge o st.length with hl|hl
  ·rw[List.getElem?_append_left hl]at h;exact .inl ⟨hl,h⟩
  ·rw[List.getElem?_append_right hl]at h
   have:o-st.length=0:=by
    rcases Nat.eq_zero_or_pos (o-st.length)with h0|h0
    ·exact h0
    ·rw[List.getElem?_eq_none (by simp;omega)]at h;cases h
   rw[this]at h
   simp at h
   exact .inr ⟨by omega,h.symm⟩
 have step:Step w μ st w (upd μ st.length none) (st++[some (.arr 0 n b [])]):=by
  refine⟨Nat.le_refl _,rfl,rfl,rfl,fun _ _ _=>rfl,fun blk hw=>?_,by simp,fun o ob hl h=>?_⟩
  ·obtain⟨o,ob,base,h,hm⟩:=hw
   rcases look o ob h with⟨hl,h⟩|⟨e,_⟩
   ·rw[cB μ _ _ (by omega)]at hm;exact .inl ⟨o,ob,base,h,hm⟩
   ·subst e;rw[L4]at hm;cases hm
  ·rw[List.getElem?_append_left hl]at h
   refine⟨ob,h,?_⟩
   rw[cB μ _ _ (by omega)]
   exact gy.refl _ _ _
 refine⟨⟨fun o ob h=>?_,fun o1 o2 ob1 ob2 blk b1 b2 h1 h2 m1 m2=>?_⟩,step⟩
 ·rcases look o ob h with⟨hl,h⟩|⟨e,e2⟩
  ·rw[cB μ _ _ (by omega)]
   exact(hs.obj o ob h).step step (fun _ _ _=>rfl)
  ·subst e;subst e2
   exact(⟨by simp[top],fun e he=>(by cases he),.inl ⟨L4 _ _ _,rfl⟩⟩:tw w _ _ _ n b [])
 ·rcases look o1 ob1 h1 with⟨l1,h1⟩|⟨e,_⟩
  ·rcases look o2 ob2 h2 with⟨l2,h2⟩|⟨e,_⟩
   ·rw[cB μ _ _ (by omega)]at m1 m2
    exact hs.inj _ _ _ _ _ _ _ h1 h2 m1 m2
   ·subst e;rw[L4]at m2;cases m2
  ·subst e;rw[L4]at m1;cases m1
theorem cY(n b:Nat)(h:AWp P gl N n0 keep c Q fr (st++[some (.arr 0 n b [])])):AWp P gl N n0 keep c Q fr st:=
 fun w0 μ0 st0 hl0 a w ⟨_,hc⟩=>h w0 μ0 st0 hl0 a w (let ⟨k1,k2⟩:=Pn hc.sim n b;⟨_,k1,hc.glob.step k2,hc.fr.step k2,hc.size,hc.defers,hc.step.trans k2⟩)
theorem nT{s l:St}{d d':D}{R:D→St→Prop}(hsc:nQ s.length s)(hu:Up (s++l) s d d')(hd:D.sc s.length d')(h:R d' s):fin s.length R d (s++l):=
 ⟨s,d',Nat.le_refl _,Bt hsc,hu,hd,h⟩
end
theorem iC{s t:St}{k:Nat}:(s++t)[s.length+k]? =t[k]? :=by
 rw[List.getElem?_append_right (by omega)];congr 1;omega
theorem uX{s:St}{k:Nat}:look s (s.length+k)=none:=by
 unfold look;rw[List.getElem?_eq_none (by omega)];rfl
attribute [go_sem] Rg
section
variable {P:Program} {gl:Gl} {N n0:Nat} {keep:List Nat} {Q:AQ} {fr:Fr} {st:St}
theorem HW{w:World}{t e:TypeId}(hu:P.underlying t=some (.slice e))(a:Option Addr)(l c:Nat)(ox oy:Operand):
 (do eqGuard .eql t ox oy (.slice a l c) (.slice none 0 0);binOp .eql t (.slice a l c) (.slice none 0 0):Sem Value).run P w= .ok (.bool a.isNone) w:=by
 have h1:(eqGuard .eql t ox oy (.slice a l c) (.slice none 0 0)).run P w= .ok () w:=by unfold eqGuard;simp
 have h2':∀d,(Op.equalIn (d+1) t (.slice a l c) (.slice none 0 0)).run P w= .ok a.isNone w:=fun d=>by
  cases a<;>simp[Op.equalIn,run_underlying hu]
 have h2:(Op.equalIn 10000 t (.slice a l c) (.slice none 0 0)).run P w= .ok a.isNone w:=h2' 9999
 simp only[Sem.run_bind,h1,Result.andThen_ok,binOp,Op.equal,Op.maxDepth,h2]
 rfl
theorem wK{id:Nat}{x a b:Nat}{t:TypeId}{ty1 ty2 ty3:TypeId}{p1 p2:String}{e1 e2:Array Edge}{f:Bool}{n bb:Nat}{es:List (List D)}
 (hx:fr.get x= .sl f n bb es) (hk:∃e,(y6 P t).k= .slice e) (ha:a<N) (hb:b<N)
 (h:∀c:Bool,(c=true→es=[])→Q .normal (Fr.only keep ((fr.put a (.sl f n bb es)).put b (.bool c))) st):
 AWp P gl N n0 keep (.region id #[⟨some a,.move (.tmp x),ty1,p1,e1,none⟩,⟨some b,.binOp .eql t (.tmp a) (.const (.slice none 0 0)) ty3,ty2,p2,e2,none⟩] false) Q fr st:=by
 intro w0 μ0 st0 hl act w ⟨μ,hc⟩
 obtain⟨e,hk⟩:=hk
 have hu:=gN hk
 refine wp_region ?_
 have hr:List.range 2=[0,1]:=rfl
 show wpOps P _ _ (List.range 2) act w
 rw[hr,wpOps_cons]
 obtain⟨nx,v,w',μ',h1,h2,h3⟩:=EC (P:=P) (q:=0) (o:=⟨some a,.move (.tmp x),ty1,p1,e1,none⟩) hc (by simp only[aop,eok,ev,hx,zJ]) ha (fun h=>by cases h)
 have hd:(aop P gl true (.move (.tmp x)) fr (look st) 0).d= .sl f n bb es:=by simp only[aop,ev1,ev,hx,strip]
 have hst:(aop P gl true (.move (.tmp x)) fr (look st) 0).app 0 st=st:=rfl
 simp only[hst,hd]at h3
 have second:wpOps P #[⟨some a,.move (.tmp x),ty1,p1,e1,none⟩,⟨some b,.binOp .eql t (.tmp a) (.const (.slice none 0 0)) ty3,ty2,p2,e2,none⟩] (cq gl N w0 μ0 st0 Q) [1] (act.put (some a) v) w':=by
  rw[wpOps_cons]
  have hva:=h3.fr a
  simp only[Fr.mV,Fr.wv,if_pos]at hva
  have hv:∃ad l c,(act.put (some a) v).tmps.getD a undef= .slice ad l c∧(ad=none→es=[]):=by
   generalize (act.put (some a) v).tmps.getD a undef=u at hva
   cases hva with
   |tr h=>cases h with
    |sl _ _ _ _ ad len cap cv _ _ _ _ _ _ ha' _=>
     refine⟨ad,len,cap,rfl,fun e=>?_⟩
     rcases ha' with h|⟨_,_,h,_⟩
     ·exact h
     ·rw[e]at h;cases h
  obtain⟨ad,l,c,hv1,hv2⟩:=hv
  have hrun:=HW (w:=w') hu ad l c (.tmp a) (.const (.slice none 0 0))
  have hex:(execOp (act.put (some a) v).eval ⟨some b,.binOp .eql t (.tmp a) (.const (.slice none 0 0)) ty3,ty2,p2,e2,none⟩).run P w'= .ok (.value (.bool ad.isNone)) w':=by
   have e1:(act.put (some a) v).eval (.tmp a)= .slice ad l c:=hv1
   have:execOp (act.put (some a) v).eval ⟨some b,.binOp .eql t (.tmp a) (.const (.slice none 0 0)) ty3,ty2,p2,e2,none⟩=
    (do pure (.value (←(do eqGuard .eql t (.tmp a) (.const (.slice none 0 0)) ((act.put (some a) v).eval (.tmp a)) (.slice none 0 0);binOp .eql t ((act.put (some a) v).eval (.tmp a)) (.slice none 0 0):Sem Value)))):=rfl
   rw[this,e1,Sem.run_bind,hrun];rfl
  have FZ:tu gl N w0 μ0 st0 ((fr.put a (.sl f n bb es)).mV (some b) (.bool ad.isNone)) st ((act.put (some a) v).put (some b) (.bool ad.isNone)) w' μ':=
   ⟨h3.sim,h3.glob,h3.fr.put (bQ _ _ _ _) (by rw[h3.size];exact hb),by simp[Act.put,h3.size];exact hc.size,by simpa[Act.put]using h3.defers,h3.step⟩
  simp only[wpOp,List.getElem?_toArray,List.getElem?_cons_succ,List.getElem?_cons_zero,Region.wanted,if_true]
  left
  unfold Oper.wp
  rw[hex]
  exact⟨_,_,h ad.isNone (fun e=>hv2 (by simpa using e)),μ',FZ.sim,FZ.glob,FZ.fr.only keep,FZ.size,FZ.defers,FZ.step⟩
 simp only[wpOp,List.getElem?_toArray,List.getElem?_cons_succ,List.getElem?_cons_zero,Region.wanted,if_true]
 left
 unfold Oper.wp
 rw[h1]
 rcases h2 with rfl|⟨rfl,rfl⟩<;>exact second
end
def wr(k:IntKind)(n:Int):Int:=k.wrap n
def get{α:Type}[Inhabited α](l:List α)(k:Nat):α:=l.getD k default
def chk{α:Type}(p:Prop)[Decidable p](x:Option α):Option α:=if p then x else none
def cW{α β:Type}(a:α)(f:α→Option β):Option β:=f a
def gd{α:Type}(G:Bool)(x:Option α)(d:α):Option α:=bif G then x else some d
inductive Ctl(ρ σ τ:Type) where
 |nxt (s:σ)
 |brk (t:τ)
 |ret (x:ρ)
inductive Ex(ρ τ:Type) where
 |nxt (t:τ)
 |ret (x:ρ)
def C2{ρ τ:Type}(x:Option (Ex ρ τ))(k:τ→Option ρ):Option ρ:=
 match x with
 |none=>none
 |some (.nxt t)=>k t
 |some (.ret r)=>some r
def V2{ρ σ τ:Type}(body:σ→Option (Ctl ρ σ τ)):Nat→σ→Option (Ex ρ τ)
 |0,_=>none
 |n+1,s=>match body s with
  |none=>none
  |some (.nxt s')=>V2 body n s'
  |some (.brk t)=>some (.nxt t)
  |some (.ret x)=>some (.ret x)
def bR{ρ σ:Type}(body:Nat→σ→Option (Ctl ρ σ σ)):Nat→Nat→σ→Option (Ex ρ σ)
 |0,_,s=>some (.nxt s)
 |m+1,k,s=>match body k s with
  |none=>none
  |some (.nxt s')=>bR body m (k+1) s'
  |some (.brk s')=>some (.nxt s')
  |some (.ret x)=>some (.ret x)
def D1{ρ σ:Type}(body:Nat→σ→Option (Ctl ρ σ σ))(n:Nat)(s:σ):Option (Ex ρ σ):=bR body n 0 s
section
variable {α β ρ σ τ:Type}
theorem pe{p:Prop}[Decidable p]{x:Option α}{e:α}(h:chk p x=some e):p∧x=some e:=by
 unfold chk at h
 split at h
 ·rename_i hp;exact⟨hp,h⟩
 ·cases h
theorem gP{p:Prop}[Decidable p]{x:Option α}(hp:p):chk p x=x:=if_pos hp
theorem mO{a:α}{f:α→Option β}{e:β}(h:cW a f=some e):∃y,y=a∧f y=some e:=⟨a,rfl,h⟩
theorem E4{x:Option α}{f:α→Option β}{e:β}(h:x.bind f=some e):∃v,x=some v∧f v=some e:=Option.bind_eq_some_iff.1 h
theorem rZ{c:Bool}{a b:Option α}{e:α}(h:(bif c then a else b)=some e)(hc:c=true):a=some e:=by subst hc;exact h
theorem sj{c:Bool}{a b:Option α}{e:α}(h:(bif c then a else b)=some e)(hc:c=false):b=some e:=by subst hc;exact h
theorem kh{G:Bool}{x:Option α}{d v:α}(h:gd G x d=some v)(hG:G=true):x=some v:=by subst hG;exact h
end
def rows{α:Type}(E:α→List D)(l:List α):List (List D):=l.map E
class dN{α:Type}(E:α→List D)(n:outParam Nat):Prop where
 len:∀x,(E x).length=n
 one:∀x,(E x).all D.one=true
 imm:∀x,(E x).all D.imm=true
def bytesOf(s:Bs):List Int:=s.map fun c=>(c.toNat:Int)
def N3(x:Int):List D:=[.int .i64 x]
def bP(x:Int):List D:=[.int .u64 x]
def Rh(x:Int):List D:=[.int .i32 x]
def u8c(x:Int):List D:=[.int .u8 x]
def D6(x:Bool):List D:=[.bool x]
def Lu(x:Bs):List D:=[.str x]
def slc{α:Type}(n b:Nat)(E:α→List D)(x:List α):List D:=[.sl false n b (rows E x)]
instance:dN N3 1:=⟨fun _=>rfl,fun _=>rfl,fun _=>rfl⟩
instance:dN bP 1:=⟨fun _=>rfl,fun _=>rfl,fun _=>rfl⟩
instance:dN Rh 1:=⟨fun _=>rfl,fun _=>rfl,fun _=>rfl⟩
instance:dN u8c 1:=⟨fun _=>rfl,fun _=>rfl,fun _=>rfl⟩
instance:dN D6 1:=⟨fun _=>rfl,fun _=>rfl,fun _=>rfl⟩
instance:dN Lu 1:=⟨fun _=>rfl,fun _=>rfl,fun _=>rfl⟩
instance{α:Type}{n b:Nat}{E:α→List D}:dN (slc n b E) 1:=⟨fun _=>rfl,fun _=>rfl,fun _=>rfl⟩
section
variable {α:Type} {E:α→List D} {n:Nat}
theorem zV(l:List α):(rows E l).length=l.length:=by simp[rows]
theorem EP:rows E []=[]:=rfl
theorem HX(x:α)(l:List α):rows E (x::l)=E x::rows E l:=rfl
theorem N9(l m:List α):rows E l++rows E m=rows E (l++m):=by simp[rows]
theorem HY(l:List α)(x:α):rows E l++[E x]=rows E (l++[x]):=by simp[rows]
theorem Po(l:List α)(k:Nat):(rows E l).take k=rows E (l.take k):=by simp[rows,List.map_take]
theorem Pp(l:List α)(k:Nat):(rows E l).drop k=rows E (l.drop k):=by simp[rows,List.map_drop]
theorem ER(l:List α)(k:Nat)(x:α):(rows E l).set k (E x)=rows E (l.set k x):=by simp[rows]
theorem sk(m:Nat)(x:α):List.replicate m (E x)=rows E (List.replicate m x):=by simp[rows]
theorem Pq(l:List α):l.take l.length=l:=List.take_length
theorem H8[Inhabited α](l:List α)(k:Nat):(rows E l).getD k (E default)=E (get l k):=by
 simp only[rows,List.getD_eq_getElem?_getD,get,List.getElem?_map]
 cases l[k]? <;>rfl
theorem oP[Inhabited α]{l:List α}{k:Nat}{d:List D}(h:k<l.length):(rows E l).getD k d=E (get l k):=by
 simp[rows,get,h]
theorem lQ[h:dN E n](l:List α):Imm (rows E l):=by
 intro e he
 obtain⟨s,_,rfl⟩:=List.mem_map.1 he
 exact h.imm s
theorem Ri[h:dN E n](l:List α)(m:Nat):(∀e∈rows E l,D.scs m e)=True:=eq_true (Imm.sc (lQ l) m)
theorem RS(x:Int):N3 x=[.int .i64 x]:=rfl
theorem RT(x:Int):bP x=[.int .u64 x]:=rfl
theorem RU(x:Int):Rh x=[.int .i32 x]:=rfl
theorem Ti(x:Int):u8c x=[.int .u8 x]:=rfl
theorem Rj(x:Bool):D6 x=[.bool x]:=rfl
theorem RV(x:Bs):Lu x=[.str x]:=rfl
theorem Tj{a b:Nat}(x:List α):slc a b E x=[.sl false a b (rows E x)]:=rfl
theorem MD(l:List Int)(k:Nat):(rows N3 l).getD k [.int .i64 0]=[.int .i64 (get l k)]:=H8 (E:=N3) l k
theorem RW(l:List Int)(k:Nat):(rows bP l).getD k [.int .u64 0]=[.int .u64 (get l k)]:=H8 (E:=bP) l k
theorem RX(l:List Int)(k:Nat):(rows Rh l).getD k [.int .i32 0]=[.int .i32 (get l k)]:=H8 (E:=Rh) l k
theorem Tl(l:List Int)(k:Nat):(rows u8c l).getD k [.int .u8 0]=[.int .u8 (get l k)]:=H8 (E:=u8c) l k
theorem Rk(l:List Bool)(k:Nat):(rows D6 l).getD k [.bool false]=[.bool (get l k)]:=H8 (E:=D6) l k
theorem RY(l:List Bs)(k:Nat):(rows Lu l).getD k [.str []]=[.str (get l k)]:=H8 (E:=Lu) l k
theorem Tm{a b:Nat}(l:List (List α))(k:Nat):(rows (slc a b E) l).getD k [.sl false a b []]=[.sl false a b (rows E (get l k))]:=H8 (E:=slc a b E) l k
end
theorem Lv(s:Bs):iF s=rows u8c (bytesOf s):=by simp[iF,rows,bytesOf,u8c]
def mrw{κ α:Type}(E:α→List D)(m:List (κ×α)):List (κ×List D):=m.map fun p=>(p.1,E p.2)
theorem RZ{κ α:Type}{E:α→List D}(m:List (κ×α)):(mrw E m).length=m.length:=by simp[mrw]
theorem Pr{κ α:Type}[DecidableEq κ]{E:α→List D}(k:κ)(m:List (κ×α)):assoc k (mrw E m)=(assoc k m).map E:=by
 induction m with
 |nil=>rfl
 |cons p m ih=>
  obtain⟨a,v⟩:=p
  simp only[mrw,List.map_cons,assoc]at ih⊢
  split
  ·rfl
  ·exact ih
theorem DH{κ α:Type}[DecidableEq κ]{E:α→List D}(k:κ)(v:α)(m:List (κ×α)):L5 k (E v) (mrw E m)=mrw E (L5 k v m):=by
 induction m with
 |nil=>rfl
 |cons p m ih=>
  obtain⟨a,u⟩:=p
  simp only[mrw,List.map_cons,L5]at ih⊢
  split
  ·rfl
  ·simp only[List.map_cons];rw[ih]
theorem ME{a b:Nat}{z dd:List D}{o:Option Int}:tA ⟨a,b,z,dd,some (.int .i64 0),.int .i64⟩ (o.map N3)= .int .i64 (o.getD default):=by cases o<;>rfl
theorem Lw{a b:Nat}{z dd:List D}{o:Option Bool}:tA ⟨a,b,z,dd,some (.bool false),.bool⟩ (o.map D6)= .bool (o.getD default):=by cases o<;>rfl
theorem MF{a b:Nat}{z dd:List D}{o:Option Bs}:tA ⟨a,b,z,dd,some (.str []),.str⟩ (o.map Lu)= .str (o.getD default):=by cases o<;>rfl
theorem Sb{κ α:Type}{E:α→List D}{n:Nat}[h:dN E n](l:List (κ×α))(m:Nat):(∀(a:κ) (b:List D),(a,b)∈mrw E l→D.scs m b)=True:=by
 refine eq_true fun a b hb=>?_
 obtain⟨⟨x,y⟩,h1,h2⟩:=List.mem_map.1 hb
 cases h2
 exact rS fun j hj=>HV (List.all_eq_true.1 (h.imm y) _ (List.getElem_mem _)) m
theorem nU{st T:St}{d d':D}(h:d=d'):Up st T d d':=h▸ .same _
section
variable {P:Program} {gl:Gl} {N n0:Nat} {keep:List Nat} {Q:AQ} {fr:Fr} {st:St}
theorem jC{c:Code}(h:AWp P gl N n0 keep c Q fr st):AWp P gl N n0 keep (.scope c) Q fr st:=
 fun w0 μ0 st0 hl a w hc=>wp_scope_straight (wp_mono (h w0 μ0 st0 hl a w hc) fun e a' w' hq=>by
  cases e<;>exact hq)
theorem jD{l:Nat}(h:Q .normal fr st):AWp P gl N n0 keep (.label l) Q fr st:=
 fun w0 μ0 st0 hl a w hc=>wp_label ⟨fr,st,h,hc⟩
end
def gA{α:Type}(E:α→List D)(l:List α):List D:=(rows E l).flatten
theorem wL{α:Type}[Inhabited α]{E:α→List D}{l:List α}{k n:Nat}(hn:∀a,(E a).length=n)(hk:k<l.length):rowAt (gA E l) k n=E (get l k):=by
 induction l generalizing k with
 |nil=>cases hk
 |cons a l ih=>
  have e:gA E (a::l)=E a++gA E l:=by simp[gA,rows]
  rw[e]
  cases k with
  |zero=>simp only[rowAt,Nat.zero_mul,List.drop_zero];rw[←hn a,List.take_left];rfl
  |succ k=>
   have h2:rowAt (E a++gA E l) (k+1) n=rowAt (gA E l) k n:=by
    simp only[rowAt]
    rw[show(k+1)*n=(E a).length+k*n by rw[hn a,Nat.succ_mul,Nat.add_comm], ←List.drop_drop,List.drop_left]
   rw[h2];exact ih (by simpa using hk)
theorem ji{α:Type}{E:α→List D}{st T:St}{x ys:List α}{es:List (List D)}(h:kS st T es (rows E ys)):kS st T (rows E x++es) (rows E (x++ys)):=by
 rw[show rows E (x++ys)=rows E x++rows E ys by simp[rows]]
 induction x with
 |nil=>exact h
 |cons a x ih=>exact .cons _ _ _ _ (Ups.refl _) ih
theorem Kx{α:Type}(l:List α)(k:Nat):(l.drop k).take (l.length-k)=l.drop k:=List.take_of_length_le (by rw[List.length_drop];exact Nat.le_refl _)
theorem Pt{st:St}(a b:Nat):st.length+a+b=st.length+(a+b):=Nat.add_assoc _ _ _
theorem Pu{G:Bool}:cX G True=True:=by simp[cX]
theorem Rl{G:Bool}{p q:Prop}:cX G (p∧q)=(cX G p∧cX G q):=by unfold cX;exact propext ⟨fun h=>⟨fun e=>(h e).1,fun e=>(h e).2⟩,fun h e=>⟨h.1 e,h.2 e⟩⟩
instance{G:Bool}{p:Prop}[Decidable p]:Decidable (cX G p):=by unfold cX;exact inferInstance
instance{k:IntKind}{n:Int}:Decidable (InK k n):=by unfold InK;exact inferInstance
theorem Rm(k:IntKind)(n:Int):arith k n=⟨.int k (wr k n),True,[],none,none⟩:=rfl
theorem Sc(k:IntKind)(n:Int):k.wrap n=wr k n:=rfl
theorem G3{n:Int}(h1: -9223372036854775808≤n)(h2:n≤9223372036854775807):wr .i64 n=n:=by
 unfold wr
 exact zF (k:=.i64) ⟨h1,h2⟩
theorem wM{k n:Nat}(hk:k<n)(h:n≤9223372036854775807):wr .i64 ((k:Int)+1)=((k+1:Nat):Int):=by
 rw[G3 (by omega) (by omega)];omega
theorem uJ{k:Nat}(h:k<9223372036854775807):wr .i64 ((k:Int)+1)=((k+1:Nat):Int):=wM (n:=k+1) (by omega) (by omega)
section
variable {P:Program} {gl:Gl} {N n0:Nat} {keep:List Nat} {Q:AQ} {fr:Fr} {st:St} {c x:Code} {id:Nat}
inductive BkS(n0:Nat)(F:Fr)(T:St):Fr→St→Prop
 |nil:BkS n0 F T F T
 |cons {F' fr:Fr} {T' st:St} (h:Bk n0 F' T' fr st) (ht:BkS n0 F T F' T'):BkS n0 F T fr st
theorem BkS.one{F:Fr}{T:St}(h:Bk n0 F T fr st):BkS n0 F T fr st:=.cons h .nil
theorem BkS.trans{F F':Fr}{T T':St}(h:BkS n0 F' T' fr st)(h2:BkS n0 F T F' T'):BkS n0 F T fr st:=by
 induction h with
 |nil=>exact h2
 |cons h _ ih=>exact .cons h ih
theorem K6{F:Fr}{T:St}(hb:BkS n0 F T fr st)(h:AWp P gl N n0 keep c Q F T):AWp P gl N n0 keep c Q fr st:=by
 induction hb with
 |nil=>exact h
 |cons hb _ ih=>exact Pk hb ih
theorem jL{s l l':St}{F:Fr}(hsc:nQ s.length s)(hu:UpL (s++l) (s++l') l l')(hl:ScL (s++l').length l')(hf:vF (s++l) (s++l') fr F)(hs:Fr.sc (s++l').length F):
 BkS s.length F (s++l') fr (s++l):=.one ⟨by simp,MC hsc hu hl,hf,hs⟩
theorem DI{s l:St}{F:Fr}(hsc:nQ s.length s)(hf:vF (s++l) s fr F)(hs:Fr.sc s.length F):BkS s.length F s fr (s++l):=.one ⟨Nat.le_refl _,Bt hsc,hf,hs⟩
theorem Ky{s:St}{F:Fr}(hsc:nQ s.length s)(hf:vF s s fr F)(hs:Fr.sc s.length F):BkS s.length F s fr s:=.one ⟨Nat.le_refl _,wJ hsc,hf,hs⟩
theorem lY{s t:St}:(s++t)[s.length]? =t[0]? :=iC (k:=0)
theorem nj{s:St}:look s s.length=none:=uX (k:=0)
theorem cD{s t:St}{k:Nat}(h:t.length≤k):look (s++t) (s.length+k)=none:=by
 unfold look;rw[List.getElem?_eq_none (by simp;omega)];rfl
theorem pq{s:St}{d d':D}{R:D→St→Prop}(hsc:nQ s.length s)(hu:Up s s d d')(hd:D.sc s.length d')(h:R d' s):fin s.length R d s:=
 ⟨s,d',Nat.le_refl _,wJ hsc,hu,hd,h⟩
def Rn(P:Program)(rs:List ResultVar)(n0:Nat)(R:D→St→Prop):AQ
 | .exit _,_,_=>False
 | _,fr,st=>∃F T,BkS n0 F T fr st∧NU P F T rs∧fin n0 R (rsD P F T rs) T
theorem JK{rs:List ResultVar}{R:D→St→Prop}(h:Rg P rs n0 R .ret fr st):Rn P rs n0 R .ret fr st:=⟨fr,st,.nil,h.1,h.2⟩
theorem ES{rs:List ResultVar}{R:D→St→Prop}(h:Rg P rs n0 R .ret fr st):Rn P rs n0 R .normal fr st:=⟨fr,st,.nil,h.1,h.2⟩
theorem Bc.bks{w0:World}{μ0:Mu}{st0:St}{a:Act}{w:World}{F:Fr}{T:St}(hl0:st0.length=n0)(hb:BkS n0 F T fr st)(h:Bc gl N w0 μ0 st0 fr st a w):Bc gl N w0 μ0 st0 F T a w:=by
 induction hb with
 |nil=>exact h
 |cons hb _ ih=>
  obtain⟨μ,hc⟩:=h
  exact ih ⟨μ,hc.sim.wk hb.wk,zK hc.glob (fun _ h=>hb.wk.kill.own h),
   fun t=>VR.up hc.sim hb.wk.kill (hb.up.get t) (hc.fr t) (Fr.Hi _ hb.sc t),hc.size,hc.defers,Step.wk (by rw[hl0];exact hb.len) hb.wk hc.step⟩
theorem Od{f:FuncId}{fn:Func}{c:Code}{args:List D}{R:D→St→Prop}{rs:List ResultVar}(keep:List Nat)(hf:P.funcs[f]? =some fn)(hb:fn.body=some c)(hN:fn.ntmps=N)(hr:fn.results.toList=rs)
 (hname:(fn.name != "runtime.NumGoroutine")=true) (hlen:Nat.ble args.length N=true)
 (h:nQ st.length st→AWp P gl N st.length keep c (Rn P rs st.length R) (zM 0 args) st):Spec P gl f args st R:=by
 refine MB keep hf hb hN hr hname hlen fun hsc=>?_
 intro w0 μ0 st0 hl a w hc
 refine wp_mono (h hsc w0 μ0 st0 hl a w hc) fun e a' w' hq=>?_
 cases e with
 |normal=>
  obtain⟨fr',st',⟨F,T,h1,h2,h3⟩,h4⟩:=hq
  exact⟨F,T,⟨h2,h3⟩,h4.bks hl h1⟩
 |ret=>
  obtain⟨fr',st',⟨F,T,h1,h2,h3⟩,h4⟩:=hq
  exact⟨F,T,⟨h2,h3⟩,h4.bks hl h1⟩
 |exit id=>obtain⟨fr',st',h1,h2⟩:=hq;exact h1.elim
 |goto=>exact hq.elim
 |panic=>exact hq.elim
 |outgrown=>exact hq.elim
theorem nk{σ Γ ρ:Type}(K:σ→Option ρ)(e:ρ)(F:Γ→σ→Fr)(T:Γ→σ→St)(hk:∀γ s fr st,K s=some e→BkS n0 (F γ s) (T γ s) fr st→Q .normal fr st)
 (hx:(∀γ s fr st,K s=some e→BkS n0 (F γ s) (T γ s) fr st→Q .normal fr st)→AWp P gl N n0 keep x Q fr st):AWp P gl N n0 keep x Q fr st:=hx hk
def PBr{Γ ρ σ:Type}(n0 id:Nat)(F:Γ→Nat→σ→Fr)(T:Γ→Nat→σ→St)(Fb:Γ→σ→Fr)(Tb:Γ→σ→St)(Q:AQ)(k:Nat):Ctl ρ σ σ→AQ
 | .nxt s=>fun ex fr st=>ex= .normal∧∃γ,BkS n0 (F γ (k+1) s) (T γ (k+1) s) fr st
 | .brk s=>fun ex fr st=>ex= .exit id∧∃γ,BkS n0 (Fb γ s) (Tb γ s) fr st
 | .ret _=>fun ex fr st=>ex≠ .normal∧AQ.block id Q ex fr st
theorem arg_{Γ ρ σ:Type}{body:Nat→σ→Option (Ctl ρ σ σ)}{n:Nat}{s0:σ}{kk:σ→Option ρ}{e:ρ}(F:Γ→Nat→σ→Fr)(T:Γ→Nat→σ→St)(Fb:Γ→σ→Fr)(Tb:Γ→σ→St)(γ0:Γ)
 (h:C2 (D1 body n s0) kk=some e)
 (h0:BkS n0 (F γ0 0 s0) (T γ0 0 s0) fr st)
 (hs:∀γ k s b,k<n→body k s=some b→(∀x,b= .ret x→x=e)→AWp P gl N n0 keep c (PBr n0 id F T Fb Tb Q k b) (F γ k s) (T γ k s))
 (he:∀γ s,AWp P gl N n0 keep c (fun ex fr st=>ex= .exit id∧∃γ',BkS n0 (Fb γ' s) (Tb γ' s) fr st) (F γ n s) (T γ n s))
 (hk:∀γ s fr st,kk s=some e→BkS n0 (Fb γ s) (Tb γ s) fr st→Q .normal fr st):
 AWp P gl N n0 keep (.block id (.loop c)) Q fr st:=by
 refine yQ (K6 h0 ?_)
 unfold D1 at h
 have key:∀m k s γ,k+m=n→C2 (bR body m k s) kk=some e→AWp P gl N n0 keep (.loop c) (AQ.block id Q) (F γ k s) (T γ k s):=by
  intro m
  induction m with
  |zero=>
   intro k s γ hk' h1
   have:k=n:=by omega
   subst this
   refine rT (rU (he γ s) fun ex fr st hq=>?_)
   obtain⟨rfl,γ',hb⟩:=hq
   show AQ.block id Q (.exit id) fr st
   simp only[AQ.block,if_true]
   exact hk γ' s fr st h1 hb
  |succ m ih=>
   intro k s γ hk' h
   simp only[bR]at h
   cases hb:body k s with
   |none=>rw[hb]at h;cases h
   |some b=>
    rw[hb]at h
    refine rT (rU (hs γ k s b (by omega) hb ?_) fun ex fr st hq=>?_)
    ·intro x hx
     subst hx
     cases h;rfl
    ·cases b with
     |nxt s'=>
      obtain⟨rfl,γ',hb'⟩:=hq
      exact K6 hb' (ih (k+1) s' γ' (by omega) h)
     |brk s'=>
      obtain⟨rfl,γ',hb'⟩:=hq
      show AQ.block id Q (.exit id) fr st
      simp only[AQ.block,if_true]
      exact hk γ' s' fr st h hb'
     |ret x=>
      obtain⟨h1,h2⟩:=hq
      cases ex with
      |normal=>exact absurd rfl h1
      | _=>exact h2
 exact key n 0 s0 γ0 (by omega) h
def PBw{Γ Δ ρ σ τ:Type}(n0 id:Nat)(F:Γ→σ→Fr)(T:Γ→σ→St)(Fb:Δ→τ→Fr)(Tb:Δ→τ→St)(Q:AQ):Ctl ρ σ τ→AQ
 | .nxt s=>fun ex fr st=>ex= .normal∧∃γ,BkS n0 (F γ s) (T γ s) fr st
 | .brk s=>fun ex fr st=>ex= .exit id∧∃γ,BkS n0 (Fb γ s) (Tb γ s) fr st
 | .ret _=>fun ex fr st=>ex≠ .normal∧AQ.block id Q ex fr st
theorem H9{Γ Δ ρ σ τ:Type}{body:σ→Option (Ctl ρ σ τ)}{n:Nat}{s0:σ}{kk:τ→Option ρ}{e:ρ}(F:Γ→σ→Fr)(T:Γ→σ→St)(Fb:Δ→τ→Fr)(Tb:Δ→τ→St)(γ0:Γ)
 (h:C2 (V2 body n s0) kk=some e)
 (h0:BkS n0 (F γ0 s0) (T γ0 s0) fr st)
 (hs:∀γ s b,body s=some b→(∀x,b= .ret x→x=e)→AWp P gl N n0 keep c (PBw n0 id F T Fb Tb Q b) (F γ s) (T γ s))
 (hk:∀γ s fr st,kk s=some e→BkS n0 (Fb γ s) (Tb γ s) fr st→Q .normal fr st):
 AWp P gl N n0 keep (.block id (.loop c)) Q fr st:=by
 refine yQ (K6 h0 ?_)
 have key:∀m s γ,C2 (V2 body m s) kk=some e→AWp P gl N n0 keep (.loop c) (AQ.block id Q) (F γ s) (T γ s):=by
  intro m
  induction m with
  |zero=>intro s γ h;cases h
  |succ m ih=>
   intro s γ h
   simp only[V2]at h
   cases hb:body s with
   |none=>rw[hb]at h;cases h
   |some b=>
    rw[hb]at h
    refine rT (rU (hs γ s b hb ?_) fun ex fr st hq=>?_)
    ·intro x hx
     subst hx
     cases h;rfl
    ·cases b with
     |nxt s'=>
      obtain⟨rfl,γ',hb'⟩:=hq
      exact K6 hb' (ih s' γ' h)
     |brk s'=>
      obtain⟨rfl,γ',hb'⟩:=hq
      show AQ.block id Q (.exit id) fr st
      simp only[AQ.block,if_true]
      exact hk γ' s' fr st h hb'
     |ret x=>
      obtain⟨h1,h2⟩:=hq
      cases ex with
      |normal=>exact absurd rfl h1
      | _=>exact h2
 exact key n s0 γ0 h
section
variable {Γ Δ ρ σ τ:Type} {F:Γ→σ→Fr} {T:Γ→σ→St} {Fb:Δ→τ→Fr} {Tb:Δ→τ→St} {Fk:Γ→Nat→σ→Fr} {Tk:Γ→Nat→σ→St} {Fc:Γ→σ→Fr} {Tc:Γ→σ→St} {k:Nat} {ex:Kd}
theorem aT{s:σ}(γ:Γ)(h:BkS n0 (Fk γ (k+1) s) (Tk γ (k+1) s) fr st):PBr (ρ:=ρ) n0 id Fk Tk Fc Tc Q k (.nxt s) .normal fr st:=⟨rfl,γ,h⟩
theorem D4{x:ρ}(h:AQ.block id Q .ret fr st):PBr n0 id Fk Tk Fc Tc Q k (.ret x) .ret fr st:=⟨Kd.noConfusion,h⟩
theorem I6{s:σ}(γ:Γ)(h:BkS n0 (F γ s) (T γ s) fr st):PBw (ρ:=ρ) n0 id F T Fb Tb Q (.nxt s) .normal fr st:=⟨rfl,γ,h⟩
theorem T2{s:τ}(γ:Δ)(h:BkS n0 (Fb γ s) (Tb γ s) fr st):PBw (ρ:=ρ) n0 id F T Fb Tb Q (.brk s) (.exit id) fr st:=⟨rfl,γ,h⟩
theorem ep{x:ρ}(h:AQ.block id Q .ret fr st):PBw n0 id F T Fb Tb Q (.ret x) .ret fr st:=⟨Kd.noConfusion,h⟩
end
end
attribute [simp] Sb ScL Ob.sc D.sc D.scs Fr.sc Ri
attribute [go_sem] Lv or_true Int.cast_ofNat_Int RS RT RU Ti Rj RV Tj Int.reduceEq Int.reduceNe Nat.zero_le true_or List.length_replicate Option.mem_def Option.map_some Option.map_none false_implies forall_eq' Option.isSome_none Option.some.injEq Pt Int.le_refl decide_true decide_false RZ Pr ME Lw MF Po Pp Kx Sc IntKind.bits Option.isSome_map List.drop_zero Int.toNat_zero Int.reduceToNat Int.reduceNeg Int.reduceLT Int.reduceLE Nat.reducePow Rm Pu Rl Option.isSome_some zV Pq MD RW RX Tl Rk RY Tm Int.toNat_natCast Nat.zero_add Nat.sub_zero Nat.le_refl Int.natCast_nonneg Int.ofNat_lt reduceCtorEq
 Nat.reduceAdd Nat.reduceEqDiff Nat.reduceLT Nat.reduceLeDiff Nat.reduceMul Nat.reduceSub Nat.reduceBEq Nat.reduceBNe reduceIte
def Z4(st:St):List (Nat×Ob)→St
 | []=>st
 |(o,x)::m=>(Z4 st m).set o (some x)
def DJ:List (Nat×Ob)→Nat→Option Ob→Option Ob
 | [],_,d=>d
 |(a,x)::m,o,d=>if o=a then some x else DJ m o d
def MG:List (Nat×Ob)→Nat→Ob→List (Nat×Ob)
 | [],o,x=>[(o,x)]
 |(a,y)::m,o,x=>if o=a then(a,x)::m else(a,y)::MG m o x
theorem kj(st:St):∀m:List (Nat×Ob),(Z4 st m).length=st.length
 | []=>rfl
 |(o,x)::m=>by simp[Z4,kj st m]
theorem Sd{st l:St}{o:Nat}(ho:o<st.length):∀m:List (Nat×Ob),look (Z4 st m++l) o=DJ m o (look st o)
 | []=>by
  simp only[Z4,DJ]
  unfold look
  rw[List.getElem?_append_left ho]
 |(a,x)::m=>by
  have ih:=Sd (l:=l) ho m
  have hl:=kj st m
  simp only[Z4,DJ]
  unfold look at ih⊢
  rw[List.getElem?_append_left (by simp[hl];exact ho)]
  rw[List.getElem?_append_left (by rw[hl];exact ho)]at ih
  rw[List.getElem?_set]
  by_cases e:o=a
  ·subst e;rw[if_pos rfl,if_pos (by rw[hl];exact ho),if_pos rfl];rfl
  ·rw[if_neg (fun h=>e h.symm),if_neg e];exact ih
theorem Se{st:St}{o:Nat}(ho:o<st.length)(m:List (Nat×Ob)):look (Z4 st m) o=DJ m o (look st o):=by
 have:=Sd (l:=[]) ho m
 rwa[List.append_nil]at this
theorem br{st l:St}{m:List (Nat×Ob)}{k:Nat}:look (Z4 st m++l) (st.length+k)=look l k:=by
 rw[←kj st m];exact cV
theorem MH{st l:St}{m:List (Nat×Ob)}:look (Z4 st m++l) st.length=look l 0:=br (k:=0)
theorem Sf{st l:St}{o:Nat}{x:Ob}(ho:o<st.length):∀m:List (Nat×Ob),(Z4 st m++l).set o (some x)=Z4 st (MG m o x)++l
 | []=>by simp only[MG,Z4];rw[List.set_append_left _ _ ho]
 |(a,y)::m=>by
  have ih:=Sf (l:=l) (x:=x) ho m
  have hl:=kj st m
  simp only[Z4,MG]
  rw[List.set_append_left _ _ (by simp[hl];exact ho)]
  rw[List.set_append_left _ _ (by rw[hl];exact ho)]at ih
  have ih':=List.append_cancel_right ih
  split
  ·rename_i e;subst e
   simp[Z4,List.set_set]
  ·rename_i e
   simp only[Z4]
   rw[List.set_comm _ _ (fun h=>e h.symm),ih']
theorem Sg{st:St}{o:Nat}{x:Ob}(ho:o<st.length)(m:List (Nat×Ob)):(Z4 st m).set o (some x)=Z4 st (MG m o x):=by
 have:=Sf (l:=[]) (x:=x) ho m
 rwa[List.append_nil,List.append_nil]at this
theorem HZ{st l:St}{m:List (Nat×Ob)}{k:Nat}{x:Option Ob}:(Z4 st m++l).set (st.length+k) x=Z4 st m++l.set k x:=by
 rw[←kj st m];exact Hu
theorem Oe{st l:St}{m:List (Nat×Ob)}{x:Option Ob}:(Z4 st m++l).set st.length x=Z4 st m++l.set 0 x:=HZ (k:=0)
theorem Bu{st l:St}{m:List (Nat×Ob)}{k:Nat}:(Z4 st m++l)[st.length+k]? =l[k]? :=by
 rw[←kj st m];exact iC
theorem qp{st l:St}{m:List (Nat×Ob)}:(Z4 st m++l)[st.length]? =l[0]? :=Bu (k:=0)
theorem Pv{st l:St}{m:List (Nat×Ob)}:(Z4 st m++l).length=st.length+l.length:=by rw[List.length_append,kj]
theorem N6{st:St}:∀ {m:List (Nat×Ob)},(∀p∈m,look st p.1=some p.2)→Z4 st m=st
 | [],_=>rfl
 |(o,x)::m,h=>by
  simp only[Z4]
  rw[N6 (fun p hp=>h p (List.mem_cons_of_mem _ hp))]
  have:=P3 (h (o,x) (List.mem_cons_self ..))
  apply List.ext_getElem?
  intro i
  rw[List.getElem?_set]
  split
  ·rename_i e;subst e
   have hl:=(List.getElem?_eq_some_iff.1 this).1
   rw[if_pos hl,this]
  ·rfl
theorem cE{st:St}{o:Nat}{x:Ob}(h:look st o=some x):o<st.length:=(List.getElem?_eq_some_iff.1 (P3 h)).1
def scM(n:Nat):List (Nat×Ob)→Prop
 | []=>True
 |(_,x)::m=>x.sc n∧scM n m
theorem pz{st:St}(h:nQ st.length st):∀ {m:List (Nat×Ob)},scM st.length m→nQ (Z4 st m).length (Z4 st m)
 | [],_=>h
 |(o,x)::m,hm=>by
  have ih:=pz h hm.2
  intro o' ob e
  simp only[Z4]at e⊢
  rw[List.length_set]
  rw[List.getElem?_set]at e
  split at e
  ·split at e
   ·cases e;rw[kj];exact hm.1
   ·cases e
  ·exact ih o' ob e
section
variable {P:Program} {gl:Gl} {N n0:Nat} {keep:List Nat} {Q:AQ} {fr:Fr} {st:St} {c:Code}
theorem lZ{s s':St}(e:s'=s)(h:AWp P gl N n0 keep c Q fr s'):AWp P gl N n0 keep c Q fr s:=e▸h
theorem Ia{s l l':St}{F:Fr}(hn:n0≤s.length)(hsc:nQ s.length s)(hu:UpL (s++l) (s++l') l l')(hl:ScL (s++l').length l')(hf:vF (s++l) (s++l') fr F)(hs:Fr.sc (s++l').length F):
 BkS n0 F (s++l') fr (s++l):=.one ⟨by simp;omega,MC hsc hu hl,hf,hs⟩
theorem MI{s l:St}{F:Fr}(hn:n0≤s.length)(hsc:nQ s.length s)(hf:vF (s++l) s fr F)(hs:Fr.sc s.length F):BkS n0 F s fr (s++l):=.one ⟨hn,Bt hsc,hf,hs⟩
theorem Kz{s:St}{F:Fr}(hn:n0≤s.length)(hsc:nQ s.length s)(hf:vF s s fr F)(hs:Fr.sc s.length F):BkS n0 F s fr s:=.one ⟨hn,wJ hsc,hf,hs⟩
theorem KA{s l:St}{d d':D}{R:D→St→Prop}(hn:n0≤s.length)(hsc:nQ s.length s)(hu:Up (s++l) s d d')(hd:D.sc s.length d')(h:R d' s):fin n0 R d (s++l):=
 ⟨s,d',hn,Bt hsc,hu,hd,h⟩
theorem Ib{s:St}{d d':D}{R:D→St→Prop}(hn:n0≤s.length)(hsc:nQ s.length s)(hu:Up s s d d')(hd:D.sc s.length d')(h:R d' s):fin n0 R d s:=
 ⟨s,d',hn,wJ hsc,hu,hd,h⟩
mutual
def D.flat:D→Bool
 | .bool _=>true
 | .int _ _=>true
 | .str _=>true
 | .agg cs=>D.Ga cs
 | .tup cs=>D.Ga cs
 | _=>false
def D.Ga:List D→Bool
 | []=>true
 |d::l=>d.flat&&D.Ga l
end
theorem wN:∀ {l:List D},D.Ga l=true→∀j (h:j<l.length),(l[j]).flat=true
 |d::l,h,0,_=>by simp only[D.Ga,Bool.and_eq_true]at h;exact h.1
 |d::l,h,j+1,hj=>by
  simp only[D.Ga,Bool.and_eq_true]at h
  exact wN (l:=l) h.2 j (by simpa using hj)
theorem VR.flat{w w':World}{μ μ':Mu}{s s':St}{v:Value}{d:D}(h:VR w μ s v d)(hf:d.flat=true):VR w' μ' s' v d:=by
 induction h with
 |any=>cases hf
 |tr h=>
  cases h with
  |bool b=>exact .tr (.bool b)
  |int k n=>exact .tr (.int k n)
  |str x=>exact .tr (.str x)
  | _=>cases hf
 |agg vs cs hs hc ih=>exact .agg vs cs hs fun j hj=>ih j hj (wN hf j hj)
 |tup vs cs hs hc ih=>exact .tup vs cs hs fun j hj=>ih j hj (wN hf j hj)
 |fn=>cases hf
 |ref=>cases hf
 |ptr=>cases hf
 |mp=>cases hf
 |it=>cases hf
 |cond=>cases hf
def dead(st:St):St:=List.replicate st.length none
theorem su{st:St}{o:Nat}{ob:Ob}:¬(dead st)[o]? =some (some ob):=by
 unfold dead
 rw[List.getElem?_replicate]
 split<;>simp
theorem Bv{st:St}{o:Nat}:look (dead st) o=none:=by
 cases h:look (dead st) o with
 |none=>rfl
 |some x=>exact absurd (P3 h) su
theorem ET{μ:Mu}{st:St}{blk:Nat}:¬own μ (dead st) blk:=fun⟨_,_,_,h,_⟩=>su h
theorem Ic{st:St}:GA st (dead st):=⟨by simp[dead],fun _ _ h=>absurd h su⟩
theorem Pure.borrow{f:FuncId}{args args':List D}{r:D}(h:Pure P gl f args' r)(hu:Ups st (dead st) args args')(hsc:D.scs (dead st).length args')(hr:r.flat=true){R:D→St→Prop}(hR:R r st):Spec P gl f args st R:=by
 refine⟨(h st).1,fun w μ vs hs hg hsz hvs=>?_⟩
 have hs0:Sim w μ (dead st):=⟨fun o ob e=>absurd e su,fun o _ _ _ _ _ _ e=>absurd e su⟩
 have hg0:Glob gl w μ (dead st):=zK hg (fun blk hb=>absurd hb ET)
 have hv0:∀j (hj:j<args'.length),VR w μ (dead st) (vs.getD j undef) (args'[j]):=fun j hj=>by
  have hj':j<args.length:=by rw[←hu.len];exact hj
  exact VR.up hs Ic (hu.get j hj' hj) (hvs j hj') (fq hsc j hj)
 refine((h (dead st)).2 w μ vs hs0 hg0 (by rw[hsz,hu.len]) hv0).mono fun e w' ⟨v,d,st',μ',he,⟨hd,hst⟩,hs',hstep,hv⟩=>?_
 subst hd;subst hst
 have uz:∀blk,blk<w.heap.size→w'.heap[blk]? =w.heap[blk]? :=fun blk hb=>hstep.imm blk hb ET
 have hlt:∀ {blk:Nat},(w.heap[blk]?).isSome=true→blk<w.heap.size:=fun {blk} e=>by
  rcases Nat.lt_or_ge blk w.heap.size with h|h
  ·exact h
  ·rw[Array.getElem?_eq_none h]at e;cases e
 have step:Step w μ st w' μ st:={
  size:=hstep.size,os:=hstep.os,output:=hstep.output,tape:=hstep.tape
  imm:=fun blk hb _=>uz blk hb
  own:=fun blk hb=>.inl hb
  len:=Nat.le_refl _
  keep:=fun o ob ho e=>⟨ob,e,by
   cases ob with
   |arr g n b es=>exact⟨Nat.le_refl _,fun _=>⟨rfl,rfl,rfl,rfl,fun blk base c ty _ hh=>⟨c,by rw[uz blk (hlt (by rw[hh];rfl))];exact hh,rfl⟩⟩⟩
   |mps=>exact⟨rfl,rfl⟩
   |mpi=>exact⟨rfl,rfl,rfl⟩
   |sit=>exact rfl
   |resv=>exact trivial⟩ }
 refine⟨v,d,st,μ,he,hR,⟨fun o ob e=>?_,hs.inj⟩,step,hv.flat hr⟩
 have hob:=hs.obj o ob e
 refine hob.step step fun blk base em=>?_
 cases ob with
 |arr g n b es=>
  obtain⟨_,_,h3⟩:=(hob:tw w μ st (μ o) n b es)
  rcases h3 with⟨h3,_⟩|⟨vu,base',c,ty,em',hh,_⟩
  ·rw[em]at h3;cases h3
  ·rw[em]at em';cases em';exact uz _ (hlt (by rw[hh];rfl))
 |mps ag es=>
  obtain⟨vu,ents,clock,em',hh,_⟩:=(hob:rG _ ag w μ _ (μ o) es).loc
  rw[em]at em';cases em';exact uz _ (hlt (by rw[hh];rfl))
 |mpi ag k es=>
  obtain⟨vu,ents,clock,em',hh,_⟩:=(hob:rG _ ag w μ _ (μ o) es).loc
  rw[em]at em';cases em';exact uz _ (hlt (by rw[hh];rfl))
 |sit s p=>
  obtain⟨vu,em',hh⟩:=hob
  rw[em]at em';cases em';exact uz _ (hlt (by rw[hh];rfl))
 |resv=>
  have:μ o=none:=hob
  rw[em]at this;cases this
end
section
variable {P:Program} {gl:Gl} {st:St}
theorem Pure.freeze{f:FuncId}{args args':List D}{r:D}{T:St}(h:Pure P gl f args' r)(hw:JJ st T)(hl:st.length≤T.length)(hu:Ups st T args args')(hsc:D.scs T.length args'){R:D→St→Prop}(hR:R r T):Spec P gl f args st R:=by
 refine⟨(h T).1,fun w μ vs hs hg hsz hvs=>?_⟩
 have hv0:∀j (hj:j<args'.length),VR w μ T (vs.getD j undef) (args'[j]):=fun j hj=>by
  have hj':j<args.length:=by rw[←hu.len];exact hj
  exact VR.up hs hw.kill (hu.get j hj' hj) (hvs j hj') (fq hsc j hj)
 refine((h T).2 w μ vs (hs.wk hw) (zK hg (fun _ h=>hw.kill.own h)) (by rw[hsz,hu.len]) hv0).mono fun e w' ⟨v,d,st',μ',he,⟨hd,hst⟩,hs',hstep,hv⟩=>?_
 subst hd;subst hst
 exact⟨v,d,st',μ',he,hR,hs',(Step.wk hl hw (Step.refl w μ st)).trans hstep,hv⟩
end
attribute [simp] scM kj
attribute [go_sem] DJ MG br MH HZ Oe Pv kj
theorem Bw{st:St}{m:List (Nat×Ob)}{k:Nat}:look (Z4 st m) (st.length+k)=none:=by rw[←kj st m];exact uX
theorem yW{st:St}{m:List (Nat×Ob)}:look (Z4 st m) st.length=none:=Bw (k:=0)
attribute [go_sem] QO Ow
section
variable {P:Program} {gl:Gl} {N b:Nat} {fr:Fr} {st:St} {dst:Option Nat} {f:FuncId} {args:List D} {r:D} {lg:Log} {tr G:Bool} {kk:Log→Fr→St→Prop} {k:Fr→St→Prop}
theorem yX(rd:List Nat){ups:List (Nat×Ob)}(h:∀st2,(∀o∈rd,look st2 o=look st o)→Spec P gl f args st2 fun d st'=>d=r∧st'=puts st2 ups)(hu:∀p∈ups,p.1∈rd)
 (hrd:∀o∈rd,o<b∧∃ob,look st o=some ob∧ob≠ .resv) (ht:tr=false→rd=[]) (hk:kk (oY tr lg ⟨r,True,rd,none,none⟩ ups) (fr.mV dst r) (puts st ups)):
 FT P gl b tr dst lg fr st kk f args:=
 ⟨r,rd,ups,h,hu,hrd,ht,hk⟩
end
section
variable {P:Program} {gl:Gl} {N n0:Nat} {keep:List Nat} {Q:AQ} {fr:Fr} {st:St} {x y:Code} {o:Operand} {i:Nat}
theorem pA(h:AWp P gl N n0 keep (.seq x y) (AQ.block i Q) fr st):AWp P gl N n0 keep (.block i (.seq x y)) Q fr st:=yQ h
theorem me(h:AWp P gl N n0 keep (.cond o x y) (AQ.block i Q) fr st):AWp P gl N n0 keep (.block i (.cond o x y)) Q fr st:=yQ h
theorem gj{k:Nat}{l:Array Oper}{b:Bool}(h:AWp P gl N n0 keep (.region k l b) (AQ.block i Q) fr st):AWp P gl N n0 keep (.block i (.region k l b)) Q fr st:=yQ h
theorem pB{k:Nat}(h:AWp P gl N n0 keep (.block k x) (AQ.block i Q) fr st):AWp P gl N n0 keep (.block i (.block k x)) Q fr st:=yQ h
theorem jE(h:AWp P gl N n0 keep (.scope x) (AQ.block i Q) fr st):AWp P gl N n0 keep (.block i (.scope x)) Q fr st:=yQ h
theorem rn{A B:Prop}(b:B)(e:B→A:=by
 intro hb;(try simp only[go_sem,fx]);(repeat (first|apply sq_|(apply er_;simp only[go_sem,fx])|(apply uW;(try simp only[go_sem,fx]))|(apply X5;(try simp only[go_sem,fx]))|apply pA|apply me|apply gj|apply pB|apply jE|apply jC|(apply jD;(try simp only[go_sem,fx]))));exact hb):A:=e b
theorem r0{A B:Prop}(b:B)(e:B→A:=by
 intro hb;(try simp only[go_sem,fx]);(repeat apply sq_);(first|(apply er_;simp only[go_sem,fx])|(apply uW;(try simp only[go_sem,fx]))|(apply X5;(try simp only[go_sem,fx]))|apply pA|apply me|apply gj|apply pB|apply jE|apply jC|(apply jD;(try simp only[go_sem,fx])));exact hb):A:=e b
theorem r1{A B:Prop}(b:B)(e:B→A:=by
 intro hb;(try simp only[go_sem,fx]);(repeat apply sq_);apply er_;simp only[go_sem,fx,fy];exact hb):A:=e b
theorem rs{A B:Prop}(b:B)(e:B→A:=by
 intro hb;(try simp only[go_sem,fx]);(repeat apply sq_);exact hb):A:=e b
theorem cd{α:Type}{c t:Bool}{a b:Option α}{r:α}{W:Prop}(h:(bif c then a else b)=some r)
 (k1:c=true→a=some r→AWp P gl N n0 keep x Q fr st) (k0:c=false→b=some r→AWp P gl N n0 keep y Q fr st)
 (e:AWp P gl N n0 keep (.cond o x y) Q fr st→W:=by
  intro hb;(try simp only[go_sem,fx]);(repeat (first|apply sq_|(apply er_;simp only[go_sem,fx])|(apply uW;(try simp only[go_sem,fx]))|(apply X5;(try simp only[go_sem,fx]))|apply pA|apply me|apply gj|apply pB|apply jE|apply jC|(apply jD;(try simp only[go_sem,fx]))));exact hb)
 (ho:ev gl fr o= .bool t:=by rfl) (hc:t=c:=by first|rfl|simp):W:=
 e (tv ho (fun ht=>k1 (hc▸ht) (rZ h (hc▸ht))) fun ht=>k0 (hc▸ht) (sj h (hc▸ht)))
theorem ct{t:Bool}{W:Prop}(k:AWp P gl N n0 keep x Q fr st)
 (e:AWp P gl N n0 keep (.cond o x y) Q fr st→W:=by
  intro hb;(try simp only[go_sem,fx]);(repeat (first|apply sq_|(apply er_;simp only[go_sem,fx])));exact hb)
 (ho:ev gl fr o= .bool t:=by rfl) (ht:t=true:=by first|rfl|exact decide_eq_true (by omega)|(simp;done)|(simp;omega)):W:=
 e (tv ho (fun _=>k) fun h=>by rw[ht]at h;cases h)
theorem cf{t:Bool}{W:Prop}(k:AWp P gl N n0 keep y Q fr st)
 (e:AWp P gl N n0 keep (.cond o x y) Q fr st→W:=by
  intro hb;(try simp only[go_sem,fx]);(repeat (first|apply sq_|(apply er_;simp only[go_sem,fx])));exact hb)
 (ho:ev gl fr o= .bool t:=by rfl) (ht:t=false:=by first|rfl|exact decide_eq_false (by omega)|(simp;done)|(simp;omega)):W:=
 e (tv ho (fun h=>by rw[ht]at h;cases h) fun _=>k)
theorem ck{φ p:Prop}[Decidable p]{β:Type}{x:Option β}{e:β}(f:φ)(h:chk p x=some e):(φ∧p)∧x=some e:=
 let ⟨a,b⟩:=pe h;⟨⟨f,a⟩,b⟩
theorem cl{α β:Type}{x:Option α}{k:α→Option β}{r:β}{d:α→D}{f:FuncId}{args:List D}{R:D→St→Prop}{W:Prop}
 (h:x.bind k=some r) (p:∀v,x=some v→Pure P gl f args (d v)) (b:∀v,k v=some r→R (d v) st)
 (e:Spec P gl f args st R→W:=by
  intro hb;(try simp only[go_sem,fx]);(repeat (first|apply sq_|(apply er_;simp only[go_sem,fx])|(apply uW;(try simp only[go_sem,fx]))|(apply X5;(try simp only[go_sem,fx]))|apply pA|apply me|apply gj|apply pB|apply jE|apply jC|(apply jD;(try simp only[go_sem,fx]))));exact hb):W:=by
 obtain⟨v,hv,h⟩:=E4 h
 exact e ((p v hv).to (b v h))
theorem up{α:Type}{x:Option α}{f:FuncId}{args args':List D}{d:α→D}(p:∀v,x=some v→Pure P gl f args' (d v))(u:∀st,Ups st st args args')(s:∀n,D.scs n args':=by intro n;simp):∀v,x=some v→Pure P gl f args (d v):=
 fun v hv=>(p v hv).up u (.inr s)
theorem c0{α β:Type}{x:Option α}{k:α→Option β}{r:β}{W:Prop}(h:x.bind k=some r)(b:∀v,x=some v→k v=some r→W):W:=by
 obtain⟨v,hv,h⟩:=E4 h
 exact b v hv h
theorem l0{α β:Type}{a:α}{f:α→Option β}{e:β}{W:Prop}(h:cW a f=some e)(b:∀y,y=a→f y=some e→W):W:=b a rfl h
theorem fa{p q:Prop}(a:p)(b:q):p∧q:=⟨a,b⟩
theorem rt{W:Prop}(e:W:=by
 (try simp only[go_sem,fx]);(repeat (first|apply sq_|(apply er_;simp only[go_sem,fx])|(apply uW;(try simp only[go_sem,fx]))|(apply X5;(try simp only[go_sem,fx]))|apply pA|apply me|apply gj|apply pB|apply jE|apply jC|(apply jD;(try simp only[go_sem,fx]))));(try (apply He;(try simp only[go_sem,fx])));(first|apply JK|apply ES);simp only[go_sem,fx];
 first|exact pq hsc (.same _) (by simp) ⟨by cases h;rfl,rfl⟩|exact nT hsc (.same _) (by simp) ⟨by cases h;rfl,rfl⟩):W:=e
theorem rr{A B:Prop}(b:B)(e:B→A:=by
 intro hb;(try simp only[go_sem,fx]);(repeat (first|apply sq_|(apply er_;simp only[go_sem,fx])|(apply uW;(try simp only[go_sem,fx]))|(apply X5;(try simp only[go_sem,fx]))|apply pA|apply me|apply gj|apply pB|apply jE|apply jC|(apply jD;(try simp only[go_sem,fx]))));(try (apply He;(try simp only[go_sem,fx])));(first|apply JK|apply ES);simp only[go_sem,fx];exact hb):A:=e b
theorem ra{A B:Prop}(b:B)(e:B→A:=by
 intro hb;(try simp only[go_sem,fx]);(repeat (first|apply sq_|(apply er_;simp only[go_sem,fx])|(apply uW;(try simp only[go_sem,fx]))|(apply X5;(try simp only[go_sem,fx]))|apply pA|apply me|apply gj|apply pB|apply jE|apply jC|(apply jD;(try simp only[go_sem,fx]))));apply He;(try simp only[go_sem,fx]);exact hb):A:=e b
theorem fo{α:Type}{e r:α}{s l:St}{d:D}(d':D){R:D→St→Prop}(hu:Up (s++l) s d d')(h:some e=some r)(hsc:nQ s.length s)(hd:D.sc s.length d':=by simp)(hr:e=r→R d' s:=by rintro rfl;exact⟨rfl,rfl⟩):fin s.length R d (s++l):=
 nT hsc hu hd (hr (Option.some.inj h))
theorem fs{α:Type}{e r:α}{s:St}{d:D}(d':D){R:D→St→Prop}(hu:Up s s d d')(h:some e=some r)(hsc:nQ s.length s)(hd:D.sc s.length d':=by simp)(hr:e=r→R d' s:=by rintro rfl;exact⟨rfl,rfl⟩):fin s.length R d s:=
 pq hsc hu hd (hr (Option.some.inj h))
theorem bm{s l l':St}{F:Fr}(hsc:nQ s.length s)(hu:UpL (s++l) (s++l') l l':=by(repeat (first|exact .nil _|refine .live _ _ _ _ (.same _) ?_|refine .dead _ _ _ ?_)))(hf:vF (s++l) (s++l') fr F:=by(repeat (first|exact trivial|refine⟨.same _,?_⟩|refine⟨.Br _ _ _ _,?_⟩|refine⟨.full _ _ _ _,?_⟩|refine⟨.B3 _ _ _ (by decide),?_⟩|refine⟨.any _,?_⟩)))(hl:ScL (s++l').length l':=by simp)(hs:Fr.sc (s++l').length F:=by simp):BkS s.length F (s++l') fr (s++l):=jL hsc hu hl hf hs
theorem bm0{s l:St}{F:Fr}(hsc:nQ s.length s)(hf:vF (s++l) s fr F:=by(repeat (first|exact trivial|refine⟨.same _,?_⟩|refine⟨.Br _ _ _ _,?_⟩|refine⟨.full _ _ _ _,?_⟩|refine⟨.B3 _ _ _ (by decide),?_⟩|refine⟨.any _,?_⟩)))(hs:Fr.sc s.length F:=by simp):BkS s.length F s fr (s++l):=DI hsc hf hs
theorem bW{s:St}{F:Fr}(hsc:nQ s.length s)(hf:vF s s fr F:=by(repeat (first|exact trivial|refine⟨.same _,?_⟩|refine⟨.Br _ _ _ _,?_⟩|refine⟨.full _ _ _ _,?_⟩|refine⟨.B3 _ _ _ (by decide),?_⟩|refine⟨.any _,?_⟩)))(hs:Fr.sc s.length F:=by simp):BkS s.length F s fr s:=Ky hsc hf hs
theorem bu{s:St}{m:List (Nat×Ob)}{l l':St}{F:Fr}(hsc:nQ s.length s)(hu:UpL (Z4 s m++l) (Z4 s m++l') l l':=by(repeat (first|exact .nil _|refine .live _ _ _ _ (.same _) ?_|refine .dead _ _ _ ?_)))(hf:vF (Z4 s m++l) (Z4 s m++l') fr F:=by(repeat (first|exact trivial|refine⟨.same _,?_⟩|refine⟨.Br _ _ _ _,?_⟩|refine⟨.full _ _ _ _,?_⟩|refine⟨.B3 _ _ _ (by decide),?_⟩|refine⟨.any _,?_⟩)))(hm:scM s.length m:=by simp<;>omega)(hl:ScL (Z4 s m++l').length l':=by simp<;>omega)(hs:Fr.sc (Z4 s m++l').length F:=by simp<;>omega):BkS s.length F (Z4 s m++l') fr (Z4 s m++l):=Ia (by simp) (pz hsc hm) hu hl hf hs
theorem bu0{s:St}{m:List (Nat×Ob)}{l:St}{F:Fr}(hsc:nQ s.length s)(hf:vF (Z4 s m++l) (Z4 s m) fr F:=by(repeat (first|exact trivial|refine⟨.same _,?_⟩|refine⟨.Br _ _ _ _,?_⟩|refine⟨.full _ _ _ _,?_⟩|refine⟨.B3 _ _ _ (by decide),?_⟩|refine⟨.any _,?_⟩)))(hm:scM s.length m:=by simp<;>omega)(hs:Fr.sc (Z4 s m).length F:=by simp<;>omega):BkS s.length F (Z4 s m) fr (Z4 s m++l):=MI (by simp) (pz hsc hm) hf hs
theorem Uu{s:St}{m:List (Nat×Ob)}{F:Fr}(hsc:nQ s.length s)(hf:vF (Z4 s m) (Z4 s m) fr F:=by(repeat (first|exact trivial|refine⟨.same _,?_⟩|refine⟨.Br _ _ _ _,?_⟩|refine⟨.full _ _ _ _,?_⟩|refine⟨.B3 _ _ _ (by decide),?_⟩|refine⟨.any _,?_⟩)))(hm:scM s.length m:=by simp<;>omega)(hs:Fr.sc (Z4 s m).length F:=by simp<;>omega):BkS s.length F (Z4 s m) fr (Z4 s m):=Kz (by simp) (pz hsc hm) hf hs
theorem rng{φ:Prop}{Γ ρ σ:Type}{c:Code}{id n:Nat}{body:Nat→σ→Option (Ctl ρ σ σ)}{s0:σ}{kk:σ→Option ρ}{e:ρ}(F:Γ→Nat→σ→Fr)(T:Γ→Nat→σ→St)(Fb:Γ→σ→Fr)(Tb:Γ→σ→St)(γ0:Γ)(fx:φ)(hl:n≤9223372036854775807)
 (h:C2 (D1 body n s0) kk=some e)
 (h0:BkS n0 (F γ0 0 s0) (T γ0 0 s0) fr st)
 (hs:∀γ k s b,φ∧k<n∧wr .i64 ((k:Int)+1)=((k+1:Nat):Int)→body k s=some b→(∀x,b= .ret x→x=e)→AWp P gl N n0 keep c (PBr n0 id F T Fb Tb Q k b) (F γ k s) (T γ k s))
 (he:∀γ s,AWp P gl N n0 keep c (fun ex fr st=>ex= .exit id∧∃γ',BkS n0 (Fb γ' s) (Tb γ' s) fr st) (F γ n s) (T γ n s))
 (hk:∀γ s fr st,kk s=some e→BkS n0 (Fb γ s) (Tb γ s) fr st→Q .normal fr st):
 AWp P gl N n0 keep (.block id (.loop c)) Q fr st:=
 arg_ F T Fb Tb γ0 h h0 (fun γ k s b hk=>hs γ k s b ⟨fx,hk,wM hk hl⟩) he hk
theorem aln{W:Prop}{n b:Nat}{full:Bool}{α:Type}{E:α→List D}{l:List α}{c:Code}(t:Nat)(k:l.length≤9223372036854775807→AWp P gl N n0 keep c Q fr st)
 (e:AWp P gl N n0 keep c Q fr st→W:=by
  intro hb;(try simp only[go_sem,fx]);(repeat (first|apply sq_|(apply er_;simp only[go_sem,fx])|(apply uW;(try simp only[go_sem,fx]))|(apply X5;(try simp only[go_sem,fx]))|apply pA|apply me|apply gj|apply pB|apply jE|apply jC|(apply jD;(try simp only[go_sem,fx]))));exact hb)
 (hg:fr.get t= .sl full n b (rows E l):=by rfl) (hb:1≤b:=by decide):W:=
 e (Pg hg fun h=>k (by
  rw[zV]at h
  have h1:l.length*1≤l.length*b:=Nat.mul_le_mul_left _ hb
  unfold top at h;omega))
theorem fb{f:FuncId}{fn:Func}{c:Code}{args:List D}{R:D→St→Prop}(N:Nat)(rs:List ResultVar)(keep:List Nat)(hf:P.funcs[f]? =some fn)(h:nQ st.length st→AWp P gl N st.length keep c (Rn P rs st.length R) (zM 0 args) st)
 (hb:fn.body=some c:=by rfl) (hN:fn.ntmps=N:=by rfl) (hr:fn.results.toList=rs:=by rfl) (hname:(fn.name != "runtime.NumGoroutine")=true:=by kernel_rfl) (hlen:Nat.ble args.length N=true:=by rfl):Spec P gl f args st R:=
 Od keep hf hb hN hr hname hlen h
theorem idf{o:Nat}(ho:o<st.length):(∀(l:St) (x:Ob) (m:List (Nat×Ob)),(Z4 st m++l).set o (some x)=Z4 st (MG m o x)++l)∧(∀(x:Ob) (m:List (Nat×Ob)),(Z4 st m).set o (some x)=Z4 st (MG m o x))∧(∀(l:St) (m:List (Nat×Ob)),look (Z4 st m++l) o=DJ m o (look st o))∧∀m:List (Nat×Ob),look (Z4 st m) o=DJ m o (look st o):=
 ⟨fun _ _ m=>Sf ho m,fun _ m=>Sg ho m,fun _ m=>Sd ho m,fun m=>Se ho m⟩
theorem nd2{a b:Nat}(h: [a,b].Nodup):((a=b)=False)∧((b=a)=False):=by
 simp at h;exact⟨eq_false h,eq_false fun e=>h e.symm⟩
theorem nd3{a b c:Nat}(h: [a,b,c].Nodup):(((a=b)=False)∧((b=a)=False))∧(((a=c)=False)∧((c=a)=False))∧((b=c)=False)∧((c=b)=False):=by
 simp at h
 exact⟨nd2 (by simp[h]),nd2 (by simp[h]),nd2 (by simp[h])⟩
theorem nd4{a b c d:Nat}(h: [a,b,c,d].Nodup):(((a=b)=False)∧((b=a)=False))∧(((a=c)=False)∧((c=a)=False))∧(((a=d)=False)∧((d=a)=False))∧(((b=c)=False)∧((c=b)=False))∧(((b=d)=False)∧((d=b)=False))∧((c=d)=False)∧((d=c)=False):=by
 simp at h
 exact⟨nd2 (by simp[h]),nd2 (by simp[h]),nd2 (by simp[h]),nd2 (by simp[h]),nd2 (by simp[h]),nd2 (by simp[h])⟩
theorem fuo{α:Type}{e r:α}{s l:St}{m:List (Nat×Ob)}{d:D}(d':D){R:D→St→Prop}(hu:Up (Z4 s m++l) (Z4 s m) d d')(h:some e=some r)(hsc:nQ s.length s)(hr:e=r→R d' (Z4 s m):=by rintro rfl;exact⟨rfl,rfl⟩)(hm:scM s.length m:=by simp<;>omega)(hd:D.sc (Z4 s m).length d':=by simp<;>omega):fin s.length R d (Z4 s m++l):=
 KA (by simp) (pz hsc hm) hu hd (hr (Option.some.inj h))
theorem fus{α:Type}{e r:α}{s:St}{m:List (Nat×Ob)}{d:D}(d':D){R:D→St→Prop}(hu:Up (Z4 s m) (Z4 s m) d d')(h:some e=some r)(hsc:nQ s.length s)(hr:e=r→R d' (Z4 s m):=by rintro rfl;exact⟨rfl,rfl⟩)(hm:scM s.length m:=by simp<;>omega)(hd:D.sc (Z4 s m).length d':=by simp<;>omega):fin s.length R d (Z4 s m):=
 Ib (by simp) (pz hsc hm) hu hd (hr (Option.some.inj h))
theorem dw{B:Prop}{i:Nat}{l:List Oper}(trk:List Nat)(n:Nat)(b:B)
 (e:B→EvD P gl N l.toArray st.length trk (fun fr st=>Q .normal (Fr.only keep fr) st) l 0 0 [] fr (st++List.replicate n (some .resv)):=by intro hb;simp only[go_sem,List.replicate_succ,List.replicate_zero,fx];exact hb)
 (hm:P.follows .mixedOrders=true:=by exact follows) (ho:zU l.toArray trk=true:=by kernel_rfl) (hn:oF l=n:=by rfl):AWp P gl N n0 keep (.region i l.toArray true) Q fr st:=Bq trk n hm ho hn (e b)
theorem dwy{B:Prop}{i:Nat}{l:List Oper}(trk:List Nat)(n:Nat)(b:B)
 (e:B→EvD P gl N l.toArray st.length trk (fun fr st=>Q .normal (Fr.only keep fr) st) l 0 0 [] fr (st++List.replicate n (some .resv)):=by intro hb;simp only[go_sem,List.replicate_succ,List.replicate_zero,fx,fy];exact hb)
 (hm:P.follows .mixedOrders=true:=by exact follows) (ho:zU l.toArray trk=true:=by kernel_rfl) (hn:oF l=n:=by rfl):AWp P gl N n0 keep (.region i l.toArray true) Q fr st:=Bq trk n hm ho hn (e b)
theorem Og{k:Nat}(h:k≤140737488355328):(k≤top)=True:=eq_true (by unfold top;exact h)
section
variable {α:Type} {E:α→List D}
end
end
attribute [go_sem] Og
def fK(q m n k:Nat):List (List D):=((List.range k).map fun i=>[.ref true (q+(i+1)) 0 0 m])++List.replicate (n-k) [.B3]
def inn(r:List Int):Option Ob:=some (.arr 0 1 8 (rows N3 r))
section
variable {q m n k i:Nat} {M:List (List Int)} {R:List Int}
theorem eF(h:k≤n):(fK q m n k).length=n:=by simp[fK];omega
theorem wO:fK q m n 0=List.replicate n [.B3]:=by simp[fK]
theorem zW(h:k<n):(fK q m n k).set k [.ref true (q+(k+1)) 0 0 m]=fK q m n (k+1):=by
 unfold fK
 rw[List.set_append_right _ _ (by simp),List.length_map,List.length_range,Nat.sub_self,show n-k=(n-(k+1))+1 by omega,List.replicate_succ,List.set_cons_zero,List.range_succ,List.map_append]
 simp
theorem nV(h:i<k){d:List D}:(fK q m n k).getD i d=[.ref true (q+(i+1)) 0 0 m]:=by
 unfold fK
 rw[List.getD_eq_getElem?_getD,List.getElem?_append_left (by simpa using h)]
 simp[h]
theorem zX(h:k≤i)(hn:i<n){d:List D}:(fK q m n k).getD i d=[.B3]:=by
 unfold fK
 rw[List.getD_eq_getElem?_getD,List.getElem?_append_right (by simpa using h)]
 simp only[List.length_map,List.length_range,List.getElem?_replicate]
 rw[if_pos (by omega)];rfl
theorem KB(h:i<M.length):look (M.map inn) i=some (.arr 0 1 8 (rows N3 (get M i))):=by
 unfold look
 rw[List.getElem?_map,List.getElem?_eq_getElem h]
 simp[inn,get,h]
theorem MJ:(M.map inn).set i (some (.arr 0 1 8 (rows N3 R)))=(M.set i R).map inn:=by rw[List.map_set];rfl
theorem Ie:M.map inn++[some (.arr 0 1 8 (rows N3 R))]=(M++[R]).map inn:=by rw[List.map_append];rfl
theorem MK{v:Int}:(rows N3 R).set i [.int .i64 v]=rows N3 (R.set i v):=ER (E:=N3) _ _ _
theorem vG{st T:St}:∀l:St,UpL st T l l
 | []=>.nil _
 |none::l=>.dead _ _ _ (vG l)
 |some _::l=>.live _ _ _ _ (.same _) (vG l)
theorem Ig{x:Nat}:∀M:List (List Int),ScL x (M.map inn)
 | []=>trivial
 |r::M=>⟨by intro e he;exact Imm.sc (lQ (E:=N3) r) x e he,Ig M⟩
theorem Pw{s:St}(h:k≤M.length):ScL (s++(some (.arr 0 1 24 (fK s.length m n k))::M.map inn)).length (some (.arr 0 1 24 (fK s.length m n k))::M.map inn):=by
 refine⟨?_,Ig M⟩
 intro e he
 simp only[List.length_append,List.length_cons,List.length_map]
 rcases List.mem_append.1 he with he|he
 ·obtain⟨i,hi,rfl⟩:=List.mem_map.1 he
  have:=List.mem_range.1 hi
  exact⟨(by show s.length+(i+1)<_;omega),trivial⟩
 ·rw[List.eq_of_mem_replicate he];exact⟨trivial,trivial⟩
theorem hH{s:St}{F fr:Fr}(hsc:nQ s.length s)(h:k≤M.length)(hf:vF (s++(some (.arr 0 1 24 (fK s.length m n k))::M.map inn)) (s++(some (.arr 0 1 24 (fK s.length m n k))::M.map inn)) fr F)
 (hs:Fr.sc (s++(some (.arr 0 1 24 (fK s.length m n k))::M.map inn)).length F):
 BkS s.length F (s++(some (.arr 0 1 24 (fK s.length m n k))::M.map inn)) fr (s++(some (.arr 0 1 24 (fK s.length m n k))::M.map inn)):=
 jL hsc (vG _) (Pw h) hf hs
theorem wP{st T:St}:∀(l l':List (List D)) (_:l'.length=l.length) (_:∀(j:Nat) (h:j<l.length) (h':j<l'.length),Ups st T (l[j]) (l'[j])),kS st T l l'
 | [],[],_,_=>.nil
 |e::l,e'::l',hl,h=>.cons _ _ _ _ (h 0 (by simp) (by simp)) (wP l l' (by simpa using hl) fun j h1 h2=>h (j+1) (by simpa using h1) (by simpa using h2))
theorem EU{s:St}{A B C:D}(hsc:nQ s.length s)(hm:∀r∈M,r.length=m)(hn:M.length=n)(hA:D.sc s.length A)(hB:D.sc s.length B)(hC:D.sc s.length C):
 BkS s.length [(0,A),(1,B),(2,C),(7,.sl false 1 24 (rows (slc 1 8 N3) M))] s [(0,A),(1,B),(2,C),(7,.ref true s.length 0 0 n)] (s++(some (.arr 0 1 24 (fK s.length m n n))::M.map inn)):=by
 have hle:s.length≤(s++[some (Ob.arr 0 1 24 (rows (slc 1 8 N3) M))]).length:=by simp
 have h1:BkS s.length [(0,A),(1,B),(2,C),(7,.ref true s.length 0 0 n)] (s++[some (.arr 0 1 24 (rows (slc 1 8 N3) M))]) [(0,A),(1,B),(2,C),(7,.ref true s.length 0 0 n)] (s++(some (.arr 0 1 24 (fK s.length m n n))::M.map inn)):=by
  refine jL hsc (.live _ _ _ _ (FY.arr _ _ _ _ _ (wP _ _ (by rw[zV,eF (Nat.le_refl _)];exact hn) fun j h h'=>?_)) (.nil _)) ⟨?_,trivial⟩ ⟨.same _,.same _,.same _,.same _,trivial⟩ ⟨D.wI hle _ hA,D.wI hle _ hB,D.wI hle _ hC,(by show s.length<_;simp),trivial⟩
  ·rw[eF (Nat.le_refl _)]at h
   have hj:j<M.length:=by omega
   have e1:(fK s.length m n n)[j]'(by rw[eF (Nat.le_refl _)];exact h)=[.ref true (s.length+(j+1)) 0 0 m]:=by
    have:=nV (q:=s.length) (m:=m) (n:=n) h (d:=[])
    rw[List.getD_eq_getElem?_getD,List.getElem?_eq_getElem (by rw[eF (Nat.le_refl _)];exact h)]at this
    exact this
   have e2:(rows (slc 1 8 N3) M)[j]=[.sl false 1 8 (rows N3 M[j])]:=by simp[rows,slc]
   rw[e1,e2]
   refine .cons _ _ _ _ (.ref _ _ _ _ _ 1 8 (rows N3 M[j]) _ ?_ (cD (by simp)) (by decide) (lQ _) ?_) .nil
   ·rw[List.getElem?_append_right (by omega),show s.length+(j+1)-s.length=j+1 by omega,List.getElem?_cons_succ,List.getElem?_map,List.getElem?_eq_getElem hj]
    rfl
   ·rw[List.drop_zero,List.take_of_length_le]
    rw[zV,hm _ (List.getElem_mem hj)];exact Nat.le_refl _
  ·intro e he
   exact Imm.sc (lQ (E:=slc 1 8 N3) M) _ e he
 refine h1.trans (DI hsc ⟨.same _,.same _,.same _,.ref _ _ _ _ _ 1 24 (rows (slc 1 8 N3) M) _ (lY.trans rfl) nj (by decide) (lQ _) ?_,trivial⟩ ⟨hA,hB,hC,trivial,trivial⟩)
 rw[List.drop_zero,List.take_of_length_le]
 rw[zV];omega
def zs(k:Nat)(r:List Int):List (List Int):=List.replicate k r
theorem uK{r:List Int}:(zs k r).length=k:=List.length_replicate
theorem Ih{r:List Int}:zs k r++[r]=zs (k+1) r:=List.replicate_succ'.symm
def pC(m:Nat)(f:Nat→Nat→Int)(i:Nat):List Int:=(List.range (m+1)).map (f i)
def Gb(f:Nat→Nat→Int)(i k:Nat)(v:Int):Nat→Nat→Int:=fun i' k'=>if i'=i∧k'=k then v else f i' k'
theorem Ii{f:Nat→Nat→Int}{v:Int}:Gb f i k v i k=v:=by simp[Gb]
theorem EV{f:Nat→Nat→Int}{v:Int}{j:Nat}:Gb f i k v (i+1) j=f (i+1) j:=by simp[Gb]
theorem zY{f:Nat→Nat→Int}(h:i≤n):look ((Lcs.tb n m f).map inn) i=some (.arr 0 1 8 (rows N3 (pC m f i))):=by
 rw[KB (by rw[Lcs.iJ];omega),get,Lcs.Bx h];rfl
theorem sv{f:Nat→Nat→Int}:(rows N3 (pC m f i)).length=m+1:=by simp[zV,pC]
theorem vH{f:Nat→Nat→Int}(h:k≤m):(rows N3 (pC m f i)).getD k []=[.int .i64 (f i k)]:=by
 rw[oP (by simp[pC];omega)]
 simp[pC,get,N3,List.getD_eq_getElem?_getD,List.getElem?_map,List.getElem?_range (show k<m+1 by omega)]
theorem Bz{f:Nat→Nat→Int}{v:Int}(h:i≤n):((Lcs.tb n m f).map inn).set i (some (.arr 0 1 8 ((rows N3 (pC m f i)).set k [.int .i64 v])))=(Lcs.tb n m (Gb f i k v)).map inn:=by
 rw[MK,MJ]
 have:=Lcs.Px (n:=n) (m:=m) (f:=f) (k:=k) (v:=v) h (d:=[])
 rw[Lcs.Bx h]at this
 exact congrArg (List.map inn) this
section
variable {α:Type} {same:α→α→Bool} {a b:List α}
theorem vI{v:Int}(hi:i<a.length)(hv:v=Lcs.lc same a b i k):Lcs.tb a.length b.length (Gb (Lcs.pf same a b i (k+1)) i k v)=Lcs.tb a.length b.length (Lcs.pf same a b i k):=
 Lcs.KC same a b hi (Lcs.sw fun i' k' _ _=>by
  unfold Gb Lcs.pf
  by_cases h:i<i'∨(i'=i∧k+1≤k')
  ·rw[if_neg (by omega),if_pos h,if_pos h]
  ·rw[if_neg h,if_neg h]) hv
theorem BA{f:Nat→Nat→Int}{v w:Int}:Gb (Gb f i k w) i k v=Gb f i k v:=by
 funext i' k';unfold Gb;split<;>rfl
end
theorem dO{σ:Type}(n:Nat)(s:σ):C2 (ρ:=σ) (D1 (fun _ s=>some (.nxt s)) n s) (fun s=>some s)=some s:=by
 unfold D1
 generalize 0=k
 induction n generalizing k with
 |zero=>rfl
 |succ n ih=>simp only[bR];exact ih _
end
section
variable {α:Type} {E:α→List D} {b:Nat} {M:List (List α)} {R:List α} {i k m n q:Nat}
def ine(E:α→List D)(b:Nat)(r:List α):Option Ob:=some (.arr 0 1 b (rows E r))
theorem KD(h:i<M.length):look (M.map (ine E b)) i=some (.arr 0 1 b (rows E (get M i))):=by
 unfold look
 rw[List.getElem?_map,List.getElem?_eq_getElem h]
 simp[ine,get,h]
theorem ML:(M.map (ine E b)).set i (some (.arr 0 1 b (rows E R)))=(M.set i R).map (ine E b):=by rw[List.map_set];rfl
theorem MN:M.map (ine E b)++[some (.arr 0 1 b (rows E R))]=(M++[R]).map (ine E b):=by rw[List.map_append];rfl
theorem Ij[dN E 1]{x:Nat}:∀M:List (List α),ScL x (M.map (ine E b))
 | []=>trivial
 |r::M=>⟨by intro e he;exact Imm.sc (lQ (E:=E) r) x e he,Ij M⟩
theorem Py[dN E 1]{s:St}(h:k≤M.length):ScL (s++(some (.arr 0 1 24 (fK s.length m n k))::M.map (ine E b))).length (some (.arr 0 1 24 (fK s.length m n k))::M.map (ine E b)):=by
 refine⟨?_,Ij M⟩
 intro e he
 simp only[List.length_append,List.length_cons,List.length_map]
 rcases List.mem_append.1 he with he|he
 ·obtain⟨i,hi,rfl⟩:=List.mem_map.1 he
  have:=List.mem_range.1 hi
  exact⟨(by show s.length+(i+1)<_;omega),trivial⟩
 ·rw[List.eq_of_mem_replicate he];exact⟨trivial,trivial⟩
theorem yY[dN E 1]{s:St}{F fr:Fr}(hsc:nQ s.length s)(h:k≤M.length)(hf:vF (s++(some (.arr 0 1 24 (fK s.length m n k))::M.map (ine E b))) (s++(some (.arr 0 1 24 (fK s.length m n k))::M.map (ine E b))) fr F)
 (hs:Fr.sc (s++(some (.arr 0 1 24 (fK s.length m n k))::M.map (ine E b))).length F):
 BkS s.length F (s++(some (.arr 0 1 24 (fK s.length m n k))::M.map (ine E b))) fr (s++(some (.arr 0 1 24 (fK s.length m n k))::M.map (ine E b))):=
 jL hsc (vG _) (Py h) hf hs
theorem Ik[dN E 1]{s:St}{F0 F:Fr}(hb:1≤b)(hsc:nQ s.length s)(hm:∀r∈M,r.length=m)(hn:M.length=n)
 (h1:∀st T,vF st T F0 F0) (h2:∀st T:St,Up st T (.ref true s.length 0 0 n) (.sl false 1 24 (rows (slc 1 b E) M))→vF st T F0 F)
 (s1:Fr.sc (s++[some (Ob.arr 0 1 24 (rows (slc 1 b E) M))]).length F0) (s2:Fr.sc s.length F):
 BkS s.length F s F0 (s++(some (.arr 0 1 24 (fK s.length m n n))::M.map (ine E b))):=by
 have h1:BkS s.length F0 (s++[some (.arr 0 1 24 (rows (slc 1 b E) M))]) F0 (s++(some (.arr 0 1 24 (fK s.length m n n))::M.map (ine E b))):=by
  refine jL hsc (.live _ _ _ _ (FY.arr _ _ _ _ _ (wP _ _ (by rw[zV,eF (Nat.le_refl _)];exact hn) fun j h h'=>?_)) (.nil _)) ⟨?_,trivial⟩ (h1 _ _) s1
  ·rw[eF (Nat.le_refl _)]at h
   have hj:j<M.length:=by omega
   have e1:(fK s.length m n n)[j]'(by rw[eF (Nat.le_refl _)];exact h)=[.ref true (s.length+(j+1)) 0 0 m]:=by
    have:=nV (q:=s.length) (m:=m) (n:=n) h (d:=[])
    rw[List.getD_eq_getElem?_getD,List.getElem?_eq_getElem (by rw[eF (Nat.le_refl _)];exact h)]at this
    exact this
   have e2:(rows (slc 1 b E) M)[j]=[.sl false 1 b (rows E M[j])]:=by simp[rows,slc]
   rw[e1,e2]
   refine .cons _ _ _ _ (.ref _ _ _ _ _ 1 b (rows E M[j]) _ ?_ (cD (by simp)) hb (lQ _) ?_) .nil
   ·rw[List.getElem?_append_right (by omega),show s.length+(j+1)-s.length=j+1 by omega,List.getElem?_cons_succ,List.getElem?_map,List.getElem?_eq_getElem hj]
    rfl
   ·rw[List.drop_zero,List.take_of_length_le]
    rw[zV,hm _ (List.getElem_mem hj)];exact Nat.le_refl _
  ·intro e he
   exact Imm.sc (lQ (E:=slc 1 b E) M) _ e he
 refine h1.trans (DI hsc (h2 _ _ (.ref _ _ _ _ _ 1 24 (rows (slc 1 b E) M) _ (lY.trans rfl) nj (by decide) (lQ _) ?_)) s2)
 rw[List.drop_zero,List.take_of_length_le]
 rw[zV];omega
def rf(n:Nat)(f:Nat→α):List α:=(List.range n).map f
def tf(k n:Nat)(f:Nat→Nat→α):List (List α):=(List.range k).map fun i=>rf n (f i)
def MO(f:Nat→Nat→α)(i j:Nat)(v:α):Nat→Nat→α:=fun i' j'=>if i'=i∧j'=j then v else f i' j'
theorem uL{f:Nat→α}:(rf n f).length=n:=by simp[rf]
theorem sx{f:Nat→Nat→α}:(tf k n f).length=k:=by simp[tf]
theorem MP{f:Nat→Nat→α}:∀r∈tf k n f,r.length=n:=by
 intro r hr
 obtain⟨i,_,rfl⟩:=List.mem_map.1 hr
 exact uL
theorem BD[Inhabited α]{f:Nat→α}(h:i<n):get (rf n f) i=f i:=by
 simp[rf,get,List.getD_eq_getElem?_getD,List.getElem?_map,List.getElem?_range h]
theorem Il{f:Nat→Nat→α}(h:i<k):get (tf k n f) i=rf n (f i):=by
 simp[tf,get,List.getD_eq_getElem?_getD,List.getElem?_map,List.getElem?_range h]
theorem Pz{v:α}:List.replicate n v=rf n fun _=>v:=by simp[rf,List.map_const']
theorem Im{f:Nat→Nat→α}:tf k n f++[rf n (f k)]=tf (k+1) n f:=by simp[tf,List.range_succ]
theorem sy{f g:Nat→Nat→α}(h:∀i j,i<k→j<n→f i j=g i j):tf k n f=tf k n g:=
 List.map_congr_left fun i hi=>List.map_congr_left fun j hj=>h i j (List.mem_range.1 hi) (List.mem_range.1 hj)
theorem PA{f:Nat→α}{v:α}:(rf n f).set i v=rf n fun j=>if j=i then v else f j:=by
 apply List.ext_getElem?
 intro j
 simp only[rf,List.getElem?_set,List.getElem?_map,List.length_map,List.length_range]
 by_cases e:i=j
 ·subst e
  by_cases h:i<n
  ·simp[h]
  ·have:(List.range n)[i]? =none:=by simp;omega
   simp[h]
 ·by_cases h:j<n
  ·simp[e,h,Ne.symm e]
  ·simp[e,h]
theorem PB{f:Nat→Nat→α}{v:α}{j:Nat}:(tf k n f).set i ((rf n (f i)).set j v)=tf k n (MO f i j v):=by
 apply List.ext_getElem?
 intro x
 simp only[tf,List.getElem?_set,List.getElem?_map,List.length_map,List.length_range]
 by_cases e:i=x
 ·subst e
  by_cases h:i<k
  ·simp only[h,if_true,if_pos,List.getElem?_range,Option.map_some]
   rw[PA]
   congr 2
   funext j'
   simp[MO]
  ·simp[h]
 ·by_cases h:x<k
  ·simp only[e,if_false,h,List.getElem?_range,Option.map_some]
   congr 2
   funext j'
   simp[MO,Ne.symm e]
  ·simp[e,h]
theorem MQ{f:Nat→Nat→α}{v:α}{j:Nat}:((tf k n f).map (ine E b)).set i (some (.arr 0 1 b (rows E ((rf n (f i)).set j v))))=(tf k n (MO f i j v)).map (ine E b):=by
 rw[ML,PB]
theorem KE{f:Nat→Nat→α}(h:i<k):look ((tf k n f).map (ine E b)) i=some (.arr 0 1 b (rows E (rf n (f i)))):=by
 rw[KD (by rw[sx];exact h),Il h]
def pfl[Inhabited α](f:Nat→Nat→α)(i j:Nat):Nat→Nat→α:=fun i' j'=>if i'<i∨(i'=i∧j'<j)then f i' j' else default
theorem MR[Inhabited α]{f:Nat→Nat→α}:tf k n (pfl f k 0)++[rf n fun _=>default]=tf (k+1) n (pfl f k 0):=by
 rw[←Im]
 have e:(fun _=>default)=pfl f k 0 k:=by funext j;simp[pfl]
 rw[e]
theorem MS[Inhabited α]{f:Nat→Nat→α}{j:Nat}:MO (pfl f i j) i j (f i j)=pfl f i (j+1):=by
 funext i' j'
 unfold MO pfl
 by_cases h:i'=i∧j'=j
 ·obtain⟨rfl,rfl⟩:=h
  simp
 ·rw[if_neg h]
  by_cases h2:i'<i∨(i'=i∧j'<j)
  ·rw[if_pos h2,if_pos (by omega)]
  ·rw[if_neg h2,if_neg (by omega)]
theorem KF[Inhabited α]{f:Nat→Nat→α}:tf (i+1) n (pfl f i n)=tf (i+1) n (pfl f (i+1) 0):=
 sy fun i' j' hi hj=>by
  unfold pfl
  by_cases h:i'<i∨(i'=i∧j'<n)
  ·rw[if_pos h,if_pos (by omega)]
  ·rw[if_neg h,if_neg (by omega)]
theorem MU[Inhabited α]{f:Nat→Nat→α}:tf k n (pfl f k 0)=tf k n f:=
 sy fun i' j' hi hj=>by unfold pfl;rw[if_pos (Or.inl hi)]
end
section
variable {P:Program} {gl:Gl} {N n0:Nat} {keep:List Nat} {Q:AQ} {fr:Fr} {st:St} {c:Code} {id n:Nat}
theorem nq{ρ σ:Type}{body:Nat→σ→Option (Ctl ρ σ σ)}{s0:σ}{kk:σ→Option ρ}{e:ρ}(I:Nat→σ→Fr→St→Prop)(J:σ→Fr→St→Prop)
 (hn:∀k s b,body k s=some b→∃s',b= .nxt s') (h:C2 (D1 body n s0) kk=some e) (h0:I 0 s0 fr st)
 (hs:∀k s s' fr st,k<n→body k s=some (.nxt s')→I k s fr st→AWp P gl N n0 keep c (fun ex fr st=>ex= .normal∧∃F,Fr.leq F fr∧I (k+1) s' F st) fr st)
 (he:∀s fr st,I n s fr st→AWp P gl N n0 keep c (fun ex fr st=>ex= .exit id∧∃F,Fr.leq F fr∧J s F st) fr st)
 (hk:∀s F fr st,kk s=some e→J s F st→Fr.leq F fr→Q .normal fr st):AWp P gl N n0 keep (.block id (.loop c)) Q fr st:=by
 refine yQ ?_
 unfold D1 at h
 have key:∀m k s fr st,k+m=n→C2 (bR body m k s) kk=some e→I k s fr st→AWp P gl N n0 keep (.loop c) (AQ.block id Q) fr st:=by
  intro m
  induction m with
  |zero=>
   intro k s fr st hk' h1 hi
   have:k=n:=by omega
   subst this
   refine rT (rU (he s fr st hi) fun ex fr st hq=>?_)
   obtain⟨rfl,F,hb,hj⟩:=hq
   show AQ.block id Q (.exit id) fr st
   simp only[AQ.block,if_true]
   exact hk s F fr st h1 hj hb
  |succ m ih=>
   intro k s fr st hk' h1 hi
   simp only[bR]at h1
   cases hb:body k s with
   |none=>rw[hb]at h1;cases h1
   |some b=>
    rw[hb]at h1
    obtain⟨s',rfl⟩:=hn k s b hb
    refine rT (rU (hs k s s' fr st (by omega) hb hi) fun ex fr st hq=>?_)
    obtain⟨rfl,F,hb,hi'⟩:=hq
    exact mN hb (ih (k+1) s' F st (by omega) h1 hi')
 exact key n 0 s0 fr st (by omega) h h0
end
def Evt{α:Type}(x:Nat→Option α)(P:α→Prop):Prop:=∃r,P r∧∃N,∀n,N≤n→x n=some r
section
variable {α β ρ σ τ:Type} {P:α→Prop} {Q:β→Prop}
theorem Evt.mono{x:Nat→Option α}{P':α→Prop}(h:Evt x P)(hp:∀r,P r→P' r):Evt x P':=by
 obtain⟨r,hr,N,hN⟩:=h
 exact⟨r,hp r hr,N,hN⟩
theorem Evt.pure{r:α}(h:P r):Evt (fun _=>some r) P:=⟨r,h,0,fun _ _=>rfl⟩
theorem Evt.of{x:Option α}{r:α}(e:x=some r)(h:P r):Evt (fun _=>x) P:=⟨r,h,0,fun _ _=>e⟩
theorem Evt.congr{x y:Nat→Option α}(h:Evt x P)(e:∀n,y n=x n):Evt y P:=by
 obtain⟨r,hr,N,hN⟩:=h
 exact⟨r,hr,N,fun n hn=>(e n).trans (hN n hn)⟩
theorem Evt.succ{x:Nat→Option α}(h:Evt (fun n=>x (n+1)) P):Evt x P:=by
 obtain⟨r,hr,N,hN⟩:=h
 refine⟨r,hr,N+1,fun n hn=>?_⟩
 obtain⟨m,rfl⟩:∃m,n=m+1:=⟨n-1,by omega⟩
 exact hN m (by omega)
theorem Evt.bind{x:Nat→Option α}{f:Nat→α→Option β}(h:Evt x P)(hf:∀r,P r→Evt (fun n=>f n r) Q):Evt (fun n=>(x n).bind (f n)) Q:=by
 obtain⟨r,hr,N,hN⟩:=h
 obtain⟨s,hs,M,hM⟩:=hf r hr
 exact⟨s,hs,max N M,fun n hn=>by show(x n).bind (f n)=_;rw[hN n (by omega)];exact hM n (by omega)⟩
theorem Evt.chk{p:Prop}[Decidable p]{x:Nat→Option α}(hp:p)(h:Evt x P):Evt (fun n=>chk p (x n)) P:=by
 obtain⟨r,hr,N,hN⟩:=h
 exact⟨r,hr,N,fun n hn=>by show Am.chk p (x n)=_;unfold Am.chk;rw[if_pos hp];exact hN n hn⟩
theorem Evt.cW{a:α}{f:Nat→α→Option β}(h:Evt (fun n=>f n a) Q):Evt (fun n=>cW a (f n)) Q:=h
theorem Evt.cond{b:Bool}{x y:Nat→Option α}(h1:b=true→Evt x P)(h2:b=false→Evt y P):Evt (fun n=>bif b then x n else y n) P:=by
 cases b
 ·exact h2 rfl
 ·exact h1 rfl
theorem Evt.gd{G:Bool}{x:Nat→Option α}{d:α}(h1:G=true→Evt x P)(h2:G=false→P d):Evt (fun n=>gd G (x n) d) P:=by
 cases G
 ·exact Evt.pure (h2 rfl)
 ·exact h1 rfl
theorem Evt.C2{x:Nat→Option (Ex ρ τ)}{k:Nat→τ→Option ρ}{P:Ex ρ τ→Prop}{Q:ρ→Prop}(h:Evt x P)(hn:∀t,P (.nxt t)→Evt (fun n=>k n t) Q)(hr:∀r,P (.ret r)→Q r):
 Evt (fun n=>C2 (x n) (k n)) Q:=by
 obtain⟨e,he,N,hN⟩:=h
 cases e with
 |nxt t=>
  obtain⟨s,hs,M,hM⟩:=hn t he
  exact⟨s,hs,max N M,fun n hn=>by simp only[hN n (by omega),Am.C2];exact hM n (by omega)⟩
 |ret r=>exact⟨r,hr r he,N,fun n hn=>by simp only[hN n hn,Am.C2]⟩
def Io(I:σ→Prop)(B:τ→Prop)(R:ρ→Prop):Ctl ρ σ τ→Prop
 | .nxt s=>I s
 | .brk t=>B t
 | .ret x=>R x
def ExP(B:τ→Prop)(R:ρ→Prop):Ex ρ τ→Prop
 | .nxt t=>B t
 | .ret x=>R x
theorem Evt.range{body:Nat→Nat→σ→Option (Ctl ρ σ σ)}{m:Nat}{s0:σ}(I:Nat→σ→Prop)(B:σ→Prop)(R:ρ→Prop)(h0:I 0 s0)
 (hs:∀k s,k<m→I k s→Evt (fun n=>body n k s) (Io (I (k+1)) B R)):
 Evt (fun n=>D1 (body n) m s0) (ExP (fun s=>I m s∨B s) R):=by
 unfold D1
 have key:∀j k s,k+j=m→I k s→Evt (fun n=>bR (body n) j k s) (ExP (fun s=>I m s∨B s) R):=by
  intro j
  induction j with
  |zero=>
   intro k s e hi
   have:k=m:=by omega
   subst this
   exact Evt.pure (.inl hi)
  |succ j ih=>
   intro k s e hi
   obtain⟨c,hc,N,hN⟩:=hs k s (by omega) hi
   cases c with
   |nxt s'=>
    obtain⟨r,hr,M,hM⟩:=ih (k+1) s' (by omega) hc
    exact⟨r,hr,max N M,fun n hn=>by simp only[bR,hN n (by omega)];exact hM n (by omega)⟩
   |brk t=>exact⟨.nxt t,.inr hc,N,fun n hn=>by simp only[bR,hN n hn]⟩
   |ret x=>exact⟨.ret x,hc,N,fun n hn=>by simp only[bR,hN n hn]⟩
 exact key m 0 s0 (by omega) h0
theorem Evt.loop{body:Nat→σ→Option (Ctl ρ σ τ)}{s0:σ}(mu:σ→Nat)(I:σ→Prop)(B:τ→Prop)(R:ρ→Prop)(h0:I s0)
 (hs:∀s,I s→Evt (fun n=>body n s) (Io (fun s'=>I s'∧mu s'<mu s) B R)):
 Evt (fun n=>V2 (body n) n s0) (ExP B R):=by
 have key:∀d s,mu s≤d→I s→∃e,ExP B R e∧∃N,∀n,N≤n→∀f,d<f→V2 (body n) f s=some e:=by
  intro d
  induction d with
  |zero=>
   intro s hd hi
   obtain⟨c,hc,N,hN⟩:=hs s hi
   cases c with
   |nxt s'=>exact absurd hc.2 (by omega)
   |brk t=>refine⟨.nxt t,hc,N,fun n hn f hf=>?_⟩;obtain⟨g,rfl⟩:∃g,f=g+1:=⟨f-1,by omega⟩;simp only[V2,hN n hn]
   |ret x=>refine⟨.ret x,hc,N,fun n hn f hf=>?_⟩;obtain⟨g,rfl⟩:∃g,f=g+1:=⟨f-1,by omega⟩;simp only[V2,hN n hn]
  |succ d ih=>
   intro s hd hi
   obtain⟨c,hc,N,hN⟩:=hs s hi
   cases c with
   |nxt s'=>
    obtain⟨e,he,M,hM⟩:=ih s' (by have:=hc.2;omega) hc.1
    refine⟨e,he,max N M,fun n hn f hf=>?_⟩
    obtain⟨g,rfl⟩:∃g,f=g+1:=⟨f-1,by omega⟩
    simp only[V2,hN n (by omega)]
    exact hM n (by omega) g (by omega)
   |brk t=>refine⟨.nxt t,hc,N,fun n hn f hf=>?_⟩;obtain⟨g,rfl⟩:∃g,f=g+1:=⟨f-1,by omega⟩;simp only[V2,hN n hn]
   |ret x=>refine⟨.ret x,hc,N,fun n hn f hf=>?_⟩;obtain⟨g,rfl⟩:∃g,f=g+1:=⟨f-1,by omega⟩;simp only[V2,hN n hn]
 obtain⟨e,he,N,hN⟩:=key (mu s0) s0 (Nat.le_refl _) h0
 exact⟨e,he,max N (mu s0+1),fun n hn=>hN n (by omega) n (by omega)⟩
end
section
variable {α:Type} {E:α→List D} {b q n k:Nat} {N:St}
def PC(q:Nat)(N:St)(E:α→List D)(b:Nat)(r:List α)(c:D):Prop:=(c= .B3∧r=[])∨∃j g,c= .ref false (q+(j+1)) g 0 r.length∧N[j]? =some (some (.arr g 1 b (rows E r)))
inductive yj(q:Nat)(N:St)(E:α→List D)(b:Nat):List (List D)→List (List α)→Prop
 |nil:yj q N E b [] []
 |cons (r:List α) (c:D) (C:List (List D)) (T:List (List α)) (h:PC q N E b r c) (t:yj q N E b C T):yj q N E b ([c]::C) (r::T)
theorem yj.len{C:List (List D)}{T:List (List α)}(h:yj q N E b C T):C.length=T.length:=by
 induction h with
 |nil=>rfl
 |cons r c C T _ _ ih=>simp[ih]
theorem PC.app{M:St}{r:List α}{c:D}(h:PC q N E b r c):PC q (N++M) E b r c:=by
 rcases h with h|⟨j,g,h1,h2⟩
 ·exact .inl h
 ·exact .inr ⟨j,g,h1,by rw[List.getElem?_append_left (List.getElem?_eq_some_iff.1 h2).1];exact h2⟩
theorem yj.app{M:St}{C:List (List D)}{T:List (List α)}(h:yj q N E b C T):yj q (N++M) E b C T:=by
 induction h with
 |nil=>exact .nil
 |cons r c C T h _ ih=>exact .cons r c C T h.app ih
theorem yj.snoc{C:List (List D)}{T:List (List α)}{r:List α}{c:D}(h:yj q N E b C T)(k:PC q N E b r c):yj q N E b (C++[[c]]) (T++[r]):=by
 induction h with
 |nil=>exact .cons r c [] [] k .nil
 |cons r' c' C T h _ ih=>exact .cons r' c' _ _ h ih
theorem yj.ups[dN E 1]{S T0:St}(hb:1≤b)(hget:∀(j:Nat) x,N[j]? =some x→S[q+(j+1)]? =some x)(hT:T0.length≤q+1){C:List (List D)}{T:List (List α)}(h:yj q N E b C T):kS S T0 C (rows (slc 1 b E) T):=by
 induction h with
 |nil=>exact .nil
 |cons r c C T h _ ih=>
  refine .cons _ _ _ _ (.cons _ _ _ _ ?_ .nil) ih
  rcases h with⟨rfl,h2⟩|⟨j,g,rfl,h2⟩
  ·rw[h2];exact .B3 _ _ _ hb
  ·refine .ref _ _ _ _ _ 1 b (rows E r) _ (hget _ _ h2) ?_ hb (lQ _) ?_
   ·unfold look;rw[List.getElem?_eq_none (by omega)];rfl
   ·rw[List.drop_zero,List.take_of_length_le]
    rw[zV];exact Nat.le_refl _
theorem BF[dN E 1]{s:St}{a c:Ob}{C:List (List D)}{T:List (List α)}{F0 F:Fr}(hb:1≤b)(hsc:nQ s.length s)(hr:yj (s.length+2) N E b C T)(hn:T.length=n)(hac:ScL (s++[some a,some c]).length [some a,some c])
 (h1:∀st T,vF st T F0 F0) (h2:∀st T':St,Up st T' (.ref true (s.length+2) 0 0 n) (.sl false 1 24 (rows (slc 1 b E) T))→vF st T' F0 F)
 (s1:Fr.sc (s++[some a,some c,some (Ob.arr 0 1 24 (rows (slc 1 b E) T))]).length F0) (s2:Fr.sc (s++[some a,some c]).length F):
 BkS s.length F (s++[some a,some c]) F0 (s++(some a::some c::some (.arr 0 1 24 C)::N)):=by
 have k1:BkS s.length F0 (s++[some a,some c,some (.arr 0 1 24 (rows (slc 1 b E) T))]) F0 (s++(some a::some c::some (.arr 0 1 24 C)::N)):=by
  refine jL hsc (.live _ _ _ _ (.same _) (.live _ _ _ _ (.same _) (.live _ _ _ _ (FY.arr _ _ _ _ _ (yj.ups hb (fun j x hx=>?_) (by simp) hr)) (.nil _)))) ?_ (h1 _ _) s1
  ·rw[List.getElem?_append_right (by omega),show s.length+2+(j+1)-s.length=j+3 by omega]
   exact hx
  ·obtain⟨x1,x2,_⟩:=hac
   refine⟨Ob.wI (by simp) x1,Ob.wI (by simp) x2,?_,trivial⟩
   intro e he
   exact Imm.sc (lQ (E:=slc 1 b E) T) _ e he
 refine k1.trans (jL hsc (.live _ _ _ _ (.same _) (.live _ _ _ _ (.same _) (.nil _))) hac (h2 _ _ (.ref _ _ _ _ _ 1 24 (rows (slc 1 b E) T) _ (iC.trans rfl) (cD (by simp)) (by decide) (lQ _) ?_)) s2)
 rw[List.drop_zero,List.take_of_length_le]
 rw[zV];omega
theorem MV{f:Nat→α}:rf (k+1) f=rf k f++[f k]:=by simp[rf,List.range_succ]
theorem PD{st R L S:St}{a b c a' b' c':Ob}(hS:S=st++(some a'::some b'::some c'::R)):Z4 S [(st.length,a),(st.length+1,b),(st.length+2,c)]++L=st++(some a::some b::some c::(R++L)):=by
 subst hS
 simp[Z4,List.set_append_right]
theorem PE{st R L S:St}{a b c r a' b' c':Ob}{i:Nat}(hS:S=st++(some a'::some b'::some c'::R)):Z4 S [(st.length,a),(st.length+1,b),(st.length+2,c),(st.length+2+(i+1),r)]++L=st++(some a::some b::some c::(R.set i (some r)++L)):=by
 subst hS
 simp[Z4,List.set_append_right,Nat.add_assoc]
 rw[show 2+(i+1)=i+1+1+1 by omega];rfl
theorem Lx{N M:St}{i:Nat}{x:Option Ob}:(N++M).set (N.length+i) x=N++M.set i x:=by rw[List.set_append_right _ _ (by omega)];simp
theorem Ip{E:α→List D}{j:Nat}{f:Nat→α}:rows E (rf j f)++[E (f j)]=rows E (rf (j+1) f):=by rw[MV];simp[rows]
end
theorem PF{α:Type}{st T:St}{r:List D}{v:α}{n:Nat}{E:α→List D}(h:Ups st T r (E v)):kS st T (List.replicate n r) (rows E (List.replicate n v)):=by
 induction n with
 |zero=>exact .nil
 |succ n ih=>exact .cons _ _ _ _ h ih
end Go.Am
