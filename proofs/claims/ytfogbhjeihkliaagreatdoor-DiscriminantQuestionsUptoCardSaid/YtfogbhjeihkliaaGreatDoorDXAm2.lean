/-
 AM, part 22: the evaluator's equations, in the form in which 'simp only' runs them.
-/
import Derived.Orders
import Derived.Test.YtfogbhjeihkliaaGreatDoorDXAm1
set_option linter.unusedVariables false
set_option linter.unusedSimpArgs false
namespace Go.Am
open Go
def opk:Op→Nat
 | .call { callee:=.value _,.. }=>2
 | .alloc _| .box _ _| .buildSlice _ _ _| .makeMap _ _| .makeSlice _ _ _| .range _ _| .call { callee:=.builtin .append,.. }=>1
 | _=>0
section
variable {P:Program} {gl:Gl} {N n0:Nat} {ops:Array Oper} {keep:List Nat} {Q:AQ} {fr:Fr} {st:St}
theorem qm(op:Op):(opk op=0→kd op=none∧needs op=false)∧(opk op=1→kd op=none∧needs op=true):=by
 cases op<;>first|exact⟨fun _=>⟨rfl,rfl⟩,fun h=>by cases h⟩|exact⟨fun h=>(by cases h),fun _=>⟨rfl,rfl⟩⟩|skip
 rename_i c
 obtain⟨callee,args,argTypes⟩:=c
 cases callee with
 |builtin b=>cases b<;>first|exact⟨fun _=>⟨rfl,rfl⟩,fun h=>by cases h⟩|exact⟨fun h=>(by cases h),fun _=>⟨rfl,rfl⟩⟩
 |value f=>exact⟨fun h=>(by cases h),fun h=>by cases h⟩
 |invoke r m=>exact⟨fun _=>⟨rfl,rfl⟩,fun h=>by cases h⟩
def PI(want:Bool):D→Option Bool
 | .bool b=>some (b==want)
 | .cond c (.bool b)=>some (c&&(b==want))
 | _=>none
def dlt(N:Nat):Option Nat→Prop
 |some t=>t<N
 |none=>True
def gslot(ops:Array Oper)(j:Nat):Option Nat:=(ops[j]?).bind (·.dst)
def EvR(N:Nat)(dst:Option Nat)(fr:Fr)(st:St)(k:Fr→St→Prop)(r:LR):Prop:=r.ok∧dlt N dst∧k (fr.qh dst r.d) (r.Eb st)
def EvC(P:Program)(gl:Gl)(N:Nat)(dst:Option Nat)(fr:Fr)(st:St)(k:Fr→St→Prop)(ok:Prop)(f:D)(args:List D):Prop:=
 match f with
 | .fn g first cap=>dlt N dst∧ok∧Spec P gl g (first++args++cap) st fun d st'=>k (fr.qh dst d) st'
 | _=>False
def iQ(G:Bool)(p:Prop):Prop:=G=true→p
def PJ(N:Nat)(G:Bool)(dst:Option Nat)(fr:Fr)(st:St)(k:Fr→St→Prop)(r:LR):Prop:=
 iQ G r.ok∧dlt N dst∧k (fr.qh dst (.cond G r.d)) (bif G then r.Eb st else st)
def Ie(P:Program)(gl:Gl)(G:Bool)(dst:Option Nat)(fr:Fr)(st:St)(k:Fr→St→Prop)(g:FuncId)(args:List D):Prop:=
 ∃r ups,(G=true→Spec P gl g args st fun d st'=>d=r∧st'=puts st ups)∧(G=false→puts st ups=st)∧k (fr.qh dst (.cond G r)) (puts st ups)
def OW(P:Program)(gl:Gl)(N:Nat)(G:Bool)(dst:Option Nat)(fr:Fr)(st:St)(k:Fr→St→Prop)(ok:Prop)(f:D)(args:List D):Prop:=
 match f with
 | .fn g first cap=>dlt N dst∧ok∧Ie P gl G dst fr st k g (first++args++cap)
 | _=>False
def Ev0(P:Program)(gl:Gl)(N:Nat)(k:Fr→St→Prop)(dst:Option Nat)(op:Op)(fr:Fr)(st:St):Nat→Prop
 |0=>EvR N dst fr st k (aop P gl true op fr (look st) 0)
 |1=>EvR N dst fr st k (aop P gl true op fr (look (st++[some .resv])) st.length)
 | _=>match op with
  | .call ⟨.value f,args,_⟩=>EvC P gl N dst fr st k (eok gl true fr f∧(∀x∈args.toList,eok gl true fr x)) (ev1 gl fr f) (args.toList.map (ev1 gl fr))
  | _=>False
def EvG(P:Program)(gl:Gl)(N:Nat)(k:Fr→St→Prop)(dst:Option Nat)(op:Op)(fr:Fr)(st:St):Nat→Option Bool→Prop
 |0,some G=>PJ N G dst fr st k (aop P gl G op fr (look st) 0)
 |2,some G=>match op with
  | .call ⟨.value f,args,_⟩=>OW P gl N G dst fr st k (eok gl G fr f∧(∀x∈args.toList,eok gl G fr x)) (ev1 gl fr f) (args.toList.map (ev1 gl fr))
  | _=>False
 | _,_=>False
def KS(fr:Fr)(want:Bool):Option Nat→Option Bool
 |some t=>PI want (fr.get t)
 |none=>none
def Ev(P:Program)(gl:Gl)(N:Nat)(ops:Array Oper)(K:Fr→St→Prop):List Oper→Fr→St→Prop
 | [],fr,st=>K fr st
 |⟨dst,op,_,_,_,none⟩::l,fr,st=>Ev0 P gl N (Ev P gl N ops K l) dst op fr st (opk op)
 |⟨dst,op,_,_,_,some (j,want)⟩::l,fr,st=>EvG P gl N (Ev P gl N ops K l) dst op fr st (opk op) (KS fr want (gslot ops j))
theorem Ig{fr:Fr}{dst:Option Nat}{op:Op}{ty:TypeId}{pos:String}{af:Array Edge}{j:Nat}{want G:Bool}(hg:KS fr want (gslot ops j)=some G):
 guardOf ops fr ⟨dst,op,ty,pos,af,some (j,want)⟩=G∧lA ops fr ⟨dst,op,ty,pos,af,some (j,want)⟩=True:=by
 unfold gslot at hg
 cases hj:(ops[j]?).bind (·.dst)with
 |none=>rw[hj]at hg;cases hg
 |some t=>
  rw[hj]at hg
  simp only[guardOf,lA,hj]
  simp only[KS]at hg
  cases hd:fr.get t<;>rw[hd]at hg<;>simp only[PI]at hg<;>first|(cases hg;done)|skip
  ·cases hg;exact⟨rfl,rfl⟩
  ·rename_i c d
   cases d<;>simp only at hg<;>first|(cases hg;done)|skip
   cases hg;exact⟨rfl,rfl⟩
theorem qo{op:Op}(h:opk op≠0)(h1:opk op≠1):∃f args ats,op= .call ⟨.value f,args,ats⟩:=by
 cases op<;>first|exact absurd rfl h|exact absurd rfl h1|skip
 rename_i c
 obtain⟨callee,args,argTypes⟩:=c
 cases callee with
 |builtin b=>cases b<;>first|exact absurd rfl h|exact absurd rfl h1
 |value f=>exact⟨f,args,argTypes,rfl⟩
 |invoke r m=>exact absurd rfl h
theorem zZ{K:Fr→St→Prop}:∀(l:List Oper) (fr:Fr) (st:St) (ok:Prop),ok→Ev P gl N ops K l fr st→Run P gl N ops l ⟨fr,st,ok⟩ K
 | [],fr,st,ok,hok,h=>⟨hok,h⟩
 |⟨dst,op,ty,pos,af,none⟩::l,fr,st,ok,hok,h=>by
  simp only[Ev]at h
  by_cases h0:opk op=0
  ·rw[h0]at h
   obtain⟨a,b,c⟩:=h
   obtain⟨h1,h2⟩:=(qm op).1 h0
   simp only[Run,h1]
   have:=zZ l _ _ (ok∧sO N ⟨dst,op,ty,pos,af,none⟩∧True∧(true=true→(aop P gl true op fr (look st) 0).ok)) ⟨hok,b,trivial,fun _=>a⟩ c
   simpa only[Gy,h2,guardOf,lA,Ht,cond_true,Bool.false_eq_true,if_false]using this
  ·by_cases h1:opk op=1
   ·rw[h1]at h
    obtain⟨a,b,c⟩:=h
    obtain⟨h1,h2⟩:=(qm op).2 h1
    simp only[Run,h1]
    have:=zZ l _ _ (ok∧sO N ⟨dst,op,ty,pos,af,none⟩∧True∧(true=true→(aop P gl true op fr (look (st++[some .resv])) st.length).ok)) ⟨hok,b,trivial,fun _=>a⟩ c
    simpa only[Gy,h2,guardOf,lA,Ht,cond_true,if_true]using this
   ·obtain⟨f,args,ats,rfl⟩:=qo h0 h1
    simp only[opk,Ev0,EvC]at h
    simp only[Run,kd,guardOf,lA]
    cases hf:ev1 gl fr f<;>rw[hf]at h<;>first|exact h.elim|skip
    obtain⟨a,⟨b,c⟩,d⟩:=h
    exact⟨hok,a,trivial,b,c,d.mono fun d st' h=>zZ l _ _ True trivial h⟩
 |⟨dst,op,ty,pos,af,some (j,want)⟩::l,fr,st,ok,hok,h=>by
  simp only[Ev]at h
  cases hg:KS fr want (gslot ops j)with
  |none=>rw[hg]at h;unfold EvG at h;split at h<;>first|exact h.elim|(rename_i e;cases e)
  |some G=>
   rw[hg]at h
   obtain⟨g1,g2⟩:=Ig (dst:=dst) (op:=op) (ty:=ty) (pos:=pos) (af:=af) hg
   by_cases h0:opk op=0
   ·rw[h0]at h
    obtain⟨a,b,c⟩:=h
    obtain⟨h1,h2⟩:=(qm op).1 h0
    simp only[Run,h1]
    have:=zZ l _ _ (ok∧sO N ⟨dst,op,ty,pos,af,some (j,want)⟩∧True∧(G=true→(aop P gl G op fr (look st) 0).ok)) ⟨hok,b,trivial,a⟩ c
    simpa only[Gy,h2,g1,g2,Ht,Bool.false_eq_true,if_false]using this
   ·by_cases h1:opk op=1
    ·rw[h1]at h;exact h.elim
    ·obtain⟨f,args,ats,rfl⟩:=qo h0 h1
     simp only[opk,EvG,OW]at h
     simp only[Run,kd,g1,g2]
     cases hf:ev1 gl fr f<;>rw[hf]at h<;>first|exact h.elim|skip
     obtain⟨a,⟨b,c⟩,r,ups,d,d2,e⟩:=h
     exact⟨hok,a,trivial,b,c,r,ups,d,d2,zZ l _ _ True trivial e⟩
theorem er_{id:Nat}{l:List Oper}(h:Ev P gl N l.toArray (fun fr st=>Q .normal (Fr.only keep fr) st) l fr st):AWp P gl N n0 keep (.region id l.toArray false) Q fr st:=
 GA (zZ _ _ _ _ trivial h)
def Then(P:Program)(gl:Gl)(N n0:Nat)(keep:List Nat)(c:Code)(Q:AQ)(fr:Fr)(st:St):Prop:=AWp P gl N n0 keep c Q (Fr.only keep fr) st
theorem then_eq{c:Code}:Then P gl N n0 keep c Q fr st=AWp P gl N n0 keep c Q (Fr.only keep fr) st:=rfl
@[congr] theorem Sc{l:List Oper}{K:Fr→St→Prop}{fr fr':Fr}{st st':St}(h:fr=fr')(h2:st=st'):Ev P gl N ops K l fr st=Ev P gl N ops K l fr' st':=by rw[h,h2]
@[congr] theorem PK{dst:Option Nat}{k:Fr→St→Prop}{r r':LR}(h:r=r'):EvR N dst fr st k r=EvR N dst fr st k r':=by rw[h]
@[congr] theorem OX{G:Bool}{dst:Option Nat}{k:Fr→St→Prop}{r r':LR}(h:r=r'):PJ N G dst fr st k r=PJ N G dst fr st k r':=by rw[h]
@[congr] theorem PL{dst:Option Nat}{op:Op}{k:Fr→St→Prop}{n n':Nat}(h:n=n'):Ev0 P gl N k dst op fr st n=Ev0 P gl N k dst op fr st n':=by rw[h]
@[congr] theorem PN{dst:Option Nat}{op:Op}{k:Fr→St→Prop}{n n':Nat}{g g':Option Bool}(h:n=n')(h2:g=g'):EvG P gl N k dst op fr st n g=EvG P gl N k dst op fr st n' g':=by rw[h,h2]
@[congr] theorem PO{dst:Option Nat}{k:Fr→St→Prop}{a a':Prop}{f f':D}{args args':List D}(h:a=a')(h2:f=f')(h3:args=args'):EvC P gl N dst fr st k a f args=EvC P gl N dst fr st k a' f' args':=by rw[h,h2,h3]
@[congr] theorem OY{G:Bool}{dst:Option Nat}{k:Fr→St→Prop}{a a':Prop}{f f':D}{args args':List D}(h:a=a')(h2:f=f')(h3:args=args'):OW P gl N G dst fr st k a f args=OW P gl N G dst fr st k a' f' args':=by rw[h,h2,h3]
@[congr] theorem PS{c:Code}{fr fr':Fr}{st st':St}(h:fr=fr')(h2:st=st'):AWp P gl N n0 keep c Q fr st=AWp P gl N n0 keep c Q fr' st':=by rw[h,h2]
@[congr] theorem OZ{f:FuncId}{args args':List D}{st st':St}{R:D→St→Prop}(h:args=args')(h2:st=st'):Spec P gl f args st R=Spec P gl f args' st' R:=by rw[h,h2]
def rsD(P:Program)(fr:Fr)(st:St):List ResultVar→D
 | [r]=>(nF P st fr r).d
 |rs=>.tup (rs.map fun r=>(nF P st fr r).d)
def Pa(P:Program)(fr:Fr)(st:St):List ResultVar→Prop
 | []=>True
 |r::l=>(nF P st fr r).ok∧Pa P fr st l
def ends(n0:Nat)(R:D→St→Prop)(d:D)(st:St):Prop:=∃s t,st=s++t∧n0≤s.length∧D.sc s.length d∧qN s.length s∧R d s
def SM(P:Program)(rs:List ResultVar)(n0:Nat)(R:D→St→Prop):AQ
 | .exit _,_,_=>False
 | _,fr,st=>Pa P fr st rs∧ends n0 R (rsD P fr st rs) st
theorem Ft{fr:Fr}{st:St}:∀(rs:List ResultVar),Pa P fr st rs→∀r∈rs,(nF P st fr r).ok
 |r::l,h,x,hx=>by
  rcases List.mem_cons.1 hx with e|e
  ·subst e;exact h.1
  ·exact Ft l h.2 x e
@[congr] theorem Pb{n:Nat}{st st':St}{R:D→St→Prop}{d d':D}(h:d=d')(h2:st=st'):ends n R d st=ends n R d' st':=by rw[h,h2]
variable {dst:Option Nat} {k:Fr→St→Prop} {p:Prop} {d:D} {rd:List Nat} {o:Nat} {ob:Ob} {G:Bool} {K:Fr→St→Prop} {op:Op} {l:List Oper}
@[congr] theorem Nn{f:FuncId}{args args':List D}(h:args=args'):Ie P gl G dst fr st k f args=Ie P gl G dst fr st k f args':=by rw[h]
theorem Uh:Ev P gl N ops K [] fr st=K fr st:=rfl
theorem Ui{o:Oper}{l':List Oper}:Ev P gl N ops K (List.append (o::l) l') fr st=Ev P gl N ops K (o::List.append l l') fr st:=rfl
theorem SN{l':List Oper}:Ev P gl N ops K (List.append [] l') fr st=Ev P gl N ops K l' fr st:=rfl
theorem SQ{ty:TypeId}{pos:String}{af:Array Edge}:Ev P gl N ops K (⟨dst,op,ty,pos,af,none⟩::l) fr st=Ev0 P gl N (Ev P gl N ops K l) dst op fr st (opk op):=rfl
theorem Sd{ty:TypeId}{pos:String}{af:Array Edge}{j:Nat}{want:Bool}:Ev P gl N ops K (⟨dst,op,ty,pos,af,some (j,want)⟩::l) fr st=EvG P gl N (Ev P gl N ops K l) dst op fr st (opk op) (KS fr want (gslot ops j)):=rfl
theorem VB:Ev0 P gl N k dst op fr st 0=EvR N dst fr st k (aop P gl true op fr (look st) 0):=rfl
theorem VD:Ev0 P gl N k dst op fr st 1=EvR N dst fr st k (aop P gl true op fr (look (st++[some .resv])) st.length):=rfl
theorem VE{f:Operand}{args:Array Operand}{ats:Array TypeId}:Ev0 P gl N k dst (.call ⟨.value f,args,ats⟩) fr st 2=EvC P gl N dst fr st k (eok gl true fr f∧(∀x∈args.toList,eok gl true fr x)) (ev1 gl fr f) (args.toList.map (ev1 gl fr)):=rfl
theorem VF:EvG P gl N k dst op fr st 0 (some G)=PJ N G dst fr st k (aop P gl G op fr (look st) 0):=rfl
theorem VG{f:Operand}{args:Array Operand}{ats:Array TypeId}:EvG P gl N k dst (.call ⟨.value f,args,ats⟩) fr st 2 (some G)=OW P gl N G dst fr st k (eok gl G fr f∧(∀x∈args.toList,eok gl G fr x)) (ev1 gl fr f) (args.toList.map (ev1 gl fr)):=rfl
theorem PU{t:Nat}{want:Bool}:KS fr want (some t)=PI want (fr.get t):=rfl
theorem PV{b want:Bool}:PI want (.bool b)=some (b==want):=rfl
theorem PW{c b want:Bool}:PI want (.cond c (.bool b))=some (c&&(b==want)):=rfl
theorem VH:EvR N dst fr st k ⟨d,p,rd,none,none⟩=(p∧dlt N dst∧k (fr.qh dst d) st):=rfl
theorem VI:EvR N dst fr st k ⟨d,p,rd,some (o,ob),none⟩=(p∧dlt N dst∧k (fr.qh dst d) (st.set o (some ob))):=rfl
theorem VJ:EvR N dst fr st k ⟨d,p,rd,none,some ob⟩=(p∧dlt N dst∧k (fr.qh dst d) (st++[some ob])):=rfl
theorem Uj:PJ N G dst fr st k ⟨d,p,rd,none,none⟩=(iQ G p∧dlt N dst∧k (fr.qh dst (.cond G d)) st):=by cases G<;>rfl
theorem Uk{g:FuncId}{first cap args:List D}:EvC P gl N dst fr st k p (.fn g first cap) args=(dlt N dst∧p∧Spec P gl g (first++args++cap) st fun d st'=>k (fr.qh dst d) st'):=rfl
theorem SR{g:FuncId}{first cap args:List D}:OW P gl N G dst fr st k p (.fn g first cap) args=(dlt N dst∧p∧Ie P gl G dst fr st k g (first++args++cap)):=rfl
theorem kG{f:FuncId}{args:List D}{r:D}(h:G=true→Pure P gl f args r)(hk:k (fr.qh dst (.cond G r)) st):
 Ie P gl G dst fr st k f args:=
 ⟨r,[],fun e=>h e st,fun _=>rfl,hk⟩
theorem Se{t:Nat}:dlt N (some t)=(t<N):=rfl
theorem Sf:dlt N none=True:=rfl
theorem Ul{up:Option (Nat×Ob)}{nw:Option Ob}{q:Prop}:(LR.mk d p rd up nw).and q=⟨d,q∧p,rd,up,nw⟩:=rfl
variable {keep:List Nat}
theorem get_nil{t:Nat}:Fr.get [] t= .any:=rfl
theorem KT{t k':Nat}{fr:Fr}:Fr.get ((k',d)::fr) t=if k'=t then d else Fr.get fr t:=rfl
theorem Np{t:Nat}:Fr.put [] t d=[(t,d)]:=rfl
theorem KU{t k':Nat}{e:D}{fr:Fr}:Fr.put ((k',e)::fr) t d=if k'=t then(k',d)::fr else(k',e)::Fr.put fr t d:=rfl
theorem Ih{t:Nat}:Fr.qh fr (some t) d=fr.put t d:=rfl
theorem Ii:Fr.qh fr none d=fr:=rfl
theorem KV:Fr.only keep []=[]:=rfl
theorem Ij{t:Nat}{fr:Fr}:Fr.only keep ((t,d)::fr)=if keep.contains t then(t,d)::Fr.only keep fr else Fr.only keep fr:=rfl
theorem cW{s t:St}{k':Nat}:look (s++t) (s.length+k')=look t k':=by
 unfold look;rw[List.getElem?_append_right (by omega)];congr 2;omega
theorem tI{s t:St}:look (s++t) s.length=look t 0:=by
 unfold look;rw[List.getElem?_append_right (by omega)];simp
theorem GC{x:Option Ob}{t:St}:look (x::t) 0=x:=by cases x<;>rfl
theorem GD{x:Option Ob}{t:St}{k':Nat}:look (x::t) (k'+1)=look t k':=rfl
theorem Ik{s t:St}{k':Nat}{x:Option Ob}:(s++t).set (s.length+k') x=s++t.set k' x:=by
 rw[List.set_append_right _ _ (by omega)];congr 2;omega
theorem KW{s t:St}{x:Option Ob}:(s++t).set s.length x=s++t.set 0 x:=by
 rw[List.set_append_right _ _ (by omega)];simp
theorem KX{b:Bool}:D.one (.bool b)=true:=rfl
theorem Nq{k:IntKind}{n:Int}:D.one (.int k n)=true:=rfl
theorem Nr{s:Bs}:D.one (.str s)=true:=rfl
theorem KY:D.one .xg=true:=rfl
theorem KZ:D.one .F6=true:=rfl
theorem La:D.one .qI=true:=rfl
theorem Lb:D.one .Fj=true:=rfl
theorem PX{f:Bool}{n b:Nat}{es:List (List D)}:D.one (.sl f n b es)=true:=rfl
theorem PY{f:Nat}{a b:List D}:D.one (.fn f a b)=true:=rfl
theorem Lc{cs:List D}:D.one (.tg cs)=true:=rfl
theorem Ns{f:Bool}{o g a b:Nat}:D.one (.ref f o g a b)=true:=rfl
theorem Nt{o g i c:Nat}:D.one (.ptr o g i c)=true:=rfl
theorem PZ{o:Nat}:D.one (.mp o)=true:=rfl
theorem Qa{o:Nat}:D.one (.it o)=true:=rfl
theorem Ld{cs:List D}:D.one (.agg cs)=false:=rfl
theorem SS{cs:List D}:mkv true cs= .agg cs:=rfl
theorem SV{x:D}{cs:List D}:mkv false (x::cs)=x:=rfl
end
attribute [go_sem] Ui SN Uh SQ Sd VB VD VE VF VG PU PV PW VH VI VJ Uj Uk SR Se Sf Ul
 then_eq opk aop ev1 ev eok strip DU get_nil KT Np KU Ih Ii KV Ij cW tI GC GD Ik KW
 Bc zO zi sB PB gF tq aK oG qJ tv tC nB cT jD sE wC nC eD uQ aEq aUn kC iF mM bE HB KE KF Mp tD
 D.plain cellsOf mB splice pC Ch nA kA oT qK KD xOk Gs uP assoc Q6 sL tw X4 V6 Cg SS SV KX Nq Nr KY KZ La Lb PX PY Lc Ns Nt PZ Qa Ld xQ elemOf keyOf TK.agg
 AQ.then AQ.block SM nF rsD Pa IntKind.signed
 eq_self true_and and_true and_self implies_true forall_const List.map_cons List.map_nil List.length_cons List.length_nil List.take_succ_cons List.take_zero List.drop_succ_cons List.drop_zero Gr List.cons_append List.nil_append List.append_nil List.all_cons List.all_nil Bool.and_self Bool.and_true Bool.true_and Bool.and_false Bool.false_and
 List.getD_cons_zero List.getD_cons_succ List.getD_nil List.set_cons_zero List.set_cons_succ List.getElem?_cons_zero List.getElem?_cons_succ ne_eq not_false_eq_true Bool.false_eq_true if_true if_false cond_true cond_false List.mem_cons List.not_mem_nil or_false forall_eq forall_eq_or_imp List.append_assoc List.length_append List.replicate_zero List.replicate_succ not_true_eq_false beq_self_eq_true Bool.not_true Bool.not_false List.contains_cons List.contains_nil Bool.or_true Bool.true_or Bool.or_false Bool.false_or
section
variable {P:Program} {gl:Gl} {fr fr':Fr} {lk lk':Look} {q:Nat} {g:Bool} {op:Op}
theorem Qb(H:∀x∈op.operands,ev gl fr x=ev gl fr' x):aop P gl g op fr lk q=aop P gl g op fr' lk q:=by
 have H1:∀x∈op.operands,ev1 gl fr x=ev1 gl fr' x:=fun x h=>by simp only[ev1,H x h]
 have H2:∀g x,x∈op.operands→eok gl g fr x=eok gl g fr' x:=fun g x h=>by simp only[eok,H x h]
 cases op with
 |pick c a b=>
  have k1:=H1 c (by simp[Op.operands])
  have k2:=H1 a (by simp[Op.operands])
  have k3:=H1 b (by simp[Op.operands])
  simp only[aop,k1,k2,k3,fun g=>H2 g c (by simp[Op.operands]),fun g=>H2 g a (by simp[Op.operands]),fun g=>H2 g b (by simp[Op.operands])]
 |build t ps=>
  have h1:(ps.toList.map fun p=>(p.1,ev1 gl fr p.2))=ps.toList.map fun p=>(p.1,ev1 gl fr' p.2):=List.map_congr_left fun p hp=>by rw[H1 p.2 (by simp only[Op.operands,List.mem_toArray,List.mem_map];exact⟨p,hp,rfl⟩)]
  have h2:(∀p∈ps.toList,eok gl g fr p.2)= ∀p∈ps.toList,eok gl g fr' p.2:=forall_congr fun p=>propext ⟨fun h hp=>by rw[←H2 g p.2 (by simp only[Op.operands,List.mem_toArray,List.mem_map];exact⟨p,hp,rfl⟩)];exact h hp,fun h hp=>by rw[H2 g p.2 (by simp only[Op.operands,List.mem_toArray,List.mem_map];exact⟨p,hp,rfl⟩)];exact h hp⟩
  simp only[aop,h1,h2]
 |buildSlice t len ps=>
  have h1:(ps.toList.map fun p=>(p.1,ev1 gl fr p.2))=ps.toList.map fun p=>(p.1,ev1 gl fr' p.2):=List.map_congr_left fun p hp=>by rw[H1 p.2 (by simp only[Op.operands,List.mem_toArray,List.mem_map];exact⟨p,hp,rfl⟩)]
  have h2:(∀p∈ps.toList,eok gl g fr p.2)= ∀p∈ps.toList,eok gl g fr' p.2:=forall_congr fun p=>propext ⟨fun h hp=>by rw[←H2 g p.2 (by simp only[Op.operands,List.mem_toArray,List.mem_map];exact⟨p,hp,rfl⟩)];exact h hp,fun h hp=>by rw[H2 g p.2 (by simp only[Op.operands,List.mem_toArray,List.mem_map];exact⟨p,hp,rfl⟩)];exact h hp⟩
  simp only[aop,h1,h2]
 |makeFunc f a b=>
  cases f with
  |func f=>
   have h1:∀c:Array Operand,(∀x∈c.toList,x∈(Op.makeFunc (.func f) a b).operands)→c.toList.map (ev1 gl fr)=c.toList.map (ev1 gl fr'):=fun c hc=>List.map_congr_left fun x hx=>H1 x (hc x hx)
   have h2:∀c:Array Operand,(∀x∈c.toList,x∈(Op.makeFunc (.func f) a b).operands)→(∀x∈c.toList,eok gl g fr x)= ∀x∈c.toList,eok gl g fr' x:=fun c hc=>
    forall_congr fun x=>propext ⟨fun h hx=>by rw[←H2 g x (hc x hx)];exact h hx,fun h hx=>by rw[H2 g x (hc x hx)];exact h hx⟩
   have ha:∀x∈a.toList,x∈(Op.makeFunc (.func f) a b).operands:=fun x hx=>by simp only[Op.operands,Array.mem_append];exact .inl (by simpa using hx)
   have hb:∀x∈b.toList,x∈(Op.makeFunc (.func f) a b).operands:=fun x hx=>by simp only[Op.operands,Array.mem_append];exact .inr (by simpa using hx)
   simp only[aop,h1 a ha,h1 b hb,h2 a ha,h2 b hb]
  | _=>rfl
 |makeMap t r=>cases r<;>rfl
 |slice t x lo hi mx=>
  have hx:=H1 x (by simp[Op.operands])
  have hx2:=H2 g x (by simp[Op.operands])
  have key:∀z:Option Operand,(∀y∈z,y∈(Op.slice t x lo hi mx).operands)→z.map (ev1 gl fr)=z.map (ev1 gl fr')∧(∀y∈z,eok gl g fr y)= ∀y∈z,eok gl g fr' y:=fun z hz=>by
   cases z with
   |none=>simp
   |some y=>have:=hz y rfl;simp[H1 y this,H2 g y this]
  obtain⟨a1,a2⟩:=key lo (fun y hy=>by cases hy;simp[Op.operands])
  obtain⟨b1,b2⟩:=key hi (fun y hy=>by cases hy;simp[Op.operands])
  obtain⟨c1,c2⟩:=key mx (fun y hy=>by cases hy;simp[Op.operands])
  simp only[aop,hx,hx2,a1,a2,b1,b2,c1,c2]
 |call c=>
  obtain⟨callee,args,ats⟩:=c
  cases callee with
  |value f=>rfl
  |invoke r m=>rfl
  |builtin b=>
   have h1:∀x∈args.toList,ev1 gl fr x=ev1 gl fr' x:=fun x hx=>H1 x (by simp only[Op.operands,Call.operands];simpa using hx)
   have h2:∀x∈args.toList,eok gl g fr x=eok gl g fr' x:=fun x hx=>H2 g x (by simp only[Op.operands,Call.operands];simpa using hx)
   simp only[aop]
   generalize args.toList=l at h1 h2
   split
   ·simp only[List.mem_cons,List.not_mem_nil,or_false,forall_eq]at h1 h2;rw[h1,h2]
   ·simp only[List.mem_cons,List.not_mem_nil,or_false,forall_eq_or_imp,forall_eq]at h1 h2;rw[h1.1,h1.2,h2.1,h2.2]
   ·simp only[List.mem_cons,List.not_mem_nil,or_false,forall_eq_or_imp,forall_eq]at h1 h2;rw[h1.1,h1.2,h2.1,h2.2]
   ·simp only[List.mem_cons,List.not_mem_nil,or_false,forall_eq_or_imp,forall_eq]at h1 h2;rw[h1.1,h1.2,h2.1,h2.2]
   ·simp only[List.mem_cons,List.not_mem_nil,or_false,forall_eq]at h1 h2;rw[h1,h2]
   ·rfl
 | _=>first|rfl|(simp only[Op.operands,List.mem_toArray,List.mem_cons,List.not_mem_nil,or_false,forall_eq_or_imp,forall_eq]at H1 H2;simp only[aop,H1,H2 g,true_or,or_true])
end
def D.top:D→Option Nat
 | .ref _ o _ _ _=>some o
 | .ptr o _ _ _=>some o
 | .mp o=>some o
 | .it o=>some o
 | _=>none
def Loc(f:Look→LR)(ds:List D):Prop:=
 ∀lk,(f lk).ok→(∀o∈(f lk).rd,(∃d∈ds,d.top=some o)∧∃ob,lk o=some ob∧ob≠ .resv)∧∀lk',(∀o∈(f lk).rd,lk' o=lk o)→f lk'=f lk
theorem P9{r:LR}{ds:List D}(h:r.rd=[]):Loc (fun _=>r) ds:=fun _ _=>⟨fun o ho=>(by simp only at ho;rw[h]at ho;cases ho),fun _ _=>rfl⟩
theorem Loc.and{f:Look→LR}{ds:List D}(h:Loc f ds)(p:Prop):Loc (fun lk=>(f lk).and p) ds:=fun lk hok=>
 ⟨(h lk hok.2).1,fun lk' h'=>by show(f lk').and p=(f lk).and p;rw[(h lk hok.2).2 lk' h']⟩
theorem Loc.sub{f:Look→LR}{ds ds':List D}(h:Loc f ds)(hd:∀d∈ds,d∈ds'):Loc f ds':=fun lk hok=>
 ⟨fun o ho=>by obtain⟨⟨d,h1,h2⟩,h3⟩:=(h lk hok).1 o ho;exact⟨⟨d,hd d h1,h2⟩,h3⟩,(h lk hok).2⟩
section
variable {i e:TI} {d x key:D} {n q:Nat}
theorem Fu:Loc (fun lk=>zi i lk d) [d]:=fun lk hok=>by
 cases d with
 |ptr o g k c=>
  simp only[zi]at hok⊢
  cases h:lk o with
  |none=>rw[h]at hok;exact hok.elim
  |some ob=>
   rw[h]at hok
   cases ob with
   |arr g' n' b es=>
    simp only[List.mem_singleton,forall_eq]
    exact⟨⟨⟨_,rfl,rfl⟩,_,h,Ob.noConfusion⟩,fun lk' h'=>by rw[h',h]⟩
   | _=>exact hok.elim
 |tg cs=>exact⟨fun o ho=>(by cases ho),fun _ _=>rfl⟩
 | _=>exact hok.elim
theorem Cu:Loc (fun lk=>sB i lk x d) [d]:=fun lk hok=>by
 cases d with
 |ptr o g k c=>
  simp only[sB]at hok⊢
  cases h:lk o with
  |none=>rw[h]at hok;exact hok.elim
  |some ob=>
   rw[h]at hok
   cases ob with
   |arr g' n' b es=>
    simp only[List.mem_singleton,forall_eq]
    exact⟨⟨⟨_,rfl,rfl⟩,_,h,Ob.noConfusion⟩,fun lk' h'=>by rw[h',h]⟩
   | _=>exact hok.elim
 | _=>exact hok.elim
theorem tJ{y:D}:Loc (fun lk=>aK i e lk x y) [x]:=fun lk hok=>by
 cases y with
 |int kk m=>
  simp only[aK]at hok⊢
  generalize i.k=ik at hok⊢
  cases ik with
  |slice e=>
   cases x with
   |ref full o g off len=>
    simp only at hok⊢
    cases h:lk o with
    |none=>rw[h]at hok;exact hok.elim
    |some ob=>
     rw[h]at hok
     cases ob with
     |arr g' n' b es=>
      simp only[List.mem_singleton,forall_eq]
      exact⟨⟨⟨_,rfl,rfl⟩,_,h,Ob.noConfusion⟩,fun lk' h'=>by rw[h',h]⟩
     | _=>exact hok.elim
   |sl full n' b es=>exact⟨fun o ho=>(by cases ho),fun _ _=>rfl⟩
   | _=>exact hok.elim
  |arr len e=>
   cases x with
   |ptr o g k c=>exact⟨fun o ho=>(by cases ho),fun _ _=>rfl⟩
   |tg cs=>exact⟨fun o ho=>(by cases ho),fun _ _=>rfl⟩
   | _=>exact hok.elim
  | _=>exact hok.elim
 | _=>exact hok.elim
theorem Cv{lo hi mx:Option D}:Loc (fun lk=>qJ i n lk x lo hi mx) [x]:=fun lk hok=>by
 cases x with
 |ref full o g off len=>
  simp only[qJ]at hok⊢
  cases h:lk o with
  |none=>rw[h]at hok;exact hok.elim
  |some ob=>
   rw[h]at hok
   cases ob with
   |arr g' n' b es=>
    simp only[List.mem_singleton,forall_eq]
    exact⟨⟨⟨_,rfl,rfl⟩,_,h,Ob.noConfusion⟩,fun lk' h'=>by rw[h',h]⟩
   | _=>exact hok.elim
 |str s=>exact⟨fun o ho=>(by cases ho),fun _ _=>rfl⟩
 |sl full n' b es=>exact⟨fun o ho=>(by cases ho),fun _ _=>rfl⟩
 |F6=>exact⟨fun o ho=>(by cases ho),fun _ _=>rfl⟩
 | _=>exact hok.elim
theorem Aa{ki vi:TI}{c:Bool}:Loc (fun lk=>nC i ki vi lk c key d) [d]:=fun lk hok=>by
 cases d with
 |mp o=>
  simp only[nC]at hok⊢
  cases h:lk o with
  |none=>rw[h]at hok;exact hok.elim
  |some ob=>
   rw[h]at hok
   cases ob<;>first|(exact hok.elim)|skip
   all_goals
    cases key<;>first|(exact hok.elim)|skip
    simp only[List.mem_singleton,forall_eq]
    exact⟨⟨⟨_,rfl,rfl⟩,_,h,Ob.noConfusion⟩,fun lk' h'=>by rw[h',h]⟩
 | _=>exact hok.elim
theorem Fv{b:Bool}:Loc (fun lk=>wC lk b d) [d]:=fun lk hok=>by
 cases b with
 |false=>exact hok.elim
 |true=>
  cases d with
  |it o=>
   simp only[wC]at hok⊢
   cases h:lk o with
   |none=>rw[h]at hok;exact hok.elim
   |some ob=>
    rw[h]at hok
    cases ob<;>first|(exact hok.elim)|skip
    all_goals
     simp only[List.mem_singleton,forall_eq]
     exact⟨⟨⟨_,rfl,rfl⟩,_,h,Ob.noConfusion⟩,fun lk' h'=>by rw[h',h]⟩
  | _=>exact hok.elim
theorem tK{ki vi:TI}:Loc (fun lk=>eD i ki vi lk key x d) [d]:=fun lk hok=>by
 cases d with
 |mp o=>
  simp only[eD]at hok⊢
  cases h:lk o with
  |none=>rw[h]at hok;exact hok.elim
  |some ob=>
   rw[h]at hok
   cases ob<;>first|(exact hok.elim)|skip
   all_goals
    cases key<;>first|(exact hok.elim)|skip
    simp only[List.mem_singleton,forall_eq]
    exact⟨⟨⟨_,rfl,rfl⟩,_,h,Ob.noConfusion⟩,fun lk' h'=>by rw[h',h]⟩
 | _=>exact hok.elim
theorem Il:Loc (fun lk=>HB i lk d) [d]:=fun lk hok=>by
 cases d with
 |ref full o g off len=>
  simp only[HB]at hok⊢
  cases h:lk o with
  |none=>rw[h]at hok;exact hok.elim
  |some ob=>
   rw[h]at hok
   cases ob with
   |arr g' n' b es=>
    simp only[List.mem_singleton,forall_eq]
    exact⟨⟨⟨_,rfl,rfl⟩,_,h,Ob.noConfusion⟩,fun lk' h'=>by rw[h',h]⟩
   | _=>exact hok.elim
 |mp o=>
  simp only[HB]at hok⊢
  cases h:lk o with
  |none=>rw[h]at hok;exact hok.elim
  |some ob=>
   rw[h]at hok
   cases ob<;>first|(exact hok.elim)|skip
   all_goals
    simp only[List.mem_singleton,forall_eq]
    exact⟨⟨⟨_,rfl,rfl⟩,_,h,Ob.noConfusion⟩,fun lk' h'=>by rw[h',h]⟩
 |str s=>exact⟨fun o ho=>(by cases ho),fun _ _=>rfl⟩
 |sl full n' b es=>exact⟨fun o ho=>(by cases ho),fun _ _=>rfl⟩
 |F6=>exact⟨fun o ho=>(by cases ho),fun _ _=>rfl⟩
 |Fj=>exact⟨fun o ho=>(by cases ho),fun _ _=>rfl⟩
 | _=>exact hok.elim
theorem Le{lk:Look}{news:List (List D)}(h:qK lk e x=some news):(∀o∈KD x,x.top=some o∧∃ob,lk o=some ob∧ob≠ .resv)∧∀lk',(∀o∈KD x,lk' o=lk o)→qK lk' e x=some news:=by
 cases x with
 |ref full o g off len=>
  simp only[qK]at h
  simp only[KD,List.mem_singleton,forall_eq]
  cases hl:lk o with
  |none=>rw[hl]at h;cases h
  |some ob=>
   rw[hl]at h
   cases ob with
   |arr g' n' b es=>exact⟨⟨rfl,_,rfl,Ob.noConfusion⟩,fun lk' h'=>by simp only[qK,h'];exact h⟩
   | _=>cases h
 | _=>exact⟨fun o ho=>(by cases ho),fun _ _=>h⟩
theorem Ab{xk:TK}{s:D}:Loc (fun lk=>bE i e xk lk s x q) [s,x]:=fun lk hok=>by
 simp only[bE]at hok⊢
 cases hn:qK lk e x with
 |none=>rw[hn]at hok;exact hok.elim
 |some news=>
  rw[hn]at hok
  obtain⟨n1,n2⟩:=Le hn
  have hx:∀o∈KD x,(∃d∈ [s,x],d.top=some o)∧∃ob,lk o=some ob∧ob≠ .resv:=fun o ho=>⟨⟨x,by simp,(n1 o ho).1⟩,(n1 o ho).2⟩
  cases s with
  |F6=>exact⟨hx,fun lk' h'=>by simp only[n2 lk' h']⟩
  |sl full n' b es=>
   cases full with
   |true=>exact⟨hx,fun lk' h'=>by simp only[n2 lk' h']⟩
   |false=>exact hok.elim
  |ref full o g off len=>
   cases full<;>
   ·simp only at hok⊢
    cases hl:lk o with
    |none=>rw[hl]at hok;exact hok.elim
    |some ob=>
     rw[hl]at hok
     cases ob with
     |arr g' n' b es=>
      simp only[List.mem_cons,forall_eq_or_imp]
      exact⟨⟨⟨⟨_,.inl rfl,rfl⟩,_,hl,Ob.noConfusion⟩,fun o ho=>by simpa using hx o ho⟩,fun lk' h'=>by simp only[n2 lk' h'.2,h'.1,hl]⟩
     | _=>exact hok.elim
  | _=>exact hok.elim
theorem Bd{parts:List (Nat×D)}:(tv i e parts).rd=[]:=by unfold tv;split<;>rfl
theorem Bf{f:Nat}:(tq i f x).rd=[]:=by unfold tq;(repeat' split)<;>rfl
theorem qX{f:Nat}:(gF i f x).rd=[]:=by unfold gF;(repeat' split)<;>rfl
theorem Bg{y:D}:(oG i e x y).rd=[]:=by unfold oG;(repeat' split)<;>rfl
theorem Im{o:BinOp}{y:D}:(uQ o x y).rd=[]:=by
 unfold uQ
 split
 ·split<;>first|rfl|skip
  split<;>first|rfl|skip
  split<;>first|rfl
 ·split<;>rfl
 ·rfl
theorem Nu{fl:Option (List Nat)}{b:Bool}{y:D}:(aEq i fl b x y).rd=[]:=by unfold aEq;(repeat' split)<;>rfl
theorem Nv{o:UnOp}:(aUn o x).rd=[]:=by
 unfold aUn;split
 ·rfl
 ·rfl
 ·rfl
theorem sQ{x:D}:(iF x).rd=[]:=by unfold iF;(repeat' split)<;>rfl
theorem uW{i e e2:TI}{x:D}:(kC i e e2 x).rd=[]:=by unfold kC;(repeat' split)<;>rfl
theorem uX{ix:Nat}:(mM ix x).rd=[]:=by unfold mM;(repeat' split)<;>rfl
theorem Io{i:TI}:(Mp i x).rd=[]:=by unfold Mp;split<;>rfl
theorem Ip{y:D}:(KE x y).rd=[]:=by unfold KE;split<;>rfl
theorem Iq{y:D}:(KF x y).rd=[]:=by unfold KF;split<;>rfl
theorem Ei{y z:D}:(tD x y z).rd=[]:=by unfold tD;split<;>rfl
theorem Bh:(sE i q x).rd=[]:=by unfold sE;split<;>rfl
theorem uY{b:Bool}:(jD i e b q).rd=[]:=by unfold jD;(repeat' split)<;>rfl
theorem qY{y:D}:(cT i e x y q).rd=[]:=by unfold cT;split<;>rfl
end
theorem Ir{P:Program}{gl:Gl}{fr:Fr}{q:Nat}{g:Bool}{op:Op}:Loc (fun lk=>aop P gl g op fr lk q) (op.operands.toList.map (ev1 gl fr)):=by
 have mem:∀x,x∈op.operands.toList→ev1 gl fr x∈op.operands.toList.map (ev1 gl fr):=fun x hx=>List.mem_map.2 ⟨x,hx,rfl⟩
 have one:∀ {f:Look→LR} {x:Operand},x∈op.operands.toList→Loc f [ev1 gl fr x]→Loc f (op.operands.toList.map (ev1 gl fr)):=fun hx h=>h.sub fun d hd=>by
  rw[List.mem_singleton]at hd;subst hd;exact mem _ hx
 cases op with
 |load t a=>exact one (by simp[Op.operands]) (Fu.and _)
 |store t a x=>exact one (x:=a) (by simp[Op.operands]) (Cu.and _)
 |indexAddr t x y=>exact one (x:=x) (by simp[Op.operands]) (tJ.and _)
 |slice t x lo hi mx=>exact one (x:=x) (by simp[Op.operands]) (Cv.and _)
 |lookup t m k c=>exact one (x:=m) (by simp[Op.operands]) (Aa.and _)
 |mapUpdate t m k x=>exact one (x:=m) (by simp[Op.operands]) (tK.and _)
 |call c=>
  obtain⟨callee,args,ats⟩:=c
  cases callee with
  |value f=>exact P9 rfl
  |invoke r m=>exact P9 rfl
  |builtin b=>
   have hmem:∀x,x∈args.toList→x∈(Op.call ⟨.builtin b,args,ats⟩).operands.toList:=fun x hx=>by simp only[Op.operands,Call.operands];simpa using hx
   simp only[aop]
   generalize hl:args.toList=l at hmem
   split
   ·exact one (hmem _ (by simp)) (Il.and _)
   ·rename_i s x t u _
    exact(Ab.and _).sub fun d hd=>by
     simp only[List.mem_cons,List.not_mem_nil,or_false]at hd
     rcases hd with rfl|rfl
     ·exact mem _ (hmem _ (by simp))
     ·exact mem _ (hmem _ (by simp))
   ·exact(P9 Ip).and _
   ·exact(P9 Iq).and _
   ·exact(P9 Io).and _
   ·exact P9 rfl
 |pick c a b=>exact(P9 Ei).and _
 |box t x=>exact(P9 rfl).and _
 |build t ps=>exact(P9 Bd).and _
 |buildSlice t len ps=>
  simp only[aop]
  cases gl.imm t<;>exact(P9 rfl).and _
 |binOp o t x y u=>
  simp only[aop]
  split<;>first|exact(P9 Nu).and _|exact(P9 Im).and _
 |unOp o t x=>exact(P9 Nv).and _
 |nilCheck x=>exact(P9 sQ).and _
 |convert s t x=>exact(P9 uW).and _
 |makeFunc f a b=>cases f<;>exact P9 rfl
 |makeMap t r=>cases r with
  |none=>exact P9 uY
  |some r=>exact P9 rfl
 |makeSlice t l c=>exact(P9 qY).and _
 |range t x=>exact(P9 Bh).and _
 |next x b=>exact one (x:=x) (by simp[Op.operands]) (Fv.and _)
 |fieldAddr t x f=>exact(P9 qX).and _
 |field t x f=>exact(P9 Bf).and _
 |index t x y=>exact(P9 Bg).and _
 |extract x j=>exact(P9 uX).and _
 | _=>exact P9 rfl
section
variable {P:Program} {gl:Gl} {fr fr':Fr} {q:Nat} {g:Bool} {op:Op} {lk:Look}
theorem qZ{f:Look→LR}{d:D}(h:Loc f [d]){o:Nat}(hok:(f lk).ok)(ho:o∈(f lk).rd):d.top=some o:=by
 obtain⟨⟨e,h1,h2⟩,_⟩:=(h lk hok).1 o ho
 rw[List.mem_singleton]at h1;subst h1;exact h2
theorem Nw{o:Nat}(hok:(aop P gl g op fr lk q).ok)(ho:o∈(aop P gl g op fr lk q).rd):∃x∈op.operands.toList,eok gl g fr x∧(ev1 gl fr x).top=some o:=by
 have none:∀ {r:LR},r.rd=[]→o∈r.rd→∃x∈op.operands.toList,eok gl g fr x∧(ev1 gl fr x).top=some o:=fun h ho=>by rw[h]at ho;cases ho
 cases op with
 |load t a=>exact⟨a,by simp[Op.operands],hok.1.1,qZ Fu hok.2 ho⟩
 |store t a x=>exact⟨a,by simp[Op.operands],hok.1.1,qZ (Cu) hok.2 ho⟩
 |indexAddr t x y=>exact⟨x,by simp[Op.operands],hok.1.1,qZ (tJ) hok.2 ho⟩
 |slice t x lo hi mx=>exact⟨x,by simp[Op.operands],hok.1.1,qZ (Cv) hok.2 ho⟩
 |lookup t m k c=>exact⟨m,by simp[Op.operands],hok.1.1,qZ (Aa) hok.2 ho⟩
 |mapUpdate t m k x=>exact⟨m,by simp[Op.operands],hok.1.1,qZ (tK) hok.2 ho⟩
 |next x b=>exact⟨x,by simp[Op.operands],hok.1,qZ (Fv) hok.2 ho⟩
 |range t x=>exact none Bh ho
 |call c=>
  obtain⟨callee,args,ats⟩:=c
  cases callee with
  |value f=>cases ho
  |invoke r m=>cases ho
  |builtin b=>
   have hmem:∀x,x∈args.toList→x∈(Op.call ⟨.builtin b,args,ats⟩).operands.toList:=fun x hx=>by simp only[Op.operands,Call.operands];simpa using hx
   simp only[aop]at hok ho
   generalize args.toList=l at hmem hok ho
   revert hok ho
   split<;>intro hok ho
   ·exact⟨_,hmem _ (by simp),hok.1,qZ Il hok.2 ho⟩
   ·obtain⟨⟨d,h1,h2⟩,_⟩:=(Ab _ hok.2).1 o ho
    simp only[List.mem_cons,List.not_mem_nil,or_false]at h1
    rcases h1 with rfl|rfl
    ·exact⟨_,hmem _ (by simp),hok.1.1,h2⟩
    ·exact⟨_,hmem _ (by simp),hok.1.2,h2⟩
   ·exact none Ip ho
   ·exact none Iq ho
   ·exact none Io ho
   ·cases ho
 |pick c a b=>exact none Ei ho
 |box t x=>cases ho
 |build t ps=>exact none Bd ho
 |buildSlice t len ps=>revert ho;simp only[aop];cases gl.imm t<;>(intro ho;cases ho)
 |binOp o' t x y u=>
  simp only[aop]at ho
  split at ho<;>first|exact none Nu ho|exact none Im ho
 |unOp o t x=>exact none Nv ho
 |nilCheck x=>exact none sQ ho
 |convert s t x=>exact none uW ho
 |makeFunc f a b=>cases f<;>cases ho
 |makeMap t r=>cases r with
  |none=>exact none uY ho
  |some r=>cases ho
 |makeSlice t l c=>exact none qY ho
 |fieldAddr t x f=>exact none qX ho
 |field t x f=>exact none Bf ho
 |index t x y=>exact none Bg ho
 |extract x j=>exact none uX ho
 | _=>cases ho
theorem VR.Lf{w:World}{μ:Mu}{st:St}{v:Value}{d:D}{o:Nat}(h:VR w μ st v d)(ht:d.top=some o):st[o]? ≠some (some .resv):=by
 cases h with
 |tr h=>cases h<;>cases ht
 |ref=>cases ht;assumption
 |ptr=>cases ht;assumption
 |mp=>cases ht;assumption
 |it=>cases ht;assumption
 | _=>cases ht
def Fw(r:LR):Prop:=∀o ob,r.up=some (o,ob)→o∈r.rd
theorem aT{r:LR}(h:r.up=none):Fw r:=fun o ob e=>by rw[h]at e;cases e
theorem bf{r:LR}{p:Prop}(h:r.still):Fw (r.and p):=aT (by simp only[LR.and];exact h.1)
theorem wS:Fw (aop P gl g op fr lk q):=by
 cases op with
 |store t a x=>
  refine fun o ob e=>?_
  simp only[aop,LR.and,sB]at e⊢
  revert e
  cases ev1 gl fr a<;>try (intro e;cases e;done)
  rename_i o' g' k c
  simp only
  cases lk o' with
  |none=>intro e;cases e
  |some ob'=>cases ob'<;>(intro e;cases e)<;>simp
 |mapUpdate t m k x=>
  refine fun o ob e=>?_
  simp only[aop,LR.and,eD]at e⊢
  revert e
  cases ev1 gl fr m<;>try (intro e;cases e;done)
  rename_i o'
  simp only
  cases lk o' with
  |none=>intro e;cases e
  |some ob'=>cases ob'<;>try (intro e;cases e;done)
             all_goals (cases ev1 gl fr k<;>(intro e;cases e)<;>simp)
 |next x b=>
  refine fun o ob e=>?_
  simp only[aop,LR.and]at e⊢
  cases b with
  |false=>cases e
  |true=>
   revert e
   cases ev1 gl fr x<;>try (intro e;cases e;done)
   simp only[wC]
   rename_i o'
   cases lk o' with
   |none=>intro e;cases e
   |some ob'=>cases ob'<;>(intro e;cases e)<;>simp
 |range t x=>exact aT (xU _ _ _)
 |call c=>
  obtain⟨callee,args,ats⟩:=c
  cases callee with
  |value f=>exact aT rfl
  |invoke r m=>exact aT rfl
  |builtin b=>
   simp only[aop]
   generalize args.toList=l
   split
   ·refine aT ?_
    simp only[LR.and]
    exact(pG _ _ _).1
   ·refine fun o ob e=>?_
    rename_i s x t u _
    simp only[LR.and,bE]at e⊢
    revert e
    cases qK lk (y5 P (elemOf (y5 P t))) (ev1 gl fr x)with
    |none=>intro e;cases e
    |some news=>
     simp only
     cases ev1 gl fr s<;>try (intro e;cases e;done)
     ·rename_i full _ _ _;cases full<;>(intro e;cases e)
     ·rename_i full o' _ _ _
      cases full<;>simp only
      ·cases lk o' with
       |none=>intro e;cases e
       |some ob'=>cases ob'<;>(intro e;cases e)<;>simp
      ·cases lk o' with
       |none=>intro e;cases e
       |some ob'=>cases ob'<;>(intro e;cases e)
   ·refine aT ?_
    simp only[LR.and];exact(rQ _ _).1
   ·refine aT ?_
    simp only[LR.and];exact(rR _ _).1
   ·refine aT ?_
    simp only[LR.and];exact(pH _ _).1
   ·exact aT rfl
 |pick c a b=>exact bf (qW _ _ _)
 |box t x=>exact aT rfl
 |build t ps=>exact bf (qV _ _ _)
 |buildSlice t len ps=>simp only[aop];cases gl.imm t<;>exact aT rfl
 |load t a=>exact bf (qk _ _ _)
 |binOp o t x y u=>
  simp only[aop]
  split<;>first|exact bf (xS _ _ _ _ _)|exact bf (uT _ _ _)
 |unOp o t x=>exact bf (xT _ _)
 |nilCheck x=>exact bf (nE _)
 |convert s t x=>exact bf (oV _ _ _ _)
 |makeFunc f a b=>cases f<;>exact aT rfl
 |makeMap t r=>cases r with
  |none=>simp only[aop,jD];(repeat' split)<;>exact aT rfl
  |some r=>exact aT rfl
 |makeSlice t l c=>simp only[aop,cT];split<;>exact aT rfl
 |slice t x lo hi mx=>exact bf (oH _ _ _ _ _ _ _)
 |fieldAddr t x f=>exact bf (mF _ _ _)
 |field t x f=>exact bf (qT _ _ _)
 |indexAddr t x y=>exact bf (jF _ _ _ _ _)
 |index t x y=>exact bf (qU _ _ _ _)
 |lookup t m k c=>exact bf (mN _ _ _ _ _ _ _)
 |extract x j=>exact bf (oW _ _)
 | _=>exact aT rfl
end
theorem Fx{o:Nat}:∀ {m:List (Nat×Ob)} {s:St},o∉m.map (·.1)→(puts s m)[o]? =s[o]?
 | [],_,_=>rfl
 |(a,x)::m,s,h=>by
  simp only[List.map_cons,List.mem_cons,not_or]at h
  simp only[puts]
  rw[List.getElem?_set,if_neg (fun e=>h.1 e.symm),Fx h.2]
theorem Ac{o:Nat}:∀ {m:List (Nat×Ob)} {s s':St},s[o]? =s'[o]? →(puts s m)[o]? =(puts s' m)[o]?
 | [],_,_,h=>h
 |(a,x)::m,s,s',h=>by
  have ih:=Ac (m:=m) h
  simp only[puts]
  have sg:∀(l:St) (v:Option Ob),(l.set a v)[o]? =if a=o then(l[o]?).map (fun _=>v)else l[o]? :=fun l v=>by
   rw[List.getElem?_set]
   by_cases h:a=o
   ·subst h
    rw[if_pos rfl,if_pos rfl]
    by_cases hl:a<l.length
    ·rw[if_pos hl,List.getElem?_eq_getElem hl];rfl
    ·rw[if_neg hl,List.getElem?_eq_none (by simpa using hl)];rfl
   ·rw[if_neg h,if_neg h]
  rw[sg,sg,ih]
def Bj(P:Program)(G:Gl)(f:FuncId)(args:List D)(rd:List Nat)(st0:St)(r:D)(ups:List (Nat×Ob)):Prop:=
 ∀st,(∀o∈rd,look st o=look st0 o)→Spec P G f args st fun d st'=>d=r∧st'=puts st ups
theorem Pure.loc{P:Program}{G:Gl}{f:FuncId}{args:List D}{st0:St}{r:D}(h:Pure P G f args r):Bj P G f args [] st0 r []:=fun st _=>h st
structure Row where
 o:Oper
 q:Nat
 G:Bool
 r:LR
 ups:List (Nat×Ob)
def Row.d(x:Row):D:=match x.o.guard with
 |none=>x.r.d
 |some _=>.cond x.G x.r.d
def Row.fr(x:Row)(fr:Fr):Fr:=fr.qh x.o.dst x.d
def Row.st(x:Row)(st:St):St:=bif x.G then puts (x.r.app x.q st) x.ups else st
def Row.rd(x:Row):List Nat:=bif x.G then x.r.rd else []
def Row.wr(x:Row):List Nat:=bif x.G then(match x.r.up with|some (o,_)=>[o]|none=>[])++x.ups.map (·.1)else []
structure Fits(P:Program)(gl:Gl)(N:Nat)(ops:Array Oper)(b:Nat)(x:Row)(fr:Fr)(st:St):Prop where
 dst:sO N x.o
 gok:lA ops fr x.o
 hG:x.G=guardOf ops fr x.o
 Fw:Fw x.r∧∀p∈x.ups,p.1∈x.r.rd
 does:x.G=true→(kd x.o.op=none∧x.r=aop P gl true x.o.op fr (look st) x.q∧x.r.ok∧(needs x.o.op=true→st[x.q]? =some (some .resv))∧x.ups=[])∨
  ∃f xs g first cap d rd,kd x.o.op=some (f,xs)∧eok gl true fr f∧(∀y∈xs,eok gl true fr y)∧ev1 gl fr f= .fn g first cap∧Bj P gl g (first++xs.map (ev1 gl fr)++cap) rd st d x.ups∧
   x.r=⟨d,True,rd,none,none⟩∧∀o∈rd,o<b∧∃ob,st[o]? =some (some ob)∧ob≠ .resv
 makes:x.r.new≠none→needs x.o.op=true
section
variable {P:Program} {gl:Gl} {N:Nat} {ops:Array Oper} {w0:World} {μ0:Mu} {st0:St} {x:Row} {b:Nat} {fr fr':Fr} {st st':St} {Q:Exit→Act→World→Prop}
theorem rT{o:Nat}{ob:Ob}:look st o=some ob↔st[o]? =some (some ob):=by
 unfold look
 cases h:st[o]? with
 |none=>simp
 |some y=>cases y<;>simp
theorem Lg{a:Act}{w:World}{μ:Mu}{o:Oper}{q:Nat}(h:uV gl N w0 μ0 st0 fr st a w μ)(hok:(aop P gl true o.op fr (look st) q).ok)(hd:sO N o)(hq:needs o.op=true→st[q]? =some (some .resv)):
 ∃nx v w' μ',(execOp a.eval o).run P w= .ok nx w'∧(nx= .value v∨(nx= .skip∧v=undef))∧
  uV gl N w0 μ0 st0 (fr.qh o.dst (aop P gl true o.op fr (look st) q).d) ((aop P gl true o.op fr (look st) q).app q st) (a.put o.dst v) w' μ':=by
 obtain⟨nx,v,w',μ',h1,h2,h3,h4,h5⟩:=xW (P:=P) (G:=gl) (q:=q) h.sim h.fr h.glob hq hok
 refine⟨nx,v,w',μ',h1,h2,h3,h.glob.step h4,?_,?_,?_,h.step.trans h4⟩
 ·cases vZ:o.dst with
  |none=>exact h.fr.step h4
  |some t=>
   have ht:t<N:=by simpa[sO,vZ]using hd
   exact(h.fr.step h4).put h5 (by rw[h.size];exact ht)
 ·cases vZ:o.dst with
  |none=>exact h.size
  |some t=>simp[Act.put,h.size]
 ·cases vZ:o.dst with
  |none=>exact h.defers
  |some t=>simp[Act.put,h.defers]
theorem Lh{a:Act}{w:World}{μ:Mu}{K:Act→World→Prop}(hc:uV gl N w0 μ0 st0 fr st a w μ)(h:Fits P gl N ops b x fr st)
 (hK:∀a' w' μ',uV gl N w0 μ0 st0 (x.fr fr) (x.st st) a' w' μ'→K a' w'):
 if Region.wanted x.o (yielded ops a.tmps)then x.o.wp P a w K Q∨(x.o.asks P a w∧LetsOut Q)else K (a.put x.o.dst undef) w:=by
 rw[sP hc.fr h.gok, ←h.hG]
 cases hG:x.G with
 |false=>
  simp only[Bool.false_eq_true,if_false]
  have hgs:∃p,x.o.guard=some p:=by
   cases hgd:x.o.guard with
   |none=>have:=h.hG;simp[guardOf,hgd,hG]at this
   |some p=>exact⟨p,rfl⟩
  obtain⟨p,hgs⟩:=hgs
  refine hK _ _ μ ?_
  simp only[Row.fr,Row.st,Row.d,hgs,hG,cond_false]
  exact xY hc h.dst _
 |true=>
  simp only[if_true]
  left
  have wrap:∀ {d:D} {a' w' μ' st'} {v:Value},uV gl N w0 μ0 st0 (fr.qh x.o.dst d) st' (a.put x.o.dst v) w' μ'→x.r.d=d→a'=a.put x.o.dst v→uV gl N w0 μ0 st0 (x.fr fr) st' a' w' μ':=by
   intro d a' w' μ' st' v hc' hd ha
   subst ha;subst hd
   have:=xZ hc' true rfl
   unfold Ht at this
   simp only[Row.fr,Row.d]
   split at this
   ·rename_i e;rw[e];exact this
   ·rename_i e;rw[e];simp only[hG];exact this
  rcases h.does hG with⟨kF,hr,hok,hq,Nx⟩|⟨f,xs,g,first,cap,d,rd,kF,hf,hx,hev,hp,hr,hrd⟩
  ·rw[hr]at hok
   obtain⟨nx,v,w',μ',h1,h2,h3⟩:=Lg (P:=P) (o:=x.o) hc hok h.dst hq
   unfold Oper.wp
   rw[h1]
   have next:K (a.put x.o.dst v) w':=by
    refine hK _ _ μ' ?_
    simp only[Row.st,hG,cond_true,Nx,puts]
    rw[←hr]at h3
    exact wrap h3 rfl rfl
   rcases h2 with rfl|⟨rfl,rfl⟩<;>exact next
  ·obtain⟨_,hspec⟩:=hp st fun _ _=>rfl
   obtain⟨vs,h1,h2,h3⟩:=Bb (P:=P) kF hc.fr hc.glob hf hx hev
   unfold Oper.wp
   rw[h1]
   refine(hspec w μ vs hc.sim hc.glob h2 h3).upon fun e w' ⟨v,d',st',μ',he,⟨hd1,hd2⟩,hs',DB,hv⟩=>?_
   subst he;subst hd1;subst hd2
   refine hK _ _ μ' ?_
   have hst:x.st st=puts st x.ups:=by simp[Row.st,hG,hr,LR.app]
   rw[hst]
   refine wrap (d:=d') ?_ (by rw[hr]) rfl
   refine⟨hs',hc.glob.step DB,?_,?_,?_,hc.step.trans DB⟩
   ·cases vZ:x.o.dst with
    |none=>exact hc.fr.step DB
    |some t=>
     have ht:t<N:=by simpa[sO,vZ]using h.dst
     exact(hc.fr.step DB).put hv (by rw[hc.size];exact ht)
   ·cases vZ:x.o.dst with
    |none=>exact hc.size
    |some t=>simp[Act.put,hc.size]
   ·cases vZ:x.o.dst with
    |none=>exact hc.defers
    |some t=>simp[Act.put,hc.defers]
theorem Fy(hs:∀t∈x.o.looksAt ops,fr'.get t=fr.get t):∀y∈x.o.op.operands,ev gl fr y=ev gl fr' y:=by
 intro y hy
 cases y with
 |tmp t=>exact(hs t (by simp only[Oper.looksAt,List.mem_append,List.mem_filterMap];exact .inl ⟨.tmp t,by simpa using hy,rfl⟩)).symm
 | _=>rfl
theorem Ej(hs:∀t∈x.o.looksAt ops,fr'.get t=fr.get t):guardOf ops fr' x.o=guardOf ops fr x.o∧(lA ops fr' x.o↔lA ops fr x.o):=by
 unfold guardOf lA
 cases hg:x.o.guard with
 |none=>exact⟨rfl,Iff.rfl⟩
 |some p=>
  obtain⟨j,want⟩:=p
  simp only
  cases hd:(ops[j]?).bind (·.dst)with
  |none=>exact⟨rfl,Iff.rfl⟩
  |some t=>
   have:=hs t (by simp only[Oper.looksAt,hg,hd,List.mem_append];exact .inr (by simp))
   simp only[this]
   exact⟨trivial,trivial⟩
theorem Bl{o:Op}{f:Operand}{xs:List Operand}(h:kd o=some (f,xs)):f∈o.operands∧∀y∈xs,y∈o.operands:=by
 cases o<;>simp only[kd]at h<;>first|(cases h;done)|skip
 rename_i c
 obtain⟨callee,args,ats⟩:=c
 cases callee<;>simp only at h<;>first|(cases h;done)|skip
 cases h
 exact⟨by simp[Op.operands,Call.operands],fun y hy=>by simp only[Op.operands,Call.operands,Array.mem_append];exact .inr (by simpa using hy)⟩
theorem Iu{a:Act}{w:World}{μ:Mu}(hc:uV gl N w0 μ0 st0 fr' st' a w μ)(h:Fits P gl N ops b x fr st)(hs:∀t∈x.o.looksAt ops,fr'.get t=fr.get t):
 ∀o∈x.rd,st'[o]? ≠some (some .resv)∨o<b:=by
 intro o ho
 unfold Row.rd at ho
 cases hG:x.G with
 |false=>rw[hG]at ho;cases ho
 |true=>
  rw[hG]at ho
  rcases h.does hG with⟨kF,hr,hok,hq,Nx⟩|⟨f,xs,g,first,cap,d,rd,kF,hf,hx,hev,hp,hr,hrd⟩
  ·rw[hr]at hok
   simp only[cond_true,hr]at ho
   obtain⟨y,h1,h2,h3⟩:=Nw hok ho
   have e:=Fy (gl:=gl) hs y (by simpa using h1)
   have h2':eok gl true fr' y:=by unfold eok at h2 ⊢; rw[←e];exact h2
   have h3':(ev1 gl fr' y).top=some o:=by unfold ev1 at h3 ⊢; rw[←e];exact h3
   exact .inl ((pF hc.fr hc.glob h2').Lf h3')
  ·simp only[hr,cond_true]at ho
   exact .inr (hrd o ho).1
theorem uZ(h:Fits P gl N ops b x fr st):∀o∈x.rd,∃ob,st[o]? =some (some ob)∧ob≠ .resv:=by
 intro o ho
 unfold Row.rd at ho
 cases hG:x.G with
 |false=>rw[hG]at ho;cases ho
 |true=>
  rw[hG]at ho
  rcases h.does hG with⟨kF,hr,hok,hq,Nx⟩|⟨f,xs,g,first,cap,d,rd,kF,hf,hx,hev,hp,hr,hrd⟩
  ·rw[hr]at hok
   simp only[cond_true,hr]at ho
   obtain⟨_,ob,h1,h2⟩:=(Ir (look st) hok).1 o ho
   exact⟨ob,rT.1 h1,h2⟩
  ·simp only[hr,cond_true]at ho
   exact(hrd o ho).2
theorem GF(h:Fits P gl N ops b x fr st)(hs:∀t∈x.o.looksAt ops,fr'.get t=fr.get t)(hm:∀o∈x.rd,look st' o=look st o)
 (hq:needs x.o.op=true→st'[x.q]? =some (some .resv)):Fits P gl N ops b x fr' st':=by
 obtain⟨g1,g2⟩:=Ej hs
 refine⟨h.dst,g2.2 h.gok,by rw[g1];exact h.hG,h.Fw,fun hG=>?_,h.makes⟩
 have hev:=Fy (gl:=gl) hs
 rcases h.does hG with⟨kF,hr,hok,_,Nx⟩|⟨f,xs,g,first,cap,d,rd,kF,hf,hx,he,hp,hr,hrd⟩
 ·refine .inl ⟨kF,?_,hok,hq,Nx⟩
  rw[hr]at hok
  have:x.rd=(aop P gl true x.o.op fr (look st) x.q).rd:=by simp[Row.rd,hG, ←hr]
  rw[this]at hm
  have k:=(Ir (look st) hok).2 (look st') hm
  rw[hr]
  exact k.symm.trans (Qb hev)
 ·obtain⟨m1,m2⟩:=Bl kF
  have e1:∀y∈x.o.op.operands,ev1 gl fr' y=ev1 gl fr y:=fun y hy=>by unfold ev1;rw[hev y hy]
  have e2:∀y∈x.o.op.operands,eok gl true fr y→eok gl true fr' y:=fun y hy=>by unfold eok;rw[hev y hy];exact id
  have hm':∀o∈rd,look st' o=look st o:=fun o ho=>hm o (by simp[Row.rd,hG,hr];exact ho)
  refine .inr ⟨f,xs,g,first,cap,d,rd,kF,e2 f m1 hf,fun y hy=>e2 y (m2 y hy) (hx y hy),by rw[e1 f m1];exact he,?_,hr,fun o ho=>⟨(hrd o ho).1,?_⟩⟩
  ·rw[List.map_congr_left fun y hy=>e1 y (m2 y hy)]
   exact fun st2 h2=>hp st2 fun o ho=>(h2 o ho).trans (hm' o ho)
  ·obtain⟨ob,h1,h2⟩:=(hrd o ho).2
   exact⟨ob,rT.1 ((hm' o ho).trans (rT.2 h1)),h2⟩
end
def Row.ap(x:Row)(s:Fr×St):Fr×St:=(x.fr s.1,x.st s.2)
def Row.tch(x:Row):List Nat:=x.wr++(bif x.G&&x.r.new.isSome then [x.q]else [])
theorem vd{α:Type}(l:List α)(i o:Nat)(v:α):(l.set i v)[o]? =if i=o then(l[o]?).map (fun _=>v)else l[o]? :=by
 rw[List.getElem?_set]
 by_cases h:i=o
 ·subst h
  rw[if_pos rfl,if_pos rfl]
  by_cases hl:i<l.length
  ·rw[if_pos hl,List.getElem?_eq_getElem hl];rfl
  ·rw[if_neg hl,List.getElem?_eq_none (by simpa using hl)];rfl
 ·rw[if_neg h,if_neg h]
theorem wT{x:Row}{st st':St}{o:Nat}(h:st[o]? =st'[o]?):(x.st st)[o]? =(x.st st')[o]? :=by
 unfold Row.st
 cases x.G with
 |false=>exact h
 |true=>
  simp only[cond_true,LR.app]
  refine Ac ?_
  cases x.r.up with
  |none=>cases x.r.new with
   |none=>exact h
   |some ob=>simp only[vd,h]
  |some p=>cases x.r.new with
   |none=>simp only[vd,h]
   |some ob=>simp only[vd,h]
theorem rj{x:Row}{st:St}{o:Nat}(h:o∉x.tch):(x.st st)[o]? =st[o]? :=by
 unfold Row.st
 unfold Row.tch Row.wr at h
 cases hG:x.G with
 |false=>rfl
 |true=>
  rw[hG]at h
  simp only[cond_true,LR.app,List.mem_append,not_or]at h⊢
  obtain⟨⟨h,Nx⟩,h'⟩:=h
  rw[Fx Nx]
  have h:o∉ (match x.r.up with|some (o,_)=>[o]|none=>[])++(bif true&&x.r.new.isSome then [x.q]else []):=by
   simp only[List.mem_append,not_or];exact⟨h,h'⟩
  cases hu:x.r.up with
  |none=>cases hn:x.r.new with
   |none=>rfl
   |some ob=>
    simp[hu,hn]at h
    simp only[vd,if_neg (Ne.symm h)]
  |some p=>cases hn:x.r.new with
   |none=>
    simp[hu,hn]at h
    simp only[vd,if_neg (Ne.symm h)]
   |some ob=>
    simp[hu,hn]at h
    simp only[vd,if_neg (Ne.symm h.1),if_neg (Ne.symm h.2)]
theorem vg{x:Row}{fr:Fr}{t:Nat}(h:x.o.dst≠some t):(x.fr fr).get t=fr.get t:=by
 unfold Row.fr
 cases hd:x.o.dst with
 |none=>rfl
 |some u=>
  simp only[Fr.qh,Fr.AZ]
  rw[if_neg]
  intro e;exact h (by rw[hd,e])
theorem wU{x:Row}{fr fr':Fr}{t:Nat}(h:fr.get t=fr'.get t):(x.fr fr).get t=(x.fr fr').get t:=by
 unfold Row.fr
 cases hd:x.o.dst with
 |none=>exact h
 |some u=>simp only[Fr.qh,Fr.AZ,h]
def Eqv(s s':Fr×St):Prop:=(∀t,s.1.get t=s'.1.get t)∧∀o:Nat,s.2[o]? =s'.2[o]?
theorem Eqv.refl(s:Fr×St):Eqv s s:=⟨fun _=>rfl,fun _=>rfl⟩
theorem Eqv.trans{a b c:Fr×St}(h:Eqv a b)(h':Eqv b c):Eqv a c:=⟨fun t=>(h.1 t).trans (h'.1 t),fun o=>(h.2 o).trans (h'.2 o)⟩
theorem Eqv.symm{a b:Fr×St}(h:Eqv a b):Eqv b a:=⟨fun t=>(h.1 t).symm,fun o=>(h.2 o).symm⟩
theorem Eqv.ap{s s':Fr×St}(h:Eqv s s')(x:Row):Eqv (x.ap s) (x.ap s'):=⟨fun t=>wU (h.1 t),fun o=>wT (h.2 o)⟩
theorem Ny{x y:Row}(hd:∀t,x.o.dst=some t→y.o.dst≠some t)(hm:∀o∈x.tch,o∉y.tch)(s:Fr×St):Eqv (x.ap (y.ap s)) (y.ap (x.ap s)):=by
 refine⟨fun t=>?_,fun o=>?_⟩
 ·simp only[Row.ap]
  by_cases h:x.o.dst=some t
  ·rw[vg (x:=y) (hd t h)]
   exact wU (vg (hd t h))
  ·rw[vg (x:=x) h]
   exact wU (vg h).symm
 ·simp only[Row.ap]
  by_cases h:o∈x.tch
  ·rw[rj (x:=y) (hm o h)]
   exact wT (rj (hm o h))
  ·rw[rj (x:=x) h]
   exact wT (rj h).symm
def full:List Row→Fr×St→Fr×St
 | [],s=>s
 |x::l,s=>full l (x.ap s)
def sel(L:Nat→Bool):Nat→List Row→Fr×St→Fr×St
 | _,[],s=>s
 |i,x::l,s=>sel L (i+1) l (bif L i then x.ap s else s)
theorem Ek{L:Nat→Bool}:∀(l:List Row) (i:Nat) (s s':Fr×St),Eqv s s'→Eqv (sel L i l s) (sel L i l s')
 | [],_,_,_,h=>h
 |x::l,i,s,s',h=>by
  simp only[sel]
  cases L i with
  |true=>exact Ek l _ _ _ (h.ap x)
  |false=>exact Ek l _ _ _ h
theorem vn{L:Nat→Bool}:∀(l1 l2:List Row) (i:Nat) (s:Fr×St),sel L i (l1++l2) s=sel L (i+l1.length) l2 (sel L i l1 s)
 | [],_,_,_=>rfl
 |x::l1,l2,i,s=>by
  simp only[List.cons_append,sel,List.length_cons]
  rw[vn l1 l2 (i+1)]
  congr 1
  omega
theorem yc{L L':Nat→Bool}:∀(l:List Row) (i:Nat) (s:Fr×St),(∀k,i≤k→k<i+l.length→L k=L' k)→sel L i l s=sel L' i l s
 | [],_,_,_=>rfl
 |x::l,i,s,h=>by
  simp only[sel]
  rw[h i (Nat.le_refl _) (by simp)]
  exact yc l _ _ fun k h1 h2=>h k (by omega) (by simp at h2 ⊢; omega)
theorem Iv{L:Nat→Bool}:∀(l:List Row) (i:Nat) (s:Fr×St),(∀k,i≤k→k<i+l.length→L k=true)→sel L i l s=full l s
 | [],_,_,_=>rfl
 |x::l,i,s,h=>by
  simp only[sel,full]
  rw[h i (Nat.le_refl _) (by simp),cond_true]
  exact Iv l _ _ fun k h1 h2=>h k (by omega) (by simp at h2 ⊢; omega)
theorem Fz{L:Nat→Bool}:∀(l:List Row) (i:Nat) (s:Fr×St),(∀k,i≤k→k<i+l.length→L k=false)→sel L i l s=s
 | [],_,_,_=>rfl
 |x::l,i,s,h=>by
  simp only[sel]
  rw[h i (Nat.le_refl _) (by simp),cond_false]
  exact Fz l _ _ fun k h1 h2=>h k (by omega) (by simp at h2 ⊢; omega)
theorem FA{L:Nat→Bool}{x:Row}:∀(l:List Row) (i:Nat) (s:Fr×St),
 (∀k (h:k<l.length),L (i+k)=true→(∀t,x.o.dst=some t→(l[k]).o.dst≠some t)∧∀o∈x.tch,o∉ (l[k]).tch)→Eqv (sel L i l (x.ap s)) (x.ap (sel L i l s))
 | [],_,s,_=>Eqv.refl _
 |y::l,i,s,h=>by
  have hl:∀s,Eqv (sel L (i+1) l (x.ap s)) (x.ap (sel L (i+1) l s)):=fun s=>FA l (i+1) s fun k hk hL=>by
   have:=h (k+1) (by simpa using hk) (by rw[←hL];congr 1;omega)
   simpa using this
  simp only[sel]
  cases hL:L i with
  |false=>exact hl s
  |true=>
   simp only[cond_true]
   obtain⟨h1,h2⟩:=h 0 (by simp) hL
   exact(Ek l (i+1) _ _ (Ny h1 h2 s).symm).trans (hl (y.ap s))
theorem FB{L:Nat→Bool}{t:Nat}:∀(l:List Row) (i:Nat) (s:Fr×St),(∀k (h:k<l.length),L (i+k)=true→(l[k]).o.dst≠some t)→(sel L i l s).1.get t=s.1.get t
 | [],_,_,_=>rfl
 |y::l,i,s,h=>by
  have hl:∀s,(sel L (i+1) l s).1.get t=s.1.get t:=fun s=>FB l (i+1) s fun k hk hL=>by
   have:=h (k+1) (by simpa using hk) (by rw[←hL];congr 1;omega)
   simpa using this
  simp only[sel]
  rw[hl]
  cases hL:L i with
  |false=>rfl
  |true=>exact vg (h 0 (by simp) hL)
theorem El{L:Nat→Bool}{o:Nat}:∀(l:List Row) (i:Nat) (s:Fr×St),(∀k (h:k<l.length),L (i+k)=true→o∉ (l[k]).tch)→(sel L i l s).2[o]? =s.2[o]?
 | [],_,_,_=>rfl
 |y::l,i,s,h=>by
  have hl:∀s,(sel L (i+1) l s).2[o]? =s.2[o]? :=fun s=>El l (i+1) s fun k hk hL=>by
   have:=h (k+1) (by simpa using hk) (by rw[←hL];congr 1;omega)
   simpa using this
  simp only[sel]
  rw[hl]
  cases hL:L i with
  |false=>rfl
  |true=>exact rj (h 0 (by simp) hL)
theorem Cw{L:Nat→Bool}{t:Nat}:∀(l:List Row) (i:Nat) (s s':Fr×St),s.1.get t=s'.1.get t→(∀k (h:k<l.length),L (i+k)=false→(l[k]).o.dst≠some t)→(sel L i l s).1.get t=(full l s').1.get t
 | [],_,_,_,h,_=>h
 |y::l,i,s,s',he,h=>by
  simp only[sel,full]
  refine Cw l (i+1) _ _ ?_ fun k hk hL=>by
   have:=h (k+1) (by simpa using hk) (by rw[←hL];congr 1;omega)
   simpa using this
  cases hL:L i with
  |true=>exact wU he
  |false=>exact he.trans (vg (h 0 (by simp) hL)).symm
theorem FC{L:Nat→Bool}{o:Nat}:∀(l:List Row) (i:Nat) (s s':Fr×St),s.2[o]? =s'.2[o]? →(∀k (h:k<l.length),L (i+k)=false→o∉ (l[k]).tch)→(sel L i l s).2[o]? =(full l s').2[o]?
 | [],_,_,_,h,_=>h
 |y::l,i,s,s',he,h=>by
  simp only[sel,full]
  refine FC l (i+1) _ _ ?_ fun k hk hL=>by
   have:=h (k+1) (by simpa using hk) (by rw[←hL];congr 1;omega)
   simpa using this
  cases hL:L i with
  |true=>exact wT he
  |false=>exact he.trans (rj (h 0 (by simp) hL)).symm
def Trace(P:Program)(gl:Gl)(N:Nat)(ops:Array Oper)(b:Nat):List Row→Fr×St→Prop
 | [],_=>True
 |x::l,s=>Fits P gl N ops b x s.1 s.2∧Trace P gl N ops b l (x.ap s)
def Ord(ops:Array Oper)(i j:Nat):Prop:=
 ∀L:Nat→Bool,(∀k o,L k=true→ops[k]? =some o→∀e∈o.after,Region.binds .any e=true→L e.on=true)→
  (∀o,ops[j]? =some o→∀e∈o.after,Region.binds .any e=true→L e.on=true)→L i=true
def Ind(ops:Array Oper)(x y:Row):Prop:=Oper.apart ops x.o y.o=true∧(∀o∈x.wr,o∉y.rd)∧∀o∈y.wr,o∉x.rd
structure Good(P:Program)(gl:Gl)(N:Nat)(ops:Array Oper)(b:Nat)(rows:List Row)(s0:Fr×St):Prop where
 hO:ops.toList=rows.map (·.o)
 tr:Trace P gl N ops b rows s0
 qs:∀i j (hi:i<rows.length) (hj:j<rows.length),i≠j→needs (rows[i]).o.op=true→needs (rows[j]).o.op=true→(rows[i]).q≠(rows[j]).q
 kept:∀x∈rows,needs x.o.op=true→s0.2[x.q]? =some (some .resv)∧b≤x.q
 fwd:∀i o,ops[i]? =some o→∀e∈o.after,Region.binds .any e=true→e.on<i
 ind:∀i j (hi:i<rows.length) (hj:j<rows.length),i<j→Ord ops i j∨Ind ops (rows[i]) (rows[j])
section
variable {P:Program} {gl:Gl} {N b:Nat} {ops:Array Oper} {w0:World} {μ0:Mu} {st0:St} {rows:List Row} {s0:Fr×St} {Q:Exit→Act→World→Prop}
theorem Em{x:Row}(h:Fw x.r∧∀p∈x.ups,p.1∈x.r.rd){o:Nat}(ho:o∈x.wr):o∈x.rd:=by
 unfold Row.wr at ho
 unfold Row.rd
 cases hG:x.G with
 |false=>rw[hG]at ho;cases ho
 |true=>
  rw[hG]at ho
  simp only[cond_true,List.mem_append]at ho⊢
  rcases ho with ho|ho
  ·cases hu:x.r.up with
   |none=>rw[hu]at ho;cases ho
   |some p=>
    rw[hu]at ho
    simp only[List.mem_singleton]at ho
    exact h.1 o p.2 (by rw[hu,ho])
  ·obtain⟨p,hp,e⟩:=List.mem_map.1 ho
   rw[←e];exact h.2 p hp
theorem nG{x:Row}{o:Nat}(h:o∈x.tch):o∈x.wr∨(o=x.q∧x.r.new≠none):=by
 unfold Row.tch at h
 rcases List.mem_append.1 h with h|h
 ·exact .inl h
 ·right
  cases hG:x.G<;>cases hn:x.r.new<;>simp[hG,hn]at h⊢
  exact h
theorem tL:∀(l1:List Row) {x:Row} {l2:List Row} {s:Fr×St},Trace P gl N ops b (l1++x::l2) s→Fits P gl N ops b x (full l1 s).1 (full l1 s).2
 | [],_,_,_,h=>h.1
 | _::l1,_,_,_,h=>tL l1 h.2
theorem Cx:∀(l1 l2:List Row) (s:Fr×St),Trace P gl N ops b (l1++l2) s→(∀x∈l1,∀y∈l2,needs x.o.op=true→needs y.o.op=true→x.q≠y.q)→
 (∀y∈l2,needs y.o.op=true→s.2[y.q]? =some (some .resv))→∀y∈l2,needs y.o.op=true→(full l1 s).2[y.q]? =some (some .resv)
 | [],_,_,_,_,h=>h
 |x::l1,l2,s,ht,hq,h=>by
  refine Cx l1 l2 (x.ap s) ht.2 (fun z hz=>hq z (by simp[hz])) fun y hy hn=>?_
  have:y.q∉x.tch:=fun hm=>by
   rcases nG hm with hm|⟨e,hm⟩
   ·obtain⟨ob,h1,h2⟩:=uZ ht.1 _ (Em ht.1.Fw hm)
    rw[h y hy hn]at h1
    cases h1;exact h2 rfl
   ·exact hq x (by simp) y hy (ht.1.makes hm) hn e.symm
  simp only[Row.ap]
  rw[rj this]
  exact h y hy hn
def cnt(L:Nat→Bool):Nat→Nat
 |0=>0
 |n+1=>cnt L n+(bif L n then 0 else 1)
theorem FD{L:Nat→Bool}:∀ {n:Nat},cnt L n=0→∀k,k<n→L k=true
 |n+1,h,k,hk=>by
  simp only[cnt]at h
  cases hL:L n with
  |false=>simp[hL]at h
  |true=>
   rcases Nat.lt_or_ge k n with hk'|hk'
   ·exact FD (by simp[hL]at h;exact h) k hk'
   ·have:k=n:=by omega
    rw[this];exact hL
theorem FE{L L':Nat→Bool}:∀ {n:Nat},(∀k,k<n→L k=L' k)→cnt L n=cnt L' n
 |0,_=>rfl
 |n+1,h=>by simp only[cnt];rw[FE fun k hk=>h k (by omega),h n (by omega)]
theorem FH{L L':Nat→Bool}{i:Nat}(hi:L i=false)(hi':L' i=true)(hs:∀k,k≠i→L k=L' k):∀ {n:Nat},i<n→cnt L' n+1=cnt L n
 |n+1,h=>by
  simp only[cnt]
  rcases Nat.lt_or_ge i n with h1|h1
  ·rw[←FH hi hi' hs h1,hs n (by omega)];omega
  ·have:i=n:=by omega
   subst this
   rw[hi,hi',FE (L:=L') (L':=L) fun k hk=>(hs k (by omega)).symm]
   simp
def lst(listed:Array Bool)(i:Nat):Bool:=listed.getD i false
theorem Li{s s':Fr×St}{a:Act}{w:World}{μ:Mu}(h:Eqv s s')(hc:uV gl N w0 μ0 st0 s.1 s.2 a w μ):uV gl N w0 μ0 st0 s'.1 s'.2 a w μ:=by
 have e:s.2=s'.2:=List.ext_getElem? h.2
 rw[e]at hc
 exact⟨hc.sim,hc.glob,fun t=>by rw[←h.1 t];exact hc.fr t,hc.size,hc.defers,hc.step⟩
set_option maxHeartbeats 1000000 in
theorem Iw(hg:Good P gl N ops b rows s0)(hQ:∀a w μ,uV gl N w0 μ0 st0 (full rows s0).1 (full rows s0).2 a w μ→Q .normal a w):
 ∀(fuel:Nat) (listed:Array Bool) (a:Act) (w:World) (μ:Mu),listed.size=rows.length→cnt (lst listed) rows.length≤fuel→
  (∀k o,lst listed k=true→ops[k]? =some o→∀e∈o.after,Region.binds .any e=true→lst listed e.on=true)→
  (∀i j (hi:i<rows.length) (hj:j<rows.length),lst listed j=true→lst listed i=false→needs (rows[i]).o.op=true→(rows[i]).q∉ (rows[j]).rd)→
  uV gl N w0 μ0 st0 (sel (lst listed) 0 rows s0).1 (sel (lst listed) 0 rows s0).2 a w μ→wpAny P .any ops Q fuel listed a w:=by
 have hsz:ops.size=rows.length:=by have:=congrArg List.length hg.hO;simpa using this
 have hop:∀i (h:i<rows.length),ops[i]? =some (rows[i]).o:=fun i h=>by
  have:ops.toList[i]? =(rows.map (·.o))[i]? :=by rw[hg.hO]
  simpa[h]using this
 have hall:∀(listed:Array Bool) (a:Act) (w:World) (μ:Mu),(∀k,k<rows.length→lst listed k=true)→
  uV gl N w0 μ0 st0 (sel (lst listed) 0 rows s0).1 (sel (lst listed) 0 rows s0).2 a w μ→Q .normal a w:=fun listed a w μ h hc=>by
  rw[Iv rows 0 s0 fun k _ hk=>h k (by omega)]at hc
  exact hQ a w μ hc
 have Ix:∀(listed:Array Bool) (i:Nat),listed.size=rows.length→(i∈Region.ready .any ops listed↔i<rows.length∧lst listed i=false∧∀o,ops[i]? =some o→∀e∈o.after,Region.binds .any e=true→lst listed e.on=true):=by
  intro listed i hls
  unfold Region.ready
  simp only[List.mem_filter,List.mem_range,hsz]
  constructor
  ·rintro⟨h1,h2⟩
   rw[hop i h1]at h2⊢
   simp only[Option.map_some,Option.getD_some,Bool.and_eq_true,Bool.not_eq_true',Array.all_eq_true_iff_forall_mem]at h2
   refine⟨h1,?_,fun o ho e he hb=>?_⟩
   ·have:=h2.1
    unfold lst
    simp[Array.getD_eq_getD_getElem?, hls,h1]at this⊢
    exact this
   ·cases ho
    have:=h2.2 e he
    simp only[Bool.or_eq_true,Bool.not_eq_true',hb,Bool.true_eq_false,false_or]at this
    exact this
  ·rintro⟨h1,h2,h3⟩
   refine⟨h1,?_⟩
   rw[hop i h1]at h3⊢
   simp only[Option.map_some,Option.getD_some,Bool.and_eq_true,Bool.not_eq_true',Array.all_eq_true_iff_forall_mem]
   refine⟨?_,fun e he=>?_⟩
   ·unfold lst at h2
    simp[Array.getD_eq_getD_getElem?, hls,h1]at h2⊢
    exact h2
   ·cases hb:Region.binds .any e with
    |false=>simp
    |true=>
     have:=h3 _ rfl e he hb
     unfold lst at this
     rw[this];rfl
 have hnone:∀(listed:Array Bool),listed.size=rows.length→Region.ready .any ops listed=[]→∀k,k<rows.length→lst listed k=true:=by
  intro listed hls hr k
  induction k using Nat.strongRecOn with
  | _ k ih=>
   intro hk
   cases hL:lst listed k with
   |true=>rfl
   |false=>
    exfalso
    have:k∈Region.ready .any ops listed:=(Ix listed k hls).2 ⟨hk,hL,fun o ho e he hb=>by
     have:=hg.fwd k o ho e he hb
     exact ih e.on this (by omega)⟩
    rw[hr]at this;cases this
 intro fuel
 induction fuel with
 |zero=>
  intro listed a w μ hls hc hcl hh hcc
  have ha:=FD (Nat.le_zero.1 hc)
  refine⟨?_,hall listed a w μ ha hcc⟩
  rw[List.eq_nil_iff_forall_not_mem]
  intro i hi
  obtain⟨h1,h2,_⟩:=(Ix listed i hls).1 hi
  rw[ha i h1]at h2;cases h2
 |succ fuel ih=>
  intro listed a w μ hls hc hcl hh hcc
  refine⟨fun hr=>hall listed a w μ (hnone listed hls hr) hcc,fun i hi=>?_⟩
  obtain⟨hil,hLi,haf⟩:=(Ix listed i hls).1 hi
  generalize hx:rows[i]=x
  have sN:rows=rows.take i++x::rows.drop (i+1):=by rw[←hx,List.getElem_cons_drop,List.take_append_drop]
  have Lj:(rows.take i).length=i:=by simp;omega
  have Iy:∀k (hk:k<i),lst listed k=false→Ind ops (rows[k]'(by omega)) x:=fun k hk hL=>by
   rcases hg.ind k i (by omega) hil hk with h|h
   ·have:=h (lst listed) hcl haf
    rw[this]at hL;cases hL
   ·rw[hx]at h;exact h
  have Iz:∀k (hk:i<k) (hkl:k<rows.length),lst listed k=true→Ind ops x (rows[k]):=fun k hk hkl hL=>by
   rcases hg.ind i k hil hkl hk with h|h
   ·have:=h (lst listed) hcl (fun o ho=>hcl k o hL ho)
    rw[this]at hLi;cases hLi
   ·rw[hx]at h;exact h
  have IB:Fits P gl N ops b x (full (rows.take i) s0).1 (full (rows.take i) s0).2:=by
   have ht:=hg.tr
   rw[sN]at ht
   exact tL _ ht
  have Qc:∀k (hk:i≤k) (hkl:k<rows.length),needs (rows[k]).o.op=true→(full (rows.take i) s0).2[(rows[k]).q]? =some (some .resv):=fun k hk hkl hn=>by
   refine Cx (P:=P) (gl:=gl) (N:=N) (ops:=ops) (rows.take i) (rows.drop i) s0 (by rw[List.take_append_drop];exact hg.tr) (fun z hz y hy h1 h2=>?_) (fun y hy hn=>(hg.kept y (List.mem_of_mem_drop hy) hn).1) _ ?_ hn
   ·obtain⟨a',ha',e1⟩:=List.getElem_of_mem hz
    obtain⟨b',hb',e2⟩:=List.getElem_of_mem hy
    simp only[List.getElem_take]at e1
    simp only[List.getElem_drop]at e2
    simp only[List.length_take]at ha'
    simp only[List.length_drop]at hb'
    have:=hg.qs a' (i+b') (by omega) (by omega) (by omega)
    rw[e1,e2]at this
    exact this h1 h2
   ·have:rows[k]=(rows.drop i)[k-i]'(by simp;omega):=by
     rw[List.getElem_drop];congr 1;omega
    rw[this];exact List.getElem_mem _
  have Um:∀j (h:j<rows.length),Fw (rows[j]).r∧∀p∈(rows[j]).ups,p.1∈(rows[j]).r.rd:=fun j h=>by
   have ht:=hg.tr
   have e:rows=rows.take j++rows[j]::rows.drop (j+1):=by rw[List.getElem_cons_drop,List.take_append_drop]
   rw[e]at ht
   exact(tL _ ht).Fw
  have hmk:∀j (h:j<rows.length),(rows[j]).r.new≠none→needs (rows[j]).o.op=true:=fun j h=>by
   have ht:=hg.tr
   have e:rows=rows.take j++rows[j]::rows.drop (j+1):=by rw[List.getElem_cons_drop,List.take_append_drop]
   rw[e]at ht
   exact(tL _ ht).makes
  have hR:∀k (hk:k<rows.length),lst listed k=false→needs (rows[k]).o.op=true→(sel (lst listed) 0 rows s0).2[(rows[k]).q]? =some (some .resv):=fun k hk hL hn=>by
   rw[El rows 0 s0]
   ·exact(hg.kept _ (List.getElem_mem _) hn).1
   ·intro j hj hLj hm
    rw[Nat.zero_add]at hLj
    rcases nG hm with hm|⟨e,hm⟩
    ·exact hh k j hk hj hLj hL hn (Em (Um j hj) hm)
    ·have hne:k≠j:=fun e=>by subst e;rw[hL]at hLj;cases hLj
     exact hg.qs k j hk hj hne hn (hmk j hj hm) e
  have hsel:sel (lst listed) 0 rows s0=sel (lst listed) (i+1) (rows.drop (i+1)) (sel (lst listed) 0 (rows.take i) s0):=by
   conv=>lhs;rw[sN]
   rw[vn,Lj]
   simp only[sel,Nat.zero_add,hLi,cond_false]
  have Mw:∀t∈x.o.looksAt ops,(sel (lst listed) 0 rows s0).1.get t=(full (rows.take i) s0).1.get t:=fun t ht=>by
   rw[hsel,FB]
   ·refine Cw _ _ _ _ rfl fun k hk hL hd=>?_
    simp only[List.length_take]at hk
    rw[Nat.zero_add]at hL
    simp only[List.getElem_take]at hd
    exact(Oper.apart_spec (Iy k (by omega) hL).1).1 t hd ht
   ·intro k hk hL hd
    simp only[List.length_drop]at hk
    simp only[List.getElem_drop]at hd
    exact(Oper.apart_spec (Iz (i+1+k) (by omega) (by omega) hL).1).2.2 t hd ht
  have kX:∀o∈x.rd,∀k (hk:k<rows.length),lst listed k=false→needs (rows[k]).o.op=true→o≠(rows[k]).q:=fun o ho k hk hL hn e=>by
   rcases Iu hcc IB Mw o ho with h|h
   ·rw[e]at h;exact h (hR k hk hL hn)
   ·have:=(hg.kept _ (List.getElem_mem hk) hn).2
    omega
  have Qd:=uZ IB
  have FI:∀o∈x.rd,∀k (hk:i<k) (hkl:k<rows.length),lst listed k=true→o∉ (rows[k]).tch:=fun o ho k hk hkl hL hm=>by
   rcases nG hm with hm|⟨e,hm⟩
   ·exact(Iz k hk hkl hL).2.2 o hm ho
   ·obtain⟨ob,h1,h2⟩:=Qd o ho
    rw[e,Qc k (by omega) hkl (hmk k hkl hm)]at h1
    cases h1;exact h2 rfl
  have SX:∀o∈x.rd,(sel (lst listed) 0 rows s0).2[o]? =(full (rows.take i) s0).2[o]? :=fun o ho=>by
   rw[hsel]
   have e2:(sel (lst listed) (i+1) (rows.drop (i+1)) (sel (lst listed) 0 (rows.take i) s0)).2[o]? =(sel (lst listed) 0 (rows.take i) s0).2[o]? :=El _ _ _ fun k hk hL=>by
    simp only[List.length_drop]at hk
    simp only[List.getElem_drop]
    exact FI o ho (i+1+k) (by omega) (by omega) hL
   rw[e2]
   refine FC _ _ _ _ rfl fun k hk hL hm=>?_
   simp only[List.length_take]at hk
   rw[Nat.zero_add]at hL
   simp only[List.getElem_take]at hm
   rcases nG hm with hm|⟨e,hm⟩
   ·exact(Iy k (by omega) hL).2.1 o hm ho
   ·exact kX o ho k (by omega) hL (hmk k (by omega) hm) e
  have Qe:Fits P gl N ops b x (sel (lst listed) 0 rows s0).1 (sel (lst listed) 0 rows s0).2:=
   GF IB Mw (fun o ho=>by unfold look;rw[SX o ho]) (fun hn=>by have:=hR i hil hLi (by rw[hx];exact hn);rw[hx]at this;exact this)
  have hL':∀k,lst (listed.setIfInBounds i true) k=if k=i then true else lst listed k:=fun k=>by
   unfold lst
   by_cases e:k=i
   ·subst e;rw[if_pos rfl];simp[Array.getD_eq_getD_getElem?, hls,hil]
   ·rw[if_neg e];simp[Array.getD_eq_getD_getElem?, Array.getElem?_setIfInBounds_ne (Ne.symm e)]
  unfold wpOp
  rw[hop i hil,hx]
  refine Lh hcc Qe fun a' w' μ' hc'=>?_
  refine ih _ a' w' μ' (by simpa using hls) ?_ ?_ ?_ ?_
  ·have:=FH (L:=lst listed) (L':=lst (listed.setIfInBounds i true)) hLi (by rw[hL',if_pos rfl]) (fun k hk=>by rw[hL',if_neg hk]) hil
   omega
  ·intro k o hk ho e he hb
   rw[hL']at hk⊢
   split
   ·rfl
   ·by_cases hki:k=i
    ·subst hki;exact haf o ho e he hb
    ·rw[if_neg hki]at hk;exact hcl k o hk ho e he hb
  ·intro k j hk hj hLj hLk hn
   rw[hL']at hLj hLk
   have hki:k≠i:=fun e=>by rw[if_pos e]at hLk;cases hLk
   rw[if_neg hki]at hLk
   by_cases hji:j=i
   ·subst hji
    rw[hx]
    intro hm
    exact kX _ hm k hk hLk hn rfl
   ·rw[if_neg hji]at hLj
    exact hh k j hk hj hLj hLk hn
  ·refine Li (s:=x.ap (sel (lst listed) 0 rows s0)) ?_ hc'
   have e1:sel (lst (listed.setIfInBounds i true)) 0 rows s0=sel (lst listed) (i+1) (rows.drop (i+1)) (x.ap (sel (lst listed) 0 (rows.take i) s0)):=by
    conv=>lhs;rw[sN]
    rw[vn,Lj]
    simp only[sel,Nat.zero_add]
    rw[hL',if_pos rfl,cond_true]
    rw[yc (L':=lst listed) (rows.take i) 0 s0 fun k _ hk=>by
     simp only[List.length_take]at hk
     rw[hL',if_neg (by omega)]]
    exact yc _ _ _ fun k hk _=>by rw[hL',if_neg (by omega)]
   rw[e1,hsel]
   refine(FA _ _ _ fun k hk hL=>?_).symm
   simp only[List.length_drop]at hk
   simp only[List.getElem_drop]
   have hI:=Iz (i+1+k) (by omega) (by omega) hL
   refine⟨(Oper.apart_spec hI.1).2.1,fun o ho hm=>?_⟩
   rcases nG ho with ho|⟨e,ho⟩
   ·exact FI o (Em IB.Fw ho) (i+1+k) (by omega) (by omega) hL hm
   ·have hn:=IB.makes ho
    rcases nG hm with hm|⟨e',hm⟩
    ·have:=hh i (i+1+k) hil (by omega) hL hLi (by rw[hx];exact hn)
     rw[hx, ←e]at this
     exact this (Em (Um _ (by omega)) hm)
    ·have:=hg.qs i (i+1+k) hil (by omega) (by omega) (by rw[hx];exact hn) (hmk _ (by omega) hm)
     rw[hx]at this
     exact this (e.symm.trans e')
end
abbrev Log:=List (List Nat×List Nat)
def SY(rd up:List Nat):Log→Prop
 | []=>True
 |(rd',up')::l=>(∀o∈up,o∉rd')∧(∀o∈up',o∉rd)∧SY rd up l
def Mx:Log→Prop
 | []=>True
 |(rd,up)::l=>SY rd up l∧Mx l
def upL(r:LR):List Nat:=match r.up with|some (o,_)=>[o]|none=>[]
def rm(tr:Bool)(lg:Log)(r:LR)(ups:List (Nat×Ob)):Log:=bif tr then lg++[(r.rd,upL r++ups.map (·.1))]else lg
def Lk(N q:Nat)(tr:Bool)(dst:Option Nat)(lg:Log)(fr:Fr)(st:St)(k:Log→Fr→St→Prop)(r:LR):Prop:=
 r.ok∧dlt N dst∧k (rm tr lg r []) (fr.qh dst r.d) (r.app q st)
def GH(P:Program)(gl:Gl)(b:Nat)(tr:Bool)(dst:Option Nat)(lg:Log)(fr:Fr)(st:St)(k:Log→Fr→St→Prop)(g:FuncId)(args:List D):Prop:=
 ∃r rd ups,Bj P gl g args rd st r ups∧(∀p∈ups,p.1∈rd)∧(∀o∈rd,o<b∧∃ob,look st o=some ob∧ob≠ .resv)∧(tr=false→rd=[])∧k (rm tr lg ⟨r,True,rd,none,none⟩ ups) (fr.qh dst r) (puts st ups)
def Cy(P:Program)(gl:Gl)(b:Nat)(G tr:Bool)(dst:Option Nat)(lg:Log)(fr:Fr)(st:St)(k:Log→Fr→St→Prop)(g:FuncId)(args:List D):Prop:=
 ∃r rd ups,(G=true→Bj P gl g args rd st r ups)∧(∀p∈ups,p.1∈rd)∧(∀o∈rd,o<b∧∃ob,look st o=some ob∧ob≠ .resv)∧(tr=false→rd=[])∧(G=false→puts st ups=st)∧k (rm tr lg ⟨r,True,rd,none,none⟩ ups) (fr.qh dst (.cond G r)) (puts st ups)
def Pc(P:Program)(gl:Gl)(N b:Nat)(tr:Bool)(dst:Option Nat)(lg:Log)(fr:Fr)(st:St)(k:Log→Fr→St→Prop)(ok:Prop)(f:D)(args:List D):Prop:=
 match f with
 | .fn g first cap=>dlt N dst∧ok∧GH P gl b tr dst lg fr st k g (first++args++cap)
 | _=>False
def En(N q:Nat)(G:Bool)(tr:Bool)(dst:Option Nat)(lg:Log)(fr:Fr)(st:St)(k:Log→Fr→St→Prop)(r:LR):Prop:=
 iQ G r.ok∧dlt N dst∧k (rm tr lg r []) (fr.qh dst (.cond G r.d)) (bif G then r.app q st else st)
def GI(P:Program)(gl:Gl)(N b:Nat)(G:Bool)(tr:Bool)(dst:Option Nat)(lg:Log)(fr:Fr)(st:St)(k:Log→Fr→St→Prop)(ok:Prop)(f:D)(args:List D):Prop:=
 match f with
 | .fn g first cap=>dlt N dst∧ok∧Cy P gl b G tr dst lg fr st k g (first++args++cap)
 | _=>False
def Mz(P:Program)(gl:Gl)(N b q:Nat)(tr:Bool)(k k1:Log→Fr→St→Prop)(dst:Option Nat)(op:Op)(lg:Log)(fr:Fr)(st:St):Nat→Prop
 |0=>Lk N q tr dst lg fr st k (aop P gl true op fr (look st) q)
 |1=>Lk N q tr dst lg fr st k1 (aop P gl true op fr (look st) q)
 | _=>match op with
  | .call ⟨.value f,args,_⟩=>Pc P gl N b tr dst lg fr st k (eok gl true fr f∧(∀x∈args.toList,eok gl true fr x)) (ev1 gl fr f) (args.toList.map (ev1 gl fr))
  | _=>False
def Ll(P:Program)(gl:Gl)(N b q:Nat)(tr:Bool)(k k1:Log→Fr→St→Prop)(dst:Option Nat)(op:Op)(lg:Log)(fr:Fr)(st:St):Nat→Option Bool→Prop
 |0,some G=>En N q G tr dst lg fr st k (aop P gl G op fr (look st) q)
 |1,some G=>En N q G tr dst lg fr st k1 (aop P gl G op fr (look st) q)
 |2,some G=>match op with
  | .call ⟨.value f,args,_⟩=>GI P gl N b G tr dst lg fr st k (eok gl G fr f∧(∀x∈args.toList,eok gl G fr x)) (ev1 gl fr f) (args.toList.map (ev1 gl fr))
  | _=>False
 | _,_=>False
def EvD(P:Program)(gl:Gl)(N:Nat)(ops:Array Oper)(b:Nat)(trk:List Nat)(K:Fr→St→Prop):List Oper→Nat→Nat→Log→Fr→St→Prop
 | [],_,_,lg,fr,st=>Mx lg∧K fr st
 |⟨dst,op,_,_,_,none⟩::l,i,k,lg,fr,st=>Mz P gl N b (b+k) (trk.contains i) (EvD P gl N ops b trk K l (i+1) k) (EvD P gl N ops b trk K l (i+1) (k+1)) dst op lg fr st (opk op)
 |⟨dst,op,_,_,_,some (j,want)⟩::l,i,k,lg,fr,st=>Ll P gl N b (b+k) (trk.contains i) (EvD P gl N ops b trk K l (i+1) k) (EvD P gl N ops b trk K l (i+1) (k+1)) dst op lg fr st (opk op) (KS fr want (gslot ops j))
def rds:Op→Bool
 | .load _ _| .store _ _ _| .indexAddr _ _ _| .slice _ _ _ _ _| .lookup _ _ _ _| .mapUpdate _ _ _ _| .next _ _| .call { callee:=.builtin .len,.. }| .call { callee:=.builtin .append,.. }=>true
 | _=>false
def wrs:Op→Bool
 | .store _ _ _| .mapUpdate _ _ _ _| .next _ _| .call { callee:=.builtin .append,.. }=>true
 | _=>false
def zo(trk:List Nat)(i:Nat)(o:Op):Bool:=(kd o).isSome&&trk.contains i
def IC(tbl:List Nat)(o:Oper):Nat:=o.after.toList.foldl (fun s e=>bif Region.binds .any e then s|||2^e.on|||tbl.getD e.on 0 else s) 0
def masks:List Oper→List Nat→List Nat
 | [],tbl=>tbl
 |o::l,tbl=>masks l (tbl++[IC tbl o])
def MA(ops:Array Oper)(trk:List Nat)(m i j:Nat):Bool:=
 Nat.testBit m i||(match ops[i]?, ops[j]? with
  |some x,some y=>Oper.apart ops x y&&((!((wrs x.op||zo trk i x.op)&&(rds y.op||zo trk j y.op))&& !((wrs y.op||zo trk j y.op)&&(rds x.op||zo trk i x.op)))||(trk.contains i&&trk.contains j))
  | _,_=>false)
def Bm(ops:Array Oper)(trk:List Nat):Bool:=
 let tbl:=masks ops.toList []
 (List.range ops.size).all fun j=>
  (match ops[j]? with|some o=>o.after.toList.all fun e=> !Region.binds .any e||Nat.blt e.on j|none=>true)&&
  (List.range j).all fun i=>MA ops trk (tbl.getD j 0) i j
theorem GJ{tbl:List Nat}{o:Oper}{j:Nat}(h:Nat.testBit (IC tbl o) j=true):∃e∈o.after,Region.binds .any e=true∧(e.on=j∨Nat.testBit (tbl.getD e.on 0) j=true):=by
 have key:∀(l:List Edge) (s:Nat),Nat.testBit (l.foldl (fun s e=>bif Region.binds .any e then s|||2^e.on|||tbl.getD e.on 0 else s) s) j=true→
  Nat.testBit s j=true∨∃e∈l,Region.binds .any e=true∧(e.on=j∨Nat.testBit (tbl.getD e.on 0) j=true):=by
  intro l
  induction l with
  |nil=>intro s h;exact .inl h
  |cons e l ih=>
   intro s h
   simp only[List.foldl_cons]at h
   rcases ih _ h with h|⟨e',h1,h2⟩
   ·cases hb:Region.binds .any e with
    |false=>rw[hb]at h;exact .inl h
    |true=>
     rw[hb]at h
     simp only[cond_true,Nat.testBit_or,Bool.or_eq_true,Nat.testBit_two_pow,decide_eq_true_eq]at h
     rcases h with(h|h)|h
     ·exact .inl h
     ·exact .inr ⟨e,by simp,hb,.inl h⟩
     ·exact .inr ⟨e,by simp,hb,.inr h⟩
   ·exact .inr ⟨e',by simp[h1],h2⟩
 rcases key _ 0 h with h|⟨e,h1,h2⟩
 ·simp at h
 ·exact⟨e,by simpa using h1,h2⟩
theorem Cz{ops:Array Oper}:∀(l:List Oper) (tbl:List Nat),ops.toList.drop tbl.length=l→
 (∀j,j<tbl.length→∀i,Nat.testBit (tbl.getD j 0) i=true→Ord ops i j)→∀j i,Nat.testBit ((masks l tbl).getD j 0) i=true→Ord ops i j
 | [],tbl,_,h,j,i,hb=>by
  rcases Nat.lt_or_ge j tbl.length with hj|hj
  ·exact h j hj i hb
  ·simp only[masks]at hb
   rw[List.getD_eq_getElem?_getD,List.getElem?_eq_none hj]at hb
   simp at hb
 |o::l,tbl,hl,h,j,i,hb=>by
  simp only[masks]at hb
  have ho:ops[tbl.length]? =some o:=by
   have:(ops.toList.drop tbl.length)[0]? =some o:=by rw[hl];rfl
   simpa[List.getElem?_drop]using this
  refine Cz l (tbl++[IC tbl o]) ?_ ?_ j i hb
  ·have:=congrArg List.tail hl
   simpa[List.tail_drop]using this
  ·intro j hj i hb
   rcases Nat.lt_or_ge j tbl.length with hj'|hj'
   ·rw[List.getD_eq_getElem?_getD,List.getElem?_append_left hj', ←List.getD_eq_getElem?_getD]at hb
    exact h j hj' i hb
   ·have:j=tbl.length:=by simp at hj;omega
    subst this
    rw[List.getD_eq_getElem?_getD,List.getElem?_append_right (Nat.le_refl _)]at hb
    simp only[Nat.sub_self,List.getElem?_cons_zero,Option.getD_some]at hb
    obtain⟨e,h1,h2,h3⟩:=GJ hb
    intro L hcl haf
    have hon:=haf o ho e h1 h2
    rcases h3 with rfl|h3
    ·exact hon
    ·rcases Nat.lt_or_ge e.on tbl.length with hlt|hge
     ·exact h e.on hlt i h3 L hcl fun o' ho' e' he' hb'=>hcl e.on o' hon ho' e' he' hb'
     ·rw[List.getD_eq_getElem?_getD,List.getElem?_eq_none hge]at h3
      simp at h3
section
variable {P:Program} {gl:Gl} {N:Nat} {ops:Array Oper} {fr:Fr} {st:St} {q:Nat} {g:Bool} {op:Op} {lk:Look}
theorem Lm(h:rds op=false):(aop P gl g op fr lk q).rd=[]:=by
 cases op with
 |load|store|indexAddr|slice|lookup|mapUpdate|next=>cases h
 |range t x=>exact Bh
 |call c=>
  obtain⟨callee,args,ats⟩:=c
  cases callee with
  |value f=>rfl
  |invoke r m=>rfl
  |builtin b=>
   cases b<;>first|(cases h;done)|skip
   all_goals
    simp only[aop]
    generalize args.toList=l
    generalize ats.toList=l'
    first|rfl|(split<;>first|contradiction|rfl|exact Ip|exact Iq|exact Io)
 |pick c a b=>exact Ei
 |build t ps=>exact Bd
 |buildSlice t len ps=>simp only[aop];cases gl.imm t<;>rfl
 |binOp o t x y u=>
  simp only[aop]
  split<;>first|exact Nu|exact Im
 |unOp o t x=>exact Nv
 |nilCheck x=>exact sQ
 |convert s t x=>exact uW
 |makeFunc f a b=>cases f<;>rfl
 |makeMap t r=>cases r with
  |none=>exact uY
  |some r=>rfl
 |makeSlice t l c=>exact qY
 |fieldAddr t x f=>exact qX
 |field t x f=>exact Bf
 |index t x y=>exact Bg
 |extract x j=>exact uX
 | _=>rfl
theorem Nz(h:wrs op=false)(hr:rds op=true):(aop P gl g op fr lk q).up=none:=by
 cases op<;>first|(cases h;done)|(cases hr;done)|skip
 case load=>exact(qk _ _ _).1
 case indexAddr=>exact(jF _ _ _ _ _).1
 case slice=>exact(oH _ _ _ _ _ _ _).1
 case lookup=>exact(mN _ _ _ _ _ _ _).1
 case call c=>
  obtain⟨callee,args,ats⟩:=c
  cases callee with
  |value f=>rfl
  |invoke r m=>rfl
  |builtin b=>
   cases b<;>first|(cases h;done)|(cases hr;done)|skip
   simp only[aop]
   generalize args.toList=l
   generalize ats.toList=l'
   first|rfl|(split<;>first|contradiction|rfl|exact(pG _ _ _).1|exact(pH _ _).1)
theorem wV{b:Nat}{x:Row}(h:Fits P gl N ops b x fr st)(hr:rds x.o.op=false)(hc:kd x.o.op≠none→x.r.rd=[]):x.rd=[]:=by
 unfold Row.rd
 cases hG:x.G with
 |false=>rfl
 |true=>
  rcases h.does hG with⟨_,e,_⟩|⟨_,_,_,_,_,_,_,e,_⟩
  ·rw[e];exact Lm hr
  ·exact hc (by rw[e];simp)
theorem FJ{b:Nat}{x:Row}(h:Fits P gl N ops b x fr st)(hw:wrs x.o.op=false)(hc:kd x.o.op≠none→x.r.rd=[]):x.wr=[]:=by
 cases hr:rds x.o.op with
 |false=>
  have:=wV h hr hc
  rw[List.eq_nil_iff_forall_not_mem]
  intro o ho
  have:=Em h.Fw ho
  rw[wV h hr hc]at this;cases this
 |true=>
  unfold Row.wr
  cases hG:x.G with
  |false=>rfl
  |true=>
   rcases h.does hG with⟨_,e,_,_,hu⟩|⟨_,_,_,_,_,_,_,e,_⟩
   ·rw[e,Nz hw hr,hu];rfl
   ·rw[List.eq_nil_iff_forall_not_mem]
    intro o ho
    have h1:o∈x.wr:=by unfold Row.wr;rw[hG];exact ho
    have h2:=Em h.Fw h1
    unfold Row.rd at h2
    rw[hG,hc (by rw[e];simp)]at h2
    cases h2
end
def pJ:List Oper→Nat
 | []=>0
 |o::l=>pJ l+(bif needs o.op then 1 else 0)
def qOk:Nat→List Row→Prop
 | _,[]=>True
 |q,x::l=>x.q=q∧qOk (bif needs x.o.op then q+1 else q) l
def tM(trk:List Nat):Nat→List Row→Log
 | _,[]=>[]
 |i,x::l=>bif trk.contains i then(x.r.rd,upL x.r++x.ups.map (·.1))::tM trk (i+1) l else tM trk (i+1) l
def nrd(trk:List Nat):Nat→List Row→Prop
 | _,[]=>True
 |i,x::l=>(trk.contains i=false→kd x.o.op≠none→x.r.rd=[])∧nrd trk (i+1) l
theorem MB{trk:List Nat}:∀(l:List Row) (i j:Nat) (h:j<l.length),nrd trk i l→trk.contains (i+j)=false→kd (l[j]).o.op≠none→(l[j]).r.rd=[]
 |x::l,i,0,_,h,ht,hc=>h.1 (by simpa using ht) hc
 |x::l,i,j+1,hj,h,ht,hc=>MB l (i+1) j (by simpa using hj) h.2 (by rw[←ht];congr 1;omega) hc
section
variable {P:Program} {gl:Gl} {N:Nat} {ops:Array Oper} {b:Nat} {trk:List Nat} {K:Fr→St→Prop} {w0:World} {μ0:Mu} {st0:St} {Q:Exit→Act→World→Prop}
theorem IE{x:Row}{fr:Fr}{st:St}{q:Nat}(h:Fits P gl N ops b x fr st)(hq:st[q]? =some (some .resv))(hne:needs x.o.op=true→q≠x.q):(x.st st)[q]? =some (some .resv):=by
 rw[rj fun hm=>?_]
 ·exact hq
 ·rcases nG hm with hm|⟨e,hm⟩
  ·obtain⟨ob,h1,h2⟩:=uZ h _ (Em h.Fw hm)
   rw[hq]at h1;cases h1;exact h2 rfl
  ·exact hne (h.makes hm) e
theorem pK{o:Oper}{l:List Oper}{i k:Nat}{lg:Log}{fr:Fr}{st:St}(x:Row)(hx:x.o=o)(hq:x.q=b+k)(hf:Fits P gl N ops b x fr st)(hnr:trk.contains i=false→kd x.o.op≠none→x.r.rd=[])
 (hk:∀m,k≤m→m<k+pJ (o::l)→st[b+m]? =some (some .resv))
 (ih:(∀m,(bif needs o.op then k+1 else k)≤m→m<(bif needs o.op then k+1 else k)+pJ l→(x.st st)[b+m]? =some (some .resv))→
  ∃rows:List Row,rows.map (·.o)=l∧qOk (b+(bif needs o.op then k+1 else k)) rows∧Trace P gl N ops b rows (x.ap (fr,st))∧K (full rows (x.ap (fr,st))).1 (full rows (x.ap (fr,st))).2∧Mx (rm (trk.contains i) lg x.r x.ups++tM trk (i+1) rows)∧nrd trk (i+1) rows):
 ∃rows:List Row,rows.map (·.o)=o::l∧qOk (b+k) rows∧Trace P gl N ops b rows (fr,st)∧K (full rows (fr,st)).1 (full rows (fr,st)).2∧Mx (lg++tM trk i rows)∧nrd trk i rows:=by
 obtain⟨rows,h1,h2,h3,h4,h5,h6⟩:=ih fun m h1 h2=>by
  refine IE hf (hk m ?_ ?_) fun hn=>?_
  ·cases hn:needs o.op<;>simp[hn]at h1<;>omega
  ·simp only[pJ];cases hn:needs o.op<;>simp[hn]at h2⊢ <;>omega
  ·rw[hx]at hn
   rw[hq]
   simp[hn]at h1;omega
 refine⟨x::rows,by simp[hx,h1],⟨hq,?_⟩,⟨hf,h3⟩,h4,?_,hnr,h6⟩
 ·rw[hx]
  cases hn:needs o.op<;>simp[hn]at h2⊢
  ·exact h2
  ·exact h2
 ·simp only[tM]
  unfold rm at h5
  cases ht:trk.contains i with
  |false=>rw[ht]at h5;exact h5
  |true=>
   rw[ht]at h5
   simp only[cond_true,List.append_assoc,List.cons_append,List.nil_append]at h5⊢
   exact h5
set_option maxHeartbeats 1000000 in
theorem sR:∀(l:List Oper) (i k:Nat) (lg:Log) (fr:Fr) (st:St),EvD P gl N ops b trk K l i k lg fr st→
 (∀m,k≤m→m<k+pJ l→st[b+m]? =some (some .resv))→
 ∃rows:List Row,rows.map (·.o)=l∧qOk (b+k) rows∧Trace P gl N ops b rows (fr,st)∧K (full rows (fr,st)).1 (full rows (fr,st)).2∧Mx (lg++tM trk i rows)∧nrd trk i rows
 | [],i,k,lg,fr,st,h,_=>⟨[],rfl,trivial,trivial,h.2,by simpa[tM]using h.1,trivial⟩
 |⟨dst,op,ty,pos,af,none⟩::l,i,k,lg,fr,st,h,hk=>by
  simp only[EvD]at h
  by_cases h0:opk op=0
  ·rw[h0]at h
   obtain⟨h1,h2⟩:=(qm op).1 h0
   obtain⟨a,c,d⟩:=h
   refine pK ⟨_,b+k,true,aop P gl true op fr (look st) (b+k),[]⟩ rfl rfl ⟨c,trivial,rfl,⟨wS,fun _ h=>(by cases h)⟩,fun _=>.inl ⟨h1,rfl,a,(fun hn=>by rw[h2]at hn;cases hn),rfl⟩,fun hn=>absurd (Ed h2) hn⟩ (fun _ hc=>absurd h1 hc) hk ?_
   rw[h2]
   exact fun hk'=>sR l _ _ _ _ _ d hk'
  ·by_cases h1':opk op=1
   ·rw[h1']at h
    obtain⟨h1,h2⟩:=(qm op).2 h1'
    obtain⟨a,c,d⟩:=h
    refine pK ⟨_,b+k,true,aop P gl true op fr (look st) (b+k),[]⟩ rfl rfl ⟨c,trivial,rfl,⟨wS,fun _ h=>(by cases h)⟩,fun _=>.inl ⟨h1,rfl,a,fun hn=>hk k (Nat.le_refl _) ?_,rfl⟩,fun _=>h2⟩ (fun _ hc=>absurd h1 hc) hk ?_
    ·simp only[pJ,h2,cond_true];omega
    ·rw[h2]
     exact fun hk'=>sR l _ _ _ _ _ d hk'
   ·obtain⟨f,args,ats,rfl⟩:=qo h0 h1'
    simp only[opk,Mz,Pc]at h
    cases hf:ev1 gl fr f<;>rw[hf]at h<;>first|exact h.elim|skip
    obtain⟨a,⟨c,d⟩,r,rd,ups,hp,hu,hrd,htr,e⟩:=h
    refine pK ⟨_,b+k,true,⟨r,True,rd,none,none⟩,ups⟩ rfl rfl ⟨a,trivial,rfl,⟨aT rfl,hu⟩,fun _=>.inr ⟨f,args.toList,_,_,_,r,rd,rfl,c,d,hf,hp,rfl,fun o ho=>⟨(hrd o ho).1,let ⟨ob,h1,h2⟩:=(hrd o ho).2;⟨ob,rT.1 h1,h2⟩⟩⟩,fun hn=>absurd rfl hn⟩ (fun ht _=>htr ht) hk ?_
    exact fun hk'=>sR l _ _ _ _ _ e hk'
 |⟨dst,op,ty,pos,af,some (j,want)⟩::l,i,k,lg,fr,st,h,hk=>by
  simp only[EvD]at h
  cases hg:KS fr want (gslot ops j)with
  |none=>rw[hg]at h;unfold Ll at h;split at h<;>first|exact h.elim|(rename_i e;cases e)
  |some G=>
   rw[hg]at h
   obtain⟨g1,g2⟩:=Ig (dst:=dst) (op:=op) (ty:=ty) (pos:=pos) (af:=af) hg
   by_cases h0:opk op=0
   ·rw[h0]at h
    obtain⟨a,c,d⟩:=h
    obtain⟨h1,h2⟩:=(qm op).1 h0
    refine pK ⟨_,b+k,G,aop P gl G op fr (look st) (b+k),[]⟩ rfl rfl ⟨c,g2.symm▸trivial,g1.symm,⟨wS,fun _ h=>(by cases h)⟩,fun(hG:G=true)=>.inl ⟨h1,by subst hG;rfl,a hG,(fun hn=>by rw[h2]at hn;cases hn),rfl⟩,fun hn=>absurd (Ed h2) hn⟩ (fun _ hc=>absurd h1 hc) hk ?_
    rw[h2]
    exact fun hk'=>sR l _ _ _ _ _ d hk'
   ·by_cases h1:opk op=1
    ·rw[h1]at h
     obtain⟨a,c,d⟩:=h
     obtain⟨h2,h3⟩:=(qm op).2 h1
     refine pK ⟨_,b+k,G,aop P gl G op fr (look st) (b+k),[]⟩ rfl rfl ⟨c,g2.symm▸trivial,g1.symm,⟨wS,fun _ h=>(by cases h)⟩,fun(hG:G=true)=>.inl ⟨h2,by subst hG;rfl,a hG,fun hn=>hk k (Nat.le_refl _) ?_,rfl⟩,fun _=>h3⟩ (fun _ hc=>absurd h2 hc) hk ?_
     ·simp only[pJ,h3,cond_true];omega
     ·rw[h3]
      exact fun hk'=>sR l _ _ _ _ _ d hk'
    ·obtain⟨f,args,ats,rfl⟩:=qo h0 h1
     simp only[opk,Ll,GI]at h
     cases hf:ev1 gl fr f<;>rw[hf]at h<;>first|exact h.elim|skip
     obtain⟨a,⟨c,d⟩,r,rd,ups,hp,hu,hrd,htr,hgf,e⟩:=h
     refine pK ⟨_,b+k,G,⟨r,True,rd,none,none⟩,ups⟩ rfl rfl ⟨a,g2.symm▸trivial,g1.symm,⟨aT rfl,hu⟩,fun(hG:G=true)=>.inr ⟨f,args.toList,_,_,_,r,rd,rfl,by subst hG;exact c,by subst hG;exact d,hf,hp hG,rfl,fun o ho=>⟨(hrd o ho).1,let ⟨ob,h1,h2⟩:=(hrd o ho).2;⟨ob,rT.1 h1,h2⟩⟩⟩,fun hn=>absurd rfl hn⟩ (fun ht _=>htr ht) hk ?_
     have es:(bif G then puts ((LR.mk r True rd none none).app (b+k) st) ups else st)=puts st ups:=by
      cases G with
      |true=>rfl
      |false=>exact(hgf rfl).symm
     intro hk'
     simp only[Row.ap,Row.st,Row.fr,Row.d,es]at hk'⊢
     exact sR l _ _ _ _ _ e hk'
theorem IG:∀(l:List Row) (q:Nat),qOk q l→∀j (h:j<l.length),q≤(l[j]).q∧(needs (l[j]).o.op=true→(l[j]).q<q+pJ (l.map (·.o)))
 |x::l,q,h,0,_=>by
  refine⟨Nat.le_of_eq h.1.symm,fun hn=>?_⟩
  simp only[List.getElem_cons_zero]at hn⊢
  rw[h.1]
  simp only[List.map_cons,pJ,hn,cond_true];omega
 |x::l,q,h,j+1,hj=>by
  have:=IG l _ h.2 j (by simpa using hj)
  simp only[List.getElem_cons_succ,List.map_cons,pJ]
  cases hn:needs x.o.op<;>simp only[hn,cond_true,cond_false]at this⊢
  ·exact⟨this.1,fun h=>by have:=this.2 h;omega⟩
  ·exact⟨by omega,fun h=>by have:=this.2 h;omega⟩
theorem II:∀(l:List Row) (q:Nat),qOk q l→∀i j (hi:i<l.length) (hj:j<l.length),i<j→needs (l[i]).o.op=true→(l[i]).q<(l[j]).q
 |x::l,q,h,0,j+1,_,hj,_,hn=>by
  simp only[List.getElem_cons_zero,List.getElem_cons_succ]at hn⊢
  have:=(IG l _ h.2 j (by simpa using hj)).1
  rw[hn,cond_true]at this
  rw[h.1];omega
 |x::l,q,h,i+1,j+1,hi,hj,hij,hn=>by
  simp only[List.getElem_cons_succ]at hn⊢
  exact II l _ h.2 i j (by simpa using hi) (by simpa using hj) (by omega) hn
theorem IJ{rd up:List Nat}:∀ {lg:Log},SY rd up lg→∀y∈lg,(∀o∈up,o∉y.1)∧∀o∈y.2,o∉rd
 |(rd',up')::l,h,y,hy=>by
  rcases List.mem_cons.1 hy with e|e
  ·subst e
   exact⟨h.1,h.2.1⟩
  ·exact IJ h.2.2 y e
theorem CA{trk:List Nat}:∀(l:List Row) (i j:Nat) (h:j<l.length),trk.contains (i+j)=true→((l[j]).r.rd,upL (l[j]).r++(l[j]).ups.map (·.1))∈tM trk i l
 |x::l,i,0,_,ht=>by simp only[tM,Nat.add_zero]at ht ⊢; rw[ht];simp
 |x::l,i,j+1,hj,ht=>by
  have:=CA l (i+1) j (by simpa using hj) (by rw[←ht];congr 1;omega)
  simp only[tM,List.getElem_cons_succ]
  cases trk.contains i with
  |true=>exact List.mem_cons_of_mem _ this
  |false=>exact this
theorem Qf{x:Row}{o:Nat}(h:o∈x.wr):o∈upL x.r++x.ups.map (·.1):=by
 unfold Row.wr at h
 cases hG:x.G<;>rw[hG]at h<;>simp only[cond_true,cond_false]at h
 ·cases h
 ·exact h
theorem Qg{x:Row}{o:Nat}(h:o∈x.rd):o∈x.r.rd:=by
 unfold Row.rd at h
 cases hG:x.G<;>rw[hG]at h
 ·cases h
 ·exact h
theorem IK{trk:List Nat}:∀(l:List Row) (i:Nat),Mx (tM trk i l)→∀j m (hj:j<l.length) (hm:m<l.length),j<m→trk.contains (i+j)=true→trk.contains (i+m)=true→
 (∀o∈(l[j]).wr,o∉ (l[m]).rd)∧∀o∈(l[m]).wr,o∉ (l[j]).rd
 |x::l,i,h,0,m+1,_,hm,_,t1,t2=>by
  simp only[tM,Nat.add_zero]at h t1
  rw[t1]at h
  have:=IJ h.1 _ (CA l (i+1) m (by simpa using hm) (by rw[←t2];congr 1;omega))
  simp only[List.getElem_cons_zero,List.getElem_cons_succ]
  exact⟨fun o ho ho'=>this.1 o (Qf ho) (Qg ho'),fun o ho ho'=>this.2 o (Qf ho) (Qg ho')⟩
 |x::l,i,h,j+1,m+1,hj,hm,hjm,t1,t2=>by
  have h':Mx (tM trk (i+1) l):=by
   simp only[tM]at h
   cases ht:trk.contains i with
   |true=>rw[ht]at h;exact h.2
   |false=>rw[ht]at h;exact h
  simp only[List.getElem_cons_succ]
  exact IK l (i+1) h' j m (by simpa using hj) (by simpa using hm) (by omega) (by rw[←t1];congr 1;omega) (by rw[←t2];congr 1;omega)
theorem Ad{rows:List Row}{s:Fr×St}(h:Trace P gl N ops b rows s)(j:Nat)(hj:j<rows.length):∃s':Fr×St,Fits P gl N ops b (rows[j]) s'.1 s'.2:=by
 have e:rows=rows.take j++rows[j]::rows.drop (j+1):=by rw[List.getElem_cons_drop,List.take_append_drop]
 rw[e]at h
 exact⟨_,tL _ h⟩
theorem FK{fr:Fr}{a:Act}{w:World}:∀(n:Nat) {st:St} {μ:Mu},uV gl N w0 μ0 st0 fr st a w μ→∃μ',uV gl N w0 μ0 st0 fr (st++List.replicate n (some .resv)) a w μ'
 |0,st,μ,h=>⟨μ,by simpa using h⟩
 |n+1,st,μ,h=>by
  obtain⟨k1,k2⟩:=wP h.sim
  obtain⟨μ',h'⟩:=FK n (st:=st++[some .resv]) ⟨k1,h.glob.step k2,h.fr.step k2,h.size,h.defers,h.step.trans k2⟩
  exact⟨μ',by simpa[List.replicate_succ,List.append_assoc]using h'⟩
theorem GK{fr:Fr}{a:Act}{w:World}{st:St}{μ:Mu}(h:uV gl N w0 μ0 st0 fr st a w μ):uV gl N w0 μ0 st0 fr st a { w with drawn:=w.drawn+1 } μ:=by
 have step:Step w μ st { w with drawn:=w.drawn+1 } μ st:=⟨Nat.le_refl _,rfl,rfl,⟨rfl,Nat.le_succ _⟩,fun _ _ _=>rfl,fun _ h=>.inl h,Nat.le_refl _,fun _ ob' _ h=>⟨ob',h,by
  cases ob' with
  |arr g n b es=>exact⟨Nat.le_refl _,fun _=>⟨rfl,rfl,rfl,rfl,fun blk base c ty _ hh=>⟨c,hh,rfl⟩⟩⟩
  |mps=>exact⟨rfl,rfl⟩
  |mpi=>exact⟨rfl,rfl,rfl⟩
  |sit=>rfl
  |resv=>trivial⟩⟩
 exact⟨⟨fun o ob ho=>(h.sim.obj o ob ho).step step (fun _ _ _=>rfl),h.sim.inj⟩,h.glob.step step,h.fr.step step,h.size,h.defers,h.step.trans step⟩
variable {n0:Nat} {keep:List Nat} {AQ':AQ} {fr:Fr} {st:St}
theorem SZ{id:Nat}{l:List Oper}(trk:List Nat)(n:Nat)(hm:P.follows .mixedOrders=true)(ho:Bm l.toArray trk=true)(hn:pJ l=n)
 (h:EvD P gl N l.toArray st.length trk (fun fr st=>AQ' .normal (Fr.only keep fr) st) l 0 0 [] fr (st++List.replicate n (some .resv))):
 AWp P gl N n0 keep (.region id l.toArray true) AQ' fr st:=by
 intro w0 μ0 st0 hl a w ⟨μ,hc⟩
 obtain⟨μ1,hc1⟩:=FK n (GK hc)
 have hget:∀m,m<n→(st++List.replicate n (some Ob.resv))[st.length+m]? =some (some .resv):=fun m hm=>by
  rw[List.getElem?_append_right (by omega),Nat.add_sub_cancel_left]
  simp[hm]
 obtain⟨rows,h1,h2,h3,h4,h5,h6⟩:=sR l 0 0 [] fr _ h fun m _ hm=>hget m (by omega)
 refine wp_region_any hm ?_
 have hlen:rows.length=l.length:=by rw[←h1];simp
 have hop:∀i (hi:i<rows.length),l.toArray[i]? =some (rows[i]).o:=fun i hi=>by
  have:l[i]? =(rows.map (·.o))[i]? :=by rw[h1]
  simpa[hi]using this
 have Sg:=ho
 unfold Bm at Sg
 simp only[List.all_eq_true,List.mem_range,Bool.and_eq_true]at Sg
 have Bn:Good P gl N l.toArray st.length rows (fr,st++List.replicate n (some .resv)):=by
  refine⟨by simpa using h1.symm,h3,fun i j hi hj hne hni hnj=>?_,fun x hx hnx=>?_,fun i o hio e he hb=>?_,fun i j hi hj hij=>?_⟩
  ·rcases Nat.lt_or_gt_of_ne hne with hlt|hlt
   ·exact Nat.ne_of_lt (II rows _ h2 i j hi hj hlt hni)
   ·exact Nat.ne_of_gt (II rows _ h2 j i hj hi hlt hnj)
  ·obtain⟨j,hj,e⟩:=List.getElem_of_mem hx
   have:=IG rows _ h2 j hj
   rw[e,h1,hn]at this
   obtain⟨q1,q2⟩:=this
   have q3:=q2 hnx
   have:=hget (x.q-st.length) (by omega)
   rw[show st.length+(x.q-st.length)=x.q by omega]at this
   exact⟨this,by omega⟩
  ·have hil:i<l.length:=by
    rcases Nat.lt_or_ge i l.length with h'|h'
    ·exact h'
    ·rw[Array.getElem?_eq_none (by simpa using h')]at hio;cases hio
   have:=(Sg i (by simpa using hil)).1
   rw[hio]at this
   simp only[List.all_eq_true]at this
   have:=this e (by simpa using he)
   rw[hb]at this
   simp only[Bool.not_true,Bool.false_or]at this
   exact Nat.lt_of_lt_of_le (Nat.lt_succ_self _) (Nat.le_of_ble_eq_true this)
  ·have hp:=(Sg j (by simpa[←hlen]using hj)).2 i hij
   unfold MA at hp
   rw[hop i hi,hop j hj]at hp
   simp only[Bool.or_eq_true]at hp
   rcases hp with hp|hp
   ·exact .inl (Cz l.toArray.toList [] rfl (fun j hj=>absurd hj (Nat.not_lt_zero _)) j i hp)
   ·right
    simp only[Bool.and_eq_true,Bool.or_eq_true]at hp
    obtain⟨hp1,hp2⟩:=hp
    refine⟨hp1,?_⟩
    obtain⟨s1,f1⟩:=Ad h3 i hi
    obtain⟨s2,f2⟩:=Ad h3 j hj
    rcases hp2 with⟨hp2,hp3⟩|⟨t1,t2⟩
    ·have hcc:∀k (hk:k<rows.length),zo trk k (rows[k]).o.op=false→kd (rows[k]).o.op≠none→(rows[k]).r.rd=[]:=fun k hk hc hne=>by
      refine MB rows 0 k hk h6 ?_ hne
      unfold zo at hc
      have:(kd (rows[k]).o.op).isSome=true:=by cases h:kd (rows[k]).o.op with
       |none=>exact absurd h hne
       |some=>rfl
      rw[this,Bool.true_and]at hc
      rw[Nat.zero_add];exact hc
     refine⟨fun o a1 a2=>?_,fun o a1 a2=>?_⟩
     ·cases hw:(wrs (rows[i]).o.op||zo trk i (rows[i]).o.op)with
      |false=>
       rw[Bool.or_eq_false_iff]at hw
       rw[FJ f1 hw.1 (hcc i hi hw.2)]at a1;cases a1
      |true=>cases hr:(rds (rows[j]).o.op||zo trk j (rows[j]).o.op)with
       |false=>
        rw[Bool.or_eq_false_iff]at hr
        rw[wV f2 hr.1 (hcc j hj hr.2)]at a2;cases a2
       |true=>rw[hw,hr]at hp2;cases hp2
     ·cases hw:(wrs (rows[j]).o.op||zo trk j (rows[j]).o.op)with
      |false=>
       rw[Bool.or_eq_false_iff]at hw
       rw[FJ f2 hw.1 (hcc j hj hw.2)]at a1;cases a1
      |true=>cases hr:(rds (rows[i]).o.op||zo trk i (rows[i]).o.op)with
       |false=>
        rw[Bool.or_eq_false_iff]at hr
        rw[wV f1 hr.1 (hcc i hi hr.2)]at a2;cases a2
       |true=>rw[hw,hr]at hp3;cases hp3
    ·exact IK rows 0 (by simpa using h5) i j hi hj hij (by simpa using t1) (by simpa using t2)
 have hl0:∀i,lst (Array.replicate l.toArray.size false) i=false:=fun i=>by
  unfold lst
  rw[Array.getD_eq_getD_getElem?]
  by_cases hi:i<l.length
  ·simp[hi]
  ·simp[hi]
 refine Iw Bn (fun a w μ hc=>⟨_,_,h4,μ,hc.sim,hc.glob,hc.fr.only keep,hc.size,hc.defers,hc.step⟩) _ _ _ _ μ1 (by simp[hlen]) ?_ ?_ ?_ ?_
 ·have:∀n,cnt (lst (Array.replicate l.toArray.size false)) n≤n:=fun n=>by
   induction n with
   |zero=>exact Nat.le_refl _
   |succ n ih=>simp only[cnt,hl0,cond_false];omega
  have:=this rows.length
  simpa[hlen]using this
 ·intro k o hk;rw[hl0]at hk;cases hk
 ·intro i j hi hj hj';rw[hl0]at hj';cases hj'
 ·rw[Fz rows 0 _ fun k _ _=>hl0 k]
  exact hc1
end
section
variable {P:Program} {gl:Gl} {N n0:Nat} {ops:Array Oper} {keep:List Nat} {Q:AQ} {fr:Fr} {st:St} {lg:Log} {b q:Nat} {trk:List Nat} {K:Fr→St→Prop}
 {dst:Option Nat} {op:Op} {l:List Oper} {i k:Nat} {tr:Bool} {kk k1:Log→Fr→St→Prop} {d:D} {p:Prop} {rd:List Nat} {o:Nat} {ob:Ob} {G:Bool}
@[congr] theorem Qh{fr':Fr}{st':St}{lg':Log}{i' k':Nat}(h0:i=i')(h1:k=k')(h2:lg=lg')(h:fr=fr')(h3:st=st'):EvD P gl N ops b trk K l i k lg fr st=EvD P gl N ops b trk K l i' k' lg' fr' st':=by rw[h0,h1,h2,h,h3]
@[congr] theorem Pf{r r':LR}(h:r=r'):Lk N q tr dst lg fr st kk r=Lk N q tr dst lg fr st kk r':=by rw[h]
@[congr] theorem NA{r r':LR}(h:r=r'):En N q G tr dst lg fr st kk r=En N q G tr dst lg fr st kk r':=by rw[h]
@[congr] theorem Pg{n n':Nat}{q':Nat}{tr':Bool}(h1:q=q')(h2:tr=tr')(h:n=n'):Mz P gl N b q tr kk k1 dst op lg fr st n=Mz P gl N b q' tr' kk k1 dst op lg fr st n':=by rw[h,h1,h2]
@[congr] theorem Ph{n n':Nat}{g g':Option Bool}{q':Nat}{tr':Bool}(h1:q=q')(h2:tr=tr')(h:n=n')(h3:g=g'):Ll P gl N b q tr kk k1 dst op lg fr st n g=Ll P gl N b q' tr' kk k1 dst op lg fr st n' g':=by rw[h,h1,h2,h3]
@[congr] theorem Pj{a a':Prop}{f f':D}{args args':List D}(h:a=a')(h2:f=f')(h3:args=args'):Pc P gl N b tr dst lg fr st kk a f args=Pc P gl N b tr dst lg fr st kk a' f' args':=by rw[h,h2,h3]
@[congr] theorem NC{a a':Prop}{f f':D}{args args':List D}(h:a=a')(h2:f=f')(h3:args=args'):GI P gl N b G tr dst lg fr st kk a f args=GI P gl N b G tr dst lg fr st kk a' f' args':=by rw[h,h2,h3]
@[congr] theorem ND{f:FuncId}{args args':List D}(h:args=args'):GH P gl b tr dst lg fr st kk f args=GH P gl b tr dst lg fr st kk f args':=by rw[h]
@[congr] theorem MC{f:FuncId}{args args':List D}(h:args=args'):Cy P gl b G tr dst lg fr st kk f args=Cy P gl b G tr dst lg fr st kk f args':=by rw[h]
theorem Ta:EvD P gl N ops b trk K [] i k lg fr st=(Mx lg∧K fr st):=rfl
theorem Td{o:Oper}{l':List Oper}:EvD P gl N ops b trk K (List.append (o::l) l') i k lg fr st=EvD P gl N ops b trk K (o::List.append l l') i k lg fr st:=rfl
theorem Sh{l':List Oper}:EvD P gl N ops b trk K (List.append [] l') i k lg fr st=EvD P gl N ops b trk K l' i k lg fr st:=rfl
theorem Si{ty:TypeId}{pos:String}{af:Array Edge}:EvD P gl N ops b trk K (⟨dst,op,ty,pos,af,none⟩::l) i k lg fr st=
 Mz P gl N b (b+k) (trk.contains i) (EvD P gl N ops b trk K l (i+1) k) (EvD P gl N ops b trk K l (i+1) (k+1)) dst op lg fr st (opk op):=rfl
theorem Qi{ty:TypeId}{pos:String}{af:Array Edge}{j:Nat}{want:Bool}:EvD P gl N ops b trk K (⟨dst,op,ty,pos,af,some (j,want)⟩::l) i k lg fr st=
 Ll P gl N b (b+k) (trk.contains i) (EvD P gl N ops b trk K l (i+1) k) (EvD P gl N ops b trk K l (i+1) (k+1)) dst op lg fr st (opk op) (KS fr want (gslot ops j)):=rfl
theorem Un:Mz P gl N b q tr kk k1 dst op lg fr st 0=Lk N q tr dst lg fr st kk (aop P gl true op fr (look st) q):=rfl
theorem Uo:Mz P gl N b q tr kk k1 dst op lg fr st 1=Lk N q tr dst lg fr st k1 (aop P gl true op fr (look st) q):=rfl
theorem Uq{f:Operand}{args:Array Operand}{ats:Array TypeId}:Mz P gl N b q tr kk k1 dst (.call ⟨.value f,args,ats⟩) lg fr st 2=Pc P gl N b tr dst lg fr st kk (eok gl true fr f∧(∀x∈args.toList,eok gl true fr x)) (ev1 gl fr f) (args.toList.map (ev1 gl fr)):=rfl
theorem Ur:Ll P gl N b q tr kk k1 dst op lg fr st 0 (some G)=En N q G tr dst lg fr st kk (aop P gl G op fr (look st) q):=rfl
theorem Us:Ll P gl N b q tr kk k1 dst op lg fr st 1 (some G)=En N q G tr dst lg fr st k1 (aop P gl G op fr (look st) q):=rfl
theorem Ut{f:Operand}{args:Array Operand}{ats:Array TypeId}:Ll P gl N b q tr kk k1 dst (.call ⟨.value f,args,ats⟩) lg fr st 2 (some G)=GI P gl N b G tr dst lg fr st kk (eok gl G fr f∧(∀x∈args.toList,eok gl G fr x)) (ev1 gl fr f) (args.toList.map (ev1 gl fr)):=rfl
theorem Uu:Lk N q tr dst lg fr st kk ⟨d,p,rd,none,none⟩=(p∧dlt N dst∧kk (rm tr lg ⟨d,p,rd,none,none⟩ []) (fr.qh dst d) st):=rfl
theorem Uv:Lk N q tr dst lg fr st kk ⟨d,p,rd,some (o,ob),none⟩=(p∧dlt N dst∧kk (rm tr lg ⟨d,p,rd,some (o,ob),none⟩ []) (fr.qh dst d) (st.set o (some ob))):=rfl
theorem Uw:Lk N q tr dst lg fr st kk ⟨d,p,rd,none,some ob⟩=(p∧dlt N dst∧kk (rm tr lg ⟨d,p,rd,none,some ob⟩ []) (fr.qh dst d) (st.set q (some ob))):=rfl
theorem Te:En N q G tr dst lg fr st kk ⟨d,p,rd,none,none⟩=(iQ G p∧dlt N dst∧kk (rm tr lg ⟨d,p,rd,none,none⟩ []) (fr.qh dst (.cond G d)) st):=by cases G<;>rfl
theorem Tf{g:FuncId}{first cap args:List D}:Pc P gl N b tr dst lg fr st kk p (.fn g first cap) args=(dlt N dst∧p∧GH P gl b tr dst lg fr st kk g (first++args++cap)):=rfl
theorem Sj{g:FuncId}{first cap args:List D}:GI P gl N b G tr dst lg fr st kk p (.fn g first cap) args=(dlt N dst∧p∧Cy P gl b G tr dst lg fr st kk g (first++args++cap)):=rfl
theorem Tg{r:LR}{ups:List (Nat×Ob)}:rm false lg r ups=lg:=rfl
theorem A9{f:FuncId}{args:List D}{r:D}(h:Pure P gl f args r)(hk:kk (rm tr lg ⟨r,True,[],none,none⟩ []) (fr.qh dst r) st):
 GH P gl b tr dst lg fr st kk f args:=
 ⟨r,[],[],h.loc,fun _ h=>(by cases h),fun _ h=>(by cases h),fun _=>rfl,hk⟩
theorem fT{f:FuncId}{args:List D}{r:D}(h:G=true→Pure P gl f args r)(hk:kk (rm tr lg ⟨r,True,[],none,none⟩ []) (fr.qh dst (.cond G r)) st):
 Cy P gl b G tr dst lg fr st kk f args:=
 ⟨r,[],[],fun e=>(h e).loc,fun _ h=>(by cases h),fun _ h=>(by cases h),fun _=>rfl,fun _=>rfl,hk⟩
theorem Ti{ups:List (Nat×Ob)}:rm true lg ⟨d,p,rd,none,some ob⟩ ups=lg++[(rd,ups.map (·.1))]:=rfl
theorem Sk{ups:List (Nat×Ob)}:rm true lg ⟨d,p,rd,none,none⟩ ups=lg++[(rd,ups.map (·.1))]:=rfl
theorem Sl{ups:List (Nat×Ob)}:rm true lg ⟨d,p,rd,some (o,ob),none⟩ ups=lg++[(rd,o::ups.map (·.1))]:=rfl
theorem VK{b:Bool}:(b==true)=b:=by cases b<;>rfl
theorem VL{b:Bool}:(b==false)= !b:=by cases b<;>rfl
theorem Pk{l:List Oper}{j:Nat}:gslot l.toArray j=(l[j]?).bind (·.dst):=by simp[gslot]
theorem Sm{e:Nat}:(∃t,TK.slice e=TK.slice t)=True:=eq_true ⟨e,rfl⟩
theorem Ux{a c:Nat}:(∃t u,TK.map a c=TK.map t u)=True:=eq_true ⟨a,c,rfl⟩
end
attribute [go_sem] VK VL Pk Option.bind_some Sm Ux KC sA Int.toNat_natCast imp_self false_implies Td Sh Ta Si Qi Un Uo Uq Ur Us Ut Uu Uv Uw Te Tf Sj Tg Ti Sk Sl SY Mx Nat.add_zero
section
variable {P:Program} {gl:Gl} {N n0:Nat} {keep:List Nat} {Q:AQ} {fr:Fr} {st:St} {c:Code}
theorem Uy{t n b:Nat}{full:Bool}{es:List (List D)}(hg:fr.get t= .sl full n b es)(h:es.length*b≤top→AWp P gl N n0 keep c Q fr st):AWp P gl N n0 keep c Q fr st:=
 Eh (p:=es.length*b≤top) (fun w μ tmps _ hf=>by
  have:=hf t
  rw[hg]at this
  generalize tmps.getD t undef=v at this
  cases this with
  |tr h=>cases h;assumption) h
end
def GL(n:Nat)(rows:List (List D)):Prop:=∀r∈rows,r.length=n∧r.all D.one=true
theorem tN{α:Type}{l:List α}{k:Nat}{d:α}(h:k<l.length):l.getD k d∈l:=by
 rw[List.getD_eq_getElem?_getD,List.getElem?_eq_getElem h];exact List.getElem_mem h
theorem GL.at{n:Nat}{rows:List (List D)}(h:GL n rows){k:Nat}(hk:k<rows.length):∃r,rows.getD k []=r∧r.length=n∧r.take n=r∧r.all D.one=true∧r∈rows:=by
 have hm:=tN (d:=[]) hk
 obtain⟨h1,h2⟩:=h _ hm
 exact⟨_,rfl,h1,List.take_of_length_le (by omega),h2,hm⟩
theorem GL.at1{rows:List (List D)}(h:GL 1 rows){k:Nat}(hk:k<rows.length):∃a,rows.getD k []=[a]∧a.one=true∧ [a]∈rows:=by
 have hm:=tN (d:=[]) hk
 obtain⟨h1,h2⟩:=h _ hm
 generalize rows.getD k []=r at*
 match r,h1 with
 | [a],_=>simp at h2;exact⟨a,rfl,h2,hm⟩
theorem GL.at2{rows:List (List D)}(h:GL 2 rows){k:Nat}(hk:k<rows.length):∃a b,rows.getD k []=[a,b]∧a.one=true∧b.one=true∧ [a,b]∈rows:=by
 have hm:=tN (d:=[]) hk
 obtain⟨h1,h2⟩:=h _ hm
 generalize rows.getD k []=r at*
 match r,h1 with
 | [a,b],_=>simp at h2;exact⟨a,b,rfl,h2.1,h2.2,hm⟩
def Qj:Ob→Ob→Prop
 | .arr g n b es,.arr g' n' b' es'=>g'=g∧n'=n∧b'=b∧es'.length=es.length
 | .mps ag _,.mps ag' _=>ag'=ag
 | .mpi ag k _,.mpi ag' k' _=>ag'=ag∧k'=k
 | .sit s p,.sit s' p'=>s'=s∧p'=p
 | .resv,.resv=>True
 | _,_=>False
structure Hu(st T:St):Prop where
 len:T.length≤st.length
 sh:∀(o:Nat) (ob':Ob),T[o]? =some (some ob')→∃ob,st[o]? =some (some ob)∧Qj ob ob'
section
variable {w:World} {μ:Mu} {st T:St}
theorem Hu.own(hk:Hu st T){blk:Nat}(h:own μ T blk):own μ st blk:=by
 obtain⟨o,ob,base,h1,h2⟩:=h
 obtain⟨ob',h3,_⟩:=hk.sh o ob h1
 exact⟨o,ob',base,h3,h2⟩
theorem TR.kill(hk:Hu st T){v:Value}{d:D}(h:TR w (Am.own μ st) v d):TR w (Am.own μ T) v d:=
 h.mono (fun _ _ hn=>⟨rfl,fun h=>hn (hk.own h)⟩) (Nat.le_refl _)
theorem Hu.resv(hk:Hu st T){o:Nat}(h:st[o]? ≠some (some .resv)):T[o]? ≠some (some .resv):=fun e=>by
 obtain⟨ob,h1,h2⟩:=hk.sh o _ e
 cases ob<;>first|exact h2.elim|exact h h1
theorem VR.kill(hk:Hu st T){v:Value}{d:D}(h:VR w μ st v d)(hd:D.sc T.length d):VR w μ T v d:=by
 induction h with
 |any v=>exact .any v
 |tr h=>exact .tr (h.kill hk)
 |agg vs cs hs hc ih=>exact .agg vs cs hs (fun j hj=>ih j hj (iG hd j hj))
 |tup vs cs hs hc ih=>exact .tup vs cs hs (fun j hj=>ih j hj (iG hd j hj))
 |fn f vf vc first cap hf hc hfc hcc ih1 ih2=>exact .fn f vf vc first cap hf hc (fun j hj=>ih1 j hj (iG hd.1 j hj)) (fun j hj=>ih2 j hj (iG hd.2 j hj))
 |ref v full o g off len hv ho hr hg h=>
  refine .ref v full o g off len hv hd (hk.resv hr) (fun g' n b es e=>?_) (fun n b es e=>?_)
  ·obtain⟨ob,h1,h2⟩:=hk.sh o _ e
   cases ob<;>first|exact h2.elim|skip
   have:=hg _ _ _ _ h1
   rw[h2.1];exact this
  ·obtain⟨ob,h1,h2⟩:=hk.sh o _ e
   cases ob<;>first|exact h2.elim|skip
   obtain⟨rfl,rfl,rfl,e4⟩:=h2
   have:=h _ _ _ h1
   unfold rO at this⊢
   rw[e4];exact this
 |ptr v o g i c hv ho hr hg h=>
  refine .ptr v o g i c hv hd (hk.resv hr) (fun g' n b es e=>?_) (fun n b es e=>?_)
  ·obtain⟨ob,h1,h2⟩:=hk.sh o _ e
   cases ob<;>first|exact h2.elim|skip
   have:=hg _ _ _ _ h1
   rw[h2.1];exact this
  ·obtain⟨ob,h1,h2⟩:=hk.sh o _ e
   cases ob<;>first|exact h2.elim|skip
   obtain⟨rfl,rfl,rfl,e4⟩:=h2
   exact h _ _ _ h1
 |mp v o hv ho hr h1 h2=>
  refine .mp v o hv hd (hk.resv hr) (fun ag es e=>?_) (fun ag k es e=>?_)
  ·obtain⟨ob,h3,h4⟩:=hk.sh o _ e
   cases ob<;>first|exact h4.elim|skip
   exact h1 _ _ h3
  ·obtain⟨ob,h3,h4⟩:=hk.sh o _ e
   cases ob<;>first|exact h4.elim|skip
   exact h2 _ _ _ h3
 |it v o hv ho hr h=>
  refine .it v o hv hd (hk.resv hr) (fun s p e=>?_)
  obtain⟨ob,h3,h4⟩:=hk.sh o _ e
  cases ob<;>first|exact h4.elim|skip
  exact h _ _ h3
 |cond v g d h h0 ih=>exact .cond v g d (fun e=>ih e (hd e)) h0
end
def D.imm:D→Bool
 | .agg _| .tup _| .fn _ _ _| .ref _ _ _ _ _| .ptr _ _ _ _| .mp _| .it _| .cond _ _=>false
 | _=>true
def Imm(rows:List (List D)):Prop:=∀e∈rows,e.all D.imm=true
mutual
inductive Up(st T:St):D→D→Prop
 |any (d:D):Up st T d .any
 |same (d:D):Up st T d d
 |F6 (full:Bool) (n b:Nat) (hb:1≤b):Up st T .F6 (.sl full n b [])
 |nref (full:Bool) (o g n b:Nat) (es:List (List D)) (h:T[o]? =some (some (.arr g n b es))):Up st T .F6 (.ref full o g 0 0)
 |full (f:Bool) (n b:Nat) (es:List (List D)):Up st T (.sl true n b es) (.sl f n b es)
 |ref (full:Bool) (o g off len n b:Nat) (es:List (List D)) (rows:List (List D)) (h:st[o]? =some (some (.arr g n b es))) (hT:look T o=none) (hb:1≤b) (hi:Imm es)
  (hr:rows=(es.drop off).take len):Up st T (.ref full o g off len) (.sl false n b rows)
 |CB (o g off len:Nat):Up st T (.ref true o g off len) (.ref false o g off len)
 |agg (cs cs':List D) (h:Ups st T cs cs'):Up st T (.agg cs) (.agg cs')
 |tup (cs cs':List D) (h:Ups st T cs cs') (hl:cs.all D.live=true):Up st T (.tup cs) (.tup cs')
 |cond (g:Bool) (d d':D) (h:Up st T d d'):Up st T (.cond g d) (.cond g d')
inductive Ups(st T:St):List D→List D→Prop
 |nil:Ups st T [] []
 |cons (d d':D) (l l':List D) (h:Up st T d d') (hl:Ups st T l l'):Ups st T (d::l) (d'::l')
end
theorem Ups.len{st T:St}:∀ {l l':List D},Ups st T l l'→l'.length=l.length
 | _,_,.nil=>rfl
 | _,_,.cons _ _ _ _ _ h=>by simp[h.len]
theorem Ups.get{st T:St}:∀ {l l':List D},Ups st T l l'→∀(j:Nat) (h:j<l.length) (h':j<l'.length),Up st T (l[j]) (l'[j])
 | _,_,.cons _ _ _ _ h _,0,_,_=>h
 | _,_,.cons _ _ _ _ _ h,j+1,hj,hj'=>h.get j (by simpa using hj) (by simpa using hj')
theorem Ups.refl{st T:St}:∀(l:List D),Ups st T l l
 | []=>.nil
 |d::l=>.cons d d l l (.same d) (Ups.refl l)
inductive nH(st T:St):List (List D)→List (List D)→Prop
 |same (l:List (List D)):nH st T l l
 |nil:nH st T [] []
 |cons (e e':List D) (l l':List (List D)) (h:Ups st T e e') (hl:nH st T l l'):nH st T (e::l) (e'::l')
 |snoc (e e':List D) (l l':List (List D)) (hl:nH st T l l') (h:Ups st T e e'):nH st T (l++[e]) (l'++[e'])
theorem nH.spec{st T:St}{l l':List (List D)}(h:nH st T l l'):l'.length=l.length∧∀(j:Nat) (h:j<l.length) (h':j<l'.length),Ups st T (l[j]) (l'[j]):=by
 induction h with
 |same l=>exact⟨rfl,fun j _ _=>Ups.refl _⟩
 |nil=>exact⟨rfl,fun j h _=>absurd h (Nat.not_lt_zero _)⟩
 |cons e e' l l' h hl ih=>
  refine⟨by simp[ih.1],fun j hj hj'=>?_⟩
  cases j with
  |zero=>exact h
  |succ j=>exact ih.2 j (by simpa using hj) (by simpa using hj')
 |snoc e e' l l' hl h ih=>
  refine⟨by simp[ih.1],fun j hj hj'=>?_⟩
  by_cases hjl:j<l.length
  ·rw[List.getElem_append_left hjl,List.getElem_append_left (by rw[ih.1];exact hjl)]
   exact ih.2 j hjl _
  ·have:j=l.length:=by simp at hj;omega
   subst this
   have e1:(l++[e])[l.length]=e:=by simp
   have e2:(l'++[e'])[l.length]'hj'=e':=by rw[List.getElem_append_right (by omega)];simp
   rw[e1,e2];exact h
inductive IL(st T:St):Ob→Ob→Prop
 |same (ob:Ob):IL st T ob ob
 |arr (g n b:Nat) (es es':List (List D)) (h:nH st T es es'):IL st T (.arr g n b es) (.arr g n b es')
theorem IL.sh{st T:St}{ob ob':Ob}(h:IL st T ob ob'):Qj ob ob':=by
 cases h with
 |same=>cases ob<;>simp[Qj]
 |arr g n b es es' h=>exact⟨rfl,rfl,rfl,h.spec.1⟩
structure KA(st T:St):Prop where
 len:T.length≤st.length
 obs:∀(o:Nat) (ob':Ob),T[o]? =some (some ob')→∃ob,st[o]? =some (some ob)∧IL st T ob ob'
 sc:qN T.length T
theorem KA.kill{st T:St}(h:KA st T):Hu st T:=⟨h.len,fun o ob' e=>let ⟨ob,h1,h2⟩:=h.obs o ob' e;⟨ob,h1,h2.sh⟩⟩
section
variable {w:World} {μ:Mu} {st T:St}
theorem Qk{v:Value}{d:D}(h:VR w μ st v d)(hi:d.imm=true)(h1:v.oneCell'=true):TR w (own μ st) v d:=by
 cases h with
 |any=>exact .any _ h1
 |tr h=>exact h
 | _=>cases hi
theorem VR.up(hs:Sim w μ st)(hk:Hu st T){v:Value}{d d':D}(hu:Up st T d d')(h:VR w μ st v d)(hd:D.sc T.length d'):VR w μ T v d':=by
 induction h generalizing d' with
 |any v=>cases hu with
  |any=>exact .any _
  |same=>exact .any _
 |tr h=>
  cases hu with
  |any=>exact .any _
  |same=>exact .tr (h.kill hk)
  |F6 full n b hb=>cases h;exact .tr (.sl full n b [] none 0 0 (fun _ _=>undef) rfl (Nat.le_refl _) (fun _=>rfl) (by simp[top]) hb (fun e he=>by cases he) (.inl rfl) (fun i j hi=>absurd hi (Nat.not_lt_zero _)))
  |nref full o g n b es hT=>
   cases h
   refine .ref _ full o g 0 0 ⟨none,0,0,rfl⟩ (List.getElem?_eq_some_iff.1 hT).1 (by rw[hT];simp) (fun g' n' b' es' e=>?_) (fun n' b' es' e=>?_)
   ·rw[hT]at e;cases e;exact Nat.le_refl _
   ·exact⟨none,0,rfl,Nat.le_refl _,by omega,fun _=>rfl,.inl rfl⟩
  |full f n b es=>
   cases h.kill hk with
   |sl _ _ _ _ a len cap cv hlen hcap zh hb hb1 hn ha hc=>exact .tr (.sl f n b es a len cap cv hlen hcap (fun _=>zh rfl) hb hb1 hn ha hc)
  |ref=>cases h
  |CB=>cases h
  |agg=>cases h
  |tup=>cases h
  |cond=>cases h
 |agg vs cs hs' hc ih=>
  cases hu with
  |any=>exact .any _
  |same=>exact VR.kill hk (.agg vs cs hs' hc) hd
  |agg _ cs' hu=>exact .agg vs cs' (by rw[hu.len];exact hs') fun j hj=>ih j (by rw[←hu.len];exact hj) (hu.get j _ hj) (iG hd j hj)
 |tup vs cs hs' hc ih=>
  cases hu with
  |any=>exact .any _
  |same=>exact VR.kill hk (.tup vs cs hs' hc) hd
  |tup _ cs' hu hl=>
   exact .tup vs cs' (fun j hj _=>hs' j (by rw[←hu.len];exact hj) (List.all_eq_true.1 hl _ (List.getElem_mem _))) fun j hj=>ih j (by rw[←hu.len];exact hj) (hu.get j _ hj) (iG hd j hj)
 |fn f vf vc first cap hf hc hfc hcc ih1 ih2=>
  cases hu with
  |any=>exact .any _
  |same=>exact VR.kill hk (.fn f vf vc first cap hf hc hfc hcc) hd
 |ref v full o g off len hv ho hr hg h=>
  cases hu with
  |any=>exact .any _
  |same=>exact VR.kill hk (.ref v full o g off len hv ho hr hg h) hd
  |CB=>exact VR.kill hk (.ref v false o g off len hv ho hr hg fun n b es e=>by
   obtain⟨a,cap,h1,h2,h3,h4,h5⟩:=h n b es e
   exact⟨a,cap,h1,h2,h3,(fun hf=>by cases hf),h5⟩) hd
  |ref _ _ _ _ _ n b es rows hst hT hb hi sN=>
   subst sN
   obtain⟨a,cap,e1,e2,e3,e4,e5⟩:=h n b es hst
   subst e1
   have hA:tj w μ st (μ o) n b es:=hs.obj o _ hst
   have hlen:((es.drop off).take len).length=len:=by simp;omega
   have hrow:∀i (hi:i<((es.drop off).take len).length),((es.drop off).take len)[i]=es[off+i]'(by rw[hlen]at hi;omega):=fun i hi=>by simp
   rcases hA.loc with⟨m0,e0⟩|⟨blk,base,c,ty,em,hh,hsz,hcell⟩
   ·subst e0
    have h0:len=0:=by simp at e3;omega
    subst h0
    refine .tr (.sl false n b _ a 0 cap (fun _ _=>undef) (by simp) e2 (fun hf=>by cases hf) (by simp) hb (fun e he=>by simp at he) (.inl (by simp)) (fun i j hi=>by simp at hi))
   ·have hcv:∀i j,∃u,∀(hi:i<len) (hj:j<n),c[base+((off+i)*n+j)]? =some u∧TR w (own μ T) u ((es[off+i]'(by omega))[j]'(by rw[hA.hn _ (List.getElem_mem _)];exact hj)):=fun i j=>by
     by_cases hc:i<len∧j<n
     ·obtain⟨u,h1,h2,h3⟩:=hcell (off+i) j (by omega) (by rw[hA.hn _ (List.getElem_mem _)];exact hc.2)
      refine⟨u,fun _ _=>⟨h1,?_⟩⟩
      have Uz:=hi (es[off+i]'(by omega)) (List.getElem_mem _)
      rw[List.all_eq_true]at Uz
      exact(Qk h2 (Uz _ (List.getElem_mem _)) h3).kill hk
     ·exact⟨undef,fun hi hj=>absurd ⟨hi,hj⟩ hc⟩
    have VN:∃cv:Nat→Nat→Value,∀i j (hi:i<len) (hj:j<n),c[base+((off+i)*n+j)]? =some (cv i j)∧TR w (own μ T) (cv i j) ((es[off+i]'(by omega))[j]'(by rw[hA.hn _ (List.getElem_mem _)];exact hj)):=
     ⟨fun i j=>Classical.choose (hcv i j),fun i j hi hj=>Classical.choose_spec (hcv i j) hi hj⟩
    obtain⟨cv,hcv⟩:=VN
    have hlb:((es.drop off).take len).length*b≤top:=by
     rw[hlen]
     exact Nat.le_trans (Nat.mul_le_mul_right b (show len≤es.length by omega)) hA.Uc
    have hno:¬own μ T blk:=by
     rintro⟨o',ob',base',h1,h2⟩
     obtain⟨ob,h3,_⟩:=hk.sh o' ob' h1
     have:=hs.inj o o' _ _ blk base base' hst h3 em h2
     subst this
     rw[rT.2 h1]at hT;cases hT
    refine .tr (.sl false n b _ a len cap cv hlen.symm e2 (fun hf=>by cases hf) hlb hb ?_ ?_ ?_)
    ·intro e he
     obtain⟨i,hi',e'⟩:=List.getElem_of_mem he
     rw[hrow i hi']at e'
     rw[←e'];exact hA.hn _ (List.getElem_mem _)
    ·by_cases h0:len=0
     ·subst h0;left;simp
     ·right
      rcases e5 with e5|⟨wA,base',em',ea,c',ty',hh',hsz'⟩
      ·omega
      ·rw[em]at em';cases em'
       have hlt:blk<w.heap.size:=by
        rcases Nat.lt_or_ge blk w.heap.size with h|h
        ·exact h
        ·rw[Array.getElem?_eq_none h]at hh;cases hh
       refine⟨blk,base+off*n,ea,hlt,hno,fun i j hi' hj=>?_⟩
       rw[hlen]at hi'
       have:=(hcv i j hi' hj).1
       simp only[World.cell?, hh]
       rw[show base+off*n+(i*n+j)=base+((off+i)*n+j)by rw[Nat.add_mul];omega]
       simpa using this
    ·intro i j hi' hj
     have hi2:i<len:=by rw[hlen]at hi';exact hi'
     have hn2:(((es.drop off).take len)[i]).length=n:=by rw[hrow i hi'];exact hA.hn _ (List.getElem_mem _)
     have:=(hcv i j hi2 (by omega)).2
     have e:(((es.drop off).take len)[i])[j]=(es[off+i]'(by omega))[j]'(by rw[hA.hn _ (List.getElem_mem _)];omega):=by
      have:=hrow i hi'
      congr 1
     rw[e];exact this
 |ptr v o g i c hv ho hr hg h=>
  cases hu with
  |any=>exact .any _
  |same=>exact VR.kill hk (.ptr v o g i c hv ho hr hg h) hd
 |mp v o hv ho hr h1 h2=>
  cases hu with
  |any=>exact .any _
  |same=>exact VR.kill hk (.mp v o hv ho hr h1 h2) hd
 |it v o hv ho hr h=>
  cases hu with
  |any=>exact .any _
  |same=>exact VR.kill hk (.it v o hv ho hr h) hd
 |cond v g d h h0 ih=>
  cases hu with
  |any=>exact .any _
  |same=>exact VR.kill hk (.cond v g d h h0) hd
  |cond _ _ d' hu=>exact .cond v g d' (fun e=>ih e hu (hd e)) h0
end
end Go.Am
