/-
 AM, part 22: the evaluator's equations, in the form in which 'simp only' runs them.
-/
import Derived.Orders
import Derived.Test.YtahjhbkhcaphgaaGreatDoorFTAm1
set_option linter.unusedVariables false
set_option linter.unusedSimpArgs false
namespace Go.Am
open Go
def opk:Op→Nat
 | .call { callee:=.value _,.. }=>2
 | .alloc _| .box _ _| .buildSlice _ _ _| .makeMap _ _| .makeSlice _ _ _| .range _ _| .call { callee:=.builtin .append,.. }=>1
 | _=>0
section
variable {P:Program} {gl:Gl} {N n0:Nat} {ops:Array Oper} {keep:List Nat} {Q:AQ} {fr:Fr} {st:St}
theorem gP(op:Op):(opk op=0→bH op=none∧needs op=false)∧(opk op=1→bH op=none∧needs op=true):=by
 cases op<;>first|exact⟨fun _=>⟨rfl,rfl⟩,fun h=>by cases h⟩|exact⟨fun h=>(by cases h),fun _=>⟨rfl,rfl⟩⟩|skip
 rename_i c
 obtain⟨callee,args,argTypes⟩:=c
 cases callee with
 |builtin b=>cases b<;>first|exact⟨fun _=>⟨rfl,rfl⟩,fun h=>by cases h⟩|exact⟨fun h=>(by cases h),fun _=>⟨rfl,rfl⟩⟩
 |value f=>exact⟨fun h=>(by cases h),fun h=>by cases h⟩
 |invoke r m=>exact⟨fun _=>⟨rfl,rfl⟩,fun h=>by cases h⟩
def GJ(want:Bool):D→Option Bool
 | .bool b=>some (b==want)
 | .cond c (.bool b)=>some (c&&(b==want))
 | _=>none
def dlt(N:Nat):Option Nat→Prop
 |some t=>t<N
 |none=>True
def gslot(ops:Array Oper)(j:Nat):Option Nat:=(ops[j]?).bind (·.dst)
def EvR(N:Nat)(dst:Option Nat)(fr:Fr)(st:St)(k:Fr→St→Prop)(r:LR):Prop:=r.ok∧dlt N dst∧k (fr.fU dst r.d) (r.ur st)
def EvC(P:Program)(gl:Gl)(N:Nat)(dst:Option Nat)(fr:Fr)(st:St)(k:Fr→St→Prop)(ok:Prop)(f:D)(args:List D):Prop:=
 match f with
 | .fn g first cap=>dlt N dst∧ok∧Spec P gl g (first++args++cap) st fun d st'=>k (fr.fU dst d) st'
 | _=>False
def cg(G:Bool)(p:Prop):Prop:=G=true→p
def GK(N:Nat)(G:Bool)(dst:Option Nat)(fr:Fr)(st:St)(k:Fr→St→Prop)(r:LR):Prop:=
 cg G r.ok∧dlt N dst∧k (fr.fU dst (.cond G r.d)) (bif G then r.ur st else st)
def wU(P:Program)(gl:Gl)(G:Bool)(dst:Option Nat)(fr:Fr)(st:St)(k:Fr→St→Prop)(g:FuncId)(args:List D):Prop:=
 ∃r ups,(G=true→Spec P gl g args st fun d st'=>d=r∧st'=puts st ups)∧(G=false→puts st ups=st)∧k (fr.fU dst (.cond G r)) (puts st ups)
def FU(P:Program)(gl:Gl)(N:Nat)(G:Bool)(dst:Option Nat)(fr:Fr)(st:St)(k:Fr→St→Prop)(ok:Prop)(f:D)(args:List D):Prop:=
 match f with
 | .fn g first cap=>dlt N dst∧ok∧wU P gl G dst fr st k g (first++args++cap)
 | _=>False
def Ev0(P:Program)(gl:Gl)(N:Nat)(k:Fr→St→Prop)(dst:Option Nat)(op:Op)(fr:Fr)(st:St):Nat→Prop
 |0=>EvR N dst fr st k (aop P gl true op fr (look st) 0)
 |1=>EvR N dst fr st k (aop P gl true op fr (look (st++[some .resv])) st.length)
 | _=>match op with
  | .call ⟨.value f,args,_⟩=>EvC P gl N dst fr st k (eok gl true fr f∧(∀x∈args.toList,eok gl true fr x)) (ev1 gl fr f) (args.toList.map (ev1 gl fr))
  | _=>False
def EvG(P:Program)(gl:Gl)(N:Nat)(k:Fr→St→Prop)(dst:Option Nat)(op:Op)(fr:Fr)(st:St):Nat→Option Bool→Prop
 |0,some G=>GK N G dst fr st k (aop P gl G op fr (look st) 0)
 |2,some G=>match op with
  | .call ⟨.value f,args,_⟩=>FU P gl N G dst fr st k (eok gl G fr f∧(∀x∈args.toList,eok gl G fr x)) (ev1 gl fr f) (args.toList.map (ev1 gl fr))
  | _=>False
 | _,_=>False
def BM(fr:Fr)(want:Bool):Option Nat→Option Bool
 |some t=>GJ want (fr.get t)
 |none=>none
def Ev(P:Program)(gl:Gl)(N:Nat)(ops:Array Oper)(K:Fr→St→Prop):List Oper→Fr→St→Prop
 | [],fr,st=>K fr st
 |⟨dst,op,_,_,_,none⟩::l,fr,st=>Ev0 P gl N (Ev P gl N ops K l) dst op fr st (opk op)
 |⟨dst,op,_,_,_,some (j,want)⟩::l,fr,st=>EvG P gl N (Ev P gl N ops K l) dst op fr st (opk op) (BM fr want (gslot ops j))
theorem yJ{fr:Fr}{dst:Option Nat}{op:Op}{ty:TypeId}{pos:String}{af:Array Edge}{j:Nat}{want G:Bool}(hg:BM fr want (gslot ops j)=some G):
 guardOf ops fr ⟨dst,op,ty,pos,af,some (j,want)⟩=G∧cA ops fr ⟨dst,op,ty,pos,af,some (j,want)⟩=True:=by
 unfold gslot at hg
 cases hj:(ops[j]?).bind (·.dst)with
 |none=>rw[hj]at hg;cases hg
 |some t=>
  rw[hj]at hg
  simp only[guardOf,cA,hj]
  simp only[BM]at hg
  cases hd:fr.get t<;>rw[hd]at hg<;>simp only[GJ]at hg<;>first|(cases hg;done)|skip
  ·cases hg;exact⟨rfl,rfl⟩
  ·rename_i c d
   cases d<;>simp only at hg<;>first|(cases hg;done)|skip
   cases hg;exact⟨rfl,rfl⟩
theorem gQ{op:Op}(h:opk op≠0)(h1:opk op≠1):∃f args ats,op= .call ⟨.value f,args,ats⟩:=by
 cases op<;>first|exact absurd rfl h|exact absurd rfl h1|skip
 rename_i c
 obtain⟨callee,args,argTypes⟩:=c
 cases callee with
 |builtin b=>cases b<;>first|exact absurd rfl h|exact absurd rfl h1
 |value f=>exact⟨f,args,argTypes,rfl⟩
 |invoke r m=>exact absurd rfl h
theorem oq{K:Fr→St→Prop}:∀(l:List Oper) (fr:Fr) (st:St) (ok:Prop),ok→Ev P gl N ops K l fr st→Run P gl N ops l ⟨fr,st,ok⟩ K
 | [],fr,st,ok,hok,h=>⟨hok,h⟩
 |⟨dst,op,ty,pos,af,none⟩::l,fr,st,ok,hok,h=>by
  simp only[Ev]at h
  by_cases h0:opk op=0
  ·rw[h0]at h
   obtain⟨a,b,c⟩:=h
   obtain⟨h1,h2⟩:=(gP op).1 h0
   simp only[Run,h1]
   have:=oq l _ _ (ok∧jL N ⟨dst,op,ty,pos,af,none⟩∧True∧(true=true→(aop P gl true op fr (look st) 0).ok)) ⟨hok,b,trivial,fun _=>a⟩ c
   simpa only[O5,h2,guardOf,cA,xS,cond_true,Bool.false_eq_true,if_false]using this
  ·by_cases h1:opk op=1
   ·rw[h1]at h
    obtain⟨a,b,c⟩:=h
    obtain⟨h1,h2⟩:=(gP op).2 h1
    simp only[Run,h1]
    have:=oq l _ _ (ok∧jL N ⟨dst,op,ty,pos,af,none⟩∧True∧(true=true→(aop P gl true op fr (look (st++[some .resv])) st.length).ok)) ⟨hok,b,trivial,fun _=>a⟩ c
    simpa only[O5,h2,guardOf,cA,xS,cond_true,if_true]using this
   ·obtain⟨f,args,ats,rfl⟩:=gQ h0 h1
    simp only[opk,Ev0,EvC]at h
    simp only[Run,bH,guardOf,cA]
    cases hf:ev1 gl fr f<;>rw[hf]at h<;>first|exact h.elim|skip
    obtain⟨a,⟨b,c⟩,d⟩:=h
    exact⟨hok,a,trivial,b,c,d.mono fun d st' h=>oq l _ _ True trivial h⟩
 |⟨dst,op,ty,pos,af,some (j,want)⟩::l,fr,st,ok,hok,h=>by
  simp only[Ev]at h
  cases hg:BM fr want (gslot ops j)with
  |none=>rw[hg]at h;unfold EvG at h;split at h<;>first|exact h.elim|(rename_i e;cases e)
  |some G=>
   rw[hg]at h
   obtain⟨g1,g2⟩:=yJ (dst:=dst) (op:=op) (ty:=ty) (pos:=pos) (af:=af) hg
   by_cases h0:opk op=0
   ·rw[h0]at h
    obtain⟨a,b,c⟩:=h
    obtain⟨h1,h2⟩:=(gP op).1 h0
    simp only[Run,h1]
    have:=oq l _ _ (ok∧jL N ⟨dst,op,ty,pos,af,some (j,want)⟩∧True∧(G=true→(aop P gl G op fr (look st) 0).ok)) ⟨hok,b,trivial,a⟩ c
    simpa only[O5,h2,g1,g2,xS,Bool.false_eq_true,if_false]using this
   ·by_cases h1:opk op=1
    ·rw[h1]at h;exact h.elim
    ·obtain⟨f,args,ats,rfl⟩:=gQ h0 h1
     simp only[opk,EvG,FU]at h
     simp only[Run,bH,g1,g2]
     cases hf:ev1 gl fr f<;>rw[hf]at h<;>first|exact h.elim|skip
     obtain⟨a,⟨b,c⟩,r,ups,d,d2,e⟩:=h
     exact⟨hok,a,trivial,b,c,r,ups,d,d2,oq l _ _ True trivial e⟩
theorem er_{id:Nat}{l:List Oper}(h:Ev P gl N l.toArray (fun fr st=>Q .normal (Fr.only keep fr) st) l fr st):AWp P gl N n0 keep (.region id l.toArray false) Q fr st:=
 wT (oq _ _ _ _ trivial h)
def Then(P:Program)(gl:Gl)(N n0:Nat)(keep:List Nat)(c:Code)(Q:AQ)(fr:Fr)(st:St):Prop:=AWp P gl N n0 keep c Q (Fr.only keep fr) st
theorem then_eq{c:Code}:Then P gl N n0 keep c Q fr st=AWp P gl N n0 keep c Q (Fr.only keep fr) st:=rfl
@[congr] theorem Js{l:List Oper}{K:Fr→St→Prop}{fr fr':Fr}{st st':St}(h:fr=fr')(h2:st=st'):Ev P gl N ops K l fr st=Ev P gl N ops K l fr' st':=by rw[h,h2]
@[congr] theorem GL{dst:Option Nat}{k:Fr→St→Prop}{r r':LR}(h:r=r'):EvR N dst fr st k r=EvR N dst fr st k r':=by rw[h]
@[congr] theorem FV{G:Bool}{dst:Option Nat}{k:Fr→St→Prop}{r r':LR}(h:r=r'):GK N G dst fr st k r=GK N G dst fr st k r':=by rw[h]
@[congr] theorem GN{dst:Option Nat}{op:Op}{k:Fr→St→Prop}{n n':Nat}(h:n=n'):Ev0 P gl N k dst op fr st n=Ev0 P gl N k dst op fr st n':=by rw[h]
@[congr] theorem GO{dst:Option Nat}{op:Op}{k:Fr→St→Prop}{n n':Nat}{g g':Option Bool}(h:n=n')(h2:g=g'):EvG P gl N k dst op fr st n g=EvG P gl N k dst op fr st n' g':=by rw[h,h2]
@[congr] theorem GP{dst:Option Nat}{k:Fr→St→Prop}{a a':Prop}{f f':D}{args args':List D}(h:a=a')(h2:f=f')(h3:args=args'):EvC P gl N dst fr st k a f args=EvC P gl N dst fr st k a' f' args':=by rw[h,h2,h3]
@[congr] theorem FW{G:Bool}{dst:Option Nat}{k:Fr→St→Prop}{a a':Prop}{f f':D}{args args':List D}(h:a=a')(h2:f=f')(h3:args=args'):FU P gl N G dst fr st k a f args=FU P gl N G dst fr st k a' f' args':=by rw[h,h2,h3]
@[congr] theorem GQ{c:Code}{fr fr':Fr}{st st':St}(h:fr=fr')(h2:st=st'):AWp P gl N n0 keep c Q fr st=AWp P gl N n0 keep c Q fr' st':=by rw[h,h2]
@[congr] theorem FX{f:FuncId}{args args':List D}{st st':St}{R:D→St→Prop}(h:args=args')(h2:st=st'):Spec P gl f args st R=Spec P gl f args' st' R:=by rw[h,h2]
def rsD(P:Program)(fr:Fr)(st:St):List ResultVar→D
 | [r]=>(eH P st fr r).d
 |rs=>.tup (rs.map fun r=>(eH P st fr r).d)
def FY(P:Program)(fr:Fr)(st:St):List ResultVar→Prop
 | []=>True
 |r::l=>(eH P st fr r).ok∧FY P fr st l
def ends(n0:Nat)(R:D→St→Prop)(d:D)(st:St):Prop:=∃s t,st=s++t∧n0≤s.length∧D.sc s.length d∧iw s.length s∧R d s
def JZ(P:Program)(rs:List ResultVar)(n0:Nat)(R:D→St→Prop):AQ
 | .exit _,_,_=>False
 | _,fr,st=>FY P fr st rs∧ends n0 R (rsD P fr st rs) st
theorem vr{fr:Fr}{st:St}:∀(rs:List ResultVar),FY P fr st rs→∀r∈rs,(eH P st fr r).ok
 |r::l,h,x,hx=>by
  rcases List.mem_cons.1 hx with e|e
  ·subst e;exact h.1
  ·exact vr l h.2 x e
@[congr] theorem FZ{n:Nat}{st st':St}{R:D→St→Prop}{d d':D}(h:d=d')(h2:st=st'):ends n R d st=ends n R d' st':=by rw[h,h2]
variable {dst:Option Nat} {k:Fr→St→Prop} {p:Prop} {d:D} {rd:List Nat} {o:Nat} {ob:Ob} {G:Bool} {K:Fr→St→Prop} {op:Op} {l:List Oper}
@[congr] theorem Ei{f:FuncId}{args args':List D}(h:args=args'):wU P gl G dst fr st k f args=wU P gl G dst fr st k f args':=by rw[h]
theorem Ln:Ev P gl N ops K [] fr st=K fr st:=rfl
theorem Lo{o:Oper}{l':List Oper}:Ev P gl N ops K (List.append (o::l) l') fr st=Ev P gl N ops K (o::List.append l l') fr st:=rfl
theorem Ka{l':List Oper}:Ev P gl N ops K (List.append [] l') fr st=Ev P gl N ops K l' fr st:=rfl
theorem Kc{ty:TypeId}{pos:String}{af:Array Edge}:Ev P gl N ops K (⟨dst,op,ty,pos,af,none⟩::l) fr st=Ev0 P gl N (Ev P gl N ops K l) dst op fr st (opk op):=rfl
theorem Jt{ty:TypeId}{pos:String}{af:Array Edge}{j:Nat}{want:Bool}:Ev P gl N ops K (⟨dst,op,ty,pos,af,some (j,want)⟩::l) fr st=EvG P gl N (Ev P gl N ops K l) dst op fr st (opk op) (BM fr want (gslot ops j)):=rfl
theorem MA:Ev0 P gl N k dst op fr st 0=EvR N dst fr st k (aop P gl true op fr (look st) 0):=rfl
theorem MB:Ev0 P gl N k dst op fr st 1=EvR N dst fr st k (aop P gl true op fr (look (st++[some .resv])) st.length):=rfl
theorem MC{f:Operand}{args:Array Operand}{ats:Array TypeId}:Ev0 P gl N k dst (.call ⟨.value f,args,ats⟩) fr st 2=EvC P gl N dst fr st k (eok gl true fr f∧(∀x∈args.toList,eok gl true fr x)) (ev1 gl fr f) (args.toList.map (ev1 gl fr)):=rfl
theorem MD:EvG P gl N k dst op fr st 0 (some G)=GK N G dst fr st k (aop P gl G op fr (look st) 0):=rfl
theorem ME{f:Operand}{args:Array Operand}{ats:Array TypeId}:EvG P gl N k dst (.call ⟨.value f,args,ats⟩) fr st 2 (some G)=FU P gl N G dst fr st k (eok gl G fr f∧(∀x∈args.toList,eok gl G fr x)) (ev1 gl fr f) (args.toList.map (ev1 gl fr)):=rfl
theorem GR{t:Nat}{want:Bool}:BM fr want (some t)=GJ want (fr.get t):=rfl
theorem GS{b want:Bool}:GJ want (.bool b)=some (b==want):=rfl
theorem GU{c b want:Bool}:GJ want (.cond c (.bool b))=some (c&&(b==want)):=rfl
theorem MF:EvR N dst fr st k ⟨d,p,rd,none,none⟩=(p∧dlt N dst∧k (fr.fU dst d) st):=rfl
theorem MG:EvR N dst fr st k ⟨d,p,rd,some (o,ob),none⟩=(p∧dlt N dst∧k (fr.fU dst d) (st.set o (some ob))):=rfl
theorem MH:EvR N dst fr st k ⟨d,p,rd,none,some ob⟩=(p∧dlt N dst∧k (fr.fU dst d) (st++[some ob])):=rfl
theorem Lp:GK N G dst fr st k ⟨d,p,rd,none,none⟩=(cg G p∧dlt N dst∧k (fr.fU dst (.cond G d)) st):=by cases G<;>rfl
theorem Lq{g:FuncId}{first cap args:List D}:EvC P gl N dst fr st k p (.fn g first cap) args=(dlt N dst∧p∧Spec P gl g (first++args++cap) st fun d st'=>k (fr.fU dst d) st'):=rfl
theorem Kd{g:FuncId}{first cap args:List D}:FU P gl N G dst fr st k p (.fn g first cap) args=(dlt N dst∧p∧wU P gl G dst fr st k g (first++args++cap)):=rfl
theorem bp{f:FuncId}{args:List D}{r:D}(h:G=true→Pure P gl f args r)(hk:k (fr.fU dst (.cond G r)) st):
 wU P gl G dst fr st k f args:=
 ⟨r,[],fun e=>h e st,fun _=>rfl,hk⟩
theorem Ju{t:Nat}:dlt N (some t)=(t<N):=rfl
theorem Jv:dlt N none=True:=rfl
theorem Lr{up:Option (Nat×Ob)}{nw:Option Ob}{q:Prop}:(LR.mk d p rd up nw).and q=⟨d,q∧p,rd,up,nw⟩:=rfl
variable {keep:List Nat}
theorem get_nil{t:Nat}:Fr.get [] t= .any:=rfl
theorem BN{t k':Nat}{fr:Fr}:Fr.get ((k',d)::fr) t=if k'=t then d else Fr.get fr t:=rfl
theorem Ej{t:Nat}:Fr.put [] t d=[(t,d)]:=rfl
theorem BO{t k':Nat}{e:D}{fr:Fr}:Fr.put ((k',e)::fr) t d=if k'=t then(k',d)::fr else(k',e)::Fr.put fr t d:=rfl
theorem yK{t:Nat}:Fr.fU fr (some t) d=fr.put t d:=rfl
theorem yL:Fr.fU fr none d=fr:=rfl
theorem BP:Fr.only keep []=[]:=rfl
theorem yM{t:Nat}{fr:Fr}:Fr.only keep ((t,d)::fr)=if keep.contains t then(t,d)::Fr.only keep fr else Fr.only keep fr:=rfl
theorem lC{s t:St}{k':Nat}:look (s++t) (s.length+k')=look t k':=by
 unfold look;rw[List.getElem?_append_right (by omega)];congr 2;omega
theorem gi{s t:St}:look (s++t) s.length=look t 0:=by
 unfold look;rw[List.getElem?_append_right (by omega)];simp
theorem wV{x:Option Ob}{t:St}:look (x::t) 0=x:=by cases x<;>rfl
theorem wW{x:Option Ob}{t:St}{k':Nat}:look (x::t) (k'+1)=look t k':=rfl
theorem yN{s t:St}{k':Nat}{x:Option Ob}:(s++t).set (s.length+k') x=s++t.set k' x:=by
 rw[List.set_append_right _ _ (by omega)];congr 2;omega
theorem BQ{s t:St}{x:Option Ob}:(s++t).set s.length x=s++t.set 0 x:=by
 rw[List.set_append_right _ _ (by omega)];simp
theorem BR{b:Bool}:D.one (.bool b)=true:=rfl
theorem Ek{k:IntKind}{n:Int}:D.one (.int k n)=true:=rfl
theorem El{s:Bs}:D.one (.str s)=true:=rfl
theorem BS:D.one .eB=true:=rfl
theorem BU:D.one .y5=true:=rfl
theorem BW:D.one .jx=true:=rfl
theorem BX:D.one .mh=true:=rfl
theorem GV{f:Bool}{n b:Nat}{es:List (List D)}:D.one (.sl f n b es)=true:=rfl
theorem GW{f:Nat}{a b:List D}:D.one (.fn f a b)=true:=rfl
theorem BZ{cs:List D}:D.one (.lB cs)=true:=rfl
theorem Em{f:Bool}{o g a b:Nat}:D.one (.ref f o g a b)=true:=rfl
theorem En{o g i c:Nat}:D.one (.ptr o g i c)=true:=rfl
theorem GX{o:Nat}:D.one (.mp o)=true:=rfl
theorem GY{o:Nat}:D.one (.it o)=true:=rfl
theorem Ca{cs:List D}:D.one (.agg cs)=false:=rfl
theorem Ke{cs:List D}:mkv true cs= .agg cs:=rfl
theorem Kf{x:D}{cs:List D}:mkv false (x::cs)=x:=rfl
end
attribute [go_sem] Lo Ka Ln Kc Jt MA MB MC MD ME GR GS GU MF MG MH Lp Lq Kd Ju Jv Lr
 then_eq opk aop ev1 ev eok strip qJ get_nil BN Ej BO yK yL BP yM lC gi wV wW yN BQ
 qK pL pe jz Gx Z9 kl K4 fu hY kq kC eD R9 aV jC mH cx S0 lE aEq aUn bP aE dN N6 yc Bx Bz Dm kD
 D.plain cellsOf dn splice fW rT eC bN fI hZ Bw xOk wN iE nz nz1 assoc y6 jI kr I5 G8 rS Ke Kf BR Ek El BS BU BW BX GV GW BZ Em En GX GY Ca nV elemOf nU keyOf strOf Bv TK.agg
 AQ.then AQ.block JZ eH rsD FY IntKind.signed
 eq_self true_and and_true and_self implies_true forall_const List.map_cons List.map_nil List.length_cons List.length_nil List.take_succ_cons List.take_zero List.drop_succ_cons List.drop_zero wL List.cons_append List.nil_append List.append_nil List.all_cons List.all_nil Bool.and_self Bool.and_true Bool.true_and Bool.and_false Bool.false_and
 List.getD_cons_zero List.getD_cons_succ List.getD_nil List.set_cons_zero List.set_cons_succ List.getElem?_cons_zero List.getElem?_cons_succ ne_eq not_false_eq_true Bool.false_eq_true if_true if_false cond_true cond_false List.mem_cons List.not_mem_nil or_false forall_eq forall_eq_or_imp List.append_assoc List.length_append List.replicate_zero List.replicate_succ not_true_eq_false beq_self_eq_true Bool.not_true Bool.not_false List.contains_cons List.contains_nil Bool.or_true Bool.true_or Bool.or_false Bool.false_or
section
variable {P:Program} {gl:Gl} {fr fr':Fr} {lk lk':Look} {q:Nat} {g:Bool} {op:Op}
theorem GZ(H:∀x∈op.operands,ev gl fr x=ev gl fr' x):aop P gl g op fr lk q=aop P gl g op fr' lk q:=by
 have H1:∀x∈op.operands,ev1 gl fr x=ev1 gl fr' x:=fun x h=>by simp only[ev1,H x h]
 have H2:∀g x,x∈op.operands→eok gl g fr x=eok gl g fr' x:=fun g x h=>by simp only[eok,H x h]
 cases op with
 |pick c a b=>
  have k1:=H1 c (by simp[Op.operands])
  have k2:=H1 a (by simp[Op.operands])
  have k3:=H1 b (by simp[Op.operands])
  simp only[aop,k1,k2,k3,fun g=>H2 g c (by simp[Op.operands]),fun g=>H2 g a (by simp[Op.operands]),fun g=>H2 g b (by simp[Op.operands])]
 |build t ps=>
  have h1:(ps.toList.map fun p=>(p.1,ev1 gl fr p.2))=ps.toList.map fun p=>(p.1,ev1 gl fr' p.2):=List.map_congr_left fun p hp=>by rw[H1 p.2 (by simp only[Op.operands,List.mem_toArray,List.mem_map];exact⟨p,hp,rfl⟩)]
  have h2:(∀p∈ps.toList,eok gl g fr p.2)= ∀p∈ps.toList,eok gl g fr' p.2:=forall_congr fun p=>propext ⟨fun h hp=>by rw[←H2 g p.2 (by simp only[Op.operands,List.mem_toArray,List.mem_map];exact⟨p,hp,rfl⟩)];exact h hp,fun h hp=>by rw[H2 g p.2 (by simp only[Op.operands,List.mem_toArray,List.mem_map];exact⟨p,hp,rfl⟩)];exact h hp⟩
  simp only[aop,h1,h2]
 |buildSlice t len ps=>
  have h1:(ps.toList.map fun p=>(p.1,ev1 gl fr p.2))=ps.toList.map fun p=>(p.1,ev1 gl fr' p.2):=List.map_congr_left fun p hp=>by rw[H1 p.2 (by simp only[Op.operands,List.mem_toArray,List.mem_map];exact⟨p,hp,rfl⟩)]
  have h2:(∀p∈ps.toList,eok gl g fr p.2)= ∀p∈ps.toList,eok gl g fr' p.2:=forall_congr fun p=>propext ⟨fun h hp=>by rw[←H2 g p.2 (by simp only[Op.operands,List.mem_toArray,List.mem_map];exact⟨p,hp,rfl⟩)];exact h hp,fun h hp=>by rw[H2 g p.2 (by simp only[Op.operands,List.mem_toArray,List.mem_map];exact⟨p,hp,rfl⟩)];exact h hp⟩
  simp only[aop,h1,h2]
 |makeFunc f a b=>
  cases f with
  |func f=>
   have h1:∀c:Array Operand,(∀x∈c.toList,x∈(Op.makeFunc (.func f) a b).operands)→c.toList.map (ev1 gl fr)=c.toList.map (ev1 gl fr'):=fun c hc=>List.map_congr_left fun x hx=>H1 x (hc x hx)
   have h2:∀c:Array Operand,(∀x∈c.toList,x∈(Op.makeFunc (.func f) a b).operands)→(∀x∈c.toList,eok gl g fr x)= ∀x∈c.toList,eok gl g fr' x:=fun c hc=>
    forall_congr fun x=>propext ⟨fun h hx=>by rw[←H2 g x (hc x hx)];exact h hx,fun h hx=>by rw[H2 g x (hc x hx)];exact h hx⟩
   have ha:∀x∈a.toList,x∈(Op.makeFunc (.func f) a b).operands:=fun x hx=>by simp only[Op.operands,Array.mem_append];exact .inl (by simpa using hx)
   have hb:∀x∈b.toList,x∈(Op.makeFunc (.func f) a b).operands:=fun x hx=>by simp only[Op.operands,Array.mem_append];exact .inr (by simpa using hx)
   simp only[aop,h1 a ha,h1 b hb,h2 a ha,h2 b hb]
  | _=>rfl
 |makeMap t r=>cases r<;>rfl
 |slice t x lo hi mx=>
  have hx:=H1 x (by simp[Op.operands])
  have hx2:=H2 g x (by simp[Op.operands])
  have key:∀z:Option Operand,(∀y∈z,y∈(Op.slice t x lo hi mx).operands)→z.map (ev1 gl fr)=z.map (ev1 gl fr')∧(∀y∈z,eok gl g fr y)= ∀y∈z,eok gl g fr' y:=fun z hz=>by
   cases z with
   |none=>simp
   |some y=>have:=hz y rfl;simp[H1 y this,H2 g y this]
  obtain⟨a1,a2⟩:=key lo (fun y hy=>by cases hy;simp[Op.operands])
  obtain⟨b1,b2⟩:=key hi (fun y hy=>by cases hy;simp[Op.operands])
  obtain⟨c1,c2⟩:=key mx (fun y hy=>by cases hy;simp[Op.operands])
  simp only[aop,hx,hx2,a1,a2,b1,b2,c1,c2]
 |call c=>
  obtain⟨callee,args,ats⟩:=c
  cases callee with
  |value f=>rfl
  |invoke r m=>rfl
  |builtin b=>
   have h1:∀x∈args.toList,ev1 gl fr x=ev1 gl fr' x:=fun x hx=>H1 x (by simp only[Op.operands,Call.operands];simpa using hx)
   have h2:∀x∈args.toList,eok gl g fr x=eok gl g fr' x:=fun x hx=>H2 g x (by simp only[Op.operands,Call.operands];simpa using hx)
   simp only[aop]
   generalize args.toList=l at h1 h2
   split
   ·simp only[List.mem_cons,List.not_mem_nil,or_false,forall_eq]at h1 h2;rw[h1,h2]
   ·simp only[List.mem_cons,List.not_mem_nil,or_false,forall_eq_or_imp,forall_eq]at h1 h2;rw[h1.1,h1.2,h2.1,h2.2]
   ·simp only[List.mem_cons,List.not_mem_nil,or_false,forall_eq_or_imp,forall_eq]at h1 h2;rw[h1.1,h1.2,h2.1,h2.2]
   ·simp only[List.mem_cons,List.not_mem_nil,or_false,forall_eq_or_imp,forall_eq]at h1 h2;rw[h1.1,h1.2,h2.1,h2.2]
   ·simp only[List.mem_cons,List.not_mem_nil,or_false,forall_eq]at h1 h2;rw[h1,h2]
   ·rfl
 | _=>first|rfl|(simp only[Op.operands,List.mem_toArray,List.mem_cons,List.not_mem_nil,or_false,forall_eq_or_imp,forall_eq]at H1 H2;simp only[aop,H1,H2 g,true_or,or_true])
end
def D.top:D→Option Nat
 | .ref _ o _ _ _=>some o
 | .ptr o _ _ _=>some o
 | .mp o=>some o
 | .it o=>some o
 | _=>none
def Loc(f:Look→LR)(ds:List D):Prop:=
 ∀lk,(f lk).ok→(∀o∈(f lk).rd,(∃d∈ds,d.top=some o)∧∃ob,lk o=some ob∧ob≠ .resv)∧∀lk',(∀o∈(f lk).rd,lk' o=lk o)→f lk'=f lk
theorem E1{r:LR}{ds:List D}(h:r.rd=[]):Loc (fun _=>r) ds:=fun _ _=>⟨fun o ho=>(by simp only at ho;rw[h]at ho;cases ho),fun _ _=>rfl⟩
theorem Loc.and{f:Look→LR}{ds:List D}(h:Loc f ds)(p:Prop):Loc (fun lk=>(f lk).and p) ds:=fun lk hok=>
 ⟨(h lk hok.2).1,fun lk' h'=>by show(f lk').and p=(f lk).and p;rw[(h lk hok.2).2 lk' h']⟩
theorem Loc.sub{f:Look→LR}{ds ds':List D}(h:Loc f ds)(hd:∀d∈ds,d∈ds'):Loc f ds':=fun lk hok=>
 ⟨fun o ho=>by obtain⟨⟨d,h1,h2⟩,h3⟩:=(h lk hok).1 o ho;exact⟨⟨d,hd d h1,h2⟩,h3⟩,(h lk hok).2⟩
section
variable {i e:TI} {d x key:D} {n q:Nat}
theorem vu:Loc (fun lk=>pe i lk d) [d]:=fun lk hok=>by
 cases d with
 |ptr o g k c=>
  simp only[pe]at hok⊢
  cases h:lk o with
  |none=>rw[h]at hok;exact hok.elim
  |some ob=>
   rw[h]at hok
   cases ob with
   |arr g' n' b es=>
    simp only[List.mem_singleton,forall_eq]
    exact⟨⟨⟨_,rfl,rfl⟩,_,h,Ob.noConfusion⟩,fun lk' h'=>by rw[h',h]⟩
   | _=>exact hok.elim
 |lB cs=>exact⟨fun o ho=>(by cases ho),fun _ _=>rfl⟩
 | _=>exact hok.elim
theorem sy:Loc (fun lk=>jz i lk x d) [d]:=fun lk hok=>by
 cases d with
 |ptr o g k c=>
  simp only[jz]at hok⊢
  cases h:lk o with
  |none=>rw[h]at hok;exact hok.elim
  |some ob=>
   rw[h]at hok
   cases ob with
   |arr g' n' b es=>
    simp only[List.mem_singleton,forall_eq]
    exact⟨⟨⟨_,rfl,rfl⟩,_,h,Ob.noConfusion⟩,fun lk' h'=>by rw[h',h]⟩
   | _=>exact hok.elim
 | _=>exact hok.elim
theorem kI{y:D}:Loc (fun lk=>K4 i e lk x y) [x]:=fun lk hok=>by
 cases y with
 |int kk m=>
  simp only[K4]at hok⊢
  generalize i.k=ik at hok⊢
  cases ik with
  |slice e=>
   cases x with
   |ref full o g off len=>
    simp only at hok⊢
    cases h:lk o with
    |none=>rw[h]at hok;exact hok.elim
    |some ob=>
     rw[h]at hok
     cases ob with
     |arr g' n' b es=>
      simp only[List.mem_singleton,forall_eq]
      exact⟨⟨⟨_,rfl,rfl⟩,_,h,Ob.noConfusion⟩,fun lk' h'=>by rw[h',h]⟩
     | _=>exact hok.elim
   |sl full n' b es=>exact⟨fun o ho=>(by cases ho),fun _ _=>rfl⟩
   | _=>exact hok.elim
  |arr len e=>
   cases x with
   |ptr o g k c=>exact⟨fun o ho=>(by cases ho),fun _ _=>rfl⟩
   |lB cs=>exact⟨fun o ho=>(by cases ho),fun _ _=>rfl⟩
   | _=>exact hok.elim
  | _=>exact hok.elim
 | _=>exact hok.elim
theorem sA{lo hi mx:Option D}:Loc (fun lk=>hY i n lk x lo hi mx) [x]:=fun lk hok=>by
 cases x with
 |ref full o g off len=>
  simp only[hY]at hok⊢
  cases h:lk o with
  |none=>rw[h]at hok;exact hok.elim
  |some ob=>
   rw[h]at hok
   cases ob with
   |arr g' n' b es=>
    simp only[List.mem_singleton,forall_eq]
    exact⟨⟨⟨_,rfl,rfl⟩,_,h,Ob.noConfusion⟩,fun lk' h'=>by rw[h',h]⟩
   | _=>exact hok.elim
 |str s=>exact⟨fun o ho=>(by cases ho),fun _ _=>rfl⟩
 |sl full n' b es=>exact⟨fun o ho=>(by cases ho),fun _ _=>rfl⟩
 |y5=>exact⟨fun o ho=>(by cases ho),fun _ _=>rfl⟩
 | _=>exact hok.elim
theorem pY{ki vi:TI}{c:Bool}:Loc (fun lk=>cx i ki vi lk c key d) [d]:=fun lk hok=>by
 cases d with
 |mh=>
  simp only[cx]at hok⊢
  cases key<;>first|(exact hok.elim)|exact⟨fun o ho=>(by cases ho),fun _ _=>by first|rfl|trivial|simp⟩
 |mp o=>
  simp only[cx]at hok⊢
  cases h:lk o with
  |none=>rw[h]at hok;exact hok.elim
  |some ob=>
   rw[h]at hok
   cases ob<;>first|(exact hok.elim)|skip
   all_goals
    cases key<;>first|(exact hok.elim)|skip
    simp only[List.mem_singleton,forall_eq]
    exact⟨⟨⟨_,rfl,rfl⟩,_,h,Ob.noConfusion⟩,fun lk' h'=>by rw[h',h]⟩
 | _=>exact hok.elim
theorem vw{b:Bool}:Loc (fun lk=>mH lk b d) [d]:=fun lk hok=>by
 cases b with
 |false=>exact hok.elim
 |true=>
  cases d with
  |it o=>
   simp only[mH]at hok⊢
   cases h:lk o with
   |none=>rw[h]at hok;exact hok.elim
   |some ob=>
    rw[h]at hok
    cases ob<;>first|(exact hok.elim)|skip
    all_goals
     simp only[List.mem_singleton,forall_eq]
     exact⟨⟨⟨_,rfl,rfl⟩,_,h,Ob.noConfusion⟩,fun lk' h'=>by rw[h',h]⟩
  | _=>exact hok.elim
theorem dP{ki vi:TI}:Loc (fun lk=>S0 i ki vi lk key x d) [d]:=fun lk hok=>by
 cases d with
 |mp o=>
  simp only[S0]at hok⊢
  cases h:lk o with
  |none=>rw[h]at hok;exact hok.elim
  |some ob=>
   rw[h]at hok
   cases ob<;>first|(exact hok.elim)|skip
   all_goals
    cases key<;>first|(exact hok.elim)|skip
    simp only[List.mem_singleton,forall_eq]
    exact⟨⟨⟨_,rfl,rfl⟩,_,h,Ob.noConfusion⟩,fun lk' h'=>by rw[h',h]⟩
 | _=>exact hok.elim
theorem yO:Loc (fun lk=>yc i lk d) [d]:=fun lk hok=>by
 cases d with
 |ref full o g off len=>
  simp only[yc]at hok⊢
  cases h:lk o with
  |none=>rw[h]at hok;exact hok.elim
  |some ob=>
   rw[h]at hok
   cases ob with
   |arr g' n' b es=>
    simp only[List.mem_singleton,forall_eq]
    exact⟨⟨⟨_,rfl,rfl⟩,_,h,Ob.noConfusion⟩,fun lk' h'=>by rw[h',h]⟩
   | _=>exact hok.elim
 |mp o=>
  simp only[yc]at hok⊢
  cases h:lk o with
  |none=>rw[h]at hok;exact hok.elim
  |some ob=>
   rw[h]at hok
   cases ob<;>first|(exact hok.elim)|skip
   all_goals
    simp only[List.mem_singleton,forall_eq]
    exact⟨⟨⟨_,rfl,rfl⟩,_,h,Ob.noConfusion⟩,fun lk' h'=>by rw[h',h]⟩
 |str s=>exact⟨fun o ho=>(by cases ho),fun _ _=>rfl⟩
 |sl full n' b es=>exact⟨fun o ho=>(by cases ho),fun _ _=>rfl⟩
 |y5=>exact⟨fun o ho=>(by cases ho),fun _ _=>rfl⟩
 |mh=>exact⟨fun o ho=>(by cases ho),fun _ _=>rfl⟩
 | _=>exact hok.elim
theorem Cb{lk:Look}{news:List (List D)}(h:hZ lk e x=some news):(∀o∈Bw x,x.top=some o∧∃ob,lk o=some ob∧ob≠ .resv)∧∀lk',(∀o∈Bw x,lk' o=lk o)→hZ lk' e x=some news:=by
 cases x with
 |ref full o g off len=>
  simp only[hZ]at h
  simp only[Bw,List.mem_singleton,forall_eq]
  cases hl:lk o with
  |none=>rw[hl]at h;cases h
  |some ob=>
   rw[hl]at h
   cases ob with
   |arr g' n' b es=>exact⟨⟨rfl,_,rfl,Ob.noConfusion⟩,fun lk' h'=>by simp only[hZ,h'];exact h⟩
   | _=>cases h
 | _=>exact⟨fun o ho=>(by cases ho),fun _ _=>h⟩
theorem pZ{xk:TK}{s:D}:Loc (fun lk=>N6 i e xk lk s x q) [s,x]:=fun lk hok=>by
 simp only[N6]at hok⊢
 cases hn:hZ lk e x with
 |none=>rw[hn]at hok;exact hok.elim
 |some news=>
  rw[hn]at hok
  obtain⟨n1,n2⟩:=Cb hn
  have hx:∀o∈Bw x,(∃d∈ [s,x],d.top=some o)∧∃ob,lk o=some ob∧ob≠ .resv:=fun o ho=>⟨⟨x,by simp,(n1 o ho).1⟩,(n1 o ho).2⟩
  cases s with
  |y5=>exact⟨hx,fun lk' h'=>by simp only[n2 lk' h']⟩
  |sl full n' b es=>
   cases full with
   |true=>exact⟨hx,fun lk' h'=>by simp only[n2 lk' h']⟩
   |false=>exact hok.elim
  |ref full o g off len=>
   cases full<;>
   ·simp only at hok⊢
    cases hl:lk o with
    |none=>rw[hl]at hok;exact hok.elim
    |some ob=>
     rw[hl]at hok
     cases ob with
     |arr g' n' b es=>
      simp only[List.mem_cons,forall_eq_or_imp]
      exact⟨⟨⟨⟨_,.inl rfl,rfl⟩,_,hl,Ob.noConfusion⟩,fun o ho=>by simpa using hx o ho⟩,fun lk' h'=>by simp only[n2 lk' h'.2,h'.1,hl]⟩
     | _=>exact hok.elim
  | _=>exact hok.elim
theorem qL{parts:List (Nat×D)}:(kq i e parts).rd=[]:=by unfold kq;split<;>rfl
theorem qM{f:Nat}:(kl i f x).rd=[]:=by unfold kl;(repeat' split)<;>rfl
theorem iM{f:Nat}:(Z9 i f x).rd=[]:=by unfold Z9;(repeat' split)<;>rfl
theorem qN{y:D}:(fu i e x y).rd=[]:=by unfold fu;(repeat' split)<;>rfl
theorem yP{o:BinOp}{y:D}:(lE o x y).rd=[]:=by
 unfold lE
 split
 ·split<;>first|rfl|skip
  split<;>first|rfl|skip
  split<;>first|rfl
 ·split<;>rfl
 ·rfl
theorem Eo{fl:Option (List Nat)}{b:Bool}{y:D}:(aEq i fl b x y).rd=[]:=by unfold aEq;(repeat' split)<;>rfl
theorem Ep{o:UnOp}:(aUn o x).rd=[]:=by
 unfold aUn;split
 ·rfl
 ·rfl
 ·rfl
theorem jN{x:D}:(aE x).rd=[]:=by unfold aE;(repeat' split)<;>rfl
theorem lJ{i e e2:TI}{x:D}:(bP i e e2 x).rd=[]:=by unfold bP;(repeat' split)<;>rfl
theorem lK{ix:Nat}:(dN ix x).rd=[]:=by unfold dN;(repeat' split)<;>rfl
theorem yQ{i:TI}:(Dm i x).rd=[]:=by unfold Dm;split<;>rfl
theorem yR{y:D}:(Bx x y).rd=[]:=by unfold Bx;split<;>rfl
theorem yS{y:D}:(Bz x y).rd=[]:=by unfold Bz;split<;>rfl
theorem uD{y z:D}:(kD x y z).rd=[]:=by unfold kD;split<;>rfl
theorem qO:(jC i q x).rd=[]:=by unfold jC;split<;>rfl
theorem lM{b:Bool}:(aV i e b q).rd=[]:=by unfold aV;(repeat' split)<;>rfl
theorem iN{y:D}:(R9 i e x y q).rd=[]:=by unfold R9;split<;>rfl
end
theorem yT{P:Program}{gl:Gl}{fr:Fr}{q:Nat}{g:Bool}{op:Op}:Loc (fun lk=>aop P gl g op fr lk q) (op.operands.toList.map (ev1 gl fr)):=by
 have mem:∀x,x∈op.operands.toList→ev1 gl fr x∈op.operands.toList.map (ev1 gl fr):=fun x hx=>List.mem_map.2 ⟨x,hx,rfl⟩
 have one:∀ {f:Look→LR} {x:Operand},x∈op.operands.toList→Loc f [ev1 gl fr x]→Loc f (op.operands.toList.map (ev1 gl fr)):=fun hx h=>h.sub fun d hd=>by
  rw[List.mem_singleton]at hd;subst hd;exact mem _ hx
 cases op with
 |load t a=>exact one (by simp[Op.operands]) (vu.and _)
 |store t a x=>exact one (x:=a) (by simp[Op.operands]) (sy.and _)
 |indexAddr t x y=>exact one (x:=x) (by simp[Op.operands]) (kI.and _)
 |slice t x lo hi mx=>exact one (x:=x) (by simp[Op.operands]) (sA.and _)
 |lookup t m k c=>exact one (x:=m) (by simp[Op.operands]) (pY.and _)
 |mapUpdate t m k x=>exact one (x:=m) (by simp[Op.operands]) (dP.and _)
 |insert t m k x=>exact one (x:=m) (by simp[Op.operands]) (dP.and _)
 |call c=>
  obtain⟨callee,args,ats⟩:=c
  cases callee with
  |value f=>exact E1 rfl
  |invoke r m=>exact E1 rfl
  |builtin b=>
   have hmem:∀x,x∈args.toList→x∈(Op.call ⟨.builtin b,args,ats⟩).operands.toList:=fun x hx=>by simp only[Op.operands,Call.operands];simpa using hx
   simp only[aop]
   generalize hl:args.toList=l at hmem
   split
   ·exact one (hmem _ (by simp)) (yO.and _)
   ·rename_i s x t u _
    exact(pZ.and _).sub fun d hd=>by
     simp only[List.mem_cons,List.not_mem_nil,or_false]at hd
     rcases hd with rfl|rfl
     ·exact mem _ (hmem _ (by simp))
     ·exact mem _ (hmem _ (by simp))
   ·exact(E1 yR).and _
   ·exact(E1 yS).and _
   ·exact(E1 yQ).and _
   ·exact E1 rfl
 |pick c a b=>exact(E1 uD).and _
 |box t x=>exact(E1 rfl).and _
 |build t ps=>exact(E1 qL).and _
 |buildSlice t len ps=>
  simp only[aop]
  cases gl.imm t<;>exact(E1 rfl).and _
 |binOp o t x y u=>
  simp only[aop]
  split<;>first|exact(E1 Eo).and _|exact(E1 yP).and _
 |unOp o t x=>exact(E1 Ep).and _
 |nilCheck x=>exact(E1 jN).and _
 |convert s t x=>exact(E1 lJ).and _
 |makeFunc f a b=>cases f<;>exact E1 rfl
 |makeMap t r=>cases r with
  |none=>exact E1 lM
  |some r=>exact E1 rfl
 |makeSlice t l c=>exact(E1 iN).and _
 |range t x=>exact(E1 qO).and _
 |next x b=>exact one (x:=x) (by simp[Op.operands]) (vw.and _)
 |fieldAddr t x f=>exact(E1 iM).and _
 |field t x f=>exact(E1 qM).and _
 |index t x y=>exact(E1 qN).and _
 |extract x j=>exact(E1 lK).and _
 | _=>exact E1 rfl
section
variable {P:Program} {gl:Gl} {fr fr':Fr} {q:Nat} {g:Bool} {op:Op} {lk:Look}
theorem gR{f:Look→LR}{d:D}(h:Loc f [d]){o:Nat}(hok:(f lk).ok)(ho:o∈(f lk).rd):d.top=some o:=by
 obtain⟨⟨e,h1,h2⟩,_⟩:=(h lk hok).1 o ho
 rw[List.mem_singleton]at h1;subst h1;exact h2
theorem Er{o:Nat}(hok:(aop P gl g op fr lk q).ok)(ho:o∈(aop P gl g op fr lk q).rd):∃x∈op.operands.toList,eok gl g fr x∧(ev1 gl fr x).top=some o:=by
 have none:∀ {r:LR},r.rd=[]→o∈r.rd→∃x∈op.operands.toList,eok gl g fr x∧(ev1 gl fr x).top=some o:=fun h ho=>by rw[h]at ho;cases ho
 cases op with
 |load t a=>exact⟨a,by simp[Op.operands],hok.1.1,gR vu hok.2 ho⟩
 |store t a x=>exact⟨a,by simp[Op.operands],hok.1.1,gR (sy) hok.2 ho⟩
 |indexAddr t x y=>exact⟨x,by simp[Op.operands],hok.1.1,gR (kI) hok.2 ho⟩
 |slice t x lo hi mx=>exact⟨x,by simp[Op.operands],hok.1.1,gR (sA) hok.2 ho⟩
 |lookup t m k c=>exact⟨m,by simp[Op.operands],hok.1.1,gR (pY) hok.2 ho⟩
 |mapUpdate t m k x=>exact⟨m,by simp[Op.operands],hok.1.1,gR (dP) hok.2 ho⟩
 |insert t m k x=>exact⟨m,by simp[Op.operands],hok.1.1,gR (dP) hok.2 ho⟩
 |next x b=>exact⟨x,by simp[Op.operands],hok.1,gR (vw) hok.2 ho⟩
 |range t x=>exact none qO ho
 |call c=>
  obtain⟨callee,args,ats⟩:=c
  cases callee with
  |value f=>cases ho
  |invoke r m=>cases ho
  |builtin b=>
   have hmem:∀x,x∈args.toList→x∈(Op.call ⟨.builtin b,args,ats⟩).operands.toList:=fun x hx=>by simp only[Op.operands,Call.operands];simpa using hx
   simp only[aop]at hok ho
   generalize args.toList=l at hmem hok ho
   revert hok ho
   split<;>intro hok ho
   ·exact⟨_,hmem _ (by simp),hok.1,gR yO hok.2 ho⟩
   ·obtain⟨⟨d,h1,h2⟩,_⟩:=(pZ _ hok.2).1 o ho
    simp only[List.mem_cons,List.not_mem_nil,or_false]at h1
    rcases h1 with rfl|rfl
    ·exact⟨_,hmem _ (by simp),hok.1.1,h2⟩
    ·exact⟨_,hmem _ (by simp),hok.1.2,h2⟩
   ·exact none yR ho
   ·exact none yS ho
   ·exact none yQ ho
   ·cases ho
 |pick c a b=>exact none uD ho
 |box t x=>cases ho
 |build t ps=>exact none qL ho
 |buildSlice t len ps=>revert ho;simp only[aop];cases gl.imm t<;>(intro ho;cases ho)
 |binOp o' t x y u=>
  simp only[aop]at ho
  split at ho<;>first|exact none Eo ho|exact none yP ho
 |unOp o t x=>exact none Ep ho
 |nilCheck x=>exact none jN ho
 |convert s t x=>exact none lJ ho
 |makeFunc f a b=>cases f<;>cases ho
 |makeMap t r=>cases r with
  |none=>exact none lM ho
  |some r=>cases ho
 |makeSlice t l c=>exact none iN ho
 |fieldAddr t x f=>exact none iM ho
 |field t x f=>exact none qM ho
 |index t x y=>exact none qN ho
 |extract x j=>exact none lK ho
 | _=>cases ho
theorem VR.vA{w:World}{μ:Mu}{st:St}{v:Value}{d:D}{o:Nat}(h:VR w μ st v d)(ht:d.top=some o):st[o]? ≠some (some .resv):=by
 cases h with
 |tr h=>cases h<;>cases ht
 |ref=>cases ht;assumption
 |ptr=>cases ht;assumption
 |mp=>cases ht;assumption
 |it=>cases ht;assumption
 | _=>cases ht
def vB(r:LR):Prop:=∀o ob,r.up=some (o,ob)→o∈r.rd
theorem L3{r:LR}(h:r.up=none):vB r:=fun o ob e=>by rw[h]at e;cases e
theorem L5{r:LR}{p:Prop}(h:r.still):vB (r.and p):=L3 (by simp only[LR.and];exact h.1)
theorem mU:vB (aop P gl g op fr lk q):=by
 cases op with
 |store t a x=>
  refine fun o ob e=>?_
  simp only[aop,LR.and,jz]at e⊢
  revert e
  cases ev1 gl fr a<;>try (intro e;cases e;done)
  rename_i o' g' k c
  simp only
  cases lk o' with
  |none=>intro e;cases e
  |some ob'=>cases ob'<;>(intro e;cases e)<;>simp
 |mapUpdate t m k x=>
  refine fun o ob e=>?_
  simp only[aop,LR.and,S0]at e⊢
  revert e
  cases ev1 gl fr m<;>try (intro e;cases e;done)
  rename_i o'
  simp only
  cases lk o' with
  |none=>intro e;cases e
  |some ob'=>cases ob'<;>try (intro e;cases e;done)
             all_goals (cases ev1 gl fr k<;>(intro e;cases e)<;>simp)
 |insert t m k x=>
  refine fun o ob e=>?_
  simp only[aop,LR.and,S0]at e⊢
  revert e
  cases ev1 gl fr m<;>try (intro e;cases e;done)
  rename_i o'
  simp only
  cases lk o' with
  |none=>intro e;cases e
  |some ob'=>cases ob'<;>try (intro e;cases e;done)
             all_goals (cases ev1 gl fr k<;>(intro e;cases e)<;>simp)
 |next x b=>
  refine fun o ob e=>?_
  simp only[aop,LR.and]at e⊢
  cases b with
  |false=>cases e
  |true=>
   revert e
   cases ev1 gl fr x<;>try (intro e;cases e;done)
   simp only[mH]
   rename_i o'
   cases lk o' with
   |none=>intro e;cases e
   |some ob'=>cases ob'<;>(intro e;cases e)<;>simp
 |range t x=>exact L3 (oc _ _ _)
 |call c=>
  obtain⟨callee,args,ats⟩:=c
  cases callee with
  |value f=>exact L3 rfl
  |invoke r m=>exact L3 rfl
  |builtin b=>
   simp only[aop]
   generalize args.toList=l
   split
   ·refine L3 ?_
    simp only[LR.and]
    exact(ga _ _ _).1
   ·refine fun o ob e=>?_
    rename_i s x t u _
    simp only[LR.and,N6]at e⊢
    revert e
    cases hZ lk (x5 P (elemOf (x5 P t))) (ev1 gl fr x)with
    |none=>intro e;cases e
    |some news=>
     simp only
     cases ev1 gl fr s<;>try (intro e;cases e;done)
     ·rename_i full _ _ _;cases full<;>(intro e;cases e)
     ·rename_i full o' _ _ _
      cases full<;>simp only
      ·cases lk o' with
       |none=>intro e;cases e
       |some ob'=>cases ob'<;>(intro e;cases e)<;>simp
      ·cases lk o' with
       |none=>intro e;cases e
       |some ob'=>cases ob'<;>(intro e;cases e)
   ·refine L3 ?_
    simp only[LR.and];exact(ji _ _).1
   ·refine L3 ?_
    simp only[LR.and];exact(jj _ _).1
   ·refine L3 ?_
    simp only[LR.and];exact(gg _ _).1
   ·exact L3 rfl
 |pick c a b=>exact L5 (iL _ _ _)
 |box t x=>exact L3 rfl
 |build t ps=>exact L5 (iK _ _ _)
 |buildSlice t len ps=>simp only[aop];cases gl.imm t<;>exact L3 rfl
 |load t a=>exact L5 (gM _ _ _)
 |binOp o t x y u=>
  simp only[aop]
  split<;>first|exact L5 (nY _ _ _ _ _)|exact L5 (lH _ _ _)
 |unOp o t x=>exact L5 (nZ _ _)
 |nilCheck x=>exact L5 (eF _)
 |convert s t x=>exact L5 (fM _ _ _ _)
 |makeFunc f a b=>cases f<;>exact L3 rfl
 |makeMap t r=>cases r with
  |none=>simp only[aop,aV];(repeat' split)<;>exact L3 rfl
  |some r=>exact L3 rfl
 |makeSlice t l c=>simp only[aop,R9];split<;>exact L3 rfl
 |slice t x lo hi mx=>exact L5 (fA _ _ _ _ _ _ _)
 |fieldAddr t x f=>exact L5 (dy _ _ _)
 |field t x f=>exact L5 (iI _ _ _)
 |indexAddr t x y=>exact L5 (aX _ _ _ _ _)
 |index t x y=>exact L5 (iJ _ _ _ _)
 |lookup t m k c=>exact L5 (dO _ _ _ _ _ _ _)
 |extract x j=>exact L5 (fN _ _)
 | _=>exact L3 rfl
end
theorem vC{o:Nat}:∀ {m:List (Nat×Ob)} {s:St},o∉m.map (·.1)→(puts s m)[o]? =s[o]?
 | [],_,_=>rfl
 |(a,x)::m,s,h=>by
  simp only[List.map_cons,List.mem_cons,not_or]at h
  simp only[puts]
  rw[List.getElem?_set,if_neg (fun e=>h.1 e.symm),vC h.2]
theorem qb{o:Nat}:∀ {m:List (Nat×Ob)} {s s':St},s[o]? =s'[o]? →(puts s m)[o]? =(puts s' m)[o]?
 | [],_,_,h=>h
 |(a,x)::m,s,s',h=>by
  have ih:=qb (m:=m) h
  simp only[puts]
  have sg:∀(l:St) (v:Option Ob),(l.set a v)[o]? =if a=o then(l[o]?).map (fun _=>v)else l[o]? :=fun l v=>by
   rw[List.getElem?_set]
   by_cases h:a=o
   ·subst h
    rw[if_pos rfl,if_pos rfl]
    by_cases hl:a<l.length
    ·rw[if_pos hl,List.getElem?_eq_getElem hl];rfl
    ·rw[if_neg hl,List.getElem?_eq_none (by simpa using hl)];rfl
   ·rw[if_neg h,if_neg h]
  rw[sg,sg,ih]
def qP(P:Program)(G:Gl)(f:FuncId)(args:List D)(rd:List Nat)(st0:St)(r:D)(ups:List (Nat×Ob)):Prop:=
 ∀st,(∀o∈rd,look st o=look st0 o)→Spec P G f args st fun d st'=>d=r∧st'=puts st ups
theorem Pure.loc{P:Program}{G:Gl}{f:FuncId}{args:List D}{st0:St}{r:D}(h:Pure P G f args r):qP P G f args [] st0 r []:=fun st _=>h st
structure Row where
 o:Oper
 q:Nat
 G:Bool
 r:LR
 ups:List (Nat×Ob)
def Row.d(x:Row):D:=match x.o.guard with
 |none=>x.r.d
 |some _=>.cond x.G x.r.d
def Row.fr(x:Row)(fr:Fr):Fr:=fr.fU x.o.dst x.d
def Row.st(x:Row)(st:St):St:=bif x.G then puts (x.r.app x.q st) x.ups else st
def Row.rd(x:Row):List Nat:=bif x.G then x.r.rd else []
def Row.wr(x:Row):List Nat:=bif x.G then(match x.r.up with|some (o,_)=>[o]|none=>[])++x.ups.map (·.1)else []
structure Fits(P:Program)(gl:Gl)(N:Nat)(ops:Array Oper)(b:Nat)(x:Row)(fr:Fr)(st:St):Prop where
 dst:jL N x.o
 gok:cA ops fr x.o
 hG:x.G=guardOf ops fr x.o
 vB:vB x.r∧∀p∈x.ups,p.1∈x.r.rd
 does:x.G=true→(bH x.o.op=none∧x.r=aop P gl true x.o.op fr (look st) x.q∧x.r.ok∧(needs x.o.op=true→st[x.q]? =some (some .resv))∧x.ups=[])∨
  ∃f xs g first cap d rd,bH x.o.op=some (f,xs)∧eok gl true fr f∧(∀y∈xs,eok gl true fr y)∧ev1 gl fr f= .fn g first cap∧qP P gl g (first++xs.map (ev1 gl fr)++cap) rd st d x.ups∧
   x.r=⟨d,True,rd,none,none⟩∧∀o∈rd,(o<b∨∃e∈first++xs.map (ev1 gl fr)++cap,e.top=some o)∧∃ob,st[o]? =some (some ob)∧ob≠ .resv
 makes:x.r.new≠none→needs x.o.op=true
section
variable {P:Program} {gl:Gl} {N:Nat} {ops:Array Oper} {w0:World} {μ0:Mu} {st0:St} {x:Row} {b:Nat} {fr fr':Fr} {st st':St} {Q:Exit→Act→World→Prop}
theorem jk{o:Nat}{ob:Ob}:look st o=some ob↔st[o]? =some (some ob):=by
 unfold look
 cases h:st[o]? with
 |none=>simp
 |some y=>cases y<;>simp
theorem vD{a:Act}{w:World}{μ:Mu}{o:Oper}{q:Nat}(h:ke gl N w0 μ0 st0 fr st a w μ)(hok:(aop P gl true o.op fr (look st) q).ok)(hd:jL N o)(hq:needs o.op=true→st[q]? =some (some .resv)):
 ∃nx v w' μ',(execOp a.eval o).run P w= .ok nx w'∧(nx= .value v∨(nx= .skip∧v=undef))∧
  ke gl N w0 μ0 st0 (fr.fU o.dst (aop P gl true o.op fr (look st) q).d) ((aop P gl true o.op fr (look st) q).app q st) (a.put o.dst v) w' μ':=by
 obtain⟨nx,v,w',μ',h1,h2,h3,h4,h5⟩:=og (P:=P) (G:=gl) (q:=q) h.sim h.fr h.glob hq hok
 refine⟨nx,v,w',μ',h1,h2,h3,h.glob.step h4,?_,?_,?_,h.step.trans h4⟩
 ·cases mw:o.dst with
  |none=>exact h.fr.step h4
  |some t=>
   have ht:t<N:=by simpa[jL,mw]using hd
   exact(h.fr.step h4).put h5 (by rw[h.size];exact ht)
 ·cases mw:o.dst with
  |none=>exact h.size
  |some t=>simp[Act.put,h.size]
 ·cases mw:o.dst with
  |none=>exact h.defers
  |some t=>simp[Act.put,h.defers]
theorem Cc{a:Act}{w:World}{μ:Mu}{K:Act→World→Prop}(hc:ke gl N w0 μ0 st0 fr st a w μ)(h:Fits P gl N ops b x fr st)
 (hK:∀a' w' μ',ke gl N w0 μ0 st0 (x.fr fr) (x.st st) a' w' μ'→K a' w'):
 if Region.wanted x.o (yielded ops a.tmps)then x.o.wp P a w K Q∨(x.o.asks P a w∧LetsOut Q)else K (a.put x.o.dst undef) w:=by
 rw[jM hc.fr h.gok, ←h.hG]
 cases hG:x.G with
 |false=>
  simp only[Bool.false_eq_true,if_false]
  have hgs:∃p,x.o.guard=some p:=by
   cases hgd:x.o.guard with
   |none=>have:=h.hG;simp[guardOf,hgd,hG]at this
   |some p=>exact⟨p,rfl⟩
  obtain⟨p,hgs⟩:=hgs
  refine hK _ _ μ ?_
  simp only[Row.fr,Row.st,Row.d,hgs,hG,cond_false]
  exact oh hc h.dst _
 |true=>
  simp only[if_true]
  left
  have wrap:∀ {d:D} {a' w' μ' st'} {v:Value},ke gl N w0 μ0 st0 (fr.fU x.o.dst d) st' (a.put x.o.dst v) w' μ'→x.r.d=d→a'=a.put x.o.dst v→ke gl N w0 μ0 st0 (x.fr fr) st' a' w' μ':=by
   intro d a' w' μ' st' v hc' hd ha
   subst ha;subst hd
   have:=om hc' true rfl
   unfold xS at this
   simp only[Row.fr,Row.d]
   split at this
   ·rename_i e;first|(rw[e];exact this)|exact this
   ·rename_i e;first|(rw[e];simp only[hG];exact this)|(simp only[hG];exact this)|exact this
  rcases h.does hG with⟨gN,hr,hok,hq,Es⟩|⟨f,xs,g,first,cap,d,rd,gN,hf,hx,hev,hp,hr,hrd⟩
  ·rw[hr]at hok
   obtain⟨nx,v,w',μ',h1,h2,h3⟩:=vD (P:=P) (o:=x.o) hc hok h.dst hq
   unfold Oper.wp
   rw[h1]
   have next:K (a.put x.o.dst v) w':=by
    refine hK _ _ μ' ?_
    simp only[Row.st,hG,cond_true,Es,puts]
    rw[←hr]at h3
    exact wrap h3 rfl rfl
   rcases h2 with rfl|⟨rfl,rfl⟩<;>exact next
  ·obtain⟨_,hspec⟩:=hp st fun _ _=>rfl
   obtain⟨vs,h1,h2,h3⟩:=mT (P:=P) gN hc.fr hc.glob hf hx hev
   unfold Oper.wp
   rw[h1]
   refine(hspec w μ vs hc.sim hc.glob h2 h3).upon fun e w' ⟨v,d',st',μ',he,⟨hd1,hd2⟩,hs',vp,hv⟩=>?_
   subst he;subst hd1;subst hd2
   refine hK _ _ μ' ?_
   have hst:x.st st=puts st x.ups:=by simp[Row.st,hG,hr,LR.app]
   rw[hst]
   refine wrap (d:=d') ?_ (by rw[hr]) rfl
   refine⟨hs',hc.glob.step vp,?_,?_,?_,hc.step.trans vp⟩
   ·cases mw:x.o.dst with
    |none=>exact hc.fr.step vp
    |some t=>
     have ht:t<N:=by simpa[jL,mw]using h.dst
     exact(hc.fr.step vp).put hv (by rw[hc.size];exact ht)
   ·cases mw:x.o.dst with
    |none=>exact hc.size
    |some t=>simp[Act.put,hc.size]
   ·cases mw:x.o.dst with
    |none=>exact hc.defers
    |some t=>simp[Act.put,hc.defers]
theorem qQ(hs:∀t∈x.o.looksAt ops,fr'.get t=fr.get t):∀y∈x.o.op.operands,ev gl fr y=ev gl fr' y:=by
 intro y hy
 cases y with
 |tmp t=>exact(hs t (by simp only[Oper.looksAt,List.mem_append,List.mem_filterMap];exact .inl ⟨.tmp t,by simpa using hy,rfl⟩)).symm
 | _=>rfl
theorem uE(hs:∀t∈x.o.looksAt ops,fr'.get t=fr.get t):guardOf ops fr' x.o=guardOf ops fr x.o∧(cA ops fr' x.o↔cA ops fr x.o):=by
 unfold guardOf cA
 cases hg:x.o.guard with
 |none=>exact⟨rfl,Iff.rfl⟩
 |some p=>
  obtain⟨j,want⟩:=p
  simp only
  cases hd:(ops[j]?).bind (·.dst)with
  |none=>exact⟨rfl,Iff.rfl⟩
  |some t=>
   have:=hs t (by simp only[Oper.looksAt,hg,hd,List.mem_append];exact .inr (by simp))
   simp only[this]
   exact⟨trivial,trivial⟩
theorem kJ{o:Op}{f:Operand}{xs:List Operand}(h:bH o=some (f,xs)):f∈o.operands∧∀y∈xs,y∈o.operands:=by
 cases o<;>simp only[bH]at h<;>first|(cases h;done)|skip
 rename_i c
 obtain⟨callee,args,ats⟩:=c
 cases callee<;>simp only at h<;>first|(cases h;done)|skip
 cases h
 exact⟨by simp[Op.operands,Call.operands],fun y hy=>by simp only[Op.operands,Call.operands,Array.mem_append];exact .inr (by simpa using hy)⟩
theorem yU{a:Act}{w:World}{μ:Mu}(hc:ke gl N w0 μ0 st0 fr' st' a w μ)(h:Fits P gl N ops b x fr st)(hs:∀t∈x.o.looksAt ops,fr'.get t=fr.get t):
 ∀o∈x.rd,st'[o]? ≠some (some .resv)∨o<b:=by
 intro o ho
 unfold Row.rd at ho
 cases hG:x.G with
 |false=>rw[hG]at ho;cases ho
 |true=>
  rw[hG]at ho
  rcases h.does hG with⟨gN,hr,hok,hq,Es⟩|⟨f,xs,g,first,cap,d,rd,gN,hf,hx,hev,hp,hr,hrd⟩
  ·rw[hr]at hok
   simp only[cond_true,hr]at ho
   obtain⟨y,h1,h2,h3⟩:=Er hok ho
   have e:=qQ (gl:=gl) hs y (by simpa using h1)
   have h2':eok gl true fr' y:=by unfold eok at h2 ⊢; rw[←e];exact h2
   have h3':(ev1 gl fr' y).top=some o:=by unfold ev1 at h3 ⊢; rw[←e];exact h3
   exact .inl ((fZ hc.fr hc.glob h2').vA h3')
  ·simp only[hr,cond_true]at ho
   rcases(hrd o ho).1 with h1|⟨e,h1,h2⟩
   ·exact .inr h1
   ·obtain⟨m1,m2⟩:=kJ gN
    have Ls:=qQ (gl:=gl) hs
    have e1:∀y∈x.o.op.operands,ev1 gl fr' y=ev1 gl fr y:=fun y hy=>by unfold ev1;rw[Ls y hy]
    have e2:∀y∈x.o.op.operands,eok gl true fr y→eok gl true fr' y:=fun y hy=>by unfold eok;rw[Ls y hy];exact id
    obtain⟨vs,_,_,h5⟩:=mT (P:=P) gN hc.fr hc.glob (e2 f m1 hf) (fun y hy=>e2 y (m2 y hy) (hx y hy)) ((e1 f m1).trans hev)
    rw[List.map_congr_left fun y hy=>e1 y (m2 y hy)]at h5
    obtain⟨j,hj,ej⟩:=List.getElem_of_mem h1
    have h6:=h5 j hj
    rw[ej]at h6
    exact .inl (h6.vA h2)
theorem lN(h:Fits P gl N ops b x fr st):∀o∈x.rd,∃ob,st[o]? =some (some ob)∧ob≠ .resv:=by
 intro o ho
 unfold Row.rd at ho
 cases hG:x.G with
 |false=>rw[hG]at ho;cases ho
 |true=>
  rw[hG]at ho
  rcases h.does hG with⟨gN,hr,hok,hq,Es⟩|⟨f,xs,g,first,cap,d,rd,gN,hf,hx,hev,hp,hr,hrd⟩
  ·rw[hr]at hok
   simp only[cond_true,hr]at ho
   obtain⟨_,ob,h1,h2⟩:=(yT (look st) hok).1 o ho
   exact⟨ob,jk.1 h1,h2⟩
  ·simp only[hr,cond_true]at ho
   exact(hrd o ho).2
theorem wX(h:Fits P gl N ops b x fr st)(hs:∀t∈x.o.looksAt ops,fr'.get t=fr.get t)(hm:∀o∈x.rd,look st' o=look st o)
 (hq:needs x.o.op=true→st'[x.q]? =some (some .resv)):Fits P gl N ops b x fr' st':=by
 obtain⟨g1,g2⟩:=uE hs
 refine⟨h.dst,g2.2 h.gok,by rw[g1];exact h.hG,h.vB,fun hG=>?_,h.makes⟩
 have hev:=qQ (gl:=gl) hs
 rcases h.does hG with⟨gN,hr,hok,_,Es⟩|⟨f,xs,g,first,cap,d,rd,gN,hf,hx,he,hp,hr,hrd⟩
 ·refine .inl ⟨gN,?_,hok,hq,Es⟩
  rw[hr]at hok
  have:x.rd=(aop P gl true x.o.op fr (look st) x.q).rd:=by simp[Row.rd,hG, ←hr]
  rw[this]at hm
  have k:=(yT (look st) hok).2 (look st') hm
  rw[hr]
  exact k.symm.trans (GZ hev)
 ·obtain⟨m1,m2⟩:=kJ gN
  have e1:∀y∈x.o.op.operands,ev1 gl fr' y=ev1 gl fr y:=fun y hy=>by unfold ev1;rw[hev y hy]
  have e2:∀y∈x.o.op.operands,eok gl true fr y→eok gl true fr' y:=fun y hy=>by unfold eok;rw[hev y hy];exact id
  have hm':∀o∈rd,look st' o=look st o:=fun o ho=>hm o (by simp[Row.rd,hG,hr];exact ho)
  refine .inr ⟨f,xs,g,first,cap,d,rd,gN,e2 f m1 hf,fun y hy=>e2 y (m2 y hy) (hx y hy),by rw[e1 f m1];exact he,?_,hr,fun o ho=>⟨by rw[List.map_congr_left fun y hy=>e1 y (m2 y hy)];exact(hrd o ho).1,?_⟩⟩
  ·rw[List.map_congr_left fun y hy=>e1 y (m2 y hy)]
   exact fun st2 h2=>hp st2 fun o ho=>(h2 o ho).trans (hm' o ho)
  ·obtain⟨ob,h1,h2⟩:=(hrd o ho).2
   exact⟨ob,jk.1 ((hm' o ho).trans (jk.2 h1)),h2⟩
end
def Row.ap(x:Row)(s:Fr×St):Fr×St:=(x.fr s.1,x.st s.2)
def Row.tch(x:Row):List Nat:=x.wr++(bif x.G&&x.r.new.isSome then [x.q]else [])
theorem lO{α:Type}(l:List α)(i o:Nat)(v:α):(l.set i v)[o]? =if i=o then(l[o]?).map (fun _=>v)else l[o]? :=by
 rw[List.getElem?_set]
 by_cases h:i=o
 ·subst h
  rw[if_pos rfl,if_pos rfl]
  by_cases hl:i<l.length
  ·rw[if_pos hl,List.getElem?_eq_getElem hl];rfl
  ·rw[if_neg hl,List.getElem?_eq_none (by simpa using hl)];rfl
 ·rw[if_neg h,if_neg h]
theorem mV{x:Row}{st st':St}{o:Nat}(h:st[o]? =st'[o]?):(x.st st)[o]? =(x.st st')[o]? :=by
 unfold Row.st
 cases x.G with
 |false=>exact h
 |true=>
  simp only[cond_true,LR.app]
  refine qb ?_
  cases x.r.up with
  |none=>cases x.r.new with
   |none=>exact h
   |some ob=>simp only[lO,h]
  |some p=>cases x.r.new with
   |none=>simp only[lO,h]
   |some ob=>simp only[lO,h]
theorem iO{x:Row}{st:St}{o:Nat}(h:o∉x.tch):(x.st st)[o]? =st[o]? :=by
 unfold Row.st
 unfold Row.tch Row.wr at h
 cases hG:x.G with
 |false=>rfl
 |true=>
  rw[hG]at h
  simp only[cond_true,LR.app,List.mem_append,not_or]at h⊢
  obtain⟨⟨h,Es⟩,h'⟩:=h
  rw[vC Es]
  have h:o∉ (match x.r.up with|some (o,_)=>[o]|none=>[])++(bif true&&x.r.new.isSome then [x.q]else []):=by
   simp only[List.mem_append,not_or];exact⟨h,h'⟩
  cases hu:x.r.up with
  |none=>cases hn:x.r.new with
   |none=>rfl
   |some ob=>
    simp[hu,hn]at h
    simp only[lO,if_neg (Ne.symm h)]
  |some p=>cases hn:x.r.new with
   |none=>
    simp[hu,hn]at h
    simp only[lO,if_neg (Ne.symm h)]
   |some ob=>
    simp[hu,hn]at h
    simp only[lO,if_neg (Ne.symm h.1),if_neg (Ne.symm h.2)]
theorem lP{x:Row}{fr:Fr}{t:Nat}(h:x.o.dst≠some t):(x.fr fr).get t=fr.get t:=by
 unfold Row.fr
 cases hd:x.o.dst with
 |none=>rfl
 |some u=>
  simp only[Fr.fU,Fr.nW]
  rw[if_neg]
  intro e;exact h (by rw[hd,e])
theorem mW{x:Row}{fr fr':Fr}{t:Nat}(h:fr.get t=fr'.get t):(x.fr fr).get t=(x.fr fr').get t:=by
 unfold Row.fr
 cases hd:x.o.dst with
 |none=>exact h
 |some u=>simp only[Fr.fU,Fr.nW,h]
def Eqv(s s':Fr×St):Prop:=(∀t,s.1.get t=s'.1.get t)∧∀o:Nat,s.2[o]? =s'.2[o]?
theorem Eqv.refl(s:Fr×St):Eqv s s:=⟨fun _=>rfl,fun _=>rfl⟩
theorem Eqv.trans{a b c:Fr×St}(h:Eqv a b)(h':Eqv b c):Eqv a c:=⟨fun t=>(h.1 t).trans (h'.1 t),fun o=>(h.2 o).trans (h'.2 o)⟩
theorem Eqv.symm{a b:Fr×St}(h:Eqv a b):Eqv b a:=⟨fun t=>(h.1 t).symm,fun o=>(h.2 o).symm⟩
theorem Eqv.ap{s s':Fr×St}(h:Eqv s s')(x:Row):Eqv (x.ap s) (x.ap s'):=⟨fun t=>mW (h.1 t),fun o=>mV (h.2 o)⟩
theorem Et{x y:Row}(hd:∀t,x.o.dst=some t→y.o.dst≠some t)(hm:∀o∈x.tch,o∉y.tch)(s:Fr×St):Eqv (x.ap (y.ap s)) (y.ap (x.ap s)):=by
 refine⟨fun t=>?_,fun o=>?_⟩
 ·simp only[Row.ap]
  by_cases h:x.o.dst=some t
  ·rw[lP (x:=y) (hd t h)]
   exact mW (lP (hd t h))
  ·rw[lP (x:=x) h]
   exact mW (lP h).symm
 ·simp only[Row.ap]
  by_cases h:o∈x.tch
  ·rw[iO (x:=y) (hm o h)]
   exact mV (iO (hm o h))
  ·rw[iO (x:=x) h]
   exact mV (iO h).symm
def full:List Row→Fr×St→Fr×St
 | [],s=>s
 |x::l,s=>full l (x.ap s)
def sel(L:Nat→Bool):Nat→List Row→Fr×St→Fr×St
 | _,[],s=>s
 |i,x::l,s=>sel L (i+1) l (bif L i then x.ap s else s)
theorem uF{L:Nat→Bool}:∀(l:List Row) (i:Nat) (s s':Fr×St),Eqv s s'→Eqv (sel L i l s) (sel L i l s')
 | [],_,_,_,h=>h
 |x::l,i,s,s',h=>by
  simp only[sel]
  cases L i with
  |true=>exact uF l _ _ _ (h.ap x)
  |false=>exact uF l _ _ _ h
theorem lQ{L:Nat→Bool}:∀(l1 l2:List Row) (i:Nat) (s:Fr×St),sel L i (l1++l2) s=sel L (i+l1.length) l2 (sel L i l1 s)
 | [],_,_,_=>rfl
 |x::l1,l2,i,s=>by
  simp only[List.cons_append,sel,List.length_cons]
  rw[lQ l1 l2 (i+1)]
  congr 1
  omega
theorem ot{L L':Nat→Bool}:∀(l:List Row) (i:Nat) (s:Fr×St),(∀k,i≤k→k<i+l.length→L k=L' k)→sel L i l s=sel L' i l s
 | [],_,_,_=>rfl
 |x::l,i,s,h=>by
  simp only[sel]
  rw[h i (Nat.le_refl _) (by simp)]
  exact ot l _ _ fun k h1 h2=>h k (by omega) (by simp at h2 ⊢; omega)
theorem yV{L:Nat→Bool}:∀(l:List Row) (i:Nat) (s:Fr×St),(∀k,i≤k→k<i+l.length→L k=true)→sel L i l s=full l s
 | [],_,_,_=>rfl
 |x::l,i,s,h=>by
  simp only[sel,full]
  rw[h i (Nat.le_refl _) (by simp),cond_true]
  exact yV l _ _ fun k h1 h2=>h k (by omega) (by simp at h2 ⊢; omega)
theorem vE{L:Nat→Bool}:∀(l:List Row) (i:Nat) (s:Fr×St),(∀k,i≤k→k<i+l.length→L k=false)→sel L i l s=s
 | [],_,_,_=>rfl
 |x::l,i,s,h=>by
  simp only[sel]
  rw[h i (Nat.le_refl _) (by simp),cond_false]
  exact vE l _ _ fun k h1 h2=>h k (by omega) (by simp at h2 ⊢; omega)
theorem vF{L:Nat→Bool}{x:Row}:∀(l:List Row) (i:Nat) (s:Fr×St),
 (∀k (h:k<l.length),L (i+k)=true→(∀t,x.o.dst=some t→(l[k]).o.dst≠some t)∧∀o∈x.tch,o∉ (l[k]).tch)→Eqv (sel L i l (x.ap s)) (x.ap (sel L i l s))
 | [],_,s,_=>Eqv.refl _
 |y::l,i,s,h=>by
  have hl:∀s,Eqv (sel L (i+1) l (x.ap s)) (x.ap (sel L (i+1) l s)):=fun s=>vF l (i+1) s fun k hk hL=>by
   have:=h (k+1) (by simpa using hk) (by rw[←hL];congr 1;omega)
   simpa using this
  simp only[sel]
  cases hL:L i with
  |false=>exact hl s
  |true=>
   simp only[cond_true]
   obtain⟨h1,h2⟩:=h 0 (by simp) hL
   exact(uF l (i+1) _ _ (Et h1 h2 s).symm).trans (hl (y.ap s))
theorem vG{L:Nat→Bool}{t:Nat}:∀(l:List Row) (i:Nat) (s:Fr×St),(∀k (h:k<l.length),L (i+k)=true→(l[k]).o.dst≠some t)→(sel L i l s).1.get t=s.1.get t
 | [],_,_,_=>rfl
 |y::l,i,s,h=>by
  have hl:∀s,(sel L (i+1) l s).1.get t=s.1.get t:=fun s=>vG l (i+1) s fun k hk hL=>by
   have:=h (k+1) (by simpa using hk) (by rw[←hL];congr 1;omega)
   simpa using this
  simp only[sel]
  rw[hl]
  cases hL:L i with
  |false=>rfl
  |true=>exact lP (h 0 (by simp) hL)
theorem uG{L:Nat→Bool}{o:Nat}:∀(l:List Row) (i:Nat) (s:Fr×St),(∀k (h:k<l.length),L (i+k)=true→o∉ (l[k]).tch)→(sel L i l s).2[o]? =s.2[o]?
 | [],_,_,_=>rfl
 |y::l,i,s,h=>by
  have hl:∀s,(sel L (i+1) l s).2[o]? =s.2[o]? :=fun s=>uG l (i+1) s fun k hk hL=>by
   have:=h (k+1) (by simpa using hk) (by rw[←hL];congr 1;omega)
   simpa using this
  simp only[sel]
  rw[hl]
  cases hL:L i with
  |false=>rfl
  |true=>exact iO (h 0 (by simp) hL)
theorem sB{L:Nat→Bool}{t:Nat}:∀(l:List Row) (i:Nat) (s s':Fr×St),s.1.get t=s'.1.get t→(∀k (h:k<l.length),L (i+k)=false→(l[k]).o.dst≠some t)→(sel L i l s).1.get t=(full l s').1.get t
 | [],_,_,_,h,_=>h
 |y::l,i,s,s',he,h=>by
  simp only[sel,full]
  refine sB l (i+1) _ _ ?_ fun k hk hL=>by
   have:=h (k+1) (by simpa using hk) (by rw[←hL];congr 1;omega)
   simpa using this
  cases hL:L i with
  |true=>exact mW he
  |false=>exact he.trans (lP (h 0 (by simp) hL)).symm
theorem vH{L:Nat→Bool}{o:Nat}:∀(l:List Row) (i:Nat) (s s':Fr×St),s.2[o]? =s'.2[o]? →(∀k (h:k<l.length),L (i+k)=false→o∉ (l[k]).tch)→(sel L i l s).2[o]? =(full l s').2[o]?
 | [],_,_,_,h,_=>h
 |y::l,i,s,s',he,h=>by
  simp only[sel,full]
  refine vH l (i+1) _ _ ?_ fun k hk hL=>by
   have:=h (k+1) (by simpa using hk) (by rw[←hL];congr 1;omega)
   simpa using this
  cases hL:L i with
  |true=>exact mV he
  |false=>exact he.trans (iO (h 0 (by simp) hL)).symm
def Trace(P:Program)(gl:Gl)(N:Nat)(ops:Array Oper)(b:Nat):List Row→Fr×St→Prop
 | [],_=>True
 |x::l,s=>Fits P gl N ops b x s.1 s.2∧Trace P gl N ops b l (x.ap s)
def Ord(ops:Array Oper)(i j:Nat):Prop:=
 ∀L:Nat→Bool,(∀k o,L k=true→ops[k]? =some o→∀e∈o.after,Region.binds .any e=true→L e.on=true)→
  (∀o,ops[j]? =some o→∀e∈o.after,Region.binds .any e=true→L e.on=true)→L i=true
def Ind(ops:Array Oper)(x y:Row):Prop:=Oper.apart ops x.o y.o=true∧(∀o∈x.wr,o∉y.rd)∧∀o∈y.wr,o∉x.rd
structure Good(P:Program)(gl:Gl)(N:Nat)(ops:Array Oper)(b:Nat)(rows:List Row)(s0:Fr×St):Prop where
 hO:ops.toList=rows.map (·.o)
 tr:Trace P gl N ops b rows s0
 qs:∀i j (hi:i<rows.length) (hj:j<rows.length),i≠j→needs (rows[i]).o.op=true→needs (rows[j]).o.op=true→(rows[i]).q≠(rows[j]).q
 kept:∀x∈rows,needs x.o.op=true→s0.2[x.q]? =some (some .resv)∧b≤x.q
 fwd:∀i o,ops[i]? =some o→∀e∈o.after,Region.binds .any e=true→e.on<i
 ind:∀i j (hi:i<rows.length) (hj:j<rows.length),i<j→Ord ops i j∨Ind ops (rows[i]) (rows[j])
section
variable {P:Program} {gl:Gl} {N b:Nat} {ops:Array Oper} {w0:World} {μ0:Mu} {st0:St} {rows:List Row} {s0:Fr×St} {Q:Exit→Act→World→Prop}
theorem uH{x:Row}(h:vB x.r∧∀p∈x.ups,p.1∈x.r.rd){o:Nat}(ho:o∈x.wr):o∈x.rd:=by
 unfold Row.wr at ho
 unfold Row.rd
 cases hG:x.G with
 |false=>rw[hG]at ho;cases ho
 |true=>
  rw[hG]at ho
  simp only[cond_true,List.mem_append]at ho⊢
  rcases ho with ho|ho
  ·cases hu:x.r.up with
   |none=>rw[hu]at ho;cases ho
   |some p=>
    rw[hu]at ho
    simp only[List.mem_singleton]at ho
    exact h.1 o p.2 (by rw[hu,ho])
  ·obtain⟨p,hp,e⟩:=List.mem_map.1 ho
   rw[←e];exact h.2 p hp
theorem eI{x:Row}{o:Nat}(h:o∈x.tch):o∈x.wr∨(o=x.q∧x.r.new≠none):=by
 unfold Row.tch at h
 rcases List.mem_append.1 h with h|h
 ·exact .inl h
 ·right
  cases hG:x.G<;>cases hn:x.r.new<;>simp[hG,hn]at h⊢
  exact h
theorem kK:∀(l1:List Row) {x:Row} {l2:List Row} {s:Fr×St},Trace P gl N ops b (l1++x::l2) s→Fits P gl N ops b x (full l1 s).1 (full l1 s).2
 | [],_,_,_,h=>h.1
 | _::l1,_,_,_,h=>kK l1 h.2
theorem sC:∀(l1 l2:List Row) (s:Fr×St),Trace P gl N ops b (l1++l2) s→(∀x∈l1,∀y∈l2,needs x.o.op=true→needs y.o.op=true→x.q≠y.q)→
 (∀y∈l2,needs y.o.op=true→s.2[y.q]? =some (some .resv))→∀y∈l2,needs y.o.op=true→(full l1 s).2[y.q]? =some (some .resv)
 | [],_,_,_,_,h=>h
 |x::l1,l2,s,ht,hq,h=>by
  refine sC l1 l2 (x.ap s) ht.2 (fun z hz=>hq z (by simp[hz])) fun y hy hn=>?_
  have:y.q∉x.tch:=fun hm=>by
   rcases eI hm with hm|⟨e,hm⟩
   ·obtain⟨ob,h1,h2⟩:=lN ht.1 _ (uH ht.1.vB hm)
    rw[h y hy hn]at h1
    cases h1;exact h2 rfl
   ·exact hq x (by simp) y hy (ht.1.makes hm) hn e.symm
  simp only[Row.ap]
  rw[iO this]
  exact h y hy hn
def cnt(L:Nat→Bool):Nat→Nat
 |0=>0
 |n+1=>cnt L n+(bif L n then 0 else 1)
theorem vI{L:Nat→Bool}:∀ {n:Nat},cnt L n=0→∀k,k<n→L k=true
 |n+1,h,k,hk=>by
  simp only[cnt]at h
  cases hL:L n with
  |false=>simp[hL]at h
  |true=>
   rcases Nat.lt_or_ge k n with hk'|hk'
   ·exact vI (by simp[hL]at h;exact h) k hk'
   ·have:k=n:=by omega
    rw[this];exact hL
theorem vJ{L L':Nat→Bool}:∀ {n:Nat},(∀k,k<n→L k=L' k)→cnt L n=cnt L' n
 |0,_=>rfl
 |n+1,h=>by simp only[cnt];rw[vJ fun k hk=>h k (by omega),h n (by omega)]
theorem vK{L L':Nat→Bool}{i:Nat}(hi:L i=false)(hi':L' i=true)(hs:∀k,k≠i→L k=L' k):∀ {n:Nat},i<n→cnt L' n+1=cnt L n
 |n+1,h=>by
  simp only[cnt]
  rcases Nat.lt_or_ge i n with h1|h1
  ·rw[←vK hi hi' hs h1,hs n (by omega)];omega
  ·have:i=n:=by omega
   subst this
   rw[hi,hi',vJ (L:=L') (L':=L) fun k hk=>(hs k (by omega)).symm]
   simp
def lst(listed:Array Bool)(i:Nat):Bool:=listed.getD i false
theorem Cd{s s':Fr×St}{a:Act}{w:World}{μ:Mu}(h:Eqv s s')(hc:ke gl N w0 μ0 st0 s.1 s.2 a w μ):ke gl N w0 μ0 st0 s'.1 s'.2 a w μ:=by
 have e:s.2=s'.2:=List.ext_getElem? h.2
 rw[e]at hc
 exact⟨hc.sim,hc.glob,fun t=>by rw[←h.1 t];exact hc.fr t,hc.size,hc.defers,hc.step⟩
set_option maxHeartbeats 1000000 in
theorem yX(hg:Good P gl N ops b rows s0)(hQ:∀a w μ,ke gl N w0 μ0 st0 (full rows s0).1 (full rows s0).2 a w μ→Q .normal a w):
 ∀(fuel:Nat) (listed:Array Bool) (a:Act) (w:World) (μ:Mu),listed.size=rows.length→cnt (lst listed) rows.length≤fuel→
  (∀k o,lst listed k=true→ops[k]? =some o→∀e∈o.after,Region.binds .any e=true→lst listed e.on=true)→
  (∀i j (hi:i<rows.length) (hj:j<rows.length),lst listed j=true→lst listed i=false→needs (rows[i]).o.op=true→(rows[i]).q∉ (rows[j]).rd)→
  ke gl N w0 μ0 st0 (sel (lst listed) 0 rows s0).1 (sel (lst listed) 0 rows s0).2 a w μ→wpAny P .any ops Q fuel listed a w:=by
 have hsz:ops.size=rows.length:=by have:=congrArg List.length hg.hO;simpa using this
 have hop:∀i (h:i<rows.length),ops[i]? =some (rows[i]).o:=fun i h=>by
  have:ops.toList[i]? =(rows.map (·.o))[i]? :=by rw[hg.hO]
  simpa[h]using this
 have hall:∀(listed:Array Bool) (a:Act) (w:World) (μ:Mu),(∀k,k<rows.length→lst listed k=true)→
  ke gl N w0 μ0 st0 (sel (lst listed) 0 rows s0).1 (sel (lst listed) 0 rows s0).2 a w μ→Q .normal a w:=fun listed a w μ h hc=>by
  rw[yV rows 0 s0 fun k _ hk=>h k (by omega)]at hc
  exact hQ a w μ hc
 have kL:∀(listed:Array Bool) (i:Nat),listed.size=rows.length→(i∈Region.ready .any ops listed↔i<rows.length∧lst listed i=false∧∀o,ops[i]? =some o→∀e∈o.after,Region.binds .any e=true→lst listed e.on=true):=by
  intro listed i hls
  unfold Region.ready
  simp only[List.mem_filter,List.mem_range,hsz]
  constructor
  ·rintro⟨h1,h2⟩
   rw[hop i h1]at h2⊢
   simp only[Option.map_some,Option.getD_some,Bool.and_eq_true,Bool.not_eq_true',Array.all_eq_true_iff_forall_mem]at h2
   refine⟨h1,?_,fun o ho e he hb=>?_⟩
   ·have:=h2.1
    unfold lst
    simp[Array.getD_eq_getD_getElem?, hls,h1]at this⊢
    exact this
   ·cases ho
    have:=h2.2 e he
    simp only[Bool.or_eq_true,Bool.not_eq_true',hb,Bool.true_eq_false,false_or]at this
    exact this
  ·rintro⟨h1,h2,h3⟩
   refine⟨h1,?_⟩
   rw[hop i h1]at h3⊢
   simp only[Option.map_some,Option.getD_some,Bool.and_eq_true,Bool.not_eq_true',Array.all_eq_true_iff_forall_mem]
   refine⟨?_,fun e he=>?_⟩
   ·unfold lst at h2
    simp[Array.getD_eq_getD_getElem?, hls,h1]at h2⊢
    exact h2
   ·cases hb:Region.binds .any e with
    |false=>simp
    |true=>
     have:=h3 _ rfl e he hb
     unfold lst at this
     rw[this];rfl
 have hnone:∀(listed:Array Bool),listed.size=rows.length→Region.ready .any ops listed=[]→∀k,k<rows.length→lst listed k=true:=by
  intro listed hls hr k
  induction k using Nat.strongRecOn with
  | _ k ih=>
   intro hk
   cases hL:lst listed k with
   |true=>rfl
   |false=>
    exfalso
    have:k∈Region.ready .any ops listed:=(kL listed k hls).2 ⟨hk,hL,fun o ho e he hb=>by
     have:=hg.fwd k o ho e he hb
     exact ih e.on this (by omega)⟩
    rw[hr]at this;cases this
 intro fuel
 induction fuel with
 |zero=>
  intro listed a w μ hls hc hcl hh hcc
  have ha:=vI (Nat.le_zero.1 hc)
  refine⟨?_,hall listed a w μ ha hcc⟩
  rw[List.eq_nil_iff_forall_not_mem]
  intro i hi
  obtain⟨h1,h2,_⟩:=(kL listed i hls).1 hi
  rw[ha i h1]at h2;cases h2
 |succ fuel ih=>
  intro listed a w μ hls hc hcl hh hcc
  refine⟨fun hr=>hall listed a w μ (hnone listed hls hr) hcc,fun i hi=>?_⟩
  obtain⟨hil,hLi,haf⟩:=(kL listed i hls).1 hi
  generalize hx:rows[i]=x
  have jK:rows=rows.take i++x::rows.drop (i+1):=by rw[←hx,List.getElem_cons_drop,List.take_append_drop]
  have He:(rows.take i).length=i:=by simp;omega
  have yY:∀k (hk:k<i),lst listed k=false→Ind ops (rows[k]'(by omega)) x:=fun k hk hL=>by
   rcases hg.ind k i (by omega) hil hk with h|h
   ·have:=h (lst listed) hcl haf
    rw[this]at hL;cases hL
   ·rw[hx]at h;exact h
  have yZ:∀k (hk:i<k) (hkl:k<rows.length),lst listed k=true→Ind ops x (rows[k]):=fun k hk hkl hL=>by
   rcases hg.ind i k hil hkl hk with h|h
   ·have:=h (lst listed) hcl (fun o ho=>hcl k o hL ho)
    rw[this]at hLi;cases hLi
   ·rw[hx]at h;exact h
  have za:Fits P gl N ops b x (full (rows.take i) s0).1 (full (rows.take i) s0).2:=by
   have ht:=hg.tr
   rw[jK]at ht
   exact kK _ ht
  have Hf:∀k (hk:i≤k) (hkl:k<rows.length),needs (rows[k]).o.op=true→(full (rows.take i) s0).2[(rows[k]).q]? =some (some .resv):=fun k hk hkl hn=>by
   refine sC (P:=P) (gl:=gl) (N:=N) (ops:=ops) (rows.take i) (rows.drop i) s0 (by rw[List.take_append_drop];exact hg.tr) (fun z hz y hy h1 h2=>?_) (fun y hy hn=>(hg.kept y (List.mem_of_mem_drop hy) hn).1) _ ?_ hn
   ·obtain⟨a',ha',e1⟩:=List.getElem_of_mem hz
    obtain⟨b',hb',e2⟩:=List.getElem_of_mem hy
    simp only[List.getElem_take]at e1
    simp only[List.getElem_drop]at e2
    simp only[List.length_take]at ha'
    simp only[List.length_drop]at hb'
    have:=hg.qs a' (i+b') (by omega) (by omega) (by omega)
    rw[e1,e2]at this
    exact this h1 h2
   ·have:rows[k]=(rows.drop i)[k-i]'(by simp;omega):=by
     rw[List.getElem_drop];congr 1;omega
    rw[this];exact List.getElem_mem _
  have Lu:∀j (h:j<rows.length),vB (rows[j]).r∧∀p∈(rows[j]).ups,p.1∈(rows[j]).r.rd:=fun j h=>by
   have ht:=hg.tr
   have e:rows=rows.take j++rows[j]::rows.drop (j+1):=by rw[List.getElem_cons_drop,List.take_append_drop]
   rw[e]at ht
   exact(kK _ ht).vB
  have hmk:∀j (h:j<rows.length),(rows[j]).r.new≠none→needs (rows[j]).o.op=true:=fun j h=>by
   have ht:=hg.tr
   have e:rows=rows.take j++rows[j]::rows.drop (j+1):=by rw[List.getElem_cons_drop,List.take_append_drop]
   rw[e]at ht
   exact(kK _ ht).makes
  have hR:∀k (hk:k<rows.length),lst listed k=false→needs (rows[k]).o.op=true→(sel (lst listed) 0 rows s0).2[(rows[k]).q]? =some (some .resv):=fun k hk hL hn=>by
   rw[uG rows 0 s0]
   ·exact(hg.kept _ (List.getElem_mem _) hn).1
   ·intro j hj hLj hm
    rw[Nat.zero_add]at hLj
    rcases eI hm with hm|⟨e,hm⟩
    ·exact hh k j hk hj hLj hL hn (uH (Lu j hj) hm)
    ·have hne:k≠j:=fun e=>by subst e;rw[hL]at hLj;cases hLj
     exact hg.qs k j hk hj hne hn (hmk j hj hm) e
  have hsel:sel (lst listed) 0 rows s0=sel (lst listed) (i+1) (rows.drop (i+1)) (sel (lst listed) 0 (rows.take i) s0):=by
   conv=>lhs;rw[jK]
   rw[lQ,He]
   simp only[sel,Nat.zero_add,hLi,cond_false]
  have Du:∀t∈x.o.looksAt ops,(sel (lst listed) 0 rows s0).1.get t=(full (rows.take i) s0).1.get t:=fun t ht=>by
   rw[hsel,vG]
   ·refine sB _ _ _ _ rfl fun k hk hL hd=>?_
    simp only[List.length_take]at hk
    rw[Nat.zero_add]at hL
    simp only[List.getElem_take]at hd
    exact(Oper.apart_spec (yY k (by omega) hL).1).1 t hd ht
   ·intro k hk hL hd
    simp only[List.length_drop]at hk
    simp only[List.getElem_drop]at hd
    exact(Oper.apart_spec (yZ (i+1+k) (by omega) (by omega) hL).1).2.2 t hd ht
  have iP:∀o∈x.rd,∀k (hk:k<rows.length),lst listed k=false→needs (rows[k]).o.op=true→o≠(rows[k]).q:=fun o ho k hk hL hn e=>by
   rcases yU hcc za Du o ho with h|h
   ·rw[e]at h;exact h (hR k hk hL hn)
   ·have:=(hg.kept _ (List.getElem_mem hk) hn).2
    omega
  have Hg:=lN za
  have vL:∀o∈x.rd,∀k (hk:i<k) (hkl:k<rows.length),lst listed k=true→o∉ (rows[k]).tch:=fun o ho k hk hkl hL hm=>by
   rcases eI hm with hm|⟨e,hm⟩
   ·exact(yZ k hk hkl hL).2.2 o hm ho
   ·obtain⟨ob,h1,h2⟩:=Hg o ho
    rw[e,Hf k (by omega) hkl (hmk k hkl hm)]at h1
    cases h1;exact h2 rfl
  have Kg:∀o∈x.rd,(sel (lst listed) 0 rows s0).2[o]? =(full (rows.take i) s0).2[o]? :=fun o ho=>by
   rw[hsel]
   have e2:(sel (lst listed) (i+1) (rows.drop (i+1)) (sel (lst listed) 0 (rows.take i) s0)).2[o]? =(sel (lst listed) 0 (rows.take i) s0).2[o]? :=uG _ _ _ fun k hk hL=>by
    simp only[List.length_drop]at hk
    simp only[List.getElem_drop]
    exact vL o ho (i+1+k) (by omega) (by omega) hL
   rw[e2]
   refine vH _ _ _ _ rfl fun k hk hL hm=>?_
   simp only[List.length_take]at hk
   rw[Nat.zero_add]at hL
   simp only[List.getElem_take]at hm
   rcases eI hm with hm|⟨e,hm⟩
   ·exact(yY k (by omega) hL).2.1 o hm ho
   ·exact iP o ho k (by omega) hL (hmk k (by omega) hm) e
  have Hh:Fits P gl N ops b x (sel (lst listed) 0 rows s0).1 (sel (lst listed) 0 rows s0).2:=
   wX za Du (fun o ho=>by unfold look;rw[Kg o ho]) (fun hn=>by have:=hR i hil hLi (by rw[hx];exact hn);rw[hx]at this;exact this)
  have hL':∀k,lst (listed.setIfInBounds i true) k=if k=i then true else lst listed k:=fun k=>by
   unfold lst
   by_cases e:k=i
   ·subst e;rw[if_pos rfl];simp[Array.getD_eq_getD_getElem?, hls,hil]
   ·rw[if_neg e];simp[Array.getD_eq_getD_getElem?, Array.getElem?_setIfInBounds_ne (Ne.symm e)]
  unfold wpOp
  rw[hop i hil,hx]
  refine Cc hcc Hh fun a' w' μ' hc'=>?_
  refine ih _ a' w' μ' (by simpa using hls) ?_ ?_ ?_ ?_
  ·have:=vK (L:=lst listed) (L':=lst (listed.setIfInBounds i true)) hLi (by rw[hL',if_pos rfl]) (fun k hk=>by rw[hL',if_neg hk]) hil
   omega
  ·intro k o hk ho e he hb
   rw[hL']at hk⊢
   split
   ·rfl
   ·by_cases hki:k=i
    ·subst hki;exact haf o ho e he hb
    ·rw[if_neg hki]at hk;exact hcl k o hk ho e he hb
  ·intro k j hk hj hLj hLk hn
   rw[hL']at hLj hLk
   have hki:k≠i:=fun e=>by rw[if_pos e]at hLk;cases hLk
   rw[if_neg hki]at hLk
   by_cases hji:j=i
   ·subst hji
    rw[hx]
    intro hm
    exact iP _ hm k hk hLk hn rfl
   ·rw[if_neg hji]at hLj
    exact hh k j hk hj hLj hLk hn
  ·refine Cd (s:=x.ap (sel (lst listed) 0 rows s0)) ?_ hc'
   have e1:sel (lst (listed.setIfInBounds i true)) 0 rows s0=sel (lst listed) (i+1) (rows.drop (i+1)) (x.ap (sel (lst listed) 0 (rows.take i) s0)):=by
    conv=>lhs;rw[jK]
    rw[lQ,He]
    simp only[sel,Nat.zero_add]
    rw[hL',if_pos rfl,cond_true]
    rw[ot (L':=lst listed) (rows.take i) 0 s0 fun k _ hk=>by
     simp only[List.length_take]at hk
     rw[hL',if_neg (by omega)]]
    exact ot _ _ _ fun k hk _=>by rw[hL',if_neg (by omega)]
   rw[e1,hsel]
   refine(vF _ _ _ fun k hk hL=>?_).symm
   simp only[List.length_drop]at hk
   simp only[List.getElem_drop]
   have hI:=yZ (i+1+k) (by omega) (by omega) hL
   refine⟨(Oper.apart_spec hI.1).2.1,fun o ho hm=>?_⟩
   rcases eI ho with ho|⟨e,ho⟩
   ·exact vL o (uH za.vB ho) (i+1+k) (by omega) (by omega) hL hm
   ·have hn:=za.makes ho
    rcases eI hm with hm|⟨e',hm⟩
    ·have:=hh i (i+1+k) hil (by omega) hL hLi (by rw[hx];exact hn)
     rw[hx, ←e]at this
     exact this (uH (Lu _ (by omega)) hm)
    ·have:=hg.qs i (i+1+k) hil (by omega) (by omega) (by rw[hx];exact hn) (hmk _ (by omega) hm)
     rw[hx]at this
     exact this (e.symm.trans e')
end
abbrev Log:=List (List Nat×List Nat)
def Kh(rd up:List Nat):Log→Prop
 | []=>True
 |(rd',up')::l=>(∀o∈up,o∉rd')∧(∀o∈up',o∉rd)∧Kh rd up l
def Dv:Log→Prop
 | []=>True
 |(rd,up)::l=>Kh rd up l∧Dv l
def upL(r:LR):List Nat:=match r.up with|some (o,_)=>[o]|none=>[]
def iQ(tr:Bool)(lg:Log)(r:LR)(ups:List (Nat×Ob)):Log:=bif tr then lg++[(r.rd,upL r++ups.map (·.1))]else lg
def Ce(N q:Nat)(tr:Bool)(dst:Option Nat)(lg:Log)(fr:Fr)(st:St)(k:Log→Fr→St→Prop)(r:LR):Prop:=
 r.ok∧dlt N dst∧k (iQ tr lg r []) (fr.fU dst r.d) (r.app q st)
def wY(P:Program)(gl:Gl)(b:Nat)(tr:Bool)(dst:Option Nat)(lg:Log)(fr:Fr)(st:St)(k:Log→Fr→St→Prop)(g:FuncId)(args:List D):Prop:=
 ∃r rd ups,qP P gl g args rd st r ups∧(∀p∈ups,p.1∈rd)∧(∀o∈rd,(o<b∨∃e∈args,e.top=some o)∧∃ob,look st o=some ob∧ob≠ .resv)∧(tr=false→rd=[])∧k (iQ tr lg ⟨r,True,rd,none,none⟩ ups) (fr.fU dst r) (puts st ups)
def sD(P:Program)(gl:Gl)(b:Nat)(G tr:Bool)(dst:Option Nat)(lg:Log)(fr:Fr)(st:St)(k:Log→Fr→St→Prop)(g:FuncId)(args:List D):Prop:=
 ∃r rd ups,(G=true→qP P gl g args rd st r ups)∧(∀p∈ups,p.1∈rd)∧(∀o∈rd,(o<b∨∃e∈args,e.top=some o)∧∃ob,look st o=some ob∧ob≠ .resv)∧(tr=false→rd=[])∧(G=false→puts st ups=st)∧k (iQ tr lg ⟨r,True,rd,none,none⟩ ups) (fr.fU dst (.cond G r)) (puts st ups)
def Ga(P:Program)(gl:Gl)(N b:Nat)(tr:Bool)(dst:Option Nat)(lg:Log)(fr:Fr)(st:St)(k:Log→Fr→St→Prop)(ok:Prop)(f:D)(args:List D):Prop:=
 match f with
 | .fn g first cap=>dlt N dst∧ok∧wY P gl b tr dst lg fr st k g (first++args++cap)
 | _=>False
def uI(N q:Nat)(G:Bool)(tr:Bool)(dst:Option Nat)(lg:Log)(fr:Fr)(st:St)(k:Log→Fr→St→Prop)(r:LR):Prop:=
 cg G r.ok∧dlt N dst∧k (iQ tr lg r []) (fr.fU dst (.cond G r.d)) (bif G then r.app q st else st)
def wZ(P:Program)(gl:Gl)(N b:Nat)(G:Bool)(tr:Bool)(dst:Option Nat)(lg:Log)(fr:Fr)(st:St)(k:Log→Fr→St→Prop)(ok:Prop)(f:D)(args:List D):Prop:=
 match f with
 | .fn g first cap=>dlt N dst∧ok∧sD P gl b G tr dst lg fr st k g (first++args++cap)
 | _=>False
def Dw(P:Program)(gl:Gl)(N b q:Nat)(tr:Bool)(k k1:Log→Fr→St→Prop)(dst:Option Nat)(op:Op)(lg:Log)(fr:Fr)(st:St):Nat→Prop
 |0=>Ce N q tr dst lg fr st k (aop P gl true op fr (look st) q)
 |1=>Ce N q tr dst lg fr st k1 (aop P gl true op fr (look st) q)
 | _=>match op with
  | .call ⟨.value f,args,_⟩=>Ga P gl N b tr dst lg fr st k (eok gl true fr f∧(∀x∈args.toList,eok gl true fr x)) (ev1 gl fr f) (args.toList.map (ev1 gl fr))
  | _=>False
def Cg(P:Program)(gl:Gl)(N b q:Nat)(tr:Bool)(k k1:Log→Fr→St→Prop)(dst:Option Nat)(op:Op)(lg:Log)(fr:Fr)(st:St):Nat→Option Bool→Prop
 |0,some G=>uI N q G tr dst lg fr st k (aop P gl G op fr (look st) q)
 |1,some G=>uI N q G tr dst lg fr st k1 (aop P gl G op fr (look st) q)
 |2,some G=>match op with
  | .call ⟨.value f,args,_⟩=>wZ P gl N b G tr dst lg fr st k (eok gl G fr f∧(∀x∈args.toList,eok gl G fr x)) (ev1 gl fr f) (args.toList.map (ev1 gl fr))
  | _=>False
 | _,_=>False
def EvD(P:Program)(gl:Gl)(N:Nat)(ops:Array Oper)(b:Nat)(trk:List Nat)(K:Fr→St→Prop):List Oper→Nat→Nat→Log→Fr→St→Prop
 | [],_,_,lg,fr,st=>Dv lg∧K fr st
 |⟨dst,op,_,_,_,none⟩::l,i,k,lg,fr,st=>Dw P gl N b (b+k) (trk.contains i) (EvD P gl N ops b trk K l (i+1) k) (EvD P gl N ops b trk K l (i+1) (k+1)) dst op lg fr st (opk op)
 |⟨dst,op,_,_,_,some (j,want)⟩::l,i,k,lg,fr,st=>Cg P gl N b (b+k) (trk.contains i) (EvD P gl N ops b trk K l (i+1) k) (EvD P gl N ops b trk K l (i+1) (k+1)) dst op lg fr st (opk op) (BM fr want (gslot ops j))
def rds:Op→Bool
 | .load _ _| .store _ _ _| .indexAddr _ _ _| .slice _ _ _ _ _| .lookup _ _ _ _| .mapUpdate _ _ _ _| .insert _ _ _ _| .next _ _| .call { callee:=.builtin .len,.. }| .call { callee:=.builtin .append,.. }=>true
 | _=>false
def wrs:Op→Bool
 | .store _ _ _| .mapUpdate _ _ _ _| .insert _ _ _ _| .next _ _| .call { callee:=.builtin .append,.. }=>true
 | _=>false
def pD(trk:List Nat)(i:Nat)(o:Op):Bool:=(bH o).isSome&&trk.contains i
def zc(tbl:List Nat)(o:Oper):Nat:=o.after.toList.foldl (fun s e=>bif Region.binds .any e then s|||2^e.on|||tbl.getD e.on 0 else s) 0
def masks:List Oper→List Nat→List Nat
 | [],tbl=>tbl
 |o::l,tbl=>masks l (tbl++[zc tbl o])
def Dx(ops:Array Oper)(trk:List Nat)(m i j:Nat):Bool:=
 Nat.testBit m i||(match ops[i]?, ops[j]? with
  |some x,some y=>Oper.apart ops x y&&((!((wrs x.op||pD trk i x.op)&&(rds y.op||pD trk j y.op))&& !((wrs y.op||pD trk j y.op)&&(rds x.op||pD trk i x.op)))||(trk.contains i&&trk.contains j))
  | _,_=>false)
def iR(ops:Array Oper)(trk:List Nat):Bool:=
 let tbl:=masks ops.toList []
 (List.range ops.size).all fun j=>
  (match ops[j]? with|some o=>o.after.toList.all fun e=> !Region.binds .any e||Nat.blt e.on j|none=>true)&&
  (List.range j).all fun i=>Dx ops trk (tbl.getD j 0) i j
theorem xg{tbl:List Nat}{o:Oper}{j:Nat}(h:Nat.testBit (zc tbl o) j=true):∃e∈o.after,Region.binds .any e=true∧(e.on=j∨Nat.testBit (tbl.getD e.on 0) j=true):=by
 have key:∀(l:List Edge) (s:Nat),Nat.testBit (l.foldl (fun s e=>bif Region.binds .any e then s|||2^e.on|||tbl.getD e.on 0 else s) s) j=true→
  Nat.testBit s j=true∨∃e∈l,Region.binds .any e=true∧(e.on=j∨Nat.testBit (tbl.getD e.on 0) j=true):=by
  intro l
  induction l with
  |nil=>intro s h;exact .inl h
  |cons e l ih=>
   intro s h
   simp only[List.foldl_cons]at h
   rcases ih _ h with h|⟨e',h1,h2⟩
   ·cases hb:Region.binds .any e with
    |false=>rw[hb]at h;exact .inl h
    |true=>
     rw[hb]at h
     simp only[cond_true,Nat.testBit_or,Bool.or_eq_true,Nat.testBit_two_pow,decide_eq_true_eq]at h
     rcases h with(h|h)|h
     ·exact .inl h
     ·exact .inr ⟨e,by simp,hb,.inl h⟩
     ·exact .inr ⟨e,by simp,hb,.inr h⟩
   ·exact .inr ⟨e',by simp[h1],h2⟩
 rcases key _ 0 h with h|⟨e,h1,h2⟩
 ·simp at h
 ·exact⟨e,by simpa using h1,h2⟩
theorem ou{ops:Array Oper}:∀(l:List Oper) (tbl:List Nat),ops.toList.drop tbl.length=l→
 (∀j,j<tbl.length→∀i,Nat.testBit (tbl.getD j 0) i=true→Ord ops i j)→∀j i,Nat.testBit ((masks l tbl).getD j 0) i=true→Ord ops i j
 | [],tbl,_,h,j,i,hb=>by
  rcases Nat.lt_or_ge j tbl.length with hj|hj
  ·exact h j hj i hb
  ·simp only[masks]at hb
   rw[List.getD_eq_getElem?_getD,List.getElem?_eq_none hj]at hb
   simp at hb
 |o::l,tbl,hl,h,j,i,hb=>by
  simp only[masks]at hb
  have ho:ops[tbl.length]? =some o:=by
   have:(ops.toList.drop tbl.length)[0]? =some o:=by rw[hl];rfl
   simpa[List.getElem?_drop]using this
  refine ou l (tbl++[zc tbl o]) ?_ ?_ j i hb
  ·have:=congrArg List.tail hl
   simpa[List.tail_drop]using this
  ·intro j hj i hb
   rcases Nat.lt_or_ge j tbl.length with hj'|hj'
   ·rw[List.getD_eq_getElem?_getD,List.getElem?_append_left hj', ←List.getD_eq_getElem?_getD]at hb
    exact h j hj' i hb
   ·have:j=tbl.length:=by simp at hj;omega
    subst this
    rw[List.getD_eq_getElem?_getD,List.getElem?_append_right (Nat.le_refl _)]at hb
    simp only[Nat.sub_self,List.getElem?_cons_zero,Option.getD_some]at hb
    obtain⟨e,h1,h2,h3⟩:=xg hb
    intro L hcl haf
    have hon:=haf o ho e h1 h2
    rcases h3 with rfl|h3
    ·exact hon
    ·rcases Nat.lt_or_ge e.on tbl.length with hlt|hge
     ·exact h e.on hlt i h3 L hcl fun o' ho' e' he' hb'=>hcl e.on o' hon ho' e' he' hb'
     ·rw[List.getD_eq_getElem?_getD,List.getElem?_eq_none hge]at h3
      simp at h3
section
variable {P:Program} {gl:Gl} {N:Nat} {ops:Array Oper} {fr:Fr} {st:St} {q:Nat} {g:Bool} {op:Op} {lk:Look}
theorem Ch(h:rds op=false):(aop P gl g op fr lk q).rd=[]:=by
 cases op with
 |load|store|indexAddr|slice|lookup|mapUpdate|insert|next=>cases h
 |range t x=>exact qO
 |call c=>
  obtain⟨callee,args,ats⟩:=c
  cases callee with
  |value f=>rfl
  |invoke r m=>rfl
  |builtin b=>
   cases b<;>first|(cases h;done)|skip
   all_goals
    simp only[aop]
    generalize args.toList=l
    generalize ats.toList=l'
    first|rfl|(split<;>first|contradiction|rfl|exact yR|exact yS|exact yQ)
 |pick c a b=>exact uD
 |build t ps=>exact qL
 |buildSlice t len ps=>simp only[aop];cases gl.imm t<;>rfl
 |binOp o t x y u=>
  simp only[aop]
  split<;>first|exact Eo|exact yP
 |unOp o t x=>exact Ep
 |nilCheck x=>exact jN
 |convert s t x=>exact lJ
 |makeFunc f a b=>cases f<;>rfl
 |makeMap t r=>cases r with
  |none=>exact lM
  |some r=>rfl
 |makeSlice t l c=>exact iN
 |fieldAddr t x f=>exact iM
 |field t x f=>exact qM
 |index t x y=>exact qN
 |extract x j=>exact lK
 | _=>rfl
theorem Eu(h:wrs op=false)(hr:rds op=true):(aop P gl g op fr lk q).up=none:=by
 cases op<;>first|(cases h;done)|(cases hr;done)|skip
 case load=>exact(gM _ _ _).1
 case indexAddr=>exact(aX _ _ _ _ _).1
 case slice=>exact(fA _ _ _ _ _ _ _).1
 case lookup=>exact(dO _ _ _ _ _ _ _).1
 case call c=>
  obtain⟨callee,args,ats⟩:=c
  cases callee with
  |value f=>rfl
  |invoke r m=>rfl
  |builtin b=>
   cases b<;>first|(cases h;done)|(cases hr;done)|skip
   simp only[aop]
   generalize args.toList=l
   generalize ats.toList=l'
   first|rfl|(split<;>first|contradiction|rfl|exact(ga _ _ _).1|exact(gg _ _).1)
theorem mX{b:Nat}{x:Row}(h:Fits P gl N ops b x fr st)(hr:rds x.o.op=false)(hc:bH x.o.op≠none→x.r.rd=[]):x.rd=[]:=by
 unfold Row.rd
 cases hG:x.G with
 |false=>rfl
 |true=>
  rcases h.does hG with⟨_,e,_⟩|⟨_,_,_,_,_,_,_,e,_⟩
  ·rw[e];exact Ch hr
  ·exact hc (by rw[e];simp)
theorem vM{b:Nat}{x:Row}(h:Fits P gl N ops b x fr st)(hw:wrs x.o.op=false)(hc:bH x.o.op≠none→x.r.rd=[]):x.wr=[]:=by
 cases hr:rds x.o.op with
 |false=>
  have:=mX h hr hc
  rw[List.eq_nil_iff_forall_not_mem]
  intro o ho
  have:=uH h.vB ho
  rw[mX h hr hc]at this;cases this
 |true=>
  unfold Row.wr
  cases hG:x.G with
  |false=>rfl
  |true=>
   rcases h.does hG with⟨_,e,_,_,hu⟩|⟨_,_,_,_,_,_,_,e,_⟩
   ·rw[e,Eu hw hr,hu];rfl
   ·rw[List.eq_nil_iff_forall_not_mem]
    intro o ho
    have h1:o∈x.wr:=by unfold Row.wr;rw[hG];exact ho
    have h2:=uH h.vB h1
    unfold Row.rd at h2
    rw[hG,hc (by rw[e];simp)]at h2
    cases h2
end
def dK:List Oper→Nat
 | []=>0
 |o::l=>dK l+(bif needs o.op then 1 else 0)
def qOk:Nat→List Row→Prop
 | _,[]=>True
 |q,x::l=>x.q=q∧qOk (bif needs x.o.op then q+1 else q) l
def kM(trk:List Nat):Nat→List Row→Log
 | _,[]=>[]
 |i,x::l=>bif trk.contains i then(x.r.rd,upL x.r++x.ups.map (·.1))::kM trk (i+1) l else kM trk (i+1) l
def nrd(trk:List Nat):Nat→List Row→Prop
 | _,[]=>True
 |i,x::l=>(trk.contains i=false→bH x.o.op≠none→x.r.rd=[])∧nrd trk (i+1) l
theorem Dy{trk:List Nat}:∀(l:List Row) (i j:Nat) (h:j<l.length),nrd trk i l→trk.contains (i+j)=false→bH (l[j]).o.op≠none→(l[j]).r.rd=[]
 |x::l,i,0,_,h,ht,hc=>h.1 (by simpa using ht) hc
 |x::l,i,j+1,hj,h,ht,hc=>Dy l (i+1) j (by simpa using hj) h.2 (by rw[←ht];congr 1;omega) hc
section
variable {P:Program} {gl:Gl} {N:Nat} {ops:Array Oper} {b:Nat} {trk:List Nat} {K:Fr→St→Prop} {w0:World} {μ0:Mu} {st0:St} {Q:Exit→Act→World→Prop}
theorem zd{x:Row}{fr:Fr}{st:St}{q:Nat}(h:Fits P gl N ops b x fr st)(hq:st[q]? =some (some .resv))(hne:needs x.o.op=true→q≠x.q):(x.st st)[q]? =some (some .resv):=by
 rw[iO fun hm=>?_]
 ·exact hq
 ·rcases eI hm with hm|⟨e,hm⟩
  ·obtain⟨ob,h1,h2⟩:=lN h _ (uH h.vB hm)
   rw[hq]at h1;cases h1;exact h2 rfl
  ·exact hne (h.makes hm) e
theorem gj{o:Oper}{l:List Oper}{i k:Nat}{lg:Log}{fr:Fr}{st:St}(x:Row)(hx:x.o=o)(hq:x.q=b+k)(hf:Fits P gl N ops b x fr st)(hnr:trk.contains i=false→bH x.o.op≠none→x.r.rd=[])
 (hk:∀m,k≤m→m<k+dK (o::l)→st[b+m]? =some (some .resv))
 (ih:(∀m,(bif needs o.op then k+1 else k)≤m→m<(bif needs o.op then k+1 else k)+dK l→(x.st st)[b+m]? =some (some .resv))→
  ∃rows:List Row,rows.map (·.o)=l∧qOk (b+(bif needs o.op then k+1 else k)) rows∧Trace P gl N ops b rows (x.ap (fr,st))∧K (full rows (x.ap (fr,st))).1 (full rows (x.ap (fr,st))).2∧Dv (iQ (trk.contains i) lg x.r x.ups++kM trk (i+1) rows)∧nrd trk (i+1) rows):
 ∃rows:List Row,rows.map (·.o)=o::l∧qOk (b+k) rows∧Trace P gl N ops b rows (fr,st)∧K (full rows (fr,st)).1 (full rows (fr,st)).2∧Dv (lg++kM trk i rows)∧nrd trk i rows:=by
 obtain⟨rows,h1,h2,h3,h4,h5,h6⟩:=ih fun m h1 h2=>by
  refine zd hf (hk m ?_ ?_) fun hn=>?_
  ·cases hn:needs o.op<;>simp[hn]at h1<;>omega
  ·simp only[dK];cases hn:needs o.op<;>simp[hn]at h2⊢ <;>omega
  ·rw[hx]at hn
   rw[hq]
   simp[hn]at h1;omega
 refine⟨x::rows,by simp[hx,h1],⟨hq,?_⟩,⟨hf,h3⟩,h4,?_,hnr,h6⟩
 ·rw[hx]
  cases hn:needs o.op<;>simp[hn]at h2⊢
  ·exact h2
  ·exact h2
 ·simp only[kM]
  unfold iQ at h5
  cases ht:trk.contains i with
  |false=>rw[ht]at h5;exact h5
  |true=>
   rw[ht]at h5
   simp only[cond_true,List.append_assoc,List.cons_append,List.nil_append]at h5⊢
   exact h5
set_option maxHeartbeats 1000000 in
theorem jO:∀(l:List Oper) (i k:Nat) (lg:Log) (fr:Fr) (st:St),EvD P gl N ops b trk K l i k lg fr st→
 (∀m,k≤m→m<k+dK l→st[b+m]? =some (some .resv))→
 ∃rows:List Row,rows.map (·.o)=l∧qOk (b+k) rows∧Trace P gl N ops b rows (fr,st)∧K (full rows (fr,st)).1 (full rows (fr,st)).2∧Dv (lg++kM trk i rows)∧nrd trk i rows
 | [],i,k,lg,fr,st,h,_=>⟨[],rfl,trivial,trivial,h.2,by simpa[kM]using h.1,trivial⟩
 |⟨dst,op,ty,pos,af,none⟩::l,i,k,lg,fr,st,h,hk=>by
  simp only[EvD]at h
  by_cases h0:opk op=0
  ·rw[h0]at h
   obtain⟨h1,h2⟩:=(gP op).1 h0
   obtain⟨a,c,d⟩:=h
   refine gj ⟨_,b+k,true,aop P gl true op fr (look st) (b+k),[]⟩ rfl rfl ⟨c,trivial,rfl,⟨mU,fun _ h=>(by cases h)⟩,fun _=>.inl ⟨h1,rfl,a,(fun hn=>by rw[h2]at hn;cases hn),rfl⟩,fun hn=>absurd (uy h2) hn⟩ (fun _ hc=>absurd h1 hc) hk ?_
   rw[h2]
   exact fun hk'=>jO l _ _ _ _ _ d hk'
  ·by_cases h1':opk op=1
   ·rw[h1']at h
    obtain⟨h1,h2⟩:=(gP op).2 h1'
    obtain⟨a,c,d⟩:=h
    refine gj ⟨_,b+k,true,aop P gl true op fr (look st) (b+k),[]⟩ rfl rfl ⟨c,trivial,rfl,⟨mU,fun _ h=>(by cases h)⟩,fun _=>.inl ⟨h1,rfl,a,fun hn=>hk k (Nat.le_refl _) ?_,rfl⟩,fun _=>h2⟩ (fun _ hc=>absurd h1 hc) hk ?_
    ·simp only[dK,h2,cond_true];omega
    ·rw[h2]
     exact fun hk'=>jO l _ _ _ _ _ d hk'
   ·obtain⟨f,args,ats,rfl⟩:=gQ h0 h1'
    simp only[opk,Dw,Ga]at h
    cases hf:ev1 gl fr f<;>rw[hf]at h<;>first|exact h.elim|skip
    obtain⟨a,⟨c,d⟩,r,rd,ups,hp,hu,hrd,htr,e⟩:=h
    refine gj ⟨_,b+k,true,⟨r,True,rd,none,none⟩,ups⟩ rfl rfl ⟨a,trivial,rfl,⟨L3 rfl,hu⟩,fun _=>.inr ⟨f,args.toList,_,_,_,r,rd,rfl,c,d,hf,hp,rfl,fun o ho=>⟨(hrd o ho).1,let ⟨ob,h1,h2⟩:=(hrd o ho).2;⟨ob,jk.1 h1,h2⟩⟩⟩,fun hn=>absurd rfl hn⟩ (fun ht _=>htr ht) hk ?_
    exact fun hk'=>jO l _ _ _ _ _ e hk'
 |⟨dst,op,ty,pos,af,some (j,want)⟩::l,i,k,lg,fr,st,h,hk=>by
  simp only[EvD]at h
  cases hg:BM fr want (gslot ops j)with
  |none=>rw[hg]at h;unfold Cg at h;split at h<;>first|exact h.elim|(rename_i e;cases e)
  |some G=>
   rw[hg]at h
   obtain⟨g1,g2⟩:=yJ (dst:=dst) (op:=op) (ty:=ty) (pos:=pos) (af:=af) hg
   by_cases h0:opk op=0
   ·rw[h0]at h
    obtain⟨a,c,d⟩:=h
    obtain⟨h1,h2⟩:=(gP op).1 h0
    refine gj ⟨_,b+k,G,aop P gl G op fr (look st) (b+k),[]⟩ rfl rfl ⟨c,g2.symm▸trivial,g1.symm,⟨mU,fun _ h=>(by cases h)⟩,fun(hG:G=true)=>.inl ⟨h1,by subst hG;rfl,a hG,(fun hn=>by rw[h2]at hn;cases hn),rfl⟩,fun hn=>absurd (uy h2) hn⟩ (fun _ hc=>absurd h1 hc) hk ?_
    rw[h2]
    exact fun hk'=>jO l _ _ _ _ _ d hk'
   ·by_cases h1:opk op=1
    ·rw[h1]at h
     obtain⟨a,c,d⟩:=h
     obtain⟨h2,h3⟩:=(gP op).2 h1
     refine gj ⟨_,b+k,G,aop P gl G op fr (look st) (b+k),[]⟩ rfl rfl ⟨c,g2.symm▸trivial,g1.symm,⟨mU,fun _ h=>(by cases h)⟩,fun(hG:G=true)=>.inl ⟨h2,by subst hG;rfl,a hG,fun hn=>hk k (Nat.le_refl _) ?_,rfl⟩,fun _=>h3⟩ (fun _ hc=>absurd h2 hc) hk ?_
     ·simp only[dK,h3,cond_true];omega
     ·rw[h3]
      exact fun hk'=>jO l _ _ _ _ _ d hk'
    ·obtain⟨f,args,ats,rfl⟩:=gQ h0 h1
     simp only[opk,Cg,wZ]at h
     cases hf:ev1 gl fr f<;>rw[hf]at h<;>first|exact h.elim|skip
     obtain⟨a,⟨c,d⟩,r,rd,ups,hp,hu,hrd,htr,hgf,e⟩:=h
     refine gj ⟨_,b+k,G,⟨r,True,rd,none,none⟩,ups⟩ rfl rfl ⟨a,g2.symm▸trivial,g1.symm,⟨L3 rfl,hu⟩,fun(hG:G=true)=>.inr ⟨f,args.toList,_,_,_,r,rd,rfl,by subst hG;exact c,by subst hG;exact d,hf,hp hG,rfl,fun o ho=>⟨(hrd o ho).1,let ⟨ob,h1,h2⟩:=(hrd o ho).2;⟨ob,jk.1 h1,h2⟩⟩⟩,fun hn=>absurd rfl hn⟩ (fun ht _=>htr ht) hk ?_
     have es:(bif G then puts ((LR.mk r True rd none none).app (b+k) st) ups else st)=puts st ups:=by
      cases G with
      |true=>rfl
      |false=>exact(hgf rfl).symm
     intro hk'
     simp only[Row.ap,Row.st,Row.fr,Row.d,es]at hk'⊢
     exact jO l _ _ _ _ _ e hk'
theorem ze:∀(l:List Row) (q:Nat),qOk q l→∀j (h:j<l.length),q≤(l[j]).q∧(needs (l[j]).o.op=true→(l[j]).q<q+dK (l.map (·.o)))
 |x::l,q,h,0,_=>by
  refine⟨Nat.le_of_eq h.1.symm,fun hn=>?_⟩
  simp only[List.getElem_cons_zero]at hn⊢
  rw[h.1]
  simp only[List.map_cons,dK,hn,cond_true];omega
 |x::l,q,h,j+1,hj=>by
  have:=ze l _ h.2 j (by simpa using hj)
  simp only[List.getElem_cons_succ,List.map_cons,dK]
  cases hn:needs x.o.op<;>simp only[hn,cond_true,cond_false]at this⊢
  ·exact⟨this.1,fun h=>by have:=this.2 h;omega⟩
  ·exact⟨by omega,fun h=>by have:=this.2 h;omega⟩
theorem zh:∀(l:List Row) (q:Nat),qOk q l→∀i j (hi:i<l.length) (hj:j<l.length),i<j→needs (l[i]).o.op=true→(l[i]).q<(l[j]).q
 |x::l,q,h,0,j+1,_,hj,_,hn=>by
  simp only[List.getElem_cons_zero,List.getElem_cons_succ]at hn⊢
  have:=(ze l _ h.2 j (by simpa using hj)).1
  rw[hn,cond_true]at this
  rw[h.1];omega
 |x::l,q,h,i+1,j+1,hi,hj,hij,hn=>by
  simp only[List.getElem_cons_succ]at hn⊢
  exact zh l _ h.2 i j (by simpa using hi) (by simpa using hj) (by omega) hn
theorem zi{rd up:List Nat}:∀ {lg:Log},Kh rd up lg→∀y∈lg,(∀o∈up,o∉y.1)∧∀o∈y.2,o∉rd
 |(rd',up')::l,h,y,hy=>by
  rcases List.mem_cons.1 hy with e|e
  ·subst e
   exact⟨h.1,h.2.1⟩
  ·exact zi h.2.2 y e
theorem sE{trk:List Nat}:∀(l:List Row) (i j:Nat) (h:j<l.length),trk.contains (i+j)=true→((l[j]).r.rd,upL (l[j]).r++(l[j]).ups.map (·.1))∈kM trk i l
 |x::l,i,0,_,ht=>by simp only[kM,Nat.add_zero]at ht ⊢; rw[ht];simp
 |x::l,i,j+1,hj,ht=>by
  have:=sE l (i+1) j (by simpa using hj) (by rw[←ht];congr 1;omega)
  simp only[kM,List.getElem_cons_succ]
  cases trk.contains i with
  |true=>exact List.mem_cons_of_mem _ this
  |false=>exact this
theorem Hi{x:Row}{o:Nat}(h:o∈x.wr):o∈upL x.r++x.ups.map (·.1):=by
 unfold Row.wr at h
 cases hG:x.G<;>rw[hG]at h<;>simp only[cond_true,cond_false]at h
 ·cases h
 ·exact h
theorem Hj{x:Row}{o:Nat}(h:o∈x.rd):o∈x.r.rd:=by
 unfold Row.rd at h
 cases hG:x.G<;>rw[hG]at h
 ·cases h
 ·exact h
theorem zj{trk:List Nat}:∀(l:List Row) (i:Nat),Dv (kM trk i l)→∀j m (hj:j<l.length) (hm:m<l.length),j<m→trk.contains (i+j)=true→trk.contains (i+m)=true→
 (∀o∈(l[j]).wr,o∉ (l[m]).rd)∧∀o∈(l[m]).wr,o∉ (l[j]).rd
 |x::l,i,h,0,m+1,_,hm,_,t1,t2=>by
  simp only[kM,Nat.add_zero]at h t1
  rw[t1]at h
  have:=zi h.1 _ (sE l (i+1) m (by simpa using hm) (by rw[←t2];congr 1;omega))
  simp only[List.getElem_cons_zero,List.getElem_cons_succ]
  exact⟨fun o ho ho'=>this.1 o (Hi ho) (Hj ho'),fun o ho ho'=>this.2 o (Hi ho) (Hj ho')⟩
 |x::l,i,h,j+1,m+1,hj,hm,hjm,t1,t2=>by
  have h':Dv (kM trk (i+1) l):=by
   simp only[kM]at h
   cases ht:trk.contains i with
   |true=>rw[ht]at h;exact h.2
   |false=>rw[ht]at h;exact h
  simp only[List.getElem_cons_succ]
  exact zj l (i+1) h' j m (by simpa using hj) (by simpa using hm) (by omega) (by rw[←t1];congr 1;omega) (by rw[←t2];congr 1;omega)
theorem qc{rows:List Row}{s:Fr×St}(h:Trace P gl N ops b rows s)(j:Nat)(hj:j<rows.length):∃s':Fr×St,Fits P gl N ops b (rows[j]) s'.1 s'.2:=by
 have e:rows=rows.take j++rows[j]::rows.drop (j+1):=by rw[List.getElem_cons_drop,List.take_append_drop]
 rw[e]at h
 exact⟨_,kK _ h⟩
theorem vN{fr:Fr}{a:Act}{w:World}:∀(n:Nat) {st:St} {μ:Mu},ke gl N w0 μ0 st0 fr st a w μ→∃μ',ke gl N w0 μ0 st0 fr (st++List.replicate n (some .resv)) a w μ'
 |0,st,μ,h=>⟨μ,by simpa using h⟩
 |n+1,st,μ,h=>by
  obtain⟨k1,k2⟩:=mQ h.sim
  obtain⟨μ',h'⟩:=vN n (st:=st++[some .resv]) ⟨k1,h.glob.step k2,h.fr.step k2,h.size,h.defers,h.step.trans k2⟩
  exact⟨μ',by simpa[List.replicate_succ,List.append_assoc]using h'⟩
theorem xq{fr:Fr}{a:Act}{w:World}{st:St}{μ:Mu}(h:ke gl N w0 μ0 st0 fr st a w μ):ke gl N w0 μ0 st0 fr st a { w with drawn:=w.drawn+1 } μ:=by
 have step:Step w μ st { w with drawn:=w.drawn+1 } μ st:=⟨Nat.le_refl _,rfl,rfl,⟨rfl,Dr.le (Nat.le_succ _)⟩,fun _ _ _=>rfl,fun _ h=>.inl h,Nat.le_refl _,fun _ ob' _ h=>⟨ob',h,by
  cases ob' with
  |arr g n b es=>exact⟨Nat.le_refl _,fun _=>⟨rfl,rfl,rfl,rfl,fun blk base c ty _ hh=>⟨c,hh,rfl⟩⟩⟩
  |mps=>exact⟨rfl,rfl⟩
  |mpi=>exact⟨rfl,rfl,rfl⟩
  |sit=>rfl
  |resv=>trivial⟩⟩
 exact⟨⟨fun o ob ho=>(h.sim.obj o ob ho).step step (fun _ _ _=>rfl),h.sim.inj⟩,h.glob.step step,h.fr.step step,h.size,h.defers,h.step.trans step⟩
variable {n0:Nat} {keep:List Nat} {AQ':AQ} {fr:Fr} {st:St}
theorem sF{l:List Oper}{K:Fr→St→Prop}{Q:Exit→Act→World→Prop}{a:Act}{w:World}{μ:Mu}(trk:List Nat)(n:Nat)(ho:iR l.toArray trk=true)(hn:dK l=n)
 (h:EvD P gl N l.toArray st.length trk K l 0 0 [] fr (st++List.replicate n (some .resv))) (hc:ke gl N w0 μ0 st0 fr st a w μ) (hQ:∀fr st a w μ,K fr st→ke gl N w0 μ0 st0 fr st a w μ→Q .normal a w):
 wpAny P .any l.toArray Q l.toArray.size (Array.replicate l.toArray.size false) a { w with drawn:=w.drawn+1 }:=by
 obtain⟨μ1,hc1⟩:=vN n (xq hc)
 have hget:∀m,m<n→(st++List.replicate n (some Ob.resv))[st.length+m]? =some (some .resv):=fun m hm=>by
  rw[List.getElem?_append_right (by omega),Nat.add_sub_cancel_left]
  simp[hm]
 obtain⟨rows,h1,h2,h3,h4,h5,h6⟩:=jO l 0 0 [] fr _ h fun m _ hm=>hget m (by omega)
 have hlen:rows.length=l.length:=by rw[←h1];simp
 have hop:∀i (hi:i<rows.length),l.toArray[i]? =some (rows[i]).o:=fun i hi=>by
  have:l[i]? =(rows.map (·.o))[i]? :=by rw[h1]
  simpa[hi]using this
 have Dz:=ho
 unfold iR at Dz
 simp only[List.all_eq_true,List.mem_range,Bool.and_eq_true]at Dz
 have Ki:Good P gl N l.toArray st.length rows (fr,st++List.replicate n (some .resv)):=by
  refine⟨by simpa using h1.symm,h3,fun i j hi hj hne hni hnj=>?_,fun x hx hnx=>?_,fun i o hio e he hb=>?_,fun i j hi hj hij=>?_⟩
  ·rcases Nat.lt_or_gt_of_ne hne with hlt|hlt
   ·exact Nat.ne_of_lt (zh rows _ h2 i j hi hj hlt hni)
   ·exact Nat.ne_of_gt (zh rows _ h2 j i hj hi hlt hnj)
  ·obtain⟨j,hj,e⟩:=List.getElem_of_mem hx
   have:=ze rows _ h2 j hj
   rw[e,h1,hn]at this
   obtain⟨q1,q2⟩:=this
   have q3:=q2 hnx
   have:=hget (x.q-st.length) (by omega)
   rw[show st.length+(x.q-st.length)=x.q by omega]at this
   exact⟨this,by omega⟩
  ·have hil:i<l.length:=by
    rcases Nat.lt_or_ge i l.length with h'|h'
    ·exact h'
    ·rw[Array.getElem?_eq_none (by simpa using h')]at hio;cases hio
   have:=(Dz i (by simpa using hil)).1
   rw[hio]at this
   simp only[List.all_eq_true]at this
   have:=this e (by simpa using he)
   rw[hb]at this
   simp only[Bool.not_true,Bool.false_or]at this
   exact Nat.lt_of_lt_of_le (Nat.lt_succ_self _) (Nat.le_of_ble_eq_true this)
  ·have hp:=(Dz j (by simpa[←hlen]using hj)).2 i hij
   unfold Dx at hp
   rw[hop i hi,hop j hj]at hp
   simp only[Bool.or_eq_true]at hp
   rcases hp with hp|hp
   ·exact .inl (ou l.toArray.toList [] rfl (fun j hj=>absurd hj (Nat.not_lt_zero _)) j i hp)
   ·right
    simp only[Bool.and_eq_true,Bool.or_eq_true]at hp
    obtain⟨hp1,hp2⟩:=hp
    refine⟨hp1,?_⟩
    obtain⟨s1,f1⟩:=qc h3 i hi
    obtain⟨s2,f2⟩:=qc h3 j hj
    rcases hp2 with⟨hp2,hp3⟩|⟨t1,t2⟩
    ·have hcc:∀k (hk:k<rows.length),pD trk k (rows[k]).o.op=false→bH (rows[k]).o.op≠none→(rows[k]).r.rd=[]:=fun k hk hc hne=>by
      refine Dy rows 0 k hk h6 ?_ hne
      unfold pD at hc
      have:(bH (rows[k]).o.op).isSome=true:=by cases h:bH (rows[k]).o.op with
       |none=>exact absurd h hne
       |some=>rfl
      rw[this,Bool.true_and]at hc
      rw[Nat.zero_add];exact hc
     refine⟨fun o a1 a2=>?_,fun o a1 a2=>?_⟩
     ·cases hw:(wrs (rows[i]).o.op||pD trk i (rows[i]).o.op)with
      |false=>
       rw[Bool.or_eq_false_iff]at hw
       rw[vM f1 hw.1 (hcc i hi hw.2)]at a1;cases a1
      |true=>cases hr:(rds (rows[j]).o.op||pD trk j (rows[j]).o.op)with
       |false=>
        rw[Bool.or_eq_false_iff]at hr
        rw[mX f2 hr.1 (hcc j hj hr.2)]at a2;cases a2
       |true=>rw[hw,hr]at hp2;cases hp2
     ·cases hw:(wrs (rows[j]).o.op||pD trk j (rows[j]).o.op)with
      |false=>
       rw[Bool.or_eq_false_iff]at hw
       rw[vM f2 hw.1 (hcc j hj hw.2)]at a1;cases a1
      |true=>cases hr:(rds (rows[i]).o.op||pD trk i (rows[i]).o.op)with
       |false=>
        rw[Bool.or_eq_false_iff]at hr
        rw[mX f1 hr.1 (hcc i hi hr.2)]at a2;cases a2
       |true=>rw[hw,hr]at hp3;cases hp3
    ·exact zj rows 0 (by simpa using h5) i j hi hj hij (by simpa using t1) (by simpa using t2)
 have hl0:∀i,lst (Array.replicate l.toArray.size false) i=false:=fun i=>by
  unfold lst
  rw[Array.getD_eq_getD_getElem?]
  by_cases hi:i<l.length
  ·simp[hi]
  ·simp[hi]
 refine yX Ki (fun a w μ hc=>hQ _ _ a w μ h4 hc) _ _ _ _ μ1 (by simp[hlen]) ?_ ?_ ?_ ?_
 ·have:∀n,cnt (lst (Array.replicate l.toArray.size false)) n≤n:=fun n=>by
   induction n with
   |zero=>exact Nat.le_refl _
   |succ n ih=>simp only[cnt,hl0,cond_false];omega
  have:=this rows.length
  simpa[hlen]using this
 ·intro k o hk;rw[hl0]at hk;cases hk
 ·intro i j hi hj hj';rw[hl0]at hj';cases hj'
 ·rw[vE rows 0 _ fun k _ _=>hl0 k]
  exact hc1
theorem Lv{id:Nat}{l:List Oper}(trk:List Nat)(n:Nat)(hm:P.follows .mixedOrders=true)(ho:iR l.toArray trk=true)(hn:dK l=n)
 (h:EvD P gl N l.toArray st.length trk (fun fr st=>AQ' .normal (Fr.only keep fr) st) l 0 0 [] fr (st++List.replicate n (some .resv))):
 AWp P gl N n0 keep (.region id l.toArray true) AQ' fr st:=by
 intro w0 μ0 st0 hl a w ⟨μ,hc⟩
 exact wp_region_any hm (sF trk n ho hn h hc fun fr st a w μ hk hc=>⟨_,_,hk,μ,hc.sim,hc.glob,hc.fr.only keep,hc.size,hc.defers,hc.step⟩)
end
section
variable {P:Program} {gl:Gl} {N n0:Nat} {ops:Array Oper} {keep:List Nat} {Q:AQ} {fr:Fr} {st:St} {lg:Log} {b q:Nat} {trk:List Nat} {K:Fr→St→Prop}
 {dst:Option Nat} {op:Op} {l:List Oper} {i k:Nat} {tr:Bool} {kk k1:Log→Fr→St→Prop} {d:D} {p:Prop} {rd:List Nat} {o:Nat} {ob:Ob} {G:Bool}
@[congr] theorem Hl{fr':Fr}{st':St}{lg':Log}{i' k':Nat}(h0:i=i')(h1:k=k')(h2:lg=lg')(h:fr=fr')(h3:st=st'):EvD P gl N ops b trk K l i k lg fr st=EvD P gl N ops b trk K l i' k' lg' fr' st':=by rw[h0,h1,h2,h,h3]
@[congr] theorem Gb{r r':LR}(h:r=r'):Ce N q tr dst lg fr st kk r=Ce N q tr dst lg fr st kk r':=by rw[h]
@[congr] theorem Ew{r r':LR}(h:r=r'):uI N q G tr dst lg fr st kk r=uI N q G tr dst lg fr st kk r':=by rw[h]
@[congr] theorem Gc{n n':Nat}{q':Nat}{tr':Bool}(h1:q=q')(h2:tr=tr')(h:n=n'):Dw P gl N b q tr kk k1 dst op lg fr st n=Dw P gl N b q' tr' kk k1 dst op lg fr st n':=by rw[h,h1,h2]
@[congr] theorem Gd{n n':Nat}{g g':Option Bool}{q':Nat}{tr':Bool}(h1:q=q')(h2:tr=tr')(h:n=n')(h3:g=g'):Cg P gl N b q tr kk k1 dst op lg fr st n g=Cg P gl N b q' tr' kk k1 dst op lg fr st n' g':=by rw[h,h1,h2,h3]
@[congr] theorem Ge{a a':Prop}{f f':D}{args args':List D}(h:a=a')(h2:f=f')(h3:args=args'):Ga P gl N b tr dst lg fr st kk a f args=Ga P gl N b tr dst lg fr st kk a' f' args':=by rw[h,h2,h3]
@[congr] theorem Ey{a a':Prop}{f f':D}{args args':List D}(h:a=a')(h2:f=f')(h3:args=args'):wZ P gl N b G tr dst lg fr st kk a f args=wZ P gl N b G tr dst lg fr st kk a' f' args':=by rw[h,h2,h3]
@[congr] theorem Ez{f:FuncId}{args args':List D}(h:args=args'):wY P gl b tr dst lg fr st kk f args=wY P gl b tr dst lg fr st kk f args':=by rw[h]
@[congr] theorem DA{f:FuncId}{args args':List D}(h:args=args'):sD P gl b G tr dst lg fr st kk f args=sD P gl b G tr dst lg fr st kk f args':=by rw[h]
theorem Kj:EvD P gl N ops b trk K [] i k lg fr st=(Dv lg∧K fr st):=rfl
theorem Kk{o:Oper}{l':List Oper}:EvD P gl N ops b trk K (List.append (o::l) l') i k lg fr st=EvD P gl N ops b trk K (o::List.append l l') i k lg fr st:=rfl
theorem Jw{l':List Oper}:EvD P gl N ops b trk K (List.append [] l') i k lg fr st=EvD P gl N ops b trk K l' i k lg fr st:=rfl
theorem Jx{ty:TypeId}{pos:String}{af:Array Edge}:EvD P gl N ops b trk K (⟨dst,op,ty,pos,af,none⟩::l) i k lg fr st=
 Dw P gl N b (b+k) (trk.contains i) (EvD P gl N ops b trk K l (i+1) k) (EvD P gl N ops b trk K l (i+1) (k+1)) dst op lg fr st (opk op):=rfl
theorem Ho{ty:TypeId}{pos:String}{af:Array Edge}{j:Nat}{want:Bool}:EvD P gl N ops b trk K (⟨dst,op,ty,pos,af,some (j,want)⟩::l) i k lg fr st=
 Cg P gl N b (b+k) (trk.contains i) (EvD P gl N ops b trk K l (i+1) k) (EvD P gl N ops b trk K l (i+1) (k+1)) dst op lg fr st (opk op) (BM fr want (gslot ops j)):=rfl
theorem Lw:Dw P gl N b q tr kk k1 dst op lg fr st 0=Ce N q tr dst lg fr st kk (aop P gl true op fr (look st) q):=rfl
theorem Lx:Dw P gl N b q tr kk k1 dst op lg fr st 1=Ce N q tr dst lg fr st k1 (aop P gl true op fr (look st) q):=rfl
theorem Lz{f:Operand}{args:Array Operand}{ats:Array TypeId}:Dw P gl N b q tr kk k1 dst (.call ⟨.value f,args,ats⟩) lg fr st 2=Ga P gl N b tr dst lg fr st kk (eok gl true fr f∧(∀x∈args.toList,eok gl true fr x)) (ev1 gl fr f) (args.toList.map (ev1 gl fr)):=rfl
theorem LA:Cg P gl N b q tr kk k1 dst op lg fr st 0 (some G)=uI N q G tr dst lg fr st kk (aop P gl G op fr (look st) q):=rfl
theorem LB:Cg P gl N b q tr kk k1 dst op lg fr st 1 (some G)=uI N q G tr dst lg fr st k1 (aop P gl G op fr (look st) q):=rfl
theorem LC{f:Operand}{args:Array Operand}{ats:Array TypeId}:Cg P gl N b q tr kk k1 dst (.call ⟨.value f,args,ats⟩) lg fr st 2 (some G)=wZ P gl N b G tr dst lg fr st kk (eok gl G fr f∧(∀x∈args.toList,eok gl G fr x)) (ev1 gl fr f) (args.toList.map (ev1 gl fr)):=rfl
theorem LD:Ce N q tr dst lg fr st kk ⟨d,p,rd,none,none⟩=(p∧dlt N dst∧kk (iQ tr lg ⟨d,p,rd,none,none⟩ []) (fr.fU dst d) st):=rfl
theorem LG:Ce N q tr dst lg fr st kk ⟨d,p,rd,some (o,ob),none⟩=(p∧dlt N dst∧kk (iQ tr lg ⟨d,p,rd,some (o,ob),none⟩ []) (fr.fU dst d) (st.set o (some ob))):=rfl
theorem LH:Ce N q tr dst lg fr st kk ⟨d,p,rd,none,some ob⟩=(p∧dlt N dst∧kk (iQ tr lg ⟨d,p,rd,none,some ob⟩ []) (fr.fU dst d) (st.set q (some ob))):=rfl
theorem Kl:uI N q G tr dst lg fr st kk ⟨d,p,rd,none,none⟩=(cg G p∧dlt N dst∧kk (iQ tr lg ⟨d,p,rd,none,none⟩ []) (fr.fU dst (.cond G d)) st):=by cases G<;>rfl
theorem Km{g:FuncId}{first cap args:List D}:Ga P gl N b tr dst lg fr st kk p (.fn g first cap) args=(dlt N dst∧p∧wY P gl b tr dst lg fr st kk g (first++args++cap)):=rfl
theorem Jy{g:FuncId}{first cap args:List D}:wZ P gl N b G tr dst lg fr st kk p (.fn g first cap) args=(dlt N dst∧p∧sD P gl b G tr dst lg fr st kk g (first++args++cap)):=rfl
theorem Kn{r:LR}{ups:List (Nat×Ob)}:iQ false lg r ups=lg:=rfl
theorem U8{f:FuncId}{args:List D}{r:D}(h:Pure P gl f args r)(hk:kk (iQ tr lg ⟨r,True,[],none,none⟩ []) (fr.fU dst r) st):
 wY P gl b tr dst lg fr st kk f args:=
 ⟨r,[],[],h.loc,fun _ h=>(by cases h),fun _ h=>(by cases h),fun _=>rfl,hk⟩
theorem mY{f:FuncId}{args:List D}{r:D}(h:G=true→Pure P gl f args r)(hk:kk (iQ tr lg ⟨r,True,[],none,none⟩ []) (fr.fU dst (.cond G r)) st):
 sD P gl b G tr dst lg fr st kk f args:=
 ⟨r,[],[],fun e=>(h e).loc,fun _ h=>(by cases h),fun _ h=>(by cases h),fun _=>rfl,fun _=>rfl,hk⟩
theorem Ko{ups:List (Nat×Ob)}:iQ true lg ⟨d,p,rd,none,some ob⟩ ups=lg++[(rd,ups.map (·.1))]:=rfl
theorem Jz{ups:List (Nat×Ob)}:iQ true lg ⟨d,p,rd,none,none⟩ ups=lg++[(rd,ups.map (·.1))]:=rfl
theorem JA{ups:List (Nat×Ob)}:iQ true lg ⟨d,p,rd,some (o,ob),none⟩ ups=lg++[(rd,o::ups.map (·.1))]:=rfl
theorem MI{b:Bool}:(b==true)=b:=by cases b<;>rfl
theorem MJ{b:Bool}:(b==false)= !b:=by cases b<;>rfl
theorem Gf{l:List Oper}{j:Nat}:gslot l.toArray j=(l[j]?).bind (·.dst):=by simp[gslot]
theorem JB{e:Nat}:(∃t,TK.slice e=TK.slice t)=True:=eq_true ⟨e,rfl⟩
theorem LI{a c:Nat}:(∃t u,TK.map a c=TK.map t u)=True:=eq_true ⟨a,c,rfl⟩
end
attribute [go_sem] MI MJ Gf Option.bind_some JB LI Bu jy Int.toNat_natCast imp_self false_implies Kk Jw Kj Jx Ho Lw Lx Lz LA LB LC LD LG LH Kl Km Jy Kn Ko Jz JA Kh Dv Nat.add_zero
section
variable {P:Program} {gl:Gl} {N n0:Nat} {keep:List Nat} {Q:AQ} {fr:Fr} {st:St} {c:Code}
theorem Kp{t n b:Nat}{full:Bool}{es:List (List D)}(hg:fr.get t= .sl full n b es)(h:es.length*b≤top→AWp P gl N n0 keep c Q fr st):AWp P gl N n0 keep c Q fr st:=
 Eh (p:=es.length*b≤top) (fun w μ tmps _ hf=>by
  have:=hf t
  rw[hg]at this
  generalize tmps.getD t undef=v at this
  cases this with
  |tr h=>cases h;assumption) h
end
def Hp(n:Nat)(rows:List (List D)):Prop:=∀r∈rows,r.length=n∧r.all D.one=true
theorem Ci{α:Type}{l:List α}{k:Nat}{d:α}(h:k<l.length):l.getD k d∈l:=by
 rw[List.getD_eq_getElem?_getD,List.getElem?_eq_getElem h];exact List.getElem_mem h
theorem Hp.at{n:Nat}{rows:List (List D)}(h:Hp n rows){k:Nat}(hk:k<rows.length):∃r,rows.getD k []=r∧r.length=n∧r.take n=r∧r.all D.one=true∧r∈rows:=by
 have hm:=Ci (d:=[]) hk
 obtain⟨h1,h2⟩:=h _ hm
 exact⟨_,rfl,h1,List.take_of_length_le (by omega),h2,hm⟩
def Hq:Ob→Ob→Prop
 | .arr g n b es,.arr g' n' b' es'=>g'=g∧n'=n∧b'=b∧es'.length=es.length
 | .mps ag _,.mps ag' _=>ag'=ag
 | .mpi ag k _,.mpi ag' k' _=>ag'=ag∧k'=k
 | .sit s p,.sit s' p'=>s'=s∧p'=p
 | .resv,.resv=>True
 | _,_=>False
structure zk(st T:St):Prop where
 len:T.length≤st.length
 sh:∀(o:Nat) (ob':Ob),T[o]? =some (some ob')→∃ob,st[o]? =some (some ob)∧Hq ob ob'
section
variable {w:World} {μ:Mu} {st T:St}
theorem zk.own(hk:zk st T){blk:Nat}(h:own μ T blk):own μ st blk:=by
 obtain⟨o,ob,base,h1,h2⟩:=h
 obtain⟨ob',h3,_⟩:=hk.sh o ob h1
 exact⟨o,ob',base,h3,h2⟩
theorem TR.kill(hk:zk st T){v:Value}{d:D}(h:TR w (Am.own μ st) v d):TR w (Am.own μ T) v d:=
 h.mono (fun _ _ hn=>⟨rfl,fun h=>hn (hk.own h)⟩) (Nat.le_refl _)
theorem zk.resv(hk:zk st T){o:Nat}(h:st[o]? ≠some (some .resv)):T[o]? ≠some (some .resv):=fun e=>by
 obtain⟨ob,h1,h2⟩:=hk.sh o _ e
 cases ob<;>first|exact h2.elim|exact h h1
theorem VR.kill(hk:zk st T){v:Value}{d:D}(h:VR w μ st v d)(hd:D.sc T.length d):VR w μ T v d:=by
 induction h with
 |any v=>exact .any v
 |tr h=>exact .tr (h.kill hk)
 |agg vs cs hs hc ih=>exact .agg vs cs hs (fun j hj=>ih j hj (aP hd j hj))
 |tup vs cs hs hc ih=>exact .tup vs cs hs (fun j hj=>ih j hj (aP hd j hj))
 |fn f vf vc first cap hf hc hfc hcc ih1 ih2=>exact .fn f vf vc first cap hf hc (fun j hj=>ih1 j hj (aP hd.1 j hj)) (fun j hj=>ih2 j hj (aP hd.2 j hj))
 |ref v full o g off len hv ho hr hg h=>
  refine .ref v full o g off len hv hd (hk.resv hr) (fun g' n b es e=>?_) (fun n b es e=>?_)
  ·obtain⟨ob,h1,h2⟩:=hk.sh o _ e
   cases ob<;>first|exact h2.elim|skip
   have:=hg _ _ _ _ h1
   rw[h2.1];exact this
  ·obtain⟨ob,h1,h2⟩:=hk.sh o _ e
   cases ob<;>first|exact h2.elim|skip
   obtain⟨rfl,rfl,rfl,e4⟩:=h2
   have:=h _ _ _ h1
   unfold jf at this⊢
   rw[e4];exact this
 |ptr v o g i c hv ho hr hg h=>
  refine .ptr v o g i c hv hd (hk.resv hr) (fun g' n b es e=>?_) (fun n b es e=>?_)
  ·obtain⟨ob,h1,h2⟩:=hk.sh o _ e
   cases ob<;>first|exact h2.elim|skip
   have:=hg _ _ _ _ h1
   rw[h2.1];exact this
  ·obtain⟨ob,h1,h2⟩:=hk.sh o _ e
   cases ob<;>first|exact h2.elim|skip
   obtain⟨rfl,rfl,rfl,e4⟩:=h2
   exact h _ _ _ h1
 |mp v o hv ho hr h1 h2=>
  refine .mp v o hv hd (hk.resv hr) (fun ag es e=>?_) (fun ag k es e=>?_)
  ·obtain⟨ob,h3,h4⟩:=hk.sh o _ e
   cases ob<;>first|exact h4.elim|skip
   exact h1 _ _ h3
  ·obtain⟨ob,h3,h4⟩:=hk.sh o _ e
   cases ob<;>first|exact h4.elim|skip
   exact h2 _ _ _ h3
 |it v o hv ho hr h=>
  refine .it v o hv hd (hk.resv hr) (fun s p e=>?_)
  obtain⟨ob,h3,h4⟩:=hk.sh o _ e
  cases ob<;>first|exact h4.elim|skip
  exact h _ _ h3
 |cond v g d h h0 ih=>exact .cond v g d (fun e=>ih e (hd e)) h0
end
def D.imm:D→Bool
 | .agg _| .tup _| .fn _ _ _| .ref _ _ _ _ _| .ptr _ _ _ _| .mp _| .it _| .cond _ _=>false
 | _=>true
def Imm(rows:List (List D)):Prop:=∀e∈rows,e.all D.imm=true
mutual
inductive Up(st T:St):D→D→Prop
 |any (d:D):Up st T d .any
 |same (d:D):Up st T d d
 |y5 (full:Bool) (n b:Nat) (hb:1≤b):Up st T .y5 (.sl full n b [])
 |nref (full:Bool) (o g n b:Nat) (es:List (List D)) (h:T[o]? =some (some (.arr g n b es))):Up st T .y5 (.ref full o g 0 0)
 |full (f:Bool) (n b:Nat) (es:List (List D)):Up st T (.sl true n b es) (.sl f n b es)
 |ref (full:Bool) (o g off len n b:Nat) (es:List (List D)) (rows:List (List D)) (h:st[o]? =some (some (.arr g n b es))) (hT:look T o=none) (hb:1≤b) (hi:Imm es)
  (hr:rows=(es.drop off).take len):Up st T (.ref full o g off len) (.sl false n b rows)
 |sG (o g off len:Nat):Up st T (.ref true o g off len) (.ref false o g off len)
 |agg (cs cs':List D) (h:Ups st T cs cs'):Up st T (.agg cs) (.agg cs')
 |tup (cs cs':List D) (h:Ups st T cs cs') (hl:cs.all D.live=true):Up st T (.tup cs) (.tup cs')
 |cond (g:Bool) (d d':D) (h:Up st T d d'):Up st T (.cond g d) (.cond g d')
inductive Ups(st T:St):List D→List D→Prop
 |nil:Ups st T [] []
 |cons (d d':D) (l l':List D) (h:Up st T d d') (hl:Ups st T l l'):Ups st T (d::l) (d'::l')
end
theorem Ups.len{st T:St}:∀ {l l':List D},Ups st T l l'→l'.length=l.length
 | _,_,.nil=>rfl
 | _,_,.cons _ _ _ _ _ h=>by simp[h.len]
theorem Ups.get{st T:St}:∀ {l l':List D},Ups st T l l'→∀(j:Nat) (h:j<l.length) (h':j<l'.length),Up st T (l[j]) (l'[j])
 | _,_,.cons _ _ _ _ h _,0,_,_=>h
 | _,_,.cons _ _ _ _ _ h,j+1,hj,hj'=>h.get j (by simpa using hj) (by simpa using hj')
theorem Ups.refl{st T:St}:∀(l:List D),Ups st T l l
 | []=>.nil
 |d::l=>.cons d d l l (.same d) (Ups.refl l)
inductive jE(st T:St):List (List D)→List (List D)→Prop
 |same (l:List (List D)):jE st T l l
 |nil:jE st T [] []
 |cons (e e':List D) (l l':List (List D)) (h:Ups st T e e') (hl:jE st T l l'):jE st T (e::l) (e'::l')
 |snoc (e e':List D) (l l':List (List D)) (hl:jE st T l l') (h:Ups st T e e'):jE st T (l++[e]) (l'++[e'])
theorem jE.spec{st T:St}{l l':List (List D)}(h:jE st T l l'):l'.length=l.length∧∀(j:Nat) (h:j<l.length) (h':j<l'.length),Ups st T (l[j]) (l'[j]):=by
 induction h with
 |same l=>exact⟨rfl,fun j _ _=>Ups.refl _⟩
 |nil=>exact⟨rfl,fun j h _=>absurd h (Nat.not_lt_zero _)⟩
 |cons e e' l l' h hl ih=>
  refine⟨by simp[ih.1],fun j hj hj'=>?_⟩
  cases j with
  |zero=>exact h
  |succ j=>exact ih.2 j (by simpa using hj) (by simpa using hj')
 |snoc e e' l l' hl h ih=>
  refine⟨by simp[ih.1],fun j hj hj'=>?_⟩
  by_cases hjl:j<l.length
  ·rw[List.getElem_append_left hjl,List.getElem_append_left (by rw[ih.1];exact hjl)]
   exact ih.2 j hjl _
  ·have:j=l.length:=by simp at hj;omega
   subst this
   have e1:(l++[e])[l.length]=e:=by simp
   have e2:(l'++[e'])[l.length]'hj'=e':=by rw[List.getElem_append_right (by omega)];simp
   rw[e1,e2];exact h
inductive Bo(st T:St):List (Bs×List D)→List (Bs×List D)→Prop
 |nil:Bo st T [] []
 |cons (k:Bs) (d d':D) (l l':List (Bs×List D)) (h:Up st T d d') (hl:Bo st T l l'):Bo st T ((k,[d])::l) ((k,[d'])::l')
theorem Bo.keys{st T:St}{l l':List (Bs×List D)}(h:Bo st T l l'):l'.map (·.1)=l.map (·.1):=by
 induction h with
 |nil=>rfl
 |cons k d d' l l' _ _ ih=>simp[ih]
def enm(es':List (Bs×List D))(p:Bs×List D):Bs×List D:=(p.1,(assoc p.1 es').getD p.2)
theorem Cj{l:List (Bs×List D)}{x:Bs}{c:List D}{es':List (Bs×List D)}(h:x∉l.map (·.1)):l.map (enm ((x,c)::es'))=l.map (enm es'):=
 List.map_congr_left fun p hp=>by
  have:p.1≠x:=fun e=>h (e▸List.mem_map.2 ⟨p,hp,rfl⟩)
  unfold enm
  rw[show assoc p.1 ((x,c)::es')=assoc p.1 es' by simp only[assoc];rw[if_neg fun e=>this (by first|exact e|exact e.symm)]]
theorem Bo.map{st T:St}{l l':List (Bs×List D)}(h:Bo st T l l')(hn:(l.map (·.1)).Nodup):l.map (enm l')=l':=by
 induction h with
 |nil=>rfl
 |cons k d d' l l' _ _ ih=>
  rw[List.map_cons,List.nodup_cons]at hn
  rw[List.map_cons,Cj hn.1,ih hn.2]
  unfold enm
  simp[assoc]
theorem Bo.ent{st T:St}{l l':List (Bs×List D)}(h:Bo st T l l')(hn:(l.map (·.1)).Nodup){p:Bs×List D}(hp:p∈l):∃d d',p.2=[d]∧(enm l' p).2=[d']∧Up st T d d':=by
 induction h with
 |nil=>cases hp
 |cons k d d' l l' h _ ih=>
  rw[List.map_cons,List.nodup_cons]at hn
  rcases List.mem_cons.1 hp with rfl|hp
  ·exact⟨d,d',rfl,by unfold enm;simp[assoc],h⟩
  ·obtain⟨a,b,h1,h2,h3⟩:=ih hn.2 hp
   refine⟨a,b,h1,?_,h3⟩
   have:p.1≠k:=fun e=>hn.1 (e▸List.mem_map.2 ⟨p,hp,rfl⟩)
   rw[←h2]
   unfold enm
   rw[show assoc p.1 ((k,[d'])::l')=assoc p.1 l' by simp only[assoc];rw[if_neg fun e=>this (by first|exact e|exact e.symm)]]
inductive Bp(st T:St):Ob→Ob→Prop
 |same (ob:Ob):Bp st T ob ob
 |arr (g n b:Nat) (es es':List (List D)) (h:jE st T es es'):Bp st T (.arr g n b es) (.arr g n b es')
 |mps (es es':List (Bs×List D)) (h:Bo st T es es'):Bp st T (.mps false es) (.mps false es')
theorem Bp.sh{st T:St}{ob ob':Ob}(h:Bp st T ob ob'):Hq ob ob':=by
 cases h with
 |same=>cases ob<;>simp[Hq]
 |arr g n b es es' h=>exact⟨rfl,rfl,rfl,h.spec.1⟩
 |mps es es' h=>exact rfl
structure xT(st T:St):Prop where
 len:T.length≤st.length
 obs:∀(o:Nat) (ob':Ob),T[o]? =some (some ob')→∃ob,st[o]? =some (some ob)∧Bp st T ob ob'
 sc:iw T.length T
theorem xT.kill{st T:St}(h:xT st T):zk st T:=⟨h.len,fun o ob' e=>let ⟨ob,h1,h2⟩:=h.obs o ob' e;⟨ob,h1,h2.sh⟩⟩
section
variable {w:World} {μ:Mu} {st T:St}
theorem Hr{v:Value}{d:D}(h:VR w μ st v d)(hi:d.imm=true)(h1:v.oneCell'=true):TR w (own μ st) v d:=by
 cases h with
 |any=>exact .any _ h1
 |tr h=>exact h
 | _=>cases hi
theorem VR.up(hs:Sim w μ st)(hk:zk st T){v:Value}{d d':D}(hu:Up st T d d')(h:VR w μ st v d)(hd:D.sc T.length d'):VR w μ T v d':=by
 induction h generalizing d' with
 |any v=>cases hu with
  |any=>exact .any _
  |same=>exact .any _
 |tr h=>
  cases hu with
  |any=>exact .any _
  |same=>exact .tr (h.kill hk)
  |y5 full n b hb=>cases h;exact .tr (.sl full n b [] none 0 0 (fun _ _=>undef) rfl (Nat.le_refl _) (fun _=>rfl) (by simp[top]) hb (fun e he=>by cases he) (.inl rfl) (fun i j hi=>absurd hi (Nat.not_lt_zero _)))
  |nref full o g n b es hT=>
   cases h
   refine .ref _ full o g 0 0 ⟨none,0,0,rfl⟩ (List.getElem?_eq_some_iff.1 hT).1 (by rw[hT];simp) (fun g' n' b' es' e=>?_) (fun n' b' es' e=>?_)
   ·rw[hT]at e;cases e;exact Nat.le_refl _
   ·exact⟨none,0,rfl,Nat.le_refl _,by omega,fun _=>rfl,.inl rfl⟩
  |full f n b es=>
   cases h.kill hk with
   |sl _ _ _ _ a len cap cv hlen hcap hfull hb hb1 hn ha hc=>exact .tr (.sl f n b es a len cap cv hlen hcap (fun _=>hfull rfl) hb hb1 hn ha hc)
  |ref=>cases h
  |sG=>cases h
  |agg=>cases h
  |tup=>cases h
  |cond=>cases h
 |agg vs cs hs' hc ih=>
  cases hu with
  |any=>exact .any _
  |same=>exact VR.kill hk (.agg vs cs hs' hc) hd
  |agg _ cs' hu=>exact .agg vs cs' (by rw[hu.len];exact hs') fun j hj=>ih j (by rw[←hu.len];exact hj) (hu.get j _ hj) (aP hd j hj)
 |tup vs cs hs' hc ih=>
  cases hu with
  |any=>exact .any _
  |same=>exact VR.kill hk (.tup vs cs hs' hc) hd
  |tup _ cs' hu hl=>
   exact .tup vs cs' (fun j hj _=>hs' j (by rw[←hu.len];exact hj) (List.all_eq_true.1 hl _ (List.getElem_mem _))) fun j hj=>ih j (by rw[←hu.len];exact hj) (hu.get j _ hj) (aP hd j hj)
 |fn f vf vc first cap hf hc hfc hcc ih1 ih2=>
  cases hu with
  |any=>exact .any _
  |same=>exact VR.kill hk (.fn f vf vc first cap hf hc hfc hcc) hd
 |ref v full o g off len hv ho hr hg h=>
  cases hu with
  |any=>exact .any _
  |same=>exact VR.kill hk (.ref v full o g off len hv ho hr hg h) hd
  |sG=>exact VR.kill hk (.ref v false o g off len hv ho hr hg fun n b es e=>by
   obtain⟨a,cap,h1,h2,h3,h4,h5⟩:=h n b es e
   exact⟨a,cap,h1,h2,h3,(fun hf=>by cases hf),h5⟩) hd
  |ref _ _ _ _ _ n b es rows hst hT hb hi jK=>
   subst jK
   obtain⟨a,cap,e1,e2,e3,e4,e5⟩:=h n b es hst
   subst e1
   have hA:kj w μ st (μ o) n b es:=hs.obj o _ hst
   have hlen:((es.drop off).take len).length=len:=by simp;omega
   have hrow:∀i (hi:i<((es.drop off).take len).length),((es.drop off).take len)[i]=es[off+i]'(by rw[hlen]at hi;omega):=fun i hi=>by simp
   rcases hA.loc with⟨m0,e0⟩|⟨blk,base,c,ty,em,hh,hsz,hcell⟩
   ·subst e0
    have h0:len=0:=by simp at e3;omega
    subst h0
    refine .tr (.sl false n b _ a 0 cap (fun _ _=>undef) (by simp) e2 (fun hf=>by cases hf) (by simp) hb (fun e he=>by simp at he) (.inl (by simp)) (fun i j hi=>by simp at hi))
   ·have hcv:∀i j,∃u,∀(hi:i<len) (hj:j<n),c[base+((off+i)*n+j)]? =some u∧TR w (own μ T) u ((es[off+i]'(by omega))[j]'(by rw[hA.hn _ (List.getElem_mem _)];exact hj)):=fun i j=>by
     by_cases hc:i<len∧j<n
     ·obtain⟨u,h1,h2,h3⟩:=hcell (off+i) j (by omega) (by rw[hA.hn _ (List.getElem_mem _)];exact hc.2)
      refine⟨u,fun _ _=>⟨h1,?_⟩⟩
      have LJ:=hi (es[off+i]'(by omega)) (List.getElem_mem _)
      rw[List.all_eq_true]at LJ
      exact(Hr h2 (LJ _ (List.getElem_mem _)) h3).kill hk
     ·exact⟨undef,fun hi hj=>absurd ⟨hi,hj⟩ hc⟩
    have MK:∃cv:Nat→Nat→Value,∀i j (hi:i<len) (hj:j<n),c[base+((off+i)*n+j)]? =some (cv i j)∧TR w (own μ T) (cv i j) ((es[off+i]'(by omega))[j]'(by rw[hA.hn _ (List.getElem_mem _)];exact hj)):=
     ⟨fun i j=>Classical.choose (hcv i j),fun i j hi hj=>Classical.choose_spec (hcv i j) hi hj⟩
    obtain⟨cv,hcv⟩:=MK
    have hlb:((es.drop off).take len).length*b≤top:=by
     rw[hlen]
     exact Nat.le_trans (Nat.mul_le_mul_right b (show len≤es.length by omega)) hA.Lj
    have hno:¬own μ T blk:=by
     rintro⟨o',ob',base',h1,h2⟩
     obtain⟨ob,h3,_⟩:=hk.sh o' ob' h1
     have:=hs.inj o o' _ _ blk base base' hst h3 em h2
     subst this
     rw[jk.2 h1]at hT;cases hT
    refine .tr (.sl false n b _ a len cap cv hlen.symm e2 (fun hf=>by cases hf) hlb hb ?_ ?_ ?_)
    ·intro e he
     obtain⟨i,hi',e'⟩:=List.getElem_of_mem he
     rw[hrow i hi']at e'
     rw[←e'];exact hA.hn _ (List.getElem_mem _)
    ·by_cases h0:len=0
     ·subst h0;left;simp
     ·right
      rcases e5 with e5|⟨oZ,base',em',ea,c',ty',hh',hsz'⟩
      ·omega
      ·rw[em]at em';cases em'
       have hlt:blk<w.heap.size:=by
        rcases Nat.lt_or_ge blk w.heap.size with h|h
        ·exact h
        ·rw[Array.getElem?_eq_none h]at hh;cases hh
       refine⟨blk,base+off*n,ea,hlt,hno,fun i j hi' hj=>?_⟩
       rw[hlen]at hi'
       have:=(hcv i j hi' hj).1
       simp only[World.cell?, hh]
       rw[show base+off*n+(i*n+j)=base+((off+i)*n+j)by rw[Nat.add_mul];omega]
       simpa using this
    ·intro i j hi' hj
     have hi2:i<len:=by rw[hlen]at hi';exact hi'
     have hn2:(((es.drop off).take len)[i]).length=n:=by rw[hrow i hi'];exact hA.hn _ (List.getElem_mem _)
     have:=(hcv i j hi2 (by omega)).2
     have e:(((es.drop off).take len)[i])[j]=(es[off+i]'(by omega))[j]'(by rw[hA.hn _ (List.getElem_mem _)];omega):=by
      have:=hrow i hi'
      congr 1
     rw[e];exact this
 |ptr v o g i c hv ho hr hg h=>
  cases hu with
  |any=>exact .any _
  |same=>exact VR.kill hk (.ptr v o g i c hv ho hr hg h) hd
 |mp v o hv ho hr h1 h2=>
  cases hu with
  |any=>exact .any _
  |same=>exact VR.kill hk (.mp v o hv ho hr h1 h2) hd
 |it v o hv ho hr h=>
  cases hu with
  |any=>exact .any _
  |same=>exact VR.kill hk (.it v o hv ho hr h) hd
 |cond v g d h h0 ih=>
  cases hu with
  |any=>exact .any _
  |same=>exact VR.kill hk (.cond v g d h h0) hd
  |cond _ _ d' hu=>exact .cond v g d' (fun e=>ih e hu (hd e)) h0
end
section
variable {P:Program} {gl:Gl} {N n0:Nat} {keep:List Nat} {Q:AQ} {fr:Fr} {st:St} {c:Code} {w:World} {μ:Mu} {T:St}
theorem Sim.wk(hs:Sim w μ st)(hw:xT st T):Sim w μ T:=by
 have hk:=hw.kill
 refine⟨fun o ob' h=>?_,fun o1 o2 ob1 ob2 blk b1 b2 h1 h2 m1 m2=>?_⟩
 ·obtain⟨ob,h1,h2⟩:=hw.obs o ob' h
  have hob:=hs.obj o ob h1
  have hsc:=hw.sc o ob' h
  cases h2 with
  |same=>
   cases ob' with
   |arr g n b es=>
    obtain⟨a1,a2,a3⟩:=(hob:kj w μ st (μ o) n b es)
    refine(⟨a1,a2,?_⟩:kj w μ T (μ o) n b es)
    rcases a3 with a3|⟨blk,base,cc,ty,em,hh,hsz,hc⟩
    ·exact .inl a3
    ·exact .inr ⟨blk,base,cc,ty,em,hh,hsz,fun i j hi hj=>let ⟨v,e,hv,h1⟩:=hc i j hi hj;⟨v,e,hv.kill hk (aP (hsc _ (List.getElem_mem hi)) j hj),h1⟩⟩
   |mps ag es=>
    obtain⟨blk,ents,clock,ez,em,hh,hsz,hc,hx⟩:=(hob:kd _ ag w μ _ (μ o) es).loc
    refine(⟨⟨blk,ents,clock,ez,em,hh,hsz,fun i hi=>?_,hx⟩⟩:kd _ ag w μ T (μ o) es)
    obtain⟨e,e1,e2,e3⟩:=hc i hi
    refine⟨e,e1,e2,?_⟩
    have rQ:=hsc _ (hx.perm.mem_iff.1 (List.getElem_mem hi))
    cases ag with
    |true=>exact VR.kill hk e3 rQ
    |false=>obtain⟨d,a,b⟩:=e3;rw[a]at rQ;exact⟨d,a,b.kill hk rQ.1⟩
   |mpi ag k es=>
    obtain⟨blk,ents,clock,ez,em,hh,hsz,hc,hx⟩:=(hob:kd _ ag w μ _ (μ o) es).loc
    refine(⟨⟨blk,ents,clock,ez,em,hh,hsz,fun i hi=>?_,hx⟩⟩:kd _ ag w μ T (μ o) es)
    obtain⟨e,e1,e2,e3⟩:=hc i hi
    refine⟨e,e1,e2,?_⟩
    have rQ:=hsc _ (hx.perm.mem_iff.1 (List.getElem_mem hi))
    cases ag with
    |true=>exact VR.kill hk e3 rQ
    |false=>obtain⟨d,a,b⟩:=e3;rw[a]at rQ;exact⟨d,a,b.kill hk rQ.1⟩
   |sit=>exact hob
   |resv=>exact hob
  |arr g n b es es' hu=>
   obtain⟨u1,u2⟩:=hu.spec
   obtain⟨a1,a2,a3⟩:=(hob:kj w μ st (μ o) n b es)
   refine(⟨by rw[u1];exact a1,fun e he=>?_,?_⟩:kj w μ T (μ o) n b es')
   ·obtain⟨i,hi,e1⟩:=List.getElem_of_mem he
    rw[←e1,(u2 i (by omega) hi).len]
    exact a2 _ (List.getElem_mem _)
   ·rcases a3 with⟨a3,a4⟩|⟨blk,base,cc,ty,em,hh,hsz,hc⟩
    ·subst a4;left;exact⟨a3,List.eq_nil_of_length_eq_zero (by simpa using u1)⟩
    ·refine .inr ⟨blk,base,cc,ty,em,hh,by rw[u1];exact hsz,fun i j hi hj=>?_⟩
     have hu':=u2 i (by omega) hi
     obtain⟨v,e,hv,h1⟩:=hc i j (by omega) (by rw[←hu'.len];exact hj)
     exact⟨v,e,VR.up hs hk (hu'.get j _ hj) hv (aP (hsc _ (List.getElem_mem hi)) j hj),h1⟩
  |mps es es' hu=>
   obtain⟨blk,ents,clock,ez,em,hh,hsz,hc,hx⟩:=(hob:kd _ false w μ _ (μ o) es).loc
   have hmap:=hu.map hx.nd
   have hperm:(ez.map (enm es')).Perm es':=by
    have:=hx.perm.map (enm es')
    rw[hmap]at this
    exact this
   refine(⟨⟨blk,ents,clock,ez.map (enm es'),em,hh,by rw[List.length_map];exact hsz,fun i hi=>?_,⟨hperm,by rw[hu.keys];exact hx.nd,hx.clk,hx.born⟩⟩⟩:kd _ false w μ T (μ o) es')
   have hi':i<ez.length:=by simpa using hi
   obtain⟨e,e1,e2,e3⟩:=hc i hi'
   have eg:(ez.map (enm es'))[i]=enm es' ez[i]:=by simp
   obtain⟨d,d',p1,p2,p3⟩:=hu.ent hx.nd (hx.perm.mem_iff.1 (List.getElem_mem hi'))
   obtain⟨d0,q1,q2⟩:=(e3:∃d,ez[i].2=[d]∧VR w μ st e.val d)
   rw[p1]at q1
   cases q1
   have rQ:=hsc _ (hperm.mem_iff.1 (List.getElem_mem hi))
   rw[eg,p2]at rQ
   refine⟨e,e1,by rw[eg];exact e2,?_⟩
   rw[eg]
   exact⟨d',p2,VR.up hs hk p3 q2 rQ.1⟩
 ·obtain⟨OO,e1,_⟩:=hw.obs o1 ob1 h1
  obtain⟨OP,e2,_⟩:=hw.obs o2 ob2 h2
  exact hs.inj o1 o2 _ _ blk b1 b2 e1 e2 m1 m2
theorem aM.sh{w':World}{m m':Option (Nat×Nat)}{a ob ob':Ob}(h:aM w w' m m' a ob)(hs:Hq ob ob'):aM w w' m m' a ob':=by
 cases ob<;>cases ob'<;>first|exact hs.elim|skip
 ·obtain⟨rfl,rfl,rfl,e⟩:=hs
  cases a<;>first|exact h|skip
  refine⟨h.1,fun hg=>?_⟩
  obtain⟨a1,a2,a3,a4,a5⟩:=h.2 hg
  exact⟨a1,a2,by rw[e];exact a3,a4,a5⟩
 ·cases a<;>first|exact h|skip
  exact⟨h.1.trans (Eq.symm hs),h.2⟩
 ·cases a<;>first|exact h|skip
  exact⟨h.1.trans hs.1.symm,h.2.1.trans hs.2.symm,h.2.2⟩
 ·cases a<;>exact h
 ·exact h
theorem Step.wk{w0:World}{μ0:Mu}{st0:St}(hl:st0.length≤T.length)(hw:xT st T)(h:Step w0 μ0 st0 w μ st):Step w0 μ0 st0 w μ T where
 size:=h.size
 os:=h.os
 output:=h.output
 tape:=h.tape
 imm:=h.imm
 own:=fun blk hb=>h.own blk (hw.kill.own hb)
 len:=hl
 keep:=fun o ob' ho h1=>by
  obtain⟨ob,e1,e2⟩:=hw.obs o ob' h1
  obtain⟨a,a1,a2⟩:=h.keep o ob ho e1
  exact⟨a,a1,a2.sh e2.sh⟩
def tM(st T:St)(fr:Fr):Fr→Prop
 | []=>True
 |(t,d)::r=>Up st T (fr.get t) d∧tM st T fr r
theorem tM.get:∀ {F:Fr},tM st T fr F→∀t,Up st T (fr.get t) (F.get t)
 | [],_,_=>.any _
 |(k,d)::r,h,t=>by
  simp only[Fr.get]
  split
  ·rename_i e;subst e;exact h.1
  ·exact h.2.get t
structure Bk(n0:Nat)(F:Fr)(T:St)(fr:Fr)(st:St):Prop where
 len:n0≤T.length
 wk:xT st T
 up:tM st T fr F
 sc:Fr.sc T.length F
theorem Ht{F:Fr}(hb:Bk n0 F T fr st)(h:AWp P gl N n0 keep c Q F T):AWp P gl N n0 keep c Q fr st:=
 fun w0 μ0 st0 hl0 a w ⟨μ,hc⟩=>h w0 μ0 st0 hl0 a w ⟨μ,hc.sim.wk hb.wk,ux hc.glob (fun _ h=>hb.wk.kill.own h),
  fun t=>VR.up hc.sim hb.wk.kill (hb.up.get t) (hc.fr t) (Fr.yH F hb.sc t),hc.size,hc.defers,Step.wk (by rw[hl0];exact hb.len) hb.wk hc.step⟩
def fin(n0:Nat)(R:D→St→Prop)(d:D)(st:St):Prop:=∃T d',n0≤T.length∧xT st T∧Up st T d d'∧D.sc T.length d'∧R d' T
@[congr] theorem Hu{n:Nat}{st st':St}{R:D→St→Prop}{d d':D}(h:d=d')(h2:st=st'):fin n R d st=fin n R d' st':=by rw[h,h2]
def JC(P:Program)(rs:List ResultVar)(n0:Nat)(R:D→St→Prop):AQ
 | .exit _,_,_=>False
 | _,fr,st=>FY P fr st rs∧fin n0 R (rsD P fr st rs) st
theorem EA{f:FuncId}{fn:Func}{c:Code}{args:List D}{R:D→St→Prop}{rs:List ResultVar}(keep:List Nat)(hf:P.funcs[f]? =some fn)(hb:fn.body=some c)(hN:fn.ntmps=N)(hr:fn.results.toList=rs)
 (hname:(fn.name != "runtime.NumGoroutine")=true) (hlen:Nat.ble args.length N=true)
 (h:iw st.length st→AWp P gl N st.length keep c (JC P rs st.length R) (qK 0 args) st):Spec P gl f args st R:=by
 subst hN hr
 have hlen:=Nat.le_of_ble_eq_true hlen
 refine⟨trivial,fun w μ vs hs hg hsz hvs=>.inl ⟨by unfold fB;rw[hf];simp[hb,hname],?_⟩⟩
 refine calls_of_wp hf hb ?_
 have hc:ke gl fn.ntmps w μ st (qK 0 args) st { tmps:=vs++Array.replicate (fn.ntmps-vs.size) undef,defers:=[] } w μ:=by
  refine⟨hs,hg,fun t=>?_,by simp;omega,rfl,Step.refl _ _ _⟩
  rw[sx]
  split
  ·rename_i ht
   have hts:t<vs.size:=by rw[hsz];omega
   have:=hvs t (by omega)
   rw[Array.getD_eq_getD_getElem?, Array.getElem?_append_left hts, ←Array.getD_eq_getD_getElem?]
   simpa using this
  ·exact .any _
 refine wp_mono (h hs.sc w μ st rfl _ w ⟨μ,hc⟩) fun e a' w' hq=>?_
 have fin:∀fr' st',JC P fn.results.toList st.length R .ret fr' st'→sq gl fn.ntmps w μ st fr' st' a' w'→a'.defers=[]∧∃v,(results fn a'.tmps).run P w'= .ok v w'∧
  ∃v' d xW μ',Ending.returned v= .returned v'∧R d xW∧Sim w' μ' xW∧Step w μ st w' μ' xW∧VR w' μ' xW v' d:=by
  rintro fr' st' ⟨ML,T,d',hle,hw,hu,hsc,hR⟩ ⟨μ',hc'⟩
  obtain⟨v,h1,h2⟩:=yI hc'.sim hc'.fr (vr _ ML)
  exact⟨hc'.defers,v,h1,v,d',T,μ',rfl,hR,hc'.sim.wk hw,Step.wk hle hw hc'.step,VR.up hc'.sim hw.kill hu h2 hsc⟩
 cases e with
 |normal=>obtain⟨fr',st',h1,h2⟩:=hq;exact fin fr' st' h1 h2
 |ret=>obtain⟨fr',st',h1,h2⟩:=hq;exact fin fr' st' h1 h2
 |exit id=>obtain⟨fr',st',h1,h2⟩:=hq;exact h1.elim
 |goto=>exact hq.elim
 |panic=>exact hq.elim
 |outgrown=>exact hq.elim
inductive UpL(st T:St):St→St→Prop
 |nil (l:St):UpL st T l []
 |dead (x:Option Ob) (l l':St) (h:UpL st T l l'):UpL st T (x::l) (none::l')
 |live (ob ob':Ob) (l l':St) (h:Bp st T ob ob') (hl:UpL st T l l'):UpL st T (some ob::l) (some ob'::l')
theorem UpL.lv{ob:Ob}{l l2:St}(h:UpL st T l l2):UpL st T (some ob::l) (some ob::l2):=.live _ _ _ _ (.same _) h
theorem Bp.s{ob:Ob}:Bp st T ob ob:=.same _
theorem Up.s{d:D}:Up st T d d:=.same _
theorem UpL.len:∀ {l l':St},UpL st T l l'→l'.length≤l.length
 | _,_,.nil _=>Nat.zero_le _
 | _,_,.dead _ _ _ h=>by simp[h.len]
 | _,_,.live _ _ _ _ _ h=>by simp[h.len]
theorem UpL.get:∀ {l l':St},UpL st T l l'→∀(j:Nat) (ob':Ob),l'[j]? =some (some ob')→∃ob,l[j]? =some (some ob)∧Bp st T ob ob'
 | _,_,.nil _,j,ob',h=>by simp at h
 | _,_,.dead _ _ _ h,0,ob',e=>by simp at e
 | _,_,.dead _ _ _ h,j+1,ob',e=>by simpa using h.get j ob' (by simpa using e)
 | _,_,.live ob ob2 _ _ h _,0,ob',e=>by simp at e;subst e;exact⟨ob,rfl,h⟩
 | _,_,.live _ _ _ _ _ h,j+1,ob',e=>by simpa using h.get j ob' (by simpa using e)
def ScL(n:Nat):St→Prop
 | []=>True
 |none::l=>ScL n l
 |some ob::l=>ob.sc n∧ScL n l
theorem ScL.get{n:Nat}:∀ {l:St},ScL n l→∀(j:Nat) (ob:Ob),l[j]? =some (some ob)→ob.sc n
 |none::l,h,0,ob,e=>by simp at e
 |some a::l,h,0,ob,e=>by simp at e;subst e;exact h.1
 |none::l,h,j+1,ob,e=>ScL.get (l:=l) h j ob (by simpa using e)
 |some a::l,h,j+1,ob,e=>ScL.get (l:=l) h.2 j ob (by simpa using e)
end
mutual
theorem D.zl{n m:Nat}(h:n≤m):∀(d:D),D.sc n d→D.sc m d
 | .agg cs,hd=>D.mz h cs hd
 | .tup cs,hd=>D.mz h cs hd
 | .fn _ a b,hd=>⟨D.mz h a hd.1,D.mz h b hd.2⟩
 | .ref _ o _ _ _,hd=>(Nat.lt_of_lt_of_le hd h:o<m)
 | .ptr o _ _ _,hd=>(Nat.lt_of_lt_of_le hd h:o<m)
 | .mp o,hd=>(Nat.lt_of_lt_of_le hd h:o<m)
 | .it o,hd=>(Nat.lt_of_lt_of_le hd h:o<m)
 | .cond _ d,hd=>fun e=>D.zl h d (hd e)
 | .any,_=>trivial
 | .bool _,_=>trivial
 | .int _ _,_=>trivial
 | .str _,_=>trivial
 | .eB,_=>trivial
 | .y5,_=>trivial
 | .jx,_=>trivial
 | .mh,_=>trivial
 | .sl _ _ _ _,_=>trivial
 | .lB _,_=>trivial
theorem D.mz{n m:Nat}(h:n≤m):∀(l:List D),D.scs n l→D.scs m l
 | [],_=>trivial
 |d::l,hd=>⟨D.zl h d hd.1,D.mz h l hd.2⟩
end
theorem Ob.zl{n m:Nat}(h:n≤m){ob:Ob}(hs:ob.sc n):ob.sc m:=by
 cases ob with
 |arr=>exact fun e he=>D.mz h _ (hs e he)
 |mps=>exact fun e he=>D.mz h _ (hs e he)
 |mpi=>exact fun e he=>D.mz h _ (hs e he)
 |sit=>trivial
 |resv=>trivial
theorem zm{d:D}(h:d.imm=true)(n:Nat):D.sc n d:=by cases d<;>first|trivial|cases h
theorem Imm.sc{rows:List (List D)}(h:Imm rows)(n:Nat):∀e∈rows,D.scs n e:=fun e he=>
 kF fun j hj=>zm (List.all_eq_true.1 (h e he) _ (List.getElem_mem _)) n
theorem Ck{s l l':St}(hs:iw s.length s)(hu:UpL (s++l) (s++l') l l')(hl:ScL (s++l').length l'):xT (s++l) (s++l'):=by
 refine⟨by simp;exact hu.len,fun o ob' h=>?_,fun o ob' h=>?_⟩
 ·rcases Nat.lt_or_ge o s.length with ho|ho
  ·rw[List.getElem?_append_left ho]at h
   exact⟨ob',by rw[List.getElem?_append_left ho];exact h,.same _⟩
  ·rw[List.getElem?_append_right ho]at h
   obtain⟨ob,h1,h2⟩:=hu.get _ _ h
   exact⟨ob,by rw[List.getElem?_append_right ho];exact h1,h2⟩
 ·rcases Nat.lt_or_ge o s.length with ho|ho
  ·rw[List.getElem?_append_left ho]at h
   exact Ob.zl (by simp) (hs o ob' h)
  ·rw[List.getElem?_append_right ho]at h
   exact hl.get _ _ h
theorem mA{s l:St}(hs:iw s.length s):xT (s++l) s:=by
 have:=Ck (l:=l) (l':=[]) hs (.nil l) trivial
 rwa[List.append_nil]at this
theorem qR{s:St}(hs:iw s.length s):xT s s:=by
 have:=mA (l:=[]) hs
 rwa[List.append_nil]at this
end Go.Am
