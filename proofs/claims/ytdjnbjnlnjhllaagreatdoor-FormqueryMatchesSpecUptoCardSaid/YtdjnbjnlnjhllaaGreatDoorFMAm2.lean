/-
 AM, part 22: the evaluator's equations, in the form in which 'simp only' runs them.
-/
import Derived.Orders
import Derived.Test.YtdjnbjnlnjhllaaGreatDoorFMAm1
set_option linter.unusedVariables false
set_option linter.unusedSimpArgs false
namespace Go.Am
open Go
def opk:Op→Nat
 | .call { callee:=.value _,.. }=>2
 | .alloc _| .box _ _| .buildSlice _ _ _| .makeMap _ _| .makeSlice _ _ _| .range _ _| .call { callee:=.builtin .append,.. }=>1
 | _=>0
section
variable {P:Program} {gl:Gl} {N n0:Nat} {ops:Array Oper} {keep:List Nat} {Q:AQ} {fr:Fr} {st:St}
theorem p8J(op:Op):(opk op=0→p5K op=none∧needs op=false)∧(opk op=1→p5K op=none∧needs op=true):=by
 cases op<;>first|exact⟨fun _=>⟨rfl,rfl⟩,fun h=>by cases h⟩|exact⟨fun h=>(by cases h),fun _=>⟨rfl,rfl⟩⟩|skip
 rename_i c
 obtain⟨callee,args,argTypes⟩:=c
 cases callee with
 |builtin b=>cases b<;>first|exact⟨fun _=>⟨rfl,rfl⟩,fun h=>by cases h⟩|exact⟨fun h=>(by cases h),fun _=>⟨rfl,rfl⟩⟩
 |value f=>exact⟨fun h=>(by cases h),fun h=>by cases h⟩
 |invoke r m=>exact⟨fun _=>⟨rfl,rfl⟩,fun h=>by cases h⟩
def u6z(want:Bool):D→Option Bool
 | .bool b=>some (b==want)
 | .cond c (.bool b)=>some (c&&(b==want))
 | _=>none
def dlt(N:Nat):Option Nat→Prop
 |some t=>t<N
 |none=>True
def gslot(ops:Array Oper)(j:Nat):Option Nat:=(ops[j]?).bind (·.dst)
def EvR(N:Nat)(dst:Option Nat)(fr:Fr)(st:St)(k:Fr→St→Prop)(r:LR):Prop:=r.ok∧dlt N dst∧k (fr.p8d dst r.d) (r.r7a st)
def EvC(P:Program)(gl:Gl)(N:Nat)(dst:Option Nat)(fr:Fr)(st:St)(k:Fr→St→Prop)(ok:Prop)(f:D)(args:List D):Prop:=
 match f with
 | .fn g first cap=>dlt N dst∧ok∧Spec P gl g (first++args++cap) st fun d st'=>k (fr.p8d dst d) st'
 | _=>False
def p5Q(G:Bool)(p:Prop):Prop:=G=true→p
def u6A(N:Nat)(G:Bool)(dst:Option Nat)(fr:Fr)(st:St)(k:Fr→St→Prop)(r:LR):Prop:=
 p5Q G r.ok∧dlt N dst∧k (fr.p8d dst (.cond G r.d)) (bif G then r.r7a st else st)
def r9a(P:Program)(gl:Gl)(G:Bool)(dst:Option Nat)(fr:Fr)(st:St)(k:Fr→St→Prop)(g:FuncId)(args:List D):Prop:=
 ∃r ups,(G=true→Spec P gl g args st fun d st'=>d=r∧st'=puts st ups)∧(G=false→puts st ups=st)∧k (fr.p8d dst (.cond G r)) (puts st ups)
def u5P(P:Program)(gl:Gl)(N:Nat)(G:Bool)(dst:Option Nat)(fr:Fr)(st:St)(k:Fr→St→Prop)(ok:Prop)(f:D)(args:List D):Prop:=
 match f with
 | .fn g first cap=>dlt N dst∧ok∧r9a P gl G dst fr st k g (first++args++cap)
 | _=>False
def Ev0(P:Program)(gl:Gl)(N:Nat)(k:Fr→St→Prop)(dst:Option Nat)(op:Op)(fr:Fr)(st:St):Nat→Prop
 |0=>EvR N dst fr st k (aop P gl true op fr (look st) 0)
 |1=>EvR N dst fr st k (aop P gl true op fr (look (st++[some .resv])) st.length)
 | _=>match op with
  | .call ⟨.value f,args,_⟩=>EvC P gl N dst fr st k (eok gl true fr f∧(∀x∈args.toList,eok gl true fr x)) (ev1 gl fr f) (args.toList.map (ev1 gl fr))
  | _=>False
def EvG(P:Program)(gl:Gl)(N:Nat)(k:Fr→St→Prop)(dst:Option Nat)(op:Op)(fr:Fr)(st:St):Nat→Option Bool→Prop
 |0,some G=>u6A N G dst fr st k (aop P gl G op fr (look st) 0)
 |2,some G=>match op with
  | .call ⟨.value f,args,_⟩=>u5P P gl N G dst fr st k (eok gl G fr f∧(∀x∈args.toList,eok gl G fr x)) (ev1 gl fr f) (args.toList.map (ev1 gl fr))
  | _=>False
 | _,_=>False
def u2D(fr:Fr)(want:Bool):Option Nat→Option Bool
 |some t=>u6z want (fr.get t)
 |none=>none
def Ev(P:Program)(gl:Gl)(N:Nat)(ops:Array Oper)(K:Fr→St→Prop):List Oper→Fr→St→Prop
 | [],fr,st=>K fr st
 |⟨dst,op,_,_,_,none⟩::l,fr,st=>Ev0 P gl N (Ev P gl N ops K l) dst op fr st (opk op)
 |⟨dst,op,_,_,_,some (j,want)⟩::l,fr,st=>EvG P gl N (Ev P gl N ops K l) dst op fr st (opk op) (u2D fr want (gslot ops j))
theorem u0d{fr:Fr}{dst:Option Nat}{op:Op}{ty:TypeId}{pos:String}{af:Array Edge}{j:Nat}{want G:Bool}(hg:u2D fr want (gslot ops j)=some G):
 guardOf ops fr ⟨dst,op,ty,pos,af,some (j,want)⟩=G∧p6j ops fr ⟨dst,op,ty,pos,af,some (j,want)⟩=True:=by
 unfold gslot at hg
 cases hj:(ops[j]?).bind (·.dst)with
 |none=>rw[hj]at hg;cases hg
 |some t=>
  rw[hj]at hg
  simp only[guardOf,p6j,hj]
  simp only[u2D]at hg
  cases hd:fr.get t<;>rw[hd]at hg<;>simp only[u6z]at hg<;>first|(cases hg;done)|skip
  ·cases hg;exact⟨rfl,rfl⟩
  ·rename_i c d
   cases d<;>simp only at hg<;>first|(cases hg;done)|skip
   cases hg;exact⟨rfl,rfl⟩
theorem p8K{op:Op}(h:opk op≠0)(h1:opk op≠1):∃f args ats,op= .call ⟨.value f,args,ats⟩:=by
 cases op<;>first|exact absurd rfl h|exact absurd rfl h1|skip
 rename_i c
 obtain⟨callee,args,argTypes⟩:=c
 cases callee with
 |builtin b=>cases b<;>first|exact absurd rfl h|exact absurd rfl h1
 |value f=>exact⟨f,args,argTypes,rfl⟩
 |invoke r m=>exact absurd rfl h
theorem r3g{K:Fr→St→Prop}:∀(l:List Oper) (fr:Fr) (st:St) (ok:Prop),ok→Ev P gl N ops K l fr st→Run P gl N ops l ⟨fr,st,ok⟩ K
 | [],fr,st,ok,hok,h=>⟨hok,h⟩
 |⟨dst,op,ty,pos,af,none⟩::l,fr,st,ok,hok,h=>by
  simp only[Ev]at h
  by_cases h0:opk op=0
  ·rw[h0]at h
   obtain⟨a,b,c⟩:=h
   obtain⟨h1,h2⟩:=(p8J op).1 h0
   simp only[Run,h1]
   have:=r3g l _ _ (ok∧r0j N ⟨dst,op,ty,pos,af,none⟩∧True∧(true=true→(aop P gl true op fr (look st) 0).ok)) ⟨hok,b,trivial,fun _=>a⟩ c
   simpa only[p2y,h2,guardOf,p6j,r9y,cond_true,Bool.false_eq_true,if_false]using this
  ·by_cases h1:opk op=1
   ·rw[h1]at h
    obtain⟨a,b,c⟩:=h
    obtain⟨h1,h2⟩:=(p8J op).2 h1
    simp only[Run,h1]
    have:=r3g l _ _ (ok∧r0j N ⟨dst,op,ty,pos,af,none⟩∧True∧(true=true→(aop P gl true op fr (look (st++[some .resv])) st.length).ok)) ⟨hok,b,trivial,fun _=>a⟩ c
    simpa only[p2y,h2,guardOf,p6j,r9y,cond_true,if_true]using this
   ·obtain⟨f,args,ats,rfl⟩:=p8K h0 h1
    simp only[opk,Ev0,EvC]at h
    simp only[Run,p5K,guardOf,p6j]
    cases hf:ev1 gl fr f<;>rw[hf]at h<;>first|exact h.elim|skip
    obtain⟨a,⟨b,c⟩,d⟩:=h
    exact⟨hok,a,trivial,b,c,d.mono fun d st' h=>r3g l _ _ True trivial h⟩
 |⟨dst,op,ty,pos,af,some (j,want)⟩::l,fr,st,ok,hok,h=>by
  simp only[Ev]at h
  cases hg:u2D fr want (gslot ops j)with
  |none=>rw[hg]at h;unfold EvG at h;split at h<;>first|exact h.elim|(rename_i e;cases e)
  |some G=>
   rw[hg]at h
   obtain⟨g1,g2⟩:=u0d (dst:=dst) (op:=op) (ty:=ty) (pos:=pos) (af:=af) hg
   by_cases h0:opk op=0
   ·rw[h0]at h
    obtain⟨a,b,c⟩:=h
    obtain⟨h1,h2⟩:=(p8J op).1 h0
    simp only[Run,h1]
    have:=r3g l _ _ (ok∧r0j N ⟨dst,op,ty,pos,af,some (j,want)⟩∧True∧(G=true→(aop P gl G op fr (look st) 0).ok)) ⟨hok,b,trivial,a⟩ c
    simpa only[p2y,h2,g1,g2,r9y,Bool.false_eq_true,if_false]using this
   ·by_cases h1:opk op=1
    ·rw[h1]at h;exact h.elim
    ·obtain⟨f,args,ats,rfl⟩:=p8K h0 h1
     simp only[opk,EvG,u5P]at h
     simp only[Run,p5K,g1,g2]
     cases hf:ev1 gl fr f<;>rw[hf]at h<;>first|exact h.elim|skip
     obtain⟨a,⟨b,c⟩,r,ups,d,d2,e⟩:=h
     exact⟨hok,a,trivial,b,c,r,ups,d,d2,r3g l _ _ True trivial e⟩
theorem er_{id:Nat}{l:List Oper}(h:Ev P gl N l.toArray (fun fr st=>Q .normal (Fr.only keep fr) st) l fr st):AWp P gl N n0 keep (.region id l.toArray false) Q fr st:=
 r8Z (r3g _ _ _ _ trivial h)
def Then(P:Program)(gl:Gl)(N n0:Nat)(keep:List Nat)(c:Code)(Q:AQ)(fr:Fr)(st:St):Prop:=AWp P gl N n0 keep c Q (Fr.only keep fr) st
theorem then_eq{c:Code}:Then P gl N n0 keep c Q fr st=AWp P gl N n0 keep c Q (Fr.only keep fr) st:=rfl
@[congr] theorem u8s{l:List Oper}{K:Fr→St→Prop}{fr fr':Fr}{st st':St}(h:fr=fr')(h2:st=st'):Ev P gl N ops K l fr st=Ev P gl N ops K l fr' st':=by rw[h,h2]
@[congr] theorem u6B{dst:Option Nat}{k:Fr→St→Prop}{r r':LR}(h:r=r'):EvR N dst fr st k r=EvR N dst fr st k r':=by rw[h]
@[congr] theorem u5Q{G:Bool}{dst:Option Nat}{k:Fr→St→Prop}{r r':LR}(h:r=r'):u6A N G dst fr st k r=u6A N G dst fr st k r':=by rw[h]
@[congr] theorem u6C{dst:Option Nat}{op:Op}{k:Fr→St→Prop}{n n':Nat}(h:n=n'):Ev0 P gl N k dst op fr st n=Ev0 P gl N k dst op fr st n':=by rw[h]
@[congr] theorem u6D{dst:Option Nat}{op:Op}{k:Fr→St→Prop}{n n':Nat}{g g':Option Bool}(h:n=n')(h2:g=g'):EvG P gl N k dst op fr st n g=EvG P gl N k dst op fr st n' g':=by rw[h,h2]
@[congr] theorem u6E{dst:Option Nat}{k:Fr→St→Prop}{a a':Prop}{f f':D}{args args':List D}(h:a=a')(h2:f=f')(h3:args=args'):EvC P gl N dst fr st k a f args=EvC P gl N dst fr st k a' f' args':=by rw[h,h2,h3]
@[congr] theorem u5R{G:Bool}{dst:Option Nat}{k:Fr→St→Prop}{a a':Prop}{f f':D}{args args':List D}(h:a=a')(h2:f=f')(h3:args=args'):u5P P gl N G dst fr st k a f args=u5P P gl N G dst fr st k a' f' args':=by rw[h,h2,h3]
@[congr] theorem u6F{c:Code}{fr fr':Fr}{st st':St}(h:fr=fr')(h2:st=st'):AWp P gl N n0 keep c Q fr st=AWp P gl N n0 keep c Q fr' st':=by rw[h,h2]
@[congr] theorem u5S{f:FuncId}{args args':List D}{st st':St}{R:D→St→Prop}(h:args=args')(h2:st=st'):Spec P gl f args st R=Spec P gl f args' st' R:=by rw[h,h2]
def rsD(P:Program)(fr:Fr)(st:St):List ResultVar→D
 | [r]=>(p7o P st fr r).d
 |rs=>.tup (rs.map fun r=>(p7o P st fr r).d)
def u5T(P:Program)(fr:Fr)(st:St):List ResultVar→Prop
 | []=>True
 |r::l=>(p7o P st fr r).ok∧u5T P fr st l
def ends(n0:Nat)(R:D→St→Prop)(d:D)(st:St):Prop:=∃s t,st=s++t∧n0≤s.length∧D.sc s.length d∧p9a s.length s∧R d s
def u8W(P:Program)(rs:List ResultVar)(n0:Nat)(R:D→St→Prop):AQ
 | .exit _,_,_=>False
 | _,fr,st=>u5T P fr st rs∧ends n0 R (rsD P fr st rs) st
theorem r7M{fr:Fr}{st:St}:∀(rs:List ResultVar),u5T P fr st rs→∀r∈rs,(p7o P st fr r).ok
 |r::l,h,x,hx=>by
  rcases List.mem_cons.1 hx with e|e
  ·subst e;exact h.1
  ·exact r7M l h.2 x e
@[congr] theorem u5U{n:Nat}{st st':St}{R:D→St→Prop}{d d':D}(h:d=d')(h2:st=st'):ends n R d st=ends n R d' st':=by rw[h,h2]
variable {dst:Option Nat} {k:Fr→St→Prop} {p:Prop} {d:D} {rd:List Nat} {o:Nat} {ob:Ob} {G:Bool} {K:Fr→St→Prop} {op:Op} {l:List Oper}
@[congr] theorem u4M{f:FuncId}{args args':List D}(h:args=args'):r9a P gl G dst fr st k f args=r9a P gl G dst fr st k f args':=by rw[h]
theorem w0h:Ev P gl N ops K [] fr st=K fr st:=rfl
theorem w0i{o:Oper}{l':List Oper}:Ev P gl N ops K (List.append (o::l) l') fr st=Ev P gl N ops K (o::List.append l l') fr st:=rfl
theorem u8X{l':List Oper}:Ev P gl N ops K (List.append [] l') fr st=Ev P gl N ops K l' fr st:=rfl
theorem u8Y{ty:TypeId}{pos:String}{af:Array Edge}:Ev P gl N ops K (⟨dst,op,ty,pos,af,none⟩::l) fr st=Ev0 P gl N (Ev P gl N ops K l) dst op fr st (opk op):=rfl
theorem u8t{ty:TypeId}{pos:String}{af:Array Edge}{j:Nat}{want:Bool}:Ev P gl N ops K (⟨dst,op,ty,pos,af,some (j,want)⟩::l) fr st=EvG P gl N (Ev P gl N ops K l) dst op fr st (opk op) (u2D fr want (gslot ops j)):=rfl
theorem w1A:Ev0 P gl N k dst op fr st 0=EvR N dst fr st k (aop P gl true op fr (look st) 0):=rfl
theorem w1B:Ev0 P gl N k dst op fr st 1=EvR N dst fr st k (aop P gl true op fr (look (st++[some .resv])) st.length):=rfl
theorem w1C{f:Operand}{args:Array Operand}{ats:Array TypeId}:Ev0 P gl N k dst (.call ⟨.value f,args,ats⟩) fr st 2=EvC P gl N dst fr st k (eok gl true fr f∧(∀x∈args.toList,eok gl true fr x)) (ev1 gl fr f) (args.toList.map (ev1 gl fr)):=rfl
theorem w1D:EvG P gl N k dst op fr st 0 (some G)=u6A N G dst fr st k (aop P gl G op fr (look st) 0):=rfl
theorem w1E{f:Operand}{args:Array Operand}{ats:Array TypeId}:EvG P gl N k dst (.call ⟨.value f,args,ats⟩) fr st 2 (some G)=u5P P gl N G dst fr st k (eok gl G fr f∧(∀x∈args.toList,eok gl G fr x)) (ev1 gl fr f) (args.toList.map (ev1 gl fr)):=rfl
theorem u6G{t:Nat}{want:Bool}:u2D fr want (some t)=u6z want (fr.get t):=rfl
theorem u6H{b want:Bool}:u6z want (.bool b)=some (b==want):=rfl
theorem u6I{c b want:Bool}:u6z want (.cond c (.bool b))=some (c&&(b==want)):=rfl
theorem w1F:EvR N dst fr st k ⟨d,p,rd,none,none⟩=(p∧dlt N dst∧k (fr.p8d dst d) st):=rfl
theorem w1G:EvR N dst fr st k ⟨d,p,rd,some (o,ob),none⟩=(p∧dlt N dst∧k (fr.p8d dst d) (st.set o (some ob))):=rfl
theorem w1H:EvR N dst fr st k ⟨d,p,rd,none,some ob⟩=(p∧dlt N dst∧k (fr.p8d dst d) (st++[some ob])):=rfl
theorem w0j:u6A N G dst fr st k ⟨d,p,rd,none,none⟩=(p5Q G p∧dlt N dst∧k (fr.p8d dst (.cond G d)) st):=by cases G<;>rfl
theorem w0k{g:FuncId}{first cap args:List D}:EvC P gl N dst fr st k p (.fn g first cap) args=(dlt N dst∧p∧Spec P gl g (first++args++cap) st fun d st'=>k (fr.p8d dst d) st'):=rfl
theorem u8Z{g:FuncId}{first cap args:List D}:u5P P gl N G dst fr st k p (.fn g first cap) args=(dlt N dst∧p∧r9a P gl G dst fr st k g (first++args++cap)):=rfl
theorem p6K{f:FuncId}{args:List D}{r:D}(h:G=true→Pure P gl f args r)(hk:k (fr.p8d dst (.cond G r)) st):
 r9a P gl G dst fr st k f args:=
 ⟨r,[],fun e=>h e st,fun _=>rfl,hk⟩
theorem u8u{t:Nat}:dlt N (some t)=(t<N):=rfl
theorem u8v:dlt N none=True:=rfl
theorem w0l{up:Option (Nat×Ob)}{nw:Option Ob}{q:Prop}:(LR.mk d p rd up nw).and q=⟨d,q∧p,rd,up,nw⟩:=rfl
variable {keep:List Nat}
theorem get_nil{t:Nat}:Fr.get [] t= .any:=rfl
theorem u2E{t k':Nat}{fr:Fr}:Fr.get ((k',d)::fr) t=if k'=t then d else Fr.get fr t:=rfl
theorem u4N{t:Nat}:Fr.put [] t d=[(t,d)]:=rfl
theorem u2F{t k':Nat}{e:D}{fr:Fr}:Fr.put ((k',e)::fr) t d=if k'=t then(k',d)::fr else(k',e)::Fr.put fr t d:=rfl
theorem u0e{t:Nat}:Fr.p8d fr (some t) d=fr.put t d:=rfl
theorem u0f:Fr.p8d fr none d=fr:=rfl
theorem u2G:Fr.only keep []=[]:=rfl
theorem u0g{t:Nat}{fr:Fr}:Fr.only keep ((t,d)::fr)=if keep.contains t then(t,d)::Fr.only keep fr else Fr.only keep fr:=rfl
theorem r1p{s t:St}{k':Nat}:look (s++t) (s.length+k')=look t k':=by
 unfold look;rw[List.getElem?_append_right (by omega)];congr 2;omega
theorem p8m{s t:St}:look (s++t) s.length=look t 0:=by
 unfold look;rw[List.getElem?_append_right (by omega)];simp
theorem r9b{x:Option Ob}{t:St}:look (x::t) 0=x:=by cases x<;>rfl
theorem r9c{x:Option Ob}{t:St}{k':Nat}:look (x::t) (k'+1)=look t k':=rfl
theorem u0h{s t:St}{k':Nat}{x:Option Ob}:(s++t).set (s.length+k') x=s++t.set k' x:=by
 rw[List.set_append_right _ _ (by omega)];congr 2;omega
theorem u2H{s t:St}{x:Option Ob}:(s++t).set s.length x=s++t.set 0 x:=by
 rw[List.set_append_right _ _ (by omega)];simp
theorem u2I{b:Bool}:D.one (.bool b)=true:=rfl
theorem u4O{k:IntKind}{n:Int}:D.one (.int k n)=true:=rfl
theorem u4P{s:Bs}:D.one (.str s)=true:=rfl
theorem u2J:D.one .p9S=true:=rfl
theorem u2K:D.one .i8S=true:=rfl
theorem u2L:D.one .p9T=true:=rfl
theorem u2M:D.one .r5t=true:=rfl
theorem u6J{f:Bool}{n b:Nat}{es:List (List D)}:D.one (.sl f n b es)=true:=rfl
theorem u6K{f:Nat}{a b:List D}:D.one (.fn f a b)=true:=rfl
theorem u2N{cs:List D}:D.one (.r1o cs)=true:=rfl
theorem u4Q{f:Bool}{o g a b:Nat}:D.one (.ref f o g a b)=true:=rfl
theorem u4R{o g i c:Nat}:D.one (.ptr o g i c)=true:=rfl
theorem u6L{o:Nat}:D.one (.mp o)=true:=rfl
theorem u6M{o:Nat}:D.one (.it o)=true:=rfl
theorem u2O{cs:List D}:D.one (.agg cs)=false:=rfl
theorem u9a{cs:List D}:mkv true cs= .agg cs:=rfl
theorem u9b{x:D}{cs:List D}:mkv false (x::cs)=x:=rfl
end
attribute [go_sem] w0i u8X w0h u8Y u8t w1A w1B w1C w1D w1E u6G u6H u6I w1F w1G w1H w0j w0k u8Z u8u u8v w0l
 then_eq opk aop ev1 ev eok strip r4H get_nil u2E u4N u2F u0e u0f u2G u0g r1p p8m r9b r9c u0h u2H
 r4K r3W r3I p9V u6q p4E r0D p1s p7G p8U r0F r0I p7i p2X p5r p9Z r2g p7j p3A r1s aEq aUn p5V p4P p6V p2d r9J u2r u2s u3M r0J
 D.plain cellsOf p6G splice p8g r5w p7h p5T p7Q p8V u2q xOk r8U r1r nz nz1 assoc i9J r0f r0G p0S p0F r5v u9a u9b u2I u4O u4P u2J u2K u2L u2M u6J u6K u2N u4Q u4R u6L u6M u2O r2V elemOf r2U keyOf strOf u2p TK.agg
 AQ.then AQ.block u8W p7o rsD u5T IntKind.signed
 eq_self true_and and_true and_self implies_true forall_const List.map_cons List.map_nil List.length_cons List.length_nil List.take_succ_cons List.take_zero List.drop_succ_cons List.drop_zero r8T List.cons_append List.nil_append List.append_nil List.all_cons List.all_nil Bool.and_self Bool.and_true Bool.true_and Bool.and_false Bool.false_and
 List.getD_cons_zero List.getD_cons_succ List.getD_nil List.set_cons_zero List.set_cons_succ List.getElem?_cons_zero List.getElem?_cons_succ ne_eq not_false_eq_true Bool.false_eq_true if_true if_false cond_true cond_false List.mem_cons List.not_mem_nil or_false forall_eq forall_eq_or_imp List.append_assoc List.length_append List.replicate_zero List.replicate_succ not_true_eq_false beq_self_eq_true Bool.not_true Bool.not_false List.contains_cons List.contains_nil Bool.or_true Bool.true_or Bool.or_false Bool.false_or
section
variable {P:Program} {gl:Gl} {fr fr':Fr} {lk lk':Look} {q:Nat} {g:Bool} {op:Op}
theorem u6N(H:∀x∈op.operands,ev gl fr x=ev gl fr' x):aop P gl g op fr lk q=aop P gl g op fr' lk q:=by
 have H1:∀x∈op.operands,ev1 gl fr x=ev1 gl fr' x:=fun x h=>by simp only[ev1,H x h]
 have H2:∀g x,x∈op.operands→eok gl g fr x=eok gl g fr' x:=fun g x h=>by simp only[eok,H x h]
 cases op with
 |pick c a b=>
  have k1:=H1 c (by simp[Op.operands])
  have k2:=H1 a (by simp[Op.operands])
  have k3:=H1 b (by simp[Op.operands])
  simp only[aop,k1,k2,k3,fun g=>H2 g c (by simp[Op.operands]),fun g=>H2 g a (by simp[Op.operands]),fun g=>H2 g b (by simp[Op.operands])]
 |build t ps=>
  have h1:(ps.toList.map fun p=>(p.1,ev1 gl fr p.2))=ps.toList.map fun p=>(p.1,ev1 gl fr' p.2):=List.map_congr_left fun p hp=>by rw[H1 p.2 (by simp only[Op.operands,List.mem_toArray,List.mem_map];exact⟨p,hp,rfl⟩)]
  have h2:(∀p∈ps.toList,eok gl g fr p.2)= ∀p∈ps.toList,eok gl g fr' p.2:=forall_congr fun p=>propext ⟨fun h hp=>by rw[←H2 g p.2 (by simp only[Op.operands,List.mem_toArray,List.mem_map];exact⟨p,hp,rfl⟩)];exact h hp,fun h hp=>by rw[H2 g p.2 (by simp only[Op.operands,List.mem_toArray,List.mem_map];exact⟨p,hp,rfl⟩)];exact h hp⟩
  simp only[aop,h1,h2]
 |buildSlice t len ps=>
  have h1:(ps.toList.map fun p=>(p.1,ev1 gl fr p.2))=ps.toList.map fun p=>(p.1,ev1 gl fr' p.2):=List.map_congr_left fun p hp=>by rw[H1 p.2 (by simp only[Op.operands,List.mem_toArray,List.mem_map];exact⟨p,hp,rfl⟩)]
  have h2:(∀p∈ps.toList,eok gl g fr p.2)= ∀p∈ps.toList,eok gl g fr' p.2:=forall_congr fun p=>propext ⟨fun h hp=>by rw[←H2 g p.2 (by simp only[Op.operands,List.mem_toArray,List.mem_map];exact⟨p,hp,rfl⟩)];exact h hp,fun h hp=>by rw[H2 g p.2 (by simp only[Op.operands,List.mem_toArray,List.mem_map];exact⟨p,hp,rfl⟩)];exact h hp⟩
  simp only[aop,h1,h2]
 |makeFunc f a b=>
  cases f with
  |func f=>
   have h1:∀c:Array Operand,(∀x∈c.toList,x∈(Op.makeFunc (.func f) a b).operands)→c.toList.map (ev1 gl fr)=c.toList.map (ev1 gl fr'):=fun c hc=>List.map_congr_left fun x hx=>H1 x (hc x hx)
   have h2:∀c:Array Operand,(∀x∈c.toList,x∈(Op.makeFunc (.func f) a b).operands)→(∀x∈c.toList,eok gl g fr x)= ∀x∈c.toList,eok gl g fr' x:=fun c hc=>
    forall_congr fun x=>propext ⟨fun h hx=>by rw[←H2 g x (hc x hx)];exact h hx,fun h hx=>by rw[H2 g x (hc x hx)];exact h hx⟩
   have ha:∀x∈a.toList,x∈(Op.makeFunc (.func f) a b).operands:=fun x hx=>by simp only[Op.operands,Array.mem_append];exact .inl (by simpa using hx)
   have hb:∀x∈b.toList,x∈(Op.makeFunc (.func f) a b).operands:=fun x hx=>by simp only[Op.operands,Array.mem_append];exact .inr (by simpa using hx)
   simp only[aop,h1 a ha,h1 b hb,h2 a ha,h2 b hb]
  | _=>rfl
 |makeMap t r=>cases r<;>rfl
 |slice t x lo hi mx=>
  have hx:=H1 x (by simp[Op.operands])
  have hx2:=H2 g x (by simp[Op.operands])
  have key:∀z:Option Operand,(∀y∈z,y∈(Op.slice t x lo hi mx).operands)→z.map (ev1 gl fr)=z.map (ev1 gl fr')∧(∀y∈z,eok gl g fr y)= ∀y∈z,eok gl g fr' y:=fun z hz=>by
   cases z with
   |none=>simp
   |some y=>have:=hz y rfl;simp[H1 y this,H2 g y this]
  obtain⟨a1,a2⟩:=key lo (fun y hy=>by cases hy;simp[Op.operands])
  obtain⟨b1,b2⟩:=key hi (fun y hy=>by cases hy;simp[Op.operands])
  obtain⟨c1,c2⟩:=key mx (fun y hy=>by cases hy;simp[Op.operands])
  simp only[aop,hx,hx2,a1,a2,b1,b2,c1,c2]
 |call c=>
  obtain⟨callee,args,ats⟩:=c
  cases callee with
  |value f=>rfl
  |invoke r m=>rfl
  |builtin b=>
   have h1:∀x∈args.toList,ev1 gl fr x=ev1 gl fr' x:=fun x hx=>H1 x (by simp only[Op.operands,Call.operands];simpa using hx)
   have h2:∀x∈args.toList,eok gl g fr x=eok gl g fr' x:=fun x hx=>H2 g x (by simp only[Op.operands,Call.operands];simpa using hx)
   simp only[aop]
   generalize args.toList=l at h1 h2
   split
   ·simp only[List.mem_cons,List.not_mem_nil,or_false,forall_eq]at h1 h2;rw[h1,h2]
   ·simp only[List.mem_cons,List.not_mem_nil,or_false,forall_eq_or_imp,forall_eq]at h1 h2;rw[h1.1,h1.2,h2.1,h2.2]
   ·simp only[List.mem_cons,List.not_mem_nil,or_false,forall_eq_or_imp,forall_eq]at h1 h2;rw[h1.1,h1.2,h2.1,h2.2]
   ·simp only[List.mem_cons,List.not_mem_nil,or_false,forall_eq_or_imp,forall_eq]at h1 h2;rw[h1.1,h1.2,h2.1,h2.2]
   ·simp only[List.mem_cons,List.not_mem_nil,or_false,forall_eq]at h1 h2;rw[h1,h2]
   ·rfl
 | _=>first|rfl|(simp only[Op.operands,List.mem_toArray,List.mem_cons,List.not_mem_nil,or_false,forall_eq_or_imp,forall_eq]at H1 H2;simp only[aop,H1,H2 g,true_or,or_true])
end
def D.top:D→Option Nat
 | .ref _ o _ _ _=>some o
 | .ptr o _ _ _=>some o
 | .mp o=>some o
 | .it o=>some o
 | _=>none
def Loc(f:Look→LR)(ds:List D):Prop:=
 ∀lk,(f lk).ok→(∀o∈(f lk).rd,(∃d∈ds,d.top=some o)∧∃ob,lk o=some ob∧ob≠ .resv)∧∀lk',(∀o∈(f lk).rd,lk' o=lk o)→f lk'=f lk
theorem i9S{r:LR}{ds:List D}(h:r.rd=[]):Loc (fun _=>r) ds:=fun _ _=>⟨fun o ho=>(by simp only at ho;rw[h]at ho;cases ho),fun _ _=>rfl⟩
theorem Loc.and{f:Look→LR}{ds:List D}(h:Loc f ds)(p:Prop):Loc (fun lk=>(f lk).and p) ds:=fun lk hok=>
 ⟨(h lk hok.2).1,fun lk' h'=>by show(f lk').and p=(f lk).and p;rw[(h lk hok.2).2 lk' h']⟩
theorem Loc.sub{f:Look→LR}{ds ds':List D}(h:Loc f ds)(hd:∀d∈ds,d∈ds'):Loc f ds':=fun lk hok=>
 ⟨fun o ho=>by obtain⟨⟨d,h1,h2⟩,h3⟩:=(h lk hok).1 o ho;exact⟨⟨d,hd d h1,h2⟩,h3⟩,(h lk hok).2⟩
section
variable {i e:TI} {d x key:D} {n q:Nat}
theorem r7N:Loc (fun lk=>r3I i lk d) [d]:=fun lk hok=>by
 cases d with
 |ptr o g k c=>
  simp only[r3I]at hok⊢
  cases h:lk o with
  |none=>rw[h]at hok;exact hok.elim
  |some ob=>
   rw[h]at hok
   cases ob with
   |arr g' n' b es=>
    simp only[List.mem_singleton,forall_eq]
    exact⟨⟨⟨_,rfl,rfl⟩,_,h,Ob.noConfusion⟩,fun lk' h'=>by rw[h',h]⟩
   | _=>exact hok.elim
 |r1o cs=>exact⟨fun o ho=>(by cases ho),fun _ _=>rfl⟩
 | _=>exact hok.elim
theorem r5J:Loc (fun lk=>p9V i lk x d) [d]:=fun lk hok=>by
 cases d with
 |ptr o g k c=>
  simp only[p9V]at hok⊢
  cases h:lk o with
  |none=>rw[h]at hok;exact hok.elim
  |some ob=>
   rw[h]at hok
   cases ob with
   |arr g' n' b es=>
    simp only[List.mem_singleton,forall_eq]
    exact⟨⟨⟨_,rfl,rfl⟩,_,h,Ob.noConfusion⟩,fun lk' h'=>by rw[h',h]⟩
   | _=>exact hok.elim
 | _=>exact hok.elim
theorem r0O{y:D}:Loc (fun lk=>p1s i e lk x y) [x]:=fun lk hok=>by
 cases y with
 |int kk m=>
  simp only[p1s]at hok⊢
  generalize i.k=ik at hok⊢
  cases ik with
  |slice e=>
   cases x with
   |ref full o g off len=>
    simp only at hok⊢
    cases h:lk o with
    |none=>rw[h]at hok;exact hok.elim
    |some ob=>
     rw[h]at hok
     cases ob with
     |arr g' n' b es=>
      simp only[List.mem_singleton,forall_eq]
      exact⟨⟨⟨_,rfl,rfl⟩,_,h,Ob.noConfusion⟩,fun lk' h'=>by rw[h',h]⟩
     | _=>exact hok.elim
   |sl full n' b es=>exact⟨fun o ho=>(by cases ho),fun _ _=>rfl⟩
   | _=>exact hok.elim
  |arr len e=>
   cases x with
   |ptr o g k c=>exact⟨fun o ho=>(by cases ho),fun _ _=>rfl⟩
   |r1o cs=>exact⟨fun o ho=>(by cases ho),fun _ _=>rfl⟩
   | _=>exact hok.elim
  | _=>exact hok.elim
 | _=>exact hok.elim
theorem r5K{lo hi mx:Option D}:Loc (fun lk=>p8U i n lk x lo hi mx) [x]:=fun lk hok=>by
 cases x with
 |ref full o g off len=>
  simp only[p8U]at hok⊢
  cases h:lk o with
  |none=>rw[h]at hok;exact hok.elim
  |some ob=>
   rw[h]at hok
   cases ob with
   |arr g' n' b es=>
    simp only[List.mem_singleton,forall_eq]
    exact⟨⟨⟨_,rfl,rfl⟩,_,h,Ob.noConfusion⟩,fun lk' h'=>by rw[h',h]⟩
   | _=>exact hok.elim
 |str s=>exact⟨fun o ho=>(by cases ho),fun _ _=>rfl⟩
 |sl full n' b es=>exact⟨fun o ho=>(by cases ho),fun _ _=>rfl⟩
 |i8S=>exact⟨fun o ho=>(by cases ho),fun _ _=>rfl⟩
 | _=>exact hok.elim
theorem r4g{ki vi:TI}{c:Bool}:Loc (fun lk=>p7j i ki vi lk c key d) [d]:=fun lk hok=>by
 cases d with
 |mp o=>
  simp only[p7j]at hok⊢
  cases h:lk o with
  |none=>rw[h]at hok;exact hok.elim
  |some ob=>
   rw[h]at hok
   cases ob<;>first|(exact hok.elim)|skip
   all_goals
    cases key<;>first|(exact hok.elim)|skip
    simp only[List.mem_singleton,forall_eq]
    exact⟨⟨⟨_,rfl,rfl⟩,_,h,Ob.noConfusion⟩,fun lk' h'=>by rw[h',h]⟩
 | _=>exact hok.elim
theorem r7O{b:Bool}:Loc (fun lk=>r2g lk b d) [d]:=fun lk hok=>by
 cases b with
 |false=>exact hok.elim
 |true=>
  cases d with
  |it o=>
   simp only[r2g]at hok⊢
   cases h:lk o with
   |none=>rw[h]at hok;exact hok.elim
   |some ob=>
    rw[h]at hok
    cases ob<;>first|(exact hok.elim)|skip
    all_goals
     simp only[List.mem_singleton,forall_eq]
     exact⟨⟨⟨_,rfl,rfl⟩,_,h,Ob.noConfusion⟩,fun lk' h'=>by rw[h',h]⟩
  | _=>exact hok.elim
theorem r0P{ki vi:TI}:Loc (fun lk=>p3A i ki vi lk key x d) [d]:=fun lk hok=>by
 cases d with
 |mp o=>
  simp only[p3A]at hok⊢
  cases h:lk o with
  |none=>rw[h]at hok;exact hok.elim
  |some ob=>
   rw[h]at hok
   cases ob<;>first|(exact hok.elim)|skip
   all_goals
    cases key<;>first|(exact hok.elim)|skip
    simp only[List.mem_singleton,forall_eq]
    exact⟨⟨⟨_,rfl,rfl⟩,_,h,Ob.noConfusion⟩,fun lk' h'=>by rw[h',h]⟩
 | _=>exact hok.elim
theorem u0i:Loc (fun lk=>r9J i lk d) [d]:=fun lk hok=>by
 cases d with
 |ref full o g off len=>
  simp only[r9J]at hok⊢
  cases h:lk o with
  |none=>rw[h]at hok;exact hok.elim
  |some ob=>
   rw[h]at hok
   cases ob with
   |arr g' n' b es=>
    simp only[List.mem_singleton,forall_eq]
    exact⟨⟨⟨_,rfl,rfl⟩,_,h,Ob.noConfusion⟩,fun lk' h'=>by rw[h',h]⟩
   | _=>exact hok.elim
 |mp o=>
  simp only[r9J]at hok⊢
  cases h:lk o with
  |none=>rw[h]at hok;exact hok.elim
  |some ob=>
   rw[h]at hok
   cases ob<;>first|(exact hok.elim)|skip
   all_goals
    simp only[List.mem_singleton,forall_eq]
    exact⟨⟨⟨_,rfl,rfl⟩,_,h,Ob.noConfusion⟩,fun lk' h'=>by rw[h',h]⟩
 |str s=>exact⟨fun o ho=>(by cases ho),fun _ _=>rfl⟩
 |sl full n' b es=>exact⟨fun o ho=>(by cases ho),fun _ _=>rfl⟩
 |i8S=>exact⟨fun o ho=>(by cases ho),fun _ _=>rfl⟩
 |r5t=>exact⟨fun o ho=>(by cases ho),fun _ _=>rfl⟩
 | _=>exact hok.elim
theorem u2P{lk:Look}{news:List (List D)}(h:p8V lk e x=some news):(∀o∈u2q x,x.top=some o∧∃ob,lk o=some ob∧ob≠ .resv)∧∀lk',(∀o∈u2q x,lk' o=lk o)→p8V lk' e x=some news:=by
 cases x with
 |ref full o g off len=>
  simp only[p8V]at h
  simp only[u2q,List.mem_singleton,forall_eq]
  cases hl:lk o with
  |none=>rw[hl]at h;cases h
  |some ob=>
   rw[hl]at h
   cases ob with
   |arr g' n' b es=>exact⟨⟨rfl,_,rfl,Ob.noConfusion⟩,fun lk' h'=>by simp only[p8V,h'];exact h⟩
   | _=>cases h
 | _=>exact⟨fun o ho=>(by cases ho),fun _ _=>h⟩
theorem r4h{xk:TK}{s:D}:Loc (fun lk=>p2d i e xk lk s x q) [s,x]:=fun lk hok=>by
 simp only[p2d]at hok⊢
 cases hn:p8V lk e x with
 |none=>rw[hn]at hok;exact hok.elim
 |some news=>
  rw[hn]at hok
  obtain⟨n1,n2⟩:=u2P hn
  have hx:∀o∈u2q x,(∃d∈ [s,x],d.top=some o)∧∃ob,lk o=some ob∧ob≠ .resv:=fun o ho=>⟨⟨x,by simp,(n1 o ho).1⟩,(n1 o ho).2⟩
  cases s with
  |i8S=>exact⟨hx,fun lk' h'=>by simp only[n2 lk' h']⟩
  |sl full n' b es=>
   cases full with
   |true=>exact⟨hx,fun lk' h'=>by simp only[n2 lk' h']⟩
   |false=>exact hok.elim
  |ref full o g off len=>
   cases full<;>
   ·simp only at hok⊢
    cases hl:lk o with
    |none=>rw[hl]at hok;exact hok.elim
    |some ob=>
     rw[hl]at hok
     cases ob with
     |arr g' n' b es=>
      simp only[List.mem_cons,forall_eq_or_imp]
      exact⟨⟨⟨⟨_,.inl rfl,rfl⟩,_,hl,Ob.noConfusion⟩,fun o ho=>by simpa using hx o ho⟩,fun lk' h'=>by simp only[n2 lk' h'.2,h'.1,hl]⟩
     | _=>exact hok.elim
  | _=>exact hok.elim
theorem r4L{parts:List (Nat×D)}:(r0F i e parts).rd=[]:=by unfold r0F;split<;>rfl
theorem r4M{f:Nat}:(r0D i f x).rd=[]:=by unfold r0D;(repeat' split)<;>rfl
theorem p9k{f:Nat}:(p4E i f x).rd=[]:=by unfold p4E;(repeat' split)<;>rfl
theorem r4N{y:D}:(p7G i e x y).rd=[]:=by unfold p7G;(repeat' split)<;>rfl
theorem u0j{o:BinOp}{y:D}:(r1s o x y).rd=[]:=by
 unfold r1s
 split
 ·split<;>first|rfl|skip
  split<;>first|rfl|skip
  split<;>first|rfl
 ·split<;>rfl
 ·rfl
theorem u4S{fl:Option (List Nat)}{b:Bool}{y:D}:(aEq i fl b x y).rd=[]:=by unfold aEq;(repeat' split)<;>rfl
theorem u4T{o:UnOp}:(aUn o x).rd=[]:=by
 unfold aUn;split
 ·rfl
 ·rfl
 ·rfl
theorem r0l{x:D}:(p4P x).rd=[]:=by unfold p4P;(repeat' split)<;>rfl
theorem r1x{i e e2:TI}{x:D}:(p5V i e e2 x).rd=[]:=by unfold p5V;(repeat' split)<;>rfl
theorem r1y{ix:Nat}:(p6V ix x).rd=[]:=by unfold p6V;(repeat' split)<;>rfl
theorem u0k{i:TI}:(u3M i x).rd=[]:=by unfold u3M;split<;>rfl
theorem u0l{y:D}:(u2r x y).rd=[]:=by unfold u2r;split<;>rfl
theorem u0m{y:D}:(u2s x y).rd=[]:=by unfold u2s;split<;>rfl
theorem r7f{y z:D}:(r0J x y z).rd=[]:=by unfold r0J;split<;>rfl
theorem r4O:(p9Z i q x).rd=[]:=by unfold p9Z;split<;>rfl
theorem r1z{b:Bool}:(p5r i e b q).rd=[]:=by unfold p5r;(repeat' split)<;>rfl
theorem p9l{y:D}:(p2X i e x y q).rd=[]:=by unfold p2X;split<;>rfl
end
theorem u0n{P:Program}{gl:Gl}{fr:Fr}{q:Nat}{g:Bool}{op:Op}:Loc (fun lk=>aop P gl g op fr lk q) (op.operands.toList.map (ev1 gl fr)):=by
 have mem:∀x,x∈op.operands.toList→ev1 gl fr x∈op.operands.toList.map (ev1 gl fr):=fun x hx=>List.mem_map.2 ⟨x,hx,rfl⟩
 have one:∀ {f:Look→LR} {x:Operand},x∈op.operands.toList→Loc f [ev1 gl fr x]→Loc f (op.operands.toList.map (ev1 gl fr)):=fun hx h=>h.sub fun d hd=>by
  rw[List.mem_singleton]at hd;subst hd;exact mem _ hx
 cases op with
 |load t a=>exact one (by simp[Op.operands]) (r7N.and _)
 |store t a x=>exact one (x:=a) (by simp[Op.operands]) (r5J.and _)
 |indexAddr t x y=>exact one (x:=x) (by simp[Op.operands]) (r0O.and _)
 |slice t x lo hi mx=>exact one (x:=x) (by simp[Op.operands]) (r5K.and _)
 |lookup t m k c=>exact one (x:=m) (by simp[Op.operands]) (r4g.and _)
 |mapUpdate t m k x=>exact one (x:=m) (by simp[Op.operands]) (r0P.and _)
 |call c=>
  obtain⟨callee,args,ats⟩:=c
  cases callee with
  |value f=>exact i9S rfl
  |invoke r m=>exact i9S rfl
  |builtin b=>
   have hmem:∀x,x∈args.toList→x∈(Op.call ⟨.builtin b,args,ats⟩).operands.toList:=fun x hx=>by simp only[Op.operands,Call.operands];simpa using hx
   simp only[aop]
   generalize hl:args.toList=l at hmem
   split
   ·exact one (hmem _ (by simp)) (u0i.and _)
   ·rename_i s x t u _
    exact(r4h.and _).sub fun d hd=>by
     simp only[List.mem_cons,List.not_mem_nil,or_false]at hd
     rcases hd with rfl|rfl
     ·exact mem _ (hmem _ (by simp))
     ·exact mem _ (hmem _ (by simp))
   ·exact(i9S u0l).and _
   ·exact(i9S u0m).and _
   ·exact(i9S u0k).and _
   ·exact i9S rfl
 |pick c a b=>exact(i9S r7f).and _
 |box t x=>exact(i9S rfl).and _
 |build t ps=>exact(i9S r4L).and _
 |buildSlice t len ps=>
  simp only[aop]
  cases gl.imm t<;>exact(i9S rfl).and _
 |binOp o t x y u=>
  simp only[aop]
  split<;>first|exact(i9S u4S).and _|exact(i9S u0j).and _
 |unOp o t x=>exact(i9S u4T).and _
 |nilCheck x=>exact(i9S r0l).and _
 |convert s t x=>exact(i9S r1x).and _
 |makeFunc f a b=>cases f<;>exact i9S rfl
 |makeMap t r=>cases r with
  |none=>exact i9S r1z
  |some r=>exact i9S rfl
 |makeSlice t l c=>exact(i9S p9l).and _
 |range t x=>exact(i9S r4O).and _
 |next x b=>exact one (x:=x) (by simp[Op.operands]) (r7O.and _)
 |fieldAddr t x f=>exact(i9S p9k).and _
 |field t x f=>exact(i9S r4M).and _
 |index t x y=>exact(i9S r4N).and _
 |extract x j=>exact(i9S r1y).and _
 | _=>exact i9S rfl
section
variable {P:Program} {gl:Gl} {fr fr':Fr} {q:Nat} {g:Bool} {op:Op} {lk:Look}
theorem p9m{f:Look→LR}{d:D}(h:Loc f [d]){o:Nat}(hok:(f lk).ok)(ho:o∈(f lk).rd):d.top=some o:=by
 obtain⟨⟨e,h1,h2⟩,_⟩:=(h lk hok).1 o ho
 rw[List.mem_singleton]at h1;subst h1;exact h2
theorem u4U{o:Nat}(hok:(aop P gl g op fr lk q).ok)(ho:o∈(aop P gl g op fr lk q).rd):∃x∈op.operands.toList,eok gl g fr x∧(ev1 gl fr x).top=some o:=by
 have none:∀ {r:LR},r.rd=[]→o∈r.rd→∃x∈op.operands.toList,eok gl g fr x∧(ev1 gl fr x).top=some o:=fun h ho=>by rw[h]at ho;cases ho
 cases op with
 |load t a=>exact⟨a,by simp[Op.operands],hok.1.1,p9m r7N hok.2 ho⟩
 |store t a x=>exact⟨a,by simp[Op.operands],hok.1.1,p9m (r5J) hok.2 ho⟩
 |indexAddr t x y=>exact⟨x,by simp[Op.operands],hok.1.1,p9m (r0O) hok.2 ho⟩
 |slice t x lo hi mx=>exact⟨x,by simp[Op.operands],hok.1.1,p9m (r5K) hok.2 ho⟩
 |lookup t m k c=>exact⟨m,by simp[Op.operands],hok.1.1,p9m (r4g) hok.2 ho⟩
 |mapUpdate t m k x=>exact⟨m,by simp[Op.operands],hok.1.1,p9m (r0P) hok.2 ho⟩
 |next x b=>exact⟨x,by simp[Op.operands],hok.1,p9m (r7O) hok.2 ho⟩
 |range t x=>exact none r4O ho
 |call c=>
  obtain⟨callee,args,ats⟩:=c
  cases callee with
  |value f=>cases ho
  |invoke r m=>cases ho
  |builtin b=>
   have hmem:∀x,x∈args.toList→x∈(Op.call ⟨.builtin b,args,ats⟩).operands.toList:=fun x hx=>by simp only[Op.operands,Call.operands];simpa using hx
   simp only[aop]at hok ho
   generalize args.toList=l at hmem hok ho
   revert hok ho
   split<;>intro hok ho
   ·exact⟨_,hmem _ (by simp),hok.1,p9m u0i hok.2 ho⟩
   ·obtain⟨⟨d,h1,h2⟩,_⟩:=(r4h _ hok.2).1 o ho
    simp only[List.mem_cons,List.not_mem_nil,or_false]at h1
    rcases h1 with rfl|rfl
    ·exact⟨_,hmem _ (by simp),hok.1.1,h2⟩
    ·exact⟨_,hmem _ (by simp),hok.1.2,h2⟩
   ·exact none u0l ho
   ·exact none u0m ho
   ·exact none u0k ho
   ·cases ho
 |pick c a b=>exact none r7f ho
 |box t x=>cases ho
 |build t ps=>exact none r4L ho
 |buildSlice t len ps=>revert ho;simp only[aop];cases gl.imm t<;>(intro ho;cases ho)
 |binOp o' t x y u=>
  simp only[aop]at ho
  split at ho<;>first|exact none u4S ho|exact none u0j ho
 |unOp o t x=>exact none u4T ho
 |nilCheck x=>exact none r0l ho
 |convert s t x=>exact none r1x ho
 |makeFunc f a b=>cases f<;>cases ho
 |makeMap t r=>cases r with
  |none=>exact none r1z ho
  |some r=>cases ho
 |makeSlice t l c=>exact none p9l ho
 |fieldAddr t x f=>exact none p9k ho
 |field t x f=>exact none r4M ho
 |index t x y=>exact none r4N ho
 |extract x j=>exact none r1y ho
 | _=>cases ho
theorem VR.u2Q{w:World}{μ:Mu}{st:St}{v:Value}{d:D}{o:Nat}(h:VR w μ st v d)(ht:d.top=some o):st[o]? ≠some (some .resv):=by
 cases h with
 |tr h=>cases h<;>cases ht
 |ref=>cases ht;assumption
 |ptr=>cases ht;assumption
 |mp=>cases ht;assumption
 |it=>cases ht;assumption
 | _=>cases ht
def r7P(r:LR):Prop:=∀o ob,r.up=some (o,ob)→o∈r.rd
theorem p1D{r:LR}(h:r.up=none):r7P r:=fun o ob e=>by rw[h]at e;cases e
theorem p1H{r:LR}{p:Prop}(h:r.still):r7P (r.and p):=p1D (by simp only[LR.and];exact h.1)
theorem r2q:r7P (aop P gl g op fr lk q):=by
 cases op with
 |store t a x=>
  refine fun o ob e=>?_
  simp only[aop,LR.and,p9V]at e⊢
  revert e
  cases ev1 gl fr a<;>try (intro e;cases e;done)
  rename_i o' g' k c
  simp only
  cases lk o' with
  |none=>intro e;cases e
  |some ob'=>cases ob'<;>(intro e;cases e)<;>simp
 |mapUpdate t m k x=>
  refine fun o ob e=>?_
  simp only[aop,LR.and,p3A]at e⊢
  revert e
  cases ev1 gl fr m<;>try (intro e;cases e;done)
  rename_i o'
  simp only
  cases lk o' with
  |none=>intro e;cases e
  |some ob'=>cases ob'<;>try (intro e;cases e;done)
             all_goals (cases ev1 gl fr k<;>(intro e;cases e)<;>simp)
 |next x b=>
  refine fun o ob e=>?_
  simp only[aop,LR.and]at e⊢
  cases b with
  |false=>cases e
  |true=>
   revert e
   cases ev1 gl fr x<;>try (intro e;cases e;done)
   simp only[r2g]
   rename_i o'
   cases lk o' with
   |none=>intro e;cases e
   |some ob'=>cases ob'<;>(intro e;cases e)<;>simp
 |range t x=>exact p1D (r3a _ _ _)
 |call c=>
  obtain⟨callee,args,ats⟩:=c
  cases callee with
  |value f=>exact p1D rfl
  |invoke r m=>exact p1D rfl
  |builtin b=>
   simp only[aop]
   generalize args.toList=l
   split
   ·refine p1D ?_
    simp only[LR.and]
    exact(p8k _ _ _).1
   ·refine fun o ob e=>?_
    rename_i s x t u _
    simp only[LR.and,p2d]at e⊢
    revert e
    cases p8V lk (i8L P (elemOf (i8L P t))) (ev1 gl fr x)with
    |none=>intro e;cases e
    |some news=>
     simp only
     cases ev1 gl fr s<;>try (intro e;cases e;done)
     ·rename_i full _ _ _;cases full<;>(intro e;cases e)
     ·rename_i full o' _ _ _
      cases full<;>simp only
      ·cases lk o' with
       |none=>intro e;cases e
       |some ob'=>cases ob'<;>(intro e;cases e)<;>simp
      ·cases lk o' with
       |none=>intro e;cases e
       |some ob'=>cases ob'<;>(intro e;cases e)
   ·refine p1D ?_
    simp only[LR.and];exact(p9G _ _).1
   ·refine p1D ?_
    simp only[LR.and];exact(p9H _ _).1
   ·refine p1D ?_
    simp only[LR.and];exact(p8l _ _).1
   ·exact p1D rfl
 |pick c a b=>exact p1H (p9i _ _ _)
 |box t x=>exact p1D rfl
 |build t ps=>exact p1H (p9h _ _ _)
 |buildSlice t len ps=>simp only[aop];cases gl.imm t<;>exact p1D rfl
 |load t a=>exact p1H (p8I _ _ _)
 |binOp o t x y u=>
  simp only[aop]
  split<;>first|exact p1H (r2Y _ _ _ _ _)|exact p1H (r1v _ _ _)
 |unOp o t x=>exact p1H (r2Z _ _)
 |nilCheck x=>exact p1H (p7l _)
 |convert s t x=>exact p1H (p7T _ _ _ _)
 |makeFunc f a b=>cases f<;>exact p1D rfl
 |makeMap t r=>cases r with
  |none=>simp only[aop,p5r];(repeat' split)<;>exact p1D rfl
  |some r=>exact p1D rfl
 |makeSlice t l c=>simp only[aop,p2X];split<;>exact p1D rfl
 |slice t x lo hi mx=>exact p1H (p7I _ _ _ _ _ _ _)
 |fieldAddr t x f=>exact p1H (p6J _ _ _)
 |field t x f=>exact p1H (p9f _ _ _)
 |indexAddr t x y=>exact p1H (p5t _ _ _ _ _)
 |index t x y=>exact p1H (p9g _ _ _ _)
 |lookup t m k c=>exact p1H (p6W _ _ _ _ _ _ _)
 |extract x j=>exact p1H (p7U _ _)
 | _=>exact p1D rfl
end
theorem r7Q{o:Nat}:∀ {m:List (Nat×Ob)} {s:St},o∉m.map (·.1)→(puts s m)[o]? =s[o]?
 | [],_,_=>rfl
 |(a,x)::m,s,h=>by
  simp only[List.map_cons,List.mem_cons,not_or]at h
  simp only[puts]
  rw[List.getElem?_set,if_neg (fun e=>h.1 e.symm),r7Q h.2]
theorem r4i{o:Nat}:∀ {m:List (Nat×Ob)} {s s':St},s[o]? =s'[o]? →(puts s m)[o]? =(puts s' m)[o]?
 | [],_,_,h=>h
 |(a,x)::m,s,s',h=>by
  have ih:=r4i (m:=m) h
  simp only[puts]
  have sg:∀(l:St) (v:Option Ob),(l.set a v)[o]? =if a=o then(l[o]?).map (fun _=>v)else l[o]? :=fun l v=>by
   rw[List.getElem?_set]
   by_cases h:a=o
   ·subst h
    rw[if_pos rfl,if_pos rfl]
    by_cases hl:a<l.length
    ·rw[if_pos hl,List.getElem?_eq_getElem hl];rfl
    ·rw[if_neg hl,List.getElem?_eq_none (by simpa using hl)];rfl
   ·rw[if_neg h,if_neg h]
  rw[sg,sg,ih]
def r4P(P:Program)(G:Gl)(f:FuncId)(args:List D)(rd:List Nat)(st0:St)(r:D)(ups:List (Nat×Ob)):Prop:=
 ∀st,(∀o∈rd,look st o=look st0 o)→Spec P G f args st fun d st'=>d=r∧st'=puts st ups
theorem Pure.loc{P:Program}{G:Gl}{f:FuncId}{args:List D}{st0:St}{r:D}(h:Pure P G f args r):r4P P G f args [] st0 r []:=fun st _=>h st
structure Row where
 o:Oper
 q:Nat
 G:Bool
 r:LR
 ups:List (Nat×Ob)
def Row.d(x:Row):D:=match x.o.guard with
 |none=>x.r.d
 |some _=>.cond x.G x.r.d
def Row.fr(x:Row)(fr:Fr):Fr:=fr.p8d x.o.dst x.d
def Row.st(x:Row)(st:St):St:=bif x.G then puts (x.r.app x.q st) x.ups else st
def Row.rd(x:Row):List Nat:=bif x.G then x.r.rd else []
def Row.wr(x:Row):List Nat:=bif x.G then(match x.r.up with|some (o,_)=>[o]|none=>[])++x.ups.map (·.1)else []
structure Fits(P:Program)(gl:Gl)(N:Nat)(ops:Array Oper)(b:Nat)(x:Row)(fr:Fr)(st:St):Prop where
 dst:r0j N x.o
 gok:p6j ops fr x.o
 hG:x.G=guardOf ops fr x.o
 r7P:r7P x.r∧∀p∈x.ups,p.1∈x.r.rd
 does:x.G=true→(p5K x.o.op=none∧x.r=aop P gl true x.o.op fr (look st) x.q∧x.r.ok∧(needs x.o.op=true→st[x.q]? =some (some .resv))∧x.ups=[])∨
  ∃f xs g first cap d rd,p5K x.o.op=some (f,xs)∧eok gl true fr f∧(∀y∈xs,eok gl true fr y)∧ev1 gl fr f= .fn g first cap∧r4P P gl g (first++xs.map (ev1 gl fr)++cap) rd st d x.ups∧
   x.r=⟨d,True,rd,none,none⟩∧∀o∈rd,o<b∧∃ob,st[o]? =some (some ob)∧ob≠ .resv
 makes:x.r.new≠none→needs x.o.op=true
section
variable {P:Program} {gl:Gl} {N:Nat} {ops:Array Oper} {w0:World} {μ0:Mu} {st0:St} {x:Row} {b:Nat} {fr fr':Fr} {st st':St} {Q:Exit→Act→World→Prop}
theorem p9J{o:Nat}{ob:Ob}:look st o=some ob↔st[o]? =some (some ob):=by
 unfold look
 cases h:st[o]? with
 |none=>simp
 |some y=>cases y<;>simp
theorem r7R{a:Act}{w:World}{μ:Mu}{o:Oper}{q:Nat}(h:r0B gl N w0 μ0 st0 fr st a w μ)(hok:(aop P gl true o.op fr (look st) q).ok)(hd:r0j N o)(hq:needs o.op=true→st[q]? =some (some .resv)):
 ∃nx v w' μ',(execOp a.eval o).run P w= .ok nx w'∧(nx= .value v∨(nx= .skip∧v=undef))∧
  r0B gl N w0 μ0 st0 (fr.p8d o.dst (aop P gl true o.op fr (look st) q).d) ((aop P gl true o.op fr (look st) q).app q st) (a.put o.dst v) w' μ':=by
 obtain⟨nx,v,w',μ',h1,h2,h3,h4,h5⟩:=r3c (P:=P) (G:=gl) (q:=q) h.sim h.fr h.glob hq hok
 refine⟨nx,v,w',μ',h1,h2,h3,h.glob.step h4,?_,?_,?_,h.step.trans h4⟩
 ·cases r1V:o.dst with
  |none=>exact h.fr.step h4
  |some t=>
   have ht:t<N:=by simpa[r0j,r1V]using hd
   exact(h.fr.step h4).put h5 (by rw[h.size];exact ht)
 ·cases r1V:o.dst with
  |none=>exact h.size
  |some t=>simp[Act.put,h.size]
 ·cases r1V:o.dst with
  |none=>exact h.defers
  |some t=>simp[Act.put,h.defers]
theorem u2R{a:Act}{w:World}{μ:Mu}{K:Act→World→Prop}(hc:r0B gl N w0 μ0 st0 fr st a w μ)(h:Fits P gl N ops b x fr st)
 (hK:∀a' w' μ',r0B gl N w0 μ0 st0 (x.fr fr) (x.st st) a' w' μ'→K a' w'):
 if Region.wanted x.o (yielded ops a.tmps)then x.o.wp P a w K Q∨(x.o.asks P a w∧LetsOut Q)else K (a.put x.o.dst undef) w:=by
 rw[r0k hc.fr h.gok, ←h.hG]
 cases hG:x.G with
 |false=>
  simp only[Bool.false_eq_true,if_false]
  have hgs:∃p,x.o.guard=some p:=by
   cases hgd:x.o.guard with
   |none=>have:=h.hG;simp[guardOf,hgd,hG]at this
   |some p=>exact⟨p,rfl⟩
  obtain⟨p,hgs⟩:=hgs
  refine hK _ _ μ ?_
  simp only[Row.fr,Row.st,Row.d,hgs,hG,cond_false]
  exact r3d hc h.dst _
 |true=>
  simp only[if_true]
  left
  have wrap:∀ {d:D} {a' w' μ' st'} {v:Value},r0B gl N w0 μ0 st0 (fr.p8d x.o.dst d) st' (a.put x.o.dst v) w' μ'→x.r.d=d→a'=a.put x.o.dst v→r0B gl N w0 μ0 st0 (x.fr fr) st' a' w' μ':=by
   intro d a' w' μ' st' v hc' hd ha
   subst ha;subst hd
   have:=r3e hc' true rfl
   unfold r9y at this
   simp only[Row.fr,Row.d]
   split at this
   ·rename_i e;rw[e];exact this
   ·rename_i e;rw[e];simp only[hG];exact this
  rcases h.does hG with⟨p9j,hr,hok,hq,u4V⟩|⟨f,xs,g,first,cap,d,rd,p9j,hf,hx,hev,hp,hr,hrd⟩
  ·rw[hr]at hok
   obtain⟨nx,v,w',μ',h1,h2,h3⟩:=r7R (P:=P) (o:=x.o) hc hok h.dst hq
   unfold Oper.wp
   rw[h1]
   have next:K (a.put x.o.dst v) w':=by
    refine hK _ _ μ' ?_
    simp only[Row.st,hG,cond_true,u4V,puts]
    rw[←hr]at h3
    exact wrap h3 rfl rfl
   rcases h2 with rfl|⟨rfl,rfl⟩<;>exact next
  ·obtain⟨_,hspec⟩:=hp st fun _ _=>rfl
   obtain⟨vs,h1,h2,h3⟩:=r4J (P:=P) p9j hc.fr hc.glob hf hx hev
   unfold Oper.wp
   rw[h1]
   refine(hspec w μ vs hc.sim hc.glob h2 h3).upon fun e w' ⟨v,d',st',μ',he,⟨hd1,hd2⟩,hs',r7K,hv⟩=>?_
   subst he;subst hd1;subst hd2
   refine hK _ _ μ' ?_
   have hst:x.st st=puts st x.ups:=by simp[Row.st,hG,hr,LR.app]
   rw[hst]
   refine wrap (d:=d') ?_ (by rw[hr]) rfl
   refine⟨hs',hc.glob.step r7K,?_,?_,?_,hc.step.trans r7K⟩
   ·cases r1V:x.o.dst with
    |none=>exact hc.fr.step r7K
    |some t=>
     have ht:t<N:=by simpa[r0j,r1V]using h.dst
     exact(hc.fr.step r7K).put hv (by rw[hc.size];exact ht)
   ·cases r1V:x.o.dst with
    |none=>exact hc.size
    |some t=>simp[Act.put,hc.size]
   ·cases r1V:x.o.dst with
    |none=>exact hc.defers
    |some t=>simp[Act.put,hc.defers]
theorem r7S(hs:∀t∈x.o.looksAt ops,fr'.get t=fr.get t):∀y∈x.o.op.operands,ev gl fr y=ev gl fr' y:=by
 intro y hy
 cases y with
 |tmp t=>exact(hs t (by simp only[Oper.looksAt,List.mem_append,List.mem_filterMap];exact .inl ⟨.tmp t,by simpa using hy,rfl⟩)).symm
 | _=>rfl
theorem r7g(hs:∀t∈x.o.looksAt ops,fr'.get t=fr.get t):guardOf ops fr' x.o=guardOf ops fr x.o∧(p6j ops fr' x.o↔p6j ops fr x.o):=by
 unfold guardOf p6j
 cases hg:x.o.guard with
 |none=>exact⟨rfl,Iff.rfl⟩
 |some p=>
  obtain⟨j,want⟩:=p
  simp only
  cases hd:(ops[j]?).bind (·.dst)with
  |none=>exact⟨rfl,Iff.rfl⟩
  |some t=>
   have:=hs t (by simp only[Oper.looksAt,hg,hd,List.mem_append];exact .inr (by simp))
   simp only[this]
   exact⟨trivial,trivial⟩
theorem r4Q{o:Op}{f:Operand}{xs:List Operand}(h:p5K o=some (f,xs)):f∈o.operands∧∀y∈xs,y∈o.operands:=by
 cases o<;>simp only[p5K]at h<;>first|(cases h;done)|skip
 rename_i c
 obtain⟨callee,args,ats⟩:=c
 cases callee<;>simp only at h<;>first|(cases h;done)|skip
 cases h
 exact⟨by simp[Op.operands,Call.operands],fun y hy=>by simp only[Op.operands,Call.operands,Array.mem_append];exact .inr (by simpa using hy)⟩
theorem u0o{a:Act}{w:World}{μ:Mu}(hc:r0B gl N w0 μ0 st0 fr' st' a w μ)(h:Fits P gl N ops b x fr st)(hs:∀t∈x.o.looksAt ops,fr'.get t=fr.get t):
 ∀o∈x.rd,st'[o]? ≠some (some .resv)∨o<b:=by
 intro o ho
 unfold Row.rd at ho
 cases hG:x.G with
 |false=>rw[hG]at ho;cases ho
 |true=>
  rw[hG]at ho
  rcases h.does hG with⟨p9j,hr,hok,hq,u4V⟩|⟨f,xs,g,first,cap,d,rd,p9j,hf,hx,hev,hp,hr,hrd⟩
  ·rw[hr]at hok
   simp only[cond_true,hr]at ho
   obtain⟨y,h1,h2,h3⟩:=u4U hok ho
   have e:=r7S (gl:=gl) hs y (by simpa using h1)
   have h2':eok gl true fr' y:=by unfold eok at h2 ⊢; rw[←e];exact h2
   have h3':(ev1 gl fr' y).top=some o:=by unfold ev1 at h3 ⊢; rw[←e];exact h3
   exact .inl ((p8j hc.fr hc.glob h2').u2Q h3')
  ·simp only[hr,cond_true]at ho
   exact .inr (hrd o ho).1
theorem r1A(h:Fits P gl N ops b x fr st):∀o∈x.rd,∃ob,st[o]? =some (some ob)∧ob≠ .resv:=by
 intro o ho
 unfold Row.rd at ho
 cases hG:x.G with
 |false=>rw[hG]at ho;cases ho
 |true=>
  rw[hG]at ho
  rcases h.does hG with⟨p9j,hr,hok,hq,u4V⟩|⟨f,xs,g,first,cap,d,rd,p9j,hf,hx,hev,hp,hr,hrd⟩
  ·rw[hr]at hok
   simp only[cond_true,hr]at ho
   obtain⟨_,ob,h1,h2⟩:=(u0n (look st) hok).1 o ho
   exact⟨ob,p9J.1 h1,h2⟩
  ·simp only[hr,cond_true]at ho
   exact(hrd o ho).2
theorem r9d(h:Fits P gl N ops b x fr st)(hs:∀t∈x.o.looksAt ops,fr'.get t=fr.get t)(hm:∀o∈x.rd,look st' o=look st o)
 (hq:needs x.o.op=true→st'[x.q]? =some (some .resv)):Fits P gl N ops b x fr' st':=by
 obtain⟨g1,g2⟩:=r7g hs
 refine⟨h.dst,g2.2 h.gok,by rw[g1];exact h.hG,h.r7P,fun hG=>?_,h.makes⟩
 have hev:=r7S (gl:=gl) hs
 rcases h.does hG with⟨p9j,hr,hok,_,u4V⟩|⟨f,xs,g,first,cap,d,rd,p9j,hf,hx,he,hp,hr,hrd⟩
 ·refine .inl ⟨p9j,?_,hok,hq,u4V⟩
  rw[hr]at hok
  have:x.rd=(aop P gl true x.o.op fr (look st) x.q).rd:=by simp[Row.rd,hG, ←hr]
  rw[this]at hm
  have k:=(u0n (look st) hok).2 (look st') hm
  rw[hr]
  exact k.symm.trans (u6N hev)
 ·obtain⟨m1,m2⟩:=r4Q p9j
  have e1:∀y∈x.o.op.operands,ev1 gl fr' y=ev1 gl fr y:=fun y hy=>by unfold ev1;rw[hev y hy]
  have e2:∀y∈x.o.op.operands,eok gl true fr y→eok gl true fr' y:=fun y hy=>by unfold eok;rw[hev y hy];exact id
  have hm':∀o∈rd,look st' o=look st o:=fun o ho=>hm o (by simp[Row.rd,hG,hr];exact ho)
  refine .inr ⟨f,xs,g,first,cap,d,rd,p9j,e2 f m1 hf,fun y hy=>e2 y (m2 y hy) (hx y hy),by rw[e1 f m1];exact he,?_,hr,fun o ho=>⟨(hrd o ho).1,?_⟩⟩
  ·rw[List.map_congr_left fun y hy=>e1 y (m2 y hy)]
   exact fun st2 h2=>hp st2 fun o ho=>(h2 o ho).trans (hm' o ho)
  ·obtain⟨ob,h1,h2⟩:=(hrd o ho).2
   exact⟨ob,p9J.1 ((hm' o ho).trans (p9J.2 h1)),h2⟩
end
def Row.ap(x:Row)(s:Fr×St):Fr×St:=(x.fr s.1,x.st s.2)
def Row.tch(x:Row):List Nat:=x.wr++(bif x.G&&x.r.new.isSome then [x.q]else [])
theorem r1B{α:Type}(l:List α)(i o:Nat)(v:α):(l.set i v)[o]? =if i=o then(l[o]?).map (fun _=>v)else l[o]? :=by
 rw[List.getElem?_set]
 by_cases h:i=o
 ·subst h
  rw[if_pos rfl,if_pos rfl]
  by_cases hl:i<l.length
  ·rw[if_pos hl,List.getElem?_eq_getElem hl];rfl
  ·rw[if_neg hl,List.getElem?_eq_none (by simpa using hl)];rfl
 ·rw[if_neg h,if_neg h]
theorem r2r{x:Row}{st st':St}{o:Nat}(h:st[o]? =st'[o]?):(x.st st)[o]? =(x.st st')[o]? :=by
 unfold Row.st
 cases x.G with
 |false=>exact h
 |true=>
  simp only[cond_true,LR.app]
  refine r4i ?_
  cases x.r.up with
  |none=>cases x.r.new with
   |none=>exact h
   |some ob=>simp only[r1B,h]
  |some p=>cases x.r.new with
   |none=>simp only[r1B,h]
   |some ob=>simp only[r1B,h]
theorem p9n{x:Row}{st:St}{o:Nat}(h:o∉x.tch):(x.st st)[o]? =st[o]? :=by
 unfold Row.st
 unfold Row.tch Row.wr at h
 cases hG:x.G with
 |false=>rfl
 |true=>
  rw[hG]at h
  simp only[cond_true,LR.app,List.mem_append,not_or]at h⊢
  obtain⟨⟨h,u4V⟩,h'⟩:=h
  rw[r7Q u4V]
  have h:o∉ (match x.r.up with|some (o,_)=>[o]|none=>[])++(bif true&&x.r.new.isSome then [x.q]else []):=by
   simp only[List.mem_append,not_or];exact⟨h,h'⟩
  cases hu:x.r.up with
  |none=>cases hn:x.r.new with
   |none=>rfl
   |some ob=>
    simp[hu,hn]at h
    simp only[r1B,if_neg (Ne.symm h)]
  |some p=>cases hn:x.r.new with
   |none=>
    simp[hu,hn]at h
    simp only[r1B,if_neg (Ne.symm h)]
   |some ob=>
    simp[hu,hn]at h
    simp only[r1B,if_neg (Ne.symm h.1),if_neg (Ne.symm h.2)]
theorem r1C{x:Row}{fr:Fr}{t:Nat}(h:x.o.dst≠some t):(x.fr fr).get t=fr.get t:=by
 unfold Row.fr
 cases hd:x.o.dst with
 |none=>rfl
 |some u=>
  simp only[Fr.p8d,Fr.r2W]
  rw[if_neg]
  intro e;exact h (by rw[hd,e])
theorem r2s{x:Row}{fr fr':Fr}{t:Nat}(h:fr.get t=fr'.get t):(x.fr fr).get t=(x.fr fr').get t:=by
 unfold Row.fr
 cases hd:x.o.dst with
 |none=>exact h
 |some u=>simp only[Fr.p8d,Fr.r2W,h]
def Eqv(s s':Fr×St):Prop:=(∀t,s.1.get t=s'.1.get t)∧∀o:Nat,s.2[o]? =s'.2[o]?
theorem Eqv.refl(s:Fr×St):Eqv s s:=⟨fun _=>rfl,fun _=>rfl⟩
theorem Eqv.trans{a b c:Fr×St}(h:Eqv a b)(h':Eqv b c):Eqv a c:=⟨fun t=>(h.1 t).trans (h'.1 t),fun o=>(h.2 o).trans (h'.2 o)⟩
theorem Eqv.symm{a b:Fr×St}(h:Eqv a b):Eqv b a:=⟨fun t=>(h.1 t).symm,fun o=>(h.2 o).symm⟩
theorem Eqv.ap{s s':Fr×St}(h:Eqv s s')(x:Row):Eqv (x.ap s) (x.ap s'):=⟨fun t=>r2s (h.1 t),fun o=>r2r (h.2 o)⟩
theorem u4W{x y:Row}(hd:∀t,x.o.dst=some t→y.o.dst≠some t)(hm:∀o∈x.tch,o∉y.tch)(s:Fr×St):Eqv (x.ap (y.ap s)) (y.ap (x.ap s)):=by
 refine⟨fun t=>?_,fun o=>?_⟩
 ·simp only[Row.ap]
  by_cases h:x.o.dst=some t
  ·rw[r1C (x:=y) (hd t h)]
   exact r2s (r1C (hd t h))
  ·rw[r1C (x:=x) h]
   exact r2s (r1C h).symm
 ·simp only[Row.ap]
  by_cases h:o∈x.tch
  ·rw[p9n (x:=y) (hm o h)]
   exact r2r (p9n (hm o h))
  ·rw[p9n (x:=x) h]
   exact r2r (p9n h).symm
def full:List Row→Fr×St→Fr×St
 | [],s=>s
 |x::l,s=>full l (x.ap s)
def sel(L:Nat→Bool):Nat→List Row→Fr×St→Fr×St
 | _,[],s=>s
 |i,x::l,s=>sel L (i+1) l (bif L i then x.ap s else s)
theorem r7h{L:Nat→Bool}:∀(l:List Row) (i:Nat) (s s':Fr×St),Eqv s s'→Eqv (sel L i l s) (sel L i l s')
 | [],_,_,_,h=>h
 |x::l,i,s,s',h=>by
  simp only[sel]
  cases L i with
  |true=>exact r7h l _ _ _ (h.ap x)
  |false=>exact r7h l _ _ _ h
theorem r1D{L:Nat→Bool}:∀(l1 l2:List Row) (i:Nat) (s:Fr×St),sel L i (l1++l2) s=sel L (i+l1.length) l2 (sel L i l1 s)
 | [],_,_,_=>rfl
 |x::l1,l2,i,s=>by
  simp only[List.cons_append,sel,List.length_cons]
  rw[r1D l1 l2 (i+1)]
  congr 1
  omega
theorem r3h{L L':Nat→Bool}:∀(l:List Row) (i:Nat) (s:Fr×St),(∀k,i≤k→k<i+l.length→L k=L' k)→sel L i l s=sel L' i l s
 | [],_,_,_=>rfl
 |x::l,i,s,h=>by
  simp only[sel]
  rw[h i (Nat.le_refl _) (by simp)]
  exact r3h l _ _ fun k h1 h2=>h k (by omega) (by simp at h2 ⊢; omega)
theorem u0p{L:Nat→Bool}:∀(l:List Row) (i:Nat) (s:Fr×St),(∀k,i≤k→k<i+l.length→L k=true)→sel L i l s=full l s
 | [],_,_,_=>rfl
 |x::l,i,s,h=>by
  simp only[sel,full]
  rw[h i (Nat.le_refl _) (by simp),cond_true]
  exact u0p l _ _ fun k h1 h2=>h k (by omega) (by simp at h2 ⊢; omega)
theorem r7T{L:Nat→Bool}:∀(l:List Row) (i:Nat) (s:Fr×St),(∀k,i≤k→k<i+l.length→L k=false)→sel L i l s=s
 | [],_,_,_=>rfl
 |x::l,i,s,h=>by
  simp only[sel]
  rw[h i (Nat.le_refl _) (by simp),cond_false]
  exact r7T l _ _ fun k h1 h2=>h k (by omega) (by simp at h2 ⊢; omega)
theorem r7U{L:Nat→Bool}{x:Row}:∀(l:List Row) (i:Nat) (s:Fr×St),
 (∀k (h:k<l.length),L (i+k)=true→(∀t,x.o.dst=some t→(l[k]).o.dst≠some t)∧∀o∈x.tch,o∉ (l[k]).tch)→Eqv (sel L i l (x.ap s)) (x.ap (sel L i l s))
 | [],_,s,_=>Eqv.refl _
 |y::l,i,s,h=>by
  have hl:∀s,Eqv (sel L (i+1) l (x.ap s)) (x.ap (sel L (i+1) l s)):=fun s=>r7U l (i+1) s fun k hk hL=>by
   have:=h (k+1) (by simpa using hk) (by rw[←hL];congr 1;omega)
   simpa using this
  simp only[sel]
  cases hL:L i with
  |false=>exact hl s
  |true=>
   simp only[cond_true]
   obtain⟨h1,h2⟩:=h 0 (by simp) hL
   exact(r7h l (i+1) _ _ (u4W h1 h2 s).symm).trans (hl (y.ap s))
theorem r7V{L:Nat→Bool}{t:Nat}:∀(l:List Row) (i:Nat) (s:Fr×St),(∀k (h:k<l.length),L (i+k)=true→(l[k]).o.dst≠some t)→(sel L i l s).1.get t=s.1.get t
 | [],_,_,_=>rfl
 |y::l,i,s,h=>by
  have hl:∀s,(sel L (i+1) l s).1.get t=s.1.get t:=fun s=>r7V l (i+1) s fun k hk hL=>by
   have:=h (k+1) (by simpa using hk) (by rw[←hL];congr 1;omega)
   simpa using this
  simp only[sel]
  rw[hl]
  cases hL:L i with
  |false=>rfl
  |true=>exact r1C (h 0 (by simp) hL)
theorem r7i{L:Nat→Bool}{o:Nat}:∀(l:List Row) (i:Nat) (s:Fr×St),(∀k (h:k<l.length),L (i+k)=true→o∉ (l[k]).tch)→(sel L i l s).2[o]? =s.2[o]?
 | [],_,_,_=>rfl
 |y::l,i,s,h=>by
  have hl:∀s,(sel L (i+1) l s).2[o]? =s.2[o]? :=fun s=>r7i l (i+1) s fun k hk hL=>by
   have:=h (k+1) (by simpa using hk) (by rw[←hL];congr 1;omega)
   simpa using this
  simp only[sel]
  rw[hl]
  cases hL:L i with
  |false=>rfl
  |true=>exact p9n (h 0 (by simp) hL)
theorem r5L{L:Nat→Bool}{t:Nat}:∀(l:List Row) (i:Nat) (s s':Fr×St),s.1.get t=s'.1.get t→(∀k (h:k<l.length),L (i+k)=false→(l[k]).o.dst≠some t)→(sel L i l s).1.get t=(full l s').1.get t
 | [],_,_,_,h,_=>h
 |y::l,i,s,s',he,h=>by
  simp only[sel,full]
  refine r5L l (i+1) _ _ ?_ fun k hk hL=>by
   have:=h (k+1) (by simpa using hk) (by rw[←hL];congr 1;omega)
   simpa using this
  cases hL:L i with
  |true=>exact r2s he
  |false=>exact he.trans (r1C (h 0 (by simp) hL)).symm
theorem r7W{L:Nat→Bool}{o:Nat}:∀(l:List Row) (i:Nat) (s s':Fr×St),s.2[o]? =s'.2[o]? →(∀k (h:k<l.length),L (i+k)=false→o∉ (l[k]).tch)→(sel L i l s).2[o]? =(full l s').2[o]?
 | [],_,_,_,h,_=>h
 |y::l,i,s,s',he,h=>by
  simp only[sel,full]
  refine r7W l (i+1) _ _ ?_ fun k hk hL=>by
   have:=h (k+1) (by simpa using hk) (by rw[←hL];congr 1;omega)
   simpa using this
  cases hL:L i with
  |true=>exact r2r he
  |false=>exact he.trans (p9n (h 0 (by simp) hL)).symm
def Trace(P:Program)(gl:Gl)(N:Nat)(ops:Array Oper)(b:Nat):List Row→Fr×St→Prop
 | [],_=>True
 |x::l,s=>Fits P gl N ops b x s.1 s.2∧Trace P gl N ops b l (x.ap s)
def Ord(ops:Array Oper)(i j:Nat):Prop:=
 ∀L:Nat→Bool,(∀k o,L k=true→ops[k]? =some o→∀e∈o.after,Region.binds .any e=true→L e.on=true)→
  (∀o,ops[j]? =some o→∀e∈o.after,Region.binds .any e=true→L e.on=true)→L i=true
def Ind(ops:Array Oper)(x y:Row):Prop:=Oper.apart ops x.o y.o=true∧(∀o∈x.wr,o∉y.rd)∧∀o∈y.wr,o∉x.rd
structure Good(P:Program)(gl:Gl)(N:Nat)(ops:Array Oper)(b:Nat)(rows:List Row)(s0:Fr×St):Prop where
 hO:ops.toList=rows.map (·.o)
 tr:Trace P gl N ops b rows s0
 qs:∀i j (hi:i<rows.length) (hj:j<rows.length),i≠j→needs (rows[i]).o.op=true→needs (rows[j]).o.op=true→(rows[i]).q≠(rows[j]).q
 kept:∀x∈rows,needs x.o.op=true→s0.2[x.q]? =some (some .resv)∧b≤x.q
 fwd:∀i o,ops[i]? =some o→∀e∈o.after,Region.binds .any e=true→e.on<i
 ind:∀i j (hi:i<rows.length) (hj:j<rows.length),i<j→Ord ops i j∨Ind ops (rows[i]) (rows[j])
section
variable {P:Program} {gl:Gl} {N b:Nat} {ops:Array Oper} {w0:World} {μ0:Mu} {st0:St} {rows:List Row} {s0:Fr×St} {Q:Exit→Act→World→Prop}
theorem r7j{x:Row}(h:r7P x.r∧∀p∈x.ups,p.1∈x.r.rd){o:Nat}(ho:o∈x.wr):o∈x.rd:=by
 unfold Row.wr at ho
 unfold Row.rd
 cases hG:x.G with
 |false=>rw[hG]at ho;cases ho
 |true=>
  rw[hG]at ho
  simp only[cond_true,List.mem_append]at ho⊢
  rcases ho with ho|ho
  ·cases hu:x.r.up with
   |none=>rw[hu]at ho;cases ho
   |some p=>
    rw[hu]at ho
    simp only[List.mem_singleton]at ho
    exact h.1 o p.2 (by rw[hu,ho])
  ·obtain⟨p,hp,e⟩:=List.mem_map.1 ho
   rw[←e];exact h.2 p hp
theorem p7p{x:Row}{o:Nat}(h:o∈x.tch):o∈x.wr∨(o=x.q∧x.r.new≠none):=by
 unfold Row.tch at h
 rcases List.mem_append.1 h with h|h
 ·exact .inl h
 ·right
  cases hG:x.G<;>cases hn:x.r.new<;>simp[hG,hn]at h⊢
  exact h
theorem r0Q:∀(l1:List Row) {x:Row} {l2:List Row} {s:Fr×St},Trace P gl N ops b (l1++x::l2) s→Fits P gl N ops b x (full l1 s).1 (full l1 s).2
 | [],_,_,_,h=>h.1
 | _::l1,_,_,_,h=>r0Q l1 h.2
theorem r5M:∀(l1 l2:List Row) (s:Fr×St),Trace P gl N ops b (l1++l2) s→(∀x∈l1,∀y∈l2,needs x.o.op=true→needs y.o.op=true→x.q≠y.q)→
 (∀y∈l2,needs y.o.op=true→s.2[y.q]? =some (some .resv))→∀y∈l2,needs y.o.op=true→(full l1 s).2[y.q]? =some (some .resv)
 | [],_,_,_,_,h=>h
 |x::l1,l2,s,ht,hq,h=>by
  refine r5M l1 l2 (x.ap s) ht.2 (fun z hz=>hq z (by simp[hz])) fun y hy hn=>?_
  have:y.q∉x.tch:=fun hm=>by
   rcases p7p hm with hm|⟨e,hm⟩
   ·obtain⟨ob,h1,h2⟩:=r1A ht.1 _ (r7j ht.1.r7P hm)
    rw[h y hy hn]at h1
    cases h1;exact h2 rfl
   ·exact hq x (by simp) y hy (ht.1.makes hm) hn e.symm
  simp only[Row.ap]
  rw[p9n this]
  exact h y hy hn
def cnt(L:Nat→Bool):Nat→Nat
 |0=>0
 |n+1=>cnt L n+(bif L n then 0 else 1)
theorem r7X{L:Nat→Bool}:∀ {n:Nat},cnt L n=0→∀k,k<n→L k=true
 |n+1,h,k,hk=>by
  simp only[cnt]at h
  cases hL:L n with
  |false=>simp[hL]at h
  |true=>
   rcases Nat.lt_or_ge k n with hk'|hk'
   ·exact r7X (by simp[hL]at h;exact h) k hk'
   ·have:k=n:=by omega
    rw[this];exact hL
theorem r7Y{L L':Nat→Bool}:∀ {n:Nat},(∀k,k<n→L k=L' k)→cnt L n=cnt L' n
 |0,_=>rfl
 |n+1,h=>by simp only[cnt];rw[r7Y fun k hk=>h k (by omega),h n (by omega)]
theorem r7Z{L L':Nat→Bool}{i:Nat}(hi:L i=false)(hi':L' i=true)(hs:∀k,k≠i→L k=L' k):∀ {n:Nat},i<n→cnt L' n+1=cnt L n
 |n+1,h=>by
  simp only[cnt]
  rcases Nat.lt_or_ge i n with h1|h1
  ·rw[←r7Z hi hi' hs h1,hs n (by omega)];omega
  ·have:i=n:=by omega
   subst this
   rw[hi,hi',r7Y (L:=L') (L':=L) fun k hk=>(hs k (by omega)).symm]
   simp
def lst(listed:Array Bool)(i:Nat):Bool:=listed.getD i false
theorem u2S{s s':Fr×St}{a:Act}{w:World}{μ:Mu}(h:Eqv s s')(hc:r0B gl N w0 μ0 st0 s.1 s.2 a w μ):r0B gl N w0 μ0 st0 s'.1 s'.2 a w μ:=by
 have e:s.2=s'.2:=List.ext_getElem? h.2
 rw[e]at hc
 exact⟨hc.sim,hc.glob,fun t=>by rw[←h.1 t];exact hc.fr t,hc.size,hc.defers,hc.step⟩
set_option maxHeartbeats 1000000 in
theorem u0q(hg:Good P gl N ops b rows s0)(hQ:∀a w μ,r0B gl N w0 μ0 st0 (full rows s0).1 (full rows s0).2 a w μ→Q .normal a w):
 ∀(fuel:Nat) (listed:Array Bool) (a:Act) (w:World) (μ:Mu),listed.size=rows.length→cnt (lst listed) rows.length≤fuel→
  (∀k o,lst listed k=true→ops[k]? =some o→∀e∈o.after,Region.binds .any e=true→lst listed e.on=true)→
  (∀i j (hi:i<rows.length) (hj:j<rows.length),lst listed j=true→lst listed i=false→needs (rows[i]).o.op=true→(rows[i]).q∉ (rows[j]).rd)→
  r0B gl N w0 μ0 st0 (sel (lst listed) 0 rows s0).1 (sel (lst listed) 0 rows s0).2 a w μ→wpAny P .any ops Q fuel listed a w:=by
 have hsz:ops.size=rows.length:=by have:=congrArg List.length hg.hO;simpa using this
 have hop:∀i (h:i<rows.length),ops[i]? =some (rows[i]).o:=fun i h=>by
  have:ops.toList[i]? =(rows.map (·.o))[i]? :=by rw[hg.hO]
  simpa[h]using this
 have hall:∀(listed:Array Bool) (a:Act) (w:World) (μ:Mu),(∀k,k<rows.length→lst listed k=true)→
  r0B gl N w0 μ0 st0 (sel (lst listed) 0 rows s0).1 (sel (lst listed) 0 rows s0).2 a w μ→Q .normal a w:=fun listed a w μ h hc=>by
  rw[u0p rows 0 s0 fun k _ hk=>h k (by omega)]at hc
  exact hQ a w μ hc
 have r0R:∀(listed:Array Bool) (i:Nat),listed.size=rows.length→(i∈Region.ready .any ops listed↔i<rows.length∧lst listed i=false∧∀o,ops[i]? =some o→∀e∈o.after,Region.binds .any e=true→lst listed e.on=true):=by
  intro listed i hls
  unfold Region.ready
  simp only[List.mem_filter,List.mem_range,hsz]
  constructor
  ·rintro⟨h1,h2⟩
   rw[hop i h1]at h2⊢
   simp only[Option.map_some,Option.getD_some,Bool.and_eq_true,Bool.not_eq_true',Array.all_eq_true_iff_forall_mem]at h2
   refine⟨h1,?_,fun o ho e he hb=>?_⟩
   ·have:=h2.1
    unfold lst
    simp[Array.getD_eq_getD_getElem?, hls,h1]at this⊢
    exact this
   ·cases ho
    have:=h2.2 e he
    simp only[Bool.or_eq_true,Bool.not_eq_true',hb,Bool.true_eq_false,false_or]at this
    exact this
  ·rintro⟨h1,h2,h3⟩
   refine⟨h1,?_⟩
   rw[hop i h1]at h3⊢
   simp only[Option.map_some,Option.getD_some,Bool.and_eq_true,Bool.not_eq_true',Array.all_eq_true_iff_forall_mem]
   refine⟨?_,fun e he=>?_⟩
   ·unfold lst at h2
    simp[Array.getD_eq_getD_getElem?, hls,h1]at h2⊢
    exact h2
   ·cases hb:Region.binds .any e with
    |false=>simp
    |true=>
     have:=h3 _ rfl e he hb
     unfold lst at this
     rw[this];rfl
 have hnone:∀(listed:Array Bool),listed.size=rows.length→Region.ready .any ops listed=[]→∀k,k<rows.length→lst listed k=true:=by
  intro listed hls hr k
  induction k using Nat.strongRecOn with
  | _ k ih=>
   intro hk
   cases hL:lst listed k with
   |true=>rfl
   |false=>
    exfalso
    have:k∈Region.ready .any ops listed:=(r0R listed k hls).2 ⟨hk,hL,fun o ho e he hb=>by
     have:=hg.fwd k o ho e he hb
     exact ih e.on this (by omega)⟩
    rw[hr]at this;cases this
 intro fuel
 induction fuel with
 |zero=>
  intro listed a w μ hls hc hcl hh hcc
  have ha:=r7X (Nat.le_zero.1 hc)
  refine⟨?_,hall listed a w μ ha hcc⟩
  rw[List.eq_nil_iff_forall_not_mem]
  intro i hi
  obtain⟨h1,h2,_⟩:=(r0R listed i hls).1 hi
  rw[ha i h1]at h2;cases h2
 |succ fuel ih=>
  intro listed a w μ hls hc hcl hh hcc
  refine⟨fun hr=>hall listed a w μ (hnone listed hls hr) hcc,fun i hi=>?_⟩
  obtain⟨hil,hLi,haf⟩:=(r0R listed i hls).1 hi
  generalize hx:rows[i]=x
  have r0i:rows=rows.take i++x::rows.drop (i+1):=by rw[←hx,List.getElem_cons_drop,List.take_append_drop]
  have u6O:(rows.take i).length=i:=by simp;omega
  have u0r:∀k (hk:k<i),lst listed k=false→Ind ops (rows[k]'(by omega)) x:=fun k hk hL=>by
   rcases hg.ind k i (by omega) hil hk with h|h
   ·have:=h (lst listed) hcl haf
    rw[this]at hL;cases hL
   ·rw[hx]at h;exact h
  have u0s:∀k (hk:i<k) (hkl:k<rows.length),lst listed k=true→Ind ops x (rows[k]):=fun k hk hkl hL=>by
   rcases hg.ind i k hil hkl hk with h|h
   ·have:=h (lst listed) hcl (fun o ho=>hcl k o hL ho)
    rw[this]at hLi;cases hLi
   ·rw[hx]at h;exact h
  have u0t:Fits P gl N ops b x (full (rows.take i) s0).1 (full (rows.take i) s0).2:=by
   have ht:=hg.tr
   rw[r0i]at ht
   exact r0Q _ ht
  have u6P:∀k (hk:i≤k) (hkl:k<rows.length),needs (rows[k]).o.op=true→(full (rows.take i) s0).2[(rows[k]).q]? =some (some .resv):=fun k hk hkl hn=>by
   refine r5M (P:=P) (gl:=gl) (N:=N) (ops:=ops) (rows.take i) (rows.drop i) s0 (by rw[List.take_append_drop];exact hg.tr) (fun z hz y hy h1 h2=>?_) (fun y hy hn=>(hg.kept y (List.mem_of_mem_drop hy) hn).1) _ ?_ hn
   ·obtain⟨a',ha',e1⟩:=List.getElem_of_mem hz
    obtain⟨b',hb',e2⟩:=List.getElem_of_mem hy
    simp only[List.getElem_take]at e1
    simp only[List.getElem_drop]at e2
    simp only[List.length_take]at ha'
    simp only[List.length_drop]at hb'
    have:=hg.qs a' (i+b') (by omega) (by omega) (by omega)
    rw[e1,e2]at this
    exact this h1 h2
   ·have:rows[k]=(rows.drop i)[k-i]'(by simp;omega):=by
     rw[List.getElem_drop];congr 1;omega
    rw[this];exact List.getElem_mem _
  have w0m:∀j (h:j<rows.length),r7P (rows[j]).r∧∀p∈(rows[j]).ups,p.1∈(rows[j]).r.rd:=fun j h=>by
   have ht:=hg.tr
   have e:rows=rows.take j++rows[j]::rows.drop (j+1):=by rw[List.getElem_cons_drop,List.take_append_drop]
   rw[e]at ht
   exact(r0Q _ ht).r7P
  have hmk:∀j (h:j<rows.length),(rows[j]).r.new≠none→needs (rows[j]).o.op=true:=fun j h=>by
   have ht:=hg.tr
   have e:rows=rows.take j++rows[j]::rows.drop (j+1):=by rw[List.getElem_cons_drop,List.take_append_drop]
   rw[e]at ht
   exact(r0Q _ ht).makes
  have hR:∀k (hk:k<rows.length),lst listed k=false→needs (rows[k]).o.op=true→(sel (lst listed) 0 rows s0).2[(rows[k]).q]? =some (some .resv):=fun k hk hL hn=>by
   rw[r7i rows 0 s0]
   ·exact(hg.kept _ (List.getElem_mem _) hn).1
   ·intro j hj hLj hm
    rw[Nat.zero_add]at hLj
    rcases p7p hm with hm|⟨e,hm⟩
    ·exact hh k j hk hj hLj hL hn (r7j (w0m j hj) hm)
    ·have hne:k≠j:=fun e=>by subst e;rw[hL]at hLj;cases hLj
     exact hg.qs k j hk hj hne hn (hmk j hj hm) e
  have hsel:sel (lst listed) 0 rows s0=sel (lst listed) (i+1) (rows.drop (i+1)) (sel (lst listed) 0 (rows.take i) s0):=by
   conv=>lhs;rw[r0i]
   rw[r1D,u6O]
   simp only[sel,Nat.zero_add,hLi,cond_false]
  have u3T:∀t∈x.o.looksAt ops,(sel (lst listed) 0 rows s0).1.get t=(full (rows.take i) s0).1.get t:=fun t ht=>by
   rw[hsel,r7V]
   ·refine r5L _ _ _ _ rfl fun k hk hL hd=>?_
    simp only[List.length_take]at hk
    rw[Nat.zero_add]at hL
    simp only[List.getElem_take]at hd
    exact(Oper.apart_spec (u0r k (by omega) hL).1).1 t hd ht
   ·intro k hk hL hd
    simp only[List.length_drop]at hk
    simp only[List.getElem_drop]at hd
    exact(Oper.apart_spec (u0s (i+1+k) (by omega) (by omega) hL).1).2.2 t hd ht
  have p9o:∀o∈x.rd,∀k (hk:k<rows.length),lst listed k=false→needs (rows[k]).o.op=true→o≠(rows[k]).q:=fun o ho k hk hL hn e=>by
   rcases u0o hcc u0t u3T o ho with h|h
   ·rw[e]at h;exact h (hR k hk hL hn)
   ·have:=(hg.kept _ (List.getElem_mem hk) hn).2
    omega
  have u6Q:=r1A u0t
  have r8a:∀o∈x.rd,∀k (hk:i<k) (hkl:k<rows.length),lst listed k=true→o∉ (rows[k]).tch:=fun o ho k hk hkl hL hm=>by
   rcases p7p hm with hm|⟨e,hm⟩
   ·exact(u0s k hk hkl hL).2.2 o hm ho
   ·obtain⟨ob,h1,h2⟩:=u6Q o ho
    rw[e,u6P k (by omega) hkl (hmk k hkl hm)]at h1
    cases h1;exact h2 rfl
  have u9c:∀o∈x.rd,(sel (lst listed) 0 rows s0).2[o]? =(full (rows.take i) s0).2[o]? :=fun o ho=>by
   rw[hsel]
   have e2:(sel (lst listed) (i+1) (rows.drop (i+1)) (sel (lst listed) 0 (rows.take i) s0)).2[o]? =(sel (lst listed) 0 (rows.take i) s0).2[o]? :=r7i _ _ _ fun k hk hL=>by
    simp only[List.length_drop]at hk
    simp only[List.getElem_drop]
    exact r8a o ho (i+1+k) (by omega) (by omega) hL
   rw[e2]
   refine r7W _ _ _ _ rfl fun k hk hL hm=>?_
   simp only[List.length_take]at hk
   rw[Nat.zero_add]at hL
   simp only[List.getElem_take]at hm
   rcases p7p hm with hm|⟨e,hm⟩
   ·exact(u0r k (by omega) hL).2.1 o hm ho
   ·exact p9o o ho k (by omega) hL (hmk k (by omega) hm) e
  have u6R:Fits P gl N ops b x (sel (lst listed) 0 rows s0).1 (sel (lst listed) 0 rows s0).2:=
   r9d u0t u3T (fun o ho=>by unfold look;rw[u9c o ho]) (fun hn=>by have:=hR i hil hLi (by rw[hx];exact hn);rw[hx]at this;exact this)
  have hL':∀k,lst (listed.setIfInBounds i true) k=if k=i then true else lst listed k:=fun k=>by
   unfold lst
   by_cases e:k=i
   ·subst e;rw[if_pos rfl];simp[Array.getD_eq_getD_getElem?, hls,hil]
   ·rw[if_neg e];simp[Array.getD_eq_getD_getElem?, Array.getElem?_setIfInBounds_ne (Ne.symm e)]
  unfold wpOp
  rw[hop i hil,hx]
  refine u2R hcc u6R fun a' w' μ' hc'=>?_
  refine ih _ a' w' μ' (by simpa using hls) ?_ ?_ ?_ ?_
  ·have:=r7Z (L:=lst listed) (L':=lst (listed.setIfInBounds i true)) hLi (by rw[hL',if_pos rfl]) (fun k hk=>by rw[hL',if_neg hk]) hil
   omega
  ·intro k o hk ho e he hb
   rw[hL']at hk⊢
   split
   ·rfl
   ·by_cases hki:k=i
    ·subst hki;exact haf o ho e he hb
    ·rw[if_neg hki]at hk;exact hcl k o hk ho e he hb
  ·intro k j hk hj hLj hLk hn
   rw[hL']at hLj hLk
   have hki:k≠i:=fun e=>by rw[if_pos e]at hLk;cases hLk
   rw[if_neg hki]at hLk
   by_cases hji:j=i
   ·subst hji
    rw[hx]
    intro hm
    exact p9o _ hm k hk hLk hn rfl
   ·rw[if_neg hji]at hLj
    exact hh k j hk hj hLj hLk hn
  ·refine u2S (s:=x.ap (sel (lst listed) 0 rows s0)) ?_ hc'
   have e1:sel (lst (listed.setIfInBounds i true)) 0 rows s0=sel (lst listed) (i+1) (rows.drop (i+1)) (x.ap (sel (lst listed) 0 (rows.take i) s0)):=by
    conv=>lhs;rw[r0i]
    rw[r1D,u6O]
    simp only[sel,Nat.zero_add]
    rw[hL',if_pos rfl,cond_true]
    rw[r3h (L':=lst listed) (rows.take i) 0 s0 fun k _ hk=>by
     simp only[List.length_take]at hk
     rw[hL',if_neg (by omega)]]
    exact r3h _ _ _ fun k hk _=>by rw[hL',if_neg (by omega)]
   rw[e1,hsel]
   refine(r7U _ _ _ fun k hk hL=>?_).symm
   simp only[List.length_drop]at hk
   simp only[List.getElem_drop]
   have hI:=u0s (i+1+k) (by omega) (by omega) hL
   refine⟨(Oper.apart_spec hI.1).2.1,fun o ho hm=>?_⟩
   rcases p7p ho with ho|⟨e,ho⟩
   ·exact r8a o (r7j u0t.r7P ho) (i+1+k) (by omega) (by omega) hL hm
   ·have hn:=u0t.makes ho
    rcases p7p hm with hm|⟨e',hm⟩
    ·have:=hh i (i+1+k) hil (by omega) hL hLi (by rw[hx];exact hn)
     rw[hx, ←e]at this
     exact this (r7j (w0m _ (by omega)) hm)
    ·have:=hg.qs i (i+1+k) hil (by omega) (by omega) (by rw[hx];exact hn) (hmk _ (by omega) hm)
     rw[hx]at this
     exact this (e.symm.trans e')
end
abbrev Log:=List (List Nat×List Nat)
def u9d(rd up:List Nat):Log→Prop
 | []=>True
 |(rd',up')::l=>(∀o∈up,o∉rd')∧(∀o∈up',o∉rd)∧u9d rd up l
def u3U:Log→Prop
 | []=>True
 |(rd,up)::l=>u9d rd up l∧u3U l
def upL(r:LR):List Nat:=match r.up with|some (o,_)=>[o]|none=>[]
def p9p(tr:Bool)(lg:Log)(r:LR)(ups:List (Nat×Ob)):Log:=bif tr then lg++[(r.rd,upL r++ups.map (·.1))]else lg
def u2T(N q:Nat)(tr:Bool)(dst:Option Nat)(lg:Log)(fr:Fr)(st:St)(k:Log→Fr→St→Prop)(r:LR):Prop:=
 r.ok∧dlt N dst∧k (p9p tr lg r []) (fr.p8d dst r.d) (r.app q st)
def r9e(P:Program)(gl:Gl)(b:Nat)(tr:Bool)(dst:Option Nat)(lg:Log)(fr:Fr)(st:St)(k:Log→Fr→St→Prop)(g:FuncId)(args:List D):Prop:=
 ∃r rd ups,r4P P gl g args rd st r ups∧(∀p∈ups,p.1∈rd)∧(∀o∈rd,o<b∧∃ob,look st o=some ob∧ob≠ .resv)∧(tr=false→rd=[])∧k (p9p tr lg ⟨r,True,rd,none,none⟩ ups) (fr.p8d dst r) (puts st ups)
def r5N(P:Program)(gl:Gl)(b:Nat)(G tr:Bool)(dst:Option Nat)(lg:Log)(fr:Fr)(st:St)(k:Log→Fr→St→Prop)(g:FuncId)(args:List D):Prop:=
 ∃r rd ups,(G=true→r4P P gl g args rd st r ups)∧(∀p∈ups,p.1∈rd)∧(∀o∈rd,o<b∧∃ob,look st o=some ob∧ob≠ .resv)∧(tr=false→rd=[])∧(G=false→puts st ups=st)∧k (p9p tr lg ⟨r,True,rd,none,none⟩ ups) (fr.p8d dst (.cond G r)) (puts st ups)
def u5V(P:Program)(gl:Gl)(N b:Nat)(tr:Bool)(dst:Option Nat)(lg:Log)(fr:Fr)(st:St)(k:Log→Fr→St→Prop)(ok:Prop)(f:D)(args:List D):Prop:=
 match f with
 | .fn g first cap=>dlt N dst∧ok∧r9e P gl b tr dst lg fr st k g (first++args++cap)
 | _=>False
def r7k(N q:Nat)(G:Bool)(tr:Bool)(dst:Option Nat)(lg:Log)(fr:Fr)(st:St)(k:Log→Fr→St→Prop)(r:LR):Prop:=
 p5Q G r.ok∧dlt N dst∧k (p9p tr lg r []) (fr.p8d dst (.cond G r.d)) (bif G then r.app q st else st)
def r9f(P:Program)(gl:Gl)(N b:Nat)(G:Bool)(tr:Bool)(dst:Option Nat)(lg:Log)(fr:Fr)(st:St)(k:Log→Fr→St→Prop)(ok:Prop)(f:D)(args:List D):Prop:=
 match f with
 | .fn g first cap=>dlt N dst∧ok∧r5N P gl b G tr dst lg fr st k g (first++args++cap)
 | _=>False
def u3V(P:Program)(gl:Gl)(N b q:Nat)(tr:Bool)(k k1:Log→Fr→St→Prop)(dst:Option Nat)(op:Op)(lg:Log)(fr:Fr)(st:St):Nat→Prop
 |0=>u2T N q tr dst lg fr st k (aop P gl true op fr (look st) q)
 |1=>u2T N q tr dst lg fr st k1 (aop P gl true op fr (look st) q)
 | _=>match op with
  | .call ⟨.value f,args,_⟩=>u5V P gl N b tr dst lg fr st k (eok gl true fr f∧(∀x∈args.toList,eok gl true fr x)) (ev1 gl fr f) (args.toList.map (ev1 gl fr))
  | _=>False
def u2U(P:Program)(gl:Gl)(N b q:Nat)(tr:Bool)(k k1:Log→Fr→St→Prop)(dst:Option Nat)(op:Op)(lg:Log)(fr:Fr)(st:St):Nat→Option Bool→Prop
 |0,some G=>r7k N q G tr dst lg fr st k (aop P gl G op fr (look st) q)
 |1,some G=>r7k N q G tr dst lg fr st k1 (aop P gl G op fr (look st) q)
 |2,some G=>match op with
  | .call ⟨.value f,args,_⟩=>r9f P gl N b G tr dst lg fr st k (eok gl G fr f∧(∀x∈args.toList,eok gl G fr x)) (ev1 gl fr f) (args.toList.map (ev1 gl fr))
  | _=>False
 | _,_=>False
def EvD(P:Program)(gl:Gl)(N:Nat)(ops:Array Oper)(b:Nat)(trk:List Nat)(K:Fr→St→Prop):List Oper→Nat→Nat→Log→Fr→St→Prop
 | [],_,_,lg,fr,st=>u3U lg∧K fr st
 |⟨dst,op,_,_,_,none⟩::l,i,k,lg,fr,st=>u3V P gl N b (b+k) (trk.contains i) (EvD P gl N ops b trk K l (i+1) k) (EvD P gl N ops b trk K l (i+1) (k+1)) dst op lg fr st (opk op)
 |⟨dst,op,_,_,_,some (j,want)⟩::l,i,k,lg,fr,st=>u2U P gl N b (b+k) (trk.contains i) (EvD P gl N ops b trk K l (i+1) k) (EvD P gl N ops b trk K l (i+1) (k+1)) dst op lg fr st (opk op) (u2D fr want (gslot ops j))
def rds:Op→Bool
 | .load _ _| .store _ _ _| .indexAddr _ _ _| .slice _ _ _ _ _| .lookup _ _ _ _| .mapUpdate _ _ _ _| .next _ _| .call { callee:=.builtin .len,.. }| .call { callee:=.builtin .append,.. }=>true
 | _=>false
def wrs:Op→Bool
 | .store _ _ _| .mapUpdate _ _ _ _| .next _ _| .call { callee:=.builtin .append,.. }=>true
 | _=>false
def r3O(trk:List Nat)(i:Nat)(o:Op):Bool:=(p5K o).isSome&&trk.contains i
def u0u(tbl:List Nat)(o:Oper):Nat:=o.after.toList.foldl (fun s e=>bif Region.binds .any e then s|||2^e.on|||tbl.getD e.on 0 else s) 0
def masks:List Oper→List Nat→List Nat
 | [],tbl=>tbl
 |o::l,tbl=>masks l (tbl++[u0u tbl o])
def u3W(ops:Array Oper)(trk:List Nat)(m i j:Nat):Bool:=
 Nat.testBit m i||(match ops[i]?, ops[j]? with
  |some x,some y=>Oper.apart ops x y&&((!((wrs x.op||r3O trk i x.op)&&(rds y.op||r3O trk j y.op))&& !((wrs y.op||r3O trk j y.op)&&(rds x.op||r3O trk i x.op)))||(trk.contains i&&trk.contains j))
  | _,_=>false)
def p9q(ops:Array Oper)(trk:List Nat):Bool:=
 let tbl:=masks ops.toList []
 (List.range ops.size).all fun j=>
  (match ops[j]? with|some o=>o.after.toList.all fun e=> !Region.binds .any e||Nat.blt e.on j|none=>true)&&
  (List.range j).all fun i=>u3W ops trk (tbl.getD j 0) i j
theorem r9g{tbl:List Nat}{o:Oper}{j:Nat}(h:Nat.testBit (u0u tbl o) j=true):∃e∈o.after,Region.binds .any e=true∧(e.on=j∨Nat.testBit (tbl.getD e.on 0) j=true):=by
 have key:∀(l:List Edge) (s:Nat),Nat.testBit (l.foldl (fun s e=>bif Region.binds .any e then s|||2^e.on|||tbl.getD e.on 0 else s) s) j=true→
  Nat.testBit s j=true∨∃e∈l,Region.binds .any e=true∧(e.on=j∨Nat.testBit (tbl.getD e.on 0) j=true):=by
  intro l
  induction l with
  |nil=>intro s h;exact .inl h
  |cons e l ih=>
   intro s h
   simp only[List.foldl_cons]at h
   rcases ih _ h with h|⟨e',h1,h2⟩
   ·cases hb:Region.binds .any e with
    |false=>rw[hb]at h;exact .inl h
    |true=>
     rw[hb]at h
     simp only[cond_true,Nat.testBit_or,Bool.or_eq_true,Nat.testBit_two_pow,decide_eq_true_eq]at h
     rcases h with(h|h)|h
     ·exact .inl h
     ·exact .inr ⟨e,by simp,hb,.inl h⟩
     ·exact .inr ⟨e,by simp,hb,.inr h⟩
   ·exact .inr ⟨e',by simp[h1],h2⟩
 rcases key _ 0 h with h|⟨e,h1,h2⟩
 ·simp at h
 ·exact⟨e,by simpa using h1,h2⟩
theorem r3i{ops:Array Oper}:∀(l:List Oper) (tbl:List Nat),ops.toList.drop tbl.length=l→
 (∀j,j<tbl.length→∀i,Nat.testBit (tbl.getD j 0) i=true→Ord ops i j)→∀j i,Nat.testBit ((masks l tbl).getD j 0) i=true→Ord ops i j
 | [],tbl,_,h,j,i,hb=>by
  rcases Nat.lt_or_ge j tbl.length with hj|hj
  ·exact h j hj i hb
  ·simp only[masks]at hb
   rw[List.getD_eq_getElem?_getD,List.getElem?_eq_none hj]at hb
   simp at hb
 |o::l,tbl,hl,h,j,i,hb=>by
  simp only[masks]at hb
  have ho:ops[tbl.length]? =some o:=by
   have:(ops.toList.drop tbl.length)[0]? =some o:=by rw[hl];rfl
   simpa[List.getElem?_drop]using this
  refine r3i l (tbl++[u0u tbl o]) ?_ ?_ j i hb
  ·have:=congrArg List.tail hl
   simpa[List.tail_drop]using this
  ·intro j hj i hb
   rcases Nat.lt_or_ge j tbl.length with hj'|hj'
   ·rw[List.getD_eq_getElem?_getD,List.getElem?_append_left hj', ←List.getD_eq_getElem?_getD]at hb
    exact h j hj' i hb
   ·have:j=tbl.length:=by simp at hj;omega
    subst this
    rw[List.getD_eq_getElem?_getD,List.getElem?_append_right (Nat.le_refl _)]at hb
    simp only[Nat.sub_self,List.getElem?_cons_zero,Option.getD_some]at hb
    obtain⟨e,h1,h2,h3⟩:=r9g hb
    intro L hcl haf
    have hon:=haf o ho e h1 h2
    rcases h3 with rfl|h3
    ·exact hon
    ·rcases Nat.lt_or_ge e.on tbl.length with hlt|hge
     ·exact h e.on hlt i h3 L hcl fun o' ho' e' he' hb'=>hcl e.on o' hon ho' e' he' hb'
     ·rw[List.getD_eq_getElem?_getD,List.getElem?_eq_none hge]at h3
      simp at h3
section
variable {P:Program} {gl:Gl} {N:Nat} {ops:Array Oper} {fr:Fr} {st:St} {q:Nat} {g:Bool} {op:Op} {lk:Look}
theorem u2V(h:rds op=false):(aop P gl g op fr lk q).rd=[]:=by
 cases op with
 |load|store|indexAddr|slice|lookup|mapUpdate|next=>cases h
 |range t x=>exact r4O
 |call c=>
  obtain⟨callee,args,ats⟩:=c
  cases callee with
  |value f=>rfl
  |invoke r m=>rfl
  |builtin b=>
   cases b<;>first|(cases h;done)|skip
   all_goals
    simp only[aop]
    generalize args.toList=l
    generalize ats.toList=l'
    first|rfl|(split<;>first|contradiction|rfl|exact u0l|exact u0m|exact u0k)
 |pick c a b=>exact r7f
 |build t ps=>exact r4L
 |buildSlice t len ps=>simp only[aop];cases gl.imm t<;>rfl
 |binOp o t x y u=>
  simp only[aop]
  split<;>first|exact u4S|exact u0j
 |unOp o t x=>exact u4T
 |nilCheck x=>exact r0l
 |convert s t x=>exact r1x
 |makeFunc f a b=>cases f<;>rfl
 |makeMap t r=>cases r with
  |none=>exact r1z
  |some r=>rfl
 |makeSlice t l c=>exact p9l
 |fieldAddr t x f=>exact p9k
 |field t x f=>exact r4M
 |index t x y=>exact r4N
 |extract x j=>exact r1y
 | _=>rfl
theorem u4X(h:wrs op=false)(hr:rds op=true):(aop P gl g op fr lk q).up=none:=by
 cases op<;>first|(cases h;done)|(cases hr;done)|skip
 case load=>exact(p8I _ _ _).1
 case indexAddr=>exact(p5t _ _ _ _ _).1
 case slice=>exact(p7I _ _ _ _ _ _ _).1
 case lookup=>exact(p6W _ _ _ _ _ _ _).1
 case call c=>
  obtain⟨callee,args,ats⟩:=c
  cases callee with
  |value f=>rfl
  |invoke r m=>rfl
  |builtin b=>
   cases b<;>first|(cases h;done)|(cases hr;done)|skip
   simp only[aop]
   generalize args.toList=l
   generalize ats.toList=l'
   first|rfl|(split<;>first|contradiction|rfl|exact(p8k _ _ _).1|exact(p8l _ _).1)
theorem r2t{b:Nat}{x:Row}(h:Fits P gl N ops b x fr st)(hr:rds x.o.op=false)(hc:p5K x.o.op≠none→x.r.rd=[]):x.rd=[]:=by
 unfold Row.rd
 cases hG:x.G with
 |false=>rfl
 |true=>
  rcases h.does hG with⟨_,e,_⟩|⟨_,_,_,_,_,_,_,e,_⟩
  ·rw[e];exact u2V hr
  ·exact hc (by rw[e];simp)
theorem r8b{b:Nat}{x:Row}(h:Fits P gl N ops b x fr st)(hw:wrs x.o.op=false)(hc:p5K x.o.op≠none→x.r.rd=[]):x.wr=[]:=by
 cases hr:rds x.o.op with
 |false=>
  have:=r2t h hr hc
  rw[List.eq_nil_iff_forall_not_mem]
  intro o ho
  have:=r7j h.r7P ho
  rw[r2t h hr hc]at this;cases this
 |true=>
  unfold Row.wr
  cases hG:x.G with
  |false=>rfl
  |true=>
   rcases h.does hG with⟨_,e,_,_,hu⟩|⟨_,_,_,_,_,_,_,e,_⟩
   ·rw[e,u4X hw hr,hu];rfl
   ·rw[List.eq_nil_iff_forall_not_mem]
    intro o ho
    have h1:o∈x.wr:=by unfold Row.wr;rw[hG];exact ho
    have h2:=r7j h.r7P h1
    unfold Row.rd at h2
    rw[hG,hc (by rw[e];simp)]at h2
    cases h2
end
def p6S:List Oper→Nat
 | []=>0
 |o::l=>p6S l+(bif needs o.op then 1 else 0)
def qOk:Nat→List Row→Prop
 | _,[]=>True
 |q,x::l=>x.q=q∧qOk (bif needs x.o.op then q+1 else q) l
def r0S(trk:List Nat):Nat→List Row→Log
 | _,[]=>[]
 |i,x::l=>bif trk.contains i then(x.r.rd,upL x.r++x.ups.map (·.1))::r0S trk (i+1) l else r0S trk (i+1) l
def nrd(trk:List Nat):Nat→List Row→Prop
 | _,[]=>True
 |i,x::l=>(trk.contains i=false→p5K x.o.op≠none→x.r.rd=[])∧nrd trk (i+1) l
theorem u3X{trk:List Nat}:∀(l:List Row) (i j:Nat) (h:j<l.length),nrd trk i l→trk.contains (i+j)=false→p5K (l[j]).o.op≠none→(l[j]).r.rd=[]
 |x::l,i,0,_,h,ht,hc=>h.1 (by simpa using ht) hc
 |x::l,i,j+1,hj,h,ht,hc=>u3X l (i+1) j (by simpa using hj) h.2 (by rw[←ht];congr 1;omega) hc
section
variable {P:Program} {gl:Gl} {N:Nat} {ops:Array Oper} {b:Nat} {trk:List Nat} {K:Fr→St→Prop} {w0:World} {μ0:Mu} {st0:St} {Q:Exit→Act→World→Prop}
theorem u0v{x:Row}{fr:Fr}{st:St}{q:Nat}(h:Fits P gl N ops b x fr st)(hq:st[q]? =some (some .resv))(hne:needs x.o.op=true→q≠x.q):(x.st st)[q]? =some (some .resv):=by
 rw[p9n fun hm=>?_]
 ·exact hq
 ·rcases p7p hm with hm|⟨e,hm⟩
  ·obtain⟨ob,h1,h2⟩:=r1A h _ (r7j h.r7P hm)
   rw[hq]at h1;cases h1;exact h2 rfl
  ·exact hne (h.makes hm) e
theorem p8n{o:Oper}{l:List Oper}{i k:Nat}{lg:Log}{fr:Fr}{st:St}(x:Row)(hx:x.o=o)(hq:x.q=b+k)(hf:Fits P gl N ops b x fr st)(hnr:trk.contains i=false→p5K x.o.op≠none→x.r.rd=[])
 (hk:∀m,k≤m→m<k+p6S (o::l)→st[b+m]? =some (some .resv))
 (ih:(∀m,(bif needs o.op then k+1 else k)≤m→m<(bif needs o.op then k+1 else k)+p6S l→(x.st st)[b+m]? =some (some .resv))→
  ∃rows:List Row,rows.map (·.o)=l∧qOk (b+(bif needs o.op then k+1 else k)) rows∧Trace P gl N ops b rows (x.ap (fr,st))∧K (full rows (x.ap (fr,st))).1 (full rows (x.ap (fr,st))).2∧u3U (p9p (trk.contains i) lg x.r x.ups++r0S trk (i+1) rows)∧nrd trk (i+1) rows):
 ∃rows:List Row,rows.map (·.o)=o::l∧qOk (b+k) rows∧Trace P gl N ops b rows (fr,st)∧K (full rows (fr,st)).1 (full rows (fr,st)).2∧u3U (lg++r0S trk i rows)∧nrd trk i rows:=by
 obtain⟨rows,h1,h2,h3,h4,h5,h6⟩:=ih fun m h1 h2=>by
  refine u0v hf (hk m ?_ ?_) fun hn=>?_
  ·cases hn:needs o.op<;>simp[hn]at h1<;>omega
  ·simp only[p6S];cases hn:needs o.op<;>simp[hn]at h2⊢ <;>omega
  ·rw[hx]at hn
   rw[hq]
   simp[hn]at h1;omega
 refine⟨x::rows,by simp[hx,h1],⟨hq,?_⟩,⟨hf,h3⟩,h4,?_,hnr,h6⟩
 ·rw[hx]
  cases hn:needs o.op<;>simp[hn]at h2⊢
  ·exact h2
  ·exact h2
 ·simp only[r0S]
  unfold p9p at h5
  cases ht:trk.contains i with
  |false=>rw[ht]at h5;exact h5
  |true=>
   rw[ht]at h5
   simp only[cond_true,List.append_assoc,List.cons_append,List.nil_append]at h5⊢
   exact h5
set_option maxHeartbeats 1000000 in
theorem r0m:∀(l:List Oper) (i k:Nat) (lg:Log) (fr:Fr) (st:St),EvD P gl N ops b trk K l i k lg fr st→
 (∀m,k≤m→m<k+p6S l→st[b+m]? =some (some .resv))→
 ∃rows:List Row,rows.map (·.o)=l∧qOk (b+k) rows∧Trace P gl N ops b rows (fr,st)∧K (full rows (fr,st)).1 (full rows (fr,st)).2∧u3U (lg++r0S trk i rows)∧nrd trk i rows
 | [],i,k,lg,fr,st,h,_=>⟨[],rfl,trivial,trivial,h.2,by simpa[r0S]using h.1,trivial⟩
 |⟨dst,op,ty,pos,af,none⟩::l,i,k,lg,fr,st,h,hk=>by
  simp only[EvD]at h
  by_cases h0:opk op=0
  ·rw[h0]at h
   obtain⟨h1,h2⟩:=(p8J op).1 h0
   obtain⟨a,c,d⟩:=h
   refine p8n ⟨_,b+k,true,aop P gl true op fr (look st) (b+k),[]⟩ rfl rfl ⟨c,trivial,rfl,⟨r2q,fun _ h=>(by cases h)⟩,fun _=>.inl ⟨h1,rfl,a,(fun hn=>by rw[h2]at hn;cases hn),rfl⟩,fun hn=>absurd (r7c h2) hn⟩ (fun _ hc=>absurd h1 hc) hk ?_
   rw[h2]
   exact fun hk'=>r0m l _ _ _ _ _ d hk'
  ·by_cases h1':opk op=1
   ·rw[h1']at h
    obtain⟨h1,h2⟩:=(p8J op).2 h1'
    obtain⟨a,c,d⟩:=h
    refine p8n ⟨_,b+k,true,aop P gl true op fr (look st) (b+k),[]⟩ rfl rfl ⟨c,trivial,rfl,⟨r2q,fun _ h=>(by cases h)⟩,fun _=>.inl ⟨h1,rfl,a,fun hn=>hk k (Nat.le_refl _) ?_,rfl⟩,fun _=>h2⟩ (fun _ hc=>absurd h1 hc) hk ?_
    ·simp only[p6S,h2,cond_true];omega
    ·rw[h2]
     exact fun hk'=>r0m l _ _ _ _ _ d hk'
   ·obtain⟨f,args,ats,rfl⟩:=p8K h0 h1'
    simp only[opk,u3V,u5V]at h
    cases hf:ev1 gl fr f<;>rw[hf]at h<;>first|exact h.elim|skip
    obtain⟨a,⟨c,d⟩,r,rd,ups,hp,hu,hrd,htr,e⟩:=h
    refine p8n ⟨_,b+k,true,⟨r,True,rd,none,none⟩,ups⟩ rfl rfl ⟨a,trivial,rfl,⟨p1D rfl,hu⟩,fun _=>.inr ⟨f,args.toList,_,_,_,r,rd,rfl,c,d,hf,hp,rfl,fun o ho=>⟨(hrd o ho).1,let ⟨ob,h1,h2⟩:=(hrd o ho).2;⟨ob,p9J.1 h1,h2⟩⟩⟩,fun hn=>absurd rfl hn⟩ (fun ht _=>htr ht) hk ?_
    exact fun hk'=>r0m l _ _ _ _ _ e hk'
 |⟨dst,op,ty,pos,af,some (j,want)⟩::l,i,k,lg,fr,st,h,hk=>by
  simp only[EvD]at h
  cases hg:u2D fr want (gslot ops j)with
  |none=>rw[hg]at h;unfold u2U at h;split at h<;>first|exact h.elim|(rename_i e;cases e)
  |some G=>
   rw[hg]at h
   obtain⟨g1,g2⟩:=u0d (dst:=dst) (op:=op) (ty:=ty) (pos:=pos) (af:=af) hg
   by_cases h0:opk op=0
   ·rw[h0]at h
    obtain⟨a,c,d⟩:=h
    obtain⟨h1,h2⟩:=(p8J op).1 h0
    refine p8n ⟨_,b+k,G,aop P gl G op fr (look st) (b+k),[]⟩ rfl rfl ⟨c,g2.symm▸trivial,g1.symm,⟨r2q,fun _ h=>(by cases h)⟩,fun(hG:G=true)=>.inl ⟨h1,by subst hG;rfl,a hG,(fun hn=>by rw[h2]at hn;cases hn),rfl⟩,fun hn=>absurd (r7c h2) hn⟩ (fun _ hc=>absurd h1 hc) hk ?_
    rw[h2]
    exact fun hk'=>r0m l _ _ _ _ _ d hk'
   ·by_cases h1:opk op=1
    ·rw[h1]at h
     obtain⟨a,c,d⟩:=h
     obtain⟨h2,h3⟩:=(p8J op).2 h1
     refine p8n ⟨_,b+k,G,aop P gl G op fr (look st) (b+k),[]⟩ rfl rfl ⟨c,g2.symm▸trivial,g1.symm,⟨r2q,fun _ h=>(by cases h)⟩,fun(hG:G=true)=>.inl ⟨h2,by subst hG;rfl,a hG,fun hn=>hk k (Nat.le_refl _) ?_,rfl⟩,fun _=>h3⟩ (fun _ hc=>absurd h2 hc) hk ?_
     ·simp only[p6S,h3,cond_true];omega
     ·rw[h3]
      exact fun hk'=>r0m l _ _ _ _ _ d hk'
    ·obtain⟨f,args,ats,rfl⟩:=p8K h0 h1
     simp only[opk,u2U,r9f]at h
     cases hf:ev1 gl fr f<;>rw[hf]at h<;>first|exact h.elim|skip
     obtain⟨a,⟨c,d⟩,r,rd,ups,hp,hu,hrd,htr,hgf,e⟩:=h
     refine p8n ⟨_,b+k,G,⟨r,True,rd,none,none⟩,ups⟩ rfl rfl ⟨a,g2.symm▸trivial,g1.symm,⟨p1D rfl,hu⟩,fun(hG:G=true)=>.inr ⟨f,args.toList,_,_,_,r,rd,rfl,by subst hG;exact c,by subst hG;exact d,hf,hp hG,rfl,fun o ho=>⟨(hrd o ho).1,let ⟨ob,h1,h2⟩:=(hrd o ho).2;⟨ob,p9J.1 h1,h2⟩⟩⟩,fun hn=>absurd rfl hn⟩ (fun ht _=>htr ht) hk ?_
     have es:(bif G then puts ((LR.mk r True rd none none).app (b+k) st) ups else st)=puts st ups:=by
      cases G with
      |true=>rfl
      |false=>exact(hgf rfl).symm
     intro hk'
     simp only[Row.ap,Row.st,Row.fr,Row.d,es]at hk'⊢
     exact r0m l _ _ _ _ _ e hk'
theorem u0w:∀(l:List Row) (q:Nat),qOk q l→∀j (h:j<l.length),q≤(l[j]).q∧(needs (l[j]).o.op=true→(l[j]).q<q+p6S (l.map (·.o)))
 |x::l,q,h,0,_=>by
  refine⟨Nat.le_of_eq h.1.symm,fun hn=>?_⟩
  simp only[List.getElem_cons_zero]at hn⊢
  rw[h.1]
  simp only[List.map_cons,p6S,hn,cond_true];omega
 |x::l,q,h,j+1,hj=>by
  have:=u0w l _ h.2 j (by simpa using hj)
  simp only[List.getElem_cons_succ,List.map_cons,p6S]
  cases hn:needs x.o.op<;>simp only[hn,cond_true,cond_false]at this⊢
  ·exact⟨this.1,fun h=>by have:=this.2 h;omega⟩
  ·exact⟨by omega,fun h=>by have:=this.2 h;omega⟩
theorem u0x:∀(l:List Row) (q:Nat),qOk q l→∀i j (hi:i<l.length) (hj:j<l.length),i<j→needs (l[i]).o.op=true→(l[i]).q<(l[j]).q
 |x::l,q,h,0,j+1,_,hj,_,hn=>by
  simp only[List.getElem_cons_zero,List.getElem_cons_succ]at hn⊢
  have:=(u0w l _ h.2 j (by simpa using hj)).1
  rw[hn,cond_true]at this
  rw[h.1];omega
 |x::l,q,h,i+1,j+1,hi,hj,hij,hn=>by
  simp only[List.getElem_cons_succ]at hn⊢
  exact u0x l _ h.2 i j (by simpa using hi) (by simpa using hj) (by omega) hn
theorem u0y{rd up:List Nat}:∀ {lg:Log},u9d rd up lg→∀y∈lg,(∀o∈up,o∉y.1)∧∀o∈y.2,o∉rd
 |(rd',up')::l,h,y,hy=>by
  rcases List.mem_cons.1 hy with e|e
  ·subst e
   exact⟨h.1,h.2.1⟩
  ·exact u0y h.2.2 y e
theorem r5O{trk:List Nat}:∀(l:List Row) (i j:Nat) (h:j<l.length),trk.contains (i+j)=true→((l[j]).r.rd,upL (l[j]).r++(l[j]).ups.map (·.1))∈r0S trk i l
 |x::l,i,0,_,ht=>by simp only[r0S,Nat.add_zero]at ht ⊢; rw[ht];simp
 |x::l,i,j+1,hj,ht=>by
  have:=r5O l (i+1) j (by simpa using hj) (by rw[←ht];congr 1;omega)
  simp only[r0S,List.getElem_cons_succ]
  cases trk.contains i with
  |true=>exact List.mem_cons_of_mem _ this
  |false=>exact this
theorem u6S{x:Row}{o:Nat}(h:o∈x.wr):o∈upL x.r++x.ups.map (·.1):=by
 unfold Row.wr at h
 cases hG:x.G<;>rw[hG]at h<;>simp only[cond_true,cond_false]at h
 ·cases h
 ·exact h
theorem u6T{x:Row}{o:Nat}(h:o∈x.rd):o∈x.r.rd:=by
 unfold Row.rd at h
 cases hG:x.G<;>rw[hG]at h
 ·cases h
 ·exact h
theorem u0z{trk:List Nat}:∀(l:List Row) (i:Nat),u3U (r0S trk i l)→∀j m (hj:j<l.length) (hm:m<l.length),j<m→trk.contains (i+j)=true→trk.contains (i+m)=true→
 (∀o∈(l[j]).wr,o∉ (l[m]).rd)∧∀o∈(l[m]).wr,o∉ (l[j]).rd
 |x::l,i,h,0,m+1,_,hm,_,t1,t2=>by
  simp only[r0S,Nat.add_zero]at h t1
  rw[t1]at h
  have:=u0y h.1 _ (r5O l (i+1) m (by simpa using hm) (by rw[←t2];congr 1;omega))
  simp only[List.getElem_cons_zero,List.getElem_cons_succ]
  exact⟨fun o ho ho'=>this.1 o (u6S ho) (u6T ho'),fun o ho ho'=>this.2 o (u6S ho) (u6T ho')⟩
 |x::l,i,h,j+1,m+1,hj,hm,hjm,t1,t2=>by
  have h':u3U (r0S trk (i+1) l):=by
   simp only[r0S]at h
   cases ht:trk.contains i with
   |true=>rw[ht]at h;exact h.2
   |false=>rw[ht]at h;exact h
  simp only[List.getElem_cons_succ]
  exact u0z l (i+1) h' j m (by simpa using hj) (by simpa using hm) (by omega) (by rw[←t1];congr 1;omega) (by rw[←t2];congr 1;omega)
theorem r4j{rows:List Row}{s:Fr×St}(h:Trace P gl N ops b rows s)(j:Nat)(hj:j<rows.length):∃s':Fr×St,Fits P gl N ops b (rows[j]) s'.1 s'.2:=by
 have e:rows=rows.take j++rows[j]::rows.drop (j+1):=by rw[List.getElem_cons_drop,List.take_append_drop]
 rw[e]at h
 exact⟨_,r0Q _ h⟩
theorem r8c{fr:Fr}{a:Act}{w:World}:∀(n:Nat) {st:St} {μ:Mu},r0B gl N w0 μ0 st0 fr st a w μ→∃μ',r0B gl N w0 μ0 st0 fr (st++List.replicate n (some .resv)) a w μ'
 |0,st,μ,h=>⟨μ,by simpa using h⟩
 |n+1,st,μ,h=>by
  obtain⟨k1,k2⟩:=r2n h.sim
  obtain⟨μ',h'⟩:=r8c n (st:=st++[some .resv]) ⟨k1,h.glob.step k2,h.fr.step k2,h.size,h.defers,h.step.trans k2⟩
  exact⟨μ',by simpa[List.replicate_succ,List.append_assoc]using h'⟩
theorem r9h{fr:Fr}{a:Act}{w:World}{st:St}{μ:Mu}(h:r0B gl N w0 μ0 st0 fr st a w μ):r0B gl N w0 μ0 st0 fr st a { w with drawn:=w.drawn+1 } μ:=by
 have step:Step w μ st { w with drawn:=w.drawn+1 } μ st:=⟨Nat.le_refl _,rfl,rfl,⟨rfl,Nat.le_succ _⟩,fun _ _ _=>rfl,fun _ h=>.inl h,Nat.le_refl _,fun _ ob' _ h=>⟨ob',h,by
  cases ob' with
  |arr g n b es=>exact⟨Nat.le_refl _,fun _=>⟨rfl,rfl,rfl,rfl,fun blk base c ty _ hh=>⟨c,hh,rfl⟩⟩⟩
  |mps=>exact⟨rfl,rfl⟩
  |mpi=>exact⟨rfl,rfl,rfl⟩
  |sit=>rfl
  |resv=>trivial⟩⟩
 exact⟨⟨fun o ob ho=>(h.sim.obj o ob ho).step step (fun _ _ _=>rfl),h.sim.inj⟩,h.glob.step step,h.fr.step step,h.size,h.defers,h.step.trans step⟩
variable {n0:Nat} {keep:List Nat} {AQ':AQ} {fr:Fr} {st:St}
theorem r5P{l:List Oper}{K:Fr→St→Prop}{Q:Exit→Act→World→Prop}{a:Act}{w:World}{μ:Mu}(trk:List Nat)(n:Nat)(ho:p9q l.toArray trk=true)(hn:p6S l=n)
 (h:EvD P gl N l.toArray st.length trk K l 0 0 [] fr (st++List.replicate n (some .resv))) (hc:r0B gl N w0 μ0 st0 fr st a w μ) (hQ:∀fr st a w μ,K fr st→r0B gl N w0 μ0 st0 fr st a w μ→Q .normal a w):
 wpAny P .any l.toArray Q l.toArray.size (Array.replicate l.toArray.size false) a { w with drawn:=w.drawn+1 }:=by
 obtain⟨μ1,hc1⟩:=r8c n (r9h hc)
 have hget:∀m,m<n→(st++List.replicate n (some Ob.resv))[st.length+m]? =some (some .resv):=fun m hm=>by
  rw[List.getElem?_append_right (by omega),Nat.add_sub_cancel_left]
  simp[hm]
 obtain⟨rows,h1,h2,h3,h4,h5,h6⟩:=r0m l 0 0 [] fr _ h fun m _ hm=>hget m (by omega)
 have hlen:rows.length=l.length:=by rw[←h1];simp
 have hop:∀i (hi:i<rows.length),l.toArray[i]? =some (rows[i]).o:=fun i hi=>by
  have:l[i]? =(rows.map (·.o))[i]? :=by rw[h1]
  simpa[hi]using this
 have u3Y:=ho
 unfold p9q at u3Y
 simp only[List.all_eq_true,List.mem_range,Bool.and_eq_true]at u3Y
 have u9e:Good P gl N l.toArray st.length rows (fr,st++List.replicate n (some .resv)):=by
  refine⟨by simpa using h1.symm,h3,fun i j hi hj hne hni hnj=>?_,fun x hx hnx=>?_,fun i o hio e he hb=>?_,fun i j hi hj hij=>?_⟩
  ·rcases Nat.lt_or_gt_of_ne hne with hlt|hlt
   ·exact Nat.ne_of_lt (u0x rows _ h2 i j hi hj hlt hni)
   ·exact Nat.ne_of_gt (u0x rows _ h2 j i hj hi hlt hnj)
  ·obtain⟨j,hj,e⟩:=List.getElem_of_mem hx
   have:=u0w rows _ h2 j hj
   rw[e,h1,hn]at this
   obtain⟨q1,q2⟩:=this
   have q3:=q2 hnx
   have:=hget (x.q-st.length) (by omega)
   rw[show st.length+(x.q-st.length)=x.q by omega]at this
   exact⟨this,by omega⟩
  ·have hil:i<l.length:=by
    rcases Nat.lt_or_ge i l.length with h'|h'
    ·exact h'
    ·rw[Array.getElem?_eq_none (by simpa using h')]at hio;cases hio
   have:=(u3Y i (by simpa using hil)).1
   rw[hio]at this
   simp only[List.all_eq_true]at this
   have:=this e (by simpa using he)
   rw[hb]at this
   simp only[Bool.not_true,Bool.false_or]at this
   exact Nat.lt_of_lt_of_le (Nat.lt_succ_self _) (Nat.le_of_ble_eq_true this)
  ·have hp:=(u3Y j (by simpa[←hlen]using hj)).2 i hij
   unfold u3W at hp
   rw[hop i hi,hop j hj]at hp
   simp only[Bool.or_eq_true]at hp
   rcases hp with hp|hp
   ·exact .inl (r3i l.toArray.toList [] rfl (fun j hj=>absurd hj (Nat.not_lt_zero _)) j i hp)
   ·right
    simp only[Bool.and_eq_true,Bool.or_eq_true]at hp
    obtain⟨hp1,hp2⟩:=hp
    refine⟨hp1,?_⟩
    obtain⟨s1,f1⟩:=r4j h3 i hi
    obtain⟨s2,f2⟩:=r4j h3 j hj
    rcases hp2 with⟨hp2,hp3⟩|⟨t1,t2⟩
    ·have hcc:∀k (hk:k<rows.length),r3O trk k (rows[k]).o.op=false→p5K (rows[k]).o.op≠none→(rows[k]).r.rd=[]:=fun k hk hc hne=>by
      refine u3X rows 0 k hk h6 ?_ hne
      unfold r3O at hc
      have:(p5K (rows[k]).o.op).isSome=true:=by cases h:p5K (rows[k]).o.op with
       |none=>exact absurd h hne
       |some=>rfl
      rw[this,Bool.true_and]at hc
      rw[Nat.zero_add];exact hc
     refine⟨fun o a1 a2=>?_,fun o a1 a2=>?_⟩
     ·cases hw:(wrs (rows[i]).o.op||r3O trk i (rows[i]).o.op)with
      |false=>
       rw[Bool.or_eq_false_iff]at hw
       rw[r8b f1 hw.1 (hcc i hi hw.2)]at a1;cases a1
      |true=>cases hr:(rds (rows[j]).o.op||r3O trk j (rows[j]).o.op)with
       |false=>
        rw[Bool.or_eq_false_iff]at hr
        rw[r2t f2 hr.1 (hcc j hj hr.2)]at a2;cases a2
       |true=>rw[hw,hr]at hp2;cases hp2
     ·cases hw:(wrs (rows[j]).o.op||r3O trk j (rows[j]).o.op)with
      |false=>
       rw[Bool.or_eq_false_iff]at hw
       rw[r8b f2 hw.1 (hcc j hj hw.2)]at a1;cases a1
      |true=>cases hr:(rds (rows[i]).o.op||r3O trk i (rows[i]).o.op)with
       |false=>
        rw[Bool.or_eq_false_iff]at hr
        rw[r2t f1 hr.1 (hcc i hi hr.2)]at a2;cases a2
       |true=>rw[hw,hr]at hp3;cases hp3
    ·exact u0z rows 0 (by simpa using h5) i j hi hj hij (by simpa using t1) (by simpa using t2)
 have hl0:∀i,lst (Array.replicate l.toArray.size false) i=false:=fun i=>by
  unfold lst
  rw[Array.getD_eq_getD_getElem?]
  by_cases hi:i<l.length
  ·simp[hi]
  ·simp[hi]
 refine u0q u9e (fun a w μ hc=>hQ _ _ a w μ h4 hc) _ _ _ _ μ1 (by simp[hlen]) ?_ ?_ ?_ ?_
 ·have:∀n,cnt (lst (Array.replicate l.toArray.size false)) n≤n:=fun n=>by
   induction n with
   |zero=>exact Nat.le_refl _
   |succ n ih=>simp only[cnt,hl0,cond_false];omega
  have:=this rows.length
  simpa[hlen]using this
 ·intro k o hk;rw[hl0]at hk;cases hk
 ·intro i j hi hj hj';rw[hl0]at hj';cases hj'
 ·rw[r7T rows 0 _ fun k _ _=>hl0 k]
  exact hc1
theorem w0n{id:Nat}{l:List Oper}(trk:List Nat)(n:Nat)(hm:P.follows .mixedOrders=true)(ho:p9q l.toArray trk=true)(hn:p6S l=n)
 (h:EvD P gl N l.toArray st.length trk (fun fr st=>AQ' .normal (Fr.only keep fr) st) l 0 0 [] fr (st++List.replicate n (some .resv))):
 AWp P gl N n0 keep (.region id l.toArray true) AQ' fr st:=by
 intro w0 μ0 st0 hl a w ⟨μ,hc⟩
 exact wp_region_any hm (r5P trk n ho hn h hc fun fr st a w μ hk hc=>⟨_,_,hk,μ,hc.sim,hc.glob,hc.fr.only keep,hc.size,hc.defers,hc.step⟩)
end
section
variable {P:Program} {gl:Gl} {N n0:Nat} {ops:Array Oper} {keep:List Nat} {Q:AQ} {fr:Fr} {st:St} {lg:Log} {b q:Nat} {trk:List Nat} {K:Fr→St→Prop}
 {dst:Option Nat} {op:Op} {l:List Oper} {i k:Nat} {tr:Bool} {kk k1:Log→Fr→St→Prop} {d:D} {p:Prop} {rd:List Nat} {o:Nat} {ob:Ob} {G:Bool}
@[congr] theorem u6U{fr':Fr}{st':St}{lg':Log}{i' k':Nat}(h0:i=i')(h1:k=k')(h2:lg=lg')(h:fr=fr')(h3:st=st'):EvD P gl N ops b trk K l i k lg fr st=EvD P gl N ops b trk K l i' k' lg' fr' st':=by rw[h0,h1,h2,h,h3]
@[congr] theorem u5W{r r':LR}(h:r=r'):u2T N q tr dst lg fr st kk r=u2T N q tr dst lg fr st kk r':=by rw[h]
@[congr] theorem u4Y{r r':LR}(h:r=r'):r7k N q G tr dst lg fr st kk r=r7k N q G tr dst lg fr st kk r':=by rw[h]
@[congr] theorem u5X{n n':Nat}{q':Nat}{tr':Bool}(h1:q=q')(h2:tr=tr')(h:n=n'):u3V P gl N b q tr kk k1 dst op lg fr st n=u3V P gl N b q' tr' kk k1 dst op lg fr st n':=by rw[h,h1,h2]
@[congr] theorem u5Y{n n':Nat}{g g':Option Bool}{q':Nat}{tr':Bool}(h1:q=q')(h2:tr=tr')(h:n=n')(h3:g=g'):u2U P gl N b q tr kk k1 dst op lg fr st n g=u2U P gl N b q' tr' kk k1 dst op lg fr st n' g':=by rw[h,h1,h2,h3]
@[congr] theorem u5Z{a a':Prop}{f f':D}{args args':List D}(h:a=a')(h2:f=f')(h3:args=args'):u5V P gl N b tr dst lg fr st kk a f args=u5V P gl N b tr dst lg fr st kk a' f' args':=by rw[h,h2,h3]
@[congr] theorem u4Z{a a':Prop}{f f':D}{args args':List D}(h:a=a')(h2:f=f')(h3:args=args'):r9f P gl N b G tr dst lg fr st kk a f args=r9f P gl N b G tr dst lg fr st kk a' f' args':=by rw[h,h2,h3]
@[congr] theorem u5a{f:FuncId}{args args':List D}(h:args=args'):r9e P gl b tr dst lg fr st kk f args=r9e P gl b tr dst lg fr st kk f args':=by rw[h]
@[congr] theorem u3Z{f:FuncId}{args args':List D}(h:args=args'):r5N P gl b G tr dst lg fr st kk f args=r5N P gl b G tr dst lg fr st kk f args':=by rw[h]
theorem u9f:EvD P gl N ops b trk K [] i k lg fr st=(u3U lg∧K fr st):=rfl
theorem u9g{o:Oper}{l':List Oper}:EvD P gl N ops b trk K (List.append (o::l) l') i k lg fr st=EvD P gl N ops b trk K (o::List.append l l') i k lg fr st:=rfl
theorem u8w{l':List Oper}:EvD P gl N ops b trk K (List.append [] l') i k lg fr st=EvD P gl N ops b trk K l' i k lg fr st:=rfl
theorem u8x{ty:TypeId}{pos:String}{af:Array Edge}:EvD P gl N ops b trk K (⟨dst,op,ty,pos,af,none⟩::l) i k lg fr st=
 u3V P gl N b (b+k) (trk.contains i) (EvD P gl N ops b trk K l (i+1) k) (EvD P gl N ops b trk K l (i+1) (k+1)) dst op lg fr st (opk op):=rfl
theorem u6V{ty:TypeId}{pos:String}{af:Array Edge}{j:Nat}{want:Bool}:EvD P gl N ops b trk K (⟨dst,op,ty,pos,af,some (j,want)⟩::l) i k lg fr st=
 u2U P gl N b (b+k) (trk.contains i) (EvD P gl N ops b trk K l (i+1) k) (EvD P gl N ops b trk K l (i+1) (k+1)) dst op lg fr st (opk op) (u2D fr want (gslot ops j)):=rfl
theorem w0o:u3V P gl N b q tr kk k1 dst op lg fr st 0=u2T N q tr dst lg fr st kk (aop P gl true op fr (look st) q):=rfl
theorem w0p:u3V P gl N b q tr kk k1 dst op lg fr st 1=u2T N q tr dst lg fr st k1 (aop P gl true op fr (look st) q):=rfl
theorem w0q{f:Operand}{args:Array Operand}{ats:Array TypeId}:u3V P gl N b q tr kk k1 dst (.call ⟨.value f,args,ats⟩) lg fr st 2=u5V P gl N b tr dst lg fr st kk (eok gl true fr f∧(∀x∈args.toList,eok gl true fr x)) (ev1 gl fr f) (args.toList.map (ev1 gl fr)):=rfl
theorem w0r:u2U P gl N b q tr kk k1 dst op lg fr st 0 (some G)=r7k N q G tr dst lg fr st kk (aop P gl G op fr (look st) q):=rfl
theorem w0s:u2U P gl N b q tr kk k1 dst op lg fr st 1 (some G)=r7k N q G tr dst lg fr st k1 (aop P gl G op fr (look st) q):=rfl
theorem w0t{f:Operand}{args:Array Operand}{ats:Array TypeId}:u2U P gl N b q tr kk k1 dst (.call ⟨.value f,args,ats⟩) lg fr st 2 (some G)=r9f P gl N b G tr dst lg fr st kk (eok gl G fr f∧(∀x∈args.toList,eok gl G fr x)) (ev1 gl fr f) (args.toList.map (ev1 gl fr)):=rfl
theorem w0u:u2T N q tr dst lg fr st kk ⟨d,p,rd,none,none⟩=(p∧dlt N dst∧kk (p9p tr lg ⟨d,p,rd,none,none⟩ []) (fr.p8d dst d) st):=rfl
theorem w0v:u2T N q tr dst lg fr st kk ⟨d,p,rd,some (o,ob),none⟩=(p∧dlt N dst∧kk (p9p tr lg ⟨d,p,rd,some (o,ob),none⟩ []) (fr.p8d dst d) (st.set o (some ob))):=rfl
theorem w0w:u2T N q tr dst lg fr st kk ⟨d,p,rd,none,some ob⟩=(p∧dlt N dst∧kk (p9p tr lg ⟨d,p,rd,none,some ob⟩ []) (fr.p8d dst d) (st.set q (some ob))):=rfl
theorem u9h:r7k N q G tr dst lg fr st kk ⟨d,p,rd,none,none⟩=(p5Q G p∧dlt N dst∧kk (p9p tr lg ⟨d,p,rd,none,none⟩ []) (fr.p8d dst (.cond G d)) st):=by cases G<;>rfl
theorem u9i{g:FuncId}{first cap args:List D}:u5V P gl N b tr dst lg fr st kk p (.fn g first cap) args=(dlt N dst∧p∧r9e P gl b tr dst lg fr st kk g (first++args++cap)):=rfl
theorem u8y{g:FuncId}{first cap args:List D}:r9f P gl N b G tr dst lg fr st kk p (.fn g first cap) args=(dlt N dst∧p∧r5N P gl b G tr dst lg fr st kk g (first++args++cap)):=rfl
theorem u9j{r:LR}{ups:List (Nat×Ob)}:p9p false lg r ups=lg:=rfl
theorem p3w{f:FuncId}{args:List D}{r:D}(h:Pure P gl f args r)(hk:kk (p9p tr lg ⟨r,True,[],none,none⟩ []) (fr.p8d dst r) st):
 r9e P gl b tr dst lg fr st kk f args:=
 ⟨r,[],[],h.loc,fun _ h=>(by cases h),fun _ h=>(by cases h),fun _=>rfl,hk⟩
theorem p8L{f:FuncId}{args:List D}{r:D}(h:G=true→Pure P gl f args r)(hk:kk (p9p tr lg ⟨r,True,[],none,none⟩ []) (fr.p8d dst (.cond G r)) st):
 r5N P gl b G tr dst lg fr st kk f args:=
 ⟨r,[],[],fun e=>(h e).loc,fun _ h=>(by cases h),fun _ h=>(by cases h),fun _=>rfl,fun _=>rfl,hk⟩
theorem u9k{ups:List (Nat×Ob)}:p9p true lg ⟨d,p,rd,none,some ob⟩ ups=lg++[(rd,ups.map (·.1))]:=rfl
theorem u8z{ups:List (Nat×Ob)}:p9p true lg ⟨d,p,rd,none,none⟩ ups=lg++[(rd,ups.map (·.1))]:=rfl
theorem u8A{ups:List (Nat×Ob)}:p9p true lg ⟨d,p,rd,some (o,ob),none⟩ ups=lg++[(rd,o::ups.map (·.1))]:=rfl
theorem w1I{b:Bool}:(b==true)=b:=by cases b<;>rfl
theorem w1J{b:Bool}:(b==false)= !b:=by cases b<;>rfl
theorem u6a{l:List Oper}{j:Nat}:gslot l.toArray j=(l[j]?).bind (·.dst):=by simp[gslot]
theorem u8B{e:Nat}:(∃t,TK.slice e=TK.slice t)=True:=eq_true ⟨e,rfl⟩
theorem w0x{a c:Nat}:(∃t u,TK.map a c=TK.map t u)=True:=eq_true ⟨a,c,rfl⟩
end
attribute [go_sem] w1I w1J u6a Option.bind_some u8B w0x u2o p9U Int.toNat_natCast imp_self false_implies u9g u8w u9f u8x u6V w0o w0p w0q w0r w0s w0t w0u w0v w0w u9h u9i u8y u9j u9k u8z u8A u9d u3U Nat.add_zero
section
variable {P:Program} {gl:Gl} {N n0:Nat} {keep:List Nat} {Q:AQ} {fr:Fr} {st:St} {c:Code}
theorem u9l{t n b:Nat}{full:Bool}{es:List (List D)}(hg:fr.get t= .sl full n b es)(h:es.length*b≤top→AWp P gl N n0 keep c Q fr st):AWp P gl N n0 keep c Q fr st:=
 u4L (p:=es.length*b≤top) (fun w μ tmps _ hf=>by
  have:=hf t
  rw[hg]at this
  generalize tmps.getD t undef=v at this
  cases this with
  |tr h=>cases h;assumption) h
end
def u6W(n:Nat)(rows:List (List D)):Prop:=∀r∈rows,r.length=n∧r.all D.one=true
theorem u2W{α:Type}{l:List α}{k:Nat}{d:α}(h:k<l.length):l.getD k d∈l:=by
 rw[List.getD_eq_getElem?_getD,List.getElem?_eq_getElem h];exact List.getElem_mem h
theorem u6W.at{n:Nat}{rows:List (List D)}(h:u6W n rows){k:Nat}(hk:k<rows.length):∃r,rows.getD k []=r∧r.length=n∧r.take n=r∧r.all D.one=true∧r∈rows:=by
 have hm:=u2W (d:=[]) hk
 obtain⟨h1,h2⟩:=h _ hm
 exact⟨_,rfl,h1,List.take_of_length_le (by omega),h2,hm⟩
def u6X:Ob→Ob→Prop
 | .arr g n b es,.arr g' n' b' es'=>g'=g∧n'=n∧b'=b∧es'.length=es.length
 | .mps ag _,.mps ag' _=>ag'=ag
 | .mpi ag k _,.mpi ag' k' _=>ag'=ag∧k'=k
 | .sit s p,.sit s' p'=>s'=s∧p'=p
 | .resv,.resv=>True
 | _,_=>False
structure r9z(st T:St):Prop where
 len:T.length≤st.length
 sh:∀(o:Nat) (ob':Ob),T[o]? =some (some ob')→∃ob,st[o]? =some (some ob)∧u6X ob ob'
section
variable {w:World} {μ:Mu} {st T:St}
theorem r9z.own(hk:r9z st T){blk:Nat}(h:own μ T blk):own μ st blk:=by
 obtain⟨o,ob,base,h1,h2⟩:=h
 obtain⟨ob',h3,_⟩:=hk.sh o ob h1
 exact⟨o,ob',base,h3,h2⟩
theorem TR.kill(hk:r9z st T){v:Value}{d:D}(h:TR w (Am.own μ st) v d):TR w (Am.own μ T) v d:=
 h.mono (fun _ _ hn=>⟨rfl,fun h=>hn (hk.own h)⟩) (Nat.le_refl _)
theorem r9z.resv(hk:r9z st T){o:Nat}(h:st[o]? ≠some (some .resv)):T[o]? ≠some (some .resv):=fun e=>by
 obtain⟨ob,h1,h2⟩:=hk.sh o _ e
 cases ob<;>first|exact h2.elim|exact h h1
theorem VR.kill(hk:r9z st T){v:Value}{d:D}(h:VR w μ st v d)(hd:D.sc T.length d):VR w μ T v d:=by
 induction h with
 |any v=>exact .any v
 |tr h=>exact .tr (h.kill hk)
 |agg vs cs hs hc ih=>exact .agg vs cs hs (fun j hj=>ih j hj (p4R hd j hj))
 |tup vs cs hs hc ih=>exact .tup vs cs hs (fun j hj=>ih j hj (p4R hd j hj))
 |fn f vf vc first cap hf hc hfc hcc ih1 ih2=>exact .fn f vf vc first cap hf hc (fun j hj=>ih1 j hj (p4R hd.1 j hj)) (fun j hj=>ih2 j hj (p4R hd.2 j hj))
 |ref v full o g off len hv ho hr hg h=>
  refine .ref v full o g off len hv hd (hk.resv hr) (fun g' n b es e=>?_) (fun n b es e=>?_)
  ·obtain⟨ob,h1,h2⟩:=hk.sh o _ e
   cases ob<;>first|exact h2.elim|skip
   have:=hg _ _ _ _ h1
   rw[h2.1];exact this
  ·obtain⟨ob,h1,h2⟩:=hk.sh o _ e
   cases ob<;>first|exact h2.elim|skip
   obtain⟨rfl,rfl,rfl,e4⟩:=h2
   have:=h _ _ _ h1
   unfold p9E at this⊢
   rw[e4];exact this
 |ptr v o g i c hv ho hr hg h=>
  refine .ptr v o g i c hv hd (hk.resv hr) (fun g' n b es e=>?_) (fun n b es e=>?_)
  ·obtain⟨ob,h1,h2⟩:=hk.sh o _ e
   cases ob<;>first|exact h2.elim|skip
   have:=hg _ _ _ _ h1
   rw[h2.1];exact this
  ·obtain⟨ob,h1,h2⟩:=hk.sh o _ e
   cases ob<;>first|exact h2.elim|skip
   obtain⟨rfl,rfl,rfl,e4⟩:=h2
   exact h _ _ _ h1
 |mp v o hv ho hr h1 h2=>
  refine .mp v o hv hd (hk.resv hr) (fun ag es e=>?_) (fun ag k es e=>?_)
  ·obtain⟨ob,h3,h4⟩:=hk.sh o _ e
   cases ob<;>first|exact h4.elim|skip
   exact h1 _ _ h3
  ·obtain⟨ob,h3,h4⟩:=hk.sh o _ e
   cases ob<;>first|exact h4.elim|skip
   exact h2 _ _ _ h3
 |it v o hv ho hr h=>
  refine .it v o hv hd (hk.resv hr) (fun s p e=>?_)
  obtain⟨ob,h3,h4⟩:=hk.sh o _ e
  cases ob<;>first|exact h4.elim|skip
  exact h _ _ h3
 |cond v g d h h0 ih=>exact .cond v g d (fun e=>ih e (hd e)) h0
end
def D.imm:D→Bool
 | .agg _| .tup _| .fn _ _ _| .ref _ _ _ _ _| .ptr _ _ _ _| .mp _| .it _| .cond _ _=>false
 | _=>true
def Imm(rows:List (List D)):Prop:=∀e∈rows,e.all D.imm=true
mutual
inductive Up(st T:St):D→D→Prop
 |any (d:D):Up st T d .any
 |same (d:D):Up st T d d
 |i8S (full:Bool) (n b:Nat) (hb:1≤b):Up st T .i8S (.sl full n b [])
 |nref (full:Bool) (o g n b:Nat) (es:List (List D)) (h:T[o]? =some (some (.arr g n b es))):Up st T .i8S (.ref full o g 0 0)
 |full (f:Bool) (n b:Nat) (es:List (List D)):Up st T (.sl true n b es) (.sl f n b es)
 |ref (full:Bool) (o g off len n b:Nat) (es:List (List D)) (rows:List (List D)) (h:st[o]? =some (some (.arr g n b es))) (hT:look T o=none) (hb:1≤b) (hi:Imm es)
  (hr:rows=(es.drop off).take len):Up st T (.ref full o g off len) (.sl false n b rows)
 |r5Q (o g off len:Nat):Up st T (.ref true o g off len) (.ref false o g off len)
 |agg (cs cs':List D) (h:Ups st T cs cs'):Up st T (.agg cs) (.agg cs')
 |tup (cs cs':List D) (h:Ups st T cs cs') (hl:cs.all D.live=true):Up st T (.tup cs) (.tup cs')
 |cond (g:Bool) (d d':D) (h:Up st T d d'):Up st T (.cond g d) (.cond g d')
inductive Ups(st T:St):List D→List D→Prop
 |nil:Ups st T [] []
 |cons (d d':D) (l l':List D) (h:Up st T d d') (hl:Ups st T l l'):Ups st T (d::l) (d'::l')
end
theorem Ups.len{st T:St}:∀ {l l':List D},Ups st T l l'→l'.length=l.length
 | _,_,.nil=>rfl
 | _,_,.cons _ _ _ _ _ h=>by simp[h.len]
theorem Ups.get{st T:St}:∀ {l l':List D},Ups st T l l'→∀(j:Nat) (h:j<l.length) (h':j<l'.length),Up st T (l[j]) (l'[j])
 | _,_,.cons _ _ _ _ h _,0,_,_=>h
 | _,_,.cons _ _ _ _ _ h,j+1,hj,hj'=>h.get j (by simpa using hj) (by simpa using hj')
theorem Ups.refl{st T:St}:∀(l:List D),Ups st T l l
 | []=>.nil
 |d::l=>.cons d d l l (.same d) (Ups.refl l)
inductive p8o(st T:St):List (List D)→List (List D)→Prop
 |same (l:List (List D)):p8o st T l l
 |nil:p8o st T [] []
 |cons (e e':List D) (l l':List (List D)) (h:Ups st T e e') (hl:p8o st T l l'):p8o st T (e::l) (e'::l')
 |snoc (e e':List D) (l l':List (List D)) (hl:p8o st T l l') (h:Ups st T e e'):p8o st T (l++[e]) (l'++[e'])
theorem p8o.spec{st T:St}{l l':List (List D)}(h:p8o st T l l'):l'.length=l.length∧∀(j:Nat) (h:j<l.length) (h':j<l'.length),Ups st T (l[j]) (l'[j]):=by
 induction h with
 |same l=>exact⟨rfl,fun j _ _=>Ups.refl _⟩
 |nil=>exact⟨rfl,fun j h _=>absurd h (Nat.not_lt_zero _)⟩
 |cons e e' l l' h hl ih=>
  refine⟨by simp[ih.1],fun j hj hj'=>?_⟩
  cases j with
  |zero=>exact h
  |succ j=>exact ih.2 j (by simpa using hj) (by simpa using hj')
 |snoc e e' l l' hl h ih=>
  refine⟨by simp[ih.1],fun j hj hj'=>?_⟩
  by_cases hjl:j<l.length
  ·rw[List.getElem_append_left hjl,List.getElem_append_left (by rw[ih.1];exact hjl)]
   exact ih.2 j hjl _
  ·have:j=l.length:=by simp at hj;omega
   subst this
   have e1:(l++[e])[l.length]=e:=by simp
   have e2:(l'++[e'])[l.length]'hj'=e':=by rw[List.getElem_append_right (by omega)];simp
   rw[e1,e2];exact h
inductive u2X(st T:St):Ob→Ob→Prop
 |same (ob:Ob):u2X st T ob ob
 |arr (g n b:Nat) (es es':List (List D)) (h:p8o st T es es'):u2X st T (.arr g n b es) (.arr g n b es')
theorem u2X.sh{st T:St}{ob ob':Ob}(h:u2X st T ob ob'):u6X ob ob':=by
 cases h with
 |same=>cases ob<;>simp[u6X]
 |arr g n b es es' h=>exact⟨rfl,rfl,rfl,h.spec.1⟩
structure r9A(st T:St):Prop where
 len:T.length≤st.length
 obs:∀(o:Nat) (ob':Ob),T[o]? =some (some ob')→∃ob,st[o]? =some (some ob)∧u2X st T ob ob'
 sc:p9a T.length T
theorem r9A.kill{st T:St}(h:r9A st T):r9z st T:=⟨h.len,fun o ob' e=>let ⟨ob,h1,h2⟩:=h.obs o ob' e;⟨ob,h1,h2.sh⟩⟩
section
variable {w:World} {μ:Mu} {st T:St}
theorem u6Y{v:Value}{d:D}(h:VR w μ st v d)(hi:d.imm=true)(h1:v.oneCell'=true):TR w (own μ st) v d:=by
 cases h with
 |any=>exact .any _ h1
 |tr h=>exact h
 | _=>cases hi
theorem VR.up(hs:Sim w μ st)(hk:r9z st T){v:Value}{d d':D}(hu:Up st T d d')(h:VR w μ st v d)(hd:D.sc T.length d'):VR w μ T v d':=by
 induction h generalizing d' with
 |any v=>cases hu with
  |any=>exact .any _
  |same=>exact .any _
 |tr h=>
  cases hu with
  |any=>exact .any _
  |same=>exact .tr (h.kill hk)
  |i8S full n b hb=>cases h;exact .tr (.sl full n b [] none 0 0 (fun _ _=>undef) rfl (Nat.le_refl _) (fun _=>rfl) (by simp[top]) hb (fun e he=>by cases he) (.inl rfl) (fun i j hi=>absurd hi (Nat.not_lt_zero _)))
  |nref full o g n b es hT=>
   cases h
   refine .ref _ full o g 0 0 ⟨none,0,0,rfl⟩ (List.getElem?_eq_some_iff.1 hT).1 (by rw[hT];simp) (fun g' n' b' es' e=>?_) (fun n' b' es' e=>?_)
   ·rw[hT]at e;cases e;exact Nat.le_refl _
   ·exact⟨none,0,rfl,Nat.le_refl _,by omega,fun _=>rfl,.inl rfl⟩
  |full f n b es=>
   cases h.kill hk with
   |sl _ _ _ _ a len cap cv hlen hcap r2A hb hb1 hn ha hc=>exact .tr (.sl f n b es a len cap cv hlen hcap (fun _=>r2A rfl) hb hb1 hn ha hc)
  |ref=>cases h
  |r5Q=>cases h
  |agg=>cases h
  |tup=>cases h
  |cond=>cases h
 |agg vs cs hs' hc ih=>
  cases hu with
  |any=>exact .any _
  |same=>exact VR.kill hk (.agg vs cs hs' hc) hd
  |agg _ cs' hu=>exact .agg vs cs' (by rw[hu.len];exact hs') fun j hj=>ih j (by rw[←hu.len];exact hj) (hu.get j _ hj) (p4R hd j hj)
 |tup vs cs hs' hc ih=>
  cases hu with
  |any=>exact .any _
  |same=>exact VR.kill hk (.tup vs cs hs' hc) hd
  |tup _ cs' hu hl=>
   exact .tup vs cs' (fun j hj _=>hs' j (by rw[←hu.len];exact hj) (List.all_eq_true.1 hl _ (List.getElem_mem _))) fun j hj=>ih j (by rw[←hu.len];exact hj) (hu.get j _ hj) (p4R hd j hj)
 |fn f vf vc first cap hf hc hfc hcc ih1 ih2=>
  cases hu with
  |any=>exact .any _
  |same=>exact VR.kill hk (.fn f vf vc first cap hf hc hfc hcc) hd
 |ref v full o g off len hv ho hr hg h=>
  cases hu with
  |any=>exact .any _
  |same=>exact VR.kill hk (.ref v full o g off len hv ho hr hg h) hd
  |r5Q=>exact VR.kill hk (.ref v false o g off len hv ho hr hg fun n b es e=>by
   obtain⟨a,cap,h1,h2,h3,h4,h5⟩:=h n b es e
   exact⟨a,cap,h1,h2,h3,(fun hf=>by cases hf),h5⟩) hd
  |ref _ _ _ _ _ n b es rows hst hT hb hi r0i=>
   subst r0i
   obtain⟨a,cap,e1,e2,e3,e4,e5⟩:=h n b es hst
   subst e1
   have hA:r0z w μ st (μ o) n b es:=hs.obj o _ hst
   have hlen:((es.drop off).take len).length=len:=by simp;omega
   have hrow:∀i (hi:i<((es.drop off).take len).length),((es.drop off).take len)[i]=es[off+i]'(by rw[hlen]at hi;omega):=fun i hi=>by simp
   rcases hA.loc with⟨m0,e0⟩|⟨blk,base,c,ty,em,hh,hsz,hcell⟩
   ·subst e0
    have h0:len=0:=by simp at e3;omega
    subst h0
    refine .tr (.sl false n b _ a 0 cap (fun _ _=>undef) (by simp) e2 (fun hf=>by cases hf) (by simp) hb (fun e he=>by simp at he) (.inl (by simp)) (fun i j hi=>by simp at hi))
   ·have hcv:∀i j,∃u,∀(hi:i<len) (hj:j<n),c[base+((off+i)*n+j)]? =some u∧TR w (own μ T) u ((es[off+i]'(by omega))[j]'(by rw[hA.hn _ (List.getElem_mem _)];exact hj)):=fun i j=>by
     by_cases hc:i<len∧j<n
     ·obtain⟨u,h1,h2,h3⟩:=hcell (off+i) j (by omega) (by rw[hA.hn _ (List.getElem_mem _)];exact hc.2)
      refine⟨u,fun _ _=>⟨h1,?_⟩⟩
      have w0y:=hi (es[off+i]'(by omega)) (List.getElem_mem _)
      rw[List.all_eq_true]at w0y
      exact(u6Y h2 (w0y _ (List.getElem_mem _)) h3).kill hk
     ·exact⟨undef,fun hi hj=>absurd ⟨hi,hj⟩ hc⟩
    have w1K:∃cv:Nat→Nat→Value,∀i j (hi:i<len) (hj:j<n),c[base+((off+i)*n+j)]? =some (cv i j)∧TR w (own μ T) (cv i j) ((es[off+i]'(by omega))[j]'(by rw[hA.hn _ (List.getElem_mem _)];exact hj)):=
     ⟨fun i j=>Classical.choose (hcv i j),fun i j hi hj=>Classical.choose_spec (hcv i j) hi hj⟩
    obtain⟨cv,hcv⟩:=w1K
    have hlb:((es.drop off).take len).length*b≤top:=by
     rw[hlen]
     exact Nat.le_trans (Nat.mul_le_mul_right b (show len≤es.length by omega)) hA.w0c
    have hno:¬own μ T blk:=by
     rintro⟨o',ob',base',h1,h2⟩
     obtain⟨ob,h3,_⟩:=hk.sh o' ob' h1
     have:=hs.inj o o' _ _ blk base base' hst h3 em h2
     subst this
     rw[p9J.2 h1]at hT;cases hT
    refine .tr (.sl false n b _ a len cap cv hlen.symm e2 (fun hf=>by cases hf) hlb hb ?_ ?_ ?_)
    ·intro e he
     obtain⟨i,hi',e'⟩:=List.getElem_of_mem he
     rw[hrow i hi']at e'
     rw[←e'];exact hA.hn _ (List.getElem_mem _)
    ·by_cases h0:len=0
     ·subst h0;left;simp
     ·right
      rcases e5 with e5|⟨r1R,base',em',ea,c',ty',hh',hsz'⟩
      ·omega
      ·rw[em]at em';cases em'
       have hlt:blk<w.heap.size:=by
        rcases Nat.lt_or_ge blk w.heap.size with h|h
        ·exact h
        ·rw[Array.getElem?_eq_none h]at hh;cases hh
       refine⟨blk,base+off*n,ea,hlt,hno,fun i j hi' hj=>?_⟩
       rw[hlen]at hi'
       have:=(hcv i j hi' hj).1
       simp only[World.cell?, hh]
       rw[show base+off*n+(i*n+j)=base+((off+i)*n+j)by rw[Nat.add_mul];omega]
       simpa using this
    ·intro i j hi' hj
     have hi2:i<len:=by rw[hlen]at hi';exact hi'
     have hn2:(((es.drop off).take len)[i]).length=n:=by rw[hrow i hi'];exact hA.hn _ (List.getElem_mem _)
     have:=(hcv i j hi2 (by omega)).2
     have e:(((es.drop off).take len)[i])[j]=(es[off+i]'(by omega))[j]'(by rw[hA.hn _ (List.getElem_mem _)];omega):=by
      have:=hrow i hi'
      congr 1
     rw[e];exact this
 |ptr v o g i c hv ho hr hg h=>
  cases hu with
  |any=>exact .any _
  |same=>exact VR.kill hk (.ptr v o g i c hv ho hr hg h) hd
 |mp v o hv ho hr h1 h2=>
  cases hu with
  |any=>exact .any _
  |same=>exact VR.kill hk (.mp v o hv ho hr h1 h2) hd
 |it v o hv ho hr h=>
  cases hu with
  |any=>exact .any _
  |same=>exact VR.kill hk (.it v o hv ho hr h) hd
 |cond v g d h h0 ih=>
  cases hu with
  |any=>exact .any _
  |same=>exact VR.kill hk (.cond v g d h h0) hd
  |cond _ _ d' hu=>exact .cond v g d' (fun e=>ih e hu (hd e)) h0
end
section
variable {P:Program} {gl:Gl} {N n0:Nat} {keep:List Nat} {Q:AQ} {fr:Fr} {st:St} {c:Code} {w:World} {μ:Mu} {T:St}
theorem Sim.wk(hs:Sim w μ st)(hw:r9A st T):Sim w μ T:=by
 have hk:=hw.kill
 refine⟨fun o ob' h=>?_,fun o1 o2 ob1 ob2 blk b1 b2 h1 h2 m1 m2=>?_⟩
 ·obtain⟨ob,h1,h2⟩:=hw.obs o ob' h
  have hob:=hs.obj o ob h1
  have hsc:=hw.sc o ob' h
  cases h2 with
  |same=>
   cases ob' with
   |arr g n b es=>
    obtain⟨a1,a2,a3⟩:=(hob:r0z w μ st (μ o) n b es)
    refine(⟨a1,a2,?_⟩:r0z w μ T (μ o) n b es)
    rcases a3 with a3|⟨blk,base,cc,ty,em,hh,hsz,hc⟩
    ·exact .inl a3
    ·exact .inr ⟨blk,base,cc,ty,em,hh,hsz,fun i j hi hj=>let ⟨v,e,hv,h1⟩:=hc i j hi hj;⟨v,e,hv.kill hk (p4R (hsc _ (List.getElem_mem hi)) j hj),h1⟩⟩
   |mps ag es=>
    obtain⟨blk,ents,clock,em,hh,hsz,hc⟩:=(hob:r0A _ ag w μ _ (μ o) es).loc
    refine(⟨⟨blk,ents,clock,em,hh,hsz,fun i hi=>?_⟩⟩:r0A _ ag w μ T (μ o) es)
    obtain⟨e,e1,e2,e3⟩:=hc i hi
    refine⟨e,e1,e2,?_⟩
    have r7e:=hsc _ (List.getElem_mem hi)
    cases ag with
    |true=>exact VR.kill hk e3 r7e
    |false=>obtain⟨d,a,b⟩:=e3;rw[a]at r7e;exact⟨d,a,b.kill hk r7e.1⟩
   |mpi ag k es=>
    obtain⟨blk,ents,clock,em,hh,hsz,hc⟩:=(hob:r0A _ ag w μ _ (μ o) es).loc
    refine(⟨⟨blk,ents,clock,em,hh,hsz,fun i hi=>?_⟩⟩:r0A _ ag w μ T (μ o) es)
    obtain⟨e,e1,e2,e3⟩:=hc i hi
    refine⟨e,e1,e2,?_⟩
    have r7e:=hsc _ (List.getElem_mem hi)
    cases ag with
    |true=>exact VR.kill hk e3 r7e
    |false=>obtain⟨d,a,b⟩:=e3;rw[a]at r7e;exact⟨d,a,b.kill hk r7e.1⟩
   |sit=>exact hob
   |resv=>exact hob
  |arr g n b es es' hu=>
   obtain⟨u1,u2⟩:=hu.spec
   obtain⟨a1,a2,a3⟩:=(hob:r0z w μ st (μ o) n b es)
   refine(⟨by rw[u1];exact a1,fun e he=>?_,?_⟩:r0z w μ T (μ o) n b es')
   ·obtain⟨i,hi,e1⟩:=List.getElem_of_mem he
    rw[←e1,(u2 i (by omega) hi).len]
    exact a2 _ (List.getElem_mem _)
   ·rcases a3 with⟨a3,a4⟩|⟨blk,base,cc,ty,em,hh,hsz,hc⟩
    ·subst a4;left;exact⟨a3,List.eq_nil_of_length_eq_zero (by simpa using u1)⟩
    ·refine .inr ⟨blk,base,cc,ty,em,hh,by rw[u1];exact hsz,fun i j hi hj=>?_⟩
     have hu':=u2 i (by omega) hi
     obtain⟨v,e,hv,h1⟩:=hc i j (by omega) (by rw[←hu'.len];exact hj)
     exact⟨v,e,VR.up hs hk (hu'.get j _ hj) hv (p4R (hsc _ (List.getElem_mem hi)) j hj),h1⟩
 ·obtain⟨w2T,e1,_⟩:=hw.obs o1 ob1 h1
  obtain⟨w2U,e2,_⟩:=hw.obs o2 ob2 h2
  exact hs.inj o1 o2 _ _ blk b1 b2 e1 e2 m1 m2
theorem p5m.sh{w':World}{m m':Option (Nat×Nat)}{a ob ob':Ob}(h:p5m w w' m m' a ob)(hs:u6X ob ob'):p5m w w' m m' a ob':=by
 cases ob<;>cases ob'<;>first|exact hs.elim|skip
 ·obtain⟨rfl,rfl,rfl,e⟩:=hs
  cases a<;>first|exact h|skip
  refine⟨h.1,fun hg=>?_⟩
  obtain⟨a1,a2,a3,a4,a5⟩:=h.2 hg
  exact⟨a1,a2,by rw[e];exact a3,a4,a5⟩
 ·cases a<;>first|exact h|skip
  exact⟨h.1.trans (Eq.symm hs),h.2⟩
 ·cases a<;>first|exact h|skip
  exact⟨h.1.trans hs.1.symm,h.2.1.trans hs.2.symm,h.2.2⟩
 ·cases a<;>exact h
 ·exact h
theorem Step.wk{w0:World}{μ0:Mu}{st0:St}(hl:st0.length≤T.length)(hw:r9A st T)(h:Step w0 μ0 st0 w μ st):Step w0 μ0 st0 w μ T where
 size:=h.size
 os:=h.os
 output:=h.output
 tape:=h.tape
 imm:=h.imm
 own:=fun blk hb=>h.own blk (hw.kill.own hb)
 len:=hl
 keep:=fun o ob' ho h1=>by
  obtain⟨ob,e1,e2⟩:=hw.obs o ob' h1
  obtain⟨a,a1,a2⟩:=h.keep o ob ho e1
  exact⟨a,a1,a2.sh e2.sh⟩
def r6C(st T:St)(fr:Fr):Fr→Prop
 | []=>True
 |(t,d)::r=>Up st T (fr.get t) d∧r6C st T fr r
theorem r6C.get:∀ {F:Fr},r6C st T fr F→∀t,Up st T (fr.get t) (F.get t)
 | [],_,_=>.any _
 |(k,d)::r,h,t=>by
  simp only[Fr.get]
  split
  ·rename_i e;subst e;exact h.1
  ·exact h.2.get t
structure Bk(n0:Nat)(F:Fr)(T:St)(fr:Fr)(st:St):Prop where
 len:n0≤T.length
 wk:r9A st T
 up:r6C st T fr F
 sc:Fr.sc T.length F
theorem u6Z{F:Fr}(hb:Bk n0 F T fr st)(h:AWp P gl N n0 keep c Q F T):AWp P gl N n0 keep c Q fr st:=
 fun w0 μ0 st0 hl0 a w ⟨μ,hc⟩=>h w0 μ0 st0 hl0 a w ⟨μ,hc.sim.wk hb.wk,r4I hc.glob (fun _ h=>hb.wk.kill.own h),
  fun t=>VR.up hc.sim hb.wk.kill (hb.up.get t) (hc.fr t) (Fr.u0b F hb.sc t),hc.size,hc.defers,Step.wk (by rw[hl0];exact hb.len) hb.wk hc.step⟩
def fin(n0:Nat)(R:D→St→Prop)(d:D)(st:St):Prop:=∃T d',n0≤T.length∧r9A st T∧Up st T d d'∧D.sc T.length d'∧R d' T
@[congr] theorem u7a{n:Nat}{st st':St}{R:D→St→Prop}{d d':D}(h:d=d')(h2:st=st'):fin n R d st=fin n R d' st':=by rw[h,h2]
def u8C(P:Program)(rs:List ResultVar)(n0:Nat)(R:D→St→Prop):AQ
 | .exit _,_,_=>False
 | _,fr,st=>u5T P fr st rs∧fin n0 R (rsD P fr st rs) st
theorem u5b{f:FuncId}{fn:Func}{c:Code}{args:List D}{R:D→St→Prop}{rs:List ResultVar}(keep:List Nat)(hf:P.funcs[f]? =some fn)(hb:fn.body=some c)(hN:fn.ntmps=N)(hr:fn.results.toList=rs)
 (hname:(fn.name != "runtime.NumGoroutine")=true) (hlen:Nat.ble args.length N=true)
 (h:p9a st.length st→AWp P gl N st.length keep c (u8C P rs st.length R) (r4K 0 args) st):Spec P gl f args st R:=by
 subst hN hr
 have hlen:=Nat.le_of_ble_eq_true hlen
 refine⟨trivial,fun w μ vs hs hg hsz hvs=>.inl ⟨by unfold r0b;rw[hf];simp[hb,hname],?_⟩⟩
 refine calls_of_wp hf hb ?_
 have hc:r0B gl fn.ntmps w μ st (r4K 0 args) st { tmps:=vs++Array.replicate (fn.ntmps-vs.size) undef,defers:=[] } w μ:=by
  refine⟨hs,hg,fun t=>?_,by simp;omega,rfl,Step.refl _ _ _⟩
  rw[r5I]
  split
  ·rename_i ht
   have hts:t<vs.size:=by rw[hsz];omega
   have:=hvs t (by omega)
   rw[Array.getD_eq_getD_getElem?, Array.getElem?_append_left hts, ←Array.getD_eq_getD_getElem?]
   simpa using this
  ·exact .any _
 refine wp_mono (h hs.sc w μ st rfl _ w ⟨μ,hc⟩) fun e a' w' hq=>?_
 have fin:∀fr' st',u8C P fn.results.toList st.length R .ret fr' st'→r5F gl fn.ntmps w μ st fr' st' a' w'→a'.defers=[]∧∃v,(results fn a'.tmps).run P w'= .ok v w'∧
  ∃v' d r9E μ',Ending.returned v= .returned v'∧R d r9E∧Sim w' μ' r9E∧Step w μ st w' μ' r9E∧VR w' μ' r9E v' d:=by
  rintro fr' st' ⟨w1L,T,d',hle,hw,hu,hsc,hR⟩ ⟨μ',hc'⟩
  obtain⟨v,h1,h2⟩:=u0c hc'.sim hc'.fr (r7M _ w1L)
  exact⟨hc'.defers,v,h1,v,d',T,μ',rfl,hR,hc'.sim.wk hw,Step.wk hle hw hc'.step,VR.up hc'.sim hw.kill hu h2 hsc⟩
 cases e with
 |normal=>obtain⟨fr',st',h1,h2⟩:=hq;exact fin fr' st' h1 h2
 |ret=>obtain⟨fr',st',h1,h2⟩:=hq;exact fin fr' st' h1 h2
 |exit id=>obtain⟨fr',st',h1,h2⟩:=hq;exact h1.elim
 |goto=>exact hq.elim
 |panic=>exact hq.elim
 |outgrown=>exact hq.elim
inductive UpL(st T:St):St→St→Prop
 |nil (l:St):UpL st T l []
 |dead (x:Option Ob) (l l':St) (h:UpL st T l l'):UpL st T (x::l) (none::l')
 |live (ob ob':Ob) (l l':St) (h:u2X st T ob ob') (hl:UpL st T l l'):UpL st T (some ob::l) (some ob'::l')
theorem UpL.lv{ob:Ob}{l l2:St}(h:UpL st T l l2):UpL st T (some ob::l) (some ob::l2):=.live _ _ _ _ (.same _) h
theorem u2X.s{ob:Ob}:u2X st T ob ob:=.same _
theorem Up.s{d:D}:Up st T d d:=.same _
theorem UpL.len:∀ {l l':St},UpL st T l l'→l'.length≤l.length
 | _,_,.nil _=>Nat.zero_le _
 | _,_,.dead _ _ _ h=>by simp[h.len]
 | _,_,.live _ _ _ _ _ h=>by simp[h.len]
theorem UpL.get:∀ {l l':St},UpL st T l l'→∀(j:Nat) (ob':Ob),l'[j]? =some (some ob')→∃ob,l[j]? =some (some ob)∧u2X st T ob ob'
 | _,_,.nil _,j,ob',h=>by simp at h
 | _,_,.dead _ _ _ h,0,ob',e=>by simp at e
 | _,_,.dead _ _ _ h,j+1,ob',e=>by simpa using h.get j ob' (by simpa using e)
 | _,_,.live ob ob2 _ _ h _,0,ob',e=>by simp at e;subst e;exact⟨ob,rfl,h⟩
 | _,_,.live _ _ _ _ _ h,j+1,ob',e=>by simpa using h.get j ob' (by simpa using e)
def ScL(n:Nat):St→Prop
 | []=>True
 |none::l=>ScL n l
 |some ob::l=>ob.sc n∧ScL n l
theorem ScL.get{n:Nat}:∀ {l:St},ScL n l→∀(j:Nat) (ob:Ob),l[j]? =some (some ob)→ob.sc n
 |none::l,h,0,ob,e=>by simp at e
 |some a::l,h,0,ob,e=>by simp at e;subst e;exact h.1
 |none::l,h,j+1,ob,e=>ScL.get (l:=l) h j ob (by simpa using e)
 |some a::l,h,j+1,ob,e=>ScL.get (l:=l) h.2 j ob (by simpa using e)
end
mutual
theorem D.u0A{n m:Nat}(h:n≤m):∀(d:D),D.sc n d→D.sc m d
 | .agg cs,hd=>D.r1W h cs hd
 | .tup cs,hd=>D.r1W h cs hd
 | .fn _ a b,hd=>⟨D.r1W h a hd.1,D.r1W h b hd.2⟩
 | .ref _ o _ _ _,hd=>(Nat.lt_of_lt_of_le hd h:o<m)
 | .ptr o _ _ _,hd=>(Nat.lt_of_lt_of_le hd h:o<m)
 | .mp o,hd=>(Nat.lt_of_lt_of_le hd h:o<m)
 | .it o,hd=>(Nat.lt_of_lt_of_le hd h:o<m)
 | .cond _ d,hd=>fun e=>D.u0A h d (hd e)
 | .any,_=>trivial
 | .bool _,_=>trivial
 | .int _ _,_=>trivial
 | .str _,_=>trivial
 | .p9S,_=>trivial
 | .i8S,_=>trivial
 | .p9T,_=>trivial
 | .r5t,_=>trivial
 | .sl _ _ _ _,_=>trivial
 | .r1o _,_=>trivial
theorem D.r1W{n m:Nat}(h:n≤m):∀(l:List D),D.scs n l→D.scs m l
 | [],_=>trivial
 |d::l,hd=>⟨D.u0A h d hd.1,D.r1W h l hd.2⟩
end
theorem Ob.u0A{n m:Nat}(h:n≤m){ob:Ob}(hs:ob.sc n):ob.sc m:=by
 cases ob with
 |arr=>exact fun e he=>D.r1W h _ (hs e he)
 |mps=>exact fun e he=>D.r1W h _ (hs e he)
 |mpi=>exact fun e he=>D.r1W h _ (hs e he)
 |sit=>trivial
 |resv=>trivial
theorem u0B{d:D}(h:d.imm=true)(n:Nat):D.sc n d:=by cases d<;>first|trivial|cases h
theorem Imm.sc{rows:List (List D)}(h:Imm rows)(n:Nat):∀e∈rows,D.scs n e:=fun e he=>
 r0L fun j hj=>u0B (List.all_eq_true.1 (h e he) _ (List.getElem_mem _)) n
theorem u2Y{s l l':St}(hs:p9a s.length s)(hu:UpL (s++l) (s++l') l l')(hl:ScL (s++l').length l'):r9A (s++l) (s++l'):=by
 refine⟨by simp;exact hu.len,fun o ob' h=>?_,fun o ob' h=>?_⟩
 ·rcases Nat.lt_or_ge o s.length with ho|ho
  ·rw[List.getElem?_append_left ho]at h
   exact⟨ob',by rw[List.getElem?_append_left ho];exact h,.same _⟩
  ·rw[List.getElem?_append_right ho]at h
   obtain⟨ob,h1,h2⟩:=hu.get _ _ h
   exact⟨ob,by rw[List.getElem?_append_right ho];exact h1,h2⟩
 ·rcases Nat.lt_or_ge o s.length with ho|ho
  ·rw[List.getElem?_append_left ho]at h
   exact Ob.u0A (by simp) (hs o ob' h)
  ·rw[List.getElem?_append_right ho]at h
   exact hl.get _ _ h
theorem r1X{s l:St}(hs:p9a s.length s):r9A (s++l) s:=by
 have:=u2Y (l:=l) (l':=[]) hs (.nil l) trivial
 rwa[List.append_nil]at this
theorem r4R{s:St}(hs:p9a s.length s):r9A s s:=by
 have:=r1X (l:=[]) hs
 rwa[List.append_nil]at this
end Go.Am
