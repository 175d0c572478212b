/-
 AM, part 22: the evaluator's equations, in the form in which 'simp only' runs them.
-/
import Derived.Orders
import Derived.Test.YtdjnbjnlnjhllaaDoorFBAm1
set_option linter.unusedVariables false
set_option linter.unusedSimpArgs false
namespace Go.Am
open Go
def opk:Op→Nat
 | .call { callee:=.value _,.. }=>2
 | .alloc _| .box _ _| .buildSlice _ _ _| .makeMap _ _| .makeSlice _ _ _| .range _ _| .call { callee:=.builtin .append,.. }=>1
 | _=>0
section
variable {P:Program} {gl:Gl} {N n0:Nat} {ops:Array Oper} {keep:List Nat} {Q:AQ} {fr:Fr} {st:St}
theorem Uu(op:Op):(opk op=0→Rs op=none∧needs op=false)∧(opk op=1→Rs op=none∧needs op=true):=by
 cases op<;>first|exact⟨fun _=>⟨rfl,rfl⟩,fun h=>by cases h⟩|exact⟨fun h=>(by cases h),fun _=>⟨rfl,rfl⟩⟩|skip
 rename_i c
 obtain⟨callee,args,argTypes⟩:=c
 cases callee with
 |builtin b=>cases b<;>first|exact⟨fun _=>⟨rfl,rfl⟩,fun h=>by cases h⟩|exact⟨fun h=>(by cases h),fun _=>⟨rfl,rfl⟩⟩
 |value f=>exact⟨fun h=>(by cases h),fun h=>by cases h⟩
 |invoke r m=>exact⟨fun _=>⟨rfl,rfl⟩,fun h=>by cases h⟩
def i1N(want:Bool):D→Option Bool
 | .bool b=>some (b==want)
 | .cond c (.bool b)=>some (c&&(b==want))
 | _=>none
def dlt(N:Nat):Option Nat→Prop
 |some t=>t<N
 |none=>True
def gslot(ops:Array Oper)(j:Nat):Option Nat:=(ops[j]?).bind (·.dst)
def EvR(N:Nat)(dst:Option Nat)(fr:Fr)(st:St)(k:Fr→St→Prop)(r:LR):Prop:=r.ok∧dlt N dst∧k (fr.TT dst r.d) (r.d2T st)
def EvC(P:Program)(gl:Gl)(N:Nat)(dst:Option Nat)(fr:Fr)(st:St)(k:Fr→St→Prop)(ok:Prop)(f:D)(args:List D):Prop:=
 match f with
 | .fn g first cap=>dlt N dst∧ok∧Spec P gl g (first++args++cap) st fun d st'=>k (fr.TT dst d) st'
 | _=>False
def d1m(G:Bool)(p:Prop):Prop:=G=true→p
def i1O(N:Nat)(G:Bool)(dst:Option Nat)(fr:Fr)(st:St)(k:Fr→St→Prop)(r:LR):Prop:=
 d1m G r.ok∧dlt N dst∧k (fr.TT dst (.cond G r.d)) (bif G then r.d2T st else st)
def d4P(P:Program)(gl:Gl)(G:Bool)(dst:Option Nat)(fr:Fr)(st:St)(k:Fr→St→Prop)(g:FuncId)(args:List D):Prop:=
 ∃r ups,(G=true→Spec P gl g args st fun d st'=>d=r∧st'=puts st ups)∧(G=false→puts st ups=st)∧k (fr.TT dst (.cond G r)) (puts st ups)
def i1h(P:Program)(gl:Gl)(N:Nat)(G:Bool)(dst:Option Nat)(fr:Fr)(st:St)(k:Fr→St→Prop)(ok:Prop)(f:D)(args:List D):Prop:=
 match f with
 | .fn g first cap=>dlt N dst∧ok∧d4P P gl G dst fr st k g (first++args++cap)
 | _=>False
def Ev0(P:Program)(gl:Gl)(N:Nat)(k:Fr→St→Prop)(dst:Option Nat)(op:Op)(fr:Fr)(st:St):Nat→Prop
 |0=>EvR N dst fr st k (aop P gl true op fr (look st) 0)
 |1=>EvR N dst fr st k (aop P gl true op fr (look (st++[some .resv])) st.length)
 | _=>match op with
  | .call ⟨.value f,args,_⟩=>EvC P gl N dst fr st k (eok gl true fr f∧(∀x∈args.toList,eok gl true fr x)) (ev1 gl fr f) (args.toList.map (ev1 gl fr))
  | _=>False
def EvG(P:Program)(gl:Gl)(N:Nat)(k:Fr→St→Prop)(dst:Option Nat)(op:Op)(fr:Fr)(st:St):Nat→Option Bool→Prop
 |0,some G=>i1O N G dst fr st k (aop P gl G op fr (look st) 0)
 |2,some G=>match op with
  | .call ⟨.value f,args,_⟩=>i1h P gl N G dst fr st k (eok gl G fr f∧(∀x∈args.toList,eok gl G fr x)) (ev1 gl fr f) (args.toList.map (ev1 gl fr))
  | _=>False
 | _,_=>False
def d8f(fr:Fr)(want:Bool):Option Nat→Option Bool
 |some t=>i1N want (fr.get t)
 |none=>none
def Ev(P:Program)(gl:Gl)(N:Nat)(ops:Array Oper)(K:Fr→St→Prop):List Oper→Fr→St→Prop
 | [],fr,st=>K fr st
 |⟨dst,op,_,_,_,none⟩::l,fr,st=>Ev0 P gl N (Ev P gl N ops K l) dst op fr st (opk op)
 |⟨dst,op,_,_,_,some (j,want)⟩::l,fr,st=>EvG P gl N (Ev P gl N ops K l) dst op fr st (opk op) (d8f fr want (gslot ops j))
theorem d5U{fr:Fr}{dst:Option Nat}{op:Op}{ty:TypeId}{pos:String}{af:Array Edge}{j:Nat}{want G:Bool}(hg:d8f fr want (gslot ops j)=some G):
 guardOf ops fr ⟨dst,op,ty,pos,af,some (j,want)⟩=G∧RL ops fr ⟨dst,op,ty,pos,af,some (j,want)⟩=True:=by
 unfold gslot at hg
 cases hj:(ops[j]?).bind (·.dst)with
 |none=>rw[hj]at hg;cases hg
 |some t=>
  rw[hj]at hg
  simp only[guardOf,RL,hj]
  simp only[d8f]at hg
  cases hd:fr.get t<;>rw[hd]at hg<;>simp only[i1N]at hg<;>first|(cases hg;done)|skip
  ·cases hg;exact⟨rfl,rfl⟩
  ·rename_i c d
   cases d<;>simp only at hg<;>first|(cases hg;done)|skip
   cases hg;exact⟨rfl,rfl⟩
theorem Uv{op:Op}(h:opk op≠0)(h1:opk op≠1):∃f args ats,op= .call ⟨.value f,args,ats⟩:=by
 cases op<;>first|exact absurd rfl h|exact absurd rfl h1|skip
 rename_i c
 obtain⟨callee,args,argTypes⟩:=c
 cases callee with
 |builtin b=>cases b<;>first|exact absurd rfl h|exact absurd rfl h1
 |value f=>exact⟨f,args,argTypes,rfl⟩
 |invoke r m=>exact absurd rfl h
theorem YZ{K:Fr→St→Prop}:∀(l:List Oper) (fr:Fr) (st:St) (ok:Prop),ok→Ev P gl N ops K l fr st→Run P gl N ops l ⟨fr,st,ok⟩ K
 | [],fr,st,ok,hok,h=>⟨hok,h⟩
 |⟨dst,op,ty,pos,af,none⟩::l,fr,st,ok,hok,h=>by
  simp only[Ev]at h
  by_cases h0:opk op=0
  ·rw[h0]at h
   obtain⟨a,b,c⟩:=h
   obtain⟨h1,h2⟩:=(Uu op).1 h0
   simp only[Run,h1]
   have:=YZ l _ _ (ok∧Wm N ⟨dst,op,ty,pos,af,none⟩∧True∧(true=true→(aop P gl true op fr (look st) 0).ok)) ⟨hok,b,trivial,fun _=>a⟩ c
   simpa only[Qj,h2,guardOf,RL,d5t,cond_true,Bool.false_eq_true,if_false]using this
  ·by_cases h1:opk op=1
   ·rw[h1]at h
    obtain⟨a,b,c⟩:=h
    obtain⟨h1,h2⟩:=(Uu op).2 h1
    simp only[Run,h1]
    have:=YZ l _ _ (ok∧Wm N ⟨dst,op,ty,pos,af,none⟩∧True∧(true=true→(aop P gl true op fr (look (st++[some .resv])) st.length).ok)) ⟨hok,b,trivial,fun _=>a⟩ c
    simpa only[Qj,h2,guardOf,RL,d5t,cond_true,if_true]using this
   ·obtain⟨f,args,ats,rfl⟩:=Uv h0 h1
    simp only[opk,Ev0,EvC]at h
    simp only[Run,Rs,guardOf,RL]
    cases hf:ev1 gl fr f<;>rw[hf]at h<;>first|exact h.elim|skip
    obtain⟨a,⟨b,c⟩,d⟩:=h
    exact⟨hok,a,trivial,b,c,d.mono fun d st' h=>YZ l _ _ True trivial h⟩
 |⟨dst,op,ty,pos,af,some (j,want)⟩::l,fr,st,ok,hok,h=>by
  simp only[Ev]at h
  cases hg:d8f fr want (gslot ops j)with
  |none=>rw[hg]at h;unfold EvG at h;split at h<;>first|exact h.elim|(rename_i e;cases e)
  |some G=>
   rw[hg]at h
   obtain⟨g1,g2⟩:=d5U (dst:=dst) (op:=op) (ty:=ty) (pos:=pos) (af:=af) hg
   by_cases h0:opk op=0
   ·rw[h0]at h
    obtain⟨a,b,c⟩:=h
    obtain⟨h1,h2⟩:=(Uu op).1 h0
    simp only[Run,h1]
    have:=YZ l _ _ (ok∧Wm N ⟨dst,op,ty,pos,af,some (j,want)⟩∧True∧(G=true→(aop P gl G op fr (look st) 0).ok)) ⟨hok,b,trivial,a⟩ c
    simpa only[Qj,h2,g1,g2,d5t,Bool.false_eq_true,if_false]using this
   ·by_cases h1:opk op=1
    ·rw[h1]at h;exact h.elim
    ·obtain⟨f,args,ats,rfl⟩:=Uv h0 h1
     simp only[opk,EvG,i1h]at h
     simp only[Run,Rs,g1,g2]
     cases hf:ev1 gl fr f<;>rw[hf]at h<;>first|exact h.elim|skip
     obtain⟨a,⟨b,c⟩,r,ups,d,d2,e⟩:=h
     exact⟨hok,a,trivial,b,c,r,ups,d,d2,YZ l _ _ True trivial e⟩
theorem er_{id:Nat}{l:List Oper}(h:Ev P gl N l.toArray (fun fr st=>Q .normal (Fr.only keep fr) st) l fr st):AWp P gl N n0 keep (.region id l.toArray false) Q fr st:=
 d4O (YZ _ _ _ _ trivial h)
def Then(P:Program)(gl:Gl)(N n0:Nat)(keep:List Nat)(c:Code)(Q:AQ)(fr:Fr)(st:St):Prop:=AWp P gl N n0 keep c Q (Fr.only keep fr) st
theorem then_eq{c:Code}:Then P gl N n0 keep c Q fr st=AWp P gl N n0 keep c Q (Fr.only keep fr) st:=rfl
@[congr] theorem i3v{l:List Oper}{K:Fr→St→Prop}{fr fr':Fr}{st st':St}(h:fr=fr')(h2:st=st'):Ev P gl N ops K l fr st=Ev P gl N ops K l fr' st':=by rw[h,h2]
@[congr] theorem i1P{dst:Option Nat}{k:Fr→St→Prop}{r r':LR}(h:r=r'):EvR N dst fr st k r=EvR N dst fr st k r':=by rw[h]
@[congr] theorem i1i{G:Bool}{dst:Option Nat}{k:Fr→St→Prop}{r r':LR}(h:r=r'):i1O N G dst fr st k r=i1O N G dst fr st k r':=by rw[h]
@[congr] theorem i1Q{dst:Option Nat}{op:Op}{k:Fr→St→Prop}{n n':Nat}(h:n=n'):Ev0 P gl N k dst op fr st n=Ev0 P gl N k dst op fr st n':=by rw[h]
@[congr] theorem i1R{dst:Option Nat}{op:Op}{k:Fr→St→Prop}{n n':Nat}{g g':Option Bool}(h:n=n')(h2:g=g'):EvG P gl N k dst op fr st n g=EvG P gl N k dst op fr st n' g':=by rw[h,h2]
@[congr] theorem i1S{dst:Option Nat}{k:Fr→St→Prop}{a a':Prop}{f f':D}{args args':List D}(h:a=a')(h2:f=f')(h3:args=args'):EvC P gl N dst fr st k a f args=EvC P gl N dst fr st k a' f' args':=by rw[h,h2,h3]
@[congr] theorem i1j{G:Bool}{dst:Option Nat}{k:Fr→St→Prop}{a a':Prop}{f f':D}{args args':List D}(h:a=a')(h2:f=f')(h3:args=args'):i1h P gl N G dst fr st k a f args=i1h P gl N G dst fr st k a' f' args':=by rw[h,h2,h3]
@[congr] theorem i1T{c:Code}{fr fr':Fr}{st st':St}(h:fr=fr')(h2:st=st'):AWp P gl N n0 keep c Q fr st=AWp P gl N n0 keep c Q fr' st':=by rw[h,h2]
@[congr] theorem i1k{f:FuncId}{args args':List D}{st st':St}{R:D→St→Prop}(h:args=args')(h2:st=st'):Spec P gl f args st R=Spec P gl f args' st' R:=by rw[h,h2]
def rsD(P:Program)(fr:Fr)(st:St):List ResultVar→D
 | [r]=>(SY P st fr r).d
 |rs=>.tup (rs.map fun r=>(SY P st fr r).d)
def i1l(P:Program)(fr:Fr)(st:St):List ResultVar→Prop
 | []=>True
 |r::l=>(SY P st fr r).ok∧i1l P fr st l
def ends(n0:Nat)(R:D→St→Prop)(d:D)(st:St):Prop:=∃s t,st=s++t∧n0≤s.length∧D.sc s.length d∧UN s.length s∧R d s
def i3Z(P:Program)(rs:List ResultVar)(n0:Nat)(R:D→St→Prop):AQ
 | .exit _,_,_=>False
 | _,fr,st=>i1l P fr st rs∧ends n0 R (rsD P fr st rs) st
theorem d3H{fr:Fr}{st:St}:∀(rs:List ResultVar),i1l P fr st rs→∀r∈rs,(SY P st fr r).ok
 |r::l,h,x,hx=>by
  rcases List.mem_cons.1 hx with e|e
  ·subst e;exact h.1
  ·exact d3H l h.2 x e
@[congr] theorem i1m{n:Nat}{st st':St}{R:D→St→Prop}{d d':D}(h:d=d')(h2:st=st'):ends n R d st=ends n R d' st':=by rw[h,h2]
variable {dst:Option Nat} {k:Fr→St→Prop} {p:Prop} {d:D} {rd:List Nat} {o:Nat} {ob:Ob} {G:Bool} {K:Fr→St→Prop} {op:Op} {l:List Oper}
@[congr] theorem i0a{f:FuncId}{args args':List D}(h:args=args'):d4P P gl G dst fr st k f args=d4P P gl G dst fr st k f args':=by rw[h]
theorem i5q:Ev P gl N ops K [] fr st=K fr st:=rfl
theorem i5r{o:Oper}{l':List Oper}:Ev P gl N ops K (List.append (o::l) l') fr st=Ev P gl N ops K (o::List.append l l') fr st:=rfl
theorem i4a{l':List Oper}:Ev P gl N ops K (List.append [] l') fr st=Ev P gl N ops K l' fr st:=rfl
theorem i4b{ty:TypeId}{pos:String}{af:Array Edge}:Ev P gl N ops K (⟨dst,op,ty,pos,af,none⟩::l) fr st=Ev0 P gl N (Ev P gl N ops K l) dst op fr st (opk op):=rfl
theorem i3w{ty:TypeId}{pos:String}{af:Array Edge}{j:Nat}{want:Bool}:Ev P gl N ops K (⟨dst,op,ty,pos,af,some (j,want)⟩::l) fr st=EvG P gl N (Ev P gl N ops K l) dst op fr st (opk op) (d8f fr want (gslot ops j)):=rfl
theorem i6q:Ev0 P gl N k dst op fr st 0=EvR N dst fr st k (aop P gl true op fr (look st) 0):=rfl
theorem i6r:Ev0 P gl N k dst op fr st 1=EvR N dst fr st k (aop P gl true op fr (look (st++[some .resv])) st.length):=rfl
theorem i6s{f:Operand}{args:Array Operand}{ats:Array TypeId}:Ev0 P gl N k dst (.call ⟨.value f,args,ats⟩) fr st 2=EvC P gl N dst fr st k (eok gl true fr f∧(∀x∈args.toList,eok gl true fr x)) (ev1 gl fr f) (args.toList.map (ev1 gl fr)):=rfl
theorem i6t:EvG P gl N k dst op fr st 0 (some G)=i1O N G dst fr st k (aop P gl G op fr (look st) 0):=rfl
theorem i6u{f:Operand}{args:Array Operand}{ats:Array TypeId}:EvG P gl N k dst (.call ⟨.value f,args,ats⟩) fr st 2 (some G)=i1h P gl N G dst fr st k (eok gl G fr f∧(∀x∈args.toList,eok gl G fr x)) (ev1 gl fr f) (args.toList.map (ev1 gl fr)):=rfl
theorem i1U{t:Nat}{want:Bool}:d8f fr want (some t)=i1N want (fr.get t):=rfl
theorem i1V{b want:Bool}:i1N want (.bool b)=some (b==want):=rfl
theorem i1W{c b want:Bool}:i1N want (.cond c (.bool b))=some (c&&(b==want)):=rfl
theorem i6v:EvR N dst fr st k ⟨d,p,rd,none,none⟩=(p∧dlt N dst∧k (fr.TT dst d) st):=rfl
theorem i6w:EvR N dst fr st k ⟨d,p,rd,some (o,ob),none⟩=(p∧dlt N dst∧k (fr.TT dst d) (st.set o (some ob))):=rfl
theorem i6x:EvR N dst fr st k ⟨d,p,rd,none,some ob⟩=(p∧dlt N dst∧k (fr.TT dst d) (st++[some ob])):=rfl
theorem i5s:i1O N G dst fr st k ⟨d,p,rd,none,none⟩=(d1m G p∧dlt N dst∧k (fr.TT dst (.cond G d)) st):=by cases G<;>rfl
theorem i5t{g:FuncId}{first cap args:List D}:EvC P gl N dst fr st k p (.fn g first cap) args=(dlt N dst∧p∧Spec P gl g (first++args++cap) st fun d st'=>k (fr.TT dst d) st'):=rfl
theorem i4c{g:FuncId}{first cap args:List D}:i1h P gl N G dst fr st k p (.fn g first cap) args=(dlt N dst∧p∧d4P P gl G dst fr st k g (first++args++cap)):=rfl
theorem SZ{f:FuncId}{args:List D}{r:D}(h:G=true→Pure P gl f args r)(hk:k (fr.TT dst (.cond G r)) st):
 d4P P gl G dst fr st k f args:=
 ⟨r,[],fun e=>h e st,fun _=>rfl,hk⟩
theorem i3x{t:Nat}:dlt N (some t)=(t<N):=rfl
theorem i3y:dlt N none=True:=rfl
theorem i5u{up:Option (Nat×Ob)}{nw:Option Ob}{q:Prop}:(LR.mk d p rd up nw).and q=⟨d,q∧p,rd,up,nw⟩:=rfl
variable {keep:List Nat}
theorem get_nil{t:Nat}:Fr.get [] t= .any:=rfl
theorem d8g{t k':Nat}{fr:Fr}:Fr.get ((k',d)::fr) t=if k'=t then d else Fr.get fr t:=rfl
theorem i0b{t:Nat}:Fr.put [] t d=[(t,d)]:=rfl
theorem d8h{t k':Nat}{e:D}{fr:Fr}:Fr.put ((k',e)::fr) t d=if k'=t then(k',d)::fr else(k',e)::Fr.put fr t d:=rfl
theorem d5V{t:Nat}:Fr.TT fr (some t) d=fr.put t d:=rfl
theorem d5W:Fr.TT fr none d=fr:=rfl
theorem d8i:Fr.only keep []=[]:=rfl
theorem d5X{t:Nat}{fr:Fr}:Fr.only keep ((t,d)::fr)=if keep.contains t then(t,d)::Fr.only keep fr else Fr.only keep fr:=rfl
theorem Xv{s t:St}{k':Nat}:look (s++t) (s.length+k')=look t k':=by
 unfold look;rw[List.getElem?_append_right (by omega)];congr 2;omega
theorem Ta{s t:St}:look (s++t) s.length=look t 0:=by
 unfold look;rw[List.getElem?_append_right (by omega)];simp
theorem d4Q{x:Option Ob}{t:St}:look (x::t) 0=x:=by cases x<;>rfl
theorem d4R{x:Option Ob}{t:St}{k':Nat}:look (x::t) (k'+1)=look t k':=rfl
theorem d5Y{s t:St}{k':Nat}{x:Option Ob}:(s++t).set (s.length+k') x=s++t.set k' x:=by
 rw[List.set_append_right _ _ (by omega)];congr 2;omega
theorem d8j{s t:St}{x:Option Ob}:(s++t).set s.length x=s++t.set 0 x:=by
 rw[List.set_append_right _ _ (by omega)];simp
theorem d8k{b:Bool}:D.one (.bool b)=true:=rfl
theorem i0c{k:IntKind}{n:Int}:D.one (.int k n)=true:=rfl
theorem i0d{s:Bs}:D.one (.str s)=true:=rfl
theorem d8l:D.one .VT=true:=rfl
theorem d8m:D.one .Mk=true:=rfl
theorem d8n:D.one .UJ=true:=rfl
theorem d8o:D.one .d1o=true:=rfl
theorem i1X{f:Bool}{n b:Nat}{es:List (List D)}:D.one (.sl f n b es)=true:=rfl
theorem i1Y{f:Nat}{a b:List D}:D.one (.fn f a b)=true:=rfl
theorem d8p{cs:List D}:D.one (.Xk cs)=true:=rfl
theorem i0e{f:Bool}{o g a b:Nat}:D.one (.ref f o g a b)=true:=rfl
theorem i0f{o g i c:Nat}:D.one (.ptr o g i c)=true:=rfl
theorem i1Z{o:Nat}:D.one (.mp o)=true:=rfl
theorem i2a{o:Nat}:D.one (.it o)=true:=rfl
theorem d8q{cs:List D}:D.one (.agg cs)=false:=rfl
theorem i4d{cs:List D}:mkv true cs= .agg cs:=rfl
theorem i4e{x:D}{cs:List D}:mkv false (x::cs)=x:=rfl
end
attribute [go_sem] i5r i4a i5q i4b i3w i6q i6r i6s i6t i6u i1U i1V i1W i6v i6w i6x i5s i5t i4c i3x i3y i5u
 then_eq opk aop ev1 ev eok strip d0z get_nil d8g i0b d8h d5V d5W d8i d5X Xv Ta d4Q d4R d5Y d8j
 d0B ZP ZC VW i1E PW Wz Ny Tz UK WB WE SR Ot QV Wa XZ SS OL Xp aEq aUn Rz Qh Sz NX d5A d7T d7U d9j WG
 D.plain cellsOf Sl splice TW d1r SQ Rx TJ UL d7S xOk d4J Xo nz nz1 assoc ML Wi WC Nl Nj d1q i4d i4e d8k i0c i0d d8l d8m d8n d8o i1X i1Y d8p i0e i0f i1Z i2a d8q YN elemOf YM keyOf strOf d7R TK.agg
 AQ.then AQ.block i3Z SY rsD i1l IntKind.signed
 eq_self true_and and_true and_self implies_true forall_const List.map_cons List.map_nil List.length_cons List.length_nil List.take_succ_cons List.take_zero List.drop_succ_cons List.drop_zero d4I List.cons_append List.nil_append List.append_nil List.all_cons List.all_nil Bool.and_self Bool.and_true Bool.true_and Bool.and_false Bool.false_and
 List.getD_cons_zero List.getD_cons_succ List.getD_nil List.set_cons_zero List.set_cons_succ List.getElem?_cons_zero List.getElem?_cons_succ ne_eq not_false_eq_true Bool.false_eq_true if_true if_false cond_true cond_false List.mem_cons List.not_mem_nil or_false forall_eq forall_eq_or_imp List.append_assoc List.length_append List.replicate_zero List.replicate_succ not_true_eq_false beq_self_eq_true Bool.not_true Bool.not_false List.contains_cons List.contains_nil Bool.or_true Bool.true_or Bool.or_false Bool.false_or
section
variable {P:Program} {gl:Gl} {fr fr':Fr} {lk lk':Look} {q:Nat} {g:Bool} {op:Op}
theorem i2b(H:∀x∈op.operands,ev gl fr x=ev gl fr' x):aop P gl g op fr lk q=aop P gl g op fr' lk q:=by
 have H1:∀x∈op.operands,ev1 gl fr x=ev1 gl fr' x:=fun x h=>by simp only[ev1,H x h]
 have H2:∀g x,x∈op.operands→eok gl g fr x=eok gl g fr' x:=fun g x h=>by simp only[eok,H x h]
 cases op with
 |pick c a b=>
  have k1:=H1 c (by simp[Op.operands])
  have k2:=H1 a (by simp[Op.operands])
  have k3:=H1 b (by simp[Op.operands])
  simp only[aop,k1,k2,k3,fun g=>H2 g c (by simp[Op.operands]),fun g=>H2 g a (by simp[Op.operands]),fun g=>H2 g b (by simp[Op.operands])]
 |build t ps=>
  have h1:(ps.toList.map fun p=>(p.1,ev1 gl fr p.2))=ps.toList.map fun p=>(p.1,ev1 gl fr' p.2):=List.map_congr_left fun p hp=>by rw[H1 p.2 (by simp only[Op.operands,List.mem_toArray,List.mem_map];exact⟨p,hp,rfl⟩)]
  have h2:(∀p∈ps.toList,eok gl g fr p.2)= ∀p∈ps.toList,eok gl g fr' p.2:=forall_congr fun p=>propext ⟨fun h hp=>by rw[←H2 g p.2 (by simp only[Op.operands,List.mem_toArray,List.mem_map];exact⟨p,hp,rfl⟩)];exact h hp,fun h hp=>by rw[H2 g p.2 (by simp only[Op.operands,List.mem_toArray,List.mem_map];exact⟨p,hp,rfl⟩)];exact h hp⟩
  simp only[aop,h1,h2]
 |buildSlice t len ps=>
  have h1:(ps.toList.map fun p=>(p.1,ev1 gl fr p.2))=ps.toList.map fun p=>(p.1,ev1 gl fr' p.2):=List.map_congr_left fun p hp=>by rw[H1 p.2 (by simp only[Op.operands,List.mem_toArray,List.mem_map];exact⟨p,hp,rfl⟩)]
  have h2:(∀p∈ps.toList,eok gl g fr p.2)= ∀p∈ps.toList,eok gl g fr' p.2:=forall_congr fun p=>propext ⟨fun h hp=>by rw[←H2 g p.2 (by simp only[Op.operands,List.mem_toArray,List.mem_map];exact⟨p,hp,rfl⟩)];exact h hp,fun h hp=>by rw[H2 g p.2 (by simp only[Op.operands,List.mem_toArray,List.mem_map];exact⟨p,hp,rfl⟩)];exact h hp⟩
  simp only[aop,h1,h2]
 |makeFunc f a b=>
  cases f with
  |func f=>
   have h1:∀c:Array Operand,(∀x∈c.toList,x∈(Op.makeFunc (.func f) a b).operands)→c.toList.map (ev1 gl fr)=c.toList.map (ev1 gl fr'):=fun c hc=>List.map_congr_left fun x hx=>H1 x (hc x hx)
   have h2:∀c:Array Operand,(∀x∈c.toList,x∈(Op.makeFunc (.func f) a b).operands)→(∀x∈c.toList,eok gl g fr x)= ∀x∈c.toList,eok gl g fr' x:=fun c hc=>
    forall_congr fun x=>propext ⟨fun h hx=>by rw[←H2 g x (hc x hx)];exact h hx,fun h hx=>by rw[H2 g x (hc x hx)];exact h hx⟩
   have ha:∀x∈a.toList,x∈(Op.makeFunc (.func f) a b).operands:=fun x hx=>by simp only[Op.operands,Array.mem_append];exact .inl (by simpa using hx)
   have hb:∀x∈b.toList,x∈(Op.makeFunc (.func f) a b).operands:=fun x hx=>by simp only[Op.operands,Array.mem_append];exact .inr (by simpa using hx)
   simp only[aop,h1 a ha,h1 b hb,h2 a ha,h2 b hb]
  | _=>rfl
 |makeMap t r=>cases r<;>rfl
 |slice t x lo hi mx=>
  have hx:=H1 x (by simp[Op.operands])
  have hx2:=H2 g x (by simp[Op.operands])
  have key:∀z:Option Operand,(∀y∈z,y∈(Op.slice t x lo hi mx).operands)→z.map (ev1 gl fr)=z.map (ev1 gl fr')∧(∀y∈z,eok gl g fr y)= ∀y∈z,eok gl g fr' y:=fun z hz=>by
   cases z with
   |none=>simp
   |some y=>have:=hz y rfl;simp[H1 y this,H2 g y this]
  obtain⟨a1,a2⟩:=key lo (fun y hy=>by cases hy;simp[Op.operands])
  obtain⟨b1,b2⟩:=key hi (fun y hy=>by cases hy;simp[Op.operands])
  obtain⟨c1,c2⟩:=key mx (fun y hy=>by cases hy;simp[Op.operands])
  simp only[aop,hx,hx2,a1,a2,b1,b2,c1,c2]
 |call c=>
  obtain⟨callee,args,ats⟩:=c
  cases callee with
  |value f=>rfl
  |invoke r m=>rfl
  |builtin b=>
   have h1:∀x∈args.toList,ev1 gl fr x=ev1 gl fr' x:=fun x hx=>H1 x (by simp only[Op.operands,Call.operands];simpa using hx)
   have h2:∀x∈args.toList,eok gl g fr x=eok gl g fr' x:=fun x hx=>H2 g x (by simp only[Op.operands,Call.operands];simpa using hx)
   simp only[aop]
   generalize args.toList=l at h1 h2
   split
   ·simp only[List.mem_cons,List.not_mem_nil,or_false,forall_eq]at h1 h2;rw[h1,h2]
   ·simp only[List.mem_cons,List.not_mem_nil,or_false,forall_eq_or_imp,forall_eq]at h1 h2;rw[h1.1,h1.2,h2.1,h2.2]
   ·simp only[List.mem_cons,List.not_mem_nil,or_false,forall_eq_or_imp,forall_eq]at h1 h2;rw[h1.1,h1.2,h2.1,h2.2]
   ·simp only[List.mem_cons,List.not_mem_nil,or_false,forall_eq_or_imp,forall_eq]at h1 h2;rw[h1.1,h1.2,h2.1,h2.2]
   ·simp only[List.mem_cons,List.not_mem_nil,or_false,forall_eq]at h1 h2;rw[h1,h2]
   ·rfl
 | _=>first|rfl|(simp only[Op.operands,List.mem_toArray,List.mem_cons,List.not_mem_nil,or_false,forall_eq_or_imp,forall_eq]at H1 H2;simp only[aop,H1,H2 g,true_or,or_true])
end
def D.top:D→Option Nat
 | .ref _ o _ _ _=>some o
 | .ptr o _ _ _=>some o
 | .mp o=>some o
 | .it o=>some o
 | _=>none
def Loc(f:Look→LR)(ds:List D):Prop:=
 ∀lk,(f lk).ok→(∀o∈(f lk).rd,(∃d∈ds,d.top=some o)∧∃ob,lk o=some ob∧ob≠ .resv)∧∀lk',(∀o∈(f lk).rd,lk' o=lk o)→f lk'=f lk
theorem MJ{r:LR}{ds:List D}(h:r.rd=[]):Loc (fun _=>r) ds:=fun _ _=>⟨fun o ho=>(by simp only at ho;rw[h]at ho;cases ho),fun _ _=>rfl⟩
theorem Loc.and{f:Look→LR}{ds:List D}(h:Loc f ds)(p:Prop):Loc (fun lk=>(f lk).and p) ds:=fun lk hok=>
 ⟨(h lk hok.2).1,fun lk' h'=>by show(f lk').and p=(f lk).and p;rw[(h lk hok.2).2 lk' h']⟩
theorem Loc.sub{f:Look→LR}{ds ds':List D}(h:Loc f ds)(hd:∀d∈ds,d∈ds'):Loc f ds':=fun lk hok=>
 ⟨fun o ho=>by obtain⟨⟨d,h1,h2⟩,h3⟩:=(h lk hok).1 o ho;exact⟨⟨d,hd d h1,h2⟩,h3⟩,(h lk hok).2⟩
section
variable {i e:TI} {d x key:D} {n q:Nat}
theorem d3I:Loc (fun lk=>ZC i lk d) [d]:=fun lk hok=>by
 cases d with
 |ptr o g k c=>
  simp only[ZC]at hok⊢
  cases h:lk o with
  |none=>rw[h]at hok;exact hok.elim
  |some ob=>
   rw[h]at hok
   cases ob with
   |arr g' n' b es=>
    simp only[List.mem_singleton,forall_eq]
    exact⟨⟨⟨_,rfl,rfl⟩,_,h,Ob.noConfusion⟩,fun lk' h'=>by rw[h',h]⟩
   | _=>exact hok.elim
 |Xk cs=>exact⟨fun o ho=>(by cases ho),fun _ _=>rfl⟩
 | _=>exact hok.elim
theorem d1F:Loc (fun lk=>VW i lk x d) [d]:=fun lk hok=>by
 cases d with
 |ptr o g k c=>
  simp only[VW]at hok⊢
  cases h:lk o with
  |none=>rw[h]at hok;exact hok.elim
  |some ob=>
   rw[h]at hok
   cases ob with
   |arr g' n' b es=>
    simp only[List.mem_singleton,forall_eq]
    exact⟨⟨⟨_,rfl,rfl⟩,_,h,Ob.noConfusion⟩,fun lk' h'=>by rw[h',h]⟩
   | _=>exact hok.elim
 | _=>exact hok.elim
theorem WL{y:D}:Loc (fun lk=>Ny i e lk x y) [x]:=fun lk hok=>by
 cases y with
 |int kk m=>
  simp only[Ny]at hok⊢
  generalize i.k=ik at hok⊢
  cases ik with
  |slice e=>
   cases x with
   |ref full o g off len=>
    simp only at hok⊢
    cases h:lk o with
    |none=>rw[h]at hok;exact hok.elim
    |some ob=>
     rw[h]at hok
     cases ob with
     |arr g' n' b es=>
      simp only[List.mem_singleton,forall_eq]
      exact⟨⟨⟨_,rfl,rfl⟩,_,h,Ob.noConfusion⟩,fun lk' h'=>by rw[h',h]⟩
     | _=>exact hok.elim
   |sl full n' b es=>exact⟨fun o ho=>(by cases ho),fun _ _=>rfl⟩
   | _=>exact hok.elim
  |arr len e=>
   cases x with
   |ptr o g k c=>exact⟨fun o ho=>(by cases ho),fun _ _=>rfl⟩
   |Xk cs=>exact⟨fun o ho=>(by cases ho),fun _ _=>rfl⟩
   | _=>exact hok.elim
  | _=>exact hok.elim
 | _=>exact hok.elim
theorem d1G{lo hi mx:Option D}:Loc (fun lk=>UK i n lk x lo hi mx) [x]:=fun lk hok=>by
 cases x with
 |ref full o g off len=>
  simp only[UK]at hok⊢
  cases h:lk o with
  |none=>rw[h]at hok;exact hok.elim
  |some ob=>
   rw[h]at hok
   cases ob with
   |arr g' n' b es=>
    simp only[List.mem_singleton,forall_eq]
    exact⟨⟨⟨_,rfl,rfl⟩,_,h,Ob.noConfusion⟩,fun lk' h'=>by rw[h',h]⟩
   | _=>exact hok.elim
 |str s=>exact⟨fun o ho=>(by cases ho),fun _ _=>rfl⟩
 |sl full n' b es=>exact⟨fun o ho=>(by cases ho),fun _ _=>rfl⟩
 |Mk=>exact⟨fun o ho=>(by cases ho),fun _ _=>rfl⟩
 | _=>exact hok.elim
theorem d0a{ki vi:TI}{c:Bool}:Loc (fun lk=>SS i ki vi lk c key d) [d]:=fun lk hok=>by
 cases d with
 |mp o=>
  simp only[SS]at hok⊢
  cases h:lk o with
  |none=>rw[h]at hok;exact hok.elim
  |some ob=>
   rw[h]at hok
   cases ob<;>first|(exact hok.elim)|skip
   all_goals
    cases key<;>first|(exact hok.elim)|skip
    simp only[List.mem_singleton,forall_eq]
    exact⟨⟨⟨_,rfl,rfl⟩,_,h,Ob.noConfusion⟩,fun lk' h'=>by rw[h',h]⟩
 | _=>exact hok.elim
theorem d3J{b:Bool}:Loc (fun lk=>XZ lk b d) [d]:=fun lk hok=>by
 cases b with
 |false=>exact hok.elim
 |true=>
  cases d with
  |it o=>
   simp only[XZ]at hok⊢
   cases h:lk o with
   |none=>rw[h]at hok;exact hok.elim
   |some ob=>
    rw[h]at hok
    cases ob<;>first|(exact hok.elim)|skip
    all_goals
     simp only[List.mem_singleton,forall_eq]
     exact⟨⟨⟨_,rfl,rfl⟩,_,h,Ob.noConfusion⟩,fun lk' h'=>by rw[h',h]⟩
  | _=>exact hok.elim
theorem WM{ki vi:TI}:Loc (fun lk=>OL i ki vi lk key x d) [d]:=fun lk hok=>by
 cases d with
 |mp o=>
  simp only[OL]at hok⊢
  cases h:lk o with
  |none=>rw[h]at hok;exact hok.elim
  |some ob=>
   rw[h]at hok
   cases ob<;>first|(exact hok.elim)|skip
   all_goals
    cases key<;>first|(exact hok.elim)|skip
    simp only[List.mem_singleton,forall_eq]
    exact⟨⟨⟨_,rfl,rfl⟩,_,h,Ob.noConfusion⟩,fun lk' h'=>by rw[h',h]⟩
 | _=>exact hok.elim
theorem d5Z:Loc (fun lk=>d5A i lk d) [d]:=fun lk hok=>by
 cases d with
 |ref full o g off len=>
  simp only[d5A]at hok⊢
  cases h:lk o with
  |none=>rw[h]at hok;exact hok.elim
  |some ob=>
   rw[h]at hok
   cases ob with
   |arr g' n' b es=>
    simp only[List.mem_singleton,forall_eq]
    exact⟨⟨⟨_,rfl,rfl⟩,_,h,Ob.noConfusion⟩,fun lk' h'=>by rw[h',h]⟩
   | _=>exact hok.elim
 |mp o=>
  simp only[d5A]at hok⊢
  cases h:lk o with
  |none=>rw[h]at hok;exact hok.elim
  |some ob=>
   rw[h]at hok
   cases ob<;>first|(exact hok.elim)|skip
   all_goals
    simp only[List.mem_singleton,forall_eq]
    exact⟨⟨⟨_,rfl,rfl⟩,_,h,Ob.noConfusion⟩,fun lk' h'=>by rw[h',h]⟩
 |str s=>exact⟨fun o ho=>(by cases ho),fun _ _=>rfl⟩
 |sl full n' b es=>exact⟨fun o ho=>(by cases ho),fun _ _=>rfl⟩
 |Mk=>exact⟨fun o ho=>(by cases ho),fun _ _=>rfl⟩
 |d1o=>exact⟨fun o ho=>(by cases ho),fun _ _=>rfl⟩
 | _=>exact hok.elim
theorem d8r{lk:Look}{news:List (List D)}(h:UL lk e x=some news):(∀o∈d7S x,x.top=some o∧∃ob,lk o=some ob∧ob≠ .resv)∧∀lk',(∀o∈d7S x,lk' o=lk o)→UL lk' e x=some news:=by
 cases x with
 |ref full o g off len=>
  simp only[UL]at h
  simp only[d7S,List.mem_singleton,forall_eq]
  cases hl:lk o with
  |none=>rw[hl]at h;cases h
  |some ob=>
   rw[hl]at h
   cases ob with
   |arr g' n' b es=>exact⟨⟨rfl,_,rfl,Ob.noConfusion⟩,fun lk' h'=>by simp only[UL,h'];exact h⟩
   | _=>cases h
 | _=>exact⟨fun o ho=>(by cases ho),fun _ _=>h⟩
theorem d0b{xk:TK}{s:D}:Loc (fun lk=>NX i e xk lk s x q) [s,x]:=fun lk hok=>by
 simp only[NX]at hok⊢
 cases hn:UL lk e x with
 |none=>rw[hn]at hok;exact hok.elim
 |some news=>
  rw[hn]at hok
  obtain⟨n1,n2⟩:=d8r hn
  have hx:∀o∈d7S x,(∃d∈ [s,x],d.top=some o)∧∃ob,lk o=some ob∧ob≠ .resv:=fun o ho=>⟨⟨x,by simp,(n1 o ho).1⟩,(n1 o ho).2⟩
  cases s with
  |Mk=>exact⟨hx,fun lk' h'=>by simp only[n2 lk' h']⟩
  |sl full n' b es=>
   cases full with
   |true=>exact⟨hx,fun lk' h'=>by simp only[n2 lk' h']⟩
   |false=>exact hok.elim
  |ref full o g off len=>
   cases full<;>
   ·simp only at hok⊢
    cases hl:lk o with
    |none=>rw[hl]at hok;exact hok.elim
    |some ob=>
     rw[hl]at hok
     cases ob with
     |arr g' n' b es=>
      simp only[List.mem_cons,forall_eq_or_imp]
      exact⟨⟨⟨⟨_,.inl rfl,rfl⟩,_,hl,Ob.noConfusion⟩,fun o ho=>by simpa using hx o ho⟩,fun lk' h'=>by simp only[n2 lk' h'.2,h'.1,hl]⟩
     | _=>exact hok.elim
  | _=>exact hok.elim
theorem d0C{parts:List (Nat×D)}:(WB i e parts).rd=[]:=by unfold WB;split<;>rfl
theorem d0D{f:Nat}:(Wz i f x).rd=[]:=by unfold Wz;(repeat' split)<;>rfl
theorem Va{f:Nat}:(PW i f x).rd=[]:=by unfold PW;(repeat' split)<;>rfl
theorem d0E{y:D}:(Tz i e x y).rd=[]:=by unfold Tz;(repeat' split)<;>rfl
theorem d6a{o:BinOp}{y:D}:(Xp o x y).rd=[]:=by
 unfold Xp
 split
 ·split<;>first|rfl|skip
  split<;>first|rfl|skip
  split<;>first|rfl
 ·split<;>rfl
 ·rfl
theorem i0g{fl:Option (List Nat)}{b:Bool}{y:D}:(aEq i fl b x y).rd=[]:=by unfold aEq;(repeat' split)<;>rfl
theorem i0h{o:UnOp}:(aUn o x).rd=[]:=by
 unfold aUn;split
 ·rfl
 ·rfl
 ·rfl
theorem Wo{x:D}:(Qh x).rd=[]:=by unfold Qh;(repeat' split)<;>rfl
theorem Xw{i e e2:TI}{x:D}:(Rz i e e2 x).rd=[]:=by unfold Rz;(repeat' split)<;>rfl
theorem Xx{ix:Nat}:(Sz ix x).rd=[]:=by unfold Sz;(repeat' split)<;>rfl
theorem d6b{i:TI}:(d9j i x).rd=[]:=by unfold d9j;split<;>rfl
theorem d6c{y:D}:(d7T x y).rd=[]:=by unfold d7T;split<;>rfl
theorem d6d{y:D}:(d7U x y).rd=[]:=by unfold d7U;split<;>rfl
theorem d2Z{y z:D}:(WG x y z).rd=[]:=by unfold WG;split<;>rfl
theorem d0F:(Wa i q x).rd=[]:=by unfold Wa;split<;>rfl
theorem Xy{b:Bool}:(QV i e b q).rd=[]:=by unfold QV;(repeat' split)<;>rfl
theorem Vb{y:D}:(Ot i e x y q).rd=[]:=by unfold Ot;split<;>rfl
end
theorem d6e{P:Program}{gl:Gl}{fr:Fr}{q:Nat}{g:Bool}{op:Op}:Loc (fun lk=>aop P gl g op fr lk q) (op.operands.toList.map (ev1 gl fr)):=by
 have mem:∀x,x∈op.operands.toList→ev1 gl fr x∈op.operands.toList.map (ev1 gl fr):=fun x hx=>List.mem_map.2 ⟨x,hx,rfl⟩
 have one:∀ {f:Look→LR} {x:Operand},x∈op.operands.toList→Loc f [ev1 gl fr x]→Loc f (op.operands.toList.map (ev1 gl fr)):=fun hx h=>h.sub fun d hd=>by
  rw[List.mem_singleton]at hd;subst hd;exact mem _ hx
 cases op with
 |load t a=>exact one (by simp[Op.operands]) (d3I.and _)
 |store t a x=>exact one (x:=a) (by simp[Op.operands]) (d1F.and _)
 |indexAddr t x y=>exact one (x:=x) (by simp[Op.operands]) (WL.and _)
 |slice t x lo hi mx=>exact one (x:=x) (by simp[Op.operands]) (d1G.and _)
 |lookup t m k c=>exact one (x:=m) (by simp[Op.operands]) (d0a.and _)
 |mapUpdate t m k x=>exact one (x:=m) (by simp[Op.operands]) (WM.and _)
 |call c=>
  obtain⟨callee,args,ats⟩:=c
  cases callee with
  |value f=>exact MJ rfl
  |invoke r m=>exact MJ rfl
  |builtin b=>
   have hmem:∀x,x∈args.toList→x∈(Op.call ⟨.builtin b,args,ats⟩).operands.toList:=fun x hx=>by simp only[Op.operands,Call.operands];simpa using hx
   simp only[aop]
   generalize hl:args.toList=l at hmem
   split
   ·exact one (hmem _ (by simp)) (d5Z.and _)
   ·rename_i s x t u _
    exact(d0b.and _).sub fun d hd=>by
     simp only[List.mem_cons,List.not_mem_nil,or_false]at hd
     rcases hd with rfl|rfl
     ·exact mem _ (hmem _ (by simp))
     ·exact mem _ (hmem _ (by simp))
   ·exact(MJ d6c).and _
   ·exact(MJ d6d).and _
   ·exact(MJ d6b).and _
   ·exact MJ rfl
 |pick c a b=>exact(MJ d2Z).and _
 |box t x=>exact(MJ rfl).and _
 |build t ps=>exact(MJ d0C).and _
 |buildSlice t len ps=>
  simp only[aop]
  cases gl.imm t<;>exact(MJ rfl).and _
 |binOp o t x y u=>
  simp only[aop]
  split<;>first|exact(MJ i0g).and _|exact(MJ d6a).and _
 |unOp o t x=>exact(MJ i0h).and _
 |nilCheck x=>exact(MJ Wo).and _
 |convert s t x=>exact(MJ Xw).and _
 |makeFunc f a b=>cases f<;>exact MJ rfl
 |makeMap t r=>cases r with
  |none=>exact MJ Xy
  |some r=>exact MJ rfl
 |makeSlice t l c=>exact(MJ Vb).and _
 |range t x=>exact(MJ d0F).and _
 |next x b=>exact one (x:=x) (by simp[Op.operands]) (d3J.and _)
 |fieldAddr t x f=>exact(MJ Va).and _
 |field t x f=>exact(MJ d0D).and _
 |index t x y=>exact(MJ d0E).and _
 |extract x j=>exact(MJ Xx).and _
 | _=>exact MJ rfl
section
variable {P:Program} {gl:Gl} {fr fr':Fr} {q:Nat} {g:Bool} {op:Op} {lk:Look}
theorem Vc{f:Look→LR}{d:D}(h:Loc f [d]){o:Nat}(hok:(f lk).ok)(ho:o∈(f lk).rd):d.top=some o:=by
 obtain⟨⟨e,h1,h2⟩,_⟩:=(h lk hok).1 o ho
 rw[List.mem_singleton]at h1;subst h1;exact h2
theorem i0i{o:Nat}(hok:(aop P gl g op fr lk q).ok)(ho:o∈(aop P gl g op fr lk q).rd):∃x∈op.operands.toList,eok gl g fr x∧(ev1 gl fr x).top=some o:=by
 have none:∀ {r:LR},r.rd=[]→o∈r.rd→∃x∈op.operands.toList,eok gl g fr x∧(ev1 gl fr x).top=some o:=fun h ho=>by rw[h]at ho;cases ho
 cases op with
 |load t a=>exact⟨a,by simp[Op.operands],hok.1.1,Vc d3I hok.2 ho⟩
 |store t a x=>exact⟨a,by simp[Op.operands],hok.1.1,Vc (d1F) hok.2 ho⟩
 |indexAddr t x y=>exact⟨x,by simp[Op.operands],hok.1.1,Vc (WL) hok.2 ho⟩
 |slice t x lo hi mx=>exact⟨x,by simp[Op.operands],hok.1.1,Vc (d1G) hok.2 ho⟩
 |lookup t m k c=>exact⟨m,by simp[Op.operands],hok.1.1,Vc (d0a) hok.2 ho⟩
 |mapUpdate t m k x=>exact⟨m,by simp[Op.operands],hok.1.1,Vc (WM) hok.2 ho⟩
 |next x b=>exact⟨x,by simp[Op.operands],hok.1,Vc (d3J) hok.2 ho⟩
 |range t x=>exact none d0F ho
 |call c=>
  obtain⟨callee,args,ats⟩:=c
  cases callee with
  |value f=>cases ho
  |invoke r m=>cases ho
  |builtin b=>
   have hmem:∀x,x∈args.toList→x∈(Op.call ⟨.builtin b,args,ats⟩).operands.toList:=fun x hx=>by simp only[Op.operands,Call.operands];simpa using hx
   simp only[aop]at hok ho
   generalize args.toList=l at hmem hok ho
   revert hok ho
   split<;>intro hok ho
   ·exact⟨_,hmem _ (by simp),hok.1,Vc d5Z hok.2 ho⟩
   ·obtain⟨⟨d,h1,h2⟩,_⟩:=(d0b _ hok.2).1 o ho
    simp only[List.mem_cons,List.not_mem_nil,or_false]at h1
    rcases h1 with rfl|rfl
    ·exact⟨_,hmem _ (by simp),hok.1.1,h2⟩
    ·exact⟨_,hmem _ (by simp),hok.1.2,h2⟩
   ·exact none d6c ho
   ·exact none d6d ho
   ·exact none d6b ho
   ·cases ho
 |pick c a b=>exact none d2Z ho
 |box t x=>cases ho
 |build t ps=>exact none d0C ho
 |buildSlice t len ps=>revert ho;simp only[aop];cases gl.imm t<;>(intro ho;cases ho)
 |binOp o' t x y u=>
  simp only[aop]at ho
  split at ho<;>first|exact none i0g ho|exact none d6a ho
 |unOp o t x=>exact none i0h ho
 |nilCheck x=>exact none Wo ho
 |convert s t x=>exact none Xw ho
 |makeFunc f a b=>cases f<;>cases ho
 |makeMap t r=>cases r with
  |none=>exact none Xy ho
  |some r=>cases ho
 |makeSlice t l c=>exact none Vb ho
 |fieldAddr t x f=>exact none Va ho
 |field t x f=>exact none d0D ho
 |index t x y=>exact none d0E ho
 |extract x j=>exact none Xx ho
 | _=>cases ho
theorem VR.d8s{w:World}{μ:Mu}{st:St}{v:Value}{d:D}{o:Nat}(h:VR w μ st v d)(ht:d.top=some o):st[o]? ≠some (some .resv):=by
 cases h with
 |tr h=>cases h<;>cases ht
 |ref=>cases ht;assumption
 |ptr=>cases ht;assumption
 |mp=>cases ht;assumption
 |it=>cases ht;assumption
 | _=>cases ht
def d3K(r:LR):Prop:=∀o ob,r.up=some (o,ob)→o∈r.rd
theorem NK{r:LR}(h:r.up=none):d3K r:=fun o ob e=>by rw[h]at e;cases e
theorem NM{r:LR}{p:Prop}(h:r.still):d3K (r.and p):=NK (by simp only[LR.and];exact h.1)
theorem Yl:d3K (aop P gl g op fr lk q):=by
 cases op with
 |store t a x=>
  refine fun o ob e=>?_
  simp only[aop,LR.and,VW]at e⊢
  revert e
  cases ev1 gl fr a<;>try (intro e;cases e;done)
  rename_i o' g' k c
  simp only
  cases lk o' with
  |none=>intro e;cases e
  |some ob'=>cases ob'<;>(intro e;cases e)<;>simp
 |mapUpdate t m k x=>
  refine fun o ob e=>?_
  simp only[aop,LR.and,OL]at e⊢
  revert e
  cases ev1 gl fr m<;>try (intro e;cases e;done)
  rename_i o'
  simp only
  cases lk o' with
  |none=>intro e;cases e
  |some ob'=>cases ob'<;>try (intro e;cases e;done)
             all_goals (cases ev1 gl fr k<;>(intro e;cases e)<;>simp)
 |next x b=>
  refine fun o ob e=>?_
  simp only[aop,LR.and]at e⊢
  cases b with
  |false=>cases e
  |true=>
   revert e
   cases ev1 gl fr x<;>try (intro e;cases e;done)
   simp only[XZ]
   rename_i o'
   cases lk o' with
   |none=>intro e;cases e
   |some ob'=>cases ob'<;>(intro e;cases e)<;>simp
 |range t x=>exact NK (YS _ _ _)
 |call c=>
  obtain⟨callee,args,ats⟩:=c
  cases callee with
  |value f=>exact NK rfl
  |invoke r m=>exact NK rfl
  |builtin b=>
   simp only[aop]
   generalize args.toList=l
   split
   ·refine NK ?_
    simp only[LR.and]
    exact(Ub _ _ _).1
   ·refine fun o ob e=>?_
    rename_i s x t u _
    simp only[LR.and,NX]at e⊢
    revert e
    cases UL lk (Mc P (elemOf (Mc P t))) (ev1 gl fr x)with
    |none=>intro e;cases e
    |some news=>
     simp only
     cases ev1 gl fr s<;>try (intro e;cases e;done)
     ·rename_i full _ _ _;cases full<;>(intro e;cases e)
     ·rename_i full o' _ _ _
      cases full<;>simp only
      ·cases lk o' with
       |none=>intro e;cases e
       |some ob'=>cases ob'<;>(intro e;cases e)<;>simp
      ·cases lk o' with
       |none=>intro e;cases e
       |some ob'=>cases ob'<;>(intro e;cases e)
   ·refine NK ?_
    simp only[LR.and];exact(VE _ _).1
   ·refine NK ?_
    simp only[LR.and];exact(VF _ _).1
   ·refine NK ?_
    simp only[LR.and];exact(Uc _ _).1
   ·exact NK rfl
 |pick c a b=>exact NM (UY _ _ _)
 |box t x=>exact NK rfl
 |build t ps=>exact NM (UW _ _ _)
 |buildSlice t len ps=>simp only[aop];cases gl.imm t<;>exact NK rfl
 |load t a=>exact NM (Ut _ _ _)
 |binOp o t x y u=>
  simp only[aop]
  split<;>first|exact NM (YQ _ _ _ _ _)|exact NM (Xt _ _ _)
 |unOp o t x=>exact NM (YR _ _)
 |nilCheck x=>exact NM (SW _)
 |convert s t x=>exact NM (TN _ _ _ _)
 |makeFunc f a b=>cases f<;>exact NK rfl
 |makeMap t r=>cases r with
  |none=>simp only[aop,QV];(repeat' split)<;>exact NK rfl
  |some r=>exact NK rfl
 |makeSlice t l c=>simp only[aop,Ot];split<;>exact NK rfl
 |slice t x lo hi mx=>exact NM (TB _ _ _ _ _ _ _)
 |fieldAddr t x f=>exact NM (Sp _ _ _)
 |field t x f=>exact NM (UR _ _ _)
 |indexAddr t x y=>exact NM (QX _ _ _ _ _)
 |index t x y=>exact NM (UU _ _ _ _)
 |lookup t m k c=>exact NM (SA _ _ _ _ _ _ _)
 |extract x j=>exact NM (TP _ _)
 | _=>exact NK rfl
end
theorem d3L{o:Nat}:∀ {m:List (Nat×Ob)} {s:St},o∉m.map (·.1)→(puts s m)[o]? =s[o]?
 | [],_,_=>rfl
 |(a,x)::m,s,h=>by
  simp only[List.map_cons,List.mem_cons,not_or]at h
  simp only[puts]
  rw[List.getElem?_set,if_neg (fun e=>h.1 e.symm),d3L h.2]
theorem d0c{o:Nat}:∀ {m:List (Nat×Ob)} {s s':St},s[o]? =s'[o]? →(puts s m)[o]? =(puts s' m)[o]?
 | [],_,_,h=>h
 |(a,x)::m,s,s',h=>by
  have ih:=d0c (m:=m) h
  simp only[puts]
  have sg:∀(l:St) (v:Option Ob),(l.set a v)[o]? =if a=o then(l[o]?).map (fun _=>v)else l[o]? :=fun l v=>by
   rw[List.getElem?_set]
   by_cases h:a=o
   ·subst h
    rw[if_pos rfl,if_pos rfl]
    by_cases hl:a<l.length
    ·rw[if_pos hl,List.getElem?_eq_getElem hl];rfl
    ·rw[if_neg hl,List.getElem?_eq_none (by simpa using hl)];rfl
   ·rw[if_neg h,if_neg h]
  rw[sg,sg,ih]
def d0G(P:Program)(G:Gl)(f:FuncId)(args:List D)(rd:List Nat)(st0:St)(r:D)(ups:List (Nat×Ob)):Prop:=
 ∀st,(∀o∈rd,look st o=look st0 o)→Spec P G f args st fun d st'=>d=r∧st'=puts st ups
theorem Pure.loc{P:Program}{G:Gl}{f:FuncId}{args:List D}{st0:St}{r:D}(h:Pure P G f args r):d0G P G f args [] st0 r []:=fun st _=>h st
structure Row where
 o:Oper
 q:Nat
 G:Bool
 r:LR
 ups:List (Nat×Ob)
def Row.d(x:Row):D:=match x.o.guard with
 |none=>x.r.d
 |some _=>.cond x.G x.r.d
def Row.fr(x:Row)(fr:Fr):Fr:=fr.TT x.o.dst x.d
def Row.st(x:Row)(st:St):St:=bif x.G then puts (x.r.app x.q st) x.ups else st
def Row.rd(x:Row):List Nat:=bif x.G then x.r.rd else []
def Row.wr(x:Row):List Nat:=bif x.G then(match x.r.up with|some (o,_)=>[o]|none=>[])++x.ups.map (·.1)else []
structure Fits(P:Program)(gl:Gl)(N:Nat)(ops:Array Oper)(b:Nat)(x:Row)(fr:Fr)(st:St):Prop where
 dst:Wm N x.o
 gok:RL ops fr x.o
 hG:x.G=guardOf ops fr x.o
 d3K:d3K x.r∧∀p∈x.ups,p.1∈x.r.rd
 does:x.G=true→(Rs x.o.op=none∧x.r=aop P gl true x.o.op fr (look st) x.q∧x.r.ok∧(needs x.o.op=true→st[x.q]? =some (some .resv))∧x.ups=[])∨
  ∃f xs g first cap d rd,Rs x.o.op=some (f,xs)∧eok gl true fr f∧(∀y∈xs,eok gl true fr y)∧ev1 gl fr f= .fn g first cap∧d0G P gl g (first++xs.map (ev1 gl fr)++cap) rd st d x.ups∧
   x.r=⟨d,True,rd,none,none⟩∧∀o∈rd,o<b∧∃ob,st[o]? =some (some ob)∧ob≠ .resv
 makes:x.r.new≠none→needs x.o.op=true
section
variable {P:Program} {gl:Gl} {N:Nat} {ops:Array Oper} {w0:World} {μ0:Mu} {st0:St} {x:Row} {b:Nat} {fr fr':Fr} {st st':St} {Q:Exit→Act→World→Prop}
theorem VH{o:Nat}{ob:Ob}:look st o=some ob↔st[o]? =some (some ob):=by
 unfold look
 cases h:st[o]? with
 |none=>simp
 |some y=>cases y<;>simp
theorem d3M{a:Act}{w:World}{μ:Mu}{o:Oper}{q:Nat}(h:Ww gl N w0 μ0 st0 fr st a w μ)(hok:(aop P gl true o.op fr (look st) q).ok)(hd:Wm N o)(hq:needs o.op=true→st[q]? =some (some .resv)):
 ∃nx v w' μ',(execOp a.eval o).run P w= .ok nx w'∧(nx= .value v∨(nx= .skip∧v=undef))∧
  Ww gl N w0 μ0 st0 (fr.TT o.dst (aop P gl true o.op fr (look st) q).d) ((aop P gl true o.op fr (look st) q).app q st) (a.put o.dst v) w' μ':=by
 obtain⟨nx,v,w',μ',h1,h2,h3,h4,h5⟩:=YU (P:=P) (G:=gl) (q:=q) h.sim h.fr h.glob hq hok
 refine⟨nx,v,w',μ',h1,h2,h3,h.glob.step h4,?_,?_,?_,h.step.trans h4⟩
 ·cases XS:o.dst with
  |none=>exact h.fr.step h4
  |some t=>
   have ht:t<N:=by simpa[Wm,XS]using hd
   exact(h.fr.step h4).put h5 (by rw[h.size];exact ht)
 ·cases XS:o.dst with
  |none=>exact h.size
  |some t=>simp[Act.put,h.size]
 ·cases XS:o.dst with
  |none=>exact h.defers
  |some t=>simp[Act.put,h.defers]
theorem d8t{a:Act}{w:World}{μ:Mu}{K:Act→World→Prop}(hc:Ww gl N w0 μ0 st0 fr st a w μ)(h:Fits P gl N ops b x fr st)
 (hK:∀a' w' μ',Ww gl N w0 μ0 st0 (x.fr fr) (x.st st) a' w' μ'→K a' w'):
 if Region.wanted x.o (yielded ops a.tmps)then x.o.wp P a w K Q∨(x.o.asks P a w∧LetsOut Q)else K (a.put x.o.dst undef) w:=by
 rw[Wn hc.fr h.gok, ←h.hG]
 cases hG:x.G with
 |false=>
  simp only[Bool.false_eq_true,if_false]
  have hgs:∃p,x.o.guard=some p:=by
   cases hgd:x.o.guard with
   |none=>have:=h.hG;simp[guardOf,hgd,hG]at this
   |some p=>exact⟨p,rfl⟩
  obtain⟨p,hgs⟩:=hgs
  refine hK _ _ μ ?_
  simp only[Row.fr,Row.st,Row.d,hgs,hG,cond_false]
  exact YV hc h.dst _
 |true=>
  simp only[if_true]
  left
  have wrap:∀ {d:D} {a' w' μ' st'} {v:Value},Ww gl N w0 μ0 st0 (fr.TT x.o.dst d) st' (a.put x.o.dst v) w' μ'→x.r.d=d→a'=a.put x.o.dst v→Ww gl N w0 μ0 st0 (x.fr fr) st' a' w' μ':=by
   intro d a' w' μ' st' v hc' hd ha
   subst ha;subst hd
   have:=YW hc' true rfl
   unfold d5t at this
   simp only[Row.fr,Row.d]
   split at this
   ·rename_i e;rw[e];exact this
   ·rename_i e;rw[e];simp only[hG];exact this
  rcases h.does hG with⟨UZ,hr,hok,hq,i0j⟩|⟨f,xs,g,first,cap,d,rd,UZ,hf,hx,hev,hp,hr,hrd⟩
  ·rw[hr]at hok
   obtain⟨nx,v,w',μ',h1,h2,h3⟩:=d3M (P:=P) (o:=x.o) hc hok h.dst hq
   unfold Oper.wp
   rw[h1]
   have next:K (a.put x.o.dst v) w':=by
    refine hK _ _ μ' ?_
    simp only[Row.st,hG,cond_true,i0j,puts]
    rw[←hr]at h3
    exact wrap h3 rfl rfl
   rcases h2 with rfl|⟨rfl,rfl⟩<;>exact next
  ·obtain⟨_,hspec⟩:=hp st fun _ _=>rfl
   obtain⟨vs,h1,h2,h3⟩:=d0A (P:=P) UZ hc.fr hc.glob hf hx hev
   unfold Oper.wp
   rw[h1]
   refine(hspec w μ vs hc.sim hc.glob h2 h3).upon fun e w' ⟨v,d',st',μ',he,⟨hd1,hd2⟩,hs',d3F,hv⟩=>?_
   subst he;subst hd1;subst hd2
   refine hK _ _ μ' ?_
   have hst:x.st st=puts st x.ups:=by simp[Row.st,hG,hr,LR.app]
   rw[hst]
   refine wrap (d:=d') ?_ (by rw[hr]) rfl
   refine⟨hs',hc.glob.step d3F,?_,?_,?_,hc.step.trans d3F⟩
   ·cases XS:x.o.dst with
    |none=>exact hc.fr.step d3F
    |some t=>
     have ht:t<N:=by simpa[Wm,XS]using h.dst
     exact(hc.fr.step d3F).put hv (by rw[hc.size];exact ht)
   ·cases XS:x.o.dst with
    |none=>exact hc.size
    |some t=>simp[Act.put,hc.size]
   ·cases XS:x.o.dst with
    |none=>exact hc.defers
    |some t=>simp[Act.put,hc.defers]
theorem d3N(hs:∀t∈x.o.looksAt ops,fr'.get t=fr.get t):∀y∈x.o.op.operands,ev gl fr y=ev gl fr' y:=by
 intro y hy
 cases y with
 |tmp t=>exact(hs t (by simp only[Oper.looksAt,List.mem_append,List.mem_filterMap];exact .inl ⟨.tmp t,by simpa using hy,rfl⟩)).symm
 | _=>rfl
theorem d3a(hs:∀t∈x.o.looksAt ops,fr'.get t=fr.get t):guardOf ops fr' x.o=guardOf ops fr x.o∧(RL ops fr' x.o↔RL ops fr x.o):=by
 unfold guardOf RL
 cases hg:x.o.guard with
 |none=>exact⟨rfl,Iff.rfl⟩
 |some p=>
  obtain⟨j,want⟩:=p
  simp only
  cases hd:(ops[j]?).bind (·.dst)with
  |none=>exact⟨rfl,Iff.rfl⟩
  |some t=>
   have:=hs t (by simp only[Oper.looksAt,hg,hd,List.mem_append];exact .inr (by simp))
   simp only[this]
   exact⟨trivial,trivial⟩
theorem d0H{o:Op}{f:Operand}{xs:List Operand}(h:Rs o=some (f,xs)):f∈o.operands∧∀y∈xs,y∈o.operands:=by
 cases o<;>simp only[Rs]at h<;>first|(cases h;done)|skip
 rename_i c
 obtain⟨callee,args,ats⟩:=c
 cases callee<;>simp only at h<;>first|(cases h;done)|skip
 cases h
 exact⟨by simp[Op.operands,Call.operands],fun y hy=>by simp only[Op.operands,Call.operands,Array.mem_append];exact .inr (by simpa using hy)⟩
theorem d6f{a:Act}{w:World}{μ:Mu}(hc:Ww gl N w0 μ0 st0 fr' st' a w μ)(h:Fits P gl N ops b x fr st)(hs:∀t∈x.o.looksAt ops,fr'.get t=fr.get t):
 ∀o∈x.rd,st'[o]? ≠some (some .resv)∨o<b:=by
 intro o ho
 unfold Row.rd at ho
 cases hG:x.G with
 |false=>rw[hG]at ho;cases ho
 |true=>
  rw[hG]at ho
  rcases h.does hG with⟨UZ,hr,hok,hq,i0j⟩|⟨f,xs,g,first,cap,d,rd,UZ,hf,hx,hev,hp,hr,hrd⟩
  ·rw[hr]at hok
   simp only[cond_true,hr]at ho
   obtain⟨y,h1,h2,h3⟩:=i0i hok ho
   have e:=d3N (gl:=gl) hs y (by simpa using h1)
   have h2':eok gl true fr' y:=by unfold eok at h2 ⊢; rw[←e];exact h2
   have h3':(ev1 gl fr' y).top=some o:=by unfold ev1 at h3 ⊢; rw[←e];exact h3
   exact .inl ((Ua hc.fr hc.glob h2').d8s h3')
  ·simp only[hr,cond_true]at ho
   exact .inr (hrd o ho).1
theorem Xz(h:Fits P gl N ops b x fr st):∀o∈x.rd,∃ob,st[o]? =some (some ob)∧ob≠ .resv:=by
 intro o ho
 unfold Row.rd at ho
 cases hG:x.G with
 |false=>rw[hG]at ho;cases ho
 |true=>
  rw[hG]at ho
  rcases h.does hG with⟨UZ,hr,hok,hq,i0j⟩|⟨f,xs,g,first,cap,d,rd,UZ,hf,hx,hev,hp,hr,hrd⟩
  ·rw[hr]at hok
   simp only[cond_true,hr]at ho
   obtain⟨_,ob,h1,h2⟩:=(d6e (look st) hok).1 o ho
   exact⟨ob,VH.1 h1,h2⟩
  ·simp only[hr,cond_true]at ho
   exact(hrd o ho).2
theorem d4S(h:Fits P gl N ops b x fr st)(hs:∀t∈x.o.looksAt ops,fr'.get t=fr.get t)(hm:∀o∈x.rd,look st' o=look st o)
 (hq:needs x.o.op=true→st'[x.q]? =some (some .resv)):Fits P gl N ops b x fr' st':=by
 obtain⟨g1,g2⟩:=d3a hs
 refine⟨h.dst,g2.2 h.gok,by rw[g1];exact h.hG,h.d3K,fun hG=>?_,h.makes⟩
 have hev:=d3N (gl:=gl) hs
 rcases h.does hG with⟨UZ,hr,hok,_,i0j⟩|⟨f,xs,g,first,cap,d,rd,UZ,hf,hx,he,hp,hr,hrd⟩
 ·refine .inl ⟨UZ,?_,hok,hq,i0j⟩
  rw[hr]at hok
  have:x.rd=(aop P gl true x.o.op fr (look st) x.q).rd:=by simp[Row.rd,hG, ←hr]
  rw[this]at hm
  have k:=(d6e (look st) hok).2 (look st') hm
  rw[hr]
  exact k.symm.trans (i2b hev)
 ·obtain⟨m1,m2⟩:=d0H UZ
  have e1:∀y∈x.o.op.operands,ev1 gl fr' y=ev1 gl fr y:=fun y hy=>by unfold ev1;rw[hev y hy]
  have e2:∀y∈x.o.op.operands,eok gl true fr y→eok gl true fr' y:=fun y hy=>by unfold eok;rw[hev y hy];exact id
  have hm':∀o∈rd,look st' o=look st o:=fun o ho=>hm o (by simp[Row.rd,hG,hr];exact ho)
  refine .inr ⟨f,xs,g,first,cap,d,rd,UZ,e2 f m1 hf,fun y hy=>e2 y (m2 y hy) (hx y hy),by rw[e1 f m1];exact he,?_,hr,fun o ho=>⟨(hrd o ho).1,?_⟩⟩
  ·rw[List.map_congr_left fun y hy=>e1 y (m2 y hy)]
   exact fun st2 h2=>hp st2 fun o ho=>(h2 o ho).trans (hm' o ho)
  ·obtain⟨ob,h1,h2⟩:=(hrd o ho).2
   exact⟨ob,VH.1 ((hm' o ho).trans (VH.2 h1)),h2⟩
end
def Row.ap(x:Row)(s:Fr×St):Fr×St:=(x.fr s.1,x.st s.2)
def Row.tch(x:Row):List Nat:=x.wr++(bif x.G&&x.r.new.isSome then [x.q]else [])
theorem XA{α:Type}(l:List α)(i o:Nat)(v:α):(l.set i v)[o]? =if i=o then(l[o]?).map (fun _=>v)else l[o]? :=by
 rw[List.getElem?_set]
 by_cases h:i=o
 ·subst h
  rw[if_pos rfl,if_pos rfl]
  by_cases hl:i<l.length
  ·rw[if_pos hl,List.getElem?_eq_getElem hl];rfl
  ·rw[if_neg hl,List.getElem?_eq_none (by simpa using hl)];rfl
 ·rw[if_neg h,if_neg h]
theorem Ym{x:Row}{st st':St}{o:Nat}(h:st[o]? =st'[o]?):(x.st st)[o]? =(x.st st')[o]? :=by
 unfold Row.st
 cases x.G with
 |false=>exact h
 |true=>
  simp only[cond_true,LR.app]
  refine d0c ?_
  cases x.r.up with
  |none=>cases x.r.new with
   |none=>exact h
   |some ob=>simp only[XA,h]
  |some p=>cases x.r.new with
   |none=>simp only[XA,h]
   |some ob=>simp only[XA,h]
theorem Vd{x:Row}{st:St}{o:Nat}(h:o∉x.tch):(x.st st)[o]? =st[o]? :=by
 unfold Row.st
 unfold Row.tch Row.wr at h
 cases hG:x.G with
 |false=>rfl
 |true=>
  rw[hG]at h
  simp only[cond_true,LR.app,List.mem_append,not_or]at h⊢
  obtain⟨⟨h,i0j⟩,h'⟩:=h
  rw[d3L i0j]
  have h:o∉ (match x.r.up with|some (o,_)=>[o]|none=>[])++(bif true&&x.r.new.isSome then [x.q]else []):=by
   simp only[List.mem_append,not_or];exact⟨h,h'⟩
  cases hu:x.r.up with
  |none=>cases hn:x.r.new with
   |none=>rfl
   |some ob=>
    simp[hu,hn]at h
    simp only[XA,if_neg (Ne.symm h)]
  |some p=>cases hn:x.r.new with
   |none=>
    simp[hu,hn]at h
    simp only[XA,if_neg (Ne.symm h)]
   |some ob=>
    simp[hu,hn]at h
    simp only[XA,if_neg (Ne.symm h.1),if_neg (Ne.symm h.2)]
theorem XB{x:Row}{fr:Fr}{t:Nat}(h:x.o.dst≠some t):(x.fr fr).get t=fr.get t:=by
 unfold Row.fr
 cases hd:x.o.dst with
 |none=>rfl
 |some u=>
  simp only[Fr.TT,Fr.YO]
  rw[if_neg]
  intro e;exact h (by rw[hd,e])
theorem Yn{x:Row}{fr fr':Fr}{t:Nat}(h:fr.get t=fr'.get t):(x.fr fr).get t=(x.fr fr').get t:=by
 unfold Row.fr
 cases hd:x.o.dst with
 |none=>exact h
 |some u=>simp only[Fr.TT,Fr.YO,h]
def Eqv(s s':Fr×St):Prop:=(∀t,s.1.get t=s'.1.get t)∧∀o:Nat,s.2[o]? =s'.2[o]?
theorem Eqv.refl(s:Fr×St):Eqv s s:=⟨fun _=>rfl,fun _=>rfl⟩
theorem Eqv.trans{a b c:Fr×St}(h:Eqv a b)(h':Eqv b c):Eqv a c:=⟨fun t=>(h.1 t).trans (h'.1 t),fun o=>(h.2 o).trans (h'.2 o)⟩
theorem Eqv.symm{a b:Fr×St}(h:Eqv a b):Eqv b a:=⟨fun t=>(h.1 t).symm,fun o=>(h.2 o).symm⟩
theorem Eqv.ap{s s':Fr×St}(h:Eqv s s')(x:Row):Eqv (x.ap s) (x.ap s'):=⟨fun t=>Yn (h.1 t),fun o=>Ym (h.2 o)⟩
theorem i0k{x y:Row}(hd:∀t,x.o.dst=some t→y.o.dst≠some t)(hm:∀o∈x.tch,o∉y.tch)(s:Fr×St):Eqv (x.ap (y.ap s)) (y.ap (x.ap s)):=by
 refine⟨fun t=>?_,fun o=>?_⟩
 ·simp only[Row.ap]
  by_cases h:x.o.dst=some t
  ·rw[XB (x:=y) (hd t h)]
   exact Yn (XB (hd t h))
  ·rw[XB (x:=x) h]
   exact Yn (XB h).symm
 ·simp only[Row.ap]
  by_cases h:o∈x.tch
  ·rw[Vd (x:=y) (hm o h)]
   exact Ym (Vd (hm o h))
  ·rw[Vd (x:=x) h]
   exact Ym (Vd h).symm
def full:List Row→Fr×St→Fr×St
 | [],s=>s
 |x::l,s=>full l (x.ap s)
def sel(L:Nat→Bool):Nat→List Row→Fr×St→Fr×St
 | _,[],s=>s
 |i,x::l,s=>sel L (i+1) l (bif L i then x.ap s else s)
theorem d3b{L:Nat→Bool}:∀(l:List Row) (i:Nat) (s s':Fr×St),Eqv s s'→Eqv (sel L i l s) (sel L i l s')
 | [],_,_,_,h=>h
 |x::l,i,s,s',h=>by
  simp only[sel]
  cases L i with
  |true=>exact d3b l _ _ _ (h.ap x)
  |false=>exact d3b l _ _ _ h
theorem XC{L:Nat→Bool}:∀(l1 l2:List Row) (i:Nat) (s:Fr×St),sel L i (l1++l2) s=sel L (i+l1.length) l2 (sel L i l1 s)
 | [],_,_,_=>rfl
 |x::l1,l2,i,s=>by
  simp only[List.cons_append,sel,List.length_cons]
  rw[XC l1 l2 (i+1)]
  congr 1
  omega
theorem Za{L L':Nat→Bool}:∀(l:List Row) (i:Nat) (s:Fr×St),(∀k,i≤k→k<i+l.length→L k=L' k)→sel L i l s=sel L' i l s
 | [],_,_,_=>rfl
 |x::l,i,s,h=>by
  simp only[sel]
  rw[h i (Nat.le_refl _) (by simp)]
  exact Za l _ _ fun k h1 h2=>h k (by omega) (by simp at h2 ⊢; omega)
theorem d6g{L:Nat→Bool}:∀(l:List Row) (i:Nat) (s:Fr×St),(∀k,i≤k→k<i+l.length→L k=true)→sel L i l s=full l s
 | [],_,_,_=>rfl
 |x::l,i,s,h=>by
  simp only[sel,full]
  rw[h i (Nat.le_refl _) (by simp),cond_true]
  exact d6g l _ _ fun k h1 h2=>h k (by omega) (by simp at h2 ⊢; omega)
theorem d3O{L:Nat→Bool}:∀(l:List Row) (i:Nat) (s:Fr×St),(∀k,i≤k→k<i+l.length→L k=false)→sel L i l s=s
 | [],_,_,_=>rfl
 |x::l,i,s,h=>by
  simp only[sel]
  rw[h i (Nat.le_refl _) (by simp),cond_false]
  exact d3O l _ _ fun k h1 h2=>h k (by omega) (by simp at h2 ⊢; omega)
theorem d3P{L:Nat→Bool}{x:Row}:∀(l:List Row) (i:Nat) (s:Fr×St),
 (∀k (h:k<l.length),L (i+k)=true→(∀t,x.o.dst=some t→(l[k]).o.dst≠some t)∧∀o∈x.tch,o∉ (l[k]).tch)→Eqv (sel L i l (x.ap s)) (x.ap (sel L i l s))
 | [],_,s,_=>Eqv.refl _
 |y::l,i,s,h=>by
  have hl:∀s,Eqv (sel L (i+1) l (x.ap s)) (x.ap (sel L (i+1) l s)):=fun s=>d3P l (i+1) s fun k hk hL=>by
   have:=h (k+1) (by simpa using hk) (by rw[←hL];congr 1;omega)
   simpa using this
  simp only[sel]
  cases hL:L i with
  |false=>exact hl s
  |true=>
   simp only[cond_true]
   obtain⟨h1,h2⟩:=h 0 (by simp) hL
   exact(d3b l (i+1) _ _ (i0k h1 h2 s).symm).trans (hl (y.ap s))
theorem d3Q{L:Nat→Bool}{t:Nat}:∀(l:List Row) (i:Nat) (s:Fr×St),(∀k (h:k<l.length),L (i+k)=true→(l[k]).o.dst≠some t)→(sel L i l s).1.get t=s.1.get t
 | [],_,_,_=>rfl
 |y::l,i,s,h=>by
  have hl:∀s,(sel L (i+1) l s).1.get t=s.1.get t:=fun s=>d3Q l (i+1) s fun k hk hL=>by
   have:=h (k+1) (by simpa using hk) (by rw[←hL];congr 1;omega)
   simpa using this
  simp only[sel]
  rw[hl]
  cases hL:L i with
  |false=>rfl
  |true=>exact XB (h 0 (by simp) hL)
theorem d3c{L:Nat→Bool}{o:Nat}:∀(l:List Row) (i:Nat) (s:Fr×St),(∀k (h:k<l.length),L (i+k)=true→o∉ (l[k]).tch)→(sel L i l s).2[o]? =s.2[o]?
 | [],_,_,_=>rfl
 |y::l,i,s,h=>by
  have hl:∀s,(sel L (i+1) l s).2[o]? =s.2[o]? :=fun s=>d3c l (i+1) s fun k hk hL=>by
   have:=h (k+1) (by simpa using hk) (by rw[←hL];congr 1;omega)
   simpa using this
  simp only[sel]
  rw[hl]
  cases hL:L i with
  |false=>rfl
  |true=>exact Vd (h 0 (by simp) hL)
theorem d1H{L:Nat→Bool}{t:Nat}:∀(l:List Row) (i:Nat) (s s':Fr×St),s.1.get t=s'.1.get t→(∀k (h:k<l.length),L (i+k)=false→(l[k]).o.dst≠some t)→(sel L i l s).1.get t=(full l s').1.get t
 | [],_,_,_,h,_=>h
 |y::l,i,s,s',he,h=>by
  simp only[sel,full]
  refine d1H l (i+1) _ _ ?_ fun k hk hL=>by
   have:=h (k+1) (by simpa using hk) (by rw[←hL];congr 1;omega)
   simpa using this
  cases hL:L i with
  |true=>exact Yn he
  |false=>exact he.trans (XB (h 0 (by simp) hL)).symm
theorem d3R{L:Nat→Bool}{o:Nat}:∀(l:List Row) (i:Nat) (s s':Fr×St),s.2[o]? =s'.2[o]? →(∀k (h:k<l.length),L (i+k)=false→o∉ (l[k]).tch)→(sel L i l s).2[o]? =(full l s').2[o]?
 | [],_,_,_,h,_=>h
 |y::l,i,s,s',he,h=>by
  simp only[sel,full]
  refine d3R l (i+1) _ _ ?_ fun k hk hL=>by
   have:=h (k+1) (by simpa using hk) (by rw[←hL];congr 1;omega)
   simpa using this
  cases hL:L i with
  |true=>exact Ym he
  |false=>exact he.trans (Vd (h 0 (by simp) hL)).symm
def Trace(P:Program)(gl:Gl)(N:Nat)(ops:Array Oper)(b:Nat):List Row→Fr×St→Prop
 | [],_=>True
 |x::l,s=>Fits P gl N ops b x s.1 s.2∧Trace P gl N ops b l (x.ap s)
def Ord(ops:Array Oper)(i j:Nat):Prop:=
 ∀L:Nat→Bool,(∀k o,L k=true→ops[k]? =some o→∀e∈o.after,Region.binds .any e=true→L e.on=true)→
  (∀o,ops[j]? =some o→∀e∈o.after,Region.binds .any e=true→L e.on=true)→L i=true
def Ind(ops:Array Oper)(x y:Row):Prop:=Oper.apart ops x.o y.o=true∧(∀o∈x.wr,o∉y.rd)∧∀o∈y.wr,o∉x.rd
structure Good(P:Program)(gl:Gl)(N:Nat)(ops:Array Oper)(b:Nat)(rows:List Row)(s0:Fr×St):Prop where
 hO:ops.toList=rows.map (·.o)
 tr:Trace P gl N ops b rows s0
 qs:∀i j (hi:i<rows.length) (hj:j<rows.length),i≠j→needs (rows[i]).o.op=true→needs (rows[j]).o.op=true→(rows[i]).q≠(rows[j]).q
 kept:∀x∈rows,needs x.o.op=true→s0.2[x.q]? =some (some .resv)∧b≤x.q
 fwd:∀i o,ops[i]? =some o→∀e∈o.after,Region.binds .any e=true→e.on<i
 ind:∀i j (hi:i<rows.length) (hj:j<rows.length),i<j→Ord ops i j∨Ind ops (rows[i]) (rows[j])
section
variable {P:Program} {gl:Gl} {N b:Nat} {ops:Array Oper} {w0:World} {μ0:Mu} {st0:St} {rows:List Row} {s0:Fr×St} {Q:Exit→Act→World→Prop}
theorem d3d{x:Row}(h:d3K x.r∧∀p∈x.ups,p.1∈x.r.rd){o:Nat}(ho:o∈x.wr):o∈x.rd:=by
 unfold Row.wr at ho
 unfold Row.rd
 cases hG:x.G with
 |false=>rw[hG]at ho;cases ho
 |true=>
  rw[hG]at ho
  simp only[cond_true,List.mem_append]at ho⊢
  rcases ho with ho|ho
  ·cases hu:x.r.up with
   |none=>rw[hu]at ho;cases ho
   |some p=>
    rw[hu]at ho
    simp only[List.mem_singleton]at ho
    exact h.1 o p.2 (by rw[hu,ho])
  ·obtain⟨p,hp,e⟩:=List.mem_map.1 ho
   rw[←e];exact h.2 p hp
theorem Td{x:Row}{o:Nat}(h:o∈x.tch):o∈x.wr∨(o=x.q∧x.r.new≠none):=by
 unfold Row.tch at h
 rcases List.mem_append.1 h with h|h
 ·exact .inl h
 ·right
  cases hG:x.G<;>cases hn:x.r.new<;>simp[hG,hn]at h⊢
  exact h
theorem WO:∀(l1:List Row) {x:Row} {l2:List Row} {s:Fr×St},Trace P gl N ops b (l1++x::l2) s→Fits P gl N ops b x (full l1 s).1 (full l1 s).2
 | [],_,_,_,h=>h.1
 | _::l1,_,_,_,h=>WO l1 h.2
theorem d1I:∀(l1 l2:List Row) (s:Fr×St),Trace P gl N ops b (l1++l2) s→(∀x∈l1,∀y∈l2,needs x.o.op=true→needs y.o.op=true→x.q≠y.q)→
 (∀y∈l2,needs y.o.op=true→s.2[y.q]? =some (some .resv))→∀y∈l2,needs y.o.op=true→(full l1 s).2[y.q]? =some (some .resv)
 | [],_,_,_,_,h=>h
 |x::l1,l2,s,ht,hq,h=>by
  refine d1I l1 l2 (x.ap s) ht.2 (fun z hz=>hq z (by simp[hz])) fun y hy hn=>?_
  have:y.q∉x.tch:=fun hm=>by
   rcases Td hm with hm|⟨e,hm⟩
   ·obtain⟨ob,h1,h2⟩:=Xz ht.1 _ (d3d ht.1.d3K hm)
    rw[h y hy hn]at h1
    cases h1;exact h2 rfl
   ·exact hq x (by simp) y hy (ht.1.makes hm) hn e.symm
  simp only[Row.ap]
  rw[Vd this]
  exact h y hy hn
def cnt(L:Nat→Bool):Nat→Nat
 |0=>0
 |n+1=>cnt L n+(bif L n then 0 else 1)
theorem d3S{L:Nat→Bool}:∀ {n:Nat},cnt L n=0→∀k,k<n→L k=true
 |n+1,h,k,hk=>by
  simp only[cnt]at h
  cases hL:L n with
  |false=>simp[hL]at h
  |true=>
   rcases Nat.lt_or_ge k n with hk'|hk'
   ·exact d3S (by simp[hL]at h;exact h) k hk'
   ·have:k=n:=by omega
    rw[this];exact hL
theorem d3T{L L':Nat→Bool}:∀ {n:Nat},(∀k,k<n→L k=L' k)→cnt L n=cnt L' n
 |0,_=>rfl
 |n+1,h=>by simp only[cnt];rw[d3T fun k hk=>h k (by omega),h n (by omega)]
theorem d3U{L L':Nat→Bool}{i:Nat}(hi:L i=false)(hi':L' i=true)(hs:∀k,k≠i→L k=L' k):∀ {n:Nat},i<n→cnt L' n+1=cnt L n
 |n+1,h=>by
  simp only[cnt]
  rcases Nat.lt_or_ge i n with h1|h1
  ·rw[←d3U hi hi' hs h1,hs n (by omega)];omega
  ·have:i=n:=by omega
   subst this
   rw[hi,hi',d3T (L:=L') (L':=L) fun k hk=>(hs k (by omega)).symm]
   simp
def lst(listed:Array Bool)(i:Nat):Bool:=listed.getD i false
theorem d8u{s s':Fr×St}{a:Act}{w:World}{μ:Mu}(h:Eqv s s')(hc:Ww gl N w0 μ0 st0 s.1 s.2 a w μ):Ww gl N w0 μ0 st0 s'.1 s'.2 a w μ:=by
 have e:s.2=s'.2:=List.ext_getElem? h.2
 rw[e]at hc
 exact⟨hc.sim,hc.glob,fun t=>by rw[←h.1 t];exact hc.fr t,hc.size,hc.defers,hc.step⟩
set_option maxHeartbeats 1000000 in
theorem d6h(hg:Good P gl N ops b rows s0)(hQ:∀a w μ,Ww gl N w0 μ0 st0 (full rows s0).1 (full rows s0).2 a w μ→Q .normal a w):
 ∀(fuel:Nat) (listed:Array Bool) (a:Act) (w:World) (μ:Mu),listed.size=rows.length→cnt (lst listed) rows.length≤fuel→
  (∀k o,lst listed k=true→ops[k]? =some o→∀e∈o.after,Region.binds .any e=true→lst listed e.on=true)→
  (∀i j (hi:i<rows.length) (hj:j<rows.length),lst listed j=true→lst listed i=false→needs (rows[i]).o.op=true→(rows[i]).q∉ (rows[j]).rd)→
  Ww gl N w0 μ0 st0 (sel (lst listed) 0 rows s0).1 (sel (lst listed) 0 rows s0).2 a w μ→wpAny P .any ops Q fuel listed a w:=by
 have hsz:ops.size=rows.length:=by have:=congrArg List.length hg.hO;simpa using this
 have hop:∀i (h:i<rows.length),ops[i]? =some (rows[i]).o:=fun i h=>by
  have:ops.toList[i]? =(rows.map (·.o))[i]? :=by rw[hg.hO]
  simpa[h]using this
 have hall:∀(listed:Array Bool) (a:Act) (w:World) (μ:Mu),(∀k,k<rows.length→lst listed k=true)→
  Ww gl N w0 μ0 st0 (sel (lst listed) 0 rows s0).1 (sel (lst listed) 0 rows s0).2 a w μ→Q .normal a w:=fun listed a w μ h hc=>by
  rw[d6g rows 0 s0 fun k _ hk=>h k (by omega)]at hc
  exact hQ a w μ hc
 have WQ:∀(listed:Array Bool) (i:Nat),listed.size=rows.length→(i∈Region.ready .any ops listed↔i<rows.length∧lst listed i=false∧∀o,ops[i]? =some o→∀e∈o.after,Region.binds .any e=true→lst listed e.on=true):=by
  intro listed i hls
  unfold Region.ready
  simp only[List.mem_filter,List.mem_range,hsz]
  constructor
  ·rintro⟨h1,h2⟩
   rw[hop i h1]at h2⊢
   simp only[Option.map_some,Option.getD_some,Bool.and_eq_true,Bool.not_eq_true',Array.all_eq_true_iff_forall_mem]at h2
   refine⟨h1,?_,fun o ho e he hb=>?_⟩
   ·have:=h2.1
    unfold lst
    simp[Array.getD_eq_getD_getElem?, hls,h1]at this⊢
    exact this
   ·cases ho
    have:=h2.2 e he
    simp only[Bool.or_eq_true,Bool.not_eq_true',hb,Bool.true_eq_false,false_or]at this
    exact this
  ·rintro⟨h1,h2,h3⟩
   refine⟨h1,?_⟩
   rw[hop i h1]at h3⊢
   simp only[Option.map_some,Option.getD_some,Bool.and_eq_true,Bool.not_eq_true',Array.all_eq_true_iff_forall_mem]
   refine⟨?_,fun e he=>?_⟩
   ·unfold lst at h2
    simp[Array.getD_eq_getD_getElem?, hls,h1]at h2⊢
    exact h2
   ·cases hb:Region.binds .any e with
    |false=>simp
    |true=>
     have:=h3 _ rfl e he hb
     unfold lst at this
     rw[this];rfl
 have hnone:∀(listed:Array Bool),listed.size=rows.length→Region.ready .any ops listed=[]→∀k,k<rows.length→lst listed k=true:=by
  intro listed hls hr k
  induction k using Nat.strongRecOn with
  | _ k ih=>
   intro hk
   cases hL:lst listed k with
   |true=>rfl
   |false=>
    exfalso
    have:k∈Region.ready .any ops listed:=(WQ listed k hls).2 ⟨hk,hL,fun o ho e he hb=>by
     have:=hg.fwd k o ho e he hb
     exact ih e.on this (by omega)⟩
    rw[hr]at this;cases this
 intro fuel
 induction fuel with
 |zero=>
  intro listed a w μ hls hc hcl hh hcc
  have ha:=d3S (Nat.le_zero.1 hc)
  refine⟨?_,hall listed a w μ ha hcc⟩
  rw[List.eq_nil_iff_forall_not_mem]
  intro i hi
  obtain⟨h1,h2,_⟩:=(WQ listed i hls).1 hi
  rw[ha i h1]at h2;cases h2
 |succ fuel ih=>
  intro listed a w μ hls hc hcl hh hcc
  refine⟨fun hr=>hall listed a w μ (hnone listed hls hr) hcc,fun i hi=>?_⟩
  obtain⟨hil,hLi,haf⟩:=(WQ listed i hls).1 hi
  generalize hx:rows[i]=x
  have Wk:rows=rows.take i++x::rows.drop (i+1):=by rw[←hx,List.getElem_cons_drop,List.take_append_drop]
  have i2c:(rows.take i).length=i:=by simp;omega
  have d6i:∀k (hk:k<i),lst listed k=false→Ind ops (rows[k]'(by omega)) x:=fun k hk hL=>by
   rcases hg.ind k i (by omega) hil hk with h|h
   ·have:=h (lst listed) hcl haf
    rw[this]at hL;cases hL
   ·rw[hx]at h;exact h
  have d6j:∀k (hk:i<k) (hkl:k<rows.length),lst listed k=true→Ind ops x (rows[k]):=fun k hk hkl hL=>by
   rcases hg.ind i k hil hkl hk with h|h
   ·have:=h (lst listed) hcl (fun o ho=>hcl k o hL ho)
    rw[this]at hLi;cases hLi
   ·rw[hx]at h;exact h
  have d6k:Fits P gl N ops b x (full (rows.take i) s0).1 (full (rows.take i) s0).2:=by
   have ht:=hg.tr
   rw[Wk]at ht
   exact WO _ ht
  have i2d:∀k (hk:i≤k) (hkl:k<rows.length),needs (rows[k]).o.op=true→(full (rows.take i) s0).2[(rows[k]).q]? =some (some .resv):=fun k hk hkl hn=>by
   refine d1I (P:=P) (gl:=gl) (N:=N) (ops:=ops) (rows.take i) (rows.drop i) s0 (by rw[List.take_append_drop];exact hg.tr) (fun z hz y hy h1 h2=>?_) (fun y hy hn=>(hg.kept y (List.mem_of_mem_drop hy) hn).1) _ ?_ hn
   ·obtain⟨a',ha',e1⟩:=List.getElem_of_mem hz
    obtain⟨b',hb',e2⟩:=List.getElem_of_mem hy
    simp only[List.getElem_take]at e1
    simp only[List.getElem_drop]at e2
    simp only[List.length_take]at ha'
    simp only[List.length_drop]at hb'
    have:=hg.qs a' (i+b') (by omega) (by omega) (by omega)
    rw[e1,e2]at this
    exact this h1 h2
   ·have:rows[k]=(rows.drop i)[k-i]'(by simp;omega):=by
     rw[List.getElem_drop];congr 1;omega
    rw[this];exact List.getElem_mem _
  have i5v:∀j (h:j<rows.length),d3K (rows[j]).r∧∀p∈(rows[j]).ups,p.1∈(rows[j]).r.rd:=fun j h=>by
   have ht:=hg.tr
   have e:rows=rows.take j++rows[j]::rows.drop (j+1):=by rw[List.getElem_cons_drop,List.take_append_drop]
   rw[e]at ht
   exact(WO _ ht).d3K
  have hmk:∀j (h:j<rows.length),(rows[j]).r.new≠none→needs (rows[j]).o.op=true:=fun j h=>by
   have ht:=hg.tr
   have e:rows=rows.take j++rows[j]::rows.drop (j+1):=by rw[List.getElem_cons_drop,List.take_append_drop]
   rw[e]at ht
   exact(WO _ ht).makes
  have hR:∀k (hk:k<rows.length),lst listed k=false→needs (rows[k]).o.op=true→(sel (lst listed) 0 rows s0).2[(rows[k]).q]? =some (some .resv):=fun k hk hL hn=>by
   rw[d3c rows 0 s0]
   ·exact(hg.kept _ (List.getElem_mem _) hn).1
   ·intro j hj hLj hm
    rw[Nat.zero_add]at hLj
    rcases Td hm with hm|⟨e,hm⟩
    ·exact hh k j hk hj hLj hL hn (d3d (i5v j hj) hm)
    ·have hne:k≠j:=fun e=>by subst e;rw[hL]at hLj;cases hLj
     exact hg.qs k j hk hj hne hn (hmk j hj hm) e
  have hsel:sel (lst listed) 0 rows s0=sel (lst listed) (i+1) (rows.drop (i+1)) (sel (lst listed) 0 (rows.take i) s0):=by
   conv=>lhs;rw[Wk]
   rw[XC,i2c]
   simp only[sel,Nat.zero_add,hLi,cond_false]
  have d9q:∀t∈x.o.looksAt ops,(sel (lst listed) 0 rows s0).1.get t=(full (rows.take i) s0).1.get t:=fun t ht=>by
   rw[hsel,d3Q]
   ·refine d1H _ _ _ _ rfl fun k hk hL hd=>?_
    simp only[List.length_take]at hk
    rw[Nat.zero_add]at hL
    simp only[List.getElem_take]at hd
    exact(Oper.apart_spec (d6i k (by omega) hL).1).1 t hd ht
   ·intro k hk hL hd
    simp only[List.length_drop]at hk
    simp only[List.getElem_drop]at hd
    exact(Oper.apart_spec (d6j (i+1+k) (by omega) (by omega) hL).1).2.2 t hd ht
  have i2e:∀o∈x.rd,∀k (hk:k<rows.length),lst listed k=false→needs (rows[k]).o.op=true→o≠(rows[k]).q:=fun o ho k hk hL hn e=>by
   rcases d6f hcc d6k d9q o ho with h|h
   ·rw[e]at h;exact h (hR k hk hL hn)
   ·have:=(hg.kept _ (List.getElem_mem hk) hn).2
    omega
  have i2f:=Xz d6k
  have d3V:∀o∈x.rd,∀k (hk:i<k) (hkl:k<rows.length),lst listed k=true→o∉ (rows[k]).tch:=fun o ho k hk hkl hL hm=>by
   rcases Td hm with hm|⟨e,hm⟩
   ·exact(d6j k hk hkl hL).2.2 o hm ho
   ·obtain⟨ob,h1,h2⟩:=i2f o ho
    rw[e,i2d k (by omega) hkl (hmk k hkl hm)]at h1
    cases h1;exact h2 rfl
  have i4f:∀o∈x.rd,(sel (lst listed) 0 rows s0).2[o]? =(full (rows.take i) s0).2[o]? :=fun o ho=>by
   rw[hsel]
   have e2:(sel (lst listed) (i+1) (rows.drop (i+1)) (sel (lst listed) 0 (rows.take i) s0)).2[o]? =(sel (lst listed) 0 (rows.take i) s0).2[o]? :=d3c _ _ _ fun k hk hL=>by
    simp only[List.length_drop]at hk
    simp only[List.getElem_drop]
    exact d3V o ho (i+1+k) (by omega) (by omega) hL
   rw[e2]
   refine d3R _ _ _ _ rfl fun k hk hL hm=>?_
   simp only[List.length_take]at hk
   rw[Nat.zero_add]at hL
   simp only[List.getElem_take]at hm
   rcases Td hm with hm|⟨e,hm⟩
   ·exact(d6i k (by omega) hL).2.1 o hm ho
   ·exact i2e o ho k (by omega) hL (hmk k (by omega) hm) e
  have i2g:Fits P gl N ops b x (sel (lst listed) 0 rows s0).1 (sel (lst listed) 0 rows s0).2:=
   d4S d6k d9q (fun o ho=>by unfold look;rw[i4f o ho]) (fun hn=>by have:=hR i hil hLi (by rw[hx];exact hn);rw[hx]at this;exact this)
  have hL':∀k,lst (listed.setIfInBounds i true) k=if k=i then true else lst listed k:=fun k=>by
   unfold lst
   by_cases e:k=i
   ·subst e;rw[if_pos rfl];simp[Array.getD_eq_getD_getElem?, hls,hil]
   ·rw[if_neg e];simp[Array.getD_eq_getD_getElem?, Array.getElem?_setIfInBounds_ne (Ne.symm e)]
  unfold wpOp
  rw[hop i hil,hx]
  refine d8t hcc i2g fun a' w' μ' hc'=>?_
  refine ih _ a' w' μ' (by simpa using hls) ?_ ?_ ?_ ?_
  ·have:=d3U (L:=lst listed) (L':=lst (listed.setIfInBounds i true)) hLi (by rw[hL',if_pos rfl]) (fun k hk=>by rw[hL',if_neg hk]) hil
   omega
  ·intro k o hk ho e he hb
   rw[hL']at hk⊢
   split
   ·rfl
   ·by_cases hki:k=i
    ·subst hki;exact haf o ho e he hb
    ·rw[if_neg hki]at hk;exact hcl k o hk ho e he hb
  ·intro k j hk hj hLj hLk hn
   rw[hL']at hLj hLk
   have hki:k≠i:=fun e=>by rw[if_pos e]at hLk;cases hLk
   rw[if_neg hki]at hLk
   by_cases hji:j=i
   ·subst hji
    rw[hx]
    intro hm
    exact i2e _ hm k hk hLk hn rfl
   ·rw[if_neg hji]at hLj
    exact hh k j hk hj hLj hLk hn
  ·refine d8u (s:=x.ap (sel (lst listed) 0 rows s0)) ?_ hc'
   have e1:sel (lst (listed.setIfInBounds i true)) 0 rows s0=sel (lst listed) (i+1) (rows.drop (i+1)) (x.ap (sel (lst listed) 0 (rows.take i) s0)):=by
    conv=>lhs;rw[Wk]
    rw[XC,i2c]
    simp only[sel,Nat.zero_add]
    rw[hL',if_pos rfl,cond_true]
    rw[Za (L':=lst listed) (rows.take i) 0 s0 fun k _ hk=>by
     simp only[List.length_take]at hk
     rw[hL',if_neg (by omega)]]
    exact Za _ _ _ fun k hk _=>by rw[hL',if_neg (by omega)]
   rw[e1,hsel]
   refine(d3P _ _ _ fun k hk hL=>?_).symm
   simp only[List.length_drop]at hk
   simp only[List.getElem_drop]
   have hI:=d6j (i+1+k) (by omega) (by omega) hL
   refine⟨(Oper.apart_spec hI.1).2.1,fun o ho hm=>?_⟩
   rcases Td ho with ho|⟨e,ho⟩
   ·exact d3V o (d3d d6k.d3K ho) (i+1+k) (by omega) (by omega) hL hm
   ·have hn:=d6k.makes ho
    rcases Td hm with hm|⟨e',hm⟩
    ·have:=hh i (i+1+k) hil (by omega) hL hLi (by rw[hx];exact hn)
     rw[hx, ←e]at this
     exact this (d3d (i5v _ (by omega)) hm)
    ·have:=hg.qs i (i+1+k) hil (by omega) (by omega) (by rw[hx];exact hn) (hmk _ (by omega) hm)
     rw[hx]at this
     exact this (e.symm.trans e')
end
abbrev Log:=List (List Nat×List Nat)
def i4g(rd up:List Nat):Log→Prop
 | []=>True
 |(rd',up')::l=>(∀o∈up,o∉rd')∧(∀o∈up',o∉rd)∧i4g rd up l
def d9r:Log→Prop
 | []=>True
 |(rd,up)::l=>i4g rd up l∧d9r l
def upL(r:LR):List Nat:=match r.up with|some (o,_)=>[o]|none=>[]
def Ve(tr:Bool)(lg:Log)(r:LR)(ups:List (Nat×Ob)):Log:=bif tr then lg++[(r.rd,upL r++ups.map (·.1))]else lg
def d8v(N q:Nat)(tr:Bool)(dst:Option Nat)(lg:Log)(fr:Fr)(st:St)(k:Log→Fr→St→Prop)(r:LR):Prop:=
 r.ok∧dlt N dst∧k (Ve tr lg r []) (fr.TT dst r.d) (r.app q st)
def d4T(P:Program)(gl:Gl)(b:Nat)(tr:Bool)(dst:Option Nat)(lg:Log)(fr:Fr)(st:St)(k:Log→Fr→St→Prop)(g:FuncId)(args:List D):Prop:=
 ∃r rd ups,d0G P gl g args rd st r ups∧(∀p∈ups,p.1∈rd)∧(∀o∈rd,o<b∧∃ob,look st o=some ob∧ob≠ .resv)∧(tr=false→rd=[])∧k (Ve tr lg ⟨r,True,rd,none,none⟩ ups) (fr.TT dst r) (puts st ups)
def d1J(P:Program)(gl:Gl)(b:Nat)(G tr:Bool)(dst:Option Nat)(lg:Log)(fr:Fr)(st:St)(k:Log→Fr→St→Prop)(g:FuncId)(args:List D):Prop:=
 ∃r rd ups,(G=true→d0G P gl g args rd st r ups)∧(∀p∈ups,p.1∈rd)∧(∀o∈rd,o<b∧∃ob,look st o=some ob∧ob≠ .resv)∧(tr=false→rd=[])∧(G=false→puts st ups=st)∧k (Ve tr lg ⟨r,True,rd,none,none⟩ ups) (fr.TT dst (.cond G r)) (puts st ups)
def i1n(P:Program)(gl:Gl)(N b:Nat)(tr:Bool)(dst:Option Nat)(lg:Log)(fr:Fr)(st:St)(k:Log→Fr→St→Prop)(ok:Prop)(f:D)(args:List D):Prop:=
 match f with
 | .fn g first cap=>dlt N dst∧ok∧d4T P gl b tr dst lg fr st k g (first++args++cap)
 | _=>False
def d3e(N q:Nat)(G:Bool)(tr:Bool)(dst:Option Nat)(lg:Log)(fr:Fr)(st:St)(k:Log→Fr→St→Prop)(r:LR):Prop:=
 d1m G r.ok∧dlt N dst∧k (Ve tr lg r []) (fr.TT dst (.cond G r.d)) (bif G then r.app q st else st)
def d4U(P:Program)(gl:Gl)(N b:Nat)(G:Bool)(tr:Bool)(dst:Option Nat)(lg:Log)(fr:Fr)(st:St)(k:Log→Fr→St→Prop)(ok:Prop)(f:D)(args:List D):Prop:=
 match f with
 | .fn g first cap=>dlt N dst∧ok∧d1J P gl b G tr dst lg fr st k g (first++args++cap)
 | _=>False
def d9s(P:Program)(gl:Gl)(N b q:Nat)(tr:Bool)(k k1:Log→Fr→St→Prop)(dst:Option Nat)(op:Op)(lg:Log)(fr:Fr)(st:St):Nat→Prop
 |0=>d8v N q tr dst lg fr st k (aop P gl true op fr (look st) q)
 |1=>d8v N q tr dst lg fr st k1 (aop P gl true op fr (look st) q)
 | _=>match op with
  | .call ⟨.value f,args,_⟩=>i1n P gl N b tr dst lg fr st k (eok gl true fr f∧(∀x∈args.toList,eok gl true fr x)) (ev1 gl fr f) (args.toList.map (ev1 gl fr))
  | _=>False
def d8w(P:Program)(gl:Gl)(N b q:Nat)(tr:Bool)(k k1:Log→Fr→St→Prop)(dst:Option Nat)(op:Op)(lg:Log)(fr:Fr)(st:St):Nat→Option Bool→Prop
 |0,some G=>d3e N q G tr dst lg fr st k (aop P gl G op fr (look st) q)
 |1,some G=>d3e N q G tr dst lg fr st k1 (aop P gl G op fr (look st) q)
 |2,some G=>match op with
  | .call ⟨.value f,args,_⟩=>d4U P gl N b G tr dst lg fr st k (eok gl G fr f∧(∀x∈args.toList,eok gl G fr x)) (ev1 gl fr f) (args.toList.map (ev1 gl fr))
  | _=>False
 | _,_=>False
def EvD(P:Program)(gl:Gl)(N:Nat)(ops:Array Oper)(b:Nat)(trk:List Nat)(K:Fr→St→Prop):List Oper→Nat→Nat→Log→Fr→St→Prop
 | [],_,_,lg,fr,st=>d9r lg∧K fr st
 |⟨dst,op,_,_,_,none⟩::l,i,k,lg,fr,st=>d9s P gl N b (b+k) (trk.contains i) (EvD P gl N ops b trk K l (i+1) k) (EvD P gl N ops b trk K l (i+1) (k+1)) dst op lg fr st (opk op)
 |⟨dst,op,_,_,_,some (j,want)⟩::l,i,k,lg,fr,st=>d8w P gl N b (b+k) (trk.contains i) (EvD P gl N ops b trk K l (i+1) k) (EvD P gl N ops b trk K l (i+1) (k+1)) dst op lg fr st (opk op) (d8f fr want (gslot ops j))
def rds:Op→Bool
 | .load _ _| .store _ _ _| .indexAddr _ _ _| .slice _ _ _ _ _| .lookup _ _ _ _| .mapUpdate _ _ _ _| .next _ _| .call { callee:=.builtin .len,.. }| .call { callee:=.builtin .append,.. }=>true
 | _=>false
def wrs:Op→Bool
 | .store _ _ _| .mapUpdate _ _ _ _| .next _ _| .call { callee:=.builtin .append,.. }=>true
 | _=>false
def ZI(trk:List Nat)(i:Nat)(o:Op):Bool:=(Rs o).isSome&&trk.contains i
def d6l(tbl:List Nat)(o:Oper):Nat:=o.after.toList.foldl (fun s e=>bif Region.binds .any e then s|||2^e.on|||tbl.getD e.on 0 else s) 0
def masks:List Oper→List Nat→List Nat
 | [],tbl=>tbl
 |o::l,tbl=>masks l (tbl++[d6l tbl o])
def d9t(ops:Array Oper)(trk:List Nat)(m i j:Nat):Bool:=
 Nat.testBit m i||(match ops[i]?, ops[j]? with
  |some x,some y=>Oper.apart ops x y&&((!((wrs x.op||ZI trk i x.op)&&(rds y.op||ZI trk j y.op))&& !((wrs y.op||ZI trk j y.op)&&(rds x.op||ZI trk i x.op)))||(trk.contains i&&trk.contains j))
  | _,_=>false)
def Vf(ops:Array Oper)(trk:List Nat):Bool:=
 let tbl:=masks ops.toList []
 (List.range ops.size).all fun j=>
  (match ops[j]? with|some o=>o.after.toList.all fun e=> !Region.binds .any e||Nat.blt e.on j|none=>true)&&
  (List.range j).all fun i=>d9t ops trk (tbl.getD j 0) i j
theorem d4V{tbl:List Nat}{o:Oper}{j:Nat}(h:Nat.testBit (d6l tbl o) j=true):∃e∈o.after,Region.binds .any e=true∧(e.on=j∨Nat.testBit (tbl.getD e.on 0) j=true):=by
 have key:∀(l:List Edge) (s:Nat),Nat.testBit (l.foldl (fun s e=>bif Region.binds .any e then s|||2^e.on|||tbl.getD e.on 0 else s) s) j=true→
  Nat.testBit s j=true∨∃e∈l,Region.binds .any e=true∧(e.on=j∨Nat.testBit (tbl.getD e.on 0) j=true):=by
  intro l
  induction l with
  |nil=>intro s h;exact .inl h
  |cons e l ih=>
   intro s h
   simp only[List.foldl_cons]at h
   rcases ih _ h with h|⟨e',h1,h2⟩
   ·cases hb:Region.binds .any e with
    |false=>rw[hb]at h;exact .inl h
    |true=>
     rw[hb]at h
     simp only[cond_true,Nat.testBit_or,Bool.or_eq_true,Nat.testBit_two_pow,decide_eq_true_eq]at h
     rcases h with(h|h)|h
     ·exact .inl h
     ·exact .inr ⟨e,by simp,hb,.inl h⟩
     ·exact .inr ⟨e,by simp,hb,.inr h⟩
   ·exact .inr ⟨e',by simp[h1],h2⟩
 rcases key _ 0 h with h|⟨e,h1,h2⟩
 ·simp at h
 ·exact⟨e,by simpa using h1,h2⟩
theorem Zb{ops:Array Oper}:∀(l:List Oper) (tbl:List Nat),ops.toList.drop tbl.length=l→
 (∀j,j<tbl.length→∀i,Nat.testBit (tbl.getD j 0) i=true→Ord ops i j)→∀j i,Nat.testBit ((masks l tbl).getD j 0) i=true→Ord ops i j
 | [],tbl,_,h,j,i,hb=>by
  rcases Nat.lt_or_ge j tbl.length with hj|hj
  ·exact h j hj i hb
  ·simp only[masks]at hb
   rw[List.getD_eq_getElem?_getD,List.getElem?_eq_none hj]at hb
   simp at hb
 |o::l,tbl,hl,h,j,i,hb=>by
  simp only[masks]at hb
  have ho:ops[tbl.length]? =some o:=by
   have:(ops.toList.drop tbl.length)[0]? =some o:=by rw[hl];rfl
   simpa[List.getElem?_drop]using this
  refine Zb l (tbl++[d6l tbl o]) ?_ ?_ j i hb
  ·have:=congrArg List.tail hl
   simpa[List.tail_drop]using this
  ·intro j hj i hb
   rcases Nat.lt_or_ge j tbl.length with hj'|hj'
   ·rw[List.getD_eq_getElem?_getD,List.getElem?_append_left hj', ←List.getD_eq_getElem?_getD]at hb
    exact h j hj' i hb
   ·have:j=tbl.length:=by simp at hj;omega
    subst this
    rw[List.getD_eq_getElem?_getD,List.getElem?_append_right (Nat.le_refl _)]at hb
    simp only[Nat.sub_self,List.getElem?_cons_zero,Option.getD_some]at hb
    obtain⟨e,h1,h2,h3⟩:=d4V hb
    intro L hcl haf
    have hon:=haf o ho e h1 h2
    rcases h3 with rfl|h3
    ·exact hon
    ·rcases Nat.lt_or_ge e.on tbl.length with hlt|hge
     ·exact h e.on hlt i h3 L hcl fun o' ho' e' he' hb'=>hcl e.on o' hon ho' e' he' hb'
     ·rw[List.getD_eq_getElem?_getD,List.getElem?_eq_none hge]at h3
      simp at h3
section
variable {P:Program} {gl:Gl} {N:Nat} {ops:Array Oper} {fr:Fr} {st:St} {q:Nat} {g:Bool} {op:Op} {lk:Look}
theorem d8x(h:rds op=false):(aop P gl g op fr lk q).rd=[]:=by
 cases op with
 |load|store|indexAddr|slice|lookup|mapUpdate|next=>cases h
 |range t x=>exact d0F
 |call c=>
  obtain⟨callee,args,ats⟩:=c
  cases callee with
  |value f=>rfl
  |invoke r m=>rfl
  |builtin b=>
   cases b<;>first|(cases h;done)|skip
   all_goals
    simp only[aop]
    generalize args.toList=l
    generalize ats.toList=l'
    first|rfl|(split<;>first|contradiction|rfl|exact d6c|exact d6d|exact d6b)
 |pick c a b=>exact d2Z
 |build t ps=>exact d0C
 |buildSlice t len ps=>simp only[aop];cases gl.imm t<;>rfl
 |binOp o t x y u=>
  simp only[aop]
  split<;>first|exact i0g|exact d6a
 |unOp o t x=>exact i0h
 |nilCheck x=>exact Wo
 |convert s t x=>exact Xw
 |makeFunc f a b=>cases f<;>rfl
 |makeMap t r=>cases r with
  |none=>exact Xy
  |some r=>rfl
 |makeSlice t l c=>exact Vb
 |fieldAddr t x f=>exact Va
 |field t x f=>exact d0D
 |index t x y=>exact d0E
 |extract x j=>exact Xx
 | _=>rfl
theorem i0l(h:wrs op=false)(hr:rds op=true):(aop P gl g op fr lk q).up=none:=by
 cases op<;>first|(cases h;done)|(cases hr;done)|skip
 case load=>exact(Ut _ _ _).1
 case indexAddr=>exact(QX _ _ _ _ _).1
 case slice=>exact(TB _ _ _ _ _ _ _).1
 case lookup=>exact(SA _ _ _ _ _ _ _).1
 case call c=>
  obtain⟨callee,args,ats⟩:=c
  cases callee with
  |value f=>rfl
  |invoke r m=>rfl
  |builtin b=>
   cases b<;>first|(cases h;done)|(cases hr;done)|skip
   simp only[aop]
   generalize args.toList=l
   generalize ats.toList=l'
   first|rfl|(split<;>first|contradiction|rfl|exact(Ub _ _ _).1|exact(Uc _ _).1)
theorem Yo{b:Nat}{x:Row}(h:Fits P gl N ops b x fr st)(hr:rds x.o.op=false)(hc:Rs x.o.op≠none→x.r.rd=[]):x.rd=[]:=by
 unfold Row.rd
 cases hG:x.G with
 |false=>rfl
 |true=>
  rcases h.does hG with⟨_,e,_⟩|⟨_,_,_,_,_,_,_,e,_⟩
  ·rw[e];exact d8x hr
  ·exact hc (by rw[e];simp)
theorem d3W{b:Nat}{x:Row}(h:Fits P gl N ops b x fr st)(hw:wrs x.o.op=false)(hc:Rs x.o.op≠none→x.r.rd=[]):x.wr=[]:=by
 cases hr:rds x.o.op with
 |false=>
  have:=Yo h hr hc
  rw[List.eq_nil_iff_forall_not_mem]
  intro o ho
  have:=d3d h.d3K ho
  rw[Yo h hr hc]at this;cases this
 |true=>
  unfold Row.wr
  cases hG:x.G with
  |false=>rfl
  |true=>
   rcases h.does hG with⟨_,e,_,_,hu⟩|⟨_,_,_,_,_,_,_,e,_⟩
   ·rw[e,i0l hw hr,hu];rfl
   ·rw[List.eq_nil_iff_forall_not_mem]
    intro o ho
    have h1:o∈x.wr:=by unfold Row.wr;rw[hG];exact ho
    have h2:=d3d h.d3K h1
    unfold Row.rd at h2
    rw[hG,hc (by rw[e];simp)]at h2
    cases h2
end
def Sv:List Oper→Nat
 | []=>0
 |o::l=>Sv l+(bif needs o.op then 1 else 0)
def qOk:Nat→List Row→Prop
 | _,[]=>True
 |q,x::l=>x.q=q∧qOk (bif needs x.o.op then q+1 else q) l
def WR(trk:List Nat):Nat→List Row→Log
 | _,[]=>[]
 |i,x::l=>bif trk.contains i then(x.r.rd,upL x.r++x.ups.map (·.1))::WR trk (i+1) l else WR trk (i+1) l
def nrd(trk:List Nat):Nat→List Row→Prop
 | _,[]=>True
 |i,x::l=>(trk.contains i=false→Rs x.o.op≠none→x.r.rd=[])∧nrd trk (i+1) l
theorem d9u{trk:List Nat}:∀(l:List Row) (i j:Nat) (h:j<l.length),nrd trk i l→trk.contains (i+j)=false→Rs (l[j]).o.op≠none→(l[j]).r.rd=[]
 |x::l,i,0,_,h,ht,hc=>h.1 (by simpa using ht) hc
 |x::l,i,j+1,hj,h,ht,hc=>d9u l (i+1) j (by simpa using hj) h.2 (by rw[←ht];congr 1;omega) hc
section
variable {P:Program} {gl:Gl} {N:Nat} {ops:Array Oper} {b:Nat} {trk:List Nat} {K:Fr→St→Prop} {w0:World} {μ0:Mu} {st0:St} {Q:Exit→Act→World→Prop}
theorem d6m{x:Row}{fr:Fr}{st:St}{q:Nat}(h:Fits P gl N ops b x fr st)(hq:st[q]? =some (some .resv))(hne:needs x.o.op=true→q≠x.q):(x.st st)[q]? =some (some .resv):=by
 rw[Vd fun hm=>?_]
 ·exact hq
 ·rcases Td hm with hm|⟨e,hm⟩
  ·obtain⟨ob,h1,h2⟩:=Xz h _ (d3d h.d3K hm)
   rw[hq]at h1;cases h1;exact h2 rfl
  ·exact hne (h.makes hm) e
theorem Ue{o:Oper}{l:List Oper}{i k:Nat}{lg:Log}{fr:Fr}{st:St}(x:Row)(hx:x.o=o)(hq:x.q=b+k)(hf:Fits P gl N ops b x fr st)(hnr:trk.contains i=false→Rs x.o.op≠none→x.r.rd=[])
 (hk:∀m,k≤m→m<k+Sv (o::l)→st[b+m]? =some (some .resv))
 (ih:(∀m,(bif needs o.op then k+1 else k)≤m→m<(bif needs o.op then k+1 else k)+Sv l→(x.st st)[b+m]? =some (some .resv))→
  ∃rows:List Row,rows.map (·.o)=l∧qOk (b+(bif needs o.op then k+1 else k)) rows∧Trace P gl N ops b rows (x.ap (fr,st))∧K (full rows (x.ap (fr,st))).1 (full rows (x.ap (fr,st))).2∧d9r (Ve (trk.contains i) lg x.r x.ups++WR trk (i+1) rows)∧nrd trk (i+1) rows):
 ∃rows:List Row,rows.map (·.o)=o::l∧qOk (b+k) rows∧Trace P gl N ops b rows (fr,st)∧K (full rows (fr,st)).1 (full rows (fr,st)).2∧d9r (lg++WR trk i rows)∧nrd trk i rows:=by
 obtain⟨rows,h1,h2,h3,h4,h5,h6⟩:=ih fun m h1 h2=>by
  refine d6m hf (hk m ?_ ?_) fun hn=>?_
  ·cases hn:needs o.op<;>simp[hn]at h1<;>omega
  ·simp only[Sv];cases hn:needs o.op<;>simp[hn]at h2⊢ <;>omega
  ·rw[hx]at hn
   rw[hq]
   simp[hn]at h1;omega
 refine⟨x::rows,by simp[hx,h1],⟨hq,?_⟩,⟨hf,h3⟩,h4,?_,hnr,h6⟩
 ·rw[hx]
  cases hn:needs o.op<;>simp[hn]at h2⊢
  ·exact h2
  ·exact h2
 ·simp only[WR]
  unfold Ve at h5
  cases ht:trk.contains i with
  |false=>rw[ht]at h5;exact h5
  |true=>
   rw[ht]at h5
   simp only[cond_true,List.append_assoc,List.cons_append,List.nil_append]at h5⊢
   exact h5
set_option maxHeartbeats 1000000 in
theorem Wp:∀(l:List Oper) (i k:Nat) (lg:Log) (fr:Fr) (st:St),EvD P gl N ops b trk K l i k lg fr st→
 (∀m,k≤m→m<k+Sv l→st[b+m]? =some (some .resv))→
 ∃rows:List Row,rows.map (·.o)=l∧qOk (b+k) rows∧Trace P gl N ops b rows (fr,st)∧K (full rows (fr,st)).1 (full rows (fr,st)).2∧d9r (lg++WR trk i rows)∧nrd trk i rows
 | [],i,k,lg,fr,st,h,_=>⟨[],rfl,trivial,trivial,h.2,by simpa[WR]using h.1,trivial⟩
 |⟨dst,op,ty,pos,af,none⟩::l,i,k,lg,fr,st,h,hk=>by
  simp only[EvD]at h
  by_cases h0:opk op=0
  ·rw[h0]at h
   obtain⟨h1,h2⟩:=(Uu op).1 h0
   obtain⟨a,c,d⟩:=h
   refine Ue ⟨_,b+k,true,aop P gl true op fr (look st) (b+k),[]⟩ rfl rfl ⟨c,trivial,rfl,⟨Yl,fun _ h=>(by cases h)⟩,fun _=>.inl ⟨h1,rfl,a,(fun hn=>by rw[h2]at hn;cases hn),rfl⟩,fun hn=>absurd (d2W h2) hn⟩ (fun _ hc=>absurd h1 hc) hk ?_
   rw[h2]
   exact fun hk'=>Wp l _ _ _ _ _ d hk'
  ·by_cases h1':opk op=1
   ·rw[h1']at h
    obtain⟨h1,h2⟩:=(Uu op).2 h1'
    obtain⟨a,c,d⟩:=h
    refine Ue ⟨_,b+k,true,aop P gl true op fr (look st) (b+k),[]⟩ rfl rfl ⟨c,trivial,rfl,⟨Yl,fun _ h=>(by cases h)⟩,fun _=>.inl ⟨h1,rfl,a,fun hn=>hk k (Nat.le_refl _) ?_,rfl⟩,fun _=>h2⟩ (fun _ hc=>absurd h1 hc) hk ?_
    ·simp only[Sv,h2,cond_true];omega
    ·rw[h2]
     exact fun hk'=>Wp l _ _ _ _ _ d hk'
   ·obtain⟨f,args,ats,rfl⟩:=Uv h0 h1'
    simp only[opk,d9s,i1n]at h
    cases hf:ev1 gl fr f<;>rw[hf]at h<;>first|exact h.elim|skip
    obtain⟨a,⟨c,d⟩,r,rd,ups,hp,hu,hrd,htr,e⟩:=h
    refine Ue ⟨_,b+k,true,⟨r,True,rd,none,none⟩,ups⟩ rfl rfl ⟨a,trivial,rfl,⟨NK rfl,hu⟩,fun _=>.inr ⟨f,args.toList,_,_,_,r,rd,rfl,c,d,hf,hp,rfl,fun o ho=>⟨(hrd o ho).1,let ⟨ob,h1,h2⟩:=(hrd o ho).2;⟨ob,VH.1 h1,h2⟩⟩⟩,fun hn=>absurd rfl hn⟩ (fun ht _=>htr ht) hk ?_
    exact fun hk'=>Wp l _ _ _ _ _ e hk'
 |⟨dst,op,ty,pos,af,some (j,want)⟩::l,i,k,lg,fr,st,h,hk=>by
  simp only[EvD]at h
  cases hg:d8f fr want (gslot ops j)with
  |none=>rw[hg]at h;unfold d8w at h;split at h<;>first|exact h.elim|(rename_i e;cases e)
  |some G=>
   rw[hg]at h
   obtain⟨g1,g2⟩:=d5U (dst:=dst) (op:=op) (ty:=ty) (pos:=pos) (af:=af) hg
   by_cases h0:opk op=0
   ·rw[h0]at h
    obtain⟨a,c,d⟩:=h
    obtain⟨h1,h2⟩:=(Uu op).1 h0
    refine Ue ⟨_,b+k,G,aop P gl G op fr (look st) (b+k),[]⟩ rfl rfl ⟨c,g2.symm▸trivial,g1.symm,⟨Yl,fun _ h=>(by cases h)⟩,fun(hG:G=true)=>.inl ⟨h1,by subst hG;rfl,a hG,(fun hn=>by rw[h2]at hn;cases hn),rfl⟩,fun hn=>absurd (d2W h2) hn⟩ (fun _ hc=>absurd h1 hc) hk ?_
    rw[h2]
    exact fun hk'=>Wp l _ _ _ _ _ d hk'
   ·by_cases h1:opk op=1
    ·rw[h1]at h
     obtain⟨a,c,d⟩:=h
     obtain⟨h2,h3⟩:=(Uu op).2 h1
     refine Ue ⟨_,b+k,G,aop P gl G op fr (look st) (b+k),[]⟩ rfl rfl ⟨c,g2.symm▸trivial,g1.symm,⟨Yl,fun _ h=>(by cases h)⟩,fun(hG:G=true)=>.inl ⟨h2,by subst hG;rfl,a hG,fun hn=>hk k (Nat.le_refl _) ?_,rfl⟩,fun _=>h3⟩ (fun _ hc=>absurd h2 hc) hk ?_
     ·simp only[Sv,h3,cond_true];omega
     ·rw[h3]
      exact fun hk'=>Wp l _ _ _ _ _ d hk'
    ·obtain⟨f,args,ats,rfl⟩:=Uv h0 h1
     simp only[opk,d8w,d4U]at h
     cases hf:ev1 gl fr f<;>rw[hf]at h<;>first|exact h.elim|skip
     obtain⟨a,⟨c,d⟩,r,rd,ups,hp,hu,hrd,htr,hgf,e⟩:=h
     refine Ue ⟨_,b+k,G,⟨r,True,rd,none,none⟩,ups⟩ rfl rfl ⟨a,g2.symm▸trivial,g1.symm,⟨NK rfl,hu⟩,fun(hG:G=true)=>.inr ⟨f,args.toList,_,_,_,r,rd,rfl,by subst hG;exact c,by subst hG;exact d,hf,hp hG,rfl,fun o ho=>⟨(hrd o ho).1,let ⟨ob,h1,h2⟩:=(hrd o ho).2;⟨ob,VH.1 h1,h2⟩⟩⟩,fun hn=>absurd rfl hn⟩ (fun ht _=>htr ht) hk ?_
     have es:(bif G then puts ((LR.mk r True rd none none).app (b+k) st) ups else st)=puts st ups:=by
      cases G with
      |true=>rfl
      |false=>exact(hgf rfl).symm
     intro hk'
     simp only[Row.ap,Row.st,Row.fr,Row.d,es]at hk'⊢
     exact Wp l _ _ _ _ _ e hk'
theorem d6n:∀(l:List Row) (q:Nat),qOk q l→∀j (h:j<l.length),q≤(l[j]).q∧(needs (l[j]).o.op=true→(l[j]).q<q+Sv (l.map (·.o)))
 |x::l,q,h,0,_=>by
  refine⟨Nat.le_of_eq h.1.symm,fun hn=>?_⟩
  simp only[List.getElem_cons_zero]at hn⊢
  rw[h.1]
  simp only[List.map_cons,Sv,hn,cond_true];omega
 |x::l,q,h,j+1,hj=>by
  have:=d6n l _ h.2 j (by simpa using hj)
  simp only[List.getElem_cons_succ,List.map_cons,Sv]
  cases hn:needs x.o.op<;>simp only[hn,cond_true,cond_false]at this⊢
  ·exact⟨this.1,fun h=>by have:=this.2 h;omega⟩
  ·exact⟨by omega,fun h=>by have:=this.2 h;omega⟩
theorem d6o:∀(l:List Row) (q:Nat),qOk q l→∀i j (hi:i<l.length) (hj:j<l.length),i<j→needs (l[i]).o.op=true→(l[i]).q<(l[j]).q
 |x::l,q,h,0,j+1,_,hj,_,hn=>by
  simp only[List.getElem_cons_zero,List.getElem_cons_succ]at hn⊢
  have:=(d6n l _ h.2 j (by simpa using hj)).1
  rw[hn,cond_true]at this
  rw[h.1];omega
 |x::l,q,h,i+1,j+1,hi,hj,hij,hn=>by
  simp only[List.getElem_cons_succ]at hn⊢
  exact d6o l _ h.2 i j (by simpa using hi) (by simpa using hj) (by omega) hn
theorem d6p{rd up:List Nat}:∀ {lg:Log},i4g rd up lg→∀y∈lg,(∀o∈up,o∉y.1)∧∀o∈y.2,o∉rd
 |(rd',up')::l,h,y,hy=>by
  rcases List.mem_cons.1 hy with e|e
  ·subst e
   exact⟨h.1,h.2.1⟩
  ·exact d6p h.2.2 y e
theorem d1K{trk:List Nat}:∀(l:List Row) (i j:Nat) (h:j<l.length),trk.contains (i+j)=true→((l[j]).r.rd,upL (l[j]).r++(l[j]).ups.map (·.1))∈WR trk i l
 |x::l,i,0,_,ht=>by simp only[WR,Nat.add_zero]at ht ⊢; rw[ht];simp
 |x::l,i,j+1,hj,ht=>by
  have:=d1K l (i+1) j (by simpa using hj) (by rw[←ht];congr 1;omega)
  simp only[WR,List.getElem_cons_succ]
  cases trk.contains i with
  |true=>exact List.mem_cons_of_mem _ this
  |false=>exact this
theorem i2h{x:Row}{o:Nat}(h:o∈x.wr):o∈upL x.r++x.ups.map (·.1):=by
 unfold Row.wr at h
 cases hG:x.G<;>rw[hG]at h<;>simp only[cond_true,cond_false]at h
 ·cases h
 ·exact h
theorem i2i{x:Row}{o:Nat}(h:o∈x.rd):o∈x.r.rd:=by
 unfold Row.rd at h
 cases hG:x.G<;>rw[hG]at h
 ·cases h
 ·exact h
theorem d6q{trk:List Nat}:∀(l:List Row) (i:Nat),d9r (WR trk i l)→∀j m (hj:j<l.length) (hm:m<l.length),j<m→trk.contains (i+j)=true→trk.contains (i+m)=true→
 (∀o∈(l[j]).wr,o∉ (l[m]).rd)∧∀o∈(l[m]).wr,o∉ (l[j]).rd
 |x::l,i,h,0,m+1,_,hm,_,t1,t2=>by
  simp only[WR,Nat.add_zero]at h t1
  rw[t1]at h
  have:=d6p h.1 _ (d1K l (i+1) m (by simpa using hm) (by rw[←t2];congr 1;omega))
  simp only[List.getElem_cons_zero,List.getElem_cons_succ]
  exact⟨fun o ho ho'=>this.1 o (i2h ho) (i2i ho'),fun o ho ho'=>this.2 o (i2h ho) (i2i ho')⟩
 |x::l,i,h,j+1,m+1,hj,hm,hjm,t1,t2=>by
  have h':d9r (WR trk (i+1) l):=by
   simp only[WR]at h
   cases ht:trk.contains i with
   |true=>rw[ht]at h;exact h.2
   |false=>rw[ht]at h;exact h
  simp only[List.getElem_cons_succ]
  exact d6q l (i+1) h' j m (by simpa using hj) (by simpa using hm) (by omega) (by rw[←t1];congr 1;omega) (by rw[←t2];congr 1;omega)
theorem d0d{rows:List Row}{s:Fr×St}(h:Trace P gl N ops b rows s)(j:Nat)(hj:j<rows.length):∃s':Fr×St,Fits P gl N ops b (rows[j]) s'.1 s'.2:=by
 have e:rows=rows.take j++rows[j]::rows.drop (j+1):=by rw[List.getElem_cons_drop,List.take_append_drop]
 rw[e]at h
 exact⟨_,WO _ h⟩
theorem d3X{fr:Fr}{a:Act}{w:World}:∀(n:Nat) {st:St} {μ:Mu},Ww gl N w0 μ0 st0 fr st a w μ→∃μ',Ww gl N w0 μ0 st0 fr (st++List.replicate n (some .resv)) a w μ'
 |0,st,μ,h=>⟨μ,by simpa using h⟩
 |n+1,st,μ,h=>by
  obtain⟨k1,k2⟩:=Yi h.sim
  obtain⟨μ',h'⟩:=d3X n (st:=st++[some .resv]) ⟨k1,h.glob.step k2,h.fr.step k2,h.size,h.defers,h.step.trans k2⟩
  exact⟨μ',by simpa[List.replicate_succ,List.append_assoc]using h'⟩
theorem d4W{fr:Fr}{a:Act}{w:World}{st:St}{μ:Mu}(h:Ww gl N w0 μ0 st0 fr st a w μ):Ww gl N w0 μ0 st0 fr st a { w with drawn:=w.drawn+1 } μ:=by
 have step:Step w μ st { w with drawn:=w.drawn+1 } μ st:=⟨Nat.le_refl _,rfl,rfl,⟨rfl,Nat.le_succ _⟩,fun _ _ _=>rfl,fun _ h=>.inl h,Nat.le_refl _,fun _ ob' _ h=>⟨ob',h,by
  cases ob' with
  |arr g n b es=>exact⟨Nat.le_refl _,fun _=>⟨rfl,rfl,rfl,rfl,fun blk base c ty _ hh=>⟨c,hh,rfl⟩⟩⟩
  |mps=>exact⟨rfl,rfl⟩
  |mpi=>exact⟨rfl,rfl,rfl⟩
  |sit=>rfl
  |resv=>trivial⟩⟩
 exact⟨⟨fun o ob ho=>(h.sim.obj o ob ho).step step (fun _ _ _=>rfl),h.sim.inj⟩,h.glob.step step,h.fr.step step,h.size,h.defers,h.step.trans step⟩
variable {n0:Nat} {keep:List Nat} {AQ':AQ} {fr:Fr} {st:St}
theorem d1L{l:List Oper}{K:Fr→St→Prop}{Q:Exit→Act→World→Prop}{a:Act}{w:World}{μ:Mu}(trk:List Nat)(n:Nat)(ho:Vf l.toArray trk=true)(hn:Sv l=n)
 (h:EvD P gl N l.toArray st.length trk K l 0 0 [] fr (st++List.replicate n (some .resv))) (hc:Ww gl N w0 μ0 st0 fr st a w μ) (hQ:∀fr st a w μ,K fr st→Ww gl N w0 μ0 st0 fr st a w μ→Q .normal a w):
 wpAny P .any l.toArray Q l.toArray.size (Array.replicate l.toArray.size false) a { w with drawn:=w.drawn+1 }:=by
 obtain⟨μ1,hc1⟩:=d3X n (d4W hc)
 have hget:∀m,m<n→(st++List.replicate n (some Ob.resv))[st.length+m]? =some (some .resv):=fun m hm=>by
  rw[List.getElem?_append_right (by omega),Nat.add_sub_cancel_left]
  simp[hm]
 obtain⟨rows,h1,h2,h3,h4,h5,h6⟩:=Wp l 0 0 [] fr _ h fun m _ hm=>hget m (by omega)
 have hlen:rows.length=l.length:=by rw[←h1];simp
 have hop:∀i (hi:i<rows.length),l.toArray[i]? =some (rows[i]).o:=fun i hi=>by
  have:l[i]? =(rows.map (·.o))[i]? :=by rw[h1]
  simpa[hi]using this
 have d9v:=ho
 unfold Vf at d9v
 simp only[List.all_eq_true,List.mem_range,Bool.and_eq_true]at d9v
 have i4h:Good P gl N l.toArray st.length rows (fr,st++List.replicate n (some .resv)):=by
  refine⟨by simpa using h1.symm,h3,fun i j hi hj hne hni hnj=>?_,fun x hx hnx=>?_,fun i o hio e he hb=>?_,fun i j hi hj hij=>?_⟩
  ·rcases Nat.lt_or_gt_of_ne hne with hlt|hlt
   ·exact Nat.ne_of_lt (d6o rows _ h2 i j hi hj hlt hni)
   ·exact Nat.ne_of_gt (d6o rows _ h2 j i hj hi hlt hnj)
  ·obtain⟨j,hj,e⟩:=List.getElem_of_mem hx
   have:=d6n rows _ h2 j hj
   rw[e,h1,hn]at this
   obtain⟨q1,q2⟩:=this
   have q3:=q2 hnx
   have:=hget (x.q-st.length) (by omega)
   rw[show st.length+(x.q-st.length)=x.q by omega]at this
   exact⟨this,by omega⟩
  ·have hil:i<l.length:=by
    rcases Nat.lt_or_ge i l.length with h'|h'
    ·exact h'
    ·rw[Array.getElem?_eq_none (by simpa using h')]at hio;cases hio
   have:=(d9v i (by simpa using hil)).1
   rw[hio]at this
   simp only[List.all_eq_true]at this
   have:=this e (by simpa using he)
   rw[hb]at this
   simp only[Bool.not_true,Bool.false_or]at this
   exact Nat.lt_of_lt_of_le (Nat.lt_succ_self _) (Nat.le_of_ble_eq_true this)
  ·have hp:=(d9v j (by simpa[←hlen]using hj)).2 i hij
   unfold d9t at hp
   rw[hop i hi,hop j hj]at hp
   simp only[Bool.or_eq_true]at hp
   rcases hp with hp|hp
   ·exact .inl (Zb l.toArray.toList [] rfl (fun j hj=>absurd hj (Nat.not_lt_zero _)) j i hp)
   ·right
    simp only[Bool.and_eq_true,Bool.or_eq_true]at hp
    obtain⟨hp1,hp2⟩:=hp
    refine⟨hp1,?_⟩
    obtain⟨s1,f1⟩:=d0d h3 i hi
    obtain⟨s2,f2⟩:=d0d h3 j hj
    rcases hp2 with⟨hp2,hp3⟩|⟨t1,t2⟩
    ·have hcc:∀k (hk:k<rows.length),ZI trk k (rows[k]).o.op=false→Rs (rows[k]).o.op≠none→(rows[k]).r.rd=[]:=fun k hk hc hne=>by
      refine d9u rows 0 k hk h6 ?_ hne
      unfold ZI at hc
      have:(Rs (rows[k]).o.op).isSome=true:=by cases h:Rs (rows[k]).o.op with
       |none=>exact absurd h hne
       |some=>rfl
      rw[this,Bool.true_and]at hc
      rw[Nat.zero_add];exact hc
     refine⟨fun o a1 a2=>?_,fun o a1 a2=>?_⟩
     ·cases hw:(wrs (rows[i]).o.op||ZI trk i (rows[i]).o.op)with
      |false=>
       rw[Bool.or_eq_false_iff]at hw
       rw[d3W f1 hw.1 (hcc i hi hw.2)]at a1;cases a1
      |true=>cases hr:(rds (rows[j]).o.op||ZI trk j (rows[j]).o.op)with
       |false=>
        rw[Bool.or_eq_false_iff]at hr
        rw[Yo f2 hr.1 (hcc j hj hr.2)]at a2;cases a2
       |true=>rw[hw,hr]at hp2;cases hp2
     ·cases hw:(wrs (rows[j]).o.op||ZI trk j (rows[j]).o.op)with
      |false=>
       rw[Bool.or_eq_false_iff]at hw
       rw[d3W f2 hw.1 (hcc j hj hw.2)]at a1;cases a1
      |true=>cases hr:(rds (rows[i]).o.op||ZI trk i (rows[i]).o.op)with
       |false=>
        rw[Bool.or_eq_false_iff]at hr
        rw[Yo f1 hr.1 (hcc i hi hr.2)]at a2;cases a2
       |true=>rw[hw,hr]at hp3;cases hp3
    ·exact d6q rows 0 (by simpa using h5) i j hi hj hij (by simpa using t1) (by simpa using t2)
 have hl0:∀i,lst (Array.replicate l.toArray.size false) i=false:=fun i=>by
  unfold lst
  rw[Array.getD_eq_getD_getElem?]
  by_cases hi:i<l.length
  ·simp[hi]
  ·simp[hi]
 refine d6h i4h (fun a w μ hc=>hQ _ _ a w μ h4 hc) _ _ _ _ μ1 (by simp[hlen]) ?_ ?_ ?_ ?_
 ·have:∀n,cnt (lst (Array.replicate l.toArray.size false)) n≤n:=fun n=>by
   induction n with
   |zero=>exact Nat.le_refl _
   |succ n ih=>simp only[cnt,hl0,cond_false];omega
  have:=this rows.length
  simpa[hlen]using this
 ·intro k o hk;rw[hl0]at hk;cases hk
 ·intro i j hi hj hj';rw[hl0]at hj';cases hj'
 ·rw[d3O rows 0 _ fun k _ _=>hl0 k]
  exact hc1
theorem i5w{id:Nat}{l:List Oper}(trk:List Nat)(n:Nat)(hm:P.follows .mixedOrders=true)(ho:Vf l.toArray trk=true)(hn:Sv l=n)
 (h:EvD P gl N l.toArray st.length trk (fun fr st=>AQ' .normal (Fr.only keep fr) st) l 0 0 [] fr (st++List.replicate n (some .resv))):
 AWp P gl N n0 keep (.region id l.toArray true) AQ' fr st:=by
 intro w0 μ0 st0 hl a w ⟨μ,hc⟩
 exact wp_region_any hm (d1L trk n ho hn h hc fun fr st a w μ hk hc=>⟨_,_,hk,μ,hc.sim,hc.glob,hc.fr.only keep,hc.size,hc.defers,hc.step⟩)
end
section
variable {P:Program} {gl:Gl} {N n0:Nat} {ops:Array Oper} {keep:List Nat} {Q:AQ} {fr:Fr} {st:St} {lg:Log} {b q:Nat} {trk:List Nat} {K:Fr→St→Prop}
 {dst:Option Nat} {op:Op} {l:List Oper} {i k:Nat} {tr:Bool} {kk k1:Log→Fr→St→Prop} {d:D} {p:Prop} {rd:List Nat} {o:Nat} {ob:Ob} {G:Bool}
@[congr] theorem i2j{fr':Fr}{st':St}{lg':Log}{i' k':Nat}(h0:i=i')(h1:k=k')(h2:lg=lg')(h:fr=fr')(h3:st=st'):EvD P gl N ops b trk K l i k lg fr st=EvD P gl N ops b trk K l i' k' lg' fr' st':=by rw[h0,h1,h2,h,h3]
@[congr] theorem i1o{r r':LR}(h:r=r'):d8v N q tr dst lg fr st kk r=d8v N q tr dst lg fr st kk r':=by rw[h]
@[congr] theorem i0m{r r':LR}(h:r=r'):d3e N q G tr dst lg fr st kk r=d3e N q G tr dst lg fr st kk r':=by rw[h]
@[congr] theorem i1p{n n':Nat}{q':Nat}{tr':Bool}(h1:q=q')(h2:tr=tr')(h:n=n'):d9s P gl N b q tr kk k1 dst op lg fr st n=d9s P gl N b q' tr' kk k1 dst op lg fr st n':=by rw[h,h1,h2]
@[congr] theorem i1q{n n':Nat}{g g':Option Bool}{q':Nat}{tr':Bool}(h1:q=q')(h2:tr=tr')(h:n=n')(h3:g=g'):d8w P gl N b q tr kk k1 dst op lg fr st n g=d8w P gl N b q' tr' kk k1 dst op lg fr st n' g':=by rw[h,h1,h2,h3]
@[congr] theorem i1r{a a':Prop}{f f':D}{args args':List D}(h:a=a')(h2:f=f')(h3:args=args'):i1n P gl N b tr dst lg fr st kk a f args=i1n P gl N b tr dst lg fr st kk a' f' args':=by rw[h,h2,h3]
@[congr] theorem i0n{a a':Prop}{f f':D}{args args':List D}(h:a=a')(h2:f=f')(h3:args=args'):d4U P gl N b G tr dst lg fr st kk a f args=d4U P gl N b G tr dst lg fr st kk a' f' args':=by rw[h,h2,h3]
@[congr] theorem i0o{f:FuncId}{args args':List D}(h:args=args'):d4T P gl b tr dst lg fr st kk f args=d4T P gl b tr dst lg fr st kk f args':=by rw[h]
@[congr] theorem d9w{f:FuncId}{args args':List D}(h:args=args'):d1J P gl b G tr dst lg fr st kk f args=d1J P gl b G tr dst lg fr st kk f args':=by rw[h]
theorem i4i:EvD P gl N ops b trk K [] i k lg fr st=(d9r lg∧K fr st):=rfl
theorem i4j{o:Oper}{l':List Oper}:EvD P gl N ops b trk K (List.append (o::l) l') i k lg fr st=EvD P gl N ops b trk K (o::List.append l l') i k lg fr st:=rfl
theorem i3z{l':List Oper}:EvD P gl N ops b trk K (List.append [] l') i k lg fr st=EvD P gl N ops b trk K l' i k lg fr st:=rfl
theorem i3A{ty:TypeId}{pos:String}{af:Array Edge}:EvD P gl N ops b trk K (⟨dst,op,ty,pos,af,none⟩::l) i k lg fr st=
 d9s P gl N b (b+k) (trk.contains i) (EvD P gl N ops b trk K l (i+1) k) (EvD P gl N ops b trk K l (i+1) (k+1)) dst op lg fr st (opk op):=rfl
theorem i2k{ty:TypeId}{pos:String}{af:Array Edge}{j:Nat}{want:Bool}:EvD P gl N ops b trk K (⟨dst,op,ty,pos,af,some (j,want)⟩::l) i k lg fr st=
 d8w P gl N b (b+k) (trk.contains i) (EvD P gl N ops b trk K l (i+1) k) (EvD P gl N ops b trk K l (i+1) (k+1)) dst op lg fr st (opk op) (d8f fr want (gslot ops j)):=rfl
theorem i5x:d9s P gl N b q tr kk k1 dst op lg fr st 0=d8v N q tr dst lg fr st kk (aop P gl true op fr (look st) q):=rfl
theorem i5y:d9s P gl N b q tr kk k1 dst op lg fr st 1=d8v N q tr dst lg fr st k1 (aop P gl true op fr (look st) q):=rfl
theorem i5z{f:Operand}{args:Array Operand}{ats:Array TypeId}:d9s P gl N b q tr kk k1 dst (.call ⟨.value f,args,ats⟩) lg fr st 2=i1n P gl N b tr dst lg fr st kk (eok gl true fr f∧(∀x∈args.toList,eok gl true fr x)) (ev1 gl fr f) (args.toList.map (ev1 gl fr)):=rfl
theorem i5A:d8w P gl N b q tr kk k1 dst op lg fr st 0 (some G)=d3e N q G tr dst lg fr st kk (aop P gl G op fr (look st) q):=rfl
theorem i5B:d8w P gl N b q tr kk k1 dst op lg fr st 1 (some G)=d3e N q G tr dst lg fr st k1 (aop P gl G op fr (look st) q):=rfl
theorem i5C{f:Operand}{args:Array Operand}{ats:Array TypeId}:d8w P gl N b q tr kk k1 dst (.call ⟨.value f,args,ats⟩) lg fr st 2 (some G)=d4U P gl N b G tr dst lg fr st kk (eok gl G fr f∧(∀x∈args.toList,eok gl G fr x)) (ev1 gl fr f) (args.toList.map (ev1 gl fr)):=rfl
theorem i5D:d8v N q tr dst lg fr st kk ⟨d,p,rd,none,none⟩=(p∧dlt N dst∧kk (Ve tr lg ⟨d,p,rd,none,none⟩ []) (fr.TT dst d) st):=rfl
theorem i5E:d8v N q tr dst lg fr st kk ⟨d,p,rd,some (o,ob),none⟩=(p∧dlt N dst∧kk (Ve tr lg ⟨d,p,rd,some (o,ob),none⟩ []) (fr.TT dst d) (st.set o (some ob))):=rfl
theorem i5F:d8v N q tr dst lg fr st kk ⟨d,p,rd,none,some ob⟩=(p∧dlt N dst∧kk (Ve tr lg ⟨d,p,rd,none,some ob⟩ []) (fr.TT dst d) (st.set q (some ob))):=rfl
theorem i4k:d3e N q G tr dst lg fr st kk ⟨d,p,rd,none,none⟩=(d1m G p∧dlt N dst∧kk (Ve tr lg ⟨d,p,rd,none,none⟩ []) (fr.TT dst (.cond G d)) st):=by cases G<;>rfl
theorem i4l{g:FuncId}{first cap args:List D}:i1n P gl N b tr dst lg fr st kk p (.fn g first cap) args=(dlt N dst∧p∧d4T P gl b tr dst lg fr st kk g (first++args++cap)):=rfl
theorem i3B{g:FuncId}{first cap args:List D}:d4U P gl N b G tr dst lg fr st kk p (.fn g first cap) args=(dlt N dst∧p∧d1J P gl b G tr dst lg fr st kk g (first++args++cap)):=rfl
theorem i4m{r:LR}{ups:List (Nat×Ob)}:Ve false lg r ups=lg:=rfl
theorem Pt{f:FuncId}{args:List D}{r:D}(h:Pure P gl f args r)(hk:kk (Ve tr lg ⟨r,True,[],none,none⟩ []) (fr.TT dst r) st):
 d4T P gl b tr dst lg fr st kk f args:=
 ⟨r,[],[],h.loc,fun _ h=>(by cases h),fun _ h=>(by cases h),fun _=>rfl,hk⟩
theorem d3Y{f:FuncId}{args:List D}{r:D}(h:G=true→Pure P gl f args r)(hk:kk (Ve tr lg ⟨r,True,[],none,none⟩ []) (fr.TT dst (.cond G r)) st):
 d1J P gl b G tr dst lg fr st kk f args:=
 ⟨r,[],[],fun e=>(h e).loc,fun _ h=>(by cases h),fun _ h=>(by cases h),fun _=>rfl,fun _=>rfl,hk⟩
theorem i4n{ups:List (Nat×Ob)}:Ve true lg ⟨d,p,rd,none,some ob⟩ ups=lg++[(rd,ups.map (·.1))]:=rfl
theorem i3C{ups:List (Nat×Ob)}:Ve true lg ⟨d,p,rd,none,none⟩ ups=lg++[(rd,ups.map (·.1))]:=rfl
theorem i3D{ups:List (Nat×Ob)}:Ve true lg ⟨d,p,rd,some (o,ob),none⟩ ups=lg++[(rd,o::ups.map (·.1))]:=rfl
theorem i6y{b:Bool}:(b==true)=b:=by cases b<;>rfl
theorem i6z{b:Bool}:(b==false)= !b:=by cases b<;>rfl
theorem i1s{l:List Oper}{j:Nat}:gslot l.toArray j=(l[j]?).bind (·.dst):=by simp[gslot]
theorem i3E{e:Nat}:(∃t,TK.slice e=TK.slice t)=True:=eq_true ⟨e,rfl⟩
theorem i5G{a c:Nat}:(∃t u,TK.map a c=TK.map t u)=True:=eq_true ⟨a,c,rfl⟩
end
attribute [go_sem] i6y i6z i1s Option.bind_some i3E i5G d7Q VU Int.toNat_natCast imp_self false_implies i4j i3z i4i i3A i2k i5x i5y i5z i5A i5B i5C i5D i5E i5F i4k i4l i3B i4m i4n i3C i3D i4g d9r Nat.add_zero
section
variable {P:Program} {gl:Gl} {N n0:Nat} {keep:List Nat} {Q:AQ} {fr:Fr} {st:St} {c:Code}
theorem i4o{t n b:Nat}{full:Bool}{es:List (List D)}(hg:fr.get t= .sl full n b es)(h:es.length*b≤top→AWp P gl N n0 keep c Q fr st):AWp P gl N n0 keep c Q fr st:=
 d9Z (p:=es.length*b≤top) (fun w μ tmps _ hf=>by
  have:=hf t
  rw[hg]at this
  generalize tmps.getD t undef=v at this
  cases this with
  |tr h=>cases h;assumption) h
end
def i2l(n:Nat)(rows:List (List D)):Prop:=∀r∈rows,r.length=n∧r.all D.one=true
theorem d8y{α:Type}{l:List α}{k:Nat}{d:α}(h:k<l.length):l.getD k d∈l:=by
 rw[List.getD_eq_getElem?_getD,List.getElem?_eq_getElem h];exact List.getElem_mem h
theorem i2l.at{n:Nat}{rows:List (List D)}(h:i2l n rows){k:Nat}(hk:k<rows.length):∃r,rows.getD k []=r∧r.length=n∧r.take n=r∧r.all D.one=true∧r∈rows:=by
 have hm:=d8y (d:=[]) hk
 obtain⟨h1,h2⟩:=h _ hm
 exact⟨_,rfl,h1,List.take_of_length_le (by omega),h2,hm⟩
def i2m:Ob→Ob→Prop
 | .arr g n b es,.arr g' n' b' es'=>g'=g∧n'=n∧b'=b∧es'.length=es.length
 | .mps ag _,.mps ag' _=>ag'=ag
 | .mpi ag k _,.mpi ag' k' _=>ag'=ag∧k'=k
 | .sit s p,.sit s' p'=>s'=s∧p'=p
 | .resv,.resv=>True
 | _,_=>False
structure d6r(st T:St):Prop where
 len:T.length≤st.length
 sh:∀(o:Nat) (ob':Ob),T[o]? =some (some ob')→∃ob,st[o]? =some (some ob)∧i2m ob ob'
section
variable {w:World} {μ:Mu} {st T:St}
theorem d6r.own(hk:d6r st T){blk:Nat}(h:own μ T blk):own μ st blk:=by
 obtain⟨o,ob,base,h1,h2⟩:=h
 obtain⟨ob',h3,_⟩:=hk.sh o ob h1
 exact⟨o,ob',base,h3,h2⟩
theorem TR.kill(hk:d6r st T){v:Value}{d:D}(h:TR w (Am.own μ st) v d):TR w (Am.own μ T) v d:=
 h.mono (fun _ _ hn=>⟨rfl,fun h=>hn (hk.own h)⟩) (Nat.le_refl _)
theorem d6r.resv(hk:d6r st T){o:Nat}(h:st[o]? ≠some (some .resv)):T[o]? ≠some (some .resv):=fun e=>by
 obtain⟨ob,h1,h2⟩:=hk.sh o _ e
 cases ob<;>first|exact h2.elim|exact h h1
theorem VR.kill(hk:d6r st T){v:Value}{d:D}(h:VR w μ st v d)(hd:D.sc T.length d):VR w μ T v d:=by
 induction h with
 |any v=>exact .any v
 |tr h=>exact .tr (h.kill hk)
 |agg vs cs hs hc ih=>exact .agg vs cs hs (fun j hj=>ih j hj (QL hd j hj))
 |tup vs cs hs hc ih=>exact .tup vs cs hs (fun j hj=>ih j hj (QL hd j hj))
 |fn f vf vc first cap hf hc hfc hcc ih1 ih2=>exact .fn f vf vc first cap hf hc (fun j hj=>ih1 j hj (QL hd.1 j hj)) (fun j hj=>ih2 j hj (QL hd.2 j hj))
 |ref v full o g off len hv ho hr hg h=>
  refine .ref v full o g off len hv hd (hk.resv hr) (fun g' n b es e=>?_) (fun n b es e=>?_)
  ·obtain⟨ob,h1,h2⟩:=hk.sh o _ e
   cases ob<;>first|exact h2.elim|skip
   have:=hg _ _ _ _ h1
   rw[h2.1];exact this
  ·obtain⟨ob,h1,h2⟩:=hk.sh o _ e
   cases ob<;>first|exact h2.elim|skip
   obtain⟨rfl,rfl,rfl,e4⟩:=h2
   have:=h _ _ _ h1
   unfold VB at this⊢
   rw[e4];exact this
 |ptr v o g i c hv ho hr hg h=>
  refine .ptr v o g i c hv hd (hk.resv hr) (fun g' n b es e=>?_) (fun n b es e=>?_)
  ·obtain⟨ob,h1,h2⟩:=hk.sh o _ e
   cases ob<;>first|exact h2.elim|skip
   have:=hg _ _ _ _ h1
   rw[h2.1];exact this
  ·obtain⟨ob,h1,h2⟩:=hk.sh o _ e
   cases ob<;>first|exact h2.elim|skip
   obtain⟨rfl,rfl,rfl,e4⟩:=h2
   exact h _ _ _ h1
 |mp v o hv ho hr h1 h2=>
  refine .mp v o hv hd (hk.resv hr) (fun ag es e=>?_) (fun ag k es e=>?_)
  ·obtain⟨ob,h3,h4⟩:=hk.sh o _ e
   cases ob<;>first|exact h4.elim|skip
   exact h1 _ _ h3
  ·obtain⟨ob,h3,h4⟩:=hk.sh o _ e
   cases ob<;>first|exact h4.elim|skip
   exact h2 _ _ _ h3
 |it v o hv ho hr h=>
  refine .it v o hv hd (hk.resv hr) (fun s p e=>?_)
  obtain⟨ob,h3,h4⟩:=hk.sh o _ e
  cases ob<;>first|exact h4.elim|skip
  exact h _ _ h3
 |cond v g d h h0 ih=>exact .cond v g d (fun e=>ih e (hd e)) h0
end
def D.imm:D→Bool
 | .agg _| .tup _| .fn _ _ _| .ref _ _ _ _ _| .ptr _ _ _ _| .mp _| .it _| .cond _ _=>false
 | _=>true
def Imm(rows:List (List D)):Prop:=∀e∈rows,e.all D.imm=true
mutual
inductive Up(st T:St):D→D→Prop
 |any (d:D):Up st T d .any
 |same (d:D):Up st T d d
 |Mk (full:Bool) (n b:Nat) (hb:1≤b):Up st T .Mk (.sl full n b [])
 |nref (full:Bool) (o g n b:Nat) (es:List (List D)) (h:T[o]? =some (some (.arr g n b es))):Up st T .Mk (.ref full o g 0 0)
 |full (f:Bool) (n b:Nat) (es:List (List D)):Up st T (.sl true n b es) (.sl f n b es)
 |ref (full:Bool) (o g off len n b:Nat) (es:List (List D)) (rows:List (List D)) (h:st[o]? =some (some (.arr g n b es))) (hT:look T o=none) (hb:1≤b) (hi:Imm es)
  (hr:rows=(es.drop off).take len):Up st T (.ref full o g off len) (.sl false n b rows)
 |d1M (o g off len:Nat):Up st T (.ref true o g off len) (.ref false o g off len)
 |agg (cs cs':List D) (h:Ups st T cs cs'):Up st T (.agg cs) (.agg cs')
 |tup (cs cs':List D) (h:Ups st T cs cs') (hl:cs.all D.live=true):Up st T (.tup cs) (.tup cs')
 |cond (g:Bool) (d d':D) (h:Up st T d d'):Up st T (.cond g d) (.cond g d')
inductive Ups(st T:St):List D→List D→Prop
 |nil:Ups st T [] []
 |cons (d d':D) (l l':List D) (h:Up st T d d') (hl:Ups st T l l'):Ups st T (d::l) (d'::l')
end
theorem Ups.len{st T:St}:∀ {l l':List D},Ups st T l l'→l'.length=l.length
 | _,_,.nil=>rfl
 | _,_,.cons _ _ _ _ _ h=>by simp[h.len]
theorem Ups.get{st T:St}:∀ {l l':List D},Ups st T l l'→∀(j:Nat) (h:j<l.length) (h':j<l'.length),Up st T (l[j]) (l'[j])
 | _,_,.cons _ _ _ _ h _,0,_,_=>h
 | _,_,.cons _ _ _ _ _ h,j+1,hj,hj'=>h.get j (by simpa using hj) (by simpa using hj')
theorem Ups.refl{st T:St}:∀(l:List D),Ups st T l l
 | []=>.nil
 |d::l=>.cons d d l l (.same d) (Ups.refl l)
inductive Wd(st T:St):List (List D)→List (List D)→Prop
 |same (l:List (List D)):Wd st T l l
 |nil:Wd st T [] []
 |cons (e e':List D) (l l':List (List D)) (h:Ups st T e e') (hl:Wd st T l l'):Wd st T (e::l) (e'::l')
 |snoc (e e':List D) (l l':List (List D)) (hl:Wd st T l l') (h:Ups st T e e'):Wd st T (l++[e]) (l'++[e'])
theorem Wd.spec{st T:St}{l l':List (List D)}(h:Wd st T l l'):l'.length=l.length∧∀(j:Nat) (h:j<l.length) (h':j<l'.length),Ups st T (l[j]) (l'[j]):=by
 induction h with
 |same l=>exact⟨rfl,fun j _ _=>Ups.refl _⟩
 |nil=>exact⟨rfl,fun j h _=>absurd h (Nat.not_lt_zero _)⟩
 |cons e e' l l' h hl ih=>
  refine⟨by simp[ih.1],fun j hj hj'=>?_⟩
  cases j with
  |zero=>exact h
  |succ j=>exact ih.2 j (by simpa using hj) (by simpa using hj')
 |snoc e e' l l' hl h ih=>
  refine⟨by simp[ih.1],fun j hj hj'=>?_⟩
  by_cases hjl:j<l.length
  ·rw[List.getElem_append_left hjl,List.getElem_append_left (by rw[ih.1];exact hjl)]
   exact ih.2 j hjl _
  ·have:j=l.length:=by simp at hj;omega
   subst this
   have e1:(l++[e])[l.length]=e:=by simp
   have e2:(l'++[e'])[l.length]'hj'=e':=by rw[List.getElem_append_right (by omega)];simp
   rw[e1,e2];exact h
inductive d8z(st T:St):Ob→Ob→Prop
 |same (ob:Ob):d8z st T ob ob
 |arr (g n b:Nat) (es es':List (List D)) (h:Wd st T es es'):d8z st T (.arr g n b es) (.arr g n b es')
theorem d8z.sh{st T:St}{ob ob':Ob}(h:d8z st T ob ob'):i2m ob ob':=by
 cases h with
 |same=>cases ob<;>simp[i2m]
 |arr g n b es es' h=>exact⟨rfl,rfl,rfl,h.spec.1⟩
structure d5u(st T:St):Prop where
 len:T.length≤st.length
 obs:∀(o:Nat) (ob':Ob),T[o]? =some (some ob')→∃ob,st[o]? =some (some ob)∧d8z st T ob ob'
 sc:UN T.length T
theorem d5u.kill{st T:St}(h:d5u st T):d6r st T:=⟨h.len,fun o ob' e=>let ⟨ob,h1,h2⟩:=h.obs o ob' e;⟨ob,h1,h2.sh⟩⟩
section
variable {w:World} {μ:Mu} {st T:St}
theorem i2n{v:Value}{d:D}(h:VR w μ st v d)(hi:d.imm=true)(h1:v.oneCell'=true):TR w (own μ st) v d:=by
 cases h with
 |any=>exact .any _ h1
 |tr h=>exact h
 | _=>cases hi
theorem VR.up(hs:Sim w μ st)(hk:d6r st T){v:Value}{d d':D}(hu:Up st T d d')(h:VR w μ st v d)(hd:D.sc T.length d'):VR w μ T v d':=by
 induction h generalizing d' with
 |any v=>cases hu with
  |any=>exact .any _
  |same=>exact .any _
 |tr h=>
  cases hu with
  |any=>exact .any _
  |same=>exact .tr (h.kill hk)
  |Mk full n b hb=>cases h;exact .tr (.sl full n b [] none 0 0 (fun _ _=>undef) rfl (Nat.le_refl _) (fun _=>rfl) (by simp[top]) hb (fun e he=>by cases he) (.inl rfl) (fun i j hi=>absurd hi (Nat.not_lt_zero _)))
  |nref full o g n b es hT=>
   cases h
   refine .ref _ full o g 0 0 ⟨none,0,0,rfl⟩ (List.getElem?_eq_some_iff.1 hT).1 (by rw[hT];simp) (fun g' n' b' es' e=>?_) (fun n' b' es' e=>?_)
   ·rw[hT]at e;cases e;exact Nat.le_refl _
   ·exact⟨none,0,rfl,Nat.le_refl _,by omega,fun _=>rfl,.inl rfl⟩
  |full f n b es=>
   cases h.kill hk with
   |sl _ _ _ _ a len cap cv hlen hcap Ys hb hb1 hn ha hc=>exact .tr (.sl f n b es a len cap cv hlen hcap (fun _=>Ys rfl) hb hb1 hn ha hc)
  |ref=>cases h
  |d1M=>cases h
  |agg=>cases h
  |tup=>cases h
  |cond=>cases h
 |agg vs cs hs' hc ih=>
  cases hu with
  |any=>exact .any _
  |same=>exact VR.kill hk (.agg vs cs hs' hc) hd
  |agg _ cs' hu=>exact .agg vs cs' (by rw[hu.len];exact hs') fun j hj=>ih j (by rw[←hu.len];exact hj) (hu.get j _ hj) (QL hd j hj)
 |tup vs cs hs' hc ih=>
  cases hu with
  |any=>exact .any _
  |same=>exact VR.kill hk (.tup vs cs hs' hc) hd
  |tup _ cs' hu hl=>
   exact .tup vs cs' (fun j hj _=>hs' j (by rw[←hu.len];exact hj) (List.all_eq_true.1 hl _ (List.getElem_mem _))) fun j hj=>ih j (by rw[←hu.len];exact hj) (hu.get j _ hj) (QL hd j hj)
 |fn f vf vc first cap hf hc hfc hcc ih1 ih2=>
  cases hu with
  |any=>exact .any _
  |same=>exact VR.kill hk (.fn f vf vc first cap hf hc hfc hcc) hd
 |ref v full o g off len hv ho hr hg h=>
  cases hu with
  |any=>exact .any _
  |same=>exact VR.kill hk (.ref v full o g off len hv ho hr hg h) hd
  |d1M=>exact VR.kill hk (.ref v false o g off len hv ho hr hg fun n b es e=>by
   obtain⟨a,cap,h1,h2,h3,h4,h5⟩:=h n b es e
   exact⟨a,cap,h1,h2,h3,(fun hf=>by cases hf),h5⟩) hd
  |ref _ _ _ _ _ n b es rows hst hT hb hi Wk=>
   subst Wk
   obtain⟨a,cap,e1,e2,e3,e4,e5⟩:=h n b es hst
   subst e1
   have hA:Wy w μ st (μ o) n b es:=hs.obj o _ hst
   have hlen:((es.drop off).take len).length=len:=by simp;omega
   have hrow:∀i (hi:i<((es.drop off).take len).length),((es.drop off).take len)[i]=es[off+i]'(by rw[hlen]at hi;omega):=fun i hi=>by simp
   rcases hA.loc with⟨m0,e0⟩|⟨blk,base,c,ty,em,hh,hsz,hcell⟩
   ·subst e0
    have h0:len=0:=by simp at e3;omega
    subst h0
    refine .tr (.sl false n b _ a 0 cap (fun _ _=>undef) (by simp) e2 (fun hf=>by cases hf) (by simp) hb (fun e he=>by simp at he) (.inl (by simp)) (fun i j hi=>by simp at hi))
   ·have hcv:∀i j,∃u,∀(hi:i<len) (hj:j<n),c[base+((off+i)*n+j)]? =some u∧TR w (own μ T) u ((es[off+i]'(by omega))[j]'(by rw[hA.hn _ (List.getElem_mem _)];exact hj)):=fun i j=>by
     by_cases hc:i<len∧j<n
     ·obtain⟨u,h1,h2,h3⟩:=hcell (off+i) j (by omega) (by rw[hA.hn _ (List.getElem_mem _)];exact hc.2)
      refine⟨u,fun _ _=>⟨h1,?_⟩⟩
      have i5H:=hi (es[off+i]'(by omega)) (List.getElem_mem _)
      rw[List.all_eq_true]at i5H
      exact(i2n h2 (i5H _ (List.getElem_mem _)) h3).kill hk
     ·exact⟨undef,fun hi hj=>absurd ⟨hi,hj⟩ hc⟩
    have i6A:∃cv:Nat→Nat→Value,∀i j (hi:i<len) (hj:j<n),c[base+((off+i)*n+j)]? =some (cv i j)∧TR w (own μ T) (cv i j) ((es[off+i]'(by omega))[j]'(by rw[hA.hn _ (List.getElem_mem _)];exact hj)):=
     ⟨fun i j=>Classical.choose (hcv i j),fun i j hi hj=>Classical.choose_spec (hcv i j) hi hj⟩
    obtain⟨cv,hcv⟩:=i6A
    have hlb:((es.drop off).take len).length*b≤top:=by
     rw[hlen]
     exact Nat.le_trans (Nat.mul_le_mul_right b (show len≤es.length by omega)) hA.i5l
    have hno:¬own μ T blk:=by
     rintro⟨o',ob',base',h1,h2⟩
     obtain⟨ob,h3,_⟩:=hk.sh o' ob' h1
     have:=hs.inj o o' _ _ blk base base' hst h3 em h2
     subst this
     rw[VH.2 h1]at hT;cases hT
    refine .tr (.sl false n b _ a len cap cv hlen.symm e2 (fun hf=>by cases hf) hlb hb ?_ ?_ ?_)
    ·intro e he
     obtain⟨i,hi',e'⟩:=List.getElem_of_mem he
     rw[hrow i hi']at e'
     rw[←e'];exact hA.hn _ (List.getElem_mem _)
    ·by_cases h0:len=0
     ·subst h0;left;simp
     ·right
      rcases e5 with e5|⟨ZB,base',em',ea,c',ty',hh',hsz'⟩
      ·omega
      ·rw[em]at em';cases em'
       have hlt:blk<w.heap.size:=by
        rcases Nat.lt_or_ge blk w.heap.size with h|h
        ·exact h
        ·rw[Array.getElem?_eq_none h]at hh;cases hh
       refine⟨blk,base+off*n,ea,hlt,hno,fun i j hi' hj=>?_⟩
       rw[hlen]at hi'
       have:=(hcv i j hi' hj).1
       simp only[World.cell?, hh]
       rw[show base+off*n+(i*n+j)=base+((off+i)*n+j)by rw[Nat.add_mul];omega]
       simpa using this
    ·intro i j hi' hj
     have hi2:i<len:=by rw[hlen]at hi';exact hi'
     have hn2:(((es.drop off).take len)[i]).length=n:=by rw[hrow i hi'];exact hA.hn _ (List.getElem_mem _)
     have:=(hcv i j hi2 (by omega)).2
     have e:(((es.drop off).take len)[i])[j]=(es[off+i]'(by omega))[j]'(by rw[hA.hn _ (List.getElem_mem _)];omega):=by
      have:=hrow i hi'
      congr 1
     rw[e];exact this
 |ptr v o g i c hv ho hr hg h=>
  cases hu with
  |any=>exact .any _
  |same=>exact VR.kill hk (.ptr v o g i c hv ho hr hg h) hd
 |mp v o hv ho hr h1 h2=>
  cases hu with
  |any=>exact .any _
  |same=>exact VR.kill hk (.mp v o hv ho hr h1 h2) hd
 |it v o hv ho hr h=>
  cases hu with
  |any=>exact .any _
  |same=>exact VR.kill hk (.it v o hv ho hr h) hd
 |cond v g d h h0 ih=>
  cases hu with
  |any=>exact .any _
  |same=>exact VR.kill hk (.cond v g d h h0) hd
  |cond _ _ d' hu=>exact .cond v g d' (fun e=>ih e hu (hd e)) h0
end
section
variable {P:Program} {gl:Gl} {N n0:Nat} {keep:List Nat} {Q:AQ} {fr:Fr} {st:St} {c:Code} {w:World} {μ:Mu} {T:St}
theorem Sim.wk(hs:Sim w μ st)(hw:d5u st T):Sim w μ T:=by
 have hk:=hw.kill
 refine⟨fun o ob' h=>?_,fun o1 o2 ob1 ob2 blk b1 b2 h1 h2 m1 m2=>?_⟩
 ·obtain⟨ob,h1,h2⟩:=hw.obs o ob' h
  have hob:=hs.obj o ob h1
  have hsc:=hw.sc o ob' h
  cases h2 with
  |same=>
   cases ob' with
   |arr g n b es=>
    obtain⟨a1,a2,a3⟩:=(hob:Wy w μ st (μ o) n b es)
    refine(⟨a1,a2,?_⟩:Wy w μ T (μ o) n b es)
    rcases a3 with a3|⟨blk,base,cc,ty,em,hh,hsz,hc⟩
    ·exact .inl a3
    ·exact .inr ⟨blk,base,cc,ty,em,hh,hsz,fun i j hi hj=>let ⟨v,e,hv,h1⟩:=hc i j hi hj;⟨v,e,hv.kill hk (QL (hsc _ (List.getElem_mem hi)) j hj),h1⟩⟩
   |mps ag es=>
    obtain⟨blk,ents,clock,em,hh,hsz,hc⟩:=(hob:Xl _ ag w μ _ (μ o) es).loc
    refine(⟨⟨blk,ents,clock,em,hh,hsz,fun i hi=>?_⟩⟩:Xl _ ag w μ T (μ o) es)
    obtain⟨e,e1,e2,e3⟩:=hc i hi
    refine⟨e,e1,e2,?_⟩
    have d2Y:=hsc _ (List.getElem_mem hi)
    cases ag with
    |true=>exact VR.kill hk e3 d2Y
    |false=>obtain⟨d,a,b⟩:=e3;rw[a]at d2Y;exact⟨d,a,b.kill hk d2Y.1⟩
   |mpi ag k es=>
    obtain⟨blk,ents,clock,em,hh,hsz,hc⟩:=(hob:Xl _ ag w μ _ (μ o) es).loc
    refine(⟨⟨blk,ents,clock,em,hh,hsz,fun i hi=>?_⟩⟩:Xl _ ag w μ T (μ o) es)
    obtain⟨e,e1,e2,e3⟩:=hc i hi
    refine⟨e,e1,e2,?_⟩
    have d2Y:=hsc _ (List.getElem_mem hi)
    cases ag with
    |true=>exact VR.kill hk e3 d2Y
    |false=>obtain⟨d,a,b⟩:=e3;rw[a]at d2Y;exact⟨d,a,b.kill hk d2Y.1⟩
   |sit=>exact hob
   |resv=>exact hob
  |arr g n b es es' hu=>
   obtain⟨u1,u2⟩:=hu.spec
   obtain⟨a1,a2,a3⟩:=(hob:Wy w μ st (μ o) n b es)
   refine(⟨by rw[u1];exact a1,fun e he=>?_,?_⟩:Wy w μ T (μ o) n b es')
   ·obtain⟨i,hi,e1⟩:=List.getElem_of_mem he
    rw[←e1,(u2 i (by omega) hi).len]
    exact a2 _ (List.getElem_mem _)
   ·rcases a3 with⟨a3,a4⟩|⟨blk,base,cc,ty,em,hh,hsz,hc⟩
    ·subst a4;left;exact⟨a3,List.eq_nil_of_length_eq_zero (by simpa using u1)⟩
    ·refine .inr ⟨blk,base,cc,ty,em,hh,by rw[u1];exact hsz,fun i j hi hj=>?_⟩
     have hu':=u2 i (by omega) hi
     obtain⟨v,e,hv,h1⟩:=hc i j (by omega) (by rw[←hu'.len];exact hj)
     exact⟨v,e,VR.up hs hk (hu'.get j _ hj) hv (QL (hsc _ (List.getElem_mem hi)) j hj),h1⟩
 ·obtain⟨i7x,e1,_⟩:=hw.obs o1 ob1 h1
  obtain⟨i7y,e2,_⟩:=hw.obs o2 ob2 h2
  exact hs.inj o1 o2 _ _ blk b1 b2 e1 e2 m1 m2
theorem QI.sh{w':World}{m m':Option (Nat×Nat)}{a ob ob':Ob}(h:QI w w' m m' a ob)(hs:i2m ob ob'):QI w w' m m' a ob':=by
 cases ob<;>cases ob'<;>first|exact hs.elim|skip
 ·obtain⟨rfl,rfl,rfl,e⟩:=hs
  cases a<;>first|exact h|skip
  refine⟨h.1,fun hg=>?_⟩
  obtain⟨a1,a2,a3,a4,a5⟩:=h.2 hg
  exact⟨a1,a2,by rw[e];exact a3,a4,a5⟩
 ·cases a<;>first|exact h|skip
  exact⟨h.1.trans (Eq.symm hs),h.2⟩
 ·cases a<;>first|exact h|skip
  exact⟨h.1.trans hs.1.symm,h.2.1.trans hs.2.symm,h.2.2⟩
 ·cases a<;>exact h
 ·exact h
theorem Step.wk{w0:World}{μ0:Mu}{st0:St}(hl:st0.length≤T.length)(hw:d5u st T)(h:Step w0 μ0 st0 w μ st):Step w0 μ0 st0 w μ T where
 size:=h.size
 os:=h.os
 output:=h.output
 tape:=h.tape
 imm:=h.imm
 own:=fun blk hb=>h.own blk (hw.kill.own hb)
 len:=hl
 keep:=fun o ob' ho h1=>by
  obtain⟨ob,e1,e2⟩:=hw.obs o ob' h1
  obtain⟨a,a1,a2⟩:=h.keep o ob ho e1
  exact⟨a,a1,a2.sh e2.sh⟩
def d2s(st T:St)(fr:Fr):Fr→Prop
 | []=>True
 |(t,d)::r=>Up st T (fr.get t) d∧d2s st T fr r
theorem d2s.get:∀ {F:Fr},d2s st T fr F→∀t,Up st T (fr.get t) (F.get t)
 | [],_,_=>.any _
 |(k,d)::r,h,t=>by
  simp only[Fr.get]
  split
  ·rename_i e;subst e;exact h.1
  ·exact h.2.get t
structure Bk(n0:Nat)(F:Fr)(T:St)(fr:Fr)(st:St):Prop where
 len:n0≤T.length
 wk:d5u st T
 up:d2s st T fr F
 sc:Fr.sc T.length F
theorem i2o{F:Fr}(hb:Bk n0 F T fr st)(h:AWp P gl N n0 keep c Q F T):AWp P gl N n0 keep c Q fr st:=
 fun w0 μ0 st0 hl0 a w ⟨μ,hc⟩=>h w0 μ0 st0 hl0 a w ⟨μ,hc.sim.wk hb.wk,d2V hc.glob (fun _ h=>hb.wk.kill.own h),
  fun t=>VR.up hc.sim hb.wk.kill (hb.up.get t) (hc.fr t) (Fr.d5S F hb.sc t),hc.size,hc.defers,Step.wk (by rw[hl0];exact hb.len) hb.wk hc.step⟩
def fin(n0:Nat)(R:D→St→Prop)(d:D)(st:St):Prop:=∃T d',n0≤T.length∧d5u st T∧Up st T d d'∧D.sc T.length d'∧R d' T
@[congr] theorem i2p{n:Nat}{st st':St}{R:D→St→Prop}{d d':D}(h:d=d')(h2:st=st'):fin n R d st=fin n R d' st':=by rw[h,h2]
def i3F(P:Program)(rs:List ResultVar)(n0:Nat)(R:D→St→Prop):AQ
 | .exit _,_,_=>False
 | _,fr,st=>i1l P fr st rs∧fin n0 R (rsD P fr st rs) st
theorem i0p{f:FuncId}{fn:Func}{c:Code}{args:List D}{R:D→St→Prop}{rs:List ResultVar}(keep:List Nat)(hf:P.funcs[f]? =some fn)(hb:fn.body=some c)(hN:fn.ntmps=N)(hr:fn.results.toList=rs)
 (hname:(fn.name != "runtime.NumGoroutine")=true) (hlen:Nat.ble args.length N=true)
 (h:UN st.length st→AWp P gl N st.length keep c (i3F P rs st.length R) (d0B 0 args) st):Spec P gl f args st R:=by
 subst hN hr
 have hlen:=Nat.le_of_ble_eq_true hlen
 refine⟨trivial,fun w μ vs hs hg hsz hvs=>.inl ⟨by unfold Wc;rw[hf];simp[hb,hname],?_⟩⟩
 refine calls_of_wp hf hb ?_
 have hc:Ww gl fn.ntmps w μ st (d0B 0 args) st { tmps:=vs++Array.replicate (fn.ntmps-vs.size) undef,defers:=[] } w μ:=by
  refine⟨hs,hg,fun t=>?_,by simp;omega,rfl,Step.refl _ _ _⟩
  rw[d1E]
  split
  ·rename_i ht
   have hts:t<vs.size:=by rw[hsz];omega
   have:=hvs t (by omega)
   rw[Array.getD_eq_getD_getElem?, Array.getElem?_append_left hts, ←Array.getD_eq_getD_getElem?]
   simpa using this
  ·exact .any _
 refine wp_mono (h hs.sc w μ st rfl _ w ⟨μ,hc⟩) fun e a' w' hq=>?_
 have fin:∀fr' st',i3F P fn.results.toList st.length R .ret fr' st'→d1B gl fn.ntmps w μ st fr' st' a' w'→a'.defers=[]∧∃v,(results fn a'.tmps).run P w'= .ok v w'∧
  ∃v' d d9O μ',Ending.returned v= .returned v'∧R d d9O∧Sim w' μ' d9O∧Step w μ st w' μ' d9O∧VR w' μ' d9O v' d:=by
  rintro fr' st' ⟨i6B,T,d',hle,hw,hu,hsc,hR⟩ ⟨μ',hc'⟩
  obtain⟨v,h1,h2⟩:=d5T hc'.sim hc'.fr (d3H _ i6B)
  exact⟨hc'.defers,v,h1,v,d',T,μ',rfl,hR,hc'.sim.wk hw,Step.wk hle hw hc'.step,VR.up hc'.sim hw.kill hu h2 hsc⟩
 cases e with
 |normal=>obtain⟨fr',st',h1,h2⟩:=hq;exact fin fr' st' h1 h2
 |ret=>obtain⟨fr',st',h1,h2⟩:=hq;exact fin fr' st' h1 h2
 |exit id=>obtain⟨fr',st',h1,h2⟩:=hq;exact h1.elim
 |goto=>exact hq.elim
 |panic=>exact hq.elim
 |outgrown=>exact hq.elim
inductive UpL(st T:St):St→St→Prop
 |nil (l:St):UpL st T l []
 |dead (x:Option Ob) (l l':St) (h:UpL st T l l'):UpL st T (x::l) (none::l')
 |live (ob ob':Ob) (l l':St) (h:d8z st T ob ob') (hl:UpL st T l l'):UpL st T (some ob::l) (some ob'::l')
theorem UpL.lv{ob:Ob}{l l2:St}(h:UpL st T l l2):UpL st T (some ob::l) (some ob::l2):=.live _ _ _ _ (.same _) h
theorem d8z.s{ob:Ob}:d8z st T ob ob:=.same _
theorem Up.s{d:D}:Up st T d d:=.same _
theorem UpL.len:∀ {l l':St},UpL st T l l'→l'.length≤l.length
 | _,_,.nil _=>Nat.zero_le _
 | _,_,.dead _ _ _ h=>by simp[h.len]
 | _,_,.live _ _ _ _ _ h=>by simp[h.len]
theorem UpL.get:∀ {l l':St},UpL st T l l'→∀(j:Nat) (ob':Ob),l'[j]? =some (some ob')→∃ob,l[j]? =some (some ob)∧d8z st T ob ob'
 | _,_,.nil _,j,ob',h=>by simp at h
 | _,_,.dead _ _ _ h,0,ob',e=>by simp at e
 | _,_,.dead _ _ _ h,j+1,ob',e=>by simpa using h.get j ob' (by simpa using e)
 | _,_,.live ob ob2 _ _ h _,0,ob',e=>by simp at e;subst e;exact⟨ob,rfl,h⟩
 | _,_,.live _ _ _ _ _ h,j+1,ob',e=>by simpa using h.get j ob' (by simpa using e)
def ScL(n:Nat):St→Prop
 | []=>True
 |none::l=>ScL n l
 |some ob::l=>ob.sc n∧ScL n l
theorem ScL.get{n:Nat}:∀ {l:St},ScL n l→∀(j:Nat) (ob:Ob),l[j]? =some (some ob)→ob.sc n
 |none::l,h,0,ob,e=>by simp at e
 |some a::l,h,0,ob,e=>by simp at e;subst e;exact h.1
 |none::l,h,j+1,ob,e=>ScL.get (l:=l) h j ob (by simpa using e)
 |some a::l,h,j+1,ob,e=>ScL.get (l:=l) h.2 j ob (by simpa using e)
end
mutual
theorem D.d6s{n m:Nat}(h:n≤m):∀(d:D),D.sc n d→D.sc m d
 | .agg cs,hd=>D.XT h cs hd
 | .tup cs,hd=>D.XT h cs hd
 | .fn _ a b,hd=>⟨D.XT h a hd.1,D.XT h b hd.2⟩
 | .ref _ o _ _ _,hd=>(Nat.lt_of_lt_of_le hd h:o<m)
 | .ptr o _ _ _,hd=>(Nat.lt_of_lt_of_le hd h:o<m)
 | .mp o,hd=>(Nat.lt_of_lt_of_le hd h:o<m)
 | .it o,hd=>(Nat.lt_of_lt_of_le hd h:o<m)
 | .cond _ d,hd=>fun e=>D.d6s h d (hd e)
 | .any,_=>trivial
 | .bool _,_=>trivial
 | .int _ _,_=>trivial
 | .str _,_=>trivial
 | .VT,_=>trivial
 | .Mk,_=>trivial
 | .UJ,_=>trivial
 | .d1o,_=>trivial
 | .sl _ _ _ _,_=>trivial
 | .Xk _,_=>trivial
theorem D.XT{n m:Nat}(h:n≤m):∀(l:List D),D.scs n l→D.scs m l
 | [],_=>trivial
 |d::l,hd=>⟨D.d6s h d hd.1,D.XT h l hd.2⟩
end
theorem Ob.d6s{n m:Nat}(h:n≤m){ob:Ob}(hs:ob.sc n):ob.sc m:=by
 cases ob with
 |arr=>exact fun e he=>D.XT h _ (hs e he)
 |mps=>exact fun e he=>D.XT h _ (hs e he)
 |mpi=>exact fun e he=>D.XT h _ (hs e he)
 |sit=>trivial
 |resv=>trivial
theorem d6t{d:D}(h:d.imm=true)(n:Nat):D.sc n d:=by cases d<;>first|trivial|cases h
theorem Imm.sc{rows:List (List D)}(h:Imm rows)(n:Nat):∀e∈rows,D.scs n e:=fun e he=>
 WI fun j hj=>d6t (List.all_eq_true.1 (h e he) _ (List.getElem_mem _)) n
theorem d8A{s l l':St}(hs:UN s.length s)(hu:UpL (s++l) (s++l') l l')(hl:ScL (s++l').length l'):d5u (s++l) (s++l'):=by
 refine⟨by simp;exact hu.len,fun o ob' h=>?_,fun o ob' h=>?_⟩
 ·rcases Nat.lt_or_ge o s.length with ho|ho
  ·rw[List.getElem?_append_left ho]at h
   exact⟨ob',by rw[List.getElem?_append_left ho];exact h,.same _⟩
  ·rw[List.getElem?_append_right ho]at h
   obtain⟨ob,h1,h2⟩:=hu.get _ _ h
   exact⟨ob,by rw[List.getElem?_append_right ho];exact h1,h2⟩
 ·rcases Nat.lt_or_ge o s.length with ho|ho
  ·rw[List.getElem?_append_left ho]at h
   exact Ob.d6s (by simp) (hs o ob' h)
  ·rw[List.getElem?_append_right ho]at h
   exact hl.get _ _ h
theorem XU{s l:St}(hs:UN s.length s):d5u (s++l) s:=by
 have:=d8A (l:=l) (l':=[]) hs (.nil l) trivial
 rwa[List.append_nil]at this
theorem d0I{s:St}(hs:UN s.length s):d5u s s:=by
 have:=XU (l:=[]) hs
 rwa[List.append_nil]at this
end Go.Am
