import Derived.Shelf.SlSortCmp.Insertion
import Derived.Test.YtfogbhjeihkliaaGreatDoorDXData
set_option linter.unusedVariables false
set_option linter.unusedSimpArgs false
namespace Go.Am
open Go Go.Sort
open Go.Proofs (ltOf)
structure Hv{α:Type}(c:α→α→Int):Prop where
 neg:∀a b,c a b<0↔0<c b a
 tr:∀a b d,c a b≤0→c b d≤0→c a d≤0
section
variable {α:Type} {c:α→α→Int}
theorem Hv.zero(h:Hv c){a b:α}(e:c a b=0):c b a=0:=by
 have h1:=h.neg a b
 have h2:=h.neg b a
 omega
theorem Hv.refl(h:Hv c)(a:α):c a a=0:=by
 have h1:=h.neg a a
 omega
theorem Hv.swo(h:Hv c):SWO (ltOf c) where
 irrefl:=fun x=>decide_eq_false (by rw[h.refl];omega)
 trans:=fun x y z h1 h2=>decide_eq_true (by
  have h1:c x y<0:=of_decide_eq_true h1
  have h2:c y z<0:=of_decide_eq_true h2
  have t1:=h.tr x y z (by omega) (by omega)
  have t2:=h.tr y z x (by omega)
  have n1:=h.neg x y
  have n2:=h.neg x z
  have n3:=h.neg z x
  omega)
 ntrans:=fun x y z h1 h2=>decide_eq_false (by
  have h1:¬c x y<0:=of_decide_eq_false h1
  have h2:¬c y z<0:=of_decide_eq_false h2
  have n1:=h.neg x y
  have n2:=h.neg y z
  have n3:=h.neg x z
  have t1:=h.tr z y x
  omega)
def Eu(c d:α→α→Int)(a b:α):Int:=if c a b≠0 then c a b else d a b
theorem Hv.lex{d:α→α→Int}(h:Hv c)(k:Hv d):Hv (Eu c d) where
 neg:=fun a b=>by
  have h1:=h.neg a b
  have h2:=h.neg b a
  have k1:=k.neg a b
  unfold Eu
  split<;>split<;>omega
 tr:=fun a b e=>by
  have h1:=h.neg a b
  have h2:=h.neg b a
  have h3:=h.neg b e
  have h4:=h.neg e b
  have h5:=h.neg a e
  have h6:=h.neg e a
  have t1:=h.tr a b e
  have t2:=h.tr e a b
  have t3:=h.tr b e a
  have k1:=k.tr a b e
  unfold Eu
  split<;>split<;>split<;>omega
def Cb(a b:Int):Int:=if a<b then -1 else if b<a then 1 else 0
theorem tX(f:α→Int):Hv (fun a b=>Cb (f a) (f b)) where
 neg:=fun a b=>by simp only[Cb];split<;>split<;>(try split)<;>omega
 tr:=fun a b d=>by simp only[Cb];split<;>split<;>(try split)<;>(try split)<;>omega
theorem rD{a b:Int}(h:Cb a b=0):a=b:=by
 unfold Cb at h
 split at h
 ·omega
 ·split at h<;>omega
theorem tY{d:α→α→Int}{a b:α}(h:Eu c d a b=0):c a b=0∧d a b=0:=by
 unfold Eu at h
 split at h
 ·omega
 ·exact⟨by omega,h⟩
end
end Go.Am
namespace Go.Proofs.YtfogbhjeihkliaaGreatDoor
open Go Go.Am
def jr:w5→w5→Int:=Eu (fun a b=>Cb a.from_ b.from_) (Eu (fun a b=>Cb a.to_ b.to_) (Eu (fun a b=>Cb a.level b.level) (Eu (fun a b=>Cb a.rule b.rule) fun a b=>Cb a.lex b.lex)))
theorem M8:Hv jr:=(tX _).lex ((tX _).lex ((tX _).lex ((tX _).lex (tX _))))
theorem tZ{x y:w5}(h:jr x y=0):x=y:=by
 obtain⟨h1,h⟩:=tY h
 obtain⟨h2,h⟩:=tY h
 obtain⟨h3,h⟩:=tY h
 obtain⟨h4,h5⟩:=tY h
 cases x;cases y
 rw[w5.mk.injEq]
 exact⟨rD h1,rD h2,rD h3,rD h4,rD h5⟩
theorem CK(x y:w5)(h1:¬jr x y<0)(h2:¬jr y x<0):x=y:=by
 have:=M8.neg x y
 have:=M8.neg y x
 exact tZ (by omega)
def UG(x:w5):List Value:=[.int .i64 x.from_,.int .i64 x.to_,.int .i64 x.level,.int .i64 x.rule,.int .i64 x.lex]
theorem LB:Es w5.cells UG 5 where
 Ji:=fun _=>rfl
 QG:=fun _=>rfl
 one:=fun x v hv=>by
  simp only[UG,List.mem_cons,List.not_mem_nil,or_false]at hv
  rcases hv with rfl|rfl|rfl|rfl|rfl<;>rfl
 to:=fun w μ st x j h v hv=>by
  have h5:j<5:=h
  match j,h5 with
  |0,_=>exact fQ hv
  |1,_=>exact fQ hv
  |2,_=>exact fQ hv
  |3,_=>exact fQ hv
  |4,_=>exact fQ hv
 fro:=fun w μ st x j h=>by
  have h5:j<5:=h
  match j,h5 with
  |0,_=>exact cV _ _ _ _ _
  |1,_=>exact cV _ _ _ _ _
  |2,_=>exact cV _ _ _ _ _
  |3,_=>exact cV _ _ _ _ _
  |4,_=>exact cV _ _ _ _ _
def yt(ls:List (List w5)):Option (List w5):=chk (ls.flatten.length≤1000000∧ls.length≤1000000) (some (lV jr ls.flatten))
end Go.Proofs.YtfogbhjeihkliaaGreatDoor
