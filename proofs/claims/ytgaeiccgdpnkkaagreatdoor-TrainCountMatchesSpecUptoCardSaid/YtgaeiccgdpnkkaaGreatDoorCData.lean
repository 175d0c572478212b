import GoSem.PinnedTables
import Derived.Test.YtgaeiccgdpnkkaaGreatDoorCAm3
set_option linter.unusedVariables false
set_option linter.unusedSimpArgs false
namespace Go.Proofs.YtgaeiccgdpnkkaaGreatDoor
open Go Go.Am
structure Yt where
 name : Bs
 of_ : Int
 value : Int
instance : Inhabited Yt := ⟨⟨default, default, default⟩⟩
def Yt.cells (x : Yt) : List D := [.str x.name, .int .i64 x.of_, .int .i64 x.value]
instance : d3R Yt.cells 3 := ⟨fun _ => rfl, fun _ => rfl, fun _ => rfl⟩
theorem Yt.YV (x : Yt) : Yt.cells x = [.str x.name, .int .i64 x.of_, .int .i64 x.value] := rfl
theorem Yt.get_eq (l : List Yt) (k : Nat) : (rows Yt.cells l).getD k [.str [], .int .i64 0, .int .i64 0] = Yt.cells (get l k) := Zw (E := Yt.cells) l k
attribute [go_sem] Yt.YV Yt.get_eq
structure Yj where
 name : Bs
 parents : (List Int)
instance : Inhabited Yj := ⟨⟨default, default⟩⟩
def Yj.cells (x : Yj) : List D := [.str x.name, .sl false 1 8 (rows Zg x.parents)]
instance : d3R Yj.cells 2 := ⟨fun _ => rfl, fun _ => rfl, fun _ => rfl⟩
theorem Yj.YV (x : Yj) : Yj.cells x = [.str x.name, .sl false 1 8 (rows Zg x.parents)] := rfl
theorem Yj.get_eq (l : List Yj) (k : Nat) : (rows Yj.cells l).getD k [.str [], .sl false 1 8 []] = Yj.cells (get l k) := Zw (E := Yj.cells) l k
attribute [go_sem] Yj.YV Yj.get_eq
structure Ym where
 types : (List Yj)
 YI : (List Yt)
instance : Inhabited Ym := ⟨⟨default, default⟩⟩
def Ym.cells (x : Ym) : List D := [.sl false 2 40 (rows Yj.cells x.types), .sl false 3 32 (rows Yt.cells x.YI)]
instance : d3R Ym.cells 2 := ⟨fun _ => rfl, fun _ => rfl, fun _ => rfl⟩
theorem Ym.YV (x : Ym) : Ym.cells x = [.sl false 2 40 (rows Yj.cells x.types), .sl false 3 32 (rows Yt.cells x.YI)] := rfl
theorem Ym.get_eq (l : List Ym) (k : Nat) : (rows Ym.cells l).getD k [.sl false 2 40 [], .sl false 3 32 []] = Ym.cells (get l k) := Zw (E := Ym.cells) l k
attribute [go_sem] Ym.YV Ym.get_eq
structure Zh where
 d5y : Int
 to_ : Int
instance : Inhabited Zh := ⟨⟨default, default⟩⟩
def Zh.cells (x : Zh) : List D := [.int .i64 x.d5y, .int .i64 x.to_]
instance : d3R Zh.cells 2 := ⟨fun _ => rfl, fun _ => rfl, fun _ => rfl⟩
theorem Zh.YV (x : Zh) : Zh.cells x = [.int .i64 x.d5y, .int .i64 x.to_] := rfl
theorem Zh.get_eq (l : List Zh) (k : Nat) : (rows Zh.cells l).getD k [.int .i64 0, .int .i64 0] = Zh.cells (get l k) := Zw (E := Zh.cells) l k
attribute [go_sem] Zh.YV Zh.get_eq
structure Yo where
 type : Int
 links : (List Zh)
instance : Inhabited Yo := ⟨⟨default, default⟩⟩
def Yo.cells (x : Yo) : List D := [.int .i64 x.type, .sl false 2 16 (rows Zh.cells x.links)]
instance : d3R Yo.cells 2 := ⟨fun _ => rfl, fun _ => rfl, fun _ => rfl⟩
theorem Yo.YV (x : Yo) : Yo.cells x = [.int .i64 x.type, .sl false 2 16 (rows Zh.cells x.links)] := rfl
theorem Yo.get_eq (l : List Yo) (k : Nat) : (rows Yo.cells l).getD k [.int .i64 0, .sl false 2 16 []] = Yo.cells (get l k) := Zw (E := Yo.cells) l k
attribute [go_sem] Yo.YV Yo.get_eq
structure Yx where
 nodes : (List Yo)
instance : Inhabited Yx := ⟨⟨default⟩⟩
def Yx.cells (x : Yx) : List D := [.sl false 2 32 (rows Yo.cells x.nodes)]
instance : d3R Yx.cells 1 := ⟨fun _ => rfl, fun _ => rfl, fun _ => rfl⟩
theorem Yx.YV (x : Yx) : Yx.cells x = [.sl false 2 32 (rows Yo.cells x.nodes)] := rfl
theorem Yx.get_eq (l : List Yx) (k : Nat) : (rows Yx.cells l).getD k [.sl false 2 32 []] = Yx.cells (get l k) := Zw (E := Yx.cells) l k
attribute [go_sem] Yx.YV Yx.get_eq
inductive Ye where
 | mk (base : Bs) (args : (List Ye))
def Ye.base : Ye → Bs
 | .mk x _ => x
@[simp, go_sem] theorem Ye.i5t (base : Bs) (args : (List Ye)) : (Ye.mk base args).base = base := rfl
def Ye.args : Ye → (List Ye)
 | .mk _ x => x
@[simp, go_sem] theorem Ye.i3r (base : Bs) (args : (List Ye)) : (Ye.mk base args).args = args := rfl
instance : Inhabited Ye := ⟨.mk default default⟩
mutual
def Ye.cells : Ye → List D
 | .mk p8K p4u => [.str p8K, .sl false 2 40 (Ye.i0U p4u)]
def Ye.i0U : List Ye → List (List D)
 | [] => []
 | x :: l => x.cells :: Ye.i0U l
end
theorem Ye.d5O : ∀ l : List Ye, Ye.i0U l = rows Ye.cells l
 | [] => rfl
 | x :: l => by simp only [Ye.i0U, i7E, Ye.d5O l]
instance : d3R Ye.cells 2 := ⟨fun x => by cases x; rfl, fun x => by cases x; rfl, fun x => by cases x; rfl⟩
theorem Ye.YV (x : Ye) : Ye.cells x = [.str x.base, .sl false 2 40 (rows Ye.cells x.args)] := by
 cases x
 simp only [Ye.cells, Ye.d5O]
 rfl
theorem Ye.get_eq (l : List Ye) (k : Nat) : (rows Ye.cells l).getD k [.str [], .sl false 2 40 []] = Ye.cells (get l k) := by
 rw [← Zw (E := Ye.cells) l k, Ye.YV]; rfl
attribute [go_sem] Ye.YV Ye.get_eq
inductive Yg where
 | mk (kind : Int) (name : Bs) (index : Int) (type : Ye) (args : (List Yg))
def Yg.kind : Yg → Int
 | .mk x _ _ _ _ => x
@[simp, go_sem] theorem Yg.p8L (kind : Int) (name : Bs) (index : Int) (type : Ye) (args : (List Yg)) : (Yg.mk kind name index type args).kind = kind := rfl
def Yg.name : Yg → Bs
 | .mk _ x _ _ _ => x
@[simp, go_sem] theorem Yg.p8M (kind : Int) (name : Bs) (index : Int) (type : Ye) (args : (List Yg)) : (Yg.mk kind name index type args).name = name := rfl
def Yg.index : Yg → Int
 | .mk _ _ x _ _ => x
@[simp, go_sem] theorem Yg.p7P (kind : Int) (name : Bs) (index : Int) (type : Ye) (args : (List Yg)) : (Yg.mk kind name index type args).index = index := rfl
def Yg.type : Yg → Ye
 | .mk _ _ _ x _ => x
@[simp, go_sem] theorem Yg.p8N (kind : Int) (name : Bs) (index : Int) (type : Ye) (args : (List Yg)) : (Yg.mk kind name index type args).type = type := rfl
def Yg.args : Yg → (List Yg)
 | .mk _ _ _ _ x => x
@[simp, go_sem] theorem Yg.i3r (kind : Int) (name : Bs) (index : Int) (type : Ye) (args : (List Yg)) : (Yg.mk kind name index type args).args = args := rfl
instance : Inhabited Yg := ⟨.mk default default default default default⟩
mutual
def Yg.cells : Yg → List D
 | .mk p8O p8P p6Z p7a p4u => [.int .i64 p8O, .str p8P, .int .i64 p6Z, .str p7a.base, .sl false 2 40 (rows Ye.cells p7a.args), .sl false 6 96 (Yg.i0U p4u)]
def Yg.i0U : List Yg → List (List D)
 | [] => []
 | x :: l => x.cells :: Yg.i0U l
end
theorem Yg.d5O : ∀ l : List Yg, Yg.i0U l = rows Yg.cells l
 | [] => rfl
 | x :: l => by simp only [Yg.i0U, i7E, Yg.d5O l]
instance : d3R Yg.cells 6 := ⟨fun x => by cases x; rfl, fun x => by cases x; rfl, fun x => by cases x; rfl⟩
theorem Yg.YV (x : Yg) : Yg.cells x = [.int .i64 x.kind, .str x.name, .int .i64 x.index, .str x.type.base, .sl false 2 40 (rows Ye.cells x.type.args), .sl false 6 96 (rows Yg.cells x.args)] := by
 cases x
 simp only [Yg.cells, Yg.d5O]
 rfl
theorem Yg.get_eq (l : List Yg) (k : Nat) : (rows Yg.cells l).getD k [.int .i64 0, .str [], .int .i64 0, .str [], .sl false 2 40 [], .sl false 6 96 []] = Yg.cells (get l k) := by
 rw [← Zw (E := Yg.cells) l k, Yg.YV]; rfl
attribute [go_sem] Yg.YV Yg.get_eq
structure Yh where
 name : Bs
 graph : Yx
 kids : Int
 weight : Int
 meaning : Yg
instance : Inhabited Yh := ⟨⟨default, default, default, default, default⟩⟩
def Yh.cells (x : Yh) : List D := [.str x.name, .sl false 2 32 (rows Yo.cells x.graph.nodes), .int .i64 x.kids, .int .i64 x.weight, .int .i64 x.meaning.kind, .str x.meaning.name, .int .i64 x.meaning.index, .str x.meaning.type.base, .sl false 2 40 (rows Ye.cells x.meaning.type.args), .sl false 6 96 (rows Yg.cells x.meaning.args)]
instance : d3R Yh.cells 10 := ⟨fun _ => rfl, fun _ => rfl, fun _ => rfl⟩
theorem Yh.YV (x : Yh) : Yh.cells x = [.str x.name, .sl false 2 32 (rows Yo.cells x.graph.nodes), .int .i64 x.kids, .int .i64 x.weight, .int .i64 x.meaning.kind, .str x.meaning.name, .int .i64 x.meaning.index, .str x.meaning.type.base, .sl false 2 40 (rows Ye.cells x.meaning.type.args), .sl false 6 96 (rows Yg.cells x.meaning.args)] := rfl
theorem Yh.get_eq (l : List Yh) (k : Nat) : (rows Yh.cells l).getD k [.str [], .sl false 2 32 [], .int .i64 0, .int .i64 0, .int .i64 0, .str [], .int .i64 0, .str [], .sl false 2 40 [], .sl false 6 96 []] = Yh.cells (get l k) := Zw (E := Yh.cells) l k
attribute [go_sem] Yh.YV Yh.get_eq
structure YR where
 word : Bs
 graph : Yx
 weight : Int
 meaning : Yg
instance : Inhabited YR := ⟨⟨default, default, default, default⟩⟩
def YR.cells (x : YR) : List D := [.str x.word, .sl false 2 32 (rows Yo.cells x.graph.nodes), .int .i64 x.weight, .int .i64 x.meaning.kind, .str x.meaning.name, .int .i64 x.meaning.index, .str x.meaning.type.base, .sl false 2 40 (rows Ye.cells x.meaning.type.args), .sl false 6 96 (rows Yg.cells x.meaning.args)]
instance : d3R YR.cells 9 := ⟨fun _ => rfl, fun _ => rfl, fun _ => rfl⟩
theorem YR.YV (x : YR) : YR.cells x = [.str x.word, .sl false 2 32 (rows Yo.cells x.graph.nodes), .int .i64 x.weight, .int .i64 x.meaning.kind, .str x.meaning.name, .int .i64 x.meaning.index, .str x.meaning.type.base, .sl false 2 40 (rows Ye.cells x.meaning.type.args), .sl false 6 96 (rows Yg.cells x.meaning.args)] := rfl
theorem YR.get_eq (l : List YR) (k : Nat) : (rows YR.cells l).getD k [.str [], .sl false 2 32 [], .int .i64 0, .int .i64 0, .str [], .int .i64 0, .str [], .sl false 2 40 [], .sl false 6 96 []] = YR.cells (get l k) := Zw (E := YR.cells) l k
attribute [go_sem] YR.YV YR.get_eq
structure Yq where
 hierarchy : Ym
 rules : (List Yh)
 YK : (List YR)
 start : Yx
instance : Inhabited Yq := ⟨⟨default, default, default, default⟩⟩
def Yq.cells (x : Yq) : List D := [.sl false 2 40 (rows Yj.cells x.hierarchy.types), .sl false 3 32 (rows Yt.cells x.hierarchy.YI), .sl false 10 152 (rows Yh.cells x.rules), .sl false 9 144 (rows YR.cells x.YK), .sl false 2 32 (rows Yo.cells x.start.nodes)]
instance : d3R Yq.cells 5 := ⟨fun _ => rfl, fun _ => rfl, fun _ => rfl⟩
theorem Yq.YV (x : Yq) : Yq.cells x = [.sl false 2 40 (rows Yj.cells x.hierarchy.types), .sl false 3 32 (rows Yt.cells x.hierarchy.YI), .sl false 10 152 (rows Yh.cells x.rules), .sl false 9 144 (rows YR.cells x.YK), .sl false 2 32 (rows Yo.cells x.start.nodes)] := rfl
theorem Yq.get_eq (l : List Yq) (k : Nat) : (rows Yq.cells l).getD k [.sl false 2 40 [], .sl false 3 32 [], .sl false 10 152 [], .sl false 9 144 [], .sl false 2 32 []] = Yq.cells (get l k) := Zw (E := Yq.cells) l k
attribute [go_sem] Yq.YV Yq.get_eq
structure d0N where
 keep : Int
 drop : Int
 put : (List Yh)
instance : Inhabited d0N := ⟨⟨default, default, default⟩⟩
def d0N.cells (x : d0N) : List D := [.int .i64 x.keep, .int .i64 x.drop, .sl false 10 152 (rows Yh.cells x.put)]
instance : d3R d0N.cells 3 := ⟨fun _ => rfl, fun _ => rfl, fun _ => rfl⟩
theorem d0N.YV (x : d0N) : d0N.cells x = [.int .i64 x.keep, .int .i64 x.drop, .sl false 10 152 (rows Yh.cells x.put)] := rfl
theorem d0N.get_eq (l : List d0N) (k : Nat) : (rows d0N.cells l).getD k [.int .i64 0, .int .i64 0, .sl false 10 152 []] = d0N.cells (get l k) := Zw (E := d0N.cells) l k
attribute [go_sem] d0N.YV d0N.get_eq
structure d1A where
 keep : Int
 drop : Int
 put : (List YR)
instance : Inhabited d1A := ⟨⟨default, default, default⟩⟩
def d1A.cells (x : d1A) : List D := [.int .i64 x.keep, .int .i64 x.drop, .sl false 9 144 (rows YR.cells x.put)]
instance : d3R d1A.cells 3 := ⟨fun _ => rfl, fun _ => rfl, fun _ => rfl⟩
theorem d1A.YV (x : d1A) : d1A.cells x = [.int .i64 x.keep, .int .i64 x.drop, .sl false 9 144 (rows YR.cells x.put)] := rfl
theorem d1A.get_eq (l : List d1A) (k : Nat) : (rows d1A.cells l).getD k [.int .i64 0, .int .i64 0, .sl false 9 144 []] = d1A.cells (get l k) := Zw (E := d1A.cells) l k
attribute [go_sem] d1A.YV d1A.get_eq
structure d2l where
 hierarchy : (List Ym)
 start : (List Yx)
 rules : (List d0N)
 YK : (List d1A)
instance : Inhabited d2l := ⟨⟨default, default, default, default⟩⟩
def d2l.cells (x : d2l) : List D := [.sl false 2 48 (rows Ym.cells x.hierarchy), .sl false 1 24 (rows Yx.cells x.start), .sl false 3 40 (rows d0N.cells x.rules), .sl false 3 40 (rows d1A.cells x.YK)]
instance : d3R d2l.cells 4 := ⟨fun _ => rfl, fun _ => rfl, fun _ => rfl⟩
theorem d2l.YV (x : d2l) : d2l.cells x = [.sl false 2 48 (rows Ym.cells x.hierarchy), .sl false 1 24 (rows Yx.cells x.start), .sl false 3 40 (rows d0N.cells x.rules), .sl false 3 40 (rows d1A.cells x.YK)] := rfl
theorem d2l.get_eq (l : List d2l) (k : Nat) : (rows d2l.cells l).getD k [.sl false 2 48 [], .sl false 1 24 [], .sl false 3 40 [], .sl false 3 40 []] = d2l.cells (get l k) := Zw (E := d2l.cells) l k
attribute [go_sem] d2l.YV d2l.get_eq
structure Yf where
 code : Int
 index : Int
instance : Inhabited Yf := ⟨⟨default, default⟩⟩
def Yf.cells (x : Yf) : List D := [.int .i64 x.code, .int .i64 x.index]
instance : d3R Yf.cells 2 := ⟨fun _ => rfl, fun _ => rfl, fun _ => rfl⟩
theorem Yf.YV (x : Yf) : Yf.cells x = [.int .i64 x.code, .int .i64 x.index] := rfl
theorem Yf.get_eq (l : List Yf) (k : Nat) : (rows Yf.cells l).getD k [.int .i64 0, .int .i64 0] = Yf.cells (get l k) := Zw (E := Yf.cells) l k
attribute [go_sem] Yf.YV Yf.get_eq
structure YS where
 rules : (List Int)
 YK : (List Int)
instance : Inhabited YS := ⟨⟨default, default⟩⟩
def YS.cells (x : YS) : List D := [.sl false 1 8 (rows Zg x.rules), .sl false 1 8 (rows Zg x.YK)]
instance : d3R YS.cells 2 := ⟨fun _ => rfl, fun _ => rfl, fun _ => rfl⟩
theorem YS.YV (x : YS) : YS.cells x = [.sl false 1 8 (rows Zg x.rules), .sl false 1 8 (rows Zg x.YK)] := rfl
theorem YS.get_eq (l : List YS) (k : Nat) : (rows YS.cells l).getD k [.sl false 1 8 [], .sl false 1 8 []] = YS.cells (get l k) := Zw (E := YS.cells) l k
attribute [go_sem] YS.YV YS.get_eq
inductive Yl where
 | mk (rule : Int) (lex : Int) (kids : (List Yl))
def Yl.rule : Yl → Int
 | .mk x _ _ => x
@[simp, go_sem] theorem Yl.p8Q (rule : Int) (lex : Int) (kids : (List Yl)) : (Yl.mk rule lex kids).rule = rule := rfl
def Yl.lex : Yl → Int
 | .mk _ x _ => x
@[simp, go_sem] theorem Yl.p9E (rule : Int) (lex : Int) (kids : (List Yl)) : (Yl.mk rule lex kids).lex = lex := rfl
def Yl.kids : Yl → (List Yl)
 | .mk _ _ x => x
@[simp, go_sem] theorem Yl.p8R (rule : Int) (lex : Int) (kids : (List Yl)) : (Yl.mk rule lex kids).kids = kids := rfl
instance : Inhabited Yl := ⟨.mk default default default⟩
mutual
def Yl.cells : Yl → List D
 | .mk p8S r0F p8T => [.int .i64 p8S, .int .i64 r0F, .sl false 3 40 (Yl.i0U p8T)]
def Yl.i0U : List Yl → List (List D)
 | [] => []
 | x :: l => x.cells :: Yl.i0U l
end
theorem Yl.d5O : ∀ l : List Yl, Yl.i0U l = rows Yl.cells l
 | [] => rfl
 | x :: l => by simp only [Yl.i0U, i7E, Yl.d5O l]
instance : d3R Yl.cells 3 := ⟨fun x => by cases x; rfl, fun x => by cases x; rfl, fun x => by cases x; rfl⟩
theorem Yl.YV (x : Yl) : Yl.cells x = [.int .i64 x.rule, .int .i64 x.lex, .sl false 3 40 (rows Yl.cells x.kids)] := by
 cases x
 simp only [Yl.cells, Yl.d5O]
 rfl
theorem Yl.get_eq (l : List Yl) (k : Nat) : (rows Yl.cells l).getD k [.int .i64 0, .int .i64 0, .sl false 3 40 []] = Yl.cells (get l k) := by
 rw [← Zw (E := Yl.cells) l k, Yl.YV]; rfl
attribute [go_sem] Yl.YV Yl.get_eq
structure Yz where
 num : Int
 den : Int
instance : Inhabited Yz := ⟨⟨default, default⟩⟩
def Yz.cells (x : Yz) : List D := [.int .i64 x.num, .int .i64 x.den]
instance : d3R Yz.cells 2 := ⟨fun _ => rfl, fun _ => rfl, fun _ => rfl⟩
theorem Yz.YV (x : Yz) : Yz.cells x = [.int .i64 x.num, .int .i64 x.den] := rfl
theorem Yz.get_eq (l : List Yz) (k : Nat) : (rows Yz.cells l).getD k [.int .i64 0, .int .i64 0] = Yz.cells (get l k) := Zw (E := Yz.cells) l k
attribute [go_sem] Yz.YV Yz.get_eq
structure Yy where
 up : (List Int)
 down : (List Int)
instance : Inhabited Yy := ⟨⟨default, default⟩⟩
def Yy.cells (x : Yy) : List D := [.sl false 1 8 (rows d2Y x.up), .sl false 1 8 (rows d2Y x.down)]
instance : d3R Yy.cells 2 := ⟨fun _ => rfl, fun _ => rfl, fun _ => rfl⟩
theorem Yy.YV (x : Yy) : Yy.cells x = [.sl false 1 8 (rows d2Y x.up), .sl false 1 8 (rows d2Y x.down)] := rfl
theorem Yy.get_eq (l : List Yy) (k : Nat) : (rows Yy.cells l).getD k [.sl false 1 8 [], .sl false 1 8 []] = Yy.cells (get l k) := Zw (E := Yy.cells) l k
attribute [go_sem] Yy.YV Yy.get_eq
structure Yi where
 t : Yg
 depth : Int
 bound : Int
instance : Inhabited Yi := ⟨⟨default, default, default⟩⟩
def Yi.cells (x : Yi) : List D := [.int .i64 x.t.kind, .str x.t.name, .int .i64 x.t.index, .str x.t.type.base, .sl false 2 40 (rows Ye.cells x.t.type.args), .sl false 6 96 (rows Yg.cells x.t.args), .int .i64 x.depth, .int .i64 x.bound]
instance : d3R Yi.cells 8 := ⟨fun _ => rfl, fun _ => rfl, fun _ => rfl⟩
theorem Yi.YV (x : Yi) : Yi.cells x = [.int .i64 x.t.kind, .str x.t.name, .int .i64 x.t.index, .str x.t.type.base, .sl false 2 40 (rows Ye.cells x.t.type.args), .sl false 6 96 (rows Yg.cells x.t.args), .int .i64 x.depth, .int .i64 x.bound] := rfl
theorem Yi.get_eq (l : List Yi) (k : Nat) : (rows Yi.cells l).getD k [.int .i64 0, .str [], .int .i64 0, .str [], .sl false 2 40 [], .sl false 6 96 [], .int .i64 0, .int .i64 0] = Yi.cells (get l k) := Zw (E := Yi.cells) l k
attribute [go_sem] Yi.YV Yi.get_eq
structure YE where
 lo : Int
 hi : Int
instance : Inhabited YE := ⟨⟨default, default⟩⟩
def YE.cells (x : YE) : List D := [.int .u8 x.lo, .int .u8 x.hi]
instance : d3R YE.cells 2 := ⟨fun _ => rfl, fun _ => rfl, fun _ => rfl⟩
theorem YE.YV (x : YE) : YE.cells x = [.int .u8 x.lo, .int .u8 x.hi] := rfl
theorem YE.get_eq (l : List YE) (k : Nat) : (rows YE.cells l).getD k [.int .u8 0, .int .u8 0] = YE.cells (get l k) := Zw (E := YE.cells) l k
attribute [go_sem] YE.YV YE.get_eq
structure Yn where
 s : Ye
 depth : Int
instance : Inhabited Yn := ⟨⟨default, default⟩⟩
def Yn.cells (x : Yn) : List D := [.str x.s.base, .sl false 2 40 (rows Ye.cells x.s.args), .int .i64 x.depth]
instance : d3R Yn.cells 3 := ⟨fun _ => rfl, fun _ => rfl, fun _ => rfl⟩
theorem Yn.YV (x : Yn) : Yn.cells x = [.str x.s.base, .sl false 2 40 (rows Ye.cells x.s.args), .int .i64 x.depth] := rfl
theorem Yn.get_eq (l : List Yn) (k : Nat) : (rows Yn.cells l).getD k [.str [], .sl false 2 40 [], .int .i64 0] = Yn.cells (get l k) := Zw (E := Yn.cells) l k
attribute [go_sem] Yn.YV Yn.get_eq
structure YD where
 kind : Int
 name : Bs
 typ : Ye
 index : Int
 kids : (List Int)
 up : Int
instance : Inhabited YD := ⟨⟨default, default, default, default, default, default⟩⟩
def YD.cells (x : YD) : List D := [.int .i64 x.kind, .str x.name, .str x.typ.base, .sl false 2 40 (rows Ye.cells x.typ.args), .int .i64 x.index, .sl false 1 8 (rows Zg x.kids), .int .i64 x.up]
instance : d3R YD.cells 7 := ⟨fun _ => rfl, fun _ => rfl, fun _ => rfl⟩
theorem YD.YV (x : YD) : YD.cells x = [.int .i64 x.kind, .str x.name, .str x.typ.base, .sl false 2 40 (rows Ye.cells x.typ.args), .int .i64 x.index, .sl false 1 8 (rows Zg x.kids), .int .i64 x.up] := rfl
theorem YD.get_eq (l : List YD) (k : Nat) : (rows YD.cells l).getD k [.int .i64 0, .str [], .str [], .sl false 2 40 [], .int .i64 0, .sl false 1 8 [], .int .i64 0] = YD.cells (get l k) := Zw (E := YD.cells) l k
attribute [go_sem] YD.YV YD.get_eq
def p1N : (List Int) := [0, 1, 56, 2, 57, 49, 28, 3, 61, 58, 42, 50, 38, 29, 17, 4, 62, 47, 59, 36, 45, 43, 51, 22, 53, 39, 33, 30, 24, 18, 12, 5, 63, 55, 48, 27, 60, 41, 37, 16, 46, 35, 44, 21, 52, 32, 23, 11, 54, 26, 40, 15, 34, 20, 31, 10, 25, 14, 19, 9, 13, 8, 7, 6]
set_option maxRecDepth 100000 in
theorem p2L : p1N.length = 64 := by rfl
def d7Z : (List Int) := (Go.Pinned.utf8FirstZ.map fun (n : Nat) => (n : Int))
set_option maxRecDepth 100000 in
theorem p2M : d7Z.length = 256 := by rfl
def i0p : (List YE) := [YE.mk 128 191, YE.mk 160 191, YE.mk 128 159, YE.mk 144 191, YE.mk 128 143, YE.mk 0 0, YE.mk 0 0, YE.mk 0 0, YE.mk 0 0, YE.mk 0 0, YE.mk 0 0, YE.mk 0 0, YE.mk 0 0, YE.mk 0 0, YE.mk 0 0, YE.mk 0 0]
set_option maxRecDepth 100000 in
theorem i8J : i0p.length = 16 := by rfl
end Go.Proofs.YtgaeiccgdpnkkaaGreatDoor
