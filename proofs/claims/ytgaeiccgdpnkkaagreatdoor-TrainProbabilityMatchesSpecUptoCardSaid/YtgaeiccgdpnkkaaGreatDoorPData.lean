import GoSem.PinnedTables
import Derived.Test.YtgaeiccgdpnkkaaGreatDoorPAm3
set_option linter.unusedVariables false
set_option linter.unusedSimpArgs false
namespace Go.Proofs.YtgaeiccgdpnkkaaGreatDoor
open Go Go.Am
structure Yw where
 name : Bs
 of_ : Int
 value : Int
instance : Inhabited Yw := ⟨⟨default, default, default⟩⟩
def Yw.cells (x : Yw) : List D := [.str x.name, .int .i64 x.of_, .int .i64 x.value]
instance : d4B Yw.cells 3 := ⟨fun _ => rfl, fun _ => rfl, fun _ => rfl⟩
theorem Yw.YW (x : Yw) : Yw.cells x = [.str x.name, .int .i64 x.of_, .int .i64 x.value] := rfl
theorem Yw.get_eq (l : List Yw) (k : Nat) : (rows Yw.cells l).getD k [.str [], .int .i64 0, .int .i64 0] = Yw.cells (get l k) := Zy (E := Yw.cells) l k
attribute [go_sem] Yw.YW Yw.get_eq
structure Yl where
 name : Bs
 parents : (List Int)
instance : Inhabited Yl := ⟨⟨default, default⟩⟩
def Yl.cells (x : Yl) : List D := [.str x.name, .sl false 1 8 (rows Zj x.parents)]
instance : d4B Yl.cells 2 := ⟨fun _ => rfl, fun _ => rfl, fun _ => rfl⟩
theorem Yl.YW (x : Yl) : Yl.cells x = [.str x.name, .sl false 1 8 (rows Zj x.parents)] := rfl
theorem Yl.get_eq (l : List Yl) (k : Nat) : (rows Yl.cells l).getD k [.str [], .sl false 1 8 []] = Yl.cells (get l k) := Zy (E := Yl.cells) l k
attribute [go_sem] Yl.YW Yl.get_eq
structure Yo where
 types : (List Yl)
 YL : (List Yw)
instance : Inhabited Yo := ⟨⟨default, default⟩⟩
def Yo.cells (x : Yo) : List D := [.sl false 2 40 (rows Yl.cells x.types), .sl false 3 32 (rows Yw.cells x.YL)]
instance : d4B Yo.cells 2 := ⟨fun _ => rfl, fun _ => rfl, fun _ => rfl⟩
theorem Yo.YW (x : Yo) : Yo.cells x = [.sl false 2 40 (rows Yl.cells x.types), .sl false 3 32 (rows Yw.cells x.YL)] := rfl
theorem Yo.get_eq (l : List Yo) (k : Nat) : (rows Yo.cells l).getD k [.sl false 2 40 [], .sl false 3 32 []] = Yo.cells (get l k) := Zy (E := Yo.cells) l k
attribute [go_sem] Yo.YW Yo.get_eq
structure Zh where
 d6N : Int
 to_ : Int
instance : Inhabited Zh := ⟨⟨default, default⟩⟩
def Zh.cells (x : Zh) : List D := [.int .i64 x.d6N, .int .i64 x.to_]
instance : d4B Zh.cells 2 := ⟨fun _ => rfl, fun _ => rfl, fun _ => rfl⟩
theorem Zh.YW (x : Zh) : Zh.cells x = [.int .i64 x.d6N, .int .i64 x.to_] := rfl
theorem Zh.get_eq (l : List Zh) (k : Nat) : (rows Zh.cells l).getD k [.int .i64 0, .int .i64 0] = Zh.cells (get l k) := Zy (E := Zh.cells) l k
attribute [go_sem] Zh.YW Zh.get_eq
structure Yq where
 type : Int
 links : (List Zh)
instance : Inhabited Yq := ⟨⟨default, default⟩⟩
def Yq.cells (x : Yq) : List D := [.int .i64 x.type, .sl false 2 16 (rows Zh.cells x.links)]
instance : d4B Yq.cells 2 := ⟨fun _ => rfl, fun _ => rfl, fun _ => rfl⟩
theorem Yq.YW (x : Yq) : Yq.cells x = [.int .i64 x.type, .sl false 2 16 (rows Zh.cells x.links)] := rfl
theorem Yq.get_eq (l : List Yq) (k : Nat) : (rows Yq.cells l).getD k [.int .i64 0, .sl false 2 16 []] = Yq.cells (get l k) := Zy (E := Yq.cells) l k
attribute [go_sem] Yq.YW Yq.get_eq
structure Yz where
 nodes : (List Yq)
instance : Inhabited Yz := ⟨⟨default⟩⟩
def Yz.cells (x : Yz) : List D := [.sl false 2 32 (rows Yq.cells x.nodes)]
instance : d4B Yz.cells 1 := ⟨fun _ => rfl, fun _ => rfl, fun _ => rfl⟩
theorem Yz.YW (x : Yz) : Yz.cells x = [.sl false 2 32 (rows Yq.cells x.nodes)] := rfl
theorem Yz.get_eq (l : List Yz) (k : Nat) : (rows Yz.cells l).getD k [.sl false 2 32 []] = Yz.cells (get l k) := Zy (E := Yz.cells) l k
attribute [go_sem] Yz.YW Yz.get_eq
inductive Ye where
 | mk (base : Bs) (args : (List Ye))
def Ye.base : Ye → Bs
 | .mk x _ => x
@[simp, go_sem] theorem Ye.i6T (base : Bs) (args : (List Ye)) : (Ye.mk base args).base = base := rfl
def Ye.args : Ye → (List Ye)
 | .mk _ x => x
@[simp, go_sem] theorem Ye.i4E (base : Bs) (args : (List Ye)) : (Ye.mk base args).args = args := rfl
instance : Inhabited Ye := ⟨.mk default default⟩
mutual
def Ye.cells : Ye → List D
 | .mk r0R p6o => [.str r0R, .sl false 2 40 (Ye.i2f p6o)]
def Ye.i2f : List Ye → List (List D)
 | [] => []
 | x :: l => x.cells :: Ye.i2f l
end
theorem Ye.d6Y : ∀ l : List Ye, Ye.i2f l = rows Ye.cells l
 | [] => rfl
 | x :: l => by simp only [Ye.i2f, i9h, Ye.d6Y l]
instance : d4B Ye.cells 2 := ⟨fun x => by cases x; rfl, fun x => by cases x; rfl, fun x => by cases x; rfl⟩
theorem Ye.YW (x : Ye) : Ye.cells x = [.str x.base, .sl false 2 40 (rows Ye.cells x.args)] := by
 cases x
 simp only [Ye.cells, Ye.d6Y]
 rfl
theorem Ye.get_eq (l : List Ye) (k : Nat) : (rows Ye.cells l).getD k [.str [], .sl false 2 40 []] = Ye.cells (get l k) := by
 rw [← Zy (E := Ye.cells) l k, Ye.YW]; rfl
attribute [go_sem] Ye.YW Ye.get_eq
inductive Yh where
 | mk (kind : Int) (name : Bs) (index : Int) (type : Ye) (args : (List Yh))
def Yh.kind : Yh → Int
 | .mk x _ _ _ _ => x
@[simp, go_sem] theorem Yh.r0S (kind : Int) (name : Bs) (index : Int) (type : Ye) (args : (List Yh)) : (Yh.mk kind name index type args).kind = kind := rfl
def Yh.name : Yh → Bs
 | .mk _ x _ _ _ => x
@[simp, go_sem] theorem Yh.r0T (kind : Int) (name : Bs) (index : Int) (type : Ye) (args : (List Yh)) : (Yh.mk kind name index type args).name = name := rfl
def Yh.index : Yh → Int
 | .mk _ _ x _ _ => x
@[simp, go_sem] theorem Yh.p9U (kind : Int) (name : Bs) (index : Int) (type : Ye) (args : (List Yh)) : (Yh.mk kind name index type args).index = index := rfl
def Yh.type : Yh → Ye
 | .mk _ _ _ x _ => x
@[simp, go_sem] theorem Yh.r0U (kind : Int) (name : Bs) (index : Int) (type : Ye) (args : (List Yh)) : (Yh.mk kind name index type args).type = type := rfl
def Yh.args : Yh → (List Yh)
 | .mk _ _ _ _ x => x
@[simp, go_sem] theorem Yh.i4E (kind : Int) (name : Bs) (index : Int) (type : Ye) (args : (List Yh)) : (Yh.mk kind name index type args).args = args := rfl
instance : Inhabited Yh := ⟨.mk default default default default default⟩
mutual
def Yh.cells : Yh → List D
 | .mk r0V r0W p8X p8Y p6o => [.int .i64 r0V, .str r0W, .int .i64 p8X, .str p8Y.base, .sl false 2 40 (rows Ye.cells p8Y.args), .sl false 6 96 (Yh.i2f p6o)]
def Yh.i2f : List Yh → List (List D)
 | [] => []
 | x :: l => x.cells :: Yh.i2f l
end
theorem Yh.d6Y : ∀ l : List Yh, Yh.i2f l = rows Yh.cells l
 | [] => rfl
 | x :: l => by simp only [Yh.i2f, i9h, Yh.d6Y l]
instance : d4B Yh.cells 6 := ⟨fun x => by cases x; rfl, fun x => by cases x; rfl, fun x => by cases x; rfl⟩
theorem Yh.YW (x : Yh) : Yh.cells x = [.int .i64 x.kind, .str x.name, .int .i64 x.index, .str x.type.base, .sl false 2 40 (rows Ye.cells x.type.args), .sl false 6 96 (rows Yh.cells x.args)] := by
 cases x
 simp only [Yh.cells, Yh.d6Y]
 rfl
theorem Yh.get_eq (l : List Yh) (k : Nat) : (rows Yh.cells l).getD k [.int .i64 0, .str [], .int .i64 0, .str [], .sl false 2 40 [], .sl false 6 96 []] = Yh.cells (get l k) := by
 rw [← Zy (E := Yh.cells) l k, Yh.YW]; rfl
attribute [go_sem] Yh.YW Yh.get_eq
structure Yi where
 name : Bs
 graph : Yz
 kids : Int
 weight : Int
 meaning : Yh
instance : Inhabited Yi := ⟨⟨default, default, default, default, default⟩⟩
def Yi.cells (x : Yi) : List D := [.str x.name, .sl false 2 32 (rows Yq.cells x.graph.nodes), .int .i64 x.kids, .int .i64 x.weight, .int .i64 x.meaning.kind, .str x.meaning.name, .int .i64 x.meaning.index, .str x.meaning.type.base, .sl false 2 40 (rows Ye.cells x.meaning.type.args), .sl false 6 96 (rows Yh.cells x.meaning.args)]
instance : d4B Yi.cells 10 := ⟨fun _ => rfl, fun _ => rfl, fun _ => rfl⟩
theorem Yi.YW (x : Yi) : Yi.cells x = [.str x.name, .sl false 2 32 (rows Yq.cells x.graph.nodes), .int .i64 x.kids, .int .i64 x.weight, .int .i64 x.meaning.kind, .str x.meaning.name, .int .i64 x.meaning.index, .str x.meaning.type.base, .sl false 2 40 (rows Ye.cells x.meaning.type.args), .sl false 6 96 (rows Yh.cells x.meaning.args)] := rfl
theorem Yi.get_eq (l : List Yi) (k : Nat) : (rows Yi.cells l).getD k [.str [], .sl false 2 32 [], .int .i64 0, .int .i64 0, .int .i64 0, .str [], .int .i64 0, .str [], .sl false 2 40 [], .sl false 6 96 []] = Yi.cells (get l k) := Zy (E := Yi.cells) l k
attribute [go_sem] Yi.YW Yi.get_eq
structure YT where
 word : Bs
 graph : Yz
 weight : Int
 meaning : Yh
instance : Inhabited YT := ⟨⟨default, default, default, default⟩⟩
def YT.cells (x : YT) : List D := [.str x.word, .sl false 2 32 (rows Yq.cells x.graph.nodes), .int .i64 x.weight, .int .i64 x.meaning.kind, .str x.meaning.name, .int .i64 x.meaning.index, .str x.meaning.type.base, .sl false 2 40 (rows Ye.cells x.meaning.type.args), .sl false 6 96 (rows Yh.cells x.meaning.args)]
instance : d4B YT.cells 9 := ⟨fun _ => rfl, fun _ => rfl, fun _ => rfl⟩
theorem YT.YW (x : YT) : YT.cells x = [.str x.word, .sl false 2 32 (rows Yq.cells x.graph.nodes), .int .i64 x.weight, .int .i64 x.meaning.kind, .str x.meaning.name, .int .i64 x.meaning.index, .str x.meaning.type.base, .sl false 2 40 (rows Ye.cells x.meaning.type.args), .sl false 6 96 (rows Yh.cells x.meaning.args)] := rfl
theorem YT.get_eq (l : List YT) (k : Nat) : (rows YT.cells l).getD k [.str [], .sl false 2 32 [], .int .i64 0, .int .i64 0, .str [], .int .i64 0, .str [], .sl false 2 40 [], .sl false 6 96 []] = YT.cells (get l k) := Zy (E := YT.cells) l k
attribute [go_sem] YT.YW YT.get_eq
structure Yn where
 hierarchy : Yo
 rules : (List Yi)
 Yy : (List YT)
 start : Yz
instance : Inhabited Yn := ⟨⟨default, default, default, default⟩⟩
def Yn.cells (x : Yn) : List D := [.sl false 2 40 (rows Yl.cells x.hierarchy.types), .sl false 3 32 (rows Yw.cells x.hierarchy.YL), .sl false 10 152 (rows Yi.cells x.rules), .sl false 9 144 (rows YT.cells x.Yy), .sl false 2 32 (rows Yq.cells x.start.nodes)]
instance : d4B Yn.cells 5 := ⟨fun _ => rfl, fun _ => rfl, fun _ => rfl⟩
theorem Yn.YW (x : Yn) : Yn.cells x = [.sl false 2 40 (rows Yl.cells x.hierarchy.types), .sl false 3 32 (rows Yw.cells x.hierarchy.YL), .sl false 10 152 (rows Yi.cells x.rules), .sl false 9 144 (rows YT.cells x.Yy), .sl false 2 32 (rows Yq.cells x.start.nodes)] := rfl
theorem Yn.get_eq (l : List Yn) (k : Nat) : (rows Yn.cells l).getD k [.sl false 2 40 [], .sl false 3 32 [], .sl false 10 152 [], .sl false 9 144 [], .sl false 2 32 []] = Yn.cells (get l k) := Zy (E := Yn.cells) l k
attribute [go_sem] Yn.YW Yn.get_eq
structure d1q where
 keep : Int
 drop : Int
 put : (List Yi)
instance : Inhabited d1q := ⟨⟨default, default, default⟩⟩
def d1q.cells (x : d1q) : List D := [.int .i64 x.keep, .int .i64 x.drop, .sl false 10 152 (rows Yi.cells x.put)]
instance : d4B d1q.cells 3 := ⟨fun _ => rfl, fun _ => rfl, fun _ => rfl⟩
theorem d1q.YW (x : d1q) : d1q.cells x = [.int .i64 x.keep, .int .i64 x.drop, .sl false 10 152 (rows Yi.cells x.put)] := rfl
theorem d1q.get_eq (l : List d1q) (k : Nat) : (rows d1q.cells l).getD k [.int .i64 0, .int .i64 0, .sl false 10 152 []] = d1q.cells (get l k) := Zy (E := d1q.cells) l k
attribute [go_sem] d1q.YW d1q.get_eq
structure d2i where
 keep : Int
 drop : Int
 put : (List YT)
instance : Inhabited d2i := ⟨⟨default, default, default⟩⟩
def d2i.cells (x : d2i) : List D := [.int .i64 x.keep, .int .i64 x.drop, .sl false 9 144 (rows YT.cells x.put)]
instance : d4B d2i.cells 3 := ⟨fun _ => rfl, fun _ => rfl, fun _ => rfl⟩
theorem d2i.YW (x : d2i) : d2i.cells x = [.int .i64 x.keep, .int .i64 x.drop, .sl false 9 144 (rows YT.cells x.put)] := rfl
theorem d2i.get_eq (l : List d2i) (k : Nat) : (rows d2i.cells l).getD k [.int .i64 0, .int .i64 0, .sl false 9 144 []] = d2i.cells (get l k) := Zy (E := d2i.cells) l k
attribute [go_sem] d2i.YW d2i.get_eq
structure d3b where
 hierarchy : (List Yo)
 start : (List Yz)
 rules : (List d1q)
 Yy : (List d2i)
instance : Inhabited d3b := ⟨⟨default, default, default, default⟩⟩
def d3b.cells (x : d3b) : List D := [.sl false 2 48 (rows Yo.cells x.hierarchy), .sl false 1 24 (rows Yz.cells x.start), .sl false 3 40 (rows d1q.cells x.rules), .sl false 3 40 (rows d2i.cells x.Yy)]
instance : d4B d3b.cells 4 := ⟨fun _ => rfl, fun _ => rfl, fun _ => rfl⟩
theorem d3b.YW (x : d3b) : d3b.cells x = [.sl false 2 48 (rows Yo.cells x.hierarchy), .sl false 1 24 (rows Yz.cells x.start), .sl false 3 40 (rows d1q.cells x.rules), .sl false 3 40 (rows d2i.cells x.Yy)] := rfl
theorem d3b.get_eq (l : List d3b) (k : Nat) : (rows d3b.cells l).getD k [.sl false 2 48 [], .sl false 1 24 [], .sl false 3 40 [], .sl false 3 40 []] = d3b.cells (get l k) := Zy (E := d3b.cells) l k
attribute [go_sem] d3b.YW d3b.get_eq
structure Yg where
 code : Int
 index : Int
instance : Inhabited Yg := ⟨⟨default, default⟩⟩
def Yg.cells (x : Yg) : List D := [.int .i64 x.code, .int .i64 x.index]
instance : d4B Yg.cells 2 := ⟨fun _ => rfl, fun _ => rfl, fun _ => rfl⟩
theorem Yg.YW (x : Yg) : Yg.cells x = [.int .i64 x.code, .int .i64 x.index] := rfl
theorem Yg.get_eq (l : List Yg) (k : Nat) : (rows Yg.cells l).getD k [.int .i64 0, .int .i64 0] = Yg.cells (get l k) := Zy (E := Yg.cells) l k
attribute [go_sem] Yg.YW Yg.get_eq
structure YH where
 rules : (List Int)
 Yy : (List Int)
instance : Inhabited YH := ⟨⟨default, default⟩⟩
def YH.cells (x : YH) : List D := [.sl false 1 8 (rows Zj x.rules), .sl false 1 8 (rows Zj x.Yy)]
instance : d4B YH.cells 2 := ⟨fun _ => rfl, fun _ => rfl, fun _ => rfl⟩
theorem YH.YW (x : YH) : YH.cells x = [.sl false 1 8 (rows Zj x.rules), .sl false 1 8 (rows Zj x.Yy)] := rfl
theorem YH.get_eq (l : List YH) (k : Nat) : (rows YH.cells l).getD k [.sl false 1 8 [], .sl false 1 8 []] = YH.cells (get l k) := Zy (E := YH.cells) l k
attribute [go_sem] YH.YW YH.get_eq
inductive Yr where
 | mk (rule : Int) (lex : Int) (kids : (List Yr))
def Yr.rule : Yr → Int
 | .mk x _ _ => x
@[simp, go_sem] theorem Yr.r0X (rule : Int) (lex : Int) (kids : (List Yr)) : (Yr.mk rule lex kids).rule = rule := rfl
def Yr.lex : Yr → Int
 | .mk _ x _ => x
@[simp, go_sem] theorem Yr.r1L (rule : Int) (lex : Int) (kids : (List Yr)) : (Yr.mk rule lex kids).lex = lex := rfl
def Yr.kids : Yr → (List Yr)
 | .mk _ _ x => x
@[simp, go_sem] theorem Yr.r0Y (rule : Int) (lex : Int) (kids : (List Yr)) : (Yr.mk rule lex kids).kids = kids := rfl
instance : Inhabited Yr := ⟨.mk default default default⟩
mutual
def Yr.cells : Yr → List D
 | .mk r0Z r2M r1a => [.int .i64 r0Z, .int .i64 r2M, .sl false 3 40 (Yr.i2f r1a)]
def Yr.i2f : List Yr → List (List D)
 | [] => []
 | x :: l => x.cells :: Yr.i2f l
end
theorem Yr.d6Y : ∀ l : List Yr, Yr.i2f l = rows Yr.cells l
 | [] => rfl
 | x :: l => by simp only [Yr.i2f, i9h, Yr.d6Y l]
instance : d4B Yr.cells 3 := ⟨fun x => by cases x; rfl, fun x => by cases x; rfl, fun x => by cases x; rfl⟩
theorem Yr.YW (x : Yr) : Yr.cells x = [.int .i64 x.rule, .int .i64 x.lex, .sl false 3 40 (rows Yr.cells x.kids)] := by
 cases x
 simp only [Yr.cells, Yr.d6Y]
 rfl
theorem Yr.get_eq (l : List Yr) (k : Nat) : (rows Yr.cells l).getD k [.int .i64 0, .int .i64 0, .sl false 3 40 []] = Yr.cells (get l k) := by
 rw [← Zy (E := Yr.cells) l k, Yr.YW]; rfl
attribute [go_sem] Yr.YW Yr.get_eq
structure Ym where
 num : Int
 den : Int
instance : Inhabited Ym := ⟨⟨default, default⟩⟩
def Ym.cells (x : Ym) : List D := [.int .i64 x.num, .int .i64 x.den]
instance : d4B Ym.cells 2 := ⟨fun _ => rfl, fun _ => rfl, fun _ => rfl⟩
theorem Ym.YW (x : Ym) : Ym.cells x = [.int .i64 x.num, .int .i64 x.den] := rfl
theorem Ym.get_eq (l : List Ym) (k : Nat) : (rows Ym.cells l).getD k [.int .i64 0, .int .i64 0] = Ym.cells (get l k) := Zy (E := Ym.cells) l k
attribute [go_sem] Ym.YW Ym.get_eq
structure YB where
 up : (List Int)
 down : (List Int)
instance : Inhabited YB := ⟨⟨default, default⟩⟩
def YB.cells (x : YB) : List D := [.sl false 1 8 (rows d3L x.up), .sl false 1 8 (rows d3L x.down)]
instance : d4B YB.cells 2 := ⟨fun _ => rfl, fun _ => rfl, fun _ => rfl⟩
theorem YB.YW (x : YB) : YB.cells x = [.sl false 1 8 (rows d3L x.up), .sl false 1 8 (rows d3L x.down)] := rfl
theorem YB.get_eq (l : List YB) (k : Nat) : (rows YB.cells l).getD k [.sl false 1 8 [], .sl false 1 8 []] = YB.cells (get l k) := Zy (E := YB.cells) l k
attribute [go_sem] YB.YW YB.get_eq
structure Yf where
 hi : Int
 lo : Int
instance : Inhabited Yf := ⟨⟨default, default⟩⟩
def Yf.cells (x : Yf) : List D := [.int .u64 x.hi, .int .u64 x.lo]
instance : d4B Yf.cells 2 := ⟨fun _ => rfl, fun _ => rfl, fun _ => rfl⟩
theorem Yf.YW (x : Yf) : Yf.cells x = [.int .u64 x.hi, .int .u64 x.lo] := rfl
theorem Yf.get_eq (l : List Yf) (k : Nat) : (rows Yf.cells l).getD k [.int .u64 0, .int .u64 0] = Yf.cells (get l k) := Zy (E := Yf.cells) l k
attribute [go_sem] Yf.YW Yf.get_eq
structure Yj where
 t : Yh
 depth : Int
 bound : Int
instance : Inhabited Yj := ⟨⟨default, default, default⟩⟩
def Yj.cells (x : Yj) : List D := [.int .i64 x.t.kind, .str x.t.name, .int .i64 x.t.index, .str x.t.type.base, .sl false 2 40 (rows Ye.cells x.t.type.args), .sl false 6 96 (rows Yh.cells x.t.args), .int .i64 x.depth, .int .i64 x.bound]
instance : d4B Yj.cells 8 := ⟨fun _ => rfl, fun _ => rfl, fun _ => rfl⟩
theorem Yj.YW (x : Yj) : Yj.cells x = [.int .i64 x.t.kind, .str x.t.name, .int .i64 x.t.index, .str x.t.type.base, .sl false 2 40 (rows Ye.cells x.t.type.args), .sl false 6 96 (rows Yh.cells x.t.args), .int .i64 x.depth, .int .i64 x.bound] := rfl
theorem Yj.get_eq (l : List Yj) (k : Nat) : (rows Yj.cells l).getD k [.int .i64 0, .str [], .int .i64 0, .str [], .sl false 2 40 [], .sl false 6 96 [], .int .i64 0, .int .i64 0] = Yj.cells (get l k) := Zy (E := Yj.cells) l k
attribute [go_sem] Yj.YW Yj.get_eq
structure YG where
 lo : Int
 hi : Int
instance : Inhabited YG := ⟨⟨default, default⟩⟩
def YG.cells (x : YG) : List D := [.int .u8 x.lo, .int .u8 x.hi]
instance : d4B YG.cells 2 := ⟨fun _ => rfl, fun _ => rfl, fun _ => rfl⟩
theorem YG.YW (x : YG) : YG.cells x = [.int .u8 x.lo, .int .u8 x.hi] := rfl
theorem YG.get_eq (l : List YG) (k : Nat) : (rows YG.cells l).getD k [.int .u8 0, .int .u8 0] = YG.cells (get l k) := Zy (E := YG.cells) l k
attribute [go_sem] YG.YW YG.get_eq
structure Yp where
 s : Ye
 depth : Int
instance : Inhabited Yp := ⟨⟨default, default⟩⟩
def Yp.cells (x : Yp) : List D := [.str x.s.base, .sl false 2 40 (rows Ye.cells x.s.args), .int .i64 x.depth]
instance : d4B Yp.cells 3 := ⟨fun _ => rfl, fun _ => rfl, fun _ => rfl⟩
theorem Yp.YW (x : Yp) : Yp.cells x = [.str x.s.base, .sl false 2 40 (rows Ye.cells x.s.args), .int .i64 x.depth] := rfl
theorem Yp.get_eq (l : List Yp) (k : Nat) : (rows Yp.cells l).getD k [.str [], .sl false 2 40 [], .int .i64 0] = Yp.cells (get l k) := Zy (E := Yp.cells) l k
attribute [go_sem] Yp.YW Yp.get_eq
structure YF where
 kind : Int
 name : Bs
 typ : Ye
 index : Int
 kids : (List Int)
 up : Int
instance : Inhabited YF := ⟨⟨default, default, default, default, default, default⟩⟩
def YF.cells (x : YF) : List D := [.int .i64 x.kind, .str x.name, .str x.typ.base, .sl false 2 40 (rows Ye.cells x.typ.args), .int .i64 x.index, .sl false 1 8 (rows Zj x.kids), .int .i64 x.up]
instance : d4B YF.cells 7 := ⟨fun _ => rfl, fun _ => rfl, fun _ => rfl⟩
theorem YF.YW (x : YF) : YF.cells x = [.int .i64 x.kind, .str x.name, .str x.typ.base, .sl false 2 40 (rows Ye.cells x.typ.args), .int .i64 x.index, .sl false 1 8 (rows Zj x.kids), .int .i64 x.up] := rfl
theorem YF.get_eq (l : List YF) (k : Nat) : (rows YF.cells l).getD k [.int .i64 0, .str [], .str [], .sl false 2 40 [], .int .i64 0, .sl false 1 8 [], .int .i64 0] = YF.cells (get l k) := Zy (E := YF.cells) l k
attribute [go_sem] YF.YW YF.get_eq
def p3w : (List Int) := [0, 1, 56, 2, 57, 49, 28, 3, 61, 58, 42, 50, 38, 29, 17, 4, 62, 47, 59, 36, 45, 43, 51, 22, 53, 39, 33, 30, 24, 18, 12, 5, 63, 55, 48, 27, 60, 41, 37, 16, 46, 35, 44, 21, 52, 32, 23, 11, 54, 26, 40, 15, 34, 20, 31, 10, 25, 14, 19, 9, 13, 8, 7, 6]
set_option maxRecDepth 100000 in
theorem p4v : p3w.length = 64 := by rfl
def d9n : (List Int) := (Go.Pinned.utf8FirstZ.map fun (n : Nat) => (n : Int))
set_option maxRecDepth 100000 in
theorem p4w : d9n.length = 256 := by rfl
def i1A : (List YG) := [YG.mk 128 191, YG.mk 160 191, YG.mk 128 159, YG.mk 144 191, YG.mk 128 143, YG.mk 0 0, YG.mk 0 0, YG.mk 0 0, YG.mk 0 0, YG.mk 0 0, YG.mk 0 0, YG.mk 0 0, YG.mk 0 0, YG.mk 0 0, YG.mk 0 0, YG.mk 0 0]
set_option maxRecDepth 100000 in
theorem p0o : i1A.length = 16 := by rfl
end Go.Proofs.YtgaeiccgdpnkkaaGreatDoor
