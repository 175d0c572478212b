import GoSem.PinnedTables
import Derived.Test.YtaohdfpcdfbnlaaGreatDoorAm3
set_option linter.unusedVariables false
set_option linter.unusedSimpArgs false
namespace Go.Proofs.YtaohdfpcdfbnlaaGreatDoor
open Go Go.Am
structure x9 where
 name : Bs
 of_ : Int
 value : Int
instance : Inhabited x9 := ⟨⟨default, default, default⟩⟩
def x9.cells (x : x9) : List D := [.str x.name, .int .i64 x.of_, .int .i64 x.value]
instance : cU x9.cells 3 := ⟨fun _ => rfl, fun _ => rfl, fun _ => rfl⟩
theorem x9.E1 (x : x9) : x9.cells x = [.str x.name, .int .i64 x.of_, .int .i64 x.value] := rfl
theorem x9.get_eq (l : List x9) (k : Nat) : (rows x9.cells l).getD k [.str [], .int .i64 0, .int .i64 0] = x9.cells (get l k) := I4 (E := x9.cells) l k
attribute [go_sem] x9.E1 x9.get_eq
structure w7 where
 name : Bs
 parents : (List Int)
instance : Inhabited w7 := ⟨⟨default, default⟩⟩
def w7.cells (x : w7) : List D := [.str x.name, .sl false 1 8 (rows O1 x.parents)]
instance : cU w7.cells 2 := ⟨fun _ => rfl, fun _ => rfl, fun _ => rfl⟩
theorem w7.E1 (x : w7) : w7.cells x = [.str x.name, .sl false 1 8 (rows O1 x.parents)] := rfl
theorem w7.get_eq (l : List w7) (k : Nat) : (rows w7.cells l).getD k [.str [], .sl false 1 8 []] = w7.cells (get l k) := I4 (E := w7.cells) l k
attribute [go_sem] w7.E1 w7.get_eq
structure w4 where
 types : (List w7)
 C9 : (List x9)
instance : Inhabited w4 := ⟨⟨default, default⟩⟩
def w4.cells (x : w4) : List D := [.sl false 2 40 (rows w7.cells x.types), .sl false 3 32 (rows x9.cells x.C9)]
instance : cU w4.cells 2 := ⟨fun _ => rfl, fun _ => rfl, fun _ => rfl⟩
theorem w4.E1 (x : w4) : w4.cells x = [.sl false 2 40 (rows w7.cells x.types), .sl false 3 32 (rows x9.cells x.C9)] := rfl
theorem w4.get_eq (l : List w4) (k : Nat) : (rows w4.cells l).getD k [.sl false 2 40 [], .sl false 3 32 []] = w4.cells (get l k) := I4 (E := w4.cells) l k
attribute [go_sem] w4.E1 w4.get_eq
structure D8 where
 nZ : Int
 to_ : Int
instance : Inhabited D8 := ⟨⟨default, default⟩⟩
def D8.cells (x : D8) : List D := [.int .i64 x.nZ, .int .i64 x.to_]
instance : cU D8.cells 2 := ⟨fun _ => rfl, fun _ => rfl, fun _ => rfl⟩
theorem D8.E1 (x : D8) : D8.cells x = [.int .i64 x.nZ, .int .i64 x.to_] := rfl
theorem D8.get_eq (l : List D8) (k : Nat) : (rows D8.cells l).getD k [.int .i64 0, .int .i64 0] = D8.cells (get l k) := I4 (E := D8.cells) l k
attribute [go_sem] D8.E1 D8.get_eq
structure w8 where
 type : Int
 links : (List D8)
instance : Inhabited w8 := ⟨⟨default, default⟩⟩
def w8.cells (x : w8) : List D := [.int .i64 x.type, .sl false 2 16 (rows D8.cells x.links)]
instance : cU w8.cells 2 := ⟨fun _ => rfl, fun _ => rfl, fun _ => rfl⟩
theorem w8.E1 (x : w8) : w8.cells x = [.int .i64 x.type, .sl false 2 16 (rows D8.cells x.links)] := rfl
theorem w8.get_eq (l : List w8) (k : Nat) : (rows w8.cells l).getD k [.int .i64 0, .sl false 2 16 []] = w8.cells (get l k) := I4 (E := w8.cells) l k
attribute [go_sem] w8.E1 w8.get_eq
structure y5 where
 nodes : (List w8)
instance : Inhabited y5 := ⟨⟨default⟩⟩
def y5.cells (x : y5) : List D := [.sl false 2 32 (rows w8.cells x.nodes)]
instance : cU y5.cells 1 := ⟨fun _ => rfl, fun _ => rfl, fun _ => rfl⟩
theorem y5.E1 (x : y5) : y5.cells x = [.sl false 2 32 (rows w8.cells x.nodes)] := rfl
theorem y5.get_eq (l : List y5) (k : Nat) : (rows y5.cells l).getD k [.sl false 2 32 []] = y5.cells (get l k) := I4 (E := y5.cells) l k
attribute [go_sem] y5.E1 y5.get_eq
inductive u0 where
 | mk (base : Bs) (args : (List u0))
def u0.base : u0 → Bs
 | .mk x _ => x
@[simp, go_sem] theorem u0.DN (base : Bs) (args : (List u0)) : (u0.mk base args).base = base := rfl
def u0.args : u0 → (List u0)
 | .mk _ x => x
@[simp, go_sem] theorem u0.wz (base : Bs) (args : (List u0)) : (u0.mk base args).args = args := rfl
instance : Inhabited u0 := ⟨.mk default default⟩
mutual
def u0.cells : u0 → List D
 | .mk Im DP => [.str Im, .sl false 2 40 (u0.sA DP)]
def u0.sA : List u0 → List (List D)
 | [] => []
 | x :: l => x.cells :: u0.sA l
end
theorem u0.lZ : ∀ l : List u0, u0.sA l = rows u0.cells l
 | [] => rfl
 | x :: l => by simp only [u0.sA, Ai, u0.lZ l]
instance : cU u0.cells 2 := ⟨fun x => by cases x; rfl, fun x => by cases x; rfl, fun x => by cases x; rfl⟩
theorem u0.E1 (x : u0) : u0.cells x = [.str x.base, .sl false 2 40 (rows u0.cells x.args)] := by
 cases x
 simp only [u0.cells, u0.lZ]
 rfl
theorem u0.get_eq (l : List u0) (k : Nat) : (rows u0.cells l).getD k [.str [], .sl false 2 40 []] = u0.cells (get l k) := by
 rw [← I4 (E := u0.cells) l k, u0.E1]; rfl
attribute [go_sem] u0.E1 u0.get_eq
inductive w5 where
 | mk (kind : Int) (name : Bs) (index : Int) (type : u0) (args : (List w5))
def w5.kind : w5 → Int
 | .mk x _ _ _ _ => x
@[simp, go_sem] theorem w5.DQ (kind : Int) (name : Bs) (index : Int) (type : u0) (args : (List w5)) : (w5.mk kind name index type args).kind = kind := rfl
def w5.name : w5 → Bs
 | .mk _ x _ _ _ => x
@[simp, go_sem] theorem w5.DR (kind : Int) (name : Bs) (index : Int) (type : u0) (args : (List w5)) : (w5.mk kind name index type args).name = name := rfl
def w5.index : w5 → Int
 | .mk _ _ x _ _ => x
@[simp, go_sem] theorem w5.Cn (kind : Int) (name : Bs) (index : Int) (type : u0) (args : (List w5)) : (w5.mk kind name index type args).index = index := rfl
def w5.type : w5 → u0
 | .mk _ _ _ x _ => x
@[simp, go_sem] theorem w5.DS (kind : Int) (name : Bs) (index : Int) (type : u0) (args : (List w5)) : (w5.mk kind name index type args).type = type := rfl
def w5.args : w5 → (List w5)
 | .mk _ _ _ _ x => x
@[simp, go_sem] theorem w5.wz (kind : Int) (name : Bs) (index : Int) (type : u0) (args : (List w5)) : (w5.mk kind name index type args).args = args := rfl
instance : Inhabited w5 := ⟨.mk default default default default default⟩
mutual
def w5.cells : w5 → List D
 | .mk Io Ip Gf Gg DP => [.int .i64 Io, .str Ip, .int .i64 Gf, .str Gg.base, .sl false 2 40 (rows u0.cells Gg.args), .sl false 6 96 (w5.sA DP)]
def w5.sA : List w5 → List (List D)
 | [] => []
 | x :: l => x.cells :: w5.sA l
end
theorem w5.lZ : ∀ l : List w5, w5.sA l = rows w5.cells l
 | [] => rfl
 | x :: l => by simp only [w5.sA, Ai, w5.lZ l]
instance : cU w5.cells 6 := ⟨fun x => by cases x; rfl, fun x => by cases x; rfl, fun x => by cases x; rfl⟩
theorem w5.E1 (x : w5) : w5.cells x = [.int .i64 x.kind, .str x.name, .int .i64 x.index, .str x.type.base, .sl false 2 40 (rows u0.cells x.type.args), .sl false 6 96 (rows w5.cells x.args)] := by
 cases x
 simp only [w5.cells, w5.lZ]
 rfl
theorem w5.get_eq (l : List w5) (k : Nat) : (rows w5.cells l).getD k [.int .i64 0, .str [], .int .i64 0, .str [], .sl false 2 40 [], .sl false 6 96 []] = w5.cells (get l k) := by
 rw [← I4 (E := w5.cells) l k, w5.E1]; rfl
attribute [go_sem] w5.E1 w5.get_eq
structure u6 where
 name : Bs
 graph : y5
 kids : Int
 weight : Int
 meaning : w5
instance : Inhabited u6 := ⟨⟨default, default, default, default, default⟩⟩
def u6.cells (x : u6) : List D := [.str x.name, .sl false 2 32 (rows w8.cells x.graph.nodes), .int .i64 x.kids, .int .i64 x.weight, .int .i64 x.meaning.kind, .str x.meaning.name, .int .i64 x.meaning.index, .str x.meaning.type.base, .sl false 2 40 (rows u0.cells x.meaning.type.args), .sl false 6 96 (rows w5.cells x.meaning.args)]
instance : cU u6.cells 10 := ⟨fun _ => rfl, fun _ => rfl, fun _ => rfl⟩
theorem u6.E1 (x : u6) : u6.cells x = [.str x.name, .sl false 2 32 (rows w8.cells x.graph.nodes), .int .i64 x.kids, .int .i64 x.weight, .int .i64 x.meaning.kind, .str x.meaning.name, .int .i64 x.meaning.index, .str x.meaning.type.base, .sl false 2 40 (rows u0.cells x.meaning.type.args), .sl false 6 96 (rows w5.cells x.meaning.args)] := rfl
theorem u6.get_eq (l : List u6) (k : Nat) : (rows u6.cells l).getD k [.str [], .sl false 2 32 [], .int .i64 0, .int .i64 0, .int .i64 0, .str [], .int .i64 0, .str [], .sl false 2 40 [], .sl false 6 96 []] = u6.cells (get l k) := I4 (E := u6.cells) l k
attribute [go_sem] u6.E1 u6.get_eq
structure w9 where
 word : Bs
 graph : y5
 weight : Int
 meaning : w5
instance : Inhabited w9 := ⟨⟨default, default, default, default⟩⟩
def w9.cells (x : w9) : List D := [.str x.word, .sl false 2 32 (rows w8.cells x.graph.nodes), .int .i64 x.weight, .int .i64 x.meaning.kind, .str x.meaning.name, .int .i64 x.meaning.index, .str x.meaning.type.base, .sl false 2 40 (rows u0.cells x.meaning.type.args), .sl false 6 96 (rows w5.cells x.meaning.args)]
instance : cU w9.cells 9 := ⟨fun _ => rfl, fun _ => rfl, fun _ => rfl⟩
theorem w9.E1 (x : w9) : w9.cells x = [.str x.word, .sl false 2 32 (rows w8.cells x.graph.nodes), .int .i64 x.weight, .int .i64 x.meaning.kind, .str x.meaning.name, .int .i64 x.meaning.index, .str x.meaning.type.base, .sl false 2 40 (rows u0.cells x.meaning.type.args), .sl false 6 96 (rows w5.cells x.meaning.args)] := rfl
theorem w9.get_eq (l : List w9) (k : Nat) : (rows w9.cells l).getD k [.str [], .sl false 2 32 [], .int .i64 0, .int .i64 0, .str [], .int .i64 0, .str [], .sl false 2 40 [], .sl false 6 96 []] = w9.cells (get l k) := I4 (E := w9.cells) l k
attribute [go_sem] w9.E1 w9.get_eq
structure x5 where
 hierarchy : w4
 rules : (List u6)
 D0 : (List w9)
 start : y5
instance : Inhabited x5 := ⟨⟨default, default, default, default⟩⟩
def x5.cells (x : x5) : List D := [.sl false 2 40 (rows w7.cells x.hierarchy.types), .sl false 3 32 (rows x9.cells x.hierarchy.C9), .sl false 10 152 (rows u6.cells x.rules), .sl false 9 144 (rows w9.cells x.D0), .sl false 2 32 (rows w8.cells x.start.nodes)]
instance : cU x5.cells 5 := ⟨fun _ => rfl, fun _ => rfl, fun _ => rfl⟩
theorem x5.E1 (x : x5) : x5.cells x = [.sl false 2 40 (rows w7.cells x.hierarchy.types), .sl false 3 32 (rows x9.cells x.hierarchy.C9), .sl false 10 152 (rows u6.cells x.rules), .sl false 9 144 (rows w9.cells x.D0), .sl false 2 32 (rows w8.cells x.start.nodes)] := rfl
theorem x5.get_eq (l : List x5) (k : Nat) : (rows x5.cells l).getD k [.sl false 2 40 [], .sl false 3 32 [], .sl false 10 152 [], .sl false 9 144 [], .sl false 2 32 []] = x5.cells (get l k) := I4 (E := x5.cells) l k
attribute [go_sem] x5.E1 x5.get_eq
structure y8 where
 keep : Int
 drop : Int
 put : (List u6)
instance : Inhabited y8 := ⟨⟨default, default, default⟩⟩
def y8.cells (x : y8) : List D := [.int .i64 x.keep, .int .i64 x.drop, .sl false 10 152 (rows u6.cells x.put)]
instance : cU y8.cells 3 := ⟨fun _ => rfl, fun _ => rfl, fun _ => rfl⟩
theorem y8.E1 (x : y8) : y8.cells x = [.int .i64 x.keep, .int .i64 x.drop, .sl false 10 152 (rows u6.cells x.put)] := rfl
theorem y8.get_eq (l : List y8) (k : Nat) : (rows y8.cells l).getD k [.int .i64 0, .int .i64 0, .sl false 10 152 []] = y8.cells (get l k) := I4 (E := y8.cells) l k
attribute [go_sem] y8.E1 y8.get_eq
structure B6 where
 keep : Int
 drop : Int
 put : (List w9)
instance : Inhabited B6 := ⟨⟨default, default, default⟩⟩
def B6.cells (x : B6) : List D := [.int .i64 x.keep, .int .i64 x.drop, .sl false 9 144 (rows w9.cells x.put)]
instance : cU B6.cells 3 := ⟨fun _ => rfl, fun _ => rfl, fun _ => rfl⟩
theorem B6.E1 (x : B6) : B6.cells x = [.int .i64 x.keep, .int .i64 x.drop, .sl false 9 144 (rows w9.cells x.put)] := rfl
theorem B6.get_eq (l : List B6) (k : Nat) : (rows B6.cells l).getD k [.int .i64 0, .int .i64 0, .sl false 9 144 []] = B6.cells (get l k) := I4 (E := B6.cells) l k
attribute [go_sem] B6.E1 B6.get_eq
structure C5 where
 hierarchy : (List w4)
 start : (List y5)
 rules : (List y8)
 D0 : (List B6)
instance : Inhabited C5 := ⟨⟨default, default, default, default⟩⟩
def C5.cells (x : C5) : List D := [.sl false 2 48 (rows w4.cells x.hierarchy), .sl false 1 24 (rows y5.cells x.start), .sl false 3 40 (rows y8.cells x.rules), .sl false 3 40 (rows B6.cells x.D0)]
instance : cU C5.cells 4 := ⟨fun _ => rfl, fun _ => rfl, fun _ => rfl⟩
theorem C5.E1 (x : C5) : C5.cells x = [.sl false 2 48 (rows w4.cells x.hierarchy), .sl false 1 24 (rows y5.cells x.start), .sl false 3 40 (rows y8.cells x.rules), .sl false 3 40 (rows B6.cells x.D0)] := rfl
theorem C5.get_eq (l : List C5) (k : Nat) : (rows C5.cells l).getD k [.sl false 2 48 [], .sl false 1 24 [], .sl false 3 40 [], .sl false 3 40 []] = C5.cells (get l k) := I4 (E := C5.cells) l k
attribute [go_sem] C5.E1 C5.get_eq
structure y7 where
 code : Int
 index : Int
instance : Inhabited y7 := ⟨⟨default, default⟩⟩
def y7.cells (x : y7) : List D := [.int .i64 x.code, .int .i64 x.index]
instance : cU y7.cells 2 := ⟨fun _ => rfl, fun _ => rfl, fun _ => rfl⟩
theorem y7.E1 (x : y7) : y7.cells x = [.int .i64 x.code, .int .i64 x.index] := rfl
theorem y7.get_eq (l : List y7) (k : Nat) : (rows y7.cells l).getD k [.int .i64 0, .int .i64 0] = y7.cells (get l k) := I4 (E := y7.cells) l k
attribute [go_sem] y7.E1 y7.get_eq
structure u7 where
 keep : Int
 drop : Int
 put : (List u6)
instance : Inhabited u7 := ⟨⟨default, default, default⟩⟩
def u7.cells (x : u7) : List D := [.int .i64 x.keep, .int .i64 x.drop, .sl false 10 152 (rows u6.cells x.put)]
instance : cU u7.cells 3 := ⟨fun _ => rfl, fun _ => rfl, fun _ => rfl⟩
theorem u7.E1 (x : u7) : u7.cells x = [.int .i64 x.keep, .int .i64 x.drop, .sl false 10 152 (rows u6.cells x.put)] := rfl
theorem u7.get_eq (l : List u7) (k : Nat) : (rows u7.cells l).getD k [.int .i64 0, .int .i64 0, .sl false 10 152 []] = u7.cells (get l k) := I4 (E := u7.cells) l k
attribute [go_sem] u7.E1 u7.get_eq
structure u9 where
 keep : Int
 drop : Int
 put : (List w9)
instance : Inhabited u9 := ⟨⟨default, default, default⟩⟩
def u9.cells (x : u9) : List D := [.int .i64 x.keep, .int .i64 x.drop, .sl false 9 144 (rows w9.cells x.put)]
instance : cU u9.cells 3 := ⟨fun _ => rfl, fun _ => rfl, fun _ => rfl⟩
theorem u9.E1 (x : u9) : u9.cells x = [.int .i64 x.keep, .int .i64 x.drop, .sl false 9 144 (rows w9.cells x.put)] := rfl
theorem u9.get_eq (l : List u9) (k : Nat) : (rows u9.cells l).getD k [.int .i64 0, .int .i64 0, .sl false 9 144 []] = u9.cells (get l k) := I4 (E := u9.cells) l k
attribute [go_sem] u9.E1 u9.get_eq
structure A9 where
 up : (List Int)
 down : (List Int)
instance : Inhabited A9 := ⟨⟨default, default⟩⟩
def A9.cells (x : A9) : List D := [.sl false 1 8 (rows U2 x.up), .sl false 1 8 (rows U2 x.down)]
instance : cU A9.cells 2 := ⟨fun _ => rfl, fun _ => rfl, fun _ => rfl⟩
theorem A9.E1 (x : A9) : A9.cells x = [.sl false 1 8 (rows U2 x.up), .sl false 1 8 (rows U2 x.down)] := rfl
theorem A9.get_eq (l : List A9) (k : Nat) : (rows A9.cells l).getD k [.sl false 1 8 [], .sl false 1 8 []] = A9.cells (get l k) := I4 (E := A9.cells) l k
attribute [go_sem] A9.E1 A9.get_eq
structure B7 where
 lo : Int
 hi : Int
instance : Inhabited B7 := ⟨⟨default, default⟩⟩
def B7.cells (x : B7) : List D := [.int .u8 x.lo, .int .u8 x.hi]
instance : cU B7.cells 2 := ⟨fun _ => rfl, fun _ => rfl, fun _ => rfl⟩
theorem B7.E1 (x : B7) : B7.cells x = [.int .u8 x.lo, .int .u8 x.hi] := rfl
theorem B7.get_eq (l : List B7) (k : Nat) : (rows B7.cells l).getD k [.int .u8 0, .int .u8 0] = B7.cells (get l k) := I4 (E := B7.cells) l k
attribute [go_sem] B7.E1 B7.get_eq
def Ax : (List Int) := [0, 1, 56, 2, 57, 49, 28, 3, 61, 58, 42, 50, 38, 29, 17, 4, 62, 47, 59, 36, 45, 43, 51, 22, 53, 39, 33, 30, 24, 18, 12, 5, 63, 55, 48, 27, 60, 41, 37, 16, 46, 35, 44, 21, 52, 32, 23, 11, 54, 26, 40, 15, 34, 20, 31, 10, 25, 14, 19, 9, 13, 8, 7, 6]
set_option maxRecDepth 100000 in
theorem Co : Ax.length = 64 := by rfl
def gF : (List Int) := (Go.Pinned.utf8FirstZ.map fun (n : Nat) => (n : Int))
set_option maxRecDepth 100000 in
theorem xM : gF.length = 256 := by rfl
def lX : (List B7) := [B7.mk 128 191, B7.mk 160 191, B7.mk 128 159, B7.mk 144 191, B7.mk 128 143, B7.mk 0 0, B7.mk 0 0, B7.mk 0 0, B7.mk 0 0, B7.mk 0 0, B7.mk 0 0, B7.mk 0 0, B7.mk 0 0, B7.mk 0 0, B7.mk 0 0, B7.mk 0 0]
set_option maxRecDepth 100000 in
theorem xO : lX.length = 16 := by rfl
end Go.Proofs.YtaohdfpcdfbnlaaGreatDoor
