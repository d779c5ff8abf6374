/-
  What is to be shown of each function, computed from its code. No statement of a seat is proved here.
-/
import Derived.Test.YtmkmimgokagimaaGreatLeTy
set_option linter.unusedVariables false
set_option maxRecDepth 1000000
namespace Go.Proofs.YtmkmimgokagimaaGreat
open Go.Ab
local notation:max "©" b:max h:max n:max f:max a:max=>aG env b (limf env) (limt env 0) h (Ref.mk 0 n (Heap.gen h 0 n) 0) (some (AV.fn (Fn.func f) [] [])) a
local notation:max "§" h:max n:max=>Ref.mk 0 n (Heap.gen h 0 n) 0
local notation:max "~" a:max=>some a
local notation:max "¥" h:max=>Heap.get h
local notation:max "¤" n:max=>(Operand.const (Value.int IntKind.i64 n))
local notation:max "£" n:max=>some (AV.v (Value.int IntKind.i64 n))
local notation:max "¡" => some (AV.v (Value.bool true))
local notation:max "¿" => some (AV.v (Value.bool false))
local notation:max "°" n:max=>(Operand.tmp n)
local notation:max "¢" => env.P
noncomputable def pZ:Code:=(Tryz.f47.body).getD .skip
def AL:Nat→Option (List Nat):=fun i=>none
def A3:Nat→Bool:=fun i=>false
def qi(g:Nat→AV)(x0 x1:AV)(H:Heap)(Q:AV→Heap→Prop):Prop :=
 doW (nRes H §H 2 (qBox ¢ §H 2 29 ~x0)) fun v1 H1 =>
 doW (nRes H1 §H1 3 (qBox ¢ §H1 3 29 ~x1)) fun v2 H2 =>
 doQ (aa ¢ 29 ~v1 0) fun v3 =>
 doQ (ai ¢ ¥H2 5 ~v3) fun v4 =>
 doQ (aa ¢ 29 ~v2 0) fun v5 =>
 doQ (ai ¢ ¥H2 5 ~v5) fun v6 =>
 doQ (qBin ¢ .leq 5 °6 °8 ~v4 ~v6) fun v7 =>
 gQ v7 true (aa ¢ 29 ~v1 1) fun v8 =>
 gQ v7 true (ai ¢ ¥H2 27 ~v8) fun v9 =>
 gQ v7 true (aa ¢ 29 ~v2 1) fun v10 =>
 gQ v7 true (ai ¢ ¥H2 27 ~v10) fun v11 =>
 gQ v7 true (qBin ¢ .andNot 27 °12 °14 ~v9 ~v11) fun v12 =>
 gQ v7 true (qBin ¢ .eql 27 °15 (.const (.int .u32 0)) ~v12 (some (a32 0))) fun v13 =>
 doQ (bc ~v7 ~v13 ¿) fun v14 =>
 Q v14 H2
theorem tO(x0 x1:AV)(H:Heap)(Q:AV→Heap→Prop)(h : ∀g,qi g x0 x1 H Q):GoL env Tryz.f47 0 [.code pZ] [(0,x0),(1,x1)] H Q:=⟨fun g=>aU (live:=AL) (cut:=A3) (n:=500) (Eq.mp (by kernel_rfl) (h g))⟩
noncomputable def ny:Code:=(Tryz.f76.body).getD .skip
def xw:Nat→Option (List Nat):=fun i=>none
def xP:Nat→Bool:=fun i=>false
def nE(g:Nat→AV)(x0:AV)(H:Heap)(Q:AV→Heap→Prop):Prop :=
 doW (nRes H §H 1 (qBox ¢ §H 1 29 ~x0)) fun v1 H1 =>
 doQ (aa ¢ 29 ~v1 0) fun v2 =>
 doQ (ai ¢ ¥H1 5 ~v2) fun v3 =>
 doQ (qBin ¢ .gtr 5 °4 (.const (.int .u8 15)) ~v3 (some (a8 15))) fun v4 =>
 br ~v4 (
 Q (.v (.int .i64 8)) H1) (
 Q (.v (.int .i64 0)) H1)
theorem qM(x0:AV)(H:Heap)(Q:AV→Heap→Prop)(h : ∀g,nE g x0 H Q):GoL env Tryz.f76 0 [.code ny] [(0,x0)] H Q:=⟨fun g=>aU (live:=xw) (cut:=xP) (n:=500) (Eq.mp (by kernel_rfl) (h g))⟩
noncomputable def m9:Code:=(Tryz.f91.body).getD .skip
def sk:Nat→Option (List Nat):=fun i=>none
def sC:Nat→Bool:=fun i=>false
def nc(g:Nat→AV)(x0:AV)(H:Heap)(Q:AV→Heap→Prop):Prop :=
 doW (nRes H §H 1 (qBox ¢ §H 1 31 ~x0)) fun v1 H1 =>
 doQ (aa ¢ 31 ~v1 0) fun v2 =>
 doQ (ai ¢ ¥H1 29 ~v2) fun v3 =>
 doW (©true H1 5 76 [v3]) fun v4 H2 =>
 doQ (qBin ¢ .eql 42 °5 ¤0 ~v4 £0) fun v5 =>
 gQ v5 true (aa ¢ 31 ~v1 1) fun v6 =>
 gQ v5 true (ai ¢ ¥H2 5 ~v6) fun v7 =>
 gQ v5 true (qBin ¢ .lss 5 °9 (.const (.int .u8 8)) ~v7 (some (a8 8))) fun v8 =>
 doQ (bc ~v5 ~v8 ¿) fun v9 =>
 doW (©true H2 12 159 [v9]) fun v10 H3 =>
 Q v10 H3
theorem rS(x0:AV)(H:Heap)(Q:AV→Heap→Prop)(h : ∀g,nc g x0 H Q):GoL env Tryz.f91 0 [.code m9] [(0,x0)] H Q:=⟨fun g=>aU (live:=sk) (cut:=sC) (n:=500) (Eq.mp (by kernel_rfl) (h g))⟩
noncomputable def gJ:Code:=(Tryz.f133.body).getD .skip
noncomputable def eb:List Item:=(bM 4 400 [.code gJ]).getD []
def kj:Nat→Option (List Nat):=fun i=>cond (Nat.beq i 4) (some [5,1,0]) (none)
def kJ:Nat→Bool:=fun i=>false
def gK(g:Nat→AV)(x0 x1:AV)(H:Heap)(Q:AV→Heap→Prop):Prop :=
 doQ (az ¢ false ¥H §H 7 .len #[36] [x0]) fun v1 =>
 doQ (az ¢ false ¥H §H 9 .len #[36] [x1]) fun v2 =>
 doQ (qBin ¢ .neq 3 °7 °9 ~v1 ~v2) fun v3 =>
 br ~v3 (
 Q (.v (.bool false)) H) (
  GoL env Tryz.f133 0 eb [(5,(.v (.int .i64 0))),(1,x1),(0,x0)] H Q)
theorem oJ(x0 x1:AV)(H:Heap)(Q:AV→Heap→Prop)(h : ∀g,gK g x0 x1 H Q):GoL env Tryz.f133 0 [.code gJ] [(0,x0),(1,x1)] H Q:=⟨fun g=>aU (live:=kj) (cut:=kJ) (n:=500) (Eq.mp (by kernel_rfl) (h g))⟩
def ed(g:Nat→AV)(x5 x1 x0:AV)(H:Heap)(Q:AV→Heap→Prop):Prop :=
 doQ (az ¢ false ¥H §H 13 .len #[36] [x0]) fun v1 =>
 doQ (qBin ¢ .lss 3 °11 °13 ~x5 ~v1) fun v2 =>
 br ~v2 (
 doQ (aD ¢ ¥H 36 ~x0 ~x5) fun v3 =>
 doQ (ai ¢ ¥H 21 ~v3) fun v4 =>
 doQ (aD ¢ ¥H 36 ~x1 ~x5) fun v5 =>
 doQ (ai ¢ ¥H 21 ~v5) fun v6 =>
 doQ (qBin ¢ .neq 21 °20 °24 ~v4 ~v6) fun v7 =>
 br ~v7 (
 Q (.v (.bool false)) H) (
 doQ (qBin ¢ .add 3 °15 ¤1 ~x5 £1) fun v8 =>
  GoL env Tryz.f133 0 eb [(5,v8),(1,x1),(0,x0)] H Q)) (
 Q (.v (.bool true)) H)
theorem iY(x5 x1 x0:AV)(H:Heap)(Q:AV→Heap→Prop)(h : ∀g,ed g x5 x1 x0 H Q):GoL env Tryz.f133 0 eb [(5,x5),(1,x1),(0,x0)] H Q:=cW fun g=>aU (live:=kj) (cut:=kJ) (n:=500) (Eq.mp (by kernel_rfl) (h g))
noncomputable def pn:Code:=(Tryz.f135.body).getD .skip
def uN:Nat→Option (List Nat):=fun i=>none
def uU:Nat→Bool:=fun i=>false
def gP(g:Nat→AV)(x0:AV)(H:Heap)(Q:AV→Heap→Prop):Prop :=
 doW (nRes H §H 1 (qBox ¢ §H 1 35 ~x0)) fun v1 H1 =>
 doQ (aa ¢ 35 ~v1 0) fun v2 =>
 doQ (ai ¢ ¥H1 33 ~v2) fun v3 =>
 doW (©true H1 5 182 [v3]) fun v4 H2 =>
 doQ (qBin ¢ .eql 42 °5 ¤0 ~v4 £0) fun v5 =>
 gQ v5 true (aa ¢ 35 ~v1 1) fun v6 =>
 gQ v5 true (ai ¢ ¥H2 3 ~v6) fun v7 =>
 gQ v5 true (qBin ¢ .geq 3 °9 ¤1 ~v7 £1) fun v8 =>
 doQ (bc ~v5 ~v8 ¿) fun v9 =>
 gQ v9 true (aa ¢ 35 ~v1 1) fun v10 =>
 gQ v9 true (ai ¢ ¥H2 3 ~v10) fun v11 =>
 gQ v9 true (qBin ¢ .leq 3 °14 ¤64 ~v11 £64) fun v12 =>
 doQ (bc ~v9 ~v12 ¿) fun v13 =>
 gQ v13 true (aa ¢ 35 ~v1 0) fun v14 =>
 gQ v13 true (aa ¢ 33 ~v14 1) fun v15 =>
 gQ v13 true (ai ¢ ¥H2 3 ~v15) fun v16 =>
 gQ v13 true (aa ¢ 35 ~v1 1) fun v17 =>
 gQ v13 true (ai ¢ ¥H2 3 ~v17) fun v18 =>
 gQ v13 true (qBin ¢ .add 3 °20 °22 ~v16 ~v18) fun v19 =>
 gQ v13 true (qBin ¢ .sub 3 °23 ¤1 ~v19 £1) fun v20 =>
 gQ v13 true (qBin ¢ .leq 3 °24 ¤1099511627776 ~v20 £1099511627776) fun v21 =>
 doQ (bc ~v13 ~v21 ¿) fun v22 =>
 doW (©true H2 27 159 [v22]) fun v23 H3 =>
 Q v23 H3
theorem uI(x0:AV)(H:Heap)(Q:AV→Heap→Prop)(h : ∀g,gP g x0 H Q):GoL env Tryz.f135 0 [.code pn] [(0,x0)] H Q:=⟨fun g=>aU (live:=uN) (cut:=uU) (n:=500) (Eq.mp (by kernel_rfl) (h g))⟩
noncomputable def uj:Code:=(Tryz.f159.body).getD .skip
def AM:Nat→Option (List Nat):=fun i=>none
def A4:Nat→Bool:=fun i=>false
def uw(g:Nat→AV)(x0:AV)(H:Heap)(Q:AV→Heap→Prop):Prop :=
 br ~x0 (
 Q (.v (.int .i64 0)) H) (
 Q (.v (.int .i64 8)) H)
theorem Ad(x0:AV)(H:Heap)(Q:AV→Heap→Prop)(h : ∀g,uw g x0 H Q):GoL env Tryz.f159 0 [.code uj] [(0,x0)] H Q:=⟨fun g=>aU (live:=AM) (cut:=A4) (n:=500) (Eq.mp (by kernel_rfl) (h g))⟩
noncomputable def pk:Code:=(Tryz.f162.body).getD .skip
def uM:Nat→Option (List Nat):=fun i=>none
def uT:Nat→Bool:=fun i=>false
def l4(g:Nat→AV)(x0:AV)(H:Heap)(Q:AV→Heap→Prop):Prop :=
 doW (nRes H §H 1 (qBox ¢ §H 1 31 ~x0)) fun v1 H1 =>
 doQ (ai ¢ ¥H1 31 ~v1) fun v2 =>
 doW (©true H1 6 91 [v2]) fun v3 H2 =>
 doQ (qBin ¢ .neq 42 °7 ¤0 ~v3 £0) fun v4 =>
 br ~v4 (
 Q (.tup [(.v (.slice none 0 0)),v3]) H2) (
 doQ (aa ¢ 31 ~v1 0) fun v5 =>
 doQ (aa ¢ 29 ~v5 0) fun v6 =>
 doQ (ai ¢ ¥H2 5 ~v6) fun v7 =>
 doW (gZ ¢ true false H2 §H2 13 170 1 (some [(0,v7)])) fun v8 H3 =>
 doQ (aa ¢ 31 ~v1 0) fun v9 =>
 doQ (aa ¢ 29 ~v9 1) fun v10 =>
 doQ (ai ¢ ¥H3 27 ~v10) fun v11 =>
 doQ (cz ¢ ¥H3 §H3 17 27 3 ~v11) fun v12 =>
 doW (©false H3 18 207 [v12,(.v (.int .i64 4))]) fun v13 H4 =>
 doW (cO ¢ false H4 §H4 19 (some 170) (some 170) v8 v13) fun v14 H5 =>
 doQ (aa ¢ 31 ~v1 1) fun v15 =>
 doQ (ai ¢ ¥H5 5 ~v15) fun v16 =>
 doW (gZ ¢ true false H5 §H5 22 170 1 (some [(0,v16)])) fun v17 H6 =>
 doW (cO ¢ true H6 §H6 23 (some 170) (some 170) v14 v17) fun v18 H7 =>
 Q (.tup [v18,(.v (.int .i64 0))]) H7)
theorem uH(x0:AV)(H:Heap)(Q:AV→Heap→Prop)(h : ∀g,l4 g x0 H Q):GoL env Tryz.f162 0 [.code pk] [(0,x0)] H Q:=⟨fun g=>aU (live:=uM) (cut:=uT) (n:=500) (Eq.mp (by kernel_rfl) (h g))⟩
noncomputable def q7:Code:=(Tryz.f169.body).getD .skip
def xy:Nat→Option (List Nat):=fun i=>none
def xQ:Nat→Bool:=fun i=>false
def rl(g:Nat→AV)(x0 x1:AV)(H:Heap)(Q:AV→Heap→Prop):Prop :=
 doW (nRes H §H 2 (qBox ¢ §H 2 29 ~x0)) fun v1 H1 =>
 doW (nRes H1 §H1 3 (qBox ¢ §H1 3 29 ~x1)) fun v2 H2 =>
 doQ (aa ¢ 29 ~v2 0) fun v3 =>
 doQ (ai ¢ ¥H2 5 ~v3) fun v4 =>
 doQ (aa ¢ 29 ~v1 1) fun v5 =>
 doQ (ai ¢ ¥H2 27 ~v5) fun v6 =>
 doQ (eB ¢ 29 (some [(0,v4),(1,v6)])) fun v7 =>
 doW (nRes H2 §H2 5 (cF ¢ §H2 5 29)) fun v8 H3 =>
 doW (aV ¢ H3 29 ~v8 ~v7) fun v9 H4 =>
 doQ (aa ¢ 29 ~v1 0) fun v10 =>
 doQ (ai ¢ ¥H4 5 ~v10) fun v11 =>
 doQ (aa ¢ 29 ~v2 0) fun v12 =>
 doQ (ai ¢ ¥H4 5 ~v12) fun v13 =>
 doQ (qBin ¢ .lss 5 °12 °14 ~v11 ~v13) fun v14 =>
 gQ v14 false (ai ¢ ¥H4 29 ~v1) fun v15 =>
 gQ v14 false (ai ¢ ¥H4 29 ~v8) fun v16 =>
 gQ v14 false (qBin ¢ .eql 29 °17 °18 ~v15 ~v16) fun v17 =>
 gQ v14 false (qVal ~v17) fun v18 =>
 gQ v18 true (aa ¢ 29 ~v1 1) fun v19 =>
 gQ v18 true (ai ¢ ¥H4 27 ~v19) fun v20 =>
 gQ v18 true (aa ¢ 29 ~v2 1) fun v21 =>
 gQ v18 true (ai ¢ ¥H4 27 ~v21) fun v22 =>
 gQ v18 true (qBin ¢ .lss 27 °22 °24 ~v20 ~v22) fun v23 =>
 gQ v14 false (bc ~v18 ~v23 ¿) fun v24 =>
 doQ (bc ~v14 ¡ ~v24) fun v25 =>
 Q v25 H4
theorem w8(x0 x1:AV)(H:Heap)(Q:AV→Heap→Prop)(h : ∀g,rl g x0 x1 H Q):GoL env Tryz.f169 0 [.code q7] [(0,x0),(1,x1)] H Q:=⟨fun g=>aU (live:=xy) (cut:=xQ) (n:=500) (Eq.mp (by kernel_rfl) (h g))⟩
noncomputable def gA:Code:=(Tryz.f173.body).getD .skip
def lJ:Nat→Option (List Nat):=fun i=>none
def lN:Nat→Bool:=fun i=>false
def cX(g:Nat→AV)(x0:AV)(H:Heap)(Q:AV→Heap→Prop):Prop :=
 doQ (qBin ¢ .eql 36 °3 (.const (.slice none 0 0)) ~x0 (some (.v (.slice none 0 0)))) fun v1 =>
 br ~v1 (
 Q (.v (.slice none 0 0)) H) (
 doW (gZ ¢ false true H §H 5 36 0 (some [])) fun v2 H1 =>
 doW (cO ¢ true H1 §H1 7 (some 36) (some 36) v2 x0) fun v3 H2 =>
 Q v3 H2)
theorem lF(x0:AV)(H:Heap)(Q:AV→Heap→Prop)(h : ∀g,cX g x0 H Q):GoL env Tryz.f173 0 [.code gA] [(0,x0)] H Q:=⟨fun g=>aU (live:=lJ) (cut:=lN) (n:=500) (Eq.mp (by kernel_rfl) (h g))⟩
noncomputable def fD:Code:=(Tryz.f176.body).getD .skip
def kf:Nat→Option (List Nat):=fun i=>none
def kH:Nat→Bool:=fun i=>false
def fJ(g:Nat→AV)(x0 x1:AV)(H:Heap)(Q:AV→Heap→Prop):Prop :=
 doW (©true H 7 214 [x0,x1]) fun v1 H1 =>
 doQ (qBin ¢ .geq 3 °7 ¤0 ~v1 £0) fun v2 =>
 Q v2 H1
theorem jU(x0 x1:AV)(H:Heap)(Q:AV→Heap→Prop)(h : ∀g,fJ g x0 x1 H Q):GoL env Tryz.f176 0 [.code fD] [(0,x0),(1,x1)] H Q:=⟨fun g=>aU (live:=kf) (cut:=kH) (n:=500) (Eq.mp (by kernel_rfl) (h g))⟩
noncomputable def uo:Code:=(Tryz.f182.body).getD .skip
def AN:Nat→Option (List Nat):=fun i=>none
def A5:Nat→Bool:=fun i=>false
def uy(g:Nat→AV)(x0:AV)(H:Heap)(Q:AV→Heap→Prop):Prop :=
 doW (nRes H §H 1 (qBox ¢ §H 1 33 ~x0)) fun v1 H1 =>
 doQ (aa ¢ 33 ~v1 0) fun v2 =>
 doQ (ai ¢ ¥H1 31 ~v2) fun v3 =>
 doW (©true H1 5 91 [v3]) fun v4 H2 =>
 doQ (qBin ¢ .eql 42 °5 ¤0 ~v4 £0) fun v5 =>
 gQ v5 true (aa ¢ 33 ~v1 1) fun v6 =>
 gQ v5 true (ai ¢ ¥H2 3 ~v6) fun v7 =>
 gQ v5 true (qBin ¢ .geq 3 °9 ¤1 ~v7 £1) fun v8 =>
 doQ (bc ~v5 ~v8 ¿) fun v9 =>
 gQ v9 true (aa ¢ 33 ~v1 1) fun v10 =>
 gQ v9 true (ai ¢ ¥H2 3 ~v10) fun v11 =>
 gQ v9 true (qBin ¢ .leq 3 °14 ¤1099511627776 ~v11 £1099511627776) fun v12 =>
 doQ (bc ~v9 ~v12 ¿) fun v13 =>
 doW (©true H2 17 159 [v13]) fun v14 H3 =>
 Q v14 H3
theorem Ae(x0:AV)(H:Heap)(Q:AV→Heap→Prop)(h : ∀g,uy g x0 H Q):GoL env Tryz.f182 0 [.code uo] [(0,x0)] H Q:=⟨fun g=>aU (live:=AN) (cut:=A5) (n:=500) (Eq.mp (by kernel_rfl) (h g))⟩
noncomputable def nx:Code:=(Tryz.f185.body).getD .skip
def xv:Nat→Option (List Nat):=fun i=>none
def xO:Nat→Bool:=fun i=>false
def nD(g:Nat→AV)(H:Heap)(Q:AV→Heap→Prop):Prop :=
 doW (nRes H §H 0 (cF ¢ §H 0 29)) fun v1 H1 =>
 doQ (eB ¢ 29 (some [])) fun v2 =>
 doW (aV ¢ H1 29 ~v1 ~v2) fun v3 H2 =>
 doQ (dg ¢ H2 v1 29) fun v4 =>
 Q v4 H2
theorem qL(H:Heap)(Q:AV→Heap→Prop)(h : ∀g,nD g  H Q):GoL env Tryz.f185 0 [.code nx] [] H Q:=⟨fun g=>aU (live:=xv) (cut:=xO) (n:=500) (Eq.mp (by kernel_rfl) (h g))⟩
noncomputable def qV:Code:=(Tryz.f187.body).getD .skip
def xj:Nat→Option (List Nat):=fun i=>none
def xH:Nat→Bool:=fun i=>false
def nC(g:Nat→AV)(x0:AV)(H:Heap)(Q:AV→Heap→Prop):Prop :=
 doQ (az ¢ false ¥H §H 6 .len #[36] [x0]) fun v1 =>
 doQ (qBin ¢ .gtr 3 °6 ¤64 ~v1 £64) fun v2 =>
 br ~v2 (
 Q (.v (.int .i64 4)) H) (
 doW (©true H 11 217 [x0,(.fn (.func 215) [] [])]) fun v3 H1 =>
 br ~v3 (
 Q (.v (.int .i64 8)) H1) (
 Q (.v (.int .i64 0)) H1))
theorem wV(x0:AV)(H:Heap)(Q:AV→Heap→Prop)(h : ∀g,nC g x0 H Q):GoL env Tryz.f187 0 [.code qV] [(0,x0)] H Q:=⟨fun g=>aU (live:=xj) (cut:=xH) (n:=500) (Eq.mp (by kernel_rfl) (h g))⟩
noncomputable def md:Code:=(Tryz.f207.body).getD .skip
noncomputable def mC:List Item:=(bM 2 400 [.code md]).getD []
def sj:Nat→Option (List Nat):=fun i=>cond (Nat.beq i 2) (some [5,0,4]) (none)
def sA:Nat→Bool:=fun i=>false
def o5(g:Nat→AV)(x0 x1:AV)(H:Heap)(Q:AV→Heap→Prop):Prop :=
 doQ (qBin ¢ .sub 3 °6 ¤1 ~x1 £1) fun v1 =>
  GoL env Tryz.f207 0 mC [(5,v1),(0,x0),(4,(.v (.slice none 0 0)))] H Q
theorem rR(x0 x1:AV)(H:Heap)(Q:AV→Heap→Prop)(h : ∀g,o5 g x0 x1 H Q):GoL env Tryz.f207 0 [.code md] [(0,x0),(1,x1)] H Q:=⟨fun g=>aU (live:=sj) (cut:=sA) (n:=500) (Eq.mp (by kernel_rfl) (h g))⟩
def bP(g:Nat→AV)(x5 x0 x4:AV)(H:Heap)(Q:AV→Heap→Prop):Prop :=
 doQ (qBin ¢ .geq 3 °8 ¤0 ~x5 £0) fun v1 =>
 br ~v1 (
 doQ (qBin ¢ .mul 3 ¤8 °14 £8 ~x5) fun v2 =>
 doQ (qBin ¢ .shr 3 °13 °15 ~x0 ~v2) fun v3 =>
 doQ (cz ¢ ¥H §H 17 3 5 ~v3) fun v4 =>
 doW (gZ ¢ false true H §H 18 170 1 (some [(0,v4)])) fun v5 H1 =>
 doW (cO ¢ true H1 §H1 19 (some 170) (some 170) x4 v5) fun v6 H2 =>
 doQ (qBin ¢ .sub 3 °10 ¤1 ~x5 £1) fun v7 =>
  GoL env Tryz.f207 0 mC [(5,v7),(0,x0),(4,v6)] H2 Q) (
 Q x4 H)
theorem cb(x5 x0 x4:AV)(H:Heap)(Q:AV→Heap→Prop)(h : ∀g,bP g x5 x0 x4 H Q):GoL env Tryz.f207 0 mC [(5,x5),(0,x0),(4,x4)] H Q:=cW fun g=>aU (live:=sj) (cut:=sA) (n:=500) (Eq.mp (by kernel_rfl) (h g))
noncomputable def yA:Code:=(Tryz.f208.body).getD .skip
def D7:Nat→Option (List Nat):=fun i=>none
def Ev:Nat→Bool:=fun i=>false
def tN(g:Nat→AV)(x0:AV)(H:Heap)(Q:AV→Heap→Prop):Prop :=
 doW (nRes H §H 1 (qBox ¢ §H 1 33 ~x0)) fun v1 H1 =>
 doQ (ai ¢ ¥H1 33 ~v1) fun v2 =>
 doW (©true H1 8 182 [v2]) fun v3 H2 =>
 doQ (qBin ¢ .neq 42 °9 ¤0 ~v3 £0) fun v4 =>
 br ~v4 (
 Q (.tup [(.v (.slice none 0 0)),v3]) H2) (
 doQ (aa ¢ 33 ~v1 0) fun v5 =>
 doQ (ai ¢ ¥H2 31 ~v5) fun v6 =>
 doW (©true H2 15 162 [v6]) fun v7 H3 =>
 doQ (ax ~v7 0) fun v8 =>
 doQ (ax ~v7 1) fun v9 =>
 doQ (aa ¢ 33 ~v1 1) fun v10 =>
 doQ (ai ¢ ¥H3 3 ~v10) fun v11 =>
 doW (©true H3 21 207 [v11,(.v (.int .i64 7))]) fun v12 H4 =>
 doW (cO ¢ true H4 §H4 22 (some 170) (some 170) v8 v12) fun v13 H5 =>
 Q (.tup [v13,v9]) H5)
theorem DE(x0:AV)(H:Heap)(Q:AV→Heap→Prop)(h : ∀g,tN g x0 H Q):GoL env Tryz.f208 0 [.code yA] [(0,x0)] H Q:=⟨fun g=>aU (live:=D7) (cut:=Ev) (n:=500) (Eq.mp (by kernel_rfl) (h g))⟩
noncomputable def pR:Code:=(Tryz.f210.body).getD .skip
noncomputable def lz:List Item:=(bM 6 400 [.code pR]).getD []
def tV:Nat→Option (List Nat):=fun i=>cond (Nat.beq i 6) (some [15,5,13,14]) (none)
def uf:Nat→Bool:=fun i=>false
def p8(g:Nat→AV)(x0:AV)(H:Heap)(Q:AV→Heap→Prop):Prop :=
 doW (©true H 9 187 [x0]) fun v1 H1 =>
 doQ (qBin ¢ .neq 42 °10 ¤0 ~v1 £0) fun v2 =>
 br ~v2 (
 Q (.tup [(.v (.slice none 0 0)),v1]) H1) (
 doQ (az ¢ false ¥H1 §H1 14 .len #[36] [x0]) fun v3 =>
  GoL env Tryz.f210 0 lz [(15,(.v (.int .i64 0))),(5,(.v (.slice none 0 0))),(13,x0),(14,v3)] H1 Q)
theorem z9(x0:AV)(H:Heap)(Q:AV→Heap→Prop)(h : ∀g,p8 g x0 H Q):GoL env Tryz.f210 0 [.code pR] [(0,x0)] H Q:=⟨fun g=>aU (live:=tV) (cut:=uf) (n:=500) (Eq.mp (by kernel_rfl) (h g))⟩
def lA(g:Nat→AV)(x15 x5 x13 x14:AV)(H:Heap)(Q:AV→Heap→Prop):Prop :=
 doQ (qBin ¢ .lss 3 °15 °14 ~x15 ~x14) fun v1 =>
 br ~v1 (
 doQ (aD ¢ ¥H 36 ~x13 ~x15) fun v2 =>
 doQ (ai ¢ ¥H 21 ~v2) fun v3 =>
 doQ (qBin ¢ .shr 21 °20 (.const (.int .u64 24)) ~v3 (some (.v (.int .u64 24)))) fun v4 =>
 doQ (cz ¢ ¥H §H 22 21 5 ~v4) fun v5 =>
 doQ (qBin ¢ .shr 21 °23 (.const (.int .u64 16)) ~v3 (some (.v (.int .u64 16)))) fun v6 =>
 doQ (cz ¢ ¥H §H 25 21 5 ~v6) fun v7 =>
 doQ (qBin ¢ .shr 21 °26 (.const (.int .u64 8)) ~v3 (some (.v (.int .u64 8)))) fun v8 =>
 doQ (cz ¢ ¥H §H 28 21 5 ~v8) fun v9 =>
 doQ (cz ¢ ¥H §H 30 21 5 ~v3) fun v10 =>
 doW (gZ ¢ false true H §H 31 170 4 (some [(0,v5),(1,v7),(2,v9),(3,v10)])) fun v11 H1 =>
 doW (cO ¢ true H1 §H1 32 (some 170) (some 170) x5 v11) fun v12 H2 =>
 doQ (qBin ¢ .add 3 °15 ¤1 ~x15 £1) fun v13 =>
  GoL env Tryz.f210 0 lz [(15,v13),(5,v12),(13,x13),(14,x14)] H2 Q) (
 Q (.tup [x5,(.v (.int .i64 0))]) H)
theorem qK(x15 x5 x13 x14:AV)(H:Heap)(Q:AV→Heap→Prop)(h : ∀g,lA g x15 x5 x13 x14 H Q):GoL env Tryz.f210 0 lz [(15,x15),(5,x5),(13,x13),(14,x14)] H Q:=cW fun g=>aU (live:=tV) (cut:=uf) (n:=500) (Eq.mp (by kernel_rfl) (h g))
noncomputable def ej:Code:=(Tryz.f214.body).getD .skip
noncomputable def cJ:List Item:=(bM 2 400 [.code ej]).getD []
def gq:Nat→Option (List Nat):=fun i=>cond (Nat.beq i 2) (some [8,0,1,7]) (none)
def gx:Nat→Bool:=fun i=>false
def gB(g:Nat→AV)(x0 x1:AV)(H:Heap)(Q:AV→Heap→Prop):Prop :=
 doQ (az ¢ false ¥H §H 7 .len #[36] [x0]) fun v1 =>
  GoL env Tryz.f214 0 cJ [(8,(.v (.int .i64 0))),(0,x0),(1,x1),(7,v1)] H Q
theorem lD(x0 x1:AV)(H:Heap)(Q:AV→Heap→Prop)(h : ∀g,gB g x0 x1 H Q):GoL env Tryz.f214 0 [.code ej] [(0,x0),(1,x1)] H Q:=⟨fun g=>aU (live:=gq) (cut:=gx) (n:=500) (Eq.mp (by kernel_rfl) (h g))⟩
def cL(g:Nat→AV)(x8 x0 x1 x7:AV)(H:Heap)(Q:AV→Heap→Prop):Prop :=
 doQ (qBin ¢ .lss 3 °8 °7 ~x8 ~x7) fun v1 =>
 br ~v1 (
 doQ (aD ¢ ¥H 36 ~x0 ~x8) fun v2 =>
 doQ (ai ¢ ¥H 21 ~v2) fun v3 =>
 doQ (qBin ¢ .eql 21 °11 °15 ~x1 ~v3) fun v4 =>
 br ~v4 (
 Q x8 H) (
 doQ (qBin ¢ .add 3 °8 ¤1 ~x8 £1) fun v5 =>
  GoL env Tryz.f214 0 cJ [(8,v5),(0,x0),(1,x1),(7,x7)] H Q)) (
 Q (.v (.int .i64 (-1))) H)
theorem fQ(x8 x0 x1 x7:AV)(H:Heap)(Q:AV→Heap→Prop)(h : ∀g,cL g x8 x0 x1 x7 H Q):GoL env Tryz.f214 0 cJ [(8,x8),(0,x0),(1,x1),(7,x7)] H Q:=cW fun g=>aU (live:=gq) (cut:=gx) (n:=500) (Eq.mp (by kernel_rfl) (h g))
noncomputable def ph:Code:=(Tryz.f215.body).getD .skip
def uK:Nat→Option (List Nat):=fun i=>none
def uR:Nat→Bool:=fun i=>false
def lZ(g:Nat→AV)(x0:AV)(H:Heap)(Q:AV→Heap→Prop):Prop :=
 doQ (qBin ¢ .neq 21 °3 (.const (.int .i32 (-1))) ~x0 (some (.v (.int .i32 (-1))))) fun v1 =>
 gQ v1 true (qVal ~x0) fun v2 =>
 gW v1 true H (©true H 7 216 [v2]) fun v3 H1 =>
 gQ v1 true (qUn ¢ .not ~v3) fun v4 =>
 doQ (bc ~v1 ~v4 ¿) fun v5 =>
 Q v5 H1
theorem uD(x0:AV)(H:Heap)(Q:AV→Heap→Prop)(h : ∀g,lZ g x0 H Q):GoL env Tryz.f215 0 [.code ph] [(0,x0)] H Q:=⟨fun g=>aU (live:=uK) (cut:=uR) (n:=500) (Eq.mp (by kernel_rfl) (h g))⟩
noncomputable def jj:Code:=(Tryz.f216.body).getD .skip
def np:Nat→Option (List Nat):=fun i=>none
def nw:Nat→Bool:=fun i=>false
def jk(g:Nat→AV)(x0:AV)(H:Heap)(Q:AV→Heap→Prop):Prop :=
 doQ (qBin ¢ .leq 21 (.const (.int .i32 0)) °4 (some (.v (.int .i32 0))) ~x0) fun v1 =>
 gQ v1 true (qVal ~x0) fun v2 =>
 gQ v1 true (qBin ¢ .lss 21 °7 (.const (.int .i32 55296)) ~v2 (some (.v (.int .i32 55296)))) fun v3 =>
 doQ (bc ~v1 ~v3 ¿) fun v4 =>
 br ~v4 (
 Q (.v (.bool true)) H) (
 doQ (qBin ¢ .lss 21 (.const (.int .i32 57343)) °11 (some (.v (.int .i32 57343))) ~x0) fun v5 =>
 gQ v5 true (qVal ~x0) fun v6 =>
 gQ v5 true (qBin ¢ .leq 21 °14 (.const (.int .i32 1114111)) ~v6 (some (.v (.int .i32 1114111)))) fun v7 =>
 doQ (bc ~v5 ~v7 ¿) fun v8 =>
 br ~v8 (
 Q (.v (.bool true)) H) (
 Q (.v (.bool false)) H))
theorem nf(x0:AV)(H:Heap)(Q:AV→Heap→Prop)(h : ∀g,jk g x0 H Q):GoL env Tryz.f216 0 [.code jj] [(0,x0)] H Q:=⟨fun g=>aU (live:=np) (cut:=nw) (n:=500) (Eq.mp (by kernel_rfl) (h g))⟩
noncomputable def eR:Code:=(Tryz.f217.body).getD .skip
def jb:Nat→Option (List Nat):=fun i=>none
def jh:Nat→Bool:=fun i=>false
def eT(g:Nat→AV)(x0 x1:AV)(H:Heap)(Q:AV→Heap→Prop):Prop :=
 doW (©true H 7 229 [x0,x1]) fun v1 H1 =>
 doQ (qBin ¢ .geq 3 °7 ¤0 ~v1 £0) fun v2 =>
 Q v2 H1
theorem iW(x0 x1:AV)(H:Heap)(Q:AV→Heap→Prop)(h : ∀g,eT g x0 x1 H Q):GoL env Tryz.f217 0 [.code eR] [(0,x0),(1,x1)] H Q:=⟨fun g=>aU (live:=jb) (cut:=jh) (n:=500) (Eq.mp (by kernel_rfl) (h g))⟩
noncomputable def ek:Code:=(Tryz.f226.body).getD .skip
noncomputable def cK:List Item:=(bM 4 400 [.code ek]).getD []
def gw:Nat→Option (List Nat):=fun i=>cond (Nat.beq i 4) (some [13,1,0,12]) (none)
def gy:Nat→Bool:=fun i=>false
def eu(g:Nat→AV)(x0 x1:AV)(H:Heap)(Q:AV→Heap→Prop):Prop :=
 doQ (az ¢ false ¥H §H 7 .len #[36] [x0]) fun v1 =>
 doQ (az ¢ false ¥H §H 9 .len #[36] [x1]) fun v2 =>
 doQ (qBin ¢ .neq 3 °7 °9 ~v1 ~v2) fun v3 =>
 br ~v3 (
 Q (.v (.bool false)) H) (
 doQ (az ¢ false ¥H §H 12 .len #[36] [x0]) fun v4 =>
  GoL env Tryz.f226 0 cK [(13,(.v (.int .i64 0))),(1,x1),(0,x0),(12,v4)] H Q)
theorem lE(x0 x1:AV)(H:Heap)(Q:AV→Heap→Prop)(h : ∀g,eu g x0 x1 H Q):GoL env Tryz.f226 0 [.code ek] [(0,x0),(1,x1)] H Q:=⟨fun g=>aU (live:=gw) (cut:=gy) (n:=500) (Eq.mp (by kernel_rfl) (h g))⟩
def cM(g:Nat→AV)(x13 x1 x0 x12:AV)(H:Heap)(Q:AV→Heap→Prop):Prop :=
 doQ (qBin ¢ .lss 3 °13 °12 ~x13 ~x12) fun v1 =>
 br ~v1 (
 doQ (aD ¢ ¥H 36 ~x0 ~x13) fun v2 =>
 doQ (ai ¢ ¥H 21 ~v2) fun v3 =>
 doQ (aD ¢ ¥H 36 ~x1 ~x13) fun v4 =>
 doQ (ai ¢ ¥H 21 ~v4) fun v5 =>
 doQ (qBin ¢ .neq 21 °19 °23 ~v3 ~v5) fun v6 =>
 br ~v6 (
 Q (.v (.bool false)) H) (
 doQ (qBin ¢ .add 3 °13 ¤1 ~x13 £1) fun v7 =>
  GoL env Tryz.f226 0 cK [(13,v7),(1,x1),(0,x0),(12,x12)] H Q)) (
 Q (.v (.bool true)) H)
theorem fR(x13 x1 x0 x12:AV)(H:Heap)(Q:AV→Heap→Prop)(h : ∀g,cM g x13 x1 x0 x12 H Q):GoL env Tryz.f226 0 cK [(13,x13),(1,x1),(0,x0),(12,x12)] H Q:=cW fun g=>aU (live:=gw) (cut:=gy) (n:=500) (Eq.mp (by kernel_rfl) (h g))
noncomputable def Bb:Code:=(Tryz.f228.body).getD .skip
def Gf:Nat→Option (List Nat):=fun i=>none
def GX:Nat→Bool:=fun i=>false
def qj(g:Nat→AV)(x0 x1:AV)(H:Heap)(Q:AV→Heap→Prop):Prop :=
 doW (nRes H §H 2 (qBox ¢ §H 2 35 ~x0)) fun v1 H1 =>
 doW (nRes H1 §H1 4 (cF ¢ §H1 4 33)) fun v2 H2 =>
 doQ (ai ¢ ¥H2 35 ~v1) fun v3 =>
 doW (©true H2 8 135 [v3]) fun v4 H3 =>
 doQ (qBin ¢ .neq 42 °9 ¤0 ~v4 £0) fun v5 =>
 br ~v5 (
 doQ (eB ¢ 33 (some [])) fun v6 =>
 doW (aV ¢ H3 33 ~v2 ~v6) fun v7 H4 =>
 doQ (dg ¢ H4 v2 33) fun v8 =>
 Q (.tup [v8,v4]) H4) (
 doQ (qBin ¢ .lss 3 °13 ¤0 ~x1 £0) fun v6 =>
 gQ v6 false (qVal ~x1) fun v7 =>
 gQ v6 false (aa ¢ 35 ~v1 1) fun v8 =>
 gQ v6 false (ai ¢ ¥H3 3 ~v8) fun v9 =>
 gQ v6 false (qBin ¢ .geq 3 °16 °18 ~v7 ~v9) fun v10 =>
 doQ (bc ~v6 ¡ ~v10) fun v11 =>
 br ~v11 (
 doQ (eB ¢ 33 (some [])) fun v12 =>
 doW (aV ¢ H3 33 ~v2 ~v12) fun v13 H4 =>
 doQ (dg ¢ H4 v2 33) fun v14 =>
 Q (.tup [v14,(.v (.int .i64 2))]) H4) (
 doQ (aa ¢ 35 ~v1 0) fun v12 =>
 doQ (ai ¢ ¥H3 33 ~v12) fun v13 =>
 doW (©true H3 25 239 [v13,x1]) fun v14 H4 =>
 doW (aV ¢ H4 33 ~v2 ~v14) fun v15 H5 =>
 doQ (dg ¢ H5 v2 33) fun v16 =>
 Q (.tup [v16,(.v (.int .i64 0))]) H5))
theorem EN(x0 x1:AV)(H:Heap)(Q:AV→Heap→Prop)(h : ∀g,qj g x0 x1 H Q):GoL env Tryz.f228 0 [.code Bb] [(0,x0),(1,x1)] H Q:=⟨fun g=>aU (live:=Gf) (cut:=GX) (n:=500) (Eq.mp (by kernel_rfl) (h g))⟩
noncomputable def dx:Code:=(Tryz.f229.body).getD .skip
noncomputable def cw:List Item:=(bM 2 400 [.code dx]).getD []
def fx:Nat→Option (List Nat):=fun i=>cond (Nat.beq i 2) (some [8,0,1,7]) (none)
def fC:Nat→Bool:=fun i=>false
def fI(g:Nat→AV)(x0 x1:AV)(H:Heap)(Q:AV→Heap→Prop):Prop :=
 doQ (az ¢ false ¥H §H 7 .len #[36] [x0]) fun v1 =>
  GoL env Tryz.f229 0 cw [(8,(.v (.int .i64 0))),(0,x0),(1,x1),(7,v1)] H Q
theorem jT(x0 x1:AV)(H:Heap)(Q:AV→Heap→Prop)(h : ∀g,fI g x0 x1 H Q):GoL env Tryz.f229 0 [.code dx] [(0,x0),(1,x1)] H Q:=⟨fun g=>aU (live:=fx) (cut:=fC) (n:=500) (Eq.mp (by kernel_rfl) (h g))⟩
def cx(g:Nat→AV)(x8 x0 x1 x7:AV)(H:Heap)(Q:AV→Heap→Prop):Prop :=
 doQ (qBin ¢ .lss 3 °8 °7 ~x8 ~x7) fun v1 =>
 br ~v1 (
 doQ (aD ¢ ¥H 36 ~x0 ~x8) fun v2 =>
 doQ (ai ¢ ¥H 21 ~v2) fun v3 =>
 doW (aG env true (limf env) (limt env 0) H §H 16 ~x1 [v3]) fun v4 H1 =>
 br ~v4 (
 Q x8 H1) (
 doQ (qBin ¢ .add 3 °8 ¤1 ~x8 £1) fun v5 =>
  GoL env Tryz.f229 0 cw [(8,v5),(0,x0),(1,x1),(7,x7)] H1 Q)) (
 Q (.v (.int .i64 (-1))) H)
theorem eW(x8 x0 x1 x7:AV)(H:Heap)(Q:AV→Heap→Prop)(h : ∀g,cx g x8 x0 x1 x7 H Q):GoL env Tryz.f229 0 cw [(8,x8),(0,x0),(1,x1),(7,x7)] H Q:=cW fun g=>aU (live:=fx) (cut:=fC) (n:=500) (Eq.mp (by kernel_rfl) (h g))
noncomputable def mH:Code:=(Tryz.f231.body).getD .skip
def Gd:Nat→Option (List Nat):=fun i=>none
def GV:Nat→Bool:=fun i=>false
def kR(g:Nat→AV)(x0:AV)(H:Heap)(Q:AV→Heap→Prop):Prop :=
 doW (nRes H §H 1 (qBox ¢ §H 1 38 ~x0)) fun v1 H1 =>
 doW (nRes H1 §H1 2 (cF ¢ §H1 2 249)) fun v2 H2 =>
 doQ (ai ¢ ¥H2 38 ~v1) fun v3 =>
 doW (©true H2 7 70 [v3]) fun v4 H3 =>
 doQ (qBin ¢ .neq 42 °8 ¤0 ~v4 £0) fun v5 =>
 br ~v5 (
 doQ (eB ¢ 249 (some [])) fun v6 =>
 doW (aV ¢ H3 249 ~v2 ~v6) fun v7 H4 =>
 doQ (dg ¢ H4 v2 249) fun v8 =>
 Q (.tup [v8,v4]) H4) (
 doQ (aa ¢ 38 ~v1 3) fun v6 =>
 doQ (ai ¢ ¥H3 35 ~v6) fun v7 =>
 doQ (aa ¢ 38 ~v1 4) fun v8 =>
 doQ (ai ¢ ¥H3 33 ~v8) fun v9 =>
 doQ (aa ¢ 38 ~v1 6) fun v10 =>
 doQ (ai ¢ ¥H3 36 ~v10) fun v11 =>
 doW (©false H3 18 173 [v11]) fun v12 H4 =>
 doQ (eB ¢ 249 (some [(0,v7),(1,v9),(2,v12)])) fun v13 =>
 doW (nRes H4 §H4 5 (cF ¢ §H4 5 249)) fun v14 H5 =>
 doW (aV ¢ H5 249 ~v14 ~v13) fun v15 H6 =>
 doQ (aa ¢ 38 ~v1 0) fun v16 =>
 doQ (ai ¢ ¥H6 5 ~v16) fun v17 =>
 doQ (qBin ¢ .neq 5 °21 (.const (.int .u8 1)) ~v17 (some (a8 1))) fun v18 =>
 gQ v18 false (ai ¢ ¥H6 249 ~v14) fun v19 =>
 gW v18 false H6 (©true H6 25 240 [v19]) fun v20 H7 =>
 gQ v18 false (qBin ¢ .neq 42 °25 ¤0 ~v20 £0) fun v21 =>
 doQ (bc ~v18 ¡ ~v21) fun v22 =>
 br ~v22 (
 doQ (eB ¢ 249 (some [])) fun v23 =>
 doW (aV ¢ H7 249 ~v2 ~v23) fun v24 H8 =>
 doQ (dg ¢ H8 v2 249) fun v25 =>
 Q (.tup [v25,(.v (.int .i64 2))]) H8) (
 doQ (ai ¢ ¥H7 249 ~v14) fun v23 =>
 doW (aV ¢ H7 249 ~v2 ~v23) fun v24 H8 =>
 doQ (dg ¢ H8 v2 249) fun v25 =>
 Q (.tup [v25,(.v (.int .i64 0))]) H8))
theorem nI(x0:AV)(H:Heap)(Q:AV→Heap→Prop)(h : ∀g,kR g x0 H Q):GoL env Tryz.f231 0 [.code mH] [(0,x0)] H Q:=⟨fun g=>aU (live:=Gd) (cut:=GV) (n:=500) (Eq.mp (by kernel_rfl) (h g))⟩
noncomputable def wO:Code:=(Tryz.f239.body).getD .skip
def BW:Nat→Option (List Nat):=fun i=>none
def Cl:Nat→Bool:=fun i=>false
def wS(g:Nat→AV)(x0 x1:AV)(H:Heap)(Q:AV→Heap→Prop):Prop :=
 doW (nRes H §H 2 (qBox ¢ §H 2 33 ~x0)) fun v1 H1 =>
 doW (nRes H1 §H1 4 (cF ¢ §H1 4 33)) fun v2 H2 =>
 doQ (aa ¢ 33 ~v1 1) fun v3 =>
 doQ (ai ¢ ¥H2 3 ~v3) fun v4 =>
 doQ (qBin ¢ .add 3 °6 °7 ~v4 ~x1) fun v5 =>
 doQ (aa ¢ 33 ~v1 1) fun v6 =>
 doW (aV ¢ H2 3 ~v6 ~v5) fun v7 H3 =>
 doQ (ai ¢ ¥H3 33 ~v1) fun v8 =>
 doW (aV ¢ H3 33 ~v2 ~v8) fun v9 H4 =>
 doQ (dg ¢ H4 v2 33) fun v10 =>
 Q v10 H4
theorem Bp(x0 x1:AV)(H:Heap)(Q:AV→Heap→Prop)(h : ∀g,wS g x0 x1 H Q):GoL env Tryz.f239 0 [.code wO] [(0,x0),(1,x1)] H Q:=⟨fun g=>aU (live:=BW) (cut:=Cl) (n:=500) (Eq.mp (by kernel_rfl) (h g))⟩
noncomputable def ui:Code:=(Tryz.f240.body).getD .skip
def AK:Nat→Option (List Nat):=fun i=>none
def A2:Nat→Bool:=fun i=>false
def p9(g:Nat→AV)(x0:AV)(H:Heap)(Q:AV→Heap→Prop):Prop :=
 doW (nRes H §H 1 (qBox ¢ §H 1 249 ~x0)) fun v1 H1 =>
 doQ (aa ¢ 249 ~v1 1) fun v2 =>
 doQ (ai ¢ ¥H1 33 ~v2) fun v3 =>
 doQ (eB ¢ 33 (some [])) fun v4 =>
 doQ (qBin ¢ .eql 33 °5 °6 ~v3 ~v4) fun v5 =>
 gQ v5 false (aa ¢ 249 ~v1 1) fun v6 =>
 gQ v5 false (ai ¢ ¥H1 33 ~v6) fun v7 =>
 gW v5 false H1 (©true H1 11 182 [v7]) fun v8 H2 =>
 gQ v5 false (qBin ¢ .eql 42 °11 ¤0 ~v8 £0) fun v9 =>
 gQ v5 false (qVal ~v9) fun v10 =>
 gQ v10 true (aa ¢ 249 ~v1 1) fun v11 =>
 gQ v10 true (aa ¢ 33 ~v11 1) fun v12 =>
 gQ v10 true (ai ¢ ¥H2 3 ~v12) fun v13 =>
 gQ v10 true (aa ¢ 249 ~v1 0) fun v14 =>
 gQ v10 true (aa ¢ 35 ~v14 0) fun v15 =>
 gQ v10 true (aa ¢ 33 ~v15 1) fun v16 =>
 gQ v10 true (ai ¢ ¥H2 3 ~v16) fun v17 =>
 gQ v10 true (qBin ¢ .lss 3 °16 °20 ~v13 ~v17) fun v18 =>
 gQ v5 false (bc ~v10 ~v18 ¿) fun v19 =>
 doQ (bc ~v5 ¡ ~v19) fun v20 =>
 doQ (aa ¢ 249 ~v1 0) fun v21 =>
 doQ (ai ¢ ¥H2 35 ~v21) fun v22 =>
 doW (©true H2 26 135 [v22]) fun v23 H3 =>
 doQ (qBin ¢ .neq 42 °26 ¤0 ~v23 £0) fun v24 =>
 gQ v24 false (qVal ~v20) fun v25 =>
 gQ v24 false (qUn ¢ .not ~v25) fun v26 =>
 doQ (bc ~v24 ¡ ~v26) fun v27 =>
 gQ v27 false (aa ¢ 249 ~v1 2) fun v28 =>
 gQ v27 false (ai ¢ ¥H3 36 ~v28) fun v29 =>
 gQ v27 false (az ¢ false ¥H3 §H3 35 .len #[36] [v29]) fun v30 =>
 gQ v27 false (aa ¢ 249 ~v1 0) fun v31 =>
 gQ v27 false (aa ¢ 35 ~v31 1) fun v32 =>
 gQ v27 false (ai ¢ ¥H3 3 ~v32) fun v33 =>
 gQ v27 false (qBin ¢ .neq 3 °35 °38 ~v30 ~v33) fun v34 =>
 doQ (bc ~v27 ¡ ~v34) fun v35 =>
 gQ v35 false (aa ¢ 249 ~v1 2) fun v36 =>
 gQ v35 false (ai ¢ ¥H3 36 ~v36) fun v37 =>
 gW v35 false H3 (©true H3 44 187 [v37]) fun v38 H4 =>
 gQ v35 false (qBin ¢ .neq 42 °44 ¤0 ~v38 £0) fun v39 =>
 doQ (bc ~v35 ¡ ~v39) fun v40 =>
 br ~v40 (
 Q (.v (.int .i64 8)) H4) (
 Q (.v (.int .i64 0)) H4)
theorem Aa(x0:AV)(H:Heap)(Q:AV→Heap→Prop)(h : ∀g,p9 g x0 H Q):GoL env Tryz.f240 0 [.code ui] [(0,x0)] H Q:=⟨fun g=>aU (live:=AK) (cut:=A2) (n:=500) (Eq.mp (by kernel_rfl) (h g))⟩
noncomputable def yB:Code:=(Tryz.f251.body).getD .skip
def D8:Nat→Option (List Nat):=fun i=>none
def Ew:Nat→Bool:=fun i=>false
def mi(g:Nat→AV)(x0 x1:AV)(H:Heap)(Q:AV→Heap→Prop):Prop :=
 doW (nRes H §H 2 (qBox ¢ §H 2 35 ~x0)) fun v1 H1 =>
 doW (nRes H1 §H1 3 (qBox ¢ §H1 3 33 ~x1)) fun v2 H2 =>
 doQ (aa ¢ 33 ~v2 1) fun v3 =>
 doQ (ai ¢ ¥H2 3 ~v3) fun v4 =>
 doQ (aa ¢ 35 ~v1 0) fun v5 =>
 doQ (aa ¢ 33 ~v5 1) fun v6 =>
 doQ (ai ¢ ¥H2 3 ~v6) fun v7 =>
 doQ (qBin ¢ .sub 3 °8 °11 ~v4 ~v7) fun v8 =>
 doQ (ai ¢ ¥H2 35 ~v1) fun v9 =>
 doW (©false H2 14 135 [v9]) fun v10 H3 =>
 doQ (qBin ¢ .neq 42 °14 ¤0 ~v10 £0) fun v11 =>
 gQ v11 false (qVal ~v8) fun v12 =>
 gQ v11 false (qBin ¢ .lss 3 °17 ¤0 ~v12 £0) fun v13 =>
 doQ (bc ~v11 ¡ ~v13) fun v14 =>
 gQ v14 false (qVal ~v8) fun v15 =>
 gQ v14 false (aa ¢ 35 ~v1 1) fun v16 =>
 gQ v14 false (ai ¢ ¥H3 3 ~v16) fun v17 =>
 gQ v14 false (qBin ¢ .geq 3 °21 °23 ~v15 ~v17) fun v18 =>
 doQ (bc ~v14 ¡ ~v18) fun v19 =>
 gQ v19 false (ai ¢ ¥H3 33 ~v2) fun v20 =>
 gQ v19 false (aa ¢ 35 ~v1 0) fun v21 =>
 gQ v19 false (ai ¢ ¥H3 33 ~v21) fun v22 =>
 gQ v19 false (qVal ~v8) fun v23 =>
 gW v19 false H3 (©false H3 31 239 [v22,v23]) fun v24 H4 =>
 gQ v19 false (qBin ¢ .neq 33 °27 °31 ~v20 ~v24) fun v25 =>
 doQ (bc ~v19 ¡ ~v25) fun v26 =>
 br ~v26 (
 Q (.tup [(.v (.int .i64 0)),(.v (.bool false))]) H4) (
 Q (.tup [v8,(.v (.bool true))]) H4)
theorem DF(x0 x1:AV)(H:Heap)(Q:AV→Heap→Prop)(h : ∀g,mi g x0 x1 H Q):GoL env Tryz.f251 0 [.code yB] [(0,x0),(1,x1)] H Q:=⟨fun g=>aU (live:=D8) (cut:=Ew) (n:=500) (Eq.mp (by kernel_rfl) (h g))⟩
end Go.Proofs.YtmkmimgokagimaaGreat
