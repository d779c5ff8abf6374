/-
  What is to be shown of each function, computed from its code. No statement of a seat is proved here.
-/
import Derived.Test.YtmkmimgokagimaaGreatLeTy
set_option linter.unusedVariables false
set_option maxRecDepth 1000000
namespace Go.Proofs.YtmkmimgokagimaaGreat
open Go.Ab
local notation:max "©" b:max h:max n:max f:max a:max=>aF env b (limf env) (limt env 0) h (Ref.mk 0 n (Heap.gen h 0 n) 0) (some (AV.fn (Fn.func f) [] [])) a
local notation:max "§" h:max n:max=>Ref.mk 0 n (Heap.gen h 0 n) 0
local notation:max "~" a:max=>some a
local notation:max "¥" h:max=>Heap.get h
local notation:max "¤" n:max=>(Operand.const (Value.int IntKind.i64 n))
local notation:max "£" n:max=>some (AV.v (Value.int IntKind.i64 n))
local notation:max "¡" => some (AV.v (Value.bool true))
local notation:max "¿" => some (AV.v (Value.bool false))
local notation:max "°" n:max=>(Operand.tmp n)
local notation:max "¢" => env.P
noncomputable def rL:Code:=(Tryz.f47.body).getD .skip
def Dc:Nat→Option (List Nat):=fun i=>none
def Dz:Nat→Bool:=fun i=>false
def rZ(g:Nat→AV)(x0 x1:AV)(H:Heap)(Q:AV→Heap→Prop):Prop :=
 doW (nRes H §H 2 (qBox ¢ §H 2 29 ~x0)) fun v1 H1 =>
 doW (nRes H1 §H1 3 (qBox ¢ §H1 3 29 ~x1)) fun v2 H2 =>
 doQ (aa ¢ 29 ~v1 0) fun v3 =>
 doQ (ai ¢ ¥H2 5 ~v3) fun v4 =>
 doQ (aa ¢ 29 ~v2 0) fun v5 =>
 doQ (ai ¢ ¥H2 5 ~v5) fun v6 =>
 doQ (qBin ¢ .leq 5 °6 °8 ~v4 ~v6) fun v7 =>
 gQ v7 true (aa ¢ 29 ~v1 1) fun v8 =>
 gQ v7 true (ai ¢ ¥H2 27 ~v8) fun v9 =>
 gQ v7 true (aa ¢ 29 ~v2 1) fun v10 =>
 gQ v7 true (ai ¢ ¥H2 27 ~v10) fun v11 =>
 gQ v7 true (qBin ¢ .andNot 27 °12 °14 ~v9 ~v11) fun v12 =>
 gQ v7 true (qBin ¢ .eql 27 °15 (.const (.int .u32 0)) ~v12 (some (a32 0))) fun v13 =>
 doQ (ba ~v7 ~v13 ¿) fun v14 =>
 Q v14 H2
theorem wG(x0 x1:AV)(H:Heap)(Q:AV→Heap→Prop)(h : ∀g,rZ g x0 x1 H Q):GoL env Tryz.f47 0 [.code rL] [(0,x0),(1,x1)] H Q:=⟨fun g=>aH (live:=Dc) (cut:=Dz) (n:=500) (Eq.mp (by kernel_rfl) (h g))⟩
noncomputable def oY:Code:=(Tryz.f76.body).getD .skip
def Ao:Nat→Option (List Nat):=fun i=>none
def AJ:Nat→Bool:=fun i=>false
def o7(g:Nat→AV)(x0:AV)(H:Heap)(Q:AV→Heap→Prop):Prop :=
 doW (nRes H §H 1 (qBox ¢ §H 1 29 ~x0)) fun v1 H1 =>
 doQ (aa ¢ 29 ~v1 0) fun v2 =>
 doQ (ai ¢ ¥H1 5 ~v2) fun v3 =>
 doQ (qBin ¢ .gtr 5 °4 (.const (.int .u8 15)) ~v3 (some (a8 15))) fun v4 =>
 br ~v4 (
 Q (.v (.int .i64 8)) H1) (
 Q (.v (.int .i64 0)) H1)
theorem sN(x0:AV)(H:Heap)(Q:AV→Heap→Prop)(h : ∀g,o7 g x0 H Q):GoL env Tryz.f76 0 [.code oY] [(0,x0)] H Q:=⟨fun g=>aH (live:=Ao) (cut:=AJ) (n:=500) (Eq.mp (by kernel_rfl) (h g))⟩
noncomputable def oI:Code:=(Tryz.f91.body).getD .skip
def uM:Nat→Option (List Nat):=fun i=>none
def uV:Nat→Bool:=fun i=>false
def oL(g:Nat→AV)(x0:AV)(H:Heap)(Q:AV→Heap→Prop):Prop :=
 doW (nRes H §H 1 (qBox ¢ §H 1 31 ~x0)) fun v1 H1 =>
 doQ (aa ¢ 31 ~v1 0) fun v2 =>
 doQ (ai ¢ ¥H1 29 ~v2) fun v3 =>
 doW (©true H1 5 76 [v3]) fun v4 H2 =>
 doQ (qBin ¢ .eql 42 °5 ¤0 ~v4 £0) fun v5 =>
 gQ v5 true (aa ¢ 31 ~v1 1) fun v6 =>
 gQ v5 true (ai ¢ ¥H2 5 ~v6) fun v7 =>
 gQ v5 true (qBin ¢ .lss 5 °9 (.const (.int .u8 8)) ~v7 (some (a8 8))) fun v8 =>
 doQ (ba ~v5 ~v8 ¿) fun v9 =>
 doW (©true H2 12 159 [v9]) fun v10 H3 =>
 Q v10 H3
theorem ui(x0:AV)(H:Heap)(Q:AV→Heap→Prop)(h : ∀g,oL g x0 H Q):GoL env Tryz.f91 0 [.code oI] [(0,x0)] H Q:=⟨fun g=>aH (live:=uM) (cut:=uV) (n:=500) (Eq.mp (by kernel_rfl) (h g))⟩
noncomputable def iv:Code:=(Tryz.f133.body).getD .skip
noncomputable def eJ:List Item:=(bL 4 400 [.code iv]).getD []
def lD:Nat→Option (List Nat):=fun i=>cond (Nat.beq i 4) (some [5,1,0]) (none)
def lW:Nat→Bool:=fun i=>false
def iw(g:Nat→AV)(x0 x1:AV)(H:Heap)(Q:AV→Heap→Prop):Prop :=
 doQ (ax ¢ false ¥H §H 7 .len #[36] [x0]) fun v1 =>
 doQ (ax ¢ false ¥H §H 9 .len #[36] [x1]) fun v2 =>
 doQ (qBin ¢ .neq 3 °7 °9 ~v1 ~v2) fun v3 =>
 br ~v3 (
 Q (.v (.bool false)) H) (
  GoL env Tryz.f133 0 eJ [(5,(.v (.int .i64 0))),(1,x1),(0,x0)] H Q)
theorem p9(x0 x1:AV)(H:Heap)(Q:AV→Heap→Prop)(h : ∀g,iw g x0 x1 H Q):GoL env Tryz.f133 0 [.code iv] [(0,x0),(1,x1)] H Q:=⟨fun g=>aH (live:=lD) (cut:=lW) (n:=500) (Eq.mp (by kernel_rfl) (h g))⟩
def eL(g:Nat→AV)(x5 x1 x0:AV)(H:Heap)(Q:AV→Heap→Prop):Prop :=
 doQ (ax ¢ false ¥H §H 13 .len #[36] [x0]) fun v1 =>
 doQ (qBin ¢ .lss 3 °11 °13 ~x5 ~v1) fun v2 =>
 br ~v2 (
 doQ (aD ¢ ¥H 36 ~x0 ~x5) fun v3 =>
 doQ (ai ¢ ¥H 21 ~v3) fun v4 =>
 doQ (aD ¢ ¥H 36 ~x1 ~x5) fun v5 =>
 doQ (ai ¢ ¥H 21 ~v5) fun v6 =>
 doQ (qBin ¢ .neq 21 °20 °24 ~v4 ~v6) fun v7 =>
 br ~v7 (
 Q (.v (.bool false)) H) (
 doQ (qBin ¢ .add 3 °15 ¤1 ~x5 £1) fun v8 =>
  GoL env Tryz.f133 0 eJ [(5,v8),(1,x1),(0,x0)] H Q)) (
 Q (.v (.bool true)) H)
theorem jV(x5 x1 x0:AV)(H:Heap)(Q:AV→Heap→Prop)(h : ∀g,eL g x5 x1 x0 H Q):GoL env Tryz.f133 0 eJ [(5,x5),(1,x1),(0,x0)] H Q:=cU fun g=>aH (live:=lD) (cut:=lW) (n:=500) (Eq.mp (by kernel_rfl) (h g))
noncomputable def qQ:Code:=(Tryz.f135.body).getD .skip
def xB:Nat→Option (List Nat):=fun i=>none
def xI:Nat→Bool:=fun i=>false
def iA(g:Nat→AV)(x0:AV)(H:Heap)(Q:AV→Heap→Prop):Prop :=
 doW (nRes H §H 1 (qBox ¢ §H 1 35 ~x0)) fun v1 H1 =>
 doQ (aa ¢ 35 ~v1 0) fun v2 =>
 doQ (ai ¢ ¥H1 33 ~v2) fun v3 =>
 doW (©true H1 5 182 [v3]) fun v4 H2 =>
 doQ (qBin ¢ .eql 42 °5 ¤0 ~v4 £0) fun v5 =>
 gQ v5 true (aa ¢ 35 ~v1 1) fun v6 =>
 gQ v5 true (ai ¢ ¥H2 3 ~v6) fun v7 =>
 gQ v5 true (qBin ¢ .geq 3 °9 ¤1 ~v7 £1) fun v8 =>
 doQ (ba ~v5 ~v8 ¿) fun v9 =>
 gQ v9 true (aa ¢ 35 ~v1 1) fun v10 =>
 gQ v9 true (ai ¢ ¥H2 3 ~v10) fun v11 =>
 gQ v9 true (qBin ¢ .leq 3 °14 ¤64 ~v11 £64) fun v12 =>
 doQ (ba ~v9 ~v12 ¿) fun v13 =>
 gQ v13 true (aa ¢ 35 ~v1 0) fun v14 =>
 gQ v13 true (aa ¢ 33 ~v14 1) fun v15 =>
 gQ v13 true (ai ¢ ¥H2 3 ~v15) fun v16 =>
 gQ v13 true (aa ¢ 35 ~v1 1) fun v17 =>
 gQ v13 true (ai ¢ ¥H2 3 ~v17) fun v18 =>
 gQ v13 true (qBin ¢ .add 3 °20 °22 ~v16 ~v18) fun v19 =>
 gQ v13 true (qBin ¢ .sub 3 °23 ¤1 ~v19 £1) fun v20 =>
 gQ v13 true (qBin ¢ .leq 3 °24 ¤1099511627776 ~v20 £1099511627776) fun v21 =>
 doQ (ba ~v13 ~v21 ¿) fun v22 =>
 doW (©true H2 27 159 [v22]) fun v23 H3 =>
 Q v23 H3
theorem xt(x0:AV)(H:Heap)(Q:AV→Heap→Prop)(h : ∀g,iA g x0 H Q):GoL env Tryz.f135 0 [.code qQ] [(0,x0)] H Q:=⟨fun g=>aH (live:=xB) (cut:=xI) (n:=500) (Eq.mp (by kernel_rfl) (h g))⟩
noncomputable def wY:Code:=(Tryz.f159.body).getD .skip
def Dd:Nat→Option (List Nat):=fun i=>none
def DA:Nat→Bool:=fun i=>false
def xc(g:Nat→AV)(x0:AV)(H:Heap)(Q:AV→Heap→Prop):Prop :=
 br ~x0 (
 Q (.v (.int .i64 0)) H) (
 Q (.v (.int .i64 8)) H)
theorem CC(x0:AV)(H:Heap)(Q:AV→Heap→Prop)(h : ∀g,xc g x0 H Q):GoL env Tryz.f159 0 [.code wY] [(0,x0)] H Q:=⟨fun g=>aH (live:=Dd) (cut:=DA) (n:=500) (Eq.mp (by kernel_rfl) (h g))⟩
noncomputable def qP:Code:=(Tryz.f162.body).getD .skip
def xA:Nat→Option (List Nat):=fun i=>none
def xH:Nat→Bool:=fun i=>false
def nd(g:Nat→AV)(x0:AV)(H:Heap)(Q:AV→Heap→Prop):Prop :=
 doW (nRes H §H 1 (qBox ¢ §H 1 31 ~x0)) fun v1 H1 =>
 doQ (ai ¢ ¥H1 31 ~v1) fun v2 =>
 doW (©true H1 6 91 [v2]) fun v3 H2 =>
 doQ (qBin ¢ .neq 42 °7 ¤0 ~v3 £0) fun v4 =>
 br ~v4 (
 Q (.tup [(.v (.slice none 0 0)),v3]) H2) (
 doQ (aa ¢ 31 ~v1 0) fun v5 =>
 doQ (aa ¢ 29 ~v5 0) fun v6 =>
 doQ (ai ¢ ¥H2 5 ~v6) fun v7 =>
 doW (iI ¢ true false H2 §H2 13 170 1 (some [(0,v7)])) fun v8 H3 =>
 doQ (aa ¢ 31 ~v1 0) fun v9 =>
 doQ (aa ¢ 29 ~v9 1) fun v10 =>
 doQ (ai ¢ ¥H3 27 ~v10) fun v11 =>
 doQ (cT ¢ ¥H3 §H3 17 27 3 ~v11) fun v12 =>
 doW (©false H3 18 207 [v12,(.v (.int .i64 4))]) fun v13 H4 =>
 doW (dq ¢ false H4 §H4 19 (some 170) (some 170) v8 v13) fun v14 H5 =>
 doQ (aa ¢ 31 ~v1 1) fun v15 =>
 doQ (ai ¢ ¥H5 5 ~v15) fun v16 =>
 doW (iI ¢ true false H5 §H5 22 170 1 (some [(0,v16)])) fun v17 H6 =>
 doW (dq ¢ true H6 §H6 23 (some 170) (some 170) v14 v17) fun v18 H7 =>
 Q (.tup [v18,(.v (.int .i64 0))]) H7)
theorem xp(x0:AV)(H:Heap)(Q:AV→Heap→Prop)(h : ∀g,nd g x0 H Q):GoL env Tryz.f162 0 [.code qP] [(0,x0)] H Q:=⟨fun g=>aH (live:=xA) (cut:=xH) (n:=500) (Eq.mp (by kernel_rfl) (h g))⟩
noncomputable def tf:Code:=(Tryz.f169.body).getD .skip
def Ap:Nat→Option (List Nat):=fun i=>none
def AK:Nat→Bool:=fun i=>false
def tw(g:Nat→AV)(x0 x1:AV)(H:Heap)(Q:AV→Heap→Prop):Prop :=
 doW (nRes H §H 2 (qBox ¢ §H 2 29 ~x0)) fun v1 H1 =>
 doW (nRes H1 §H1 3 (qBox ¢ §H1 3 29 ~x1)) fun v2 H2 =>
 doQ (aa ¢ 29 ~v2 0) fun v3 =>
 doQ (ai ¢ ¥H2 5 ~v3) fun v4 =>
 doQ (aa ¢ 29 ~v1 1) fun v5 =>
 doQ (ai ¢ ¥H2 27 ~v5) fun v6 =>
 doQ (ff ¢ 29 (some [(0,v4),(1,v6)])) fun v7 =>
 doW (nRes H2 §H2 5 (bJ ¢ §H2 5 29)) fun v8 H3 =>
 doW (aE ¢ H3 29 ~v8 ~v7) fun v9 H4 =>
 doQ (aa ¢ 29 ~v1 0) fun v10 =>
 doQ (ai ¢ ¥H4 5 ~v10) fun v11 =>
 doQ (aa ¢ 29 ~v2 0) fun v12 =>
 doQ (ai ¢ ¥H4 5 ~v12) fun v13 =>
 doQ (qBin ¢ .lss 5 °12 °14 ~v11 ~v13) fun v14 =>
 gQ v14 false (ai ¢ ¥H4 29 ~v1) fun v15 =>
 gQ v14 false (ai ¢ ¥H4 29 ~v8) fun v16 =>
 gQ v14 false (qBin ¢ .eql 29 °17 °18 ~v15 ~v16) fun v17 =>
 gQ v14 false (qVal ~v17) fun v18 =>
 gQ v18 true (aa ¢ 29 ~v1 1) fun v19 =>
 gQ v18 true (ai ¢ ¥H4 27 ~v19) fun v20 =>
 gQ v18 true (aa ¢ 29 ~v2 1) fun v21 =>
 gQ v18 true (ai ¢ ¥H4 27 ~v21) fun v22 =>
 gQ v18 true (qBin ¢ .lss 27 °22 °24 ~v20 ~v22) fun v23 =>
 gQ v14 false (ba ~v18 ~v23 ¿) fun v24 =>
 doQ (ba ~v14 ¡ ~v24) fun v25 =>
 Q v25 H4
theorem z7(x0 x1:AV)(H:Heap)(Q:AV→Heap→Prop)(h : ∀g,tw g x0 x1 H Q):GoL env Tryz.f169 0 [.code tf] [(0,x0),(1,x1)] H Q:=⟨fun g=>aH (live:=Ap) (cut:=AK) (n:=500) (Eq.mp (by kernel_rfl) (h g))⟩
noncomputable def ib:Code:=(Tryz.f173.body).getD .skip
def mT:Nat→Option (List Nat):=fun i=>none
def mY:Nat→Bool:=fun i=>false
def dx(g:Nat→AV)(x0:AV)(H:Heap)(Q:AV→Heap→Prop):Prop :=
 doQ (qBin ¢ .eql 36 °3 (.const (.slice none 0 0)) ~x0 (some (.v (.slice none 0 0)))) fun v1 =>
 br ~v1 (
 Q (.v (.slice none 0 0)) H) (
 doW (iI ¢ false true H §H 5 36 0 (some [])) fun v2 H1 =>
 doW (dq ¢ true H1 §H1 7 (some 36) (some 36) v2 x0) fun v3 H2 =>
 Q v3 H2)
theorem mM(x0:AV)(H:Heap)(Q:AV→Heap→Prop)(h : ∀g,dx g x0 H Q):GoL env Tryz.f173 0 [.code ib] [(0,x0)] H Q:=⟨fun g=>aH (live:=mT) (cut:=mY) (n:=500) (Eq.mp (by kernel_rfl) (h g))⟩
noncomputable def gm:Code:=(Tryz.f176.body).getD .skip
def lB:Nat→Option (List Nat):=fun i=>none
def lU:Nat→Bool:=fun i=>false
def gz(g:Nat→AV)(x0 x1:AV)(H:Heap)(Q:AV→Heap→Prop):Prop :=
 doW (©true H 7 214 [x0,x1]) fun v1 H1 =>
 doQ (qBin ¢ .geq 3 °7 ¤0 ~v1 £0) fun v2 =>
 Q v2 H1
theorem lf(x0 x1:AV)(H:Heap)(Q:AV→Heap→Prop)(h : ∀g,gz g x0 x1 H Q):GoL env Tryz.f176 0 [.code gm] [(0,x0),(1,x1)] H Q:=⟨fun g=>aH (live:=lB) (cut:=lU) (n:=500) (Eq.mp (by kernel_rfl) (h g))⟩
noncomputable def wZ:Code:=(Tryz.f182.body).getD .skip
def De:Nat→Option (List Nat):=fun i=>none
def DB:Nat→Bool:=fun i=>false
def xd(g:Nat→AV)(x0:AV)(H:Heap)(Q:AV→Heap→Prop):Prop :=
 doW (nRes H §H 1 (qBox ¢ §H 1 33 ~x0)) fun v1 H1 =>
 doQ (aa ¢ 33 ~v1 0) fun v2 =>
 doQ (ai ¢ ¥H1 31 ~v2) fun v3 =>
 doW (©true H1 5 91 [v3]) fun v4 H2 =>
 doQ (qBin ¢ .eql 42 °5 ¤0 ~v4 £0) fun v5 =>
 gQ v5 true (aa ¢ 33 ~v1 1) fun v6 =>
 gQ v5 true (ai ¢ ¥H2 3 ~v6) fun v7 =>
 gQ v5 true (qBin ¢ .geq 3 °9 ¤1 ~v7 £1) fun v8 =>
 doQ (ba ~v5 ~v8 ¿) fun v9 =>
 gQ v9 true (aa ¢ 33 ~v1 1) fun v10 =>
 gQ v9 true (ai ¢ ¥H2 3 ~v10) fun v11 =>
 gQ v9 true (qBin ¢ .leq 3 °14 ¤1099511627776 ~v11 £1099511627776) fun v12 =>
 doQ (ba ~v9 ~v12 ¿) fun v13 =>
 doW (©true H2 17 159 [v13]) fun v14 H3 =>
 Q v14 H3
theorem CD(x0:AV)(H:Heap)(Q:AV→Heap→Prop)(h : ∀g,xd g x0 H Q):GoL env Tryz.f182 0 [.code wZ] [(0,x0)] H Q:=⟨fun g=>aH (live:=De) (cut:=DB) (n:=500) (Eq.mp (by kernel_rfl) (h g))⟩
noncomputable def oX:Code:=(Tryz.f185.body).getD .skip
def An:Nat→Option (List Nat):=fun i=>none
def AI:Nat→Bool:=fun i=>false
def o6(g:Nat→AV)(H:Heap)(Q:AV→Heap→Prop):Prop :=
 doW (nRes H §H 0 (bJ ¢ §H 0 29)) fun v1 H1 =>
 doQ (ff ¢ 29 (some [])) fun v2 =>
 doW (aE ¢ H1 29 ~v1 ~v2) fun v3 H2 =>
 doQ (bK ¢ H2 v1 29) fun v4 =>
 Q v4 H2
theorem sM(H:Heap)(Q:AV→Heap→Prop)(h : ∀g,o6 g  H Q):GoL env Tryz.f185 0 [.code oX] [] H Q:=⟨fun g=>aH (live:=An) (cut:=AI) (n:=500) (Eq.mp (by kernel_rfl) (h g))⟩
noncomputable def sW:Code:=(Tryz.f187.body).getD .skip
def Ae:Nat→Option (List Nat):=fun i=>none
def Ay:Nat→Bool:=fun i=>false
def o5(g:Nat→AV)(x0:AV)(H:Heap)(Q:AV→Heap→Prop):Prop :=
 doQ (ax ¢ false ¥H §H 6 .len #[36] [x0]) fun v1 =>
 doQ (qBin ¢ .gtr 3 °6 ¤64 ~v1 £64) fun v2 =>
 br ~v2 (
 Q (.v (.int .i64 4)) H) (
 doW (©true H 11 217 [x0,(.fn (.func 215) [] [])]) fun v3 H1 =>
 br ~v3 (
 Q (.v (.int .i64 8)) H1) (
 Q (.v (.int .i64 0)) H1))
theorem zR(x0:AV)(H:Heap)(Q:AV→Heap→Prop)(h : ∀g,o5 g x0 H Q):GoL env Tryz.f187 0 [.code sW] [(0,x0)] H Q:=⟨fun g=>aH (live:=Ae) (cut:=Ay) (n:=500) (Eq.mp (by kernel_rfl) (h g))⟩
noncomputable def nj:Code:=(Tryz.f207.body).getD .skip
noncomputable def nK:List Item:=(bL 2 400 [.code nj]).getD []
def uL:Nat→Option (List Nat):=fun i=>cond (Nat.beq i 2) (some [5,0,4]) (none)
def uU:Nat→Bool:=fun i=>false
def qy(g:Nat→AV)(x0 x1:AV)(H:Heap)(Q:AV→Heap→Prop):Prop :=
 doQ (qBin ¢ .sub 3 °6 ¤1 ~x1 £1) fun v1 =>
  GoL env Tryz.f207 0 nK [(5,v1),(0,x0),(4,(.v (.slice none 0 0)))] H Q
theorem uh(x0 x1:AV)(H:Heap)(Q:AV→Heap→Prop)(h : ∀g,qy g x0 x1 H Q):GoL env Tryz.f207 0 [.code nj] [(0,x0),(1,x1)] H Q:=⟨fun g=>aH (live:=uL) (cut:=uU) (n:=500) (Eq.mp (by kernel_rfl) (h g))⟩
def bX(g:Nat→AV)(x5 x0 x4:AV)(H:Heap)(Q:AV→Heap→Prop):Prop :=
 doQ (qBin ¢ .geq 3 °8 ¤0 ~x5 £0) fun v1 =>
 br ~v1 (
 doQ (qBin ¢ .mul 3 ¤8 °14 £8 ~x5) fun v2 =>
 doQ (qBin ¢ .shr 3 °13 °15 ~x0 ~v2) fun v3 =>
 doQ (cT ¢ ¥H §H 17 3 5 ~v3) fun v4 =>
 doW (iI ¢ false true H §H 18 170 1 (some [(0,v4)])) fun v5 H1 =>
 doW (dq ¢ true H1 §H1 19 (some 170) (some 170) x4 v5) fun v6 H2 =>
 doQ (qBin ¢ .sub 3 °10 ¤1 ~x5 £1) fun v7 =>
  GoL env Tryz.f207 0 nK [(5,v7),(0,x0),(4,v6)] H2 Q) (
 Q x4 H)
theorem cD(x5 x0 x4:AV)(H:Heap)(Q:AV→Heap→Prop)(h : ∀g,bX g x5 x0 x4 H Q):GoL env Tryz.f207 0 nK [(5,x5),(0,x0),(4,x4)] H Q:=cU fun g=>aH (live:=uL) (cut:=uU) (n:=500) (Eq.mp (by kernel_rfl) (h g))
noncomputable def Bh:Code:=(Tryz.f208.body).getD .skip
def GZ:Nat→Option (List Nat):=fun i=>none
def Hj:Nat→Bool:=fun i=>false
def wF(g:Nat→AV)(x0:AV)(H:Heap)(Q:AV→Heap→Prop):Prop :=
 doW (nRes H §H 1 (qBox ¢ §H 1 33 ~x0)) fun v1 H1 =>
 doQ (ai ¢ ¥H1 33 ~v1) fun v2 =>
 doW (©true H1 8 182 [v2]) fun v3 H2 =>
 doQ (qBin ¢ .neq 42 °9 ¤0 ~v3 £0) fun v4 =>
 br ~v4 (
 Q (.tup [(.v (.slice none 0 0)),v3]) H2) (
 doQ (aa ¢ 33 ~v1 0) fun v5 =>
 doQ (ai ¢ ¥H2 31 ~v5) fun v6 =>
 doW (©true H2 15 162 [v6]) fun v7 H3 =>
 doQ (ao ~v7 0) fun v8 =>
 doQ (ao ~v7 1) fun v9 =>
 doQ (aa ¢ 33 ~v1 1) fun v10 =>
 doQ (ai ¢ ¥H3 3 ~v10) fun v11 =>
 doW (©true H3 21 207 [v11,(.v (.int .i64 7))]) fun v12 H4 =>
 doW (dq ¢ true H4 §H4 22 (some 170) (some 170) v8 v12) fun v13 H5 =>
 Q (.tup [v13,v9]) H5)
theorem Gr(x0:AV)(H:Heap)(Q:AV→Heap→Prop)(h : ∀g,wF g x0 H Q):GoL env Tryz.f208 0 [.code Bh] [(0,x0)] H Q:=⟨fun g=>aH (live:=GZ) (cut:=Hj) (n:=500) (Eq.mp (by kernel_rfl) (h g))⟩
noncomputable def rD:Code:=(Tryz.f210.body).getD .skip
noncomputable def mF:List Item:=(bL 6 400 [.code rD]).getD []
def wM:Nat→Option (List Nat):=fun i=>cond (Nat.beq i 6) (some [15,5,13,14]) (none)
def wT:Nat→Bool:=fun i=>false
def rR(g:Nat→AV)(x0:AV)(H:Heap)(Q:AV→Heap→Prop):Prop :=
 doW (©true H 9 187 [x0]) fun v1 H1 =>
 doQ (qBin ¢ .neq 42 °10 ¤0 ~v1 £0) fun v2 =>
 br ~v2 (
 Q (.tup [(.v (.slice none 0 0)),v1]) H1) (
 doQ (ax ¢ false ¥H1 §H1 14 .len #[36] [x0]) fun v3 =>
  GoL env Tryz.f210 0 mF [(15,(.v (.int .i64 0))),(5,(.v (.slice none 0 0))),(13,x0),(14,v3)] H1 Q)
theorem Cz(x0:AV)(H:Heap)(Q:AV→Heap→Prop)(h : ∀g,rR g x0 H Q):GoL env Tryz.f210 0 [.code rD] [(0,x0)] H Q:=⟨fun g=>aH (live:=wM) (cut:=wT) (n:=500) (Eq.mp (by kernel_rfl) (h g))⟩
def mH(g:Nat→AV)(x15 x5 x13 x14:AV)(H:Heap)(Q:AV→Heap→Prop):Prop :=
 doQ (qBin ¢ .lss 3 °15 °14 ~x15 ~x14) fun v1 =>
 br ~v1 (
 doQ (aD ¢ ¥H 36 ~x13 ~x15) fun v2 =>
 doQ (ai ¢ ¥H 21 ~v2) fun v3 =>
 doQ (qBin ¢ .shr 21 °20 (.const (.int .u64 24)) ~v3 (some (.v (.int .u64 24)))) fun v4 =>
 doQ (cT ¢ ¥H §H 22 21 5 ~v4) fun v5 =>
 doQ (qBin ¢ .shr 21 °23 (.const (.int .u64 16)) ~v3 (some (.v (.int .u64 16)))) fun v6 =>
 doQ (cT ¢ ¥H §H 25 21 5 ~v6) fun v7 =>
 doQ (qBin ¢ .shr 21 °26 (.const (.int .u64 8)) ~v3 (some (.v (.int .u64 8)))) fun v8 =>
 doQ (cT ¢ ¥H §H 28 21 5 ~v8) fun v9 =>
 doQ (cT ¢ ¥H §H 30 21 5 ~v3) fun v10 =>
 doW (iI ¢ false true H §H 31 170 4 (some [(0,v5),(1,v7),(2,v9),(3,v10)])) fun v11 H1 =>
 doW (dq ¢ true H1 §H1 32 (some 170) (some 170) x5 v11) fun v12 H2 =>
 doQ (qBin ¢ .add 3 °15 ¤1 ~x15 £1) fun v13 =>
  GoL env Tryz.f210 0 mF [(15,v13),(5,v12),(13,x13),(14,x14)] H2 Q) (
 Q (.tup [x5,(.v (.int .i64 0))]) H)
theorem sL(x15 x5 x13 x14:AV)(H:Heap)(Q:AV→Heap→Prop)(h : ∀g,mH g x15 x5 x13 x14 H Q):GoL env Tryz.f210 0 mF [(15,x15),(5,x5),(13,x13),(14,x14)] H Q:=cU fun g=>aH (live:=wM) (cut:=wT) (n:=500) (Eq.mp (by kernel_rfl) (h g))
noncomputable def eP:Code:=(Tryz.f214.body).getD .skip
noncomputable def db:List Item:=(bL 2 400 [.code eP]).getD []
def hU:Nat→Option (List Nat):=fun i=>cond (Nat.beq i 2) (some [8,0,1,7]) (none)
def hY:Nat→Bool:=fun i=>false
def ig(g:Nat→AV)(x0 x1:AV)(H:Heap)(Q:AV→Heap→Prop):Prop :=
 doQ (ax ¢ false ¥H §H 7 .len #[36] [x0]) fun v1 =>
  GoL env Tryz.f214 0 db [(8,(.v (.int .i64 0))),(0,x0),(1,x1),(7,v1)] H Q
theorem mK(x0 x1:AV)(H:Heap)(Q:AV→Heap→Prop)(h : ∀g,ig g x0 x1 H Q):GoL env Tryz.f214 0 [.code eP] [(0,x0),(1,x1)] H Q:=⟨fun g=>aH (live:=hU) (cut:=hY) (n:=500) (Eq.mp (by kernel_rfl) (h g))⟩
def de(g:Nat→AV)(x8 x0 x1 x7:AV)(H:Heap)(Q:AV→Heap→Prop):Prop :=
 doQ (qBin ¢ .lss 3 °8 °7 ~x8 ~x7) fun v1 =>
 br ~v1 (
 doQ (aD ¢ ¥H 36 ~x0 ~x8) fun v2 =>
 doQ (ai ¢ ¥H 21 ~v2) fun v3 =>
 doQ (qBin ¢ .eql 21 °11 °15 ~x1 ~v3) fun v4 =>
 br ~v4 (
 Q x8 H) (
 doQ (qBin ¢ .add 3 °8 ¤1 ~x8 £1) fun v5 =>
  GoL env Tryz.f214 0 db [(8,v5),(0,x0),(1,x1),(7,x7)] H Q)) (
 Q (.v (.int .i64 (-1))) H)
theorem gG(x8 x0 x1 x7:AV)(H:Heap)(Q:AV→Heap→Prop)(h : ∀g,de g x8 x0 x1 x7 H Q):GoL env Tryz.f214 0 db [(8,x8),(0,x0),(1,x1),(7,x7)] H Q:=cU fun g=>aH (live:=hU) (cut:=hY) (n:=500) (Eq.mp (by kernel_rfl) (h g))
noncomputable def qM:Code:=(Tryz.f215.body).getD .skip
def xw:Nat→Option (List Nat):=fun i=>none
def xE:Nat→Bool:=fun i=>false
def nc(g:Nat→AV)(x0:AV)(H:Heap)(Q:AV→Heap→Prop):Prop :=
 doQ (qBin ¢ .neq 21 °3 (.const (.int .i32 (-1))) ~x0 (some (.v (.int .i32 (-1))))) fun v1 =>
 gQ v1 true (qVal ~x0) fun v2 =>
 gW v1 true H (©true H 7 216 [v2]) fun v3 H1 =>
 gQ v1 true (qUn ¢ .not ~v3) fun v4 =>
 doQ (ba ~v1 ~v4 ¿) fun v5 =>
 Q v5 H1
theorem xi(x0:AV)(H:Heap)(Q:AV→Heap→Prop)(h : ∀g,nc g x0 H Q):GoL env Tryz.f215 0 [.code qM] [(0,x0)] H Q:=⟨fun g=>aH (live:=xw) (cut:=xE) (n:=500) (Eq.mp (by kernel_rfl) (h g))⟩
noncomputable def kq:Code:=(Tryz.f216.body).getD .skip
def oS:Nat→Option (List Nat):=fun i=>none
def oW:Nat→Bool:=fun i=>false
def kr(g:Nat→AV)(x0:AV)(H:Heap)(Q:AV→Heap→Prop):Prop :=
 doQ (qBin ¢ .leq 21 (.const (.int .i32 0)) °4 (some (.v (.int .i32 0))) ~x0) fun v1 =>
 gQ v1 true (qVal ~x0) fun v2 =>
 gQ v1 true (qBin ¢ .lss 21 °7 (.const (.int .i32 55296)) ~v2 (some (.v (.int .i32 55296)))) fun v3 =>
 doQ (ba ~v1 ~v3 ¿) fun v4 =>
 br ~v4 (
 Q (.v (.bool true)) H) (
 doQ (qBin ¢ .lss 21 (.const (.int .i32 57343)) °11 (some (.v (.int .i32 57343))) ~x0) fun v5 =>
 gQ v5 true (qVal ~x0) fun v6 =>
 gQ v5 true (qBin ¢ .leq 21 °14 (.const (.int .i32 1114111)) ~v6 (some (.v (.int .i32 1114111)))) fun v7 =>
 doQ (ba ~v5 ~v7 ¿) fun v8 =>
 br ~v8 (
 Q (.v (.bool true)) H) (
 Q (.v (.bool false)) H))
theorem oN(x0:AV)(H:Heap)(Q:AV→Heap→Prop)(h : ∀g,kr g x0 H Q):GoL env Tryz.f216 0 [.code kq] [(0,x0)] H Q:=⟨fun g=>aH (live:=oS) (cut:=oW) (n:=500) (Eq.mp (by kernel_rfl) (h g))⟩
noncomputable def fB:Code:=(Tryz.f217.body).getD .skip
def jZ:Nat→Option (List Nat):=fun i=>none
def kn:Nat→Bool:=fun i=>false
def fE(g:Nat→AV)(x0 x1:AV)(H:Heap)(Q:AV→Heap→Prop):Prop :=
 doW (©true H 7 229 [x0,x1]) fun v1 H1 =>
 doQ (qBin ¢ .geq 3 °7 ¤0 ~v1 £0) fun v2 =>
 Q v2 H1
theorem jS(x0 x1:AV)(H:Heap)(Q:AV→Heap→Prop)(h : ∀g,fE g x0 x1 H Q):GoL env Tryz.f217 0 [.code fB] [(0,x0),(1,x1)] H Q:=⟨fun g=>aH (live:=jZ) (cut:=kn) (n:=500) (Eq.mp (by kernel_rfl) (h g))⟩
noncomputable def eQ:Code:=(Tryz.f226.body).getD .skip
noncomputable def dc:List Item:=(bL 4 400 [.code eQ]).getD []
def hX:Nat→Option (List Nat):=fun i=>cond (Nat.beq i 4) (some [13,1,0,12]) (none)
def hZ:Nat→Bool:=fun i=>false
def eT(g:Nat→AV)(x0 x1:AV)(H:Heap)(Q:AV→Heap→Prop):Prop :=
 doQ (ax ¢ false ¥H §H 7 .len #[36] [x0]) fun v1 =>
 doQ (ax ¢ false ¥H §H 9 .len #[36] [x1]) fun v2 =>
 doQ (qBin ¢ .neq 3 °7 °9 ~v1 ~v2) fun v3 =>
 br ~v3 (
 Q (.v (.bool false)) H) (
 doQ (ax ¢ false ¥H §H 12 .len #[36] [x0]) fun v4 =>
  GoL env Tryz.f226 0 dc [(13,(.v (.int .i64 0))),(1,x1),(0,x0),(12,v4)] H Q)
theorem mL(x0 x1:AV)(H:Heap)(Q:AV→Heap→Prop)(h : ∀g,eT g x0 x1 H Q):GoL env Tryz.f226 0 [.code eQ] [(0,x0),(1,x1)] H Q:=⟨fun g=>aH (live:=hX) (cut:=hZ) (n:=500) (Eq.mp (by kernel_rfl) (h g))⟩
def df(g:Nat→AV)(x13 x1 x0 x12:AV)(H:Heap)(Q:AV→Heap→Prop):Prop :=
 doQ (qBin ¢ .lss 3 °13 °12 ~x13 ~x12) fun v1 =>
 br ~v1 (
 doQ (aD ¢ ¥H 36 ~x0 ~x13) fun v2 =>
 doQ (ai ¢ ¥H 21 ~v2) fun v3 =>
 doQ (aD ¢ ¥H 36 ~x1 ~x13) fun v4 =>
 doQ (ai ¢ ¥H 21 ~v4) fun v5 =>
 doQ (qBin ¢ .neq 21 °19 °23 ~v3 ~v5) fun v6 =>
 br ~v6 (
 Q (.v (.bool false)) H) (
 doQ (qBin ¢ .add 3 °13 ¤1 ~x13 £1) fun v7 =>
  GoL env Tryz.f226 0 dc [(13,v7),(1,x1),(0,x0),(12,x12)] H Q)) (
 Q (.v (.bool true)) H)
theorem gH(x13 x1 x0 x12:AV)(H:Heap)(Q:AV→Heap→Prop)(h : ∀g,df g x13 x1 x0 x12 H Q):GoL env Tryz.f226 0 dc [(13,x13),(1,x1),(0,x0),(12,x12)] H Q:=cU fun g=>aH (live:=hX) (cut:=hZ) (n:=500) (Eq.mp (by kernel_rfl) (h g))
noncomputable def DI:Code:=(Tryz.f228.body).getD .skip
def Jg:Nat→Option (List Nat):=fun i=>none
def JX:Nat→Bool:=fun i=>false
def sa(g:Nat→AV)(x0 x1:AV)(H:Heap)(Q:AV→Heap→Prop):Prop :=
 doW (nRes H §H 2 (qBox ¢ §H 2 35 ~x0)) fun v1 H1 =>
 doW (nRes H1 §H1 4 (bJ ¢ §H1 4 33)) fun v2 H2 =>
 doQ (ai ¢ ¥H2 35 ~v1) fun v3 =>
 doW (©true H2 8 135 [v3]) fun v4 H3 =>
 doQ (qBin ¢ .neq 42 °9 ¤0 ~v4 £0) fun v5 =>
 br ~v5 (
 doQ (ff ¢ 33 (some [])) fun v6 =>
 doW (aE ¢ H3 33 ~v2 ~v6) fun v7 H4 =>
 doQ (bK ¢ H4 v2 33) fun v8 =>
 Q (.tup [v8,v4]) H4) (
 doQ (qBin ¢ .lss 3 °13 ¤0 ~x1 £0) fun v6 =>
 gQ v6 false (qVal ~x1) fun v7 =>
 gQ v6 false (aa ¢ 35 ~v1 1) fun v8 =>
 gQ v6 false (ai ¢ ¥H3 3 ~v8) fun v9 =>
 gQ v6 false (qBin ¢ .geq 3 °16 °18 ~v7 ~v9) fun v10 =>
 doQ (ba ~v6 ¡ ~v10) fun v11 =>
 br ~v11 (
 doQ (ff ¢ 33 (some [])) fun v12 =>
 doW (aE ¢ H3 33 ~v2 ~v12) fun v13 H4 =>
 doQ (bK ¢ H4 v2 33) fun v14 =>
 Q (.tup [v14,(.v (.int .i64 2))]) H4) (
 doQ (aa ¢ 35 ~v1 0) fun v12 =>
 doQ (ai ¢ ¥H3 33 ~v12) fun v13 =>
 doW (©true H3 25 239 [v13,x1]) fun v14 H4 =>
 doW (aE ¢ H4 33 ~v2 ~v14) fun v15 H5 =>
 doQ (bK ¢ H5 v2 33) fun v16 =>
 Q (.tup [v16,(.v (.int .i64 0))]) H5))
theorem HC(x0 x1:AV)(H:Heap)(Q:AV→Heap→Prop)(h : ∀g,sa g x0 x1 H Q):GoL env Tryz.f228 0 [.code DI] [(0,x0),(1,x1)] H Q:=⟨fun g=>aH (live:=Jg) (cut:=JX) (n:=500) (Eq.mp (by kernel_rfl) (h g))⟩
noncomputable def dO:Code:=(Tryz.f229.body).getD .skip
noncomputable def cP:List Item:=(bL 2 400 [.code dO]).getD []
def gf:Nat→Option (List Nat):=fun i=>cond (Nat.beq i 2) (some [8,0,1,7]) (none)
def gl:Nat→Bool:=fun i=>false
def gy(g:Nat→AV)(x0 x1:AV)(H:Heap)(Q:AV→Heap→Prop):Prop :=
 doQ (ax ¢ false ¥H §H 7 .len #[36] [x0]) fun v1 =>
  GoL env Tryz.f229 0 cP [(8,(.v (.int .i64 0))),(0,x0),(1,x1),(7,v1)] H Q
theorem ld(x0 x1:AV)(H:Heap)(Q:AV→Heap→Prop)(h : ∀g,gy g x0 x1 H Q):GoL env Tryz.f229 0 [.code dO] [(0,x0),(1,x1)] H Q:=⟨fun g=>aH (live:=gf) (cut:=gl) (n:=500) (Eq.mp (by kernel_rfl) (h g))⟩
def cQ(g:Nat→AV)(x8 x0 x1 x7:AV)(H:Heap)(Q:AV→Heap→Prop):Prop :=
 doQ (qBin ¢ .lss 3 °8 °7 ~x8 ~x7) fun v1 =>
 br ~v1 (
 doQ (aD ¢ ¥H 36 ~x0 ~x8) fun v2 =>
 doQ (ai ¢ ¥H 21 ~v2) fun v3 =>
 doW (aF env true (limf env) (limt env 0) H §H 16 ~x1 [v3]) fun v4 H1 =>
 br ~v4 (
 Q x8 H1) (
 doQ (qBin ¢ .add 3 °8 ¤1 ~x8 £1) fun v5 =>
  GoL env Tryz.f229 0 cP [(8,v5),(0,x0),(1,x1),(7,x7)] H1 Q)) (
 Q (.v (.int .i64 (-1))) H)
theorem fI(x8 x0 x1 x7:AV)(H:Heap)(Q:AV→Heap→Prop)(h : ∀g,cQ g x8 x0 x1 x7 H Q):GoL env Tryz.f229 0 cP [(8,x8),(0,x0),(1,x1),(7,x7)] H Q:=cU fun g=>aH (live:=gf) (cut:=gl) (n:=500) (Eq.mp (by kernel_rfl) (h g))
noncomputable def nQ:Code:=(Tryz.f231.body).getD .skip
def Je:Nat→Option (List Nat):=fun i=>none
def JV:Nat→Bool:=fun i=>false
def mc(g:Nat→AV)(x0:AV)(H:Heap)(Q:AV→Heap→Prop):Prop :=
 doW (nRes H §H 1 (qBox ¢ §H 1 38 ~x0)) fun v1 H1 =>
 doW (nRes H1 §H1 2 (bJ ¢ §H1 2 249)) fun v2 H2 =>
 doQ (ai ¢ ¥H2 38 ~v1) fun v3 =>
 doW (©true H2 7 70 [v3]) fun v4 H3 =>
 doQ (qBin ¢ .neq 42 °8 ¤0 ~v4 £0) fun v5 =>
 br ~v5 (
 doQ (ff ¢ 249 (some [])) fun v6 =>
 doW (aE ¢ H3 249 ~v2 ~v6) fun v7 H4 =>
 doQ (bK ¢ H4 v2 249) fun v8 =>
 Q (.tup [v8,v4]) H4) (
 doQ (aa ¢ 38 ~v1 3) fun v6 =>
 doQ (ai ¢ ¥H3 35 ~v6) fun v7 =>
 doQ (aa ¢ 38 ~v1 4) fun v8 =>
 doQ (ai ¢ ¥H3 33 ~v8) fun v9 =>
 doQ (aa ¢ 38 ~v1 6) fun v10 =>
 doQ (ai ¢ ¥H3 36 ~v10) fun v11 =>
 doW (©false H3 18 173 [v11]) fun v12 H4 =>
 doQ (ff ¢ 249 (some [(0,v7),(1,v9),(2,v12)])) fun v13 =>
 doW (nRes H4 §H4 5 (bJ ¢ §H4 5 249)) fun v14 H5 =>
 doW (aE ¢ H5 249 ~v14 ~v13) fun v15 H6 =>
 doQ (aa ¢ 38 ~v1 0) fun v16 =>
 doQ (ai ¢ ¥H6 5 ~v16) fun v17 =>
 doQ (qBin ¢ .neq 5 °21 (.const (.int .u8 1)) ~v17 (some (a8 1))) fun v18 =>
 gQ v18 false (ai ¢ ¥H6 249 ~v14) fun v19 =>
 gW v18 false H6 (©true H6 25 240 [v19]) fun v20 H7 =>
 gQ v18 false (qBin ¢ .neq 42 °25 ¤0 ~v20 £0) fun v21 =>
 doQ (ba ~v18 ¡ ~v21) fun v22 =>
 br ~v22 (
 doQ (ff ¢ 249 (some [])) fun v23 =>
 doW (aE ¢ H7 249 ~v2 ~v23) fun v24 H8 =>
 doQ (bK ¢ H8 v2 249) fun v25 =>
 Q (.tup [v25,(.v (.int .i64 2))]) H8) (
 doQ (ai ¢ ¥H7 249 ~v14) fun v23 =>
 doW (aE ¢ H7 249 ~v2 ~v23) fun v24 H8 =>
 doQ (bK ¢ H8 v2 249) fun v25 =>
 Q (.tup [v25,(.v (.int .i64 0))]) H8))
theorem pb(x0:AV)(H:Heap)(Q:AV→Heap→Prop)(h : ∀g,mc g x0 H Q):GoL env Tryz.f231 0 [.code nQ] [(0,x0)] H Q:=⟨fun g=>aH (live:=Je) (cut:=JV) (n:=500) (Eq.mp (by kernel_rfl) (h g))⟩
noncomputable def zI:Code:=(Tryz.f239.body).getD .skip
def Ew:Nat→Option (List Nat):=fun i=>none
def E0:Nat→Bool:=fun i=>false
def zN(g:Nat→AV)(x0 x1:AV)(H:Heap)(Q:AV→Heap→Prop):Prop :=
 doW (nRes H §H 2 (qBox ¢ §H 2 33 ~x0)) fun v1 H1 =>
 doW (nRes H1 §H1 4 (bJ ¢ §H1 4 33)) fun v2 H2 =>
 doQ (aa ¢ 33 ~v1 1) fun v3 =>
 doQ (ai ¢ ¥H2 3 ~v3) fun v4 =>
 doQ (qBin ¢ .add 3 °6 °7 ~v4 ~x1) fun v5 =>
 doQ (aa ¢ 33 ~v1 1) fun v6 =>
 doW (aE ¢ H2 3 ~v6 ~v5) fun v7 H3 =>
 doQ (ai ¢ ¥H3 33 ~v1) fun v8 =>
 doW (aE ¢ H3 33 ~v2 ~v8) fun v9 H4 =>
 doQ (bK ¢ H4 v2 33) fun v10 =>
 Q v10 H4
theorem DW(x0 x1:AV)(H:Heap)(Q:AV→Heap→Prop)(h : ∀g,zN g x0 x1 H Q):GoL env Tryz.f239 0 [.code zI] [(0,x0),(1,x1)] H Q:=⟨fun g=>aH (live:=Ew) (cut:=E0) (n:=500) (Eq.mp (by kernel_rfl) (h g))⟩
noncomputable def wX:Code:=(Tryz.f240.body).getD .skip
def Db:Nat→Option (List Nat):=fun i=>none
def Dy:Nat→Bool:=fun i=>false
def rS(g:Nat→AV)(x0:AV)(H:Heap)(Q:AV→Heap→Prop):Prop :=
 doW (nRes H §H 1 (qBox ¢ §H 1 249 ~x0)) fun v1 H1 =>
 doQ (aa ¢ 249 ~v1 1) fun v2 =>
 doQ (ai ¢ ¥H1 33 ~v2) fun v3 =>
 doQ (ff ¢ 33 (some [])) fun v4 =>
 doQ (qBin ¢ .eql 33 °5 °6 ~v3 ~v4) fun v5 =>
 gQ v5 false (aa ¢ 249 ~v1 1) fun v6 =>
 gQ v5 false (ai ¢ ¥H1 33 ~v6) fun v7 =>
 gW v5 false H1 (©true H1 11 182 [v7]) fun v8 H2 =>
 gQ v5 false (qBin ¢ .eql 42 °11 ¤0 ~v8 £0) fun v9 =>
 gQ v5 false (qVal ~v9) fun v10 =>
 gQ v10 true (aa ¢ 249 ~v1 1) fun v11 =>
 gQ v10 true (aa ¢ 33 ~v11 1) fun v12 =>
 gQ v10 true (ai ¢ ¥H2 3 ~v12) fun v13 =>
 gQ v10 true (aa ¢ 249 ~v1 0) fun v14 =>
 gQ v10 true (aa ¢ 35 ~v14 0) fun v15 =>
 gQ v10 true (aa ¢ 33 ~v15 1) fun v16 =>
 gQ v10 true (ai ¢ ¥H2 3 ~v16) fun v17 =>
 gQ v10 true (qBin ¢ .lss 3 °16 °20 ~v13 ~v17) fun v18 =>
 gQ v5 false (ba ~v10 ~v18 ¿) fun v19 =>
 doQ (ba ~v5 ¡ ~v19) fun v20 =>
 doQ (aa ¢ 249 ~v1 0) fun v21 =>
 doQ (ai ¢ ¥H2 35 ~v21) fun v22 =>
 doW (©true H2 26 135 [v22]) fun v23 H3 =>
 doQ (qBin ¢ .neq 42 °26 ¤0 ~v23 £0) fun v24 =>
 gQ v24 false (qVal ~v20) fun v25 =>
 gQ v24 false (qUn ¢ .not ~v25) fun v26 =>
 doQ (ba ~v24 ¡ ~v26) fun v27 =>
 gQ v27 false (aa ¢ 249 ~v1 2) fun v28 =>
 gQ v27 false (ai ¢ ¥H3 36 ~v28) fun v29 =>
 gQ v27 false (ax ¢ false ¥H3 §H3 35 .len #[36] [v29]) fun v30 =>
 gQ v27 false (aa ¢ 249 ~v1 0) fun v31 =>
 gQ v27 false (aa ¢ 35 ~v31 1) fun v32 =>
 gQ v27 false (ai ¢ ¥H3 3 ~v32) fun v33 =>
 gQ v27 false (qBin ¢ .neq 3 °35 °38 ~v30 ~v33) fun v34 =>
 doQ (ba ~v27 ¡ ~v34) fun v35 =>
 gQ v35 false (aa ¢ 249 ~v1 2) fun v36 =>
 gQ v35 false (ai ¢ ¥H3 36 ~v36) fun v37 =>
 gW v35 false H3 (©true H3 44 187 [v37]) fun v38 H4 =>
 gQ v35 false (qBin ¢ .neq 42 °44 ¤0 ~v38 £0) fun v39 =>
 doQ (ba ~v35 ¡ ~v39) fun v40 =>
 br ~v40 (
 Q (.v (.int .i64 8)) H4) (
 Q (.v (.int .i64 0)) H4)
theorem CA(x0:AV)(H:Heap)(Q:AV→Heap→Prop)(h : ∀g,rS g x0 H Q):GoL env Tryz.f240 0 [.code wX] [(0,x0)] H Q:=⟨fun g=>aH (live:=Db) (cut:=Dy) (n:=500) (Eq.mp (by kernel_rfl) (h g))⟩
noncomputable def Bi:Code:=(Tryz.f251.body).getD .skip
def G0:Nat→Option (List Nat):=fun i=>none
def Hk:Nat→Bool:=fun i=>false
def nx(g:Nat→AV)(x0 x1:AV)(H:Heap)(Q:AV→Heap→Prop):Prop :=
 doW (nRes H §H 2 (qBox ¢ §H 2 35 ~x0)) fun v1 H1 =>
 doW (nRes H1 §H1 3 (qBox ¢ §H1 3 33 ~x1)) fun v2 H2 =>
 doQ (aa ¢ 33 ~v2 1) fun v3 =>
 doQ (ai ¢ ¥H2 3 ~v3) fun v4 =>
 doQ (aa ¢ 35 ~v1 0) fun v5 =>
 doQ (aa ¢ 33 ~v5 1) fun v6 =>
 doQ (ai ¢ ¥H2 3 ~v6) fun v7 =>
 doQ (qBin ¢ .sub 3 °8 °11 ~v4 ~v7) fun v8 =>
 doQ (ai ¢ ¥H2 35 ~v1) fun v9 =>
 doW (©false H2 14 135 [v9]) fun v10 H3 =>
 doQ (qBin ¢ .neq 42 °14 ¤0 ~v10 £0) fun v11 =>
 gQ v11 false (qVal ~v8) fun v12 =>
 gQ v11 false (qBin ¢ .lss 3 °17 ¤0 ~v12 £0) fun v13 =>
 doQ (ba ~v11 ¡ ~v13) fun v14 =>
 gQ v14 false (qVal ~v8) fun v15 =>
 gQ v14 false (aa ¢ 35 ~v1 1) fun v16 =>
 gQ v14 false (ai ¢ ¥H3 3 ~v16) fun v17 =>
 gQ v14 false (qBin ¢ .geq 3 °21 °23 ~v15 ~v17) fun v18 =>
 doQ (ba ~v14 ¡ ~v18) fun v19 =>
 gQ v19 false (ai ¢ ¥H3 33 ~v2) fun v20 =>
 gQ v19 false (aa ¢ 35 ~v1 0) fun v21 =>
 gQ v19 false (ai ¢ ¥H3 33 ~v21) fun v22 =>
 gQ v19 false (qVal ~v8) fun v23 =>
 gW v19 false H3 (©false H3 31 239 [v22,v23]) fun v24 H4 =>
 gQ v19 false (qBin ¢ .neq 33 °27 °31 ~v20 ~v24) fun v25 =>
 doQ (ba ~v19 ¡ ~v25) fun v26 =>
 br ~v26 (
 Q (.tup [(.v (.int .i64 0)),(.v (.bool false))]) H4) (
 Q (.tup [v8,(.v (.bool true))]) H4)
theorem Gs(x0 x1:AV)(H:Heap)(Q:AV→Heap→Prop)(h : ∀g,nx g x0 x1 H Q):GoL env Tryz.f251 0 [.code Bi] [(0,x0),(1,x1)] H Q:=⟨fun g=>aH (live:=G0) (cut:=Hk) (n:=500) (Eq.mp (by kernel_rfl) (h g))⟩
end Go.Proofs.YtmkmimgokagimaaGreat
