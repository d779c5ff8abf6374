/-
  What is to be shown of each function, computed from its code. No statement of a seat is proved here.
-/
import Derived.Test.YtdbiffjdomokfaaGreatAuTy
set_option linter.unusedVariables false
set_option maxRecDepth 1000000
namespace Go.Proofs.YtdbiffjdomokfaaGreat
open Go.Ab
local notation:max "©" b:max h:max n:max f:max a:max=>bn env b (bj env) (bU env 0) h (Ref.mk 0 n (ab.gen h 0 n) 0) (some (AV.fn (Fn.func f) [] [])) a
local notation:max "§" h:max n:max=>Ref.mk 0 n (ab.gen h 0 n) 0
local notation:max "~" a:max=>some a
local notation:max "¥" h:max=>ab.get h
local notation:max "¤" n:max=>(Operand.const (Value.int IntKind.i64 n))
local notation:max "£" n:max=>some (AV.v (Value.int IntKind.i64 n))
local notation:max "¡" => some (AV.v (Value.bool true))
local notation:max "¿" => some (AV.v (Value.bool false))
local notation:max "°" n:max=>(Operand.tmp n)
local notation:max "¢" => env.P
noncomputable def mA:Code:=(Tryz.f25.body).getD .skip
def rH:Nat→Option (List Nat):=fun i=>none
def rN:Nat→Bool:=fun i=>false
def mD(g:Nat→AV)(x0:AV)(H:ab)(Q:AV→ab→Prop):Prop :=
 aO (bl H §H 1 (cB ¢ §H 1 29 ~x0)) fun v1 H1 =>
 ak (aa ¢ 29 ~v1 0) fun v2 =>
 ak (aj ¢ ¥H1 26 ~v2) fun v3 =>
 ak (aK ¢ false ¥H1 §H1 5 .len #[26] [v3]) fun v4 =>
 ak (aE ¢ .gtr 3 °5 ¤100 ~v4 £100) fun v5 =>
 gQ v5 false (aa ¢ 29 ~v1 1) fun v6 =>
 gQ v5 false (aj ¢ ¥H1 27 ~v6) fun v7 =>
 gQ v5 false (aK ¢ false ¥H1 §H1 10 .len #[27] [v7]) fun v8 =>
 gQ v5 false (aE ¢ .gtr 3 °10 ¤100 ~v8 £100) fun v9 =>
 ak (bp ~v5 ¡ ~v9) fun v10 =>
 Q v10 H1
theorem rC(x0:AV)(H:ab)(Q:AV→ab→Prop)(h : ∀g,mD g x0 H Q):bP env Tryz.f25 0 [.code mA] [(0,x0)] H Q:=⟨fun g=>aV (live:=rH) (cut:=rN) (n:=500) (Eq.mp (by kernel_rfl) (h g))⟩
noncomputable def kJ:Code:=(Tryz.f41.body).getD .skip
noncomputable def kX:List Item:=(bY 3 400 [.code kJ]).getD []
noncomputable def kW:List Item:=(bY 8 400 [.code kJ]).getD []
noncomputable def ko:List Item:=(bY 14 400 [.code kJ]).getD []
def mF:Nat→Option (List Nat):=fun i=>cond (Nat.beq i 3) (some [27,3,25,1,26]) (cond (Nat.beq i 8) (some [40,1,3,38,39]) (cond (Nat.beq i 14) (some [87,8,85,1,3,86]) (none)))
def mH:Nat→Bool:=fun i=>false
def ud(g:Nat→AV)(x0:AV)(H:ab)(Q:AV→ab→Prop):Prop :=
 aO (bl H §H 1 (cB ¢ §H 1 29 ~x0)) fun v1 H1 =>
 ak (aa ¢ 29 ~v1 0) fun v2 =>
 ak (aj ¢ ¥H1 26 ~v2) fun v3 =>
 ak (aK ¢ false ¥H1 §H1 13 .len #[26] [v3]) fun v4 =>
 ak (aE ¢ .leq 3 °13 ¤8 ~v4 £8) fun v5 =>
 ak (aa ¢ 29 ~v1 1) fun v6 =>
 ak (aj ¢ ¥H1 27 ~v6) fun v7 =>
 ak (aK ¢ false ¥H1 §H1 17 .len #[27] [v7]) fun v8 =>
 ak (aE ¢ .leq 3 °17 ¤8 ~v8 £8) fun v9 =>
 ak (aa ¢ 29 ~v1 2) fun v10 =>
 ak (aj ¢ ¥H1 3 ~v10) fun v11 =>
 aO (©false H1 21 65 [v11,(.v (.int .i64 64))]) fun v12 H2 =>
 aO (eX ¢ true false H2 §H2 22 148 3 (some [(0,v5),(1,v9),(2,v12)])) fun v13 H3 =>
 aO (©false H3 23 64 [v13]) fun v14 H4 =>
 ak (aa ¢ 29 ~v1 0) fun v15 =>
 ak (aj ¢ ¥H4 26 ~v15) fun v16 =>
 ak (aK ¢ false ¥H4 §H4 26 .len #[26] [v16]) fun v17 =>
  bP env Tryz.f41 0 kX [(27,(.v (.int .i64 0))),(3,v14),(25,v16),(1,v1),(26,v17)] H4 Q
theorem Av(x0:AV)(H:ab)(Q:AV→ab→Prop)(h : ∀g,ud g x0 H Q):bP env Tryz.f41 0 [.code kJ] [(0,x0)] H Q:=⟨fun g=>aV (live:=mF) (cut:=mH) (n:=500) (Eq.mp (by kernel_rfl) (h g))⟩
def nV(g:Nat→AV)(x27 x3 x25 x1 x26:AV)(H:ab)(Q:AV→ab→Prop):Prop :=
 ak (aE ¢ .lss 3 °27 °26 ~x27 ~x26) fun v1 =>
 br ~v1 (
 ak (aH ¢ ¥H 26 ~x25 ~x27) fun v2 =>
 ak (aj ¢ ¥H 52 ~v2) fun v3 =>
 aO (bl H §H 5 (bX ¢ §H 5 52)) fun v4 H1 =>
 aO (aW ¢ H1 52 ~v4 ~v3) fun v5 H2 =>
 gQ x3 true (aj ¢ ¥H2 52 ~v4) fun v6 =>
 gW x3 true H2 (©true H2 34 66 [v6]) fun v7 H3 =>
 ak (bp ~x3 ~v7 ¿) fun v8 =>
 ak (aE ¢ .add 3 °27 ¤1 ~x27 £1) fun v9 =>
  bP env Tryz.f41 0 kX [(27,v9),(3,v8),(25,x25),(1,x1),(26,x26)] H3 Q) (
 ak (aa ¢ 29 ~x1 1) fun v2 =>
 ak (aj ¢ ¥H 27 ~v2) fun v3 =>
 ak (aK ¢ false ¥H §H 39 .len #[27] [v3]) fun v4 =>
  bP env Tryz.f41 0 kW [(40,(.v (.int .i64 0))),(1,x1),(3,x3),(38,v3),(39,v4)] H Q)
theorem qG(x27 x3 x25 x1 x26:AV)(H:ab)(Q:AV→ab→Prop)(h : ∀g,nV g x27 x3 x25 x1 x26 H Q):bP env Tryz.f41 0 kX [(27,x27),(3,x3),(25,x25),(1,x1),(26,x26)] H Q:=cU fun g=>aV (live:=mF) (cut:=mH) (n:=500) (Eq.mp (by kernel_rfl) (h g))
def gK(g:Nat→AV)(x40 x1 x3 x38 x39:AV)(H:ab)(Q:AV→ab→Prop):Prop :=
 ak (aE ¢ .lss 3 °40 °39 ~x40 ~x39) fun v1 =>
 br ~v1 (
 ak (aH ¢ ¥H 27 ~x38 ~x40) fun v2 =>
 ak (aj ¢ ¥H 76 ~v2) fun v3 =>
 aO (bl H §H 7 (bX ¢ §H 7 76)) fun v4 H1 =>
 aO (aW ¢ H1 76 ~v4 ~v3) fun v5 H2 =>
 gQ x3 true (aa ¢ 76 ~v4 0) fun v6 =>
 gQ x3 true (aj ¢ ¥H2 35 ~v6) fun v7 =>
 gW x3 true H2 (©false H2 49 33 [v7]) fun v8 H3 =>
 gQ x3 true (aE ¢ .eql 23 °49 ¤0 ~v8 £0) fun v9 =>
 gQ x3 true (aa ¢ 76 ~v4 1) fun v10 =>
 gQ x3 true (aj ¢ ¥H3 3 ~v10) fun v11 =>
 gW x3 true H3 (©false H3 53 65 [v11,(.v (.int .i64 64))]) fun v12 H4 =>
 gQ x3 true (aa ¢ 76 ~v4 2) fun v13 =>
 gQ x3 true (aj ¢ ¥H4 3 ~v13) fun v14 =>
 gW x3 true H4 (©false H4 56 65 [v14,(.v (.int .i64 256))]) fun v15 H5 =>
 gQ x3 true (aa ¢ 76 ~v4 3) fun v16 =>
 gQ x3 true (aj ¢ ¥H5 3 ~v16) fun v17 =>
 gW x3 true H5 (©false H5 59 65 [v17,(.v (.int .i64 4096))]) fun v18 H6 =>
 gQ x3 true (cf ~x40) fun v19 =>
 gQ x3 true (aE ¢ .eql 3 °60 ¤0 ~v19 £0) fun v20 =>
 gQ x3 true (cf ~v20) fun v21 =>
 gQ v21 false (aa ¢ 29 ~x1 1) fun v22 =>
 gQ v21 false (aj ¢ ¥H6 27 ~v22) fun v23 =>
 gQ v21 false (cf ~x40) fun v24 =>
 gQ v21 false (aE ¢ .sub 3 °65 ¤1 ~v24 £1) fun v25 =>
 gQ v21 false (aK ¢ true ¥H6 §H6 67 .max #[3,3] [v25,(.v (.int .i64 0))]) fun v26 =>
 gQ v21 false (aH ¢ ¥H6 27 ~v23 ~v26) fun v27 =>
 gQ v21 false (aa ¢ 76 ~v27 0) fun v28 =>
 gQ v21 false (aj ¢ ¥H6 35 ~v28) fun v29 =>
 gQ v21 false (aa ¢ 76 ~v4 0) fun v30 =>
 gQ v21 false (aj ¢ ¥H6 35 ~v30) fun v31 =>
 gW v21 false H6 (©false H6 73 67 [v29,v31]) fun v32 H7 =>
 gQ x3 true (bp ~v21 ¡ ~v32) fun v33 =>
 gW x3 true H7 (eX ¢ true false H7 §H7 75 148 5 (some [(0,v9),(1,v12),(2,v15),(3,v18),(4,v33)])) fun v34 H8 =>
 gW x3 true H8 (©false H8 76 64 [v34]) fun v35 H9 =>
 ak (bp ~x3 ~v35 ¿) fun v36 =>
 ak (aE ¢ .add 3 °40 ¤1 ~x40 £1) fun v37 =>
  bP env Tryz.f41 0 kW [(40,v37),(1,x1),(3,v36),(38,x38),(39,x39)] H9 Q) (
 ak (aa ¢ 29 ~x1 1) fun v2 =>
 ak (aj ¢ ¥H 27 ~v2) fun v3 =>
 ak (aa ¢ 29 ~x1 1) fun v4 =>
 ak (aj ¢ ¥H 27 ~v4) fun v5 =>
 ak (aK ¢ false ¥H §H 83 .len #[27] [v5]) fun v6 =>
 ak (aK ¢ false ¥H §H 84 .min #[3,3] [v6,(.v (.int .i64 8))]) fun v7 =>
 ak (eS ¢ ¥H 27 ~v3 (some none) (oi v7) (some none)) fun v8 =>
 ak (aK ¢ false ¥H §H 86 .len #[27] [v8]) fun v9 =>
  bP env Tryz.f41 0 ko [(87,(.v (.int .i64 0))),(8,(.v (.int .i64 0))),(85,v8),(1,x1),(3,x3),(86,v9)] H Q)
theorem qF(x40 x1 x3 x38 x39:AV)(H:ab)(Q:AV→ab→Prop)(h : ∀g,gK g x40 x1 x3 x38 x39 H Q):bP env Tryz.f41 0 kW [(40,x40),(1,x1),(3,x3),(38,x38),(39,x39)] H Q:=cU fun g=>aV (live:=mF) (cut:=mH) (n:=500) (Eq.mp (by kernel_rfl) (h g))
def mU(g:Nat→AV)(x87 x8 x85 x1 x3 x86:AV)(H:ab)(Q:AV→ab→Prop):Prop :=
 ak (aE ¢ .lss 3 °87 °86 ~x87 ~x86) fun v1 =>
 br ~v1 (
 ak (aH ¢ ¥H 27 ~x85 ~x87) fun v2 =>
 ak (aj ¢ ¥H 76 ~v2) fun v3 =>
 aO (bl H §H 10 (bX ¢ §H 10 76)) fun v4 H1 =>
 aO (aW ¢ H1 76 ~v4 ~v3) fun v5 H2 =>
 ak (aa ¢ 76 ~v4 3) fun v6 =>
 ak (aj ¢ ¥H2 3 ~v6) fun v7 =>
 ak (aK ¢ false ¥H2 §H2 94 .max #[3,3] [v7,(.v (.int .i64 0))]) fun v8 =>
 ak (aK ¢ false ¥H2 §H2 95 .min #[3,3] [v8,(.v (.int .i64 4096))]) fun v9 =>
 ak (aE ¢ .add 3 °91 °95 ~x8 ~v9) fun v10 =>
 ak (aE ¢ .add 3 °87 ¤1 ~x87 £1) fun v11 =>
  bP env Tryz.f41 0 ko [(87,v11),(8,v10),(85,x85),(1,x1),(3,x3),(86,x86)] H2 Q) (
 ak (xj ¢ .not ~x3) fun v2 =>
 gQ v2 false (aj ¢ ¥H 29 ~x1) fun v3 =>
 gW v2 false H (©true H 102 68 [v3]) fun v4 H1 =>
 gQ v2 false (aE ¢ .gtr 3 °102 ¤2048 ~v4 £2048) fun v5 =>
 ak (bp ~v2 ¡ ~v5) fun v6 =>
 gQ v6 false (cf ~x8) fun v7 =>
 gQ v6 false (aE ¢ .gtr 3 °106 ¤8192 ~v7 £8192) fun v8 =>
 ak (bp ~v6 ¡ ~v8) fun v9 =>
 br ~v9 (
 Q (.v (.int .i64 8)) H1) (
 Q (.v (.int .i64 0)) H1))
theorem pQ(x87 x8 x85 x1 x3 x86:AV)(H:ab)(Q:AV→ab→Prop)(h : ∀g,mU g x87 x8 x85 x1 x3 x86 H Q):bP env Tryz.f41 0 ko [(87,x87),(8,x8),(85,x85),(1,x1),(3,x3),(86,x86)] H Q:=cU fun g=>aV (live:=mF) (cut:=mH) (n:=500) (Eq.mp (by kernel_rfl) (h g))
noncomputable def vd:Code:=(Tryz.f42.body).getD .skip
def BU:Nat→Option (List Nat):=fun i=>none
def Cq:Nat→Bool:=fun i=>false
def vn(g:Nat→AV)(x0:AV)(H:ab)(Q:AV→ab→Prop):Prop :=
 aO (bl H §H 1 (cB ¢ §H 1 29 ~x0)) fun v1 H1 =>
 aO (bl H1 §H1 2 (bX ¢ §H1 2 29)) fun v2 H2 =>
 ak (aa ¢ 29 ~v1 0) fun v3 =>
 ak (aj ¢ ¥H2 26 ~v3) fun v4 =>
 aO (©false H2 5 69 [v4]) fun v5 H3 =>
 ak (aa ¢ 29 ~v1 1) fun v6 =>
 ak (aj ¢ ¥H3 27 ~v6) fun v7 =>
 aO (©false H3 8 70 [v7]) fun v8 H4 =>
 ak (aa ¢ 29 ~v1 0) fun v9 =>
 aO (aW ¢ H4 26 ~v9 ~v5) fun v10 H5 =>
 ak (aa ¢ 29 ~v1 1) fun v11 =>
 aO (aW ¢ H5 27 ~v11 ~v8) fun v12 H6 =>
 ak (aj ¢ ¥H6 29 ~v1) fun v13 =>
 aO (aW ¢ H6 29 ~v2 ~v13) fun v14 H7 =>
 ak (cR ¢ H7 v2 29) fun v15 =>
 Q v15 H7
theorem Bc(x0:AV)(H:ab)(Q:AV→ab→Prop)(h : ∀g,vn g x0 H Q):bP env Tryz.f42 0 [.code vd] [(0,x0)] H Q:=⟨fun g=>aV (live:=BU) (cut:=Cq) (n:=500) (Eq.mp (by kernel_rfl) (h g))⟩
noncomputable def wy:Code:=(Tryz.f64.body).getD .skip
def Dd:Nat→Option (List Nat):=fun i=>none
def Dn:Nat→Bool:=fun i=>false
def wH(g:Nat→AV)(x0:AV)(H:ab)(Q:AV→ab→Prop):Prop :=
 aO (©true H 4 90 [x0,(.v (.bool false))]) fun v1 H1 =>
 ak (xj ¢ .not ~v1) fun v2 =>
 Q v2 H1
theorem CS(x0:AV)(H:ab)(Q:AV→ab→Prop)(h : ∀g,wH g x0 H Q):bP env Tryz.f64 0 [.code wy] [(0,x0)] H Q:=⟨fun g=>aV (live:=Dd) (cut:=Dn) (n:=500) (Eq.mp (by kernel_rfl) (h g))⟩
noncomputable def vc:Code:=(Tryz.f65.body).getD .skip
def BT:Nat→Option (List Nat):=fun i=>none
def Cp:Nat→Bool:=fun i=>false
def vm(g:Nat→AV)(x0 x1:AV)(H:ab)(Q:AV→ab→Prop):Prop :=
 ak (aE ¢ .geq 3 °5 ¤0 ~x0 £0) fun v1 =>
 gQ v1 true (cf ~x0) fun v2 =>
 gQ v1 true (cf ~x1) fun v3 =>
 gQ v1 true (aE ¢ .leq 3 °8 °9 ~v2 ~v3) fun v4 =>
 ak (bp ~v1 ~v4 ¿) fun v5 =>
 Q v5 H
theorem Bb(x0 x1:AV)(H:ab)(Q:AV→ab→Prop)(h : ∀g,vm g x0 x1 H Q):bP env Tryz.f65 0 [.code vc] [(0,x0),(1,x1)] H Q:=⟨fun g=>aV (live:=BT) (cut:=Cp) (n:=500) (Eq.mp (by kernel_rfl) (h g))⟩
noncomputable def tT:Code:=(Tryz.f66.body).getD .skip
def AD:Nat→Option (List Nat):=fun i=>none
def AK:Nat→Bool:=fun i=>false
def tY(g:Nat→AV)(x0:AV)(H:ab)(Q:AV→ab→Prop):Prop :=
 aO (bl H §H 1 (cB ¢ §H 1 52 ~x0)) fun v1 H1 =>
 ak (aa ¢ 52 ~v1 0) fun v2 =>
 ak (aj ¢ ¥H1 35 ~v2) fun v3 =>
 aO (©false H1 5 33 [v3]) fun v4 H2 =>
 ak (aE ¢ .eql 23 °5 ¤0 ~v4 £0) fun v5 =>
 gQ v5 true (aa ¢ 52 ~v1 1) fun v6 =>
 gQ v5 true (aj ¢ ¥H2 4 ~v6) fun v7 =>
 gQ v5 true (cf ~v7) fun v8 =>
 gQ v8 false (aa ¢ 52 ~v1 0) fun v9 =>
 gQ v8 false (aj ¢ ¥H2 35 ~v9) fun v10 =>
 gW v8 false H2 (©false H2 13 91 []) fun v11 H3 =>
 gQ v8 false (aE ¢ .eql 35 °12 °13 ~v10 ~v11) fun v12 =>
 gQ v5 true (bp ~v8 ¡ ~v12) fun v13 =>
 ak (bp ~v5 ~v13 ¿) fun v14 =>
 Q v14 H3
theorem As(x0:AV)(H:ab)(Q:AV→ab→Prop)(h : ∀g,tY g x0 H Q):bP env Tryz.f66 0 [.code tT] [(0,x0)] H Q:=⟨fun g=>aV (live:=AD) (cut:=AK) (n:=500) (Eq.mp (by kernel_rfl) (h g))⟩
noncomputable def oH:Code:=(Tryz.f68.body).getD .skip
noncomputable def kn:List Item:=(bY 3 400 [.code oH]).getD []
def sj:Nat→Option (List Nat):=fun i=>cond (Nat.beq i 3) (some [11,3,9,10]) (none)
def sD:Nat→Bool:=fun i=>false
def sM(g:Nat→AV)(x0:AV)(H:ab)(Q:AV→ab→Prop):Prop :=
 aO (bl H §H 1 (cB ¢ §H 1 29 ~x0)) fun v1 H1 =>
 ak (aa ¢ 29 ~v1 2) fun v2 =>
 ak (aj ¢ ¥H1 3 ~v2) fun v3 =>
 ak (aa ¢ 29 ~v1 1) fun v4 =>
 ak (aj ¢ ¥H1 27 ~v4) fun v5 =>
 ak (aK ¢ false ¥H1 §H1 10 .len #[27] [v5]) fun v6 =>
  bP env Tryz.f68 0 kn [(11,(.v (.int .i64 0))),(3,v3),(9,v5),(10,v6)] H1 Q
theorem ze(x0:AV)(H:ab)(Q:AV→ab→Prop)(h : ∀g,sM g x0 H Q):bP env Tryz.f68 0 [.code oH] [(0,x0)] H Q:=⟨fun g=>aV (live:=sj) (cut:=sD) (n:=500) (Eq.mp (by kernel_rfl) (h g))⟩
def mT(g:Nat→AV)(x11 x3 x9 x10:AV)(H:ab)(Q:AV→ab→Prop):Prop :=
 ak (aE ¢ .lss 3 °11 °10 ~x11 ~x10) fun v1 =>
 br ~v1 (
 ak (aH ¢ ¥H 27 ~x9 ~x11) fun v2 =>
 ak (aj ¢ ¥H 76 ~v2) fun v3 =>
 aO (bl H §H 5 (bX ¢ §H 5 76)) fun v4 H1 =>
 aO (aW ¢ H1 76 ~v4 ~v3) fun v5 H2 =>
 ak (aa ¢ 76 ~v4 1) fun v6 =>
 ak (aj ¢ ¥H2 3 ~v6) fun v7 =>
 ak (aa ¢ 76 ~v4 2) fun v8 =>
 ak (aj ¢ ¥H2 3 ~v8) fun v9 =>
 ak (aE ¢ .mul 3 ¤4 °19 £4 ~v9) fun v10 =>
 ak (aE ¢ .add 3 °17 °20 ~v7 ~v10) fun v11 =>
 ak (aE ¢ .add 3 °15 °21 ~x3 ~v11) fun v12 =>
 ak (aE ¢ .add 3 °11 ¤1 ~x11 £1) fun v13 =>
  bP env Tryz.f68 0 kn [(11,v13),(3,v12),(9,x9),(10,x10)] H2 Q) (
 Q x3 H)
theorem pP(x11 x3 x9 x10:AV)(H:ab)(Q:AV→ab→Prop)(h : ∀g,mT g x11 x3 x9 x10 H Q):bP env Tryz.f68 0 kn [(11,x11),(3,x3),(9,x9),(10,x10)] H Q:=cU fun g=>aV (live:=sj) (cut:=sD) (n:=500) (Eq.mp (by kernel_rfl) (h g))
noncomputable def bJ:Code:=(Tryz.f69.body).getD .skip
def fG:Nat→Option (List Nat):=fun i=>none
def fI:Nat→Bool:=fun i=>false
def bL(g:Nat→AV)(x0:AV)(H:ab)(Q:AV→ab→Prop):Prop :=
 ak (aE ¢ .eql 26 °3 (.const (.slice none 0 0)) ~x0 (some (.v (.slice none 0 0)))) fun v1 =>
 br ~v1 (
 Q (.v (.slice none 0 0)) H) (
 aO (eX ¢ false true H §H 5 26 0 (some [])) fun v2 H1 =>
 aO (cQ ¢ true H1 §H1 7 (some 26) (some 26) v2 x0) fun v3 H2 =>
 Q v3 H2)
theorem b7(x0:AV)(H:ab)(Q:AV→ab→Prop)(h : ∀g,bL g x0 H Q):bP env Tryz.f69 0 [.code bJ] [(0,x0)] H Q:=⟨fun g=>aV (live:=fG) (cut:=fI) (n:=500) (Eq.mp (by kernel_rfl) (h g))⟩
noncomputable def bI:Code:=(Tryz.f70.body).getD .skip
def fF:Nat→Option (List Nat):=fun i=>none
def fH:Nat→Bool:=fun i=>false
def bK(g:Nat→AV)(x0:AV)(H:ab)(Q:AV→ab→Prop):Prop :=
 ak (aE ¢ .eql 27 °3 (.const (.slice none 0 0)) ~x0 (some (.v (.slice none 0 0)))) fun v1 =>
 br ~v1 (
 Q (.v (.slice none 0 0)) H) (
 aO (eX ¢ false true H §H 5 27 0 (some [])) fun v2 H1 =>
 aO (cQ ¢ true H1 §H1 7 (some 27) (some 27) v2 x0) fun v3 H2 =>
 Q v3 H2)
theorem bZ(x0:AV)(H:ab)(Q:AV→ab→Prop)(h : ∀g,bK g x0 H Q):bP env Tryz.f70 0 [.code bI] [(0,x0)] H Q:=⟨fun g=>aV (live:=fF) (cut:=fH) (n:=500) (Eq.mp (by kernel_rfl) (h g))⟩
noncomputable def jA:Code:=(Tryz.f90.body).getD .skip
def oc:Nat→Option (List Nat):=fun i=>none
def od:Nat→Bool:=fun i=>false
def jC(g:Nat→AV)(x0 x1:AV)(H:ab)(Q:AV→ab→Prop):Prop :=
 aO (©true H 7 110 [x0,x1]) fun v1 H1 =>
 ak (aE ¢ .geq 3 °7 ¤0 ~v1 £0) fun v2 =>
 Q v2 H1
theorem oa(x0 x1:AV)(H:ab)(Q:AV→ab→Prop)(h : ∀g,jC g x0 x1 H Q):bP env Tryz.f90 0 [.code jA] [(0,x0),(1,x1)] H Q:=⟨fun g=>aV (live:=oc) (cut:=od) (n:=500) (Eq.mp (by kernel_rfl) (h g))⟩
noncomputable def tV:Code:=(Tryz.f92.body).getD .skip
def AF:Nat→Option (List Nat):=fun i=>none
def AM:Nat→Bool:=fun i=>false
def uc(g:Nat→AV)(x0 x1:AV)(H:ab)(Q:AV→ab→Prop):Prop :=
 aO (bl H §H 2 (cB ¢ §H 2 29 ~x0)) fun v1 H1 =>
 aO (bl H1 §H1 3 (cB ¢ §H1 3 35 ~x1)) fun v2 H2 =>
 aO (bl H2 §H2 4 (bX ¢ §H2 4 76)) fun v3 H3 =>
 ak (aj ¢ ¥H3 29 ~v1) fun v4 =>
 ak (aj ¢ ¥H3 35 ~v2) fun v5 =>
 aO (©true H3 11 111 [v4,v5]) fun v6 H4 =>
 ak (aE ¢ .neq 23 °12 ¤0 ~v6 £0) fun v7 =>
 br ~v7 (
 ak (cy ¢ 76 (some [])) fun v8 =>
 aO (aW ¢ H4 76 ~v3 ~v8) fun v9 H5 =>
 ak (cR ¢ H5 v3 76) fun v10 =>
 Q (.tup [v10,v6]) H5) (
 ak (aa ¢ 29 ~v1 1) fun v8 =>
 ak (aj ¢ ¥H4 27 ~v8) fun v9 =>
 ak (aj ¢ ¥H4 35 ~v2) fun v10 =>
 aO (©true H4 20 112 [v9,v10,(.fn (.func 113) [] [])]) fun v11 H5 =>
 ak (aJ ~v11 0) fun v12 =>
 ak (aJ ~v11 1) fun v13 =>
 aO (bl H5 §H5 7 (bX ¢ §H5 7 76)) fun v14 H6 =>
 aO (aW ¢ H6 76 ~v14 ~v12) fun v15 H7 =>
 ak (xj ¢ .not ~v13) fun v16 =>
 br ~v16 (
 ak (aj ¢ ¥H7 35 ~v2) fun v17 =>
 ak (aa ¢ 76 ~v14 0) fun v18 =>
 aO (aW ¢ H7 35 ~v18 ~v17) fun v19 H8 =>
 ak (aj ¢ ¥H8 76 ~v14) fun v20 =>
 aO (aW ¢ H8 76 ~v3 ~v20) fun v21 H9 =>
 ak (cR ¢ H9 v3 76) fun v22 =>
 Q (.tup [v22,(.v (.int .i64 0))]) H9) (
 ak (aj ¢ ¥H7 76 ~v14) fun v17 =>
 aO (aW ¢ H7 76 ~v3 ~v17) fun v18 H8 =>
 ak (cR ¢ H8 v3 76) fun v19 =>
 Q (.tup [v19,(.v (.int .i64 0))]) H8))
theorem Au(x0 x1:AV)(H:ab)(Q:AV→ab→Prop)(h : ∀g,uc g x0 x1 H Q):bP env Tryz.f92 0 [.code tV] [(0,x0),(1,x1)] H Q:=⟨fun g=>aV (live:=AF) (cut:=AM) (n:=500) (Eq.mp (by kernel_rfl) (h g))⟩
noncomputable def wz:Code:=(Tryz.f93.body).getD .skip
def De:Nat→Option (List Nat):=fun i=>none
def Dp:Nat→Bool:=fun i=>false
def wI(g:Nat→AV)(x0 x1 x2:AV)(H:ab)(Q:AV→ab→Prop):Prop :=
 aO (bl H §H 3 (cB ¢ §H 3 29 ~x0)) fun v1 H1 =>
 aO (bl H1 §H1 5 (cB ¢ §H1 5 35 ~x2)) fun v2 H2 =>
 ak (aj ¢ ¥H2 29 ~v1) fun v3 =>
 ak (aj ¢ ¥H2 35 ~v2) fun v4 =>
 aO (©true H2 12 111 [v3,v4]) fun v5 H3 =>
 ak (aE ¢ .neq 23 °13 ¤0 ~v5 £0) fun v6 =>
 br ~v6 (
 Q (.tup [(.v (.bool false)),v5]) H3) (
 ak (aE ¢ .lss 3 °16 ¤0 ~x1 £0) fun v7 =>
 gQ v7 false (cf ~x1) fun v8 =>
 gQ v7 false (aa ¢ 29 ~v1 0) fun v9 =>
 gQ v7 false (aj ¢ ¥H3 26 ~v9) fun v10 =>
 gQ v7 false (aK ¢ false ¥H3 §H3 22 .len #[26] [v10]) fun v11 =>
 gQ v7 false (aE ¢ .geq 3 °19 °22 ~v8 ~v11) fun v12 =>
 ak (bp ~v7 ¡ ~v12) fun v13 =>
 br ~v13 (
 Q (.tup [(.v (.bool false)),(.v (.int .i64 0))]) H3) (
 ak (aa ¢ 29 ~v1 0) fun v14 =>
 ak (aj ¢ ¥H3 26 ~v14) fun v15 =>
 ak (aH ¢ ¥H3 26 ~v15 ~x1) fun v16 =>
 ak (aj ¢ ¥H3 52 ~v16) fun v17 =>
 aO (bl H3 §H3 9 (bX ¢ §H3 9 52)) fun v18 H4 =>
 aO (aW ¢ H4 52 ~v18 ~v17) fun v19 H5 =>
 ak (aa ¢ 52 ~v18 1) fun v20 =>
 ak (aj ¢ ¥H5 4 ~v20) fun v21 =>
 gQ v21 true (aj ¢ ¥H5 35 ~v2) fun v22 =>
 gQ v21 true (aa ¢ 52 ~v18 0) fun v23 =>
 gQ v21 true (aj ¢ ¥H5 35 ~v23) fun v24 =>
 gW v21 true H5 (©true H5 36 20 [v22,v24]) fun v25 H6 =>
 ak (bp ~v21 ~v25 ¿) fun v26 =>
 Q (.tup [v26,(.v (.int .i64 0))]) H6))
theorem CT(x0 x1 x2:AV)(H:ab)(Q:AV→ab→Prop)(h : ∀g,wI g x0 x1 x2 H Q):bP env Tryz.f93 0 [.code wz] [(0,x0),(1,x1),(2,x2)] H Q:=⟨fun g=>aV (live:=De) (cut:=Dp) (n:=500) (Eq.mp (by kernel_rfl) (h g))⟩
noncomputable def gR:Code:=(Tryz.f110.body).getD .skip
noncomputable def eJ:List Item:=(bY 2 400 [.code gR]).getD []
def kF:Nat→Option (List Nat):=fun i=>cond (Nat.beq i 2) (some [8,0,1,7]) (none)
def kH:Nat→Bool:=fun i=>false
def kM(g:Nat→AV)(x0 x1:AV)(H:ab)(Q:AV→ab→Prop):Prop :=
 ak (aK ¢ false ¥H §H 7 .len #[148] [x0]) fun v1 =>
  bP env Tryz.f110 0 eJ [(8,(.v (.int .i64 0))),(0,x0),(1,x1),(7,v1)] H Q
theorem pg(x0 x1:AV)(H:ab)(Q:AV→ab→Prop)(h : ∀g,kM g x0 x1 H Q):bP env Tryz.f110 0 [.code gR] [(0,x0),(1,x1)] H Q:=⟨fun g=>aV (live:=kF) (cut:=kH) (n:=500) (Eq.mp (by kernel_rfl) (h g))⟩
def gj(g:Nat→AV)(x8 x0 x1 x7:AV)(H:ab)(Q:AV→ab→Prop):Prop :=
 ak (aE ¢ .lss 3 °8 °7 ~x8 ~x7) fun v1 =>
 br ~v1 (
 ak (aH ¢ ¥H 148 ~x0 ~x8) fun v2 =>
 ak (aj ¢ ¥H 4 ~v2) fun v3 =>
 ak (aE ¢ .eql 4 °11 °15 ~x1 ~v3) fun v4 =>
 br ~v4 (
 Q x8 H) (
 ak (aE ¢ .add 3 °8 ¤1 ~x8 £1) fun v5 =>
  bP env Tryz.f110 0 eJ [(8,v5),(0,x0),(1,x1),(7,x7)] H Q)) (
 Q (.v (.int .i64 (-1))) H)
theorem jE(x8 x0 x1 x7:AV)(H:ab)(Q:AV→ab→Prop)(h : ∀g,gj g x8 x0 x1 x7 H Q):bP env Tryz.f110 0 eJ [(8,x8),(0,x0),(1,x1),(7,x7)] H Q:=cU fun g=>aV (live:=kF) (cut:=kH) (n:=500) (Eq.mp (by kernel_rfl) (h g))
noncomputable def tU:Code:=(Tryz.f111.body).getD .skip
def AE:Nat→Option (List Nat):=fun i=>none
def AL:Nat→Bool:=fun i=>false
def tZ(g:Nat→AV)(x0 x1:AV)(H:ab)(Q:AV→ab→Prop):Prop :=
 aO (bl H §H 2 (cB ¢ §H 2 29 ~x0)) fun v1 H1 =>
 aO (bl H1 §H1 3 (cB ¢ §H1 3 35 ~x1)) fun v2 H2 =>
 ak (aj ¢ ¥H2 29 ~v1) fun v3 =>
 aO (©false H2 6 41 [v3]) fun v4 H3 =>
 ak (aj ¢ ¥H3 35 ~v2) fun v5 =>
 aO (©false H3 8 33 [v5]) fun v6 H4 =>
 ak (aK ¢ true ¥H4 §H4 9 .max #[23,23] [v4,v6]) fun v7 =>
 Q v7 H4
theorem At(x0 x1:AV)(H:ab)(Q:AV→ab→Prop)(h : ∀g,tZ g x0 x1 H Q):bP env Tryz.f111 0 [.code tU] [(0,x0),(1,x1)] H Q:=⟨fun g=>aV (live:=AE) (cut:=AL) (n:=500) (Eq.mp (by kernel_rfl) (h g))⟩
noncomputable def dR:Code:=(Tryz.f112.body).getD .skip
def gw:Nat→Option (List Nat):=fun i=>none
def gx:Nat→Bool:=fun i=>false
def dT(g:Nat→AV)(x0 x1 x2:AV)(H:ab)(Q:AV→ab→Prop):Prop :=
 aO (bl H §H 4 (cB ¢ §H 4 35 ~x1)) fun v1 H1 =>
 aO (bl H1 §H1 5 (cB ¢ §H1 5 178 ~x2)) fun v2 H2 =>
 aO (bl H2 §H2 6 (bX ¢ §H2 6 76)) fun v3 H3 =>
 ak (sf (.func 129) (some []) (some [v2,v1])) fun v4 =>
 aO (©true H3 11 128 [x0,v4]) fun v5 H4 =>
 ak (aE ¢ .lss 3 °12 ¤0 ~v5 £0) fun v6 =>
 br ~v6 (
 ak (aj ¢ ¥H4 76 ~v3) fun v7 =>
 aO (aW ¢ H4 76 ~v3 ~v7) fun v8 H5 =>
 ak (cR ¢ H5 v3 76) fun v9 =>
 Q (.tup [v9,(.v (.bool false))]) H5) (
 ak (aH ¢ ¥H4 27 ~x0 ~v5) fun v7 =>
 ak (aj ¢ ¥H4 76 ~v7) fun v8 =>
 aO (aW ¢ H4 76 ~v3 ~v8) fun v9 H5 =>
 ak (cR ¢ H5 v3 76) fun v10 =>
 Q (.tup [v10,(.v (.bool true))]) H5)
theorem gm(x0 x1 x2:AV)(H:ab)(Q:AV→ab→Prop)(h : ∀g,dT g x0 x1 x2 H Q):bP env Tryz.f112 0 [.code dR] [(0,x0),(1,x1),(2,x2)] H Q:=⟨fun g=>aV (live:=gw) (cut:=gx) (n:=500) (Eq.mp (by kernel_rfl) (h g))⟩
noncomputable def qX:Code:=(Tryz.f113.body).getD .skip
def yd:Nat→Option (List Nat):=fun i=>none
def yH:Nat→Bool:=fun i=>false
def rf(g:Nat→AV)(x0:AV)(H:ab)(Q:AV→ab→Prop):Prop :=
 aO (bl H §H 1 (cB ¢ §H 1 76 ~x0)) fun v1 H1 =>
 aO (bl H1 §H1 2 (bX ¢ §H1 2 35)) fun v2 H2 =>
 ak (aa ¢ 76 ~v1 0) fun v3 =>
 ak (aj ¢ ¥H2 35 ~v3) fun v4 =>
 aO (aW ¢ H2 35 ~v2 ~v4) fun v5 H3 =>
 ak (cR ¢ H3 v2 35) fun v6 =>
 Q v6 H3
theorem xn(x0:AV)(H:ab)(Q:AV→ab→Prop)(h : ∀g,rf g x0 H Q):bP env Tryz.f113 0 [.code qX] [(0,x0)] H Q:=⟨fun g=>aV (live:=yd) (cut:=yH) (n:=500) (Eq.mp (by kernel_rfl) (h g))⟩
noncomputable def bW:Code:=(Tryz.f128.body).getD .skip
noncomputable def bu:List Item:=(bY 2 400 [.code bW]).getD []
def cT:Nat→Option (List Nat):=fun i=>cond (Nat.beq i 2) (some [8,0,1,7]) (none)
def cV:Nat→Bool:=fun i=>false
def cX(g:Nat→AV)(x0 x1:AV)(H:ab)(Q:AV→ab→Prop):Prop :=
 ak (aK ¢ false ¥H §H 7 .len #[27] [x0]) fun v1 =>
  bP env Tryz.f128 0 bu [(8,(.v (.int .i64 0))),(0,x0),(1,x1),(7,v1)] H Q
theorem fb(x0 x1:AV)(H:ab)(Q:AV→ab→Prop)(h : ∀g,cX g x0 x1 H Q):bP env Tryz.f128 0 [.code bW] [(0,x0),(1,x1)] H Q:=⟨fun g=>aV (live:=cT) (cut:=cV) (n:=500) (Eq.mp (by kernel_rfl) (h g))⟩
def bS(g:Nat→AV)(x8 x0 x1 x7:AV)(H:ab)(Q:AV→ab→Prop):Prop :=
 ak (aE ¢ .lss 3 °8 °7 ~x8 ~x7) fun v1 =>
 br ~v1 (
 ak (aH ¢ ¥H 27 ~x0 ~x8) fun v2 =>
 ak (aj ¢ ¥H 76 ~v2) fun v3 =>
 aO (bn env true (bj env) (bU env 0) H §H 16 ~x1 [v3]) fun v4 H1 =>
 br ~v4 (
 Q x8 H1) (
 ak (aE ¢ .add 3 °8 ¤1 ~x8 £1) fun v5 =>
  bP env Tryz.f128 0 bu [(8,v5),(0,x0),(1,x1),(7,x7)] H1 Q)) (
 Q (.v (.int .i64 (-1))) H)
theorem cM(x8 x0 x1 x7:AV)(H:ab)(Q:AV→ab→Prop)(h : ∀g,bS g x8 x0 x1 x7 H Q):bP env Tryz.f128 0 bu [(8,x8),(0,x0),(1,x1),(7,x7)] H Q:=cU fun g=>aV (live:=cT) (cut:=cV) (n:=500) (Eq.mp (by kernel_rfl) (h g))
noncomputable def dF:Code:=(Tryz.f129.body).getD .skip
def fP:Nat→Option (List Nat):=fun i=>none
def fR:Nat→Bool:=fun i=>false
def dG(g:Nat→AV)(x0 x1 x2:AV)(H:ab)(Q:AV→ab→Prop):Prop :=
 aO (bl H §H 3 (cB ¢ §H 3 76 ~x0)) fun v1 H1 =>
 ak (aj ¢ ¥H1 178 ~x1) fun v2 =>
 ak (aj ¢ ¥H1 76 ~v1) fun v3 =>
 aO (bn env false (bj env) (bU env 0) H1 §H1 7 ~v2 [v3]) fun v4 H2 =>
 ak (aj ¢ ¥H2 35 ~x2) fun v5 =>
 ak (aE ¢ .eql 35 °7 °8 ~v4 ~v5) fun v6 =>
 Q v6 H2
theorem fN(x0 x1 x2:AV)(H:ab)(Q:AV→ab→Prop)(h : ∀g,dG g x0 x1 x2 H Q):bP env Tryz.f129 0 [.code dF] [(0,x0),(1,x1),(2,x2)] H Q:=⟨fun g=>aV (live:=fP) (cut:=fR) (n:=500) (Eq.mp (by kernel_rfl) (h g))⟩
end Go.Proofs.YtdbiffjdomokfaaGreat
