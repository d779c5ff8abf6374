/-
  What is to be shown of each function, computed from its code. No statement of a seat is proved here.
-/
import Derived.Test.YtmkmimgokagimaaGreatLeTy
set_option linter.unusedVariables false
set_option maxRecDepth 1000000
namespace Go.Proofs.YtmkmimgokagimaaGreat
open Go.Ab
local notation:max "©" b:max h:max n:max f:max a:max=>aK env b (limf env) (limt env 0) h (Ref.mk 0 n (Heap.gen h 0 n) 0) (some (AV.fn (Fn.func f) [] [])) a
local notation:max "§" h:max n:max=>Ref.mk 0 n (Heap.gen h 0 n) 0
local notation:max "~" a:max=>some a
local notation:max "¥" h:max=>Heap.get h
local notation:max "¤" n:max=>(Operand.const (Value.int IntKind.i64 n))
local notation:max "£" n:max=>some (AV.v (Value.int IntKind.i64 n))
local notation:max "¡" => some (AV.v (Value.bool true))
local notation:max "¿" => some (AV.v (Value.bool false))
local notation:max "°" n:max=>(Operand.tmp n)
local notation:max "¢" => env.P
noncomputable def o8:Code:=(Tryz.f43.body).getD .skip
def uK:Nat→Option (List Nat):=fun i=>none
def uS:Nat→Bool:=fun i=>false
def pe(g:Nat→AV)(x0:AV)(H:Heap)(Q:AV→Heap→Prop):Prop :=
 doW (nRes H §H 1 (qBox ¢ §H 1 25 ~x0)) fun v1 H1 =>
 doQ (ai ¢ ¥H1 25 ~v1) fun v2 =>
 doW (©true H1 6 102 [v2]) fun v3 H2 =>
 doQ (qBin ¢ .neq 42 °7 ¤0 ~v3 £0) fun v4 =>
 br ~v4 (
 Q (.tup [(.v (.int .i64 0)),v3]) H2) (
 doQ (ai ¢ ¥H2 25 ~v1) fun v5 =>
 doW (©true H2 11 103 [v5]) fun v6 H3 =>
 Q (.tup [v6,(.v (.int .i64 0))]) H3)
theorem uD(x0:AV)(H:Heap)(Q:AV→Heap→Prop)(h : ∀g,pe g x0 H Q):GoL env Tryz.f43 0 [.code o8] [(0,x0)] H Q:=⟨fun g=>aU (live:=uK) (cut:=uS) (n:=500) (Eq.mp (by kernel_rfl) (h g))⟩
noncomputable def pN:Code:=(Tryz.f44.body).getD .skip
def wa:Nat→Option (List Nat):=fun i=>none
def wL:Nat→Bool:=fun i=>false
def p6(g:Nat→AV)(x0 x1:AV)(H:Heap)(Q:AV→Heap→Prop):Prop :=
 doW (nRes H §H 2 (qBox ¢ §H 2 25 ~x0)) fun v1 H1 =>
 doW (nRes H1 §H1 3 (qBox ¢ §H1 3 29 ~x1)) fun v2 H2 =>
 doW (nRes H2 §H2 4 (ch ¢ §H2 4 81)) fun v3 H3 =>
 doQ (ai ¢ ¥H3 25 ~v1) fun v4 =>
 doQ (ai ¢ ¥H3 29 ~v2) fun v5 =>
 doW (©true H3 11 104 [v4,v5]) fun v6 H4 =>
 doQ (qBin ¢ .neq 42 °12 ¤0 ~v6 £0) fun v7 =>
 br ~v7 (
 doQ (eC ¢ 81 (some [])) fun v8 =>
 doW (aG ¢ H4 81 ~v3 ~v8) fun v9 H5 =>
 doQ (cJ ¢ H5 v3 81) fun v10 =>
 Q (.tup [v10,v6]) H5) (
 doQ (aa ¢ 25 ~v1 1) fun v8 =>
 doQ (ai ¢ ¥H4 23 ~v8) fun v9 =>
 doQ (ai ¢ ¥H4 29 ~v2) fun v10 =>
 doW (©true H4 20 105 [v9,v10,(.fn (.func 106) [] [])]) fun v11 H5 =>
 doQ (au ~v11 0) fun v12 =>
 doQ (au ~v11 1) fun v13 =>
 doW (nRes H5 §H5 7 (ch ¢ §H5 7 81)) fun v14 H6 =>
 doW (aG ¢ H6 81 ~v14 ~v12) fun v15 H7 =>
 doQ (qUn ¢ .not ~v13) fun v16 =>
 br ~v16 (
 doQ (ai ¢ ¥H7 29 ~v2) fun v17 =>
 doQ (aa ¢ 81 ~v14 0) fun v18 =>
 doW (aG ¢ H7 29 ~v18 ~v17) fun v19 H8 =>
 doQ (ai ¢ ¥H8 81 ~v14) fun v20 =>
 doW (aG ¢ H8 81 ~v3 ~v20) fun v21 H9 =>
 doQ (cJ ¢ H9 v3 81) fun v22 =>
 Q (.tup [v22,(.v (.int .i64 0))]) H9) (
 doQ (ai ¢ ¥H7 81 ~v14) fun v17 =>
 doW (aG ¢ H7 81 ~v3 ~v17) fun v18 H8 =>
 doQ (cJ ¢ H8 v3 81) fun v19 =>
 Q (.tup [v19,(.v (.int .i64 0))]) H8))
theorem vn(x0 x1:AV)(H:Heap)(Q:AV→Heap→Prop)(h : ∀g,p6 g x0 x1 H Q):GoL env Tryz.f44 0 [.code pN] [(0,x0),(1,x1)] H Q:=⟨fun g=>aU (live:=wa) (cut:=wL) (n:=500) (Eq.mp (by kernel_rfl) (h g))⟩
noncomputable def jK:Code:=(Tryz.f63.body).getD .skip
def nY:Nat→Option (List Nat):=fun i=>none
def oe:Nat→Bool:=fun i=>false
def jM(g:Nat→AV)(x0:AV)(H:Heap)(Q:AV→Heap→Prop):Prop :=
 doW (nRes H §H 1 (qBox ¢ §H 1 25 ~x0)) fun v1 H1 =>
 doQ (aa ¢ 25 ~v1 0) fun v2 =>
 doQ (ai ¢ ¥H1 22 ~v2) fun v3 =>
 doQ (ay ¢ false ¥H1 §H1 5 .len #[22] [v3]) fun v4 =>
 doQ (qBin ¢ .gtr 3 °5 ¤100 ~v4 £100) fun v5 =>
 gQ v5 false (aa ¢ 25 ~v1 1) fun v6 =>
 gQ v5 false (ai ¢ ¥H1 23 ~v6) fun v7 =>
 gQ v5 false (ay ¢ false ¥H1 §H1 10 .len #[23] [v7]) fun v8 =>
 gQ v5 false (qBin ¢ .gtr 3 °10 ¤100 ~v8 £100) fun v9 =>
 doQ (bo ~v5 ¡ ~v9) fun v10 =>
 Q v10 H1
theorem nK(x0:AV)(H:Heap)(Q:AV→Heap→Prop)(h : ∀g,jM g x0 H Q):GoL env Tryz.f63 0 [.code jK] [(0,x0)] H Q:=⟨fun g=>aU (live:=nY) (cut:=oe) (n:=500) (Eq.mp (by kernel_rfl) (h g))⟩
noncomputable def iD:Code:=(Tryz.f102.body).getD .skip
noncomputable def iK:List Item:=(bO 3 400 [.code iD]).getD []
noncomputable def iJ:List Item:=(bO 8 400 [.code iD]).getD []
noncomputable def ig:List Item:=(bO 14 400 [.code iD]).getD []
def kn:Nat→Option (List Nat):=fun i=>cond (Nat.beq i 3) (some [27,3,25,1,26]) (cond (Nat.beq i 8) (some [40,1,3,38,39]) (cond (Nat.beq i 14) (some [87,8,85,1,3,86]) (none)))
def kI:Nat→Bool:=fun i=>false
def p7(g:Nat→AV)(x0:AV)(H:Heap)(Q:AV→Heap→Prop):Prop :=
 doW (nRes H §H 1 (qBox ¢ §H 1 25 ~x0)) fun v1 H1 =>
 doQ (aa ¢ 25 ~v1 0) fun v2 =>
 doQ (ai ¢ ¥H1 22 ~v2) fun v3 =>
 doQ (ay ¢ false ¥H1 §H1 13 .len #[22] [v3]) fun v4 =>
 doQ (qBin ¢ .leq 3 °13 ¤8 ~v4 £8) fun v5 =>
 doQ (aa ¢ 25 ~v1 1) fun v6 =>
 doQ (ai ¢ ¥H1 23 ~v6) fun v7 =>
 doQ (ay ¢ false ¥H1 §H1 17 .len #[23] [v7]) fun v8 =>
 doQ (qBin ¢ .leq 3 °17 ¤8 ~v8 £8) fun v9 =>
 doQ (aa ¢ 25 ~v1 2) fun v10 =>
 doQ (ai ¢ ¥H1 3 ~v10) fun v11 =>
 doW (©false H1 21 167 [v11,(.v (.int .i64 64))]) fun v12 H2 =>
 doW (iB ¢ true false H2 §H2 22 262 3 (some [(0,v5),(1,v9),(2,v12)])) fun v13 H3 =>
 doW (©false H3 23 166 [v13]) fun v14 H4 =>
 doQ (aa ¢ 25 ~v1 0) fun v15 =>
 doQ (ai ¢ ¥H4 22 ~v15) fun v16 =>
 doQ (ay ¢ false ¥H4 §H4 26 .len #[22] [v16]) fun v17 =>
  GoL env Tryz.f102 0 iK [(27,(.v (.int .i64 0))),(3,v14),(25,v16),(1,v1),(26,v17)] H4 Q
theorem vp(x0:AV)(H:Heap)(Q:AV→Heap→Prop)(h : ∀g,p7 g x0 H Q):GoL env Tryz.f102 0 [.code iD] [(0,x0)] H Q:=⟨fun g=>aU (live:=kn) (cut:=kI) (n:=500) (Eq.mp (by kernel_rfl) (h g))⟩
def lg(g:Nat→AV)(x27 x3 x25 x1 x26:AV)(H:Heap)(Q:AV→Heap→Prop):Prop :=
 doQ (qBin ¢ .lss 3 °27 °26 ~x27 ~x26) fun v1 =>
 br ~v1 (
 doQ (aC ¢ ¥H 22 ~x25 ~x27) fun v2 =>
 doQ (ai ¢ ¥H 58 ~v2) fun v3 =>
 doW (nRes H §H 5 (ch ¢ §H 5 58)) fun v4 H1 =>
 doW (aG ¢ H1 58 ~v4 ~v3) fun v5 H2 =>
 gQ x3 true (ai ¢ ¥H2 58 ~v4) fun v6 =>
 gW x3 true H2 (©true H2 34 168 [v6]) fun v7 H3 =>
 doQ (bo ~x3 ~v7 ¿) fun v8 =>
 doQ (qBin ¢ .add 3 °27 ¤1 ~x27 £1) fun v9 =>
  GoL env Tryz.f102 0 iK [(27,v9),(3,v8),(25,x25),(1,x1),(26,x26)] H3 Q) (
 doQ (aa ¢ 25 ~x1 1) fun v2 =>
 doQ (ai ¢ ¥H 23 ~v2) fun v3 =>
 doQ (ay ¢ false ¥H §H 39 .len #[23] [v3]) fun v4 =>
  GoL env Tryz.f102 0 iJ [(40,(.v (.int .i64 0))),(1,x1),(3,x3),(38,v3),(39,v4)] H Q)
theorem nH(x27 x3 x25 x1 x26:AV)(H:Heap)(Q:AV→Heap→Prop)(h : ∀g,lg g x27 x3 x25 x1 x26 H Q):GoL env Tryz.f102 0 iK [(27,x27),(3,x3),(25,x25),(1,x1),(26,x26)] H Q:=cZ fun g=>aU (live:=kn) (cut:=kI) (n:=500) (Eq.mp (by kernel_rfl) (h g))
def fb(g:Nat→AV)(x40 x1 x3 x38 x39:AV)(H:Heap)(Q:AV→Heap→Prop):Prop :=
 doQ (qBin ¢ .lss 3 °40 °39 ~x40 ~x39) fun v1 =>
 br ~v1 (
 doQ (aC ¢ ¥H 23 ~x38 ~x40) fun v2 =>
 doQ (ai ¢ ¥H 81 ~v2) fun v3 =>
 doW (nRes H §H 7 (ch ¢ §H 7 81)) fun v4 H1 =>
 doW (aG ¢ H1 81 ~v4 ~v3) fun v5 H2 =>
 gQ x3 true (aa ¢ 81 ~v4 0) fun v6 =>
 gQ x3 true (ai ¢ ¥H2 29 ~v6) fun v7 =>
 gW x3 true H2 (©false H2 49 76 [v7]) fun v8 H3 =>
 gQ x3 true (qBin ¢ .eql 42 °49 ¤0 ~v8 £0) fun v9 =>
 gQ x3 true (aa ¢ 81 ~v4 1) fun v10 =>
 gQ x3 true (ai ¢ ¥H3 3 ~v10) fun v11 =>
 gW x3 true H3 (©false H3 53 167 [v11,(.v (.int .i64 64))]) fun v12 H4 =>
 gQ x3 true (aa ¢ 81 ~v4 2) fun v13 =>
 gQ x3 true (ai ¢ ¥H4 3 ~v13) fun v14 =>
 gW x3 true H4 (©false H4 56 167 [v14,(.v (.int .i64 256))]) fun v15 H5 =>
 gQ x3 true (aa ¢ 81 ~v4 3) fun v16 =>
 gQ x3 true (ai ¢ ¥H5 3 ~v16) fun v17 =>
 gW x3 true H5 (©false H5 59 167 [v17,(.v (.int .i64 4096))]) fun v18 H6 =>
 gQ x3 true (qVal ~x40) fun v19 =>
 gQ x3 true (qBin ¢ .eql 3 °60 ¤0 ~v19 £0) fun v20 =>
 gQ x3 true (qVal ~v20) fun v21 =>
 gQ v21 false (aa ¢ 25 ~x1 1) fun v22 =>
 gQ v21 false (ai ¢ ¥H6 23 ~v22) fun v23 =>
 gQ v21 false (qVal ~x40) fun v24 =>
 gQ v21 false (qBin ¢ .sub 3 °65 ¤1 ~v24 £1) fun v25 =>
 gQ v21 false (ay ¢ true ¥H6 §H6 67 .max #[3,3] [v25,(.v (.int .i64 0))]) fun v26 =>
 gQ v21 false (aC ¢ ¥H6 23 ~v23 ~v26) fun v27 =>
 gQ v21 false (aa ¢ 81 ~v27 0) fun v28 =>
 gQ v21 false (ai ¢ ¥H6 29 ~v28) fun v29 =>
 gQ v21 false (aa ¢ 81 ~v4 0) fun v30 =>
 gQ v21 false (ai ¢ ¥H6 29 ~v30) fun v31 =>
 gW v21 false H6 (©false H6 73 169 [v29,v31]) fun v32 H7 =>
 gQ x3 true (bo ~v21 ¡ ~v32) fun v33 =>
 gW x3 true H7 (iB ¢ true false H7 §H7 75 262 5 (some [(0,v9),(1,v12),(2,v15),(3,v18),(4,v33)])) fun v34 H8 =>
 gW x3 true H8 (©false H8 76 166 [v34]) fun v35 H9 =>
 doQ (bo ~x3 ~v35 ¿) fun v36 =>
 doQ (qBin ¢ .add 3 °40 ¤1 ~x40 £1) fun v37 =>
  GoL env Tryz.f102 0 iJ [(40,v37),(1,x1),(3,v36),(38,x38),(39,x39)] H9 Q) (
 doQ (aa ¢ 25 ~x1 1) fun v2 =>
 doQ (ai ¢ ¥H 23 ~v2) fun v3 =>
 doQ (aa ¢ 25 ~x1 1) fun v4 =>
 doQ (ai ¢ ¥H 23 ~v4) fun v5 =>
 doQ (ay ¢ false ¥H §H 83 .len #[23] [v5]) fun v6 =>
 doQ (ay ¢ false ¥H §H 84 .min #[3,3] [v6,(.v (.int .i64 8))]) fun v7 =>
 doQ (eB ¢ ¥H 23 ~v3 (some none) (oi v7) (some none)) fun v8 =>
 doQ (ay ¢ false ¥H §H 86 .len #[23] [v8]) fun v9 =>
  GoL env Tryz.f102 0 ig [(87,(.v (.int .i64 0))),(8,(.v (.int .i64 0))),(85,v8),(1,x1),(3,x3),(86,v9)] H Q)
theorem nG(x40 x1 x3 x38 x39:AV)(H:Heap)(Q:AV→Heap→Prop)(h : ∀g,fb g x40 x1 x3 x38 x39 H Q):GoL env Tryz.f102 0 iJ [(40,x40),(1,x1),(3,x3),(38,x38),(39,x39)] H Q:=cZ fun g=>aU (live:=kn) (cut:=kI) (n:=500) (Eq.mp (by kernel_rfl) (h g))
def kR(g:Nat→AV)(x87 x8 x85 x1 x3 x86:AV)(H:Heap)(Q:AV→Heap→Prop):Prop :=
 doQ (qBin ¢ .lss 3 °87 °86 ~x87 ~x86) fun v1 =>
 br ~v1 (
 doQ (aC ¢ ¥H 23 ~x85 ~x87) fun v2 =>
 doQ (ai ¢ ¥H 81 ~v2) fun v3 =>
 doW (nRes H §H 10 (ch ¢ §H 10 81)) fun v4 H1 =>
 doW (aG ¢ H1 81 ~v4 ~v3) fun v5 H2 =>
 doQ (aa ¢ 81 ~v4 3) fun v6 =>
 doQ (ai ¢ ¥H2 3 ~v6) fun v7 =>
 doQ (ay ¢ false ¥H2 §H2 94 .max #[3,3] [v7,(.v (.int .i64 0))]) fun v8 =>
 doQ (ay ¢ false ¥H2 §H2 95 .min #[3,3] [v8,(.v (.int .i64 4096))]) fun v9 =>
 doQ (qBin ¢ .add 3 °91 °95 ~x8 ~v9) fun v10 =>
 doQ (qBin ¢ .add 3 °87 ¤1 ~x87 £1) fun v11 =>
  GoL env Tryz.f102 0 ig [(87,v11),(8,v10),(85,x85),(1,x1),(3,x3),(86,x86)] H2 Q) (
 doQ (qUn ¢ .not ~x3) fun v2 =>
 gQ v2 false (ai ¢ ¥H 25 ~x1) fun v3 =>
 gW v2 false H (©true H 102 103 [v3]) fun v4 H1 =>
 gQ v2 false (qBin ¢ .gtr 3 °102 ¤2048 ~v4 £2048) fun v5 =>
 doQ (bo ~v2 ¡ ~v5) fun v6 =>
 gQ v6 false (qVal ~x8) fun v7 =>
 gQ v6 false (qBin ¢ .gtr 3 °106 ¤8192 ~v7 £8192) fun v8 =>
 doQ (bo ~v6 ¡ ~v8) fun v9 =>
 br ~v9 (
 Q (.v (.int .i64 8)) H1) (
 Q (.v (.int .i64 0)) H1))
theorem mP(x87 x8 x85 x1 x3 x86:AV)(H:Heap)(Q:AV→Heap→Prop)(h : ∀g,kR g x87 x8 x85 x1 x3 x86 H Q):GoL env Tryz.f102 0 ig [(87,x87),(8,x8),(85,x85),(1,x1),(3,x3),(86,x86)] H Q:=cZ fun g=>aU (live:=kn) (cut:=kI) (n:=500) (Eq.mp (by kernel_rfl) (h g))
noncomputable def lU:Code:=(Tryz.f103.body).getD .skip
noncomputable def ic:List Item:=(bO 3 400 [.code lU]).getD []
def oY:Nat→Option (List Nat):=fun i=>cond (Nat.beq i 3) (some [11,3,9,10]) (none)
def o4:Nat→Bool:=fun i=>false
def pd(g:Nat→AV)(x0:AV)(H:Heap)(Q:AV→Heap→Prop):Prop :=
 doW (nRes H §H 1 (qBox ¢ §H 1 25 ~x0)) fun v1 H1 =>
 doQ (aa ¢ 25 ~v1 2) fun v2 =>
 doQ (ai ¢ ¥H1 3 ~v2) fun v3 =>
 doQ (aa ¢ 25 ~v1 1) fun v4 =>
 doQ (ai ¢ ¥H1 23 ~v4) fun v5 =>
 doQ (ay ¢ false ¥H1 §H1 10 .len #[23] [v5]) fun v6 =>
  GoL env Tryz.f103 0 ic [(11,(.v (.int .i64 0))),(3,v3),(9,v5),(10,v6)] H1 Q
theorem uC(x0:AV)(H:Heap)(Q:AV→Heap→Prop)(h : ∀g,pd g x0 H Q):GoL env Tryz.f103 0 [.code lU] [(0,x0)] H Q:=⟨fun g=>aU (live:=oY) (cut:=o4) (n:=500) (Eq.mp (by kernel_rfl) (h g))⟩
def kQ(g:Nat→AV)(x11 x3 x9 x10:AV)(H:Heap)(Q:AV→Heap→Prop):Prop :=
 doQ (qBin ¢ .lss 3 °11 °10 ~x11 ~x10) fun v1 =>
 br ~v1 (
 doQ (aC ¢ ¥H 23 ~x9 ~x11) fun v2 =>
 doQ (ai ¢ ¥H 81 ~v2) fun v3 =>
 doW (nRes H §H 5 (ch ¢ §H 5 81)) fun v4 H1 =>
 doW (aG ¢ H1 81 ~v4 ~v3) fun v5 H2 =>
 doQ (aa ¢ 81 ~v4 1) fun v6 =>
 doQ (ai ¢ ¥H2 3 ~v6) fun v7 =>
 doQ (aa ¢ 81 ~v4 2) fun v8 =>
 doQ (ai ¢ ¥H2 3 ~v8) fun v9 =>
 doQ (qBin ¢ .mul 3 ¤4 °19 £4 ~v9) fun v10 =>
 doQ (qBin ¢ .add 3 °17 °20 ~v7 ~v10) fun v11 =>
 doQ (qBin ¢ .add 3 °15 °21 ~x3 ~v11) fun v12 =>
 doQ (qBin ¢ .add 3 °11 ¤1 ~x11 £1) fun v13 =>
  GoL env Tryz.f103 0 ic [(11,v13),(3,v12),(9,x9),(10,x10)] H2 Q) (
 Q x3 H)
theorem mO(x11 x3 x9 x10:AV)(H:Heap)(Q:AV→Heap→Prop)(h : ∀g,kQ g x11 x3 x9 x10 H Q):GoL env Tryz.f103 0 ic [(11,x11),(3,x3),(9,x9),(10,x10)] H Q:=cZ fun g=>aU (live:=oY) (cut:=o4) (n:=500) (Eq.mp (by kernel_rfl) (h g))
noncomputable def pM:Code:=(Tryz.f104.body).getD .skip
def vZ:Nat→Option (List Nat):=fun i=>none
def wK:Nat→Bool:=fun i=>false
def p5(g:Nat→AV)(x0 x1:AV)(H:Heap)(Q:AV→Heap→Prop):Prop :=
 doW (nRes H §H 2 (qBox ¢ §H 2 25 ~x0)) fun v1 H1 =>
 doW (nRes H1 §H1 3 (qBox ¢ §H1 3 29 ~x1)) fun v2 H2 =>
 doQ (ai ¢ ¥H2 25 ~v1) fun v3 =>
 doW (©false H2 6 102 [v3]) fun v4 H3 =>
 doQ (ai ¢ ¥H3 29 ~v2) fun v5 =>
 doW (©false H3 8 76 [v5]) fun v6 H4 =>
 doQ (ay ¢ true ¥H4 §H4 9 .max #[42,42] [v4,v6]) fun v7 =>
 Q v7 H4
theorem vm(x0 x1:AV)(H:Heap)(Q:AV→Heap→Prop)(h : ∀g,p5 g x0 x1 H Q):GoL env Tryz.f104 0 [.code pM] [(0,x0),(1,x1)] H Q:=⟨fun g=>aU (live:=vZ) (cut:=wK) (n:=500) (Eq.mp (by kernel_rfl) (h g))⟩
noncomputable def cw:Code:=(Tryz.f105.body).getD .skip
def eg:Nat→Option (List Nat):=fun i=>none
def ei:Nat→Bool:=fun i=>false
def cx(g:Nat→AV)(x0 x1 x2:AV)(H:Heap)(Q:AV→Heap→Prop):Prop :=
 doW (nRes H §H 4 (qBox ¢ §H 4 29 ~x1)) fun v1 H1 =>
 doW (nRes H1 §H1 5 (qBox ¢ §H1 5 180 ~x2)) fun v2 H2 =>
 doW (nRes H2 §H2 6 (ch ¢ §H2 6 81)) fun v3 H3 =>
 doQ (sc (.func 171) (some []) (some [v2,v1])) fun v4 =>
 doW (©true H3 11 170 [x0,v4]) fun v5 H4 =>
 doQ (qBin ¢ .lss 3 °12 ¤0 ~v5 £0) fun v6 =>
 br ~v6 (
 doQ (ai ¢ ¥H4 81 ~v3) fun v7 =>
 doW (aG ¢ H4 81 ~v3 ~v7) fun v8 H5 =>
 doQ (cJ ¢ H5 v3 81) fun v9 =>
 Q (.tup [v9,(.v (.bool false))]) H5) (
 doQ (aC ¢ ¥H4 23 ~x0 ~v5) fun v7 =>
 doQ (ai ¢ ¥H4 81 ~v7) fun v8 =>
 doW (aG ¢ H4 81 ~v3 ~v8) fun v9 H5 =>
 doQ (cJ ¢ H5 v3 81) fun v10 =>
 Q (.tup [v10,(.v (.bool true))]) H5)
theorem ef(x0 x1 x2:AV)(H:Heap)(Q:AV→Heap→Prop)(h : ∀g,cx g x0 x1 x2 H Q):GoL env Tryz.f105 0 [.code cw] [(0,x0),(1,x1),(2,x2)] H Q:=⟨fun g=>aU (live:=eg) (cut:=ei) (n:=500) (Eq.mp (by kernel_rfl) (h g))⟩
noncomputable def oh:Code:=(Tryz.f106.body).getD .skip
def tv:Nat→Option (List Nat):=fun i=>none
def tE:Nat→Bool:=fun i=>false
def oy(g:Nat→AV)(x0:AV)(H:Heap)(Q:AV→Heap→Prop):Prop :=
 doW (nRes H §H 1 (qBox ¢ §H 1 81 ~x0)) fun v1 H1 =>
 doW (nRes H1 §H1 2 (ch ¢ §H1 2 29)) fun v2 H2 =>
 doQ (aa ¢ 81 ~v1 0) fun v3 =>
 doQ (ai ¢ ¥H2 29 ~v3) fun v4 =>
 doW (aG ¢ H2 29 ~v2 ~v4) fun v5 H3 =>
 doQ (cJ ¢ H3 v2 29) fun v6 =>
 Q v6 H3
theorem s7(x0:AV)(H:Heap)(Q:AV→Heap→Prop)(h : ∀g,oy g x0 H Q):GoL env Tryz.f106 0 [.code oh] [(0,x0)] H Q:=⟨fun g=>aU (live:=tv) (cut:=tE) (n:=500) (Eq.mp (by kernel_rfl) (h g))⟩
noncomputable def qV:Code:=(Tryz.f160.body).getD .skip
def xB:Nat→Option (List Nat):=fun i=>none
def xT:Nat→Bool:=fun i=>false
def q9(g:Nat→AV)(x0:AV)(H:Heap)(Q:AV→Heap→Prop):Prop :=
 doW (nRes H §H 1 (qBox ¢ §H 1 25 ~x0)) fun v1 H1 =>
 doW (nRes H1 §H1 2 (ch ¢ §H1 2 25)) fun v2 H2 =>
 doQ (aa ¢ 25 ~v1 0) fun v3 =>
 doQ (ai ¢ ¥H2 22 ~v3) fun v4 =>
 doW (©false H2 5 205 [v4]) fun v5 H3 =>
 doQ (aa ¢ 25 ~v1 1) fun v6 =>
 doQ (ai ¢ ¥H3 23 ~v6) fun v7 =>
 doW (©false H3 8 206 [v7]) fun v8 H4 =>
 doQ (aa ¢ 25 ~v1 0) fun v9 =>
 doW (aG ¢ H4 22 ~v9 ~v5) fun v10 H5 =>
 doQ (aa ¢ 25 ~v1 1) fun v11 =>
 doW (aG ¢ H5 23 ~v11 ~v8) fun v12 H6 =>
 doQ (ai ¢ ¥H6 25 ~v1) fun v13 =>
 doW (aG ¢ H6 25 ~v2 ~v13) fun v14 H7 =>
 doQ (cJ ¢ H7 v2 25) fun v15 =>
 Q v15 H7
theorem xg(x0:AV)(H:Heap)(Q:AV→Heap→Prop)(h : ∀g,q9 g x0 H Q):GoL env Tryz.f160 0 [.code qV] [(0,x0)] H Q:=⟨fun g=>aU (live:=xB) (cut:=xT) (n:=500) (Eq.mp (by kernel_rfl) (h g))⟩
noncomputable def sJ:Code:=(Tryz.f166.body).getD .skip
def zF:Nat→Option (List Nat):=fun i=>none
def zZ:Nat→Bool:=fun i=>false
def sT(g:Nat→AV)(x0:AV)(H:Heap)(Q:AV→Heap→Prop):Prop :=
 doW (©true H 4 212 [x0,(.v (.bool false))]) fun v1 H1 =>
 doQ (qUn ¢ .not ~v1) fun v2 =>
 Q v2 H1
theorem yR(x0:AV)(H:Heap)(Q:AV→Heap→Prop)(h : ∀g,sT g x0 H Q):GoL env Tryz.f166 0 [.code sJ] [(0,x0)] H Q:=⟨fun g=>aU (live:=zF) (cut:=zZ) (n:=500) (Eq.mp (by kernel_rfl) (h g))⟩
noncomputable def qU:Code:=(Tryz.f167.body).getD .skip
def xA:Nat→Option (List Nat):=fun i=>none
def xS:Nat→Bool:=fun i=>false
def q7(g:Nat→AV)(x0 x1:AV)(H:Heap)(Q:AV→Heap→Prop):Prop :=
 doQ (qBin ¢ .geq 3 °5 ¤0 ~x0 £0) fun v1 =>
 gQ v1 true (qVal ~x0) fun v2 =>
 gQ v1 true (qVal ~x1) fun v3 =>
 gQ v1 true (qBin ¢ .leq 3 °8 °9 ~v2 ~v3) fun v4 =>
 doQ (bo ~v1 ~v4 ¿) fun v5 =>
 Q v5 H
theorem xf(x0 x1:AV)(H:Heap)(Q:AV→Heap→Prop)(h : ∀g,q7 g x0 x1 H Q):GoL env Tryz.f167 0 [.code qU] [(0,x0),(1,x1)] H Q:=⟨fun g=>aU (live:=xA) (cut:=xS) (n:=500) (Eq.mp (by kernel_rfl) (h g))⟩
noncomputable def pL:Code:=(Tryz.f168.body).getD .skip
def vY:Nat→Option (List Nat):=fun i=>none
def wJ:Nat→Bool:=fun i=>false
def p4(g:Nat→AV)(x0:AV)(H:Heap)(Q:AV→Heap→Prop):Prop :=
 doW (nRes H §H 1 (qBox ¢ §H 1 58 ~x0)) fun v1 H1 =>
 doQ (aa ¢ 58 ~v1 0) fun v2 =>
 doQ (ai ¢ ¥H1 29 ~v2) fun v3 =>
 doW (©false H1 5 76 [v3]) fun v4 H2 =>
 doQ (qBin ¢ .eql 42 °5 ¤0 ~v4 £0) fun v5 =>
 gQ v5 true (aa ¢ 58 ~v1 1) fun v6 =>
 gQ v5 true (ai ¢ ¥H2 4 ~v6) fun v7 =>
 gQ v5 true (qVal ~v7) fun v8 =>
 gQ v8 false (aa ¢ 58 ~v1 0) fun v9 =>
 gQ v8 false (ai ¢ ¥H2 29 ~v9) fun v10 =>
 gW v8 false H2 (©false H2 13 185 []) fun v11 H3 =>
 gQ v8 false (qBin ¢ .eql 29 °12 °13 ~v10 ~v11) fun v12 =>
 gQ v5 true (bo ~v8 ¡ ~v12) fun v13 =>
 doQ (bo ~v5 ~v13 ¿) fun v14 =>
 Q v14 H3
theorem vl(x0:AV)(H:Heap)(Q:AV→Heap→Prop)(h : ∀g,p4 g x0 H Q):GoL env Tryz.f168 0 [.code pL] [(0,x0)] H Q:=⟨fun g=>aU (live:=vY) (cut:=wJ) (n:=500) (Eq.mp (by kernel_rfl) (h g))⟩
noncomputable def bf:Code:=(Tryz.f170.body).getD .skip
noncomputable def aE:List Item:=(bO 2 400 [.code bf]).getD []
def bJ:Nat→Option (List Nat):=fun i=>cond (Nat.beq i 2) (some [8,0,1,7]) (none)
def bK:Nat→Bool:=fun i=>false
def bL(g:Nat→AV)(x0 x1:AV)(H:Heap)(Q:AV→Heap→Prop):Prop :=
 doQ (ay ¢ false ¥H §H 7 .len #[23] [x0]) fun v1 =>
  GoL env Tryz.f170 0 aE [(8,(.v (.int .i64 0))),(0,x0),(1,x1),(7,v1)] H Q
theorem dz(x0 x1:AV)(H:Heap)(Q:AV→Heap→Prop)(h : ∀g,bL g x0 x1 H Q):GoL env Tryz.f170 0 [.code bf] [(0,x0),(1,x1)] H Q:=⟨fun g=>aU (live:=bJ) (cut:=bK) (n:=500) (Eq.mp (by kernel_rfl) (h g))⟩
def aZ(g:Nat→AV)(x8 x0 x1 x7:AV)(H:Heap)(Q:AV→Heap→Prop):Prop :=
 doQ (qBin ¢ .lss 3 °8 °7 ~x8 ~x7) fun v1 =>
 br ~v1 (
 doQ (aC ¢ ¥H 23 ~x0 ~x8) fun v2 =>
 doQ (ai ¢ ¥H 81 ~v2) fun v3 =>
 doW (aK env true (limf env) (limt env 0) H §H 16 ~x1 [v3]) fun v4 H1 =>
 br ~v4 (
 Q x8 H1) (
 doQ (qBin ¢ .add 3 °8 ¤1 ~x8 £1) fun v5 =>
  GoL env Tryz.f170 0 aE [(8,v5),(0,x0),(1,x1),(7,x7)] H1 Q)) (
 Q (.v (.int .i64 (-1))) H)
theorem bH(x8 x0 x1 x7:AV)(H:Heap)(Q:AV→Heap→Prop)(h : ∀g,aZ g x8 x0 x1 x7 H Q):GoL env Tryz.f170 0 aE [(8,x8),(0,x0),(1,x1),(7,x7)] H Q:=cZ fun g=>aU (live:=bJ) (cut:=bK) (n:=500) (Eq.mp (by kernel_rfl) (h g))
noncomputable def cl:Code:=(Tryz.f171.body).getD .skip
def dX:Nat→Option (List Nat):=fun i=>none
def dY:Nat→Bool:=fun i=>false
def cm(g:Nat→AV)(x0 x1 x2:AV)(H:Heap)(Q:AV→Heap→Prop):Prop :=
 doW (nRes H §H 3 (qBox ¢ §H 3 81 ~x0)) fun v1 H1 =>
 doQ (ai ¢ ¥H1 180 ~x1) fun v2 =>
 doQ (ai ¢ ¥H1 81 ~v1) fun v3 =>
 doW (aK env false (limf env) (limt env 0) H1 §H1 7 ~v2 [v3]) fun v4 H2 =>
 doQ (ai ¢ ¥H2 29 ~x2) fun v5 =>
 doQ (qBin ¢ .eql 29 °7 °8 ~v4 ~v5) fun v6 =>
 Q v6 H2
theorem dV(x0 x1 x2:AV)(H:Heap)(Q:AV→Heap→Prop)(h : ∀g,cm g x0 x1 x2 H Q):GoL env Tryz.f171 0 [.code cl] [(0,x0),(1,x1),(2,x2)] H Q:=⟨fun g=>aU (live:=dX) (cut:=dY) (n:=500) (Eq.mp (by kernel_rfl) (h g))⟩
noncomputable def sK:Code:=(Tryz.f174.body).getD .skip
def zG:Nat→Option (List Nat):=fun i=>none
def z0:Nat→Bool:=fun i=>false
def sU(g:Nat→AV)(x0 x1 x2:AV)(H:Heap)(Q:AV→Heap→Prop):Prop :=
 doW (nRes H §H 3 (qBox ¢ §H 3 25 ~x0)) fun v1 H1 =>
 doW (nRes H1 §H1 5 (qBox ¢ §H1 5 29 ~x2)) fun v2 H2 =>
 doQ (ai ¢ ¥H2 25 ~v1) fun v3 =>
 doQ (ai ¢ ¥H2 29 ~v2) fun v4 =>
 doW (©true H2 12 104 [v3,v4]) fun v5 H3 =>
 doQ (qBin ¢ .neq 42 °13 ¤0 ~v5 £0) fun v6 =>
 br ~v6 (
 Q (.tup [(.v (.bool false)),v5]) H3) (
 doQ (qBin ¢ .lss 3 °16 ¤0 ~x1 £0) fun v7 =>
 gQ v7 false (qVal ~x1) fun v8 =>
 gQ v7 false (aa ¢ 25 ~v1 0) fun v9 =>
 gQ v7 false (ai ¢ ¥H3 22 ~v9) fun v10 =>
 gQ v7 false (ay ¢ false ¥H3 §H3 22 .len #[22] [v10]) fun v11 =>
 gQ v7 false (qBin ¢ .geq 3 °19 °22 ~v8 ~v11) fun v12 =>
 doQ (bo ~v7 ¡ ~v12) fun v13 =>
 br ~v13 (
 Q (.tup [(.v (.bool false)),(.v (.int .i64 0))]) H3) (
 doQ (aa ¢ 25 ~v1 0) fun v14 =>
 doQ (ai ¢ ¥H3 22 ~v14) fun v15 =>
 doQ (aC ¢ ¥H3 22 ~v15 ~x1) fun v16 =>
 doQ (ai ¢ ¥H3 58 ~v16) fun v17 =>
 doW (nRes H3 §H3 9 (ch ¢ §H3 9 58)) fun v18 H4 =>
 doW (aG ¢ H4 58 ~v18 ~v17) fun v19 H5 =>
 doQ (aa ¢ 58 ~v18 1) fun v20 =>
 doQ (ai ¢ ¥H5 4 ~v20) fun v21 =>
 gQ v21 true (ai ¢ ¥H5 29 ~v2) fun v22 =>
 gQ v21 true (aa ¢ 58 ~v18 0) fun v23 =>
 gQ v21 true (ai ¢ ¥H5 29 ~v23) fun v24 =>
 gW v21 true H5 (©true H5 36 47 [v22,v24]) fun v25 H6 =>
 doQ (bo ~v21 ~v25 ¿) fun v26 =>
 Q (.tup [v26,(.v (.int .i64 0))]) H6))
theorem yS(x0 x1 x2:AV)(H:Heap)(Q:AV→Heap→Prop)(h : ∀g,sU g x0 x1 x2 H Q):GoL env Tryz.f174 0 [.code sK] [(0,x0),(1,x1),(2,x2)] H Q:=⟨fun g=>aU (live:=zG) (cut:=z0) (n:=500) (Eq.mp (by kernel_rfl) (h g))⟩
noncomputable def aO:Code:=(Tryz.f205.body).getD .skip
def dQ:Nat→Option (List Nat):=fun i=>none
def dT:Nat→Bool:=fun i=>false
def aQ(g:Nat→AV)(x0:AV)(H:Heap)(Q:AV→Heap→Prop):Prop :=
 doQ (qBin ¢ .eql 22 °3 (.const (.slice none 0 0)) ~x0 (some (.v (.slice none 0 0)))) fun v1 =>
 br ~v1 (
 Q (.v (.slice none 0 0)) H) (
 doW (iB ¢ false true H §H 5 22 0 (some [])) fun v2 H1 =>
 doW (dk ¢ true H1 §H1 7 (some 22) (some 22) v2 x0) fun v3 H2 =>
 Q v3 H2)
theorem bu(x0:AV)(H:Heap)(Q:AV→Heap→Prop)(h : ∀g,aQ g x0 H Q):GoL env Tryz.f205 0 [.code aO] [(0,x0)] H Q:=⟨fun g=>aU (live:=dQ) (cut:=dT) (n:=500) (Eq.mp (by kernel_rfl) (h g))⟩
noncomputable def aN:Code:=(Tryz.f206.body).getD .skip
def dP:Nat→Option (List Nat):=fun i=>none
def dS:Nat→Bool:=fun i=>false
def aP(g:Nat→AV)(x0:AV)(H:Heap)(Q:AV→Heap→Prop):Prop :=
 doQ (qBin ¢ .eql 23 °3 (.const (.slice none 0 0)) ~x0 (some (.v (.slice none 0 0)))) fun v1 =>
 br ~v1 (
 Q (.v (.slice none 0 0)) H) (
 doW (iB ¢ false true H §H 5 23 0 (some [])) fun v2 H1 =>
 doW (dk ¢ true H1 §H1 7 (some 23) (some 23) v2 x0) fun v3 H2 =>
 Q v3 H2)
theorem bt(x0:AV)(H:Heap)(Q:AV→Heap→Prop)(h : ∀g,aP g x0 H Q):GoL env Tryz.f206 0 [.code aN] [(0,x0)] H Q:=⟨fun g=>aU (live:=dP) (cut:=dS) (n:=500) (Eq.mp (by kernel_rfl) (h g))⟩
noncomputable def gq:Code:=(Tryz.f212.body).getD .skip
def k8:Nat→Option (List Nat):=fun i=>none
def lb:Nat→Bool:=fun i=>false
def gx(g:Nat→AV)(x0 x1:AV)(H:Heap)(Q:AV→Heap→Prop):Prop :=
 doW (©true H 7 227 [x0,x1]) fun v1 H1 =>
 doQ (qBin ¢ .geq 3 °7 ¤0 ~v1 £0) fun v2 =>
 Q v2 H1
theorem kZ(x0 x1:AV)(H:Heap)(Q:AV→Heap→Prop)(h : ∀g,gx g x0 x1 H Q):GoL env Tryz.f212 0 [.code gq] [(0,x0),(1,x1)] H Q:=⟨fun g=>aU (live:=k8) (cut:=lb) (n:=500) (Eq.mp (by kernel_rfl) (h g))⟩
noncomputable def eW:Code:=(Tryz.f227.body).getD .skip
noncomputable def cY:List Item:=(bO 2 400 [.code eW]).getD []
def ib:Nat→Option (List Nat):=fun i=>cond (Nat.beq i 2) (some [8,0,1,7]) (none)
def il:Nat→Bool:=fun i=>false
def ir(g:Nat→AV)(x0 x1:AV)(H:Heap)(Q:AV→Heap→Prop):Prop :=
 doQ (ay ¢ false ¥H §H 7 .len #[262] [x0]) fun v1 =>
  GoL env Tryz.f227 0 cY [(8,(.v (.int .i64 0))),(0,x0),(1,x1),(7,v1)] H Q
theorem lZ(x0 x1:AV)(H:Heap)(Q:AV→Heap→Prop)(h : ∀g,ir g x0 x1 H Q):GoL env Tryz.f227 0 [.code eW] [(0,x0),(1,x1)] H Q:=⟨fun g=>aU (live:=ib) (cut:=il) (n:=500) (Eq.mp (by kernel_rfl) (h g))⟩
def ep(g:Nat→AV)(x8 x0 x1 x7:AV)(H:Heap)(Q:AV→Heap→Prop):Prop :=
 doQ (qBin ¢ .lss 3 °8 °7 ~x8 ~x7) fun v1 =>
 br ~v1 (
 doQ (aC ¢ ¥H 262 ~x0 ~x8) fun v2 =>
 doQ (ai ¢ ¥H 4 ~v2) fun v3 =>
 doQ (qBin ¢ .eql 4 °11 °15 ~x1 ~v3) fun v4 =>
 br ~v4 (
 Q x8 H) (
 doQ (qBin ¢ .add 3 °8 ¤1 ~x8 £1) fun v5 =>
  GoL env Tryz.f227 0 cY [(8,v5),(0,x0),(1,x1),(7,x7)] H Q)) (
 Q (.v (.int .i64 (-1))) H)
theorem gA(x8 x0 x1 x7:AV)(H:Heap)(Q:AV→Heap→Prop)(h : ∀g,ep g x8 x0 x1 x7 H Q):GoL env Tryz.f227 0 cY [(8,x8),(0,x0),(1,x1),(7,x7)] H Q:=cZ fun g=>aU (live:=ib) (cut:=il) (n:=500) (Eq.mp (by kernel_rfl) (h g))
end Go.Proofs.YtmkmimgokagimaaGreat
