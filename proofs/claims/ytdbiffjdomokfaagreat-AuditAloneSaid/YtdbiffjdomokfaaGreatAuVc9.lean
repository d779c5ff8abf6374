/-
  What is to be shown of each function, computed from its code. No statement of a seat is proved here.
-/
import Derived.Test.YtdbiffjdomokfaaGreatAuTy
set_option linter.unusedVariables false
set_option maxRecDepth 1000000
namespace Go.Proofs.YtdbiffjdomokfaaGreat
open Go.Ab
local notation:max "©" b:max h:max n:max f:max a:max=>bo env b (bj env) (bV env 0) h (Ref.mk 0 n (ab.gen h 0 n) 0) (some (AV.fn (Fn.func f) [] [])) a
local notation:max "§" h:max n:max=>Ref.mk 0 n (ab.gen h 0 n) 0
local notation:max "~" a:max=>some a
local notation:max "¥" h:max=>ab.get h
local notation:max "¤" n:max=>(Operand.const (Value.int IntKind.i64 n))
local notation:max "£" n:max=>some (AV.v (Value.int IntKind.i64 n))
local notation:max "¡" => some (AV.v (Value.bool true))
local notation:max "¿" => some (AV.v (Value.bool false))
local notation:max "°" n:max=>(Operand.tmp n)
local notation:max "¢" => env.P
noncomputable def jv:Code:=(Tryz.f13.body).getD .skip
noncomputable def eJ:List Item:=(b7 3 400 [.code jv]).getD []
def mr:Nat→Option (List Nat):=fun i=>cond (Nat.beq i 3) (some [8,1,7,2,3]) (none)
def mB:Nat→Bool:=fun i=>false
def jy(g:Nat→AV)(x0 x1 x2:AV)(H:ab)(Q:AV→ab→Prop):Prop :=
 aO (bm H §H 3 (cD ¢ §H 3 29 ~x0)) fun v1 H1 =>
  bT env Tryz.f13 0 eJ [(8,(.v (.int .i64 0))),(1,x1),(7,(.v (.int .i64 0))),(2,x2),(3,v1)] H1 Q
theorem rS(x0 x1 x2:AV)(H:ab)(Q:AV→ab→Prop)(h : ∀g,jy g x0 x1 x2 H Q):bT env Tryz.f13 0 [.code jv] [(0,x0),(1,x1),(2,x2)] H Q:=⟨fun g=>aX (live:=mr) (cut:=mB) (n:=500) (Eq.mp (by kernel_rfl) (h g))⟩
def fx(g:Nat→AV)(x8 x1 x7 x2 x3:AV)(H:ab)(Q:AV→ab→Prop):Prop :=
 ak (aJ ¢ false ¥H §H 11 .len #[31] [x1]) fun v1 =>
 ak (aE ¢ .lss 3 °9 °11 ~x8 ~v1) fun v2 =>
 gQ v2 true (cF ~x8) fun v3 =>
 gQ v2 true (aE ¢ .lss 3 °14 ¤300 ~v3 £300) fun v4 =>
 ak (bq ~v2 ~v4 ¿) fun v5 =>
 br ~v5 (
 ak (aM ¢ ¥H 31 ~x1 ~x8) fun v6 =>
 ak (aa ¢ 56 ~v6 2) fun v7 =>
 ak (aa ¢ 50 ~v7 3) fun v8 =>
 ak (aa ¢ 47 ~v8 1) fun v9 =>
 ak (aj ¢ ¥H 3 ~v9) fun v10 =>
 ak (aJ ¢ true ¥H §H 27 .max #[3,3] [v10,(.v (.int .i64 0))]) fun v11 =>
 ak (aJ ¢ true ¥H §H 28 .min #[3,3] [v11,(.v (.int .i64 100))]) fun v12 =>
 ak (aM ¢ ¥H 31 ~x1 ~x8) fun v13 =>
 ak (aa ¢ 56 ~v13 2) fun v14 =>
 ak (aa ¢ 50 ~v14 6) fun v15 =>
 ak (aj ¢ ¥H 48 ~v15) fun v16 =>
 ak (aJ ¢ false ¥H §H 35 .len #[48] [v16]) fun v17 =>
 ak (aJ ¢ true ¥H §H 36 .min #[3,3] [v17,(.v (.int .i64 1000))]) fun v18 =>
 ak (aJ ¢ true ¥H §H 37 .max #[3,3] [v12,v18]) fun v19 =>
 ak (aE ¢ .add 3 °19 °37 ~x7 ~v19) fun v20 =>
 ak (aE ¢ .add 3 °17 ¤1 ~x8 £1) fun v21 =>
  bT env Tryz.f13 0 eJ [(8,v21),(1,x1),(7,v20),(2,x2),(3,x3)] H Q) (
 ak (aj ¢ ¥H 29 ~x3) fun v6 =>
 aO (©true H 40 25 [v6]) fun v7 H1 =>
 gQ v7 false (cF ~x1) fun v8 =>
 gQ v7 false (aJ ¢ false ¥H1 §H1 43 .len #[31] [v8]) fun v9 =>
 gQ v7 false (cF ~x2) fun v10 =>
 gQ v7 false (aE ¢ .gtr 3 °43 °44 ~v9 ~v10) fun v11 =>
 ak (bq ~v7 ¡ ~v11) fun v12 =>
 gQ v12 false (cF ~x7) fun v13 =>
 gQ v12 false (aE ¢ .gtr 3 °48 ¤300 ~v13 £300) fun v14 =>
 ak (bq ~v12 ¡ ~v14) fun v15 =>
 Q v15 H1)
theorem lz(x8 x1 x7 x2 x3:AV)(H:ab)(Q:AV→ab→Prop)(h : ∀g,fx g x8 x1 x7 x2 x3 H Q):bT env Tryz.f13 0 eJ [(8,x8),(1,x1),(7,x7),(2,x2),(3,x3)] H Q:=dx fun g=>aX (live:=mr) (cut:=mB) (n:=500) (Eq.mp (by kernel_rfl) (h g))
noncomputable def vH:Code:=(Tryz.f21.body).getD .skip
def Cm:Nat→Option (List Nat):=fun i=>none
def CX:Nat→Bool:=fun i=>false
def vP(g:Nat→AV)(x0 x1 x2:AV)(H:ab)(Q:AV→ab→Prop):Prop :=
 aO (bm H §H 3 (cD ¢ §H 3 29 ~x0)) fun v1 H1 =>
 aO (bm H1 §H1 5 (cD ¢ §H1 5 35 ~x2)) fun v2 H2 =>
 ak (aj ¢ ¥H2 29 ~v1) fun v3 =>
 ak (aj ¢ ¥H2 35 ~v2) fun v4 =>
 aO (©false H2 11 33 [v4]) fun v5 H3 =>
 ak (sG (.func 34) (some []) (some [v2])) fun v6 =>
 aO (©true H3 13 32 [v3,x1,v5,v6]) fun v7 H4 =>
 ak (aF ~v7 0) fun v8 =>
 ak (aF ~v7 1) fun v9 =>
 Q (.tup [v8,v9]) H4
theorem BE(x0 x1 x2:AV)(H:ab)(Q:AV→ab→Prop)(h : ∀g,vP g x0 x1 x2 H Q):bT env Tryz.f21 0 [.code vH] [(0,x0),(1,x1),(2,x2)] H Q:=⟨fun g=>aX (live:=Cm) (cut:=CX) (n:=500) (Eq.mp (by kernel_rfl) (h g))⟩
noncomputable def uy:Code:=(Tryz.f22.body).getD .skip
def A8:Nat→Option (List Nat):=fun i=>none
def Bf:Nat→Bool:=fun i=>false
def uG(g:Nat→AV)(x0 x1:AV)(H:ab)(Q:AV→ab→Prop):Prop :=
 aO (bm H §H 2 (cD ¢ §H 2 29 ~x0)) fun v1 H1 =>
 ak (aj ¢ ¥H1 29 ~v1) fun v2 =>
 aO (©true H1 10 35 [v2,x1]) fun v3 H2 =>
 ak (aF ~v3 0) fun v4 =>
 ak (aF ~v3 1) fun v5 =>
 ak (wM ¢ .not ~v5) fun v6 =>
 br ~v6 (
 Q (.v (.int .i64 8)) H2) (
 Q (.v (.int .i64 0)) H2)
theorem AY(x0 x1:AV)(H:ab)(Q:AV→ab→Prop)(h : ∀g,uG g x0 x1 H Q):bT env Tryz.f22 0 [.code uy] [(0,x0),(1,x1)] H Q:=⟨fun g=>aX (live:=A8) (cut:=Bf) (n:=500) (Eq.mp (by kernel_rfl) (h g))⟩
noncomputable def fV:Code:=(Tryz.f32.body).getD .skip
def kZ:Nat→Option (List Nat):=fun i=>none
def k7:Nat→Bool:=fun i=>false
def fX(dep:Nat)(g:Nat→AV)(x0 x1 x2 x3:AV)(H:ab)(Q:AV→ab→Prop):Prop :=
 aO (bm H (⟨(dep+1),4,ab.gen H (dep+1) 4,0⟩:Ref) (cD ¢ (⟨(dep+1),4,ab.gen H (dep+1) 4,0⟩:Ref) 29 ~x0)) fun v1 H1 =>
 ak (aj ¢ ¥H1 29 ~v1) fun v2 =>
 aO (bo env true (bj env) (bV env (dep+1)) H1 (⟨(dep+1),15,ab.gen H1 (dep+1) 15,0⟩:Ref) (some (.fn (.func 35) [] [])) [v2,x1]) fun v3 H2 =>
 ak (aF ~v3 0) fun v4 =>
 ak (aF ~v3 1) fun v5 =>
 ak (wM ¢ .not ~v5) fun v6 =>
 br ~v6 (
 Q (.tup [(.v (.slice none 0 0)),(.v (.int .i64 8))]) H2) (
 ak (aE ¢ .neq 23 °21 ¤0 ~x2 £0) fun v7 =>
 br ~v7 (
 Q (.tup [(.v (.slice none 0 0)),x2]) H2) (
 aO (bo env true (bj env) (bV env (dep+1)) H2 (⟨(dep+1),27,ab.gen H2 (dep+1) 27,0⟩:Ref) ~x3 [v4]) fun v8 H3 =>
 ak (aF ~v8 0) fun v9 =>
 ak (aF ~v8 1) fun v10 =>
 Q (.tup [v9,v10]) H3))
theorem kX(dep:Nat)(x0 x1 x2 x3:AV)(H:ab)(Q:AV→ab→Prop)(h : ∀g,fX dep g x0 x1 x2 x3 H Q):bT env Tryz.f32 (dep+1) [.code fV] [(0,x0),(1,x1),(2,x2),(3,x3)] H Q:=⟨fun g=>aX (live:=kZ) (cut:=k7) (n:=500) (Eq.mp (by kernel_rfl) (h g))⟩
noncomputable def oU:Code:=(Tryz.f34.body).getD .skip
noncomputable def iF:List Item:=(b7 2 400 [.code oU]).getD []
def sL:Nat→Option (List Nat):=fun i=>cond (Nat.beq i 2) (some [12,3,1,10,11]) (none)
def sU:Nat→Bool:=fun i=>false
def ta(dep:Nat)(g:Nat→AV)(x0 x1:AV)(H:ab)(Q:AV→ab→Prop):Prop :=
 ak (jX ~x0) fun v1 =>
 ak (aa ¢ 92 ~v1 2) fun v2 =>
 ak (aj ¢ ¥H 31 ~v2) fun v3 =>
 ak (aJ ¢ false ¥H (⟨(dep+1),11,ab.gen H (dep+1) 11,0⟩:Ref) .len #[31] [v3]) fun v4 =>
  bT env Tryz.f34 (dep+1) iF [(12,(.v (.int .i64 0))),(3,(.v (.slice none 0 0))),(1,x1),(10,v3),(11,v4)] H Q
theorem zF(dep:Nat)(x0 x1:AV)(H:ab)(Q:AV→ab→Prop)(h : ∀g,ta dep g x0 x1 H Q):bT env Tryz.f34 (dep+1) [.code oU] [(0,x0),(1,x1)] H Q:=⟨fun g=>aX (live:=sL) (cut:=sU) (n:=500) (Eq.mp (by kernel_rfl) (h g))⟩
def eZ(dep:Nat)(g:Nat→AV)(x12 x3 x1 x10 x11:AV)(H:ab)(Q:AV→ab→Prop):Prop :=
 ak (aE ¢ .lss 3 °12 °11 ~x12 ~x11) fun v1 =>
 br ~v1 (
 ak (aM ¢ ¥H 31 ~x10 ~x12) fun v2 =>
 ak (aj ¢ ¥H 56 ~v2) fun v3 =>
 aO (bm H (⟨(dep+1),6,ab.gen H (dep+1) 6,0⟩:Ref) (bY ¢ (⟨(dep+1),6,ab.gen H (dep+1) 6,0⟩:Ref) 56)) fun v4 H1 =>
 aO (aT ¢ H1 56 ~v4 ~v3) fun v5 H2 =>
 ak (aa ¢ 56 ~v4 0) fun v6 =>
 ak (aj ¢ ¥H2 5 ~v6) fun v7 =>
 ak (aE ¢ .eql 5 °17 (.const (.int .u8 3)) ~v7 (some (a8 3))) fun v8 =>
 gQ v8 false (aa ¢ 56 ~v4 2) fun v9 =>
 gQ v8 false (aa ¢ 50 ~v9 1) fun v10 =>
 gQ v8 false (aa ¢ 40 ~v10 0) fun v11 =>
 gQ v8 false (aj ¢ ¥H2 35 ~v11) fun v12 =>
 gQ v8 false (aj ¢ ¥H2 35 ~x1) fun v13 =>
 gW v8 false H2 (bo env true (bj env) (bV env (dep+1)) H2 (⟨(dep+1),25,ab.gen H2 (dep+1) 25,0⟩:Ref) (some (.fn (.func 20) [] [])) [v12,v13]) fun v14 H3 =>
 ak (bq ~v8 ¡ ~v14) fun v15 =>
 br ~v15 (
 ak (aj ¢ ¥H3 56 ~v4) fun v16 =>
 aO (fa ¢ false true H3 (⟨(dep+1),29,ab.gen H3 (dep+1) 29,0⟩:Ref) 31 1 (some [(0,v16)])) fun v17 H4 =>
 aO (cS ¢ true H4 (⟨(dep+1),30,ab.gen H4 (dep+1) 30,0⟩:Ref) (some 31) (some 31) x3 v17) fun v18 H5 =>
 ak (aE ¢ .add 3 °12 ¤1 ~x12 £1) fun v19 =>
  bT env Tryz.f34 (dep+1) iF [(12,v19),(3,v18),(1,x1),(10,x10),(11,x11)] H5 Q) (
 ak (aE ¢ .add 3 °12 ¤1 ~x12 £1) fun v16 =>
  bT env Tryz.f34 (dep+1) iF [(12,v16),(3,x3),(1,x1),(10,x10),(11,x11)] H3 Q)) (
 Q (.tup [x3,(.v (.int .i64 0))]) H)
theorem qf(dep:Nat)(x12 x3 x1 x10 x11:AV)(H:ab)(Q:AV→ab→Prop)(h : ∀g,eZ dep g x12 x3 x1 x10 x11 H Q):bT env Tryz.f34 (dep+1) iF [(12,x12),(3,x3),(1,x1),(10,x10),(11,x11)] H Q:=dx fun g=>aX (live:=sL) (cut:=sU) (n:=500) (Eq.mp (by kernel_rfl) (h g))
noncomputable def tN:Code:=(Tryz.f35.body).getD .skip
noncomputable def iE:List Item:=(b7 6 400 [.code tN]).getD []
def yK:Nat→Option (List Nat):=fun i=>cond (Nat.beq i 6) (some [28,6,7,26,27]) (none)
def y9:Nat→Bool:=fun i=>false
def pZ(dep:Nat)(g:Nat→AV)(x0 x1:AV)(H:ab)(Q:AV→ab→Prop):Prop :=
 aO (bm H (⟨(dep+1),2,ab.gen H (dep+1) 2,0⟩:Ref) (cD ¢ (⟨(dep+1),2,ab.gen H (dep+1) 2,0⟩:Ref) 29 ~x0)) fun v1 H1 =>
 ak (aj ¢ ¥H1 29 ~v1) fun v2 =>
 aO (bo env true (bj env) (bV env (dep+1)) H1 (⟨(dep+1),11,ab.gen H1 (dep+1) 11,0⟩:Ref) (some (.fn (.func 41) [] [])) [v2]) fun v3 H2 =>
 ak (aE ¢ .neq 23 °11 ¤0 ~v3 £0) fun v4 =>
 gQ v4 false (cF ~x1) fun v5 =>
 gQ v4 false (aJ ¢ false ¥H2 (⟨(dep+1),15,ab.gen H2 (dep+1) 15,0⟩:Ref) .len #[31] [v5]) fun v6 =>
 gQ v4 false (aE ¢ .gtr 3 °15 ¤2048 ~v6 £2048) fun v7 =>
 ak (bq ~v4 ¡ ~v7) fun v8 =>
 br ~v8 (
 Q (.tup [(.v (.pointer none)),(.v (.bool false))]) H2) (
 ak (aj ¢ ¥H2 29 ~v1) fun v9 =>
 ak (aj ¢ ¥H2 29 ~v1) fun v10 =>
 aO (kN env false (bj env) (bV env (dep+1)) H2 (⟨(dep+1),20,ab.gen H2 (dep+1) 20,0⟩:Ref) (some (.fn (.func 42) [] [])) [v10]) fun v11 H3 =>
 aO (bm H3 (⟨(dep+1),21,ab.gen H3 (dep+1) 21,0⟩:Ref) (some (.mp (⟨(dep+1),21,ab.gen H3 (dep+1) 21,0⟩:Ref),[bw []]))) fun v12 H4 =>
 aO (bm H4 (⟨(dep+1),22,ab.gen H4 (dep+1) 22,0⟩:Ref) (some (.mp (⟨(dep+1),22,ab.gen H4 (dep+1) 22,0⟩:Ref),[bw []]))) fun v13 H5 =>
 ak (cK ¢ 92 (some [(0,v9),(1,v11),(3,v12),(4,v13)])) fun v14 =>
 aO (bm H5 (⟨(dep+1),24,ab.gen H5 (dep+1) 24,0⟩:Ref) (cD ¢ (⟨(dep+1),24,ab.gen H5 (dep+1) 24,0⟩:Ref) 92 ~v14)) fun v15 H6 =>
 aO (bo env true (bj env) (bV env (dep+1)) H6 (⟨(dep+1),25,ab.gen H6 (dep+1) 25,0⟩:Ref) (some (.fn (.func 43) [] [])) []) fun v16 H7 =>
 ak (aJ ¢ false ¥H7 (⟨(dep+1),27,ab.gen H7 (dep+1) 27,0⟩:Ref) .len #[31] [x1]) fun v17 =>
  bT env Tryz.f35 (dep+1) iE [(28,(.v (.int .i64 0))),(6,v15),(7,v16),(26,x1),(27,v17)] H7 Q)
theorem Fb(dep:Nat)(x0 x1:AV)(H:ab)(Q:AV→ab→Prop)(h : ∀g,pZ dep g x0 x1 H Q):bT env Tryz.f35 (dep+1) [.code tN] [(0,x0),(1,x1)] H Q:=⟨fun g=>aX (live:=yK) (cut:=y9) (n:=500) (Eq.mp (by kernel_rfl) (h g))⟩
def om(dep:Nat)(g:Nat→AV)(x28 x6 x7 x26 x27:AV)(H:ab)(Q:AV→ab→Prop):Prop :=
 ak (aE ¢ .lss 3 °28 °27 ~x28 ~x27) fun v1 =>
 br ~v1 (
 ak (aM ¢ ¥H 31 ~x26 ~x28) fun v2 =>
 ak (aj ¢ ¥H 56 ~v2) fun v3 =>
 aO (bm H (⟨(dep+1),9,ab.gen H (dep+1) 9,0⟩:Ref) (bY ¢ (⟨(dep+1),9,ab.gen H (dep+1) 9,0⟩:Ref) 56)) fun v4 H1 =>
 aO (aT ¢ H1 56 ~v4 ~v3) fun v5 H2 =>
 ak (aj ¢ ¥H2 56 ~v4) fun v6 =>
 aO (bo env true (bj env) (bV env (dep+1)) H2 (⟨(dep+1),33,ab.gen H2 (dep+1) 33,0⟩:Ref) (some (.fn (.func 44) [] [])) [v6]) fun v7 H3 =>
 ak (aE ¢ .neq 23 °33 ¤0 ~v7 £0) fun v8 =>
 gQ v8 false (cF ~x7) fun v9 =>
 gQ v8 false (aa ¢ 56 ~v4 0) fun v10 =>
 gQ v8 false (aj ¢ ¥H3 5 ~v10) fun v11 =>
 gQ v8 false (da ¢ ¥H3 102 ~v9 ~v11 false) fun v12 =>
 gQ v8 false (lC ¢ 108 ~v12 0) fun v13 =>
 gQ v8 false (cF ~x6) fun v14 =>
 gQ v8 false (aj ¢ ¥H3 56 ~v4) fun v15 =>
 gW v8 false H3 (bo env true (bj env) (bV env (dep+1)) H3 (⟨(dep+1),43,ab.gen H3 (dep+1) 43,0⟩:Ref) ~v13 [v14,v15]) fun v16 H4 =>
 gQ v8 false (wM ¢ .not ~v16) fun v17 =>
 ak (bq ~v8 ¡ ~v17) fun v18 =>
 br ~v18 (
 Q (.tup [(.v (.pointer none)),(.v (.bool false))]) H4) (
 ak (aa ¢ 56 ~v4 0) fun v19 =>
 ak (aj ¢ ¥H4 5 ~v19) fun v20 =>
 ak (da ¢ ¥H4 102 ~x7 ~v20 false) fun v21 =>
 ak (lC ¢ 108 ~v21 1) fun v22 =>
 ak (aj ¢ ¥H4 56 ~v4) fun v23 =>
 aO (bo env true (bj env) (bV env (dep+1)) H4 (⟨(dep+1),53,ab.gen H4 (dep+1) 53,0⟩:Ref) ~v22 [x6,v23]) fun v24 H5 =>
 ak (jX ~x6) fun v25 =>
 ak (aa ¢ 92 ~v25 2) fun v26 =>
 ak (aj ¢ ¥H5 31 ~v26) fun v27 =>
 ak (aj ¢ ¥H5 56 ~v4) fun v28 =>
 aO (bo env false (bj env) (bV env (dep+1)) H5 (⟨(dep+1),60,ab.gen H5 (dep+1) 60,0⟩:Ref) (some (.fn (.func 45) [] [])) [v28]) fun v29 H6 =>
 aO (fa ¢ true false H6 (⟨(dep+1),61,ab.gen H6 (dep+1) 61,0⟩:Ref) 31 1 (some [(0,v29)])) fun v30 H7 =>
 aO (cS ¢ true H7 (⟨(dep+1),62,ab.gen H7 (dep+1) 62,0⟩:Ref) (some 31) (some 31) v27 v30) fun v31 H8 =>
 ak (jX ~x6) fun v32 =>
 ak (aa ¢ 92 ~v32 2) fun v33 =>
 aO (aT ¢ H8 31 ~v33 ~v31) fun v34 H9 =>
 ak (aE ¢ .add 3 °28 ¤1 ~x28 £1) fun v35 =>
  bT env Tryz.f35 (dep+1) iE [(28,v35),(6,x6),(7,x7),(26,x26),(27,x27)] H9 Q)) (
 Q (.tup [x6,(.v (.bool true))]) H)
theorem qe(dep:Nat)(x28 x6 x7 x26 x27:AV)(H:ab)(Q:AV→ab→Prop)(h : ∀g,om dep g x28 x6 x7 x26 x27 H Q):bT env Tryz.f35 (dep+1) iE [(28,x28),(6,x6),(7,x7),(26,x26),(27,x27)] H Q:=dx fun g=>aX (live:=yK) (cut:=y9) (n:=500) (Eq.mp (by kernel_rfl) (h g))
noncomputable def rH:Code:=(Tryz.f71.body).getD .skip
def yQ:Nat→Option (List Nat):=fun i=>none
def zg:Nat→Bool:=fun i=>false
def rO(dep:Nat)(g:Nat→AV)(x0 x1:AV)(H:ab)(Q:AV→ab→Prop):Prop :=
 aO (bm H (⟨(dep+1),3,ab.gen H (dep+1) 3,0⟩:Ref) (cD ¢ (⟨(dep+1),3,ab.gen H (dep+1) 3,0⟩:Ref) 56 ~x1)) fun v1 H1 =>
 ak (aa ¢ 56 ~v1 2) fun v2 =>
 ak (aa ¢ 50 ~v2 1) fun v3 =>
 ak (aa ¢ 40 ~v3 0) fun v4 =>
 ak (aj ¢ ¥H1 35 ~v4) fun v5 =>
 aO (bo env true (bj env) (bV env (dep+1)) H1 (⟨(dep+1),13,ab.gen H1 (dep+1) 13,0⟩:Ref) (some (.fn (.func 72) [] [])) [x0,v5]) fun v6 H2 =>
 ak (aF ~v6 0) fun v7 =>
 ak (aF ~v6 1) fun v8 =>
 ak (jX ~x0) fun v9 =>
 ak (aa ¢ 92 ~v9 3) fun v10 =>
 ak (aj ¢ ¥H2 88 ~v10) fun v11 =>
 ak (aa ¢ 56 ~v1 2) fun v12 =>
 ak (aa ¢ 50 ~v12 1) fun v13 =>
 ak (aj ¢ ¥H2 40 ~v13) fun v14 =>
 ak (da ¢ ¥H2 88 ~v11 ~v14 false) fun v15 =>
 ak (lC ¢ 119 ~v15 0) fun v16 =>
 ak (wM ¢ .not ~v16) fun v17 =>
 gQ v17 true (cF ~x0) fun v18 =>
 gQ v17 true (aa ¢ 56 ~v1 1) fun v19 =>
 gQ v17 true (aj ¢ ¥H2 3 ~v19) fun v20 =>
 gQ v17 true (aa ¢ 56 ~v1 2) fun v21 =>
 gQ v17 true (aa ¢ 50 ~v21 1) fun v22 =>
 gQ v17 true (aa ¢ 40 ~v22 0) fun v23 =>
 gQ v17 true (aj ¢ ¥H2 35 ~v23) fun v24 =>
 gW v17 true H2 (bo env true (bj env) (bV env (dep+1)) H2 (⟨(dep+1),34,ab.gen H2 (dep+1) 34,0⟩:Ref) (some (.fn (.func 73) [] [])) [v18,v20,v24]) fun v25 H3 =>
 ak (bq ~v17 ~v25 ¿) fun v26 =>
 gQ v26 true (cF ~v7) fun v27 =>
 ak (bq ~v26 ~v27 ¿) fun v28 =>
 Q v28 H3
theorem xX(dep:Nat)(x0 x1:AV)(H:ab)(Q:AV→ab→Prop)(h : ∀g,rO dep g x0 x1 H Q):bT env Tryz.f71 (dep+1) [.code rH] [(0,x0),(1,x1)] H Q:=⟨fun g=>aX (live:=yQ) (cut:=zg) (n:=500) (Eq.mp (by kernel_rfl) (h g))⟩
noncomputable def iR:Code:=(Tryz.f72.body).getD .skip
def nu:Nat→Option (List Nat):=fun i=>none
def nB:Nat→Bool:=fun i=>false
def iW(dep:Nat)(g:Nat→AV)(x0 x1:AV)(H:ab)(Q:AV→ab→Prop):Prop :=
 aO (bm H (⟨(dep+1),3,ab.gen H (dep+1) 3,0⟩:Ref) (cD ¢ (⟨(dep+1),3,ab.gen H (dep+1) 3,0⟩:Ref) 35 ~x1)) fun v1 H1 =>
 ak (jX ~x0) fun v2 =>
 ak (aa ¢ 92 ~v2 0) fun v3 =>
 ak (aj ¢ ¥H1 29 ~v3) fun v4 =>
 ak (aj ¢ ¥H1 35 ~v1) fun v5 =>
 aO (bo env false (bj env) (bV env (dep+1)) H1 (⟨(dep+1),15,ab.gen H1 (dep+1) 15,0⟩:Ref) (some (.fn (.func 92) [] [])) [v4,v5]) fun v6 H2 =>
 ak (aF ~v6 0) fun v7 =>
 ak (aF ~v6 1) fun v8 =>
 aO (bm H2 (⟨(dep+1),6,ab.gen H2 (dep+1) 6,0⟩:Ref) (bY ¢ (⟨(dep+1),6,ab.gen H2 (dep+1) 6,0⟩:Ref) 76)) fun v9 H3 =>
 aO (aT ¢ H3 76 ~v9 ~v7) fun v10 H4 =>
 ak (jX ~x0) fun v11 =>
 ak (aa ¢ 92 ~v11 4) fun v12 =>
 ak (aj ¢ ¥H4 89 ~v12) fun v13 =>
 ak (aj ¢ ¥H4 35 ~v1) fun v14 =>
 ak (da ¢ ¥H4 89 ~v13 ~v14 false) fun v15 =>
 aO (bm H4 (⟨(dep+1),8,ab.gen H4 (dep+1) 8,0⟩:Ref) (bY ¢ (⟨(dep+1),8,ab.gen H4 (dep+1) 8,0⟩:Ref) 76)) fun v16 H5 =>
 aO (aT ¢ H5 76 ~v16 ~v15) fun v17 H6 =>
 ak (aa ¢ 76 ~v16 1) fun v18 =>
 ak (aj ¢ ¥H6 3 ~v18) fun v19 =>
 ak (aa ¢ 76 ~v9 1) fun v20 =>
 ak (aj ¢ ¥H6 3 ~v20) fun v21 =>
 ak (aE ¢ .lss 3 °25 °27 ~v19 ~v21) fun v22 =>
 ak (aa ¢ 76 ~v16 2) fun v23 =>
 ak (aj ¢ ¥H6 3 ~v23) fun v24 =>
 ak (aa ¢ 76 ~v9 2) fun v25 =>
 ak (aj ¢ ¥H6 3 ~v25) fun v26 =>
 ak (aE ¢ .lss 3 °30 °32 ~v24 ~v26) fun v27 =>
 Q (.tup [v22,v27]) H6
theorem ni(dep:Nat)(x0 x1:AV)(H:ab)(Q:AV→ab→Prop)(h : ∀g,iW dep g x0 x1 H Q):bT env Tryz.f72 (dep+1) [.code iR] [(0,x0),(1,x1)] H Q:=⟨fun g=>aX (live:=nu) (cut:=nB) (n:=500) (Eq.mp (by kernel_rfl) (h g))⟩
noncomputable def jm:Code:=(Tryz.f73.body).getD .skip
def nN:Nat→Option (List Nat):=fun i=>none
def nW:Nat→Bool:=fun i=>false
def fy(dep:Nat)(g:Nat→AV)(x0 x1 x2:AV)(H:ab)(Q:AV→ab→Prop):Prop :=
 aO (bm H (⟨(dep+1),5,ab.gen H (dep+1) 5,0⟩:Ref) (cD ¢ (⟨(dep+1),5,ab.gen H (dep+1) 5,0⟩:Ref) 35 ~x2)) fun v1 H1 =>
 ak (jX ~x0) fun v2 =>
 ak (aa ¢ 92 ~v2 1) fun v3 =>
 ak (aj ¢ ¥H1 29 ~v3) fun v4 =>
 ak (aj ¢ ¥H1 35 ~v1) fun v5 =>
 aO (bo env false (bj env) (bV env (dep+1)) H1 (⟨(dep+1),16,ab.gen H1 (dep+1) 16,0⟩:Ref) (some (.fn (.func 93) [] [])) [v4,x1,v5]) fun v6 H2 =>
 ak (aF ~v6 0) fun v7 =>
 ak (aF ~v6 1) fun v8 =>
 ak (aE ¢ .eql 23 °19 ¤0 ~v8 £0) fun v9 =>
 gQ v9 true (cF ~v7) fun v10 =>
 ak (bq ~v9 ~v10 ¿) fun v11 =>
 Q v11 H2
theorem nF(dep:Nat)(x0 x1 x2:AV)(H:ab)(Q:AV→ab→Prop)(h : ∀g,fy dep g x0 x1 x2 H Q):bT env Tryz.f73 (dep+1) [.code jm] [(0,x0),(1,x1),(2,x2)] H Q:=⟨fun g=>aX (live:=nN) (cut:=nW) (n:=500) (Eq.mp (by kernel_rfl) (h g))⟩
noncomputable def rG:Code:=(Tryz.f74.body).getD .skip
def yP:Nat→Option (List Nat):=fun i=>none
def zf:Nat→Bool:=fun i=>false
def rN(dep:Nat)(g:Nat→AV)(x0 x1:AV)(H:ab)(Q:AV→ab→Prop):Prop :=
 aO (bm H (⟨(dep+1),3,ab.gen H (dep+1) 3,0⟩:Ref) (cD ¢ (⟨(dep+1),3,ab.gen H (dep+1) 3,0⟩:Ref) 56 ~x1)) fun v1 H1 =>
 ak (jX ~x0) fun v2 =>
 ak (aa ¢ 92 ~v2 3) fun v3 =>
 ak (aj ¢ ¥H1 88 ~v3) fun v4 =>
 ak (aa ¢ 56 ~v1 2) fun v5 =>
 ak (aa ¢ 50 ~v5 1) fun v6 =>
 ak (aj ¢ ¥H1 40 ~v6) fun v7 =>
 ak (aa ¢ 56 ~v1 1) fun v8 =>
 ak (aj ¢ ¥H1 3 ~v8) fun v9 =>
 ak (cK ¢ 119 (some [(0,(.v (.bool true))),(1,v9)])) fun v10 =>
 aO (dO ¢ H1 88 ~v4 ~v7 ~v10) fun v11 H2 =>
 ak (jX ~x0) fun v12 =>
 ak (aa ¢ 92 ~v12 4) fun v13 =>
 ak (aj ¢ ¥H2 89 ~v13) fun v14 =>
 ak (aa ¢ 56 ~v1 2) fun v15 =>
 ak (aa ¢ 50 ~v15 1) fun v16 =>
 ak (aa ¢ 40 ~v16 0) fun v17 =>
 ak (aj ¢ ¥H2 35 ~v17) fun v18 =>
 ak (da ¢ ¥H2 89 ~v14 ~v18 false) fun v19 =>
 aO (bm H2 (⟨(dep+1),4,ab.gen H2 (dep+1) 4,0⟩:Ref) (bY ¢ (⟨(dep+1),4,ab.gen H2 (dep+1) 4,0⟩:Ref) 76)) fun v20 H3 =>
 aO (aT ¢ H3 76 ~v20 ~v19) fun v21 H4 =>
 ak (aa ¢ 76 ~v20 1) fun v22 =>
 ak (aj ¢ ¥H4 3 ~v22) fun v23 =>
 ak (aE ¢ .add 3 °25 ¤1 ~v23 £1) fun v24 =>
 ak (aa ¢ 76 ~v20 1) fun v25 =>
 aO (aT ¢ H4 3 ~v25 ~v24) fun v26 H5 =>
 ak (jX ~x0) fun v27 =>
 ak (aa ¢ 92 ~v27 4) fun v28 =>
 ak (aj ¢ ¥H5 89 ~v28) fun v29 =>
 ak (aa ¢ 56 ~v1 2) fun v30 =>
 ak (aa ¢ 50 ~v30 1) fun v31 =>
 ak (aa ¢ 40 ~v31 0) fun v32 =>
 ak (aj ¢ ¥H5 35 ~v32) fun v33 =>
 ak (aj ¢ ¥H5 76 ~v20) fun v34 =>
 aO (dO ¢ H5 89 ~v29 ~v33 ~v34) fun v35 H6 =>
 Q (.v (.tuple #[])) H6
theorem xW(dep:Nat)(x0 x1:AV)(H:ab)(Q:AV→ab→Prop)(h : ∀g,rN dep g x0 x1 H Q):bT env Tryz.f74 (dep+1) [.code rG] [(0,x0),(1,x1)] H Q:=⟨fun g=>aX (live:=yP) (cut:=zf) (n:=500) (Eq.mp (by kernel_rfl) (h g))⟩
noncomputable def rF:Code:=(Tryz.f75.body).getD .skip
def yO:Nat→Option (List Nat):=fun i=>none
def ze:Nat→Bool:=fun i=>false
def rM(dep:Nat)(g:Nat→AV)(x0 x1:AV)(H:ab)(Q:AV→ab→Prop):Prop :=
 aO (bm H (⟨(dep+1),3,ab.gen H (dep+1) 3,0⟩:Ref) (cD ¢ (⟨(dep+1),3,ab.gen H (dep+1) 3,0⟩:Ref) 56 ~x1)) fun v1 H1 =>
 ak (jX ~x0) fun v2 =>
 ak (aa ¢ 92 ~v2 3) fun v3 =>
 ak (aj ¢ ¥H1 88 ~v3) fun v4 =>
 ak (aa ¢ 56 ~v1 2) fun v5 =>
 ak (aa ¢ 50 ~v5 1) fun v6 =>
 ak (aj ¢ ¥H1 40 ~v6) fun v7 =>
 ak (da ¢ ¥H1 88 ~v4 ~v7 false) fun v8 =>
 aO (bm H1 (⟨(dep+1),5,ab.gen H1 (dep+1) 5,0⟩:Ref) (bY ¢ (⟨(dep+1),5,ab.gen H1 (dep+1) 5,0⟩:Ref) 119)) fun v9 H2 =>
 aO (aT ¢ H2 119 ~v9 ~v8) fun v10 H3 =>
 ak (aa ¢ 56 ~v1 2) fun v11 =>
 ak (aa ¢ 50 ~v11 1) fun v12 =>
 ak (aa ¢ 40 ~v12 0) fun v13 =>
 ak (aj ¢ ¥H3 35 ~v13) fun v14 =>
 aO (bo env true (bj env) (bV env (dep+1)) H3 (⟨(dep+1),22,ab.gen H3 (dep+1) 22,0⟩:Ref) (some (.fn (.func 72) [] [])) [x0,v14]) fun v15 H4 =>
 ak (aF ~v15 0) fun v16 =>
 ak (aF ~v15 1) fun v17 =>
 ak (aa ¢ 119 ~v9 0) fun v18 =>
 ak (aj ¢ ¥H4 4 ~v18) fun v19 =>
 gQ v19 true (cF ~x0) fun v20 =>
 gQ v19 true (aa ¢ 119 ~v9 1) fun v21 =>
 gQ v19 true (aj ¢ ¥H4 3 ~v21) fun v22 =>
 gQ v19 true (aa ¢ 56 ~v1 2) fun v23 =>
 gQ v19 true (aa ¢ 50 ~v23 1) fun v24 =>
 gQ v19 true (aa ¢ 40 ~v24 0) fun v25 =>
 gQ v19 true (aj ¢ ¥H4 35 ~v25) fun v26 =>
 gW v19 true H4 (kN env true (bj env) (bV env (dep+1)) H4 (⟨(dep+1),35,ab.gen H4 (dep+1) 35,0⟩:Ref) (some (.fn (.func 73) [] [])) [v20,v22,v26]) fun v27 H5 =>
 ak (bq ~v19 ~v27 ¿) fun v28 =>
 gQ v28 true (aa ¢ 56 ~v1 2) fun v29 =>
 gQ v28 true (aa ¢ 50 ~v29 2) fun v30 =>
 gQ v28 true (aj ¢ ¥H5 3 ~v30) fun v31 =>
 gQ v28 true (aa ¢ 119 ~v9 2) fun v32 =>
 gQ v28 true (aj ¢ ¥H5 3 ~v32) fun v33 =>
 gQ v28 true (aE ¢ .add 3 °42 ¤1 ~v33 £1) fun v34 =>
 gQ v28 true (aE ¢ .eql 3 °40 °43 ~v31 ~v34) fun v35 =>
 ak (bq ~v28 ~v35 ¿) fun v36 =>
 gQ v36 true (cF ~v17) fun v37 =>
 ak (bq ~v36 ~v37 ¿) fun v38 =>
 gQ v38 true (aa ¢ 56 ~v1 3) fun v39 =>
 gQ v38 true (aj ¢ ¥H5 23 ~v39) fun v40 =>
 gQ v38 true (cF ~x0) fun v41 =>
 gQ v38 true (aa ¢ 56 ~v1 2) fun v42 =>
 gQ v38 true (aj ¢ ¥H5 50 ~v42) fun v43 =>
 gW v38 true H5 (kN env true (bj env) (bV env (dep+1)) H5 (⟨(dep+1),55,ab.gen H5 (dep+1) 55,0⟩:Ref) (some (.fn (.func 76) [] [])) [v41,v43]) fun v44 H6 =>
 gQ v38 true (aE ¢ .eql 23 °51 °55 ~v40 ~v44) fun v45 =>
 ak (bq ~v38 ~v45 ¿) fun v46 =>
  kH [(v35,v34)] [] [] H6 ∧
 (Q v46 H6)
theorem xV(dep:Nat)(x0 x1:AV)(H:ab)(Q:AV→ab→Prop)(h : ∀g,rM dep g x0 x1 H Q):bT env Tryz.f75 (dep+1) [.code rF] [(0,x0),(1,x1)] H Q:=⟨fun g=>aX (live:=yO) (cut:=ze) (n:=500) (Eq.mp (by kernel_rfl) (h g))⟩
noncomputable def hX:Code:=(Tryz.f76.body).getD .skip
def mg:Nat→Option (List Nat):=fun i=>none
def mi:Nat→Bool:=fun i=>false
def cL(dep:Nat)(g:Nat→AV)(x0 x1:AV)(H:ab)(Q:AV→ab→Prop):Prop :=
 aO (bm H (⟨(dep+1),3,ab.gen H (dep+1) 3,0⟩:Ref) (cD ¢ (⟨(dep+1),3,ab.gen H (dep+1) 3,0⟩:Ref) 50 ~x1)) fun v1 H1 =>
 ak (jX ~x0) fun v2 =>
 ak (aa ¢ 92 ~v2 5) fun v3 =>
 ak (aj ¢ ¥H1 90 ~v3) fun v4 =>
 ak (aj ¢ ¥H1 50 ~v1) fun v5 =>
 aO (bo env false (bj env) (bV env (dep+1)) H1 (⟨(dep+1),13,ab.gen H1 (dep+1) 13,0⟩:Ref) (some (.fn (.func 94) [] [])) [v4,v5]) fun v6 H2 =>
 ak (aE ¢ .neq 23 °14 ¤0 ~v6 £0) fun v7 =>
 br ~v7 (
 Q v6 H2) (
 ak (jX ~x0) fun v8 =>
 ak (aa ¢ 92 ~v8 0) fun v9 =>
 ak (aj ¢ ¥H2 29 ~v9) fun v10 =>
 ak (aa ¢ 50 ~v1 1) fun v11 =>
 ak (aa ¢ 40 ~v11 0) fun v12 =>
 ak (aj ¢ ¥H2 35 ~v12) fun v13 =>
 aO (bo env false (bj env) (bV env (dep+1)) H2 (⟨(dep+1),25,ab.gen H2 (dep+1) 25,0⟩:Ref) (some (.fn (.func 92) [] [])) [v10,v13]) fun v14 H3 =>
 ak (aF ~v14 0) fun v15 =>
 ak (aF ~v14 1) fun v16 =>
 aO (bm H3 (⟨(dep+1),6,ab.gen H3 (dep+1) 6,0⟩:Ref) (bY ¢ (⟨(dep+1),6,ab.gen H3 (dep+1) 6,0⟩:Ref) 76)) fun v17 H4 =>
 aO (aT ¢ H4 76 ~v17 ~v15) fun v18 H5 =>
 ak (aa ¢ 50 ~v1 0) fun v19 =>
 ak (aj ¢ ¥H5 5 ~v19) fun v20 =>
 ak (aE ¢ .eql 5 °29 (.const (.int .u8 1)) ~v20 (some (a8 1))) fun v21 =>
 gQ v21 true (cF ~x0) fun v22 =>
 gQ v21 true (jX ~v22) fun v23 =>
 gQ v21 true (aa ¢ 92 ~v23 4) fun v24 =>
 gQ v21 true (aj ¢ ¥H5 89 ~v24) fun v25 =>
 gQ v21 true (aa ¢ 50 ~v1 1) fun v26 =>
 gQ v21 true (aa ¢ 40 ~v26 0) fun v27 =>
 gQ v21 true (aj ¢ ¥H5 35 ~v27) fun v28 =>
 gQ v21 true (da ¢ ¥H5 89 ~v25 ~v28 false) fun v29 =>
 gQ v21 true (lC ¢ 76 ~v29 3) fun v30 =>
 gQ v21 true (aa ¢ 50 ~v1 3) fun v31 =>
 gQ v21 true (aa ¢ 47 ~v31 1) fun v32 =>
 gQ v21 true (aj ¢ ¥H5 3 ~v32) fun v33 =>
 gQ v21 true (aE ¢ .add 3 °40 °43 ~v30 ~v33) fun v34 =>
 gQ v21 true (aa ¢ 76 ~v17 3) fun v35 =>
 gQ v21 true (aj ¢ ¥H5 3 ~v35) fun v36 =>
 gQ v21 true (aE ¢ .gtr 3 °44 °46 ~v34 ~v36) fun v37 =>
 ak (bq ~v21 ~v37 ¿) fun v38 =>
 br ~v38 (
 Q (.v (.int .i64 9)) H5) (
 Q (.v (.int .i64 0)) H5))
theorem md(dep:Nat)(x0 x1:AV)(H:ab)(Q:AV→ab→Prop)(h : ∀g,cL dep g x0 x1 H Q):bT env Tryz.f76 (dep+1) [.code hX] [(0,x0),(1,x1)] H Q:=⟨fun g=>aX (live:=mg) (cut:=mi) (n:=500) (Eq.mp (by kernel_rfl) (h g))⟩
noncomputable def n7:Code:=(Tryz.f77.body).getD .skip
def yN:Nat→Option (List Nat):=fun i=>none
def zd:Nat→Bool:=fun i=>false
def gR(dep:Nat)(g:Nat→AV)(x0 x1:AV)(H:ab)(Q:AV→ab→Prop):Prop :=
 aO (bm H (⟨(dep+1),3,ab.gen H (dep+1) 3,0⟩:Ref) (cD ¢ (⟨(dep+1),3,ab.gen H (dep+1) 3,0⟩:Ref) 56 ~x1)) fun v1 H1 =>
 ak (jX ~x0) fun v2 =>
 ak (aa ¢ 92 ~v2 3) fun v3 =>
 ak (aj ¢ ¥H1 88 ~v3) fun v4 =>
 ak (aa ¢ 56 ~v1 2) fun v5 =>
 ak (aa ¢ 50 ~v5 1) fun v6 =>
 ak (aj ¢ ¥H1 40 ~v6) fun v7 =>
 ak (da ¢ ¥H1 88 ~v4 ~v7 false) fun v8 =>
 ak (jX ~x0) fun v9 =>
 ak (aa ¢ 92 ~v9 4) fun v10 =>
 ak (aj ¢ ¥H1 89 ~v10) fun v11 =>
 ak (aa ¢ 56 ~v1 2) fun v12 =>
 ak (aa ¢ 50 ~v12 1) fun v13 =>
 ak (aa ¢ 40 ~v13 0) fun v14 =>
 ak (aj ¢ ¥H1 35 ~v14) fun v15 =>
 ak (da ¢ ¥H1 89 ~v11 ~v15 false) fun v16 =>
 aO (bm H1 (⟨(dep+1),4,ab.gen H1 (dep+1) 4,0⟩:Ref) (bY ¢ (⟨(dep+1),4,ab.gen H1 (dep+1) 4,0⟩:Ref) 119)) fun v17 H2 =>
 aO (bm H2 (⟨(dep+1),5,ab.gen H2 (dep+1) 5,0⟩:Ref) (bY ¢ (⟨(dep+1),5,ab.gen H2 (dep+1) 5,0⟩:Ref) 76)) fun v18 H3 =>
 aO (aT ¢ H3 119 ~v17 ~v8) fun v19 H4 =>
 aO (aT ¢ H4 76 ~v18 ~v16) fun v20 H5 =>
  kH [(v10,v17),(v14,v17),(v11,v17)] [v17,v18] [] H5 ∧
 (ak (aa ¢ 119 ~v17 2) fun v21 =>
 ak (aj ¢ ¥H5 3 ~v21) fun v22 =>
 ak (aE ¢ .add 3 °24 ¤1 ~v22 £1) fun v23 =>
 ak (aa ¢ 119 ~v17 2) fun v24 =>
 aO (aT ¢ H5 3 ~v24 ~v23) fun v25 H6 =>
 ak (aa ¢ 76 ~v18 2) fun v26 =>
 ak (aj ¢ ¥H6 3 ~v26) fun v27 =>
 ak (aE ¢ .add 3 °28 ¤1 ~v27 £1) fun v28 =>
 ak (aa ¢ 76 ~v18 2) fun v29 =>
 aO (aT ¢ H6 3 ~v29 ~v28) fun v30 H7 =>
 ak (aa ¢ 56 ~v1 3) fun v31 =>
 ak (aj ¢ ¥H7 23 ~v31) fun v32 =>
 ak (aE ¢ .eql 23 °32 ¤0 ~v32 £0) fun v33 =>
 br ~v33 (
 ak (jX ~x0) fun v34 =>
 ak (aa ¢ 92 ~v34 5) fun v35 =>
 ak (aj ¢ ¥H7 90 ~v35) fun v36 =>
 ak (aa ¢ 56 ~v1 2) fun v37 =>
 ak (aj ¢ ¥H7 50 ~v37) fun v38 =>
 aO (bo env false (bj env) (bV env (dep+1)) H7 (⟨(dep+1),41,ab.gen H7 (dep+1) 41,0⟩:Ref) (some (.fn (.func 78) [] [])) [v38]) fun v39 H8 =>
 aO (fa ¢ true false H8 (⟨(dep+1),42,ab.gen H8 (dep+1) 42,0⟩:Ref) 90 1 (some [(0,v39)])) fun v40 H9 =>
 aO (cS ¢ true H9 (⟨(dep+1),43,ab.gen H9 (dep+1) 43,0⟩:Ref) (some 90) (some 90) v36 v40) fun v41 H10 =>
 ak (jX ~x0) fun v42 =>
 ak (aa ¢ 92 ~v42 5) fun v43 =>
 aO (aT ¢ H10 90 ~v43 ~v41) fun v44 H11 =>
 ak (aa ¢ 56 ~v1 2) fun v45 =>
 ak (aa ¢ 50 ~v45 0) fun v46 =>
 ak (aj ¢ ¥H11 5 ~v46) fun v47 =>
 ak (aE ¢ .eql 5 °48 (.const (.int .u8 1)) ~v47 (some (a8 1))) fun v48 =>
 br ~v48 (
 ak (aa ¢ 76 ~v18 3) fun v49 =>
 ak (aj ¢ ¥H11 3 ~v49) fun v50 =>
 ak (aa ¢ 56 ~v1 2) fun v51 =>
 ak (aa ¢ 50 ~v51 3) fun v52 =>
 ak (aa ¢ 47 ~v52 1) fun v53 =>
 ak (aj ¢ ¥H11 3 ~v53) fun v54 =>
 ak (aE ¢ .add 3 °51 °55 ~v50 ~v54) fun v55 =>
 ak (aa ¢ 76 ~v18 3) fun v56 =>
 aO (aT ¢ H11 3 ~v56 ~v55) fun v57 H12 =>
 ak (jX ~x0) fun v58 =>
 ak (aa ¢ 92 ~v58 3) fun v59 =>
 ak (aj ¢ ¥H12 88 ~v59) fun v60 =>
 ak (aa ¢ 56 ~v1 2) fun v61 =>
 ak (aa ¢ 50 ~v61 1) fun v62 =>
 ak (aj ¢ ¥H12 40 ~v62) fun v63 =>
 ak (jX ~x0) fun v64 =>
 ak (aa ¢ 92 ~v64 4) fun v65 =>
 ak (aj ¢ ¥H12 89 ~v65) fun v66 =>
 ak (aa ¢ 56 ~v1 2) fun v67 =>
 ak (aa ¢ 50 ~v67 1) fun v68 =>
 ak (aa ¢ 40 ~v68 0) fun v69 =>
 ak (aj ¢ ¥H12 35 ~v69) fun v70 =>
 ak (aj ¢ ¥H12 119 ~v17) fun v71 =>
 ak (aj ¢ ¥H12 76 ~v18) fun v72 =>
 aO (eF ¢ H12 88 ~v60 ~v63) fun v73 H13 =>
 ak (aF ~v73 1) fun v74 =>
 aO (dn H13 ~v60 ~v74 ~v71) fun v75 H14 =>
 aO (eF ¢ H14 89 ~v66 ~v70) fun v76 H15 =>
 ak (aF ~v76 1) fun v77 =>
 aO (dn H15 ~v66 ~v77 ~v72) fun v78 H16 =>
  kH [(v69,v60),(v17,v60),(v18,v60),(v18,v66)] [] [] H16 ∧
 (Q (.v (.tuple #[])) H16)) (
 ak (jX ~x0) fun v49 =>
 ak (aa ¢ 92 ~v49 3) fun v50 =>
 ak (aj ¢ ¥H11 88 ~v50) fun v51 =>
 ak (aa ¢ 56 ~v1 2) fun v52 =>
 ak (aa ¢ 50 ~v52 1) fun v53 =>
 ak (aj ¢ ¥H11 40 ~v53) fun v54 =>
 ak (jX ~x0) fun v55 =>
 ak (aa ¢ 92 ~v55 4) fun v56 =>
 ak (aj ¢ ¥H11 89 ~v56) fun v57 =>
 ak (aa ¢ 56 ~v1 2) fun v58 =>
 ak (aa ¢ 50 ~v58 1) fun v59 =>
 ak (aa ¢ 40 ~v59 0) fun v60 =>
 ak (aj ¢ ¥H11 35 ~v60) fun v61 =>
 ak (aj ¢ ¥H11 119 ~v17) fun v62 =>
 ak (aj ¢ ¥H11 76 ~v18) fun v63 =>
 aO (eF ¢ H11 88 ~v51 ~v54) fun v64 H12 =>
 ak (aF ~v64 1) fun v65 =>
 aO (dn H12 ~v51 ~v65 ~v62) fun v66 H13 =>
 aO (eF ¢ H13 89 ~v57 ~v61) fun v67 H14 =>
 ak (aF ~v67 1) fun v68 =>
 aO (dn H14 ~v57 ~v68 ~v63) fun v69 H15 =>
  kH [(v60,v51),(v17,v51),(v18,v51),(v18,v57)] [] [] H15 ∧
 (Q (.v (.tuple #[])) H15))) (
 ak (jX ~x0) fun v34 =>
 ak (aa ¢ 92 ~v34 3) fun v35 =>
 ak (aj ¢ ¥H7 88 ~v35) fun v36 =>
 ak (aa ¢ 56 ~v1 2) fun v37 =>
 ak (aa ¢ 50 ~v37 1) fun v38 =>
 ak (aj ¢ ¥H7 40 ~v38) fun v39 =>
 ak (jX ~x0) fun v40 =>
 ak (aa ¢ 92 ~v40 4) fun v41 =>
 ak (aj ¢ ¥H7 89 ~v41) fun v42 =>
 ak (aa ¢ 56 ~v1 2) fun v43 =>
 ak (aa ¢ 50 ~v43 1) fun v44 =>
 ak (aa ¢ 40 ~v44 0) fun v45 =>
 ak (aj ¢ ¥H7 35 ~v45) fun v46 =>
 ak (aj ¢ ¥H7 119 ~v17) fun v47 =>
 ak (aj ¢ ¥H7 76 ~v18) fun v48 =>
 aO (eF ¢ H7 88 ~v36 ~v39) fun v49 H8 =>
 ak (aF ~v49 1) fun v50 =>
 aO (dn H8 ~v36 ~v50 ~v47) fun v51 H9 =>
 aO (eF ¢ H9 89 ~v42 ~v46) fun v52 H10 =>
 ak (aF ~v52 1) fun v53 =>
 aO (dn H10 ~v42 ~v53 ~v48) fun v54 H11 =>
  kH [(v45,v36),(v17,v36),(v18,v36),(v18,v42)] [] [] H11 ∧
 (Q (.v (.tuple #[])) H11)))
theorem qX(dep:Nat)(x0 x1:AV)(H:ab)(Q:AV→ab→Prop)(h : ∀g,gR dep g x0 x1 H Q):bT env Tryz.f77 (dep+1) [.code n7] [(0,x0),(1,x1)] H Q:=⟨fun g=>aX (live:=yN) (cut:=zd) (n:=500) (Eq.mp (by kernel_rfl) (h g))⟩
noncomputable def rE:Code:=(Tryz.f79.body).getD .skip
def yM:Nat→Option (List Nat):=fun i=>none
def zb:Nat→Bool:=fun i=>false
def oo(dep:Nat)(g:Nat→AV)(x0 x1:AV)(H:ab)(Q:AV→ab→Prop):Prop :=
 aO (bm H (⟨(dep+1),3,ab.gen H (dep+1) 3,0⟩:Ref) (cD ¢ (⟨(dep+1),3,ab.gen H (dep+1) 3,0⟩:Ref) 56 ~x1)) fun v1 H1 =>
 ak (jX ~x0) fun v2 =>
 ak (aa ¢ 92 ~v2 1) fun v3 =>
 ak (aj ¢ ¥H1 29 ~v3) fun v4 =>
 ak (aa ¢ 56 ~v1 4) fun v5 =>
 ak (aj ¢ ¥H1 54 ~v5) fun v6 =>
 aO (bo env false (bj env) (bV env (dep+1)) H1 (⟨(dep+1),14,ab.gen H1 (dep+1) 14,0⟩:Ref) (some (.fn (.func 80) [] [])) [v4,v6]) fun v7 H2 =>
 ak (aF ~v7 0) fun v8 =>
 ak (aF ~v7 1) fun v9 =>
 aO (bm H2 (⟨(dep+1),5,ab.gen H2 (dep+1) 5,0⟩:Ref) (bY ¢ (⟨(dep+1),5,ab.gen H2 (dep+1) 5,0⟩:Ref) 29)) fun v10 H3 =>
 aO (aT ¢ H3 29 ~v10 ~v8) fun v11 H4 =>
 ak (aE ¢ .eql 23 °17 ¤0 ~v9 £0) fun v12 =>
 Q v12 H4
theorem xU(dep:Nat)(x0 x1:AV)(H:ab)(Q:AV→ab→Prop)(h : ∀g,oo dep g x0 x1 H Q):bT env Tryz.f79 (dep+1) [.code rE] [(0,x0),(1,x1)] H Q:=⟨fun g=>aX (live:=yM) (cut:=zb) (n:=500) (Eq.mp (by kernel_rfl) (h g))⟩
noncomputable def rD:Code:=(Tryz.f81.body).getD .skip
def yL:Nat→Option (List Nat):=fun i=>none
def za:Nat→Bool:=fun i=>false
def rL(dep:Nat)(g:Nat→AV)(x0 x1:AV)(H:ab)(Q:AV→ab→Prop):Prop :=
 aO (bm H (⟨(dep+1),3,ab.gen H (dep+1) 3,0⟩:Ref) (cD ¢ (⟨(dep+1),3,ab.gen H (dep+1) 3,0⟩:Ref) 56 ~x1)) fun v1 H1 =>
 ak (jX ~x0) fun v2 =>
 ak (aa ¢ 92 ~v2 1) fun v3 =>
 ak (aj ¢ ¥H1 29 ~v3) fun v4 =>
 ak (aa ¢ 56 ~v1 4) fun v5 =>
 ak (aj ¢ ¥H1 54 ~v5) fun v6 =>
 aO (bo env false (bj env) (bV env (dep+1)) H1 (⟨(dep+1),12,ab.gen H1 (dep+1) 12,0⟩:Ref) (some (.fn (.func 80) [] [])) [v4,v6]) fun v7 H2 =>
 ak (aF ~v7 0) fun v8 =>
 ak (aF ~v7 1) fun v9 =>
 ak (jX ~x0) fun v10 =>
 ak (aa ¢ 92 ~v10 1) fun v11 =>
 aO (aT ¢ H2 29 ~v11 ~v8) fun v12 H3 =>
 Q (.v (.tuple #[])) H3
theorem xT(dep:Nat)(x0 x1:AV)(H:ab)(Q:AV→ab→Prop)(h : ∀g,rL dep g x0 x1 H Q):bT env Tryz.f81 (dep+1) [.code rD] [(0,x0),(1,x1)] H Q:=⟨fun g=>aX (live:=yL) (cut:=za) (n:=500) (Eq.mp (by kernel_rfl) (h g))⟩
end Go.Proofs.YtdbiffjdomokfaaGreat
