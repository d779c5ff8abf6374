/-
  What is to be shown of each function, computed from its code. No statement of a seat is proved here.
-/
import Derived.Test.YtdbiffjdomokfaaGreatAuTy
set_option linter.unusedVariables false
set_option maxRecDepth 1000000
namespace Go.Proofs.YtdbiffjdomokfaaGreat
open Go.Ab
noncomputable def tO:Code:=(Tryz.f20.body).getD .skip
def FC:Nat→Option (List Nat):=fun i=>none
def FX:Nat→Bool:=fun i=>false
def tX(g:Nat→AV)(x0 x1:AV)(H:ab)(Q:AV→ab→Prop):Prop :=
 aO (zac H 2 35 x0) fun v1 H1 =>
 aO (zac H1 3 35 x1) fun v2 H2 =>
 ak (zad 35 v1 0) fun v3 =>
 ak (zab H2 5 v3) fun v4 =>
 ak (zad 35 v2 0) fun v5 =>
 ak (zab H2 5 v5) fun v6 =>
 ak (aE env.P .leq 5 (Operand.tmp 6) (Operand.tmp 8) (some v4) (some v6)) fun v7 =>
 gQ v7 true (zad 35 v1 1) fun v8 =>
 gQ v7 true (zab H2 33 v8) fun v9 =>
 gQ v7 true (zad 35 v2 1) fun v10 =>
 gQ v7 true (zab H2 33 v10) fun v11 =>
 gQ v7 true (aE env.P .andNot 33 (Operand.tmp 12) (Operand.tmp 14) (some v9) (some v11)) fun v12 =>
 gQ v7 true (aE env.P .eql 33 (Operand.tmp 15) (.const (.int .u32 0)) (some v12) (some (aG 0))) fun v13 =>
 ak (zag v7 v13) fun v14 =>
 Q v14 H2
theorem xY(x0 x1:AV)(H:ab)(Q:AV→ab→Prop)(h : ∀g,tX g x0 x1 H Q):bT env Tryz.f20 0 [.code tO] [(0,x0),(1,x1)] H Q:=⟨fun g=>aX (live:=FC) (cut:=FX) (n:=500) (Eq.mp (by kernel_rfl) (h g))⟩
noncomputable def qC:Code:=(Tryz.f33.body).getD .skip
def Co:Nat→Option (List Nat):=fun i=>none
def CZ:Nat→Bool:=fun i=>false
def qL(g:Nat→AV)(x0:AV)(H:ab)(Q:AV→ab→Prop):Prop :=
 aO (zac H 1 35 x0) fun v1 H1 =>
 ak (zad 35 v1 0) fun v2 =>
 ak (zab H1 5 v2) fun v3 =>
 ak (aE env.P .gtr 5 (Operand.tmp 4) (.const (.int .u8 15)) (some v3) (some (a8 15))) fun v4 =>
 br (some v4) (
 Q (.v (.int .i64 8)) H1) (
 Q (.v (.int .i64 0)) H1)
theorem uO(x0:AV)(H:ab)(Q:AV→ab→Prop)(h : ∀g,qL g x0 H Q):bT env Tryz.f33 0 [.code qC] [(0,x0)] H Q:=⟨fun g=>aX (live:=Co) (cut:=CZ) (n:=500) (Eq.mp (by kernel_rfl) (h g))⟩
noncomputable def vI:Code:=(Tryz.f67.body).getD .skip
def Cp:Nat→Option (List Nat):=fun i=>none
def C0:Nat→Bool:=fun i=>false
def vQ(g:Nat→AV)(x0 x1:AV)(H:ab)(Q:AV→ab→Prop):Prop :=
 aO (zac H 2 35 x0) fun v1 H1 =>
 aO (zac H1 3 35 x1) fun v2 H2 =>
 ak (zad 35 v2 0) fun v3 =>
 ak (zab H2 5 v3) fun v4 =>
 ak (zad 35 v1 1) fun v5 =>
 ak (zab H2 33 v5) fun v6 =>
 ak (cK env.P 35 (some [(0,v4),(1,v6)])) fun v7 =>
 aO (zaj H2 5 35) fun v8 H3 =>
 aO (zam H3 35 v8 v7) fun v9 H4 =>
 ak (zad 35 v1 0) fun v10 =>
 ak (zab H4 5 v10) fun v11 =>
 ak (zad 35 v2 0) fun v12 =>
 ak (zab H4 5 v12) fun v13 =>
 ak (zao 5 12 14 v11 v13) fun v14 =>
 gQ v14 false (zab H4 35 v1) fun v15 =>
 gQ v14 false (zab H4 35 v8) fun v16 =>
 gQ v14 false (zap 35 17 18 v15 v16) fun v17 =>
 gQ v14 false (zbj v17) fun v18 =>
 gQ v18 true (zad 35 v1 1) fun v19 =>
 gQ v18 true (zab H4 33 v19) fun v20 =>
 gQ v18 true (zad 35 v2 1) fun v21 =>
 gQ v18 true (zab H4 33 v21) fun v22 =>
 gQ v18 true (zao 33 22 24 v20 v22) fun v23 =>
 gQ v14 false (zag v18 v23) fun v24 =>
 ak (zal v14 v24) fun v25 =>
 Q v25 H4
theorem BF(x0 x1:AV)(H:ab)(Q:AV→ab→Prop)(h : ∀g,vQ g x0 x1 H Q):bT env Tryz.f67 0 [.code vI] [(0,x0),(1,x1)] H Q:=⟨fun g=>aX (live:=Cp) (cut:=C0) (n:=500) (Eq.mp (by kernel_rfl) (h g))⟩
noncomputable def qB:Code:=(Tryz.f91.body).getD .skip
def Cn:Nat→Option (List Nat):=fun i=>none
def CY:Nat→Bool:=fun i=>false
def qK(g:Nat→AV)(H:ab)(Q:AV→ab→Prop):Prop :=
 aO (zaj H 0 35) fun v1 H1 =>
 ak (zch 35) fun v2 =>
 aO (zam H1 35 v1 v2) fun v3 H2 =>
 ak (zcn H2 v1 35) fun v4 =>
 Q v4 H2
theorem uN(H:ab)(Q:AV→ab→Prop)(h : ∀g,qK g  H Q):bT env Tryz.f91 0 [.code qB] [] H Q:=⟨fun g=>aX (live:=Cn) (cut:=CY) (n:=500) (Eq.mp (by kernel_rfl) (h g))⟩
noncomputable def jN:Code:=(Tryz.f95.body).getD .skip
def oO:Nat→Option (List Nat):=fun i=>none
def oQ:Nat→Bool:=fun i=>false
def eN(g:Nat→AV)(x0:AV)(H:ab)(Q:AV→ab→Prop):Prop :=
 ak (zbp 48 3 x0) fun v1 =>
 br (some v1) (
 Q (.v (.slice none 0 0)) H) (
 aO (zck H 5 48 0) fun v2 H1 =>
 aO (zat H1 7 48 48 v2 x0) fun v3 H2 =>
 Q v3 H2)
theorem oI(x0:AV)(H:ab)(Q:AV→ab→Prop)(h : ∀g,eN g x0 H Q):bT env Tryz.f95 0 [.code jN] [(0,x0)] H Q:=⟨fun g=>aX (live:=oO) (cut:=oQ) (n:=500) (Eq.mp (by kernel_rfl) (h g))⟩
noncomputable def sY:Code:=(Tryz.f98.body).getD .skip
def zV:Nat→Option (List Nat):=fun i=>none
def Ag:Nat→Bool:=fun i=>false
def oX(g:Nat→AV)(x0:AV)(H:ab)(Q:AV→ab→Prop):Prop :=
 aO (zac H 1 40 x0) fun v1 H1 =>
 ak (zab H1 40 v1) fun v2 =>
 aO (zaa true H1 6 117 [v2]) fun v3 H2 =>
 ak (zaf 23 7 0 v3) fun v4 =>
 br (some v4) (
 Q (.tup [(.v (.slice none 0 0)),v3]) H2) (
 ak (zad 40 v1 0) fun v5 =>
 ak (zad 35 v5 0) fun v6 =>
 ak (zab H2 5 v6) fun v7 =>
 aO (fa env.P true false H2 (Ref.mk 0 13 (ab.gen H2 0 13) 0) 137 1 (some [(0,v7)])) fun v8 H3 =>
 ak (zad 40 v1 0) fun v9 =>
 ak (zad 35 v9 1) fun v10 =>
 ak (zab H3 33 v10) fun v11 =>
 ak (zaw H3 17 33 3 v11) fun v12 =>
 aO (zaa false H3 18 118 [v12,(.v (.int .i64 4))]) fun v13 H4 =>
 aO (cS env.P false H4 (Ref.mk 0 19 (ab.gen H4 0 19) 0) (some 137) (some 137) v8 v13) fun v14 H5 =>
 ak (zad 40 v1 1) fun v15 =>
 ak (zab H5 5 v15) fun v16 =>
 aO (fa env.P true false H5 (Ref.mk 0 22 (ab.gen H5 0 22) 0) 137 1 (some [(0,v16)])) fun v17 H6 =>
 aO (zat H6 23 137 137 v14 v17) fun v18 H7 =>
 Q (.tup [v18,(.v (.int .i64 0))]) H7)
theorem zG(x0:AV)(H:ab)(Q:AV→ab→Prop)(h : ∀g,oX g x0 H Q):bT env Tryz.f98 0 [.code sY] [(0,x0)] H Q:=⟨fun g=>aX (live:=zV) (cut:=Ag) (n:=500) (Eq.mp (by kernel_rfl) (h g))⟩
noncomputable def qD:Code:=(Tryz.f117.body).getD .skip
def xz:Nat→Option (List Nat):=fun i=>none
def xJ:Nat→Bool:=fun i=>false
def qM(g:Nat→AV)(x0:AV)(H:ab)(Q:AV→ab→Prop):Prop :=
 aO (zac H 1 40 x0) fun v1 H1 =>
 ak (zad 40 v1 0) fun v2 =>
 ak (zab H1 35 v2) fun v3 =>
 aO (zaa true H1 5 33 [v3]) fun v4 H2 =>
 ak (zai 23 5 0 v4) fun v5 =>
 gQ v5 true (zad 40 v1 1) fun v6 =>
 gQ v5 true (zab H2 5 v6) fun v7 =>
 gQ v5 true (aE env.P .lss 5 (Operand.tmp 9) (.const (.int .u8 8)) (some v7) (some (a8 8))) fun v8 =>
 ak (zag v5 v8) fun v9 =>
 aO (zaa true H2 12 136 [v9]) fun v10 H3 =>
 Q v10 H3
theorem xp(x0:AV)(H:ab)(Q:AV→ab→Prop)(h : ∀g,qM g x0 H Q):bT env Tryz.f117 0 [.code qD] [(0,x0)] H Q:=⟨fun g=>aX (live:=xz) (cut:=xJ) (n:=500) (Eq.mp (by kernel_rfl) (h g))⟩
noncomputable def o5:Code:=(Tryz.f118.body).getD .skip
noncomputable def pF:List Item:=(b7 2 400 [.code o5]).getD []
def wQ:Nat→Option (List Nat):=fun i=>cond (Nat.beq i 2) (some [5,0,4]) (none)
def wU:Nat→Bool:=fun i=>false
def sj(g:Nat→AV)(x0 x1:AV)(H:ab)(Q:AV→ab→Prop):Prop :=
 ak (zav 3 6 1 x1) fun v1 =>
  bT env Tryz.f118 0 pF [(5,v1),(0,x0),(4,(.v (.slice none 0 0)))] H Q
theorem wJ(x0 x1:AV)(H:ab)(Q:AV→ab→Prop)(h : ∀g,sj g x0 x1 H Q):bT env Tryz.f118 0 [.code o5] [(0,x0),(1,x1)] H Q:=⟨fun g=>aX (live:=wQ) (cut:=wU) (n:=500) (Eq.mp (by kernel_rfl) (h g))⟩
def cQ(g:Nat→AV)(x5 x0 x4:AV)(H:ab)(Q:AV→ab→Prop):Prop :=
 ak (zan 3 8 0 x5) fun v1 =>
 br (some v1) (
 ak (zbv 3 8 14 x5) fun v2 =>
 ak (aE env.P .shr 3 (Operand.tmp 13) (Operand.tmp 15) (some x0) (some v2)) fun v3 =>
 ak (zaw H 17 3 5 v3) fun v4 =>
 aO (zax H 18 137 1 0 v4) fun v5 H1 =>
 aO (zat H1 19 137 137 x4 v5) fun v6 H2 =>
 ak (zav 3 10 1 x5) fun v7 =>
  bT env Tryz.f118 0 pF [(5,v7),(0,x0),(4,v6)] H2 Q) (
 Q x4 H)
theorem dg(x5 x0 x4:AV)(H:ab)(Q:AV→ab→Prop)(h : ∀g,cQ g x5 x0 x4 H Q):bT env Tryz.f118 0 pF [(5,x5),(0,x0),(4,x4)] H Q:=dx fun g=>aX (live:=wQ) (cut:=wU) (n:=500) (Eq.mp (by kernel_rfl) (h g))
noncomputable def Da:Code:=(Tryz.f119.body).getD .skip
def Jt:Nat→Option (List Nat):=fun i=>none
def JS:Nat→Bool:=fun i=>false
def xO(g:Nat→AV)(x0:AV)(H:ab)(Q:AV→ab→Prop):Prop :=
 aO (zac H 1 45 x0) fun v1 H1 =>
 ak (zab H1 45 v1) fun v2 =>
 aO (zaa true H1 8 137 [v2]) fun v3 H2 =>
 ak (zaf 23 9 0 v3) fun v4 =>
 br (some v4) (
 Q (.tup [(.v (.slice none 0 0)),v3]) H2) (
 ak (zad 45 v1 0) fun v5 =>
 ak (zab H2 40 v5) fun v6 =>
 aO (zaa true H2 15 98 [v6]) fun v7 H3 =>
 ak (zbb v7 0) fun v8 =>
 ak (zbb v7 1) fun v9 =>
 ak (zad 45 v1 1) fun v10 =>
 ak (zab H3 3 v10) fun v11 =>
 aO (zaa true H3 21 118 [v11,(.v (.int .i64 7))]) fun v12 H4 =>
 aO (zat H4 22 137 137 v8 v12) fun v13 H5 =>
 Q (.tup [v13,v9]) H5)
theorem IK(x0:AV)(H:ab)(Q:AV→ab→Prop)(h : ∀g,xO g x0 H Q):bT env Tryz.f119 0 [.code Da] [(0,x0)] H Q:=⟨fun g=>aX (live:=Jt) (cut:=JS) (n:=500) (Eq.mp (by kernel_rfl) (h g))⟩
noncomputable def tL:Code:=(Tryz.f121.body).getD .skip
noncomputable def nS:List Item:=(b7 6 400 [.code tL]).getD []
def yI:Nat→Option (List Nat):=fun i=>cond (Nat.beq i 6) (some [15,5,13,14]) (none)
def y7:Nat→Bool:=fun i=>false
def tU(g:Nat→AV)(x0:AV)(H:ab)(Q:AV→ab→Prop):Prop :=
 aO (zaa true H 9 139 [x0]) fun v1 H1 =>
 ak (zaf 23 10 0 v1) fun v2 =>
 br (some v2) (
 Q (.tup [(.v (.slice none 0 0)),v1]) H1) (
 ak (zah H1 14 48 x0) fun v3 =>
  bT env Tryz.f121 0 nS [(15,(.v (.int .i64 0))),(5,(.v (.slice none 0 0))),(13,x0),(14,v3)] H1 Q)
theorem E9(x0:AV)(H:ab)(Q:AV→ab→Prop)(h : ∀g,tU g x0 H Q):bT env Tryz.f121 0 [.code tL] [(0,x0)] H Q:=⟨fun g=>aX (live:=yI) (cut:=y7) (n:=500) (Eq.mp (by kernel_rfl) (h g))⟩
def og(g:Nat→AV)(x15 x5 x13 x14:AV)(H:ab)(Q:AV→ab→Prop):Prop :=
 ak (zao 3 15 14 x15 x14) fun v1 =>
 br (some v1) (
 ak (zau H 48 x13 x15) fun v2 =>
 ak (zab H 21 v2) fun v3 =>
 ak (aE env.P .shr 21 (Operand.tmp 20) (.const (.int .u64 24)) (some v3) (some (.v (.int .u64 24)))) fun v4 =>
 ak (zaw H 22 21 5 v4) fun v5 =>
 ak (zcj 21 23 v3) fun v6 =>
 ak (zaw H 25 21 5 v6) fun v7 =>
 ak (zbt 21 26 v3) fun v8 =>
 ak (zaw H 28 21 5 v8) fun v9 =>
 ak (zaw H 30 21 5 v3) fun v10 =>
 aO (fa env.P false true H (Ref.mk 0 31 (ab.gen H 0 31) 0) 137 4 (some [(0,v5),(1,v7),(2,v9),(3,v10)])) fun v11 H1 =>
 aO (zat H1 32 137 137 x5 v11) fun v12 H2 =>
 ak (zae 3 15 1 x15) fun v13 =>
  bT env Tryz.f121 0 nS [(15,v13),(5,v12),(13,x13),(14,x14)] H2 Q) (
 Q (.tup [x5,(.v (.int .i64 0))]) H)
theorem uM(x15 x5 x13 x14:AV)(H:ab)(Q:AV→ab→Prop)(h : ∀g,og g x15 x5 x13 x14 H Q):bT env Tryz.f121 0 nS [(15,x15),(5,x5),(13,x13),(14,x14)] H Q:=dx fun g=>aX (live:=yI) (cut:=y7) (n:=500) (Eq.mp (by kernel_rfl) (h g))
noncomputable def iP:Code:=(Tryz.f122.body).getD .skip
def nm:Nat→Option (List Nat):=fun i=>none
def nz:Nat→Bool:=fun i=>false
def iV(g:Nat→AV)(x0 x1:AV)(H:ab)(Q:AV→ab→Prop):Prop :=
 aO (zaa true H 7 140 [x0,x1]) fun v1 H1 =>
 ak (zan 3 7 0 v1) fun v2 =>
 Q v2 H1
theorem nf(x0 x1:AV)(H:ab)(Q:AV→ab→Prop)(h : ∀g,iV g x0 x1 H Q):bT env Tryz.f122 0 [.code iP] [(0,x0),(1,x1)] H Q:=⟨fun g=>aX (live:=nm) (cut:=nz) (n:=500) (Eq.mp (by kernel_rfl) (h g))⟩
noncomputable def sZ:Code:=(Tryz.f131.body).getD .skip
def zW:Nat→Option (List Nat):=fun i=>none
def Ah:Nat→Bool:=fun i=>false
def jS(g:Nat→AV)(x0:AV)(H:ab)(Q:AV→ab→Prop):Prop :=
 aO (zac H 1 47 x0) fun v1 H1 =>
 ak (zad 47 v1 0) fun v2 =>
 ak (zab H1 45 v2) fun v3 =>
 aO (zaa true H1 5 137 [v3]) fun v4 H2 =>
 ak (zai 23 5 0 v4) fun v5 =>
 gQ v5 true (zad 47 v1 1) fun v6 =>
 gQ v5 true (zab H2 3 v6) fun v7 =>
 gQ v5 true (zan 3 9 1 v7) fun v8 =>
 ak (zag v5 v8) fun v9 =>
 gQ v9 true (zad 47 v1 1) fun v10 =>
 gQ v9 true (zab H2 3 v10) fun v11 =>
 gQ v9 true (zay 3 14 64 v11) fun v12 =>
 ak (zag v9 v12) fun v13 =>
 gQ v13 true (zad 47 v1 0) fun v14 =>
 gQ v13 true (zad 45 v14 1) fun v15 =>
 gQ v13 true (zab H2 3 v15) fun v16 =>
 gQ v13 true (zad 47 v1 1) fun v17 =>
 gQ v13 true (zab H2 3 v17) fun v18 =>
 gQ v13 true (zbd 3 20 22 v16 v18) fun v19 =>
 gQ v13 true (zav 3 23 1 v19) fun v20 =>
 gQ v13 true (zay 3 24 1099511627776 v20) fun v21 =>
 ak (zag v13 v21) fun v22 =>
 aO (zaa true H2 27 136 [v22]) fun v23 H3 =>
 Q v23 H3
theorem zH(x0:AV)(H:ab)(Q:AV→ab→Prop)(h : ∀g,jS g x0 H Q):bT env Tryz.f131 0 [.code sZ] [(0,x0)] H Q:=⟨fun g=>aX (live:=zW) (cut:=Ah) (n:=500) (Eq.mp (by kernel_rfl) (h g))⟩
noncomputable def zl:Code:=(Tryz.f136.body).getD .skip
def FD:Nat→Option (List Nat):=fun i=>none
def FY:Nat→Bool:=fun i=>false
def zq(g:Nat→AV)(x0:AV)(H:ab)(Q:AV→ab→Prop):Prop :=
 br (some x0) (
 Q (.v (.int .i64 0)) H) (
 Q (.v (.int .i64 8)) H)
theorem Fc(x0:AV)(H:ab)(Q:AV→ab→Prop)(h : ∀g,zq g x0 H Q):bT env Tryz.f136 0 [.code zl] [(0,x0)] H Q:=⟨fun g=>aX (live:=FD) (cut:=FY) (n:=500) (Eq.mp (by kernel_rfl) (h g))⟩
noncomputable def zm:Code:=(Tryz.f137.body).getD .skip
def FE:Nat→Option (List Nat):=fun i=>none
def FZ:Nat→Bool:=fun i=>false
def zr(g:Nat→AV)(x0:AV)(H:ab)(Q:AV→ab→Prop):Prop :=
 aO (zac H 1 45 x0) fun v1 H1 =>
 ak (zad 45 v1 0) fun v2 =>
 ak (zab H1 40 v2) fun v3 =>
 aO (zaa true H1 5 117 [v3]) fun v4 H2 =>
 ak (zai 23 5 0 v4) fun v5 =>
 gQ v5 true (zad 45 v1 1) fun v6 =>
 gQ v5 true (zab H2 3 v6) fun v7 =>
 gQ v5 true (zan 3 9 1 v7) fun v8 =>
 ak (zag v5 v8) fun v9 =>
 gQ v9 true (zad 45 v1 1) fun v10 =>
 gQ v9 true (zab H2 3 v10) fun v11 =>
 gQ v9 true (zay 3 14 1099511627776 v11) fun v12 =>
 ak (zag v9 v12) fun v13 =>
 aO (zaa true H2 17 136 [v13]) fun v14 H3 =>
 Q v14 H3
theorem Fe(x0:AV)(H:ab)(Q:AV→ab→Prop)(h : ∀g,zr g x0 H Q):bT env Tryz.f137 0 [.code zm] [(0,x0)] H Q:=⟨fun g=>aX (live:=FE) (cut:=FZ) (n:=500) (Eq.mp (by kernel_rfl) (h g))⟩
noncomputable def vC:Code:=(Tryz.f139.body).getD .skip
def Ch:Nat→Option (List Nat):=fun i=>none
def CS:Nat→Bool:=fun i=>false
def qJ(g:Nat→AV)(x0:AV)(H:ab)(Q:AV→ab→Prop):Prop :=
 ak (zah H 6 48 x0) fun v1 =>
 ak (zar 3 6 64 v1) fun v2 =>
 br (some v2) (
 Q (.v (.int .i64 4)) H) (
 aO (zaa true H 11 162 [x0,(.fn (.func 160) [] [])]) fun v3 H1 =>
 br (some v3) (
 Q (.v (.int .i64 8)) H1) (
 Q (.v (.int .i64 0)) H1))
theorem Bz(x0:AV)(H:ab)(Q:AV→ab→Prop)(h : ∀g,qJ g x0 H Q):bT env Tryz.f139 0 [.code vC] [(0,x0)] H Q:=⟨fun g=>aX (live:=Ch) (cut:=CS) (n:=500) (Eq.mp (by kernel_rfl) (h g))⟩
noncomputable def gf:Code:=(Tryz.f140.body).getD .skip
noncomputable def ej:List Item:=(b7 2 400 [.code gf]).getD []
def jI:Nat→Option (List Nat):=fun i=>cond (Nat.beq i 2) (some [8,0,1,7]) (none)
def jL:Nat→Bool:=fun i=>false
def jQ(g:Nat→AV)(x0 x1:AV)(H:ab)(Q:AV→ab→Prop):Prop :=
 ak (zah H 7 48 x0) fun v1 =>
  bT env Tryz.f140 0 ej [(8,(.v (.int .i64 0))),(0,x0),(1,x1),(7,v1)] H Q
theorem oG(x0 x1:AV)(H:ab)(Q:AV→ab→Prop)(h : ∀g,jQ g x0 x1 H Q):bT env Tryz.f140 0 [.code gf] [(0,x0),(1,x1)] H Q:=⟨fun g=>aX (live:=jI) (cut:=jL) (n:=500) (Eq.mp (by kernel_rfl) (h g))⟩
def eu(g:Nat→AV)(x8 x0 x1 x7:AV)(H:ab)(Q:AV→ab→Prop):Prop :=
 ak (zao 3 8 7 x8 x7) fun v1 =>
 br (some v1) (
 ak (zau H 48 x0 x8) fun v2 =>
 ak (zab H 21 v2) fun v3 =>
 ak (zap 21 11 15 x1 v3) fun v4 =>
 br (some v4) (
 Q x8 H) (
 ak (zae 3 8 1 x8) fun v5 =>
  bT env Tryz.f140 0 ej [(8,v5),(0,x0),(1,x1),(7,x7)] H Q)) (
 Q (.v (.int .i64 (-1))) H)
theorem jc(x8 x0 x1 x7:AV)(H:ab)(Q:AV→ab→Prop)(h : ∀g,eu g x8 x0 x1 x7 H Q):bT env Tryz.f140 0 ej [(8,x8),(0,x0),(1,x1),(7,x7)] H Q:=dx fun g=>aX (live:=jI) (cut:=jL) (n:=500) (Eq.mp (by kernel_rfl) (h g))
noncomputable def gh:Code:=(Tryz.f141.body).getD .skip
noncomputable def ek:List Item:=(b7 4 400 [.code gh]).getD []
def jJ:Nat→Option (List Nat):=fun i=>cond (Nat.beq i 4) (some [13,1,0,12]) (none)
def jM:Nat→Bool:=fun i=>false
def gk(g:Nat→AV)(x0 x1:AV)(H:ab)(Q:AV→ab→Prop):Prop :=
 ak (zah H 7 48 x0) fun v1 =>
 ak (zah H 9 48 x1) fun v2 =>
 ak (zaz 3 7 9 v1 v2) fun v3 =>
 br (some v3) (
 Q (.v (.bool false)) H) (
 ak (zah H 12 48 x0) fun v4 =>
  bT env Tryz.f141 0 ek [(13,(.v (.int .i64 0))),(1,x1),(0,x0),(12,v4)] H Q)
theorem oH(x0 x1:AV)(H:ab)(Q:AV→ab→Prop)(h : ∀g,gk g x0 x1 H Q):bT env Tryz.f141 0 [.code gh] [(0,x0),(1,x1)] H Q:=⟨fun g=>aX (live:=jJ) (cut:=jM) (n:=500) (Eq.mp (by kernel_rfl) (h g))⟩
def ew(g:Nat→AV)(x13 x1 x0 x12:AV)(H:ab)(Q:AV→ab→Prop):Prop :=
 ak (zao 3 13 12 x13 x12) fun v1 =>
 br (some v1) (
 ak (zau H 48 x0 x13) fun v2 =>
 ak (zab H 21 v2) fun v3 =>
 ak (zau H 48 x1 x13) fun v4 =>
 ak (zab H 21 v4) fun v5 =>
 ak (zaz 21 19 23 v3 v5) fun v6 =>
 br (some v6) (
 Q (.v (.bool false)) H) (
 ak (zae 3 13 1 x13) fun v7 =>
  bT env Tryz.f141 0 ek [(13,v7),(1,x1),(0,x0),(12,x12)] H Q)) (
 Q (.v (.bool true)) H)
theorem jd(x13 x1 x0 x12:AV)(H:ab)(Q:AV→ab→Prop)(h : ∀g,ew g x13 x1 x0 x12 H Q):bT env Tryz.f141 0 ek [(13,x13),(1,x1),(0,x0),(12,x12)] H Q:=dx fun g=>aX (live:=jJ) (cut:=jM) (n:=500) (Eq.mp (by kernel_rfl) (h g))
noncomputable def E2:Code:=(Tryz.f145.body).getD .skip
def LY:Nat→Option (List Nat):=fun i=>none
def Mi:Nat→Bool:=fun i=>false
def te(g:Nat→AV)(x0 x1:AV)(H:ab)(Q:AV→ab→Prop):Prop :=
 aO (zac H 2 47 x0) fun v1 H1 =>
 aO (zaj H1 4 45) fun v2 H2 =>
 ak (zab H2 47 v1) fun v3 =>
 aO (zaa true H2 8 131 [v3]) fun v4 H3 =>
 ak (zaf 23 9 0 v4) fun v5 =>
 br (some v5) (
 ak (zch 45) fun v6 =>
 aO (zam H3 45 v2 v6) fun v7 H4 =>
 ak (zcn H4 v2 45) fun v8 =>
 Q (.tup [v8,v4]) H4) (
 ak (zas 3 13 0 x1) fun v6 =>
 gQ v6 false (zbj x1) fun v7 =>
 gQ v6 false (zad 47 v1 1) fun v8 =>
 gQ v6 false (zab H3 3 v8) fun v9 =>
 gQ v6 false (zcf 3 16 18 v7 v9) fun v10 =>
 ak (zal v6 v10) fun v11 =>
 br (some v11) (
 ak (zch 45) fun v12 =>
 aO (zam H3 45 v2 v12) fun v13 H4 =>
 ak (zcn H4 v2 45) fun v14 =>
 Q (.tup [v14,(.v (.int .i64 2))]) H4) (
 ak (zad 47 v1 0) fun v12 =>
 ak (zab H3 45 v12) fun v13 =>
 aO (zaa true H3 25 164 [v13,x1]) fun v14 H4 =>
 aO (zam H4 45 v2 v14) fun v15 H5 =>
 ak (zcn H5 v2 45) fun v16 =>
 Q (.tup [v16,(.v (.int .i64 0))]) H5))
theorem K4(x0 x1:AV)(H:ab)(Q:AV→ab→Prop)(h : ∀g,te g x0 x1 H Q):bT env Tryz.f145 0 [.code E2] [(0,x0),(1,x1)] H Q:=⟨fun g=>aX (live:=LY) (cut:=Mi) (n:=500) (Eq.mp (by kernel_rfl) (h g))⟩
noncomputable def oS:Code:=(Tryz.f155.body).getD .skip
def LW:Nat→Option (List Nat):=fun i=>none
def Mg:Nat→Bool:=fun i=>false
def lX(g:Nat→AV)(x0:AV)(H:ab)(Q:AV→ab→Prop):Prop :=
 aO (zac H 1 50 x0) fun v1 H1 =>
 aO (zaj H1 2 171) fun v2 H2 =>
 ak (zab H2 50 v1) fun v3 =>
 aO (zaa true H2 7 115 [v3]) fun v4 H3 =>
 ak (zaf 23 8 0 v4) fun v5 =>
 br (some v5) (
 ak (zch 171) fun v6 =>
 aO (zam H3 171 v2 v6) fun v7 H4 =>
 ak (zcn H4 v2 171) fun v8 =>
 Q (.tup [v8,v4]) H4) (
 ak (zad 50 v1 3) fun v6 =>
 ak (zab H3 47 v6) fun v7 =>
 ak (zad 50 v1 4) fun v8 =>
 ak (zab H3 45 v8) fun v9 =>
 ak (zad 50 v1 6) fun v10 =>
 ak (zab H3 48 v10) fun v11 =>
 aO (zaa false H3 18 95 [v11]) fun v12 H4 =>
 ak (cK env.P 171 (some [(0,v7),(1,v9),(2,v12)])) fun v13 =>
 aO (zaj H4 5 171) fun v14 H5 =>
 aO (zam H5 171 v14 v13) fun v15 H6 =>
 ak (zad 50 v1 0) fun v16 =>
 ak (zab H6 5 v16) fun v17 =>
 ak (aE env.P .neq 5 (Operand.tmp 21) (.const (.int .u8 1)) (some v17) (some (a8 1))) fun v18 =>
 gQ v18 false (zab H6 171 v14) fun v19 =>
 gW v18 false H6 (zaa true H6 25 165 [v19]) fun v20 H7 =>
 gQ v18 false (zaf 23 25 0 v20) fun v21 =>
 ak (zal v18 v21) fun v22 =>
 br (some v22) (
 ak (zch 171) fun v23 =>
 aO (zam H7 171 v2 v23) fun v24 H8 =>
 ak (zcn H8 v2 171) fun v25 =>
 Q (.tup [v25,(.v (.int .i64 2))]) H8) (
 ak (zab H7 171 v14) fun v23 =>
 aO (zam H7 171 v2 v23) fun v24 H8 =>
 ak (zcn H8 v2 171) fun v25 =>
 Q (.tup [v25,(.v (.int .i64 0))]) H8))
theorem p4(x0:AV)(H:ab)(Q:AV→ab→Prop)(h : ∀g,lX g x0 H Q):bT env Tryz.f155 0 [.code oS] [(0,x0)] H Q:=⟨fun g=>aX (live:=LW) (cut:=Mg) (n:=500) (Eq.mp (by kernel_rfl) (h g))⟩
noncomputable def sW:Code:=(Tryz.f160.body).getD .skip
def zU:Nat→Option (List Nat):=fun i=>none
def Af:Nat→Bool:=fun i=>false
def oW(g:Nat→AV)(x0:AV)(H:ab)(Q:AV→ab→Prop):Prop :=
 ak (aE env.P .neq 21 (Operand.tmp 3) (.const (.int .i32 (-1))) (some x0) (some (.v (.int .i32 (-1))))) fun v1 =>
 gQ v1 true (zbj x0) fun v2 =>
 gW v1 true H (zaa true H 7 161 [v2]) fun v3 H1 =>
 gQ v1 true (zbg v3) fun v4 =>
 ak (zag v1 v4) fun v5 =>
 Q v5 H1
theorem zD(x0:AV)(H:ab)(Q:AV→ab→Prop)(h : ∀g,oW g x0 H Q):bT env Tryz.f160 0 [.code sW] [(0,x0)] H Q:=⟨fun g=>aX (live:=zU) (cut:=Af) (n:=500) (Eq.mp (by kernel_rfl) (h g))⟩
noncomputable def l4:Code:=(Tryz.f161.body).getD .skip
def qQ:Nat→Option (List Nat):=fun i=>none
def qT:Nat→Bool:=fun i=>false
def ma(g:Nat→AV)(x0:AV)(H:ab)(Q:AV→ab→Prop):Prop :=
 ak (aE env.P .leq 21 (.const (.int .i32 0)) (Operand.tmp 4) (some (.v (.int .i32 0))) (some x0)) fun v1 =>
 gQ v1 true (zbj x0) fun v2 =>
 gQ v1 true (aE env.P .lss 21 (Operand.tmp 7) (.const (.int .i32 55296)) (some v2) (some (.v (.int .i32 55296)))) fun v3 =>
 ak (zag v1 v3) fun v4 =>
 br (some v4) (
 Q (.v (.bool true)) H) (
 ak (aE env.P .lss 21 (.const (.int .i32 57343)) (Operand.tmp 11) (some (.v (.int .i32 57343))) (some x0)) fun v5 =>
 gQ v5 true (zbj x0) fun v6 =>
 gQ v5 true (aE env.P .leq 21 (Operand.tmp 14) (.const (.int .i32 1114111)) (some v6) (some (.v (.int .i32 1114111)))) fun v7 =>
 ak (zag v5 v7) fun v8 =>
 br (some v8) (
 Q (.v (.bool true)) H) (
 Q (.v (.bool false)) H))
theorem qP(x0:AV)(H:ab)(Q:AV→ab→Prop)(h : ∀g,ma g x0 H Q):bT env Tryz.f161 0 [.code l4] [(0,x0)] H Q:=⟨fun g=>aX (live:=qQ) (cut:=qT) (n:=500) (Eq.mp (by kernel_rfl) (h g))⟩
noncomputable def hU:Code:=(Tryz.f162.body).getD .skip
def mf:Nat→Option (List Nat):=fun i=>none
def mh:Nat→Bool:=fun i=>false
def hY(g:Nat→AV)(x0 x1:AV)(H:ab)(Q:AV→ab→Prop):Prop :=
 aO (zaa true H 7 170 [x0,x1]) fun v1 H1 =>
 ak (zan 3 7 0 v1) fun v2 =>
 Q v2 H1
theorem mc(x0 x1:AV)(H:ab)(Q:AV→ab→Prop)(h : ∀g,hY g x0 x1 H Q):bT env Tryz.f162 0 [.code hU] [(0,x0),(1,x1)] H Q:=⟨fun g=>aX (live:=mf) (cut:=mh) (n:=500) (Eq.mp (by kernel_rfl) (h g))⟩
noncomputable def AO:Code:=(Tryz.f164.body).getD .skip
def Hq:Nat→Option (List Nat):=fun i=>none
def Ij:Nat→Bool:=fun i=>false
def AR(g:Nat→AV)(x0 x1:AV)(H:ab)(Q:AV→ab→Prop):Prop :=
 aO (zac H 2 45 x0) fun v1 H1 =>
 aO (zaj H1 4 45) fun v2 H2 =>
 ak (zad 45 v1 1) fun v3 =>
 ak (zab H2 3 v3) fun v4 =>
 ak (zbd 3 6 7 v4 x1) fun v5 =>
 ak (zad 45 v1 1) fun v6 =>
 aO (zam H2 3 v6 v5) fun v7 H3 =>
 ak (zab H3 45 v1) fun v8 =>
 aO (zam H3 45 v2 v8) fun v9 H4 =>
 ak (zcn H4 v2 45) fun v10 =>
 Q v10 H4
theorem Gu(x0 x1:AV)(H:ab)(Q:AV→ab→Prop)(h : ∀g,AR g x0 x1 H Q):bT env Tryz.f164 0 [.code AO] [(0,x0),(1,x1)] H Q:=⟨fun g=>aX (live:=Hq) (cut:=Ij) (n:=500) (Eq.mp (by kernel_rfl) (h g))⟩
noncomputable def zk:Code:=(Tryz.f165.body).getD .skip
def FB:Nat→Option (List Nat):=fun i=>none
def FV:Nat→Bool:=fun i=>false
def tV(g:Nat→AV)(x0:AV)(H:ab)(Q:AV→ab→Prop):Prop :=
 aO (zac H 1 171 x0) fun v1 H1 =>
 ak (zad 171 v1 1) fun v2 =>
 ak (zab H1 45 v2) fun v3 =>
 ak (zch 45) fun v4 =>
 ak (zap 45 5 6 v3 v4) fun v5 =>
 gQ v5 false (zad 171 v1 1) fun v6 =>
 gQ v5 false (zab H1 45 v6) fun v7 =>
 gW v5 false H1 (zaa true H1 11 137 [v7]) fun v8 H2 =>
 gQ v5 false (zai 23 11 0 v8) fun v9 =>
 gQ v5 false (zbj v9) fun v10 =>
 gQ v10 true (zad 171 v1 1) fun v11 =>
 gQ v10 true (zad 45 v11 1) fun v12 =>
 gQ v10 true (zab H2 3 v12) fun v13 =>
 gQ v10 true (zad 171 v1 0) fun v14 =>
 gQ v10 true (zad 47 v14 0) fun v15 =>
 gQ v10 true (zad 45 v15 1) fun v16 =>
 gQ v10 true (zab H2 3 v16) fun v17 =>
 gQ v10 true (zao 3 16 20 v13 v17) fun v18 =>
 gQ v5 false (zag v10 v18) fun v19 =>
 ak (zal v5 v19) fun v20 =>
 ak (zad 171 v1 0) fun v21 =>
 ak (zab H2 47 v21) fun v22 =>
 aO (zaa true H2 26 131 [v22]) fun v23 H3 =>
 ak (zaf 23 26 0 v23) fun v24 =>
 gQ v24 false (zbj v20) fun v25 =>
 gQ v24 false (zbg v25) fun v26 =>
 ak (zal v24 v26) fun v27 =>
 gQ v27 false (zad 171 v1 2) fun v28 =>
 gQ v27 false (zab H3 48 v28) fun v29 =>
 gQ v27 false (zah H3 35 48 v29) fun v30 =>
 gQ v27 false (zad 171 v1 0) fun v31 =>
 gQ v27 false (zad 47 v31 1) fun v32 =>
 gQ v27 false (zab H3 3 v32) fun v33 =>
 gQ v27 false (zaz 3 35 38 v30 v33) fun v34 =>
 ak (zal v27 v34) fun v35 =>
 gQ v35 false (zad 171 v1 2) fun v36 =>
 gQ v35 false (zab H3 48 v36) fun v37 =>
 gW v35 false H3 (zaa true H3 44 139 [v37]) fun v38 H4 =>
 gQ v35 false (zaf 23 44 0 v38) fun v39 =>
 ak (zal v35 v39) fun v40 =>
 br (some v40) (
 Q (.v (.int .i64 8)) H4) (
 Q (.v (.int .i64 0)) H4)
theorem Fa(x0:AV)(H:ab)(Q:AV→ab→Prop)(h : ∀g,tV g x0 H Q):bT env Tryz.f165 0 [.code zk] [(0,x0)] H Q:=⟨fun g=>aX (live:=FB) (cut:=FV) (n:=500) (Eq.mp (by kernel_rfl) (h g))⟩
noncomputable def ff:Code:=(Tryz.f170.body).getD .skip
noncomputable def dS:List Item:=(b7 2 400 [.code ff]).getD []
def iN:Nat→Option (List Nat):=fun i=>cond (Nat.beq i 2) (some [8,0,1,7]) (none)
def iO:Nat→Bool:=fun i=>false
def iU(g:Nat→AV)(x0 x1:AV)(H:ab)(Q:AV→ab→Prop):Prop :=
 ak (zah H 7 48 x0) fun v1 =>
  bT env Tryz.f170 0 dS [(8,(.v (.int .i64 0))),(0,x0),(1,x1),(7,v1)] H Q
theorem nd(x0 x1:AV)(H:ab)(Q:AV→ab→Prop)(h : ∀g,iU g x0 x1 H Q):bT env Tryz.f170 0 [.code ff] [(0,x0),(1,x1)] H Q:=⟨fun g=>aX (live:=iN) (cut:=iO) (n:=500) (Eq.mp (by kernel_rfl) (h g))⟩
def dU(g:Nat→AV)(x8 x0 x1 x7:AV)(H:ab)(Q:AV→ab→Prop):Prop :=
 ak (zao 3 8 7 x8 x7) fun v1 =>
 br (some v1) (
 ak (zau H 48 x0 x8) fun v2 =>
 ak (zab H 21 v2) fun v3 =>
 aO (zbe H 16 x1 v3) fun v4 H1 =>
 br (some v4) (
 Q x8 H1) (
 ak (zae 3 8 1 x8) fun v5 =>
  bT env Tryz.f170 0 dS [(8,v5),(0,x0),(1,x1),(7,x7)] H1 Q)) (
 Q (.v (.int .i64 (-1))) H)
theorem ij(x8 x0 x1 x7:AV)(H:ab)(Q:AV→ab→Prop)(h : ∀g,dU g x8 x0 x1 x7 H Q):bT env Tryz.f170 0 dS [(8,x8),(0,x0),(1,x1),(7,x7)] H Q:=dx fun g=>aX (live:=iN) (cut:=iO) (n:=500) (Eq.mp (by kernel_rfl) (h g))
noncomputable def Db:Code:=(Tryz.f176.body).getD .skip
def Ju:Nat→Option (List Nat):=fun i=>none
def JT:Nat→Bool:=fun i=>false
def oY(g:Nat→AV)(x0 x1:AV)(H:ab)(Q:AV→ab→Prop):Prop :=
 aO (zac H 2 47 x0) fun v1 H1 =>
 aO (zac H1 3 45 x1) fun v2 H2 =>
 ak (zad 45 v2 1) fun v3 =>
 ak (zab H2 3 v3) fun v4 =>
 ak (zad 47 v1 0) fun v5 =>
 ak (zad 45 v5 1) fun v6 =>
 ak (zab H2 3 v6) fun v7 =>
 ak (zbh 3 8 11 v4 v7) fun v8 =>
 ak (zab H2 47 v1) fun v9 =>
 aO (zaa false H2 14 131 [v9]) fun v10 H3 =>
 ak (zaf 23 14 0 v10) fun v11 =>
 gQ v11 false (zbj v8) fun v12 =>
 gQ v11 false (zas 3 17 0 v12) fun v13 =>
 ak (zal v11 v13) fun v14 =>
 gQ v14 false (zbj v8) fun v15 =>
 gQ v14 false (zad 47 v1 1) fun v16 =>
 gQ v14 false (zab H3 3 v16) fun v17 =>
 gQ v14 false (zcf 3 21 23 v15 v17) fun v18 =>
 ak (zal v14 v18) fun v19 =>
 gQ v19 false (zab H3 45 v2) fun v20 =>
 gQ v19 false (zad 47 v1 0) fun v21 =>
 gQ v19 false (zab H3 45 v21) fun v22 =>
 gQ v19 false (zbj v8) fun v23 =>
 gW v19 false H3 (zaa false H3 31 164 [v22,v23]) fun v24 H4 =>
 gQ v19 false (zaz 45 27 31 v20 v24) fun v25 =>
 ak (zal v19 v25) fun v26 =>
 br (some v26) (
 Q (.tup [(.v (.int .i64 0)),(.v (.bool false))]) H4) (
 Q (.tup [v8,(.v (.bool true))]) H4)
theorem IL(x0 x1:AV)(H:ab)(Q:AV→ab→Prop)(h : ∀g,oY g x0 x1 H Q):bT env Tryz.f176 0 [.code Db] [(0,x0),(1,x1)] H Q:=⟨fun g=>aX (live:=Ju) (cut:=JT) (n:=500) (Eq.mp (by kernel_rfl) (h g))⟩
end Go.Proofs.YtdbiffjdomokfaaGreat
