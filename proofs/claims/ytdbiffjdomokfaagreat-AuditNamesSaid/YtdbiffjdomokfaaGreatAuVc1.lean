/-
  What is to be shown of each function, computed from its code. No statement of a seat is proved here.
-/
import Derived.Test.YtdbiffjdomokfaaGreatAuTy
set_option linter.unusedVariables false
set_option maxRecDepth 1000000
namespace Go.Proofs.YtdbiffjdomokfaaGreat
open Go.Ab
noncomputable def su:Code:=(Tryz.f20.body).getD .skip
def DX:Nat→Option (List Nat):=fun i=>none
def Eh:Nat→Bool:=fun i=>false
def sD(g:Nat→AV)(x0 x1:AV)(H:ab)(Q:AV→ab→Prop):Prop :=
 aN (Zc H 2 35 x0) fun v1 H1 =>
 aN (Zc H1 3 35 x1) fun v2 H2 =>
 ak (Zd 35 v1 0) fun v3 =>
 ak (Zb H2 5 v3) fun v4 =>
 ak (Zd 35 v2 0) fun v5 =>
 ak (Zb H2 5 v5) fun v6 =>
 ak (aE env.P .leq 5 (Operand.tmp 6) (Operand.tmp 8) (some v4) (some v6)) fun v7 =>
 gQ v7 true (Zd 35 v1 1) fun v8 =>
 gQ v7 true (Zb H2 33 v8) fun v9 =>
 gQ v7 true (Zd 35 v2 1) fun v10 =>
 gQ v7 true (Zb H2 33 v10) fun v11 =>
 gQ v7 true (aE env.P .andNot 33 (Operand.tmp 12) (Operand.tmp 14) (some v9) (some v11)) fun v12 =>
 gQ v7 true (aE env.P .eql 33 (Operand.tmp 15) (.const (.int .u32 0)) (some v12) (some (aF 0))) fun v13 =>
 ak (Zh v7 v13) fun v14 =>
 Q v14 H2
theorem wx(x0 x1:AV)(H:ab)(Q:AV→ab→Prop)(h : ∀g,sD g x0 x1 H Q):bW env Tryz.f20 0 [.code su] [(0,x0),(1,x1)] H Q:=⟨fun g=>aY (live:=DX) (cut:=Eh) (n:=500) (Eq.mp (by kernel_rfl) (h g))⟩
noncomputable def pI:Code:=(Tryz.f33.body).getD .skip
def AY:Nat→Option (List Nat):=fun i=>none
def Bt:Nat→Bool:=fun i=>false
def pR(g:Nat→AV)(x0:AV)(H:ab)(Q:AV→ab→Prop):Prop :=
 aN (Zc H 1 35 x0) fun v1 H1 =>
 ak (Zd 35 v1 0) fun v2 =>
 ak (Zb H1 5 v2) fun v3 =>
 ak (aE env.P .gtr 5 (Operand.tmp 4) (.const (.int .u8 15)) (some v3) (some (a8 15))) fun v4 =>
 br (some v4) (
 Q (.v (.int .i64 8)) H1) (
 Q (.v (.int .i64 0)) H1)
theorem tf(x0:AV)(H:ab)(Q:AV→ab→Prop)(h : ∀g,pR g x0 H Q):bW env Tryz.f33 0 [.code pI] [(0,x0)] H Q:=⟨fun g=>aY (live:=AY) (cut:=Bt) (n:=500) (Eq.mp (by kernel_rfl) (h g))⟩
noncomputable def uf:Code:=(Tryz.f67.body).getD .skip
def AZ:Nat→Option (List Nat):=fun i=>none
def Bu:Nat→Bool:=fun i=>false
def uv(g:Nat→AV)(x0 x1:AV)(H:ab)(Q:AV→ab→Prop):Prop :=
 aN (Zc H 2 35 x0) fun v1 H1 =>
 aN (Zc H1 3 35 x1) fun v2 H2 =>
 ak (Zd 35 v2 0) fun v3 =>
 ak (Zb H2 5 v3) fun v4 =>
 ak (Zd 35 v1 1) fun v5 =>
 ak (Zb H2 33 v5) fun v6 =>
 ak (cb env.P 35 (some [(0,v4),(1,v6)])) fun v7 =>
 aN (Zi H2 5 35) fun v8 H3 =>
 aN (Zl H3 35 v8 v7) fun v9 H4 =>
 ak (Zd 35 v1 0) fun v10 =>
 ak (Zb H4 5 v10) fun v11 =>
 ak (Zd 35 v2 0) fun v12 =>
 ak (Zb H4 5 v12) fun v13 =>
 ak (Zo 5 12 14 v11 v13) fun v14 =>
 gQ v14 false (Zb H4 35 v1) fun v15 =>
 gQ v14 false (Zb H4 35 v8) fun v16 =>
 gQ v14 false (Zp 35 17 18 v15 v16) fun v17 =>
 gQ v14 false (ZN v17) fun v18 =>
 gQ v18 true (Zd 35 v1 1) fun v19 =>
 gQ v18 true (Zb H4 33 v19) fun v20 =>
 gQ v18 true (Zd 35 v2 1) fun v21 =>
 gQ v18 true (Zb H4 33 v21) fun v22 =>
 gQ v18 true (Zo 33 22 24 v20 v22) fun v23 =>
 gQ v14 false (Zh v18 v23) fun v24 =>
 ak (Zn v14 v24) fun v25 =>
 Q v25 H4
theorem Ae(x0 x1:AV)(H:ab)(Q:AV→ab→Prop)(h : ∀g,uv g x0 x1 H Q):bW env Tryz.f67 0 [.code uf] [(0,x0),(1,x1)] H Q:=⟨fun g=>aY (live:=AZ) (cut:=Bu) (n:=500) (Eq.mp (by kernel_rfl) (h g))⟩
noncomputable def pH:Code:=(Tryz.f91.body).getD .skip
def AX:Nat→Option (List Nat):=fun i=>none
def Bs:Nat→Bool:=fun i=>false
def pQ(g:Nat→AV)(H:ab)(Q:AV→ab→Prop):Prop :=
 aN (Zi H 0 35) fun v1 H1 =>
 ak (ZV 35) fun v2 =>
 aN (Zl H1 35 v1 v2) fun v3 H2 =>
 ak (Y5 H2 v1 35) fun v4 =>
 Q v4 H2
theorem te(H:ab)(Q:AV→ab→Prop)(h : ∀g,pQ g  H Q):bW env Tryz.f91 0 [.code pH] [] H Q:=⟨fun g=>aY (live:=AX) (cut:=Bs) (n:=500) (Eq.mp (by kernel_rfl) (h g))⟩
noncomputable def jr:Code:=(Tryz.f95.body).getD .skip
def nO:Nat→Option (List Nat):=fun i=>none
def nQ:Nat→Bool:=fun i=>false
def eB(g:Nat→AV)(x0:AV)(H:ab)(Q:AV→ab→Prop):Prop :=
 ak (ZP 48 3 x0) fun v1 =>
 br (some v1) (
 Q (.v (.slice none 0 0)) H) (
 aN (Z9 H 5 48 0) fun v2 H1 =>
 aN (Zr H1 7 48 48 v2 x0) fun v3 H2 =>
 Q v3 H2)
theorem nH(x0:AV)(H:ab)(Q:AV→ab→Prop)(h : ∀g,eB g x0 H Q):bW env Tryz.f95 0 [.code jr] [(0,x0)] H Q:=⟨fun g=>aY (live:=nO) (cut:=nQ) (n:=500) (Eq.mp (by kernel_rfl) (h g))⟩
noncomputable def rN:Code:=(Tryz.f98.body).getD .skip
def yw:Nat→Option (List Nat):=fun i=>none
def yK:Nat→Bool:=fun i=>false
def nX(g:Nat→AV)(x0:AV)(H:ab)(Q:AV→ab→Prop):Prop :=
 aN (Zc H 1 40 x0) fun v1 H1 =>
 ak (Zb H1 40 v1) fun v2 =>
 aN (Za true H1 6 117 [v2]) fun v3 H2 =>
 ak (Zf 23 7 0 v3) fun v4 =>
 br (some v4) (
 Q (.tup [(.v (.slice none 0 0)),v3]) H2) (
 ak (Zd 40 v1 0) fun v5 =>
 ak (Zd 35 v5 0) fun v6 =>
 ak (Zb H2 5 v6) fun v7 =>
 aN (eO env.P true false H2 (Ref.mk 0 13 (ab.gen H2 0 13) 0) 137 1 (some [(0,v7)])) fun v8 H3 =>
 ak (Zd 40 v1 0) fun v9 =>
 ak (Zd 35 v9 1) fun v10 =>
 ak (Zb H3 33 v10) fun v11 =>
 ak (Zv H3 17 33 3 v11) fun v12 =>
 aN (Za false H3 18 118 [v12,(.v (.int .i64 4))]) fun v13 H4 =>
 aN (cR env.P false H4 (Ref.mk 0 19 (ab.gen H4 0 19) 0) (some 137) (some 137) v8 v13) fun v14 H5 =>
 ak (Zd 40 v1 1) fun v15 =>
 ak (Zb H5 5 v15) fun v16 =>
 aN (eO env.P true false H5 (Ref.mk 0 22 (ab.gen H5 0 22) 0) 137 1 (some [(0,v16)])) fun v17 H6 =>
 aN (Zr H6 23 137 137 v14 v17) fun v18 H7 =>
 Q (.tup [v18,(.v (.int .i64 0))]) H7)
theorem yc(x0:AV)(H:ab)(Q:AV→ab→Prop)(h : ∀g,nX g x0 H Q):bW env Tryz.f98 0 [.code rN] [(0,x0)] H Q:=⟨fun g=>aY (live:=yw) (cut:=yK) (n:=500) (Eq.mp (by kernel_rfl) (h g))⟩
noncomputable def pJ:Code:=(Tryz.f117.body).getD .skip
def vO:Nat→Option (List Nat):=fun i=>none
def vW:Nat→Bool:=fun i=>false
def pS(g:Nat→AV)(x0:AV)(H:ab)(Q:AV→ab→Prop):Prop :=
 aN (Zc H 1 40 x0) fun v1 H1 =>
 ak (Zd 40 v1 0) fun v2 =>
 ak (Zb H1 35 v2) fun v3 =>
 aN (Za true H1 5 33 [v3]) fun v4 H2 =>
 ak (Zg 23 5 0 v4) fun v5 =>
 gQ v5 true (Zd 40 v1 1) fun v6 =>
 gQ v5 true (Zb H2 5 v6) fun v7 =>
 gQ v5 true (aE env.P .lss 5 (Operand.tmp 9) (.const (.int .u8 8)) (some v7) (some (a8 8))) fun v8 =>
 ak (Zh v5 v8) fun v9 =>
 aN (Za true H2 12 136 [v9]) fun v10 H3 =>
 Q v10 H3
theorem vI(x0:AV)(H:ab)(Q:AV→ab→Prop)(h : ∀g,pS g x0 H Q):bW env Tryz.f117 0 [.code pJ] [(0,x0)] H Q:=⟨fun g=>aY (live:=vO) (cut:=vW) (n:=500) (Eq.mp (by kernel_rfl) (h g))⟩
noncomputable def n8:Code:=(Tryz.f118.body).getD .skip
noncomputable def oO:List Item:=(cg 2 400 [.code n8]).getD []
def vc:Nat→Option (List Nat):=fun i=>cond (Nat.beq i 2) (some [5,0,4]) (none)
def vi:Nat→Bool:=fun i=>false
def qZ(g:Nat→AV)(x0 x1:AV)(H:ab)(Q:AV→ab→Prop):Prop :=
 ak (Zu 3 6 1 x1) fun v1 =>
  bW env Tryz.f118 0 oO [(5,v1),(0,x0),(4,(.v (.slice none 0 0)))] H Q
theorem uW(x0 x1:AV)(H:ab)(Q:AV→ab→Prop)(h : ∀g,qZ g x0 x1 H Q):bW env Tryz.f118 0 [.code n8] [(0,x0),(1,x1)] H Q:=⟨fun g=>aY (live:=vc) (cut:=vi) (n:=500) (Eq.mp (by kernel_rfl) (h g))⟩
def cH(g:Nat→AV)(x5 x0 x4:AV)(H:ab)(Q:AV→ab→Prop):Prop :=
 ak (Zm 3 8 0 x5) fun v1 =>
 br (some v1) (
 ak (ZW 3 8 14 x5) fun v2 =>
 ak (aE env.P .shr 3 (Operand.tmp 13) (Operand.tmp 15) (some x0) (some v2)) fun v3 =>
 ak (Zv H 17 3 5 v3) fun v4 =>
 aN (Zx H 18 137 1 0 v4) fun v5 H1 =>
 aN (Zr H1 19 137 137 x4 v5) fun v6 H2 =>
 ak (Zu 3 10 1 x5) fun v7 =>
  bW env Tryz.f118 0 oO [(5,v7),(0,x0),(4,v6)] H2 Q) (
 Q x4 H)
theorem cU(x5 x0 x4:AV)(H:ab)(Q:AV→ab→Prop)(h : ∀g,cH g x5 x0 x4 H Q):bW env Tryz.f118 0 oO [(5,x5),(0,x0),(4,x4)] H Q:=dG fun g=>aY (live:=vc) (cut:=vi) (n:=500) (Eq.mp (by kernel_rfl) (h g))
noncomputable def BD:Code:=(Tryz.f119.body).getD .skip
def Hj:Nat→Option (List Nat):=fun i=>none
def HG:Nat→Bool:=fun i=>false
def wa(g:Nat→AV)(x0:AV)(H:ab)(Q:AV→ab→Prop):Prop :=
 aN (Zc H 1 45 x0) fun v1 H1 =>
 ak (Zb H1 45 v1) fun v2 =>
 aN (Za true H1 8 137 [v2]) fun v3 H2 =>
 ak (Zf 23 9 0 v3) fun v4 =>
 br (some v4) (
 Q (.tup [(.v (.slice none 0 0)),v3]) H2) (
 ak (Zd 45 v1 0) fun v5 =>
 ak (Zb H2 40 v5) fun v6 =>
 aN (Za true H2 15 98 [v6]) fun v7 H3 =>
 ak (ZB v7 0) fun v8 =>
 ak (ZB v7 1) fun v9 =>
 ak (Zd 45 v1 1) fun v10 =>
 ak (Zb H3 3 v10) fun v11 =>
 aN (Za true H3 21 118 [v11,(.v (.int .i64 7))]) fun v12 H4 =>
 aN (Zr H4 22 137 137 v8 v12) fun v13 H5 =>
 Q (.tup [v13,v9]) H5)
theorem GI(x0:AV)(H:ab)(Q:AV→ab→Prop)(h : ∀g,wa g x0 H Q):bW env Tryz.f119 0 [.code BD] [(0,x0)] H Q:=⟨fun g=>aY (live:=Hj) (cut:=HG) (n:=500) (Eq.mp (by kernel_rfl) (h g))⟩
noncomputable def sn:Code:=(Tryz.f121.body).getD .skip
noncomputable def mZ:List Item:=(cg 6 400 [.code sn]).getD []
def wY:Nat→Option (List Nat):=fun i=>cond (Nat.beq i 6) (some [15,5,13,14]) (none)
def xt:Nat→Bool:=fun i=>false
def sx(g:Nat→AV)(x0:AV)(H:ab)(Q:AV→ab→Prop):Prop :=
 aN (Za true H 9 139 [x0]) fun v1 H1 =>
 ak (Zf 23 10 0 v1) fun v2 =>
 br (some v2) (
 Q (.tup [(.v (.slice none 0 0)),v1]) H1) (
 ak (Zk H1 14 48 x0) fun v3 =>
  bW env Tryz.f121 0 mZ [(15,(.v (.int .i64 0))),(5,(.v (.slice none 0 0))),(13,x0),(14,v3)] H1 Q)
theorem Dt(x0:AV)(H:ab)(Q:AV→ab→Prop)(h : ∀g,sx g x0 H Q):bW env Tryz.f121 0 [.code sn] [(0,x0)] H Q:=⟨fun g=>aY (live:=wY) (cut:=xt) (n:=500) (Eq.mp (by kernel_rfl) (h g))⟩
def nf(g:Nat→AV)(x15 x5 x13 x14:AV)(H:ab)(Q:AV→ab→Prop):Prop :=
 ak (Zo 3 15 14 x15 x14) fun v1 =>
 br (some v1) (
 ak (Zw H 48 x13 x15) fun v2 =>
 ak (Zb H 21 v2) fun v3 =>
 ak (aE env.P .shr 21 (Operand.tmp 20) (.const (.int .u64 24)) (some v3) (some (.v (.int .u64 24)))) fun v4 =>
 ak (Zv H 22 21 5 v4) fun v5 =>
 ak (Z8 21 23 v3) fun v6 =>
 ak (Zv H 25 21 5 v6) fun v7 =>
 ak (ZT 21 26 v3) fun v8 =>
 ak (Zv H 28 21 5 v8) fun v9 =>
 ak (Zv H 30 21 5 v3) fun v10 =>
 aN (eO env.P false true H (Ref.mk 0 31 (ab.gen H 0 31) 0) 137 4 (some [(0,v5),(1,v7),(2,v9),(3,v10)])) fun v11 H1 =>
 aN (Zr H1 32 137 137 x5 v11) fun v12 H2 =>
 ak (Ze 3 15 1 x15) fun v13 =>
  bW env Tryz.f121 0 mZ [(15,v13),(5,v12),(13,x13),(14,x14)] H2 Q) (
 Q (.tup [x5,(.v (.int .i64 0))]) H)
theorem ta(x15 x5 x13 x14:AV)(H:ab)(Q:AV→ab→Prop)(h : ∀g,nf g x15 x5 x13 x14 H Q):bW env Tryz.f121 0 mZ [(15,x15),(5,x5),(13,x13),(14,x14)] H Q:=dG fun g=>aY (live:=wY) (cut:=xt) (n:=500) (Eq.mp (by kernel_rfl) (h g))
noncomputable def iz:Code:=(Tryz.f122.body).getD .skip
def mD:Nat→Option (List Nat):=fun i=>none
def mI:Nat→Bool:=fun i=>false
def iF(g:Nat→AV)(x0 x1:AV)(H:ab)(Q:AV→ab→Prop):Prop :=
 aN (Za true H 7 140 [x0,x1]) fun v1 H1 =>
 ak (Zm 3 7 0 v1) fun v2 =>
 Q v2 H1
theorem my(x0 x1:AV)(H:ab)(Q:AV→ab→Prop)(h : ∀g,iF g x0 x1 H Q):bW env Tryz.f122 0 [.code iz] [(0,x0),(1,x1)] H Q:=⟨fun g=>aY (live:=mD) (cut:=mI) (n:=500) (Eq.mp (by kernel_rfl) (h g))⟩
noncomputable def rO:Code:=(Tryz.f131.body).getD .skip
def yx:Nat→Option (List Nat):=fun i=>none
def yL:Nat→Bool:=fun i=>false
def jy(g:Nat→AV)(x0:AV)(H:ab)(Q:AV→ab→Prop):Prop :=
 aN (Zc H 1 47 x0) fun v1 H1 =>
 ak (Zd 47 v1 0) fun v2 =>
 ak (Zb H1 45 v2) fun v3 =>
 aN (Za true H1 5 137 [v3]) fun v4 H2 =>
 ak (Zg 23 5 0 v4) fun v5 =>
 gQ v5 true (Zd 47 v1 1) fun v6 =>
 gQ v5 true (Zb H2 3 v6) fun v7 =>
 gQ v5 true (Zm 3 9 1 v7) fun v8 =>
 ak (Zh v5 v8) fun v9 =>
 gQ v9 true (Zd 47 v1 1) fun v10 =>
 gQ v9 true (Zb H2 3 v10) fun v11 =>
 gQ v9 true (Zy 3 14 64 v11) fun v12 =>
 ak (Zh v9 v12) fun v13 =>
 gQ v13 true (Zd 47 v1 0) fun v14 =>
 gQ v13 true (Zd 45 v14 1) fun v15 =>
 gQ v13 true (Zb H2 3 v15) fun v16 =>
 gQ v13 true (Zd 47 v1 1) fun v17 =>
 gQ v13 true (Zb H2 3 v17) fun v18 =>
 gQ v13 true (ZC 3 20 22 v16 v18) fun v19 =>
 gQ v13 true (Zu 3 23 1 v19) fun v20 =>
 gQ v13 true (Zy 3 24 1099511627776 v20) fun v21 =>
 ak (Zh v13 v21) fun v22 =>
 aN (Za true H2 27 136 [v22]) fun v23 H3 =>
 Q v23 H3
theorem yd(x0:AV)(H:ab)(Q:AV→ab→Prop)(h : ∀g,jy g x0 H Q):bW env Tryz.f131 0 [.code rO] [(0,x0)] H Q:=⟨fun g=>aY (live:=yx) (cut:=yL) (n:=500) (Eq.mp (by kernel_rfl) (h g))⟩
noncomputable def xJ:Code:=(Tryz.f136.body).getD .skip
def DY:Nat→Option (List Nat):=fun i=>none
def Ei:Nat→Bool:=fun i=>false
def xP(g:Nat→AV)(x0:AV)(H:ab)(Q:AV→ab→Prop):Prop :=
 br (some x0) (
 Q (.v (.int .i64 0)) H) (
 Q (.v (.int .i64 8)) H)
theorem Dw(x0:AV)(H:ab)(Q:AV→ab→Prop)(h : ∀g,xP g x0 H Q):bW env Tryz.f136 0 [.code xJ] [(0,x0)] H Q:=⟨fun g=>aY (live:=DY) (cut:=Ei) (n:=500) (Eq.mp (by kernel_rfl) (h g))⟩
noncomputable def xK:Code:=(Tryz.f137.body).getD .skip
def DZ:Nat→Option (List Nat):=fun i=>none
def Ej:Nat→Bool:=fun i=>false
def xQ(g:Nat→AV)(x0:AV)(H:ab)(Q:AV→ab→Prop):Prop :=
 aN (Zc H 1 45 x0) fun v1 H1 =>
 ak (Zd 45 v1 0) fun v2 =>
 ak (Zb H1 40 v2) fun v3 =>
 aN (Za true H1 5 117 [v3]) fun v4 H2 =>
 ak (Zg 23 5 0 v4) fun v5 =>
 gQ v5 true (Zd 45 v1 1) fun v6 =>
 gQ v5 true (Zb H2 3 v6) fun v7 =>
 gQ v5 true (Zm 3 9 1 v7) fun v8 =>
 ak (Zh v5 v8) fun v9 =>
 gQ v9 true (Zd 45 v1 1) fun v10 =>
 gQ v9 true (Zb H2 3 v10) fun v11 =>
 gQ v9 true (Zy 3 14 1099511627776 v11) fun v12 =>
 ak (Zh v9 v12) fun v13 =>
 aN (Za true H2 17 136 [v13]) fun v14 H3 =>
 Q v14 H3
theorem Dx(x0:AV)(H:ab)(Q:AV→ab→Prop)(h : ∀g,xQ g x0 H Q):bW env Tryz.f137 0 [.code xK] [(0,x0)] H Q:=⟨fun g=>aY (live:=DZ) (cut:=Ej) (n:=500) (Eq.mp (by kernel_rfl) (h g))⟩
noncomputable def tX:Code:=(Tryz.f139.body).getD .skip
def AQ:Nat→Option (List Nat):=fun i=>none
def Bm:Nat→Bool:=fun i=>false
def pP(g:Nat→AV)(x0:AV)(H:ab)(Q:AV→ab→Prop):Prop :=
 ak (Zk H 6 48 x0) fun v1 =>
 ak (Zt 3 6 64 v1) fun v2 =>
 br (some v2) (
 Q (.v (.int .i64 4)) H) (
 aN (Za true H 11 162 [x0,(.fn (.func 160) [] [])]) fun v3 H1 =>
 br (some v3) (
 Q (.v (.int .i64 8)) H1) (
 Q (.v (.int .i64 0)) H1))
theorem z7(x0:AV)(H:ab)(Q:AV→ab→Prop)(h : ∀g,pP g x0 H Q):bW env Tryz.f139 0 [.code tX] [(0,x0)] H Q:=⟨fun g=>aY (live:=AQ) (cut:=Bm) (n:=500) (Eq.mp (by kernel_rfl) (h g))⟩
noncomputable def fM:Code:=(Tryz.f140.body).getD .skip
noncomputable def dW:List Item:=(cg 2 400 [.code fM]).getD []
def jl:Nat→Option (List Nat):=fun i=>cond (Nat.beq i 2) (some [8,0,1,7]) (none)
def jo:Nat→Bool:=fun i=>false
def jw(g:Nat→AV)(x0 x1:AV)(H:ab)(Q:AV→ab→Prop):Prop :=
 ak (Zk H 7 48 x0) fun v1 =>
  bW env Tryz.f140 0 dW [(8,(.v (.int .i64 0))),(0,x0),(1,x1),(7,v1)] H Q
theorem nF(x0 x1:AV)(H:ab)(Q:AV→ab→Prop)(h : ∀g,jw g x0 x1 H Q):bW env Tryz.f140 0 [.code fM] [(0,x0),(1,x1)] H Q:=⟨fun g=>aY (live:=jl) (cut:=jo) (n:=500) (Eq.mp (by kernel_rfl) (h g))⟩
def dZ(g:Nat→AV)(x8 x0 x1 x7:AV)(H:ab)(Q:AV→ab→Prop):Prop :=
 ak (Zo 3 8 7 x8 x7) fun v1 =>
 br (some v1) (
 ak (Zw H 48 x0 x8) fun v2 =>
 ak (Zb H 21 v2) fun v3 =>
 ak (Zp 21 11 15 x1 v3) fun v4 =>
 br (some v4) (
 Q x8 H) (
 ak (Ze 3 8 1 x8) fun v5 =>
  bW env Tryz.f140 0 dW [(8,v5),(0,x0),(1,x1),(7,x7)] H Q)) (
 Q (.v (.int .i64 (-1))) H)
theorem iL(x8 x0 x1 x7:AV)(H:ab)(Q:AV→ab→Prop)(h : ∀g,dZ g x8 x0 x1 x7 H Q):bW env Tryz.f140 0 dW [(8,x8),(0,x0),(1,x1),(7,x7)] H Q:=dG fun g=>aY (live:=jl) (cut:=jo) (n:=500) (Eq.mp (by kernel_rfl) (h g))
noncomputable def fN:Code:=(Tryz.f141.body).getD .skip
noncomputable def dX:List Item:=(cg 4 400 [.code fN]).getD []
def jm:Nat→Option (List Nat):=fun i=>cond (Nat.beq i 4) (some [13,1,0,12]) (none)
def jq:Nat→Bool:=fun i=>false
def fP(g:Nat→AV)(x0 x1:AV)(H:ab)(Q:AV→ab→Prop):Prop :=
 ak (Zk H 7 48 x0) fun v1 =>
 ak (Zk H 9 48 x1) fun v2 =>
 ak (ZD 3 7 9 v1 v2) fun v3 =>
 br (some v3) (
 Q (.v (.bool false)) H) (
 ak (Zk H 12 48 x0) fun v4 =>
  bW env Tryz.f141 0 dX [(13,(.v (.int .i64 0))),(1,x1),(0,x0),(12,v4)] H Q)
theorem nG(x0 x1:AV)(H:ab)(Q:AV→ab→Prop)(h : ∀g,fP g x0 x1 H Q):bW env Tryz.f141 0 [.code fN] [(0,x0),(1,x1)] H Q:=⟨fun g=>aY (live:=jm) (cut:=jq) (n:=500) (Eq.mp (by kernel_rfl) (h g))⟩
def ed(g:Nat→AV)(x13 x1 x0 x12:AV)(H:ab)(Q:AV→ab→Prop):Prop :=
 ak (Zo 3 13 12 x13 x12) fun v1 =>
 br (some v1) (
 ak (Zw H 48 x0 x13) fun v2 =>
 ak (Zb H 21 v2) fun v3 =>
 ak (Zw H 48 x1 x13) fun v4 =>
 ak (Zb H 21 v4) fun v5 =>
 ak (ZD 21 19 23 v3 v5) fun v6 =>
 br (some v6) (
 Q (.v (.bool false)) H) (
 ak (Ze 3 13 1 x13) fun v7 =>
  bW env Tryz.f141 0 dX [(13,v7),(1,x1),(0,x0),(12,x12)] H Q)) (
 Q (.v (.bool true)) H)
theorem iM(x13 x1 x0 x12:AV)(H:ab)(Q:AV→ab→Prop)(h : ∀g,ed g x13 x1 x0 x12 H Q):bW env Tryz.f141 0 dX [(13,x13),(1,x1),(0,x0),(12,x12)] H Q:=dG fun g=>aY (live:=jm) (cut:=jq) (n:=500) (Eq.mp (by kernel_rfl) (h g))
noncomputable def Dl:Code:=(Tryz.f145.body).getD .skip
def JQ:Nat→Option (List Nat):=fun i=>none
def Ka:Nat→Bool:=fun i=>false
def rT(g:Nat→AV)(x0 x1:AV)(H:ab)(Q:AV→ab→Prop):Prop :=
 aN (Zc H 2 47 x0) fun v1 H1 =>
 aN (Zi H1 4 45) fun v2 H2 =>
 ak (Zb H2 47 v1) fun v3 =>
 aN (Za true H2 8 131 [v3]) fun v4 H3 =>
 ak (Zf 23 9 0 v4) fun v5 =>
 br (some v5) (
 ak (ZV 45) fun v6 =>
 aN (Zl H3 45 v2 v6) fun v7 H4 =>
 ak (Y5 H4 v2 45) fun v8 =>
 Q (.tup [v8,v4]) H4) (
 ak (Zs 3 13 0 x1) fun v6 =>
 gQ v6 false (ZN x1) fun v7 =>
 gQ v6 false (Zd 47 v1 1) fun v8 =>
 gQ v6 false (Zb H3 3 v8) fun v9 =>
 gQ v6 false (Z6 3 16 18 v7 v9) fun v10 =>
 ak (Zn v6 v10) fun v11 =>
 br (some v11) (
 ak (ZV 45) fun v12 =>
 aN (Zl H3 45 v2 v12) fun v13 H4 =>
 ak (Y5 H4 v2 45) fun v14 =>
 Q (.tup [v14,(.v (.int .i64 2))]) H4) (
 ak (Zd 47 v1 0) fun v12 =>
 ak (Zb H3 45 v12) fun v13 =>
 aN (Za true H3 25 164 [v13,x1]) fun v14 H4 =>
 aN (Zl H4 45 v2 v14) fun v15 H5 =>
 ak (Y5 H5 v2 45) fun v16 =>
 Q (.tup [v16,(.v (.int .i64 0))]) H5))
theorem I1(x0 x1:AV)(H:ab)(Q:AV→ab→Prop)(h : ∀g,rT g x0 x1 H Q):bW env Tryz.f145 0 [.code Dl] [(0,x0),(1,x1)] H Q:=⟨fun g=>aY (live:=JQ) (cut:=Ka) (n:=500) (Eq.mp (by kernel_rfl) (h g))⟩
noncomputable def nS:Code:=(Tryz.f155.body).getD .skip
def JO:Nat→Option (List Nat):=fun i=>none
def J8:Nat→Bool:=fun i=>false
def k9(g:Nat→AV)(x0:AV)(H:ab)(Q:AV→ab→Prop):Prop :=
 aN (Zc H 1 50 x0) fun v1 H1 =>
 aN (Zi H1 2 171) fun v2 H2 =>
 ak (Zb H2 50 v1) fun v3 =>
 aN (Za true H2 7 115 [v3]) fun v4 H3 =>
 ak (Zf 23 8 0 v4) fun v5 =>
 br (some v5) (
 ak (ZV 171) fun v6 =>
 aN (Zl H3 171 v2 v6) fun v7 H4 =>
 ak (Y5 H4 v2 171) fun v8 =>
 Q (.tup [v8,v4]) H4) (
 ak (Zd 50 v1 3) fun v6 =>
 ak (Zb H3 47 v6) fun v7 =>
 ak (Zd 50 v1 4) fun v8 =>
 ak (Zb H3 45 v8) fun v9 =>
 ak (Zd 50 v1 6) fun v10 =>
 ak (Zb H3 48 v10) fun v11 =>
 aN (Za false H3 18 95 [v11]) fun v12 H4 =>
 ak (cb env.P 171 (some [(0,v7),(1,v9),(2,v12)])) fun v13 =>
 aN (Zi H4 5 171) fun v14 H5 =>
 aN (Zl H5 171 v14 v13) fun v15 H6 =>
 ak (Zd 50 v1 0) fun v16 =>
 ak (Zb H6 5 v16) fun v17 =>
 ak (aE env.P .neq 5 (Operand.tmp 21) (.const (.int .u8 1)) (some v17) (some (a8 1))) fun v18 =>
 gQ v18 false (Zb H6 171 v14) fun v19 =>
 gW v18 false H6 (Za true H6 25 165 [v19]) fun v20 H7 =>
 gQ v18 false (Zf 23 25 0 v20) fun v21 =>
 ak (Zn v18 v21) fun v22 =>
 br (some v22) (
 ak (ZV 171) fun v23 =>
 aN (Zl H7 171 v2 v23) fun v24 H8 =>
 ak (Y5 H8 v2 171) fun v25 =>
 Q (.tup [v25,(.v (.int .i64 2))]) H8) (
 ak (Zb H7 171 v14) fun v23 =>
 aN (Zl H7 171 v2 v23) fun v24 H8 =>
 ak (Y5 H8 v2 171) fun v25 =>
 Q (.tup [v25,(.v (.int .i64 0))]) H8))
theorem pa(x0:AV)(H:ab)(Q:AV→ab→Prop)(h : ∀g,k9 g x0 H Q):bW env Tryz.f155 0 [.code nS] [(0,x0)] H Q:=⟨fun g=>aY (live:=JO) (cut:=J8) (n:=500) (Eq.mp (by kernel_rfl) (h g))⟩
noncomputable def rL:Code:=(Tryz.f160.body).getD .skip
def yv:Nat→Option (List Nat):=fun i=>none
def yJ:Nat→Bool:=fun i=>false
def nW(g:Nat→AV)(x0:AV)(H:ab)(Q:AV→ab→Prop):Prop :=
 ak (aE env.P .neq 21 (Operand.tmp 3) (.const (.int .i32 (-1))) (some x0) (some (.v (.int .i32 (-1))))) fun v1 =>
 gQ v1 true (ZN x0) fun v2 =>
 gW v1 true H (Za true H 7 161 [v2]) fun v3 H1 =>
 gQ v1 true (ZH v3) fun v4 =>
 ak (Zh v1 v4) fun v5 =>
 Q v5 H1
theorem xZ(x0:AV)(H:ab)(Q:AV→ab→Prop)(h : ∀g,nW g x0 H Q):bW env Tryz.f160 0 [.code rL] [(0,x0)] H Q:=⟨fun g=>aY (live:=yv) (cut:=yJ) (n:=500) (Eq.mp (by kernel_rfl) (h g))⟩
noncomputable def ld:Code:=(Tryz.f161.body).getD .skip
def pX:Nat→Option (List Nat):=fun i=>none
def p4:Nat→Bool:=fun i=>false
def lf(g:Nat→AV)(x0:AV)(H:ab)(Q:AV→ab→Prop):Prop :=
 ak (aE env.P .leq 21 (.const (.int .i32 0)) (Operand.tmp 4) (some (.v (.int .i32 0))) (some x0)) fun v1 =>
 gQ v1 true (ZN x0) fun v2 =>
 gQ v1 true (aE env.P .lss 21 (Operand.tmp 7) (.const (.int .i32 55296)) (some v2) (some (.v (.int .i32 55296)))) fun v3 =>
 ak (Zh v1 v3) fun v4 =>
 br (some v4) (
 Q (.v (.bool true)) H) (
 ak (aE env.P .lss 21 (.const (.int .i32 57343)) (Operand.tmp 11) (some (.v (.int .i32 57343))) (some x0)) fun v5 =>
 gQ v5 true (ZN x0) fun v6 =>
 gQ v5 true (aE env.P .leq 21 (Operand.tmp 14) (.const (.int .i32 1114111)) (some v6) (some (.v (.int .i32 1114111)))) fun v7 =>
 ak (Zh v5 v7) fun v8 =>
 br (some v8) (
 Q (.v (.bool true)) H) (
 Q (.v (.bool false)) H))
theorem pV(x0:AV)(H:ab)(Q:AV→ab→Prop)(h : ∀g,lf g x0 H Q):bW env Tryz.f161 0 [.code ld] [(0,x0)] H Q:=⟨fun g=>aY (live:=pX) (cut:=p4) (n:=500) (Eq.mp (by kernel_rfl) (h g))⟩
noncomputable def gD:Code:=(Tryz.f162.body).getD .skip
def ly:Nat→Option (List Nat):=fun i=>none
def lA:Nat→Bool:=fun i=>false
def gH(g:Nat→AV)(x0 x1:AV)(H:ab)(Q:AV→ab→Prop):Prop :=
 aN (Za true H 7 170 [x0,x1]) fun v1 H1 =>
 ak (Zm 3 7 0 v1) fun v2 =>
 Q v2 H1
theorem lj(x0 x1:AV)(H:ab)(Q:AV→ab→Prop)(h : ∀g,gH g x0 x1 H Q):bW env Tryz.f162 0 [.code gD] [(0,x0),(1,x1)] H Q:=⟨fun g=>aY (live:=ly) (cut:=lA) (n:=500) (Eq.mp (by kernel_rfl) (h g))⟩
noncomputable def zh:Code:=(Tryz.f164.body).getD .skip
def FJ:Nat→Option (List Nat):=fun i=>none
def Gj:Nat→Bool:=fun i=>false
def zk(g:Nat→AV)(x0 x1:AV)(H:ab)(Q:AV→ab→Prop):Prop :=
 aN (Zc H 2 45 x0) fun v1 H1 =>
 aN (Zi H1 4 45) fun v2 H2 =>
 ak (Zd 45 v1 1) fun v3 =>
 ak (Zb H2 3 v3) fun v4 =>
 ak (ZC 3 6 7 v4 x1) fun v5 =>
 ak (Zd 45 v1 1) fun v6 =>
 aN (Zl H2 3 v6 v5) fun v7 H3 =>
 ak (Zb H3 45 v1) fun v8 =>
 aN (Zl H3 45 v2 v8) fun v9 H4 =>
 ak (Y5 H4 v2 45) fun v10 =>
 Q v10 H4
theorem EN(x0 x1:AV)(H:ab)(Q:AV→ab→Prop)(h : ∀g,zk g x0 x1 H Q):bW env Tryz.f164 0 [.code zh] [(0,x0),(1,x1)] H Q:=⟨fun g=>aY (live:=FJ) (cut:=Gj) (n:=500) (Eq.mp (by kernel_rfl) (h g))⟩
noncomputable def xI:Code:=(Tryz.f165.body).getD .skip
def DW:Nat→Option (List Nat):=fun i=>none
def Eg:Nat→Bool:=fun i=>false
def sA(g:Nat→AV)(x0:AV)(H:ab)(Q:AV→ab→Prop):Prop :=
 aN (Zc H 1 171 x0) fun v1 H1 =>
 ak (Zd 171 v1 1) fun v2 =>
 ak (Zb H1 45 v2) fun v3 =>
 ak (ZV 45) fun v4 =>
 ak (Zp 45 5 6 v3 v4) fun v5 =>
 gQ v5 false (Zd 171 v1 1) fun v6 =>
 gQ v5 false (Zb H1 45 v6) fun v7 =>
 gW v5 false H1 (Za true H1 11 137 [v7]) fun v8 H2 =>
 gQ v5 false (Zg 23 11 0 v8) fun v9 =>
 gQ v5 false (ZN v9) fun v10 =>
 gQ v10 true (Zd 171 v1 1) fun v11 =>
 gQ v10 true (Zd 45 v11 1) fun v12 =>
 gQ v10 true (Zb H2 3 v12) fun v13 =>
 gQ v10 true (Zd 171 v1 0) fun v14 =>
 gQ v10 true (Zd 47 v14 0) fun v15 =>
 gQ v10 true (Zd 45 v15 1) fun v16 =>
 gQ v10 true (Zb H2 3 v16) fun v17 =>
 gQ v10 true (Zo 3 16 20 v13 v17) fun v18 =>
 gQ v5 false (Zh v10 v18) fun v19 =>
 ak (Zn v5 v19) fun v20 =>
 ak (Zd 171 v1 0) fun v21 =>
 ak (Zb H2 47 v21) fun v22 =>
 aN (Za true H2 26 131 [v22]) fun v23 H3 =>
 ak (Zf 23 26 0 v23) fun v24 =>
 gQ v24 false (ZN v20) fun v25 =>
 gQ v24 false (ZH v25) fun v26 =>
 ak (Zn v24 v26) fun v27 =>
 gQ v27 false (Zd 171 v1 2) fun v28 =>
 gQ v27 false (Zb H3 48 v28) fun v29 =>
 gQ v27 false (Zk H3 35 48 v29) fun v30 =>
 gQ v27 false (Zd 171 v1 0) fun v31 =>
 gQ v27 false (Zd 47 v31 1) fun v32 =>
 gQ v27 false (Zb H3 3 v32) fun v33 =>
 gQ v27 false (ZD 3 35 38 v30 v33) fun v34 =>
 ak (Zn v27 v34) fun v35 =>
 gQ v35 false (Zd 171 v1 2) fun v36 =>
 gQ v35 false (Zb H3 48 v36) fun v37 =>
 gW v35 false H3 (Za true H3 44 139 [v37]) fun v38 H4 =>
 gQ v35 false (Zf 23 44 0 v38) fun v39 =>
 ak (Zn v35 v39) fun v40 =>
 br (some v40) (
 Q (.v (.int .i64 8)) H4) (
 Q (.v (.int .i64 0)) H4)
theorem Du(x0:AV)(H:ab)(Q:AV→ab→Prop)(h : ∀g,sA g x0 H Q):bW env Tryz.f165 0 [.code xI] [(0,x0)] H Q:=⟨fun g=>aY (live:=DW) (cut:=Eg) (n:=500) (Eq.mp (by kernel_rfl) (h g))⟩
noncomputable def eR:Code:=(Tryz.f170.body).getD .skip
noncomputable def dL:List Item:=(cg 2 400 [.code eR]).getD []
def iw:Nat→Option (List Nat):=fun i=>cond (Nat.beq i 2) (some [8,0,1,7]) (none)
def iy:Nat→Bool:=fun i=>false
def iE(g:Nat→AV)(x0 x1:AV)(H:ab)(Q:AV→ab→Prop):Prop :=
 ak (Zk H 7 48 x0) fun v1 =>
  bW env Tryz.f170 0 dL [(8,(.v (.int .i64 0))),(0,x0),(1,x1),(7,v1)] H Q
theorem mw(x0 x1:AV)(H:ab)(Q:AV→ab→Prop)(h : ∀g,iE g x0 x1 H Q):bW env Tryz.f170 0 [.code eR] [(0,x0),(1,x1)] H Q:=⟨fun g=>aY (live:=iw) (cut:=iy) (n:=500) (Eq.mp (by kernel_rfl) (h g))⟩
def dN(g:Nat→AV)(x8 x0 x1 x7:AV)(H:ab)(Q:AV→ab→Prop):Prop :=
 ak (Zo 3 8 7 x8 x7) fun v1 =>
 br (some v1) (
 ak (Zw H 48 x0 x8) fun v2 =>
 ak (Zb H 21 v2) fun v3 =>
 aN (ZE H 16 x1 v3) fun v4 H1 =>
 br (some v4) (
 Q x8 H1) (
 ak (Ze 3 8 1 x8) fun v5 =>
  bW env Tryz.f170 0 dL [(8,v5),(0,x0),(1,x1),(7,x7)] H1 Q)) (
 Q (.v (.int .i64 (-1))) H)
theorem gP(x8 x0 x1 x7:AV)(H:ab)(Q:AV→ab→Prop)(h : ∀g,dN g x8 x0 x1 x7 H Q):bW env Tryz.f170 0 dL [(8,x8),(0,x0),(1,x1),(7,x7)] H Q:=dG fun g=>aY (live:=iw) (cut:=iy) (n:=500) (Eq.mp (by kernel_rfl) (h g))
noncomputable def BE:Code:=(Tryz.f176.body).getD .skip
def Hk:Nat→Option (List Nat):=fun i=>none
def HH:Nat→Bool:=fun i=>false
def nY(g:Nat→AV)(x0 x1:AV)(H:ab)(Q:AV→ab→Prop):Prop :=
 aN (Zc H 2 47 x0) fun v1 H1 =>
 aN (Zc H1 3 45 x1) fun v2 H2 =>
 ak (Zd 45 v2 1) fun v3 =>
 ak (Zb H2 3 v3) fun v4 =>
 ak (Zd 47 v1 0) fun v5 =>
 ak (Zd 45 v5 1) fun v6 =>
 ak (Zb H2 3 v6) fun v7 =>
 ak (ZF 3 8 11 v4 v7) fun v8 =>
 ak (Zb H2 47 v1) fun v9 =>
 aN (Za false H2 14 131 [v9]) fun v10 H3 =>
 ak (Zf 23 14 0 v10) fun v11 =>
 gQ v11 false (ZN v8) fun v12 =>
 gQ v11 false (Zs 3 17 0 v12) fun v13 =>
 ak (Zn v11 v13) fun v14 =>
 gQ v14 false (ZN v8) fun v15 =>
 gQ v14 false (Zd 47 v1 1) fun v16 =>
 gQ v14 false (Zb H3 3 v16) fun v17 =>
 gQ v14 false (Z6 3 21 23 v15 v17) fun v18 =>
 ak (Zn v14 v18) fun v19 =>
 gQ v19 false (Zb H3 45 v2) fun v20 =>
 gQ v19 false (Zd 47 v1 0) fun v21 =>
 gQ v19 false (Zb H3 45 v21) fun v22 =>
 gQ v19 false (ZN v8) fun v23 =>
 gW v19 false H3 (Za false H3 31 164 [v22,v23]) fun v24 H4 =>
 gQ v19 false (ZD 45 27 31 v20 v24) fun v25 =>
 ak (Zn v19 v25) fun v26 =>
 br (some v26) (
 Q (.tup [(.v (.int .i64 0)),(.v (.bool false))]) H4) (
 Q (.tup [v8,(.v (.bool true))]) H4)
theorem GJ(x0 x1:AV)(H:ab)(Q:AV→ab→Prop)(h : ∀g,nY g x0 x1 H Q):bW env Tryz.f176 0 [.code BE] [(0,x0),(1,x1)] H Q:=⟨fun g=>aY (live:=Hk) (cut:=HH) (n:=500) (Eq.mp (by kernel_rfl) (h g))⟩
end Go.Proofs.YtdbiffjdomokfaaGreat
