/-
  What is to be shown of each function, computed from its code. No statement of a seat is proved here.
-/
import Derived.Test.YtmkmimgokagimaaGreatLeTy
set_option linter.unusedVariables false
set_option maxRecDepth 1000000
namespace Go.Proofs.YtmkmimgokagimaaGreat
open Go.Ab
noncomputable def rR:Code:=(Tryz.f47.body).getD .skip
def DI:Nat→Option (List Nat):=fun i=>none
def D0:Nat→Bool:=fun i=>false
def sn(g:Nat→AV)(x0 x1:AV)(H:Heap)(Q:AV→Heap→Prop):Prop :=
 doW (Zc H 2 29 x0) fun v1 H1 =>
 doW (Zc H1 3 29 x1) fun v2 H2 =>
 doQ (Zd 29 v1 0) fun v3 =>
 doQ (Zb H2 5 v3) fun v4 =>
 doQ (Zd 29 v2 0) fun v5 =>
 doQ (Zb H2 5 v5) fun v6 =>
 doQ (Ye 5 6 8 v4 v6) fun v7 =>
 gQ v7 true (Zd 29 v1 1) fun v8 =>
 gQ v7 true (Zb H2 27 v8) fun v9 =>
 gQ v7 true (Zd 29 v2 1) fun v10 =>
 gQ v7 true (Zb H2 27 v10) fun v11 =>
 gQ v7 true (qBin env.P .andNot 27 (Operand.tmp 12) (Operand.tmp 14) (some v9) (some v11)) fun v12 =>
 gQ v7 true (qBin env.P .eql 27 (Operand.tmp 15) (.const (.int .u32 0)) (some v12) (some (a32 0))) fun v13 =>
 doQ (Zf v7 v13) fun v14 =>
 Q v14 H2
theorem xi(x0 x1:AV)(H:Heap)(Q:AV→Heap→Prop)(h : ∀g,sn g x0 x1 H Q):GoL env Tryz.f47 0 [.code rR] [(0,x0),(1,x1)] H Q:=⟨fun g=>aJ (live:=DI) (cut:=D0) (n:=500) (Eq.mp (by kernel_rfl) (h g))⟩
noncomputable def oC:Code:=(Tryz.f76.body).getD .skip
def AZ:Nat→Option (List Nat):=fun i=>none
def Bi:Nat→Bool:=fun i=>false
def oJ(g:Nat→AV)(x0:AV)(H:Heap)(Q:AV→Heap→Prop):Prop :=
 doW (Zc H 1 29 x0) fun v1 H1 =>
 doQ (Zd 29 v1 0) fun v2 =>
 doQ (Zb H1 5 v2) fun v3 =>
 doQ (qBin env.P .gtr 5 (Operand.tmp 4) (.const (.int .u8 15)) (some v3) (some (a8 15))) fun v4 =>
 br (some v4) (
 Q (.v (.int .i64 8)) H1) (
 Q (.v (.int .i64 0)) H1)
theorem tf(x0:AV)(H:Heap)(Q:AV→Heap→Prop)(h : ∀g,oJ g x0 H Q):GoL env Tryz.f76 0 [.code oC] [(0,x0)] H Q:=⟨fun g=>aJ (live:=AZ) (cut:=Bi) (n:=500) (Eq.mp (by kernel_rfl) (h g))⟩
noncomputable def n8:Code:=(Tryz.f91.body).getD .skip
def u9:Nat→Option (List Nat):=fun i=>none
def vm:Nat→Bool:=fun i=>false
def oc(g:Nat→AV)(x0:AV)(H:Heap)(Q:AV→Heap→Prop):Prop :=
 doW (Zc H 1 31 x0) fun v1 H1 =>
 doQ (Zd 31 v1 0) fun v2 =>
 doQ (Zb H1 29 v2) fun v3 =>
 doW (Za true H1 5 76 [v3]) fun v4 H2 =>
 doQ (Zi 42 5 0 v4) fun v5 =>
 gQ v5 true (Zd 31 v1 1) fun v6 =>
 gQ v5 true (Zb H2 5 v6) fun v7 =>
 gQ v5 true (qBin env.P .lss 5 (Operand.tmp 9) (.const (.int .u8 8)) (some v7) (some (a8 8))) fun v8 =>
 doQ (Zf v5 v8) fun v9 =>
 doW (Za true H2 12 159 [v9]) fun v10 H3 =>
 Q v10 H3
theorem uK(x0:AV)(H:Heap)(Q:AV→Heap→Prop)(h : ∀g,oc g x0 H Q):GoL env Tryz.f91 0 [.code n8] [(0,x0)] H Q:=⟨fun g=>aJ (live:=u9) (cut:=vm) (n:=500) (Eq.mp (by kernel_rfl) (h g))⟩
noncomputable def hJ:Code:=(Tryz.f133.body).getD .skip
noncomputable def eg:List Item:=(bS 4 400 [.code hJ]).getD []
def kV:Nat→Option (List Nat):=fun i=>cond (Nat.beq i 4) (some [5,1,0]) (none)
def lC:Nat→Bool:=fun i=>false
def hX(g:Nat→AV)(x0 x1:AV)(H:Heap)(Q:AV→Heap→Prop):Prop :=
 doQ (Zk H 7 36 x0) fun v1 =>
 doQ (Zk H 9 36 x1) fun v2 =>
 doQ (ZB 3 7 9 v1 v2) fun v3 =>
 br (some v3) (
 Q (.v (.bool false)) H) (
  GoL env Tryz.f133 0 eg [(5,(.v (.int .i64 0))),(1,x1),(0,x0)] H Q)
theorem p6(x0 x1:AV)(H:Heap)(Q:AV→Heap→Prop)(h : ∀g,hX g x0 x1 H Q):GoL env Tryz.f133 0 [.code hJ] [(0,x0),(1,x1)] H Q:=⟨fun g=>aJ (live:=kV) (cut:=lC) (n:=500) (Eq.mp (by kernel_rfl) (h g))⟩
def ei(g:Nat→AV)(x5 x1 x0:AV)(H:Heap)(Q:AV→Heap→Prop):Prop :=
 doQ (Zk H 13 36 x0) fun v1 =>
 doQ (Zp 3 11 13 x5 v1) fun v2 =>
 br (some v2) (
 doQ (Zu H 36 x0 x5) fun v3 =>
 doQ (Zb H 21 v3) fun v4 =>
 doQ (Zu H 36 x1 x5) fun v5 =>
 doQ (Zb H 21 v5) fun v6 =>
 doQ (ZB 21 20 24 v4 v6) fun v7 =>
 br (some v7) (
 Q (.v (.bool false)) H) (
 doQ (Zh 3 15 1 x5) fun v8 =>
  GoL env Tryz.f133 0 eg [(5,v8),(1,x1),(0,x0)] H Q)) (
 Q (.v (.bool true)) H)
theorem jD(x5 x1 x0:AV)(H:Heap)(Q:AV→Heap→Prop)(h : ∀g,ei g x5 x1 x0 H Q):GoL env Tryz.f133 0 eg [(5,x5),(1,x1),(0,x0)] H Q:=dk fun g=>aJ (live:=kV) (cut:=lC) (n:=500) (Eq.mp (by kernel_rfl) (h g))
noncomputable def qT:Code:=(Tryz.f135.body).getD .skip
def yc:Nat→Option (List Nat):=fun i=>none
def ym:Nat→Bool:=fun i=>false
def ib(g:Nat→AV)(x0:AV)(H:Heap)(Q:AV→Heap→Prop):Prop :=
 doW (Zc H 1 35 x0) fun v1 H1 =>
 doQ (Zd 35 v1 0) fun v2 =>
 doQ (Zb H1 33 v2) fun v3 =>
 doW (Za true H1 5 182 [v3]) fun v4 H2 =>
 doQ (Zi 42 5 0 v4) fun v5 =>
 gQ v5 true (Zd 35 v1 1) fun v6 =>
 gQ v5 true (Zb H2 3 v6) fun v7 =>
 gQ v5 true (Zq 3 9 1 v7) fun v8 =>
 doQ (Zf v5 v8) fun v9 =>
 gQ v9 true (Zd 35 v1 1) fun v10 =>
 gQ v9 true (Zb H2 3 v10) fun v11 =>
 gQ v9 true (Zy 3 14 64 v11) fun v12 =>
 doQ (Zf v9 v12) fun v13 =>
 gQ v13 true (Zd 35 v1 0) fun v14 =>
 gQ v13 true (Zd 33 v14 1) fun v15 =>
 gQ v13 true (Zb H2 3 v15) fun v16 =>
 gQ v13 true (Zd 35 v1 1) fun v17 =>
 gQ v13 true (Zb H2 3 v17) fun v18 =>
 gQ v13 true (ZF 3 20 22 v16 v18) fun v19 =>
 gQ v13 true (Zx 3 23 1 v19) fun v20 =>
 gQ v13 true (Zy 3 24 1099511627776 v20) fun v21 =>
 doQ (Zf v13 v21) fun v22 =>
 doW (Za true H2 27 159 [v22]) fun v23 H3 =>
 Q v23 H3
theorem xV(x0:AV)(H:Heap)(Q:AV→Heap→Prop)(h : ∀g,ib g x0 H Q):GoL env Tryz.f135 0 [.code qT] [(0,x0)] H Q:=⟨fun g=>aJ (live:=yc) (cut:=ym) (n:=500) (Eq.mp (by kernel_rfl) (h g))⟩
noncomputable def xF:Code:=(Tryz.f159.body).getD .skip
def DJ:Nat→Option (List Nat):=fun i=>none
def D1:Nat→Bool:=fun i=>false
def xK(g:Nat→AV)(x0:AV)(H:Heap)(Q:AV→Heap→Prop):Prop :=
 br (some x0) (
 Q (.v (.int .i64 0)) H) (
 Q (.v (.int .i64 8)) H)
theorem Dd(x0:AV)(H:Heap)(Q:AV→Heap→Prop)(h : ∀g,xK g x0 H Q):GoL env Tryz.f159 0 [.code xF] [(0,x0)] H Q:=⟨fun g=>aJ (live:=DJ) (cut:=D1) (n:=500) (Eq.mp (by kernel_rfl) (h g))⟩
noncomputable def qS:Code:=(Tryz.f162.body).getD .skip
def yb:Nat→Option (List Nat):=fun i=>none
def yl:Nat→Bool:=fun i=>false
def mP(g:Nat→AV)(x0:AV)(H:Heap)(Q:AV→Heap→Prop):Prop :=
 doW (Zc H 1 31 x0) fun v1 H1 =>
 doQ (Zb H1 31 v1) fun v2 =>
 doW (Za true H1 6 91 [v2]) fun v3 H2 =>
 doQ (Ze 42 7 0 v3) fun v4 =>
 br (some v4) (
 Q (.tup [(.v (.slice none 0 0)),v3]) H2) (
 doQ (Zd 31 v1 0) fun v5 =>
 doQ (Zd 29 v5 0) fun v6 =>
 doQ (Zb H2 5 v6) fun v7 =>
 doW (ZR H2 13 170 1 0 v7) fun v8 H3 =>
 doQ (Zd 31 v1 0) fun v9 =>
 doQ (Zd 29 v9 1) fun v10 =>
 doQ (Zb H3 27 v10) fun v11 =>
 doQ (Zv H3 17 27 3 v11) fun v12 =>
 doW (Za false H3 18 207 [v12,(.v (.int .i64 4))]) fun v13 H4 =>
 doW (cO env.P false H4 (Ref.mk 0 19 (Heap.gen H4 0 19) 0) (some 170) (some 170) v8 v13) fun v14 H5 =>
 doQ (Zd 31 v1 1) fun v15 =>
 doQ (Zb H5 5 v15) fun v16 =>
 doW (ZR H5 22 170 1 0 v16) fun v17 H6 =>
 doW (Zt H6 23 170 170 v14 v17) fun v18 H7 =>
 Q (.tup [v18,(.v (.int .i64 0))]) H7)
theorem xU(x0:AV)(H:Heap)(Q:AV→Heap→Prop)(h : ∀g,mP g x0 H Q):GoL env Tryz.f162 0 [.code qS] [(0,x0)] H Q:=⟨fun g=>aJ (live:=yb) (cut:=yl) (n:=500) (Eq.mp (by kernel_rfl) (h g))⟩
noncomputable def tI:Code:=(Tryz.f169.body).getD .skip
def A0:Nat→Option (List Nat):=fun i=>none
def Bj:Nat→Bool:=fun i=>false
def tQ(g:Nat→AV)(x0 x1:AV)(H:Heap)(Q:AV→Heap→Prop):Prop :=
 doW (Zc H 2 29 x0) fun v1 H1 =>
 doW (Zc H1 3 29 x1) fun v2 H2 =>
 doQ (Zd 29 v2 0) fun v3 =>
 doQ (Zb H2 5 v3) fun v4 =>
 doQ (Zd 29 v1 1) fun v5 =>
 doQ (Zb H2 27 v5) fun v6 =>
 doQ (ZP 29 0 v4 1 v6) fun v7 =>
 doW (Zg H2 5 29) fun v8 H3 =>
 doW (Zl H3 29 v8 v7) fun v9 H4 =>
 doQ (Zd 29 v1 0) fun v10 =>
 doQ (Zb H4 5 v10) fun v11 =>
 doQ (Zd 29 v2 0) fun v12 =>
 doQ (Zb H4 5 v12) fun v13 =>
 doQ (Zp 5 12 14 v11 v13) fun v14 =>
 gQ v14 false (Zb H4 29 v1) fun v15 =>
 gQ v14 false (Zb H4 29 v8) fun v16 =>
 gQ v14 false (Zm 29 17 18 v15 v16) fun v17 =>
 gQ v14 false (ZI v17) fun v18 =>
 gQ v18 true (Zd 29 v1 1) fun v19 =>
 gQ v18 true (Zb H4 27 v19) fun v20 =>
 gQ v18 true (Zd 29 v2 1) fun v21 =>
 gQ v18 true (Zb H4 27 v21) fun v22 =>
 gQ v18 true (Zp 27 22 24 v20 v22) fun v23 =>
 gQ v14 false (Zf v18 v23) fun v24 =>
 doQ (Zo v14 v24) fun v25 =>
 Q v25 H4
theorem AI(x0 x1:AV)(H:Heap)(Q:AV→Heap→Prop)(h : ∀g,tQ g x0 x1 H Q):GoL env Tryz.f169 0 [.code tI] [(0,x0),(1,x1)] H Q:=⟨fun g=>aJ (live:=A0) (cut:=Bj) (n:=500) (Eq.mp (by kernel_rfl) (h g))⟩
noncomputable def gR:Code:=(Tryz.f173.body).getD .skip
def mB:Nat→Option (List Nat):=fun i=>none
def mE:Nat→Bool:=fun i=>false
def dn(g:Nat→AV)(x0:AV)(H:Heap)(Q:AV→Heap→Prop):Prop :=
 doQ (ZT 36 3 x0) fun v1 =>
 br (some v1) (
 Q (.v (.slice none 0 0)) H) (
 doW (Yc H 5 36 0) fun v2 H1 =>
 doW (Zt H1 7 36 36 v2 x0) fun v3 H2 =>
 Q v3 H2)
theorem mw(x0:AV)(H:Heap)(Q:AV→Heap→Prop)(h : ∀g,dn g x0 H Q):GoL env Tryz.f173 0 [.code gR] [(0,x0)] H Q:=⟨fun g=>aJ (live:=mB) (cut:=mE) (n:=500) (Eq.mp (by kernel_rfl) (h g))⟩
noncomputable def fO:Code:=(Tryz.f176.body).getD .skip
def kT:Nat→Option (List Nat):=fun i=>none
def lA:Nat→Bool:=fun i=>false
def fU(g:Nat→AV)(x0 x1:AV)(H:Heap)(Q:AV→Heap→Prop):Prop :=
 doW (Za true H 7 214 [x0,x1]) fun v1 H1 =>
 doQ (Zq 3 7 0 v1) fun v2 =>
 Q v2 H1
theorem kL(x0 x1:AV)(H:Heap)(Q:AV→Heap→Prop)(h : ∀g,fU g x0 x1 H Q):GoL env Tryz.f176 0 [.code fO] [(0,x0),(1,x1)] H Q:=⟨fun g=>aJ (live:=kT) (cut:=lA) (n:=500) (Eq.mp (by kernel_rfl) (h g))⟩
noncomputable def xG:Code:=(Tryz.f182.body).getD .skip
def DK:Nat→Option (List Nat):=fun i=>none
def D2:Nat→Bool:=fun i=>false
def xL(g:Nat→AV)(x0:AV)(H:Heap)(Q:AV→Heap→Prop):Prop :=
 doW (Zc H 1 33 x0) fun v1 H1 =>
 doQ (Zd 33 v1 0) fun v2 =>
 doQ (Zb H1 31 v2) fun v3 =>
 doW (Za true H1 5 91 [v3]) fun v4 H2 =>
 doQ (Zi 42 5 0 v4) fun v5 =>
 gQ v5 true (Zd 33 v1 1) fun v6 =>
 gQ v5 true (Zb H2 3 v6) fun v7 =>
 gQ v5 true (Zq 3 9 1 v7) fun v8 =>
 doQ (Zf v5 v8) fun v9 =>
 gQ v9 true (Zd 33 v1 1) fun v10 =>
 gQ v9 true (Zb H2 3 v10) fun v11 =>
 gQ v9 true (Zy 3 14 1099511627776 v11) fun v12 =>
 doQ (Zf v9 v12) fun v13 =>
 doW (Za true H2 17 159 [v13]) fun v14 H3 =>
 Q v14 H3
theorem De(x0:AV)(H:Heap)(Q:AV→Heap→Prop)(h : ∀g,xL g x0 H Q):GoL env Tryz.f182 0 [.code xG] [(0,x0)] H Q:=⟨fun g=>aJ (live:=DK) (cut:=D2) (n:=500) (Eq.mp (by kernel_rfl) (h g))⟩
noncomputable def oB:Code:=(Tryz.f185.body).getD .skip
def AY:Nat→Option (List Nat):=fun i=>none
def Bh:Nat→Bool:=fun i=>false
def oI(g:Nat→AV)(H:Heap)(Q:AV→Heap→Prop):Prop :=
 doW (Zg H 0 29) fun v1 H1 =>
 doQ (ZS 29) fun v2 =>
 doW (Zl H1 29 v1 v2) fun v3 H2 =>
 doQ (ZV H2 v1 29) fun v4 =>
 Q v4 H2
theorem te(H:Heap)(Q:AV→Heap→Prop)(h : ∀g,oI g  H Q):GoL env Tryz.f185 0 [.code oB] [] H Q:=⟨fun g=>aJ (live:=AY) (cut:=Bh) (n:=500) (Eq.mp (by kernel_rfl) (h g))⟩
noncomputable def tA:Code:=(Tryz.f187.body).getD .skip
def AP:Nat→Option (List Nat):=fun i=>none
def A9:Nat→Bool:=fun i=>false
def oH(g:Nat→AV)(x0:AV)(H:Heap)(Q:AV→Heap→Prop):Prop :=
 doQ (Zk H 6 36 x0) fun v1 =>
 doQ (Zr 3 6 64 v1) fun v2 =>
 br (some v2) (
 Q (.v (.int .i64 4)) H) (
 doW (Za true H 11 217 [x0,(.fn (.func 215) [] [])]) fun v3 H1 =>
 br (some v3) (
 Q (.v (.int .i64 8)) H1) (
 Q (.v (.int .i64 0)) H1))
theorem Az(x0:AV)(H:Heap)(Q:AV→Heap→Prop)(h : ∀g,oH g x0 H Q):GoL env Tryz.f187 0 [.code tA] [(0,x0)] H Q:=⟨fun g=>aJ (live:=AP) (cut:=A9) (n:=500) (Eq.mp (by kernel_rfl) (h g))⟩
noncomputable def mX:Code:=(Tryz.f207.body).getD .skip
noncomputable def nm:List Item:=(bS 2 400 [.code mX]).getD []
def u7:Nat→Option (List Nat):=fun i=>cond (Nat.beq i 2) (some [5,0,4]) (none)
def vl:Nat→Bool:=fun i=>false
def qD(g:Nat→AV)(x0 x1:AV)(H:Heap)(Q:AV→Heap→Prop):Prop :=
 doQ (Zx 3 6 1 x1) fun v1 =>
  GoL env Tryz.f207 0 nm [(5,v1),(0,x0),(4,(.v (.slice none 0 0)))] H Q
theorem uJ(x0 x1:AV)(H:Heap)(Q:AV→Heap→Prop)(h : ∀g,qD g x0 x1 H Q):GoL env Tryz.f207 0 [.code mX] [(0,x0),(1,x1)] H Q:=⟨fun g=>aJ (live:=u7) (cut:=vl) (n:=500) (Eq.mp (by kernel_rfl) (h g))⟩
def bV(g:Nat→AV)(x5 x0 x4:AV)(H:Heap)(Q:AV→Heap→Prop):Prop :=
 doQ (Zq 3 8 0 x5) fun v1 =>
 br (some v1) (
 doQ (ZZ 3 8 14 x5) fun v2 =>
 doQ (qBin env.P .shr 3 (Operand.tmp 13) (Operand.tmp 15) (some x0) (some v2)) fun v3 =>
 doQ (Zv H 17 3 5 v3) fun v4 =>
 doW (ZD H 18 170 1 0 v4) fun v5 H1 =>
 doW (Zt H1 19 170 170 x4 v5) fun v6 H2 =>
 doQ (Zx 3 10 1 x5) fun v7 =>
  GoL env Tryz.f207 0 nm [(5,v7),(0,x0),(4,v6)] H2 Q) (
 Q x4 H)
theorem cm(x5 x0 x4:AV)(H:Heap)(Q:AV→Heap→Prop)(h : ∀g,bV g x5 x0 x4 H Q):GoL env Tryz.f207 0 nm [(5,x5),(0,x0),(4,x4)] H Q:=dk fun g=>aJ (live:=u7) (cut:=vl) (n:=500) (Eq.mp (by kernel_rfl) (h g))
noncomputable def BN:Code:=(Tryz.f208.body).getD .skip
def Hl:Nat→Option (List Nat):=fun i=>none
def HI:Nat→Bool:=fun i=>false
def xg(g:Nat→AV)(x0:AV)(H:Heap)(Q:AV→Heap→Prop):Prop :=
 doW (Zc H 1 33 x0) fun v1 H1 =>
 doQ (Zb H1 33 v1) fun v2 =>
 doW (Za true H1 8 182 [v2]) fun v3 H2 =>
 doQ (Ze 42 9 0 v3) fun v4 =>
 br (some v4) (
 Q (.tup [(.v (.slice none 0 0)),v3]) H2) (
 doQ (Zd 33 v1 0) fun v5 =>
 doQ (Zb H2 31 v5) fun v6 =>
 doW (Za true H2 15 162 [v6]) fun v7 H3 =>
 doQ (Zw v7 0) fun v8 =>
 doQ (Zw v7 1) fun v9 =>
 doQ (Zd 33 v1 1) fun v10 =>
 doQ (Zb H3 3 v10) fun v11 =>
 doW (Za true H3 21 207 [v11,(.v (.int .i64 7))]) fun v12 H4 =>
 doW (Zt H4 22 170 170 v8 v12) fun v13 H5 =>
 Q (.tup [v13,v9]) H5)
theorem GP(x0:AV)(H:Heap)(Q:AV→Heap→Prop)(h : ∀g,xg g x0 H Q):GoL env Tryz.f208 0 [.code BN] [(0,x0)] H Q:=⟨fun g=>aJ (live:=Hl) (cut:=HI) (n:=500) (Eq.mp (by kernel_rfl) (h g))⟩
noncomputable def rK:Code:=(Tryz.f210.body).getD .skip
noncomputable def mj:List Item:=(bS 6 400 [.code rK]).getD []
def xp:Nat→Option (List Nat):=fun i=>cond (Nat.beq i 6) (some [15,5,13,14]) (none)
def xB:Nat→Bool:=fun i=>false
def sc(g:Nat→AV)(x0:AV)(H:Heap)(Q:AV→Heap→Prop):Prop :=
 doW (Za true H 9 187 [x0]) fun v1 H1 =>
 doQ (Ze 42 10 0 v1) fun v2 =>
 br (some v2) (
 Q (.tup [(.v (.slice none 0 0)),v1]) H1) (
 doQ (Zk H1 14 36 x0) fun v3 =>
  GoL env Tryz.f210 0 mj [(15,(.v (.int .i64 0))),(5,(.v (.slice none 0 0))),(13,x0),(14,v3)] H1 Q)
theorem Da(x0:AV)(H:Heap)(Q:AV→Heap→Prop)(h : ∀g,sc g x0 H Q):GoL env Tryz.f210 0 [.code rK] [(0,x0)] H Q:=⟨fun g=>aJ (live:=xp) (cut:=xB) (n:=500) (Eq.mp (by kernel_rfl) (h g))⟩
def mo(g:Nat→AV)(x15 x5 x13 x14:AV)(H:Heap)(Q:AV→Heap→Prop):Prop :=
 doQ (Zp 3 15 14 x15 x14) fun v1 =>
 br (some v1) (
 doQ (Zu H 36 x13 x15) fun v2 =>
 doQ (Zb H 21 v2) fun v3 =>
 doQ (qBin env.P .shr 21 (Operand.tmp 20) (.const (.int .u64 24)) (some v3) (some (.v (.int .u64 24)))) fun v4 =>
 doQ (Zv H 22 21 5 v4) fun v5 =>
 doQ (Yd 21 23 v3) fun v6 =>
 doQ (Zv H 25 21 5 v6) fun v7 =>
 doQ (ZX 21 26 v3) fun v8 =>
 doQ (Zv H 28 21 5 v8) fun v9 =>
 doQ (Zv H 30 21 5 v3) fun v10 =>
 doW (gm env.P false true H (Ref.mk 0 31 (Heap.gen H 0 31) 0) 170 4 (some [(0,v5),(1,v7),(2,v9),(3,v10)])) fun v11 H1 =>
 doW (Zt H1 32 170 170 x5 v11) fun v12 H2 =>
 doQ (Zh 3 15 1 x15) fun v13 =>
  GoL env Tryz.f210 0 mj [(15,v13),(5,v12),(13,x13),(14,x14)] H2 Q) (
 Q (.tup [x5,(.v (.int .i64 0))]) H)
theorem td(x15 x5 x13 x14:AV)(H:Heap)(Q:AV→Heap→Prop)(h : ∀g,mo g x15 x5 x13 x14 H Q):GoL env Tryz.f210 0 mj [(15,x15),(5,x5),(13,x13),(14,x14)] H Q:=dk fun g=>aJ (live:=xp) (cut:=xB) (n:=500) (Eq.mp (by kernel_rfl) (h g))
noncomputable def eu:Code:=(Tryz.f214.body).getD .skip
noncomputable def cS:List Item:=(bS 2 400 [.code eu]).getD []
def gK:Nat→Option (List Nat):=fun i=>cond (Nat.beq i 2) (some [8,0,1,7]) (none)
def gN:Nat→Bool:=fun i=>false
def gS(g:Nat→AV)(x0 x1:AV)(H:Heap)(Q:AV→Heap→Prop):Prop :=
 doQ (Zk H 7 36 x0) fun v1 =>
  GoL env Tryz.f214 0 cS [(8,(.v (.int .i64 0))),(0,x0),(1,x1),(7,v1)] H Q
theorem mu(x0 x1:AV)(H:Heap)(Q:AV→Heap→Prop)(h : ∀g,gS g x0 x1 H Q):GoL env Tryz.f214 0 [.code eu] [(0,x0),(1,x1)] H Q:=⟨fun g=>aJ (live:=gK) (cut:=gN) (n:=500) (Eq.mp (by kernel_rfl) (h g))⟩
def cU(g:Nat→AV)(x8 x0 x1 x7:AV)(H:Heap)(Q:AV→Heap→Prop):Prop :=
 doQ (Zp 3 8 7 x8 x7) fun v1 =>
 br (some v1) (
 doQ (Zu H 36 x0 x8) fun v2 =>
 doQ (Zb H 21 v2) fun v3 =>
 doQ (Zm 21 11 15 x1 v3) fun v4 =>
 br (some v4) (
 Q x8 H) (
 doQ (Zh 3 8 1 x8) fun v5 =>
  GoL env Tryz.f214 0 cS [(8,v5),(0,x0),(1,x1),(7,x7)] H Q)) (
 Q (.v (.int .i64 (-1))) H)
theorem gb(x8 x0 x1 x7:AV)(H:Heap)(Q:AV→Heap→Prop)(h : ∀g,cU g x8 x0 x1 x7 H Q):GoL env Tryz.f214 0 cS [(8,x8),(0,x0),(1,x1),(7,x7)] H Q:=dk fun g=>aJ (live:=gK) (cut:=gN) (n:=500) (Eq.mp (by kernel_rfl) (h g))
noncomputable def qO:Code:=(Tryz.f215.body).getD .skip
def xX:Nat→Option (List Nat):=fun i=>none
def yg:Nat→Bool:=fun i=>false
def mO(g:Nat→AV)(x0:AV)(H:Heap)(Q:AV→Heap→Prop):Prop :=
 doQ (qBin env.P .neq 21 (Operand.tmp 3) (.const (.int .i32 (-1))) (some x0) (some (.v (.int .i32 (-1))))) fun v1 =>
 gQ v1 true (ZI x0) fun v2 =>
 gW v1 true H (Za true H 7 216 [v2]) fun v3 H1 =>
 gQ v1 true (Zz v3) fun v4 =>
 doQ (Zf v1 v4) fun v5 =>
 Q v5 H1
theorem xO(x0:AV)(H:Heap)(Q:AV→Heap→Prop)(h : ∀g,mO g x0 H Q):GoL env Tryz.f215 0 [.code qO] [(0,x0)] H Q:=⟨fun g=>aJ (live:=xX) (cut:=yg) (n:=500) (Eq.mp (by kernel_rfl) (h g))⟩
noncomputable def jO:Code:=(Tryz.f216.body).getD .skip
def ot:Nat→Option (List Nat):=fun i=>none
def oz:Nat→Bool:=fun i=>false
def jP(g:Nat→AV)(x0:AV)(H:Heap)(Q:AV→Heap→Prop):Prop :=
 doQ (qBin env.P .leq 21 (.const (.int .i32 0)) (Operand.tmp 4) (some (.v (.int .i32 0))) (some x0)) fun v1 =>
 gQ v1 true (ZI x0) fun v2 =>
 gQ v1 true (qBin env.P .lss 21 (Operand.tmp 7) (.const (.int .i32 55296)) (some v2) (some (.v (.int .i32 55296)))) fun v3 =>
 doQ (Zf v1 v3) fun v4 =>
 br (some v4) (
 Q (.v (.bool true)) H) (
 doQ (qBin env.P .lss 21 (.const (.int .i32 57343)) (Operand.tmp 11) (some (.v (.int .i32 57343))) (some x0)) fun v5 =>
 gQ v5 true (ZI x0) fun v6 =>
 gQ v5 true (qBin env.P .leq 21 (Operand.tmp 14) (.const (.int .i32 1114111)) (some v6) (some (.v (.int .i32 1114111)))) fun v7 =>
 doQ (Zf v5 v7) fun v8 =>
 br (some v8) (
 Q (.v (.bool true)) H) (
 Q (.v (.bool false)) H))
theorem oe(x0:AV)(H:Heap)(Q:AV→Heap→Prop)(h : ∀g,jP g x0 H Q):GoL env Tryz.f216 0 [.code jO] [(0,x0)] H Q:=⟨fun g=>aJ (live:=ot) (cut:=oz) (n:=500) (Eq.mp (by kernel_rfl) (h g))⟩
noncomputable def fe:Code:=(Tryz.f217.body).getD .skip
def jH:Nat→Option (List Nat):=fun i=>none
def jM:Nat→Bool:=fun i=>false
def fg(g:Nat→AV)(x0 x1:AV)(H:Heap)(Q:AV→Heap→Prop):Prop :=
 doW (Za true H 7 229 [x0,x1]) fun v1 H1 =>
 doQ (Zq 3 7 0 v1) fun v2 =>
 Q v2 H1
theorem jB(x0 x1:AV)(H:Heap)(Q:AV→Heap→Prop)(h : ∀g,fg g x0 x1 H Q):GoL env Tryz.f217 0 [.code fe] [(0,x0),(1,x1)] H Q:=⟨fun g=>aJ (live:=jH) (cut:=jM) (n:=500) (Eq.mp (by kernel_rfl) (h g))⟩
noncomputable def ew:Code:=(Tryz.f226.body).getD .skip
noncomputable def cT:List Item:=(bS 4 400 [.code ew]).getD []
def gM:Nat→Option (List Nat):=fun i=>cond (Nat.beq i 4) (some [13,1,0,12]) (none)
def gO:Nat→Bool:=fun i=>false
def eD(g:Nat→AV)(x0 x1:AV)(H:Heap)(Q:AV→Heap→Prop):Prop :=
 doQ (Zk H 7 36 x0) fun v1 =>
 doQ (Zk H 9 36 x1) fun v2 =>
 doQ (ZB 3 7 9 v1 v2) fun v3 =>
 br (some v3) (
 Q (.v (.bool false)) H) (
 doQ (Zk H 12 36 x0) fun v4 =>
  GoL env Tryz.f226 0 cT [(13,(.v (.int .i64 0))),(1,x1),(0,x0),(12,v4)] H Q)
theorem mv(x0 x1:AV)(H:Heap)(Q:AV→Heap→Prop)(h : ∀g,eD g x0 x1 H Q):GoL env Tryz.f226 0 [.code ew] [(0,x0),(1,x1)] H Q:=⟨fun g=>aJ (live:=gM) (cut:=gO) (n:=500) (Eq.mp (by kernel_rfl) (h g))⟩
def cV(g:Nat→AV)(x13 x1 x0 x12:AV)(H:Heap)(Q:AV→Heap→Prop):Prop :=
 doQ (Zp 3 13 12 x13 x12) fun v1 =>
 br (some v1) (
 doQ (Zu H 36 x0 x13) fun v2 =>
 doQ (Zb H 21 v2) fun v3 =>
 doQ (Zu H 36 x1 x13) fun v4 =>
 doQ (Zb H 21 v4) fun v5 =>
 doQ (ZB 21 19 23 v3 v5) fun v6 =>
 br (some v6) (
 Q (.v (.bool false)) H) (
 doQ (Zh 3 13 1 x13) fun v7 =>
  GoL env Tryz.f226 0 cT [(13,v7),(1,x1),(0,x0),(12,x12)] H Q)) (
 Q (.v (.bool true)) H)
theorem gf(x13 x1 x0 x12:AV)(H:Heap)(Q:AV→Heap→Prop)(h : ∀g,cV g x13 x1 x0 x12 H Q):GoL env Tryz.f226 0 cT [(13,x13),(1,x1),(0,x0),(12,x12)] H Q:=dk fun g=>aJ (live:=gM) (cut:=gO) (n:=500) (Eq.mp (by kernel_rfl) (h g))
noncomputable def D8:Code:=(Tryz.f228.body).getD .skip
def JB:Nat→Option (List Nat):=fun i=>none
def Ki:Nat→Bool:=fun i=>false
def sv(g:Nat→AV)(x0 x1:AV)(H:Heap)(Q:AV→Heap→Prop):Prop :=
 doW (Zc H 2 35 x0) fun v1 H1 =>
 doW (Zg H1 4 33) fun v2 H2 =>
 doQ (Zb H2 35 v1) fun v3 =>
 doW (Za true H2 8 135 [v3]) fun v4 H3 =>
 doQ (Ze 42 9 0 v4) fun v5 =>
 br (some v5) (
 doQ (ZS 33) fun v6 =>
 doW (Zl H3 33 v2 v6) fun v7 H4 =>
 doQ (ZV H4 v2 33) fun v8 =>
 Q (.tup [v8,v4]) H4) (
 doQ (Zs 3 13 0 x1) fun v6 =>
 gQ v6 false (ZI x1) fun v7 =>
 gQ v6 false (Zd 35 v1 1) fun v8 =>
 gQ v6 false (Zb H3 3 v8) fun v9 =>
 gQ v6 false (ZO 3 16 18 v7 v9) fun v10 =>
 doQ (Zo v6 v10) fun v11 =>
 br (some v11) (
 doQ (ZS 33) fun v12 =>
 doW (Zl H3 33 v2 v12) fun v13 H4 =>
 doQ (ZV H4 v2 33) fun v14 =>
 Q (.tup [v14,(.v (.int .i64 2))]) H4) (
 doQ (Zd 35 v1 0) fun v12 =>
 doQ (Zb H3 33 v12) fun v13 =>
 doW (Za true H3 25 239 [v13,x1]) fun v14 H4 =>
 doW (Zl H4 33 v2 v14) fun v15 H5 =>
 doQ (ZV H5 v2 33) fun v16 =>
 Q (.tup [v16,(.v (.int .i64 0))]) H5))
theorem Ic(x0 x1:AV)(H:Heap)(Q:AV→Heap→Prop)(h : ∀g,sv g x0 x1 H Q):GoL env Tryz.f228 0 [.code D8] [(0,x0),(1,x1)] H Q:=⟨fun g=>aJ (live:=JB) (cut:=Ki) (n:=500) (Eq.mp (by kernel_rfl) (h g))⟩
noncomputable def dG:Code:=(Tryz.f229.body).getD .skip
noncomputable def cF:List Item:=(bS 2 400 [.code dG]).getD []
def fK:Nat→Option (List Nat):=fun i=>cond (Nat.beq i 2) (some [8,0,1,7]) (none)
def fN:Nat→Bool:=fun i=>false
def fT(g:Nat→AV)(x0 x1:AV)(H:Heap)(Q:AV→Heap→Prop):Prop :=
 doQ (Zk H 7 36 x0) fun v1 =>
  GoL env Tryz.f229 0 cF [(8,(.v (.int .i64 0))),(0,x0),(1,x1),(7,v1)] H Q
theorem kK(x0 x1:AV)(H:Heap)(Q:AV→Heap→Prop)(h : ∀g,fT g x0 x1 H Q):GoL env Tryz.f229 0 [.code dG] [(0,x0),(1,x1)] H Q:=⟨fun g=>aJ (live:=fK) (cut:=fN) (n:=500) (Eq.mp (by kernel_rfl) (h g))⟩
def cG(g:Nat→AV)(x8 x0 x1 x7:AV)(H:Heap)(Q:AV→Heap→Prop):Prop :=
 doQ (Zp 3 8 7 x8 x7) fun v1 =>
 br (some v1) (
 doQ (Zu H 36 x0 x8) fun v2 =>
 doQ (Zb H 21 v2) fun v3 =>
 doW (ZG H 16 x1 v3) fun v4 H1 =>
 br (some v4) (
 Q x8 H1) (
 doQ (Zh 3 8 1 x8) fun v5 =>
  GoL env Tryz.f229 0 cF [(8,v5),(0,x0),(1,x1),(7,x7)] H1 Q)) (
 Q (.v (.int .i64 (-1))) H)
theorem fk(x8 x0 x1 x7:AV)(H:Heap)(Q:AV→Heap→Prop)(h : ∀g,cG g x8 x0 x1 x7 H Q):GoL env Tryz.f229 0 cF [(8,x8),(0,x0),(1,x1),(7,x7)] H Q:=dk fun g=>aJ (live:=fK) (cut:=fN) (n:=500) (Eq.mp (by kernel_rfl) (h g))
noncomputable def nx:Code:=(Tryz.f231.body).getD .skip
def Jz:Nat→Option (List Nat):=fun i=>none
def Kg:Nat→Bool:=fun i=>false
def lK(g:Nat→AV)(x0:AV)(H:Heap)(Q:AV→Heap→Prop):Prop :=
 doW (Zc H 1 38 x0) fun v1 H1 =>
 doW (Zg H1 2 249) fun v2 H2 =>
 doQ (Zb H2 38 v1) fun v3 =>
 doW (Za true H2 7 70 [v3]) fun v4 H3 =>
 doQ (Ze 42 8 0 v4) fun v5 =>
 br (some v5) (
 doQ (ZS 249) fun v6 =>
 doW (Zl H3 249 v2 v6) fun v7 H4 =>
 doQ (ZV H4 v2 249) fun v8 =>
 Q (.tup [v8,v4]) H4) (
 doQ (Zd 38 v1 3) fun v6 =>
 doQ (Zb H3 35 v6) fun v7 =>
 doQ (Zd 38 v1 4) fun v8 =>
 doQ (Zb H3 33 v8) fun v9 =>
 doQ (Zd 38 v1 6) fun v10 =>
 doQ (Zb H3 36 v10) fun v11 =>
 doW (Za false H3 18 173 [v11]) fun v12 H4 =>
 doQ (bI env.P 249 (some [(0,v7),(1,v9),(2,v12)])) fun v13 =>
 doW (Zg H4 5 249) fun v14 H5 =>
 doW (Zl H5 249 v14 v13) fun v15 H6 =>
 doQ (Zd 38 v1 0) fun v16 =>
 doQ (Zb H6 5 v16) fun v17 =>
 doQ (qBin env.P .neq 5 (Operand.tmp 21) (.const (.int .u8 1)) (some v17) (some (a8 1))) fun v18 =>
 gQ v18 false (Zb H6 249 v14) fun v19 =>
 gW v18 false H6 (Za true H6 25 240 [v19]) fun v20 H7 =>
 gQ v18 false (Ze 42 25 0 v20) fun v21 =>
 doQ (Zo v18 v21) fun v22 =>
 br (some v22) (
 doQ (ZS 249) fun v23 =>
 doW (Zl H7 249 v2 v23) fun v24 H8 =>
 doQ (ZV H8 v2 249) fun v25 =>
 Q (.tup [v25,(.v (.int .i64 2))]) H8) (
 doQ (Zb H7 249 v14) fun v23 =>
 doW (Zl H7 249 v2 v23) fun v24 H8 =>
 doQ (ZV H8 v2 249) fun v25 =>
 Q (.tup [v25,(.v (.int .i64 0))]) H8))
theorem oO(x0:AV)(H:Heap)(Q:AV→Heap→Prop)(h : ∀g,lK g x0 H Q):GoL env Tryz.f231 0 [.code nx] [(0,x0)] H Q:=⟨fun g=>aJ (live:=Jz) (cut:=Kg) (n:=500) (Eq.mp (by kernel_rfl) (h g))⟩
noncomputable def Aq:Code:=(Tryz.f239.body).getD .skip
def EX:Nat→Option (List Nat):=fun i=>none
def Fq:Nat→Bool:=fun i=>false
def Aw(g:Nat→AV)(x0 x1:AV)(H:Heap)(Q:AV→Heap→Prop):Prop :=
 doW (Zc H 2 33 x0) fun v1 H1 =>
 doW (Zg H1 4 33) fun v2 H2 =>
 doQ (Zd 33 v1 1) fun v3 =>
 doQ (Zb H2 3 v3) fun v4 =>
 doQ (ZF 3 6 7 v4 x1) fun v5 =>
 doQ (Zd 33 v1 1) fun v6 =>
 doW (Zl H2 3 v6 v5) fun v7 H3 =>
 doQ (Zb H3 33 v1) fun v8 =>
 doW (Zl H3 33 v2 v8) fun v9 H4 =>
 doQ (ZV H4 v2 33) fun v10 =>
 Q v10 H4
theorem El(x0 x1:AV)(H:Heap)(Q:AV→Heap→Prop)(h : ∀g,Aw g x0 x1 H Q):GoL env Tryz.f239 0 [.code Aq] [(0,x0),(1,x1)] H Q:=⟨fun g=>aJ (live:=EX) (cut:=Fq) (n:=500) (Eq.mp (by kernel_rfl) (h g))⟩
noncomputable def xE:Code:=(Tryz.f240.body).getD .skip
def DH:Nat→Option (List Nat):=fun i=>none
def DZ:Nat→Bool:=fun i=>false
def sd(g:Nat→AV)(x0:AV)(H:Heap)(Q:AV→Heap→Prop):Prop :=
 doW (Zc H 1 249 x0) fun v1 H1 =>
 doQ (Zd 249 v1 1) fun v2 =>
 doQ (Zb H1 33 v2) fun v3 =>
 doQ (ZS 33) fun v4 =>
 doQ (Zm 33 5 6 v3 v4) fun v5 =>
 gQ v5 false (Zd 249 v1 1) fun v6 =>
 gQ v5 false (Zb H1 33 v6) fun v7 =>
 gW v5 false H1 (Za true H1 11 182 [v7]) fun v8 H2 =>
 gQ v5 false (Zi 42 11 0 v8) fun v9 =>
 gQ v5 false (ZI v9) fun v10 =>
 gQ v10 true (Zd 249 v1 1) fun v11 =>
 gQ v10 true (Zd 33 v11 1) fun v12 =>
 gQ v10 true (Zb H2 3 v12) fun v13 =>
 gQ v10 true (Zd 249 v1 0) fun v14 =>
 gQ v10 true (Zd 35 v14 0) fun v15 =>
 gQ v10 true (Zd 33 v15 1) fun v16 =>
 gQ v10 true (Zb H2 3 v16) fun v17 =>
 gQ v10 true (Zp 3 16 20 v13 v17) fun v18 =>
 gQ v5 false (Zf v10 v18) fun v19 =>
 doQ (Zo v5 v19) fun v20 =>
 doQ (Zd 249 v1 0) fun v21 =>
 doQ (Zb H2 35 v21) fun v22 =>
 doW (Za true H2 26 135 [v22]) fun v23 H3 =>
 doQ (Ze 42 26 0 v23) fun v24 =>
 gQ v24 false (ZI v20) fun v25 =>
 gQ v24 false (Zz v25) fun v26 =>
 doQ (Zo v24 v26) fun v27 =>
 gQ v27 false (Zd 249 v1 2) fun v28 =>
 gQ v27 false (Zb H3 36 v28) fun v29 =>
 gQ v27 false (Zk H3 35 36 v29) fun v30 =>
 gQ v27 false (Zd 249 v1 0) fun v31 =>
 gQ v27 false (Zd 35 v31 1) fun v32 =>
 gQ v27 false (Zb H3 3 v32) fun v33 =>
 gQ v27 false (ZB 3 35 38 v30 v33) fun v34 =>
 doQ (Zo v27 v34) fun v35 =>
 gQ v35 false (Zd 249 v1 2) fun v36 =>
 gQ v35 false (Zb H3 36 v36) fun v37 =>
 gW v35 false H3 (Za true H3 44 187 [v37]) fun v38 H4 =>
 gQ v35 false (Ze 42 44 0 v38) fun v39 =>
 doQ (Zo v35 v39) fun v40 =>
 br (some v40) (
 Q (.v (.int .i64 8)) H4) (
 Q (.v (.int .i64 0)) H4)
theorem Db(x0:AV)(H:Heap)(Q:AV→Heap→Prop)(h : ∀g,sd g x0 H Q):GoL env Tryz.f240 0 [.code xE] [(0,x0)] H Q:=⟨fun g=>aJ (live:=DH) (cut:=DZ) (n:=500) (Eq.mp (by kernel_rfl) (h g))⟩
noncomputable def BO:Code:=(Tryz.f251.body).getD .skip
def Hm:Nat→Option (List Nat):=fun i=>none
def HJ:Nat→Bool:=fun i=>false
def m4(g:Nat→AV)(x0 x1:AV)(H:Heap)(Q:AV→Heap→Prop):Prop :=
 doW (Zc H 2 35 x0) fun v1 H1 =>
 doW (Zc H1 3 33 x1) fun v2 H2 =>
 doQ (Zd 33 v2 1) fun v3 =>
 doQ (Zb H2 3 v3) fun v4 =>
 doQ (Zd 35 v1 0) fun v5 =>
 doQ (Zd 33 v5 1) fun v6 =>
 doQ (Zb H2 3 v6) fun v7 =>
 doQ (ZU 3 8 11 v4 v7) fun v8 =>
 doQ (Zb H2 35 v1) fun v9 =>
 doW (Za false H2 14 135 [v9]) fun v10 H3 =>
 doQ (Ze 42 14 0 v10) fun v11 =>
 gQ v11 false (ZI v8) fun v12 =>
 gQ v11 false (Zs 3 17 0 v12) fun v13 =>
 doQ (Zo v11 v13) fun v14 =>
 gQ v14 false (ZI v8) fun v15 =>
 gQ v14 false (Zd 35 v1 1) fun v16 =>
 gQ v14 false (Zb H3 3 v16) fun v17 =>
 gQ v14 false (ZO 3 21 23 v15 v17) fun v18 =>
 doQ (Zo v14 v18) fun v19 =>
 gQ v19 false (Zb H3 33 v2) fun v20 =>
 gQ v19 false (Zd 35 v1 0) fun v21 =>
 gQ v19 false (Zb H3 33 v21) fun v22 =>
 gQ v19 false (ZI v8) fun v23 =>
 gW v19 false H3 (Za false H3 31 239 [v22,v23]) fun v24 H4 =>
 gQ v19 false (ZB 33 27 31 v20 v24) fun v25 =>
 doQ (Zo v19 v25) fun v26 =>
 br (some v26) (
 Q (.tup [(.v (.int .i64 0)),(.v (.bool false))]) H4) (
 Q (.tup [v8,(.v (.bool true))]) H4)
theorem GQ(x0 x1:AV)(H:Heap)(Q:AV→Heap→Prop)(h : ∀g,m4 g x0 x1 H Q):GoL env Tryz.f251 0 [.code BO] [(0,x0),(1,x1)] H Q:=⟨fun g=>aJ (live:=Hm) (cut:=HJ) (n:=500) (Eq.mp (by kernel_rfl) (h g))⟩
end Go.Proofs.YtmkmimgokagimaaGreat
