/-
  What is to be shown of each function, computed from its code. No statement of a seat is proved here.
-/
import Derived.Test.YtmkmimgokagimaaGreatLeTy
set_option linter.unusedVariables false
set_option maxRecDepth 1000000
namespace Go.Proofs.YtmkmimgokagimaaGreat
open Go.Ab
noncomputable def rL:Code:=(Tryz.f47.body).getD .skip
def Dc:Nat→Option (List Nat):=fun i=>none
def Dz:Nat→Bool:=fun i=>false
def rZ(g:Nat→AV)(x0 x1:AV)(H:Heap)(Q:AV→Heap→Prop):Prop :=
 doW (Zc H 2 29 x0) fun v1 H1 =>
 doW (Zc H1 3 29 x1) fun v2 H2 =>
 doQ (Zd 29 v1 0) fun v3 =>
 doQ (Zb H2 5 v3) fun v4 =>
 doQ (Zd 29 v2 0) fun v5 =>
 doQ (Zb H2 5 v5) fun v6 =>
 doQ (qBin env.P .leq 5 (Operand.tmp 6) (Operand.tmp 8) (some v4) (some v6)) fun v7 =>
 gQ v7 true (Zd 29 v1 1) fun v8 =>
 gQ v7 true (Zb H2 27 v8) fun v9 =>
 gQ v7 true (Zd 29 v2 1) fun v10 =>
 gQ v7 true (Zb H2 27 v10) fun v11 =>
 gQ v7 true (qBin env.P .andNot 27 (Operand.tmp 12) (Operand.tmp 14) (some v9) (some v11)) fun v12 =>
 gQ v7 true (qBin env.P .eql 27 (Operand.tmp 15) (.const (.int .u32 0)) (some v12) (some (a32 0))) fun v13 =>
 doQ (Zg v7 v13) fun v14 =>
 Q v14 H2
theorem wG(x0 x1:AV)(H:Heap)(Q:AV→Heap→Prop)(h : ∀g,rZ g x0 x1 H Q):GoL env Tryz.f47 0 [.code rL] [(0,x0),(1,x1)] H Q:=⟨fun g=>aH (live:=Dc) (cut:=Dz) (n:=500) (Eq.mp (by kernel_rfl) (h g))⟩
noncomputable def oY:Code:=(Tryz.f76.body).getD .skip
def Ao:Nat→Option (List Nat):=fun i=>none
def AJ:Nat→Bool:=fun i=>false
def o7(g:Nat→AV)(x0:AV)(H:Heap)(Q:AV→Heap→Prop):Prop :=
 doW (Zc H 1 29 x0) fun v1 H1 =>
 doQ (Zd 29 v1 0) fun v2 =>
 doQ (Zb H1 5 v2) fun v3 =>
 doQ (qBin env.P .gtr 5 (Operand.tmp 4) (.const (.int .u8 15)) (some v3) (some (a8 15))) fun v4 =>
 br (some v4) (
 Q (.v (.int .i64 8)) H1) (
 Q (.v (.int .i64 0)) H1)
theorem sN(x0:AV)(H:Heap)(Q:AV→Heap→Prop)(h : ∀g,o7 g x0 H Q):GoL env Tryz.f76 0 [.code oY] [(0,x0)] H Q:=⟨fun g=>aH (live:=Ao) (cut:=AJ) (n:=500) (Eq.mp (by kernel_rfl) (h g))⟩
noncomputable def oI:Code:=(Tryz.f91.body).getD .skip
def uM:Nat→Option (List Nat):=fun i=>none
def uV:Nat→Bool:=fun i=>false
def oL(g:Nat→AV)(x0:AV)(H:Heap)(Q:AV→Heap→Prop):Prop :=
 doW (Zc H 1 31 x0) fun v1 H1 =>
 doQ (Zd 31 v1 0) fun v2 =>
 doQ (Zb H1 29 v2) fun v3 =>
 doW (Za true H1 5 76 [v3]) fun v4 H2 =>
 doQ (Zk 42 5 0 v4) fun v5 =>
 gQ v5 true (Zd 31 v1 1) fun v6 =>
 gQ v5 true (Zb H2 5 v6) fun v7 =>
 gQ v5 true (qBin env.P .lss 5 (Operand.tmp 9) (.const (.int .u8 8)) (some v7) (some (a8 8))) fun v8 =>
 doQ (Zg v5 v8) fun v9 =>
 doW (Za true H2 12 159 [v9]) fun v10 H3 =>
 Q v10 H3
theorem ui(x0:AV)(H:Heap)(Q:AV→Heap→Prop)(h : ∀g,oL g x0 H Q):GoL env Tryz.f91 0 [.code oI] [(0,x0)] H Q:=⟨fun g=>aH (live:=uM) (cut:=uV) (n:=500) (Eq.mp (by kernel_rfl) (h g))⟩
noncomputable def iv:Code:=(Tryz.f133.body).getD .skip
noncomputable def eJ:List Item:=(bL 4 400 [.code iv]).getD []
def lD:Nat→Option (List Nat):=fun i=>cond (Nat.beq i 4) (some [5,1,0]) (none)
def lW:Nat→Bool:=fun i=>false
def iw(g:Nat→AV)(x0 x1:AV)(H:Heap)(Q:AV→Heap→Prop):Prop :=
 doQ (Zh H 7 36 x0) fun v1 =>
 doQ (Zh H 9 36 x1) fun v2 =>
 doQ (Zv 3 7 9 v1 v2) fun v3 =>
 br (some v3) (
 Q (.v (.bool false)) H) (
  GoL env Tryz.f133 0 eJ [(5,(.v (.int .i64 0))),(1,x1),(0,x0)] H Q)
theorem p9(x0 x1:AV)(H:Heap)(Q:AV→Heap→Prop)(h : ∀g,iw g x0 x1 H Q):GoL env Tryz.f133 0 [.code iv] [(0,x0),(1,x1)] H Q:=⟨fun g=>aH (live:=lD) (cut:=lW) (n:=500) (Eq.mp (by kernel_rfl) (h g))⟩
def eL(g:Nat→AV)(x5 x1 x0:AV)(H:Heap)(Q:AV→Heap→Prop):Prop :=
 doQ (Zh H 13 36 x0) fun v1 =>
 doQ (Zp 3 11 13 x5 v1) fun v2 =>
 br (some v2) (
 doQ (Zu H 36 x0 x5) fun v3 =>
 doQ (Zb H 21 v3) fun v4 =>
 doQ (Zu H 36 x1 x5) fun v5 =>
 doQ (Zb H 21 v5) fun v6 =>
 doQ (Zv 21 20 24 v4 v6) fun v7 =>
 br (some v7) (
 Q (.v (.bool false)) H) (
 doQ (Zf 3 15 1 x5) fun v8 =>
  GoL env Tryz.f133 0 eJ [(5,v8),(1,x1),(0,x0)] H Q)) (
 Q (.v (.bool true)) H)
theorem jV(x5 x1 x0:AV)(H:Heap)(Q:AV→Heap→Prop)(h : ∀g,eL g x5 x1 x0 H Q):GoL env Tryz.f133 0 eJ [(5,x5),(1,x1),(0,x0)] H Q:=cU fun g=>aH (live:=lD) (cut:=lW) (n:=500) (Eq.mp (by kernel_rfl) (h g))
noncomputable def qQ:Code:=(Tryz.f135.body).getD .skip
def xB:Nat→Option (List Nat):=fun i=>none
def xI:Nat→Bool:=fun i=>false
def iA(g:Nat→AV)(x0:AV)(H:Heap)(Q:AV→Heap→Prop):Prop :=
 doW (Zc H 1 35 x0) fun v1 H1 =>
 doQ (Zd 35 v1 0) fun v2 =>
 doQ (Zb H1 33 v2) fun v3 =>
 doW (Za true H1 5 182 [v3]) fun v4 H2 =>
 doQ (Zk 42 5 0 v4) fun v5 =>
 gQ v5 true (Zd 35 v1 1) fun v6 =>
 gQ v5 true (Zb H2 3 v6) fun v7 =>
 gQ v5 true (Zq 3 9 1 v7) fun v8 =>
 doQ (Zg v5 v8) fun v9 =>
 gQ v9 true (Zd 35 v1 1) fun v10 =>
 gQ v9 true (Zb H2 3 v10) fun v11 =>
 gQ v9 true (ZA 3 14 64 v11) fun v12 =>
 doQ (Zg v9 v12) fun v13 =>
 gQ v13 true (Zd 35 v1 0) fun v14 =>
 gQ v13 true (Zd 33 v14 1) fun v15 =>
 gQ v13 true (Zb H2 3 v15) fun v16 =>
 gQ v13 true (Zd 35 v1 1) fun v17 =>
 gQ v13 true (Zb H2 3 v17) fun v18 =>
 gQ v13 true (ZG 3 20 22 v16 v18) fun v19 =>
 gQ v13 true (Zy 3 23 1 v19) fun v20 =>
 gQ v13 true (ZA 3 24 1099511627776 v20) fun v21 =>
 doQ (Zg v13 v21) fun v22 =>
 doW (Za true H2 27 159 [v22]) fun v23 H3 =>
 Q v23 H3
theorem xt(x0:AV)(H:Heap)(Q:AV→Heap→Prop)(h : ∀g,iA g x0 H Q):GoL env Tryz.f135 0 [.code qQ] [(0,x0)] H Q:=⟨fun g=>aH (live:=xB) (cut:=xI) (n:=500) (Eq.mp (by kernel_rfl) (h g))⟩
noncomputable def wY:Code:=(Tryz.f159.body).getD .skip
def Dd:Nat→Option (List Nat):=fun i=>none
def DA:Nat→Bool:=fun i=>false
def xc(g:Nat→AV)(x0:AV)(H:Heap)(Q:AV→Heap→Prop):Prop :=
 br (some x0) (
 Q (.v (.int .i64 0)) H) (
 Q (.v (.int .i64 8)) H)
theorem CC(x0:AV)(H:Heap)(Q:AV→Heap→Prop)(h : ∀g,xc g x0 H Q):GoL env Tryz.f159 0 [.code wY] [(0,x0)] H Q:=⟨fun g=>aH (live:=Dd) (cut:=DA) (n:=500) (Eq.mp (by kernel_rfl) (h g))⟩
noncomputable def qP:Code:=(Tryz.f162.body).getD .skip
def xA:Nat→Option (List Nat):=fun i=>none
def xH:Nat→Bool:=fun i=>false
def nd(g:Nat→AV)(x0:AV)(H:Heap)(Q:AV→Heap→Prop):Prop :=
 doW (Zc H 1 31 x0) fun v1 H1 =>
 doQ (Zb H1 31 v1) fun v2 =>
 doW (Za true H1 6 91 [v2]) fun v3 H2 =>
 doQ (Ze 42 7 0 v3) fun v4 =>
 br (some v4) (
 Q (.tup [(.v (.slice none 0 0)),v3]) H2) (
 doQ (Zd 31 v1 0) fun v5 =>
 doQ (Zd 29 v5 0) fun v6 =>
 doQ (Zb H2 5 v6) fun v7 =>
 doW (iI env.P true false H2 (Ref.mk 0 13 (Heap.gen H2 0 13) 0) 170 1 (some [(0,v7)])) fun v8 H3 =>
 doQ (Zd 31 v1 0) fun v9 =>
 doQ (Zd 29 v9 1) fun v10 =>
 doQ (Zb H3 27 v10) fun v11 =>
 doQ (Zw H3 17 27 3 v11) fun v12 =>
 doW (Za false H3 18 207 [v12,(.v (.int .i64 4))]) fun v13 H4 =>
 doW (dq env.P false H4 (Ref.mk 0 19 (Heap.gen H4 0 19) 0) (some 170) (some 170) v8 v13) fun v14 H5 =>
 doQ (Zd 31 v1 1) fun v15 =>
 doQ (Zb H5 5 v15) fun v16 =>
 doW (iI env.P true false H5 (Ref.mk 0 22 (Heap.gen H5 0 22) 0) 170 1 (some [(0,v16)])) fun v17 H6 =>
 doW (Zt H6 23 170 170 v14 v17) fun v18 H7 =>
 Q (.tup [v18,(.v (.int .i64 0))]) H7)
theorem xp(x0:AV)(H:Heap)(Q:AV→Heap→Prop)(h : ∀g,nd g x0 H Q):GoL env Tryz.f162 0 [.code qP] [(0,x0)] H Q:=⟨fun g=>aH (live:=xA) (cut:=xH) (n:=500) (Eq.mp (by kernel_rfl) (h g))⟩
noncomputable def tf:Code:=(Tryz.f169.body).getD .skip
def Ap:Nat→Option (List Nat):=fun i=>none
def AK:Nat→Bool:=fun i=>false
def tw(g:Nat→AV)(x0 x1:AV)(H:Heap)(Q:AV→Heap→Prop):Prop :=
 doW (Zc H 2 29 x0) fun v1 H1 =>
 doW (Zc H1 3 29 x1) fun v2 H2 =>
 doQ (Zd 29 v2 0) fun v3 =>
 doQ (Zb H2 5 v3) fun v4 =>
 doQ (Zd 29 v1 1) fun v5 =>
 doQ (Zb H2 27 v5) fun v6 =>
 doQ (ff env.P 29 (some [(0,v4),(1,v6)])) fun v7 =>
 doW (Zj H2 5 29) fun v8 H3 =>
 doW (Zo H3 29 v8 v7) fun v9 H4 =>
 doQ (Zd 29 v1 0) fun v10 =>
 doQ (Zb H4 5 v10) fun v11 =>
 doQ (Zd 29 v2 0) fun v12 =>
 doQ (Zb H4 5 v12) fun v13 =>
 doQ (Zp 5 12 14 v11 v13) fun v14 =>
 gQ v14 false (Zb H4 29 v1) fun v15 =>
 gQ v14 false (Zb H4 29 v8) fun v16 =>
 gQ v14 false (Zn 29 17 18 v15 v16) fun v17 =>
 gQ v14 false (ZF v17) fun v18 =>
 gQ v18 true (Zd 29 v1 1) fun v19 =>
 gQ v18 true (Zb H4 27 v19) fun v20 =>
 gQ v18 true (Zd 29 v2 1) fun v21 =>
 gQ v18 true (Zb H4 27 v21) fun v22 =>
 gQ v18 true (Zp 27 22 24 v20 v22) fun v23 =>
 gQ v14 false (Zg v18 v23) fun v24 =>
 doQ (Zl v14 v24) fun v25 =>
 Q v25 H4
theorem z7(x0 x1:AV)(H:Heap)(Q:AV→Heap→Prop)(h : ∀g,tw g x0 x1 H Q):GoL env Tryz.f169 0 [.code tf] [(0,x0),(1,x1)] H Q:=⟨fun g=>aH (live:=Ap) (cut:=AK) (n:=500) (Eq.mp (by kernel_rfl) (h g))⟩
noncomputable def ib:Code:=(Tryz.f173.body).getD .skip
def mT:Nat→Option (List Nat):=fun i=>none
def mY:Nat→Bool:=fun i=>false
def dx(g:Nat→AV)(x0:AV)(H:Heap)(Q:AV→Heap→Prop):Prop :=
 doQ (ZP 36 3 x0) fun v1 =>
 br (some v1) (
 Q (.v (.slice none 0 0)) H) (
 doW (Z8 H 5 36 0) fun v2 H1 =>
 doW (Zt H1 7 36 36 v2 x0) fun v3 H2 =>
 Q v3 H2)
theorem mM(x0:AV)(H:Heap)(Q:AV→Heap→Prop)(h : ∀g,dx g x0 H Q):GoL env Tryz.f173 0 [.code ib] [(0,x0)] H Q:=⟨fun g=>aH (live:=mT) (cut:=mY) (n:=500) (Eq.mp (by kernel_rfl) (h g))⟩
noncomputable def gm:Code:=(Tryz.f176.body).getD .skip
def lB:Nat→Option (List Nat):=fun i=>none
def lU:Nat→Bool:=fun i=>false
def gz(g:Nat→AV)(x0 x1:AV)(H:Heap)(Q:AV→Heap→Prop):Prop :=
 doW (Za true H 7 214 [x0,x1]) fun v1 H1 =>
 doQ (Zq 3 7 0 v1) fun v2 =>
 Q v2 H1
theorem lf(x0 x1:AV)(H:Heap)(Q:AV→Heap→Prop)(h : ∀g,gz g x0 x1 H Q):GoL env Tryz.f176 0 [.code gm] [(0,x0),(1,x1)] H Q:=⟨fun g=>aH (live:=lB) (cut:=lU) (n:=500) (Eq.mp (by kernel_rfl) (h g))⟩
noncomputable def wZ:Code:=(Tryz.f182.body).getD .skip
def De:Nat→Option (List Nat):=fun i=>none
def DB:Nat→Bool:=fun i=>false
def xd(g:Nat→AV)(x0:AV)(H:Heap)(Q:AV→Heap→Prop):Prop :=
 doW (Zc H 1 33 x0) fun v1 H1 =>
 doQ (Zd 33 v1 0) fun v2 =>
 doQ (Zb H1 31 v2) fun v3 =>
 doW (Za true H1 5 91 [v3]) fun v4 H2 =>
 doQ (Zk 42 5 0 v4) fun v5 =>
 gQ v5 true (Zd 33 v1 1) fun v6 =>
 gQ v5 true (Zb H2 3 v6) fun v7 =>
 gQ v5 true (Zq 3 9 1 v7) fun v8 =>
 doQ (Zg v5 v8) fun v9 =>
 gQ v9 true (Zd 33 v1 1) fun v10 =>
 gQ v9 true (Zb H2 3 v10) fun v11 =>
 gQ v9 true (ZA 3 14 1099511627776 v11) fun v12 =>
 doQ (Zg v9 v12) fun v13 =>
 doW (Za true H2 17 159 [v13]) fun v14 H3 =>
 Q v14 H3
theorem CD(x0:AV)(H:Heap)(Q:AV→Heap→Prop)(h : ∀g,xd g x0 H Q):GoL env Tryz.f182 0 [.code wZ] [(0,x0)] H Q:=⟨fun g=>aH (live:=De) (cut:=DB) (n:=500) (Eq.mp (by kernel_rfl) (h g))⟩
noncomputable def oX:Code:=(Tryz.f185.body).getD .skip
def An:Nat→Option (List Nat):=fun i=>none
def AI:Nat→Bool:=fun i=>false
def o6(g:Nat→AV)(H:Heap)(Q:AV→Heap→Prop):Prop :=
 doW (Zj H 0 29) fun v1 H1 =>
 doQ (Z6 29) fun v2 =>
 doW (Zo H1 29 v1 v2) fun v3 H2 =>
 doQ (Z7 H2 v1 29) fun v4 =>
 Q v4 H2
theorem sM(H:Heap)(Q:AV→Heap→Prop)(h : ∀g,o6 g  H Q):GoL env Tryz.f185 0 [.code oX] [] H Q:=⟨fun g=>aH (live:=An) (cut:=AI) (n:=500) (Eq.mp (by kernel_rfl) (h g))⟩
noncomputable def sW:Code:=(Tryz.f187.body).getD .skip
def Ae:Nat→Option (List Nat):=fun i=>none
def Ay:Nat→Bool:=fun i=>false
def o5(g:Nat→AV)(x0:AV)(H:Heap)(Q:AV→Heap→Prop):Prop :=
 doQ (Zh H 6 36 x0) fun v1 =>
 doQ (Zr 3 6 64 v1) fun v2 =>
 br (some v2) (
 Q (.v (.int .i64 4)) H) (
 doW (Za true H 11 217 [x0,(.fn (.func 215) [] [])]) fun v3 H1 =>
 br (some v3) (
 Q (.v (.int .i64 8)) H1) (
 Q (.v (.int .i64 0)) H1))
theorem zR(x0:AV)(H:Heap)(Q:AV→Heap→Prop)(h : ∀g,o5 g x0 H Q):GoL env Tryz.f187 0 [.code sW] [(0,x0)] H Q:=⟨fun g=>aH (live:=Ae) (cut:=Ay) (n:=500) (Eq.mp (by kernel_rfl) (h g))⟩
noncomputable def nj:Code:=(Tryz.f207.body).getD .skip
noncomputable def nK:List Item:=(bL 2 400 [.code nj]).getD []
def uL:Nat→Option (List Nat):=fun i=>cond (Nat.beq i 2) (some [5,0,4]) (none)
def uU:Nat→Bool:=fun i=>false
def qy(g:Nat→AV)(x0 x1:AV)(H:Heap)(Q:AV→Heap→Prop):Prop :=
 doQ (Zy 3 6 1 x1) fun v1 =>
  GoL env Tryz.f207 0 nK [(5,v1),(0,x0),(4,(.v (.slice none 0 0)))] H Q
theorem uh(x0 x1:AV)(H:Heap)(Q:AV→Heap→Prop)(h : ∀g,qy g x0 x1 H Q):GoL env Tryz.f207 0 [.code nj] [(0,x0),(1,x1)] H Q:=⟨fun g=>aH (live:=uL) (cut:=uU) (n:=500) (Eq.mp (by kernel_rfl) (h g))⟩
def bX(g:Nat→AV)(x5 x0 x4:AV)(H:Heap)(Q:AV→Heap→Prop):Prop :=
 doQ (Zq 3 8 0 x5) fun v1 =>
 br (some v1) (
 doQ (ZW 3 8 14 x5) fun v2 =>
 doQ (qBin env.P .shr 3 (Operand.tmp 13) (Operand.tmp 15) (some x0) (some v2)) fun v3 =>
 doQ (Zw H 17 3 5 v3) fun v4 =>
 doW (ZD H 18 170 1 0 v4) fun v5 H1 =>
 doW (Zt H1 19 170 170 x4 v5) fun v6 H2 =>
 doQ (Zy 3 10 1 x5) fun v7 =>
  GoL env Tryz.f207 0 nK [(5,v7),(0,x0),(4,v6)] H2 Q) (
 Q x4 H)
theorem cD(x5 x0 x4:AV)(H:Heap)(Q:AV→Heap→Prop)(h : ∀g,bX g x5 x0 x4 H Q):GoL env Tryz.f207 0 nK [(5,x5),(0,x0),(4,x4)] H Q:=cU fun g=>aH (live:=uL) (cut:=uU) (n:=500) (Eq.mp (by kernel_rfl) (h g))
noncomputable def Bh:Code:=(Tryz.f208.body).getD .skip
def GZ:Nat→Option (List Nat):=fun i=>none
def Hj:Nat→Bool:=fun i=>false
def wF(g:Nat→AV)(x0:AV)(H:Heap)(Q:AV→Heap→Prop):Prop :=
 doW (Zc H 1 33 x0) fun v1 H1 =>
 doQ (Zb H1 33 v1) fun v2 =>
 doW (Za true H1 8 182 [v2]) fun v3 H2 =>
 doQ (Ze 42 9 0 v3) fun v4 =>
 br (some v4) (
 Q (.tup [(.v (.slice none 0 0)),v3]) H2) (
 doQ (Zd 33 v1 0) fun v5 =>
 doQ (Zb H2 31 v5) fun v6 =>
 doW (Za true H2 15 162 [v6]) fun v7 H3 =>
 doQ (Zx v7 0) fun v8 =>
 doQ (Zx v7 1) fun v9 =>
 doQ (Zd 33 v1 1) fun v10 =>
 doQ (Zb H3 3 v10) fun v11 =>
 doW (Za true H3 21 207 [v11,(.v (.int .i64 7))]) fun v12 H4 =>
 doW (Zt H4 22 170 170 v8 v12) fun v13 H5 =>
 Q (.tup [v13,v9]) H5)
theorem Gr(x0:AV)(H:Heap)(Q:AV→Heap→Prop)(h : ∀g,wF g x0 H Q):GoL env Tryz.f208 0 [.code Bh] [(0,x0)] H Q:=⟨fun g=>aH (live:=GZ) (cut:=Hj) (n:=500) (Eq.mp (by kernel_rfl) (h g))⟩
noncomputable def rD:Code:=(Tryz.f210.body).getD .skip
noncomputable def mF:List Item:=(bL 6 400 [.code rD]).getD []
def wM:Nat→Option (List Nat):=fun i=>cond (Nat.beq i 6) (some [15,5,13,14]) (none)
def wT:Nat→Bool:=fun i=>false
def rR(g:Nat→AV)(x0:AV)(H:Heap)(Q:AV→Heap→Prop):Prop :=
 doW (Za true H 9 187 [x0]) fun v1 H1 =>
 doQ (Ze 42 10 0 v1) fun v2 =>
 br (some v2) (
 Q (.tup [(.v (.slice none 0 0)),v1]) H1) (
 doQ (Zh H1 14 36 x0) fun v3 =>
  GoL env Tryz.f210 0 mF [(15,(.v (.int .i64 0))),(5,(.v (.slice none 0 0))),(13,x0),(14,v3)] H1 Q)
theorem Cz(x0:AV)(H:Heap)(Q:AV→Heap→Prop)(h : ∀g,rR g x0 H Q):GoL env Tryz.f210 0 [.code rD] [(0,x0)] H Q:=⟨fun g=>aH (live:=wM) (cut:=wT) (n:=500) (Eq.mp (by kernel_rfl) (h g))⟩
def mH(g:Nat→AV)(x15 x5 x13 x14:AV)(H:Heap)(Q:AV→Heap→Prop):Prop :=
 doQ (Zp 3 15 14 x15 x14) fun v1 =>
 br (some v1) (
 doQ (Zu H 36 x13 x15) fun v2 =>
 doQ (Zb H 21 v2) fun v3 =>
 doQ (qBin env.P .shr 21 (Operand.tmp 20) (.const (.int .u64 24)) (some v3) (some (.v (.int .u64 24)))) fun v4 =>
 doQ (Zw H 22 21 5 v4) fun v5 =>
 doQ (Z9 21 23 v3) fun v6 =>
 doQ (Zw H 25 21 5 v6) fun v7 =>
 doQ (ZV 21 26 v3) fun v8 =>
 doQ (Zw H 28 21 5 v8) fun v9 =>
 doQ (Zw H 30 21 5 v3) fun v10 =>
 doW (iI env.P false true H (Ref.mk 0 31 (Heap.gen H 0 31) 0) 170 4 (some [(0,v5),(1,v7),(2,v9),(3,v10)])) fun v11 H1 =>
 doW (Zt H1 32 170 170 x5 v11) fun v12 H2 =>
 doQ (Zf 3 15 1 x15) fun v13 =>
  GoL env Tryz.f210 0 mF [(15,v13),(5,v12),(13,x13),(14,x14)] H2 Q) (
 Q (.tup [x5,(.v (.int .i64 0))]) H)
theorem sL(x15 x5 x13 x14:AV)(H:Heap)(Q:AV→Heap→Prop)(h : ∀g,mH g x15 x5 x13 x14 H Q):GoL env Tryz.f210 0 mF [(15,x15),(5,x5),(13,x13),(14,x14)] H Q:=cU fun g=>aH (live:=wM) (cut:=wT) (n:=500) (Eq.mp (by kernel_rfl) (h g))
noncomputable def eP:Code:=(Tryz.f214.body).getD .skip
noncomputable def db:List Item:=(bL 2 400 [.code eP]).getD []
def hU:Nat→Option (List Nat):=fun i=>cond (Nat.beq i 2) (some [8,0,1,7]) (none)
def hY:Nat→Bool:=fun i=>false
def ig(g:Nat→AV)(x0 x1:AV)(H:Heap)(Q:AV→Heap→Prop):Prop :=
 doQ (Zh H 7 36 x0) fun v1 =>
  GoL env Tryz.f214 0 db [(8,(.v (.int .i64 0))),(0,x0),(1,x1),(7,v1)] H Q
theorem mK(x0 x1:AV)(H:Heap)(Q:AV→Heap→Prop)(h : ∀g,ig g x0 x1 H Q):GoL env Tryz.f214 0 [.code eP] [(0,x0),(1,x1)] H Q:=⟨fun g=>aH (live:=hU) (cut:=hY) (n:=500) (Eq.mp (by kernel_rfl) (h g))⟩
def de(g:Nat→AV)(x8 x0 x1 x7:AV)(H:Heap)(Q:AV→Heap→Prop):Prop :=
 doQ (Zp 3 8 7 x8 x7) fun v1 =>
 br (some v1) (
 doQ (Zu H 36 x0 x8) fun v2 =>
 doQ (Zb H 21 v2) fun v3 =>
 doQ (Zn 21 11 15 x1 v3) fun v4 =>
 br (some v4) (
 Q x8 H) (
 doQ (Zf 3 8 1 x8) fun v5 =>
  GoL env Tryz.f214 0 db [(8,v5),(0,x0),(1,x1),(7,x7)] H Q)) (
 Q (.v (.int .i64 (-1))) H)
theorem gG(x8 x0 x1 x7:AV)(H:Heap)(Q:AV→Heap→Prop)(h : ∀g,de g x8 x0 x1 x7 H Q):GoL env Tryz.f214 0 db [(8,x8),(0,x0),(1,x1),(7,x7)] H Q:=cU fun g=>aH (live:=hU) (cut:=hY) (n:=500) (Eq.mp (by kernel_rfl) (h g))
noncomputable def qM:Code:=(Tryz.f215.body).getD .skip
def xw:Nat→Option (List Nat):=fun i=>none
def xE:Nat→Bool:=fun i=>false
def nc(g:Nat→AV)(x0:AV)(H:Heap)(Q:AV→Heap→Prop):Prop :=
 doQ (qBin env.P .neq 21 (Operand.tmp 3) (.const (.int .i32 (-1))) (some x0) (some (.v (.int .i32 (-1))))) fun v1 =>
 gQ v1 true (ZF x0) fun v2 =>
 gW v1 true H (Za true H 7 216 [v2]) fun v3 H1 =>
 gQ v1 true (ZE v3) fun v4 =>
 doQ (Zg v1 v4) fun v5 =>
 Q v5 H1
theorem xi(x0:AV)(H:Heap)(Q:AV→Heap→Prop)(h : ∀g,nc g x0 H Q):GoL env Tryz.f215 0 [.code qM] [(0,x0)] H Q:=⟨fun g=>aH (live:=xw) (cut:=xE) (n:=500) (Eq.mp (by kernel_rfl) (h g))⟩
noncomputable def kq:Code:=(Tryz.f216.body).getD .skip
def oS:Nat→Option (List Nat):=fun i=>none
def oW:Nat→Bool:=fun i=>false
def kr(g:Nat→AV)(x0:AV)(H:Heap)(Q:AV→Heap→Prop):Prop :=
 doQ (qBin env.P .leq 21 (.const (.int .i32 0)) (Operand.tmp 4) (some (.v (.int .i32 0))) (some x0)) fun v1 =>
 gQ v1 true (ZF x0) fun v2 =>
 gQ v1 true (qBin env.P .lss 21 (Operand.tmp 7) (.const (.int .i32 55296)) (some v2) (some (.v (.int .i32 55296)))) fun v3 =>
 doQ (Zg v1 v3) fun v4 =>
 br (some v4) (
 Q (.v (.bool true)) H) (
 doQ (qBin env.P .lss 21 (.const (.int .i32 57343)) (Operand.tmp 11) (some (.v (.int .i32 57343))) (some x0)) fun v5 =>
 gQ v5 true (ZF x0) fun v6 =>
 gQ v5 true (qBin env.P .leq 21 (Operand.tmp 14) (.const (.int .i32 1114111)) (some v6) (some (.v (.int .i32 1114111)))) fun v7 =>
 doQ (Zg v5 v7) fun v8 =>
 br (some v8) (
 Q (.v (.bool true)) H) (
 Q (.v (.bool false)) H))
theorem oN(x0:AV)(H:Heap)(Q:AV→Heap→Prop)(h : ∀g,kr g x0 H Q):GoL env Tryz.f216 0 [.code kq] [(0,x0)] H Q:=⟨fun g=>aH (live:=oS) (cut:=oW) (n:=500) (Eq.mp (by kernel_rfl) (h g))⟩
noncomputable def fB:Code:=(Tryz.f217.body).getD .skip
def jZ:Nat→Option (List Nat):=fun i=>none
def kn:Nat→Bool:=fun i=>false
def fE(g:Nat→AV)(x0 x1:AV)(H:Heap)(Q:AV→Heap→Prop):Prop :=
 doW (Za true H 7 229 [x0,x1]) fun v1 H1 =>
 doQ (Zq 3 7 0 v1) fun v2 =>
 Q v2 H1
theorem jS(x0 x1:AV)(H:Heap)(Q:AV→Heap→Prop)(h : ∀g,fE g x0 x1 H Q):GoL env Tryz.f217 0 [.code fB] [(0,x0),(1,x1)] H Q:=⟨fun g=>aH (live:=jZ) (cut:=kn) (n:=500) (Eq.mp (by kernel_rfl) (h g))⟩
noncomputable def eQ:Code:=(Tryz.f226.body).getD .skip
noncomputable def dc:List Item:=(bL 4 400 [.code eQ]).getD []
def hX:Nat→Option (List Nat):=fun i=>cond (Nat.beq i 4) (some [13,1,0,12]) (none)
def hZ:Nat→Bool:=fun i=>false
def eT(g:Nat→AV)(x0 x1:AV)(H:Heap)(Q:AV→Heap→Prop):Prop :=
 doQ (Zh H 7 36 x0) fun v1 =>
 doQ (Zh H 9 36 x1) fun v2 =>
 doQ (Zv 3 7 9 v1 v2) fun v3 =>
 br (some v3) (
 Q (.v (.bool false)) H) (
 doQ (Zh H 12 36 x0) fun v4 =>
  GoL env Tryz.f226 0 dc [(13,(.v (.int .i64 0))),(1,x1),(0,x0),(12,v4)] H Q)
theorem mL(x0 x1:AV)(H:Heap)(Q:AV→Heap→Prop)(h : ∀g,eT g x0 x1 H Q):GoL env Tryz.f226 0 [.code eQ] [(0,x0),(1,x1)] H Q:=⟨fun g=>aH (live:=hX) (cut:=hZ) (n:=500) (Eq.mp (by kernel_rfl) (h g))⟩
def df(g:Nat→AV)(x13 x1 x0 x12:AV)(H:Heap)(Q:AV→Heap→Prop):Prop :=
 doQ (Zp 3 13 12 x13 x12) fun v1 =>
 br (some v1) (
 doQ (Zu H 36 x0 x13) fun v2 =>
 doQ (Zb H 21 v2) fun v3 =>
 doQ (Zu H 36 x1 x13) fun v4 =>
 doQ (Zb H 21 v4) fun v5 =>
 doQ (Zv 21 19 23 v3 v5) fun v6 =>
 br (some v6) (
 Q (.v (.bool false)) H) (
 doQ (Zf 3 13 1 x13) fun v7 =>
  GoL env Tryz.f226 0 dc [(13,v7),(1,x1),(0,x0),(12,x12)] H Q)) (
 Q (.v (.bool true)) H)
theorem gH(x13 x1 x0 x12:AV)(H:Heap)(Q:AV→Heap→Prop)(h : ∀g,df g x13 x1 x0 x12 H Q):GoL env Tryz.f226 0 dc [(13,x13),(1,x1),(0,x0),(12,x12)] H Q:=cU fun g=>aH (live:=hX) (cut:=hZ) (n:=500) (Eq.mp (by kernel_rfl) (h g))
noncomputable def DI:Code:=(Tryz.f228.body).getD .skip
def Jg:Nat→Option (List Nat):=fun i=>none
def JX:Nat→Bool:=fun i=>false
def sa(g:Nat→AV)(x0 x1:AV)(H:Heap)(Q:AV→Heap→Prop):Prop :=
 doW (Zc H 2 35 x0) fun v1 H1 =>
 doW (Zj H1 4 33) fun v2 H2 =>
 doQ (Zb H2 35 v1) fun v3 =>
 doW (Za true H2 8 135 [v3]) fun v4 H3 =>
 doQ (Ze 42 9 0 v4) fun v5 =>
 br (some v5) (
 doQ (Z6 33) fun v6 =>
 doW (Zo H3 33 v2 v6) fun v7 H4 =>
 doQ (Z7 H4 v2 33) fun v8 =>
 Q (.tup [v8,v4]) H4) (
 doQ (Zs 3 13 0 x1) fun v6 =>
 gQ v6 false (ZF x1) fun v7 =>
 gQ v6 false (Zd 35 v1 1) fun v8 =>
 gQ v6 false (Zb H3 3 v8) fun v9 =>
 gQ v6 false (Z4 3 16 18 v7 v9) fun v10 =>
 doQ (Zl v6 v10) fun v11 =>
 br (some v11) (
 doQ (Z6 33) fun v12 =>
 doW (Zo H3 33 v2 v12) fun v13 H4 =>
 doQ (Z7 H4 v2 33) fun v14 =>
 Q (.tup [v14,(.v (.int .i64 2))]) H4) (
 doQ (Zd 35 v1 0) fun v12 =>
 doQ (Zb H3 33 v12) fun v13 =>
 doW (Za true H3 25 239 [v13,x1]) fun v14 H4 =>
 doW (Zo H4 33 v2 v14) fun v15 H5 =>
 doQ (Z7 H5 v2 33) fun v16 =>
 Q (.tup [v16,(.v (.int .i64 0))]) H5))
theorem HC(x0 x1:AV)(H:Heap)(Q:AV→Heap→Prop)(h : ∀g,sa g x0 x1 H Q):GoL env Tryz.f228 0 [.code DI] [(0,x0),(1,x1)] H Q:=⟨fun g=>aH (live:=Jg) (cut:=JX) (n:=500) (Eq.mp (by kernel_rfl) (h g))⟩
noncomputable def dO:Code:=(Tryz.f229.body).getD .skip
noncomputable def cP:List Item:=(bL 2 400 [.code dO]).getD []
def gf:Nat→Option (List Nat):=fun i=>cond (Nat.beq i 2) (some [8,0,1,7]) (none)
def gl:Nat→Bool:=fun i=>false
def gy(g:Nat→AV)(x0 x1:AV)(H:Heap)(Q:AV→Heap→Prop):Prop :=
 doQ (Zh H 7 36 x0) fun v1 =>
  GoL env Tryz.f229 0 cP [(8,(.v (.int .i64 0))),(0,x0),(1,x1),(7,v1)] H Q
theorem ld(x0 x1:AV)(H:Heap)(Q:AV→Heap→Prop)(h : ∀g,gy g x0 x1 H Q):GoL env Tryz.f229 0 [.code dO] [(0,x0),(1,x1)] H Q:=⟨fun g=>aH (live:=gf) (cut:=gl) (n:=500) (Eq.mp (by kernel_rfl) (h g))⟩
def cQ(g:Nat→AV)(x8 x0 x1 x7:AV)(H:Heap)(Q:AV→Heap→Prop):Prop :=
 doQ (Zp 3 8 7 x8 x7) fun v1 =>
 br (some v1) (
 doQ (Zu H 36 x0 x8) fun v2 =>
 doQ (Zb H 21 v2) fun v3 =>
 doW (ZH H 16 x1 v3) fun v4 H1 =>
 br (some v4) (
 Q x8 H1) (
 doQ (Zf 3 8 1 x8) fun v5 =>
  GoL env Tryz.f229 0 cP [(8,v5),(0,x0),(1,x1),(7,x7)] H1 Q)) (
 Q (.v (.int .i64 (-1))) H)
theorem fI(x8 x0 x1 x7:AV)(H:Heap)(Q:AV→Heap→Prop)(h : ∀g,cQ g x8 x0 x1 x7 H Q):GoL env Tryz.f229 0 cP [(8,x8),(0,x0),(1,x1),(7,x7)] H Q:=cU fun g=>aH (live:=gf) (cut:=gl) (n:=500) (Eq.mp (by kernel_rfl) (h g))
noncomputable def nQ:Code:=(Tryz.f231.body).getD .skip
def Je:Nat→Option (List Nat):=fun i=>none
def JV:Nat→Bool:=fun i=>false
def mc(g:Nat→AV)(x0:AV)(H:Heap)(Q:AV→Heap→Prop):Prop :=
 doW (Zc H 1 38 x0) fun v1 H1 =>
 doW (Zj H1 2 249) fun v2 H2 =>
 doQ (Zb H2 38 v1) fun v3 =>
 doW (Za true H2 7 70 [v3]) fun v4 H3 =>
 doQ (Ze 42 8 0 v4) fun v5 =>
 br (some v5) (
 doQ (Z6 249) fun v6 =>
 doW (Zo H3 249 v2 v6) fun v7 H4 =>
 doQ (Z7 H4 v2 249) fun v8 =>
 Q (.tup [v8,v4]) H4) (
 doQ (Zd 38 v1 3) fun v6 =>
 doQ (Zb H3 35 v6) fun v7 =>
 doQ (Zd 38 v1 4) fun v8 =>
 doQ (Zb H3 33 v8) fun v9 =>
 doQ (Zd 38 v1 6) fun v10 =>
 doQ (Zb H3 36 v10) fun v11 =>
 doW (Za false H3 18 173 [v11]) fun v12 H4 =>
 doQ (ff env.P 249 (some [(0,v7),(1,v9),(2,v12)])) fun v13 =>
 doW (Zj H4 5 249) fun v14 H5 =>
 doW (Zo H5 249 v14 v13) fun v15 H6 =>
 doQ (Zd 38 v1 0) fun v16 =>
 doQ (Zb H6 5 v16) fun v17 =>
 doQ (qBin env.P .neq 5 (Operand.tmp 21) (.const (.int .u8 1)) (some v17) (some (a8 1))) fun v18 =>
 gQ v18 false (Zb H6 249 v14) fun v19 =>
 gW v18 false H6 (Za true H6 25 240 [v19]) fun v20 H7 =>
 gQ v18 false (Ze 42 25 0 v20) fun v21 =>
 doQ (Zl v18 v21) fun v22 =>
 br (some v22) (
 doQ (Z6 249) fun v23 =>
 doW (Zo H7 249 v2 v23) fun v24 H8 =>
 doQ (Z7 H8 v2 249) fun v25 =>
 Q (.tup [v25,(.v (.int .i64 2))]) H8) (
 doQ (Zb H7 249 v14) fun v23 =>
 doW (Zo H7 249 v2 v23) fun v24 H8 =>
 doQ (Z7 H8 v2 249) fun v25 =>
 Q (.tup [v25,(.v (.int .i64 0))]) H8))
theorem pb(x0:AV)(H:Heap)(Q:AV→Heap→Prop)(h : ∀g,mc g x0 H Q):GoL env Tryz.f231 0 [.code nQ] [(0,x0)] H Q:=⟨fun g=>aH (live:=Je) (cut:=JV) (n:=500) (Eq.mp (by kernel_rfl) (h g))⟩
noncomputable def zI:Code:=(Tryz.f239.body).getD .skip
def Ew:Nat→Option (List Nat):=fun i=>none
def E0:Nat→Bool:=fun i=>false
def zN(g:Nat→AV)(x0 x1:AV)(H:Heap)(Q:AV→Heap→Prop):Prop :=
 doW (Zc H 2 33 x0) fun v1 H1 =>
 doW (Zj H1 4 33) fun v2 H2 =>
 doQ (Zd 33 v1 1) fun v3 =>
 doQ (Zb H2 3 v3) fun v4 =>
 doQ (ZG 3 6 7 v4 x1) fun v5 =>
 doQ (Zd 33 v1 1) fun v6 =>
 doW (Zo H2 3 v6 v5) fun v7 H3 =>
 doQ (Zb H3 33 v1) fun v8 =>
 doW (Zo H3 33 v2 v8) fun v9 H4 =>
 doQ (Z7 H4 v2 33) fun v10 =>
 Q v10 H4
theorem DW(x0 x1:AV)(H:Heap)(Q:AV→Heap→Prop)(h : ∀g,zN g x0 x1 H Q):GoL env Tryz.f239 0 [.code zI] [(0,x0),(1,x1)] H Q:=⟨fun g=>aH (live:=Ew) (cut:=E0) (n:=500) (Eq.mp (by kernel_rfl) (h g))⟩
noncomputable def wX:Code:=(Tryz.f240.body).getD .skip
def Db:Nat→Option (List Nat):=fun i=>none
def Dy:Nat→Bool:=fun i=>false
def rS(g:Nat→AV)(x0:AV)(H:Heap)(Q:AV→Heap→Prop):Prop :=
 doW (Zc H 1 249 x0) fun v1 H1 =>
 doQ (Zd 249 v1 1) fun v2 =>
 doQ (Zb H1 33 v2) fun v3 =>
 doQ (Z6 33) fun v4 =>
 doQ (Zn 33 5 6 v3 v4) fun v5 =>
 gQ v5 false (Zd 249 v1 1) fun v6 =>
 gQ v5 false (Zb H1 33 v6) fun v7 =>
 gW v5 false H1 (Za true H1 11 182 [v7]) fun v8 H2 =>
 gQ v5 false (Zk 42 11 0 v8) fun v9 =>
 gQ v5 false (ZF v9) fun v10 =>
 gQ v10 true (Zd 249 v1 1) fun v11 =>
 gQ v10 true (Zd 33 v11 1) fun v12 =>
 gQ v10 true (Zb H2 3 v12) fun v13 =>
 gQ v10 true (Zd 249 v1 0) fun v14 =>
 gQ v10 true (Zd 35 v14 0) fun v15 =>
 gQ v10 true (Zd 33 v15 1) fun v16 =>
 gQ v10 true (Zb H2 3 v16) fun v17 =>
 gQ v10 true (Zp 3 16 20 v13 v17) fun v18 =>
 gQ v5 false (Zg v10 v18) fun v19 =>
 doQ (Zl v5 v19) fun v20 =>
 doQ (Zd 249 v1 0) fun v21 =>
 doQ (Zb H2 35 v21) fun v22 =>
 doW (Za true H2 26 135 [v22]) fun v23 H3 =>
 doQ (Ze 42 26 0 v23) fun v24 =>
 gQ v24 false (ZF v20) fun v25 =>
 gQ v24 false (ZE v25) fun v26 =>
 doQ (Zl v24 v26) fun v27 =>
 gQ v27 false (Zd 249 v1 2) fun v28 =>
 gQ v27 false (Zb H3 36 v28) fun v29 =>
 gQ v27 false (Zh H3 35 36 v29) fun v30 =>
 gQ v27 false (Zd 249 v1 0) fun v31 =>
 gQ v27 false (Zd 35 v31 1) fun v32 =>
 gQ v27 false (Zb H3 3 v32) fun v33 =>
 gQ v27 false (Zv 3 35 38 v30 v33) fun v34 =>
 doQ (Zl v27 v34) fun v35 =>
 gQ v35 false (Zd 249 v1 2) fun v36 =>
 gQ v35 false (Zb H3 36 v36) fun v37 =>
 gW v35 false H3 (Za true H3 44 187 [v37]) fun v38 H4 =>
 gQ v35 false (Ze 42 44 0 v38) fun v39 =>
 doQ (Zl v35 v39) fun v40 =>
 br (some v40) (
 Q (.v (.int .i64 8)) H4) (
 Q (.v (.int .i64 0)) H4)
theorem CA(x0:AV)(H:Heap)(Q:AV→Heap→Prop)(h : ∀g,rS g x0 H Q):GoL env Tryz.f240 0 [.code wX] [(0,x0)] H Q:=⟨fun g=>aH (live:=Db) (cut:=Dy) (n:=500) (Eq.mp (by kernel_rfl) (h g))⟩
noncomputable def Bi:Code:=(Tryz.f251.body).getD .skip
def G0:Nat→Option (List Nat):=fun i=>none
def Hk:Nat→Bool:=fun i=>false
def nx(g:Nat→AV)(x0 x1:AV)(H:Heap)(Q:AV→Heap→Prop):Prop :=
 doW (Zc H 2 35 x0) fun v1 H1 =>
 doW (Zc H1 3 33 x1) fun v2 H2 =>
 doQ (Zd 33 v2 1) fun v3 =>
 doQ (Zb H2 3 v3) fun v4 =>
 doQ (Zd 35 v1 0) fun v5 =>
 doQ (Zd 33 v5 1) fun v6 =>
 doQ (Zb H2 3 v6) fun v7 =>
 doQ (ZQ 3 8 11 v4 v7) fun v8 =>
 doQ (Zb H2 35 v1) fun v9 =>
 doW (Za false H2 14 135 [v9]) fun v10 H3 =>
 doQ (Ze 42 14 0 v10) fun v11 =>
 gQ v11 false (ZF v8) fun v12 =>
 gQ v11 false (Zs 3 17 0 v12) fun v13 =>
 doQ (Zl v11 v13) fun v14 =>
 gQ v14 false (ZF v8) fun v15 =>
 gQ v14 false (Zd 35 v1 1) fun v16 =>
 gQ v14 false (Zb H3 3 v16) fun v17 =>
 gQ v14 false (Z4 3 21 23 v15 v17) fun v18 =>
 doQ (Zl v14 v18) fun v19 =>
 gQ v19 false (Zb H3 33 v2) fun v20 =>
 gQ v19 false (Zd 35 v1 0) fun v21 =>
 gQ v19 false (Zb H3 33 v21) fun v22 =>
 gQ v19 false (ZF v8) fun v23 =>
 gW v19 false H3 (Za false H3 31 239 [v22,v23]) fun v24 H4 =>
 gQ v19 false (Zv 33 27 31 v20 v24) fun v25 =>
 doQ (Zl v19 v25) fun v26 =>
 br (some v26) (
 Q (.tup [(.v (.int .i64 0)),(.v (.bool false))]) H4) (
 Q (.tup [v8,(.v (.bool true))]) H4)
theorem Gs(x0 x1:AV)(H:Heap)(Q:AV→Heap→Prop)(h : ∀g,nx g x0 x1 H Q):GoL env Tryz.f251 0 [.code Bi] [(0,x0),(1,x1)] H Q:=⟨fun g=>aH (live:=G0) (cut:=Hk) (n:=500) (Eq.mp (by kernel_rfl) (h g))⟩
end Go.Proofs.YtmkmimgokagimaaGreat
