/-
  What is to be shown of each function, computed from its code. No statement of a seat is proved here.
-/
import Derived.Test.YtmkmimgokagimaaGreatLeTy
set_option linter.unusedVariables false
set_option maxRecDepth 1000000
namespace Go.Proofs.YtmkmimgokagimaaGreat
open Go.Ab
noncomputable def pZ:Code:=(Tryz.f47.body).getD .skip
def AL:Nat→Option (List Nat):=fun i=>none
def A3:Nat→Bool:=fun i=>false
def qi(g:Nat→AV)(x0 x1:AV)(H:Heap)(Q:AV→Heap→Prop):Prop :=
 doW (Zc H 2 29 x0) fun v1 H1 =>
 doW (Zc H1 3 29 x1) fun v2 H2 =>
 doQ (Zd 29 v1 0) fun v3 =>
 doQ (Zb H2 5 v3) fun v4 =>
 doQ (Zd 29 v2 0) fun v5 =>
 doQ (Zb H2 5 v5) fun v6 =>
 doQ (qBin env.P .leq 5 (Operand.tmp 6) (Operand.tmp 8) (some v4) (some v6)) fun v7 =>
 gQ v7 true (Zd 29 v1 1) fun v8 =>
 gQ v7 true (Zb H2 27 v8) fun v9 =>
 gQ v7 true (Zd 29 v2 1) fun v10 =>
 gQ v7 true (Zb H2 27 v10) fun v11 =>
 gQ v7 true (qBin env.P .andNot 27 (Operand.tmp 12) (Operand.tmp 14) (some v9) (some v11)) fun v12 =>
 gQ v7 true (qBin env.P .eql 27 (Operand.tmp 15) (.const (.int .u32 0)) (some v12) (some (a32 0))) fun v13 =>
 doQ (Zg v7 v13) fun v14 =>
 Q v14 H2
theorem tO(x0 x1:AV)(H:Heap)(Q:AV→Heap→Prop)(h : ∀g,qi g x0 x1 H Q):GoL env Tryz.f47 0 [.code pZ] [(0,x0),(1,x1)] H Q:=⟨fun g=>aU (live:=AL) (cut:=A3) (n:=500) (Eq.mp (by kernel_rfl) (h g))⟩
noncomputable def ny:Code:=(Tryz.f76.body).getD .skip
def xw:Nat→Option (List Nat):=fun i=>none
def xP:Nat→Bool:=fun i=>false
def nE(g:Nat→AV)(x0:AV)(H:Heap)(Q:AV→Heap→Prop):Prop :=
 doW (Zc H 1 29 x0) fun v1 H1 =>
 doQ (Zd 29 v1 0) fun v2 =>
 doQ (Zb H1 5 v2) fun v3 =>
 doQ (qBin env.P .gtr 5 (Operand.tmp 4) (.const (.int .u8 15)) (some v3) (some (a8 15))) fun v4 =>
 br (some v4) (
 Q (.v (.int .i64 8)) H1) (
 Q (.v (.int .i64 0)) H1)
theorem qM(x0:AV)(H:Heap)(Q:AV→Heap→Prop)(h : ∀g,nE g x0 H Q):GoL env Tryz.f76 0 [.code ny] [(0,x0)] H Q:=⟨fun g=>aU (live:=xw) (cut:=xP) (n:=500) (Eq.mp (by kernel_rfl) (h g))⟩
noncomputable def m9:Code:=(Tryz.f91.body).getD .skip
def sk:Nat→Option (List Nat):=fun i=>none
def sC:Nat→Bool:=fun i=>false
def nc(g:Nat→AV)(x0:AV)(H:Heap)(Q:AV→Heap→Prop):Prop :=
 doW (Zc H 1 31 x0) fun v1 H1 =>
 doQ (Zd 31 v1 0) fun v2 =>
 doQ (Zb H1 29 v2) fun v3 =>
 doW (Za true H1 5 76 [v3]) fun v4 H2 =>
 doQ (Zj 42 5 0 v4) fun v5 =>
 gQ v5 true (Zd 31 v1 1) fun v6 =>
 gQ v5 true (Zb H2 5 v6) fun v7 =>
 gQ v5 true (qBin env.P .lss 5 (Operand.tmp 9) (.const (.int .u8 8)) (some v7) (some (a8 8))) fun v8 =>
 doQ (Zg v5 v8) fun v9 =>
 doW (Za true H2 12 159 [v9]) fun v10 H3 =>
 Q v10 H3
theorem rS(x0:AV)(H:Heap)(Q:AV→Heap→Prop)(h : ∀g,nc g x0 H Q):GoL env Tryz.f91 0 [.code m9] [(0,x0)] H Q:=⟨fun g=>aU (live:=sk) (cut:=sC) (n:=500) (Eq.mp (by kernel_rfl) (h g))⟩
noncomputable def gJ:Code:=(Tryz.f133.body).getD .skip
noncomputable def eb:List Item:=(bM 4 400 [.code gJ]).getD []
def kj:Nat→Option (List Nat):=fun i=>cond (Nat.beq i 4) (some [5,1,0]) (none)
def kJ:Nat→Bool:=fun i=>false
def gK(g:Nat→AV)(x0 x1:AV)(H:Heap)(Q:AV→Heap→Prop):Prop :=
 doQ (Zh H 7 36 x0) fun v1 =>
 doQ (Zh H 9 36 x1) fun v2 =>
 doQ (Zz 3 7 9 v1 v2) fun v3 =>
 br (some v3) (
 Q (.v (.bool false)) H) (
  GoL env Tryz.f133 0 eb [(5,(.v (.int .i64 0))),(1,x1),(0,x0)] H Q)
theorem oJ(x0 x1:AV)(H:Heap)(Q:AV→Heap→Prop)(h : ∀g,gK g x0 x1 H Q):GoL env Tryz.f133 0 [.code gJ] [(0,x0),(1,x1)] H Q:=⟨fun g=>aU (live:=kj) (cut:=kJ) (n:=500) (Eq.mp (by kernel_rfl) (h g))⟩
def ed(g:Nat→AV)(x5 x1 x0:AV)(H:Heap)(Q:AV→Heap→Prop):Prop :=
 doQ (Zh H 13 36 x0) fun v1 =>
 doQ (Zn 3 11 13 x5 v1) fun v2 =>
 br (some v2) (
 doQ (Zu H 36 x0 x5) fun v3 =>
 doQ (Zb H 21 v3) fun v4 =>
 doQ (Zu H 36 x1 x5) fun v5 =>
 doQ (Zb H 21 v5) fun v6 =>
 doQ (Zz 21 20 24 v4 v6) fun v7 =>
 br (some v7) (
 Q (.v (.bool false)) H) (
 doQ (Ze 3 15 1 x5) fun v8 =>
  GoL env Tryz.f133 0 eb [(5,v8),(1,x1),(0,x0)] H Q)) (
 Q (.v (.bool true)) H)
theorem iY(x5 x1 x0:AV)(H:Heap)(Q:AV→Heap→Prop)(h : ∀g,ed g x5 x1 x0 H Q):GoL env Tryz.f133 0 eb [(5,x5),(1,x1),(0,x0)] H Q:=cW fun g=>aU (live:=kj) (cut:=kJ) (n:=500) (Eq.mp (by kernel_rfl) (h g))
noncomputable def pn:Code:=(Tryz.f135.body).getD .skip
def uN:Nat→Option (List Nat):=fun i=>none
def uU:Nat→Bool:=fun i=>false
def gP(g:Nat→AV)(x0:AV)(H:Heap)(Q:AV→Heap→Prop):Prop :=
 doW (Zc H 1 35 x0) fun v1 H1 =>
 doQ (Zd 35 v1 0) fun v2 =>
 doQ (Zb H1 33 v2) fun v3 =>
 doW (Za true H1 5 182 [v3]) fun v4 H2 =>
 doQ (Zj 42 5 0 v4) fun v5 =>
 gQ v5 true (Zd 35 v1 1) fun v6 =>
 gQ v5 true (Zb H2 3 v6) fun v7 =>
 gQ v5 true (Zo 3 9 1 v7) fun v8 =>
 doQ (Zg v5 v8) fun v9 =>
 gQ v9 true (Zd 35 v1 1) fun v10 =>
 gQ v9 true (Zb H2 3 v10) fun v11 =>
 gQ v9 true (Zx 3 14 64 v11) fun v12 =>
 doQ (Zg v9 v12) fun v13 =>
 gQ v13 true (Zd 35 v1 0) fun v14 =>
 gQ v13 true (Zd 33 v14 1) fun v15 =>
 gQ v13 true (Zb H2 3 v15) fun v16 =>
 gQ v13 true (Zd 35 v1 1) fun v17 =>
 gQ v13 true (Zb H2 3 v17) fun v18 =>
 gQ v13 true (ZB 3 20 22 v16 v18) fun v19 =>
 gQ v13 true (Zw 3 23 1 v19) fun v20 =>
 gQ v13 true (Zx 3 24 1099511627776 v20) fun v21 =>
 doQ (Zg v13 v21) fun v22 =>
 doW (Za true H2 27 159 [v22]) fun v23 H3 =>
 Q v23 H3
theorem uI(x0:AV)(H:Heap)(Q:AV→Heap→Prop)(h : ∀g,gP g x0 H Q):GoL env Tryz.f135 0 [.code pn] [(0,x0)] H Q:=⟨fun g=>aU (live:=uN) (cut:=uU) (n:=500) (Eq.mp (by kernel_rfl) (h g))⟩
noncomputable def uj:Code:=(Tryz.f159.body).getD .skip
def AM:Nat→Option (List Nat):=fun i=>none
def A4:Nat→Bool:=fun i=>false
def uw(g:Nat→AV)(x0:AV)(H:Heap)(Q:AV→Heap→Prop):Prop :=
 br (some x0) (
 Q (.v (.int .i64 0)) H) (
 Q (.v (.int .i64 8)) H)
theorem Ad(x0:AV)(H:Heap)(Q:AV→Heap→Prop)(h : ∀g,uw g x0 H Q):GoL env Tryz.f159 0 [.code uj] [(0,x0)] H Q:=⟨fun g=>aU (live:=AM) (cut:=A4) (n:=500) (Eq.mp (by kernel_rfl) (h g))⟩
noncomputable def pk:Code:=(Tryz.f162.body).getD .skip
def uM:Nat→Option (List Nat):=fun i=>none
def uT:Nat→Bool:=fun i=>false
def l4(g:Nat→AV)(x0:AV)(H:Heap)(Q:AV→Heap→Prop):Prop :=
 doW (Zc H 1 31 x0) fun v1 H1 =>
 doQ (Zb H1 31 v1) fun v2 =>
 doW (Za true H1 6 91 [v2]) fun v3 H2 =>
 doQ (Zf 42 7 0 v3) fun v4 =>
 br (some v4) (
 Q (.tup [(.v (.slice none 0 0)),v3]) H2) (
 doQ (Zd 31 v1 0) fun v5 =>
 doQ (Zd 29 v5 0) fun v6 =>
 doQ (Zb H2 5 v6) fun v7 =>
 doW (Z7 H2 13 170 1 0 v7) fun v8 H3 =>
 doQ (Zd 31 v1 0) fun v9 =>
 doQ (Zd 29 v9 1) fun v10 =>
 doQ (Zb H3 27 v10) fun v11 =>
 doQ (Zv H3 17 27 3 v11) fun v12 =>
 doW (Za false H3 18 207 [v12,(.v (.int .i64 4))]) fun v13 H4 =>
 doW (cO env.P false H4 (Ref.mk 0 19 (Heap.gen H4 0 19) 0) (some 170) (some 170) v8 v13) fun v14 H5 =>
 doQ (Zd 31 v1 1) fun v15 =>
 doQ (Zb H5 5 v15) fun v16 =>
 doW (Z7 H5 22 170 1 0 v16) fun v17 H6 =>
 doW (Zt H6 23 170 170 v14 v17) fun v18 H7 =>
 Q (.tup [v18,(.v (.int .i64 0))]) H7)
theorem uH(x0:AV)(H:Heap)(Q:AV→Heap→Prop)(h : ∀g,l4 g x0 H Q):GoL env Tryz.f162 0 [.code pk] [(0,x0)] H Q:=⟨fun g=>aU (live:=uM) (cut:=uT) (n:=500) (Eq.mp (by kernel_rfl) (h g))⟩
noncomputable def q7:Code:=(Tryz.f169.body).getD .skip
def xy:Nat→Option (List Nat):=fun i=>none
def xQ:Nat→Bool:=fun i=>false
def rl(g:Nat→AV)(x0 x1:AV)(H:Heap)(Q:AV→Heap→Prop):Prop :=
 doW (Zc H 2 29 x0) fun v1 H1 =>
 doW (Zc H1 3 29 x1) fun v2 H2 =>
 doQ (Zd 29 v2 0) fun v3 =>
 doQ (Zb H2 5 v3) fun v4 =>
 doQ (Zd 29 v1 1) fun v5 =>
 doQ (Zb H2 27 v5) fun v6 =>
 doQ (eB env.P 29 (some [(0,v4),(1,v6)])) fun v7 =>
 doW (Zk H2 5 29) fun v8 H3 =>
 doW (Zp H3 29 v8 v7) fun v9 H4 =>
 doQ (Zd 29 v1 0) fun v10 =>
 doQ (Zb H4 5 v10) fun v11 =>
 doQ (Zd 29 v2 0) fun v12 =>
 doQ (Zb H4 5 v12) fun v13 =>
 doQ (Zn 5 12 14 v11 v13) fun v14 =>
 gQ v14 false (Zb H4 29 v1) fun v15 =>
 gQ v14 false (Zb H4 29 v8) fun v16 =>
 gQ v14 false (Zl 29 17 18 v15 v16) fun v17 =>
 gQ v14 false (ZF v17) fun v18 =>
 gQ v18 true (Zd 29 v1 1) fun v19 =>
 gQ v18 true (Zb H4 27 v19) fun v20 =>
 gQ v18 true (Zd 29 v2 1) fun v21 =>
 gQ v18 true (Zb H4 27 v21) fun v22 =>
 gQ v18 true (Zn 27 22 24 v20 v22) fun v23 =>
 gQ v14 false (Zg v18 v23) fun v24 =>
 doQ (Zm v14 v24) fun v25 =>
 Q v25 H4
theorem w8(x0 x1:AV)(H:Heap)(Q:AV→Heap→Prop)(h : ∀g,rl g x0 x1 H Q):GoL env Tryz.f169 0 [.code q7] [(0,x0),(1,x1)] H Q:=⟨fun g=>aU (live:=xy) (cut:=xQ) (n:=500) (Eq.mp (by kernel_rfl) (h g))⟩
noncomputable def gA:Code:=(Tryz.f173.body).getD .skip
def lJ:Nat→Option (List Nat):=fun i=>none
def lN:Nat→Bool:=fun i=>false
def cX(g:Nat→AV)(x0:AV)(H:Heap)(Q:AV→Heap→Prop):Prop :=
 doQ (ZP 36 3 x0) fun v1 =>
 br (some v1) (
 Q (.v (.slice none 0 0)) H) (
 doW (Z8 H 5 36 0) fun v2 H1 =>
 doW (Zt H1 7 36 36 v2 x0) fun v3 H2 =>
 Q v3 H2)
theorem lF(x0:AV)(H:Heap)(Q:AV→Heap→Prop)(h : ∀g,cX g x0 H Q):GoL env Tryz.f173 0 [.code gA] [(0,x0)] H Q:=⟨fun g=>aU (live:=lJ) (cut:=lN) (n:=500) (Eq.mp (by kernel_rfl) (h g))⟩
noncomputable def fD:Code:=(Tryz.f176.body).getD .skip
def kf:Nat→Option (List Nat):=fun i=>none
def kH:Nat→Bool:=fun i=>false
def fJ(g:Nat→AV)(x0 x1:AV)(H:Heap)(Q:AV→Heap→Prop):Prop :=
 doW (Za true H 7 214 [x0,x1]) fun v1 H1 =>
 doQ (Zo 3 7 0 v1) fun v2 =>
 Q v2 H1
theorem jU(x0 x1:AV)(H:Heap)(Q:AV→Heap→Prop)(h : ∀g,fJ g x0 x1 H Q):GoL env Tryz.f176 0 [.code fD] [(0,x0),(1,x1)] H Q:=⟨fun g=>aU (live:=kf) (cut:=kH) (n:=500) (Eq.mp (by kernel_rfl) (h g))⟩
noncomputable def uo:Code:=(Tryz.f182.body).getD .skip
def AN:Nat→Option (List Nat):=fun i=>none
def A5:Nat→Bool:=fun i=>false
def uy(g:Nat→AV)(x0:AV)(H:Heap)(Q:AV→Heap→Prop):Prop :=
 doW (Zc H 1 33 x0) fun v1 H1 =>
 doQ (Zd 33 v1 0) fun v2 =>
 doQ (Zb H1 31 v2) fun v3 =>
 doW (Za true H1 5 91 [v3]) fun v4 H2 =>
 doQ (Zj 42 5 0 v4) fun v5 =>
 gQ v5 true (Zd 33 v1 1) fun v6 =>
 gQ v5 true (Zb H2 3 v6) fun v7 =>
 gQ v5 true (Zo 3 9 1 v7) fun v8 =>
 doQ (Zg v5 v8) fun v9 =>
 gQ v9 true (Zd 33 v1 1) fun v10 =>
 gQ v9 true (Zb H2 3 v10) fun v11 =>
 gQ v9 true (Zx 3 14 1099511627776 v11) fun v12 =>
 doQ (Zg v9 v12) fun v13 =>
 doW (Za true H2 17 159 [v13]) fun v14 H3 =>
 Q v14 H3
theorem Ae(x0:AV)(H:Heap)(Q:AV→Heap→Prop)(h : ∀g,uy g x0 H Q):GoL env Tryz.f182 0 [.code uo] [(0,x0)] H Q:=⟨fun g=>aU (live:=AN) (cut:=A5) (n:=500) (Eq.mp (by kernel_rfl) (h g))⟩
noncomputable def nx:Code:=(Tryz.f185.body).getD .skip
def xv:Nat→Option (List Nat):=fun i=>none
def xO:Nat→Bool:=fun i=>false
def nD(g:Nat→AV)(H:Heap)(Q:AV→Heap→Prop):Prop :=
 doW (Zk H 0 29) fun v1 H1 =>
 doQ (Z5 29) fun v2 =>
 doW (Zp H1 29 v1 v2) fun v3 H2 =>
 doQ (Yc H2 v1 29) fun v4 =>
 Q v4 H2
theorem qL(H:Heap)(Q:AV→Heap→Prop)(h : ∀g,nD g  H Q):GoL env Tryz.f185 0 [.code nx] [] H Q:=⟨fun g=>aU (live:=xv) (cut:=xO) (n:=500) (Eq.mp (by kernel_rfl) (h g))⟩
noncomputable def qV:Code:=(Tryz.f187.body).getD .skip
def xj:Nat→Option (List Nat):=fun i=>none
def xH:Nat→Bool:=fun i=>false
def nC(g:Nat→AV)(x0:AV)(H:Heap)(Q:AV→Heap→Prop):Prop :=
 doQ (Zh H 6 36 x0) fun v1 =>
 doQ (Zq 3 6 64 v1) fun v2 =>
 br (some v2) (
 Q (.v (.int .i64 4)) H) (
 doW (Za true H 11 217 [x0,(.fn (.func 215) [] [])]) fun v3 H1 =>
 br (some v3) (
 Q (.v (.int .i64 8)) H1) (
 Q (.v (.int .i64 0)) H1))
theorem wV(x0:AV)(H:Heap)(Q:AV→Heap→Prop)(h : ∀g,nC g x0 H Q):GoL env Tryz.f187 0 [.code qV] [(0,x0)] H Q:=⟨fun g=>aU (live:=xj) (cut:=xH) (n:=500) (Eq.mp (by kernel_rfl) (h g))⟩
noncomputable def md:Code:=(Tryz.f207.body).getD .skip
noncomputable def mC:List Item:=(bM 2 400 [.code md]).getD []
def sj:Nat→Option (List Nat):=fun i=>cond (Nat.beq i 2) (some [5,0,4]) (none)
def sA:Nat→Bool:=fun i=>false
def o5(g:Nat→AV)(x0 x1:AV)(H:Heap)(Q:AV→Heap→Prop):Prop :=
 doQ (Zw 3 6 1 x1) fun v1 =>
  GoL env Tryz.f207 0 mC [(5,v1),(0,x0),(4,(.v (.slice none 0 0)))] H Q
theorem rR(x0 x1:AV)(H:Heap)(Q:AV→Heap→Prop)(h : ∀g,o5 g x0 x1 H Q):GoL env Tryz.f207 0 [.code md] [(0,x0),(1,x1)] H Q:=⟨fun g=>aU (live:=sj) (cut:=sA) (n:=500) (Eq.mp (by kernel_rfl) (h g))⟩
def bP(g:Nat→AV)(x5 x0 x4:AV)(H:Heap)(Q:AV→Heap→Prop):Prop :=
 doQ (Zo 3 8 0 x5) fun v1 =>
 br (some v1) (
 doQ (ZU 3 8 14 x5) fun v2 =>
 doQ (qBin env.P .shr 3 (Operand.tmp 13) (Operand.tmp 15) (some x0) (some v2)) fun v3 =>
 doQ (Zv H 17 3 5 v3) fun v4 =>
 doW (ZA H 18 170 1 0 v4) fun v5 H1 =>
 doW (Zt H1 19 170 170 x4 v5) fun v6 H2 =>
 doQ (Zw 3 10 1 x5) fun v7 =>
  GoL env Tryz.f207 0 mC [(5,v7),(0,x0),(4,v6)] H2 Q) (
 Q x4 H)
theorem cb(x5 x0 x4:AV)(H:Heap)(Q:AV→Heap→Prop)(h : ∀g,bP g x5 x0 x4 H Q):GoL env Tryz.f207 0 mC [(5,x5),(0,x0),(4,x4)] H Q:=cW fun g=>aU (live:=sj) (cut:=sA) (n:=500) (Eq.mp (by kernel_rfl) (h g))
noncomputable def yA:Code:=(Tryz.f208.body).getD .skip
def D7:Nat→Option (List Nat):=fun i=>none
def Ev:Nat→Bool:=fun i=>false
def tN(g:Nat→AV)(x0:AV)(H:Heap)(Q:AV→Heap→Prop):Prop :=
 doW (Zc H 1 33 x0) fun v1 H1 =>
 doQ (Zb H1 33 v1) fun v2 =>
 doW (Za true H1 8 182 [v2]) fun v3 H2 =>
 doQ (Zf 42 9 0 v3) fun v4 =>
 br (some v4) (
 Q (.tup [(.v (.slice none 0 0)),v3]) H2) (
 doQ (Zd 33 v1 0) fun v5 =>
 doQ (Zb H2 31 v5) fun v6 =>
 doW (Za true H2 15 162 [v6]) fun v7 H3 =>
 doQ (ZE v7 0) fun v8 =>
 doQ (ZE v7 1) fun v9 =>
 doQ (Zd 33 v1 1) fun v10 =>
 doQ (Zb H3 3 v10) fun v11 =>
 doW (Za true H3 21 207 [v11,(.v (.int .i64 7))]) fun v12 H4 =>
 doW (Zt H4 22 170 170 v8 v12) fun v13 H5 =>
 Q (.tup [v13,v9]) H5)
theorem DE(x0:AV)(H:Heap)(Q:AV→Heap→Prop)(h : ∀g,tN g x0 H Q):GoL env Tryz.f208 0 [.code yA] [(0,x0)] H Q:=⟨fun g=>aU (live:=D7) (cut:=Ev) (n:=500) (Eq.mp (by kernel_rfl) (h g))⟩
noncomputable def pR:Code:=(Tryz.f210.body).getD .skip
noncomputable def lz:List Item:=(bM 6 400 [.code pR]).getD []
def tV:Nat→Option (List Nat):=fun i=>cond (Nat.beq i 6) (some [15,5,13,14]) (none)
def uf:Nat→Bool:=fun i=>false
def p8(g:Nat→AV)(x0:AV)(H:Heap)(Q:AV→Heap→Prop):Prop :=
 doW (Za true H 9 187 [x0]) fun v1 H1 =>
 doQ (Zf 42 10 0 v1) fun v2 =>
 br (some v2) (
 Q (.tup [(.v (.slice none 0 0)),v1]) H1) (
 doQ (Zh H1 14 36 x0) fun v3 =>
  GoL env Tryz.f210 0 lz [(15,(.v (.int .i64 0))),(5,(.v (.slice none 0 0))),(13,x0),(14,v3)] H1 Q)
theorem z9(x0:AV)(H:Heap)(Q:AV→Heap→Prop)(h : ∀g,p8 g x0 H Q):GoL env Tryz.f210 0 [.code pR] [(0,x0)] H Q:=⟨fun g=>aU (live:=tV) (cut:=uf) (n:=500) (Eq.mp (by kernel_rfl) (h g))⟩
def lA(g:Nat→AV)(x15 x5 x13 x14:AV)(H:Heap)(Q:AV→Heap→Prop):Prop :=
 doQ (Zn 3 15 14 x15 x14) fun v1 =>
 br (some v1) (
 doQ (Zu H 36 x13 x15) fun v2 =>
 doQ (Zb H 21 v2) fun v3 =>
 doQ (qBin env.P .shr 21 (Operand.tmp 20) (.const (.int .u64 24)) (some v3) (some (.v (.int .u64 24)))) fun v4 =>
 doQ (Zv H 22 21 5 v4) fun v5 =>
 doQ (Z9 21 23 v3) fun v6 =>
 doQ (Zv H 25 21 5 v6) fun v7 =>
 doQ (ZT 21 26 v3) fun v8 =>
 doQ (Zv H 28 21 5 v8) fun v9 =>
 doQ (Zv H 30 21 5 v3) fun v10 =>
 doW (gZ env.P false true H (Ref.mk 0 31 (Heap.gen H 0 31) 0) 170 4 (some [(0,v5),(1,v7),(2,v9),(3,v10)])) fun v11 H1 =>
 doW (Zt H1 32 170 170 x5 v11) fun v12 H2 =>
 doQ (Ze 3 15 1 x15) fun v13 =>
  GoL env Tryz.f210 0 lz [(15,v13),(5,v12),(13,x13),(14,x14)] H2 Q) (
 Q (.tup [x5,(.v (.int .i64 0))]) H)
theorem qK(x15 x5 x13 x14:AV)(H:Heap)(Q:AV→Heap→Prop)(h : ∀g,lA g x15 x5 x13 x14 H Q):GoL env Tryz.f210 0 lz [(15,x15),(5,x5),(13,x13),(14,x14)] H Q:=cW fun g=>aU (live:=tV) (cut:=uf) (n:=500) (Eq.mp (by kernel_rfl) (h g))
noncomputable def ej:Code:=(Tryz.f214.body).getD .skip
noncomputable def cJ:List Item:=(bM 2 400 [.code ej]).getD []
def gq:Nat→Option (List Nat):=fun i=>cond (Nat.beq i 2) (some [8,0,1,7]) (none)
def gx:Nat→Bool:=fun i=>false
def gB(g:Nat→AV)(x0 x1:AV)(H:Heap)(Q:AV→Heap→Prop):Prop :=
 doQ (Zh H 7 36 x0) fun v1 =>
  GoL env Tryz.f214 0 cJ [(8,(.v (.int .i64 0))),(0,x0),(1,x1),(7,v1)] H Q
theorem lD(x0 x1:AV)(H:Heap)(Q:AV→Heap→Prop)(h : ∀g,gB g x0 x1 H Q):GoL env Tryz.f214 0 [.code ej] [(0,x0),(1,x1)] H Q:=⟨fun g=>aU (live:=gq) (cut:=gx) (n:=500) (Eq.mp (by kernel_rfl) (h g))⟩
def cL(g:Nat→AV)(x8 x0 x1 x7:AV)(H:Heap)(Q:AV→Heap→Prop):Prop :=
 doQ (Zn 3 8 7 x8 x7) fun v1 =>
 br (some v1) (
 doQ (Zu H 36 x0 x8) fun v2 =>
 doQ (Zb H 21 v2) fun v3 =>
 doQ (Zl 21 11 15 x1 v3) fun v4 =>
 br (some v4) (
 Q x8 H) (
 doQ (Ze 3 8 1 x8) fun v5 =>
  GoL env Tryz.f214 0 cJ [(8,v5),(0,x0),(1,x1),(7,x7)] H Q)) (
 Q (.v (.int .i64 (-1))) H)
theorem fQ(x8 x0 x1 x7:AV)(H:Heap)(Q:AV→Heap→Prop)(h : ∀g,cL g x8 x0 x1 x7 H Q):GoL env Tryz.f214 0 cJ [(8,x8),(0,x0),(1,x1),(7,x7)] H Q:=cW fun g=>aU (live:=gq) (cut:=gx) (n:=500) (Eq.mp (by kernel_rfl) (h g))
noncomputable def ph:Code:=(Tryz.f215.body).getD .skip
def uK:Nat→Option (List Nat):=fun i=>none
def uR:Nat→Bool:=fun i=>false
def lZ(g:Nat→AV)(x0:AV)(H:Heap)(Q:AV→Heap→Prop):Prop :=
 doQ (qBin env.P .neq 21 (Operand.tmp 3) (.const (.int .i32 (-1))) (some x0) (some (.v (.int .i32 (-1))))) fun v1 =>
 gQ v1 true (ZF x0) fun v2 =>
 gW v1 true H (Za true H 7 216 [v2]) fun v3 H1 =>
 gQ v1 true (ZC v3) fun v4 =>
 doQ (Zg v1 v4) fun v5 =>
 Q v5 H1
theorem uD(x0:AV)(H:Heap)(Q:AV→Heap→Prop)(h : ∀g,lZ g x0 H Q):GoL env Tryz.f215 0 [.code ph] [(0,x0)] H Q:=⟨fun g=>aU (live:=uK) (cut:=uR) (n:=500) (Eq.mp (by kernel_rfl) (h g))⟩
noncomputable def jj:Code:=(Tryz.f216.body).getD .skip
def np:Nat→Option (List Nat):=fun i=>none
def nw:Nat→Bool:=fun i=>false
def jk(g:Nat→AV)(x0:AV)(H:Heap)(Q:AV→Heap→Prop):Prop :=
 doQ (qBin env.P .leq 21 (.const (.int .i32 0)) (Operand.tmp 4) (some (.v (.int .i32 0))) (some x0)) fun v1 =>
 gQ v1 true (ZF x0) fun v2 =>
 gQ v1 true (qBin env.P .lss 21 (Operand.tmp 7) (.const (.int .i32 55296)) (some v2) (some (.v (.int .i32 55296)))) fun v3 =>
 doQ (Zg v1 v3) fun v4 =>
 br (some v4) (
 Q (.v (.bool true)) H) (
 doQ (qBin env.P .lss 21 (.const (.int .i32 57343)) (Operand.tmp 11) (some (.v (.int .i32 57343))) (some x0)) fun v5 =>
 gQ v5 true (ZF x0) fun v6 =>
 gQ v5 true (qBin env.P .leq 21 (Operand.tmp 14) (.const (.int .i32 1114111)) (some v6) (some (.v (.int .i32 1114111)))) fun v7 =>
 doQ (Zg v5 v7) fun v8 =>
 br (some v8) (
 Q (.v (.bool true)) H) (
 Q (.v (.bool false)) H))
theorem nf(x0:AV)(H:Heap)(Q:AV→Heap→Prop)(h : ∀g,jk g x0 H Q):GoL env Tryz.f216 0 [.code jj] [(0,x0)] H Q:=⟨fun g=>aU (live:=np) (cut:=nw) (n:=500) (Eq.mp (by kernel_rfl) (h g))⟩
noncomputable def eR:Code:=(Tryz.f217.body).getD .skip
def jb:Nat→Option (List Nat):=fun i=>none
def jh:Nat→Bool:=fun i=>false
def eT(g:Nat→AV)(x0 x1:AV)(H:Heap)(Q:AV→Heap→Prop):Prop :=
 doW (Za true H 7 229 [x0,x1]) fun v1 H1 =>
 doQ (Zo 3 7 0 v1) fun v2 =>
 Q v2 H1
theorem iW(x0 x1:AV)(H:Heap)(Q:AV→Heap→Prop)(h : ∀g,eT g x0 x1 H Q):GoL env Tryz.f217 0 [.code eR] [(0,x0),(1,x1)] H Q:=⟨fun g=>aU (live:=jb) (cut:=jh) (n:=500) (Eq.mp (by kernel_rfl) (h g))⟩
noncomputable def ek:Code:=(Tryz.f226.body).getD .skip
noncomputable def cK:List Item:=(bM 4 400 [.code ek]).getD []
def gw:Nat→Option (List Nat):=fun i=>cond (Nat.beq i 4) (some [13,1,0,12]) (none)
def gy:Nat→Bool:=fun i=>false
def eu(g:Nat→AV)(x0 x1:AV)(H:Heap)(Q:AV→Heap→Prop):Prop :=
 doQ (Zh H 7 36 x0) fun v1 =>
 doQ (Zh H 9 36 x1) fun v2 =>
 doQ (Zz 3 7 9 v1 v2) fun v3 =>
 br (some v3) (
 Q (.v (.bool false)) H) (
 doQ (Zh H 12 36 x0) fun v4 =>
  GoL env Tryz.f226 0 cK [(13,(.v (.int .i64 0))),(1,x1),(0,x0),(12,v4)] H Q)
theorem lE(x0 x1:AV)(H:Heap)(Q:AV→Heap→Prop)(h : ∀g,eu g x0 x1 H Q):GoL env Tryz.f226 0 [.code ek] [(0,x0),(1,x1)] H Q:=⟨fun g=>aU (live:=gw) (cut:=gy) (n:=500) (Eq.mp (by kernel_rfl) (h g))⟩
def cM(g:Nat→AV)(x13 x1 x0 x12:AV)(H:Heap)(Q:AV→Heap→Prop):Prop :=
 doQ (Zn 3 13 12 x13 x12) fun v1 =>
 br (some v1) (
 doQ (Zu H 36 x0 x13) fun v2 =>
 doQ (Zb H 21 v2) fun v3 =>
 doQ (Zu H 36 x1 x13) fun v4 =>
 doQ (Zb H 21 v4) fun v5 =>
 doQ (Zz 21 19 23 v3 v5) fun v6 =>
 br (some v6) (
 Q (.v (.bool false)) H) (
 doQ (Ze 3 13 1 x13) fun v7 =>
  GoL env Tryz.f226 0 cK [(13,v7),(1,x1),(0,x0),(12,x12)] H Q)) (
 Q (.v (.bool true)) H)
theorem fR(x13 x1 x0 x12:AV)(H:Heap)(Q:AV→Heap→Prop)(h : ∀g,cM g x13 x1 x0 x12 H Q):GoL env Tryz.f226 0 cK [(13,x13),(1,x1),(0,x0),(12,x12)] H Q:=cW fun g=>aU (live:=gw) (cut:=gy) (n:=500) (Eq.mp (by kernel_rfl) (h g))
noncomputable def Bb:Code:=(Tryz.f228.body).getD .skip
def Gf:Nat→Option (List Nat):=fun i=>none
def GX:Nat→Bool:=fun i=>false
def qj(g:Nat→AV)(x0 x1:AV)(H:Heap)(Q:AV→Heap→Prop):Prop :=
 doW (Zc H 2 35 x0) fun v1 H1 =>
 doW (Zk H1 4 33) fun v2 H2 =>
 doQ (Zb H2 35 v1) fun v3 =>
 doW (Za true H2 8 135 [v3]) fun v4 H3 =>
 doQ (Zf 42 9 0 v4) fun v5 =>
 br (some v5) (
 doQ (Z5 33) fun v6 =>
 doW (Zp H3 33 v2 v6) fun v7 H4 =>
 doQ (Yc H4 v2 33) fun v8 =>
 Q (.tup [v8,v4]) H4) (
 doQ (Zs 3 13 0 x1) fun v6 =>
 gQ v6 false (ZF x1) fun v7 =>
 gQ v6 false (Zd 35 v1 1) fun v8 =>
 gQ v6 false (Zb H3 3 v8) fun v9 =>
 gQ v6 false (Z3 3 16 18 v7 v9) fun v10 =>
 doQ (Zm v6 v10) fun v11 =>
 br (some v11) (
 doQ (Z5 33) fun v12 =>
 doW (Zp H3 33 v2 v12) fun v13 H4 =>
 doQ (Yc H4 v2 33) fun v14 =>
 Q (.tup [v14,(.v (.int .i64 2))]) H4) (
 doQ (Zd 35 v1 0) fun v12 =>
 doQ (Zb H3 33 v12) fun v13 =>
 doW (Za true H3 25 239 [v13,x1]) fun v14 H4 =>
 doW (Zp H4 33 v2 v14) fun v15 H5 =>
 doQ (Yc H5 v2 33) fun v16 =>
 Q (.tup [v16,(.v (.int .i64 0))]) H5))
theorem EN(x0 x1:AV)(H:Heap)(Q:AV→Heap→Prop)(h : ∀g,qj g x0 x1 H Q):GoL env Tryz.f228 0 [.code Bb] [(0,x0),(1,x1)] H Q:=⟨fun g=>aU (live:=Gf) (cut:=GX) (n:=500) (Eq.mp (by kernel_rfl) (h g))⟩
noncomputable def dx:Code:=(Tryz.f229.body).getD .skip
noncomputable def cw:List Item:=(bM 2 400 [.code dx]).getD []
def fx:Nat→Option (List Nat):=fun i=>cond (Nat.beq i 2) (some [8,0,1,7]) (none)
def fC:Nat→Bool:=fun i=>false
def fI(g:Nat→AV)(x0 x1:AV)(H:Heap)(Q:AV→Heap→Prop):Prop :=
 doQ (Zh H 7 36 x0) fun v1 =>
  GoL env Tryz.f229 0 cw [(8,(.v (.int .i64 0))),(0,x0),(1,x1),(7,v1)] H Q
theorem jT(x0 x1:AV)(H:Heap)(Q:AV→Heap→Prop)(h : ∀g,fI g x0 x1 H Q):GoL env Tryz.f229 0 [.code dx] [(0,x0),(1,x1)] H Q:=⟨fun g=>aU (live:=fx) (cut:=fC) (n:=500) (Eq.mp (by kernel_rfl) (h g))⟩
def cx(g:Nat→AV)(x8 x0 x1 x7:AV)(H:Heap)(Q:AV→Heap→Prop):Prop :=
 doQ (Zn 3 8 7 x8 x7) fun v1 =>
 br (some v1) (
 doQ (Zu H 36 x0 x8) fun v2 =>
 doQ (Zb H 21 v2) fun v3 =>
 doW (ZD H 16 x1 v3) fun v4 H1 =>
 br (some v4) (
 Q x8 H1) (
 doQ (Ze 3 8 1 x8) fun v5 =>
  GoL env Tryz.f229 0 cw [(8,v5),(0,x0),(1,x1),(7,x7)] H1 Q)) (
 Q (.v (.int .i64 (-1))) H)
theorem eW(x8 x0 x1 x7:AV)(H:Heap)(Q:AV→Heap→Prop)(h : ∀g,cx g x8 x0 x1 x7 H Q):GoL env Tryz.f229 0 cw [(8,x8),(0,x0),(1,x1),(7,x7)] H Q:=cW fun g=>aU (live:=fx) (cut:=fC) (n:=500) (Eq.mp (by kernel_rfl) (h g))
noncomputable def mH:Code:=(Tryz.f231.body).getD .skip
def Gd:Nat→Option (List Nat):=fun i=>none
def GV:Nat→Bool:=fun i=>false
def kR(g:Nat→AV)(x0:AV)(H:Heap)(Q:AV→Heap→Prop):Prop :=
 doW (Zc H 1 38 x0) fun v1 H1 =>
 doW (Zk H1 2 249) fun v2 H2 =>
 doQ (Zb H2 38 v1) fun v3 =>
 doW (Za true H2 7 70 [v3]) fun v4 H3 =>
 doQ (Zf 42 8 0 v4) fun v5 =>
 br (some v5) (
 doQ (Z5 249) fun v6 =>
 doW (Zp H3 249 v2 v6) fun v7 H4 =>
 doQ (Yc H4 v2 249) fun v8 =>
 Q (.tup [v8,v4]) H4) (
 doQ (Zd 38 v1 3) fun v6 =>
 doQ (Zb H3 35 v6) fun v7 =>
 doQ (Zd 38 v1 4) fun v8 =>
 doQ (Zb H3 33 v8) fun v9 =>
 doQ (Zd 38 v1 6) fun v10 =>
 doQ (Zb H3 36 v10) fun v11 =>
 doW (Za false H3 18 173 [v11]) fun v12 H4 =>
 doQ (eB env.P 249 (some [(0,v7),(1,v9),(2,v12)])) fun v13 =>
 doW (Zk H4 5 249) fun v14 H5 =>
 doW (Zp H5 249 v14 v13) fun v15 H6 =>
 doQ (Zd 38 v1 0) fun v16 =>
 doQ (Zb H6 5 v16) fun v17 =>
 doQ (qBin env.P .neq 5 (Operand.tmp 21) (.const (.int .u8 1)) (some v17) (some (a8 1))) fun v18 =>
 gQ v18 false (Zb H6 249 v14) fun v19 =>
 gW v18 false H6 (Za true H6 25 240 [v19]) fun v20 H7 =>
 gQ v18 false (Zf 42 25 0 v20) fun v21 =>
 doQ (Zm v18 v21) fun v22 =>
 br (some v22) (
 doQ (Z5 249) fun v23 =>
 doW (Zp H7 249 v2 v23) fun v24 H8 =>
 doQ (Yc H8 v2 249) fun v25 =>
 Q (.tup [v25,(.v (.int .i64 2))]) H8) (
 doQ (Zb H7 249 v14) fun v23 =>
 doW (Zp H7 249 v2 v23) fun v24 H8 =>
 doQ (Yc H8 v2 249) fun v25 =>
 Q (.tup [v25,(.v (.int .i64 0))]) H8))
theorem nI(x0:AV)(H:Heap)(Q:AV→Heap→Prop)(h : ∀g,kR g x0 H Q):GoL env Tryz.f231 0 [.code mH] [(0,x0)] H Q:=⟨fun g=>aU (live:=Gd) (cut:=GV) (n:=500) (Eq.mp (by kernel_rfl) (h g))⟩
noncomputable def wO:Code:=(Tryz.f239.body).getD .skip
def BW:Nat→Option (List Nat):=fun i=>none
def Cl:Nat→Bool:=fun i=>false
def wS(g:Nat→AV)(x0 x1:AV)(H:Heap)(Q:AV→Heap→Prop):Prop :=
 doW (Zc H 2 33 x0) fun v1 H1 =>
 doW (Zk H1 4 33) fun v2 H2 =>
 doQ (Zd 33 v1 1) fun v3 =>
 doQ (Zb H2 3 v3) fun v4 =>
 doQ (ZB 3 6 7 v4 x1) fun v5 =>
 doQ (Zd 33 v1 1) fun v6 =>
 doW (Zp H2 3 v6 v5) fun v7 H3 =>
 doQ (Zb H3 33 v1) fun v8 =>
 doW (Zp H3 33 v2 v8) fun v9 H4 =>
 doQ (Yc H4 v2 33) fun v10 =>
 Q v10 H4
theorem Bp(x0 x1:AV)(H:Heap)(Q:AV→Heap→Prop)(h : ∀g,wS g x0 x1 H Q):GoL env Tryz.f239 0 [.code wO] [(0,x0),(1,x1)] H Q:=⟨fun g=>aU (live:=BW) (cut:=Cl) (n:=500) (Eq.mp (by kernel_rfl) (h g))⟩
noncomputable def ui:Code:=(Tryz.f240.body).getD .skip
def AK:Nat→Option (List Nat):=fun i=>none
def A2:Nat→Bool:=fun i=>false
def p9(g:Nat→AV)(x0:AV)(H:Heap)(Q:AV→Heap→Prop):Prop :=
 doW (Zc H 1 249 x0) fun v1 H1 =>
 doQ (Zd 249 v1 1) fun v2 =>
 doQ (Zb H1 33 v2) fun v3 =>
 doQ (Z5 33) fun v4 =>
 doQ (Zl 33 5 6 v3 v4) fun v5 =>
 gQ v5 false (Zd 249 v1 1) fun v6 =>
 gQ v5 false (Zb H1 33 v6) fun v7 =>
 gW v5 false H1 (Za true H1 11 182 [v7]) fun v8 H2 =>
 gQ v5 false (Zj 42 11 0 v8) fun v9 =>
 gQ v5 false (ZF v9) fun v10 =>
 gQ v10 true (Zd 249 v1 1) fun v11 =>
 gQ v10 true (Zd 33 v11 1) fun v12 =>
 gQ v10 true (Zb H2 3 v12) fun v13 =>
 gQ v10 true (Zd 249 v1 0) fun v14 =>
 gQ v10 true (Zd 35 v14 0) fun v15 =>
 gQ v10 true (Zd 33 v15 1) fun v16 =>
 gQ v10 true (Zb H2 3 v16) fun v17 =>
 gQ v10 true (Zn 3 16 20 v13 v17) fun v18 =>
 gQ v5 false (Zg v10 v18) fun v19 =>
 doQ (Zm v5 v19) fun v20 =>
 doQ (Zd 249 v1 0) fun v21 =>
 doQ (Zb H2 35 v21) fun v22 =>
 doW (Za true H2 26 135 [v22]) fun v23 H3 =>
 doQ (Zf 42 26 0 v23) fun v24 =>
 gQ v24 false (ZF v20) fun v25 =>
 gQ v24 false (ZC v25) fun v26 =>
 doQ (Zm v24 v26) fun v27 =>
 gQ v27 false (Zd 249 v1 2) fun v28 =>
 gQ v27 false (Zb H3 36 v28) fun v29 =>
 gQ v27 false (Zh H3 35 36 v29) fun v30 =>
 gQ v27 false (Zd 249 v1 0) fun v31 =>
 gQ v27 false (Zd 35 v31 1) fun v32 =>
 gQ v27 false (Zb H3 3 v32) fun v33 =>
 gQ v27 false (Zz 3 35 38 v30 v33) fun v34 =>
 doQ (Zm v27 v34) fun v35 =>
 gQ v35 false (Zd 249 v1 2) fun v36 =>
 gQ v35 false (Zb H3 36 v36) fun v37 =>
 gW v35 false H3 (Za true H3 44 187 [v37]) fun v38 H4 =>
 gQ v35 false (Zf 42 44 0 v38) fun v39 =>
 doQ (Zm v35 v39) fun v40 =>
 br (some v40) (
 Q (.v (.int .i64 8)) H4) (
 Q (.v (.int .i64 0)) H4)
theorem Aa(x0:AV)(H:Heap)(Q:AV→Heap→Prop)(h : ∀g,p9 g x0 H Q):GoL env Tryz.f240 0 [.code ui] [(0,x0)] H Q:=⟨fun g=>aU (live:=AK) (cut:=A2) (n:=500) (Eq.mp (by kernel_rfl) (h g))⟩
noncomputable def yB:Code:=(Tryz.f251.body).getD .skip
def D8:Nat→Option (List Nat):=fun i=>none
def Ew:Nat→Bool:=fun i=>false
def mi(g:Nat→AV)(x0 x1:AV)(H:Heap)(Q:AV→Heap→Prop):Prop :=
 doW (Zc H 2 35 x0) fun v1 H1 =>
 doW (Zc H1 3 33 x1) fun v2 H2 =>
 doQ (Zd 33 v2 1) fun v3 =>
 doQ (Zb H2 3 v3) fun v4 =>
 doQ (Zd 35 v1 0) fun v5 =>
 doQ (Zd 33 v5 1) fun v6 =>
 doQ (Zb H2 3 v6) fun v7 =>
 doQ (ZQ 3 8 11 v4 v7) fun v8 =>
 doQ (Zb H2 35 v1) fun v9 =>
 doW (Za false H2 14 135 [v9]) fun v10 H3 =>
 doQ (Zf 42 14 0 v10) fun v11 =>
 gQ v11 false (ZF v8) fun v12 =>
 gQ v11 false (Zs 3 17 0 v12) fun v13 =>
 doQ (Zm v11 v13) fun v14 =>
 gQ v14 false (ZF v8) fun v15 =>
 gQ v14 false (Zd 35 v1 1) fun v16 =>
 gQ v14 false (Zb H3 3 v16) fun v17 =>
 gQ v14 false (Z3 3 21 23 v15 v17) fun v18 =>
 doQ (Zm v14 v18) fun v19 =>
 gQ v19 false (Zb H3 33 v2) fun v20 =>
 gQ v19 false (Zd 35 v1 0) fun v21 =>
 gQ v19 false (Zb H3 33 v21) fun v22 =>
 gQ v19 false (ZF v8) fun v23 =>
 gW v19 false H3 (Za false H3 31 239 [v22,v23]) fun v24 H4 =>
 gQ v19 false (Zz 33 27 31 v20 v24) fun v25 =>
 doQ (Zm v19 v25) fun v26 =>
 br (some v26) (
 Q (.tup [(.v (.int .i64 0)),(.v (.bool false))]) H4) (
 Q (.tup [v8,(.v (.bool true))]) H4)
theorem DF(x0 x1:AV)(H:Heap)(Q:AV→Heap→Prop)(h : ∀g,mi g x0 x1 H Q):GoL env Tryz.f251 0 [.code yB] [(0,x0),(1,x1)] H Q:=⟨fun g=>aU (live:=D8) (cut:=Ew) (n:=500) (Eq.mp (by kernel_rfl) (h g))⟩
end Go.Proofs.YtmkmimgokagimaaGreat
