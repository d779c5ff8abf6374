/-
  What is to be shown of each function, computed from its code. No statement of a seat is proved here.
-/
import Derived.Test.YtmkmimgokagimaaGreatLeTy
set_option linter.unusedVariables false
set_option maxRecDepth 1000000
namespace Go.Proofs.YtmkmimgokagimaaGreat
open Go.Ab
noncomputable def pR:Code:=(Tryz.f47.body).getD .skip
def A1:Nat→Option (List Nat):=fun i=>none
def Bj:Nat→Bool:=fun i=>false
def p9(g:Nat→AV)(x0 x1:AV)(H:Heap)(Q:AV→Heap→Prop):Prop :=
 doW (Zc H 2 29 x0) fun v1 H1 =>
 doW (Zc H1 3 29 x1) fun v2 H2 =>
 doQ (Zd 29 v1 0) fun v3 =>
 doQ (Zb H2 5 v3) fun v4 =>
 doQ (Zd 29 v2 0) fun v5 =>
 doQ (Zb H2 5 v5) fun v6 =>
 doQ (ZM 5 6 8 v4 v6) fun v7 =>
 gQ v7 true (Zd 29 v1 1) fun v8 =>
 gQ v7 true (Zb H2 27 v8) fun v9 =>
 gQ v7 true (Zd 29 v2 1) fun v10 =>
 gQ v7 true (Zb H2 27 v10) fun v11 =>
 gQ v7 true (qBin env.P .andNot 27 (Operand.tmp 12) (Operand.tmp 14) (some v9) (some v11)) fun v12 =>
 gQ v7 true (qBin env.P .eql 27 (Operand.tmp 15) (.const (.int .u32 0)) (some v12) (some (a32 0))) fun v13 =>
 doQ (Zg v7 v13) fun v14 =>
 Q v14 H2
theorem tO(x0 x1:AV)(H:Heap)(Q:AV→Heap→Prop)(h : ∀g,p9 g x0 x1 H Q):GoL env Tryz.f47 0 [.code pR] [(0,x0),(1,x1)] H Q:=⟨fun g=>aU (live:=A1) (cut:=Bj) (n:=500) (Eq.mp (by kernel_rfl) (h g))⟩
noncomputable def nv:Code:=(Tryz.f76.body).getD .skip
def xF:Nat→Option (List Nat):=fun i=>none
def xX:Nat→Bool:=fun i=>false
def nB(g:Nat→AV)(x0:AV)(H:Heap)(Q:AV→Heap→Prop):Prop :=
 doW (Zc H 1 29 x0) fun v1 H1 =>
 doQ (Zd 29 v1 0) fun v2 =>
 doQ (Zb H1 5 v2) fun v3 =>
 doQ (qBin env.P .gtr 5 (Operand.tmp 4) (.const (.int .u8 15)) (some v3) (some (a8 15))) fun v4 =>
 br (some v4) (
 Q (.v (.int .i64 8)) H1) (
 Q (.v (.int .i64 0)) H1)
theorem qG(x0:AV)(H:Heap)(Q:AV→Heap→Prop)(h : ∀g,nB g x0 H Q):GoL env Tryz.f76 0 [.code nv] [(0,x0)] H Q:=⟨fun g=>aU (live:=xF) (cut:=xX) (n:=500) (Eq.mp (by kernel_rfl) (h g))⟩
noncomputable def m5:Code:=(Tryz.f91.body).getD .skip
def sn:Nat→Option (List Nat):=fun i=>none
def sF:Nat→Bool:=fun i=>false
def m7(g:Nat→AV)(x0:AV)(H:Heap)(Q:AV→Heap→Prop):Prop :=
 doW (Zc H 1 31 x0) fun v1 H1 =>
 doQ (Zd 31 v1 0) fun v2 =>
 doQ (Zb H1 29 v2) fun v3 =>
 doW (Za true H1 5 76 [v3]) fun v4 H2 =>
 doQ (Zk 42 5 0 v4) fun v5 =>
 gQ v5 true (Zd 31 v1 1) fun v6 =>
 gQ v5 true (Zb H2 5 v6) fun v7 =>
 gQ v5 true (qBin env.P .lss 5 (Operand.tmp 9) (.const (.int .u8 8)) (some v7) (some (a8 8))) fun v8 =>
 doQ (Zg v5 v8) fun v9 =>
 doW (Za true H2 12 159 [v9]) fun v10 H3 =>
 Q v10 H3
theorem rO(x0:AV)(H:Heap)(Q:AV→Heap→Prop)(h : ∀g,m7 g x0 H Q):GoL env Tryz.f91 0 [.code m5] [(0,x0)] H Q:=⟨fun g=>aU (live:=sn) (cut:=sF) (n:=500) (Eq.mp (by kernel_rfl) (h g))⟩
noncomputable def pb:Code:=(Tryz.f135.body).getD .skip
def uN:Nat→Option (List Nat):=fun i=>none
def uV:Nat→Bool:=fun i=>false
def gV(g:Nat→AV)(x0:AV)(H:Heap)(Q:AV→Heap→Prop):Prop :=
 doW (Zc H 1 35 x0) fun v1 H1 =>
 doQ (Zd 35 v1 0) fun v2 =>
 doQ (Zb H1 33 v2) fun v3 =>
 doW (Za true H1 5 182 [v3]) fun v4 H2 =>
 doQ (Zk 42 5 0 v4) fun v5 =>
 gQ v5 true (Zd 35 v1 1) fun v6 =>
 gQ v5 true (Zb H2 3 v6) fun v7 =>
 gQ v5 true (Zm 3 9 1 v7) fun v8 =>
 doQ (Zg v5 v8) fun v9 =>
 gQ v9 true (Zd 35 v1 1) fun v10 =>
 gQ v9 true (Zb H2 3 v10) fun v11 =>
 gQ v9 true (Zx 3 14 64 v11) fun v12 =>
 doQ (Zg v9 v12) fun v13 =>
 gQ v13 true (Zd 35 v1 0) fun v14 =>
 gQ v13 true (Zd 33 v14 1) fun v15 =>
 gQ v13 true (Zb H2 3 v15) fun v16 =>
 gQ v13 true (Zd 35 v1 1) fun v17 =>
 gQ v13 true (Zb H2 3 v17) fun v18 =>
 gQ v13 true (Zz 3 20 22 v16 v18) fun v19 =>
 gQ v13 true (Zv 3 23 1 v19) fun v20 =>
 gQ v13 true (Zx 3 24 1099511627776 v20) fun v21 =>
 doQ (Zg v13 v21) fun v22 =>
 doW (Za true H2 27 159 [v22]) fun v23 H3 =>
 Q v23 H3
theorem uH(x0:AV)(H:Heap)(Q:AV→Heap→Prop)(h : ∀g,gV g x0 H Q):GoL env Tryz.f135 0 [.code pb] [(0,x0)] H Q:=⟨fun g=>aU (live:=uN) (cut:=uV) (n:=500) (Eq.mp (by kernel_rfl) (h g))⟩
noncomputable def ui:Code:=(Tryz.f159.body).getD .skip
def A2:Nat→Option (List Nat):=fun i=>none
def Bk:Nat→Bool:=fun i=>false
def ur(g:Nat→AV)(x0:AV)(H:Heap)(Q:AV→Heap→Prop):Prop :=
 br (some x0) (
 Q (.v (.int .i64 0)) H) (
 Q (.v (.int .i64 8)) H)
theorem Ar(x0:AV)(H:Heap)(Q:AV→Heap→Prop)(h : ∀g,ur g x0 H Q):GoL env Tryz.f159 0 [.code ui] [(0,x0)] H Q:=⟨fun g=>aU (live:=A2) (cut:=Bk) (n:=500) (Eq.mp (by kernel_rfl) (h g))⟩
noncomputable def pa:Code:=(Tryz.f162.body).getD .skip
def uM:Nat→Option (List Nat):=fun i=>none
def uU:Nat→Bool:=fun i=>false
def lX(g:Nat→AV)(x0:AV)(H:Heap)(Q:AV→Heap→Prop):Prop :=
 doW (Zc H 1 31 x0) fun v1 H1 =>
 doQ (Zb H1 31 v1) fun v2 =>
 doW (Za true H1 6 91 [v2]) fun v3 H2 =>
 doQ (Ze 42 7 0 v3) fun v4 =>
 br (some v4) (
 Q (.tup [(.v (.slice none 0 0)),v3]) H2) (
 doQ (Zd 31 v1 0) fun v5 =>
 doQ (Zd 29 v5 0) fun v6 =>
 doQ (Zb H2 5 v6) fun v7 =>
 doW (iB env.P true false H2 (Ref.mk 0 13 (Heap.gen H2 0 13) 0) 170 1 (some [(0,v7)])) fun v8 H3 =>
 doQ (Zd 31 v1 0) fun v9 =>
 doQ (Zd 29 v9 1) fun v10 =>
 doQ (Zb H3 27 v10) fun v11 =>
 doQ (Zw H3 17 27 3 v11) fun v12 =>
 doW (Za false H3 18 207 [v12,(.v (.int .i64 4))]) fun v13 H4 =>
 doW (dk env.P false H4 (Ref.mk 0 19 (Heap.gen H4 0 19) 0) (some 170) (some 170) v8 v13) fun v14 H5 =>
 doQ (Zd 31 v1 1) fun v15 =>
 doQ (Zb H5 5 v15) fun v16 =>
 doW (iB env.P true false H5 (Ref.mk 0 22 (Heap.gen H5 0 22) 0) 170 1 (some [(0,v16)])) fun v17 H6 =>
 doW (Zu H6 23 170 170 v14 v17) fun v18 H7 =>
 Q (.tup [v18,(.v (.int .i64 0))]) H7)
theorem uG(x0:AV)(H:Heap)(Q:AV→Heap→Prop)(h : ∀g,lX g x0 H Q):GoL env Tryz.f162 0 [.code pa] [(0,x0)] H Q:=⟨fun g=>aU (live:=uM) (cut:=uU) (n:=500) (Eq.mp (by kernel_rfl) (h g))⟩
noncomputable def qY:Code:=(Tryz.f169.body).getD .skip
def xG:Nat→Option (List Nat):=fun i=>none
def xY:Nat→Bool:=fun i=>false
def rf(g:Nat→AV)(x0 x1:AV)(H:Heap)(Q:AV→Heap→Prop):Prop :=
 doW (Zc H 2 29 x0) fun v1 H1 =>
 doW (Zc H1 3 29 x1) fun v2 H2 =>
 doQ (Zd 29 v2 0) fun v3 =>
 doQ (Zb H2 5 v3) fun v4 =>
 doQ (Zd 29 v1 1) fun v5 =>
 doQ (Zb H2 27 v5) fun v6 =>
 doQ (eC env.P 29 (some [(0,v4),(1,v6)])) fun v7 =>
 doW (Zj H2 5 29) fun v8 H3 =>
 doW (Zp H3 29 v8 v7) fun v9 H4 =>
 doQ (Zd 29 v1 0) fun v10 =>
 doQ (Zb H4 5 v10) fun v11 =>
 doQ (Zd 29 v2 0) fun v12 =>
 doQ (Zb H4 5 v12) fun v13 =>
 doQ (Zo 5 12 14 v11 v13) fun v14 =>
 gQ v14 false (Zb H4 29 v1) fun v15 =>
 gQ v14 false (Zb H4 29 v8) fun v16 =>
 gQ v14 false (Zq 29 17 18 v15 v16) fun v17 =>
 gQ v14 false (ZB v17) fun v18 =>
 gQ v18 true (Zd 29 v1 1) fun v19 =>
 gQ v18 true (Zb H4 27 v19) fun v20 =>
 gQ v18 true (Zd 29 v2 1) fun v21 =>
 gQ v18 true (Zb H4 27 v21) fun v22 =>
 gQ v18 true (Zo 27 22 24 v20 v22) fun v23 =>
 gQ v14 false (Zg v18 v23) fun v24 =>
 doQ (Zl v14 v24) fun v25 =>
 Q v25 H4
theorem xk(x0 x1:AV)(H:Heap)(Q:AV→Heap→Prop)(h : ∀g,rf g x0 x1 H Q):GoL env Tryz.f169 0 [.code qY] [(0,x0),(1,x1)] H Q:=⟨fun g=>aU (live:=xG) (cut:=xY) (n:=500) (Eq.mp (by kernel_rfl) (h g))⟩
noncomputable def gI:Code:=(Tryz.f173.body).getD .skip
def lK:Nat→Option (List Nat):=fun i=>none
def lO:Nat→Bool:=fun i=>false
def da(g:Nat→AV)(x0:AV)(H:Heap)(Q:AV→Heap→Prop):Prop :=
 doQ (ZO 36 3 x0) fun v1 =>
 br (some v1) (
 Q (.v (.slice none 0 0)) H) (
 doW (Z8 H 5 36 0) fun v2 H1 =>
 doW (Zu H1 7 36 36 v2 x0) fun v3 H2 =>
 Q v3 H2)
theorem lF(x0:AV)(H:Heap)(Q:AV→Heap→Prop)(h : ∀g,da g x0 H Q):GoL env Tryz.f173 0 [.code gI] [(0,x0)] H Q:=⟨fun g=>aU (live:=lK) (cut:=lO) (n:=500) (Eq.mp (by kernel_rfl) (h g))⟩
noncomputable def fH:Code:=(Tryz.f176.body).getD .skip
def kj:Nat→Option (List Nat):=fun i=>none
def kH:Nat→Bool:=fun i=>false
def fN(g:Nat→AV)(x0 x1:AV)(H:Heap)(Q:AV→Heap→Prop):Prop :=
 doW (Za true H 7 214 [x0,x1]) fun v1 H1 =>
 doQ (Zm 3 7 0 v1) fun v2 =>
 Q v2 H1
theorem jW(x0 x1:AV)(H:Heap)(Q:AV→Heap→Prop)(h : ∀g,fN g x0 x1 H Q):GoL env Tryz.f176 0 [.code fH] [(0,x0),(1,x1)] H Q:=⟨fun g=>aU (live:=kj) (cut:=kH) (n:=500) (Eq.mp (by kernel_rfl) (h g))⟩
noncomputable def uj:Code:=(Tryz.f182.body).getD .skip
def A3:Nat→Option (List Nat):=fun i=>none
def Bl:Nat→Bool:=fun i=>false
def uv(g:Nat→AV)(x0:AV)(H:Heap)(Q:AV→Heap→Prop):Prop :=
 doW (Zc H 1 33 x0) fun v1 H1 =>
 doQ (Zd 33 v1 0) fun v2 =>
 doQ (Zb H1 31 v2) fun v3 =>
 doW (Za true H1 5 91 [v3]) fun v4 H2 =>
 doQ (Zk 42 5 0 v4) fun v5 =>
 gQ v5 true (Zd 33 v1 1) fun v6 =>
 gQ v5 true (Zb H2 3 v6) fun v7 =>
 gQ v5 true (Zm 3 9 1 v7) fun v8 =>
 doQ (Zg v5 v8) fun v9 =>
 gQ v9 true (Zd 33 v1 1) fun v10 =>
 gQ v9 true (Zb H2 3 v10) fun v11 =>
 gQ v9 true (Zx 3 14 1099511627776 v11) fun v12 =>
 doQ (Zg v9 v12) fun v13 =>
 doW (Za true H2 17 159 [v13]) fun v14 H3 =>
 Q v14 H3
theorem As(x0:AV)(H:Heap)(Q:AV→Heap→Prop)(h : ∀g,uv g x0 H Q):GoL env Tryz.f182 0 [.code uj] [(0,x0)] H Q:=⟨fun g=>aU (live:=A3) (cut:=Bl) (n:=500) (Eq.mp (by kernel_rfl) (h g))⟩
noncomputable def nu:Code:=(Tryz.f185.body).getD .skip
def xE:Nat→Option (List Nat):=fun i=>none
def xW:Nat→Bool:=fun i=>false
def nA(g:Nat→AV)(H:Heap)(Q:AV→Heap→Prop):Prop :=
 doW (Zj H 0 29) fun v1 H1 =>
 doQ (Z5 29) fun v2 =>
 doW (Zp H1 29 v1 v2) fun v3 H2 =>
 doQ (Yb H2 v1 29) fun v4 =>
 Q v4 H2
theorem qF(H:Heap)(Q:AV→Heap→Prop)(h : ∀g,nA g  H Q):GoL env Tryz.f185 0 [.code nu] [] H Q:=⟨fun g=>aU (live:=xE) (cut:=xW) (n:=500) (Eq.mp (by kernel_rfl) (h g))⟩
noncomputable def qR:Code:=(Tryz.f187.body).getD .skip
def xw:Nat→Option (List Nat):=fun i=>none
def xP:Nat→Bool:=fun i=>false
def nz(g:Nat→AV)(x0:AV)(H:Heap)(Q:AV→Heap→Prop):Prop :=
 doQ (Zi H 6 36 x0) fun v1 =>
 doQ (Zr 3 6 64 v1) fun v2 =>
 br (some v2) (
 Q (.v (.int .i64 4)) H) (
 doW (Za true H 11 217 [x0,(.fn (.func 215) [] [])]) fun v3 H1 =>
 br (some v3) (
 Q (.v (.int .i64 8)) H1) (
 Q (.v (.int .i64 0)) H1))
theorem xc(x0:AV)(H:Heap)(Q:AV→Heap→Prop)(h : ∀g,nz g x0 H Q):GoL env Tryz.f187 0 [.code qR] [(0,x0)] H Q:=⟨fun g=>aU (live:=xw) (cut:=xP) (n:=500) (Eq.mp (by kernel_rfl) (h g))⟩
noncomputable def mc:Code:=(Tryz.f207.body).getD .skip
noncomputable def mB:List Item:=(bO 2 400 [.code mc]).getD []
def sk:Nat→Option (List Nat):=fun i=>cond (Nat.beq i 2) (some [5,0,4]) (none)
def sE:Nat→Bool:=fun i=>false
def oT(g:Nat→AV)(x0 x1:AV)(H:Heap)(Q:AV→Heap→Prop):Prop :=
 doQ (Zv 3 6 1 x1) fun v1 =>
  GoL env Tryz.f207 0 mB [(5,v1),(0,x0),(4,(.v (.slice none 0 0)))] H Q
theorem rN(x0 x1:AV)(H:Heap)(Q:AV→Heap→Prop)(h : ∀g,oT g x0 x1 H Q):GoL env Tryz.f207 0 [.code mc] [(0,x0),(1,x1)] H Q:=⟨fun g=>aU (live:=sk) (cut:=sE) (n:=500) (Eq.mp (by kernel_rfl) (h g))⟩
def bR(g:Nat→AV)(x5 x0 x4:AV)(H:Heap)(Q:AV→Heap→Prop):Prop :=
 doQ (Zm 3 8 0 x5) fun v1 =>
 br (some v1) (
 doQ (ZT 3 8 14 x5) fun v2 =>
 doQ (qBin env.P .shr 3 (Operand.tmp 13) (Operand.tmp 15) (some x0) (some v2)) fun v3 =>
 doQ (Zw H 17 3 5 v3) fun v4 =>
 doW (ZA H 18 170 1 0 v4) fun v5 H1 =>
 doW (Zu H1 19 170 170 x4 v5) fun v6 H2 =>
 doQ (Zv 3 10 1 x5) fun v7 =>
  GoL env Tryz.f207 0 mB [(5,v7),(0,x0),(4,v6)] H2 Q) (
 Q x4 H)
theorem cg(x5 x0 x4:AV)(H:Heap)(Q:AV→Heap→Prop)(h : ∀g,bR g x5 x0 x4 H Q):GoL env Tryz.f207 0 mB [(5,x5),(0,x0),(4,x4)] H Q:=cZ fun g=>aU (live:=sk) (cut:=sE) (n:=500) (Eq.mp (by kernel_rfl) (h g))
noncomputable def yJ:Code:=(Tryz.f208.body).getD .skip
def Ez:Nat→Option (List Nat):=fun i=>none
def EV:Nat→Bool:=fun i=>false
def tN(g:Nat→AV)(x0:AV)(H:Heap)(Q:AV→Heap→Prop):Prop :=
 doW (Zc H 1 33 x0) fun v1 H1 =>
 doQ (Zb H1 33 v1) fun v2 =>
 doW (Za true H1 8 182 [v2]) fun v3 H2 =>
 doQ (Ze 42 9 0 v3) fun v4 =>
 br (some v4) (
 Q (.tup [(.v (.slice none 0 0)),v3]) H2) (
 doQ (Zd 33 v1 0) fun v5 =>
 doQ (Zb H2 31 v5) fun v6 =>
 doW (Za true H2 15 162 [v6]) fun v7 H3 =>
 doQ (ZC v7 0) fun v8 =>
 doQ (ZC v7 1) fun v9 =>
 doQ (Zd 33 v1 1) fun v10 =>
 doQ (Zb H3 3 v10) fun v11 =>
 doW (Za true H3 21 207 [v11,(.v (.int .i64 7))]) fun v12 H4 =>
 doW (Zu H4 22 170 170 v8 v12) fun v13 H5 =>
 Q (.tup [v13,v9]) H5)
theorem D4(x0:AV)(H:Heap)(Q:AV→Heap→Prop)(h : ∀g,tN g x0 H Q):GoL env Tryz.f208 0 [.code yJ] [(0,x0)] H Q:=⟨fun g=>aU (live:=Ez) (cut:=EV) (n:=500) (Eq.mp (by kernel_rfl) (h g))⟩
noncomputable def pI:Code:=(Tryz.f210.body).getD .skip
noncomputable def lz:List Item:=(bO 6 400 [.code pI]).getD []
def tV:Nat→Option (List Nat):=fun i=>cond (Nat.beq i 6) (some [15,5,13,14]) (none)
def ue:Nat→Bool:=fun i=>false
def pX(g:Nat→AV)(x0:AV)(H:Heap)(Q:AV→Heap→Prop):Prop :=
 doW (Za true H 9 187 [x0]) fun v1 H1 =>
 doQ (Ze 42 10 0 v1) fun v2 =>
 br (some v2) (
 Q (.tup [(.v (.slice none 0 0)),v1]) H1) (
 doQ (Zi H1 14 36 x0) fun v3 =>
  GoL env Tryz.f210 0 lz [(15,(.v (.int .i64 0))),(5,(.v (.slice none 0 0))),(13,x0),(14,v3)] H1 Q)
theorem Ao(x0:AV)(H:Heap)(Q:AV→Heap→Prop)(h : ∀g,pX g x0 H Q):GoL env Tryz.f210 0 [.code pI] [(0,x0)] H Q:=⟨fun g=>aU (live:=tV) (cut:=ue) (n:=500) (Eq.mp (by kernel_rfl) (h g))⟩
def lA(g:Nat→AV)(x15 x5 x13 x14:AV)(H:Heap)(Q:AV→Heap→Prop):Prop :=
 doQ (Zo 3 15 14 x15 x14) fun v1 =>
 br (some v1) (
 doQ (Zt H 36 x13 x15) fun v2 =>
 doQ (Zb H 21 v2) fun v3 =>
 doQ (qBin env.P .shr 21 (Operand.tmp 20) (.const (.int .u64 24)) (some v3) (some (.v (.int .u64 24)))) fun v4 =>
 doQ (Zw H 22 21 5 v4) fun v5 =>
 doQ (Z9 21 23 v3) fun v6 =>
 doQ (Zw H 25 21 5 v6) fun v7 =>
 doQ (ZS 21 26 v3) fun v8 =>
 doQ (Zw H 28 21 5 v8) fun v9 =>
 doQ (Zw H 30 21 5 v3) fun v10 =>
 doW (iB env.P false true H (Ref.mk 0 31 (Heap.gen H 0 31) 0) 170 4 (some [(0,v5),(1,v7),(2,v9),(3,v10)])) fun v11 H1 =>
 doW (Zu H1 32 170 170 x5 v11) fun v12 H2 =>
 doQ (Zf 3 15 1 x15) fun v13 =>
  GoL env Tryz.f210 0 lz [(15,v13),(5,v12),(13,x13),(14,x14)] H2 Q) (
 Q (.tup [x5,(.v (.int .i64 0))]) H)
theorem qE(x15 x5 x13 x14:AV)(H:Heap)(Q:AV→Heap→Prop)(h : ∀g,lA g x15 x5 x13 x14 H Q):GoL env Tryz.f210 0 lz [(15,x15),(5,x5),(13,x13),(14,x14)] H Q:=cZ fun g=>aU (live:=tV) (cut:=ue) (n:=500) (Eq.mp (by kernel_rfl) (h g))
noncomputable def ej:Code:=(Tryz.f214.body).getD .skip
noncomputable def cO:List Item:=(bO 2 400 [.code ej]).getD []
def gB:Nat→Option (List Nat):=fun i=>cond (Nat.beq i 2) (some [8,0,1,7]) (none)
def gE:Nat→Bool:=fun i=>false
def gJ(g:Nat→AV)(x0 x1:AV)(H:Heap)(Q:AV→Heap→Prop):Prop :=
 doQ (Zi H 7 36 x0) fun v1 =>
  GoL env Tryz.f214 0 cO [(8,(.v (.int .i64 0))),(0,x0),(1,x1),(7,v1)] H Q
theorem lD(x0 x1:AV)(H:Heap)(Q:AV→Heap→Prop)(h : ∀g,gJ g x0 x1 H Q):GoL env Tryz.f214 0 [.code ej] [(0,x0),(1,x1)] H Q:=⟨fun g=>aU (live:=gB) (cut:=gE) (n:=500) (Eq.mp (by kernel_rfl) (h g))⟩
def cQ(g:Nat→AV)(x8 x0 x1 x7:AV)(H:Heap)(Q:AV→Heap→Prop):Prop :=
 doQ (Zo 3 8 7 x8 x7) fun v1 =>
 br (some v1) (
 doQ (Zt H 36 x0 x8) fun v2 =>
 doQ (Zb H 21 v2) fun v3 =>
 doQ (Zq 21 11 15 x1 v3) fun v4 =>
 br (some v4) (
 Q x8 H) (
 doQ (Zf 3 8 1 x8) fun v5 =>
  GoL env Tryz.f214 0 cO [(8,v5),(0,x0),(1,x1),(7,x7)] H Q)) (
 Q (.v (.int .i64 (-1))) H)
theorem fU(x8 x0 x1 x7:AV)(H:Heap)(Q:AV→Heap→Prop)(h : ∀g,cQ g x8 x0 x1 x7 H Q):GoL env Tryz.f214 0 cO [(8,x8),(0,x0),(1,x1),(7,x7)] H Q:=cZ fun g=>aU (live:=gB) (cut:=gE) (n:=500) (Eq.mp (by kernel_rfl) (h g))
noncomputable def o7:Code:=(Tryz.f215.body).getD .skip
def uJ:Nat→Option (List Nat):=fun i=>none
def uR:Nat→Bool:=fun i=>false
def lW(g:Nat→AV)(x0:AV)(H:Heap)(Q:AV→Heap→Prop):Prop :=
 doQ (qBin env.P .neq 21 (Operand.tmp 3) (.const (.int .i32 (-1))) (some x0) (some (.v (.int .i32 (-1))))) fun v1 =>
 gQ v1 true (ZB x0) fun v2 =>
 gW v1 true H (Za true H 7 216 [v2]) fun v3 H1 =>
 gQ v1 true (ZE v3) fun v4 =>
 doQ (Zg v1 v4) fun v5 =>
 Q v5 H1
theorem uB(x0:AV)(H:Heap)(Q:AV→Heap→Prop)(h : ∀g,lW g x0 H Q):GoL env Tryz.f215 0 [.code o7] [(0,x0)] H Q:=⟨fun g=>aU (live:=uJ) (cut:=uR) (n:=500) (Eq.mp (by kernel_rfl) (h g))⟩
noncomputable def jm:Code:=(Tryz.f216.body).getD .skip
def ni:Nat→Option (List Nat):=fun i=>none
def np:Nat→Bool:=fun i=>false
def jn(g:Nat→AV)(x0:AV)(H:Heap)(Q:AV→Heap→Prop):Prop :=
 doQ (qBin env.P .leq 21 (.const (.int .i32 0)) (Operand.tmp 4) (some (.v (.int .i32 0))) (some x0)) fun v1 =>
 gQ v1 true (ZB x0) fun v2 =>
 gQ v1 true (qBin env.P .lss 21 (Operand.tmp 7) (.const (.int .i32 55296)) (some v2) (some (.v (.int .i32 55296)))) fun v3 =>
 doQ (Zg v1 v3) fun v4 =>
 br (some v4) (
 Q (.v (.bool true)) H) (
 doQ (qBin env.P .lss 21 (.const (.int .i32 57343)) (Operand.tmp 11) (some (.v (.int .i32 57343))) (some x0)) fun v5 =>
 gQ v5 true (ZB x0) fun v6 =>
 gQ v5 true (qBin env.P .leq 21 (Operand.tmp 14) (.const (.int .i32 1114111)) (some v6) (some (.v (.int .i32 1114111)))) fun v7 =>
 doQ (Zg v5 v7) fun v8 =>
 br (some v8) (
 Q (.v (.bool true)) H) (
 Q (.v (.bool false)) H))
theorem m9(x0:AV)(H:Heap)(Q:AV→Heap→Prop)(h : ∀g,jn g x0 H Q):GoL env Tryz.f216 0 [.code jm] [(0,x0)] H Q:=⟨fun g=>aU (live:=ni) (cut:=np) (n:=500) (Eq.mp (by kernel_rfl) (h g))⟩
noncomputable def eZ:Code:=(Tryz.f217.body).getD .skip
def jf:Nat→Option (List Nat):=fun i=>none
def jk:Nat→Bool:=fun i=>false
def fa(g:Nat→AV)(x0 x1:AV)(H:Heap)(Q:AV→Heap→Prop):Prop :=
 doW (Za true H 7 229 [x0,x1]) fun v1 H1 =>
 doQ (Zm 3 7 0 v1) fun v2 =>
 Q v2 H1
theorem ja(x0 x1:AV)(H:Heap)(Q:AV→Heap→Prop)(h : ∀g,fa g x0 x1 H Q):GoL env Tryz.f217 0 [.code eZ] [(0,x0),(1,x1)] H Q:=⟨fun g=>aU (live:=jf) (cut:=jk) (n:=500) (Eq.mp (by kernel_rfl) (h g))⟩
noncomputable def ek:Code:=(Tryz.f226.body).getD .skip
noncomputable def cP:List Item:=(bO 4 400 [.code ek]).getD []
def gC:Nat→Option (List Nat):=fun i=>cond (Nat.beq i 4) (some [13,1,0,12]) (none)
def gG:Nat→Bool:=fun i=>false
def eu(g:Nat→AV)(x0 x1:AV)(H:Heap)(Q:AV→Heap→Prop):Prop :=
 doQ (Zi H 7 36 x0) fun v1 =>
 doQ (Zi H 9 36 x1) fun v2 =>
 doQ (ZF 3 7 9 v1 v2) fun v3 =>
 br (some v3) (
 Q (.v (.bool false)) H) (
 doQ (Zi H 12 36 x0) fun v4 =>
  GoL env Tryz.f226 0 cP [(13,(.v (.int .i64 0))),(1,x1),(0,x0),(12,v4)] H Q)
theorem lE(x0 x1:AV)(H:Heap)(Q:AV→Heap→Prop)(h : ∀g,eu g x0 x1 H Q):GoL env Tryz.f226 0 [.code ek] [(0,x0),(1,x1)] H Q:=⟨fun g=>aU (live:=gC) (cut:=gG) (n:=500) (Eq.mp (by kernel_rfl) (h g))⟩
def cR(g:Nat→AV)(x13 x1 x0 x12:AV)(H:Heap)(Q:AV→Heap→Prop):Prop :=
 doQ (Zo 3 13 12 x13 x12) fun v1 =>
 br (some v1) (
 doQ (Zt H 36 x0 x13) fun v2 =>
 doQ (Zb H 21 v2) fun v3 =>
 doQ (Zt H 36 x1 x13) fun v4 =>
 doQ (Zb H 21 v4) fun v5 =>
 doQ (ZF 21 19 23 v3 v5) fun v6 =>
 br (some v6) (
 Q (.v (.bool false)) H) (
 doQ (Zf 3 13 1 x13) fun v7 =>
  GoL env Tryz.f226 0 cP [(13,v7),(1,x1),(0,x0),(12,x12)] H Q)) (
 Q (.v (.bool true)) H)
theorem fV(x13 x1 x0 x12:AV)(H:Heap)(Q:AV→Heap→Prop)(h : ∀g,cR g x13 x1 x0 x12 H Q):GoL env Tryz.f226 0 cP [(13,x13),(1,x1),(0,x0),(12,x12)] H Q:=cZ fun g=>aU (live:=gC) (cut:=gG) (n:=500) (Eq.mp (by kernel_rfl) (h g))
noncomputable def Bs:Code:=(Tryz.f228.body).getD .skip
def Gw:Nat→Option (List Nat):=fun i=>none
def Hc:Nat→Bool:=fun i=>false
def qa(g:Nat→AV)(x0 x1:AV)(H:Heap)(Q:AV→Heap→Prop):Prop :=
 doW (Zc H 2 35 x0) fun v1 H1 =>
 doW (Zj H1 4 33) fun v2 H2 =>
 doQ (Zb H2 35 v1) fun v3 =>
 doW (Za true H2 8 135 [v3]) fun v4 H3 =>
 doQ (Ze 42 9 0 v4) fun v5 =>
 br (some v5) (
 doQ (Z5 33) fun v6 =>
 doW (Zp H3 33 v2 v6) fun v7 H4 =>
 doQ (Yb H4 v2 33) fun v8 =>
 Q (.tup [v8,v4]) H4) (
 doQ (Zs 3 13 0 x1) fun v6 =>
 gQ v6 false (ZB x1) fun v7 =>
 gQ v6 false (Zd 35 v1 1) fun v8 =>
 gQ v6 false (Zb H3 3 v8) fun v9 =>
 gQ v6 false (Z1 3 16 18 v7 v9) fun v10 =>
 doQ (Zl v6 v10) fun v11 =>
 br (some v11) (
 doQ (Z5 33) fun v12 =>
 doW (Zp H3 33 v2 v12) fun v13 H4 =>
 doQ (Yb H4 v2 33) fun v14 =>
 Q (.tup [v14,(.v (.int .i64 2))]) H4) (
 doQ (Zd 35 v1 0) fun v12 =>
 doQ (Zb H3 33 v12) fun v13 =>
 doW (Za true H3 25 239 [v13,x1]) fun v14 H4 =>
 doW (Zp H4 33 v2 v14) fun v15 H5 =>
 doQ (Yb H5 v2 33) fun v16 =>
 Q (.tup [v16,(.v (.int .i64 0))]) H5))
theorem Fc(x0 x1:AV)(H:Heap)(Q:AV→Heap→Prop)(h : ∀g,qa g x0 x1 H Q):GoL env Tryz.f228 0 [.code Bs] [(0,x0),(1,x1)] H Q:=⟨fun g=>aU (live:=Gw) (cut:=Hc) (n:=500) (Eq.mp (by kernel_rfl) (h g))⟩
noncomputable def dF:Code:=(Tryz.f229.body).getD .skip
noncomputable def cC:List Item:=(bO 2 400 [.code dF]).getD []
def fD:Nat→Option (List Nat):=fun i=>cond (Nat.beq i 2) (some [8,0,1,7]) (none)
def fG:Nat→Bool:=fun i=>false
def fM(g:Nat→AV)(x0 x1:AV)(H:Heap)(Q:AV→Heap→Prop):Prop :=
 doQ (Zi H 7 36 x0) fun v1 =>
  GoL env Tryz.f229 0 cC [(8,(.v (.int .i64 0))),(0,x0),(1,x1),(7,v1)] H Q
theorem jV(x0 x1:AV)(H:Heap)(Q:AV→Heap→Prop)(h : ∀g,fM g x0 x1 H Q):GoL env Tryz.f229 0 [.code dF] [(0,x0),(1,x1)] H Q:=⟨fun g=>aU (live:=fD) (cut:=fG) (n:=500) (Eq.mp (by kernel_rfl) (h g))⟩
def cD(g:Nat→AV)(x8 x0 x1 x7:AV)(H:Heap)(Q:AV→Heap→Prop):Prop :=
 doQ (Zo 3 8 7 x8 x7) fun v1 =>
 br (some v1) (
 doQ (Zt H 36 x0 x8) fun v2 =>
 doQ (Zb H 21 v2) fun v3 =>
 doW (ZD H 16 x1 v3) fun v4 H1 =>
 br (some v4) (
 Q x8 H1) (
 doQ (Zf 3 8 1 x8) fun v5 =>
  GoL env Tryz.f229 0 cC [(8,v5),(0,x0),(1,x1),(7,x7)] H1 Q)) (
 Q (.v (.int .i64 (-1))) H)
theorem fe(x8 x0 x1 x7:AV)(H:Heap)(Q:AV→Heap→Prop)(h : ∀g,cD g x8 x0 x1 x7 H Q):GoL env Tryz.f229 0 cC [(8,x8),(0,x0),(1,x1),(7,x7)] H Q:=cZ fun g=>aU (live:=fD) (cut:=fG) (n:=500) (Eq.mp (by kernel_rfl) (h g))
noncomputable def mG:Code:=(Tryz.f231.body).getD .skip
def Gu:Nat→Option (List Nat):=fun i=>none
def Ha:Nat→Bool:=fun i=>false
def kP(g:Nat→AV)(x0:AV)(H:Heap)(Q:AV→Heap→Prop):Prop :=
 doW (Zc H 1 38 x0) fun v1 H1 =>
 doW (Zj H1 2 249) fun v2 H2 =>
 doQ (Zb H2 38 v1) fun v3 =>
 doW (Za true H2 7 70 [v3]) fun v4 H3 =>
 doQ (Ze 42 8 0 v4) fun v5 =>
 br (some v5) (
 doQ (Z5 249) fun v6 =>
 doW (Zp H3 249 v2 v6) fun v7 H4 =>
 doQ (Yb H4 v2 249) fun v8 =>
 Q (.tup [v8,v4]) H4) (
 doQ (Zd 38 v1 3) fun v6 =>
 doQ (Zb H3 35 v6) fun v7 =>
 doQ (Zd 38 v1 4) fun v8 =>
 doQ (Zb H3 33 v8) fun v9 =>
 doQ (Zd 38 v1 6) fun v10 =>
 doQ (Zb H3 36 v10) fun v11 =>
 doW (Za false H3 18 173 [v11]) fun v12 H4 =>
 doQ (eC env.P 249 (some [(0,v7),(1,v9),(2,v12)])) fun v13 =>
 doW (Zj H4 5 249) fun v14 H5 =>
 doW (Zp H5 249 v14 v13) fun v15 H6 =>
 doQ (Zd 38 v1 0) fun v16 =>
 doQ (Zb H6 5 v16) fun v17 =>
 doQ (qBin env.P .neq 5 (Operand.tmp 21) (.const (.int .u8 1)) (some v17) (some (a8 1))) fun v18 =>
 gQ v18 false (Zb H6 249 v14) fun v19 =>
 gW v18 false H6 (Za true H6 25 240 [v19]) fun v20 H7 =>
 gQ v18 false (Ze 42 25 0 v20) fun v21 =>
 doQ (Zl v18 v21) fun v22 =>
 br (some v22) (
 doQ (Z5 249) fun v23 =>
 doW (Zp H7 249 v2 v23) fun v24 H8 =>
 doQ (Yb H8 v2 249) fun v25 =>
 Q (.tup [v25,(.v (.int .i64 2))]) H8) (
 doQ (Zb H7 249 v14) fun v23 =>
 doW (Zp H7 249 v2 v23) fun v24 H8 =>
 doQ (Yb H8 v2 249) fun v25 =>
 Q (.tup [v25,(.v (.int .i64 0))]) H8))
theorem nF(x0:AV)(H:Heap)(Q:AV→Heap→Prop)(h : ∀g,kP g x0 H Q):GoL env Tryz.f231 0 [.code mG] [(0,x0)] H Q:=⟨fun g=>aU (live:=Gu) (cut:=Ha) (n:=500) (Eq.mp (by kernel_rfl) (h g))⟩
noncomputable def wY:Code:=(Tryz.f239.body).getD .skip
def Cf:Nat→Option (List Nat):=fun i=>none
def CH:Nat→Bool:=fun i=>false
def w9(g:Nat→AV)(x0 x1:AV)(H:Heap)(Q:AV→Heap→Prop):Prop :=
 doW (Zc H 2 33 x0) fun v1 H1 =>
 doW (Zj H1 4 33) fun v2 H2 =>
 doQ (Zd 33 v1 1) fun v3 =>
 doQ (Zb H2 3 v3) fun v4 =>
 doQ (Zz 3 6 7 v4 x1) fun v5 =>
 doQ (Zd 33 v1 1) fun v6 =>
 doW (Zp H2 3 v6 v5) fun v7 H3 =>
 doQ (Zb H3 33 v1) fun v8 =>
 doW (Zp H3 33 v2 v8) fun v9 H4 =>
 doQ (Yb H4 v2 33) fun v10 =>
 Q v10 H4
theorem BG(x0 x1:AV)(H:Heap)(Q:AV→Heap→Prop)(h : ∀g,w9 g x0 x1 H Q):GoL env Tryz.f239 0 [.code wY] [(0,x0),(1,x1)] H Q:=⟨fun g=>aU (live:=Cf) (cut:=CH) (n:=500) (Eq.mp (by kernel_rfl) (h g))⟩
noncomputable def uh:Code:=(Tryz.f240.body).getD .skip
def A0:Nat→Option (List Nat):=fun i=>none
def Bi:Nat→Bool:=fun i=>false
def pY(g:Nat→AV)(x0:AV)(H:Heap)(Q:AV→Heap→Prop):Prop :=
 doW (Zc H 1 249 x0) fun v1 H1 =>
 doQ (Zd 249 v1 1) fun v2 =>
 doQ (Zb H1 33 v2) fun v3 =>
 doQ (Z5 33) fun v4 =>
 doQ (Zq 33 5 6 v3 v4) fun v5 =>
 gQ v5 false (Zd 249 v1 1) fun v6 =>
 gQ v5 false (Zb H1 33 v6) fun v7 =>
 gW v5 false H1 (Za true H1 11 182 [v7]) fun v8 H2 =>
 gQ v5 false (Zk 42 11 0 v8) fun v9 =>
 gQ v5 false (ZB v9) fun v10 =>
 gQ v10 true (Zd 249 v1 1) fun v11 =>
 gQ v10 true (Zd 33 v11 1) fun v12 =>
 gQ v10 true (Zb H2 3 v12) fun v13 =>
 gQ v10 true (Zd 249 v1 0) fun v14 =>
 gQ v10 true (Zd 35 v14 0) fun v15 =>
 gQ v10 true (Zd 33 v15 1) fun v16 =>
 gQ v10 true (Zb H2 3 v16) fun v17 =>
 gQ v10 true (Zo 3 16 20 v13 v17) fun v18 =>
 gQ v5 false (Zg v10 v18) fun v19 =>
 doQ (Zl v5 v19) fun v20 =>
 doQ (Zd 249 v1 0) fun v21 =>
 doQ (Zb H2 35 v21) fun v22 =>
 doW (Za true H2 26 135 [v22]) fun v23 H3 =>
 doQ (Ze 42 26 0 v23) fun v24 =>
 gQ v24 false (ZB v20) fun v25 =>
 gQ v24 false (ZE v25) fun v26 =>
 doQ (Zl v24 v26) fun v27 =>
 gQ v27 false (Zd 249 v1 2) fun v28 =>
 gQ v27 false (Zb H3 36 v28) fun v29 =>
 gQ v27 false (Zi H3 35 36 v29) fun v30 =>
 gQ v27 false (Zd 249 v1 0) fun v31 =>
 gQ v27 false (Zd 35 v31 1) fun v32 =>
 gQ v27 false (Zb H3 3 v32) fun v33 =>
 gQ v27 false (ZF 3 35 38 v30 v33) fun v34 =>
 doQ (Zl v27 v34) fun v35 =>
 gQ v35 false (Zd 249 v1 2) fun v36 =>
 gQ v35 false (Zb H3 36 v36) fun v37 =>
 gW v35 false H3 (Za true H3 44 187 [v37]) fun v38 H4 =>
 gQ v35 false (Ze 42 44 0 v38) fun v39 =>
 doQ (Zl v35 v39) fun v40 =>
 br (some v40) (
 Q (.v (.int .i64 8)) H4) (
 Q (.v (.int .i64 0)) H4)
theorem Ap(x0:AV)(H:Heap)(Q:AV→Heap→Prop)(h : ∀g,pY g x0 H Q):GoL env Tryz.f240 0 [.code uh] [(0,x0)] H Q:=⟨fun g=>aU (live:=A0) (cut:=Bi) (n:=500) (Eq.mp (by kernel_rfl) (h g))⟩
noncomputable def yK:Code:=(Tryz.f251.body).getD .skip
def EA:Nat→Option (List Nat):=fun i=>none
def EW:Nat→Bool:=fun i=>false
def mh(g:Nat→AV)(x0 x1:AV)(H:Heap)(Q:AV→Heap→Prop):Prop :=
 doW (Zc H 2 35 x0) fun v1 H1 =>
 doW (Zc H1 3 33 x1) fun v2 H2 =>
 doQ (Zd 33 v2 1) fun v3 =>
 doQ (Zb H2 3 v3) fun v4 =>
 doQ (Zd 35 v1 0) fun v5 =>
 doQ (Zd 33 v5 1) fun v6 =>
 doQ (Zb H2 3 v6) fun v7 =>
 doQ (ZP 3 8 11 v4 v7) fun v8 =>
 doQ (Zb H2 35 v1) fun v9 =>
 doW (Za false H2 14 135 [v9]) fun v10 H3 =>
 doQ (Ze 42 14 0 v10) fun v11 =>
 gQ v11 false (ZB v8) fun v12 =>
 gQ v11 false (Zs 3 17 0 v12) fun v13 =>
 doQ (Zl v11 v13) fun v14 =>
 gQ v14 false (ZB v8) fun v15 =>
 gQ v14 false (Zd 35 v1 1) fun v16 =>
 gQ v14 false (Zb H3 3 v16) fun v17 =>
 gQ v14 false (Z1 3 21 23 v15 v17) fun v18 =>
 doQ (Zl v14 v18) fun v19 =>
 gQ v19 false (Zb H3 33 v2) fun v20 =>
 gQ v19 false (Zd 35 v1 0) fun v21 =>
 gQ v19 false (Zb H3 33 v21) fun v22 =>
 gQ v19 false (ZB v8) fun v23 =>
 gW v19 false H3 (Za false H3 31 239 [v22,v23]) fun v24 H4 =>
 gQ v19 false (ZF 33 27 31 v20 v24) fun v25 =>
 doQ (Zl v19 v25) fun v26 =>
 br (some v26) (
 Q (.tup [(.v (.int .i64 0)),(.v (.bool false))]) H4) (
 Q (.tup [v8,(.v (.bool true))]) H4)
theorem D5(x0 x1:AV)(H:Heap)(Q:AV→Heap→Prop)(h : ∀g,mh g x0 x1 H Q):GoL env Tryz.f251 0 [.code yK] [(0,x0),(1,x1)] H Q:=⟨fun g=>aU (live:=EA) (cut:=EW) (n:=500) (Eq.mp (by kernel_rfl) (h g))⟩
end Go.Proofs.YtmkmimgokagimaaGreat
