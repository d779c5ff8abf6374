/-
  What is to be shown of each function, computed from its code. No statement of a seat is proved here.
-/
import Derived.Test.YtmkmimgokagimaaGreatLeTy
set_option linter.unusedVariables false
set_option maxRecDepth 1000000
namespace Go.Proofs.YtmkmimgokagimaaGreat
open Go.Ab
noncomputable def tZ:Code:=(Tryz.f45.body).getD .skip
noncomputable def lJ:List Item:=(bL 5 400 [.code tZ]).getD []
def yP:Nat→Option (List Nat):=fun i=>cond (Nat.beq i 5) (some [19,4,3,17,18]) (none)
def zu:Nat→Bool:=fun i=>false
def zO(g:Nat→AV)(x0 x1:AV)(H:Heap)(Q:AV→Heap→Prop):Prop :=
 doW (Zc H 3 29 x1) fun v1 H1 =>
 doW (Za false H1 10 107 [x0]) fun v2 H2 =>
 doQ (Zb H2 29 v1) fun v3 =>
 doW (Za false H2 12 76 [v3]) fun v4 H3 =>
 doQ (ZU H3 13 42 42 v2 v4) fun v5 =>
 doQ (Ze 42 14 0 v5) fun v6 =>
 br (some v6) (
 Q (.tup [(.v (.slice none 0 0)),v5]) H3) (
 doQ (Zh H3 18 41 x0) fun v7 =>
  GoL env Tryz.f45 0 lJ [(19,(.v (.int .i64 0))),(4,(.v (.slice none 0 0))),(3,v1),(17,x0),(18,v7)] H3 Q)
theorem DX(x0 x1:AV)(H:Heap)(Q:AV→Heap→Prop)(h : ∀g,zO g x0 x1 H Q):GoL env Tryz.f45 0 [.code tZ] [(0,x0),(1,x1)] H Q:=⟨fun g=>aH (live:=yP) (cut:=zu) (n:=500) (Eq.mp (by kernel_rfl) (h g))⟩
def mf(g:Nat→AV)(x19 x4 x3 x17 x18:AV)(H:Heap)(Q:AV→Heap→Prop):Prop :=
 doQ (Zp 3 19 18 x19 x18) fun v1 =>
 br (some v1) (
 doQ (Zu H 41 x17 x19) fun v2 =>
 doQ (Zb H 38 v2) fun v3 =>
 doW (Zj H 8 38) fun v4 H1 =>
 doW (Zo H1 38 v4 v3) fun v5 H2 =>
 doQ (Zd 38 v4 1) fun v6 =>
 doQ (Zd 31 v6 0) fun v7 =>
 doQ (Zb H2 29 v7) fun v8 =>
 doQ (Zb H2 29 x3) fun v9 =>
 doW (Za true H2 27 47 [v8,v9]) fun v10 H3 =>
 br (some v10) (
 doQ (Zb H3 38 v4) fun v11 =>
 doW (Za true H3 30 108 [v11]) fun v12 H4 =>
 doW (ZD H4 31 41 1 0 v12) fun v13 H5 =>
 doW (Zt H5 32 41 41 x4 v13) fun v14 H6 =>
 doQ (Zf 3 19 1 x19) fun v15 =>
  GoL env Tryz.f45 0 lJ [(19,v15),(4,v14),(3,x3),(17,x17),(18,x18)] H6 Q) (
 doQ (Zf 3 19 1 x19) fun v11 =>
  GoL env Tryz.f45 0 lJ [(19,v11),(4,x4),(3,x3),(17,x17),(18,x18)] H3 Q)) (
 Q (.tup [x4,(.v (.int .i64 0))]) H)
theorem uj(x19 x4 x3 x17 x18:AV)(H:Heap)(Q:AV→Heap→Prop)(h : ∀g,mf g x19 x4 x3 x17 x18 H Q):GoL env Tryz.f45 0 lJ [(19,x19),(4,x4),(3,x3),(17,x17),(18,x18)] H Q:=cU fun g=>aH (live:=yP) (cut:=zu) (n:=500) (Eq.mp (by kernel_rfl) (h g))
noncomputable def w9:Code:=(Tryz.f107.body).getD .skip
def Dg:Nat→Option (List Nat):=fun i=>none
def DD:Nat→Bool:=fun i=>false
def xf(g:Nat→AV)(x0:AV)(H:Heap)(Q:AV→Heap→Prop):Prop :=
 doW (Za true H 7 172 [x0]) fun v1 H1 =>
 doQ (Zx v1 0) fun v2 =>
 doQ (Zx v1 1) fun v3 =>
 doQ (ZE v3) fun v4 =>
 br (some v4) (
 Q (.v (.int .i64 8)) H1) (
 Q (.v (.int .i64 0)) H1)
theorem CG(x0:AV)(H:Heap)(Q:AV→Heap→Prop)(h : ∀g,xf g x0 H Q):GoL env Tryz.f107 0 [.code w9] [(0,x0)] H Q:=⟨fun g=>aH (live:=Dg) (cut:=DD) (n:=500) (Eq.mp (by kernel_rfl) (h g))⟩
noncomputable def zJ:Code:=(Tryz.f137.body).getD .skip
def Ex:Nat→Option (List Nat):=fun i=>none
def E1:Nat→Bool:=fun i=>false
def qA(g:Nat→AV)(x0 x1:AV)(H:Heap)(Q:AV→Heap→Prop):Prop :=
 doW (Zc H 3 38 x1) fun v1 H1 =>
 doW (Za true H1 10 172 [x0]) fun v2 H2 =>
 doQ (Zx v2 0) fun v3 =>
 doQ (Zx v2 1) fun v4 =>
 doQ (ZE v4) fun v5 =>
 br (some v5) (
 Q (.v (.int .i64 8)) H2) (
 doQ (Zb H2 38 v1) fun v6 =>
 doW (Za true H2 16 70 [v6]) fun v7 H3 =>
 doQ (Ze 42 17 0 v7) fun v8 =>
 br (some v8) (
 Q v7 H3) (
 doQ (Zb H3 38 v1) fun v9 =>
 doW (Za true H3 22 193 [v3,v9]) fun v10 H4 =>
 Q v10 H4))
theorem DY(x0 x1:AV)(H:Heap)(Q:AV→Heap→Prop)(h : ∀g,qA g x0 x1 H Q):GoL env Tryz.f137 0 [.code zJ] [(0,x0),(1,x1)] H Q:=⟨fun g=>aH (live:=Ex) (cut:=E1) (n:=500) (Eq.mp (by kernel_rfl) (h g))⟩
noncomputable def vi:Code:=(Tryz.f172.body).getD .skip
noncomputable def kL:List Item:=(bL 3 400 [.code vi]).getD []
noncomputable def mW:List Item:=(bL 10 400 [.code vi]).getD []
def yO:Nat→Option (List Nat):=fun i=>cond (Nat.beq i 3) (some [4,14,12,13]) (cond (Nat.beq i 10) (some [44,4,42,12,13,14,43]) (none))
def zt:Nat→Bool:=fun i=>false
def DJ(dep:Nat)(g:Nat→AV)(x0:AV)(H:Heap)(Q:AV→Heap→Prop):Prop :=
 doW (ZM H dep 9) fun v1 H1 =>
 doQ (Yc 266 1 v1) fun v2 =>
 doW (Zi H1 dep 11 266 v2) fun v3 H2 =>
 doQ (Zz H2 dep 13 41 x0) fun v4 =>
  GoL env Tryz.f172 (dep+1) kL [(4,v3),(14,(.v (.int .i64 0))),(12,x0),(13,v4)] H2 Q
theorem HD(dep:Nat)(x0:AV)(H:Heap)(Q:AV→Heap→Prop)(h : ∀g,DJ dep g x0 H Q):GoL env Tryz.f172 (dep+1) [.code vi] [(0,x0)] H Q:=⟨fun g=>aH (live:=yO) (cut:=zt) (n:=500) (Eq.mp (by kernel_rfl) (h g))⟩
def qz(dep:Nat)(g:Nat→AV)(x4 x14 x12 x13:AV)(H:Heap)(Q:AV→Heap→Prop):Prop :=
 doQ (Zp 3 14 13 x14 x13) fun v1 =>
 br (some v1) (
 doQ (Zu H 41 x12 x14) fun v2 =>
 doQ (Zb H 38 v2) fun v3 =>
 doW (Zm H dep 6 38) fun v4 H1 =>
 doW (Zo H1 38 v4 v3) fun v5 H2 =>
 doQ (Zb H2 38 v4) fun v6 =>
 doW (aF env true (limf env) (limt env (dep+1)) H2 (⟨(dep+1),19,Heap.gen H2 (dep+1) 19,0⟩:Ref) (some (.fn (.func 70) [] [])) [v6]) fun v7 H3 =>
 doQ (Ze 42 19 0 v7) fun v8 =>
 gQ v8 false (ZF x4) fun v9 =>
 gQ v8 false (Zb H3 38 v4) fun v10 =>
 gW v8 false H3 (aF env true (limf env) (limt env (dep+1)) H3 (⟨(dep+1),24,Heap.gen H3 (dep+1) 24,0⟩:Ref) (some (.fn (.func 193) [] [])) [v9,v10]) fun v11 H4 =>
 gQ v8 false (Ze 42 24 0 v11) fun v12 =>
 doQ (Zl v8 v12) fun v13 =>
 br (some v13) (
 Q (.tup [(.v (.pointer none)),(.v (.bool false))]) H4) (
 doQ (ZN x4) fun v14 =>
 doQ (Zd 266 v14 0) fun v15 =>
 doQ (Zb H4 41 v15) fun v16 =>
 doQ (Zb H4 38 v4) fun v17 =>
 doW (Z5 H4 dep 33 41 1 0 v17) fun v18 H5 =>
 doW (ZS H5 dep 34 41 41 v16 v18) fun v19 H6 =>
 doQ (ZN x4) fun v20 =>
 doQ (Zd 266 v20 0) fun v21 =>
 doW (Zo H6 41 v21 v19) fun v22 H7 =>
 doQ (Zd 38 v4 0) fun v23 =>
 doQ (Zb H7 5 v23) fun v24 =>
 doQ (ZK 5 38 v24) fun v25 =>
 br (some v25) (
 doQ (Zd 38 v4 3) fun v26 =>
 doQ (Zb H7 35 v26) fun v27 =>
 doW (ZL dep H7 42 v27) fun v28 H8 =>
 doQ (Zz H8 dep 43 244 v28) fun v29 =>
  GoL env Tryz.f172 (dep+1) mW [(44,(.v (.int .i64 0))),(4,x4),(42,v28),(12,x12),(13,x13),(14,x14),(43,v29)] H8 Q) (
 doQ (Zf 3 14 1 x14) fun v26 =>
  GoL env Tryz.f172 (dep+1) kL [(4,x4),(14,v26),(12,x12),(13,x13)] H7 Q))) (
 Q (.tup [x4,(.v (.bool true))]) H)
theorem yc(dep:Nat)(x4 x14 x12 x13:AV)(H:Heap)(Q:AV→Heap→Prop)(h : ∀g,qz dep g x4 x14 x12 x13 H Q):GoL env Tryz.f172 (dep+1) kL [(4,x4),(14,x14),(12,x12),(13,x13)] H Q:=cU fun g=>aH (live:=yO) (cut:=zt) (n:=500) (Eq.mp (by kernel_rfl) (h g))
def sc(dep:Nat)(g:Nat→AV)(x44 x4 x42 x12 x13 x14 x43:AV)(H:Heap)(Q:AV→Heap→Prop):Prop :=
 doQ (Zp 3 44 43 x44 x43) fun v1 =>
 br (some v1) (
 doQ (Zu H 244 x42 x44) fun v2 =>
 doQ (Zb H 33 v2) fun v3 =>
 doW (Zm H dep 8 33) fun v4 H1 =>
 doW (Zo H1 33 v4 v3) fun v5 H2 =>
 doQ (ZN x4) fun v6 =>
 doQ (Zd 266 v6 1) fun v7 =>
 doQ (Zb H2 264 v7) fun v8 =>
 doQ (Zb H2 33 v4) fun v9 =>
 doW (da env.P H2 264 (some v8) (some v9) (some (AV.v (Value.bool true)))) fun v10 H3 =>
 doQ (Zf 3 44 1 x44) fun v11 =>
  GoL env Tryz.f172 (dep+1) mW [(44,v11),(4,x4),(42,x42),(12,x12),(13,x13),(14,x14),(43,x43)] H3 Q) (
 doQ (Zf 3 14 1 x14) fun v2 =>
  GoL env Tryz.f172 (dep+1) kL [(4,x4),(14,v2),(12,x12),(13,x13)] H Q)
theorem wH(dep:Nat)(x44 x4 x42 x12 x13 x14 x43:AV)(H:Heap)(Q:AV→Heap→Prop)(h : ∀g,sc dep g x44 x4 x42 x12 x13 x14 x43 H Q):GoL env Tryz.f172 (dep+1) mW [(44,x44),(4,x4),(42,x42),(12,x12),(13,x13),(14,x14),(43,x43)] H Q:=cU fun g=>aH (live:=yO) (cut:=zt) (n:=500) (Eq.mp (by kernel_rfl) (h g))
noncomputable def gx:Code:=(Tryz.f193.body).getD .skip
def lH:Nat→Option (List Nat):=fun i=>none
def l4:Nat→Bool:=fun i=>false
def cZ(dep:Nat)(g:Nat→AV)(x0 x1:AV)(H:Heap)(Q:AV→Heap→Prop):Prop :=
 doW (Zi H dep 3 38 x1) fun v1 H1 =>
 doQ (ff env.P 271 (some [(1,(.fn (.func 218) [] [])),(2,(.fn (.func 219) [] [])),(3,(.fn (.func 220) [] []))])) fun v2 =>
 doQ (Zd 38 v1 0) fun v3 =>
 doQ (Zb H1 5 v3) fun v4 =>
 doQ (ov env.P 271 (some v2) (some v4)) fun v5 =>
 doQ (Zb H1 38 v1) fun v6 =>
 doW (ZR dep H1 12 v5 x0 v6) fun v7 H2 =>
 doQ (Zk 42 13 0 v7) fun v8 =>
 gQ v8 true (ZF x0) fun v9 =>
 gQ v8 true (ZN v9) fun v10 =>
 gQ v8 true (Zd 266 v10 0) fun v11 =>
 gQ v8 true (Zb H2 41 v11) fun v12 =>
 gQ v8 true (Zz H2 dep 20 41 v12) fun v13 =>
 gQ v8 true (Zq 3 20 2048 v13) fun v14 =>
 doQ (Zg v8 v14) fun v15 =>
 br (some v15) (
 Q (.v (.int .i64 4)) H2) (
 Q v7 H2)
theorem lx(dep:Nat)(x0 x1:AV)(H:Heap)(Q:AV→Heap→Prop)(h : ∀g,cZ dep g x0 x1 H Q):GoL env Tryz.f193 (dep+1) [.code gx] [(0,x0),(1,x1)] H Q:=⟨fun g=>aH (live:=lH) (cut:=l4) (n:=500) (Eq.mp (by kernel_rfl) (h g))⟩
noncomputable def rM:Code:=(Tryz.f213.body).getD .skip
noncomputable def kg:List Item:=(bL 2 400 [.code rM]).getD []
def wO:Nat→Option (List Nat):=fun i=>cond (Nat.beq i 2) (some [8,2,1,7]) (none)
def wV:Nat→Bool:=fun i=>false
def xe(g:Nat→AV)(x0:AV)(H:Heap)(Q:AV→Heap→Prop):Prop :=
 doW (Zc H 1 35 x0) fun v1 H1 =>
 doQ (Zd 35 v1 1) fun v2 =>
 doQ (Zb H1 3 v2) fun v3 =>
  GoL env Tryz.f213 0 kg [(8,(.v (.int .i64 0))),(2,(.v (.slice none 0 0))),(1,v1),(7,v3)] H1 Q
theorem CF(x0:AV)(H:Heap)(Q:AV→Heap→Prop)(h : ∀g,xe g x0 H Q):GoL env Tryz.f213 0 [.code rM] [(0,x0)] H Q:=⟨fun g=>aH (live:=wO) (cut:=wV) (n:=500) (Eq.mp (by kernel_rfl) (h g))⟩
def mJ(g:Nat→AV)(x8 x2 x1 x7:AV)(H:Heap)(Q:AV→Heap→Prop):Prop :=
 doQ (Zp 3 8 7 x8 x7) fun v1 =>
 br (some v1) (
 doQ (Zb H 35 x1) fun v2 =>
 doW (Za true H 14 228 [v2,x8]) fun v3 H1 =>
 doQ (Zx v3 0) fun v4 =>
 doQ (Zx v3 1) fun v5 =>
 doW (Zj H1 4 33) fun v6 H2 =>
 doW (Zo H2 33 v6 v4) fun v7 H3 =>
 doQ (Zb H3 33 v6) fun v8 =>
 doW (ZD H3 19 244 1 0 v8) fun v9 H4 =>
 doW (Zt H4 20 244 244 x2 v9) fun v10 H5 =>
 doQ (Zf 3 8 1 x8) fun v11 =>
  GoL env Tryz.f213 0 kg [(8,v11),(2,v10),(1,x1),(7,x7)] H5 Q) (
 Q x2 H)
theorem sP(x8 x2 x1 x7:AV)(H:Heap)(Q:AV→Heap→Prop)(h : ∀g,mJ g x8 x2 x1 x7 H Q):GoL env Tryz.f213 0 kg [(8,x8),(2,x2),(1,x1),(7,x7)] H Q:=cU fun g=>aH (live:=wO) (cut:=wV) (n:=500) (Eq.mp (by kernel_rfl) (h g))
noncomputable def fP:Code:=(Tryz.f218.body).getD .skip
def kJ:Nat→Option (List Nat):=fun i=>none
def kO:Nat→Bool:=fun i=>false
def cR(dep:Nat)(g:Nat→AV)(x0 x1:AV)(H:Heap)(Q:AV→Heap→Prop):Prop :=
 doW (Zi H dep 2 230 x0) fun v1 H1 =>
 doW (Zi H1 dep 3 38 x1) fun v2 H2 =>
 doQ (Zd 38 v2 4) fun v3 =>
 doQ (Zb H2 33 v3) fun v4 =>
 doQ (Z6 33) fun v5 =>
 doQ (Zv 33 8 9 v4 v5) fun v6 =>
 gQ v6 true (Zb H2 230 v1) fun v7 =>
 gQ v6 true (Zb H2 38 v2) fun v8 =>
 gQ v6 true (Zd 38 v2 4) fun v9 =>
 gQ v6 true (Zb H2 33 v9) fun v10 =>
 gW v6 true H2 (Z0 dep H2 16 v7 v8 v10) fun v11 H3 =>
 gQ v6 true (ZE v11) fun v12 =>
 doQ (Zg v6 v12) fun v13 =>
 br (some v13) (
 Q (.v (.int .i64 6)) H3) (
 doQ (Zb H3 38 v2) fun v14 =>
 doW (aF env true (limf env) (limt env (dep+1)) H3 (⟨(dep+1),21,Heap.gen H3 (dep+1) 21,0⟩:Ref) (some (.fn (.func 231) [] [])) [v14]) fun v15 H4 =>
 doQ (Zx v15 0) fun v16 =>
 doQ (Zx v15 1) fun v17 =>
 doW (Zm H4 dep 5 249) fun v18 H5 =>
 doW (Zo H5 249 v18 v16) fun v19 H6 =>
 doQ (Ze 42 24 0 v17) fun v20 =>
 gQ v20 false (Zd 38 v2 3) fun v21 =>
 gQ v20 false (Zb H6 35 v21) fun v22 =>
 gW v20 false H6 (ZL dep H6 29 v22) fun v23 H7 =>
 gQ v20 false (rf (.func 233) (some []) (some [v1])) fun v24 =>
 gW v20 false H7 (Z1 dep H7 31 v23 v24) fun v25 H8 =>
 doQ (Zl v20 v25) fun v26 =>
 br (some v26) (
 Q (.v (.int .i64 2)) H8) (
 doQ (Zb H8 230 v1) fun v27 =>
 doQ (ZN v27) fun v28 =>
 doQ (Zd 266 v28 1) fun v29 =>
 doQ (Zb H8 264 v29) fun v30 =>
 doQ (Zz H8 dep 37 264 v30) fun v31 =>
 doQ (Zd 38 v2 3) fun v32 =>
 doQ (Zd 35 v32 1) fun v33 =>
 doQ (Zb H8 3 v33) fun v34 =>
 doQ (ZG 3 37 40 v31 v34) fun v35 =>
 doQ (Zr 3 41 8192 v35) fun v36 =>
 br (some v36) (
 Q (.v (.int .i64 4)) H8) (
 Q (.v (.int .i64 0)) H8)))
theorem kE(dep:Nat)(x0 x1:AV)(H:Heap)(Q:AV→Heap→Prop)(h : ∀g,cR dep g x0 x1 H Q):GoL env Tryz.f218 (dep+1) [.code fP] [(0,x0),(1,x1)] H Q:=⟨fun g=>aH (live:=kJ) (cut:=kO) (n:=500) (Eq.mp (by kernel_rfl) (h g))⟩
noncomputable def fO:Code:=(Tryz.f219.body).getD .skip
def kI:Nat→Option (List Nat):=fun i=>none
def kN:Nat→Bool:=fun i=>false
def fR(dep:Nat)(g:Nat→AV)(x0 x1:AV)(H:Heap)(Q:AV→Heap→Prop):Prop :=
 doW (Zi H dep 3 38 x1) fun v1 H1 =>
 doQ (Zb H1 38 v1) fun v2 =>
 doW (Z3 dep H1 8 x0 v2) fun v3 H2 =>
 doQ (ZE v3) fun v4 =>
 br (some v4) (
 Q (.v (.int .i64 6)) H2) (
 doQ (Zd 38 v1 3) fun v5 =>
 doQ (Zd 35 v5 0) fun v6 =>
 doQ (Zd 33 v6 0) fun v7 =>
 doQ (Zd 31 v7 0) fun v8 =>
 doQ (Zb H2 29 v8) fun v9 =>
 doQ (Zd 38 v1 1) fun v10 =>
 doQ (Zd 31 v10 0) fun v11 =>
 doQ (Zb H2 29 v11) fun v12 =>
 doQ (Zv 29 15 18 v9 v12) fun v13 =>
 br (some v13) (
 Q (.v (.int .i64 2)) H2) (
 Q (.v (.int .i64 0)) H2))
theorem kD(dep:Nat)(x0 x1:AV)(H:Heap)(Q:AV→Heap→Prop)(h : ∀g,fR dep g x0 x1 H Q):GoL env Tryz.f219 (dep+1) [.code fO] [(0,x0),(1,x1)] H Q:=⟨fun g=>aH (live:=kI) (cut:=kN) (n:=500) (Eq.mp (by kernel_rfl) (h g))⟩
noncomputable def fV:Code:=(Tryz.f220.body).getD .skip
def kZ:Nat→Option (List Nat):=fun i=>none
def k8:Nat→Bool:=fun i=>false
def fX(dep:Nat)(g:Nat→AV)(x0 x1:AV)(H:Heap)(Q:AV→Heap→Prop):Prop :=
 doW (Zi H dep 3 38 x1) fun v1 H1 =>
 doQ (Zb H1 38 v1) fun v2 =>
 doW (Z3 dep H1 9 x0 v2) fun v3 H2 =>
 doQ (ZE v3) fun v4 =>
 br (some v4) (
 Q (.v (.int .i64 6)) H2) (
 doQ (ZN x0) fun v5 =>
 doQ (Zd 266 v5 0) fun v6 =>
 doQ (Zb H2 41 v6) fun v7 =>
 doQ (Zb H2 38 v1) fun v8 =>
 doW (aF env false (limf env) (limt env (dep+1)) H2 (⟨(dep+1),17,Heap.gen H2 (dep+1) 17,0⟩:Ref) (some (.fn (.func 235) [] [])) [v7,v8]) fun v9 H3 =>
 doQ (Zx v9 0) fun v10 =>
 doQ (Zx v9 1) fun v11 =>
 doQ (Ze 42 20 0 v11) fun v12 =>
 gQ v12 false (ZF v10) fun v13 =>
 gQ v12 false (ZE v13) fun v14 =>
 doQ (Zl v12 v14) fun v15 =>
 br (some v15) (
 Q (.v (.int .i64 2)) H3) (
 Q (.v (.int .i64 0)) H3))
theorem kX(dep:Nat)(x0 x1:AV)(H:Heap)(Q:AV→Heap→Prop)(h : ∀g,fX dep g x0 x1 H Q):GoL env Tryz.f220 (dep+1) [.code fV] [(0,x0),(1,x1)] H Q:=⟨fun g=>aH (live:=kZ) (cut:=k8) (n:=500) (Eq.mp (by kernel_rfl) (h g))⟩
noncomputable def gw:Code:=(Tryz.f230.body).getD .skip
def lG:Nat→Option (List Nat):=fun i=>none
def lZ:Nat→Bool:=fun i=>false
def dQ(dep:Nat)(g:Nat→AV)(x0 x1 x2:AV)(H:Heap)(Q:AV→Heap→Prop):Prop :=
 doW (Zi H dep 4 38 x1) fun v1 H1 =>
 doW (Zi H1 dep 5 33 x2) fun v2 H2 =>
 doQ (ZN x0) fun v3 =>
 doQ (Zd 266 v3 1) fun v4 =>
 doQ (Zb H2 264 v4) fun v5 =>
 doQ (Zb H2 33 v2) fun v6 =>
 doQ (ZI H2 264 v5 v6) fun v7 =>
 gQ v7 true (Zd 33 v2 0) fun v8 =>
 gQ v7 true (Zd 31 v8 0) fun v9 =>
 gQ v7 true (Zb H2 29 v9) fun v10 =>
 gQ v7 true (Zd 38 v1 1) fun v11 =>
 gQ v7 true (Zd 31 v11 0) fun v12 =>
 gQ v7 true (Zb H2 29 v12) fun v13 =>
 gW v7 true H2 (aF env false (limf env) (limt env (dep+1)) H2 (⟨(dep+1),20,Heap.gen H2 (dep+1) 20,0⟩:Ref) (some (.fn (.func 47) [] [])) [v10,v13]) fun v14 H3 =>
 doQ (Zg v7 v14) fun v15 =>
 Q v15 H3
theorem lu(dep:Nat)(x0 x1 x2:AV)(H:Heap)(Q:AV→Heap→Prop)(h : ∀g,dQ dep g x0 x1 x2 H Q):GoL env Tryz.f230 (dep+1) [.code gw] [(0,x0),(1,x1),(2,x2)] H Q:=⟨fun g=>aH (live:=lG) (cut:=lZ) (n:=500) (Eq.mp (by kernel_rfl) (h g))⟩
noncomputable def ck:Code:=(Tryz.f232.body).getD .skip
def dT:Nat→Option (List Nat):=fun i=>none
def dU:Nat→Bool:=fun i=>false
def cl(dep:Nat)(g:Nat→AV)(x0 x1:AV)(H:Heap)(Q:AV→Heap→Prop):Prop :=
 doW (aF env true (limf env) (limt env (dep+1)) H (⟨(dep+1),7,Heap.gen H (dep+1) 7,0⟩:Ref) (some (.fn (.func 241) [] [])) [x0,x1]) fun v1 H1 =>
 doQ (Zq 3 7 0 v1) fun v2 =>
 Q v2 H1
theorem dS(dep:Nat)(x0 x1:AV)(H:Heap)(Q:AV→Heap→Prop)(h : ∀g,cl dep g x0 x1 H Q):GoL env Tryz.f232 (dep+1) [.code ck] [(0,x0),(1,x1)] H Q:=⟨fun g=>aH (live:=dT) (cut:=dU) (n:=500) (Eq.mp (by kernel_rfl) (h g))⟩
noncomputable def fk:Code:=(Tryz.f233.body).getD .skip
def jN:Nat→Option (List Nat):=fun i=>none
def jQ:Nat→Bool:=fun i=>false
def fp(dep:Nat)(g:Nat→AV)(x0 x1:AV)(H:Heap)(Q:AV→Heap→Prop):Prop :=
 doW (Zi H dep 2 33 x0) fun v1 H1 =>
 doQ (Zb H1 230 x1) fun v2 =>
 doQ (ZN v2) fun v3 =>
 doQ (Zd 266 v3 1) fun v4 =>
 doQ (Zb H1 264 v4) fun v5 =>
 doQ (Zb H1 33 v1) fun v6 =>
 doQ (ZI H1 264 v5 v6) fun v7 =>
 Q v7 H1
theorem jJ(dep:Nat)(x0 x1:AV)(H:Heap)(Q:AV→Heap→Prop)(h : ∀g,fp dep g x0 x1 H Q):GoL env Tryz.f233 (dep+1) [.code fk] [(0,x0),(1,x1)] H Q:=⟨fun g=>aH (live:=jN) (cut:=jQ) (n:=500) (Eq.mp (by kernel_rfl) (h g))⟩
noncomputable def gK:Code:=(Tryz.f234.body).getD .skip
def mj:Nat→Option (List Nat):=fun i=>none
def mo:Nat→Bool:=fun i=>false
def gM(dep:Nat)(g:Nat→AV)(x0 x1:AV)(H:Heap)(Q:AV→Heap→Prop):Prop :=
 doW (Zi H dep 2 230 x0) fun v1 H1 =>
 doW (Zi H1 dep 3 38 x1) fun v2 H2 =>
 doQ (Zd 38 v2 3) fun v3 =>
 doQ (Zb H2 35 v3) fun v4 =>
 doW (ZL dep H2 7 v4) fun v5 H3 =>
 doQ (rf (.func 242) (some []) (some [v1,v2])) fun v6 =>
 doW (Z1 dep H3 9 v5 v6) fun v7 H4 =>
 doQ (ZE v7) fun v8 =>
 Q v8 H4
theorem mh(dep:Nat)(x0 x1:AV)(H:Heap)(Q:AV→Heap→Prop)(h : ∀g,gM dep g x0 x1 H Q):GoL env Tryz.f234 (dep+1) [.code gK] [(0,x0),(1,x1)] H Q:=⟨fun g=>aH (live:=mj) (cut:=mo) (n:=500) (Eq.mp (by kernel_rfl) (h g))⟩
noncomputable def bE:Code:=(Tryz.f241.body).getD .skip
noncomputable def aQ:List Item:=(bL 2 400 [.code bE]).getD []
def cH:Nat→Option (List Nat):=fun i=>cond (Nat.beq i 2) (some [8,0,1,7]) (none)
def cI:Nat→Bool:=fun i=>false
def cJ(dep:Nat)(g:Nat→AV)(x0 x1:AV)(H:Heap)(Q:AV→Heap→Prop):Prop :=
 doQ (Zz H dep 7 244 x0) fun v1 =>
  GoL env Tryz.f241 (dep+1) aQ [(8,(.v (.int .i64 0))),(0,x0),(1,x1),(7,v1)] H Q
theorem eI(dep:Nat)(x0 x1:AV)(H:Heap)(Q:AV→Heap→Prop)(h : ∀g,cJ dep g x0 x1 H Q):GoL env Tryz.f241 (dep+1) [.code bE] [(0,x0),(1,x1)] H Q:=⟨fun g=>aH (live:=cH) (cut:=cI) (n:=500) (Eq.mp (by kernel_rfl) (h g))⟩
def bD(dep:Nat)(g:Nat→AV)(x8 x0 x1 x7:AV)(H:Heap)(Q:AV→Heap→Prop):Prop :=
 doQ (Zp 3 8 7 x8 x7) fun v1 =>
 br (some v1) (
 doQ (Zu H 244 x0 x8) fun v2 =>
 doQ (Zb H 33 v2) fun v3 =>
 doW (ZB dep H 16 x1 v3) fun v4 H1 =>
 br (some v4) (
 Q x8 H1) (
 doQ (Zf 3 8 1 x8) fun v5 =>
  GoL env Tryz.f241 (dep+1) aQ [(8,v5),(0,x0),(1,x1),(7,x7)] H1 Q)) (
 Q (.v (.int .i64 (-1))) H)
theorem cp(dep:Nat)(x8 x0 x1 x7:AV)(H:Heap)(Q:AV→Heap→Prop)(h : ∀g,bD dep g x8 x0 x1 x7 H Q):GoL env Tryz.f241 (dep+1) aQ [(8,x8),(0,x0),(1,x1),(7,x7)] H Q:=cU fun g=>aH (live:=cH) (cut:=cI) (n:=500) (Eq.mp (by kernel_rfl) (h g))
noncomputable def fW:Code:=(Tryz.f242.body).getD .skip
def k6:Nat→Option (List Nat):=fun i=>none
def lb:Nat→Bool:=fun i=>false
def fY(dep:Nat)(g:Nat→AV)(x0 x1 x2:AV)(H:Heap)(Q:AV→Heap→Prop):Prop :=
 doW (Zi H dep 3 33 x0) fun v1 H1 =>
 doQ (Zb H1 230 x1) fun v2 =>
 doQ (Zb H1 38 x2) fun v3 =>
 doQ (Zb H1 33 v1) fun v4 =>
 doW (Z0 dep H1 8 v2 v3 v4) fun v5 H2 =>
 doQ (ZE v5) fun v6 =>
 Q v6 H2
theorem kY(dep:Nat)(x0 x1 x2:AV)(H:Heap)(Q:AV→Heap→Prop)(h : ∀g,fY dep g x0 x1 x2 H Q):GoL env Tryz.f242 (dep+1) [.code fW] [(0,x0),(1,x1),(2,x2)] H Q:=⟨fun g=>aH (live:=k6) (cut:=lb) (n:=500) (Eq.mp (by kernel_rfl) (h g))⟩
end Go.Proofs.YtmkmimgokagimaaGreat
