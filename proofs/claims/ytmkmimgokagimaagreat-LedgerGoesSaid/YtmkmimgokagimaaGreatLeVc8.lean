/-
  What is to be shown of each function, computed from its code. No statement of a seat is proved here.
-/
import Derived.Test.YtmkmimgokagimaaGreatLeTy
set_option linter.unusedVariables false
set_option maxRecDepth 1000000
namespace Go.Proofs.YtmkmimgokagimaaGreat
open Go.Ab
noncomputable def wP:Code:=(Tryz.f137.body).getD .skip
def BX:Nat→Option (List Nat):=fun i=>none
def Cm:Nat→Bool:=fun i=>false
def o7(g:Nat→AV)(x0 x1:AV)(H:Heap)(Q:AV→Heap→Prop):Prop :=
 doW (Zc H 3 38 x1) fun v1 H1 =>
 doW (Za true H1 10 172 [x0]) fun v2 H2 =>
 doQ (ZE v2 0) fun v3 =>
 doQ (ZE v2 1) fun v4 =>
 doQ (ZC v4) fun v5 =>
 br (some v5) (
 Q (.v (.int .i64 8)) H2) (
 doQ (Zb H2 38 v1) fun v6 =>
 doW (Za true H2 16 70 [v6]) fun v7 H3 =>
 doQ (Zf 42 17 0 v7) fun v8 =>
 br (some v8) (
 Q v7 H3) (
 doQ (Zb H3 38 v1) fun v9 =>
 doW (Za true H3 22 193 [v3,v9]) fun v10 H4 =>
 Q v10 H4))
theorem Bq(x0 x1:AV)(H:Heap)(Q:AV→Heap→Prop)(h : ∀g,o7 g x0 x1 H Q):GoL env Tryz.f137 0 [.code wP] [(0,x0),(1,x1)] H Q:=⟨fun g=>aU (live:=BX) (cut:=Cm) (n:=500) (Eq.mp (by kernel_rfl) (h g))⟩
noncomputable def sN:Code:=(Tryz.f172.body).getD .skip
noncomputable def jA:List Item:=(bM 3 400 [.code sN]).getD []
noncomputable def lL:List Item:=(bM 10 400 [.code sN]).getD []
def vU:Nat→Option (List Nat):=fun i=>cond (Nat.beq i 3) (some [4,14,12,13]) (cond (Nat.beq i 10) (some [44,4,42,12,13,14,43]) (none))
def wE:Nat→Bool:=fun i=>false
def Bc(dep:Nat)(g:Nat→AV)(x0:AV)(H:Heap)(Q:AV→Heap→Prop):Prop :=
 doW (ZN H dep 9) fun v1 H1 =>
 doQ (Yd 266 1 v1) fun v2 =>
 doW (Zi H1 dep 11 266 v2) fun v3 H2 =>
 doQ (Zy H2 dep 13 41 x0) fun v4 =>
  GoL env Tryz.f172 (dep+1) jA [(4,v3),(14,(.v (.int .i64 0))),(12,x0),(13,v4)] H2 Q
theorem EO(dep:Nat)(x0:AV)(H:Heap)(Q:AV→Heap→Prop)(h : ∀g,Bc dep g x0 H Q):GoL env Tryz.f172 (dep+1) [.code sN] [(0,x0)] H Q:=⟨fun g=>aU (live:=vU) (cut:=wE) (n:=500) (Eq.mp (by kernel_rfl) (h g))⟩
def o6(dep:Nat)(g:Nat→AV)(x4 x14 x12 x13:AV)(H:Heap)(Q:AV→Heap→Prop):Prop :=
 doQ (Zn 3 14 13 x14 x13) fun v1 =>
 br (some v1) (
 doQ (Zu H 41 x12 x14) fun v2 =>
 doQ (Zb H 38 v2) fun v3 =>
 doW (Zr H dep 6 38) fun v4 H1 =>
 doW (Zp H1 38 v4 v3) fun v5 H2 =>
 doQ (Zb H2 38 v4) fun v6 =>
 doW (aG env true (limf env) (limt env (dep+1)) H2 (⟨(dep+1),19,Heap.gen H2 (dep+1) 19,0⟩:Ref) (some (.fn (.func 70) [] [])) [v6]) fun v7 H3 =>
 doQ (Zf 42 19 0 v7) fun v8 =>
 gQ v8 false (ZF x4) fun v9 =>
 gQ v8 false (Zb H3 38 v4) fun v10 =>
 gW v8 false H3 (aG env true (limf env) (limt env (dep+1)) H3 (⟨(dep+1),24,Heap.gen H3 (dep+1) 24,0⟩:Ref) (some (.fn (.func 193) [] [])) [v9,v10]) fun v11 H4 =>
 gQ v8 false (Zf 42 24 0 v11) fun v12 =>
 doQ (Zm v8 v12) fun v13 =>
 br (some v13) (
 Q (.tup [(.v (.pointer none)),(.v (.bool false))]) H4) (
 doQ (ZO x4) fun v14 =>
 doQ (Zd 266 v14 0) fun v15 =>
 doQ (Zb H4 41 v15) fun v16 =>
 doQ (Zb H4 38 v4) fun v17 =>
 doW (Z4 H4 dep 33 41 1 0 v17) fun v18 H5 =>
 doW (ZR H5 dep 34 41 41 v16 v18) fun v19 H6 =>
 doQ (ZO x4) fun v20 =>
 doQ (Zd 266 v20 0) fun v21 =>
 doW (Zp H6 41 v21 v19) fun v22 H7 =>
 doQ (Zd 38 v4 0) fun v23 =>
 doQ (Zb H7 5 v23) fun v24 =>
 doQ (ZK 5 38 v24) fun v25 =>
 br (some v25) (
 doQ (Zd 38 v4 3) fun v26 =>
 doQ (Zb H7 35 v26) fun v27 =>
 doW (ZM dep H7 42 v27) fun v28 H8 =>
 doQ (Zy H8 dep 43 244 v28) fun v29 =>
  GoL env Tryz.f172 (dep+1) lL [(44,(.v (.int .i64 0))),(4,x4),(42,v28),(12,x12),(13,x13),(14,x14),(43,v29)] H8 Q) (
 doQ (Ze 3 14 1 x14) fun v26 =>
  GoL env Tryz.f172 (dep+1) jA [(4,x4),(14,v26),(12,x12),(13,x13)] H7 Q))) (
 Q (.tup [x4,(.v (.bool true))]) H)
theorem vn(dep:Nat)(x4 x14 x12 x13:AV)(H:Heap)(Q:AV→Heap→Prop)(h : ∀g,o6 dep g x4 x14 x12 x13 H Q):GoL env Tryz.f172 (dep+1) jA [(4,x4),(14,x14),(12,x12),(13,x13)] H Q:=cW fun g=>aU (live:=vU) (cut:=wE) (n:=500) (Eq.mp (by kernel_rfl) (h g))
def qm(dep:Nat)(g:Nat→AV)(x44 x4 x42 x12 x13 x14 x43:AV)(H:Heap)(Q:AV→Heap→Prop):Prop :=
 doQ (Zn 3 44 43 x44 x43) fun v1 =>
 br (some v1) (
 doQ (Zu H 244 x42 x44) fun v2 =>
 doQ (Zb H 33 v2) fun v3 =>
 doW (Zr H dep 8 33) fun v4 H1 =>
 doW (Zp H1 33 v4 v3) fun v5 H2 =>
 doQ (ZO x4) fun v6 =>
 doQ (Zd 266 v6 1) fun v7 =>
 doQ (Zb H2 264 v7) fun v8 =>
 doQ (Zb H2 33 v4) fun v9 =>
 doW (cI env.P H2 264 (some v8) (some v9) (some (AV.v (Value.bool true)))) fun v10 H3 =>
 doQ (Ze 3 44 1 x44) fun v11 =>
  GoL env Tryz.f172 (dep+1) lL [(44,v11),(4,x4),(42,x42),(12,x12),(13,x13),(14,x14),(43,x43)] H3 Q) (
 doQ (Ze 3 14 1 x14) fun v2 =>
  GoL env Tryz.f172 (dep+1) jA [(4,x4),(14,v2),(12,x12),(13,x13)] H Q)
theorem tP(dep:Nat)(x44 x4 x42 x12 x13 x14 x43:AV)(H:Heap)(Q:AV→Heap→Prop)(h : ∀g,qm dep g x44 x4 x42 x12 x13 x14 x43 H Q):GoL env Tryz.f172 (dep+1) lL [(44,x44),(4,x4),(42,x42),(12,x12),(13,x13),(14,x14),(43,x43)] H Q:=cW fun g=>aU (live:=vU) (cut:=wE) (n:=500) (Eq.mp (by kernel_rfl) (h g))
noncomputable def fH:Code:=(Tryz.f193.body).getD .skip
def kq:Nat→Option (List Nat):=fun i=>none
def kN:Nat→Bool:=fun i=>false
def cH(dep:Nat)(g:Nat→AV)(x0 x1:AV)(H:Heap)(Q:AV→Heap→Prop):Prop :=
 doW (Zi H dep 3 38 x1) fun v1 H1 =>
 doQ (eB env.P 271 (some [(1,(.fn (.func 218) [] [])),(2,(.fn (.func 219) [] [])),(3,(.fn (.func 220) [] []))])) fun v2 =>
 doQ (Zd 38 v1 0) fun v3 =>
 doQ (Zb H1 5 v3) fun v4 =>
 doQ (mW env.P 271 (some v2) (some v4)) fun v5 =>
 doQ (Zb H1 38 v1) fun v6 =>
 doW (ZI dep H1 12 v5 x0 v6) fun v7 H2 =>
 doQ (Zj 42 13 0 v7) fun v8 =>
 gQ v8 true (ZF x0) fun v9 =>
 gQ v8 true (ZO v9) fun v10 =>
 gQ v8 true (Zd 266 v10 0) fun v11 =>
 gQ v8 true (Zb H2 41 v11) fun v12 =>
 gQ v8 true (Zy H2 dep 20 41 v12) fun v13 =>
 gQ v8 true (Zo 3 20 2048 v13) fun v14 =>
 doQ (Zg v8 v14) fun v15 =>
 br (some v15) (
 Q (.v (.int .i64 4)) H2) (
 Q v7 H2)
theorem jY(dep:Nat)(x0 x1:AV)(H:Heap)(Q:AV→Heap→Prop)(h : ∀g,cH dep g x0 x1 H Q):GoL env Tryz.f193 (dep+1) [.code fH] [(0,x0),(1,x1)] H Q:=⟨fun g=>aU (live:=kq) (cut:=kN) (n:=500) (Eq.mp (by kernel_rfl) (h g))⟩
noncomputable def p4:Code:=(Tryz.f213.body).getD .skip
noncomputable def je:List Item:=(bM 2 400 [.code p4]).getD []
def tX:Nat→Option (List Nat):=fun i=>cond (Nat.beq i 2) (some [8,2,1,7]) (none)
def uh:Nat→Bool:=fun i=>false
def uA(g:Nat→AV)(x0:AV)(H:Heap)(Q:AV→Heap→Prop):Prop :=
 doW (Zc H 1 35 x0) fun v1 H1 =>
 doQ (Zd 35 v1 1) fun v2 =>
 doQ (Zb H1 3 v2) fun v3 =>
  GoL env Tryz.f213 0 je [(8,(.v (.int .i64 0))),(2,(.v (.slice none 0 0))),(1,v1),(7,v3)] H1 Q
theorem Ag(x0:AV)(H:Heap)(Q:AV→Heap→Prop)(h : ∀g,uA g x0 H Q):GoL env Tryz.f213 0 [.code p4] [(0,x0)] H Q:=⟨fun g=>aU (live:=tX) (cut:=uh) (n:=500) (Eq.mp (by kernel_rfl) (h g))⟩
def lC(g:Nat→AV)(x8 x2 x1 x7:AV)(H:Heap)(Q:AV→Heap→Prop):Prop :=
 doQ (Zn 3 8 7 x8 x7) fun v1 =>
 br (some v1) (
 doQ (Zb H 35 x1) fun v2 =>
 doW (Za true H 14 228 [v2,x8]) fun v3 H1 =>
 doQ (ZE v3 0) fun v4 =>
 doQ (ZE v3 1) fun v5 =>
 doW (Zk H1 4 33) fun v6 H2 =>
 doW (Zp H2 33 v6 v4) fun v7 H3 =>
 doQ (Zb H3 33 v6) fun v8 =>
 doW (ZA H3 19 244 1 0 v8) fun v9 H4 =>
 doW (Zt H4 20 244 244 x2 v9) fun v10 H5 =>
 doQ (Ze 3 8 1 x8) fun v11 =>
  GoL env Tryz.f213 0 je [(8,v11),(2,v10),(1,x1),(7,x7)] H5 Q) (
 Q x2 H)
theorem qO(x8 x2 x1 x7:AV)(H:Heap)(Q:AV→Heap→Prop)(h : ∀g,lC g x8 x2 x1 x7 H Q):GoL env Tryz.f213 0 je [(8,x8),(2,x2),(1,x1),(7,x7)] H Q:=cW fun g=>aU (live:=tX) (cut:=uh) (n:=500) (Eq.mp (by kernel_rfl) (h g))
noncomputable def fc:Code:=(Tryz.f218.body).getD .skip
def jy:Nat→Option (List Nat):=fun i=>none
def jD:Nat→Bool:=fun i=>false
def cy(dep:Nat)(g:Nat→AV)(x0 x1:AV)(H:Heap)(Q:AV→Heap→Prop):Prop :=
 doW (Zi H dep 2 230 x0) fun v1 H1 =>
 doW (Zi H1 dep 3 38 x1) fun v2 H2 =>
 doQ (Zd 38 v2 4) fun v3 =>
 doQ (Zb H2 33 v3) fun v4 =>
 doQ (Z5 33) fun v5 =>
 doQ (Zz 33 8 9 v4 v5) fun v6 =>
 gQ v6 true (Zb H2 230 v1) fun v7 =>
 gQ v6 true (Zb H2 38 v2) fun v8 =>
 gQ v6 true (Zd 38 v2 4) fun v9 =>
 gQ v6 true (Zb H2 33 v9) fun v10 =>
 gW v6 true H2 (ZZ dep H2 16 v7 v8 v10) fun v11 H3 =>
 gQ v6 true (ZC v11) fun v12 =>
 doQ (Zg v6 v12) fun v13 =>
 br (some v13) (
 Q (.v (.int .i64 6)) H3) (
 doQ (Zb H3 38 v2) fun v14 =>
 doW (aG env true (limf env) (limt env (dep+1)) H3 (⟨(dep+1),21,Heap.gen H3 (dep+1) 21,0⟩:Ref) (some (.fn (.func 231) [] [])) [v14]) fun v15 H4 =>
 doQ (ZE v15 0) fun v16 =>
 doQ (ZE v15 1) fun v17 =>
 doW (Zr H4 dep 5 249) fun v18 H5 =>
 doW (Zp H5 249 v18 v16) fun v19 H6 =>
 doQ (Zf 42 24 0 v17) fun v20 =>
 gQ v20 false (Zd 38 v2 3) fun v21 =>
 gQ v20 false (Zb H6 35 v21) fun v22 =>
 gW v20 false H6 (ZM dep H6 29 v22) fun v23 H7 =>
 gQ v20 false (sc (.func 233) (some []) (some [v1])) fun v24 =>
 gW v20 false H7 (Z0 dep H7 31 v23 v24) fun v25 H8 =>
 doQ (Zm v20 v25) fun v26 =>
 br (some v26) (
 Q (.v (.int .i64 2)) H8) (
 doQ (Zb H8 230 v1) fun v27 =>
 doQ (ZO v27) fun v28 =>
 doQ (Zd 266 v28 1) fun v29 =>
 doQ (Zb H8 264 v29) fun v30 =>
 doQ (Zy H8 dep 37 264 v30) fun v31 =>
 doQ (Zd 38 v2 3) fun v32 =>
 doQ (Zd 35 v32 1) fun v33 =>
 doQ (Zb H8 3 v33) fun v34 =>
 doQ (ZB 3 37 40 v31 v34) fun v35 =>
 doQ (Zq 3 41 8192 v35) fun v36 =>
 br (some v36) (
 Q (.v (.int .i64 4)) H8) (
 Q (.v (.int .i64 0)) H8)))
theorem ju(dep:Nat)(x0 x1:AV)(H:Heap)(Q:AV→Heap→Prop)(h : ∀g,cy dep g x0 x1 H Q):GoL env Tryz.f218 (dep+1) [.code fc] [(0,x0),(1,x1)] H Q:=⟨fun g=>aU (live:=jy) (cut:=jD) (n:=500) (Eq.mp (by kernel_rfl) (h g))⟩
noncomputable def fb:Code:=(Tryz.f219.body).getD .skip
def jx:Nat→Option (List Nat):=fun i=>none
def jC:Nat→Bool:=fun i=>false
def ff(dep:Nat)(g:Nat→AV)(x0 x1:AV)(H:Heap)(Q:AV→Heap→Prop):Prop :=
 doW (Zi H dep 3 38 x1) fun v1 H1 =>
 doQ (Zb H1 38 v1) fun v2 =>
 doW (Z2 dep H1 8 x0 v2) fun v3 H2 =>
 doQ (ZC v3) fun v4 =>
 br (some v4) (
 Q (.v (.int .i64 6)) H2) (
 doQ (Zd 38 v1 3) fun v5 =>
 doQ (Zd 35 v5 0) fun v6 =>
 doQ (Zd 33 v6 0) fun v7 =>
 doQ (Zd 31 v7 0) fun v8 =>
 doQ (Zb H2 29 v8) fun v9 =>
 doQ (Zd 38 v1 1) fun v10 =>
 doQ (Zd 31 v10 0) fun v11 =>
 doQ (Zb H2 29 v11) fun v12 =>
 doQ (Zz 29 15 18 v9 v12) fun v13 =>
 br (some v13) (
 Q (.v (.int .i64 2)) H2) (
 Q (.v (.int .i64 0)) H2))
theorem jt(dep:Nat)(x0 x1:AV)(H:Heap)(Q:AV→Heap→Prop)(h : ∀g,ff dep g x0 x1 H Q):GoL env Tryz.f219 (dep+1) [.code fb] [(0,x0),(1,x1)] H Q:=⟨fun g=>aU (live:=jx) (cut:=jC) (n:=500) (Eq.mp (by kernel_rfl) (h g))⟩
noncomputable def fl:Code:=(Tryz.f220.body).getD .skip
def jP:Nat→Option (List Nat):=fun i=>none
def jR:Nat→Bool:=fun i=>false
def fp(dep:Nat)(g:Nat→AV)(x0 x1:AV)(H:Heap)(Q:AV→Heap→Prop):Prop :=
 doW (Zi H dep 3 38 x1) fun v1 H1 =>
 doQ (Zb H1 38 v1) fun v2 =>
 doW (Z2 dep H1 9 x0 v2) fun v3 H2 =>
 doQ (ZC v3) fun v4 =>
 br (some v4) (
 Q (.v (.int .i64 6)) H2) (
 doQ (ZO x0) fun v5 =>
 doQ (Zd 266 v5 0) fun v6 =>
 doQ (Zb H2 41 v6) fun v7 =>
 doQ (Zb H2 38 v1) fun v8 =>
 doW (aG env false (limf env) (limt env (dep+1)) H2 (⟨(dep+1),17,Heap.gen H2 (dep+1) 17,0⟩:Ref) (some (.fn (.func 235) [] [])) [v7,v8]) fun v9 H3 =>
 doQ (ZE v9 0) fun v10 =>
 doQ (ZE v9 1) fun v11 =>
 doQ (Zf 42 20 0 v11) fun v12 =>
 gQ v12 false (ZF v10) fun v13 =>
 gQ v12 false (ZC v13) fun v14 =>
 doQ (Zm v12 v14) fun v15 =>
 br (some v15) (
 Q (.v (.int .i64 2)) H3) (
 Q (.v (.int .i64 0)) H3))
theorem jN(dep:Nat)(x0 x1:AV)(H:Heap)(Q:AV→Heap→Prop)(h : ∀g,fp dep g x0 x1 H Q):GoL env Tryz.f220 (dep+1) [.code fl] [(0,x0),(1,x1)] H Q:=⟨fun g=>aU (live:=jP) (cut:=jR) (n:=500) (Eq.mp (by kernel_rfl) (h g))⟩
noncomputable def fG:Code:=(Tryz.f230.body).getD .skip
def kp:Nat→Option (List Nat):=fun i=>none
def kM:Nat→Bool:=fun i=>false
def dz(dep:Nat)(g:Nat→AV)(x0 x1 x2:AV)(H:Heap)(Q:AV→Heap→Prop):Prop :=
 doW (Zi H dep 4 38 x1) fun v1 H1 =>
 doW (Zi H1 dep 5 33 x2) fun v2 H2 =>
 doQ (ZO x0) fun v3 =>
 doQ (Zd 266 v3 1) fun v4 =>
 doQ (Zb H2 264 v4) fun v5 =>
 doQ (Zb H2 33 v2) fun v6 =>
 doQ (ZG H2 264 v5 v6) fun v7 =>
 gQ v7 true (Zd 33 v2 0) fun v8 =>
 gQ v7 true (Zd 31 v8 0) fun v9 =>
 gQ v7 true (Zb H2 29 v9) fun v10 =>
 gQ v7 true (Zd 38 v1 1) fun v11 =>
 gQ v7 true (Zd 31 v11 0) fun v12 =>
 gQ v7 true (Zb H2 29 v12) fun v13 =>
 gW v7 true H2 (aG env false (limf env) (limt env (dep+1)) H2 (⟨(dep+1),20,Heap.gen H2 (dep+1) 20,0⟩:Ref) (some (.fn (.func 47) [] [])) [v10,v13]) fun v14 H3 =>
 doQ (Zg v7 v14) fun v15 =>
 Q v15 H3
theorem jX(dep:Nat)(x0 x1 x2:AV)(H:Heap)(Q:AV→Heap→Prop)(h : ∀g,dz dep g x0 x1 x2 H Q):GoL env Tryz.f230 (dep+1) [.code fG] [(0,x0),(1,x1),(2,x2)] H Q:=⟨fun g=>aU (live:=kp) (cut:=kM) (n:=500) (Eq.mp (by kernel_rfl) (h g))⟩
noncomputable def bV:Code:=(Tryz.f232.body).getD .skip
def dE:Nat→Option (List Nat):=fun i=>none
def dF:Nat→Bool:=fun i=>false
def bW(dep:Nat)(g:Nat→AV)(x0 x1:AV)(H:Heap)(Q:AV→Heap→Prop):Prop :=
 doW (aG env true (limf env) (limt env (dep+1)) H (⟨(dep+1),7,Heap.gen H (dep+1) 7,0⟩:Ref) (some (.fn (.func 241) [] [])) [x0,x1]) fun v1 H1 =>
 doQ (Zo 3 7 0 v1) fun v2 =>
 Q v2 H1
theorem dD(dep:Nat)(x0 x1:AV)(H:Heap)(Q:AV→Heap→Prop)(h : ∀g,bW dep g x0 x1 H Q):GoL env Tryz.f232 (dep+1) [.code bV] [(0,x0),(1,x1)] H Q:=⟨fun g=>aU (live:=dE) (cut:=dF) (n:=500) (Eq.mp (by kernel_rfl) (h g))⟩
noncomputable def eJ:Code:=(Tryz.f233.body).getD .skip
def iT:Nat→Option (List Nat):=fun i=>none
def iU:Nat→Bool:=fun i=>false
def eK(dep:Nat)(g:Nat→AV)(x0 x1:AV)(H:Heap)(Q:AV→Heap→Prop):Prop :=
 doW (Zi H dep 2 33 x0) fun v1 H1 =>
 doQ (Zb H1 230 x1) fun v2 =>
 doQ (ZO v2) fun v3 =>
 doQ (Zd 266 v3 1) fun v4 =>
 doQ (Zb H1 264 v4) fun v5 =>
 doQ (Zb H1 33 v1) fun v6 =>
 doQ (ZG H1 264 v5 v6) fun v7 =>
 Q v7 H1
theorem iQ(dep:Nat)(x0 x1:AV)(H:Heap)(Q:AV→Heap→Prop)(h : ∀g,eK dep g x0 x1 H Q):GoL env Tryz.f233 (dep+1) [.code eJ] [(0,x0),(1,x1)] H Q:=⟨fun g=>aU (live:=iT) (cut:=iU) (n:=500) (Eq.mp (by kernel_rfl) (h g))⟩
noncomputable def fU:Code:=(Tryz.f234.body).getD .skip
def kX:Nat→Option (List Nat):=fun i=>none
def kZ:Nat→Bool:=fun i=>false
def fV(dep:Nat)(g:Nat→AV)(x0 x1:AV)(H:Heap)(Q:AV→Heap→Prop):Prop :=
 doW (Zi H dep 2 230 x0) fun v1 H1 =>
 doW (Zi H1 dep 3 38 x1) fun v2 H2 =>
 doQ (Zd 38 v2 3) fun v3 =>
 doQ (Zb H2 35 v3) fun v4 =>
 doW (ZM dep H2 7 v4) fun v5 H3 =>
 doQ (sc (.func 242) (some []) (some [v1,v2])) fun v6 =>
 doW (Z0 dep H3 9 v5 v6) fun v7 H4 =>
 doQ (ZC v7) fun v8 =>
 Q v8 H4
theorem kV(dep:Nat)(x0 x1:AV)(H:Heap)(Q:AV→Heap→Prop)(h : ∀g,fV dep g x0 x1 H Q):GoL env Tryz.f234 (dep+1) [.code fU] [(0,x0),(1,x1)] H Q:=⟨fun g=>aU (live:=kX) (cut:=kZ) (n:=500) (Eq.mp (by kernel_rfl) (h g))⟩
noncomputable def bz:Code:=(Tryz.f241.body).getD .skip
noncomputable def aM:List Item:=(bM 2 400 [.code bz]).getD []
def ch:Nat→Option (List Nat):=fun i=>cond (Nat.beq i 2) (some [8,0,1,7]) (none)
def ck:Nat→Bool:=fun i=>false
def cl(dep:Nat)(g:Nat→AV)(x0 x1:AV)(H:Heap)(Q:AV→Heap→Prop):Prop :=
 doQ (Zy H dep 7 244 x0) fun v1 =>
  GoL env Tryz.f241 (dep+1) aM [(8,(.v (.int .i64 0))),(0,x0),(1,x1),(7,v1)] H Q
theorem dZ(dep:Nat)(x0 x1:AV)(H:Heap)(Q:AV→Heap→Prop)(h : ∀g,cl dep g x0 x1 H Q):GoL env Tryz.f241 (dep+1) [.code bz] [(0,x0),(1,x1)] H Q:=⟨fun g=>aU (live:=ch) (cut:=ck) (n:=500) (Eq.mp (by kernel_rfl) (h g))⟩
def bt(dep:Nat)(g:Nat→AV)(x8 x0 x1 x7:AV)(H:Heap)(Q:AV→Heap→Prop):Prop :=
 doQ (Zn 3 8 7 x8 x7) fun v1 =>
 br (some v1) (
 doQ (Zu H 244 x0 x8) fun v2 =>
 doQ (Zb H 33 v2) fun v3 =>
 doW (ZJ dep H 16 x1 v3) fun v4 H1 =>
 br (some v4) (
 Q x8 H1) (
 doQ (Ze 3 8 1 x8) fun v5 =>
  GoL env Tryz.f241 (dep+1) aM [(8,v5),(0,x0),(1,x1),(7,x7)] H1 Q)) (
 Q (.v (.int .i64 (-1))) H)
theorem bX(dep:Nat)(x8 x0 x1 x7:AV)(H:Heap)(Q:AV→Heap→Prop)(h : ∀g,bt dep g x8 x0 x1 x7 H Q):GoL env Tryz.f241 (dep+1) aM [(8,x8),(0,x0),(1,x1),(7,x7)] H Q:=cW fun g=>aU (live:=ch) (cut:=ck) (n:=500) (Eq.mp (by kernel_rfl) (h g))
noncomputable def fm:Code:=(Tryz.f242.body).getD .skip
def jQ:Nat→Option (List Nat):=fun i=>none
def jS:Nat→Bool:=fun i=>false
def fq(dep:Nat)(g:Nat→AV)(x0 x1 x2:AV)(H:Heap)(Q:AV→Heap→Prop):Prop :=
 doW (Zi H dep 3 33 x0) fun v1 H1 =>
 doQ (Zb H1 230 x1) fun v2 =>
 doQ (Zb H1 38 x2) fun v3 =>
 doQ (Zb H1 33 v1) fun v4 =>
 doW (ZZ dep H1 8 v2 v3 v4) fun v5 H2 =>
 doQ (ZC v5) fun v6 =>
 Q v6 H2
theorem jO(dep:Nat)(x0 x1 x2:AV)(H:Heap)(Q:AV→Heap→Prop)(h : ∀g,fq dep g x0 x1 x2 H Q):GoL env Tryz.f242 (dep+1) [.code fm] [(0,x0),(1,x1),(2,x2)] H Q:=⟨fun g=>aU (live:=jQ) (cut:=jS) (n:=500) (Eq.mp (by kernel_rfl) (h g))⟩
end Go.Proofs.YtmkmimgokagimaaGreat
