/-
  What is to be shown of each function, computed from its code. No statement of a seat is proved here.
-/
import Derived.Test.YtmkmimgokagimaaGreatLeTy
set_option linter.unusedVariables false
set_option maxRecDepth 1000000
namespace Go.Proofs.YtmkmimgokagimaaGreat
open Go.Ab
noncomputable def wZ:Code:=(Tryz.f137.body).getD .skip
def Cg:Nat→Option (List Nat):=fun i=>none
def CI:Nat→Bool:=fun i=>false
def oV(g:Nat→AV)(x0 x1:AV)(H:Heap)(Q:AV→Heap→Prop):Prop :=
 doW (Zc H 3 38 x1) fun v1 H1 =>
 doW (Za true H1 10 172 [x0]) fun v2 H2 =>
 doQ (ZC v2 0) fun v3 =>
 doQ (ZC v2 1) fun v4 =>
 doQ (ZE v4) fun v5 =>
 br (some v5) (
 Q (.v (.int .i64 8)) H2) (
 doQ (Zb H2 38 v1) fun v6 =>
 doW (Za true H2 16 70 [v6]) fun v7 H3 =>
 doQ (Ze 42 17 0 v7) fun v8 =>
 br (some v8) (
 Q v7 H3) (
 doQ (Zb H3 38 v1) fun v9 =>
 doW (Za true H3 22 193 [v3,v9]) fun v10 H4 =>
 Q v10 H4))
theorem BH(x0 x1:AV)(H:Heap)(Q:AV→Heap→Prop)(h : ∀g,oV g x0 x1 H Q):GoL env Tryz.f137 0 [.code wZ] [(0,x0),(1,x1)] H Q:=⟨fun g=>aU (live:=Cg) (cut:=CI) (n:=500) (Eq.mp (by kernel_rfl) (h g))⟩
noncomputable def sQ:Code:=(Tryz.f172.body).getD .skip
noncomputable def jC:List Item:=(bO 3 400 [.code sQ]).getD []
noncomputable def lM:List Item:=(bO 10 400 [.code sQ]).getD []
def wc:Nat→Option (List Nat):=fun i=>cond (Nat.beq i 3) (some [4,14,12,13]) (cond (Nat.beq i 10) (some [44,4,42,12,13,14,43]) (none))
def wN:Nat→Bool:=fun i=>false
def Bt(dep:Nat)(g:Nat→AV)(x0:AV)(H:Heap)(Q:AV→Heap→Prop):Prop :=
 doW (ZL H dep 9) fun v1 H1 =>
 doQ (Ye 266 1 v1) fun v2 =>
 doW (Zh H1 dep 11 266 v2) fun v3 H2 =>
 doQ (Zy H2 dep 13 41 x0) fun v4 =>
  GoL env Tryz.f172 (dep+1) jC [(4,v3),(14,(.v (.int .i64 0))),(12,x0),(13,v4)] H2 Q
theorem Fe(dep:Nat)(x0:AV)(H:Heap)(Q:AV→Heap→Prop)(h : ∀g,Bt dep g x0 H Q):GoL env Tryz.f172 (dep+1) [.code sQ] [(0,x0)] H Q:=⟨fun g=>aU (live:=wc) (cut:=wN) (n:=500) (Eq.mp (by kernel_rfl) (h g))⟩
def oU(dep:Nat)(g:Nat→AV)(x4 x14 x12 x13:AV)(H:Heap)(Q:AV→Heap→Prop):Prop :=
 doQ (Zo 3 14 13 x14 x13) fun v1 =>
 br (some v1) (
 doQ (Zt H 41 x12 x14) fun v2 =>
 doQ (Zb H 38 v2) fun v3 =>
 doW (Zn H dep 6 38) fun v4 H1 =>
 doW (Zp H1 38 v4 v3) fun v5 H2 =>
 doQ (Zb H2 38 v4) fun v6 =>
 doW (aK env true (limf env) (limt env (dep+1)) H2 (⟨(dep+1),19,Heap.gen H2 (dep+1) 19,0⟩:Ref) (some (.fn (.func 70) [] [])) [v6]) fun v7 H3 =>
 doQ (Ze 42 19 0 v7) fun v8 =>
 gQ v8 false (ZB x4) fun v9 =>
 gQ v8 false (Zb H3 38 v4) fun v10 =>
 gW v8 false H3 (aK env true (limf env) (limt env (dep+1)) H3 (⟨(dep+1),24,Heap.gen H3 (dep+1) 24,0⟩:Ref) (some (.fn (.func 193) [] [])) [v9,v10]) fun v11 H4 =>
 gQ v8 false (Ze 42 24 0 v11) fun v12 =>
 doQ (Zl v8 v12) fun v13 =>
 br (some v13) (
 Q (.tup [(.v (.pointer none)),(.v (.bool false))]) H4) (
 doQ (ZN x4) fun v14 =>
 doQ (Zd 266 v14 0) fun v15 =>
 doQ (Zb H4 41 v15) fun v16 =>
 doQ (Zb H4 38 v4) fun v17 =>
 doW (Z4 H4 dep 33 41 1 0 v17) fun v18 H5 =>
 doW (Z6 H5 dep 34 41 41 v16 v18) fun v19 H6 =>
 doQ (ZN x4) fun v20 =>
 doQ (Zd 266 v20 0) fun v21 =>
 doW (Zp H6 41 v21 v19) fun v22 H7 =>
 doQ (Zd 38 v4 0) fun v23 =>
 doQ (Zb H7 5 v23) fun v24 =>
 doQ (ZJ 5 38 v24) fun v25 =>
 br (some v25) (
 doQ (Zd 38 v4 3) fun v26 =>
 doQ (Zb H7 35 v26) fun v27 =>
 doW (ZK dep H7 42 v27) fun v28 H8 =>
 doQ (Zy H8 dep 43 244 v28) fun v29 =>
  GoL env Tryz.f172 (dep+1) lM [(44,(.v (.int .i64 0))),(4,x4),(42,v28),(12,x12),(13,x13),(14,x14),(43,v29)] H8 Q) (
 doQ (Zf 3 14 1 x14) fun v26 =>
  GoL env Tryz.f172 (dep+1) jC [(4,x4),(14,v26),(12,x12),(13,x13)] H7 Q))) (
 Q (.tup [x4,(.v (.bool true))]) H)
theorem vt(dep:Nat)(x4 x14 x12 x13:AV)(H:Heap)(Q:AV→Heap→Prop)(h : ∀g,oU dep g x4 x14 x12 x13 H Q):GoL env Tryz.f172 (dep+1) jC [(4,x4),(14,x14),(12,x12),(13,x13)] H Q:=cZ fun g=>aU (live:=wc) (cut:=wN) (n:=500) (Eq.mp (by kernel_rfl) (h g))
def qc(dep:Nat)(g:Nat→AV)(x44 x4 x42 x12 x13 x14 x43:AV)(H:Heap)(Q:AV→Heap→Prop):Prop :=
 doQ (Zo 3 44 43 x44 x43) fun v1 =>
 br (some v1) (
 doQ (Zt H 244 x42 x44) fun v2 =>
 doQ (Zb H 33 v2) fun v3 =>
 doW (Zn H dep 8 33) fun v4 H1 =>
 doW (Zp H1 33 v4 v3) fun v5 H2 =>
 doQ (ZN x4) fun v6 =>
 doQ (Zd 266 v6 1) fun v7 =>
 doQ (Zb H2 264 v7) fun v8 =>
 doQ (Zb H2 33 v4) fun v9 =>
 doW (cM env.P H2 264 (some v8) (some v9) (some (AV.v (Value.bool true)))) fun v10 H3 =>
 doQ (Zf 3 44 1 x44) fun v11 =>
  GoL env Tryz.f172 (dep+1) lM [(44,v11),(4,x4),(42,x42),(12,x12),(13,x13),(14,x14),(43,x43)] H3 Q) (
 doQ (Zf 3 14 1 x14) fun v2 =>
  GoL env Tryz.f172 (dep+1) jC [(4,x4),(14,v2),(12,x12),(13,x13)] H Q)
theorem tP(dep:Nat)(x44 x4 x42 x12 x13 x14 x43:AV)(H:Heap)(Q:AV→Heap→Prop)(h : ∀g,qc dep g x44 x4 x42 x12 x13 x14 x43 H Q):GoL env Tryz.f172 (dep+1) lM [(44,x44),(4,x4),(42,x42),(12,x12),(13,x13),(14,x14),(43,x43)] H Q:=cZ fun g=>aU (live:=wc) (cut:=wN) (n:=500) (Eq.mp (by kernel_rfl) (h g))
noncomputable def fL:Code:=(Tryz.f193.body).getD .skip
def kr:Nat→Option (List Nat):=fun i=>none
def kM:Nat→Bool:=fun i=>false
def cL(dep:Nat)(g:Nat→AV)(x0 x1:AV)(H:Heap)(Q:AV→Heap→Prop):Prop :=
 doW (Zh H dep 3 38 x1) fun v1 H1 =>
 doQ (eC env.P 271 (some [(1,(.fn (.func 218) [] [])),(2,(.fn (.func 219) [] [])),(3,(.fn (.func 220) [] []))])) fun v2 =>
 doQ (Zd 38 v1 0) fun v3 =>
 doQ (Zb H1 5 v3) fun v4 =>
 doQ (mT env.P 271 (some v2) (some v4)) fun v5 =>
 doQ (Zb H1 38 v1) fun v6 =>
 doW (ZQ dep H1 12 v5 x0 v6) fun v7 H2 =>
 doQ (Zk 42 13 0 v7) fun v8 =>
 gQ v8 true (ZB x0) fun v9 =>
 gQ v8 true (ZN v9) fun v10 =>
 gQ v8 true (Zd 266 v10 0) fun v11 =>
 gQ v8 true (Zb H2 41 v11) fun v12 =>
 gQ v8 true (Zy H2 dep 20 41 v12) fun v13 =>
 gQ v8 true (Zm 3 20 2048 v13) fun v14 =>
 doQ (Zg v8 v14) fun v15 =>
 br (some v15) (
 Q (.v (.int .i64 4)) H2) (
 Q v7 H2)
theorem kb(dep:Nat)(x0 x1:AV)(H:Heap)(Q:AV→Heap→Prop)(h : ∀g,cL dep g x0 x1 H Q):GoL env Tryz.f193 (dep+1) [.code fL] [(0,x0),(1,x1)] H Q:=⟨fun g=>aU (live:=kr) (cut:=kM) (n:=500) (Eq.mp (by kernel_rfl) (h g))⟩
noncomputable def pS:Code:=(Tryz.f213.body).getD .skip
noncomputable def ji:List Item:=(bO 2 400 [.code pS]).getD []
def tX:Nat→Option (List Nat):=fun i=>cond (Nat.beq i 2) (some [8,2,1,7]) (none)
def ug:Nat→Bool:=fun i=>false
def uw(g:Nat→AV)(x0:AV)(H:Heap)(Q:AV→Heap→Prop):Prop :=
 doW (Zc H 1 35 x0) fun v1 H1 =>
 doQ (Zd 35 v1 1) fun v2 =>
 doQ (Zb H1 3 v2) fun v3 =>
  GoL env Tryz.f213 0 ji [(8,(.v (.int .i64 0))),(2,(.v (.slice none 0 0))),(1,v1),(7,v3)] H1 Q
theorem Au(x0:AV)(H:Heap)(Q:AV→Heap→Prop)(h : ∀g,uw g x0 H Q):GoL env Tryz.f213 0 [.code pS] [(0,x0)] H Q:=⟨fun g=>aU (live:=tX) (cut:=ug) (n:=500) (Eq.mp (by kernel_rfl) (h g))⟩
def lC(g:Nat→AV)(x8 x2 x1 x7:AV)(H:Heap)(Q:AV→Heap→Prop):Prop :=
 doQ (Zo 3 8 7 x8 x7) fun v1 =>
 br (some v1) (
 doQ (Zb H 35 x1) fun v2 =>
 doW (Za true H 14 228 [v2,x8]) fun v3 H1 =>
 doQ (ZC v3 0) fun v4 =>
 doQ (ZC v3 1) fun v5 =>
 doW (Zj H1 4 33) fun v6 H2 =>
 doW (Zp H2 33 v6 v4) fun v7 H3 =>
 doQ (Zb H3 33 v6) fun v8 =>
 doW (ZA H3 19 244 1 0 v8) fun v9 H4 =>
 doW (Zu H4 20 244 244 x2 v9) fun v10 H5 =>
 doQ (Zf 3 8 1 x8) fun v11 =>
  GoL env Tryz.f213 0 ji [(8,v11),(2,v10),(1,x1),(7,x7)] H5 Q) (
 Q x2 H)
theorem qI(x8 x2 x1 x7:AV)(H:Heap)(Q:AV→Heap→Prop)(h : ∀g,lC g x8 x2 x1 x7 H Q):GoL env Tryz.f213 0 ji [(8,x8),(2,x2),(1,x1),(7,x7)] H Q:=cZ fun g=>aU (live:=tX) (cut:=ug) (n:=500) (Eq.mp (by kernel_rfl) (h g))
noncomputable def fm:Code:=(Tryz.f218.body).getD .skip
def jA:Nat→Option (List Nat):=fun i=>none
def jF:Nat→Bool:=fun i=>false
def cE(dep:Nat)(g:Nat→AV)(x0 x1:AV)(H:Heap)(Q:AV→Heap→Prop):Prop :=
 doW (Zh H dep 2 230 x0) fun v1 H1 =>
 doW (Zh H1 dep 3 38 x1) fun v2 H2 =>
 doQ (Zd 38 v2 4) fun v3 =>
 doQ (Zb H2 33 v3) fun v4 =>
 doQ (Z5 33) fun v5 =>
 doQ (ZF 33 8 9 v4 v5) fun v6 =>
 gQ v6 true (Zb H2 230 v1) fun v7 =>
 gQ v6 true (Zb H2 38 v2) fun v8 =>
 gQ v6 true (Zd 38 v2 4) fun v9 =>
 gQ v6 true (Zb H2 33 v9) fun v10 =>
 gW v6 true H2 (ZY dep H2 16 v7 v8 v10) fun v11 H3 =>
 gQ v6 true (ZE v11) fun v12 =>
 doQ (Zg v6 v12) fun v13 =>
 br (some v13) (
 Q (.v (.int .i64 6)) H3) (
 doQ (Zb H3 38 v2) fun v14 =>
 doW (aK env true (limf env) (limt env (dep+1)) H3 (⟨(dep+1),21,Heap.gen H3 (dep+1) 21,0⟩:Ref) (some (.fn (.func 231) [] [])) [v14]) fun v15 H4 =>
 doQ (ZC v15 0) fun v16 =>
 doQ (ZC v15 1) fun v17 =>
 doW (Zn H4 dep 5 249) fun v18 H5 =>
 doW (Zp H5 249 v18 v16) fun v19 H6 =>
 doQ (Ze 42 24 0 v17) fun v20 =>
 gQ v20 false (Zd 38 v2 3) fun v21 =>
 gQ v20 false (Zb H6 35 v21) fun v22 =>
 gW v20 false H6 (ZK dep H6 29 v22) fun v23 H7 =>
 gQ v20 false (sc (.func 233) (some []) (some [v1])) fun v24 =>
 gW v20 false H7 (ZZ dep H7 31 v23 v24) fun v25 H8 =>
 doQ (Zl v20 v25) fun v26 =>
 br (some v26) (
 Q (.v (.int .i64 2)) H8) (
 doQ (Zb H8 230 v1) fun v27 =>
 doQ (ZN v27) fun v28 =>
 doQ (Zd 266 v28 1) fun v29 =>
 doQ (Zb H8 264 v29) fun v30 =>
 doQ (Zy H8 dep 37 264 v30) fun v31 =>
 doQ (Zd 38 v2 3) fun v32 =>
 doQ (Zd 35 v32 1) fun v33 =>
 doQ (Zb H8 3 v33) fun v34 =>
 doQ (Zz 3 37 40 v31 v34) fun v35 =>
 doQ (Zr 3 41 8192 v35) fun v36 =>
 br (some v36) (
 Q (.v (.int .i64 4)) H8) (
 Q (.v (.int .i64 0)) H8)))
theorem jw(dep:Nat)(x0 x1:AV)(H:Heap)(Q:AV→Heap→Prop)(h : ∀g,cE dep g x0 x1 H Q):GoL env Tryz.f218 (dep+1) [.code fm] [(0,x0),(1,x1)] H Q:=⟨fun g=>aU (live:=jA) (cut:=jF) (n:=500) (Eq.mp (by kernel_rfl) (h g))⟩
noncomputable def fl:Code:=(Tryz.f219.body).getD .skip
def jz:Nat→Option (List Nat):=fun i=>none
def jE:Nat→Bool:=fun i=>false
def fq(dep:Nat)(g:Nat→AV)(x0 x1:AV)(H:Heap)(Q:AV→Heap→Prop):Prop :=
 doW (Zh H dep 3 38 x1) fun v1 H1 =>
 doQ (Zb H1 38 v1) fun v2 =>
 doW (Z0 dep H1 8 x0 v2) fun v3 H2 =>
 doQ (ZE v3) fun v4 =>
 br (some v4) (
 Q (.v (.int .i64 6)) H2) (
 doQ (Zd 38 v1 3) fun v5 =>
 doQ (Zd 35 v5 0) fun v6 =>
 doQ (Zd 33 v6 0) fun v7 =>
 doQ (Zd 31 v7 0) fun v8 =>
 doQ (Zb H2 29 v8) fun v9 =>
 doQ (Zd 38 v1 1) fun v10 =>
 doQ (Zd 31 v10 0) fun v11 =>
 doQ (Zb H2 29 v11) fun v12 =>
 doQ (ZF 29 15 18 v9 v12) fun v13 =>
 br (some v13) (
 Q (.v (.int .i64 2)) H2) (
 Q (.v (.int .i64 0)) H2))
theorem jv(dep:Nat)(x0 x1:AV)(H:Heap)(Q:AV→Heap→Prop)(h : ∀g,fq dep g x0 x1 H Q):GoL env Tryz.f219 (dep+1) [.code fl] [(0,x0),(1,x1)] H Q:=⟨fun g=>aU (live:=jz) (cut:=jE) (n:=500) (Eq.mp (by kernel_rfl) (h g))⟩
noncomputable def fw:Code:=(Tryz.f220.body).getD .skip
def jQ:Nat→Option (List Nat):=fun i=>none
def jT:Nat→Bool:=fun i=>false
def fy(dep:Nat)(g:Nat→AV)(x0 x1:AV)(H:Heap)(Q:AV→Heap→Prop):Prop :=
 doW (Zh H dep 3 38 x1) fun v1 H1 =>
 doQ (Zb H1 38 v1) fun v2 =>
 doW (Z0 dep H1 9 x0 v2) fun v3 H2 =>
 doQ (ZE v3) fun v4 =>
 br (some v4) (
 Q (.v (.int .i64 6)) H2) (
 doQ (ZN x0) fun v5 =>
 doQ (Zd 266 v5 0) fun v6 =>
 doQ (Zb H2 41 v6) fun v7 =>
 doQ (Zb H2 38 v1) fun v8 =>
 doW (aK env false (limf env) (limt env (dep+1)) H2 (⟨(dep+1),17,Heap.gen H2 (dep+1) 17,0⟩:Ref) (some (.fn (.func 235) [] [])) [v7,v8]) fun v9 H3 =>
 doQ (ZC v9 0) fun v10 =>
 doQ (ZC v9 1) fun v11 =>
 doQ (Ze 42 20 0 v11) fun v12 =>
 gQ v12 false (ZB v10) fun v13 =>
 gQ v12 false (ZE v13) fun v14 =>
 doQ (Zl v12 v14) fun v15 =>
 br (some v15) (
 Q (.v (.int .i64 2)) H3) (
 Q (.v (.int .i64 0)) H3))
theorem jO(dep:Nat)(x0 x1:AV)(H:Heap)(Q:AV→Heap→Prop)(h : ∀g,fy dep g x0 x1 H Q):GoL env Tryz.f220 (dep+1) [.code fw] [(0,x0),(1,x1)] H Q:=⟨fun g=>aU (live:=jQ) (cut:=jT) (n:=500) (Eq.mp (by kernel_rfl) (h g))⟩
noncomputable def fK:Code:=(Tryz.f230.body).getD .skip
def kq:Nat→Option (List Nat):=fun i=>none
def kL:Nat→Bool:=fun i=>false
def dG(dep:Nat)(g:Nat→AV)(x0 x1 x2:AV)(H:Heap)(Q:AV→Heap→Prop):Prop :=
 doW (Zh H dep 4 38 x1) fun v1 H1 =>
 doW (Zh H1 dep 5 33 x2) fun v2 H2 =>
 doQ (ZN x0) fun v3 =>
 doQ (Zd 266 v3 1) fun v4 =>
 doQ (Zb H2 264 v4) fun v5 =>
 doQ (Zb H2 33 v2) fun v6 =>
 doQ (ZH H2 264 v5 v6) fun v7 =>
 gQ v7 true (Zd 33 v2 0) fun v8 =>
 gQ v7 true (Zd 31 v8 0) fun v9 =>
 gQ v7 true (Zb H2 29 v9) fun v10 =>
 gQ v7 true (Zd 38 v1 1) fun v11 =>
 gQ v7 true (Zd 31 v11 0) fun v12 =>
 gQ v7 true (Zb H2 29 v12) fun v13 =>
 gW v7 true H2 (aK env false (limf env) (limt env (dep+1)) H2 (⟨(dep+1),20,Heap.gen H2 (dep+1) 20,0⟩:Ref) (some (.fn (.func 47) [] [])) [v10,v13]) fun v14 H3 =>
 doQ (Zg v7 v14) fun v15 =>
 Q v15 H3
theorem jZ(dep:Nat)(x0 x1 x2:AV)(H:Heap)(Q:AV→Heap→Prop)(h : ∀g,dG dep g x0 x1 x2 H Q):GoL env Tryz.f230 (dep+1) [.code fK] [(0,x0),(1,x1),(2,x2)] H Q:=⟨fun g=>aU (live:=kq) (cut:=kL) (n:=500) (Eq.mp (by kernel_rfl) (h g))⟩
noncomputable def bX:Code:=(Tryz.f232.body).getD .skip
def dI:Nat→Option (List Nat):=fun i=>none
def dJ:Nat→Bool:=fun i=>false
def bY(dep:Nat)(g:Nat→AV)(x0 x1:AV)(H:Heap)(Q:AV→Heap→Prop):Prop :=
 doW (aK env true (limf env) (limt env (dep+1)) H (⟨(dep+1),7,Heap.gen H (dep+1) 7,0⟩:Ref) (some (.fn (.func 241) [] [])) [x0,x1]) fun v1 H1 =>
 doQ (Zm 3 7 0 v1) fun v2 =>
 Q v2 H1
theorem dH(dep:Nat)(x0 x1:AV)(H:Heap)(Q:AV→Heap→Prop)(h : ∀g,bY dep g x0 x1 H Q):GoL env Tryz.f232 (dep+1) [.code bX] [(0,x0),(1,x1)] H Q:=⟨fun g=>aU (live:=dI) (cut:=dJ) (n:=500) (Eq.mp (by kernel_rfl) (h g))⟩
noncomputable def eP:Code:=(Tryz.f233.body).getD .skip
def iV:Nat→Option (List Nat):=fun i=>none
def iY:Nat→Bool:=fun i=>false
def eS(dep:Nat)(g:Nat→AV)(x0 x1:AV)(H:Heap)(Q:AV→Heap→Prop):Prop :=
 doW (Zh H dep 2 33 x0) fun v1 H1 =>
 doQ (Zb H1 230 x1) fun v2 =>
 doQ (ZN v2) fun v3 =>
 doQ (Zd 266 v3 1) fun v4 =>
 doQ (Zb H1 264 v4) fun v5 =>
 doQ (Zb H1 33 v1) fun v6 =>
 doQ (ZH H1 264 v5 v6) fun v7 =>
 Q v7 H1
theorem iR(dep:Nat)(x0 x1:AV)(H:Heap)(Q:AV→Heap→Prop)(h : ∀g,eS dep g x0 x1 H Q):GoL env Tryz.f233 (dep+1) [.code eP] [(0,x0),(1,x1)] H Q:=⟨fun g=>aU (live:=iV) (cut:=iY) (n:=500) (Eq.mp (by kernel_rfl) (h g))⟩
noncomputable def fZ:Code:=(Tryz.f234.body).getD .skip
def kV:Nat→Option (List Nat):=fun i=>none
def kX:Nat→Bool:=fun i=>false
def ga(dep:Nat)(g:Nat→AV)(x0 x1:AV)(H:Heap)(Q:AV→Heap→Prop):Prop :=
 doW (Zh H dep 2 230 x0) fun v1 H1 =>
 doW (Zh H1 dep 3 38 x1) fun v2 H2 =>
 doQ (Zd 38 v2 3) fun v3 =>
 doQ (Zb H2 35 v3) fun v4 =>
 doW (ZK dep H2 7 v4) fun v5 H3 =>
 doQ (sc (.func 242) (some []) (some [v1,v2])) fun v6 =>
 doW (ZZ dep H3 9 v5 v6) fun v7 H4 =>
 doQ (ZE v7) fun v8 =>
 Q v8 H4
theorem kT(dep:Nat)(x0 x1:AV)(H:Heap)(Q:AV→Heap→Prop)(h : ∀g,ga dep g x0 x1 H Q):GoL env Tryz.f234 (dep+1) [.code fZ] [(0,x0),(1,x1)] H Q:=⟨fun g=>aU (live:=kV) (cut:=kX) (n:=500) (Eq.mp (by kernel_rfl) (h g))⟩
noncomputable def bA:Code:=(Tryz.f241.body).getD .skip
noncomputable def aM:List Item:=(bO 2 400 [.code bA]).getD []
def cp:Nat→Option (List Nat):=fun i=>cond (Nat.beq i 2) (some [8,0,1,7]) (none)
def cq:Nat→Bool:=fun i=>false
def cr(dep:Nat)(g:Nat→AV)(x0 x1:AV)(H:Heap)(Q:AV→Heap→Prop):Prop :=
 doQ (Zy H dep 7 244 x0) fun v1 =>
  GoL env Tryz.f241 (dep+1) aM [(8,(.v (.int .i64 0))),(0,x0),(1,x1),(7,v1)] H Q
theorem ee(dep:Nat)(x0 x1:AV)(H:Heap)(Q:AV→Heap→Prop)(h : ∀g,cr dep g x0 x1 H Q):GoL env Tryz.f241 (dep+1) [.code bA] [(0,x0),(1,x1)] H Q:=⟨fun g=>aU (live:=cp) (cut:=cq) (n:=500) (Eq.mp (by kernel_rfl) (h g))⟩
def bx(dep:Nat)(g:Nat→AV)(x8 x0 x1 x7:AV)(H:Heap)(Q:AV→Heap→Prop):Prop :=
 doQ (Zo 3 8 7 x8 x7) fun v1 =>
 br (some v1) (
 doQ (Zt H 244 x0 x8) fun v2 =>
 doQ (Zb H 33 v2) fun v3 =>
 doW (ZI dep H 16 x1 v3) fun v4 H1 =>
 br (some v4) (
 Q x8 H1) (
 doQ (Zf 3 8 1 x8) fun v5 =>
  GoL env Tryz.f241 (dep+1) aM [(8,v5),(0,x0),(1,x1),(7,x7)] H1 Q)) (
 Q (.v (.int .i64 (-1))) H)
theorem b7(dep:Nat)(x8 x0 x1 x7:AV)(H:Heap)(Q:AV→Heap→Prop)(h : ∀g,bx dep g x8 x0 x1 x7 H Q):GoL env Tryz.f241 (dep+1) aM [(8,x8),(0,x0),(1,x1),(7,x7)] H Q:=cZ fun g=>aU (live:=cp) (cut:=cq) (n:=500) (Eq.mp (by kernel_rfl) (h g))
noncomputable def fx:Code:=(Tryz.f242.body).getD .skip
def jR:Nat→Option (List Nat):=fun i=>none
def jU:Nat→Bool:=fun i=>false
def fA(dep:Nat)(g:Nat→AV)(x0 x1 x2:AV)(H:Heap)(Q:AV→Heap→Prop):Prop :=
 doW (Zh H dep 3 33 x0) fun v1 H1 =>
 doQ (Zb H1 230 x1) fun v2 =>
 doQ (Zb H1 38 x2) fun v3 =>
 doQ (Zb H1 33 v1) fun v4 =>
 doW (ZY dep H1 8 v2 v3 v4) fun v5 H2 =>
 doQ (ZE v5) fun v6 =>
 Q v6 H2
theorem jP(dep:Nat)(x0 x1 x2:AV)(H:Heap)(Q:AV→Heap→Prop)(h : ∀g,fA dep g x0 x1 x2 H Q):GoL env Tryz.f242 (dep+1) [.code fx] [(0,x0),(1,x1),(2,x2)] H Q:=⟨fun g=>aU (live:=jR) (cut:=jU) (n:=500) (Eq.mp (by kernel_rfl) (h g))⟩
end Go.Proofs.YtmkmimgokagimaaGreat
