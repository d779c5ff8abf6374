/-
  What is to be shown of each function, computed from its code. No statement of a seat is proved here.
-/
import Derived.Test.YtmkmimgokagimaaGreatLeTy
set_option linter.unusedVariables false
set_option maxRecDepth 1000000
namespace Go.Proofs.YtmkmimgokagimaaGreat
open Go.Ab
noncomputable def Ar:Code:=(Tryz.f137.body).getD .skip
def EY:Nat→Option (List Nat):=fun i=>none
def Fs:Nat→Bool:=fun i=>false
def qF(g:Nat→AV)(x0 x1:AV)(H:Heap)(Q:AV→Heap→Prop):Prop :=
 doW (Zc H 3 38 x1) fun v1 H1 =>
 doW (Za true H1 10 172 [x0]) fun v2 H2 =>
 doQ (Zw v2 0) fun v3 =>
 doQ (Zw v2 1) fun v4 =>
 doQ (Zz v4) fun v5 =>
 br (some v5) (
 Q (.v (.int .i64 8)) H2) (
 doQ (Zb H2 38 v1) fun v6 =>
 doW (Za true H2 16 70 [v6]) fun v7 H3 =>
 doQ (Ze 42 17 0 v7) fun v8 =>
 br (some v8) (
 Q v7 H3) (
 doQ (Zb H3 38 v1) fun v9 =>
 doW (Za true H3 22 193 [v3,v9]) fun v10 H4 =>
 Q v10 H4))
theorem Em(x0 x1:AV)(H:Heap)(Q:AV→Heap→Prop)(h : ∀g,qF g x0 x1 H Q):GoL env Tryz.f137 0 [.code Ar] [(0,x0),(1,x1)] H Q:=⟨fun g=>aJ (live:=EY) (cut:=Fs) (n:=500) (Eq.mp (by kernel_rfl) (h g))⟩
noncomputable def vC:Code:=(Tryz.f172.body).getD .skip
noncomputable def kj:List Item:=(bS 3 400 [.code vC]).getD []
noncomputable def mD:List Item:=(bS 10 400 [.code vC]).getD []
def zy:Nat→Option (List Nat):=fun i=>cond (Nat.beq i 3) (some [4,14,12,13]) (cond (Nat.beq i 10) (some [44,4,42,12,13,14,43]) (none))
def z7:Nat→Bool:=fun i=>false
def D9(dep:Nat)(g:Nat→AV)(x0:AV)(H:Heap)(Q:AV→Heap→Prop):Prop :=
 doW (ZN H dep 9) fun v1 H1 =>
 doQ (Yh 266 1 v1) fun v2 =>
 doW (Zj H1 dep 11 266 v2) fun v3 H2 =>
 doQ (ZA H2 dep 13 41 x0) fun v4 =>
  GoL env Tryz.f172 (dep+1) kj [(4,v3),(14,(.v (.int .i64 0))),(12,x0),(13,v4)] H2 Q
theorem Ie(dep:Nat)(x0:AV)(H:Heap)(Q:AV→Heap→Prop)(h : ∀g,D9 dep g x0 H Q):GoL env Tryz.f172 (dep+1) [.code vC] [(0,x0)] H Q:=⟨fun g=>aJ (live:=zy) (cut:=z7) (n:=500) (Eq.mp (by kernel_rfl) (h g))⟩
def qE(dep:Nat)(g:Nat→AV)(x4 x14 x12 x13:AV)(H:Heap)(Q:AV→Heap→Prop):Prop :=
 doQ (Zp 3 14 13 x14 x13) fun v1 =>
 br (some v1) (
 doQ (Zu H 41 x12 x14) fun v2 =>
 doQ (Zb H 38 v2) fun v3 =>
 doW (Zn H dep 6 38) fun v4 H1 =>
 doW (Zl H1 38 v4 v3) fun v5 H2 =>
 doQ (Zb H2 38 v4) fun v6 =>
 doW (aG env true (limf env) (limt env (dep+1)) H2 (⟨(dep+1),19,Heap.gen H2 (dep+1) 19,0⟩:Ref) (some (.fn (.func 70) [] [])) [v6]) fun v7 H3 =>
 doQ (Ze 42 19 0 v7) fun v8 =>
 gQ v8 false (ZI x4) fun v9 =>
 gQ v8 false (Zb H3 38 v4) fun v10 =>
 gW v8 false H3 (aG env true (limf env) (limt env (dep+1)) H3 (⟨(dep+1),24,Heap.gen H3 (dep+1) 24,0⟩:Ref) (some (.fn (.func 193) [] [])) [v9,v10]) fun v11 H4 =>
 gQ v8 false (Ze 42 24 0 v11) fun v12 =>
 doQ (Zo v8 v12) fun v13 =>
 br (some v13) (
 Q (.tup [(.v (.pointer none)),(.v (.bool false))]) H4) (
 doQ (ZQ x4) fun v14 =>
 doQ (Zd 266 v14 0) fun v15 =>
 doQ (Zb H4 41 v15) fun v16 =>
 doQ (Zb H4 38 v4) fun v17 =>
 doW (Z7 H4 dep 33 41 1 0 v17) fun v18 H5 =>
 doW (Z8 H5 dep 34 41 41 v16 v18) fun v19 H6 =>
 doQ (ZQ x4) fun v20 =>
 doQ (Zd 266 v20 0) fun v21 =>
 doW (Zl H6 41 v21 v19) fun v22 H7 =>
 doQ (Zd 38 v4 0) fun v23 =>
 doQ (Zb H7 5 v23) fun v24 =>
 doQ (ZL 5 38 v24) fun v25 =>
 br (some v25) (
 doQ (Zd 38 v4 3) fun v26 =>
 doQ (Zb H7 35 v26) fun v27 =>
 doW (ZM dep H7 42 v27) fun v28 H8 =>
 doQ (ZA H8 dep 43 244 v28) fun v29 =>
  GoL env Tryz.f172 (dep+1) mD [(44,(.v (.int .i64 0))),(4,x4),(42,v28),(12,x12),(13,x13),(14,x14),(43,v29)] H8 Q) (
 doQ (Zh 3 14 1 x14) fun v26 =>
  GoL env Tryz.f172 (dep+1) kj [(4,x4),(14,v26),(12,x12),(13,x13)] H7 Q))) (
 Q (.tup [x4,(.v (.bool true))]) H)
theorem yN(dep:Nat)(x4 x14 x12 x13:AV)(H:Heap)(Q:AV→Heap→Prop)(h : ∀g,qE dep g x4 x14 x12 x13 H Q):GoL env Tryz.f172 (dep+1) kj [(4,x4),(14,x14),(12,x12),(13,x13)] H Q:=dk fun g=>aJ (live:=zy) (cut:=z7) (n:=500) (Eq.mp (by kernel_rfl) (h g))
def sx(dep:Nat)(g:Nat→AV)(x44 x4 x42 x12 x13 x14 x43:AV)(H:Heap)(Q:AV→Heap→Prop):Prop :=
 doQ (Zp 3 44 43 x44 x43) fun v1 =>
 br (some v1) (
 doQ (Zu H 244 x42 x44) fun v2 =>
 doQ (Zb H 33 v2) fun v3 =>
 doW (Zn H dep 8 33) fun v4 H1 =>
 doW (Zl H1 33 v4 v3) fun v5 H2 =>
 doQ (ZQ x4) fun v6 =>
 doQ (Zd 266 v6 1) fun v7 =>
 doQ (Zb H2 264 v7) fun v8 =>
 doQ (Zb H2 33 v4) fun v9 =>
 doW (cR env.P H2 264 (some v8) (some v9) (some (AV.v (Value.bool true)))) fun v10 H3 =>
 doQ (Zh 3 44 1 x44) fun v11 =>
  GoL env Tryz.f172 (dep+1) mD [(44,v11),(4,x4),(42,x42),(12,x12),(13,x13),(14,x14),(43,x43)] H3 Q) (
 doQ (Zh 3 14 1 x14) fun v2 =>
  GoL env Tryz.f172 (dep+1) kj [(4,x4),(14,v2),(12,x12),(13,x13)] H Q)
theorem xj(dep:Nat)(x44 x4 x42 x12 x13 x14 x43:AV)(H:Heap)(Q:AV→Heap→Prop)(h : ∀g,sx dep g x44 x4 x42 x12 x13 x14 x43 H Q):GoL env Tryz.f172 (dep+1) mD [(44,x44),(4,x4),(42,x42),(12,x12),(13,x13),(14,x14),(43,x43)] H Q:=dk fun g=>aJ (live:=zy) (cut:=z7) (n:=500) (Eq.mp (by kernel_rfl) (h g))
noncomputable def fS:Code:=(Tryz.f193.body).getD .skip
def kZ:Nat→Option (List Nat):=fun i=>none
def lG:Nat→Bool:=fun i=>false
def cQ(dep:Nat)(g:Nat→AV)(x0 x1:AV)(H:Heap)(Q:AV→Heap→Prop):Prop :=
 doW (Zj H dep 3 38 x1) fun v1 H1 =>
 doQ (bI env.P 271 (some [(1,(.fn (.func 218) [] [])),(2,(.fn (.func 219) [] [])),(3,(.fn (.func 220) [] []))])) fun v2 =>
 doQ (Zd 38 v1 0) fun v3 =>
 doQ (Zb H1 5 v3) fun v4 =>
 doQ (nN env.P 271 (some v2) (some v4)) fun v5 =>
 doQ (Zb H1 38 v1) fun v6 =>
 doW (ZK dep H1 12 v5 x0 v6) fun v7 H2 =>
 doQ (Zi 42 13 0 v7) fun v8 =>
 gQ v8 true (ZI x0) fun v9 =>
 gQ v8 true (ZQ v9) fun v10 =>
 gQ v8 true (Zd 266 v10 0) fun v11 =>
 gQ v8 true (Zb H2 41 v11) fun v12 =>
 gQ v8 true (ZA H2 dep 20 41 v12) fun v13 =>
 gQ v8 true (Zq 3 20 2048 v13) fun v14 =>
 doQ (Zf v8 v14) fun v15 =>
 br (some v15) (
 Q (.v (.int .i64 4)) H2) (
 Q v7 H2)
theorem kQ(dep:Nat)(x0 x1:AV)(H:Heap)(Q:AV→Heap→Prop)(h : ∀g,cQ dep g x0 x1 H Q):GoL env Tryz.f193 (dep+1) [.code fS] [(0,x0),(1,x1)] H Q:=⟨fun g=>aJ (live:=kZ) (cut:=lG) (n:=500) (Eq.mp (by kernel_rfl) (h g))⟩
noncomputable def rS:Code:=(Tryz.f213.body).getD .skip
noncomputable def jK:List Item:=(bS 2 400 [.code rS]).getD []
def xv:Nat→Option (List Nat):=fun i=>cond (Nat.beq i 2) (some [8,2,1,7]) (none)
def xD:Nat→Bool:=fun i=>false
def xM(g:Nat→AV)(x0:AV)(H:Heap)(Q:AV→Heap→Prop):Prop :=
 doW (Zc H 1 35 x0) fun v1 H1 =>
 doQ (Zd 35 v1 1) fun v2 =>
 doQ (Zb H1 3 v2) fun v3 =>
  GoL env Tryz.f213 0 jK [(8,(.v (.int .i64 0))),(2,(.v (.slice none 0 0))),(1,v1),(7,v3)] H1 Q
theorem Dg(x0:AV)(H:Heap)(Q:AV→Heap→Prop)(h : ∀g,xM g x0 H Q):GoL env Tryz.f213 0 [.code rS] [(0,x0)] H Q:=⟨fun g=>aJ (live:=xv) (cut:=xD) (n:=500) (Eq.mp (by kernel_rfl) (h g))⟩
def mr(g:Nat→AV)(x8 x2 x1 x7:AV)(H:Heap)(Q:AV→Heap→Prop):Prop :=
 doQ (Zp 3 8 7 x8 x7) fun v1 =>
 br (some v1) (
 doQ (Zb H 35 x1) fun v2 =>
 doW (Za true H 14 228 [v2,x8]) fun v3 H1 =>
 doQ (Zw v3 0) fun v4 =>
 doQ (Zw v3 1) fun v5 =>
 doW (Zg H1 4 33) fun v6 H2 =>
 doW (Zl H2 33 v6 v4) fun v7 H3 =>
 doQ (Zb H3 33 v6) fun v8 =>
 doW (ZD H3 19 244 1 0 v8) fun v9 H4 =>
 doW (Zt H4 20 244 244 x2 v9) fun v10 H5 =>
 doQ (Zh 3 8 1 x8) fun v11 =>
  GoL env Tryz.f213 0 jK [(8,v11),(2,v10),(1,x1),(7,x7)] H5 Q) (
 Q x2 H)
theorem ti(x8 x2 x1 x7:AV)(H:Heap)(Q:AV→Heap→Prop)(h : ∀g,mr g x8 x2 x1 x7 H Q):GoL env Tryz.f213 0 jK [(8,x8),(2,x2),(1,x1),(7,x7)] H Q:=dk fun g=>aJ (live:=xv) (cut:=xD) (n:=500) (Eq.mp (by kernel_rfl) (h g))
noncomputable def fw:Code:=(Tryz.f218.body).getD .skip
def kf:Nat→Option (List Nat):=fun i=>none
def kp:Nat→Bool:=fun i=>false
def cH(dep:Nat)(g:Nat→AV)(x0 x1:AV)(H:Heap)(Q:AV→Heap→Prop):Prop :=
 doW (Zj H dep 2 230 x0) fun v1 H1 =>
 doW (Zj H1 dep 3 38 x1) fun v2 H2 =>
 doQ (Zd 38 v2 4) fun v3 =>
 doQ (Zb H2 33 v3) fun v4 =>
 doQ (ZS 33) fun v5 =>
 doQ (ZB 33 8 9 v4 v5) fun v6 =>
 gQ v6 true (Zb H2 230 v1) fun v7 =>
 gQ v6 true (Zb H2 38 v2) fun v8 =>
 gQ v6 true (Zd 38 v2 4) fun v9 =>
 gQ v6 true (Zb H2 33 v9) fun v10 =>
 gW v6 true H2 (Z3 dep H2 16 v7 v8 v10) fun v11 H3 =>
 gQ v6 true (Zz v11) fun v12 =>
 doQ (Zf v6 v12) fun v13 =>
 br (some v13) (
 Q (.v (.int .i64 6)) H3) (
 doQ (Zb H3 38 v2) fun v14 =>
 doW (aG env true (limf env) (limt env (dep+1)) H3 (⟨(dep+1),21,Heap.gen H3 (dep+1) 21,0⟩:Ref) (some (.fn (.func 231) [] [])) [v14]) fun v15 H4 =>
 doQ (Zw v15 0) fun v16 =>
 doQ (Zw v15 1) fun v17 =>
 doW (Zn H4 dep 5 249) fun v18 H5 =>
 doW (Zl H5 249 v18 v16) fun v19 H6 =>
 doQ (Ze 42 24 0 v17) fun v20 =>
 gQ v20 false (Zd 38 v2 3) fun v21 =>
 gQ v20 false (Zb H6 35 v21) fun v22 =>
 gW v20 false H6 (ZM dep H6 29 v22) fun v23 H7 =>
 gQ v20 false (gI (.func 233) (some []) (some [v1])) fun v24 =>
 gW v20 false H7 (Z4 dep H7 31 v23 v24) fun v25 H8 =>
 doQ (Zo v20 v25) fun v26 =>
 br (some v26) (
 Q (.v (.int .i64 2)) H8) (
 doQ (Zb H8 230 v1) fun v27 =>
 doQ (ZQ v27) fun v28 =>
 doQ (Zd 266 v28 1) fun v29 =>
 doQ (Zb H8 264 v29) fun v30 =>
 doQ (ZA H8 dep 37 264 v30) fun v31 =>
 doQ (Zd 38 v2 3) fun v32 =>
 doQ (Zd 35 v32 1) fun v33 =>
 doQ (Zb H8 3 v33) fun v34 =>
 doQ (ZF 3 37 40 v31 v34) fun v35 =>
 doQ (Zr 3 41 8192 v35) fun v36 =>
 br (some v36) (
 Q (.v (.int .i64 4)) H8) (
 Q (.v (.int .i64 0)) H8)))
theorem jY(dep:Nat)(x0 x1:AV)(H:Heap)(Q:AV→Heap→Prop)(h : ∀g,cH dep g x0 x1 H Q):GoL env Tryz.f218 (dep+1) [.code fw] [(0,x0),(1,x1)] H Q:=⟨fun g=>aJ (live:=kf) (cut:=kp) (n:=500) (Eq.mp (by kernel_rfl) (h g))⟩
noncomputable def fv:Code:=(Tryz.f219.body).getD .skip
def ke:Nat→Option (List Nat):=fun i=>none
def ko:Nat→Bool:=fun i=>false
def fy(dep:Nat)(g:Nat→AV)(x0 x1:AV)(H:Heap)(Q:AV→Heap→Prop):Prop :=
 doW (Zj H dep 3 38 x1) fun v1 H1 =>
 doQ (Zb H1 38 v1) fun v2 =>
 doW (Z5 dep H1 8 x0 v2) fun v3 H2 =>
 doQ (Zz v3) fun v4 =>
 br (some v4) (
 Q (.v (.int .i64 6)) H2) (
 doQ (Zd 38 v1 3) fun v5 =>
 doQ (Zd 35 v5 0) fun v6 =>
 doQ (Zd 33 v6 0) fun v7 =>
 doQ (Zd 31 v7 0) fun v8 =>
 doQ (Zb H2 29 v8) fun v9 =>
 doQ (Zd 38 v1 1) fun v10 =>
 doQ (Zd 31 v10 0) fun v11 =>
 doQ (Zb H2 29 v11) fun v12 =>
 doQ (ZB 29 15 18 v9 v12) fun v13 =>
 br (some v13) (
 Q (.v (.int .i64 2)) H2) (
 Q (.v (.int .i64 0)) H2))
theorem jX(dep:Nat)(x0 x1:AV)(H:Heap)(Q:AV→Heap→Prop)(h : ∀g,fy dep g x0 x1 H Q):GoL env Tryz.f219 (dep+1) [.code fv] [(0,x0),(1,x1)] H Q:=⟨fun g=>aJ (live:=ke) (cut:=ko) (n:=500) (Eq.mp (by kernel_rfl) (h g))⟩
noncomputable def fE:Code:=(Tryz.f220.body).getD .skip
def kG:Nat→Option (List Nat):=fun i=>none
def kI:Nat→Bool:=fun i=>false
def fG(dep:Nat)(g:Nat→AV)(x0 x1:AV)(H:Heap)(Q:AV→Heap→Prop):Prop :=
 doW (Zj H dep 3 38 x1) fun v1 H1 =>
 doQ (Zb H1 38 v1) fun v2 =>
 doW (Z5 dep H1 9 x0 v2) fun v3 H2 =>
 doQ (Zz v3) fun v4 =>
 br (some v4) (
 Q (.v (.int .i64 6)) H2) (
 doQ (ZQ x0) fun v5 =>
 doQ (Zd 266 v5 0) fun v6 =>
 doQ (Zb H2 41 v6) fun v7 =>
 doQ (Zb H2 38 v1) fun v8 =>
 doW (aG env false (limf env) (limt env (dep+1)) H2 (⟨(dep+1),17,Heap.gen H2 (dep+1) 17,0⟩:Ref) (some (.fn (.func 235) [] [])) [v7,v8]) fun v9 H3 =>
 doQ (Zw v9 0) fun v10 =>
 doQ (Zw v9 1) fun v11 =>
 doQ (Ze 42 20 0 v11) fun v12 =>
 gQ v12 false (ZI v10) fun v13 =>
 gQ v12 false (Zz v13) fun v14 =>
 doQ (Zo v12 v14) fun v15 =>
 br (some v15) (
 Q (.v (.int .i64 2)) H3) (
 Q (.v (.int .i64 0)) H3))
theorem kE(dep:Nat)(x0 x1:AV)(H:Heap)(Q:AV→Heap→Prop)(h : ∀g,fG dep g x0 x1 H Q):GoL env Tryz.f220 (dep+1) [.code fE] [(0,x0),(1,x1)] H Q:=⟨fun g=>aJ (live:=kG) (cut:=kI) (n:=500) (Eq.mp (by kernel_rfl) (h g))⟩
noncomputable def fR:Code:=(Tryz.f230.body).getD .skip
def kY:Nat→Option (List Nat):=fun i=>none
def lF:Nat→Bool:=fun i=>false
def dH(dep:Nat)(g:Nat→AV)(x0 x1 x2:AV)(H:Heap)(Q:AV→Heap→Prop):Prop :=
 doW (Zj H dep 4 38 x1) fun v1 H1 =>
 doW (Zj H1 dep 5 33 x2) fun v2 H2 =>
 doQ (ZQ x0) fun v3 =>
 doQ (Zd 266 v3 1) fun v4 =>
 doQ (Zb H2 264 v4) fun v5 =>
 doQ (Zb H2 33 v2) fun v6 =>
 doQ (ZH H2 264 v5 v6) fun v7 =>
 gQ v7 true (Zd 33 v2 0) fun v8 =>
 gQ v7 true (Zd 31 v8 0) fun v9 =>
 gQ v7 true (Zb H2 29 v9) fun v10 =>
 gQ v7 true (Zd 38 v1 1) fun v11 =>
 gQ v7 true (Zd 31 v11 0) fun v12 =>
 gQ v7 true (Zb H2 29 v12) fun v13 =>
 gW v7 true H2 (aG env false (limf env) (limt env (dep+1)) H2 (⟨(dep+1),20,Heap.gen H2 (dep+1) 20,0⟩:Ref) (some (.fn (.func 47) [] [])) [v10,v13]) fun v14 H3 =>
 doQ (Zf v7 v14) fun v15 =>
 Q v15 H3
theorem kP(dep:Nat)(x0 x1 x2:AV)(H:Heap)(Q:AV→Heap→Prop)(h : ∀g,dH dep g x0 x1 x2 H Q):GoL env Tryz.f230 (dep+1) [.code fR] [(0,x0),(1,x1),(2,x2)] H Q:=⟨fun g=>aJ (live:=kY) (cut:=lF) (n:=500) (Eq.mp (by kernel_rfl) (h g))⟩
noncomputable def cd:Code:=(Tryz.f232.body).getD .skip
def dJ:Nat→Option (List Nat):=fun i=>none
def dK:Nat→Bool:=fun i=>false
def cf(dep:Nat)(g:Nat→AV)(x0 x1:AV)(H:Heap)(Q:AV→Heap→Prop):Prop :=
 doW (aG env true (limf env) (limt env (dep+1)) H (⟨(dep+1),7,Heap.gen H (dep+1) 7,0⟩:Ref) (some (.fn (.func 241) [] [])) [x0,x1]) fun v1 H1 =>
 doQ (Zq 3 7 0 v1) fun v2 =>
 Q v2 H1
theorem dI(dep:Nat)(x0 x1:AV)(H:Heap)(Q:AV→Heap→Prop)(h : ∀g,cf dep g x0 x1 H Q):GoL env Tryz.f232 (dep+1) [.code cd] [(0,x0),(1,x1)] H Q:=⟨fun g=>aJ (live:=dJ) (cut:=dK) (n:=500) (Eq.mp (by kernel_rfl) (h g))⟩
noncomputable def eT:Code:=(Tryz.f233.body).getD .skip
def jw:Nat→Option (List Nat):=fun i=>none
def jz:Nat→Bool:=fun i=>false
def eW(dep:Nat)(g:Nat→AV)(x0 x1:AV)(H:Heap)(Q:AV→Heap→Prop):Prop :=
 doW (Zj H dep 2 33 x0) fun v1 H1 =>
 doQ (Zb H1 230 x1) fun v2 =>
 doQ (ZQ v2) fun v3 =>
 doQ (Zd 266 v3 1) fun v4 =>
 doQ (Zb H1 264 v4) fun v5 =>
 doQ (Zb H1 33 v1) fun v6 =>
 doQ (ZH H1 264 v5 v6) fun v7 =>
 Q v7 H1
theorem jr(dep:Nat)(x0 x1:AV)(H:Heap)(Q:AV→Heap→Prop)(h : ∀g,eW dep g x0 x1 H Q):GoL env Tryz.f233 (dep+1) [.code eT] [(0,x0),(1,x1)] H Q:=⟨fun g=>aJ (live:=jw) (cut:=jz) (n:=500) (Eq.mp (by kernel_rfl) (h g))⟩
noncomputable def gk:Code:=(Tryz.f234.body).getD .skip
def lS:Nat→Option (List Nat):=fun i=>none
def lU:Nat→Bool:=fun i=>false
def gl(dep:Nat)(g:Nat→AV)(x0 x1:AV)(H:Heap)(Q:AV→Heap→Prop):Prop :=
 doW (Zj H dep 2 230 x0) fun v1 H1 =>
 doW (Zj H1 dep 3 38 x1) fun v2 H2 =>
 doQ (Zd 38 v2 3) fun v3 =>
 doQ (Zb H2 35 v3) fun v4 =>
 doW (ZM dep H2 7 v4) fun v5 H3 =>
 doQ (gI (.func 242) (some []) (some [v1,v2])) fun v6 =>
 doW (Z4 dep H3 9 v5 v6) fun v7 H4 =>
 doQ (Zz v7) fun v8 =>
 Q v8 H4
theorem lP(dep:Nat)(x0 x1:AV)(H:Heap)(Q:AV→Heap→Prop)(h : ∀g,gl dep g x0 x1 H Q):GoL env Tryz.f234 (dep+1) [.code gk] [(0,x0),(1,x1)] H Q:=⟨fun g=>aJ (live:=lS) (cut:=lU) (n:=500) (Eq.mp (by kernel_rfl) (h g))⟩
noncomputable def bF:Code:=(Tryz.f241.body).getD .skip
noncomputable def aV:List Item:=(bS 2 400 [.code bF]).getD []
def ct:Nat→Option (List Nat):=fun i=>cond (Nat.beq i 2) (some [8,0,1,7]) (none)
def cw:Nat→Bool:=fun i=>false
def cx(dep:Nat)(g:Nat→AV)(x0 x1:AV)(H:Heap)(Q:AV→Heap→Prop):Prop :=
 doQ (ZA H dep 7 244 x0) fun v1 =>
  GoL env Tryz.f241 (dep+1) aV [(8,(.v (.int .i64 0))),(0,x0),(1,x1),(7,v1)] H Q
theorem ef(dep:Nat)(x0 x1:AV)(H:Heap)(Q:AV→Heap→Prop)(h : ∀g,cx dep g x0 x1 H Q):GoL env Tryz.f241 (dep+1) [.code bF] [(0,x0),(1,x1)] H Q:=⟨fun g=>aJ (live:=ct) (cut:=cw) (n:=500) (Eq.mp (by kernel_rfl) (h g))⟩
def bC(dep:Nat)(g:Nat→AV)(x8 x0 x1 x7:AV)(H:Heap)(Q:AV→Heap→Prop):Prop :=
 doQ (Zp 3 8 7 x8 x7) fun v1 =>
 br (some v1) (
 doQ (Zu H 244 x0 x8) fun v2 =>
 doQ (Zb H 33 v2) fun v3 =>
 doW (ZC dep H 16 x1 v3) fun v4 H1 =>
 br (some v4) (
 Q x8 H1) (
 doQ (Zh 3 8 1 x8) fun v5 =>
  GoL env Tryz.f241 (dep+1) aV [(8,v5),(0,x0),(1,x1),(7,x7)] H1 Q)) (
 Q (.v (.int .i64 (-1))) H)
theorem cg(dep:Nat)(x8 x0 x1 x7:AV)(H:Heap)(Q:AV→Heap→Prop)(h : ∀g,bC dep g x8 x0 x1 x7 H Q):GoL env Tryz.f241 (dep+1) aV [(8,x8),(0,x0),(1,x1),(7,x7)] H Q:=dk fun g=>aJ (live:=ct) (cut:=cw) (n:=500) (Eq.mp (by kernel_rfl) (h g))
noncomputable def fF:Code:=(Tryz.f242.body).getD .skip
def kH:Nat→Option (List Nat):=fun i=>none
def kJ:Nat→Bool:=fun i=>false
def fH(dep:Nat)(g:Nat→AV)(x0 x1 x2:AV)(H:Heap)(Q:AV→Heap→Prop):Prop :=
 doW (Zj H dep 3 33 x0) fun v1 H1 =>
 doQ (Zb H1 230 x1) fun v2 =>
 doQ (Zb H1 38 x2) fun v3 =>
 doQ (Zb H1 33 v1) fun v4 =>
 doW (Z3 dep H1 8 v2 v3 v4) fun v5 H2 =>
 doQ (Zz v5) fun v6 =>
 Q v6 H2
theorem kF(dep:Nat)(x0 x1 x2:AV)(H:Heap)(Q:AV→Heap→Prop)(h : ∀g,fH dep g x0 x1 x2 H Q):GoL env Tryz.f242 (dep+1) [.code fF] [(0,x0),(1,x1),(2,x2)] H Q:=⟨fun g=>aJ (live:=kH) (cut:=kJ) (n:=500) (Eq.mp (by kernel_rfl) (h g))⟩
end Go.Proofs.YtmkmimgokagimaaGreat
