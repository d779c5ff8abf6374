/-
  What is to be shown of each function, computed from its code. No statement of a seat is proved here.
-/
import Derived.Test.YtiidajnodhkidaaGreatMStOk
set_option linter.unusedVariables false
set_option maxRecDepth 1000000
namespace Go.Proofs.YtiidajnodhkidaaGreat
open Go.Ab
noncomputable def pB:Code:=(Tryz.f70.body).getD .skip
noncomputable def fV:List Item:=(iI 10008 400 [.code pB]).getD []
noncomputable def bE:Code:=rfA fV
noncomputable def bD:Code:=rfB fV
noncomputable def mW:List Item:=rfK fV
def ph:Nat→Option (List Nat):=fun i=>cond (Nat.beq i 10008) (some [34,6,10,5,4]) (none)
def pw:Nat→Bool:=fun i=>false
def mN(g:Nat→AV)(x0 x1 x2:AV)(H:Heap)(Q:AV→Heap→Prop):Prop :=
 doW (Zd H 3 51 x0) fun v1 H1 =>
 doW (Zd H1 4 3 x1) fun v2 H2 =>
 doW (Zd H2 5 3 x2) fun v3 H3 =>
 doW (Zf H3 6 122) fun v4 H4 =>
 doQ (Zb H4 51 v1) fun v5 =>
 doQ (Z0 107 0 v5) fun v6 =>
 doW (Za true H4 17 51 [v6]) fun v7 H5 =>
 doQ (Zy v7 0) fun v8 =>
 doQ (Zy v7 1) fun v9 =>
 doQ (ZA v9) fun v10 =>
 br (some v10) (
 doW (Z2 H5 122 v4) fun v11 H6 =>
 doQ (ZJ H6 v4 122) fun v12 =>
 Q (.tup [v12,(.v (.int .i64 8))]) H6) (
 doQ (Zb H5 51 v1) fun v11 =>
 doW (Za true H5 24 105 [v11]) fun v12 H6 =>
 doQ (Zy v12 0) fun v13 =>
 doQ (Zy v12 1) fun v14 =>
 doW (Zf H6 10 3) fun v15 H7 =>
 doW (Zj H7 3 v15 v13) fun v16 H8 =>
 doQ (Zb H8 3 v2) fun v17 =>
 doQ (Zb H8 3 v3) fun v18 =>
 doQ (Zb H8 3 v15) fun v19 =>
 doQ (bN env.P 132 (some [(0,v17),(1,v18),(3,v19)])) fun v20 =>
 doW (Za true H8 31 106 [v20]) fun v21 H9 =>
 doQ (ZA v21) fun v22 =>
 br (some v22) (
 doW (Z2 H9 122 v4) fun v23 H10 =>
 doQ (ZJ H10 v4 122) fun v24 =>
 Q (.tup [v24,(.v (.int .i64 2))]) H10) (
 doW (Za true H9 34 107 [v8,(.v (.int .i64 119))]) fun v23 H10 =>
  GoL env Tryz.f70 0 fV [(34,v23),(6,v4),(10,v15),(5,v3),(4,v2)] H10 Q))
theorem AI(x0 x1 x2:AV)(H:Heap)(Q:AV→Heap→Prop)(h : ∀g,mN g x0 x1 x2 H Q):GoL env Tryz.f70 0 [.code pB] [(0,x0),(1,x1),(2,x2)] H Q:=⟨fun g=>bq (live:=ph) (cut:=pw) (n:=500) (Eq.mp (by kernel_rfl) (h g))⟩
def my(g:Nat→AV)(x6:AV)(H:Heap)(Q:AV→Heap→Prop):Prop :=
 doQ (Zb H 122 x6) fun v1 =>
 doW (Zj H 122 x6 v1) fun v2 H1 =>
 doQ (ZJ H1 x6 122) fun v3 =>
 Q (.tup [v3,(.v (.int .i64 0))]) H1
theorem rH(x6:AV)(H:Heap)(Q:AV→Heap→Prop)(h : ∀g,my g x6 H Q):GoL env Tryz.f70 0 mW [(6,x6)] H Q:=⟨fun g=>bq (live:=ph) (cut:=pw) (n:=500) (Eq.mp (by kernel_rfl) (h g))⟩
def fY(r:Ref)(g:Nat→AV)(x6 x10 x5 x4 x35:AV)(H:Heap)(Q:AV→Heap→Prop):Prop :=
 bgP (lpAt H r) fun i1 =>
 doQ (ak env.P (Heap.get (Heap.put H r (some (eY 1 i1)))) 3 (some x4)) fun v2 =>
 doW (cr env false (limf env) (limt env 2) (Heap.put H r (some (eY 1 i1))) (⟨2,37,Heap.gen (Heap.put H r (some (eY 1 i1))) 2 37,0⟩:Ref) (some (.fn (.func 109) [] [])) [v2,(.v (.int .i64 4))]) fun v3 H1 =>
 doQ (Zb H1 3 x5) fun v4 =>
 doW (cr env false (limf env) (limt env 2) H1 (⟨2,39,Heap.gen H1 2 39,0⟩:Ref) (some (.fn (.func 109) [] [])) [v4,(.v (.int .i64 3))]) fun v5 H2 =>
 doQ (Zb H2 122 x6) fun v6 =>
 doQ (az env.P false (Heap.get H2) (⟨2,41,Heap.gen H2 2 41,0⟩:Ref) .len #[122] [v6]) fun v7 =>
 doQ (aX env.P (Heap.get H2) (⟨2,42,Heap.gen H2 2 42,0⟩:Ref) 3 5 (some v7)) fun v8 =>
 doQ (Zb H2 3 x10) fun v9 =>
 doQ (aX env.P (Heap.get H2) (⟨2,44,Heap.gen H2 2 44,0⟩:Ref) 3 5 (some v9)) fun v10 =>
 doW (gY env.P true false H2 (⟨2,45,Heap.gen H2 2 45,0⟩:Ref) 76 2 (some [(0,v8),(1,v10)])) fun v11 H3 =>
 doW (gY env.P true false H3 (⟨2,47,Heap.gen H3 2 47,0⟩:Ref) 122 4 (some [(0,v3),(1,v5),(2,v11),(3,x35)])) fun v12 H4 =>
 doW (cr env false (limf env) (limt env 2) H4 (⟨2,48,Heap.gen H4 2 48,0⟩:Ref) (some (.fn (.func 108) [] [])) [v12]) fun v13 H5 =>
 doQ (Zb H5 122 x6) fun v14 =>
 doQ (az env.P false (Heap.get H5) (⟨2,52,Heap.gen H5 2 52,0⟩:Ref) .len #[76] [v13]) fun v15 =>
 doQ (ZV 3 128 52 v15) fun v16 =>
 doW (cz env.P true H5 (⟨2,54,Heap.gen H5 2 54,0⟩:Ref) (some 76) (some 3) v13 v16) fun v17 H6 =>
 doW (gY env.P true true H6 (⟨2,55,Heap.gen H6 2 55,0⟩:Ref) 122 1 (some [(0,v17)])) fun v18 H7 =>
 doW (cz env.P true H7 (⟨2,56,Heap.gen H7 2 56,0⟩:Ref) (some 122) (some 122) v14 v18) fun v19 H8 =>
 doW (Zj H8 122 x6 v19) fun v20 H9 =>
  oX [(x6,v13),(x6,v17)] [x6] [v17] H9 ∧
 (Q (.v (.int .i64 0)) H9)
theorem sJ(r:Ref)(x6 x10 x5 x4 x35:AV)(H:Heap)(Q:AV→Heap→Prop)(h : ∀g,fY r g x6 x10 x5 x4 x35 H Q):GoX env Tryz.f70 (some r) 2 [.code bE,.beginRound,.code bD] [(6,x6),(10,x10),(5,x5),(4,x4),(35,x35)] H Q:=⟨fun g=>bq (live:=ph) (cut:=pw) (n:=500) (Eq.mp (by kernel_rfl) (h g))⟩
noncomputable def pC:Code:=(Tryz.f117.body).getD .skip
noncomputable def gV:List Item:=(cm 8 400 [.code pC]).getD []
def tN:Nat→Option (List Nat):=fun i=>cond (Nat.beq i 8) (some [29,5,27,2,3,0,28]) (none)
def uc:Nat→Bool:=fun i=>false
def mO(g:Nat→AV)(x0:AV)(H:Heap)(Q:AV→Heap→Prop):Prop :=
 doW (Zf H 2 51) fun v1 H1 =>
 doW (Zf H1 3 132) fun v2 H2 =>
 doQ (Zg H2 11 122 x0) fun v3 =>
 doQ (Zl 3 11 0 v3) fun v4 =>
 br (some v4) (
 doQ (Zb H2 51 v1) fun v5 =>
 doQ (Zb H2 132 v2) fun v6 =>
 doW (Zj H2 51 v1 v5) fun v7 H3 =>
 doW (Zj H3 132 v2 v6) fun v8 H4 =>
  oX [(v2,v1)] [v1,v2] [] H4 ∧
 (doQ (ZJ H4 v1 51) fun v9 =>
 doQ (ZJ H4 v2 132) fun v10 =>
 Q (.tup [v9,v10,(.v (.int .i64 8))]) H4)) (
 doQ (Zv H2 122 x0 0) fun v5 =>
 doQ (Zb H2 76 v5) fun v6 =>
 doW (Za true H2 19 76 [v6]) fun v7 H3 =>
 doQ (Zy v7 0) fun v8 =>
 doQ (Zy v7 1) fun v9 =>
 doW (Zj H3 132 v2 v8) fun v10 H4 =>
 doQ (Zc 30 22 0 v9) fun v11 =>
 br (some v11) (
 doQ (Zb H4 51 v1) fun v12 =>
 doQ (ZC 132) fun v13 =>
 doW (Zj H4 51 v1 v12) fun v14 H5 =>
 doW (Zj H5 132 v2 v13) fun v15 H6 =>
 doQ (ZJ H6 v1 51) fun v16 =>
 doQ (ZJ H6 v2 132) fun v17 =>
 Q (.tup [v16,v17,v9]) H6) (
 doQ (Zg H4 28 122 x0) fun v12 =>
  GoL env Tryz.f117 0 gV [(29,(.v (.int .i64 0))),(5,(.v (.slice none 0 0))),(27,x0),(2,v1),(3,v2),(0,x0),(28,v12)] H4 Q))
theorem AJ(x0:AV)(H:Heap)(Q:AV→Heap→Prop)(h : ∀g,mO g x0 H Q):GoL env Tryz.f117 0 [.code pC] [(0,x0)] H Q:=⟨fun g=>bq (live:=tN) (cut:=uc) (n:=500) (Eq.mp (by kernel_rfl) (h g))⟩
def dN(g:Nat→AV)(x29 x5 x27 x2 x3 x0 x28:AV)(H:Heap)(Q:AV→Heap→Prop):Prop :=
 doQ (Zq 3 29 28 x29 x28) fun v1 =>
 br (some v1) (
 doQ (Zs H 122 x27 x29) fun v2 =>
 doQ (Zb H 76 v2) fun v3 =>
 doQ (Zg H 36 76 v3) fun v4 =>
 doQ (az env.P false (Heap.get H) (Ref.mk 0 37 (Heap.gen H 0 37) 0) .min #[3,3] [v4,(.v (.int .i64 9))]) fun v5 =>
 doQ (ZF H 76 v3 v5) fun v6 =>
 doW (Zt H 39 76 76 x5 v6) fun v7 H1 =>
 doQ (Ze 3 29 1 x29) fun v8 =>
  GoL env Tryz.f117 0 gV [(29,v8),(5,v7),(27,x27),(2,x2),(3,x3),(0,x0),(28,x28)] H1 Q) (
 doQ (Zg H 42 76 x5) fun v2 =>
 doQ (Zn 3 42 8 v2) fun v3 =>
 br (some v3) (
 doQ (Zb H 51 x2) fun v4 =>
 doQ (ZC 132) fun v5 =>
 doW (Zj H 51 x2 v4) fun v6 H1 =>
 doW (Zj H1 132 x3 v5) fun v7 H2 =>
 doQ (ZJ H2 x2 51) fun v8 =>
 doQ (ZJ H2 x3 132) fun v9 =>
 Q (.tup [v8,v9,(.v (.int .i64 8))]) H2) (
 doW (Za true H 47 152 [x5]) fun v4 H1 =>
 doW (Zj H1 51 x2 v4) fun v5 H2 =>
 doQ (Zb H2 51 x2) fun v6 =>
 doQ (Zh 132 x3 0) fun v7 =>
 doQ (Zb H2 3 v7) fun v8 =>
 doQ (Zh 132 x3 1) fun v9 =>
 doQ (Zb H2 3 v9) fun v10 =>
 doW (Za true H2 54 70 [v6,v8,v10]) fun v11 H3 =>
 doQ (Zy v11 0) fun v12 =>
 doQ (Zy v11 1) fun v13 =>
 doQ (Zc 30 57 0 v13) fun v14 =>
 gQ v14 false (ZD v12) fun v15 =>
 gQ v14 false (ZD x0) fun v16 =>
 gW v14 false H3 (Za true H3 62 153 [v15,v16,(.fn (.func 87) [] [])]) fun v17 H4 =>
 gQ v14 false (ZA v17) fun v18 =>
 doQ (Zm v14 v18) fun v19 =>
 br (some v19) (
 doQ (ZC 51) fun v20 =>
 doQ (ZC 132) fun v21 =>
 doW (Zj H4 51 x2 v20) fun v22 H5 =>
 doW (Zj H5 132 x3 v21) fun v23 H6 =>
 doQ (ZJ H6 x2 51) fun v24 =>
 doQ (ZJ H6 x3 132) fun v25 =>
 Q (.tup [v24,v25,(.v (.int .i64 8))]) H6) (
 doQ (Zb H4 51 x2) fun v20 =>
 doQ (Zb H4 132 x3) fun v21 =>
 doW (Zj H4 51 x2 v20) fun v22 H5 =>
 doW (Zj H5 132 x3 v21) fun v23 H6 =>
  oX [(x3,x2)] [x2,x3] [] H6 ∧
 (doQ (ZJ H6 x2 51) fun v24 =>
 doQ (ZJ H6 x3 132) fun v25 =>
 Q (.tup [v24,v25,(.v (.int .i64 0))]) H6))))
theorem jc(x29 x5 x27 x2 x3 x0 x28:AV)(H:Heap)(Q:AV→Heap→Prop)(h : ∀g,dN g x29 x5 x27 x2 x3 x0 x28 H Q):GoL env Tryz.f117 0 gV [(29,x29),(5,x5),(27,x27),(2,x2),(3,x3),(0,x0),(28,x28)] H Q:=c9 fun g=>bq (live:=tN) (cut:=uc) (n:=500) (Eq.mp (by kernel_rfl) (h g))
noncomputable def sg:Code:=(Tryz.f76.body).getD .skip
def zl:Nat→Option (List Nat):=fun i=>none
def zF:Nat→Bool:=fun i=>false
def lB(g:Nat→AV)(x0:AV)(H:Heap)(Q:AV→Heap→Prop):Prop :=
 doW (Zf H 2 132) fun v1 H1 =>
 doQ (Zg H1 6 76 x0) fun v2 =>
 doQ (Zc 3 6 128 v2) fun v3 =>
 br (some v3) (
 doQ (ZC 132) fun v4 =>
 doW (Zj H1 132 v1 v4) fun v5 H2 =>
 doQ (ZJ H2 v1 132) fun v6 =>
 Q (.tup [v6,(.v (.int .i64 8))]) H2) (
 doQ (cw env.P (Heap.get H1) 76 (some x0) (some none) (oi (.v (.int .i64 4))) (some none)) fun v4 =>
 doW (Za false H1 11 118 [v4]) fun v5 H2 =>
 doQ (cw env.P (Heap.get H2) 76 (some x0) (oi (.v (.int .i64 4))) (oi (.v (.int .i64 7))) (some none)) fun v6 =>
 doW (Za false H2 14 118 [v6]) fun v7 H3 =>
 doQ (Zv H3 76 x0 7) fun v8 =>
 doQ (Zb H3 5 v8) fun v9 =>
 doQ (Zp H3 18 5 3 v9) fun v10 =>
 doQ (Zv H3 76 x0 8) fun v11 =>
 doQ (Zb H3 5 v11) fun v12 =>
 doQ (Zp H3 22 5 3 v12) fun v13 =>
 doQ (bN env.P 132 (some [(0,v5),(1,v7),(2,v10),(3,v13)])) fun v14 =>
 doW (Zf H3 4 132) fun v15 H4 =>
 doW (Zj H4 132 v15 v14) fun v16 H5 =>
 doQ (Zb H5 132 v15) fun v17 =>
 doW (Za true H5 25 106 [v17]) fun v18 H6 =>
 doQ (ZA v18) fun v19 =>
 br (some v19) (
 doQ (ZC 132) fun v20 =>
 doW (Zj H6 132 v1 v20) fun v21 H7 =>
 doQ (ZJ H7 v1 132) fun v22 =>
 Q (.tup [v22,(.v (.int .i64 8))]) H7) (
 doQ (Zb H6 132 v15) fun v20 =>
 doW (Zj H6 132 v1 v20) fun v21 H7 =>
 doQ (ZJ H7 v1 132) fun v22 =>
 Q (.tup [v22,(.v (.int .i64 0))]) H7))
theorem yV(x0:AV)(H:Heap)(Q:AV→Heap→Prop)(h : ∀g,lB g x0 H Q):GoL env Tryz.f76 0 [.code sg] [(0,x0)] H Q:=⟨fun g=>bq (live:=zl) (cut:=zF) (n:=500) (Eq.mp (by kernel_rfl) (h g))⟩
noncomputable def qW:Code:=(Tryz.f19.body).getD .skip
def xQ:Nat→Option (List Nat):=fun i=>none
def yj:Nat→Bool:=fun i=>false
def rf(g:Nat→AV)(x0:AV)(H:Heap)(Q:AV→Heap→Prop):Prop :=
 doW (Zd H 1 51 x0) fun v1 H1 =>
 doQ (Zb H1 51 v1) fun v2 =>
 doQ (Z0 107 0 v2) fun v3 =>
 doW (Za true H1 8 51 [v3]) fun v4 H2 =>
 doQ (Zy v4 0) fun v5 =>
 doQ (Zy v4 1) fun v6 =>
 doQ (ZA v6) fun v7 =>
 br (some v7) (
 Q (.v (.int .i64 8)) H2) (
 Q (.v (.int .i64 0)) H2)
theorem xi(x0:AV)(H:Heap)(Q:AV→Heap→Prop)(h : ∀g,rf g x0 H Q):GoL env Tryz.f19 0 [.code qW] [(0,x0)] H Q:=⟨fun g=>bq (live:=xQ) (cut:=yj) (n:=500) (Eq.mp (by kernel_rfl) (h g))⟩
noncomputable def ur:Code:=(Tryz.f106.body).getD .skip
def Bw:Nat→Option (List Nat):=fun i=>none
def BR:Nat→Bool:=fun i=>false
def uG(g:Nat→AV)(x0:AV)(H:Heap)(Q:AV→Heap→Prop):Prop :=
 doW (Zd H 1 132 x0) fun v1 H1 =>
 doQ (Zh 132 v1 0) fun v2 =>
 doQ (Zb H1 3 v2) fun v3 =>
 doQ (Zk 3 4 1 v3) fun v4 =>
 gQ v4 true (Zh 132 v1 0) fun v5 =>
 gQ v4 true (Zb H1 3 v5) fun v6 =>
 gQ v4 true (Zn 3 8 2147483648 v6) fun v7 =>
 doQ (Zi v4 v7) fun v8 =>
 gQ v8 true (Zh 132 v1 1) fun v9 =>
 gQ v8 true (Zb H1 3 v9) fun v10 =>
 gQ v8 true (Zk 3 13 1 v10) fun v11 =>
 doQ (Zi v8 v11) fun v12 =>
 gQ v12 true (Zh 132 v1 1) fun v13 =>
 gQ v12 true (Zb H1 3 v13) fun v14 =>
 gQ v12 true (Zn 3 18 16777216 v14) fun v15 =>
 doQ (Zi v12 v15) fun v16 =>
 gQ v16 true (Zh 132 v1 3) fun v17 =>
 gQ v16 true (Zb H1 3 v17) fun v18 =>
 gQ v16 true (Zk 3 23 1 v18) fun v19 =>
 doQ (Zi v16 v19) fun v20 =>
 gQ v20 true (Zh 132 v1 3) fun v21 =>
 gQ v20 true (Zb H1 3 v21) fun v22 =>
 gQ v20 true (ZH 3 28 4 v22) fun v23 =>
 doQ (Zi v20 v23) fun v24 =>
 gQ v24 true (Zh 132 v1 2) fun v25 =>
 gQ v24 true (Zb H1 3 v25) fun v26 =>
 gQ v24 true (Zk 3 33 0 v26) fun v27 =>
 doQ (Zi v24 v27) fun v28 =>
 gQ v28 true (Zh 132 v1 2) fun v29 =>
 gQ v28 true (Zb H1 3 v29) fun v30 =>
 gQ v28 true (Zh 132 v1 3) fun v31 =>
 gQ v28 true (Zb H1 3 v31) fun v32 =>
 gQ v28 true (Zq 3 38 40 v30 v32) fun v33 =>
 doQ (Zi v28 v33) fun v34 =>
 Q v34 H1
theorem AH(x0:AV)(H:Heap)(Q:AV→Heap→Prop)(h : ∀g,uG g x0 H Q):GoL env Tryz.f106 0 [.code ur] [(0,x0)] H Q:=⟨fun g=>bq (live:=Bw) (cut:=BR) (n:=500) (Eq.mp (by kernel_rfl) (h g))⟩
noncomputable def jN:Code:=(Tryz.f109.body).getD .skip
noncomputable def kC:List Item:=(cm 2 400 [.code jN]).getD []
def pS:Nat→Option (List Nat):=fun i=>cond (Nat.beq i 2) (some [5,0,4]) (none)
def pT:Nat→Bool:=fun i=>false
def mo(g:Nat→AV)(x0 x1:AV)(H:Heap)(Q:AV→Heap→Prop):Prop :=
 doQ (Zw 3 6 1 x1) fun v1 =>
  GoL env Tryz.f109 0 kC [(5,v1),(0,x0),(4,(.v (.slice none 0 0)))] H Q
theorem pP(x0 x1:AV)(H:Heap)(Q:AV→Heap→Prop)(h : ∀g,mo g x0 x1 H Q):GoL env Tryz.f109 0 [.code jN] [(0,x0),(1,x1)] H Q:=⟨fun g=>bq (live:=pS) (cut:=pT) (n:=500) (Eq.mp (by kernel_rfl) (h g))⟩
def dp(g:Nat→AV)(x5 x0 x4:AV)(H:Heap)(Q:AV→Heap→Prop):Prop :=
 doQ (Zk 3 8 0 x5) fun v1 =>
 br (some v1) (
 doQ (ZI 3 8 14 x5) fun v2 =>
 doQ (Z1 3 13 15 x0 v2) fun v3 =>
 doQ (Zp H 17 3 5 v3) fun v4 =>
 doW (Zz H 18 76 1 0 v4) fun v5 H1 =>
 doW (Zt H1 19 76 76 x4 v5) fun v6 H2 =>
 doQ (Zw 3 10 1 x5) fun v7 =>
  GoL env Tryz.f109 0 kC [(5,v7),(0,x0),(4,v6)] H2 Q) (
 Q x4 H)
theorem dx(x5 x0 x4:AV)(H:Heap)(Q:AV→Heap→Prop)(h : ∀g,dp g x5 x0 x4 H Q):GoL env Tryz.f109 0 kC [(5,x5),(0,x0),(4,x4)] H Q:=c9 fun g=>bq (live:=pS) (cut:=pT) (n:=500) (Eq.mp (by kernel_rfl) (h g))
noncomputable def qU:Code:=(Tryz.f152.body).getD .skip
def xO:Nat→Option (List Nat):=fun i=>none
def yh:Nat→Bool:=fun i=>false
def ji(g:Nat→AV)(x0:AV)(H:Heap)(Q:AV→Heap→Prop):Prop :=
 doW (Zf H 2 51) fun v1 H1 =>
 doQ (Zv H1 76 x0 0) fun v2 =>
 doQ (Zb H1 5 v2) fun v3 =>
 doQ (Zh 51 v1 0) fun v4 =>
 doW (Zj H1 5 v4 v3) fun v5 H2 =>
 doQ (cw env.P (Heap.get H2) 76 (some x0) (oi (.v (.int .i64 1))) (some none) (some none)) fun v6 =>
 doQ (Zh 51 v1 0) fun v7 =>
 doQ (Zb H2 5 v7) fun v8 =>
 doQ (ZR 5 10 v8) fun v9 =>
 br (some v9) (
 doQ (cw env.P (Heap.get H2) 76 (some v6) (some none) (oi (.v (.int .i64 6))) (some none)) fun v10 =>
 doW (Za true H2 16 175 [v10]) fun v11 H3 =>
 doQ (Zy v11 0) fun v12 =>
 doQ (Zy v11 1) fun v13 =>
 doQ (Zh 51 v1 2) fun v14 =>
 doQ (Zh 45 v14 1) fun v15 =>
 doW (Zj H3 38 v15 v12) fun v16 H4 =>
 doQ (Zv H4 76 v6 6) fun v17 =>
 doQ (Zb H4 5 v17) fun v18 =>
 doQ (Zp H4 24 5 3 v18) fun v19 =>
 doQ (Zh 51 v1 1) fun v20 =>
 doW (Zj H4 3 v20 v19) fun v21 H5 =>
 doQ (Zb H5 51 v1) fun v22 =>
 doW (Zj H5 51 v1 v22) fun v23 H6 =>
 doQ (ZJ H6 v1 51) fun v24 =>
 Q v24 H6) (
 doQ (qBin env.P .eql 5 (Operand.tmp 10) (.const (.int .u8 2)) (some v8) (some (a8 2))) fun v10 =>
 br (some v10) (
 doQ (cw env.P (Heap.get H2) 76 (some v6) (some none) (oi (.v (.int .i64 2))) (some none)) fun v11 =>
 doW (Za true H2 30 118 [v11]) fun v12 H3 =>
 doQ (Zh 51 v1 3) fun v13 =>
 doW (Zj H3 30 v13 v12) fun v14 H4 =>
 doQ (cw env.P (Heap.get H4) 76 (some v6) (oi (.v (.int .i64 2))) (some none) (some none)) fun v15 =>
 doW (Za true H4 35 176 [v15]) fun v16 H5 =>
 doQ (Zy v16 0) fun v17 =>
 doQ (Zy v16 1) fun v18 =>
 doQ (Zy v16 2) fun v19 =>
 doQ (Zh 51 v1 2) fun v20 =>
 doW (Zj H5 45 v20 v17) fun v21 H6 =>
 doQ (Zb H6 51 v1) fun v22 =>
 doW (Zj H6 51 v1 v22) fun v23 H7 =>
 doQ (ZJ H7 v1 51) fun v24 =>
 Q v24 H7) (
 doQ (ZX 5 10 v8) fun v11 =>
 br (some v11) (
 doQ (cw env.P (Heap.get H2) 76 (some v6) (some none) (oi (.v (.int .i64 7))) (some none)) fun v12 =>
 doW (Za true H2 45 177 [v12]) fun v13 H3 =>
 doQ (Zy v13 0) fun v14 =>
 doQ (Zy v13 1) fun v15 =>
 doQ (Zh 51 v1 4) fun v16 =>
 doW (Zj H3 49 v16 v14) fun v17 H4 =>
 doQ (Zb H4 51 v1) fun v18 =>
 doW (Zj H4 51 v1 v18) fun v19 H5 =>
 doQ (ZJ H5 v1 51) fun v20 =>
 Q v20 H5) (
 doQ (Zb H2 51 v1) fun v12 =>
 doW (Zj H2 51 v1 v12) fun v13 H3 =>
 doQ (ZJ H3 v1 51) fun v14 =>
 Q v14 H3)))
theorem xg(x0:AV)(H:Heap)(Q:AV→Heap→Prop)(h : ∀g,ji g x0 H Q):GoL env Tryz.f152 0 [.code qU] [(0,x0)] H Q:=⟨fun g=>bq (live:=xO) (cut:=yh) (n:=500) (Eq.mp (by kernel_rfl) (h g))⟩
noncomputable def cJ:Code:=(Tryz.f153.body).getD .skip
noncomputable def bJ:List Item:=(cm 4 400 [.code cJ]).getD []
def dE:Nat→Option (List Nat):=fun i=>cond (Nat.beq i 4) (some [17,2,1,15,16]) (none)
def dF:Nat→Bool:=fun i=>false
def cK(g:Nat→AV)(x0 x1 x2:AV)(H:Heap)(Q:AV→Heap→Prop):Prop :=
 doQ (Zg H 11 122 x0) fun v1 =>
 doQ (Zg H 13 122 x1) fun v2 =>
 doQ (Zx 3 11 13 v1 v2) fun v3 =>
 br (some v3) (
 Q (.v (.bool false)) H) (
 doQ (Zg H 16 122 x0) fun v4 =>
  GoL env Tryz.f153 0 bJ [(17,(.v (.int .i64 0))),(2,x2),(1,x1),(15,x0),(16,v4)] H Q)
theorem fS(x0 x1 x2:AV)(H:Heap)(Q:AV→Heap→Prop)(h : ∀g,cK g x0 x1 x2 H Q):GoL env Tryz.f153 0 [.code cJ] [(0,x0),(1,x1),(2,x2)] H Q:=⟨fun g=>bq (live:=dE) (cut:=dF) (n:=500) (Eq.mp (by kernel_rfl) (h g))⟩
def bK(g:Nat→AV)(x17 x2 x1 x15 x16:AV)(H:Heap)(Q:AV→Heap→Prop):Prop :=
 doQ (Zq 3 17 16 x17 x16) fun v1 =>
 br (some v1) (
 doQ (Zs H 122 x15 x17) fun v2 =>
 doQ (Zb H 76 v2) fun v3 =>
 doQ (Zs H 122 x1 x17) fun v4 =>
 doQ (Zb H 76 v4) fun v5 =>
 doW (ZS H 29 x2 v3 v5) fun v6 H1 =>
 doQ (ZA v6) fun v7 =>
 br (some v7) (
 Q (.v (.bool false)) H1) (
 doQ (Ze 3 17 1 x17) fun v8 =>
  GoL env Tryz.f153 0 bJ [(17,v8),(2,x2),(1,x1),(15,x15),(16,x16)] H1 Q)) (
 Q (.v (.bool true)) H)
theorem cB(x17 x2 x1 x15 x16:AV)(H:Heap)(Q:AV→Heap→Prop)(h : ∀g,bK g x17 x2 x1 x15 x16 H Q):GoL env Tryz.f153 0 bJ [(17,x17),(2,x2),(1,x1),(15,x15),(16,x16)] H Q:=c9 fun g=>bq (live:=dE) (cut:=dF) (n:=500) (Eq.mp (by kernel_rfl) (h g))
noncomputable def om:Code:=(Tryz.f118.body).getD .skip
noncomputable def jL:List Item:=(cm 2 400 [.code om]).getD []
def rX:Nat→Option (List Nat):=fun i=>cond (Nat.beq i 2) (some [7,2,5,6]) (none)
def r8:Nat→Bool:=fun i=>false
def sD(g:Nat→AV)(x0:AV)(H:Heap)(Q:AV→Heap→Prop):Prop :=
 doQ (Zg H 6 76 x0) fun v1 =>
  GoL env Tryz.f118 0 jL [(7,(.v (.int .i64 0))),(2,(.v (.int .i64 0))),(5,x0),(6,v1)] H Q
theorem yT(x0:AV)(H:Heap)(Q:AV→Heap→Prop)(h : ∀g,sD g x0 H Q):GoL env Tryz.f118 0 [.code om] [(0,x0)] H Q:=⟨fun g=>bq (live:=rX) (cut:=r8) (n:=500) (Eq.mp (by kernel_rfl) (h g))⟩
def mn(g:Nat→AV)(x7 x2 x5 x6:AV)(H:Heap)(Q:AV→Heap→Prop):Prop :=
 doQ (Zq 3 7 6 x7 x6) fun v1 =>
 br (some v1) (
 doQ (Zs H 76 x5 x7) fun v2 =>
 doQ (Zb H 5 v2) fun v3 =>
 doQ (ZL 3 11 x2) fun v4 =>
 doQ (Zp H 14 5 3 v3) fun v5 =>
 doQ (ZN 3 12 14 v4 v5) fun v6 =>
 doQ (Ze 3 7 1 x7) fun v7 =>
  GoL env Tryz.f118 0 jL [(7,v7),(2,v6),(5,x5),(6,x6)] H Q) (
 Q x2 H)
theorem pO(x7 x2 x5 x6:AV)(H:Heap)(Q:AV→Heap→Prop)(h : ∀g,mn g x7 x2 x5 x6 H Q):GoL env Tryz.f118 0 jL [(7,x7),(2,x2),(5,x5),(6,x6)] H Q:=c9 fun g=>bq (live:=rX) (cut:=r8) (n:=500) (Eq.mp (by kernel_rfl) (h g))
noncomputable def nS:Code:=(Tryz.f177.body).getD .skip
def C8:Nat→Option (List Nat):=fun i=>none
def DC:Nat→Bool:=fun i=>false
def nU(g:Nat→AV)(x0:AV)(H:Heap)(Q:AV→Heap→Prop):Prop :=
 doW (Zf H 2 49) fun v1 H1 =>
 doQ (Zg H1 8 76 x0) fun v2 =>
 doQ (Zc 3 8 7 v2) fun v3 =>
 gQ v3 false (ZD x0) fun v4 =>
 gQ v3 false (Zv H1 76 v4 1) fun v5 =>
 gQ v3 false (Zb H1 5 v5) fun v6 =>
 gQ v3 false (ZM 5 13 v6) fun v7 =>
 doQ (Zm v3 v7) fun v8 =>
 br (some v8) (
 doQ (ZC 49) fun v9 =>
 doW (Zj H1 49 v1 v9) fun v10 H2 =>
 doQ (ZJ H2 v1 49) fun v11 =>
 Q (.tup [v11,(.v (.int .i64 8))]) H2) (
 doQ (cw env.P (Heap.get H1) 76 (some x0) (oi (.v (.int .i64 2))) (oi (.v (.int .i64 7))) (oi (.v (.int .i64 7)))) fun v9 =>
 doW (gY env.P false true H1 (Ref.mk 0 20 (Heap.gen H1 0 20) 0) 76 1 (some [(0,(a8 0))])) fun v10 H2 =>
 doW (Zt H2 21 76 76 v9 v10) fun v11 H3 =>
 doW (Za true H3 22 175 [v11]) fun v12 H4 =>
 doQ (Zy v12 0) fun v13 =>
 doQ (Zy v12 1) fun v14 =>
 doW (Zf H4 4 38) fun v15 H5 =>
 doW (Zj H5 38 v15 v13) fun v16 H6 =>
 doQ (Zv H6 76 x0 0) fun v17 =>
 doQ (Zb H6 5 v17) fun v18 =>
 doQ (Zp H6 28 5 3 v18) fun v19 =>
 doQ (Zh 38 v15 0) fun v20 =>
 doQ (Zb H6 36 v20) fun v21 =>
 doQ (Zv H6 76 x0 1) fun v22 =>
 doQ (Zb H6 5 v22) fun v23 =>
 doQ (ZR 5 33 v23) fun v24 =>
 doQ (Yt 47 0 v21 1 v24) fun v25 =>
 doQ (Yt 49 0 v19 1 v25) fun v26 =>
 doW (Zf H6 6 49) fun v27 H7 =>
 doW (Zj H7 49 v27 v26) fun v28 H8 =>
 doQ (Zc 30 37 0 v14) fun v29 =>
 gQ v29 false (Zb H8 49 v27) fun v30 =>
 gW v29 false H8 (Za true H8 41 126 [v30]) fun v31 H9 =>
 gQ v29 false (Zc 30 41 0 v31) fun v32 =>
 doQ (Zm v29 v32) fun v33 =>
 br (some v33) (
 doQ (ZC 49) fun v34 =>
 doW (Zj H9 49 v1 v34) fun v35 H10 =>
 doQ (ZJ H10 v1 49) fun v36 =>
 Q (.tup [v36,(.v (.int .i64 8))]) H10) (
 doQ (Zb H9 49 v27) fun v34 =>
 doW (Zj H9 49 v1 v34) fun v35 H10 =>
 doQ (ZJ H10 v1 49) fun v36 =>
 Q (.tup [v36,(.v (.int .i64 0))]) H10))
theorem qo(x0:AV)(H:Heap)(Q:AV→Heap→Prop)(h : ∀g,nU g x0 H Q):GoL env Tryz.f177 0 [.code nS] [(0,x0)] H Q:=⟨fun g=>bq (live:=C8) (cut:=DC) (n:=500) (Eq.mp (by kernel_rfl) (h g))⟩
end Go.Proofs.YtiidajnodhkidaaGreat
