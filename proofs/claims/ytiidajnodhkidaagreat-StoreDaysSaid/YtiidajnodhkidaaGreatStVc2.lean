/-
  What is to be shown of each function, computed from its code. No statement of a seat is proved here.
-/
import Derived.Test.YtiidajnodhkidaaGreatMStOk
set_option linter.unusedVariables false
set_option maxRecDepth 1000000
namespace Go.Proofs.YtiidajnodhkidaaGreat
open Go.Ab
noncomputable def cV:Code:=(Tryz.f112.body).getD .skip
def eK:Nat→Option (List Nat):=fun i=>none
def eM:Nat→Bool:=fun i=>false
def bu(dep:Nat)(g:Nat→AV)(x0 x1 x2:AV)(H:Heap)(Q:AV→Heap→Prop):Prop :=
 doQ (ZF H 22 x0 x1) fun v1 =>
 doQ (ZT H dep 14 22 x2) fun v2 =>
 doQ (Zl 3 15 0 v2) fun v3 =>
 br (some v3) (
 Q x0 H) (
 doQ (ZT H dep 19 22 x0) fun v4 =>
 doQ (Zo 3 20 21 x1 v4) fun v5 =>
 br (some v5) (
 doW (cz env.P true H (⟨(dep+1),25,Heap.gen H (dep+1) 25,0⟩:Ref) (some 22) (some 22) x0 x2) fun v6 H1 =>
 Q v6 H1) (
 doQ (Zu 3 26 27 v4 v2) fun v6 =>
 doQ (az env.P false (Heap.get H) (⟨(dep+1),30,Heap.gen H (dep+1) 30,0⟩:Ref) .cap #[22] [x0]) fun v7 =>
 doQ (ZY 3 28 30 v6 v7) fun v8 =>
 br (some v8) (
 doQ (ZE H 22 x0 x1) fun v9 =>
 doQ (Zu 3 35 36 v4 v2) fun v10 =>
 doQ (ZG 3 37 38 v10 x1) fun v11 =>
 doW (cz env.P true H (⟨(dep+1),40,Heap.gen H (dep+1) 40,0⟩:Ref) (some 22) (some 3) v9 v11) fun v12 H1 =>
 doQ (ZF H1 22 v12 x1) fun v13 =>
 doW (uM env.P H1 (some 22) v13 x2) fun v14 H2 =>
 doQ (Zu 3 47 48 x1 v2) fun v15 =>
 doQ (ZF H2 22 v12 v15) fun v16 =>
 doQ (ZF H2 22 x0 x1) fun v17 =>
 doW (uM env.P H2 (some 22) v16 v17) fun v18 H3 =>
 Q v12 H3) (
 doQ (Zu 3 57 58 v4 v2) fun v9 =>
 doQ (ZE H 22 x0 v9) fun v10 =>
 doQ (Zu 3 63 64 x1 v2) fun v11 =>
 doQ (ZF H 22 v10 v11) fun v12 =>
 doW (cr env true (limf env) (limt env (dep+1)) H (⟨(dep+1),67,Heap.gen H (dep+1) 67,0⟩:Ref) (some (.fn (.func 150) [] [])) [x2,v12]) fun v13 H1 =>
 doQ (ZA v13) fun v14 =>
 br (some v14) (
 doQ (Zu 3 70 71 x1 v2) fun v15 =>
 doQ (ZF H1 22 v10 v15) fun v16 =>
 doQ (ZF H1 22 v10 x1) fun v17 =>
 doW (uM env.P H1 (some 22) v16 v17) fun v18 H2 =>
 doQ (ZF H2 22 v10 x1) fun v19 =>
 doW (uM env.P H2 (some 22) v19 x2) fun v20 H3 =>
 Q v10 H3) (
 doQ (ZF H1 22 v10 v4) fun v15 =>
 doW (uM env.P H1 (some 22) v15 x2) fun v16 H2 =>
 doQ (ZF H2 22 v10 x1) fun v17 =>
 doW (cr env true (limf env) (limt env (dep+1)) H2 (⟨(dep+1),93,Heap.gen H2 (dep+1) 93,0⟩:Ref) (some (.fn (.func 151) [] [])) [v17,v2]) fun v18 H3 =>
 Q v10 H3))))
theorem eI(dep:Nat)(x0 x1 x2:AV)(H:Heap)(Q:AV→Heap→Prop)(h : ∀g,bu dep g x0 x1 x2 H Q):GoL env Tryz.f112 (dep+1) [.code cV] [(0,x0),(1,x1),(2,x2)] H Q:=⟨fun g=>bq (live:=eK) (cut:=eM) (n:=500) (Eq.mp (by kernel_rfl) (h g))⟩
noncomputable def yw:Code:=(Tryz.f122.body).getD .skip
def EH:Nat→Option (List Nat):=fun i=>none
def Fe:Nat→Bool:=fun i=>false
def gJ(g:Nat→AV)(x0:AV)(H:Heap)(Q:AV→Heap→Prop):Prop :=
 doW (Zd H 1 45 x0) fun v1 H1 =>
 doQ (Zh 45 v1 0) fun v2 =>
 doQ (Zb H1 5 v2) fun v3 =>
 doQ (ZW 5 4 v3) fun v4 =>
 gQ v4 false (Zh 45 v1 0) fun v5 =>
 gQ v4 false (Zb H1 5 v5) fun v6 =>
 gQ v4 false (qBin env.P .geq 5 (Operand.tmp 8) (.const (.int .u8 4)) (some v6) (some (a8 4))) fun v7 =>
 doQ (Zm v4 v7) fun v8 =>
 gQ v8 false (Zh 45 v1 1) fun v9 =>
 gQ v8 false (Zb H1 38 v9) fun v10 =>
 gW v8 false H1 (Za false H1 14 120 [v10]) fun v11 H2 =>
 gQ v8 false (Zc 30 14 0 v11) fun v12 =>
 doQ (Zm v8 v12) fun v13 =>
 gQ v13 false (Zh 45 v1 2) fun v14 =>
 gQ v13 false (Zb H2 3 v14) fun v15 =>
 gQ v13 false (Zn 3 19 1 v15) fun v16 =>
 doQ (Zm v13 v16) fun v17 =>
 gQ v17 false (Zh 45 v1 2) fun v18 =>
 gQ v17 false (Zb H2 3 v18) fun v19 =>
 gQ v17 false (Zk 3 24 16777216 v19) fun v20 =>
 doQ (Zm v17 v20) fun v21 =>
 gQ v21 false (Zh 45 v1 3) fun v22 =>
 gQ v21 false (Zb H2 42 v22) fun v23 =>
 gW v21 false H2 (Za false H2 30 156 [v23]) fun v24 H3 =>
 gQ v21 false (Zc 30 30 0 v24) fun v25 =>
 doQ (Zm v21 v25) fun v26 =>
 gW v26 false H3 (Za false H3 34 157 []) fun v27 H4 =>
 gQ v26 false (Zh 45 v1 0) fun v28 =>
 gQ v26 false (Zb H4 5 v28) fun v29 =>
 gQ v26 false (rU env.P 219 (some v27) (some v29)) fun v30 =>
 gQ v26 false (rV env.P 218 (some v30) 0) fun v31 =>
 gQ v26 false (Zb H4 45 v1) fun v32 =>
 gW v26 false H4 (ZB H4 40 v31 v32) fun v33 H5 =>
 gQ v26 false (ZA v33) fun v34 =>
 doQ (Zm v26 v34) fun v35 =>
 br (some v35) (
 Q (.v (.int .i64 8)) H5) (
 Q (.v (.int .i64 0)) H5)
theorem D5(x0:AV)(H:Heap)(Q:AV→Heap→Prop)(h : ∀g,gJ g x0 H Q):GoL env Tryz.f122 0 [.code yw] [(0,x0)] H Q:=⟨fun g=>bq (live:=EH) (cut:=Fe) (n:=500) (Eq.mp (by kernel_rfl) (h g))⟩
noncomputable def uA:Code:=(Tryz.f178.body).getD .skip
def BC:Nat→Option (List Nat):=fun i=>none
def BX:Nat→Bool:=fun i=>false
def pI(g:Nat→AV)(x0:AV)(H:Heap)(Q:AV→Heap→Prop):Prop :=
 doW (Zd H 1 45 x0) fun v1 H1 =>
 doQ (Zh 45 v1 4) fun v2 =>
 doQ (Zb H1 40 v2) fun v3 =>
 doQ (ZC 40) fun v4 =>
 doQ (Zo 40 4 5 v3 v4) fun v5 =>
 gQ v5 true (Zh 45 v1 6) fun v6 =>
 gQ v5 true (Zb H1 43 v6) fun v7 =>
 gQ v5 true (Zg H1 10 43 v7) fun v8 =>
 gQ v5 true (Zl 3 10 0 v8) fun v9 =>
 doQ (Zi v5 v9) fun v10 =>
 Q v10 H1
theorem AO(x0:AV)(H:Heap)(Q:AV→Heap→Prop)(h : ∀g,pI g x0 H Q):GoL env Tryz.f178 0 [.code uA] [(0,x0)] H Q:=⟨fun g=>bq (live:=BC) (cut:=BX) (n:=500) (Eq.mp (by kernel_rfl) (h g))⟩
noncomputable def uy:Code:=(Tryz.f179.body).getD .skip
def BA:Nat→Option (List Nat):=fun i=>none
def BW:Nat→Bool:=fun i=>false
def uJ(g:Nat→AV)(x0:AV)(H:Heap)(Q:AV→Heap→Prop):Prop :=
 doW (Zd H 1 45 x0) fun v1 H1 =>
 doQ (Zh 45 v1 5) fun v2 =>
 doQ (Zb H1 36 v2) fun v3 =>
 doW (Za false H1 5 161 []) fun v4 H2 =>
 doQ (Zo 36 4 5 v3 v4) fun v5 =>
 Q v5 H2
theorem AN(x0:AV)(H:Heap)(Q:AV→Heap→Prop)(h : ∀g,uJ g x0 H Q):GoL env Tryz.f179 0 [.code uy] [(0,x0)] H Q:=⟨fun g=>bq (live:=BA) (cut:=BW) (n:=500) (Eq.mp (by kernel_rfl) (h g))⟩
noncomputable def sh:Code:=(Tryz.f161.body).getD .skip
def zm:Nat→Option (List Nat):=fun i=>none
def zG:Nat→Bool:=fun i=>false
def sE(g:Nat→AV)(H:Heap)(Q:AV→Heap→Prop):Prop :=
 doW (Zf H 0 36) fun v1 H1 =>
 doQ (ZC 36) fun v2 =>
 doW (Zj H1 36 v1 v2) fun v3 H2 =>
 doQ (ZJ H2 v1 36) fun v4 =>
 Q v4 H2
theorem yW(H:Heap)(Q:AV→Heap→Prop)(h : ∀g,sE g  H Q):GoL env Tryz.f161 0 [.code sh] [] H Q:=⟨fun g=>bq (live:=zm) (cut:=zG) (n:=500) (Eq.mp (by kernel_rfl) (h g))⟩
noncomputable def uw:Code:=(Tryz.f180.body).getD .skip
def Bz:Nat→Option (List Nat):=fun i=>none
def BU:Nat→Bool:=fun i=>false
def fN(g:Nat→AV)(x0 x1:AV)(H:Heap)(Q:AV→Heap→Prop):Prop :=
 doW (Zd H 2 45 x0) fun v1 H1 =>
 doQ (Zh 45 v1 4) fun v2 =>
 doQ (Zb H1 40 v2) fun v3 =>
 doQ (ZC 40) fun v4 =>
 doQ (Zo 40 6 7 v3 v4) fun v5 =>
 gQ v5 false (Zh 45 v1 4) fun v6 =>
 gQ v5 false (Zb H1 40 v6) fun v7 =>
 gW v5 false H1 (Za true H1 12 158 [v7]) fun v8 H2 =>
 gQ v5 false (Zl 30 12 0 v8) fun v9 =>
 doQ (Zm v5 v9) fun v10 =>
 doQ (Zb H2 144 x1) fun v11 =>
 doQ (Zb H2 45 v1) fun v12 =>
 doW (ZB H2 17 v11 v12) fun v13 H3 =>
 gQ v13 true (ZD v10) fun v14 =>
 doQ (Zi v13 v14) fun v15 =>
 gQ v15 true (Zh 45 v1 3) fun v16 =>
 gQ v15 true (Zh 42 v16 0) fun v17 =>
 gQ v15 true (Zh 40 v17 0) fun v18 =>
 gQ v15 true (Zb H3 38 v18) fun v19 =>
 gQ v15 true (Zh 45 v1 1) fun v20 =>
 gQ v15 true (Zb H3 38 v20) fun v21 =>
 gQ v15 true (Zo 38 25 27 v19 v21) fun v22 =>
 doQ (Zi v15 v22) fun v23 =>
 gQ v23 true (Zh 45 v1 6) fun v24 =>
 gQ v23 true (Zb H3 43 v24) fun v25 =>
 gQ v23 true (Zg H3 33 43 v25) fun v26 =>
 gQ v23 true (Zh 45 v1 3) fun v27 =>
 gQ v23 true (Zh 42 v27 1) fun v28 =>
 gQ v23 true (Zb H3 3 v28) fun v29 =>
 gQ v23 true (Zo 3 33 36 v26 v29) fun v30 =>
 doQ (Zi v23 v30) fun v31 =>
 gQ v31 true (Zh 45 v1 6) fun v32 =>
 gQ v31 true (Zb H3 43 v32) fun v33 =>
 gW v31 true H3 (Za true H3 42 159 [v33]) fun v34 H4 =>
 gQ v31 true (Zl 30 42 0 v34) fun v35 =>
 doQ (Zi v31 v35) fun v36 =>
 Q v36 H4
theorem AM(x0 x1:AV)(H:Heap)(Q:AV→Heap→Prop)(h : ∀g,fN g x0 x1 H Q):GoL env Tryz.f180 0 [.code uw] [(0,x0),(1,x1)] H Q:=⟨fun g=>bq (live:=Bz) (cut:=BU) (n:=500) (Eq.mp (by kernel_rfl) (h g))⟩
noncomputable def uv:Code:=(Tryz.f182.body).getD .skip
def By:Nat→Option (List Nat):=fun i=>none
def BT:Nat→Bool:=fun i=>false
def uI(g:Nat→AV)(x0 x1 x2:AV)(H:Heap)(Q:AV→Heap→Prop):Prop :=
 doW (Zd H 3 45 x0) fun v1 H1 =>
 doQ (Zb H1 144 x1) fun v2 =>
 doQ (Zb H1 45 v1) fun v3 =>
 doW (ZB H1 7 v2 v3) fun v4 H2 =>
 gQ v4 true (Zb H2 144 x2) fun v5 =>
 gQ v4 true (Zb H2 45 v1) fun v6 =>
 gW v4 true H2 (ZB H2 11 v5 v6) fun v7 H3 =>
 doQ (Zi v4 v7) fun v8 =>
 Q v8 H3
theorem AL(x0 x1 x2:AV)(H:Heap)(Q:AV→Heap→Prop)(h : ∀g,uI g x0 x1 x2 H Q):GoL env Tryz.f182 0 [.code uv] [(0,x0),(1,x1),(2,x2)] H Q:=⟨fun g=>bq (live:=By) (cut:=BT) (n:=500) (Eq.mp (by kernel_rfl) (h g))⟩
noncomputable def uu:Code:=(Tryz.f184.body).getD .skip
def Bx:Nat→Option (List Nat):=fun i=>none
def BS:Nat→Bool:=fun i=>false
def uH(g:Nat→AV)(x0 x1:AV)(H:Heap)(Q:AV→Heap→Prop):Prop :=
 doW (Zd H 2 45 x0) fun v1 H1 =>
 doQ (Zb H1 144 x1) fun v2 =>
 doQ (Zb H1 45 v1) fun v3 =>
 doW (ZB H1 6 v2 v3) fun v4 H2 =>
 gQ v4 true (Zh 45 v1 5) fun v5 =>
 gQ v4 true (Zb H2 36 v5) fun v6 =>
 gW v4 true H2 (Za true H2 10 155 [v6]) fun v7 H3 =>
 gQ v4 true (Zl 30 10 0 v7) fun v8 =>
 doQ (Zi v4 v8) fun v9 =>
 Q v9 H3
theorem AK(x0 x1:AV)(H:Heap)(Q:AV→Heap→Prop)(h : ∀g,uH g x0 x1 H Q):GoL env Tryz.f184 0 [.code uu] [(0,x0),(1,x1)] H Q:=⟨fun g=>bq (live:=Bx) (cut:=BS) (n:=500) (Eq.mp (by kernel_rfl) (h g))⟩
noncomputable def kL:Code:=(Tryz.f85.body).getD .skip
def pk:Nat→Option (List Nat):=fun i=>none
def py:Nat→Bool:=fun i=>false
def cY(g:Nat→AV)(x0 x1:AV)(H:Heap)(Q:AV→Heap→Prop):Prop :=
 doW (Zd H 2 45 x0) fun v1 H1 =>
 doW (Zd H1 3 45 x1) fun v2 H2 =>
 doQ (Zh 45 v1 0) fun v3 =>
 doQ (Zb H2 5 v3) fun v4 =>
 doQ (Zh 45 v2 0) fun v5 =>
 doQ (Zb H2 5 v5) fun v6 =>
 doQ (Zo 5 6 8 v4 v6) fun v7 =>
 gQ v7 true (Zh 45 v1 1) fun v8 =>
 gQ v7 true (Zb H2 38 v8) fun v9 =>
 gQ v7 true (Zh 45 v2 1) fun v10 =>
 gQ v7 true (Zb H2 38 v10) fun v11 =>
 gQ v7 true (Zo 38 12 14 v9 v11) fun v12 =>
 doQ (Zi v7 v12) fun v13 =>
 gQ v13 true (Zh 45 v1 2) fun v14 =>
 gQ v13 true (Zb H2 3 v14) fun v15 =>
 gQ v13 true (Zh 45 v2 2) fun v16 =>
 gQ v13 true (Zb H2 3 v16) fun v17 =>
 gQ v13 true (Zo 3 19 21 v15 v17) fun v18 =>
 doQ (Zi v13 v18) fun v19 =>
 gQ v19 true (Zh 45 v1 3) fun v20 =>
 gQ v19 true (Zb H2 42 v20) fun v21 =>
 gQ v19 true (Zh 45 v2 3) fun v22 =>
 gQ v19 true (Zb H2 42 v22) fun v23 =>
 gQ v19 true (Zo 42 26 28 v21 v23) fun v24 =>
 doQ (Zi v19 v24) fun v25 =>
 gQ v25 true (Zh 45 v1 4) fun v26 =>
 gQ v25 true (Zb H2 40 v26) fun v27 =>
 gQ v25 true (Zh 45 v2 4) fun v28 =>
 gQ v25 true (Zb H2 40 v28) fun v29 =>
 gQ v25 true (Zo 40 33 35 v27 v29) fun v30 =>
 doQ (Zi v25 v30) fun v31 =>
 gQ v31 true (Zh 45 v1 5) fun v32 =>
 gQ v31 true (Zb H2 36 v32) fun v33 =>
 gQ v31 true (Zh 45 v2 5) fun v34 =>
 gQ v31 true (Zb H2 36 v34) fun v35 =>
 gQ v31 true (Zo 36 40 42 v33 v35) fun v36 =>
 doQ (Zi v31 v36) fun v37 =>
 gQ v37 true (Zh 45 v1 6) fun v38 =>
 gQ v37 true (Zb H2 43 v38) fun v39 =>
 gQ v37 true (Zh 45 v2 6) fun v40 =>
 gQ v37 true (Zb H2 43 v40) fun v41 =>
 gW v37 true H2 (Za true H2 50 127 [v39,v41]) fun v42 H3 =>
 doQ (Zi v37 v42) fun v43 =>
 Q v43 H3
theorem pa(x0 x1:AV)(H:Heap)(Q:AV→Heap→Prop)(h : ∀g,cY g x0 x1 H Q):GoL env Tryz.f85 0 [.code kL] [(0,x0),(1,x1)] H Q:=⟨fun g=>bq (live:=pk) (cut:=py) (n:=500) (Eq.mp (by kernel_rfl) (h g))⟩
noncomputable def Ao:Code:=(Tryz.f89.body).getD .skip
def Hj:Nat→Option (List Nat):=fun i=>none
def HG:Nat→Bool:=fun i=>false
def j4(g:Nat→AV)(x0 x1:AV)(H:Heap)(Q:AV→Heap→Prop):Prop :=
 doW (Zd H 2 45 x0) fun v1 H1 =>
 doW (Zd H1 3 45 x1) fun v2 H2 =>
 doQ (Zb H2 45 v1) fun v3 =>
 doQ (Zb H2 45 v2) fun v4 =>
 doW (Zf H2 5 45) fun v5 H3 =>
 doW (Zf H3 6 45) fun v6 H4 =>
 doW (Zj H4 45 v5 v3) fun v7 H5 =>
 doW (Zj H5 45 v6 v4) fun v8 H6 =>
  oX [(v2,v5)] [v5,v6] [] H6 ∧
 (doQ (Zh 45 v5 0) fun v9 =>
 doQ (Zb H6 5 v9) fun v10 =>
 doQ (Zh 45 v6 0) fun v11 =>
 doQ (Zb H6 5 v11) fun v12 =>
 doQ (Zo 5 10 12 v10 v12) fun v13 =>
 gQ v13 true (Zh 45 v5 1) fun v14 =>
 gQ v13 true (Zb H6 38 v14) fun v15 =>
 gQ v13 true (Zh 45 v6 1) fun v16 =>
 gQ v13 true (Zb H6 38 v16) fun v17 =>
 gQ v13 true (Zo 38 16 18 v15 v17) fun v18 =>
 doQ (Zi v13 v18) fun v19 =>
 gQ v19 true (Zh 45 v5 2) fun v20 =>
 gQ v19 true (Zb H6 3 v20) fun v21 =>
 gQ v19 true (Zh 45 v6 2) fun v22 =>
 gQ v19 true (Zb H6 3 v22) fun v23 =>
 gQ v19 true (Zo 3 23 25 v21 v23) fun v24 =>
 doQ (Zi v19 v24) fun v25 =>
 gQ v25 true (Zh 45 v5 3) fun v26 =>
 gQ v25 true (Zb H6 42 v26) fun v27 =>
 gQ v25 true (Zh 45 v6 3) fun v28 =>
 gQ v25 true (Zb H6 42 v28) fun v29 =>
 gQ v25 true (Zo 42 30 32 v27 v29) fun v30 =>
 doQ (Zi v25 v30) fun v31 =>
 gQ v31 true (Zh 45 v5 4) fun v32 =>
 gQ v31 true (Zb H6 40 v32) fun v33 =>
 gQ v31 true (Zh 45 v6 4) fun v34 =>
 gQ v31 true (Zb H6 40 v34) fun v35 =>
 gQ v31 true (Zo 40 37 39 v33 v35) fun v36 =>
 doQ (Zi v31 v36) fun v37 =>
 gQ v37 true (Zh 45 v5 5) fun v38 =>
 gQ v37 true (Zb H6 36 v38) fun v39 =>
 gQ v37 true (Zh 45 v6 5) fun v40 =>
 gQ v37 true (Zb H6 36 v40) fun v41 =>
 gQ v37 true (Zo 36 44 46 v39 v41) fun v42 =>
 doQ (Zi v37 v42) fun v43 =>
 gQ v43 true (Zh 45 v5 6) fun v44 =>
 gQ v43 true (Zb H6 43 v44) fun v45 =>
 gQ v43 true (Zh 45 v6 6) fun v46 =>
 gQ v43 true (Zb H6 43 v46) fun v47 =>
 gW v43 true H6 (Za true H6 54 128 [v45,v47]) fun v48 H7 =>
 doQ (Zi v43 v48) fun v49 =>
 Q v49 H7)
theorem GD(x0 x1:AV)(H:Heap)(Q:AV→Heap→Prop)(h : ∀g,j4 g x0 x1 H Q):GoL env Tryz.f89 0 [.code Ao] [(0,x0),(1,x1)] H Q:=⟨fun g=>bq (live:=Hj) (cut:=HG) (n:=500) (Eq.mp (by kernel_rfl) (h g))⟩
noncomputable def yv:Code:=(Tryz.f83.body).getD .skip
def EG:Nat→Option (List Nat):=fun i=>none
def Fc:Nat→Bool:=fun i=>false
def yE(g:Nat→AV)(x0:AV)(H:Heap)(Q:AV→Heap→Prop):Prop :=
 doW (Zd H 1 45 x0) fun v1 H1 =>
 doQ (Zh 45 v1 6) fun v2 =>
 doQ (Zb H1 43 v2) fun v3 =>
 doW (Za true H1 5 125 [v3,(.v (.int .i32 (-1)))]) fun v4 H2 =>
 doQ (ZA v4) fun v5 =>
 Q v5 H2
theorem D4(x0:AV)(H:Heap)(Q:AV→Heap→Prop)(h : ∀g,yE g x0 H Q):GoL env Tryz.f83 0 [.code yv] [(0,x0)] H Q:=⟨fun g=>bq (live:=EG) (cut:=Fc) (n:=500) (Eq.mp (by kernel_rfl) (h g))⟩
noncomputable def gz:Code:=(Tryz.f125.body).getD .skip
def kq:Nat→Option (List Nat):=fun i=>none
def kH:Nat→Bool:=fun i=>false
def gD(g:Nat→AV)(x0 x1:AV)(H:Heap)(Q:AV→Heap→Prop):Prop :=
 doW (Za true H 7 160 [x0,x1]) fun v1 H1 =>
 doQ (Zk 3 7 0 v1) fun v2 =>
 Q v2 H1
theorem kf(x0 x1:AV)(H:Heap)(Q:AV→Heap→Prop)(h : ∀g,gD g x0 x1 H Q):GoL env Tryz.f125 0 [.code gz] [(0,x0),(1,x1)] H Q:=⟨fun g=>bq (live:=kq) (cut:=kH) (n:=500) (Eq.mp (by kernel_rfl) (h g))⟩
noncomputable def fl:Code:=(Tryz.f160.body).getD .skip
noncomputable def dG:List Item:=(cm 2 400 [.code fl]).getD []
def ia:Nat→Option (List Nat):=fun i=>cond (Nat.beq i 2) (some [8,0,1,7]) (none)
def ig:Nat→Bool:=fun i=>false
def im(g:Nat→AV)(x0 x1:AV)(H:Heap)(Q:AV→Heap→Prop):Prop :=
 doQ (Zg H 7 43 x0) fun v1 =>
  GoL env Tryz.f160 0 dG [(8,(.v (.int .i64 0))),(0,x0),(1,x1),(7,v1)] H Q
theorem lE(x0 x1:AV)(H:Heap)(Q:AV→Heap→Prop)(h : ∀g,im g x0 x1 H Q):GoL env Tryz.f160 0 [.code fl] [(0,x0),(1,x1)] H Q:=⟨fun g=>bq (live:=ia) (cut:=ig) (n:=500) (Eq.mp (by kernel_rfl) (h g))⟩
def dI(g:Nat→AV)(x8 x0 x1 x7:AV)(H:Heap)(Q:AV→Heap→Prop):Prop :=
 doQ (Zq 3 8 7 x8 x7) fun v1 =>
 br (some v1) (
 doQ (Zs H 43 x0 x8) fun v2 =>
 doQ (Zb H 21 v2) fun v3 =>
 doQ (Zo 21 11 15 x1 v3) fun v4 =>
 br (some v4) (
 Q x8 H) (
 doQ (Ze 3 8 1 x8) fun v5 =>
  GoL env Tryz.f160 0 dG [(8,v5),(0,x0),(1,x1),(7,x7)] H Q)) (
 Q (.v (.int .i64 (-1))) H)
theorem gK(x8 x0 x1 x7:AV)(H:Heap)(Q:AV→Heap→Prop)(h : ∀g,dI g x8 x0 x1 x7 H Q):GoL env Tryz.f160 0 dG [(8,x8),(0,x0),(1,x1),(7,x7)] H Q:=c9 fun g=>bq (live:=ia) (cut:=ig) (n:=500) (Eq.mp (by kernel_rfl) (h g))
end Go.Proofs.YtiidajnodhkidaaGreat
