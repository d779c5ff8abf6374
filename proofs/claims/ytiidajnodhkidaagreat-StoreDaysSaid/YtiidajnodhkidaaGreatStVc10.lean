/-
  What is to be shown of each function, computed from its code. No statement of a seat is proved here.
-/
import Derived.Test.YtiidajnodhkidaaGreatMStOk
set_option linter.unusedVariables false
set_option maxRecDepth 1000000
namespace Go.Proofs.YtiidajnodhkidaaGreat
open Go.Ab
noncomputable def qQ:Code:=(Tryz.f8.body).getD .skip
def C3:Nat→Option (List Nat):=fun i=>none
def Dx:Nat→Bool:=fun i=>false
def rb(g:Nat→AV)(x0:AV)(H:Heap)(Q:AV→Heap→Prop):Prop :=
 doW (Zf H 2 29) fun v1 H1 =>
 doW (Za true H1 7 39 []) fun v2 H2 =>
 doW (Za true H2 9 38 [v2,x0]) fun v3 H3 =>
 doQ (Zy v3 0) fun v4 =>
 doQ (Zy v3 1) fun v5 =>
 doW (Zf H3 4 24) fun v6 H4 =>
 doW (Zj H4 24 v6 v4) fun v7 H5 =>
 doQ (Zc 30 12 0 v5) fun v8 =>
 br (some v8) (
 doQ (ZC 29) fun v9 =>
 doW (Zj H5 29 v1 v9) fun v10 H6 =>
 doQ (ZJ H6 v1 29) fun v11 =>
 Q (.tup [v11,v5]) H6) (
 doQ (Zb H5 24 v6) fun v9 =>
 doW (Za true H5 17 13 [v9]) fun v10 H6 =>
 doQ (Zy v10 0) fun v11 =>
 doQ (Zy v10 1) fun v12 =>
 doW (Zj H6 29 v1 v11) fun v13 H7 =>
 doQ (ZJ H7 v1 29) fun v14 =>
 Q (.tup [v14,v12]) H7)
theorem vq(x0:AV)(H:Heap)(Q:AV→Heap→Prop)(h : ∀g,rb g x0 H Q):GoL env Tryz.f8 0 [.code qQ] [(0,x0)] H Q:=⟨fun g=>bq (live:=C3) (cut:=Dx) (n:=500) (Eq.mp (by kernel_rfl) (h g))⟩
noncomputable def qR:Code:=(Tryz.f9.body).getD .skip
def xN:Nat→Option (List Nat):=fun i=>none
def yg:Nat→Bool:=fun i=>false
def nr(g:Nat→AV)(x0 x1:AV)(H:Heap)(Q:AV→Heap→Prop):Prop :=
 doW (Zd H 2 29 x0) fun v1 H1 =>
 doW (Zd H1 3 51 x1) fun v2 H2 =>
 doW (Zf H2 4 29) fun v3 H3 =>
 doQ (Zb H3 29 v1) fun v4 =>
 doQ (Z0 92 0 v4) fun v5 =>
 doQ (sR (.func 41) (some []) (some [v2])) fun v6 =>
 doW (Za true H3 9 40 [v5,v6]) fun v7 H4 =>
 doQ (Zy v7 0) fun v8 =>
 doQ (Zy v7 1) fun v9 =>
 doW (Zj H4 29 v3 v8) fun v10 H5 =>
 doQ (ZJ H5 v3 29) fun v11 =>
 Q (.tup [v11,v9]) H5
theorem xf(x0 x1:AV)(H:Heap)(Q:AV→Heap→Prop)(h : ∀g,nr g x0 x1 H Q):GoL env Tryz.f9 0 [.code qR] [(0,x0),(1,x1)] H Q:=⟨fun g=>bq (live:=xN) (cut:=yg) (n:=500) (Eq.mp (by kernel_rfl) (h g))⟩
noncomputable def uo:Code:=(Tryz.f11.body).getD .skip
def Bu:Nat→Option (List Nat):=fun i=>none
def BP:Nat→Bool:=fun i=>false
def pH(g:Nat→AV)(x0:AV)(H:Heap)(Q:AV→Heap→Prop):Prop :=
 doW (Zd H 1 29 x0) fun v1 H1 =>
 doW (Zf H1 2 29) fun v2 H2 =>
 doQ (Zb H2 29 v1) fun v3 =>
 doQ (Z0 92 0 v3) fun v4 =>
 doW (Za true H2 6 40 [v4,(.fn (.func 43) [] [])]) fun v5 H3 =>
 doQ (Zy v5 0) fun v6 =>
 doQ (Zy v5 1) fun v7 =>
 doW (Zj H3 29 v2 v6) fun v8 H4 =>
 doQ (ZJ H4 v2 29) fun v9 =>
 Q (.tup [v9,v7]) H4
theorem AD(x0:AV)(H:Heap)(Q:AV→Heap→Prop)(h : ∀g,pH g x0 H Q):GoL env Tryz.f11 0 [.code uo] [(0,x0)] H Q:=⟨fun g=>bq (live:=Bu) (cut:=BP) (n:=500) (Eq.mp (by kernel_rfl) (h g))⟩
noncomputable def sb:Code:=(Tryz.f12.body).getD .skip
def zh:Nat→Option (List Nat):=fun i=>none
def zB:Nat→Bool:=fun i=>false
def oq(g:Nat→AV)(x0 x1:AV)(H:Heap)(Q:AV→Heap→Prop):Prop :=
 doW (Zd H 2 29 x0) fun v1 H1 =>
 doW (Zd H1 3 3 x1) fun v2 H2 =>
 doW (Zf H2 4 29) fun v3 H3 =>
 doQ (Zb H3 29 v1) fun v4 =>
 doQ (Z0 92 0 v4) fun v5 =>
 doQ (sR (.func 44) (some []) (some [v2])) fun v6 =>
 doW (Za true H3 9 40 [v5,v6]) fun v7 H4 =>
 doQ (Zy v7 0) fun v8 =>
 doQ (Zy v7 1) fun v9 =>
 doW (Zj H4 29 v3 v8) fun v10 H5 =>
 doQ (ZJ H5 v3 29) fun v11 =>
 Q (.tup [v11,v9]) H5
theorem yO(x0 x1:AV)(H:Heap)(Q:AV→Heap→Prop)(h : ∀g,oq g x0 x1 H Q):GoL env Tryz.f12 0 [.code sb] [(0,x0),(1,x1)] H Q:=⟨fun g=>bq (live:=zh) (cut:=zB) (n:=500) (Eq.mp (by kernel_rfl) (h g))⟩
noncomputable def yu:Code:=(Tryz.f13.body).getD .skip
def EF:Nat→Option (List Nat):=fun i=>none
def Fb:Nat→Bool:=fun i=>false
def k7(g:Nat→AV)(x0:AV)(H:Heap)(Q:AV→Heap→Prop):Prop :=
 doW (Zd H 1 24 x0) fun v1 H1 =>
 doW (Zf H1 2 29) fun v2 H2 =>
 doQ (Zb H2 24 v1) fun v3 =>
 doW (Za true H2 10 45 [v3]) fun v4 H3 =>
 doQ (Zc 30 11 0 v4) fun v5 =>
 br (some v5) (
 doQ (Zb H3 29 v2) fun v6 =>
 doW (Zj H3 29 v2 v6) fun v7 H4 =>
 doQ (ZJ H4 v2 29) fun v8 =>
 Q (.tup [v8,v4]) H4) (
 doQ (Zh 24 v1 1) fun v6 =>
 doQ (Zb H3 3 v6) fun v7 =>
 doQ (Zn 3 16 1 v7) fun v8 =>
 br (some v8) (
 doQ (Zb H3 29 v2) fun v9 =>
 doW (Zj H3 29 v2 v9) fun v10 H4 =>
 doQ (ZJ H4 v2 29) fun v11 =>
 Q (.tup [v11,(.v (.int .i64 2))]) H4) (
 doQ (Zb H3 24 v1) fun v9 =>
 doW (Za true H3 21 46 [v9]) fun v10 H4 =>
 doQ (Zy v10 0) fun v11 =>
 doQ (Zy v10 1) fun v12 =>
 doQ (Zy v10 2) fun v13 =>
 doW (Zf H4 6 27) fun v14 H5 =>
 doW (Zj H5 27 v14 v12) fun v15 H6 =>
 doQ (Zc 30 25 0 v13) fun v16 =>
 br (some v16) (
 doQ (Zb H6 29 v2) fun v17 =>
 doW (Zj H6 29 v2 v17) fun v18 H7 =>
 doQ (ZJ H7 v2 29) fun v19 =>
 Q (.tup [v19,v13]) H7) (
 doQ (Zb H6 24 v1) fun v17 =>
 doQ (Zh 27 v14 1) fun v18 =>
 doQ (Zb H6 3 v18) fun v19 =>
 doW (Za true H6 33 47 [v17,(.v (.int .i64 0)),v19,(.v (.int .i64 2048))]) fun v20 H7 =>
 doQ (Zy v20 0) fun v21 =>
 doQ (Zy v20 1) fun v22 =>
 doQ (Zy v20 2) fun v23 =>
 doQ (Zc 30 37 0 v23) fun v24 =>
 br (some v24) (
 doQ (Zb H7 29 v2) fun v25 =>
 doW (Zj H7 29 v2 v25) fun v26 H8 =>
 doQ (ZJ H8 v2 29) fun v27 =>
 Q (.tup [v27,v23]) H8) (
 doQ (Zb H7 24 v1) fun v25 =>
 doQ (Zh 27 v14 1) fun v26 =>
 doQ (Zb H7 3 v26) fun v27 =>
 doQ (Zg H7 45 25 v21) fun v28 =>
 doQ (Zu 3 43 45 v27 v28) fun v29 =>
 doW (Za true H7 47 48 [v25,v29]) fun v30 H8 =>
 doQ (ZA v30) fun v31 =>
 br (some v31) (
 doQ (Zb H8 29 v2) fun v32 =>
 doW (Zj H8 29 v2 v32) fun v33 H9 =>
 doQ (ZJ H9 v2 29) fun v34 =>
 Q (.tup [v34,(.v (.int .i64 8))]) H9) (
 doQ (Zb H8 24 v1) fun v32 =>
 doW (Za false H8 51 49 [v32]) fun v33 H9 =>
 doW (Z6 H9 54 139 2 0 v11 1 v21) fun v34 H10 =>
 doW (Za false H10 55 50 [v34]) fun v35 H11 =>
 doQ (Zb H11 27 v14) fun v36 =>
 doQ (bN env.P 29 (some [(0,v33),(1,v35),(2,v36),(3,v22)])) fun v37 =>
 doW (Zj H11 29 v2 v37) fun v38 H12 =>
 doQ (ZJ H12 v2 29) fun v39 =>
 Q (.tup [v39,(.v (.int .i64 0))]) H12)))))
theorem DZ(x0:AV)(H:Heap)(Q:AV→Heap→Prop)(h : ∀g,k7 g x0 H Q):GoL env Tryz.f13 0 [.code yu] [(0,x0)] H Q:=⟨fun g=>bq (live:=EF) (cut:=Fb) (n:=500) (Eq.mp (by kernel_rfl) (h g))⟩
noncomputable def sc:Code:=(Tryz.f16.body).getD .skip
def zi:Nat→Option (List Nat):=fun i=>none
def zC:Nat→Bool:=fun i=>false
def ot(g:Nat→AV)(x0:AV)(H:Heap)(Q:AV→Heap→Prop):Prop :=
 doW (Zd H 1 29 x0) fun v1 H1 =>
 doQ (Zh 29 v1 0) fun v2 =>
 doQ (Zb H1 24 v2) fun v3 =>
 doW (Za true H1 8 13 [v3]) fun v4 H2 =>
 doQ (Zy v4 0) fun v5 =>
 doQ (Zy v4 1) fun v6 =>
 doW (Zf H2 3 29) fun v7 H3 =>
 doW (Zj H3 29 v7 v5) fun v8 H4 =>
 doQ (Zc 30 11 0 v6) fun v9 =>
 gQ v9 false (Zb H4 29 v7) fun v10 =>
 gQ v9 false (Zb H4 29 v1) fun v11 =>
 gW v9 false H4 (Za true H4 16 22 [v10,v11]) fun v12 H5 =>
 gQ v9 false (ZA v12) fun v13 =>
 doQ (Zm v9 v13) fun v14 =>
 br (some v14) (
 Q (.v (.int .i64 8)) H5) (
 Q (.v (.int .i64 0)) H5)
theorem yP(x0:AV)(H:Heap)(Q:AV→Heap→Prop)(h : ∀g,ot g x0 H Q):GoL env Tryz.f16 0 [.code sc] [(0,x0)] H Q:=⟨fun g=>bq (live:=zi) (cut:=zC) (n:=500) (Eq.mp (by kernel_rfl) (h g))⟩
noncomputable def sa:Code:=(Tryz.f20.body).getD .skip
def zg:Nat→Option (List Nat):=fun i=>none
def zA:Nat→Bool:=fun i=>false
def sA(g:Nat→AV)(x0:AV)(H:Heap)(Q:AV→Heap→Prop):Prop :=
 doW (Zd H 1 29 x0) fun v1 H1 =>
 doQ (Zh 29 v1 0) fun v2 =>
 doQ (Zh 24 v2 1) fun v3 =>
 doQ (Zb H1 3 v3) fun v4 =>
 Q v4 H1
theorem yN(x0:AV)(H:Heap)(Q:AV→Heap→Prop)(h : ∀g,sA g x0 H Q):GoL env Tryz.f20 0 [.code sa] [(0,x0)] H Q:=⟨fun g=>bq (live:=zg) (cut:=zA) (n:=500) (Eq.mp (by kernel_rfl) (h g))⟩
noncomputable def uj:Code:=(Tryz.f22.body).getD .skip
def Bt:Nat→Option (List Nat):=fun i=>none
def BO:Nat→Bool:=fun i=>false
def jm(g:Nat→AV)(x0 x1:AV)(H:Heap)(Q:AV→Heap→Prop):Prop :=
 doW (Zd H 2 29 x0) fun v1 H1 =>
 doW (Zd H1 3 29 x1) fun v2 H2 =>
 doQ (Zh 29 v1 0) fun v3 =>
 doQ (Zb H2 24 v3) fun v4 =>
 doQ (Zh 29 v2 0) fun v5 =>
 doQ (Zb H2 24 v5) fun v6 =>
 doW (Za true H2 9 53 [v4,v6]) fun v7 H3 =>
 gQ v7 true (Zh 29 v1 1) fun v8 =>
 gQ v7 true (Zb H3 25 v8) fun v9 =>
 gQ v7 true (Zh 29 v2 1) fun v10 =>
 gQ v7 true (Zb H3 25 v10) fun v11 =>
 gW v7 true H3 (Za true H3 15 54 [v9,v11,(.fn (.func 55) [] [])]) fun v12 H4 =>
 doQ (Zi v7 v12) fun v13 =>
 gQ v13 true (Zh 29 v1 2) fun v14 =>
 gQ v13 true (Zb H4 27 v14) fun v15 =>
 gQ v13 true (Zh 29 v2 2) fun v16 =>
 gQ v13 true (Zb H4 27 v16) fun v17 =>
 gQ v13 true (Zo 27 19 21 v15 v17) fun v18 =>
 doQ (Zi v13 v18) fun v19 =>
 gQ v19 true (Zh 29 v1 3) fun v20 =>
 gQ v19 true (Zb H4 3 v20) fun v21 =>
 gQ v19 true (Zh 29 v2 3) fun v22 =>
 gQ v19 true (Zb H4 3 v22) fun v23 =>
 gQ v19 true (Zo 3 26 28 v21 v23) fun v24 =>
 doQ (Zi v19 v24) fun v25 =>
 Q v25 H4
theorem AB(x0 x1:AV)(H:Heap)(Q:AV→Heap→Prop)(h : ∀g,jm g x0 x1 H Q):GoL env Tryz.f22 0 [.code uj] [(0,x0),(1,x1)] H Q:=⟨fun g=>bq (live:=Bt) (cut:=BO) (n:=500) (Eq.mp (by kernel_rfl) (h g))⟩
noncomputable def dQ:Code:=(Tryz.f40.body).getD .skip
def kT:Nat→Option (List Nat):=fun i=>none
def kZ:Nat→Bool:=fun i=>false
def aT(g:Nat→AV)(x0 x1:AV)(H:Heap)(Q:AV→Heap→Prop):Prop :=
 doW (Zd H 2 92 x0) fun v1 H1 =>
 doW (Zf H1 4 29) fun v2 H2 =>
 doQ (Zh 92 v1 0) fun v3 =>
 doQ (Zb H2 29 v3) fun v4 =>
 doW (Za true H2 11 16 [v4]) fun v5 H3 =>
 doQ (Zc 30 12 0 v5) fun v6 =>
 br (some v6) (
 doQ (ZC 29) fun v7 =>
 doW (Zj H3 29 v2 v7) fun v8 H4 =>
 doQ (ZJ H4 v2 29) fun v9 =>
 Q (.tup [v9,v5]) H4) (
 doQ (Zb H3 92 v1) fun v7 =>
 doW (ZB H3 19 x1 v7) fun v8 H4 =>
 doQ (Zy v8 0) fun v9 =>
 doQ (Zy v8 1) fun v10 =>
 doW (Zf H4 7 24) fun v11 H5 =>
 doW (Zj H5 24 v11 v9) fun v12 H6 =>
 doQ (Zc 30 22 0 v10) fun v13 =>
 br (some v13) (
 doQ (ZC 29) fun v14 =>
 doW (Zj H6 29 v2 v14) fun v15 H7 =>
 doQ (ZJ H7 v2 29) fun v16 =>
 Q (.tup [v16,v10]) H7) (
 doQ (Zb H6 24 v11) fun v14 =>
 doW (Za true H6 27 13 [v14]) fun v15 H7 =>
 doQ (Zy v15 0) fun v16 =>
 doQ (Zy v15 1) fun v17 =>
 doW (Zj H7 29 v2 v16) fun v18 H8 =>
 doQ (ZJ H8 v2 29) fun v19 =>
 Q (.tup [v19,v17]) H8))
theorem fa(x0 x1:AV)(H:Heap)(Q:AV→Heap→Prop)(h : ∀g,aT g x0 x1 H Q):GoL env Tryz.f40 0 [.code dQ] [(0,x0),(1,x1)] H Q:=⟨fun g=>bq (live:=kT) (cut:=kZ) (n:=500) (Eq.mp (by kernel_rfl) (h g))⟩
noncomputable def oV:Code:=(Tryz.f41.body).getD .skip
def ve:Nat→Option (List Nat):=fun i=>none
def vi:Nat→Bool:=fun i=>false
def k8(g:Nat→AV)(x0 x1:AV)(H:Heap)(Q:AV→Heap→Prop):Prop :=
 doW (Zd H 2 92 x0) fun v1 H1 =>
 doW (Zf H1 3 24) fun v2 H2 =>
 doQ (Zh 92 v1 0) fun v3 =>
 doQ (Zh 29 v3 0) fun v4 =>
 doQ (Zb H2 24 v4) fun v5 =>
 doQ (Zh 92 v1 0) fun v6 =>
 doQ (Zh 29 v6 3) fun v7 =>
 doQ (Zb H2 3 v7) fun v8 =>
 doQ (Zh 92 v1 0) fun v9 =>
 doQ (Zh 29 v9 1) fun v10 =>
 doQ (Zb H2 25 v10) fun v11 =>
 doQ (Zg H2 18 25 v11) fun v12 =>
 doQ (Ze 3 18 1 v12) fun v13 =>
 doQ (Zb H2 51 x1) fun v14 =>
 doW (Za true H2 21 42 [v5,(.v (.int .i64 0)),v8,v13,v14]) fun v15 H3 =>
 doQ (Zy v15 0) fun v16 =>
 doQ (Zy v15 1) fun v17 =>
 doQ (Zy v15 2) fun v18 =>
 doW (Zf H3 5 24) fun v19 H4 =>
 doW (Zj H4 24 v19 v16) fun v20 H5 =>
 doQ (Zb H5 24 v19) fun v21 =>
 doW (Zj H5 24 v2 v21) fun v22 H6 =>
 doQ (ZJ H6 v2 24) fun v23 =>
 Q (.tup [v23,v18]) H6
theorem uN(x0 x1:AV)(H:Heap)(Q:AV→Heap→Prop)(h : ∀g,k8 g x0 x1 H Q):GoL env Tryz.f41 0 [.code oV] [(0,x0),(1,x1)] H Q:=⟨fun g=>bq (live:=ve) (cut:=vi) (n:=500) (Eq.mp (by kernel_rfl) (h g))⟩
noncomputable def hJ:Code:=(Tryz.f43.body).getD .skip
def kU:Nat→Option (List Nat):=fun i=>none
def k5:Nat→Bool:=fun i=>false
def fc(g:Nat→AV)(x0:AV)(H:Heap)(Q:AV→Heap→Prop):Prop :=
 doW (Zd H 1 92 x0) fun v1 H1 =>
 doW (Zf H1 2 24) fun v2 H2 =>
 doQ (Zh 92 v1 0) fun v3 =>
 doQ (Zh 29 v3 0) fun v4 =>
 doQ (Zb H2 24 v4) fun v5 =>
 doQ (Zh 92 v1 0) fun v6 =>
 doQ (Zh 29 v6 1) fun v7 =>
 doQ (Zb H2 25 v7) fun v8 =>
 doW (Za true H2 10 72 [v5,v8]) fun v9 H3 =>
 doQ (Zy v9 0) fun v10 =>
 doQ (Zy v9 1) fun v11 =>
 doW (Zj H3 24 v2 v10) fun v12 H4 =>
 doQ (ZJ H4 v2 24) fun v13 =>
 Q (.tup [v13,v11]) H4
theorem kP(x0:AV)(H:Heap)(Q:AV→Heap→Prop)(h : ∀g,fc g x0 H Q):GoL env Tryz.f43 0 [.code hJ] [(0,x0)] H Q:=⟨fun g=>bq (live:=kU) (cut:=k5) (n:=500) (Eq.mp (by kernel_rfl) (h g))⟩
noncomputable def pV:Code:=(Tryz.f44.body).getD .skip
def wo:Nat→Option (List Nat):=fun i=>none
def wC:Nat→Bool:=fun i=>false
def mi(g:Nat→AV)(x0 x1:AV)(H:Heap)(Q:AV→Heap→Prop):Prop :=
 doW (Zd H 2 92 x0) fun v1 H1 =>
 doW (Zf H1 3 24) fun v2 H2 =>
 doQ (Zh 92 v1 0) fun v3 =>
 doQ (Zh 29 v3 0) fun v4 =>
 doQ (Zb H2 24 v4) fun v5 =>
 doQ (Zb H2 3 x1) fun v6 =>
 doW (Za true H2 9 38 [v5,v6]) fun v7 H3 =>
 doQ (Zy v7 0) fun v8 =>
 doQ (Zy v7 1) fun v9 =>
 doW (Zj H3 24 v2 v8) fun v10 H4 =>
 doQ (ZJ H4 v2 24) fun v11 =>
 Q (.tup [v11,v9]) H4
theorem wb(x0 x1:AV)(H:Heap)(Q:AV→Heap→Prop)(h : ∀g,mi g x0 x1 H Q):GoL env Tryz.f44 0 [.code pV] [(0,x0),(1,x1)] H Q:=⟨fun g=>bq (live:=wo) (cut:=wC) (n:=500) (Eq.mp (by kernel_rfl) (h g))⟩
noncomputable def r9:Code:=(Tryz.f48.body).getD .skip
def zf:Nat→Option (List Nat):=fun i=>none
def zy:Nat→Bool:=fun i=>false
def sy(g:Nat→AV)(x0 x1:AV)(H:Heap)(Q:AV→Heap→Prop):Prop :=
 doW (Zd H 2 24 x0) fun v1 H1 =>
 doW (Zd H1 3 3 x1) fun v2 H2 =>
 doQ (sR (.func 75) (some []) (some [v1,v2])) fun v3 =>
 doQ (Zh 24 v1 0) fun v4 =>
 doQ (Zb H2 22 v4) fun v5 =>
 doW (Za true H2 10 77 [v5,v3]) fun v6 H3 =>
 doQ (ZA v6) fun v7 =>
 Q v7 H3
theorem yM(x0 x1:AV)(H:Heap)(Q:AV→Heap→Prop)(h : ∀g,sy g x0 x1 H Q):GoL env Tryz.f48 0 [.code r9] [(0,x0),(1,x1)] H Q:=⟨fun g=>bq (live:=zf) (cut:=zy) (n:=500) (Eq.mp (by kernel_rfl) (h g))⟩
noncomputable def pU:Code:=(Tryz.f75.body).getD .skip
def wm:Nat→Option (List Nat):=fun i=>none
def wB:Nat→Bool:=fun i=>false
def eR(g:Nat→AV)(x0 x1 x2:AV)(H:Heap)(Q:AV→Heap→Prop):Prop :=
 doW (Zd H 3 78 x0) fun v1 H1 =>
 doQ (Zh 78 v1 1) fun v2 =>
 doQ (Zb H1 76 v2) fun v3 =>
 doW (Za true H1 11 76 [v3]) fun v4 H2 =>
 doQ (Zy v4 0) fun v5 =>
 doQ (Zy v4 1) fun v6 =>
 doW (Zf H2 5 132) fun v7 H3 =>
 doW (Zj H3 132 v7 v5) fun v8 H4 =>
 doQ (Zh 132 v7 0) fun v9 =>
 doQ (Zb H4 3 v9) fun v10 =>
 doQ (Zh 24 x1 1) fun v11 =>
 doQ (Zb H4 3 v11) fun v12 =>
 doQ (ZY 3 15 17 v10 v12) fun v13 =>
 gQ v13 false (Zh 132 v7 1) fun v14 =>
 gQ v13 false (Zb H4 3 v14) fun v15 =>
 gQ v13 false (Zb H4 3 x2) fun v16 =>
 gQ v13 false (Ze 3 22 1 v16) fun v17 =>
 gQ v13 false (ZY 3 21 23 v15 v17) fun v18 =>
 doQ (Zm v13 v18) fun v19 =>
 gQ v19 false (Zh 132 v7 1) fun v20 =>
 gQ v19 false (Zb H4 3 v20) fun v21 =>
 gQ v19 false (Zb H4 3 x2) fun v22 =>
 gQ v19 false (Ze 3 29 1 v22) fun v23 =>
 gQ v19 false (Zo 3 28 30 v21 v23) fun v24 =>
 gQ v19 false (ZD v24) fun v25 =>
 gQ v25 true (Zh 132 v7 0) fun v26 =>
 gQ v25 true (Zb H4 3 v26) fun v27 =>
 gQ v25 true (Zh 24 x1 1) fun v28 =>
 gQ v25 true (Zb H4 3 v28) fun v29 =>
 gQ v25 true (Zo 3 34 36 v27 v29) fun v30 =>
 gQ v19 false (Zi v25 v30) fun v31 =>
 gQ v19 false (ZD v31) fun v32 =>
 gQ v32 true (Zh 24 x1 3) fun v33 =>
 gQ v32 true (Zb H4 4 v33) fun v34 =>
 gQ v32 true (ZA v34) fun v35 =>
 gQ v19 false (Zi v32 v35) fun v36 =>
 doQ (Zm v19 v36) fun v37 =>
 doQ (Zh 78 v1 0) fun v38 =>
 doQ (Zb H4 3 v38) fun v39 =>
 doQ (Zn 3 46 2048 v39) fun v40 =>
 gQ v40 true (ZD v6) fun v41 =>
 gQ v40 true (Zl 30 49 0 v41) fun v42 =>
 doQ (Zi v40 v42) fun v43 =>
 gQ v43 true (ZD v37) fun v44 =>
 doQ (Zi v43 v44) fun v45 =>
 Q v45 H4
theorem wa(x0 x1 x2:AV)(H:Heap)(Q:AV→Heap→Prop)(h : ∀g,eR g x0 x1 x2 H Q):GoL env Tryz.f75 0 [.code pU] [(0,x0),(1,x1),(2,x2)] H Q:=⟨fun g=>bq (live:=wm) (cut:=wB) (n:=500) (Eq.mp (by kernel_rfl) (h g))⟩
noncomputable def cG:Code:=(Tryz.f77.body).getD .skip
def ee:Nat→Option (List Nat):=fun i=>none
def ef:Nat→Bool:=fun i=>false
def cH(g:Nat→AV)(x0 x1:AV)(H:Heap)(Q:AV→Heap→Prop):Prop :=
 doW (Za true H 7 119 [x0,x1]) fun v1 H1 =>
 doQ (Zk 3 7 0 v1) fun v2 =>
 Q v2 H1
theorem dZ(x0 x1:AV)(H:Heap)(Q:AV→Heap→Prop)(h : ∀g,cH g x0 x1 H Q):GoL env Tryz.f77 0 [.code cG] [(0,x0),(1,x1)] H Q:=⟨fun g=>bq (live:=ee) (cut:=ef) (n:=500) (Eq.mp (by kernel_rfl) (h g))⟩
noncomputable def bM:Code:=(Tryz.f119.body).getD .skip
noncomputable def bk:List Item:=(cm 2 400 [.code bM]).getD []
def cO:Nat→Option (List Nat):=fun i=>cond (Nat.beq i 2) (some [8,0,1,7]) (none)
def cP:Nat→Bool:=fun i=>false
def cQ(g:Nat→AV)(x0 x1:AV)(H:Heap)(Q:AV→Heap→Prop):Prop :=
 doQ (Zg H 7 22 x0) fun v1 =>
  GoL env Tryz.f119 0 bk [(8,(.v (.int .i64 0))),(0,x0),(1,x1),(7,v1)] H Q
theorem ep(x0 x1:AV)(H:Heap)(Q:AV→Heap→Prop)(h : ∀g,cQ g x0 x1 H Q):GoL env Tryz.f119 0 [.code bM] [(0,x0),(1,x1)] H Q:=⟨fun g=>bq (live:=cO) (cut:=cP) (n:=500) (Eq.mp (by kernel_rfl) (h g))⟩
def bm(g:Nat→AV)(x8 x0 x1 x7:AV)(H:Heap)(Q:AV→Heap→Prop):Prop :=
 doQ (Zq 3 8 7 x8 x7) fun v1 =>
 br (some v1) (
 doQ (Zs H 22 x0 x8) fun v2 =>
 doQ (Zb H 78 v2) fun v3 =>
 doW (ZB H 16 x1 v3) fun v4 H1 =>
 br (some v4) (
 Q x8 H1) (
 doQ (Ze 3 8 1 x8) fun v5 =>
  GoL env Tryz.f119 0 bk [(8,v5),(0,x0),(1,x1),(7,x7)] H1 Q)) (
 Q (.v (.int .i64 (-1))) H)
theorem cL(x8 x0 x1 x7:AV)(H:Heap)(Q:AV→Heap→Prop)(h : ∀g,bm g x8 x0 x1 x7 H Q):GoL env Tryz.f119 0 bk [(8,x8),(0,x0),(1,x1),(7,x7)] H Q:=c9 fun g=>bq (live:=cO) (cut:=cP) (n:=500) (Eq.mp (by kernel_rfl) (h g))
noncomputable def vT:Code:=(Tryz.f53.body).getD .skip
def Da:Nat→Option (List Nat):=fun i=>none
def DE:Nat→Bool:=fun i=>false
def lQ(g:Nat→AV)(x0 x1:AV)(H:Heap)(Q:AV→Heap→Prop):Prop :=
 doW (Zd H 2 24 x0) fun v1 H1 =>
 doW (Zd H1 3 24 x1) fun v2 H2 =>
 doQ (Zh 24 v1 0) fun v3 =>
 doQ (Zb H2 22 v3) fun v4 =>
 doQ (Zh 24 v2 0) fun v5 =>
 doQ (Zb H2 22 v5) fun v6 =>
 doW (Za true H2 11 88 [v4,v6,(.fn (.func 86) [] [])]) fun v7 H3 =>
 gQ v7 true (Zh 24 v1 1) fun v8 =>
 gQ v7 true (Zb H3 3 v8) fun v9 =>
 gQ v7 true (Zh 24 v2 1) fun v10 =>
 gQ v7 true (Zb H3 3 v10) fun v11 =>
 gQ v7 true (Zo 3 14 16 v9 v11) fun v12 =>
 doQ (Zi v7 v12) fun v13 =>
 gQ v13 true (Zh 24 v1 2) fun v14 =>
 gQ v13 true (Zb H3 3 v14) fun v15 =>
 gQ v13 true (Zh 24 v2 2) fun v16 =>
 gQ v13 true (Zb H3 3 v16) fun v17 =>
 gQ v13 true (Zo 3 21 23 v15 v17) fun v18 =>
 doQ (Zi v13 v18) fun v19 =>
 gQ v19 true (Zh 24 v1 3) fun v20 =>
 gQ v19 true (Zb H3 4 v20) fun v21 =>
 gQ v19 true (Zh 24 v2 3) fun v22 =>
 gQ v19 true (Zb H3 4 v22) fun v23 =>
 gQ v19 true (Zo 4 28 30 v21 v23) fun v24 =>
 doQ (Zi v19 v24) fun v25 =>
 Q v25 H3
theorem Cz(x0 x1:AV)(H:Heap)(Q:AV→Heap→Prop)(h : ∀g,lQ g x0 x1 H Q):GoL env Tryz.f53 0 [.code vT] [(0,x0),(1,x1)] H Q:=⟨fun g=>bq (live:=Da) (cut:=DE) (n:=500) (Eq.mp (by kernel_rfl) (h g))⟩
noncomputable def sq:Code:=(Tryz.f86.body).getD .skip
def zq:Nat→Option (List Nat):=fun i=>none
def zK:Nat→Bool:=fun i=>false
def oy(g:Nat→AV)(x0 x1:AV)(H:Heap)(Q:AV→Heap→Prop):Prop :=
 doW (Zd H 2 78 x0) fun v1 H1 =>
 doW (Zd H1 3 78 x1) fun v2 H2 =>
 doQ (Zh 78 v1 0) fun v3 =>
 doQ (Zb H2 3 v3) fun v4 =>
 doQ (Zh 78 v2 0) fun v5 =>
 doQ (Zb H2 3 v5) fun v6 =>
 doQ (Zo 3 6 8 v4 v6) fun v7 =>
 gQ v7 true (Zh 78 v1 1) fun v8 =>
 gQ v7 true (Zb H2 76 v8) fun v9 =>
 gQ v7 true (Zh 78 v2 1) fun v10 =>
 gQ v7 true (Zb H2 76 v10) fun v11 =>
 gW v7 true H2 (Za true H2 15 87 [v9,v11]) fun v12 H3 =>
 doQ (Zi v7 v12) fun v13 =>
 Q v13 H3
theorem y0(x0 x1:AV)(H:Heap)(Q:AV→Heap→Prop)(h : ∀g,oy g x0 x1 H Q):GoL env Tryz.f86 0 [.code sq] [(0,x0),(1,x1)] H Q:=⟨fun g=>bq (live:=zq) (cut:=zK) (n:=500) (Eq.mp (by kernel_rfl) (h g))⟩
noncomputable def aN:Code:=(Tryz.f88.body).getD .skip
noncomputable def aA:List Item:=(cm 4 400 [.code aN]).getD []
def bc:Nat→Option (List Nat):=fun i=>cond (Nat.beq i 4) (some [17,2,1,15,16]) (none)
def bh:Nat→Bool:=fun i=>false
def aP(g:Nat→AV)(x0 x1 x2:AV)(H:Heap)(Q:AV→Heap→Prop):Prop :=
 doQ (Zg H 11 22 x0) fun v1 =>
 doQ (Zg H 13 22 x1) fun v2 =>
 doQ (Zx 3 11 13 v1 v2) fun v3 =>
 br (some v3) (
 Q (.v (.bool false)) H) (
 doQ (Zg H 16 22 x0) fun v4 =>
  GoL env Tryz.f88 0 aA [(17,(.v (.int .i64 0))),(2,x2),(1,x1),(15,x0),(16,v4)] H Q)
theorem ct(x0 x1 x2:AV)(H:Heap)(Q:AV→Heap→Prop)(h : ∀g,aP g x0 x1 x2 H Q):GoL env Tryz.f88 0 [.code aN] [(0,x0),(1,x1),(2,x2)] H Q:=⟨fun g=>bq (live:=bc) (cut:=bh) (n:=500) (Eq.mp (by kernel_rfl) (h g))⟩
def aD(g:Nat→AV)(x17 x2 x1 x15 x16:AV)(H:Heap)(Q:AV→Heap→Prop):Prop :=
 doQ (Zq 3 17 16 x17 x16) fun v1 =>
 br (some v1) (
 doQ (Zs H 22 x15 x17) fun v2 =>
 doQ (Zb H 78 v2) fun v3 =>
 doW (Zf H 8 78) fun v4 H1 =>
 doW (Zj H1 78 v4 v3) fun v5 H2 =>
 doQ (Zs H2 22 x1 x17) fun v6 =>
 doQ (Zb H2 78 v6) fun v7 =>
 doW (Zf H2 9 78) fun v8 H3 =>
 doW (Zj H3 78 v8 v7) fun v9 H4 =>
 doQ (Zb H4 78 v4) fun v10 =>
 doQ (Zb H4 78 v8) fun v11 =>
 doW (ZS H4 29 x2 v10 v11) fun v12 H5 =>
 doQ (ZA v12) fun v13 =>
 br (some v13) (
 Q (.v (.bool false)) H5) (
 doQ (Ze 3 17 1 x17) fun v14 =>
  GoL env Tryz.f88 0 aA [(17,v14),(2,x2),(1,x1),(15,x15),(16,x16)] H5 Q)) (
 Q (.v (.bool true)) H)
theorem aZ(x17 x2 x1 x15 x16:AV)(H:Heap)(Q:AV→Heap→Prop)(h : ∀g,aD g x17 x2 x1 x15 x16 H Q):GoL env Tryz.f88 0 aA [(17,x17),(2,x2),(1,x1),(15,x15),(16,x16)] H Q:=c9 fun g=>bq (live:=bc) (cut:=bh) (n:=500) (Eq.mp (by kernel_rfl) (h g))
noncomputable def aO:Code:=(Tryz.f54.body).getD .skip
noncomputable def aC:List Item:=(cm 4 400 [.code aO]).getD []
def bg:Nat→Option (List Nat):=fun i=>cond (Nat.beq i 4) (some [17,2,1,15,16]) (none)
def bj:Nat→Bool:=fun i=>false
def aQ(g:Nat→AV)(x0 x1 x2:AV)(H:Heap)(Q:AV→Heap→Prop):Prop :=
 doQ (Zg H 11 25 x0) fun v1 =>
 doQ (Zg H 13 25 x1) fun v2 =>
 doQ (Zx 3 11 13 v1 v2) fun v3 =>
 br (some v3) (
 Q (.v (.bool false)) H) (
 doQ (Zg H 16 25 x0) fun v4 =>
  GoL env Tryz.f54 0 aC [(17,(.v (.int .i64 0))),(2,x2),(1,x1),(15,x0),(16,v4)] H Q)
theorem cu(x0 x1 x2:AV)(H:Heap)(Q:AV→Heap→Prop)(h : ∀g,aQ g x0 x1 x2 H Q):GoL env Tryz.f54 0 [.code aO] [(0,x0),(1,x1),(2,x2)] H Q:=⟨fun g=>bq (live:=bg) (cut:=bj) (n:=500) (Eq.mp (by kernel_rfl) (h g))⟩
def aE(g:Nat→AV)(x17 x2 x1 x15 x16:AV)(H:Heap)(Q:AV→Heap→Prop):Prop :=
 doQ (Zq 3 17 16 x17 x16) fun v1 =>
 br (some v1) (
 doQ (Zs H 25 x15 x17) fun v2 =>
 doQ (Zb H 51 v2) fun v3 =>
 doW (Zf H 8 51) fun v4 H1 =>
 doW (Zj H1 51 v4 v3) fun v5 H2 =>
 doQ (Zs H2 25 x1 x17) fun v6 =>
 doQ (Zb H2 51 v6) fun v7 =>
 doW (Zf H2 9 51) fun v8 H3 =>
 doW (Zj H3 51 v8 v7) fun v9 H4 =>
 doQ (Zb H4 51 v4) fun v10 =>
 doQ (Zb H4 51 v8) fun v11 =>
 doW (ZS H4 29 x2 v10 v11) fun v12 H5 =>
 doQ (ZA v12) fun v13 =>
 br (some v13) (
 Q (.v (.bool false)) H5) (
 doQ (Ze 3 17 1 x17) fun v14 =>
  GoL env Tryz.f54 0 aC [(17,v14),(2,x2),(1,x1),(15,x15),(16,x16)] H5 Q)) (
 Q (.v (.bool true)) H)
theorem a9(x17 x2 x1 x15 x16:AV)(H:Heap)(Q:AV→Heap→Prop)(h : ∀g,aE g x17 x2 x1 x15 x16 H Q):GoL env Tryz.f54 0 aC [(17,x17),(2,x2),(1,x1),(15,x15),(16,x16)] H Q:=c9 fun g=>bq (live:=bg) (cut:=bj) (n:=500) (Eq.mp (by kernel_rfl) (h g))
noncomputable def bt:Code:=(Tryz.f50.body).getD .skip
noncomputable def bo:List Item:=(cm 3 400 [.code bt]).getD []
noncomputable def bL:List Item:=(cm 11 400 [.code bt]).getD []
def bQ:Nat→Option (List Nat):=fun i=>cond (Nat.beq i 3) (some [11,3,9,0,10]) (cond (Nat.beq i 11) (some [27,6,25,26]) (none))
def bR:Nat→Bool:=fun i=>false
def cW(g:Nat→AV)(x0:AV)(H:Heap)(Q:AV→Heap→Prop):Prop :=
 doQ (Zg H 10 139 x0) fun v1 =>
  GoL env Tryz.f50 0 bo [(11,(.v (.int .i64 0))),(3,(.v (.int .i64 0))),(9,x0),(0,x0),(10,v1)] H Q
theorem eJ(x0:AV)(H:Heap)(Q:AV→Heap→Prop)(h : ∀g,cW g x0 H Q):GoL env Tryz.f50 0 [.code bt] [(0,x0)] H Q:=⟨fun g=>bq (live:=bQ) (cut:=bR) (n:=500) (Eq.mp (by kernel_rfl) (h g))⟩
def aW(g:Nat→AV)(x11 x3 x9 x0 x10:AV)(H:Heap)(Q:AV→Heap→Prop):Prop :=
 doQ (Zq 3 11 10 x11 x10) fun v1 =>
 br (some v1) (
 doQ (Zs H 139 x9 x11) fun v2 =>
 doQ (Zb H 25 v2) fun v3 =>
 doQ (Zg H 17 25 v3) fun v4 =>
 doQ (Zu 3 15 17 x3 v4) fun v5 =>
 doQ (Zn 3 19 0 v5) fun v6 =>
 br (some v6) (
 doQ (Z5 9) fun v7 =>
 doQ (none) fun v8 =>
 doQ (Ze 3 11 1 x11) fun v9 =>
  GoL env Tryz.f50 0 bo [(11,v9),(3,v5),(9,x9),(0,x0),(10,x10)] H Q) (
 doQ (Ze 3 11 1 x11) fun v7 =>
  GoL env Tryz.f50 0 bo [(11,v7),(3,v5),(9,x9),(0,x0),(10,x10)] H Q)) (
 doW (Za true H 24 80 [(.v (.slice none 0 0)),x3]) fun v2 H1 =>
 doQ (Zg H1 26 139 x0) fun v3 =>
  GoL env Tryz.f50 0 bL [(27,(.v (.int .i64 0))),(6,v2),(25,x0),(26,v3)] H1 Q)
theorem bO(x11 x3 x9 x0 x10:AV)(H:Heap)(Q:AV→Heap→Prop)(h : ∀g,aW g x11 x3 x9 x0 x10 H Q):GoL env Tryz.f50 0 bo [(11,x11),(3,x3),(9,x9),(0,x0),(10,x10)] H Q:=c9 fun g=>bq (live:=bQ) (cut:=bR) (n:=500) (Eq.mp (by kernel_rfl) (h g))
def an(g:Nat→AV)(x27 x6 x25 x26:AV)(H:Heap)(Q:AV→Heap→Prop):Prop :=
 doQ (Zq 3 27 26 x27 x26) fun v1 =>
 br (some v1) (
 doQ (Zs H 139 x25 x27) fun v2 =>
 doQ (Zb H 25 v2) fun v3 =>
 doW (Zt H 33 25 25 x6 v3) fun v4 H1 =>
 doQ (Ze 3 27 1 x27) fun v5 =>
  GoL env Tryz.f50 0 bL [(27,v5),(6,v4),(25,x25),(26,x26)] H1 Q) (
 Q x6 H)
theorem aV(x27 x6 x25 x26:AV)(H:Heap)(Q:AV→Heap→Prop)(h : ∀g,an g x27 x6 x25 x26 H Q):GoL env Tryz.f50 0 bL [(27,x27),(6,x6),(25,x25),(26,x26)] H Q:=c9 fun g=>bq (live:=bQ) (cut:=bR) (n:=500) (Eq.mp (by kernel_rfl) (h g))
noncomputable def b9:Code:=(Tryz.f80.body).getD .skip
def eV:Nat→Option (List Nat):=fun i=>none
def eW:Nat→Bool:=fun i=>false
def ca(g:Nat→AV)(x0 x1:AV)(H:Heap)(Q:AV→Heap→Prop):Prop :=
 doQ (Zn 3 5 0 x1) fun v1 =>
 br (some v1) (
 doQ (Z3 9) fun v2 =>
 doQ (none) fun v3 =>
 doQ (ZK H 10 25 x0) fun v4 =>
 doQ (Zg H 12 25 x0) fun v5 =>
 doQ (ZG 3 10 12 v4 v5) fun v6 =>
 doQ (ZG 3 8 13 x1 v6) fun v7 =>
 doQ (Zr 3 15 0 v7) fun v8 =>
 br (some v8) (
 doQ (ZK H 19 25 x0) fun v9 =>
 doQ (ZE H 25 x0 v9) fun v10 =>
 doW (Zt H 22 25 3 v10 v7) fun v11 H1 =>
 doQ (Zg H1 24 25 x0) fun v12 =>
 doQ (ZE H1 25 v11 v12) fun v13 =>
 Q v13 H1) (
 Q x0 H)) (
 doQ (ZK H 10 25 x0) fun v2 =>
 doQ (Zg H 12 25 x0) fun v3 =>
 doQ (ZG 3 10 12 v2 v3) fun v4 =>
 doQ (ZG 3 8 13 x1 v4) fun v5 =>
 doQ (Zr 3 15 0 v5) fun v6 =>
 br (some v6) (
 doQ (ZK H 19 25 x0) fun v7 =>
 doQ (ZE H 25 x0 v7) fun v8 =>
 doW (Zt H 22 25 3 v8 v5) fun v9 H1 =>
 doQ (Zg H1 24 25 x0) fun v10 =>
 doQ (ZE H1 25 v9 v10) fun v11 =>
 Q v11 H1) (
 Q x0 H))
theorem da(x0 x1:AV)(H:Heap)(Q:AV→Heap→Prop)(h : ∀g,ca g x0 x1 H Q):GoL env Tryz.f80 0 [.code b9] [(0,x0),(1,x1)] H Q:=⟨fun g=>bq (live:=eV) (cut:=eW) (n:=500) (Eq.mp (by kernel_rfl) (h g))⟩
end Go.Proofs.YtiidajnodhkidaaGreat
