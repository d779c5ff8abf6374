/-
  What is to be shown of each function, computed from its code. No statement of a seat is proved here.
-/
import Derived.Test.YtiidajnodhkidaaGreatMStOk
set_option linter.unusedVariables false
set_option maxRecDepth 1000000
namespace Go.Proofs.YtiidajnodhkidaaGreat
open Go.Ab
noncomputable def sf:Code:=(Tryz.f55.body).getD .skip
def zk:Nat→Option (List Nat):=fun i=>none
def zE:Nat→Bool:=fun i=>false
def iQ(g:Nat→AV)(x0 x1:AV)(H:Heap)(Q:AV→Heap→Prop):Prop :=
 doW (Zd H 2 51 x0) fun v1 H1 =>
 doW (Zd H1 3 51 x1) fun v2 H2 =>
 doQ (Zh 51 v1 0) fun v3 =>
 doQ (Zb H2 5 v3) fun v4 =>
 doQ (Zh 51 v2 0) fun v5 =>
 doQ (Zb H2 5 v5) fun v6 =>
 doQ (Zo 5 6 8 v4 v6) fun v7 =>
 gQ v7 true (Zh 51 v1 1) fun v8 =>
 gQ v7 true (Zb H2 3 v8) fun v9 =>
 gQ v7 true (Zh 51 v2 1) fun v10 =>
 gQ v7 true (Zb H2 3 v10) fun v11 =>
 gQ v7 true (Zo 3 12 14 v9 v11) fun v12 =>
 doQ (Zi v7 v12) fun v13 =>
 gQ v13 true (Zh 51 v1 2) fun v14 =>
 gQ v13 true (Zb H2 45 v14) fun v15 =>
 gQ v13 true (Zh 51 v2 2) fun v16 =>
 gQ v13 true (Zb H2 45 v16) fun v17 =>
 gW v13 true H2 (Za true H2 22 89 [v15,v17]) fun v18 H3 =>
 doQ (Zi v13 v18) fun v19 =>
 gQ v19 true (Zh 51 v1 3) fun v20 =>
 gQ v19 true (Zb H3 30 v20) fun v21 =>
 gQ v19 true (Zh 51 v2 3) fun v22 =>
 gQ v19 true (Zb H3 30 v22) fun v23 =>
 gQ v19 true (Zo 30 26 28 v21 v23) fun v24 =>
 doQ (Zi v19 v24) fun v25 =>
 gQ v25 true (Zh 51 v1 4) fun v26 =>
 gQ v25 true (Zb H3 49 v26) fun v27 =>
 gQ v25 true (Zh 51 v2 4) fun v28 =>
 gQ v25 true (Zb H3 49 v28) fun v29 =>
 gQ v25 true (Zo 49 33 35 v27 v29) fun v30 =>
 doQ (Zi v25 v30) fun v31 =>
 Q v31 H3
theorem yU(x0 x1:AV)(H:Heap)(Q:AV→Heap→Prop)(h : ∀g,iQ g x0 x1 H Q):GoL env Tryz.f55 0 [.code sf] [(0,x0),(1,x1)] H Q:=⟨fun g=>bq (live:=zk) (cut:=zE) (n:=500) (Eq.mp (by kernel_rfl) (h g))⟩
noncomputable def qV:Code:=(Tryz.f105.body).getD .skip
def xP:Nat→Option (List Nat):=fun i=>none
def yi:Nat→Bool:=fun i=>false
def nw(g:Nat→AV)(x0:AV)(H:Heap)(Q:AV→Heap→Prop):Prop :=
 doW (Zd H 1 51 x0) fun v1 H1 =>
 doQ (Zb H1 51 v1) fun v2 =>
 doQ (Z0 107 0 v2) fun v3 =>
 doW (Za true H1 9 51 [v3]) fun v4 H2 =>
 doQ (Zy v4 0) fun v5 =>
 doQ (Zy v4 1) fun v6 =>
 doQ (ZA v6) fun v7 =>
 br (some v7) (
 Q (.tup [(.v (.int .i64 0)),(.v (.int .i64 8))]) H2) (
 doQ (Zg H2 15 76 v5) fun v8 =>
 doQ (Ze 3 15 119 v8) fun v9 =>
 doQ (Zw 3 16 1 v9) fun v10 =>
 doQ (qBin env.P .quo 3 (Operand.tmp 17) (Operand.const (Value.int IntKind.i64 119)) (some v10) (some (AV.v (Value.int IntKind.i64 119)))) fun v11 =>
 Q (.tup [v11,(.v (.int .i64 0))]) H2)
theorem xh(x0:AV)(H:Heap)(Q:AV→Heap→Prop)(h : ∀g,nw g x0 H Q):GoL env Tryz.f105 0 [.code qV] [(0,x0)] H Q:=⟨fun g=>bq (live:=xP) (cut:=yi) (n:=500) (Eq.mp (by kernel_rfl) (h g))⟩
noncomputable def gA:Code:=(Tryz.f51.body).getD .skip
def ku:Nat→Option (List Nat):=fun i=>none
def kJ:Nat→Bool:=fun i=>false
def cy(g:Nat→AV)(x0:AV)(H:Heap)(Q:AV→Heap→Prop):Prop :=
 doW (Zd H 1 107 x0) fun v1 H1 =>
 doQ (Zh 107 v1 0) fun v2 =>
 doQ (Zh 51 v2 0) fun v3 =>
 doQ (Zb H1 5 v3) fun v4 =>
 doQ (Z0 51 0 v4) fun v5 =>
 doW (Zf H1 4 51) fun v6 H2 =>
 doW (Zj H2 51 v6 v5) fun v7 H3 =>
 doQ (Zh 107 v1 0) fun v8 =>
 doQ (Zh 51 v8 0) fun v9 =>
 doQ (Zb H3 5 v9) fun v10 =>
 doQ (ZR 5 12 v10) fun v11 =>
 br (some v11) (
 doQ (Zh 107 v1 0) fun v12 =>
 doQ (Zh 51 v12 2) fun v13 =>
 doQ (Zh 45 v13 1) fun v14 =>
 doQ (Zb H3 38 v14) fun v15 =>
 doQ (Zh 107 v1 0) fun v16 =>
 doQ (Zh 51 v16 1) fun v17 =>
 doQ (Zb H3 3 v17) fun v18 =>
 doQ (Zh 51 v6 2) fun v19 =>
 doQ (Zh 45 v19 1) fun v20 =>
 doW (Zj H3 38 v20 v15) fun v21 H4 =>
 doQ (Zh 51 v6 1) fun v22 =>
 doW (Zj H4 3 v22 v18) fun v23 H5 =>
  oX [(v17,v20)] [v20,v22] [] H5 ∧
 (doQ (Zh 107 v1 0) fun v24 =>
 doQ (Zh 51 v24 2) fun v25 =>
 doQ (Zh 45 v25 1) fun v26 =>
 doQ (Zb H5 38 v26) fun v27 =>
 doW (Za true H5 30 81 [v27]) fun v28 H6 =>
 doQ (Zy v28 0) fun v29 =>
 doQ (Zy v28 1) fun v30 =>
 doQ (Zh 107 v1 0) fun v31 =>
 doQ (Zh 51 v31 1) fun v32 =>
 doQ (Zb H6 3 v32) fun v33 =>
 doQ (Zk 3 35 0 v33) fun v34 =>
 gQ v34 true (Zh 107 v1 0) fun v35 =>
 gQ v34 true (Zh 51 v35 1) fun v36 =>
 gQ v34 true (Zb H6 3 v36) fun v37 =>
 gQ v34 true (ZH 3 40 255 v37) fun v38 =>
 doQ (Zi v34 v38) fun v39 =>
 doQ (Zh 107 v1 0) fun v40 =>
 doQ (Zh 51 v40 1) fun v41 =>
 doQ (Zb H6 3 v41) fun v42 =>
 doQ (Zp H6 47 3 5 v42) fun v43 =>
 doW (Zz H6 48 76 1 0 v43) fun v44 H7 =>
 doW (Zt H7 49 76 76 v29 v44) fun v45 H8 =>
 doQ (Zh 107 v1 0) fun v46 =>
 doQ (Zh 51 v46 0) fun v47 =>
 doQ (Zb H8 5 v47) fun v48 =>
 doW (Zz H8 111 76 1 0 v48) fun v49 H9 =>
 doW (Zt H9 113 76 76 v49 v45) fun v50 H10 =>
 gQ v39 true (ZD v30) fun v51 =>
 gQ v39 true (Zl 30 116 0 v51) fun v52 =>
 doQ (Zi v39 v52) fun v53 =>
 gQ v53 true (Zh 107 v1 0) fun v54 =>
 gQ v53 true (Zb H10 51 v54) fun v55 =>
 gQ v53 true (Zb H10 51 v6) fun v56 =>
 gW v53 true H10 (Za true H10 123 55 [v55,v56]) fun v57 H11 =>
 doQ (Zi v53 v57) fun v58 =>
 Q (.tup [v50,v58]) H11)) (
 doQ (qBin env.P .eql 5 (Operand.tmp 12) (.const (.int .u8 2)) (some v10) (some (a8 2))) fun v12 =>
 br (some v12) (
 doQ (Zh 107 v1 0) fun v13 =>
 doQ (Zh 51 v13 2) fun v14 =>
 doQ (Zb H3 45 v14) fun v15 =>
 doQ (Zh 107 v1 0) fun v16 =>
 doQ (Zh 51 v16 3) fun v17 =>
 doQ (Zb H3 30 v17) fun v18 =>
 doQ (Zh 51 v6 2) fun v19 =>
 doW (Zj H3 45 v19 v15) fun v20 H4 =>
 doQ (Zh 51 v6 3) fun v21 =>
 doW (Zj H4 30 v21 v18) fun v22 H5 =>
  oX [(v17,v19)] [v19,v21] [] H5 ∧
 (doQ (Zh 107 v1 0) fun v23 =>
 doQ (Zh 51 v23 2) fun v24 =>
 doQ (Zb H5 45 v24) fun v25 =>
 doW (Za true H5 64 82 [v25]) fun v26 H6 =>
 doQ (Zy v26 0) fun v27 =>
 doQ (Zy v26 1) fun v28 =>
 doQ (Zh 107 v1 0) fun v29 =>
 doQ (Zh 51 v29 2) fun v30 =>
 doQ (Zb H6 45 v30) fun v31 =>
 doW (Za true H6 70 83 [v31]) fun v32 H7 =>
 gQ v32 true (Zh 107 v1 0) fun v33 =>
 gQ v32 true (Zh 51 v33 3) fun v34 =>
 gQ v32 true (Zb H7 30 v34) fun v35 =>
 gQ v32 true (Zk 30 74 0 v35) fun v36 =>
 doQ (Zi v32 v36) fun v37 =>
 gQ v37 true (Zh 107 v1 0) fun v38 =>
 gQ v37 true (Zh 51 v38 3) fun v39 =>
 gQ v37 true (Zb H7 30 v39) fun v40 =>
 gQ v37 true (Zn 30 80 65536 v40) fun v41 =>
 doQ (Zi v37 v41) fun v42 =>
 doQ (Zh 107 v1 0) fun v43 =>
 doQ (Zh 51 v43 3) fun v44 =>
 doQ (Zb H7 30 v44) fun v45 =>
 doQ (ZZ 30 85 v45) fun v46 =>
 doQ (Zp H7 87 30 5 v46) fun v47 =>
 doQ (Zh 107 v1 0) fun v48 =>
 doQ (Zh 51 v48 3) fun v49 =>
 doQ (Zb H7 30 v49) fun v50 =>
 doQ (Zp H7 91 30 5 v50) fun v51 =>
 doW (gY env.P false true H7 (Ref.mk 0 92 (Heap.gen H7 0 92) 0) 76 2 (some [(0,v47),(1,v51)])) fun v52 H8 =>
 doW (Zt H8 94 76 76 v52 v27) fun v53 H9 =>
 doQ (Zh 107 v1 0) fun v54 =>
 doQ (Zh 51 v54 0) fun v55 =>
 doQ (Zb H9 5 v55) fun v56 =>
 doW (Zz H9 111 76 1 0 v56) fun v57 H10 =>
 doW (Zt H10 113 76 76 v57 v53) fun v58 H11 =>
 gQ v42 true (ZD v28) fun v59 =>
 gQ v42 true (Zl 30 116 0 v59) fun v60 =>
 doQ (Zi v42 v60) fun v61 =>
 gQ v61 true (Zh 107 v1 0) fun v62 =>
 gQ v61 true (Zb H11 51 v62) fun v63 =>
 gQ v61 true (Zb H11 51 v6) fun v64 =>
 gW v61 true H11 (Za true H11 123 55 [v63,v64]) fun v65 H12 =>
 doQ (Zi v61 v65) fun v66 =>
 Q (.tup [v58,v66]) H12)) (
 doQ (ZX 5 12 v10) fun v13 =>
 br (some v13) (
 doQ (Zh 107 v1 0) fun v14 =>
 doQ (Zh 51 v14 4) fun v15 =>
 doQ (Zb H3 49 v15) fun v16 =>
 doQ (Zh 51 v6 4) fun v17 =>
 doW (Zj H3 49 v17 v16) fun v18 H4 =>
 doQ (Zh 107 v1 0) fun v19 =>
 doQ (Zh 51 v19 4) fun v20 =>
 doQ (Zb H4 49 v20) fun v21 =>
 doW (Za true H4 105 84 [v21]) fun v22 H5 =>
 doQ (Zy v22 0) fun v23 =>
 doQ (Zy v22 1) fun v24 =>
 doQ (Zh 107 v1 0) fun v25 =>
 doQ (Zh 51 v25 0) fun v26 =>
 doQ (Zb H5 5 v26) fun v27 =>
 doW (Zz H5 111 76 1 0 v27) fun v28 H6 =>
 doW (Zt H6 113 76 76 v28 v23) fun v29 H7 =>
 gQ (.v (.bool true)) true (ZD v24) fun v30 =>
 gQ (.v (.bool true)) true (Zl 30 116 0 v30) fun v31 =>
 doQ (bn (some (AV.v (Value.bool true))) (some v31) (some (AV.v (Value.bool false)))) fun v32 =>
 gQ v32 true (Zh 107 v1 0) fun v33 =>
 gQ v32 true (Zb H7 51 v33) fun v34 =>
 gQ v32 true (Zb H7 51 v6) fun v35 =>
 gW v32 true H7 (Za true H7 123 55 [v34,v35]) fun v36 H8 =>
 doQ (Zi v32 v36) fun v37 =>
 Q (.tup [v29,v37]) H8) (
 doQ (Zh 107 v1 0) fun v14 =>
 doQ (Zh 51 v14 0) fun v15 =>
 doQ (Zb H3 5 v15) fun v16 =>
 doW (Zz H3 111 76 1 0 v16) fun v17 H4 =>
 doW (cz env.P true H4 (Ref.mk 0 113 (Heap.gen H4 0 113) 0) (some 76) (some 76) v17 (.v (.slice none 0 0))) fun v18 H5 =>
 gQ (.v (.bool false)) true (qVal (some (AV.v (Value.int IntKind.i64 0)))) fun v19 =>
 gQ (.v (.bool false)) true (Zl 30 116 0 v19) fun v20 =>
 doQ (bn (some (AV.v (Value.bool false))) (some v20) (some (AV.v (Value.bool false)))) fun v21 =>
 gQ v21 true (Zh 107 v1 0) fun v22 =>
 gQ v21 true (Zb H5 51 v22) fun v23 =>
 gQ v21 true (Zb H5 51 v6) fun v24 =>
 gW v21 true H5 (Za true H5 123 55 [v23,v24]) fun v25 H6 =>
 doQ (Zi v21 v25) fun v26 =>
 Q (.tup [v18,v26]) H6)))
theorem kg(x0:AV)(H:Heap)(Q:AV→Heap→Prop)(h : ∀g,cy g x0 H Q):GoL env Tryz.f51 0 [.code gA] [(0,x0)] H Q:=⟨fun g=>bq (live:=ku) (cut:=kJ) (n:=500) (Eq.mp (by kernel_rfl) (h g))⟩
noncomputable def vR:Code:=(Tryz.f84.body).getD .skip
def C7:Nat→Option (List Nat):=fun i=>none
def DB:Nat→Bool:=fun i=>false
def rh(g:Nat→AV)(x0:AV)(H:Heap)(Q:AV→Heap→Prop):Prop :=
 doW (Zd H 1 49 x0) fun v1 H1 =>
 doQ (Zb H1 49 v1) fun v2 =>
 doW (Za true H1 9 126 [v2]) fun v3 H2 =>
 doQ (Zc 30 10 0 v3) fun v4 =>
 br (some v4) (
 Q (.tup [(.v (.slice none 0 0)),v3]) H2) (
 doQ (Zh 49 v1 1) fun v5 =>
 doQ (Zh 47 v5 1) fun v6 =>
 doQ (Zb H2 4 v6) fun v7 =>
 br (some v7) (
 doQ (Zh 49 v1 1) fun v8 =>
 doQ (Zh 47 v8 0) fun v9 =>
 doQ (Zb H2 36 v9) fun v10 =>
 doQ (Z0 38 0 v10) fun v11 =>
 doW (Za true H2 21 81 [v11]) fun v12 H3 =>
 doQ (Zy v12 0) fun v13 =>
 doQ (Zy v12 1) fun v14 =>
 doQ (Zh 49 v1 0) fun v15 =>
 doQ (Zb H3 3 v15) fun v16 =>
 doQ (Zp H3 26 3 5 v16) fun v17 =>
 doW (gY env.P true false H3 (Ref.mk 0 28 (Heap.gen H3 0 28) 0) 76 2 (some [(0,v17),(1,(a8 1))])) fun v18 H4 =>
 doQ (Zg H4 31 76 v13) fun v19 =>
 doQ (Zw 3 31 1 v19) fun v20 =>
 doQ (ZE H4 76 v13 v20) fun v21 =>
 doW (Zt H4 34 76 76 v18 v21) fun v22 H5 =>
 Q (.tup [v22,v14]) H5) (
 doQ (Zh 49 v1 1) fun v8 =>
 doQ (Zh 47 v8 0) fun v9 =>
 doQ (Zb H2 36 v9) fun v10 =>
 doQ (Z0 38 0 v10) fun v11 =>
 doW (Za true H2 21 81 [v11]) fun v12 H3 =>
 doQ (Zy v12 0) fun v13 =>
 doQ (Zy v12 1) fun v14 =>
 doQ (Zh 49 v1 0) fun v15 =>
 doQ (Zb H3 3 v15) fun v16 =>
 doQ (Zp H3 26 3 5 v16) fun v17 =>
 doW (gY env.P true false H3 (Ref.mk 0 28 (Heap.gen H3 0 28) 0) 76 2 (some [(0,v17),(1,(a8 0))])) fun v18 H4 =>
 doQ (Zg H4 31 76 v13) fun v19 =>
 doQ (Zw 3 31 1 v19) fun v20 =>
 doQ (ZE H4 76 v13 v20) fun v21 =>
 doW (Zt H4 34 76 76 v18 v21) fun v22 H5 =>
 Q (.tup [v22,v14]) H5))
theorem Cw(x0:AV)(H:Heap)(Q:AV→Heap→Prop)(h : ∀g,rh g x0 H Q):GoL env Tryz.f84 0 [.code vR] [(0,x0)] H Q:=⟨fun g=>bq (live:=C7) (cut:=DB) (n:=500) (Eq.mp (by kernel_rfl) (h g))⟩
noncomputable def sj:Code:=(Tryz.f126.body).getD .skip
def zo:Nat→Option (List Nat):=fun i=>none
def zI:Nat→Bool:=fun i=>false
def ox(g:Nat→AV)(x0:AV)(H:Heap)(Q:AV→Heap→Prop):Prop :=
 doW (Zd H 1 49 x0) fun v1 H1 =>
 doQ (Zh 49 v1 1) fun v2 =>
 doQ (Zh 47 v2 1) fun v3 =>
 doQ (Zb H1 4 v3) fun v4 =>
 gQ v4 false (Zh 49 v1 1) fun v5 =>
 gQ v4 false (Zh 47 v5 0) fun v6 =>
 gQ v4 false (Zb H1 36 v6) fun v7 =>
 gW v4 false H1 (Za false H1 11 161 []) fun v8 H2 =>
 gQ v4 false (Zo 36 10 11 v7 v8) fun v9 =>
 doQ (Zm v4 v9) fun v10 =>
 doQ (Zh 49 v1 0) fun v11 =>
 doQ (Zb H2 3 v11) fun v12 =>
 doQ (Zn 3 15 0 v12) fun v13 =>
 gQ v13 false (Zh 49 v1 0) fun v14 =>
 gQ v13 false (Zb H2 3 v14) fun v15 =>
 gQ v13 false (Zk 3 19 8 v15) fun v16 =>
 doQ (Zm v13 v16) fun v17 =>
 gQ v17 false (Zh 49 v1 1) fun v18 =>
 gQ v17 false (Zh 47 v18 0) fun v19 =>
 gQ v17 false (Zb H2 36 v19) fun v20 =>
 gW v17 false H2 (Za true H2 26 155 [v20]) fun v21 H3 =>
 gQ v17 false (Zc 30 26 0 v21) fun v22 =>
 doQ (Zm v17 v22) fun v23 =>
 gQ v23 false (ZD v10) fun v24 =>
 gQ v23 false (ZA v24) fun v25 =>
 doQ (Zm v23 v25) fun v26 =>
 br (some v26) (
 Q (.v (.int .i64 8)) H3) (
 Q (.v (.int .i64 0)) H3)
theorem yY(x0:AV)(H:Heap)(Q:AV→Heap→Prop)(h : ∀g,ox g x0 H Q):GoL env Tryz.f126 0 [.code sj] [(0,x0)] H Q:=⟨fun g=>bq (live:=zo) (cut:=zI) (n:=500) (Eq.mp (by kernel_rfl) (h g))⟩
end Go.Proofs.YtiidajnodhkidaaGreat
