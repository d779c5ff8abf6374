/-
  What is to be shown of each function, computed from its code. No statement of a seat is proved here.
-/
import Derived.Test.YtiidajnodhkidaaGreatMStOk
set_option linter.unusedVariables false
set_option maxRecDepth 1000000
namespace Go.Proofs.YtiidajnodhkidaaGreat
open Go.Ab
noncomputable def fL:Code:=(Tryz.f4.body).getD .skip
noncomputable def bF:List Item:=(cm 10 400 [.code fL]).getD []
def iW:Nat→Option (List Nat):=fun i=>cond (Nat.beq i 10) (some [10,1,6,9,8,5]) (none)
def iX:Nat→Bool:=fun i=>false
def eC(g:Nat→AV)(x0 x1:AV)(H:Heap)(Q:AV→Heap→Prop):Prop :=
 doW (Za true H 15 14 []) fun v1 H1 =>
 doW (Za true H1 17 17 [x1]) fun v2 H2 =>
 gQ v2 false (ZD v1) fun v3 =>
 gQ v2 false (ZA v3) fun v4 =>
 doQ (Zm v2 v4) fun v5 =>
 br (some v5) (
 Q v1 H2) (
 doW (Za true H2 25 8 [x0]) fun v6 H3 =>
 doQ (Zy v6 0) fun v7 =>
 doQ (Zy v6 1) fun v8 =>
 doW (Zf H3 6 29) fun v9 H4 =>
 doW (Zj H4 29 v9 v7) fun v10 H5 =>
 doQ (Zc 30 28 0 v8) fun v11 =>
 br (some v11) (
 gQ v1 true (Zh 29 v9 1) fun v12 =>
 gQ v1 true (Zb H5 25 v12) fun v13 =>
 gQ v1 true (Zg H5 34 25 v13) fun v14 =>
 gQ v1 true (Zl 3 34 0 v14) fun v15 =>
 doQ (Zi v1 v15) fun v16 =>
 Q v16 H5) (
  GoL env Tryz.f4 0 bF [(10,(.v (.int .i64 0))),(1,x1),(6,v9),(9,(.v (.int .i64 1))),(8,(.v (.slice none 0 0))),(5,v1)] H5 Q))
theorem mA(x0 x1:AV)(H:Heap)(Q:AV→Heap→Prop)(h : ∀g,eC g x0 x1 H Q):GoL env Tryz.f4 0 [.code fL] [(0,x0),(1,x1)] H Q:=⟨fun g=>bq (live:=iW) (cut:=iX) (n:=500) (Eq.mp (by kernel_rfl) (h g))⟩
def aL(g:Nat→AV)(x10 x1 x6 x9 x8 x5:AV)(H:Heap)(Q:AV→Heap→Prop):Prop :=
 doQ (Zg H 39 59 x1) fun v1 =>
 doQ (Zq 3 37 39 x10 v1) fun v2 =>
 br (some v2) (
 doQ (Zb H 29 x6) fun v3 =>
 doQ (Zs H 59 x1 x10) fun v4 =>
 doQ (Zb H 63 v4) fun v5 =>
 doW (Za false H 49 18 [v3,v5]) fun v6 H1 =>
 doQ (Zy v6 0) fun v7 =>
 doQ (Zy v6 1) fun v8 =>
 doW (Zf H1 11 29) fun v9 H2 =>
 doW (Zj H2 29 v9 v7) fun v10 H3 =>
 doQ (Zc 30 52 0 v8) fun v11 =>
 br (some v11) (
 doQ (Zh 29 v9 1) fun v12 =>
 doQ (Zb H3 25 v12) fun v13 =>
 doQ (Zg H3 56 25 v13) fun v14 =>
 doQ (Zr 3 56 0 v14) fun v15 =>
 gQ v15 false (ZD x1) fun v16 =>
 gQ v15 false (ZD x10) fun v17 =>
 gQ v15 false (Zs H3 59 v16 v17) fun v18 =>
 gQ v15 false (Zh 63 v18 0) fun v19 =>
 gQ v15 false (Zb H3 5 v19) fun v20 =>
 gQ v15 false (ZW 5 63 v20) fun v21 =>
 gQ v15 false (ZD v21) fun v22 =>
 gQ v22 true (ZD x1) fun v23 =>
 gQ v22 true (ZD x10) fun v24 =>
 gQ v22 true (Zs H3 59 v23 v24) fun v25 =>
 gQ v22 true (Zh 63 v25 1) fun v26 =>
 gQ v22 true (Zb H3 51 v26) fun v27 =>
 gW v22 true H3 (Za true H3 71 19 [v27]) fun v28 H4 =>
 gQ v22 true (Zl 30 71 0 v28) fun v29 =>
 gQ v15 false (Zi v22 v29) fun v30 =>
 doQ (Zm v15 v30) fun v31 =>
 br (some v31) (
 Q (.v (.bool false)) H4) (
 doQ (Ze 3 41 1 x10) fun v32 =>
  GoL env Tryz.f4 0 bF [(10,v32),(1,x1),(6,x6),(9,x9),(8,x8),(5,x5)] H4 Q)) (
 doQ (Zs H3 59 x1 x10) fun v12 =>
 doQ (Zh 63 v12 0) fun v13 =>
 doQ (Zb H3 5 v13) fun v14 =>
 doQ (ZW 5 79 v14) fun v15 =>
 gQ v15 true (Zh 29 v9 0) fun v16 =>
 gQ v15 true (Zh 24 v16 3) fun v17 =>
 gQ v15 true (Zb H3 4 v17) fun v18 =>
 gQ v15 true (ZA v18) fun v19 =>
 doQ (Zi v15 v19) fun v20 =>
 br (some v20) (
 doQ (Zs H3 59 x1 x10) fun v21 =>
 doQ (Zh 63 v21 1) fun v22 =>
 doQ (Zb H3 51 v22) fun v23 =>
 doW (Zz H3 93 25 1 0 v23) fun v24 H4 =>
 doW (Zt H4 94 25 25 x8 v24) fun v25 H5 =>
 doQ (Zs H5 59 x1 x10) fun v26 =>
 doQ (Zh 63 v26 0) fun v27 =>
 doQ (Zb H5 5 v27) fun v28 =>
 doQ (ZM 5 99 v28) fun v29 =>
 br (some v29) (
 doQ (Ze 3 101 1 x9) fun v30 =>
 doQ (Zb H5 29 v9) fun v31 =>
 doW (Za true H5 104 16 [v31]) fun v32 H6 =>
 doQ (Zc 30 104 0 v32) fun v33 =>
 gQ v33 false (Zb H6 29 v9) fun v34 =>
 gW v33 false H6 (Za true H6 108 20 [v34]) fun v35 H7 =>
 gQ v33 false (ZD v30) fun v36 =>
 gQ v33 false (Zx 3 108 109 v35 v36) fun v37 =>
 doQ (Zm v33 v37) fun v38 =>
 gQ v38 false (Zh 29 v9 1) fun v39 =>
 gQ v38 false (Zb H7 25 v39) fun v40 =>
 gQ v38 false (ZD v25) fun v41 =>
 gW v38 false H7 (Za true H7 116 21 [v40,v41]) fun v42 H8 =>
 gQ v38 false (ZA v42) fun v43 =>
 doQ (Zm v38 v43) fun v44 =>
 gQ v44 false (ZD x1) fun v45 =>
 gQ v44 false (ZD x10) fun v46 =>
 gQ v44 false (Zs H8 59 v45 v46) fun v47 =>
 gQ v44 false (Zh 63 v47 0) fun v48 =>
 gQ v44 false (Zb H8 5 v48) fun v49 =>
 gQ v44 false (ZM 5 124 v49) fun v50 =>
 gQ v44 false (ZD v50) fun v51 =>
 gQ v51 true (Zh 29 v9 0) fun v52 =>
 gQ v51 true (Zh 24 v52 3) fun v53 =>
 gQ v51 true (Zb H8 4 v53) fun v54 =>
 gQ v44 false (Zi v51 v54) fun v55 =>
 doQ (Zm v44 v55) fun v56 =>
 br (some v56) (
 Q (.v (.bool false)) H8) (
 doQ (Zb H8 29 v9) fun v57 =>
 doW (Zj H8 29 x6 v57) fun v58 H9 =>
 doQ (Ze 3 41 1 x10) fun v59 =>
  GoL env Tryz.f4 0 bF [(10,v59),(1,x1),(6,x6),(9,v30),(8,v25),(5,x5)] H9 Q)) (
 doQ (Zb H5 29 v9) fun v30 =>
 doW (Za true H5 104 16 [v30]) fun v31 H6 =>
 doQ (Zc 30 104 0 v31) fun v32 =>
 gQ v32 false (Zb H6 29 v9) fun v33 =>
 gW v32 false H6 (Za true H6 108 20 [v33]) fun v34 H7 =>
 gQ v32 false (ZD x9) fun v35 =>
 gQ v32 false (Zx 3 108 109 v34 v35) fun v36 =>
 doQ (Zm v32 v36) fun v37 =>
 gQ v37 false (Zh 29 v9 1) fun v38 =>
 gQ v37 false (Zb H7 25 v38) fun v39 =>
 gQ v37 false (ZD v25) fun v40 =>
 gW v37 false H7 (Za true H7 116 21 [v39,v40]) fun v41 H8 =>
 gQ v37 false (ZA v41) fun v42 =>
 doQ (Zm v37 v42) fun v43 =>
 gQ v43 false (ZD x1) fun v44 =>
 gQ v43 false (ZD x10) fun v45 =>
 gQ v43 false (Zs H8 59 v44 v45) fun v46 =>
 gQ v43 false (Zh 63 v46 0) fun v47 =>
 gQ v43 false (Zb H8 5 v47) fun v48 =>
 gQ v43 false (ZM 5 124 v48) fun v49 =>
 gQ v43 false (ZD v49) fun v50 =>
 gQ v50 true (Zh 29 v9 0) fun v51 =>
 gQ v50 true (Zh 24 v51 3) fun v52 =>
 gQ v50 true (Zb H8 4 v52) fun v53 =>
 gQ v43 false (Zi v50 v53) fun v54 =>
 doQ (Zm v43 v54) fun v55 =>
 br (some v55) (
 Q (.v (.bool false)) H8) (
 doQ (Zb H8 29 v9) fun v56 =>
 doW (Zj H8 29 x6 v56) fun v57 H9 =>
 doQ (Ze 3 41 1 x10) fun v58 =>
  GoL env Tryz.f4 0 bF [(10,v58),(1,x1),(6,x6),(9,x9),(8,v25),(5,x5)] H9 Q))) (
 doQ (Zs H3 59 x1 x10) fun v21 =>
 doQ (Zh 63 v21 0) fun v22 =>
 doQ (Zb H3 5 v22) fun v23 =>
 doQ (ZM 5 99 v23) fun v24 =>
 br (some v24) (
 doQ (Ze 3 101 1 x9) fun v25 =>
 doQ (Zb H3 29 v9) fun v26 =>
 doW (Za true H3 104 16 [v26]) fun v27 H4 =>
 doQ (Zc 30 104 0 v27) fun v28 =>
 gQ v28 false (Zb H4 29 v9) fun v29 =>
 gW v28 false H4 (Za true H4 108 20 [v29]) fun v30 H5 =>
 gQ v28 false (ZD v25) fun v31 =>
 gQ v28 false (Zx 3 108 109 v30 v31) fun v32 =>
 doQ (Zm v28 v32) fun v33 =>
 gQ v33 false (Zh 29 v9 1) fun v34 =>
 gQ v33 false (Zb H5 25 v34) fun v35 =>
 gQ v33 false (ZD x8) fun v36 =>
 gW v33 false H5 (Za true H5 116 21 [v35,v36]) fun v37 H6 =>
 gQ v33 false (ZA v37) fun v38 =>
 doQ (Zm v33 v38) fun v39 =>
 gQ v39 false (ZD x1) fun v40 =>
 gQ v39 false (ZD x10) fun v41 =>
 gQ v39 false (Zs H6 59 v40 v41) fun v42 =>
 gQ v39 false (Zh 63 v42 0) fun v43 =>
 gQ v39 false (Zb H6 5 v43) fun v44 =>
 gQ v39 false (ZM 5 124 v44) fun v45 =>
 gQ v39 false (ZD v45) fun v46 =>
 gQ v46 true (Zh 29 v9 0) fun v47 =>
 gQ v46 true (Zh 24 v47 3) fun v48 =>
 gQ v46 true (Zb H6 4 v48) fun v49 =>
 gQ v39 false (Zi v46 v49) fun v50 =>
 doQ (Zm v39 v50) fun v51 =>
 br (some v51) (
 Q (.v (.bool false)) H6) (
 doQ (Zb H6 29 v9) fun v52 =>
 doW (Zj H6 29 x6 v52) fun v53 H7 =>
 doQ (Ze 3 41 1 x10) fun v54 =>
  GoL env Tryz.f4 0 bF [(10,v54),(1,x1),(6,x6),(9,v25),(8,x8),(5,x5)] H7 Q)) (
 doQ (Zb H3 29 v9) fun v25 =>
 doW (Za true H3 104 16 [v25]) fun v26 H4 =>
 doQ (Zc 30 104 0 v26) fun v27 =>
 gQ v27 false (Zb H4 29 v9) fun v28 =>
 gW v27 false H4 (Za true H4 108 20 [v28]) fun v29 H5 =>
 gQ v27 false (ZD x9) fun v30 =>
 gQ v27 false (Zx 3 108 109 v29 v30) fun v31 =>
 doQ (Zm v27 v31) fun v32 =>
 gQ v32 false (Zh 29 v9 1) fun v33 =>
 gQ v32 false (Zb H5 25 v33) fun v34 =>
 gQ v32 false (ZD x8) fun v35 =>
 gW v32 false H5 (Za true H5 116 21 [v34,v35]) fun v36 H6 =>
 gQ v32 false (ZA v36) fun v37 =>
 doQ (Zm v32 v37) fun v38 =>
 gQ v38 false (ZD x1) fun v39 =>
 gQ v38 false (ZD x10) fun v40 =>
 gQ v38 false (Zs H6 59 v39 v40) fun v41 =>
 gQ v38 false (Zh 63 v41 0) fun v42 =>
 gQ v38 false (Zb H6 5 v42) fun v43 =>
 gQ v38 false (ZM 5 124 v43) fun v44 =>
 gQ v38 false (ZD v44) fun v45 =>
 gQ v45 true (Zh 29 v9 0) fun v46 =>
 gQ v45 true (Zh 24 v46 3) fun v47 =>
 gQ v45 true (Zb H6 4 v47) fun v48 =>
 gQ v38 false (Zi v45 v48) fun v49 =>
 doQ (Zm v38 v49) fun v50 =>
 br (some v50) (
 Q (.v (.bool false)) H6) (
 doQ (Zb H6 29 v9) fun v51 =>
 doW (Zj H6 29 x6 v51) fun v52 H7 =>
 doQ (Ze 3 41 1 x10) fun v53 =>
  GoL env Tryz.f4 0 bF [(10,v53),(1,x1),(6,x6),(9,x9),(8,x8),(5,x5)] H7 Q))))) (
 doQ (Zh 29 x6 0) fun v3 =>
 doQ (Zb H 24 v3) fun v4 =>
 doW (Za true H 136 13 [v4]) fun v5 H1 =>
 doQ (Zy v5 0) fun v6 =>
 doQ (Zy v5 1) fun v7 =>
 doW (Zf H1 13 29) fun v8 H2 =>
 doW (Zj H2 29 v8 v6) fun v9 H3 =>
 gQ x5 true (ZD v7) fun v10 =>
 gQ x5 true (Zl 30 141 0 v10) fun v11 =>
 doQ (Zi x5 v11) fun v12 =>
 gQ v12 true (Zb H3 29 v8) fun v13 =>
 gQ v12 true (Zb H3 29 x6) fun v14 =>
 gW v12 true H3 (Za true H3 147 22 [v13,v14]) fun v15 H4 =>
 doQ (Zi v12 v15) fun v16 =>
 Q v16 H4)
theorem gT(x10 x1 x6 x9 x8 x5:AV)(H:Heap)(Q:AV→Heap→Prop)(h : ∀g,aL g x10 x1 x6 x9 x8 x5 H Q):GoL env Tryz.f4 0 bF [(10,x10),(1,x1),(6,x6),(9,x9),(8,x8),(5,x5)] H Q:=c9 fun g=>bq (live:=iW) (cut:=iX) (n:=500) (Eq.mp (by kernel_rfl) (h g))
end Go.Proofs.YtiidajnodhkidaaGreat
