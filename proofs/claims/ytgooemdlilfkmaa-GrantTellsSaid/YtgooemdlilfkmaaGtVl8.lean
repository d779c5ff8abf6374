/-
  What is to be shown of each function, computed from its code. No statement of a seat is proved here.
-/
import Derived.Test.YtgooemdlilfkmaaGtTy
set_option linter.unusedVariables false
set_option maxRecDepth 1000000
namespace Go.Proofs.Ytgooemdlilfkmaa
open Go.Ab
noncomputable def ao:Code:=(Try.f8.body).getD .skip
noncomputable def bw:List Item:=(bL 10 400 [.code ao]).getD []
noncomputable def bu:List Item:=(bL 14 400 [.code ao]).getD []
noncomputable def bt:List Item:=(bL 18 400 [.code ao]).getD []
def bK:Nat→Option (List Nat):=fun i=>cond (Nat.beq i 10) (some [19,16,13,8,12,3,7,18]) (cond (Nat.beq i 14) (some [20,8,12,3,7,18]) (cond (Nat.beq i 18) (some [21,12,3,7,18]) (none)))
def bM:Nat→Bool:=fun i=>false
def aq(g:Nat→AV)(x0 x1 x2:AV)(H:Heap)(Q:AV→Heap→Prop):Prop :=
 doW (Zc H 3 33 x0) fun v1 H1 =>
 doW (Zc H1 4 59 x1) fun v2 H2 =>
 doQ (Zb H2 33 v1) fun v3 =>
 doW (Za true H2 23 18 [v3]) fun v4 H3 =>
 gQ v4 false (ZB x2) fun v5 =>
 gQ v4 false (Zd H3 26 70 v5) fun v6 =>
 gQ v4 false (Zh 3 26 300 v6) fun v7 =>
 gQ v4 false (ZB v7) fun v8 =>
 gQ v8 true (ZB x2) fun v9 =>
 gQ v8 true (Zd H3 30 70 v9) fun v10 =>
 gQ v8 true (Zk 3 30 2048 v10) fun v11 =>
 gQ v4 false (Zi v8 v11) fun v12 =>
 doQ (Zl v4 v12) fun v13 =>
 gQ v13 false (ZB x2) fun v14 =>
 gQ v13 false (Zd H3 36 70 v14) fun v15 =>
 gQ v13 false (Zh 3 36 2060 v15) fun v16 =>
 doQ (Zl v13 v16) fun v17 =>
 br (some v17) (
 Q (.v (.bool true)) H3) (
 doQ (Zb H3 33 v1) fun v18 =>
 doW (Za true H3 40 20 [v18]) fun v19 H4 =>
 doW (Zf H4 7 33) fun v20 H5 =>
 doW (Zm H5 33 v20 v19) fun v21 H6 =>
 doQ (Zb H6 33 v20) fun v22 =>
 doQ (Zb H6 59 v2) fun v23 =>
 doW (Za true H6 44 34 [v22,v23]) fun v24 H7 =>
 doQ (ZF v24 0) fun v25 =>
 doQ (ZF v24 1) fun v26 =>
 doW (Zf H7 8 33) fun v27 H8 =>
 doW (Zm H8 33 v27 v25) fun v28 H9 =>
 doQ (Zb H9 33 v1) fun v29 =>
 doQ (Zb H9 59 v2) fun v30 =>
 doW (Za true H9 50 35 [v29,v30]) fun v31 H10 =>
 doQ (ZF v31 0) fun v32 =>
 doQ (ZF v31 1) fun v33 =>
 doW (Zf H10 10 33) fun v34 H11 =>
 doW (Zm H11 33 v34 v32) fun v35 H12 =>
 doQ (Zb H12 33 v20) fun v36 =>
 doW (Za true H12 56 36 [v36,x2]) fun v37 H13 =>
 doQ (ZF v37 0) fun v38 =>
 doQ (ZF v37 1) fun v39 =>
 doQ (ZF v37 2) fun v40 =>
 doW (Zf H13 12 33) fun v41 H14 =>
 doW (Zm H14 33 v41 v38) fun v42 H15 =>
 doQ (Zb H15 33 v1) fun v43 =>
 doW (Za true H15 63 37 [v43,x2]) fun v44 H16 =>
 doQ (ZF v44 0) fun v45 =>
 doQ (ZF v44 1) fun v46 =>
 doQ (ZF v44 2) fun v47 =>
 doW (Zf H16 15 33) fun v48 H17 =>
 doW (Zm H17 33 v48 v45) fun v49 H18 =>
 doQ (Zb H18 33 v27) fun v50 =>
 doQ (Zb H18 33 v34) fun v51 =>
 doW (Za false H18 69 29 [v50,v51]) fun v52 H19 =>
 gQ v52 true (ZB v26) fun v53 =>
 gQ v52 true (ZB v33) fun v54 =>
 gQ v52 true (Zq 3 71 72 v53 v54) fun v55 =>
 doQ (Zi v52 v55) fun v56 =>
 gQ v56 true (Zb H19 33 v41) fun v57 =>
 gQ v56 true (Zb H19 33 v48) fun v58 =>
 gW v56 true H19 (Za false H19 78 29 [v57,v58]) fun v59 H20 =>
 doQ (Zi v56 v59) fun v60 =>
 gQ v60 true (ZB v40) fun v61 =>
 gQ v60 true (ZB v47) fun v62 =>
 gQ v60 true (Zq 3 81 82 v61 v62) fun v63 =>
 doQ (Zi v60 v63) fun v64 =>
 gQ v64 true (ZB v39) fun v65 =>
 gQ v64 true (Zd H20 87 75 v65) fun v66 =>
 gQ v64 true (ZB v46) fun v67 =>
 gQ v64 true (Zd H20 89 78 v67) fun v68 =>
 gQ v64 true (Zq 3 87 89 v66 v68) fun v69 =>
 doQ (Zi v64 v69) fun v70 =>
 gQ v70 true (Zb H20 59 v2) fun v71 =>
 gW v70 true H20 (Za false H20 94 38 [v71]) fun v72 H21 =>
 gQ v70 true (Zb H21 59 v2) fun v73 =>
 gW v70 true H21 (Za false H21 96 39 [v73]) fun v74 H22 =>
 gQ v70 true (Zq 3 94 96 v72 v74) fun v75 =>
 doQ (Zi v70 v75) fun v76 =>
  GoL env Try.f8 0 bw [(19,(.v (.int .i64 0))),(16,v46),(13,v39),(8,v27),(12,v41),(3,v1),(7,v20),(18,v76)] H22 Q)
theorem ar(x0 x1 x2:AV)(H:Heap)(Q:AV→Heap→Prop)(h : ∀g,aq g x0 x1 x2 H Q):GoL env Try.f8 0 [.code ao] [(0,x0),(1,x1),(2,x2)] H Q:=⟨fun g=>cK (live:=bK) (cut:=bM) (n:=500) (Eq.mp (by kernel_rfl) (h g))⟩
def bx(g:Nat→AV)(x19 x16 x13 x8 x12 x3 x7 x18:AV)(H:Heap)(Q:AV→Heap→Prop):Prop :=
 doQ (Zd H 101 75 x13) fun v1 =>
 doQ (Zj 3 99 101 x19 v1) fun v2 =>
 gQ v2 true (ZB x18) fun v3 =>
 doQ (Zi v2 v3) fun v4 =>
 br (some v4) (
 doQ (Zn H 75 x13 x19) fun v5 =>
 doQ (Zb H 27 v5) fun v6 =>
 doQ (Zn H 78 x16 x19) fun v7 =>
 doQ (Zb H 3 v7) fun v8 =>
 doQ (Zq 3 111 115 v6 v8) fun v9 =>
 doQ (Ze 3 106 1 x19) fun v10 =>
  GoL env Try.f8 0 bw [(19,v10),(16,x16),(13,x13),(8,x8),(12,x12),(3,x3),(7,x7),(18,v9)] H Q) (
  GoL env Try.f8 0 bu [(20,(.v (.int .i64 0))),(8,x8),(12,x12),(3,x3),(7,x7),(18,x18)] H Q)
theorem de(x19 x16 x13 x8 x12 x3 x7 x18:AV)(H:Heap)(Q:AV→Heap→Prop)(h : ∀g,bx g x19 x16 x13 x8 x12 x3 x7 x18 H Q):GoL env Try.f8 0 bw [(19,x19),(16,x16),(13,x13),(8,x8),(12,x12),(3,x3),(7,x7),(18,x18)] H Q:=dh fun g=>cK (live:=bK) (cut:=bM) (n:=500) (Eq.mp (by kernel_rfl) (h g))
def bY(g:Nat→AV)(x20 x8 x12 x3 x7 x18:AV)(H:Heap)(Q:AV→Heap→Prop):Prop :=
 doQ (Zg 33 x8 0) fun v1 =>
 doQ (Zb H 30 v1) fun v2 =>
 doQ (Zd H 120 30 v2) fun v3 =>
 doQ (Zj 3 117 120 x20 v3) fun v4 =>
 br (some v4) (
 doQ (Zg 33 x8 0) fun v5 =>
 doQ (Zb H 30 v5) fun v6 =>
 doQ (Zg 33 x8 0) fun v7 =>
 doQ (Zb H 30 v7) fun v8 =>
 doQ (Zn H 30 v8 x20) fun v9 =>
 doQ (Zg 39 v9 1) fun v10 =>
 doQ (Zb H 4 v10) fun v11 =>
 doQ (ZA v11) fun v12 =>
 doQ (Zn H 30 v6 x20) fun v13 =>
 doQ (Zg 39 v13 1) fun v14 =>
 doW (Zm H 4 v14 v12) fun v15 H1 =>
 doQ (Ze 3 122 1 x20) fun v16 =>
  GoL env Try.f8 0 bu [(20,v16),(8,x8),(12,x12),(3,x3),(7,x7),(18,x18)] H1 Q) (
  GoL env Try.f8 0 bt [(21,(.v (.int .i64 0))),(12,x12),(3,x3),(7,x7),(18,x18)] H Q)
theorem dc(x20 x8 x12 x3 x7 x18:AV)(H:Heap)(Q:AV→Heap→Prop)(h : ∀g,bY g x20 x8 x12 x3 x7 x18 H Q):GoL env Try.f8 0 bu [(20,x20),(8,x8),(12,x12),(3,x3),(7,x7),(18,x18)] H Q:=dh fun g=>cK (live:=bK) (cut:=bM) (n:=500) (Eq.mp (by kernel_rfl) (h g))
def bX(g:Nat→AV)(x21 x12 x3 x7 x18:AV)(H:Heap)(Q:AV→Heap→Prop):Prop :=
 doQ (Zg 33 x12 0) fun v1 =>
 doQ (Zb H 30 v1) fun v2 =>
 doQ (Zd H 139 30 v2) fun v3 =>
 doQ (Zj 3 136 139 x21 v3) fun v4 =>
 br (some v4) (
 doQ (Zg 33 x12 0) fun v5 =>
 doQ (Zb H 30 v5) fun v6 =>
 doQ (Zg 33 x12 0) fun v7 =>
 doQ (Zb H 30 v7) fun v8 =>
 doQ (Zn H 30 v8 x21) fun v9 =>
 doQ (Zg 39 v9 1) fun v10 =>
 doQ (Zb H 4 v10) fun v11 =>
 doQ (ZA v11) fun v12 =>
 doQ (Zn H 30 v6 x21) fun v13 =>
 doQ (Zg 39 v13 1) fun v14 =>
 doW (Zm H 4 v14 v12) fun v15 H1 =>
 doQ (Ze 3 141 1 x21) fun v16 =>
  GoL env Try.f8 0 bt [(21,v16),(12,x12),(3,x3),(7,x7),(18,x18)] H1 Q) (
 gQ x18 true (Zb H 33 x7) fun v5 =>
 gQ x18 true (Zb H 33 x3) fun v6 =>
 gW x18 true H (Za true H 159 29 [v5,v6]) fun v7 H1 =>
 doQ (Zi x18 v7) fun v8 =>
 Q v8 H1)
theorem db(x21 x12 x3 x7 x18:AV)(H:Heap)(Q:AV→Heap→Prop)(h : ∀g,bX g x21 x12 x3 x7 x18 H Q):GoL env Try.f8 0 bt [(21,x21),(12,x12),(3,x3),(7,x7),(18,x18)] H Q:=dh fun g=>cK (live:=bK) (cut:=bM) (n:=500) (Eq.mp (by kernel_rfl) (h g))
end Go.Proofs.Ytgooemdlilfkmaa
