/-
  What is to be shown of each function, computed from its code. No statement of a seat is proved here.
-/
import Derived.Test.YtmkmimgokagimaaGreatLeTy
set_option linter.unusedVariables false
set_option maxRecDepth 1000000
namespace Go.Proofs.YtmkmimgokagimaaGreat
open Go.Ab
noncomputable def jh:Code:=(Tryz.f101.body).getD .skip
def oM:Nat→Option (List Nat):=fun i=>none
def oR:Nat→Bool:=fun i=>false
def cG(g:Nat→AV)(x0:AV)(H:ad)(Q:AV→ad→Prop):Prop :=
 aL (zac H 1 173 x0) fun v1 H1 =>
 ak (zad 173 v1 0) fun v2 =>
 ak (zad 62 v2 0) fun v3 =>
 ak (zab H1 5 v3) fun v4 =>
 ak (zcp 62 0 v4) fun v5 =>
 aL (zah H1 4 62) fun v6 H2 =>
 aL (zal H2 62 v6 v5) fun v7 H3 =>
 ak (zad 173 v1 0) fun v8 =>
 ak (zad 62 v8 0) fun v9 =>
 ak (zab H3 5 v9) fun v10 =>
 ak (zbk 5 12 v10) fun v11 =>
 br (some v11) (
 ak (zad 173 v1 0) fun v12 =>
 ak (zad 62 v12 2) fun v13 =>
 ak (zad 38 v13 1) fun v14 =>
 ak (zab H3 31 v14) fun v15 =>
 ak (zad 173 v1 0) fun v16 =>
 ak (zad 62 v16 1) fun v17 =>
 ak (zab H3 3 v17) fun v18 =>
 ak (zad 62 v6 2) fun v19 =>
 ak (zad 38 v19 1) fun v20 =>
 aL (zal H3 31 v20 v15) fun v21 H4 =>
 ak (zad 62 v6 1) fun v22 =>
 aL (zal H4 3 v22 v18) fun v23 H5 =>
  lD [(v17,v20)] [v20,v22] [] H5 ∧
 (ak (zad 173 v1 0) fun v24 =>
 ak (zad 62 v24 2) fun v25 =>
 ak (zad 38 v25 1) fun v26 =>
 ak (zab H5 31 v26) fun v27 =>
 aL (zaa true H5 30 162 [v27]) fun v28 H6 =>
 ak (zaw v28 0) fun v29 =>
 ak (zaw v28 1) fun v30 =>
 ak (zad 173 v1 0) fun v31 =>
 ak (zad 62 v31 1) fun v32 =>
 ak (zab H6 3 v32) fun v33 =>
 ak (zaq 3 35 0 v33) fun v34 =>
 gQ v34 true (zad 173 v1 0) fun v35 =>
 gQ v34 true (zad 62 v35 1) fun v36 =>
 gQ v34 true (zab H6 3 v36) fun v37 =>
 gQ v34 true (zaz 3 40 255 v37) fun v38 =>
 ak (zag v34 v38) fun v39 =>
 ak (zad 173 v1 0) fun v40 =>
 ak (zad 62 v40 1) fun v41 =>
 ak (zab H6 3 v41) fun v42 =>
 ak (zay H6 47 3 5 v42) fun v43 =>
 aL (zbc H6 48 170 1 0 v43) fun v44 H7 =>
 aL (zat H7 49 170 170 v29 v44) fun v45 H8 =>
 ak (zad 173 v1 0) fun v46 =>
 ak (zad 62 v46 0) fun v47 =>
 ak (zab H8 5 v47) fun v48 =>
 aL (zbc H8 111 170 1 0 v48) fun v49 H9 =>
 aL (zat H9 113 170 170 v49 v45) fun v50 H10 =>
 gQ v39 true (zbj v30) fun v51 =>
 gQ v39 true (zak 42 116 0 v51) fun v52 =>
 ak (zag v39 v52) fun v53 =>
 gQ v53 true (zad 173 v1 0) fun v54 =>
 gQ v53 true (zab H10 62 v54) fun v55 =>
 gQ v53 true (zab H10 62 v6) fun v56 =>
 gW v53 true H10 (zaa true H10 123 165 [v55,v56]) fun v57 H11 =>
 ak (zag v53 v57) fun v58 =>
 Q (.tup [v50,v58]) H11)) (
 ak (aH env.P .eql 5 (Operand.tmp 12) (.const (.int .u8 2)) (some v10) (some (a8 2))) fun v12 =>
 br (some v12) (
 ak (zad 173 v1 0) fun v13 =>
 ak (zad 62 v13 2) fun v14 =>
 ak (zab H3 38 v14) fun v15 =>
 ak (zad 173 v1 0) fun v16 =>
 ak (zad 62 v16 3) fun v17 =>
 ak (zab H3 42 v17) fun v18 =>
 ak (zad 62 v6 2) fun v19 =>
 aL (zal H3 38 v19 v15) fun v20 H4 =>
 ak (zad 62 v6 3) fun v21 =>
 aL (zal H4 42 v21 v18) fun v22 H5 =>
  lD [(v17,v19)] [v19,v21] [] H5 ∧
 (ak (zad 173 v1 0) fun v23 =>
 ak (zad 62 v23 2) fun v24 =>
 ak (zab H5 38 v24) fun v25 =>
 aL (zaa true H5 64 163 [v25]) fun v26 H6 =>
 ak (zaw v26 0) fun v27 =>
 ak (zaw v26 1) fun v28 =>
 ak (zad 173 v1 0) fun v29 =>
 ak (zad 62 v29 2) fun v30 =>
 ak (zab H6 38 v30) fun v31 =>
 aL (zaa true H6 70 121 [v31]) fun v32 H7 =>
 gQ v32 true (zad 173 v1 0) fun v33 =>
 gQ v32 true (zad 62 v33 3) fun v34 =>
 gQ v32 true (zab H7 42 v34) fun v35 =>
 gQ v32 true (zaq 42 74 0 v35) fun v36 =>
 ak (zag v32 v36) fun v37 =>
 gQ v37 true (zad 173 v1 0) fun v38 =>
 gQ v37 true (zad 62 v38 3) fun v39 =>
 gQ v37 true (zab H7 42 v39) fun v40 =>
 gQ v37 true (zas 42 80 65536 v40) fun v41 =>
 ak (zag v37 v41) fun v42 =>
 ak (zad 173 v1 0) fun v43 =>
 ak (zad 62 v43 3) fun v44 =>
 ak (zab H7 42 v44) fun v45 =>
 ak (zbw 42 85 v45) fun v46 =>
 ak (zay H7 87 42 5 v46) fun v47 =>
 ak (zad 173 v1 0) fun v48 =>
 ak (zad 62 v48 3) fun v49 =>
 ak (zab H7 42 v49) fun v50 =>
 ak (zay H7 91 42 5 v50) fun v51 =>
 aL (fu env.P false true H7 (Ref.mk 0 92 (ad.gen H7 0 92) 0) 170 2 (some [(0,v47),(1,v51)])) fun v52 H8 =>
 aL (zat H8 94 170 170 v52 v27) fun v53 H9 =>
 ak (zad 173 v1 0) fun v54 =>
 ak (zad 62 v54 0) fun v55 =>
 ak (zab H9 5 v55) fun v56 =>
 aL (zbc H9 111 170 1 0 v56) fun v57 H10 =>
 aL (zat H10 113 170 170 v57 v53) fun v58 H11 =>
 gQ v42 true (zbj v28) fun v59 =>
 gQ v42 true (zak 42 116 0 v59) fun v60 =>
 ak (zag v42 v60) fun v61 =>
 gQ v61 true (zad 173 v1 0) fun v62 =>
 gQ v61 true (zab H11 62 v62) fun v63 =>
 gQ v61 true (zab H11 62 v6) fun v64 =>
 gW v61 true H11 (zaa true H11 123 165 [v63,v64]) fun v65 H12 =>
 ak (zag v61 v65) fun v66 =>
 Q (.tup [v58,v66]) H12)) (
 ak (zbq 5 12 v10) fun v13 =>
 br (some v13) (
 ak (zad 173 v1 0) fun v14 =>
 ak (zad 62 v14 4) fun v15 =>
 ak (zab H3 60 v15) fun v16 =>
 ak (zad 62 v6 4) fun v17 =>
 aL (zal H3 60 v17 v16) fun v18 H4 =>
 ak (zad 173 v1 0) fun v19 =>
 ak (zad 62 v19 4) fun v20 =>
 ak (zab H4 60 v20) fun v21 =>
 aL (zaa true H4 105 164 [v21]) fun v22 H5 =>
 ak (zaw v22 0) fun v23 =>
 ak (zaw v22 1) fun v24 =>
 ak (zad 173 v1 0) fun v25 =>
 ak (zad 62 v25 0) fun v26 =>
 ak (zab H5 5 v26) fun v27 =>
 aL (zbc H5 111 170 1 0 v27) fun v28 H6 =>
 aL (zat H6 113 170 170 v28 v23) fun v29 H7 =>
 gQ (.v (.bool true)) true (zbj v24) fun v30 =>
 gQ (.v (.bool true)) true (zak 42 116 0 v30) fun v31 =>
 ak (bp (some (AV.v (Value.bool true))) (some v31) (some (AV.v (Value.bool false)))) fun v32 =>
 gQ v32 true (zad 173 v1 0) fun v33 =>
 gQ v32 true (zab H7 62 v33) fun v34 =>
 gQ v32 true (zab H7 62 v6) fun v35 =>
 gW v32 true H7 (zaa true H7 123 165 [v34,v35]) fun v36 H8 =>
 ak (zag v32 v36) fun v37 =>
 Q (.tup [v29,v37]) H8) (
 ak (zad 173 v1 0) fun v14 =>
 ak (zad 62 v14 0) fun v15 =>
 ak (zab H3 5 v15) fun v16 =>
 aL (zbc H3 111 170 1 0 v16) fun v17 H4 =>
 aL (de env.P true H4 (Ref.mk 0 113 (ad.gen H4 0 113) 0) (some 170) (some 170) v17 (.v (.slice none 0 0))) fun v18 H5 =>
 gQ (.v (.bool false)) true (cz (some (AV.v (Value.int IntKind.i64 0)))) fun v19 =>
 gQ (.v (.bool false)) true (zak 42 116 0 v19) fun v20 =>
 ak (bp (some (AV.v (Value.bool false))) (some v20) (some (AV.v (Value.bool false)))) fun v21 =>
 gQ v21 true (zad 173 v1 0) fun v22 =>
 gQ v21 true (zab H5 62 v22) fun v23 =>
 gQ v21 true (zab H5 62 v6) fun v24 =>
 gW v21 true H5 (zaa true H5 123 165 [v23,v24]) fun v25 H6 =>
 ak (zag v21 v25) fun v26 =>
 Q (.tup [v18,v26]) H6)))
theorem oG(x0:AV)(H:ad)(Q:AV→ad→Prop)(h : ∀g,cG g x0 H Q):b7 env Tryz.f101 0 [.code jh] [(0,x0)] H Q:=⟨fun g=>bc (live:=oM) (cut:=oR) (n:=500) (Eq.mp (by kernel_rfl) (h g))⟩
noncomputable def fa:Code:=(Tryz.f209.body).getD .skip
noncomputable def dF:List Item:=(cE 3 400 [.code fa]).getD []
noncomputable def dv:List Item:=(cE 11 400 [.code fa]).getD []
def gO:Nat→Option (List Nat):=fun i=>cond (Nat.beq i 3) (some [11,3,9,0,10]) (cond (Nat.beq i 11) (some [27,6,25,26]) (none))
def gR:Nat→Bool:=fun i=>false
def kT(g:Nat→AV)(x0:AV)(H:ad)(Q:AV→ad→Prop):Prop :=
 ak (zai H 10 279 x0) fun v1 =>
  b7 env Tryz.f209 0 dF [(11,(.v (.int .i64 0))),(3,(.v (.int .i64 0))),(9,x0),(0,x0),(10,v1)] H Q
theorem qv(x0:AV)(H:ad)(Q:AV→ad→Prop)(h : ∀g,kT g x0 H Q):b7 env Tryz.f209 0 [.code fa] [(0,x0)] H Q:=⟨fun g=>bc (live:=gO) (cut:=gR) (n:=500) (Eq.mp (by kernel_rfl) (h g))⟩
def fT(g:Nat→AV)(x11 x3 x9 x0 x10:AV)(H:ad)(Q:AV→ad→Prop):Prop :=
 ak (zap 3 11 10 x11 x10) fun v1 =>
 br (some v1) (
 ak (zau H 279 x9 x11) fun v2 =>
 ak (zab H 170 v2) fun v3 =>
 ak (zai H 17 170 v3) fun v4 =>
 ak (zbf 3 15 17 x3 v4) fun v5 =>
 ak (zas 3 19 0 v5) fun v6 =>
 br (some v6) (
 ak (pU env.P 9 (some (.v (.string ⟨#[108,101,110,32,111,117,116,32,111,102,32,114,97,110,103,101]⟩)))) fun v7 =>
 ak (none) fun v8 =>
 ak (zaf 3 11 1 x11) fun v9 =>
  b7 env Tryz.f209 0 dF [(11,v9),(3,v5),(9,x9),(0,x0),(10,x10)] H Q) (
 ak (zaf 3 11 1 x11) fun v7 =>
  b7 env Tryz.f209 0 dF [(11,v7),(3,v5),(9,x9),(0,x0),(10,x10)] H Q)) (
 aL (zaa true H 24 225 [(.v (.slice none 0 0)),x3]) fun v2 H1 =>
 ak (zai H1 26 279 x0) fun v3 =>
  b7 env Tryz.f209 0 dv [(27,(.v (.int .i64 0))),(6,v2),(25,x0),(26,v3)] H1 Q)
theorem jU(x11 x3 x9 x0 x10:AV)(H:ad)(Q:AV→ad→Prop)(h : ∀g,fT g x11 x3 x9 x0 x10 H Q):b7 env Tryz.f209 0 dF [(11,x11),(3,x3),(9,x9),(0,x0),(10,x10)] H Q:=dG fun g=>bc (live:=gO) (cut:=gR) (n:=500) (Eq.mp (by kernel_rfl) (h g))
def eI(g:Nat→AV)(x27 x6 x25 x26:AV)(H:ad)(Q:AV→ad→Prop):Prop :=
 ak (zap 3 27 26 x27 x26) fun v1 =>
 br (some v1) (
 ak (zau H 279 x25 x27) fun v2 =>
 ak (zab H 170 v2) fun v3 =>
 aL (zat H 33 170 170 x6 v3) fun v4 H1 =>
 ak (zaf 3 27 1 x27) fun v5 =>
  b7 env Tryz.f209 0 dv [(27,v5),(6,v4),(25,x25),(26,x26)] H1 Q) (
 Q x6 H)
theorem jv(x27 x6 x25 x26:AV)(H:ad)(Q:AV→ad→Prop)(h : ∀g,eI g x27 x6 x25 x26 H Q):b7 env Tryz.f209 0 dv [(27,x27),(6,x6),(25,x25),(26,x26)] H Q:=dG fun g=>bc (live:=gO) (cut:=gR) (n:=500) (Eq.mp (by kernel_rfl) (h g))
noncomputable def lZ:Code:=(Tryz.f225.body).getD .skip
def q0:Nat→Option (List Nat):=fun i=>none
def re:Nat→Bool:=fun i=>false
def l4(g:Nat→AV)(x0 x1:AV)(H:ad)(Q:AV→ad→Prop):Prop :=
 ak (zas 3 5 0 x1) fun v1 =>
 br (some v1) (
 ak (pU env.P 9 (some (.v (.string ⟨#[99,97,110,110,111,116,32,98,101,32,110,101,103,97,116,105,118,101]⟩)))) fun v2 =>
 ak (none) fun v3 =>
 ak (zbx H 10 170 x0) fun v4 =>
 ak (zai H 12 170 x0) fun v5 =>
 ak (zbs 3 10 12 v4 v5) fun v6 =>
 ak (zbs 3 8 13 x1 v6) fun v7 =>
 ak (zar 3 15 0 v7) fun v8 =>
 br (some v8) (
 ak (zbx H 19 170 x0) fun v9 =>
 ak (zbh H 170 x0 v9) fun v10 =>
 aL (zat H 22 170 3 v10 v7) fun v11 H1 =>
 ak (zai H1 24 170 x0) fun v12 =>
 ak (zbh H1 170 v11 v12) fun v13 =>
 Q v13 H1) (
 Q x0 H)) (
 ak (zbx H 10 170 x0) fun v2 =>
 ak (zai H 12 170 x0) fun v3 =>
 ak (zbs 3 10 12 v2 v3) fun v4 =>
 ak (zbs 3 8 13 x1 v4) fun v5 =>
 ak (zar 3 15 0 v5) fun v6 =>
 br (some v6) (
 ak (zbx H 19 170 x0) fun v7 =>
 ak (zbh H 170 x0 v7) fun v8 =>
 aL (zat H 22 170 3 v8 v5) fun v9 H1 =>
 ak (zai H1 24 170 x0) fun v10 =>
 ak (zbh H1 170 v9 v10) fun v11 =>
 Q v11 H1) (
 Q x0 H))
theorem qW(x0 x1:AV)(H:ad)(Q:AV→ad→Prop)(h : ∀g,l4 g x0 x1 H Q):b7 env Tryz.f225 0 [.code lZ] [(0,x0),(1,x1)] H Q:=⟨fun g=>bc (live:=q0) (cut:=re) (n:=500) (Eq.mp (by kernel_rfl) (h g))⟩
noncomputable def zK:Code:=(Tryz.f235.body).getD .skip
def GX:Nat→Option (List Nat):=fun i=>none
def Hb:Nat→Bool:=fun i=>false
def qq(g:Nat→AV)(x0 x1:AV)(H:ad)(Q:AV→ad→Prop):Prop :=
 aL (zac H 3 38 x1) fun v1 H1 =>
 aL (zaa true H1 9 243 [x0]) fun v2 H2 =>
 ak (zae 42 10 0 v2) fun v3 =>
 br (some v3) (
 Q (.tup [(.v (.bool false)),v2]) H2) (
 ak (zab H2 38 v1) fun v4 =>
 aL (zaa true H2 14 70 [v4]) fun v5 H3 =>
 ak (zae 42 15 0 v5) fun v6 =>
 br (some v6) (
 Q (.tup [(.v (.bool false)),v5]) H3) (
 ak (zab H3 38 v1) fun v7 =>
 aL (zaa true H3 20 244 [x0,v7]) fun v8 H4 =>
 Q (.tup [v8,(.v (.int .i64 0))]) H4))
theorem GB(x0 x1:AV)(H:ad)(Q:AV→ad→Prop)(h : ∀g,qq g x0 x1 H Q):b7 env Tryz.f235 0 [.code zK] [(0,x0),(1,x1)] H Q:=⟨fun g=>bc (live:=GX) (cut:=Hb) (n:=500) (Eq.mp (by kernel_rfl) (h g))⟩
noncomputable def sD:Code:=(Tryz.f243.body).getD .skip
noncomputable def mN:List Item:=(cE 4 400 [.code sD]).getD []
def xW:Nat→Option (List Nat):=fun i=>cond (Nat.beq i 4) (some [10,0,8,9]) (none)
def yg:Nat→Bool:=fun i=>false
def sM(g:Nat→AV)(x0:AV)(H:ad)(Q:AV→ad→Prop):Prop :=
 ak (zai H 6 41 x0) fun v1 =>
 ak (zar 3 6 2048 v1) fun v2 =>
 br (some v2) (
 Q (.v (.int .i64 4)) H) (
 ak (zai H 9 41 x0) fun v3 =>
  b7 env Tryz.f243 0 mN [(10,(.v (.int .i64 0))),(0,x0),(8,x0),(9,v3)] H Q)
theorem EE(x0:AV)(H:ad)(Q:AV→ad→Prop)(h : ∀g,sM g x0 H Q):b7 env Tryz.f243 0 [.code sD] [(0,x0)] H Q:=⟨fun g=>bc (live:=xW) (cut:=yg) (n:=500) (Eq.mp (by kernel_rfl) (h g))⟩
def kK(g:Nat→AV)(x10 x0 x8 x9:AV)(H:ad)(Q:AV→ad→Prop):Prop :=
 ak (zap 3 10 9 x10 x9) fun v1 =>
 br (some v1) (
 ak (zau H 41 x8 x10) fun v2 =>
 ak (zab H 38 v2) fun v3 =>
 aL (zah H 4 38) fun v4 H1 =>
 aL (zal H1 38 v4 v3) fun v5 H2 =>
 ak (zab H2 38 v4) fun v6 =>
 aL (zaa false H2 16 70 [v6]) fun v7 H3 =>
 ak (zae 42 16 0 v7) fun v8 =>
 gQ v8 false (zbj x0) fun v9 =>
 gQ v8 false (zbj x10) fun v10 =>
 gQ v8 false (zbh H3 41 v9 v10) fun v11 =>
 gQ v8 false (zab H3 38 v4) fun v12 =>
 gW v8 false H3 (zaa false H3 23 244 [v11,v12]) fun v13 H4 =>
 gQ v8 false (zbb v13) fun v14 =>
 ak (zam v8 v14) fun v15 =>
 br (some v15) (
 Q (.v (.int .i64 8)) H4) (
 ak (zaf 3 10 1 x10) fun v16 =>
  b7 env Tryz.f243 0 mN [(10,v16),(0,x0),(8,x8),(9,x9)] H4 Q)) (
 Q (.v (.int .i64 0)) H)
theorem u6(x10 x0 x8 x9:AV)(H:ad)(Q:AV→ad→Prop)(h : ∀g,kK g x10 x0 x8 x9 H Q):b7 env Tryz.f243 0 mN [(10,x10),(0,x0),(8,x8),(9,x9)] H Q:=dG fun g=>bc (live:=xW) (cut:=yg) (n:=500) (Eq.mp (by kernel_rfl) (h g))
noncomputable def uT:Code:=(Tryz.f244.body).getD .skip
noncomputable def nK:List Item:=(cE 5 400 [.code uT]).getD []
def zw:Nat→Option (List Nat):=fun i=>cond (Nat.beq i 5) (some [21,3,0,5,20]) (none)
def zB:Nat→Bool:=fun i=>false
def uW(g:Nat→AV)(x0 x1:AV)(H:ad)(Q:AV→ad→Prop):Prop :=
 aL (zac H 3 38 x1) fun v1 H1 =>
 ak (zad 38 v1 0) fun v2 =>
 ak (zab H1 5 v2) fun v3 =>
 ak (aH env.P .neq 5 (Operand.tmp 10) (.const (.int .u8 3)) (some v3) (some (a8 3))) fun v4 =>
 br (some v4) (
 Q (.v (.bool true)) H1) (
 ak (zad 38 v1 1) fun v5 =>
 ak (zad 31 v5 0) fun v6 =>
 ak (zab H1 29 v6) fun v7 =>
 ak (zad 38 v1 5) fun v8 =>
 ak (zab H1 29 v8) fun v9 =>
 aL (zaa true H1 17 47 [v7,v9]) fun v10 H2 =>
 ak (zad 38 v1 3) fun v11 =>
 ak (zad 35 v11 1) fun v12 =>
 ak (zab H2 3 v12) fun v13 =>
  b7 env Tryz.f244 0 nK [(21,(.v (.int .i64 0))),(3,v1),(0,x0),(5,v10),(20,v13)] H2 Q)
theorem GA(x0 x1:AV)(H:ad)(Q:AV→ad→Prop)(h : ∀g,uW g x0 x1 H Q):b7 env Tryz.f244 0 [.code uT] [(0,x0),(1,x1)] H Q:=⟨fun g=>bc (live:=zw) (cut:=zB) (n:=500) (Eq.mp (by kernel_rfl) (h g))⟩
def lN(g:Nat→AV)(x21 x3 x0 x5 x20:AV)(H:ad)(Q:AV→ad→Prop):Prop :=
 ak (zap 3 21 20 x21 x20) fun v1 =>
 br (some v1) (
 ak (zad 38 x3 3) fun v2 =>
 ak (zab H 35 v2) fun v3 =>
 aL (zaa true H 28 228 [v3,x21]) fun v4 H1 =>
 ak (zaw v4 0) fun v5 =>
 ak (zaw v4 1) fun v6 =>
 aL (zah H1 7 33) fun v7 H2 =>
 aL (zal H2 33 v7 v5) fun v8 H3 =>
 gQ x5 true (zbj x0) fun v9 =>
 gQ x5 true (zab H3 33 v7) fun v10 =>
 gQ x5 true (zad 38 x3 1) fun v11 =>
 gQ x5 true (zad 31 v11 0) fun v12 =>
 gQ x5 true (zab H3 29 v12) fun v13 =>
 gW x5 true H3 (zaa false H3 38 247 [v9,v10,v13]) fun v14 H4 =>
 gQ x5 true (zad 38 x3 1) fun v15 =>
 gQ x5 true (zad 31 v15 0) fun v16 =>
 gQ x5 true (zab H4 29 v16) fun v17 =>
 gW x5 true H4 (zaa false H4 42 246 [v14,v17]) fun v18 H5 =>
 ak (zag x5 v18) fun v19 =>
 ak (zbb v19) fun v20 =>
 br (some v20) (
 Q v19 H5) (
 ak (zaf 3 21 1 x21) fun v21 =>
  b7 env Tryz.f244 0 nK [(21,v21),(3,x3),(0,x0),(5,v19),(20,x20)] H5 Q)) (
 Q x5 H)
theorem wU(x21 x3 x0 x5 x20:AV)(H:ad)(Q:AV→ad→Prop)(h : ∀g,lN g x21 x3 x0 x5 x20 H Q):b7 env Tryz.f244 0 nK [(21,x21),(3,x3),(0,x0),(5,x5),(20,x20)] H Q:=dG fun g=>bc (live:=zw) (cut:=zB) (n:=500) (Eq.mp (by kernel_rfl) (h g))
noncomputable def df:Code:=(Tryz.f246.body).getD .skip
def fw:Nat→Option (List Nat):=fun i=>none
def fx:Nat→Bool:=fun i=>false
def dg(g:Nat→AV)(x0 x1:AV)(H:ad)(Q:AV→ad→Prop):Prop :=
 aL (zac H 3 29 x1) fun v1 H1 =>
 ak (zab H1 29 v1) fun v2 =>
 aL (zaa true H1 7 248 [x0,v2]) fun v3 H2 =>
 ak (zaq 3 7 0 v3) fun v4 =>
 Q v4 H2
theorem fv(x0 x1:AV)(H:ad)(Q:AV→ad→Prop)(h : ∀g,dg g x0 x1 H Q):b7 env Tryz.f246 0 [.code df] [(0,x0),(1,x1)] H Q:=⟨fun g=>bc (live:=fw) (cut:=fx) (n:=500) (Eq.mp (by kernel_rfl) (h g))⟩
noncomputable def uS:Code:=(Tryz.f247.body).getD .skip
noncomputable def iq:List Item:=(ky 10003 400 [.code uS]).getD []
noncomputable def dN:Code:=rfA iq
noncomputable def dM:Code:=rfB iq
noncomputable def qP:List Item:=rfK iq
def uM:Nat→Option (List Nat):=fun i=>cond (Nat.beq i 10003) (some [16,7]) (none)
def uQ:Nat→Bool:=fun i=>false
def zS(g:Nat→AV)(x0 x1 x2:AV)(H:ad)(Q:AV→ad→Prop):Prop :=
 aL (zac H 4 33 x1) fun v1 H1 =>
 aL (zac H1 5 29 x2) fun v2 H2 =>
 ak (zad 33 v1 0) fun v3 =>
 ak (zad 31 v3 0) fun v4 =>
 ak (zab H2 29 v4) fun v5 =>
 aL (zbc H2 12 277 1 0 v5) fun v6 H3 =>
 aL (zah H3 7 277) fun v7 H4 =>
 aL (zal H4 277 v7 v6) fun v8 H5 =>
 ak (zab H5 33 v1) fun v9 =>
 ak (zab H5 29 v2) fun v10 =>
 aL (zaa true H5 16 249 [x0,v9,v10]) fun v11 H6 =>
  b7 env Tryz.f247 0 iq [(16,v11),(7,v7)] H6 Q
theorem Gz(x0 x1 x2:AV)(H:ad)(Q:AV→ad→Prop)(h : ∀g,zS g x0 x1 x2 H Q):b7 env Tryz.f247 0 [.code uS] [(0,x0),(1,x1),(2,x2)] H Q:=⟨fun g=>bc (live:=uM) (cut:=uQ) (n:=500) (Eq.mp (by kernel_rfl) (h g))⟩
def qI(g:Nat→AV)(x7:AV)(H:ad)(Q:AV→ad→Prop):Prop :=
 ak (zab H 277 x7) fun v1 =>
 Q v1 H
theorem xH(x7:AV)(H:ad)(Q:AV→ad→Prop)(h : ∀g,qI g x7 H Q):b7 env Tryz.f247 0 qP [(7,x7)] H Q:=⟨fun g=>bc (live:=uM) (cut:=uQ) (n:=500) (Eq.mp (by kernel_rfl) (h g))⟩
def iA(r:Ref)(g:Nat→AV)(x7 x17:AV)(H:ad)(Q:AV→ad→Prop):Prop :=
 aL (bg H (⟨2,8,ad.gen H 2 8,0⟩:Ref) (bI env.P (⟨2,8,ad.gen H 2 8,0⟩:Ref) 29)) fun v1 H1 =>
 aL (zal H1 29 v1 x17) fun v2 H2 =>
  bgP (wz H2 r) fun i3 =>
 ak (aj env.P (ad.get (ad.put H2 r (some (iS 1 i3)))) 277 (some x7)) fun v4 =>
 ak (aj env.P (ad.get (ad.put H2 r (some (iS 1 i3)))) 29 (some v1)) fun v5 =>
 aL (bo env true (bj env) (bO env 2) (ad.put H2 r (some (iS 1 i3))) (⟨2,20,ad.gen (ad.put H2 r (some (iS 1 i3))) 2 20,0⟩:Ref) (some (.fn (.func 246) [] [])) [v4,v5]) fun v6 H3 =>
 ak (zbb v6) fun v7 =>
 br (some v7) (
 ak (zab H3 277 x7) fun v8 =>
 ak (zab H3 29 v1) fun v9 =>
 aL (fu env.P false true H3 (⟨2,24,ad.gen H3 2 24,0⟩:Ref) 277 1 (some [(0,v9)])) fun v10 H4 =>
 aL (de env.P true H4 (⟨2,25,ad.gen H4 2 25,0⟩:Ref) (some 277) (some 277) v8 v10) fun v11 H5 =>
 aL (zal H5 277 x7 v11) fun v12 H6 =>
 Q (.v (.int .i64 0)) H6) (
 Q (.v (.int .i64 0)) H3)
theorem ze(r:Ref)(x7 x17:AV)(H:ad)(Q:AV→ad→Prop)(h : ∀g,iA r g x7 x17 H Q):Ut env Tryz.f247 (some r) 2 [.code dN,.beginRound,.code dM] [(7,x7),(17,x17)] H Q:=⟨fun g=>bc (live:=uM) (cut:=uQ) (n:=500) (Eq.mp (by kernel_rfl) (h g))⟩
noncomputable def cB:Code:=(Tryz.f248.body).getD .skip
noncomputable def bM:List Item:=(cE 2 400 [.code cB]).getD []
def dD:Nat→Option (List Nat):=fun i=>cond (Nat.beq i 2) (some [8,0,3,7]) (none)
def dH:Nat→Bool:=fun i=>false
def dI(g:Nat→AV)(x0 x1:AV)(H:ad)(Q:AV→ad→Prop):Prop :=
 aL (zac H 3 29 x1) fun v1 H1 =>
 ak (zai H1 7 277 x0) fun v2 =>
  b7 env Tryz.f248 0 bM [(8,(.v (.int .i64 0))),(0,x0),(3,v1),(7,v2)] H1 Q
theorem fN(x0 x1:AV)(H:ad)(Q:AV→ad→Prop)(h : ∀g,dI g x0 x1 H Q):b7 env Tryz.f248 0 [.code cB] [(0,x0),(1,x1)] H Q:=⟨fun g=>bc (live:=dD) (cut:=dH) (n:=500) (Eq.mp (by kernel_rfl) (h g))⟩
def bN(g:Nat→AV)(x8 x0 x3 x7:AV)(H:ad)(Q:AV→ad→Prop):Prop :=
 ak (zap 3 8 7 x8 x7) fun v1 =>
 br (some v1) (
 ak (zab H 29 x3) fun v2 =>
 ak (zau H 277 x0 x8) fun v3 =>
 ak (zab H 29 v3) fun v4 =>
 ak (zan 29 11 15 v2 v4) fun v5 =>
 br (some v5) (
 Q x8 H) (
 ak (zaf 3 8 1 x8) fun v6 =>
  b7 env Tryz.f248 0 bM [(8,v6),(0,x0),(3,x3),(7,x7)] H Q)) (
 Q (.v (.int .i64 (-1))) H)
theorem dq(x8 x0 x3 x7:AV)(H:ad)(Q:AV→ad→Prop)(h : ∀g,bN g x8 x0 x3 x7 H Q):b7 env Tryz.f248 0 bM [(8,x8),(0,x0),(3,x3),(7,x7)] H Q:=dG fun g=>bc (live:=dD) (cut:=dH) (n:=500) (Eq.mp (by kernel_rfl) (h g))
noncomputable def w6:Code:=(Tryz.f249.body).getD .skip
def DO:Nat→Option (List Nat):=fun i=>none
def D2:Nat→Bool:=fun i=>false
def xj(g:Nat→AV)(x0 x1 x2:AV)(H:ad)(Q:AV→ad→Prop):Prop :=
 aL (zac H 3 41 x0) fun v1 H1 =>
 aL (zac H1 4 33 x1) fun v2 H2 =>
 aL (zac H2 5 29 x2) fun v3 H3 =>
 ak (fp (.func 250) (some []) (some [v1,v2,v3])) fun v4 =>
 Q v4 H3
theorem DA(x0 x1 x2:AV)(H:ad)(Q:AV→ad→Prop)(h : ∀g,xj g x0 x1 x2 H Q):b7 env Tryz.f249 0 [.code w6] [(0,x0),(1,x1),(2,x2)] H Q:=⟨fun g=>bc (live:=DO) (cut:=D2) (n:=500) (Eq.mp (by kernel_rfl) (h g))⟩
noncomputable def po:Code:=(Tryz.f250.body).getD .skip
noncomputable def jZ:List Item:=(cE 1 400 [.code po]).getD []
def tC:Nat→Option (List Nat):=fun i=>cond (Nat.beq i 1) (some [11,0,3,2,9,10]) (none)
def tI:Nat→Bool:=fun i=>false
def uy(dep:Nat)(g:Nat→AV)(x0 x1 x2 x3:AV)(H:ad)(Q:AV→ad→Prop):Prop :=
 ak (zab H 41 x1) fun v1 =>
 ak (zba H dep 10 41 v1) fun v2 =>
  b7 env Tryz.f250 (dep+1) jZ [(11,(.v (.int .i64 0))),(0,x0),(3,x3),(2,x2),(9,v1),(10,v2)] H Q
theorem AE(dep:Nat)(x0 x1 x2 x3:AV)(H:ad)(Q:AV→ad→Prop)(h : ∀g,uy dep g x0 x1 x2 x3 H Q):b7 env Tryz.f250 (dep+1) [.code po] [(0,x0),(1,x1),(2,x2),(3,x3)] H Q:=⟨fun g=>bc (live:=tC) (cut:=tI) (n:=500) (Eq.mp (by kernel_rfl) (h g))⟩
def fF(dep:Nat)(g:Nat→AV)(x11 x0 x3 x2 x9 x10:AV)(H:ad)(Q:AV→ad→Prop):Prop :=
 ak (zap 3 11 10 x11 x10) fun v1 =>
 br (some v1) (
 ak (zau H 41 x9 x11) fun v2 =>
 ak (zab H 38 v2) fun v3 =>
 aL (zao H dep 6 38) fun v4 H1 =>
 aL (zal H1 38 v4 v3) fun v5 H2 =>
 ak (zad 38 v4 3) fun v6 =>
 ak (zab H2 35 v6) fun v7 =>
 ak (zab H2 33 x2) fun v8 =>
 aL (bo env true (bj env) (bO env (dep+1)) H2 (⟨(dep+1),19,ad.gen H2 (dep+1) 19,0⟩:Ref) (some (.fn (.func 251) [] [])) [v7,v8]) fun v9 H3 =>
 ak (zaw v9 0) fun v10 =>
 ak (zaw v9 1) fun v11 =>
 ak (zad 38 v4 0) fun v12 =>
 ak (zab H3 5 v12) fun v13 =>
 ak (zbq 5 23 v13) fun v14 =>
 gQ v14 true (zbj v11) fun v15 =>
 ak (zag v14 v15) fun v16 =>
 gQ v16 true (zad 38 v4 1) fun v17 =>
 gQ v16 true (zad 31 v17 0) fun v18 =>
 gQ v16 true (zab H3 29 v18) fun v19 =>
 gQ v16 true (zab H3 29 x3) fun v20 =>
 gW v16 true H3 (zcf dep H3 33 v19 v20) fun v21 H4 =>
 ak (zag v16 v21) fun v22 =>
 gQ v22 true (zbj x0) fun v23 =>
 gQ v22 true (zad 38 v4 5) fun v24 =>
 gQ v22 true (zab H4 29 v24) fun v25 =>
 gW v22 true H4 (zbd dep H4 39 v23 v25) fun v26 H5 =>
 gQ v22 true (zbb v26) fun v27 =>
 ak (zag v22 v27) fun v28 =>
 br (some v28) (
 Q (.v (.tuple #[])) H5) (
 ak (zaf 3 11 1 x11) fun v29 =>
  b7 env Tryz.f250 (dep+1) jZ [(11,v29),(0,x0),(3,x3),(2,x2),(9,x9),(10,x10)] H5 Q)) (
 Q (.v (.tuple #[])) H)
theorem qN(dep:Nat)(x11 x0 x3 x2 x9 x10:AV)(H:ad)(Q:AV→ad→Prop)(h : ∀g,fF dep g x11 x0 x3 x2 x9 x10 H Q):b7 env Tryz.f250 (dep+1) jZ [(11,x11),(0,x0),(3,x3),(2,x2),(9,x9),(10,x10)] H Q:=dG fun g=>bc (live:=tC) (cut:=tI) (n:=500) (Eq.mp (by kernel_rfl) (h g))
end Go.Proofs.YtmkmimgokagimaaGreat
