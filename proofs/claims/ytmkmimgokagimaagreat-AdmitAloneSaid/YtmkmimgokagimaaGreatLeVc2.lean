/-
  What is to be shown of each function, computed from its code. No statement of a seat is proved here.
-/
import Derived.Test.YtmkmimgokagimaaGreatLeTy
set_option linter.unusedVariables false
set_option maxRecDepth 1000000
namespace Go.Proofs.YtmkmimgokagimaaGreat
open Go.Ab
noncomputable def oC:Code:=(Tryz.f62.body).getD .skip
def vw:Nat→Option (List Nat):=fun i=>none
def vL:Nat→Bool:=fun i=>false
def cY(g:Nat→AV)(x0 x1:AV)(H:ad)(Q:AV→ad→Prop):Prop :=
 aL (zac H 2 38 x0) fun v1 H1 =>
 aL (zac H1 3 38 x1) fun v2 H2 =>
 ak (zad 38 v1 0) fun v3 =>
 ak (zab H2 5 v3) fun v4 =>
 ak (zad 38 v2 0) fun v5 =>
 ak (zab H2 5 v5) fun v6 =>
 ak (zan 5 6 8 v4 v6) fun v7 =>
 gQ v7 true (zad 38 v1 1) fun v8 =>
 gQ v7 true (zab H2 31 v8) fun v9 =>
 gQ v7 true (zad 38 v2 1) fun v10 =>
 gQ v7 true (zab H2 31 v10) fun v11 =>
 gQ v7 true (zan 31 12 14 v9 v11) fun v12 =>
 ak (zag v7 v12) fun v13 =>
 gQ v13 true (zad 38 v1 2) fun v14 =>
 gQ v13 true (zab H2 3 v14) fun v15 =>
 gQ v13 true (zad 38 v2 2) fun v16 =>
 gQ v13 true (zab H2 3 v16) fun v17 =>
 gQ v13 true (zan 3 19 21 v15 v17) fun v18 =>
 ak (zag v13 v18) fun v19 =>
 gQ v19 true (zad 38 v1 3) fun v20 =>
 gQ v19 true (zab H2 35 v20) fun v21 =>
 gQ v19 true (zad 38 v2 3) fun v22 =>
 gQ v19 true (zab H2 35 v22) fun v23 =>
 gQ v19 true (zan 35 26 28 v21 v23) fun v24 =>
 ak (zag v19 v24) fun v25 =>
 gQ v25 true (zad 38 v1 4) fun v26 =>
 gQ v25 true (zab H2 33 v26) fun v27 =>
 gQ v25 true (zad 38 v2 4) fun v28 =>
 gQ v25 true (zab H2 33 v28) fun v29 =>
 gQ v25 true (zan 33 33 35 v27 v29) fun v30 =>
 ak (zag v25 v30) fun v31 =>
 gQ v31 true (zad 38 v1 5) fun v32 =>
 gQ v31 true (zab H2 29 v32) fun v33 =>
 gQ v31 true (zad 38 v2 5) fun v34 =>
 gQ v31 true (zab H2 29 v34) fun v35 =>
 gQ v31 true (zan 29 40 42 v33 v35) fun v36 =>
 ak (zag v31 v36) fun v37 =>
 gQ v37 true (zad 38 v1 6) fun v38 =>
 gQ v37 true (zab H2 36 v38) fun v39 =>
 gQ v37 true (zad 38 v2 6) fun v40 =>
 gQ v37 true (zab H2 36 v40) fun v41 =>
 gW v37 true H2 (zaa true H2 50 133 [v39,v41]) fun v42 H3 =>
 ak (zag v37 v42) fun v43 =>
 Q v43 H3
theorem vc(x0 x1:AV)(H:ad)(Q:AV→ad→Prop)(h : ∀g,cY g x0 x1 H Q):b7 env Tryz.f62 0 [.code oC] [(0,x0),(1,x1)] H Q:=⟨fun g=>bc (live:=vw) (cut:=vL) (n:=500) (Eq.mp (by kernel_rfl) (h g))⟩
noncomputable def Dp:Code:=(Tryz.f70.body).getD .skip
def Kp:Nat→Option (List Nat):=fun i=>none
def K6:Nat→Bool:=fun i=>false
def iN(g:Nat→AV)(x0:AV)(H:ad)(Q:AV→ad→Prop):Prop :=
 aL (zac H 1 38 x0) fun v1 H1 =>
 ak (zad 38 v1 0) fun v2 =>
 ak (zab H1 5 v2) fun v3 =>
 ak (aH env.P .eql 5 (Operand.tmp 4) (.const (.int .u8 0)) (some v3) (some (a8 0))) fun v4 =>
 gQ v4 false (zad 38 v1 0) fun v5 =>
 gQ v4 false (zab H1 5 v5) fun v6 =>
 gQ v4 false (aH env.P .geq 5 (Operand.tmp 8) (.const (.int .u8 4)) (some v6) (some (a8 4))) fun v7 =>
 ak (zam v4 v7) fun v8 =>
 gQ v8 false (zad 38 v1 1) fun v9 =>
 gQ v8 false (zab H1 31 v9) fun v10 =>
 gW v8 false H1 (zaa false H1 14 91 [v10]) fun v11 H2 =>
 gQ v8 false (zae 42 14 0 v11) fun v12 =>
 ak (zam v8 v12) fun v13 =>
 gQ v13 false (zad 38 v1 2) fun v14 =>
 gQ v13 false (zab H2 3 v14) fun v15 =>
 gQ v13 false (zas 3 19 1 v15) fun v16 =>
 ak (zam v13 v16) fun v17 =>
 gQ v17 false (zad 38 v1 2) fun v18 =>
 gQ v17 false (zab H2 3 v18) fun v19 =>
 gQ v17 false (zaq 3 24 16777216 v19) fun v20 =>
 ak (zam v17 v20) fun v21 =>
 gQ v21 false (zad 38 v1 3) fun v22 =>
 gQ v21 false (zab H2 35 v22) fun v23 =>
 gW v21 false H2 (zaa false H2 30 135 [v23]) fun v24 H3 =>
 gQ v21 false (zae 42 30 0 v24) fun v25 =>
 ak (zam v21 v25) fun v26 =>
 gW v26 false H3 (zaa false H3 34 136 []) fun v27 H4 =>
 gQ v26 false (zad 38 v1 0) fun v28 =>
 gQ v26 false (zab H4 5 v28) fun v29 =>
 gQ v26 false (o5 env.P 204 (some v27) (some v29)) fun v30 =>
 gQ v26 false (pV env.P 203 (some v30) 0) fun v31 =>
 gQ v26 false (zab H4 38 v1) fun v32 =>
 gW v26 false H4 (zbg H4 40 v31 v32) fun v33 H5 =>
 gQ v26 false (zbb v33) fun v34 =>
 ak (zam v26 v34) fun v35 =>
 br (some v35) (
 Q (.v (.int .i64 8)) H5) (
 Q (.v (.int .i64 0)) H5)
theorem Jt(x0:AV)(H:ad)(Q:AV→ad→Prop)(h : ∀g,iN g x0 H Q):b7 env Tryz.f70 0 [.code Dp] [(0,x0)] H Q:=⟨fun g=>bc (live:=Kp) (cut:=K6) (n:=500) (Eq.mp (by kernel_rfl) (h g))⟩
noncomputable def wE:Code:=(Tryz.f108.body).getD .skip
def Md:Nat→Option (List Nat):=fun i=>none
def MD:Nat→Bool:=fun i=>false
def wO(g:Nat→AV)(x0:AV)(H:ad)(Q:AV→ad→Prop):Prop :=
 aL (zac H 1 38 x0) fun v1 H1 =>
 aL (zah H1 2 38) fun v2 H2 =>
 ak (zad 38 v1 6) fun v3 =>
 ak (zab H2 36 v3) fun v4 =>
 aL (zaa true H2 5 173 [v4]) fun v5 H3 =>
 ak (zad 38 v1 6) fun v6 =>
 aL (zal H3 36 v6 v5) fun v7 H4 =>
 ak (zab H4 38 v1) fun v8 =>
 aL (zal H4 38 v2 v8) fun v9 H5 =>
 ak (zbt H5 v2 38) fun v10 =>
 Q v10 H5
theorem zW(x0:AV)(H:ad)(Q:AV→ad→Prop)(h : ∀g,wO g x0 H Q):b7 env Tryz.f108 0 [.code wE] [(0,x0)] H Q:=⟨fun g=>bc (live:=Md) (cut:=MD) (n:=500) (Eq.mp (by kernel_rfl) (h g))⟩
noncomputable def Dn:Code:=(Tryz.f121.body).getD .skip
def Ko:Nat→Option (List Nat):=fun i=>none
def K5:Nat→Bool:=fun i=>false
def Dt(g:Nat→AV)(x0:AV)(H:ad)(Q:AV→ad→Prop):Prop :=
 aL (zac H 1 38 x0) fun v1 H1 =>
 ak (zad 38 v1 6) fun v2 =>
 ak (zab H1 36 v2) fun v3 =>
 aL (zaa true H1 5 176 [v3,(.v (.int .i32 (-1)))]) fun v4 H2 =>
 ak (zbb v4) fun v5 =>
 Q v5 H2
theorem Js(x0:AV)(H:ad)(Q:AV→ad→Prop)(h : ∀g,Dt g x0 H Q):b7 env Tryz.f121 0 [.code Dn] [(0,x0)] H Q:=⟨fun g=>bc (live:=Ko) (cut:=K5) (n:=500) (Eq.mp (by kernel_rfl) (h g))⟩
noncomputable def vO:Code:=(Tryz.f163.body).getD .skip
def OU:Nat→Option (List Nat):=fun i=>none
def Pf:Nat→Bool:=fun i=>false
def rE(g:Nat→AV)(x0:AV)(H:ad)(Q:AV→ad→Prop):Prop :=
 aL (zac H 1 38 x0) fun v1 H1 =>
 ak (zab H1 38 v1) fun v2 =>
 aL (zaa true H1 16 70 [v2]) fun v3 H2 =>
 ak (zae 42 17 0 v3) fun v4 =>
 br (some v4) (
 Q (.tup [(.v (.slice none 0 0)),v3]) H2) (
 ak (zad 38 v1 1) fun v5 =>
 ak (zab H2 31 v5) fun v6 =>
 aL (zaa true H2 23 162 [v6]) fun v7 H3 =>
 ak (zaw v7 0) fun v8 =>
 ak (zaw v7 1) fun v9 =>
 ak (zad 38 v1 3) fun v10 =>
 ak (zad 35 v10 0) fun v11 =>
 ak (zab H3 33 v11) fun v12 =>
 aL (zaa true H3 30 208 [v12]) fun v13 H4 =>
 ak (zaw v13 0) fun v14 =>
 ak (zaw v13 1) fun v15 =>
 ak (zad 38 v1 0) fun v16 =>
 ak (zab H4 5 v16) fun v17 =>
 aL (zbc H4 35 170 1 0 v17) fun v18 H5 =>
 ak (zad 38 v1 2) fun v19 =>
 ak (zab H5 3 v19) fun v20 =>
 ak (zcl 3 38 v20) fun v21 =>
 ak (zay H5 40 3 5 v21) fun v22 =>
 ak (zad 38 v1 2) fun v23 =>
 ak (zab H5 3 v23) fun v24 =>
 ak (zbw 3 42 v24) fun v25 =>
 ak (zay H5 44 3 5 v25) fun v26 =>
 ak (zad 38 v1 2) fun v27 =>
 ak (zab H5 3 v27) fun v28 =>
 ak (zay H5 47 3 5 v28) fun v29 =>
 aL (fu env.P false true H5 (Ref.mk 0 48 (ad.gen H5 0 48) 0) 170 3 (some [(0,v22),(1,v26),(2,v29)])) fun v30 H6 =>
 ak (zad 38 v1 3) fun v31 =>
 ak (zad 35 v31 1) fun v32 =>
 ak (zab H6 3 v32) fun v33 =>
 ak (zay H6 53 3 5 v33) fun v34 =>
 aL (zbc H6 54 170 1 0 v34) fun v35 H7 =>
 aL (fu env.P false true H7 (Ref.mk 0 55 (ad.gen H7 0 55) 0) 279 5 (some [(0,v18),(1,v8),(2,v30),(3,v14),(4,v35)])) fun v36 H8 =>
 aL (zaa true H8 56 209 [v36]) fun v37 H9 =>
 ak (zad 38 v1 0) fun v38 =>
 ak (zab H9 5 v38) fun v39 =>
 ak (zbk 5 58 v39) fun v40 =>
 br (some v40) (
 aL (bg H9 (Ref.mk 0 61 (ad.gen H9 0 61) 0) (Db env.P (Ref.mk 0 61 (ad.gen H9 0 61) 0) 170 (some (AV.v (Value.int IntKind.i64 13))) (some (AV.v (Value.int IntKind.i64 13))))) fun v41 H10 =>
 ak (zad 38 v1 4) fun v42 =>
 ak (zab H10 33 v42) fun v43 =>
 ak (zbp 33) fun v44 =>
 ak (zav 33 63 64 v43 v44) fun v45 =>
 br (some v45) (
 ak (zad 38 v1 4) fun v46 =>
 ak (zab H10 33 v46) fun v47 =>
 aL (zaa true H10 69 208 [v47]) fun v48 H11 =>
 ak (zaw v48 0) fun v49 =>
 ak (zaw v48 1) fun v50 =>
 ak (zad 38 v1 6) fun v51 =>
 ak (zab H11 36 v51) fun v52 =>
 aL (zaa true H11 75 210 [v52]) fun v53 H12 =>
 ak (zaw v53 0) fun v54 =>
 ak (zaw v53 1) fun v55 =>
 aL (fu env.P false true H12 (Ref.mk 0 81 (ad.gen H12 0 81) 0) 279 3 (some [(0,v37),(1,v49),(2,v54)])) fun v56 H13 =>
 aL (zaa true H13 82 209 [v56]) fun v57 H14 =>
 Q (.tup [v57,(.v (.int .i64 0))]) H14) (
 ak (zad 38 v1 6) fun v46 =>
 ak (zab H10 36 v46) fun v47 =>
 aL (zaa true H10 75 210 [v47]) fun v48 H11 =>
 ak (zaw v48 0) fun v49 =>
 ak (zaw v48 1) fun v50 =>
 aL (fu env.P false true H11 (Ref.mk 0 81 (ad.gen H11 0 81) 0) 279 3 (some [(0,v37),(1,v41),(2,v49)])) fun v51 H12 =>
 aL (zaa true H12 82 209 [v51]) fun v52 H13 =>
 Q (.tup [v52,(.v (.int .i64 0))]) H13)) (
 ak (zbq 5 58 v39) fun v41 =>
 br (some v41) (
 ak (zad 38 v1 5) fun v42 =>
 ak (zab H9 29 v42) fun v43 =>
 ak (zcp 31 0 v43) fun v44 =>
 aL (zaa true H9 89 162 [v44]) fun v45 H10 =>
 ak (zaw v45 0) fun v46 =>
 ak (zaw v45 1) fun v47 =>
 ak (eU env.P (ad.get H10) 170 (some v46) (some none) (oi (.v (.int .i64 5))) (some none)) fun v48 =>
 aL (zat H10 95 170 170 v37 v48) fun v49 H11 =>
 Q (.tup [v49,(.v (.int .i64 0))]) H11) (
 Q (.tup [v37,(.v (.int .i64 0))]) H9)))
theorem yL(x0:AV)(H:ad)(Q:AV→ad→Prop)(h : ∀g,rE g x0 H Q):b7 env Tryz.f163 0 [.code vO] [(0,x0)] H Q:=⟨fun g=>bc (live:=OU) (cut:=Pf) (n:=500) (Eq.mp (by kernel_rfl) (h g))⟩
noncomputable def zJ:Code:=(Tryz.f183.body).getD .skip
def GW:Nat→Option (List Nat):=fun i=>none
def Ha:Nat→Bool:=fun i=>false
def uU(g:Nat→AV)(x0:AV)(H:ad)(Q:AV→ad→Prop):Prop :=
 aL (zac H 1 38 x0) fun v1 H1 =>
 ak (zad 38 v1 4) fun v2 =>
 ak (zab H1 33 v2) fun v3 =>
 ak (zbp 33) fun v4 =>
 ak (zan 33 4 5 v3 v4) fun v5 =>
 gQ v5 true (zad 38 v1 6) fun v6 =>
 gQ v5 true (zab H1 36 v6) fun v7 =>
 gQ v5 true (zai H1 10 36 v7) fun v8 =>
 gQ v5 true (zak 3 10 0 v8) fun v9 =>
 ak (zag v5 v9) fun v10 =>
 Q v10 H1
theorem Gy(x0:AV)(H:ad)(Q:AV→ad→Prop)(h : ∀g,uU g x0 H Q):b7 env Tryz.f183 0 [.code zJ] [(0,x0)] H Q:=⟨fun g=>bc (live:=GW) (cut:=Ha) (n:=500) (Eq.mp (by kernel_rfl) (h g))⟩
noncomputable def zI:Code:=(Tryz.f184.body).getD .skip
def GV:Nat→Option (List Nat):=fun i=>none
def G9:Nat→Bool:=fun i=>false
def zR(g:Nat→AV)(x0:AV)(H:ad)(Q:AV→ad→Prop):Prop :=
 aL (zac H 1 38 x0) fun v1 H1 =>
 ak (zad 38 v1 5) fun v2 =>
 ak (zab H1 29 v2) fun v3 =>
 aL (zaa false H1 5 185 []) fun v4 H2 =>
 ak (zan 29 4 5 v3 v4) fun v5 =>
 Q v5 H2
theorem Gx(x0:AV)(H:ad)(Q:AV→ad→Prop)(h : ∀g,zR g x0 H Q):b7 env Tryz.f184 0 [.code zI] [(0,x0)] H Q:=⟨fun g=>bc (live:=GV) (cut:=G9) (n:=500) (Eq.mp (by kernel_rfl) (h g))⟩
noncomputable def zH:Code:=(Tryz.f186.body).getD .skip
def GU:Nat→Option (List Nat):=fun i=>none
def G8:Nat→Bool:=fun i=>false
def gK(g:Nat→AV)(x0 x1:AV)(H:ad)(Q:AV→ad→Prop):Prop :=
 aL (zac H 2 38 x0) fun v1 H1 =>
 ak (zad 38 v1 4) fun v2 =>
 ak (zab H1 33 v2) fun v3 =>
 ak (zbp 33) fun v4 =>
 ak (zan 33 6 7 v3 v4) fun v5 =>
 gQ v5 false (zad 38 v1 4) fun v6 =>
 gQ v5 false (zab H1 33 v6) fun v7 =>
 gW v5 false H1 (zaa true H1 12 182 [v7]) fun v8 H2 =>
 gQ v5 false (zak 42 12 0 v8) fun v9 =>
 ak (zam v5 v9) fun v10 =>
 ak (zab H2 137 x1) fun v11 =>
 ak (zab H2 38 v1) fun v12 =>
 aL (zbg H2 17 v11 v12) fun v13 H3 =>
 gQ v13 true (zbj v10) fun v14 =>
 ak (zag v13 v14) fun v15 =>
 gQ v15 true (zad 38 v1 3) fun v16 =>
 gQ v15 true (zad 35 v16 0) fun v17 =>
 gQ v15 true (zad 33 v17 0) fun v18 =>
 gQ v15 true (zab H3 31 v18) fun v19 =>
 gQ v15 true (zad 38 v1 1) fun v20 =>
 gQ v15 true (zab H3 31 v20) fun v21 =>
 gQ v15 true (zan 31 25 27 v19 v21) fun v22 =>
 ak (zag v15 v22) fun v23 =>
 gQ v23 true (zad 38 v1 6) fun v24 =>
 gQ v23 true (zab H3 36 v24) fun v25 =>
 gQ v23 true (zai H3 33 36 v25) fun v26 =>
 gQ v23 true (zad 38 v1 3) fun v27 =>
 gQ v23 true (zad 35 v27 1) fun v28 =>
 gQ v23 true (zab H3 3 v28) fun v29 =>
 gQ v23 true (zan 3 33 36 v26 v29) fun v30 =>
 ak (zag v23 v30) fun v31 =>
 gQ v31 true (zad 38 v1 6) fun v32 =>
 gQ v31 true (zab H3 36 v32) fun v33 =>
 gW v31 true H3 (zaa true H3 42 187 [v33]) fun v34 H4 =>
 gQ v31 true (zak 42 42 0 v34) fun v35 =>
 ak (zag v31 v35) fun v36 =>
 Q v36 H4
theorem Gw(x0 x1:AV)(H:ad)(Q:AV→ad→Prop)(h : ∀g,gK g x0 x1 H Q):b7 env Tryz.f186 0 [.code zH] [(0,x0),(1,x1)] H Q:=⟨fun g=>bc (live:=GU) (cut:=G8) (n:=500) (Eq.mp (by kernel_rfl) (h g))⟩
noncomputable def zG:Code:=(Tryz.f189.body).getD .skip
def GS:Nat→Option (List Nat):=fun i=>none
def G7:Nat→Bool:=fun i=>false
def zQ(g:Nat→AV)(x0 x1 x2:AV)(H:ad)(Q:AV→ad→Prop):Prop :=
 aL (zac H 3 38 x0) fun v1 H1 =>
 ak (zab H1 137 x1) fun v2 =>
 ak (zab H1 38 v1) fun v3 =>
 aL (zbg H1 7 v2 v3) fun v4 H2 =>
 gQ v4 true (zab H2 137 x2) fun v5 =>
 gQ v4 true (zab H2 38 v1) fun v6 =>
 gW v4 true H2 (zbg H2 11 v5 v6) fun v7 H3 =>
 ak (zag v4 v7) fun v8 =>
 Q v8 H3
theorem Gv(x0 x1 x2:AV)(H:ad)(Q:AV→ad→Prop)(h : ∀g,zQ g x0 x1 x2 H Q):b7 env Tryz.f189 0 [.code zG] [(0,x0),(1,x1),(2,x2)] H Q:=⟨fun g=>bc (live:=GS) (cut:=G7) (n:=500) (Eq.mp (by kernel_rfl) (h g))⟩
noncomputable def zF:Code:=(Tryz.f191.body).getD .skip
def GR:Nat→Option (List Nat):=fun i=>none
def G6:Nat→Bool:=fun i=>false
def zP(g:Nat→AV)(x0 x1:AV)(H:ad)(Q:AV→ad→Prop):Prop :=
 aL (zac H 2 38 x0) fun v1 H1 =>
 ak (zab H1 137 x1) fun v2 =>
 ak (zab H1 38 v1) fun v3 =>
 aL (zbg H1 6 v2 v3) fun v4 H2 =>
 gQ v4 true (zad 38 v1 5) fun v5 =>
 gQ v4 true (zab H2 29 v5) fun v6 =>
 gW v4 true H2 (zaa true H2 10 76 [v6]) fun v7 H3 =>
 gQ v4 true (zak 42 10 0 v7) fun v8 =>
 ak (zag v4 v8) fun v9 =>
 Q v9 H3
theorem Gu(x0 x1:AV)(H:ad)(Q:AV→ad→Prop)(h : ∀g,zP g x0 x1 H Q):b7 env Tryz.f191 0 [.code zF] [(0,x0),(1,x1)] H Q:=⟨fun g=>bc (live:=GR) (cut:=G6) (n:=500) (Eq.mp (by kernel_rfl) (h g))⟩
noncomputable def F8:Code:=(Tryz.f211.body).getD .skip
def Me:Nat→Option (List Nat):=fun i=>none
def ME:Nat→Bool:=fun i=>false
def mF(g:Nat→AV)(x0 x1:AV)(H:ad)(Q:AV→ad→Prop):Prop :=
 aL (zac H 2 38 x0) fun v1 H1 =>
 aL (zac H1 3 38 x1) fun v2 H2 =>
 ak (zab H2 38 v1) fun v3 =>
 ak (zab H2 38 v2) fun v4 =>
 aL (zah H2 5 38) fun v5 H3 =>
 aL (zah H3 6 38) fun v6 H4 =>
 aL (zal H4 38 v5 v3) fun v7 H5 =>
 aL (zal H5 38 v6 v4) fun v8 H6 =>
  lD [(v2,v5)] [v5,v6] [] H6 ∧
 (ak (zad 38 v5 0) fun v9 =>
 ak (zab H6 5 v9) fun v10 =>
 ak (zad 38 v6 0) fun v11 =>
 ak (zab H6 5 v11) fun v12 =>
 ak (zan 5 10 12 v10 v12) fun v13 =>
 gQ v13 true (zad 38 v5 1) fun v14 =>
 gQ v13 true (zab H6 31 v14) fun v15 =>
 gQ v13 true (zad 38 v6 1) fun v16 =>
 gQ v13 true (zab H6 31 v16) fun v17 =>
 gQ v13 true (zan 31 16 18 v15 v17) fun v18 =>
 ak (zag v13 v18) fun v19 =>
 gQ v19 true (zad 38 v5 2) fun v20 =>
 gQ v19 true (zab H6 3 v20) fun v21 =>
 gQ v19 true (zad 38 v6 2) fun v22 =>
 gQ v19 true (zab H6 3 v22) fun v23 =>
 gQ v19 true (zan 3 23 25 v21 v23) fun v24 =>
 ak (zag v19 v24) fun v25 =>
 gQ v25 true (zad 38 v5 3) fun v26 =>
 gQ v25 true (zab H6 35 v26) fun v27 =>
 gQ v25 true (zad 38 v6 3) fun v28 =>
 gQ v25 true (zab H6 35 v28) fun v29 =>
 gQ v25 true (zan 35 30 32 v27 v29) fun v30 =>
 ak (zag v25 v30) fun v31 =>
 gQ v31 true (zad 38 v5 4) fun v32 =>
 gQ v31 true (zab H6 33 v32) fun v33 =>
 gQ v31 true (zad 38 v6 4) fun v34 =>
 gQ v31 true (zab H6 33 v34) fun v35 =>
 gQ v31 true (zan 33 37 39 v33 v35) fun v36 =>
 ak (zag v31 v36) fun v37 =>
 gQ v37 true (zad 38 v5 5) fun v38 =>
 gQ v37 true (zab H6 29 v38) fun v39 =>
 gQ v37 true (zad 38 v6 5) fun v40 =>
 gQ v37 true (zab H6 29 v40) fun v41 =>
 gQ v37 true (zan 29 44 46 v39 v41) fun v42 =>
 ak (zag v37 v42) fun v43 =>
 gQ v43 true (zad 38 v5 6) fun v44 =>
 gQ v43 true (zab H6 36 v44) fun v45 =>
 gQ v43 true (zad 38 v6 6) fun v46 =>
 gQ v43 true (zab H6 36 v46) fun v47 =>
 gW v43 true H6 (zaa true H6 54 226 [v45,v47]) fun v48 H7 =>
 ak (zag v43 v48) fun v49 =>
 Q v49 H7)
theorem Ly(x0 x1:AV)(H:ad)(Q:AV→ad→Prop)(h : ∀g,mF g x0 x1 H Q):b7 env Tryz.f211 0 [.code F8] [(0,x0),(1,x1)] H Q:=⟨fun g=>bc (live:=Me) (cut:=ME) (n:=500) (Eq.mp (by kernel_rfl) (h g))⟩
end Go.Proofs.YtmkmimgokagimaaGreat
