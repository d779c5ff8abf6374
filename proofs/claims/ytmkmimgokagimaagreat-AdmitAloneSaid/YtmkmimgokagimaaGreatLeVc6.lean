/-
  What is to be shown of each function, computed from its code. No statement of a seat is proved here.
-/
import Derived.Test.YtmkmimgokagimaaGreatLeTy
set_option linter.unusedVariables false
set_option maxRecDepth 1000000
namespace Go.Proofs.YtmkmimgokagimaaGreat
open Go.Ab
noncomputable def lR:Code:=(Tryz.f49.body).getD .skip
def GZ:Nat→Option (List Nat):=fun i=>none
def Hd:Nat→Bool:=fun i=>false
def lS(g:Nat→AV)(x0 x1 x2 x3:AV)(H:ad)(Q:AV→ad→Prop):Prop :=
 aL (zac H 4 25 x0) fun v1 H1 =>
 aL (zac H1 6 31 x2) fun v2 H2 =>
 aL (zac H2 7 3 x3) fun v3 H3 =>
 aL (zah H3 8 107) fun v4 H4 =>
 ak (zab H4 25 v1) fun v5 =>
 ak (zab H4 31 v2) fun v6 =>
 aL (zaa true H4 17 111 [v5,x1,v6]) fun v7 H5 =>
 ak (zaw v7 0) fun v8 =>
 ak (zaw v7 1) fun v9 =>
 aL (zah H5 10 185) fun v10 H6 =>
 aL (zal H6 185 v10 v8) fun v11 H7 =>
 ak (zak 42 20 0 v9) fun v12 =>
 gQ v12 true (zab H7 3 v3) fun v13 =>
 gQ v12 true (zas 3 23 0 v13) fun v14 =>
 gQ v12 true (zbj v14) fun v15 =>
 gQ v15 false (zab H7 3 v3) fun v16 =>
 gQ v15 false (zar 3 26 255 v16) fun v17 =>
 gQ v12 true (zam v15 v17) fun v18 =>
 ak (zag v12 v18) fun v19 =>
 br (some v19) (
 ak (aH env.P .neq 42 (Operand.tmp 30) (Operand.const (Value.int IntKind.i64 0)) (some (AV.v (Value.int IntKind.i64 8))) (some (AV.v (Value.int IntKind.i64 0)))) fun v20 =>
 br (some v20) (
 ak (zbp 107) fun v21 =>
 aL (zal H7 107 v4 v21) fun v22 H8 =>
 ak (zbt H8 v4 107) fun v23 =>
 Q (.tup [v23,(.v (.int .i64 8))]) H8) (
 ak (zab H7 185 v10) fun v21 =>
 ak (zab H7 3 v3) fun v22 =>
 ak (zad 31 v2 0) fun v23 =>
 ak (zab H7 29 v23) fun v24 =>
 aL (zaa true H7 38 112 [v21,v22,v24]) fun v25 H8 =>
 aL (zah H8 12 4) fun v26 H9 =>
 aL (zal H9 4 v26 v25) fun v27 H10 =>
 ak (fp (.func 114) (some []) (some [v26,v10,v3])) fun v28 =>
 aL (zaa true H10 40 115 [(.v (.int .i64 230))]) fun v29 H11 =>
 ak (zbo 193 0 v28 1 v29) fun v30 =>
 ak (fp (.func 116) (some []) (some [v10])) fun v31 =>
 aL (zaa true H11 43 115 [(.v (.int .i64 0))]) fun v32 H12 =>
 ak (zbo 193 0 v31 1 v32) fun v33 =>
 ak (fp (.func 117) (some []) (some [v10])) fun v34 =>
 aL (zaa true H12 46 115 [(.v (.int .i64 9))]) fun v35 H13 =>
 ak (zbo 193 0 v34 1 v35) fun v36 =>
 ak (fp (.func 119) (some []) (some [v3,v2])) fun v37 =>
 ak (zci 193 1 v37) fun v38 =>
 aL (fu env.P false true H13 (Ref.mk 0 50 (ad.gen H13 0 50) 0) 235 4 (some [(0,v30),(1,v33),(2,v36),(3,v38)])) fun v39 H14 =>
 aL (zaa true H14 51 113 [v39]) fun v40 H15 =>
 aL (zal H15 107 v4 v40) fun v41 H16 =>
 ak (zbt H16 v4 107) fun v42 =>
 Q (.tup [v42,(.v (.int .i64 0))]) H16)) (
 ak (zae 42 30 0 v9) fun v20 =>
 br (some v20) (
 ak (zbp 107) fun v21 =>
 aL (zal H7 107 v4 v21) fun v22 H8 =>
 ak (zbt H8 v4 107) fun v23 =>
 Q (.tup [v23,v9]) H8) (
 ak (zab H7 185 v10) fun v21 =>
 ak (zab H7 3 v3) fun v22 =>
 ak (zad 31 v2 0) fun v23 =>
 ak (zab H7 29 v23) fun v24 =>
 aL (zaa true H7 38 112 [v21,v22,v24]) fun v25 H8 =>
 aL (zah H8 12 4) fun v26 H9 =>
 aL (zal H9 4 v26 v25) fun v27 H10 =>
 ak (fp (.func 114) (some []) (some [v26,v10,v3])) fun v28 =>
 aL (zaa true H10 40 115 [(.v (.int .i64 230))]) fun v29 H11 =>
 ak (zbo 193 0 v28 1 v29) fun v30 =>
 ak (fp (.func 116) (some []) (some [v10])) fun v31 =>
 aL (zaa true H11 43 115 [(.v (.int .i64 0))]) fun v32 H12 =>
 ak (zbo 193 0 v31 1 v32) fun v33 =>
 ak (fp (.func 117) (some []) (some [v10])) fun v34 =>
 aL (zaa true H12 46 115 [(.v (.int .i64 9))]) fun v35 H13 =>
 ak (zbo 193 0 v34 1 v35) fun v36 =>
 ak (fp (.func 119) (some []) (some [v3,v2])) fun v37 =>
 ak (zci 193 1 v37) fun v38 =>
 aL (fu env.P false true H13 (Ref.mk 0 50 (ad.gen H13 0 50) 0) 235 4 (some [(0,v30),(1,v33),(2,v36),(3,v38)])) fun v39 H14 =>
 aL (zaa true H14 51 113 [v39]) fun v40 H15 =>
 aL (zal H15 107 v4 v40) fun v41 H16 =>
 ak (zbt H16 v4 107) fun v42 =>
 Q (.tup [v42,(.v (.int .i64 0))]) H16))
theorem nj(x0 x1 x2 x3:AV)(H:ad)(Q:AV→ad→Prop)(h : ∀g,lS g x0 x1 x2 x3 H Q):b7 env Tryz.f49 0 [.code lR] [(0,x0),(1,x1),(2,x2),(3,x3)] H Q:=⟨fun g=>bc (live:=GZ) (cut:=Hd) (n:=500) (Eq.mp (by kernel_rfl) (h g))⟩
noncomputable def jq:Code:=(Tryz.f52.body).getD .skip
def DR:Nat→Option (List Nat):=fun i=>none
def D5:Nat→Bool:=fun i=>false
def jr(g:Nat→AV)(x0 x1 x2 x3:AV)(H:ad)(Q:AV→ad→Prop):Prop :=
 aL (zac H 4 25 x0) fun v1 H1 =>
 aL (zac H1 5 26 x1) fun v2 H2 =>
 aL (zac H2 6 31 x2) fun v3 H3 =>
 aL (zac H3 7 38 x3) fun v4 H4 =>
 aL (zah H4 8 107) fun v5 H5 =>
 ak (zab H5 25 v1) fun v6 =>
 ak (zab H5 26 v2) fun v7 =>
 ak (zab H5 31 v3) fun v8 =>
 aL (zaa true H5 16 111 [v6,v7,v8]) fun v9 H6 =>
 ak (zaw v9 0) fun v10 =>
 ak (zaw v9 1) fun v11 =>
 aL (zah H6 10 185) fun v12 H7 =>
 aL (zal H7 185 v12 v10) fun v13 H8 =>
 ak (zak 42 19 0 v11) fun v14 =>
 br (some v14) (
 ak (zab H8 38 v4) fun v15 =>
 aL (zaa true H8 22 70 [v15]) fun v16 H9 =>
 ak (zae 42 23 0 v16) fun v17 =>
 br (some v17) (
 ak (zbp 107) fun v18 =>
 aL (zal H9 107 v5 v18) fun v19 H10 =>
 ak (zbt H10 v5 107) fun v20 =>
 Q (.tup [v20,v16]) H10) (
 ak (fp (.func 120) (some []) (some [v4,v3])) fun v18 =>
 aL (zaa true H9 28 115 [(.v (.int .i64 8))]) fun v19 H10 =>
 ak (zbo 193 0 v18 1 v19) fun v20 =>
 ak (fp (.func 122) (some []) (some [v12,v3])) fun v21 =>
 aL (zaa true H10 31 115 [(.v (.int .i64 230))]) fun v22 H11 =>
 ak (zbo 193 0 v21 1 v22) fun v23 =>
 ak (fp (.func 123) (some []) (some [v4,v12])) fun v24 =>
 ak (fp (.func 124) (some []) (some [v1,v2,v3,v4])) fun v25 =>
 ak (zbo 193 0 v24 1 v25) fun v26 =>
 ak (fp (.func 125) (some []) (some [v4,v12])) fun v27 =>
 aL (zaa true H11 37 115 [(.v (.int .i64 231))]) fun v28 H12 =>
 ak (zbo 193 0 v27 1 v28) fun v29 =>
 ak (fp (.func 126) (some []) (some [v12])) fun v30 =>
 aL (zaa true H12 40 115 [(.v (.int .i64 9))]) fun v31 H13 =>
 ak (zbo 193 0 v30 1 v31) fun v32 =>
 ak (fp (.func 127) (some []) (some [v1,v2,v4])) fun v33 =>
 ak (zci 193 1 v33) fun v34 =>
 aL (fu env.P false true H13 (Ref.mk 0 44 (ad.gen H13 0 44) 0) 235 6 (some [(0,v20),(1,v23),(2,v26),(3,v29),(4,v32),(5,v34)])) fun v35 H14 =>
 aL (zaa true H14 45 113 [v35]) fun v36 H15 =>
 aL (zal H15 107 v5 v36) fun v37 H16 =>
 ak (zbt H16 v5 107) fun v38 =>
 Q (.tup [v38,(.v (.int .i64 0))]) H16)) (
 ak (zae 42 23 0 v11) fun v15 =>
 br (some v15) (
 ak (zbp 107) fun v16 =>
 aL (zal H8 107 v5 v16) fun v17 H9 =>
 ak (zbt H9 v5 107) fun v18 =>
 Q (.tup [v18,v11]) H9) (
 ak (fp (.func 120) (some []) (some [v4,v3])) fun v16 =>
 aL (zaa true H8 28 115 [(.v (.int .i64 8))]) fun v17 H9 =>
 ak (zbo 193 0 v16 1 v17) fun v18 =>
 ak (fp (.func 122) (some []) (some [v12,v3])) fun v19 =>
 aL (zaa true H9 31 115 [(.v (.int .i64 230))]) fun v20 H10 =>
 ak (zbo 193 0 v19 1 v20) fun v21 =>
 ak (fp (.func 123) (some []) (some [v4,v12])) fun v22 =>
 ak (fp (.func 124) (some []) (some [v1,v2,v3,v4])) fun v23 =>
 ak (zbo 193 0 v22 1 v23) fun v24 =>
 ak (fp (.func 125) (some []) (some [v4,v12])) fun v25 =>
 aL (zaa true H10 37 115 [(.v (.int .i64 231))]) fun v26 H11 =>
 ak (zbo 193 0 v25 1 v26) fun v27 =>
 ak (fp (.func 126) (some []) (some [v12])) fun v28 =>
 aL (zaa true H11 40 115 [(.v (.int .i64 9))]) fun v29 H12 =>
 ak (zbo 193 0 v28 1 v29) fun v30 =>
 ak (fp (.func 127) (some []) (some [v1,v2,v4])) fun v31 =>
 ak (zci 193 1 v31) fun v32 =>
 aL (fu env.P false true H12 (Ref.mk 0 44 (ad.gen H12 0 44) 0) 235 6 (some [(0,v18),(1,v21),(2,v24),(3,v27),(4,v30),(5,v32)])) fun v33 H13 =>
 aL (zaa true H13 45 113 [v33]) fun v34 H14 =>
 aL (zal H14 107 v5 v34) fun v35 H15 =>
 ak (zbt H15 v5 107) fun v36 =>
 Q (.tup [v36,(.v (.int .i64 0))]) H15))
theorem lF(x0 x1 x2 x3:AV)(H:ad)(Q:AV→ad→Prop)(h : ∀g,jr g x0 x1 x2 x3 H Q):b7 env Tryz.f52 0 [.code jq] [(0,x0),(1,x1),(2,x2),(3,x3)] H Q:=⟨fun g=>bc (live:=DR) (cut:=D5) (n:=500) (Eq.mp (by kernel_rfl) (h g))⟩
noncomputable def mU:Code:=(Tryz.f59.body).getD .skip
def IJ:Nat→Option (List Nat):=fun i=>none
def I5:Nat→Bool:=fun i=>false
def mW(g:Nat→AV)(x0 x1 x2:AV)(H:ad)(Q:AV→ad→Prop):Prop :=
 aL (zac H 3 25 x0) fun v1 H1 =>
 aL (zac H1 5 31 x2) fun v2 H2 =>
 ak (zab H2 25 v1) fun v3 =>
 ak (zab H2 31 v2) fun v4 =>
 aL (zaa true H2 14 111 [v3,x1,v4]) fun v5 H3 =>
 ak (zaw v5 0) fun v6 =>
 ak (zaw v5 1) fun v7 =>
 aL (zah H3 8 185) fun v8 H4 =>
 aL (zal H4 185 v8 v6) fun v9 H5 =>
 ak (zae 42 17 0 v7) fun v10 =>
 br (some v10) (
 Q (.tup [(.v (.bool false)),v7]) H5) (
 ak (zad 185 v8 0) fun v11 =>
 ak (zad 73 v11 0) fun v12 =>
 ak (zab H5 4 v12) fun v13 =>
 gQ v13 true (zab H5 185 v8) fun v14 =>
 gQ v13 true (zad 185 v8 0) fun v15 =>
 gQ v13 true (zad 73 v15 1) fun v16 =>
 gQ v13 true (zab H5 3 v16) fun v17 =>
 gQ v13 true (zad 31 v2 0) fun v18 =>
 gQ v13 true (zab H5 29 v18) fun v19 =>
 gW v13 true H5 (zaa true H5 30 112 [v14,v17,v19]) fun v20 H6 =>
 ak (zag v13 v20) fun v21 =>
 gQ v21 true (zab H6 31 v2) fun v22 =>
 gW v21 true H6 (zaa true H6 34 91 [v22]) fun v23 H7 =>
 gQ v21 true (zak 42 34 0 v23) fun v24 =>
 ak (zag v21 v24) fun v25 =>
 Q (.tup [v25,(.v (.int .i64 0))]) H7)
theorem oV(x0 x1 x2:AV)(H:ad)(Q:AV→ad→Prop)(h : ∀g,mW g x0 x1 x2 H Q):b7 env Tryz.f59 0 [.code mU] [(0,x0),(1,x1),(2,x2)] H Q:=⟨fun g=>bc (live:=IJ) (cut:=I5) (n:=500) (Eq.mp (by kernel_rfl) (h g))⟩
noncomputable def oz:Code:=(Tryz.f61.body).getD .skip
def vu:Nat→Option (List Nat):=fun i=>none
def vJ:Nat→Bool:=fun i=>false
def oD(g:Nat→AV)(x0 x1:AV)(H:ad)(Q:AV→ad→Prop):Prop :=
 aL (zac H 2 107 x0) fun v1 H1 =>
 aL (zac H1 3 107 x1) fun v2 H2 =>
 ak (zad 107 v1 0) fun v3 =>
 ak (zab H2 42 v3) fun v4 =>
 ak (zad 107 v2 0) fun v5 =>
 ak (zab H2 42 v5) fun v6 =>
 ak (zan 42 6 8 v4 v6) fun v7 =>
 gQ v7 true (zad 107 v1 1) fun v8 =>
 gQ v7 true (zab H2 4 v8) fun v9 =>
 gQ v7 true (zad 107 v2 1) fun v10 =>
 gQ v7 true (zab H2 4 v10) fun v11 =>
 gQ v7 true (zan 4 12 14 v9 v11) fun v12 =>
 ak (zag v7 v12) fun v13 =>
 gQ v13 true (zad 107 v1 2) fun v14 =>
 gQ v13 true (zab H2 62 v14) fun v15 =>
 gQ v13 true (zad 107 v2 2) fun v16 =>
 gQ v13 true (zab H2 62 v16) fun v17 =>
 gW v13 true H2 (zaa true H2 22 80 [v15,v17]) fun v18 H3 =>
 ak (zag v13 v18) fun v19 =>
 Q v19 H3
theorem u7(x0 x1:AV)(H:ad)(Q:AV→ad→Prop)(h : ∀g,oD g x0 x1 H Q):b7 env Tryz.f61 0 [.code oz] [(0,x0),(1,x1)] H Q:=⟨fun g=>bc (live:=vu) (cut:=vJ) (n:=500) (Eq.mp (by kernel_rfl) (h g))⟩
noncomputable def tS:Code:=(Tryz.f111.body).getD .skip
def Ks:Nat→Option (List Nat):=fun i=>none
def K9:Nat→Bool:=fun i=>false
def uA(g:Nat→AV)(x0 x1 x2:AV)(H:ad)(Q:AV→ad→Prop):Prop :=
 aL (zac H 3 25 x0) fun v1 H1 =>
 aL (zac H1 5 31 x2) fun v2 H2 =>
 aL (zah H2 6 185) fun v3 H3 =>
 ak (zab H3 25 v1) fun v4 =>
 ak (zab H3 31 v2) fun v5 =>
 aL (zaa true H3 12 27 [v4,x1,v5]) fun v6 H4 =>
 ak (zaw v6 0) fun v7 =>
 ak (zaw v6 1) fun v8 =>
 ak (zad 185 v3 0) fun v9 =>
 aL (zal H4 73 v9 v7) fun v10 H5 =>
 ak (zae 42 16 0 v8) fun v11 =>
 br (some v11) (
 ak (zbp 185) fun v12 =>
 aL (zal H5 185 v3 v12) fun v13 H6 =>
 ak (zbt H6 v3 185) fun v14 =>
 Q (.tup [v14,v8]) H6) (
 ak (zab H5 25 v1) fun v12 =>
 aL (zaa true H5 23 25 [v12,x1]) fun v13 H6 =>
 ak (zaw v13 0) fun v14 =>
 ak (zaw v13 1) fun v15 =>
 ak (zad 185 v3 1) fun v16 =>
 aL (zal H6 25 v16 v14) fun v17 H7 =>
 ak (zab H7 25 v1) fun v18 =>
 ak (zad 31 v2 0) fun v19 =>
 ak (zab H7 29 v19) fun v20 =>
 aL (zaa true H7 32 31 [v18,x1,v20]) fun v21 H8 =>
 ak (zaw v21 0) fun v22 =>
 ak (zaw v21 1) fun v23 =>
 ak (zad 185 v3 2) fun v24 =>
 aL (zal H8 81 v24 v22) fun v25 H9 =>
 ak (zab H9 25 v1) fun v26 =>
 ak (zad 31 v2 0) fun v27 =>
 ak (zab H9 29 v27) fun v28 =>
 aL (zaa true H9 40 44 [v26,v28]) fun v29 H10 =>
 ak (zaw v29 0) fun v30 =>
 ak (zaw v29 1) fun v31 =>
 ak (zad 185 v3 3) fun v32 =>
 aL (zal H10 81 v32 v30) fun v33 H11 =>
 ak (zab H11 185 v3) fun v34 =>
 aL (zal H11 185 v3 v34) fun v35 H12 =>
 ak (zbt H12 v3 185) fun v36 =>
 Q (.tup [v36,(.v (.int .i64 0))]) H12)
theorem xI(x0 x1 x2:AV)(H:ad)(Q:AV→ad→Prop)(h : ∀g,uA g x0 x1 x2 H Q):b7 env Tryz.f111 0 [.code tS] [(0,x0),(1,x1),(2,x2)] H Q:=⟨fun g=>bc (live:=Ks) (cut:=K9) (n:=500) (Eq.mp (by kernel_rfl) (h g))⟩
noncomputable def jW:Code:=(Tryz.f112.body).getD .skip
def pG:Nat→Option (List Nat):=fun i=>none
def pJ:Nat→Bool:=fun i=>false
def fU(g:Nat→AV)(x0 x1 x2:AV)(H:ad)(Q:AV→ad→Prop):Prop :=
 aL (zac H 3 185 x0) fun v1 H1 =>
 aL (zac H1 5 29 x2) fun v2 H2 =>
 ak (zad 185 v1 1) fun v3 =>
 ak (zab H2 25 v3) fun v4 =>
 ak (zab H2 29 v2) fun v5 =>
 aL (zaa true H2 14 174 [v4,x1,v5]) fun v6 H3 =>
 ak (zaw v6 0) fun v7 =>
 ak (zaw v6 1) fun v8 =>
 ak (zak 42 17 0 v8) fun v9 =>
 gQ v9 true (zbj v7) fun v10 =>
 ak (zag v9 v10) fun v11 =>
 Q v11 H3
theorem pE(x0 x1 x2:AV)(H:ad)(Q:AV→ad→Prop)(h : ∀g,fU g x0 x1 x2 H Q):b7 env Tryz.f112 0 [.code jW] [(0,x0),(1,x1),(2,x2)] H Q:=⟨fun g=>bc (live:=pG) (cut:=pJ) (n:=500) (Eq.mp (by kernel_rfl) (h g))⟩
noncomputable def pq:Code:=(Tryz.f113.body).getD .skip
noncomputable def pZ:List Item:=(cE 2 400 [.code pq]).getD []
def xX:Nat→Option (List Nat):=fun i=>cond (Nat.beq i 2) (some [2,7,5,6]) (none)
def yh:Nat→Bool:=fun i=>false
def sN(g:Nat→AV)(x0:AV)(H:ad)(Q:AV→ad→Prop):Prop :=
 aL (zah H 2 107) fun v1 H1 =>
 ak (zai H1 6 235 x0) fun v2 =>
  b7 env Tryz.f113 0 pZ [(2,v1),(7,(.v (.int .i64 0))),(5,x0),(6,v2)] H1 Q
theorem xJ(x0:AV)(H:ad)(Q:AV→ad→Prop)(h : ∀g,sN g x0 H Q):b7 env Tryz.f113 0 [.code pq] [(0,x0)] H Q:=⟨fun g=>bc (live:=xX) (cut:=yh) (n:=500) (Eq.mp (by kernel_rfl) (h g))⟩
def bZ(g:Nat→AV)(x2 x7 x5 x6:AV)(H:ad)(Q:AV→ad→Prop):Prop :=
 ak (zap 3 7 6 x7 x6) fun v1 =>
 br (some v1) (
 ak (zau H 235 x5 x7) fun v2 =>
 ak (zab H 193 v2) fun v3 =>
 aL (zah H 4 193) fun v4 H1 =>
 aL (zal H1 193 v4 v3) fun v5 H2 =>
 ak (zad 193 v4 0) fun v6 =>
 ak (zab H2 90 v6) fun v7 =>
 aL (zcq H2 13 v7) fun v8 H3 =>
 br (some v8) (
 ak (zad 193 v4 1) fun v9 =>
 ak (zab H3 190 v9) fun v10 =>
 aL (zcq H3 16 v10) fun v11 H4 =>
 aL (zal H4 107 x2 v11) fun v12 H5 =>
 ak (zbt H5 x2 107) fun v13 =>
 Q v13 H5) (
 ak (zaf 3 7 1 x7) fun v9 =>
  b7 env Tryz.f113 0 pZ [(2,x2),(7,v9),(5,x5),(6,x6)] H3 Q)) (
 ak (zbp 107) fun v2 =>
 aL (zal H 107 x2 v2) fun v3 H1 =>
 ak (zbt H1 x2 107) fun v4 =>
 Q v4 H1)
theorem ei(x2 x7 x5 x6:AV)(H:ad)(Q:AV→ad→Prop)(h : ∀g,bZ g x2 x7 x5 x6 H Q):b7 env Tryz.f113 0 pZ [(2,x2),(7,x7),(5,x5),(6,x6)] H Q:=dG fun g=>bc (live:=xX) (cut:=yh) (n:=500) (Eq.mp (by kernel_rfl) (h g))
noncomputable def xc:Code:=(Tryz.f114.body).getD .skip
def DV:Nat→Option (List Nat):=fun i=>none
def D9:Nat→Bool:=fun i=>false
def xv(g:Nat→AV)(x0 x1 x2:AV)(H:ad)(Q:AV→ad→Prop):Prop :=
 ak (zab H 4 x0) fun v1 =>
 ak (zbb v1) fun v2 =>
 gQ v2 false (zad 185 x1 0) fun v3 =>
 gQ v2 false (zad 73 v3 0) fun v4 =>
 gQ v2 false (zab H 4 v4) fun v5 =>
 gQ v2 false (zbj v5) fun v6 =>
 gQ v6 true (zad 185 x1 0) fun v7 =>
 gQ v6 true (zad 73 v7 1) fun v8 =>
 gQ v6 true (zab H 3 v8) fun v9 =>
 gQ v6 true (zab H 3 x2) fun v10 =>
 gQ v6 true (zav 3 13 14 v9 v10) fun v11 =>
 gQ v2 false (zag v6 v11) fun v12 =>
 ak (zam v2 v12) fun v13 =>
 Q v13 H
theorem DG(x0 x1 x2:AV)(H:ad)(Q:AV→ad→Prop)(h : ∀g,xv g x0 x1 x2 H Q):b7 env Tryz.f114 0 [.code xc] [(0,x0),(1,x1),(2,x2)] H Q:=⟨fun g=>bc (live:=DV) (cut:=D9) (n:=500) (Eq.mp (by kernel_rfl) (h g))⟩
noncomputable def zL:Code:=(Tryz.f115.body).getD .skip
def GY:Nat→Option (List Nat):=fun i=>none
def Hc:Nat→Bool:=fun i=>false
def zT(g:Nat→AV)(x0:AV)(H:ad)(Q:AV→ad→Prop):Prop :=
 aL (zac H 1 42 x0) fun v1 H1 =>
 ak (fp (.func 175) (some []) (some [v1])) fun v2 =>
 Q v2 H1
theorem GC(x0:AV)(H:ad)(Q:AV→ad→Prop)(h : ∀g,zT g x0 H Q):b7 env Tryz.f115 0 [.code zL] [(0,x0)] H Q:=⟨fun g=>bc (live:=GY) (cut:=Hc) (n:=500) (Eq.mp (by kernel_rfl) (h g))⟩
noncomputable def xb:Code:=(Tryz.f116.body).getD .skip
def DU:Nat→Option (List Nat):=fun i=>none
def D8:Nat→Bool:=fun i=>false
def xt(g:Nat→AV)(x0:AV)(H:ad)(Q:AV→ad→Prop):Prop :=
 ak (zad 185 x0 0) fun v1 =>
 ak (zad 73 v1 0) fun v2 =>
 ak (zab H 4 v2) fun v3 =>
 Q v3 H
theorem DF(x0:AV)(H:ad)(Q:AV→ad→Prop)(h : ∀g,xt g x0 H Q):b7 env Tryz.f116 0 [.code xb] [(0,x0)] H Q:=⟨fun g=>bc (live:=DU) (cut:=D8) (n:=500) (Eq.mp (by kernel_rfl) (h g))⟩
noncomputable def xa:Code:=(Tryz.f117.body).getD .skip
def DT:Nat→Option (List Nat):=fun i=>none
def D7:Nat→Bool:=fun i=>false
def xp(g:Nat→AV)(x0:AV)(H:ad)(Q:AV→ad→Prop):Prop :=
 ak (zad 185 x0 2) fun v1 =>
 ak (zad 81 v1 1) fun v2 =>
 ak (zab H 3 v2) fun v3 =>
 ak (zad 185 x0 3) fun v4 =>
 ak (zad 81 v4 1) fun v5 =>
 ak (zab H 3 v5) fun v6 =>
 ak (zbm 3 4 7 v3 v6) fun v7 =>
 Q v7 H
theorem DE(x0:AV)(H:ad)(Q:AV→ad→Prop)(h : ∀g,xp g x0 H Q):b7 env Tryz.f117 0 [.code xa] [(0,x0)] H Q:=⟨fun g=>bc (live:=DT) (cut:=D7) (n:=500) (Eq.mp (by kernel_rfl) (h g))⟩
noncomputable def w8:Code:=(Tryz.f118.body).getD .skip
def DQ:Nat→Option (List Nat):=fun i=>none
def D4:Nat→Bool:=fun i=>false
def xl(g:Nat→AV)(H:ad)(Q:AV→ad→Prop):Prop :=
 Q (.v (.bool true)) H
theorem DC(H:ad)(Q:AV→ad→Prop)(h : ∀g,xl g  H Q):b7 env Tryz.f118 0 [.code w8] [] H Q:=⟨fun g=>bc (live:=DQ) (cut:=D4) (n:=500) (Eq.mp (by kernel_rfl) (h g))⟩
noncomputable def w9:Code:=(Tryz.f119.body).getD .skip
def DS:Nat→Option (List Nat):=fun i=>none
def D6:Nat→Bool:=fun i=>false
def xn(g:Nat→AV)(x0 x1:AV)(H:ad)(Q:AV→ad→Prop):Prop :=
 aL (zah H 2 107) fun v1 H1 =>
 ak (zab H1 3 x0) fun v2 =>
 ak (zab H1 31 x1) fun v3 =>
 ak (zcp 38 1 v3) fun v4 =>
 ak (ch env.P 62 (some [(0,(a8 1)),(1,v2),(2,v4)])) fun v5 =>
 ak (ch env.P 107 (some [(1,(.v (.bool true))),(2,v5)])) fun v6 =>
 aL (zal H1 107 v1 v6) fun v7 H2 =>
 ak (zbt H2 v1 107) fun v8 =>
 Q v8 H2
theorem DD(x0 x1:AV)(H:ad)(Q:AV→ad→Prop)(h : ∀g,xn g x0 x1 H Q):b7 env Tryz.f119 0 [.code w9] [(0,x0),(1,x1)] H Q:=⟨fun g=>bc (live:=DS) (cut:=D6) (n:=500) (Eq.mp (by kernel_rfl) (h g))⟩
noncomputable def tZ:Code:=(Tryz.f120.body).getD .skip
def Bp:Nat→Option (List Nat):=fun i=>none
def BU:Nat→Bool:=fun i=>false
def jK(g:Nat→AV)(x0 x1:AV)(H:ad)(Q:AV→ad→Prop):Prop :=
 ak (zad 38 x0 1) fun v1 =>
 ak (zab H 31 v1) fun v2 =>
 ak (zab H 31 x1) fun v3 =>
 ak (zav 31 4 5 v2 v3) fun v4 =>
 gQ v4 false (zab H 38 x0) fun v5 =>
 gW v4 false H (zaa true H 9 121 [v5]) fun v6 H1 =>
 gQ v4 false (zbb v6) fun v7 =>
 ak (zam v4 v7) fun v8 =>
 Q v8 H1
theorem AL(x0 x1:AV)(H:ad)(Q:AV→ad→Prop)(h : ∀g,jK g x0 x1 H Q):b7 env Tryz.f120 0 [.code tZ] [(0,x0),(1,x1)] H Q:=⟨fun g=>bc (live:=Bp) (cut:=BU) (n:=500) (Eq.mp (by kernel_rfl) (h g))⟩
noncomputable def tY:Code:=(Tryz.f122.body).getD .skip
def Bo:Nat→Option (List Nat):=fun i=>none
def BT:Nat→Bool:=fun i=>false
def uG(g:Nat→AV)(x0 x1:AV)(H:ad)(Q:AV→ad→Prop):Prop :=
 ak (zad 185 x0 0) fun v1 =>
 ak (zad 73 v1 0) fun v2 =>
 ak (zab H 4 v2) fun v3 =>
 ak (zbb v3) fun v4 =>
 gQ v4 false (zab H 185 x0) fun v5 =>
 gQ v4 false (zad 185 x0 0) fun v6 =>
 gQ v4 false (zad 73 v6 1) fun v7 =>
 gQ v4 false (zab H 3 v7) fun v8 =>
 gQ v4 false (zad 31 x1 0) fun v9 =>
 gQ v4 false (zab H 29 v9) fun v10 =>
 gW v4 false H (zaa true H 14 112 [v5,v8,v10]) fun v11 H1 =>
 gQ v4 false (zbb v11) fun v12 =>
 ak (zam v4 v12) fun v13 =>
 Q v13 H1
theorem AK(x0 x1:AV)(H:ad)(Q:AV→ad→Prop)(h : ∀g,uG g x0 x1 H Q):b7 env Tryz.f122 0 [.code tY] [(0,x0),(1,x1)] H Q:=⟨fun g=>bc (live:=Bo) (cut:=BT) (n:=500) (Eq.mp (by kernel_rfl) (h g))⟩
noncomputable def tX:Code:=(Tryz.f123.body).getD .skip
def Bn:Nat→Option (List Nat):=fun i=>none
def BS:Nat→Bool:=fun i=>false
def uF(g:Nat→AV)(x0 x1:AV)(H:ad)(Q:AV→ad→Prop):Prop :=
 ak (zad 38 x0 2) fun v1 =>
 ak (zab H 3 v1) fun v2 =>
 ak (zad 185 x1 0) fun v3 =>
 ak (zad 73 v3 2) fun v4 =>
 ak (zab H 3 v4) fun v5 =>
 ak (zcn 3 4 7 v2 v5) fun v6 =>
 Q v6 H
theorem AJ(x0 x1:AV)(H:ad)(Q:AV→ad→Prop)(h : ∀g,uF g x0 x1 H Q):b7 env Tryz.f123 0 [.code tX] [(0,x0),(1,x1)] H Q:=⟨fun g=>bc (live:=Bn) (cut:=BS) (n:=500) (Eq.mp (by kernel_rfl) (h g))⟩
noncomputable def tW:Code:=(Tryz.f124.body).getD .skip
def Bm:Nat→Option (List Nat):=fun i=>none
def BR:Nat→Bool:=fun i=>false
def uE(g:Nat→AV)(x0 x1 x2 x3:AV)(H:ad)(Q:AV→ad→Prop):Prop :=
 aL (zah H 4 107) fun v1 H1 =>
 ak (zab H1 25 x0) fun v2 =>
 ak (zab H1 26 x1) fun v3 =>
 ak (zab H1 31 x2) fun v4 =>
 ak (zad 38 x3 2) fun v5 =>
 ak (zab H1 3 v5) fun v6 =>
 aL (zaa true H1 13 29 [v2,v3,v4,v6]) fun v7 H2 =>
 ak (zaw v7 0) fun v8 =>
 ak (zaw v7 1) fun v9 =>
 ak (zcp 107 0 v8) fun v10 =>
 aL (zal H2 107 v1 v10) fun v11 H3 =>
 ak (zbt H3 v1 107) fun v12 =>
 Q v12 H3
theorem AI(x0 x1 x2 x3:AV)(H:ad)(Q:AV→ad→Prop)(h : ∀g,uE g x0 x1 x2 x3 H Q):b7 env Tryz.f124 0 [.code tW] [(0,x0),(1,x1),(2,x2),(3,x3)] H Q:=⟨fun g=>bc (live:=Bm) (cut:=BR) (n:=500) (Eq.mp (by kernel_rfl) (h g))⟩
noncomputable def tV:Code:=(Tryz.f125.body).getD .skip
def Bl:Nat→Option (List Nat):=fun i=>none
def BQ:Nat→Bool:=fun i=>false
def uD(g:Nat→AV)(x0 x1:AV)(H:ad)(Q:AV→ad→Prop):Prop :=
 ak (zad 38 x0 2) fun v1 =>
 ak (zab H 3 v1) fun v2 =>
 ak (zad 185 x1 0) fun v3 =>
 ak (zad 73 v3 2) fun v4 =>
 ak (zab H 3 v4) fun v5 =>
 ak (zaf 3 7 1 v5) fun v6 =>
 ak (zco 3 4 8 v2 v6) fun v7 =>
 Q v7 H
theorem AH(x0 x1:AV)(H:ad)(Q:AV→ad→Prop)(h : ∀g,uD g x0 x1 H Q):b7 env Tryz.f125 0 [.code tV] [(0,x0),(1,x1)] H Q:=⟨fun g=>bc (live:=Bl) (cut:=BQ) (n:=500) (Eq.mp (by kernel_rfl) (h g))⟩
noncomputable def tU:Code:=(Tryz.f126.body).getD .skip
def Bk:Nat→Option (List Nat):=fun i=>none
def BP:Nat→Bool:=fun i=>false
def uC(g:Nat→AV)(x0:AV)(H:ad)(Q:AV→ad→Prop):Prop :=
 ak (zad 185 x0 2) fun v1 =>
 ak (zad 81 v1 2) fun v2 =>
 ak (zab H 3 v2) fun v3 =>
 ak (zad 185 x0 3) fun v4 =>
 ak (zad 81 v4 2) fun v5 =>
 ak (zab H 3 v5) fun v6 =>
 ak (zbm 3 4 7 v3 v6) fun v7 =>
 Q v7 H
theorem AG(x0:AV)(H:ad)(Q:AV→ad→Prop)(h : ∀g,uC g x0 H Q):b7 env Tryz.f126 0 [.code tU] [(0,x0)] H Q:=⟨fun g=>bc (live:=Bk) (cut:=BP) (n:=500) (Eq.mp (by kernel_rfl) (h g))⟩
noncomputable def tT:Code:=(Tryz.f127.body).getD .skip
def Bj:Nat→Option (List Nat):=fun i=>none
def BO:Nat→Bool:=fun i=>false
def uB(g:Nat→AV)(x0 x1 x2:AV)(H:ad)(Q:AV→ad→Prop):Prop :=
 aL (zah H 3 107) fun v1 H1 =>
 ak (zab H1 25 x0) fun v2 =>
 ak (zab H1 26 x1) fun v3 =>
 ak (zab H1 38 x2) fun v4 =>
 aL (zaa true H1 10 17 [v2,v3,v4]) fun v5 H2 =>
 ak (zaw v5 0) fun v6 =>
 ak (zaw v5 1) fun v7 =>
 ak (zab H2 38 x2) fun v8 =>
 aL (zaa true H2 15 108 [v8]) fun v9 H3 =>
 ak (ch env.P 62 (some [(0,(a8 2)),(2,v9),(3,v6)])) fun v10 =>
 ak (ch env.P 107 (some [(0,v6),(1,(.v (.bool true))),(2,v10)])) fun v11 =>
 aL (zal H3 107 v1 v11) fun v12 H4 =>
 ak (zbt H4 v1 107) fun v13 =>
 Q v13 H4
theorem AF(x0 x1 x2:AV)(H:ad)(Q:AV→ad→Prop)(h : ∀g,uB g x0 x1 x2 H Q):b7 env Tryz.f127 0 [.code tT] [(0,x0),(1,x1),(2,x2)] H Q:=⟨fun g=>bc (live:=Bj) (cut:=BO) (n:=500) (Eq.mp (by kernel_rfl) (h g))⟩
noncomputable def w7:Code:=(Tryz.f175.body).getD .skip
def DP:Nat→Option (List Nat):=fun i=>none
def D3:Nat→Bool:=fun i=>false
def xk(g:Nat→AV)(x0:AV)(H:ad)(Q:AV→ad→Prop):Prop :=
 aL (zah H 1 107) fun v1 H1 =>
 ak (zab H1 42 x0) fun v2 =>
 ak (zcp 107 0 v2) fun v3 =>
 aL (zal H1 107 v1 v3) fun v4 H2 =>
 ak (zbt H2 v1 107) fun v5 =>
 Q v5 H2
theorem DB(x0:AV)(H:ad)(Q:AV→ad→Prop)(h : ∀g,xk g x0 H Q):b7 env Tryz.f175 0 [.code w7] [(0,x0)] H Q:=⟨fun g=>bc (live:=DP) (cut:=D3) (n:=500) (Eq.mp (by kernel_rfl) (h g))⟩
end Go.Proofs.YtmkmimgokagimaaGreat
