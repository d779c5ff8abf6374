/-
  What is to be shown of each function, computed from its code. No statement of a seat is proved here.
-/
import Derived.Test.YtmkmimgokagimaaGreatLeTy
set_option linter.unusedVariables false
set_option maxRecDepth 1000000
namespace Go.Proofs.YtmkmimgokagimaaGreat
open Go.Ab
local notation:max "©" b:max h:max n:max f:max a:max=>aG env b (limf env) (limt env 0) h (Ref.mk 0 n (Heap.gen h 0 n) 0) (some (AV.fn (Fn.func f) [] [])) a
local notation:max "§" h:max n:max=>Ref.mk 0 n (Heap.gen h 0 n) 0
local notation:max "~" a:max=>some a
local notation:max "¥" h:max=>Heap.get h
local notation:max "¤" n:max=>(Operand.const (Value.int IntKind.i64 n))
local notation:max "£" n:max=>some (AV.v (Value.int IntKind.i64 n))
local notation:max "¡" => some (AV.v (Value.bool true))
local notation:max "¿" => some (AV.v (Value.bool false))
local notation:max "°" n:max=>(Operand.tmp n)
local notation:max "¢" => env.P
noncomputable def jh:Code:=(Tryz.f49.body).getD .skip
def CB:Nat→Option (List Nat):=fun i=>none
def CW:Nat→Bool:=fun i=>false
def ji(g:Nat→AV)(x0 x1 x2 x3:AV)(H:Heap)(Q:AV→Heap→Prop):Prop :=
 doW (nRes H §H 4 (qBox ¢ §H 4 25 ~x0)) fun v1 H1 =>
 doW (nRes H1 §H1 6 (qBox ¢ §H1 6 31 ~x2)) fun v2 H2 =>
 doW (nRes H2 §H2 7 (qBox ¢ §H2 7 3 ~x3)) fun v3 H3 =>
 doW (nRes H3 §H3 8 (bq ¢ §H3 8 107)) fun v4 H4 =>
 doQ (ai ¢ ¥H4 25 ~v1) fun v5 =>
 doQ (ai ¢ ¥H4 31 ~v2) fun v6 =>
 doW (©true H4 17 111 [v5,x1,v6]) fun v7 H5 =>
 doQ (aq ~v7 0) fun v8 =>
 doQ (aq ~v7 1) fun v9 =>
 doW (nRes H5 §H5 10 (bq ¢ §H5 10 185)) fun v10 H6 =>
 doW (aC ¢ H6 185 ~v10 ~v8) fun v11 H7 =>
 doQ (qBin ¢ .eql 42 °20 ¤0 ~v9 £0) fun v12 =>
 gQ v12 true (ai ¢ ¥H7 3 ~v3) fun v13 =>
 gQ v12 true (qBin ¢ .lss 3 °23 ¤0 ~v13 £0) fun v14 =>
 gQ v12 true (qVal ~v14) fun v15 =>
 gQ v15 false (ai ¢ ¥H7 3 ~v3) fun v16 =>
 gQ v15 false (qBin ¢ .gtr 3 °26 ¤255 ~v16 £255) fun v17 =>
 gQ v12 true (aM ~v15 ¡ ~v17) fun v18 =>
 doQ (aM ~v12 ~v18 ¿) fun v19 =>
 br ~v19 (
 doQ (qBin ¢ .neq 42 °30 ¤0 £8 £0) fun v20 =>
 br ~v20 (
 doQ (bI ¢ 107 (some [])) fun v21 =>
 doW (aC ¢ H7 107 ~v4 ~v21) fun v22 H8 =>
 doQ (ba ¢ H8 v4 107) fun v23 =>
 Q (.tup [v23,(.v (.int .i64 8))]) H8) (
 doQ (ai ¢ ¥H7 185 ~v10) fun v21 =>
 doQ (ai ¢ ¥H7 3 ~v3) fun v22 =>
 doQ (aa ¢ 31 ~v2 0) fun v23 =>
 doQ (ai ¢ ¥H7 29 ~v23) fun v24 =>
 doW (©true H7 38 112 [v21,v22,v24]) fun v25 H8 =>
 doW (nRes H8 §H8 12 (bq ¢ §H8 12 4)) fun v26 H9 =>
 doW (aC ¢ H9 4 ~v26 ~v25) fun v27 H10 =>
 doQ (gI (.func 114) (some []) (some [v26,v10,v3])) fun v28 =>
 doW (©true H10 40 115 [(.v (.int .i64 230))]) fun v29 H11 =>
 doQ (bI ¢ 193 (some [(0,v28),(1,v29)])) fun v30 =>
 doQ (gI (.func 116) (some []) (some [v10])) fun v31 =>
 doW (©true H11 43 115 [(.v (.int .i64 0))]) fun v32 H12 =>
 doQ (bI ¢ 193 (some [(0,v31),(1,v32)])) fun v33 =>
 doQ (gI (.func 117) (some []) (some [v10])) fun v34 =>
 doW (©true H12 46 115 [(.v (.int .i64 9))]) fun v35 H13 =>
 doQ (bI ¢ 193 (some [(0,v34),(1,v35)])) fun v36 =>
 doQ (gI (.func 119) (some []) (some [v3,v2])) fun v37 =>
 doQ (bI ¢ 193 (some [(0,(.fn (.func 118) [] [])),(1,v37)])) fun v38 =>
 doW (gm ¢ false true H13 §H13 50 235 4 (some [(0,v30),(1,v33),(2,v36),(3,v38)])) fun v39 H14 =>
 doW (©true H14 51 113 [v39]) fun v40 H15 =>
 doW (aC ¢ H15 107 ~v4 ~v40) fun v41 H16 =>
 doQ (ba ¢ H16 v4 107) fun v42 =>
 Q (.tup [v42,(.v (.int .i64 0))]) H16)) (
 doQ (qBin ¢ .neq 42 °30 ¤0 ~v9 £0) fun v20 =>
 br ~v20 (
 doQ (bI ¢ 107 (some [])) fun v21 =>
 doW (aC ¢ H7 107 ~v4 ~v21) fun v22 H8 =>
 doQ (ba ¢ H8 v4 107) fun v23 =>
 Q (.tup [v23,v9]) H8) (
 doQ (ai ¢ ¥H7 185 ~v10) fun v21 =>
 doQ (ai ¢ ¥H7 3 ~v3) fun v22 =>
 doQ (aa ¢ 31 ~v2 0) fun v23 =>
 doQ (ai ¢ ¥H7 29 ~v23) fun v24 =>
 doW (©true H7 38 112 [v21,v22,v24]) fun v25 H8 =>
 doW (nRes H8 §H8 12 (bq ¢ §H8 12 4)) fun v26 H9 =>
 doW (aC ¢ H9 4 ~v26 ~v25) fun v27 H10 =>
 doQ (gI (.func 114) (some []) (some [v26,v10,v3])) fun v28 =>
 doW (©true H10 40 115 [(.v (.int .i64 230))]) fun v29 H11 =>
 doQ (bI ¢ 193 (some [(0,v28),(1,v29)])) fun v30 =>
 doQ (gI (.func 116) (some []) (some [v10])) fun v31 =>
 doW (©true H11 43 115 [(.v (.int .i64 0))]) fun v32 H12 =>
 doQ (bI ¢ 193 (some [(0,v31),(1,v32)])) fun v33 =>
 doQ (gI (.func 117) (some []) (some [v10])) fun v34 =>
 doW (©true H12 46 115 [(.v (.int .i64 9))]) fun v35 H13 =>
 doQ (bI ¢ 193 (some [(0,v34),(1,v35)])) fun v36 =>
 doQ (gI (.func 119) (some []) (some [v3,v2])) fun v37 =>
 doQ (bI ¢ 193 (some [(0,(.fn (.func 118) [] [])),(1,v37)])) fun v38 =>
 doW (gm ¢ false true H13 §H13 50 235 4 (some [(0,v30),(1,v33),(2,v36),(3,v38)])) fun v39 H14 =>
 doW (©true H14 51 113 [v39]) fun v40 H15 =>
 doW (aC ¢ H15 107 ~v4 ~v40) fun v41 H16 =>
 doQ (ba ¢ H16 v4 107) fun v42 =>
 Q (.tup [v42,(.v (.int .i64 0))]) H16))
theorem kM(x0 x1 x2 x3:AV)(H:Heap)(Q:AV→Heap→Prop)(h : ∀g,ji g x0 x1 x2 x3 H Q):GoL env Tryz.f49 0 [.code jh] [(0,x0),(1,x1),(2,x2),(3,x3)] H Q:=⟨fun g=>aJ (live:=CB) (cut:=CW) (n:=500) (Eq.mp (by kernel_rfl) (h g))⟩
noncomputable def gB:Code:=(Tryz.f52.body).getD .skip
def zD:Nat→Option (List Nat):=fun i=>none
def Ac:Nat→Bool:=fun i=>false
def gH(g:Nat→AV)(x0 x1 x2 x3:AV)(H:Heap)(Q:AV→Heap→Prop):Prop :=
 doW (nRes H §H 4 (qBox ¢ §H 4 25 ~x0)) fun v1 H1 =>
 doW (nRes H1 §H1 5 (qBox ¢ §H1 5 26 ~x1)) fun v2 H2 =>
 doW (nRes H2 §H2 6 (qBox ¢ §H2 6 31 ~x2)) fun v3 H3 =>
 doW (nRes H3 §H3 7 (qBox ¢ §H3 7 38 ~x3)) fun v4 H4 =>
 doW (nRes H4 §H4 8 (bq ¢ §H4 8 107)) fun v5 H5 =>
 doQ (ai ¢ ¥H5 25 ~v1) fun v6 =>
 doQ (ai ¢ ¥H5 26 ~v2) fun v7 =>
 doQ (ai ¢ ¥H5 31 ~v3) fun v8 =>
 doW (©true H5 16 111 [v6,v7,v8]) fun v9 H6 =>
 doQ (aq ~v9 0) fun v10 =>
 doQ (aq ~v9 1) fun v11 =>
 doW (nRes H6 §H6 10 (bq ¢ §H6 10 185)) fun v12 H7 =>
 doW (aC ¢ H7 185 ~v12 ~v10) fun v13 H8 =>
 doQ (qBin ¢ .eql 42 °19 ¤0 ~v11 £0) fun v14 =>
 br ~v14 (
 doQ (ai ¢ ¥H8 38 ~v4) fun v15 =>
 doW (©true H8 22 70 [v15]) fun v16 H9 =>
 doQ (qBin ¢ .neq 42 °23 ¤0 ~v16 £0) fun v17 =>
 br ~v17 (
 doQ (bI ¢ 107 (some [])) fun v18 =>
 doW (aC ¢ H9 107 ~v5 ~v18) fun v19 H10 =>
 doQ (ba ¢ H10 v5 107) fun v20 =>
 Q (.tup [v20,v16]) H10) (
 doQ (gI (.func 120) (some []) (some [v4,v3])) fun v18 =>
 doW (©true H9 28 115 [(.v (.int .i64 8))]) fun v19 H10 =>
 doQ (bI ¢ 193 (some [(0,v18),(1,v19)])) fun v20 =>
 doQ (gI (.func 122) (some []) (some [v12,v3])) fun v21 =>
 doW (©true H10 31 115 [(.v (.int .i64 230))]) fun v22 H11 =>
 doQ (bI ¢ 193 (some [(0,v21),(1,v22)])) fun v23 =>
 doQ (gI (.func 123) (some []) (some [v4,v12])) fun v24 =>
 doQ (gI (.func 124) (some []) (some [v1,v2,v3,v4])) fun v25 =>
 doQ (bI ¢ 193 (some [(0,v24),(1,v25)])) fun v26 =>
 doQ (gI (.func 125) (some []) (some [v4,v12])) fun v27 =>
 doW (©true H11 37 115 [(.v (.int .i64 231))]) fun v28 H12 =>
 doQ (bI ¢ 193 (some [(0,v27),(1,v28)])) fun v29 =>
 doQ (gI (.func 126) (some []) (some [v12])) fun v30 =>
 doW (©true H12 40 115 [(.v (.int .i64 9))]) fun v31 H13 =>
 doQ (bI ¢ 193 (some [(0,v30),(1,v31)])) fun v32 =>
 doQ (gI (.func 127) (some []) (some [v1,v2,v4])) fun v33 =>
 doQ (bI ¢ 193 (some [(0,(.fn (.func 118) [] [])),(1,v33)])) fun v34 =>
 doW (gm ¢ false true H13 §H13 44 235 6 (some [(0,v20),(1,v23),(2,v26),(3,v29),(4,v32),(5,v34)])) fun v35 H14 =>
 doW (©true H14 45 113 [v35]) fun v36 H15 =>
 doW (aC ¢ H15 107 ~v5 ~v36) fun v37 H16 =>
 doQ (ba ¢ H16 v5 107) fun v38 =>
 Q (.tup [v38,(.v (.int .i64 0))]) H16)) (
 doQ (qBin ¢ .neq 42 °23 ¤0 ~v11 £0) fun v15 =>
 br ~v15 (
 doQ (bI ¢ 107 (some [])) fun v16 =>
 doW (aC ¢ H8 107 ~v5 ~v16) fun v17 H9 =>
 doQ (ba ¢ H9 v5 107) fun v18 =>
 Q (.tup [v18,v11]) H9) (
 doQ (gI (.func 120) (some []) (some [v4,v3])) fun v16 =>
 doW (©true H8 28 115 [(.v (.int .i64 8))]) fun v17 H9 =>
 doQ (bI ¢ 193 (some [(0,v16),(1,v17)])) fun v18 =>
 doQ (gI (.func 122) (some []) (some [v12,v3])) fun v19 =>
 doW (©true H9 31 115 [(.v (.int .i64 230))]) fun v20 H10 =>
 doQ (bI ¢ 193 (some [(0,v19),(1,v20)])) fun v21 =>
 doQ (gI (.func 123) (some []) (some [v4,v12])) fun v22 =>
 doQ (gI (.func 124) (some []) (some [v1,v2,v3,v4])) fun v23 =>
 doQ (bI ¢ 193 (some [(0,v22),(1,v23)])) fun v24 =>
 doQ (gI (.func 125) (some []) (some [v4,v12])) fun v25 =>
 doW (©true H10 37 115 [(.v (.int .i64 231))]) fun v26 H11 =>
 doQ (bI ¢ 193 (some [(0,v25),(1,v26)])) fun v27 =>
 doQ (gI (.func 126) (some []) (some [v12])) fun v28 =>
 doW (©true H11 40 115 [(.v (.int .i64 9))]) fun v29 H12 =>
 doQ (bI ¢ 193 (some [(0,v28),(1,v29)])) fun v30 =>
 doQ (gI (.func 127) (some []) (some [v1,v2,v4])) fun v31 =>
 doQ (bI ¢ 193 (some [(0,(.fn (.func 118) [] [])),(1,v31)])) fun v32 =>
 doW (gm ¢ false true H12 §H12 44 235 6 (some [(0,v18),(1,v21),(2,v24),(3,v27),(4,v30),(5,v32)])) fun v33 H13 =>
 doW (©true H13 45 113 [v33]) fun v34 H14 =>
 doW (aC ¢ H14 107 ~v5 ~v34) fun v35 H15 =>
 doQ (ba ¢ H15 v5 107) fun v36 =>
 Q (.tup [v36,(.v (.int .i64 0))]) H15))
theorem iL(x0 x1 x2 x3:AV)(H:Heap)(Q:AV→Heap→Prop)(h : ∀g,gH g x0 x1 x2 x3 H Q):GoL env Tryz.f52 0 [.code gB] [(0,x0),(1,x1),(2,x2),(3,x3)] H Q:=⟨fun g=>aJ (live:=zD) (cut:=Ac) (n:=500) (Eq.mp (by kernel_rfl) (h g))⟩
noncomputable def lH:Code:=(Tryz.f61.body).getD .skip
def qi:Nat→Option (List Nat):=fun i=>none
def qp:Nat→Bool:=fun i=>false
def lN(g:Nat→AV)(x0 x1:AV)(H:Heap)(Q:AV→Heap→Prop):Prop :=
 doW (nRes H §H 2 (qBox ¢ §H 2 107 ~x0)) fun v1 H1 =>
 doW (nRes H1 §H1 3 (qBox ¢ §H1 3 107 ~x1)) fun v2 H2 =>
 doQ (aa ¢ 107 ~v1 0) fun v3 =>
 doQ (ai ¢ ¥H2 42 ~v3) fun v4 =>
 doQ (aa ¢ 107 ~v2 0) fun v5 =>
 doQ (ai ¢ ¥H2 42 ~v5) fun v6 =>
 doQ (qBin ¢ .eql 42 °6 °8 ~v4 ~v6) fun v7 =>
 gQ v7 true (aa ¢ 107 ~v1 1) fun v8 =>
 gQ v7 true (ai ¢ ¥H2 4 ~v8) fun v9 =>
 gQ v7 true (aa ¢ 107 ~v2 1) fun v10 =>
 gQ v7 true (ai ¢ ¥H2 4 ~v10) fun v11 =>
 gQ v7 true (qBin ¢ .eql 4 °12 °14 ~v9 ~v11) fun v12 =>
 doQ (aM ~v7 ~v12 ¿) fun v13 =>
 gQ v13 true (aa ¢ 107 ~v1 2) fun v14 =>
 gQ v13 true (ai ¢ ¥H2 62 ~v14) fun v15 =>
 gQ v13 true (aa ¢ 107 ~v2 2) fun v16 =>
 gQ v13 true (ai ¢ ¥H2 62 ~v16) fun v17 =>
 gW v13 true H2 (©true H2 22 80 [v15,v17]) fun v18 H3 =>
 doQ (aM ~v13 ~v18 ¿) fun v19 =>
 Q v19 H3
theorem pZ(x0 x1:AV)(H:Heap)(Q:AV→Heap→Prop)(h : ∀g,lN g x0 x1 H Q):GoL env Tryz.f61 0 [.code lH] [(0,x0),(1,x1)] H Q:=⟨fun g=>aJ (live:=qi) (cut:=qp) (n:=500) (Eq.mp (by kernel_rfl) (h g))⟩
noncomputable def qA:Code:=(Tryz.f111.body).getD .skip
def EZ:Nat→Option (List Nat):=fun i=>none
def Ft:Nat→Bool:=fun i=>false
def qH(g:Nat→AV)(x0 x1 x2:AV)(H:Heap)(Q:AV→Heap→Prop):Prop :=
 doW (nRes H §H 3 (qBox ¢ §H 3 25 ~x0)) fun v1 H1 =>
 doW (nRes H1 §H1 5 (qBox ¢ §H1 5 31 ~x2)) fun v2 H2 =>
 doW (nRes H2 §H2 6 (bq ¢ §H2 6 185)) fun v3 H3 =>
 doQ (ai ¢ ¥H3 25 ~v1) fun v4 =>
 doQ (ai ¢ ¥H3 31 ~v2) fun v5 =>
 doW (©true H3 12 27 [v4,x1,v5]) fun v6 H4 =>
 doQ (aq ~v6 0) fun v7 =>
 doQ (aq ~v6 1) fun v8 =>
 doQ (aa ¢ 185 ~v3 0) fun v9 =>
 doW (aC ¢ H4 73 ~v9 ~v7) fun v10 H5 =>
 doQ (qBin ¢ .neq 42 °16 ¤0 ~v8 £0) fun v11 =>
 br ~v11 (
 doQ (bI ¢ 185 (some [])) fun v12 =>
 doW (aC ¢ H5 185 ~v3 ~v12) fun v13 H6 =>
 doQ (ba ¢ H6 v3 185) fun v14 =>
 Q (.tup [v14,v8]) H6) (
 doQ (ai ¢ ¥H5 25 ~v1) fun v12 =>
 doW (©true H5 23 25 [v12,x1]) fun v13 H6 =>
 doQ (aq ~v13 0) fun v14 =>
 doQ (aq ~v13 1) fun v15 =>
 doQ (aa ¢ 185 ~v3 1) fun v16 =>
 doW (aC ¢ H6 25 ~v16 ~v14) fun v17 H7 =>
 doQ (ai ¢ ¥H7 25 ~v1) fun v18 =>
 doQ (aa ¢ 31 ~v2 0) fun v19 =>
 doQ (ai ¢ ¥H7 29 ~v19) fun v20 =>
 doW (©true H7 32 31 [v18,x1,v20]) fun v21 H8 =>
 doQ (aq ~v21 0) fun v22 =>
 doQ (aq ~v21 1) fun v23 =>
 doQ (aa ¢ 185 ~v3 2) fun v24 =>
 doW (aC ¢ H8 81 ~v24 ~v22) fun v25 H9 =>
 doQ (ai ¢ ¥H9 25 ~v1) fun v26 =>
 doQ (aa ¢ 31 ~v2 0) fun v27 =>
 doQ (ai ¢ ¥H9 29 ~v27) fun v28 =>
 doW (©true H9 40 44 [v26,v28]) fun v29 H10 =>
 doQ (aq ~v29 0) fun v30 =>
 doQ (aq ~v29 1) fun v31 =>
 doQ (aa ¢ 185 ~v3 3) fun v32 =>
 doW (aC ¢ H10 81 ~v32 ~v30) fun v33 H11 =>
 doQ (ai ¢ ¥H11 185 ~v3) fun v34 =>
 doW (aC ¢ H11 185 ~v3 ~v34) fun v35 H12 =>
 doQ (ba ¢ H12 v3 185) fun v36 =>
 Q (.tup [v36,(.v (.int .i64 0))]) H12)
theorem tV(x0 x1 x2:AV)(H:Heap)(Q:AV→Heap→Prop)(h : ∀g,qH g x0 x1 x2 H Q):GoL env Tryz.f111 0 [.code qA] [(0,x0),(1,x1),(2,x2)] H Q:=⟨fun g=>aJ (live:=EZ) (cut:=Ft) (n:=500) (Eq.mp (by kernel_rfl) (h g))⟩
noncomputable def gC:Code:=(Tryz.f112.body).getD .skip
def lZ:Nat→Option (List Nat):=fun i=>none
def mb:Nat→Bool:=fun i=>false
def ed(g:Nat→AV)(x0 x1 x2:AV)(H:Heap)(Q:AV→Heap→Prop):Prop :=
 doW (nRes H §H 3 (qBox ¢ §H 3 185 ~x0)) fun v1 H1 =>
 doW (nRes H1 §H1 5 (qBox ¢ §H1 5 29 ~x2)) fun v2 H2 =>
 doQ (aa ¢ 185 ~v1 1) fun v3 =>
 doQ (ai ¢ ¥H2 25 ~v3) fun v4 =>
 doQ (ai ¢ ¥H2 29 ~v2) fun v5 =>
 doW (©true H2 14 174 [v4,x1,v5]) fun v6 H3 =>
 doQ (aq ~v6 0) fun v7 =>
 doQ (aq ~v6 1) fun v8 =>
 doQ (qBin ¢ .eql 42 °17 ¤0 ~v8 £0) fun v9 =>
 gQ v9 true (qVal ~v7) fun v10 =>
 doQ (aM ~v9 ~v10 ¿) fun v11 =>
 Q v11 H3
theorem lW(x0 x1 x2:AV)(H:Heap)(Q:AV→Heap→Prop)(h : ∀g,ed g x0 x1 x2 H Q):GoL env Tryz.f112 0 [.code gC] [(0,x0),(1,x1),(2,x2)] H Q:=⟨fun g=>aJ (live:=lZ) (cut:=mb) (n:=500) (Eq.mp (by kernel_rfl) (h g))⟩
noncomputable def mm:Code:=(Tryz.f113.body).getD .skip
noncomputable def mL:List Item:=(bS 2 400 [.code mm]).getD []
def tp:Nat→Option (List Nat):=fun i=>cond (Nat.beq i 2) (some [2,7,5,6]) (none)
def tw:Nat→Bool:=fun i=>false
def oM(g:Nat→AV)(x0:AV)(H:Heap)(Q:AV→Heap→Prop):Prop :=
 doW (nRes H §H 2 (bq ¢ §H 2 107)) fun v1 H1 =>
 doQ (aA ¢ false ¥H1 §H1 6 .len #[235] [x0]) fun v2 =>
  GoL env Tryz.f113 0 mL [(2,v1),(7,(.v (.int .i64 0))),(5,x0),(6,v2)] H1 Q
theorem tj(x0:AV)(H:Heap)(Q:AV→Heap→Prop)(h : ∀g,oM g x0 H Q):GoL env Tryz.f113 0 [.code mm] [(0,x0)] H Q:=⟨fun g=>aJ (live:=tp) (cut:=tw) (n:=500) (Eq.mp (by kernel_rfl) (h g))⟩
def bl(g:Nat→AV)(x2 x7 x5 x6:AV)(H:Heap)(Q:AV→Heap→Prop):Prop :=
 doQ (qBin ¢ .lss 3 °7 °6 ~x7 ~x6) fun v1 =>
 br ~v1 (
 doQ (aH ¢ ¥H 235 ~x5 ~x7) fun v2 =>
 doQ (ai ¢ ¥H 193 ~v2) fun v3 =>
 doW (nRes H §H 4 (bq ¢ §H 4 193)) fun v4 H1 =>
 doW (aC ¢ H1 193 ~v4 ~v3) fun v5 H2 =>
 doQ (aa ¢ 193 ~v4 0) fun v6 =>
 doQ (ai ¢ ¥H2 90 ~v6) fun v7 =>
 doW (aG env true (limf env) (limt env 0) H2 §H2 13 ~v7 []) fun v8 H3 =>
 br ~v8 (
 doQ (aa ¢ 193 ~v4 1) fun v9 =>
 doQ (ai ¢ ¥H3 190 ~v9) fun v10 =>
 doW (aG env true (limf env) (limt env 0) H3 §H3 16 ~v10 []) fun v11 H4 =>
 doW (aC ¢ H4 107 ~x2 ~v11) fun v12 H5 =>
 doQ (ba ¢ H5 x2 107) fun v13 =>
 Q v13 H5) (
 doQ (qBin ¢ .add 3 °7 ¤1 ~x7 £1) fun v9 =>
  GoL env Tryz.f113 0 mL [(2,x2),(7,v9),(5,x5),(6,x6)] H3 Q)) (
 doQ (bI ¢ 107 (some [])) fun v2 =>
 doW (aC ¢ H 107 ~x2 ~v2) fun v3 H1 =>
 doQ (ba ¢ H1 x2 107) fun v4 =>
 Q v4 H1)
theorem cY(x2 x7 x5 x6:AV)(H:Heap)(Q:AV→Heap→Prop)(h : ∀g,bl g x2 x7 x5 x6 H Q):GoL env Tryz.f113 0 mL [(2,x2),(7,x7),(5,x5),(6,x6)] H Q:=dk fun g=>aJ (live:=tp) (cut:=tw) (n:=500) (Eq.mp (by kernel_rfl) (h g))
noncomputable def rZ:Code:=(Tryz.f114.body).getD .skip
def zH:Nat→Option (List Nat):=fun i=>none
def Ag:Nat→Bool:=fun i=>false
def sH(g:Nat→AV)(x0 x1 x2:AV)(H:Heap)(Q:AV→Heap→Prop):Prop :=
 doQ (ai ¢ ¥H 4 ~x0) fun v1 =>
 doQ (qUn ¢ .not ~v1) fun v2 =>
 gQ v2 false (aa ¢ 185 ~x1 0) fun v3 =>
 gQ v2 false (aa ¢ 73 ~v3 0) fun v4 =>
 gQ v2 false (ai ¢ ¥H 4 ~v4) fun v5 =>
 gQ v2 false (qVal ~v5) fun v6 =>
 gQ v6 true (aa ¢ 185 ~x1 0) fun v7 =>
 gQ v6 true (aa ¢ 73 ~v7 1) fun v8 =>
 gQ v6 true (ai ¢ ¥H 3 ~v8) fun v9 =>
 gQ v6 true (ai ¢ ¥H 3 ~x2) fun v10 =>
 gQ v6 true (qBin ¢ .neq 3 °13 °14 ~v9 ~v10) fun v11 =>
 gQ v2 false (aM ~v6 ~v11 ¿) fun v12 =>
 doQ (aM ~v2 ¡ ~v12) fun v13 =>
 Q v13 H
theorem yU(x0 x1 x2:AV)(H:Heap)(Q:AV→Heap→Prop)(h : ∀g,sH g x0 x1 x2 H Q):GoL env Tryz.f114 0 [.code rZ] [(0,x0),(1,x1),(2,x2)] H Q:=⟨fun g=>aJ (live:=zH) (cut:=Ag) (n:=500) (Eq.mp (by kernel_rfl) (h g))⟩
noncomputable def vE:Code:=(Tryz.f115.body).getD .skip
def CA:Nat→Option (List Nat):=fun i=>none
def CV:Nat→Bool:=fun i=>false
def vM(g:Nat→AV)(x0:AV)(H:Heap)(Q:AV→Heap→Prop):Prop :=
 doW (nRes H §H 1 (qBox ¢ §H 1 42 ~x0)) fun v1 H1 =>
 doQ (gI (.func 175) (some []) (some [v1])) fun v2 =>
 Q v2 H1
theorem B5(x0:AV)(H:Heap)(Q:AV→Heap→Prop)(h : ∀g,vM g x0 H Q):GoL env Tryz.f115 0 [.code vE] [(0,x0)] H Q:=⟨fun g=>aJ (live:=CA) (cut:=CV) (n:=500) (Eq.mp (by kernel_rfl) (h g))⟩
noncomputable def rY:Code:=(Tryz.f116.body).getD .skip
def zG:Nat→Option (List Nat):=fun i=>none
def Af:Nat→Bool:=fun i=>false
def sG(g:Nat→AV)(x0:AV)(H:Heap)(Q:AV→Heap→Prop):Prop :=
 doQ (aa ¢ 185 ~x0 0) fun v1 =>
 doQ (aa ¢ 73 ~v1 0) fun v2 =>
 doQ (ai ¢ ¥H 4 ~v2) fun v3 =>
 Q v3 H
theorem yT(x0:AV)(H:Heap)(Q:AV→Heap→Prop)(h : ∀g,sG g x0 H Q):GoL env Tryz.f116 0 [.code rY] [(0,x0)] H Q:=⟨fun g=>aJ (live:=zG) (cut:=Af) (n:=500) (Eq.mp (by kernel_rfl) (h g))⟩
noncomputable def rX:Code:=(Tryz.f117.body).getD .skip
def zF:Nat→Option (List Nat):=fun i=>none
def Ae:Nat→Bool:=fun i=>false
def sF(g:Nat→AV)(x0:AV)(H:Heap)(Q:AV→Heap→Prop):Prop :=
 doQ (aa ¢ 185 ~x0 2) fun v1 =>
 doQ (aa ¢ 81 ~v1 1) fun v2 =>
 doQ (ai ¢ ¥H 3 ~v2) fun v3 =>
 doQ (aa ¢ 185 ~x0 3) fun v4 =>
 doQ (aa ¢ 81 ~v4 1) fun v5 =>
 doQ (ai ¢ ¥H 3 ~v5) fun v6 =>
 doQ (qBin ¢ .geq 3 °4 °7 ~v3 ~v6) fun v7 =>
 Q v7 H
theorem yS(x0:AV)(H:Heap)(Q:AV→Heap→Prop)(h : ∀g,sF g x0 H Q):GoL env Tryz.f117 0 [.code rX] [(0,x0)] H Q:=⟨fun g=>aJ (live:=zF) (cut:=Ae) (n:=500) (Eq.mp (by kernel_rfl) (h g))⟩
noncomputable def rV:Code:=(Tryz.f118.body).getD .skip
def zC:Nat→Option (List Nat):=fun i=>none
def Aa:Nat→Bool:=fun i=>false
def sD(g:Nat→AV)(H:Heap)(Q:AV→Heap→Prop):Prop :=
 Q (.v (.bool true)) H
theorem yQ(H:Heap)(Q:AV→Heap→Prop)(h : ∀g,sD g  H Q):GoL env Tryz.f118 0 [.code rV] [] H Q:=⟨fun g=>aJ (live:=zC) (cut:=Aa) (n:=500) (Eq.mp (by kernel_rfl) (h g))⟩
noncomputable def rW:Code:=(Tryz.f119.body).getD .skip
def zE:Nat→Option (List Nat):=fun i=>none
def Ad:Nat→Bool:=fun i=>false
def sE(g:Nat→AV)(x0 x1:AV)(H:Heap)(Q:AV→Heap→Prop):Prop :=
 doW (nRes H §H 2 (bq ¢ §H 2 107)) fun v1 H1 =>
 doQ (ai ¢ ¥H1 3 ~x0) fun v2 =>
 doQ (ai ¢ ¥H1 31 ~x1) fun v3 =>
 doQ (bI ¢ 38 (some [(1,v3)])) fun v4 =>
 doQ (bI ¢ 62 (some [(0,(a8 1)),(1,v2),(2,v4)])) fun v5 =>
 doQ (bI ¢ 107 (some [(1,(.v (.bool true))),(2,v5)])) fun v6 =>
 doW (aC ¢ H1 107 ~v1 ~v6) fun v7 H2 =>
 doQ (ba ¢ H2 v1 107) fun v8 =>
 Q v8 H2
theorem yR(x0 x1:AV)(H:Heap)(Q:AV→Heap→Prop)(h : ∀g,sE g x0 x1 H Q):GoL env Tryz.f119 0 [.code rW] [(0,x0),(1,x1)] H Q:=⟨fun g=>aJ (live:=zE) (cut:=Ad) (n:=500) (Eq.mp (by kernel_rfl) (h g))⟩
noncomputable def pI:Code:=(Tryz.f120.body).getD .skip
def wP:Nat→Option (List Nat):=fun i=>none
def xc:Nat→Bool:=fun i=>false
def gG(g:Nat→AV)(x0 x1:AV)(H:Heap)(Q:AV→Heap→Prop):Prop :=
 doQ (aa ¢ 38 ~x0 1) fun v1 =>
 doQ (ai ¢ ¥H 31 ~v1) fun v2 =>
 doQ (ai ¢ ¥H 31 ~x1) fun v3 =>
 doQ (qBin ¢ .neq 31 °4 °5 ~v2 ~v3) fun v4 =>
 gQ v4 false (ai ¢ ¥H 38 ~x0) fun v5 =>
 gW v4 false H (©true H 9 121 [v5]) fun v6 H1 =>
 gQ v4 false (qUn ¢ .not ~v6) fun v7 =>
 doQ (aM ~v4 ¡ ~v7) fun v8 =>
 Q v8 H1
theorem wg(x0 x1:AV)(H:Heap)(Q:AV→Heap→Prop)(h : ∀g,gG g x0 x1 H Q):GoL env Tryz.f120 0 [.code pI] [(0,x0),(1,x1)] H Q:=⟨fun g=>aJ (live:=wP) (cut:=xc) (n:=500) (Eq.mp (by kernel_rfl) (h g))⟩
noncomputable def pH:Code:=(Tryz.f122.body).getD .skip
def wO:Nat→Option (List Nat):=fun i=>none
def xb:Nat→Bool:=fun i=>false
def pY(g:Nat→AV)(x0 x1:AV)(H:Heap)(Q:AV→Heap→Prop):Prop :=
 doQ (aa ¢ 185 ~x0 0) fun v1 =>
 doQ (aa ¢ 73 ~v1 0) fun v2 =>
 doQ (ai ¢ ¥H 4 ~v2) fun v3 =>
 doQ (qUn ¢ .not ~v3) fun v4 =>
 gQ v4 false (ai ¢ ¥H 185 ~x0) fun v5 =>
 gQ v4 false (aa ¢ 185 ~x0 0) fun v6 =>
 gQ v4 false (aa ¢ 73 ~v6 1) fun v7 =>
 gQ v4 false (ai ¢ ¥H 3 ~v7) fun v8 =>
 gQ v4 false (aa ¢ 31 ~x1 0) fun v9 =>
 gQ v4 false (ai ¢ ¥H 29 ~v9) fun v10 =>
 gW v4 false H (©true H 14 112 [v5,v8,v10]) fun v11 H1 =>
 gQ v4 false (qUn ¢ .not ~v11) fun v12 =>
 doQ (aM ~v4 ¡ ~v12) fun v13 =>
 Q v13 H1
theorem we(x0 x1:AV)(H:Heap)(Q:AV→Heap→Prop)(h : ∀g,pY g x0 x1 H Q):GoL env Tryz.f122 0 [.code pH] [(0,x0),(1,x1)] H Q:=⟨fun g=>aJ (live:=wO) (cut:=xb) (n:=500) (Eq.mp (by kernel_rfl) (h g))⟩
noncomputable def pG:Code:=(Tryz.f123.body).getD .skip
def wN:Nat→Option (List Nat):=fun i=>none
def xa:Nat→Bool:=fun i=>false
def pX(g:Nat→AV)(x0 x1:AV)(H:Heap)(Q:AV→Heap→Prop):Prop :=
 doQ (aa ¢ 38 ~x0 2) fun v1 =>
 doQ (ai ¢ ¥H 3 ~v1) fun v2 =>
 doQ (aa ¢ 185 ~x1 0) fun v3 =>
 doQ (aa ¢ 73 ~v3 2) fun v4 =>
 doQ (ai ¢ ¥H 3 ~v4) fun v5 =>
 doQ (qBin ¢ .leq 3 °4 °7 ~v2 ~v5) fun v6 =>
 Q v6 H
theorem wc(x0 x1:AV)(H:Heap)(Q:AV→Heap→Prop)(h : ∀g,pX g x0 x1 H Q):GoL env Tryz.f123 0 [.code pG] [(0,x0),(1,x1)] H Q:=⟨fun g=>aJ (live:=wN) (cut:=xa) (n:=500) (Eq.mp (by kernel_rfl) (h g))⟩
noncomputable def pF:Code:=(Tryz.f124.body).getD .skip
def wM:Nat→Option (List Nat):=fun i=>none
def w9:Nat→Bool:=fun i=>false
def pW(g:Nat→AV)(x0 x1 x2 x3:AV)(H:Heap)(Q:AV→Heap→Prop):Prop :=
 doW (nRes H §H 4 (bq ¢ §H 4 107)) fun v1 H1 =>
 doQ (ai ¢ ¥H1 25 ~x0) fun v2 =>
 doQ (ai ¢ ¥H1 26 ~x1) fun v3 =>
 doQ (ai ¢ ¥H1 31 ~x2) fun v4 =>
 doQ (aa ¢ 38 ~x3 2) fun v5 =>
 doQ (ai ¢ ¥H1 3 ~v5) fun v6 =>
 doW (©true H1 13 29 [v2,v3,v4,v6]) fun v7 H2 =>
 doQ (aq ~v7 0) fun v8 =>
 doQ (aq ~v7 1) fun v9 =>
 doQ (bI ¢ 107 (some [(0,v8)])) fun v10 =>
 doW (aC ¢ H2 107 ~v1 ~v10) fun v11 H3 =>
 doQ (ba ¢ H3 v1 107) fun v12 =>
 Q v12 H3
theorem wb(x0 x1 x2 x3:AV)(H:Heap)(Q:AV→Heap→Prop)(h : ∀g,pW g x0 x1 x2 x3 H Q):GoL env Tryz.f124 0 [.code pF] [(0,x0),(1,x1),(2,x2),(3,x3)] H Q:=⟨fun g=>aJ (live:=wM) (cut:=w9) (n:=500) (Eq.mp (by kernel_rfl) (h g))⟩
noncomputable def pE:Code:=(Tryz.f125.body).getD .skip
def wL:Nat→Option (List Nat):=fun i=>none
def w8:Nat→Bool:=fun i=>false
def pV(g:Nat→AV)(x0 x1:AV)(H:Heap)(Q:AV→Heap→Prop):Prop :=
 doQ (aa ¢ 38 ~x0 2) fun v1 =>
 doQ (ai ¢ ¥H 3 ~v1) fun v2 =>
 doQ (aa ¢ 185 ~x1 0) fun v3 =>
 doQ (aa ¢ 73 ~v3 2) fun v4 =>
 doQ (ai ¢ ¥H 3 ~v4) fun v5 =>
 doQ (qBin ¢ .add 3 °7 ¤1 ~v5 £1) fun v6 =>
 doQ (qBin ¢ .gtr 3 °4 °8 ~v2 ~v6) fun v7 =>
 Q v7 H
theorem wa(x0 x1:AV)(H:Heap)(Q:AV→Heap→Prop)(h : ∀g,pV g x0 x1 H Q):GoL env Tryz.f125 0 [.code pE] [(0,x0),(1,x1)] H Q:=⟨fun g=>aJ (live:=wL) (cut:=w8) (n:=500) (Eq.mp (by kernel_rfl) (h g))⟩
noncomputable def pD:Code:=(Tryz.f126.body).getD .skip
def wK:Nat→Option (List Nat):=fun i=>none
def w7:Nat→Bool:=fun i=>false
def pU(g:Nat→AV)(x0:AV)(H:Heap)(Q:AV→Heap→Prop):Prop :=
 doQ (aa ¢ 185 ~x0 2) fun v1 =>
 doQ (aa ¢ 81 ~v1 2) fun v2 =>
 doQ (ai ¢ ¥H 3 ~v2) fun v3 =>
 doQ (aa ¢ 185 ~x0 3) fun v4 =>
 doQ (aa ¢ 81 ~v4 2) fun v5 =>
 doQ (ai ¢ ¥H 3 ~v5) fun v6 =>
 doQ (qBin ¢ .geq 3 °4 °7 ~v3 ~v6) fun v7 =>
 Q v7 H
theorem vZ(x0:AV)(H:Heap)(Q:AV→Heap→Prop)(h : ∀g,pU g x0 H Q):GoL env Tryz.f126 0 [.code pD] [(0,x0)] H Q:=⟨fun g=>aJ (live:=wK) (cut:=w7) (n:=500) (Eq.mp (by kernel_rfl) (h g))⟩
noncomputable def pC:Code:=(Tryz.f127.body).getD .skip
def wJ:Nat→Option (List Nat):=fun i=>none
def w6:Nat→Bool:=fun i=>false
def pT(g:Nat→AV)(x0 x1 x2:AV)(H:Heap)(Q:AV→Heap→Prop):Prop :=
 doW (nRes H §H 3 (bq ¢ §H 3 107)) fun v1 H1 =>
 doQ (ai ¢ ¥H1 25 ~x0) fun v2 =>
 doQ (ai ¢ ¥H1 26 ~x1) fun v3 =>
 doQ (ai ¢ ¥H1 38 ~x2) fun v4 =>
 doW (©true H1 10 17 [v2,v3,v4]) fun v5 H2 =>
 doQ (aq ~v5 0) fun v6 =>
 doQ (aq ~v5 1) fun v7 =>
 doQ (ai ¢ ¥H2 38 ~x2) fun v8 =>
 doW (©true H2 15 108 [v8]) fun v9 H3 =>
 doQ (bI ¢ 62 (some [(0,(a8 2)),(2,v9),(3,v6)])) fun v10 =>
 doQ (bI ¢ 107 (some [(0,v6),(1,(.v (.bool true))),(2,v10)])) fun v11 =>
 doW (aC ¢ H3 107 ~v1 ~v11) fun v12 H4 =>
 doQ (ba ¢ H4 v1 107) fun v13 =>
 Q v13 H4
theorem vY(x0 x1 x2:AV)(H:Heap)(Q:AV→Heap→Prop)(h : ∀g,pT g x0 x1 x2 H Q):GoL env Tryz.f127 0 [.code pC] [(0,x0),(1,x1),(2,x2)] H Q:=⟨fun g=>aJ (live:=wJ) (cut:=w6) (n:=500) (Eq.mp (by kernel_rfl) (h g))⟩
noncomputable def rU:Code:=(Tryz.f175.body).getD .skip
def zB:Nat→Option (List Nat):=fun i=>none
def z9:Nat→Bool:=fun i=>false
def sC(g:Nat→AV)(x0:AV)(H:Heap)(Q:AV→Heap→Prop):Prop :=
 doW (nRes H §H 1 (bq ¢ §H 1 107)) fun v1 H1 =>
 doQ (ai ¢ ¥H1 42 ~x0) fun v2 =>
 doQ (bI ¢ 107 (some [(0,v2)])) fun v3 =>
 doW (aC ¢ H1 107 ~v1 ~v3) fun v4 H2 =>
 doQ (ba ¢ H2 v1 107) fun v5 =>
 Q v5 H2
theorem yP(x0:AV)(H:Heap)(Q:AV→Heap→Prop)(h : ∀g,sC g x0 H Q):GoL env Tryz.f175 0 [.code rU] [(0,x0)] H Q:=⟨fun g=>aJ (live:=zB) (cut:=z9) (n:=500) (Eq.mp (by kernel_rfl) (h g))⟩
end Go.Proofs.YtmkmimgokagimaaGreat
