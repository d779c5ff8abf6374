/-
  What is to be shown of each function, computed from its code. No statement of a seat is proved here.
-/
import Derived.Test.YtiidajnodhkidaaGreatStTy
set_option linter.unusedVariables false
set_option maxRecDepth 1000000
namespace Go.Proofs.YtiidajnodhkidaaGreat
open Go.Ab
local notation:max "©" b:max h:max n:max f:max a:max=>cl env b (limf env) (limt env 0) h (Ref.mk 0 n (Heap.gen h 0 n) 0) (some (AV.fn (Fn.func f) [] [])) a
local notation:max "§" h:max n:max=>Ref.mk 0 n (Heap.gen h 0 n) 0
local notation:max "~" a:max=>some a
local notation:max "¥" h:max=>Heap.get h
local notation:max "¤" n:max=>(Operand.const (Value.int IntKind.i64 n))
local notation:max "£" n:max=>some (AV.v (Value.int IntKind.i64 n))
local notation:max "¡" => some (AV.v (Value.bool true))
local notation:max "¿" => some (AV.v (Value.bool false))
local notation:max "°" n:max=>(Operand.tmp n)
local notation:max "¢" => env.P
noncomputable def vO:Code:=(Tryz.f8.body).getD .skip
def C0:Nat→Option (List Nat):=fun i=>none
def Dt:Nat→Bool:=fun i=>false
def vV(g:Nat→AV)(x0:AV)(H:Heap)(Q:AV→Heap→Prop):Prop :=
 doW (nRes H §H 2 (bZ ¢ §H 2 29)) fun v1 H1 =>
 doW (©true H1 7 39 []) fun v2 H2 =>
 doW (©true H2 9 38 [v2,x0]) fun v3 H3 =>
 doQ (ao ~v3 0) fun v4 =>
 doQ (ao ~v3 1) fun v5 =>
 doW (nRes H3 §H3 4 (bZ ¢ §H3 4 24)) fun v6 H4 =>
 doW (au ¢ H4 24 ~v6 ~v4) fun v7 H5 =>
 doQ (qBin ¢ .neq 30 °12 ¤0 ~v5 £0) fun v8 =>
 br ~v8 (
 doQ (bQ ¢ 29 (some [])) fun v9 =>
 doW (au ¢ H5 29 ~v1 ~v9) fun v10 H6 =>
 doQ (aE ¢ H6 v1 29) fun v11 =>
 Q (.tup [v11,v5]) H6) (
 doQ (ak ¢ ¥H5 24 ~v6) fun v9 =>
 doW (©true H5 17 13 [v9]) fun v10 H6 =>
 doQ (ao ~v10 0) fun v11 =>
 doQ (ao ~v10 1) fun v12 =>
 doW (au ¢ H6 29 ~v1 ~v11) fun v13 H7 =>
 doQ (aE ¢ H7 v1 29) fun v14 =>
 Q (.tup [v14,v12]) H7)
theorem Ck(x0:AV)(H:Heap)(Q:AV→Heap→Prop)(h : ∀g,vV g x0 H Q):GoL env Tryz.f8 0 [.code vO] [(0,x0)] H Q:=⟨fun g=>bn (live:=C0) (cut:=Dt) (n:=500) (Eq.mp (by kernel_rfl) (h g))⟩
noncomputable def qY:Code:=(Tryz.f9.body).getD .skip
def xJ:Nat→Option (List Nat):=fun i=>none
def yc:Nat→Bool:=fun i=>false
def nF(g:Nat→AV)(x0 x1:AV)(H:Heap)(Q:AV→Heap→Prop):Prop :=
 doW (nRes H §H 2 (qBox ¢ §H 2 29 ~x0)) fun v1 H1 =>
 doW (nRes H1 §H1 3 (qBox ¢ §H1 3 51 ~x1)) fun v2 H2 =>
 doW (nRes H2 §H2 4 (bZ ¢ §H2 4 29)) fun v3 H3 =>
 doQ (ak ¢ ¥H3 29 ~v1) fun v4 =>
 doQ (bQ ¢ 92 (some [(0,v4)])) fun v5 =>
 doQ (tH (.func 41) (some []) (some [v2])) fun v6 =>
 doW (©true H3 9 40 [v5,v6]) fun v7 H4 =>
 doQ (ao ~v7 0) fun v8 =>
 doQ (ao ~v7 1) fun v9 =>
 doW (au ¢ H4 29 ~v3 ~v8) fun v10 H5 =>
 doQ (aE ¢ H5 v3 29) fun v11 =>
 Q (.tup [v11,v9]) H5
theorem w9(x0 x1:AV)(H:Heap)(Q:AV→Heap→Prop)(h : ∀g,nF g x0 x1 H Q):GoL env Tryz.f9 0 [.code qY] [(0,x0),(1,x1)] H Q:=⟨fun g=>bn (live:=xJ) (cut:=yc) (n:=500) (Eq.mp (by kernel_rfl) (h g))⟩
noncomputable def uo:Code:=(Tryz.f11.body).getD .skip
def Bm:Nat→Option (List Nat):=fun i=>none
def BI:Nat→Bool:=fun i=>false
def pP(g:Nat→AV)(x0:AV)(H:Heap)(Q:AV→Heap→Prop):Prop :=
 doW (nRes H §H 1 (qBox ¢ §H 1 29 ~x0)) fun v1 H1 =>
 doW (nRes H1 §H1 2 (bZ ¢ §H1 2 29)) fun v2 H2 =>
 doQ (ak ¢ ¥H2 29 ~v1) fun v3 =>
 doQ (bQ ¢ 92 (some [(0,v3)])) fun v4 =>
 doW (©true H2 6 40 [v4,(.fn (.func 43) [] [])]) fun v5 H3 =>
 doQ (ao ~v5 0) fun v6 =>
 doQ (ao ~v5 1) fun v7 =>
 doW (au ¢ H3 29 ~v2 ~v6) fun v8 H4 =>
 doQ (aE ¢ H4 v2 29) fun v9 =>
 Q (.tup [v9,v7]) H4
theorem Av(x0:AV)(H:Heap)(Q:AV→Heap→Prop)(h : ∀g,pP g x0 H Q):GoL env Tryz.f11 0 [.code uo] [(0,x0)] H Q:=⟨fun g=>bn (live:=Bm) (cut:=BI) (n:=500) (Eq.mp (by kernel_rfl) (h g))⟩
noncomputable def yn:Code:=(Tryz.f13.body).getD .skip
def EB:Nat→Option (List Nat):=fun i=>none
def E9:Nat→Bool:=fun i=>false
def ld(g:Nat→AV)(x0:AV)(H:Heap)(Q:AV→Heap→Prop):Prop :=
 doW (nRes H §H 1 (qBox ¢ §H 1 24 ~x0)) fun v1 H1 =>
 doW (nRes H1 §H1 2 (bZ ¢ §H1 2 29)) fun v2 H2 =>
 doQ (ak ¢ ¥H2 24 ~v1) fun v3 =>
 doW (©true H2 10 45 [v3]) fun v4 H3 =>
 doQ (qBin ¢ .neq 30 °11 ¤0 ~v4 £0) fun v5 =>
 br ~v5 (
 doQ (ak ¢ ¥H3 29 ~v2) fun v6 =>
 doW (au ¢ H3 29 ~v2 ~v6) fun v7 H4 =>
 doQ (aE ¢ H4 v2 29) fun v8 =>
 Q (.tup [v8,v4]) H4) (
 doQ (ab ¢ 24 ~v1 1) fun v6 =>
 doQ (ak ¢ ¥H3 3 ~v6) fun v7 =>
 doQ (qBin ¢ .lss 3 °16 ¤1 ~v7 £1) fun v8 =>
 br ~v8 (
 doQ (ak ¢ ¥H3 29 ~v2) fun v9 =>
 doW (au ¢ H3 29 ~v2 ~v9) fun v10 H4 =>
 doQ (aE ¢ H4 v2 29) fun v11 =>
 Q (.tup [v11,(.v (.int .i64 2))]) H4) (
 doQ (ak ¢ ¥H3 24 ~v1) fun v9 =>
 doW (©true H3 21 46 [v9]) fun v10 H4 =>
 doQ (ao ~v10 0) fun v11 =>
 doQ (ao ~v10 1) fun v12 =>
 doQ (ao ~v10 2) fun v13 =>
 doW (nRes H4 §H4 6 (bZ ¢ §H4 6 27)) fun v14 H5 =>
 doW (au ¢ H5 27 ~v14 ~v12) fun v15 H6 =>
 doQ (qBin ¢ .neq 30 °25 ¤0 ~v13 £0) fun v16 =>
 br ~v16 (
 doQ (ak ¢ ¥H6 29 ~v2) fun v17 =>
 doW (au ¢ H6 29 ~v2 ~v17) fun v18 H7 =>
 doQ (aE ¢ H7 v2 29) fun v19 =>
 Q (.tup [v19,v13]) H7) (
 doQ (ak ¢ ¥H6 24 ~v1) fun v17 =>
 doQ (ab ¢ 27 ~v14 1) fun v18 =>
 doQ (ak ¢ ¥H6 3 ~v18) fun v19 =>
 doW (©true H6 33 47 [v17,(.v (.int .i64 0)),v19,(.v (.int .i64 2048))]) fun v20 H7 =>
 doQ (ao ~v20 0) fun v21 =>
 doQ (ao ~v20 1) fun v22 =>
 doQ (ao ~v20 2) fun v23 =>
 doQ (qBin ¢ .neq 30 °37 ¤0 ~v23 £0) fun v24 =>
 br ~v24 (
 doQ (ak ¢ ¥H7 29 ~v2) fun v25 =>
 doW (au ¢ H7 29 ~v2 ~v25) fun v26 H8 =>
 doQ (aE ¢ H8 v2 29) fun v27 =>
 Q (.tup [v27,v23]) H8) (
 doQ (ak ¢ ¥H7 24 ~v1) fun v25 =>
 doQ (ab ¢ 27 ~v14 1) fun v26 =>
 doQ (ak ¢ ¥H7 3 ~v26) fun v27 =>
 doQ (aw ¢ false ¥H7 §H7 45 .len #[25] [v21]) fun v28 =>
 doQ (qBin ¢ .add 3 °43 °45 ~v27 ~v28) fun v29 =>
 doW (©true H7 47 48 [v25,v29]) fun v30 H8 =>
 doQ (qUn ¢ .not ~v30) fun v31 =>
 br ~v31 (
 doQ (ak ¢ ¥H8 29 ~v2) fun v32 =>
 doW (au ¢ H8 29 ~v2 ~v32) fun v33 H9 =>
 doQ (aE ¢ H9 v2 29) fun v34 =>
 Q (.tup [v34,(.v (.int .i64 8))]) H9) (
 doQ (ak ¢ ¥H8 24 ~v1) fun v32 =>
 doW (©false H8 51 49 [v32]) fun v33 H9 =>
 doW (ik ¢ true false H9 §H9 54 139 2 (some [(0,v11),(1,v21)])) fun v34 H10 =>
 doW (©false H10 55 50 [v34]) fun v35 H11 =>
 doQ (ak ¢ ¥H11 27 ~v14) fun v36 =>
 doQ (bQ ¢ 29 (some [(0,v33),(1,v35),(2,v36),(3,v22)])) fun v37 =>
 doW (au ¢ H11 29 ~v2 ~v37) fun v38 H12 =>
 doQ (aE ¢ H12 v2 29) fun v39 =>
 Q (.tup [v39,(.v (.int .i64 0))]) H12)))))
theorem DV(x0:AV)(H:Heap)(Q:AV→Heap→Prop)(h : ∀g,ld g x0 H Q):GoL env Tryz.f13 0 [.code yn] [(0,x0)] H Q:=⟨fun g=>bn (live:=EB) (cut:=E9) (n:=500) (Eq.mp (by kernel_rfl) (h g))⟩
noncomputable def sg:Code:=(Tryz.f16.body).getD .skip
def zb:Nat→Option (List Nat):=fun i=>none
def zt:Nat→Bool:=fun i=>false
def oF(g:Nat→AV)(x0:AV)(H:Heap)(Q:AV→Heap→Prop):Prop :=
 doW (nRes H §H 1 (qBox ¢ §H 1 29 ~x0)) fun v1 H1 =>
 doQ (ab ¢ 29 ~v1 0) fun v2 =>
 doQ (ak ¢ ¥H1 24 ~v2) fun v3 =>
 doW (©true H1 8 13 [v3]) fun v4 H2 =>
 doQ (ao ~v4 0) fun v5 =>
 doQ (ao ~v4 1) fun v6 =>
 doW (nRes H2 §H2 3 (bZ ¢ §H2 3 29)) fun v7 H3 =>
 doW (au ¢ H3 29 ~v7 ~v5) fun v8 H4 =>
 doQ (qBin ¢ .neq 30 °11 ¤0 ~v6 £0) fun v9 =>
 gQ v9 false (ak ¢ ¥H4 29 ~v7) fun v10 =>
 gQ v9 false (ak ¢ ¥H4 29 ~v1) fun v11 =>
 gW v9 false H4 (©true H4 16 22 [v10,v11]) fun v12 H5 =>
 gQ v9 false (qUn ¢ .not ~v12) fun v13 =>
 doQ (bB ~v9 ¡ ~v13) fun v14 =>
 br ~v14 (
 Q (.v (.int .i64 8)) H5) (
 Q (.v (.int .i64 0)) H5)
theorem yJ(x0:AV)(H:Heap)(Q:AV→Heap→Prop)(h : ∀g,oF g x0 H Q):GoL env Tryz.f16 0 [.code sg] [(0,x0)] H Q:=⟨fun g=>bn (live:=zb) (cut:=zt) (n:=500) (Eq.mp (by kernel_rfl) (h g))⟩
noncomputable def sf:Code:=(Tryz.f20.body).getD .skip
def za:Nat→Option (List Nat):=fun i=>none
def zr:Nat→Bool:=fun i=>false
def sD(g:Nat→AV)(x0:AV)(H:Heap)(Q:AV→Heap→Prop):Prop :=
 doW (nRes H §H 1 (qBox ¢ §H 1 29 ~x0)) fun v1 H1 =>
 doQ (ab ¢ 29 ~v1 0) fun v2 =>
 doQ (ab ¢ 24 ~v2 1) fun v3 =>
 doQ (ak ¢ ¥H1 3 ~v3) fun v4 =>
 Q v4 H1
theorem yI(x0:AV)(H:Heap)(Q:AV→Heap→Prop)(h : ∀g,sD g x0 H Q):GoL env Tryz.f20 0 [.code sf] [(0,x0)] H Q:=⟨fun g=>bn (live:=za) (cut:=zr) (n:=500) (Eq.mp (by kernel_rfl) (h g))⟩
noncomputable def uj:Code:=(Tryz.f22.body).getD .skip
def Bl:Nat→Option (List Nat):=fun i=>none
def BH:Nat→Bool:=fun i=>false
def jq(g:Nat→AV)(x0 x1:AV)(H:Heap)(Q:AV→Heap→Prop):Prop :=
 doW (nRes H §H 2 (qBox ¢ §H 2 29 ~x0)) fun v1 H1 =>
 doW (nRes H1 §H1 3 (qBox ¢ §H1 3 29 ~x1)) fun v2 H2 =>
 doQ (ab ¢ 29 ~v1 0) fun v3 =>
 doQ (ak ¢ ¥H2 24 ~v3) fun v4 =>
 doQ (ab ¢ 29 ~v2 0) fun v5 =>
 doQ (ak ¢ ¥H2 24 ~v5) fun v6 =>
 doW (©true H2 9 53 [v4,v6]) fun v7 H3 =>
 gQ v7 true (ab ¢ 29 ~v1 1) fun v8 =>
 gQ v7 true (ak ¢ ¥H3 25 ~v8) fun v9 =>
 gQ v7 true (ab ¢ 29 ~v2 1) fun v10 =>
 gQ v7 true (ak ¢ ¥H3 25 ~v10) fun v11 =>
 gW v7 true H3 (©true H3 15 54 [v9,v11,(.fn (.func 55) [] [])]) fun v12 H4 =>
 doQ (bB ~v7 ~v12 ¿) fun v13 =>
 gQ v13 true (ab ¢ 29 ~v1 2) fun v14 =>
 gQ v13 true (ak ¢ ¥H4 27 ~v14) fun v15 =>
 gQ v13 true (ab ¢ 29 ~v2 2) fun v16 =>
 gQ v13 true (ak ¢ ¥H4 27 ~v16) fun v17 =>
 gQ v13 true (qBin ¢ .eql 27 °19 °21 ~v15 ~v17) fun v18 =>
 doQ (bB ~v13 ~v18 ¿) fun v19 =>
 gQ v19 true (ab ¢ 29 ~v1 3) fun v20 =>
 gQ v19 true (ak ¢ ¥H4 3 ~v20) fun v21 =>
 gQ v19 true (ab ¢ 29 ~v2 3) fun v22 =>
 gQ v19 true (ak ¢ ¥H4 3 ~v22) fun v23 =>
 gQ v19 true (qBin ¢ .eql 3 °26 °28 ~v21 ~v23) fun v24 =>
 doQ (bB ~v19 ~v24 ¿) fun v25 =>
 Q v25 H4
theorem Au(x0 x1:AV)(H:Heap)(Q:AV→Heap→Prop)(h : ∀g,jq g x0 x1 H Q):GoL env Tryz.f22 0 [.code uj] [(0,x0),(1,x1)] H Q:=⟨fun g=>bn (live:=Bl) (cut:=BH) (n:=500) (Eq.mp (by kernel_rfl) (h g))⟩
noncomputable def fe:Code:=(Tryz.f40.body).getD .skip
def kV:Nat→Option (List Nat):=fun i=>none
def k6:Nat→Bool:=fun i=>false
def bC(g:Nat→AV)(x0 x1:AV)(H:Heap)(Q:AV→Heap→Prop):Prop :=
 doW (nRes H §H 2 (qBox ¢ §H 2 92 ~x0)) fun v1 H1 =>
 doW (nRes H1 §H1 4 (bZ ¢ §H1 4 29)) fun v2 H2 =>
 doQ (ab ¢ 92 ~v1 0) fun v3 =>
 doQ (ak ¢ ¥H2 29 ~v3) fun v4 =>
 doW (©true H2 11 16 [v4]) fun v5 H3 =>
 doQ (qBin ¢ .neq 30 °12 ¤0 ~v5 £0) fun v6 =>
 br ~v6 (
 doQ (bQ ¢ 29 (some [])) fun v7 =>
 doW (au ¢ H3 29 ~v2 ~v7) fun v8 H4 =>
 doQ (aE ¢ H4 v2 29) fun v9 =>
 Q (.tup [v9,v5]) H4) (
 doQ (ak ¢ ¥H3 92 ~v1) fun v7 =>
 doW (cl env true (limf env) (limt env 0) H3 §H3 19 ~x1 [v7]) fun v8 H4 =>
 doQ (ao ~v8 0) fun v9 =>
 doQ (ao ~v8 1) fun v10 =>
 doW (nRes H4 §H4 7 (bZ ¢ §H4 7 24)) fun v11 H5 =>
 doW (au ¢ H5 24 ~v11 ~v9) fun v12 H6 =>
 doQ (qBin ¢ .neq 30 °22 ¤0 ~v10 £0) fun v13 =>
 br ~v13 (
 doQ (bQ ¢ 29 (some [])) fun v14 =>
 doW (au ¢ H6 29 ~v2 ~v14) fun v15 H7 =>
 doQ (aE ¢ H7 v2 29) fun v16 =>
 Q (.tup [v16,v10]) H7) (
 doQ (ak ¢ ¥H6 24 ~v11) fun v14 =>
 doW (©true H6 27 13 [v14]) fun v15 H7 =>
 doQ (ao ~v15 0) fun v16 =>
 doQ (ao ~v15 1) fun v17 =>
 doW (au ¢ H7 29 ~v2 ~v16) fun v18 H8 =>
 doQ (aE ¢ H8 v2 29) fun v19 =>
 Q (.tup [v19,v17]) H8))
theorem gZ(x0 x1:AV)(H:Heap)(Q:AV→Heap→Prop)(h : ∀g,bC g x0 x1 H Q):GoL env Tryz.f40 0 [.code fe] [(0,x0),(1,x1)] H Q:=⟨fun g=>bn (live:=kV) (cut:=k6) (n:=500) (Eq.mp (by kernel_rfl) (h g))⟩
noncomputable def pd:Code:=(Tryz.f41.body).getD .skip
def ve:Nat→Option (List Nat):=fun i=>none
def vj:Nat→Bool:=fun i=>false
def lg(g:Nat→AV)(x0 x1:AV)(H:Heap)(Q:AV→Heap→Prop):Prop :=
 doW (nRes H §H 2 (qBox ¢ §H 2 92 ~x0)) fun v1 H1 =>
 doW (nRes H1 §H1 3 (bZ ¢ §H1 3 24)) fun v2 H2 =>
 doQ (ab ¢ 92 ~v1 0) fun v3 =>
 doQ (ab ¢ 29 ~v3 0) fun v4 =>
 doQ (ak ¢ ¥H2 24 ~v4) fun v5 =>
 doQ (ab ¢ 92 ~v1 0) fun v6 =>
 doQ (ab ¢ 29 ~v6 3) fun v7 =>
 doQ (ak ¢ ¥H2 3 ~v7) fun v8 =>
 doQ (ab ¢ 92 ~v1 0) fun v9 =>
 doQ (ab ¢ 29 ~v9 1) fun v10 =>
 doQ (ak ¢ ¥H2 25 ~v10) fun v11 =>
 doQ (aw ¢ false ¥H2 §H2 18 .len #[25] [v11]) fun v12 =>
 doQ (qBin ¢ .add 3 °18 ¤1 ~v12 £1) fun v13 =>
 doQ (ak ¢ ¥H2 51 ~x1) fun v14 =>
 doW (©true H2 21 42 [v5,(.v (.int .i64 0)),v8,v13,v14]) fun v15 H3 =>
 doQ (ao ~v15 0) fun v16 =>
 doQ (ao ~v15 1) fun v17 =>
 doQ (ao ~v15 2) fun v18 =>
 doW (nRes H3 §H3 5 (bZ ¢ §H3 5 24)) fun v19 H4 =>
 doW (au ¢ H4 24 ~v19 ~v16) fun v20 H5 =>
 doQ (ak ¢ ¥H5 24 ~v19) fun v21 =>
 doW (au ¢ H5 24 ~v2 ~v21) fun v22 H6 =>
 doQ (aE ¢ H6 v2 24) fun v23 =>
 Q (.tup [v23,v18]) H6
theorem uN(x0 x1:AV)(H:Heap)(Q:AV→Heap→Prop)(h : ∀g,lg g x0 x1 H Q):GoL env Tryz.f41 0 [.code pd] [(0,x0),(1,x1)] H Q:=⟨fun g=>bn (live:=ve) (cut:=vj) (n:=500) (Eq.mp (by kernel_rfl) (h g))⟩
noncomputable def ic:Code:=(Tryz.f43.body).getD .skip
def kW:Nat→Option (List Nat):=fun i=>none
def k7:Nat→Bool:=fun i=>false
def fh(g:Nat→AV)(x0:AV)(H:Heap)(Q:AV→Heap→Prop):Prop :=
 doW (nRes H §H 1 (qBox ¢ §H 1 92 ~x0)) fun v1 H1 =>
 doW (nRes H1 §H1 2 (bZ ¢ §H1 2 24)) fun v2 H2 =>
 doQ (ab ¢ 92 ~v1 0) fun v3 =>
 doQ (ab ¢ 29 ~v3 0) fun v4 =>
 doQ (ak ¢ ¥H2 24 ~v4) fun v5 =>
 doQ (ab ¢ 92 ~v1 0) fun v6 =>
 doQ (ab ¢ 29 ~v6 1) fun v7 =>
 doQ (ak ¢ ¥H2 25 ~v7) fun v8 =>
 doW (©true H2 10 72 [v5,v8]) fun v9 H3 =>
 doQ (ao ~v9 0) fun v10 =>
 doQ (ao ~v9 1) fun v11 =>
 doW (au ¢ H3 24 ~v2 ~v10) fun v12 H4 =>
 doQ (aE ¢ H4 v2 24) fun v13 =>
 Q (.tup [v13,v11]) H4
theorem kS(x0:AV)(H:Heap)(Q:AV→Heap→Prop)(h : ∀g,fh g x0 H Q):GoL env Tryz.f43 0 [.code ic] [(0,x0)] H Q:=⟨fun g=>bn (live:=kW) (cut:=k7) (n:=500) (Eq.mp (by kernel_rfl) (h g))⟩
noncomputable def sd:Code:=(Tryz.f48.body).getD .skip
def y8:Nat→Option (List Nat):=fun i=>none
def zq:Nat→Bool:=fun i=>false
def sC(g:Nat→AV)(x0 x1:AV)(H:Heap)(Q:AV→Heap→Prop):Prop :=
 doW (nRes H §H 2 (qBox ¢ §H 2 24 ~x0)) fun v1 H1 =>
 doW (nRes H1 §H1 3 (qBox ¢ §H1 3 3 ~x1)) fun v2 H2 =>
 doQ (tH (.func 75) (some []) (some [v1,v2])) fun v3 =>
 doQ (ab ¢ 24 ~v1 0) fun v4 =>
 doQ (ak ¢ ¥H2 22 ~v4) fun v5 =>
 doW (©true H2 10 77 [v5,v3]) fun v6 H3 =>
 doQ (qUn ¢ .not ~v6) fun v7 =>
 Q v7 H3
theorem yH(x0 x1:AV)(H:Heap)(Q:AV→Heap→Prop)(h : ∀g,sC g x0 x1 H Q):GoL env Tryz.f48 0 [.code sd] [(0,x0),(1,x1)] H Q:=⟨fun g=>bn (live:=y8) (cut:=zq) (n:=500) (Eq.mp (by kernel_rfl) (h g))⟩
noncomputable def qc:Code:=(Tryz.f75.body).getD .skip
def wm:Nat→Option (List Nat):=fun i=>none
def wB:Nat→Bool:=fun i=>false
def eS(g:Nat→AV)(x0 x1 x2:AV)(H:Heap)(Q:AV→Heap→Prop):Prop :=
 doW (nRes H §H 3 (qBox ¢ §H 3 78 ~x0)) fun v1 H1 =>
 doQ (ab ¢ 78 ~v1 1) fun v2 =>
 doQ (ak ¢ ¥H1 76 ~v2) fun v3 =>
 doW (©true H1 11 76 [v3]) fun v4 H2 =>
 doQ (ao ~v4 0) fun v5 =>
 doQ (ao ~v4 1) fun v6 =>
 doW (nRes H2 §H2 5 (bZ ¢ §H2 5 132)) fun v7 H3 =>
 doW (au ¢ H3 132 ~v7 ~v5) fun v8 H4 =>
 doQ (ab ¢ 132 ~v7 0) fun v9 =>
 doQ (ak ¢ ¥H4 3 ~v9) fun v10 =>
 doQ (ab ¢ 24 ~x1 1) fun v11 =>
 doQ (ak ¢ ¥H4 3 ~v11) fun v12 =>
 doQ (qBin ¢ .gtr 3 °15 °17 ~v10 ~v12) fun v13 =>
 gQ v13 false (ab ¢ 132 ~v7 1) fun v14 =>
 gQ v13 false (ak ¢ ¥H4 3 ~v14) fun v15 =>
 gQ v13 false (ak ¢ ¥H4 3 ~x2) fun v16 =>
 gQ v13 false (qBin ¢ .add 3 °22 ¤1 ~v16 £1) fun v17 =>
 gQ v13 false (qBin ¢ .gtr 3 °21 °23 ~v15 ~v17) fun v18 =>
 doQ (bB ~v13 ¡ ~v18) fun v19 =>
 gQ v19 false (ab ¢ 132 ~v7 1) fun v20 =>
 gQ v19 false (ak ¢ ¥H4 3 ~v20) fun v21 =>
 gQ v19 false (ak ¢ ¥H4 3 ~x2) fun v22 =>
 gQ v19 false (qBin ¢ .add 3 °29 ¤1 ~v22 £1) fun v23 =>
 gQ v19 false (qBin ¢ .eql 3 °28 °30 ~v21 ~v23) fun v24 =>
 gQ v19 false (qVal ~v24) fun v25 =>
 gQ v25 true (ab ¢ 132 ~v7 0) fun v26 =>
 gQ v25 true (ak ¢ ¥H4 3 ~v26) fun v27 =>
 gQ v25 true (ab ¢ 24 ~x1 1) fun v28 =>
 gQ v25 true (ak ¢ ¥H4 3 ~v28) fun v29 =>
 gQ v25 true (qBin ¢ .eql 3 °34 °36 ~v27 ~v29) fun v30 =>
 gQ v19 false (bB ~v25 ~v30 ¿) fun v31 =>
 gQ v19 false (qVal ~v31) fun v32 =>
 gQ v32 true (ab ¢ 24 ~x1 3) fun v33 =>
 gQ v32 true (ak ¢ ¥H4 4 ~v33) fun v34 =>
 gQ v32 true (qUn ¢ .not ~v34) fun v35 =>
 gQ v19 false (bB ~v32 ~v35 ¿) fun v36 =>
 doQ (bB ~v19 ¡ ~v36) fun v37 =>
 doQ (ab ¢ 78 ~v1 0) fun v38 =>
 doQ (ak ¢ ¥H4 3 ~v38) fun v39 =>
 doQ (qBin ¢ .lss 3 °46 ¤2048 ~v39 £2048) fun v40 =>
 gQ v40 true (qVal ~v6) fun v41 =>
 gQ v40 true (qBin ¢ .eql 30 °49 ¤0 ~v41 £0) fun v42 =>
 doQ (bB ~v40 ~v42 ¿) fun v43 =>
 gQ v43 true (qVal ~v37) fun v44 =>
 doQ (bB ~v43 ~v44 ¿) fun v45 =>
 Q v45 H4
theorem wb(x0 x1 x2:AV)(H:Heap)(Q:AV→Heap→Prop)(h : ∀g,eS g x0 x1 x2 H Q):GoL env Tryz.f75 0 [.code qc] [(0,x0),(1,x1),(2,x2)] H Q:=⟨fun g=>bn (live:=wm) (cut:=wB) (n:=500) (Eq.mp (by kernel_rfl) (h g))⟩
noncomputable def cH:Code:=(Tryz.f77.body).getD .skip
def ef:Nat→Option (List Nat):=fun i=>none
def eg:Nat→Bool:=fun i=>false
def cI(g:Nat→AV)(x0 x1:AV)(H:Heap)(Q:AV→Heap→Prop):Prop :=
 doW (©true H 7 119 [x0,x1]) fun v1 H1 =>
 doQ (qBin ¢ .geq 3 °7 ¤0 ~v1 £0) fun v2 =>
 Q v2 H1
theorem dZ(x0 x1:AV)(H:Heap)(Q:AV→Heap→Prop)(h : ∀g,cI g x0 x1 H Q):GoL env Tryz.f77 0 [.code cH] [(0,x0),(1,x1)] H Q:=⟨fun g=>bn (live:=ef) (cut:=eg) (n:=500) (Eq.mp (by kernel_rfl) (h g))⟩
noncomputable def bL:Code:=(Tryz.f119.body).getD .skip
noncomputable def bh:List Item:=(cb 2 400 [.code bL]).getD []
def cP:Nat→Option (List Nat):=fun i=>cond (Nat.beq i 2) (some [8,0,1,7]) (none)
def cQ:Nat→Bool:=fun i=>false
def cR(g:Nat→AV)(x0 x1:AV)(H:Heap)(Q:AV→Heap→Prop):Prop :=
 doQ (aw ¢ false ¥H §H 7 .len #[22] [x0]) fun v1 =>
  GoL env Tryz.f119 0 bh [(8,(.v (.int .i64 0))),(0,x0),(1,x1),(7,v1)] H Q
theorem eB(x0 x1:AV)(H:Heap)(Q:AV→Heap→Prop)(h : ∀g,cR g x0 x1 H Q):GoL env Tryz.f119 0 [.code bL] [(0,x0),(1,x1)] H Q:=⟨fun g=>bn (live:=cP) (cut:=cQ) (n:=500) (Eq.mp (by kernel_rfl) (h g))⟩
def bj(g:Nat→AV)(x8 x0 x1 x7:AV)(H:Heap)(Q:AV→Heap→Prop):Prop :=
 doQ (qBin ¢ .lss 3 °8 °7 ~x8 ~x7) fun v1 =>
 br ~v1 (
 doQ (ax ¢ ¥H 22 ~x0 ~x8) fun v2 =>
 doQ (ak ¢ ¥H 78 ~v2) fun v3 =>
 doW (cl env true (limf env) (limt env 0) H §H 16 ~x1 [v3]) fun v4 H1 =>
 br ~v4 (
 Q x8 H1) (
 doQ (qBin ¢ .add 3 °8 ¤1 ~x8 £1) fun v5 =>
  GoL env Tryz.f119 0 bh [(8,v5),(0,x0),(1,x1),(7,x7)] H1 Q)) (
 Q (.v (.int .i64 (-1))) H)
theorem cM(x8 x0 x1 x7:AV)(H:Heap)(Q:AV→Heap→Prop)(h : ∀g,bj g x8 x0 x1 x7 H Q):GoL env Tryz.f119 0 bh [(8,x8),(0,x0),(1,x1),(7,x7)] H Q:=cV fun g=>bn (live:=cP) (cut:=cQ) (n:=500) (Eq.mp (by kernel_rfl) (h g))
noncomputable def vT:Code:=(Tryz.f53.body).getD .skip
def C7:Nat→Option (List Nat):=fun i=>none
def DA:Nat→Bool:=fun i=>false
def lV(g:Nat→AV)(x0 x1:AV)(H:Heap)(Q:AV→Heap→Prop):Prop :=
 doW (nRes H §H 2 (qBox ¢ §H 2 24 ~x0)) fun v1 H1 =>
 doW (nRes H1 §H1 3 (qBox ¢ §H1 3 24 ~x1)) fun v2 H2 =>
 doQ (ab ¢ 24 ~v1 0) fun v3 =>
 doQ (ak ¢ ¥H2 22 ~v3) fun v4 =>
 doQ (ab ¢ 24 ~v2 0) fun v5 =>
 doQ (ak ¢ ¥H2 22 ~v5) fun v6 =>
 doW (©true H2 11 88 [v4,v6,(.fn (.func 86) [] [])]) fun v7 H3 =>
 gQ v7 true (ab ¢ 24 ~v1 1) fun v8 =>
 gQ v7 true (ak ¢ ¥H3 3 ~v8) fun v9 =>
 gQ v7 true (ab ¢ 24 ~v2 1) fun v10 =>
 gQ v7 true (ak ¢ ¥H3 3 ~v10) fun v11 =>
 gQ v7 true (qBin ¢ .eql 3 °14 °16 ~v9 ~v11) fun v12 =>
 doQ (bB ~v7 ~v12 ¿) fun v13 =>
 gQ v13 true (ab ¢ 24 ~v1 2) fun v14 =>
 gQ v13 true (ak ¢ ¥H3 3 ~v14) fun v15 =>
 gQ v13 true (ab ¢ 24 ~v2 2) fun v16 =>
 gQ v13 true (ak ¢ ¥H3 3 ~v16) fun v17 =>
 gQ v13 true (qBin ¢ .eql 3 °21 °23 ~v15 ~v17) fun v18 =>
 doQ (bB ~v13 ~v18 ¿) fun v19 =>
 gQ v19 true (ab ¢ 24 ~v1 3) fun v20 =>
 gQ v19 true (ak ¢ ¥H3 4 ~v20) fun v21 =>
 gQ v19 true (ab ¢ 24 ~v2 3) fun v22 =>
 gQ v19 true (ak ¢ ¥H3 4 ~v22) fun v23 =>
 gQ v19 true (qBin ¢ .eql 4 °28 °30 ~v21 ~v23) fun v24 =>
 doQ (bB ~v19 ~v24 ¿) fun v25 =>
 Q v25 H3
theorem Ct(x0 x1:AV)(H:Heap)(Q:AV→Heap→Prop)(h : ∀g,lV g x0 x1 H Q):GoL env Tryz.f53 0 [.code vT] [(0,x0),(1,x1)] H Q:=⟨fun g=>bn (live:=C7) (cut:=DA) (n:=500) (Eq.mp (by kernel_rfl) (h g))⟩
noncomputable def su:Code:=(Tryz.f86.body).getD .skip
def zk:Nat→Option (List Nat):=fun i=>none
def zD:Nat→Bool:=fun i=>false
def oJ(g:Nat→AV)(x0 x1:AV)(H:Heap)(Q:AV→Heap→Prop):Prop :=
 doW (nRes H §H 2 (qBox ¢ §H 2 78 ~x0)) fun v1 H1 =>
 doW (nRes H1 §H1 3 (qBox ¢ §H1 3 78 ~x1)) fun v2 H2 =>
 doQ (ab ¢ 78 ~v1 0) fun v3 =>
 doQ (ak ¢ ¥H2 3 ~v3) fun v4 =>
 doQ (ab ¢ 78 ~v2 0) fun v5 =>
 doQ (ak ¢ ¥H2 3 ~v5) fun v6 =>
 doQ (qBin ¢ .eql 3 °6 °8 ~v4 ~v6) fun v7 =>
 gQ v7 true (ab ¢ 78 ~v1 1) fun v8 =>
 gQ v7 true (ak ¢ ¥H2 76 ~v8) fun v9 =>
 gQ v7 true (ab ¢ 78 ~v2 1) fun v10 =>
 gQ v7 true (ak ¢ ¥H2 76 ~v10) fun v11 =>
 gW v7 true H2 (©true H2 15 87 [v9,v11]) fun v12 H3 =>
 doQ (bB ~v7 ~v12 ¿) fun v13 =>
 Q v13 H3
theorem yU(x0 x1:AV)(H:Heap)(Q:AV→Heap→Prop)(h : ∀g,oJ g x0 x1 H Q):GoL env Tryz.f86 0 [.code su] [(0,x0),(1,x1)] H Q:=⟨fun g=>bn (live:=zk) (cut:=zD) (n:=500) (Eq.mp (by kernel_rfl) (h g))⟩
noncomputable def aL:Code:=(Tryz.f88.body).getD .skip
noncomputable def ay:List Item:=(cb 4 400 [.code aL]).getD []
def aZ:Nat→Option (List Nat):=fun i=>cond (Nat.beq i 4) (some [17,2,1,15,16]) (none)
def bc:Nat→Bool:=fun i=>false
def aN(g:Nat→AV)(x0 x1 x2:AV)(H:Heap)(Q:AV→Heap→Prop):Prop :=
 doQ (aw ¢ false ¥H §H 11 .len #[22] [x0]) fun v1 =>
 doQ (aw ¢ false ¥H §H 13 .len #[22] [x1]) fun v2 =>
 doQ (qBin ¢ .neq 3 °11 °13 ~v1 ~v2) fun v3 =>
 br ~v3 (
 Q (.v (.bool false)) H) (
 doQ (aw ¢ false ¥H §H 16 .len #[22] [x0]) fun v4 =>
  GoL env Tryz.f88 0 ay [(17,(.v (.int .i64 0))),(2,x2),(1,x1),(15,x0),(16,v4)] H Q)
theorem cm(x0 x1 x2:AV)(H:Heap)(Q:AV→Heap→Prop)(h : ∀g,aN g x0 x1 x2 H Q):GoL env Tryz.f88 0 [.code aL] [(0,x0),(1,x1),(2,x2)] H Q:=⟨fun g=>bn (live:=aZ) (cut:=bc) (n:=500) (Eq.mp (by kernel_rfl) (h g))⟩
def aA(g:Nat→AV)(x17 x2 x1 x15 x16:AV)(H:Heap)(Q:AV→Heap→Prop):Prop :=
 doQ (qBin ¢ .lss 3 °17 °16 ~x17 ~x16) fun v1 =>
 br ~v1 (
 doQ (ax ¢ ¥H 22 ~x15 ~x17) fun v2 =>
 doQ (ak ¢ ¥H 78 ~v2) fun v3 =>
 doW (nRes H §H 8 (bZ ¢ §H 8 78)) fun v4 H1 =>
 doW (au ¢ H1 78 ~v4 ~v3) fun v5 H2 =>
 doQ (ax ¢ ¥H2 22 ~x1 ~x17) fun v6 =>
 doQ (ak ¢ ¥H2 78 ~v6) fun v7 =>
 doW (nRes H2 §H2 9 (bZ ¢ §H2 9 78)) fun v8 H3 =>
 doW (au ¢ H3 78 ~v8 ~v7) fun v9 H4 =>
 doQ (ak ¢ ¥H4 78 ~v4) fun v10 =>
 doQ (ak ¢ ¥H4 78 ~v8) fun v11 =>
 doW (cl env true (limf env) (limt env 0) H4 §H4 29 ~x2 [v10,v11]) fun v12 H5 =>
 doQ (qUn ¢ .not ~v12) fun v13 =>
 br ~v13 (
 Q (.v (.bool false)) H5) (
 doQ (qBin ¢ .add 3 °17 ¤1 ~x17 £1) fun v14 =>
  GoL env Tryz.f88 0 ay [(17,v14),(2,x2),(1,x1),(15,x15),(16,x16)] H5 Q)) (
 Q (.v (.bool true)) H)
theorem aX(x17 x2 x1 x15 x16:AV)(H:Heap)(Q:AV→Heap→Prop)(h : ∀g,aA g x17 x2 x1 x15 x16 H Q):GoL env Tryz.f88 0 ay [(17,x17),(2,x2),(1,x1),(15,x15),(16,x16)] H Q:=cV fun g=>bn (live:=aZ) (cut:=bc) (n:=500) (Eq.mp (by kernel_rfl) (h g))
noncomputable def aM:Code:=(Tryz.f54.body).getD .skip
noncomputable def az:List Item:=(cb 4 400 [.code aM]).getD []
def a9:Nat→Option (List Nat):=fun i=>cond (Nat.beq i 4) (some [17,2,1,15,16]) (none)
def bg:Nat→Bool:=fun i=>false
def aO(g:Nat→AV)(x0 x1 x2:AV)(H:Heap)(Q:AV→Heap→Prop):Prop :=
 doQ (aw ¢ false ¥H §H 11 .len #[25] [x0]) fun v1 =>
 doQ (aw ¢ false ¥H §H 13 .len #[25] [x1]) fun v2 =>
 doQ (qBin ¢ .neq 3 °11 °13 ~v1 ~v2) fun v3 =>
 br ~v3 (
 Q (.v (.bool false)) H) (
 doQ (aw ¢ false ¥H §H 16 .len #[25] [x0]) fun v4 =>
  GoL env Tryz.f54 0 az [(17,(.v (.int .i64 0))),(2,x2),(1,x1),(15,x0),(16,v4)] H Q)
theorem cr(x0 x1 x2:AV)(H:Heap)(Q:AV→Heap→Prop)(h : ∀g,aO g x0 x1 x2 H Q):GoL env Tryz.f54 0 [.code aM] [(0,x0),(1,x1),(2,x2)] H Q:=⟨fun g=>bn (live:=a9) (cut:=bg) (n:=500) (Eq.mp (by kernel_rfl) (h g))⟩
def aC(g:Nat→AV)(x17 x2 x1 x15 x16:AV)(H:Heap)(Q:AV→Heap→Prop):Prop :=
 doQ (qBin ¢ .lss 3 °17 °16 ~x17 ~x16) fun v1 =>
 br ~v1 (
 doQ (ax ¢ ¥H 25 ~x15 ~x17) fun v2 =>
 doQ (ak ¢ ¥H 51 ~v2) fun v3 =>
 doW (nRes H §H 8 (bZ ¢ §H 8 51)) fun v4 H1 =>
 doW (au ¢ H1 51 ~v4 ~v3) fun v5 H2 =>
 doQ (ax ¢ ¥H2 25 ~x1 ~x17) fun v6 =>
 doQ (ak ¢ ¥H2 51 ~v6) fun v7 =>
 doW (nRes H2 §H2 9 (bZ ¢ §H2 9 51)) fun v8 H3 =>
 doW (au ¢ H3 51 ~v8 ~v7) fun v9 H4 =>
 doQ (ak ¢ ¥H4 51 ~v4) fun v10 =>
 doQ (ak ¢ ¥H4 51 ~v8) fun v11 =>
 doW (cl env true (limf env) (limt env 0) H4 §H4 29 ~x2 [v10,v11]) fun v12 H5 =>
 doQ (qUn ¢ .not ~v12) fun v13 =>
 br ~v13 (
 Q (.v (.bool false)) H5) (
 doQ (qBin ¢ .add 3 °17 ¤1 ~x17 £1) fun v14 =>
  GoL env Tryz.f54 0 az [(17,v14),(2,x2),(1,x1),(15,x15),(16,x16)] H5 Q)) (
 Q (.v (.bool true)) H)
theorem aY(x17 x2 x1 x15 x16:AV)(H:Heap)(Q:AV→Heap→Prop)(h : ∀g,aC g x17 x2 x1 x15 x16 H Q):GoL env Tryz.f54 0 az [(17,x17),(2,x2),(1,x1),(15,x15),(16,x16)] H Q:=cV fun g=>bn (live:=a9) (cut:=bg) (n:=500) (Eq.mp (by kernel_rfl) (h g))
noncomputable def bo:Code:=(Tryz.f50.body).getD .skip
noncomputable def bk:List Item:=(cb 3 400 [.code bo]).getD []
noncomputable def bJ:List Item:=(cb 11 400 [.code bo]).getD []
def bR:Nat→Option (List Nat):=fun i=>cond (Nat.beq i 3) (some [11,3,9,0,10]) (cond (Nat.beq i 11) (some [27,6,25,26]) (none))
def bS:Nat→Bool:=fun i=>false
def cY(g:Nat→AV)(x0:AV)(H:Heap)(Q:AV→Heap→Prop):Prop :=
 doQ (aw ¢ false ¥H §H 10 .len #[139] [x0]) fun v1 =>
  GoL env Tryz.f50 0 bk [(11,(.v (.int .i64 0))),(3,(.v (.int .i64 0))),(9,x0),(0,x0),(10,v1)] H Q
theorem eK(x0:AV)(H:Heap)(Q:AV→Heap→Prop)(h : ∀g,cY g x0 H Q):GoL env Tryz.f50 0 [.code bo] [(0,x0)] H Q:=⟨fun g=>bn (live:=bR) (cut:=bS) (n:=500) (Eq.mp (by kernel_rfl) (h g))⟩
def aU(g:Nat→AV)(x11 x3 x9 x0 x10:AV)(H:Heap)(Q:AV→Heap→Prop):Prop :=
 doQ (qBin ¢ .lss 3 °11 °10 ~x11 ~x10) fun v1 =>
 br ~v1 (
 doQ (ax ¢ ¥H 139 ~x9 ~x11) fun v2 =>
 doQ (ak ¢ ¥H 25 ~v2) fun v3 =>
 doQ (aw ¢ false ¥H §H 17 .len #[25] [v3]) fun v4 =>
 doQ (qBin ¢ .add 3 °15 °17 ~x3 ~v4) fun v5 =>
 doQ (qBin ¢ .lss 3 °19 ¤0 ~v5 £0) fun v6 =>
 br ~v6 (
 doQ (qH ¢ 9 (some (.v (.string ⟨#[108,101,110,32,111,117,116,32,111,102,32,114,97,110,103,101]⟩)))) fun v7 =>
 doQ (none) fun v8 =>
 doQ (qBin ¢ .add 3 °11 ¤1 ~x11 £1) fun v9 =>
  GoL env Tryz.f50 0 bk [(11,v9),(3,v5),(9,x9),(0,x0),(10,x10)] H Q) (
 doQ (qBin ¢ .add 3 °11 ¤1 ~x11 £1) fun v7 =>
  GoL env Tryz.f50 0 bk [(11,v7),(3,v5),(9,x9),(0,x0),(10,x10)] H Q)) (
 doW (©true H 24 80 [(.v (.slice none 0 0)),x3]) fun v2 H1 =>
 doQ (aw ¢ false ¥H1 §H1 26 .len #[139] [x0]) fun v3 =>
  GoL env Tryz.f50 0 bJ [(27,(.v (.int .i64 0))),(6,v2),(25,x0),(26,v3)] H1 Q)
theorem bM(x11 x3 x9 x0 x10:AV)(H:Heap)(Q:AV→Heap→Prop)(h : ∀g,aU g x11 x3 x9 x0 x10 H Q):GoL env Tryz.f50 0 bk [(11,x11),(3,x3),(9,x9),(0,x0),(10,x10)] H Q:=cV fun g=>bn (live:=bR) (cut:=bS) (n:=500) (Eq.mp (by kernel_rfl) (h g))
def an(g:Nat→AV)(x27 x6 x25 x26:AV)(H:Heap)(Q:AV→Heap→Prop):Prop :=
 doQ (qBin ¢ .lss 3 °27 °26 ~x27 ~x26) fun v1 =>
 br ~v1 (
 doQ (ax ¢ ¥H 139 ~x25 ~x27) fun v2 =>
 doQ (ak ¢ ¥H 25 ~v2) fun v3 =>
 doW (cE ¢ true H §H 33 (some 25) (some 25) x6 v3) fun v4 H1 =>
 doQ (qBin ¢ .add 3 °27 ¤1 ~x27 £1) fun v5 =>
  GoL env Tryz.f50 0 bJ [(27,v5),(6,v4),(25,x25),(26,x26)] H1 Q) (
 Q x6 H)
theorem aT(x27 x6 x25 x26:AV)(H:Heap)(Q:AV→Heap→Prop)(h : ∀g,an g x27 x6 x25 x26 H Q):GoL env Tryz.f50 0 bJ [(27,x27),(6,x6),(25,x25),(26,x26)] H Q:=cV fun g=>bn (live:=bR) (cut:=bS) (n:=500) (Eq.mp (by kernel_rfl) (h g))
noncomputable def bX:Code:=(Tryz.f80.body).getD .skip
def eW:Nat→Option (List Nat):=fun i=>none
def eX:Nat→Bool:=fun i=>false
def bY(g:Nat→AV)(x0 x1:AV)(H:Heap)(Q:AV→Heap→Prop):Prop :=
 doQ (qBin ¢ .lss 3 °5 ¤0 ~x1 £0) fun v1 =>
 br ~v1 (
 doQ (qH ¢ 9 (some (.v (.string ⟨#[99,97,110,110,111,116,32,98,101,32,110,101,103,97,116,105,118,101]⟩)))) fun v2 =>
 doQ (none) fun v3 =>
 doQ (aw ¢ false ¥H §H 10 .cap #[25] [x0]) fun v4 =>
 doQ (aw ¢ false ¥H §H 12 .len #[25] [x0]) fun v5 =>
 doQ (qBin ¢ .sub 3 °10 °12 ~v4 ~v5) fun v6 =>
 doQ (qBin ¢ .sub 3 °8 °13 ~x1 ~v6) fun v7 =>
 doQ (qBin ¢ .gtr 3 °15 ¤0 ~v7 £0) fun v8 =>
 br ~v8 (
 doQ (aw ¢ false ¥H §H 19 .cap #[25] [x0]) fun v9 =>
 doQ (cu ¢ ¥H 25 ~x0 (some none) (oi v9) (some none)) fun v10 =>
 doW (cE ¢ true H §H 22 (some 25) (some 3) v10 v7) fun v11 H1 =>
 doQ (aw ¢ false ¥H1 §H1 24 .len #[25] [x0]) fun v12 =>
 doQ (cu ¢ ¥H1 25 ~v11 (some none) (oi v12) (some none)) fun v13 =>
 Q v13 H1) (
 Q x0 H)) (
 doQ (aw ¢ false ¥H §H 10 .cap #[25] [x0]) fun v2 =>
 doQ (aw ¢ false ¥H §H 12 .len #[25] [x0]) fun v3 =>
 doQ (qBin ¢ .sub 3 °10 °12 ~v2 ~v3) fun v4 =>
 doQ (qBin ¢ .sub 3 °8 °13 ~x1 ~v4) fun v5 =>
 doQ (qBin ¢ .gtr 3 °15 ¤0 ~v5 £0) fun v6 =>
 br ~v6 (
 doQ (aw ¢ false ¥H §H 19 .cap #[25] [x0]) fun v7 =>
 doQ (cu ¢ ¥H 25 ~x0 (some none) (oi v7) (some none)) fun v8 =>
 doW (cE ¢ true H §H 22 (some 25) (some 3) v8 v5) fun v9 H1 =>
 doQ (aw ¢ false ¥H1 §H1 24 .len #[25] [x0]) fun v10 =>
 doQ (cu ¢ ¥H1 25 ~v9 (some none) (oi v10) (some none)) fun v11 =>
 Q v11 H1) (
 Q x0 H))
theorem dc(x0 x1:AV)(H:Heap)(Q:AV→Heap→Prop)(h : ∀g,bY g x0 x1 H Q):GoL env Tryz.f80 0 [.code bX] [(0,x0),(1,x1)] H Q:=⟨fun g=>bn (live:=eW) (cut:=eX) (n:=500) (Eq.mp (by kernel_rfl) (h g))⟩
end Go.Proofs.YtiidajnodhkidaaGreat
