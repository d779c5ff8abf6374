/-
  What is to be shown of each function, computed from its code. No statement of a seat is proved here.
-/
import Derived.Test.YtmkmimgokagimaaGreatLeTy
set_option linter.unusedVariables false
set_option maxRecDepth 1000000
namespace Go.Proofs.YtmkmimgokagimaaGreat
open Go.Ab
local notation:max "©" b:max h:max n:max f:max a:max=>aG env b (limf env) (limt env 0) h (Ref.mk 0 n (Heap.gen h 0 n) 0) (some (AV.fn (Fn.func f) [] [])) a
local notation:max "§" h:max n:max=>Ref.mk 0 n (Heap.gen h 0 n) 0
local notation:max "~" a:max=>some a
local notation:max "¥" h:max=>Heap.get h
local notation:max "¤" n:max=>(Operand.const (Value.int IntKind.i64 n))
local notation:max "£" n:max=>some (AV.v (Value.int IntKind.i64 n))
local notation:max "¡" => some (AV.v (Value.bool true))
local notation:max "¿" => some (AV.v (Value.bool false))
local notation:max "°" n:max=>(Operand.tmp n)
local notation:max "¢" => env.P
noncomputable def Ar:Code:=(Tryz.f137.body).getD .skip
def EY:Nat→Option (List Nat):=fun i=>none
def Fs:Nat→Bool:=fun i=>false
def qF(g:Nat→AV)(x0 x1:AV)(H:Heap)(Q:AV→Heap→Prop):Prop :=
 doW (nRes H §H 3 (qBox ¢ §H 3 38 ~x1)) fun v1 H1 =>
 doW (©true H1 10 172 [x0]) fun v2 H2 =>
 doQ (aq ~v2 0) fun v3 =>
 doQ (aq ~v2 1) fun v4 =>
 doQ (qUn ¢ .not ~v4) fun v5 =>
 br ~v5 (
 Q (.v (.int .i64 8)) H2) (
 doQ (ai ¢ ¥H2 38 ~v1) fun v6 =>
 doW (©true H2 16 70 [v6]) fun v7 H3 =>
 doQ (qBin ¢ .neq 42 °17 ¤0 ~v7 £0) fun v8 =>
 br ~v8 (
 Q v7 H3) (
 doQ (ai ¢ ¥H3 38 ~v1) fun v9 =>
 doW (©true H3 22 193 [v3,v9]) fun v10 H4 =>
 Q v10 H4))
theorem Em(x0 x1:AV)(H:Heap)(Q:AV→Heap→Prop)(h : ∀g,qF g x0 x1 H Q):GoL env Tryz.f137 0 [.code Ar] [(0,x0),(1,x1)] H Q:=⟨fun g=>aJ (live:=EY) (cut:=Fs) (n:=500) (Eq.mp (by kernel_rfl) (h g))⟩
noncomputable def vC:Code:=(Tryz.f172.body).getD .skip
noncomputable def kj:List Item:=(bS 3 400 [.code vC]).getD []
noncomputable def mD:List Item:=(bS 10 400 [.code vC]).getD []
def zy:Nat→Option (List Nat):=fun i=>cond (Nat.beq i 3) (some [4,14,12,13]) (cond (Nat.beq i 10) (some [44,4,42,12,13,14,43]) (none))
def z7:Nat→Bool:=fun i=>false
def D9(dep:Nat)(g:Nat→AV)(x0:AV)(H:Heap)(Q:AV→Heap→Prop):Prop :=
 doW (nRes H (⟨(dep+1),9,Heap.gen H (dep+1) 9,0⟩:Ref) (some (.mp (⟨(dep+1),9,Heap.gen H (dep+1) 9,0⟩:Ref),[bm []]))) fun v1 H1 =>
 doQ (bI ¢ 266 (some [(1,v1)])) fun v2 =>
 doW (nRes H1 (⟨(dep+1),11,Heap.gen H1 (dep+1) 11,0⟩:Ref) (qBox ¢ (⟨(dep+1),11,Heap.gen H1 (dep+1) 11,0⟩:Ref) 266 ~v2)) fun v3 H2 =>
 doQ (aA ¢ false ¥H2 (⟨(dep+1),13,Heap.gen H2 (dep+1) 13,0⟩:Ref) .len #[41] [x0]) fun v4 =>
  GoL env Tryz.f172 (dep+1) kj [(4,v3),(14,(.v (.int .i64 0))),(12,x0),(13,v4)] H2 Q
theorem Ie(dep:Nat)(x0:AV)(H:Heap)(Q:AV→Heap→Prop)(h : ∀g,D9 dep g x0 H Q):GoL env Tryz.f172 (dep+1) [.code vC] [(0,x0)] H Q:=⟨fun g=>aJ (live:=zy) (cut:=z7) (n:=500) (Eq.mp (by kernel_rfl) (h g))⟩
def qE(dep:Nat)(g:Nat→AV)(x4 x14 x12 x13:AV)(H:Heap)(Q:AV→Heap→Prop):Prop :=
 doQ (qBin ¢ .lss 3 °14 °13 ~x14 ~x13) fun v1 =>
 br ~v1 (
 doQ (aH ¢ ¥H 41 ~x12 ~x14) fun v2 =>
 doQ (ai ¢ ¥H 38 ~v2) fun v3 =>
 doW (nRes H (⟨(dep+1),6,Heap.gen H (dep+1) 6,0⟩:Ref) (bq ¢ (⟨(dep+1),6,Heap.gen H (dep+1) 6,0⟩:Ref) 38)) fun v4 H1 =>
 doW (aC ¢ H1 38 ~v4 ~v3) fun v5 H2 =>
 doQ (ai ¢ ¥H2 38 ~v4) fun v6 =>
 doW (aG env true (limf env) (limt env (dep+1)) H2 (⟨(dep+1),19,Heap.gen H2 (dep+1) 19,0⟩:Ref) (some (.fn (.func 70) [] [])) [v6]) fun v7 H3 =>
 doQ (qBin ¢ .neq 42 °19 ¤0 ~v7 £0) fun v8 =>
 gQ v8 false (qVal ~x4) fun v9 =>
 gQ v8 false (ai ¢ ¥H3 38 ~v4) fun v10 =>
 gW v8 false H3 (aG env true (limf env) (limt env (dep+1)) H3 (⟨(dep+1),24,Heap.gen H3 (dep+1) 24,0⟩:Ref) (some (.fn (.func 193) [] [])) [v9,v10]) fun v11 H4 =>
 gQ v8 false (qBin ¢ .neq 42 °24 ¤0 ~v11 £0) fun v12 =>
 doQ (aM ~v8 ¡ ~v12) fun v13 =>
 br ~v13 (
 Q (.tup [(.v (.pointer none)),(.v (.bool false))]) H4) (
 doQ (qNil ~x4) fun v14 =>
 doQ (aa ¢ 266 ~v14 0) fun v15 =>
 doQ (ai ¢ ¥H4 41 ~v15) fun v16 =>
 doQ (ai ¢ ¥H4 38 ~v4) fun v17 =>
 doW (gm ¢ true false H4 (⟨(dep+1),33,Heap.gen H4 (dep+1) 33,0⟩:Ref) 41 1 (some [(0,v17)])) fun v18 H5 =>
 doW (cO ¢ true H5 (⟨(dep+1),34,Heap.gen H5 (dep+1) 34,0⟩:Ref) (some 41) (some 41) v16 v18) fun v19 H6 =>
 doQ (qNil ~x4) fun v20 =>
 doQ (aa ¢ 266 ~v20 0) fun v21 =>
 doW (aC ¢ H6 41 ~v21 ~v19) fun v22 H7 =>
 doQ (aa ¢ 38 ~v4 0) fun v23 =>
 doQ (ai ¢ ¥H7 5 ~v23) fun v24 =>
 doQ (qBin ¢ .eql 5 °38 (.const (.int .u8 1)) ~v24 (some (a8 1))) fun v25 =>
 br ~v25 (
 doQ (aa ¢ 38 ~v4 3) fun v26 =>
 doQ (ai ¢ ¥H7 35 ~v26) fun v27 =>
 doW (aG env true (limf env) (limt env (dep+1)) H7 (⟨(dep+1),42,Heap.gen H7 (dep+1) 42,0⟩:Ref) (some (.fn (.func 213) [] [])) [v27]) fun v28 H8 =>
 doQ (aA ¢ false ¥H8 (⟨(dep+1),43,Heap.gen H8 (dep+1) 43,0⟩:Ref) .len #[244] [v28]) fun v29 =>
  GoL env Tryz.f172 (dep+1) mD [(44,(.v (.int .i64 0))),(4,x4),(42,v28),(12,x12),(13,x13),(14,x14),(43,v29)] H8 Q) (
 doQ (qBin ¢ .add 3 °14 ¤1 ~x14 £1) fun v26 =>
  GoL env Tryz.f172 (dep+1) kj [(4,x4),(14,v26),(12,x12),(13,x13)] H7 Q))) (
 Q (.tup [x4,(.v (.bool true))]) H)
theorem yN(dep:Nat)(x4 x14 x12 x13:AV)(H:Heap)(Q:AV→Heap→Prop)(h : ∀g,qE dep g x4 x14 x12 x13 H Q):GoL env Tryz.f172 (dep+1) kj [(4,x4),(14,x14),(12,x12),(13,x13)] H Q:=dk fun g=>aJ (live:=zy) (cut:=z7) (n:=500) (Eq.mp (by kernel_rfl) (h g))
def sx(dep:Nat)(g:Nat→AV)(x44 x4 x42 x12 x13 x14 x43:AV)(H:Heap)(Q:AV→Heap→Prop):Prop :=
 doQ (qBin ¢ .lss 3 °44 °43 ~x44 ~x43) fun v1 =>
 br ~v1 (
 doQ (aH ¢ ¥H 244 ~x42 ~x44) fun v2 =>
 doQ (ai ¢ ¥H 33 ~v2) fun v3 =>
 doW (nRes H (⟨(dep+1),8,Heap.gen H (dep+1) 8,0⟩:Ref) (bq ¢ (⟨(dep+1),8,Heap.gen H (dep+1) 8,0⟩:Ref) 33)) fun v4 H1 =>
 doW (aC ¢ H1 33 ~v4 ~v3) fun v5 H2 =>
 doQ (qNil ~x4) fun v6 =>
 doQ (aa ¢ 266 ~v6 1) fun v7 =>
 doQ (ai ¢ ¥H2 264 ~v7) fun v8 =>
 doQ (ai ¢ ¥H2 33 ~v4) fun v9 =>
 doW (cR ¢ H2 264 ~v8 ~v9 ¡) fun v10 H3 =>
 doQ (qBin ¢ .add 3 °44 ¤1 ~x44 £1) fun v11 =>
  GoL env Tryz.f172 (dep+1) mD [(44,v11),(4,x4),(42,x42),(12,x12),(13,x13),(14,x14),(43,x43)] H3 Q) (
 doQ (qBin ¢ .add 3 °14 ¤1 ~x14 £1) fun v2 =>
  GoL env Tryz.f172 (dep+1) kj [(4,x4),(14,v2),(12,x12),(13,x13)] H Q)
theorem xj(dep:Nat)(x44 x4 x42 x12 x13 x14 x43:AV)(H:Heap)(Q:AV→Heap→Prop)(h : ∀g,sx dep g x44 x4 x42 x12 x13 x14 x43 H Q):GoL env Tryz.f172 (dep+1) mD [(44,x44),(4,x4),(42,x42),(12,x12),(13,x13),(14,x14),(43,x43)] H Q:=dk fun g=>aJ (live:=zy) (cut:=z7) (n:=500) (Eq.mp (by kernel_rfl) (h g))
noncomputable def fS:Code:=(Tryz.f193.body).getD .skip
def kZ:Nat→Option (List Nat):=fun i=>none
def lG:Nat→Bool:=fun i=>false
def cQ(dep:Nat)(g:Nat→AV)(x0 x1:AV)(H:Heap)(Q:AV→Heap→Prop):Prop :=
 doW (nRes H (⟨(dep+1),3,Heap.gen H (dep+1) 3,0⟩:Ref) (qBox ¢ (⟨(dep+1),3,Heap.gen H (dep+1) 3,0⟩:Ref) 38 ~x1)) fun v1 H1 =>
 doQ (bI ¢ 271 (some [(1,(.fn (.func 218) [] [])),(2,(.fn (.func 219) [] [])),(3,(.fn (.func 220) [] []))])) fun v2 =>
 doQ (aa ¢ 38 ~v1 0) fun v3 =>
 doQ (ai ¢ ¥H1 5 ~v3) fun v4 =>
 doQ (nN ¢ 271 ~v2 ~v4) fun v5 =>
 doQ (ai ¢ ¥H1 38 ~v1) fun v6 =>
 doW (aG env true (limf env) (limt env (dep+1)) H1 (⟨(dep+1),12,Heap.gen H1 (dep+1) 12,0⟩:Ref) ~v5 [x0,v6]) fun v7 H2 =>
 doQ (qBin ¢ .eql 42 °13 ¤0 ~v7 £0) fun v8 =>
 gQ v8 true (qVal ~x0) fun v9 =>
 gQ v8 true (qNil ~v9) fun v10 =>
 gQ v8 true (aa ¢ 266 ~v10 0) fun v11 =>
 gQ v8 true (ai ¢ ¥H2 41 ~v11) fun v12 =>
 gQ v8 true (aA ¢ false ¥H2 (⟨(dep+1),20,Heap.gen H2 (dep+1) 20,0⟩:Ref) .len #[41] [v12]) fun v13 =>
 gQ v8 true (qBin ¢ .geq 3 °20 ¤2048 ~v13 £2048) fun v14 =>
 doQ (aM ~v8 ~v14 ¿) fun v15 =>
 br ~v15 (
 Q (.v (.int .i64 4)) H2) (
 Q v7 H2)
theorem kQ(dep:Nat)(x0 x1:AV)(H:Heap)(Q:AV→Heap→Prop)(h : ∀g,cQ dep g x0 x1 H Q):GoL env Tryz.f193 (dep+1) [.code fS] [(0,x0),(1,x1)] H Q:=⟨fun g=>aJ (live:=kZ) (cut:=lG) (n:=500) (Eq.mp (by kernel_rfl) (h g))⟩
noncomputable def rS:Code:=(Tryz.f213.body).getD .skip
noncomputable def jK:List Item:=(bS 2 400 [.code rS]).getD []
def xv:Nat→Option (List Nat):=fun i=>cond (Nat.beq i 2) (some [8,2,1,7]) (none)
def xD:Nat→Bool:=fun i=>false
def xM(g:Nat→AV)(x0:AV)(H:Heap)(Q:AV→Heap→Prop):Prop :=
 doW (nRes H §H 1 (qBox ¢ §H 1 35 ~x0)) fun v1 H1 =>
 doQ (aa ¢ 35 ~v1 1) fun v2 =>
 doQ (ai ¢ ¥H1 3 ~v2) fun v3 =>
  GoL env Tryz.f213 0 jK [(8,(.v (.int .i64 0))),(2,(.v (.slice none 0 0))),(1,v1),(7,v3)] H1 Q
theorem Dg(x0:AV)(H:Heap)(Q:AV→Heap→Prop)(h : ∀g,xM g x0 H Q):GoL env Tryz.f213 0 [.code rS] [(0,x0)] H Q:=⟨fun g=>aJ (live:=xv) (cut:=xD) (n:=500) (Eq.mp (by kernel_rfl) (h g))⟩
def mr(g:Nat→AV)(x8 x2 x1 x7:AV)(H:Heap)(Q:AV→Heap→Prop):Prop :=
 doQ (qBin ¢ .lss 3 °8 °7 ~x8 ~x7) fun v1 =>
 br ~v1 (
 doQ (ai ¢ ¥H 35 ~x1) fun v2 =>
 doW (©true H 14 228 [v2,x8]) fun v3 H1 =>
 doQ (aq ~v3 0) fun v4 =>
 doQ (aq ~v3 1) fun v5 =>
 doW (nRes H1 §H1 4 (bq ¢ §H1 4 33)) fun v6 H2 =>
 doW (aC ¢ H2 33 ~v6 ~v4) fun v7 H3 =>
 doQ (ai ¢ ¥H3 33 ~v6) fun v8 =>
 doW (gm ¢ false true H3 §H3 19 244 1 (some [(0,v8)])) fun v9 H4 =>
 doW (cO ¢ true H4 §H4 20 (some 244) (some 244) x2 v9) fun v10 H5 =>
 doQ (qBin ¢ .add 3 °8 ¤1 ~x8 £1) fun v11 =>
  GoL env Tryz.f213 0 jK [(8,v11),(2,v10),(1,x1),(7,x7)] H5 Q) (
 Q x2 H)
theorem ti(x8 x2 x1 x7:AV)(H:Heap)(Q:AV→Heap→Prop)(h : ∀g,mr g x8 x2 x1 x7 H Q):GoL env Tryz.f213 0 jK [(8,x8),(2,x2),(1,x1),(7,x7)] H Q:=dk fun g=>aJ (live:=xv) (cut:=xD) (n:=500) (Eq.mp (by kernel_rfl) (h g))
noncomputable def fw:Code:=(Tryz.f218.body).getD .skip
def kf:Nat→Option (List Nat):=fun i=>none
def kp:Nat→Bool:=fun i=>false
def cH(dep:Nat)(g:Nat→AV)(x0 x1:AV)(H:Heap)(Q:AV→Heap→Prop):Prop :=
 doW (nRes H (⟨(dep+1),2,Heap.gen H (dep+1) 2,0⟩:Ref) (qBox ¢ (⟨(dep+1),2,Heap.gen H (dep+1) 2,0⟩:Ref) 230 ~x0)) fun v1 H1 =>
 doW (nRes H1 (⟨(dep+1),3,Heap.gen H1 (dep+1) 3,0⟩:Ref) (qBox ¢ (⟨(dep+1),3,Heap.gen H1 (dep+1) 3,0⟩:Ref) 38 ~x1)) fun v2 H2 =>
 doQ (aa ¢ 38 ~v2 4) fun v3 =>
 doQ (ai ¢ ¥H2 33 ~v3) fun v4 =>
 doQ (bI ¢ 33 (some [])) fun v5 =>
 doQ (qBin ¢ .neq 33 °8 °9 ~v4 ~v5) fun v6 =>
 gQ v6 true (ai ¢ ¥H2 230 ~v1) fun v7 =>
 gQ v6 true (ai ¢ ¥H2 38 ~v2) fun v8 =>
 gQ v6 true (aa ¢ 38 ~v2 4) fun v9 =>
 gQ v6 true (ai ¢ ¥H2 33 ~v9) fun v10 =>
 gW v6 true H2 (aG env true (limf env) (limt env (dep+1)) H2 (⟨(dep+1),16,Heap.gen H2 (dep+1) 16,0⟩:Ref) (some (.fn (.func 230) [] [])) [v7,v8,v10]) fun v11 H3 =>
 gQ v6 true (qUn ¢ .not ~v11) fun v12 =>
 doQ (aM ~v6 ~v12 ¿) fun v13 =>
 br ~v13 (
 Q (.v (.int .i64 6)) H3) (
 doQ (ai ¢ ¥H3 38 ~v2) fun v14 =>
 doW (aG env true (limf env) (limt env (dep+1)) H3 (⟨(dep+1),21,Heap.gen H3 (dep+1) 21,0⟩:Ref) (some (.fn (.func 231) [] [])) [v14]) fun v15 H4 =>
 doQ (aq ~v15 0) fun v16 =>
 doQ (aq ~v15 1) fun v17 =>
 doW (nRes H4 (⟨(dep+1),5,Heap.gen H4 (dep+1) 5,0⟩:Ref) (bq ¢ (⟨(dep+1),5,Heap.gen H4 (dep+1) 5,0⟩:Ref) 249)) fun v18 H5 =>
 doW (aC ¢ H5 249 ~v18 ~v16) fun v19 H6 =>
 doQ (qBin ¢ .neq 42 °24 ¤0 ~v17 £0) fun v20 =>
 gQ v20 false (aa ¢ 38 ~v2 3) fun v21 =>
 gQ v20 false (ai ¢ ¥H6 35 ~v21) fun v22 =>
 gW v20 false H6 (aG env true (limf env) (limt env (dep+1)) H6 (⟨(dep+1),29,Heap.gen H6 (dep+1) 29,0⟩:Ref) (some (.fn (.func 213) [] [])) [v22]) fun v23 H7 =>
 gQ v20 false (gI (.func 233) (some []) (some [v1])) fun v24 =>
 gW v20 false H7 (aG env true (limf env) (limt env (dep+1)) H7 (⟨(dep+1),31,Heap.gen H7 (dep+1) 31,0⟩:Ref) (some (.fn (.func 232) [] [])) [v23,v24]) fun v25 H8 =>
 doQ (aM ~v20 ¡ ~v25) fun v26 =>
 br ~v26 (
 Q (.v (.int .i64 2)) H8) (
 doQ (ai ¢ ¥H8 230 ~v1) fun v27 =>
 doQ (qNil ~v27) fun v28 =>
 doQ (aa ¢ 266 ~v28 1) fun v29 =>
 doQ (ai ¢ ¥H8 264 ~v29) fun v30 =>
 doQ (aA ¢ false ¥H8 (⟨(dep+1),37,Heap.gen H8 (dep+1) 37,0⟩:Ref) .len #[264] [v30]) fun v31 =>
 doQ (aa ¢ 38 ~v2 3) fun v32 =>
 doQ (aa ¢ 35 ~v32 1) fun v33 =>
 doQ (ai ¢ ¥H8 3 ~v33) fun v34 =>
 doQ (qBin ¢ .add 3 °37 °40 ~v31 ~v34) fun v35 =>
 doQ (qBin ¢ .gtr 3 °41 ¤8192 ~v35 £8192) fun v36 =>
 br ~v36 (
 Q (.v (.int .i64 4)) H8) (
 Q (.v (.int .i64 0)) H8)))
theorem jY(dep:Nat)(x0 x1:AV)(H:Heap)(Q:AV→Heap→Prop)(h : ∀g,cH dep g x0 x1 H Q):GoL env Tryz.f218 (dep+1) [.code fw] [(0,x0),(1,x1)] H Q:=⟨fun g=>aJ (live:=kf) (cut:=kp) (n:=500) (Eq.mp (by kernel_rfl) (h g))⟩
noncomputable def fv:Code:=(Tryz.f219.body).getD .skip
def ke:Nat→Option (List Nat):=fun i=>none
def ko:Nat→Bool:=fun i=>false
def fy(dep:Nat)(g:Nat→AV)(x0 x1:AV)(H:Heap)(Q:AV→Heap→Prop):Prop :=
 doW (nRes H (⟨(dep+1),3,Heap.gen H (dep+1) 3,0⟩:Ref) (qBox ¢ (⟨(dep+1),3,Heap.gen H (dep+1) 3,0⟩:Ref) 38 ~x1)) fun v1 H1 =>
 doQ (ai ¢ ¥H1 38 ~v1) fun v2 =>
 doW (aG env true (limf env) (limt env (dep+1)) H1 (⟨(dep+1),8,Heap.gen H1 (dep+1) 8,0⟩:Ref) (some (.fn (.func 234) [] [])) [x0,v2]) fun v3 H2 =>
 doQ (qUn ¢ .not ~v3) fun v4 =>
 br ~v4 (
 Q (.v (.int .i64 6)) H2) (
 doQ (aa ¢ 38 ~v1 3) fun v5 =>
 doQ (aa ¢ 35 ~v5 0) fun v6 =>
 doQ (aa ¢ 33 ~v6 0) fun v7 =>
 doQ (aa ¢ 31 ~v7 0) fun v8 =>
 doQ (ai ¢ ¥H2 29 ~v8) fun v9 =>
 doQ (aa ¢ 38 ~v1 1) fun v10 =>
 doQ (aa ¢ 31 ~v10 0) fun v11 =>
 doQ (ai ¢ ¥H2 29 ~v11) fun v12 =>
 doQ (qBin ¢ .neq 29 °15 °18 ~v9 ~v12) fun v13 =>
 br ~v13 (
 Q (.v (.int .i64 2)) H2) (
 Q (.v (.int .i64 0)) H2))
theorem jX(dep:Nat)(x0 x1:AV)(H:Heap)(Q:AV→Heap→Prop)(h : ∀g,fy dep g x0 x1 H Q):GoL env Tryz.f219 (dep+1) [.code fv] [(0,x0),(1,x1)] H Q:=⟨fun g=>aJ (live:=ke) (cut:=ko) (n:=500) (Eq.mp (by kernel_rfl) (h g))⟩
noncomputable def fE:Code:=(Tryz.f220.body).getD .skip
def kG:Nat→Option (List Nat):=fun i=>none
def kI:Nat→Bool:=fun i=>false
def fG(dep:Nat)(g:Nat→AV)(x0 x1:AV)(H:Heap)(Q:AV→Heap→Prop):Prop :=
 doW (nRes H (⟨(dep+1),3,Heap.gen H (dep+1) 3,0⟩:Ref) (qBox ¢ (⟨(dep+1),3,Heap.gen H (dep+1) 3,0⟩:Ref) 38 ~x1)) fun v1 H1 =>
 doQ (ai ¢ ¥H1 38 ~v1) fun v2 =>
 doW (aG env true (limf env) (limt env (dep+1)) H1 (⟨(dep+1),9,Heap.gen H1 (dep+1) 9,0⟩:Ref) (some (.fn (.func 234) [] [])) [x0,v2]) fun v3 H2 =>
 doQ (qUn ¢ .not ~v3) fun v4 =>
 br ~v4 (
 Q (.v (.int .i64 6)) H2) (
 doQ (qNil ~x0) fun v5 =>
 doQ (aa ¢ 266 ~v5 0) fun v6 =>
 doQ (ai ¢ ¥H2 41 ~v6) fun v7 =>
 doQ (ai ¢ ¥H2 38 ~v1) fun v8 =>
 doW (aG env false (limf env) (limt env (dep+1)) H2 (⟨(dep+1),17,Heap.gen H2 (dep+1) 17,0⟩:Ref) (some (.fn (.func 235) [] [])) [v7,v8]) fun v9 H3 =>
 doQ (aq ~v9 0) fun v10 =>
 doQ (aq ~v9 1) fun v11 =>
 doQ (qBin ¢ .neq 42 °20 ¤0 ~v11 £0) fun v12 =>
 gQ v12 false (qVal ~v10) fun v13 =>
 gQ v12 false (qUn ¢ .not ~v13) fun v14 =>
 doQ (aM ~v12 ¡ ~v14) fun v15 =>
 br ~v15 (
 Q (.v (.int .i64 2)) H3) (
 Q (.v (.int .i64 0)) H3))
theorem kE(dep:Nat)(x0 x1:AV)(H:Heap)(Q:AV→Heap→Prop)(h : ∀g,fG dep g x0 x1 H Q):GoL env Tryz.f220 (dep+1) [.code fE] [(0,x0),(1,x1)] H Q:=⟨fun g=>aJ (live:=kG) (cut:=kI) (n:=500) (Eq.mp (by kernel_rfl) (h g))⟩
noncomputable def fR:Code:=(Tryz.f230.body).getD .skip
def kY:Nat→Option (List Nat):=fun i=>none
def lF:Nat→Bool:=fun i=>false
def dH(dep:Nat)(g:Nat→AV)(x0 x1 x2:AV)(H:Heap)(Q:AV→Heap→Prop):Prop :=
 doW (nRes H (⟨(dep+1),4,Heap.gen H (dep+1) 4,0⟩:Ref) (qBox ¢ (⟨(dep+1),4,Heap.gen H (dep+1) 4,0⟩:Ref) 38 ~x1)) fun v1 H1 =>
 doW (nRes H1 (⟨(dep+1),5,Heap.gen H1 (dep+1) 5,0⟩:Ref) (qBox ¢ (⟨(dep+1),5,Heap.gen H1 (dep+1) 5,0⟩:Ref) 33 ~x2)) fun v2 H2 =>
 doQ (qNil ~x0) fun v3 =>
 doQ (aa ¢ 266 ~v3 1) fun v4 =>
 doQ (ai ¢ ¥H2 264 ~v4) fun v5 =>
 doQ (ai ¢ ¥H2 33 ~v2) fun v6 =>
 doQ (cE ¢ ¥H2 264 ~v5 ~v6 false) fun v7 =>
 gQ v7 true (aa ¢ 33 ~v2 0) fun v8 =>
 gQ v7 true (aa ¢ 31 ~v8 0) fun v9 =>
 gQ v7 true (ai ¢ ¥H2 29 ~v9) fun v10 =>
 gQ v7 true (aa ¢ 38 ~v1 1) fun v11 =>
 gQ v7 true (aa ¢ 31 ~v11 0) fun v12 =>
 gQ v7 true (ai ¢ ¥H2 29 ~v12) fun v13 =>
 gW v7 true H2 (aG env false (limf env) (limt env (dep+1)) H2 (⟨(dep+1),20,Heap.gen H2 (dep+1) 20,0⟩:Ref) (some (.fn (.func 47) [] [])) [v10,v13]) fun v14 H3 =>
 doQ (aM ~v7 ~v14 ¿) fun v15 =>
 Q v15 H3
theorem kP(dep:Nat)(x0 x1 x2:AV)(H:Heap)(Q:AV→Heap→Prop)(h : ∀g,dH dep g x0 x1 x2 H Q):GoL env Tryz.f230 (dep+1) [.code fR] [(0,x0),(1,x1),(2,x2)] H Q:=⟨fun g=>aJ (live:=kY) (cut:=lF) (n:=500) (Eq.mp (by kernel_rfl) (h g))⟩
noncomputable def cd:Code:=(Tryz.f232.body).getD .skip
def dJ:Nat→Option (List Nat):=fun i=>none
def dK:Nat→Bool:=fun i=>false
def cf(dep:Nat)(g:Nat→AV)(x0 x1:AV)(H:Heap)(Q:AV→Heap→Prop):Prop :=
 doW (aG env true (limf env) (limt env (dep+1)) H (⟨(dep+1),7,Heap.gen H (dep+1) 7,0⟩:Ref) (some (.fn (.func 241) [] [])) [x0,x1]) fun v1 H1 =>
 doQ (qBin ¢ .geq 3 °7 ¤0 ~v1 £0) fun v2 =>
 Q v2 H1
theorem dI(dep:Nat)(x0 x1:AV)(H:Heap)(Q:AV→Heap→Prop)(h : ∀g,cf dep g x0 x1 H Q):GoL env Tryz.f232 (dep+1) [.code cd] [(0,x0),(1,x1)] H Q:=⟨fun g=>aJ (live:=dJ) (cut:=dK) (n:=500) (Eq.mp (by kernel_rfl) (h g))⟩
noncomputable def eT:Code:=(Tryz.f233.body).getD .skip
def jw:Nat→Option (List Nat):=fun i=>none
def jz:Nat→Bool:=fun i=>false
def eW(dep:Nat)(g:Nat→AV)(x0 x1:AV)(H:Heap)(Q:AV→Heap→Prop):Prop :=
 doW (nRes H (⟨(dep+1),2,Heap.gen H (dep+1) 2,0⟩:Ref) (qBox ¢ (⟨(dep+1),2,Heap.gen H (dep+1) 2,0⟩:Ref) 33 ~x0)) fun v1 H1 =>
 doQ (ai ¢ ¥H1 230 ~x1) fun v2 =>
 doQ (qNil ~v2) fun v3 =>
 doQ (aa ¢ 266 ~v3 1) fun v4 =>
 doQ (ai ¢ ¥H1 264 ~v4) fun v5 =>
 doQ (ai ¢ ¥H1 33 ~v1) fun v6 =>
 doQ (cE ¢ ¥H1 264 ~v5 ~v6 false) fun v7 =>
 Q v7 H1
theorem jr(dep:Nat)(x0 x1:AV)(H:Heap)(Q:AV→Heap→Prop)(h : ∀g,eW dep g x0 x1 H Q):GoL env Tryz.f233 (dep+1) [.code eT] [(0,x0),(1,x1)] H Q:=⟨fun g=>aJ (live:=jw) (cut:=jz) (n:=500) (Eq.mp (by kernel_rfl) (h g))⟩
noncomputable def gk:Code:=(Tryz.f234.body).getD .skip
def lS:Nat→Option (List Nat):=fun i=>none
def lU:Nat→Bool:=fun i=>false
def gl(dep:Nat)(g:Nat→AV)(x0 x1:AV)(H:Heap)(Q:AV→Heap→Prop):Prop :=
 doW (nRes H (⟨(dep+1),2,Heap.gen H (dep+1) 2,0⟩:Ref) (qBox ¢ (⟨(dep+1),2,Heap.gen H (dep+1) 2,0⟩:Ref) 230 ~x0)) fun v1 H1 =>
 doW (nRes H1 (⟨(dep+1),3,Heap.gen H1 (dep+1) 3,0⟩:Ref) (qBox ¢ (⟨(dep+1),3,Heap.gen H1 (dep+1) 3,0⟩:Ref) 38 ~x1)) fun v2 H2 =>
 doQ (aa ¢ 38 ~v2 3) fun v3 =>
 doQ (ai ¢ ¥H2 35 ~v3) fun v4 =>
 doW (aG env true (limf env) (limt env (dep+1)) H2 (⟨(dep+1),7,Heap.gen H2 (dep+1) 7,0⟩:Ref) (some (.fn (.func 213) [] [])) [v4]) fun v5 H3 =>
 doQ (gI (.func 242) (some []) (some [v1,v2])) fun v6 =>
 doW (aG env true (limf env) (limt env (dep+1)) H3 (⟨(dep+1),9,Heap.gen H3 (dep+1) 9,0⟩:Ref) (some (.fn (.func 232) [] [])) [v5,v6]) fun v7 H4 =>
 doQ (qUn ¢ .not ~v7) fun v8 =>
 Q v8 H4
theorem lP(dep:Nat)(x0 x1:AV)(H:Heap)(Q:AV→Heap→Prop)(h : ∀g,gl dep g x0 x1 H Q):GoL env Tryz.f234 (dep+1) [.code gk] [(0,x0),(1,x1)] H Q:=⟨fun g=>aJ (live:=lS) (cut:=lU) (n:=500) (Eq.mp (by kernel_rfl) (h g))⟩
noncomputable def bF:Code:=(Tryz.f241.body).getD .skip
noncomputable def aV:List Item:=(bS 2 400 [.code bF]).getD []
def ct:Nat→Option (List Nat):=fun i=>cond (Nat.beq i 2) (some [8,0,1,7]) (none)
def cw:Nat→Bool:=fun i=>false
def cx(dep:Nat)(g:Nat→AV)(x0 x1:AV)(H:Heap)(Q:AV→Heap→Prop):Prop :=
 doQ (aA ¢ false ¥H (⟨(dep+1),7,Heap.gen H (dep+1) 7,0⟩:Ref) .len #[244] [x0]) fun v1 =>
  GoL env Tryz.f241 (dep+1) aV [(8,(.v (.int .i64 0))),(0,x0),(1,x1),(7,v1)] H Q
theorem ef(dep:Nat)(x0 x1:AV)(H:Heap)(Q:AV→Heap→Prop)(h : ∀g,cx dep g x0 x1 H Q):GoL env Tryz.f241 (dep+1) [.code bF] [(0,x0),(1,x1)] H Q:=⟨fun g=>aJ (live:=ct) (cut:=cw) (n:=500) (Eq.mp (by kernel_rfl) (h g))⟩
def bC(dep:Nat)(g:Nat→AV)(x8 x0 x1 x7:AV)(H:Heap)(Q:AV→Heap→Prop):Prop :=
 doQ (qBin ¢ .lss 3 °8 °7 ~x8 ~x7) fun v1 =>
 br ~v1 (
 doQ (aH ¢ ¥H 244 ~x0 ~x8) fun v2 =>
 doQ (ai ¢ ¥H 33 ~v2) fun v3 =>
 doW (aG env true (limf env) (limt env (dep+1)) H (⟨(dep+1),16,Heap.gen H (dep+1) 16,0⟩:Ref) ~x1 [v3]) fun v4 H1 =>
 br ~v4 (
 Q x8 H1) (
 doQ (qBin ¢ .add 3 °8 ¤1 ~x8 £1) fun v5 =>
  GoL env Tryz.f241 (dep+1) aV [(8,v5),(0,x0),(1,x1),(7,x7)] H1 Q)) (
 Q (.v (.int .i64 (-1))) H)
theorem cg(dep:Nat)(x8 x0 x1 x7:AV)(H:Heap)(Q:AV→Heap→Prop)(h : ∀g,bC dep g x8 x0 x1 x7 H Q):GoL env Tryz.f241 (dep+1) aV [(8,x8),(0,x0),(1,x1),(7,x7)] H Q:=dk fun g=>aJ (live:=ct) (cut:=cw) (n:=500) (Eq.mp (by kernel_rfl) (h g))
noncomputable def fF:Code:=(Tryz.f242.body).getD .skip
def kH:Nat→Option (List Nat):=fun i=>none
def kJ:Nat→Bool:=fun i=>false
def fH(dep:Nat)(g:Nat→AV)(x0 x1 x2:AV)(H:Heap)(Q:AV→Heap→Prop):Prop :=
 doW (nRes H (⟨(dep+1),3,Heap.gen H (dep+1) 3,0⟩:Ref) (qBox ¢ (⟨(dep+1),3,Heap.gen H (dep+1) 3,0⟩:Ref) 33 ~x0)) fun v1 H1 =>
 doQ (ai ¢ ¥H1 230 ~x1) fun v2 =>
 doQ (ai ¢ ¥H1 38 ~x2) fun v3 =>
 doQ (ai ¢ ¥H1 33 ~v1) fun v4 =>
 doW (aG env true (limf env) (limt env (dep+1)) H1 (⟨(dep+1),8,Heap.gen H1 (dep+1) 8,0⟩:Ref) (some (.fn (.func 230) [] [])) [v2,v3,v4]) fun v5 H2 =>
 doQ (qUn ¢ .not ~v5) fun v6 =>
 Q v6 H2
theorem kF(dep:Nat)(x0 x1 x2:AV)(H:Heap)(Q:AV→Heap→Prop)(h : ∀g,fH dep g x0 x1 x2 H Q):GoL env Tryz.f242 (dep+1) [.code fF] [(0,x0),(1,x1),(2,x2)] H Q:=⟨fun g=>aJ (live:=kH) (cut:=kJ) (n:=500) (Eq.mp (by kernel_rfl) (h g))⟩
end Go.Proofs.YtmkmimgokagimaaGreat
