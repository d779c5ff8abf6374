/-
  What is to be shown of each function, computed from its code. No statement of a seat is proved here.
-/
import Derived.Test.YtmkmimgokagimaaGreatLeTy
set_option linter.unusedVariables false
set_option maxRecDepth 1000000
namespace Go.Proofs.YtmkmimgokagimaaGreat
open Go.Ab
noncomputable def fP:Code:=(Tryz.f101.body).getD .skip
def kW:Nat→Option (List Nat):=fun i=>none
def lD:Nat→Bool:=fun i=>false
def bH(g:Nat→AV)(x0:AV)(H:Heap)(Q:AV→Heap→Prop):Prop :=
 doW (Zc H 1 173 x0) fun v1 H1 =>
 doQ (Zd 173 v1 0) fun v2 =>
 doQ (Zd 62 v2 0) fun v3 =>
 doQ (Zb H1 5 v3) fun v4 =>
 doQ (Yh 62 0 v4) fun v5 =>
 doW (Zg H1 4 62) fun v6 H2 =>
 doW (Zl H2 62 v6 v5) fun v7 H3 =>
 doQ (Zd 173 v1 0) fun v8 =>
 doQ (Zd 62 v8 0) fun v9 =>
 doQ (Zb H3 5 v9) fun v10 =>
 doQ (ZL 5 12 v10) fun v11 =>
 br (some v11) (
 doQ (Zd 173 v1 0) fun v12 =>
 doQ (Zd 62 v12 2) fun v13 =>
 doQ (Zd 38 v13 1) fun v14 =>
 doQ (Zb H3 31 v14) fun v15 =>
 doQ (Zd 173 v1 0) fun v16 =>
 doQ (Zd 62 v16 1) fun v17 =>
 doQ (Zb H3 3 v17) fun v18 =>
 doQ (Zd 62 v6 2) fun v19 =>
 doQ (Zd 38 v19 1) fun v20 =>
 doW (Zl H3 31 v20 v15) fun v21 H4 =>
 doQ (Zd 62 v6 1) fun v22 =>
 doW (Zl H4 3 v22 v18) fun v23 H5 =>
  jn [(v17,v20)] [v20,v22] [] H5 ∧
 (doQ (Zd 173 v1 0) fun v24 =>
 doQ (Zd 62 v24 2) fun v25 =>
 doQ (Zd 38 v25 1) fun v26 =>
 doQ (Zb H5 31 v26) fun v27 =>
 doW (Za true H5 30 162 [v27]) fun v28 H6 =>
 doQ (Zw v28 0) fun v29 =>
 doQ (Zw v28 1) fun v30 =>
 doQ (Zd 173 v1 0) fun v31 =>
 doQ (Zd 62 v31 1) fun v32 =>
 doQ (Zb H6 3 v32) fun v33 =>
 doQ (Zq 3 35 0 v33) fun v34 =>
 gQ v34 true (Zd 173 v1 0) fun v35 =>
 gQ v34 true (Zd 62 v35 1) fun v36 =>
 gQ v34 true (Zb H6 3 v36) fun v37 =>
 gQ v34 true (Zy 3 40 255 v37) fun v38 =>
 doQ (Zf v34 v38) fun v39 =>
 doQ (Zd 173 v1 0) fun v40 =>
 doQ (Zd 62 v40 1) fun v41 =>
 doQ (Zb H6 3 v41) fun v42 =>
 doQ (Zv H6 47 3 5 v42) fun v43 =>
 doW (ZD H6 48 170 1 0 v43) fun v44 H7 =>
 doW (Zt H7 49 170 170 v29 v44) fun v45 H8 =>
 doQ (Zd 173 v1 0) fun v46 =>
 doQ (Zd 62 v46 0) fun v47 =>
 doQ (Zb H8 5 v47) fun v48 =>
 doW (ZD H8 111 170 1 0 v48) fun v49 H9 =>
 doW (Zt H9 113 170 170 v49 v45) fun v50 H10 =>
 gQ v39 true (ZI v30) fun v51 =>
 gQ v39 true (Zi 42 116 0 v51) fun v52 =>
 doQ (Zf v39 v52) fun v53 =>
 gQ v53 true (Zd 173 v1 0) fun v54 =>
 gQ v53 true (Zb H10 62 v54) fun v55 =>
 gQ v53 true (Zb H10 62 v6) fun v56 =>
 gW v53 true H10 (Za true H10 123 165 [v55,v56]) fun v57 H11 =>
 doQ (Zf v53 v57) fun v58 =>
 Q (.tup [v50,v58]) H11)) (
 doQ (qBin env.P .eql 5 (Operand.tmp 12) (.const (.int .u8 2)) (some v10) (some (a8 2))) fun v12 =>
 br (some v12) (
 doQ (Zd 173 v1 0) fun v13 =>
 doQ (Zd 62 v13 2) fun v14 =>
 doQ (Zb H3 38 v14) fun v15 =>
 doQ (Zd 173 v1 0) fun v16 =>
 doQ (Zd 62 v16 3) fun v17 =>
 doQ (Zb H3 42 v17) fun v18 =>
 doQ (Zd 62 v6 2) fun v19 =>
 doW (Zl H3 38 v19 v15) fun v20 H4 =>
 doQ (Zd 62 v6 3) fun v21 =>
 doW (Zl H4 42 v21 v18) fun v22 H5 =>
  jn [(v17,v19)] [v19,v21] [] H5 ∧
 (doQ (Zd 173 v1 0) fun v23 =>
 doQ (Zd 62 v23 2) fun v24 =>
 doQ (Zb H5 38 v24) fun v25 =>
 doW (Za true H5 64 163 [v25]) fun v26 H6 =>
 doQ (Zw v26 0) fun v27 =>
 doQ (Zw v26 1) fun v28 =>
 doQ (Zd 173 v1 0) fun v29 =>
 doQ (Zd 62 v29 2) fun v30 =>
 doQ (Zb H6 38 v30) fun v31 =>
 doW (Za true H6 70 121 [v31]) fun v32 H7 =>
 gQ v32 true (Zd 173 v1 0) fun v33 =>
 gQ v32 true (Zd 62 v33 3) fun v34 =>
 gQ v32 true (Zb H7 42 v34) fun v35 =>
 gQ v32 true (Zq 42 74 0 v35) fun v36 =>
 doQ (Zf v32 v36) fun v37 =>
 gQ v37 true (Zd 173 v1 0) fun v38 =>
 gQ v37 true (Zd 62 v38 3) fun v39 =>
 gQ v37 true (Zb H7 42 v39) fun v40 =>
 gQ v37 true (Zs 42 80 65536 v40) fun v41 =>
 doQ (Zf v37 v41) fun v42 =>
 doQ (Zd 173 v1 0) fun v43 =>
 doQ (Zd 62 v43 3) fun v44 =>
 doQ (Zb H7 42 v44) fun v45 =>
 doQ (ZX 42 85 v45) fun v46 =>
 doQ (Zv H7 87 42 5 v46) fun v47 =>
 doQ (Zd 173 v1 0) fun v48 =>
 doQ (Zd 62 v48 3) fun v49 =>
 doQ (Zb H7 42 v49) fun v50 =>
 doQ (Zv H7 91 42 5 v50) fun v51 =>
 doW (gm env.P false true H7 (Ref.mk 0 92 (Heap.gen H7 0 92) 0) 170 2 (some [(0,v47),(1,v51)])) fun v52 H8 =>
 doW (Zt H8 94 170 170 v52 v27) fun v53 H9 =>
 doQ (Zd 173 v1 0) fun v54 =>
 doQ (Zd 62 v54 0) fun v55 =>
 doQ (Zb H9 5 v55) fun v56 =>
 doW (ZD H9 111 170 1 0 v56) fun v57 H10 =>
 doW (Zt H10 113 170 170 v57 v53) fun v58 H11 =>
 gQ v42 true (ZI v28) fun v59 =>
 gQ v42 true (Zi 42 116 0 v59) fun v60 =>
 doQ (Zf v42 v60) fun v61 =>
 gQ v61 true (Zd 173 v1 0) fun v62 =>
 gQ v61 true (Zb H11 62 v62) fun v63 =>
 gQ v61 true (Zb H11 62 v6) fun v64 =>
 gW v61 true H11 (Za true H11 123 165 [v63,v64]) fun v65 H12 =>
 doQ (Zf v61 v65) fun v66 =>
 Q (.tup [v58,v66]) H12)) (
 doQ (Z6 5 12 v10) fun v13 =>
 br (some v13) (
 doQ (Zd 173 v1 0) fun v14 =>
 doQ (Zd 62 v14 4) fun v15 =>
 doQ (Zb H3 60 v15) fun v16 =>
 doQ (Zd 62 v6 4) fun v17 =>
 doW (Zl H3 60 v17 v16) fun v18 H4 =>
 doQ (Zd 173 v1 0) fun v19 =>
 doQ (Zd 62 v19 4) fun v20 =>
 doQ (Zb H4 60 v20) fun v21 =>
 doW (Za true H4 105 164 [v21]) fun v22 H5 =>
 doQ (Zw v22 0) fun v23 =>
 doQ (Zw v22 1) fun v24 =>
 doQ (Zd 173 v1 0) fun v25 =>
 doQ (Zd 62 v25 0) fun v26 =>
 doQ (Zb H5 5 v26) fun v27 =>
 doW (ZD H5 111 170 1 0 v27) fun v28 H6 =>
 doW (Zt H6 113 170 170 v28 v23) fun v29 H7 =>
 gQ (.v (.bool true)) true (ZI v24) fun v30 =>
 gQ (.v (.bool true)) true (Zi 42 116 0 v30) fun v31 =>
 doQ (aM (some (AV.v (Value.bool true))) (some v31) (some (AV.v (Value.bool false)))) fun v32 =>
 gQ v32 true (Zd 173 v1 0) fun v33 =>
 gQ v32 true (Zb H7 62 v33) fun v34 =>
 gQ v32 true (Zb H7 62 v6) fun v35 =>
 gW v32 true H7 (Za true H7 123 165 [v34,v35]) fun v36 H8 =>
 doQ (Zf v32 v36) fun v37 =>
 Q (.tup [v29,v37]) H8) (
 doQ (Zd 173 v1 0) fun v14 =>
 doQ (Zd 62 v14 0) fun v15 =>
 doQ (Zb H3 5 v15) fun v16 =>
 doW (ZD H3 111 170 1 0 v16) fun v17 H4 =>
 doW (cO env.P true H4 (Ref.mk 0 113 (Heap.gen H4 0 113) 0) (some 170) (some 170) v17 (.v (.slice none 0 0))) fun v18 H5 =>
 gQ (.v (.bool false)) true (qVal (some (AV.v (Value.int IntKind.i64 0)))) fun v19 =>
 gQ (.v (.bool false)) true (Zi 42 116 0 v19) fun v20 =>
 doQ (aM (some (AV.v (Value.bool false))) (some v20) (some (AV.v (Value.bool false)))) fun v21 =>
 gQ v21 true (Zd 173 v1 0) fun v22 =>
 gQ v21 true (Zb H5 62 v22) fun v23 =>
 gQ v21 true (Zb H5 62 v6) fun v24 =>
 gW v21 true H5 (Za true H5 123 165 [v23,v24]) fun v25 H6 =>
 doQ (Zf v21 v25) fun v26 =>
 Q (.tup [v18,v26]) H6)))
theorem kN(x0:AV)(H:Heap)(Q:AV→Heap→Prop)(h : ∀g,bH g x0 H Q):GoL env Tryz.f101 0 [.code fP] [(0,x0)] H Q:=⟨fun g=>aJ (live:=kW) (cut:=lD) (n:=500) (Eq.mp (by kernel_rfl) (h g))⟩
noncomputable def dx:Code:=(Tryz.f209.body).getD .skip
noncomputable def cp:List Item:=(bS 3 400 [.code dx]).getD []
noncomputable def b7:List Item:=(bS 11 400 [.code dx]).getD []
def eM:Nat→Option (List Nat):=fun i=>cond (Nat.beq i 3) (some [11,3,9,0,10]) (cond (Nat.beq i 11) (some [27,6,25,26]) (none))
def eO:Nat→Bool:=fun i=>false
def ia(g:Nat→AV)(x0:AV)(H:Heap)(Q:AV→Heap→Prop):Prop :=
 doQ (Zk H 10 279 x0) fun v1 =>
  GoL env Tryz.f209 0 cp [(11,(.v (.int .i64 0))),(3,(.v (.int .i64 0))),(9,x0),(0,x0),(10,v1)] H Q
theorem mJ(x0:AV)(H:Heap)(Q:AV→Heap→Prop)(h : ∀g,ia g x0 H Q):GoL env Tryz.f209 0 [.code dx] [(0,x0)] H Q:=⟨fun g=>aJ (live:=eM) (cut:=eO) (n:=500) (Eq.mp (by kernel_rfl) (h g))⟩
def dZ(g:Nat→AV)(x11 x3 x9 x0 x10:AV)(H:Heap)(Q:AV→Heap→Prop):Prop :=
 doQ (Zp 3 11 10 x11 x10) fun v1 =>
 br (some v1) (
 doQ (Zu H 279 x9 x11) fun v2 =>
 doQ (Zb H 170 v2) fun v3 =>
 doQ (Zk H 17 170 v3) fun v4 =>
 doQ (ZF 3 15 17 x3 v4) fun v5 =>
 doQ (Zs 3 19 0 v5) fun v6 =>
 br (some v6) (
 doQ (o4 env.P 9 (some (.v (.string ⟨#[108,101,110,32,111,117,116,32,111,102,32,114,97,110,103,101]⟩)))) fun v7 =>
 doQ (none) fun v8 =>
 doQ (Zh 3 11 1 x11) fun v9 =>
  GoL env Tryz.f209 0 cp [(11,v9),(3,v5),(9,x9),(0,x0),(10,x10)] H Q) (
 doQ (Zh 3 11 1 x11) fun v7 =>
  GoL env Tryz.f209 0 cp [(11,v7),(3,v5),(9,x9),(0,x0),(10,x10)] H Q)) (
 doW (Za true H 24 225 [(.v (.slice none 0 0)),x3]) fun v2 H1 =>
 doQ (Zk H1 26 279 x0) fun v3 =>
  GoL env Tryz.f209 0 b7 [(27,(.v (.int .i64 0))),(6,v2),(25,x0),(26,v3)] H1 Q)
theorem gq(x11 x3 x9 x0 x10:AV)(H:Heap)(Q:AV→Heap→Prop)(h : ∀g,dZ g x11 x3 x9 x0 x10 H Q):GoL env Tryz.f209 0 cp [(11,x11),(3,x3),(9,x9),(0,x0),(10,x10)] H Q:=dk fun g=>aJ (live:=eM) (cut:=eO) (n:=500) (Eq.mp (by kernel_rfl) (h g))
def cW(g:Nat→AV)(x27 x6 x25 x26:AV)(H:Heap)(Q:AV→Heap→Prop):Prop :=
 doQ (Zp 3 27 26 x27 x26) fun v1 =>
 br (some v1) (
 doQ (Zu H 279 x25 x27) fun v2 =>
 doQ (Zb H 170 v2) fun v3 =>
 doW (Zt H 33 170 170 x6 v3) fun v4 H1 =>
 doQ (Zh 3 27 1 x27) fun v5 =>
  GoL env Tryz.f209 0 b7 [(27,v5),(6,v4),(25,x25),(26,x26)] H1 Q) (
 Q x6 H)
theorem gh(x27 x6 x25 x26:AV)(H:Heap)(Q:AV→Heap→Prop)(h : ∀g,cW g x27 x6 x25 x26 H Q):GoL env Tryz.f209 0 b7 [(27,x27),(6,x6),(25,x25),(26,x26)] H Q:=dk fun g=>aJ (live:=eM) (cut:=eO) (n:=500) (Eq.mp (by kernel_rfl) (h g))
noncomputable def iV:Code:=(Tryz.f225.body).getD .skip
def nj:Nat→Option (List Nat):=fun i=>none
def nv:Nat→Bool:=fun i=>false
def iX(g:Nat→AV)(x0 x1:AV)(H:Heap)(Q:AV→Heap→Prop):Prop :=
 doQ (Zs 3 5 0 x1) fun v1 =>
 br (some v1) (
 doQ (o4 env.P 9 (some (.v (.string ⟨#[99,97,110,110,111,116,32,98,101,32,110,101,103,97,116,105,118,101]⟩)))) fun v2 =>
 doQ (none) fun v3 =>
 doQ (ZW H 10 170 x0) fun v4 =>
 doQ (Zk H 12 170 x0) fun v5 =>
 doQ (ZU 3 10 12 v4 v5) fun v6 =>
 doQ (ZU 3 8 13 x1 v6) fun v7 =>
 doQ (Zr 3 15 0 v7) fun v8 =>
 br (some v8) (
 doQ (ZW H 19 170 x0) fun v9 =>
 doQ (ZJ H 170 x0 v9) fun v10 =>
 doW (Zt H 22 170 3 v10 v7) fun v11 H1 =>
 doQ (Zk H1 24 170 x0) fun v12 =>
 doQ (ZJ H1 170 v11 v12) fun v13 =>
 Q v13 H1) (
 Q x0 H)) (
 doQ (ZW H 10 170 x0) fun v2 =>
 doQ (Zk H 12 170 x0) fun v3 =>
 doQ (ZU 3 10 12 v2 v3) fun v4 =>
 doQ (ZU 3 8 13 x1 v4) fun v5 =>
 doQ (Zr 3 15 0 v5) fun v6 =>
 br (some v6) (
 doQ (ZW H 19 170 x0) fun v7 =>
 doQ (ZJ H 170 x0 v7) fun v8 =>
 doW (Zt H 22 170 3 v8 v5) fun v9 H1 =>
 doQ (Zk H1 24 170 x0) fun v10 =>
 doQ (ZJ H1 170 v9 v10) fun v11 =>
 Q v11 H1) (
 Q x0 H))
theorem m6(x0 x1:AV)(H:Heap)(Q:AV→Heap→Prop)(h : ∀g,iX g x0 x1 H Q):GoL env Tryz.f225 0 [.code iV] [(0,x0),(1,x1)] H Q:=⟨fun g=>aJ (live:=nj) (cut:=nv) (n:=500) (Eq.mp (by kernel_rfl) (h g))⟩
noncomputable def vD:Code:=(Tryz.f235.body).getD .skip
def Cz:Nat→Option (List Nat):=fun i=>none
def CU:Nat→Bool:=fun i=>false
def mZ(g:Nat→AV)(x0 x1:AV)(H:Heap)(Q:AV→Heap→Prop):Prop :=
 doW (Zc H 3 38 x1) fun v1 H1 =>
 doW (Za true H1 9 243 [x0]) fun v2 H2 =>
 doQ (Ze 42 10 0 v2) fun v3 =>
 br (some v3) (
 Q (.tup [(.v (.bool false)),v2]) H2) (
 doQ (Zb H2 38 v1) fun v4 =>
 doW (Za true H2 14 70 [v4]) fun v5 H3 =>
 doQ (Ze 42 15 0 v5) fun v6 =>
 br (some v6) (
 Q (.tup [(.v (.bool false)),v5]) H3) (
 doQ (Zb H3 38 v1) fun v7 =>
 doW (Za true H3 20 244 [x0,v7]) fun v8 H4 =>
 Q (.tup [v8,(.v (.int .i64 0))]) H4))
theorem B4(x0 x1:AV)(H:Heap)(Q:AV→Heap→Prop)(h : ∀g,mZ g x0 x1 H Q):GoL env Tryz.f235 0 [.code vD] [(0,x0),(1,x1)] H Q:=⟨fun g=>aJ (live:=Cz) (cut:=CU) (n:=500) (Eq.mp (by kernel_rfl) (h g))⟩
noncomputable def oE:Code:=(Tryz.f243.body).getD .skip
noncomputable def jS:List Item:=(bS 4 400 [.code oE]).getD []
def tn:Nat→Option (List Nat):=fun i=>cond (Nat.beq i 4) (some [10,0,8,9]) (none)
def tv:Nat→Bool:=fun i=>false
def oL(g:Nat→AV)(x0:AV)(H:Heap)(Q:AV→Heap→Prop):Prop :=
 doQ (Zk H 6 41 x0) fun v1 =>
 doQ (Zr 3 6 2048 v1) fun v2 =>
 br (some v2) (
 Q (.v (.int .i64 4)) H) (
 doQ (Zk H 9 41 x0) fun v3 =>
  GoL env Tryz.f243 0 jS [(10,(.v (.int .i64 0))),(0,x0),(8,x0),(9,v3)] H Q)
theorem AK(x0:AV)(H:Heap)(Q:AV→Heap→Prop)(h : ∀g,oL g x0 H Q):GoL env Tryz.f243 0 [.code oE] [(0,x0)] H Q:=⟨fun g=>aJ (live:=tn) (cut:=tv) (n:=500) (Eq.mp (by kernel_rfl) (h g))⟩
def ic(g:Nat→AV)(x10 x0 x8 x9:AV)(H:Heap)(Q:AV→Heap→Prop):Prop :=
 doQ (Zp 3 10 9 x10 x9) fun v1 =>
 br (some v1) (
 doQ (Zu H 41 x8 x10) fun v2 =>
 doQ (Zb H 38 v2) fun v3 =>
 doW (Zg H 4 38) fun v4 H1 =>
 doW (Zl H1 38 v4 v3) fun v5 H2 =>
 doQ (Zb H2 38 v4) fun v6 =>
 doW (Za false H2 16 70 [v6]) fun v7 H3 =>
 doQ (Ze 42 16 0 v7) fun v8 =>
 gQ v8 false (ZI x0) fun v9 =>
 gQ v8 false (ZI x10) fun v10 =>
 gQ v8 false (ZJ H3 41 v9 v10) fun v11 =>
 gQ v8 false (Zb H3 38 v4) fun v12 =>
 gW v8 false H3 (Za false H3 23 244 [v11,v12]) fun v13 H4 =>
 gQ v8 false (Zz v13) fun v14 =>
 doQ (Zo v8 v14) fun v15 =>
 br (some v15) (
 Q (.v (.int .i64 8)) H4) (
 doQ (Zh 3 10 1 x10) fun v16 =>
  GoL env Tryz.f243 0 jS [(10,v16),(0,x0),(8,x8),(9,x9)] H4 Q)) (
 Q (.v (.int .i64 0)) H)
theorem qI(x10 x0 x8 x9:AV)(H:Heap)(Q:AV→Heap→Prop)(h : ∀g,ic g x10 x0 x8 x9 H Q):GoL env Tryz.f243 0 jS [(10,x10),(0,x0),(8,x8),(9,x9)] H Q:=dk fun g=>aJ (live:=tn) (cut:=tv) (n:=500) (Eq.mp (by kernel_rfl) (h g))
noncomputable def qz:Code:=(Tryz.f244.body).getD .skip
noncomputable def lb:List Item:=(bS 5 400 [.code qz]).getD []
def vc:Nat→Option (List Nat):=fun i=>cond (Nat.beq i 5) (some [21,3,0,5,20]) (none)
def vn:Nat→Bool:=fun i=>false
def qG(g:Nat→AV)(x0 x1:AV)(H:Heap)(Q:AV→Heap→Prop):Prop :=
 doW (Zc H 3 38 x1) fun v1 H1 =>
 doQ (Zd 38 v1 0) fun v2 =>
 doQ (Zb H1 5 v2) fun v3 =>
 doQ (qBin env.P .neq 5 (Operand.tmp 10) (.const (.int .u8 3)) (some v3) (some (a8 3))) fun v4 =>
 br (some v4) (
 Q (.v (.bool true)) H1) (
 doQ (Zd 38 v1 1) fun v5 =>
 doQ (Zd 31 v5 0) fun v6 =>
 doQ (Zb H1 29 v6) fun v7 =>
 doQ (Zd 38 v1 5) fun v8 =>
 doQ (Zb H1 29 v8) fun v9 =>
 doW (Za true H1 17 47 [v7,v9]) fun v10 H2 =>
 doQ (Zd 38 v1 3) fun v11 =>
 doQ (Zd 35 v11 1) fun v12 =>
 doQ (Zb H2 3 v12) fun v13 =>
  GoL env Tryz.f244 0 lb [(21,(.v (.int .i64 0))),(3,v1),(0,x0),(5,v10),(20,v13)] H2 Q)
theorem B3(x0 x1:AV)(H:Heap)(Q:AV→Heap→Prop)(h : ∀g,qG g x0 x1 H Q):GoL env Tryz.f244 0 [.code qz] [(0,x0),(1,x1)] H Q:=⟨fun g=>aJ (live:=vc) (cut:=vn) (n:=500) (Eq.mp (by kernel_rfl) (h g))⟩
def iY(g:Nat→AV)(x21 x3 x0 x5 x20:AV)(H:Heap)(Q:AV→Heap→Prop):Prop :=
 doQ (Zp 3 21 20 x21 x20) fun v1 =>
 br (some v1) (
 doQ (Zd 38 x3 3) fun v2 =>
 doQ (Zb H 35 v2) fun v3 =>
 doW (Za true H 28 228 [v3,x21]) fun v4 H1 =>
 doQ (Zw v4 0) fun v5 =>
 doQ (Zw v4 1) fun v6 =>
 doW (Zg H1 7 33) fun v7 H2 =>
 doW (Zl H2 33 v7 v5) fun v8 H3 =>
 gQ x5 true (ZI x0) fun v9 =>
 gQ x5 true (Zb H3 33 v7) fun v10 =>
 gQ x5 true (Zd 38 x3 1) fun v11 =>
 gQ x5 true (Zd 31 v11 0) fun v12 =>
 gQ x5 true (Zb H3 29 v12) fun v13 =>
 gW x5 true H3 (Za false H3 38 247 [v9,v10,v13]) fun v14 H4 =>
 gQ x5 true (Zd 38 x3 1) fun v15 =>
 gQ x5 true (Zd 31 v15 0) fun v16 =>
 gQ x5 true (Zb H4 29 v16) fun v17 =>
 gW x5 true H4 (Za false H4 42 246 [v14,v17]) fun v18 H5 =>
 doQ (Zf x5 v18) fun v19 =>
 doQ (Zz v19) fun v20 =>
 br (some v20) (
 Q v19 H5) (
 doQ (Zh 3 21 1 x21) fun v21 =>
  GoL env Tryz.f244 0 lb [(21,v21),(3,x3),(0,x0),(5,v19),(20,x20)] H5 Q)) (
 Q x5 H)
theorem re(x21 x3 x0 x5 x20:AV)(H:Heap)(Q:AV→Heap→Prop)(h : ∀g,iY g x21 x3 x0 x5 x20 H Q):GoL env Tryz.f244 0 lb [(21,x21),(3,x3),(0,x0),(5,x5),(20,x20)] H Q:=dk fun g=>aJ (live:=vc) (cut:=vn) (n:=500) (Eq.mp (by kernel_rfl) (h g))
noncomputable def bT:Code:=(Tryz.f246.body).getD .skip
def dC:Nat→Option (List Nat):=fun i=>none
def dF:Nat→Bool:=fun i=>false
def bU(g:Nat→AV)(x0 x1:AV)(H:Heap)(Q:AV→Heap→Prop):Prop :=
 doW (Zc H 3 29 x1) fun v1 H1 =>
 doQ (Zb H1 29 v1) fun v2 =>
 doW (Za true H1 7 248 [x0,v2]) fun v3 H2 =>
 doQ (Zq 3 7 0 v3) fun v4 =>
 Q v4 H2
theorem dB(x0 x1:AV)(H:Heap)(Q:AV→Heap→Prop)(h : ∀g,bU g x0 x1 H Q):GoL env Tryz.f246 0 [.code bT] [(0,x0),(1,x1)] H Q:=⟨fun g=>aJ (live:=dC) (cut:=dF) (n:=500) (Eq.mp (by kernel_rfl) (h g))⟩
noncomputable def qy:Code:=(Tryz.f247.body).getD .skip
noncomputable def fm:List Item:=(iS 10003 400 [.code qy]).getD []
noncomputable def cD:Code:=rfA fm
noncomputable def cC:Code:=rfB fm
noncomputable def m9:List Item:=rfK fm
def qh:Nat→Option (List Nat):=fun i=>cond (Nat.beq i 10003) (some [16,7]) (none)
def qo:Nat→Bool:=fun i=>false
def vL(g:Nat→AV)(x0 x1 x2:AV)(H:Heap)(Q:AV→Heap→Prop):Prop :=
 doW (Zc H 4 33 x1) fun v1 H1 =>
 doW (Zc H1 5 29 x2) fun v2 H2 =>
 doQ (Zd 33 v1 0) fun v3 =>
 doQ (Zd 31 v3 0) fun v4 =>
 doQ (Zb H2 29 v4) fun v5 =>
 doW (ZD H2 12 277 1 0 v5) fun v6 H3 =>
 doW (Zg H3 7 277) fun v7 H4 =>
 doW (Zl H4 277 v7 v6) fun v8 H5 =>
 doQ (Zb H5 33 v1) fun v9 =>
 doQ (Zb H5 29 v2) fun v10 =>
 doW (Za true H5 16 249 [x0,v9,v10]) fun v11 H6 =>
  GoL env Tryz.f247 0 fm [(16,v11),(7,v7)] H6 Q
theorem B2(x0 x1 x2:AV)(H:Heap)(Q:AV→Heap→Prop)(h : ∀g,vL g x0 x1 x2 H Q):GoL env Tryz.f247 0 [.code qy] [(0,x0),(1,x1),(2,x2)] H Q:=⟨fun g=>aJ (live:=qh) (cut:=qo) (n:=500) (Eq.mp (by kernel_rfl) (h g))⟩
def mQ(g:Nat→AV)(x7:AV)(H:Heap)(Q:AV→Heap→Prop):Prop :=
 doQ (Zb H 277 x7) fun v1 =>
 Q v1 H
theorem s7(x7:AV)(H:Heap)(Q:AV→Heap→Prop)(h : ∀g,mQ g x7 H Q):GoL env Tryz.f247 0 m9 [(7,x7)] H Q:=⟨fun g=>aJ (live:=qh) (cut:=qo) (n:=500) (Eq.mp (by kernel_rfl) (h g))⟩
def fx(r:Ref)(g:Nat→AV)(x7 x17:AV)(H:Heap)(Q:AV→Heap→Prop):Prop :=
 doW (nRes H (⟨2,8,Heap.gen H 2 8,0⟩:Ref) (bq env.P (⟨2,8,Heap.gen H 2 8,0⟩:Ref) 29)) fun v1 H1 =>
 doW (Zl H1 29 v1 x17) fun v2 H2 =>
  bgP (lpAt H2 r) fun i3 =>
 doQ (ai env.P (Heap.get (Heap.put H2 r (some (kg 1 i3)))) 277 (some x7)) fun v4 =>
 doQ (ai env.P (Heap.get (Heap.put H2 r (some (kg 1 i3)))) 29 (some v1)) fun v5 =>
 doW (aG env true (limf env) (limt env 2) (Heap.put H2 r (some (kg 1 i3))) (⟨2,20,Heap.gen (Heap.put H2 r (some (kg 1 i3))) 2 20,0⟩:Ref) (some (.fn (.func 246) [] [])) [v4,v5]) fun v6 H3 =>
 doQ (Zz v6) fun v7 =>
 br (some v7) (
 doQ (Zb H3 277 x7) fun v8 =>
 doQ (Zb H3 29 v1) fun v9 =>
 doW (gm env.P false true H3 (⟨2,24,Heap.gen H3 2 24,0⟩:Ref) 277 1 (some [(0,v9)])) fun v10 H4 =>
 doW (cO env.P true H4 (⟨2,25,Heap.gen H4 2 25,0⟩:Ref) (some 277) (some 277) v8 v10) fun v11 H5 =>
 doW (Zl H5 277 x7 v11) fun v12 H6 =>
 Q (.v (.int .i64 0)) H6) (
 Q (.v (.int .i64 0)) H3)
theorem tU(r:Ref)(x7 x17:AV)(H:Heap)(Q:AV→Heap→Prop)(h : ∀g,fx r g x7 x17 H Q):GoX env Tryz.f247 (some r) 2 [.code cD,.beginRound,.code cC] [(7,x7),(17,x17)] H Q:=⟨fun g=>aJ (live:=qh) (cut:=qo) (n:=500) (Eq.mp (by kernel_rfl) (h g))⟩
noncomputable def bB:Code:=(Tryz.f248.body).getD .skip
noncomputable def aN:List Item:=(bS 2 400 [.code bB]).getD []
def ch:Nat→Option (List Nat):=fun i=>cond (Nat.beq i 2) (some [8,0,3,7]) (none)
def ck:Nat→Bool:=fun i=>false
def cl(g:Nat→AV)(x0 x1:AV)(H:Heap)(Q:AV→Heap→Prop):Prop :=
 doW (Zc H 3 29 x1) fun v1 H1 =>
 doQ (Zk H1 7 277 x0) fun v2 =>
  GoL env Tryz.f248 0 aN [(8,(.v (.int .i64 0))),(0,x0),(3,v1),(7,v2)] H1 Q
theorem dO(x0 x1:AV)(H:Heap)(Q:AV→Heap→Prop)(h : ∀g,cl g x0 x1 H Q):GoL env Tryz.f248 0 [.code bB] [(0,x0),(1,x1)] H Q:=⟨fun g=>aJ (live:=ch) (cut:=ck) (n:=500) (Eq.mp (by kernel_rfl) (h g))⟩
def aO(g:Nat→AV)(x8 x0 x3 x7:AV)(H:Heap)(Q:AV→Heap→Prop):Prop :=
 doQ (Zp 3 8 7 x8 x7) fun v1 =>
 br (some v1) (
 doQ (Zb H 29 x3) fun v2 =>
 doQ (Zu H 277 x0 x8) fun v3 =>
 doQ (Zb H 29 v3) fun v4 =>
 doQ (Zm 29 11 15 v2 v4) fun v5 =>
 br (some v5) (
 Q x8 H) (
 doQ (Zh 3 8 1 x8) fun v6 =>
  GoL env Tryz.f248 0 aN [(8,v6),(0,x0),(3,x3),(7,x7)] H Q)) (
 Q (.v (.int .i64 (-1))) H)
theorem bX(x8 x0 x3 x7:AV)(H:Heap)(Q:AV→Heap→Prop)(h : ∀g,aO g x8 x0 x3 x7 H Q):GoL env Tryz.f248 0 aN [(8,x8),(0,x0),(3,x3),(7,x7)] H Q:=dk fun g=>aJ (live:=ch) (cut:=ck) (n:=500) (Eq.mp (by kernel_rfl) (h g))
noncomputable def rT:Code:=(Tryz.f249.body).getD .skip
def zA:Nat→Option (List Nat):=fun i=>none
def z8:Nat→Bool:=fun i=>false
def sA(g:Nat→AV)(x0 x1 x2:AV)(H:Heap)(Q:AV→Heap→Prop):Prop :=
 doW (Zc H 3 41 x0) fun v1 H1 =>
 doW (Zc H1 4 33 x1) fun v2 H2 =>
 doW (Zc H2 5 29 x2) fun v3 H3 =>
 doQ (gI (.func 250) (some []) (some [v1,v2,v3])) fun v4 =>
 Q v4 H3
theorem yO(x0 x1 x2:AV)(H:Heap)(Q:AV→Heap→Prop)(h : ∀g,sA g x0 x1 x2 H Q):GoL env Tryz.f249 0 [.code rT] [(0,x0),(1,x1),(2,x2)] H Q:=⟨fun g=>aJ (live:=zA) (cut:=z8) (n:=500) (Eq.mp (by kernel_rfl) (h g))⟩
noncomputable def md:Code:=(Tryz.f250.body).getD .skip
noncomputable def gY:List Item:=(bS 1 400 [.code md]).getD []
def o9:Nat→Option (List Nat):=fun i=>cond (Nat.beq i 1) (some [11,0,3,2,9,10]) (none)
def pn:Nat→Bool:=fun i=>false
def pS(dep:Nat)(g:Nat→AV)(x0 x1 x2 x3:AV)(H:Heap)(Q:AV→Heap→Prop):Prop :=
 doQ (Zb H 41 x1) fun v1 =>
 doQ (ZA H dep 10 41 v1) fun v2 =>
  GoL env Tryz.f250 (dep+1) gY [(11,(.v (.int .i64 0))),(0,x0),(3,x3),(2,x2),(9,v1),(10,v2)] H Q
theorem vX(dep:Nat)(x0 x1 x2 x3:AV)(H:Heap)(Q:AV→Heap→Prop)(h : ∀g,pS dep g x0 x1 x2 x3 H Q):GoL env Tryz.f250 (dep+1) [.code md] [(0,x0),(1,x1),(2,x2),(3,x3)] H Q:=⟨fun g=>aJ (live:=o9) (cut:=pn) (n:=500) (Eq.mp (by kernel_rfl) (h g))⟩
def eb(dep:Nat)(g:Nat→AV)(x11 x0 x3 x2 x9 x10:AV)(H:Heap)(Q:AV→Heap→Prop):Prop :=
 doQ (Zp 3 11 10 x11 x10) fun v1 =>
 br (some v1) (
 doQ (Zu H 41 x9 x11) fun v2 =>
 doQ (Zb H 38 v2) fun v3 =>
 doW (Zn H dep 6 38) fun v4 H1 =>
 doW (Zl H1 38 v4 v3) fun v5 H2 =>
 doQ (Zd 38 v4 3) fun v6 =>
 doQ (Zb H2 35 v6) fun v7 =>
 doQ (Zb H2 33 x2) fun v8 =>
 doW (aG env true (limf env) (limt env (dep+1)) H2 (⟨(dep+1),19,Heap.gen H2 (dep+1) 19,0⟩:Ref) (some (.fn (.func 251) [] [])) [v7,v8]) fun v9 H3 =>
 doQ (Zw v9 0) fun v10 =>
 doQ (Zw v9 1) fun v11 =>
 doQ (Zd 38 v4 0) fun v12 =>
 doQ (Zb H3 5 v12) fun v13 =>
 doQ (Z6 5 23 v13) fun v14 =>
 gQ v14 true (ZI v11) fun v15 =>
 doQ (Zf v14 v15) fun v16 =>
 gQ v16 true (Zd 38 v4 1) fun v17 =>
 gQ v16 true (Zd 31 v17 0) fun v18 =>
 gQ v16 true (Zb H3 29 v18) fun v19 =>
 gQ v16 true (Zb H3 29 x3) fun v20 =>
 gW v16 true H3 (aG env true (limf env) (limt env (dep+1)) H3 (⟨(dep+1),33,Heap.gen H3 (dep+1) 33,0⟩:Ref) (some (.fn (.func 47) [] [])) [v19,v20]) fun v21 H4 =>
 doQ (Zf v16 v21) fun v22 =>
 gQ v22 true (ZI x0) fun v23 =>
 gQ v22 true (Zd 38 v4 5) fun v24 =>
 gQ v22 true (Zb H4 29 v24) fun v25 =>
 gW v22 true H4 (ZC dep H4 39 v23 v25) fun v26 H5 =>
 gQ v22 true (Zz v26) fun v27 =>
 doQ (Zf v22 v27) fun v28 =>
 br (some v28) (
 Q (.v (.tuple #[])) H5) (
 doQ (Zh 3 11 1 x11) fun v29 =>
  GoL env Tryz.f250 (dep+1) gY [(11,v29),(0,x0),(3,x3),(2,x2),(9,x9),(10,x10)] H5 Q)) (
 Q (.v (.tuple #[])) H)
theorem m7(dep:Nat)(x11 x0 x3 x2 x9 x10:AV)(H:Heap)(Q:AV→Heap→Prop)(h : ∀g,eb dep g x11 x0 x3 x2 x9 x10 H Q):GoL env Tryz.f250 (dep+1) gY [(11,x11),(0,x0),(3,x3),(2,x2),(9,x9),(10,x10)] H Q:=dk fun g=>aJ (live:=o9) (cut:=pn) (n:=500) (Eq.mp (by kernel_rfl) (h g))
end Go.Proofs.YtmkmimgokagimaaGreat
