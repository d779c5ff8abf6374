/-
  What is to be shown of each function, computed from its code. No statement of a seat is proved here.
-/
import Derived.Test.YtmkmimgokagimaaGreatLeTy
set_option linter.unusedVariables false
set_option maxRecDepth 1000000
namespace Go.Proofs.YtmkmimgokagimaaGreat
open Go.Ab
noncomputable def pV:Code:=(Tryz.f44.body).getD .skip
def vS:Nat→Option (List Nat):=fun i=>none
def wC:Nat→Bool:=fun i=>false
def qe(g:Nat→AV)(x0 x1:AV)(H:Heap)(Q:AV→Heap→Prop):Prop :=
 doW (Zc H 2 25 x0) fun v1 H1 =>
 doW (Zc H1 3 29 x1) fun v2 H2 =>
 doW (Zk H2 4 81) fun v3 H3 =>
 doQ (Zb H3 25 v1) fun v4 =>
 doQ (Zb H3 29 v2) fun v5 =>
 doW (Za true H3 11 104 [v4,v5]) fun v6 H4 =>
 doQ (Zf 42 12 0 v6) fun v7 =>
 br (some v7) (
 doQ (Z5 81) fun v8 =>
 doW (Zp H4 81 v3 v8) fun v9 H5 =>
 doQ (Yc H5 v3 81) fun v10 =>
 Q (.tup [v10,v6]) H5) (
 doQ (Zd 25 v1 1) fun v8 =>
 doQ (Zb H4 23 v8) fun v9 =>
 doQ (Zb H4 29 v2) fun v10 =>
 doW (Za true H4 20 105 [v9,v10,(.fn (.func 106) [] [])]) fun v11 H5 =>
 doQ (ZE v11 0) fun v12 =>
 doQ (ZE v11 1) fun v13 =>
 doW (Zk H5 7 81) fun v14 H6 =>
 doW (Zp H6 81 v14 v12) fun v15 H7 =>
 doQ (ZC v13) fun v16 =>
 br (some v16) (
 doQ (Zb H7 29 v2) fun v17 =>
 doQ (Zd 81 v14 0) fun v18 =>
 doW (Zp H7 29 v18 v17) fun v19 H8 =>
 doQ (Zb H8 81 v14) fun v20 =>
 doW (Zp H8 81 v3 v20) fun v21 H9 =>
 doQ (Yc H9 v3 81) fun v22 =>
 Q (.tup [v22,(.v (.int .i64 0))]) H9) (
 doQ (Zb H7 81 v14) fun v17 =>
 doW (Zp H7 81 v3 v17) fun v18 H8 =>
 doQ (Yc H8 v3 81) fun v19 =>
 Q (.tup [v19,(.v (.int .i64 0))]) H8))
theorem vk(x0 x1:AV)(H:Heap)(Q:AV→Heap→Prop)(h : ∀g,qe g x0 x1 H Q):GoL env Tryz.f44 0 [.code pV] [(0,x0),(1,x1)] H Q:=⟨fun g=>aU (live:=vS) (cut:=wC) (n:=500) (Eq.mp (by kernel_rfl) (h g))⟩
noncomputable def jJ:Code:=(Tryz.f63.body).getD .skip
def n7:Nat→Option (List Nat):=fun i=>none
def oh:Nat→Bool:=fun i=>false
def jL(g:Nat→AV)(x0:AV)(H:Heap)(Q:AV→Heap→Prop):Prop :=
 doW (Zc H 1 25 x0) fun v1 H1 =>
 doQ (Zd 25 v1 0) fun v2 =>
 doQ (Zb H1 22 v2) fun v3 =>
 doQ (Zh H1 5 22 v3) fun v4 =>
 doQ (Zq 3 5 100 v4) fun v5 =>
 gQ v5 false (Zd 25 v1 1) fun v6 =>
 gQ v5 false (Zb H1 23 v6) fun v7 =>
 gQ v5 false (Zh H1 10 23 v7) fun v8 =>
 gQ v5 false (Zq 3 10 100 v8) fun v9 =>
 doQ (Zm v5 v9) fun v10 =>
 Q v10 H1
theorem nN(x0:AV)(H:Heap)(Q:AV→Heap→Prop)(h : ∀g,jL g x0 H Q):GoL env Tryz.f63 0 [.code jJ] [(0,x0)] H Q:=⟨fun g=>aU (live:=n7) (cut:=oh) (n:=500) (Eq.mp (by kernel_rfl) (h g))⟩
noncomputable def iC:Code:=(Tryz.f102.body).getD .skip
noncomputable def iJ:List Item:=(bM 3 400 [.code iC]).getD []
noncomputable def iI:List Item:=(bM 8 400 [.code iC]).getD []
noncomputable def ia:List Item:=(bM 14 400 [.code iC]).getD []
def kg:Nat→Option (List Nat):=fun i=>cond (Nat.beq i 3) (some [27,3,25,1,26]) (cond (Nat.beq i 8) (some [40,1,3,38,39]) (cond (Nat.beq i 14) (some [87,8,85,1,3,86]) (none)))
def kI:Nat→Bool:=fun i=>false
def qf(g:Nat→AV)(x0:AV)(H:Heap)(Q:AV→Heap→Prop):Prop :=
 doW (Zc H 1 25 x0) fun v1 H1 =>
 doQ (Zd 25 v1 0) fun v2 =>
 doQ (Zb H1 22 v2) fun v3 =>
 doQ (Zh H1 13 22 v3) fun v4 =>
 doQ (Zx 3 13 8 v4) fun v5 =>
 doQ (Zd 25 v1 1) fun v6 =>
 doQ (Zb H1 23 v6) fun v7 =>
 doQ (Zh H1 17 23 v7) fun v8 =>
 doQ (Zx 3 17 8 v8) fun v9 =>
 doQ (Zd 25 v1 2) fun v10 =>
 doQ (Zb H1 3 v10) fun v11 =>
 doW (Za false H1 21 167 [v11,(.v (.int .i64 64))]) fun v12 H2 =>
 doW (gZ env.P true false H2 (Ref.mk 0 22 (Heap.gen H2 0 22) 0) 262 3 (some [(0,v5),(1,v9),(2,v12)])) fun v13 H3 =>
 doW (Za false H3 23 166 [v13]) fun v14 H4 =>
 doQ (Zd 25 v1 0) fun v15 =>
 doQ (Zb H4 22 v15) fun v16 =>
 doQ (Zh H4 26 22 v16) fun v17 =>
  GoL env Tryz.f102 0 iJ [(27,(.v (.int .i64 0))),(3,v14),(25,v16),(1,v1),(26,v17)] H4 Q
theorem vl(x0:AV)(H:Heap)(Q:AV→Heap→Prop)(h : ∀g,qf g x0 H Q):GoL env Tryz.f102 0 [.code iC] [(0,x0)] H Q:=⟨fun g=>aU (live:=kg) (cut:=kI) (n:=500) (Eq.mp (by kernel_rfl) (h g))⟩
def lj(g:Nat→AV)(x27 x3 x25 x1 x26:AV)(H:Heap)(Q:AV→Heap→Prop):Prop :=
 doQ (Zn 3 27 26 x27 x26) fun v1 =>
 br (some v1) (
 doQ (Zu H 22 x25 x27) fun v2 =>
 doQ (Zb H 58 v2) fun v3 =>
 doW (Zk H 5 58) fun v4 H1 =>
 doW (Zp H1 58 v4 v3) fun v5 H2 =>
 gQ x3 true (Zb H2 58 v4) fun v6 =>
 gW x3 true H2 (Za true H2 34 168 [v6]) fun v7 H3 =>
 doQ (Zg x3 v7) fun v8 =>
 doQ (Ze 3 27 1 x27) fun v9 =>
  GoL env Tryz.f102 0 iJ [(27,v9),(3,v8),(25,x25),(1,x1),(26,x26)] H3 Q) (
 doQ (Zd 25 x1 1) fun v2 =>
 doQ (Zb H 23 v2) fun v3 =>
 doQ (Zh H 39 23 v3) fun v4 =>
  GoL env Tryz.f102 0 iI [(40,(.v (.int .i64 0))),(1,x1),(3,x3),(38,v3),(39,v4)] H Q)
theorem nK(x27 x3 x25 x1 x26:AV)(H:Heap)(Q:AV→Heap→Prop)(h : ∀g,lj g x27 x3 x25 x1 x26 H Q):GoL env Tryz.f102 0 iJ [(27,x27),(3,x3),(25,x25),(1,x1),(26,x26)] H Q:=cW fun g=>aU (live:=kg) (cut:=kI) (n:=500) (Eq.mp (by kernel_rfl) (h g))
def eU(g:Nat→AV)(x40 x1 x3 x38 x39:AV)(H:Heap)(Q:AV→Heap→Prop):Prop :=
 doQ (Zn 3 40 39 x40 x39) fun v1 =>
 br (some v1) (
 doQ (Zu H 23 x38 x40) fun v2 =>
 doQ (Zb H 81 v2) fun v3 =>
 doW (Zk H 7 81) fun v4 H1 =>
 doW (Zp H1 81 v4 v3) fun v5 H2 =>
 gQ x3 true (Zd 81 v4 0) fun v6 =>
 gQ x3 true (Zb H2 29 v6) fun v7 =>
 gW x3 true H2 (Za false H2 49 76 [v7]) fun v8 H3 =>
 gQ x3 true (Zj 42 49 0 v8) fun v9 =>
 gQ x3 true (Zd 81 v4 1) fun v10 =>
 gQ x3 true (Zb H3 3 v10) fun v11 =>
 gW x3 true H3 (Za false H3 53 167 [v11,(.v (.int .i64 64))]) fun v12 H4 =>
 gQ x3 true (Zd 81 v4 2) fun v13 =>
 gQ x3 true (Zb H4 3 v13) fun v14 =>
 gW x3 true H4 (Za false H4 56 167 [v14,(.v (.int .i64 256))]) fun v15 H5 =>
 gQ x3 true (Zd 81 v4 3) fun v16 =>
 gQ x3 true (Zb H5 3 v16) fun v17 =>
 gW x3 true H5 (Za false H5 59 167 [v17,(.v (.int .i64 4096))]) fun v18 H6 =>
 gQ x3 true (ZF x40) fun v19 =>
 gQ x3 true (Zj 3 60 0 v19) fun v20 =>
 gQ x3 true (ZF v20) fun v21 =>
 gQ v21 false (Zd 25 x1 1) fun v22 =>
 gQ v21 false (Zb H6 23 v22) fun v23 =>
 gQ v21 false (ZF x40) fun v24 =>
 gQ v21 false (Zw 3 65 1 v24) fun v25 =>
 gQ v21 false (az env.P true (Heap.get H6) (Ref.mk 0 67 (Heap.gen H6 0 67) 0) .max #[3,3] [v25,(.v (.int .i64 0))]) fun v26 =>
 gQ v21 false (Zu H6 23 v23 v26) fun v27 =>
 gQ v21 false (Zd 81 v27 0) fun v28 =>
 gQ v21 false (Zb H6 29 v28) fun v29 =>
 gQ v21 false (Zd 81 v4 0) fun v30 =>
 gQ v21 false (Zb H6 29 v30) fun v31 =>
 gW v21 false H6 (Za false H6 73 169 [v29,v31]) fun v32 H7 =>
 gQ x3 true (Zm v21 v32) fun v33 =>
 gW x3 true H7 (gZ env.P true false H7 (Ref.mk 0 75 (Heap.gen H7 0 75) 0) 262 5 (some [(0,v9),(1,v12),(2,v15),(3,v18),(4,v33)])) fun v34 H8 =>
 gW x3 true H8 (Za false H8 76 166 [v34]) fun v35 H9 =>
 doQ (Zg x3 v35) fun v36 =>
 doQ (Ze 3 40 1 x40) fun v37 =>
  GoL env Tryz.f102 0 iI [(40,v37),(1,x1),(3,v36),(38,x38),(39,x39)] H9 Q) (
 doQ (Zd 25 x1 1) fun v2 =>
 doQ (Zb H 23 v2) fun v3 =>
 doQ (Zd 25 x1 1) fun v4 =>
 doQ (Zb H 23 v4) fun v5 =>
 doQ (Zh H 83 23 v5) fun v6 =>
 doQ (az env.P false (Heap.get H) (Ref.mk 0 84 (Heap.gen H 0 84) 0) .min #[3,3] [v6,(.v (.int .i64 8))]) fun v7 =>
 doQ (ZH H 23 v3 v7) fun v8 =>
 doQ (Zh H 86 23 v8) fun v9 =>
  GoL env Tryz.f102 0 ia [(87,(.v (.int .i64 0))),(8,(.v (.int .i64 0))),(85,v8),(1,x1),(3,x3),(86,v9)] H Q)
theorem nJ(x40 x1 x3 x38 x39:AV)(H:Heap)(Q:AV→Heap→Prop)(h : ∀g,eU g x40 x1 x3 x38 x39 H Q):GoL env Tryz.f102 0 iI [(40,x40),(1,x1),(3,x3),(38,x38),(39,x39)] H Q:=cW fun g=>aU (live:=kg) (cut:=kI) (n:=500) (Eq.mp (by kernel_rfl) (h g))
def kT(g:Nat→AV)(x87 x8 x85 x1 x3 x86:AV)(H:Heap)(Q:AV→Heap→Prop):Prop :=
 doQ (Zn 3 87 86 x87 x86) fun v1 =>
 br (some v1) (
 doQ (Zu H 23 x85 x87) fun v2 =>
 doQ (Zb H 81 v2) fun v3 =>
 doW (Zk H 10 81) fun v4 H1 =>
 doW (Zp H1 81 v4 v3) fun v5 H2 =>
 doQ (Zd 81 v4 3) fun v6 =>
 doQ (Zb H2 3 v6) fun v7 =>
 doQ (az env.P false (Heap.get H2) (Ref.mk 0 94 (Heap.gen H2 0 94) 0) .max #[3,3] [v7,(.v (.int .i64 0))]) fun v8 =>
 doQ (az env.P false (Heap.get H2) (Ref.mk 0 95 (Heap.gen H2 0 95) 0) .min #[3,3] [v8,(.v (.int .i64 4096))]) fun v9 =>
 doQ (ZB 3 91 95 x8 v9) fun v10 =>
 doQ (Ze 3 87 1 x87) fun v11 =>
  GoL env Tryz.f102 0 ia [(87,v11),(8,v10),(85,x85),(1,x1),(3,x3),(86,x86)] H2 Q) (
 doQ (ZC x3) fun v2 =>
 gQ v2 false (Zb H 25 x1) fun v3 =>
 gW v2 false H (Za true H 102 103 [v3]) fun v4 H1 =>
 gQ v2 false (Zq 3 102 2048 v4) fun v5 =>
 doQ (Zm v2 v5) fun v6 =>
 gQ v6 false (ZF x8) fun v7 =>
 gQ v6 false (Zq 3 106 8192 v7) fun v8 =>
 doQ (Zm v6 v8) fun v9 =>
 br (some v9) (
 Q (.v (.int .i64 8)) H1) (
 Q (.v (.int .i64 0)) H1))
theorem mS(x87 x8 x85 x1 x3 x86:AV)(H:Heap)(Q:AV→Heap→Prop)(h : ∀g,kT g x87 x8 x85 x1 x3 x86 H Q):GoL env Tryz.f102 0 ia [(87,x87),(8,x8),(85,x85),(1,x1),(3,x3),(86,x86)] H Q:=cW fun g=>aU (live:=kg) (cut:=kI) (n:=500) (Eq.mp (by kernel_rfl) (h g))
noncomputable def lX:Code:=(Tryz.f103.body).getD .skip
noncomputable def hZ:List Item:=(bM 3 400 [.code lX]).getD []
def pb:Nat→Option (List Nat):=fun i=>cond (Nat.beq i 3) (some [11,3,9,10]) (none)
def pf:Nat→Bool:=fun i=>false
def po(g:Nat→AV)(x0:AV)(H:Heap)(Q:AV→Heap→Prop):Prop :=
 doW (Zc H 1 25 x0) fun v1 H1 =>
 doQ (Zd 25 v1 2) fun v2 =>
 doQ (Zb H1 3 v2) fun v3 =>
 doQ (Zd 25 v1 1) fun v4 =>
 doQ (Zb H1 23 v4) fun v5 =>
 doQ (Zh H1 10 23 v5) fun v6 =>
  GoL env Tryz.f103 0 hZ [(11,(.v (.int .i64 0))),(3,v3),(9,v5),(10,v6)] H1 Q
theorem uE(x0:AV)(H:Heap)(Q:AV→Heap→Prop)(h : ∀g,po g x0 H Q):GoL env Tryz.f103 0 [.code lX] [(0,x0)] H Q:=⟨fun g=>aU (live:=pb) (cut:=pf) (n:=500) (Eq.mp (by kernel_rfl) (h g))⟩
def kS(g:Nat→AV)(x11 x3 x9 x10:AV)(H:Heap)(Q:AV→Heap→Prop):Prop :=
 doQ (Zn 3 11 10 x11 x10) fun v1 =>
 br (some v1) (
 doQ (Zu H 23 x9 x11) fun v2 =>
 doQ (Zb H 81 v2) fun v3 =>
 doW (Zk H 5 81) fun v4 H1 =>
 doW (Zp H1 81 v4 v3) fun v5 H2 =>
 doQ (Zd 81 v4 1) fun v6 =>
 doQ (Zb H2 3 v6) fun v7 =>
 doQ (Zd 81 v4 2) fun v8 =>
 doQ (Zb H2 3 v8) fun v9 =>
 doQ (ZU 3 4 19 v9) fun v10 =>
 doQ (ZB 3 17 20 v7 v10) fun v11 =>
 doQ (ZB 3 15 21 x3 v11) fun v12 =>
 doQ (Ze 3 11 1 x11) fun v13 =>
  GoL env Tryz.f103 0 hZ [(11,v13),(3,v12),(9,x9),(10,x10)] H2 Q) (
 Q x3 H)
theorem mR(x11 x3 x9 x10:AV)(H:Heap)(Q:AV→Heap→Prop)(h : ∀g,kS g x11 x3 x9 x10 H Q):GoL env Tryz.f103 0 hZ [(11,x11),(3,x3),(9,x9),(10,x10)] H Q:=cW fun g=>aU (live:=pb) (cut:=pf) (n:=500) (Eq.mp (by kernel_rfl) (h g))
noncomputable def pU:Code:=(Tryz.f104.body).getD .skip
def vR:Nat→Option (List Nat):=fun i=>none
def wB:Nat→Bool:=fun i=>false
def qc(g:Nat→AV)(x0 x1:AV)(H:Heap)(Q:AV→Heap→Prop):Prop :=
 doW (Zc H 2 25 x0) fun v1 H1 =>
 doW (Zc H1 3 29 x1) fun v2 H2 =>
 doQ (Zb H2 25 v1) fun v3 =>
 doW (Za false H2 6 102 [v3]) fun v4 H3 =>
 doQ (Zb H3 29 v2) fun v5 =>
 doW (Za false H3 8 76 [v5]) fun v6 H4 =>
 doQ (Z6 H4 9 42 42 v4 v6) fun v7 =>
 Q v7 H4
theorem vj(x0 x1:AV)(H:Heap)(Q:AV→Heap→Prop)(h : ∀g,qc g x0 x1 H Q):GoL env Tryz.f104 0 [.code pU] [(0,x0),(1,x1)] H Q:=⟨fun g=>aU (live:=vR) (cut:=wB) (n:=500) (Eq.mp (by kernel_rfl) (h g))⟩
noncomputable def cm:Code:=(Tryz.f105.body).getD .skip
def ef:Nat→Option (List Nat):=fun i=>none
def ei:Nat→Bool:=fun i=>false
def cp(g:Nat→AV)(x0 x1 x2:AV)(H:Heap)(Q:AV→Heap→Prop):Prop :=
 doW (Zc H 4 29 x1) fun v1 H1 =>
 doW (Zc H1 5 180 x2) fun v2 H2 =>
 doW (Zk H2 6 81) fun v3 H3 =>
 doQ (sc (.func 171) (some []) (some [v2,v1])) fun v4 =>
 doW (Za true H3 11 170 [x0,v4]) fun v5 H4 =>
 doQ (Zs 3 12 0 v5) fun v6 =>
 br (some v6) (
 doQ (Zb H4 81 v3) fun v7 =>
 doW (Zp H4 81 v3 v7) fun v8 H5 =>
 doQ (Yc H5 v3 81) fun v9 =>
 Q (.tup [v9,(.v (.bool false))]) H5) (
 doQ (Zu H4 23 x0 v5) fun v7 =>
 doQ (Zb H4 81 v7) fun v8 =>
 doW (Zp H4 81 v3 v8) fun v9 H5 =>
 doQ (Yc H5 v3 81) fun v10 =>
 Q (.tup [v10,(.v (.bool true))]) H5)
theorem ee(x0 x1 x2:AV)(H:Heap)(Q:AV→Heap→Prop)(h : ∀g,cp g x0 x1 x2 H Q):GoL env Tryz.f105 0 [.code cm] [(0,x0),(1,x1),(2,x2)] H Q:=⟨fun g=>aU (live:=ef) (cut:=ei) (n:=500) (Eq.mp (by kernel_rfl) (h g))⟩
noncomputable def oo:Code:=(Tryz.f106.body).getD .skip
def tv:Nat→Option (List Nat):=fun i=>none
def tE:Nat→Bool:=fun i=>false
def oA(g:Nat→AV)(x0:AV)(H:Heap)(Q:AV→Heap→Prop):Prop :=
 doW (Zc H 1 81 x0) fun v1 H1 =>
 doW (Zk H1 2 29) fun v2 H2 =>
 doQ (Zd 81 v1 0) fun v3 =>
 doQ (Zb H2 29 v3) fun v4 =>
 doW (Zp H2 29 v2 v4) fun v5 H3 =>
 doQ (Yc H3 v2 29) fun v6 =>
 Q v6 H3
theorem sX(x0:AV)(H:Heap)(Q:AV→Heap→Prop)(h : ∀g,oA g x0 H Q):GoL env Tryz.f106 0 [.code oo] [(0,x0)] H Q:=⟨fun g=>aU (live:=tv) (cut:=tE) (n:=500) (Eq.mp (by kernel_rfl) (h g))⟩
noncomputable def qZ:Code:=(Tryz.f160.body).getD .skip
def xn:Nat→Option (List Nat):=fun i=>none
def xL:Nat→Bool:=fun i=>false
def rf(g:Nat→AV)(x0:AV)(H:Heap)(Q:AV→Heap→Prop):Prop :=
 doW (Zc H 1 25 x0) fun v1 H1 =>
 doW (Zk H1 2 25) fun v2 H2 =>
 doQ (Zd 25 v1 0) fun v3 =>
 doQ (Zb H2 22 v3) fun v4 =>
 doW (Za false H2 5 205 [v4]) fun v5 H3 =>
 doQ (Zd 25 v1 1) fun v6 =>
 doQ (Zb H3 23 v6) fun v7 =>
 doW (Za false H3 8 206 [v7]) fun v8 H4 =>
 doQ (Zd 25 v1 0) fun v9 =>
 doW (Zp H4 22 v9 v5) fun v10 H5 =>
 doQ (Zd 25 v1 1) fun v11 =>
 doW (Zp H5 23 v11 v8) fun v12 H6 =>
 doQ (Zb H6 25 v1) fun v13 =>
 doW (Zp H6 25 v2 v13) fun v14 H7 =>
 doQ (Yc H7 v2 25) fun v15 =>
 Q v15 H7
theorem wZ(x0:AV)(H:Heap)(Q:AV→Heap→Prop)(h : ∀g,rf g x0 H Q):GoL env Tryz.f160 0 [.code qZ] [(0,x0)] H Q:=⟨fun g=>aU (live:=xn) (cut:=xL) (n:=500) (Eq.mp (by kernel_rfl) (h g))⟩
noncomputable def sG:Code:=(Tryz.f166.body).getD .skip
def zo:Nat→Option (List Nat):=fun i=>none
def zK:Nat→Bool:=fun i=>false
def sQ(g:Nat→AV)(x0:AV)(H:Heap)(Q:AV→Heap→Prop):Prop :=
 doW (Za true H 4 212 [x0,(.v (.bool false))]) fun v1 H1 =>
 doQ (ZC v1) fun v2 =>
 Q v2 H1
theorem yI(x0:AV)(H:Heap)(Q:AV→Heap→Prop)(h : ∀g,sQ g x0 H Q):GoL env Tryz.f166 0 [.code sG] [(0,x0)] H Q:=⟨fun g=>aU (live:=zo) (cut:=zK) (n:=500) (Eq.mp (by kernel_rfl) (h g))⟩
noncomputable def qY:Code:=(Tryz.f167.body).getD .skip
def xm:Nat→Option (List Nat):=fun i=>none
def xK:Nat→Bool:=fun i=>false
def re(g:Nat→AV)(x0 x1:AV)(H:Heap)(Q:AV→Heap→Prop):Prop :=
 doQ (Zo 3 5 0 x0) fun v1 =>
 gQ v1 true (ZF x0) fun v2 =>
 gQ v1 true (ZF x1) fun v3 =>
 gQ v1 true (qBin env.P .leq 3 (Operand.tmp 8) (Operand.tmp 9) (some v2) (some v3)) fun v4 =>
 doQ (Zg v1 v4) fun v5 =>
 Q v5 H
theorem wY(x0 x1:AV)(H:Heap)(Q:AV→Heap→Prop)(h : ∀g,re g x0 x1 H Q):GoL env Tryz.f167 0 [.code qY] [(0,x0),(1,x1)] H Q:=⟨fun g=>aU (live:=xm) (cut:=xK) (n:=500) (Eq.mp (by kernel_rfl) (h g))⟩
noncomputable def pT:Code:=(Tryz.f168.body).getD .skip
def vQ:Nat→Option (List Nat):=fun i=>none
def wA:Nat→Bool:=fun i=>false
def qb(g:Nat→AV)(x0:AV)(H:Heap)(Q:AV→Heap→Prop):Prop :=
 doW (Zc H 1 58 x0) fun v1 H1 =>
 doQ (Zd 58 v1 0) fun v2 =>
 doQ (Zb H1 29 v2) fun v3 =>
 doW (Za false H1 5 76 [v3]) fun v4 H2 =>
 doQ (Zj 42 5 0 v4) fun v5 =>
 gQ v5 true (Zd 58 v1 1) fun v6 =>
 gQ v5 true (Zb H2 4 v6) fun v7 =>
 gQ v5 true (ZF v7) fun v8 =>
 gQ v8 false (Zd 58 v1 0) fun v9 =>
 gQ v8 false (Zb H2 29 v9) fun v10 =>
 gW v8 false H2 (Za false H2 13 185 []) fun v11 H3 =>
 gQ v8 false (Zl 29 12 13 v10 v11) fun v12 =>
 gQ v5 true (Zm v8 v12) fun v13 =>
 doQ (Zg v5 v13) fun v14 =>
 Q v14 H3
theorem vi(x0:AV)(H:Heap)(Q:AV→Heap→Prop)(h : ∀g,qb g x0 H Q):GoL env Tryz.f168 0 [.code pT] [(0,x0)] H Q:=⟨fun g=>aU (live:=vQ) (cut:=wA) (n:=500) (Eq.mp (by kernel_rfl) (h g))⟩
noncomputable def bf:Code:=(Tryz.f170.body).getD .skip
noncomputable def aF:List Item:=(bM 2 400 [.code bf]).getD []
def bH:Nat→Option (List Nat):=fun i=>cond (Nat.beq i 2) (some [8,0,1,7]) (none)
def bI:Nat→Bool:=fun i=>false
def bJ(g:Nat→AV)(x0 x1:AV)(H:Heap)(Q:AV→Heap→Prop):Prop :=
 doQ (Zh H 7 23 x0) fun v1 =>
  GoL env Tryz.f170 0 aF [(8,(.v (.int .i64 0))),(0,x0),(1,x1),(7,v1)] H Q
theorem dp(x0 x1:AV)(H:Heap)(Q:AV→Heap→Prop)(h : ∀g,bJ g x0 x1 H Q):GoL env Tryz.f170 0 [.code bf] [(0,x0),(1,x1)] H Q:=⟨fun g=>aU (live:=bH) (cut:=bI) (n:=500) (Eq.mp (by kernel_rfl) (h g))⟩
def ba(g:Nat→AV)(x8 x0 x1 x7:AV)(H:Heap)(Q:AV→Heap→Prop):Prop :=
 doQ (Zn 3 8 7 x8 x7) fun v1 =>
 br (some v1) (
 doQ (Zu H 23 x0 x8) fun v2 =>
 doQ (Zb H 81 v2) fun v3 =>
 doW (ZD H 16 x1 v3) fun v4 H1 =>
 br (some v4) (
 Q x8 H1) (
 doQ (Ze 3 8 1 x8) fun v5 =>
  GoL env Tryz.f170 0 aF [(8,v5),(0,x0),(1,x1),(7,x7)] H1 Q)) (
 Q (.v (.int .i64 (-1))) H)
theorem bE(x8 x0 x1 x7:AV)(H:Heap)(Q:AV→Heap→Prop)(h : ∀g,ba g x8 x0 x1 x7 H Q):GoL env Tryz.f170 0 aF [(8,x8),(0,x0),(1,x1),(7,x7)] H Q:=cW fun g=>aU (live:=bH) (cut:=bI) (n:=500) (Eq.mp (by kernel_rfl) (h g))
noncomputable def cf:Code:=(Tryz.f171.body).getD .skip
def dS:Nat→Option (List Nat):=fun i=>none
def dT:Nat→Bool:=fun i=>false
def cg(g:Nat→AV)(x0 x1 x2:AV)(H:Heap)(Q:AV→Heap→Prop):Prop :=
 doW (Zc H 3 81 x0) fun v1 H1 =>
 doQ (Zb H1 180 x1) fun v2 =>
 doQ (Zb H1 81 v1) fun v3 =>
 doW (aG env false (limf env) (limt env 0) H1 (Ref.mk 0 7 (Heap.gen H1 0 7) 0) (some v2) [v3]) fun v4 H2 =>
 doQ (Zb H2 29 x2) fun v5 =>
 doQ (Zl 29 7 8 v4 v5) fun v6 =>
 Q v6 H2
theorem dQ(x0 x1 x2:AV)(H:Heap)(Q:AV→Heap→Prop)(h : ∀g,cg g x0 x1 x2 H Q):GoL env Tryz.f171 0 [.code cf] [(0,x0),(1,x1),(2,x2)] H Q:=⟨fun g=>aU (live:=dS) (cut:=dT) (n:=500) (Eq.mp (by kernel_rfl) (h g))⟩
noncomputable def sH:Code:=(Tryz.f174.body).getD .skip
def zp:Nat→Option (List Nat):=fun i=>none
def zL:Nat→Bool:=fun i=>false
def sR(g:Nat→AV)(x0 x1 x2:AV)(H:Heap)(Q:AV→Heap→Prop):Prop :=
 doW (Zc H 3 25 x0) fun v1 H1 =>
 doW (Zc H1 5 29 x2) fun v2 H2 =>
 doQ (Zb H2 25 v1) fun v3 =>
 doQ (Zb H2 29 v2) fun v4 =>
 doW (Za true H2 12 104 [v3,v4]) fun v5 H3 =>
 doQ (Zf 42 13 0 v5) fun v6 =>
 br (some v6) (
 Q (.tup [(.v (.bool false)),v5]) H3) (
 doQ (Zs 3 16 0 x1) fun v7 =>
 gQ v7 false (ZF x1) fun v8 =>
 gQ v7 false (Zd 25 v1 0) fun v9 =>
 gQ v7 false (Zb H3 22 v9) fun v10 =>
 gQ v7 false (Zh H3 22 22 v10) fun v11 =>
 gQ v7 false (Z3 3 19 22 v8 v11) fun v12 =>
 doQ (Zm v7 v12) fun v13 =>
 br (some v13) (
 Q (.tup [(.v (.bool false)),(.v (.int .i64 0))]) H3) (
 doQ (Zd 25 v1 0) fun v14 =>
 doQ (Zb H3 22 v14) fun v15 =>
 doQ (Zu H3 22 v15 x1) fun v16 =>
 doQ (Zb H3 58 v16) fun v17 =>
 doW (Zk H3 9 58) fun v18 H4 =>
 doW (Zp H4 58 v18 v17) fun v19 H5 =>
 doQ (Zd 58 v18 1) fun v20 =>
 doQ (Zb H5 4 v20) fun v21 =>
 gQ v21 true (Zb H5 29 v2) fun v22 =>
 gQ v21 true (Zd 58 v18 0) fun v23 =>
 gQ v21 true (Zb H5 29 v23) fun v24 =>
 gW v21 true H5 (Za true H5 36 47 [v22,v24]) fun v25 H6 =>
 doQ (Zg v21 v25) fun v26 =>
 Q (.tup [v26,(.v (.int .i64 0))]) H6))
theorem yJ(x0 x1 x2:AV)(H:Heap)(Q:AV→Heap→Prop)(h : ∀g,sR g x0 x1 x2 H Q):GoL env Tryz.f174 0 [.code sH] [(0,x0),(1,x1),(2,x2)] H Q:=⟨fun g=>aU (live:=zp) (cut:=zL) (n:=500) (Eq.mp (by kernel_rfl) (h g))⟩
noncomputable def aO:Code:=(Tryz.f205.body).getD .skip
def dM:Nat→Option (List Nat):=fun i=>none
def dO:Nat→Bool:=fun i=>false
def aQ(g:Nat→AV)(x0:AV)(H:Heap)(Q:AV→Heap→Prop):Prop :=
 doQ (ZP 22 3 x0) fun v1 =>
 br (some v1) (
 Q (.v (.slice none 0 0)) H) (
 doW (Z8 H 5 22 0) fun v2 H1 =>
 doW (Zt H1 7 22 22 v2 x0) fun v3 H2 =>
 Q v3 H2)
theorem bo(x0:AV)(H:Heap)(Q:AV→Heap→Prop)(h : ∀g,aQ g x0 H Q):GoL env Tryz.f205 0 [.code aO] [(0,x0)] H Q:=⟨fun g=>aU (live:=dM) (cut:=dO) (n:=500) (Eq.mp (by kernel_rfl) (h g))⟩
noncomputable def aN:Code:=(Tryz.f206.body).getD .skip
def dL:Nat→Option (List Nat):=fun i=>none
def dN:Nat→Bool:=fun i=>false
def aP(g:Nat→AV)(x0:AV)(H:Heap)(Q:AV→Heap→Prop):Prop :=
 doQ (ZP 23 3 x0) fun v1 =>
 br (some v1) (
 Q (.v (.slice none 0 0)) H) (
 doW (Z8 H 5 23 0) fun v2 H1 =>
 doW (Zt H1 7 23 23 v2 x0) fun v3 H2 =>
 Q v3 H2)
theorem bn(x0:AV)(H:Heap)(Q:AV→Heap→Prop)(h : ∀g,aP g x0 H Q):GoL env Tryz.f206 0 [.code aN] [(0,x0)] H Q:=⟨fun g=>aU (live:=dL) (cut:=dN) (n:=500) (Eq.mp (by kernel_rfl) (h g))⟩
noncomputable def gj:Code:=(Tryz.f212.body).getD .skip
def la:Nat→Option (List Nat):=fun i=>none
def ld:Nat→Bool:=fun i=>false
def gl(g:Nat→AV)(x0 x1:AV)(H:Heap)(Q:AV→Heap→Prop):Prop :=
 doW (Za true H 7 227 [x0,x1]) fun v1 H1 =>
 doQ (Zo 3 7 0 v1) fun v2 =>
 Q v2 H1
theorem k6(x0 x1:AV)(H:Heap)(Q:AV→Heap→Prop)(h : ∀g,gl g x0 x1 H Q):GoL env Tryz.f212 0 [.code gj] [(0,x0),(1,x1)] H Q:=⟨fun g=>aU (live:=la) (cut:=ld) (n:=500) (Eq.mp (by kernel_rfl) (h g))⟩
noncomputable def eO:Code:=(Tryz.f227.body).getD .skip
noncomputable def cV:List Item:=(bM 2 400 [.code eO]).getD []
def hY:Nat→Option (List Nat):=fun i=>cond (Nat.beq i 2) (some [8,0,1,7]) (none)
def ic:Nat→Bool:=fun i=>false
def ik(g:Nat→AV)(x0 x1:AV)(H:Heap)(Q:AV→Heap→Prop):Prop :=
 doQ (Zh H 7 262 x0) fun v1 =>
  GoL env Tryz.f227 0 cV [(8,(.v (.int .i64 0))),(0,x0),(1,x1),(7,v1)] H Q
theorem mb(x0 x1:AV)(H:Heap)(Q:AV→Heap→Prop)(h : ∀g,ik g x0 x1 H Q):GoL env Tryz.f227 0 [.code eO] [(0,x0),(1,x1)] H Q:=⟨fun g=>aU (live:=hY) (cut:=ic) (n:=500) (Eq.mp (by kernel_rfl) (h g))⟩
def ep(g:Nat→AV)(x8 x0 x1 x7:AV)(H:Heap)(Q:AV→Heap→Prop):Prop :=
 doQ (Zn 3 8 7 x8 x7) fun v1 =>
 br (some v1) (
 doQ (Zu H 262 x0 x8) fun v2 =>
 doQ (Zb H 4 v2) fun v3 =>
 doQ (Zl 4 11 15 x1 v3) fun v4 =>
 br (some v4) (
 Q x8 H) (
 doQ (Ze 3 8 1 x8) fun v5 =>
  GoL env Tryz.f227 0 cV [(8,v5),(0,x0),(1,x1),(7,x7)] H Q)) (
 Q (.v (.int .i64 (-1))) H)
theorem gp(x8 x0 x1 x7:AV)(H:Heap)(Q:AV→Heap→Prop)(h : ∀g,ep g x8 x0 x1 x7 H Q):GoL env Tryz.f227 0 cV [(8,x8),(0,x0),(1,x1),(7,x7)] H Q:=cW fun g=>aU (live:=hY) (cut:=ic) (n:=500) (Eq.mp (by kernel_rfl) (h g))
end Go.Proofs.YtmkmimgokagimaaGreat
