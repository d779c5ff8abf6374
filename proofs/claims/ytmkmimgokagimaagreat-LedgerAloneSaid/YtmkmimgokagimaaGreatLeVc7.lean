/-
  What is to be shown of each function, computed from its code. No statement of a seat is proved here.
-/
import Derived.Test.YtmkmimgokagimaaGreatLeTy
set_option linter.unusedVariables false
set_option maxRecDepth 1000000
namespace Go.Proofs.YtmkmimgokagimaaGreat
open Go.Ab
noncomputable def rH:Code:=(Tryz.f44.body).getD .skip
def yM:Nat→Option (List Nat):=fun i=>none
def zq:Nat→Bool:=fun i=>false
def rW(g:Nat→AV)(x0 x1:AV)(H:Heap)(Q:AV→Heap→Prop):Prop :=
 doW (Zc H 2 25 x0) fun v1 H1 =>
 doW (Zc H1 3 29 x1) fun v2 H2 =>
 doW (Zj H2 4 81) fun v3 H3 =>
 doQ (Zb H3 25 v1) fun v4 =>
 doQ (Zb H3 29 v2) fun v5 =>
 doW (Za true H3 11 104 [v4,v5]) fun v6 H4 =>
 doQ (Ze 42 12 0 v6) fun v7 =>
 br (some v7) (
 doQ (Z6 81) fun v8 =>
 doW (Zo H4 81 v3 v8) fun v9 H5 =>
 doQ (Z7 H5 v3 81) fun v10 =>
 Q (.tup [v10,v6]) H5) (
 doQ (Zd 25 v1 1) fun v8 =>
 doQ (Zb H4 23 v8) fun v9 =>
 doQ (Zb H4 29 v2) fun v10 =>
 doW (Za true H4 20 105 [v9,v10,(.fn (.func 106) [] [])]) fun v11 H5 =>
 doQ (Zx v11 0) fun v12 =>
 doQ (Zx v11 1) fun v13 =>
 doW (Zj H5 7 81) fun v14 H6 =>
 doW (Zo H6 81 v14 v12) fun v15 H7 =>
 doQ (ZE v13) fun v16 =>
 br (some v16) (
 doQ (Zb H7 29 v2) fun v17 =>
 doQ (Zd 81 v14 0) fun v18 =>
 doW (Zo H7 29 v18 v17) fun v19 H8 =>
 doQ (Zb H8 81 v14) fun v20 =>
 doW (Zo H8 81 v3 v20) fun v21 H9 =>
 doQ (Z7 H9 v3 81) fun v22 =>
 Q (.tup [v22,(.v (.int .i64 0))]) H9) (
 doQ (Zb H7 81 v14) fun v17 =>
 doW (Zo H7 81 v3 v17) fun v18 H8 =>
 doQ (Z7 H8 v3 81) fun v19 =>
 Q (.tup [v19,(.v (.int .i64 0))]) H8))
theorem xZ(x0 x1:AV)(H:Heap)(Q:AV→Heap→Prop)(h : ∀g,rW g x0 x1 H Q):GoL env Tryz.f44 0 [.code rH] [(0,x0),(1,x1)] H Q:=⟨fun g=>aH (live:=yM) (cut:=zq) (n:=500) (Eq.mp (by kernel_rfl) (h g))⟩
noncomputable def s8:Code:=(Tryz.f46.body).getD .skip
def Aj:Nat→Option (List Nat):=fun i=>none
def AE:Nat→Bool:=fun i=>false
def tp(g:Nat→AV)(x0 x1:AV)(H:Heap)(Q:AV→Heap→Prop):Prop :=
 doW (Zc H 2 25 x0) fun v1 H1 =>
 doW (Zc H1 3 25 x1) fun v2 H2 =>
 doQ (Zd 25 v1 0) fun v3 =>
 doQ (Zb H2 22 v3) fun v4 =>
 doQ (Zd 25 v2 0) fun v5 =>
 doQ (Zb H2 22 v5) fun v6 =>
 doW (Za true H2 9 109 [v4,v6]) fun v7 H3 =>
 gQ v7 true (Zd 25 v1 1) fun v8 =>
 gQ v7 true (Zb H3 23 v8) fun v9 =>
 gQ v7 true (Zd 25 v2 1) fun v10 =>
 gQ v7 true (Zb H3 23 v10) fun v11 =>
 gW v7 true H3 (Za true H3 15 110 [v9,v11]) fun v12 H4 =>
 doQ (Zg v7 v12) fun v13 =>
 gQ v13 true (Zd 25 v1 2) fun v14 =>
 gQ v13 true (Zb H4 3 v14) fun v15 =>
 gQ v13 true (Zd 25 v2 2) fun v16 =>
 gQ v13 true (Zb H4 3 v16) fun v17 =>
 gQ v13 true (Zn 3 19 21 v15 v17) fun v18 =>
 doQ (Zg v13 v18) fun v19 =>
 Q v19 H4
theorem zZ(x0 x1:AV)(H:Heap)(Q:AV→Heap→Prop)(h : ∀g,tp g x0 x1 H Q):GoL env Tryz.f46 0 [.code s8] [(0,x0),(1,x1)] H Q:=⟨fun g=>aH (live:=Aj) (cut:=AE) (n:=500) (Eq.mp (by kernel_rfl) (h g))⟩
noncomputable def kT:Code:=(Tryz.f63.body).getD .skip
def pC:Nat→Option (List Nat):=fun i=>none
def pI:Nat→Bool:=fun i=>false
def kV(g:Nat→AV)(x0:AV)(H:Heap)(Q:AV→Heap→Prop):Prop :=
 doW (Zc H 1 25 x0) fun v1 H1 =>
 doQ (Zd 25 v1 0) fun v2 =>
 doQ (Zb H1 22 v2) fun v3 =>
 doQ (Zh H1 5 22 v3) fun v4 =>
 doQ (Zr 3 5 100 v4) fun v5 =>
 gQ v5 false (Zd 25 v1 1) fun v6 =>
 gQ v5 false (Zb H1 23 v6) fun v7 =>
 gQ v5 false (Zh H1 10 23 v7) fun v8 =>
 gQ v5 false (Zr 3 10 100 v8) fun v9 =>
 doQ (Zl v5 v9) fun v10 =>
 Q v10 H1
theorem ph(x0:AV)(H:Heap)(Q:AV→Heap→Prop)(h : ∀g,kV g x0 H Q):GoL env Tryz.f63 0 [.code kT] [(0,x0)] H Q:=⟨fun g=>aH (live:=pC) (cut:=pI) (n:=500) (Eq.mp (by kernel_rfl) (h g))⟩
noncomputable def jl:Code:=(Tryz.f102.body).getD .skip
noncomputable def jx:List Item:=(bL 3 400 [.code jl]).getD []
noncomputable def jw:List Item:=(bL 8 400 [.code jl]).getD []
noncomputable def iO:List Item:=(bL 14 400 [.code jl]).getD []
def lC:Nat→Option (List Nat):=fun i=>cond (Nat.beq i 3) (some [27,3,25,1,26]) (cond (Nat.beq i 8) (some [40,1,3,38,39]) (cond (Nat.beq i 14) (some [87,8,85,1,3,86]) (none)))
def lV:Nat→Bool:=fun i=>false
def rX(g:Nat→AV)(x0:AV)(H:Heap)(Q:AV→Heap→Prop):Prop :=
 doW (Zc H 1 25 x0) fun v1 H1 =>
 doQ (Zd 25 v1 0) fun v2 =>
 doQ (Zb H1 22 v2) fun v3 =>
 doQ (Zh H1 13 22 v3) fun v4 =>
 doQ (ZA 3 13 8 v4) fun v5 =>
 doQ (Zd 25 v1 1) fun v6 =>
 doQ (Zb H1 23 v6) fun v7 =>
 doQ (Zh H1 17 23 v7) fun v8 =>
 doQ (ZA 3 17 8 v8) fun v9 =>
 doQ (Zd 25 v1 2) fun v10 =>
 doQ (Zb H1 3 v10) fun v11 =>
 doW (Za false H1 21 167 [v11,(.v (.int .i64 64))]) fun v12 H2 =>
 doW (iI env.P true false H2 (Ref.mk 0 22 (Heap.gen H2 0 22) 0) 262 3 (some [(0,v5),(1,v9),(2,v12)])) fun v13 H3 =>
 doW (Za false H3 23 166 [v13]) fun v14 H4 =>
 doQ (Zd 25 v1 0) fun v15 =>
 doQ (Zb H4 22 v15) fun v16 =>
 doQ (Zh H4 26 22 v16) fun v17 =>
  GoL env Tryz.f102 0 jx [(27,(.v (.int .i64 0))),(3,v14),(25,v16),(1,v1),(26,v17)] H4 Q
theorem ya(x0:AV)(H:Heap)(Q:AV→Heap→Prop)(h : ∀g,rX g x0 H Q):GoL env Tryz.f102 0 [.code jl] [(0,x0)] H Q:=⟨fun g=>aH (live:=lC) (cut:=lV) (n:=500) (Eq.mp (by kernel_rfl) (h g))⟩
def mA(g:Nat→AV)(x27 x3 x25 x1 x26:AV)(H:Heap)(Q:AV→Heap→Prop):Prop :=
 doQ (Zp 3 27 26 x27 x26) fun v1 =>
 br (some v1) (
 doQ (Zu H 22 x25 x27) fun v2 =>
 doQ (Zb H 58 v2) fun v3 =>
 doW (Zj H 5 58) fun v4 H1 =>
 doW (Zo H1 58 v4 v3) fun v5 H2 =>
 gQ x3 true (Zb H2 58 v4) fun v6 =>
 gW x3 true H2 (Za true H2 34 168 [v6]) fun v7 H3 =>
 doQ (Zg x3 v7) fun v8 =>
 doQ (Zf 3 27 1 x27) fun v9 =>
  GoL env Tryz.f102 0 jx [(27,v9),(3,v8),(25,x25),(1,x1),(26,x26)] H3 Q) (
 doQ (Zd 25 x1 1) fun v2 =>
 doQ (Zb H 23 v2) fun v3 =>
 doQ (Zh H 39 23 v3) fun v4 =>
  GoL env Tryz.f102 0 jw [(40,(.v (.int .i64 0))),(1,x1),(3,x3),(38,v3),(39,v4)] H Q)
theorem pe(x27 x3 x25 x1 x26:AV)(H:Heap)(Q:AV→Heap→Prop)(h : ∀g,mA g x27 x3 x25 x1 x26 H Q):GoL env Tryz.f102 0 jx [(27,x27),(3,x3),(25,x25),(1,x1),(26,x26)] H Q:=cU fun g=>aH (live:=lC) (cut:=lV) (n:=500) (Eq.mp (by kernel_rfl) (h g))
def fG(g:Nat→AV)(x40 x1 x3 x38 x39:AV)(H:Heap)(Q:AV→Heap→Prop):Prop :=
 doQ (Zp 3 40 39 x40 x39) fun v1 =>
 br (some v1) (
 doQ (Zu H 23 x38 x40) fun v2 =>
 doQ (Zb H 81 v2) fun v3 =>
 doW (Zj H 7 81) fun v4 H1 =>
 doW (Zo H1 81 v4 v3) fun v5 H2 =>
 gQ x3 true (Zd 81 v4 0) fun v6 =>
 gQ x3 true (Zb H2 29 v6) fun v7 =>
 gW x3 true H2 (Za false H2 49 76 [v7]) fun v8 H3 =>
 gQ x3 true (Zk 42 49 0 v8) fun v9 =>
 gQ x3 true (Zd 81 v4 1) fun v10 =>
 gQ x3 true (Zb H3 3 v10) fun v11 =>
 gW x3 true H3 (Za false H3 53 167 [v11,(.v (.int .i64 64))]) fun v12 H4 =>
 gQ x3 true (Zd 81 v4 2) fun v13 =>
 gQ x3 true (Zb H4 3 v13) fun v14 =>
 gW x3 true H4 (Za false H4 56 167 [v14,(.v (.int .i64 256))]) fun v15 H5 =>
 gQ x3 true (Zd 81 v4 3) fun v16 =>
 gQ x3 true (Zb H5 3 v16) fun v17 =>
 gW x3 true H5 (Za false H5 59 167 [v17,(.v (.int .i64 4096))]) fun v18 H6 =>
 gQ x3 true (ZF x40) fun v19 =>
 gQ x3 true (Zk 3 60 0 v19) fun v20 =>
 gQ x3 true (ZF v20) fun v21 =>
 gQ v21 false (Zd 25 x1 1) fun v22 =>
 gQ v21 false (Zb H6 23 v22) fun v23 =>
 gQ v21 false (ZF x40) fun v24 =>
 gQ v21 false (Zy 3 65 1 v24) fun v25 =>
 gQ v21 false (ax env.P true (Heap.get H6) (Ref.mk 0 67 (Heap.gen H6 0 67) 0) .max #[3,3] [v25,(.v (.int .i64 0))]) fun v26 =>
 gQ v21 false (Zu H6 23 v23 v26) fun v27 =>
 gQ v21 false (Zd 81 v27 0) fun v28 =>
 gQ v21 false (Zb H6 29 v28) fun v29 =>
 gQ v21 false (Zd 81 v4 0) fun v30 =>
 gQ v21 false (Zb H6 29 v30) fun v31 =>
 gW v21 false H6 (Za false H6 73 169 [v29,v31]) fun v32 H7 =>
 gQ x3 true (Zl v21 v32) fun v33 =>
 gW x3 true H7 (iI env.P true false H7 (Ref.mk 0 75 (Heap.gen H7 0 75) 0) 262 5 (some [(0,v9),(1,v12),(2,v15),(3,v18),(4,v33)])) fun v34 H8 =>
 gW x3 true H8 (Za false H8 76 166 [v34]) fun v35 H9 =>
 doQ (Zg x3 v35) fun v36 =>
 doQ (Zf 3 40 1 x40) fun v37 =>
  GoL env Tryz.f102 0 jw [(40,v37),(1,x1),(3,v36),(38,x38),(39,x39)] H9 Q) (
 doQ (Zd 25 x1 1) fun v2 =>
 doQ (Zb H 23 v2) fun v3 =>
 doQ (Zd 25 x1 1) fun v4 =>
 doQ (Zb H 23 v4) fun v5 =>
 doQ (Zh H 83 23 v5) fun v6 =>
 doQ (ax env.P false (Heap.get H) (Ref.mk 0 84 (Heap.gen H 0 84) 0) .min #[3,3] [v6,(.v (.int .i64 8))]) fun v7 =>
 doQ (ZJ H 23 v3 v7) fun v8 =>
 doQ (Zh H 86 23 v8) fun v9 =>
  GoL env Tryz.f102 0 iO [(87,(.v (.int .i64 0))),(8,(.v (.int .i64 0))),(85,v8),(1,x1),(3,x3),(86,v9)] H Q)
theorem pd(x40 x1 x3 x38 x39:AV)(H:Heap)(Q:AV→Heap→Prop)(h : ∀g,fG g x40 x1 x3 x38 x39 H Q):GoL env Tryz.f102 0 jw [(40,x40),(1,x1),(3,x3),(38,x38),(39,x39)] H Q:=cU fun g=>aH (live:=lC) (cut:=lV) (n:=500) (Eq.mp (by kernel_rfl) (h g))
def me(g:Nat→AV)(x87 x8 x85 x1 x3 x86:AV)(H:Heap)(Q:AV→Heap→Prop):Prop :=
 doQ (Zp 3 87 86 x87 x86) fun v1 =>
 br (some v1) (
 doQ (Zu H 23 x85 x87) fun v2 =>
 doQ (Zb H 81 v2) fun v3 =>
 doW (Zj H 10 81) fun v4 H1 =>
 doW (Zo H1 81 v4 v3) fun v5 H2 =>
 doQ (Zd 81 v4 3) fun v6 =>
 doQ (Zb H2 3 v6) fun v7 =>
 doQ (ax env.P false (Heap.get H2) (Ref.mk 0 94 (Heap.gen H2 0 94) 0) .max #[3,3] [v7,(.v (.int .i64 0))]) fun v8 =>
 doQ (ax env.P false (Heap.get H2) (Ref.mk 0 95 (Heap.gen H2 0 95) 0) .min #[3,3] [v8,(.v (.int .i64 4096))]) fun v9 =>
 doQ (ZG 3 91 95 x8 v9) fun v10 =>
 doQ (Zf 3 87 1 x87) fun v11 =>
  GoL env Tryz.f102 0 iO [(87,v11),(8,v10),(85,x85),(1,x1),(3,x3),(86,x86)] H2 Q) (
 doQ (ZE x3) fun v2 =>
 gQ v2 false (Zb H 25 x1) fun v3 =>
 gW v2 false H (Za true H 102 103 [v3]) fun v4 H1 =>
 gQ v2 false (Zr 3 102 2048 v4) fun v5 =>
 doQ (Zl v2 v5) fun v6 =>
 gQ v6 false (ZF x8) fun v7 =>
 gQ v6 false (Zr 3 106 8192 v7) fun v8 =>
 doQ (Zl v6 v8) fun v9 =>
 br (some v9) (
 Q (.v (.int .i64 8)) H1) (
 Q (.v (.int .i64 0)) H1))
theorem og(x87 x8 x85 x1 x3 x86:AV)(H:Heap)(Q:AV→Heap→Prop)(h : ∀g,me g x87 x8 x85 x1 x3 x86 H Q):GoL env Tryz.f102 0 iO [(87,x87),(8,x8),(85,x85),(1,x1),(3,x3),(86,x86)] H Q:=cU fun g=>aH (live:=lC) (cut:=lV) (n:=500) (Eq.mp (by kernel_rfl) (h g))
noncomputable def m7:Code:=(Tryz.f103.body).getD .skip
noncomputable def iN:List Item:=(bL 3 400 [.code m7]).getD []
def qF:Nat→Option (List Nat):=fun i=>cond (Nat.beq i 3) (some [11,3,9,10]) (none)
def qJ:Nat→Bool:=fun i=>false
def qR(g:Nat→AV)(x0:AV)(H:Heap)(Q:AV→Heap→Prop):Prop :=
 doW (Zc H 1 25 x0) fun v1 H1 =>
 doQ (Zd 25 v1 2) fun v2 =>
 doQ (Zb H1 3 v2) fun v3 =>
 doQ (Zd 25 v1 1) fun v4 =>
 doQ (Zb H1 23 v4) fun v5 =>
 doQ (Zh H1 10 23 v5) fun v6 =>
  GoL env Tryz.f103 0 iN [(11,(.v (.int .i64 0))),(3,v3),(9,v5),(10,v6)] H1 Q
theorem xj(x0:AV)(H:Heap)(Q:AV→Heap→Prop)(h : ∀g,qR g x0 H Q):GoL env Tryz.f103 0 [.code m7] [(0,x0)] H Q:=⟨fun g=>aH (live:=qF) (cut:=qJ) (n:=500) (Eq.mp (by kernel_rfl) (h g))⟩
def md(g:Nat→AV)(x11 x3 x9 x10:AV)(H:Heap)(Q:AV→Heap→Prop):Prop :=
 doQ (Zp 3 11 10 x11 x10) fun v1 =>
 br (some v1) (
 doQ (Zu H 23 x9 x11) fun v2 =>
 doQ (Zb H 81 v2) fun v3 =>
 doW (Zj H 5 81) fun v4 H1 =>
 doW (Zo H1 81 v4 v3) fun v5 H2 =>
 doQ (Zd 81 v4 1) fun v6 =>
 doQ (Zb H2 3 v6) fun v7 =>
 doQ (Zd 81 v4 2) fun v8 =>
 doQ (Zb H2 3 v8) fun v9 =>
 doQ (ZW 3 4 19 v9) fun v10 =>
 doQ (ZG 3 17 20 v7 v10) fun v11 =>
 doQ (ZG 3 15 21 x3 v11) fun v12 =>
 doQ (Zf 3 11 1 x11) fun v13 =>
  GoL env Tryz.f103 0 iN [(11,v13),(3,v12),(9,x9),(10,x10)] H2 Q) (
 Q x3 H)
theorem oe(x11 x3 x9 x10:AV)(H:Heap)(Q:AV→Heap→Prop)(h : ∀g,md g x11 x3 x9 x10 H Q):GoL env Tryz.f103 0 iN [(11,x11),(3,x3),(9,x9),(10,x10)] H Q:=cU fun g=>aH (live:=qF) (cut:=qJ) (n:=500) (Eq.mp (by kernel_rfl) (h g))
noncomputable def rG:Code:=(Tryz.f104.body).getD .skip
def yL:Nat→Option (List Nat):=fun i=>none
def zp:Nat→Bool:=fun i=>false
def rV(g:Nat→AV)(x0 x1:AV)(H:Heap)(Q:AV→Heap→Prop):Prop :=
 doW (Zc H 2 25 x0) fun v1 H1 =>
 doW (Zc H1 3 29 x1) fun v2 H2 =>
 doQ (Zb H2 25 v1) fun v3 =>
 doW (Za false H2 6 102 [v3]) fun v4 H3 =>
 doQ (Zb H3 29 v2) fun v5 =>
 doW (Za false H3 8 76 [v5]) fun v6 H4 =>
 doQ (ZU H4 9 42 42 v4 v6) fun v7 =>
 Q v7 H4
theorem xY(x0 x1:AV)(H:Heap)(Q:AV→Heap→Prop)(h : ∀g,rV g x0 x1 H Q):GoL env Tryz.f104 0 [.code rG] [(0,x0),(1,x1)] H Q:=⟨fun g=>aH (live:=yL) (cut:=zp) (n:=500) (Eq.mp (by kernel_rfl) (h g))⟩
noncomputable def cK:Code:=(Tryz.f105.body).getD .skip
def eN:Nat→Option (List Nat):=fun i=>none
def eO:Nat→Bool:=fun i=>false
def cL(g:Nat→AV)(x0 x1 x2:AV)(H:Heap)(Q:AV→Heap→Prop):Prop :=
 doW (Zc H 4 29 x1) fun v1 H1 =>
 doW (Zc H1 5 180 x2) fun v2 H2 =>
 doW (Zj H2 6 81) fun v3 H3 =>
 doQ (rf (.func 171) (some []) (some [v2,v1])) fun v4 =>
 doW (Za true H3 11 170 [x0,v4]) fun v5 H4 =>
 doQ (Zs 3 12 0 v5) fun v6 =>
 br (some v6) (
 doQ (Zb H4 81 v3) fun v7 =>
 doW (Zo H4 81 v3 v7) fun v8 H5 =>
 doQ (Z7 H5 v3 81) fun v9 =>
 Q (.tup [v9,(.v (.bool false))]) H5) (
 doQ (Zu H4 23 x0 v5) fun v7 =>
 doQ (Zb H4 81 v7) fun v8 =>
 doW (Zo H4 81 v3 v8) fun v9 H5 =>
 doQ (Z7 H5 v3 81) fun v10 =>
 Q (.tup [v10,(.v (.bool true))]) H5)
theorem eM(x0 x1 x2:AV)(H:Heap)(Q:AV→Heap→Prop)(h : ∀g,cL g x0 x1 x2 H Q):GoL env Tryz.f105 0 [.code cK] [(0,x0),(1,x1),(2,x2)] H Q:=⟨fun g=>aH (live:=eN) (cut:=eO) (n:=500) (Eq.mp (by kernel_rfl) (h g))⟩
noncomputable def pK:Code:=(Tryz.f106.body).getD .skip
def vU:Nat→Option (List Nat):=fun i=>none
def wg:Nat→Bool:=fun i=>false
def pU(g:Nat→AV)(x0:AV)(H:Heap)(Q:AV→Heap→Prop):Prop :=
 doW (Zc H 1 81 x0) fun v1 H1 =>
 doW (Zj H1 2 29) fun v2 H2 =>
 doQ (Zd 81 v1 0) fun v3 =>
 doQ (Zb H2 29 v3) fun v4 =>
 doW (Zo H2 29 v2 v4) fun v5 H3 =>
 doQ (Z7 H3 v2 29) fun v6 =>
 Q v6 H3
theorem vw(x0:AV)(H:Heap)(Q:AV→Heap→Prop)(h : ∀g,pU g x0 H Q):GoL env Tryz.f106 0 [.code pK] [(0,x0)] H Q:=⟨fun g=>aH (live:=vU) (cut:=wg) (n:=500) (Eq.mp (by kernel_rfl) (h g))⟩
noncomputable def bC:Code:=(Tryz.f109.body).getD .skip
noncomputable def aM:List Item:=(bL 4 400 [.code bC]).getD []
def ct:Nat→Option (List Nat):=fun i=>cond (Nat.beq i 4) (some [13,1,0,12]) (none)
def cy:Nat→Bool:=fun i=>false
def cC(g:Nat→AV)(x0 x1:AV)(H:Heap)(Q:AV→Heap→Prop):Prop :=
 doQ (Zh H 7 22 x0) fun v1 =>
 doQ (Zh H 9 22 x1) fun v2 =>
 doQ (Zv 3 7 9 v1 v2) fun v3 =>
 br (some v3) (
 Q (.v (.bool false)) H) (
 doQ (Zh H 12 22 x0) fun v4 =>
  GoL env Tryz.f109 0 aM [(13,(.v (.int .i64 0))),(1,x1),(0,x0),(12,v4)] H Q)
theorem ed(x0 x1:AV)(H:Heap)(Q:AV→Heap→Prop)(h : ∀g,cC g x0 x1 H Q):GoL env Tryz.f109 0 [.code bC] [(0,x0),(1,x1)] H Q:=⟨fun g=>aH (live:=ct) (cut:=cy) (n:=500) (Eq.mp (by kernel_rfl) (h g))⟩
def bu(g:Nat→AV)(x13 x1 x0 x12:AV)(H:Heap)(Q:AV→Heap→Prop):Prop :=
 doQ (Zp 3 13 12 x13 x12) fun v1 =>
 br (some v1) (
 doQ (Zu H 22 x0 x13) fun v2 =>
 doQ (Zb H 58 v2) fun v3 =>
 doQ (Zu H 22 x1 x13) fun v4 =>
 doQ (Zb H 58 v4) fun v5 =>
 doQ (Zv 58 19 23 v3 v5) fun v6 =>
 br (some v6) (
 Q (.v (.bool false)) H) (
 doQ (Zf 3 13 1 x13) fun v7 =>
  GoL env Tryz.f109 0 aM [(13,v7),(1,x1),(0,x0),(12,x12)] H Q)) (
 Q (.v (.bool true)) H)
theorem b8(x13 x1 x0 x12:AV)(H:Heap)(Q:AV→Heap→Prop)(h : ∀g,bu g x13 x1 x0 x12 H Q):GoL env Tryz.f109 0 aM [(13,x13),(1,x1),(0,x0),(12,x12)] H Q:=cU fun g=>aH (live:=ct) (cut:=cy) (n:=500) (Eq.mp (by kernel_rfl) (h g))
noncomputable def bB:Code:=(Tryz.f110.body).getD .skip
noncomputable def aL:List Item:=(bL 4 400 [.code bB]).getD []
def cr:Nat→Option (List Nat):=fun i=>cond (Nat.beq i 4) (some [13,1,0,12]) (none)
def cx:Nat→Bool:=fun i=>false
def cB(g:Nat→AV)(x0 x1:AV)(H:Heap)(Q:AV→Heap→Prop):Prop :=
 doQ (Zh H 7 23 x0) fun v1 =>
 doQ (Zh H 9 23 x1) fun v2 =>
 doQ (Zv 3 7 9 v1 v2) fun v3 =>
 br (some v3) (
 Q (.v (.bool false)) H) (
 doQ (Zh H 12 23 x0) fun v4 =>
  GoL env Tryz.f110 0 aL [(13,(.v (.int .i64 0))),(1,x1),(0,x0),(12,v4)] H Q)
theorem eb(x0 x1:AV)(H:Heap)(Q:AV→Heap→Prop)(h : ∀g,cB g x0 x1 H Q):GoL env Tryz.f110 0 [.code bB] [(0,x0),(1,x1)] H Q:=⟨fun g=>aH (live:=cr) (cut:=cx) (n:=500) (Eq.mp (by kernel_rfl) (h g))⟩
def bt(g:Nat→AV)(x13 x1 x0 x12:AV)(H:Heap)(Q:AV→Heap→Prop):Prop :=
 doQ (Zp 3 13 12 x13 x12) fun v1 =>
 br (some v1) (
 doQ (Zu H 23 x0 x13) fun v2 =>
 doQ (Zb H 81 v2) fun v3 =>
 doQ (Zu H 23 x1 x13) fun v4 =>
 doQ (Zb H 81 v4) fun v5 =>
 doQ (Zv 81 19 23 v3 v5) fun v6 =>
 br (some v6) (
 Q (.v (.bool false)) H) (
 doQ (Zf 3 13 1 x13) fun v7 =>
  GoL env Tryz.f110 0 aL [(13,v7),(1,x1),(0,x0),(12,x12)] H Q)) (
 Q (.v (.bool true)) H)
theorem b7(x13 x1 x0 x12:AV)(H:Heap)(Q:AV→Heap→Prop)(h : ∀g,bt g x13 x1 x0 x12 H Q):GoL env Tryz.f110 0 aL [(13,x13),(1,x1),(0,x0),(12,x12)] H Q:=cU fun g=>aH (live:=cr) (cut:=cx) (n:=500) (Eq.mp (by kernel_rfl) (h g))
noncomputable def s7:Code:=(Tryz.f160.body).getD .skip
def Ai:Nat→Option (List Nat):=fun i=>none
def AD:Nat→Bool:=fun i=>false
def tn(g:Nat→AV)(x0:AV)(H:Heap)(Q:AV→Heap→Prop):Prop :=
 doW (Zc H 1 25 x0) fun v1 H1 =>
 doW (Zj H1 2 25) fun v2 H2 =>
 doQ (Zd 25 v1 0) fun v3 =>
 doQ (Zb H2 22 v3) fun v4 =>
 doW (Za false H2 5 205 [v4]) fun v5 H3 =>
 doQ (Zd 25 v1 1) fun v6 =>
 doQ (Zb H3 23 v6) fun v7 =>
 doW (Za false H3 8 206 [v7]) fun v8 H4 =>
 doQ (Zd 25 v1 0) fun v9 =>
 doW (Zo H4 22 v9 v5) fun v10 H5 =>
 doQ (Zd 25 v1 1) fun v11 =>
 doW (Zo H5 23 v11 v8) fun v12 H6 =>
 doQ (Zb H6 25 v1) fun v13 =>
 doW (Zo H6 25 v2 v13) fun v14 H7 =>
 doQ (Z7 H7 v2 25) fun v15 =>
 Q v15 H7
theorem zY(x0:AV)(H:Heap)(Q:AV→Heap→Prop)(h : ∀g,tn g x0 H Q):GoL env Tryz.f160 0 [.code s7] [(0,x0)] H Q:=⟨fun g=>aH (live:=Ai) (cut:=AD) (n:=500) (Eq.mp (by kernel_rfl) (h g))⟩
noncomputable def u6:Code:=(Tryz.f166.body).getD .skip
def BU:Nat→Option (List Nat):=fun i=>none
def Cf:Nat→Bool:=fun i=>false
def vm(g:Nat→AV)(x0:AV)(H:Heap)(Q:AV→Heap→Prop):Prop :=
 doW (Za true H 4 212 [x0,(.v (.bool false))]) fun v1 H1 =>
 doQ (ZE v1) fun v2 =>
 Q v2 H1
theorem Bo(x0:AV)(H:Heap)(Q:AV→Heap→Prop)(h : ∀g,vm g x0 H Q):GoL env Tryz.f166 0 [.code u6] [(0,x0)] H Q:=⟨fun g=>aH (live:=BU) (cut:=Cf) (n:=500) (Eq.mp (by kernel_rfl) (h g))⟩
noncomputable def sZ:Code:=(Tryz.f167.body).getD .skip
def Ah:Nat→Option (List Nat):=fun i=>none
def AB:Nat→Bool:=fun i=>false
def tl(g:Nat→AV)(x0 x1:AV)(H:Heap)(Q:AV→Heap→Prop):Prop :=
 doQ (Zq 3 5 0 x0) fun v1 =>
 gQ v1 true (ZF x0) fun v2 =>
 gQ v1 true (ZF x1) fun v3 =>
 gQ v1 true (qBin env.P .leq 3 (Operand.tmp 8) (Operand.tmp 9) (some v2) (some v3)) fun v4 =>
 doQ (Zg v1 v4) fun v5 =>
 Q v5 H
theorem zX(x0 x1:AV)(H:Heap)(Q:AV→Heap→Prop)(h : ∀g,tl g x0 x1 H Q):GoL env Tryz.f167 0 [.code sZ] [(0,x0),(1,x1)] H Q:=⟨fun g=>aH (live:=Ah) (cut:=AB) (n:=500) (Eq.mp (by kernel_rfl) (h g))⟩
noncomputable def rF:Code:=(Tryz.f168.body).getD .skip
def yK:Nat→Option (List Nat):=fun i=>none
def zo:Nat→Bool:=fun i=>false
def rU(g:Nat→AV)(x0:AV)(H:Heap)(Q:AV→Heap→Prop):Prop :=
 doW (Zc H 1 58 x0) fun v1 H1 =>
 doQ (Zd 58 v1 0) fun v2 =>
 doQ (Zb H1 29 v2) fun v3 =>
 doW (Za false H1 5 76 [v3]) fun v4 H2 =>
 doQ (Zk 42 5 0 v4) fun v5 =>
 gQ v5 true (Zd 58 v1 1) fun v6 =>
 gQ v5 true (Zb H2 4 v6) fun v7 =>
 gQ v5 true (ZF v7) fun v8 =>
 gQ v8 false (Zd 58 v1 0) fun v9 =>
 gQ v8 false (Zb H2 29 v9) fun v10 =>
 gW v8 false H2 (Za false H2 13 185 []) fun v11 H3 =>
 gQ v8 false (Zn 29 12 13 v10 v11) fun v12 =>
 gQ v5 true (Zl v8 v12) fun v13 =>
 doQ (Zg v5 v13) fun v14 =>
 Q v14 H3
theorem xX(x0:AV)(H:Heap)(Q:AV→Heap→Prop)(h : ∀g,rU g x0 H Q):GoL env Tryz.f168 0 [.code rF] [(0,x0)] H Q:=⟨fun g=>aH (live:=yK) (cut:=zo) (n:=500) (Eq.mp (by kernel_rfl) (h g))⟩
noncomputable def bo:Code:=(Tryz.f170.body).getD .skip
noncomputable def aJ:List Item:=(bL 2 400 [.code bo]).getD []
def bQ:Nat→Option (List Nat):=fun i=>cond (Nat.beq i 2) (some [8,0,1,7]) (none)
def bR:Nat→Bool:=fun i=>false
def bS(g:Nat→AV)(x0 x1:AV)(H:Heap)(Q:AV→Heap→Prop):Prop :=
 doQ (Zh H 7 23 x0) fun v1 =>
  GoL env Tryz.f170 0 aJ [(8,(.v (.int .i64 0))),(0,x0),(1,x1),(7,v1)] H Q
theorem dI(x0 x1:AV)(H:Heap)(Q:AV→Heap→Prop)(h : ∀g,bS g x0 x1 H Q):GoL env Tryz.f170 0 [.code bo] [(0,x0),(1,x1)] H Q:=⟨fun g=>aH (live:=bQ) (cut:=bR) (n:=500) (Eq.mp (by kernel_rfl) (h g))⟩
def bl(g:Nat→AV)(x8 x0 x1 x7:AV)(H:Heap)(Q:AV→Heap→Prop):Prop :=
 doQ (Zp 3 8 7 x8 x7) fun v1 =>
 br (some v1) (
 doQ (Zu H 23 x0 x8) fun v2 =>
 doQ (Zb H 81 v2) fun v3 =>
 doW (ZH H 16 x1 v3) fun v4 H1 =>
 br (some v4) (
 Q x8 H1) (
 doQ (Zf 3 8 1 x8) fun v5 =>
  GoL env Tryz.f170 0 aJ [(8,v5),(0,x0),(1,x1),(7,x7)] H1 Q)) (
 Q (.v (.int .i64 (-1))) H)
theorem bO(x8 x0 x1 x7:AV)(H:Heap)(Q:AV→Heap→Prop)(h : ∀g,bl g x8 x0 x1 x7 H Q):GoL env Tryz.f170 0 aJ [(8,x8),(0,x0),(1,x1),(7,x7)] H Q:=cU fun g=>aH (live:=bQ) (cut:=bR) (n:=500) (Eq.mp (by kernel_rfl) (h g))
noncomputable def cF:Code:=(Tryz.f171.body).getD .skip
def ew:Nat→Option (List Nat):=fun i=>none
def eB:Nat→Bool:=fun i=>false
def cG(g:Nat→AV)(x0 x1 x2:AV)(H:Heap)(Q:AV→Heap→Prop):Prop :=
 doW (Zc H 3 81 x0) fun v1 H1 =>
 doQ (Zb H1 180 x1) fun v2 =>
 doQ (Zb H1 81 v1) fun v3 =>
 doW (aF env false (limf env) (limt env 0) H1 (Ref.mk 0 7 (Heap.gen H1 0 7) 0) (some v2) [v3]) fun v4 H2 =>
 doQ (Zb H2 29 x2) fun v5 =>
 doQ (Zn 29 7 8 v4 v5) fun v6 =>
 Q v6 H2
theorem ep(x0 x1 x2:AV)(H:Heap)(Q:AV→Heap→Prop)(h : ∀g,cG g x0 x1 x2 H Q):GoL env Tryz.f171 0 [.code cF] [(0,x0),(1,x1),(2,x2)] H Q:=⟨fun g=>aH (live:=ew) (cut:=eB) (n:=500) (Eq.mp (by kernel_rfl) (h g))⟩
noncomputable def u7:Code:=(Tryz.f174.body).getD .skip
def BV:Nat→Option (List Nat):=fun i=>none
def Cg:Nat→Bool:=fun i=>false
def vn(g:Nat→AV)(x0 x1 x2:AV)(H:Heap)(Q:AV→Heap→Prop):Prop :=
 doW (Zc H 3 25 x0) fun v1 H1 =>
 doW (Zc H1 5 29 x2) fun v2 H2 =>
 doQ (Zb H2 25 v1) fun v3 =>
 doQ (Zb H2 29 v2) fun v4 =>
 doW (Za true H2 12 104 [v3,v4]) fun v5 H3 =>
 doQ (Ze 42 13 0 v5) fun v6 =>
 br (some v6) (
 Q (.tup [(.v (.bool false)),v5]) H3) (
 doQ (Zs 3 16 0 x1) fun v7 =>
 gQ v7 false (ZF x1) fun v8 =>
 gQ v7 false (Zd 25 v1 0) fun v9 =>
 gQ v7 false (Zb H3 22 v9) fun v10 =>
 gQ v7 false (Zh H3 22 22 v10) fun v11 =>
 gQ v7 false (Z4 3 19 22 v8 v11) fun v12 =>
 doQ (Zl v7 v12) fun v13 =>
 br (some v13) (
 Q (.tup [(.v (.bool false)),(.v (.int .i64 0))]) H3) (
 doQ (Zd 25 v1 0) fun v14 =>
 doQ (Zb H3 22 v14) fun v15 =>
 doQ (Zu H3 22 v15 x1) fun v16 =>
 doQ (Zb H3 58 v16) fun v17 =>
 doW (Zj H3 9 58) fun v18 H4 =>
 doW (Zo H4 58 v18 v17) fun v19 H5 =>
 doQ (Zd 58 v18 1) fun v20 =>
 doQ (Zb H5 4 v20) fun v21 =>
 gQ v21 true (Zb H5 29 v2) fun v22 =>
 gQ v21 true (Zd 58 v18 0) fun v23 =>
 gQ v21 true (Zb H5 29 v23) fun v24 =>
 gW v21 true H5 (Za true H5 36 47 [v22,v24]) fun v25 H6 =>
 doQ (Zg v21 v25) fun v26 =>
 Q (.tup [v26,(.v (.int .i64 0))]) H6))
theorem Bp(x0 x1 x2:AV)(H:Heap)(Q:AV→Heap→Prop)(h : ∀g,vn g x0 x1 x2 H Q):GoL env Tryz.f174 0 [.code u7] [(0,x0),(1,x1),(2,x2)] H Q:=⟨fun g=>aH (live:=BV) (cut:=Cg) (n:=500) (Eq.mp (by kernel_rfl) (h g))⟩
noncomputable def aU:Code:=(Tryz.f205.body).getD .skip
def ef:Nat→Option (List Nat):=fun i=>none
def ej:Nat→Bool:=fun i=>false
def aW(g:Nat→AV)(x0:AV)(H:Heap)(Q:AV→Heap→Prop):Prop :=
 doQ (ZP 22 3 x0) fun v1 =>
 br (some v1) (
 Q (.v (.slice none 0 0)) H) (
 doW (Z8 H 5 22 0) fun v2 H1 =>
 doW (Zt H1 7 22 22 v2 x0) fun v3 H2 =>
 Q v3 H2)
theorem bz(x0:AV)(H:Heap)(Q:AV→Heap→Prop)(h : ∀g,aW g x0 H Q):GoL env Tryz.f205 0 [.code aU] [(0,x0)] H Q:=⟨fun g=>aH (live:=ef) (cut:=ej) (n:=500) (Eq.mp (by kernel_rfl) (h g))⟩
noncomputable def aT:Code:=(Tryz.f206.body).getD .skip
def ee:Nat→Option (List Nat):=fun i=>none
def ei:Nat→Bool:=fun i=>false
def aV(g:Nat→AV)(x0:AV)(H:Heap)(Q:AV→Heap→Prop):Prop :=
 doQ (ZP 23 3 x0) fun v1 =>
 br (some v1) (
 Q (.v (.slice none 0 0)) H) (
 doW (Z8 H 5 23 0) fun v2 H1 =>
 doW (Zt H1 7 23 23 v2 x0) fun v3 H2 =>
 Q v3 H2)
theorem bx(x0:AV)(H:Heap)(Q:AV→Heap→Prop)(h : ∀g,aV g x0 H Q):GoL env Tryz.f206 0 [.code aT] [(0,x0)] H Q:=⟨fun g=>aH (live:=ee) (cut:=ei) (n:=500) (Eq.mp (by kernel_rfl) (h g))⟩
noncomputable def gU:Code:=(Tryz.f212.body).getD .skip
def mr:Nat→Option (List Nat):=fun i=>none
def mw:Nat→Bool:=fun i=>false
def gX(g:Nat→AV)(x0 x1:AV)(H:Heap)(Q:AV→Heap→Prop):Prop :=
 doW (Za true H 7 227 [x0,x1]) fun v1 H1 =>
 doQ (Zq 3 7 0 v1) fun v2 =>
 Q v2 H1
theorem mq(x0 x1:AV)(H:Heap)(Q:AV→Heap→Prop)(h : ∀g,gX g x0 x1 H Q):GoL env Tryz.f212 0 [.code gU] [(0,x0),(1,x1)] H Q:=⟨fun g=>aH (live:=mr) (cut:=mw) (n:=500) (Eq.mp (by kernel_rfl) (h g))⟩
noncomputable def fw:Code:=(Tryz.f227.body).getD .skip
noncomputable def du:List Item:=(bL 2 400 [.code fw]).getD []
def iM:Nat→Option (List Nat):=fun i=>cond (Nat.beq i 2) (some [8,0,1,7]) (none)
def iR:Nat→Bool:=fun i=>false
def iU(g:Nat→AV)(x0 x1:AV)(H:Heap)(Q:AV→Heap→Prop):Prop :=
 doQ (Zh H 7 262 x0) fun v1 =>
  GoL env Tryz.f227 0 du [(8,(.v (.int .i64 0))),(0,x0),(1,x1),(7,v1)] H Q
theorem ng(x0 x1:AV)(H:Heap)(Q:AV→Heap→Prop)(h : ∀g,iU g x0 x1 H Q):GoL env Tryz.f227 0 [.code fw] [(0,x0),(1,x1)] H Q:=⟨fun g=>aH (live:=iM) (cut:=iR) (n:=500) (Eq.mp (by kernel_rfl) (h g))⟩
def eS(g:Nat→AV)(x8 x0 x1 x7:AV)(H:Heap)(Q:AV→Heap→Prop):Prop :=
 doQ (Zp 3 8 7 x8 x7) fun v1 =>
 br (some v1) (
 doQ (Zu H 262 x0 x8) fun v2 =>
 doQ (Zb H 4 v2) fun v3 =>
 doQ (Zn 4 11 15 x1 v3) fun v4 =>
 br (some v4) (
 Q x8 H) (
 doQ (Zf 3 8 1 x8) fun v5 =>
  GoL env Tryz.f227 0 du [(8,v5),(0,x0),(1,x1),(7,x7)] H Q)) (
 Q (.v (.int .i64 (-1))) H)
theorem gZ(x8 x0 x1 x7:AV)(H:Heap)(Q:AV→Heap→Prop)(h : ∀g,eS g x8 x0 x1 x7 H Q):GoL env Tryz.f227 0 du [(8,x8),(0,x0),(1,x1),(7,x7)] H Q:=cU fun g=>aH (live:=iM) (cut:=iR) (n:=500) (Eq.mp (by kernel_rfl) (h g))
end Go.Proofs.YtmkmimgokagimaaGreat
