/-
  What is to be shown of each function, computed from its code. No statement of a seat is proved here.
-/
import Derived.Test.YtmkmimgokagimaaGreatLeTy
set_option linter.unusedVariables false
set_option maxRecDepth 1000000
namespace Go.Proofs.YtmkmimgokagimaaGreat
open Go.Ab
noncomputable def rO:Code:=(Tryz.f44.body).getD .skip
def zx:Nat→Option (List Nat):=fun i=>none
def z6:Nat→Bool:=fun i=>false
def sj(g:Nat→AV)(x0 x1:AV)(H:Heap)(Q:AV→Heap→Prop):Prop :=
 doW (Zc H 2 25 x0) fun v1 H1 =>
 doW (Zc H1 3 29 x1) fun v2 H2 =>
 doW (Zg H2 4 81) fun v3 H3 =>
 doQ (Zb H3 25 v1) fun v4 =>
 doQ (Zb H3 29 v2) fun v5 =>
 doW (Za true H3 11 104 [v4,v5]) fun v6 H4 =>
 doQ (Ze 42 12 0 v6) fun v7 =>
 br (some v7) (
 doQ (ZS 81) fun v8 =>
 doW (Zl H4 81 v3 v8) fun v9 H5 =>
 doQ (ZV H5 v3 81) fun v10 =>
 Q (.tup [v10,v6]) H5) (
 doQ (Zd 25 v1 1) fun v8 =>
 doQ (Zb H4 23 v8) fun v9 =>
 doQ (Zb H4 29 v2) fun v10 =>
 doW (Za true H4 20 105 [v9,v10,(.fn (.func 106) [] [])]) fun v11 H5 =>
 doQ (Zw v11 0) fun v12 =>
 doQ (Zw v11 1) fun v13 =>
 doW (Zg H5 7 81) fun v14 H6 =>
 doW (Zl H6 81 v14 v12) fun v15 H7 =>
 doQ (Zz v13) fun v16 =>
 br (some v16) (
 doQ (Zb H7 29 v2) fun v17 =>
 doQ (Zd 81 v14 0) fun v18 =>
 doW (Zl H7 29 v18 v17) fun v19 H8 =>
 doQ (Zb H8 81 v14) fun v20 =>
 doW (Zl H8 81 v3 v20) fun v21 H9 =>
 doQ (ZV H9 v3 81) fun v22 =>
 Q (.tup [v22,(.v (.int .i64 0))]) H9) (
 doQ (Zb H7 81 v14) fun v17 =>
 doW (Zl H7 81 v3 v17) fun v18 H8 =>
 doQ (ZV H8 v3 81) fun v19 =>
 Q (.tup [v19,(.v (.int .i64 0))]) H8))
theorem yL(x0 x1:AV)(H:Heap)(Q:AV→Heap→Prop)(h : ∀g,sj g x0 x1 H Q):GoL env Tryz.f44 0 [.code rO] [(0,x0),(1,x1)] H Q:=⟨fun g=>aJ (live:=zx) (cut:=z6) (n:=500) (Eq.mp (by kernel_rfl) (h g))⟩
noncomputable def kA:Code:=(Tryz.f63.body).getD .skip
def pa:Nat→Option (List Nat):=fun i=>none
def po:Nat→Bool:=fun i=>false
def kC(g:Nat→AV)(x0:AV)(H:Heap)(Q:AV→Heap→Prop):Prop :=
 doW (Zc H 1 25 x0) fun v1 H1 =>
 doQ (Zd 25 v1 0) fun v2 =>
 doQ (Zb H1 22 v2) fun v3 =>
 doQ (Zk H1 5 22 v3) fun v4 =>
 doQ (Zr 3 5 100 v4) fun v5 =>
 gQ v5 false (Zd 25 v1 1) fun v6 =>
 gQ v5 false (Zb H1 23 v6) fun v7 =>
 gQ v5 false (Zk H1 10 23 v7) fun v8 =>
 gQ v5 false (Zr 3 10 100 v8) fun v9 =>
 doQ (Zo v5 v9) fun v10 =>
 Q v10 H1
theorem oT(x0:AV)(H:Heap)(Q:AV→Heap→Prop)(h : ∀g,kC g x0 H Q):GoL env Tryz.f63 0 [.code kA] [(0,x0)] H Q:=⟨fun g=>aJ (live:=pa) (cut:=po) (n:=500) (Eq.mp (by kernel_rfl) (h g))⟩
noncomputable def iW:Code:=(Tryz.f102.body).getD .skip
noncomputable def je:List Item:=(bS 3 400 [.code iW]).getD []
noncomputable def jd:List Item:=(bS 8 400 [.code iW]).getD []
noncomputable def iz:List Item:=(bS 14 400 [.code iW]).getD []
def kU:Nat→Option (List Nat):=fun i=>cond (Nat.beq i 3) (some [27,3,25,1,26]) (cond (Nat.beq i 8) (some [40,1,3,38,39]) (cond (Nat.beq i 14) (some [87,8,85,1,3,86]) (none)))
def lB:Nat→Bool:=fun i=>false
def sk(g:Nat→AV)(x0:AV)(H:Heap)(Q:AV→Heap→Prop):Prop :=
 doW (Zc H 1 25 x0) fun v1 H1 =>
 doQ (Zd 25 v1 0) fun v2 =>
 doQ (Zb H1 22 v2) fun v3 =>
 doQ (Zk H1 13 22 v3) fun v4 =>
 doQ (Zy 3 13 8 v4) fun v5 =>
 doQ (Zd 25 v1 1) fun v6 =>
 doQ (Zb H1 23 v6) fun v7 =>
 doQ (Zk H1 17 23 v7) fun v8 =>
 doQ (Zy 3 17 8 v8) fun v9 =>
 doQ (Zd 25 v1 2) fun v10 =>
 doQ (Zb H1 3 v10) fun v11 =>
 doW (Za false H1 21 167 [v11,(.v (.int .i64 64))]) fun v12 H2 =>
 doW (gm env.P true false H2 (Ref.mk 0 22 (Heap.gen H2 0 22) 0) 262 3 (some [(0,v5),(1,v9),(2,v12)])) fun v13 H3 =>
 doW (Za false H3 23 166 [v13]) fun v14 H4 =>
 doQ (Zd 25 v1 0) fun v15 =>
 doQ (Zb H4 22 v15) fun v16 =>
 doQ (Zk H4 26 22 v16) fun v17 =>
  GoL env Tryz.f102 0 je [(27,(.v (.int .i64 0))),(3,v14),(25,v16),(1,v1),(26,v17)] H4 Q
theorem yM(x0:AV)(H:Heap)(Q:AV→Heap→Prop)(h : ∀g,sk g x0 H Q):GoL env Tryz.f102 0 [.code iW] [(0,x0)] H Q:=⟨fun g=>aJ (live:=kU) (cut:=lB) (n:=500) (Eq.mp (by kernel_rfl) (h g))⟩
def me(g:Nat→AV)(x27 x3 x25 x1 x26:AV)(H:Heap)(Q:AV→Heap→Prop):Prop :=
 doQ (Zp 3 27 26 x27 x26) fun v1 =>
 br (some v1) (
 doQ (Zu H 22 x25 x27) fun v2 =>
 doQ (Zb H 58 v2) fun v3 =>
 doW (Zg H 5 58) fun v4 H1 =>
 doW (Zl H1 58 v4 v3) fun v5 H2 =>
 gQ x3 true (Zb H2 58 v4) fun v6 =>
 gW x3 true H2 (Za true H2 34 168 [v6]) fun v7 H3 =>
 doQ (Zf x3 v7) fun v8 =>
 doQ (Zh 3 27 1 x27) fun v9 =>
  GoL env Tryz.f102 0 je [(27,v9),(3,v8),(25,x25),(1,x1),(26,x26)] H3 Q) (
 doQ (Zd 25 x1 1) fun v2 =>
 doQ (Zb H 23 v2) fun v3 =>
 doQ (Zk H 39 23 v3) fun v4 =>
  GoL env Tryz.f102 0 jd [(40,(.v (.int .i64 0))),(1,x1),(3,x3),(38,v3),(39,v4)] H Q)
theorem oQ(x27 x3 x25 x1 x26:AV)(H:Heap)(Q:AV→Heap→Prop)(h : ∀g,me g x27 x3 x25 x1 x26 H Q):GoL env Tryz.f102 0 je [(27,x27),(3,x3),(25,x25),(1,x1),(26,x26)] H Q:=dk fun g=>aJ (live:=kU) (cut:=lB) (n:=500) (Eq.mp (by kernel_rfl) (h g))
def fh(g:Nat→AV)(x40 x1 x3 x38 x39:AV)(H:Heap)(Q:AV→Heap→Prop):Prop :=
 doQ (Zp 3 40 39 x40 x39) fun v1 =>
 br (some v1) (
 doQ (Zu H 23 x38 x40) fun v2 =>
 doQ (Zb H 81 v2) fun v3 =>
 doW (Zg H 7 81) fun v4 H1 =>
 doW (Zl H1 81 v4 v3) fun v5 H2 =>
 gQ x3 true (Zd 81 v4 0) fun v6 =>
 gQ x3 true (Zb H2 29 v6) fun v7 =>
 gW x3 true H2 (Za false H2 49 76 [v7]) fun v8 H3 =>
 gQ x3 true (Zi 42 49 0 v8) fun v9 =>
 gQ x3 true (Zd 81 v4 1) fun v10 =>
 gQ x3 true (Zb H3 3 v10) fun v11 =>
 gW x3 true H3 (Za false H3 53 167 [v11,(.v (.int .i64 64))]) fun v12 H4 =>
 gQ x3 true (Zd 81 v4 2) fun v13 =>
 gQ x3 true (Zb H4 3 v13) fun v14 =>
 gW x3 true H4 (Za false H4 56 167 [v14,(.v (.int .i64 256))]) fun v15 H5 =>
 gQ x3 true (Zd 81 v4 3) fun v16 =>
 gQ x3 true (Zb H5 3 v16) fun v17 =>
 gW x3 true H5 (Za false H5 59 167 [v17,(.v (.int .i64 4096))]) fun v18 H6 =>
 gQ x3 true (ZI x40) fun v19 =>
 gQ x3 true (Zi 3 60 0 v19) fun v20 =>
 gQ x3 true (ZI v20) fun v21 =>
 gQ v21 false (Zd 25 x1 1) fun v22 =>
 gQ v21 false (Zb H6 23 v22) fun v23 =>
 gQ v21 false (ZI x40) fun v24 =>
 gQ v21 false (Zx 3 65 1 v24) fun v25 =>
 gQ v21 false (aA env.P true (Heap.get H6) (Ref.mk 0 67 (Heap.gen H6 0 67) 0) .max #[3,3] [v25,(.v (.int .i64 0))]) fun v26 =>
 gQ v21 false (Zu H6 23 v23 v26) fun v27 =>
 gQ v21 false (Zd 81 v27 0) fun v28 =>
 gQ v21 false (Zb H6 29 v28) fun v29 =>
 gQ v21 false (Zd 81 v4 0) fun v30 =>
 gQ v21 false (Zb H6 29 v30) fun v31 =>
 gW v21 false H6 (Za false H6 73 169 [v29,v31]) fun v32 H7 =>
 gQ x3 true (Zo v21 v32) fun v33 =>
 gW x3 true H7 (gm env.P true false H7 (Ref.mk 0 75 (Heap.gen H7 0 75) 0) 262 5 (some [(0,v9),(1,v12),(2,v15),(3,v18),(4,v33)])) fun v34 H8 =>
 gW x3 true H8 (Za false H8 76 166 [v34]) fun v35 H9 =>
 doQ (Zf x3 v35) fun v36 =>
 doQ (Zh 3 40 1 x40) fun v37 =>
  GoL env Tryz.f102 0 jd [(40,v37),(1,x1),(3,v36),(38,x38),(39,x39)] H9 Q) (
 doQ (Zd 25 x1 1) fun v2 =>
 doQ (Zb H 23 v2) fun v3 =>
 doQ (Zd 25 x1 1) fun v4 =>
 doQ (Zb H 23 v4) fun v5 =>
 doQ (Zk H 83 23 v5) fun v6 =>
 doQ (aA env.P false (Heap.get H) (Ref.mk 0 84 (Heap.gen H 0 84) 0) .min #[3,3] [v6,(.v (.int .i64 8))]) fun v7 =>
 doQ (ZJ H 23 v3 v7) fun v8 =>
 doQ (Zk H 86 23 v8) fun v9 =>
  GoL env Tryz.f102 0 iz [(87,(.v (.int .i64 0))),(8,(.v (.int .i64 0))),(85,v8),(1,x1),(3,x3),(86,v9)] H Q)
theorem oP(x40 x1 x3 x38 x39:AV)(H:Heap)(Q:AV→Heap→Prop)(h : ∀g,fh g x40 x1 x3 x38 x39 H Q):GoL env Tryz.f102 0 jd [(40,x40),(1,x1),(3,x3),(38,x38),(39,x39)] H Q:=dk fun g=>aJ (live:=kU) (cut:=lB) (n:=500) (Eq.mp (by kernel_rfl) (h g))
def lM(g:Nat→AV)(x87 x8 x85 x1 x3 x86:AV)(H:Heap)(Q:AV→Heap→Prop):Prop :=
 doQ (Zp 3 87 86 x87 x86) fun v1 =>
 br (some v1) (
 doQ (Zu H 23 x85 x87) fun v2 =>
 doQ (Zb H 81 v2) fun v3 =>
 doW (Zg H 10 81) fun v4 H1 =>
 doW (Zl H1 81 v4 v3) fun v5 H2 =>
 doQ (Zd 81 v4 3) fun v6 =>
 doQ (Zb H2 3 v6) fun v7 =>
 doQ (aA env.P false (Heap.get H2) (Ref.mk 0 94 (Heap.gen H2 0 94) 0) .max #[3,3] [v7,(.v (.int .i64 0))]) fun v8 =>
 doQ (aA env.P false (Heap.get H2) (Ref.mk 0 95 (Heap.gen H2 0 95) 0) .min #[3,3] [v8,(.v (.int .i64 4096))]) fun v9 =>
 doQ (ZF 3 91 95 x8 v9) fun v10 =>
 doQ (Zh 3 87 1 x87) fun v11 =>
  GoL env Tryz.f102 0 iz [(87,v11),(8,v10),(85,x85),(1,x1),(3,x3),(86,x86)] H2 Q) (
 doQ (Zz x3) fun v2 =>
 gQ v2 false (Zb H 25 x1) fun v3 =>
 gW v2 false H (Za true H 102 103 [v3]) fun v4 H1 =>
 gQ v2 false (Zr 3 102 2048 v4) fun v5 =>
 doQ (Zo v2 v5) fun v6 =>
 gQ v6 false (ZI x8) fun v7 =>
 gQ v6 false (Zr 3 106 8192 v7) fun v8 =>
 doQ (Zo v6 v8) fun v9 =>
 br (some v9) (
 Q (.v (.int .i64 8)) H1) (
 Q (.v (.int .i64 0)) H1))
theorem nK(x87 x8 x85 x1 x3 x86:AV)(H:Heap)(Q:AV→Heap→Prop)(h : ∀g,lM g x87 x8 x85 x1 x3 x86 H Q):GoL env Tryz.f102 0 iz [(87,x87),(8,x8),(85,x85),(1,x1),(3,x3),(86,x86)] H Q:=dk fun g=>aJ (live:=kU) (cut:=lB) (n:=500) (Eq.mp (by kernel_rfl) (h g))
noncomputable def mM:Code:=(Tryz.f103.body).getD .skip
noncomputable def iy:List Item:=(bS 3 400 [.code mM]).getD []
def qJ:Nat→Option (List Nat):=fun i=>cond (Nat.beq i 3) (some [11,3,9,10]) (none)
def qL:Nat→Bool:=fun i=>false
def qU(g:Nat→AV)(x0:AV)(H:Heap)(Q:AV→Heap→Prop):Prop :=
 doW (Zc H 1 25 x0) fun v1 H1 =>
 doQ (Zd 25 v1 2) fun v2 =>
 doQ (Zb H1 3 v2) fun v3 =>
 doQ (Zd 25 v1 1) fun v4 =>
 doQ (Zb H1 23 v4) fun v5 =>
 doQ (Zk H1 10 23 v5) fun v6 =>
  GoL env Tryz.f103 0 iy [(11,(.v (.int .i64 0))),(3,v3),(9,v5),(10,v6)] H1 Q
theorem xP(x0:AV)(H:Heap)(Q:AV→Heap→Prop)(h : ∀g,qU g x0 H Q):GoL env Tryz.f103 0 [.code mM] [(0,x0)] H Q:=⟨fun g=>aJ (live:=qJ) (cut:=qL) (n:=500) (Eq.mp (by kernel_rfl) (h g))⟩
def lL(g:Nat→AV)(x11 x3 x9 x10:AV)(H:Heap)(Q:AV→Heap→Prop):Prop :=
 doQ (Zp 3 11 10 x11 x10) fun v1 =>
 br (some v1) (
 doQ (Zu H 23 x9 x11) fun v2 =>
 doQ (Zb H 81 v2) fun v3 =>
 doW (Zg H 5 81) fun v4 H1 =>
 doW (Zl H1 81 v4 v3) fun v5 H2 =>
 doQ (Zd 81 v4 1) fun v6 =>
 doQ (Zb H2 3 v6) fun v7 =>
 doQ (Zd 81 v4 2) fun v8 =>
 doQ (Zb H2 3 v8) fun v9 =>
 doQ (ZZ 3 4 19 v9) fun v10 =>
 doQ (ZF 3 17 20 v7 v10) fun v11 =>
 doQ (ZF 3 15 21 x3 v11) fun v12 =>
 doQ (Zh 3 11 1 x11) fun v13 =>
  GoL env Tryz.f103 0 iy [(11,v13),(3,v12),(9,x9),(10,x10)] H2 Q) (
 Q x3 H)
theorem nJ(x11 x3 x9 x10:AV)(H:Heap)(Q:AV→Heap→Prop)(h : ∀g,lL g x11 x3 x9 x10 H Q):GoL env Tryz.f103 0 iy [(11,x11),(3,x3),(9,x9),(10,x10)] H Q:=dk fun g=>aJ (live:=qJ) (cut:=qL) (n:=500) (Eq.mp (by kernel_rfl) (h g))
noncomputable def rN:Code:=(Tryz.f104.body).getD .skip
def zw:Nat→Option (List Nat):=fun i=>none
def z3:Nat→Bool:=fun i=>false
def si(g:Nat→AV)(x0 x1:AV)(H:Heap)(Q:AV→Heap→Prop):Prop :=
 doW (Zc H 2 25 x0) fun v1 H1 =>
 doW (Zc H1 3 29 x1) fun v2 H2 =>
 doQ (Zb H2 25 v1) fun v3 =>
 doW (Za false H2 6 102 [v3]) fun v4 H3 =>
 doQ (Zb H3 29 v2) fun v5 =>
 doW (Za false H3 8 76 [v5]) fun v6 H4 =>
 doQ (Z9 H4 9 42 42 v4 v6) fun v7 =>
 Q v7 H4
theorem yK(x0 x1:AV)(H:Heap)(Q:AV→Heap→Prop)(h : ∀g,si g x0 x1 H Q):GoL env Tryz.f104 0 [.code rN] [(0,x0),(1,x1)] H Q:=⟨fun g=>aJ (live:=zw) (cut:=z3) (n:=500) (Eq.mp (by kernel_rfl) (h g))⟩
noncomputable def cy:Code:=(Tryz.f105.body).getD .skip
def ek:Nat→Option (List Nat):=fun i=>none
def ep:Nat→Bool:=fun i=>false
def cz(g:Nat→AV)(x0 x1 x2:AV)(H:Heap)(Q:AV→Heap→Prop):Prop :=
 doW (Zc H 4 29 x1) fun v1 H1 =>
 doW (Zc H1 5 180 x2) fun v2 H2 =>
 doW (Zg H2 6 81) fun v3 H3 =>
 doQ (gI (.func 171) (some []) (some [v2,v1])) fun v4 =>
 doW (Za true H3 11 170 [x0,v4]) fun v5 H4 =>
 doQ (Zs 3 12 0 v5) fun v6 =>
 br (some v6) (
 doQ (Zb H4 81 v3) fun v7 =>
 doW (Zl H4 81 v3 v7) fun v8 H5 =>
 doQ (ZV H5 v3 81) fun v9 =>
 Q (.tup [v9,(.v (.bool false))]) H5) (
 doQ (Zu H4 23 x0 v5) fun v7 =>
 doQ (Zb H4 81 v7) fun v8 =>
 doW (Zl H4 81 v3 v8) fun v9 H5 =>
 doQ (ZV H5 v3 81) fun v10 =>
 Q (.tup [v10,(.v (.bool true))]) H5)
theorem ej(x0 x1 x2:AV)(H:Heap)(Q:AV→Heap→Prop)(h : ∀g,cz g x0 x1 x2 H Q):GoL env Tryz.f105 0 [.code cy] [(0,x0),(1,x1),(2,x2)] H Q:=⟨fun g=>aJ (live:=ek) (cut:=ep) (n:=500) (Eq.mp (by kernel_rfl) (h g))⟩
noncomputable def pr:Code:=(Tryz.f106.body).getD .skip
def wA:Nat→Option (List Nat):=fun i=>none
def wR:Nat→Bool:=fun i=>false
def pK(g:Nat→AV)(x0:AV)(H:Heap)(Q:AV→Heap→Prop):Prop :=
 doW (Zc H 1 81 x0) fun v1 H1 =>
 doW (Zg H1 2 29) fun v2 H2 =>
 doQ (Zd 81 v1 0) fun v3 =>
 doQ (Zb H2 29 v3) fun v4 =>
 doW (Zl H2 29 v2 v4) fun v5 H3 =>
 doQ (ZV H3 v2 29) fun v6 =>
 Q v6 H3
theorem vO(x0:AV)(H:Heap)(Q:AV→Heap→Prop)(h : ∀g,pK g x0 H Q):GoL env Tryz.f106 0 [.code pr] [(0,x0)] H Q:=⟨fun g=>aJ (live:=wA) (cut:=wR) (n:=500) (Eq.mp (by kernel_rfl) (h g))⟩
noncomputable def tE:Code:=(Tryz.f160.body).getD .skip
def AT:Nat→Option (List Nat):=fun i=>none
def Bd:Nat→Bool:=fun i=>false
def tM(g:Nat→AV)(x0:AV)(H:Heap)(Q:AV→Heap→Prop):Prop :=
 doW (Zc H 1 25 x0) fun v1 H1 =>
 doW (Zg H1 2 25) fun v2 H2 =>
 doQ (Zd 25 v1 0) fun v3 =>
 doQ (Zb H2 22 v3) fun v4 =>
 doW (Za false H2 5 205 [v4]) fun v5 H3 =>
 doQ (Zd 25 v1 1) fun v6 =>
 doQ (Zb H3 23 v6) fun v7 =>
 doW (Za false H3 8 206 [v7]) fun v8 H4 =>
 doQ (Zd 25 v1 0) fun v9 =>
 doW (Zl H4 22 v9 v5) fun v10 H5 =>
 doQ (Zd 25 v1 1) fun v11 =>
 doW (Zl H5 23 v11 v8) fun v12 H6 =>
 doQ (Zb H6 25 v1) fun v13 =>
 doW (Zl H6 25 v2 v13) fun v14 H7 =>
 doQ (ZV H7 v2 25) fun v15 =>
 Q v15 H7
theorem AE(x0:AV)(H:Heap)(Q:AV→Heap→Prop)(h : ∀g,tM g x0 H Q):GoL env Tryz.f160 0 [.code tE] [(0,x0)] H Q:=⟨fun g=>aJ (live:=AT) (cut:=Bd) (n:=500) (Eq.mp (by kernel_rfl) (h g))⟩
noncomputable def vt:Code:=(Tryz.f166.body).getD .skip
def Cs:Nat→Option (List Nat):=fun i=>none
def CN:Nat→Bool:=fun i=>false
def vG(g:Nat→AV)(x0:AV)(H:Heap)(Q:AV→Heap→Prop):Prop :=
 doW (Za true H 4 212 [x0,(.v (.bool false))]) fun v1 H1 =>
 doQ (Zz v1) fun v2 =>
 Q v2 H1
theorem BV(x0:AV)(H:Heap)(Q:AV→Heap→Prop)(h : ∀g,vG g x0 H Q):GoL env Tryz.f166 0 [.code vt] [(0,x0)] H Q:=⟨fun g=>aJ (live:=Cs) (cut:=CN) (n:=500) (Eq.mp (by kernel_rfl) (h g))⟩
noncomputable def tD:Code:=(Tryz.f167.body).getD .skip
def AS:Nat→Option (List Nat):=fun i=>none
def Bc:Nat→Bool:=fun i=>false
def tL(g:Nat→AV)(x0 x1:AV)(H:Heap)(Q:AV→Heap→Prop):Prop :=
 doQ (Zq 3 5 0 x0) fun v1 =>
 gQ v1 true (ZI x0) fun v2 =>
 gQ v1 true (ZI x1) fun v3 =>
 gQ v1 true (Ye 3 8 9 v2 v3) fun v4 =>
 doQ (Zf v1 v4) fun v5 =>
 Q v5 H
theorem AD(x0 x1:AV)(H:Heap)(Q:AV→Heap→Prop)(h : ∀g,tL g x0 x1 H Q):GoL env Tryz.f167 0 [.code tD] [(0,x0),(1,x1)] H Q:=⟨fun g=>aJ (live:=AS) (cut:=Bc) (n:=500) (Eq.mp (by kernel_rfl) (h g))⟩
noncomputable def rM:Code:=(Tryz.f168.body).getD .skip
def zu:Nat→Option (List Nat):=fun i=>none
def z0:Nat→Bool:=fun i=>false
def sh(g:Nat→AV)(x0:AV)(H:Heap)(Q:AV→Heap→Prop):Prop :=
 doW (Zc H 1 58 x0) fun v1 H1 =>
 doQ (Zd 58 v1 0) fun v2 =>
 doQ (Zb H1 29 v2) fun v3 =>
 doW (Za false H1 5 76 [v3]) fun v4 H2 =>
 doQ (Zi 42 5 0 v4) fun v5 =>
 gQ v5 true (Zd 58 v1 1) fun v6 =>
 gQ v5 true (Zb H2 4 v6) fun v7 =>
 gQ v5 true (ZI v7) fun v8 =>
 gQ v8 false (Zd 58 v1 0) fun v9 =>
 gQ v8 false (Zb H2 29 v9) fun v10 =>
 gW v8 false H2 (Za false H2 13 185 []) fun v11 H3 =>
 gQ v8 false (Zm 29 12 13 v10 v11) fun v12 =>
 gQ v5 true (Zo v8 v12) fun v13 =>
 doQ (Zf v5 v13) fun v14 =>
 Q v14 H3
theorem yJ(x0:AV)(H:Heap)(Q:AV→Heap→Prop)(h : ∀g,sh g x0 H Q):GoL env Tryz.f168 0 [.code rM] [(0,x0)] H Q:=⟨fun g=>aJ (live:=zu) (cut:=z0) (n:=500) (Eq.mp (by kernel_rfl) (h g))⟩
noncomputable def bp:Code:=(Tryz.f170.body).getD .skip
noncomputable def aK:List Item:=(bS 2 400 [.code bp]).getD []
def bN:Nat→Option (List Nat):=fun i=>cond (Nat.beq i 2) (some [8,0,1,7]) (none)
def bO:Nat→Bool:=fun i=>false
def bP(g:Nat→AV)(x0 x1:AV)(H:Heap)(Q:AV→Heap→Prop):Prop :=
 doQ (Zk H 7 23 x0) fun v1 =>
  GoL env Tryz.f170 0 aK [(8,(.v (.int .i64 0))),(0,x0),(1,x1),(7,v1)] H Q
theorem dA(x0 x1:AV)(H:Heap)(Q:AV→Heap→Prop)(h : ∀g,bP g x0 x1 H Q):GoL env Tryz.f170 0 [.code bp] [(0,x0),(1,x1)] H Q:=⟨fun g=>aJ (live:=bN) (cut:=bO) (n:=500) (Eq.mp (by kernel_rfl) (h g))⟩
def bo(g:Nat→AV)(x8 x0 x1 x7:AV)(H:Heap)(Q:AV→Heap→Prop):Prop :=
 doQ (Zp 3 8 7 x8 x7) fun v1 =>
 br (some v1) (
 doQ (Zu H 23 x0 x8) fun v2 =>
 doQ (Zb H 81 v2) fun v3 =>
 doW (ZG H 16 x1 v3) fun v4 H1 =>
 br (some v4) (
 Q x8 H1) (
 doQ (Zh 3 8 1 x8) fun v5 =>
  GoL env Tryz.f170 0 aK [(8,v5),(0,x0),(1,x1),(7,x7)] H1 Q)) (
 Q (.v (.int .i64 (-1))) H)
theorem bK(x8 x0 x1 x7:AV)(H:Heap)(Q:AV→Heap→Prop)(h : ∀g,bo g x8 x0 x1 x7 H Q):GoL env Tryz.f170 0 aK [(8,x8),(0,x0),(1,x1),(7,x7)] H Q:=dk fun g=>aJ (live:=bN) (cut:=bO) (n:=500) (Eq.mp (by kernel_rfl) (h g))
noncomputable def cq:Code:=(Tryz.f171.body).getD .skip
def dW:Nat→Option (List Nat):=fun i=>none
def dY:Nat→Bool:=fun i=>false
def cr(g:Nat→AV)(x0 x1 x2:AV)(H:Heap)(Q:AV→Heap→Prop):Prop :=
 doW (Zc H 3 81 x0) fun v1 H1 =>
 doQ (Zb H1 180 x1) fun v2 =>
 doQ (Zb H1 81 v1) fun v3 =>
 doW (aG env false (limf env) (limt env 0) H1 (Ref.mk 0 7 (Heap.gen H1 0 7) 0) (some v2) [v3]) fun v4 H2 =>
 doQ (Zb H2 29 x2) fun v5 =>
 doQ (Zm 29 7 8 v4 v5) fun v6 =>
 Q v6 H2
theorem dU(x0 x1 x2:AV)(H:Heap)(Q:AV→Heap→Prop)(h : ∀g,cr g x0 x1 x2 H Q):GoL env Tryz.f171 0 [.code cq] [(0,x0),(1,x1),(2,x2)] H Q:=⟨fun g=>aJ (live:=dW) (cut:=dY) (n:=500) (Eq.mp (by kernel_rfl) (h g))⟩
noncomputable def vu:Code:=(Tryz.f174.body).getD .skip
def Ct:Nat→Option (List Nat):=fun i=>none
def CO:Nat→Bool:=fun i=>false
def vH(g:Nat→AV)(x0 x1 x2:AV)(H:Heap)(Q:AV→Heap→Prop):Prop :=
 doW (Zc H 3 25 x0) fun v1 H1 =>
 doW (Zc H1 5 29 x2) fun v2 H2 =>
 doQ (Zb H2 25 v1) fun v3 =>
 doQ (Zb H2 29 v2) fun v4 =>
 doW (Za true H2 12 104 [v3,v4]) fun v5 H3 =>
 doQ (Ze 42 13 0 v5) fun v6 =>
 br (some v6) (
 Q (.tup [(.v (.bool false)),v5]) H3) (
 doQ (Zs 3 16 0 x1) fun v7 =>
 gQ v7 false (ZI x1) fun v8 =>
 gQ v7 false (Zd 25 v1 0) fun v9 =>
 gQ v7 false (Zb H3 22 v9) fun v10 =>
 gQ v7 false (Zk H3 22 22 v10) fun v11 =>
 gQ v7 false (ZO 3 19 22 v8 v11) fun v12 =>
 doQ (Zo v7 v12) fun v13 =>
 br (some v13) (
 Q (.tup [(.v (.bool false)),(.v (.int .i64 0))]) H3) (
 doQ (Zd 25 v1 0) fun v14 =>
 doQ (Zb H3 22 v14) fun v15 =>
 doQ (Zu H3 22 v15 x1) fun v16 =>
 doQ (Zb H3 58 v16) fun v17 =>
 doW (Zg H3 9 58) fun v18 H4 =>
 doW (Zl H4 58 v18 v17) fun v19 H5 =>
 doQ (Zd 58 v18 1) fun v20 =>
 doQ (Zb H5 4 v20) fun v21 =>
 gQ v21 true (Zb H5 29 v2) fun v22 =>
 gQ v21 true (Zd 58 v18 0) fun v23 =>
 gQ v21 true (Zb H5 29 v23) fun v24 =>
 gW v21 true H5 (Za true H5 36 47 [v22,v24]) fun v25 H6 =>
 doQ (Zf v21 v25) fun v26 =>
 Q (.tup [v26,(.v (.int .i64 0))]) H6))
theorem BW(x0 x1 x2:AV)(H:Heap)(Q:AV→Heap→Prop)(h : ∀g,vH g x0 x1 x2 H Q):GoL env Tryz.f174 0 [.code vu] [(0,x0),(1,x1),(2,x2)] H Q:=⟨fun g=>aJ (live:=Ct) (cut:=CO) (n:=500) (Eq.mp (by kernel_rfl) (h g))⟩
noncomputable def aX:Code:=(Tryz.f205.body).getD .skip
def dQ:Nat→Option (List Nat):=fun i=>none
def dS:Nat→Bool:=fun i=>false
def aZ(g:Nat→AV)(x0:AV)(H:Heap)(Q:AV→Heap→Prop):Prop :=
 doQ (ZT 22 3 x0) fun v1 =>
 br (some v1) (
 Q (.v (.slice none 0 0)) H) (
 doW (Yc H 5 22 0) fun v2 H1 =>
 doW (Zt H1 7 22 22 v2 x0) fun v3 H2 =>
 Q v3 H2)
theorem bA(x0:AV)(H:Heap)(Q:AV→Heap→Prop)(h : ∀g,aZ g x0 H Q):GoL env Tryz.f205 0 [.code aX] [(0,x0)] H Q:=⟨fun g=>aJ (live:=dQ) (cut:=dS) (n:=500) (Eq.mp (by kernel_rfl) (h g))⟩
noncomputable def aW:Code:=(Tryz.f206.body).getD .skip
def dP:Nat→Option (List Nat):=fun i=>none
def dR:Nat→Bool:=fun i=>false
def aY(g:Nat→AV)(x0:AV)(H:Heap)(Q:AV→Heap→Prop):Prop :=
 doQ (ZT 23 3 x0) fun v1 =>
 br (some v1) (
 Q (.v (.slice none 0 0)) H) (
 doW (Yc H 5 23 0) fun v2 H1 =>
 doW (Zt H1 7 23 23 v2 x0) fun v3 H2 =>
 Q v3 H2)
theorem bz(x0:AV)(H:Heap)(Q:AV→Heap→Prop)(h : ∀g,aY g x0 H Q):GoL env Tryz.f206 0 [.code aW] [(0,x0)] H Q:=⟨fun g=>aJ (live:=dP) (cut:=dR) (n:=500) (Eq.mp (by kernel_rfl) (h g))⟩
noncomputable def gz:Code:=(Tryz.f212.body).getD .skip
def lY:Nat→Option (List Nat):=fun i=>none
def ma:Nat→Bool:=fun i=>false
def gD(g:Nat→AV)(x0 x1:AV)(H:Heap)(Q:AV→Heap→Prop):Prop :=
 doW (Za true H 7 227 [x0,x1]) fun v1 H1 =>
 doQ (Zq 3 7 0 v1) fun v2 =>
 Q v2 H1
theorem lV(x0 x1:AV)(H:Heap)(Q:AV→Heap→Prop)(h : ∀g,gD g x0 x1 H Q):GoL env Tryz.f212 0 [.code gz] [(0,x0),(1,x1)] H Q:=⟨fun g=>aJ (live:=lY) (cut:=ma) (n:=500) (Eq.mp (by kernel_rfl) (h g))⟩
noncomputable def fa:Code:=(Tryz.f227.body).getD .skip
noncomputable def dg:List Item:=(bS 2 400 [.code fa]).getD []
def iv:Nat→Option (List Nat):=fun i=>cond (Nat.beq i 2) (some [8,0,1,7]) (none)
def iC:Nat→Bool:=fun i=>false
def iG(g:Nat→AV)(x0 x1:AV)(H:Heap)(Q:AV→Heap→Prop):Prop :=
 doQ (Zk H 7 262 x0) fun v1 =>
  GoL env Tryz.f227 0 dg [(8,(.v (.int .i64 0))),(0,x0),(1,x1),(7,v1)] H Q
theorem mR(x0 x1:AV)(H:Heap)(Q:AV→Heap→Prop)(h : ∀g,iG g x0 x1 H Q):GoL env Tryz.f227 0 [.code fa] [(0,x0),(1,x1)] H Q:=⟨fun g=>aJ (live:=iv) (cut:=iC) (n:=500) (Eq.mp (by kernel_rfl) (h g))⟩
def eC(g:Nat→AV)(x8 x0 x1 x7:AV)(H:Heap)(Q:AV→Heap→Prop):Prop :=
 doQ (Zp 3 8 7 x8 x7) fun v1 =>
 br (some v1) (
 doQ (Zu H 262 x0 x8) fun v2 =>
 doQ (Zb H 4 v2) fun v3 =>
 doQ (Zm 4 11 15 x1 v3) fun v4 =>
 br (some v4) (
 Q x8 H) (
 doQ (Zh 3 8 1 x8) fun v5 =>
  GoL env Tryz.f227 0 dg [(8,v5),(0,x0),(1,x1),(7,x7)] H Q)) (
 Q (.v (.int .i64 (-1))) H)
theorem gJ(x8 x0 x1 x7:AV)(H:Heap)(Q:AV→Heap→Prop)(h : ∀g,eC g x8 x0 x1 x7 H Q):GoL env Tryz.f227 0 dg [(8,x8),(0,x0),(1,x1),(7,x7)] H Q:=dk fun g=>aJ (live:=iv) (cut:=iC) (n:=500) (Eq.mp (by kernel_rfl) (h g))
end Go.Proofs.YtmkmimgokagimaaGreat
