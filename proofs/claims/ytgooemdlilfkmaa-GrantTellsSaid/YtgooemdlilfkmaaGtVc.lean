/-
  What is to be shown of each function, computed from its code. No statement of a seat is proved here.
-/
import Derived.Test.YtgooemdlilfkmaaGtTy
set_option linter.unusedVariables false
set_option maxRecDepth 1000000
namespace Go.Proofs.Ytgooemdlilfkmaa
open Go.Ab
noncomputable def ef:Code:=(Try.f17.body).getD .skip
noncomputable def eA:List Item:=(bL 3 400 [.code ef]).getD []
noncomputable def ew:List Item:=(bL 8 400 [.code ef]).getD []
noncomputable def dV:List Item:=(bL 14 400 [.code ef]).getD []
def fv:Nat→Option (List Nat):=fun i=>cond (Nat.beq i 3) (some [27,3,25,1,26]) (cond (Nat.beq i 8) (some [40,1,3,38,39]) (cond (Nat.beq i 14) (some [87,8,85,1,3,86]) (none)))
def fA:Nat→Bool:=fun i=>false
def j6(g:Nat→AV)(x0:AV)(H:Heap)(Q:AV→Heap→Prop):Prop :=
 doW (Zc H 1 33 x0) fun v1 H1 =>
 doQ (Zg 33 v1 0) fun v2 =>
 doQ (Zb H1 30 v2) fun v3 =>
 doQ (Zd H1 13 30 v3) fun v4 =>
 doQ (Zk 3 13 8 v4) fun v5 =>
 doQ (Zg 33 v1 1) fun v6 =>
 doQ (Zb H1 31 v6) fun v7 =>
 doQ (Zd H1 17 31 v7) fun v8 =>
 doQ (Zk 3 17 8 v8) fun v9 =>
 doQ (Zg 33 v1 2) fun v10 =>
 doQ (Zb H1 3 v10) fun v11 =>
 doW (Za false H1 21 49 [v11,(.v (.int .i64 64))]) fun v12 H2 =>
 doW (mf env.P true false H2 (Ref.mk 0 22 (Heap.gen H2 0 22) 0) 114 3 (some [(0,v5),(1,v9),(2,v12)])) fun v13 H3 =>
 doW (Za false H3 23 48 [v13]) fun v14 H4 =>
 doQ (Zg 33 v1 0) fun v15 =>
 doQ (Zb H4 30 v15) fun v16 =>
 doQ (Zd H4 26 30 v16) fun v17 =>
  GoL env Try.f17 0 eA [(27,(.v (.int .i64 0))),(3,v14),(25,v16),(1,v1),(26,v17)] H4 Q
theorem my(x0:AV)(H:Heap)(Q:AV→Heap→Prop)(h : ∀g,j6 g x0 H Q):GoL env Try.f17 0 [.code ef] [(0,x0)] H Q:=⟨fun g=>cK (live:=fv) (cut:=fA) (n:=500) (Eq.mp (by kernel_rfl) (h g))⟩
def fX(g:Nat→AV)(x27 x3 x25 x1 x26:AV)(H:Heap)(Q:AV→Heap→Prop):Prop :=
 doQ (Zj 3 27 26 x27 x26) fun v1 =>
 br (some v1) (
 doQ (Zn H 30 x25 x27) fun v2 =>
 doQ (Zb H 39 v2) fun v3 =>
 doW (Zf H 5 39) fun v4 H1 =>
 doW (Zm H1 39 v4 v3) fun v5 H2 =>
 gQ x3 true (Zb H2 39 v4) fun v6 =>
 gW x3 true H2 (Za true H2 34 50 [v6]) fun v7 H3 =>
 doQ (Zi x3 v7) fun v8 =>
 doQ (Ze 3 27 1 x27) fun v9 =>
  GoL env Try.f17 0 eA [(27,v9),(3,v8),(25,x25),(1,x1),(26,x26)] H3 Q) (
 doQ (Zg 33 x1 1) fun v2 =>
 doQ (Zb H 31 v2) fun v3 =>
 doQ (Zd H 39 31 v3) fun v4 =>
  GoL env Try.f17 0 ew [(40,(.v (.int .i64 0))),(1,x1),(3,x3),(38,v3),(39,v4)] H Q)
theorem iI(x27 x3 x25 x1 x26:AV)(H:Heap)(Q:AV→Heap→Prop)(h : ∀g,fX g x27 x3 x25 x1 x26 H Q):GoL env Try.f17 0 eA [(27,x27),(3,x3),(25,x25),(1,x1),(26,x26)] H Q:=dh fun g=>cK (live:=fv) (cut:=fA) (n:=500) (Eq.mp (by kernel_rfl) (h g))
def cM(g:Nat→AV)(x40 x1 x3 x38 x39:AV)(H:Heap)(Q:AV→Heap→Prop):Prop :=
 doQ (Zj 3 40 39 x40 x39) fun v1 =>
 br (some v1) (
 doQ (Zn H 31 x38 x40) fun v2 =>
 doQ (Zb H 26 v2) fun v3 =>
 doW (Zf H 7 26) fun v4 H1 =>
 doW (Zm H1 26 v4 v3) fun v5 H2 =>
 gQ x3 true (Zg 26 v4 0) fun v6 =>
 gQ x3 true (Zb H2 24 v6) fun v7 =>
 gW x3 true H2 (Za false H2 49 51 [v7]) fun v8 H3 =>
 gQ x3 true (Zp 27 49 0 v8) fun v9 =>
 gQ x3 true (Zg 26 v4 1) fun v10 =>
 gQ x3 true (Zb H3 3 v10) fun v11 =>
 gW x3 true H3 (Za false H3 53 49 [v11,(.v (.int .i64 64))]) fun v12 H4 =>
 gQ x3 true (Zg 26 v4 2) fun v13 =>
 gQ x3 true (Zb H4 3 v13) fun v14 =>
 gW x3 true H4 (Za false H4 56 49 [v14,(.v (.int .i64 256))]) fun v15 H5 =>
 gQ x3 true (Zg 26 v4 3) fun v16 =>
 gQ x3 true (Zb H5 3 v16) fun v17 =>
 gW x3 true H5 (Za false H5 59 49 [v17,(.v (.int .i64 4096))]) fun v18 H6 =>
 gQ x3 true (ZB x40) fun v19 =>
 gQ x3 true (Zp 3 60 0 v19) fun v20 =>
 gQ x3 true (ZB v20) fun v21 =>
 gQ v21 false (Zg 33 x1 1) fun v22 =>
 gQ v21 false (Zb H6 31 v22) fun v23 =>
 gQ v21 false (ZB x40) fun v24 =>
 gQ v21 false (Zr 3 65 1 v24) fun v25 =>
 gQ v21 false (aF env.P true (Heap.get H6) (Ref.mk 0 67 (Heap.gen H6 0 67) 0) .max #[3,3] [v25,(.v (.int .i64 0))]) fun v26 =>
 gQ v21 false (Zn H6 31 v23 v26) fun v27 =>
 gQ v21 false (Zg 26 v27 0) fun v28 =>
 gQ v21 false (Zb H6 24 v28) fun v29 =>
 gQ v21 false (Zg 26 v4 0) fun v30 =>
 gQ v21 false (Zb H6 24 v30) fun v31 =>
 gW v21 false H6 (Za false H6 73 21 [v29,v31]) fun v32 H7 =>
 gQ x3 true (Zl v21 v32) fun v33 =>
 gW x3 true H7 (mf env.P true false H7 (Ref.mk 0 75 (Heap.gen H7 0 75) 0) 114 5 (some [(0,v9),(1,v12),(2,v15),(3,v18),(4,v33)])) fun v34 H8 =>
 gW x3 true H8 (Za false H8 76 48 [v34]) fun v35 H9 =>
 doQ (Zi x3 v35) fun v36 =>
 doQ (Ze 3 40 1 x40) fun v37 =>
  GoL env Try.f17 0 ew [(40,v37),(1,x1),(3,v36),(38,x38),(39,x39)] H9 Q) (
 doQ (Zg 33 x1 1) fun v2 =>
 doQ (Zb H 31 v2) fun v3 =>
 doQ (Zg 33 x1 1) fun v4 =>
 doQ (Zb H 31 v4) fun v5 =>
 doQ (Zd H 83 31 v5) fun v6 =>
 doQ (aF env.P false (Heap.get H) (Ref.mk 0 84 (Heap.gen H 0 84) 0) .min #[3,3] [v6,(.v (.int .i64 8))]) fun v7 =>
 doQ (eE env.P (Heap.get H) 31 (some v3) (some none) (oi v7) (some none)) fun v8 =>
 doQ (Zd H 86 31 v8) fun v9 =>
  GoL env Try.f17 0 dV [(87,(.v (.int .i64 0))),(8,(.v (.int .i64 0))),(85,v8),(1,x1),(3,x3),(86,v9)] H Q)
theorem iH(x40 x1 x3 x38 x39:AV)(H:Heap)(Q:AV→Heap→Prop)(h : ∀g,cM g x40 x1 x3 x38 x39 H Q):GoL env Try.f17 0 ew [(40,x40),(1,x1),(3,x3),(38,x38),(39,x39)] H Q:=dh fun g=>cK (live:=fv) (cut:=fA) (n:=500) (Eq.mp (by kernel_rfl) (h g))
def fE(g:Nat→AV)(x87 x8 x85 x1 x3 x86:AV)(H:Heap)(Q:AV→Heap→Prop):Prop :=
 doQ (Zj 3 87 86 x87 x86) fun v1 =>
 br (some v1) (
 doQ (Zn H 31 x85 x87) fun v2 =>
 doQ (Zb H 26 v2) fun v3 =>
 doW (Zf H 10 26) fun v4 H1 =>
 doW (Zm H1 26 v4 v3) fun v5 H2 =>
 doQ (Zg 26 v4 3) fun v6 =>
 doQ (Zb H2 3 v6) fun v7 =>
 doQ (aF env.P false (Heap.get H2) (Ref.mk 0 94 (Heap.gen H2 0 94) 0) .max #[3,3] [v7,(.v (.int .i64 0))]) fun v8 =>
 doQ (aF env.P false (Heap.get H2) (Ref.mk 0 95 (Heap.gen H2 0 95) 0) .min #[3,3] [v8,(.v (.int .i64 4096))]) fun v9 =>
 doQ (Zt 3 91 95 x8 v9) fun v10 =>
 doQ (Ze 3 87 1 x87) fun v11 =>
  GoL env Try.f17 0 dV [(87,v11),(8,v10),(85,x85),(1,x1),(3,x3),(86,x86)] H2 Q) (
 doQ (ZA x3) fun v2 =>
 gQ v2 false (Zb H 33 x1) fun v3 =>
 gW v2 false H (Za true H 102 52 [v3]) fun v4 H1 =>
 gQ v2 false (Zh 3 102 2048 v4) fun v5 =>
 doQ (Zl v2 v5) fun v6 =>
 gQ v6 false (ZB x8) fun v7 =>
 gQ v6 false (Zh 3 106 8192 v7) fun v8 =>
 doQ (Zl v6 v8) fun v9 =>
 br (some v9) (
 Q (.v (.int .i64 8)) H1) (
 Q (.v (.int .i64 0)) H1))
theorem ic(x87 x8 x85 x1 x3 x86:AV)(H:Heap)(Q:AV→Heap→Prop)(h : ∀g,fE g x87 x8 x85 x1 x3 x86 H Q):GoL env Try.f17 0 dV [(87,x87),(8,x8),(85,x85),(1,x1),(3,x3),(86,x86)] H Q:=dh fun g=>cK (live:=fv) (cut:=fA) (n:=500) (Eq.mp (by kernel_rfl) (h g))
noncomputable def ff:Code:=(Try.f18.body).getD .skip
def iX:Nat→Option (List Nat):=fun i=>none
def jc:Nat→Bool:=fun i=>false
def fk(g:Nat→AV)(x0:AV)(H:Heap)(Q:AV→Heap→Prop):Prop :=
 doW (Zc H 1 33 x0) fun v1 H1 =>
 doQ (Zg 33 v1 0) fun v2 =>
 doQ (Zb H1 30 v2) fun v3 =>
 doQ (Zd H1 5 30 v3) fun v4 =>
 doQ (Zh 3 5 100 v4) fun v5 =>
 gQ v5 false (Zg 33 v1 1) fun v6 =>
 gQ v5 false (Zb H1 31 v6) fun v7 =>
 gQ v5 false (Zd H1 10 31 v7) fun v8 =>
 gQ v5 false (Zh 3 10 100 v8) fun v9 =>
 doQ (Zl v5 v9) fun v10 =>
 Q v10 H1
theorem iL(x0:AV)(H:Heap)(Q:AV→Heap→Prop)(h : ∀g,fk g x0 H Q):GoL env Try.f18 0 [.code ff] [(0,x0)] H Q:=⟨fun g=>cK (live:=iX) (cut:=jc) (n:=500) (Eq.mp (by kernel_rfl) (h g))⟩
noncomputable def fC:Code:=(Try.f20.body).getD .skip
def jn:Nat→Option (List Nat):=fun i=>none
def jr:Nat→Bool:=fun i=>false
def bW(g:Nat→AV)(x0:AV)(H:Heap)(Q:AV→Heap→Prop):Prop :=
 doW (Zc H 1 33 x0) fun v1 H1 =>
 doW (Zf H1 2 33) fun v2 H2 =>
 doQ (Zg 33 v1 0) fun v3 =>
 doQ (Zb H2 30 v3) fun v4 =>
 doW (eO env.P false H2 (Ref.mk 0 5 (Heap.gen H2 0 5) 0) (some 30) (some 30) (.v (.slice none 0 0)) v4) fun v5 H3 =>
 doQ (Zg 33 v1 1) fun v6 =>
 doQ (Zb H3 31 v6) fun v7 =>
 doW (eO env.P false H3 (Ref.mk 0 8 (Heap.gen H3 0 8) 0) (some 31) (some 31) (.v (.slice none 0 0)) v7) fun v8 H4 =>
 doQ (Zg 33 v1 2) fun v9 =>
 doQ (Zb H4 3 v9) fun v10 =>
 doQ (fa env.P 33 (some [(0,v5),(1,v8),(2,v10)])) fun v11 =>
 doW (Zm H4 33 v2 v11) fun v12 H5 =>
 doQ (ZG H5 v2 33) fun v13 =>
 Q v13 H5
theorem ji(x0:AV)(H:Heap)(Q:AV→Heap→Prop)(h : ∀g,bW g x0 H Q):GoL env Try.f20 0 [.code fC] [(0,x0)] H Q:=⟨fun g=>cK (live:=jn) (cut:=jr) (n:=500) (Eq.mp (by kernel_rfl) (h g))⟩
noncomputable def kH:Code:=(Try.f21.body).getD .skip
def nx:Nat→Option (List Nat):=fun i=>none
def nI:Nat→Bool:=fun i=>false
def kN(g:Nat→AV)(x0 x1:AV)(H:Heap)(Q:AV→Heap→Prop):Prop :=
 doW (Zc H 2 24 x0) fun v1 H1 =>
 doW (Zc H1 3 24 x1) fun v2 H2 =>
 doQ (Zg 24 v2 0) fun v3 =>
 doQ (Zb H2 5 v3) fun v4 =>
 doQ (Zg 24 v1 1) fun v5 =>
 doQ (Zb H2 22 v5) fun v6 =>
 doQ (fa env.P 24 (some [(0,v4),(1,v6)])) fun v7 =>
 doW (Zf H2 5 24) fun v8 H3 =>
 doW (Zm H3 24 v8 v7) fun v9 H4 =>
 doQ (Zg 24 v1 0) fun v10 =>
 doQ (Zb H4 5 v10) fun v11 =>
 doQ (Zg 24 v2 0) fun v12 =>
 doQ (Zb H4 5 v12) fun v13 =>
 doQ (Zj 5 12 14 v11 v13) fun v14 =>
 gQ v14 false (Zb H4 24 v1) fun v15 =>
 gQ v14 false (Zb H4 24 v8) fun v16 =>
 gQ v14 false (Zq 24 17 18 v15 v16) fun v17 =>
 gQ v14 false (ZB v17) fun v18 =>
 gQ v18 true (Zg 24 v1 1) fun v19 =>
 gQ v18 true (Zb H4 22 v19) fun v20 =>
 gQ v18 true (Zg 24 v2 1) fun v21 =>
 gQ v18 true (Zb H4 22 v21) fun v22 =>
 gQ v18 true (Zj 22 22 24 v20 v22) fun v23 =>
 gQ v14 false (Zi v18 v23) fun v24 =>
 doQ (Zl v14 v24) fun v25 =>
 Q v25 H4
theorem nj(x0 x1:AV)(H:Heap)(Q:AV→Heap→Prop)(h : ∀g,kN g x0 x1 H Q):GoL env Try.f21 0 [.code kH] [(0,x0),(1,x1)] H Q:=⟨fun g=>cK (live:=nx) (cut:=nI) (n:=500) (Eq.mp (by kernel_rfl) (h g))⟩
noncomputable def kE:Code:=(Try.f26.body).getD .skip
def nr:Nat→Option (List Nat):=fun i=>none
def nF:Nat→Bool:=fun i=>false
def kK(g:Nat→AV)(x0:AV)(H:Heap)(Q:AV→Heap→Prop):Prop :=
 doW (Zc H 1 33 x0) fun v1 H1 =>
 doW (Zf H1 2 33) fun v2 H2 =>
 doQ (Zg 33 v1 0) fun v3 =>
 doQ (Zb H2 30 v3) fun v4 =>
 doW (Za false H2 5 58 [v4]) fun v5 H3 =>
 doQ (Zg 33 v1 1) fun v6 =>
 doQ (Zb H3 31 v6) fun v7 =>
 doW (Za false H3 8 59 [v7]) fun v8 H4 =>
 doQ (Zg 33 v1 0) fun v9 =>
 doW (Zm H4 30 v9 v5) fun v10 H5 =>
 doQ (Zg 33 v1 1) fun v11 =>
 doW (Zm H5 31 v11 v8) fun v12 H6 =>
 doQ (Zb H6 33 v1) fun v13 =>
 doW (Zm H6 33 v2 v13) fun v14 H7 =>
 doQ (ZG H7 v2 33) fun v15 =>
 Q v15 H7
theorem ng(x0:AV)(H:Heap)(Q:AV→Heap→Prop)(h : ∀g,kK g x0 H Q):GoL env Try.f26 0 [.code kE] [(0,x0)] H Q:=⟨fun g=>cK (live:=nr) (cut:=nF) (n:=500) (Eq.mp (by kernel_rfl) (h g))⟩
noncomputable def cI:Code:=(Try.f29.body).getD .skip
noncomputable def cp:List Item:=(bL 4 400 [.code cI]).getD []
noncomputable def cm:List Item:=(bL 9 400 [.code cI]).getD []
def dC:Nat→Option (List Nat):=fun i=>cond (Nat.beq i 4) (some [5,3,2]) (cond (Nat.beq i 9) (some [6,3,2]) (none))
def dG:Nat→Bool:=fun i=>false
def cJ(g:Nat→AV)(x0 x1:AV)(H:Heap)(Q:AV→Heap→Prop):Prop :=
 doW (Zc H 2 33 x0) fun v1 H1 =>
 doW (Zc H1 3 33 x1) fun v2 H2 =>
 doQ (Zg 33 v1 0) fun v3 =>
 doQ (Zb H2 30 v3) fun v4 =>
 doQ (Zd H2 9 30 v4) fun v5 =>
 doQ (Zg 33 v2 0) fun v6 =>
 doQ (Zb H2 30 v6) fun v7 =>
 doQ (Zd H2 12 30 v7) fun v8 =>
 doQ (Zw 3 9 12 v5 v8) fun v9 =>
 gQ v9 false (Zg 33 v1 1) fun v10 =>
 gQ v9 false (Zb H2 31 v10) fun v11 =>
 gQ v9 false (Zd H2 17 31 v11) fun v12 =>
 gQ v9 false (Zg 33 v2 1) fun v13 =>
 gQ v9 false (Zb H2 31 v13) fun v14 =>
 gQ v9 false (Zd H2 20 31 v14) fun v15 =>
 gQ v9 false (Zw 3 17 20 v12 v15) fun v16 =>
 doQ (Zl v9 v16) fun v17 =>
 gQ v17 false (Zg 33 v1 2) fun v18 =>
 gQ v17 false (Zb H2 3 v18) fun v19 =>
 gQ v17 false (Zg 33 v2 2) fun v20 =>
 gQ v17 false (Zb H2 3 v20) fun v21 =>
 gQ v17 false (Zw 3 25 27 v19 v21) fun v22 =>
 doQ (Zl v17 v22) fun v23 =>
 br (some v23) (
 Q (.v (.bool false)) H2) (
  GoL env Try.f29 0 cp [(5,(.v (.int .i64 0))),(3,v2),(2,v1)] H2 Q)
theorem jj(x0 x1:AV)(H:Heap)(Q:AV→Heap→Prop)(h : ∀g,cJ g x0 x1 H Q):GoL env Try.f29 0 [.code cI] [(0,x0),(1,x1)] H Q:=⟨fun g=>cK (live:=dC) (cut:=dG) (n:=500) (Eq.mp (by kernel_rfl) (h g))⟩
def da(g:Nat→AV)(x5 x3 x2:AV)(H:Heap)(Q:AV→Heap→Prop):Prop :=
 doQ (Zg 33 x2 0) fun v1 =>
 doQ (Zb H 30 v1) fun v2 =>
 doQ (Zd H 33 30 v2) fun v3 =>
 doQ (Zj 3 30 33 x5 v3) fun v4 =>
 br (some v4) (
 doQ (Zg 33 x2 0) fun v5 =>
 doQ (Zb H 30 v5) fun v6 =>
 doQ (Zn H 30 v6 x5) fun v7 =>
 doQ (Zb H 39 v7) fun v8 =>
 doQ (Zg 33 x3 0) fun v9 =>
 doQ (Zb H 30 v9) fun v10 =>
 doQ (Zn H 30 v10 x5) fun v11 =>
 doQ (Zb H 39 v11) fun v12 =>
 doQ (Zw 39 41 46 v8 v12) fun v13 =>
 br (some v13) (
 Q (.v (.bool false)) H) (
 doQ (Ze 3 35 1 x5) fun v14 =>
  GoL env Try.f29 0 cp [(5,v14),(3,x3),(2,x2)] H Q)) (
  GoL env Try.f29 0 cm [(6,(.v (.int .i64 0))),(3,x3),(2,x2)] H Q)
theorem eJ(x5 x3 x2:AV)(H:Heap)(Q:AV→Heap→Prop)(h : ∀g,da g x5 x3 x2 H Q):GoL env Try.f29 0 cp [(5,x5),(3,x3),(2,x2)] H Q:=dh fun g=>cK (live:=dC) (cut:=dG) (n:=500) (Eq.mp (by kernel_rfl) (h g))
def c9(g:Nat→AV)(x6 x3 x2:AV)(H:Heap)(Q:AV→Heap→Prop):Prop :=
 doQ (Zg 33 x2 1) fun v1 =>
 doQ (Zb H 31 v1) fun v2 =>
 doQ (Zd H 51 31 v2) fun v3 =>
 doQ (Zj 3 48 51 x6 v3) fun v4 =>
 br (some v4) (
 doQ (Zg 33 x2 1) fun v5 =>
 doQ (Zb H 31 v5) fun v6 =>
 doQ (Zn H 31 v6 x6) fun v7 =>
 doQ (Zb H 26 v7) fun v8 =>
 doQ (Zg 33 x3 1) fun v9 =>
 doQ (Zb H 31 v9) fun v10 =>
 doQ (Zn H 31 v10 x6) fun v11 =>
 doQ (Zb H 26 v11) fun v12 =>
 doQ (Zw 26 59 64 v8 v12) fun v13 =>
 br (some v13) (
 Q (.v (.bool false)) H) (
 doQ (Ze 3 53 1 x6) fun v14 =>
  GoL env Try.f29 0 cm [(6,v14),(3,x3),(2,x2)] H Q)) (
 Q (.v (.bool true)) H)
theorem eI(x6 x3 x2:AV)(H:Heap)(Q:AV→Heap→Prop)(h : ∀g,c9 g x6 x3 x2 H Q):GoL env Try.f29 0 cm [(6,x6),(3,x3),(2,x2)] H Q:=dh fun g=>cK (live:=dC) (cut:=dG) (n:=500) (Eq.mp (by kernel_rfl) (h g))
noncomputable def iE:Code:=(Try.f34.body).getD .skip
def nA:Nat→Option (List Nat):=fun i=>none
def nL:Nat→Bool:=fun i=>false
def dM(g:Nat→AV)(x0 x1:AV)(H:Heap)(Q:AV→Heap→Prop):Prop :=
 doW (Zc H 2 33 x0) fun v1 H1 =>
 doW (Zc H1 3 59 x1) fun v2 H2 =>
 doW (Zf H2 4 33) fun v3 H3 =>
 doQ (Zb H3 33 v1) fun v4 =>
 doW (Za false H3 11 17 [v4]) fun v5 H4 =>
 doQ (Zb H4 59 v2) fun v6 =>
 doW (Za false H4 13 38 [v6]) fun v7 H5 =>
 doQ (aF env.P true (Heap.get H5) (Ref.mk 0 14 (Heap.gen H5 0 14) 0) .max #[27,27] [v5,v7]) fun v8 =>
 doQ (Zs 27 15 0 v8) fun v9 =>
 br (some v9) (
 doQ (ZE 33) fun v10 =>
 doW (Zm H5 33 v3 v10) fun v11 H6 =>
 doQ (ZG H6 v3 33) fun v12 =>
 Q (.tup [v12,v8]) H6) (
 doQ (Zb H5 33 v1) fun v10 =>
 doQ (Zb H5 59 v2) fun v11 =>
 doW (Za true H5 21 66 [v10,v11]) fun v12 H6 =>
 doQ (iz env.P (some v12) 33 true) fun v13 =>
 doQ (ZF v13 0) fun v14 =>
 doQ (ZF v13 1) fun v15 =>
 doW (Zf H6 8 33) fun v16 H7 =>
 doW (Zm H7 33 v16 v14) fun v17 H8 =>
 br (some v15) (
 doQ (Zb H8 33 v16) fun v18 =>
 doW (Zm H8 33 v3 v18) fun v19 H9 =>
 doQ (ZG H9 v3 33) fun v20 =>
 Q (.tup [v20,(.v (.int .i64 0))]) H9) (
 doQ (ZE 33) fun v18 =>
 doQ (iz env.P (some v12) 27 false) fun v19 =>
 doW (Zm H8 33 v3 v18) fun v20 H9 =>
 doQ (ZG H9 v3 33) fun v21 =>
 Q (.tup [v21,v19]) H9))
theorem kC(x0 x1:AV)(H:Heap)(Q:AV→Heap→Prop)(h : ∀g,dM g x0 x1 H Q):GoL env Try.f34 0 [.code iE] [(0,x0),(1,x1)] H Q:=⟨fun g=>cK (live:=nA) (cut:=nL) (n:=500) (Eq.mp (by kernel_rfl) (h g))⟩
noncomputable def du:Code:=(Try.f35.body).getD .skip
def iW:Nat→Option (List Nat):=fun i=>none
def jb:Nat→Bool:=fun i=>false
def bR(g:Nat→AV)(x0 x1:AV)(H:Heap)(Q:AV→Heap→Prop):Prop :=
 doW (Zc H 2 33 x0) fun v1 H1 =>
 doW (Zc H1 3 59 x1) fun v2 H2 =>
 doW (Zf H2 4 33) fun v3 H3 =>
 doQ (Zb H3 33 v1) fun v4 =>
 doW (Za true H3 9 53 [v4]) fun v5 H4 =>
 doQ (ZA v5) fun v6 =>
 gQ v6 false (Zb H4 59 v2) fun v7 =>
 gW v6 false H4 (Za true H4 13 63 [v7]) fun v8 H5 =>
 gQ v6 false (ZA v8) fun v9 =>
 doQ (Zl v6 v9) fun v10 =>
 br (some v10) (
 doQ (ZE 33) fun v11 =>
 doW (Zm H5 33 v3 v11) fun v12 H6 =>
 doQ (ZG H6 v3 33) fun v13 =>
 Q (.tup [v13,(.v (.int .i64 8))]) H6) (
 doQ (Zb H5 33 v1) fun v11 =>
 doQ (Zb H5 59 v2) fun v12 =>
 doW (Za true H5 20 67 [v11,v12]) fun v13 H6 =>
 doQ (ZF v13 0) fun v14 =>
 doQ (ZF v13 1) fun v15 =>
 doW (Zf H6 6 33) fun v16 H7 =>
 doW (Zm H7 33 v16 v14) fun v17 H8 =>
 doQ (Zs 3 23 0 v15) fun v18 =>
 br (some v18) (
 doQ (ZE 33) fun v19 =>
 doW (Zm H8 33 v3 v19) fun v20 H9 =>
 doQ (ZG H9 v3 33) fun v21 =>
 Q (.tup [v21,v15]) H9) (
 doQ (Zb H8 33 v16) fun v19 =>
 doW (Zm H8 33 v3 v19) fun v20 H9 =>
 doQ (ZG H9 v3 33) fun v21 =>
 Q (.tup [v21,(.v (.int .i64 0))]) H9))
theorem eY(x0 x1:AV)(H:Heap)(Q:AV→Heap→Prop)(h : ∀g,bR g x0 x1 H Q):GoL env Try.f35 0 [.code du] [(0,x0),(1,x1)] H Q:=⟨fun g=>cK (live:=iW) (cut:=jb) (n:=500) (Eq.mp (by kernel_rfl) (h g))⟩
noncomputable def gq:Code:=(Try.f36.body).getD .skip
noncomputable def eM:List Item:=(bL 9 400 [.code gq]).getD []
def lY:Nat→Option (List Nat):=fun i=>cond (Nat.beq i 9) (some [27,8,2,25,4,26]) (none)
def l7:Nat→Bool:=fun i=>false
def ei(g:Nat→AV)(x0 x1:AV)(H:Heap)(Q:AV→Heap→Prop):Prop :=
 doW (Zc H 2 33 x0) fun v1 H1 =>
 doW (Zf H1 4 33) fun v2 H2 =>
 doQ (Zb H2 33 v1) fun v3 =>
 doW (Za true H2 14 17 [v3]) fun v4 H3 =>
 doQ (Zs 27 15 0 v4) fun v5 =>
 br (some v5) (
 doQ (ZE 33) fun v6 =>
 doW (Zm H3 33 v2 v6) fun v7 H4 =>
 doQ (ZG H4 v2 33) fun v8 =>
 Q (.tup [v8,(.v (.slice none 0 0)),v4]) H4) (
 doQ (Zd H3 20 70 x1) fun v6 =>
 doQ (Zh 3 20 2048 v6) fun v7 =>
 br (some v7) (
 doQ (ZE 33) fun v8 =>
 doW (Zm H3 33 v2 v8) fun v9 H4 =>
 doQ (ZG H4 v2 33) fun v10 =>
 Q (.tup [v10,(.v (.slice none 0 0)),(.v (.int .i64 4))]) H4) (
 doQ (Zb H3 33 v1) fun v8 =>
 doW (Za true H3 24 26 [v8]) fun v9 H4 =>
 doW (Zm H4 33 v1 v9) fun v10 H5 =>
 doQ (Zd H5 26 70 x1) fun v11 =>
  GoL env Try.f36 0 eM [(27,(.v (.int .i64 0))),(8,(.v (.slice none 0 0))),(2,v1),(25,x1),(4,v2),(26,v11)] H5 Q))
theorem jO(x0 x1:AV)(H:Heap)(Q:AV→Heap→Prop)(h : ∀g,ei g x0 x1 H Q):GoL env Try.f36 0 [.code gq] [(0,x0),(1,x1)] H Q:=⟨fun g=>cK (live:=lY) (cut:=l7) (n:=500) (Eq.mp (by kernel_rfl) (h g))⟩
def bl(g:Nat→AV)(x27 x8 x2 x25 x4 x26:AV)(H:Heap)(Q:AV→Heap→Prop):Prop :=
 doQ (Zj 3 27 26 x27 x26) fun v1 =>
 br (some v1) (
 doQ (Zn H 70 x25 x27) fun v2 =>
 doQ (Zb H 59 v2) fun v3 =>
 doW (Zf H 10 59) fun v4 H1 =>
 doW (Zm H1 59 v4 v3) fun v5 H2 =>
 doQ (Zb H2 33 x2) fun v6 =>
 doQ (Zb H2 59 v4) fun v7 =>
 doW (Za true H2 34 34 [v6,v7]) fun v8 H3 =>
 doQ (ZF v8 0) fun v9 =>
 doQ (ZF v8 1) fun v10 =>
 doW (Zf H3 11 33) fun v11 H4 =>
 doW (Zm H4 33 v11 v9) fun v12 H5 =>
 doQ (Zp 27 37 0 v10) fun v13 =>
 br (some v13) (
 doQ (Zb H5 33 v11) fun v14 =>
 doW (Zm H5 33 x2 v14) fun v15 H6 =>
 doW (ZD H6 42 75 1 0 v10) fun v16 H7 =>
 doW (Zv H7 43 75 75 x8 v16) fun v17 H8 =>
 doQ (Ze 3 27 1 x27) fun v18 =>
  GoL env Try.f36 0 eM [(27,v18),(8,v17),(2,x2),(25,x25),(4,x4),(26,x26)] H8 Q) (
 doW (ZD H5 42 75 1 0 v10) fun v14 H6 =>
 doW (Zv H6 43 75 75 x8 v14) fun v15 H7 =>
 doQ (Ze 3 27 1 x27) fun v16 =>
  GoL env Try.f36 0 eM [(27,v16),(8,v15),(2,x2),(25,x25),(4,x4),(26,x26)] H7 Q)) (
 doQ (Zb H 33 x2) fun v2 =>
 doW (Zm H 33 x4 v2) fun v3 H1 =>
 doQ (ZG H1 x4 33) fun v4 =>
 Q (.tup [v4,x8,(.v (.int .i64 0))]) H1)
theorem kB(x27 x8 x2 x25 x4 x26:AV)(H:Heap)(Q:AV→Heap→Prop)(h : ∀g,bl g x27 x8 x2 x25 x4 x26 H Q):GoL env Try.f36 0 eM [(27,x27),(8,x8),(2,x2),(25,x25),(4,x4),(26,x26)] H Q:=dh fun g=>cK (live:=lY) (cut:=l7) (n:=500) (Eq.mp (by kernel_rfl) (h g))
noncomputable def cg:Code:=(Try.f37.body).getD .skip
noncomputable def bO:List Item:=(bL 8 400 [.code cg]).getD []
def fF:Nat→Option (List Nat):=fun i=>cond (Nat.beq i 8) (some [8,7,2,1,4]) (none)
def fI:Nat→Bool:=fun i=>false
def bn(g:Nat→AV)(x0 x1:AV)(H:Heap)(Q:AV→Heap→Prop):Prop :=
 doW (Zc H 2 33 x0) fun v1 H1 =>
 doW (Zf H1 4 33) fun v2 H2 =>
 doQ (Zb H2 33 v1) fun v3 =>
 doW (Za true H2 11 53 [v3]) fun v4 H3 =>
 doQ (ZA v4) fun v5 =>
 br (some v5) (
 doQ (ZE 33) fun v6 =>
 doW (Zm H3 33 v2 v6) fun v7 H4 =>
 doQ (ZG H4 v2 33) fun v8 =>
 Q (.tup [v8,(.v (.slice none 0 0)),(.v (.int .i64 8))]) H4) (
 doQ (Zd H3 15 70 x1) fun v6 =>
 doQ (Zh 3 15 2048 v6) fun v7 =>
 br (some v7) (
 doQ (ZE 33) fun v8 =>
 doW (Zm H3 33 v2 v8) fun v9 H4 =>
 doQ (ZG H4 v2 33) fun v10 =>
 Q (.tup [v10,(.v (.slice none 0 0)),(.v (.int .i64 4))]) H4) (
 doQ (Zb H3 33 v1) fun v8 =>
 doW (jt env true (limf env) (limt env 0) H3 (Ref.mk 0 19 (Heap.gen H3 0 19) 0) (some (.fn (.func 20) [] [])) [v8]) fun v9 H4 =>
 doW (Zm H4 33 v1 v9) fun v10 H5 =>
  GoL env Try.f37 0 bO [(8,(.v (.int .i64 0))),(7,(.v (.slice none 0 0))),(2,v1),(1,x1),(4,v2)] H5 Q))
theorem dN(x0 x1:AV)(H:Heap)(Q:AV→Heap→Prop)(h : ∀g,bn g x0 x1 H Q):GoL env Try.f37 0 [.code cg] [(0,x0),(1,x1)] H Q:=⟨fun g=>cK (live:=fF) (cut:=fI) (n:=500) (Eq.mp (by kernel_rfl) (h g))⟩
def a9(g:Nat→AV)(x8 x7 x2 x1 x4:AV)(H:Heap)(Q:AV→Heap→Prop):Prop :=
 doQ (Zd H 22 70 x1) fun v1 =>
 doQ (Zj 3 20 22 x8 v1) fun v2 =>
 br (some v2) (
 doQ (Zn H 70 x1 x8) fun v3 =>
 doQ (Zb H 59 v3) fun v4 =>
 doW (Za true H 30 63 [v4]) fun v5 H1 =>
 br (some v5) (
 doQ (Zb H1 33 x2) fun v6 =>
 doQ (Zn H1 70 x1 x8) fun v7 =>
 doQ (Zb H1 59 v7) fun v8 =>
 doW (Za false H1 37 67 [v6,v8]) fun v9 H2 =>
 doQ (ZF v9 0) fun v10 =>
 doQ (ZF v9 1) fun v11 =>
 doW (Zm H2 33 x2 v10) fun v12 H3 =>
 doW (ZD H3 42 78 1 0 v11) fun v13 H4 =>
 doW (Zv H4 43 78 78 x7 v13) fun v14 H5 =>
 doQ (Ze 3 24 1 x8) fun v15 =>
  GoL env Try.f37 0 bO [(8,v15),(7,v14),(2,x2),(1,x1),(4,x4)] H5 Q) (
 doW (mf env.P false true H1 (Ref.mk 0 42 (Heap.gen H1 0 42) 0) 78 1 (some [(0,(.v (.int .i64 8)))])) fun v6 H2 =>
 doW (Zv H2 43 78 78 x7 v6) fun v7 H3 =>
 doQ (Ze 3 24 1 x8) fun v8 =>
  GoL env Try.f37 0 bO [(8,v8),(7,v7),(2,x2),(1,x1),(4,x4)] H3 Q)) (
 doQ (Zb H 33 x2) fun v3 =>
 doW (Zm H 33 x4 v3) fun v4 H1 =>
 doQ (ZG H1 x4 33) fun v5 =>
 Q (.tup [v5,x7,(.v (.int .i64 0))]) H1)
theorem eX(x8 x7 x2 x1 x4:AV)(H:Heap)(Q:AV→Heap→Prop)(h : ∀g,a9 g x8 x7 x2 x1 x4 H Q):GoL env Try.f37 0 bO [(8,x8),(7,x7),(2,x2),(1,x1),(4,x4)] H Q:=dh fun g=>cK (live:=fF) (cut:=fI) (n:=500) (Eq.mp (by kernel_rfl) (h g))
noncomputable def kI:Code:=(Try.f38.body).getD .skip
def nz:Nat→Option (List Nat):=fun i=>none
def nK:Nat→Bool:=fun i=>false
def iG(g:Nat→AV)(x0:AV)(H:Heap)(Q:AV→Heap→Prop):Prop :=
 doW (Zc H 1 59 x0) fun v1 H1 =>
 doQ (Zg 59 v1 1) fun v2 =>
 doQ (Zg 39 v2 1) fun v3 =>
 doQ (Zb H1 4 v3) fun v4 =>
 gQ v4 false (Zg 59 v1 1) fun v5 =>
 gQ v4 false (Zg 39 v5 0) fun v6 =>
 gQ v4 false (Zb H1 24 v6) fun v7 =>
 gW v4 false H1 (Za false H1 11 68 []) fun v8 H2 =>
 gQ v4 false (Zq 24 10 11 v7 v8) fun v9 =>
 doQ (Zl v4 v9) fun v10 =>
 doQ (Zg 59 v1 0) fun v11 =>
 doQ (Zb H2 3 v11) fun v12 =>
 doQ (Zu 3 15 0 v12) fun v13 =>
 gQ v13 false (Zg 59 v1 0) fun v14 =>
 gQ v13 false (Zb H2 3 v14) fun v15 =>
 gQ v13 false (Zo 3 19 8 v15) fun v16 =>
 doQ (Zl v13 v16) fun v17 =>
 gQ v17 false (Zg 59 v1 1) fun v18 =>
 gQ v17 false (Zg 39 v18 0) fun v19 =>
 gQ v17 false (Zb H2 24 v19) fun v20 =>
 gW v17 false H2 (Za true H2 26 51 [v20]) fun v21 H3 =>
 gQ v17 false (Zs 27 26 0 v21) fun v22 =>
 doQ (Zl v17 v22) fun v23 =>
 gQ v23 false (ZB v10) fun v24 =>
 gQ v23 false (ZA v24) fun v25 =>
 doQ (Zl v23 v25) fun v26 =>
 br (some v26) (
 Q (.v (.int .i64 8)) H3) (
 Q (.v (.int .i64 0)) H3)
theorem nk(x0:AV)(H:Heap)(Q:AV→Heap→Prop)(h : ∀g,iG g x0 H Q):GoL env Try.f38 0 [.code kI] [(0,x0)] H Q:=⟨fun g=>cK (live:=nz) (cut:=nK) (n:=500) (Eq.mp (by kernel_rfl) (h g))⟩
noncomputable def fe:Code:=(Try.f39.body).getD .skip
def iV:Nat→Option (List Nat):=fun i=>none
def ja:Nat→Bool:=fun i=>false
def fh(g:Nat→AV)(x0:AV)(H:Heap)(Q:AV→Heap→Prop):Prop :=
 doW (Zc H 1 59 x0) fun v1 H1 =>
 doQ (Zb H1 59 v1) fun v2 =>
 doW (Za true H1 4 63 [v2]) fun v3 H2 =>
 doQ (ZA v3) fun v4 =>
 br (some v4) (
 Q (.v (.int .i64 8)) H2) (
 Q (.v (.int .i64 0)) H2)
theorem iJ(x0:AV)(H:Heap)(Q:AV→Heap→Prop)(h : ∀g,fh g x0 H Q):GoL env Try.f39 0 [.code fe] [(0,x0)] H Q:=⟨fun g=>cK (live:=iV) (cut:=ja) (n:=500) (Eq.mp (by kernel_rfl) (h g))⟩
noncomputable def lG:Code:=(Try.f48.body).getD .skip
def oS:Nat→Option (List Nat):=fun i=>none
def pv:Nat→Bool:=fun i=>false
def lJ(g:Nat→AV)(x0:AV)(H:Heap)(Q:AV→Heap→Prop):Prop :=
 doW (Za true H 4 71 [x0,(.v (.bool false))]) fun v1 H1 =>
 doQ (ZA v1) fun v2 =>
 Q v2 H1
theorem ow(x0:AV)(H:Heap)(Q:AV→Heap→Prop)(h : ∀g,lJ g x0 H Q):GoL env Try.f48 0 [.code lG] [(0,x0)] H Q:=⟨fun g=>cK (live:=oS) (cut:=pv) (n:=500) (Eq.mp (by kernel_rfl) (h g))⟩
noncomputable def kD:Code:=(Try.f49.body).getD .skip
def np:Nat→Option (List Nat):=fun i=>none
def nE:Nat→Bool:=fun i=>false
def kJ(g:Nat→AV)(x0 x1:AV)(H:Heap)(Q:AV→Heap→Prop):Prop :=
 doQ (Zo 3 5 0 x0) fun v1 =>
 gQ v1 true (ZB x0) fun v2 =>
 gQ v1 true (ZB x1) fun v3 =>
 gQ v1 true (qBin env.P .leq 3 (Operand.tmp 8) (Operand.tmp 9) (some v2) (some v3)) fun v4 =>
 doQ (Zi v1 v4) fun v5 =>
 Q v5 H
theorem nf(x0 x1:AV)(H:Heap)(Q:AV→Heap→Prop)(h : ∀g,kJ g x0 x1 H Q):GoL env Try.f49 0 [.code kD] [(0,x0),(1,x1)] H Q:=⟨fun g=>cK (live:=np) (cut:=nE) (n:=500) (Eq.mp (by kernel_rfl) (h g))⟩
noncomputable def j2:Code:=(Try.f50.body).getD .skip
def mR:Nat→Option (List Nat):=fun i=>none
def m4:Nat→Bool:=fun i=>false
def j5(g:Nat→AV)(x0:AV)(H:Heap)(Q:AV→Heap→Prop):Prop :=
 doW (Zc H 1 39 x0) fun v1 H1 =>
 doQ (Zg 39 v1 0) fun v2 =>
 doQ (Zb H1 24 v2) fun v3 =>
 doW (Za false H1 5 51 [v3]) fun v4 H2 =>
 doQ (Zp 27 5 0 v4) fun v5 =>
 gQ v5 true (Zg 39 v1 1) fun v6 =>
 gQ v5 true (Zb H2 4 v6) fun v7 =>
 gQ v5 true (ZB v7) fun v8 =>
 gQ v8 false (Zg 39 v1 0) fun v9 =>
 gQ v8 false (Zb H2 24 v9) fun v10 =>
 gW v8 false H2 (Za false H2 13 68 []) fun v11 H3 =>
 gQ v8 false (Zq 24 12 13 v10 v11) fun v12 =>
 gQ v5 true (Zl v8 v12) fun v13 =>
 doQ (Zi v5 v13) fun v14 =>
 Q v14 H3
theorem mw(x0:AV)(H:Heap)(Q:AV→Heap→Prop)(h : ∀g,j5 g x0 H Q):GoL env Try.f50 0 [.code j2] [(0,x0)] H Q:=⟨fun g=>cK (live:=mR) (cut:=m4) (n:=500) (Eq.mp (by kernel_rfl) (h g))⟩
noncomputable def kG:Code:=(Try.f51.body).getD .skip
def nw:Nat→Option (List Nat):=fun i=>none
def nH:Nat→Bool:=fun i=>false
def kM(g:Nat→AV)(x0:AV)(H:Heap)(Q:AV→Heap→Prop):Prop :=
 doW (Zc H 1 24 x0) fun v1 H1 =>
 doQ (Zg 24 v1 0) fun v2 =>
 doQ (Zb H1 5 v2) fun v3 =>
 doQ (qBin env.P .gtr 5 (Operand.tmp 4) (.const (.int .u8 15)) (some v3) (some (a8 15))) fun v4 =>
 br (some v4) (
 Q (.v (.int .i64 8)) H1) (
 Q (.v (.int .i64 0)) H1)
theorem ni(x0:AV)(H:Heap)(Q:AV→Heap→Prop)(h : ∀g,kM g x0 H Q):GoL env Try.f51 0 [.code kG] [(0,x0)] H Q:=⟨fun g=>cK (live:=nw) (cut:=nH) (n:=500) (Eq.mp (by kernel_rfl) (h g))⟩
noncomputable def gz:Code:=(Try.f52.body).getD .skip
noncomputable def dU:List Item:=(bL 3 400 [.code gz]).getD []
def jw:Nat→Option (List Nat):=fun i=>cond (Nat.beq i 3) (some [11,3,9,10]) (none)
def jx:Nat→Bool:=fun i=>false
def jy(g:Nat→AV)(x0:AV)(H:Heap)(Q:AV→Heap→Prop):Prop :=
 doW (Zc H 1 33 x0) fun v1 H1 =>
 doQ (Zg 33 v1 2) fun v2 =>
 doQ (Zb H1 3 v2) fun v3 =>
 doQ (Zg 33 v1 1) fun v4 =>
 doQ (Zb H1 31 v4) fun v5 =>
 doQ (Zd H1 10 31 v5) fun v6 =>
  GoL env Try.f52 0 dU [(11,(.v (.int .i64 0))),(3,v3),(9,v5),(10,v6)] H1 Q
theorem l9(x0:AV)(H:Heap)(Q:AV→Heap→Prop)(h : ∀g,jy g x0 H Q):GoL env Try.f52 0 [.code gz] [(0,x0)] H Q:=⟨fun g=>cK (live:=jw) (cut:=jx) (n:=500) (Eq.mp (by kernel_rfl) (h g))⟩
def fD(g:Nat→AV)(x11 x3 x9 x10:AV)(H:Heap)(Q:AV→Heap→Prop):Prop :=
 doQ (Zj 3 11 10 x11 x10) fun v1 =>
 br (some v1) (
 doQ (Zn H 31 x9 x11) fun v2 =>
 doQ (Zb H 26 v2) fun v3 =>
 doW (Zf H 5 26) fun v4 H1 =>
 doW (Zm H1 26 v4 v3) fun v5 H2 =>
 doQ (Zg 26 v4 1) fun v6 =>
 doQ (Zb H2 3 v6) fun v7 =>
 doQ (Zg 26 v4 2) fun v8 =>
 doQ (Zb H2 3 v8) fun v9 =>
 doQ (Zy 3 4 19 v9) fun v10 =>
 doQ (Zt 3 17 20 v7 v10) fun v11 =>
 doQ (Zt 3 15 21 x3 v11) fun v12 =>
 doQ (Ze 3 11 1 x11) fun v13 =>
  GoL env Try.f52 0 dU [(11,v13),(3,v12),(9,x9),(10,x10)] H2 Q) (
 Q x3 H)
theorem ib(x11 x3 x9 x10:AV)(H:Heap)(Q:AV→Heap→Prop)(h : ∀g,fD g x11 x3 x9 x10 H Q):GoL env Try.f52 0 dU [(11,x11),(3,x3),(9,x9),(10,x10)] H Q:=dh fun g=>cK (live:=jw) (cut:=jx) (n:=500) (Eq.mp (by kernel_rfl) (h g))
noncomputable def bQ:Code:=(Try.f53.body).getD .skip
noncomputable def b8:List Item:=(bL 4 400 [.code bQ]).getD []
noncomputable def b7:List Item:=(bL 9 400 [.code bQ]).getD []
noncomputable def bU:List Item:=(bL 15 400 [.code bQ]).getD []
def cx:Nat→Option (List Nat):=fun i=>cond (Nat.beq i 4) (some [3,1]) (cond (Nat.beq i 9) (some [4,1]) (cond (Nat.beq i 15) (some [6,1,5]) (none)))
def cB:Nat→Bool:=fun i=>false
def fj(g:Nat→AV)(x0:AV)(H:Heap)(Q:AV→Heap→Prop):Prop :=
 doW (Zc H 1 33 x0) fun v1 H1 =>
 doQ (Zg 33 v1 0) fun v2 =>
 doQ (Zb H1 30 v2) fun v3 =>
 doQ (Zd H1 9 30 v3) fun v4 =>
 doQ (Zh 3 9 8 v4) fun v5 =>
 gQ v5 false (Zg 33 v1 1) fun v6 =>
 gQ v5 false (Zb H1 31 v6) fun v7 =>
 gQ v5 false (Zd H1 14 31 v7) fun v8 =>
 gQ v5 false (Zh 3 14 8 v8) fun v9 =>
 doQ (Zl v5 v9) fun v10 =>
 gQ v10 false (Zg 33 v1 2) fun v11 =>
 gQ v10 false (Zb H1 3 v11) fun v12 =>
 gQ v10 false (Zu 3 19 0 v12) fun v13 =>
 doQ (Zl v10 v13) fun v14 =>
 gQ v14 false (Zg 33 v1 2) fun v15 =>
 gQ v14 false (Zb H1 3 v15) fun v16 =>
 gQ v14 false (Zh 3 24 64 v16) fun v17 =>
 doQ (Zl v14 v17) fun v18 =>
 br (some v18) (
 Q (.v (.bool false)) H1) (
  GoL env Try.f53 0 b8 [(3,(.v (.int .i64 0))),(1,v1)] H1 Q)
theorem iK(x0:AV)(H:Heap)(Q:AV→Heap→Prop)(h : ∀g,fj g x0 H Q):GoL env Try.f53 0 [.code bQ] [(0,x0)] H Q:=⟨fun g=>cK (live:=cx) (cut:=cB) (n:=500) (Eq.mp (by kernel_rfl) (h g))⟩
def cU(g:Nat→AV)(x3 x1:AV)(H:Heap)(Q:AV→Heap→Prop):Prop :=
 doQ (Zg 33 x1 0) fun v1 =>
 doQ (Zb H 30 v1) fun v2 =>
 doQ (Zd H 30 30 v2) fun v3 =>
 doQ (Zj 3 27 30 x3 v3) fun v4 =>
 br (some v4) (
 doQ (Zg 33 x1 0) fun v5 =>
 doQ (Zb H 30 v5) fun v6 =>
 doQ (Zn H 30 v6 x3) fun v7 =>
 doQ (Zb H 39 v7) fun v8 =>
 doW (Za true H 39 72 [v8]) fun v9 H1 =>
 doQ (ZA v9) fun v10 =>
 br (some v10) (
 Q (.v (.bool false)) H1) (
 doQ (Ze 3 32 1 x3) fun v11 =>
  GoL env Try.f53 0 b8 [(3,v11),(1,x1)] H1 Q)) (
  GoL env Try.f53 0 b7 [(4,(.v (.int .i64 0))),(1,x1)] H Q)
theorem eD(x3 x1:AV)(H:Heap)(Q:AV→Heap→Prop)(h : ∀g,cU g x3 x1 H Q):GoL env Try.f53 0 b8 [(3,x3),(1,x1)] H Q:=dh fun g=>cK (live:=cx) (cut:=cB) (n:=500) (Eq.mp (by kernel_rfl) (h g))
def b9(g:Nat→AV)(x4 x1:AV)(H:Heap)(Q:AV→Heap→Prop):Prop :=
 doQ (Zg 33 x1 1) fun v1 =>
 doQ (Zb H 31 v1) fun v2 =>
 doQ (Zd H 44 31 v2) fun v3 =>
 doQ (Zj 3 41 44 x4 v3) fun v4 =>
 br (some v4) (
 doQ (Zg 33 x1 1) fun v5 =>
 doQ (Zb H 31 v5) fun v6 =>
 doQ (Zn H 31 v6 x4) fun v7 =>
 doQ (Zb H 26 v7) fun v8 =>
 doW (Za false H 53 73 [v8]) fun v9 H1 =>
 doQ (ZA v9) fun v10 =>
 gQ v10 false (ZB x4) fun v11 =>
 gQ v10 false (Zh 3 56 0 v11) fun v12 =>
 gQ v10 false (ZB v12) fun v13 =>
 gQ v13 true (Zg 33 x1 1) fun v14 =>
 gQ v13 true (Zb H1 31 v14) fun v15 =>
 gQ v13 true (ZB x4) fun v16 =>
 gQ v13 true (Zr 3 61 1 v16) fun v17 =>
 gQ v13 true (Zn H1 31 v15 v17) fun v18 =>
 gQ v13 true (Zg 26 v18 0) fun v19 =>
 gQ v13 true (Zb H1 24 v19) fun v20 =>
 gQ v13 true (Zg 33 x1 1) fun v21 =>
 gQ v13 true (Zb H1 31 v21) fun v22 =>
 gQ v13 true (ZB x4) fun v23 =>
 gQ v13 true (Zn H1 31 v22 v23) fun v24 =>
 gQ v13 true (Zg 26 v24 0) fun v25 =>
 gQ v13 true (Zb H1 24 v25) fun v26 =>
 gW v13 true H1 (Za false H1 72 74 [v20,v26]) fun v27 H2 =>
 gQ v13 true (ZA v27) fun v28 =>
 gQ v10 false (Zi v13 v28) fun v29 =>
 doQ (Zl v10 v29) fun v30 =>
 br (some v30) (
 Q (.v (.bool false)) H2) (
 doQ (Ze 3 46 1 x4) fun v31 =>
  GoL env Try.f53 0 b7 [(4,v31),(1,x1)] H2 Q)) (
  GoL env Try.f53 0 bU [(6,(.v (.int .i64 0))),(1,x1),(5,(.v (.int .i64 0)))] H Q)
theorem eC(x4 x1:AV)(H:Heap)(Q:AV→Heap→Prop)(h : ∀g,b9 g x4 x1 H Q):GoL env Try.f53 0 b7 [(4,x4),(1,x1)] H Q:=dh fun g=>cK (live:=cx) (cut:=cB) (n:=500) (Eq.mp (by kernel_rfl) (h g))
def cQ(g:Nat→AV)(x6 x1 x5:AV)(H:Heap)(Q:AV→Heap→Prop):Prop :=
 doQ (Zg 33 x1 1) fun v1 =>
 doQ (Zb H 31 v1) fun v2 =>
 doQ (Zd H 79 31 v2) fun v3 =>
 doQ (Zj 3 76 79 x6 v3) fun v4 =>
 br (some v4) (
 doQ (Zg 33 x1 1) fun v5 =>
 doQ (Zb H 31 v5) fun v6 =>
 doQ (Zn H 31 v6 x6) fun v7 =>
 doQ (Zg 26 v7 3) fun v8 =>
 doQ (Zb H 3 v8) fun v9 =>
 doQ (Zt 3 83 89 x5 v9) fun v10 =>
 doQ (Ze 3 81 1 x6) fun v11 =>
  GoL env Try.f53 0 bU [(6,v11),(1,x1),(5,v10)] H Q) (
 doQ (Zb H 33 x1) fun v5 =>
 doW (Za true H 92 54 [v5]) fun v6 H1 =>
 doQ (Zk 3 92 2048 v6) fun v7 =>
 gQ v7 true (ZB x5) fun v8 =>
 gQ v7 true (Zk 3 95 8192 v8) fun v9 =>
 doQ (Zi v7 v9) fun v10 =>
 Q v10 H1)
theorem eb(x6 x1 x5:AV)(H:Heap)(Q:AV→Heap→Prop)(h : ∀g,cQ g x6 x1 x5 H Q):GoL env Try.f53 0 bU [(6,x6),(1,x1),(5,x5)] H Q:=dh fun g=>cK (live:=cx) (cut:=cB) (n:=500) (Eq.mp (by kernel_rfl) (h g))
noncomputable def dO:Code:=(Try.f54.body).getD .skip
noncomputable def cz:List Item:=(bL 3 400 [.code dO]).getD []
def fG:Nat→Option (List Nat):=fun i=>cond (Nat.beq i 3) (some [4,1,3]) (none)
def fJ:Nat→Bool:=fun i=>false
def fP(g:Nat→AV)(x0:AV)(H:Heap)(Q:AV→Heap→Prop):Prop :=
 doW (Zc H 1 33 x0) fun v1 H1 =>
 doQ (Zg 33 v1 2) fun v2 =>
 doQ (Zb H1 3 v2) fun v3 =>
  GoL env Try.f54 0 cz [(4,(.v (.int .i64 0))),(1,v1),(3,v3)] H1 Q
theorem jC(x0:AV)(H:Heap)(Q:AV→Heap→Prop)(h : ∀g,fP g x0 H Q):GoL env Try.f54 0 [.code dO] [(0,x0)] H Q:=⟨fun g=>cK (live:=fG) (cut:=fJ) (n:=500) (Eq.mp (by kernel_rfl) (h g))⟩
def dw(g:Nat→AV)(x4 x1 x3:AV)(H:Heap)(Q:AV→Heap→Prop):Prop :=
 doQ (Zg 33 x1 1) fun v1 =>
 doQ (Zb H 31 v1) fun v2 =>
 doQ (Zd H 10 31 v2) fun v3 =>
 doQ (Zj 3 7 10 x4 v3) fun v4 =>
 br (some v4) (
 doQ (Zg 33 x1 1) fun v5 =>
 doQ (Zb H 31 v5) fun v6 =>
 doQ (Zn H 31 v6 x4) fun v7 =>
 doQ (Zg 26 v7 1) fun v8 =>
 doQ (Zb H 3 v8) fun v9 =>
 doQ (Zt 3 14 20 x3 v9) fun v10 =>
 doQ (Zg 33 x1 1) fun v11 =>
 doQ (Zb H 31 v11) fun v12 =>
 doQ (Zn H 31 v12 x4) fun v13 =>
 doQ (Zg 26 v13 2) fun v14 =>
 doQ (Zb H 3 v14) fun v15 =>
 doQ (Zy 3 4 27 v15) fun v16 =>
 doQ (Zt 3 21 28 v10 v16) fun v17 =>
 doQ (Ze 3 12 1 x4) fun v18 =>
  GoL env Try.f54 0 cz [(4,v18),(1,x1),(3,v17)] H Q) (
 Q x3 H)
theorem eZ(x4 x1 x3:AV)(H:Heap)(Q:AV→Heap→Prop)(h : ∀g,dw g x4 x1 x3 H Q):GoL env Try.f54 0 cz [(4,x4),(1,x1),(3,x3)] H Q:=dh fun g=>cK (live:=fG) (cut:=fJ) (n:=500) (Eq.mp (by kernel_rfl) (h g))
noncomputable def fM:Code:=(Try.f55.body).getD .skip
def jH:Nat→Option (List Nat):=fun i=>none
def jL:Nat→Bool:=fun i=>false
def fQ(g:Nat→AV)(x0:AV)(H:Heap)(Q:AV→Heap→Prop):Prop :=
 doW (Zc H 1 24 x0) fun v1 H1 =>
 doQ (Zg 24 v1 0) fun v2 =>
 doQ (Zb H1 5 v2) fun v3 =>
 doQ (qBin env.P .leq 5 (Operand.tmp 4) (.const (.int .u8 15)) (some v3) (some (a8 15))) fun v4 =>
 Q v4 H1
theorem jD(x0:AV)(H:Heap)(Q:AV→Heap→Prop)(h : ∀g,fQ g x0 H Q):GoL env Try.f55 0 [.code fM] [(0,x0)] H Q:=⟨fun g=>cK (live:=jH) (cut:=jL) (n:=500) (Eq.mp (by kernel_rfl) (h g))⟩
noncomputable def aK:Code:=(Try.f58.body).getD .skip
def cb:Nat→Option (List Nat):=fun i=>none
def cf:Nat→Bool:=fun i=>false
def aM(g:Nat→AV)(x0:AV)(H:Heap)(Q:AV→Heap→Prop):Prop :=
 doQ (ZC 30 3 x0) fun v1 =>
 br (some v1) (
 Q (.v (.slice none 0 0)) H) (
 doW (mf env.P false true H (Ref.mk 0 5 (Heap.gen H 0 5) 0) 30 0 (some [])) fun v2 H1 =>
 doW (Zv H1 7 30 30 v2 x0) fun v3 H2 =>
 Q v3 H2)
theorem aV(x0:AV)(H:Heap)(Q:AV→Heap→Prop)(h : ∀g,aM g x0 H Q):GoL env Try.f58 0 [.code aK] [(0,x0)] H Q:=⟨fun g=>cK (live:=cb) (cut:=cf) (n:=500) (Eq.mp (by kernel_rfl) (h g))⟩
noncomputable def aJ:Code:=(Try.f59.body).getD .skip
def ca:Nat→Option (List Nat):=fun i=>none
def cd:Nat→Bool:=fun i=>false
def aL(g:Nat→AV)(x0:AV)(H:Heap)(Q:AV→Heap→Prop):Prop :=
 doQ (ZC 31 3 x0) fun v1 =>
 br (some v1) (
 Q (.v (.slice none 0 0)) H) (
 doW (mf env.P false true H (Ref.mk 0 5 (Heap.gen H 0 5) 0) 31 0 (some [])) fun v2 H1 =>
 doW (Zv H1 7 31 31 v2 x0) fun v3 H2 =>
 Q v3 H2)
theorem aU(x0:AV)(H:Heap)(Q:AV→Heap→Prop)(h : ∀g,aL g x0 H Q):GoL env Try.f59 0 [.code aJ] [(0,x0)] H Q:=⟨fun g=>cK (live:=ca) (cut:=cd) (n:=500) (Eq.mp (by kernel_rfl) (h g))⟩
noncomputable def fK:Code:=(Try.f63.body).getD .skip
def jF:Nat→Option (List Nat):=fun i=>none
def jJ:Nat→Bool:=fun i=>false
def fN(g:Nat→AV)(x0:AV)(H:Heap)(Q:AV→Heap→Prop):Prop :=
 doW (Zc H 1 59 x0) fun v1 H1 =>
 doQ (Zg 59 v1 0) fun v2 =>
 doQ (Zb H1 3 v2) fun v3 =>
 doQ (Zo 3 4 0 v3) fun v4 =>
 gQ v4 true (Zg 59 v1 0) fun v5 =>
 gQ v4 true (Zb H1 3 v5) fun v6 =>
 gQ v4 true (Zu 3 8 8 v6) fun v7 =>
 doQ (Zi v4 v7) fun v8 =>
 gQ v8 true (Zg 59 v1 1) fun v9 =>
 gQ v8 true (Zb H1 39 v9) fun v10 =>
 gW v8 true H1 (Za true H1 14 72 [v10]) fun v11 H2 =>
 doQ (Zi v8 v11) fun v12 =>
 Q v12 H2
theorem jA(x0:AV)(H:Heap)(Q:AV→Heap→Prop)(h : ∀g,fN g x0 H Q):GoL env Try.f63 0 [.code fK] [(0,x0)] H Q:=⟨fun g=>cK (live:=jF) (cut:=jJ) (n:=500) (Eq.mp (by kernel_rfl) (h g))⟩
noncomputable def dK:Code:=(Try.f66.body).getD .skip
def ny:Nat→Option (List Nat):=fun i=>none
def nJ:Nat→Bool:=fun i=>false
def dL(g:Nat→AV)(x0 x1:AV)(H:Heap)(Q:AV→Heap→Prop):Prop :=
 doW (Zc H 2 33 x0) fun v1 H1 =>
 doW (Zc H1 3 59 x1) fun v2 H2 =>
 doQ (Zg 59 v2 0) fun v3 =>
 doQ (Zb H2 3 v3) fun v4 =>
 doQ (Zg 33 v1 0) fun v5 =>
 doQ (Zb H2 30 v5) fun v6 =>
 doQ (Zd H2 10 30 v6) fun v7 =>
 doQ (qBin env.P .geq 3 (Operand.tmp 7) (Operand.tmp 10) (some v4) (some v7)) fun v8 =>
 br (some v8) (
 doQ (jU env.P 27 (some (AV.v (Value.int IntKind.i64 2)))) fun v9 =>
 Q v9 H2) (
 doQ (Zg 33 v1 2) fun v9 =>
 doQ (Zb H2 3 v9) fun v10 =>
 doQ (Zp 3 15 0 v10) fun v11 =>
 br (some v11) (
 doQ (jU env.P 27 (some (AV.v (Value.int IntKind.i64 9)))) fun v12 =>
 Q v12 H2) (
 doQ (Zb H2 33 v1) fun v12 =>
 doW (Za true H2 19 26 [v12]) fun v13 H3 =>
 doW (Zm H3 33 v1 v13) fun v14 H4 =>
 doQ (Zg 33 v1 0) fun v15 =>
 doQ (Zb H4 30 v15) fun v16 =>
 doQ (Zg 59 v2 0) fun v17 =>
 doQ (Zb H4 3 v17) fun v18 =>
 doQ (Zg 59 v2 1) fun v19 =>
 doQ (Zb H4 39 v19) fun v20 =>
 doQ (Zn H4 30 v16 v18) fun v21 =>
 doW (Zm H4 39 v21 v20) fun v22 H5 =>
 doQ (Zg 33 v1 2) fun v23 =>
 doQ (Zb H5 3 v23) fun v24 =>
 doQ (Zr 3 28 1 v24) fun v25 =>
 doQ (Zg 33 v1 2) fun v26 =>
 doW (Zm H5 3 v26 v25) fun v27 H6 =>
 doQ (Zb H6 33 v1) fun v28 =>
 doQ (jU env.P 33 (some v28)) fun v29 =>
 Q v29 H6))
theorem eH(x0 x1:AV)(H:Heap)(Q:AV→Heap→Prop)(h : ∀g,dL g x0 x1 H Q):GoL env Try.f66 0 [.code dK] [(0,x0),(1,x1)] H Q:=⟨fun g=>cK (live:=ny) (cut:=nJ) (n:=500) (Eq.mp (by kernel_rfl) (h g))⟩
noncomputable def cr:Code:=(Try.f67.body).getD .skip
def iA:Nat→Option (List Nat):=fun i=>none
def iD:Nat→Bool:=fun i=>false
def bH(g:Nat→AV)(x0 x1:AV)(H:Heap)(Q:AV→Heap→Prop):Prop :=
 doW (Zc H 2 33 x0) fun v1 H1 =>
 doW (Zc H1 3 59 x1) fun v2 H2 =>
 doW (Zf H2 4 33) fun v3 H3 =>
 doQ (Zg 59 v2 0) fun v4 =>
 doQ (Zb H3 3 v4) fun v5 =>
 doQ (Zg 33 v1 0) fun v6 =>
 doQ (Zb H3 30 v6) fun v7 =>
 doQ (Zd H3 10 30 v7) fun v8 =>
 doQ (qBin env.P .geq 3 (Operand.tmp 7) (Operand.tmp 10) (some v5) (some v8)) fun v9 =>
 br (some v9) (
 doQ (Zb H3 33 v1) fun v10 =>
 doW (Zm H3 33 v3 v10) fun v11 H4 =>
 doQ (ZG H4 v3 33) fun v12 =>
 Q (.tup [v12,(.v (.int .i64 2))]) H4) (
 doQ (Zg 33 v1 2) fun v10 =>
 doQ (Zb H3 3 v10) fun v11 =>
 doQ (Zp 3 14 0 v11) fun v12 =>
 br (some v12) (
 doQ (Zb H3 33 v1) fun v13 =>
 doW (Zm H3 33 v3 v13) fun v14 H4 =>
 doQ (ZG H4 v3 33) fun v15 =>
 Q (.tup [v15,(.v (.int .i64 9))]) H4) (
 doQ (Zb H3 33 v1) fun v13 =>
 doW (Za true H3 18 20 [v13]) fun v14 H4 =>
 doW (Zm H4 33 v1 v14) fun v15 H5 =>
 doQ (Zg 33 v1 0) fun v16 =>
 doQ (Zb H5 30 v16) fun v17 =>
 doQ (Zg 59 v2 0) fun v18 =>
 doQ (Zb H5 3 v18) fun v19 =>
 doQ (Zg 59 v2 1) fun v20 =>
 doQ (Zb H5 39 v20) fun v21 =>
 doQ (Zn H5 30 v17 v19) fun v22 =>
 doW (Zm H5 39 v22 v21) fun v23 H6 =>
 doQ (Zg 33 v1 2) fun v24 =>
 doQ (Zb H6 3 v24) fun v25 =>
 doQ (Zr 3 27 1 v25) fun v26 =>
 doQ (Zg 33 v1 2) fun v27 =>
 doW (Zm H6 3 v27 v26) fun v28 H7 =>
 doQ (Zb H7 33 v1) fun v29 =>
 doW (Zm H7 33 v3 v29) fun v30 H8 =>
 doQ (ZG H8 v3 33) fun v31 =>
 Q (.tup [v31,(.v (.int .i64 0))]) H8))
theorem cY(x0 x1:AV)(H:Heap)(Q:AV→Heap→Prop)(h : ∀g,bH g x0 x1 H Q):GoL env Try.f67 0 [.code cr] [(0,x0),(1,x1)] H Q:=⟨fun g=>cK (live:=iA) (cut:=iD) (n:=500) (Eq.mp (by kernel_rfl) (h g))⟩
noncomputable def kF:Code:=(Try.f68.body).getD .skip
def nv:Nat→Option (List Nat):=fun i=>none
def nG:Nat→Bool:=fun i=>false
def kL(g:Nat→AV)(H:Heap)(Q:AV→Heap→Prop):Prop :=
 doW (Zf H 0 24) fun v1 H1 =>
 doQ (ZE 24) fun v2 =>
 doW (Zm H1 24 v1 v2) fun v3 H2 =>
 doQ (ZG H2 v1 24) fun v4 =>
 Q v4 H2
theorem nh(H:Heap)(Q:AV→Heap→Prop)(h : ∀g,kL g  H Q):GoL env Try.f68 0 [.code kF] [] H Q:=⟨fun g=>cK (live:=nv) (cut:=nG) (n:=500) (Eq.mp (by kernel_rfl) (h g))⟩
noncomputable def dt:Code:=(Try.f71.body).getD .skip
def fU:Nat→Option (List Nat):=fun i=>none
def fW:Nat→Bool:=fun i=>false
def dv(g:Nat→AV)(x0 x1:AV)(H:Heap)(Q:AV→Heap→Prop):Prop :=
 doW (Za true H 7 80 [x0,x1]) fun v1 H1 =>
 doQ (Zo 3 7 0 v1) fun v2 =>
 Q v2 H1
theorem fR(x0 x1:AV)(H:Heap)(Q:AV→Heap→Prop)(h : ∀g,dv g x0 x1 H Q):GoL env Try.f71 0 [.code dt] [(0,x0),(1,x1)] H Q:=⟨fun g=>cK (live:=fU) (cut:=fW) (n:=500) (Eq.mp (by kernel_rfl) (h g))⟩
noncomputable def eg:Code:=(Try.f72.body).getD .skip
def gT:Nat→Option (List Nat):=fun i=>none
def gX:Nat→Bool:=fun i=>false
def ej(g:Nat→AV)(x0:AV)(H:Heap)(Q:AV→Heap→Prop):Prop :=
 doW (Zc H 1 39 x0) fun v1 H1 =>
 doQ (Zg 39 v1 0) fun v2 =>
 doQ (Zb H1 24 v2) fun v3 =>
 doW (Za true H1 5 55 [v3]) fun v4 H2 =>
 gQ v4 true (Zg 39 v1 1) fun v5 =>
 gQ v4 true (Zb H2 4 v5) fun v6 =>
 gQ v4 true (ZB v6) fun v7 =>
 gQ v7 false (Zg 39 v1 0) fun v8 =>
 gQ v7 false (Zb H2 24 v8) fun v9 =>
 gQ v7 false (ZE 24) fun v10 =>
 gQ v7 false (Zq 24 11 12 v9 v10) fun v11 =>
 gQ v4 true (Zl v7 v11) fun v12 =>
 doQ (Zi v4 v12) fun v13 =>
 Q v13 H2
theorem gM(x0:AV)(H:Heap)(Q:AV→Heap→Prop)(h : ∀g,ej g x0 H Q):GoL env Try.f72 0 [.code eg] [(0,x0)] H Q:=⟨fun g=>cK (live:=gT) (cut:=gX) (n:=500) (Eq.mp (by kernel_rfl) (h g))⟩
noncomputable def fL:Code:=(Try.f73.body).getD .skip
def jG:Nat→Option (List Nat):=fun i=>none
def jK:Nat→Bool:=fun i=>false
def fO(g:Nat→AV)(x0:AV)(H:Heap)(Q:AV→Heap→Prop):Prop :=
 doW (Zc H 1 26 x0) fun v1 H1 =>
 doQ (Zg 26 v1 0) fun v2 =>
 doQ (Zb H1 24 v2) fun v3 =>
 doW (Za true H1 5 55 [v3]) fun v4 H2 =>
 gQ v4 true (Zg 26 v1 1) fun v5 =>
 gQ v4 true (Zb H2 3 v5) fun v6 =>
 gQ v4 true (Zo 3 8 0 v6) fun v7 =>
 doQ (Zi v4 v7) fun v8 =>
 gQ v8 true (Zg 26 v1 1) fun v9 =>
 gQ v8 true (Zb H2 3 v9) fun v10 =>
 gQ v8 true (Zk 3 13 64 v10) fun v11 =>
 doQ (Zi v8 v11) fun v12 =>
 gQ v12 true (Zg 26 v1 2) fun v13 =>
 gQ v12 true (Zb H2 3 v13) fun v14 =>
 gQ v12 true (Zo 3 18 0 v14) fun v15 =>
 doQ (Zi v12 v15) fun v16 =>
 gQ v16 true (Zg 26 v1 2) fun v17 =>
 gQ v16 true (Zb H2 3 v17) fun v18 =>
 gQ v16 true (Zk 3 23 256 v18) fun v19 =>
 doQ (Zi v16 v19) fun v20 =>
 gQ v20 true (Zg 26 v1 3) fun v21 =>
 gQ v20 true (Zb H2 3 v21) fun v22 =>
 gQ v20 true (Zo 3 28 0 v22) fun v23 =>
 doQ (Zi v20 v23) fun v24 =>
 gQ v24 true (Zg 26 v1 3) fun v25 =>
 gQ v24 true (Zb H2 3 v25) fun v26 =>
 gQ v24 true (Zk 3 33 4096 v26) fun v27 =>
 doQ (Zi v24 v27) fun v28 =>
 Q v28 H2
theorem jB(x0:AV)(H:Heap)(Q:AV→Heap→Prop)(h : ∀g,fO g x0 H Q):GoL env Try.f73 0 [.code fL] [(0,x0)] H Q:=⟨fun g=>cK (live:=jG) (cut:=jK) (n:=500) (Eq.mp (by kernel_rfl) (h g))⟩
noncomputable def fg:Code:=(Try.f74.body).getD .skip
def iY:Nat→Option (List Nat):=fun i=>none
def jd:Nat→Bool:=fun i=>false
def fm(g:Nat→AV)(x0 x1:AV)(H:Heap)(Q:AV→Heap→Prop):Prop :=
 doW (Zc H 2 24 x0) fun v1 H1 =>
 doW (Zc H1 3 24 x1) fun v2 H2 =>
 doQ (Zg 24 v1 0) fun v3 =>
 doQ (Zb H2 5 v3) fun v4 =>
 doQ (Zz H2 7 5 3 v4) fun v5 =>
 doQ (Zx 3 7 4294967296 v5) fun v6 =>
 doQ (Zg 24 v1 1) fun v7 =>
 doQ (Zb H2 22 v7) fun v8 =>
 doQ (Zz H2 11 22 3 v8) fun v9 =>
 doQ (Zt 3 8 11 v6 v9) fun v10 =>
 doQ (Zg 24 v2 0) fun v11 =>
 doQ (Zb H2 5 v11) fun v12 =>
 doQ (Zz H2 15 5 3 v12) fun v13 =>
 doQ (Zx 3 15 4294967296 v13) fun v14 =>
 doQ (Zg 24 v2 1) fun v15 =>
 doQ (Zb H2 22 v15) fun v16 =>
 doQ (Zz H2 19 22 3 v16) fun v17 =>
 doQ (Zt 3 16 19 v14 v17) fun v18 =>
 doQ (Zj 3 12 20 v10 v18) fun v19 =>
 Q v19 H2
theorem iM(x0 x1:AV)(H:Heap)(Q:AV→Heap→Prop)(h : ∀g,fm g x0 x1 H Q):GoL env Try.f74 0 [.code fg] [(0,x0),(1,x1)] H Q:=⟨fun g=>cK (live:=iY) (cut:=jd) (n:=500) (Eq.mp (by kernel_rfl) (h g))⟩
noncomputable def cH:Code:=(Try.f80.body).getD .skip
noncomputable def bF:List Item:=(bL 2 400 [.code cH]).getD []
def dT:Nat→Option (List Nat):=fun i=>cond (Nat.beq i 2) (some [8,0,1,7]) (none)
def dW:Nat→Bool:=fun i=>false
def dY(g:Nat→AV)(x0 x1:AV)(H:Heap)(Q:AV→Heap→Prop):Prop :=
 doQ (Zd H 7 114 x0) fun v1 =>
  GoL env Try.f80 0 bF [(8,(.v (.int .i64 0))),(0,x0),(1,x1),(7,v1)] H Q
theorem gD(x0 x1:AV)(H:Heap)(Q:AV→Heap→Prop)(h : ∀g,dY g x0 x1 H Q):GoL env Try.f80 0 [.code cH] [(0,x0),(1,x1)] H Q:=⟨fun g=>cK (live:=dT) (cut:=dW) (n:=500) (Eq.mp (by kernel_rfl) (h g))⟩
def ct(g:Nat→AV)(x8 x0 x1 x7:AV)(H:Heap)(Q:AV→Heap→Prop):Prop :=
 doQ (Zj 3 8 7 x8 x7) fun v1 =>
 br (some v1) (
 doQ (Zn H 114 x0 x8) fun v2 =>
 doQ (Zb H 4 v2) fun v3 =>
 doQ (Zq 4 11 15 x1 v3) fun v4 =>
 br (some v4) (
 Q x8 H) (
 doQ (Ze 3 8 1 x8) fun v5 =>
  GoL env Try.f80 0 bF [(8,v5),(0,x0),(1,x1),(7,x7)] H Q)) (
 Q (.v (.int .i64 (-1))) H)
theorem dx(x8 x0 x1 x7:AV)(H:Heap)(Q:AV→Heap→Prop)(h : ∀g,ct g x8 x0 x1 x7 H Q):GoL env Try.f80 0 bF [(8,x8),(0,x0),(1,x1),(7,x7)] H Q:=dh fun g=>cK (live:=dT) (cut:=dW) (n:=500) (Eq.mp (by kernel_rfl) (h g))
end Go.Proofs.Ytgooemdlilfkmaa
