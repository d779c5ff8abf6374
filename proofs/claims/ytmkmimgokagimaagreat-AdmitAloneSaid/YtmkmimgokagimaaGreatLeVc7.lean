/-
  What is to be shown of each function, computed from its code. No statement of a seat is proved here.
-/
import Derived.Test.YtmkmimgokagimaaGreatLeTy
set_option linter.unusedVariables false
set_option maxRecDepth 1000000
namespace Go.Proofs.YtmkmimgokagimaaGreat
open Go.Ab
noncomputable def wZ:Code:=(Tryz.f44.body).getD .skip
def DN:Nat→Option (List Nat):=fun i=>none
def D1:Nat→Bool:=fun i=>false
def xg(g:Nat→AV)(x0 x1:AV)(H:ad)(Q:AV→ad→Prop):Prop :=
 aL (zac H 2 25 x0) fun v1 H1 =>
 aL (zac H1 3 29 x1) fun v2 H2 =>
 aL (zah H2 4 81) fun v3 H3 =>
 ak (zab H3 25 v1) fun v4 =>
 ak (zab H3 29 v2) fun v5 =>
 aL (zaa true H3 11 104 [v4,v5]) fun v6 H4 =>
 ak (zae 42 12 0 v6) fun v7 =>
 br (some v7) (
 ak (zbp 81) fun v8 =>
 aL (zal H4 81 v3 v8) fun v9 H5 =>
 ak (zbt H5 v3 81) fun v10 =>
 Q (.tup [v10,v6]) H5) (
 ak (zad 25 v1 1) fun v8 =>
 ak (zab H4 23 v8) fun v9 =>
 ak (zab H4 29 v2) fun v10 =>
 aL (zaa true H4 20 105 [v9,v10,(.fn (.func 106) [] [])]) fun v11 H5 =>
 ak (zaw v11 0) fun v12 =>
 ak (zaw v11 1) fun v13 =>
 aL (zah H5 7 81) fun v14 H6 =>
 aL (zal H6 81 v14 v12) fun v15 H7 =>
 ak (zbb v13) fun v16 =>
 br (some v16) (
 ak (zab H7 29 v2) fun v17 =>
 ak (zad 81 v14 0) fun v18 =>
 aL (zal H7 29 v18 v17) fun v19 H8 =>
 ak (zab H8 81 v14) fun v20 =>
 aL (zal H8 81 v3 v20) fun v21 H9 =>
 ak (zbt H9 v3 81) fun v22 =>
 Q (.tup [v22,(.v (.int .i64 0))]) H9) (
 ak (zab H7 81 v14) fun v17 =>
 aL (zal H7 81 v3 v17) fun v18 H8 =>
 ak (zbt H8 v3 81) fun v19 =>
 Q (.tup [v19,(.v (.int .i64 0))]) H8))
theorem Dy(x0 x1:AV)(H:ad)(Q:AV→ad→Prop)(h : ∀g,xg g x0 x1 H Q):b7 env Tryz.f44 0 [.code wZ] [(0,x0),(1,x1)] H Q:=⟨fun g=>bc (live:=DN) (cut:=D1) (n:=500) (Eq.mp (by kernel_rfl) (h g))⟩
noncomputable def nG:Code:=(Tryz.f63.body).getD .skip
def uN:Nat→Option (List Nat):=fun i=>none
def uR:Nat→Bool:=fun i=>false
def nH(g:Nat→AV)(x0:AV)(H:ad)(Q:AV→ad→Prop):Prop :=
 aL (zac H 1 25 x0) fun v1 H1 =>
 ak (zad 25 v1 0) fun v2 =>
 ak (zab H1 22 v2) fun v3 =>
 ak (zai H1 5 22 v3) fun v4 =>
 ak (zar 3 5 100 v4) fun v5 =>
 gQ v5 false (zad 25 v1 1) fun v6 =>
 gQ v5 false (zab H1 23 v6) fun v7 =>
 gQ v5 false (zai H1 10 23 v7) fun v8 =>
 gQ v5 false (zar 3 10 100 v8) fun v9 =>
 ak (zam v5 v9) fun v10 =>
 Q v10 H1
theorem uI(x0:AV)(H:ad)(Q:AV→ad→Prop)(h : ∀g,nH g x0 H Q):b7 env Tryz.f63 0 [.code nG] [(0,x0)] H Q:=⟨fun g=>bc (live:=uN) (cut:=uR) (n:=500) (Eq.mp (by kernel_rfl) (h g))⟩
noncomputable def lJ:Code:=(Tryz.f102.body).getD .skip
noncomputable def lX:List Item:=(cE 3 400 [.code lJ]).getD []
noncomputable def lW:List Item:=(cE 8 400 [.code lJ]).getD []
noncomputable def ld:List Item:=(cE 14 400 [.code lJ]).getD []
def nI:Nat→Option (List Nat):=fun i=>cond (Nat.beq i 3) (some [27,3,25,1,26]) (cond (Nat.beq i 8) (some [40,1,3,38,39]) (cond (Nat.beq i 14) (some [87,8,85,1,3,86]) (none)))
def nL:Nat→Bool:=fun i=>false
def xi(g:Nat→AV)(x0:AV)(H:ad)(Q:AV→ad→Prop):Prop :=
 aL (zac H 1 25 x0) fun v1 H1 =>
 ak (zad 25 v1 0) fun v2 =>
 ak (zab H1 22 v2) fun v3 =>
 ak (zai H1 13 22 v3) fun v4 =>
 ak (zaz 3 13 8 v4) fun v5 =>
 ak (zad 25 v1 1) fun v6 =>
 ak (zab H1 23 v6) fun v7 =>
 ak (zai H1 17 23 v7) fun v8 =>
 ak (zaz 3 17 8 v8) fun v9 =>
 ak (zad 25 v1 2) fun v10 =>
 ak (zab H1 3 v10) fun v11 =>
 aL (zaa false H1 21 167 [v11,(.v (.int .i64 64))]) fun v12 H2 =>
 aL (fu env.P true false H2 (Ref.mk 0 22 (ad.gen H2 0 22) 0) 262 3 (some [(0,v5),(1,v9),(2,v12)])) fun v13 H3 =>
 aL (zaa false H3 23 166 [v13]) fun v14 H4 =>
 ak (zad 25 v1 0) fun v15 =>
 ak (zab H4 22 v15) fun v16 =>
 ak (zai H4 26 22 v16) fun v17 =>
  b7 env Tryz.f102 0 lX [(27,(.v (.int .i64 0))),(3,v14),(25,v16),(1,v1),(26,v17)] H4 Q
theorem Dz(x0:AV)(H:ad)(Q:AV→ad→Prop)(h : ∀g,xi g x0 H Q):b7 env Tryz.f102 0 [.code lJ] [(0,x0)] H Q:=⟨fun g=>bc (live:=nI) (cut:=nL) (n:=500) (Eq.mp (by kernel_rfl) (h g))⟩
def py(g:Nat→AV)(x27 x3 x25 x1 x26:AV)(H:ad)(Q:AV→ad→Prop):Prop :=
 ak (zap 3 27 26 x27 x26) fun v1 =>
 br (some v1) (
 ak (zau H 22 x25 x27) fun v2 =>
 ak (zab H 58 v2) fun v3 =>
 aL (zah H 5 58) fun v4 H1 =>
 aL (zal H1 58 v4 v3) fun v5 H2 =>
 gQ x3 true (zab H2 58 v4) fun v6 =>
 gW x3 true H2 (zaa true H2 34 168 [v6]) fun v7 H3 =>
 ak (zag x3 v7) fun v8 =>
 ak (zaf 3 27 1 x27) fun v9 =>
  b7 env Tryz.f102 0 lX [(27,v9),(3,v8),(25,x25),(1,x1),(26,x26)] H3 Q) (
 ak (zad 25 x1 1) fun v2 =>
 ak (zab H 23 v2) fun v3 =>
 ak (zai H 39 23 v3) fun v4 =>
  b7 env Tryz.f102 0 lW [(40,(.v (.int .i64 0))),(1,x1),(3,x3),(38,v3),(39,v4)] H Q)
theorem tj(x27 x3 x25 x1 x26:AV)(H:ad)(Q:AV→ad→Prop)(h : ∀g,py g x27 x3 x25 x1 x26 H Q):b7 env Tryz.f102 0 lX [(27,x27),(3,x3),(25,x25),(1,x1),(26,x26)] H Q:=dG fun g=>bc (live:=nI) (cut:=nL) (n:=500) (Eq.mp (by kernel_rfl) (h g))
def ia(g:Nat→AV)(x40 x1 x3 x38 x39:AV)(H:ad)(Q:AV→ad→Prop):Prop :=
 ak (zap 3 40 39 x40 x39) fun v1 =>
 br (some v1) (
 ak (zau H 23 x38 x40) fun v2 =>
 ak (zab H 81 v2) fun v3 =>
 aL (zah H 7 81) fun v4 H1 =>
 aL (zal H1 81 v4 v3) fun v5 H2 =>
 gQ x3 true (zad 81 v4 0) fun v6 =>
 gQ x3 true (zab H2 29 v6) fun v7 =>
 gW x3 true H2 (zaa false H2 49 76 [v7]) fun v8 H3 =>
 gQ x3 true (zak 42 49 0 v8) fun v9 =>
 gQ x3 true (zad 81 v4 1) fun v10 =>
 gQ x3 true (zab H3 3 v10) fun v11 =>
 gW x3 true H3 (zaa false H3 53 167 [v11,(.v (.int .i64 64))]) fun v12 H4 =>
 gQ x3 true (zad 81 v4 2) fun v13 =>
 gQ x3 true (zab H4 3 v13) fun v14 =>
 gW x3 true H4 (zaa false H4 56 167 [v14,(.v (.int .i64 256))]) fun v15 H5 =>
 gQ x3 true (zad 81 v4 3) fun v16 =>
 gQ x3 true (zab H5 3 v16) fun v17 =>
 gW x3 true H5 (zaa false H5 59 167 [v17,(.v (.int .i64 4096))]) fun v18 H6 =>
 gQ x3 true (zbj x40) fun v19 =>
 gQ x3 true (zak 3 60 0 v19) fun v20 =>
 gQ x3 true (zbj v20) fun v21 =>
 gQ v21 false (zad 25 x1 1) fun v22 =>
 gQ v21 false (zab H6 23 v22) fun v23 =>
 gQ v21 false (zbj x40) fun v24 =>
 gQ v21 false (zax 3 65 1 v24) fun v25 =>
 gQ v21 false (aU env.P true (ad.get H6) (Ref.mk 0 67 (ad.gen H6 0 67) 0) .max #[3,3] [v25,(.v (.int .i64 0))]) fun v26 =>
 gQ v21 false (zau H6 23 v23 v26) fun v27 =>
 gQ v21 false (zad 81 v27 0) fun v28 =>
 gQ v21 false (zab H6 29 v28) fun v29 =>
 gQ v21 false (zad 81 v4 0) fun v30 =>
 gQ v21 false (zab H6 29 v30) fun v31 =>
 gW v21 false H6 (zaa false H6 73 169 [v29,v31]) fun v32 H7 =>
 gQ x3 true (zam v21 v32) fun v33 =>
 gW x3 true H7 (fu env.P true false H7 (Ref.mk 0 75 (ad.gen H7 0 75) 0) 262 5 (some [(0,v9),(1,v12),(2,v15),(3,v18),(4,v33)])) fun v34 H8 =>
 gW x3 true H8 (zaa false H8 76 166 [v34]) fun v35 H9 =>
 ak (zag x3 v35) fun v36 =>
 ak (zaf 3 40 1 x40) fun v37 =>
  b7 env Tryz.f102 0 lW [(40,v37),(1,x1),(3,v36),(38,x38),(39,x39)] H9 Q) (
 ak (zad 25 x1 1) fun v2 =>
 ak (zab H 23 v2) fun v3 =>
 ak (zad 25 x1 1) fun v4 =>
 ak (zab H 23 v4) fun v5 =>
 ak (zai H 83 23 v5) fun v6 =>
 ak (aU env.P false (ad.get H) (Ref.mk 0 84 (ad.gen H 0 84) 0) .min #[3,3] [v6,(.v (.int .i64 8))]) fun v7 =>
 ak (zbh H 23 v3 v7) fun v8 =>
 ak (zai H 86 23 v8) fun v9 =>
  b7 env Tryz.f102 0 ld [(87,(.v (.int .i64 0))),(8,(.v (.int .i64 0))),(85,v8),(1,x1),(3,x3),(86,v9)] H Q)
theorem ti(x40 x1 x3 x38 x39:AV)(H:ad)(Q:AV→ad→Prop)(h : ∀g,ia g x40 x1 x3 x38 x39 H Q):b7 env Tryz.f102 0 lW [(40,x40),(1,x1),(3,x3),(38,x38),(39,x39)] H Q:=dG fun g=>bc (live:=nI) (cut:=nL) (n:=500) (Eq.mp (by kernel_rfl) (h g))
def nX(g:Nat→AV)(x87 x8 x85 x1 x3 x86:AV)(H:ad)(Q:AV→ad→Prop):Prop :=
 ak (zap 3 87 86 x87 x86) fun v1 =>
 br (some v1) (
 ak (zau H 23 x85 x87) fun v2 =>
 ak (zab H 81 v2) fun v3 =>
 aL (zah H 10 81) fun v4 H1 =>
 aL (zal H1 81 v4 v3) fun v5 H2 =>
 ak (zad 81 v4 3) fun v6 =>
 ak (zab H2 3 v6) fun v7 =>
 ak (aU env.P false (ad.get H2) (Ref.mk 0 94 (ad.gen H2 0 94) 0) .max #[3,3] [v7,(.v (.int .i64 0))]) fun v8 =>
 ak (aU env.P false (ad.get H2) (Ref.mk 0 95 (ad.gen H2 0 95) 0) .min #[3,3] [v8,(.v (.int .i64 4096))]) fun v9 =>
 ak (zbf 3 91 95 x8 v9) fun v10 =>
 ak (zaf 3 87 1 x87) fun v11 =>
  b7 env Tryz.f102 0 ld [(87,v11),(8,v10),(85,x85),(1,x1),(3,x3),(86,x86)] H2 Q) (
 ak (zbb x3) fun v2 =>
 gQ v2 false (zab H 25 x1) fun v3 =>
 gW v2 false H (zaa true H 102 103 [v3]) fun v4 H1 =>
 gQ v2 false (zar 3 102 2048 v4) fun v5 =>
 ak (zam v2 v5) fun v6 =>
 gQ v6 false (zbj x8) fun v7 =>
 gQ v6 false (zar 3 106 8192 v7) fun v8 =>
 ak (zam v6 v8) fun v9 =>
 br (some v9) (
 Q (.v (.int .i64 8)) H1) (
 Q (.v (.int .i64 0)) H1))
theorem rI(x87 x8 x85 x1 x3 x86:AV)(H:ad)(Q:AV→ad→Prop)(h : ∀g,nX g x87 x8 x85 x1 x3 x86 H Q):b7 env Tryz.f102 0 ld [(87,x87),(8,x8),(85,x85),(1,x1),(3,x3),(86,x86)] H Q:=dG fun g=>bc (live:=nI) (cut:=nL) (n:=500) (Eq.mp (by kernel_rfl) (h g))
noncomputable def p8:Code:=(Tryz.f103.body).getD .skip
noncomputable def lb:List Item:=(cE 3 400 [.code p8]).getD []
def vp:Nat→Option (List Nat):=fun i=>cond (Nat.beq i 3) (some [11,3,9,10]) (none)
def vG:Nat→Bool:=fun i=>false
def vV(g:Nat→AV)(x0:AV)(H:ad)(Q:AV→ad→Prop):Prop :=
 aL (zac H 1 25 x0) fun v1 H1 =>
 ak (zad 25 v1 2) fun v2 =>
 ak (zab H1 3 v2) fun v3 =>
 ak (zad 25 v1 1) fun v4 =>
 ak (zab H1 23 v4) fun v5 =>
 ak (zai H1 10 23 v5) fun v6 =>
  b7 env Tryz.f103 0 lb [(11,(.v (.int .i64 0))),(3,v3),(9,v5),(10,v6)] H1 Q
theorem Ce(x0:AV)(H:ad)(Q:AV→ad→Prop)(h : ∀g,vV g x0 H Q):b7 env Tryz.f103 0 [.code p8] [(0,x0)] H Q:=⟨fun g=>bc (live:=vp) (cut:=vG) (n:=500) (Eq.mp (by kernel_rfl) (h g))⟩
def nW(g:Nat→AV)(x11 x3 x9 x10:AV)(H:ad)(Q:AV→ad→Prop):Prop :=
 ak (zap 3 11 10 x11 x10) fun v1 =>
 br (some v1) (
 ak (zau H 23 x9 x11) fun v2 =>
 ak (zab H 81 v2) fun v3 =>
 aL (zah H 5 81) fun v4 H1 =>
 aL (zal H1 81 v4 v3) fun v5 H2 =>
 ak (zad 81 v4 1) fun v6 =>
 ak (zab H2 3 v6) fun v7 =>
 ak (zad 81 v4 2) fun v8 =>
 ak (zab H2 3 v8) fun v9 =>
 ak (zbz 3 4 19 v9) fun v10 =>
 ak (zbf 3 17 20 v7 v10) fun v11 =>
 ak (zbf 3 15 21 x3 v11) fun v12 =>
 ak (zaf 3 11 1 x11) fun v13 =>
  b7 env Tryz.f103 0 lb [(11,v13),(3,v12),(9,x9),(10,x10)] H2 Q) (
 Q x3 H)
theorem rH(x11 x3 x9 x10:AV)(H:ad)(Q:AV→ad→Prop)(h : ∀g,nW g x11 x3 x9 x10 H Q):b7 env Tryz.f103 0 lb [(11,x11),(3,x3),(9,x9),(10,x10)] H Q:=dG fun g=>bc (live:=vp) (cut:=vG) (n:=500) (Eq.mp (by kernel_rfl) (h g))
noncomputable def wY:Code:=(Tryz.f104.body).getD .skip
def DM:Nat→Option (List Nat):=fun i=>none
def D0:Nat→Bool:=fun i=>false
def xf(g:Nat→AV)(x0 x1:AV)(H:ad)(Q:AV→ad→Prop):Prop :=
 aL (zac H 2 25 x0) fun v1 H1 =>
 aL (zac H1 3 29 x1) fun v2 H2 =>
 ak (zab H2 25 v1) fun v3 =>
 aL (zaa false H2 6 102 [v3]) fun v4 H3 =>
 ak (zab H3 29 v2) fun v5 =>
 aL (zaa false H3 8 76 [v5]) fun v6 H4 =>
 ak (zcj H4 9 42 42 v4 v6) fun v7 =>
 Q v7 H4
theorem Dx(x0 x1:AV)(H:ad)(Q:AV→ad→Prop)(h : ∀g,xf g x0 x1 H Q):b7 env Tryz.f104 0 [.code wY] [(0,x0),(1,x1)] H Q:=⟨fun g=>bc (live:=DM) (cut:=D0) (n:=500) (Eq.mp (by kernel_rfl) (h g))⟩
noncomputable def dU:Code:=(Tryz.f105.body).getD .skip
def gI:Nat→Option (List Nat):=fun i=>none
def gJ:Nat→Bool:=fun i=>false
def dW(g:Nat→AV)(x0 x1 x2:AV)(H:ad)(Q:AV→ad→Prop):Prop :=
 aL (zac H 4 29 x1) fun v1 H1 =>
 aL (zac H1 5 180 x2) fun v2 H2 =>
 aL (zah H2 6 81) fun v3 H3 =>
 ak (fp (.func 171) (some []) (some [v2,v1])) fun v4 =>
 aL (zaa true H3 11 170 [x0,v4]) fun v5 H4 =>
 ak (zas 3 12 0 v5) fun v6 =>
 br (some v6) (
 ak (zab H4 81 v3) fun v7 =>
 aL (zal H4 81 v3 v7) fun v8 H5 =>
 ak (zbt H5 v3 81) fun v9 =>
 Q (.tup [v9,(.v (.bool false))]) H5) (
 ak (zau H4 23 x0 v5) fun v7 =>
 ak (zab H4 81 v7) fun v8 =>
 aL (zal H4 81 v3 v8) fun v9 H5 =>
 ak (zbt H5 v3 81) fun v10 =>
 Q (.tup [v10,(.v (.bool true))]) H5)
theorem gE(x0 x1 x2:AV)(H:ad)(Q:AV→ad→Prop)(h : ∀g,dW g x0 x1 x2 H Q):b7 env Tryz.f105 0 [.code dU] [(0,x0),(1,x1),(2,x2)] H Q:=⟨fun g=>bc (live:=gI) (cut:=gJ) (n:=500) (Eq.mp (by kernel_rfl) (h g))⟩
noncomputable def tJ:Code:=(Tryz.f106.body).getD .skip
def A8:Nat→Option (List Nat):=fun i=>none
def BD:Nat→Bool:=fun i=>false
def ug(g:Nat→AV)(x0:AV)(H:ad)(Q:AV→ad→Prop):Prop :=
 aL (zac H 1 81 x0) fun v1 H1 =>
 aL (zah H1 2 29) fun v2 H2 =>
 ak (zad 81 v1 0) fun v3 =>
 ak (zab H2 29 v3) fun v4 =>
 aL (zal H2 29 v2 v4) fun v5 H3 =>
 ak (zbt H3 v2 29) fun v6 =>
 Q v6 H3
theorem At(x0:AV)(H:ad)(Q:AV→ad→Prop)(h : ∀g,ug g x0 H Q):b7 env Tryz.f106 0 [.code tJ] [(0,x0)] H Q:=⟨fun g=>bc (live:=A8) (cut:=BD) (n:=500) (Eq.mp (by kernel_rfl) (h g))⟩
noncomputable def yr:Code:=(Tryz.f160.body).getD .skip
def Fg:Nat→Option (List Nat):=fun i=>none
def FU:Nat→Bool:=fun i=>false
def yF(g:Nat→AV)(x0:AV)(H:ad)(Q:AV→ad→Prop):Prop :=
 aL (zac H 1 25 x0) fun v1 H1 =>
 aL (zah H1 2 25) fun v2 H2 =>
 ak (zad 25 v1 0) fun v3 =>
 ak (zab H2 22 v3) fun v4 =>
 aL (zaa false H2 5 205 [v4]) fun v5 H3 =>
 ak (zad 25 v1 1) fun v6 =>
 ak (zab H3 23 v6) fun v7 =>
 aL (zaa false H3 8 206 [v7]) fun v8 H4 =>
 ak (zad 25 v1 0) fun v9 =>
 aL (zal H4 22 v9 v5) fun v10 H5 =>
 ak (zad 25 v1 1) fun v11 =>
 aL (zal H5 23 v11 v8) fun v12 H6 =>
 ak (zab H6 25 v1) fun v13 =>
 aL (zal H6 25 v2 v13) fun v14 H7 =>
 ak (zbt H7 v2 25) fun v15 =>
 Q v15 H7
theorem Ey(x0:AV)(H:ad)(Q:AV→ad→Prop)(h : ∀g,yF g x0 H Q):b7 env Tryz.f160 0 [.code yr] [(0,x0)] H Q:=⟨fun g=>bc (live:=Fg) (cut:=FU) (n:=500) (Eq.mp (by kernel_rfl) (h g))⟩
noncomputable def zD:Code:=(Tryz.f166.body).getD .skip
def GP:Nat→Option (List Nat):=fun i=>none
def G4:Nat→Bool:=fun i=>false
def zN(g:Nat→AV)(x0:AV)(H:ad)(Q:AV→ad→Prop):Prop :=
 aL (zaa true H 4 212 [x0,(.v (.bool false))]) fun v1 H1 =>
 ak (zbb v1) fun v2 =>
 Q v2 H1
theorem Gs(x0:AV)(H:ad)(Q:AV→ad→Prop)(h : ∀g,zN g x0 H Q):b7 env Tryz.f166 0 [.code zD] [(0,x0)] H Q:=⟨fun g=>bc (live:=GP) (cut:=G4) (n:=500) (Eq.mp (by kernel_rfl) (h g))⟩
noncomputable def yn:Code:=(Tryz.f167.body).getD .skip
def Ff:Nat→Option (List Nat):=fun i=>none
def FT:Nat→Bool:=fun i=>false
def yE(g:Nat→AV)(x0 x1:AV)(H:ad)(Q:AV→ad→Prop):Prop :=
 ak (zaq 3 5 0 x0) fun v1 =>
 gQ v1 true (zbj x0) fun v2 =>
 gQ v1 true (zbj x1) fun v3 =>
 gQ v1 true (zcn 3 8 9 v2 v3) fun v4 =>
 ak (zag v1 v4) fun v5 =>
 Q v5 H
theorem Ex(x0 x1:AV)(H:ad)(Q:AV→ad→Prop)(h : ∀g,yE g x0 x1 H Q):b7 env Tryz.f167 0 [.code yn] [(0,x0),(1,x1)] H Q:=⟨fun g=>bc (live:=Ff) (cut:=FT) (n:=500) (Eq.mp (by kernel_rfl) (h g))⟩
noncomputable def wX:Code:=(Tryz.f168.body).getD .skip
def DL:Nat→Option (List Nat):=fun i=>none
def DZ:Nat→Bool:=fun i=>false
def xe(g:Nat→AV)(x0:AV)(H:ad)(Q:AV→ad→Prop):Prop :=
 aL (zac H 1 58 x0) fun v1 H1 =>
 ak (zad 58 v1 0) fun v2 =>
 ak (zab H1 29 v2) fun v3 =>
 aL (zaa false H1 5 76 [v3]) fun v4 H2 =>
 ak (zak 42 5 0 v4) fun v5 =>
 gQ v5 true (zad 58 v1 1) fun v6 =>
 gQ v5 true (zab H2 4 v6) fun v7 =>
 gQ v5 true (zbj v7) fun v8 =>
 gQ v8 false (zad 58 v1 0) fun v9 =>
 gQ v8 false (zab H2 29 v9) fun v10 =>
 gW v8 false H2 (zaa false H2 13 185 []) fun v11 H3 =>
 gQ v8 false (zan 29 12 13 v10 v11) fun v12 =>
 gQ v5 true (zam v8 v12) fun v13 =>
 ak (zag v5 v13) fun v14 =>
 Q v14 H3
theorem Dw(x0:AV)(H:ad)(Q:AV→ad→Prop)(h : ∀g,xe g x0 H Q):b7 env Tryz.f168 0 [.code wX] [(0,x0)] H Q:=⟨fun g=>bc (live:=DL) (cut:=DZ) (n:=500) (Eq.mp (by kernel_rfl) (h g))⟩
noncomputable def cq:Code:=(Tryz.f170.body).getD .skip
noncomputable def bK:List Item:=(cE 2 400 [.code cq]).getD []
def da:Nat→Option (List Nat):=fun i=>cond (Nat.beq i 2) (some [8,0,1,7]) (none)
def db:Nat→Bool:=fun i=>false
def dc(g:Nat→AV)(x0 x1:AV)(H:ad)(Q:AV→ad→Prop):Prop :=
 ak (zai H 7 23 x0) fun v1 =>
  b7 env Tryz.f170 0 bK [(8,(.v (.int .i64 0))),(0,x0),(1,x1),(7,v1)] H Q
theorem fk(x0 x1:AV)(H:ad)(Q:AV→ad→Prop)(h : ∀g,dc g x0 x1 H Q):b7 env Tryz.f170 0 [.code cq] [(0,x0),(1,x1)] H Q:=⟨fun g=>bc (live:=da) (cut:=db) (n:=500) (Eq.mp (by kernel_rfl) (h g))⟩
def cm(g:Nat→AV)(x8 x0 x1 x7:AV)(H:ad)(Q:AV→ad→Prop):Prop :=
 ak (zap 3 8 7 x8 x7) fun v1 =>
 br (some v1) (
 ak (zau H 23 x0 x8) fun v2 =>
 ak (zab H 81 v2) fun v3 =>
 aL (zbg H 16 x1 v3) fun v4 H1 =>
 br (some v4) (
 Q x8 H1) (
 ak (zaf 3 8 1 x8) fun v5 =>
  b7 env Tryz.f170 0 bK [(8,v5),(0,x0),(1,x1),(7,x7)] H1 Q)) (
 Q (.v (.int .i64 (-1))) H)
theorem cV(x8 x0 x1 x7:AV)(H:ad)(Q:AV→ad→Prop)(h : ∀g,cm g x8 x0 x1 x7 H Q):b7 env Tryz.f170 0 bK [(8,x8),(0,x0),(1,x1),(7,x7)] H Q:=dG fun g=>bc (live:=da) (cut:=db) (n:=500) (Eq.mp (by kernel_rfl) (h g))
noncomputable def dJ:Code:=(Tryz.f171.body).getD .skip
def gb:Nat→Option (List Nat):=fun i=>none
def gf:Nat→Bool:=fun i=>false
def dK(g:Nat→AV)(x0 x1 x2:AV)(H:ad)(Q:AV→ad→Prop):Prop :=
 aL (zac H 3 81 x0) fun v1 H1 =>
 ak (zab H1 180 x1) fun v2 =>
 ak (zab H1 81 v1) fun v3 =>
 aL (bo env false (bj env) (bO env 0) H1 (Ref.mk 0 7 (ad.gen H1 0 7) 0) (some v2) [v3]) fun v4 H2 =>
 ak (zab H2 29 x2) fun v5 =>
 ak (zan 29 7 8 v4 v5) fun v6 =>
 Q v6 H2
theorem fZ(x0 x1 x2:AV)(H:ad)(Q:AV→ad→Prop)(h : ∀g,dK g x0 x1 x2 H Q):b7 env Tryz.f171 0 [.code dJ] [(0,x0),(1,x1),(2,x2)] H Q:=⟨fun g=>bc (live:=gb) (cut:=gf) (n:=500) (Eq.mp (by kernel_rfl) (h g))⟩
noncomputable def zE:Code:=(Tryz.f174.body).getD .skip
def GQ:Nat→Option (List Nat):=fun i=>none
def G5:Nat→Bool:=fun i=>false
def zO(g:Nat→AV)(x0 x1 x2:AV)(H:ad)(Q:AV→ad→Prop):Prop :=
 aL (zac H 3 25 x0) fun v1 H1 =>
 aL (zac H1 5 29 x2) fun v2 H2 =>
 ak (zab H2 25 v1) fun v3 =>
 ak (zab H2 29 v2) fun v4 =>
 aL (zaa true H2 12 104 [v3,v4]) fun v5 H3 =>
 ak (zae 42 13 0 v5) fun v6 =>
 br (some v6) (
 Q (.tup [(.v (.bool false)),v5]) H3) (
 ak (zas 3 16 0 x1) fun v7 =>
 gQ v7 false (zbj x1) fun v8 =>
 gQ v7 false (zad 25 v1 0) fun v9 =>
 gQ v7 false (zab H3 22 v9) fun v10 =>
 gQ v7 false (zai H3 22 22 v10) fun v11 =>
 gQ v7 false (zbm 3 19 22 v8 v11) fun v12 =>
 ak (zam v7 v12) fun v13 =>
 br (some v13) (
 Q (.tup [(.v (.bool false)),(.v (.int .i64 0))]) H3) (
 ak (zad 25 v1 0) fun v14 =>
 ak (zab H3 22 v14) fun v15 =>
 ak (zau H3 22 v15 x1) fun v16 =>
 ak (zab H3 58 v16) fun v17 =>
 aL (zah H3 9 58) fun v18 H4 =>
 aL (zal H4 58 v18 v17) fun v19 H5 =>
 ak (zad 58 v18 1) fun v20 =>
 ak (zab H5 4 v20) fun v21 =>
 gQ v21 true (zab H5 29 v2) fun v22 =>
 gQ v21 true (zad 58 v18 0) fun v23 =>
 gQ v21 true (zab H5 29 v23) fun v24 =>
 gW v21 true H5 (zaa true H5 36 47 [v22,v24]) fun v25 H6 =>
 ak (zag v21 v25) fun v26 =>
 Q (.tup [v26,(.v (.int .i64 0))]) H6))
theorem Gt(x0 x1 x2:AV)(H:ad)(Q:AV→ad→Prop)(h : ∀g,zO g x0 x1 x2 H Q):b7 env Tryz.f174 0 [.code zE] [(0,x0),(1,x1),(2,x2)] H Q:=⟨fun g=>bc (live:=GQ) (cut:=G5) (n:=500) (Eq.mp (by kernel_rfl) (h g))⟩
noncomputable def bU:Code:=(Tryz.f205.body).getD .skip
def fQ:Nat→Option (List Nat):=fun i=>none
def fS:Nat→Bool:=fun i=>false
def bW(g:Nat→AV)(x0:AV)(H:ad)(Q:AV→ad→Prop):Prop :=
 ak (zbr 22 3 x0) fun v1 =>
 br (some v1) (
 Q (.v (.slice none 0 0)) H) (
 aL (zcm H 5 22 0) fun v2 H1 =>
 aL (zat H1 7 22 22 v2 x0) fun v3 H2 =>
 Q v3 H2)
theorem cx(x0:AV)(H:ad)(Q:AV→ad→Prop)(h : ∀g,bW g x0 H Q):b7 env Tryz.f205 0 [.code bU] [(0,x0)] H Q:=⟨fun g=>bc (live:=fQ) (cut:=fS) (n:=500) (Eq.mp (by kernel_rfl) (h g))⟩
noncomputable def bT:Code:=(Tryz.f206.body).getD .skip
def fP:Nat→Option (List Nat):=fun i=>none
def fR:Nat→Bool:=fun i=>false
def bV(g:Nat→AV)(x0:AV)(H:ad)(Q:AV→ad→Prop):Prop :=
 ak (zbr 23 3 x0) fun v1 =>
 br (some v1) (
 Q (.v (.slice none 0 0)) H) (
 aL (zcm H 5 23 0) fun v2 H1 =>
 aL (zat H1 7 23 23 v2 x0) fun v3 H2 =>
 Q v3 H2)
theorem cw(x0:AV)(H:ad)(Q:AV→ad→Prop)(h : ∀g,bV g x0 H Q):b7 env Tryz.f206 0 [.code bT] [(0,x0)] H Q:=⟨fun g=>bc (live:=fP) (cut:=fR) (n:=500) (Eq.mp (by kernel_rfl) (h g))⟩
noncomputable def jV:Code:=(Tryz.f212.body).getD .skip
def pF:Nat→Option (List Nat):=fun i=>none
def pI:Nat→Bool:=fun i=>false
def jX(g:Nat→AV)(x0 x1:AV)(H:ad)(Q:AV→ad→Prop):Prop :=
 aL (zaa true H 7 227 [x0,x1]) fun v1 H1 =>
 ak (zaq 3 7 0 v1) fun v2 =>
 Q v2 H1
theorem pD(x0 x1:AV)(H:ad)(Q:AV→ad→Prop)(h : ∀g,jX g x0 x1 H Q):b7 env Tryz.f212 0 [.code jV] [(0,x0),(1,x1)] H Q:=⟨fun g=>bc (live:=pF) (cut:=pI) (n:=500) (Eq.mp (by kernel_rfl) (h g))⟩
noncomputable def im:Code:=(Tryz.f227.body).getD .skip
noncomputable def eV:List Item:=(cE 2 400 [.code im]).getD []
def lG:Nat→Option (List Nat):=fun i=>cond (Nat.beq i 2) (some [8,0,1,7]) (none)
def lH:Nat→Bool:=fun i=>false
def lM(g:Nat→AV)(x0 x1:AV)(H:ad)(Q:AV→ad→Prop):Prop :=
 ak (zai H 7 262 x0) fun v1 =>
  b7 env Tryz.f227 0 eV [(8,(.v (.int .i64 0))),(0,x0),(1,x1),(7,v1)] H Q
theorem qK(x0 x1:AV)(H:ad)(Q:AV→ad→Prop)(h : ∀g,lM g x0 x1 H Q):b7 env Tryz.f227 0 [.code im] [(0,x0),(1,x1)] H Q:=⟨fun g=>bc (live:=lG) (cut:=lH) (n:=500) (Eq.mp (by kernel_rfl) (h g))⟩
def gx(g:Nat→AV)(x8 x0 x1 x7:AV)(H:ad)(Q:AV→ad→Prop):Prop :=
 ak (zap 3 8 7 x8 x7) fun v1 =>
 br (some v1) (
 ak (zau H 262 x0 x8) fun v2 =>
 ak (zab H 4 v2) fun v3 =>
 ak (zan 4 11 15 x1 v3) fun v4 =>
 br (some v4) (
 Q x8 H) (
 ak (zaf 3 8 1 x8) fun v5 =>
  b7 env Tryz.f227 0 eV [(8,v5),(0,x0),(1,x1),(7,x7)] H Q)) (
 Q (.v (.int .i64 (-1))) H)
theorem kj(x8 x0 x1 x7:AV)(H:ad)(Q:AV→ad→Prop)(h : ∀g,gx g x8 x0 x1 x7 H Q):b7 env Tryz.f227 0 eV [(8,x8),(0,x0),(1,x1),(7,x7)] H Q:=dG fun g=>bc (live:=lG) (cut:=lH) (n:=500) (Eq.mp (by kernel_rfl) (h g))
end Go.Proofs.YtmkmimgokagimaaGreat
