/-
  What is to be shown of each function, computed from its code. No statement of a seat is proved here.
-/
import Derived.Test.YtdbiffjdomokfaaGreatAuTy
set_option linter.unusedVariables false
set_option maxRecDepth 1000000
namespace Go.Proofs.YtdbiffjdomokfaaGreat
open Go.Ab
noncomputable def sQ:Code:=(Tryz.f44.body).getD .skip
def zx:Nat→Option (List Nat):=fun i=>none
def zF:Nat→Bool:=fun i=>false
def sV(g:Nat→AV)(x0:AV)(H:ab)(Q:AV→ab→Prop):Prop :=
 aN (Zc H 1 56 x0) fun v1 H1 =>
 ak (Zb H1 56 v1) fun v2 =>
 ak (Y3 140 0 v2) fun v3 =>
 aN (Za true H1 8 82 [v3]) fun v4 H2 =>
 ak (ZB v4 0) fun v5 =>
 ak (ZB v4 1) fun v6 =>
 ak (ZH v6) fun v7 =>
 br (some v7) (
 Q (.v (.int .i64 8)) H2) (
 Q (.v (.int .i64 0)) H2)
theorem zl(x0:AV)(H:ab)(Q:AV→ab→Prop)(h : ∀g,sV g x0 H Q):bW env Tryz.f44 0 [.code sQ] [(0,x0)] H Q:=⟨fun g=>aY (live:=zx) (cut:=zF) (n:=500) (Eq.mp (by kernel_rfl) (h g))⟩
noncomputable def tY:Code:=(Tryz.f45.body).getD .skip
def AR:Nat→Option (List Nat):=fun i=>none
def Bn:Nat→Bool:=fun i=>false
def uj(g:Nat→AV)(x0:AV)(H:ab)(Q:AV→ab→Prop):Prop :=
 aN (Zc H 1 56 x0) fun v1 H1 =>
 aN (Zi H1 2 56) fun v2 H2 =>
 ak (Zd 56 v1 2) fun v3 =>
 ak (Zb H2 50 v3) fun v4 =>
 aN (Za true H2 5 78 [v4]) fun v5 H3 =>
 ak (Zd 56 v1 2) fun v6 =>
 aN (Zl H3 50 v6 v5) fun v7 H4 =>
 ak (Zb H4 56 v1) fun v8 =>
 aN (Zl H4 56 v2 v8) fun v9 H5 =>
 ak (Y5 H5 v2 56) fun v10 =>
 Q v10 H5
theorem z8(x0:AV)(H:ab)(Q:AV→ab→Prop)(h : ∀g,uj g x0 H Q):bW env Tryz.f45 0 [.code tY] [(0,x0)] H Q:=⟨fun g=>aY (live:=AR) (cut:=Bn) (n:=500) (Eq.mp (by kernel_rfl) (h g))⟩
noncomputable def pK:Code:=(Tryz.f80.body).getD .skip
def A2:Nat→Option (List Nat):=fun i=>none
def Bx:Nat→Bool:=fun i=>false
def jA(g:Nat→AV)(x0 x1:AV)(H:ab)(Q:AV→ab→Prop):Prop :=
 aN (Zc H 2 29 x0) fun v1 H1 =>
 aN (Zc H1 3 54 x1) fun v2 H2 =>
 aN (Zi H2 4 29) fun v3 H3 =>
 ak (Zb H3 29 v1) fun v4 =>
 aN (Za false H3 11 41 [v4]) fun v5 H4 =>
 ak (Zb H4 54 v2) fun v6 =>
 aN (Za false H4 13 96 [v6]) fun v7 H5 =>
 ak (aM env.P true (ab.get H5) (Ref.mk 0 14 (ab.gen H5 0 14) 0) .max #[23,23] [v5,v7]) fun v8 =>
 ak (Zf 23 15 0 v8) fun v9 =>
 br (some v9) (
 ak (ZV 29) fun v10 =>
 aN (Zl H5 29 v3 v10) fun v11 H6 =>
 ak (Y5 H6 v3 29) fun v12 =>
 Q (.tup [v12,v8]) H6) (
 ak (Zb H5 29 v1) fun v10 =>
 ak (Zb H5 54 v2) fun v11 =>
 aN (Za true H5 21 97 [v10,v11]) fun v12 H6 =>
 ak (nZ env.P (some v12) 29 true) fun v13 =>
 ak (ZB v13 0) fun v14 =>
 ak (ZB v13 1) fun v15 =>
 aN (Zi H6 8 29) fun v16 H7 =>
 aN (Zl H7 29 v16 v14) fun v17 H8 =>
 br (some v15) (
 ak (Zb H8 29 v16) fun v18 =>
 aN (Zl H8 29 v3 v18) fun v19 H9 =>
 ak (Y5 H9 v3 29) fun v20 =>
 Q (.tup [v20,(.v (.int .i64 0))]) H9) (
 ak (ZV 29) fun v18 =>
 ak (nZ env.P (some v12) 23 false) fun v19 =>
 aN (Zl H8 29 v3 v18) fun v20 H9 =>
 ak (Y5 H9 v3 29) fun v21 =>
 Q (.tup [v21,v19]) H9))
theorem ti(x0 x1:AV)(H:ab)(Q:AV→ab→Prop)(h : ∀g,jA g x0 x1 H Q):bW env Tryz.f80 0 [.code pK] [(0,x0),(1,x1)] H Q:=⟨fun g=>aY (live:=A2) (cut:=Bx) (n:=500) (Eq.mp (by kernel_rfl) (h g))⟩
noncomputable def ug:Code:=(Tryz.f96.body).getD .skip
def A1:Nat→Option (List Nat):=fun i=>none
def Bw:Nat→Bool:=fun i=>false
def pT(g:Nat→AV)(x0:AV)(H:ab)(Q:AV→ab→Prop):Prop :=
 aN (Zc H 1 54 x0) fun v1 H1 =>
 ak (Zd 54 v1 1) fun v2 =>
 ak (Zd 52 v2 1) fun v3 =>
 ak (Zb H1 4 v3) fun v4 =>
 gQ v4 false (Zd 54 v1 1) fun v5 =>
 gQ v4 false (Zd 52 v5 0) fun v6 =>
 gQ v4 false (Zb H1 35 v6) fun v7 =>
 gW v4 false H1 (Za false H1 11 91 []) fun v8 H2 =>
 gQ v4 false (Zp 35 10 11 v7 v8) fun v9 =>
 ak (Zn v4 v9) fun v10 =>
 ak (Zd 54 v1 0) fun v11 =>
 ak (Zb H2 3 v11) fun v12 =>
 ak (Zs 3 15 0 v12) fun v13 =>
 gQ v13 false (Zd 54 v1 0) fun v14 =>
 gQ v13 false (Zb H2 3 v14) fun v15 =>
 gQ v13 false (Zm 3 19 8 v15) fun v16 =>
 ak (Zn v13 v16) fun v17 =>
 gQ v17 false (Zd 54 v1 1) fun v18 =>
 gQ v17 false (Zd 52 v18 0) fun v19 =>
 gQ v17 false (Zb H2 35 v19) fun v20 =>
 gW v17 false H2 (Za true H2 26 33 [v20]) fun v21 H3 =>
 gQ v17 false (Zf 23 26 0 v21) fun v22 =>
 ak (Zn v17 v22) fun v23 =>
 gQ v23 false (ZN v10) fun v24 =>
 gQ v23 false (ZH v24) fun v25 =>
 ak (Zn v23 v25) fun v26 =>
 br (some v26) (
 Q (.v (.int .i64 8)) H3) (
 Q (.v (.int .i64 0)) H3)
theorem Af(x0:AV)(H:ab)(Q:AV→ab→Prop)(h : ∀g,pT g x0 H Q):bW env Tryz.f96 0 [.code ug] [(0,x0)] H Q:=⟨fun g=>aY (live:=A1) (cut:=Bw) (n:=500) (Eq.mp (by kernel_rfl) (h g))⟩
noncomputable def jt:Code:=(Tryz.f97.body).getD .skip
def A0:Nat→Option (List Nat):=fun i=>none
def Bv:Nat→Bool:=fun i=>false
def jz(g:Nat→AV)(x0 x1:AV)(H:ab)(Q:AV→ab→Prop):Prop :=
 aN (Zc H 2 29 x0) fun v1 H1 =>
 aN (Zc H1 3 54 x1) fun v2 H2 =>
 ak (Zd 54 v2 0) fun v3 =>
 ak (Zb H2 3 v3) fun v4 =>
 ak (Zd 29 v1 0) fun v5 =>
 ak (Zb H2 26 v5) fun v6 =>
 ak (Zk H2 10 26 v6) fun v7 =>
 ak (Z6 3 7 10 v4 v7) fun v8 =>
 br (some v8) (
 ak (nL env.P 23 (some (AV.v (Value.int IntKind.i64 2)))) fun v9 =>
 Q v9 H2) (
 ak (Zd 29 v1 2) fun v9 =>
 ak (Zb H2 3 v9) fun v10 =>
 ak (Zg 3 15 0 v10) fun v11 =>
 br (some v11) (
 ak (nL env.P 23 (some (AV.v (Value.int IntKind.i64 9)))) fun v12 =>
 Q v12 H2) (
 ak (Zb H2 29 v1) fun v12 =>
 aN (Za true H2 19 42 [v12]) fun v13 H3 =>
 aN (Zl H3 29 v1 v13) fun v14 H4 =>
 ak (Zd 29 v1 0) fun v15 =>
 ak (Zb H4 26 v15) fun v16 =>
 ak (Zd 54 v2 0) fun v17 =>
 ak (Zb H4 3 v17) fun v18 =>
 ak (Zd 54 v2 1) fun v19 =>
 ak (Zb H4 52 v19) fun v20 =>
 ak (Zw H4 26 v16 v18) fun v21 =>
 aN (Zl H4 52 v21 v20) fun v22 H5 =>
 ak (Zd 29 v1 2) fun v23 =>
 ak (Zb H5 3 v23) fun v24 =>
 ak (Zu 3 28 1 v24) fun v25 =>
 ak (Zd 29 v1 2) fun v26 =>
 aN (Zl H5 3 v26 v25) fun v27 H6 =>
 ak (Zb H6 29 v1) fun v28 =>
 ak (nL env.P 29 (some v28)) fun v29 =>
 Q v29 H6))
theorem kG(x0 x1:AV)(H:ab)(Q:AV→ab→Prop)(h : ∀g,jz g x0 x1 H Q):bW env Tryz.f97 0 [.code jt] [(0,x0),(1,x1)] H Q:=⟨fun g=>aY (live:=A0) (cut:=Bv) (n:=500) (Eq.mp (by kernel_rfl) (h g))⟩
noncomputable def xL:Code:=(Tryz.f101.body).getD .skip
def D1:Nat→Option (List Nat):=fun i=>none
def Ek:Nat→Bool:=fun i=>false
def sE(g:Nat→AV)(x0:AV)(H:ab)(Q:AV→ab→Prop):Prop :=
 aN (Zc H 1 54 x0) fun v1 H1 =>
 ak (Zb H1 54 v1) fun v2 =>
 aN (Za true H1 9 96 [v2]) fun v3 H2 =>
 ak (Zf 23 10 0 v3) fun v4 =>
 br (some v4) (
 Q (.tup [(.v (.slice none 0 0)),v3]) H2) (
 ak (Zd 54 v1 1) fun v5 =>
 ak (Zd 52 v5 1) fun v6 =>
 ak (Zb H2 4 v6) fun v7 =>
 br (some v7) (
 ak (Zd 54 v1 1) fun v8 =>
 ak (Zd 52 v8 0) fun v9 =>
 ak (Zb H2 35 v9) fun v10 =>
 ak (Y3 40 0 v10) fun v11 =>
 aN (Za true H2 21 98 [v11]) fun v12 H3 =>
 ak (ZB v12 0) fun v13 =>
 ak (ZB v12 1) fun v14 =>
 ak (Zd 54 v1 0) fun v15 =>
 ak (Zb H3 3 v15) fun v16 =>
 ak (Zv H3 26 3 5 v16) fun v17 =>
 aN (eO env.P true false H3 (Ref.mk 0 28 (ab.gen H3 0 28) 0) 137 2 (some [(0,v17),(1,(a8 1))])) fun v18 H4 =>
 ak (Zk H4 31 137 v13) fun v19 =>
 ak (Zu 3 31 1 v19) fun v20 =>
 ak (ZG H4 137 v13 v20) fun v21 =>
 aN (Zr H4 34 137 137 v18 v21) fun v22 H5 =>
 Q (.tup [v22,v14]) H5) (
 ak (Zd 54 v1 1) fun v8 =>
 ak (Zd 52 v8 0) fun v9 =>
 ak (Zb H2 35 v9) fun v10 =>
 ak (Y3 40 0 v10) fun v11 =>
 aN (Za true H2 21 98 [v11]) fun v12 H3 =>
 ak (ZB v12 0) fun v13 =>
 ak (ZB v12 1) fun v14 =>
 ak (Zd 54 v1 0) fun v15 =>
 ak (Zb H3 3 v15) fun v16 =>
 ak (Zv H3 26 3 5 v16) fun v17 =>
 aN (eO env.P true false H3 (Ref.mk 0 28 (ab.gen H3 0 28) 0) 137 2 (some [(0,v17),(1,(a8 0))])) fun v18 H4 =>
 ak (Zk H4 31 137 v13) fun v19 =>
 ak (Zu 3 31 1 v19) fun v20 =>
 ak (ZG H4 137 v13 v20) fun v21 =>
 aN (Zr H4 34 137 137 v18 v21) fun v22 H5 =>
 Q (.tup [v22,v14]) H5))
theorem Dy(x0:AV)(H:ab)(Q:AV→ab→Prop)(h : ∀g,sE g x0 H Q):bW env Tryz.f101 0 [.code xL] [(0,x0)] H Q:=⟨fun g=>aY (live:=D1) (cut:=Ek) (n:=500) (Eq.mp (by kernel_rfl) (h g))⟩
noncomputable def tZ:Code:=(Tryz.f102.body).getD .skip
def AS:Nat→Option (List Nat):=fun i=>none
def Bo:Nat→Bool:=fun i=>false
def jx(g:Nat→AV)(x0 x1:AV)(H:ab)(Q:AV→ab→Prop):Prop :=
 aN (Zc H 2 56 x0) fun v1 H1 =>
 aN (Zc H1 3 56 x1) fun v2 H2 =>
 ak (Zd 56 v1 0) fun v3 =>
 ak (Zb H2 5 v3) fun v4 =>
 ak (Zd 56 v2 0) fun v5 =>
 ak (Zb H2 5 v5) fun v6 =>
 ak (Zp 5 6 8 v4 v6) fun v7 =>
 gQ v7 true (Zd 56 v1 1) fun v8 =>
 gQ v7 true (Zb H2 3 v8) fun v9 =>
 gQ v7 true (Zd 56 v2 1) fun v10 =>
 gQ v7 true (Zb H2 3 v10) fun v11 =>
 gQ v7 true (Zp 3 12 14 v9 v11) fun v12 =>
 ak (Zh v7 v12) fun v13 =>
 gQ v13 true (Zd 56 v1 2) fun v14 =>
 gQ v13 true (Zb H2 50 v14) fun v15 =>
 gQ v13 true (Zd 56 v2 2) fun v16 =>
 gQ v13 true (Zb H2 50 v16) fun v17 =>
 gW v13 true H2 (Za true H2 22 123 [v15,v17]) fun v18 H3 =>
 ak (Zh v13 v18) fun v19 =>
 gQ v19 true (Zd 56 v1 3) fun v20 =>
 gQ v19 true (Zb H3 23 v20) fun v21 =>
 gQ v19 true (Zd 56 v2 3) fun v22 =>
 gQ v19 true (Zb H3 23 v22) fun v23 =>
 gQ v19 true (Zp 23 26 28 v21 v23) fun v24 =>
 ak (Zh v19 v24) fun v25 =>
 gQ v25 true (Zd 56 v1 4) fun v26 =>
 gQ v25 true (Zb H3 54 v26) fun v27 =>
 gQ v25 true (Zd 56 v2 4) fun v28 =>
 gQ v25 true (Zb H3 54 v28) fun v29 =>
 gQ v25 true (Zp 54 33 35 v27 v29) fun v30 =>
 ak (Zh v25 v30) fun v31 =>
 Q v31 H3
theorem z9(x0 x1:AV)(H:ab)(Q:AV→ab→Prop)(h : ∀g,jx g x0 x1 H Q):bW env Tryz.f102 0 [.code tZ] [(0,x0),(1,x1)] H Q:=⟨fun g=>aY (live:=AS) (cut:=Bo) (n:=500) (Eq.mp (by kernel_rfl) (h g))⟩
end Go.Proofs.YtdbiffjdomokfaaGreat
