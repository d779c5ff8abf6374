/-
  What is to be shown of each function, computed from its code. No statement of a seat is proved here.
-/
import Derived.Test.YtdbiffjdomokfaaGreatAuTy
set_option linter.unusedVariables false
set_option maxRecDepth 1000000
namespace Go.Proofs.YtdbiffjdomokfaaGreat
open Go.Ab
noncomputable def iA:Code:=(Tryz.f82.body).getD .skip
def mE:Nat→Option (List Nat):=fun i=>none
def mJ:Nat→Bool:=fun i=>false
def cq(g:Nat→AV)(x0:AV)(H:ab)(Q:AV→ab→Prop):Prop :=
 aN (Zc H 1 140 x0) fun v1 H1 =>
 ak (Zd 140 v1 0) fun v2 =>
 ak (Zd 56 v2 0) fun v3 =>
 ak (Zb H1 5 v3) fun v4 =>
 ak (Y3 56 0 v4) fun v5 =>
 aN (Zi H1 4 56) fun v6 H2 =>
 aN (Zl H2 56 v6 v5) fun v7 H3 =>
 ak (Zd 140 v1 0) fun v8 =>
 ak (Zd 56 v8 0) fun v9 =>
 ak (Zb H3 5 v9) fun v10 =>
 ak (ZJ 5 12 v10) fun v11 =>
 br (some v11) (
 ak (Zd 140 v1 0) fun v12 =>
 ak (Zd 56 v12 2) fun v13 =>
 ak (Zd 50 v13 1) fun v14 =>
 ak (Zb H3 40 v14) fun v15 =>
 ak (Zd 140 v1 0) fun v16 =>
 ak (Zd 56 v16 1) fun v17 =>
 ak (Zb H3 3 v17) fun v18 =>
 ak (Zd 56 v6 2) fun v19 =>
 ak (Zd 50 v19 1) fun v20 =>
 aN (Zl H3 40 v20 v15) fun v21 H4 =>
 ak (Zd 56 v6 1) fun v22 =>
 aN (Zl H4 3 v22 v18) fun v23 H5 =>
  jS [(v17,v20)] [v20,v22] [] H5 ∧
 (ak (Zd 140 v1 0) fun v24 =>
 ak (Zd 56 v24 2) fun v25 =>
 ak (Zd 50 v25 1) fun v26 =>
 ak (Zb H5 40 v26) fun v27 =>
 aN (Za true H5 30 98 [v27]) fun v28 H6 =>
 ak (ZB v28 0) fun v29 =>
 ak (ZB v28 1) fun v30 =>
 ak (Zd 140 v1 0) fun v31 =>
 ak (Zd 56 v31 1) fun v32 =>
 ak (Zb H6 3 v32) fun v33 =>
 ak (Zm 3 35 0 v33) fun v34 =>
 gQ v34 true (Zd 140 v1 0) fun v35 =>
 gQ v34 true (Zd 56 v35 1) fun v36 =>
 gQ v34 true (Zb H6 3 v36) fun v37 =>
 gQ v34 true (Zy 3 40 255 v37) fun v38 =>
 ak (Zh v34 v38) fun v39 =>
 ak (Zd 140 v1 0) fun v40 =>
 ak (Zd 56 v40 1) fun v41 =>
 ak (Zb H6 3 v41) fun v42 =>
 ak (Zv H6 47 3 5 v42) fun v43 =>
 aN (Zx H6 48 137 1 0 v43) fun v44 H7 =>
 aN (Zr H7 49 137 137 v29 v44) fun v45 H8 =>
 ak (Zd 140 v1 0) fun v46 =>
 ak (Zd 56 v46 0) fun v47 =>
 ak (Zb H8 5 v47) fun v48 =>
 aN (Zx H8 111 137 1 0 v48) fun v49 H9 =>
 aN (Zr H9 113 137 137 v49 v45) fun v50 H10 =>
 gQ v39 true (ZN v30) fun v51 =>
 gQ v39 true (Zg 23 116 0 v51) fun v52 =>
 ak (Zh v39 v52) fun v53 =>
 gQ v53 true (Zd 140 v1 0) fun v54 =>
 gQ v53 true (Zb H10 56 v54) fun v55 =>
 gQ v53 true (Zb H10 56 v6) fun v56 =>
 gW v53 true H10 (Za true H10 123 102 [v55,v56]) fun v57 H11 =>
 ak (Zh v53 v57) fun v58 =>
 Q (.tup [v50,v58]) H11)) (
 ak (aE env.P .eql 5 (Operand.tmp 12) (.const (.int .u8 2)) (some v10) (some (a8 2))) fun v12 =>
 br (some v12) (
 ak (Zd 140 v1 0) fun v13 =>
 ak (Zd 56 v13 2) fun v14 =>
 ak (Zb H3 50 v14) fun v15 =>
 ak (Zd 140 v1 0) fun v16 =>
 ak (Zd 56 v16 3) fun v17 =>
 ak (Zb H3 23 v17) fun v18 =>
 ak (Zd 56 v6 2) fun v19 =>
 aN (Zl H3 50 v19 v15) fun v20 H4 =>
 ak (Zd 56 v6 3) fun v21 =>
 aN (Zl H4 23 v21 v18) fun v22 H5 =>
  jS [(v17,v19)] [v19,v21] [] H5 ∧
 (ak (Zd 140 v1 0) fun v23 =>
 ak (Zd 56 v23 2) fun v24 =>
 ak (Zb H5 50 v24) fun v25 =>
 aN (Za true H5 64 99 [v25]) fun v26 H6 =>
 ak (ZB v26 0) fun v27 =>
 ak (ZB v26 1) fun v28 =>
 ak (Zd 140 v1 0) fun v29 =>
 ak (Zd 56 v29 2) fun v30 =>
 ak (Zb H6 50 v30) fun v31 =>
 aN (Za true H6 70 100 [v31]) fun v32 H7 =>
 gQ v32 true (Zd 140 v1 0) fun v33 =>
 gQ v32 true (Zd 56 v33 3) fun v34 =>
 gQ v32 true (Zb H7 23 v34) fun v35 =>
 gQ v32 true (Zm 23 74 0 v35) fun v36 =>
 ak (Zh v32 v36) fun v37 =>
 gQ v37 true (Zd 140 v1 0) fun v38 =>
 gQ v37 true (Zd 56 v38 3) fun v39 =>
 gQ v37 true (Zb H7 23 v39) fun v40 =>
 gQ v37 true (Zs 23 80 65536 v40) fun v41 =>
 ak (Zh v37 v41) fun v42 =>
 ak (Zd 140 v1 0) fun v43 =>
 ak (Zd 56 v43 3) fun v44 =>
 ak (Zb H7 23 v44) fun v45 =>
 ak (ZT 23 85 v45) fun v46 =>
 ak (Zv H7 87 23 5 v46) fun v47 =>
 ak (Zd 140 v1 0) fun v48 =>
 ak (Zd 56 v48 3) fun v49 =>
 ak (Zb H7 23 v49) fun v50 =>
 ak (Zv H7 91 23 5 v50) fun v51 =>
 aN (eO env.P false true H7 (Ref.mk 0 92 (ab.gen H7 0 92) 0) 137 2 (some [(0,v47),(1,v51)])) fun v52 H8 =>
 aN (Zr H8 94 137 137 v52 v27) fun v53 H9 =>
 ak (Zd 140 v1 0) fun v54 =>
 ak (Zd 56 v54 0) fun v55 =>
 ak (Zb H9 5 v55) fun v56 =>
 aN (Zx H9 111 137 1 0 v56) fun v57 H10 =>
 aN (Zr H10 113 137 137 v57 v53) fun v58 H11 =>
 gQ v42 true (ZN v28) fun v59 =>
 gQ v42 true (Zg 23 116 0 v59) fun v60 =>
 ak (Zh v42 v60) fun v61 =>
 gQ v61 true (Zd 140 v1 0) fun v62 =>
 gQ v61 true (Zb H11 56 v62) fun v63 =>
 gQ v61 true (Zb H11 56 v6) fun v64 =>
 gW v61 true H11 (Za true H11 123 102 [v63,v64]) fun v65 H12 =>
 ak (Zh v61 v65) fun v66 =>
 Q (.tup [v58,v66]) H12)) (
 ak (ZO 5 12 v10) fun v13 =>
 br (some v13) (
 ak (Zd 140 v1 0) fun v14 =>
 ak (Zd 56 v14 4) fun v15 =>
 ak (Zb H3 54 v15) fun v16 =>
 ak (Zd 56 v6 4) fun v17 =>
 aN (Zl H3 54 v17 v16) fun v18 H4 =>
 ak (Zd 140 v1 0) fun v19 =>
 ak (Zd 56 v19 4) fun v20 =>
 ak (Zb H4 54 v20) fun v21 =>
 aN (Za true H4 105 101 [v21]) fun v22 H5 =>
 ak (ZB v22 0) fun v23 =>
 ak (ZB v22 1) fun v24 =>
 ak (Zd 140 v1 0) fun v25 =>
 ak (Zd 56 v25 0) fun v26 =>
 ak (Zb H5 5 v26) fun v27 =>
 aN (Zx H5 111 137 1 0 v27) fun v28 H6 =>
 aN (Zr H6 113 137 137 v28 v23) fun v29 H7 =>
 gQ (.v (.bool true)) true (ZN v24) fun v30 =>
 gQ (.v (.bool true)) true (Zg 23 116 0 v30) fun v31 =>
 ak (bp (some (AV.v (Value.bool true))) (some v31) (some (AV.v (Value.bool false)))) fun v32 =>
 gQ v32 true (Zd 140 v1 0) fun v33 =>
 gQ v32 true (Zb H7 56 v33) fun v34 =>
 gQ v32 true (Zb H7 56 v6) fun v35 =>
 gW v32 true H7 (Za true H7 123 102 [v34,v35]) fun v36 H8 =>
 ak (Zh v32 v36) fun v37 =>
 Q (.tup [v29,v37]) H8) (
 ak (Zd 140 v1 0) fun v14 =>
 ak (Zd 56 v14 0) fun v15 =>
 ak (Zb H3 5 v15) fun v16 =>
 aN (Zx H3 111 137 1 0 v16) fun v17 H4 =>
 aN (cR env.P true H4 (Ref.mk 0 113 (ab.gen H4 0 113) 0) (some 137) (some 137) v17 (.v (.slice none 0 0))) fun v18 H5 =>
 gQ (.v (.bool false)) true (cJ (some (AV.v (Value.int IntKind.i64 0)))) fun v19 =>
 gQ (.v (.bool false)) true (Zg 23 116 0 v19) fun v20 =>
 ak (bp (some (AV.v (Value.bool false))) (some v20) (some (AV.v (Value.bool false)))) fun v21 =>
 gQ v21 true (Zd 140 v1 0) fun v22 =>
 gQ v21 true (Zb H5 56 v22) fun v23 =>
 gQ v21 true (Zb H5 56 v6) fun v24 =>
 gW v21 true H5 (Za true H5 123 102 [v23,v24]) fun v25 H6 =>
 ak (Zh v21 v25) fun v26 =>
 Q (.tup [v18,v26]) H6)))
theorem mz(x0:AV)(H:ab)(Q:AV→ab→Prop)(h : ∀g,cq g x0 H Q):bW env Tryz.f82 0 [.code iA] [(0,x0)] H Q:=⟨fun g=>aY (live:=mE) (cut:=mJ) (n:=500) (Eq.mp (by kernel_rfl) (h g))⟩
noncomputable def eG:Code:=(Tryz.f120.body).getD .skip
noncomputable def dv:List Item:=(cg 3 400 [.code eG]).getD []
noncomputable def de:List Item:=(cg 11 400 [.code eG]).getD []
def ga:Nat→Option (List Nat):=fun i=>cond (Nat.beq i 3) (some [11,3,9,0,10]) (cond (Nat.beq i 11) (some [27,6,25,26]) (none))
def gb:Nat→Bool:=fun i=>false
def jH(g:Nat→AV)(x0:AV)(H:ab)(Q:AV→ab→Prop):Prop :=
 ak (Zk H 10 209 x0) fun v1 =>
  bW env Tryz.f120 0 dv [(11,(.v (.int .i64 0))),(3,(.v (.int .i64 0))),(9,x0),(0,x0),(10,v1)] H Q
theorem og(x0:AV)(H:ab)(Q:AV→ab→Prop)(h : ∀g,jH g x0 H Q):bW env Tryz.f120 0 [.code eG] [(0,x0)] H Q:=⟨fun g=>aY (live:=ga) (cut:=gb) (n:=500) (Eq.mp (by kernel_rfl) (h g))⟩
def fv(g:Nat→AV)(x11 x3 x9 x0 x10:AV)(H:ab)(Q:AV→ab→Prop):Prop :=
 ak (Zo 3 11 10 x11 x10) fun v1 =>
 br (some v1) (
 ak (Zw H 209 x9 x11) fun v2 =>
 ak (Zb H 137 v2) fun v3 =>
 ak (Zk H 17 137 v3) fun v4 =>
 ak (ZC 3 15 17 x3 v4) fun v5 =>
 ak (Zs 3 19 0 v5) fun v6 =>
 br (some v6) (
 ak (nL env.P 9 (some (.v (.string ⟨#[108,101,110,32,111,117,116,32,111,102,32,114,97,110,103,101]⟩)))) fun v7 =>
 ak (none) fun v8 =>
 ak (Ze 3 11 1 x11) fun v9 =>
  bW env Tryz.f120 0 dv [(11,v9),(3,v5),(9,x9),(0,x0),(10,x10)] H Q) (
 ak (Ze 3 11 1 x11) fun v7 =>
  bW env Tryz.f120 0 dv [(11,v7),(3,v5),(9,x9),(0,x0),(10,x10)] H Q)) (
 aN (Za true H 24 138 [(.v (.slice none 0 0)),x3]) fun v2 H1 =>
 ak (Zk H1 26 209 x0) fun v3 =>
  bW env Tryz.f120 0 de [(27,(.v (.int .i64 0))),(6,v2),(25,x0),(26,v3)] H1 Q)
theorem je(x11 x3 x9 x0 x10:AV)(H:ab)(Q:AV→ab→Prop)(h : ∀g,fv g x11 x3 x9 x0 x10 H Q):bW env Tryz.f120 0 dv [(11,x11),(3,x3),(9,x9),(0,x0),(10,x10)] H Q:=dG fun g=>aY (live:=ga) (cut:=gb) (n:=500) (Eq.mp (by kernel_rfl) (h g))
def ef(g:Nat→AV)(x27 x6 x25 x26:AV)(H:ab)(Q:AV→ab→Prop):Prop :=
 ak (Zo 3 27 26 x27 x26) fun v1 =>
 br (some v1) (
 ak (Zw H 209 x25 x27) fun v2 =>
 ak (Zb H 137 v2) fun v3 =>
 aN (Zr H 33 137 137 x6 v3) fun v4 H1 =>
 ak (Ze 3 27 1 x27) fun v5 =>
  bW env Tryz.f120 0 de [(27,v5),(6,v4),(25,x25),(26,x26)] H1 Q) (
 Q x6 H)
theorem iN(x27 x6 x25 x26:AV)(H:ab)(Q:AV→ab→Prop)(h : ∀g,ef g x27 x6 x25 x26 H Q):bW env Tryz.f120 0 de [(27,x27),(6,x6),(25,x25),(26,x26)] H Q:=dG fun g=>aY (live:=ga) (cut:=gb) (n:=500) (Eq.mp (by kernel_rfl) (h g))
noncomputable def kB:Code:=(Tryz.f138.body).getD .skip
def oZ:Nat→Option (List Nat):=fun i=>none
def o6:Nat→Bool:=fun i=>false
def kC(g:Nat→AV)(x0 x1:AV)(H:ab)(Q:AV→ab→Prop):Prop :=
 ak (Zs 3 5 0 x1) fun v1 =>
 br (some v1) (
 ak (nL env.P 9 (some (.v (.string ⟨#[99,97,110,110,111,116,32,98,101,32,110,101,103,97,116,105,118,101]⟩)))) fun v2 =>
 ak (none) fun v3 =>
 ak (ZU H 10 137 x0) fun v4 =>
 ak (Zk H 12 137 x0) fun v5 =>
 ak (ZF 3 10 12 v4 v5) fun v6 =>
 ak (ZF 3 8 13 x1 v6) fun v7 =>
 ak (Zt 3 15 0 v7) fun v8 =>
 br (some v8) (
 ak (ZU H 19 137 x0) fun v9 =>
 ak (ZG H 137 x0 v9) fun v10 =>
 aN (Zr H 22 137 3 v10 v7) fun v11 H1 =>
 ak (Zk H1 24 137 x0) fun v12 =>
 ak (ZG H1 137 v11 v12) fun v13 =>
 Q v13 H1) (
 Q x0 H)) (
 ak (ZU H 10 137 x0) fun v2 =>
 ak (Zk H 12 137 x0) fun v3 =>
 ak (ZF 3 10 12 v2 v3) fun v4 =>
 ak (ZF 3 8 13 x1 v4) fun v5 =>
 ak (Zt 3 15 0 v5) fun v6 =>
 br (some v6) (
 ak (ZU H 19 137 x0) fun v7 =>
 ak (ZG H 137 x0 v7) fun v8 =>
 aN (Zr H 22 137 3 v8 v5) fun v9 H1 =>
 ak (Zk H1 24 137 x0) fun v10 =>
 ak (ZG H1 137 v9 v10) fun v11 =>
 Q v11 H1) (
 Q x0 H))
theorem oU(x0 x1:AV)(H:ab)(Q:AV→ab→Prop)(h : ∀g,kC g x0 x1 H Q):bW env Tryz.f138 0 [.code kB] [(0,x0),(1,x1)] H Q:=⟨fun g=>aY (live:=oZ) (cut:=o6) (n:=500) (Eq.mp (by kernel_rfl) (h g))⟩
noncomputable def vw:Code:=(Tryz.f159.body).getD .skip
def Cj:Nat→Option (List Nat):=fun i=>none
def Cu:Nat→Bool:=fun i=>false
def od(g:Nat→AV)(x0 x1:AV)(H:ab)(Q:AV→ab→Prop):Prop :=
 aN (Zc H 3 50 x1) fun v1 H1 =>
 aN (Za true H1 9 168 [x0]) fun v2 H2 =>
 ak (Zf 23 10 0 v2) fun v3 =>
 br (some v3) (
 Q (.tup [(.v (.bool false)),v2]) H2) (
 ak (Zb H2 50 v1) fun v4 =>
 aN (Za true H2 14 115 [v4]) fun v5 H3 =>
 ak (Zf 23 15 0 v5) fun v6 =>
 br (some v6) (
 Q (.tup [(.v (.bool false)),v5]) H3) (
 ak (Zb H3 50 v1) fun v7 =>
 aN (Za true H3 20 169 [x0,v7]) fun v8 H4 =>
 Q (.tup [v8,(.v (.int .i64 0))]) H4))
theorem B0(x0 x1:AV)(H:ab)(Q:AV→ab→Prop)(h : ∀g,od g x0 x1 H Q):bW env Tryz.f159 0 [.code vw] [(0,x0),(1,x1)] H Q:=⟨fun g=>aY (live:=Cj) (cut:=Cu) (n:=500) (Eq.mp (by kernel_rfl) (h g))⟩
noncomputable def pL:Code:=(Tryz.f168.body).getD .skip
noncomputable def kX:List Item:=(cg 4 400 [.code pL]).getD []
def tE:Nat→Option (List Nat):=fun i=>cond (Nat.beq i 4) (some [10,0,8,9]) (none)
def tS:Nat→Bool:=fun i=>false
def pU(g:Nat→AV)(x0:AV)(H:ab)(Q:AV→ab→Prop):Prop :=
 ak (Zk H 6 90 x0) fun v1 =>
 ak (Zt 3 6 2048 v1) fun v2 =>
 br (some v2) (
 Q (.v (.int .i64 4)) H) (
 ak (Zk H 9 90 x0) fun v3 =>
  bW env Tryz.f168 0 kX [(10,(.v (.int .i64 0))),(0,x0),(8,x0),(9,v3)] H Q)
theorem Ag(x0:AV)(H:ab)(Q:AV→ab→Prop)(h : ∀g,pU g x0 H Q):bW env Tryz.f168 0 [.code pL] [(0,x0)] H Q:=⟨fun g=>aY (live:=tE) (cut:=tS) (n:=500) (Eq.mp (by kernel_rfl) (h g))⟩
def jB(g:Nat→AV)(x10 x0 x8 x9:AV)(H:ab)(Q:AV→ab→Prop):Prop :=
 ak (Zo 3 10 9 x10 x9) fun v1 =>
 br (some v1) (
 ak (Zw H 90 x8 x10) fun v2 =>
 ak (Zb H 50 v2) fun v3 =>
 aN (Zi H 4 50) fun v4 H1 =>
 aN (Zl H1 50 v4 v3) fun v5 H2 =>
 ak (Zb H2 50 v4) fun v6 =>
 aN (Za false H2 16 115 [v6]) fun v7 H3 =>
 ak (Zf 23 16 0 v7) fun v8 =>
 gQ v8 false (ZN x0) fun v9 =>
 gQ v8 false (ZN x10) fun v10 =>
 gQ v8 false (ZG H3 90 v9 v10) fun v11 =>
 gQ v8 false (Zb H3 50 v4) fun v12 =>
 gW v8 false H3 (Za false H3 23 169 [v11,v12]) fun v13 H4 =>
 gQ v8 false (ZH v13) fun v14 =>
 ak (Zn v8 v14) fun v15 =>
 br (some v15) (
 Q (.v (.int .i64 8)) H4) (
 ak (Ze 3 10 1 x10) fun v16 =>
  bW env Tryz.f168 0 kX [(10,v16),(0,x0),(8,x8),(9,x9)] H4 Q)) (
 Q (.v (.int .i64 0)) H)
theorem ra(x10 x0 x8 x9:AV)(H:ab)(Q:AV→ab→Prop)(h : ∀g,jB g x10 x0 x8 x9 H Q):bW env Tryz.f168 0 kX [(10,x10),(0,x0),(8,x8),(9,x9)] H Q:=dG fun g=>aY (live:=tE) (cut:=tS) (n:=500) (Eq.mp (by kernel_rfl) (h g))
noncomputable def qX:Code:=(Tryz.f169.body).getD .skip
noncomputable def lS:List Item:=(cg 5 400 [.code qX]).getD []
def vd:Nat→Option (List Nat):=fun i=>cond (Nat.beq i 5) (some [21,3,0,5,20]) (none)
def vj:Nat→Bool:=fun i=>false
def q0(g:Nat→AV)(x0 x1:AV)(H:ab)(Q:AV→ab→Prop):Prop :=
 aN (Zc H 3 50 x1) fun v1 H1 =>
 ak (Zd 50 v1 0) fun v2 =>
 ak (Zb H1 5 v2) fun v3 =>
 ak (aE env.P .neq 5 (Operand.tmp 10) (.const (.int .u8 3)) (some v3) (some (a8 3))) fun v4 =>
 br (some v4) (
 Q (.v (.bool true)) H1) (
 ak (Zd 50 v1 1) fun v5 =>
 ak (Zd 40 v5 0) fun v6 =>
 ak (Zb H1 35 v6) fun v7 =>
 ak (Zd 50 v1 5) fun v8 =>
 ak (Zb H1 35 v8) fun v9 =>
 aN (Za true H1 17 20 [v7,v9]) fun v10 H2 =>
 ak (Zd 50 v1 3) fun v11 =>
 ak (Zd 47 v11 1) fun v12 =>
 ak (Zb H2 3 v12) fun v13 =>
  bW env Tryz.f169 0 lS [(21,(.v (.int .i64 0))),(3,v1),(0,x0),(5,v10),(20,v13)] H2 Q)
theorem BZ(x0 x1:AV)(H:ab)(Q:AV→ab→Prop)(h : ∀g,q0 g x0 x1 H Q):bW env Tryz.f169 0 [.code qX] [(0,x0),(1,x1)] H Q:=⟨fun g=>aY (live:=vd) (cut:=vj) (n:=500) (Eq.mp (by kernel_rfl) (h g))⟩
def j6(g:Nat→AV)(x21 x3 x0 x5 x20:AV)(H:ab)(Q:AV→ab→Prop):Prop :=
 ak (Zo 3 21 20 x21 x20) fun v1 =>
 br (some v1) (
 ak (Zd 50 x3 3) fun v2 =>
 ak (Zb H 47 v2) fun v3 =>
 aN (Za true H 28 145 [v3,x21]) fun v4 H1 =>
 ak (ZB v4 0) fun v5 =>
 ak (ZB v4 1) fun v6 =>
 aN (Zi H1 7 45) fun v7 H2 =>
 aN (Zl H2 45 v7 v5) fun v8 H3 =>
 gQ x5 true (ZN x0) fun v9 =>
 gQ x5 true (Zb H3 45 v7) fun v10 =>
 gQ x5 true (Zd 50 x3 1) fun v11 =>
 gQ x5 true (Zd 40 v11 0) fun v12 =>
 gQ x5 true (Zb H3 35 v12) fun v13 =>
 gW x5 true H3 (Za false H3 38 172 [v9,v10,v13]) fun v14 H4 =>
 gQ x5 true (Zd 50 x3 1) fun v15 =>
 gQ x5 true (Zd 40 v15 0) fun v16 =>
 gQ x5 true (Zb H4 35 v16) fun v17 =>
 gW x5 true H4 (Za false H4 42 171 [v14,v17]) fun v18 H5 =>
 ak (Zh x5 v18) fun v19 =>
 ak (ZH v19) fun v20 =>
 br (some v20) (
 Q v19 H5) (
 ak (Ze 3 21 1 x21) fun v21 =>
  bW env Tryz.f169 0 lS [(21,v21),(3,x3),(0,x0),(5,v19),(20,x20)] H5 Q)) (
 Q x5 H)
theorem sK(x21 x3 x0 x5 x20:AV)(H:ab)(Q:AV→ab→Prop)(h : ∀g,j6 g x21 x3 x0 x5 x20 H Q):bW env Tryz.f169 0 lS [(21,x21),(3,x3),(0,x0),(5,x5),(20,x20)] H Q:=dG fun g=>aY (live:=vd) (cut:=vj) (n:=500) (Eq.mp (by kernel_rfl) (h g))
noncomputable def cS:Code:=(Tryz.f171.body).getD .skip
def eV:Nat→Option (List Nat):=fun i=>none
def eW:Nat→Bool:=fun i=>false
def cT(g:Nat→AV)(x0 x1:AV)(H:ab)(Q:AV→ab→Prop):Prop :=
 aN (Zc H 3 35 x1) fun v1 H1 =>
 ak (Zb H1 35 v1) fun v2 =>
 aN (Za true H1 7 173 [x0,v2]) fun v3 H2 =>
 ak (Zm 3 7 0 v3) fun v4 =>
 Q v4 H2
theorem eU(x0 x1:AV)(H:ab)(Q:AV→ab→Prop)(h : ∀g,cT g x0 x1 H Q):bW env Tryz.f171 0 [.code cS] [(0,x0),(1,x1)] H Q:=⟨fun g=>aY (live:=eV) (cut:=eW) (n:=500) (Eq.mp (by kernel_rfl) (h g))⟩
noncomputable def qW:Code:=(Tryz.f172.body).getD .skip
noncomputable def gA:List Item:=(jn 10003 400 [.code qW]).getD []
noncomputable def dC:Code:=YX gA
noncomputable def dB:Code:=YW gA
noncomputable def oT:List Item:=YV gA
def qN:Nat→Option (List Nat):=fun i=>cond (Nat.beq i 10003) (some [16,7]) (none)
def qS:Nat→Bool:=fun i=>false
def vF(g:Nat→AV)(x0 x1 x2:AV)(H:ab)(Q:AV→ab→Prop):Prop :=
 aN (Zc H 4 45 x1) fun v1 H1 =>
 aN (Zc H1 5 35 x2) fun v2 H2 =>
 ak (Zd 45 v1 0) fun v3 =>
 ak (Zd 40 v3 0) fun v4 =>
 ak (Zb H2 35 v4) fun v5 =>
 aN (Zx H2 12 193 1 0 v5) fun v6 H3 =>
 aN (Zi H3 7 193) fun v7 H4 =>
 aN (Zl H4 193 v7 v6) fun v8 H5 =>
 ak (Zb H5 45 v1) fun v9 =>
 ak (Zb H5 35 v2) fun v10 =>
 aN (Za true H5 16 174 [x0,v9,v10]) fun v11 H6 =>
  bW env Tryz.f172 0 gA [(16,v11),(7,v7)] H6 Q
theorem BY(x0 x1 x2:AV)(H:ab)(Q:AV→ab→Prop)(h : ∀g,vF g x0 x1 x2 H Q):bW env Tryz.f172 0 [.code qW] [(0,x0),(1,x1),(2,x2)] H Q:=⟨fun g=>aY (live:=qN) (cut:=qS) (n:=500) (Eq.mp (by kernel_rfl) (h g))⟩
def oG(g:Nat→AV)(x7:AV)(H:ab)(Q:AV→ab→Prop):Prop :=
 ak (Zb H 193 x7) fun v1 =>
 Q v1 H
theorem tl(x7:AV)(H:ab)(Q:AV→ab→Prop)(h : ∀g,oG g x7 H Q):bW env Tryz.f172 0 oT [(7,x7)] H Q:=⟨fun g=>aY (live:=qN) (cut:=qS) (n:=500) (Eq.mp (by kernel_rfl) (h g))⟩
def gI(r:Ref)(g:Nat→AV)(x7 x17:AV)(H:ab)(Q:AV→ab→Prop):Prop :=
 aN (bn H (⟨2,8,ab.gen H 2 8,0⟩:Ref) (bV env.P (⟨2,8,ab.gen H 2 8,0⟩:Ref) 35)) fun v1 H1 =>
 aN (Zl H1 35 v1 x17) fun v2 H2 =>
  Yz (sf H2 r) fun i3 =>
 ak (aj env.P (ab.get (ab.put H2 r (some (hZ 1 i3)))) 193 (some x7)) fun v4 =>
 ak (aj env.P (ab.get (ab.put H2 r (some (hZ 1 i3)))) 35 (some v1)) fun v5 =>
 aN (bm env true (bj env) (bR env 2) (ab.put H2 r (some (hZ 1 i3))) (⟨2,20,ab.gen (ab.put H2 r (some (hZ 1 i3))) 2 20,0⟩:Ref) (some (.fn (.func 171) [] [])) [v4,v5]) fun v6 H3 =>
 ak (ZH v6) fun v7 =>
 br (some v7) (
 ak (Zb H3 193 x7) fun v8 =>
 ak (Zb H3 35 v1) fun v9 =>
 aN (eO env.P false true H3 (⟨2,24,ab.gen H3 2 24,0⟩:Ref) 193 1 (some [(0,v9)])) fun v10 H4 =>
 aN (cR env.P true H4 (⟨2,25,ab.gen H4 2 25,0⟩:Ref) (some 193) (some 193) v8 v10) fun v11 H5 =>
 aN (Zl H5 193 x7 v11) fun v12 H6 =>
 Q (.v (.int .i64 0)) H6) (
 Q (.v (.int .i64 0)) H3)
theorem uQ(r:Ref)(x7 x17:AV)(H:ab)(Q:AV→ab→Prop)(h : ∀g,gI r g x7 x17 H Q):OL env Tryz.f172 (some r) 2 [.code dC,.beginRound,.code dB] [(7,x7),(17,x17)] H Q:=⟨fun g=>aY (live:=qN) (cut:=qS) (n:=500) (Eq.mp (by kernel_rfl) (h g))⟩
noncomputable def b7:Code:=(Tryz.f173.body).getD .skip
noncomputable def bz:List Item:=(cg 2 400 [.code b7]).getD []
def du:Nat→Option (List Nat):=fun i=>cond (Nat.beq i 2) (some [8,0,3,7]) (none)
def dw:Nat→Bool:=fun i=>false
def dx(g:Nat→AV)(x0 x1:AV)(H:ab)(Q:AV→ab→Prop):Prop :=
 aN (Zc H 3 35 x1) fun v1 H1 =>
 ak (Zk H1 7 193 x0) fun v2 =>
  bW env Tryz.f173 0 bz [(8,(.v (.int .i64 0))),(0,x0),(3,v1),(7,v2)] H1 Q
theorem fl(x0 x1:AV)(H:ab)(Q:AV→ab→Prop)(h : ∀g,dx g x0 x1 H Q):bW env Tryz.f173 0 [.code b7] [(0,x0),(1,x1)] H Q:=⟨fun g=>aY (live:=du) (cut:=dw) (n:=500) (Eq.mp (by kernel_rfl) (h g))⟩
def bA(g:Nat→AV)(x8 x0 x3 x7:AV)(H:ab)(Q:AV→ab→Prop):Prop :=
 ak (Zo 3 8 7 x8 x7) fun v1 =>
 br (some v1) (
 ak (Zb H 35 x3) fun v2 =>
 ak (Zw H 193 x0 x8) fun v3 =>
 ak (Zb H 35 v3) fun v4 =>
 ak (Zp 35 11 15 v2 v4) fun v5 =>
 br (some v5) (
 Q x8 H) (
 ak (Ze 3 8 1 x8) fun v6 =>
  bW env Tryz.f173 0 bz [(8,v6),(0,x0),(3,x3),(7,x7)] H Q)) (
 Q (.v (.int .i64 (-1))) H)
theorem cX(x8 x0 x3 x7:AV)(H:ab)(Q:AV→ab→Prop)(h : ∀g,bA g x8 x0 x3 x7 H Q):bW env Tryz.f173 0 bz [(8,x8),(0,x0),(3,x3),(7,x7)] H Q:=dG fun g=>aY (live:=du) (cut:=dw) (n:=500) (Eq.mp (by kernel_rfl) (h g))
noncomputable def sU:Code:=(Tryz.f174.body).getD .skip
def zC:Nat→Option (List Nat):=fun i=>none
def zJ:Nat→Bool:=fun i=>false
def s7(g:Nat→AV)(x0 x1 x2:AV)(H:ab)(Q:AV→ab→Prop):Prop :=
 aN (Zc H 3 90 x0) fun v1 H1 =>
 aN (Zc H1 4 45 x1) fun v2 H2 =>
 aN (Zc H2 5 35 x2) fun v3 H3 =>
 ak (rp (.func 175) (some []) (some [v1,v2,v3])) fun v4 =>
 Q v4 H3
theorem zq(x0 x1 x2:AV)(H:ab)(Q:AV→ab→Prop)(h : ∀g,s7 g x0 x1 x2 H Q):bW env Tryz.f174 0 [.code sU] [(0,x0),(1,x1),(2,x2)] H Q:=⟨fun g=>aY (live:=zC) (cut:=zJ) (n:=500) (Eq.mp (by kernel_rfl) (h g))⟩
noncomputable def m9:Code:=(Tryz.f175.body).getD .skip
noncomputable def jh:List Item:=(cg 1 400 [.code m9]).getD []
def qj:Nat→Option (List Nat):=fun i=>cond (Nat.beq i 1) (some [11,0,3,2,9,10]) (none)
def qq:Nat→Bool:=fun i=>false
def qJ(dep:Nat)(g:Nat→AV)(x0 x1 x2 x3:AV)(H:ab)(Q:AV→ab→Prop):Prop :=
 ak (Zb H 90 x1) fun v1 =>
 ak (ZA H dep 10 90 v1) fun v2 =>
  bW env Tryz.f175 (dep+1) jh [(11,(.v (.int .i64 0))),(0,x0),(3,x3),(2,x2),(9,v1),(10,v2)] H Q
theorem wz(dep:Nat)(x0 x1 x2 x3:AV)(H:ab)(Q:AV→ab→Prop)(h : ∀g,qJ dep g x0 x1 x2 x3 H Q):bW env Tryz.f175 (dep+1) [.code m9] [(0,x0),(1,x1),(2,x2),(3,x3)] H Q:=⟨fun g=>aY (live:=qj) (cut:=qq) (n:=500) (Eq.mp (by kernel_rfl) (h g))⟩
def fe(dep:Nat)(g:Nat→AV)(x11 x0 x3 x2 x9 x10:AV)(H:ab)(Q:AV→ab→Prop):Prop :=
 ak (Zo 3 11 10 x11 x10) fun v1 =>
 br (some v1) (
 ak (Zw H 90 x9 x11) fun v2 =>
 ak (Zb H 50 v2) fun v3 =>
 aN (Zq H dep 6 50) fun v4 H1 =>
 aN (Zl H1 50 v4 v3) fun v5 H2 =>
 ak (Zd 50 v4 3) fun v6 =>
 ak (Zb H2 47 v6) fun v7 =>
 ak (Zb H2 45 x2) fun v8 =>
 aN (bm env true (bj env) (bR env (dep+1)) H2 (⟨(dep+1),19,ab.gen H2 (dep+1) 19,0⟩:Ref) (some (.fn (.func 176) [] [])) [v7,v8]) fun v9 H3 =>
 ak (ZB v9 0) fun v10 =>
 ak (ZB v9 1) fun v11 =>
 ak (Zd 50 v4 0) fun v12 =>
 ak (Zb H3 5 v12) fun v13 =>
 ak (ZO 5 23 v13) fun v14 =>
 gQ v14 true (ZN v11) fun v15 =>
 ak (Zh v14 v15) fun v16 =>
 gQ v16 true (Zd 50 v4 1) fun v17 =>
 gQ v16 true (Zd 40 v17 0) fun v18 =>
 gQ v16 true (Zb H3 35 v18) fun v19 =>
 gQ v16 true (Zb H3 35 x3) fun v20 =>
 gW v16 true H3 (Z2 dep H3 33 v19 v20) fun v21 H4 =>
 ak (Zh v16 v21) fun v22 =>
 gQ v22 true (ZN x0) fun v23 =>
 gQ v22 true (Zd 50 v4 5) fun v24 =>
 gQ v22 true (Zb H4 35 v24) fun v25 =>
 gW v22 true H4 (ZS dep H4 39 v23 v25) fun v26 H5 =>
 gQ v22 true (ZH v26) fun v27 =>
 ak (Zh v22 v27) fun v28 =>
 br (some v28) (
 Q (.v (.tuple #[])) H5) (
 ak (Ze 3 11 1 x11) fun v29 =>
  bW env Tryz.f175 (dep+1) jh [(11,v29),(0,x0),(3,x3),(2,x2),(9,x9),(10,x10)] H5 Q)) (
 Q (.v (.tuple #[])) H)
theorem oS(dep:Nat)(x11 x0 x3 x2 x9 x10:AV)(H:ab)(Q:AV→ab→Prop)(h : ∀g,fe dep g x11 x0 x3 x2 x9 x10 H Q):bW env Tryz.f175 (dep+1) jh [(11,x11),(0,x0),(3,x3),(2,x2),(9,x9),(10,x10)] H Q:=dG fun g=>aY (live:=qj) (cut:=qq) (n:=500) (Eq.mp (by kernel_rfl) (h g))
end Go.Proofs.YtdbiffjdomokfaaGreat
