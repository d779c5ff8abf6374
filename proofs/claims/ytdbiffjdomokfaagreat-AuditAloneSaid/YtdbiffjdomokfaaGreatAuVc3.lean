/-
  What is to be shown of each function, computed from its code. No statement of a seat is proved here.
-/
import Derived.Test.YtdbiffjdomokfaaGreatAuTy
set_option linter.unusedVariables false
set_option maxRecDepth 1000000
namespace Go.Proofs.YtdbiffjdomokfaaGreat
open Go.Ab
noncomputable def iQ:Code:=(Tryz.f82.body).getD .skip
def np:Nat→Option (List Nat):=fun i=>none
def nA:Nat→Bool:=fun i=>false
def cy(g:Nat→AV)(x0:AV)(H:ab)(Q:AV→ab→Prop):Prop :=
 aO (zac H 1 140 x0) fun v1 H1 =>
 ak (zad 140 v1 0) fun v2 =>
 ak (zad 56 v2 0) fun v3 =>
 ak (zab H1 5 v3) fun v4 =>
 ak (zcm 56 0 v4) fun v5 =>
 aO (zaj H1 4 56) fun v6 H2 =>
 aO (zam H2 56 v6 v5) fun v7 H3 =>
 ak (zad 140 v1 0) fun v8 =>
 ak (zad 56 v8 0) fun v9 =>
 ak (zab H3 5 v9) fun v10 =>
 ak (zbk 5 12 v10) fun v11 =>
 br (some v11) (
 ak (zad 140 v1 0) fun v12 =>
 ak (zad 56 v12 2) fun v13 =>
 ak (zad 50 v13 1) fun v14 =>
 ak (zab H3 40 v14) fun v15 =>
 ak (zad 140 v1 0) fun v16 =>
 ak (zad 56 v16 1) fun v17 =>
 ak (zab H3 3 v17) fun v18 =>
 ak (zad 56 v6 2) fun v19 =>
 ak (zad 50 v19 1) fun v20 =>
 aO (zam H3 40 v20 v15) fun v21 H4 =>
 ak (zad 56 v6 1) fun v22 =>
 aO (zam H4 3 v22 v18) fun v23 H5 =>
  kH [(v17,v20)] [v20,v22] [] H5 ∧
 (ak (zad 140 v1 0) fun v24 =>
 ak (zad 56 v24 2) fun v25 =>
 ak (zad 50 v25 1) fun v26 =>
 ak (zab H5 40 v26) fun v27 =>
 aO (zaa true H5 30 98 [v27]) fun v28 H6 =>
 ak (zbb v28 0) fun v29 =>
 ak (zbb v28 1) fun v30 =>
 ak (zad 140 v1 0) fun v31 =>
 ak (zad 56 v31 1) fun v32 =>
 ak (zab H6 3 v32) fun v33 =>
 ak (zan 3 35 0 v33) fun v34 =>
 gQ v34 true (zad 140 v1 0) fun v35 =>
 gQ v34 true (zad 56 v35 1) fun v36 =>
 gQ v34 true (zab H6 3 v36) fun v37 =>
 gQ v34 true (zay 3 40 255 v37) fun v38 =>
 ak (zag v34 v38) fun v39 =>
 ak (zad 140 v1 0) fun v40 =>
 ak (zad 56 v40 1) fun v41 =>
 ak (zab H6 3 v41) fun v42 =>
 ak (zaw H6 47 3 5 v42) fun v43 =>
 aO (zax H6 48 137 1 0 v43) fun v44 H7 =>
 aO (zat H7 49 137 137 v29 v44) fun v45 H8 =>
 ak (zad 140 v1 0) fun v46 =>
 ak (zad 56 v46 0) fun v47 =>
 ak (zab H8 5 v47) fun v48 =>
 aO (zax H8 111 137 1 0 v48) fun v49 H9 =>
 aO (zat H9 113 137 137 v49 v45) fun v50 H10 =>
 gQ v39 true (zbj v30) fun v51 =>
 gQ v39 true (zai 23 116 0 v51) fun v52 =>
 ak (zag v39 v52) fun v53 =>
 gQ v53 true (zad 140 v1 0) fun v54 =>
 gQ v53 true (zab H10 56 v54) fun v55 =>
 gQ v53 true (zab H10 56 v6) fun v56 =>
 gW v53 true H10 (zaa true H10 123 102 [v55,v56]) fun v57 H11 =>
 ak (zag v53 v57) fun v58 =>
 Q (.tup [v50,v58]) H11)) (
 ak (aE env.P .eql 5 (Operand.tmp 12) (.const (.int .u8 2)) (some v10) (some (a8 2))) fun v12 =>
 br (some v12) (
 ak (zad 140 v1 0) fun v13 =>
 ak (zad 56 v13 2) fun v14 =>
 ak (zab H3 50 v14) fun v15 =>
 ak (zad 140 v1 0) fun v16 =>
 ak (zad 56 v16 3) fun v17 =>
 ak (zab H3 23 v17) fun v18 =>
 ak (zad 56 v6 2) fun v19 =>
 aO (zam H3 50 v19 v15) fun v20 H4 =>
 ak (zad 56 v6 3) fun v21 =>
 aO (zam H4 23 v21 v18) fun v22 H5 =>
  kH [(v17,v19)] [v19,v21] [] H5 ∧
 (ak (zad 140 v1 0) fun v23 =>
 ak (zad 56 v23 2) fun v24 =>
 ak (zab H5 50 v24) fun v25 =>
 aO (zaa true H5 64 99 [v25]) fun v26 H6 =>
 ak (zbb v26 0) fun v27 =>
 ak (zbb v26 1) fun v28 =>
 ak (zad 140 v1 0) fun v29 =>
 ak (zad 56 v29 2) fun v30 =>
 ak (zab H6 50 v30) fun v31 =>
 aO (zaa true H6 70 100 [v31]) fun v32 H7 =>
 gQ v32 true (zad 140 v1 0) fun v33 =>
 gQ v32 true (zad 56 v33 3) fun v34 =>
 gQ v32 true (zab H7 23 v34) fun v35 =>
 gQ v32 true (zan 23 74 0 v35) fun v36 =>
 ak (zag v32 v36) fun v37 =>
 gQ v37 true (zad 140 v1 0) fun v38 =>
 gQ v37 true (zad 56 v38 3) fun v39 =>
 gQ v37 true (zab H7 23 v39) fun v40 =>
 gQ v37 true (zas 23 80 65536 v40) fun v41 =>
 ak (zag v37 v41) fun v42 =>
 ak (zad 140 v1 0) fun v43 =>
 ak (zad 56 v43 3) fun v44 =>
 ak (zab H7 23 v44) fun v45 =>
 ak (zbt 23 85 v45) fun v46 =>
 ak (zaw H7 87 23 5 v46) fun v47 =>
 ak (zad 140 v1 0) fun v48 =>
 ak (zad 56 v48 3) fun v49 =>
 ak (zab H7 23 v49) fun v50 =>
 ak (zaw H7 91 23 5 v50) fun v51 =>
 aO (fa env.P false true H7 (Ref.mk 0 92 (ab.gen H7 0 92) 0) 137 2 (some [(0,v47),(1,v51)])) fun v52 H8 =>
 aO (zat H8 94 137 137 v52 v27) fun v53 H9 =>
 ak (zad 140 v1 0) fun v54 =>
 ak (zad 56 v54 0) fun v55 =>
 ak (zab H9 5 v55) fun v56 =>
 aO (zax H9 111 137 1 0 v56) fun v57 H10 =>
 aO (zat H10 113 137 137 v57 v53) fun v58 H11 =>
 gQ v42 true (zbj v28) fun v59 =>
 gQ v42 true (zai 23 116 0 v59) fun v60 =>
 ak (zag v42 v60) fun v61 =>
 gQ v61 true (zad 140 v1 0) fun v62 =>
 gQ v61 true (zab H11 56 v62) fun v63 =>
 gQ v61 true (zab H11 56 v6) fun v64 =>
 gW v61 true H11 (zaa true H11 123 102 [v63,v64]) fun v65 H12 =>
 ak (zag v61 v65) fun v66 =>
 Q (.tup [v58,v66]) H12)) (
 ak (zbo 5 12 v10) fun v13 =>
 br (some v13) (
 ak (zad 140 v1 0) fun v14 =>
 ak (zad 56 v14 4) fun v15 =>
 ak (zab H3 54 v15) fun v16 =>
 ak (zad 56 v6 4) fun v17 =>
 aO (zam H3 54 v17 v16) fun v18 H4 =>
 ak (zad 140 v1 0) fun v19 =>
 ak (zad 56 v19 4) fun v20 =>
 ak (zab H4 54 v20) fun v21 =>
 aO (zaa true H4 105 101 [v21]) fun v22 H5 =>
 ak (zbb v22 0) fun v23 =>
 ak (zbb v22 1) fun v24 =>
 ak (zad 140 v1 0) fun v25 =>
 ak (zad 56 v25 0) fun v26 =>
 ak (zab H5 5 v26) fun v27 =>
 aO (zax H5 111 137 1 0 v27) fun v28 H6 =>
 aO (zat H6 113 137 137 v28 v23) fun v29 H7 =>
 gQ (.v (.bool true)) true (zbj v24) fun v30 =>
 gQ (.v (.bool true)) true (zai 23 116 0 v30) fun v31 =>
 ak (bq (some (AV.v (Value.bool true))) (some v31) (some (AV.v (Value.bool false)))) fun v32 =>
 gQ v32 true (zad 140 v1 0) fun v33 =>
 gQ v32 true (zab H7 56 v33) fun v34 =>
 gQ v32 true (zab H7 56 v6) fun v35 =>
 gW v32 true H7 (zaa true H7 123 102 [v34,v35]) fun v36 H8 =>
 ak (zag v32 v36) fun v37 =>
 Q (.tup [v29,v37]) H8) (
 ak (zad 140 v1 0) fun v14 =>
 ak (zad 56 v14 0) fun v15 =>
 ak (zab H3 5 v15) fun v16 =>
 aO (zax H3 111 137 1 0 v16) fun v17 H4 =>
 aO (cS env.P true H4 (Ref.mk 0 113 (ab.gen H4 0 113) 0) (some 137) (some 137) v17 (.v (.slice none 0 0))) fun v18 H5 =>
 gQ (.v (.bool false)) true (cF (some (AV.v (Value.int IntKind.i64 0)))) fun v19 =>
 gQ (.v (.bool false)) true (zai 23 116 0 v19) fun v20 =>
 ak (bq (some (AV.v (Value.bool false))) (some v20) (some (AV.v (Value.bool false)))) fun v21 =>
 gQ v21 true (zad 140 v1 0) fun v22 =>
 gQ v21 true (zab H5 56 v22) fun v23 =>
 gQ v21 true (zab H5 56 v6) fun v24 =>
 gW v21 true H5 (zaa true H5 123 102 [v23,v24]) fun v25 H6 =>
 ak (zag v21 v25) fun v26 =>
 Q (.tup [v18,v26]) H6)))
theorem ng(x0:AV)(H:ab)(Q:AV→ab→Prop)(h : ∀g,cy g x0 H Q):bT env Tryz.f82 0 [.code iQ] [(0,x0)] H Q:=⟨fun g=>aX (live:=np) (cut:=nA) (n:=500) (Eq.mp (by kernel_rfl) (h g))⟩
noncomputable def eS:Code:=(Tryz.f120.body).getD .skip
noncomputable def dF:List Item:=(b7 3 400 [.code eS]).getD []
noncomputable def dw:List Item:=(b7 11 400 [.code eS]).getD []
def gD:Nat→Option (List Nat):=fun i=>cond (Nat.beq i 3) (some [11,3,9,0,10]) (cond (Nat.beq i 11) (some [27,6,25,26]) (none))
def gE:Nat→Bool:=fun i=>false
def kg(g:Nat→AV)(x0:AV)(H:ab)(Q:AV→ab→Prop):Prop :=
 ak (zah H 10 209 x0) fun v1 =>
  bT env Tryz.f120 0 dF [(11,(.v (.int .i64 0))),(3,(.v (.int .i64 0))),(9,x0),(0,x0),(10,v1)] H Q
theorem pa(x0:AV)(H:ab)(Q:AV→ab→Prop)(h : ∀g,kg g x0 H Q):bT env Tryz.f120 0 [.code eS] [(0,x0)] H Q:=⟨fun g=>aX (live:=gD) (cut:=gE) (n:=500) (Eq.mp (by kernel_rfl) (h g))⟩
def fO(g:Nat→AV)(x11 x3 x9 x0 x10:AV)(H:ab)(Q:AV→ab→Prop):Prop :=
 ak (zao 3 11 10 x11 x10) fun v1 =>
 br (some v1) (
 ak (zau H 209 x9 x11) fun v2 =>
 ak (zab H 137 v2) fun v3 =>
 ak (zah H 17 137 v3) fun v4 =>
 ak (zbd 3 15 17 x3 v4) fun v5 =>
 ak (zas 3 19 0 v5) fun v6 =>
 br (some v6) (
 ak (oL env.P 9 (some (.v (.string ⟨#[108,101,110,32,111,117,116,32,111,102,32,114,97,110,103,101]⟩)))) fun v7 =>
 ak (none) fun v8 =>
 ak (zae 3 11 1 x11) fun v9 =>
  bT env Tryz.f120 0 dF [(11,v9),(3,v5),(9,x9),(0,x0),(10,x10)] H Q) (
 ak (zae 3 11 1 x11) fun v7 =>
  bT env Tryz.f120 0 dF [(11,v7),(3,v5),(9,x9),(0,x0),(10,x10)] H Q)) (
 aO (zaa true H 24 138 [(.v (.slice none 0 0)),x3]) fun v2 H1 =>
 ak (zah H1 26 209 x0) fun v3 =>
  bT env Tryz.f120 0 dw [(27,(.v (.int .i64 0))),(6,v2),(25,x0),(26,v3)] H1 Q)
theorem jA(x11 x3 x9 x0 x10:AV)(H:ab)(Q:AV→ab→Prop)(h : ∀g,fO g x11 x3 x9 x0 x10 H Q):bT env Tryz.f120 0 dF [(11,x11),(3,x3),(9,x9),(0,x0),(10,x10)] H Q:=dx fun g=>aX (live:=gD) (cut:=gE) (n:=500) (Eq.mp (by kernel_rfl) (h g))
def eB(g:Nat→AV)(x27 x6 x25 x26:AV)(H:ab)(Q:AV→ab→Prop):Prop :=
 ak (zao 3 27 26 x27 x26) fun v1 =>
 br (some v1) (
 ak (zau H 209 x25 x27) fun v2 =>
 ak (zab H 137 v2) fun v3 =>
 aO (zat H 33 137 137 x6 v3) fun v4 H1 =>
 ak (zae 3 27 1 x27) fun v5 =>
  bT env Tryz.f120 0 dw [(27,v5),(6,v4),(25,x25),(26,x26)] H1 Q) (
 Q x6 H)
theorem je(x27 x6 x25 x26:AV)(H:ab)(Q:AV→ab→Prop)(h : ∀g,eB g x27 x6 x25 x26 H Q):bT env Tryz.f120 0 dw [(27,x27),(6,x6),(25,x25),(26,x26)] H Q:=dx fun g=>aX (live:=gD) (cut:=gE) (n:=500) (Eq.mp (by kernel_rfl) (h g))
noncomputable def lf:Code:=(Tryz.f138.body).getD .skip
def pR:Nat→Option (List Nat):=fun i=>none
def pW:Nat→Bool:=fun i=>false
def lg(g:Nat→AV)(x0 x1:AV)(H:ab)(Q:AV→ab→Prop):Prop :=
 ak (zas 3 5 0 x1) fun v1 =>
 br (some v1) (
 ak (oL env.P 9 (some (.v (.string ⟨#[99,97,110,110,111,116,32,98,101,32,110,101,103,97,116,105,118,101]⟩)))) fun v2 =>
 ak (none) fun v3 =>
 ak (zbu H 10 137 x0) fun v4 =>
 ak (zah H 12 137 x0) fun v5 =>
 ak (zbh 3 10 12 v4 v5) fun v6 =>
 ak (zbh 3 8 13 x1 v6) fun v7 =>
 ak (zar 3 15 0 v7) fun v8 =>
 br (some v8) (
 ak (zbu H 19 137 x0) fun v9 =>
 ak (zbf H 137 x0 v9) fun v10 =>
 aO (zat H 22 137 3 v10 v7) fun v11 H1 =>
 ak (zah H1 24 137 x0) fun v12 =>
 ak (zbf H1 137 v11 v12) fun v13 =>
 Q v13 H1) (
 Q x0 H)) (
 ak (zbu H 10 137 x0) fun v2 =>
 ak (zah H 12 137 x0) fun v3 =>
 ak (zbh 3 10 12 v2 v3) fun v4 =>
 ak (zbh 3 8 13 x1 v4) fun v5 =>
 ak (zar 3 15 0 v5) fun v6 =>
 br (some v6) (
 ak (zbu H 19 137 x0) fun v7 =>
 ak (zbf H 137 x0 v7) fun v8 =>
 aO (zat H 22 137 3 v8 v5) fun v9 H1 =>
 ak (zah H1 24 137 x0) fun v10 =>
 ak (zbf H1 137 v9 v10) fun v11 =>
 Q v11 H1) (
 Q x0 H))
theorem pM(x0 x1:AV)(H:ab)(Q:AV→ab→Prop)(h : ∀g,lg g x0 x1 H Q):bT env Tryz.f138 0 [.code lf] [(0,x0),(1,x1)] H Q:=⟨fun g=>aX (live:=pR) (cut:=pW) (n:=500) (Eq.mp (by kernel_rfl) (h g))⟩
noncomputable def xc:Code:=(Tryz.f159.body).getD .skip
def DS:Nat→Option (List Nat):=fun i=>none
def D3:Nat→Bool:=fun i=>false
def o7(g:Nat→AV)(x0 x1:AV)(H:ab)(Q:AV→ab→Prop):Prop :=
 aO (zac H 3 50 x1) fun v1 H1 =>
 aO (zaa true H1 9 168 [x0]) fun v2 H2 =>
 ak (zaf 23 10 0 v2) fun v3 =>
 br (some v3) (
 Q (.tup [(.v (.bool false)),v2]) H2) (
 ak (zab H2 50 v1) fun v4 =>
 aO (zaa true H2 14 115 [v4]) fun v5 H3 =>
 ak (zaf 23 15 0 v5) fun v6 =>
 br (some v6) (
 Q (.tup [(.v (.bool false)),v5]) H3) (
 ak (zab H3 50 v1) fun v7 =>
 aO (zaa true H3 20 169 [x0,v7]) fun v8 H4 =>
 Q (.tup [v8,(.v (.int .i64 0))]) H4))
theorem Dx(x0 x1:AV)(H:ab)(Q:AV→ab→Prop)(h : ∀g,o7 g x0 x1 H Q):bT env Tryz.f159 0 [.code xc] [(0,x0),(1,x1)] H Q:=⟨fun g=>aX (live:=DS) (cut:=D3) (n:=500) (Eq.mp (by kernel_rfl) (h g))⟩
noncomputable def qF:Code:=(Tryz.f168.body).getD .skip
noncomputable def lQ:List Item:=(b7 4 400 [.code qF]).getD []
def vd:Nat→Option (List Nat):=fun i=>cond (Nat.beq i 4) (some [10,0,8,9]) (none)
def vv:Nat→Bool:=fun i=>false
def qO(g:Nat→AV)(x0:AV)(H:ab)(Q:AV→ab→Prop):Prop :=
 ak (zah H 6 90 x0) fun v1 =>
 ak (zar 3 6 2048 v1) fun v2 =>
 br (some v2) (
 Q (.v (.int .i64 4)) H) (
 ak (zah H 9 90 x0) fun v3 =>
  bT env Tryz.f168 0 lQ [(10,(.v (.int .i64 0))),(0,x0),(8,x0),(9,v3)] H Q)
theorem BH(x0:AV)(H:ab)(Q:AV→ab→Prop)(h : ∀g,qO g x0 H Q):bT env Tryz.f168 0 [.code qF] [(0,x0)] H Q:=⟨fun g=>aX (live:=vd) (cut:=vv) (n:=500) (Eq.mp (by kernel_rfl) (h g))⟩
def jV(g:Nat→AV)(x10 x0 x8 x9:AV)(H:ab)(Q:AV→ab→Prop):Prop :=
 ak (zao 3 10 9 x10 x9) fun v1 =>
 br (some v1) (
 ak (zau H 90 x8 x10) fun v2 =>
 ak (zab H 50 v2) fun v3 =>
 aO (zaj H 4 50) fun v4 H1 =>
 aO (zam H1 50 v4 v3) fun v5 H2 =>
 ak (zab H2 50 v4) fun v6 =>
 aO (zaa false H2 16 115 [v6]) fun v7 H3 =>
 ak (zaf 23 16 0 v7) fun v8 =>
 gQ v8 false (zbj x0) fun v9 =>
 gQ v8 false (zbj x10) fun v10 =>
 gQ v8 false (zbf H3 90 v9 v10) fun v11 =>
 gQ v8 false (zab H3 50 v4) fun v12 =>
 gW v8 false H3 (zaa false H3 23 169 [v11,v12]) fun v13 H4 =>
 gQ v8 false (zbg v13) fun v14 =>
 ak (zal v8 v14) fun v15 =>
 br (some v15) (
 Q (.v (.int .i64 8)) H4) (
 ak (zae 3 10 1 x10) fun v16 =>
  bT env Tryz.f168 0 lQ [(10,v16),(0,x0),(8,x8),(9,x9)] H4 Q)) (
 Q (.v (.int .i64 0)) H)
theorem sw(x10 x0 x8 x9:AV)(H:ab)(Q:AV→ab→Prop)(h : ∀g,jV g x10 x0 x8 x9 H Q):bT env Tryz.f168 0 lQ [(10,x10),(0,x0),(8,x8),(9,x9)] H Q:=dx fun g=>aX (live:=vd) (cut:=vv) (n:=500) (Eq.mp (by kernel_rfl) (h g))
noncomputable def sh:Code:=(Tryz.f169.body).getD .skip
noncomputable def mK:List Item:=(b7 5 400 [.code sh]).getD []
def wR:Nat→Option (List Nat):=fun i=>cond (Nat.beq i 5) (some [21,3,0,5,20]) (none)
def wV:Nat→Bool:=fun i=>false
def sk(g:Nat→AV)(x0 x1:AV)(H:ab)(Q:AV→ab→Prop):Prop :=
 aO (zac H 3 50 x1) fun v1 H1 =>
 ak (zad 50 v1 0) fun v2 =>
 ak (zab H1 5 v2) fun v3 =>
 ak (aE env.P .neq 5 (Operand.tmp 10) (.const (.int .u8 3)) (some v3) (some (a8 3))) fun v4 =>
 br (some v4) (
 Q (.v (.bool true)) H1) (
 ak (zad 50 v1 1) fun v5 =>
 ak (zad 40 v5 0) fun v6 =>
 ak (zab H1 35 v6) fun v7 =>
 ak (zad 50 v1 5) fun v8 =>
 ak (zab H1 35 v8) fun v9 =>
 aO (zaa true H1 17 20 [v7,v9]) fun v10 H2 =>
 ak (zad 50 v1 3) fun v11 =>
 ak (zad 47 v11 1) fun v12 =>
 ak (zab H2 3 v12) fun v13 =>
  bT env Tryz.f169 0 mK [(21,(.v (.int .i64 0))),(3,v1),(0,x0),(5,v10),(20,v13)] H2 Q)
theorem Dw(x0 x1:AV)(H:ab)(Q:AV→ab→Prop)(h : ∀g,sk g x0 x1 H Q):bT env Tryz.f169 0 [.code sh] [(0,x0),(1,x1)] H Q:=⟨fun g=>aX (live:=wR) (cut:=wV) (n:=500) (Eq.mp (by kernel_rfl) (h g))⟩
def kT(g:Nat→AV)(x21 x3 x0 x5 x20:AV)(H:ab)(Q:AV→ab→Prop):Prop :=
 ak (zao 3 21 20 x21 x20) fun v1 =>
 br (some v1) (
 ak (zad 50 x3 3) fun v2 =>
 ak (zab H 47 v2) fun v3 =>
 aO (zaa true H 28 145 [v3,x21]) fun v4 H1 =>
 ak (zbb v4 0) fun v5 =>
 ak (zbb v4 1) fun v6 =>
 aO (zaj H1 7 45) fun v7 H2 =>
 aO (zam H2 45 v7 v5) fun v8 H3 =>
 gQ x5 true (zbj x0) fun v9 =>
 gQ x5 true (zab H3 45 v7) fun v10 =>
 gQ x5 true (zad 50 x3 1) fun v11 =>
 gQ x5 true (zad 40 v11 0) fun v12 =>
 gQ x5 true (zab H3 35 v12) fun v13 =>
 gW x5 true H3 (zaa false H3 38 172 [v9,v10,v13]) fun v14 H4 =>
 gQ x5 true (zad 50 x3 1) fun v15 =>
 gQ x5 true (zad 40 v15 0) fun v16 =>
 gQ x5 true (zab H4 35 v16) fun v17 =>
 gW x5 true H4 (zaa false H4 42 171 [v14,v17]) fun v18 H5 =>
 ak (zag x5 v18) fun v19 =>
 ak (zbg v19) fun v20 =>
 br (some v20) (
 Q v19 H5) (
 ak (zae 3 21 1 x21) fun v21 =>
  bT env Tryz.f169 0 mK [(21,v21),(3,x3),(0,x0),(5,v19),(20,x20)] H5 Q)) (
 Q x5 H)
theorem ug(x21 x3 x0 x5 x20:AV)(H:ab)(Q:AV→ab→Prop)(h : ∀g,kT g x21 x3 x0 x5 x20 H Q):bT env Tryz.f169 0 mK [(21,x21),(3,x3),(0,x0),(5,x5),(20,x20)] H Q:=dx fun g=>aX (live:=wR) (cut:=wV) (n:=500) (Eq.mp (by kernel_rfl) (h g))
noncomputable def de:Code:=(Tryz.f171.body).getD .skip
def fk:Nat→Option (List Nat):=fun i=>none
def fl:Nat→Bool:=fun i=>false
def df(g:Nat→AV)(x0 x1:AV)(H:ab)(Q:AV→ab→Prop):Prop :=
 aO (zac H 3 35 x1) fun v1 H1 =>
 ak (zab H1 35 v1) fun v2 =>
 aO (zaa true H1 7 173 [x0,v2]) fun v3 H2 =>
 ak (zan 3 7 0 v3) fun v4 =>
 Q v4 H2
theorem fj(x0 x1:AV)(H:ab)(Q:AV→ab→Prop)(h : ∀g,df g x0 x1 H Q):bT env Tryz.f171 0 [.code de] [(0,x0),(1,x1)] H Q:=⟨fun g=>aX (live:=fk) (cut:=fl) (n:=500) (Eq.mp (by kernel_rfl) (h g))⟩
noncomputable def sg:Code:=(Tryz.f172.body).getD .skip
noncomputable def gX:List Item:=(jK 10003 400 [.code sg]).getD []
noncomputable def dM:Code:=rfA gX
noncomputable def dL:Code:=rfB gX
noncomputable def pL:List Item:=rfK gX
def rX:Nat→Option (List Nat):=fun i=>cond (Nat.beq i 10003) (some [16,7]) (none)
def sb:Nat→Bool:=fun i=>false
def xk(g:Nat→AV)(x0 x1 x2:AV)(H:ab)(Q:AV→ab→Prop):Prop :=
 aO (zac H 4 45 x1) fun v1 H1 =>
 aO (zac H1 5 35 x2) fun v2 H2 =>
 ak (zad 45 v1 0) fun v3 =>
 ak (zad 40 v3 0) fun v4 =>
 ak (zab H2 35 v4) fun v5 =>
 aO (zax H2 12 193 1 0 v5) fun v6 H3 =>
 aO (zaj H3 7 193) fun v7 H4 =>
 aO (zam H4 193 v7 v6) fun v8 H5 =>
 ak (zab H5 45 v1) fun v9 =>
 ak (zab H5 35 v2) fun v10 =>
 aO (zaa true H5 16 174 [x0,v9,v10]) fun v11 H6 =>
  bT env Tryz.f172 0 gX [(16,v11),(7,v7)] H6 Q
theorem Dv(x0 x1 x2:AV)(H:ab)(Q:AV→ab→Prop)(h : ∀g,xk g x0 x1 x2 H Q):bT env Tryz.f172 0 [.code sg] [(0,x0),(1,x1),(2,x2)] H Q:=⟨fun g=>aX (live:=rX) (cut:=sb) (n:=500) (Eq.mp (by kernel_rfl) (h g))⟩
def px(g:Nat→AV)(x7:AV)(H:ab)(Q:AV→ab→Prop):Prop :=
 ak (zab H 193 x7) fun v1 =>
 Q v1 H
theorem uR(x7:AV)(H:ab)(Q:AV→ab→Prop)(h : ∀g,px g x7 H Q):bT env Tryz.f172 0 pL [(7,x7)] H Q:=⟨fun g=>aX (live:=rX) (cut:=sb) (n:=500) (Eq.mp (by kernel_rfl) (h g))⟩
def hZ(r:Ref)(g:Nat→AV)(x7 x17:AV)(H:ab)(Q:AV→ab→Prop):Prop :=
 aO (bm H (⟨2,8,ab.gen H 2 8,0⟩:Ref) (bY env.P (⟨2,8,ab.gen H 2 8,0⟩:Ref) 35)) fun v1 H1 =>
 aO (zam H1 35 v1 x17) fun v2 H2 =>
  bgP (tE H2 r) fun i3 =>
 ak (aj env.P (ab.get (ab.put H2 r (some (iC 1 i3)))) 193 (some x7)) fun v4 =>
 ak (aj env.P (ab.get (ab.put H2 r (some (iC 1 i3)))) 35 (some v1)) fun v5 =>
 aO (bo env true (bj env) (bV env 2) (ab.put H2 r (some (iC 1 i3))) (⟨2,20,ab.gen (ab.put H2 r (some (iC 1 i3))) 2 20,0⟩:Ref) (some (.fn (.func 171) [] [])) [v4,v5]) fun v6 H3 =>
 ak (zbg v6) fun v7 =>
 br (some v7) (
 ak (zab H3 193 x7) fun v8 =>
 ak (zab H3 35 v1) fun v9 =>
 aO (fa env.P false true H3 (⟨2,24,ab.gen H3 2 24,0⟩:Ref) 193 1 (some [(0,v9)])) fun v10 H4 =>
 aO (cS env.P true H4 (⟨2,25,ab.gen H4 2 25,0⟩:Ref) (some 193) (some 193) v8 v10) fun v11 H5 =>
 aO (zam H5 193 x7 v11) fun v12 H6 =>
 Q (.v (.int .i64 0)) H6) (
 Q (.v (.int .i64 0)) H3)
theorem wC(r:Ref)(x7 x17:AV)(H:ab)(Q:AV→ab→Prop)(h : ∀g,hZ r g x7 x17 H Q):Rm env Tryz.f172 (some r) 2 [.code dM,.beginRound,.code dL] [(7,x7),(17,x17)] H Q:=⟨fun g=>aX (live:=rX) (cut:=sb) (n:=500) (Eq.mp (by kernel_rfl) (h g))⟩
noncomputable def cb:Code:=(Tryz.f173.body).getD .skip
noncomputable def bE:List Item:=(b7 2 400 [.code cb]).getD []
def dE:Nat→Option (List Nat):=fun i=>cond (Nat.beq i 2) (some [8,0,3,7]) (none)
def dG:Nat→Bool:=fun i=>false
def dH(g:Nat→AV)(x0 x1:AV)(H:ab)(Q:AV→ab→Prop):Prop :=
 aO (zac H 3 35 x1) fun v1 H1 =>
 ak (zah H1 7 193 x0) fun v2 =>
  bT env Tryz.f173 0 bE [(8,(.v (.int .i64 0))),(0,x0),(3,v1),(7,v2)] H1 Q
theorem fI(x0 x1:AV)(H:ab)(Q:AV→ab→Prop)(h : ∀g,dH g x0 x1 H Q):bT env Tryz.f173 0 [.code cb] [(0,x0),(1,x1)] H Q:=⟨fun g=>aX (live:=dE) (cut:=dG) (n:=500) (Eq.mp (by kernel_rfl) (h g))⟩
def bF(g:Nat→AV)(x8 x0 x3 x7:AV)(H:ab)(Q:AV→ab→Prop):Prop :=
 ak (zao 3 8 7 x8 x7) fun v1 =>
 br (some v1) (
 ak (zab H 35 x3) fun v2 =>
 ak (zau H 193 x0 x8) fun v3 =>
 ak (zab H 35 v3) fun v4 =>
 ak (zap 35 11 15 v2 v4) fun v5 =>
 br (some v5) (
 Q x8 H) (
 ak (zae 3 8 1 x8) fun v6 =>
  bT env Tryz.f173 0 bE [(8,v6),(0,x0),(3,x3),(7,x7)] H Q)) (
 Q (.v (.int .i64 (-1))) H)
theorem dp(x8 x0 x3 x7:AV)(H:ab)(Q:AV→ab→Prop)(h : ∀g,bF g x8 x0 x3 x7 H Q):bT env Tryz.f173 0 bE [(8,x8),(0,x0),(3,x3),(7,x7)] H Q:=dx fun g=>aX (live:=dE) (cut:=dG) (n:=500) (Eq.mp (by kernel_rfl) (h g))
noncomputable def uA:Code:=(Tryz.f174.body).getD .skip
def A9:Nat→Option (List Nat):=fun i=>none
def Bg:Nat→Bool:=fun i=>false
def uH(g:Nat→AV)(x0 x1 x2:AV)(H:ab)(Q:AV→ab→Prop):Prop :=
 aO (zac H 3 90 x0) fun v1 H1 =>
 aO (zac H1 4 45 x1) fun v2 H2 =>
 aO (zac H2 5 35 x2) fun v3 H3 =>
 ak (sG (.func 175) (some []) (some [v1,v2,v3])) fun v4 =>
 Q v4 H3
theorem AZ(x0 x1 x2:AV)(H:ab)(Q:AV→ab→Prop)(h : ∀g,uH g x0 x1 x2 H Q):bT env Tryz.f174 0 [.code uA] [(0,x0),(1,x1),(2,x2)] H Q:=⟨fun g=>aX (live:=A9) (cut:=Bg) (n:=500) (Eq.mp (by kernel_rfl) (h g))⟩
noncomputable def n8:Code:=(Tryz.f175.body).getD .skip
noncomputable def jE:List Item:=(b7 1 400 [.code n8]).getD []
def rj:Nat→Option (List Nat):=fun i=>cond (Nat.beq i 1) (some [11,0,3,2,9,10]) (none)
def rA:Nat→Bool:=fun i=>false
def rR(dep:Nat)(g:Nat→AV)(x0 x1 x2 x3:AV)(H:ab)(Q:AV→ab→Prop):Prop :=
 ak (zab H 90 x1) fun v1 =>
 ak (zbc H dep 10 90 v1) fun v2 =>
  bT env Tryz.f175 (dep+1) jE [(11,(.v (.int .i64 0))),(0,x0),(3,x3),(2,x2),(9,v1),(10,v2)] H Q
theorem ya(dep:Nat)(x0 x1 x2 x3:AV)(H:ab)(Q:AV→ab→Prop)(h : ∀g,rR dep g x0 x1 x2 x3 H Q):bT env Tryz.f175 (dep+1) [.code n8] [(0,x0),(1,x1),(2,x2),(3,x3)] H Q:=⟨fun g=>aX (live:=rj) (cut:=rA) (n:=500) (Eq.mp (by kernel_rfl) (h g))⟩
def fB(dep:Nat)(g:Nat→AV)(x11 x0 x3 x2 x9 x10:AV)(H:ab)(Q:AV→ab→Prop):Prop :=
 ak (zao 3 11 10 x11 x10) fun v1 =>
 br (some v1) (
 ak (zau H 90 x9 x11) fun v2 =>
 ak (zab H 50 v2) fun v3 =>
 aO (zaq H dep 6 50) fun v4 H1 =>
 aO (zam H1 50 v4 v3) fun v5 H2 =>
 ak (zad 50 v4 3) fun v6 =>
 ak (zab H2 47 v6) fun v7 =>
 ak (zab H2 45 x2) fun v8 =>
 aO (bo env true (bj env) (bV env (dep+1)) H2 (⟨(dep+1),19,ab.gen H2 (dep+1) 19,0⟩:Ref) (some (.fn (.func 176) [] [])) [v7,v8]) fun v9 H3 =>
 ak (zbb v9 0) fun v10 =>
 ak (zbb v9 1) fun v11 =>
 ak (zad 50 v4 0) fun v12 =>
 ak (zab H3 5 v12) fun v13 =>
 ak (zbo 5 23 v13) fun v14 =>
 gQ v14 true (zbj v11) fun v15 =>
 ak (zag v14 v15) fun v16 =>
 gQ v16 true (zad 50 v4 1) fun v17 =>
 gQ v16 true (zad 40 v17 0) fun v18 =>
 gQ v16 true (zab H3 35 v18) fun v19 =>
 gQ v16 true (zab H3 35 x3) fun v20 =>
 gW v16 true H3 (zcb dep H3 33 v19 v20) fun v21 H4 =>
 ak (zag v16 v21) fun v22 =>
 gQ v22 true (zbj x0) fun v23 =>
 gQ v22 true (zad 50 v4 5) fun v24 =>
 gQ v22 true (zab H4 35 v24) fun v25 =>
 gW v22 true H4 (zbs dep H4 39 v23 v25) fun v26 H5 =>
 gQ v22 true (zbg v26) fun v27 =>
 ak (zag v22 v27) fun v28 =>
 br (some v28) (
 Q (.v (.tuple #[])) H5) (
 ak (zae 3 11 1 x11) fun v29 =>
  bT env Tryz.f175 (dep+1) jE [(11,v29),(0,x0),(3,x3),(2,x2),(9,x9),(10,x10)] H5 Q)) (
 Q (.v (.tuple #[])) H)
theorem pK(dep:Nat)(x11 x0 x3 x2 x9 x10:AV)(H:ab)(Q:AV→ab→Prop)(h : ∀g,fB dep g x11 x0 x3 x2 x9 x10 H Q):bT env Tryz.f175 (dep+1) jE [(11,x11),(0,x0),(3,x3),(2,x2),(9,x9),(10,x10)] H Q:=dx fun g=>aX (live:=rj) (cut:=rA) (n:=500) (Eq.mp (by kernel_rfl) (h g))
end Go.Proofs.YtdbiffjdomokfaaGreat
