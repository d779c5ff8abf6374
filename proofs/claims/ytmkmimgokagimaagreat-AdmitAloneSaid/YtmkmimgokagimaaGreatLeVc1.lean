/-
  What is to be shown of each function, computed from its code. No statement of a seat is proved here.
-/
import Derived.Test.YtmkmimgokagimaaGreatLeTy
set_option linter.unusedVariables false
set_option maxRecDepth 1000000
namespace Go.Proofs.YtmkmimgokagimaaGreat
open Go.Ab
noncomputable def wG:Code:=(Tryz.f47.body).getD .skip
def IF:Nat→Option (List Nat):=fun i=>none
def I1:Nat→Bool:=fun i=>false
def wP(g:Nat→AV)(x0 x1:AV)(H:ad)(Q:AV→ad→Prop):Prop :=
 aL (zac H 2 29 x0) fun v1 H1 =>
 aL (zac H1 3 29 x1) fun v2 H2 =>
 ak (zad 29 v1 0) fun v3 =>
 ak (zab H2 5 v3) fun v4 =>
 ak (zad 29 v2 0) fun v5 =>
 ak (zab H2 5 v5) fun v6 =>
 ak (zcn 5 6 8 v4 v6) fun v7 =>
 gQ v7 true (zad 29 v1 1) fun v8 =>
 gQ v7 true (zab H2 27 v8) fun v9 =>
 gQ v7 true (zad 29 v2 1) fun v10 =>
 gQ v7 true (zab H2 27 v10) fun v11 =>
 gQ v7 true (aH env.P .andNot 27 (Operand.tmp 12) (Operand.tmp 14) (some v9) (some v11)) fun v12 =>
 gQ v7 true (aH env.P .eql 27 (Operand.tmp 15) (.const (.int .u32 0)) (some v12) (some (aF 0))) fun v13 =>
 ak (zag v7 v13) fun v14 =>
 Q v14 H2
theorem AB(x0 x1:AV)(H:ad)(Q:AV→ad→Prop)(h : ∀g,wP g x0 x1 H Q):b7 env Tryz.f47 0 [.code wG] [(0,x0),(1,x1)] H Q:=⟨fun g=>bc (live:=IF) (cut:=I1) (n:=500) (Eq.mp (by kernel_rfl) (h g))⟩
noncomputable def sj:Code:=(Tryz.f76.body).getD .skip
def Fl:Nat→Option (List Nat):=fun i=>none
def F0:Nat→Bool:=fun i=>false
def sJ(g:Nat→AV)(x0:AV)(H:ad)(Q:AV→ad→Prop):Prop :=
 aL (zac H 1 29 x0) fun v1 H1 =>
 ak (zad 29 v1 0) fun v2 =>
 ak (zab H1 5 v2) fun v3 =>
 ak (aH env.P .gtr 5 (Operand.tmp 4) (.const (.int .u8 15)) (some v3) (some (a8 15))) fun v4 =>
 br (some v4) (
 Q (.v (.int .i64 8)) H1) (
 Q (.v (.int .i64 0)) H1)
theorem xE(x0:AV)(H:ad)(Q:AV→ad→Prop)(h : ∀g,sJ g x0 H Q):b7 env Tryz.f76 0 [.code sj] [(0,x0)] H Q:=⟨fun g=>bc (live:=Fl) (cut:=F0) (n:=500) (Eq.mp (by kernel_rfl) (h g))⟩
noncomputable def sn:Code:=(Tryz.f91.body).getD .skip
def Aa:Nat→Option (List Nat):=fun i=>none
def Ai:Nat→Bool:=fun i=>false
def sK(g:Nat→AV)(x0:AV)(H:ad)(Q:AV→ad→Prop):Prop :=
 aL (zac H 1 31 x0) fun v1 H1 =>
 ak (zad 31 v1 0) fun v2 =>
 ak (zab H1 29 v2) fun v3 =>
 aL (zaa true H1 5 76 [v3]) fun v4 H2 =>
 ak (zak 42 5 0 v4) fun v5 =>
 gQ v5 true (zad 31 v1 1) fun v6 =>
 gQ v5 true (zab H2 5 v6) fun v7 =>
 gQ v5 true (aH env.P .lss 5 (Operand.tmp 9) (.const (.int .u8 8)) (some v7) (some (a8 8))) fun v8 =>
 ak (zag v5 v8) fun v9 =>
 aL (zaa true H2 12 159 [v9]) fun v10 H3 =>
 Q v10 H3
theorem zY(x0:AV)(H:ad)(Q:AV→ad→Prop)(h : ∀g,sK g x0 H Q):b7 env Tryz.f91 0 [.code sn] [(0,x0)] H Q:=⟨fun g=>bc (live:=Aa) (cut:=Ai) (n:=500) (Eq.mp (by kernel_rfl) (h g))⟩
noncomputable def kE:Code:=(Tryz.f133.body).getD .skip
noncomputable def fV:List Item:=(cE 4 400 [.code kE]).getD []
def oa:Nat→Option (List Nat):=fun i=>cond (Nat.beq i 4) (some [5,1,0]) (none)
def oy:Nat→Bool:=fun i=>false
def kL(g:Nat→AV)(x0 x1:AV)(H:ad)(Q:AV→ad→Prop):Prop :=
 ak (zai H 7 36 x0) fun v1 =>
 ak (zai H 9 36 x1) fun v2 =>
 ak (zav 3 7 9 v1 v2) fun v3 =>
 br (some v3) (
 Q (.v (.bool false)) H) (
  b7 env Tryz.f133 0 fV [(5,(.v (.int .i64 0))),(1,x1),(0,x0)] H Q)
theorem vd(x0 x1:AV)(H:ad)(Q:AV→ad→Prop)(h : ∀g,kL g x0 x1 H Q):b7 env Tryz.f133 0 [.code kE] [(0,x0),(1,x1)] H Q:=⟨fun g=>bc (live:=oa) (cut:=oy) (n:=500) (Eq.mp (by kernel_rfl) (h g))⟩
def fW(g:Nat→AV)(x5 x1 x0:AV)(H:ad)(Q:AV→ad→Prop):Prop :=
 ak (zai H 13 36 x0) fun v1 =>
 ak (zap 3 11 13 x5 v1) fun v2 =>
 br (some v2) (
 ak (zau H 36 x0 x5) fun v3 =>
 ak (zab H 21 v3) fun v4 =>
 ak (zau H 36 x1 x5) fun v5 =>
 ak (zab H 21 v5) fun v6 =>
 ak (zav 21 20 24 v4 v6) fun v7 =>
 br (some v7) (
 Q (.v (.bool false)) H) (
 ak (zaf 3 15 1 x5) fun v8 =>
  b7 env Tryz.f133 0 fV [(5,v8),(1,x1),(0,x0)] H Q)) (
 Q (.v (.bool true)) H)
theorem mX(x5 x1 x0:AV)(H:ad)(Q:AV→ad→Prop)(h : ∀g,fW g x5 x1 x0 H Q):b7 env Tryz.f133 0 fV [(5,x5),(1,x1),(0,x0)] H Q:=dG fun g=>bc (live:=oa) (cut:=oy) (n:=500) (Eq.mp (by kernel_rfl) (h g))
noncomputable def vS:Code:=(Tryz.f135.body).getD .skip
def CB:Nat→Option (List Nat):=fun i=>none
def CS:Nat→Bool:=fun i=>false
def kH(g:Nat→AV)(x0:AV)(H:ad)(Q:AV→ad→Prop):Prop :=
 aL (zac H 1 35 x0) fun v1 H1 =>
 ak (zad 35 v1 0) fun v2 =>
 ak (zab H1 33 v2) fun v3 =>
 aL (zaa true H1 5 182 [v3]) fun v4 H2 =>
 ak (zak 42 5 0 v4) fun v5 =>
 gQ v5 true (zad 35 v1 1) fun v6 =>
 gQ v5 true (zab H2 3 v6) fun v7 =>
 gQ v5 true (zaq 3 9 1 v7) fun v8 =>
 ak (zag v5 v8) fun v9 =>
 gQ v9 true (zad 35 v1 1) fun v10 =>
 gQ v9 true (zab H2 3 v10) fun v11 =>
 gQ v9 true (zaz 3 14 64 v11) fun v12 =>
 ak (zag v9 v12) fun v13 =>
 gQ v13 true (zad 35 v1 0) fun v14 =>
 gQ v13 true (zad 33 v14 1) fun v15 =>
 gQ v13 true (zab H2 3 v15) fun v16 =>
 gQ v13 true (zad 35 v1 1) fun v17 =>
 gQ v13 true (zab H2 3 v17) fun v18 =>
 gQ v13 true (zbf 3 20 22 v16 v18) fun v19 =>
 gQ v13 true (zax 3 23 1 v19) fun v20 =>
 gQ v13 true (zaz 3 24 1099511627776 v20) fun v21 =>
 ak (zag v13 v21) fun v22 =>
 aL (zaa true H2 27 159 [v22]) fun v23 H3 =>
 Q v23 H3
theorem Ck(x0:AV)(H:ad)(Q:AV→ad→Prop)(h : ∀g,kH g x0 H Q):b7 env Tryz.f135 0 [.code vS] [(0,x0)] H Q:=⟨fun g=>bc (live:=CB) (cut:=CS) (n:=500) (Eq.mp (by kernel_rfl) (h g))⟩
noncomputable def BX:Code:=(Tryz.f159.body).getD .skip
def IG:Nat→Option (List Nat):=fun i=>none
def I2:Nat→Bool:=fun i=>false
def B2(g:Nat→AV)(x0:AV)(H:ad)(Q:AV→ad→Prop):Prop :=
 br (some x0) (
 Q (.v (.int .i64 0)) H) (
 Q (.v (.int .i64 8)) H)
theorem Ih(x0:AV)(H:ad)(Q:AV→ad→Prop)(h : ∀g,B2 g x0 H Q):b7 env Tryz.f159 0 [.code BX] [(0,x0)] H Q:=⟨fun g=>bc (live:=IG) (cut:=I2) (n:=500) (Eq.mp (by kernel_rfl) (h g))⟩
noncomputable def vR:Code:=(Tryz.f162.body).getD .skip
def CA:Nat→Option (List Nat):=fun i=>none
def CR:Nat→Bool:=fun i=>false
def qj(g:Nat→AV)(x0:AV)(H:ad)(Q:AV→ad→Prop):Prop :=
 aL (zac H 1 31 x0) fun v1 H1 =>
 ak (zab H1 31 v1) fun v2 =>
 aL (zaa true H1 6 91 [v2]) fun v3 H2 =>
 ak (zae 42 7 0 v3) fun v4 =>
 br (some v4) (
 Q (.tup [(.v (.slice none 0 0)),v3]) H2) (
 ak (zad 31 v1 0) fun v5 =>
 ak (zad 29 v5 0) fun v6 =>
 ak (zab H2 5 v6) fun v7 =>
 aL (fu env.P true false H2 (Ref.mk 0 13 (ad.gen H2 0 13) 0) 170 1 (some [(0,v7)])) fun v8 H3 =>
 ak (zad 31 v1 0) fun v9 =>
 ak (zad 29 v9 1) fun v10 =>
 ak (zab H3 27 v10) fun v11 =>
 ak (zay H3 17 27 3 v11) fun v12 =>
 aL (zaa false H3 18 207 [v12,(.v (.int .i64 4))]) fun v13 H4 =>
 aL (de env.P false H4 (Ref.mk 0 19 (ad.gen H4 0 19) 0) (some 170) (some 170) v8 v13) fun v14 H5 =>
 ak (zad 31 v1 1) fun v15 =>
 ak (zab H5 5 v15) fun v16 =>
 aL (fu env.P true false H5 (Ref.mk 0 22 (ad.gen H5 0 22) 0) 170 1 (some [(0,v16)])) fun v17 H6 =>
 aL (zat H6 23 170 170 v14 v17) fun v18 H7 =>
 Q (.tup [v18,(.v (.int .i64 0))]) H7)
theorem Cj(x0:AV)(H:ad)(Q:AV→ad→Prop)(h : ∀g,qj g x0 H Q):b7 env Tryz.f162 0 [.code vR] [(0,x0)] H Q:=⟨fun g=>bc (live:=CA) (cut:=CR) (n:=500) (Eq.mp (by kernel_rfl) (h g))⟩
noncomputable def yz:Code:=(Tryz.f169.body).getD .skip
def Fm:Nat→Option (List Nat):=fun i=>none
def F1:Nat→Bool:=fun i=>false
def yJ(g:Nat→AV)(x0 x1:AV)(H:ad)(Q:AV→ad→Prop):Prop :=
 aL (zac H 2 29 x0) fun v1 H1 =>
 aL (zac H1 3 29 x1) fun v2 H2 =>
 ak (zad 29 v2 0) fun v3 =>
 ak (zab H2 5 v3) fun v4 =>
 ak (zad 29 v1 1) fun v5 =>
 ak (zab H2 27 v5) fun v6 =>
 ak (zbo 29 0 v4 1 v6) fun v7 =>
 aL (zah H2 5 29) fun v8 H3 =>
 aL (zal H3 29 v8 v7) fun v9 H4 =>
 ak (zad 29 v1 0) fun v10 =>
 ak (zab H4 5 v10) fun v11 =>
 ak (zad 29 v2 0) fun v12 =>
 ak (zab H4 5 v12) fun v13 =>
 ak (zap 5 12 14 v11 v13) fun v14 =>
 gQ v14 false (zab H4 29 v1) fun v15 =>
 gQ v14 false (zab H4 29 v8) fun v16 =>
 gQ v14 false (zan 29 17 18 v15 v16) fun v17 =>
 gQ v14 false (zbj v17) fun v18 =>
 gQ v18 true (zad 29 v1 1) fun v19 =>
 gQ v18 true (zab H4 27 v19) fun v20 =>
 gQ v18 true (zad 29 v2 1) fun v21 =>
 gQ v18 true (zab H4 27 v21) fun v22 =>
 gQ v18 true (zap 27 22 24 v20 v22) fun v23 =>
 gQ v14 false (zag v18 v23) fun v24 =>
 ak (zam v14 v24) fun v25 =>
 Q v25 H4
theorem EC(x0 x1:AV)(H:ad)(Q:AV→ad→Prop)(h : ∀g,yJ g x0 x1 H Q):b7 env Tryz.f169 0 [.code yz] [(0,x0),(1,x1)] H Q:=⟨fun g=>bc (live:=Fm) (cut:=F1) (n:=500) (Eq.mp (by kernel_rfl) (h g))⟩
noncomputable def kC:Code:=(Tryz.f173.body).getD .skip
def pX:Nat→Option (List Nat):=fun i=>none
def p5:Nat→Bool:=fun i=>false
def eW(g:Nat→AV)(x0:AV)(H:ad)(Q:AV→ad→Prop):Prop :=
 ak (zbr 36 3 x0) fun v1 =>
 br (some v1) (
 Q (.v (.slice none 0 0)) H) (
 aL (zcm H 5 36 0) fun v2 H1 =>
 aL (zat H1 7 36 36 v2 x0) fun v3 H2 =>
 Q v3 H2)
theorem pQ(x0:AV)(H:ad)(Q:AV→ad→Prop)(h : ∀g,eW g x0 H Q):b7 env Tryz.f173 0 [.code kC] [(0,x0)] H Q:=⟨fun g=>bc (live:=pX) (cut:=p5) (n:=500) (Eq.mp (by kernel_rfl) (h g))⟩
noncomputable def jg:Code:=(Tryz.f176.body).getD .skip
def oL:Nat→Option (List Nat):=fun i=>none
def oQ:Nat→Bool:=fun i=>false
def jm(g:Nat→AV)(x0 x1:AV)(H:ad)(Q:AV→ad→Prop):Prop :=
 aL (zaa true H 7 214 [x0,x1]) fun v1 H1 =>
 ak (zaq 3 7 0 v1) fun v2 =>
 Q v2 H1
theorem oF(x0 x1:AV)(H:ad)(Q:AV→ad→Prop)(h : ∀g,jm g x0 x1 H Q):b7 env Tryz.f176 0 [.code jg] [(0,x0),(1,x1)] H Q:=⟨fun g=>bc (live:=oL) (cut:=oQ) (n:=500) (Eq.mp (by kernel_rfl) (h g))⟩
noncomputable def BY:Code:=(Tryz.f182.body).getD .skip
def IH:Nat→Option (List Nat):=fun i=>none
def I3:Nat→Bool:=fun i=>false
def B3(g:Nat→AV)(x0:AV)(H:ad)(Q:AV→ad→Prop):Prop :=
 aL (zac H 1 33 x0) fun v1 H1 =>
 ak (zad 33 v1 0) fun v2 =>
 ak (zab H1 31 v2) fun v3 =>
 aL (zaa true H1 5 91 [v3]) fun v4 H2 =>
 ak (zak 42 5 0 v4) fun v5 =>
 gQ v5 true (zad 33 v1 1) fun v6 =>
 gQ v5 true (zab H2 3 v6) fun v7 =>
 gQ v5 true (zaq 3 9 1 v7) fun v8 =>
 ak (zag v5 v8) fun v9 =>
 gQ v9 true (zad 33 v1 1) fun v10 =>
 gQ v9 true (zab H2 3 v10) fun v11 =>
 gQ v9 true (zaz 3 14 1099511627776 v11) fun v12 =>
 ak (zag v9 v12) fun v13 =>
 aL (zaa true H2 17 159 [v13]) fun v14 H3 =>
 Q v14 H3
theorem Ii(x0:AV)(H:ad)(Q:AV→ad→Prop)(h : ∀g,B3 g x0 H Q):b7 env Tryz.f182 0 [.code BY] [(0,x0)] H Q:=⟨fun g=>bc (live:=IH) (cut:=I3) (n:=500) (Eq.mp (by kernel_rfl) (h g))⟩
noncomputable def si:Code:=(Tryz.f185.body).getD .skip
def Fk:Nat→Option (List Nat):=fun i=>none
def FZ:Nat→Bool:=fun i=>false
def sI(g:Nat→AV)(H:ad)(Q:AV→ad→Prop):Prop :=
 aL (zah H 0 29) fun v1 H1 =>
 ak (zbp 29) fun v2 =>
 aL (zal H1 29 v1 v2) fun v3 H2 =>
 ak (zbt H2 v1 29) fun v4 =>
 Q v4 H2
theorem xD(H:ad)(Q:AV→ad→Prop)(h : ∀g,sI g  H Q):b7 env Tryz.f185 0 [.code si] [] H Q:=⟨fun g=>bc (live:=Fk) (cut:=FZ) (n:=500) (Eq.mp (by kernel_rfl) (h g))⟩
noncomputable def yj:Code:=(Tryz.f187.body).getD .skip
def Fb:Nat→Option (List Nat):=fun i=>none
def FP:Nat→Bool:=fun i=>false
def sG(g:Nat→AV)(x0:AV)(H:ad)(Q:AV→ad→Prop):Prop :=
 ak (zai H 6 36 x0) fun v1 =>
 ak (zar 3 6 64 v1) fun v2 =>
 br (some v2) (
 Q (.v (.int .i64 4)) H) (
 aL (zaa true H 11 217 [x0,(.fn (.func 215) [] [])]) fun v3 H1 =>
 br (some v3) (
 Q (.v (.int .i64 8)) H1) (
 Q (.v (.int .i64 0)) H1))
theorem Eu(x0:AV)(H:ad)(Q:AV→ad→Prop)(h : ∀g,sG g x0 H Q):b7 env Tryz.f187 0 [.code yj] [(0,x0)] H Q:=⟨fun g=>bc (live:=Fb) (cut:=FP) (n:=500) (Eq.mp (by kernel_rfl) (h g))⟩
noncomputable def qo:Code:=(Tryz.f207.body).getD .skip
noncomputable def qL:List Item:=(cE 2 400 [.code qo]).getD []
def zu:Nat→Option (List Nat):=fun i=>cond (Nat.beq i 2) (some [5,0,4]) (none)
def zA:Nat→Bool:=fun i=>false
def uV(g:Nat→AV)(x0 x1:AV)(H:ad)(Q:AV→ad→Prop):Prop :=
 ak (zax 3 6 1 x1) fun v1 =>
  b7 env Tryz.f207 0 qL [(5,v1),(0,x0),(4,(.v (.slice none 0 0)))] H Q
theorem zn(x0 x1:AV)(H:ad)(Q:AV→ad→Prop)(h : ∀g,uV g x0 x1 H Q):b7 env Tryz.f207 0 [.code qo] [(0,x0),(1,x1)] H Q:=⟨fun g=>bc (live:=zu) (cut:=zA) (n:=500) (Eq.mp (by kernel_rfl) (h g))⟩
def cU(g:Nat→AV)(x5 x0 x4:AV)(H:ad)(Q:AV→ad→Prop):Prop :=
 ak (zaq 3 8 0 x5) fun v1 =>
 br (some v1) (
 ak (zbz 3 8 14 x5) fun v2 =>
 ak (aH env.P .shr 3 (Operand.tmp 13) (Operand.tmp 15) (some x0) (some v2)) fun v3 =>
 ak (zay H 17 3 5 v3) fun v4 =>
 aL (zbc H 18 170 1 0 v4) fun v5 H1 =>
 aL (zat H1 19 170 170 x4 v5) fun v6 H2 =>
 ak (zax 3 10 1 x5) fun v7 =>
  b7 env Tryz.f207 0 qL [(5,v7),(0,x0),(4,v6)] H2 Q) (
 Q x4 H)
theorem dk(x5 x0 x4:AV)(H:ad)(Q:AV→ad→Prop)(h : ∀g,cU g x5 x0 x4 H Q):b7 env Tryz.f207 0 qL [(5,x5),(0,x0),(4,x4)] H Q:=dG fun g=>bc (live:=zu) (cut:=zA) (n:=500) (Eq.mp (by kernel_rfl) (h g))
noncomputable def F9:Code:=(Tryz.f208.body).getD .skip
def Mf:Nat→Option (List Nat):=fun i=>none
def MF:Nat→Bool:=fun i=>false
def Ap(g:Nat→AV)(x0:AV)(H:ad)(Q:AV→ad→Prop):Prop :=
 aL (zac H 1 33 x0) fun v1 H1 =>
 ak (zab H1 33 v1) fun v2 =>
 aL (zaa true H1 8 182 [v2]) fun v3 H2 =>
 ak (zae 42 9 0 v3) fun v4 =>
 br (some v4) (
 Q (.tup [(.v (.slice none 0 0)),v3]) H2) (
 ak (zad 33 v1 0) fun v5 =>
 ak (zab H2 31 v5) fun v6 =>
 aL (zaa true H2 15 162 [v6]) fun v7 H3 =>
 ak (zaw v7 0) fun v8 =>
 ak (zaw v7 1) fun v9 =>
 ak (zad 33 v1 1) fun v10 =>
 ak (zab H3 3 v10) fun v11 =>
 aL (zaa true H3 21 207 [v11,(.v (.int .i64 7))]) fun v12 H4 =>
 aL (zat H4 22 170 170 v8 v12) fun v13 H5 =>
 Q (.tup [v13,v9]) H5)
theorem Lz(x0:AV)(H:ad)(Q:AV→ad→Prop)(h : ∀g,Ap g x0 H Q):b7 env Tryz.f208 0 [.code F9] [(0,x0)] H Q:=⟨fun g=>bc (live:=Mf) (cut:=MF) (n:=500) (Eq.mp (by kernel_rfl) (h g))⟩
noncomputable def wD:Code:=(Tryz.f210.body).getD .skip
noncomputable def pa:List Item:=(cE 6 400 [.code wD]).getD []
def A7:Nat→Option (List Nat):=fun i=>cond (Nat.beq i 6) (some [15,5,13,14]) (none)
def BC:Nat→Bool:=fun i=>false
def wM(g:Nat→AV)(x0:AV)(H:ad)(Q:AV→ad→Prop):Prop :=
 aL (zaa true H 9 187 [x0]) fun v1 H1 =>
 ak (zae 42 10 0 v1) fun v2 =>
 br (some v2) (
 Q (.tup [(.v (.slice none 0 0)),v1]) H1) (
 ak (zai H1 14 36 x0) fun v3 =>
  b7 env Tryz.f210 0 pa [(15,(.v (.int .i64 0))),(5,(.v (.slice none 0 0))),(13,x0),(14,v3)] H1 Q)
theorem Ic(x0:AV)(H:ad)(Q:AV→ad→Prop)(h : ∀g,wM g x0 H Q):b7 env Tryz.f210 0 [.code wD] [(0,x0)] H Q:=⟨fun g=>bc (live:=A7) (cut:=BC) (n:=500) (Eq.mp (by kernel_rfl) (h g))⟩
def px(g:Nat→AV)(x15 x5 x13 x14:AV)(H:ad)(Q:AV→ad→Prop):Prop :=
 ak (zap 3 15 14 x15 x14) fun v1 =>
 br (some v1) (
 ak (zau H 36 x13 x15) fun v2 =>
 ak (zab H 21 v2) fun v3 =>
 ak (aH env.P .shr 21 (Operand.tmp 20) (.const (.int .u64 24)) (some v3) (some (.v (.int .u64 24)))) fun v4 =>
 ak (zay H 22 21 5 v4) fun v5 =>
 ak (zcl 21 23 v3) fun v6 =>
 ak (zay H 25 21 5 v6) fun v7 =>
 ak (zbw 21 26 v3) fun v8 =>
 ak (zay H 28 21 5 v8) fun v9 =>
 ak (zay H 30 21 5 v3) fun v10 =>
 aL (fu env.P false true H (Ref.mk 0 31 (ad.gen H 0 31) 0) 170 4 (some [(0,v5),(1,v7),(2,v9),(3,v10)])) fun v11 H1 =>
 aL (zat H1 32 170 170 x5 v11) fun v12 H2 =>
 ak (zaf 3 15 1 x15) fun v13 =>
  b7 env Tryz.f210 0 pa [(15,v13),(5,v12),(13,x13),(14,x14)] H2 Q) (
 Q (.tup [x5,(.v (.int .i64 0))]) H)
theorem xC(x15 x5 x13 x14:AV)(H:ad)(Q:AV→ad→Prop)(h : ∀g,px g x15 x5 x13 x14 H Q):b7 env Tryz.f210 0 pa [(15,x15),(5,x5),(13,x13),(14,x14)] H Q:=dG fun g=>bc (live:=A7) (cut:=BC) (n:=500) (Eq.mp (by kernel_rfl) (h g))
noncomputable def gq:Code:=(Tryz.f214.body).getD .skip
noncomputable def eC:List Item:=(cE 2 400 [.code gq]).getD []
def kq:Nat→Option (List Nat):=fun i=>cond (Nat.beq i 2) (some [8,0,1,7]) (none)
def kA:Nat→Bool:=fun i=>false
def kF(g:Nat→AV)(x0 x1:AV)(H:ad)(Q:AV→ad→Prop):Prop :=
 ak (zai H 7 36 x0) fun v1 =>
  b7 env Tryz.f214 0 eC [(8,(.v (.int .i64 0))),(0,x0),(1,x1),(7,v1)] H Q
theorem pO(x0 x1:AV)(H:ad)(Q:AV→ad→Prop)(h : ∀g,kF g x0 x1 H Q):b7 env Tryz.f214 0 [.code gq] [(0,x0),(1,x1)] H Q:=⟨fun g=>bc (live:=kq) (cut:=kA) (n:=500) (Eq.mp (by kernel_rfl) (h g))⟩
def eG(g:Nat→AV)(x8 x0 x1 x7:AV)(H:ad)(Q:AV→ad→Prop):Prop :=
 ak (zap 3 8 7 x8 x7) fun v1 =>
 br (some v1) (
 ak (zau H 36 x0 x8) fun v2 =>
 ak (zab H 21 v2) fun v3 =>
 ak (zan 21 11 15 x1 v3) fun v4 =>
 br (some v4) (
 Q x8 H) (
 ak (zaf 3 8 1 x8) fun v5 =>
  b7 env Tryz.f214 0 eC [(8,v5),(0,x0),(1,x1),(7,x7)] H Q)) (
 Q (.v (.int .i64 (-1))) H)
theorem jt(x8 x0 x1 x7:AV)(H:ad)(Q:AV→ad→Prop)(h : ∀g,eG g x8 x0 x1 x7 H Q):b7 env Tryz.f214 0 eC [(8,x8),(0,x0),(1,x1),(7,x7)] H Q:=dG fun g=>bc (live:=kq) (cut:=kA) (n:=500) (Eq.mp (by kernel_rfl) (h g))
noncomputable def vN:Code:=(Tryz.f215.body).getD .skip
def Cx:Nat→Option (List Nat):=fun i=>none
def CO:Nat→Bool:=fun i=>false
def qi(g:Nat→AV)(x0:AV)(H:ad)(Q:AV→ad→Prop):Prop :=
 ak (aH env.P .neq 21 (Operand.tmp 3) (.const (.int .i32 (-1))) (some x0) (some (.v (.int .i32 (-1))))) fun v1 =>
 gQ v1 true (zbj x0) fun v2 =>
 gW v1 true H (zaa true H 7 216 [v2]) fun v3 H1 =>
 gQ v1 true (zbb v3) fun v4 =>
 ak (zag v1 v4) fun v5 =>
 Q v5 H1
theorem Cd(x0:AV)(H:ad)(Q:AV→ad→Prop)(h : ∀g,qi g x0 H Q):b7 env Tryz.f215 0 [.code vN] [(0,x0)] H Q:=⟨fun g=>bc (live:=Cx) (cut:=CO) (n:=500) (Eq.mp (by kernel_rfl) (h g))⟩
noncomputable def m3:Code:=(Tryz.f216.body).getD .skip
def sS:Nat→Option (List Nat):=fun i=>none
def sX:Nat→Bool:=fun i=>false
def m4(g:Nat→AV)(x0:AV)(H:ad)(Q:AV→ad→Prop):Prop :=
 ak (aH env.P .leq 21 (.const (.int .i32 0)) (Operand.tmp 4) (some (.v (.int .i32 0))) (some x0)) fun v1 =>
 gQ v1 true (zbj x0) fun v2 =>
 gQ v1 true (aH env.P .lss 21 (Operand.tmp 7) (.const (.int .i32 55296)) (some v2) (some (.v (.int .i32 55296)))) fun v3 =>
 ak (zag v1 v3) fun v4 =>
 br (some v4) (
 Q (.v (.bool true)) H) (
 ak (aH env.P .lss 21 (.const (.int .i32 57343)) (Operand.tmp 11) (some (.v (.int .i32 57343))) (some x0)) fun v5 =>
 gQ v5 true (zbj x0) fun v6 =>
 gQ v5 true (aH env.P .leq 21 (Operand.tmp 14) (.const (.int .i32 1114111)) (some v6) (some (.v (.int .i32 1114111)))) fun v7 =>
 ak (zag v5 v7) fun v8 =>
 br (some v8) (
 Q (.v (.bool true)) H) (
 Q (.v (.bool false)) H))
theorem sQ(x0:AV)(H:ad)(Q:AV→ad→Prop)(h : ∀g,m4 g x0 H Q):b7 env Tryz.f216 0 [.code m3] [(0,x0)] H Q:=⟨fun g=>bc (live:=sS) (cut:=sX) (n:=500) (Eq.mp (by kernel_rfl) (h g))⟩
noncomputable def iw:Code:=(Tryz.f217.body).getD .skip
def m9:Nat→Option (List Nat):=fun i=>none
def nf:Nat→Bool:=fun i=>false
def iz(g:Nat→AV)(x0 x1:AV)(H:ad)(Q:AV→ad→Prop):Prop :=
 aL (zaa true H 7 229 [x0,x1]) fun v1 H1 =>
 ak (zaq 3 7 0 v1) fun v2 =>
 Q v2 H1
theorem m6(x0 x1:AV)(H:ad)(Q:AV→ad→Prop)(h : ∀g,iz g x0 x1 H Q):b7 env Tryz.f217 0 [.code iw] [(0,x0),(1,x1)] H Q:=⟨fun g=>bc (live:=m9) (cut:=nf) (n:=500) (Eq.mp (by kernel_rfl) (h g))⟩
noncomputable def gw:Code:=(Tryz.f226.body).getD .skip
noncomputable def eD:List Item:=(cE 4 400 [.code gw]).getD []
def kr:Nat→Option (List Nat):=fun i=>cond (Nat.beq i 4) (some [13,1,0,12]) (none)
def kB:Nat→Bool:=fun i=>false
def gy(g:Nat→AV)(x0 x1:AV)(H:ad)(Q:AV→ad→Prop):Prop :=
 ak (zai H 7 36 x0) fun v1 =>
 ak (zai H 9 36 x1) fun v2 =>
 ak (zav 3 7 9 v1 v2) fun v3 =>
 br (some v3) (
 Q (.v (.bool false)) H) (
 ak (zai H 12 36 x0) fun v4 =>
  b7 env Tryz.f226 0 eD [(13,(.v (.int .i64 0))),(1,x1),(0,x0),(12,v4)] H Q)
theorem pP(x0 x1:AV)(H:ad)(Q:AV→ad→Prop)(h : ∀g,gy g x0 x1 H Q):b7 env Tryz.f226 0 [.code gw] [(0,x0),(1,x1)] H Q:=⟨fun g=>bc (live:=kr) (cut:=kB) (n:=500) (Eq.mp (by kernel_rfl) (h g))⟩
def eH(g:Nat→AV)(x13 x1 x0 x12:AV)(H:ad)(Q:AV→ad→Prop):Prop :=
 ak (zap 3 13 12 x13 x12) fun v1 =>
 br (some v1) (
 ak (zau H 36 x0 x13) fun v2 =>
 ak (zab H 21 v2) fun v3 =>
 ak (zau H 36 x1 x13) fun v4 =>
 ak (zab H 21 v4) fun v5 =>
 ak (zav 21 19 23 v3 v5) fun v6 =>
 br (some v6) (
 Q (.v (.bool false)) H) (
 ak (zaf 3 13 1 x13) fun v7 =>
  b7 env Tryz.f226 0 eD [(13,v7),(1,x1),(0,x0),(12,x12)] H Q)) (
 Q (.v (.bool true)) H)
theorem ju(x13 x1 x0 x12:AV)(H:ad)(Q:AV→ad→Prop)(h : ∀g,eH g x13 x1 x0 x12 H Q):b7 env Tryz.f226 0 eD [(13,x13),(1,x1),(0,x0),(12,x12)] H Q:=dG fun g=>bc (live:=kr) (cut:=kB) (n:=500) (Eq.mp (by kernel_rfl) (h g))
noncomputable def HU:Code:=(Tryz.f228.body).getD .skip
def OV:Nat→Option (List Nat):=fun i=>none
def Pg:Nat→Bool:=fun i=>false
def wa(g:Nat→AV)(x0 x1:AV)(H:ad)(Q:AV→ad→Prop):Prop :=
 aL (zac H 2 35 x0) fun v1 H1 =>
 aL (zah H1 4 33) fun v2 H2 =>
 ak (zab H2 35 v1) fun v3 =>
 aL (zaa true H2 8 135 [v3]) fun v4 H3 =>
 ak (zae 42 9 0 v4) fun v5 =>
 br (some v5) (
 ak (zbp 33) fun v6 =>
 aL (zal H3 33 v2 v6) fun v7 H4 =>
 ak (zbt H4 v2 33) fun v8 =>
 Q (.tup [v8,v4]) H4) (
 ak (zas 3 13 0 x1) fun v6 =>
 gQ v6 false (zbj x1) fun v7 =>
 gQ v6 false (zad 35 v1 1) fun v8 =>
 gQ v6 false (zab H3 3 v8) fun v9 =>
 gQ v6 false (zbm 3 16 18 v7 v9) fun v10 =>
 ak (zam v6 v10) fun v11 =>
 br (some v11) (
 ak (zbp 33) fun v12 =>
 aL (zal H3 33 v2 v12) fun v13 H4 =>
 ak (zbt H4 v2 33) fun v14 =>
 Q (.tup [v14,(.v (.int .i64 2))]) H4) (
 ak (zad 35 v1 0) fun v12 =>
 ak (zab H3 33 v12) fun v13 =>
 aL (zaa true H3 25 239 [v13,x1]) fun v14 H4 =>
 aL (zal H4 33 v2 v14) fun v15 H5 =>
 ak (zbt H5 v2 33) fun v16 =>
 Q (.tup [v16,(.v (.int .i64 0))]) H5))
theorem NT(x0 x1:AV)(H:ad)(Q:AV→ad→Prop)(h : ∀g,wa g x0 x1 H Q):b7 env Tryz.f228 0 [.code HU] [(0,x0),(1,x1)] H Q:=⟨fun g=>bc (live:=OV) (cut:=Pg) (n:=500) (Eq.mp (by kernel_rfl) (h g))⟩
noncomputable def fl:Code:=(Tryz.f229.body).getD .skip
noncomputable def dS:List Item:=(cE 2 400 [.code fl]).getD []
def je:Nat→Option (List Nat):=fun i=>cond (Nat.beq i 2) (some [8,0,1,7]) (none)
def jf:Nat→Bool:=fun i=>false
def jl(g:Nat→AV)(x0 x1:AV)(H:ad)(Q:AV→ad→Prop):Prop :=
 ak (zai H 7 36 x0) fun v1 =>
  b7 env Tryz.f229 0 dS [(8,(.v (.int .i64 0))),(0,x0),(1,x1),(7,v1)] H Q
theorem oE(x0 x1:AV)(H:ad)(Q:AV→ad→Prop)(h : ∀g,jl g x0 x1 H Q):b7 env Tryz.f229 0 [.code fl] [(0,x0),(1,x1)] H Q:=⟨fun g=>bc (live:=je) (cut:=jf) (n:=500) (Eq.mp (by kernel_rfl) (h g))⟩
def dV(g:Nat→AV)(x8 x0 x1 x7:AV)(H:ad)(Q:AV→ad→Prop):Prop :=
 ak (zap 3 8 7 x8 x7) fun v1 =>
 br (some v1) (
 ak (zau H 36 x0 x8) fun v2 =>
 ak (zab H 21 v2) fun v3 =>
 aL (zbg H 16 x1 v3) fun v4 H1 =>
 br (some v4) (
 Q x8 H1) (
 ak (zaf 3 8 1 x8) fun v5 =>
  b7 env Tryz.f229 0 dS [(8,v5),(0,x0),(1,x1),(7,x7)] H1 Q)) (
 Q (.v (.int .i64 (-1))) H)
theorem iH(x8 x0 x1 x7:AV)(H:ad)(Q:AV→ad→Prop)(h : ∀g,dV g x8 x0 x1 x7 H Q):b7 env Tryz.f229 0 dS [(8,x8),(0,x0),(1,x1),(7,x7)] H Q:=dG fun g=>bc (live:=je) (cut:=jf) (n:=500) (Eq.mp (by kernel_rfl) (h g))
noncomputable def p7:Code:=(Tryz.f231.body).getD .skip
def OT:Nat→Option (List Nat):=fun i=>none
def Pe:Nat→Bool:=fun i=>false
def mV(g:Nat→AV)(x0:AV)(H:ad)(Q:AV→ad→Prop):Prop :=
 aL (zac H 1 38 x0) fun v1 H1 =>
 aL (zah H1 2 249) fun v2 H2 =>
 ak (zab H2 38 v1) fun v3 =>
 aL (zaa true H2 7 70 [v3]) fun v4 H3 =>
 ak (zae 42 8 0 v4) fun v5 =>
 br (some v5) (
 ak (zbp 249) fun v6 =>
 aL (zal H3 249 v2 v6) fun v7 H4 =>
 ak (zbt H4 v2 249) fun v8 =>
 Q (.tup [v8,v4]) H4) (
 ak (zad 38 v1 3) fun v6 =>
 ak (zab H3 35 v6) fun v7 =>
 ak (zad 38 v1 4) fun v8 =>
 ak (zab H3 33 v8) fun v9 =>
 ak (zad 38 v1 6) fun v10 =>
 ak (zab H3 36 v10) fun v11 =>
 aL (zaa false H3 18 173 [v11]) fun v12 H4 =>
 ak (ch env.P 249 (some [(0,v7),(1,v9),(2,v12)])) fun v13 =>
 aL (zah H4 5 249) fun v14 H5 =>
 aL (zal H5 249 v14 v13) fun v15 H6 =>
 ak (zad 38 v1 0) fun v16 =>
 ak (zab H6 5 v16) fun v17 =>
 ak (aH env.P .neq 5 (Operand.tmp 21) (.const (.int .u8 1)) (some v17) (some (a8 1))) fun v18 =>
 gQ v18 false (zab H6 249 v14) fun v19 =>
 gW v18 false H6 (zaa true H6 25 240 [v19]) fun v20 H7 =>
 gQ v18 false (zae 42 25 0 v20) fun v21 =>
 ak (zam v18 v21) fun v22 =>
 br (some v22) (
 ak (zbp 249) fun v23 =>
 aL (zal H7 249 v2 v23) fun v24 H8 =>
 ak (zbt H8 v2 249) fun v25 =>
 Q (.tup [v25,(.v (.int .i64 2))]) H8) (
 ak (zab H7 249 v14) fun v23 =>
 aL (zal H7 249 v2 v23) fun v24 H8 =>
 ak (zbt H8 v2 249) fun v25 =>
 Q (.tup [v25,(.v (.int .i64 0))]) H8))
theorem rp(x0:AV)(H:ad)(Q:AV→ad→Prop)(h : ∀g,mV g x0 H Q):b7 env Tryz.f231 0 [.code p7] [(0,x0)] H Q:=⟨fun g=>bc (live:=OT) (cut:=Pe) (n:=500) (Eq.mp (by kernel_rfl) (h g))⟩
noncomputable def Dq:Code:=(Tryz.f239.body).getD .skip
def Kq:Nat→Option (List Nat):=fun i=>none
def K7:Nat→Bool:=fun i=>false
def Du(g:Nat→AV)(x0 x1:AV)(H:ad)(Q:AV→ad→Prop):Prop :=
 aL (zac H 2 33 x0) fun v1 H1 =>
 aL (zah H1 4 33) fun v2 H2 =>
 ak (zad 33 v1 1) fun v3 =>
 ak (zab H2 3 v3) fun v4 =>
 ak (zbf 3 6 7 v4 x1) fun v5 =>
 ak (zad 33 v1 1) fun v6 =>
 aL (zal H2 3 v6 v5) fun v7 H3 =>
 ak (zab H3 33 v1) fun v8 =>
 aL (zal H3 33 v2 v8) fun v9 H4 =>
 ak (zbt H4 v2 33) fun v10 =>
 Q v10 H4
theorem Ju(x0 x1:AV)(H:ad)(Q:AV→ad→Prop)(h : ∀g,Du g x0 x1 H Q):b7 env Tryz.f239 0 [.code Dq] [(0,x0),(1,x1)] H Q:=⟨fun g=>bc (live:=Kq) (cut:=K7) (n:=500) (Eq.mp (by kernel_rfl) (h g))⟩
noncomputable def BW:Code:=(Tryz.f240.body).getD .skip
def IE:Nat→Option (List Nat):=fun i=>none
def I0:Nat→Bool:=fun i=>false
def wN(g:Nat→AV)(x0:AV)(H:ad)(Q:AV→ad→Prop):Prop :=
 aL (zac H 1 249 x0) fun v1 H1 =>
 ak (zad 249 v1 1) fun v2 =>
 ak (zab H1 33 v2) fun v3 =>
 ak (zbp 33) fun v4 =>
 ak (zan 33 5 6 v3 v4) fun v5 =>
 gQ v5 false (zad 249 v1 1) fun v6 =>
 gQ v5 false (zab H1 33 v6) fun v7 =>
 gW v5 false H1 (zaa true H1 11 182 [v7]) fun v8 H2 =>
 gQ v5 false (zak 42 11 0 v8) fun v9 =>
 gQ v5 false (zbj v9) fun v10 =>
 gQ v10 true (zad 249 v1 1) fun v11 =>
 gQ v10 true (zad 33 v11 1) fun v12 =>
 gQ v10 true (zab H2 3 v12) fun v13 =>
 gQ v10 true (zad 249 v1 0) fun v14 =>
 gQ v10 true (zad 35 v14 0) fun v15 =>
 gQ v10 true (zad 33 v15 1) fun v16 =>
 gQ v10 true (zab H2 3 v16) fun v17 =>
 gQ v10 true (zap 3 16 20 v13 v17) fun v18 =>
 gQ v5 false (zag v10 v18) fun v19 =>
 ak (zam v5 v19) fun v20 =>
 ak (zad 249 v1 0) fun v21 =>
 ak (zab H2 35 v21) fun v22 =>
 aL (zaa true H2 26 135 [v22]) fun v23 H3 =>
 ak (zae 42 26 0 v23) fun v24 =>
 gQ v24 false (zbj v20) fun v25 =>
 gQ v24 false (zbb v25) fun v26 =>
 ak (zam v24 v26) fun v27 =>
 gQ v27 false (zad 249 v1 2) fun v28 =>
 gQ v27 false (zab H3 36 v28) fun v29 =>
 gQ v27 false (zai H3 35 36 v29) fun v30 =>
 gQ v27 false (zad 249 v1 0) fun v31 =>
 gQ v27 false (zad 35 v31 1) fun v32 =>
 gQ v27 false (zab H3 3 v32) fun v33 =>
 gQ v27 false (zav 3 35 38 v30 v33) fun v34 =>
 ak (zam v27 v34) fun v35 =>
 gQ v35 false (zad 249 v1 2) fun v36 =>
 gQ v35 false (zab H3 36 v36) fun v37 =>
 gW v35 false H3 (zaa true H3 44 187 [v37]) fun v38 H4 =>
 gQ v35 false (zae 42 44 0 v38) fun v39 =>
 ak (zam v35 v39) fun v40 =>
 br (some v40) (
 Q (.v (.int .i64 8)) H4) (
 Q (.v (.int .i64 0)) H4)
theorem Ie(x0:AV)(H:ad)(Q:AV→ad→Prop)(h : ∀g,wN g x0 H Q):b7 env Tryz.f240 0 [.code BW] [(0,x0)] H Q:=⟨fun g=>bc (live:=IE) (cut:=I0) (n:=500) (Eq.mp (by kernel_rfl) (h g))⟩
noncomputable def Ga:Code:=(Tryz.f251.body).getD .skip
def Mg:Nat→Option (List Nat):=fun i=>none
def MG:Nat→Bool:=fun i=>false
def ql(g:Nat→AV)(x0 x1:AV)(H:ad)(Q:AV→ad→Prop):Prop :=
 aL (zac H 2 35 x0) fun v1 H1 =>
 aL (zac H1 3 33 x1) fun v2 H2 =>
 ak (zad 33 v2 1) fun v3 =>
 ak (zab H2 3 v3) fun v4 =>
 ak (zad 35 v1 0) fun v5 =>
 ak (zad 33 v5 1) fun v6 =>
 ak (zab H2 3 v6) fun v7 =>
 ak (zbs 3 8 11 v4 v7) fun v8 =>
 ak (zab H2 35 v1) fun v9 =>
 aL (zaa false H2 14 135 [v9]) fun v10 H3 =>
 ak (zae 42 14 0 v10) fun v11 =>
 gQ v11 false (zbj v8) fun v12 =>
 gQ v11 false (zas 3 17 0 v12) fun v13 =>
 ak (zam v11 v13) fun v14 =>
 gQ v14 false (zbj v8) fun v15 =>
 gQ v14 false (zad 35 v1 1) fun v16 =>
 gQ v14 false (zab H3 3 v16) fun v17 =>
 gQ v14 false (zbm 3 21 23 v15 v17) fun v18 =>
 ak (zam v14 v18) fun v19 =>
 gQ v19 false (zab H3 33 v2) fun v20 =>
 gQ v19 false (zad 35 v1 0) fun v21 =>
 gQ v19 false (zab H3 33 v21) fun v22 =>
 gQ v19 false (zbj v8) fun v23 =>
 gW v19 false H3 (zaa false H3 31 239 [v22,v23]) fun v24 H4 =>
 gQ v19 false (zav 33 27 31 v20 v24) fun v25 =>
 ak (zam v19 v25) fun v26 =>
 br (some v26) (
 Q (.tup [(.v (.int .i64 0)),(.v (.bool false))]) H4) (
 Q (.tup [v8,(.v (.bool true))]) H4)
theorem LA(x0 x1:AV)(H:ad)(Q:AV→ad→Prop)(h : ∀g,ql g x0 x1 H Q):b7 env Tryz.f251 0 [.code Ga] [(0,x0),(1,x1)] H Q:=⟨fun g=>bc (live:=Mg) (cut:=MG) (n:=500) (Eq.mp (by kernel_rfl) (h g))⟩
end Go.Proofs.YtmkmimgokagimaaGreat
