/-
  What is to be shown of each function, computed from its code. No statement of a seat is proved here.
-/
import Derived.Test.YtiidajnodhkidaaGreatMStOk
set_option linter.unusedVariables false
set_option maxRecDepth 1000000
namespace Go.Proofs.YtiidajnodhkidaaGreat
open Go.Ab
noncomputable def iC:Code:=(Tryz.f127.body).getD .skip
noncomputable def fh:List Item:=(cm 4 400 [.code iC]).getD []
def kr:Nat→Option (List Nat):=fun i=>cond (Nat.beq i 4) (some [5,1,0]) (none)
def kI:Nat→Bool:=fun i=>false
def iD(g:Nat→AV)(x0 x1:AV)(H:Heap)(Q:AV→Heap→Prop):Prop :=
 doQ (Zg H 7 43 x0) fun v1 =>
 doQ (Zg H 9 43 x1) fun v2 =>
 doQ (Zx 3 7 9 v1 v2) fun v3 =>
 br (some v3) (
 Q (.v (.bool false)) H) (
  GoL env Tryz.f127 0 fh [(5,(.v (.int .i64 0))),(1,x1),(0,x0)] H Q)
theorem pb(x0 x1:AV)(H:Heap)(Q:AV→Heap→Prop)(h : ∀g,iD g x0 x1 H Q):GoL env Tryz.f127 0 [.code iC] [(0,x0),(1,x1)] H Q:=⟨fun g=>bq (live:=kr) (cut:=kI) (n:=500) (Eq.mp (by kernel_rfl) (h g))⟩
def fk(g:Nat→AV)(x5 x1 x0:AV)(H:Heap)(Q:AV→Heap→Prop):Prop :=
 doQ (Zg H 13 43 x0) fun v1 =>
 doQ (Zq 3 11 13 x5 v1) fun v2 =>
 br (some v2) (
 doQ (Zs H 43 x0 x5) fun v3 =>
 doQ (Zb H 21 v3) fun v4 =>
 doQ (Zs H 43 x1 x5) fun v5 =>
 doQ (Zb H 21 v5) fun v6 =>
 doQ (Zx 21 20 24 v4 v6) fun v7 =>
 br (some v7) (
 Q (.v (.bool false)) H) (
 doQ (Ze 3 15 1 x5) fun v8 =>
  GoL env Tryz.f127 0 fh [(5,v8),(1,x1),(0,x0)] H Q)) (
 Q (.v (.bool true)) H)
theorem jx(x5 x1 x0:AV)(H:Heap)(Q:AV→Heap→Prop)(h : ∀g,fk g x5 x1 x0 H Q):GoL env Tryz.f127 0 fh [(5,x5),(1,x1),(0,x0)] H Q:=c9 fun g=>bq (live:=kr) (cut:=kI) (n:=500) (Eq.mp (by kernel_rfl) (h g))
noncomputable def nR:Code:=(Tryz.f120.body).getD .skip
def tQ:Nat→Option (List Nat):=fun i=>none
def uf:Nat→Bool:=fun i=>false
def nT(g:Nat→AV)(x0:AV)(H:Heap)(Q:AV→Heap→Prop):Prop :=
 doW (Zd H 1 38 x0) fun v1 H1 =>
 doQ (Zh 38 v1 0) fun v2 =>
 doQ (Zb H1 36 v2) fun v3 =>
 doW (Za true H1 5 155 [v3]) fun v4 H2 =>
 doQ (Zl 30 5 0 v4) fun v5 =>
 gQ v5 true (Zh 38 v1 1) fun v6 =>
 gQ v5 true (Zb H2 5 v6) fun v7 =>
 gQ v5 true (qBin env.P .lss 5 (Operand.tmp 9) (.const (.int .u8 8)) (some v7) (some (a8 8))) fun v8 =>
 doQ (Zi v5 v8) fun v9 =>
 doW (Za true H2 12 154 [v9]) fun v10 H3 =>
 Q v10 H3
theorem tn(x0:AV)(H:Heap)(Q:AV→Heap→Prop)(h : ∀g,nT g x0 H Q):GoL env Tryz.f120 0 [.code nR] [(0,x0)] H Q:=⟨fun g=>bq (live:=tQ) (cut:=uf) (n:=500) (Eq.mp (by kernel_rfl) (h g))⟩
noncomputable def p9:Code:=(Tryz.f156.body).getD .skip
def wz:Nat→Option (List Nat):=fun i=>none
def wH:Nat→Bool:=fun i=>false
def iO(g:Nat→AV)(x0:AV)(H:Heap)(Q:AV→Heap→Prop):Prop :=
 doW (Zd H 1 42 x0) fun v1 H1 =>
 doQ (Zh 42 v1 0) fun v2 =>
 doQ (Zb H1 40 v2) fun v3 =>
 doW (Za true H1 5 158 [v3]) fun v4 H2 =>
 doQ (Zl 30 5 0 v4) fun v5 =>
 gQ v5 true (Zh 42 v1 1) fun v6 =>
 gQ v5 true (Zb H2 3 v6) fun v7 =>
 gQ v5 true (Zk 3 9 1 v7) fun v8 =>
 doQ (Zi v5 v8) fun v9 =>
 gQ v9 true (Zh 42 v1 1) fun v10 =>
 gQ v9 true (Zb H2 3 v10) fun v11 =>
 gQ v9 true (ZH 3 14 64 v11) fun v12 =>
 doQ (Zi v9 v12) fun v13 =>
 gQ v13 true (Zh 42 v1 0) fun v14 =>
 gQ v13 true (Zh 40 v14 1) fun v15 =>
 gQ v13 true (Zb H2 3 v15) fun v16 =>
 gQ v13 true (Zh 42 v1 1) fun v17 =>
 gQ v13 true (Zb H2 3 v17) fun v18 =>
 gQ v13 true (Zu 3 20 22 v16 v18) fun v19 =>
 gQ v13 true (Zw 3 23 1 v19) fun v20 =>
 gQ v13 true (ZH 3 24 1099511627776 v20) fun v21 =>
 doQ (Zi v13 v21) fun v22 =>
 doW (Za true H2 27 154 [v22]) fun v23 H3 =>
 Q v23 H3
theorem wi(x0:AV)(H:Heap)(Q:AV→Heap→Prop)(h : ∀g,iO g x0 H Q):GoL env Tryz.f156 0 [.code p9] [(0,x0)] H Q:=⟨fun g=>bq (live:=wz) (cut:=wH) (n:=500) (Eq.mp (by kernel_rfl) (h g))⟩
noncomputable def fm:Code:=(Tryz.f128.body).getD .skip
noncomputable def dH:List Item:=(cm 4 400 [.code fm]).getD []
def ib:Nat→Option (List Nat):=fun i=>cond (Nat.beq i 4) (some [13,1,0,12]) (none)
def ij:Nat→Bool:=fun i=>false
def fp(g:Nat→AV)(x0 x1:AV)(H:Heap)(Q:AV→Heap→Prop):Prop :=
 doQ (Zg H 7 43 x0) fun v1 =>
 doQ (Zg H 9 43 x1) fun v2 =>
 doQ (Zx 3 7 9 v1 v2) fun v3 =>
 br (some v3) (
 Q (.v (.bool false)) H) (
 doQ (Zg H 12 43 x0) fun v4 =>
  GoL env Tryz.f128 0 dH [(13,(.v (.int .i64 0))),(1,x1),(0,x0),(12,v4)] H Q)
theorem lF(x0 x1:AV)(H:Heap)(Q:AV→Heap→Prop)(h : ∀g,fp g x0 x1 H Q):GoL env Tryz.f128 0 [.code fm] [(0,x0),(1,x1)] H Q:=⟨fun g=>bq (live:=ib) (cut:=ij) (n:=500) (Eq.mp (by kernel_rfl) (h g))⟩
def dJ(g:Nat→AV)(x13 x1 x0 x12:AV)(H:Heap)(Q:AV→Heap→Prop):Prop :=
 doQ (Zq 3 13 12 x13 x12) fun v1 =>
 br (some v1) (
 doQ (Zs H 43 x0 x13) fun v2 =>
 doQ (Zb H 21 v2) fun v3 =>
 doQ (Zs H 43 x1 x13) fun v4 =>
 doQ (Zb H 21 v4) fun v5 =>
 doQ (Zx 21 19 23 v3 v5) fun v6 =>
 br (some v6) (
 Q (.v (.bool false)) H) (
 doQ (Ze 3 13 1 x13) fun v7 =>
  GoL env Tryz.f128 0 dH [(13,v7),(1,x1),(0,x0),(12,x12)] H Q)) (
 Q (.v (.bool true)) H)
theorem gM(x13 x1 x0 x12:AV)(H:Heap)(Q:AV→Heap→Prop)(h : ∀g,dJ g x13 x1 x0 x12 H Q):GoL env Tryz.f128 0 dH [(13,x13),(1,x1),(0,x0),(12,x12)] H Q:=c9 fun g=>bq (live:=ib) (cut:=ij) (n:=500) (Eq.mp (by kernel_rfl) (h g))
noncomputable def vQ:Code:=(Tryz.f158.body).getD .skip
def C6:Nat→Option (List Nat):=fun i=>none
def DA:Nat→Bool:=fun i=>false
def vX(g:Nat→AV)(x0:AV)(H:Heap)(Q:AV→Heap→Prop):Prop :=
 doW (Zd H 1 40 x0) fun v1 H1 =>
 doQ (Zh 40 v1 0) fun v2 =>
 doQ (Zb H1 38 v2) fun v3 =>
 doW (Za true H1 5 120 [v3]) fun v4 H2 =>
 doQ (Zl 30 5 0 v4) fun v5 =>
 gQ v5 true (Zh 40 v1 1) fun v6 =>
 gQ v5 true (Zb H2 3 v6) fun v7 =>
 gQ v5 true (Zk 3 9 1 v7) fun v8 =>
 doQ (Zi v5 v8) fun v9 =>
 gQ v9 true (Zh 40 v1 1) fun v10 =>
 gQ v9 true (Zb H2 3 v10) fun v11 =>
 gQ v9 true (ZH 3 14 1099511627776 v11) fun v12 =>
 doQ (Zi v9 v12) fun v13 =>
 doW (Za true H2 17 154 [v13]) fun v14 H3 =>
 Q v14 H3
theorem Cv(x0:AV)(H:Heap)(Q:AV→Heap→Prop)(h : ∀g,vX g x0 H Q):GoL env Tryz.f158 0 [.code vQ] [(0,x0)] H Q:=⟨fun g=>bq (live:=C6) (cut:=DA) (n:=500) (Eq.mp (by kernel_rfl) (h g))⟩
noncomputable def sd:Code:=(Tryz.f159.body).getD .skip
def zj:Nat→Option (List Nat):=fun i=>none
def zD:Nat→Bool:=fun i=>false
def ow(g:Nat→AV)(x0:AV)(H:Heap)(Q:AV→Heap→Prop):Prop :=
 doQ (Zg H 6 43 x0) fun v1 =>
 doQ (Zr 3 6 64 v1) fun v2 =>
 br (some v2) (
 Q (.v (.int .i64 4)) H) (
 doW (Za true H 11 188 [x0,(.fn (.func 186) [] [])]) fun v3 H1 =>
 br (some v3) (
 Q (.v (.int .i64 8)) H1) (
 Q (.v (.int .i64 0)) H1))
theorem yS(x0:AV)(H:Heap)(Q:AV→Heap→Prop)(h : ∀g,ow g x0 H Q):GoL env Tryz.f159 0 [.code sd] [(0,x0)] H Q:=⟨fun g=>bq (live:=zj) (cut:=zD) (n:=500) (Eq.mp (by kernel_rfl) (h g))⟩
noncomputable def si:Code:=(Tryz.f155.body).getD .skip
def zn:Nat→Option (List Nat):=fun i=>none
def zH:Nat→Bool:=fun i=>false
def sF(g:Nat→AV)(x0:AV)(H:Heap)(Q:AV→Heap→Prop):Prop :=
 doW (Zd H 1 36 x0) fun v1 H1 =>
 doQ (Zh 36 v1 0) fun v2 =>
 doQ (Zb H1 5 v2) fun v3 =>
 doQ (qBin env.P .gtr 5 (Operand.tmp 4) (.const (.int .u8 15)) (some v3) (some (a8 15))) fun v4 =>
 br (some v4) (
 Q (.v (.int .i64 8)) H1) (
 Q (.v (.int .i64 0)) H1)
theorem yX(x0:AV)(H:Heap)(Q:AV→Heap→Prop)(h : ∀g,sF g x0 H Q):GoL env Tryz.f155 0 [.code si] [(0,x0)] H Q:=⟨fun g=>bq (live:=zn) (cut:=zH) (n:=500) (Eq.mp (by kernel_rfl) (h g))⟩
noncomputable def vP:Code:=(Tryz.f154.body).getD .skip
def C4:Nat→Option (List Nat):=fun i=>none
def Dy:Nat→Bool:=fun i=>false
def vW(g:Nat→AV)(x0:AV)(H:Heap)(Q:AV→Heap→Prop):Prop :=
 br (some x0) (
 Q (.v (.int .i64 0)) H) (
 Q (.v (.int .i64 8)) H)
theorem Cu(x0:AV)(H:Heap)(Q:AV→Heap→Prop)(h : ∀g,vW g x0 H Q):GoL env Tryz.f154 0 [.code vP] [(0,x0)] H Q:=⟨fun g=>bq (live:=C4) (cut:=Dy) (n:=500) (Eq.mp (by kernel_rfl) (h g))⟩
noncomputable def pX:Code:=(Tryz.f186.body).getD .skip
def wu:Nat→Option (List Nat):=fun i=>none
def wE:Nat→Bool:=fun i=>false
def mm(g:Nat→AV)(x0:AV)(H:Heap)(Q:AV→Heap→Prop):Prop :=
 doQ (qBin env.P .neq 21 (Operand.tmp 3) (.const (.int .i32 (-1))) (some x0) (some (.v (.int .i32 (-1))))) fun v1 =>
 gQ v1 true (ZD x0) fun v2 =>
 gW v1 true H (Za true H 7 187 [v2]) fun v3 H1 =>
 gQ v1 true (ZA v3) fun v4 =>
 doQ (Zi v1 v4) fun v5 =>
 Q v5 H1
theorem we(x0:AV)(H:Heap)(Q:AV→Heap→Prop)(h : ∀g,mm g x0 H Q):GoL env Tryz.f186 0 [.code pX] [(0,x0)] H Q:=⟨fun g=>bq (live:=wu) (cut:=wE) (n:=500) (Eq.mp (by kernel_rfl) (h g))⟩
noncomputable def jC:Code:=(Tryz.f187.body).getD .skip
def nZ:Nat→Option (List Nat):=fun i=>none
def od:Nat→Bool:=fun i=>false
def jD(g:Nat→AV)(x0:AV)(H:Heap)(Q:AV→Heap→Prop):Prop :=
 doQ (qBin env.P .leq 21 (.const (.int .i32 0)) (Operand.tmp 4) (some (.v (.int .i32 0))) (some x0)) fun v1 =>
 gQ v1 true (ZD x0) fun v2 =>
 gQ v1 true (qBin env.P .lss 21 (Operand.tmp 7) (.const (.int .i32 55296)) (some v2) (some (.v (.int .i32 55296)))) fun v3 =>
 doQ (Zi v1 v3) fun v4 =>
 br (some v4) (
 Q (.v (.bool true)) H) (
 doQ (qBin env.P .lss 21 (.const (.int .i32 57343)) (Operand.tmp 11) (some (.v (.int .i32 57343))) (some x0)) fun v5 =>
 gQ v5 true (ZD x0) fun v6 =>
 gQ v5 true (qBin env.P .leq 21 (Operand.tmp 14) (.const (.int .i32 1114111)) (some v6) (some (.v (.int .i32 1114111)))) fun v7 =>
 doQ (Zi v5 v7) fun v8 =>
 br (some v8) (
 Q (.v (.bool true)) H) (
 Q (.v (.bool false)) H))
theorem nW(x0:AV)(H:Heap)(Q:AV→Heap→Prop)(h : ∀g,jD g x0 H Q):GoL env Tryz.f187 0 [.code jC] [(0,x0)] H Q:=⟨fun g=>bq (live:=nZ) (cut:=od) (n:=500) (Eq.mp (by kernel_rfl) (h g))⟩
noncomputable def fP:Code:=(Tryz.f188.body).getD .skip
def jy:Nat→Option (List Nat):=fun i=>none
def jB:Nat→Bool:=fun i=>false
def fQ(g:Nat→AV)(x0 x1:AV)(H:Heap)(Q:AV→Heap→Prop):Prop :=
 doW (Za true H 7 198 [x0,x1]) fun v1 H1 =>
 doQ (Zk 3 7 0 v1) fun v2 =>
 Q v2 H1
theorem jw(x0 x1:AV)(H:Heap)(Q:AV→Heap→Prop)(h : ∀g,fQ g x0 x1 H Q):GoL env Tryz.f188 0 [.code fP] [(0,x0),(1,x1)] H Q:=⟨fun g=>bq (live:=jy) (cut:=jB) (n:=500) (Eq.mp (by kernel_rfl) (h g))⟩
noncomputable def eN:Code:=(Tryz.f198.body).getD .skip
noncomputable def du:List Item:=(cm 2 400 [.code eN]).getD []
def gq:Nat→Option (List Nat):=fun i=>cond (Nat.beq i 2) (some [8,0,1,7]) (none)
def gy:Nat→Bool:=fun i=>false
def gB(g:Nat→AV)(x0 x1:AV)(H:Heap)(Q:AV→Heap→Prop):Prop :=
 doQ (Zg H 7 43 x0) fun v1 =>
  GoL env Tryz.f198 0 du [(8,(.v (.int .i64 0))),(0,x0),(1,x1),(7,v1)] H Q
theorem ke(x0 x1:AV)(H:Heap)(Q:AV→Heap→Prop)(h : ∀g,gB g x0 x1 H Q):GoL env Tryz.f198 0 [.code eN] [(0,x0),(1,x1)] H Q:=⟨fun g=>bq (live:=gq) (cut:=gy) (n:=500) (Eq.mp (by kernel_rfl) (h g))⟩
def dv(g:Nat→AV)(x8 x0 x1 x7:AV)(H:Heap)(Q:AV→Heap→Prop):Prop :=
 doQ (Zq 3 8 7 x8 x7) fun v1 =>
 br (some v1) (
 doQ (Zs H 43 x0 x8) fun v2 =>
 doQ (Zb H 21 v2) fun v3 =>
 doW (ZB H 16 x1 v3) fun v4 H1 =>
 br (some v4) (
 Q x8 H1) (
 doQ (Ze 3 8 1 x8) fun v5 =>
  GoL env Tryz.f198 0 du [(8,v5),(0,x0),(1,x1),(7,x7)] H1 Q)) (
 Q (.v (.int .i64 (-1))) H)
theorem fT(x8 x0 x1 x7:AV)(H:Heap)(Q:AV→Heap→Prop)(h : ∀g,dv g x8 x0 x1 x7 H Q):GoL env Tryz.f198 0 du [(8,x8),(0,x0),(1,x1),(7,x7)] H Q:=c9 fun g=>bq (live:=gq) (cut:=gy) (n:=500) (Eq.mp (by kernel_rfl) (h g))
noncomputable def mK:Code:=(Tryz.f121.body).getD .skip
noncomputable def nf:List Item:=(cm 2 400 [.code mK]).getD []
def tP:Nat→Option (List Nat):=fun i=>cond (Nat.beq i 2) (some [5,0,4]) (none)
def ue:Nat→Bool:=fun i=>false
def pK(g:Nat→AV)(x0 x1:AV)(H:Heap)(Q:AV→Heap→Prop):Prop :=
 doQ (Zw 3 6 1 x1) fun v1 =>
  GoL env Tryz.f121 0 nf [(5,v1),(0,x0),(4,(.v (.slice none 0 0)))] H Q
theorem tl(x0 x1:AV)(H:Heap)(Q:AV→Heap→Prop)(h : ∀g,pK g x0 x1 H Q):GoL env Tryz.f121 0 [.code mK] [(0,x0),(1,x1)] H Q:=⟨fun g=>bq (live:=tP) (cut:=ue) (n:=500) (Eq.mp (by kernel_rfl) (h g))⟩
def cX(g:Nat→AV)(x5 x0 x4:AV)(H:Heap)(Q:AV→Heap→Prop):Prop :=
 doQ (Zk 3 8 0 x5) fun v1 =>
 br (some v1) (
 doQ (ZI 3 8 14 x5) fun v2 =>
 doQ (Z1 3 13 15 x0 v2) fun v3 =>
 doQ (Zp H 17 3 5 v3) fun v4 =>
 doW (Zz H 18 76 1 0 v4) fun v5 H1 =>
 doW (Zt H1 19 76 76 x4 v5) fun v6 H2 =>
 doQ (Zw 3 10 1 x5) fun v7 =>
  GoL env Tryz.f121 0 nf [(5,v7),(0,x0),(4,v6)] H2 Q) (
 Q x4 H)
theorem dg(x5 x0 x4:AV)(H:Heap)(Q:AV→Heap→Prop)(h : ∀g,cX g x5 x0 x4 H Q):GoL env Tryz.f121 0 nf [(5,x5),(0,x0),(4,x4)] H Q:=c9 fun g=>bq (live:=tP) (cut:=ue) (n:=500) (Eq.mp (by kernel_rfl) (h g))
noncomputable def ta:Code:=(Tryz.f202.body).getD .skip
noncomputable def mG:List Item:=(cm 2 400 [.code ta]).getD []
def xS:Nat→Option (List Nat):=fun i=>cond (Nat.beq i 2) (some [7,2,5,6]) (none)
def ym:Nat→Bool:=fun i=>false
def yH(g:Nat→AV)(x0:AV)(H:Heap)(Q:AV→Heap→Prop):Prop :=
 doQ (Zg H 6 76 x0) fun v1 =>
  GoL env Tryz.f202 0 mG [(7,(.v (.int .i64 0))),(2,(.v (.int .i64 0))),(5,x0),(6,v1)] H Q
theorem D8(x0:AV)(H:Heap)(Q:AV→Heap→Prop)(h : ∀g,yH g x0 H Q):GoL env Tryz.f202 0 [.code ta] [(0,x0)] H Q:=⟨fun g=>bq (live:=xS) (cut:=ym) (n:=500) (Eq.mp (by kernel_rfl) (h g))⟩
def pJ(g:Nat→AV)(x7 x2 x5 x6:AV)(H:Heap)(Q:AV→Heap→Prop):Prop :=
 doQ (Zq 3 7 6 x7 x6) fun v1 =>
 br (some v1) (
 doQ (Zs H 76 x5 x7) fun v2 =>
 doQ (Zb H 5 v2) fun v3 =>
 doQ (ZL 3 11 x2) fun v4 =>
 doQ (Zp H 14 5 3 v3) fun v5 =>
 doQ (ZN 3 12 14 v4 v5) fun v6 =>
 doQ (Ze 3 7 1 x7) fun v7 =>
  GoL env Tryz.f202 0 mG [(7,v7),(2,v6),(5,x5),(6,x6)] H Q) (
 Q x2 H)
theorem tk(x7 x2 x5 x6:AV)(H:Heap)(Q:AV→Heap→Prop)(h : ∀g,pJ g x7 x2 x5 x6 H Q):GoL env Tryz.f202 0 mG [(7,x7),(2,x2),(5,x5),(6,x6)] H Q:=c9 fun g=>bq (live:=xS) (cut:=ym) (n:=500) (Eq.mp (by kernel_rfl) (h g))
noncomputable def qZ:Code:=(Tryz.f193.body).getD .skip
def C5:Nat→Option (List Nat):=fun i=>none
def Dz:Nat→Bool:=fun i=>false
def rg(g:Nat→AV)(x0:AV)(H:Heap)(Q:AV→Heap→Prop):Prop :=
 doW (Zf H 2 248) fun v1 H1 =>
 doQ (Zv H1 76 x0 0) fun v2 =>
 doQ (Zb H1 5 v2) fun v3 =>
 doQ (Ys H1 76 x0) fun v4 =>
 doW (Za false H1 9 202 [v4]) fun v5 H2 =>
 doQ (Zp H2 10 3 34 v5) fun v6 =>
 doQ (Yt 36 0 v3 1 v6) fun v7 =>
 doQ (Zv H2 76 x0 5) fun v8 =>
 doQ (Zb H2 5 v8) fun v9 =>
 doQ (Yt 38 0 v7 1 v9) fun v10 =>
 doQ (Z0 248 0 v10) fun v11 =>
 doW (Zf H2 3 248) fun v12 H3 =>
 doW (Zj H3 248 v12 v11) fun v13 H4 =>
 doQ (Zh 248 v12 0) fun v14 =>
 doQ (Zb H4 38 v14) fun v15 =>
 doW (Za true H4 19 120 [v15]) fun v16 H5 =>
 doQ (Zh 248 v12 1) fun v17 =>
 doW (Zj H5 30 v17 v16) fun v18 H6 =>
 doQ (Zb H6 248 v12) fun v19 =>
 doW (Zj H6 248 v1 v19) fun v20 H7 =>
 doQ (ZJ H7 v1 248) fun v21 =>
 Q v21 H7
theorem vt(x0:AV)(H:Heap)(Q:AV→Heap→Prop)(h : ∀g,rg g x0 H Q):GoL env Tryz.f193 0 [.code qZ] [(0,x0)] H Q:=⟨fun g=>bq (live:=C5) (cut:=Dz) (n:=500) (Eq.mp (by kernel_rfl) (h g))⟩
noncomputable def pZ:Code:=(Tryz.f175.body).getD .skip
def wy:Nat→Option (List Nat):=fun i=>none
def wG:Nat→Bool:=fun i=>false
def qb(g:Nat→AV)(x0:AV)(H:Heap)(Q:AV→Heap→Prop):Prop :=
 doW (Zf H 2 38) fun v1 H1 =>
 doQ (Zg H1 6 76 x0) fun v2 =>
 doQ (Zc 3 6 6 v2) fun v3 =>
 br (some v3) (
 doQ (ZC 38) fun v4 =>
 doW (Zj H1 38 v1 v4) fun v5 H2 =>
 doQ (ZJ H2 v1 38) fun v6 =>
 Q (.tup [v6,(.v (.int .i64 8))]) H2) (
 doW (Za true H1 10 193 [x0]) fun v4 H2 =>
 doW (Zf H2 4 248) fun v5 H3 =>
 doW (Zj H3 248 v5 v4) fun v6 H4 =>
 doQ (Zh 248 v5 1) fun v7 =>
 doQ (Zb H4 30 v7) fun v8 =>
 doQ (Zc 30 12 0 v8) fun v9 =>
 br (some v9) (
 doQ (ZC 38) fun v10 =>
 doQ (Zh 248 v5 1) fun v11 =>
 doQ (Zb H4 30 v11) fun v12 =>
 doW (Zj H4 38 v1 v10) fun v13 H5 =>
  oX [(v11,v1)] [v1] [] H5 ∧
 (doQ (ZJ H5 v1 38) fun v14 =>
 Q (.tup [v14,v12]) H5)) (
 doQ (Zh 248 v5 0) fun v10 =>
 doQ (Zb H4 38 v10) fun v11 =>
 doW (Zj H4 38 v1 v11) fun v12 H5 =>
 doQ (ZJ H5 v1 38) fun v13 =>
 Q (.tup [v13,(.v (.int .i64 0))]) H5))
theorem wh(x0:AV)(H:Heap)(Q:AV→Heap→Prop)(h : ∀g,qb g x0 H Q):GoL env Tryz.f175 0 [.code pZ] [(0,x0)] H Q:=⟨fun g=>bq (live:=wy) (cut:=wG) (n:=500) (Eq.mp (by kernel_rfl) (h g))⟩
noncomputable def Aq:Code:=(Tryz.f203.body).getD .skip
def Hl:Nat→Option (List Nat):=fun i=>none
def HI:Nat→Bool:=fun i=>false
def Au(g:Nat→AV)(x0:AV)(H:Heap)(Q:AV→Heap→Prop):Prop :=
 doW (Zf H 2 40) fun v1 H1 =>
 doQ (Zg H1 7 76 x0) fun v2 =>
 doQ (Zc 3 7 13 v2) fun v3 =>
 br (some v3) (
 doQ (ZC 40) fun v4 =>
 doW (Zj H1 40 v1 v4) fun v5 H2 =>
 doQ (ZJ H2 v1 40) fun v6 =>
 Q (.tup [v6,(.v (.int .i64 8))]) H2) (
 doW (Za false H1 11 193 [x0]) fun v4 H2 =>
 doQ (rV env.P 248 (some v4) 0) fun v5 =>
 doQ (cw env.P (Heap.get H2) 76 (some x0) (oi (.v (.int .i64 6))) (some none) (some none)) fun v6 =>
 doW (Za false H2 15 202 [v6]) fun v7 H3 =>
 doQ (Yt 40 0 v5 1 v7) fun v8 =>
 doW (Zf H3 4 40) fun v9 H4 =>
 doW (Zj H4 40 v9 v8) fun v10 H5 =>
 doQ (Zb H5 40 v9) fun v11 =>
 doW (Za true H5 18 158 [v11]) fun v12 H6 =>
 doQ (Zc 30 19 0 v12) fun v13 =>
 br (some v13) (
 doQ (ZC 40) fun v14 =>
 doW (Zj H6 40 v1 v14) fun v15 H7 =>
 doQ (ZJ H7 v1 40) fun v16 =>
 Q (.tup [v16,v12]) H7) (
 doQ (Zb H6 40 v9) fun v14 =>
 doW (Zj H6 40 v1 v14) fun v15 H7 =>
 doQ (ZJ H7 v1 40) fun v16 =>
 Q (.tup [v16,(.v (.int .i64 0))]) H7))
theorem GG(x0:AV)(H:Heap)(Q:AV→Heap→Prop)(h : ∀g,Au g x0 H Q):GoL env Tryz.f203 0 [.code Aq] [(0,x0)] H Q:=⟨fun g=>bq (live:=Hl) (cut:=HI) (n:=500) (Eq.mp (by kernel_rfl) (h g))⟩
noncomputable def pY:Code:=(Tryz.f81.body).getD .skip
def wx:Nat→Option (List Nat):=fun i=>none
def wF:Nat→Bool:=fun i=>false
def mq(g:Nat→AV)(x0:AV)(H:Heap)(Q:AV→Heap→Prop):Prop :=
 doW (Zd H 1 38 x0) fun v1 H1 =>
 doQ (Zb H1 38 v1) fun v2 =>
 doW (Za true H1 6 120 [v2]) fun v3 H2 =>
 doQ (Zc 30 7 0 v3) fun v4 =>
 br (some v4) (
 Q (.tup [(.v (.slice none 0 0)),v3]) H2) (
 doQ (Zh 38 v1 0) fun v5 =>
 doQ (Zh 36 v5 0) fun v6 =>
 doQ (Zb H2 5 v6) fun v7 =>
 doW (gY env.P true false H2 (Ref.mk 0 13 (Heap.gen H2 0 13) 0) 76 1 (some [(0,v7)])) fun v8 H3 =>
 doQ (Zh 38 v1 0) fun v9 =>
 doQ (Zh 36 v9 1) fun v10 =>
 doQ (Zb H3 34 v10) fun v11 =>
 doQ (Zp H3 17 34 3 v11) fun v12 =>
 doW (Za false H3 18 121 [v12,(.v (.int .i64 4))]) fun v13 H4 =>
 doW (cz env.P false H4 (Ref.mk 0 19 (Heap.gen H4 0 19) 0) (some 76) (some 76) v8 v13) fun v14 H5 =>
 doQ (Zh 38 v1 1) fun v15 =>
 doQ (Zb H5 5 v15) fun v16 =>
 doW (gY env.P true false H5 (Ref.mk 0 22 (Heap.gen H5 0 22) 0) 76 1 (some [(0,v16)])) fun v17 H6 =>
 doW (Zt H6 23 76 76 v14 v17) fun v18 H7 =>
 Q (.tup [v18,(.v (.int .i64 0))]) H7)
theorem wg(x0:AV)(H:Heap)(Q:AV→Heap→Prop)(h : ∀g,mq g x0 H Q):GoL env Tryz.f81 0 [.code pY] [(0,x0)] H Q:=⟨fun g=>bq (live:=wx) (cut:=wF) (n:=500) (Eq.mp (by kernel_rfl) (h g))⟩
noncomputable def Ap:Code:=(Tryz.f123.body).getD .skip
def Hk:Nat→Option (List Nat):=fun i=>none
def HH:Nat→Bool:=fun i=>false
def vp(g:Nat→AV)(x0:AV)(H:Heap)(Q:AV→Heap→Prop):Prop :=
 doW (Zd H 1 40 x0) fun v1 H1 =>
 doQ (Zb H1 40 v1) fun v2 =>
 doW (Za true H1 8 158 [v2]) fun v3 H2 =>
 doQ (Zc 30 9 0 v3) fun v4 =>
 br (some v4) (
 Q (.tup [(.v (.slice none 0 0)),v3]) H2) (
 doQ (Zh 40 v1 0) fun v5 =>
 doQ (Zb H2 38 v5) fun v6 =>
 doW (Za true H2 15 81 [v6]) fun v7 H3 =>
 doQ (Zy v7 0) fun v8 =>
 doQ (Zy v7 1) fun v9 =>
 doQ (Zh 40 v1 1) fun v10 =>
 doQ (Zb H3 3 v10) fun v11 =>
 doW (Za true H3 21 121 [v11,(.v (.int .i64 7))]) fun v12 H4 =>
 doW (Zt H4 22 76 76 v8 v12) fun v13 H5 =>
 Q (.tup [v13,v9]) H5)
theorem GF(x0:AV)(H:Heap)(Q:AV→Heap→Prop)(h : ∀g,vp g x0 H Q):GoL env Tryz.f123 0 [.code Ap] [(0,x0)] H Q:=⟨fun g=>bq (live:=Hk) (cut:=HH) (n:=500) (Eq.mp (by kernel_rfl) (h g))⟩
noncomputable def uC:Code:=(Tryz.f38.body).getD .skip
def BF:Nat→Option (List Nat):=fun i=>none
def B0:Nat→Bool:=fun i=>false
def kN(g:Nat→AV)(x0 x1:AV)(H:Heap)(Q:AV→Heap→Prop):Prop :=
 doW (Zd H 2 24 x0) fun v1 H1 =>
 doW (Zf H1 4 24) fun v2 H2 =>
 doQ (Zb H2 24 v1) fun v3 =>
 doW (Za true H2 8 45 [v3]) fun v4 H3 =>
 doQ (Zc 30 9 0 v4) fun v5 =>
 br (some v5) (
 doQ (ZC 24) fun v6 =>
 doW (Zj H3 24 v2 v6) fun v7 H4 =>
 doQ (ZJ H4 v2 24) fun v8 =>
 Q (.tup [v8,v4]) H4) (
 doQ (Yp 3 14 x1) fun v6 =>
 gQ v6 false (ZD x1) fun v7 =>
 gQ v6 false (Zk 3 17 2147483648 v7) fun v8 =>
 doQ (Zm v6 v8) fun v9 =>
 br (some v9) (
 doQ (ZC 24) fun v10 =>
 doW (Zj H3 24 v2 v10) fun v11 H4 =>
 doQ (ZJ H4 v2 24) fun v12 =>
 Q (.tup [v12,(.v (.int .i64 2))]) H4) (
 doQ (Zh 24 v1 1) fun v10 =>
 doQ (Zb H3 3 v10) fun v11 =>
 doQ (Ze 3 23 1 v11) fun v12 =>
 doQ (Zk 3 24 2147483648 v12) fun v13 =>
 br (some v13) (
 doQ (ZC 24) fun v14 =>
 doW (Zj H3 24 v2 v14) fun v15 H4 =>
 doQ (ZJ H4 v2 24) fun v16 =>
 Q (.tup [v16,(.v (.int .i64 9))]) H4) (
 doQ (Zb H3 24 v1) fun v14 =>
 doW (Za true H3 28 49 [v14]) fun v15 H4 =>
 doW (Zj H4 24 v1 v15) fun v16 H5 =>
 doQ (Zh 24 v1 1) fun v17 =>
 doQ (Zb H5 3 v17) fun v18 =>
 doQ (Ze 3 30 1 v18) fun v19 =>
 doQ (Zh 24 v1 1) fun v20 =>
 doW (Zj H5 3 v20 v19) fun v21 H6 =>
 doQ (Zh 24 v1 2) fun v22 =>
 doW (Zj H6 3 v22 x1) fun v23 H7 =>
 doQ (Zh 24 v1 3) fun v24 =>
 doW (ax env.P H7 4 (some v24) (some (AV.v (Value.bool false)))) fun v25 H8 =>
 doQ (Zb H8 24 v1) fun v26 =>
 doW (Zj H8 24 v2 v26) fun v27 H9 =>
 doQ (ZJ H9 v2 24) fun v28 =>
 Q (.tup [v28,(.v (.int .i64 0))]) H9)))
theorem AS(x0 x1:AV)(H:Heap)(Q:AV→Heap→Prop)(h : ∀g,kN g x0 x1 H Q):GoL env Tryz.f38 0 [.code uC] [(0,x0),(1,x1)] H Q:=⟨fun g=>bq (live:=BF) (cut:=B0) (n:=500) (Eq.mp (by kernel_rfl) (h g))⟩
noncomputable def yz:Code:=(Tryz.f39.body).getD .skip
def EK:Nat→Option (List Nat):=fun i=>none
def Fh:Nat→Bool:=fun i=>false
def yJ(g:Nat→AV)(H:Heap)(Q:AV→Heap→Prop):Prop :=
 doW (Zf H 0 24) fun v1 H1 =>
 doQ (bN env.P 24 (some [(2,(.v (.int .i64 (-1))))])) fun v2 =>
 doW (Zj H1 24 v1 v2) fun v3 H2 =>
 doQ (ZJ H2 v1 24) fun v4 =>
 Q v4 H2
theorem Ea(H:Heap)(Q:AV→Heap→Prop)(h : ∀g,yJ g  H Q):GoL env Tryz.f39 0 [.code yz] [] H Q:=⟨fun g=>bq (live:=EK) (cut:=Fh) (n:=500) (Eq.mp (by kernel_rfl) (h g))⟩
noncomputable def pE:Code:=(Tryz.f71.body).getD .skip
def BE:Nat→Option (List Nat):=fun i=>none
def BZ:Nat→Bool:=fun i=>false
def eO(g:Nat→AV)(x0 x1 x2:AV)(H:Heap)(Q:AV→Heap→Prop):Prop :=
 doW (Zd H 3 24 x0) fun v1 H1 =>
 doW (Zf H1 6 24) fun v2 H2 =>
 doQ (Zb H2 24 v1) fun v3 =>
 doW (Za true H2 13 110 [v3,x1]) fun v4 H3 =>
 doQ (Zc 30 14 0 v4) fun v5 =>
 br (some v5) (
 doQ (ZC 24) fun v6 =>
 doW (Zj H3 24 v2 v6) fun v7 H4 =>
 doQ (ZJ H4 v2 24) fun v8 =>
 Q (.tup [v8,v4]) H4) (
 doQ (Zg H3 19 76 x2) fun v6 =>
 doQ (Zc 3 19 128 v6) fun v7 =>
 br (some v7) (
 doQ (ZC 24) fun v8 =>
 doW (Zj H3 24 v2 v8) fun v9 H4 =>
 doQ (ZJ H4 v2 24) fun v10 =>
 Q (.tup [v10,(.v (.int .i64 2))]) H4) (
 doQ (Zb H3 24 v1) fun v8 =>
 doW (Za true H3 23 49 [v8]) fun v9 H4 =>
 doW (Zj H4 24 v1 v9) fun v10 H5 =>
 doQ (Zh 24 v1 3) fun v11 =>
 doQ (Zb H5 4 v11) fun v12 =>
 gQ v12 false (Zh 24 v1 2) fun v13 =>
 gQ v12 false (Zb H5 3 v13) fun v14 =>
 gQ v12 false (Zl 3 29 0 v14) fun v15 =>
 doQ (Zm v12 v15) fun v16 =>
 br (some v16) (
 doQ (Zh 24 v1 3) fun v17 =>
 doW (ax env.P H5 4 (some v17) (some (AV.v (Value.bool true)))) fun v18 H6 =>
 doQ (Zb H6 24 v1) fun v19 =>
 doW (Zj H6 24 v2 v19) fun v20 H7 =>
 doQ (ZJ H7 v2 24) fun v21 =>
 Q (.tup [v21,(.v (.int .i64 0))]) H7) (
 doQ (Zh 24 v1 2) fun v17 =>
 doQ (Zb H5 3 v17) fun v18 =>
 doQ (Zr 3 36 0 v18) fun v19 =>
 br (some v19) (
 doQ (Zh 24 v1 2) fun v20 =>
 doQ (Zb H5 3 v20) fun v21 =>
 doQ (Zw 3 39 1 v21) fun v22 =>
 doQ (Zh 24 v1 2) fun v23 =>
 doW (Zj H5 3 v23 v22) fun v24 H6 =>
 doQ (Zb H6 24 v1) fun v25 =>
 doW (Za true H6 45 111 [v25,x1]) fun v26 H7 =>
 doQ (Zy v26 0) fun v27 =>
 doQ (Zy v26 1) fun v28 =>
 doQ (ZA v28) fun v29 =>
 br (some v29) (
 doQ (Zh 24 v1 0) fun v30 =>
 doQ (Zb H7 22 v30) fun v31 =>
 doQ (Z0 78 0 x1) fun v32 =>
 doW (Zz H7 55 22 1 0 v32) fun v33 H8 =>
 doW (Za true H8 56 112 [v31,v27,v33]) fun v34 H9 =>
 doQ (Zh 24 v1 0) fun v35 =>
 doW (Zj H9 22 v35 v34) fun v36 H10 =>
 doQ (Zh 24 v1 0) fun v37 =>
 doQ (Zb H10 22 v37) fun v38 =>
 doW (Za false H10 62 79 [x2]) fun v39 H11 =>
 doQ (Zs H11 22 v38 v27) fun v40 =>
 doQ (Zh 78 v40 1) fun v41 =>
 doW (Zj H11 76 v41 v39) fun v42 H12 =>
 doQ (Zb H12 24 v1) fun v43 =>
 doW (Zj H12 24 v2 v43) fun v44 H13 =>
 doQ (ZJ H13 v2 24) fun v45 =>
 Q (.tup [v45,(.v (.int .i64 0))]) H13) (
 doQ (Zh 24 v1 0) fun v30 =>
 doQ (Zb H7 22 v30) fun v31 =>
 doW (Za false H7 62 79 [x2]) fun v32 H8 =>
 doQ (Zs H8 22 v31 v27) fun v33 =>
 doQ (Zh 78 v33 1) fun v34 =>
 doW (Zj H8 76 v34 v32) fun v35 H9 =>
 doQ (Zb H9 24 v1) fun v36 =>
 doW (Zj H9 24 v2 v36) fun v37 H10 =>
 doQ (ZJ H10 v2 24) fun v38 =>
 Q (.tup [v38,(.v (.int .i64 0))]) H10)) (
 doQ (Zb H5 24 v1) fun v20 =>
 doW (Za true H5 45 111 [v20,x1]) fun v21 H6 =>
 doQ (Zy v21 0) fun v22 =>
 doQ (Zy v21 1) fun v23 =>
 doQ (ZA v23) fun v24 =>
 br (some v24) (
 doQ (Zh 24 v1 0) fun v25 =>
 doQ (Zb H6 22 v25) fun v26 =>
 doQ (Z0 78 0 x1) fun v27 =>
 doW (Zz H6 55 22 1 0 v27) fun v28 H7 =>
 doW (Za true H7 56 112 [v26,v22,v28]) fun v29 H8 =>
 doQ (Zh 24 v1 0) fun v30 =>
 doW (Zj H8 22 v30 v29) fun v31 H9 =>
 doQ (Zh 24 v1 0) fun v32 =>
 doQ (Zb H9 22 v32) fun v33 =>
 doW (Za false H9 62 79 [x2]) fun v34 H10 =>
 doQ (Zs H10 22 v33 v22) fun v35 =>
 doQ (Zh 78 v35 1) fun v36 =>
 doW (Zj H10 76 v36 v34) fun v37 H11 =>
 doQ (Zb H11 24 v1) fun v38 =>
 doW (Zj H11 24 v2 v38) fun v39 H12 =>
 doQ (ZJ H12 v2 24) fun v40 =>
 Q (.tup [v40,(.v (.int .i64 0))]) H12) (
 doQ (Zh 24 v1 0) fun v25 =>
 doQ (Zb H6 22 v25) fun v26 =>
 doW (Za false H6 62 79 [x2]) fun v27 H7 =>
 doQ (Zs H7 22 v26 v22) fun v28 =>
 doQ (Zh 78 v28 1) fun v29 =>
 doW (Zj H7 76 v29 v27) fun v30 H8 =>
 doQ (Zb H8 24 v1) fun v31 =>
 doW (Zj H8 24 v2 v31) fun v32 H9 =>
 doQ (ZJ H9 v2 24) fun v33 =>
 Q (.tup [v33,(.v (.int .i64 0))]) H9)))))
theorem tp(x0 x1 x2:AV)(H:Heap)(Q:AV→Heap→Prop)(h : ∀g,eO g x0 x1 x2 H Q):GoL env Tryz.f71 0 [.code pE] [(0,x0),(1,x1),(2,x2)] H Q:=⟨fun g=>bq (live:=BE) (cut:=BZ) (n:=500) (Eq.mp (by kernel_rfl) (h g))⟩
noncomputable def pF:Code:=(Tryz.f45.body).getD .skip
noncomputable def kD:List Item:=(cm 3 400 [.code pF]).getD []
def tS:Nat→Option (List Nat):=fun i=>cond (Nat.beq i 3) (some [9,3,7,1,8]) (none)
def ug:Nat→Bool:=fun i=>false
def uK(g:Nat→AV)(x0:AV)(H:Heap)(Q:AV→Heap→Prop):Prop :=
 doW (Zd H 1 24 x0) fun v1 H1 =>
 doQ (Zh 24 v1 0) fun v2 =>
 doQ (Zb H1 22 v2) fun v3 =>
 doQ (Zg H1 8 22 v3) fun v4 =>
  GoL env Tryz.f45 0 kD [(9,(.v (.int .i64 0))),(3,(.v (.int .i64 (-1)))),(7,v3),(1,v1),(8,v4)] H1 Q
theorem AT(x0:AV)(H:Heap)(Q:AV→Heap→Prop)(h : ∀g,uK g x0 H Q):GoL env Tryz.f45 0 [.code pF] [(0,x0)] H Q:=⟨fun g=>bq (live:=tS) (cut:=ug) (n:=500) (Eq.mp (by kernel_rfl) (h g))⟩
def ny(g:Nat→AV)(x9 x3 x7 x1 x8:AV)(H:Heap)(Q:AV→Heap→Prop):Prop :=
 doQ (Zq 3 9 8 x9 x8) fun v1 =>
 br (some v1) (
 doQ (Zs H 22 x7 x9) fun v2 =>
 doQ (Zb H 78 v2) fun v3 =>
 doW (Zf H 5 78) fun v4 H1 =>
 doW (Zj H1 78 v4 v3) fun v5 H2 =>
 doQ (Zh 78 v4 0) fun v6 =>
 doQ (Zb H2 3 v6) fun v7 =>
 doQ (qBin env.P .leq 3 (Operand.tmp 14) (Operand.tmp 15) (some v7) (some x3)) fun v8 =>
 gQ v8 false (Zh 78 v4 0) fun v9 =>
 gQ v8 false (Zb H2 3 v9) fun v10 =>
 gQ v8 false (Zk 3 19 6146 v10) fun v11 =>
 doQ (Zm v8 v11) fun v12 =>
 gQ v12 false (Zh 78 v4 1) fun v13 =>
 gQ v12 false (Zb H2 76 v13) fun v14 =>
 gQ v12 false (Zg H2 25 76 v14) fun v15 =>
 gQ v12 false (Zc 3 25 128 v15) fun v16 =>
 doQ (Zm v12 v16) fun v17 =>
 br (some v17) (
 Q (.v (.int .i64 8)) H2) (
 doQ (Zh 78 v4 0) fun v18 =>
 doQ (Zb H2 3 v18) fun v19 =>
 doQ (Ze 3 9 1 x9) fun v20 =>
  GoL env Tryz.f45 0 kD [(9,v20),(3,v19),(7,x7),(1,x1),(8,x8)] H2 Q)) (
 doQ (Zh 24 x1 1) fun v2 =>
 doQ (Zb H 3 v2) fun v3 =>
 doQ (Zn 3 32 0 v3) fun v4 =>
 gQ v4 false (Zh 24 x1 1) fun v5 =>
 gQ v4 false (Zb H 3 v5) fun v6 =>
 gQ v4 false (Zk 3 36 2147483648 v6) fun v7 =>
 doQ (Zm v4 v7) fun v8 =>
 gQ v8 false (Zh 24 x1 2) fun v9 =>
 gQ v8 false (Zb H 3 v9) fun v10 =>
 gQ v8 false (Yp 3 41 v10) fun v11 =>
 doQ (Zm v8 v11) fun v12 =>
 gQ v12 false (Zh 24 x1 2) fun v13 =>
 gQ v12 false (Zb H 3 v13) fun v14 =>
 gQ v12 false (Zk 3 46 2147483648 v14) fun v15 =>
 doQ (Zm v12 v15) fun v16 =>
 gQ v16 false (Zh 24 x1 3) fun v17 =>
 gQ v16 false (Zb H 4 v17) fun v18 =>
 gQ v16 false (ZD v18) fun v19 =>
 gQ v19 true (Zh 24 x1 2) fun v20 =>
 gQ v19 true (Zb H 3 v20) fun v21 =>
 gQ v19 true (Zc 3 54 0 v21) fun v22 =>
 gQ v16 false (Zi v19 v22) fun v23 =>
 doQ (Zm v16 v23) fun v24 =>
 br (some v24) (
 Q (.v (.int .i64 8)) H) (
 Q (.v (.int .i64 0)) H))
theorem qp(x9 x3 x7 x1 x8:AV)(H:Heap)(Q:AV→Heap→Prop)(h : ∀g,ny g x9 x3 x7 x1 x8 H Q):GoL env Tryz.f45 0 kD [(9,x9),(3,x3),(7,x7),(1,x1),(8,x8)] H Q:=c9 fun g=>bq (live:=tS) (cut:=ug) (n:=500) (Eq.mp (by kernel_rfl) (h g))
noncomputable def q5:Code:=(Tryz.f49.body).getD .skip
noncomputable def ly:List Item:=(cm 3 400 [.code q5]).getD []
def vF:Nat→Option (List Nat):=fun i=>cond (Nat.beq i 3) (some [10,3,2,1,9]) (none)
def vM:Nat→Bool:=fun i=>false
def nV(g:Nat→AV)(x0:AV)(H:Heap)(Q:AV→Heap→Prop):Prop :=
 doW (Zd H 1 24 x0) fun v1 H1 =>
 doW (Zf H1 2 24) fun v2 H2 =>
 doQ (Zh 24 v1 0) fun v3 =>
 doQ (Zb H2 22 v3) fun v4 =>
 doW (Za true H2 7 78 [v4]) fun v5 H3 =>
 doQ (Zg H3 9 22 v5) fun v6 =>
  GoL env Tryz.f49 0 ly [(10,(.v (.int .i64 0))),(3,v5),(2,v2),(1,v1),(9,v6)] H3 Q
theorem Cy(x0:AV)(H:Heap)(Q:AV→Heap→Prop)(h : ∀g,nV g x0 H Q):GoL env Tryz.f49 0 [.code q5] [(0,x0)] H Q:=⟨fun g=>bq (live:=vF) (cut:=vM) (n:=500) (Eq.mp (by kernel_rfl) (h g))⟩
def jE(g:Nat→AV)(x10 x3 x2 x1 x9:AV)(H:Heap)(Q:AV→Heap→Prop):Prop :=
 doQ (Zq 3 10 9 x10 x9) fun v1 =>
 br (some v1) (
 doQ (Zs H 22 x3 x10) fun v2 =>
 doQ (Zh 78 v2 1) fun v3 =>
 doQ (Zb H 76 v3) fun v4 =>
 doW (Za true H 20 79 [v4]) fun v5 H1 =>
 doQ (Zs H1 22 x3 x10) fun v6 =>
 doQ (Zh 78 v6 1) fun v7 =>
 doW (Zj H1 76 v7 v5) fun v8 H2 =>
 doQ (Ze 3 10 1 x10) fun v9 =>
  GoL env Tryz.f49 0 ly [(10,v9),(3,x3),(2,x2),(1,x1),(9,x9)] H2 Q) (
 doQ (Zh 24 x1 0) fun v2 =>
 doW (Zj H 22 v2 x3) fun v3 H1 =>
 doQ (Zb H1 24 x1) fun v4 =>
 doW (Zj H1 24 x2 v4) fun v5 H2 =>
 doQ (ZJ H2 x2 24) fun v6 =>
 Q v6 H2)
theorem k9(x10 x3 x2 x1 x9:AV)(H:Heap)(Q:AV→Heap→Prop)(h : ∀g,jE g x10 x3 x2 x1 x9 H Q):GoL env Tryz.f49 0 ly [(10,x10),(3,x3),(2,x2),(1,x1),(9,x9)] H Q:=c9 fun g=>bq (live:=vF) (cut:=vM) (n:=500) (Eq.mp (by kernel_rfl) (h g))
noncomputable def uB:Code:=(Tryz.f110.body).getD .skip
def BD:Nat→Option (List Nat):=fun i=>none
def BY:Nat→Bool:=fun i=>false
def pL(g:Nat→AV)(x0 x1:AV)(H:Heap)(Q:AV→Heap→Prop):Prop :=
 doW (Zd H 2 24 x0) fun v1 H1 =>
 doQ (Zb H1 24 v1) fun v2 =>
 doW (Za true H1 7 45 [v2]) fun v3 H2 =>
 doQ (Zc 30 8 0 v3) fun v4 =>
 br (some v4) (
 Q v3 H2) (
 doQ (Zn 3 11 0 x1) fun v5 =>
 gQ v5 false (ZD x1) fun v6 =>
 gQ v5 false (Zk 3 14 6146 v6) fun v7 =>
 doQ (Zm v5 v7) fun v8 =>
 br (some v8) (
 Q (.v (.int .i64 2)) H2) (
 Q (.v (.int .i64 0)) H2))
theorem AR(x0 x1:AV)(H:Heap)(Q:AV→Heap→Prop)(h : ∀g,pL g x0 x1 H Q):GoL env Tryz.f110 0 [.code uB] [(0,x0),(1,x1)] H Q:=⟨fun g=>bq (live:=BD) (cut:=BY) (n:=500) (Eq.mp (by kernel_rfl) (h g))⟩
noncomputable def vS:Code:=(Tryz.f111.body).getD .skip
def C9:Nat→Option (List Nat):=fun i=>none
def DD:Nat→Bool:=fun i=>false
def vY(g:Nat→AV)(x0 x1:AV)(H:Heap)(Q:AV→Heap→Prop):Prop :=
 doW (Zd H 2 24 x0) fun v1 H1 =>
 doQ (Zh 24 v1 0) fun v2 =>
 doQ (Zb H1 22 v2) fun v3 =>
 doW (Za true H1 9 147 [v3,x1,(.fn (.func 148) [] [])]) fun v4 H2 =>
 doQ (Zy v4 0) fun v5 =>
 doQ (Zy v4 1) fun v6 =>
 Q (.tup [v5,v6]) H2
theorem Cx(x0 x1:AV)(H:Heap)(Q:AV→Heap→Prop)(h : ∀g,vY g x0 x1 H Q):GoL env Tryz.f111 0 [.code vS] [(0,x0),(1,x1)] H Q:=⟨fun g=>bq (live:=C9) (cut:=DD) (n:=500) (Eq.mp (by kernel_rfl) (h g))⟩
noncomputable def yy:Code:=(Tryz.f79.body).getD .skip
def EJ:Nat→Option (List Nat):=fun i=>none
def Fg:Nat→Bool:=fun i=>false
def yI(g:Nat→AV)(x0:AV)(H:Heap)(Q:AV→Heap→Prop):Prop :=
 doQ (Zg H 5 76 x0) fun v1 =>
 doW (nRes H (Ref.mk 0 6 (Heap.gen H 0 6) 0) (sQ env.P (Ref.mk 0 6 (Heap.gen H 0 6) 0) 76 (some v1) (some v1))) fun v2 H1 =>
 doW (uM env.P H1 (some 76) v2 x0) fun v3 H2 =>
 Q v2 H2
theorem D9(x0:AV)(H:Heap)(Q:AV→Heap→Prop)(h : ∀g,yI g x0 H Q):GoL env Tryz.f79 0 [.code yy] [(0,x0)] H Q:=⟨fun g=>bq (live:=EJ) (cut:=Fg) (n:=500) (Eq.mp (by kernel_rfl) (h g))⟩
noncomputable def bx:Code:=(Tryz.f78.body).getD .skip
def eP:Nat→Option (List Nat):=fun i=>none
def eQ:Nat→Bool:=fun i=>false
def bA(g:Nat→AV)(x0:AV)(H:Heap)(Q:AV→Heap→Prop):Prop :=
 doQ (Z9 22 3 x0) fun v1 =>
 br (some v1) (
 Q (.v (.slice none 0 0)) H) (
 doW (gY env.P false true H (Ref.mk 0 5 (Heap.gen H 0 5) 0) 22 0 (some [])) fun v2 H1 =>
 doW (Zt H1 7 22 22 v2 x0) fun v3 H2 =>
 Q v3 H2)
theorem bX(x0:AV)(H:Heap)(Q:AV→Heap→Prop)(h : ∀g,bA g x0 H Q):GoL env Tryz.f78 0 [.code bx] [(0,x0)] H Q:=⟨fun g=>bq (live:=eP) (cut:=eQ) (n:=500) (Eq.mp (by kernel_rfl) (h g))⟩
noncomputable def vU:Code:=(Tryz.f116.body).getD .skip
def Db:Nat→Option (List Nat):=fun i=>none
def DF:Nat→Bool:=fun i=>false
def lS(g:Nat→AV)(x0 x1:AV)(H:Heap)(Q:AV→Heap→Prop):Prop :=
 doW (Zd H 2 24 x0) fun v1 H1 =>
 doQ (Zb H1 24 v1) fun v2 =>
 doW (Za true H1 11 110 [v2,x1]) fun v3 H2 =>
 doQ (Zc 30 12 0 v3) fun v4 =>
 br (some v4) (
 Q (.tup [(.v (.slice none 0 0)),v3]) H2) (
 doQ (Zb H2 24 v1) fun v5 =>
 doW (Za true H2 18 111 [v5,x1]) fun v6 H3 =>
 doQ (Zy v6 0) fun v7 =>
 doQ (Zy v6 1) fun v8 =>
 doQ (ZA v8) fun v9 =>
 br (some v9) (
 doW (ZO H3 23 76 128) fun v10 H4 =>
 Q (.tup [v10,(.v (.int .i64 0))]) H4) (
 doQ (Zh 24 v1 0) fun v10 =>
 doQ (Zb H3 22 v10) fun v11 =>
 doQ (Zs H3 22 v11 v7) fun v12 =>
 doQ (Zh 78 v12 1) fun v13 =>
 doQ (Zb H3 76 v13) fun v14 =>
 doW (Za true H3 30 79 [v14]) fun v15 H4 =>
 Q (.tup [v15,(.v (.int .i64 0))]) H4))
theorem CA(x0 x1:AV)(H:Heap)(Q:AV→Heap→Prop)(h : ∀g,lS g x0 x1 H Q):GoL env Tryz.f116 0 [.code vU] [(0,x0),(1,x1)] H Q:=⟨fun g=>bq (live:=Db) (cut:=DF) (n:=500) (Eq.mp (by kernel_rfl) (h g))⟩
noncomputable def bw:Code:=(Tryz.f147.body).getD .skip
noncomputable def aM:List Item:=(cm 3 400 [.code bw]).getD []
def cg:Nat→Option (List Nat):=fun i=>cond (Nat.beq i 3) (some [1,0,2,10,9,8]) (none)
def ck:Nat→Bool:=fun i=>false
def cl(g:Nat→AV)(x0 x1 x2:AV)(H:Heap)(Q:AV→Heap→Prop):Prop :=
 doQ (Zg H 13 22 x0) fun v1 =>
  GoL env Tryz.f147 0 aM [(1,x1),(0,x0),(2,x2),(10,v1),(9,(.v (.int .i64 0))),(8,v1)] H Q
theorem dD(x0 x1 x2:AV)(H:Heap)(Q:AV→Heap→Prop)(h : ∀g,cl g x0 x1 x2 H Q):GoL env Tryz.f147 0 [.code bw] [(0,x0),(1,x1),(2,x2)] H Q:=⟨fun g=>bq (live:=cg) (cut:=ck) (n:=500) (Eq.mp (by kernel_rfl) (h g))⟩
def aU(g:Nat→AV)(x1 x0 x2 x10 x9 x8:AV)(H:Heap)(Q:AV→Heap→Prop):Prop :=
 doQ (Zq 3 15 16 x9 x10) fun v1 =>
 br (some v1) (
 doQ (Zu 3 18 19 x9 x10) fun v2 =>
 doQ (Zp H 21 3 145 v2) fun v3 =>
 doQ (qBin env.P .shr 145 (Operand.tmp 21) (.const (.int .u64 1)) (some v3) (some (.v (.int .u64 1)))) fun v4 =>
 doQ (Zp H 23 145 3 v4) fun v5 =>
 doQ (Zs H 22 x0 v5) fun v6 =>
 doQ (Zb H 78 v6) fun v7 =>
 doW (ZS H 30 x2 v7 x1) fun v8 H1 =>
 doQ (Zn 3 30 0 v8) fun v9 =>
 br (some v9) (
 doQ (Ze 3 32 1 v5) fun v10 =>
  GoL env Tryz.f147 0 aM [(1,x1),(0,x0),(2,x2),(10,x10),(9,v10),(8,x8)] H1 Q) (
  GoL env Tryz.f147 0 aM [(1,x1),(0,x0),(2,x2),(10,v5),(9,x9),(8,x8)] H1 Q)) (
 doQ (Zq 3 36 37 x9 x8) fun v2 =>
 gQ v2 true (ZD x2) fun v3 =>
 gQ v2 true (ZD x0) fun v4 =>
 gQ v2 true (ZD x9) fun v5 =>
 gQ v2 true (Zs H 22 v4 v5) fun v6 =>
 gQ v2 true (Zb H 78 v6) fun v7 =>
 gQ v2 true (ZD x1) fun v8 =>
 gW v2 true H (ZS H 46 v3 v7 v8) fun v9 H1 =>
 gQ v2 true (Zl 3 46 0 v9) fun v10 =>
 doQ (Zi v2 v10) fun v11 =>
 Q (.tup [x9,v11]) H1)
theorem cb(x1 x0 x2 x10 x9 x8:AV)(H:Heap)(Q:AV→Heap→Prop)(h : ∀g,aU g x1 x0 x2 x10 x9 x8 H Q):GoL env Tryz.f147 0 aM [(1,x1),(0,x0),(2,x2),(10,x10),(9,x9),(8,x8)] H Q:=c9 fun g=>bq (live:=cg) (cut:=ck) (n:=500) (Eq.mp (by kernel_rfl) (h g))
noncomputable def so:Code:=(Tryz.f148.body).getD .skip
def zp:Nat→Option (List Nat):=fun i=>none
def zJ:Nat→Bool:=fun i=>false
def sG(g:Nat→AV)(x0 x1:AV)(H:Heap)(Q:AV→Heap→Prop):Prop :=
 doW (Zd H 2 78 x0) fun v1 H1 =>
 doQ (Zh 78 v1 0) fun v2 =>
 doQ (Zb H1 3 v2) fun v3 =>
 doW (Za true H1 8 149 [v3,x1]) fun v4 H2 =>
 Q v4 H2
theorem yZ(x0 x1:AV)(H:Heap)(Q:AV→Heap→Prop)(h : ∀g,sG g x0 x1 H Q):GoL env Tryz.f148 0 [.code so] [(0,x0),(1,x1)] H Q:=⟨fun g=>bq (live:=zp) (cut:=zJ) (n:=500) (Eq.mp (by kernel_rfl) (h g))⟩
noncomputable def nk:Code:=(Tryz.f149.body).getD .skip
def sV:Nat→Option (List Nat):=fun i=>none
def sZ:Nat→Bool:=fun i=>false
def nz(g:Nat→AV)(x0 x1:AV)(H:Heap)(Q:AV→Heap→Prop):Prop :=
 doW (Za true H 8 173 [x0]) fun v1 H1 =>
 doW (Za true H1 10 173 [x1]) fun v2 H2 =>
 br (some v1) (
 br (some v2) (
 Q (.v (.int .i64 0)) H2) (
 Q (.v (.int .i64 (-1))) H2)) (
 br (some v2) (
 Q (.v (.int .i64 1)) H2) (
 doQ (Zq 3 14 15 x0 x1) fun v3 =>
 br (some v3) (
 Q (.v (.int .i64 (-1))) H2) (
 doQ (ZY 3 17 18 x0 x1) fun v4 =>
 br (some v4) (
 Q (.v (.int .i64 1)) H2) (
 Q (.v (.int .i64 0)) H2))))
theorem sK(x0 x1:AV)(H:Heap)(Q:AV→Heap→Prop)(h : ∀g,nz g x0 x1 H Q):GoL env Tryz.f149 0 [.code nk] [(0,x0),(1,x1)] H Q:=⟨fun g=>bq (live:=sV) (cut:=sZ) (n:=500) (Eq.mp (by kernel_rfl) (h g))⟩
noncomputable def oW:Code:=(Tryz.f173.body).getD .skip
def vf:Nat→Option (List Nat):=fun i=>none
def vj:Nat→Bool:=fun i=>false
def o6(g:Nat→AV)(x0:AV)(H:Heap)(Q:AV→Heap→Prop):Prop :=
 doQ (qBin env.P .neq 3 (Operand.tmp 3) (Operand.tmp 4) (some x0) (some x0)) fun v1 =>
 Q v1 H
theorem uO(x0:AV)(H:Heap)(Q:AV→Heap→Prop)(h : ∀g,o6 g x0 H Q):GoL env Tryz.f173 0 [.code oW] [(0,x0)] H Q:=⟨fun g=>bq (live:=vf) (cut:=vj) (n:=500) (Eq.mp (by kernel_rfl) (h g))⟩
end Go.Proofs.YtiidajnodhkidaaGreat
