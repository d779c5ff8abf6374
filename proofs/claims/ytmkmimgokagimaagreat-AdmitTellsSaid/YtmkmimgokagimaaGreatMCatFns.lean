/-
  What is to be shown of each function, computed from its code. No statement of a seat is proved here.
-/
import Derived.Test.YtmkmimgokagimaaGreatMLeVc8
set_option linter.unusedVariables false
set_option linter.unusedSimpArgs false
set_option linter.unusedSectionVars false
set_option linter.unnecessarySimpa false
set_option maxRecDepth 1000000
namespace Go.Proofs.YtmkmimgokagimaaGreat
open Go.Ab
section
variable(dep:Nat)(g:Nat->AV)(x0 a b x3:AV)(H:aa)(Q:AV->aa->Prop)
noncomputable def yw:Code:=(Tryz.f13.body).getD .skip
noncomputable def fl:=ug Tryz.f13 3
def qp:Nat->Option (List Nat):=λi=>cond (Nat.beq i 3) (some [8,1,7,2,3]) (none)
def mf(g:Nat->AV)(x0 a b:AV)(H:aa)(Q:AV->aa->Prop):Prop:=
 aZ H 3 25 x0 λc d=>
  bF env Tryz.f13 0 fl [(8,(.v (.int .i64 0))),(1,a),(7,(.v (.int .i64 0))),(2,b),(3,c)] d Q
theorem xW(x0 a b:AV)(H:aa)(Q:AV->aa->Prop)(h : ∀g,mf g x0 a b H Q):cP Tryz.f13 0 [(0,x0),(1,a),(2,b)] H Q:=wT qp (by kernel_rfl) h
def ij(g:Nat->AV)(k a z b x3:AV)(H:aa)(Q:AV->aa->Prop):Prop:=
 cE H 11 26 a λD=>
 dC 3 9 11 k D λt=>
 gQ t true (aU k) λC=>
 gQ t true (Bq 3 14 300 C) λA=>
 bo t A λB=>
 br (some B) (
 bJ H 26 a k λw=>
 af 62 w 2 λh=>
 af 38 h 3 λl=>
 af 35 l 1 λp=>
 ad H 3 p λi=>
 fB (cN env.P true (aa.get H) (Ref.mk 0 27 (aa.gen H 0 27) 0) .max #[3,3] [i,(.v (.int .i64 0))]) λe=>
 fB (cN env.P true (aa.get H) (Ref.mk 0 28 (aa.gen H 0 28) 0) .min #[3,3] [e,(.v (.int .i64 100))]) λc=>
 bJ H 26 a k λd=>
 af 62 d 2 λf=>
 af 38 f 6 λj=>
 ad H 36 j λo=>
 cE H 35 36 o λm=>
 fB (cN env.P true (aa.get H) (Ref.mk 0 36 (aa.gen H 0 36) 0) .min #[3,3] [m,(.v (.int .i64 1000))]) λx=>
 MT H 37 3 3 c x λn=>
 q7 3 19 37 z n λq=>
 eD 3 17 1 k λu=>
  bF env Tryz.f13 0 fl [(8,u),(1,a),(7,q),(2,b),(3,x3)] H Q) (
 ad H 25 x3 λw=>
 aX true H 40 63 [w] λh y=>
 gQ h false (aU a) λl=>
 gQ h false (yG y 43 26 l) λp=>
 gQ h false (aU b) λi=>
 gQ h false (Uj 3 43 44 p i) λe=>
 dn h e λc=>
 gQ c false (aU z) λd=>
 gQ c false (wZ 3 48 300 d) λf=>
 dn c f λj=>
 Q j y)
theorem oL(d a c b x3:AV)(H:aa)(Q:AV->aa->Prop)(h : ∀g,ij g d a c b x3 H Q):bF env Tryz.f13 0 fl [(8,d),(1,a),(7,c),(2,b),(3,x3)] H Q:=uX qp (by kernel_rfl) h
def xK:Prop:=
 aZ H 3 25 x0 λi o=>
 aZ o 5 38 b λd c=>
 ad c 25 i λp=>
 ad c 38 d λk=>
 aX false c 11 70 [k] λf n=>
 fB (gY (.func 71) (some []) (some [d])) λm=>
 aX true n 13 69 [p,a,f,m] λe h=>
 aP e 0 λj=>
 aP e 1 λl=>
 Q (.tup [j,l]) h
theorem DK(h : ∀g:cW,xK x0 a b H Q):cP Tryz.f17 0 [(0,x0),(1,a),(2,b)] H Q:=fk (by kernel_rfl) h
noncomputable def gl:=ug Tryz.f22 4
def oY:Nat->Option (List Nat):=λi=>cond (Nat.beq i 4) (some [5,1,0]) (none)
def k6:Prop:=
 cE H 7 26 x0 λd=>
 cE H 9 26 a λc=>
 yF 3 7 9 d c λe=>
 br (some e) (
 Q (.v (.bool false)) H) (
  bF env Tryz.f22 0 gl [(5,(.v (.int .i64 0))),(1,a),(0,x0)] H Q)
theorem vY(h : ∀g:cW,k6 x0 a H Q):cP Tryz.f22 0 [(0,x0),(1,a)] H Q:=wT oY (by kernel_rfl) h
def gp(g:Nat->AV)(c a x0:AV)(H:aa)(Q:AV->aa->Prop):Prop:=
 cE H 13 26 x0 λe=>
 dC 3 11 13 c e λj=>
 br (some j) (
 bJ H 26 x0 c λn=>
 ad H 62 n λi=>
 bJ H 26 a c λk=>
 ad H 62 k λm=>
 aX false H 25 80 [i,m] λh d=>
 iP h λf=>
 br (some f) (
 Q (.v (.bool false)) d) (
 eD 3 15 1 c λl=>
  bF env Tryz.f22 0 gl [(5,l),(1,a),(0,x0)] d Q)) (
 Q (.v (.bool true)) H)
theorem nE(c a x0:AV)(H:aa)(Q:AV->aa->Prop)(h : ∀g,gp g c a x0 H Q):bF env Tryz.f22 0 gl [(5,c),(1,a),(0,x0)] H Q:=uX oY (by kernel_rfl) h
noncomputable def FN:Code:=(Tryz.f25.body).getD .skip
def zM:Prop:=
 aZ H 2 25 x0 λi m=>
 eF m 4 25 λe f=>
 ad f 25 i λn=>
 aX true f 8 87 [n,a,(.v (.int .i64 0)),(.fn (.func 88) [] [])] λd l=>
 aP d 0 λh=>
 aP d 1 λk=>
 ax l 25 e h λo c=>
 bP c e 25 λj=>
 Q (.tup [j,k]) c
theorem Fa(h : ∀g:cW,zM x0 a H Q):cP Tryz.f25 0 [(0,x0),(1,a)] H Q:=fk (by kernel_rfl) h
def xL:Prop:=
 aZ H 3 25 x0 λk o=>
 aZ o 5 31 b λi v=>
 eF v 6 73 λj e=>
 ad e 25 k λl=>
 ad e 31 i λp=>
 aX false e 11 91 [p] λu q=>
 fB (gY (.func 92) (some []) (some [i])) λm=>
 aX true q 13 90 [l,a,u,m] λf w=>
 aP f 0 λt=>
 aP f 1 λd=>
 ax w 73 j t λn h=>
 bP h j 73 λc=>
 Q (.tup [c,d]) h
theorem DL(h : ∀g:cW,xL x0 a b H Q):cP Tryz.f27 0 [(0,x0),(1,a),(2,b)] H Q:=fk (by kernel_rfl) h
def B0:Prop:=
 aZ H 4 25 x0 λh k=>
 aZ k 6 31 b λf p=>
 aZ p 7 3 x3 λq d=>
 ad d 25 h λi=>
 ad d 31 f λl=>
 aX false d 13 91 [l] λo m=>
 fB (gY (.func 95) (some []) (some [f,q])) λj=>
 aX true m 15 69 [i,a,o,j] λe t=>
 aP e 0 λn=>
 aP e 1 λc=>
 Q (.tup [n,c]) t
theorem HY(h : ∀g:cW,B0 x0 a b x3 H Q):cP Tryz.f29 0 [(0,x0),(1,a),(2,b),(3,x3)] H Q:=fk (by kernel_rfl) h
def BZ:Prop:=
 aZ H 3 25 x0 λk o=>
 aZ o 5 29 b λi v=>
 eF v 6 81 λj e=>
 ad e 25 k λl=>
 ad e 29 i λp=>
 aX false e 11 76 [p] λu q=>
 fB (gY (.func 98) (some []) (some [i])) λm=>
 aX true q 13 97 [l,a,u,m] λf w=>
 aP f 0 λt=>
 aP f 1 λd=>
 ax w 81 j t λn h=>
 bP h j 81 λc=>
 Q (.tup [c,d]) h
theorem HX(h : ∀g:cW,BZ x0 a b H Q):cP Tryz.f31 0 [(0,x0),(1,a),(2,b)] H Q:=fk (by kernel_rfl) h
noncomputable def pC:Code:=(Tryz.f69.body).getD .skip
def jS:Prop:=
 mC H dep 4 25 x0 λj f=>
 ad f 25 j λl=>
 Rz dep f 15 l a λh c=>
 aP h 0 λk=>
 aP h 1 λi=>
 iP i λo=>
 br (some o) (
 Q (.tup [(.v (.int .i64 0)),(.v (.int .i64 8))]) c) (
 kb 42 21 0 b λm=>
 br (some m) (
 Q (.tup [(.v (.int .i64 0)),b]) c) (
 MV dep c 27 x3 k λe p=>
 aP e 0 λn=>
 aP e 1 λd=>
 Q (.tup [n,d]) p))
theorem pj(h : ∀g:cW,jS dep x0 a b x3 H Q):cP Tryz.f69 (dep+1) [(0,x0),(1,a),(2,b),(3,x3)] H Q:=fk (by kernel_rfl) h
noncomputable def Cw:Code:=(Tryz.f71.body).getD .skip
def vm:Prop:=
 ad H 38 a λd=>
 jA (aL env true (ak env) (bD env (dep+1)) H (⟨(dep+1),7,aa.gen H (dep+1) 7,0⟩:Ref) (some (.fn (.func 72) [] [])) [x0,d]) λc e=>
 Q (.tup [c,(.v (.int .i64 0))]) e
theorem Co(h : ∀g:cW,vm dep x0 a H Q):cP Tryz.f71 (dep+1) [(0,x0),(1,a)] H Q:=fk (by kernel_rfl) h
noncomputable def pV:Code:=(Tryz.f72.body).getD .skip
def cL:Prop:=
 mC H dep 3 38 a λh i=>
 jh x0 λX=>
 af 129 X 5 λV=>
 ad i 41 V λO=>
 ad i 38 h λR=>
 jA (aL env false (ak env) (bD env (dep+1)) i (⟨(dep+1),13,aa.gen i (dep+1) 13,0⟩:Ref) (some (.fn (.func 137) [] [])) [O,R]) λM j=>
 kb 42 14 0 M λW=>
 br (some W) (
 Q M j) (
 jh x0 λN=>
 af 129 N 0 λU=>
 ad j 25 U λC=>
 af 38 h 1 λm=>
 af 31 m 0 λz=>
 ad j 29 z λl=>
 ZT dep j 25 C l λe Y=>
 aP e 0 λo=>
 aP e 1 λT=>
 pZ Y dep 6 81 λf S=>
 ax S 81 f o λZ d=>
 af 38 h 0 λq=>
 ad d 5 q λw=>
 yH 5 29 w λc=>
 gQ c true (aU x0) λE=>
 gQ c true (NX (some E)) λA=>
 gQ c true (au 129 A 4) λK=>
 gQ c true (ar d 127 K) λp=>
 gQ c true (au 38 h 1) λD=>
 gQ c true (au 31 D 0) λk=>
 gQ c true (ar d 29 k) λG=>
 gQ c true (ff env.P (aa.get d) 127 (some p) (some G) false) λB=>
 gQ c true (Dq 81 B 3) λt=>
 gQ c true (au 38 h 3) λx=>
 gQ c true (au 35 x 1) λI=>
 gQ c true (ar d 3 I) λu=>
 gQ c true (Ru 3 40 43 t u) λL=>
 gQ c true (au 81 f 3) λF=>
 gQ c true (ar d 3 F) λJ=>
 gQ c true (Uj 3 44 46 L J) λn=>
 bo c n λy=>
 br (some y) (
 Q (.v (.int .i64 9)) d) (
 Q (.v (.int .i64 0)) d))
theorem pR(h : ∀g:cW,cL dep x0 a H Q):cP Tryz.f72 (dep+1) [(0,x0),(1,a)] H Q:=fk (by kernel_rfl) h
def fc:Prop:=
 aZ H 2 62 x0 λi M=>
 aZ M 3 62 a λj f=>
 af 62 i 0 λL=>
 ad f 5 L λI=>
 af 62 j 0 λJ=>
 ad f 5 J λN=>
 pY 5 6 8 I N λh=>
 gQ h true (au 62 i 1) λG=>
 gQ h true (ar f 3 G) λK=>
 gQ h true (au 62 j 1) λy=>
 gQ h true (ar f 3 y) λm=>
 gQ h true (gT 3 12 14 K m) λv=>
 bo h v λc=>
 gQ c true (au 62 i 2) λn=>
 gQ c true (ar f 38 n) λF=>
 gQ c true (au 62 j 2) λp=>
 gQ c true (ar f 38 p) λo=>
 gW c true f (eC true f 22 62 [F,o]) λD k=>
 bo c D λe=>
 gQ e true (au 62 i 3) λt=>
 gQ e true (ar k 42 t) λz=>
 gQ e true (au 62 j 3) λB=>
 gQ e true (ar k 42 B) λw=>
 gQ e true (gT 42 26 28 z w) λE=>
 bo e E λd=>
 gQ d true (au 62 i 4) λA=>
 gQ d true (ar k 60 A) λl=>
 gQ d true (au 62 j 4) λC=>
 gQ d true (ar k 60 C) λx=>
 gQ d true (gT 60 33 35 l x) λq=>
 bo d q λu=>
 Q u k
theorem y5(h : ∀g:cW,fc x0 a H Q):cP Tryz.f80 0 [(0,x0),(1,a)] H Q:=fk (by kernel_rfl) h
noncomputable def o9:Code:=(Tryz.f87.body).getD .skip
def jH:Prop:=
 mC H dep 4 25 x0 λp t=>
 pZ t dep 8 25 λd m=>
 ad m 25 p λx=>
 Rz dep m 15 x a λl h=>
 aP l 0 λu=>
 aP l 1 λw=>
 iP w λq=>
 br (some q) (
 ad h 25 d λj=>
 ax h 25 d j λi f=>
 bP f d 25 λc=>
 Q (.tup [c,(.v (.int .i64 8))]) f) (
 kb 42 21 0 b λj=>
 br (some j) (
 ad h 25 d λi=>
 ax h 25 d i λc f=>
 bP f d 25 λe=>
 Q (.tup [e,b]) f) (
 MV dep h 27 x3 u λi f=>
 aP i 0 λc=>
 aP i 1 λe=>
 ax f 25 d c λo n=>
 bP n d 25 λk=>
 Q (.tup [k,e]) n))
theorem oJ(h : ∀g:cW,jH dep x0 a b x3 H Q):cP Tryz.f87 (dep+1) [(0,x0),(1,a),(2,b),(3,x3)] H Q:=fk (by kernel_rfl) h
noncomputable def Dj:Code:=(Tryz.f88.body).getD .skip
def wH:Prop:=
 pZ H dep 2 25 λc e=>
 jh x0 λh=>
 af 129 h 1 λj=>
 ad e 25 j λf=>
 ax e 25 c f λk d=>
 bP d c 25 λi=>
 Q (.tup [i,(.v (.int .i64 0))]) d
theorem C3(h : ∀g:cW,wH dep x0 H Q):cP Tryz.f88 (dep+1) [(0,x0)] H Q:=fk (by kernel_rfl) h
noncomputable def oF:Code:=(Tryz.f90.body).getD .skip
def jj:Prop:=
 mC H dep 4 25 x0 λp t=>
 pZ t dep 8 73 λd m=>
 ad m 25 p λx=>
 Rz dep m 15 x a λl h=>
 aP l 0 λu=>
 aP l 1 λw=>
 iP w λq=>
 br (some q) (
 ad h 73 d λj=>
 ax h 73 d j λi f=>
 bP f d 73 λc=>
 Q (.tup [c,(.v (.int .i64 8))]) f) (
 kb 42 21 0 b λj=>
 br (some j) (
 ad h 73 d λi=>
 ax h 73 d i λc f=>
 bP f d 73 λe=>
 Q (.tup [e,b]) f) (
 MV dep h 27 x3 u λi f=>
 aP i 0 λc=>
 aP i 1 λe=>
 ax f 73 d c λo n=>
 bP n d 73 λk=>
 Q (.tup [k,e]) n))
theorem oC(h : ∀g:cW,jj dep x0 a b x3 H Q):cP Tryz.f90 (dep+1) [(0,x0),(1,a),(2,b),(3,x3)] H Q:=fk (by kernel_rfl) h
noncomputable def Cx:Code:=(Tryz.f92.body).getD .skip
def vn:Prop:=
 pZ H dep 3 73 λd c=>
 jh x0 λj=>
 af 129 j 3 λl=>
 ad c 126 l λi=>
 ad c 31 a λf=>
 Bp c 126 i f λk=>
 ax c 73 d k λm e=>
 bP e d 73 λh=>
 Q (.tup [h,(.v (.int .i64 0))]) e
theorem Cp(h : ∀g:cW,vn dep x0 a H Q):cP Tryz.f92 (dep+1) [(0,x0),(1,a)] H Q:=fk (by kernel_rfl) h
noncomputable def FO:Code:=(Tryz.f95.body).getD .skip
noncomputable def nj:=ug Tryz.f95 2
def zo:Nat->Option (List Nat):=λi=>cond (Nat.beq i 2) (some [13,2,1,11,12]) (none)
def zN:Prop:=
 jh x0 λe=>
 af 129 e 2 λd=>
 ad H 26 d λc=>
 G8 H dep 12 26 c λf=>
  bF env Tryz.f95 (dep+1) nj [(13,(.v (.int .i64 0))),(2,b),(1,a),(11,c),(12,f)] H Q
theorem Fb(h : ∀g:cW,zN dep x0 a b H Q):cP Tryz.f95 (dep+1) [(0,x0),(1,a),(2,b)] H Q:=wT zo (by kernel_rfl) h
def jg(dep:Nat)(g:Nat->AV)(f b a x11 j:AV)(H:aa)(Q:AV->aa->Prop):Prop:=
 dC 3 13 12 f j λA=>
 br (some A) (
 bJ H 26 x11 f λC=>
 ad H 62 C λz=>
 pZ H dep 7 62 λi D=>
 ax D 62 i z λF d=>
 af 62 i 0 λE=>
 ad d 5 E λB=>
 vN 5 18 B λh=>
 gQ h true (au 62 i 2) λy=>
 gQ h true (au 38 y 1) λt=>
 gQ h true (ar d 31 t) λl=>
 gQ h true (ar d 31 a) λq=>
 gQ h true (gT 31 23 24 l q) λk=>
 bo h k λc=>
 gQ c true (au 62 i 2) λx=>
 gQ c true (au 38 x 2) λo=>
 gQ c true (ar d 3 o) λm=>
 gQ c true (ar d 3 b) λw=>
 gQ c true (gT 3 30 31 m w) λn=>
 bo c n λp=>
 br (some p) (
 af 62 i 3 λe=>
 ad d 42 e λu=>
 Q (.tup [u,(.v (.int .i64 0))]) d) (
 eD 3 13 1 f λe=>
  bF env Tryz.f95 (dep+1) nj [(13,e),(2,b),(1,a),(11,x11),(12,j)] d Q)) (
 Q (.tup [(.v (.int .i64 0)),(.v (.int .i64 6))]) H)
theorem kQ(dep:Nat)(d b a x11 c:AV)(H:aa)(Q:AV->aa->Prop)(h : ∀g,jg dep g d b a x11 c H Q):bF env Tryz.f95 (dep+1) nj [(13,d),(2,b),(1,a),(11,x11),(12,c)] H Q:=uX zo (by kernel_rfl) h
noncomputable def pB:Code:=(Tryz.f97.body).getD .skip
def jR:Prop:=
 mC H dep 4 25 x0 λp t=>
 pZ t dep 8 81 λd m=>
 ad m 25 p λx=>
 Rz dep m 15 x a λl h=>
 aP l 0 λu=>
 aP l 1 λw=>
 iP w λq=>
 br (some q) (
 ad h 81 d λj=>
 ax h 81 d j λi f=>
 bP f d 81 λc=>
 Q (.tup [c,(.v (.int .i64 8))]) f) (
 kb 42 21 0 b λj=>
 br (some j) (
 ad h 81 d λi=>
 ax h 81 d i λc f=>
 bP f d 81 λe=>
 Q (.tup [e,b]) f) (
 MV dep h 27 x3 u λi f=>
 aP i 0 λc=>
 aP i 1 λe=>
 ax f 81 d c λo n=>
 bP n d 81 λk=>
 Q (.tup [k,e]) n))
theorem ph(h : ∀g:cW,jR dep x0 a b x3 H Q):cP Tryz.f97 (dep+1) [(0,x0),(1,a),(2,b),(3,x3)] H Q:=fk (by kernel_rfl) h
noncomputable def FM:Code:=(Tryz.f98.body).getD .skip
def zL:Prop:=
 pZ H dep 3 81 λi c=>
 jh x0 λo=>
 af 129 o 4 λx=>
 ad c 127 x λn=>
 ad c 29 a λq=>
 Bp c 127 n q λu=>
 pZ c dep 5 81 λe w=>
 ax w 81 e u λy j=>
 ad j 29 a λt=>
 af 81 e 0 λh=>
 ax j 29 h t λp k=>
 ad k 81 e λd=>
 ax k 81 i d λm l=>
 bP l i 81 λf=>
 Q (.tup [f,(.v (.int .i64 0))]) l
theorem E9(h : ∀g:cW,zL dep x0 a H Q):cP Tryz.f98 (dep+1) [(0,x0),(1,a)] H Q:=fk (by kernel_rfl) h
noncomputable def MG:Code:=(Tryz.f100.body).getD .skip
noncomputable def kY:=ug Tryz.f100 6
def Eo:Nat->Option (List Nat):=λi=>cond (Nat.beq i 6) (some [28,6,7,26,27]) (none)
def vE:Prop:=
 mC H dep 2 25 x0 λf n=>
 ad n 25 f λu=>
 jA (aL env true (ak env) (bD env (dep+1)) n (⟨(dep+1),11,aa.gen n (dep+1) 11,0⟩:Ref) (some (.fn (.func 102) [] [])) [u]) λC c=>
 kb 42 11 0 C λd=>
 gQ d false (aU a) λy=>
 gQ d false (ZK c dep 15 26 y) λB=>
 gQ d false (wZ 3 15 2048 B) λw=>
 dn d w λt=>
 br (some t) (
 Q (.tup [(.v (.pointer none)),(.v (.bool false))]) c) (
 ad c 25 f λA=>
 ad c 25 f λk=>
 jA (nI env false (ak env) (bD env (dep+1)) c (⟨(dep+1),20,aa.gen c (dep+1) 20,0⟩:Ref) (some (.fn (.func 160) [] [])) [k]) λi x=>
 Ut x dep 21 λe z=>
 Ut z dep 22 λh D=>
 fB (jD env.P 129 (some [(0,A),(1,i),(3,e),(4,h)])) λj=>
 mC D dep 24 129 j λl p=>
 jA (aL env true (ak env) (bD env (dep+1)) p (⟨(dep+1),25,aa.gen p (dep+1) 25,0⟩:Ref) (some (.fn (.func 84) [] [])) []) λo q=>
 G8 q dep 27 26 a λm=>
  bF env Tryz.f100 (dep+1) kY [(28,(.v (.int .i64 0))),(6,l),(7,o),(26,a),(27,m)] q Q)
theorem Lz(h : ∀g:cW,vE dep x0 a H Q):cP Tryz.f100 (dep+1) [(0,x0),(1,a)] H Q:=wT Eo (by kernel_rfl) h
def sW(dep:Nat)(g:Nat->AV)(e i K k j:AV)(H:aa)(Q:AV->aa->Prop):Prop:=
 dC 3 28 27 e j λV=>
 br (some V) (
 bJ H 26 k e λY=>
 ad H 62 Y λU=>
 pZ H dep 9 62 λd Z=>
 ax Z 62 d U λv5 O=>
 ad O 62 d λv6=>
 jA (aL env true (ak env) (bD env (dep+1)) O (⟨(dep+1),33,aa.gen O (dep+1) 33,0⟩:Ref) (some (.fn (.func 82) [] [])) [v6]) λX h=>
 kb 42 33 0 X λc=>
 gQ c false (aU K) λS=>
 gQ c false (au 62 d 0) λF=>
 gQ c false (ar h 5 F) λo=>
 gQ c false (ff env.P (aa.get h) 151 (some S) (some o) false) λC=>
 gQ c false (Dq 150 C 0) λn=>
 gQ c false (aU i) λp=>
 gQ c false (ar h 62 d) λq=>
 gW c false h (aL env true (ak env) (bD env (dep+1)) h (⟨(dep+1),43,aa.gen h (dep+1) 43,0⟩:Ref) (some n) [p,q]) λx f=>
 gQ c false (oG x) λt=>
 dn c t λR=>
 br (some R) (
 Q (.tup [(.v (.pointer none)),(.v (.bool false))]) f) (
 af 62 d 0 λw=>
 ad f 5 w λA=>
 Bp f 151 K A λG=>
 G3 150 G 1 λJ=>
 ad f 62 d λD=>
 jA (aL env true (ak env) (bD env (dep+1)) f (⟨(dep+1),53,aa.gen f (dep+1) 53,0⟩:Ref) (some J) [i,D]) λv24 l=>
 jh i λu=>
 af 129 u 2 λI=>
 ad l 26 I λm=>
 ad l 62 d λM=>
 jA (aL env false (ak env) (bD env (dep+1)) l (⟨(dep+1),60,aa.gen l (dep+1) 60,0⟩:Ref) (some (.fn (.func 161) [] [])) [M]) λE W=>
 Un W dep 61 26 1 0 E λy H7=>
 Um H7 dep 62 26 26 m y λB T=>
 jh i λN=>
 af 129 N 2 λz=>
 ax T 26 z B λv34 H9=>
 eD 3 28 1 e λL=>
  bF env Tryz.f100 (dep+1) kY [(28,L),(6,i),(7,K),(26,k),(27,j)] H9 Q)) (
 Q (.tup [i,(.v (.bool true))]) H)
theorem vW(dep:Nat)(e f i d c:AV)(H:aa)(Q:AV->aa->Prop)(h : ∀g,sW dep g e f i d c H Q):bF env Tryz.f100 (dep+1) kY [(28,e),(6,f),(7,i),(26,d),(27,c)] H Q:=uX Eo (by kernel_rfl) h
noncomputable def EL:Code:=(Tryz.f145.body).getD .skip
def xJ:Prop:=
 mC H dep 3 62 a λf A=>
 af 62 f 2 λI=>
 af 38 I 1 λF=>
 af 31 F 0 λC=>
 ad A 29 C λD=>
 ZS dep A 13 x0 D λB d=>
 aP B 0 λG=>
 aP B 1 λK=>
 jh x0 λE=>
 af 129 E 3 λt=>
 ad d 126 t λj=>
 af 62 f 2 λp=>
 af 38 p 1 λi=>
 ad d 31 i λk=>
 Bp d 126 j k λz=>
 G3 73 z 0 λn=>
 iP n λc=>
 gQ c true (aU x0) λx=>
 gQ c true (au 62 f 1) λm=>
 gQ c true (ar d 3 m) λo=>
 gQ c true (au 62 f 2) λu=>
 gQ c true (au 38 u 1) λv=>
 gQ c true (au 31 v 0) λq=>
 gQ c true (ar d 29 q) λy=>
 gW c true d (aL env true (ak env) (bD env (dep+1)) d (⟨(dep+1),34,aa.gen d (dep+1) 34,0⟩:Ref) (some (.fn (.func 147) [] [])) [x,o,y]) λl J=>
 bo c l λe=>
 gQ e true (aU G) λh=>
 bo e h λw=>
 Q w J
theorem DJ(h : ∀g:cW,xJ dep x0 a H Q):cP Tryz.f145 (dep+1) [(0,x0),(1,a)] H Q:=fk (by kernel_rfl) h
noncomputable def rV:Code:=(Tryz.f146.body).getD .skip
def lz:Prop:=
 mC H dep 3 29 a λz v=>
 jh x0 λG=>
 af 129 G 0 λE=>
 ad v 25 E λB=>
 ad v 29 z λD=>
 ZT dep v 15 B D λA K=>
 aP A 0 λF=>
 aP A 1 λM=>
 pZ K dep 6 81 λn J=>
 ax J 81 n F λI e=>
 jh x0 λi=>
 af 129 i 4 λp=>
 ad e 127 p λh=>
 ad e 29 z λj=>
 Bp e 127 h j λk=>
 pZ e dep 8 81 λc L=>
 ax L 81 c k λC d=>
 af 81 c 1 λx=>
 ad d 3 x λm=>
 af 81 n 1 λo=>
 ad d 3 o λt=>
 dC 3 25 27 m t λw=>
 af 81 c 2 λq=>
 ad d 3 q λy=>
 af 81 n 2 λl=>
 ad d 3 l λu=>
 dC 3 30 32 y u λf=>
 Q (.tup [w,f]) d
theorem rS(h : ∀g:cW,lz dep x0 a H Q):cP Tryz.f146 (dep+1) [(0,x0),(1,a)] H Q:=fk (by kernel_rfl) h
noncomputable def sO:Code:=(Tryz.f147.body).getD .skip
def ir:Prop:=
 mC H dep 5 29 b λj c=>
 jh x0 λm=>
 af 129 m 1 λp=>
 ad c 25 p λl=>
 ad c 29 j λi=>
 jA (aL env false (ak env) (bD env (dep+1)) c (⟨(dep+1),16,aa.gen c (dep+1) 16,0⟩:Ref) (some (.fn (.func 174) [] [])) [l,a,i]) λh o=>
 aP h 0 λn=>
 aP h 1 λk=>
 vO 42 19 0 k λf=>
 gQ f true (aU n) λd=>
 bo f d λe=>
 Q e o
theorem si(h : ∀g:cW,ir dep x0 a b H Q):cP Tryz.f147 (dep+1) [(0,x0),(1,a),(2,b)] H Q:=fk (by kernel_rfl) h
noncomputable def EK:Code:=(Tryz.f148.body).getD .skip
def xI:Prop:=
 mC H dep 3 62 a λd e=>
 jh x0 λS=>
 af 129 S 3 λN=>
 ad e 126 N λJ=>
 af 62 d 2 λL=>
 af 38 L 1 λX=>
 ad e 31 X λR=>
 af 62 d 1 λI=>
 ad e 3 I λM=>
 fB (jD env.P 73 (some [(0,(.v (.bool true))),(1,M)])) λz=>
 jA (dP env.P e 126 (some J) (some R) (some z)) λK f=>
 jh x0 λw=>
 af 129 w 4 λj=>
 ad f 127 j λk=>
 af 62 d 2 λl=>
 af 38 l 1 λp=>
 af 31 p 0 λm=>
 ad f 29 m λD=>
 Bp f 127 k D λo=>
 pZ f dep 4 81 λc V=>
 ax V 81 c o λT G=>
 af 81 c 1 λA=>
 ad G 3 A λx=>
 eD 3 25 1 x λE=>
 af 81 c 1 λn=>
 ax G 3 n E λU h=>
 jh x0 λi=>
 af 129 i 4 λB=>
 ad h 127 B λy=>
 af 62 d 2 λq=>
 af 38 q 1 λu=>
 af 31 u 0 λC=>
 ad h 29 C λt=>
 ad h 81 c λF=>
 jA (dP env.P h 127 (some y) (some t) (some F)) λW O=>
 Q (.v (.tuple #[])) O
theorem DH(h : ∀g:cW,xI dep x0 a H Q):cP Tryz.f148 (dep+1) [(0,x0),(1,a)] H Q:=fk (by kernel_rfl) h
noncomputable def EJ:Code:=(Tryz.f149.body).getD .skip
def xH:Prop:=
 mC H dep 3 62 a λi o=>
 jh x0 λv2=>
 af 129 v2 3 λv3=>
 ad o 126 v3 λY=>
 af 62 i 2 λZ=>
 af 38 Z 1 λv6=>
 ad o 31 v6 λv7=>
 Bp o 126 Y v7 λX=>
 pZ o dep 5 73 λn H2=>
 ax H2 73 n X λv10 W=>
 af 62 i 2 λv=>
 af 38 v 1 λG=>
 af 31 G 0 λu=>
 ad W 29 u λx=>
 ZS dep W 22 x0 x λj h=>
 aP j 0 λv16=>
 aP j 1 λy=>
 af 73 n 0 λT=>
 ad h 4 T λc=>
 gQ c true (aU x0) λC=>
 gQ c true (au 73 n 1) λL=>
 gQ c true (ar h 3 L) λN=>
 gQ c true (au 62 i 2) λI=>
 gQ c true (au 38 I 1) λU=>
 gQ c true (au 31 U 0) λz=>
 gQ c true (ar h 29 z) λM=>
 gW c true h (nI env true (ak env) (bD env (dep+1)) h (⟨(dep+1),35,aa.gen h (dep+1) 35,0⟩:Ref) (some (.fn (.func 147) [] [])) [C,N,M]) λp f=>
 bo c p λe=>
 gQ e true (au 62 i 2) λJ=>
 gQ e true (au 38 J 2) λA=>
 gQ e true (ar f 3 A) λD=>
 gQ e true (au 73 n 2) λR=>
 gQ e true (ar f 3 R) λB=>
 gQ e true (ZN 3 42 1 B) λm=>
 gQ e true (gT 3 40 43 D m) λk=>
 bo e k λl=>
 gQ l true (aU y) λw=>
 bo l w λd=>
 gQ d true (au 62 i 3) λE=>
 gQ d true (ar f 42 E) λF=>
 gQ d true (aU x0) λP=>
 gQ d true (au 62 i 2) λO=>
 gQ d true (ar f 38 O) λS=>
 gW d true f (nI env true (ak env) (bD env (dep+1)) f (⟨(dep+1),55,aa.gen f (dep+1) 55,0⟩:Ref) (some (.fn (.func 72) [] [])) [P,S]) λt V=>
 gQ d true (gT 42 51 55 F t) λK=>
 bo d K λq=>
  ny [(k,m)] [] [] V /\
 (Q q V)
theorem DG(h : ∀g:cW,xH dep x0 a H Q):cP Tryz.f149 (dep+1) [(0,x0),(1,a)] H Q:=fk (by kernel_rfl) h
noncomputable def xD:Code:=(Tryz.f150.body).getD .skip
def jQ:Prop:=
 mC H dep 3 62 a λk M=>
 jh x0 λv2=>
 af 129 v2 3 λv3=>
 ad M 126 v3 λv4=>
 af 62 k 2 λv5=>
 af 38 v5 1 λv6=>
 ad M 31 v6 λv7=>
 Bp M 126 v4 v7 λv8=>
 jh x0 λv9=>
 af 129 v9 4 λv10=>
 ad M 127 v10 λv11=>
 af 62 k 2 λv12=>
 af 38 v12 1 λv13=>
 af 31 v13 0 λv14=>
 ad M 29 v14 λv15=>
 Bp M 127 v11 v15 λv16=>
 pZ M dep 4 73 λe H2=>
 pZ H2 dep 5 81 λc H3=>
 ax H3 73 e v8 λv19 H4=>
 ax H4 81 c v16 λv20 H5=>
  ny [(v10,e),(v14,e),(v11,e)] [e,c] [] H5 /\
 (af 73 e 2 λv21=>
 ad H5 3 v21 λv22=>
 eD 3 24 1 v22 λv23=>
 af 73 e 2 λv24=>
 ax H5 3 v24 v23 λv25 H6=>
 af 81 c 2 λv26=>
 ad H6 3 v26 λv27=>
 eD 3 28 1 v27 λv28=>
 af 81 c 2 λv29=>
 ax H6 3 v29 v28 λv30 l=>
 af 62 k 3 λv31=>
 ad l 42 v31 λv32=>
 vO 42 32 0 v32 λv33=>
 br (some v33) (
 jh x0 λR=>
 af 129 R 5 λO=>
 ad l 41 O λj=>
 af 62 k 2 λS=>
 ad l 38 S λG=>
 jA (aL env false (ak env) (bD env (dep+1)) l (⟨(dep+1),41,aa.gen l (dep+1) 41,0⟩:Ref) (some (.fn (.func 108) [] [])) [G]) λF H8=>
 Un H8 dep 42 41 1 0 F λJ H9=>
 Um H9 dep 43 41 41 j J λN B=>
 jh x0 λn=>
 af 129 n 5 λP=>
 ax B 41 P N λv44 d=>
 af 62 k 2 λw=>
 af 38 w 0 λz=>
 ad d 5 z λT=>
 yH 5 48 T λX=>
 br (some X) (
 af 81 c 3 λp=>
 ad d 3 p λm=>
 af 62 k 2 λi=>
 af 38 i 3 λo=>
 af 35 o 1 λq=>
 ad d 3 q λt=>
 q7 3 51 55 m t λD=>
 af 81 c 3 λK=>
 ax d 3 K D λx f=>
 jh x0 λI=>
 af 129 I 3 λv59=>
 ad f 126 v59 λh=>
 af 62 k 2 λU=>
 af 38 U 1 λv62=>
 ad f 31 v62 λL=>
 jh x0 λV=>
 af 129 V 4 λC=>
 ad f 127 C λy=>
 af 62 k 2 λE=>
 af 38 E 1 λA=>
 af 31 A 0 λY=>
 ad f 29 Y λv70=>
 ad f 73 e λv71=>
 ad f 81 c λv72=>
 Kh f 126 h L λv73 W=>
 aP v73 1 λv74=>
 Ki W h v74 v71 λv75 Z=>
 Kh Z 127 y v70 λv76 u=>
 aP v76 1 λv77=>
 Ki u y v77 v72 λv78 H16=>
  ny [(Y,h),(e,h),(c,h),(c,y)] [] [] H16 /\
 (Q (.v (.tuple #[])) H16)) (
 jh x0 λp=>
 af 129 p 3 λm=>
 ad d 126 m λi=>
 af 62 k 2 λo=>
 af 38 o 1 λq=>
 ad d 31 q λt=>
 jh x0 λD=>
 af 129 D 4 λK=>
 ad d 127 K λx=>
 af 62 k 2 λI=>
 af 38 I 1 λv59=>
 af 31 v59 0 λh=>
 ad d 29 h λU=>
 ad d 73 e λv62=>
 ad d 81 c λL=>
 Kh d 126 i t λV f=>
 aP V 1 λC=>
 Ki f i C v62 λy W=>
 Kh W 127 x U λE Z=>
 aP E 1 λA=>
 Ki Z x A L λY u=>
  ny [(h,i),(e,i),(c,i),(c,x)] [] [] u /\
 (Q (.v (.tuple #[])) u))) (
 jh x0 λR=>
 af 129 R 3 λO=>
 ad l 126 O λj=>
 af 62 k 2 λS=>
 af 38 S 1 λG=>
 ad l 31 G λF=>
 jh x0 λJ=>
 af 129 J 4 λN=>
 ad l 127 N λn=>
 af 62 k 2 λP=>
 af 38 P 1 λv44=>
 af 31 v44 0 λw=>
 ad l 29 w λz=>
 ad l 73 e λT=>
 ad l 81 c λX=>
 Kh l 126 j F λp H8=>
 aP p 1 λm=>
 Ki H8 j m T λi H9=>
 Kh H9 127 n z λo B=>
 aP o 1 λq=>
 Ki B n q X λt d=>
  ny [(w,j),(e,j),(c,j),(c,n)] [] [] d /\
 (Q (.v (.tuple #[])) d)))
theorem xd(h : ∀g:cW,jQ dep x0 a H Q):cP Tryz.f150 (dep+1) [(0,x0),(1,a)] H Q:=fk (by kernel_rfl) h
noncomputable def EI:Code:=(Tryz.f151.body).getD .skip
def sX:Prop:=
 mC H dep 3 62 a λh e=>
 jh x0 λk=>
 af 129 k 1 λu=>
 ad e 25 u λj=>
 af 62 h 4 λn=>
 ad e 60 n λq=>
 ZU dep e 14 j q λf t=>
 aP f 0 λi=>
 aP f 1 λp=>
 pZ t dep 5 25 λd m=>
 ax m 25 d i λl o=>
 vO 42 17 0 p λc=>
 Q c o
theorem DF(h : ∀g:cW,sX dep x0 a H Q):cP Tryz.f151 (dep+1) [(0,x0),(1,a)] H Q:=fk (by kernel_rfl) h
noncomputable def EH:Code:=(Tryz.f153.body).getD .skip
def xG:Prop:=
 mC H dep 3 62 a λj e=>
 jh x0 λm=>
 af 129 m 1 λq=>
 ad e 25 q λl=>
 af 62 j 4 λh=>
 ad e 60 h λn=>
 ZU dep e 12 l n λf o=>
 aP f 0 λk=>
 aP f 1 λt=>
 jh x0 λd=>
 af 129 d 1 λc=>
 ax o 25 c k λi p=>
 Q (.v (.tuple #[])) p
theorem DE(h : ∀g:cW,xG dep x0 a H Q):cP Tryz.f153 (dep+1) [(0,x0),(1,a)] H Q:=fk (by kernel_rfl) h
end
section
end
end Go.Proofs.YtmkmimgokagimaaGreat
namespace Go.Ab
structure iI where
 lv:UInt8
 cats:UInt32
deriving DecidableEq
structure aC where
 kind:UInt8
 h:mz
 serial:Int
 s:wN
 a:bV
 to:iI
 l:List Int
deriving DecidableEq
def gx(a:bV):Bool:=decide (a.h.lv=0)&&decide (a.h.cats=0)&&decide (a.h.num=0)&&decide (a.n=0)
def w7(t:iI):Bool:=decide (t.lv=0)&&decide (t.cats=0)
def D5(a b:mz):Bool:=decide (a.lv=b.lv)&&decide (a.cats=b.cats)&&decide (a.num=b.num)
theorem yI(a:bV):gx a=true↔a=rZ:=by
 obtain⟨⟨a,b,c⟩,d⟩:=a
 simp[gx,rZ,and_assoc]
theorem SM(a b:mz):D5 a b=true↔a=b:=by
 obtain⟨e,c,d⟩:=a
 obtain⟨b1,b2,b3⟩:=b
 simp[D5,and_assoc]
def zI(o:aC):Bool:=gx o.a&&decide (o.l=[])
def I7(o:aC):Bool:=w7 o.to&&((gx o.a||FB o.a)&&(D5 o.s.f.h o.h&&(decide ((o.l.length:Int)=o.s.many)&&LU o.l)))
def O5(o:aC):Bool:=w7 o.to&&zI o
def LY(o:aC):Bool:=zI o&&decide (o.to.lv<=15)
def C9(o:aC):Bool:=if o.kind=1 then I7 o else if o.kind=2 then O5 o else if o.kind=3 then LY o else false
def lT(o:aC):Bool:=dZ o.h&&(decide (1<=o.serial)&&(decide (o.serial<16777216)&&(eJ o.s&&C9 o)))
theorem IQ{P:Program}{t:TypeId}(f:(dq P t).isSome=true)(c:(aH P t).isSome=true)(cs:List AV)(a:Nat):BI P t cs a=RT cs a ((aH P t).getD 0) ((dq P t).getD false):=by
 obtain⟨b,e⟩:=gU.1 f
 obtain⟨n,d⟩:=gU.1 c
 simp only[BI,e,d,cY]
 cases b<;>rfl
theorem Fm{P:Program}{t:TypeId}(a:((kP P t).bind λp=>aH P p.2).isSome=true)(cs:List AV)(k:UInt8)(c:k.toNat<((kP P t).getD (0,0)).1) :
 sx P t (some (.agg cs)) (some (a8 k))=kf (BI P ((kP P t).getD (0,0)).2 cs (k.toNat * (aH P ((kP P t).getD (0,0)).2).getD 0)):=by
 cases b:kP P t with
 | none=>rw[b]at a;simp at a
 | some p=>
  obtain⟨n,e⟩:=p
  rw[b]at a c
  simp only[fN,cY]at a c
  obtain⟨s,d⟩:=gU.1 a
  unfold sx a8
  simp only[fN,intOf,b,d,cY]
  rw[if_pos (by omega)]
  simp
@[simp] theorem aeJ(r:Ref)(n:Nat)(f:Fn)(a b:List AV)(c:List bw):az r n (.fn f a b) c=(.fn f a b,c):=by cases n<;>rfl
end Go.Ab
namespace Go.Proofs.YtmkmimgokagimaaGreat
open Go.Ab
def zt:List FuncId:=[84,160,162,173,204,205,206,209,225,108,127,113,52]
def ab0:List FuncId:=[108,127,113,52,10]
noncomputable def bT:Env:=RE (vl Tryz.prog fns zt gX (Iq [(19,13,18),(16,1,77777),(55,1,88888),(35,147,88889),(55,72,88889),(10,48,88889),(10,50,88889),(7,5,66666),(20,160,88889)]) (zd [(15,12,0,[(20,23)]),(52,10,0,[(56,58)]),(25,34,4,[(44,43)]),(6,21,0,[(16,4),(20,4),(17,4)]),(58,23,0,[(71,61),(4,61),(5,61),(5,68)]),(7,6,0,[(3,5)]),(64,16,17,[(5,66),(66,7)]),(143,16,25,[(5,145),(145,7),(145,9)])]) (P8 [(19,13,18),(16,1,77777),(55,1,88888),(35,147,88889),(55,72,88889),(10,48,88889),(10,50,88889),(7,5,66666),(20,160,88889)]) [] (λ_=>false) (λ_=>none) (λ_ _ _=>none) Je) (λf args=>if ab0.contains f then none else ak env f args)
@[simp] noncomputable def ZY(h:aa)(n:Nat)(k:AV->aa->Prop):Prop:=jA (aL bT true (ak bT) (bD bT 0) h (Ref.mk 0 n (aa.gen h 0 n) 0) (some (.fn (.func 115) [] [])) [(.v (.int .i64 231))]) k
@[simp] noncomputable def ZX(h:aa)(n:Nat)(k:AV->aa->Prop):Prop:=jA (aL bT true (ak bT) (bD bT 0) h (Ref.mk 0 n (aa.gen h 0 n) 0) (some (.fn (.func 115) [] [])) [(.v (.int .i64 230))]) k
@[simp] noncomputable def ZW(h:aa)(n:Nat)(k:AV->aa->Prop):Prop:=jA (aL bT true (ak bT) (bD bT 0) h (Ref.mk 0 n (aa.gen h 0 n) 0) (some (.fn (.func 115) [] [])) [(.v (.int .i64 9))]) k
@[simp] noncomputable def ZV(h:aa)(n:Nat)(k:AV->aa->Prop):Prop:=jA (aL bT true (ak bT) (bD bT 0) h (Ref.mk 0 n (aa.gen h 0 n) 0) (some (.fn (.func 115) [] [])) [(.v (.int .i64 8))]) k
@[simp] noncomputable def ZO(h:aa)(n:Nat)(v:AV)(k:AV->aa->Prop):Prop:=jA (aL bT true (ak bT) (bD bT 0) h (Ref.mk 0 n (aa.gen h 0 n) 0) (some (.fn (.func 113) [] [])) [v]) k
theorem Zp:Jj (vl Tryz.prog fns zt gX (Iq [(19,13,18),(16,1,77777),(55,1,88888),(35,147,88889),(55,72,88889),(10,48,88889),(10,50,88889),(7,5,66666),(20,160,88889)]) (zd [(15,12,0,[(20,23)]),(52,10,0,[(56,58)]),(25,34,4,[(44,43)]),(6,21,0,[(16,4),(20,4),(17,4)]),(58,23,0,[(71,61),(4,61),(5,61),(5,68)]),(7,6,0,[(3,5)]),(64,16,17,[(5,66),(66,7)]),(143,16,25,[(5,145),(145,7),(145,9)])]) (P8 [(19,13,18),(16,1,77777),(55,1,88888),(35,147,88889),(55,72,88889),(10,48,88889),(10,50,88889),(7,5,66666),(20,160,88889)])) fns=true:=by kernel_rfl
theorem kW{f:FuncId}{args:List AV}{y:AV}(h:ab0.contains f=false)(a:ak env f args=some y):ak bT f args=some y:=TD (by
 show(if ab0.contains f then none else ak env f args)=some y
 rw[h]
 exact a)
@[simp] theorem ai7{f:FuncId}(h:gX.contains f=false):(bT.mode f == 2)=false:=by
 show((if zt.contains f then (if gX.contains f then 3 else 1) else if gX.contains f then 2 else 0) == 2)=false
 rw[h]
 split<;>rfl
@[simp] theorem agM{f:FuncId}(h:gX.contains f=false):(bT.mode f == 3)=false:=by
 show((if zt.contains f then (if gX.contains f then 3 else 1) else if gX.contains f then 2 else 0) == 3)=false
 rw[h]
 split<;>rfl
theorem ab8{f:FuncId}(h:zt.contains f=false):u6 (bT.mode f)=false:=by
 show u6 (if zt.contains f then (if gX.contains f then 3 else 1) else if gX.contains f then 2 else 0)=false
 rw[h]
 cases gX.contains f<;>rfl
@[simp] theorem ahk{f:FuncId}(h:zt.contains f=false)(x:AV)(H:aa)(y:AV):handed bT f x H y↔view H.get depth x=some y:=KW (ab8 h) x H y
theorem ab7{f:FuncId}(h:zt.contains f=true):u6 (bT.mode f)=true:=by
 show u6 (if zt.contains f then (if gX.contains f then 3 else 1) else if gX.contains f then 2 else 0)=true
 rw[h]
 cases gX.contains f<;>rfl
@[simp] theorem ahj{f:FuncId}(h:zt.contains f=true)(x:AV)(H:aa)(y:AV):handed bT f x H y↔(ao H.get depth x).Nodup/\dc H.get depth x=some y:=Gj (ab7 h) x H y
end Go.Proofs.YtmkmimgokagimaaGreat
namespace Go.Ab
def qS(a b:iI):Bool:=decide (a.lv<=b.lv)&&decide (a.cats &&& ~~~b.cats=0)
def kz(l:List iI):List AV:=l.map λa => .agg [a8 a.lv,ae a.cats]
@[simp] theorem Oy(l:List iI):(kz l).length=l.length:=by simp[kz]
theorem TF(l:List iI)(a:UInt8)(b:UInt32):kz l++[.agg [a8 a,ae b]]=kz (l++[⟨a,b⟩]):=by simp[kz]
@[simp] theorem Mh(l:List iI):kz l=[]↔l=[]:=by simp[kz]
def hasB(s:wN)(i:bV):Bool:=eJ s&&(decide (s.f.h=i.h)&&(decide (s.f.n<=i.n)&&decide (i.n<s.f.n+s.many)))
def MB(o:aC):iI:=⟨o.h.lv,o.h.cats⟩
def Pu(i:bV):iI:=⟨i.h.lv,i.h.cats⟩
def ky(o:aC)(i:bV)(v:iI):Bool:=decide (o.kind=3)&&(hasB o.s i&&qS (MB o) v)
def tB(out:List iI)(t:iI):List iI:=if t∈out then out else out++[t]
def wm(out:List iI)(l:List aC)(i:bV)(v:iI):List iI:=l.foldl (λout o=>if ky o i v then tB out o.to else out) out
def qm(l:List aC)(i:bV)(v:iI):List iI:=wm [Pu i] l i v
def kZ(l:List aC)(o:aC):Bool:=if o.kind=3 then qS (MB o) o.to&&(List.range o.s.many.toNat).all (λk=>decide (MB o∈qm l ⟨o.s.f.h,o.s.f.n+(k:Int)⟩ (MB o))) else true
def lV:List aC->List aC->Bool
 | _,[]=>true
 | l,o :: s=>lT o&&kZ l o&&lV (l++[o]) s
def qV(l:List aC):Int:=if 2048<l.length then 4 else if lV [] l then 0 else 8
def lpO(o:Option bw):Option (Nat × AV):=match o with
 | some ⟨0,[.v (.int .i64 st),inf],_,_⟩=>some (st.toNat,inf)
 | _=>none
theorem xw(H:aa)(r:Ref):As H r=lpO (H.get r):=rfl
@[simp] theorem Es(st:Nat)(a:AV):lpO (some (kV st a))=some (st,a):=by
 simp[lpO,kV]
theorem Xd(a:AV)(K:AV->Prop)(m:Mk K):bgP (some (0,a)) K m↔K a:=by
 constructor
 ·rintro⟨info,e,h⟩
  simp only[dT,yJ,true_and]at e
  subst e;exact h
 ·intro h;exact⟨a,rfl,h⟩
attribute [simp] Xd
theorem Wv(H:aa)(r:Ref)(st:Nat)(a:AV):As (H.put r (some (kV st a))) r=some (st,a):=by
 rw[xw,aa.get_put,if_pos rfl,Es]
theorem TC{E:Env}{fn:Func}{dep nt:Nat}{r:Ref}{f:FuncId}{ps:List Tmp}{assign body:Code}{tm:List AV}{args:List AV}{H:aa}{Q:AV->aa->Prop}
 (e:H.get r=some (kV 0 (.lp f nt ps assign body tm))) (b:fn.ntmps=nt) (hp:args.length=ps.length) (c:ps.all (· < nt)=true) (d:codeOk E.ok assign=true) (j:codeOk E.ok body=true)
 (h:Goes E fn (some r) (dep+1) [.code assign,.beginRound,.code body] (dJ (yh tm ps args)) H λx H'=>x = .v (.int .i64 0) /\∃a,H'.get r=some (kV 1 a)/\Q (.v (.bool true)) (H'.put r (some (kV 0 a)))) :
 ∃y H',bD E dep (.yld r) args H=some (y,H')/\Q y H':=by
 refine Wz (by rw[xw,e];exact Es _ _) b hp c d j ?_
 intro tm' i
 obtain⟨y,H',⟨rfl,a,k,g⟩,n,b⟩:=h tm' i
 exact⟨_,H',⟨0,rfl,a,_,by rw[xw,k];exact Es _ _,rfl,Wv _ _ _ _,λ_=>g,λh=>absurd h (by decide),by decide⟩,n,b⟩
theorem Oe{s:eK}{l:List (Nat × AV)}(h : ∀p∈l,s p.1=p.2):QM s l=s:=by
 induction l with
 | nil=>rfl
 | cons p l a=>
  obtain⟨j,v⟩:=p
  funext i
  show cond (Nat.beq i j) v (QM s l i)=s i
  rw[a λp hp=>h p (iA _ hp)]
  cases b:Nat.beq i j with
  | false=>rfl
  | true=>
   have:=lb b
   subst this
   exact(h _ (jB ..)).symm
@[simp] theorem ZZ(r:Ref)(o n:Nat)(c:Option Nat)(y:AV):iJ [AV.cG r o n c] 0 0 [y]=some [y]:=id rfl
@[simp] theorem adk(x:Value)(y:AV):iJ [AV.v x] 0 0 [y]=some [y]:=id rfl
def Aw(p:aC × AV):AV := .agg [a8 p.1.kind,a8 p.1.h.lv,ae p.1.h.cats,a8 p.1.h.num,aI p.1.serial,a8 p.1.s.f.h.lv,ae p.1.s.f.h.cats,a8 p.1.s.f.h.num,aI p.1.s.f.n,aI p.1.s.many,
 a8 p.1.a.h.lv,ae p.1.a.h.cats,a8 p.1.a.h.num,aI p.1.a.n,a8 p.1.to.lv,ae p.1.to.cats,p.2]
def cF(l:List (aC × AV)):List AV:=l.map Aw
@[simp] theorem jN(l:List (aC × AV)):(cF l).length=l.length:=by simp[cF]
def J8(p:aC × AV):Prop:=Sl 1 (rows p.1.l) p.2/\p.1.l.length<2000000
def opsOf(l:List (aC × AV)):List aC:=l.map (·.1)
theorem Pa{E:Env}(dep:Nat)(H:aa)(r q:Ref)(args:List AV):aL E true (ak E) (bD E dep) H r (some (.yld q)) args=bD E dep (.yld q) args H:=by
 simp[aL,kJ,na,GN,nC]
theorem Po(out:List iI)(t:iI):(tB out t).length<=out.length+1:=by
 unfold tB;split
 ·omega
 ·simp
theorem Tz(s:List aC)(i:bV)(v:iI) : ∀out:List iI,(wm out s i v).length<=out.length+s.length:=by
 induction s with
 | nil=>intro out;simp[wm]
 | cons o s a=>
  intro out
  show(wm (if ky o i v then tB out o.to else out) s i v).length<=_
  have c:=a (if ky o i v then tB out o.to else out)
  have b:(if ky o i v then tB out o.to else out).length<=out.length+1:=by
   split
   ·exact Po _ _
   ·omega
  simp only[sc]
  omega
end Go.Ab
namespace Go.Proofs.YtmkmimgokagimaaGreat
open Go.Ab
section
noncomputable def AA:Code:=(Tryz.f108.body).getD .skip
def Mf:Nat->Option (List Nat):=λi=>none
def Mw:Nat->Bool:=λi=>false
def AK(g:Nat->AV)(x0:AV)(H:aa)(Q:AV->aa->Prop):Prop:=
 aZ H 1 38 x0 λa k=>
 eF k 2 38 λd c=>
 af 38 a 6 λn=>
 ad c 36 n λi=>
 jA (aL bT true (ak bT) (bD bT 0) c (Ref.mk 0 5 (aa.gen c 0 5) 0) (some (.fn (.func 173) [] [])) [i]) λl j=>
 af 38 a 6 λm=>
 ax j 36 m l λo e=>
 ad e 38 a λh=>
 ax e 38 d h λp f=>
 bP f d 38 λb=>
 Q b f
theorem DV(x0:AV)(H:aa)(Q:AV->aa->Prop)(h : ∀g,AK g x0 H Q):bF bT Tryz.f108 0 [.code AA] [(0,x0)] H Q:=⟨λg=>yO (live:=Mf) (cut:=Mw) (n:=500) (Eq.mp (by kernel_rfl) (h g))⟩
noncomputable def pW:Code:=(Tryz.f127.body).getD .skip
def Ct:Nat->Option (List Nat):=λi=>none
def Cu:Nat->Bool:=λi=>false
def pX(g:Nat->AV)(x0 p h:AV)(H:aa)(Q:AV->aa->Prop):Prop:=
 eF H 3 107 λf a=>
 ad a 25 x0 λo=>
 ad a 26 p λu=>
 ad a 38 h λn=>
 jA (aL bT true (ak bT) (bD bT 0) a (Ref.mk 0 10 (aa.gen a 0 10) 0) (some (.fn (.func 17) [] [])) [o,u,n]) λi e=>
 aP i 0 λk=>
 aP i 1 λw=>
 ad e 38 h λm=>
 jA (aL bT true (ak bT) (bD bT 0) e (Ref.mk 0 15 (aa.gen e 0 15) 0) (some (.fn (.func 108) [] [])) [m]) λt q=>
 fB (jD env.P 62 (some [(0,(a8 2)),(2,t),(3,k)])) λd=>
 fB (jD env.P 107 (some [(0,k),(1,(.v (.bool true))),(2,d)])) λc=>
 ax q 107 f c λl j=>
 bP j f 107 λb=>
 Q b j
theorem vi(x0 b a:AV)(H:aa)(Q:AV->aa->Prop)(h : ∀g,pX g x0 b a H Q):bF bT Tryz.f127 0 [.code pW] [(0,x0),(1,b),(2,a)] H Q:=⟨λg=>yO (live:=Ct) (cut:=Cu) (n:=500) (Eq.mp (by kernel_rfl) (h g))⟩
noncomputable def uh:Code:=(Tryz.f113.body).getD .skip
noncomputable def qT:=ug Tryz.f113 2
def zp:Nat->Option (List Nat):=λi=>cond (Nat.beq i 2) (some [2,7,5,6]) (none)
def zD:Nat->Bool:=λi=>false
def ur(g:Nat->AV)(x0:AV)(H:aa)(Q:AV->aa->Prop):Prop:=
 eF H 2 107 λb a=>
 cE a 6 235 x0 λc=>
  bF bT Tryz.f113 0 qT [(2,b),(7,(.v (.int .i64 0))),(5,x0),(6,c)] a Q
theorem zb(x0:AV)(H:aa)(Q:AV->aa->Prop)(h : ∀g,ur g x0 H Q):bF bT Tryz.f113 0 [.code uh] [(0,x0)] H Q:=⟨λg=>yO (live:=zp) (cut:=zD) (n:=500) (Eq.mp (by kernel_rfl) (h g))⟩
def aO(g:Nat->AV)(b j m n:AV)(H:aa)(Q:AV->aa->Prop):Prop:=
 dC 3 7 6 j n λt=>
 br (some t) (
 bJ H 235 m j λf=>
 ad H 193 f λo=>
 eF H 4 193 λa d=>
 ax d 193 a o λy l=>
 af 193 a 0 λx=>
 ad l 90 x λv=>
 jA (aL bT true (ak bT) (bD bT 0) l (Ref.mk 0 13 (aa.gen l 0 13) 0) (some v) []) λu c=>
 br (some u) (
 af 193 a 1 λk=>
 ad c 190 k λi=>
 jA (aL bT true (ak bT) (bD bT 0) c (Ref.mk 0 16 (aa.gen c 0 16) 0) (some i) []) λh w=>
 ax w 107 b h λq p=>
 bP p b 107 λe=>
 Q e p) (
 eD 3 7 1 j λk=>
  bF bT Tryz.f113 0 qT [(2,b),(7,k),(5,m),(6,n)] c Q)) (
 mo 107 λf=>
 ax H 107 b f λo d=>
 bP d b 107 λa=>
 Q a d)
theorem cJ(b a c d:AV)(H:aa)(Q:AV->aa->Prop)(h : ∀g,aO g b a c d H Q):bF bT Tryz.f113 0 qT [(2,b),(7,a),(5,c),(6,d)] H Q:=Ez λg=>yO (live:=zp) (cut:=zD) (n:=500) (Eq.mp (by kernel_rfl) (h g))
noncomputable def jO:Code:=(Tryz.f52.body).getD .skip
def Er:Nat->Option (List Nat):=λi=>none
def EG:Nat->Bool:=λi=>false
def jU(g:Nat->AV)(x0 x1 x2 x3:AV)(H:aa)(Q:AV->aa->Prop):Prop:=
 aZ H 4 25 x0 λN H1=>
 aZ H1 5 26 x1 λR H2=>
 aZ H2 6 31 x2 λx H3=>
 aZ H3 7 38 x3 λe H4=>
 eF H4 8 107 λm O=>
 ad O 25 N λv6=>
 ad O 26 R λv7=>
 ad O 31 x λY=>
 jA (aL bT true (ak bT) (bD bT 0) O (Ref.mk 0 16 (aa.gen O 0 16) 0) (some (.fn (.func 111) [] [])) [v6,v7,Y]) λX H6=>
 aP X 0 λW=>
 aP X 1 λo=>
 eF H6 10 185 λa H7=>
 ax H7 185 a W λZ M=>
 vO 42 19 0 o λU=>
 br (some U) (
 ad M 38 e λL=>
 jA (aL bT true (ak bT) (bD bT 0) M (Ref.mk 0 22 (aa.gen M 0 22) 0) (some (.fn (.func 70) [] [])) [L]) λd C=>
 kb 42 23 0 d λh=>
 br (some h) (
 mo 107 λb=>
 ax C 107 m b λi c=>
 bP c m 107 λf=>
 Q (.tup [f,d]) c) (
 fB (gY (.func 120) (some []) (some [e,x])) λb=>
 ZV C 28 λi c=>
 rY 193 0 b 1 i λf=>
 fB (gY (.func 122) (some []) (some [a,x])) λA=>
 ZX c 31 λD t=>
 rY 193 0 A 1 D λy=>
 fB (gY (.func 123) (some []) (some [e,a])) λJ=>
 fB (gY (.func 124) (some []) (some [N,R,x,e])) λp=>
 rY 193 0 J 1 p λB=>
 fB (gY (.func 125) (some []) (some [e,a])) λn=>
 ZY t 37 λE k=>
 rY 193 0 n 1 E λz=>
 fB (gY (.func 126) (some []) (some [a])) λq=>
 ZW k 40 λw j=>
 rY 193 0 q 1 w λF=>
 fB (gY (.func 127) (some []) (some [N,R,e])) λu=>
 Rv 193 1 u λK=>
 jA (nJ env.P false true j (Ref.mk 0 44 (aa.gen j 0 44) 0) 235 6 (some [(0,f),(1,y),(2,B),(3,z),(4,F),(5,K)])) λT G=>
 ZO G 45 T λI l=>
 ax l 107 m I λv37 S=>
 bP S m 107 λV=>
 Q (.tup [V,(.v (.int .i64 0))]) S)) (
 kb 42 23 0 o λL=>
 br (some L) (
 mo 107 λd=>
 ax M 107 m d λh C=>
 bP C m 107 λb=>
 Q (.tup [b,o]) C) (
 fB (gY (.func 120) (some []) (some [e,x])) λd=>
 ZV M 28 λh C=>
 rY 193 0 d 1 h λb=>
 fB (gY (.func 122) (some []) (some [a,x])) λi=>
 ZX C 31 λf c=>
 rY 193 0 i 1 f λA=>
 fB (gY (.func 123) (some []) (some [e,a])) λD=>
 fB (gY (.func 124) (some []) (some [N,R,x,e])) λy=>
 rY 193 0 D 1 y λJ=>
 fB (gY (.func 125) (some []) (some [e,a])) λp=>
 ZY c 37 λB t=>
 rY 193 0 p 1 B λn=>
 fB (gY (.func 126) (some []) (some [a])) λE=>
 ZW t 40 λz k=>
 rY 193 0 E 1 z λq=>
 fB (gY (.func 127) (some []) (some [N,R,e])) λw=>
 Rv 193 1 w λF=>
 jA (nJ env.P false true k (Ref.mk 0 44 (aa.gen k 0 44) 0) 235 6 (some [(0,b),(1,A),(2,J),(3,n),(4,q),(5,F)])) λu j=>
 ZO j 45 u λK G=>
 ax G 107 m K λT l=>
 bP l m 107 λI=>
 Q (.tup [I,(.v (.int .i64 0))]) l))
theorem lI(x0 b a x3:AV)(H:aa)(Q:AV->aa->Prop)(h : ∀g,jU g x0 b a x3 H Q):bF bT Tryz.f52 0 [.code jO] [(0,x0),(1,b),(2,a),(3,x3)] H Q:=⟨λg=>yO (live:=Er) (cut:=EG) (n:=500) (Eq.mp (by kernel_rfl) (h g))⟩
noncomputable def mw:Code:=(Tryz.f10.body).getD .skip
noncomputable def bS:=ug Tryz.f10 5
noncomputable def eu:=ug Tryz.f10 17
def iE:Nat->Option (List Nat):=λi=>cond (Nat.beq i 5) (some [12,1,11,9,7,5,3]) (cond (Nat.beq i 17) (some [27,18,9,13,1,11,26]) (none))
def iF:Nat->Bool:=λi=>false
def fh(g:Nat->AV)(x0 f m x3 t:AV)(H:aa)(Q:AV->aa->Prop):Prop:=
 aZ H 5 25 x0 λe n=>
 aZ n 7 31 m λk q=>
 aZ q 9 38 t λh d=>
 ad d 25 e λj=>
 jA (aL bT true (ak bT) (bD bT 0) d (Ref.mk 0 30 (aa.gen d 0 30) 0) (some (.fn (.func 13) [] [])) [j,f,(.v (.int .i64 25))]) λa b=>
 gQ a false (au 38 h 6) λp=>
 gQ a false (ar b 36 p) λl=>
 gQ a false (yG b 34 36 l) λi=>
 gQ a false (wZ 3 34 300 i) λo=>
 dn a o λc=>
 br (some c) (
 Q (.v (.bool true)) b) (
  bF bT Tryz.f10 0 bS [(12,(.v (.int .i64 0))),(1,f),(11,(.v (.slice none 0 0))),(9,h),(7,k),(5,e),(3,x3)] b Q)
theorem tw(x0 c a x3 b:AV)(H:aa)(Q:AV->aa->Prop)(h : ∀g,fh g x0 c a x3 b H Q):bF bT Tryz.f10 0 [.code mw] [(0,x0),(1,c),(2,a),(3,x3),(4,b)] H Q:=⟨λg=>yO (live:=iE) (cut:=iF) (n:=500) (Eq.mp (by kernel_rfl) (h g))⟩
def bU(g:Nat->AV)(p o x11 F m l x3:AV)(H:aa)(Q:AV->aa->Prop):Prop:=
 cE H 39 26 o λv1=>
 dC 3 37 39 p v1 λv2=>
 br (some v2) (
 bJ H 26 o p λV=>
 ad H 62 V λv4=>
 jA (aL bT true (ak bT) (bD bT 0) H (Ref.mk 0 48 (aa.gen H 0 48) 0) (some (.fn (.func 55) [] [])) [v4]) λA H1=>
 uB H1 49 26 1 0 A λv6 H2=>
 mX H2 50 26 26 x11 v6 λY q=>
 eD 3 41 1 p λI=>
  bF bT Tryz.f10 0 bS [(12,I),(1,o),(11,Y),(9,F),(7,m),(5,l),(3,x3)] q Q) (
 ad H 38 F λV=>
 jA (aL bT true (ak bT) (bD bT 0) H (Ref.mk 0 52 (aa.gen H 0 52) 0) (some (.fn (.func 56) [] [])) [V]) λv4 H1=>
 eF H1 13 38 λA H2=>
 ax H2 38 A v4 λv6 q=>
 ad q 25 l λY=>
 ad q 31 m λI=>
 jA (aL bT true (ak bT) (bD bT 0) q (Ref.mk 0 58 (aa.gen q 0 58) 0) (some (.fn (.func 49) [] [])) [Y,x11,I,x3]) λv9 H4=>
 aP v9 0 λv10=>
 aP v9 1 λv11=>
 eF H4 14 107 λx H5=>
 ax H5 107 x v10 λv13 E=>
 ad E 25 l λv14=>
 ad E 31 m λv15=>
 jA (aL bT true (ak bT) (bD bT 0) E (Ref.mk 0 66 (aa.gen E 0 66) 0) (some (.fn (.func 57) [] [])) [v14,o,v15,x3]) λB H7=>
 aP B 0 λM=>
 aP B 1 λv18=>
 eF H7 16 107 λu H8=>
 ax H8 107 u M λv20 y=>
 ad y 25 l λv21=>
 ad y 31 m λv22=>
 ad y 38 A λX=>
 jA (aL bT true (ak bT) (bD bT 0) y (Ref.mk 0 74 (aa.gen y 0 74) 0) (some (.fn (.func 52) [] [])) [v21,x11,v22,X]) λD K=>
 aP D 0 λv25=>
 aP D 1 λv26=>
 eF K 18 107 λn R=>
 ax R 107 n v25 λv28 b=>
 ad b 25 l λv29=>
 ad b 31 m λO=>
 ad b 38 F λS=>
 jA (aL bT true (ak bT) (bD bT 0) b (Ref.mk 0 82 (aa.gen b 0 82) 0) (some (.fn (.func 58) [] [])) [v29,o,O,S]) λC H13=>
 aP C 0 λv33=>
 aP C 1 λv34=>
 eF H13 20 107 λz H14=>
 ax H14 107 z v33 λv36 e=>
 ad e 25 l λv37=>
 ad e 31 m λT=>
 jA (aL bT true (ak bT) (bD bT 0) e (Ref.mk 0 89 (aa.gen e 0 89) 0) (some (.fn (.func 59) [] [])) [v37,x11,T]) λw d=>
 aP w 0 λW=>
 aP w 1 λv41=>
 ad d 25 l λv42=>
 ad d 31 m λv43=>
 jA (aL bT true (ak bT) (bD bT 0) d (Ref.mk 0 96 (aa.gen d 0 96) 0) (some (.fn (.func 60) [] [])) [v42,o,v43]) λt h=>
 aP t 0 λv45=>
 aP t 1 λG=>
 ad h 107 x λv47=>
 ad h 107 u λv48=>
 jA (aL bT true (ak bT) (bD bT 0) h (Ref.mk 0 101 (aa.gen h 0 101) 0) (some (.fn (.func 61) [] [])) [v47,v48]) λf a=>
 gQ f true (aU v11) λv50=>
 gQ f true (aU v18) λv51=>
 gQ f true (gT 3 103 104 v50 v51) λv52=>
 bo f v52 λj=>
 gQ j true (ar a 107 n) λv54=>
 gQ j true (ar a 107 z) λN=>
 gW j true a (aL bT true (ak bT) (bD bT 0) a (Ref.mk 0 110 (aa.gen a 0 110) 0) (some (.fn (.func 61) [] [])) [v54,N]) λZ H19=>
 bo j Z λk=>
 gQ k true (aU v26) λU=>
 gQ k true (aU v34) λv59=>
 gQ k true (gT 3 113 114 U v59) λL=>
 bo k L λi=>
 gQ i true (aU W) λv62=>
 gQ i true (aU v45) λv63=>
 gQ i true (gT 4 118 119 v62 v63) λv64=>
 bo i v64 λc=>
 gQ c true (aU v41) λv66=>
 gQ c true (aU G) λP=>
 gQ c true (gT 3 123 124 v66 P) λJ=>
 bo c J λv69=>
  bF bT Tryz.f10 0 eu [(27,(.v (.int .i64 0))),(18,n),(9,F),(13,A),(1,o),(11,x11),(26,v69)] H19 Q)
theorem gM(a c x11 b e d x3:AV)(H:aa)(Q:AV->aa->Prop)(h : ∀g,bU g a c x11 b e d x3 H Q):bF bT Tryz.f10 0 bS [(12,a),(1,c),(11,x11),(9,b),(7,e),(5,d),(3,x3)] H Q:=Ez λg=>yO (live:=iE) (cut:=iF) (n:=500) (Eq.mp (by kernel_rfl) (h g))
def cq(g:Nat->AV)(e h o j p x11 b:AV)(H:aa)(Q:AV->aa->Prop):Prop:=
 af 107 h 2 λq=>
 af 62 q 2 λu=>
 af 38 u 6 λz=>
 ad H 36 z λt=>
 cE H 132 36 t λw=>
 dC 3 127 132 e w λx=>
 br (some x) (
 af 107 h 2 λl=>
 af 62 l 2 λk=>
 af 38 k 6 λn=>
 ad H 36 n λa=>
 bJ H 36 a e λd=>
 jA (nS env.P H 21 (some d) (some (.v (.int .i32 7)))) λi f=>
 eD 3 134 1 e λc=>
  bF bT Tryz.f10 0 eu [(27,c),(18,h),(9,o),(13,j),(1,p),(11,x11),(26,b)] f Q) (
 gQ b true (aU x11) λl=>
 gQ b true (aU p) λk=>
 gW b true H (aL bT true (ak bT) (bD bT 0) H (Ref.mk 0 146 (aa.gen H 0 146) 0) (some (.fn (.func 22) [] [])) [l,k]) λn f=>
 bo b n λa=>
 gQ a true (ar f 38 j) λd=>
 gQ a true (ar f 38 o) λi=>
 gW a true f (aL bT true (ak bT) (bD bT 0) f (Ref.mk 0 151 (aa.gen f 0 151) 0) (some (.fn (.func 62) [] [])) [d,i]) λc y=>
 bo a c λm=>
 Q m y)
theorem kR(b d e a f x11 c:AV)(H:aa)(Q:AV->aa->Prop)(h : ∀g,cq g b d e a f x11 c H Q):bF bT Tryz.f10 0 eu [(27,b),(18,d),(9,e),(13,a),(1,f),(11,x11),(26,c)] H Q:=Ez λg=>yO (live:=iE) (cut:=iF) (n:=500) (Eq.mp (by kernel_rfl) (h g))
end
section
attribute [local simp] aG ay aw aF aE bQ gX aM aA aD bI bH bn aN aj bf fe
@[simp] theorem VA(a:UInt8)(b:UInt32):ak env 76 [.agg [a8 a,ae b]]=some (aI (bad (decide (a<=15)))):=by
 refine an rfl (by kernel_rfl) (Bv _ _ _ λg=>?_)
 simp[ai, *,wJ]
 repeat' ((first | apply iV<;>intro h | apply fZ<;>intro h | apply ga<;>intro h | apply fX<;>intro h | apply fY<;>intro h)<;>(try simp only[decide_eq_true_eq,decide_eq_false_iff_not,dN,kG,aY,fv]at h)<;>(try simp[ai, *]))
 all_goals (try grind [bad])
@[simp] theorem aiR(b:Bool):ak env 159 [aB b]=some (aI (bad b)):=by
 refine an rfl (by kernel_rfl) (LA _ _ _ λg=>?_)
 cases b<;>simp[ai, *,EP,bad]
@[simp] theorem yi(a:UInt8)(b:UInt32)(n:UInt8):ak env 91 [.agg [a8 a,ae b,a8 n]]=some (aI (bad (dZ ⟨a,b,n⟩))):=by
 refine an rfl (by kernel_rfl) (C4 _ _ _ λg=>?_)
 simp[ai, *,wK,dZ]
 repeat' ((first | apply iV<;>intro h | apply fZ<;>intro h | apply ga<;>intro h | apply fX<;>intro h | apply fY<;>intro h)<;>(try simp only[decide_eq_true_eq,decide_eq_false_iff_not,dN,kG,aY,fv]at h)<;>(try simp[ai, *]))
@[simp] theorem agy(a:UInt8)(b:UInt32)(n:UInt8)(k:Int):ak env 182 [.agg [a8 a,ae b,a8 n,aI k]]=some (aI (bad (FB ⟨⟨a,b,n⟩,k⟩))):=by
 refine an rfl (by kernel_rfl) (LB _ _ _ λg=>?_)
 simp[ai, *,ER,FB]
 repeat' ((first | apply iV<;>intro h | apply fZ<;>intro h | apply ga<;>intro h | apply fX<;>intro h | apply fY<;>intro h)<;>(try simp only[decide_eq_true_eq,decide_eq_false_iff_not,dN,kG,aY,fv]at h)<;>(try simp[ai, *]))
@[simp] theorem aac(a:UInt8)(b:UInt32)(n:UInt8)(k m:Int):ak env 135 [.agg [a8 a,ae b,a8 n,aI k,aI m]]=some (aI (bad (eJ ⟨⟨⟨a,b,n⟩,k⟩,m⟩))):=by
 refine an rfl (by kernel_rfl) (Fe _ _ _ λg=>?_)
 cases d:FB ⟨⟨a,b,n⟩,k⟩ with
 | false=>simp[ai, *,mP,eJ]
 | true=>
  have c:=KV d
  simp only at c
  by_cases h:1<=m
  ·by_cases e:m<=64
   ·have f:=IntWalk.i64_in (k+m) (by omega)
    have i:=IntWalk.i64_in (k+m - 1) (by omega)
    simp[ai, *,mP,eJ]
   ·simp[ai, *,mP,eJ]
  ·simp[ai, *,mP,eJ]
@[simp] theorem aj2(a:UInt8)(b:UInt32)(n:UInt8)(k m:Int):ak env 239 [.agg [a8 a,ae b,a8 n,aI k],aI m]=some (.agg [a8 a,ae b,a8 n,aI (IntKind.i64.wrap (k+m))]):=by
 refine an rfl (by kernel_rfl) (Nk _ _ _ _ λg=>?_)
 simp[ai, *,Gw]
def XH(s:wN)(m:Int):Int:=if eJ s then (if m<0\/s.many<=m then 2 else 0) else 8
@[simp] theorem agz(a:UInt8)(b:UInt32)(n:UInt8)(k m j:Int):ak env 228 [.agg [a8 a,ae b,a8 n,aI k,aI m],aI j] =
 some (if XH ⟨⟨⟨a,b,n⟩,k⟩,m⟩ j=0 then .tup [.agg [a8 a,ae b,a8 n,aI (k+j)],aI 0] else .tup [.agg [a8 0,ae 0,a8 0,aI 0],aI (XH ⟨⟨⟨a,b,n⟩,k⟩,m⟩ j)]):=by
 refine an rfl (by kernel_rfl) (Sy _ _ _ _ λg=>?_)
 cases d:eJ ⟨⟨⟨a,b,n⟩,k⟩,m⟩ with
 | false=>simp[ai, *,zO,XH]
 | true=>
  have c:=gI d
  simp only at c
  by_cases h:j<0
  ·simp[ai, *,zO,XH]
  ·by_cases e:m<=j
   ·simp[ai, *,zO,XH]
   ·have f:=IntWalk.i64_in (k+j) (by omega)
    simp[ai, *,zO,XH]
end
end Go.Proofs.YtmkmimgokagimaaGreat
namespace Go.Ab
def mz.enc(h:mz):List AV:=[a8 h.lv,ae h.cats,a8 h.num]
def bV.enc(i:bV):List AV:=[a8 i.h.lv,ae i.h.cats,a8 i.h.num,aI i.n]
def wN.enc(s:wN):List AV:=[a8 s.f.h.lv,ae s.f.h.cats,a8 s.f.h.num,aI s.f.n,aI s.many]
end Go.Ab
namespace Go.Proofs.YtmkmimgokagimaaGreat
open Go.Ab Go.ChangeShapes Go.WideShapes Go.RowKit
theorem D8:Pv env.P 29 (λ_=>True) (λp:UInt8 × UInt32=>[a8 p.1,ae p.2]):=by
 intro n xs h
 have h:=mE (P:=env.P) OX h
 obtain⟨m,x,r,rfl,b,y,r',rfl,a,rfl⟩:=h
 obtain⟨v,_,rfl⟩:=RP (P:=env.P) (t:=5) (by simp) _ _ b
 obtain⟨w,_,rfl⟩:=abz (P:=env.P) (t:=27) (by simp) _ _ a
 exact⟨(v,w),trivial,rfl⟩
theorem LW:Pv env.P 31 (λ_=>True) mz.enc:=by
 intro n xs h
 have h:=mE (P:=env.P) OW h
 obtain⟨m,x,r,rfl,b,y,r',rfl,a,rfl⟩:=h
 obtain⟨p,_,rfl⟩:=D8 _ _ b
 obtain⟨w,_,rfl⟩:=RP (P:=env.P) (t:=5) (by simp) _ _ a
 exact⟨⟨p.1,p.2,w⟩,trivial,rfl⟩
theorem RO:Pv env.P 33 (λ_=>True) bV.enc:=by
 intro n xs h
 have h:=mE (P:=env.P) OV h
 obtain⟨m,x,r,rfl,b,y,r',rfl,a,rfl⟩:=h
 obtain⟨p,_,rfl⟩:=LW _ _ b
 obtain⟨i,_,rfl⟩:=sn (P:=env.P) (t:=3) (by simp) _ _ a
 exact⟨⟨p,i⟩,trivial,rfl⟩
theorem Yn:Pv env.P 35 (λ_=>True) wN.enc:=by
 intro n xs h
 have h:=mE (P:=env.P) OU h
 obtain⟨m,x,r,rfl,b,y,r',rfl,a,rfl⟩:=h
 obtain⟨p,_,rfl⟩:=RO _ _ b
 obtain⟨i,_,rfl⟩:=sn (P:=env.P) (t:=3) (by simp) _ _ a
 exact⟨⟨p,i⟩,trivial,rfl⟩
theorem UZ{n:Nat}{xs:List AV}(h:Dp env.P n 36 xs) : ∃(l:List Int) (x:AV),(∀a∈l, -2147483648<=a/\a<=2147483647)/\xs=[x]/\Sl 1 (rows l) x:=by
 obtain⟨l,x,b,rfl,s⟩:=D2 (P:=env.P) UL UK X1 (Ym (by simp)) h
 exact⟨l,x,b,rfl,s⟩
def aa0(p:aC × AV):List AV:=[a8 p.1.kind,a8 p.1.h.lv,ae p.1.h.cats,a8 p.1.h.num,aI p.1.serial,a8 p.1.s.f.h.lv,ae p.1.s.f.h.cats,a8 p.1.s.f.h.num,aI p.1.s.f.n,aI p.1.s.many,
 a8 p.1.a.h.lv,ae p.1.a.h.cats,a8 p.1.a.h.num,aI p.1.a.n,a8 p.1.to.lv,ae p.1.to.cats,p.2]
theorem NO:Pv env.P 38 (λp:aC × AV=>Sl 1 (rows p.1.l) p.2 /\∀a∈p.1.l, -2147483648<=a/\a<=2147483647) aa0:=by
 intro n xs h
 have h:=mE (P:=env.P) OT h
 obtain⟨m,u,r1,rfl,g,z,r2,rfl,f,x3,r3,rfl,d,w,r4,rfl,i,v,r5,rfl,c,A,x,rfl,o,B,r7,rfl,b,rfl⟩:=h
 obtain⟨k,_,rfl⟩:=RP (P:=env.P) (t:=5) (by simp) _ _ g
 obtain⟨q,_,rfl⟩:=LW _ _ f
 obtain⟨j,_,rfl⟩:=sn (P:=env.P) (t:=3) (by simp) _ _ d
 obtain⟨s,_,rfl⟩:=Yn _ _ i
 obtain⟨a,_,rfl⟩:=RO _ _ c
 obtain⟨t,_,rfl⟩:=D8 _ _ o
 obtain⟨l,y,e,rfl,sl⟩:=UZ b
 exact⟨(⟨k,q,j,s,a,⟨t.1,t.2⟩,l⟩,y),⟨sl,e⟩,rfl⟩
theorem own:ownKnob Tryz.prog.godebug=none:=by kernel_rfl
theorem kids:Kids Tryz.prog (· < Tryz.prog.types.size):=kids_rows (by kernel_rfl) (by kernel_rfl)
end Go.Proofs.YtmkmimgokagimaaGreat
namespace Go.Proofs.YtmkmimgokagimaaGreat
open Go.Ab
section
attribute [local simp] aG ay aw aF aE bQ gX aM aA aD bI bH bn aN aj bf fe
@[simp] theorem ad1(n:Int)(c:0<=n):ak env 207 [aI n,aI 4]=some (.cD 1 (kr (be 4 n)) none):=by
 refine an rfl (by kernel_rfl) (CG _ _ _ _ λg=>?_)
 have a:IntKind.i64.wrap (-1) = -1:=rfl
 have b:IntKind.i64.wrap 0=0:=rfl
 simp[ai, *,yA]
 refine dk _ _ _ _ _ λg=>?_
 simp[ai, *,cO,gC,fJ]
 refine dk _ _ _ _ _ λg=>?_
 simp[ai, *,cO,gC,fJ]
 refine dk _ _ _ _ _ λg=>?_
 simp[ai, *,cO,gC,fJ]
 refine dk _ _ _ _ _ λg=>?_
 simp[ai, *,cO,gC,fJ]
 refine dk _ _ _ _ _ λg=>?_
 simp[ai, *,cO,Rm,kr]
@[simp] theorem SP(n:Int)(c:0<=n):ak env 207 [aI n,aI 7]=some (.cD 1 (kr (be 7 n)) none):=by
 refine an rfl (by kernel_rfl) (CG _ _ _ _ λg=>?_)
 have a:IntKind.i64.wrap (-1) = -1:=rfl
 have b:IntKind.i64.wrap 0=0:=rfl
 simp[ai, *,yA]
 refine dk _ _ _ _ _ λg=>?_
 simp[ai, *,cO,gC,fJ]
 refine dk _ _ _ _ _ λg=>?_
 simp[ai, *,cO,gC,fJ]
 refine dk _ _ _ _ _ λg=>?_
 simp[ai, *,cO,gC,fJ]
 refine dk _ _ _ _ _ λg=>?_
 simp[ai, *,cO,gC,fJ]
 refine dk _ _ _ _ _ λg=>?_
 simp[ai, *,cO,gC,fJ]
 refine dk _ _ _ _ _ λg=>?_
 simp[ai, *,cO,gC,fJ]
 refine dk _ _ _ _ _ λg=>?_
 simp[ai, *,cO,gC,fJ]
 refine dk _ _ _ _ _ λg=>?_
 simp[ai, *,cO,akx,kr]
def jY(h:mz):List UInt8:=h.lv :: (be 4 h.cats.toNat++[h.num])
@[simp] theorem acE(h:mz):(jY h).length=6:=by simp[jY]
@[simp] theorem ND(a:UInt8)(b:UInt32)(n:UInt8):ak env 162 [.agg [a8 a,ae b,a8 n]]=some (if dZ ⟨a,b,n⟩ then .tup [.fsl 1 (kr (jY ⟨a,b,n⟩)) none,aI 0] else .tup [ba,aI 8]):=by
 refine an rfl (by kernel_rfl) (Fc _ _ _ λg=>?_)
 cases h:dZ ⟨a,b,n⟩ with
 | true=>simp[ai, *,uo,bad,kr,jY]
 | false=>simp[ai, *,uo,bad]
def kX(i:bV):List UInt8:=jY i.h++be 7 i.n
@[simp] theorem acB(i:bV):(kX i).length=13:=by simp[kX]
@[simp] theorem aka(a:UInt8)(b:UInt32)(n:UInt8)(k:Int):ak env 208 [.agg [a8 a,ae b,a8 n,aI k]]=some (if FB ⟨⟨a,b,n⟩,k⟩ then .tup [.cD 1 (kr (kX ⟨⟨a,b,n⟩,k⟩)) none,aI 0] else .tup [ba,aI 8]):=by
 refine an rfl (by kernel_rfl) (P4 _ _ _ λg=>?_)
 cases h:FB ⟨⟨a,b,n⟩,k⟩ with
 | true=>
  have c:=KV h
  have d:=SP k (by simp only at c;omega)
  have e:dZ ⟨a,b,n⟩=true:=by simp only[FB,aY]at h;exact h.1
  simp only at c
  simp[ai, *,Dn,bad,kr,kX]
 | false=>simp[ai, *,Dn,bad]
end
section
attribute [local simp] aG ay aw aF aE bQ gX aM aA aD bI bH bn aN aj bf fe
def Ae(n:Int):Bool:=(decide (0<=n)&&decide (n<55296))||(decide (57343<n)&&decide (n<=1114111))
@[simp] theorem aiT(n:Int):ak env 216 [.v (.int .i32 n)]=some (aB (Ae n)):=by
 refine an rfl (by kernel_rfl) (wP _ _ _ λg=>?_)
 simp[ai, *,pL,Ae]
 repeat' ((first | apply iV<;>intro h | apply fZ<;>intro h | apply ga<;>intro h | apply fX<;>intro h | apply fY<;>intro h)<;>(try simp only[decide_eq_true_eq,decide_eq_false_iff_not,dN,kG,aY,fv]at h)<;>(try simp[ai, *]))
 all_goals (try grind)
@[simp] theorem aiQ(n:Int):ak env 215 [.v (.int .i32 n)]=some (aB (!pJ n)):=by
 refine an rfl (by kernel_rfl) (E7 _ _ _ λg=>?_)
 by_cases h:n = -1
 ·subst h;simp[ai, *,uj,pJ]
 ·simp[ai, *,uj,pJ,Ae]
def Av:List Int->Nat->Int
 | [],_ => -1
 | n :: l,k=>if pJ n then Av l (k+1) else k
theorem Q1(l:List Int) : ∀k:Nat,(0<=Av l k↔l.all pJ=false):=by
 induction l with
 | nil=>intro k;simp[Av]
 | cons n l b=>
  intro k
  unfold Av
  cases h:pJ n with
  | true=>rw[if_pos rfl,b,Br,h,nX]
  | false=>simp[h]
theorem PZ{x0:AV}{Q:AV->aa->Prop}{l:List Int}(a:Sl 1 (rows l) x0)(f:l.length<4611686018427387904) : ∀(s:List Int)(k:Nat)(i:Int)(H:aa),l.drop k=s->k<=l.length->i=k ->
 (∀y H',y=aI (Av s k)->Q y H') ->
 bF env Tryz.f229 0 dU [(8,aI i),(0,x0),(1,.fn (.func 215) [] []),(7,aI l.length)] H Q:=by
 intro s
 induction s with
 | nil=>
  rintro k i H hs hk rfl hQ
  obtain rfl:=drop_nil hs hk
  refine kI _ _ _ _ _ _ λg=>?_
  simp[ai, *,dV]
  all_goals exact hQ _ _ rfl
 | cons b s n=>
  rintro k i H hs hk rfl hQ
  obtain⟨o,q,c,j⟩:=drop_cons hs
  refine kI _ _ _ _ _ _ λg=>?_
  have p:=IntWalk.i64_in ((k:Int)+1) (by omega)
  cases h:pJ b with
  | true=>
   simp[ai, *,dV,a.idx,rows,aR]
   exact n (k+1) _ _ c (by omega) (by simp) (λy H' e=>hQ y H' (by simp[e,Av,h]))
  | false=>
   simp[ai, *,dV,a.idx,rows,aR]
   exact hQ _ _ (by simp[Av,h])
theorem ab5:bY env.P .eql 36 (.tmp 3) (.const (.slice none 0 0)) (some (.v (.slice none 0 0))) (some (.v (.slice none 0 0)))=some (aB true,[]):=by kernel_rfl
section
variable{x:AV}{l:List Int}(a:Sl 1 (rows l) x)(f:l.length<4611686018427387904)
include a f
theorem Qm:ak env 229 [x,.fn (.func 215) [] []]=some (aI (Av l 0)):=by
 refine an rfl (by kernel_rfl) (rP _ _ _ _ λg=>?_)
 have h:=a.len
 simp[ai, *,lx]
 exact PZ a f l 0 _ _ rfl (by omega) rfl (λy H' e=>by simp[e])
theorem VD:ak env 217 [x,.fn (.func 215) [] []]=some (aB (!l.all pJ)):=by
 refine an rfl (by kernel_rfl) (pQ _ _ _ _ λg=>?_)
 have h:=Qm a f
 have e:decide (0<=Av l 0) = !l.all pJ:=by
  have:=Q1 l 0
  cases h:l.all pJ<;>simp[h]at this ⊢ <;> omega
 simp[ai, *,ko,a.r]
theorem Fj:ak env 187 [x]=some (aI (Cr l)):=by
 refine an rfl (by kernel_rfl) (HS _ _ _ λg=>?_)
 have h:=VD a f
 have c:=a.len
 by_cases b:64<l.length
 ·have:(64:Int)<l.length:=by omega
  simp[ai, *,wG,Cr,a.r]
 ·have : ¬(64:Int)<l.length:=by omega
  cases e:l.all pJ<;>simp[ai, *,wG,Cr,a.r]
theorem Fi(i:l.length * 4<=140737488355328):ak env 173 [x]=some (sM x):=by
 refine an rfl (by kernel_rfl) (tU _ _ _ λg=>?_)
 rcases a with ⟨rfl,h⟩ | ⟨c,rfl,j⟩
 ·have k:=ab5
  simp[ai, *,fC]
 ·by_cases e:l=[]
  ·subst e
   simp[ai, *,fC,rows]
  ·have b:rows l≠[]:=by simpa using e
   have hp:0<l.length:=Hi.2 e
   rw[rE 1 c b]
   simp[ai, *,fC]
end
theorem Rd{x0 o:AV}{Q:AV->aa->Prop}{l m:List Int}(a:Sl 1 (rows l) x0)(d:Sl 1 (rows m) o)(f:l.length<4611686018427387904)(h:m.length=l.length) : ∀(s t:List Int)(k:Nat)(i:Int)(H:aa),l.drop k=s->m.drop k=t->k<=l.length->i=k ->
 (∀y H',y=aB (decide (s=t))->Q y H') ->
 bF env Tryz.f226 0 eP [(13,aI i),(1,o),(0,x0),(12,aI l.length)] H Q:=by
 intro s
 induction s with
 | nil=>
  rintro t k i H hs ht hk rfl hQ
  obtain rfl:=drop_nil hs hk
  rw[<-h,Px]at ht
  subst ht
  refine lG _ _ _ _ _ _ λg=>?_
  simp[ai, *,eT]
  all_goals exact hQ _ _ rfl
 | cons b s w=>
  rintro t k i H hs ht hk rfl hQ
  obtain⟨A,C,j,v⟩:=drop_cons hs
  cases t with
  | nil=>have:=congrArg List.length ht;simp at this;omega
  | cons c t=>
  obtain⟨p,z,n,q⟩:=drop_cons ht
  refine lG _ _ _ _ _ _ λg=>?_
  have B:=IntWalk.i64_in ((k:Int)+1) (by omega)
  by_cases u:b=c
  ·subst u
   simp[ai, *,eT,a.idx,d.idx,rows,aR]
   exact w t (k+1) _ _ j n (by omega) (by simp) (λy H' e=>hQ y H' (by simp[e]))
  ·simp[ai, *,eT,a.idx,d.idx,rows,aR]
   all_goals exact hQ _ _ (by simp[u])
theorem SJ{x0 o:AV}{Q:AV->aa->Prop}{l m:List Int}(a:Sl 1 (rows l) x0)(d:Sl 1 (rows m) o)(f:l.length<4611686018427387904)(h:m.length=l.length) : ∀(s t:List Int)(k:Nat)(i:Int)(H:aa),l.drop k=s->m.drop k=t->k<=l.length->i=k ->
 (∀y H',y=aB (decide (s=t))->Q y H') ->
 bF env Tryz.f133 0 iN [(5,aI i),(1,o),(0,x0)] H Q:=by
 intro s
 induction s with
 | nil=>
  rintro t k i H hs ht hk rfl hQ
  obtain rfl:=drop_nil hs hk
  rw[<-h,Px]at ht
  subst ht
  refine pI _ _ _ _ _ λg=>?_
  simp[ai, *,iO,a.len]
  all_goals exact hQ _ _ rfl
 | cons b s w=>
  rintro t k i H hs ht hk rfl hQ
  obtain⟨A,C,j,v⟩:=drop_cons hs
  cases t with
  | nil=>have:=congrArg List.length ht;simp at this;omega
  | cons c t=>
  obtain⟨p,z,n,q⟩:=drop_cons ht
  refine pI _ _ _ _ _ λg=>?_
  have B:=IntWalk.i64_in ((k:Int)+1) (by omega)
  by_cases u:b=c
  ·subst u
   simp[ai, *,iO,a.idx,d.idx,a.len,rows,aR]
   exact w t (k+1) _ _ j n (by omega) (by simp) (λy H' e=>hQ y H' (by simp[e]))
  ·simp[ai, *,iO,a.idx,d.idx,a.len,rows,aR]
   all_goals exact hQ _ _ (by simp[u])
section
variable{x y:AV}{l m:List Int}(a:Sl 1 (rows l) x)(d:Sl 1 (rows m) y)(f:l.length<4611686018427387904)
include a d f
theorem SW:ak env 226 [x,y]=some (aB (decide (l=m))):=by
 refine an rfl (by kernel_rfl) (tT _ _ _ _ λg=>?_)
 have k:=a.len
 have j:=d.len
 by_cases h:m.length=l.length
 ·have i:(m.length:Int)=l.length:=by omega
  simp[ai, *,jf]
  exact Rd a d f h l m 0 0 _ rfl rfl (by omega) rfl (λy H' e=>by simp[e])
 ·have i : ¬(l.length:Int)=m.length:=by omega
  have b:l≠m:=λe=>h (by rw[e])
  have c : ¬(m.length:Int)=l.length:=by omega
  simp[ai, *,jf]
theorem Ve:ak env 133 [x,y]=some (aB (decide (l=m))):=by
 refine an rfl (by kernel_rfl) (za _ _ _ _ λg=>?_)
 have k:=a.len
 have j:=d.len
 by_cases h:m.length=l.length
 ·have i:(m.length:Int)=l.length:=by omega
  simp[ai, *,mW]
  exact SJ a d f h l m 0 0 _ rfl rfl (by omega) rfl (λy H' e=>by simp[e])
 ·have i : ¬(l.length:Int)=m.length:=by omega
  have b:l≠m:=λe=>h (by rw[e])
  have c : ¬(m.length:Int)=l.length:=by omega
  simp[ai, *,mW]
end
end
section
attribute [local simp] aG ay aw aF aE bQ gX aM aA aD bI bH bn aN aj bf fe
def fQ(l:List Int):List UInt8:=l.flatMap λn=>be 4 n
theorem Al(l:List Int):(fQ l).length=4 * l.length:=by
 induction l with
 | nil=>rfl
 | cons n l a=>show(be 4 n++fQ l).length=_;rw[pH,a,Xe,sc];omega
theorem Tc{l:List Int}{q:AV}(p:Sl 1 (rows l) q)(P:l.length<100000)(J : ∀n∈l, -2147483648<=n/\n<=2147483647){Q:AV->aa->Prop} :
 ∀(s:List Int)(k:Nat)(i:Int)(a:List Int)(j:AV)(H:aa),l.drop k=s->k<=l.length->i=k->a.length=k->Fr H->uW [32] 1 (kr (fQ a)) H j->(a=[]->j=ba) ->
 (∀y H',uW [32] 1 (kr (fQ (a++s))) H' y->(a++s=[]->y=ba)->Q (.tup [y,aI 0]) H') ->
 bF env Tryz.f210 0 sK [(15,aI i),(5,j),(13,q),(14,aI l.length)] H Q:=by
 intro s
 induction s with
 | nil=>
  rintro k i a j H hs hk rfl ha hF hO hN hQ
  obtain rfl:=drop_nil hs hk
  refine Bt _ _ _ _ _ _ λg=>?_
  have f:=hQ j H (by simpa using hO) (by simpa using hN)
  clear hQ hO hN
  simp[ai, *,sU,p.len]
  all_goals exact f
 | cons n s B=>
  rintro k i a j H hs hk rfl ha hF hO hN hQ
  obtain⟨M,L,z,x⟩:=drop_cons hs
  have K:=J n (by rw[<-L];exact mq _)
  have O:=IntWalk.i64_in ((k:Int)+1) (by omega)
  refine Bt _ _ _ _ _ _ λg=>?_
  have D:cm (rows l) k 0 1 false=some (.v (.int .i32 n)):=by simp[rows,x,aR]
  have G:n.fdiv (2 ^ min 24 IntKind.i32.bits)=n / 16777216:=by rw[show(2:Int) ^ min 24 IntKind.i32.bits=16777216 from rfl];exact fJ n 16777216
  have N:n.fdiv (2 ^ min 16 IntKind.i32.bits)=n / 65536:=by rw[show(2:Int) ^ min 16 IntKind.i32.bits=65536 from rfl];exact fJ n 65536
  have S:n.fdiv (2 ^ min 8 IntKind.i32.bits)=n / 256:=by rw[show(2:Int) ^ min 8 IntKind.i32.bits=256 from rfl];exact fJ n 256
  have u:=λw H'=>B (k+1) ((k:Int)+1) (a++[n]) w H' z (by omega) (by simp) (by simp;omega)
  have f : ∀y H',uW [32] 1 (kr (fQ ((a++[n])++s))) H' y->((a++[n])++s=[]->y=ba)->Q (.tup [y,aI 0]) H':=λy H' h K=>hQ y H' (by simpa using h) (λe=>by simp at e)
  have o:=Al a
  have b:(kr (fQ a)).length=4 * a.length:=by rw[show(kr (fQ a)).length=(fQ a).length from by simp,o]
  have d : ∀(g m:Nat)(H':aa),m=4 * a.length+4->H'.get ⟨0,32,g,0⟩=some ⟨1,kr (fQ a)++[a8 (u8 (n / 16777216)),a8 (u8 (n / 65536)),a8 (u8 (n / 256)),a8 (u8 n)],true,false⟩->uW [32] 1 (kr (fQ (a++[n]))) H' (.cG ⟨0,32,g,0⟩ 0 m none):=by
   intro g m H' E h
   subst E
   have e:kr (fQ (a++[n]))=kr (fQ a)++[a8 (u8 (n / 16777216)),a8 (u8 (n / 65536)),a8 (u8 (n / 256)),a8 (u8 n)]:=by simp[fQ,Rm,kr]
   rw[e]
   exact .inr ⟨32,g,by simp,by rw[pH,b];rfl,h⟩
  clear hQ hN B
  rcases hO with ⟨rfl,I⟩ | ⟨t,gg,C,rfl,F⟩
  ·have A:a=[]:=by
    have:=congrArg List.length I
    rw[b]at this
    simp only[Hf]at this
    exact Dy (by omega)
   subst A
   have c:=d (H.gen 0 32) 4
   clear d
   simp[ai, *,sU,p.r,p.idx,gC,fJ]
   exact u _ _ (by simp(maxDischargeDepth:=12) [ek, *]) (c _ rfl (by simp[fQ])) (λe=>by simp at e) f
  ·rw[vS]at C
   subst C
   have R:(H.get ⟨0,32,gg,0⟩).isSome=true:=by rw[F];rfl
   have T:nx 1 1 (kr (fQ a)).length true none (some ⟨1,kr (fQ a),true,false⟩) (some [a8 (u8 (n / 16777216)),a8 (u8 (n / 65536)),a8 (u8 (n / 256)),a8 (u8 n)]):=by
    rw[aA,b];refine⟨rfl,b.symm ▸ rfl,.inr ⟨?_,rfl⟩⟩;simp;omega
   have c:=λH'=>d (H.gen 0 32) ((kr (fQ a)).length+4) H' (by rw[b])
   clear d ha b o
   generalize kr (fQ a)=bs at *
   simp[ai, *,sU,p.r,p.idx,gC,fJ]
   exact u _ _ (by simp(maxDischargeDepth:=12) [ek, *]) (c _ (by simp)) (λe=>by simp at e) f
theorem X8{l:List Int}{x:AV}(d:Sl 1 (rows l) x)(u:l.length<100000)(q : ∀n∈l, -2147483648<=n/\n<=2147483647):ak env 210 [x]=some (if Cr l=0 then .tup [m8 1 (kr (fQ l)),aI 0] else .tup [ba,aI (Cr l)]):=by
 refine an rfl (by kernel_rfl) (Lx _ _ _ λg=>?_)
 have m:=Fj d (by omega)
 have z:=d.len
 by_cases h:Cr l=0
 ·rw[if_pos h]
  rw[h]at m
  have a:=λH Q=>Tc d u q (H:=H) (Q:=Q) l 0 0 [] ba rfl (by omega) rfl rfl
  have c : ∀y H',uW [32] 1 (kr (fQ ([]++l))) H' y->([]++l=[]->y=ba)->view H'.get 8 (.tup [y,aI 0])=some (.tup [m8 1 (kr (fQ l)),aI 0]):=by
   intro y H' i b
   rw[w9]at i b
   rcases i with ⟨rfl,p⟩ | ⟨t,gg,A,rfl,j⟩
   ·rw[p];simp[m8]
   ·have f:kr (fQ l)≠[]:=by
     intro e
     have k:=congrArg List.length e
     have v:=Al l
     have w:(kr (fQ l)).length=(fQ l).length:=by simp
     simp only[Hf]at k
     have:l=[]:=Dy (by omega)
     cases b this
    rw[xp 1 f]
    generalize kr (fQ l)=bs at *
    simp[j]
  have run:=λH o=>a H (λx H=>view H.get 8 x=some (.tup [m8 1 (kr (fQ l)),aI 0])) o (.inl ⟨rfl,rfl⟩) (λ_=>rfl) c
  clear a c h
  generalize m8 1 (kr (fQ l))=yo at *
  simp[ai, *,AE,d.r]
  all_goals exact run _ (by simp(maxDischargeDepth:=12) [CZ, *])
 ·rw[if_neg h]
  simp[ai, *,AE,d.r]
theorem Ph{P:Program}{t t':TypeId}(q:qU P t=true)(c:isInt P t'=true)(m:(jZ P t).cells.all AV.one=true)(u:Bool)(H:aa)(r:Ref)(n:Int)(F:0<n)(D:n<=bn)(C:n.toNat * wz P t<=bn) :
 jG P u H r (some t) (some t') ba (aI n)=some (.cG r 0 n.toNat none,({ r with k:=0},some ⟨oE P t,List.replicate n.toNat (jZ P t),true,false⟩) :: H):=by
 unfold qU at q
 obtain⟨e,b,i,p,x,f,o,E,j,l⟩:=lO q
 have A:jZ P t=b:=by unfold jZ;rw[i,fN,f];rfl
 rw[A]at m ⊢
 have g:(P.underlying t').isNone=false:=by
  unfold isInt at c
  cases h:P.underlying t' with
  | none=>rw[h]at c;cases c
  | some d=>rfl
 have y : ¬((P.underlying t').isNone=true\/isInt P t'≠isNum (aI n)):=by rw[g,c];simp[isNum]
 have v : ¬(oE P t≠oE P t\/oE P t=0\/wz P t=0\/b.cells.length≠oE P t):=by simp[o,j,l]
 have a:ql P H.get e (aI n)=some (oE P t,List.replicate n.toNat b):=by
  show(match eI P e,aH P e with | some w,some z=>if 0<=n/\n<=bn/\w.cells.length=z/\w.cells.all AV.one then some (z,List.replicate n.toNat w) else none | _,_=>none)=_
  rw[f,p]
  exact if_pos ⟨by omega,D,by simp[o,j,l],m⟩
 have B:List.replicate n.toNat b≠[]:=by
  intro h
  have:=congrArg List.length h
  simp only[List.length_replicate,Hf]at this
  omega
 simp only[jG,jL,fN,i,Option.map_some,cY,if_neg y,p,x,f,a,if_neg v,if_neg B,List.length_replicate,if_pos C]
 rfl
@[simp] theorem ae5(g:cX)(r:Ref):cN env.P false g r .cap #[170] [ba]=some (aI 0,[]):=by kernel_rfl
theorem abp(n:Int)(c:0<n)(h:n<1000000):ak env 225 [ba,aI n]=some (.fsl 1 [] none):=by
 refine an rfl (by kernel_rfl) (vt _ _ _ _ λg=>?_)
 have d : ¬n<0:=by omega
 have j:=IntWalk.i64_in n (by omega)
 have e:IntKind.i64.wrap 0=0:=rfl
 have b:n<=140737488355328:=by omega
 have i:n.toNat<=140737488355328:=by omega
 have f:0<n.toNat:=by omega
 have a:=Ph (P:=env.P) (t:=170) (t':=3) (by simp) (by simp) (by simp) true [] ⟨0,22,0,0⟩ n c b (by simp;omega)
 simp[ai, *,oz, -a]
 refine FH a ?_
 simp
 all_goals omega
def lM(s:List (List UInt8 × AV)):List UInt8:=s.flatMap (·.1)
theorem T3{ps:List (List UInt8 × AV)}{x0:AV}(l:Sl 1 (ps.map (·.2)) x0)(hp : ∀p∈ps,Sl 1 (kr p.1) p.2)(G:ps.length<100000)(K:(lM ps).length<1000000){Q:AV->aa->Prop} :
 ∀(s:List (List UInt8 × AV)) (k:Nat) (i:Int) (acc:List UInt8) (gg:Nat) (H:aa),ps.drop k=s->k<=ps.length->i=k->acc.length+(lM s).length=(lM ps).length->Fr H->H.get ⟨0,24,gg,0⟩=some ⟨1,kr acc,true,false⟩ ->
 (∀g H',H'.get ⟨0,24,g,0⟩=some ⟨1,kr (acc++lM s),true,false⟩->Q (.cG ⟨0,24,g,0⟩ 0 (acc++lM s).length none) H') ->
 bF env Tryz.f209 0 dv [(27,aI i),(6,.cG ⟨0,24,gg,0⟩ 0 acc.length none),(25,x0),(26,aI ps.length)] H Q:=by
 intro s
 induction s with
 | nil=>
  rintro k i acc gg H hs hk rfl ha hF hr hQ
  obtain rfl:=drop_nil hs hk
  refine lH _ _ _ _ _ _ λg=>?_
  have d:=hQ gg H (by simpa [lM] using hr)
  simp only[lM,HB,uE]at d
  clear hQ hr
  simp[ai, *,eU]
  all_goals exact d
 | cons p s u=>
  rintro k i acc gg H hs hk rfl ha hF hr hQ
  obtain⟨E,D,o,n⟩:=drop_cons hs
  have c:=hp p (by rw[<-D];exact mq _)
  obtain⟨b,x⟩:=p
  simp only at c
  have F:=IntWalk.i64_in ((k:Int)+1) (by omega)
  have m:lM ((b,x) :: s)=b++lM s:=rfl
  rw[m]at ha hQ
  rw[pH]at ha
  have w:cm (ps.map (·.2)) k 0 1 false=some x:=by simp[n,c.r]
  have z:(ps.map (·.2)).length=ps.length:=by simp
  have f:(kr b).length=b.length:=by simp
  have j:(kr acc).length=acc.length:=by simp
  have I:(H.get ⟨0,24,gg,0⟩).isSome=true:=by rw[hr];rfl
  have e:=λg H'=>u (k+1) ((k:Int)+1) (acc++b) g H' o (by omega) (by simp) (by simp;omega)
  have d : ∀g H',H'.get ⟨0,24,g,0⟩=some ⟨1,kr ((acc++b)++lM s),true,false⟩->Q (.cG ⟨0,24,g,0⟩ 0 ((acc++b)++lM s).length none) H':=λg H' h=>by
   have:=hQ g H' (by rw[<-Dv];exact h)
   rw[<-Dv]at this
   exact this
  clear hQ u hp hs
  refine lH _ _ _ _ _ _ λg=>?_
  have y:=c.lg
  by_cases v:b=[]
  ·subst v
   have a:=e gg H hF
   simp only[uE]at a d
   have q:=a hr d
   clear a e d
   simp[ai, *,eU,l.r,l.idx,c.r,c.lg]
  ·have C:kr b≠[]:=by simpa using v
   have J:nx 1 1 acc.length true none (some ⟨1,kr acc,true,false⟩) (some (kr b)):=by
    rw[aA,f,j];exact⟨rfl,rfl,.inr ⟨by simp;omega,rfl⟩⟩
   have a:=e (H.gen 0 24)
   have t:kr (acc++b)=kr acc++kr b:=He ..
   rw[t]at a
   rw[show(acc++b).length=(kr acc).length+(kr b).length by rw[f,j,pH]]at a
   clear e f j ha t
   generalize kr acc=A at *
   generalize kr b=B at *
   simp[ai, *,eU,l.r,l.idx,c.r,c.lg]
   exact a _ (by simp(maxDischargeDepth:=12) [ek, *]) (by simp) d
theorem T4{ps:List (List UInt8 × AV)}{x0:AV}(f:Sl 1 (ps.map (·.2)) x0)(hp : ∀p∈ps,Sl 1 (kr p.1) p.2)(A:ps.length<100000)(D:(lM ps).length<1000000)(C:0<(lM ps).length){H:aa}{Q:AV->aa->Prop}
 (a : ∀H',Fr H'->H'.get ⟨0,24,H.gen 0 24,0⟩=some ⟨1,[],true,false⟩->bF env Tryz.f209 0 dv [(27,aI 0),(6,.cG ⟨0,24,H.gen 0 24,0⟩ 0 0 none),(25,x0),(26,aI ps.length)] H' Q) :
 ∀(s:List (List UInt8 × AV)) (k:Nat) (i n:Int),ps.drop k=s->k<=ps.length->i=k->0<=n->n+(lM s).length=(lM ps).length->Fr H ->
 bF env Tryz.f209 0 dF [(11,aI i),(3,aI n),(9,x0),(0,x0),(10,aI ps.length)] H Q:=by
 intro s
 induction s with
 | nil=>
  rintro k i n hs hk rfl hn0 hn hF
  obtain rfl:=drop_nil hs hk
  refine mu _ _ _ _ _ _ _ λg=>?_
  have l:n=(lM ps).length:=by simpa [lM] using hn
  have B:=abp n (by omega) (by omega)
  have j:(ps.map (·.2)).length=ps.length:=by simp
  clear l hn hp
  simp[ai, *,iG,f.r]
  exact a _ (by simp(maxDischargeDepth:=12) [ek, *]) (by simp)
 | cons p s o=>
  rintro k i n hs hk rfl hn0 hn hF
  obtain⟨w,v,m,h⟩:=drop_cons hs
  have c:=hp p (by rw[<-v];exact mq _)
  obtain⟨b,x⟩:=p
  simp only at c
  have e:lM ((b,x) :: s)=b++lM s:=rfl
  rw[e,pH]at hn
  have z:=IntWalk.i64_in ((k:Int)+1) (by omega)
  have y:=IntWalk.i64_in (n+(b.length:Int)) (by omega)
  have t:cm (ps.map (·.2)) k 0 1 false=some x:=by simp[h,c.r]
  have j:(ps.map (·.2)).length=ps.length:=by simp
  have u:(kr b).length=b.length:=by simp
  have q : ¬n+(b.length:Int)<0:=by omega
  have d:=o (k+1) ((k:Int)+1) (n+(b.length:Int)) m (by omega) (by simp) (by omega) (by omega) hF
  refine mu _ _ _ _ _ _ _ λg=>?_
  clear o a hp hs hn
  simp[ai, *,iG,f.r,f.idx,c.r]
  all_goals exact d
theorem NJ{ps:List (List UInt8 × AV)}{x0:AV}(c:Sl 1 (ps.map (·.2)) x0)(hp : ∀p∈ps,Sl 1 (kr p.1) p.2)(i:ps.length<100000)(h:(lM ps).length<1000000)(m:0<(lM ps).length):ak env 209 [x0]=some (.fsl 1 (kr (lM ps)) none):=by
 refine an rfl (by kernel_rfl) (uI _ _ _ λg=>?_)
 have o:(ps.map (·.2)).length=ps.length:=by simp
 have l:=c.len
 have e:(kr (lM ps)).length=(lM ps).length:=by simp
 have j:=λH' Q f d=>T3 c hp i h (Q:=Q) ps 0 0 [] 0 H' rfl (by omega) rfl (by simp) f d
 have n:=λQ a=>T4 c hp i h m (H:=[]) (Q:=Q) a ps 0 0 0 rfl (by omega) rfl (by omega) (by omega) Fr.nil
 clear hp
 simp[ai, *,m5,c.r]
 refine n _ λH' f d=>j H' _ f d λq k b=>?_
 rw[w9]at b ⊢
 rw[<-e]
 generalize kr (lM ps)=B at *
 simp[b]
end
end Go.Proofs.YtmkmimgokagimaaGreat
