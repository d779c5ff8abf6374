/-
  What is to be shown of each function, computed from its code. No statement of a seat is proved here.
-/
import Derived.Test.YtmkmimgokagimaaGreatMLeVc8
set_option linter.unusedVariables false
set_option linter.unusedSimpArgs false
set_option linter.unusedSectionVars false
set_option linter.unnecessarySimpa false
set_option maxRecDepth 1000000
namespace Go.Proofs.YtmkmimgokagimaaGreat
open Go.Ab
variable(dep:Nat)(g:Nat->AV)(x0 x1 x2 x3:AV)(H:ai)(Q:AV->ai->Prop)
noncomputable def wZ:Code:=(Tryz.f13.body).getD .skip
noncomputable def eX:=tf Tryz.f13 3
def py:Nat->Option (List Nat):=λi=>cond (Nat.beq i 3) (some [8,1,7,2,3]) (none)
def lQ(g:Nat->AV)(x0 x1 x2:AV)(H:ai)(Q:AV->ai->Prop):Prop:=
 bu H 3 25 x0 λb a=>
  bN env Tryz.f13 0 eX [(8,(.v (.int .i64 0))),(1,x1),(7,(.v (.int .i64 0))),(2,x2),(3,b)] a Q
theorem wI(x0 x1 x2:AV)(H:ai)(Q:AV->ai->Prop)(h : ∀g,lQ g x0 x1 x2 H Q):dq Tryz.f13 0 [(0,x0),(1,x1),(2,x2)] H Q:=vD py (by kernel_rfl) h
def gY(g:Nat->AV)(i x1 x x2 x3:AV)(H:ai)(Q:AV->ai->Prop):Prop:=
 eW H 11 26 x1 λC=>
 dD 3 9 11 i C λu=>
 gQ u true (aZ i) λA=>
 gQ u true (B9 3 14 300 A) λz=>
 bA u z λy=>
 br (some y) (
 bK H 26 x1 i λp=>
 ar 62 p 2 λe=>
 ar 38 e 3 λk=>
 ar 35 k 1 λn=>
 an H 3 n λf=>
 iZ (cO env.P true (ai.get H) (Ref.mk 0 27 (ai.gen H 0 27) 0) .max #[3,3] [f,(.v (.int .i64 0))]) λb=>
 iZ (cO env.P true (ai.get H) (Ref.mk 0 28 (ai.gen H 0 28) 0) .min #[3,3] [b,(.v (.int .i64 100))]) λa=>
 bK H 26 x1 i λd=>
 ar 62 d 2 λh=>
 ar 38 h 6 λc=>
 an H 36 c λo=>
 eW H 35 36 o λt=>
 iZ (cO env.P true (ai.get H) (Ref.mk 0 36 (ai.gen H 0 36) 0) .min #[3,3] [t,(.v (.int .i64 1000))]) λm=>
 KG H 37 3 3 a m λl=>
 qj 3 19 37 x l λq=>
 eD 3 17 1 i λj=>
  bN env Tryz.f13 0 eX [(8,j),(1,x1),(7,q),(2,x2),(3,x3)] H Q) (
 an H 25 x3 λp=>
 bt true H 40 63 [p] λe w=>
 gQ e false (aZ x1) λk=>
 gQ e false (uL w 43 26 k) λn=>
 gQ e false (aZ x2) λf=>
 gQ e false (So 3 43 44 n f) λb=>
 dO e b λa=>
 gQ a false (aZ x) λd=>
 gQ a false (zA 3 48 300 d) λh=>
 dO a h λc=>
 Q c w)
theorem nW(a x1 b x2 x3:AV)(H:ai)(Q:AV->ai->Prop)(h : ∀g,gY g a x1 b x2 x3 H Q):bN env Tryz.f13 0 eX [(8,a),(1,x1),(7,b),(2,x2),(3,x3)] H Q:=s8 py (by kernel_rfl) h
noncomputable def fV:=tf Tryz.f22 4
def oo:Nat->Option (List Nat):=λi=>cond (Nat.beq i 4) (some [5,1,0]) (none)
def kK:Prop:=
 eW H 7 26 x0 λa=>
 eW H 9 26 x1 λc=>
 vN 3 7 9 a c λb=>
 br (some b) (
 Q (.v (.bool false)) H) (
  bN env Tryz.f22 0 fV [(5,(.v (.int .i64 0))),(1,x1),(0,x0)] H Q)
theorem uX(h : ∀g:dB,kK x0 x1 H Q):dq Tryz.f22 0 [(0,x0),(1,x1)] H Q:=vD oo (by kernel_rfl) h
def fX(g:Nat->AV)(a x1 x0:AV)(H:ai)(Q:AV->ai->Prop):Prop:=
 eW H 13 26 x0 λj=>
 dD 3 11 13 a j λl=>
 br (some l) (
 bK H 26 x0 a λi=>
 an H 62 i λc=>
 bK H 26 x1 a λe=>
 an H 62 e λd=>
 bt false H 25 80 [c,d] λf b=>
 gH f λh=>
 br (some h) (
 Q (.v (.bool false)) b) (
 eD 3 15 1 a λk=>
  bN env Tryz.f22 0 fV [(5,k),(1,x1),(0,x0)] b Q)) (
 Q (.v (.bool true)) H)
theorem m9(a x1 x0:AV)(H:ai)(Q:AV->ai->Prop)(h : ∀g,fX g a x1 x0 H Q):bN env Tryz.f22 0 fV [(5,a),(1,x1),(0,x0)] H Q:=s8 oo (by kernel_rfl) h
def AN:Prop:=
 bu H 3 25 x0 λe d=>
 bu d 5 62 x2 λb a=>
 an a 25 e λn=>
 an a 62 b λf=>
 bt false a 11 82 [f] λl k=>
 iZ (ue (.func 83) (some []) (some [b])) λh=>
 bt true k 13 81 [n,x1,l,h] λc i=>
 ba c 0 λm=>
 ba c 1 λj=>
 Q (.tup [m,j]) i
theorem F9(h : ∀g:dB,AN x0 x1 x2 H Q):dq Tryz.f23 0 [(0,x0),(1,x1),(2,x2)] H Q:=ga (by kernel_rfl) h
noncomputable def Ef:Code:=(Tryz.f25.body).getD .skip
def yn:Prop:=
 bu H 2 25 x0 λf e=>
 dE e 4 25 λd c=>
 an c 25 f λl=>
 bt true c 8 87 [l,x1,(.v (.int .i64 0)),(.fn (.func 88) [] [])] λa i=>
 ba a 0 λj=>
 ba a 1 λh=>
 aN i 25 d j λm b=>
 dN b d 25 λk=>
 Q (.tup [k,h]) b
theorem DE(h : ∀g:dB,yn x0 x1 H Q):dq Tryz.f25 0 [(0,x0),(1,x1)] H Q:=ga (by kernel_rfl) h
def wD:Prop:=
 bu H 3 25 x0 λo n=>
 bu n 5 31 x2 λh q=>
 dE q 6 73 λe b=>
 an b 25 o λj=>
 an b 31 h λl=>
 bt false b 11 91 [l] λk t=>
 iZ (ue (.func 92) (some []) (some [h])) λm=>
 bt true t 13 90 [j,x1,k,m] λd i=>
 ba d 0 λp=>
 ba d 1 λc=>
 aN i 73 e p λu f=>
 dN f e 73 λa=>
 Q (.tup [a,c]) f
theorem Cq(h : ∀g:dB,wD x0 x1 x2 H Q):dq Tryz.f27 0 [(0,x0),(1,x1),(2,x2)] H Q:=ga (by kernel_rfl) h
def AO:Prop:=
 bu H 4 25 x0 λm l=>
 bu l 6 31 x2 λd o=>
 bu o 7 3 x3 λk a=>
 an a 25 m λf=>
 an a 31 d λi=>
 bt false a 13 91 [i] λh p=>
 iZ (ue (.func 95) (some []) (some [d,k])) λj=>
 bt true p 15 69 [f,x1,h,j] λc e=>
 ba c 0 λn=>
 ba c 1 λb=>
 Q (.tup [n,b]) e
theorem Ga(h : ∀g:dB,AO x0 x1 x2 x3 H Q):dq Tryz.f29 0 [(0,x0),(1,x1),(2,x2),(3,x3)] H Q:=ga (by kernel_rfl) h
def AM:Prop:=
 bu H 3 25 x0 λo n=>
 bu n 5 29 x2 λh q=>
 dE q 6 81 λe b=>
 an b 25 o λj=>
 an b 29 h λl=>
 bt false b 11 76 [l] λk t=>
 iZ (ue (.func 98) (some []) (some [h])) λm=>
 bt true t 13 97 [j,x1,k,m] λd i=>
 ba d 0 λp=>
 ba d 1 λc=>
 aN i 81 e p λu f=>
 dN f e 81 λa=>
 Q (.tup [a,c]) f
theorem F8(h : ∀g:dB,AM x0 x1 x2 H Q):dq Tryz.f31 0 [(0,x0),(1,x1),(2,x2)] H Q:=ga (by kernel_rfl) h
def zU:Prop:=
 bu H 2 25 x0 λd a=>
 an a 25 d λh=>
 bt true a 10 100 [h,x1] λc b=>
 ba c 0 λi=>
 ba c 1 λf=>
 gH f λe=>
 br (some e) (
 Q (.v (.int .i64 8)) b) (
 Q (.v (.int .i64 0)) b)
theorem EZ(h : ∀g:dB,zU x0 x1 H Q):dq Tryz.f34 0 [(0,x0),(1,x1)] H Q:=ga (by kernel_rfl) h
noncomputable def oN:Code:=(Tryz.f69.body).getD .skip
def jH:Prop:=
 lX H dep 4 25 x0 λf c=>
 an c 25 f λl=>
 KI dep c 15 l x1 λe a=>
 ba e 0 λh=>
 ba e 1 λk=>
 gH k λi=>
 br (some i) (
 Q (.tup [(.v (.int .i64 0)),(.v (.int .i64 8))]) a) (
 lf 42 21 0 x2 λm=>
 br (some m) (
 Q (.tup [(.v (.int .i64 0)),x2]) a) (
 Im dep a 27 x3 h λd n=>
 ba d 0 λj=>
 ba d 1 λb=>
 Q (.tup [j,b]) n))
theorem oF(h : ∀g:dB,jH dep x0 x1 x2 x3 H Q):dq Tryz.f69 (dep+1) [(0,x0),(1,x1),(2,x2),(3,x3)] H Q:=ga (by kernel_rfl) h
noncomputable def pb:Code:=(Tryz.f72.body).getD .skip
def cM:Prop:=
 lX H dep 3 38 x1 λd f=>
 iX x0 λX=>
 ar 129 X 5 λW=>
 an f 41 W λU=>
 an f 38 d λM=>
 m4 (bJ env false (aF env) (cg env (dep+1)) f (⟨(dep+1),13,ai.gen f (dep+1) 13,0⟩:Ref) (some (.fn (.func 137) [] [])) [U,M]) λL h=>
 lf 42 14 0 L λV=>
 br (some V) (
 Q L h) (
 iX x0 λN=>
 ar 129 N 0 λR=>
 an h 25 R λG=>
 ar 38 d 1 λK=>
 ar 31 K 0 λy=>
 an h 29 y λA=>
 XX dep h 25 G A λe Y=>
 ba e 0 λp=>
 ba e 1 λT=>
 pe Y dep 6 81 λc S=>
 aN S 81 c p λO b=>
 ar 38 d 0 λq=>
 an b 5 q λC=>
 xc 5 29 C λa=>
 gQ a true (aZ x0) λD=>
 gQ a true (LL (some D)) λx=>
 gQ a true (aA 129 x 4) λI=>
 gQ a true (az b 127 I) λF=>
 gQ a true (aA 38 d 1) λJ=>
 gQ a true (aA 31 J 0) λn=>
 gQ a true (az b 29 n) λj=>
 gQ a true (eU env.P (ai.get b) 127 (some F) (some j) false) λu=>
 gQ a true (B8 81 u 3) λo=>
 gQ a true (aA 38 d 3) λz=>
 gQ a true (aA 35 z 1) λt=>
 gQ a true (az b 3 t) λw=>
 gQ a true (Px 3 40 43 o w) λm=>
 gQ a true (aA 81 c 3) λi=>
 gQ a true (az b 3 i) λl=>
 gQ a true (So 3 44 46 m l) λE=>
 bA a E λk=>
 br (some k) (
 Q (.v (.int .i64 9)) b) (
 Q (.v (.int .i64 0)) b))
theorem o8(h : ∀g:dB,cM dep x0 x1 H Q):dq Tryz.f72 (dep+1) [(0,x0),(1,x1)] H Q:=ga (by kernel_rfl) h
def eT:Prop:=
 bu H 2 62 x0 λf I=>
 bu I 3 62 x1 λh d=>
 ar 62 f 0 λM=>
 an d 5 M λK=>
 ar 62 h 0 λF=>
 an d 5 F λL=>
 ql 5 6 8 K L λe=>
 gQ e true (aA 62 f 1) λG=>
 gQ e true (az d 3 G) λJ=>
 gQ e true (aA 62 h 1) λz=>
 gQ e true (az d 3 z) λE=>
 gQ e true (fK 3 12 14 J E) λu=>
 bA e u λb=>
 gQ b true (aA 62 f 2) λA=>
 gQ b true (az d 38 A) λn=>
 gQ b true (aA 62 h 2) λq=>
 gQ b true (az d 38 q) λy=>
 gW b true d (eN true d 22 62 [n,y]) λo i=>
 bA b o λa=>
 gQ a true (aA 62 f 3) λw=>
 gQ a true (az i 42 w) λk=>
 gQ a true (aA 62 h 3) λx=>
 gQ a true (az i 42 x) λt=>
 gQ a true (fK 42 26 28 k t) λC=>
 bA a C λc=>
 gQ c true (aA 62 f 4) λD=>
 gQ c true (az i 60 D) λl=>
 gQ c true (aA 62 h 4) λj=>
 gQ c true (az i 60 j) λp=>
 gQ c true (fK 60 33 35 l p) λm=>
 bA c m λv=>
 Q v i
theorem xC(h : ∀g:dB,eT x0 x1 H Q):dq Tryz.f80 0 [(0,x0),(1,x1)] H Q:=ga (by kernel_rfl) h
noncomputable def Aa:Code:=(Tryz.f81.body).getD .skip
def sG:Prop:=
 lX H dep 4 25 x0 λf c=>
 an c 25 f λl=>
 KI dep c 15 l x1 λe a=>
 ba e 0 λh=>
 ba e 1 λk=>
 gH k λi=>
 br (some i) (
 Q (.tup [(.v (.bool false)),(.v (.int .i64 8))]) a) (
 lf 42 21 0 x2 λm=>
 br (some m) (
 Q (.tup [(.v (.bool false)),x2]) a) (
 Im dep a 27 x3 h λd n=>
 ba d 0 λj=>
 ba d 1 λb=>
 Q (.tup [j,b]) n))
theorem zW(h : ∀g:dB,sG dep x0 x1 x2 x3 H Q):dq Tryz.f81 (dep+1) [(0,x0),(1,x1),(2,x2),(3,x3)] H Q:=ga (by kernel_rfl) h
noncomputable def Eg:Code:=(Tryz.f83.body).getD .skip
def oQ:Prop:=
 m4 (bJ env false (aF env) (cg env (dep+1)) H (⟨(dep+1),5,ai.gen H (dep+1) 5,0⟩:Ref) (some (.fn (.func 84) [] [])) []) λb a=>
 ar 62 x1 0 λh=>
 an a 5 h λj=>
 zy a 151 b j λc=>
 iZ (tT env.P 150 (some c) 0) λe=>
 an a 62 x1 λd=>
 Sw dep a 12 e x0 d λi f=>
 Q (.tup [i,(.v (.int .i64 0))]) f
theorem DF(h : ∀g:dB,oQ dep x0 x1 H Q):dq Tryz.f83 (dep+1) [(0,x0),(1,x1)] H Q:=ga (by kernel_rfl) h
noncomputable def oC:Code:=(Tryz.f87.body).getD .skip
def jv:Prop:=
 lX H dep 4 25 x0 λu t=>
 pe t dep 8 25 λb l=>
 an l 25 u λq=>
 KI dep l 15 q x1 λk f=>
 ba k 0 λo=>
 ba k 1 λm=>
 gH m λp=>
 br (some p) (
 an f 25 b λi=>
 aN f 25 b i λe c=>
 dN c b 25 λa=>
 Q (.tup [a,(.v (.int .i64 8))]) c) (
 lf 42 21 0 x2 λi=>
 br (some i) (
 an f 25 b λe=>
 aN f 25 b e λa c=>
 dN c b 25 λd=>
 Q (.tup [d,x2]) c) (
 Im dep f 27 x3 o λe c=>
 ba e 0 λa=>
 ba e 1 λd=>
 aN c 25 b a λn j=>
 dN j b 25 λh=>
 Q (.tup [h,d]) j))
theorem nU(h : ∀g:dB,jv dep x0 x1 x2 x3 H Q):dq Tryz.f87 (dep+1) [(0,x0),(1,x1),(2,x2),(3,x3)] H Q:=ga (by kernel_rfl) h
noncomputable def B1:Code:=(Tryz.f88.body).getD .skip
def vv:Prop:=
 pe H dep 2 25 λb a=>
 iX x0 λf=>
 ar 129 f 1 λh=>
 an a 25 h λd=>
 aN a 25 b d λi c=>
 dN c b 25 λe=>
 Q (.tup [e,(.v (.int .i64 0))]) c
theorem BP(h : ∀g:dB,vv dep x0 H Q):dq Tryz.f88 (dep+1) [(0,x0)] H Q:=ga (by kernel_rfl) h
noncomputable def nP:Code:=(Tryz.f90.body).getD .skip
def ja:Prop:=
 lX H dep 4 25 x0 λu t=>
 pe t dep 8 73 λb l=>
 an l 25 u λq=>
 KI dep l 15 q x1 λk f=>
 ba k 0 λo=>
 ba k 1 λm=>
 gH m λp=>
 br (some p) (
 an f 73 b λi=>
 aN f 73 b i λe c=>
 dN c b 73 λa=>
 Q (.tup [a,(.v (.int .i64 8))]) c) (
 lf 42 21 0 x2 λi=>
 br (some i) (
 an f 73 b λe=>
 aN f 73 b e λa c=>
 dN c b 73 λd=>
 Q (.tup [d,x2]) c) (
 Im dep f 27 x3 o λe c=>
 ba e 0 λa=>
 ba e 1 λd=>
 aN c 73 b a λn j=>
 dN j b 73 λh=>
 Q (.tup [h,d]) j))
theorem nN(h : ∀g:dB,ja dep x0 x1 x2 x3 H Q):dq Tryz.f90 (dep+1) [(0,x0),(1,x1),(2,x2),(3,x3)] H Q:=ga (by kernel_rfl) h
noncomputable def Bj:Code:=(Tryz.f92.body).getD .skip
def ug:Prop:=
 pe H dep 3 73 λb a=>
 iX x0 λh=>
 ar 129 h 3 λj=>
 an a 126 j λd=>
 an a 31 x1 λf=>
 zy a 126 d f λe=>
 aN a 73 b e λk c=>
 dN c b 73 λi=>
 Q (.tup [i,(.v (.int .i64 0))]) c
theorem Be(h : ∀g:dB,ug dep x0 x1 H Q):dq Tryz.f92 (dep+1) [(0,x0),(1,x1)] H Q:=ga (by kernel_rfl) h
noncomputable def Eh:Code:=(Tryz.f95.body).getD .skip
noncomputable def mU:=tf Tryz.f95 2
def xU:Nat->Option (List Nat):=λi=>cond (Nat.beq i 2) (some [13,2,1,11,12]) (none)
def yp:Prop:=
 iX x0 λc=>
 ar 129 c 2 λd=>
 an H 26 d λa=>
 Fi H dep 12 26 a λb=>
  bN env Tryz.f95 (dep+1) mU [(13,(.v (.int .i64 0))),(2,x2),(1,x1),(11,a),(12,b)] H Q
theorem DG(h : ∀g:dB,yp dep x0 x1 x2 H Q):dq Tryz.f95 (dep+1) [(0,x0),(1,x1),(2,x2)] H Q:=vD xU (by kernel_rfl) h
def iW(dep:Nat)(g:Nat->AV)(d x2 x1 h i:AV)(H:ai)(Q:AV->ai->Prop):Prop:=
 dD 3 13 12 d i λD=>
 br (some D) (
 bK H 26 h d λE=>
 an H 62 E λC=>
 pe H dep 7 62 λf x=>
 aN x 62 f C λF b=>
 ar 62 f 0 λz=>
 an b 5 z λA=>
 uM 5 18 A λe=>
 gQ e true (aA 62 f 2) λy=>
 gQ e true (aA 38 y 1) λw=>
 gQ e true (az b 31 w) λj=>
 gQ e true (az b 31 x1) λo=>
 gQ e true (fK 31 23 24 j o) λp=>
 bA e p λa=>
 gQ a true (aA 62 f 2) λk=>
 gQ a true (aA 38 k 2) λn=>
 gQ a true (az b 3 n) λu=>
 gQ a true (az b 3 x2) λm=>
 gQ a true (fK 3 30 31 u m) λl=>
 bA a l λq=>
 br (some q) (
 ar 62 f 3 λc=>
 an b 42 c λt=>
 Q (.tup [t,(.v (.int .i64 0))]) b) (
 eD 3 13 1 d λc=>
  bN env Tryz.f95 (dep+1) mU [(13,c),(2,x2),(1,x1),(11,h),(12,i)] b Q)) (
 Q (.tup [(.v (.int .i64 0)),(.v (.int .i64 6))]) H)
theorem kC(dep:Nat)(b x2 x1 a c:AV)(H:ai)(Q:AV->ai->Prop)(h : ∀g,iW dep g b x2 x1 a c H Q):bN env Tryz.f95 (dep+1) mU [(13,b),(2,x2),(1,x1),(11,a),(12,c)] H Q:=s8 xU (by kernel_rfl) h
noncomputable def oM:Code:=(Tryz.f97.body).getD .skip
def jG:Prop:=
 lX H dep 4 25 x0 λu t=>
 pe t dep 8 81 λb l=>
 an l 25 u λq=>
 KI dep l 15 q x1 λk f=>
 ba k 0 λo=>
 ba k 1 λm=>
 gH m λp=>
 br (some p) (
 an f 81 b λi=>
 aN f 81 b i λe c=>
 dN c b 81 λa=>
 Q (.tup [a,(.v (.int .i64 8))]) c) (
 lf 42 21 0 x2 λi=>
 br (some i) (
 an f 81 b λe=>
 aN f 81 b e λa c=>
 dN c b 81 λd=>
 Q (.tup [d,x2]) c) (
 Im dep f 27 x3 o λe c=>
 ba e 0 λa=>
 ba e 1 λd=>
 aN c 81 b a λn j=>
 dN j b 81 λh=>
 Q (.tup [h,d]) j))
theorem oE(h : ∀g:dB,jG dep x0 x1 x2 x3 H Q):dq Tryz.f97 (dep+1) [(0,x0),(1,x1),(2,x2),(3,x3)] H Q:=ga (by kernel_rfl) h
noncomputable def Ee:Code:=(Tryz.f98.body).getD .skip
def ym:Prop:=
 pe H dep 3 81 λh a=>
 iX x0 λp=>
 ar 129 p 4 λo=>
 an a 127 o λk=>
 an a 29 x1 λn=>
 zy a 127 k n λl=>
 pe a dep 5 81 λc t=>
 aN t 81 c l λw i=>
 an i 29 x1 λq=>
 ar 81 c 0 λe=>
 aN i 29 e q λu j=>
 an j 81 c λb=>
 aN j 81 h b λm f=>
 dN f h 81 λd=>
 Q (.tup [d,(.v (.int .i64 0))]) f
theorem DD(h : ∀g:dB,ym dep x0 x1 H Q):dq Tryz.f98 (dep+1) [(0,x0),(1,x1)] H Q:=ga (by kernel_rfl) h
noncomputable def Kz:Code:=(Tryz.f100.body).getD .skip
noncomputable def kG:=tf Tryz.f100 6
def CV:Nat->Option (List Nat):=λi=>cond (Nat.beq i 6) (some [28,6,7,26,27]) (none)
def uB:Prop:=
 lX H dep 2 25 x0 λj i=>
 an i 25 j λy=>
 m4 (bJ env true (aF env) (cg env (dep+1)) i (⟨(dep+1),11,ai.gen i (dep+1) 11,0⟩:Ref) (some (.fn (.func 102) [] [])) [y]) λx a=>
 lf 42 11 0 x λb=>
 gQ b false (aZ x1) λt=>
 gQ b false (XP a dep 15 26 t) λq=>
 gQ b false (zA 3 15 2048 q) λu=>
 dO b u λw=>
 br (some w) (
 Q (.tup [(.v (.pointer none)),(.v (.bool false))]) a) (
 an a 25 j λz=>
 an a 25 j λk=>
 m4 (nc env false (aF env) (cg env (dep+1)) a (⟨(dep+1),20,ai.gen a (dep+1) 20,0⟩:Ref) (some (.fn (.func 160) [] [])) [k]) λm C=>
 SA C dep 21 λc A=>
 SA A dep 22 λd p=>
 iZ (mP env.P 129 (some [(0,z),(1,m),(3,c),(4,d)])) λe=>
 lX p dep 24 129 e λf o=>
 m4 (bJ env true (aF env) (cg env (dep+1)) o (⟨(dep+1),25,ai.gen o (dep+1) 25,0⟩:Ref) (some (.fn (.func 84) [] [])) []) λl n=>
 Fi n dep 27 26 x1 λh=>
  bN env Tryz.f100 (dep+1) kG [(28,(.v (.int .i64 0))),(6,f),(7,l),(26,x1),(27,h)] n Q)
theorem JH(h : ∀g:dB,uB dep x0 x1 H Q):dq Tryz.f100 (dep+1) [(0,x0),(1,x1)] H Q:=vD CV (by kernel_rfl) h
def rS(dep:Nat)(g:Nat->AV)(b d I f h:AV)(H:ai)(Q:AV->ai->Prop):Prop:=
 dD 3 28 27 b h λv1=>
 br (some v1) (
 bK H 26 f b λv2=>
 an H 62 v2 λv3=>
 pe H dep 9 62 λc T=>
 aN T 62 c v3 λv5 K=>
 an K 62 c λY=>
 m4 (bJ env true (aF env) (cg env (dep+1)) K (⟨(dep+1),33,ai.gen K (dep+1) 33,0⟩:Ref) (some (.fn (.func 82) [] [])) [Y]) λZ e=>
 lf 42 33 0 Z λa=>
 gQ a false (aZ I) λW=>
 gQ a false (aA 62 c 0) λM=>
 gQ a false (az e 5 M) λO=>
 gQ a false (eU env.P (ai.get e) 151 (some W) (some O) false) λA=>
 gQ a false (B8 150 A 0) λD=>
 gQ a false (aZ d) λL=>
 gQ a false (az e 62 c) λp=>
 gW a false e (bJ env true (aF env) (cg env (dep+1)) e (⟨(dep+1),43,ai.gen e (dep+1) 43,0⟩:Ref) (some D) [L,p]) λx i=>
 gQ a false (qh x) λG=>
 dO a G λu=>
 br (some u) (
 Q (.tup [(.v (.pointer none)),(.v (.bool false))]) i) (
 ar 62 c 0 λq=>
 an i 5 q λE=>
 zy i 151 I E λm=>
 iZ (tT env.P 150 (some m) 1) λF=>
 an i 62 c λz=>
 Sw dep i 53 F d z λv24 j=>
 iX d λJ=>
 ar 129 J 2 λN=>
 an j 26 N λn=>
 an j 62 c λl=>
 m4 (bJ env false (aF env) (cg env (dep+1)) j (⟨(dep+1),60,ai.gen j (dep+1) 60,0⟩:Ref) (some (.fn (.func 161) [] [])) [l]) λw U=>
 Ss U dep 61 26 1 0 w λo S=>
 Sr S dep 62 26 26 n o λC X=>
 iX d λt=>
 ar 129 t 2 λy=>
 aN X 26 y C λR V=>
 eD 3 28 1 b λk=>
  bN env Tryz.f100 (dep+1) kG [(28,k),(6,d),(7,I),(26,f),(27,h)] V Q)) (
 Q (.tup [d,(.v (.bool true))]) H)
theorem uU(dep:Nat)(b d e a c:AV)(H:ai)(Q:AV->ai->Prop)(h : ∀g,rS dep g b d e a c H Q):bN env Tryz.f100 (dep+1) kG [(28,b),(6,d),(7,e),(26,a),(27,c)] H Q:=s8 CV (by kernel_rfl) h
noncomputable def De:Code:=(Tryz.f145.body).getD .skip
def wC:Prop:=
 lX H dep 3 62 x1 λd y=>
 ar 62 d 2 λG=>
 ar 38 G 1 λF=>
 ar 31 F 0 λD=>
 an y 29 D λA=>
 XW dep y 13 x0 A λz b=>
 ba z 0 λE=>
 ba z 1 λJ=>
 iX x0 λC=>
 ar 129 C 3 λu=>
 an b 126 u λx=>
 ar 62 d 2 λn=>
 ar 38 n 1 λo=>
 an b 31 o λv=>
 zy b 126 x v λi=>
 iZ (tT env.P 73 (some i) 0) λl=>
 gH l λa=>
 gQ a true (aZ x0) λk=>
 gQ a true (aA 62 d 1) λj=>
 gQ a true (az b 3 j) λp=>
 gQ a true (aA 62 d 2) λf=>
 gQ a true (aA 38 f 1) λq=>
 gQ a true (aA 31 q 0) λm=>
 gQ a true (az b 29 m) λw=>
 gW a true b (bJ env true (aF env) (cg env (dep+1)) b (⟨(dep+1),34,ai.gen b (dep+1) 34,0⟩:Ref) (some (.fn (.func 147) [] [])) [k,p,w]) λt I=>
 bA a t λc=>
 gQ c true (aZ E) λh=>
 bA c h λe=>
 Q e I
theorem Cp(h : ∀g:dB,wC dep x0 x1 H Q):dq Tryz.f145 (dep+1) [(0,x0),(1,x1)] H Q:=ga (by kernel_rfl) h
noncomputable def qT:Code:=(Tryz.f146.body).getD .skip
def kV:Prop:=
 lX H dep 3 29 x1 λy h=>
 iX x0 λG=>
 ar 129 G 0 λE=>
 an h 25 E λC=>
 an h 29 y λz=>
 XX dep h 15 C z λx I=>
 ba x 0 λD=>
 ba x 1 λL=>
 pe I dep 6 81 λk J=>
 aN J 81 k D λK c=>
 iX x0 λw=>
 ar 129 w 4 λm=>
 an c 127 m λn=>
 an c 29 y λt=>
 zy c 127 n t λf=>
 pe c dep 8 81 λa A=>
 aN A 81 a f λF b=>
 ar 81 a 1 λj=>
 an b 3 j λi=>
 ar 81 k 1 λo=>
 an b 3 o λd=>
 dD 3 25 27 i d λp=>
 ar 81 a 2 λl=>
 an b 3 l λu=>
 ar 81 k 2 λq=>
 an b 3 q λv=>
 dD 3 30 32 u v λe=>
 Q (.tup [p,e]) b
theorem qO(h : ∀g:dB,kV dep x0 x1 H Q):dq Tryz.f146 (dep+1) [(0,x0),(1,x1)] H Q:=ga (by kernel_rfl) h
noncomputable def rJ:Code:=(Tryz.f147.body).getD .skip
def hZ:Prop:=
 lX H dep 5 29 x2 λf a=>
 iX x0 λk=>
 ar 129 k 1 λn=>
 an a 25 n λh=>
 an a 29 f λi=>
 m4 (bJ env false (aF env) (cg env (dep+1)) a (⟨(dep+1),16,ai.gen a (dep+1) 16,0⟩:Ref) (some (.fn (.func 174) [] [])) [h,x1,i]) λd j=>
 ba d 0 λl=>
 ba d 1 λm=>
 zC 42 19 0 m λe=>
 gQ e true (aZ l) λb=>
 bA e b λc=>
 Q c j
theorem q6(h : ∀g:dB,hZ dep x0 x1 x2 H Q):dq Tryz.f147 (dep+1) [(0,x0),(1,x1),(2,x2)] H Q:=ga (by kernel_rfl) h
noncomputable def Dd:Code:=(Tryz.f148.body).getD .skip
def wB:Prop:=
 lX H dep 3 62 x1 λd b=>
 iX x0 λT=>
 ar 129 T 3 λS=>
 an b 126 S λN=>
 ar 62 d 2 λJ=>
 ar 38 J 1 λO=>
 an b 31 O λR=>
 ar 62 d 1 λK=>
 an b 3 K λM=>
 iZ (mP env.P 73 (some [(0,(.v (.bool true))),(1,M)])) λC=>
 m4 (dQ env.P b 126 (some N) (some R) (some C)) λW e=>
 iX x0 λu=>
 ar 129 u 4 λx=>
 an e 127 x λD=>
 ar 62 d 2 λk=>
 ar 38 k 1 λp=>
 ar 31 p 0 λz=>
 an e 29 z λn=>
 zy e 127 D n λl=>
 pe e dep 4 81 λa U=>
 aN U 81 a l λI F=>
 ar 81 a 1 λy=>
 an F 3 y λt=>
 eD 3 25 1 t λE=>
 ar 81 a 1 λA=>
 aN F 3 A E λV c=>
 iX x0 λi=>
 ar 129 i 4 λf=>
 an c 127 f λo=>
 ar 62 d 2 λj=>
 ar 38 j 1 λw=>
 ar 31 w 0 λm=>
 an c 29 m λq=>
 an c 81 a λh=>
 m4 (dQ env.P c 127 (some o) (some q) (some h)) λG L=>
 Q (.v (.tuple #[])) L
theorem Co(h : ∀g:dB,wB dep x0 x1 H Q):dq Tryz.f148 (dep+1) [(0,x0),(1,x1)] H Q:=ga (by kernel_rfl) h
noncomputable def Dc:Code:=(Tryz.f149.body).getD .skip
def wA:Prop:=
 lX H dep 3 62 x1 λf l=>
 iX x0 λv2=>
 ar 129 v2 3 λv3=>
 an l 126 v3 λZ=>
 ar 62 f 2 λW=>
 ar 38 W 1 λv6=>
 an l 31 v6 λv7=>
 zy l 126 Z v7 λX=>
 pe l dep 5 73 λm H2=>
 aN H2 73 m X λv10 V=>
 ar 62 f 2 λT=>
 ar 38 T 1 λD=>
 ar 31 D 0 λF=>
 an V 29 F λO=>
 XW dep V 22 x0 O λk e=>
 ba k 0 λY=>
 ba k 1 λK=>
 ar 73 m 0 λy=>
 an e 4 y λa=>
 gQ a true (aZ x0) λG=>
 gQ a true (aA 73 m 1) λn=>
 gQ a true (az e 3 n) λI=>
 gQ a true (aA 62 f 2) λC=>
 gQ a true (aA 38 C 1) λR=>
 gQ a true (aA 31 R 0) λM=>
 gQ a true (az e 29 M) λS=>
 gW a true e (nc env true (aF env) (cg env (dep+1)) e (⟨(dep+1),35,ai.gen e (dep+1) 35,0⟩:Ref) (some (.fn (.func 147) [] [])) [G,I,S]) λp d=>
 bA a p λb=>
 gQ b true (aA 62 f 2) λz=>
 gQ b true (aA 38 z 2) λq=>
 gQ b true (az d 3 q) λE=>
 gQ b true (aA 73 m 2) λv=>
 gQ b true (az d 3 v) λA=>
 gQ b true (XS 3 42 1 A) λj=>
 gQ b true (fK 3 40 43 E j) λh=>
 bA b h λi=>
 gQ i true (aZ K) λL=>
 bA i L λc=>
 gQ c true (aA 62 f 3) λu=>
 gQ c true (az d 42 u) λP=>
 gQ c true (aZ x0) λx=>
 gQ c true (aA 62 f 2) λo=>
 gQ c true (az d 38 o) λt=>
 gW c true d (nc env true (aF env) (cg env (dep+1)) d (⟨(dep+1),55,ai.gen d (dep+1) 55,0⟩:Ref) (some (.fn (.func 72) [] [])) [x,t]) λN U=>
 gQ c true (fK 42 51 55 P N) λJ=>
 bA c J λw=>
  mZ [(h,j)] [] [] U /\
 (Q w U)
theorem Cn(h : ∀g:dB,wA dep x0 x1 H Q):dq Tryz.f149 (dep+1) [(0,x0),(1,x1)] H Q:=ga (by kernel_rfl) h
noncomputable def wo:Code:=(Tryz.f150.body).getD .skip
def jF:Prop:=
 lX H dep 3 62 x1 λj I=>
 iX x0 λv2=>
 ar 129 v2 3 λv3=>
 an I 126 v3 λv4=>
 ar 62 j 2 λv5=>
 ar 38 v5 1 λv6=>
 an I 31 v6 λv7=>
 zy I 126 v4 v7 λv8=>
 iX x0 λv9=>
 ar 129 v9 4 λv10=>
 an I 127 v10 λv11=>
 ar 62 j 2 λv12=>
 ar 38 v12 1 λv13=>
 ar 31 v13 0 λv14=>
 an I 29 v14 λv15=>
 zy I 127 v11 v15 λv16=>
 pe I dep 4 73 λc H2=>
 pe H2 dep 5 81 λa H3=>
 aN H3 73 c v8 λv19 H4=>
 aN H4 81 a v16 λv20 H5=>
  mZ [(v10,c),(v14,c),(v11,c)] [c,a] [] H5 /\
 (ar 73 c 2 λv21=>
 an H5 3 v21 λv22=>
 eD 3 24 1 v22 λv23=>
 ar 73 c 2 λv24=>
 aN H5 3 v24 v23 λv25 H6=>
 ar 81 a 2 λv26=>
 an H6 3 v26 λv27=>
 eD 3 28 1 v27 λv28=>
 ar 81 a 2 λv29=>
 aN H6 3 v29 v28 λv30 i=>
 ar 62 j 3 λv31=>
 an i 42 v31 λv32=>
 zC 42 32 0 v32 λv33=>
 br (some v33) (
 iX x0 λz=>
 ar 129 z 5 λO=>
 an i 41 O λh=>
 ar 62 j 2 λL=>
 an i 38 L λx=>
 m4 (bJ env false (aF env) (cg env (dep+1)) i (⟨(dep+1),41,ai.gen i (dep+1) 41,0⟩:Ref) (some (.fn (.func 108) [] [])) [x]) λR H8=>
 Ss H8 dep 42 41 1 0 R λN H9=>
 Sr H9 dep 43 41 41 h N λU Z=>
 iX x0 λk=>
 ar 129 k 5 λE=>
 aN Z 41 E U λv44 b=>
 ar 62 j 2 λt=>
 ar 38 t 0 λT=>
 an b 5 T λM=>
 xc 5 48 M λK=>
 br (some K) (
 ar 81 a 3 λm=>
 an b 3 m λo=>
 ar 62 j 2 λf=>
 ar 38 f 3 λn=>
 ar 35 n 1 λl=>
 an b 3 l λw=>
 qj 3 51 55 o w λG=>
 ar 81 a 3 λD=>
 aN b 3 D G λu d=>
 iX x0 λS=>
 ar 129 S 3 λA=>
 an d 126 A λe=>
 ar 62 j 2 λJ=>
 ar 38 J 1 λV=>
 an d 31 V λP=>
 iX x0 λy=>
 ar 129 y 4 λC=>
 an d 127 C λq=>
 ar 62 j 2 λX=>
 ar 38 X 1 λY=>
 ar 31 Y 0 λv69=>
 an d 29 v69 λv70=>
 an d 73 c λv71=>
 an d 81 a λv72=>
 Ii d 126 e P λv73 F=>
 ba v73 1 λv74=>
 Ij F e v74 v71 λv75 W=>
 Ii W 127 q v70 λv76 p=>
 ba v76 1 λv77=>
 Ij p q v77 v72 λv78 H16=>
  mZ [(v69,e),(c,e),(a,e),(a,q)] [] [] H16 /\
 (Q (.v (.tuple #[])) H16)) (
 iX x0 λm=>
 ar 129 m 3 λo=>
 an b 126 o λf=>
 ar 62 j 2 λn=>
 ar 38 n 1 λl=>
 an b 31 l λw=>
 iX x0 λG=>
 ar 129 G 4 λD=>
 an b 127 D λu=>
 ar 62 j 2 λS=>
 ar 38 S 1 λA=>
 ar 31 A 0 λe=>
 an b 29 e λJ=>
 an b 73 c λV=>
 an b 81 a λP=>
 Ii b 126 f w λy d=>
 ba y 1 λC=>
 Ij d f C V λq F=>
 Ii F 127 u J λX W=>
 ba X 1 λY=>
 Ij W u Y P λv69 p=>
  mZ [(e,f),(c,f),(a,f),(a,u)] [] [] p /\
 (Q (.v (.tuple #[])) p))) (
 iX x0 λz=>
 ar 129 z 3 λO=>
 an i 126 O λh=>
 ar 62 j 2 λL=>
 ar 38 L 1 λx=>
 an i 31 x λR=>
 iX x0 λN=>
 ar 129 N 4 λU=>
 an i 127 U λk=>
 ar 62 j 2 λE=>
 ar 38 E 1 λv44=>
 ar 31 v44 0 λt=>
 an i 29 t λT=>
 an i 73 c λM=>
 an i 81 a λK=>
 Ii i 126 h R λm H8=>
 ba m 1 λo=>
 Ij H8 h o M λf H9=>
 Ii H9 127 k T λn Z=>
 ba n 1 λl=>
 Ij Z k l K λw b=>
  mZ [(t,h),(c,h),(a,h),(a,k)] [] [] b /\
 (Q (.v (.tuple #[])) b)))
theorem vV(h : ∀g:dB,jF dep x0 x1 H Q):dq Tryz.f150 (dep+1) [(0,x0),(1,x1)] H Q:=ga (by kernel_rfl) h
noncomputable def Db:Code:=(Tryz.f151.body).getD .skip
def rT:Prop:=
 lX H dep 3 62 x1 λk b=>
 iX x0 λl=>
 ar 129 l 1 λj=>
 an b 25 j λe=>
 ar 62 k 4 λh=>
 an b 60 h λf=>
 XY dep b 14 e f λd n=>
 ba d 0 λi=>
 ba d 1 λm=>
 pe n dep 5 25 λc o=>
 aN o 25 c i λq p=>
 zC 42 17 0 m λa=>
 Q a p
theorem Cm(h : ∀g:dB,rT dep x0 x1 H Q):dq Tryz.f151 (dep+1) [(0,x0),(1,x1)] H Q:=ga (by kernel_rfl) h
noncomputable def Da:Code:=(Tryz.f153.body).getD .skip
def wz:Prop:=
 lX H dep 3 62 x1 λe a=>
 iX x0 λl=>
 ar 129 l 1 λn=>
 an a 25 n λf=>
 ar 62 e 4 λj=>
 an a 60 j λh=>
 XY dep a 12 f h λd k=>
 ba d 0 λm=>
 ba d 1 λp=>
 iX x0 λb=>
 ar 129 b 1 λc=>
 aN k 25 c m λi o=>
 Q (.v (.tuple #[])) o
theorem Cl(h : ∀g:dB,wz dep x0 x1 H Q):dq Tryz.f153 (dep+1) [(0,x0),(1,x1)] H Q:=ga (by kernel_rfl) h
end Go.Proofs.YtmkmimgokagimaaGreat
namespace Go.Proofs.YtmkmimgokagimaaGreat
open Go.Ab
variable(dep:Nat)(g:Nat->AV)(x0 x1 x2 x3 x4 x5:AV)(H:ai)(Q:AV->ai->Prop)
def fl:Prop:=
 bu H 6 25 x0 λh H1=>
 bu H1 8 62 x2 λv2 H2=>
 bu H2 9 31 x3 λv3 H3=>
 bu H3 11 29 x5 λv4 H4=>
 an H4 25 h λv5=>
 bt true H4 37 13 [v5,x1,(.v (.int .i64 25))] λA H5=>
 gQ A false (aA 62 v2 2) λv7=>
 gQ A false (aA 38 v7 6) λv8=>
 gQ A false (az H5 36 v8) λv9=>
 gQ A false (uL H5 42 36 v9) λv10=>
 gQ A false (zA 3 42 300 v10) λv11=>
 dO A v11 λv12=>
 br (some v12) (
 Q (.v (.bool true)) H5) (
 bt true H5 46 14 [x1] λb H6=>
 an H6 25 h λv14=>
 an H6 62 v2 λv15=>
 bt true H6 51 23 [v14,b,v15] λv16 H7=>
 ba v16 0 λv17=>
 ba v16 1 λv18=>
 an H7 25 h λv19=>
 an H7 62 v2 λv20=>
 bt true H7 58 24 [v19,x1,v20] λv21 H8=>
 ba v21 0 λv22=>
 ba v21 1 λv23=>
 an H8 25 h λv24=>
 bt true H8 64 25 [v24,b] λY H9=>
 ba Y 0 λv26=>
 ba Y 1 λv27=>
 dE H9 18 25 λv28 H10=>
 aN H10 25 v28 v26 λv29 U=>
 an U 25 h λv30=>
 bt true U 70 26 [v30,x1] λW H12=>
 ba W 0 λv32=>
 ba W 1 λv33=>
 dE H12 20 25 λE H13=>
 aN H13 25 E v32 λv35 u=>
 an u 25 h λv36=>
 an u 31 v3 λv37=>
 bt true u 77 27 [v36,b,v37] λD H15=>
 ba D 0 λv39=>
 ba D 1 λv40=>
 dE H15 22 73 λN H16=>
 aN H16 73 N v39 λv42 y=>
 an y 25 h λv43=>
 an y 31 v3 λv44=>
 bt true y 84 28 [v43,x1,v44] λv45 H18=>
 ba v45 0 λv46=>
 ba v45 1 λv47=>
 dE H18 24 73 λV H19=>
 aN H19 73 V v46 λv49 t=>
 an t 25 h λv50=>
 an t 31 v3 λv51=>
 bt true t 92 29 [v50,b,v51,x4] λv52 z=>
 ba v52 0 λv53=>
 ba v52 1 λv54=>
 an z 25 h λv55=>
 an z 31 v3 λv56=>
 bt true z 100 30 [v55,x1,v56,x4] λv57 q=>
 ba v57 0 λv58=>
 ba v57 1 λv59=>
 an q 25 h λv60=>
 an q 29 v4 λv61=>
 bt true q 107 31 [v60,b,v61] λv62 H23=>
 ba v62 0 λv63=>
 ba v62 1 λv64=>
 dE H23 30 81 λS H24=>
 aN H24 81 S v63 λv66 w=>
 an w 25 h λv67=>
 an w 29 v4 λv68=>
 bt true w 114 32 [v67,x1,v68] λv69 H26=>
 ba v69 0 λv70=>
 ba v69 1 λv71=>
 dE H26 32 81 λK H27=>
 aN H27 81 K v70 λv73 j=>
 ql 4 117 118 v17 v22 λp=>
 gQ p true (aZ v18) λv75=>
 gQ p true (aZ v23) λv76=>
 gQ p true (fK 3 121 122 v75 v76) λv77=>
 bA p v77 λm=>
 gQ m true (az j 25 v28) λv79=>
 gQ m true (az j 25 E) λv80=>
 gW m true j (eN true j 128 33 [v79,v80]) λv81 c=>
 bA m v81 λl=>
 gQ l true (aZ v27) λv83=>
 gQ l true (aZ v33) λv84=>
 gQ l true (fK 3 131 132 v83 v84) λv85=>
 bA l v85 λi=>
 gQ i true (az c 73 N) λv87=>
 gQ i true (az c 73 V) λv88=>
 gQ i true (fK 73 136 137 v87 v88) λv89=>
 bA i v89 λk=>
 gQ k true (aZ v40) λv91=>
 gQ k true (aZ v47) λv92=>
 gQ k true (fK 3 141 142 v91 v92) λv93=>
 bA k v93 λn=>
 gQ n true (aZ v53) λv95=>
 gQ n true (aZ v58) λv96=>
 gQ n true (fK 3 147 148 v95 v96) λv97=>
 bA n v97 λo=>
 gQ o true (aZ v54) λv99=>
 gQ o true (aZ v59) λC=>
 gQ o true (fK 3 152 153 v99 C) λR=>
 bA o R λe=>
 gQ e true (az c 81 S) λv103=>
 gQ e true (az c 81 K) λJ=>
 gQ e true (fK 81 157 158 v103 J) λv105=>
 bA e v105 λd=>
 gQ d true (aZ v64) λL=>
 gQ d true (aZ v71) λT=>
 gQ d true (fK 3 162 163 L T) λv109=>
 bA d v109 λa=>
 gQ a true (az c 25 h) λZ=>
 gQ a true (aZ b) λM=>
 gW a true c (eN false c 169 34 [Z,M]) λG x=>
 gQ a true (az x 25 h) λP=>
 gQ a true (aZ x1) λv115=>
 gW a true x (eN false x 172 35 [P,v115]) λX H31=>
 gQ a true (fK 3 169 172 G X) λO=>
 bA a O λf=>
 gQ f true (aZ b) λI=>
 gQ f true (aZ x1) λv120=>
 gW f true H31 (eN false H31 178 22 [I,v120]) λv121 H32=>
 bA f v121 λF=>
 Q F H32)
theorem sQ(h : ∀g:dB,fl x0 x1 x2 x3 x4 x5 H Q):dq Tryz.f4 0 [(0,x0),(1,x1),(2,x2),(3,x3),(4,x4),(5,x5)] H Q:=ga (by kernel_rfl) h
end Go.Proofs.YtmkmimgokagimaaGreat
namespace Go.Ab
structure jy where
 lv:UInt8
 cats:UInt32
deriving DecidableEq
structure aK where
 kind:UInt8
 h:sj
 serial:Int
 s:vE
 a:bV
 to:jy
 l:List Int
deriving DecidableEq
def gf(a:bV):Bool:=decide (a.h.lv=0)&&decide (a.h.cats=0)&&decide (a.h.num=0)&&decide (a.n=0)
def vQ(t:jy):Bool:=decide (t.lv=0)&&decide (t.cats=0)
def CA(a b:sj):Bool:=decide (a.lv=b.lv)&&decide (a.cats=b.cats)&&decide (a.num=b.num)
theorem xd(a:bV):gf a=true↔a=qX:=by
 obtain⟨⟨a,b,c⟩,d⟩:=a
 simp[gf,qX,and_assoc]
theorem QO(a b:sj):CA a b=true↔a=b:=by
 obtain⟨a1,a2,a3⟩:=a
 obtain⟨b1,b2,b3⟩:=b
 simp[CA,and_assoc]
def yi(o:aK):Bool:=gf o.a&&decide (o.l=[])
def GX(o:aK):Bool:=vQ o.to&&((gf o.a||D2 o.a)&&(CA o.s.f.h o.h&&(decide ((o.l.length:Int)=o.s.many)&&JX o.l)))
def MU(o:aK):Bool:=vQ o.to&&yi o
def J1(o:aK):Bool:=yi o&&decide (o.to.lv<=15)
def BV(o:aK):Bool:=if o.kind=1 then GX o else if o.kind=2 then MU o else if o.kind=3 then J1 o else false
def m0(o:aK):Bool:=gU o.h&&(decide (1<=o.serial)&&(decide (o.serial<16777216)&&(eP o.s&&BV o)))
theorem GK{P:Program}{t:TypeId}(d:(dI P t).isSome=true)(f:(aL P t).isSome=true)(cs:List AV)(a:Nat):Au P t cs a=PW cs a ((aL P t).getD 0) ((dI P t).getD false):=by
 obtain⟨b,e⟩:=gI.1 d
 obtain⟨n,c⟩:=gI.1 f
 simp only[Au,e,c,cX]
 cases b<;>rfl
theorem DO{P:Program}{t:TypeId}(a:((lx P t).bind λp=>aL P p.2).isSome=true)(cs:List AV)(k:UInt8)(c:k.toNat<((lx P t).getD (0,0)).1) :
 rj P t (some (.agg cs)) (some (a8 k))=jQ (Au P ((lx P t).getD (0,0)).2 cs (k.toNat * (aL P ((lx P t).getD (0,0)).2).getD 0)):=by
 cases b:lx P t with
 | none=>rw[b]at a;simp at a
 | some p=>
  obtain⟨n,e⟩:=p
  rw[b]at a c
  simp only[fH,cX]at a c
  obtain⟨s,d⟩:=gI.1 a
  unfold rj a8
  simp only[fH,intOf,b,d,cX]
  rw[if_pos (by omega)]
  simp
@[simp] theorem ab7(r:Ref)(n:Nat)(f:Fn)(a b:List AV)(c:List bz):aE r n (.fn f a b) c=(.fn f a b,c):=by cases n<;>rfl
def tU(a b:jy):Bool:=decide (a.lv<=b.lv)&&decide (a.cats &&& ~~~b.cats=0)
def kb(l:List jy):List AV:=l.map λa => .agg [a8 a.lv,au a.cats]
@[simp] theorem Mm(l:List jy):(kb l).length=l.length:=by simp[kb]
theorem RK(l:List jy)(a:UInt8)(b:UInt32):kb l++[.agg [a8 a,au b]]=kb (l++[⟨a,b⟩]):=by simp[kb]
@[simp] theorem Kg(l:List jy):kb l=[]↔l=[]:=by simp[kb]
def hasB(s:vE)(i:bV):Bool:=eP s&&(decide (s.f.h=i.h)&&(decide (s.f.n<=i.n)&&decide (i.n<s.f.n+s.many)))
def Ku(o:aK):jy:=⟨o.h.lv,o.h.cats⟩
def Np(i:bV):jy:=⟨i.h.lv,i.h.cats⟩
def jZ(o:aK)(i:bV)(v:jy):Bool:=decide (o.kind=3)&&(hasB o.s i&&tU (Ku o) v)
def sn(out:List jy)(t:jy):List jy:=if t∈out then out else out++[t]
def vf(out:List jy)(l:List aK)(i:bV)(v:jy):List jy:=l.foldl (λout o=>if jZ o i v then sn out o.to else out) out
def pw(l:List aK)(i:bV)(v:jy):List jy:=vf [Np i] l i v
def kI(l:List aK)(o:aK):Bool:=if o.kind=3 then tU (Ku o) o.to&&(List.range o.s.many.toNat).all (λk=>decide (Ku o∈pw l ⟨o.s.f.h,o.s.f.n+(k:Int)⟩ (Ku o))) else true
def lJ:List aK->List aK->Bool
 | _,[]=>true
 | l,o :: s=>m0 o&&kI l o&&lJ (l++[o]) s
def qa(l:List aK):Int:=if 2048<l.length then 4 else if lJ [] l then 0 else 8
def lpO(o:Option bz):Option (Nat × AV):=match o with
 | some ⟨0,[.v (.int .i64 st),inf],_,_⟩=>some (st.toNat,inf)
 | _=>none
theorem wg(H:ai)(r:Ref):zb H r=lpO (H.get r):=rfl
@[simp] theorem CX(st:Nat)(a:AV):lpO (some (kE st a))=some (st,a):=by
 simp[lpO,kE]
theorem Vr(a:AV)(K:AV->Prop)(m:Mk K):bgP (some (0,a)) K m↔K a:=by
 constructor
 ·rintro⟨info,e,h⟩
  simp only[dW,xe,true_and]at e
  subst e;exact h
 ·intro h;exact⟨a,rfl,h⟩
attribute [simp] Vr
theorem UF(H:ai)(r:Ref)(st:Nat)(a:AV):zb (H.put r (some (kE st a))) r=some (st,a):=by
 rw[wg,ai.get_put,if_pos rfl,CX]
theorem RJ{E:Env}{fn:Func}{dep nt:Nat}{r:Ref}{f:FuncId}{ps:List Tmp}{assign body:Code}{tm:List AV}{args:List AV}{H:ai}{Q:AV->ai->Prop}
 (i:H.get r=some (kE 0 (.lp f nt ps assign body tm))) (b:fn.ntmps=nt) (hp:args.length=ps.length) (c:ps.all (· < nt)=true) (g:codeOk E.ok assign=true) (d:codeOk E.ok body=true)
 (h:Goes E fn (some r) (dep+1) [.code assign,.beginRound,.code body] (dH (wU tm ps args)) H λx H'=>x = .v (.int .i64 0) /\∃a,H'.get r=some (kE 1 a)/\Q (.v (.bool true)) (H'.put r (some (kE 0 a)))) :
 ∃y H',cg E dep (.yld r) args H=some (y,H')/\Q y H':=by
 refine UM (by rw[wg,i];exact CX _ _) b hp c g d ?_
 intro tm' k
 obtain⟨y,H',⟨rfl,a,e,j⟩,n,b⟩:=h tm' k
 exact⟨_,H',⟨0,rfl,a,_,by rw[wg,e];exact CX _ _,rfl,UF _ _ _ _,λ_=>j,λh=>absurd h (by decide),by decide⟩,n,b⟩
theorem L2{s:eB}{l:List (Nat × AV)}(h : ∀p∈l,s p.1=p.2):OL s l=s:=by
 induction l with
 | nil=>rfl
 | cons p l a=>
  obtain⟨j,v⟩:=p
  funext i
  show cond (Nat.beq i j) v (OL s l i)=s i
  rw[a λp hp=>h p (il _ hp)]
  cases b:Nat.beq i j with
  | false=>rfl
  | true=>
   have:=kP b
   subst this
   exact(h _ (jn ..)).symm
@[simp] theorem XZ(r:Ref)(o n:Nat)(c:Option Nat)(y:AV):jz [AV.cL r o n c] 0 0 [y]=some [y]:=id rfl
@[simp] theorem aaS(x:Value)(y:AV):jz [AV.v x] 0 0 [y]=some [y]:=id rfl
def zh(p:aK × AV):AV := .agg [a8 p.1.kind,a8 p.1.h.lv,au p.1.h.cats,a8 p.1.h.num,aI p.1.serial,a8 p.1.s.f.h.lv,au p.1.s.f.h.cats,a8 p.1.s.f.h.num,aI p.1.s.f.n,aI p.1.s.many,
 a8 p.1.a.h.lv,au p.1.a.h.cats,a8 p.1.a.h.num,aI p.1.a.n,a8 p.1.to.lv,au p.1.to.cats,p.2]
def cI(l:List (aK × AV)):List AV:=l.map zh
@[simp] theorem jD(l:List (aK × AV)):(cI l).length=l.length:=by simp[cI]
def HW(p:aK × AV):Prop:=Sl 1 (rows p.1.l) p.2/\p.1.l.length<2000000
def opsOf(l:List (aK × AV)):List aK:=l.map (·.1)
theorem MY{E:Env}(dep:Nat)(H:ai)(r q:Ref)(args:List AV):bJ E true (aF E) (cg E dep) H r (some (.yld q)) args=cg E dep (.yld q) args H:=by
 simp[bJ,ku,mQ,E3,m7]
theorem Ng(out:List jy)(t:jy):(sn out t).length<=out.length+1:=by
 unfold sn;split
 ·omega
 ·simp
theorem RG(s:List aK)(i:bV)(v:jy) : ∀out:List jy,(vf out s i v).length<=out.length+s.length:=by
 induction s with
 | nil=>intro out;simp[vf]
 | cons o s a=>
  intro out
  show(vf (if jZ o i v then sn out o.to else out) s i v).length<=_
  have b:=a (if jZ o i v then sn out o.to else out)
  have c:(if jZ o i v then sn out o.to else out).length<=out.length+1:=by
   split
   ·exact Ng _ _
   ·omega
  simp only[qZ]
  omega
end Go.Ab
namespace Go.Proofs.YtmkmimgokagimaaGreat
open Go.Ab
attribute [local simp] aW aJ aH aV aU cr ld bf aQ aT cz cw bI bg aC bH gh
@[simp] theorem TA(a:UInt8)(b:UInt32):aF env 76 [.agg [a8 a,au b]]=some (aI (bad (decide (a<=15)))):=by
 refine aG rfl (by kernel_rfl) (Ah _ _ _ λg=>?_)
 simp[af,ah,ad,ae,aa, *,vx]
 repeat' ((first | refine iK (λh=>?_) (λh=>?_) | refine fQ (λh=>?_) (λh=>?_) | refine fR (λh=>?_) (λh=>?_) | refine fO (λh=>?_) (λh=>?_) | refine fP (λh=>?_) (λh=>?_))<;>(try simp only[decide_eq_true_eq,decide_eq_false_iff_not,dV,kp,bh,fe]at h)<;>(try simp[af,ah,ad,ae,aa, *]))
 all_goals (try grind [bad])
@[simp] theorem afT(b:Bool):aF env 159 [aB b]=some (aI (bad b)):=by
 refine aG rfl (by kernel_rfl) (JI _ _ _ λg=>?_)
 cases b<;>simp[af,ah,ad,ae,aa, *,Di,bad]
@[simp] theorem Bu(a:UInt8)(b:UInt32)(n:UInt8):aF env 91 [.agg [a8 a,au b,a8 n]]=some (aI (bad (gU ⟨a,b,n⟩))):=by
 refine aG rfl (by kernel_rfl) (BQ _ _ _ λg=>?_)
 simp[af,ah,ad,ae,aa, *,vA,gU]
 repeat' ((first | refine iK (λh=>?_) (λh=>?_) | refine fQ (λh=>?_) (λh=>?_) | refine fR (λh=>?_) (λh=>?_) | refine fO (λh=>?_) (λh=>?_) | refine fP (λh=>?_) (λh=>?_))<;>(try simp only[decide_eq_true_eq,decide_eq_false_iff_not,dV,kp,bh,fe]at h)<;>(try simp[af,ah,ad,ae,aa, *]))
@[simp] theorem adH(a:UInt8)(b:UInt32)(n:UInt8)(k:Int):aF env 182 [.agg [a8 a,au b,a8 n,aI k]]=some (aI (bad (D2 ⟨⟨a,b,n⟩,k⟩))):=by
 refine aG rfl (by kernel_rfl) (JJ _ _ _ λg=>?_)
 simp[af,ah,ad,ae,aa, *,Dj,D2]
 repeat' ((first | refine iK (λh=>?_) (λh=>?_) | refine fQ (λh=>?_) (λh=>?_) | refine fR (λh=>?_) (λh=>?_) | refine fO (λh=>?_) (λh=>?_) | refine fP (λh=>?_) (λh=>?_))<;>(try simp only[decide_eq_true_eq,decide_eq_false_iff_not,dV,kp,bh,fe]at h)<;>(try simp[af,ah,ad,ae,aa, *]))
@[simp] theorem Ya(a:UInt8)(b:UInt32)(n:UInt8)(k m:Int):aF env 135 [.agg [a8 a,au b,a8 n,aI k,aI m]]=some (aI (bad (eP ⟨⟨⟨a,b,n⟩,k⟩,m⟩))):=by
 refine aG rfl (by kernel_rfl) (DJ _ _ _ λg=>?_)
 cases d:D2 ⟨⟨a,b,n⟩,k⟩ with
 | false=>simp[af,ah,ad,ae,aa, *,mw,eP]
 | true=>
  have c:=I3 d
  simp only at c
  by_cases f:1<=m
  ·by_cases h:m<=64
   ·have i:=IntWalk.i64_in (k+m) (by omega)
    have e:=IntWalk.i64_in (k+m - 1) (by omega)
    simp[af,ah,ad,ae,aa, *,mw,eP]
   ·simp[af,ah,ad,ae,aa, *,mw,eP]
  ·simp[af,ah,ad,ae,aa, *,mw,eP]
@[simp] theorem ag9(a:UInt8)(b:UInt32)(n:UInt8)(k m:Int):aF env 239 [.agg [a8 a,au b,a8 n,aI k],aI m]=some (.agg [a8 a,au b,a8 n,aI (IntKind.i64.wrap (k+m))]):=by
 refine aG rfl (by kernel_rfl) (K3 _ _ _ _ λg=>?_)
 simp[af,ah,ad,ae,aa, *,ES]
def VV(s:vE)(m:Int):Int:=if eP s then (if m<0\/s.many<=m then 2 else 0) else 8
@[simp] theorem adI(a:UInt8)(b:UInt32)(n:UInt8)(k m j:Int):aF env 228 [.agg [a8 a,au b,a8 n,aI k,aI m],aI j] =
 some (if VV ⟨⟨⟨a,b,n⟩,k⟩,m⟩ j=0 then .tup [.agg [a8 a,au b,a8 n,aI (k+j)],aI 0] else .tup [.agg [a8 0,au 0,a8 0,aI 0],aI (VV ⟨⟨⟨a,b,n⟩,k⟩,m⟩ j)]):=by
 refine aG rfl (by kernel_rfl) (QB _ _ _ _ λg=>?_)
 cases d:eP ⟨⟨⟨a,b,n⟩,k⟩,m⟩ with
 | false=>simp[af,ah,ad,ae,aa, *,yr,VV]
 | true=>
  have c:=gz d
  simp only at c
  by_cases e:j<0
  ·simp[af,ah,ad,ae,aa, *,yr,VV]
  ·by_cases f:m<=j
   ·simp[af,ah,ad,ae,aa, *,yr,VV]
   ·have h:=IntWalk.i64_in (k+j) (by omega)
    simp[af,ah,ad,ae,aa, *,yr,VV]
end Go.Proofs.YtmkmimgokagimaaGreat
namespace Go.Ab
def sj.enc(h:sj):List AV:=[a8 h.lv,au h.cats,a8 h.num]
def bV.enc(i:bV):List AV:=[a8 i.h.lv,au i.h.cats,a8 i.h.num,aI i.n]
def vE.enc(s:vE):List AV:=[a8 s.f.h.lv,au s.f.h.cats,a8 s.f.h.num,aI s.f.n,aI s.many]
end Go.Ab
namespace Go.Proofs.YtmkmimgokagimaaGreat
open Go.Ab Go.ChangeShapes Go.WideShapes Go.RowKit
theorem A4:Nq env.P 29 (λ_=>True) (λp:UInt8 × UInt32=>[a8 p.1,au p.2]):=by
 intro n xs h
 have h:=mg (P:=env.P) MN h
 obtain⟨m,x,r,rfl,a,y,r',rfl,b,rfl⟩:=h
 obtain⟨v,_,rfl⟩:=PR (P:=env.P) (t:=5) (by simp) _ _ a
 obtain⟨w,_,rfl⟩:=Zu (P:=env.P) (t:=27) (by simp) _ _ b
 exact⟨(v,w),trivial,rfl⟩
theorem JZ:Nq env.P 31 (λ_=>True) sj.enc:=by
 intro n xs h
 have h:=mg (P:=env.P) MM h
 obtain⟨m,x,r,rfl,a,y,r',rfl,b,rfl⟩:=h
 obtain⟨p,_,rfl⟩:=A4 _ _ a
 obtain⟨w,_,rfl⟩:=PR (P:=env.P) (t:=5) (by simp) _ _ b
 exact⟨⟨p.1,p.2,w⟩,trivial,rfl⟩
theorem PQ:Nq env.P 33 (λ_=>True) bV.enc:=by
 intro n xs h
 have h:=mg (P:=env.P) ML h
 obtain⟨m,x,r,rfl,a,y,r',rfl,b,rfl⟩:=h
 obtain⟨p,_,rfl⟩:=JZ _ _ a
 obtain⟨i,_,rfl⟩:=ra (P:=env.P) (t:=3) (by simp) _ _ b
 exact⟨⟨p,i⟩,trivial,rfl⟩
theorem WG:Nq env.P 35 (λ_=>True) vE.enc:=by
 intro n xs h
 have h:=mg (P:=env.P) MK h
 obtain⟨m,x,r,rfl,a,y,r',rfl,b,rfl⟩:=h
 obtain⟨p,_,rfl⟩:=PQ _ _ a
 obtain⟨i,_,rfl⟩:=ra (P:=env.P) (t:=3) (by simp) _ _ b
 exact⟨⟨p,i⟩,trivial,rfl⟩
theorem S3{n:Nat}{xs:List AV}(h:B7 env.P n 36 xs) : ∃(l:List Int) (x:AV),(∀a∈l, -2147483648<=a/\a<=2147483647)/\xs=[x]/\Sl 1 (rows l) x:=by
 obtain⟨l,x,b,rfl,s⟩:=Cx (P:=env.P) SQ SP Wh (WE (by simp)) h
 exact⟨l,x,b,rfl,s⟩
def YX(p:aK × AV):List AV:=[a8 p.1.kind,a8 p.1.h.lv,au p.1.h.cats,a8 p.1.h.num,aI p.1.serial,a8 p.1.s.f.h.lv,au p.1.s.f.h.cats,a8 p.1.s.f.h.num,aI p.1.s.f.n,aI p.1.s.many,
 a8 p.1.a.h.lv,au p.1.a.h.cats,a8 p.1.a.h.num,aI p.1.a.n,a8 p.1.to.lv,au p.1.to.cats,p.2]
theorem TK:Nq env.P 38 (λp:aK × AV=>Sl 1 (rows p.1.l) p.2 /\∀a∈p.1.l, -2147483648<=a/\a<=2147483647) YX:=by
 intro n xs h
 have h:=mg (P:=env.P) MJ h
 obtain⟨m,C,r1,rfl,e,x,r2,rfl,q,w,r3,rfl,f,v,r4,rfl,g,u,r5,rfl,b,z,r6,rfl,o,A,r7,rfl,j,rfl⟩:=h
 obtain⟨k,_,rfl⟩:=PR (P:=env.P) (t:=5) (by simp) _ _ e
 obtain⟨d,_,rfl⟩:=JZ _ _ q
 obtain⟨c,_,rfl⟩:=ra (P:=env.P) (t:=3) (by simp) _ _ f
 obtain⟨s,_,rfl⟩:=WG _ _ g
 obtain⟨a,_,rfl⟩:=PQ _ _ b
 obtain⟨t,_,rfl⟩:=A4 _ _ o
 obtain⟨l,y,i,rfl,sl⟩:=S3 j
 exact⟨(⟨k,d,c,s,a,⟨t.1,t.2⟩,l⟩,y),⟨sl,i⟩,rfl⟩
theorem own:ownKnob Tryz.prog.godebug=none:=by kernel_rfl
theorem kids:Kids Tryz.prog (· < Tryz.prog.types.size):=kids_rows (by kernel_rfl) (by kernel_rfl)
end Go.Proofs.YtmkmimgokagimaaGreat
namespace Go.Proofs.YtmkmimgokagimaaGreat
open Go.Ab
attribute [local simp] aW aJ aH aV aU cr ld bf aQ aT cz cw bI bg aC bH gh
@[simp] theorem abr(n:Int)(c:0<=n):aF env 207 [aI n,aI 4]=some (.bW 1 (jX (be 4 n)) none):=by
 refine aG rfl (by kernel_rfl) (Bs _ _ _ _ λg=>?_)
 have b:IntKind.i64.wrap (-1) = -1:=rfl
 have a:IntKind.i64.wrap 0=0:=rfl
 simp[af,ah,ad,ae,aa, *,w8]
 refine de _ _ _ _ _ λg=>?_
 simp[af,ah,ad,ae,aa, *,cP,gm,fw]
 refine de _ _ _ _ _ λg=>?_
 simp[af,ah,ad,ae,aa, *,cP,gm,fw]
 refine de _ _ _ _ _ λg=>?_
 simp[af,ah,ad,ae,aa, *,cP,gm,fw]
 refine de _ _ _ _ _ λg=>?_
 simp[af,ah,ad,ae,aa, *,cP,gm,fw]
 refine de _ _ _ _ _ λg=>?_
 simp[af,ah,ad,ae,aa, *,cP,Pn,jX]
@[simp] theorem QR(n:Int)(c:0<=n):aF env 207 [aI n,aI 7]=some (.bW 1 (jX (be 7 n)) none):=by
 refine aG rfl (by kernel_rfl) (Bs _ _ _ _ λg=>?_)
 have b:IntKind.i64.wrap (-1) = -1:=rfl
 have a:IntKind.i64.wrap 0=0:=rfl
 simp[af,ah,ad,ae,aa, *,w8]
 refine de _ _ _ _ _ λg=>?_
 simp[af,ah,ad,ae,aa, *,cP,gm,fw]
 refine de _ _ _ _ _ λg=>?_
 simp[af,ah,ad,ae,aa, *,cP,gm,fw]
 refine de _ _ _ _ _ λg=>?_
 simp[af,ah,ad,ae,aa, *,cP,gm,fw]
 refine de _ _ _ _ _ λg=>?_
 simp[af,ah,ad,ae,aa, *,cP,gm,fw]
 refine de _ _ _ _ _ λg=>?_
 simp[af,ah,ad,ae,aa, *,cP,gm,fw]
 refine de _ _ _ _ _ λg=>?_
 simp[af,ah,ad,ae,aa, *,cP,gm,fw]
 refine de _ _ _ _ _ λg=>?_
 simp[af,ah,ad,ae,aa, *,cP,gm,fw]
 refine de _ _ _ _ _ λg=>?_
 simp[af,ah,ad,ae,aa, *,cP,ahF,jX]
def jO(h:sj):List UInt8:=h.lv :: (be 4 h.cats.toNat++[h.num])
@[simp] theorem aai(h:sj):(jO h).length=6:=by simp[jO]
@[simp] theorem Ls(a:UInt8)(b:UInt32)(n:UInt8):aF env 162 [.agg [a8 a,au b,a8 n]]=some (if gU ⟨a,b,n⟩ then .tup [.fsl 1 (jX (jO ⟨a,b,n⟩)) none,aI 0] else .tup [ct,aI 8]):=by
 refine aG rfl (by kernel_rfl) (DH _ _ _ λg=>?_)
 cases h:gU ⟨a,b,n⟩ with
 | true=>simp[af,ah,ad,ae,aa, *,sZ,bad,jX,jO]
 | false=>simp[af,ah,ad,ae,aa, *,sZ,bad]
def kF(i:bV):List UInt8:=jO i.h++be 7 i.n
@[simp] theorem aaf(i:bV):(kF i).length=13:=by simp[kF]
@[simp] theorem ahh(a:UInt8)(b:UInt32)(n:UInt8)(k:Int):aF env 208 [.agg [a8 a,au b,a8 n,aI k]]=some (if D2 ⟨⟨a,b,n⟩,k⟩ then .tup [.bW 1 (jX (kF ⟨⟨a,b,n⟩,k⟩)) none,aI 0] else .tup [ct,aI 8]):=by
 refine aG rfl (by kernel_rfl) (NZ _ _ _ λg=>?_)
 cases h:D2 ⟨⟨a,b,n⟩,k⟩ with
 | true=>
  have c:=I3 h
  have d:=QR k (by simp only at c;omega)
  have e:gU ⟨a,b,n⟩=true:=by simp only[D2,bh]at h;exact h.1
  simp only at c
  simp[af,ah,ad,ae,aa, *,B5,bad,jX,kF]
 | false=>simp[af,ah,ad,ae,aa, *,B5,bad]
end Go.Proofs.YtmkmimgokagimaaGreat
namespace Go.Proofs.YtmkmimgokagimaaGreat
open Go.Ab
attribute [local simp] aW aJ aH aV aU cr ld bf aQ aT cz cw bI bg aC bH gh
def yO(n:Int):Bool:=(decide (0<=n)&&decide (n<55296))||(decide (57343<n)&&decide (n<=1114111))
@[simp] theorem afV(n:Int):aF env 216 [.v (.int .i32 n)]=some (aB (yO n)):=by
 refine aG rfl (by kernel_rfl) (vF _ _ _ λg=>?_)
 simp[af,ah,ad,ae,aa, *,o4,yO]
 repeat' ((first | refine iK (λh=>?_) (λh=>?_) | refine fQ (λh=>?_) (λh=>?_) | refine fR (λh=>?_) (λh=>?_) | refine fO (λh=>?_) (λh=>?_) | refine fP (λh=>?_) (λh=>?_))<;>(try simp only[decide_eq_true_eq,decide_eq_false_iff_not,dV,kp,bh,fe]at h)<;>(try simp[af,ah,ad,ae,aa, *]))
 all_goals (try grind)
@[simp] theorem afS(n:Int):aF env 215 [.v (.int .i32 n)]=some (aB (!oY n)):=by
 refine aG rfl (by kernel_rfl) (Dz _ _ _ λg=>?_)
 by_cases h:n = -1
 ·subst h;simp[af,ah,ad,ae,aa, *,sY,oY]
 ·simp[af,ah,ad,ae,aa, *,sY,oY,yO]
def zg:List Int->Nat->Int
 | [],_ => -1
 | n :: l,k=>if oY n then zg l (k+1) else k
theorem OY(l:List Int) : ∀k:Nat,(0<=zg l k↔l.all oY=false):=by
 induction l with
 | nil=>intro k;simp[zg]
 | cons n l a=>
  intro k
  unfold zg
  cases h:oY n with
  | true=>rw[if_pos rfl,a,Ad,h,nx]
  | false=>simp[h]
theorem NT{x0:AV}{Q:AV->ai->Prop}{l:List Int}(hx:Sl 1 (rows l) x0)(hl:l.length<4611686018427387904) : ∀(s:List Int)(k:Nat)(i:Int)(H:ai),l.drop k=s->k<=l.length->i=k ->
 (∀y H',y=aI (zg s k)->Q y H') ->
 bN env Tryz.f229 0 dX [(8,aI i),(0,x0),(1,.fn (.func 215) [] []),(7,aI l.length)] H Q:=by
 intro s
 induction s with
 | nil=>
  rintro k i H hs hk rfl hQ
  obtain rfl:=drop_nil hs hk
  refine kr _ _ _ _ _ _ λg=>?_
  simp[af,ah,ad,ae,aa, *,dY]
  all_goals exact hQ _ _ rfl
 | cons b s f=>
  rintro k i H hs hk rfl hQ
  obtain⟨h,j,a,d⟩:=drop_cons hs
  refine kr _ _ _ _ _ _ λg=>?_
  have n:=IntWalk.i64_in ((k:Int)+1) (by omega)
  cases c:oY b with
  | true=>
   simp[af,ah,ad,ae,aa, *,dY,hx.idx,rows,aR]
   exact f (k+1) _ _ a (by omega) (by simp) (λy H' e=>hQ y H' (by simp[e,zg,c]))
  | false=>
   simp[af,ah,ad,ae,aa, *,dY,hx.idx,rows,aR]
   exact hQ _ _ (by simp[zg,c])
theorem ZV:cf env.P .eql 36 (.tmp 3) (.const (.slice none 0 0)) (some (.v (.slice none 0 0))) (some (.v (.slice none 0 0)))=some (aB true,[]):=by kernel_rfl
section
variable{x:AV}{l:List Int}(hx:Sl 1 (rows l) x)(hl:l.length<4611686018427387904)
include hx hl
theorem Oh:aF env 229 [x,.fn (.func 215) [] []]=some (aI (zg l 0)):=by
 refine aG rfl (by kernel_rfl) (qL _ _ _ _ λg=>?_)
 have h:=hx.len
 simp[af,ah,ad,ae,aa, *,kT]
 exact NT hx hl l 0 _ _ rfl (by omega) rfl (λy H' e=>by simp[e])
theorem TD:aF env 217 [x,.fn (.func 215) [] []]=some (aB (!l.all oY)):=by
 refine aG rfl (by kernel_rfl) (o7 _ _ _ _ λg=>?_)
 have h:=Oh hx hl
 have e:decide (0<=zg l 0) = !l.all oY:=by
  have:=OY l 0
  cases h:l.all oY<;>simp[h]at this ⊢ <;> omega
 simp[af,ah,ad,ae,aa, *,jV,hx.r]
theorem DM:aF env 187 [x]=some (aI (Bg l)):=by
 refine aG rfl (by kernel_rfl) (F3 _ _ _ λg=>?_)
 have h:=TD hx hl
 have c:=hx.len
 by_cases a:64<l.length
 ·have:(64:Int)<l.length:=by omega
  simp[af,ah,ad,ae,aa, *,vu,Bg,hx.r]
 ·have : ¬(64:Int)<l.length:=by omega
  cases b:l.all oY<;>simp[af,ah,ad,ae,aa, *,vu,Bg,hx.r]
theorem IF(d:l.length * 4<=140737488355328):aF env 173 [x]=some (rH x):=by
 refine aG rfl (by kernel_rfl) (sP _ _ _ λg=>?_)
 rcases hx with ⟨rfl,h⟩ | ⟨c,rfl,e⟩
 ·have f:=ZV
  simp[af,ah,ad,ae,aa, *,fj]
 ·by_cases a:l=[]
  ·subst a
   simp[af,ah,ad,ae,aa, *,fj,rows]
  ·have b:rows l≠[]:=by simpa using a
   have hp:0<l.length:=Fu.2 a
   rw[sW 1 c b]
   simp[af,ah,ad,ae,aa, *,fj]
end
theorem Pc{x0 o:AV}{Q:AV->ai->Prop}{l m:List Int}(hx:Sl 1 (rows l) x0)(hy:Sl 1 (rows m) o)(hl:l.length<4611686018427387904)(f:m.length=l.length) : ∀(s t:List Int)(k:Nat)(i:Int)(H:ai),l.drop k=s->m.drop k=t->k<=l.length->i=k ->
 (∀y H',y=aB (decide (s=t))->Q y H') ->
 bN env Tryz.f226 0 eG [(13,aI i),(1,o),(0,x0),(12,aI l.length)] H Q:=by
 intro s
 induction s with
 | nil=>
  rintro t k i H hs ht hk rfl hQ
  obtain rfl:=drop_nil hs hk
  rw[<-f,Ns]at ht
  subst ht
  refine lj _ _ _ _ _ _ λg=>?_
  simp[af,ah,ad,ae,aa, *,eK]
  all_goals exact hQ _ _ rfl
 | cons b s u=>
  rintro t k i H hs ht hk rfl hQ
  obtain⟨v,w,d,p⟩:=drop_cons hs
  cases t with
  | nil=>have:=congrArg List.length ht;simp at this;omega
  | cons c t=>
  obtain⟨n,q,a,h⟩:=drop_cons ht
  refine lj _ _ _ _ _ _ λg=>?_
  have z:=IntWalk.i64_in ((k:Int)+1) (by omega)
  by_cases j:b=c
  ·subst j
   simp[af,ah,ad,ae,aa, *,eK,hx.idx,hy.idx,rows,aR]
   exact u t (k+1) _ _ d a (by omega) (by simp) (λy H' e=>hQ y H' (by simp[e]))
  ·simp[af,ah,ad,ae,aa, *,eK,hx.idx,hy.idx,rows,aR]
   all_goals exact hQ _ _ (by simp[j])
theorem QL{x0 o:AV}{Q:AV->ai->Prop}{l m:List Int}(hx:Sl 1 (rows l) x0)(hy:Sl 1 (rows m) o)(hl:l.length<4611686018427387904)(f:m.length=l.length) : ∀(s t:List Int)(k:Nat)(i:Int)(H:ai),l.drop k=s->m.drop k=t->k<=l.length->i=k ->
 (∀y H',y=aB (decide (s=t))->Q y H') ->
 bN env Tryz.f133 0 iB [(5,aI i),(1,o),(0,x0)] H Q:=by
 intro s
 induction s with
 | nil=>
  rintro t k i H hs ht hk rfl hQ
  obtain rfl:=drop_nil hs hk
  rw[<-f,Ns]at ht
  subst ht
  refine oX _ _ _ _ _ λg=>?_
  simp[af,ah,ad,ae,aa, *,iD,hx.len]
  all_goals exact hQ _ _ rfl
 | cons b s u=>
  rintro t k i H hs ht hk rfl hQ
  obtain⟨v,w,d,p⟩:=drop_cons hs
  cases t with
  | nil=>have:=congrArg List.length ht;simp at this;omega
  | cons c t=>
  obtain⟨n,q,a,h⟩:=drop_cons ht
  refine oX _ _ _ _ _ λg=>?_
  have z:=IntWalk.i64_in ((k:Int)+1) (by omega)
  by_cases j:b=c
  ·subst j
   simp[af,ah,ad,ae,aa, *,iD,hx.idx,hy.idx,hx.len,rows,aR]
   exact u t (k+1) _ _ d a (by omega) (by simp) (λy H' e=>hQ y H' (by simp[e]))
  ·simp[af,ah,ad,ae,aa, *,iD,hx.idx,hy.idx,hx.len,rows,aR]
   all_goals exact hQ _ _ (by simp[j])
section
variable{x y:AV}{l m:List Int}(hx:Sl 1 (rows l) x)(hy:Sl 1 (rows m) y)(hl:l.length<4611686018427387904)
include hx hy hl
theorem QW:aF env 226 [x,y]=some (aB (decide (l=m))):=by
 refine aG rfl (by kernel_rfl) (sO _ _ _ _ λg=>?_)
 have d:=hx.len
 have f:=hy.len
 by_cases h:m.length=l.length
 ·have a:(m.length:Int)=l.length:=by omega
  simp[af,ah,ad,ae,aa, *,iV]
  exact Pc hx hy hl h l m 0 0 _ rfl rfl (by omega) rfl (λy H' e=>by simp[e])
 ·have a : ¬(l.length:Int)=m.length:=by omega
  have c:l≠m:=λe=>h (by rw[e])
  have b : ¬(m.length:Int)=l.length:=by omega
  simp[af,ah,ad,ae,aa, *,iV]
theorem Tg:aF env 133 [x,y]=some (aB (decide (l=m))):=by
 refine aG rfl (by kernel_rfl) (xI _ _ _ _ λg=>?_)
 have d:=hx.len
 have f:=hy.len
 by_cases h:m.length=l.length
 ·have a:(m.length:Int)=l.length:=by omega
  simp[af,ah,ad,ae,aa, *,mE]
  exact QL hx hy hl h l m 0 0 _ rfl rfl (by omega) rfl (λy H' e=>by simp[e])
 ·have a : ¬(l.length:Int)=m.length:=by omega
  have c:l≠m:=λe=>h (by rw[e])
  have b : ¬(m.length:Int)=l.length:=by omega
  simp[af,ah,ad,ae,aa, *,mE]
end
end Go.Proofs.YtmkmimgokagimaaGreat
namespace Go.Proofs.YtmkmimgokagimaaGreat
open Go.Ab
attribute [local simp] aW aJ aH aV aU cr ld bf aQ aT cz cw bI bg aC bH gh
def fD(l:List Int):List UInt8:=l.flatMap λn=>be 4 n
theorem yV(l:List Int):(fD l).length=4 * l.length:=by
 induction l with
 | nil=>rfl
 | cons n l a=>show(be 4 n++fD l).length=_;rw[oT,a,Vs,qZ];omega
theorem Ri{l:List Int}{u:AV}(p:Sl 1 (rows l) u)(S:l.length<100000)(K : ∀n∈l, -2147483648<=n/\n<=2147483647){Q:AV->ai->Prop} :
 ∀(s:List Int)(k:Nat)(i:Int)(a:List Int)(j:AV)(H:ai),l.drop k=s->k<=l.length->i=k->a.length=k->Fr H->tP [32] 1 (jX (fD a)) H j->(a=[]->j=ct) ->
 (∀y H',tP [32] 1 (jX (fD (a++s))) H' y->(a++s=[]->y=ct)->Q (.tup [y,aI 0]) H') ->
 bN env Tryz.f210 0 rF [(15,aI i),(5,j),(13,u),(14,aI l.length)] H Q:=by
 intro s
 induction s with
 | nil=>
  rintro k i a j H hs hk rfl ha hF hO hN hQ
  obtain rfl:=drop_nil hs hk
  refine Af _ _ _ _ _ _ λg=>?_
  have f:=hQ j H (by simpa using hO) (by simpa using hN)
  clear hQ hO hN
  simp[af,ah,ad,ae,aa, *,rQ,p.len]
  all_goals exact f
 | cons n s C=>
  rintro k i a j H hs hk rfl ha hF hO hN hQ
  obtain⟨N,G,A,x⟩:=drop_cons hs
  have I:=K n (by rw[<-G];exact lY _)
  have U:=IntWalk.i64_in ((k:Int)+1) (by omega)
  refine Af _ _ _ _ _ _ λg=>?_
  have M:bX (rows l) k 0 1 false=some (.v (.int .i32 n)):=by simp[rows,x,aR]
  have E:n.fdiv (2 ^ min 24 IntKind.i32.bits)=n / 16777216:=by rw[show(2:Int) ^ min 24 IntKind.i32.bits=16777216 from rfl];exact fw n 16777216
  have J:n.fdiv (2 ^ min 16 IntKind.i32.bits)=n / 65536:=by rw[show(2:Int) ^ min 16 IntKind.i32.bits=65536 from rfl];exact fw n 65536
  have P:n.fdiv (2 ^ min 8 IntKind.i32.bits)=n / 256:=by rw[show(2:Int) ^ min 8 IntKind.i32.bits=256 from rfl];exact fw n 256
  have q:=λz H'=>C (k+1) ((k:Int)+1) (a++[n]) z H' A (by omega) (by simp) (by simp;omega)
  have f : ∀y H',tP [32] 1 (jX (fD ((a++[n])++s))) H' y->((a++[n])++s=[]->y=ct)->Q (.tup [y,aI 0]) H':=λy H' h I=>hQ y H' (by simpa using h) (λe=>by simp at e)
  have o:=yV a
  have b:(jX (fD a)).length=4 * a.length:=by rw[show(jX (fD a)).length=(fD a).length from by simp,o]
  have d : ∀(g m:Nat)(H':ai),m=4 * a.length+4->H'.get ⟨0,32,g,0⟩=some ⟨1,jX (fD a)++[a8 (u8 (n / 16777216)),a8 (u8 (n / 65536)),a8 (u8 (n / 256)),a8 (u8 n)],true,false⟩->tP [32] 1 (jX (fD (a++[n]))) H' (.cL ⟨0,32,g,0⟩ 0 m none):=by
   intro g m H' F h
   subst F
   have e:jX (fD (a++[n]))=jX (fD a)++[a8 (u8 (n / 16777216)),a8 (u8 (n / 65536)),a8 (u8 (n / 256)),a8 (u8 n)]:=by simp[fD,Pn,jX]
   rw[e]
   exact .inr ⟨32,g,by simp,by rw[oT,b];rfl,h⟩
  clear hQ hN C
  rcases hO with ⟨rfl,O⟩ | ⟨t,gg,D,rfl,L⟩
  ·have w:a=[]:=by
    have:=congrArg List.length O
    rw[b]at this
    simp only[Fq]at this
    exact Ch (by omega)
   subst w
   have c:=d (H.gen 0 32) 4
   clear d
   simp[af,ah,ad,ae,aa, *,rQ,p.r,p.idx,gm,fw]
   exact q _ _ (by simp(maxDischargeDepth:=12) [ai.get_put,aq,aj,Fr.nil,aw,af,ah,ad,ae,ao,ak,aa, *]) (c _ rfl (by simp[fD])) (λe=>by simp at e) f
  ·rw[uP]at D
   subst D
   have R:(H.get ⟨0,32,gg,0⟩).isSome=true:=by rw[L];rfl
   have T:mY 1 1 (jX (fD a)).length true none (some ⟨1,jX (fD a),true,false⟩) (some [a8 (u8 (n / 16777216)),a8 (u8 (n / 65536)),a8 (u8 (n / 256)),a8 (u8 n)]):=by
    rw[aQ,b];refine⟨rfl,b.symm ▸ rfl,.inr ⟨?_,rfl⟩⟩;simp;omega
   have c:=λH'=>d (H.gen 0 32) ((jX (fD a)).length+4) H' (by rw[b])
   clear d ha b o
   generalize jX (fD a)=bs at *
   simp[af,ah,ad,ae,aa, *,rQ,p.r,p.idx,gm,fw]
   exact q _ _ (by simp(maxDischargeDepth:=12) [ai.get_put,aq,aj,Fr.nil,aw,af,ah,ad,ae,ao,ak,aa, *]) (c _ (by simp)) (λe=>by simp at e) f
theorem Wp{l:List Int}{x:AV}(d:Sl 1 (rows l) x)(q:l.length<100000)(u : ∀n∈l, -2147483648<=n/\n<=2147483647):aF env 210 [x]=some (if Bg l=0 then .tup [xR 1 (jX (fD l)),aI 0] else .tup [ct,aI (Bg l)]):=by
 refine aG rfl (by kernel_rfl) (JF _ _ _ λg=>?_)
 have k:=DM d (by omega)
 have v:=d.len
 by_cases h:Bg l=0
 ·rw[if_pos h]
  rw[h]at k
  have a:=λH Q=>Ri d q u (H:=H) (Q:=Q) l 0 0 [] ct rfl (by omega) rfl rfl
  have c : ∀y H',tP [32] 1 (jX (fD ([]++l))) H' y->([]++l=[]->y=ct)->view H'.get 8 (.tup [y,aI 0])=some (.tup [xR 1 (jX (fD l)),aI 0]):=by
   intro y H' i b
   rw[vS]at i b
   rcases i with ⟨rfl,o⟩ | ⟨t,gg,z,rfl,p⟩
   ·rw[o];simp[xR]
   ·have f:jX (fD l)≠[]:=by
     intro e
     have m:=congrArg List.length e
     have A:=yV l
     have w:(jX (fD l)).length=(fD l).length:=by simp
     simp only[Fq]at m
     have:l=[]:=Ch (by omega)
     cases b this
    rw[CL 1 f]
    generalize jX (fD l)=bs at *
    simp[p]
  have run:=λH j=>a H (λx H=>view H.get 8 x=some (.tup [xR 1 (jX (fD l)),aI 0])) j (.inl ⟨rfl,rfl⟩) (λ_=>rfl) c
  clear a c h
  generalize xR 1 (jX (fD l))=yo at *
  simp[af,ah,ad,ae,aa, *,zn,d.r]
  all_goals exact run _ (by simp(maxDischargeDepth:=12) [aq,aj,Fr.nil,aw,af,ah,ad,ae,ao,ak,aa, *])
 ·rw[if_neg h]
  simp[af,ah,ad,ae,aa, *,zn,d.r]
theorem Na{P:Program}{t t':TypeId}(l:qS P t=true)(c:isInt P t'=true)(p:(kf P t).cells.all AV.one=true)(v:Bool)(H:ai)(r:Ref)(n:Int)(G:0<n)(A:n<=bI)(C:n.toNat * vl P t<=bI) :
 ju P v H r (some t) (some t') ct (aI n)=some (.cL r 0 n.toNat none,({ r with k:=0},some ⟨nQ P t,List.replicate n.toNat (kf P t),true,false⟩) :: H):=by
 unfold qS at l
 obtain⟨e,b,i,o,E,g,q,F,m,j⟩:=lE l
 have u:kf P t=b:=by unfold kf;rw[i,fH,g];rfl
 rw[u]at p ⊢
 have f:(P.underlying t').isNone=false:=by
  unfold isInt at c
  cases h:P.underlying t' with
  | none=>rw[h]at c;cases c
  | some d=>rfl
 have y : ¬((P.underlying t').isNone=true\/isInt P t'≠isNum (aI n)):=by rw[f,c];simp[isNum]
 have D : ¬(nQ P t≠nQ P t\/nQ P t=0\/vl P t=0\/b.cells.length≠nQ P t):=by simp[q,m,j]
 have a:pv P H.get e (aI n)=some (nQ P t,List.replicate n.toNat b):=by
  show(match ff P e,aL P e with | some w,some z=>if 0<=n/\n<=bI/\w.cells.length=z/\w.cells.all AV.one then some (z,List.replicate n.toNat w) else none | _,_=>none)=_
  rw[g,o]
  exact if_pos ⟨by omega,A,by simp[q,m,j],p⟩
 have x:List.replicate n.toNat b≠[]:=by
  intro h
  have:=congrArg List.length h
  simp only[List.length_replicate,Fq]at this
  omega
 simp only[ju,jB,fH,i,Option.map_some,cX,if_neg y,o,E,g,a,if_neg D,if_neg x,List.length_replicate,if_pos C]
 rfl
@[simp] theorem acv(g:da)(r:Ref):cO env.P false g r .cap #[170] [ct]=some (aI 0,[]):=by kernel_rfl
theorem Zl(n:Int)(c:0<n)(e:n<1000000):aF env 225 [ct,aI n]=some (.fsl 1 [] none):=by
 refine aG rfl (by kernel_rfl) (ui _ _ _ _ λg=>?_)
 have f : ¬n<0:=by omega
 have d:=IntWalk.i64_in n (by omega)
 have j:IntKind.i64.wrap 0=0:=rfl
 have b:n<=140737488355328:=by omega
 have i:n.toNat<=140737488355328:=by omega
 have h:0<n.toNat:=by omega
 have a:=Na (P:=env.P) (t:=170) (t':=3) (by simp) (by simp) (by simp) true [] ⟨0,22,0,0⟩ n c b (by simp;omega)
 simp[af,ah,ad,ae,aa, *,nK, -a]
 refine D9 a ?_
 simp
 all_goals omega
def lC(s:List (List UInt8 × AV)):List UInt8:=s.flatMap (·.1)
theorem R7{ps:List (List UInt8 × AV)}{x0:AV}(l:Sl 1 (ps.map (·.2)) x0)(hp : ∀p∈ps,Sl 1 (jX p.1) p.2)(G:ps.length<100000)(K:(lC ps).length<1000000){Q:AV->ai->Prop} :
 ∀(s:List (List UInt8 × AV)) (k:Nat) (i:Int) (acc:List UInt8) (gg:Nat) (H:ai),ps.drop k=s->k<=ps.length->i=k->acc.length+(lC s).length=(lC ps).length->Fr H->H.get ⟨0,24,gg,0⟩=some ⟨1,jX acc,true,false⟩ ->
 (∀g H',H'.get ⟨0,24,g,0⟩=some ⟨1,jX (acc++lC s),true,false⟩->Q (.cL ⟨0,24,g,0⟩ 0 (acc++lC s).length none) H') ->
 bN env Tryz.f209 0 dn [(27,aI i),(6,.cL ⟨0,24,gg,0⟩ 0 acc.length none),(25,x0),(26,aI ps.length)] H Q:=by
 intro s
 induction s with
 | nil=>
  rintro k i acc gg H hs hk rfl ha hF hr hQ
  obtain rfl:=drop_nil hs hk
  refine lu _ _ _ _ _ _ λg=>?_
  have d:=hQ gg H (by simpa [lC] using hr)
  simp only[lC,FM,tq]at d
  clear hQ hr
  simp[af,ah,ad,ae,aa, *,eL]
  all_goals exact d
 | cons p s v=>
  rintro k i acc gg H hs hk rfl ha hF hr hQ
  obtain⟨E,w,o,m⟩:=drop_cons hs
  have c:=hp p (by rw[<-w];exact lY _)
  obtain⟨b,x⟩:=p
  simp only at c
  have J:=IntWalk.i64_in ((k:Int)+1) (by omega)
  have n:lC ((b,x) :: s)=b++lC s:=rfl
  rw[n]at ha hQ
  rw[oT]at ha
  have D:bX (ps.map (·.2)) k 0 1 false=some x:=by simp[m,c.r]
  have C:(ps.map (·.2)).length=ps.length:=by simp
  have f:(jX b).length=b.length:=by simp
  have j:(jX acc).length=acc.length:=by simp
  have F:(H.get ⟨0,24,gg,0⟩).isSome=true:=by rw[hr];rfl
  have e:=λg H'=>v (k+1) ((k:Int)+1) (acc++b) g H' o (by omega) (by simp) (by simp;omega)
  have d : ∀g H',H'.get ⟨0,24,g,0⟩=some ⟨1,jX ((acc++b)++lC s),true,false⟩->Q (.cL ⟨0,24,g,0⟩ 0 ((acc++b)++lC s).length none) H':=λg H' h=>by
   have:=hQ g H' (by rw[<-Ce];exact h)
   rw[<-Ce]at this
   exact this
  clear hQ v hp hs
  refine lu _ _ _ _ _ _ λg=>?_
  have z:=c.kR
  by_cases u:b=[]
  ·subst u
   have a:=e gg H hF
   simp only[tq]at a d
   have q:=a hr d
   clear a e d
   simp[af,ah,ad,ae,aa, *,eL,l.r,l.idx,c.r,c.kR]
  ·have y:jX b≠[]:=by simpa using u
   have I:mY 1 1 acc.length true none (some ⟨1,jX acc,true,false⟩) (some (jX b)):=by
    rw[aQ,f,j];exact⟨rfl,rfl,.inr ⟨by simp;omega,rfl⟩⟩
   have a:=e (H.gen 0 24)
   have t:jX (acc++b)=jX acc++jX b:=Fp ..
   rw[t]at a
   rw[show(acc++b).length=(jX acc).length+(jX b).length by rw[f,j,oT]]at a
   clear e f j ha t
   generalize jX acc=A at *
   generalize jX b=B at *
   simp[af,ah,ad,ae,aa, *,eL,l.r,l.idx,c.r,c.kR]
   exact a _ (by simp(maxDischargeDepth:=12) [ai.get_put,aq,aj,Fr.nil,aw,af,ah,ad,ae,ao,ak,aa, *]) (by simp) d
theorem R8{ps:List (List UInt8 × AV)}{x0:AV}(f:Sl 1 (ps.map (·.2)) x0)(hp : ∀p∈ps,Sl 1 (jX p.1) p.2)(z:ps.length<100000)(E:(lC ps).length<1000000)(C:0<(lC ps).length){H:ai}{Q:AV->ai->Prop}
 (a : ∀H',Fr H'->H'.get ⟨0,24,H.gen 0 24,0⟩=some ⟨1,[],true,false⟩->bN env Tryz.f209 0 dn [(27,aI 0),(6,.cL ⟨0,24,H.gen 0 24,0⟩ 0 0 none),(25,x0),(26,aI ps.length)] H' Q) :
 ∀(s:List (List UInt8 × AV)) (k:Nat) (i n:Int),ps.drop k=s->k<=ps.length->i=k->0<=n->n+(lC s).length=(lC ps).length->Fr H ->
 bN env Tryz.f209 0 dz [(11,aI i),(3,aI n),(9,x0),(0,x0),(10,aI ps.length)] H Q:=by
 intro s
 induction s with
 | nil=>
  rintro k i n hs hk rfl hn0 hn hF
  obtain rfl:=drop_nil hs hk
  refine lZ _ _ _ _ _ _ _ λg=>?_
  have m:n=(lC ps).length:=by simpa [lC] using hn
  have y:=Zl n (by omega) (by omega)
  have h:(ps.map (·.2)).length=ps.length:=by simp
  clear m hn hp
  simp[af,ah,ad,ae,aa, *,iu,f.r]
  exact a _ (by simp(maxDischargeDepth:=12) [ai.get_put,aq,aj,Fr.nil,aw,af,ah,ad,ae,ao,ak,aa, *]) (by simp)
 | cons p s q=>
  rintro k i n hs hk rfl hn0 hn hF
  obtain⟨w,t,l,e⟩:=drop_cons hs
  have c:=hp p (by rw[<-t];exact lY _)
  obtain⟨b,x⟩:=p
  simp only at c
  have j:lC ((b,x) :: s)=b++lC s:=rfl
  rw[j,oT]at hn
  have A:=IntWalk.i64_in ((k:Int)+1) (by omega)
  have D:=IntWalk.i64_in (n+(b.length:Int)) (by omega)
  have v:bX (ps.map (·.2)) k 0 1 false=some x:=by simp[e,c.r]
  have h:(ps.map (·.2)).length=ps.length:=by simp
  have u:(jX b).length=b.length:=by simp
  have o : ¬n+(b.length:Int)<0:=by omega
  have d:=q (k+1) ((k:Int)+1) (n+(b.length:Int)) l (by omega) (by simp) (by omega) (by omega) hF
  refine lZ _ _ _ _ _ _ _ λg=>?_
  clear q a hp hs hn
  simp[af,ah,ad,ae,aa, *,iu,f.r,f.idx,c.r]
  all_goals exact d
theorem Lx{ps:List (List UInt8 × AV)}{x0:AV}(c:Sl 1 (ps.map (·.2)) x0)(hp : ∀p∈ps,Sl 1 (jX p.1) p.2)(i:ps.length<100000)(h:(lC ps).length<1000000)(m:0<(lC ps).length):aF env 209 [x0]=some (.fsl 1 (jX (lC ps)) none):=by
 refine aG rfl (by kernel_rfl) (tx _ _ _ λg=>?_)
 have o:(ps.map (·.2)).length=ps.length:=by simp
 have l:=c.len
 have d:(jX (lC ps)).length=(lC ps).length:=by simp
 have n:=λH' Q e f=>R7 c hp i h (Q:=Q) ps 0 0 [] 0 H' rfl (by omega) rfl (by simp) e f
 have k:=λQ a=>R8 c hp i h m (H:=[]) (Q:=Q) a ps 0 0 0 rfl (by omega) rfl (by omega) (by omega) Fr.nil
 clear hp
 simp[af,ah,ad,ae,aa, *,mM,c.r]
 refine k _ λH' e f=>n H' _ e f λq j b=>?_
 rw[vS]at b ⊢
 rw[<-d]
 generalize jX (lC ps)=B at *
 simp[b]
end Go.Proofs.YtmkmimgokagimaaGreat
