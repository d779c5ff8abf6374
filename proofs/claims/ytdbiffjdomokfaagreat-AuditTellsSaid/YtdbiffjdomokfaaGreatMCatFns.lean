/-
  What is to be shown of each function, computed from its code. No statement of a seat is proved here.
-/
import Derived.Test.YtdbiffjdomokfaaGreatMAuVc8
set_option linter.unusedVariables false
set_option linter.unusedSimpArgs false
set_option linter.unusedSectionVars false
set_option linter.unnecessarySimpa false
set_option maxRecDepth 1000000
namespace Go.Proofs.YtdbiffjdomokfaaGreat
open Go.Ab
variable(dep:Nat)(g:Nat->AV)(x0 x1 x2 x3:AV)(H:ai)(Q:AV->ai->Prop)
noncomputable def w8:Code:=(Tryz.f13.body).getD .skip
noncomputable def eW:=rV Tryz.f13 3
def pk:Nat->Option (List Nat):=λi=>cond (Nat.beq i 3) (some [8,1,7,2,3]) (none)
def lF(g:Nat->AV)(x0 x1 x2:AV)(H:ai)(Q:AV->ai->Prop):Prop:=
 bH H 3 29 x0 λv1 a=>
  bB env Tryz.f13 0 eW [(8,(.v (.int .i64 0))),(1,x1),(7,(.v (.int .i64 0))),(2,x2),(3,v1)] a Q
theorem wJ(x0 x1 x2:AV)(H:ai)(Q:AV->ai->Prop)(h : ∀g,lF g x0 x1 x2 H Q):dX Tryz.f13 0 [(0,x0),(1,x1),(2,x2)] H Q:=tV pk (by kernel_rfl) h
def gV(g:Nat->AV)(i x1 w x2 x3:AV)(H:ai)(Q:AV->ai->Prop):Prop:=
 eR H 11 31 x1 λv1=>
 dG 3 9 11 i v1 λv2=>
 gQ v2 true (bg i) λy=>
 gQ v2 true (B5 3 14 300 y) λz=>
 bG v2 z λx=>
 br (some x) (
 bC H 31 x1 i λl=>
 ar 56 l 2 λd=>
 ar 50 d 3 λn=>
 ar 47 n 1 λk=>
 aq H 3 k λb=>
 hZ (ck env.P true (ai.get H) (Ref.mk 0 27 (ai.gen H 0 27) 0) .max #[3,3] [b,(.v (.int .i64 0))]) λf=>
 hZ (ck env.P true (ai.get H) (Ref.mk 0 28 (ai.gen H 0 28) 0) .min #[3,3] [f,(.v (.int .i64 100))]) λa=>
 bC H 31 x1 i λc=>
 ar 56 c 2 λe=>
 ar 50 e 6 λh=>
 aq H 48 h λm=>
 eR H 35 48 m λj=>
 hZ (ck env.P true (ai.get H) (Ref.mk 0 36 (ai.gen H 0 36) 0) .min #[3,3] [j,(.v (.int .i64 1000))]) λt=>
 KO H 37 3 3 a t λq=>
 p4 3 19 37 w q λo=>
 dz 3 17 1 i λp=>
  bB env Tryz.f13 0 eW [(8,p),(1,x1),(7,o),(2,x2),(3,x3)] H Q) (
 aq H 29 x3 λl=>
 bJ true H 40 25 [l] λd u=>
 gQ d false (bg x1) λn=>
 gQ d false (zn u 43 31 n) λk=>
 gQ d false (bg x2) λb=>
 gQ d false (Si 3 43 44 k b) λf=>
 ek d f λa=>
 gQ a false (bg w) λc=>
 gQ a false (zW 3 48 300 c) λe=>
 ek a e λh=>
 Q h u)
theorem nP(b x1 a x2 x3:AV)(H:ai)(Q:AV->ai->Prop)(h : ∀g,gV g b x1 a x2 x3 H Q):bB env Tryz.f13 0 eW [(8,b),(1,x1),(7,a),(2,x2),(3,x3)] H Q:=sc pk (by kernel_rfl) h
noncomputable def fS:=rV Tryz.f18 4
def og:Nat->Option (List Nat):=λi=>cond (Nat.beq i 4) (some [5,1,0]) (none)
def kF:Prop:=
 eR H 7 31 x0 λv1=>
 eR H 9 31 x1 λv2=>
 xf 3 7 9 v1 v2 λa=>
 br (some a) (
 Q (.v (.bool false)) H) (
  bB env Tryz.f18 0 fS [(5,(.v (.int .i64 0))),(1,x1),(0,x0)] H Q)
theorem uM(h : ∀g:ef,kF x0 x1 H Q):dX Tryz.f18 0 [(0,x0),(1,x1)] H Q:=tV og (by kernel_rfl) h
def fU(g:Nat->AV)(a x1 x0:AV)(H:ai)(Q:AV->ai->Prop):Prop:=
 eR H 13 31 x0 λv1=>
 dG 3 11 13 a v1 λv2=>
 br (some v2) (
 bC H 31 x0 a λh=>
 aq H 56 h λi=>
 bC H 31 x1 a λf=>
 aq H 56 f λe=>
 bJ false H 25 31 [i,e] λc b=>
 kK c λj=>
 br (some j) (
 Q (.v (.bool false)) b) (
 dz 3 15 1 a λd=>
  bB env Tryz.f18 0 fS [(5,d),(1,x1),(0,x0)] b Q)) (
 Q (.v (.bool true)) H)
theorem mV(a x1 x0:AV)(H:ai)(Q:AV->ai->Prop)(h : ∀g,fU g a x1 x0 H Q):bB env Tryz.f18 0 fS [(5,a),(1,x1),(0,x0)] H Q:=sc og (by kernel_rfl) h
noncomputable def Hj:Code:=(Tryz.f21.body).getD .skip
def AI:Prop:=
 bH H 3 29 x0 λv1 i=>
 bH i 5 35 x2 λv2 a=>
 aq a 29 v1 λd=>
 aq a 35 v2 λe=>
 bJ false a 11 33 [e] λc k=>
 hZ (xR (.func 34) (some []) (some [v2])) λl=>
 bJ true k 13 32 [d,x1,c,l] λb f=>
 bL b 0 λj=>
 bL b 1 λh=>
 Q (.tup [j,h]) f
theorem F2(h : ∀g:ef,AI x0 x1 x2 H Q):dX Tryz.f21 0 [(0,x0),(1,x1),(2,x2)] H Q:=iT (by kernel_rfl) h
def eQ:Prop:=
 bH H 2 56 x0 λv1 F=>
 bH F 3 56 x1 λv2 d=>
 ar 56 v1 0 λI=>
 aq d 5 I λJ=>
 ar 56 v2 0 λE=>
 aq d 5 E λD=>
 qG 5 6 8 J D λe=>
 gQ e true (az 56 v1 1) λG=>
 gQ e true (aD d 3 G) λC=>
 gQ e true (az 56 v2 1) λh=>
 gQ e true (aD d 3 h) λw=>
 gQ e true (jG 3 12 14 C w) λk=>
 bG e k λb=>
 gQ b true (az 56 v1 2) λv=>
 gQ b true (aD d 50 v) λB=>
 gQ b true (az 56 v2 2) λl=>
 gQ b true (aD d 50 l) λi=>
 gW b true d (fg true d 22 40 [B,i]) λu f=>
 bG b u λc=>
 gQ c true (az 56 v1 3) λp=>
 gQ c true (aD f 23 p) λt=>
 gQ c true (az 56 v2 3) λn=>
 gQ c true (aD f 23 n) λy=>
 gQ c true (jG 23 26 28 t y) λj=>
 bG c j λa=>
 gQ a true (az 56 v1 4) λo=>
 gQ a true (aD f 54 o) λz=>
 gQ a true (az 56 v2 4) λx=>
 gQ a true (aD f 54 x) λm=>
 gQ a true (jG 54 33 35 z m) λA=>
 bG a A λq=>
 Q q f
theorem xF(h : ∀g:ef,eQ x0 x1 H Q):dX Tryz.f31 0 [(0,x0),(1,x1)] H Q:=iT (by kernel_rfl) h
noncomputable def nk:Code:=(Tryz.f32.body).getD .skip
def iF:Prop:=
 np H dep 4 29 x0 λv1 b=>
 aq b 29 v1 λv2=>
 lQ (bF env true (aF env) (cE env (dep+1)) b (⟨(dep+1),15,ai.gen b (dep+1) 15,0⟩:Ref) (some (.fn (.func 35) [] [])) [v2,x1]) λd c=>
 bL d 0 λh=>
 bL d 1 λf=>
 kK f λl=>
 br (some l) (
 Q (.tup [(.v (.slice none 0 0)),(.v (.int .i64 8))]) c) (
 lW 23 21 0 x2 λi=>
 br (some i) (
 Q (.tup [(.v (.slice none 0 0)),x2]) c) (
 XJ dep c 27 x3 h λe k=>
 bL e 0 λj=>
 bL e 1 λa=>
 Q (.tup [j,a]) k))
theorem nd(h : ∀g:ef,iF dep x0 x1 x2 x3 H Q):dX Tryz.f32 (dep+1) [(0,x0),(1,x1),(2,x2),(3,x3)] H Q:=iT (by kernel_rfl) h
noncomputable def Ed:Code:=(Tryz.f34.body).getD .skip
noncomputable def kC:=rV Tryz.f34 2
def xX:Nat->Option (List Nat):=λi=>cond (Nat.beq i 2) (some [12,3,1,10,11]) (none)
def yn:Prop:=
 jF x0 λv1=>
 ar 92 v1 2 λv2=>
 aq H 31 v2 λa=>
 Fe H dep 11 31 a λb=>
  bB env Tryz.f34 (dep+1) kC [(12,(.v (.int .i64 0))),(3,(.v (.slice none 0 0))),(1,x1),(10,a),(11,b)] H Q
theorem DD(h : ∀g:ef,yn dep x0 x1 H Q):dX Tryz.f34 (dep+1) [(0,x0),(1,x1)] H Q:=tV xX (by kernel_rfl) h
def fX(dep:Nat)(g:Nat->AV)(a x3 x1 c b:AV)(H:ai)(Q:AV->ai->Prop):Prop:=
 dG 3 12 11 a b λv1=>
 br (some v1) (
 bC H 31 c a λv2=>
 aq H 56 v2 λA=>
 vL H dep 6 56 λi x=>
 aP x 56 i A λC f=>
 ar 56 i 0 λw=>
 aq f 5 w λy=>
 B4 5 17 y λe=>
 gQ e false (az 56 i 2) λu=>
 gQ e false (az 50 u 1) λj=>
 gQ e false (az 40 j 0) λq=>
 gQ e false (aD f 35 q) λl=>
 gQ e false (aD f 35 x1) λm=>
 gW e false f (XM dep f 25 l m) λp h=>
 ek e p λt=>
 br (some t) (
 aq h 56 i λd=>
 lQ (oS env.P false true h (⟨(dep+1),29,ai.gen h (dep+1) 29,0⟩:Ref) 31 1 (some [(0,d)])) λk z=>
 Pu z dep 30 31 31 x3 k λo B=>
 dz 3 12 1 a λn=>
  bB env Tryz.f34 (dep+1) kC [(12,n),(3,o),(1,x1),(10,c),(11,b)] B Q) (
 dz 3 12 1 a λd=>
  bB env Tryz.f34 (dep+1) kC [(12,d),(3,x3),(1,x1),(10,c),(11,b)] h Q)) (
 Q (.tup [x3,(.v (.int .i64 0))]) H)
theorem uI(dep:Nat)(c x3 x1 b a:AV)(H:ai)(Q:AV->ai->Prop)(h : ∀g,fX dep g c x3 x1 b a H Q):bB env Tryz.f34 (dep+1) kC [(12,c),(3,x3),(1,x1),(10,b),(11,a)] H Q:=sc xX (by kernel_rfl) h
noncomputable def KH:Code:=(Tryz.f35.body).getD .skip
noncomputable def kB:=rV Tryz.f35 6
def CT:Nat->Option (List Nat):=λi=>cond (Nat.beq i 6) (some [28,6,7,26,27]) (none)
def ui:Prop:=
 np H dep 2 29 x0 λv1 j=>
 aq j 29 v1 λv2=>
 lQ (bF env true (aF env) (cE env (dep+1)) j (⟨(dep+1),11,ai.gen j (dep+1) 11,0⟩:Ref) (some (.fn (.func 41) [] [])) [v2]) λw a=>
 lW 23 11 0 w λb=>
 gQ b false (bg x1) λu=>
 gQ b false (XG a dep 15 31 u) λt=>
 gQ b false (zW 3 15 2048 t) λo=>
 ek b o λy=>
 br (some y) (
 Q (.tup [(.v (.pointer none)),(.v (.bool false))]) a) (
 aq a 29 v1 λq=>
 aq a 29 v1 λc=>
 lQ (mY env false (aF env) (cE env (dep+1)) a (⟨(dep+1),20,ai.gen a (dep+1) 20,0⟩:Ref) (some (.fn (.func 42) [] [])) [c]) λk z=>
 Ss z dep 21 λh p=>
 Ss p dep 22 λe x=>
 hZ (lx env.P 92 (some [(0,q),(1,k),(3,h),(4,e)])) λf=>
 np x dep 24 92 f λl n=>
 lQ (bF env true (aF env) (cE env (dep+1)) n (⟨(dep+1),25,ai.gen n (dep+1) 25,0⟩:Ref) (some (.fn (.func 43) [] [])) []) λi m=>
 Fe m dep 27 31 x1 λd=>
  bB env Tryz.f35 (dep+1) kB [(28,(.v (.int .i64 0))),(6,l),(7,i),(26,x1),(27,d)] m Q)
theorem JM(h : ∀g:ef,ui dep x0 x1 H Q):dX Tryz.f35 (dep+1) [(0,x0),(1,x1)] H Q:=tV CT (by kernel_rfl) h
def rG(dep:Nat)(g:Nat->AV)(b d F h i:AV)(H:ai)(Q:AV->ai->Prop):Prop:=
 dG 3 28 27 b i λv1=>
 br (some v1) (
 bC H 31 h b λv2=>
 aq H 56 v2 λv3=>
 vL H dep 9 56 λc U=>
 aP U 56 c v3 λv5 M=>
 aq M 56 c λS=>
 lQ (bF env true (aF env) (cE env (dep+1)) M (⟨(dep+1),33,ai.gen M (dep+1) 33,0⟩:Ref) (some (.fn (.func 44) [] [])) [S]) λY e=>
 lW 23 33 0 Y λa=>
 gQ a false (bg F) λR=>
 gQ a false (az 56 c 0) λk=>
 gQ a false (aD e 5 k) λG=>
 gQ a false (eT env.P (ai.get e) 102 (some R) (some G) false) λm=>
 gQ a false (B2 108 m 0) λw=>
 gQ a false (bg d) λD=>
 gQ a false (aD e 56 c) λN=>
 gW a false e (bF env true (aF env) (cE env (dep+1)) e (⟨(dep+1),43,ai.gen e (dep+1) 43,0⟩:Ref) (some w) [D,N]) λn f=>
 gQ a false (rX n) λl=>
 ek a l λB=>
 br (some B) (
 Q (.tup [(.v (.pointer none)),(.v (.bool false))]) f) (
 ar 56 c 0 λA=>
 aq f 5 A λx=>
 B3 f 102 F x λy=>
 hZ (uV env.P 108 (some y) 1) λp=>
 aq f 56 c λJ=>
 lQ (bF env true (aF env) (cE env (dep+1)) f (⟨(dep+1),53,ai.gen f (dep+1) 53,0⟩:Ref) (some p) [d,J]) λO j=>
 jF d λu=>
 ar 92 u 2 λt=>
 aq j 31 t λK=>
 aq j 56 c λI=>
 lQ (bF env false (aF env) (cE env (dep+1)) j (⟨(dep+1),60,ai.gen j (dep+1) 60,0⟩:Ref) (some (.fn (.func 45) [] [])) [I]) λo W=>
 Sm W dep 61 31 1 0 o λL Z=>
 Pu Z dep 62 31 31 K L λz T=>
 jF d λq=>
 ar 92 q 2 λC=>
 aP T 31 C z λV X=>
 dz 3 28 1 b λE=>
  bB env Tryz.f35 (dep+1) kB [(28,E),(6,d),(7,F),(26,h),(27,i)] X Q)) (
 Q (.tup [d,(.v (.bool true))]) H)
theorem uH(dep:Nat)(b d e a c:AV)(H:ai)(Q:AV->ai->Prop)(h : ∀g,rG dep g b d e a c H Q):bB env Tryz.f35 (dep+1) kB [(28,b),(6,d),(7,e),(26,a),(27,c)] H Q:=sc CT (by kernel_rfl) h
noncomputable def Dc:Code:=(Tryz.f71.body).getD .skip
def wD:Prop:=
 np H dep 3 56 x1 λv1 y=>
 ar 56 v1 2 λv2=>
 ar 50 v2 1 λD=>
 ar 40 D 0 λE=>
 aq y 35 E λA=>
 XO dep y 13 x0 A λx b=>
 bL x 0 λC=>
 bL x 1 λF=>
 jF x0 λz=>
 ar 92 z 3 λd=>
 aq b 88 d λq=>
 ar 56 v1 2 λf=>
 ar 50 f 1 λk=>
 aq b 40 k λp=>
 B3 b 88 q p λw=>
 hZ (uV env.P 119 (some w) 0) λh=>
 kK h λa=>
 gQ a true (bg x0) λo=>
 gQ a true (az 56 v1 1) λn=>
 gQ a true (aD b 3 n) λl=>
 gQ a true (az 56 v1 2) λm=>
 gQ a true (az 50 m 1) λi=>
 gQ a true (az 40 i 0) λu=>
 gQ a true (aD b 35 u) λe=>
 gW a true b (bF env true (aF env) (cE env (dep+1)) b (⟨(dep+1),34,ai.gen b (dep+1) 34,0⟩:Ref) (some (.fn (.func 73) [] [])) [o,l,e]) λj B=>
 bG a j λc=>
 gQ c true (bg C) λv=>
 bG c v λt=>
 Q t B
theorem Ck(h : ∀g:ef,wD dep x0 x1 H Q):dX Tryz.f71 (dep+1) [(0,x0),(1,x1)] H Q:=iT (by kernel_rfl) h
noncomputable def qC:Code:=(Tryz.f72.body).getD .skip
def kQ:Prop:=
 np H dep 3 35 x1 λv1 i=>
 jF x0 λv2=>
 ar 92 v2 0 λD=>
 aq i 29 D λE=>
 aq i 35 v1 λA=>
 XS dep i 15 E A λx G=>
 bL x 0 λC=>
 bL x 1 λI=>
 vL G dep 6 76 λe B=>
 aP B 76 e C λy c=>
 jF x0 λt=>
 ar 92 t 4 λf=>
 aq c 89 f λl=>
 aq c 35 v1 λq=>
 B3 c 89 l q λw=>
 vL c dep 8 76 λa F=>
 aP F 76 a w λz b=>
 ar 76 a 1 λp=>
 aq b 3 p λo=>
 ar 76 e 1 λm=>
 aq b 3 m λn=>
 dG 3 25 27 o n λh=>
 ar 76 a 2 λu=>
 aq b 3 u λd=>
 ar 76 e 2 λk=>
 aq b 3 k λj=>
 dG 3 30 32 d j λv=>
 Q (.tup [h,v]) b
theorem qz(h : ∀g:ef,kQ dep x0 x1 H Q):dX Tryz.f72 (dep+1) [(0,x0),(1,x1)] H Q:=iT (by kernel_rfl) h
noncomputable def rz:Code:=(Tryz.f73.body).getD .skip
def hX:Prop:=
 np H dep 5 35 x2 λv1 a=>
 jF x0 λv2=>
 ar 92 v2 1 λh=>
 aq a 29 h λi=>
 aq a 35 v1 λf=>
 lQ (bF env false (aF env) (cE env (dep+1)) a (⟨(dep+1),16,ai.gen a (dep+1) 16,0⟩:Ref) (some (.fn (.func 93) [] [])) [i,x1,f]) λe l=>
 bL e 0 λj=>
 bL e 1 λk=>
 uw 23 19 0 k λd=>
 gQ d true (bg j) λb=>
 bG d b λc=>
 Q c l
theorem qN(h : ∀g:ef,hX dep x0 x1 x2 H Q):dX Tryz.f73 (dep+1) [(0,x0),(1,x1),(2,x2)] H Q:=iT (by kernel_rfl) h
noncomputable def Db:Code:=(Tryz.f74.body).getD .skip
def wC:Prop:=
 np H dep 3 56 x1 λv1 b=>
 jF x0 λv2=>
 ar 92 v2 3 λR=>
 aq b 88 R λS=>
 ar 56 v1 2 λG=>
 ar 50 G 1 λF=>
 aq b 40 F λM=>
 ar 56 v1 1 λJ=>
 aq b 3 J λE=>
 hZ (lx env.P 119 (some [(0,(.v (.bool true))),(1,E)])) λe=>
 lQ (dM env.P b 88 (some S) (some M) (some e)) λT d=>
 jF x0 λi=>
 ar 92 i 4 λp=>
 aq d 89 p λx=>
 ar 56 v1 2 λC=>
 ar 50 C 1 λj=>
 ar 40 j 0 λf=>
 aq d 35 f λu=>
 B3 d 89 x u λt=>
 vL d dep 4 76 λa K=>
 aP K 76 a t λN D=>
 ar 76 a 1 λl=>
 aq D 3 l λz=>
 dz 3 25 1 z λh=>
 ar 76 a 1 λo=>
 aP D 3 o h λI c=>
 jF x0 λA=>
 ar 92 A 4 λy=>
 aq c 89 y λk=>
 ar 56 v1 2 λB=>
 ar 50 B 1 λq=>
 ar 40 q 0 λm=>
 aq c 35 m λw=>
 aq c 76 a λn=>
 lQ (dM env.P c 89 (some k) (some w) (some n)) λO L=>
 Q (.v (.tuple #[])) L
theorem Cj(h : ∀g:ef,wC dep x0 x1 H Q):dX Tryz.f74 (dep+1) [(0,x0),(1,x1)] H Q:=iT (by kernel_rfl) h
noncomputable def Da:Code:=(Tryz.f75.body).getD .skip
def wB:Prop:=
 np H dep 3 56 x1 λv1 l=>
 jF x0 λv2=>
 ar 92 v2 3 λv3=>
 aq l 88 v3 λv4=>
 ar 56 v1 2 λW=>
 ar 50 W 1 λV=>
 aq l 40 V λZ=>
 B3 l 88 v4 Z λY=>
 vL l dep 5 119 λk H2=>
 aP H2 119 k Y λU S=>
 ar 56 v1 2 λM=>
 ar 50 M 1 λv=>
 ar 40 v 0 λD=>
 aq S 35 D λL=>
 XO dep S 22 x0 L λj e=>
 bL j 0 λX=>
 bL j 1 λm=>
 ar 119 k 0 λI=>
 aq e 4 I λa=>
 gQ a true (bg x0) λE=>
 gQ a true (az 119 k 1) λF=>
 gQ a true (aD e 3 F) λy=>
 gQ a true (az 56 v1 2) λN=>
 gQ a true (az 50 N 1) λt=>
 gQ a true (az 40 t 0) λC=>
 gQ a true (aD e 35 C) λA=>
 gW a true e (mY env true (aF env) (cE env (dep+1)) e (⟨(dep+1),35,ai.gen e (dep+1) 35,0⟩:Ref) (some (.fn (.func 73) [] [])) [E,y,A]) λO d=>
 bG a O λc=>
 gQ c true (az 56 v1 2) λx=>
 gQ c true (az 50 x 2) λR=>
 gQ c true (aD d 3 R) λG=>
 gQ c true (az 119 k 2) λz=>
 gQ c true (aD d 3 z) λK=>
 gQ c true (XK 3 42 1 K) λh=>
 gQ c true (jG 3 40 43 G h) λi=>
 bG c i λf=>
 gQ f true (bg m) λJ=>
 bG f J λb=>
 gQ b true (az 56 v1 3) λp=>
 gQ b true (aD d 23 p) λw=>
 gQ b true (bg x0) λP=>
 gQ b true (az 56 v1 2) λB=>
 gQ b true (aD d 50 B) λn=>
 gW b true d (mY env true (aF env) (cE env (dep+1)) d (⟨(dep+1),55,ai.gen d (dep+1) 55,0⟩:Ref) (some (.fn (.func 76) [] [])) [P,n]) λq T=>
 gQ b true (jG 23 51 55 w q) λo=>
 bG b o λu=>
  mQ [(i,h)] [] [] T /\
 (Q u T)
theorem Ci(h : ∀g:ef,wB dep x0 x1 H Q):dX Tryz.f75 (dep+1) [(0,x0),(1,x1)] H Q:=iT (by kernel_rfl) h
noncomputable def oZ:Code:=(Tryz.f76.body).getD .skip
def cL:Prop:=
 np H dep 3 50 x1 λv1 e=>
 jF x0 λv2=>
 ar 92 v2 5 λU=>
 aq e 90 U λV=>
 aq e 50 v1 λL=>
 lQ (bF env false (aF env) (cE env (dep+1)) e (⟨(dep+1),13,ai.gen e (dep+1) 13,0⟩:Ref) (some (.fn (.func 94) [] [])) [V,L]) λJ f=>
 lW 23 14 0 J λR=>
 br (some R) (
 Q J f) (
 jF x0 λN=>
 ar 92 N 0 λK=>
 aq f 29 K λh=>
 ar 50 v1 1 λC=>
 ar 40 C 0 λj=>
 aq f 35 j λu=>
 XS dep f 25 h u λd O=>
 bL d 0 λI=>
 bL d 1 λM=>
 vL O dep 6 76 λc S=>
 aP S 76 c I λT b=>
 ar 50 v1 0 λy=>
 aq b 5 y λw=>
 vJ 5 29 w λa=>
 gQ a true (bg x0) λl=>
 gQ a true (LM (some l)) λE=>
 gQ a true (az 92 E 4) λi=>
 gQ a true (aD b 89 i) λt=>
 gQ a true (az 50 v1 1) λn=>
 gQ a true (az 40 n 0) λF=>
 gQ a true (aD b 35 F) λD=>
 gQ a true (eT env.P (ai.get b) 89 (some t) (some D) false) λk=>
 gQ a true (B2 76 k 3) λG=>
 gQ a true (az 50 v1 3) λx=>
 gQ a true (az 47 x 1) λm=>
 gQ a true (aD b 3 m) λA=>
 gQ a true (Pq 3 40 43 G A) λq=>
 gQ a true (az 76 c 3) λB=>
 gQ a true (aD b 3 B) λo=>
 gQ a true (Si 3 44 46 q o) λz=>
 bG a z λp=>
 br (some p) (
 Q (.v (.int .i64 9)) b) (
 Q (.v (.int .i64 0)) b))
theorem oX(h : ∀g:ef,cL dep x0 x1 H Q):dX Tryz.f76 (dep+1) [(0,x0),(1,x1)] H Q:=iT (by kernel_rfl) h
noncomputable def wx:Code:=(Tryz.f77.body).getD .skip
def jA:Prop:=
 np H dep 3 56 x1 λv1 C=>
 jF x0 λv2=>
 ar 92 v2 3 λv3=>
 aq C 88 v3 λv4=>
 ar 56 v1 2 λv5=>
 ar 50 v5 1 λv6=>
 aq C 40 v6 λv7=>
 B3 C 88 v4 v7 λv8=>
 jF x0 λv9=>
 ar 92 v9 4 λv10=>
 aq C 89 v10 λv11=>
 ar 56 v1 2 λv12=>
 ar 50 v12 1 λv13=>
 ar 40 v13 0 λv14=>
 aq C 35 v14 λv15=>
 B3 C 89 v11 v15 λv16=>
 vL C dep 4 119 λc H2=>
 vL H2 dep 5 76 λa H3=>
 aP H3 119 c v8 λv19 H4=>
 aP H4 76 a v16 λv20 H5=>
  mQ [(v10,c),(v14,c),(v11,c)] [c,a] [] H5 /\
 (ar 119 c 2 λv21=>
 aq H5 3 v21 λv22=>
 dz 3 24 1 v22 λv23=>
 ar 119 c 2 λv24=>
 aP H5 3 v24 v23 λv25 H6=>
 ar 76 a 2 λv26=>
 aq H6 3 v26 λv27=>
 dz 3 28 1 v27 λv28=>
 ar 76 a 2 λv29=>
 aP H6 3 v29 v28 λv30 i=>
 ar 56 v1 3 λv31=>
 aq i 23 v31 λv32=>
 uw 23 32 0 v32 λv33=>
 br (some v33) (
 jF x0 λE=>
 ar 92 E 5 λW=>
 aq i 90 W λh=>
 ar 56 v1 2 λJ=>
 aq i 50 J λD=>
 lQ (bF env false (aF env) (cE env (dep+1)) i (⟨(dep+1),41,ai.gen i (dep+1) 41,0⟩:Ref) (some (.fn (.func 78) [] [])) [D]) λR H8=>
 Sm H8 dep 42 90 1 0 R λS H9=>
 Pu H9 dep 43 90 90 h S λX F=>
 jF x0 λm=>
 ar 92 m 5 λw=>
 aP F 90 w X λZ b=>
 ar 56 v1 2 λo=>
 ar 50 o 0 λz=>
 aq b 5 z λV=>
 vJ 5 48 V λx=>
 br (some x) (
 ar 76 a 3 λj=>
 aq b 3 j λk=>
 ar 56 v1 2 λf=>
 ar 50 f 3 λn=>
 ar 47 n 1 λl=>
 aq b 3 l λt=>
 p4 3 51 55 k t λY=>
 ar 76 a 3 λN=>
 aP b 3 N Y λu d=>
 jF x0 λK=>
 ar 92 K 3 λA=>
 aq d 88 A λe=>
 ar 56 v1 2 λM=>
 ar 50 M 1 λL=>
 aq d 40 L λO=>
 jF x0 λP=>
 ar 92 P 4 λy=>
 aq d 89 y λp=>
 ar 56 v1 2 λI=>
 ar 50 I 1 λT=>
 ar 40 T 0 λB=>
 aq d 35 B λv70=>
 aq d 119 c λv71=>
 aq d 76 a λv72=>
 Ig d 88 e O λv73 U=>
 bL v73 1 λv74=>
 Ih U e v74 v71 λv75 G=>
 Ig G 89 p v70 λv76 q=>
 bL v76 1 λv77=>
 Ih q p v77 v72 λv78 H16=>
  mQ [(B,e),(c,e),(a,e),(a,p)] [] [] H16 /\
 (Q (.v (.tuple #[])) H16)) (
 jF x0 λj=>
 ar 92 j 3 λk=>
 aq b 88 k λf=>
 ar 56 v1 2 λn=>
 ar 50 n 1 λl=>
 aq b 40 l λt=>
 jF x0 λY=>
 ar 92 Y 4 λN=>
 aq b 89 N λu=>
 ar 56 v1 2 λK=>
 ar 50 K 1 λA=>
 ar 40 A 0 λe=>
 aq b 35 e λM=>
 aq b 119 c λL=>
 aq b 76 a λO=>
 Ig b 88 f t λP d=>
 bL P 1 λy=>
 Ih d f y L λp U=>
 Ig U 89 u M λI G=>
 bL I 1 λT=>
 Ih G u T O λB q=>
  mQ [(e,f),(c,f),(a,f),(a,u)] [] [] q /\
 (Q (.v (.tuple #[])) q))) (
 jF x0 λE=>
 ar 92 E 3 λW=>
 aq i 88 W λh=>
 ar 56 v1 2 λJ=>
 ar 50 J 1 λD=>
 aq i 40 D λR=>
 jF x0 λS=>
 ar 92 S 4 λX=>
 aq i 89 X λm=>
 ar 56 v1 2 λw=>
 ar 50 w 1 λZ=>
 ar 40 Z 0 λo=>
 aq i 35 o λz=>
 aq i 119 c λV=>
 aq i 76 a λx=>
 Ig i 88 h R λj H8=>
 bL j 1 λk=>
 Ih H8 h k V λf H9=>
 Ig H9 89 m z λn F=>
 bL n 1 λl=>
 Ih F m l x λt b=>
  mQ [(o,h),(c,h),(a,h),(a,m)] [] [] b /\
 (Q (.v (.tuple #[])) b)))
theorem vS(h : ∀g:ef,jA dep x0 x1 H Q):dX Tryz.f77 (dep+1) [(0,x0),(1,x1)] H Q:=iT (by kernel_rfl) h
noncomputable def C9:Code:=(Tryz.f79.body).getD .skip
def rH:Prop:=
 np H dep 3 56 x1 λv1 c=>
 jF x0 λv2=>
 ar 92 v2 1 λj=>
 aq c 29 j λk=>
 ar 56 v1 4 λi=>
 aq c 54 i λh=>
 XR dep c 14 k h λd o=>
 bL d 0 λm=>
 bL d 1 λf=>
 vL o dep 5 29 λa n=>
 aP n 29 a m λl e=>
 uw 23 17 0 f λb=>
 Q b e
theorem Ch(h : ∀g:ef,rH dep x0 x1 H Q):dX Tryz.f79 (dep+1) [(0,x0),(1,x1)] H Q:=iT (by kernel_rfl) h
noncomputable def C8:Code:=(Tryz.f81.body).getD .skip
def wA:Prop:=
 np H dep 3 56 x1 λv1 b=>
 jF x0 λv2=>
 ar 92 v2 1 λf=>
 aq b 29 f λh=>
 ar 56 v1 4 λe=>
 aq b 54 e λm=>
 XR dep b 12 h m λd l=>
 bL d 0 λj=>
 bL d 1 λn=>
 jF x0 λa=>
 ar 92 a 1 λc=>
 aP l 29 c j λi k=>
 Q (.v (.tuple #[])) k
theorem Cg(h : ∀g:ef,wA dep x0 x1 H Q):dX Tryz.f81 (dep+1) [(0,x0),(1,x1)] H Q:=iT (by kernel_rfl) h
end Go.Proofs.YtdbiffjdomokfaaGreat
namespace Go.Proofs.YtdbiffjdomokfaaGreat
open Go.Ab
variable(dep:Nat)(g:Nat->AV)(x0 x1 x2:AV)(H:ai)(Q:AV->ai->Prop)
noncomputable def cM:=rV Tryz.f4 5
def mE:Nat->Option (List Nat):=λi=>cond (Nat.beq i 5) (some [8,1,7,5,3]) (none)
def jo:Prop:=
 bH H 3 29 x0 λv1 e=>
 bH e 5 35 x2 λv2 b=>
 aq b 29 v1 λc=>
 bJ true b 19 13 [c,x1,(.v (.int .i64 25))] λd a=>
 br (some d) (
 Q (.v (.bool true)) a) (
  bB env Tryz.f4 0 cM [(8,(.v (.int .i64 0))),(1,x1),(7,(.v (.slice none 0 0))),(5,v2),(3,v1)] a Q)
theorem s7(h : ∀g:ef,jo x0 x1 x2 H Q):dX Tryz.f4 0 [(0,x0),(1,x1),(2,x2)] H Q:=tV mE (by kernel_rfl) h
def bN(g:Nat->AV)(v x1 q l k:AV)(H:ai)(Q:AV->ai->Prop):Prop:=
 eR H 22 31 x1 λv1=>
 dG 3 20 22 v v1 λv2=>
 br (some v2) (
 bC H 31 x1 v λT=>
 aq H 56 T λU=>
 bJ true H 31 14 [U] λo h=>
 rY h 32 31 1 0 o λx m=>
 lL m 33 31 31 q x λM J=>
 dz 3 24 1 v λF=>
  bB env Tryz.f4 0 cM [(8,F),(1,x1),(7,M),(5,l),(3,k)] J Q) (
 aq H 29 k λT=>
 aq H 35 l λU=>
 bJ true H 38 10 [T,q,U] λo h=>
 bL o 0 λx=>
 bL o 1 λM=>
 aq h 29 k λF=>
 aq h 35 l λv9=>
 bJ true h 45 15 [F,x1,v9] λe m=>
 bL e 0 λW=>
 bL e 1 λy=>
 aq m 29 k λL=>
 aq m 35 l λS=>
 bJ true m 52 7 [L,q,S] λn J=>
 bL n 0 λA=>
 bL n 1 λt=>
 eg J 13 22 λj H4=>
 aP H4 22 j A λv19 V=>
 aq V 29 k λN=>
 aq V 35 l λO=>
 bJ true V 59 16 [N,x1,O] λf H6=>
 bL f 0 λY=>
 bL f 1 λw=>
 eg H6 15 22 λi H7=>
 aP H7 22 i Y λv26 H8=>
 bJ true H8 64 17 [x,W] λd p=>
 gQ d true (bg M) λX=>
 gQ d true (bg y) λB=>
 gQ d true (jG 3 66 67 X B) λv30=>
 bG d v30 λb=>
 gQ b true (aD p 22 j) λC=>
 gQ b true (aD p 22 i) λR=>
 gQ b true (jG 22 71 72 C R) λI=>
 bG b I λc=>
 gQ c true (bg t) λD=>
 gQ c true (bg w) λP=>
 gQ c true (jG 3 76 77 D P) λE=>
 bG c E λa=>
 gQ a true (bg q) λz=>
 gQ a true (bg x1) λZ=>
 gW a true p (fg true p 83 18 [z,Z]) λG K=>
 bG a G λu=>
 Q u K)
theorem iq(c x1 a d b:AV)(H:ai)(Q:AV->ai->Prop)(h : ∀g,bN g c x1 a d b H Q):bB env Tryz.f4 0 cM [(8,c),(1,x1),(7,a),(5,d),(3,b)] H Q:=sc mE (by kernel_rfl) h
end Go.Proofs.YtdbiffjdomokfaaGreat
namespace Go.Ab
def nK(a b:ib):Bool:=decide (a.lv<=b.lv)&&decide (a.cats &&& ~~~b.cats=0)
def jU(l:List ib):List AV:=l.map λa => .agg [a8 a.lv,aw a.cats]
@[simp] theorem Ml(l:List ib):(jU l).length=l.length:=by simp[jU]
theorem RH(l:List ib)(a:UInt8)(b:UInt32):jU l++[.agg [a8 a,aw b]]=jU (l++[⟨a,b⟩]):=by simp[jU]
@[simp] theorem Kn(l:List ib):jU l=[]↔l=[]:=by simp[jU]
def hasB(s:vu)(i:bR):Bool:=eN s&&(decide (s.f.h=i.h)&&(decide (s.f.n<=i.n)&&decide (i.n<s.f.n+s.many)))
def KC(o:aN):ib:=⟨o.h.lv,o.h.cats⟩
def No(i:bR):ib:=⟨i.h.lv,i.h.cats⟩
def jT(o:aN)(i:bR)(v:ib):Bool:=decide (o.kind=3)&&(hasB o.s i&&nK (KC o) v)
def rW(out:List ib)(t:ib):List ib:=if t∈out then out else out++[t]
def uZ(out:List ib)(l:List aN)(i:bR)(v:ib):List ib:=l.foldl (λout o=>if jT o i v then rW out o.to else out) out
def ph(l:List aN)(i:bR)(v:ib):List ib:=uZ [No i] l i v
def kD(l:List aN)(o:aN):Bool:=if o.kind=3 then nK (KC o) o.to&&(List.range o.s.many.toNat).all (λk=>decide (KC o∈ph l ⟨o.s.f.h,o.s.f.n+(k:Int)⟩ (KC o))) else true
def lu:List aN->List aN->Bool
 | _,[]=>true
 | l,o :: s=>mK o&&kD l o&&lu (l++[o]) s
def pU(l:List aN):Int:=if 2048<l.length then 4 else if lu [] l then 0 else 8
def lpO(o:Option bA):Option (Nat × AV):=match o with
 | some ⟨0,[.v (.int .i64 st),inf],_,_⟩=>some (st.toNat,inf)
 | _=>none
theorem we(H:ai)(r:Ref):yZ H r=lpO (H.get r):=rfl
@[simp] theorem CV(st:Nat)(a:AV):lpO (some (kz st a))=some (st,a):=by
 simp[lpO,kz]
theorem Vh(a:AV)(K:AV->Prop)(m:Mk K):bgP (some (0,a)) K m↔K a:=by
 constructor
 ·rintro⟨info,e,h⟩
  simp only[dR,xk,true_and]at e
  subst e;exact h
 ·intro h;exact⟨a,rfl,h⟩
attribute [simp] Vh
theorem UB(H:ai)(r:Ref)(st:Nat)(a:AV):yZ (H.put r (some (kz st a))) r=some (st,a):=by
 rw[we,ai.get_put,if_pos rfl,CV]
theorem RG{E:Env}{fn:Func}{dep nt:Nat}{r:Ref}{f:FuncId}{ps:List Tmp}{assign body:Code}{tm:List AV}{args:List AV}{H:ai}{Q:AV->ai->Prop}
 (k:H.get r=some (kz 0 (.lp f nt ps assign body tm))) (b:fn.ntmps=nt) (hp:args.length=ps.length) (c:ps.all (· < nt)=true) (e:codeOk E.ok assign=true) (d:codeOk E.ok body=true)
 (h:Goes E fn (some r) (dep+1) [.code assign,.beginRound,.code body] (cY (wU tm ps args)) H λx H'=>x = .v (.int .i64 0) /\∃a,H'.get r=some (kz 1 a)/\Q (.v (.bool true)) (H'.put r (some (kz 0 a)))) :
 ∃y H',cE E dep (.yld r) args H=some (y,H')/\Q y H':=by
 refine UF (by rw[we,k];exact CV _ _) b hp c e d ?_
 intro tm' i
 obtain⟨y,H',⟨rfl,a,j,g⟩,n,b⟩:=h tm' i
 exact⟨_,H',⟨0,rfl,a,_,by rw[we,j];exact CV _ _,rfl,UB _ _ _ _,λ_=>g,λh=>absurd h (by decide),by decide⟩,n,b⟩
theorem L2{s:dI}{l:List (Nat × AV)}(h : ∀p∈l,s p.1=p.2):L3 s l=s:=by
 induction l with
 | nil=>rfl
 | cons p l a=>
  obtain⟨j,v⟩:=p
  funext i
  show cond (Nat.beq i j) v (L3 s l i)=s i
  rw[a λp hp=>h p (fW _ hp)]
  cases b:Nat.beq i j with
  | false=>rfl
  | true=>
   have:=kf b
   subst this
   exact(h _ (gG ..)).symm
@[simp] theorem XT(r:Ref)(o n:Nat)(c:Option Nat)(y:AV):jt [AV.cC r o n c] 0 0 [y]=some [y]:=id rfl
@[simp] theorem aaY(x:Value)(y:AV):jt [AV.v x] 0 0 [y]=some [y]:=id rfl
def y6(p:aN × AV):AV := .agg [a8 p.1.kind,a8 p.1.h.lv,aw p.1.h.cats,a8 p.1.h.num,aI p.1.serial,a8 p.1.s.f.h.lv,aw p.1.s.f.h.cats,a8 p.1.s.f.h.num,aI p.1.s.f.n,aI p.1.s.many,
 a8 p.1.a.h.lv,aw p.1.a.h.cats,a8 p.1.a.h.num,aI p.1.a.n,a8 p.1.to.lv,aw p.1.to.cats,p.2]
def cD(l:List (aN × AV)):List AV:=l.map y6
@[simp] theorem jy(l:List (aN × AV)):(cD l).length=l.length:=by simp[cD]
def HT(p:aN × AV):Prop:=Sl 1 (rows p.1.l) p.2/\p.1.l.length<2000000
def opsOf(l:List (aN × AV)):List aN:=l.map (·.1)
theorem M4{E:Env}(dep:Nat)(H:ai)(r q:Ref)(args:List AV):bF E true (aF E) (cE E dep) H r (some (.yld q)) args=cE E dep (.yld q) args H:=by
 simp[bF,kn,mz,EY,mT]
theorem Nh(out:List ib)(t:ib):(rW out t).length<=out.length+1:=by
 unfold rW;split
 ·omega
 ·simp
theorem RD(s:List aN)(i:bR)(v:ib) : ∀out:List ib,(uZ out s i v).length<=out.length+s.length:=by
 induction s with
 | nil=>intro out;simp[uZ]
 | cons o s a=>
  intro out
  show(uZ (if jT o i v then rW out o.to else out) s i v).length<=_
  have b:=a (if jT o i v then rW out o.to else out)
  have c:(if jT o i v then rW out o.to else out).length<=out.length+1:=by
   split
   ·exact Nh _ _
   ·omega
  simp only[nx]
  omega
end Go.Ab
namespace Go.Proofs.YtdbiffjdomokfaaGreat
open Go.Ab
theorem Cx{e:AV}{o:Option AV}(h:qQ e=some o) : ∃(k:UInt8) (A y v w x u C z B g b p d q t c i f a j m n l:AV),
 e = .agg [a8 k,A,y,v,w,x,u,C,z,B,g,b,p,d,q,t,c,i,f,a,j,m,n,l]/\flat depth (.agg [v,w,x,u,a])=true/\[A,y,v,w,x,u,C,z,B,g,b,p,d,q,t,c,i,f,a,j,m,n,l].all AV.one=true/\o=(if k=3 then none else some (.agg [v,w,x,u,a])):=by
 unfold qQ at h
 split at h
 ·rename_i k A y v w x u C z B g b p d q t c i f a j m n l
  obtain⟨⟨H,G,F⟩,h⟩:=fa.1 h
  cases h
  have D:(((UInt8.ofNat k.toNat).toNat:Nat):Int)=k:=by
   rw[UInt8.toNat_ofNat'];omega
  refine⟨UInt8.ofNat k.toNat,A,y,v,w,x,u,C,z,B,g,b,p,d,q,t,c,i,f,a,j,m,n,l,by unfold a8;rw[D],G,F,?_⟩
  by_cases E:k=3
  ·subst E;rfl
  ·rw[if_neg E,if_neg]
   intro e
   rw[e]at D
   exact E D.symm
 ·cases h
theorem Vb : ∀(x:AV),x.one=true->x.cells=[x]
 | .v u,h=>by cases u<;>first | rfl | (simp[AV.one]at h)
 | .agg _,h=>by simp[AV.one]at h
 | .tup _,h=>by simp[AV.one]at h
 | .cG ..,h=>rfl
 | .cC ..,h=>rfl
 | .fsl ..,h=>by simp[AV.one]at h
 | .ptr ..,h=>rfl
 | .iptr ..,h=>rfl
 | .fn ..,h=>rfl
 | .ifc ..,h=>rfl
 | .yld _,h=>rfl
 | .mp _,h=>rfl
 | .ch _,h=>rfl
 | .lp ..,h=>by simp[AV.one]at h
theorem y8{H:ai}{r:Ref}{n:Nat}{a:Bool}{buf:List AV}(h:H.get r=some (jm n a buf)):O9 H.get r=some (n,a,buf):=by
 unfold O9;rw[h];simp[jm]
theorem Sz{H:ai}{r:Ref}{n:Nat}{buf:List AV}(h:H.get r=some (jm n false buf))(a:buf.length<n){x:AV}(b:flat depth x=true) :
 Bj H (some (.ch r)) (some x)=some (AV.undef,H.put r (some (jm n false (buf++[x])))):=by
 simp only[Bj,y8 h,if_pos (And.intro a b)]
theorem QH{es:List AV}{c:Option Nat}(X:es.length<=1000){H0:ai}{r:Ref}(O:H0.get r=none){Q:AV->ai->Prop} : ∀(s:List AV)(k:Nat)(i:Int)(buf:List AV)(l:List (Option AV)) (H:ai),es.drop k=s->k<=es.length->i=k->Fr H ->
 H.get r=some (jm es.length false buf)->buf.length<=k->(∀q b,H0.get q=some b->H.get q=some b)->s.mapM qQ=some l ->
 (∀H',H'.get r=some (jm es.length false (buf++l.filterMap id))->(∀q b,H0.get q=some b->H'.get q=some b)->Q (.ch r) H') ->
 bB rp Tryz.f23 (39+1) mX [(12,aI i),(3,.ch r),(10,.cG 24 es c),(11,aI es.length)] H Q:=by
 intro s
 induction s with
 | nil=>
  rintro k i buf l H hs hk rfl hF hr hb hold hl hQ
  obtain rfl:=drop_nil hs hk
  cases hl
  refine tE _ _ _ _ _ _ _ λg=>?_
  simp[af,ah,ad,ae,aa, *,pN]
  exact hQ _ (by simpa using hr) hold
 | cons e s V=>
  rintro k i buf l H hs hk rfl hF hr hb hold hl hQ
  obtain⟨K,hg,t,p⟩:=drop_cons hs
  rw[lX]at hl
  cases he:qQ e with
  | none=>rw[he]at hl;cases hl
  | some o=>
  rw[he]at hl
  cases hm:s.mapM qQ with
  | none=>rw[hm]at hl;cases hl
  | some T=>
  rw[hm]at hl
  cases hl
  obtain⟨kd,x1,x2,W,S,U,x,x7,x8,Y,I,v,C,F,P,R,w,J,G,m,L,B,N,A,rfl,D,d,rfl⟩:=Cx he
  simp only[zq,Jm,zY,aZ]at d
  have a:((⟨40,5,H.gen 40 5,0⟩:Ref)=r)=False:=af hF (by rw[hr];rfl) 40 5 0
  have j:(r=(⟨40,5,H.gen 40 5,0⟩:Ref))=False:=eq_false λe=>cast a e.symm
  refine tE _ _ _ _ _ _ _ λg=>?_
  have y:bW es k 0 24 true=some (.agg [a8 kd,x1,x2,W,S,U,x,x7,x8,Y,I,v,C,F,P,R,w,J,G,m,L,B,N,A]):=by simp[bW,p]
  clear hg p he hs
  simp[af,ah,ad,ae,aa, *,pN,K,y,hF,a,j,d,aa]
  refine gU (λh=>?_) (λh=>?_)
  ·have E : ¬kd=3:=by simpa using h
   simp[hF,a,j,d,aa,Vb x d.2.2.2.2.2.1,Vb m d.2.2.2.2.2.2.2.2.2.2.2.2.2.2.2.2.2.2.1]
   refine tI (Sz (n:=es.length) (buf:=buf) (by simp[ai.get,a,j,hr]) (by omega) (by simpa using D)) ?_
   simp[IntWalk.i64_in ((k:Int)+1) (by omega)]
   refine V (k+1) _ (buf++[.agg [W,S,U,x,m]]) T _ t (by omega) (by simp) ?_ ?_ (by simp;omega) ?_ hm (λH' f M=>hQ H' (by simpa [E] using f) M)
   ·simp only[a,if_false]
    exact an (au hF (by rw[hr];rfl) _) (by rw[aa (by rw[hr];rfl)]) _
   ·simp only[a,if_false]
    simp[ai.get_put,ai.get,a]
   ·intro q b u
    have f:=hold q b u
    have z:((⟨40,5,H.gen 40 5,0⟩:Ref)=q)=False:=af hF (by rw[f];rfl) 40 5 0
    have Z:(q=r)=False:=eq_false λe=>by subst e;rw[O]at u;cases u
    simp only[a,if_false]
    simp[ai.get_put,ai.get,z,Z,f]
  ·have E:kd=3:=by simpa using h
   simp[IntWalk.i64_in ((k:Int)+1) (by omega)]
   refine V (k+1) _ buf T _ t (by omega) (by simp) ?_ ?_ (by omega) ?_ hm (λH' f M=>hQ H' (by simpa [E] using f) M)
   ·exact an hF rfl _
   ·simp[ai.get,a,hr]
   ·intro q b u
    have f:=hold q b u
    have z:((⟨40,5,H.gen 40 5,0⟩:Ref)=q)=False:=af hF (by rw[f];rfl) 40 5 0
    simp[ai.get,z,f]
end Go.Proofs.YtdbiffjdomokfaaGreat
namespace Go.Proofs.YtdbiffjdomokfaaGreat
open Go.Ab
attribute [local simp] aU aK aG aW aV cz lT ba aO aQ cg cf bI bc ay bE gw
@[simp] theorem Tv(a:UInt8)(b:UInt32):aF env 33 [.agg [a8 a,aw b]]=some (aI (bad (decide (a<=15)))):=by
 refine aH rfl (by kernel_rfl) (z8 _ _ _ λg=>?_)
 simp[af,ah,ad,ae,aa, *,vm]
 repeat' ((first | refine gU (λh=>?_) (λh=>?_) | refine fM (λh=>?_) (λh=>?_) | refine fN (λh=>?_) (λh=>?_) | refine fK (λh=>?_) (λh=>?_) | refine fL (λh=>?_) (λh=>?_))<;>(try simp only[decide_eq_true_eq,decide_eq_false_iff_not,dQ,ke,aZ,ff]at h)<;>(try simp[af,ah,ad,ae,aa, *]))
 all_goals (try grind [bad])
@[simp] theorem agm(b:Bool):aF env 136 [aB b]=some (aI (bad b)):=by
 refine aH rfl (by kernel_rfl) (JN _ _ _ λg=>?_)
 cases b<;>simp[af,ah,ad,ae,aa, *,Dg,bad]
@[simp] theorem VD(a:UInt8)(b:UInt32)(n:UInt8):aF env 117 [.agg [a8 a,aw b,a8 n]]=some (aI (bad (me ⟨a,b,n⟩))):=by
 refine aH rfl (by kernel_rfl) (BK _ _ _ λg=>?_)
 simp[af,ah,ad,ae,aa, *,vn,me]
 repeat' ((first | refine gU (λh=>?_) (λh=>?_) | refine fM (λh=>?_) (λh=>?_) | refine fN (λh=>?_) (λh=>?_) | refine fK (λh=>?_) (λh=>?_) | refine fL (λh=>?_) (λh=>?_))<;>(try simp only[decide_eq_true_eq,decide_eq_false_iff_not,dQ,ke,aZ,ff]at h)<;>(try simp[af,ah,ad,ae,aa, *]))
@[simp] theorem adV(a:UInt8)(b:UInt32)(n:UInt8)(k:Int):aF env 137 [.agg [a8 a,aw b,a8 n,aI k]]=some (aI (bad (DZ ⟨⟨a,b,n⟩,k⟩))):=by
 refine aH rfl (by kernel_rfl) (JO _ _ _ λg=>?_)
 simp[af,ah,ad,ae,aa, *,Dh,DZ]
 repeat' ((first | refine gU (λh=>?_) (λh=>?_) | refine fM (λh=>?_) (λh=>?_) | refine fN (λh=>?_) (λh=>?_) | refine fK (λh=>?_) (λh=>?_) | refine fL (λh=>?_) (λh=>?_))<;>(try simp only[decide_eq_true_eq,decide_eq_false_iff_not,dQ,ke,aZ,ff]at h)<;>(try simp[af,ah,ad,ae,aa, *]))
@[simp] theorem X3(a:UInt8)(b:UInt32)(n:UInt8)(k m:Int):aF env 131 [.agg [a8 a,aw b,a8 n,aI k,aI m]]=some (aI (bad (eN ⟨⟨⟨a,b,n⟩,k⟩,m⟩))):=by
 refine aH rfl (by kernel_rfl) (DF _ _ _ λg=>?_)
 cases d:DZ ⟨⟨a,b,n⟩,k⟩ with
 | false=>simp[af,ah,ad,ae,aa, *,mj,eN]
 | true=>
  have c:=I6 d
  simp only at c
  by_cases h:1<=m
  ·by_cases i:m<=64
   ·have f:=IntWalk.i64_in (k+m) (by omega)
    have e:=IntWalk.i64_in (k+m - 1) (by omega)
    simp[af,ah,ad,ae,aa, *,mj,eN]
   ·simp[af,ah,ad,ae,aa, *,mj,eN]
  ·simp[af,ah,ad,ae,aa, *,mj,eN]
@[simp] theorem ahv(a:UInt8)(b:UInt32)(n:UInt8)(k m:Int):aF env 164 [.agg [a8 a,aw b,a8 n,aI k],aI m]=some (.agg [a8 a,aw b,a8 n,aI (IntKind.i64.wrap (k+m))]):=by
 refine aH rfl (by kernel_rfl) (K8 _ _ _ _ λg=>?_)
 simp[af,ah,ad,ae,aa, *,EM]
def VL(s:vu)(m:Int):Int:=if eN s then (if m<0\/s.many<=m then 2 else 0) else 8
@[simp] theorem adW(a:UInt8)(b:UInt32)(n:UInt8)(k m j:Int):aF env 145 [.agg [a8 a,aw b,a8 n,aI k,aI m],aI j] =
 some (if VL ⟨⟨⟨a,b,n⟩,k⟩,m⟩ j=0 then .tup [.agg [a8 a,aw b,a8 n,aI (k+j)],aI 0] else .tup [.agg [a8 0,aw 0,a8 0,aI 0],aI (VL ⟨⟨⟨a,b,n⟩,k⟩,m⟩ j)]):=by
 refine aH rfl (by kernel_rfl) (Qy _ _ _ _ λg=>?_)
 cases d:eN ⟨⟨⟨a,b,n⟩,k⟩,m⟩ with
 | false=>simp[af,ah,ad,ae,aa, *,yr,VL]
 | true=>
  have c:=gp d
  simp only at c
  by_cases f:j<0
  ·simp[af,ah,ad,ae,aa, *,yr,VL]
  ·by_cases h:m<=j
   ·simp[af,ah,ad,ae,aa, *,yr,VL]
   ·have e:=IntWalk.i64_in (k+j) (by omega)
    simp[af,ah,ad,ae,aa, *,yr,VL]
end Go.Proofs.YtdbiffjdomokfaaGreat
namespace Go.Ab
def vI.enc(h:vI):List AV:=[a8 h.lv,aw h.cats,a8 h.num]
def bR.enc(i:bR):List AV:=[a8 i.h.lv,aw i.h.cats,a8 i.h.num,aI i.n]
def vu.enc(s:vu):List AV:=[a8 s.f.h.lv,aw s.f.h.cats,a8 s.f.h.num,aI s.f.n,aI s.many]
end Go.Ab
namespace Go.Proofs.YtdbiffjdomokfaaGreat
open Go.Ab Go.ChangeShapes Go.WideShapes Go.RowKit
theorem AX:Np env.P 35 (λ_=>True) (λp:UInt8 × UInt32=>[a8 p.1,aw p.2]):=by
 intro n xs h
 have h:=lZ (P:=env.P) ML h
 obtain⟨m,x,r,rfl,a,y,r',rfl,b,rfl⟩:=h
 obtain⟨v,_,rfl⟩:=PL (P:=env.P) (t:=5) (by simp) _ _ a
 obtain⟨w,_,rfl⟩:=Zt (P:=env.P) (t:=33) (by simp) _ _ b
 exact⟨(v,w),trivial,rfl⟩
theorem PK:Np env.P 40 (λ_=>True) vI.enc:=by
 intro n xs h
 have h:=lZ (P:=env.P) MK h
 obtain⟨m,x,r,rfl,a,y,r',rfl,b,rfl⟩:=h
 obtain⟨p,_,rfl⟩:=AX _ _ a
 obtain⟨w,_,rfl⟩:=PL (P:=env.P) (t:=5) (by simp) _ _ b
 exact⟨⟨p.1,p.2,w⟩,trivial,rfl⟩
theorem PJ:Np env.P 45 (λ_=>True) bR.enc:=by
 intro n xs h
 have h:=lZ (P:=env.P) MJ h
 obtain⟨m,x,r,rfl,a,y,r',rfl,b,rfl⟩:=h
 obtain⟨p,_,rfl⟩:=PK _ _ a
 obtain⟨i,_,rfl⟩:=sQ (P:=env.P) (t:=3) (by simp) _ _ b
 exact⟨⟨p,i⟩,trivial,rfl⟩
theorem Wz:Np env.P 47 (λ_=>True) vu.enc:=by
 intro n xs h
 have h:=lZ (P:=env.P) MI h
 obtain⟨m,x,r,rfl,a,y,r',rfl,b,rfl⟩:=h
 obtain⟨p,_,rfl⟩:=PJ _ _ a
 obtain⟨i,_,rfl⟩:=sQ (P:=env.P) (t:=3) (by simp) _ _ b
 exact⟨⟨p,i⟩,trivial,rfl⟩
theorem SY{n:Nat}{xs:List AV}(h:B1 env.P n 48 xs) : ∃(l:List Int) (x:AV),(∀a∈l, -2147483648<=a/\a<=2147483647)/\xs=[x]/\Sl 1 (rows l) x:=by
 obtain⟨l,x,b,rfl,s⟩:=Cs (P:=env.P) SL SK V7 (Wy (by simp)) h
 exact⟨l,x,b,rfl,s⟩
def YY(p:aN × AV):List AV:=[a8 p.1.kind,a8 p.1.h.lv,aw p.1.h.cats,a8 p.1.h.num,aI p.1.serial,a8 p.1.s.f.h.lv,aw p.1.s.f.h.cats,a8 p.1.s.f.h.num,aI p.1.s.f.n,aI p.1.s.many,
 a8 p.1.a.h.lv,aw p.1.a.h.cats,a8 p.1.a.h.num,aI p.1.a.n,a8 p.1.to.lv,aw p.1.to.cats,p.2]
theorem TH:Np env.P 50 (λp:aN × AV=>Sl 1 (rows p.1.l) p.2 /\∀a∈p.1.l, -2147483648<=a/\a<=2147483647) YY:=by
 intro n xs h
 have h:=lZ (P:=env.P) MH h
 obtain⟨m,x,r1,rfl,e,u,r2,rfl,f,A,r3,rfl,j,B,r4,rfl,g,C,r5,rfl,q,v,w,rfl,d,z,r7,rfl,b,rfl⟩:=h
 obtain⟨k,_,rfl⟩:=PL (P:=env.P) (t:=5) (by simp) _ _ e
 obtain⟨o,_,rfl⟩:=PK _ _ f
 obtain⟨i,_,rfl⟩:=sQ (P:=env.P) (t:=3) (by simp) _ _ j
 obtain⟨s,_,rfl⟩:=Wz _ _ g
 obtain⟨a,_,rfl⟩:=PJ _ _ q
 obtain⟨t,_,rfl⟩:=AX _ _ d
 obtain⟨l,y,c,rfl,sl⟩:=SY b
 exact⟨(⟨k,o,i,s,a,⟨t.1,t.2⟩,l⟩,y),⟨sl,c⟩,rfl⟩
theorem own:ownKnob Tryz.prog.godebug=none:=by kernel_rfl
theorem kids:Kids Tryz.prog (· < Tryz.prog.types.size):=kids_rows (by kernel_rfl) (by kernel_rfl)
end Go.Proofs.YtdbiffjdomokfaaGreat
namespace Go.Ab
theorem afz{M:Mem}{ι:Map}{w:World}{H:ai}(a:gA M ι H.get w)(c:tB ι H):Fr H:=by
 intro d t g k f
 cases h:H.get ⟨d,t,g,k⟩ with
 | none=>rfl
 | some b=>
  obtain⟨l,e,_⟩:=a.live _ _ h
  have:=c _ _ e
  simp only at this
  omega
theorem Km{P:Program}{fr:Frame}{cs:List Frame}{rest:List Deferred} : ∀(ds:List Nat)(w:World),fr.mode = .returning->ds.Nodup->(∀D∈ds,w.heap[D]?=some (.deferred (some []))) ->
 ∃w',Steps P (lone { fr with defers:=marks ds++rest} cs w) (lone { fr with defers:=rest} cs w')/\w'.os=w.os/\w'.tape=w.tape/\w'.output=w.output/\w'.heap.size=w.heap.size /\∀b,b ∉ ds->w'.heap[b]?=w.heap[b]?:=by
 intro ds
 induction ds with
 | nil=>intro w _ _ _;exact⟨w,Steps.refl _ _,rfl,rfl,rfl,rfl,λ_ _=>rfl⟩
 | cons D ds m=>
  intro w i c j
  have p:=run_takeDeferred (P:=P) (j D (gG ..))
  have a:=step_collected (P:=P) (fr := { fr with defers:=marks (D :: ds)++rest}) (cs:=cs) (w:=w) (d := { target := .collected D,args := #[]}) (r:=D) (ds:=marks ds++rest) (by simp[i]) rfl rfl p
  obtain⟨w',q,o,t,l,n,k⟩:=m (w.putObj D (.deferred none)) i (FC.1 c).2 (λu f=>by
   rw[World.putObj_heap_other (by intro e;subst e;exact(FC.1 c).1 f)]
   exact j u (fW _ f))
  refine⟨w',Steps.trans (.one a) (by simpa using q),o,t,l,by rw[n];simp,λb g=>?_⟩
  rw[k b (λh=>g (fW _ h)),World.putObj_heap_other (by intro e;subst e;exact g (gG ..))]
def wZ(r:Nat)(a:Array TypeId)(ty:TypeId)(b:Array Bool):Deferred := { target := .builtin .close a ty b,args := #[.chan (some r)]}
theorem N3{P:Program}{fr:Frame}{cs:List Frame}{w:World}{r cap s b:Nat}{buf:Array Value}{a:Array TypeId}{ty:TypeId}{g:Array Bool}{ds:List Deferred}(d:fr.mode = .returning)
 (f:fr.defers=wZ r a ty g :: ds) (e:w.heap[r]?=some (.chan cap buf false s b false)) :
 step P (lone fr cs w) = .next (lone { fr with defers:=ds} cs (bQ w r (.chan cap buf true s b false))):=by
 refine step_lone_go ?_
 have c:=run_close_open (P:=P) a ty e
 simp[stepG,unwind,callDeferred,d,f,wZ,invoke,builtin,c,bQ,Sem.runT_eq,GStep.bare_after]
end Go.Ab
namespace Go.Proofs.YtdbiffjdomokfaaGreat
open Go.Ab
def Gq:Code->Code
 | .seq a _=>a
 | c=>c
def Ae:Code->Code
 | .seq _ b=>b
 | c=>c
def T8:Code->Array Oper
 | .region _ o _=>o
 | _ => #[]
noncomputable def op0:Array Oper:=T8 (Gq na)
noncomputable def ZQ:Array Oper:=T8 (Gq (Ae na))
noncomputable def VH:Array Oper:=T8 (Gq (Ae (Ae na)))
noncomputable def Ql:Code:=Gq (Ae (Ae (Ae na)))
noncomputable def cd4:Code:=Ae (Ae (Ae (Ae na)))
theorem Iz:Tryz.f23.body=some (.seq (.region 0 op0 false) (.seq (.region 1 ZQ false) (.seq (.region 2 VH false) (.seq (.seq (Gq Ql) (Ae Ql)) cd4)))):=by kernel_rfl
theorem Pz:pM=[.code (Gq Ql),.code (Ae Ql),.code cd4]:=by kernel_rfl
theorem Y6(s:dI)(H:ai)(K:dI->ai->Prop)(h:K (D1 s 2 (.v (.chan none))) H):Go.Ab.wpOps rp 31 40 false op0 op0.toList s H K:=by
 have e:Go.Ab.wpOps rp 31 40 false op0 op0.toList s H K=K (D1 s 2 (.v (.chan none))) H:=by kernel_rfl
 rw[e];exact h
theorem Y5(s:dI)(H:ai)(K:dI->ai->Prop)(h:Go.Ab.hZ (ck env.P false H.get ⟨40,7,H.gen 40 7,0⟩ .len #[31] [s 0]) λv1=>
 lQ (sD env.P H ⟨40,8,H.gen 40 8,0⟩ 96 (some v1)) λv2 a=>K (D1 (D1 (D1 (D1 s 6 (s 0)) 7 v1) 8 v2) 3 v2) a):Go.Ab.wpOps rp 31 40 false ZQ ZQ.toList s H K:=by
 have e:Go.Ab.wpOps rp 31 40 false ZQ ZQ.toList s H K=(hZ (ck env.P false H.get ⟨40,7,H.gen 40 7,0⟩ .len #[31] [s 0]) λv1=>
  lQ (sD env.P H ⟨40,8,H.gen 40 8,0⟩ 96 (some v1)) λv2 a=>K (D1 (D1 (D1 (D1 s 6 (s 0)) 7 v1) 8 v2) 3 v2) a):=by kernel_rfl
 rw[e];exact h
end Go.Proofs.YtdbiffjdomokfaaGreat
namespace Go.Proofs.YtdbiffjdomokfaaGreat
open Go.Ab
attribute [local simp] aU aK aG aW aV cz lT ba aO aQ cg cf bI bc ay bE gw
@[simp] theorem abw(n:Int)(c:0<=n):aF env 118 [aI n,aI 4]=some (.cG 1 (jR (be 4 n)) none):=by
 refine aH rfl (by kernel_rfl) (Bn _ _ _ _ λg=>?_)
 have b:IntKind.i64.wrap (-1) = -1:=rfl
 have a:IntKind.i64.wrap 0=0:=rfl
 simp[af,ah,ad,ae,aa, *,xb]
 refine de _ _ _ _ _ λg=>?_
 simp[af,ah,ad,ae,aa, *,cQ,gh,fu]
 refine de _ _ _ _ _ λg=>?_
 simp[af,ah,ad,ae,aa, *,cQ,gh,fu]
 refine de _ _ _ _ _ λg=>?_
 simp[af,ah,ad,ae,aa, *,cQ,gh,fu]
 refine de _ _ _ _ _ λg=>?_
 simp[af,ah,ad,ae,aa, *,cQ,gh,fu]
 refine de _ _ _ _ _ λg=>?_
 simp[af,ah,ad,ae,aa, *,cQ,Pg,jR]
@[simp] theorem QO(n:Int)(c:0<=n):aF env 118 [aI n,aI 7]=some (.cG 1 (jR (be 7 n)) none):=by
 refine aH rfl (by kernel_rfl) (Bn _ _ _ _ λg=>?_)
 have b:IntKind.i64.wrap (-1) = -1:=rfl
 have a:IntKind.i64.wrap 0=0:=rfl
 simp[af,ah,ad,ae,aa, *,xb]
 refine de _ _ _ _ _ λg=>?_
 simp[af,ah,ad,ae,aa, *,cQ,gh,fu]
 refine de _ _ _ _ _ λg=>?_
 simp[af,ah,ad,ae,aa, *,cQ,gh,fu]
 refine de _ _ _ _ _ λg=>?_
 simp[af,ah,ad,ae,aa, *,cQ,gh,fu]
 refine de _ _ _ _ _ λg=>?_
 simp[af,ah,ad,ae,aa, *,cQ,gh,fu]
 refine de _ _ _ _ _ λg=>?_
 simp[af,ah,ad,ae,aa, *,cQ,gh,fu]
 refine de _ _ _ _ _ λg=>?_
 simp[af,ah,ad,ae,aa, *,cQ,gh,fu]
 refine de _ _ _ _ _ λg=>?_
 simp[af,ah,ad,ae,aa, *,cQ,gh,fu]
 refine de _ _ _ _ _ λg=>?_
 simp[af,ah,ad,ae,aa, *,cQ,ah4,jR]
def jD(h:vI):List UInt8:=h.lv :: (be 4 h.cats.toNat++[h.num])
@[simp] theorem aan(h:vI):(jD h).length=6:=by simp[jD]
@[simp] theorem Lu(a:UInt8)(b:UInt32)(n:UInt8):aF env 98 [.agg [a8 a,aw b,a8 n]]=some (if me ⟨a,b,n⟩ then .tup [.fsl 1 (jR (jD ⟨a,b,n⟩)) none,aI 0] else .tup [bZ,aI 8]):=by
 refine aH rfl (by kernel_rfl) (DE _ _ _ λg=>?_)
 cases h:me ⟨a,b,n⟩ with
 | true=>simp[af,ah,ad,ae,aa, *,sO,bad,jR,jD]
 | false=>simp[af,ah,ad,ae,aa, *,sO,bad]
def kA(i:bR):List UInt8:=jD i.h++be 7 i.n
@[simp] theorem aak(i:bR):(kA i).length=13:=by simp[kA]
@[simp] theorem ahD(a:UInt8)(b:UInt32)(n:UInt8)(k:Int):aF env 119 [.agg [a8 a,aw b,a8 n,aI k]]=some (if DZ ⟨⟨a,b,n⟩,k⟩ then .tup [.cG 1 (jR (kA ⟨⟨a,b,n⟩,k⟩)) none,aI 0] else .tup [bZ,aI 8]):=by
 refine aH rfl (by kernel_rfl) (NV _ _ _ λg=>?_)
 cases h:DZ ⟨⟨a,b,n⟩,k⟩ with
 | true=>
  have c:=I6 h
  have d:=QO k (by simp only at c;omega)
  have e:me ⟨a,b,n⟩=true:=by simp only[DZ,aZ]at h;exact h.1
  simp only at c
  simp[af,ah,ad,ae,aa, *,BY,bad,jR,kA]
 | false=>simp[af,ah,ad,ae,aa, *,BY,bad]
end Go.Proofs.YtdbiffjdomokfaaGreat
namespace Go.Proofs.YtdbiffjdomokfaaGreat
open Go.Ab
attribute [local simp] aU aK aG aW aV cz lT ba aO aQ cg cf bI bc ay bE gw
def yL(n:Int):Bool:=(decide (0<=n)&&decide (n<55296))||(decide (57343<n)&&decide (n<=1114111))
@[simp] theorem ago(n:Int):aF env 161 [.v (.int .i32 n)]=some (aB (yL n)):=by
 refine aH rfl (by kernel_rfl) (vv _ _ _ λg=>?_)
 simp[af,ah,ad,ae,aa, *,oT,yL]
 repeat' ((first | refine gU (λh=>?_) (λh=>?_) | refine fM (λh=>?_) (λh=>?_) | refine fN (λh=>?_) (λh=>?_) | refine fK (λh=>?_) (λh=>?_) | refine fL (λh=>?_) (λh=>?_))<;>(try simp only[decide_eq_true_eq,decide_eq_false_iff_not,dQ,ke,aZ,ff]at h)<;>(try simp[af,ah,ad,ae,aa, *]))
 all_goals (try grind)
@[simp] theorem agl(n:Int):aF env 160 [.v (.int .i32 n)]=some (aB (!oQ n)):=by
 refine aH rfl (by kernel_rfl) (Dz _ _ _ λg=>?_)
 by_cases h:n = -1
 ·subst h;simp[af,ah,ad,ae,aa, *,sN,oQ]
 ·simp[af,ah,ad,ae,aa, *,sN,oQ,yL]
def y5:List Int->Nat->Int
 | [],_ => -1
 | n :: l,k=>if oQ n then y5 l (k+1) else k
theorem OT(l:List Int) : ∀k:Nat,(0<=y5 l k↔l.all oQ=false):=by
 induction l with
 | nil=>intro k;simp[y5]
 | cons n l a=>
  intro k
  unfold y5
  cases h:oQ n with
  | true=>rw[if_pos rfl,a,zq,h,nu]
  | false=>simp[h]
theorem NP{x0:AV}{Q:AV->ai->Prop}{l:List Int}(hx:Sl 1 (rows l) x0)(hl:l.length<4611686018427387904) : ∀(s:List Int)(k:Nat)(i:Int)(H:ai),l.drop k=s->k<=l.length->i=k ->
 (∀y H',y=aI (y5 s k)->Q y H') ->
 bB env Tryz.f170 0 dS [(8,aI i),(0,x0),(1,.fn (.func 160) [] []),(7,aI l.length)] H Q:=by
 intro s
 induction s with
 | nil=>
  rintro k i H hs hk rfl hQ
  obtain rfl:=drop_nil hs hk
  refine kj _ _ _ _ _ _ λg=>?_
  simp[af,ah,ad,ae,aa, *,dT]
  all_goals exact hQ _ _ rfl
 | cons b s f=>
  rintro k i H hs hk rfl hQ
  obtain⟨d,j,a,h⟩:=drop_cons hs
  refine kj _ _ _ _ _ _ λg=>?_
  have n:=IntWalk.i64_in ((k:Int)+1) (by omega)
  cases c:oQ b with
  | true=>
   simp[af,ah,ad,ae,aa, *,dT,hx.idx,rows,aR]
   exact f (k+1) _ _ a (by omega) (by simp) (λy H' e=>hQ y H' (by simp[e,y5,c]))
  | false=>
   simp[af,ah,ad,ae,aa, *,dT,hx.idx,rows,aR]
   exact hQ _ _ (by simp[y5,c])
theorem ZU:bS env.P .eql 48 (.tmp 3) (.const (.slice none 0 0)) (some (.v (.slice none 0 0))) (some (.v (.slice none 0 0)))=some (aB true,[]):=by kernel_rfl
section
variable{x:AV}{l:List Int}(hx:Sl 1 (rows l) x)(hl:l.length<4611686018427387904)
include hx hl
theorem Of:aF env 170 [x,.fn (.func 160) [] []]=some (aI (y5 l 0)):=by
 refine aH rfl (by kernel_rfl) (qw _ _ _ _ λg=>?_)
 have h:=hx.len
 simp[af,ah,ad,ae,aa, *,kO]
 exact NP hx hl l 0 _ _ rfl (by omega) rfl (λy H' e=>by simp[e])
theorem Ty:aF env 162 [x,.fn (.func 160) [] []]=some (aB (!l.all oQ)):=by
 refine aH rfl (by kernel_rfl) (oW _ _ _ _ λg=>?_)
 have h:=Of hx hl
 have e:decide (0<=y5 l 0) = !l.all oQ:=by
  have:=OT l 0
  cases h:l.all oQ<;>simp[h]at this ⊢ <;> omega
 simp[af,ah,ad,ae,aa, *,jP,hx.r]
theorem DJ:aF env 139 [x]=some (aI (A9 l)):=by
 refine aH rfl (by kernel_rfl) (FX _ _ _ λg=>?_)
 have h:=Ty hx hl
 have c:=hx.len
 by_cases a:64<l.length
 ·have:(64:Int)<l.length:=by omega
  simp[af,ah,ad,ae,aa, *,vk,A9,hx.r]
 ·have : ¬(64:Int)<l.length:=by omega
  cases b:l.all oQ<;>simp[af,ah,ad,ae,aa, *,vk,A9,hx.r]
theorem IC(d:l.length * 4<=140737488355328):aF env 95 [x]=some (rq x):=by
 refine aH rfl (by kernel_rfl) (sG _ _ _ λg=>?_)
 rcases hx with ⟨rfl,h⟩ | ⟨c,rfl,e⟩
 ·have f:=ZU
  simp[af,ah,ad,ae,aa, *,fk]
 ·by_cases b:l=[]
  ·subst b
   simp[af,ah,ad,ae,aa, *,fk,rows]
  ·have a:rows l≠[]:=by simpa using b
   have hp:0<l.length:=Fp.2 b
   rw[sL 1 c a]
   simp[af,ah,ad,ae,aa, *,fk]
end
theorem O5{x0 o:AV}{Q:AV->ai->Prop}{l m:List Int}(hx:Sl 1 (rows l) x0)(hy:Sl 1 (rows m) o)(hl:l.length<4611686018427387904)(d:m.length=l.length) : ∀(s t:List Int)(k:Nat)(i:Int)(H:ai),l.drop k=s->m.drop k=t->k<=l.length->i=k ->
 (∀y H',y=aB (decide (s=t))->Q y H') ->
 bB env Tryz.f141 0 eG [(13,aI i),(1,o),(0,x0),(12,aI l.length)] H Q:=by
 intro s
 induction s with
 | nil=>
  rintro t k i H hs ht hk rfl hQ
  obtain rfl:=drop_nil hs hk
  rw[<-d,Nq]at ht
  subst ht
  refine kZ _ _ _ _ _ _ λg=>?_
  simp[af,ah,ad,ae,aa, *,eK]
  all_goals exact hQ _ _ rfl
 | cons b s u=>
  rintro t k i H hs ht hk rfl hQ
  obtain⟨q,w,a,v⟩:=drop_cons hs
  cases t with
  | nil=>have:=congrArg List.length ht;simp at this;omega
  | cons c t=>
  obtain⟨n,p,f,h⟩:=drop_cons ht
  refine kZ _ _ _ _ _ _ λg=>?_
  have z:=IntWalk.i64_in ((k:Int)+1) (by omega)
  by_cases j:b=c
  ·subst j
   simp[af,ah,ad,ae,aa, *,eK,hx.idx,hy.idx,rows,aR]
   exact u t (k+1) _ _ a f (by omega) (by simp) (λy H' e=>hQ y H' (by simp[e]))
  ·simp[af,ah,ad,ae,aa, *,eK,hx.idx,hy.idx,rows,aR]
   all_goals exact hQ _ _ (by simp[j])
theorem QI{x0 o:AV}{Q:AV->ai->Prop}{l m:List Int}(hx:Sl 1 (rows l) x0)(hy:Sl 1 (rows m) o)(hl:l.length<4611686018427387904)(d:m.length=l.length) : ∀(s t:List Int)(k:Nat)(i:Int)(H:ai),l.drop k=s->m.drop k=t->k<=l.length->i=k ->
 (∀y H',y=aB (decide (s=t))->Q y H') ->
 bB env Tryz.f63 0 iy [(5,aI i),(1,o),(0,x0)] H Q:=by
 intro s
 induction s with
 | nil=>
  rintro t k i H hs ht hk rfl hQ
  obtain rfl:=drop_nil hs hk
  rw[<-d,Nq]at ht
  subst ht
  refine oP _ _ _ _ _ λg=>?_
  simp[af,ah,ad,ae,aa, *,iA,hx.len]
  all_goals exact hQ _ _ rfl
 | cons b s u=>
  rintro t k i H hs ht hk rfl hQ
  obtain⟨q,w,a,v⟩:=drop_cons hs
  cases t with
  | nil=>have:=congrArg List.length ht;simp at this;omega
  | cons c t=>
  obtain⟨n,p,f,h⟩:=drop_cons ht
  refine oP _ _ _ _ _ λg=>?_
  have z:=IntWalk.i64_in ((k:Int)+1) (by omega)
  by_cases j:b=c
  ·subst j
   simp[af,ah,ad,ae,aa, *,iA,hx.idx,hy.idx,hx.len,rows,aR]
   exact u t (k+1) _ _ a f (by omega) (by simp) (λy H' e=>hQ y H' (by simp[e]))
  ·simp[af,ah,ad,ae,aa, *,iA,hx.idx,hy.idx,hx.len,rows,aR]
   all_goals exact hQ _ _ (by simp[j])
section
variable{x y:AV}{l m:List Int}(hx:Sl 1 (rows l) x)(hy:Sl 1 (rows m) y)(hl:l.length<4611686018427387904)
include hx hy hl
theorem QS:aF env 141 [x,y]=some (aB (decide (l=m))):=by
 refine aH rfl (by kernel_rfl) (sF _ _ _ _ λg=>?_)
 have d:=hx.len
 have f:=hy.len
 by_cases h:m.length=l.length
 ·have b:(m.length:Int)=l.length:=by omega
  simp[af,ah,ad,ae,aa, *,iP]
  exact O5 hx hy hl h l m 0 0 _ rfl rfl (by omega) rfl (λy H' e=>by simp[e])
 ·have b : ¬(l.length:Int)=m.length:=by omega
  have c:l≠m:=λe=>h (by rw[e])
  have a : ¬(m.length:Int)=l.length:=by omega
  simp[af,ah,ad,ae,aa, *,iP]
theorem Ta:aF env 63 [x,y]=some (aB (decide (l=m))):=by
 refine aH rfl (by kernel_rfl) (xK _ _ _ _ λg=>?_)
 have d:=hx.len
 have f:=hy.len
 by_cases h:m.length=l.length
 ·have b:(m.length:Int)=l.length:=by omega
  simp[af,ah,ad,ae,aa, *,my]
  exact QI hx hy hl h l m 0 0 _ rfl rfl (by omega) rfl (λy H' e=>by simp[e])
 ·have b : ¬(l.length:Int)=m.length:=by omega
  have c:l≠m:=λe=>h (by rw[e])
  have a : ¬(m.length:Int)=l.length:=by omega
  simp[af,ah,ad,ae,aa, *,my]
end
end Go.Proofs.YtdbiffjdomokfaaGreat
namespace Go.Proofs.YtdbiffjdomokfaaGreat
open Go.Ab
theorem V9{M:Mem}{ι:Map}{w:World}{H:ai}{args:List AV}{us:List Value}(f:gA M ι H.get w)(g:tB ι H)(d:lR M ι args us){n:Nat}(b:args.length<=n) :
 vH M ι ⟨args,H⟩ n { tmps:=us.toArray++Array.replicate (n - us.toArray.size) undef,defers:=[]} w:=by
 have e:=d.1
 refine⟨f,g,⟨?_⟩,by simp;omega⟩
 intro t
 rw[Iu,Bh]
 rcases fe t args.length with a | a
 ·rw[eC a,JF (by simp;omega),fQ]
  have c:us[t]?=some (us[t]'(by omega)):=eC _
  simp only[JB,c,fQ]
  exact d.2 t _ _ (eC a) c
 ·rw[xp a,Su (by simp;omega)]
  have : ∀k:Nat,((Array.replicate (n - us.toArray.size) undef)[k]?).getD undef=undef:=by
   intro k
   rw[JE]
   split<;>rfl
  rw[this]
  exact .v rfl
theorem u7:rp.Ok (D7 rp):=Qi L8 (by kernel_rfl) (by kernel_rfl) (λf t h=>by cases h) (λf args H y H' h=>by cases h)
theorem Wc{x:AV}{es:List AV}(d:xN x=some es){l:List (Option AV)}(i:es.mapM qQ=some l){H:ai}(j:Fr H) :
 bB rp Tryz.f23 (39+1) pM [(3,.ch (fh H)),(0,x)] (keyed (fh H) 0 [jm es.length false []] H) λy n=>
  y = .ch (fh H)/\n.get (fh H)=some (jm es.length false (l.filterMap id)) /\∀q b,H.get q=some b->n.get q=some b:=by
 have m:H.get (fh H)=none:=ao j 40 8 0
 have f:(keyed (fh H) 0 [jm es.length false []] H).get (fh H)=some (jm es.length false []):=by simp[keyed,ai.get,fh]
 have a : ∀q b,H.get q=some b->(keyed (fh H) 0 [jm es.length false []] H).get q=some b:=by
  intro q b h
  have u:(fh H=q)=False:=eq_false λe=>by subst e;rw[m]at h;cases h
  have v:(({ fh H with k:=0}:Ref)=q)=False:=u
  simp[keyed,ai.get,v,h]
 refine EU 39 _ _ _ _ λg=>?_
 unfold xN at d
 split at d
 ·rename_i o c
  obtain⟨hlen,d⟩:=fa.1 d
  cases d
  simp[af,ah,ad,ae,aa, *,tK]
  exact QH hlen m es 0 0 [] l _ rfl (by omega) rfl (an j rfl _) f (by simp) a i (λH' p t=>⟨rfl,by simpa using p,t⟩)
 ·cases d
  cases i
  simp[af,ah,ad,ae,aa, *,tK]
  refine tE 39 _ _ _ _ _ _ λg=>?_
  simp[af,ah,ad,ae,aa, *,pN]
  exact⟨rfl,a⟩
 ·cases d
theorem jN{f:AV->Option (Option AV)} : ∀ {es:List AV} {l:List (Option AV)} {i:Nat} {o:Option AV},es.mapM f=some l->l[i]?=some o ->∃e,es[i]?=some e/\f e=some o:=by
 intro es
 induction es with
 | nil=>intro l i o h a;cases h;simp at a
 | cons e es b=>
  intro l i o h a
  rw[lX]at h
  cases he:f e with
  | none=>rw[he]at h;cases h
  | some o'=>
  rw[he]at h
  cases hm:es.mapM f with
  | none=>rw[hm]at h;cases h
  | some j=>
  rw[hm]at h
  cases h
  cases i with
  | zero=>simp at a;subst a;exact⟨e,rfl,he⟩
  | succ i=>obtain⟨c,d,g⟩:=b hm (by simpa using a);exact⟨c,by simpa using d,g⟩
theorem TI{ops:Array Oper}{id:Nat}{s:dI}{H:ai}{K:dI->ai->Prop}(h:Go.Ab.wpOps rp 31 40 false ops ops.toList s H K){tm:List AV}(l:dW tm s){M:Mem}{ι:Map}{a:Act}{w:World}(v:vH M ι ⟨tm,H⟩ 31 a w)
 (b:Frame) (j:b.kind = .normal) (k:List Item) (cs:List Frame) :
 ∃tm' e H' d w' M' c,K e H'/\dW tm' e/\vH M' c ⟨tm',H'⟩ 31 d w'/\tA M ι H.get w M' c H'.get w'/\d.defers=a.defers/\Steps Tryz.prog (lone (b.atR a (.code (.region id ops false) :: k)) cs w) (lone (b.atR d k) cs w'):=by
 obtain⟨e,H',q,g⟩:=KU h
 obtain⟨tm',i,n,t⟩:=g tm l
 obtain⟨d,w',⟨⟨M',c,m,o⟩,u⟩,p⟩:=CB (E:=rp) (id:=id) (λf xs y h=>wb u7 (DK u7 n) h) (λf xs H y H' h=>yP u7 (DK u7 n) h) u7.overs b k cs (t n (bD _)) v
 exact⟨tm',e,H',d,w',M',c,q,i,m,o,u,p j⟩
noncomputable def o20:Oper:=VH[0]!
noncomputable def Yb:Oper:=VH[1]!
theorem ad9:VH[0]?=some o20:=by kernel_rfl
theorem ad8:VH[1]?=some Yb:=by kernel_rfl
theorem Ub:VH.size=2:=by kernel_rfl
theorem ZT:Yb.op = .defer { callee := .builtin .close,args := #[.tmp 9],argTypes := #[96]}:=by kernel_rfl
theorem WV:Yb.dst=none:=by kernel_rfl
theorem Rz:Yb.guard=none:=by kernel_rfl
theorem Ui:Yb.type=0:=by kernel_rfl
theorem ahQ(pc:FuncId->List AV->Option AV)(tc:xd->List AV->ai->dv)(tm:List AV)(H:ai):evalOp rp pc tc 31 40 false VH o20 ⟨tm,H⟩=some ⟨yN tm 9 (cY tm 3),H⟩:=by kernel_rfl
theorem Wb{args:List AV}{H H':ai}{y:AV}(h:Cw args H=some (y,H')):qv Tryz.prog (.fn 23) args H y H':=by
 unfold Cw at h
 split at h
 case h_2=>cases h
 rename_i x
 split at h
 case h_2=>cases h
 rename_i es N
 split at h
 case h_2=>cases h
 rename_i l hl
 cases h
 have p:Tryz.prog.funcs[23]?=some Tryz.f23:=by kernel_rfl
 refine⟨⟨Tryz.f23,p,by kernel_rfl,by rw[Iz];rfl⟩,?_⟩
 intro M ι w us hS B hv cs
 have hF:=afz hS B
 obtain⟨u,rfl⟩ : ∃u,us=[u]:=by
  have:=hv.1
  match us,this with
  | [u],_=>exact⟨u,rfl⟩
 have hu:VR M ι x u:=hv.2 0 x u rfl rfl
 have hnt:Tryz.f23.ntmps=31:=by kernel_rfl
 have hO:=V9 hS B hv (n:=31) (by simp)
 let b:Frame := { (default:Frame)with fn:=23,kind := .normal,roundOf:=none}
 let body:Code := .seq (.region 0 op0 false) (.seq (.region 1 ZQ false) (.seq (.region 2 VH false) (.seq (.seq (Gq Ql) (Ae Ql)) cd4)))
 let a0:Act := { tmps:=[u].toArray++Array.replicate (31 - [u].toArray.size) undef,defers:=[]}
 have G:Frame.enter Tryz.prog 23 [u].toArray .normal=b.atR a0 [.code body]:=by
  simp only[Frame.enter,p,Iz,hnt]
  rfl
 obtain⟨tm1,s1,d,a1,w1,M1,ι1,hK1,ht1,hO1,hF1,hd1,hs1⟩:=TI (id:=0) (K:=λs d=>s 0=x/\d=H) (Y6 (λi=>cY [x] i) H _ ⟨rfl,rfl⟩) (λi=>rfl) hO b rfl [.code (.seq (.region 1 ZQ false) (.seq (.region 2 VH false) (.seq (.seq (Gq Ql) (Ae Ql)) cd4)))] cs
 obtain⟨hx0,rfl⟩:=hK1
 have z:ck env.P false d.get ⟨40,7,d.gen 40 7,0⟩ .len #[31] [s1 0]=some (aI es.length,[])/\es.length<=1000:=by
  rw[hx0]
  unfold xN at N
  split at N
  ·obtain⟨z,N⟩:=fa.1 N
   cases N
   exact⟨by simp,z⟩
  ·cases N;exact⟨by simp,by simp⟩
  ·cases N
 obtain⟨g,s2,H2,a2,w2,M2,ι2,hK2,Q,hO2,hF2,hd2,hs2⟩:=TI (id:=1) (K:=λs H2=>s 0=x/\s 3 = .ch (fh d)/\H2=keyed (fh d) 0 [jm es.length false []] d) (Y5 s1 d _ (by
  refine aaG z.1 ?_
  refine tI (v := .ch (fh d)) (H:=keyed (fh d) 0 [jm es.length false []] d) ?_ ⟨hx0,rfl,rfl⟩
  have hb:((Gf env.P 96).bind (nY env.P)).map (λb=>Nat.ble b 1000000)=some true:=by kernel_rfl
  obtain⟨nb,hb,hnb⟩:=bO.1 hb
  have hnb:=Ip hnb
  simp only[sD,hb]
  rw[if_pos ⟨by omega,by omega,by omega⟩]
  rfl)) ht1 hO1 b rfl [.code (.seq (.region 2 VH false) (.seq (.seq (Gq Ql) (Ae Ql)) cd4))] cs
 obtain⟨h20,h23,rfl⟩:=hK2
 have hpc:=λf xs y h=>wb u7 (DK u7 0) (f:=f) (args:=xs) (y:=y) h
 have htc:=λf xs H y H' h=>yP u7 (DK u7 0) (dep:=40) (t:=f) (args:=xs) (H:=H) (y:=y) (H':=H') h
 obtain⟨F,Y,⟨⟨M3,ι3,m,hF3⟩,hd3⟩,hs3⟩:=C1 (E:=rp) hO2 hpc htc u7.overs (ahQ _ _ _ _) ad9 b [1] [.code (.seq (.seq (Gq Ql) (Ae Ql)) cd4)] cs
 have h9:=m.tr.at_ 9
 have e9:cY (yN g 9 (cY g 3)) 9 = .ch (fh d):=by rw[oC,if_pos rfl,Q 3,h23]
 rw[e9]at h9
 generalize hcv:F.tmps.getD 9 undef=cv at h9
 cases h9 with | @ch _ _ A hr3 hz3=>
 have hd30:F.defers=[]:=by rw[hd3,hd2,hd1]
 obtain⟨a4,w4,⟨rfl,rfl⟩,hs4⟩:=PU (P:=Tryz.prog) (K:=λa' w'=>a' = { F with defers:=[wZ A.b #[96] 0 #[false]]}/\w'=Y) ad8 (by simp[Region.wanted,Rz]) b (by
  refine⟨λ_ _=>trivial,?_⟩
  have hev:F.eval (.tmp 9) = .chan (some A.b):=hcv
  have hrun:(Oper.semAt (FW b.roundOf).round F.eval Yb).run Tryz.prog Y = .ok (.defer (wZ A.b #[96] 0 #[false])) Y:=by
   show(execOp F.eval Yb).run Tryz.prog Y=_
   simp[execOp,ZT,resolve,Ui,hev,wZ]
  rw[hrun]
  show({ F with defers:=wZ A.b #[96] 0 #[false] :: F.defers}.put Yb.dst undef)=_/\Y=Y
  rw[WV,hd30]
  exact⟨rfl,rfl⟩) [] [.code (.seq (.seq (Gq Ql) (Ae Ql)) cd4)] cs
 have hO4:vH M3 ι3 ⟨yN g 9 (cY g 3),keyed (fh d) 0 [jm es.length false []] d⟩ 31 { F with defers:=[wZ A.b #[96] 0 #[false]]} w4:=⟨m.sim,m.dom,⟨λt=>m.tr.at_ t⟩,m.nt⟩
 have hag:dW (yN g 9 (cY g 3)) (L3 (λi=>cY (yN g 9 (cY g 3)) i) [(3,.ch (fh d)),(0,x)]):=by
  intro i
  by_cases e3:i=3
  ·subst e3;rw[oC,if_neg (by omega),Q 3,h23];rfl
  ·by_cases e0:i=0
   ·subst e0;rw[oC,if_neg (by omega),Q 0,h20];rfl
   ·have b3:Nat.beq i 3=false:=by cases h:Nat.beq i 3 with | false=>rfl | true=>exact absurd (kf h) e3
    have b0:Nat.beq i 0=false:=by cases h:Nat.beq i 0 with | false=>rfl | true=>exact absurd (kf h) e0
    simp only[L3,b3,b0,cond_false]
 obtain⟨y,H3,⟨rfl,J,hold⟩,n,hn⟩:=(Wc N hl hF).h _ _ hag
 obtain⟨U,q,T,rfl⟩:=hn n (bD _)
 rw[hnt,Pz]at q
 have hok:(pM.all (ni (D7 rp)))=true:=by kernel_rfl
 rw[Pz]at hok
 obtain⟨V,w5,todo,ds,⟨M5,Z,W,hF5⟩,hd5,C,hs5⟩:=DK u7 n none 31 40 _ _ U q (λi hi=>fZ.1 hok i hi) M3 ι3 _ w4 hO4 b cs rfl rfl
 obtain⟨w6,hs6,g1,g2,g3,g4,g5⟩:=Km (P:=Tryz.prog) (fr := { b.atR V todo with mode := .returning}) (cs:=cs) (rest:=[wZ A.b #[96] 0 #[false]]) ds w5 rfl C.1 (λD B=>(C.2 D B).2)
 have hfr : { { b.atR V todo with mode := .returning} with defers:=marks ds++[wZ A.b #[96] 0 #[false]]} = { b.atR V todo with mode := .returning}:=by rw[<-hd5];rfl
 rw[hfr]at hs6
 have hS6:=W.sim.other (λD B=>(C.2 D B).2) g5
 have I:=((hF1.trans hF2).trans hF3)
 have a:=I.trans hF5
 have hF6:tA M ι d.get w M5 Z U.hp.get w6:=by
  refine⟨g1.trans a.os,g2.trans a.tape,g3.trans a.output,by rw[g4];exact a.size,λb0 hb0 hno=>?_,a.mem,a.map,a.live,a.new⟩
  rw[g5 b0 λB=>absurd (C.2 b0 B).1 (by have:=I.size;omega)]
  exact a.chg b0 hb0 hno
 have X:Z (fh d)=some A:=hF5.map _ _ hr3
 obtain⟨s6,t6,arr,hh6,hsz,hel⟩:=Fa hS6 X (y8 J)
 have hs7:=N3 (P:=Tryz.prog) (fr := { { b.atR V todo with mode := .returning} with defers:=[wZ A.b #[96] 0 #[false]]}) (cs:=cs) rfl rfl hh6
 have j:Tryz.f23.results = #[.tmp 2]:=by kernel_rfl
 have h52:cY U.tm 2 = .ch (fh d):=by
  simpa [uU,j,ky] using T
 have S:=W.tr.at_ 2
 rw[h52]at S
 generalize O:V.tmps.getD 2 undef=cv2 at S
 cases S with | @ch _ _ l5 L hz5=>
 rw[X]at L
 cases L
 have R : ∀e∈l.filterMap id,flat depth e=true:=by
  intro e he
  obtain⟨o,ho,he⟩:=Ny.1 he
  obtain⟨i,hi,hio⟩:=qK ho
  obtain⟨c,hc,hf⟩:=jN hl (by rw[eC hi,hio])
  obtain⟨k,x1,x2,x3,x4,x5,x6,x7,x8,x9,x10,x11,x12,x13,x14,x15,x16,x17,x18,x19,x20,x21,x22,x23,_,R,_,rfl⟩:=Cx hf
  split at he
  ·cases he
  ·cases he;exact R
 refine⟨.returned (.chan (some A.b)),_,({ { b.atR V todo with mode := .returning} with defers:=[]}:Frame),⟨_,rfl,Ux hS B rfl rfl hS6 hF6 W.dom X hz3 J hh6 hsz hel R hold⟩,?_,rfl,rfl,rfl,rfl,Tryz.f23,p,?_⟩
 rotate_left
 ·show(results Tryz.f23 V.tmps).run Tryz.prog _=_
  rw[Bh]at O
  simp[results,j,O]
 ·show Steps Tryz.prog _ _
  rw[show(#[u]:Array Value)=[u].toArray from rfl,G]
  refine Steps.trans (.one stepR_seq) (Steps.trans hs1 (Steps.trans (.one stepR_seq) (Steps.trans hs2 (Steps.trans (.one stepR_seq) (Steps.trans (.one stepR_region) ?_)))))
  rw[Ub]
  refine Steps.trans (hs3 rfl) (Steps.trans hs4 (Steps.trans (.one stepR_region_end) (Steps.trans (.one stepR_seq) (Steps.trans (.one stepR_seq) (Steps.trans hs5 (Steps.trans hs6 (.one hs7)))))))
end Go.Proofs.YtdbiffjdomokfaaGreat
namespace Go.Proofs.YtdbiffjdomokfaaGreat
open Go.Ab
attribute [local simp] aU aK aG aW aV cz lT ba aO aQ cg cf bI bc ay bE gw
def fB(l:List Int):List UInt8:=l.flatMap λn=>be 4 n
theorem yT(l:List Int):(fB l).length=4 * l.length:=by
 induction l with
 | nil=>rfl
 | cons n l a=>show(be 4 n++fB l).length=_;rw[oN,a,Vi,nx];omega
theorem Ra{l:List Int}{o:AV}(u:Sl 1 (rows l) o)(S:l.length<100000)(L : ∀n∈l, -2147483648<=n/\n<=2147483647){Q:AV->ai->Prop} :
 ∀(s:List Int)(k:Nat)(i:Int)(a:List Int)(j:AV)(H:ai),l.drop k=s->k<=l.length->i=k->a.length=k->Fr H->tz [32] 1 (jR (fB a)) H j->(a=[]->j=bZ) ->
 (∀y H',tz [32] 1 (jR (fB (a++s))) H' y->(a++s=[]->y=bZ)->Q (.tup [y,aI 0]) H') ->
 bB env Tryz.f121 0 rf [(15,aI i),(5,j),(13,o),(14,aI l.length)] H Q:=by
 intro s
 induction s with
 | nil=>
  rintro k i a j H hs hk rfl ha hF hO hN hQ
  obtain rfl:=drop_nil hs hk
  refine z6 _ _ _ _ _ _ λg=>?_
  have d:=hQ j H (by simpa using hO) (by simpa using hN)
  clear hQ hO hN
  simp[af,ah,ad,ae,aa, *,rE,u.len]
  all_goals exact d
 | cons n s C=>
  rintro k i a j H hs hk rfl ha hF hO hN hQ
  obtain⟨G,F,w,A⟩:=drop_cons hs
  have K:=L n (by rw[<-F];exact lM _)
  have T:=IntWalk.i64_in ((k:Int)+1) (by omega)
  refine z6 _ _ _ _ _ _ λg=>?_
  have I:bW (rows l) k 0 1 false=some (.v (.int .i32 n)):=by simp[rows,A,aR]
  have J:n.fdiv (2 ^ min 24 IntKind.i32.bits)=n / 16777216:=by rw[show(2:Int) ^ min 24 IntKind.i32.bits=16777216 from rfl];exact fu n 16777216
  have N:n.fdiv (2 ^ min 16 IntKind.i32.bits)=n / 65536:=by rw[show(2:Int) ^ min 16 IntKind.i32.bits=65536 from rfl];exact fu n 65536
  have P:n.fdiv (2 ^ min 8 IntKind.i32.bits)=n / 256:=by rw[show(2:Int) ^ min 8 IntKind.i32.bits=256 from rfl];exact fu n 256
  have p:=λz H'=>C (k+1) ((k:Int)+1) (a++[n]) z H' w (by omega) (by simp) (by simp;omega)
  have d : ∀y H',tz [32] 1 (jR (fB ((a++[n])++s))) H' y->((a++[n])++s=[]->y=bZ)->Q (.tup [y,aI 0]) H':=λy H' h K=>hQ y H' (by simpa using h) (λe=>by simp at e)
  have q:=yT a
  have b:(jR (fB a)).length=4 * a.length:=by rw[show(jR (fB a)).length=(fB a).length from by simp,q]
  have f : ∀(g m:Nat)(H':ai),m=4 * a.length+4->H'.get ⟨0,32,g,0⟩=some ⟨1,jR (fB a)++[a8 (u8 (n / 16777216)),a8 (u8 (n / 65536)),a8 (u8 (n / 256)),a8 (u8 n)],true,false⟩->tz [32] 1 (jR (fB (a++[n]))) H' (.cC ⟨0,32,g,0⟩ 0 m none):=by
   intro g m H' M h
   subst M
   have e:jR (fB (a++[n]))=jR (fB a)++[a8 (u8 (n / 16777216)),a8 (u8 (n / 65536)),a8 (u8 (n / 256)),a8 (u8 n)]:=by simp[fB,Pg,jR]
   rw[e]
   exact .inr ⟨32,g,by simp,by rw[oN,b];rfl,h⟩
  clear hQ hN C
  rcases hO with ⟨rfl,E⟩ | ⟨t,gg,B,rfl,D⟩
  ·have x:a=[]:=by
    have:=congrArg List.length E
    rw[b]at this
    simp only[Fk]at this
    exact Cb (by omega)
   subst x
   have c:=f (H.gen 0 32) 4
   clear f
   simp[af,ah,ad,ae,aa, *,rE,u.r,u.idx,gh,fu]
   exact p _ _ (by simp(maxDischargeDepth:=12) [ai.get_put,an,aj,Fr.nil,au,af,ah,ad,ae,ao,ak,aa, *]) (c _ rfl (by simp[fB])) (λe=>by simp at e) d
  ·rw[uC]at B
   subst B
   have O:(H.get ⟨0,32,gg,0⟩).isSome=true:=by rw[D];rfl
   have R:jW 1 1 (jR (fB a)).length true none (some ⟨1,jR (fB a),true,false⟩) (some [a8 (u8 (n / 16777216)),a8 (u8 (n / 65536)),a8 (u8 (n / 256)),a8 (u8 n)]):=by
    rw[aO,b];refine⟨rfl,b.symm ▸ rfl,.inr ⟨?_,rfl⟩⟩;simp;omega
   have c:=λH'=>f (H.gen 0 32) ((jR (fB a)).length+4) H' (by rw[b])
   clear f ha b q
   generalize jR (fB a)=bs at *
   simp[af,ah,ad,ae,aa, *,rE,u.r,u.idx,gh,fu]
   exact p _ _ (by simp(maxDischargeDepth:=12) [ai.get_put,an,aj,Fr.nil,au,af,ah,ad,ae,ao,ak,aa, *]) (c _ (by simp)) (λe=>by simp at e) d
theorem Wi{l:List Int}{x:AV}(d:Sl 1 (rows l) x)(u:l.length<100000)(o : ∀n∈l, -2147483648<=n/\n<=2147483647):aF env 121 [x]=some (if A9 l=0 then .tup [xU 1 (jR (fB l)),aI 0] else .tup [bZ,aI (A9 l)]):=by
 refine aH rfl (by kernel_rfl) (JK _ _ _ λg=>?_)
 have j:=DJ d (by omega)
 have w:=d.len
 by_cases h:A9 l=0
 ·rw[if_pos h]
  rw[h]at j
  have a:=λH Q=>Ra d u o (H:=H) (Q:=Q) l 0 0 [] bZ rfl (by omega) rfl rfl
  have c : ∀y H',tz [32] 1 (jR (fB ([]++l))) H' y->([]++l=[]->y=bZ)->view H'.get 8 (.tup [y,aI 0])=some (.tup [xU 1 (jR (fB l)),aI 0]):=by
   intro y H' i b
   rw[tL]at i b
   rcases i with ⟨rfl,m⟩ | ⟨t,gg,v,rfl,k⟩
   ·rw[m];simp[xU]
   ·have f:jR (fB l)≠[]:=by
     intro e
     have q:=congrArg List.length e
     have A:=yT l
     have z:(jR (fB l)).length=(fB l).length:=by simp
     simp only[Fk]at q
     have:l=[]:=Cb (by omega)
     cases b this
    rw[CL 1 f]
    generalize jR (fB l)=bs at *
    simp[k]
  have run:=λH p=>a H (λx H=>view H.get 8 x=some (.tup [xU 1 (jR (fB l)),aI 0])) p (.inl ⟨rfl,rfl⟩) (λ_=>rfl) c
  clear a c h
  generalize xU 1 (jR (fB l))=yo at *
  simp[af,ah,ad,ae,aa, *,zf,d.r]
  all_goals exact run _ (by simp(maxDischargeDepth:=12) [an,aj,Fr.nil,au,af,ah,ad,ae,ao,ak,aa, *])
 ·rw[if_neg h]
  simp[af,ah,ad,ae,aa, *,zf,d.r]
theorem Nb{P:Program}{t t':TypeId}(p:pT P t=true)(c:isInt P t'=true)(i:(jE P t).cells.all AV.one=true)(B:Bool)(H:ai)(r:Ref)(n:Int)(E:0<n)(v:n<=bI)(u:n.toNat * ug P t<=bI) :
 jn P B H r (some t) (some t') bZ (aI n)=some (.cC r 0 n.toNat none,({ r with k:=0},some ⟨nL P t,List.replicate n.toNat (jE P t),true,false⟩) :: H):=by
 unfold pT at p
 obtain⟨e,b,l,j,D,g,m,F,o,q⟩:=lb p
 have A:jE P t=b:=by unfold jE;rw[l,fy,g];rfl
 rw[A]at i ⊢
 have f:(P.underlying t').isNone=false:=by
  unfold isInt at c
  cases h:P.underlying t' with
  | none=>rw[h]at c;cases c
  | some d=>rfl
 have y : ¬((P.underlying t').isNone=true\/isInt P t'≠isNum (aI n)):=by rw[f,c];simp[isNum]
 have x : ¬(nL P t≠nL P t\/nL P t=0\/ug P t=0\/b.cells.length≠nL P t):=by simp[m,o,q]
 have a:pg P H.get e (aI n)=some (nL P t,List.replicate n.toNat b):=by
  show(match eD P e,aJ P e with | some w,some z=>if 0<=n/\n<=bI/\w.cells.length=z/\w.cells.all AV.one then some (z,List.replicate n.toNat w) else none | _,_=>none)=_
  rw[g,j]
  exact if_pos ⟨by omega,v,by simp[m,o,q],i⟩
 have C:List.replicate n.toNat b≠[]:=by
  intro h
  have:=congrArg List.length h
  simp only[List.length_replicate,Fk]at this
  omega
 simp only[jn,jv,fy,l,Option.map_some,fQ,if_neg y,j,D,g,a,if_neg x,if_neg C,List.length_replicate,if_pos u]
 rfl
@[simp] theorem acB(g:db)(r:Ref):ck env.P false g r .cap #[137] [bZ]=some (aI 0,[]):=by kernel_rfl
theorem Zn(n:Int)(c:0<n)(e:n<1000000):aF env 138 [bZ,aI n]=some (.fsl 1 [] none):=by
 refine aH rfl (by kernel_rfl) (tT _ _ _ _ λg=>?_)
 have f : ¬n<0:=by omega
 have i:=IntWalk.i64_in n (by omega)
 have d:IntKind.i64.wrap 0=0:=rfl
 have b:n<=140737488355328:=by omega
 have h:n.toNat<=140737488355328:=by omega
 have j:0<n.toNat:=by omega
 have a:=Nb (P:=env.P) (t:=137) (t':=3) (by simp) (by simp) (by simp) true [] ⟨0,22,0,0⟩ n c b (by simp;omega)
 simp[af,ah,ad,ae,aa, *,nI, -a]
 refine tI a ?_
 simp
 all_goals omega
def k9(s:List (List UInt8 × AV)):List UInt8:=s.flatMap (·.1)
theorem R3{ps:List (List UInt8 × AV)}{x0:AV}(l:Sl 1 (ps.map (·.2)) x0)(hp : ∀p∈ps,Sl 1 (jR p.1) p.2)(J:ps.length<100000)(G:(k9 ps).length<1000000){Q:AV->ai->Prop} :
 ∀(s:List (List UInt8 × AV)) (k:Nat) (i:Int) (acc:List UInt8) (gg:Nat) (H:ai),ps.drop k=s->k<=ps.length->i=k->acc.length+(k9 s).length=(k9 ps).length->Fr H->H.get ⟨0,24,gg,0⟩=some ⟨1,jR acc,true,false⟩ ->
 (∀g H',H'.get ⟨0,24,g,0⟩=some ⟨1,jR (acc++k9 s),true,false⟩->Q (.cC ⟨0,24,g,0⟩ 0 (acc++k9 s).length none) H') ->
 bB env Tryz.f120 0 dt [(27,aI i),(6,.cC ⟨0,24,gg,0⟩ 0 acc.length none),(25,x0),(26,aI ps.length)] H Q:=by
 intro s
 induction s with
 | nil=>
  rintro k i acc gg H hs hk rfl ha hF hr hQ
  obtain rfl:=drop_nil hs hk
  refine k5 _ _ _ _ _ _ λg=>?_
  have c:=hQ gg H (by simpa [k9] using hr)
  simp only[k9,FG,sV]at c
  clear hQ hr
  simp[af,ah,ad,ae,aa, *,eL]
  all_goals exact c
 | cons p s u=>
  rintro k i acc gg H hs hk rfl ha hF hr hQ
  obtain⟨y,w,m,q⟩:=drop_cons hs
  have d:=hp p (by rw[<-w];exact lM _)
  obtain⟨b,x⟩:=p
  simp only at d
  have K:=IntWalk.i64_in ((k:Int)+1) (by omega)
  have o:k9 ((b,x) :: s)=b++k9 s:=rfl
  rw[o]at ha hQ
  rw[oN]at ha
  have z:bW (ps.map (·.2)) k 0 1 false=some x:=by simp[q,d.r]
  have D:(ps.map (·.2)).length=ps.length:=by simp
  have f:(jR b).length=b.length:=by simp
  have j:(jR acc).length=acc.length:=by simp
  have F:(H.get ⟨0,24,gg,0⟩).isSome=true:=by rw[hr];rfl
  have e:=λg H'=>u (k+1) ((k:Int)+1) (acc++b) g H' m (by omega) (by simp) (by simp;omega)
  have c : ∀g H',H'.get ⟨0,24,g,0⟩=some ⟨1,jR ((acc++b)++k9 s),true,false⟩->Q (.cC ⟨0,24,g,0⟩ 0 ((acc++b)++k9 s).length none) H':=λg H' h=>by
   have:=hQ g H' (by rw[<-B8];exact h)
   rw[<-B8]at this
   exact this
  clear hQ u hp hs
  refine k5 _ _ _ _ _ _ λg=>?_
  have C:=d.kM
  by_cases t:b=[]
  ·subst t
   have a:=e gg H hF
   simp only[sV]at a c
   have n:=a hr c
   clear a e c
   simp[af,ah,ad,ae,aa, *,eL,l.r,l.idx,d.r,d.kM]
  ·have E:jR b≠[]:=by simpa using t
   have I:jW 1 1 acc.length true none (some ⟨1,jR acc,true,false⟩) (some (jR b)):=by
    rw[aO,f,j];exact⟨rfl,rfl,.inr ⟨by simp;omega,rfl⟩⟩
   have a:=e (H.gen 0 24)
   have v:jR (acc++b)=jR acc++jR b:=Fj ..
   rw[v]at a
   rw[show(acc++b).length=(jR acc).length+(jR b).length by rw[f,j,oN]]at a
   clear e f j ha v
   generalize jR acc=A at *
   generalize jR b=B at *
   simp[af,ah,ad,ae,aa, *,eL,l.r,l.idx,d.r,d.kM]
   exact a _ (by simp(maxDischargeDepth:=12) [ai.get_put,an,aj,Fr.nil,au,af,ah,ad,ae,ao,ak,aa, *]) (by simp) c
theorem R4{ps:List (List UInt8 × AV)}{x0:AV}(l:Sl 1 (ps.map (·.2)) x0)(hp : ∀p∈ps,Sl 1 (jR p.1) p.2)(C:ps.length<100000)(A:(k9 ps).length<1000000)(B:0<(k9 ps).length){H:ai}{Q:AV->ai->Prop}
 (a : ∀H',Fr H'->H'.get ⟨0,24,H.gen 0 24,0⟩=some ⟨1,[],true,false⟩->bB env Tryz.f120 0 dt [(27,aI 0),(6,.cC ⟨0,24,H.gen 0 24,0⟩ 0 0 none),(25,x0),(26,aI ps.length)] H' Q) :
 ∀(s:List (List UInt8 × AV)) (k:Nat) (i n:Int),ps.drop k=s->k<=ps.length->i=k->0<=n->n+(k9 s).length=(k9 ps).length->Fr H ->
 bB env Tryz.f120 0 dE [(11,aI i),(3,aI n),(9,x0),(0,x0),(10,aI ps.length)] H Q:=by
 intro s
 induction s with
 | nil=>
  rintro k i n hs hk rfl hn0 hn hF
  obtain rfl:=drop_nil hs hk
  refine lN _ _ _ _ _ _ _ λg=>?_
  have f:n=(k9 ps).length:=by simpa [k9] using hn
  have z:=Zn n (by omega) (by omega)
  have m:(ps.map (·.2)).length=ps.length:=by simp
  clear f hn hp
  simp[af,ah,ad,ae,aa, *,ir,l.r]
  exact a _ (by simp(maxDischargeDepth:=12) [ai.get_put,an,aj,Fr.nil,au,af,ah,ad,ae,ao,ak,aa, *]) (by simp)
 | cons p s q=>
  rintro k i n hs hk rfl hn0 hn hF
  obtain⟨u,t,e,j⟩:=drop_cons hs
  have c:=hp p (by rw[<-t];exact lM _)
  obtain⟨b,x⟩:=p
  simp only at c
  have h:k9 ((b,x) :: s)=b++k9 s:=rfl
  rw[h,oN]at hn
  have D:=IntWalk.i64_in ((k:Int)+1) (by omega)
  have y:=IntWalk.i64_in (n+(b.length:Int)) (by omega)
  have v:bW (ps.map (·.2)) k 0 1 false=some x:=by simp[j,c.r]
  have m:(ps.map (·.2)).length=ps.length:=by simp
  have w:(jR b).length=b.length:=by simp
  have o : ¬n+(b.length:Int)<0:=by omega
  have d:=q (k+1) ((k:Int)+1) (n+(b.length:Int)) e (by omega) (by simp) (by omega) (by omega) hF
  refine lN _ _ _ _ _ _ _ λg=>?_
  clear q a hp hs hn
  simp[af,ah,ad,ae,aa, *,ir,l.r,l.idx,c.r]
  all_goals exact d
theorem Lz{ps:List (List UInt8 × AV)}{x0:AV}(c:Sl 1 (ps.map (·.2)) x0)(hp : ∀p∈ps,Sl 1 (jR p.1) p.2)(i:ps.length<100000)(h:(k9 ps).length<1000000)(m:0<(k9 ps).length):aF env 120 [x0]=some (.fsl 1 (jR (k9 ps)) none):=by
 refine aH rfl (by kernel_rfl) (sZ _ _ _ λg=>?_)
 have o:(ps.map (·.2)).length=ps.length:=by simp
 have k:=c.len
 have e:(jR (k9 ps)).length=(k9 ps).length:=by simp
 have l:=λH' Q f d=>R3 c hp i h (Q:=Q) ps 0 0 [] 0 H' rfl (by omega) rfl (by simp) f d
 have n:=λQ b=>R4 c hp i h m (H:=[]) (Q:=Q) b ps 0 0 0 rfl (by omega) rfl (by omega) (by omega) Fr.nil
 clear hp
 simp[af,ah,ad,ae,aa, *,mG,c.r]
 refine n _ λH' f d=>l H' _ f d λq j a=>?_
 rw[tL]at a ⊢
 rw[<-e]
 generalize jR (k9 ps)=B at *
 simp[a]
end Go.Proofs.YtdbiffjdomokfaaGreat
