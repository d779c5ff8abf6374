/-
  What is to be shown of each function, computed from its code. No statement of a seat is proved here.
-/
import Derived.Test.YtiidajnodhkidaaGreatMSrVc5
set_option linter.unusedVariables false
set_option linter.unusedSimpArgs false
set_option linter.unusedSectionVars false
set_option linter.unnecessarySimpa false
set_option maxRecDepth 1000000
set_option linter.defProp false
noncomputable section
namespace Go.Proofs.YtiidajnodhkidaaGreat
open Go.Ab
section
variable(dep:Nat)(g:Nat->AV)(x0 b a:AV)(H:aa)(Q:AV->aa->Prop)
def JR:Code:=(Tryz.f70.body).getD .skip
def kU:List Item:=(mm 10008 400 [.code JR]).getD []
def bK:Code:=rfA kU
def bJ:Code:=rfB kU
def vj:List Item:=rfK kU
def xK:Nat->Option (List Nat):=λi=>cond (Nat.beq i 10008) (some [34,6,10,5,4]) (none)
def CA:Nat->Bool:=λi=>false
def uj:Prop:=
 dh H 3 51 x0 λB N=>
 dh N 4 3 b λy E=>
 dh E 5 3 a λz L=>
 dK L 6 122 λi A=>
 ab A 51 B λD=>
 wO 107 0 D λM=>
 bh true A 17 51 [M] λC n=>
 ba C 0 λF=>
 ba C 1 λI=>
 mQ I λp=>
 br (some p) (
 Mo n 122 i λf k=>
 aZ k i 122 λd=>
 Q (.tup [d,(.v (.int .i64 8))]) k) (
 ab n 51 B λf=>
 bh true n 24 105 [f] λd k=>
 ba d 0 λt=>
 ba d 1 λJ=>
 dK k 10 3 λe K=>
 aM K 3 e t λG j=>
 ab j 3 y λm=>
 ab j 3 z λo=>
 ab j 3 e λs=>
 fO (oK env.P 132 (some [(0,m),(1,o),(3,s)])) λq=>
 bh true j 31 106 [q] λl x=>
 mQ l λw=>
 br (some w) (
 Mo x 122 i λh c=>
 aZ c i 122 λu=>
 Q (.tup [u,(.v (.int .i64 2))]) c) (
 bh true x 34 107 [F,(.v (.int .i64 119))] λh c=>
  cy env Tryz.f70 0 kU [(34,h),(6,i),(10,e),(5,z),(4,y)] c Q))
theorem Jn(h : ∀g:fq,uj x0 b a H Q):fa Tryz.f70 0 [(0,x0),(1,b),(2,a)] H Q:=uP xK (by kernel_rfl) h
def uN(g:Nat->AV)(c:AV)(H:aa)(Q:AV->aa->Prop):Prop:=
 ab H 122 c λe=>
 aM H 122 c e λh d=>
 aZ d c 122 λf=>
 Q (.tup [f,(.v (.int .i64 0))]) d
theorem AP(c:AV)(H:aa)(Q:AV->aa->Prop)(h : ∀g,uN g c H Q):cy env Tryz.f70 0 vj [(6,c)] H Q:=⟨λg=>vh (live:=xK) (cut:=CA) (n:=500) (Eq.mp (by kernel_rfl) (h g))⟩
def kX(r:Ref)(g:Nat->AV)(f x10 x5 x4 s:AV)(H:aa)(Q:AV->aa->Prop):Prop:=
 bgP (yW H r) λm=>
 fO (oT env.P (aa.get (aa.put H r (some (eU 1 m)))) 3 (some x4)) λD=>
 kA (bS env false (ay env) (eZ env 2) (aa.put H r (some (eU 1 m))) (⟨2,37,aa.gen (aa.put H r (some (eU 1 m))) 2 37,0⟩:Ref) (some (.fn (.func 109) [] [])) [D,(.v (.int .i64 4))]) λF p=>
 ab p 3 x5 λK=>
 kA (bS env false (ay env) (eZ env 2) p (⟨2,39,aa.gen p 2 39,0⟩:Ref) (some (.fn (.func 109) [] [])) [K,(.v (.int .i64 3))]) λA c=>
 ab c 122 f λG=>
 fO (eD env.P false (aa.get c) (⟨2,41,aa.gen c 2 41,0⟩:Ref) .len #[122] [G]) λJ=>
 fO (cE env.P (aa.get c) (⟨2,42,aa.gen c 2 42,0⟩:Ref) 3 5 (some J)) λB=>
 ab c 3 x10 λE=>
 fO (cE env.P (aa.get c) (⟨2,44,aa.gen c 2 44,0⟩:Ref) 3 5 (some E)) λl=>
 kA (lI env.P true false c (⟨2,45,aa.gen c 2 45,0⟩:Ref) 76 2 (some [(0,B),(1,l)])) λn y=>
 kA (lI env.P true false y (⟨2,47,aa.gen y 2 47,0⟩:Ref) 122 4 (some [(0,F),(1,A),(2,n),(3,s)])) λo z=>
 kA (bS env false (ay env) (eZ env 2) z (⟨2,48,aa.gen z 2 48,0⟩:Ref) (some (.fn (.func 108) [] [])) [o]) λe h=>
 ab h 122 f λj=>
 fO (eD env.P false (aa.get h) (⟨2,52,aa.gen h 2 52,0⟩:Ref) .len #[76] [e]) λt=>
 QT 3 128 52 t λi=>
 kA (ee env.P true h (⟨2,54,aa.gen h 2 54,0⟩:Ref) (some 76) (some 3) e i) λd x=>
 kA (lI env.P true true x (⟨2,55,aa.gen x 2 55,0⟩:Ref) 122 1 (some [(0,d)])) λk w=>
 kA (ee env.P true w (⟨2,56,aa.gen w 2 56,0⟩:Ref) (some 122) (some 122) j k) λq C=>
 aM C 122 f q λI u=>
  qy [(f,e),(f,d)] [f] [d] u /\
 (Q (.v (.int .i64 0)) u)
theorem BZ(r:Ref)(d x10 x5 x4 c:AV)(H:aa)(Q:AV->aa->Prop)(h : ∀g,kX r g d x10 x5 x4 c H Q):XK env Tryz.f70 (some r) 2 [.code bK,.beginRound,.code bJ] [(6,d),(10,x10),(5,x5),(4,x4),(35,c)] H Q:=⟨λg=>vh (live:=xK) (cut:=CA) (n:=500) (Eq.mp (by kernel_rfl) (h g))⟩
def mj:=ta Tryz.f117 8
def Cu:Nat->Option (List Nat):=λi=>cond (Nat.beq i 8) (some [29,5,27,2,3,0,28]) (none)
def uo:Prop:=
 dK H 2 51 λd y=>
 dK y 3 132 λc f=>
 dg f 11 122 x0 λx=>
 vM 3 11 0 x λA=>
 br (some A) (
 ab f 51 d λk=>
 ab f 132 c λm=>
 aM f 51 d k λq t=>
 aM t 132 c m λu e=>
  qy [(c,d)] [d,c] [] e /\
 (aZ e d 51 λj=>
 aZ e c 132 λi=>
 Q (.tup [j,i,(.v (.int .i64 8))]) e)) (
 fD f 122 x0 0 λk=>
 ab f 76 k λm=>
 bh true f 19 76 [m] λq t=>
 ba q 0 λu=>
 ba q 1 λj=>
 aM t 132 c u λi e=>
 iW 30 22 0 j λn=>
 br (some n) (
 ab e 51 d λh=>
 eI 132 λs=>
 aM e 51 d h λw z=>
 aM z 132 c s λB p=>
 aZ p d 51 λl=>
 aZ p c 132 λo=>
 Q (.tup [l,o,j]) p) (
 dg e 28 122 x0 λh=>
  cy env Tryz.f117 0 mj [(29,(.v (.int .i64 0))),(5,(.v (.slice none 0 0))),(27,x0),(2,d),(3,c),(0,x0),(28,h)] e Q))
theorem Jo(h : ∀g:fq,uo x0 H Q):fa Tryz.f117 0 [(0,x0)] H Q:=uP Cu (by kernel_rfl) h
def fG(g:Nat->AV)(j x5 n a c x0 s:AV)(H:aa)(Q:AV->aa->Prop):Prop:=
 fC 3 29 28 j s λO=>
 br (some O) (
 dF H 122 n j λA=>
 ab H 76 A λu=>
 dg H 36 76 u λq=>
 fO (eD env.P false (aa.get H) (Ref.mk 0 37 (aa.gen H 0 37) 0) .min #[3,3] [q,(.v (.int .i64 9))]) λt=>
 fO (dx env.P (aa.get H) 76 (some u) (oi t) (some none) (some none)) λx=>
 dI H 39 76 76 x5 x λy p=>
 gJ 3 29 1 j λm=>
  cy env Tryz.f117 0 mj [(29,m),(5,y),(27,n),(2,a),(3,c),(0,x0),(28,s)] p Q) (
 dg H 42 76 x5 λA=>
 om 3 42 8 A λu=>
 br (some u) (
 ab H 51 a λq=>
 eI 132 λt=>
 aM H 51 a q λx p=>
 aM p 132 c t λy e=>
 aZ e a 51 λm=>
 aZ e c 132 λB=>
 Q (.tup [m,B,(.v (.int .i64 8))]) e) (
 bh true H 47 152 [x5] λq p=>
 aM p 51 a q λt e=>
 ab e 51 a λx=>
 ah 132 c 0 λy=>
 ab e 3 y λm=>
 ah 132 c 1 λB=>
 ab e 3 B λF=>
 bh true e 54 70 [x,m,F] λo N=>
 ba o 0 λG=>
 ba o 1 λK=>
 iW 30 57 0 K λd=>
 gQ d false (bX G) λM=>
 gQ d false (bX x0) λz=>
 gW d false N (fB true N 62 153 [M,z,(.fn (.func 87) [] [])]) λC w=>
 gQ d false (vK C) λE=>
 dH d E λJ=>
 br (some J) (
 eI 51 λk=>
 eI 132 λi=>
 aM w 51 a k λL D=>
 aM D 132 c i λI f=>
 aZ f a 51 λl=>
 aZ f c 132 λh=>
 Q (.tup [l,h,(.v (.int .i64 8))]) f) (
 ab w 51 a λk=>
 ab w 132 c λi=>
 aM w 51 a k λL D=>
 aM D 132 c i λI f=>
  qy [(c,a)] [a,c] [] f /\
 (aZ f a 51 λl=>
 aZ f c 132 λh=>
 Q (.tup [l,h,(.v (.int .i64 0))]) f))))
theorem ox(d x5 c a f x0 e:AV)(H:aa)(Q:AV->aa->Prop)(h : ∀g,fG g d x5 c a f x0 e H Q):cy env Tryz.f117 0 mj [(29,d),(5,x5),(27,c),(2,a),(3,f),(0,x0),(28,e)] H Q:=uc Cu (by kernel_rfl) h
def sO:Prop:=
 dK H 2 132 λh k=>
 dg k 6 76 x0 λD=>
 iW 3 6 128 D λF=>
 br (some F) (
 eI 132 λx=>
 aM k 132 h x λz i=>
 aZ i h 132 λl=>
 Q (.tup [l,(.v (.int .i64 8))]) i) (
 fO (dx env.P (aa.get k) 76 (some x0) (some none) (oi (.v (.int .i64 4))) (some none)) λx=>
 bh false k 11 118 [x] λz i=>
 fO (dx env.P (aa.get i) 76 (some x0) (oi (.v (.int .i64 4))) (oi (.v (.int .i64 7))) (some none)) λl=>
 bh false i 14 118 [l] λG d=>
 fD d 76 x0 7 λB=>
 ab d 5 B λE=>
 dC d 18 5 3 E λy=>
 fD d 76 x0 8 λo=>
 ab d 5 o λp=>
 dC d 22 5 3 p λw=>
 Fq 132 0 z 1 G 2 y 3 w λm=>
 dK d 4 132 λf I=>
 aM I 132 f m λC A=>
 ab A 132 f λq=>
 bh true A 25 106 [q] λu t=>
 mQ u λs=>
 br (some s) (
 eI 132 λc=>
 aM t 132 h c λn j=>
 aZ j h 132 λe=>
 Q (.tup [e,(.v (.int .i64 8))]) j) (
 ab t 132 f λc=>
 aM t 132 h c λn j=>
 aZ j h 132 λe=>
 Q (.tup [e,(.v (.int .i64 0))]) j))
theorem Hq(h : ∀g:fq,sO x0 H Q):fa Tryz.f76 0 [(0,x0)] H Q:=kf (by kernel_rfl) h
def CF:Prop:=
 dh H 1 132 x0 λi d=>
 ah 132 i 0 λJ=>
 ab d 3 J λL=>
 vN 3 4 1 L λl=>
 gQ l true (au 132 i 0) λI=>
 gQ l true (an d 3 I) λM=>
 gQ l true (wR 3 8 2147483648 M) λN=>
 cr l N λk=>
 gQ k true (au 132 i 1) λK=>
 gQ k true (an d 3 K) λt=>
 gQ k true (oh 3 13 1 t) λx=>
 cr k x λh=>
 gQ h true (au 132 i 1) λC=>
 gQ h true (an d 3 C) λo=>
 gQ h true (wR 3 18 16777216 o) λG=>
 cr h G λe=>
 gQ e true (au 132 i 3) λq=>
 gQ e true (an d 3 q) λs=>
 gQ e true (oh 3 23 1 s) λA=>
 cr e A λf=>
 gQ f true (au 132 i 3) λn=>
 gQ f true (an d 3 n) λF=>
 gQ f true (AA 3 28 4 F) λy=>
 cr f y λj=>
 gQ j true (au 132 i 2) λm=>
 gQ j true (an d 3 m) λB=>
 gQ j true (oh 3 33 0 B) λw=>
 cr j w λc=>
 gQ c true (au 132 i 2) λu=>
 gQ c true (an d 3 u) λp=>
 gQ c true (au 132 i 3) λE=>
 gQ c true (an d 3 E) λv=>
 gQ c true (QI 3 38 40 p v) λD=>
 cr c D λz=>
 Q z d
theorem Jm(h : ∀g:fq,CF x0 H Q):fa Tryz.f106 0 [(0,x0)] H Q:=kf (by kernel_rfl) h
def rl:=ta Tryz.f109 2
def yV:Nat->Option (List Nat):=λi=>cond (Nat.beq i 2) (some [5,0,4]) (none)
def tY:Prop:=
 GJ 3 6 1 b λc=>
  cy env Tryz.f109 0 rl [(5,c),(0,x0),(4,(.v (.slice none 0 0)))] H Q
theorem yl(h : ∀g:fq,tY x0 b H Q):fa Tryz.f109 0 [(0,x0),(1,b)] H Q:=uP yV (by kernel_rfl) h
def eO(g:Nat->AV)(x5 x0 x4:AV)(H:aa)(Q:AV->aa->Prop):Prop:=
 vN 3 8 0 x5 λi=>
 br (some i) (
 pM 3 8 14 x5 λe=>
 QK 3 13 15 x0 e λh=>
 dC H 17 3 5 h λl=>
 qB H 18 76 1 0 l λc j=>
 dI j 19 76 76 x4 c λf d=>
 GJ 3 10 1 x5 λk=>
  cy env Tryz.f109 0 rl [(5,k),(0,x0),(4,f)] d Q) (
 Q x4 H)
theorem fu(x5 x0 x4:AV)(H:aa)(Q:AV->aa->Prop)(h : ∀g,eO g x5 x0 x4 H Q):cy env Tryz.f109 0 rl [(5,x5),(0,x0),(4,x4)] H Q:=uc yV (by kernel_rfl) h
def oC:Prop:=
 dK H 2 51 λc C=>
 fD C 76 x0 0 λE=>
 ab C 5 E λG=>
 ah 51 c 0 λJ=>
 aM C 5 J G λK k=>
 fO (dx env.P (aa.get k) 76 (some x0) (oi (.v (.int .i64 1))) (some none) (some none)) λx=>
 ah 51 c 0 λI=>
 ab k 5 I λz=>
 xX 5 10 z λF=>
 br (some F) (
 fO (dx env.P (aa.get k) 76 (some x) (some none) (oi (.v (.int .i64 6))) (some none)) λw=>
 bh true k 16 175 [w] λh p=>
 ba h 0 λd=>
 ba h 1 λi=>
 ah 51 c 2 λf=>
 ah 45 f 1 λo=>
 aM p 38 o d λe l=>
 fD l 76 x 6 λm=>
 ab l 5 m λn=>
 dC l 24 5 3 n λq=>
 ah 51 c 1 λj=>
 aM l 3 j q λA s=>
 ab s 51 c λu=>
 aM s 51 c u λB y=>
 aZ y c 51 λt=>
 Q t y) (
 GH 5 10 z λw=>
 br (some w) (
 fO (dx env.P (aa.get k) 76 (some x) (some none) (oi (.v (.int .i64 2))) (some none)) λh=>
 bh true k 30 118 [h] λd p=>
 ah 51 c 3 λi=>
 aM p 30 i d λf l=>
 fO (dx env.P (aa.get l) 76 (some x) (oi (.v (.int .i64 2))) (some none) (some none)) λo=>
 bh true l 35 176 [o] λe s=>
 ba e 0 λm=>
 ba e 1 λn=>
 ba e 2 λq=>
 ah 51 c 2 λj=>
 aM s 45 j m λA y=>
 ab y 51 c λu=>
 aM y 51 c u λB D=>
 aZ D c 51 λt=>
 Q t D) (
 Ac 5 10 z λh=>
 br (some h) (
 fO (dx env.P (aa.get k) 76 (some x) (some none) (oi (.v (.int .i64 7))) (some none)) λd=>
 bh true k 45 177 [d] λi p=>
 ba i 0 λf=>
 ba i 1 λo=>
 ah 51 c 4 λe=>
 aM p 49 e f λm l=>
 ab l 51 c λn=>
 aM l 51 c n λq s=>
 aZ s c 51 λj=>
 Q j s) (
 ab k 51 c λd=>
 aM k 51 c d λi p=>
 aZ p c 51 λf=>
 Q f p)))
theorem Ga(h : ∀g:fq,oC x0 H Q):fa Tryz.f152 0 [(0,x0)] H Q:=kf (by kernel_rfl) h
def ck:=ta Tryz.f153 4
def fX:Nat->Option (List Nat):=λi=>cond (Nat.beq i 4) (some [17,2,1,15,16]) (none)
def dL:Prop:=
 dg H 11 122 x0 λc=>
 dg H 13 122 b λe=>
 xV 3 11 13 c e λf=>
 br (some f) (
 Q (.v (.bool false)) H) (
 dg H 16 122 x0 λd=>
  cy env Tryz.f153 0 ck [(17,(.v (.int .i64 0))),(2,a),(1,b),(15,x0),(16,d)] H Q)
theorem k5(h : ∀g:fq,dL x0 b a H Q):fa Tryz.f153 0 [(0,x0),(1,b),(2,a)] H Q:=uP fX (by kernel_rfl) h
def cm(g:Nat->AV)(c a b e d:AV)(H:aa)(Q:AV->aa->Prop):Prop:=
 fC 3 17 16 c d λm=>
 br (some m) (
 dF H 122 e c λj=>
 ab H 76 j λl=>
 dF H 122 b c λo=>
 ab H 76 o λh=>
 QP H 29 a l h λk f=>
 mQ k λn=>
 br (some n) (
 Q (.v (.bool false)) f) (
 gJ 3 17 1 c λi=>
  cy env Tryz.f153 0 ck [(17,i),(2,a),(1,b),(15,e),(16,d)] f Q)) (
 Q (.v (.bool true)) H)
theorem dD(e a b d c:AV)(H:aa)(Q:AV->aa->Prop)(h : ∀g,cm g e a b d c H Q):cy env Tryz.f153 0 ck [(17,e),(2,a),(1,b),(15,d),(16,c)] H Q:=uc fX (by kernel_rfl) h
def pF:=ta Tryz.f118 2
def A9:Nat->Option (List Nat):=λi=>cond (Nat.beq i 2) (some [7,2,5,6]) (none)
def Bq:Prop:=
 dg H 6 76 x0 λc=>
  cy env Tryz.f118 0 pF [(7,(.v (.int .i64 0))),(2,(.v (.int .i64 0))),(5,x0),(6,c)] H Q
theorem Hn(h : ∀g:fq,Bq x0 H Q):fa Tryz.f118 0 [(0,x0)] H Q:=uP A9 (by kernel_rfl) h
def tX(g:Nat->AV)(c a x5 d:AV)(H:aa)(Q:AV->aa->Prop):Prop:=
 fC 3 7 6 c d λj=>
 br (some j) (
 dF H 76 x5 c λf=>
 ab H 5 f λi=>
 JW 3 11 a λl=>
 dC H 14 5 3 i λe=>
 Dj 3 12 14 l e λh=>
 gJ 3 7 1 c λk=>
  cy env Tryz.f118 0 pF [(7,k),(2,h),(5,x5),(6,d)] H Q) (
 Q a H)
theorem yj(d a x5 c:AV)(H:aa)(Q:AV->aa->Prop)(h : ∀g,tX g d a x5 c H Q):cy env Tryz.f118 0 pF [(7,d),(2,a),(5,x5),(6,c)] H Q:=uc A9 (by kernel_rfl) h
def vB:Prop:=
 dK H 2 49 λk l=>
 dg l 8 76 x0 λU=>
 iW 3 8 7 U λm=>
 gQ m false (bX x0) λv4=>
 gQ m false (cb env.P (aa.get l) 76 (some v4) (some (AV.v (Value.int IntKind.i64 1)))) λR=>
 gQ m false (an l 5 R) λZ=>
 gQ m false (bZ env.P .gtr 5 (Operand.tmp 13) (.const (.int .u8 1)) (some Z) (some (a8 1))) λv7=>
 dH m v7 λS=>
 br (some S) (
 eI 49 λw=>
 aM l 49 k w λn q=>
 aZ q k 49 λi=>
 Q (.tup [i,(.v (.int .i64 8))]) q) (
 fO (dx env.P (aa.get l) 76 (some x0) (oi (.v (.int .i64 2))) (oi (.v (.int .i64 7))) (oi (.v (.int .i64 7)))) λw=>
 QN l 20 76 1 λn q=>
 dI q 21 76 76 w n λi X=>
 bh true X 22 175 [i] λo Y=>
 ba o 0 λJ=>
 ba o 1 λy=>
 dK Y 4 38 λp W=>
 aM W 38 p J λT e=>
 fD e 76 x0 0 λA=>
 ab e 5 A λB=>
 dC e 28 5 3 B λG=>
 ah 38 p 0 λE=>
 ab e 36 E λx=>
 fD e 76 x0 1 λN=>
 ab e 5 N λF=>
 xX 5 33 F λL=>
 ur 47 0 x 1 L λt=>
 ur 49 0 G 1 t λI=>
 dK e 6 49 λh V=>
 aM V 49 h I λO u=>
 iW 30 37 0 y λd=>
 gQ d false (an u 49 h) λz=>
 gW d false u (fB true u 41 126 [z]) λM s=>
 gQ d false (wQ 30 41 0 M) λD=>
 dH d D λK=>
 br (some K) (
 eI 49 λj=>
 aM s 49 k j λC c=>
 aZ c k 49 λf=>
 Q (.tup [f,(.v (.int .i64 8))]) c) (
 ab s 49 h λj=>
 aM s 49 k j λC c=>
 aZ c k 49 λf=>
 Q (.tup [f,(.v (.int .i64 0))]) c))
theorem zp(h : ∀g:fq,vB x0 H Q):fa Tryz.f177 0 [(0,x0)] H Q:=kf (by kernel_rfl) h
end
section
variable(dep:Nat)(g:Nat->AV)(x0 a b c:AV)(H:aa)(Q:AV->aa->Prop)
def ue:=ta Tryz.f47 6
def FN:Nat->Option (List Nat):=λi=>cond (Nat.beq i 6) (some [9,8,2,1,4,3]) (none)
def F6:Prop:=
 dh H 4 24 x0 λm n=>
 ab n 24 m λu=>
 bh true n 15 45 [u] λl k=>
 iW 30 16 0 l λy=>
 br (some y) (
 Q (.tup [(.v (.slice none 0 0)),(.v (.int .i64 0)),l]) k) (
 bh true k 20 69 [a,(.v (.int .i64 2))] λs p=>
 mQ s λe=>
 gQ e false (bX b) λx=>
 gW e false p (fB true p 24 69 [x,(.v (.int .i64 16777215))]) λt q=>
 gQ e false (vK t) λw=>
 dH e w λd=>
 gQ d false (bX c) λh=>
 gW d false q (fB true q 29 69 [h,(.v (.int .i64 16777215))]) λi o=>
 gQ d false (vK i) λj=>
 dH d j λf=>
 br (some f) (
 Q (
  .tup [(.v (.slice none 0 0)),(.v (.int .i64 0)),(.v (.int .i64 2))]) o) (
  cy env Tryz.f47 0 ue [(9,(.v (.int .i64 0))),(8,(.v (.slice none 0 0))),(2,b),(1,a),(4,m),(3,c)] o Q))
theorem MK(h : ∀g:fq,F6 x0 a b c H Q):fa Tryz.f47 0 [(0,x0),(1,a),(2,b),(3,c)] H Q:=uP FN (by kernel_rfl) h
def j9(g:Nat->AV)(x9 d b a x4 c:AV)(H:aa)(Q:AV->aa->Prop):Prop:=
 dg H 33 25 d λz=>
 fC 3 33 34 z c λs=>
 br (some s) (
 ab H 24 x4 λt=>
 dg H 42 25 d λB=>
 jZ 3 40 42 b B λo=>
 gJ 3 43 1 o λx=>
 bh true H 45 74 [t,a,x9,x] λn A=>
 ba n 0 λq=>
 ba n 1 λm=>
 dK A 12 51 λe p=>
 aM p 51 e q λy i=>
 vM 3 48 0 m λj=>
 br (some j) (
 Q (.tup [d,x9,(.v (.int .i64 0))]) i) (
 ab i 51 e λk=>
 qB i 52 25 1 0 k λh w=>
 dI w 53 25 25 d h λl u=>
 jZ 3 54 55 x9 m λf=>
  cy env Tryz.f47 0 ue [(9,f),(8,l),(2,b),(1,a),(4,x4),(3,c)] u Q)) (
 Q (.tup [d,x9,(.v (.int .i64 0))]) H)
theorem Ju(x9 d b a x4 c:AV)(H:aa)(Q:AV->aa->Prop)(h : ∀g,j9 g x9 d b a x4 c H Q):cy env Tryz.f47 0 ue [(9,x9),(8,d),(2,b),(1,a),(4,x4),(3,c)] H Q:=uc FN (by kernel_rfl) h
def F5:Prop:=
 vN 3 5 0 x0 λd=>
 gQ d true (bX x0) λe=>
 gQ d true (bX a) λf=>
 gQ d true (OM 3 8 9 e f) λi=>
 cr d i λh=>
 Q h H
theorem MJ(h : ∀g:fq,F5 x0 a H Q):fa Tryz.f69 0 [(0,x0),(1,a)] H Q:=kf (by kernel_rfl) h
def sG:=ta Tryz.f74 9
def DY:Nat->Option (List Nat):=λi=>cond (Nat.beq i 9) (some [53,14,2,1,4,8,12,52]) (none)
def pL:Prop:=
 dh H 4 24 x0 λI P=>
 dK P 8 51 λh m=>
 vN 3 18 2048 b λM=>
 br (some M) (
 ab m 51 h λC=>
 aM m 51 h C λF n=>
 aZ n h 51 λw=>
 Q (.tup [w,(.v (.int .i64 0))]) n) (
 ab m 24 I λC=>
 Ms 3 23 2048 a λF=>
 jZ 3 24 25 F b λw=>
 bh true m 27 116 [C,w] λJ n=>
 ba J 0 λK=>
 ba J 1 λR=>
 bh true n 32 76 [K] λl O=>
 ba l 0 λx=>
 ba l 1 λy=>
 dK O 12 132 λe N=>
 aM N 132 e x λL j=>
 iW 30 35 0 y λf=>
 gQ f false (au 132 e 1) λp=>
 gQ f false (an j 3 p) λs=>
 gQ f false (bX c) λt=>
 gQ f false (Ca 3 39 40 s t) λA=>
 dH f A λd=>
 gQ d false (bX b) λq=>
 gQ d false (au 132 e 3) λE=>
 gQ d false (an j 3 E) λz=>
 gQ d false (OO 3 44 46 q z) λD=>
 gQ d false (GI 3 47 2048 D) λo=>
 dH d o λB=>
 br (some B) (
 ab j 51 h λi=>
 aM j 51 h i λk G=>
 aZ G h 51 λu=>
 Q (.tup [u,(.v (.int .i64 0))]) G) (
 ah 132 e 3 λi=>
 ab j 3 i λk=>
  cy env Tryz.f74 0 sG [(53,(.v (.int .i64 0))),(14,(.v (.slice none 0 0))),(2,b),(1,a),(4,I),(8,h),(12,e),(52,k)] j Q))
theorem Lk(h : ∀g:fq,pL x0 a b c H Q):fa Tryz.f74 0 [(0,x0),(1,a),(2,b),(3,c)] H Q:=uP DY (by kernel_rfl) h
def nw(g:Nat->AV)(h o b a x4 e j n:AV)(H:aa)(Q:AV->aa->Prop):Prop:=
 fC 3 53 52 h n λz=>
 br (some z) (
 ab H 24 x4 λk=>
 Ms 3 58 2048 a λt=>
 jZ 3 59 60 t b λy=>
 jZ 3 61 62 y h λq=>
 bh true H 64 116 [k,q] λs w=>
 ba s 0 λx=>
 ba s 1 λp=>
 qB w 69 122 1 0 x λl i=>
 dI i 70 122 122 o l λd f=>
 gJ 3 53 1 h λm=>
  cy env Tryz.f74 0 sG [(53,m),(14,d),(2,b),(1,a),(4,x4),(8,e),(12,j),(52,n)] f Q) (
 bh true H 74 117 [o] λk w=>
 ba k 0 λt=>
 ba k 1 λy=>
 ba k 2 λq=>
 aM w 51 e t λs i=>
 iW 30 78 0 q λx=>
 br (some x) (
 eI 51 λp=>
 aM i 51 e p λl f=>
 aZ f e 51 λd=>
 Q (.tup [d,(.v (.int .i64 0))]) f) (
 ab i 51 e λp=>
 ah 132 j 3 λl=>
 ab i 3 l λd=>
 aM i 51 e p λm f=>
  qy [(l,e)] [e] [] f /\
 (aZ f e 51 λu=>
 Q (.tup [u,d]) f)))
theorem AQ(e i b a x4 j d f:AV)(H:aa)(Q:AV->aa->Prop)(h : ∀g,nw g e i b a x4 j d f H Q):cy env Tryz.f74 0 sG [(53,e),(14,i),(2,b),(1,a),(4,x4),(8,j),(12,d),(52,f)] H Q:=uc DY (by kernel_rfl) h
def zd:Code:=(Tryz.f37.body).getD .skip
def jI:=ta Tryz.f37 2
def rH:Nat->Option (List Nat):=λi=>cond (Nat.beq i 2) (some [5,0,1]) (none)
def zh:Prop:=
 cy env Tryz.f37 0 jI [(5,(.v (.int .i64 0))),(0,x0),(1,a)] H Q
theorem yq(h : ∀g:fq,zh x0 a H Q):fa Tryz.f37 0 [(0,x0),(1,a)] H Q:=uP rH (by kernel_rfl) h
def gT(g:Nat->AV)(x5 x0 a:AV)(H:aa)(Q:AV->aa->Prop):Prop:=
 dg H 8 25 x0 λo=>
 fC 3 6 8 x5 o λd=>
 gQ d true (bX x5) λn=>
 gQ d true (wR 3 11 200 n) λp=>
 cr d p λk=>
 br (some k) (
 dF H 25 x0 x5 λe=>
 ah 51 e 2 λi=>
 ah 45 i 6 λl=>
 ab H 43 l λm=>
 dg H 22 43 m λj=>
 Ad 3 22 200 j λf=>
 br (some f) (
 Q (.v (.bool true)) H) (
 gJ 3 14 1 x5 λh=>
  cy env Tryz.f37 0 jI [(5,h),(0,x0),(1,a)] H Q)) (
 dg H 25 25 x0 λe=>
 Mp 3 25 26 e a λi=>
 Q i H)
theorem pQ(x5 x0 a:AV)(H:aa)(Q:AV->aa->Prop)(h : ∀g,gT g x5 x0 a H Q):cy env Tryz.f37 0 jI [(5,x5),(0,x0),(1,a)] H Q:=uc rH (by kernel_rfl) h
def iq:=ta Tryz.f21 4
def pf:Nat->Option (List Nat):=λi=>cond (Nat.beq i 4) (some [5,1,0]) (none)
def lV:Prop:=
 dg H 7 25 x0 λd=>
 dg H 9 25 a λe=>
 xV 3 7 9 d e λf=>
 br (some f) (
 Q (.v (.bool false)) H) (
  cy env Tryz.f21 0 iq [(5,(.v (.int .i64 0))),(1,a),(0,x0)] H Q)
theorem vR(h : ∀g:fq,lV x0 a H Q):fa Tryz.f21 0 [(0,x0),(1,a)] H Q:=uP pf (by kernel_rfl) h
def ir(g:Nat->AV)(x5 a x0:AV)(H:aa)(Q:AV->aa->Prop):Prop:=
 dg H 13 25 x0 λl=>
 fC 3 11 13 x5 l λh=>
 br (some h) (
 dF H 25 x0 x5 λk=>
 ab H 51 k λn=>
 dF H 25 a x5 λe=>
 ab H 51 e λi=>
 bh false H 25 52 [n,i] λm d=>
 mQ m λf=>
 br (some f) (
 Q (.v (.bool false)) d) (
 gJ 3 15 1 x5 λj=>
  cy env Tryz.f21 0 iq [(5,j),(1,a),(0,x0)] d Q)) (
 Q (.v (.bool true)) H)
theorem oy(x5 a x0:AV)(H:aa)(Q:AV->aa->Prop)(h : ∀g,ir g x5 a x0 H Q):cy env Tryz.f21 0 iq [(5,x5),(1,a),(0,x0)] H Q:=uc pf (by kernel_rfl) h
def gw:Prop:=
 dh H 2 51 x0 λl M=>
 dh M 3 51 a λj h=>
 ah 51 l 0 λK=>
 ab h 5 K λN=>
 ah 51 j 0 λG=>
 ab h 5 G λL=>
 vL 5 6 8 N L λi=>
 gQ i true (au 51 l 1) λI=>
 gQ i true (an h 3 I) λJ=>
 gQ i true (au 51 j 1) λu=>
 gQ i true (an h 3 u) λx=>
 gQ i true (iu 3 12 14 J x) λz=>
 cr i z λf=>
 gQ f true (au 51 l 2) λp=>
 gQ f true (an h 45 p) λF=>
 gQ f true (au 51 j 2) λn=>
 gQ f true (an h 45 n) λs=>
 gW f true h (fB true h 22 85 [F,s]) λt k=>
 cr f t λe=>
 gQ e true (au 51 l 3) λy=>
 gQ e true (an k 30 y) λo=>
 gQ e true (au 51 j 3) λE=>
 gQ e true (an k 30 E) λA=>
 gQ e true (iu 30 26 28 o A) λC=>
 cr e C λd=>
 gQ d true (au 51 l 4) λB=>
 gQ d true (an k 49 B) λw=>
 gQ d true (au 51 j 4) λm=>
 gQ d true (an k 49 m) λv=>
 gQ d true (iu 49 33 35 w v) λq=>
 cr d q λD=>
 Q D k
theorem yx(h : ∀g:fq,gw x0 a H Q):fa Tryz.f52 0 [(0,x0),(1,a)] H Q:=kf (by kernel_rfl) h
end
section
variable(dep:Nat)(g:Nat->AV)(x0 a:AV)(H:aa)(Q:AV->aa->Prop)
def ui:Prop:=
 dh H 1 24 x0 λG O=>
 dK O 3 27 λh E=>
 ab E 24 G λL=>
 bh true E 11 73 [L] λI M=>
 ba I 0 λJ=>
 ba I 1 λF=>
 dK M 5 27 λp N=>
 aM N 27 p J λS q=>
 iW 30 14 0 F λK=>
 br (some K) (
 ab q 27 p λm=>
 aM q 27 h m λs f=>
 aZ f h 27 λo=>
 Q (.tup [(.v (.slice none 0 0)),o,F]) f) (
 ab q 24 G λm=>
 ah 27 p 0 λs=>
 ab q 3 s λo=>
 oL 3 21 2 o λA=>
 Mr 3 1 22 A λw=>
 ah 27 p 1 λD=>
 ab q 3 D λu=>
 bh true q 26 47 [m,w,(.v (.int .i64 0)),u] λk f=>
 ba k 0 λl=>
 ba k 1 λR=>
 ba k 2 λn=>
 vM 30 30 0 n λd=>
 gQ d true (bX l) λC=>
 gQ d true (Ft f 34 25 C) λy=>
 gQ d true (au 27 p 1) λB=>
 gQ d true (an f 3 B) λt=>
 gQ d true (Ca 3 34 36 y t) λz=>
 cr d z λx=>
 br (some x) (
 fO (bZ env.P .neq 30 (Operand.tmp 39) (Operand.const (Value.int IntKind.i64 0)) (some (AV.v (Value.int IntKind.i64 8))) (some (AV.v (Value.int IntKind.i64 0)))) λi=>
 br (some i) (
 eI 27 λb=>
 aM f 27 h b λj e=>
 aZ e h 27 λc=>
 Q (.tup [(.v (.slice none 0 0)),c,(.v (.int .i64 8))]) e) (
 ab f 27 p λb=>
 aM f 27 h b λj e=>
 aZ e h 27 λc=>
 Q (.tup [l,c,(.v (.int .i64 0))]) e)) (
 iW 30 39 0 n λi=>
 br (some i) (
 eI 27 λb=>
 aM f 27 h b λj e=>
 aZ e h 27 λc=>
 Q (.tup [(.v (.slice none 0 0)),c,n]) e) (
 ab f 27 p λb=>
 aM f 27 h b λj e=>
 aZ e h 27 λc=>
 Q (.tup [l,c,(.v (.int .i64 0))]) e)))
theorem Jl(h : ∀g:fq,ui x0 H Q):fa Tryz.f46 0 [(0,x0)] H Q:=kf (by kernel_rfl) h
def pK:Prop:=
 dh H 1 24 x0 λo G=>
 dK G 2 27 λh z=>
 ab z 24 o λE=>
 bh true z 7 45 [E] λB u=>
 iW 30 8 0 B λC=>
 br (some C) (
 eI 27 λm=>
 aM u 27 h m λA j=>
 aZ j h 27 λk=>
 Q (.tup [k,B]) j) (
 ab u 24 o λm=>
 bh false u 13 115 [m,(.v (.int .i64 0))] λA j=>
 ab j 24 o λk=>
 bh false j 15 115 [k,(.v (.int .i64 1))] λD J=>
 ur 178 0 A 1 D λx=>
 dK J 5 178 λb I=>
 aM I 178 b x λF c=>
 fD c 178 b 0 λt=>
 ah 27 t 0 λn=>
 ab c 3 n λy=>
 fD c 178 b 1 λl=>
 ah 27 l 0 λp=>
 ab c 3 p λs=>
 Mp 3 19 22 y s λq=>
 br (some q) (
 fD c 178 b 0 λe=>
 ab c 27 e λd=>
 aM c 27 h d λw i=>
 aZ i h 27 λf=>
 Q (.tup [f,(.v (.int .i64 0))]) i) (
 fD c 178 b 1 λe=>
 ab c 27 e λd=>
 aM c 27 h d λw i=>
 aZ i h 27 λf=>
 Q (.tup [f,(.v (.int .i64 0))]) i))
theorem EK(h : ∀g:fq,pK x0 H Q):fa Tryz.f73 0 [(0,x0)] H Q:=kf (by kernel_rfl) h
def tS:=ta Tryz.f114 4
def tQ:=ta Tryz.f114 9
def wj:Nat->Option (List Nat):=λi=>cond (Nat.beq i 4) (some [9,1,3]) (cond (Nat.beq i 9) (some [23,1,3]) (none))
def Bp:Prop:=
 dh H 1 27 x0 λd f=>
 QU f 6 76 128 λb c=>
 fD c 76 b 0 λh=>
 kA (kn env.P c 5 (some h) (some (a8 77))) λi e=>
  cy env Tryz.f114 0 tS [(9,(.v (.int .i64 0))),(1,d),(3,b)] e Q
theorem Hl(h : ∀g:fq,Bp x0 H Q):fa Tryz.f114 0 [(0,x0)] H Q:=uP wj (by kernel_rfl) h
def lM(g:Nat->AV)(x9 a b:AV)(H:aa)(Q:AV->aa->Prop):Prop:=
 om 3 9 4 x9 λj=>
 br (some j) (
 QT 3 4 13 x9 λf=>
 ah 27 a 0 λi=>
 ab H 3 i λm=>
 pM 3 8 17 x9 λd=>
 QK 3 16 18 m d λh=>
 dC H 20 3 5 h λl=>
 dF H 76 b f λe=>
 aM H 5 e l λn k=>
 gJ 3 9 1 x9 λc=>
  cy env Tryz.f114 0 tS [(9,c),(1,a),(3,b)] k Q) (
  cy env Tryz.f114 0 tQ [(23,(.v (.int .i64 0))),(1,a),(3,b)] H Q)
theorem mX(x9 a b:AV)(H:aa)(Q:AV->aa->Prop)(h : ∀g,lM g x9 a b H Q):cy env Tryz.f114 0 tS [(9,x9),(1,a),(3,b)] H Q:=uc wj (by kernel_rfl) h
def nn(g:Nat->AV)(b a c:AV)(H:aa)(Q:AV->aa->Prop):Prop:=
 om 3 23 3 b λk=>
 br (some k) (
 QT 3 7 27 b λh=>
 ah 27 a 1 λj=>
 ab H 3 j λn=>
 pM 3 8 31 b λe=>
 QK 3 30 32 n e λi=>
 dC H 34 3 5 i λm=>
 dF H 76 c h λf=>
 aM H 5 f m λo l=>
 gJ 3 23 1 b λd=>
  cy env Tryz.f114 0 tQ [(23,d),(1,a),(3,c)] l Q) (
 Q c H)
theorem pz(b a c:AV)(H:aa)(Q:AV->aa->Prop)(h : ∀g,nn g b a c H Q):cy env Tryz.f114 0 tQ [(23,b),(1,a),(3,c)] H Q:=uc wj (by kernel_rfl) h
def re:=ta Tryz.f115 5
def pE:=ta Tryz.f115 10
def xJ:Nat->Option (List Nat):=λi=>cond (Nat.beq i 5) (some [24,4,22,5,1,23]) (cond (Nat.beq i 10) (some [39,4,37,5,1,38]) (none))
def CE:Prop:=
 dh H 2 24 x0 λl m=>
 dK m 4 27 λd i=>
 ab i 24 l λq=>
 Mr 3 6144 13 a λp=>
 bh true i 15 116 [q,p] λh b=>
 ba h 0 λj=>
 ba h 1 λn=>
 iW 30 18 0 n λo=>
 br (some o) (
 ab b 27 d λe=>
 aM b 27 d e λc k=>
 aZ k d 27 λf=>
 Q f k) (
 QR b 76 j λe=>
 dg b 23 76 e λc=>
  cy env Tryz.f115 0 re [(24,(.v (.int .i64 0))),(4,d),(22,e),(5,j),(1,a),(23,c)] b Q)
theorem Jk(h : ∀g:fq,CE x0 a H Q):fa Tryz.f115 0 [(0,x0),(1,a)] H Q:=uP xJ (by kernel_rfl) h
def vd(g:Nat->AV)(b x4 c x5 a d:AV)(H:aa)(Q:AV->aa->Prop):Prop:=
 fC 3 24 23 b d λm=>
 br (some m) (
 dF H 76 c b λe=>
 ab H 5 e λf=>
 ah 27 x4 0 λp=>
 ab H 3 p λi=>
 JW 3 29 i λk=>
 dC H 32 5 3 f λo=>
 Dj 3 30 32 k o λj=>
 ah 27 x4 0 λl=>
 aM H 3 l j λq n=>
 gJ 3 24 1 b λh=>
  cy env Tryz.f115 0 re [(24,h),(4,x4),(22,c),(5,x5),(1,a),(23,d)] n Q) (
 Z4 H 76 x5 λe=>
 dg H 38 76 e λf=>
  cy env Tryz.f115 0 pE [(39,(.v (.int .i64 0))),(4,x4),(37,e),(5,x5),(1,a),(38,f)] H Q)
theorem Al(b x4 c x5 a d:AV)(H:aa)(Q:AV->aa->Prop)(h : ∀g,vd g b x4 c x5 a d H Q):cy env Tryz.f115 0 re [(24,b),(4,x4),(22,c),(5,x5),(1,a),(23,d)] H Q:=uc xJ (by kernel_rfl) h
def jW(g:Nat->AV)(e x4 m x5 a j:AV)(H:aa)(Q:AV->aa->Prop):Prop:=
 fC 3 39 38 e j λF=>
 br (some F) (
 dF H 76 m e λs=>
 ab H 5 s λu=>
 ah 27 x4 1 λi=>
 ab H 3 i λo=>
 JW 3 44 o λx=>
 dC H 47 5 3 u λB=>
 Dj 3 45 47 x B λc=>
 ah 27 x4 1 λt=>
 aM H 3 t c λl n=>
 gJ 3 39 1 e λf=>
  cy env Tryz.f115 0 pE [(39,f),(4,x4),(37,m),(5,x5),(1,a),(38,j)] n Q) (
 ah 27 x4 0 λs=>
 ab H 3 s λu=>
 om 3 52 1 u λi=>
 gQ i false (au 27 x4 0) λo=>
 gQ i false (an H 3 o) λx=>
 gQ i false (oh 3 56 2147483648 x) λB=>
 dH i B λc=>
 gQ c false (au 27 x4 0) λt=>
 gQ c false (an H 3 t) λl=>
 gQ c false (aad 3 61 2 l) λf=>
 gQ c false (bX a) λz=>
 gQ c false (Ca 3 62 63 f z) λC=>
 dH c C λb=>
 gQ b false (bX x5) λE=>
 gQ b false (an H 27 x4) λq=>
 gW b false H (fB true H 69 114 [q]) λv n=>
 gW b false n (fB true n 70 87 [E,v]) λw p=>
 gQ b false (vK w) λA=>
 dH b A λy=>
 br (some y) (
 eI 27 λd=>
 aM p 27 x4 d λD k=>
 aZ k x4 27 λh=>
 Q h k) (
 ab p 27 x4 λd=>
 aM p 27 x4 d λD k=>
 aZ k x4 27 λh=>
 Q h k))
theorem yi(d x4 c x5 a b:AV)(H:aa)(Q:AV->aa->Prop)(h : ∀g,jW g d x4 c x5 a b H Q):cy env Tryz.f115 0 pE [(39,d),(4,x4),(37,c),(5,x5),(1,a),(38,b)] H Q:=uc xJ (by kernel_rfl) h
end
end Go.Proofs.YtiidajnodhkidaaGreat
namespace Go.Proofs.YtiidajnodhkidaaGreat
open Go.Ab Go.ChangeShapes Go.WideShapes Go.RowKit
section
variable{H:Type}
def W6(d:DataW H):1<=Rows.uptoBulk d:=by
 cases d with| lit l=>cases l<;>simp[Rows.uptoBulk]| nil=>simp[Rows.uptoBulk]| ptr d=>simp[Rows.uptoBulk]| slice a b=>simp[Rows.uptoBulk]| agg a=>simp[Rows.uptoBulk]| iface a d=>simp[Rows.uptoBulk]| map e=>simp[Rows.uptoBulk]| held h=>simp[Rows.uptoBulk]
def Ox(ds:List (DataW H)):ds.length<=Rows.uptoBulkAll ds:=by
 induction ds with| nil=>simp| cons d ds a=>have:=W6 d;simp only[Rows.uptoBulkAll,jP];omega
def Bj{d:DataW H}{ds:List (DataW H)}(h:d∈ds):Rows.uptoBulk d<=Rows.uptoBulkAll ds:=by
 induction ds with| nil=>cases h| cons e ds a=>
  simp only[Rows.uptoBulkAll];rcases fR.1 h with rfl | h
  ·omega
  have:=a h;omega
def Qw(es a:List (DataW H)):es.length<=Rows.uptoBulk (.slice es a) /\∀d∈es,Rows.uptoBulk d<=Rows.uptoBulk (.slice es a):=by
 have e:Rows.uptoBulk (.slice es a)=Rows.uptoBulkAll es+Rows.uptoBulkAll a+1:=by simp[Rows.uptoBulk]
 rw[e];refine⟨by have:=Ox es;omega,λd hd=>by have:=Bj hd;omega⟩
def W7(ps:List (DataW H)) : ∀d∈ps,Rows.uptoBulk d<=Rows.uptoBulk (.agg ps):=by
 have e:Rows.uptoBulk (.agg ps)=Rows.uptoBulkAll ps+1:=by simp[Rows.uptoBulk]
 rw[e];exact λd hd=>by have:=Bj hd;omega
def Qv{ds a:List (DataW H)}(h:Rows.uptoSmall H (ds++a)=true) : ∀d∈ds,Rows.uptoBulk d<=1048576:=by
 intro d hd;have b:Rows.uptoBulkAll (ds++a)<=1048576:=iQC h;exact wT (Bj (K4 _ hd)) b
end
end Go.Proofs.YtiidajnodhkidaaGreat
namespace Go.Ab
def F2(R:AV->AV->Prop):List AV->List AV->Prop
 | [],[]=>True
 | x :: xs,y :: a=>R x y/\F2 R xs a
 | _,_=>False
def F2.len{R:AV->AV->Prop} : ∀ {b a:List AV},F2 R b a->b.length=a.length
 | [],[],_=>rfl
 | _ :: b,_ :: a,h=>by simp only[jP];rw[F2.len h.2]
 | [],_ :: _,h=>h.elim
 | _ :: _,[],h=>h.elim
def F2.mono{R c:AV->AV->Prop} : ∀ {a b:List AV},(∀x∈a,∀y,R x y->c x y)->F2 R a b->F2 c a b
 | [],[],_,_=>trivial
 | x :: a,y :: b,d,h=>⟨d x (by simp) y h.1,F2.mono (λx e=>d x (by simp[e])) h.2⟩
 | [],_ :: _,_,h=>h.elim
 | _ :: _,[],_,h=>h.elim
def F2.mapM{R:AV->AV->Prop}{f:AV->Option AV}{h:AV->AV}(d : ∀x y,R x y->f x=some (h y)) : ∀ {b a:List AV},F2 R b a->b.mapM f=some (a.map h)
 | [],[],_=>rfl
 | x :: b,y :: a,c=>by rw[oo,d x y c.1,F2.mapM d c.2];rfl
 | [],_ :: _,h=>h.elim
 | _ :: _,[],h=>h.elim
def F2.app{R:AV->AV->Prop} : ∀ {d c a b:List AV},F2 R d c->F2 R a b->F2 R (d++a) (c++b)
 | [],[],_,_,_,h=>h
 | _ :: d,_ :: c,_,_,h,e=>⟨h.1,F2.app h.2 e⟩
 | [],_ :: _,_,_,h,_=>h.elim
 | _ :: _,[],_,_,h,_=>h.elim
def F2.split{R:AV->AV->Prop} : ∀ {A':List AV} {a b:List AV},F2 R a (A'++b) ->∃A B,a=A++B/\F2 R A A'/\F2 R B b
 | [],a,b,h=>⟨[],a,rfl,trivial,h⟩
 | e :: A',[],b,h=>h.elim
 | e :: A',x :: a,b,h=>by
  obtain⟨A,B,f,d,c⟩:=F2.split (A':=A') h.2;exact⟨x :: A,B,by rw[f];rfl,⟨h.1,d⟩,c⟩
def F2.at{R:AV->AV->Prop} : ∀ {b a:List AV},F2 R b a ->∀ {i:Nat} {y:AV},a[i]?=some y ->∃x,b[i]?=some x/\R x y
 | [],[],_,i,y,h=>by simp at h
 | x :: b,y :: a,c,0,d,h=>by cases h;exact⟨x,rfl,c.1⟩
 | x :: b,y :: a,c,i+1,d,h=>F2.at c.2 h
 | [],_ :: _,h,_,_,_=>h.elim
 | _ :: _,[],h,_,_,_=>h.elim
def C2:AV->Bool
 | .v _ | .bE .. => true
 | _=>false
def DC(g:dv)(x y:AV):Prop:=(x=y/\C2 y=true) \/∃r z l c,x = .ct r 0 l.length c/\y = .fsl z l c/\g r=some ⟨z,l,true,false⟩/\z≠0
def DE(g:dv)(x y:AV):Prop :=∃b a,x = .agg b/\y = .agg a/\F2 (DC g) b a
def lL:AV->List Ref
 | .ct r _ _ _=>[r]
 | _=>[]
def kr:AV->List Ref
 | .agg xs=>xs.flatMap lL
 | _=>[]
def Q8:AV->AV
 | .fsl z l c => .bE z l c
 | x=>x
def J7:AV->AV
 | .agg a => .agg (a.map Q8)
 | x=>x
def DC.view{g:dv}{x y:AV}(h:DC g x y)(n:Nat):view g (n+1) x=some (Q8 y):=by
 rcases h with ⟨rfl,h⟩ | ⟨r,z,l,c,rfl,rfl,a,_⟩
 ·cases x<;>first | rfl | cases h
 simp[Ab.view,a,Q8]
def DC.export{g:dv}{x y:AV}(h:DC g x y)(n:Nat):ca g (n+1) x=some y:=by
 rcases h with ⟨rfl,h⟩ | ⟨r,z,l,c,rfl,rfl,a,_⟩
 ·cases x<;>first | rfl | cases h
 simp[ca,a]
def DC.refs{g:dv}{x y:AV}(h:DC g x y)(n:Nat):aj g (n+1) x=lL x:=by
 rcases h with ⟨rfl,h⟩ | ⟨r,z,l,c,rfl,rfl,a,_⟩
 ·cases x<;>first | rfl | cases h
 rfl
def DC.bT{g a:dv}{x y:AV}(h:DC g x y)(e : ∀q∈lL x,∀b,g q=some b->a q=some b):DC a x y:=by
 rcases h with h | ⟨r,z,l,c,rfl,rfl,f,d⟩
 ·exact .inl h
 exact .inr ⟨r,z,l,c,rfl,rfl,e r (by simp[lL]) _ f,d⟩
def F2.refs{g:dv}{R:AV->AV->Prop}{f h:AV->List Ref}(d : ∀x y,R x y->f x=h x) : ∀ {a c:List AV},F2 R a c->a.flatMap f=a.flatMap h
 | [],[],_=>rfl
 | x :: a,y :: c,b=>by rw[nL,nL,d x y b.1,F2.refs (g:=g) d b.2]
 | [],_ :: _,h=>h.elim
 | _ :: _,[],h=>h.elim
def DE.view{g:dv}{x y:AV}(h:DE g x y)(n:Nat):view g (n+2) x=some (J7 y):=by
 obtain⟨xs,b,rfl,rfl,h⟩:=h;show(xs.mapM (Ab.view g (n+1))).map AV.agg=_;rw[F2.mapM (R:=DC g) (f:=Ab.view g (n+1)) (h:=Q8) (λx y a=>DC.view a n) h];rfl
def DE.export{g:dv}{x y:AV}(h:DE g x y)(n:Nat):ca g (n+2) x=some y:=by
 obtain⟨xs,b,rfl,rfl,h⟩:=h;show(xs.mapM (ca g (n+1))).map AV.agg=_;rw[F2.mapM (R:=DC g) (f:=ca g (n+1)) (h:=id) (λx y a=>DC.export a n) h];simp
def DE.refs{g:dv}{x y:AV}(h:DE g x y)(n:Nat):aj g (n+2) x=kr x:=by
 obtain⟨xs,b,rfl,rfl,h⟩:=h;simp only[aj,kr];exact F2.refs (g:=g) (R:=DC g) (f:=aj g (n+1)) (h:=lL) (λx y a=>DC.refs a n) h
def DE.bT{g a:dv}{x y:AV}(h:DE g x y)(i : ∀q∈kr x,∀b,g q=some b->a q=some b):DE a x y:=by
 obtain⟨xs,d,rfl,rfl,h⟩:=h;exact⟨xs,d,rfl,rfl,F2.mono (λx j y c=>DC.bT c λq e b f=>i q (by simp only[kr,jO];exact⟨x,j,e⟩) b f) h⟩
def DC.live{g:dv}{x y:AV}(h:DC g x y) : ∀q∈lL x,∃b,g q=some b:=by
 rcases h with ⟨rfl,h⟩ | ⟨r,z,l,c,rfl,rfl,d,e⟩
 ·intro q a;cases x<;>first | (simp[lL]at a;done) | cases h
 intro q a;simp[lL]at a;subst a;exact⟨_,d⟩
def F2.live{g:dv}{R:AV->AV->Prop}{f:AV->List Ref}(i : ∀x y,R x y ->∀q∈f x,∃b,g q=some b) : ∀ {c e:List AV},F2 R c e ->∀q∈c.flatMap f,∃b,g q=some b
 | [],[],_,q,a=>by simp at a
 | x :: c,y :: e,d,q,a=>by
  rw[nL,mS]at a;rcases a with a | a
  ·exact i x y d.1 q a
  exact F2.live i d.2 q a
 | [],_ :: _,h,_,_=>h.elim
 | _ :: _,[],h,_,_=>h.elim
def DE.live{g:dv}{x y:AV}(h:DE g x y) : ∀q∈kr x,∃b,g q=some b:=by
 obtain⟨xs,c,rfl,rfl,h⟩:=h;exact F2.live (λx y a=>DC.live a) h
def wN(z:Nat)(H:aa)(s:AV)(es':List AV)(a:List Ref):Prop:=
 (s = .v (.slice none 0 0)/\es'=[]/\a=[])\/(∃r,s = .ct r 0 0 (some 0)/\es'=[]/\a=[r]/\H.get r=some ⟨z,[],true,false⟩) \/
 ∃r es,s = .dsl r 0 es.length none/\es≠[]/\H.get r=some ⟨z,es,false,false⟩/\F2 (DE H.get) es es'/\a=r :: es.flatMap kr/\a.Nodup
def Ml(z:Nat)(es':List AV)(y:AV):Prop:=(y = .v (.slice none 0 0)/\es'=[])\/(y = .fsl z [] (some 0)/\es'=[])\/(y = .nsl z es' none/\es'≠[])
def DN(z:Nat)(s:AV)(es':List AV):AV:=match s with
 | .ct _ _ _ c => .fsl z [] c
 | .dsl _ _ _ c => .nsl z es' c
 | s=>s
def HM:AV->AV
 | .fsl z l c => .bE z l c
 | .nsl z es c => .bE z (es.map J7) c
 | x=>x
def wN.bT{z:Nat}{H g:aa}{s:AV}{es':List AV}{c:List Ref}(h:wN z H s es' c)(d : ∀q∈c,∀b,H.get q=some b->g.get q=some b):wN z g s es' c:=by
 rcases h with h | ⟨r,e,a,rfl,f⟩ | ⟨r,es,e,a,i,f,rfl,k⟩
 ·exact .inl h
 ·exact .inr (.inl ⟨r,e,a,rfl,d r (by simp) _ f⟩)
 exact .inr (.inr ⟨r,es,e,a,d r (by simp) _ i,F2.mono (λx n y j=>DE.bT j λq l b m=>d q (by simp only[fR,jO];exact .inr ⟨x,n,l⟩) b m) f,rfl,k⟩)
def wN.live{z:Nat}{H:aa}{s:AV}{es':List AV}{d:List Ref}(h:wN z H s es' d) : ∀q∈d,∃b,H.get q=some b:=by
 rcases h with ⟨_,_,rfl⟩ | ⟨r,i,g,rfl,c⟩ | ⟨r,es,i,g,e,c,rfl,j⟩
 ·intro q a;cases a
 ·intro q a;simp at a;subst a;exact⟨_,c⟩
 intro q a;rcases fR.1 a with rfl | a
 ·exact⟨_,e⟩
 exact F2.live (λx y f=>DE.live f) c q a
def wN.nodup{z:Nat}{H:aa}{s:AV}{es':List AV}{a:List Ref}(h:wN z H s es' a):a.Nodup:=by
 rcases h with ⟨_,_,rfl⟩ | ⟨r,d,b,rfl,e⟩ | ⟨r,es,d,b,f,e,rfl,c⟩
 ·simp
 ·simp
 exact c
def wN.out{z:Nat}{H:aa}{s:AV}{es':List AV}{k:List Ref}(h:wN z H s es' k)(n:Nat) :
 ca H.get (n+3) s=some (DN z s es')/\view H.get (n+3) s=some (HM (DN z s es'))/\aj H.get (n+3) s=k/\Ml z es' (DN z s es'):=by
 rcases h with ⟨rfl,rfl,rfl⟩ | ⟨r,rfl,rfl,rfl,a⟩ | ⟨r,es,rfl,p,d,a,rfl,t⟩
 ·exact⟨rfl,rfl,rfl,.inl ⟨rfl,rfl⟩⟩
 ·refine⟨?_,?_,rfl,.inr (.inl ⟨rfl,rfl⟩)⟩;·simp[ca,a,DN]
  simp[view,a,DN,HM]
 have j:=a.len;have i:es'≠[]:=(by intro e;rw[e]at j;exact p (si.1 j));have o:=F2.mapM (R:=DE H.get) (f:=ca H.get (n+2)) (h:=id) (λx y c=>DE.export c n) a;have m:=F2.mapM (R:=DE H.get) (f:=Ab.view H.get (n+2)) (h:=J7) (λx y c=>DE.view c n) a;have q:=F2.refs (g:=H.get) (R:=DE H.get) (f:=aj H.get (n+2)) (h:=kr) (λx y c=>DE.refs c n) a;refine⟨?_,?_,?_,.inr (.inr ⟨rfl,i⟩)⟩
 ·show(match H.get r with
   | some b=>if b.arr=false/\es.length=b.es.length then (if b.jq then (b.es.mapM (view H.get (n+2))).map λes=>AV.bE b.esz es none else (b.es.mapM (ca H.get (n+2))).map λes=>AV.nsl b.esz es none) else none
   | none=>none)=_
  rw[d];simp only[o];simp[DN]
 ·show(match H.get r with
   | some b=>if b.arr=false/\0+es.length<=b.es.length then (b.es.mapM (view H.get (n+2))).map λ(l:List AV)=>AV.bE b.esz ((l.drop 0).take es.length) none else none
   | none=>none)=_
  rw[d];simp only[m];simp[DN,HM];rw[j,show es'.length=(es'.map J7).length from(AM _).symm,Ce]
 show(r :: (match H.get r with | some b=>b.es.flatMap (aj H.get (n+2)) | none=>[]))=_;rw[d];simp only[q]
def wN.len{z:Nat}{H:aa}{s:AV}{es':List AV}{b:List Ref}(h:wN z H s es' b):tu s=some es'.length:=by
 rcases h with ⟨rfl,rfl,rfl⟩ | ⟨r,rfl,rfl,rfl,a⟩ | ⟨r,es,rfl,d,c,a,rfl,e⟩
 ·rfl
 ·rfl
 simp[tu,a.len]
def At(g:dv)(r:Ref)(k:Nat)(bs:List bC):Prop :=∀i b,bs[i]?=some b->g { r with k:=k+i}=some b
def Xh{g:dv}{r:Ref}{k:Nat}{a bs:List bC}(h:At g r k (a++bs)):At g r k a:=λi b hi=>h i b (by rw[kR (fg.1 hi).1];exact hi)
def Xg{g:dv}{r:Ref}{k:Nat}{a bs:List bC}(h:At g r k (a++bs)):At g r (k+a.length) bs:=λi b hi=>by
 have:=h (a.length+i) b (by rw[kj (by omega),show a.length+i - a.length=i by omega];exact hi);rw[GX];exact this
def tk(r:Ref)(k n:Nat):List Ref:=(List.range' k n).map λk => { r with k:=k}
def Kj(r:Ref)(k m n:Nat):tk r k m++tk r (k+m) n=tk r k (m+n):=by
 unfold tk;rw[<-AL];congr 1;have:=List.range'_append (s:=k) (m:=m) (n:=n) (step:=1);simpa using this
def Nj(r:Ref)(k n:Nat):(tk r k n).Nodup:=by
 unfold tk;rw[List.nodup_iff_pairwise_ne,List.pairwise_map];refine List.Pairwise.imp ?_ (List.nodup_iff_pairwise_ne.1 (List.nodup_range' (s:=k) (n:=n)));intro a b h e;exact h (iQf Ref.k e)
def Kr{r q:Ref}{k n:Nat}(h:q∈tk r k n):q.d=r.d/\q.t=r.t/\q.g=r.g/\k<=q.k/\q.k<k+n:=by
 unfold tk at h;obtain⟨i,hi,rfl⟩:=mo.1 h;have:=List.mem_range'_1.1 hi;exact⟨rfl,rfl,rfl,this.1,this.2⟩
def Imp(R:dv->AV->AV->Prop)(rf:AV->List Ref)(r:Ref)(n:Nat)(y:AV):Prop :=∀bs,∃x add,aw r n y bs=(x,bs++add)/\(∀g,At g r bs.length add->R g x y)/\rf x=tk r bs.length add.length
def NQ{R:dv->AV->AV->Prop}{rf:AV->List Ref}{r:Ref}{n:Nat} : ∀(b:List AV),(∀y∈b,Imp R rf r n y) ->∀(a:List AV)(bs:List bC),
 ∃d add,b.foldl (λ(p:List AV × List bC) c=>let (y,bs):=aw r n c p.2;(p.1++[y],bs)) (a,bs)=(a++d,bs++add)/\(∀g,At g r bs.length add->F2 (R g) d b)/\d.flatMap rf=tk r bs.length add.length:=by
 intro b;induction b with
 | nil=>intro _ a bs;exact⟨[],[],by simp,λg _=>trivial,by simp[tk]⟩
 | cons y b k=>
  intro h a bs;obtain⟨x,a1,f,m,l⟩:=h y (by simp) bs;obtain⟨d,i,f1,f2,f3⟩:=k (λy j=>h y (by simp[j])) (a++[x]) (bs++a1);refine⟨x :: d,a1++i,?_,λg e=>⟨m g (Xh e),f2 g ?_⟩,?_⟩;·simp only[wU,f,f1];simp
  ·have:=Xg e;rw[iX];exact this
  rw[nL,l,f3,iX,Kj,iX]
def ac2:AV->Bool
 | .v _ | .bE .. => true
 | .fsl z _ _=>z != 0
 | _=>false
def Wz:AV->Bool
 | .agg a=>a.all ac2
 | _=>false
def Zw{y:AV}(h:ac2 y=true)(r:Ref)(n:Nat):Imp DC lL r (n+1) y:=by
 intro bs;cases y<;>first | cases h | skip
 ·exact⟨_,[],by simp[aw],λg _ => .inl ⟨rfl,rfl⟩,by simp[tk,lL]⟩
 ·exact⟨_,[],by simp[aw],λg _ => .inl ⟨rfl,rfl⟩,by simp[tk,lL]⟩
 rename_i z l c;have a:z≠0:=by simpa [ac2] using h
 refine⟨.ct { r with k:=bs.length} 0 l.length c,[⟨z,l,true,false⟩],by simp[aw,a],λg b => .inr ⟨_,z,l,c,rfl,rfl,?_,a⟩,by simp[tk,lL]⟩;have:=b 0 _ rfl;simpa using this
def Zv{y:AV}(h:Wz y=true)(r:Ref)(n:Nat):Imp DE kr r (n+2) y:=by
 intro bs;cases y<;>first | cases h | skip
 rename_i a;obtain⟨xs,add,j,f,d⟩:=NQ (R:=DC) (rf:=lL) (r:=r) (n:=n+1) a (λy b=>Zw (gP.1 h y b) r n) [] bs;refine⟨.agg xs,add,?_,λg i=>⟨xs,a,rfl,rfl,f g i⟩,d⟩;have e:aw r (n+2) (.agg a) bs=(λp:List AV × List bC=>(AV.agg p.1,p.2)) (a.foldl (λ(p:List AV × List bC) c=>let (y,bs):=aw r (n+1) c p.2;(p.1++[y],bs)) ([],bs)):=rfl;rw[e,j];rfl
def Ml.imp{z:Nat}{es':List AV}{y:AV}(l:z≠0)(h:Ml z es' y)(v : ∀e∈es',Wz e=true)(r:Ref)(n:Nat)(bs:List bC) :
 ∃s add,aw r (n+3) y bs=(s,bs++add)/\(∀H:aa,At H.get r bs.length add ->∃i,wN z H s es' i/\(∀q∈i,q∈tk r bs.length add.length)/\DN z s es'=y):=by
 rcases h with ⟨rfl,rfl⟩ | ⟨rfl,rfl⟩ | ⟨rfl,f⟩
 ·exact⟨_,[],by simp[aw],λH _=>⟨[],.inl ⟨rfl,rfl,rfl⟩,(λq a=>by cases a),rfl⟩⟩
 ·refine⟨.ct { r with k:=bs.length} 0 0 (some 0),[⟨z,[],true,false⟩],by simp[aw,l],λH b=>⟨[{ r with k:=bs.length}],.inr (.inl ⟨_,rfl,rfl,rfl,by simpa using b 0 _ rfl⟩),λq a=>?_,rfl⟩⟩;simpa [tk] using a
 obtain⟨xs,add,w,j,t⟩:=NQ (R:=DE) (rf:=kr) (r:=r) (n:=n+2) es' (λy o=>Zv (v y o) r n) [] bs;refine⟨.dsl { r with k:=bs.length+add.length} 0 es'.length none,add++[⟨z,xs,false,false⟩],?_,λH b=>?_⟩;·have e:aw r (n+3) (.nsl z es' none) bs=(λp:List AV × List bC=>(AV.dsl { r with k:=p.2.length} 0 es'.length none,p.2++[⟨z,p.1,false,false⟩])) (es'.foldl (λ(p:List AV × List bC) c=>let (y,bs):=aw r (n+2) c p.2;(p.1++[y],bs)) ([],bs)):=rfl;rw[e,w];simp
 have g:=j H.get (Xh b);have d:=g.len;have m:=Xg b 0 _ rfl;refine⟨{ r with k:=bs.length+add.length} :: tk r bs.length add.length,.inr (.inr ⟨_,xs,by rw[d],?_,by simpa using m,g,by rw[t],?_⟩),λq a=>?_,rfl⟩;·intro e;rw[e]at d;exact f (si.1 d.symm)
 ·refine AK.2 ⟨λu=>?_,Nj _ _ _⟩;have:=(Kr u).2.2.2.2;simp only at this;omega
 rw[iX,EF,<-Kj];rcases fR.1 a with rfl | a
 ·simp[tk]
 simp[a]
def qo(z:Nat)(H:aa)(r:Ref)(es':List AV)(a:List Ref):Prop :=∃es,H.get r=some ⟨z,es,false,false⟩/\F2 (DE H.get) es es'/\a=r :: es.flatMap kr/\a.Nodup
def qo.row{z:Nat}{H:aa}{r:Ref}{es':List AV}{c:List Ref}(h:qo z H r es' c)(a:es'≠[]):wN z H (.dsl r 0 es'.length none) es' c:=by
 obtain⟨es,g,b,f,i⟩:=h;have d:=b.len;exact .inr (.inr ⟨r,es,by rw[d],λe=>a (si.1 (by rw[<-d,e];rfl)),g,b,f,i⟩)
def qo.bT{z:Nat}{H c:aa}{r:Ref}{es':List AV}{a:List Ref}(h:qo z H r es' a)(d : ∀q∈a,∀b,H.get q=some b->c.get q=some b):qo z c r es' a:=by
 obtain⟨es,e,k,rfl,g⟩:=h;exact⟨es,d r (by simp) _ e,F2.mono (λx l y f=>DE.bT f λq i b j=>d q (by simp only[fR,jO];exact .inr ⟨x,l,i⟩) b j) k,rfl,g⟩
def qo.live{z:Nat}{H:aa}{r:Ref}{es':List AV}{c:List Ref}(h:qo z H r es' c) : ∀q∈c,∃b,H.get q=some b:=by
 obtain⟨es,d,f,rfl,g⟩:=h;intro q a;rcases fR.1 a with rfl | a
 ·exact⟨_,d⟩
 exact F2.live (λx y e=>DE.live e) f q a
def VY{g:dv}{a:List AV}(h:a.all C2=true):DE g (.agg a) (.agg a):=by
 refine⟨a,a,rfl,rfl,?_⟩;induction a with
 | nil=>trivial
 | cons y a b=>simp only[zk,bI]at h;exact⟨.inl ⟨rfl,h.1⟩,b h.2⟩
def Tb{a:List AV}(h:a.all C2=true):kr (.agg a)=[]:=by
 show a.flatMap lL=[];induction a with
 | nil=>rfl
 | cons y a b=>simp only[zk,bI]at h;rw[nL,b h.2];cases y<;>first | rfl | (exact absurd h.1 (by simp[C2]))
def VX{g:dv}{es:List AV}(h : ∀e∈es,∃a,e = .agg a/\a.all C2=true):F2 (DE g) es es/\es.flatMap kr=[]:=by
 induction es with| nil=>exact⟨trivial,rfl⟩| cons e es d=>obtain⟨a,rfl,b⟩:=h e (by simp);obtain⟨i,c⟩:=d λe f=>h e (by simp[f]);exact⟨⟨VY b,i⟩,by rw[nL,c,Tb b];rfl⟩
def DD{b:Type}{l:List b}{i:Nat}{a:b}(h:l[i]?=some a):l=l.take i++a :: l.drop (i+1):=by
 obtain⟨hi,rfl⟩:=fg.1 h;rw[<-K9 hi,Dt]
def Mu{A B a:List AV}{i j:Nat}{v:AV}(hi:A.length=i)(b:j<a.length):fS (A ++ .agg a :: B) i j [v]=some (A ++ .agg (patch a j [v]) :: B):=by
 subst hi;unfold fS;rw[kj (bM _),vO];simp only[K8,Jg,EF];rw[if_pos (by omega)];simp only[EE _ _ (bM _),vO,EB,Option.map_some]
def Kl{a b:List AV}{x v:AV}{j:Nat}(h:a.length=j):patch (a++x :: b) j [v]=a++v :: b:=by
 subst h;simp[patch]
def qo.at{z:Nat}{H:aa}{r:Ref}{es':List AV}{d:List Ref}(h:qo z H r es' d){i:Nat}{b:List AV}(hi:es'[i]?=some (.agg b)) :
 ∃es a,H.get r=some ⟨z,es,false,false⟩/\es.length=es'.length/\es[i]?=some (.agg a)/\F2 (DC H.get) a b /\∀q∈a.flatMap lL,q∈d:=by
 obtain⟨es,l,c,j,n⟩:=h;obtain⟨x,f,a,m,rfl,e,g⟩:=c.at hi;cases e;refine⟨es,a,l,c.len,f,g,λq k=>?_⟩;rw[j];simp only[fR,jO];exact .inr ⟨_,ja f,by simpa [kr] using k⟩
def qo.set{z:Nat}{H:aa}{r:Ref}{es':List AV}{O:List Ref}(h:qo z H r es' O){i j:Nat}{n:List AV}(hi:es'[i]?=some (.agg n))(hj:j<n.length){q:Ref}(X:H.get q=none)(w:Nat)(hz:w≠0)(l:List AV)(c:Option Nat) :
 ∃es F,H.get r=some ⟨z,es,false,false⟩/\es.length=es'.length/\fS es i j [.ct q 0 l.length c]=some F /\
  ∀D:aa,D.get r=some ⟨z,F,false,false⟩->D.get q=some ⟨w,l,true,false⟩->(∀p b,p≠r->H.get p=some b->D.get p=some b) ->
   ∃I,qo z D r (es'.set i (.agg (patch n j [.fsl w l c]))) I /\∀p∈I,p∈O\/p=q:=by
 have t:=h.live;obtain⟨es,Z,Y,N,L⟩:=h;have S:=DD hi;have hil:i<es'.length:=(fg.1 hi).1;have m:(es'.take i).length=i:=by rw[oM];omega
 generalize es'.take i=A' at *;generalize es'.drop (i+1)=B' at *;subst S;obtain⟨A,C,rfl,hA,W⟩:=F2.split Y;match C,W with
 | x :: B,W=>
 obtain⟨⟨xs,ys',rfl,e,hX⟩,hB⟩:=W;cases e;have U:A.length=i:=by rw[hA.len,m]
 obtain⟨y,hy⟩ : ∃y,n[j]?=some y:=⟨_,eu hj⟩;have T:=DD hy;have J:(n.take j).length=j:=by rw[oM];omega
 generalize n.take j=Y1 at *;generalize n.drop (j+1)=Y2 at *;subst T;obtain⟨f,X3,rfl,G,u⟩:=F2.split hX;match X3,u with
 | x0 :: g,u=>
 have K:f.length=j:=by rw[G.len,J]
 refine⟨_,_,Z,Y.len,Mu U (by simp;omega),λD g1 g2 g3=>?_⟩;rw[Kl K]at g1;have E:(A' ++ .agg (Y1++y :: Y2) :: B').set i (.agg (patch (Y1++y :: Y2) j [.fsl w l c]))=A' ++ .agg (Y1 ++ .fsl w l c :: Y2) :: B':=by
  rw[Kl J,EE _ _ (by omega),m,vO,EB]
 rw[E];have d : ∀p,p∈A.flatMap kr\/p∈f.flatMap lL\/p∈g.flatMap lL\/p∈B.flatMap kr->p∈O/\p≠r:=by
  intro p hp;have:p∈(A ++ .agg (f++x0 :: g) :: B).flatMap kr:=by
   simp only[ED,nL,mS,kr];rcases hp with hp | hp | hp | hp
   ·exact .inl hp
   ·exact .inr (.inl (.inl hp))
   ·exact .inr (.inl (.inr (.inr hp)))
   exact .inr (.inr hp)
  rw[N]at L;exact⟨by rw[N];exact kQ _ this,λe=>(AK.1 L).1 (e ▸ this)⟩
 have P : ∀p,p∈A.flatMap kr\/p∈f.flatMap lL\/p∈g.flatMap lL\/p∈B.flatMap kr ->∀b,H.get p=some b->D.get p=some b:=λp hp b k=>g3 p b (d p hp).2 k;have R:q≠r:=by
  intro e;rw[e,Z]at X;cases X
 refine⟨r :: (A ++ .agg (f ++ .ct q 0 l.length c :: g) :: B).flatMap kr,⟨_,g1,?_,rfl,?_⟩,?_⟩;·refine F2.app (F2.mono (λx v y o=>DE.bT o λp hp b k=>P p (.inl (jO.2 ⟨x,v,hp⟩)) b k) hA) ⟨⟨_,_,rfl,rfl,F2.app (F2.mono (λx v y o=>DC.bT o λp hp b k=>P p (.inr (.inl (jO.2 ⟨x,v,hp⟩))) b k) G) ⟨.inr ⟨q,w,l,c,rfl,rfl,g2,hz⟩,F2.mono (λx v y o=>DC.bT o λp hp b k=>P p (.inr (.inr (.inl (jO.2 ⟨x,v,hp⟩)))) b k) u.2⟩⟩,F2.mono (λx v y o=>DE.bT o λp hp b k=>P p (.inr (.inr (.inr (jO.2 ⟨x,v,hp⟩)))) b k) hB⟩
 ·rw[N]at L;have e1:(A ++ .agg (f++x0 :: g) :: B).flatMap kr=A.flatMap kr++(f.flatMap lL++(lL x0++(g.flatMap lL++B.flatMap kr))):=by simp[kr,ED,nL]
  have V:(A ++ .agg (f ++ .ct q 0 l.length c :: g) :: B).flatMap kr=A.flatMap kr++(f.flatMap lL++(q :: (g.flatMap lL++B.flatMap kr))):=(by simp[kr,ED,nL,lL]);rw[e1]at L;rw[V];have M:(r :: (A.flatMap kr++(f.flatMap lL++(g.flatMap lL++B.flatMap kr)))).Sublist (r :: (A.flatMap kr++(f.flatMap lL++(lL x0++(g.flatMap lL++B.flatMap kr))))):=
   List.Sublist.cons_cons _ (iQS (List.Sublist.refl _) (iQS (List.Sublist.refl _) (List.sublist_append_right _ _)))
  have hn:=L.sublist M;have s:(r :: (A.flatMap kr++(f.flatMap lL++(q :: (g.flatMap lL++B.flatMap kr))))).Perm (q :: (r :: (A.flatMap kr++(f.flatMap lL++(g.flatMap lL++B.flatMap kr))))):=(by have:=List.perm_middle (a:=q) (l₁:=r :: (A.flatMap kr++f.flatMap lL)) (l₂:=g.flatMap lL++B.flatMap kr);simpa [sh] using this);refine s.nodup_iff.2 (AK.2 ⟨λQ=>?_,hn⟩);rcases fR.1 Q with rfl | Q
  ·exact R rfl
  have:q∈O:=(d q (by simp only[mS]at Q;exact Q)).1;obtain⟨b,k⟩:=t q this;rw[X]at k;cases k
 intro p hp;rcases fR.1 hp with rfl | hp
 ·exact .inl (by rw[N];simp)
 have V:(A ++ .agg (f ++ .ct q 0 l.length c :: g) :: B).flatMap kr=A.flatMap kr++(f.flatMap lL++(q :: (g.flatMap lL++B.flatMap kr))):=(by simp[kr,ED,nL,lL]);rw[V]at hp;simp only[mS,fR]at hp;rcases hp with hp | hp | hp | hp | hp
 ·exact .inl (d p (.inl hp)).1
 ·exact .inl (d p (.inr (.inl hp))).1
 ·exact .inr hp
 ·exact .inl (d p (.inr (.inr (.inl hp)))).1
 exact .inl (d p (.inr (.inr (.inr hp)))).1
@[simp] def T7{P:Program}{t:TypeId}(h:qN P t=true)(g:dv)(r:Ref)(o n:Nat)(c:Option Nat)(b:IntKind)(k:Int) :
 cb P g t (some (.dsl r o n c)) (some (.v (.int b k)))=ac3 (lj P t) o n k r (g r):=by
 unfold qN at h;obtain⟨e,zz,d,a,f,p,l,j,m,i⟩:=iK h;simp only[cb,fe,uJ,d,a];cases g r<;>rfl
@[simp] def aeL(r:Ref)(o n:Nat)(c:Option Nat):tu (.dsl r o n c)=some n:=id rfl
@[simp] def afa(r:Ref)(o n:Nat)(c:Option Nat):(AV.dsl r o n c).cells=[.dsl r o n c]:=id rfl
@[simp] def aiM(r:Ref)(o n:Nat)(c:Option Nat):(AV.dsl r o n c).one=true:=id rfl
end Go.Ab
namespace Go.Proofs.YtiidajnodhkidaaGreat
open Go.Ab
attribute [local simp] aN aG ar aD aC bT kp aP ax aJ bG bF aX aO af a9 dM
structure fH where
 pos:Int
 bs:List UInt8
 av:AV
def fH.enc(s:fH):AV := .agg [aI s.pos,s.av]
def fM(s:fH):Prop:=Sl 1 (aK s.bs) s.av
def bt(l:List fH):List AV:=l.map fH.enc
@[simp] def za(l:List fH):(bt l).length=l.length:=by simp[bt]
def dR(x:AV)(st lf:Int)(dd:Bool):AV := .agg [x,aI st,aI lf,aB dd]
def U2{x:AV}{l:List UInt8}(o:Sl 1 (aK l) x)(v:l.length<1000000000):ay env 79 [x]=some (.bE 1 (aK l) none):=by
 refine aH rfl (by kernel_rfl) (MM _ _ _ λg=>?_);have G:=o.r;have m:=yP (P:=env.P) (t:=76) (z:=1) (by':=1) (zz:=a8 0) (r:=⟨0,6,0,0⟩) (by kernel_rfl) (by kernel_rfl) (n:=l.length) (by simp only[aX];omega) (by omega);have j:(aK l).length=l.length:=by simp
 have C : ∀(H:aa)(L:List AV),L.length=l.length->H.get ⟨0,6,0,0⟩=some ⟨1,L,true,false⟩->yg env.P H (some 76) (.ct ⟨0,6,0,0⟩ 0 l.length none) x=some (aI l.length,H.put ⟨0,6,0,0⟩ (some ⟨1,aK l,true,false⟩)):=by
  intro H L B y;have E:(aK l).take l.length=aK l:=dM (by omega);have a:L.drop l.length=[]:=Fz (by omega);have D:Nat.min (aK l).length l.length=l.length:=by rw[j];exact Nat.min_self _
  rcases o with ⟨rfl,p⟩ | ⟨c,rfl,p⟩
  ·have d:l=[]:=(by apply si.1;rw[<-j,p];rfl);subst d;have i:L=[]:=si.1 B;subst i;have b:jR aY=true:=rfl;simp only[yg,b,if_true,fe,y];simp
  have b:jR (.bE 1 (aK l) c)=false:=rfl;have F:dt H.get (.bE 1 (aK l) c)=some (1,aK l):=rfl;simp only[yg,b,F,fe,y];simp[D,E,a,B,j]
 have e:=λH=>C H (List.replicate l.length (a8 0)) (by simp);clear C;simp[ak, *,F8,v,m,e]
def agb{x:AV}{l:List UInt8}(o:Sl 1 (aK l) x)(v:l.length=128):ay env 79 [x]=some (.bE 1 (aK l) none):=U2 o (by omega)
@[simp] def aiv(a:Int):ay env 173 [aI a]=some (aB false):=by
 refine aH rfl (by kernel_rfl) (Dy _ _ _ λg=>?_);simp[ak, *,xp]
@[simp] def aeb(a b:Int):ay env 149 [aI a,aI b]=some (aI (if a<b then -1 else if b<a then 1 else 0)):=by
 refine aH rfl (by kernel_rfl) (B0 _ _ _ _ λg=>?_);simp[ak, *,vk];repeat' ((first | apply qO<;>intro h | apply mK<;>intro h | apply mL<;>intro h | apply mI<;>intro h | apply mJ<;>intro h)<;>(try simp only[iQb,iQc,ij,pO,bI,jf]at h)<;>(try simp[ak, *]))
 done
def Rf(a b:Int)(x:AV)(h:x.one=true)(c : ∀g n,view g (n+1) x=some x):ay env 148 [.agg [aI a,x],aI b]=some (aI (if a<b then -1 else if b<a then 1 else 0)):=by
 refine aH rfl (by kernel_rfl) (Hv _ _ _ _ λg=>?_);simp[ak, *,Bu]
def nth(l:List fH)(q:Int):Nat:=(l.takeWhile λs=>decide (s.pos<q)).length
def yY(l:List fH)(q:Int)(n:Nat):Bool:=match l[n]? with | some s=>decide (s.pos=q) | none=>false
section
variable{l:List fH}{x:AV}{q:Int}{N:Nat}(o:Sl 2 (bt l) x)(f : ∀s∈l,fM s)(v:l.length<1000000)(A : ∀k (h:k<l.length),(l[k].pos<q↔k<N))(w:N<=l.length)
include o f v A w
theorem ZV{Q:AV->aa->Prop} : ∀(m i j:Nat)(H:aa),j - i<=m->i<=N->N<=j->j<=l.length->Fr H ->
 (∀y e,y = .tup [aI N,aB (yY l q N)]->Q y e) ->
 cy env Tryz.f147 0 aQ [(1,aI q),(0,x),(2,.fn (.func 148) [] []),(10,aI j),(9,aI i),(8,aI l.length)] H Q:=by
 intro m;induction m with
 | zero=>
  intro i j H P hi C c z b;obtain rfl:i=j:=by omega
  obtain rfl:i=N:=(by omega);refine cP _ _ _ _ _ _ _ _ λg=>?_;by_cases a:i<l.length
  ·have W:(bt l)[i]?=some (l[i]).enc:=(by simp[bt,a]);have t:=(f l[i] (fj _)).r;have G:=Rf l[i].pos q l[i].av;have D:bP (bt l) i 0 2 true=some (.agg [aI l[i].pos,l[i].av]):=by simp[bt,a,fH.enc]
   have O:=G t.2.2.2.2.1 t.2.1;have p:yY l q i=decide (l[i].pos=q):=by simp[yY,a]
   simp only[p]at b;have I : ¬l[i].pos<q:=by intro h;exact absurd ((A i a).1 h) (by omega)
   clear A G f;simp[ak, *,bc,o.r,o.idx,fH.enc,cY];exact b _ _ (by
    have:decide (l[i].pos<=q)=decide (l[i].pos=q):=by simp only[decide_eq_decide];omega
    rw[this])
  have p:yY l q i=false:=(by simp[yY,a]);simp only[p]at b;simp[ak, *,bc,o.r,o.idx,fH.enc,cY]
 | succ m B=>
  intro i j H P hi C c z b;by_cases M:i<j
  ·have R:=iQa ((i:Int)+j) (by omega);refine cP _ _ _ _ _ _ _ _ λg=>?_;obtain⟨h,p⟩ : ∃h,h=(i+j) / 2:=⟨_,rfl⟩;have n:h<l.length:=by omega
   have U:(0:Int)<=(i:Int)+j:=(by omega);have S:(i:Int)+j<=4294967296:=(by omega);have T:((i:Int)+j).fdiv (2 ^ min 1 IntKind.u64.bits)=h:=by rw[show(2:Int) ^ min 1 IntKind.u64.bits=2 from rfl,cT];omega
   have X:=iQa (h:Int) (by omega);have V:=iQa ((h:Int)+1) (by omega);have t:=(f l[h] (fj _)).r;have O:=Rf l[h].pos q l[h].av t.2.2.2.2.1 t.2.1;have D:bP (bt l) h 0 2 true=some (.agg [aI l[h].pos,l[h].av]):=by simp[bt,n,fH.enc]
   have L:=A h n;have E:=λe=>B (h+1) j e;have F:=λe=>B i h e;have b1:j - (h+1)<=m:=by omega
   have b2:h - i<=m:=(by omega);have b3:h<=l.length:=(by omega);clear B A f p;simp[ak, *,bc,o.r,o.idx,fH.enc,cY];by_cases a:h<N
   ·have d:(decide ((if h<N then (-1:Int) else if q<l[h].pos then 1 else 0)<0))=true:=by rw[if_pos a];rfl
    have K:((h+1:Nat):Int)=(h:Int)+1:=(by omega);rw[d];have J:=E H b1 (by omega) C c z b;rw[K]at J;simp[*]
   have d:(decide ((if h<N then (-1:Int) else if q<l[h].pos then 1 else 0)<0))=false:=(by rw[if_neg a];split<;>rfl);rw[d];have J:=F H b2 hi (by omega) b3 z b;simp[*]
  exact B i j H (by omega) hi C c z b
theorem ajG:ay env 147 [x,aI q,.fn (.func 148) [] []]=some (.tup [aI N,aB (yY l q N)]):=by
 refine aH rfl (by kernel_rfl) (fT _ _ _ _ _ λg=>?_);have h:=ZV o f v A w (Q:=λy a=>ed env 147 y a (.tup [aI N,aB (yY l q N)])) l.length 0 l.length [] (by omega) (by omega) w (bM _) (by simp(maxDischargeDepth:=12) [Gk, *]) (λy a e=>by rw[e];simp);simp[ak, *,cW,o.r];exact h
theorem abV{st lf:Int}{dd:Bool}:ay env 111 [dR x st lf dd,aI q]=some (.tup [aI N,aB (yY l q N)]):=by
 refine aH rfl (by kernel_rfl) (Lo _ _ _ _ λg=>?_);have h:=ajG o f v A w;simp[ak, *,En,dR,o.r]
end
def gN(a:Int):List fH->Bool
 | []=>true
 | s :: l => !decide (s.pos<=a) && !decide (s.pos>=6146)&&decide (s.bs.length=128)&&gN s.pos l
def IQ(st lf:Int)(dd:Bool):Bool := !decide (st<0) && !decide (st>=2147483648) && !decide (lf < -1) && !decide (lf>=2147483648) && !(dd && !decide (lf=0))
def Gi(l:List fH)(st lf:Int)(dd:Bool):Bool:=gN (-1) l&&IQ st lf dd
section
variable{l:List fH}{x:AV}{st lf:Int}{dd:Bool}(o:Sl 2 (bt l) x)(f : ∀s∈l,fM s)(v:l.length<1000000000)
include o f v
theorem Qs{r1:Ref}{Q:AV->aa->Prop} : ∀(s:List fH)(k:Nat)(i a:Int)(H:aa),l.drop k=s->k<=l.length->i=k->Fr H->H.get r1=some ⟨4,[dR x st lf dd],false,false⟩ ->
 (∀y b,y=aI (if gN a s&&IQ st lf dd then 0 else 8)->Q y b) ->
 cy env Tryz.f45 0 rg [(9,aI i),(3,aI a),(7,x),(1,.ptr r1 0 0),(8,aI l.length)] H Q:=by
 intro s;induction s with
 | nil=>
  rintro k i a H hs hk rfl hF h1 hQ;obtain rfl:=drop_nil hs hk;refine Am _ _ _ _ _ _ _ λg=>?_;simp only[dR]at h1;simp[ak, *,vf,o.r];repeat' ((first | apply qO<;>intro h | apply mK<;>intro h | apply mL<;>intro h | apply mI<;>intro h | apply mJ<;>intro h)<;>(try simp only[iQb,iQc,ij,pO,bI,jf]at h)<;>(try simp[ak, *]))
  all_goals refine hQ _ _ ?_
  all_goals simp[gN,IQ, *]
  all_goals (try omega)
 | cons p s m=>
  rintro k i a H hs hk rfl hF h1 hQ;obtain⟨t,B,d,j⟩:=drop_cons hs;have C:=iQa ((k:Int)+1) (by omega);have hp:=(f p (by rw[<-B];exact fj _)).r;have z:bP (bt l) k 0 2 true=some (.agg [aI p.pos,p.av]):=by simp[bt,j,fH.enc]
  refine Am _ _ _ _ _ _ _ λg=>?_;have c:=λb=>m (k+1) ((k:Int)+1) p.pos b d (by omega) (by omega);clear m f;simp only[dR]at h1 c;simp[ak, *,vf,o.r,o.idx];repeat' ((first | apply qO<;>intro h | apply mK<;>intro h | apply mL<;>intro h | apply mI<;>intro h | apply mJ<;>intro h)<;>(try simp only[iQb,iQc,ij,pO,bI,jf]at h)<;>(try simp[ak, *]))
  all_goals first
   | exact hQ _ _ (by simp[gN, *]<;>omega)
   | refine c _ (by simp(maxDischargeDepth:=12) [Gk, *]) (by simp[*,xH,xI,Gx,Gy]) λy b e=>hQ y b ?_
  all_goals have n:p.bs.length=128:=by omega
  all_goals simp[e,gN, *]
theorem LF:ay env 45 [dR x st lf dd]=some (aI (if Gi l st lf dd then 0 else 8)):=by
 refine aH rfl (by kernel_rfl) (Jx _ _ _ λg=>?_);have h:=Qs (st:=st) (lf:=lf) (dd:=dd) o f v (r1:=⟨0,1,0,0⟩) (Q:=λy a=>ed env 45 y a (aI (if Gi l st lf dd then 0 else 8))) l 0 0 (-1) [(⟨0,1,0,0⟩,some ⟨4,[dR x st lf dd],false,false⟩)] rfl (by omega) rfl (by simp(maxDischargeDepth:=12) [Gk, *]) (by simp) (λy a e=>by rw[e];unfold Gi;split<;>simp);simp only[dR]at h ⊢;simp[ak, *,CJ,o.r];exact h
theorem Yq{q:Int}:ay env 110 [dR x st lf dd,aI q]=some (aI (if Gi l st lf dd then (if 0<=q/\q<6146 then 0 else 2) else 8)):=by
 refine aH rfl (by kernel_rfl) (Jv _ _ _ _ λg=>?_);have h:=LF (st:=st) (lf:=lf) (dd:=dd) o f v;simp only[dR]at h ⊢;cases hd:Gi l st lf dd<;>simp[hd]at h;·simp[ak, *,xS,o.r]
 simp[ak, *,xS,o.r];repeat' ((first | apply qO<;>intro h | apply mK<;>intro h | apply mL<;>intro h | apply mI<;>intro h | apply mJ<;>intro h)<;>(try simp only[iQb,iQc,ij,pO,bI,jf]at h)<;>(try simp[ak, *]))
 all_goals omega
end
def aaJ:bZ env.P .eql 22 (.tmp 3) (.const (.slice none 0 0)) (some aY) (some aY)=some (aB true,[]):=by kernel_rfl
def Vx{x:AV}{l:List fH}(o:Sl 2 (bt l) x)(v:l.length<1000000):ay env 78 [x]=some (IV x):=by
 rcases o.Wb with ⟨rfl,he⟩ | ⟨c,rfl⟩
 ·refine aH rfl (by kernel_rfl) (cH _ _ _ λg=>?_);simp[ak, *,bN,aaJ]
 by_cases a:l=[];·refine aH rfl (by kernel_rfl) (cH _ _ _ λg=>?_);subst a;simp[ak, *,bN,bt]
 refine aH rfl (by kernel_rfl) (cH _ _ _ λg=>?_);have d:bt l≠[]:=by simp[bt,a]
 have b:=za l;have e:l.length * 32<=140737488355328:=by omega
 generalize bt l=es at *;simp[ak, *,bN,yd,BR]
def UD(s:fH):fH:=⟨s.pos,s.bs,.bE 1 (aK s.bs) none⟩
def zH(l:List fH):List fH:=l.map UD
@[simp] def X0(l:List fH):(zH l).length=l.length:=by simp[zH]
def ER(l:List fH) : ∀s∈zH l,fM s:=by
 intro s a;obtain⟨p,_,rfl⟩:=mo.1 a;exact Sl.mk _ _
def half(l:List fH)(k:Nat):List AV:=bt (zH (l.take k)++l.drop k)
def WE(l:List fH)(k:Nat)(h:k<=l.length):(half l k).length=l.length:=by simp[half];omega
def RE(l:List fH)(k:Nat)(h:k<l.length):(half l k)[k]?=some l[k].enc:=by
 simp[half,bt,List.getElem?_append,Ew (jw h),h]
def WD(l:List fH)(k:Nat)(h:k<l.length):(half l k).set k (UD l[k]).enc=half l (k+1):=by
 unfold half bt;rw[<-KO];congr 1;have b:(zH (l.take k)).length=k:=by simp;omega
 have a:l.drop k=l[k] :: l.drop (k+1):=K9 h;rw[EE _ _ (by omega),b,vO,a,EB,Uk h];unfold zH;rw[AL,sh];rfl
def Qb(l:List fH)(k:Nat)(h:k<l.length):fS (half l k) k 1 [.bE 1 (aK l[k].bs) none]=some (half l (k+1)):=by
 rw[<-WD l k h];unfold fS;rw[RE l k h];rfl
section
variable{l:List fH}{x:AV}{st lf:Int}{dd:Bool}(o:Sl 2 (bt l) x)(f : ∀s∈l,fM s)(u : ∀s∈l,s.bs.length<1000000000)(v:l.length<1000000)
include o f u v
theorem Sb{r1 r2 r3:Ref}{c:Option Nat}(n1:r3≠r1)(n2:r3≠r2)(p:r1≠r2){Q:AV->aa->Prop} : ∀(m k:Nat)(H:aa),k+m=l.length->Fr H->H.get r1=some ⟨4,[dR x st lf dd],false,false⟩->H.get r2=some ⟨4,[dR aY 0 0 false],false,false⟩ ->
 H.get r3=some ⟨2,half l k,true,false⟩ ->
 (∀d,d.get r3=some ⟨2,bt (zH l),true,false⟩->Q (dR (.ct r3 0 l.length c) st lf dd) d) ->
 cy env Tryz.f49 0 sH [(10,aI k),(3,.ct r3 0 l.length c),(2,.ptr r2 0 0),(1,.ptr r1 0 0),(9,aI l.length)] H Q:=by
 intro m;induction m with
 | zero=>
  intro k H G B n j t i;obtain rfl:k=l.length:=by omega
  have e:half l l.length=bt (zH l):=(by simp[half]);rw[e]at t;refine sk _ _ _ _ _ _ _ λg=>?_;simp only[dR]at n j i;have F:r2≠r1:=λe=>p e.symm;have I:r1≠r3:=λe=>n1 e.symm;have J:r2≠r3:=λe=>n2 e.symm;simp[ak, *,pv,aa.ad]
 | succ m y=>
  intro k H G B n j t i;have b:k<l.length:=by omega
  have hp:=f l[k] (fj _);have L:=U2 hp (u l[k] (fj _));have C:=hp.r;have M:=iQa ((k:Int)+1) (by omega);have E:bP (half l k) k 1 1 false=some l[k].av:=(by unfold bP;rw[RE l k b];rfl);have K:=Qb l k b;have D:=WE l k (by omega);have z:((k+1:Nat):Int)=(k:Int)+1:=by omega
  have a:=λd=>y (k+1) d (by omega);rw[z]at a;clear y f u;refine sk _ _ _ _ _ _ _ λg=>?_;simp only[dR]at n j i a;have F:r2≠r1:=λe=>p e.symm;have I:r1≠r3:=λe=>n1 e.symm;have J:r2≠r3:=λe=>n2 e.symm;simp[ak, *,pv];exact a _ (by simp(maxDischargeDepth:=12) [eR, *]) (by simp(maxDischargeDepth:=12) [eR, *]) (by simp(maxDischargeDepth:=12) [eR, *]) (by simp(maxDischargeDepth:=12) [eR, *]) i
def OJ(x:AV)(l:List fH):AV:=match x with
 | .bE z [] _ => .fsl z [] (some 0)
 | .bE z _ _ => .fsl z (bt (zH l)) none
 | x=>x
theorem M9:ay env 49 [dR x st lf dd]=some (dR (OJ x l) st lf dd):=by
 refine aH rfl (by kernel_rfl) (Lp _ _ _ λg=>?_);have m:=Vx o v;rcases o.Wb with ⟨rfl,he⟩ | ⟨c,rfl⟩
 ·have b:l=[]:=by simpa [bt] using he
  subst b;simp only[dR];simp[ak, *,vC,o.r,OJ];refine sk _ _ _ _ _ _ _ λg=>?_;simp[ak, *,pv]
 by_cases a:l=[];·subst a;simp only[dR];simp[bt]at m;have j:bt []=[]:=rfl;rw[j]at o ⊢;simp[ak, *,vC,o.r,OJ];refine sk _ _ _ _ _ _ _ λg=>?_;simp[ak, *,pv]
 have i:bt l≠[]:=(by simp[bt,a]);rw[BR 2 c i]at m;have j:half l 0=bt l:=by simp[half,zH]
 have p:=λ(Q:AV->aa->Prop) H=>Sb (st:=st) (lf:=lf) (dd:=dd) (x := .bE 2 (bt l) c) (c:=none) o f u v (r1:=⟨0,1,0,0⟩) (r2:=⟨0,2,0,0⟩) (r3:=⟨0,7,0,0⟩) (by simp) (by simp) (by simp) (Q:=Q) l.length 0 H (by omega);have e:OJ (.bE 2 (bt l) c) l = .fsl 2 (bt (zH l)) none:=by
  cases l with| nil=>exact(a rfl).elim| cons _ _=>rfl
 have d:(bt (zH l)).length=l.length:=(by simp);simp only[dR]at p ⊢;rw[e];have n:=za l;generalize y:bt l=es at *;simp[ak, *,vC,o.r];exact p _ _ (by simp(maxDischargeDepth:=12) [Gk, *]) (by simp) (by simp) (by simp[j]) λt h=>by simp[h,d]
end
def Rj{l:List fH}{x:AV}{st lf:Int}{dd:Bool}(o:Sl 2 (bt l) x)(f : ∀s∈l,fM s)(u : ∀s∈l,s.bs.length=128)(v:l.length<1000000):ay env 49 [dR x st lf dd]=some (dR (OJ x l) st lf dd):=M9 o f (λs a=>by have:=u s a;omega) v
def Dz{l:List fH}{x:AV}(o:Sl 2 (bt l) x):Z3 2 (bt (zH l)) (OJ x l):=by
 rcases o with ⟨rfl,he⟩ | ⟨c,rfl,_⟩
 ·have:l=[]:=by simpa [bt] using he
  subst this;exact .inl ⟨rfl,rfl⟩
 cases l with| nil=>exact .inr (.inr ⟨rfl,rfl⟩)| cons p l=>exact .inr (.inl rfl)
def GK:AV:=dR aY 0 0 false
def zW : ∀(l:List fH)(a:Int),gN a l=true ->∀s∈l,s.bs.length=128:=by
 intro l;induction l with
 | nil=>intro a h s b;cases b
 | cons p l c=>
  intro a h s b;simp[gN]at h;rcases fR.1 b with rfl | b
  ·exact h.1.2
  exact c _ h.2 s b
def vw:AV->AV
 | .fsl z es c => .bE z es c
 | x=>x
section
variable{l:List fH}{x:AV}{st lf:Int}{dd:Bool}(o:Sl 2 (bt l) x)(f : ∀s∈l,fM s)(v:l.length<1000000)
include o f v
theorem Na(n:Int):ay env 38 [dR x st lf dd,aI n]=some (
 if Gi l st lf dd then (if n < -1\/2147483648<=n then .tup [GK,aI 2] else if st+1>=2147483648 then .tup [GK,aI 9] else .tup [dR (vw (OJ x l)) (st+1) n false,aI 0]) else .tup [GK,aI 8]):=by
 refine aH rfl (by kernel_rfl) (Jw _ _ _ _ λg=>?_);have a:=LF (st:=st) (lf:=lf) (dd:=dd) o f (by omega);cases hd:Gi l st lf dd;·simp[hd]at a;simp only[dR,GK]at a ⊢;simp[ak, *,qQ,o.r]
 simp[hd]at a;have j:=Rj (st:=st) (lf:=lf) (dd:=dd) o f (zW l (-1) (by unfold Gi at hd;simp at hd;exact hd.1)) v;have e:=Dz o;generalize OJ x l=y at *;have i : -1<st/\st<2147483648:=by
  unfold Gi IQ at hd;simp at hd;omega
 have t:=iQa (st+1) (by omega);simp only[dR,GK]at a j ⊢;clear f;by_cases c:n < -1\/2147483648<=n
 ·simp only[if_pos c];simp[ak, *,qQ,o.r];repeat' ((first | apply qO<;>intro h | apply mK<;>intro h | apply mL<;>intro h | apply mI<;>intro h | apply mJ<;>intro h)<;>(try simp only[iQb,iQc,ij,pO,bI,jf]at h)<;>(try simp[ak, *]))
  all_goals omega
 simp only[if_neg c];by_cases b:st+1>=2147483648
 ·simp only[if_pos b];simp[ak, *,qQ,o.r];repeat' ((first | apply qO<;>intro h | apply mK<;>intro h | apply mL<;>intro h | apply mI<;>intro h | apply mJ<;>intro h)<;>(try simp only[iQb,iQc,ij,pO,bI,jf]at h)<;>(try simp[ak, *]))
  all_goals omega
 simp only[if_neg b];have p : ¬n < -1:=by omega
 have m : ¬2147483648<=n:=(by omega);have z : ¬2147483648<=st+1:=(by omega);rcases e with ⟨rfl,d⟩ | rfl | ⟨rfl,d⟩<;>simp[ak, *,qQ,o.r,vw]
 done
end
end Go.Proofs.YtiidajnodhkidaaGreat
namespace Go.Ab
def lpO(o:Option bC):Option (Nat × AV):=match o with
 | some ⟨0,[.v (.int .i64 st),inf],_,_⟩=>some (st.toNat,inf)
 | _=>none
def sD(H:aa)(r:Ref):yW H r=lpO (H.get r):=rfl
@[simp] def Bb(st:Nat)(a:AV):lpO (some (eU st a))=some (st,a):=by
 simp[lpO,eU]
def Xe(a:AV)(K:AV->Prop)(m:Mk K):bgP (some (0,a)) K m↔K a:=by
 constructor;·rintro⟨info,e,h⟩;simp only[eS,tf,iQs]at e;subst e;exact h
 intro h;exact⟨a,rfl,h⟩
attribute [simp] Xe
def Wn(H:aa)(r:Ref)(st:Nat)(a:AV):yW (H.put r (some (eU st a))) r=some (st,a):=by
 rw[sD,aa.ad,if_pos rfl,Bb]
def Ku{E:Env}{fn:Func}{dep nt:Nat}{r:Ref}{f:FuncId}{ps:List Tmp}{assign body:Code}{tm:List AV}{args:List AV}{H:aa}{Q:AV->aa->Prop}
 (g:H.get r=some (eU 0 (.lp f nt ps assign body tm))) (d:fn.ntmps=nt) (hp:args.length=ps.length) (c:ps.all (· < nt)=true) (j:codeOk E.ok assign=true) (e:codeOk E.ok body=true)
 (h:vD E fn (some r) (dep+1) [.code assign,.beginRound,.code body] (dE (vZ tm ps args)) H λx b=>x = .v (.int .i64 0) /\∃a,b.get r=some (eU 1 a)/\Q (.v (.bool true)) (b.put r (some (eU 0 a)))) :
 ∃y b,eZ E dep (.yld r) args H=some (y,b)/\Q y b:=by
 refine Wr (by rw[sD,g];exact Bb _ _) d hp c j e ?_;intro tm' k;obtain⟨y,b,⟨rfl,a,l,i⟩,n,d⟩:=h tm' k;exact⟨_,b,⟨0,rfl,a,_,by rw[sD,l];exact Bb _ _,rfl,Wn _ _ _ _,λ_=>i,λh=>absurd h (by decide),by decide⟩,n,d⟩
def DQ{s:eY}{l:List (Nat × AV)}(h : ∀p∈l,s p.1=p.2):OK s l=s:=by
 induction l with| nil=>rfl| cons p l a=>
  obtain⟨j,v⟩:=p;funext i;show cond (Nat.beq i j) v (OK s l i)=s i;rw[a λp hp=>h p (kQ _ hp)];cases b:Nat.beq i j with
  | false=>rfl
  | true=>have:=lF b;subst this;exact(h _ (j1 ..)).symm
@[simp] def aak(r:Ref)(o n:Nat)(c:Option Nat)(y:AV):fS [AV.ct r o n c] 0 0 [y]=some [y]:=id rfl
@[simp] def adM(x:Value)(y:AV):fS [AV.v x] 0 0 [y]=some [y]:=id rfl
def Bi{E:Env}(dep:Nat)(H:aa)(r q:Ref)(args:List AV):bS E true (ay E) (eZ E dep) H r (some (.yld q)) args=eZ E dep (.yld q) args H:=by
 simp[bS,lY,mA,FK,ot]
def Jb(H a:aa)(refs:List Ref):Prop :=∀q b,H.get q=some b ->∃fz,a.get q=some { b with jq:=fz}/\(q ∉ refs->fz=b.jq)
def Jb.same{H a:aa}{refs:List Ref}(h:Jb H a refs){q:Ref}(d:q ∉ refs){b:bC}(e:H.get q=some b):a.get q=some b:=by
 obtain⟨fz,f,c⟩:=h q b e;rw[f,c d]
def WJ(H:aa)(refs:List Ref):Jb H (cL H refs) refs:=by
 intro q b a;rw[aa.dX];unfold uY;by_cases h:q∈refs;·exact⟨true,by simp[h,a],λc=>absurd h c⟩
 exact⟨b.jq,by simp[h,a],λ_=>rfl⟩
def T3{H:aa}(b:Fr H)(refs:List Ref):Fr (cL H refs):=by
 intro d t g k a;rw[aa.je]at a;rw[aa.dX];have:=b d t g k a;unfold uY;split<;>simp[this]
def KD{o:Option AV}{H:aa}{r:Ref}(G : ∃d t,r=⟨d,t,H.gen d t,0⟩){z:Nat}(E:z≠0){y:AV}{es':List AV}{mk:AV->AV}{n:Nat}{K:AV->aa->Prop}{refs:List Ref}
 (F:o=some (mk y)) (v : ∀r s bs,aw r (n+3) y []=(s,bs)->aw r depth (mk y) []=(mk s,bs)) (Q:Ml z es' y) (hi : ∀e∈es',Wz e=true) (l:Fr H)
 (P : ∀p s m,Fr p->wN z p s es' m->Jb H p refs->(∀q∈m,H.get q=none)->DN z s es'=y->K (mk s) p) :
 kA (oA true H r refs o) K:=by
 obtain⟨d,t,rfl⟩:=G;obtain⟨s,add,C,A⟩:=Q.imp E hi ⟨d,t,H.gen d t,0⟩ n [];have B:=v _ _ _ C;simp only[sf,lE]at C A B;have c : ∀a:aa,Fr a->Jb H a refs->(∀q,H.get q=none->a.get q=none)->(∀d t,a.gen d t=H.gen d t)->K (mk s) (keyed ⟨d,t,H.gen d t,0⟩ 0 add a):=by
  intro a x M S N;have u:At (keyed ⟨d,t,H.gen d t,0⟩ 0 add a).get ⟨d,t,H.gen d t,0⟩ 0 add:=by
   intro i b hi;have w:=(fg.1 hi).1;rw[aa.tT,if_pos ⟨rfl,rfl,rfl,by simp,by simpa using w⟩];simpa using hi
  obtain⟨m,g1,J,R⟩:=A _ u;refine P _ s m ?_ g1 (λq b j=>?_) (λq f=>?_) R;·have:=Fr.keyed x add d t;rw[N]at this;exact this
  ·obtain⟨fz,a1,I⟩:=M q b j;refine⟨fz,?_,I⟩;rw[aa.tT,if_neg (λh=>?_)];·exact a1
   have:=l q.d q.t q.g q.k (by rw[h.1,h.2.1,h.2.2.1];exact bM _);rw[show(⟨q.d,q.t,q.g,q.k⟩:Ref)=q from rfl,j]at this;cases this
  obtain⟨D,O,L,_⟩:=Kr (J q f);exact l q.d q.t q.g q.k (by rw[D,O,L];exact bM _)
 subst F;simp only[oA,B];split;·exact rm rfl (c H l (λq b j=>⟨b.jq,j,λ_=>rfl⟩) (λq f=>f) λ_ _=>rfl)
 refine rm rfl (c (cL H refs) (T3 l refs) (WJ H refs) (λq f=>?_) λd t=>aa.je _ _ _ _);rw[aa.dX];unfold uY;split<;>simp[f]
structure Bw where
 z:Nat
 s:AV
 es:List AV
 rs:List Ref
structure Aa (H:aa) (fs:List (Ref × bC)) (rows:List Bw):Prop where
 fr:Fr H
 has : ∀p∈fs,H.get p.1=some p.2
 nd:(fs.map (·.1)).Nodup
 row : ∀t∈rows,wN t.z H t.s t.es t.rs
 sep : ∀t∈rows,∀p∈fs,p.1 ∉ t.rs
 dis:rows.Pairwise λt u =>∀q∈t.rs,q ∉ u.rs
def Aa.nil:Aa [] [] []:=⟨Fr.nil,by simp,by simp,by simp,by simp,List.Pairwise.nil⟩
def Aa.grow{H a:aa}{c:List (Ref × bC)}{rows:List Bw}(h:Aa H c rows)(g:Fr a)(d : ∀q b,H.get q=some b->a.get q=some b):Aa a c rows:=
 ⟨g,λp hp=>d _ _ (h.has p hp),h.nd,λt e=>(h.row t e).bT λq _ b f=>d q b f,h.sep,h.dis⟩
def Aa.add{H:aa}{a:List (Ref × bC)}{rows:List Bw}(h:Aa H a rows){r:Ref}{b:bC}(g:H.get r=some b)(hd : ∀p∈a,p.1≠r)(f : ∀t∈rows,r ∉ t.rs):Aa H ((r,b) :: a) rows:=
 ⟨h.fr,λp hp=>(fR.1 hp).elim (λe=>by rw[e];exact g) (h.has p),AK.2 ⟨λd=>by obtain⟨p,hp,e⟩:=mo.1 d;exact hd p hp e,h.nd⟩,h.row,λt c p hp=>(fR.1 hp).elim (λe=>by rw[e];exact f t c) (h.sep t c p),h.dis⟩
def Aa.sub{H:aa}{c a:List (Ref × bC)}{rows:List Bw}(h:Aa H c rows)(b:a.Sublist c):Aa H a rows:=
 ⟨h.fr,λp hp=>h.has p (b.mem hp),(b.map _).nodup h.nd,h.row,λt d p hp=>h.sep t d p (b.mem hp),h.dis⟩
def Aa.live{H:aa}{c:List (Ref × bC)}{rows:List Bw}(h:Aa H c rows){r:Ref}(e:H.get r=none) : ∀t∈rows,r ∉ t.rs:=λt f d=>by
 obtain⟨b,a⟩:=(h.row t f).live r d;rw[e]at a;cases a
def Aa.new{H:aa}{f:List (Ref × bC)}{rows:List Bw}(h:Aa H f rows)(d t:Nat)(b:bC):Aa ((⟨d,t,H.gen d t,0⟩,some b) :: H) ((⟨d,t,H.gen d t,0⟩,b) :: f) rows:=by
 have a:H.get ⟨d,t,H.gen d t,0⟩=none:=h.fr d t _ 0 (bM _);refine(h.grow (GG h.fr rfl _) λq g c=>?_).add (by rw[aa.gS,if_pos rfl]) (λp hp e=>?_) (h.live a);·rw[aa.gS,if_neg (λe=>by rw[<-e,a]at c;cases c)];exact c
 have:=h.has p hp;rw[e,a]at this;cases this
def Aa.call{o:Option AV}{H:aa}{j:List (Ref × bC)}{rows:List Bw}(h:Aa H j rows){r:Ref}(I : ∃d t,r=⟨d,t,H.gen d t,0⟩){z:Nat}(D:z≠0){y:AV}{es':List AV}{mk:AV->AV}{n:Nat}{K:AV->aa->Prop}{refs:List Ref}
 (w : ∀p∈j,p.1 ∉ refs) (l : ∀t∈rows,∀q∈t.rs,q ∉ refs)
 (G:o=some (mk y)) (k : ∀r s bs,aw r (n+3) y []=(s,bs)->aw r depth (mk y) []=(mk s,bs)) (J:Ml z es' y) (hi : ∀e∈es',Wz e=true)
 (E : ∀c s i,Aa c j (⟨z,s,es',i⟩ :: rows)->Jb H c refs->(∀q∈i,H.get q=none)->DN z s es'=y->K (mk s) c) :
 kA (oA true H r refs o) K:=by
 refine KD I D G k J hi h.fr λc s i F f A v C=>?_;refine E c s i ⟨F,λp hp=>A.same (w p hp) (h.has p hp),h.nd,λt a=>?_,λt a p hp=>?_,?_⟩ A v C
 ·rcases fR.1 a with rfl | a
  ·exact f
  exact(h.row t a).bT λq x b g=>A.same (l t a q x) g
 ·rcases fR.1 a with rfl | a
  ·intro m;have:=v _ m;rw[h.has p hp]at this;cases this
  exact h.sep t a p hp
 refine List.pairwise_cons.2 ⟨λu B q x m=>?_,h.dis⟩;obtain⟨b,g⟩:=(h.row u B).live q m;rw[v q x]at g;cases g
def Z2(fz:Bool)(z:Nat)(es:List AV)(x:AV)(a:List (Ref × bC)):Prop:=(x = .v (.slice none 0 0)/\es=[]/\a=[]) \/∃r,x = .ct r 0 es.length none/\a=[(r,⟨z,es,true,fz⟩)]
def aci(z:Nat)(es:List AV):AV->AV
 | .ct _ _ _ _ => .bE z es none
 | x=>x
def Z2.sl{fz:Bool}{z:Nat}{es:List AV}{x:AV}{a:List (Ref × bC)}(h:Z2 fz z es x a):Sl z es (aci z es x):=by
 rcases h with ⟨rfl,rfl,rfl⟩ | ⟨r,rfl,rfl⟩
 ·exact .inl ⟨rfl,rfl⟩
 exact Sl.mk z es
def Z2.seen{fz:Bool}{z:Nat}{es:List AV}{x:AV}{a b:List (Ref × bC)}{H:aa}{rows:List Bw}(h:Z2 fz z es x a)(d:Aa H b rows)(c : ∀p∈a,p∈b):(∀n,view H.get (n+1) x=some (aci z es x))/\(∀n,aj H.get (n+1) x=a.map (·.1))/\x.cells=[x]/\x.one=true:=by
 rcases h with ⟨rfl,rfl,rfl⟩ | ⟨r,rfl,rfl⟩
 ·exact⟨λn=>rfl,λn=>rfl,rfl,rfl⟩
 have:=d.has (r,⟨z,es,true,fz⟩) (c _ (by simp));simp only at this;exact⟨λn=>by simp[view,this,aci],λn=>by simp[aj,this],rfl,rfl⟩
def Aa.ne{H:aa}{a:List (Ref × bC)}{rows:List Bw}(h:Aa H a rows){r q:Ref}{b c:bC}(j:(r,b)∈a)(i:(q,c)∈a)(d:b≠c):r≠q:=λe=>by
 have g:=h.has _ j;have f:=h.has _ i;simp only[e]at g f;rw[g]at f;exact d (KT f)
end Go.Ab
namespace Go.Proofs.YtiidajnodhkidaaGreat
open Go.Ab Go.ChangeShapes Go.WideShapes Go.RowKit
def Rk:OL env.P 78 fM (λs:fH=>[aI s.pos,s.av]):=by
 intro n d h;have h:=lK (P:=env.P) NZ h;obtain⟨m,x,r,rfl,c,y,r',rfl,b,rfl⟩:=h;obtain⟨i,_,rfl⟩:=nW (P:=env.P) (t:=3) (by simp) _ _ c;obtain⟨l,z,rfl,a⟩:=UZ (P:=env.P) (t:=76) (e:=5) (by simp) (by simp) (by simp) (by simp) b;exact⟨⟨i,l,z⟩,a,rfl⟩
def abU{n:Nat}{x:AV}(h:TW env.P n 24 x) : ∃(l:List fH) (y:AV) (st lf:Int) (dd:Bool),(∀s∈l,fM s)/\Sl 2 (bt l) y/\x=dR y st lf dd:=by
 obtain⟨y,rfl,a⟩:=h.agg (by simp);have h:=lK (P:=env.P) FR a;obtain⟨m,i,r1,rfl,f,j,r2,rfl,c,k,r3,rfl,e,x4,r4,rfl,g,rfl⟩:=h;obtain⟨l,z,d,rfl,s⟩:=AT (P:=env.P) MT MP Q1 Rk f;obtain⟨st,_,rfl⟩:=nW (P:=env.P) (t:=3) (by simp) _ _ c;obtain⟨lf,_,rfl⟩:=nW (P:=env.P) (t:=3) (by simp) _ _ e;obtain⟨b,_,rfl⟩:=Ia (P:=env.P) (t:=4) (by simp) _ _ g;exact⟨l,z,st,lf,b,d,s,rfl⟩
end Go.Proofs.YtiidajnodhkidaaGreat
namespace Go.Proofs.YtiidajnodhkidaaGreat
open Go.Ab
attribute [local simp] aN aG ar aD aC bT kp aP ax aJ bG bF aX aO af a9 dM
def adj:env.Ok (Da env):=RN NG (by kernel_rfl) ac9 (λf t h=>by cases h) (λf args H y a h=>by cases h)
def Ws{E:Env}{ok:Array Oper->Bool}(a:E.Ok ok){dep:Nat}{f:FuncId}{args:List AV}{H b:aa}{y:AV}(h:eZ E dep (.fn f) args H=some (y,b)):nH E.P (.fn f) args H y b:=by
 obtain⟨m,hm⟩:=vv.1 h;exact CW a (HV a m) (hm m (bM _))
def Ou:Env:=xm Tryz.prog [78] [] [78] (λ_=>false) (λ_=>[]) (λ_=>false) []
def aht:IJ Ou [78]=true:=by kernel_rfl
def aj2:Ou.Ok (Da Ou):=RN NG (by kernel_rfl) aht (λf t h=>by cases h) (λf args H y a h=>by cases h)
def abv:Code:=(Tryz.f78.body).getD .skip
def agD:Nat->Option (List Nat):=λi=>none
def ahr:Nat->Bool:=λi=>false
def abx(dep:Nat)(g:Nat->AV)(x0:AV)(H:aa)(Q:AV->aa->Prop):Prop:=
 JX 22 3 x0 λb=>
 br (some b) (
  Q (.v (.slice none 0 0)) H) (
  kA (lI env.P false true H (⟨(dep+1),5,aa.gen H (dep+1) 5,0⟩:Ref) 22 0 (some [])) λd a=>
  kA (ee env.P true a (⟨(dep+1),7,aa.gen a (dep+1) 7,0⟩:Ref) (some 22) (some 22) d x0) λe c=>
  Q e c)
def afm(dep:Nat)(x0:AV)(H:aa)(Q:AV->aa->Prop)(h : ∀g,abx dep g x0 H Q):cy Ou Tryz.f78 (dep+1) [.code abv] [(0,x0)] H Q:=⟨λg=>vh (live:=agD) (cut:=ahr) (n:=500) (Eq.mp (by kernel_rfl) (h g))⟩
def ahs(H:aa)(e:AV)(es:List AV)(c:Option Nat)(h:(es.length+1) * 32<=Ab.aX)(i:Fr H):nH Tryz.prog (.fn 78) [.bE 2 (e :: es) c] H (.ct (Ax 7 H) 0 (es.length+1) none) (W2 2 5 7 H (e :: es) true):=by
 obtain⟨a,b,f,rfl,rfl⟩ : ∃a b,eZ Ou 0 (.fn 78) [.bE 2 (e :: es) c] H=some (a,b)/\a = .ct (Ax 7 H) 0 (es.length+1) none/\b=W2 2 5 7 H (e :: es) true:=by
  refine wo (fn:=Tryz.f78) (c:=abv) (by kernel_rfl) (by kernel_rfl) (by kernel_rfl) (by kernel_rfl) (by kernel_rfl) ?_ ?_
  ·refine afm _ _ _ _ λg=>?_;have d:(es.length+1) * 32<=140737488355328:=by simpa [aX] using h
   simp[ak, *,abx,W2,Ax,d];done
  rfl
 exact Ws aj2 f
def Oj(args:List AV)(H:aa)(y:AV)(a:aa)(h:zb 2 32 5 7 args H=some (y,a)):nH Tryz.prog (.fn 78) args H y a:=
 L3 ⟨Tryz.f78,by kernel_rfl,by kernel_rfl,by kernel_rfl⟩ ahs h
@[simp] def agh(a:UInt8)(b:UInt32):ay env 155 [.agg [a8 a,bY b]]=some (aI (bad (decide (a<=15)))):=by
 refine aH rfl (by kernel_rfl) (Ht _ _ _ λg=>?_);simp[ak, *,Bt];repeat' ((first | apply qO<;>intro h | apply mK<;>intro h | apply mL<;>intro h | apply mI<;>intro h | apply mJ<;>intro h)<;>(try simp only[iQb,iQc,ij,pO,bI,jf]at h)<;>(try simp[ak, *]))
 all_goals (try grind [bad])
@[simp] def aiu(b:Bool):ay env 154 [aB b]=some (aI (bad b)):=by
 refine aH rfl (by kernel_rfl) (Ll _ _ _ λg=>?_);cases b<;>simp[ak, *,El,bad]
@[simp] def XC(a:UInt8)(b:UInt32)(n:UInt8):ay env 120 [.agg [a8 a,bY b,a8 n]]=some (aI (bad (gE ⟨a,b,n⟩))):=by
 refine aH rfl (by kernel_rfl) (CQ _ _ _ λg=>?_);simp[ak, *,wB,gE];repeat' ((first | apply qO<;>intro h | apply mK<;>intro h | apply mL<;>intro h | apply mI<;>intro h | apply mJ<;>intro h)<;>(try simp only[iQb,iQc,ij,pO,bI,jf]at h)<;>(try simp[ak, *]))
@[simp] def agi(a:UInt8)(b:UInt32)(n:UInt8)(k:Int):ay env 158 [.agg [a8 a,bY b,a8 n,aI k]]=some (aI (bad (Ao ⟨⟨a,b,n⟩,k⟩))):=by
 refine aH rfl (by kernel_rfl) (Lm _ _ _ λg=>?_);simp[ak, *,Em,Ao];repeat' ((first | apply qO<;>intro h | apply mK<;>intro h | apply mL<;>intro h | apply mI<;>intro h | apply mJ<;>intro h)<;>(try simp only[iQb,iQc,ij,pO,bI,jf]at h)<;>(try simp[ak, *]))
@[simp] def aax(a:UInt8)(b:UInt32)(n:UInt8)(k m:Int):ay env 156 [.agg [a8 a,bY b,a8 n,aI k,aI m]]=some (aI (bad (oS ⟨⟨⟨a,b,n⟩,k⟩,m⟩))):=by
 refine aH rfl (by kernel_rfl) (EO _ _ _ λg=>?_);cases d:Ao ⟨⟨a,b,n⟩,k⟩ with
 | false=>simp[ak, *,ny,oS]
 | true=>
  have c:=Kx d;simp only at c;by_cases i:1<=m
  ·by_cases f:m<=64;·have e:=iQa (k+m) (by omega);have h:=iQa (k+m - 1) (by omega);simp[ak, *,ny,oS]
   simp[ak, *,ny,oS]
  simp[ak, *,ny,oS]
end Go.Proofs.YtiidajnodhkidaaGreat
namespace Go.Ab
def R1.enc(h:R1):List AV:=[a8 h.lv,bY h.cats,a8 h.num]
def Ay.enc(i:Ay):List AV:=[a8 i.h.lv,bY i.h.cats,a8 i.h.num,aI i.n]
def Spn.enc(s:Spn):List AV:=[a8 s.f.h.lv,bY s.f.h.cats,a8 s.f.h.num,aI s.f.n,aI s.many]
end Go.Ab
namespace Go.Proofs.YtiidajnodhkidaaGreat
open Go.Ab Go.ChangeShapes Go.WideShapes Go.RowKit
def LH:OL env.P 36 (λ_=>True) (λp:UInt8 × UInt32=>[a8 p.1,bY p.2]):=by
 intro n c h;have h:=lK (P:=env.P) N7 h;obtain⟨m,x,r,rfl,b,y,r',rfl,a,rfl⟩:=h;obtain⟨v,_,rfl⟩:=Nh (P:=env.P) (t:=5) (by simp) _ _ b;obtain⟨w,_,rfl⟩:=aca (P:=env.P) (t:=34) (by simp) _ _ a;exact⟨(v,w),trivial,rfl⟩
def Rm:OL env.P 38 (λ_=>True) R1.enc:=by
 intro n c h;have h:=lK (P:=env.P) N6 h;obtain⟨m,x,r,rfl,a,y,r',rfl,b,rfl⟩:=h;obtain⟨p,_,rfl⟩:=LH _ _ a;obtain⟨w,_,rfl⟩:=Nh (P:=env.P) (t:=5) (by simp) _ _ b;exact⟨⟨p.1,p.2,w⟩,trivial,rfl⟩
def Rl:OL env.P 40 (λ_=>True) Ay.enc:=by
 intro n c h;have h:=lK (P:=env.P) N5 h;obtain⟨m,x,r,rfl,a,y,r',rfl,b,rfl⟩:=h;obtain⟨p,_,rfl⟩:=Rm _ _ a;obtain⟨i,_,rfl⟩:=nW (P:=env.P) (t:=3) (by simp) _ _ b;exact⟨⟨p,i⟩,trivial,rfl⟩
def YT:OL env.P 42 (λ_=>True) Spn.enc:=by
 intro n c h;have h:=lK (P:=env.P) N4 h;obtain⟨m,x,r,rfl,a,y,r',rfl,b,rfl⟩:=h;obtain⟨p,_,rfl⟩:=Rl _ _ a;obtain⟨i,_,rfl⟩:=nW (P:=env.P) (t:=3) (by simp) _ _ b;exact⟨⟨p,i⟩,trivial,rfl⟩
def UY{n:Nat}{b:List AV}(h:Es env.P n 43 b) : ∃(l:List Int) (x:AV),(∀a∈l, -2147483648<=a/\a<=2147483647)/\b=[x]/\Sl 1 (rows l) x:=by
 obtain⟨l,x,c,rfl,s⟩:=AT (P:=env.P) UJ UF Ya (YS (by simp)) h;exact⟨l,x,c,rfl,s⟩
def abT{n:Nat}{x:AV}(h:TW env.P n 3 x) : ∃i:Int,(-9223372036854775808<=i/\i<=9223372036854775807)/\x=aI i:=by
 obtain⟨i,hi,e⟩:=nW (P:=env.P) (t:=3) (by simp) _ _ (h.cell (by simp));cases e;exact⟨i,hi,rfl⟩
def abr(p:gI × AV):List AV:=[a8 p.1.kind,a8 p.1.h.lv,bY p.1.h.cats,a8 p.1.h.num,aI p.1.serial,a8 p.1.s.f.h.lv,bY p.1.s.f.h.cats,a8 p.1.s.f.h.num,aI p.1.s.f.n,aI p.1.s.many,
 a8 p.1.a.h.lv,bY p.1.a.h.cats,a8 p.1.a.h.num,aI p.1.a.n,a8 p.1.to.lv,bY p.1.to.cats,p.2]
def YV:OL env.P 45 (λp:gI × AV=>Sl 1 (rows p.1.l) p.2) abr:=by
 intro n v h;have h:=lK (P:=env.P) N3 h;obtain⟨m,q,r1,rfl,j,w,r2,rfl,b,x,r3,rfl,g,x4,r4,rfl,o,x5,r5,rfl,e,z,r6,rfl,c,A,u,rfl,f,rfl⟩:=h;obtain⟨k,_,rfl⟩:=Nh (P:=env.P) (t:=5) (by simp) _ _ j;obtain⟨i,_,rfl⟩:=Rm _ _ b;obtain⟨d,_,rfl⟩:=nW (P:=env.P) (t:=3) (by simp) _ _ g;obtain⟨s,_,rfl⟩:=YT _ _ o;obtain⟨a,_,rfl⟩:=Rl _ _ e;obtain⟨t,_,rfl⟩:=LH _ _ c;obtain⟨l,y,_,rfl,sl⟩:=UY f;exact⟨(⟨k,i,d,s,a,⟨t.1,t.2⟩,l⟩,y),sl,rfl⟩
def own:ownKnob Tryz.prog.godebug=none:=by kernel_rfl
def kids:Kids Tryz.prog (· < Tryz.prog.types.size):=kids_rows (by kernel_rfl) (by kernel_rfl)
end Go.Proofs.YtiidajnodhkidaaGreat
namespace Go.Proofs.YtiidajnodhkidaaGreat
open Go.Ab
section
attribute [local simp] aN aG ar aD aC bT kp aP ax aJ bG bF aX aO af a9 dM
@[simp] def ad9(n:Int)(b:0<=n):ay env 121 [aI n,aI 4]=some (.bE 1 (aK (be 4 n)) none):=by
 refine aH rfl (by kernel_rfl) (Cl _ _ _ _ λg=>?_);have c:IntKind.i64.wrap (-1) = -1:=rfl;have a:IntKind.i64.wrap 0=0:=rfl;simp[ak, *,xR];refine ew _ _ _ _ _ λg=>?_;simp[ak, *,dQ,cY,cT];refine ew _ _ _ _ _ λg=>?_;simp[ak, *,dQ,cY,cT];refine ew _ _ _ _ _ λg=>?_;simp[ak, *,dQ,cY,cT];refine ew _ _ _ _ _ λg=>?_;simp[ak, *,dQ,cY,cT];refine ew _ _ _ _ _ λg=>?_;simp[ak, *,dQ,vc,aK]
@[simp] def Ss(n:Int)(b:0<=n):ay env 121 [aI n,aI 7]=some (.bE 1 (aK (be 7 n)) none):=by
 refine aH rfl (by kernel_rfl) (Cl _ _ _ _ λg=>?_);have c:IntKind.i64.wrap (-1) = -1:=rfl;have a:IntKind.i64.wrap 0=0:=rfl;simp[ak, *,xR];refine ew _ _ _ _ _ λg=>?_;simp[ak, *,dQ,cY,cT];refine ew _ _ _ _ _ λg=>?_;simp[ak, *,dQ,cY,cT];refine ew _ _ _ _ _ λg=>?_;simp[ak, *,dQ,cY,cT];refine ew _ _ _ _ _ λg=>?_;simp[ak, *,dQ,cY,cT];refine ew _ _ _ _ _ λg=>?_;simp[ak, *,dQ,cY,cT];refine ew _ _ _ _ _ λg=>?_;simp[ak, *,dQ,cY,cT];refine ew _ _ _ _ _ λg=>?_;simp[ak, *,dQ,cY,cT];refine ew _ _ _ _ _ λg=>?_;simp[ak, *,dQ,QC,aK]
def SY{x5:AV}{Q:AV->aa->Prop}{l:List UInt8}(m:Sl 1 (aK l) x5)(u:l.length<=7) : ∀(s:List UInt8)(k:Nat)(i a:Int)(H:aa),l.drop k=s->k<=l.length->i=k->0<=a->a<256 ^ k ->
 (∀y h,y=aI (vp a s)->Q y h) ->
 cy env Tryz.f202 0 uf [(7,aI i),(2,aI a),(5,x5),(6,aI l.length)] H Q:=by
 intro s;induction s with
 | nil=>rintro k i a H hs hk rfl h0 h1 hQ;obtain rfl:=drop_nil hs hk;refine Ck _ _ _ _ _ _ λg=>?_;simp[ak, *,xQ];exact hQ _ _ rfl
 | cons b s f=>rintro k i a H hs hk rfl h0 h1 hQ;obtain⟨d,t,c,j⟩:=drop_cons hs;refine Ck _ _ _ _ _ _ λg=>?_;have p:=b.toNat_lt;have n:=rD (k:=k) 6 (by omega);have e:=Gv h0 (by omega) b;have q:=iQa (a * 256) (by omega);have o:=iQa ((k:Int)+1) (by omega);simp[ak, *,xQ,yS,m.idx];exact f (k+1) _ _ _ c (by omega) (by simp) (by omega) (by rw[AB];omega) hQ
@[simp] def Pr{x:AV}{l:List UInt8}(a:Sl 1 (aK l) x)(b:l.length<=7):ay env 202 [x]=some (aI (val l)):=by
 refine aH rfl (by kernel_rfl) (ML _ _ _ λg=>?_);have h:=a.len;simp[ak, *,F7];exact SY a b l 0 _ _ _ rfl (by omega) rfl (by omega) (by simp) (λy c e=>by simp[e,val])
def cS(h:R1):List UInt8:=h.lv :: (be 4 h.cats.toNat++[h.num])
@[simp] def C6(h:R1):(cS h).length=6:=by simp[cS]
@[simp] def M8(a:UInt8)(b:UInt32)(n:UInt8):ay env 81 [.agg [a8 a,bY b,a8 n]]=some (if gE ⟨a,b,n⟩ then .tup [.fsl 1 (aK (cS ⟨a,b,n⟩)) none,aI 0] else .tup [aY,aI 8]):=by
 refine aH rfl (by kernel_rfl) (EM _ _ _ λg=>?_);cases h:gE ⟨a,b,n⟩ with
 | true=>simp[ak, *,tZ,bad,aK,cS]
 | false=>simp[ak, *,tZ,bad]
def eN(i:Ay):List UInt8:=cS i.h++be 7 i.n
@[simp] def P7(i:Ay):(eN i).length=13:=by simp[eN]
@[simp] def ajI(a:UInt8)(b:UInt32)(n:UInt8)(k:Int):ay env 123 [.agg [a8 a,bY b,a8 n,aI k]]=some (if Ao ⟨⟨a,b,n⟩,k⟩ then .tup [.bE 1 (aK (eN ⟨⟨a,b,n⟩,k⟩)) none,aI 0] else .tup [aY,aI 8]):=by
 refine aH rfl (by kernel_rfl) (Pc _ _ _ λg=>?_);cases h:Ao ⟨⟨a,b,n⟩,k⟩ with
 | true=>
  have c:=Kx h;have e:=Ss k (by simp only at c;omega);have d:gE ⟨a,b,n⟩=true:=by simp only[Ao,bI]at h;exact h.1
  simp only at c;simp[ak, *,Dh,bad,aK,eN]
 | false=>simp[ak, *,Dh,bad]
def Yn{c:Option Nat}{a n b1 b2 b3 b4:UInt8}(b:6<=c.getD 6):ay env 193 [.bE 1 [a8 a,a8 b1,a8 b2,a8 b3,a8 b4,a8 n] c]=some (.agg [a8 a,bY (u32 (val [b1,b2,b3,b4])),a8 n,aI (bad (gE ⟨a,u32 (val [b1,b2,b3,b4]),n⟩))]):=by
 refine aH rfl (by kernel_rfl) (Dx _ _ _ λg=>?_);have e:=Pr (l:=[b1,b2,b3,b4]) (x := .bE 1 [a8 b1,a8 b2,a8 b3,a8 b4] (c.map (· - 1))) (Sl.Zi (L9 b (by simp))) (by simp);have d:=yF [b1,b2,b3,b4];generalize val [b1,b2,b3,b4]=v at *;simp[ak, *,z5]
def FE{c:Option Nat}{a n b1 b2 b3 b4:UInt8}(b:6<=c.getD 6):ay env 175 [.bE 1 [a8 a,a8 b1,a8 b2,a8 b3,a8 b4,a8 n] c] =
 some (if gE ⟨a,u32 (val [b1,b2,b3,b4]),n⟩ then .tup [.agg [a8 a,bY (u32 (val [b1,b2,b3,b4])),a8 n],aI 0] else .tup [.agg [a8 0,bY 0,a8 0],aI 8]):=by
 refine aH rfl (by kernel_rfl) (EN _ _ _ λg=>?_);have d:=Yn (a:=a) (n:=n) (b1:=b1) (b2:=b2) (b3:=b3) (b4:=b4) b;generalize val [b1,b2,b3,b4]=v at *;cases h:gE ⟨a,u32 v,n⟩<;>simp[ak, *,zg,bad]
def Su{c:Option Nat}{a n b1 b2 b3 b4 d1 d2 d3 d4 d5 d6 d7:UInt8}(b:13<=c.getD 13):ay env 193 [.bE 1 [a8 a,a8 b1,a8 b2,a8 b3,a8 b4,a8 n,a8 d1,a8 d2,a8 d3,a8 d4,a8 d5,a8 d6,a8 d7] c]=some (.agg [a8 a,bY (u32 (val [b1,b2,b3,b4])),a8 n,aI (bad (gE ⟨a,u32 (val [b1,b2,b3,b4]),n⟩))]):=by
 refine aH rfl (by kernel_rfl) (Dx _ _ _ λg=>?_);have e:=Pr (l:=[b1,b2,b3,b4]) (x := .bE 1 [a8 b1,a8 b2,a8 b3,a8 b4] (c.map (· - 1))) (Sl.Zi (L9 b (by simp))) (by simp);have d:=yF [b1,b2,b3,b4];generalize val [b1,b2,b3,b4]=v at *;simp[ak, *,z5]
def ab3{c:Option Nat}{a n b1 b2 b3 b4 d1 d2 d3 d4 d5 d6 d7:UInt8}(b:13<=c.getD 13):ay env 203 [.bE 1 [a8 a,a8 b1,a8 b2,a8 b3,a8 b4,a8 n,a8 d1,a8 d2,a8 d3,a8 d4,a8 d5,a8 d6,a8 d7] c] =
 some (if Ao ⟨⟨a,u32 (val [b1,b2,b3,b4]),n⟩,val [d1,d2,d3,d4,d5,d6,d7]⟩ then .tup [.agg [a8 a,bY (u32 (val [b1,b2,b3,b4])),a8 n,aI (val [d1,d2,d3,d4,d5,d6,d7])],aI 0] else .tup [.agg [a8 0,bY 0,a8 0,aI 0],aI 8]):=by
 refine aH rfl (by kernel_rfl) (Pd _ _ _ λg=>?_);have e:=Su (a:=a) (n:=n) (b1:=b1) (b2:=b2) (b3:=b3) (b4:=b4) (d1:=d1) (d2:=d2) (d3:=d3) (d4:=d4) (d5:=d5) (d6:=d6) (d7:=d7) b;have d:=Pr (l:=[d1,d2,d3,d4,d5,d6,d7]) (x := .bE 1 [a8 d1,a8 d2,a8 d3,a8 d4,a8 d5,a8 d6,a8 d7] (c.map (· - 6))) (Sl.Zi (L9 b (by simp))) (by simp);generalize val [b1,b2,b3,b4]=v at *;generalize val [d1,d2,d3,d4,d5,d6,d7]=w at *;cases h:Ao ⟨⟨a,u32 v,n⟩,w⟩<;>simp[ak, *,I8,bad]
def uT(n:Int):Bool:=(decide (0<=n)&&decide (n<55296))||(decide (57343<n)&&decide (n<=1114111))
@[simp] def aiw(n:Int):ay env 187 [.v (.int .i32 n)]=some (aB (uT n)):=by
 refine aH rfl (by kernel_rfl) (wE _ _ _ λg=>?_);simp[ak, *,qf,uT];repeat' ((first | apply qO<;>intro h | apply mK<;>intro h | apply mL<;>intro h | apply mI<;>intro h | apply mJ<;>intro h)<;>(try simp only[iQb,iQc,ij,pO,bI,jf]at h)<;>(try simp[ak, *]))
 all_goals (try grind)
@[simp] def ait(n:Int):ay env 186 [.v (.int .i32 n)]=some (aB (!iY n)):=by
 refine aH rfl (by kernel_rfl) (EL _ _ _ λg=>?_);by_cases h:n = -1;·subst h;simp[ak, *,tW,iY]
 simp[ak, *,tW,iY,uT]
def zT:List Int->Nat->Int
 | [],_ => -1
 | n :: l,k=>if iY n then zT l (k+1) else k
def P6(l:List Int) : ∀k:Nat,(0<=zT l k↔l.all iY=false):=by
 induction l with| nil=>intro k;simp[zT]| cons n l b=>
  intro k;unfold zT;cases h:iY n with
  | true=>rw[if_pos rfl,b,zk,h,ig]
  | false=>simp[h]
def O6{x0:AV}{Q:AV->aa->Prop}{l:List Int}(a:Sl 1 (rows l) x0)(f:l.length<4611686018427387904) : ∀(s:List Int)(k:Nat)(i:Int)(H:aa),l.drop k=s->k<=l.length->i=k ->
 (∀y h,y=aI (zT s k)->Q y h) ->
 cy env Tryz.f198 0 fb [(8,aI i),(0,x0),(1,.fn (.func 186) [] []),(7,aI l.length)] H Q:=by
 intro s;induction s with
 | nil=>rintro k i H hs hk rfl hQ;obtain rfl:=drop_nil hs hk;refine lG _ _ _ _ _ _ λg=>?_;simp[ak, *,fc];all_goals exact hQ _ _ rfl
 | cons b s o=>
  rintro k i H hs hk rfl hQ;obtain⟨n,t,c,p⟩:=drop_cons hs;refine lG _ _ _ _ _ _ λg=>?_;have q:=iQa ((k:Int)+1) (by omega);cases j:iY b with
  | true=>simp[ak, *,fc,a.idx,rows,aR];exact o (k+1) _ _ c (by omega) (by simp) (λy h e=>hQ y h (by simp[e,zT,j]))
  | false=>simp[ak, *,fc,a.idx,rows,aR];exact hQ _ _ (by simp[zT,j])
def acK:bZ env.P .eql 43 (.tmp 3) (.const (.slice none 0 0)) (some (.v (.slice none 0 0))) (some (.v (.slice none 0 0)))=some (aB true,[]):=by kernel_rfl
section
variable{x:AV}{l:List Int}(a:Sl 1 (rows l) x)(f:l.length<4611686018427387904)
include a f
theorem Pw:ay env 198 [x,.fn (.func 186) [] []]=some (aI (zT l 0)):=by
 refine aH rfl (by kernel_rfl) (rX _ _ _ _ λg=>?_);have h:=a.len;simp[ak, *,ma];exact O6 a f l 0 _ _ rfl (by omega) rfl (λy b e=>by simp[e])
theorem Vv:ay env 188 [x,.fn (.func 186) [] []]=some (aB (!l.all iY)):=by
 refine aH rfl (by kernel_rfl) (qq _ _ _ _ λg=>?_);have h:=Pw a f;have e:decide (0<=zT l 0) = !l.all iY:=by
  have:=P6 l 0;cases h:l.all iY<;>simp[h]at this ⊢ <;> omega
 simp[ak, *,kW,a.r]
theorem EW:ay env 159 [x]=some (aI (yM l)):=by
 refine aH rfl (by kernel_rfl) (Hm _ _ _ λg=>?_);have h:=Vv a f;have c:=a.len;by_cases b:64<l.length
 ·have:(64:Int)<l.length:=by omega
  simp[ak, *,wA,yM,a.r]
 have : ¬(64:Int)<l.length:=by omega
 cases e:l.all iY<;>simp[ak, *,wA,yM,a.r]
theorem Sy(i:l.length * 4<=140737488355328):ay env 131 [x]=some (IV x):=by
 refine aH rfl (by kernel_rfl) (tF _ _ _ λg=>?_);rcases a with ⟨rfl,h⟩ | ⟨c,rfl,k⟩
 ·have j:=acK;simp[ak, *,gO]
 by_cases b:l=[];·subst b;simp[ak, *,gO,rows]
 have e:rows l≠[]:=(by simpa using b);have hp:0<l.length:=yd.2 b;rw[BR 1 c e];simp[ak, *,gO]
end
def Qp{x0 p:AV}{Q:AV->aa->Prop}{l m:List Int}(a:Sl 1 (rows l) x0)(d:Sl 1 (rows m) p)(f:l.length<4611686018427387904)(h:m.length=l.length) : ∀(s t:List Int)(k:Nat)(i:Int)(H:aa),l.drop k=s->m.drop k=t->k<=l.length->i=k ->
 (∀y o,y=aB (decide (s=t))->Q y o) ->
 cy env Tryz.f128 0 fZ [(13,aI i),(1,p),(0,x0),(12,aI l.length)] H Q:=by
 intro s;induction s with
 | nil=>rintro t k i H hs ht hk rfl hQ;obtain rfl:=drop_nil hs hk;rw[<-h,Ex]at ht;subst ht;refine mu _ _ _ _ _ _ λg=>?_;simp[ak, *,gj];all_goals exact hQ _ _ rfl
 | cons b s A=>
  rintro t k i H hs ht hk rfl hQ;obtain⟨z,D,n,B⟩:=drop_cons hs;cases t with
  | nil=>have:=iQf List.length ht;simp at this;omega
  | cons c t=>
  obtain⟨u,w,j,v⟩:=drop_cons ht;refine mu _ _ _ _ _ _ λg=>?_;have C:=iQa ((k:Int)+1) (by omega);by_cases q:b=c;·subst q;simp[ak, *,gj,a.idx,d.idx,rows,aR];exact A t (k+1) _ _ n j (by omega) (by simp) (λy o e=>hQ y o (by simp[e]))
  simp[ak, *,gj,a.idx,d.idx,rows,aR];all_goals exact hQ _ _ (by simp[q])
def Sp{x0 p:AV}{Q:AV->aa->Prop}{l m:List Int}(a:Sl 1 (rows l) x0)(d:Sl 1 (rows m) p)(f:l.length<4611686018427387904)(h:m.length=l.length) : ∀(s t:List Int)(k:Nat)(i:Int)(H:aa),l.drop k=s->m.drop k=t->k<=l.length->i=k ->
 (∀y o,y=aB (decide (s=t))->Q y o) ->
 cy env Tryz.f127 0 jM [(5,aI i),(1,p),(0,x0)] H Q:=by
 intro s;induction s with
 | nil=>rintro t k i H hs ht hk rfl hQ;obtain rfl:=drop_nil hs hk;rw[<-h,Ex]at ht;subst ht;refine pU _ _ _ _ _ λg=>?_;simp[ak, *,jN,a.len];all_goals exact hQ _ _ rfl
 | cons b s A=>
  rintro t k i H hs ht hk rfl hQ;obtain⟨z,D,n,B⟩:=drop_cons hs;cases t with
  | nil=>have:=iQf List.length ht;simp at this;omega
  | cons c t=>
  obtain⟨u,w,j,v⟩:=drop_cons ht;refine pU _ _ _ _ _ λg=>?_;have C:=iQa ((k:Int)+1) (by omega);by_cases q:b=c;·subst q;simp[ak, *,jN,a.idx,d.idx,a.len,rows,aR];exact A t (k+1) _ _ n j (by omega) (by simp) (λy o e=>hQ y o (by simp[e]))
  simp[ak, *,jN,a.idx,d.idx,a.len,rows,aR];all_goals exact hQ _ _ (by simp[q])
section
variable{x y:AV}{l m:List Int}(a:Sl 1 (rows l) x)(d:Sl 1 (rows m) y)(f:l.length<4611686018427387904)
include a d f
theorem Sx:ay env 128 [x,y]=some (aB (decide (l=m))):=by
 refine aH rfl (by kernel_rfl) (tE _ _ _ _ λg=>?_);have k:=a.len;have j:=d.len;by_cases h:m.length=l.length
 ·have b:(m.length:Int)=l.length:=by omega
  simp[ak, *,jX];exact Qp a d f h l m 0 0 _ rfl rfl (by omega) rfl (λy n e=>by simp[e])
 have b : ¬(l.length:Int)=m.length:=by omega
 have i:l≠m:=λe=>h (by rw[e]);have c : ¬(m.length:Int)=l.length:=by omega
 simp[ak, *,jX]
theorem U7:ay env 127 [x,y]=some (aB (decide (l=m))):=by
 refine aH rfl (by kernel_rfl) (yE _ _ _ _ λg=>?_);have k:=a.len;have j:=d.len;by_cases h:m.length=l.length
 ·have b:(m.length:Int)=l.length:=by omega
  simp[ak, *,nF];exact Sp a d f h l m 0 0 _ rfl rfl (by omega) rfl (λy n e=>by simp[e])
 have b : ¬(l.length:Int)=m.length:=by omega
 have i:l≠m:=λe=>h (by rw[e]);have c : ¬(m.length:Int)=l.length:=by omega
 simp[ak, *,nF]
end
def QD : ∀(l:List fH)(a:Int),gN a l=true ->∀s∈l,a<s.pos:=by
 intro l;induction l with
 | nil=>intro a h s e;cases e
 | cons p l f=>
  intro a h s e;simp[gN]at h;rcases fR.1 e with rfl | e
  ·exact h.1.1.1
  have:=f _ h.2 s e;have:=h.1.1.1;omega
def acJ(l:List fH)(q:Int):nth l q<=l.length:=by
 unfold nth;exact(List.takeWhile_sublist _).length_le
def V7(q:Int) : ∀(l:List fH)(a:Int),gN a l=true ->∀k (h:k<l.length),(l[k].pos<q↔k<nth l q):=by
 intro l;induction l with
 | nil=>intro a h k f;exact absurd f (by simp)
 | cons p l j=>
  intro a h k f;have g:=QD l p.pos (by simp[gN]at h;exact h.2);have i:gN p.pos l=true:=by simp[gN]at h;exact h.2
  unfold nth;by_cases hp:p.pos<q
  ·rw[iQy (by simpa using hp),jP];cases k with
   | zero=>simp[hp]
   | succ k=>have e:k<l.length:=(by simpa using f);have:=j p.pos i k e;unfold nth at this;simp only[iQF];rw[this];omega
  rw[iQz (by simpa using hp)];cases k with
  | zero=>simp[hp]
  | succ k=>have e:k<l.length:=(by simpa using f);have:=g l[k] (fj _);simp only[iQF,lE];omega
def L4{l:List fH}{st lf:Int}{dd:Bool}(h:Gi l st lf dd=true):gN (-1) l=true:=by
 unfold Gi at h;simp at h;exact h.1
def rdB(l:List fH)(q:Int):List UInt8:=if yY l q (nth l q) then ((l[nth l q]?).map (·.bs)).getD [] else List.replicate 128 0
section
variable{l:List fH}{x:AV}{st lf:Int}{dd:Bool}(c:Sl 2 (bt l) x)(b : ∀s∈l,fM s)(d:l.length<1000000)
include c b d
theorem abW{q:Int}:ay env 116 [dR x st lf dd,aI q]=some (
 if Gi l st lf dd then (if 0<=q/\q<6146 then .tup [.bE 1 (aK (rdB l q)) none,aI 0] else .tup [aY,aI 2]) else .tup [aY,aI 8]):=by
 refine aH rfl (by kernel_rfl) (Lr _ _ _ _ λg=>?_);have a:=Yq (st:=st) (lf:=lf) (dd:=dd) c b (by omega) (q:=q);cases hd:Gi l st lf dd;·simp[hd]at a;simp only[dR]at a ⊢;simp[ak, *,sQ,c.r]
 simp[hd]at a;by_cases i:0<=q/\q<6146
 ·rw[if_pos i]at a;have m:=abV (st:=st) (lf:=lf) (dd:=dd) c b d (V7 q l (-1) (L4 hd)) (acJ l q);cases e:yY l q (nth l q)
  ·obtain⟨Z,k⟩ : ∃Z:List UInt8,Z=List.replicate 128 0:=⟨_,rfl⟩;have y:Z.length=128:=by rw[k];rfl
   have o:rdB l q=Z:=by unfold rdB;rw[e,k];rfl
   rw[e]at m;simp only[dR,o]at a m ⊢;rw[if_pos i];have u:=yP (P:=env.P) (t:=76) (z:=1) (by':=1) (zz:=a8 0) (r:=⟨0,23,0,0⟩) (by kernel_rfl) (by kernel_rfl) (n:=128) (by decide) (by decide);rw[show List.replicate 128 (a8 0)=aK Z from by rw[k];rfl,show((128:Nat):Int)=128 from rfl]at u;clear k;simp[ak, *,sQ,c.r]
  have f:nth l q<l.length:=by
   unfold yY at e;cases h:l[nth l q]? with
   | none=>rw[h]at e;cases e
   | some s=>exact(fg.1 h).1
  obtain⟨p,hp⟩ : ∃p,p=l[nth l q]:=⟨_,rfl⟩;have j:=b p (by rw[hp];exact fj _);have o:rdB l q=p.bs:=by simp[rdB,e,f,hp]
  have A:=agb j (zW l (-1) (L4 hd) p (by rw[hp];exact fj _));have v:=j.r;rw[e]at m;simp only[dR,o]at a m ⊢;rw[if_pos i];have w:bP (bt l) (nth l q) 1 1 false=some p.av:=by simp[bt,f,fH.enc,hp]
  clear b;subst hp;simp[ak, *,sQ,c.r,c.idx]
 rw[if_neg i]at a;simp only[dR]at a ⊢;rw[if_neg i];simp[ak, *,sQ,c.r]
end
def Ls : ∀(l:List fH)(a:Int),gN a (zH l)=gN a l:=by
 intro l;induction l with
 | nil=>intro a;rfl
 | cons p l h=>intro a;show(_&&gN p.pos (zH l))=_;rw[h];rfl
def JG(q:Int)(b:List UInt8):fH:=⟨q,b,.bE 1 (aK b) none⟩
def Ix{E:Env}{f:FuncId}{fn:Func}{c:Code}{args:List AV}{R:AV->Prop}(p:E.spec f args=none)(k:E.allowed f=true)(t:E.P.funcs[f]?=some fn)(A:fn.body=some c)(d:Nat.ble args.length fn.ntmps=true)
 (h:cy E fn 0 [.code c] (FZ 0 args) [] λx H =>∃y,ed E f x H y/\R y) : ∃y,ay E f args=some y/\R y:=by
 obtain⟨x,H,⟨y,g,w⟩,n,z⟩:=h.h (λ_=>AV.undef) args λi=>(Is args i).symm;refine⟨y,xi.2 ⟨n,λm v=>?_⟩,w⟩;obtain⟨st,j,q,u⟩:=z m v;subst u;unfold dO;rw[p];unfold wy;simp only[k,if_true,t,A,if_pos (G4 d),j,q,Option.map_some];unfold ed at g;split;·rename_i j;rw[if_pos j]at g;rw[if_pos g.1];exact g.2
 rename_i j;rw[if_neg j]at g;exact g
section
variable{l:List fH}{x:AV}{st lf:Int}{dd:Bool}(a:Sl 2 (bt l) x)(b : ∀s∈l,fM s)
include a b
theorem Qd{r1:Ref}{Q:AV->aa->Prop}{H:aa}(q:H.get r1=some ⟨4,[dR x st lf dd],false,false⟩)(c : ∀t:Bool,(t=false->l.length<=200)->Q (aB t) H) : ∀(j k:Nat)(n:Int),k+j=300->k<=l.length->0<=n->n<=10000 * k ->
 cy env Tryz.f23 0 jl [(4,aI k),(1,.ptr r1 0 0),(3,aI n)] H Q:=by
 intro j;induction j with
 | zero=>
  intro k n C i A z;refine o5 _ _ _ _ _ λg=>?_;simp only[dR]at q;obtain rfl:k=300:=by omega
  simp[ak, *,jt,a.r];repeat' ((first | apply qO<;>intro h | apply mK<;>intro h | apply mL<;>intro h | apply mI<;>intro h | apply mJ<;>intro h)<;>(try simp only[iQb,iQc,ij,pO,bI,jf]at h)<;>(try simp[ak, *,a.r]))
  all_goals first | exact c true (λh=>by cases h) | exact c _ (λ_=>by omega)
 | succ j B=>
  intro k n C i A z;have E:=iQa ((k:Int)+1) (by omega);refine o5 _ _ _ _ _ λg=>?_;simp only[dR]at q;have D:(k:Int)<300:=by omega
  by_cases f:k<l.length
  ·have hp:=(b l[k] (fj _)).r;have w:bP (bt l) k 1 1 false=some l[k].av:=by simp[bt,f,fH.enc]
   simp[ak, *,jt,a.r,a.idx];obtain⟨m,hm⟩ : ∃m:Int,m=if 10000<(l[k].bs.length:Int) then 10000 else (l[k].bs.length:Int):=⟨_,rfl⟩
   have v:0<=m/\m<=10000:=by rw[hm];split<;>omega
   have u:=iQa (n+m) (by omega);rw[<-hm,u];have p:=B (k+1) (n+m) (by omega) (by omega) (by omega) (by omega);rw[show((k+1:Nat):Int)=(k:Int)+1 from by omega]at p;exact p
  simp[ak, *,jt,a.r,a.idx];repeat' ((first | apply qO<;>intro h | apply mK<;>intro h | apply mL<;>intro h | apply mI<;>intro h | apply mJ<;>intro h)<;>(try simp only[iQb,iQc,ij,pO,bI,jf]at h)<;>(try simp[ak, *,a.r]))
  all_goals first | exact c true (λh=>by cases h) | exact c _ (λ_=>by omega)
theorem Ri : ∃t:Bool,ay env 23 [dR x st lf dd]=some (aB t)/\(t=false->l.length<=200):=by
 have h : ∃y,ay env 23 [dR x st lf dd]=some y /\∃t:Bool,y=aB t/\(t=false->l.length<=200):=by
  refine Ix (fn:=Tryz.f23) (c:=xO) (by kernel_rfl) (by kernel_rfl) (by kernel_rfl) (by kernel_rfl) (by kernel_rfl) ?_;refine xy _ _ _ λg=>?_;suffices h : ∀Q:AV->aa->Prop,(∀t:Bool,(t=false->l.length<=200)->Q (aB t) [(⟨0,1,0,0⟩,some ⟨4,[dR x st lf dd],false,false⟩)])->mN g (dR x st lf dd) [] Q from
   h _ λt k=>⟨aB t,by simp,t,rfl,k⟩
  intro Q f;have d:=Qd (st:=st) (lf:=lf) (dd:=dd) a b (r1:=⟨0,1,0,0⟩) (H:=[(⟨0,1,0,0⟩,some ⟨4,[dR x st lf dd],false,false⟩)]) (Q:=Q) (by simp) f 300 0 0 (by omega) (by omega) (by omega) (by omega);clear f;simp only[dR]at d ⊢;simp[ak, *,mN,a.r];exact d
 obtain⟨y,i,t,rfl,j⟩:=h;exact⟨t,i,j⟩
end
def IT{l:List UInt8}{x:AV}(h:Sl 1 (aK l) x)(g:dv)(r:Ref):cE env.P g r 76 9 (some x)=some (sB l,[]):=by
 rcases h with ⟨rfl,h⟩ | ⟨c,rfl,h⟩
 ·have:l=[]:=by simpa [aK] using h
  subst this;simp
 simp
def dV(l:List fH):List (Int × List UInt8):=l.map λs=>(s.pos,s.bs)
def bu(l:List Int):List UInt8:=l.flatMap λn=>be 4 n
def nY(l:List Int):(bu l).length=4 * l.length:=by
 induction l with| nil=>rfl| cons n l a=>show(be 4 n++bu l).length=_;rw[iX,a,Fo,jP];omega
def SU{l:List Int}{p:AV}(u:Sl 1 (rows l) p)(S:l.length<100000)(J : ∀n∈l, -2147483648<=n/\n<=2147483647){Q:AV->aa->Prop} :
 ∀(s:List Int)(k:Nat)(i:Int)(a:List Int)(x5:AV)(H:aa),l.drop k=s->k<=l.length->i=k->a.length=k->Fr H->hU [32] 1 (aK (bu a)) H x5->(a=[]->x5=aY) ->
 (∀y b,hU [32] 1 (aK (bu (a++s))) b y->(a++s=[]->y=aY)->Q (.tup [y,aI 0]) b) ->
 cy env Tryz.f124 0 sF [(15,aI i),(5,x5),(13,p),(14,aI l.length)] H Q:=by
 intro s;induction s with
 | nil=>rintro k i a x5 H hs hk rfl ha hF hO hN hQ;obtain rfl:=drop_nil hs hk;refine AO _ _ _ _ _ _ λg=>?_;have j:=hQ x5 H (by simpa using hO) (by simpa using hN);clear hQ hO hN;simp[ak, *,sN,u.len];all_goals exact j
 | cons n s B=>
  rintro k i a x5 H hs hk rfl ha hF hO hN hQ;obtain⟨F,O,x,A⟩:=drop_cons hs;have L:=J n (by rw[<-O];exact fj _);have U:=iQa ((k:Int)+1) (by omega);refine AO _ _ _ _ _ _ λg=>?_;have K:bP (rows l) k 0 1 false=some (.v (.int .i32 n)):=by simp[rows,A,aR]
  have N:n.fdiv (2 ^ min 24 IntKind.i32.bits)=n / 16777216:=by rw[show(2:Int) ^ min 24 IntKind.i32.bits=16777216 from rfl];exact cT n 16777216
  have M:n.fdiv (2 ^ min 16 IntKind.i32.bits)=n / 65536:=by rw[show(2:Int) ^ min 16 IntKind.i32.bits=65536 from rfl];exact cT n 65536
  have R:n.fdiv (2 ^ min 8 IntKind.i32.bits)=n / 256:=by rw[show(2:Int) ^ min 8 IntKind.i32.bits=256 from rfl];exact cT n 256
  have q:=λw b=>B (k+1) ((k:Int)+1) (a++[n]) w b x (by omega) (by simp) (by simp;omega);have j : ∀y b,hU [32] 1 (aK (bu ((a++[n])++s))) b y->((a++[n])++s=[]->y=aY)->Q (.tup [y,aI 0]) b:=λy b h L=>hQ y b (by simpa using h) (λe=>by simp at e);have o:=nY a;have c:(aK (bu a)).length=4 * a.length:=by rw[show(aK (bu a)).length=(bu a).length from by simp,o]
  have f : ∀(g m:Nat)(b:aa),m=4 * a.length+4->b.get ⟨0,32,g,0⟩=some ⟨1,aK (bu a)++[a8 (u8 (n / 16777216)),a8 (u8 (n / 65536)),a8 (u8 (n / 256)),a8 (u8 n)],true,false⟩->hU [32] 1 (aK (bu (a++[n]))) b (.ct ⟨0,32,g,0⟩ 0 m none):=by
   intro g m b I h;subst I;have e:aK (bu (a++[n]))=aK (bu a)++[a8 (u8 (n / 16777216)),a8 (u8 (n / 65536)),a8 (u8 (n / 256)),a8 (u8 n)]:=by simp[bu,vc,aK]
   rw[e];exact .inr ⟨32,g,by simp,by rw[iX,c];rfl,h⟩
  clear hQ hN B;rcases hO with ⟨rfl,D⟩ | ⟨t,G,C,rfl,E⟩
  ·have z:a=[]:=(by have:=iQf List.length D;rw[c]at this;simp only[lE]at this;exact Ak (by omega));subst z;have d:=f (H.gen 0 32) 4;clear f;simp[ak, *,sN,u.r,u.idx,cY,cT];exact q _ _ (by simp(maxDischargeDepth:=12) [eR, *]) (d _ rfl (by simp[bu])) (λe=>by simp at e) j
  rw[lX]at C;subst C;have T:(H.get ⟨0,32,G,0⟩).isSome=true:=by rw[E];rfl
  have P:kJ 1 1 (aK (bu a)).length true none (some ⟨1,aK (bu a),true,false⟩) (some [a8 (u8 (n / 16777216)),a8 (u8 (n / 65536)),a8 (u8 (n / 256)),a8 (u8 n)]):=(by rw[ax,c];refine⟨rfl,c.symm ▸ rfl,.inr ⟨?_,rfl⟩⟩;simp;omega);have d:=λb=>f (H.gen 0 32) ((aK (bu a)).length+4) b (by rw[c]);clear f ha c o;generalize aK (bu a)=bs at *;simp[ak, *,sN,u.r,u.idx,cY,cT];exact q _ _ (by simp(maxDischargeDepth:=12) [eR, *]) (d _ (by simp)) (λe=>by simp at e) j
def Yt{l:List Int}{x:AV}(d:Sl 1 (rows l) x)(q:l.length<100000)(k : ∀n∈l, -2147483648<=n/\n<=2147483647):ay env 124 [x]=some (if yM l=0 then .tup [cK 1 (aK (bu l)),aI 0] else .tup [aY,aI (yM l)]):=by
 refine aH rfl (by kernel_rfl) (Li _ _ _ λg=>?_);have u:=EW d (by omega);have z:=d.len;by_cases h:yM l=0
 ·rw[if_pos h];rw[h]at u;have a:=λH Q=>SU d q k (H:=H) (Q:=Q) l 0 0 [] aY rfl (by omega) rfl rfl;have c : ∀y i,hU [32] 1 (aK (bu ([]++l))) i y->([]++l=[]->y=aY)->view i.get 8 (.tup [y,aI 0])=some (.tup [cK 1 (aK (bu l)),aI 0]):=by
   intro y i j b;rw[sf]at j b;rcases j with ⟨rfl,m⟩ | ⟨t,v,B,rfl,s⟩
   ·rw[m];simp[cK]
   have f:aK (bu l)≠[]:=by
    intro e;have o:=iQf List.length e;have A:=nY l;have w:(aK (bu l)).length=(bu l).length:=by simp
    simp only[lE]at o;have:l=[]:=Ak (by omega);cases b this
   rw[ji 1 f];generalize aK (bu l)=bs at *;simp[s]
  have run:=λH p=>a H (λx H=>view H.get 8 x=some (.tup [cK 1 (aK (bu l)),aI 0])) p (.inl ⟨rfl,rfl⟩) (λ_=>rfl) c;clear a c h;generalize cK 1 (aK (bu l))=yo at *;simp[ak, *,z0,d.r];all_goals exact run _ (by simp(maxDischargeDepth:=12) [Gk, *])
 rw[if_neg h];simp[ak, *,z0,d.r]
def F3{P:Program}{t t':TypeId}(m:qN P t=true)(b:isInt P t'=true)(j:(gX P t).cells.all AV.one=true)(q:Bool)(H:aa)(r:Ref)(n:Int)(C:0<n)(y:n<=aX)(u:n.toNat * td P t<=aX) :
 ee P q H r (some t) (some t') aY (aI n)=some (.ct r 0 n.toNat none,({ r with k:=0},some ⟨lj P t,List.replicate n.toNat (gX P t),true,false⟩) :: H):=by
 unfold qN at m;obtain⟨e,zz,g,p,x,c,i,B,l,o⟩:=iK m;have s:gX P t=zz:=by unfold gX;rw[g,fe,c];rfl
 rw[s]at j ⊢;have f:(P.underlying t').isNone=false:=by
  unfold isInt at b;cases h:P.underlying t' with
  | none=>rw[h]at b;cases b
  | some d=>rfl
 have A : ¬((P.underlying t').isNone=true\/isInt P t'≠isNum (aI n)):=by rw[f,b];simp[isNum]
 have hd : ¬(lj P t≠lj P t\/lj P t=0\/td P t=0\/zz.cells.length≠lj P t):=by simp[i,l,o]
 have a:nP P H.get e (aI n)=some (lj P t,List.replicate n.toNat zz):=by
  show(match fk P e,aV P e with | some w,some z=>if 0<=n/\n<=aX/\w.cells.length=z/\w.cells.all AV.one then some (z,List.replicate n.toNat w) else none | _,_=>none)=_;rw[c,p];exact if_pos ⟨by omega,y,by simp[i,l,o],j⟩
 have v:List.replicate n.toNat zz≠[]:=by
  intro h;have:=iQf List.length h;simp only[Ds,lE]at this;omega
 simp only[ee,fx,fe,g,Option.map_some,cU,if_neg A,p,x,c,a,if_neg hd,if_neg v,Ds,if_pos u];rfl
@[simp] def afc(g:dv)(r:Ref):eD env.P false g r .cap #[76] [aY]=some (aI 0,[]):=by kernel_rfl
def ab4(n:Int)(c:0<n)(i:n<1000000):ay env 146 [aY,aI n]=some (.fsl 1 [] none):=by
 refine aH rfl (by kernel_rfl) (vn _ _ _ _ λg=>?_);have h : ¬n<0:=by omega
 have e:=iQa n (by omega);have f:IntKind.i64.wrap 0=0:=rfl;have b:n<=140737488355328:=by omega
 have j:n.toNat<=140737488355328:=by omega
 have d:0<n.toNat:=by omega
 have a:=F3 (P:=env.P) (t:=76) (t':=3) (by simp) (by simp) (by simp) true [] ⟨0,22,0,0⟩ n c b (by simp;omega);simp[ak, *,oV, -a];refine rm a ?_;simp;all_goals omega
def lU(s:List (List UInt8 × AV)):List UInt8:=s.flatMap (·.1)
def TI{ps:List (List UInt8 × AV)}{x0:AV}(n:Sl 1 (ps.map (·.2)) x0)(hp : ∀p∈ps,Sl 1 (aK p.1) p.2)(J:ps.length<100000)(M:(lU ps).length<1000000){Q:AV->aa->Prop} :
 ∀(s:List (List UInt8 × AV)) (k:Nat) (i:Int) (acc:List UInt8) (m:Nat) (H:aa),ps.drop k=s->k<=ps.length->i=k->acc.length+(lU s).length=(lU ps).length->Fr H->H.get ⟨0,24,m,0⟩=some ⟨1,aK acc,true,false⟩ ->
 (∀g e,e.get ⟨0,24,g,0⟩=some ⟨1,aK (acc++lU s),true,false⟩->Q (.ct ⟨0,24,g,0⟩ 0 (acc++lU s).length none) e) ->
 cy env Tryz.f108 0 eF [(27,aI i),(6,.ct ⟨0,24,m,0⟩ 0 acc.length none),(25,x0),(26,aI ps.length)] H Q:=by
 intro s;induction s with
 | nil=>rintro k i acc m H hs hk rfl ha hF hr hQ;obtain rfl:=drop_nil hs hk;refine mv _ _ _ _ _ _ λg=>?_;have d:=hQ m H (by simpa [lU] using hr);simp only[lU,Ey,tg]at d;clear hQ hr;simp[ak, *,gk];all_goals exact d
 | cons p s w=>
  rintro k i acc m H hs hk rfl ha hF hr hQ;obtain⟨D,G,o,u⟩:=drop_cons hs;have c:=hp p (by rw[<-G];exact fj _);obtain⟨b,x⟩:=p;simp only at c;have L:=iQa ((k:Int)+1) (by omega);have t:lU ((b,x) :: s)=b++lU s:=rfl;rw[t]at ha hQ;rw[iX]at ha;have E:bP (ps.map (·.2)) k 0 1 false=some x:=by simp[u,c.r]
  have C:(ps.map (·.2)).length=ps.length:=(by simp);have j:(aK b).length=b.length:=(by simp);have l:(aK acc).length=acc.length:=(by simp);have K:(H.get ⟨0,24,m,0⟩).isSome=true:=by rw[hr];rfl
  have f:=λg e=>w (k+1) ((k:Int)+1) (acc++b) g e o (by omega) (by simp) (by simp;omega);have d : ∀g e,e.get ⟨0,24,g,0⟩=some ⟨1,aK ((acc++b)++lU s),true,false⟩->Q (.ct ⟨0,24,g,0⟩ 0 ((acc++b)++lU s).length none) e:=λg e h=>by
   have:=hQ g e (by rw[<-sh];exact h);rw[<-sh]at this;exact this
  clear hQ w hp hs;refine mv _ _ _ _ _ _ λg=>?_;have F:=c.kI;by_cases v:b=[];·subst v;have a:=f m H hF;simp only[tg]at a d;have q:=a hr d;clear a f d;simp[ak, *,gk,n.r,n.idx,c.r,c.kI]
  have z:aK b≠[]:=(by simpa using v);have I:kJ 1 1 acc.length true none (some ⟨1,aK acc,true,false⟩) (some (aK b)):=(by rw[ax,j,l];exact⟨rfl,rfl,.inr ⟨by simp;omega,rfl⟩⟩);have a:=f (H.gen 0 24);have y:aK (acc++b)=aK acc++aK b:=AL ..;rw[y]at a;rw[show(acc++b).length=(aK acc).length+(aK b).length by rw[j,l,iX]]at a;clear f j l ha y;generalize aK acc=A at *;generalize aK b=B at *;simp[ak, *,gk,n.r,n.idx,c.r,c.kI];exact a _ (by simp(maxDischargeDepth:=12) [eR, *]) (by simp) d
def TJ{ps:List (List UInt8 × AV)}{x0:AV}(o:Sl 1 (ps.map (·.2)) x0)(hp : ∀p∈ps,Sl 1 (aK p.1) p.2)(B:ps.length<100000)(E:(lU ps).length<1000000)(C:0<(lU ps).length){H:aa}{Q:AV->aa->Prop}
 (a : ∀f,Fr f->f.get ⟨0,24,H.gen 0 24,0⟩=some ⟨1,[],true,false⟩->cy env Tryz.f108 0 eF [(27,aI 0),(6,.ct ⟨0,24,H.gen 0 24,0⟩ 0 0 none),(25,x0),(26,aI ps.length)] f Q) :
 ∀(s:List (List UInt8 × AV)) (k:Nat) (i n:Int),ps.drop k=s->k<=ps.length->i=k->0<=n->n+(lU s).length=(lU ps).length->Fr H ->
 cy env Tryz.f108 0 eT [(11,aI i),(3,aI n),(9,x0),(0,x0),(10,aI ps.length)] H Q:=by
 intro s;induction s with
 | nil=>
  rintro k i n hs hk rfl hn0 hn hF;obtain rfl:=drop_nil hs hk;refine mT _ _ _ _ _ _ _ λg=>?_;have j:n=(lU ps).length:=by simpa [lU] using hn
  have z:=ab4 n (by omega) (by omega);have h:(ps.map (·.2)).length=ps.length:=by simp
  clear j hn hp;simp[ak, *,jE,o.r];exact a _ (by simp(maxDischargeDepth:=12) [eR, *]) (by simp)
 | cons p s t=>
  rintro k i n hs hk rfl hn0 hn hF;obtain⟨v,y,e,m⟩:=drop_cons hs;have c:=hp p (by rw[<-y];exact fj _);obtain⟨b,x⟩:=p;simp only at c;have l:lU ((b,x) :: s)=b++lU s:=rfl;rw[l,iX]at hn;have D:=iQa ((k:Int)+1) (by omega);have A:=iQa (n+(b.length:Int)) (by omega);have w:bP (ps.map (·.2)) k 0 1 false=some x:=by simp[m,c.r]
  have h:(ps.map (·.2)).length=ps.length:=(by simp);have u:(aK b).length=b.length:=(by simp);have q : ¬n+(b.length:Int)<0:=(by omega);have d:=t (k+1) ((k:Int)+1) (n+(b.length:Int)) e (by omega) (by simp) (by omega) (by omega) hF;refine mT _ _ _ _ _ _ _ λg=>?_;clear t a hp hs hn;simp[ak, *,jE,o.r,o.idx,c.r];all_goals exact d
def HT{ps:List (List UInt8 × AV)}{x0:AV}(c:Sl 1 (ps.map (·.2)) x0)(hp : ∀p∈ps,Sl 1 (aK p.1) p.2)(j:ps.length<100000)(i:(lU ps).length<1000000)(k:0<(lU ps).length):ay env 108 [x0]=some (.fsl 1 (aK (lU ps)) none):=by
 refine aH rfl (by kernel_rfl) (uA _ _ _ λg=>?_);have n:(ps.map (·.2)).length=ps.length:=by simp
 have o:=c.len;have d:(aK (lU ps)).length=(lU ps).length:=by simp
 have l:=λe Q f h=>TI c hp j i (Q:=Q) ps 0 0 [] 0 e rfl (by omega) rfl (by simp) f h;have q:=λQ a=>TJ c hp j i k (H:=[]) (Q:=Q) a ps 0 0 0 rfl (by omega) rfl (by omega) (by omega) Fr.nil;clear hp;simp[ak, *,nS,c.r];refine q _ λe f h=>l e _ f h λs m b=>?_;rw[sf]at b ⊢;rw[<-d];generalize aK (lU ps)=B at *;simp[b]
def zer:List UInt8:=List.replicate 128 0
def XD:List fH->Int->List UInt8
 | [],_=>zer
 | p :: l,q=>if p.pos<q then XD l q else if p.pos=q then p.bs else zer
def OI(q:Int)(b:List UInt8):List fH->List fH
 | []=>[JG q b]
 | p :: l=>if p.pos<q then UD p :: OI q b l else if p.pos=q then JG q b :: zH l else JG q b :: UD p :: zH l
def V8(p:fH)(l:List fH)(q:Int):nth (p :: l) q=if p.pos<q then nth l q+1 else 0:=by
 unfold nth;by_cases h:p.pos<q;·rw[iQy (p:=λs:fH=>decide (s.pos<q)) (iQi h),if_pos h,jP]
 rw[iQz (p:=λs:fH=>decide (s.pos<q)) (by rw[iQb];exact h),if_neg h];rfl
def acg(l:List fH)(q:Int):rdB l q=XD l q:=by
 induction l with| nil=>rfl| cons p l a=>
  unfold rdB XD;rw[V8];by_cases h:p.pos<q;·rw[if_pos h,if_pos h,<-a];rfl
  rw[if_neg h,if_neg h];by_cases e:p.pos=q;·simp[yY,e]
  simp[yY,e,zer]
def adB(q:Int)(b:List UInt8)(n:q<6146)(d:b.length=128) : ∀(l:List fH)(a:Int),a<q->gN a l=true->gN a (OI q b l)=true:=by
 intro l;induction l with
 | nil=>intro a i _;simp[OI,gN,JG,d];omega
 | cons p l j=>
  intro a i h;have k:=h;simp[gN]at h;have m:=h.1.1.1;have o:=h.1.1.2;have g:=h.1.2;unfold OI;by_cases f:p.pos<q;·rw[if_pos f];have:=j p.pos f h.2;simp[gN,UD,this,g];exact⟨iQh (by omega),by omega⟩
  rw[if_neg f];by_cases e:p.pos=q
  ·rw[if_pos e];have c:gN q (zH l)=true:=by rw[Ls,<-e];exact h.2
   simp[gN,JG,d,c];exact⟨iQh (by omega),by omega⟩
  rw[if_neg e];have c:gN p.pos (zH l)=true:=by rw[Ls];exact h.2
  simp[gN,JG,UD,d,c,g];exact⟨⟨iQh (by omega),by omega⟩,iQh (by omega),by omega⟩
def afi(q:Int)(b:List UInt8) : ∀(l:List fH),∀s∈OI q b l,fM s:=by
 have c:fM (JG q b):=Sl.mk _ _;intro l;induction l with
 | nil=>intro s a;simp[OI]at a;subst a;exact c
 | cons p l d=>
  intro s a;unfold OI at a;split at a
  ·rcases fR.1 a with rfl | a
   ·exact Sl.mk _ _
   exact d s a
  split at a
  ·rcases fR.1 a with rfl | a
   ·exact c
   exact ER l s a
  rcases fR.1 a with rfl | a
  ·exact c
  exact ER (p :: l) s a
def E9(l:List fH):dV (zH l)=dV l:=by simp[dV,zH,UD]
def Uv{l:List fH}{x:AV}(a:Sl 2 (bt l) x):Sl 2 (bt (zH l)) (vw (OJ x l)):=by
 rcases Dz a with ⟨h,e⟩ | h | ⟨h,e⟩
 ·rw[h,e];exact .inl ⟨rfl,rfl⟩
 ·rw[h];exact Sl.mk _ _
 rw[h,e];exact .inr ⟨some 0,rfl,by simp⟩
def rj(st lf:Int)(dd:Bool)(st' lf':Int)(dd':Bool):Bool:=decide (st=st')&&(decide (lf=lf')&&decide (dd=dd'))
section
variable{l m:List fH}{x y:AV}(c:Sl 2 (bt l) x)(d : ∀s∈l,fM s)(b:Sl 2 (bt m) y)(a : ∀s∈m,fM s)(f:l.length<1000000)
include c d b a f
theorem Qc{r1 r2:Ref}{Q:AV->aa->Prop}{H:aa}{st lf st' lf':Int}{dd dd':Bool}(P:H.get r1=some ⟨4,[dR x st lf dd],false,false⟩)(K:H.get r2=some ⟨4,[dR y st' lf' dd'],false,false⟩) :
 ∀(s t:List fH)(k:Nat),l.drop k=s->m.drop k=t->k<=l.length->l.length=m.length->Q (aB (decide (dV s=dV t)&&rj st lf dd st' lf' dd')) H ->
 cy env Tryz.f31 0 jK [(5,aI k),(3,.ptr r2 0 0),(2,.ptr r1 0 0)] H Q:=by
 simp only[dR]at P K;intro s;induction s with
 | nil=>
  intro t k u n J o h;obtain rfl:=drop_nil u J;have:t=[]:=by rw[<-n];exact Fz (by omega)
  subst this;have E:decide (dV []=dV [])=true:=by simp
  rw[E,ig]at h;clear E n u;refine pS _ _ _ _ _ λg=>?_;by_cases F:st=st'
  ·by_cases D:lf=lf';·have e:rj st lf dd st' lf' dd'=decide (dd=dd'):=(by simp[rj,F,D]);rw[e]at h;clear e;cases dd<;>cases dd'<;>simp at h<;>simp[ak, *,ei,c.r,b.r]<;>exact h
   have e:rj st lf dd st' lf' dd'=false:=(by simp[rj,D]);rw[e]at h;clear e;simp[ak, *,ei,c.r,b.r]
  have e:rj st lf dd st' lf' dd'=false:=(by simp[rj,F]);rw[e]at h;clear e;simp[ak, *,ei,c.r,b.r]
 | cons p s I=>
  intro t k u n J o h;obtain⟨N,O,C,A⟩:=drop_cons u;cases t with
  | nil=>have:=iQf List.length n;simp at this;omega
  | cons q t=>
   obtain⟨G,z,B,w⟩:=drop_cons n;have S:=iQa ((k:Int)+1) (by omega);have i:=I t (k+1) C B (by omega) o;rw[show((k+1:Nat):Int)=(k:Int)+1 from by omega]at i;have r1:bP (bt l) k 0 1 false=some (aI p.pos):=by simp[bt,A,fH.enc]
   have r2:bP (bt l) k 1 1 false=some p.av:=(by simp[bt,A,fH.enc]);have r3:bP (bt m) k 0 1 false=some (aI q.pos):=(by simp[bt,w,fH.enc]);have r4:bP (bt m) k 1 1 false=some q.av:=(by simp[bt,w,fH.enc]);have hp:=d p (by rw[<-O];exact fj _);have z:=a q (by rw[<-z];exact fj _);clear I d a u n;generalize rj st lf dd st' lf' dd'=SH at *;refine pS _ _ _ _ _ λg=>?_;by_cases j:p.pos=q.pos
   ·have L:=IT hp;have M:=IT z;by_cases v:p.bs=q.bs
    ·have e:decide (dV (p :: s)=dV (q :: t))=decide (dV s=dV t):=by rw[decide_eq_decide];simp[dV,j,v]
     rw[e]at h;clear hp z;have R:=i h;clear h i;simp[ak, *,ei,c.r,b.r,c.idx,b.idx]
    have e:decide (dV (p :: s)=dV (q :: t))=false:=(by simp[dV,v]);rw[e,oY]at h;clear hp z i;simp[ak, *,ei,c.r,b.r,c.idx,b.idx]
   have e:decide (dV (p :: s)=dV (q :: t))=false:=(by simp[dV,j]);rw[e,oY]at h;clear i;simp[ak, *,ei,c.r,b.r,c.idx,b.idx]
theorem Rg{st lf st' lf':Int}{dd dd':Bool}:ay env 31 [dR x st lf dd,dR y st' lf' dd']=some (aB (decide (dV l=dV m)&&rj st lf dd st' lf' dd')):=by
 refine aH rfl (by kernel_rfl) (yt _ _ _ _ λg=>?_);by_cases i:l.length=m.length;·have h:=Qc (st:=st) (lf:=lf) (dd:=dd) (st':=st') (lf':=lf') (dd':=dd') c d b a f (r1:=⟨0,2,0,0⟩) (r2:=⟨0,3,0,0⟩) (H:=[(⟨0,3,0,0⟩,some ⟨4,[dR y st' lf' dd'],false,false⟩),(⟨0,2,0,0⟩,some ⟨4,[dR x st lf dd],false,false⟩)]) (Q:=λv k=>ed env 31 v k (aB (decide (dV l=dV m)&&rj st lf dd st' lf' dd'))) (by simp) (by simp) l m 0 rfl rfl (by omega) i (by simp);generalize (decide (dV l=dV m)&&rj st lf dd st' lf' dd')=SH at *;simp only[dR]at h ⊢;simp[ak, *,nz,c.r,b.r];exact h
 have e:decide (dV l=dV m)=false:=(by rw[iQc];intro e;have:=iQf List.length e;simp[dV]at this;exact i this);rw[e,oY];have j : ¬(l.length:Int)=m.length:=by omega
 simp only[dR];simp[ak, *,nz,c.r,b.r]
end
def abY:ay env 60 []=some (dR aY 0 (-1) false):=by
 refine aH rfl (by kernel_rfl) (zt _ _ λg=>?_);simp[ak, *,sS,dR]
end
section
attribute [local simp] aN aG ar aD aC bT kp aP ax aJ bG bF aX aO af a9 dM
def Xa(z:Nat)(zz:AV)(H:aa)(r:Ref)(n:Nat)(a:List (Nat × AV))(refs:List Ref):dA:=match iI (List.replicate n zz) a with
 | some es=>some (.ct r 0 n (some n),(r,some ⟨z,es,true,false⟩) :: cL H refs)
 | none=>none
def Dc{P:Program}{a:Bool}{t:TypeId}(q:qN P t=true)(H:aa)(d m c:Nat)(n:Nat)(ps:List (Nat × AV))(k:n * lj P t<=16777216)(y:(dG H.get ps).isSome=true)
 (w:((dG H.get ps).getD []).all (λp=>p.2.cells.length == lj P t&&p.2.cells.all AV.one)=true) (b:(iI (List.replicate n (gX P t)) ((dG H.get ps).getD [])).isSome=true) (g:kB H.get (cO H.get (ps.map (·.2)))=false) :
 lI P a true H ⟨d,m,c,0⟩ t n (some ps)=Xa (lj P t) (gX P t) H ⟨d,m,c,0⟩ n ((dG H.get ps).getD []) (cO H.get (ps.map (·.2))):=by
 obtain⟨ws,hw⟩:=iB.1 y;rw[hw,cU]at w b ⊢;obtain⟨es,b⟩:=iB.1 b;unfold qN at q;obtain⟨e,zz,u,z,E,v,B,A,C,F⟩:=iK q;have o:gX P t=zz:=by unfold gX;rw[u,fe,v];rfl
 rw[o]at b ⊢;have h:mkSlice P H.get t n ps=some ⟨lj P t,es,true,false⟩:=by
  simp only[mkSlice,u,hw,v,z];rw[if_pos ⟨Ah C,k,B,A,by simpa using w⟩,b];rfl
 have D:gY P a H.get ⟨d,m,c,0⟩ t n (some ps)=none:=by
  simp only[gY,g,gB,iQe]
 unfold lI Xa;rw[D,b];simp only[mA,FK,iQp,ko,h,Option.map_some]
attribute [local simp] Dc Xa dG
def nwS(q:Int)(b:List UInt8):fH:=⟨q,b,cK 1 (aK b)⟩
def rtS(s:fH):fH:=nwS s.pos s.bs
def Gd(l:List fH):List fH:=l.map rtS
@[simp] def YO(l:List fH):(Gd l).length=l.length:=by simp[Gd]
def ab7(l:List fH) : ∀s∈Gd l,fM s:=by
 intro s a;obtain⟨p,_,rfl⟩:=mo.1 a;exact gZ _ _
def Fa(l:List fH):dV (Gd l)=dV l:=by simp[dV,Gd,rtS,nwS]
def abt(st lf:Int)(dd:Bool):IQ st lf dd=(if 0<=st/\st<2147483648 /\ -1<=lf/\lf<2147483648 then (!dd||decide (lf=0)) else false):=by
 unfold IQ;split
 ·rename_i h;have d : ¬st<0:=by omega
  have c : ¬st>=2147483648:=(by omega);have a : ¬lf < -1:=(by omega);have e : ¬lf>=2147483648:=(by omega);simp only[iQh d,iQh c,iQh a,iQh e];cases dd<;>simp
 rename_i h;cases b:(!decide (st<0) && !decide (st>=2147483648) && !decide (lf < -1) && !decide (lf>=2147483648) && !(dd && !decide (lf=0))) with
 | false=>rfl
 | true=>simp at b;exact absurd (by omega) h
section
variable{l:List fH}{x:AV}{st lf:Int}{dd:Bool}(f:Sl 2 (bt l) x)(i : ∀s∈l,fM s)(j:l.length<1000000)
include f i j
theorem Wh{r1:Ref}{Q:AV->aa->Prop} : ∀(s:List fH)(k:Nat)(d:fH)(H:aa),l.drop (k+1)=s->l[k]?=some d->0<=d.pos->Fr H->H.get r1=some ⟨4,[dR x st lf dd],false,false⟩ ->
 (∀I,Q (aB (gN d.pos s&&IQ st lf dd)) I) ->
 cy env Tryz.f57 0 il [(3,aI ((k:Int)+1)),(1,.ptr r1 0 0)] H Q:=by
 intro s;induction s with
 | nil=>
  intro k d H u v A J C o;have w:k<l.length:=(fg.1 v).1;have P:l.length=k+1:=by
   have:=iQf List.length u;simp at this;omega
  have L:(l.length:Int)=(k:Int)+1:=(by omega);have E:gN d.pos []=true:=rfl;rw[E,ig]at o;have z:=o H;rw[abt]at z;clear o u i E P;refine j3 _ _ _ _ λg=>?_;simp only[dR]at C;simp[ak, *,bR,f.r];repeat' ((first | apply qO<;>intro h | apply mK<;>intro h | apply mL<;>intro h | apply mI<;>intro h | apply mJ<;>intro h)<;>(try simp only[iQb,iQc,ij,pO,bI,jf]at h)<;>(try simp[ak, *]))
  all_goals first | (rw[if_pos (by omega)]at z;cases dd<;>simp_all) | (rw[if_neg (by omega)]at z;cases dd<;>simp_all)
 | cons p s y=>
  intro k d H u v A J C o;obtain⟨K,B,q,n⟩:=drop_cons u;have X:=iQa ((k:Int)+1+1) (by omega);have T:=iQa (k:Int) (by omega);have U:(0:Int)<=(k:Int)+1:=by omega
  have hp:=(i p (by rw[<-B];exact fj _)).r;have N:bP (bt l) (k+1) 0 2 true=some (.agg [aI p.pos,p.av]):=by simp[bt,n,fH.enc]
  have G:bP (bt l) k 0 1 false=some (aI d.pos):=(by simp[bt,v,fH.enc]);have w:(k:Int)+1<l.length:=(by omega);have F:(k:Int)<l.length:=(by omega);have O:(0:Int)<(k:Int)+1:=(by omega);have Y:((k:Int)+1).toNat=k+1:=(by omega);have m:=λH=>y (k+1) p H q n;rw[show(((k+1:Nat):Int)+1)=(k:Int)+1+1 from by omega]at m;refine j3 _ _ _ _ λg=>?_;simp only[dR]at C m;by_cases c:gN d.pos [p]=true
  ·have t:=c;simp[gN]at t;have R : ¬p.pos<0:=by omega
   have W : ¬p.pos>=6146:=(by omega);have V : ¬p.pos<=d.pos:=(by omega);have S:(p.bs.length:Int)=128:=(by omega);have e:gN d.pos (p :: s)=gN p.pos s:=by simp[gN];simp[gN]at c;simp[c]
   rw[e]at o;have D:=λH a b=>m H (by omega) a b o;clear y m i u v B q n c t o;simp[ak, *,bR,f.r,f.idx];refine D _ (by simp(maxDischargeDepth:=12) [Gk, *]) (by simp(maxDischargeDepth:=12) [Gk, *])
  have t:p.pos<0\/p.pos>=6146\/p.pos<=d.pos \/¬(p.bs.length:Int)=128:=(by simp[gN]at c;omega);have e:gN d.pos (p :: s)=false:=by
   cases h:gN d.pos (p :: s) with| false=>rfl| true=>exfalso;apply c;simp[gN]at h ⊢;exact h.1
  rw[e,oY]at o;clear y m i u v B q n c e;by_cases d1:p.pos<0;·clear t;simp[ak, *,bR,f.r,f.idx]
  by_cases d2:6146<=p.pos;·clear t;simp[ak, *,bR,f.r,f.idx]
  by_cases d3:p.pos<=d.pos;·clear t;simp[ak, *,bR,f.r,f.idx]
  have d4 : ¬p.bs.length=128:=(by omega);have M : ¬(p.bs.length:Int)=128:=(by omega);clear t;simp[ak, *,bR,f.r,f.idx]
theorem ab0:ay env 57 [dR x st lf dd]=some (aB (Gi l st lf dd)):=by
 refine aH rfl (by kernel_rfl) (zw _ _ _ λg=>?_);have E : ∀(r1:Ref)(Q:AV->aa->Prop)(H:aa),Fr H->H.get r1=some ⟨4,[dR x st lf dd],false,false⟩->(∀t,Q (aB (Gi l st lf dd)) t)->cy env Tryz.f57 0 il [(3,aI 0),(1,.ptr r1 0 0)] H Q:=by
  intro r1 Q H K A n;unfold Gi at n;cases k:l with
  | nil=>
   have v:gN (-1) l=true:=by rw[k];rfl
   rw[v,ig,abt]at n;have z:=n H;have w:(l.length:Int)=0:=by rw[k];rfl
   clear n i v k;refine j3 _ _ _ _ λg=>?_;simp only[dR]at A;simp[ak, *,bR,f.r];repeat' ((first | apply qO<;>intro h | apply mK<;>intro h | apply mL<;>intro h | apply mI<;>intro h | apply mJ<;>intro h)<;>(try simp only[iQb,iQc,ij,pO,bI,jf]at h)<;>(try simp[ak, *]))
   all_goals first | (rw[if_pos (by omega)]at z;cases dd<;>simp_all) | (rw[if_neg (by omega)]at z;cases dd<;>simp_all)
  | cons p s=>
   have M:=iQa ((0:Int)+1) (by omega);have hp:=(i p (by rw[k];simp)).r;have m:l[0]?=some p:=by rw[k];rfl
   have o:l.drop (0+1)=s:=by rw[k];rfl
   have F:bP (bt l) 0 0 2 true=some (.agg [aI p.pos,p.av]):=(by simp[bt,m,fH.enc]);have B:0<l.length:=by rw[k];simp
   have G:(0:Int)<l.length:=(by omega);have d:=λH=>Wh (st:=st) (lf:=lf) (dd:=dd) f i j (r1:=r1) (Q:=Q) s 0 p H o m;rw[show(((0:Nat):Int)+1)=1 from rfl]at d;refine j3 _ _ _ _ λg=>?_;simp only[dR]at A d;by_cases c:gN (-1) [p]=true
   ·have q:=c;simp[gN]at q;have I : ¬p.pos<0:=by omega
    have L : ¬p.pos>=6146:=(by omega);have J:(p.bs.length:Int)=128:=(by omega);have e:gN (-1) l=gN p.pos s:=by rw[k];simp[gN];simp[gN]at c;simp[c]
    rw[e]at n;have u:=λH a b=>d H (by omega) a b n;clear d i m o c q n k;simp[ak, *,bR,f.r,f.idx];refine u _ (by simp(maxDischargeDepth:=12) [Gk, *]) (by simp(maxDischargeDepth:=12) [Gk, *])
   have q:p.pos<0\/p.pos>=6146 \/¬(p.bs.length:Int)=128:=(by simp[gN]at c;omega);have e:gN (-1) l=false:=by
    rw[k];cases h:gN (-1) (p :: s) with
    | false=>rfl
    | true=>exfalso;apply c;simp[gN]at h ⊢;exact h.1
   rw[e,oY]at n;clear d i m o c e k;by_cases d1:p.pos<0;·clear q;simp[ak, *,bR,f.r,f.idx]
   by_cases d2:6146<=p.pos;·clear q;simp[ak, *,bR,f.r,f.idx]
   have d4 : ¬p.bs.length=128:=(by omega);have C : ¬(p.bs.length:Int)=128:=(by omega);clear q;simp[ak, *,bR,f.r,f.idx]
 have h:=E ⟨0,1,0,0⟩ (λy t=>view t.get 8 y=some (aB (Gi l st lf dd))) [(⟨0,1,0,0⟩,some ⟨4,[dR x st lf dd],false,false⟩)] (by simp(maxDischargeDepth:=12) [Gk, *]) (by simp) (by simp);generalize Gi l st lf dd=D at *;simp only[dR]at h ⊢;simp[ak, *,sT,f.r];first | done | exact h
def TP(l:List fH)(q:Int):List UInt8:=match l with
 | []=>List.replicate 128 0
 | p :: l=>if p.pos=q then p.bs else TP l q
end
end
section
attribute [local simp] aN aG ar aD aC bT kp aP ax aJ bG bF aX aO af a9 dM
attribute [local simp] Dc Xa dG
section
variable{l:List fH}{x:AV}{st lf:Int}{dd:Bool}(d:Sl 2 (bt l) x)(a : ∀s∈l,fM s)(f:l.length<1000000)
include d a f
theorem ZX(b : ∀s∈l,s.bs.length=128){q:Int}{r1:Ref}{Q:AV->aa->Prop}{H:aa}(S:Fr H)(I:H.get r1=some ⟨4,[dR x st lf dd],false,false⟩) :
 ∀(s:List fH)(k:Nat),l.drop k=s->k<=l.length->(∀y J,(∀n,view J.get (n+1) y=some (.bE 1 (aK (TP s q)) none))->Q y J) ->
 cy env Tryz.f171 0 kH [(5,aI k),(2,.ptr r1 0 0),(1,aI q)] H Q:=by
 intro s;induction s with
 | nil=>
  intro k u L m;obtain rfl:=drop_nil u L;have E:=yP (P:=env.P) (t:=76) (z:=1) (by':=1) (zz:=a8 0) (r:=⟨0,28,H.gen 0 28,0⟩) (by kernel_rfl) (by kernel_rfl) (n:=128) (by decide) (by decide);obtain⟨Z,B⟩ : ∃Z:List UInt8,Z=List.replicate 128 0:=⟨_,rfl⟩;have D:Z.length=128:=by rw[B];rfl
  rw[show List.replicate 128 (a8 0)=aK Z from by rw[B];rfl,show((128:Nat):Int)=128 from rfl]at E;have e:TP [] q=Z:=by rw[B];rfl
  rw[e]at m;clear B e a b u;refine mZ _ _ _ _ _ λg=>?_;simp only[dR]at I;simp[ak, *,kK,d.r];first | done | exact m _ _ (λn=>by simp[D])
 | cons p s F=>
  intro k u L m;obtain⟨N,O,o,A⟩:=drop_cons u;have T:=iQa ((k:Int)+1) (by omega);have C:p∈l:=by rw[<-O];exact fj _
  have hp:=a p C;have i:=b p C;have r1:bP (bt l) k 0 1 false=some (aI p.pos):=by simp[bt,A,fH.enc]
  have r2:bP (bt l) k 1 1 false=some p.av:=(by simp[bt,A,fH.enc]);have j:=F (k+1) o (by omega);rw[show((k+1:Nat):Int)=(k:Int)+1 from by omega]at j;by_cases w:p.pos=q
  ·have e:TP (p :: s) q=p.bs:=by show(if p.pos=q then _ else _)=_;rw[if_pos w]
   rw[e]at m;have G:aK p.bs≠[]:=(by intro h;have:=iQf List.length h;rw[gM,i]at this;cases this);have v:(aK p.bs).length=128:=by rw[gM];exact i
   clear F j a b e u o C;refine mZ _ _ _ _ _ λg=>?_;simp only[dR]at I;have K : ¬p.bs=[]:=by
    intro h;rw[h]at i;cases i
   rcases hp with ⟨h,M⟩ | ⟨c,h,_⟩
   ·exact absurd M G
   rw[h]at r2;simp[ak, *,kK,d.r,d.idx,QE];first | done | exact m _ _ (λn=>by simp[v])
  have e:TP (p :: s) q=TP s q:=by show(if p.pos=q then _ else _)=_;rw[if_neg w]
  rw[e]at m;have R:=j m;clear F j a b u o C m;refine mZ _ _ _ _ _ λg=>?_;simp only[dR]at I;simp[ak, *,kK,d.r,d.idx]
theorem agc(b : ∀s∈l,s.bs.length=128)(q:Int):ay env 171 [dR x st lf dd,aI q]=some (.bE 1 (aK (TP l q)) none):=by
 refine aH rfl (by kernel_rfl) (As _ _ _ _ λg=>?_);have h:=ZX (st:=st) (lf:=lf) (dd:=dd) d a f b (q:=q) (r1:=⟨0,2,0,0⟩) (Q:=λy c=>view c.get 8 y=some (.bE 1 (aK (TP l q)) none)) (H:=[(⟨0,2,0,0⟩,some ⟨4,[dR x st lf dd],false,false⟩)]) (by simp(maxDischargeDepth:=12) [Gk, *]) (by simp) l 0 rfl (by omega) (λy c e=>e 7);simp only[dR]at h ⊢;simp[ak, *,tz,d.r];first | done | exact h
theorem PA(u : ∀s∈l,s.bs.length<1000000000){r1 r2:Ref}(n3:r1≠r2){Q:AV->aa->Prop} : ∀(s:List fH)(k:Nat)(c:List fH)(v:AV)(H:aa),l.drop k=s->k<=l.length->c.length=k->Fr H->H.get r1=some ⟨4,[dR x st lf dd],false,false⟩->H.get r2=some ⟨4,[dR aY 0 0 false],false,false⟩->r1.t≠28->r2.t≠28 ->
 hU [28] 2 (bt c) H v->(c=[]->v=aY) ->
 (∀y n,hU [28] 2 (bt (c++Gd s)) n y->(c++Gd s=[]->y=aY)->Q (dR y st lf dd) n) ->
 cy env Tryz.f26 0 jJ [(4,aI k),(1,.ptr r1 0 0),(3,v),(2,.ptr r2 0 0)] H Q:=by
 intro s;induction s with
 | nil=>
  intro k c v H L Y T hF U R z w F M E;obtain rfl:=drop_nil L Y;have e:c++Gd []=c:=by simp[Gd]
  rw[e]at E;have n4:r2≠r1:=λe=>n3 e.symm;have hcl:v.cells=[v]/\v.one=true:=(by rcases F with ⟨rfl,_⟩ | ⟨t,g,_,rfl,_⟩<;>exact⟨rfl,rfl⟩);have I : ∀b K,hU [28] 2 (bt c) ((H.put r1 b).put r2 K) v:=by
   intro b K;rcases F with h | ⟨t,g,A,rfl,hh⟩
   ·exact .inl h
   have O:t=28:=(by simpa using A);subst O;refine .inr ⟨28,g,A,rfl,?_⟩;have m1 : ¬(⟨0,28,g,0⟩:Ref)=r1:=λe=>z (by rw[<-e]);have m2 : ¬(⟨0,28,g,0⟩:Ref)=r2:=λe=>w (by rw[<-e]);rw[aa.ad,if_neg m2,aa.ad,if_neg m1];exact hh
  have o:=λb K=>E v _ (I b K) M;clear E I F M a u L;refine pR _ _ _ _ _ _ λg=>?_;simp only[dR]at U R o;simp[ak, *,fm,d.r,aa.ad];done
 | cons p s ih=>
  intro k c v H L Y T hF U R z w F M E;obtain⟨hlt,hg,P,J⟩:=drop_cons L;have N:p∈l:=by rw[<-hg];exact fj _
  have hp:=a p N;have hpl:=u p N;have e3:=iQa ((k:Int)+1) (by omega);have rd1:bP (bt l) k 0 1 false=some (aI p.pos):=by simp[bt,J,fH.enc]
  have rd2:bP (bt l) k 1 1 false=some p.av:=(by simp[bt,J,fH.enc]);have q:=λW n=>ih (k+1) (c++[rtS p]) W n P (by omega) (by simp;omega);rw[show((k+1:Nat):Int)=(k:Int)+1 from by omega]at q;have o : ∀y n,hU [28] 2 (bt ((c++[rtS p])++Gd s)) n y->(((c++[rtS p])++Gd s)=[]->y=aY)->Q (dR y st lf dd) n:=λy n h hn=>E y n (by simpa [Gd] using h) (λe=>by simp[Gd]at e);clear E M ih;have G:(rtS p).enc = .agg [aI p.pos,cK 1 (aK p.bs)]:=rfl;have j : ∀(g m:Nat)(n:aa),m=c.length+1->n.get ⟨0,28,g,0⟩=some ⟨2,bt c++[.agg [aI p.pos,cK 1 (aK p.bs)]],true,false⟩->hU [28] 2 (bt (c++[rtS p])) n (.ct ⟨0,28,g,0⟩ 0 m none):=(by intro g m n N h;subst N;exact .inr ⟨28,g,by simp,by simp,by rw[h];simp[bt,G]⟩);have hb1:(aK p.bs).length=p.bs.length:=(by simp);have hb2:p.bs.length * 1<=140737488355328:=(by omega);have Z:=hp.kI;refine pR _ _ _ _ _ _ λg=>?_;simp only[dR]at U R q o;clear a u;have hb3:p.bs.length<=140737488355328:=by omega
  by_cases X:p.bs=[]
  ·have V:cK 1 (aK p.bs)=aY:=by rw[X];rfl
   rw[V]at j;rcases F with ⟨rfl,S⟩ | ⟨t,B,A,rfl,D⟩
   ·have C:c=[]:=(by simpa [bt] using S);subst C;have i:=j (H.gen 0 28) 1;simp[ak, *,fm,d.r,d.idx,hp.r,hp.kI,QE];exact q _ _ (by simp(maxDischargeDepth:=12) [eR, *]) (by simp(maxDischargeDepth:=12) [eR, *]) (by simp(maxDischargeDepth:=12) [eR, *]) z w (i _ rfl (by simp[bt])) (λe=>by simp at e) o
   rw[lX]at A;subst A;have l6:(H.get ⟨0,28,B,0⟩).isSome=true:=by rw[D];rfl
   have w1 : ¬r1=(⟨0,28,B,0⟩:Ref):=λe=>z (by rw[e]);have w2 : ¬r2=(⟨0,28,B,0⟩:Ref):=λe=>w (by rw[e]);have f4:kJ 2 32 c.length true none (some ⟨2,bt c,true,false⟩) (some [.agg [aI p.pos,aY]]):=(by simp;omega);have i:=λn=>j (H.gen 0 28) (c.length+1) n rfl;clear j T;simp[ak, *,fm,d.r,d.idx,hp.r,hp.kI,QE];exact q _ _ (by simp(maxDischargeDepth:=12) [eR, *]) (by simp(maxDischargeDepth:=12) [eR, *]) (by simp(maxDischargeDepth:=12) [eR, *]) z w (i _ (by simp)) (λe=>by simp at e) o
  have V:cK 1 (aK p.bs) = .bE 1 (aK p.bs) none:=ji 1 (by simpa [aK] using X);rw[V]at j;rcases F with ⟨rfl,S⟩ | ⟨t,B,A,rfl,D⟩
  ·have C:c=[]:=(by simpa [bt] using S);subst C;have i:=j (H.gen 0 28) 1;simp[ak, *,fm,d.r,d.idx,hp.r,hp.kI,QE];exact q _ _ (by simp(maxDischargeDepth:=12) [eR, *]) (by simp(maxDischargeDepth:=12) [eR, *]) (by simp(maxDischargeDepth:=12) [eR, *]) z w (i _ rfl (by simp[bt])) (λe=>by simp at e) o
  rw[lX]at A;subst A;have l6:(H.get ⟨0,28,B,0⟩).isSome=true:=by rw[D];rfl
  have w1 : ¬r1=(⟨0,28,B,0⟩:Ref):=λe=>z (by rw[e]);have w2 : ¬r2=(⟨0,28,B,0⟩:Ref):=λe=>w (by rw[e]);have f4:kJ 2 32 c.length true none (some ⟨2,bt c,true,false⟩) (some [.agg [aI p.pos,.bE 1 (aK p.bs) none]]):=(by simp;omega);have i:=λn=>j (H.gen 0 28) (c.length+1) n rfl;clear j T;simp[ak, *,fm,d.r,d.idx,hp.r,hp.kI,QE];exact q _ _ (by simp(maxDischargeDepth:=12) [eR, *]) (by simp(maxDischargeDepth:=12) [eR, *]) (by simp(maxDischargeDepth:=12) [eR, *]) z w (i _ (by simp)) (λe=>by simp at e) o
theorem Yw(b : ∀s∈l,s.bs.length<1000000000):ay env 26 [dR x st lf dd]=some (dR (cK 2 (bt (Gd l))) st lf dd):=by
 refine aH rfl (by kernel_rfl) (yr _ _ _ λg=>?_);have h:=PA (st:=st) (lf:=lf) (dd:=dd) d a f b (r1:=⟨0,1,0,0⟩) (r2:=⟨0,2,0,0⟩) (by simp) (Q:=λy m=>view m.get 8 y=some (dR (cK 2 (bt (Gd l))) st lf dd)) l 0 [] aY [(⟨0,2,0,0⟩,some ⟨4,[dR aY 0 0 false],false,false⟩),(⟨0,1,0,0⟩,some ⟨4,[dR x st lf dd],false,false⟩)] rfl (by omega) rfl (by simp(maxDischargeDepth:=12) [Gk, *]) (by simp) (by simp) (by simp) (by simp) (.inl ⟨rfl,rfl⟩) (λ_=>rfl) (λy m j k=>by
  rw[sf]at j k;unfold dR;rcases j with ⟨rfl,n⟩ | ⟨t,o,p,rfl,c⟩
  ·rw[n];simp[cK]
  have i:bt (Gd l)≠[]:=by
   intro e;have:Gd l=[]:=by simpa [bt] using e
   cases k this
  rw[ji 2 i];rw[za]at *;simp[c])
 rw[show((0:Nat):Int)=0 from rfl]at h;generalize cK 2 (bt (Gd l))=W at *;simp only[dR]at h ⊢;simp[ak, *,rR,d.r];first | done | exact h
theorem Sv(n:Int)(b : -9223372036854775808<=st+1/\st+1<=9223372036854775807):ay env 59 [dR x st lf dd,aI n]=some (dR x (st+1) n false):=by
 refine aH rfl (by kernel_rfl) (vS _ _ _ _ λg=>?_);have c:=iQa (st+1) b;simp only[dR];simp[ak, *,px,d.r]
end
def ltL(l:List fH)(q:Int):List fH:=l.filter λs=>decide (s.pos<q)
def XG(l:List fH)(q:Int):List fH:=l.filter λs=>decide (q<s.pos)
def G9(l:List fH)(q:Int)(b:List UInt8):List fH:=ltL l q++nwS q b :: XG l q
end
section
def ph:List FuncId:=[49,79,13,29]
def uU:List FuncId:=[78]
def acD:List FuncId:=[49,79,13,78,5]
def abM:FuncId->List AV->aa->Option (AV × aa):=λf args H=>if f=78 then zb 2 32 5 7 args H else none
def X5(f:FuncId)(args:List AV)(H:aa)(y:AV)(a:aa)(h:abM f args H=some (y,a)):nH Tryz.prog (.fn f) args H y a:=by
 unfold abM at h;split at h;·rename_i e;subst e;exact Oj args H y a h
 cases h
def bQ:Env:=Q5 (xm Tryz.prog fns ph uU (HG [(19,13,18),(16,1,77777),(55,1,88888),(27,1,88888)]) (yI [(34,10,3,[(1,36),(36,5)]),(49,9,0,[(6,50),(6,54)]),(81,5,9,[(82,8)]),(15,12,0,[(20,23)]),(52,10,0,[(56,58)]),(13,5,4,[(3,2)]),(67,5,4,[(3,2)]),(48,5,4,[(6,2)]),(7,6,0,[(3,5)]),(14,5,3,[(15,2)]),(35,21,0,[(36,52),(37,52),(38,52),(41,52),(42,52),(43,52),(47,52),(48,52),(49,52)]),(145,8,4,[(148,2)]),(21,10,4,[(23,3),(25,3)]),(91,4,0,[(12,6)])]) (Pg [(19,13,18),(16,1,77777),(55,1,88888),(27,1,88888)]) [] (λ_=>false) (λ_=>none) abM P1) (λf args=>if acD.contains f then none else ay env f args)
@[simp] def Ub(h:aa)(n:Nat)(v a:AV):=bS bQ false (ay bQ) (eZ bQ 0) h (Ref.mk 0 n (aa.gen h 0 n) 0) (some (.fn (.func 30) [] [])) [v,a]
@[simp] def aac(h:aa)(n:Nat)(v a:AV):=bS bQ false (ay bQ) (eZ bQ 0) h (Ref.mk 0 n (aa.gen h 0 n) 0) (some (.fn (.func 22) [] [])) [v,a]
@[simp] def aaa(h:aa)(n:Nat)(v:AV):=bS bQ true (ay bQ) (eZ bQ 0) h (Ref.mk 0 n (aa.gen h 0 n) 0) (some (.fn (.func 24) [] [])) [v]
def ZL:IJ (xm Tryz.prog fns ph uU (HG [(19,13,18),(16,1,77777),(55,1,88888),(27,1,88888)]) (yI [(34,10,3,[(1,36),(36,5)]),(49,9,0,[(6,50),(6,54)]),(81,5,9,[(82,8)]),(15,12,0,[(20,23)]),(52,10,0,[(56,58)]),(13,5,4,[(3,2)]),(67,5,4,[(3,2)]),(48,5,4,[(6,2)]),(7,6,0,[(3,5)]),(14,5,3,[(15,2)]),(35,21,0,[(36,52),(37,52),(38,52),(41,52),(42,52),(43,52),(47,52),(48,52),(49,52)]),(145,8,4,[(148,2)]),(21,10,4,[(23,3),(25,3)]),(91,4,0,[(12,6)])]) (Pg [(19,13,18),(16,1,77777),(55,1,88888),(27,1,88888)])) fns=true:=by kernel_rfl
def adi:bQ.Ok (Da bQ):=UQ (λf args y h=>by
 split at h;·cases h
 exact To adj h) (by kernel_rfl) ZL (λf t h=>by cases h) X5
def rO{f:FuncId}{args:List AV}{y:AV}(h:acD.contains f=false)(a:ay env f args=some y):ay bQ f args=some y:=Tn (by
 show(if acD.contains f then none else ay env f args)=some y;rw[h];exact a)
@[simp] def aiO{f:FuncId}(h:uU.contains f=false):(bQ.mode f == 2)=false:=by
 show((if ph.contains f then (if uU.contains f then 3 else 1) else if uU.contains f then 2 else 0) == 2)=false;rw[h];split<;>rfl
@[simp] def agA{f:FuncId}(h:uU.contains f=false):(bQ.mode f == 3)=false:=by
 show((if ph.contains f then (if uU.contains f then 3 else 1) else if uU.contains f then 2 else 0) == 3)=false;rw[h];split<;>rfl
def acN{f:FuncId}(h:ph.contains f=false):uW (bQ.mode f)=false:=by
 show uW (if ph.contains f then (if uU.contains f then 3 else 1) else if uU.contains f then 2 else 0)=false;rw[h];cases uU.contains f<;>rfl
@[simp] def ag4{f:FuncId}(h:ph.contains f=false)(x:AV)(H:aa)(y:AV):ed bQ f x H y↔view H.get depth x=some y:=Ky (acN h) x H y
def acM{f:FuncId}(h:ph.contains f=true):uW (bQ.mode f)=true:=by
 show uW (if ph.contains f then (if uU.contains f then 3 else 1) else if uU.contains f then 2 else 0)=true;rw[h];cases uU.contains f<;>rfl
@[simp] def IE{f:FuncId}(h:ph.contains f=true)(x:AV)(H:aa)(y:AV):ed bQ f x H y↔(aj H.get depth x).Nodup/\ca H.get depth x=some y:=FQ (acM h) x H y
end
section
attribute [local simp] aN aG ar aD aC bT kp aP ax aJ bG bF aX aO af a9 dM
def Wv(q:Int)(b:List UInt8) : ∀(l:List fH)(a:Int),gN a l=true->dV (OI q b l)=dV (G9 l q b):=by
 have k : ∀(l:List fH)(a:Int),gN a l=true->q<=a->ltL l q=[]/\XG l q=l:=by
  intro l a h z;have m:=QD l a h;constructor;·unfold ltL;rw[List.filter_eq_nil_iff];intro s v;have:=m s v;simp;omega
  unfold XG;rw[List.filter_eq_self];intro s v;have:=m s v;simp;omega
 intro l;induction l with
 | nil=>intro a _;rfl
 | cons p l y=>
  intro a h;have w:gN p.pos l=true:=by simp[gN]at h;exact h.2
  unfold OI;by_cases u:p.pos<q
  ·rw[if_pos u];have o:ltL (p :: l) q=p :: ltL l q:=by simp[ltL,u]
   have n:XG (p :: l) q=XG l q:=by unfold XG;rw[O0 (by simp;omega)]
   have:=y p.pos w;unfold G9 at this ⊢;rw[o,n];simp only[dV,zj,KU]at this ⊢;rw[this];rfl
  rw[if_neg u];obtain⟨g1,t⟩:=k l p.pos w (by omega);have o:ltL (p :: l) q=[]:=by unfold ltL at g1 ⊢;rw[O0 (by simpa using u)];exact g1
  by_cases e:p.pos=q
  ·rw[if_pos e];have n:XG (p :: l) q=l:=by unfold XG at t ⊢;rw[O0 (by simp;omega)];exact t
   unfold G9;rw[o,n];simp[dV,zH,UD,JG,nwS]
  rw[if_neg e];have n:XG (p :: l) q=p :: l:=by unfold XG at t ⊢;rw[List.filter_cons_of_pos (by simp;omega),t]
  unfold G9;rw[o,n];simp[dV,zH,UD,JG,nwS]
def ahE(q:Int) : ∀(l:List fH)(a:Int),gN a l=true->TP l q=XD l q:=by
 have o : ∀(l:List fH)(a:Int),gN a l=true->q<=a->TP l q=zer:=by
  intro l;induction l with
  | nil=>intro a _ _;rfl
  | cons p l m=>
   intro a h t;have k:gN p.pos l=true:=by simp[gN]at h;exact h.2
   have hp:=QD (p :: l) a h p (by simp);show(if p.pos=q then p.bs else TP l q)=zer;rw[if_neg (by omega)];exact m p.pos k (by omega)
 intro l;induction l with
 | nil=>intro a _;rfl
 | cons p l m=>
  intro a h;have k:gN p.pos l=true:=by simp[gN]at h;exact h.2
  show(if p.pos=q then p.bs else TP l q)=(if p.pos<q then XD l q else if p.pos=q then p.bs else zer);by_cases n:p.pos<q;·rw[if_neg (by omega),if_pos n];exact m p.pos k
  rw[if_neg n];by_cases e:p.pos=q;·rw[if_pos e,if_pos e]
  rw[if_neg e,if_neg e];exact o l p.pos k (by omega)
end
section
def CD:Code:=(Tryz.f79.body).getD .skip
def JK:Nat->Option (List Nat):=λi=>none
def JO:Nat->Bool:=λi=>false
def CK(g:Nat->AV)(x0:AV)(H:aa)(Q:AV->aa->Prop):Prop:=
 dg H 5 76 x0 λb=>
 Z9 H 6 76 b λa c=>
 kA (yg env.P c (some 76) a x0) λe d=>
 Q a d
def Jz(x0:AV)(H:aa)(Q:AV->aa->Prop)(h : ∀g,CK g x0 H Q):cy bQ Tryz.f79 0 [.code CD] [(0,x0)] H Q:=⟨λg=>vh (live:=JK) (cut:=JO) (n:=500) (Eq.mp (by kernel_rfl) (h g))⟩
def cC:Code:=(Tryz.f78.body).getD .skip
def iU:Nat->Option (List Nat):=λi=>none
def iV:Nat->Bool:=λi=>false
def cD(dep:Nat)(g:Nat->AV)(x0:AV)(H:aa)(Q:AV->aa->Prop):Prop:=
 JX 22 3 x0 λb=>
 br (some b) (
  Q (.v (.slice none 0 0)) H) (
  kA (lI env.P false true H (⟨(dep+1),5,aa.gen H (dep+1) 5,0⟩:Ref) 22 0 (some [])) λd a=>
  kA (ee env.P true a (⟨(dep+1),7,aa.gen a (dep+1) 7,0⟩:Ref) (some 22) (some 22) d x0) λe c=>
  Q e c)
def dZ(dep:Nat)(x0:AV)(H:aa)(Q:AV->aa->Prop)(h : ∀g,cD dep g x0 H Q):cy bQ Tryz.f78 (dep+1) [.code cC] [(0,x0)] H Q:=⟨λg=>vh (live:=iU) (cut:=iV) (n:=500) (Eq.mp (by kernel_rfl) (h g))⟩
def Bl:Code:=(Tryz.f49.body).getD .skip
def ni:=ta Tryz.f49 3
def Ba:Nat->Option (List Nat):=λi=>cond (Nat.beq i 3) (some [10,3,2,1,9]) (none)
def Bh:Nat->Bool:=λi=>false
def sY(g:Nat->AV)(x0:AV)(H:aa)(Q:AV->aa->Prop):Prop:=
 dh H 1 24 x0 λb e=>
 dK e 2 24 λh a=>
 ah 24 b 0 λj=>
 ab a 22 j λf=>
 kA (bS bQ true (ay bQ) (eZ bQ 0) a (Ref.mk 0 7 (aa.gen a 0 7) 0) (some (.fn (.func 78) [] [])) [f]) λc d=>
 dg d 9 22 c λi=>
 cy bQ Tryz.f49 0 ni [(10,(.v (.int .i64 0))),(3,c),(2,h),(1,b),(9,i)] d Q
def HA(x0:AV)(H:aa)(Q:AV->aa->Prop)(h : ∀g,sY g x0 H Q):cy bQ Tryz.f49 0 [.code Bl] [(0,x0)] H Q:=⟨λg=>vh (live:=Ba) (cut:=Bh) (n:=500) (Eq.mp (by kernel_rfl) (h g))⟩
def nG(g:Nat->AV)(x10 b i d x9:AV)(H:aa)(Q:AV->aa->Prop):Prop:=
 fC 3 10 9 x10 x9 λm=>
 br (some m) (
  dF H 22 b x10 λe=>
  ah 78 e 1 λk=>
  ab H 76 k λh=>
  kA (bS bQ true (ay bQ) (eZ bQ 0) H (Ref.mk 0 20 (aa.gen H 0 20) 0) (some (.fn (.func 79) [] [])) [h]) λj a=>
  dF a 22 b x10 λf=>
  ah 78 f 1 λn=>
  aM a 76 n j λo c=>
  gJ 3 10 1 x10 λl=>
  cy bQ Tryz.f49 0 ni [(10,l),(3,b),(2,i),(1,d),(9,x9)] c Q) (
  ah 24 d 0 λe=>
  aM H 22 e b λk a=>
  ab a 24 d λh=>
  aM a 24 i h λj c=>
  aZ c i 24 λf=>
  Q f c)
def pA(x10 a c b x9:AV)(H:aa)(Q:AV->aa->Prop)(h : ∀g,nG g x10 a c b x9 H Q):cy bQ Tryz.f49 0 ni [(10,x10),(3,a),(2,c),(1,b),(9,x9)] H Q:=D5 λg=>vh (live:=Ba) (cut:=Bh) (n:=500) (Eq.mp (by kernel_rfl) (h g))
def CC:Code:=(Tryz.f13.body).getD .skip
def JJ:Nat->Option (List Nat):=λi=>none
def JN:Nat->Bool:=λi=>false
def oH(g:Nat->AV)(x0:AV)(H:aa)(Q:AV->aa->Prop):Prop:=
 dh H 1 24 x0 λs H1=>
 dK H1 2 29 λa F=>
 ab F 24 s λv3=>
 kA (bS bQ true (ay bQ) (eZ bQ 0) F (Ref.mk 0 10 (aa.gen F 0 10) 0) (some (.fn (.func 45) [] [])) [v3]) λY f=>
 iW 30 11 0 Y λZ=>
 br (some Z) (
  ab f 29 a λR=>
  aM f 29 a R λX j=>
  aZ j a 29 λG=>
  Q (.tup [G,Y]) j) (
  ah 24 s 1 λR=>
  ab f 3 R λX=>
  om 3 16 1 X λG=>
  br (some G) (
   ab f 29 a λJ=>
   aM f 29 a J λd j=>
   aZ j a 29 λm=>
   Q (.tup [m,(.v (.int .i64 2))]) j) (
   ab f 24 s λJ=>
   kA (bS bQ true (ay bQ) (eZ bQ 0) f (Ref.mk 0 21 (aa.gen f 0 21) 0) (some (.fn (.func 46) [] [])) [J]) λd j=>
   ba d 0 λm=>
   ba d 1 λS=>
   ba d 2 λA=>
   dK j 6 27 λc H5=>
   aM H5 27 c S λv15 q=>
   iW 30 25 0 A λI=>
   br (some I) (
    ab q 29 a λi=>
    aM q 29 a i λw b=>
    aZ b a 29 λp=>
    Q (.tup [p,A]) b) (
    ab q 24 s λi=>
    ah 27 c 1 λw=>
    ab q 3 w λp=>
    kA (bS bQ true (ay bQ) (eZ bQ 0) q (Ref.mk 0 33 (aa.gen q 0 33) 0) (some (.fn (.func 47) [] [])) [i,(.v (.int .i64 0)),p,(.v (.int .i64 2048))]) λn b=>
    ba n 0 λu=>
    ba n 1 λW=>
    ba n 2 λy=>
    iW 30 37 0 y λU=>
    br (some U) (
     ab b 29 a λh=>
     aM b 29 a h λz e=>
     aZ e a 29 λl=>
     Q (.tup [l,y]) e) (
     ab b 24 s λh=>
     ah 27 c 1 λz=>
     ab b 3 z λl=>
     dg b 45 25 u λE=>
     jZ 3 43 45 l E λN=>
     kA (bS bQ true (ay bQ) (eZ bQ 0) b (Ref.mk 0 47 (aa.gen b 0 47) 0) (some (.fn (.func 48) [] [])) [h,N]) λL e=>
     mQ L λV=>
     br (some V) (
      ab e 29 a λk=>
      aM e 29 a k λC t=>
      aZ t a 29 λo=>
      Q (.tup [o,(.v (.int .i64 8))]) t) (
      ab e 24 s λk=>
      kA (bS bQ false (ay bQ) (eZ bQ 0) e (Ref.mk 0 51 (aa.gen e 0 51) 0) (some (.fn (.func 49) [] [])) [k]) λC t=>
      kA (lI env.P true false t (Ref.mk 0 54 (aa.gen t 0 54) 0) 139 2 (some [(0,m),(1,u)])) λo x=>
      kA (bS bQ false (ay bQ) (eZ bQ 0) x (Ref.mk 0 55 (aa.gen x 0 55) 0) (some (.fn (.func 50) [] [])) [o]) λM B=>
      ab B 27 c λO=>
      Fq 29 0 C 1 M 2 O 3 W λT=>
      aM B 29 a T λv38 D=>
      aZ D a 29 λK=>
      Q (.tup [K,(.v (.int .i64 0))]) D)))))
def Jy(x0:AV)(H:aa)(Q:AV->aa->Prop)(h : ∀g,oH g x0 H Q):cy bQ Tryz.f13 0 [.code CC] [(0,x0)] H Q:=⟨λg=>vh (live:=JJ) (cut:=JN) (n:=500) (Eq.mp (by kernel_rfl) (h g))⟩
def jD:Code:=(Tryz.f5.body).getD .skip
def fy:=ta Tryz.f5 12
def cw:=ta Tryz.f5 16
def jA:Nat->Option (List Nat):=λi=>cond (Nat.beq i 12) (some [21,19,11,4,10,5,9,20]) (cond (Nat.beq i 16) (some [22,11,4,10,5,9,20]) (none))
def jC:Nat->Bool:=λi=>false
def jF(g:Nat->AV)(x0 x1 x2 x3:AV)(H:aa)(Q:AV->aa->Prop):Prop:=
 dh H 4 24 x0 λJ H1=>
 dh H1 5 29 x1 λs H2=>
 dh H2 6 29 x2 λT H3=>
 ab H3 24 J λv4=>
 kA (bS bQ true (ay bQ) (eZ bQ 0) H3 (Ref.mk 0 24 (aa.gen H3 0 24) 0) (some (.fn (.func 23) [] [])) [v4]) λv5 H4=>
 gQ v5 false (an H4 29 s) λv6=>
 gW v5 false H4 (aaa H4 27 v6) λv7 Y=>
 dH v5 v7 λP=>
 gQ P false (an Y 29 T) λv9=>
 gW P false Y (aaa Y 31 v9) λv10 K=>
 dH P v10 λv11=>
 br (some v11) (
  Q (.v (.bool true)) K) (
  ab K 29 s λv12=>
  kA (bS bQ true (ay bQ) (eZ bQ 0) K (Ref.mk 0 34 (aa.gen K 0 34) 0) (some (.fn (.func 25) [] [])) [v12]) λv13 H7=>
  dK H7 9 29 λc H8=>
  aM H8 29 c v13 λv15 L=>
  ab L 24 J λR=>
  kA (bS bQ true (ay bQ) (eZ bQ 0) L (Ref.mk 0 36 (aa.gen L 0 36) 0) (some (.fn (.func 26) [] [])) [R]) λv17 Z=>
  dK Z 10 24 λt H11=>
  aM H11 24 t v17 λv19 y=>
  ab y 24 t λv20=>
  kA (bS bQ true (ay bQ) (eZ bQ 0) y (Ref.mk 0 39 (aa.gen y 0 39) 0) (some (.fn (.func 13) [] [])) [v20]) λC V=>
  ba C 0 λv22=>
  ba C 1 λv23=>
  dK V 11 29 λx H14=>
  aM H14 29 x v22 λv25 w=>
  ab w 24 J λv26=>
  kA (bS bQ true (ay bQ) (eZ bQ 0) w (Ref.mk 0 44 (aa.gen w 0 44) 0) (some (.fn (.func 27) [] [])) [v26]) λB H16=>
  ba B 0 λv28=>
  ba B 1 λv29=>
  dK H16 13 29 λE H17=>
  aM H17 29 E v28 λv31 A=>
  kA (bS bQ true (ay bQ) (eZ bQ 0) A (Ref.mk 0 49 (aa.gen A 0 49) 0) (some (.fn (.func 8) [] [])) [x3]) λG H19=>
  ba G 0 λv33=>
  ba G 1 λv34=>
  dK H19 15 29 λF H20=>
  aM H20 29 F v33 λv36 D=>
  kA (bS bQ true (ay bQ) (eZ bQ 0) D (Ref.mk 0 54 (aa.gen D 0 54) 0) (some (.fn (.func 28) [] [])) [x3]) λI W=>
  ba I 0 λv38=>
  ba I 1 λv39=>
  dK W 17 29 λz H23=>
  aM H23 29 z v38 λv41 q=>
  ab q 29 c λv42=>
  kA (bS bQ true (ay bQ) (eZ bQ 0) q (Ref.mk 0 58 (aa.gen q 0 58) 0) (some (.fn (.func 29) [] [])) [v42]) λv43 H25=>
  dK H25 19 29 λu H26=>
  aM H26 29 u v43 λv45 n=>
  ab n 29 x λv46=>
  ab n 29 E λv47=>
  kA (bS bQ false (ay bQ) (eZ bQ 0) n (Ref.mk 0 61 (aa.gen n 0 61) 0) (some (.fn (.func 30) [] [])) [v46,v47]) λf m=>
  gQ f true (bX v23) λv49=>
  gQ f true (bX v29) λv50=>
  gQ f true (iu 3 63 64 v49 v50) λS=>
  cr f S λp=>
  gQ p true (an m 29 F) λU=>
  gQ p true (an m 29 z) λv54=>
  gW p true m (Ub m 70 U v54) λv55 e=>
  cr p v55 λo=>
  gQ o true (bX v34) λv57=>
  gQ o true (bX v39) λv58=>
  gQ o true (iu 3 73 74 v57 v58) λv59=>
  cr o v59 λb=>
  gQ b true (an e 29 c) λv61=>
  gW b true e (bS bQ false (ay bQ) (eZ bQ 0) e (Ref.mk 0 79 (aa.gen e 0 79) 0) (some (.fn (.func 20) [] [])) [v61]) λO d=>
  gQ b true (au 29 s 0) λv63=>
  gQ b true (au 24 v63 1) λv64=>
  gQ b true (an d 3 v64) λv65=>
  gQ b true (iu 3 79 82 O v65) λv66=>
  cr b v66 λa=>
  gQ a true (an d 29 c) λv68=>
  gQ a true (an d 29 T) λv69=>
  gW a true d (aac d 88 v68 v69) λv70 k=>
  gQ a true (an k 29 s) λv71=>
  gQ a true (an k 29 T) λv72=>
  gW a true k (Ub k 91 v71 v72) λN i=>
  gQ a true (iu 4 88 91 v70 N) λX=>
  cr a X λj=>
  gQ j true (an i 29 c) λv76=>
  gQ j true (an i 29 s) λv77=>
  gW j true i (aac i 97 v76 v77) λv78 h=>
  cr j v78 λl=>
  gQ l true (an h 29 u) λv80=>
  gQ l true (an h 29 s) λv81=>
  gW l true h (Ub h 102 v80 v81) λM H34=>
  cr l M λv83=>
  cy bQ Tryz.f5 0 fy [(21,(.v (.int .i64 0))),(19,u),(11,x),(4,J),(10,t),(5,s),(9,c),(20,v83)] H34 Q)
def mU(x0 b c a:AV)(H:aa)(Q:AV->aa->Prop)(h : ∀g,jF g x0 b c a H Q):cy bQ Tryz.f5 0 [.code jD] [(0,x0),(1,b),(2,c),(3,a)] H Q:=⟨λg=>vh (live:=jA) (cut:=jC) (n:=500) (Eq.mp (by kernel_rfl) (h g))⟩
def fA(g:Nat->AV)(b a x11 x4 x10 x5 x9 x20:AV)(H:aa)(Q:AV->aa->Prop):Prop:=
 ah 29 a 1 λj=>
 ab H 25 j λf=>
 dg H 107 25 f λi=>
 fC 3 104 107 b i λm=>
 br (some m) (
  ah 29 a 1 λd=>
  ab H 25 d λh=>
  dF H 25 h b λl=>
  ah 51 l 1 λe=>
  kA (kn env.P H 3 (some e) (some (.v (.int .i64 (-7))))) λn k=>
  gJ 3 109 1 b λc=>
  cy bQ Tryz.f5 0 fy [(21,c),(19,a),(11,x11),(4,x4),(10,x10),(5,x5),(9,x9),(20,x20)] k Q) (
  cy bQ Tryz.f5 0 cw [(22,(.v (.int .i64 0))),(11,x11),(4,x4),(10,x10),(5,x5),(9,x9),(20,x20)] H Q)
def lP(b a x11 x4 x10 x5 x9 x20:AV)(H:aa)(Q:AV->aa->Prop)(h : ∀g,fA g b a x11 x4 x10 x5 x9 x20 H Q):cy bQ Tryz.f5 0 fy [(21,b),(19,a),(11,x11),(4,x4),(10,x10),(5,x5),(9,x9),(20,x20)] H Q:=D5 λg=>vh (live:=jA) (cut:=jC) (n:=500) (Eq.mp (by kernel_rfl) (h g))
def iz(g:Nat->AV)(a x11 x4 x10 x5 x9 x20:AV)(H:aa)(Q:AV->aa->Prop):Prop:=
 ah 29 x11 0 λz=>
 ah 24 z 0 λx=>
 ab H 22 x λy=>
 dg H 120 22 y λA=>
 fC 3 116 120 a A λv=>
 br (some v) (
  ah 29 x11 0 λo=>
  ah 24 o 0 λt=>
  ab H 22 t λi=>
  dF H 22 i a λh=>
  ah 78 h 1 λb=>
  ab H 76 b λc=>
  ah 29 x11 0 λd=>
  ah 24 d 0 λf=>
  ab H 22 f λl=>
  dF H 22 l a λu=>
  ah 78 u 1 λj=>
  ab H 76 j λm=>
  fD H 76 m 0 λn=>
  ab H 5 n λs=>
  fO (bZ env.P .add 5 (Operand.tmp 139) (.const (.int .u8 1)) (some s) (some (a8 1))) λp=>
  fD H 76 c 0 λk=>
  aM H 5 k p λB e=>
  gJ 3 122 1 a λq=>
  cy bQ Tryz.f5 0 cw [(22,q),(11,x11),(4,x4),(10,x10),(5,x5),(9,x9),(20,x20)] e Q) (
  gQ x20 true (an H 29 x9) λo=>
  gQ x20 true (an H 29 x5) λt=>
  gW x20 true H (bS bQ true (ay bQ) (eZ bQ 0) H (Ref.mk 0 146 (aa.gen H 0 146) 0) (some (.fn (.func 30) [] [])) [o,t]) λi e=>
  cr x20 i λh=>
  gQ h true (an e 24 x10) λb=>
  gQ h true (an e 24 x4) λc=>
  gW h true e (bS bQ true (ay bQ) (eZ bQ 0) e (Ref.mk 0 151 (aa.gen e 0 151) 0) (some (.fn (.func 31) [] [])) [b,c]) λd w=>
  cr h d λf=>
  Q f w)
def lO(a x11 x4 x10 x5 x9 x20:AV)(H:aa)(Q:AV->aa->Prop)(h : ∀g,iz g a x11 x4 x10 x5 x9 x20 H Q):cy bQ Tryz.f5 0 cw [(22,a),(11,x11),(4,x4),(10,x10),(5,x5),(9,x9),(20,x20)] H Q:=D5 λg=>vh (live:=jA) (cut:=jC) (n:=500) (Eq.mp (by kernel_rfl) (h g))
end
section
attribute [local simp] aN aG ar aD aC ph uU bT kp aP ax aJ bG bF aX aO af a9 dM
def ahq{x:AV}{l:List UInt8}(j:Sl 1 (aK l) x)(v:l.length<1000000000):ay bQ 79 [x]=some (.fsl 1 (aK l) none):=by
 refine BO (fn:=Tryz.f79) (c:=CD) rfl (by kernel_rfl) (by kernel_rfl) (by kernel_rfl) (by kernel_rfl) ?_;refine Jz _ _ _ λg=>?_;have w:=j.r;have i:=yP (P:=env.P) (t:=76) (z:=1) (by':=1) (zz:=a8 0) (r:=⟨0,6,0,0⟩) (by kernel_rfl) (by kernel_rfl) (n:=l.length) (by simp only[aX];omega) (by omega);have h:(aK l).length=l.length:=by simp
 have p : ∀(H:aa)(L:List AV),L.length=l.length->H.get ⟨0,6,0,0⟩=some ⟨1,L,true,false⟩->yg env.P H (some 76) (.ct ⟨0,6,0,0⟩ 0 l.length none) x=some (aI l.length,H.put ⟨0,6,0,0⟩ (some ⟨1,aK l,true,false⟩)):=by
  intro H L o m;have s:(aK l).take l.length=aK l:=dM (by omega);have a:L.drop l.length=[]:=Fz (by omega);have q:Nat.min (aK l).length l.length=l.length:=by rw[h];exact Nat.min_self _
  rcases j with ⟨rfl,k⟩ | ⟨c,rfl,k⟩
  ·have d:l=[]:=(by apply si.1;rw[<-h,k];rfl);subst d;have f:L=[]:=si.1 o;subst f;have b:jR aY=true:=rfl;simp only[yg,b,if_true,fe,m];simp
  have b:jR (.bE 1 (aK l) c)=false:=rfl;have u:dt H.get (.bE 1 (aK l) c)=some (1,aK l):=rfl;simp only[yg,b,u,fe,m];simp[q,s,a,o,h]
 have e:=λH=>p H (List.replicate l.length (a8 0)) (by simp);clear p;simp[ak, *,CK,v,i,e]
def Om(dep:Nat)(H:aa):eZ bQ dep (.fn 78) [aY] H=some (aY,H):=by
 obtain⟨a,b,d,rfl,rfl⟩ : ∃a b,eZ bQ dep (.fn 78) [aY] H=some (a,b)/\a=aY/\b=H:=by
  refine wo (fn:=Tryz.f78) (c:=cC) (by kernel_rfl) (by kernel_rfl) (by kernel_rfl) (by kernel_rfl) (by kernel_rfl) ?_ ?_;·refine dZ _ _ _ _ λg=>?_;simp[ak, *,cD,aaJ]
  rfl
 exact d
def On(dep:Nat)(H:aa)(c:Option Nat):eZ bQ dep (.fn 78) [.bE 2 [] c] H=some (.ct ⟨dep+1,5,H.gen (dep+1) 5,0⟩ 0 0 (some 0),(⟨dep+1,5,H.gen (dep+1) 5,0⟩,some ⟨2,[],true,false⟩) :: H):=by
 obtain⟨a,b,d,rfl,rfl⟩ : ∃a b,eZ bQ dep (.fn 78) [.bE 2 [] c] H=some (a,b)/\a = .ct ⟨dep+1,5,H.gen (dep+1) 5,0⟩ 0 0 (some 0)/\b=(⟨dep+1,5,H.gen (dep+1) 5,0⟩,some ⟨2,[],true,false⟩) :: H:=by
  refine wo (fn:=Tryz.f78) (c:=cC) (by kernel_rfl) (by kernel_rfl) (by kernel_rfl) (by kernel_rfl) (by kernel_rfl) ?_ ?_;·refine dZ _ _ _ _ λg=>?_;simp[ak, *,cD]
  rfl
 exact d
def ZS{es:List AV}(a:es≠[])(b:es.length<1000000)(dep:Nat)(H:aa)(c:Option Nat):eZ bQ dep (.fn 78) [.bE 2 es c] H=some (.dsl (Ax 7 H) 0 es.length none,W2 2 5 7 H es false):=by
 obtain⟨e,es,rfl⟩:=iQA a;refine vv.2 ⟨0,λm _=>?_⟩;have:bQ.thrSpec 78 [.bE 2 (e :: es) c] H=some (.dsl (Ax 7 H) 0 (es.length+1) none,W2 2 5 7 H (e :: es) false):=by
  show(if 78=78 then zb 2 32 5 7 [.bE 2 (e :: es) c] H else none)=_;rw[if_pos rfl];simp only[jP]at b;exact if_pos ⟨rfl,by decide,by simp only[aX];omega⟩
 unfold fJ;simp only[this,jP]
def TK{f:FuncId}(a:(bQ.mode f == 2)=true)(dep:Nat)(H:aa)(r:Ref)(first args captured:List AV) :
 bS bQ true (ay bQ) (eZ bQ dep) H r (some (.fn (.func f) first captured)) args=eZ bQ dep (.fn f) (first++args++captured) H:=by
 have h:bQ.mode f=2:=by simpa using a
 simp[bS,lY,ot,mA,FK,h]
def Db(dep:Nat)(H:aa)(r:Ref)(args:List AV):bS bQ true (ay bQ) (eZ bQ dep) H r (some (.fn (.func 78) [] [])) args=eZ bQ dep (.fn 78) args H:=by
 rw[TK (by rfl)];simp
def YR(s:fH):AV := .agg [aI s.pos,.fsl 1 (aK s.bs) none]
def iv(l:List fH):List AV:=l.map YR
@[simp] def BH(l:List fH):(iv l).length=l.length:=by simp[iv]
def Kh(l:List fH) : ∀e∈iv l,Wz e=true:=by
 intro e a;obtain⟨s,_,rfl⟩:=mo.1 a;rfl
def Sm(l:List fH):(iv l).map J7=bt (zH l):=by
 unfold iv bt zH;rw[GU,GU];rfl
def MY{s:fH}(h:fM s) : ∃a,s.enc = .agg a/\a.all C2=true:=by
 refine⟨_,rfl,?_⟩;rcases h with ⟨h,_⟩ | ⟨c,h,_⟩<;>simp[h,C2]
def RO{g:dv}{l:List fH}(i : ∀s∈l,fM s):F2 (DE g) (bt l) (bt l)/\(bt l).flatMap kr=[]:=VX λe b=>by
 obtain⟨s,a,rfl⟩:=mo.1 b;exact MY (i s a)
def xk(l:List fH)(k:Nat):List AV:=iv (l.take k)++bt (l.drop k)
def Tu(l:List fH)(k:Nat)(h:k<=l.length):(xk l k).length=l.length:=by simp[xk];omega
def WG(l:List fH)(k:Nat)(h:k<l.length):(xk l k)[k]?=some (.agg [aI l[k].pos,l[k].av]):=by
 have a:(iv (l.take k)).length=k:=by simp;omega
 unfold xk;rw[kj (by omega),a,vO];simp[bt,h,fH.enc]
def Tt(l:List fH)(k:Nat)(h:k<l.length):(xk l k).set k (YR l[k])=xk l (k+1):=by
 unfold xk;have b:(iv (l.take k)).length=k:=by simp;omega
 have a:l.drop k=l[k] :: l.drop (k+1):=K9 h;rw[EE _ _ (by omega),b,vO,a];show iv (l.take k)++(fH.enc l[k] :: bt (l.drop (k+1))).set 0 (YR l[k])=_;rw[EB,Uk h];unfold iv;rw[AL,sh];rfl
def BP{H:aa}(a:Fr H){d t:Nat}:H.get ⟨d,t,H.gen d t,0⟩=none:=a d t _ 0 (bM _)
section
variable{l:List fH}{x:AV}{st lf:Int}{dd:Bool}(o:Sl 2 (bt l) x)(i : ∀s∈l,fM s)(n : ∀s∈l,s.bs.length<1000000000)(u:l.length<1000000)
include o i n u
theorem Ol{r1 r2 r3:Ref}(n3:r1≠r2){Q:AV->aa->Prop} : ∀(m k:Nat)(H:aa)(t:List Ref),k+m=l.length->Fr H->H.get r1=some ⟨4,[dR x st lf dd],false,false⟩->H.get r2=some ⟨4,[dR aY 0 0 false],false,false⟩ ->
 qo 2 H r3 (xk l k) t->r1 ∉ t->r2 ∉ t ->
 (∀f t,qo 2 f r3 (iv l) t->Q (dR (.dsl r3 0 l.length none) st lf dd) f) ->
 cy bQ Tryz.f49 0 ni [(10,aI k),(3,.dsl r3 0 l.length none),(2,.ptr r2 0 0),(1,.ptr r1 0 0),(9,aI l.length)] H Q:=by
 intro m;induction m with
 | zero=>
  intro k H t E V I F v K P M;obtain rfl:k=l.length:=by omega
  have e:xk l l.length=iv l:=(by simp[xk,bt]);rw[e]at v;have n1:r1≠r2:=n3;have n4:r2≠r1:=λe=>n3 e.symm;refine pA _ _ _ _ _ _ _ λg=>?_;have E : ∀(b S:Option bC),qo 2 ((H.put r1 b).put r2 S) r3 (iv l) t:=λb S=>v.bT λq C k E=>by
   rw[aa.ad,if_neg (λe:q=r2=>P (by rw[<-e];exact C)),aa.ad,if_neg (λe:q=r1=>K (by rw[<-e];exact C))];exact E
  have hQ':=λb S=>M _ t (E b S);clear M E v;simp only[dR]at I F hQ';simp[ak, *,nG,aa.ad]
 | succ m ih=>
  intro k H t E V I F v K P M;have N:k<l.length:=by omega
  have hp:=i l[k] (fj _);have ho:=ahq hp (n l[k] (fj _));have O:=hp.r;have e3:=iQa ((k:Int)+1) (by omega);have w:=WG l k N;obtain⟨q,C⟩ : ∃q:Ref,q=⟨0,20,H.gen 0 20,0⟩:=⟨_,rfl⟩;have c:H.get q=none:=by rw[C];exact BP V
  obtain⟨es,y,g1,g2,g3,Z⟩:=v.set w (j:=1) (by simp) c 1 (by decide) (aK l[k].bs) none;obtain⟨es',xs,L,g5,g6,T,_⟩:=v.at w;rw[g1]at L;cases L;have hrd:bP es k 1 1 false=some l[k].av:=by
   unfold bP;rw[g6];match xs,T with
   | [a,b],T=>
    have A:=T.2.1;rcases A with ⟨rfl,_⟩ | ⟨_,_,_,_,_,A,_⟩
    ·rfl
    rw[A]at O;exact absurd (O.2.1 (λ_=>none) 0) (by simp[Ab.view])
  have R : .agg (patch [aI l[k].pos,l[k].av] 1 [.fsl 1 (aK l[k].bs) none])=YR l[k]:=rfl;rw[R,Tt l k N]at Z;have B:r3∈t:=(by obtain⟨_,_,_,W,_⟩:=v;rw[W];simp);have u1:r3≠r1:=λe=>K (e ▸ B);have u2:r3≠r2:=λe=>P (e ▸ B);have Y:r1≠r3:=λe=>u1 e.symm;have u2':r2≠r3:=λe=>u2 e.symm;have v1:q≠r1:=λe=>by rw[e,I]at c;cases c
  have v2:q≠r2:=λe=>by rw[e,F]at c;cases c
  have U:q≠r3:=λe=>by rw[e,g1]at c;cases c
  have key : ∀Q':aa->Prop,(∀f,Fr f->f.get r1=some ⟨4,[dR x st lf dd],false,false⟩->f.get r2=some ⟨4,[dR aY 0 0 false],false,false⟩->(∃d,qo 2 f r3 (xk l (k+1)) d/\r1 ∉ d/\r2 ∉ d)->Q' f) ->
   Q' ((q,some ⟨1,aK l[k].bs,true,false⟩) :: H.put r3 (some ⟨2,y,false,false⟩)):=by
   intro Q' h;obtain⟨J,z⟩ : ∃J:aa,J=(q,some ⟨1,aK l[k].bs,true,false⟩) :: H.put r3 (some ⟨2,y,false,false⟩):=⟨_,rfl⟩;have G : ∀p,J.get p=if q=p then some ⟨1,aK l[k].bs,true,false⟩ else if p=r3 then some ⟨2,y,false,false⟩ else H.get p:=λp=>by rw[z,aa.gS,aa.ad]
   obtain⟨d,a1,a2⟩:=Z J (by rw[G,if_neg U,if_pos rfl]) (by rw[G,if_pos rfl]) (λp b hp A=>by
    rw[G,if_neg (λe=>by rw[<-e,c]at A;cases A),if_neg hp];exact A)
   rw[<-z];refine h J ?_ (by rw[G,if_neg v1,if_neg Y];exact I) (by rw[G,if_neg v2,if_neg u2'];exact F) ⟨d,a1,λhm=>?_,λhm=>?_⟩;·rw[z,C];exact GG (Jc V (by rw[g1];rfl) _) (aa.jo _ _ _ (by rw[g1];rfl) _ _).symm _
   ·rcases a2 _ hm with e | e
    ·exact K e
    exact v1 e.symm
   rcases a2 _ hm with e | e
   ·exact P e
   exact v2 e.symm
  have D:=λf t=>ih (k+1) f t (by omega);rw[show((k+1:Nat):Int)=(k:Int)+1 from by omega]at D;have Zr:=key (λf=>cy bQ Tryz.f49 0 ni [(10,aI ((k:Int)+1)),(3,.dsl r3 0 l.length none),(2,.ptr r2 0 0),(1,.ptr r1 0 0),(9,aI l.length)] f Q) (λf b1 b2 b3 b4=>by
   obtain⟨d,b5,b6,b7⟩:=b4;exact D f d b1 b2 b3 b5 b6 b7 M)
  clear ih D key Z g6 T i n w v R K P B I F M;have hlen:es.length=l.length:=by rw[g2,Tu l k (by omega)]
  refine pA _ _ _ _ _ _ _ λg=>?_;have X:r3≠q:=λe=>U e.symm;simp only[C,gM]at Zr U X c g3;clear C;simp[ak, *,nG,uy,aa.ad,aa.gS];done
end
def Oe{f:FuncId}(d:ph.contains f=true){H:aa}{s:AV}{es':List AV}{c:List Ref}(h:wN 2 H s es' c)(st lf:Int)(dd:Bool):ed bQ f (dR s st lf dd) H (dR (DN 2 s es') st lf dd):=by
 obtain⟨e,g,a,j⟩:=h.out 4;have b:=h.nodup;rw[IE d];unfold dR;simp[e,a,b]
def tdA(x:AV)(l:List fH):AV:=match x with
 | .bE z [] _ => .fsl z [] (some 0)
 | .bE z _ _ => .nsl z (iv l) none
 | x=>x
def Q0{l:List fH}{x:AV}(o:Sl 2 (bt l) x):Ml 2 (iv l) (tdA x l):=by
 rcases o with ⟨rfl,he⟩ | ⟨c,rfl,_⟩
 ·have:l=[]:=by simpa [bt] using he
  subst this;exact .inl ⟨rfl,rfl⟩
 cases l with| nil=>exact .inr (.inl ⟨rfl,rfl⟩)| cons p l=>exact .inr (.inr ⟨rfl,by simp[iv]⟩)
section
variable{l:List fH}{x:AV}{st lf:Int}{dd:Bool}(o:Sl 2 (bt l) x)(i : ∀s∈l,fM s)(n : ∀s∈l,s.bs.length<1000000000)(u:l.length<1000000)
include o i n u
theorem adq:ay bQ 49 [dR x st lf dd]=some (dR (tdA x l) st lf dd):=by
 refine BO (fn:=Tryz.f49) (c:=Bl) rfl (by kernel_rfl) (by kernel_rfl) (by kernel_rfl) (by kernel_rfl) ?_;refine HA _ _ _ λg=>?_;rcases o.Wb with ⟨rfl,he⟩ | ⟨c,rfl⟩
 ·have t:l=[]:=by simpa [bt] using he
  subst t;have q:=Om 0;simp only[dR];simp[ak, *,sY,o.r,tdA,Db];refine pA _ _ _ _ _ _ _ λg=>?_;simp[ak, *,nG]
 by_cases m:l=[];·subst m;have q:=λH=>On 0 H c;have p:bt []=[]:=rfl;rw[p]at o ⊢;simp only[dR];simp[ak, *,sY,o.r,tdA,Db];refine pA _ _ _ _ _ _ _ λg=>?_;simp[ak, *,nG,ca]
 have v:bt l≠[]:=(by simp[bt,m]);have d:=za l;have q:=λH=>ZS v (by simp;omega) 0 H c;have e:tdA (.bE 2 (bt l) c) l = .nsl 2 (iv l) none:=by
  cases l with| nil=>exact(m rfl).elim| cons _ _=>rfl
 have p:xk l 0=bt l:=(by simp[xk,iv]);obtain⟨f1,f2⟩:=RO (g:=λ_=>none) i;have w:=λ(Q:AV->aa->Prop) r3 H b=>Ol (st:=st) (lf:=lf) (dd:=dd) (x := .bE 2 (bt l) c) o i n u (r1:=⟨0,1,0,0⟩) (r2:=⟨0,2,0,0⟩) (r3:=r3) (by simp) (Q:=Q) l.length 0 H b (by omega);have k : ∀(H:aa) r3,H.get r3=some ⟨2,bt l,false,false⟩->qo 2 H r3 (xk l 0) [r3]:=λH r3 h=>⟨bt l,h,by rw[p];exact(RO i).1,by rw[f2],by simp⟩;have a : ∀(j:aa) r3 b,qo 2 j r3 (iv l) b->ed bQ 49 (dR (.dsl r3 0 l.length none) st lf dd) j (dR (.nsl 2 (iv l) none) st lf dd):=λj r3 b h=>by
  have:=Oe (f:=49) (by rfl) (h.row (by simp[iv,m])) st lf dd;rw[BH]at this;exact this
 rw[e];clear i p f1 f2 e;simp only[dR]at w a ⊢;generalize bt l=es at *;simp only[d]at q;simp[ak, *,sY,o.r,Db];refine w _ _ _ [_] ?_ ?_ ?_ (k _ _ ?_) ?_ ?_ λj b h=>a j _ b h;·unfold W2 Ax;exact(by simp(maxDischargeDepth:=12) [Gk, *])
 all_goals simp[GA,Ax]
 done
end
def acO{y:AV}(st lf:Int)(dd:Bool) : ∀r s bs,aw r 7 y []=(s,bs)->aw r depth (dR y st lf dd) []=(dR s st lf dd,bs):=by
 intro r s bs h;unfold dR;show(λp:List AV × List bC=>(AV.agg p.1,p.2)) ([y,aI st,aI lf,aB dd].foldl (λ(p:List AV × List bC) c=>let (y,bs):=aw r 7 c p.2;(p.1++[y],bs)) ([],[]))=_;simp only[wU,h];rfl
def Sc{l:List fH}{x:AV}{st lf:Int}{dd:Bool}(f:Sl 2 (bt l) x)(c : ∀s∈l,fM s)(a : ∀s∈l,s.bs.length<1000000000)(i:l.length<1000000){H:aa}{r:Ref}(j : ∃d t,r=⟨d,t,H.gen d t,0⟩){K:AV->aa->Prop}{refs:List Ref}(h:Fr H)
 (g : ∀b s e,Fr b->wN 2 b s (iv l) e->Jb H b refs->(∀q∈e,H.get q=none)->DN 2 s (iv l)=tdA x l->K (dR s st lf dd) b) :
 kA (oA true H r refs (ay bQ 49 [dR x st lf dd])) K:=
 KD j (z:=2) (by decide) (n:=4) (mk:=λs=>dR s st lf dd) (adq f c a i) (acO st lf dd) (Q0 f) (Kh l) h g
def C9{z:Nat}{H:aa}{s:AV}{es':List AV}{a:List Ref}(h:wN z H s es' a):s.cells=[s]/\s.one=true:=by
 rcases h with ⟨rfl,_,_⟩ | ⟨r,rfl,_,_,_⟩ | ⟨r,es,rfl,_⟩<;>exact⟨rfl,rfl⟩
end
end Go.Proofs.YtiidajnodhkidaaGreat
namespace Go.Ab
def qo.ajM{z:Nat}{H:aa}{r:Ref}{es':List AV}{rs:List Ref}(h:qo z H r es' rs){i j:Nat}{w:List AV}(hi:es'[i]?=some (.agg w)){k:Nat}{l:List AV}{c:Option Nat}(hj:w[j]?=some (.fsl k l c)) :
 ∃es S q,H.get r=some ⟨z,es,false,false⟩/\es.length=es'.length/\es[i]?=some (.agg S)/\S[j]?=some (.ct q 0 l.length c)/\H.get q=some ⟨k,l,true,false⟩/\q∈rs/\q≠r /\
  ∀u:List AV,u.length=l.length->qo z (H.put q (some ⟨k,u,true,false⟩)) r (es'.set i (.agg (w.set j (.fsl k u c)))) rs:=by
 obtain⟨es,h1,h2,K,W⟩:=h;have R:=DD hi;have hil:i<es'.length:=(fg.1 hi).1;have t:(es'.take i).length=i:=by rw[oM];omega
 generalize es'.take i=A' at *;generalize es'.drop (i+1)=B' at *;subst R;obtain⟨A,C,rfl,hA,X⟩:=F2.split h2;match C,X with
 | x :: B,X=>
 obtain⟨⟨S,ys',rfl,e,hX⟩,hB⟩:=X;cases e;have V:A.length=i:=by rw[hA.len,t]
 have U:=DD hj;have hjl:j<w.length:=(fg.1 hj).1;have M:(w.take j).length=j:=by rw[oM];omega
 generalize w.take j=Y1 at *;generalize w.drop (j+1)=Y2 at *;subst U;obtain⟨I,X3,rfl,L,F⟩:=F2.split hX;match X3,F with
 | x0 :: P,F=>
 have N:I.length=j:=by rw[L.len,M]
 obtain⟨T,Z⟩:=F;rcases T with ⟨_,hp⟩ | ⟨q,z1',l',c',rfl,e,hq,hz⟩
 ·cases hp
 cases e;have e1:(A ++ .agg (I ++ .ct q 0 l.length c :: P) :: B).flatMap kr=A.flatMap kr++(I.flatMap lL++(q :: (P.flatMap lL++B.flatMap kr))):=by simp[kr,ED,nL,lL]
 rw[e1]at K;rw[K]at W;have E:(r :: (A.flatMap kr++(I.flatMap lL++(q :: (P.flatMap lL++B.flatMap kr))))).Perm (q :: (r :: (A.flatMap kr++(I.flatMap lL++(P.flatMap lL++B.flatMap kr))))):=by
  have:=List.perm_middle (a:=q) (l₁:=r :: (A.flatMap kr++I.flatMap lL)) (l₂:=P.flatMap lL++B.flatMap kr);simpa [sh] using this
 have o:=(AK.1 (E.nodup_iff.1 W)).1;simp only[fR,mS,not_or]at o;obtain⟨n0,n1,n2,n3,n4⟩:=o;refine⟨_,_,q,h1,h2.len,by rw[kj (by omega),V,vO];rfl,by rw[kj (by omega),N,vO];rfl,hq,by rw[K];simp,n0,λu Y=>?_⟩;have O : ∀p b,p≠q->H.get p=some b->(H.put q (some ⟨k,u,true,false⟩)).get p=some b:=λp b hp m=>by rw[aa.ad,if_neg hp];exact m
 have J:(A' ++ .agg (Y1 ++ .fsl k l c :: Y2) :: B').set i (.agg ((Y1 ++ .fsl k l c :: Y2).set j (.fsl k u c)))=A' ++ .agg (Y1 ++ .fsl k u c :: Y2) :: B':=by
  rw[EE _ _ (by omega),t,vO,EB,EE _ _ (by omega),M,vO,EB]
 rw[J];refine⟨_,O r _ (λe=>n0 e.symm) h1,?_,by rw[e1];exact K,by rw[K];exact W⟩;refine F2.app (F2.mono (λx G y D=>DE.bT D λp hp b m=>O p b (λe=>n1 (by rw[<-e];exact jO.2 ⟨x,G,hp⟩)) m) hA) ⟨⟨_,_,rfl,rfl,F2.app (F2.mono (λx G y D=>DC.bT D λp hp b m=>O p b (λe=>n2 (by rw[<-e];exact jO.2 ⟨x,G,hp⟩)) m) L) ⟨.inr ⟨q,k,u,c,by rw[Y],rfl,by rw[aa.ad,if_pos rfl],hz⟩,F2.mono (λx G y D=>DC.bT D λp hp b m=>O p b (λe=>n3 (by rw[<-e];exact jO.2 ⟨x,G,hp⟩)) m) Z⟩⟩,F2.mono (λx G y D=>DE.bT D λp hp b m=>O p b (λe=>n4 (by rw[<-e];exact jO.2 ⟨x,G,hp⟩)) m) hB⟩
end Go.Ab
namespace Go.Proofs.YtiidajnodhkidaaGreat
open Go.Ab
section
attribute [local simp] aN aG ar aD aC ph uU bT kp aP ax aJ bG bF aX aO af a9 dM
def Spo(H0 H:aa)(rs:List Ref):Prop :=∀q b,q ∉ rs->H0.get q=some b->H.get q=some b
end
section
def Uf:Ml 2 (iv []) aY := .inl ⟨rfl,rfl⟩
def Dm:Sl 2 (bt []) aY := .inl ⟨rfl,rfl⟩
def MZ(st lf:Int)(dd:Bool):rj st lf dd st lf dd=true:=by simp[rj]
end
section
attribute [local simp] aN aG ar aD aC ph uU bT kp aP ax aJ bG bF aX aO af a9 dM
def TC{l:List fH}{y:AV}(h:Ml 2 (iv l) y):Sl 2 (bt (zH l)) (HM y):=by
 rcases h with ⟨rfl,he⟩ | ⟨rfl,he⟩ | ⟨rfl,he⟩
 ·have:l=[]:=by simpa [iv] using he
  subst this;exact .inl ⟨rfl,rfl⟩
 ·have:l=[]:=by simpa [iv] using he
  subst this;exact .inr ⟨some 0,rfl,bM _⟩
 have:HM (.nsl 2 (iv l) none) = .bE 2 (bt (zH l)) none:=(by show AV.bE 2 ((iv l).map J7) none=_;rw[Sm]);rw[this];exact Sl.mk _ _
def Mm(s:AV)(st lf:Int)(dd:Bool):bC:=⟨4,[dR s st lf dd],false,false⟩
def ahz{H:aa}{C:List (Ref × bC)}{rows:List Bw}(h:Aa H C rows){t:Nat}{s:AV}{st lf:Int}{dd:Bool}(E:s.cells=[s]/\s.one=true){K:AV->aa->Prop}
 (D : ∀r B,Aa B ((r,Mm s st lf dd) :: C) rows->(∀q b,H.get q=some b->B.get q=some b)->K (.ptr r 0 0) B) :
 kA (mA H (⟨0,t,aa.gen H 0 t,0⟩:Ref) (wc env.P (⟨0,t,aa.gen H 0 t,0⟩:Ref) 24)) λv I=>kA (kn env.P I 24 (some v) (some (dR s st lf dd))) λJ F=>K v F:=by
 have G:H.get ⟨0,t,H.gen 0 t,0⟩=none:=BP h.fr;have z:=D ⟨0,t,H.gen 0 t,0⟩ ((⟨0,t,H.gen 0 t,0⟩,some (Mm s st lf dd)) :: H) (h.new 0 t _) (λq b A=>by rw[aa.gS,if_neg (λe=>by rw[<-e,G]at A;cases A)];exact A);clear D;simp only[Mm,dR]at z ⊢;simp[uy,E.1,E.2];exact z
def Wu{H:aa}{e:List (Ref × bC)}{rows:List Bw}(h:Aa H e rows)(r:Ref)(s:AV)(st lf:Int)(dd:Bool)(t:(r,Mm s st lf dd)∈e){K:AV->Prop}(q:K (dR s st lf dd)) :
 fO (oT env.P (aa.get H) 24 (some (.ptr r 0 0))) K:=by
 have:=h.has _ t;simp only[Mm,dR]at this q ⊢;simp[this];exact q
def _root_.Go.Ab.Sl.C4{z:Nat}{es:List AV}{x:AV}(h:Sl z es x):x.cells=[x]/\x.one=true:=⟨h.r.2.2.2.1,h.r.2.2.2.2.1⟩
def aaH{H:aa}{B:List (Ref × bC)}{rows:List Bw}(h:Aa H B rows){t:Nat}{s:AV}{st lf:Int}{dd:Bool}(D:s.cells=[s]/\s.one=true){K:AV->aa->Prop}
 (C : ∀r A,Aa A ((r,Mm s st lf dd) :: B) rows->(∀q b,H.get q=some b->A.get q=some b)->K (.ptr r 0 0) A) :
 kA (mA H (⟨0,t,aa.gen H 0 t,0⟩:Ref) (JD env.P (⟨0,t,aa.gen H 0 t,0⟩:Ref) 24 (some (dR s st lf dd)))) K:=by
 have E:H.get ⟨0,t,H.gen 0 t,0⟩=none:=BP h.fr;have v:=C ⟨0,t,H.gen 0 t,0⟩ ((⟨0,t,H.gen 0 t,0⟩,some (Mm s st lf dd)) :: H) (h.new 0 t _) (λq b z=>by rw[aa.gS,if_neg (λe=>by rw[<-e,E]at z;cases z)];exact z);clear C;simp only[Mm,dR]at v ⊢;simp[D.1,D.2];exact v
def So{l m:List fH}{x y:AV}(j:Sl 2 (bt l) x)(c : ∀s∈l,fM s)(f:Sl 2 (bt m) y)(a : ∀s∈m,fM s)(i:l.length<1000000)(e:dV l=dV m)(st lf:Int)(dd:Bool):ay bQ 31 [dR x st lf dd,dR y st lf dd]=some (aB true):=by
 have:=rO (by rfl) (Rg (st:=st) (lf:=lf) (dd:=dd) (st':=st) (lf':=lf) (dd':=dd) j c f a i);rw[e,MZ]at this;simpa using this
def VA{H:aa}{s:AV}{es':List AV}{q:List Ref}(h:wN 2 H s es' q){y:AV}(v:DN 2 s es'=y):view H.get 7 s=some (HM y)/\aj H.get 7 s=q/\s.cells=[s]/\s.one=true:=by
 obtain⟨z,e,t,A⟩:=h.out 4;rw[v]at e;exact⟨e,t,C9 h⟩
end
end Go.Proofs.YtiidajnodhkidaaGreat
