/-
  What is to be shown of each function, computed from its code. No statement of a seat is proved here.
-/
import Derived.Test.YtmkmimgokagimaaGreatMLvVc3
set_option linter.unusedVariables false
set_option linter.unusedSimpArgs false
set_option linter.unusedSectionVars false
set_option linter.unnecessarySimpa false
set_option maxRecDepth 1000000
set_option linter.defProp false
noncomputable section
namespace Go.Proofs.YtmkmimgokagimaaGreat
open Go.Ab
section
variable(dep:Nat)(g:Nat->AV)(x0 x1 a:AV)(H:aa)(Q:AV->aa->Prop)
def yZ:Code:=(Tryz.f14.body).getD .skip
def iZ:=sV Tryz.f14 3
def q6:Nat->Option (List Nat):=λi=>cond (Nat.beq i 3) (some [4,0,3]) (none)
def ry:Prop:=
 bu env Tryz.f14 0 iZ [(4,(.v (.int .i64 0))),(0,x0),(3,(.v (.slice none 0 0)))] H Q
theorem yA(h : ∀g:ed,ry x0 H Q):dP Tryz.f14 0 [(0,x0)] H Q:=vf q6 (by kernel_rfl) h
def jc(g:Nat->AV)(b x0 c:AV)(H:aa)(Q:AV->aa->Prop):Prop:=
 eL H 7 26 x0 λj=>
 dc 3 5 7 b j λe=>
 br (some e) (
 bz H 26 x0 b λn=>
 ad H 62 n λk=>
 bw true H 16 55 [k] λl f=>
 rN f 17 26 1 0 l λm H2=>
 mv H2 18 26 26 c m λh d=>
 ef 3 9 1 b λi=>
  bu env Tryz.f14 0 iZ [(4,i),(0,x0),(3,h)] d Q) (
 Q c H)
theorem lK(b x0 c:AV)(H:aa)(Q:AV->aa->Prop)(h : ∀g,jc g b x0 c H Q):bu env Tryz.f14 0 iZ [(4,b),(0,x0),(3,c)] H Q:=sU q6 (by kernel_rfl) h
def lb:Prop:=
 bF H 2 25 x0 λk b=>
 ad b 25 k λf=>
 bw true b 8 66 [f,x1] λc H2=>
 kz c λh=>
 br (some h) (
 Q (.tup [(.v (.slice none 0 0)),(.v (.int .i64 8))]) H2) (
 bw true H2 11 68 [x1] λj e=>
 bw true e 12 67 [j] λi d=>
 Q (.tup [i,(.v (.int .i64 0))]) d)
theorem vA(h : ∀g:ed,lb x0 x1 H Q):dP Tryz.f16 0 [(0,x0),(1,x1)] H Q:=iP (by kernel_rfl) h
def iC:Prop:=
 bF H 3 25 x0 λj l=>
 bF l 5 38 a λi H2=>
 ad H2 25 j λt=>
 bw true H2 10 66 [t,x1] λp f=>
 kz p λb=>
 gQ b false (aq f 38 i) λq=>
 gW b false f (fm true f 14 73 [q]) λm c=>
 gQ b false (sY m) λn=>
 eg b n λk=>
 br (some k) (
 Q (.tup [(.v (.int .i64 0)),(.v (.int .i64 8))]) c) (
 ad c 25 j λh=>
 ad c 38 i λd=>
 bw true c 20 74 [h,x1,d] λe o=>
 Q (.tup [e,(.v (.int .i64 0))]) o)
theorem vx(h : ∀g:ed,iC x0 x1 a H Q):dP Tryz.f18 0 [(0,x0),(1,x1),(2,a)] H Q:=iP (by kernel_rfl) h
def kp:Prop:=
 bF H 3 25 x0 λm j=>
 bF j 5 29 a λh H2=>
 ad H2 25 m λq=>
 bw true H2 10 66 [q,x1] λo d=>
 kz o λb=>
 gQ b false (aq d 29 h) λp=>
 gW b false d (fm true d 14 78 [p]) λk f=>
 gQ b false (sY k) λl=>
 eg b l λi=>
 br (some i) (
 Q (.tup [(.v (.slice none 0 0)),(.v (.int .i64 8))]) f) (
 ad f 29 h λe=>
 bw true f 19 79 [x1,e] λc n=>
 Q (.tup [c,(.v (.int .i64 0))]) n)
theorem mM(h : ∀g:ed,kp x0 x1 a H Q):dP Tryz.f20 0 [(0,x0),(1,x1),(2,a)] H Q:=iP (by kernel_rfl) h
def gl:=sV Tryz.f21 4
def oT:Nat->Option (List Nat):=λi=>cond (Nat.beq i 4) (some [5,1,0]) (none)
def pa:Prop:=
 eL H 7 41 x0 λd=>
 eL H 9 41 x1 λb=>
 Ac 3 7 9 d b λc=>
 br (some c) (
 Q (.v (.bool false)) H) (
  bu env Tryz.f21 0 gl [(5,(.v (.int .i64 0))),(1,x1),(0,x0)] H Q)
theorem vC(h : ∀g:ed,pa x0 x1 H Q):dP Tryz.f21 0 [(0,x0),(1,x1)] H Q:=vf oT (by kernel_rfl) h
def ky(g:Nat->AV)(b x1 x0:AV)(H:aa)(Q:AV->aa->Prop):Prop:=
 eL H 13 41 x0 λi=>
 dc 3 11 13 b i λe=>
 br (some e) (
 bz H 41 x0 b λm=>
 ad H 38 m λj=>
 bz H 41 x1 b λk=>
 ad H 38 k λl=>
 bw false H 25 62 [j,l] λf c=>
 kz f λh=>
 br (some h) (
 Q (.v (.bool false)) c) (
 ef 3 15 1 b λd=>
  bu env Tryz.f21 0 gl [(5,d),(1,x1),(0,x0)] c Q)) (
 Q (.v (.bool true)) H)
theorem nJ(b x1 x0:AV)(H:aa)(Q:AV->aa->Prop)(h : ∀g,ky g b x1 x0 H Q):bu env Tryz.f21 0 gl [(5,b),(1,x1),(0,x0)] H Q:=sU oT (by kernel_rfl) h
def rq:Prop:=
 bF H 1 62 x0 λc k=>
 fM k 2 62 λf H2=>
 ae 62 c 2 λh=>
 ad H2 38 h λl=>
 bw true H2 5 56 [l] λn j=>
 ae 62 c 2 λm=>
 aV j 38 m n λo d=>
 ad d 62 c λi=>
 aV d 62 f i λp e=>
 jZ e f 62 λb=>
 Q b e
theorem yt(h : ∀g:ed,rq x0 H Q):dP Tryz.f55 0 [(0,x0)] H Q:=iP (by kernel_rfl) h
def gO:Prop:=
 bF H 1 38 x0 λc k=>
 fM k 2 38 λf H2=>
 ae 38 c 6 λh=>
 ad H2 36 h λl=>
 lE (ga env.P true H2 (Ref.mk 0 5 (aa.gen H2 0 5) 0) (some 36) (some 36) (.v (.slice none 0 0)) l) λn j=>
 ae 38 c 6 λm=>
 aV j 36 m n λo d=>
 ad d 38 c λi=>
 aV d 38 f i λp e=>
 jZ e f 38 λb=>
 Q b e
theorem qS(h : ∀g:ed,gO x0 H Q):dP Tryz.f56 0 [(0,x0)] H Q:=iP (by kernel_rfl) h
def jE:=sV Tryz.f66 4
def sc:Nat->Option (List Nat):=λi=>cond (Nat.beq i 4) (some [5,1,2]) (none)
def kP:Prop:=
 bF H 2 25 x0 λd c=>
 ad c 25 d λi=>
 bw true c 7 134 [i] λf H2=>
 kz f λb=>
 gQ b false (aU x1) λk=>
 gQ b false (xW H2 11 26 k) λj=>
 gQ b false (Ad 3 11 2048 j) λe=>
 eg b e λh=>
 br (some h) (
 Q (.v (.bool false)) H2) (
  bu env Tryz.f66 0 jE [(5,(.v (.int .i64 0))),(1,x1),(2,d)] H2 Q)
theorem zi(h : ∀g:ed,kP x0 x1 H Q):dP Tryz.f66 0 [(0,x0),(1,x1)] H Q:=vf sc (by kernel_rfl) h
def gh(g:Nat->AV)(d x1 a:AV)(H:aa)(Q:AV->aa->Prop):Prop:=
 eL H 16 26 x1 λu=>
 dc 3 14 16 d u λp=>
 br (some p) (
 bz H 26 x1 d λy=>
 ad H 62 y λw=>
 bw false H 24 85 [w] λx c=>
 kz x λb=>
 gQ b false (aq c 25 a) λq=>
 gQ b false (aU x1) λt=>
 gQ b false (aU d) λo=>
 gQ b false (iT env.P (aa.get c) 26 (some t) (some none) (oi o) (some none)) λh=>
 gQ b false (aU x1) λe=>
 gQ b false (aU d) λf=>
 gQ b false (rL c 26 e f) λm=>
 gQ b false (aq c 62 m) λk=>
 gW b false c (fm false c 35 86 [q,h,k]) λi H2=>
 gQ b false (sY i) λn=>
 eg b n λj=>
 br (some j) (
 Q (.v (.bool false)) H2) (
 ef 3 18 1 d λl=>
  bu env Tryz.f66 0 jE [(5,l),(1,x1),(2,a)] H2 Q)) (
 Q (.v (.bool true)) H)
theorem pJ(b x1 a:AV)(H:aa)(Q:AV->aa->Prop)(h : ∀g,gh g b x1 a H Q):bu env Tryz.f66 0 jE [(5,b),(1,x1),(2,a)] H Q:=sU sc (by kernel_rfl) h
def gk:=sV Tryz.f67 3
def oS:Nat->Option (List Nat):=λi=>cond (Nat.beq i 3) (some [4,0,3]) (none)
def o9:Prop:=
 bu env Tryz.f67 0 gk [(4,(.v (.int .i64 0))),(0,x0),(3,(.v (.slice none 0 0)))] H Q
theorem vB(h : ∀g:ed,o9 x0 H Q):dP Tryz.f67 0 [(0,x0)] H Q:=vf oS (by kernel_rfl) h
def dk(g:Nat->AV)(b x0 c:AV)(H:aa)(Q:AV->aa->Prop):Prop:=
 eL H 7 41 x0 λj=>
 dc 3 5 7 b j λe=>
 br (some e) (
 bz H 41 x0 b λn=>
 ad H 38 n λk=>
 bw true H 16 56 [k] λl f=>
 rN f 17 41 1 0 l λm H2=>
 mv H2 18 41 41 c m λh d=>
 ef 3 9 1 b λi=>
  bu env Tryz.f67 0 gk [(4,i),(0,x0),(3,h)] d Q) (
 Q c H)
theorem nI(b x0 c:AV)(H:aa)(Q:AV->aa->Prop)(h : ∀g,dk g b x0 c H Q):bu env Tryz.f67 0 gk [(4,b),(0,x0),(3,c)] H Q:=sU oS (by kernel_rfl) h
def yX:Code:=(Tryz.f68.body).getD .skip
def fD:=sV Tryz.f68 3
def qY:Nat->Option (List Nat):=λi=>cond (Nat.beq i 3) (some [4,0,3]) (none)
def re:Prop:=
 bu env Tryz.f68 0 fD [(4,(.v (.int .i64 0))),(0,x0),(3,(.v (.slice none 0 0)))] H Q
theorem yl(h : ∀g:ed,re x0 H Q):dP Tryz.f68 0 [(0,x0)] H Q:=vf qY (by kernel_rfl) h
def ek(g:Nat->AV)(d x0 m:AV)(H:aa)(Q:AV->aa->Prop):Prop:=
 eL H 7 26 x0 λv=>
 dc 3 5 7 d v λq=>
 br (some q) (
 bz H 26 x0 d λz=>
 ae 62 z 0 λx=>
 ad H 5 x λy=>
 xX 5 15 y λb=>
 gQ b true (aU x0) λu=>
 gQ b true (aU d) λw=>
 gQ b true (rL H 26 u w) λp=>
 gQ b true (ao 62 p 3) λh=>
 gQ b true (aq H 42 h) λe=>
 gQ b true (rO 42 22 0 e) λf=>
 bD b f λn=>
 br (some n) (
 bz H 26 x0 d λc=>
 ae 62 c 2 λi=>
 ad H 38 i λo=>
 rN H 31 41 1 0 o λj t=>
 mv t 32 41 41 m j λl H2=>
 ef 3 9 1 d λk=>
  bu env Tryz.f68 0 fD [(4,k),(0,x0),(3,l)] H2 Q) (
 ef 3 9 1 d λc=>
  bu env Tryz.f68 0 fD [(4,c),(0,x0),(3,m)] H Q)) (
 Q m H)
theorem fA(b x0 c:AV)(H:aa)(Q:AV->aa->Prop)(h : ∀g,ek g b x0 c H Q):bu env Tryz.f68 0 fD [(4,b),(0,x0),(3,c)] H Q:=sU qY (by kernel_rfl) h
def aK:Prop:=
 bF H 1 38 x0 λe H1=>
 ae 38 e 1 λv2=>
 ad H1 31 v2 λv3=>
 bw true H1 6 93 [v3] λv4 H2=>
 kz v4 λK=>
 gQ K false (ao 38 e 2) λv6=>
 gQ K false (aq H2 3 v6) λv7=>
 gQ K false (CX 3 10 1 v7) λv8=>
 eg K v8 λL=>
 gQ L false (ao 38 e 2) λM=>
 gQ L false (aq H2 3 M) λU=>
 gQ L false (wD 3 15 16777216 U) λW=>
 eg L W λl=>
 gQ l false (ao 38 e 3) λv14=>
 gQ l false (aq H2 35 v14) λO=>
 gW l false H2 (fm true H2 21 138 [O]) λv16 o=>
 gQ l false (sY v16) λS=>
 eg l S λv18=>
 br (some v18) (
 Q (.v (.bool false)) o) (
 ae 38 e 5 λZ=>
 ad o 29 Z λV=>
 rK 29 λv21=>
 rM 29 25 26 V v21 λh=>
 ae 38 e 0 λY=>
 ad o 5 Y λR=>
 xY 5 29 R λv25=>
 br (some v25) (
 gQ h true (ao 38 e 4) λI=>
 gQ h true (aq o 33 I) λz=>
 gW h true o (fm true o 35 139 [z]) λC j=>
 gQ h true (aU C) λb=>
 gQ b false (ao 38 e 4) λA=>
 gQ b false (aq j 33 A) λq=>
 gW b false j (fm true j 39 140 [q]) λE m=>
 gQ h true (LU b E) λx=>
 bD h x λc=>
 gQ c true (ao 38 e 3) λF=>
 gQ c true (ao 35 F 0) λJ=>
 gQ c true (ao 33 J 0) λn=>
 gQ c true (aq m 31 n) λy=>
 gQ c true (ao 38 e 1) λf=>
 gQ c true (aq m 31 f) λG=>
 gQ c true (kb 31 46 48 y G) λB=>
 bD c B λd=>
 gQ d true (ao 38 e 6) λi=>
 gQ d true (aq m 36 i) λw=>
 gQ d true (xW m 54 36 w) λp=>
 gQ d true (ao 38 e 3) λu=>
 gQ d true (ao 35 u 1) λD=>
 gQ d true (aq m 3 D) λt=>
 gQ d true (kb 3 54 57 p t) λN=>
 bD d N λk=>
 gQ k true (ao 38 e 6) λv51=>
 gQ k true (aq m 36 v51) λT=>
 gW k true m (fm true m 63 141 [T]) λX H6=>
 gQ k true (rO 3 63 0 X) λv54=>
 bD k v54 λv55=>
 Q v55 H6) (
 ae 38 e 4 λI=>
 ad o 33 I λz=>
 bw true o 68 139 [z] λC j=>
 kz C λb=>
 gQ b false (ao 38 e 6) λA=>
 gQ b false (aq j 36 A) λq=>
 gQ b false (xW j 73 36 q) λE=>
 gQ b false (Ad 3 73 0 E) λx=>
 eg b x λc=>
 br (some c) (
 Q (.v (.bool false)) j) (
 ae 38 e 0 λF=>
 ad j 5 F λJ=>
 xX 5 77 J λn=>
 gQ n true (aU h) λy=>
 bD n y λf=>
 gQ f false (ao 38 e 0) λG=>
 gQ f false (aq j 5 G) λB=>
 gQ f false (bP env.P .eql 5 (Operand.tmp 84) (.const (.int .u8 3)) (some B) (some (a8 3))) λd=>
 gQ f false (aU d) λi=>
 gQ i true (ao 38 e 5) λw=>
 gQ i true (aq j 29 w) λp=>
 gW i true j (fm true j 89 78 [p]) λu m=>
 gQ f false (JK i u) λD=>
 eg f D λt=>
 Q t m)))
theorem zn(h : ∀g:ed,aK x0 H Q):dP Tryz.f73 0 [(0,x0)] H Q:=iP (by kernel_rfl) h
def fH:Prop:=
 bF H 3 25 x0 λJ E=>
 bF E 5 38 a λc H2=>
 bw false H2 9 68 [x1] λL B=>
 ad B 38 c λK=>
 bw false B 11 142 [L,K] λC d=>
 mG 3 12 0 C λI=>
 br (some I) (
 Q C d) (
 ae 38 c 0 λF=>
 ad d 5 F λG=>
 xY 5 16 G λb=>
 gQ b true (aU x1) λf=>
 gQ b true (ao 38 c 1) λl=>
 gQ b true (ao 31 l 0) λn=>
 gQ b true (aq d 29 n) λx=>
 gW b true d (fm false d 23 99 [f,x]) λu e=>
 gQ b true (CU 81 u 3) λh=>
 gQ b true (ao 38 c 3) λy=>
 gQ b true (ao 35 y 1) λj=>
 gQ b true (aq e 3 j) λw=>
 gQ b true (QH 3 24 27 h w) λq=>
 gQ b true (aq e 25 J) λm=>
 gQ b true (ao 38 c 1) λt=>
 gQ b true (ao 31 t 0) λk=>
 gQ b true (aq e 29 k) λp=>
 gW b true e (fm false e 33 143 [m,p]) λi D=>
 gQ b true (CU 81 i 3) λA=>
 gQ b true (T4 3 28 34 q A) λz=>
 bD b z λo=>
 br (some o) (
 Q (.v (.int .i64 9)) D) (
 Q (.v (.int .i64 0)) D))
theorem wx(h : ∀g:ed,fH x0 x1 a H Q):dP Tryz.f74 0 [(0,x0),(1,x1),(2,a)] H Q:=iP (by kernel_rfl) h
def sR:Prop:=
 bF H 1 29 x0 λf b=>
 ae 29 f 0 λc=>
 ad b 5 c λe=>
 jU (bP env.P .leq 5 (Operand.tmp 4) (.const (.int .u8 15)) (some e) (some (a8 15))) λd=>
 Q d b
theorem zx(h : ∀g:ed,sR x0 H Q):dP Tryz.f78 0 [(0,x0)] H Q:=iP (by kernel_rfl) h
def yW:Code:=(Tryz.f79.body).getD .skip
def db:=sV Tryz.f79 3
def qX:Nat->Option (List Nat):=λi=>cond (Nat.beq i 3) (some [6,0,5,3]) (none)
def ra:Prop:=
 bF H 3 29 x1 λc b=>
  bu env Tryz.f79 0 db [(6,(.v (.int .i64 0))),(0,x0),(5,(.v (.slice none 0 0))),(3,c)] b Q
theorem yi(h : ∀g:ed,ra x0 x1 H Q):dP Tryz.f79 0 [(0,x0),(1,x1)] H Q:=vf qX (by kernel_rfl) h
def fG(g:Nat->AV)(d x0 k i:AV)(H:aa)(Q:AV->aa->Prop):Prop:=
 eL H 9 26 x0 λD=>
 dc 3 7 9 d D λx=>
 br (some x) (
 bz H 26 x0 d λF=>
 ae 62 F 0 λE=>
 ad H 5 E λA=>
 CW 5 17 A λb=>
 gQ b false (aU x0) λy=>
 gQ b false (aU d) λz=>
 gQ b false (rL H 26 y z) λC=>
 gQ b false (ao 62 C 2) λf=>
 gQ b false (ao 38 f 1) λl=>
 gQ b false (ao 31 l 0) λn=>
 gQ b false (aq H 29 n) λu=>
 gQ b false (aq H 29 i) λq=>
 gW b false H (fm false H 28 144 [u,q]) λh e=>
 eg b h λv=>
 br (some v) (
 bz e 26 x0 d λc=>
 ad e 62 c λt=>
 bw true e 35 55 [t] λo H2=>
 rN H2 36 26 1 0 o λm w=>
 mv w 37 26 26 k m λp B=>
 ef 3 11 1 d λj=>
  bu env Tryz.f79 0 db [(6,j),(0,x0),(5,p),(3,i)] B Q) (
 ef 3 11 1 d λc=>
  bu env Tryz.f79 0 db [(6,c),(0,x0),(5,k),(3,i)] e Q)) (
 Q k H)
theorem pr(b x0 d c:AV)(H:aa)(Q:AV->aa->Prop)(h : ∀g,fG g b x0 d c H Q):bu env Tryz.f79 0 db [(6,b),(0,x0),(5,d),(3,c)] H Q:=sU qX (by kernel_rfl) h
def aM:Prop:=
 bF H 1 62 x0 λe o=>
 ae 62 e 0 λJ=>
 ad o 5 J λL=>
 xY 5 4 L λK=>
 br (some K) (
 ae 62 e 2 λF=>
 ad o 38 F λE=>
 bw true o 8 154 [E] λz H2=>
 gQ z true (ao 62 e 2) λD=>
 gQ z true (ao 38 D 1) λG=>
 gQ z true (aq H2 31 G) λy=>
 gW z true H2 (fm true H2 13 93 [y]) λq n=>
 bD z q λj=>
 gQ j true (ao 62 e 1) λb=>
 gQ j true (aq n 3 b) λw=>
 gQ j true (wD 3 17 0 w) λp=>
 bD j p λm=>
 gQ m true (ao 62 e 1) λf=>
 gQ m true (aq n 3 f) λl=>
 gQ m true (Ae 3 22 255 l) λu=>
 bD m u λi=>
 gQ i true (ao 62 e 3) λk=>
 gQ i true (aq n 42 k) λh=>
 gQ i true (rO 42 27 0 h) λt=>
 bD i t λc=>
 gQ c true (ao 62 e 4) λd=>
 gQ c true (aq n 60 d) λx=>
 gQ c true (QE 60) λB=>
 gQ c true (kb 60 32 33 x B) λC=>
 bD c C λA=>
 Q A n) (
 ae 62 e 1 λF=>
 ad o 3 F λE=>
 mG 3 37 0 E λz=>
 br (some z) (
 Q (.v (.bool false)) o) (
 ae 62 e 0 λD=>
 ad o 5 D λG=>
 xX 5 40 G λy=>
 br (some y) (
 ae 62 e 2 λq=>
 ad o 38 q λj=>
 bw true o 44 73 [j] λb H2=>
 gQ b true (ao 62 e 2) λw=>
 gQ b true (aq H2 38 w) λp=>
 gW b true H2 (fm true H2 48 155 [p]) λm n=>
 bD b m λf=>
 gQ f true (ao 62 e 3) λl=>
 gQ f true (aq n 42 l) λu=>
 gQ f true (wD 42 52 0 u) λi=>
 bD f i λk=>
 gQ k true (ao 62 e 3) λh=>
 gQ k true (aq n 42 h) λt=>
 gQ k true (CX 42 57 65536 t) λc=>
 bD k c λd=>
 gQ d true (ao 62 e 4) λx=>
 gQ d true (aq n 60 x) λB=>
 gQ d true (QE 60) λC=>
 gQ d true (kb 60 62 63 B C) λA=>
 bD d A λI=>
 Q I n) (
 ae 62 e 0 λq=>
 ad o 5 q λj=>
 CW 5 67 j λb=>
 gQ b true (ao 62 e 2) λw=>
 gQ b true (aq o 38 w) λp=>
 gQ b true (QE 38) λm=>
 gW b true o (fm true o 73 62 [p,m]) λf H2=>
 bD b f λl=>
 gQ l true (ao 62 e 3) λu=>
 gQ l true (aq H2 42 u) λi=>
 gQ l true (rO 42 77 0 i) λk=>
 bD l k λh=>
 gQ h true (ao 62 e 4) λt=>
 gQ h true (aq H2 60 t) λc=>
 gW h true H2 (fm true H2 83 156 [c]) λd n=>
 bD h d λx=>
 Q x n)))
theorem zm(h : ∀g:ed,aM x0 H Q):dP Tryz.f85 0 [(0,x0)] H Q:=iP (by kernel_rfl) h
def aW:Prop:=
 bF H 3 25 x0 λS H1=>
 bF H1 5 62 a λo H2=>
 ad H2 25 S λv3=>
 bw true H2 14 89 [v3,x1] λv4 H3=>
 fM H3 7 25 λR H4=>
 aV H4 25 R v4 λv6 M=>
 ae 62 o 0 λv7=>
 ad M 5 v7 λv8=>
 CW 5 16 v8 λv9=>
 br (some v9) (
 ad M 25 R λq=>
 ae 62 o 4 λv=>
 ad M 60 v λF=>
 bw true M 22 157 [q,F] λp H6=>
 bn p 0 λh=>
 bn p 1 λO=>
 fM H6 8 25 λB P=>
 aV P 25 B h λN U=>
 Af 3 25 0 O λJ=>
 Q J U) (
 ae 62 o 2 λq=>
 ae 38 q 1 λv=>
 ae 31 v 0 λF=>
 ad M 29 F λp=>
 fM M 10 29 λh H6=>
 aV H6 29 h p λO P=>
 ae 62 o 2 λB=>
 ae 38 B 1 λN=>
 ad P 31 N λJ=>
 bw true P 35 94 [x1,J] λv19 U=>
 fM U 11 73 λn H9=>
 aV H9 73 n v19 λv21 b=>
 ae 62 o 0 λZ=>
 ad b 5 Z λv23=>
 xY 5 37 v23 λW=>
 br (some W) (
 ae 73 n 0 λI=>
 ad b 4 I λk=>
 kz k λl=>
 gQ l true (aq b 25 R) λy=>
 gQ l true (ao 62 o 1) λD=>
 gQ l true (aq b 3 D) λw=>
 gQ l true (aq b 29 h) λC=>
 gW l true b (fm false b 47 158 [y,w,C]) λe f=>
 bD l e λc=>
 gQ c true (aU x1) λE=>
 gQ c true (aq f 29 h) λA=>
 gW c true f (fm false f 52 99 [E,A]) λL j=>
 gQ c true (CU 81 L 1) λz=>
 gQ c true (aq j 25 S) λG=>
 gQ c true (aq j 29 h) λt=>
 gW c true j (fm false j 56 143 [G,t]) λd m=>
 gQ c true (CU 81 d 1) λx=>
 gQ c true (Gp 3 53 57 z x) λu=>
 bD c u λK=>
 Q K m) (
 ae 73 n 0 λI=>
 ad b 4 I λk=>
 gQ k true (aq b 25 R) λl=>
 gQ k true (ao 73 n 1) λy=>
 gQ k true (aq b 3 y) λD=>
 gQ k true (aq b 29 h) λw=>
 gW k true b (fm false b 67 158 [l,D,w]) λC f=>
 bD k C λe=>
 gQ e true (ao 62 o 2) λc=>
 gQ e true (ao 38 c 2) λE=>
 gQ e true (aq f 3 E) λA=>
 gQ e true (ao 73 n 2) λL=>
 gQ e true (aq f 3 L) λz=>
 gQ e true (ZM 3 74 1 z) λG=>
 gQ e true (kb 3 72 75 A G) λt=>
 bD e t λd=>
 gQ d true (aU x1) λx=>
 gQ d true (aq f 29 h) λu=>
 gW d true f (fm false f 81 99 [x,u]) λK j=>
 gQ d true (CU 81 K 2) λY=>
 gQ d true (aq j 25 S) λT=>
 gQ d true (aq j 29 h) λv46=>
 gW d true j (fm false j 85 143 [T,v46]) λv47 m=>
 gQ d true (CU 81 v47 2) λv48=>
 gQ d true (Gp 3 82 86 Y v48) λV=>
 bD d V λi=>
 gQ i true (ao 62 o 3) λv51=>
 gQ i true (aq m 42 v51) λX=>
 gQ i true (aq m 25 S) λv53=>
 gQ i true (aU x1) λv54=>
 gQ i true (ao 62 o 2) λv55=>
 gQ i true (aq m 38 v55) λv56=>
 gW i true m (fm false m 96 74 [v53,v54,v56]) λv57 H14=>
 gQ i true (kb 3 91 96 X v57) λv58=>
 bD i v58 λv59=>
 Q v59 H14))
theorem yj(h : ∀g:ed,aW x0 x1 a H Q):dP Tryz.f86 0 [(0,x0),(1,x1),(2,a)] H Q:=iP (by kernel_rfl) h
def zU:Code:=(Tryz.f89.body).getD .skip
def fV:=sV Tryz.f89 2
def r9:Nat->Option (List Nat):=λi=>cond (Nat.beq i 2) (some [5,2,1,4]) (none)
def sJ:Prop:=
 bF H 2 25 x0 λd c=>
 fM c 4 25 λb H2=>
  bu env Tryz.f89 0 fV [(5,(.v (.int .i64 0))),(2,d),(1,x1),(4,b)] H2 Q
theorem zh(h : ∀g:ed,sJ x0 x1 H Q):dP Tryz.f89 0 [(0,x0),(1,x1)] H Q:=vf r9 (by kernel_rfl) h
def gf(g:Nat->AV)(c a x1 e:AV)(H:aa)(Q:AV->aa->Prop):Prop:=
 eL H 8 26 x1 λp=>
 dc 3 6 8 c p λo=>
 br (some o) (
 bz H 26 x1 c λl=>
 ae 62 l 0 λm=>
 ad H 5 m λk=>
 CW 5 16 k λv=>
 br (some v) (
 ad H 25 a λj=>
 bz H 26 x1 c λq=>
 ae 62 q 4 λn=>
 ad H 60 n λh=>
 bw false H 25 157 [j,h] λb d=>
 bn b 0 λf=>
 bn b 1 λu=>
 aV d 25 a f λt H2=>
 ef 3 10 1 c λi=>
  bu env Tryz.f89 0 fV [(5,i),(2,a),(1,x1),(4,e)] H2 Q) (
 ef 3 10 1 c λj=>
  bu env Tryz.f89 0 fV [(5,j),(2,a),(1,x1),(4,e)] H Q)) (
 ad H 25 a λl=>
 aV H 25 e l λm d=>
 jZ d e 25 λk=>
 Q k d)
theorem jA(b a x1 c:AV)(H:aa)(Q:AV->aa->Prop)(h : ∀g,gf g b a x1 c H Q):bu env Tryz.f89 0 fV [(5,b),(2,a),(1,x1),(4,c)] H Q:=sU r9 (by kernel_rfl) h
def nS:Prop:=
 bF H 1 31 x0 λd c=>
 ae 31 d 0 λi=>
 ad c 29 i λf=>
 bw true c 5 78 [f] λb H2=>
 gQ b true (ao 31 d 1) λk=>
 gQ b true (aq H2 5 k) λj=>
 gQ b true (bP env.P .lss 5 (Operand.tmp 8) (.const (.int .u8 8)) (some j) (some (a8 8))) λe=>
 bD b e λh=>
 Q h H2
theorem uH(h : ∀g:ed,nS x0 H Q):dP Tryz.f93 0 [(0,x0)] H Q:=iP (by kernel_rfl) h
def cW:=sV Tryz.f94 3
def tf:Nat->Option (List Nat):=λi=>cond (Nat.beq i 3) (some [6,5,0,3,4]) (none)
def tq:Prop:=
 bF H 3 31 x1 λf c=>
 fM c 4 73 λb H2=>
 fM H2 5 73 λd e=>
  bu env Tryz.f94 0 cW [(6,(.v (.int .i64 0))),(5,d),(0,x0),(3,f),(4,b)] e Q
theorem AA(h : ∀g:ed,tq x0 x1 H Q):dP Tryz.f94 0 [(0,x0),(1,x1)] H Q:=vf tf (by kernel_rfl) h
def fa(g:Nat->AV)(b c x0 t j:AV)(H:aa)(Q:AV->aa->Prop):Prop:=
 eL H 9 26 x0 λT=>
 dc 3 7 9 b T λN=>
 br (some N) (
 bz H 26 x0 b λK=>
 ae 62 K 2 λL=>
 ae 38 L 1 λC=>
 ad H 31 C λS=>
 ad H 31 t λO=>
 Ac 31 18 19 S O λR=>
 br (some R) (
 ef 3 11 1 b λF=>
  bu env Tryz.f94 0 cW [(6,F),(5,c),(0,x0),(3,t),(4,j)] H Q) (
 bz H 26 x0 b λF=>
 ae 62 F 0 λy=>
 ad H 5 y λD=>
 xY 5 25 D λE=>
 br (some E) (
 ae 73 c 0 λo=>
 lE (nx env.P H 4 (some o) (some (AV.v (Value.bool true)))) λw f=>
 bz f 26 x0 b λh=>
 ae 62 h 1 λp=>
 ad f 3 p λe=>
 ae 73 c 1 λn=>
 aV f 3 n e λu H2=>
 bz H2 26 x0 b λk=>
 ae 62 k 0 λm=>
 ad H2 5 m λi=>
 xX 5 38 i λl=>
 br (some l) (
 ae 73 c 2 λd=>
 ad H2 3 d λx=>
 bz H2 26 x0 b λq=>
 ae 62 q 2 λG=>
 ae 38 G 2 λJ=>
 ad H2 3 J λA=>
 LW H2 48 3 3 x A λI=>
 ae 73 c 2 λz=>
 aV H2 3 z I λU M=>
 jU (
  bP env.P .add 3 (Operand.tmp 11) (Operand.const (Value.int IntKind.i64 1)) (some b) (some (AV.v (Value.int IntKind.i64 1)))) λB=>
  bu env Tryz.f94 0 cW [(6,B),(5,c),(0,x0),(3,t),(4,j)] M Q) (
 jU (
  bP env.P .add 3 (Operand.tmp 11) (Operand.const (Value.int IntKind.i64 1)) (some b) (some (AV.v (Value.int IntKind.i64 1)))) λd=>
  bu env Tryz.f94 0 cW [(6,d),(5,c),(0,x0),(3,t),(4,j)] H2 Q)) (
 bz H 26 x0 b λo=>
 ae 62 o 0 λw=>
 ad H 5 w λh=>
 xX 5 38 h λp=>
 br (some p) (
 ae 73 c 2 λe=>
 ad H 3 e λn=>
 bz H 26 x0 b λu=>
 ae 62 u 2 λk=>
 ae 38 k 2 λm=>
 ad H 3 m λi=>
 LW H 48 3 3 n i λl=>
 ae 73 c 2 λd=>
 aV H 3 d l λx f=>
 jU (
  bP env.P .add 3 (Operand.tmp 11) (Operand.const (Value.int IntKind.i64 1)) (some b) (some (AV.v (Value.int IntKind.i64 1)))) λq=>
  bu env Tryz.f94 0 cW [(6,q),(5,c),(0,x0),(3,t),(4,j)] f Q) (
 jU (
  bP env.P .add 3 (Operand.tmp 11) (Operand.const (Value.int IntKind.i64 1)) (some b) (some (AV.v (Value.int IntKind.i64 1)))) λe=>
  bu env Tryz.f94 0 cW [(6,e),(5,c),(0,x0),(3,t),(4,j)] H Q)))) (
 ad H 73 c λK=>
 aV H 73 j K λL f=>
 jZ f j 73 λC=>
 Q C f)
theorem gC(b d x0 c e:AV)(H:aa)(Q:AV->aa->Prop)(h : ∀g,fa g b d x0 c e H Q):bu env Tryz.f94 0 cW [(6,b),(5,d),(0,x0),(3,c),(4,e)] H Q:=sU tf (by kernel_rfl) h
def bc:=sV Tryz.f99 3
def pU:Nat->Option (List Nat):=λi=>cond (Nat.beq i 3) (some [6,5,0,3,4]) (none)
def qf:Prop:=
 bF H 3 29 x1 λc i=>
 fM i 4 81 λh H2=>
 ad H2 29 c λd=>
 Fj 81 0 d λj=>
 fM H2 5 81 λb f=>
 aV f 81 b j λk e=>
  bu env Tryz.f99 0 bc [(6,(.v (.int .i64 0))),(5,b),(0,x0),(3,c),(4,h)] e Q
theorem xw(h : ∀g:ed,qf x0 x1 H Q):dP Tryz.f99 0 [(0,x0),(1,x1)] H Q:=vf pU (by kernel_rfl) h
def cE(g:Nat->AV)(e j x0 P N:AV)(H:aa)(Q:AV->aa->Prop):Prop:=
 eL H 11 26 x0 λv1=>
 dc 3 9 11 e v1 λv2=>
 br (some v2) (
 bz H 26 x0 e λv3=>
 ae 62 v3 2 λv4=>
 ae 38 v4 1 λZ=>
 ae 31 Z 0 λv6=>
 ad H 29 v6 λv7=>
 ad H 29 P λv8=>
 Ac 29 21 22 v7 v8 λv9=>
 br (some v9) (
 ef 3 13 1 e λT=>
  bu env Tryz.f99 0 bc [(6,T),(5,j),(0,x0),(3,P),(4,N)] H Q) (
 bz H 26 x0 e λT=>
 ae 62 T 0 λv11=>
 ad H 5 v11 λv12=>
 xY 5 28 v12 λv13=>
 br (some v13) (
 ae 81 j 1 λV=>
 ad H 3 V λY=>
 ef 3 31 1 Y λX=>
 ae 81 j 1 λU=>
 aV H 3 U X λS d=>
 bz d 26 x0 e λO=>
 ae 62 O 0 λK=>
 ad d 5 K λl=>
 xX 5 38 l λR=>
 br (some R) (
 ae 81 j 2 λw=>
 ad d 3 w λp=>
 ef 3 41 1 p λC=>
 ae 81 j 2 λc=>
 aV d 3 c C λG H2=>
 bz H2 26 x0 e λf=>
 ae 62 f 0 λA=>
 ad H2 5 A λu=>
 xX 5 48 u λi=>
 gQ i true (aU x0) λx=>
 gQ i true (aU e) λb=>
 gQ i true (rL H2 26 x b) λB=>
 gQ i true (ao 62 B 3) λy=>
 gQ i true (aq H2 42 y) λE=>
 gQ i true (rO 42 55 0 E) λn=>
 bD i n λh=>
 gQ h true (aU x0) λq=>
 gQ h true (aU e) λz=>
 gQ h true (rL H2 26 q z) λv=>
 gQ h true (ao 62 v 2) λk=>
 gQ h true (ao 38 k 0) λD=>
 gQ h true (aq H2 5 D) λt=>
 gQ h true (QI 5 64 t) λo=>
 bD h o λF=>
 br (some F) (
 ae 81 j 3 λm=>
 ad H2 3 m λM=>
 bz H2 26 x0 e λI=>
 ae 62 I 2 λL=>
 ae 38 L 3 λW=>
 ae 35 W 1 λJ=>
 ad H2 3 J λv53=>
 qM 3 68 75 M v53 λv54=>
 ae 81 j 3 λv55=>
 aV H2 3 v55 v54 λv56 H3=>
 ef 3 13 1 e λv57=>
  bu env Tryz.f99 0 bc [(6,v57),(5,j),(0,x0),(3,P),(4,N)] H3 Q) (
 ef 3 13 1 e λm=>
  bu env Tryz.f99 0 bc [(6,m),(5,j),(0,x0),(3,P),(4,N)] H2 Q)) (
 bz d 26 x0 e λw=>
 ae 62 w 0 λp=>
 ad d 5 p λC=>
 xX 5 48 C λc=>
 gQ c true (aU x0) λG=>
 gQ c true (aU e) λf=>
 gQ c true (rL d 26 G f) λA=>
 gQ c true (ao 62 A 3) λu=>
 gQ c true (aq d 42 u) λi=>
 gQ c true (rO 42 55 0 i) λx=>
 bD c x λb=>
 gQ b true (aU x0) λB=>
 gQ b true (aU e) λy=>
 gQ b true (rL d 26 B y) λE=>
 gQ b true (ao 62 E 2) λn=>
 gQ b true (ao 38 n 0) λh=>
 gQ b true (aq d 5 h) λq=>
 gQ b true (QI 5 64 q) λz=>
 bD b z λv=>
 br (some v) (
 ae 81 j 3 λk=>
 ad d 3 k λD=>
 bz d 26 x0 e λt=>
 ae 62 t 2 λo=>
 ae 38 o 3 λF=>
 ae 35 F 1 λm=>
 ad d 3 m λM=>
 qM 3 68 75 D M λI=>
 ae 81 j 3 λL=>
 aV d 3 L I λW H2=>
 ef 3 13 1 e λJ=>
  bu env Tryz.f99 0 bc [(6,J),(5,j),(0,x0),(3,P),(4,N)] H2 Q) (
 ef 3 13 1 e λk=>
  bu env Tryz.f99 0 bc [(6,k),(5,j),(0,x0),(3,P),(4,N)] d Q))) (
 bz H 26 x0 e λV=>
 ae 62 V 0 λY=>
 ad H 5 Y λX=>
 xX 5 38 X λU=>
 br (some U) (
 ae 81 j 2 λS=>
 ad H 3 S λO=>
 ef 3 41 1 O λK=>
 ae 81 j 2 λl=>
 aV H 3 l K λR d=>
 bz d 26 x0 e λw=>
 ae 62 w 0 λp=>
 ad d 5 p λC=>
 xX 5 48 C λc=>
 gQ c true (aU x0) λG=>
 gQ c true (aU e) λf=>
 gQ c true (rL d 26 G f) λA=>
 gQ c true (ao 62 A 3) λu=>
 gQ c true (aq d 42 u) λi=>
 gQ c true (rO 42 55 0 i) λx=>
 bD c x λb=>
 gQ b true (aU x0) λB=>
 gQ b true (aU e) λy=>
 gQ b true (rL d 26 B y) λE=>
 gQ b true (ao 62 E 2) λn=>
 gQ b true (ao 38 n 0) λh=>
 gQ b true (aq d 5 h) λq=>
 gQ b true (QI 5 64 q) λz=>
 bD b z λv=>
 br (some v) (
 ae 81 j 3 λk=>
 ad d 3 k λD=>
 bz d 26 x0 e λt=>
 ae 62 t 2 λo=>
 ae 38 o 3 λF=>
 ae 35 F 1 λm=>
 ad d 3 m λM=>
 qM 3 68 75 D M λI=>
 ae 81 j 3 λL=>
 aV d 3 L I λW H2=>
 ef 3 13 1 e λJ=>
  bu env Tryz.f99 0 bc [(6,J),(5,j),(0,x0),(3,P),(4,N)] H2 Q) (
 ef 3 13 1 e λk=>
  bu env Tryz.f99 0 bc [(6,k),(5,j),(0,x0),(3,P),(4,N)] d Q)) (
 bz H 26 x0 e λS=>
 ae 62 S 0 λO=>
 ad H 5 O λK=>
 xX 5 48 K λl=>
 gQ l true (aU x0) λR=>
 gQ l true (aU e) λw=>
 gQ l true (rL H 26 R w) λp=>
 gQ l true (ao 62 p 3) λC=>
 gQ l true (aq H 42 C) λc=>
 gQ l true (rO 42 55 0 c) λG=>
 bD l G λf=>
 gQ f true (aU x0) λA=>
 gQ f true (aU e) λu=>
 gQ f true (rL H 26 A u) λi=>
 gQ f true (ao 62 i 2) λx=>
 gQ f true (ao 38 x 0) λb=>
 gQ f true (aq H 5 b) λB=>
 gQ f true (QI 5 64 B) λy=>
 bD f y λE=>
 br (some E) (
 ae 81 j 3 λn=>
 ad H 3 n λh=>
 bz H 26 x0 e λq=>
 ae 62 q 2 λz=>
 ae 38 z 3 λv=>
 ae 35 v 1 λk=>
 ad H 3 k λD=>
 qM 3 68 75 h D λt=>
 ae 81 j 3 λo=>
 aV H 3 o t λF d=>
 ef 3 13 1 e λm=>
  bu env Tryz.f99 0 bc [(6,m),(5,j),(0,x0),(3,P),(4,N)] d Q) (
 ef 3 13 1 e λn=>
  bu env Tryz.f99 0 bc [(6,n),(5,j),(0,x0),(3,P),(4,N)] H Q))))) (
 ad H 81 j λv3=>
 aV H 81 N v3 λv4 d=>
 jZ d N 81 λZ=>
 Q Z d)
theorem cU(b d x0 c e:AV)(H:aa)(Q:AV->aa->Prop)(h : ∀g,cE g b d x0 c e H Q):bu env Tryz.f99 0 bc [(6,b),(5,d),(0,x0),(3,c),(4,e)] H Q:=sU pU (by kernel_rfl) h
def iy:=sV Tryz.f134 4
def iw:=sV Tryz.f134 9
def gU:=sV Tryz.f134 15
def jD:Nat->Option (List Nat):=λi=>cond (Nat.beq i 4) (some [3,1]) (cond (Nat.beq i 9) (some [4,1]) (cond (Nat.beq i 15) (some [6,1,5]) (none)))
def ql:Prop:=
 bF H 1 25 x0 λe d=>
 ae 25 e 0 λq=>
 ad d 22 q λx=>
 eL d 9 22 x λw=>
 CY 3 9 8 w λf=>
 gQ f false (ao 25 e 1) λp=>
 gQ f false (aq d 23 p) λt=>
 gQ f false (xW d 14 23 t) λu=>
 gQ f false (Ad 3 14 8 u) λo=>
 eg f o λb=>
 gQ b false (ao 25 e 2) λh=>
 gQ b false (aq d 3 h) λi=>
 gQ b false (CX 3 19 0 i) λm=>
 eg b m λc=>
 gQ c false (ao 25 e 2) λj=>
 gQ c false (aq d 3 j) λn=>
 gQ c false (Ad 3 24 64 n) λk=>
 eg c k λl=>
 br (some l) (
 Q (.v (.bool false)) d) (
  bu env Tryz.f134 0 iy [(3,(.v (.int .i64 0))),(1,e)] d Q)
theorem xD(h : ∀g:ed,ql x0 H Q):dP Tryz.f134 0 [(0,x0)] H Q:=vf jD (by kernel_rfl) h
def lg(g:Nat->AV)(d x1:AV)(H:aa)(Q:AV->aa->Prop):Prop:=
 ae 25 x1 0 λj=>
 ad H 22 j λh=>
 eL H 30 22 h λo=>
 dc 3 27 30 d o λl=>
 br (some l) (
 ae 25 x1 0 λm=>
 ad H 22 m λn=>
 bz H 22 n d λi=>
 ad H 58 i λk=>
 bw true H 39 178 [k] λf e=>
 kz f λc=>
 br (some c) (
 Q (.v (.bool false)) e) (
 ef 3 32 1 d λb=>
  bu env Tryz.f134 0 iy [(3,b),(1,x1)] e Q)) (
  bu env Tryz.f134 0 iw [(4,(.v (.int .i64 0))),(1,x1)] H Q)
theorem oJ(b x1:AV)(H:aa)(Q:AV->aa->Prop)(h : ∀g,lg g b x1 H Q):bu env Tryz.f134 0 iy [(3,b),(1,x1)] H Q:=sU jD (by kernel_rfl) h
def iH(g:Nat->AV)(e x1:AV)(H:aa)(Q:AV->aa->Prop):Prop:=
 ae 25 x1 1 λK=>
 ad H 23 K λD=>
 eL H 44 23 D λM=>
 dc 3 41 44 e M λL=>
 br (some L) (
 ae 25 x1 1 λI=>
 ad H 23 I λG=>
 bz H 23 G e λE=>
 ad H 81 E λF=>
 bw false H 53 179 [F] λJ d=>
 kz J λc=>
 gQ c false (aU e) λm=>
 gQ c false (Ad 3 56 0 m) λo=>
 gQ c false (aU o) λb=>
 gQ b true (ao 25 x1 1) λy=>
 gQ b true (aq d 23 y) λh=>
 gQ b true (aU e) λA=>
 gQ b true (Ub 3 61 1 A) λj=>
 gQ b true (rL d 23 h j) λz=>
 gQ b true (ao 81 z 0) λw=>
 gQ b true (aq d 29 w) λn=>
 gQ b true (ao 25 x1 1) λx=>
 gQ b true (aq d 23 x) λl=>
 gQ b true (aU e) λu=>
 gQ b true (rL d 23 l u) λi=>
 gQ b true (ao 81 i 0) λC=>
 gQ b true (aq d 29 C) λB=>
 gW b true d (fm false d 72 180 [n,B]) λp H2=>
 gQ b true (sY p) λt=>
 gQ c false (JK b t) λk=>
 eg c k λq=>
 br (some q) (
 Q (.v (.bool false)) H2) (
 ef 3 46 1 e λf=>
  bu env Tryz.f134 0 iw [(4,f),(1,x1)] H2 Q)) (
  bu env Tryz.f134 0 gU [(6,(.v (.int .i64 0))),(1,x1),(5,(.v (.int .i64 0)))] H Q)
theorem oI(b x1:AV)(H:aa)(Q:AV->aa->Prop)(h : ∀g,iH g b x1 H Q):bu env Tryz.f134 0 iw [(4,b),(1,x1)] H Q:=sU jD (by kernel_rfl) h
def kR(g:Nat->AV)(h x1 k:AV)(H:aa)(Q:AV->aa->Prop):Prop:=
 ae 25 x1 1 λn=>
 ad H 23 n λl=>
 eL H 79 23 l λp=>
 dc 3 76 79 h p λo=>
 br (some o) (
 ae 25 x1 1 λi=>
 ad H 23 i λj=>
 bz H 23 j h λc=>
 ae 81 c 3 λf=>
 ad H 3 f λe=>
 qM 3 83 89 k e λb=>
 ef 3 81 1 h λd=>
  bu env Tryz.f134 0 gU [(6,d),(1,x1),(5,b)] H Q) (
 ad H 25 x1 λi=>
 bw true H 92 181 [i] λj m=>
 Ud 3 92 2048 j λc=>
 gQ c true (aU k) λf=>
 gQ c true (Ae 3 95 8192 f) λe=>
 bD c e λb=>
 Q b m)
theorem oa(b x1 c:AV)(H:aa)(Q:AV->aa->Prop)(h : ∀g,kR g b x1 c H Q):bu env Tryz.f134 0 gU [(6,b),(1,x1),(5,c)] H Q:=sU jD (by kernel_rfl) h
def fk:Prop:=
 bF H 1 35 x0 λc q=>
 ae 35 c 0 λw=>
 ad q 33 w λz=>
 bw true q 5 140 [z] λe H2=>
 gQ e true (ao 35 c 1) λy=>
 gQ e true (aq H2 3 y) λu=>
 gQ e true (wD 3 8 1 u) λx=>
 bD e x λd=>
 gQ d true (ao 35 c 1) λt=>
 gQ d true (aq H2 3 t) λi=>
 gQ d true (Ae 3 13 64 i) λf=>
 bD d f λb=>
 gQ b true (ao 35 c 0) λo=>
 gQ b true (ao 33 o 1) λm=>
 gQ b true (aq H2 3 m) λj=>
 gQ b true (ao 35 c 1) λp=>
 gQ b true (aq H2 3 p) λk=>
 gQ b true (bP env.P .sub 3 (Operand.const (Value.int IntKind.i64 1099511627777)) (Operand.tmp 21) (some (AV.v (Value.int IntKind.i64 1099511627777))) (some k)) λn=>
 gQ b true (bP env.P .leq 3 (Operand.tmp 19) (Operand.tmp 22) (some j) (some n)) λl=>
 bD b l λh=>
 Q h H2
theorem vF(h : ∀g:ed,fk x0 H Q):dP Tryz.f138 0 [(0,x0)] H Q:=iP (by kernel_rfl) h
def rr:Prop:=
 bF H 1 33 x0 λf b=>
 ad b 33 f λc=>
 rK 33 λe=>
 rM 33 3 4 c e λd=>
 Q d b
theorem yw(h : ∀g:ed,rr x0 H Q):dP Tryz.f139 0 [(0,x0)] H Q:=iP (by kernel_rfl) h
def sO:Prop:=
 bF H 1 33 x0 λh i=>
 ae 33 h 0 λm=>
 ad i 31 m λk=>
 bw true i 5 93 [k] λc H2=>
 gQ c true (ao 33 h 1) λo=>
 gQ c true (aq H2 3 o) λn=>
 gQ c true (wD 3 8 1 n) λj=>
 bD c j λb=>
 gQ b true (ao 33 h 1) λl=>
 gQ b true (aq H2 3 l) λf=>
 gQ b true (Ae 3 13 1099511627776 f) λd=>
 bD b d λe=>
 Q e H2
theorem zr(h : ∀g:ed,sO x0 H Q):dP Tryz.f140 0 [(0,x0)] H Q:=iP (by kernel_rfl) h
def iz:=sV Tryz.f141 4
def p5:Nat->Option (List Nat):=λi=>cond (Nat.beq i 4) (some [3,0]) (none)
def mq:Prop:=
 eL H 5 36 x0 λc=>
 CY 3 5 64 c λb=>
 br (some b) (
 Q (.v (.int .i64 4)) H) (
  bu env Tryz.f141 0 iz [(3,(.v (.int .i64 0))),(0,x0)] H Q)
theorem xG(h : ∀g:ed,mq x0 H Q):dP Tryz.f141 0 [(0,x0)] H Q:=vf p5 (by kernel_rfl) h
def fl(g:Nat->AV)(c x0:AV)(H:aa)(Q:AV->aa->Prop):Prop:=
 eL H 9 36 x0 λn=>
 dc 3 7 9 c n λl=>
 br (some l) (
 bz H 36 x0 c λt=>
 ad H 21 t λp=>
 ZL 21 16 p λb=>
 gQ b true (aU x0) λq=>
 gQ b true (aU c) λm=>
 gQ b true (rL H 36 q m) λo=>
 gQ b true (aq H 21 o) λk=>
 gQ b true (eE env.P (aa.get H) (Ref.mk 0 23 (aa.gen H 0 23) 0) 21 3 (some k)) λf=>
 gW b true H (fm true H 24 194 [f]) λd j=>
 gQ b true (sY d) λe=>
 bD b e λi=>
 br (some i) (
 Q (.v (.int .i64 8)) j) (
 ef 3 11 1 c λh=>
  bu env Tryz.f141 0 iz [(3,h),(0,x0)] j Q)) (
 Q (.v (.int .i64 0)) H)
theorem oK(b x0:AV)(H:aa)(Q:AV->aa->Prop)(h : ∀g,fl g b x0 H Q):bu env Tryz.f141 0 iz [(3,b),(0,x0)] H Q:=sU p5 (by kernel_rfl) h
def iq:=sV Tryz.f142 9
def dx:=sV Tryz.f142 16
def me:Nat->Option (List Nat):=λi=>cond (Nat.beq i 9) (some [7,6,5,3,0]) (cond (Nat.beq i 16) (some [8,3,6,5,0]) (none))
def dw:Prop:=
 bF H 3 38 x1 λc G=>
 bw true G 10 195 [x0] λh H2=>
 ae 38 c 3 λN=>
 ad H2 35 N λM=>
 bw true H2 13 196 [M] λE d=>
 ae 38 c 0 λK=>
 ad d 5 K λI=>
 xY 5 15 I λJ=>
 br (some J) (
 ae 38 c 4 λL=>
 ad d 33 L λf=>
 rK 33 λn=>
 Ac 33 18 19 f n λb=>
 gQ b true (aU h) λA=>
 gQ b true (ao 38 c 4) λy=>
 gQ b true (aq d 33 y) λi=>
 gQ b true (ao 38 c 1) λB=>
 gQ b true (ao 31 B 0) λk=>
 gQ b true (aq d 29 k) λz=>
 gW b true d (fm true d 28 197 [A,i,z]) λw e=>
 gQ b true (sY w) λo=>
 bD b o λx=>
 br (some x) (
 Q (.v (.int .i64 6)) e) (
 ae 38 c 3 λm=>
 ad e 35 m λu=>
 ae 38 c 4 λj=>
 ad e 33 j λD=>
 ae 38 c 6 λC=>
 ad e 36 C λp=>
 LS 249 0 u 1 D 2 p λt=>
 bw true e 38 198 [t] λl F=>
 kz l λq=>
 br (some q) (
 Q (.v (.int .i64 2)) F) (
  bu env Tryz.f142 0 iq [(7,(.v (.int .i64 0))),(6,E),(5,h),(3,c),(0,x0)] F Q))) (
  bu env Tryz.f142 0 dx [(8,(.v (.int .i64 0))),(3,c),(6,E),(5,h),(0,x0)] d Q)
theorem xz(h : ∀g:ed,dw x0 x1 H Q):dP Tryz.f142 0 [(0,x0),(1,x1)] H Q:=vf me (by kernel_rfl) h
def fj(g:Nat->AV)(d b c k x0:AV)(H:aa)(Q:AV->aa->Prop):Prop:=
 eL H 42 244 b λn=>
 dc 3 40 42 d n λl=>
 br (some l) (
 bz H 244 b d λi=>
 ad H 33 i λe=>
 bw true H 51 199 [c,e] λf j=>
 wF 3 51 0 f λh=>
 br (some h) (
 Q (.v (.int .i64 2)) j) (
 ef 3 44 1 d λm=>
  bu env Tryz.f142 0 iq [(7,m),(6,b),(5,c),(3,k),(0,x0)] j Q)) (
 eL H 54 242 c λi=>
 eL H 56 244 b λe=>
 qM 3 54 56 i e λf=>
 CY 3 57 8192 f λh=>
 br (some h) (
 Q (
  .v (.int .i64 4)) H) (
  bu env Tryz.f142 0 dx [(8,(.v (.int .i64 0))),(3,k),(6,b),(5,c),(0,x0)] H Q))
theorem oE(e b d c x0:AV)(H:aa)(Q:AV->aa->Prop)(h : ∀g,fj g e b d c x0 H Q):bu env Tryz.f142 0 iq [(7,e),(6,b),(5,d),(3,c),(0,x0)] H Q:=sU me (by kernel_rfl) h
def aD(g:Nat->AV)(o e y K x0:AV)(H:aa)(Q:AV->aa->Prop):Prop:=
 eL H 61 244 y λN=>
 dc 3 59 61 o N λm=>
 gQ m true (ao 38 e 0) λR=>
 gQ m true (aq H 5 R) λO=>
 gQ m true (bP env.P .neq 5 (Operand.tmp 65) (.const (.int .u8 1)) (some O) (some (a8 1))) λM=>
 bD m M λL=>
 br (some L) (
 bz H 244 y o λu=>
 ad H 33 u λw=>
 ae 38 e 1 λc=>
 ae 31 c 0 λf=>
 ad H 29 f λi=>
 bw false H 78 197 [K,w,i] λj h=>
 kz j λl=>
 br (some l) (
 Q (.v (.int .i64 6)) h) (
 ef 3 68 1 o λk=>
  bu env Tryz.f142 0 dx [(8,k),(3,e),(6,y),(5,K),(0,x0)] h Q)) (
 ae 38 e 0 λu=>
 ad H 5 u λw=>
 xX 5 81 w λc=>
 gQ c true (ao 38 e 3) λf=>
 gQ c true (ao 35 f 0) λi=>
 gQ c true (ao 33 i 0) λj=>
 gQ c true (ao 31 j 0) λl=>
 gQ c true (aq H 29 l) λk=>
 gQ c true (ao 38 e 1) λp=>
 gQ c true (ao 31 p 0) λG=>
 gQ c true (aq H 29 G) λt=>
 gQ c true (QF 29 88 91 k t) λF=>
 bD c F λb=>
 gQ b false (ao 38 e 0) λA=>
 gQ b false (aq H 5 A) λE=>
 gQ b false (bP env.P .eql 5 (Operand.tmp 96) (.const (.int .u8 3)) (some E) (some (a8 3))) λz=>
 gQ b false (aU z) λd=>
 gQ d true (aU x0) λq=>
 gQ d true (aq H 38 e) λJ=>
 gW d true H (fm true H 101 200 [q,J]) λI h=>
 gQ d true (sY I) λB=>
 gQ b false (JK d B) λD=>
 eg b D λx=>
 br (some x) (
 Q (.v (.int .i64 2)) h) (
 eL h 106 41 x0 λC=>
 wF 3 106 2048 C λn=>
 br (some n) (
 Q (.v (.int .i64 4)) h) (
 Q (.v (.int .i64 0)) h)))
theorem n7(d c b e x0:AV)(H:aa)(Q:AV->aa->Prop)(h : ∀g,aD g d c b e x0 H Q):bu env Tryz.f142 0 dx [(8,d),(3,c),(6,b),(5,e),(0,x0)] H Q:=sU me (by kernel_rfl) h
def kf:=sV Tryz.f143 2
def tj:Nat->Option (List Nat):=λi=>cond (Nat.beq i 2) (some [4,5,2,3]) (none)
def tv:Prop:=
 bF H 2 25 x0 λf c=>
 bF c 3 29 x1 λb H2=>
 fM H2 4 81 λd e=>
  bu env Tryz.f143 0 kf [(4,d),(5,(.v (.int .i64 0))),(2,f),(3,b)] e Q
theorem AE(h : ∀g:ed,tv x0 x1 H Q):dP Tryz.f143 0 [(0,x0),(1,x1)] H Q:=vf tj (by kernel_rfl) h
def m6(g:Nat->AV)(d e a o:AV)(H:aa)(Q:AV->aa->Prop):Prop:=
 ae 25 a 1 λv=>
 ad H 23 v λu=>
 eL H 9 23 u λy=>
 dc 3 6 9 e y λw=>
 br (some w) (
 ae 25 a 1 λn=>
 ad H 23 n λi=>
 bz H 23 i e λq=>
 ae 81 q 0 λl=>
 ad H 29 l λt=>
 ad H 29 o λh=>
 rM 29 18 19 t h λf=>
 br (some f) (
 ae 25 a 1 λb=>
 ad H 23 b λp=>
 bz H 23 p e λm=>
 ad H 81 m λj=>
 aV H 81 d j λx c=>
 jZ c d 81 λk=>
 Q k c) (
 ef 3 11 1 e λb=>
  bu env Tryz.f143 0 kf [(4,d),(5,b),(2,a),(3,o)] H Q)) (
 ad H 29 o λn=>
 Fj 81 0 n λi=>
 aV H 81 d i λq c=>
 jZ c d 81 λl=>
 Q l c)
theorem qU(b d a c:AV)(H:aa)(Q:AV->aa->Prop)(h : ∀g,m6 g b d a c H Q):bu env Tryz.f143 0 kf [(4,b),(5,d),(2,a),(3,c)] H Q:=sU tj (by kernel_rfl) h
def jI:=sV Tryz.f144 2
def sg:Nat->Option (List Nat):=λi=>cond (Nat.beq i 2) (some [5,3,2]) (none)
def sS:Prop:=
 bF H 2 29 x0 λd c=>
 bF c 3 29 x1 λb H2=>
  bu env Tryz.f144 0 jI [(5,(.v (.int .i64 0))),(3,b),(2,d)] H2 Q
theorem zy(h : ∀g:ed,sS x0 x1 H Q):dP Tryz.f144 0 [(0,x0),(1,x1)] H Q:=vf sg (by kernel_rfl) h
def mr(g:Nat->AV)(c h a:AV)(H:aa)(Q:AV->aa->Prop):Prop:=
 Gu 3 6 32 c λn=>
 br (some n) (
 ad H 29 a λd=>
 bw true H 12 201 [d,c] λb e=>
 gQ b true (aq e 29 h) λf=>
 gQ b true (aU c) λi=>
 gW b true e (fm true e 16 201 [f,i]) λj H2=>
 gQ b true (sY j) λl=>
 bD b l λm=>
 br (some m) (
 Q (.v (.bool false)) H2) (
 ef 3 8 1 c λk=>
  bu env Tryz.f144 0 jI [(5,k),(3,h),(2,a)] H2 Q)) (
 ae 29 a 0 λd=>
 ad H 5 d λb=>
 ae 29 h 0 λf=>
 ad H 5 f λi=>
 jU (bP env.P .leq 5 (Operand.tmp 20) (Operand.tmp 22) (some b) (some i)) λj=>
 Q j H)
theorem pP(c b a:AV)(H:aa)(Q:AV->aa->Prop)(h : ∀g,mr g c b a H Q):bu env Tryz.f144 0 jI [(5,c),(3,b),(2,a)] H Q:=sU sg (by kernel_rfl) h
def rp:Prop:=
 bF H 1 38 x0 λb h=>
 rK 31 λf=>
 ae 38 b 1 λd=>
 aV h 31 d f λk H2=>
 ad H2 38 b λj=>
 rK 38 λi=>
 bw true H2 7 62 [j,i] λc e=>
 Q c e
theorem yr(h : ∀g:ed,rp x0 H Q):dP Tryz.f154 0 [(0,x0)] H Q:=iP (by kernel_rfl) h
def iv:=sV Tryz.f155 2
def pZ:Nat->Option (List Nat):=λi=>cond (Nat.beq i 2) (some [3,1]) (none)
def qj:Prop:=
 bF H 1 38 x0 λc b=>
  bu env Tryz.f155 0 iv [(3,(.v (.int .i64 0))),(1,c)] b Q
theorem xC(h : ∀g:ed,qj x0 H Q):dP Tryz.f155 0 [(0,x0)] H Q:=vf pZ (by kernel_rfl) h
def iG(g:Nat->AV)(c x1:AV)(H:aa)(Q:AV->aa->Prop):Prop:=
 ae 38 x1 6 λh=>
 ad H 36 h λe=>
 eL H 7 36 e λm=>
 dc 3 4 7 c m λj=>
 br (some j) (
 ae 38 x1 6 λk=>
 ad H 36 k λl=>
 bz H 36 l c λf=>
 ad H 21 f λi=>
 jU (bP env.P .eql 21 (Operand.tmp 15) (.const (.int .i32 (-1))) (some i) (some (.v (.int .i32 (-1))))) λd=>
 br (some d) (
 Q (.v (.bool false)) H) (
 ef 3 9 1 c λb=>
  bu env Tryz.f155 0 iv [(3,b),(1,x1)] H Q)) (
 Q (.v (.bool true)) H)
theorem oH(b x1:AV)(H:aa)(Q:AV->aa->Prop)(h : ∀g,iG g b x1 H Q):bu env Tryz.f155 0 iv [(3,b),(1,x1)] H Q:=sU pZ (by kernel_rfl) h
def sL:Prop:=
 bF H 1 60 x0 λi b=>
 ae 60 i 0 λm=>
 ad b 3 m λj=>
 wF 3 4 0 j λd=>
 gQ d true (ao 60 i 0) λo=>
 gQ d true (aq b 3 o) λl=>
 gQ d true (CX 3 8 8 l) λn=>
 bD d n λc=>
 gQ c true (ao 60 i 1) λk=>
 gQ c true (aq b 58 k) λh=>
 gW c true b (fm true b 14 178 [h]) λe H2=>
 bD c e λf=>
 Q f H2
theorem zo(h : ∀g:ed,sL x0 H Q):dP Tryz.f156 0 [(0,x0)] H Q:=iP (by kernel_rfl) h
def fJ:Prop:=
 bF H 2 25 x0 λc I=>
 bF I 3 60 x1 λn H2=>
 fM H2 4 25 λi b=>
 ae 60 n 0 λT=>
 ad b 3 T λM=>
 ae 25 c 0 λL=>
 ad b 22 L λJ=>
 eL b 10 22 J λK=>
 jU (bP env.P .geq 3 (Operand.tmp 7) (Operand.tmp 10) (some M) (some K)) λN=>
 br (some N) (
 ad b 25 c λd=>
 aV b 25 i d λk e=>
 jZ e i 25 λf=>
 Q (.tup [f,(.v (.int .i64 2))]) e) (
 ae 25 c 2 λd=>
 ad b 3 d λk=>
 Af 3 14 0 k λf=>
 br (some f) (
 ad b 25 c λh=>
 aV b 25 i h λl e=>
 jZ e i 25 λj=>
 Q (.tup [j,(.v (.int .i64 9))]) e) (
 ad b 25 c λh=>
 bw true b 18 204 [h] λl e=>
 aV e 25 c l λj m=>
 ae 25 c 0 λB=>
 ad m 22 B λq=>
 ae 60 n 0 λA=>
 ad m 3 A λy=>
 ae 60 n 1 λw=>
 ad m 58 w λz=>
 bz m 22 q y λu=>
 aV m 58 u z λS G=>
 ae 25 c 2 λp=>
 ad G 3 p λD=>
 Gt 3 27 1 D λC=>
 ae 25 c 2 λx=>
 aV G 3 x C λR F=>
 ad F 25 c λt=>
 aV F 25 i t λO E=>
 jZ E i 25 λo=>
 Q (.tup [o,(.v (.int .i64 0))]) E))
theorem lJ(h : ∀g:ed,fJ x0 x1 H Q):dP Tryz.f157 0 [(0,x0),(1,x1)] H Q:=iP (by kernel_rfl) h
def mo:Prop:=
 bF H 3 25 x0 λn A=>
 bF A 5 29 a λz H2=>
 wF 3 7 0 x1 λd=>
 gQ d true (aU x1) λD=>
 gQ d true (ao 25 n 0) λE=>
 gQ d true (aq H2 22 E) λy=>
 gQ d true (xW H2 13 22 y) λB=>
 gQ d true (Gp 3 10 13 D B) λC=>
 bD d C λc=>
 gQ c true (ao 25 n 0) λi=>
 gQ c true (aq H2 22 i) λe=>
 gQ c true (aU x1) λh=>
 gQ c true (rL H2 22 e h) λv=>
 gQ c true (ao 58 v 1) λq=>
 gQ c true (aq H2 4 q) λj=>
 bD c j λb=>
 gQ b true (aq H2 29 z) λl=>
 gQ b true (ao 25 n 0) λt=>
 gQ b true (aq H2 22 t) λo=>
 gQ b true (aU x1) λf=>
 gQ b true (rL H2 22 o f) λp=>
 gQ b true (ao 58 p 0) λu=>
 gQ b true (aq H2 29 u) λm=>
 gW b true H2 (fm false H2 32 144 [l,m]) λk x=>
 bD b k λw=>
 Q w x
theorem xE(h : ∀g:ed,mo x0 x1 a H Q):dP Tryz.f158 0 [(0,x0),(1,x1),(2,a)] H Q:=iP (by kernel_rfl) h
def oy:Prop:=
 bF H 1 58 x0 λi j=>
 ae 58 i 0 λn=>
 ad j 29 n λk=>
 bw true j 5 78 [k] λc H2=>
 gQ c true (ao 58 i 1) λp=>
 gQ c true (aq H2 4 p) λo=>
 gQ c true (aU o) λb=>
 gQ b false (ao 58 i 0) λm=>
 gQ b false (aq H2 29 m) λl=>
 gQ b false (QE 29) λf=>
 gQ b false (kb 29 11 12 l f) λd=>
 gQ c true (LU b d) λe=>
 bD c e λh=>
 Q h H2
theorem uZ(h : ∀g:ed,oy x0 H Q):dP Tryz.f178 0 [(0,x0)] H Q:=iP (by kernel_rfl) h
def sM:Prop:=
 bF H 1 81 x0 λf A=>
 ae 81 f 0 λD=>
 ad A 29 D λG=>
 bw true A 5 78 [G] λi H2=>
 gQ i true (ao 81 f 1) λF=>
 gQ i true (aq H2 3 F) λC=>
 gQ i true (wD 3 8 0 C) λE=>
 bD i E λh=>
 gQ h true (ao 81 f 1) λB=>
 gQ h true (aq H2 3 B) λl=>
 gQ h true (Ae 3 13 64 l) λj=>
 bD h j λc=>
 gQ c true (ao 81 f 2) λx=>
 gQ c true (aq H2 3 x) λu=>
 gQ c true (wD 3 18 0 u) λm=>
 bD c m λe=>
 gQ e true (ao 81 f 2) λn=>
 gQ e true (aq H2 3 n) λv=>
 gQ e true (Ae 3 23 256 v) λq=>
 bD e q λb=>
 gQ b true (ao 81 f 3) λt=>
 gQ b true (aq H2 3 t) λw=>
 gQ b true (wD 3 28 0 w) λo=>
 bD b o λd=>
 gQ d true (ao 81 f 3) λz=>
 gQ d true (aq H2 3 z) λy=>
 gQ d true (Ae 3 33 4096 y) λk=>
 bD d k λp=>
 Q p H2
theorem zp(h : ∀g:ed,sM x0 H Q):dP Tryz.f179 0 [(0,x0)] H Q:=iP (by kernel_rfl) h
def qn:Prop:=
 bF H 2 29 x0 λn q=>
 bF q 3 29 x1 λm H2=>
 ae 29 n 0 λx=>
 ad H2 5 x λv=>
 qN H2 7 5 3 v λw=>
 ZQ 3 7 4294967296 w λp=>
 ae 29 n 1 λt=>
 ad H2 27 t λu=>
 qN H2 11 27 3 u λo=>
 qM 3 8 11 p o λd=>
 ae 29 m 0 λb=>
 ad H2 5 b λc=>
 qN H2 15 5 3 c λk=>
 ZQ 3 15 4294967296 k λi=>
 ae 29 m 1 λe=>
 ad H2 27 e λl=>
 qN H2 19 27 3 l λf=>
 qM 3 16 19 i f λj=>
 dc 3 12 20 d j λh=>
 Q h H2
theorem xH(h : ∀g:ed,qn x0 x1 H Q):dP Tryz.f180 0 [(0,x0),(1,x1)] H Q:=iP (by kernel_rfl) h
def jG:=sV Tryz.f181 3
def sd:Nat->Option (List Nat):=λi=>cond (Nat.beq i 3) (some [4,1,3]) (none)
def sN:Prop:=
 bF H 1 25 x0 λc b=>
 ae 25 c 2 λd=>
 ad b 3 d λe=>
  bu env Tryz.f181 0 jG [(4,(.v (.int .i64 0))),(1,c),(3,e)] b Q
theorem zq(h : ∀g:ed,sN x0 H Q):dP Tryz.f181 0 [(0,x0)] H Q:=vf sd (by kernel_rfl) h
def mm(g:Nat->AV)(b x1 m:AV)(H:aa)(Q:AV->aa->Prop):Prop:=
 ae 25 x1 1 λt=>
 ad H 23 t λp=>
 eL H 10 23 p λx=>
 dc 3 7 10 b x λv=>
 br (some v) (
 ae 25 x1 1 λw=>
 ad H 23 w λo=>
 bz H 23 o b λq=>
 ae 81 q 1 λu=>
 ad H 3 u λn=>
 qM 3 14 20 m n λe=>
 ae 25 x1 1 λc=>
 ad H 23 c λd=>
 bz H 23 d b λk=>
 ae 81 k 2 λi=>
 ad H 3 i λf=>
 Uc 3 4 27 f λl=>
 qM 3 21 28 e l λh=>
 ef 3 12 1 b λj=>
  bu env Tryz.f181 0 jG [(4,j),(1,x1),(3,h)] H Q) (
 Q m H)
theorem pM(b x1 c:AV)(H:aa)(Q:AV->aa->Prop)(h : ∀g,mm g b x1 c H Q):bu env Tryz.f181 0 jG [(4,b),(1,x1),(3,c)] H Q:=sU sd (by kernel_rfl) h
def tw:Prop:=
 wF 3 3 0 x0 λc=>
 gQ c true (aU x0) λk=>
 gQ c true (Ae 3 6 1114111 k) λh=>
 bD c h λb=>
 gQ b true (aU x0) λl=>
 gQ b true (CX 3 10 55296 l) λj=>
 gQ b true (aU j) λf=>
 gQ f false (aU x0) λm=>
 gQ f false (Ad 3 13 57343 m) λi=>
 gQ b true (LU f i) λe=>
 bD b e λd=>
 Q d H
theorem AF(h : ∀g:ed,tw x0 H Q):dP Tryz.f194 0 [(0,x0)] H Q:=iP (by kernel_rfl) h
def yY:Code:=(Tryz.f195.body).getD .skip
def fE:=sV Tryz.f195 3
def qZ:Nat->Option (List Nat):=λi=>cond (Nat.beq i 3) (some [4,3,0]) (none)
def ri:Prop:=
 bu env Tryz.f195 0 fE [(4,(.v (.int .i64 0))),(3,(.v (.slice none 0 0))),(0,x0)] H Q
theorem yn(h : ∀g:ed,ri x0 H Q):dP Tryz.f195 0 [(0,x0)] H Q:=vf qZ (by kernel_rfl) h
def fI(g:Nat->AV)(b h x0:AV)(H:aa)(Q:AV->aa->Prop):Prop:=
 eL H 8 41 x0 λC=>
 dc 3 6 8 b C λv=>
 br (some v) (
 bz H 41 x0 b λG=>
 ae 38 G 0 λE=>
 ad H 5 E λz=>
 xY 5 16 z λy=>
 br (some y) (
 bz H 41 x0 b λf=>
 ae 38 f 3 λx=>
 ad H 35 x λB=>
 bz H 41 x0 b λd=>
 ae 38 d 4 λj=>
 ad H 33 j λl=>
 bz H 41 x0 b λq=>
 ae 38 q 6 λp=>
 ad H 36 p λe=>
 LS 249 0 B 1 l 2 e λt=>
 fM H 5 249 λc w=>
 aV w 249 c t λF H2=>
 ad H2 249 c λn=>
 rN H2 36 273 1 0 n λk u=>
 bw true u 37 221 [k] λo A=>
 mv A 38 242 242 h o λi D=>
 ef 3 10 1 b λm=>
  bu env Tryz.f195 0 fE [(4,m),(3,i),(0,x0)] D Q) (
 ef 3 10 1 b λf=>
  bu env Tryz.f195 0 fE [(4,f),(3,h),(0,x0)] H Q)) (
 Q h H)
theorem iW(b c x0:AV)(H:aa)(Q:AV->aa->Prop)(h : ∀g,fI g b c x0 H Q):bu env Tryz.f195 0 fE [(4,b),(3,c),(0,x0)] H Q:=sU qZ (by kernel_rfl) h
def jH:=sV Tryz.f196 3
def sf:Nat->Option (List Nat):=λi=>cond (Nat.beq i 3) (some [4,1,3]) (none)
def sP:Prop:=
 bF H 1 35 x0 λc b=>
  bu env Tryz.f196 0 jH [(4,(.v (.int .i64 0))),(1,c),(3,(.v (.slice none 0 0)))] b Q
theorem zt(h : ∀g:ed,sP x0 H Q):dP Tryz.f196 0 [(0,x0)] H Q:=vf sf (by kernel_rfl) h
def jN(g:Nat->AV)(h x1 i:AV)(H:aa)(Q:AV->aa->Prop):Prop:=
 ae 35 x1 1 λn=>
 ad H 3 n λk=>
 dc 3 5 7 h k λu=>
 br (some u) (
 ae 35 x1 0 λp=>
 ae 33 p 0 λq=>
 ad H 31 q λt=>
 ae 35 x1 0 λm=>
 ae 33 m 1 λo=>
 ad H 3 o λj=>
 qM 3 17 18 j h λd=>
 jU (nz env.P 33 (some [(0,t),(1,d)])) λb=>
 rN H 21 244 1 0 b λc l=>
 mv l 22 244 244 i c λf H2=>
 ef 3 9 1 h λe=>
  bu env Tryz.f196 0 jH [(4,e),(1,x1),(3,f)] H2 Q) (
 Q i H)
theorem pN(b x1 c:AV)(H:aa)(Q:AV->aa->Prop)(h : ∀g,jN g b x1 c H Q):bu env Tryz.f196 0 jH [(4,b),(1,x1),(3,c)] H Q:=sU sf (by kernel_rfl) h
def m5:Prop:=
 bF H 4 33 x1 λf n=>
 bF n 5 29 a λm H2=>
 ad H2 33 f λi=>
 bw true H2 9 199 [x0,i] λo c=>
 wF 3 9 0 o λb=>
 gQ b true (ao 33 f 0) λp=>
 gQ b true (ao 31 p 0) λh=>
 gQ b true (aq c 29 h) λl=>
 gQ b true (aq c 29 m) λk=>
 gW b true c (fm true c 16 144 [l,k]) λe j=>
 bD b e λd=>
 Q d j
theorem ym(h : ∀g:ed,m5 x0 x1 a H Q):dP Tryz.f197 0 [(0,x0),(1,x1),(2,a)] H Q:=iP (by kernel_rfl) h
def fx:Prop:=
 bF H 1 249 x0 λf L=>
 ae 249 f 0 λM=>
 ad L 35 M λT=>
 bw true L 5 138 [T] λS H2=>
 kz S λe=>
 gQ e false (ao 249 f 2) λP=>
 gQ e false (aq H2 36 P) λN=>
 gQ e false (xW H2 10 36 N) λO=>
 gQ e false (ao 249 f 0) λR=>
 gQ e false (ao 35 R 1) λi=>
 gQ e false (aq H2 3 i) λu=>
 gQ e false (QF 3 10 13 O u) λx=>
 eg e x λd=>
 gQ d false (ao 249 f 2) λD=>
 gQ d false (aq H2 36 D) λk=>
 gW d false H2 (fm true H2 19 141 [k]) λJ h=>
 gQ d false (Gs 3 19 0 J) λm=>
 eg d m λF=>
 br (some F) (
 Q (.v (.bool false)) h) (
 ae 249 f 1 λC=>
 ad h 33 C λw=>
 bw true h 24 222 [w] λc t=>
 gQ c false (ao 249 f 1) λp=>
 gQ c false (aq t 33 p) λB=>
 gW c false t (fm true t 28 140 [B]) λl E=>
 gQ c false (aU l) λb=>
 gQ b true (ao 249 f 1) λK=>
 gQ b true (ao 33 K 1) λy=>
 gQ b true (aq E 3 y) λA=>
 gQ b true (ao 249 f 0) λn=>
 gQ b true (ao 35 n 0) λz=>
 gQ b true (ao 33 z 1) λj=>
 gQ b true (aq E 3 j) λG=>
 gQ b true (Gp 3 32 36 A G) λq=>
 gQ c false (JK b q) λo=>
 eg c o λI=>
 Q I E)
theorem zl(h : ∀g:ed,fx x0 H Q):dP Tryz.f198 0 [(0,x0)] H Q:=iP (by kernel_rfl) h
def iu:=sV Tryz.f199 2
def pY:Nat->Option (List Nat):=λi=>cond (Nat.beq i 2) (some [5,3,0]) (none)
def qi:Prop:=
 bF H 3 33 x1 λc b=>
  bu env Tryz.f199 0 iu [(5,(.v (.int .i64 0))),(3,c),(0,x0)] b Q
theorem xB(h : ∀g:ed,qi x0 x1 H Q):dP Tryz.f199 0 [(0,x0),(1,x1)] H Q:=vf pY (by kernel_rfl) h
def ld(g:Nat->AV)(b c x0:AV)(H:aa)(Q:AV->aa->Prop):Prop:=
 eL H 8 242 x0 λf=>
 dc 3 6 8 b f λd=>
 br (some d) (
 bz H 242 x0 b λl=>
 ae 275 l 0 λi=>
 ad H 33 i λj=>
 ad H 33 c λk=>
 rM 33 16 17 j k λe=>
 br (some e) (
 Q b H) (
 ef 3 10 1 b λh=>
  bu env Tryz.f199 0 iu [(5,h),(3,c),(0,x0)] H Q)) (
 Q (.v (.int .i64 (-1))) H)
theorem oG(c b x0:AV)(H:aa)(Q:AV->aa->Prop)(h : ∀g,ld g c b x0 H Q):bu env Tryz.f199 0 iu [(5,c),(3,b),(0,x0)] H Q:=sU pY (by kernel_rfl) h
def gm:=sV Tryz.f200 5
def oU:Nat->Option (List Nat):=λi=>cond (Nat.beq i 5) (some [6,3,5,0]) (none)
def iF:Prop:=
 bF H 3 38 x1 λc b=>
 ae 38 c 0 λf=>
 ad b 5 f λe=>
 jU (bP env.P .neq 5 (Operand.tmp 8) (.const (.int .u8 3)) (some e) (some (a8 3))) λh=>
 br (some h) (
 Q (.v (.bool true)) b) (
 ae 38 c 3 λj=>
 ad b 35 j λi=>
 bw true b 12 196 [i] λd H2=>
  bu env Tryz.f200 0 gm [(6,(.v (.int .i64 0))),(3,c),(5,d),(0,x0)] H2 Q)
theorem vD(h : ∀g:ed,iF x0 x1 H Q):dP Tryz.f200 0 [(0,x0),(1,x1)] H Q:=vf oU (by kernel_rfl) h
def gq(g:Nat->AV)(m b o x0:AV)(H:aa)(Q:AV->aa->Prop):Prop:=
 eL H 15 244 o λw=>
 dc 3 13 15 m w λu=>
 br (some u) (
 bz H 244 o m λq=>
 ad H 33 q λk=>
 ae 38 b 1 λl=>
 ae 31 l 0 λp=>
 ad H 29 p λh=>
 bw false H 27 224 [x0,k,h] λi c=>
 ae 38 b 1 λt=>
 ae 31 t 0 λf=>
 ad c 29 f λd=>
 bw false c 31 223 [i,d] λe H2=>
 kz e λn=>
 br (some n) (
 Q (.v (.bool false)) H2) (
 ef 3 17 1 m λj=>
  bu env Tryz.f200 0 gm [(6,j),(3,b),(5,o),(0,x0)] H2 Q)) (
 ae 38 b 1 λq=>
 ae 31 q 0 λk=>
 ad H 29 k λl=>
 ae 38 b 5 λp=>
 ad H 29 p λh=>
 bw true H 38 144 [l,h] λi c=>
 Q i c)
theorem nK(b c d x0:AV)(H:aa)(Q:AV->aa->Prop)(h : ∀g,gq g b c d x0 H Q):bu env Tryz.f200 0 gm [(6,b),(3,c),(5,d),(0,x0)] H Q:=sU oU (by kernel_rfl) h
def sQ:Prop:=
 bF H 2 29 x0 λj b=>
 ae 29 j 1 λe=>
 ad b 27 e λc=>
 qN b 8 3 223 x1 λf=>
 jU (bP env.P .shr 27 (Operand.tmp 6) (Operand.tmp 8) (some c) (some f)) λi=>
 jU (bP env.P .rem 27 (Operand.tmp 9) (.const (.int .u32 2)) (some i) (some (af 2))) λd=>
 jU (bP env.P .eql 27 (Operand.tmp 10) (.const (.int .u32 1)) (some d) (some (af 1))) λh=>
 Q h b
theorem zw(h : ∀g:ed,sQ x0 x1 H Q):dP Tryz.f201 0 [(0,x0),(1,x1)] H Q:=iP (by kernel_rfl) h
def gP:Prop:=
 bF H 1 25 x0 λe m=>
 fM m 2 25 λh H2=>
 ae 25 e 0 λu=>
 ad H2 22 u λp=>
 lE (ga env.P false H2 (Ref.mk 0 5 (aa.gen H2 0 5) 0) (some 22) (some 22) (.v (.slice none 0 0)) p) λq c=>
 ae 25 e 1 λt=>
 ad c 23 t λn=>
 lE (ga env.P false c (Ref.mk 0 8 (aa.gen c 0 8) 0) (some 23) (some 23) (.v (.slice none 0 0)) n) λo j=>
 ae 25 e 2 λl=>
 ad j 3 l λd=>
 LS 25 0 q 1 o 2 d λb=>
 aV j 25 h b λk i=>
 jZ i h 25 λf=>
 Q f i
theorem yx(h : ∀g:ed,gP x0 H Q):dP Tryz.f204 0 [(0,x0)] H Q:=iP (by kernel_rfl) h
def zV:Code:=(Tryz.f221.body).getD .skip
def mf:=sV Tryz.f221 3
def jF:=sV Tryz.f221 6
def nA:Nat->Option (List Nat):=λi=>cond (Nat.beq i 3) (some [4,0,3]) (cond (Nat.beq i 6) (some [5,4,0,3]) (none))
def sK:Prop:=
 bu env Tryz.f221 0 mf [(4,(.v (.int .i64 0))),(0,x0),(3,(.v (.slice none 0 0)))] H Q
theorem zk(h : ∀g:ed,sK x0 H Q):dP Tryz.f221 0 [(0,x0)] H Q:=vf nA (by kernel_rfl) h
def mj(g:Nat->AV)(c x0 b:AV)(H:aa)(Q:AV->aa->Prop):Prop:=
 eL H 8 273 x0 λe=>
 dc 3 6 8 c e λd=>
 br (some d) (
  bu env Tryz.f221 0 jF [(5,(.v (.int .i64 0))),(4,c),(0,x0),(3,b)] H Q) (
 Q b H)
theorem pL(b x0 c:AV)(H:aa)(Q:AV->aa->Prop)(h : ∀g,mj g b x0 c H Q):bu env Tryz.f221 0 mf [(4,b),(0,x0),(3,c)] H Q:=sU nA (by kernel_rfl) h
def jM(g:Nat->AV)(c b x0 t:AV)(H:aa)(Q:AV->aa->Prop):Prop:=
 bz H 273 x0 b λB=>
 ae 249 B 0 λv=>
 ae 35 v 1 λD=>
 ad H 3 D λC=>
 dc 3 12 18 c C λy=>
 br (some y) (
 bz H 273 x0 b λi=>
 ad H 249 i λw=>
 bw false H 28 236 [w,c] λx e=>
 bz e 273 x0 b λA=>
 ad e 249 A λd=>
 bw false e 34 237 [d,c] λj H2=>
 bz H2 273 x0 b λl=>
 ae 249 l 2 λp=>
 ad H2 36 p λn=>
 bz H2 36 n c λf=>
 ad H2 21 f λq=>
 LS 275 0 x 1 j 2 q λh=>
 T6 H2 44 242 1 0 h λo u=>
 mv u 45 242 242 t o λm z=>
 ef 3 20 1 c λk=>
  bu env Tryz.f221 0 jF [(5,k),(4,b),(0,x0),(3,m)] z Q) (
 ef 3 10 1 b λi=>
  bu env Tryz.f221 0 mf [(4,i),(0,x0),(3,t)] H Q)
theorem pK(c d x0 b:AV)(H:aa)(Q:AV->aa->Prop)(h : ∀g,jM g c d x0 b H Q):bu env Tryz.f221 0 jF [(5,c),(4,d),(0,x0),(3,b)] H Q:=sU nA (by kernel_rfl) h
def rj:Prop:=
 bF H 1 33 x0 λf b=>
 ad b 33 f λc=>
 rK 33 λe=>
 rM 33 3 4 c e λd=>
 Q d b
theorem yp(h : ∀g:ed,rj x0 H Q):dP Tryz.f222 0 [(0,x0)] H Q:=iP (by kernel_rfl) h
def ir:=sV Tryz.f223 2
def pX:Nat->Option (List Nat):=λi=>cond (Nat.beq i 2) (some [5,3,0]) (none)
def qh:Prop:=
 bF H 3 29 x1 λc b=>
  bu env Tryz.f223 0 ir [(5,(.v (.int .i64 0))),(3,c),(0,x0)] b Q
theorem xA(h : ∀g:ed,qh x0 x1 H Q):dP Tryz.f223 0 [(0,x0),(1,x1)] H Q:=vf pX (by kernel_rfl) h
def iE(g:Nat->AV)(b c x0:AV)(H:aa)(Q:AV->aa->Prop):Prop:=
 eL H 8 277 x0 λf=>
 dc 3 6 8 b f λd=>
 br (some d) (
 bz H 277 x0 b λk=>
 ad H 29 k λh=>
 ad H 29 c λi=>
 rM 29 15 16 h i λj=>
 br (some j) (
 Q (.v (.bool true)) H) (
 ef 3 10 1 b λe=>
  bu env Tryz.f223 0 ir [(5,e),(3,c),(0,x0)] H Q)) (
 Q (.v (.bool false)) H)
theorem oF(c b x0:AV)(H:aa)(Q:AV->aa->Prop)(h : ∀g,iE g c b x0 H Q):bu env Tryz.f223 0 ir [(5,c),(3,b),(0,x0)] H Q:=sU pX (by kernel_rfl) h
def gI:=sV Tryz.f224 4
def ti:Nat->Option (List Nat):=λi=>cond (Nat.beq i 4) (some [9,8,7]) (none)
def nY:Prop:=
 bF H 4 33 x1 λc k=>
 bF k 5 29 a λj H2=>
 ae 33 c 0 λe=>
 ae 31 e 0 λl=>
 ad H2 29 l λn=>
 rN H2 13 277 1 0 n λm b=>
 ad b 33 c λd=>
 ad b 29 j λi=>
 bw true b 17 238 [x0,d,i] λh f=>
  bu env Tryz.f224 0 gI [(9,(.v (.int .i64 0))),(8,h),(7,m)] f Q
theorem AB(h : ∀g:ed,nY x0 x1 a H Q):dP Tryz.f224 0 [(0,x0),(1,x1),(2,a)] H Q:=vf ti (by kernel_rfl) h
def gN(g:Nat->AV)(x9 b d:AV)(H:aa)(Q:AV->aa->Prop):Prop:=
 eL H 20 277 b λm=>
 dc 3 18 20 x9 m λk=>
 br (some k) (
 bz H 277 b x9 λq=>
 ad H 29 q λn=>
 bw true H 29 223 [d,n] λo c=>
 kz o λp=>
 br (some p) (
 bz c 277 b x9 λh=>
 ad c 29 h λl=>
 rN c 36 277 1 0 l λi H2=>
 mv H2 37 277 277 d i λf j=>
 ef 3 22 1 x9 λe=>
  bu env Tryz.f224 0 gI [(9,e),(8,b),(7,f)] j Q) (
 ef 3 22 1 x9 λh=>
  bu env Tryz.f224 0 gI [(9,h),(8,b),(7,d)] c Q)) (
 Q d H)
theorem qR(x9 b c:AV)(H:aa)(Q:AV->aa->Prop)(h : ∀g,gN g x9 b c H Q):bu env Tryz.f224 0 gI [(9,x9),(8,b),(7,c)] H Q:=sU ti (by kernel_rfl) h
def tu:Prop:=
 bF H 2 249 x0 λi k=>
 fM k 4 33 λh H2=>
 ae 249 i 0 λt=>
 ae 35 t 0 λn=>
 ae 33 n 0 λo=>
 ad H2 31 o λq=>
 ae 249 i 0 λl=>
 ae 35 l 0 λm=>
 ae 33 m 1 λj=>
 ad H2 3 j λd=>
 qM 3 12 13 d x1 λb=>
 jU (nz env.P 33 (some [(0,q),(1,b)])) λc=>
 aV H2 33 h c λp f=>
 jZ f h 33 λe=>
 Q e f
theorem AD(h : ∀g:ed,tu x0 x1 H Q):dP Tryz.f236 0 [(0,x0),(1,x1)] H Q:=iP (by kernel_rfl) h
def lM:Prop:=
 bF H 2 249 x0 λj m=>
 fM m 4 33 λc H2=>
 Af 3 5 0 x1 λk=>
 br (some k) (
 ae 249 j 1 λd=>
 ad H2 33 d λe=>
 aV H2 33 c e λi b=>
 jZ b c 33 λf=>
 Q f b) (
 ad H2 249 j λd=>
 Gt 3 10 1 x1 λe=>
 bw true H2 12 236 [d,e] λi b=>
 aV b 33 c i λf h=>
 jZ h c 33 λl=>
 Q l h)
theorem wz(h : ∀g:ed,lM x0 x1 H Q):dP Tryz.f237 0 [(0,x0),(1,x1)] H Q:=iP (by kernel_rfl) h
def eR:=sV Tryz.f238 3
def pw:Nat->Option (List Nat):=λi=>cond (Nat.beq i 3) (some [8,0,7,5,4]) (none)
def py:Prop:=
 bF H 4 33 x1 λd c=>
 bF c 5 29 a λb H2=>
  bu env Tryz.f238 0 eR [(8,(.v (.int .i64 0))),(0,x0),(7,(.v (.slice none 0 0))),(5,b),(4,d)] H2 Q
theorem wy(h : ∀g:ed,py x0 x1 a H Q):dP Tryz.f238 0 [(0,x0),(1,x1),(2,a)] H Q:=vf pw (by kernel_rfl) h
def cO(g:Nat->AV)(d x0 k n o:AV)(H:aa)(Q:AV->aa->Prop):Prop:=
 eL H 11 41 x0 λM=>
 dc 3 9 11 d M λF=>
 br (some F) (
 bz H 41 x0 d λO=>
 ae 38 O 0 λN=>
 ad H 5 N λJ=>
 CW 5 19 J λc=>
 gQ c true (aU x0) λG=>
 gQ c true (aU d) λI=>
 gQ c true (rL H 41 G I) λL=>
 gQ c true (ao 38 L 3) λh=>
 gQ c true (aq H 35 h) λp=>
 gQ c true (aq H 33 o) λt=>
 gW c true H (fm false H 28 245 [p,t]) λA f=>
 bD c A λb=>
 gQ b true (aU x0) λi=>
 gQ b true (aU d) λB=>
 gQ b true (rL f 41 i B) λj=>
 gQ b true (ao 38 j 1) λz=>
 gQ b true (ao 31 z 0) λx=>
 gQ b true (aq f 29 x) λq=>
 gQ b true (aq f 29 n) λy=>
 gW b true f (fm false f 38 144 [q,y]) λm H2=>
 bD b m λw=>
 br (some w) (
 bz H2 41 x0 d λe=>
 ae 38 e 5 λD=>
 ad H2 29 D λC=>
 rN H2 46 277 1 0 C λu E=>
 mv E 47 277 277 k u λv K=>
 ef 3 13 1 d λl=>
  bu env Tryz.f238 0 eR [(8,l),(0,x0),(7,v),(5,n),(4,o)] K Q) (
 ef 3 13 1 d λe=>
  bu env Tryz.f238 0 eR [(8,e),(0,x0),(7,k),(5,n),(4,o)] H2 Q)) (
 Q k H)
theorem n8(b x0 e c d:AV)(H:aa)(Q:AV->aa->Prop)(h : ∀g,cO g b x0 e c d H Q):bu env Tryz.f238 0 eR [(8,b),(0,x0),(7,e),(5,c),(4,d)] H Q:=sU pw (by kernel_rfl) h
def kQ:Prop:=
 bF H 2 35 x0 λd z=>
 bF z 3 33 x1 λj H2=>
 ae 35 d 0 λD=>
 ae 33 D 0 λB=>
 ad H2 31 B λC=>
 ae 33 j 0 λy=>
 ad H2 31 y λA=>
 rM 31 7 9 C A λc=>
 gQ c true (ao 33 j 1) λx=>
 gQ c true (aq H2 3 x) λi=>
 gQ c true (ao 35 d 0) λe=>
 gQ c true (ao 33 e 1) λh=>
 gQ c true (aq H2 3 h) λu=>
 gQ c true (QG 3 13 16 i u) λp=>
 bD c p λb=>
 gQ b true (ao 33 j 1) λv=>
 gQ b true (aq H2 3 v) λl=>
 gQ b true (ao 35 d 0) λq=>
 gQ b true (ao 33 q 1) λn=>
 gQ b true (aq H2 3 n) λf=>
 gQ b true (ao 35 d 1) λo=>
 gQ b true (aq H2 3 o) λt=>
 gQ b true (QH 3 24 26 f t) λm=>
 gQ b true (Gp 3 21 27 l m) λk=>
 bD b k λw=>
 Q w H2
theorem zj(h : ∀g:ed,kQ x0 x1 H Q):dP Tryz.f245 0 [(0,x0),(1,x1)] H Q:=iP (by kernel_rfl) h
end
section
variable(dep:Nat)(g:Nat->AV)(x0 x1:AV)(H:aa)(Q:AV->aa->Prop)
def As:Prop:=
 bF H 1 62 x0 λh a=>
 ad a 62 h λe=>
 Fj 173 0 e λd=>
 bw true a 8 101 [d] λb H2=>
 bn b 0 λi=>
 bn b 1 λf=>
 kz f λc=>
 br (some c) (
 Q (.v (.int .i64 8)) H2) (
 Q (.v (.int .i64 0)) H2)
theorem F0(h : ∀g:ed,As x0 H Q):dP Tryz.f82 0 [(0,x0)] H Q:=iP (by kernel_rfl) h
def m0:Prop:=
 bF H 2 25 x0 λx A=>
 bF A 3 60 x1 λu H2=>
 fM H2 4 25 λd t=>
 ad t 25 x λD=>
 bw false t 11 102 [D] λG y=>
 ad y 60 u λF=>
 bw false y 13 202 [F] λC k=>
 LW k 14 42 42 G C λw=>
 mG 42 15 0 w λz=>
 br (some z) (
 rK 25 λb=>
 aV k 25 d b λe m=>
 jZ m d 25 λa=>
 Q (.tup [a,w]) m) (
 ad k 25 x λb=>
 ad k 60 u λe=>
 bw true k 21 203 [b,e] λa m=>
 jU (tV env.P (some a) 25 true) λl=>
 bn l 0 λq=>
 bn l 1 λo=>
 fM m 8 25 λh E=>
 aV E 25 h q λB n=>
 br (some o) (
 ad n 25 h λc=>
 aV n 25 d c λj i=>
 jZ i d 25 λf=>
 Q (.tup [f,(.v (.int .i64 0))]) i) (
 rK 25 λc=>
 jU (tV env.P (some a) 42 false) λj=>
 aV n 25 d c λf i=>
 jZ i d 25 λp=>
 Q (.tup [p,j]) i))
theorem AY(h : ∀g:ed,m0 x0 x1 H Q):dP Tryz.f152 0 [(0,x0),(1,x1)] H Q:=iP (by kernel_rfl) h
def wc:Prop:=
 bF H 1 62 x0 λb j=>
 fM j 2 62 λe H2=>
 ae 62 b 2 λf=>
 ad H2 38 f λk=>
 bw true H2 5 108 [k] λm i=>
 ae 62 b 2 λl=>
 aV i 38 l m λn c=>
 ad c 62 b λh=>
 aV c 62 e h λo d=>
 jZ d e 62 λa=>
 Q a d
theorem Hd(h : ∀g:ed,wc x0 H Q):dP Tryz.f161 0 [(0,x0)] H Q:=iP (by kernel_rfl) h
def z6:Prop:=
 bF H 1 60 x0 λq x=>
 ad x 60 q λz=>
 bw true x 9 202 [z] λy H2=>
 mG 42 10 0 y λB=>
 br (some B) (
 Q (.tup [(.v (.slice none 0 0)),y]) H2) (
 ae 60 q 1 λC=>
 ae 58 C 1 λD=>
 ad H2 4 D λA=>
 br (some A) (
 ae 60 q 1 λu=>
 ae 58 u 0 λt=>
 ad H2 29 t λh=>
 Fj 31 0 h λd=>
 bw true H2 21 162 [d] λa c=>
 bn a 0 λb=>
 bn a 1 λm=>
 ae 60 q 0 λi=>
 ad c 3 i λf=>
 qN c 26 3 5 f λj=>
 lE (qb env.P true false c (Ref.mk 0 28 (aa.gen c 0 28) 0) 170 2 (some [(0,j),(1,(a8 1))])) λn p=>
 eL p 31 170 b λk=>
 Gt 3 31 1 k λe=>
 Gq p 170 b e λl=>
 mv p 34 170 170 n l λo w=>
 Q (.tup [o,m]) w) (
 ae 60 q 1 λu=>
 ae 58 u 0 λt=>
 ad H2 29 t λh=>
 Fj 31 0 h λd=>
 bw true H2 21 162 [d] λa c=>
 bn a 0 λb=>
 bn a 1 λm=>
 ae 60 q 0 λi=>
 ad c 3 i λf=>
 qN c 26 3 5 f λj=>
 lE (qb env.P true false c (Ref.mk 0 28 (aa.gen c 0 28) 0) 170 2 (some [(0,j),(1,(a8 0))])) λn p=>
 eL p 31 170 b λk=>
 Gt 3 31 1 k λe=>
 Gq p 170 b e λl=>
 mv p 34 170 170 n l λo w=>
 Q (.tup [o,m]) w))
theorem KT(h : ∀g:ed,z6 x0 H Q):dP Tryz.f164 0 [(0,x0)] H Q:=iP (by kernel_rfl) h
def mX:Prop:=
 bF H 2 62 x0 λh D=>
 bF D 3 62 x1 λf H2=>
 ae 62 h 0 λK=>
 ad H2 5 K λJ=>
 ae 62 f 0 λG=>
 ad H2 5 G λF=>
 rM 5 6 8 J F λd=>
 gQ d true (ao 62 h 1) λE=>
 gQ d true (aq H2 3 E) λI=>
 gQ d true (ao 62 f 1) λi=>
 gQ d true (aq H2 3 i) λp=>
 gQ d true (kb 3 12 14 I p) λt=>
 bD d t λb=>
 gQ b true (ao 62 h 2) λz=>
 gQ b true (aq H2 38 z) λk=>
 gQ b true (ao 62 f 2) λB=>
 gQ b true (aq H2 38 B) λm=>
 gW b true H2 (fm true H2 22 211 [k,m]) λA e=>
 bD b A λa=>
 gQ a true (ao 62 h 3) λq=>
 gQ a true (aq e 42 q) λy=>
 gQ a true (ao 62 f 3) λo=>
 gQ a true (aq e 42 o) λx=>
 gQ a true (kb 42 26 28 y x) λl=>
 bD a l λc=>
 gQ c true (ao 62 h 4) λC=>
 gQ c true (aq e 60 C) λu=>
 gQ c true (ao 62 f 4) λw=>
 gQ c true (aq e 60 w) λn=>
 gQ c true (kb 60 33 35 u n) λv=>
 bD c v λj=>
 Q j e
theorem He(h : ∀g:ed,mX x0 x1 H Q):dP Tryz.f165 0 [(0,x0),(1,x1)] H Q:=iP (by kernel_rfl) h
def wi:Prop:=
 bF H 1 60 x0 λe f=>
 ae 60 e 1 λB=>
 ae 58 B 1 λF=>
 ad f 4 F λd=>
 gQ d false (ao 60 e 1) λE=>
 gQ d false (ao 58 E 0) λA=>
 gQ d false (aq f 29 A) λC=>
 gW d false f (fm false f 11 185 []) λD H2=>
 gQ d false (kb 29 10 11 C D) λz=>
 eg d z λk=>
 ae 60 e 0 λh=>
 ad H2 3 h λj=>
 Gu 3 15 0 j λb=>
 gQ b false (ao 60 e 0) λp=>
 gQ b false (aq H2 3 p) λl=>
 gQ b false (wD 3 19 8 l) λu=>
 eg b u λa=>
 gQ a false (ao 60 e 1) λq=>
 gQ a false (ao 58 q 0) λn=>
 gQ a false (aq H2 29 n) λi=>
 gW a false H2 (fm true H2 26 76 [i]) λo y=>
 gQ a false (Gs 42 26 0 o) λt=>
 eg a t λc=>
 gQ c false (aU k) λm=>
 gQ c false (sY m) λx=>
 eg c x λw=>
 br (some w) (
 Q (.v (.int .i64 8)) y) (
 Q (.v (.int .i64 0)) y)
theorem Hk(h : ∀g:ed,wi x0 H Q):dP Tryz.f202 0 [(0,x0)] H Q:=iP (by kernel_rfl) h
def mZ:Prop:=
 bF H 2 25 x0 λa C=>
 bF C 3 60 x1 λe H2=>
 ae 60 e 0 λM=>
 ad H2 3 M λL=>
 ae 25 a 0 λI=>
 ad H2 22 I λG=>
 eL H2 10 22 G λD=>
 jU (bP env.P .geq 3 (Operand.tmp 7) (Operand.tmp 10) (some L) (some D)) λE=>
 br (some E) (
 jU (tG env.P 42 (some (AV.v (Value.int IntKind.i64 2)))) λm=>
 Q m H2) (
 ae 25 a 2 λm=>
 ad H2 3 m λd=>
 Af 3 15 0 d λk=>
 br (some k) (
 jU (tG env.P 42 (some (AV.v (Value.int IntKind.i64 9)))) λb=>
 Q b H2) (
 ad H2 25 a λb=>
 bw true H2 19 160 [b] λu B=>
 aV B 25 a u λK c=>
 ae 25 a 0 λf=>
 ad c 22 f λw=>
 ae 60 e 0 λi=>
 ad c 3 i λt=>
 ae 60 e 1 λp=>
 ad c 58 p λl=>
 bz c 22 w t λq=>
 aV c 58 q l λF A=>
 ae 25 a 2 λo=>
 ad A 3 o λh=>
 Gt 3 28 1 h λy=>
 ae 25 a 2 λx=>
 aV A 3 x y λJ z=>
 ad z 25 a λn=>
 jU (tG env.P 25 (some n)) λj=>
 Q j z))
theorem oC(h : ∀g:ed,mZ x0 x1 H Q):dP Tryz.f203 0 [(0,x0),(1,x1)] H Q:=iP (by kernel_rfl) h
end
section
variable(dep:Nat)(g:Nat->AV)(x0 x1 a:AV)(H:aa)(Q:AV->aa->Prop)
def Aw:Prop:=
 bF H 2 25 x0 λB C=>
 bF C 3 29 x1 λo H2=>
 fM H2 4 81 λe n=>
 ad n 25 B λJ=>
 ad n 29 o λF=>
 bw true n 11 104 [J,F] λy l=>
 mG 42 12 0 y λE=>
 br (some E) (
 rK 81 λp=>
 aV l 81 e p λz m=>
 jZ m e 81 λc=>
 Q (.tup [c,y]) m) (
 ae 25 B 1 λp=>
 ad l 23 p λz=>
 ad l 29 o λc=>
 bw true l 20 105 [z,c,(.fn (.func 106) [] [])] λh m=>
 bn h 0 λu=>
 bn h 1 λw=>
 fM m 7 81 λb G=>
 aV G 81 b u λD k=>
 kz w λx=>
 br (some x) (
 ad k 29 o λd=>
 ae 81 b 0 λj=>
 aV k 29 j d λi f=>
 ad f 81 b λt=>
 aV f 81 e t λI A=>
 jZ A e 81 λq=>
 Q (.tup [q,(.v (.int .i64 0))]) A) (
 ad k 81 b λd=>
 aV k 81 e d λj f=>
 jZ f e 81 λi=>
 Q (.tup [i,(.v (.int .i64 0))]) f))
theorem F4(h : ∀g:ed,Aw x0 x1 H Q):dP Tryz.f44 0 [(0,x0),(1,x1)] H Q:=iP (by kernel_rfl) h
def qm:Prop:=
 bF H 1 25 x0 λe b=>
 ae 25 e 0 λk=>
 ad b 22 k λf=>
 eL b 5 22 f λl=>
 CY 3 5 100 l λc=>
 gQ c false (ao 25 e 1) λj=>
 gQ c false (aq b 23 j) λm=>
 gQ c false (xW b 10 23 m) λi=>
 gQ c false (Ad 3 10 100 i) λh=>
 eg c h λd=>
 Q d b
theorem xF(h : ∀g:ed,qm x0 H Q):dP Tryz.f63 0 [(0,x0)] H Q:=iP (by kernel_rfl) h
def om:=sV Tryz.f102 3
def oh:=sV Tryz.f102 8
def nD:=sV Tryz.f102 14
def qx:Nat->Option (List Nat):=λi=>cond (Nat.beq i 3) (some [27,3,25,1,26]) (cond (Nat.beq i 8) (some [40,1,3,38,39]) (cond (Nat.beq i 14) (some [87,8,85,1,3,86]) (none)))
def Ax:Prop:=
 bF H 1 25 x0 λd b=>
 ae 25 d 0 λp=>
 ad b 22 p λy=>
 eL b 13 22 y λu=>
 Ud 3 13 8 u λw=>
 ae 25 d 1 λx=>
 ad b 23 x λq=>
 eL b 17 23 q λt=>
 Ud 3 17 8 t λn=>
 ae 25 d 2 λh=>
 ad b 3 h λe=>
 bw false b 21 167 [e,(.v (.int .i64 64))] λf H2=>
 lE (qb env.P true false H2 (Ref.mk 0 22 (aa.gen H2 0 22) 0) 262 3 (some [(0,w),(1,n),(2,f)])) λl o=>
 bw false o 23 166 [l] λk m=>
 ae 25 d 0 λi=>
 ad m 22 i λc=>
 eL m 26 22 c λj=>
  bu env Tryz.f102 0 om [(27,(.v (.int .i64 0))),(3,k),(25,c),(1,d),(26,j)] m Q
theorem F5(h : ∀g:ed,Ax x0 H Q):dP Tryz.f102 0 [(0,x0)] H Q:=vf qx (by kernel_rfl) h
def sF(g:Nat->AV)(b f c x1 d:AV)(H:aa)(Q:AV->aa->Prop):Prop:=
 dc 3 27 26 b d λo=>
 br (some o) (
 bz H 22 c b λi=>
 ad H 58 i λh=>
 fM H 5 58 λe l=>
 aV l 58 e h λq H2=>
 gQ f true (aq H2 58 e) λp=>
 gW f true H2 (fm true H2 34 168 [p]) λm k=>
 bD f m λn=>
 ef 3 27 1 b λj=>
  bu env Tryz.f102 0 om [(27,j),(3,n),(25,c),(1,x1),(26,d)] k Q) (
 ae 25 x1 1 λi=>
 ad H 23 i λh=>
 eL H 39 23 h λe=>
  bu env Tryz.f102 0 oh [(40,(.v (.int .i64 0))),(1,x1),(3,f),(38,h),(39,e)] H Q)
theorem wL(b e c x1 d:AV)(H:aa)(Q:AV->aa->Prop)(h : ∀g,sF g b e c x1 d H Q):bu env Tryz.f102 0 om [(27,b),(3,e),(25,c),(1,x1),(26,d)] H Q:=sU qx (by kernel_rfl) h
def kj(g:Nat->AV)(d x1 c i h:AV)(H:aa)(Q:AV->aa->Prop):Prop:=
 dc 3 40 39 d h λv1=>
 br (some v1) (
 bz H 23 i d λm=>
 ad H 81 m λX=>
 fM H 7 81 λf H1=>
 aV H1 81 f X λv5 H2=>
 gQ c true (ao 81 f 0) λz=>
 gQ c true (aq H2 29 z) λt=>
 gW c true H2 (fm false H2 49 76 [t]) λj k=>
 gQ c true (rO 42 49 0 j) λF=>
 gQ c true (ao 81 f 1) λl=>
 gQ c true (aq k 3 l) λC=>
 gW c true k (fm false k 53 167 [C,(.v (.int .i64 64))]) λE B=>
 gQ c true (ao 81 f 2) λT=>
 gQ c true (aq B 3 T) λM=>
 gW c true B (fm false B 56 167 [M,(.v (.int .i64 256))]) λo O=>
 gQ c true (ao 81 f 3) λV=>
 gQ c true (aq O 3 V) λq=>
 gW c true O (fm false O 59 167 [q,(.v (.int .i64 4096))]) λR e=>
 gQ c true (aU d) λL=>
 gQ c true (rO 3 60 0 L) λD=>
 gQ c true (aU D) λb=>
 gQ b false (ao 25 x1 1) λx=>
 gQ b false (aq e 23 x) λK=>
 gQ b false (aU d) λp=>
 gQ b false (Ub 3 65 1 p) λY=>
 gQ b false (cP env.P true (aa.get e) (Ref.mk 0 67 (aa.gen e 0 67) 0) .max #[3,3] [Y,(.v (.int .i64 0))]) λW=>
 gQ b false (rL e 23 K W) λG=>
 gQ b false (ao 81 G 0) λJ=>
 gQ b false (aq e 29 J) λu=>
 gQ b false (ao 81 f 0) λI=>
 gQ b false (aq e 29 I) λn=>
 gW b false e (fm false e 73 169 [u,n]) λS y=>
 gQ c true (LU b S) λA=>
 gW c true y (qb env.P true false y (Ref.mk 0 75 (aa.gen y 0 75) 0) 262 5 (some [(0,F),(1,E),(2,o),(3,R),(4,A)])) λw H8=>
 gW c true H8 (fm false H8 76 166 [w]) λU H9=>
 bD c U λZ=>
 ef 3 40 1 d λN=>
  bu env Tryz.f102 0 oh [(40,N),(1,x1),(3,Z),(38,i),(39,h)] H9 Q) (
 ae 25 x1 1 λm=>
 ad H 23 m λX=>
 ae 25 x1 1 λf=>
 ad H 23 f λv5=>
 eL H 83 23 v5 λz=>
 jU (cP env.P false (aa.get H) (Ref.mk 0 84 (aa.gen H 0 84) 0) .min #[3,3] [z,(.v (.int .i64 8))]) λt=>
 Gq H 23 X t λj=>
 eL H 86 23 j λF=>
  bu env Tryz.f102 0 nD [(87,(.v (.int .i64 0))),(8,(.v (.int .i64 0))),(85,j),(1,x1),(3,c),(86,F)] H Q)
theorem wK(c x1 e b d:AV)(H:aa)(Q:AV->aa->Prop)(h : ∀g,kj g c x1 e b d H Q):bu env Tryz.f102 0 oh [(40,c),(1,x1),(3,e),(38,b),(39,d)] H Q:=sU qx (by kernel_rfl) h
def qL(g:Nat->AV)(b p e x1 t d:AV)(H:aa)(Q:AV->aa->Prop):Prop:=
 dc 3 87 86 b d λu=>
 br (some u) (
 bz H 23 e b λc=>
 ad H 81 c λo=>
 fM H 10 81 λi h=>
 aV h 81 i o λq H2=>
 ae 81 i 3 λf=>
 ad H2 3 f λm=>
 jU (cP env.P false (aa.get H2) (Ref.mk 0 94 (aa.gen H2 0 94) 0) .max #[3,3] [m,(.v (.int .i64 0))]) λn=>
 jU (cP env.P false (aa.get H2) (Ref.mk 0 95 (aa.gen H2 0 95) 0) .min #[3,3] [n,(.v (.int .i64 4096))]) λk=>
 qM 3 91 95 p k λl=>
 ef 3 87 1 b λj=>
  bu env Tryz.f102 0 nD [(87,j),(8,l),(85,e),(1,x1),(3,t),(86,d)] H2 Q) (
 kz t λc=>
 gQ c false (aq H 25 x1) λo=>
 gW c false H (fm true H 102 103 [o]) λi h=>
 gQ c false (Ad 3 102 2048 i) λq=>
 eg c q λf=>
 gQ f false (aU p) λm=>
 gQ f false (Ad 3 106 8192 m) λn=>
 eg f n λk=>
 br (some k) (
 Q (.v (.int .i64 8)) h) (
 Q (.v (.int .i64 0)) h))
theorem vv(c e d x1 f b:AV)(H:aa)(Q:AV->aa->Prop)(h : ∀g,qL g c e d x1 f b H Q):bu env Tryz.f102 0 nD [(87,c),(8,e),(85,d),(1,x1),(3,f),(86,b)] H Q:=sU qx (by kernel_rfl) h
def nC:=sV Tryz.f103 3
def yL:Nat->Option (List Nat):=λi=>cond (Nat.beq i 3) (some [11,3,9,10]) (none)
def y7:Prop:=
 bF H 1 25 x0 λd b=>
 ae 25 d 2 λe=>
 ad b 3 e λi=>
 ae 25 d 1 λf=>
 ad b 23 f λc=>
 eL b 10 23 c λh=>
  bu env Tryz.f103 0 nC [(11,(.v (.int .i64 0))),(3,i),(9,c),(10,h)] b Q
theorem EB(h : ∀g:ed,y7 x0 H Q):dP Tryz.f103 0 [(0,x0)] H Q:=vf yL (by kernel_rfl) h
def qK(g:Nat->AV)(b j x9 c:AV)(H:aa)(Q:AV->aa->Prop):Prop:=
 dc 3 11 10 b c λp=>
 br (some p) (
 bz H 23 x9 b λl=>
 ad H 81 l λt=>
 fM H 5 81 λh m=>
 aV m 81 h t λu H2=>
 ae 81 h 1 λq=>
 ad H2 3 q λn=>
 ae 81 h 2 λo=>
 ad H2 3 o λk=>
 Uc 3 4 19 k λf=>
 qM 3 17 20 n f λd=>
 qM 3 15 21 j d λe=>
 ef 3 11 1 b λi=>
  bu env Tryz.f103 0 nC [(11,i),(3,e),(9,x9),(10,c)] H2 Q) (
 Q j H)
theorem vt(b d x9 c:AV)(H:aa)(Q:AV->aa->Prop)(h : ∀g,qK g b d x9 c H Q):bu env Tryz.f103 0 nC [(11,b),(3,d),(9,x9),(10,c)] H Q:=sU yL (by kernel_rfl) h
def Av:Prop:=
 bF H 2 25 x0 λl h=>
 bF h 3 29 x1 λf H2=>
 ad H2 25 l λe=>
 bw false H2 6 102 [e] λi c=>
 ad c 29 f λk=>
 bw false c 8 76 [k] λj b=>
 LW b 9 42 42 i j λd=>
 Q d b
theorem F3(h : ∀g:ed,Av x0 x1 H Q):dP Tryz.f104 0 [(0,x0),(1,x1)] H Q:=iP (by kernel_rfl) h
def dZ:Prop:=
 bF H 4 29 x1 λn m=>
 bF m 5 180 a λl H2=>
 fM H2 6 81 λb k=>
 jU (wU (.func 171) (some []) (some [l,n])) λo=>
 bw true k 11 170 [x0,o] λj d=>
 Gu 3 12 0 j λp=>
 br (some p) (
 ad d 81 b λf=>
 aV d 81 b f λi c=>
 jZ c b 81 λh=>
 Q (.tup [h,(.v (.bool false))]) c) (
 bz d 23 x0 j λf=>
 ad d 81 f λi=>
 aV d 81 b i λh c=>
 jZ c b 81 λe=>
 Q (.tup [e,(.v (.bool true))]) c)
theorem jz(h : ∀g:ed,dZ x0 x1 a H Q):dP Tryz.f105 0 [(0,x0),(1,x1),(2,a)] H Q:=iP (by kernel_rfl) h
def xc:Prop:=
 bF H 1 81 x0 λi e=>
 fM e 2 29 λc H2=>
 ae 81 i 0 λd=>
 ad H2 29 d λf=>
 aV H2 29 c f λj b=>
 jZ b c 29 λh=>
 Q h b
theorem C8(h : ∀g:ed,xc x0 H Q):dP Tryz.f106 0 [(0,x0)] H Q:=iP (by kernel_rfl) h
def Bt:Prop:=
 bF H 1 25 x0 λb n=>
 fM n 2 25 λh H2=>
 ae 25 b 0 λx=>
 ad H2 22 x λu=>
 bw false H2 5 205 [u] λv f=>
 ae 25 b 1 λw=>
 ad f 23 w λo=>
 bw false f 8 206 [o] λp y=>
 ae 25 b 0 λl=>
 aV y 22 l v λm t=>
 ae 25 b 1 λc=>
 aV t 23 c p λk i=>
 ad i 25 b λe=>
 aV i 25 h e λq j=>
 jZ j h 25 λd=>
 Q d j
theorem Hg(h : ∀g:ed,Bt x0 H Q):dP Tryz.f160 0 [(0,x0)] H Q:=iP (by kernel_rfl) h
def Cp:Prop:=
 bw true H 4 212 [x0,(.v (.bool false))] λd c=>
 kz d λb=>
 Q b c
theorem Jf(h : ∀g:ed,Cp x0 H Q):dP Tryz.f166 0 [(0,x0)] H Q:=iP (by kernel_rfl) h
def Bs:Prop:=
 wF 3 5 0 x0 λb=>
 gQ b true (aU x0) λc=>
 gQ b true (aU x1) λf=>
 gQ b true (bP env.P .leq 3 (Operand.tmp 8) (Operand.tmp 9) (some c) (some f)) λd=>
 bD b d λe=>
 Q e H
theorem Hf(h : ∀g:ed,Bs x0 x1 H Q):dP Tryz.f167 0 [(0,x0),(1,x1)] H Q:=iP (by kernel_rfl) h
def Au:Prop:=
 bF H 1 58 x0 λh k=>
 ae 58 h 0 λn=>
 ad k 29 n λt=>
 bw false k 5 76 [t] λp H2=>
 Af 42 5 0 p λc=>
 gQ c true (ao 58 h 1) λq=>
 gQ c true (aq H2 4 q) λo=>
 gQ c true (aU o) λb=>
 gQ b false (ao 58 h 0) λl=>
 gQ b false (aq H2 29 l) λf=>
 gW b false H2 (fm false H2 13 185 []) λd m=>
 gQ b false (kb 29 12 13 f d) λe=>
 gQ c true (LU b e) λj=>
 bD c j λi=>
 Q i m
theorem F1(h : ∀g:ed,Au x0 H Q):dP Tryz.f168 0 [(0,x0)] H Q:=iP (by kernel_rfl) h
def aZ:=sV Tryz.f170 2
def cY:Nat->Option (List Nat):=λi=>cond (Nat.beq i 2) (some [8,0,1,7]) (none)
def cZ:Prop:=
 eL H 7 23 x0 λb=>
  bu env Tryz.f170 0 aZ [(8,(.v (.int .i64 0))),(0,x0),(1,x1),(7,b)] H Q
theorem gV(h : ∀g:ed,cZ x0 x1 H Q):dP Tryz.f170 0 [(0,x0),(1,x1)] H Q:=vf cY (by kernel_rfl) h
def bJ(g:Nat->AV)(b x0 x1 d:AV)(H:aa)(Q:AV->aa->Prop):Prop:=
 dc 3 8 7 b d λf=>
 br (some f) (
 bz H 23 x0 b λe=>
 ad H 81 e λj=>
 LX H 16 x1 j λh c=>
 br (some h) (
 Q b c) (
 ef 3 8 1 b λi=>
  bu env Tryz.f170 0 aZ [(8,i),(0,x0),(1,x1),(7,d)] c Q)) (
 Q (.v (.int .i64 (-1))) H)
theorem cT(b x0 x1 c:AV)(H:aa)(Q:AV->aa->Prop)(h : ∀g,bJ g b x0 x1 c H Q):bu env Tryz.f170 0 aZ [(8,b),(0,x0),(1,x1),(7,c)] H Q:=sU cY (by kernel_rfl) h
def dK:Prop:=
 bF H 3 81 x0 λi b=>
 ad b 180 x1 λd=>
 ad b 81 i λc=>
 lE (bB env false (ax env) (cb env 0) b (Ref.mk 0 7 (aa.gen b 0 7) 0) (some d) [c]) λe H2=>
 ad H2 29 a λh=>
 rM 29 7 8 e h λf=>
 Q f H2
theorem jf(h : ∀g:ed,dK x0 x1 a H Q):dP Tryz.f171 0 [(0,x0),(1,x1),(2,a)] H Q:=iP (by kernel_rfl) h
def Cq:Prop:=
 bF H 3 25 x0 λq B=>
 bF B 5 29 a λz H2=>
 ad H2 25 q λK=>
 ad H2 29 z λJ=>
 bw true H2 12 104 [K,J] λA c=>
 mG 42 13 0 A λD=>
 br (some D) (
 Q (.tup [(.v (.bool false)),A]) c) (
 Gu 3 16 0 x1 λe=>
 gQ e false (aU x1) λC=>
 gQ e false (ao 25 q 0) λF=>
 gQ e false (aq c 22 F) λh=>
 gQ e false (xW c 22 22 h) λm=>
 gQ e false (QG 3 19 22 C m) λo=>
 eg e o λu=>
 br (some u) (
 Q (.tup [(.v (.bool false)),(.v (.int .i64 0))]) c) (
 ae 25 q 0 λt=>
 ad c 22 t λi=>
 bz c 22 i x1 λw=>
 ad c 58 w λk=>
 fM c 9 58 λd E=>
 aV E 58 d k λI f=>
 ae 58 d 1 λn=>
 ad f 4 n λb=>
 gQ b true (aq f 29 z) λl=>
 gQ b true (ao 58 d 0) λp=>
 gQ b true (aq f 29 p) λj=>
 gW b true f (fm true f 36 47 [l,j]) λy G=>
 bD b y λx=>
 Q (.tup [x,(.v (.int .i64 0))]) G))
theorem Jg(h : ∀g:ed,Cq x0 x1 a H Q):dP Tryz.f174 0 [(0,x0),(1,x1),(2,a)] H Q:=iP (by kernel_rfl) h
def bt:Prop:=
 Ua 22 3 x0 λe=>
 br (some e) (
 Q (.v (.slice none 0 0)) H) (
 T5 H 5 22 0 λb c=>
 mv c 7 22 22 b x0 λd H2=>
 Q d H2)
theorem bR(h : ∀g:ed,bt x0 H Q):dP Tryz.f205 0 [(0,x0)] H Q:=iP (by kernel_rfl) h
def bp:Prop:=
 Ua 23 3 x0 λe=>
 br (some e) (
 Q (.v (.slice none 0 0)) H) (
 T5 H 5 23 0 λb c=>
 mv c 7 23 23 b x0 λd H2=>
 Q d H2)
theorem bQ(h : ∀g:ed,bp x0 H Q):dP Tryz.f206 0 [(0,x0)] H Q:=iP (by kernel_rfl) h
def mC:Prop:=
 bw true H 7 227 [x0,x1] λd c=>
 wF 3 7 0 d λb=>
 Q b c
theorem sW(h : ∀g:ed,mC x0 x1 H Q):dP Tryz.f212 0 [(0,x0),(1,x1)] H Q:=iP (by kernel_rfl) h
def fv:=sV Tryz.f227 2
def nM:Nat->Option (List Nat):=λi=>cond (Nat.beq i 2) (some [8,0,1,7]) (none)
def nQ:Prop:=
 eL H 7 262 x0 λb=>
  bu env Tryz.f227 0 fv [(8,(.v (.int .i64 0))),(0,x0),(1,x1),(7,b)] H Q
theorem uG(h : ∀g:ed,nQ x0 x1 H Q):dP Tryz.f227 0 [(0,x0),(1,x1)] H Q:=vf nM (by kernel_rfl) h
def jv(g:Nat->AV)(b x0 x1 c:AV)(H:aa)(Q:AV->aa->Prop):Prop:=
 dc 3 8 7 b c λe=>
 br (some e) (
 bz H 262 x0 b λd=>
 ad H 4 d λi=>
 rM 4 11 15 x1 i λf=>
 br (some f) (
 Q b H) (
 ef 3 8 1 b λh=>
  bu env Tryz.f227 0 fv [(8,h),(0,x0),(1,x1),(7,c)] H Q)) (
 Q (.v (.int .i64 (-1))) H)
theorem mL(b x0 x1 c:AV)(H:aa)(Q:AV->aa->Prop)(h : ∀g,jv g b x0 x1 c H Q):bu env Tryz.f227 0 fv [(8,b),(0,x0),(1,x1),(7,c)] H Q:=sU nM (by kernel_rfl) h
def xl:Prop:=
 bF H 3 38 x1 λf l=>
 bw true l 10 172 [x0] λe H2=>
 bn e 0 λh=>
 bn e 1 λm=>
 kz m λo=>
 br (some o) (
 Q (.v (.int .i64 8)) H2) (
 ad H2 38 f λn=>
 bw true H2 16 70 [n] λd b=>
 mG 42 17 0 d λk=>
 br (some k) (
 Q d b) (
 ad b 38 f λj=>
 bw true b 22 193 [h,j] λc i=>
 Q c i))
theorem Mf(h : ∀g:ed,xl x0 x1 H Q):dP Tryz.f137 0 [(0,x0),(1,x1)] H Q:=iP (by kernel_rfl) h
def TH:Code:=(Tryz.f172.body).getD .skip
def oZ:=sV Tryz.f172 3
def so:=sV Tryz.f172 10
def EY:Nat->Option (List Nat):=λi=>cond (Nat.beq i 3) (some [4,14,12,13]) (cond (Nat.beq i 10) (some [44,4,42,12,13,14,43]) (none))
def Kr:Prop:=
 Uf H dep 9 λf c=>
 Fj 266 1 f λb=>
 m8 c dep 11 266 b λe H2=>
 Gr H2 dep 13 41 x0 λd=>
  bu env Tryz.f172 (dep+1) oZ [(4,e),(14,(.v (.int .i64 0))),(12,x0),(13,d)] H2 Q
theorem RX(h : ∀g:ed,Kr dep x0 H Q):dP Tryz.f172 (dep+1) [(0,x0)] H Q:=vf EY (by kernel_rfl) h
def xk(dep:Nat)(g:Nat->AV)(f b d c:AV)(H:aa)(Q:AV->aa->Prop):Prop:=
 dc 3 14 13 b c λT=>
 br (some T) (
 bz H 41 d b λK=>
 ad H 38 K λU=>
 wE H dep 6 38 λh L=>
 aV L 38 h U λV H2=>
 ad H2 38 h λO=>
 lE (bB env true (ax env) (cb env (dep+1)) H2 (⟨(dep+1),19,aa.gen H2 (dep+1) 19,0⟩:Ref) (some (.fn (.func 70) [] [])) [O]) λM l=>
 mG 42 19 0 M λi=>
 gQ i false (aU f) λR=>
 gQ i false (aq l 38 h) λn=>
 gW i false l (bB env true (ax env) (cb env (dep+1)) l (⟨(dep+1),24,aa.gen l (dep+1) 24,0⟩:Ref) (some (.fn (.func 193) [] [])) [R,n]) λu j=>
 gQ i false (Gs 42 24 0 u) λx=>
 eg i x λE=>
 br (some E) (
 Q (.tup [(.v (.pointer none)),(.v (.bool false))]) j) (
 jY f λC=>
 ae 266 C 0 λo=>
 ad j 41 o λF=>
 ad j 38 h λq=>
 lE (qb env.P true false j (⟨(dep+1),33,aa.gen j (dep+1) 33,0⟩:Ref) 41 1 (some [(0,q)])) λD J=>
 lE (ga env.P true J (⟨(dep+1),34,aa.gen J (dep+1) 34,0⟩:Ref) (some 41) (some 41) F D) λA S=>
 jY f λw=>
 ae 266 w 0 λB=>
 aV S 41 B A λN m=>
 ae 38 h 0 λz=>
 ad m 5 z λp=>
 xY 5 38 p λG=>
 br (some G) (
 ae 38 h 3 λe=>
 ad m 35 e λy=>
 ZO dep m 42 y λk I=>
 Gr I dep 43 244 k λt=>
  bu env Tryz.f172 (dep+1) so [(44,(.v (.int .i64 0))),(4,f),(42,k),(12,d),(13,c),(14,b),(43,t)] I Q) (
 ef 3 14 1 b λe=>
  bu env Tryz.f172 (dep+1) oZ [(4,f),(14,e),(12,d),(13,c)] m Q))) (
 Q (.tup [f,(.v (.bool true))]) H)
theorem Fx(dep:Nat)(e d b c:AV)(H:aa)(Q:AV->aa->Prop)(h : ∀g,xk dep g e d b c H Q):bu env Tryz.f172 (dep+1) oZ [(4,e),(14,d),(12,b),(13,c)] H Q:=sU EY (by kernel_rfl) h
def z7(dep:Nat)(g:Nat->AV)(b k f d e h c:AV)(H:aa)(Q:AV->aa->Prop):Prop:=
 dc 3 44 43 b c λu=>
 br (some u) (
 bz H 244 f b λj=>
 ad H 33 j λx=>
 wE H dep 8 33 λl p=>
 aV p 33 l x λy H2=>
 jY k λw=>
 ae 266 w 1 λq=>
 ad H2 264 q λt=>
 ad H2 33 l λm=>
 lE (dQ env.P H2 264 (some t) (some m) (some (AV.v (Value.bool true)))) λo n=>
 ef 3 44 1 b λi=>
  bu env Tryz.f172 (dep+1) so [(44,i),(4,k),(42,f),(12,d),(13,e),(14,h),(43,c)] n Q) (
 ef 3 14 1 h λj=>
  bu env Tryz.f172 (dep+1) oZ [(4,k),(14,j),(12,d),(13,e)] H Q)
theorem Dh(dep:Nat)(i j e c d f b:AV)(H:aa)(Q:AV->aa->Prop)(h : ∀g,z7 dep g i j e c d f b H Q):bu env Tryz.f172 (dep+1) so [(44,i),(4,j),(42,e),(12,c),(13,d),(14,f),(43,b)] H Q:=sU EY (by kernel_rfl) h
def rJ:Code:=(Tryz.f193.body).getD .skip
def eI:Prop:=
 m8 H dep 3 38 x1 λl c=>
 jU (nz env.P 271 (some [(1,(.fn (.func 218) [] [])),(2,(.fn (.func 219) [] [])),(3,(.fn (.func 220) [] []))])) λn=>
 ae 38 l 0 λt=>
 ad c 5 t λo=>
 jU (r8 env.P 271 (some n) (some o)) λp=>
 ad c 38 l λq=>
 lE (bB env true (ax env) (cb env (dep+1)) c (⟨(dep+1),12,aa.gen c (dep+1) 12,0⟩:Ref) (some p) [x0,q]) λk H2=>
 Af 42 13 0 k λb=>
 gQ b true (aU x0) λm=>
 gQ b true (MX (some m)) λf=>
 gQ b true (ao 266 f 0) λd=>
 gQ b true (aq H2 41 d) λe=>
 gQ b true (ZJ H2 dep 20 41 e) λj=>
 gQ b true (wD 3 20 2048 j) λi=>
 bD b i λh=>
 br (some h) (
 Q (.v (.int .i64 4)) H2) (
 Q k H2)
theorem rF(h : ∀g:ed,eI dep x0 x1 H Q):dP Tryz.f193 (dep+1) [(0,x0),(1,x1)] H Q:=iP (by kernel_rfl) h
def o3:=sV Tryz.f213 2
def DO:Nat->Option (List Nat):=λi=>cond (Nat.beq i 2) (some [8,2,1,7]) (none)
def Eh:Prop:=
 bF H 1 35 x0 λc b=>
 ae 35 c 1 λd=>
 ad b 3 d λe=>
  bu env Tryz.f213 0 o3 [(8,(.v (.int .i64 0))),(2,(.v (.slice none 0 0))),(1,c),(7,e)] b Q
theorem KU(h : ∀g:ed,Eh x0 H Q):dP Tryz.f213 0 [(0,x0)] H Q:=vf DO (by kernel_rfl) h
def sI(g:Nat->AV)(d a x1 f:AV)(H:aa)(Q:AV->aa->Prop):Prop:=
 dc 3 8 7 d f λn=>
 br (some n) (
 ad H 35 x1 λk=>
 bw true H 14 228 [k,d] λi l=>
 bn i 0 λp=>
 bn i 1 λu=>
 fM l 4 33 λh H2=>
 aV H2 33 h p λt e=>
 ad e 33 h λm=>
 rN e 19 244 1 0 m λj q=>
 mv q 20 244 244 a j λc o=>
 ef 3 8 1 d λb=>
  bu env Tryz.f213 0 o3 [(8,b),(2,c),(1,x1),(7,f)] o Q) (
 Q a H)
theorem AZ(b a x1 c:AV)(H:aa)(Q:AV->aa->Prop)(h : ∀g,sI g b a x1 c H Q):bu env Tryz.f213 0 o3 [(8,b),(2,a),(1,x1),(7,c)] H Q:=sU DO (by kernel_rfl) h
def qe:Code:=(Tryz.f218.body).getD .skip
def eb:Prop:=
 m8 H dep 2 230 x0 λB N=>
 m8 N dep 3 38 x1 λe H2=>
 ae 38 e 4 λX=>
 ad H2 33 X λW=>
 rK 33 λR=>
 Ac 33 8 9 W R λd=>
 gQ d true (aq H2 230 B) λO=>
 gQ d true (aq H2 38 e) λP=>
 gQ d true (ao 38 e 4) λT=>
 gQ d true (aq H2 33 T) λj=>
 gW d true H2 (bB env true (ax env) (cb env (dep+1)) H2 (⟨(dep+1),16,aa.gen H2 (dep+1) 16,0⟩:Ref) (some (.fn (.func 230) [] [])) [O,P,j]) λu h=>
 gQ d true (sY u) λw=>
 bD d w λG=>
 br (some G) (
 Q (.v (.int .i64 6)) h) (
 ad h 38 e λD=>
 lE (bB env true (ax env) (cb env (dep+1)) h (⟨(dep+1),21,aa.gen h (dep+1) 21,0⟩:Ref) (some (.fn (.func 231) [] [])) [D]) λf S=>
 bn f 0 λJ=>
 bn f 1 λm=>
 wE S dep 5 249 λE V=>
 aV V 249 E J λU i=>
 mG 42 24 0 m λb=>
 gQ b false (ao 38 e 3) λC=>
 gQ b false (aq i 35 C) λp=>
 gW b false i (bB env true (ax env) (cb env (dep+1)) i (⟨(dep+1),29,aa.gen i (dep+1) 29,0⟩:Ref) (some (.fn (.func 213) [] [])) [p]) λA q=>
 gQ b false (wU (.func 233) (some []) (some [B])) λl=>
 gW b false q (bB env true (ax env) (cb env (dep+1)) q (⟨(dep+1),31,aa.gen q (dep+1) 31,0⟩:Ref) (some (.fn (.func 232) [] [])) [A,l]) λL c=>
 eg b L λK=>
 br (some K) (
 Q (.v (.int .i64 2)) c) (
 ad c 230 B λx=>
 jY x λz=>
 ae 266 z 1 λn=>
 ad c 264 n λy=>
 Gr c dep 37 264 y λk=>
 ae 38 e 3 λF=>
 ae 35 F 1 λt=>
 ad c 3 t λo=>
 qM 3 37 40 k o λI=>
 CY 3 41 8192 I λM=>
 br (some M) (
 Q (.v (.int .i64 4)) c) (
 Q (.v (.int .i64 0)) c)))
theorem pR(h : ∀g:ed,eb dep x0 x1 H Q):dP Tryz.f218 (dep+1) [(0,x0),(1,x1)] H Q:=iP (by kernel_rfl) h
def qc:Code:=(Tryz.f219.body).getD .skip
def kZ:Prop:=
 m8 H dep 3 38 x1 λf h=>
 ad h 38 f λm=>
 ZP dep h 8 x0 m λj H2=>
 kz j λn=>
 br (some n) (
 Q (.v (.int .i64 6)) H2) (
 ae 38 f 3 λp=>
 ae 35 p 0 λo=>
 ae 33 o 0 λi=>
 ae 31 i 0 λl=>
 ad H2 29 l λk=>
 ae 38 f 1 λd=>
 ae 31 d 0 λb=>
 ad H2 29 b λc=>
 Ac 29 15 18 k c λe=>
 br (some e) (
 Q (.v (.int .i64 2)) H2) (
 Q (.v (.int .i64 0)) H2))
theorem pQ(h : ∀g:ed,kZ dep x0 x1 H Q):dP Tryz.f219 (dep+1) [(0,x0),(1,x1)] H Q:=iP (by kernel_rfl) h
def qI:Code:=(Tryz.f220.body).getD .skip
def lj:Prop:=
 m8 H dep 3 38 x1 λl k=>
 ad k 38 l λm=>
 ZP dep k 9 x0 m λu H2=>
 kz u λp=>
 br (some p) (
 Q (.v (.int .i64 6)) H2) (
 jY x0 λq=>
 ae 266 q 0 λt=>
 ad H2 41 t λn=>
 ad H2 38 l λo=>
 lE (bB env false (ax env) (cb env (dep+1)) H2 (⟨(dep+1),17,aa.gen H2 (dep+1) 17,0⟩:Ref) (some (.fn (.func 235) [] [])) [n,o]) λi j=>
 bn i 0 λd=>
 bn i 1 λc=>
 mG 42 20 0 c λb=>
 gQ b false (aU d) λh=>
 gQ b false (sY h) λf=>
 eg b f λe=>
 br (some e) (
 Q (.v (.int .i64 2)) j) (
 Q (.v (.int .i64 0)) j))
theorem qC(h : ∀g:ed,lj dep x0 x1 H Q):dP Tryz.f220 (dep+1) [(0,x0),(1,x1)] H Q:=iP (by kernel_rfl) h
def rI:Code:=(Tryz.f230.body).getD .skip
def hZ:Prop:=
 m8 H dep 4 38 x1 λo m=>
 m8 m dep 5 33 a λj H2=>
 jY x0 λu=>
 ae 266 u 1 λp=>
 ad H2 264 p λq=>
 ad H2 33 j λt=>
 CV H2 264 q t λb=>
 gQ b true (ao 33 j 0) λn=>
 gQ b true (ao 31 n 0) λk=>
 gQ b true (aq H2 29 k) λe=>
 gQ b true (ao 38 o 1) λc=>
 gQ b true (ao 31 c 0) λd=>
 gQ b true (aq H2 29 d) λi=>
 gW b true H2 (bB env false (ax env) (cb env (dep+1)) H2 (⟨(dep+1),20,aa.gen H2 (dep+1) 20,0⟩:Ref) (some (.fn (.func 47) [] [])) [e,i]) λh l=>
 bD b h λf=>
 Q f l
theorem rE(h : ∀g:ed,hZ dep x0 x1 a H Q):dP Tryz.f230 (dep+1) [(0,x0),(1,x1),(2,a)] H Q:=iP (by kernel_rfl) h
def iM:Code:=(Tryz.f232.body).getD .skip
def dv:Prop:=
 lE (bB env true (ax env) (cb env (dep+1)) H (⟨(dep+1),7,aa.gen H (dep+1) 7,0⟩:Ref) (some (.fn (.func 241) [] [])) [x0,x1]) λb c=>
 wF 3 7 0 b λd=>
 Q d c
theorem iL(h : ∀g:ed,dv dep x0 x1 H Q):dP Tryz.f232 (dep+1) [(0,x0),(1,x1)] H Q:=iP (by kernel_rfl) h
def po:Code:=(Tryz.f233.body).getD .skip
def kq:Prop:=
 m8 H dep 2 33 x0 λj b=>
 ad b 230 x1 λe=>
 jY e λc=>
 ae 266 c 1 λf=>
 ad b 264 f λi=>
 ad b 33 j λd=>
 CV b 264 i d λh=>
 Q h b
theorem pd(h : ∀g:ed,kq dep x0 x1 H Q):dP Tryz.f233 (dep+1) [(0,x0),(1,x1)] H Q:=iP (by kernel_rfl) h
def sA:Code:=(Tryz.f234.body).getD .skip
def lX:Prop:=
 m8 H dep 2 230 x0 λm i=>
 m8 i dep 3 38 x1 λc H2=>
 ae 38 c 3 λe=>
 ad H2 35 e λj=>
 ZO dep H2 7 j λl b=>
 jU (wU (.func 242) (some []) (some [m,c])) λk=>
 lE (bB env true (ax env) (cb env (dep+1)) b (⟨(dep+1),9,aa.gen b (dep+1) 9,0⟩:Ref) (some (.fn (.func 232) [] [])) [l,k]) λd f=>
 kz d λh=>
 Q h f
theorem rU(h : ∀g:ed,lX dep x0 x1 H Q):dP Tryz.f234 (dep+1) [(0,x0),(1,x1)] H Q:=iP (by kernel_rfl) h
def ju:Code:=(Tryz.f241.body).getD .skip
def bo:=sV Tryz.f241 2
def dS:Nat->Option (List Nat):=λi=>cond (Nat.beq i 2) (some [8,0,1,7]) (none)
def dU:Prop:=
 Gr H dep 7 244 x0 λb=>
  bu env Tryz.f241 (dep+1) bo [(8,(.v (.int .i64 0))),(0,x0),(1,x1),(7,b)] H Q
theorem jm(h : ∀g:ed,dU dep x0 x1 H Q):dP Tryz.f241 (dep+1) [(0,x0),(1,x1)] H Q:=vf dS (by kernel_rfl) h
def bU(dep:Nat)(g:Nat->AV)(b x0 x1 d:AV)(H:aa)(Q:AV->aa->Prop):Prop:=
 dc 3 8 7 b d λf=>
 br (some f) (
 bz H 244 x0 b λe=>
 ad H 33 e λj=>
 QK dep H 16 x1 j λh c=>
 br (some h) (
 Q b c) (
 ef 3 8 1 b λi=>
  bu env Tryz.f241 (dep+1) bo [(8,i),(0,x0),(1,x1),(7,d)] c Q)) (
 Q (.v (.int .i64 (-1))) H)
theorem dz(dep:Nat)(b x0 x1 c:AV)(H:aa)(Q:AV->aa->Prop)(h : ∀g,bU dep g b x0 x1 c H Q):bu env Tryz.f241 (dep+1) bo [(8,b),(0,x0),(1,x1),(7,c)] H Q:=sU dS (by kernel_rfl) h
def qJ:Code:=(Tryz.f242.body).getD .skip
def lu:Prop:=
 m8 H dep 3 33 x0 λi b=>
 ad b 230 x1 λd=>
 ad b 38 a λc=>
 ad b 33 i λe=>
 lE (bB env true (ax env) (cb env (dep+1)) b (⟨(dep+1),8,aa.gen b (dep+1) 8,0⟩:Ref) (some (.fn (.func 230) [] [])) [d,c,e]) λh H2=>
 kz h λf=>
 Q f H2
theorem qD(h : ∀g:ed,lu dep x0 x1 a H Q):dP Tryz.f242 (dep+1) [(0,x0),(1,x1),(2,a)] H Q:=iP (by kernel_rfl) h
end
section
variable(dep:Nat)(g:Nat->AV)(x0 x1 a b:AV)(H:aa)(Q:AV->aa->Prop)
def xP:Code:=(Tryz.f13.body).getD .skip
def fg:=sV Tryz.f13 3
def pW:Nat->Option (List Nat):=λi=>cond (Nat.beq i 3) (some [8,1,7,2,3]) (none)
def mi(g:Nat->AV)(x0 x1 a:AV)(H:aa)(Q:AV->aa->Prop):Prop:=
 bF H 3 25 x0 λc d=>
  bu env Tryz.f13 0 fg [(8,(.v (.int .i64 0))),(1,x1),(7,(.v (.int .i64 0))),(2,a),(3,c)] d Q
theorem xy(x0 x1 a:AV)(H:aa)(Q:AV->aa->Prop)(h : ∀g,mi g x0 x1 a H Q):dP Tryz.f13 0 [(0,x0),(1,x1),(2,a)] H Q:=vf pW (by kernel_rfl) h
def iD(g:Nat->AV)(k x1 z a b:AV)(H:aa)(Q:AV->aa->Prop):Prop:=
 eL H 11 26 x1 λB=>
 dc 3 9 11 k B λl=>
 gQ l true (aU k) λD=>
 gQ l true (CX 3 14 300 D) λC=>
 bD l C λA=>
 br (some A) (
 bz H 26 x1 k λo=>
 ae 62 o 2 λf=>
 ae 38 f 3 λn=>
 ae 35 n 1 λq=>
 ad H 3 q λd=>
 jU (cP env.P true (aa.get H) (Ref.mk 0 27 (aa.gen H 0 27) 0) .max #[3,3] [d,(.v (.int .i64 0))]) λh=>
 jU (cP env.P true (aa.get H) (Ref.mk 0 28 (aa.gen H 0 28) 0) .min #[3,3] [h,(.v (.int .i64 100))]) λc=>
 bz H 26 x1 k λj=>
 ae 62 j 2 λi=>
 ae 38 i 6 λe=>
 ad H 36 e λx=>
 eL H 35 36 x λm=>
 jU (cP env.P true (aa.get H) (Ref.mk 0 36 (aa.gen H 0 36) 0) .min #[3,3] [m,(.v (.int .i64 1000))]) λw=>
 LW H 37 3 3 c w λt=>
 qM 3 19 37 z t λp=>
 ef 3 17 1 k λu=>
  bu env Tryz.f13 0 fg [(8,u),(1,x1),(7,p),(2,a),(3,b)] H Q) (
 ad H 25 b λo=>
 bw true H 40 63 [o] λf y=>
 gQ f false (aU x1) λn=>
 gQ f false (xW y 43 26 n) λq=>
 gQ f false (aU a) λd=>
 gQ f false (T4 3 43 44 q d) λh=>
 eg f h λc=>
 gQ c false (aU z) λj=>
 gQ c false (Ad 3 48 300 j) λi=>
 eg c i λe=>
 Q e y)
theorem oD(c x1 d a b:AV)(H:aa)(Q:AV->aa->Prop)(h : ∀g,iD g c x1 d a b H Q):bu env Tryz.f13 0 fg [(8,c),(1,x1),(7,d),(2,a),(3,b)] H Q:=sU pW (by kernel_rfl) h
def xj:Prop:=
 bF H 2 25 x0 λi d=>
 ad d 25 i λe=>
 bw true d 8 64 [e,x1,(.v (.int .i64 0)),(.fn (.func 65) [] [])] λc H2=>
 bn c 0 λf=>
 bn c 1 λh=>
 Q (.tup [f,h]) H2
theorem Df(h : ∀g:ed,xj x0 x1 H Q):dP Tryz.f15 0 [(0,x0),(1,x1)] H Q:=iP (by kernel_rfl) h
def xi:Prop:=
 bF H 3 25 x0 λo k=>
 bF k 5 38 a λd H2=>
 ad H2 25 o λe=>
 ad H2 38 d λl=>
 bw false H2 11 70 [l] λn j=>
 jU (wU (.func 71) (some []) (some [d])) λm=>
 bw true j 13 69 [e,x1,n,m] λc f=>
 bn c 0 λi=>
 bn c 1 λh=>
 Q (.tup [i,h]) f
theorem De(h : ∀g:ed,xi x0 x1 a H Q):dP Tryz.f17 0 [(0,x0),(1,x1),(2,a)] H Q:=iP (by kernel_rfl) h
def Bu:Prop:=
 bF H 3 25 x0 λo k=>
 bF k 5 29 a λd H2=>
 ad H2 25 o λe=>
 ad H2 29 d λl=>
 bw false H2 11 76 [l] λn j=>
 jU (wU (.func 77) (some []) (some [d])) λm=>
 bw true j 13 75 [e,x1,n,m] λc f=>
 bn c 0 λi=>
 bn c 1 λh=>
 Q (.tup [i,h]) f
theorem Hi(h : ∀g:ed,Bu x0 x1 a H Q):dP Tryz.f19 0 [(0,x0),(1,x1),(2,a)] H Q:=iP (by kernel_rfl) h
def gp:=sV Tryz.f22 4
def oV:Nat->Option (List Nat):=λi=>cond (Nat.beq i 4) (some [5,1,0]) (none)
def lf:Prop:=
 eL H 7 26 x0 λe=>
 eL H 9 26 x1 λc=>
 Ac 3 7 9 e c λd=>
 br (some d) (
 Q (.v (.bool false)) H) (
  bu env Tryz.f22 0 gp [(5,(.v (.int .i64 0))),(1,x1),(0,x0)] H Q)
theorem vE(h : ∀g:ed,lf x0 x1 H Q):dP Tryz.f22 0 [(0,x0),(1,x1)] H Q:=vf oV (by kernel_rfl) h
def gw(g:Nat->AV)(c x1 x0:AV)(H:aa)(Q:AV->aa->Prop):Prop:=
 eL H 13 26 x0 λj=>
 dc 3 11 13 c j λf=>
 br (some f) (
 bz H 26 x0 c λn=>
 ad H 62 n λk=>
 bz H 26 x1 c λl=>
 ad H 62 l λm=>
 bw false H 25 80 [k,m] λh d=>
 kz h λi=>
 br (some i) (
 Q (.v (.bool false)) d) (
 ef 3 15 1 c λe=>
  bu env Tryz.f22 0 gp [(5,e),(1,x1),(0,x0)] d Q)) (
 Q (.v (.bool true)) H)
theorem nL(c x1 x0:AV)(H:aa)(Q:AV->aa->Prop)(h : ∀g,gw g c x1 x0 H Q):bu env Tryz.f22 0 gp [(5,c),(1,x1),(0,x0)] H Q:=sU oV (by kernel_rfl) h
def pE:Code:=(Tryz.f64.body).getD .skip
def kH:Prop:=
 m8 H dep 4 25 x0 λo f=>
 ad f 25 o λk=>
 Ue dep f 15 k x1 λd H2=>
 bn d 0 λl=>
 bn d 1 λn=>
 kz n λm=>
 br (some m) (
 Q (.tup [(.v (.slice none 0 0)),(.v (.int .i64 8))]) H2) (
 mG 42 21 0 a λh=>
 br (some h) (
 Q (.tup [(.v (.slice none 0 0)),a]) H2) (
 QK dep H2 27 b l λe j=>
 bn e 0 λi=>
 bn e 1 λc=>
 Q (.tup [i,c]) j))
theorem pB(h : ∀g:ed,kH dep x0 x1 a b H Q):dP Tryz.f64 (dep+1) [(0,x0),(1,x1),(2,a),(3,b)] H Q:=iP (by kernel_rfl) h
def B1:Code:=(Tryz.f65.body).getD .skip
def uX:Prop:=
 jY x0 λe=>
 ae 129 e 5 λc=>
 ad H 41 c λd=>
 Q (.tup [d,(.v (.int .i64 0))]) H
theorem BX(h : ∀g:ed,uX x0 H Q):dP Tryz.f65 (dep+1) [(0,x0)] H Q:=iP (by kernel_rfl) h
def pn:Code:=(Tryz.f69.body).getD .skip
def ko:Prop:=
 m8 H dep 4 25 x0 λo f=>
 ad f 25 o λk=>
 Ue dep f 15 k x1 λd H2=>
 bn d 0 λl=>
 bn d 1 λn=>
 kz n λm=>
 br (some m) (
 Q (.tup [(.v (.int .i64 0)),(.v (.int .i64 8))]) H2) (
 mG 42 21 0 a λh=>
 br (some h) (
 Q (.tup [(.v (.int .i64 0)),a]) H2) (
 QK dep H2 27 b l λe j=>
 bn e 0 λi=>
 bn e 1 λc=>
 Q (.tup [i,c]) j))
theorem pb(h : ∀g:ed,ko dep x0 x1 a b H Q):dP Tryz.f69 (dep+1) [(0,x0),(1,x1),(2,a),(3,b)] H Q:=iP (by kernel_rfl) h
def B0:Code:=(Tryz.f71.body).getD .skip
def uW:Prop:=
 ad H 38 x1 λe=>
 lE (bB env true (ax env) (cb env (dep+1)) H (⟨(dep+1),7,aa.gen H (dep+1) 7,0⟩:Ref) (some (.fn (.func 72) [] [])) [x0,e]) λc d=>
 Q (.tup [c,(.v (.int .i64 0))]) d
theorem BW(h : ∀g:ed,uW dep x0 x1 H Q):dP Tryz.f71 (dep+1) [(0,x0),(1,x1)] H Q:=iP (by kernel_rfl) h
def pF:Code:=(Tryz.f72.body).getD .skip
def cM:Prop:=
 m8 H dep 3 38 x1 λf i=>
 jY x0 λN=>
 ae 129 N 5 λY=>
 ad i 41 Y λV=>
 ad i 38 f λS=>
 lE (bB env false (ax env) (cb env (dep+1)) i (⟨(dep+1),13,aa.gen i (dep+1) 13,0⟩:Ref) (some (.fn (.func 137) [] [])) [V,S]) λL H2=>
 mG 42 14 0 L λO=>
 br (some O) (
 Q L H2) (
 jY x0 λR=>
 ae 129 R 0 λU=>
 ad H2 25 U λj=>
 ae 38 f 1 λt=>
 ae 31 t 0 λw=>
 ad H2 29 w λF=>
 ZS dep H2 25 j F λh M=>
 bn h 0 λl=>
 bn h 1 λX=>
 wE M dep 6 81 λe T=>
 aV T 81 e l λW d=>
 ae 38 f 0 λC=>
 ad d 5 C λu=>
 xY 5 29 u λc=>
 gQ c true (aU x0) λp=>
 gQ c true (MX (some p)) λB=>
 gQ c true (ao 129 B 4) λm=>
 gQ c true (aq d 127 m) λJ=>
 gQ c true (ao 38 f 1) λI=>
 gQ c true (ao 31 I 0) λy=>
 gQ c true (aq d 29 y) λA=>
 gQ c true (fe env.P (aa.get d) 127 (some J) (some A) false) λn=>
 gQ c true (CU 81 n 3) λz=>
 gQ c true (ao 38 f 3) λk=>
 gQ c true (ao 35 k 1) λE=>
 gQ c true (aq d 3 E) λq=>
 gQ c true (QH 3 40 43 z q) λo=>
 gQ c true (ao 81 e 3) λG=>
 gQ c true (aq d 3 G) λK=>
 gQ c true (T4 3 44 46 o K) λD=>
 bD c D λx=>
 br (some x) (
 Q (.v (.int .i64 9)) d) (
 Q (.v (.int .i64 0)) d))
theorem pC(h : ∀g:ed,cM dep x0 x1 H Q):dP Tryz.f72 (dep+1) [(0,x0),(1,x1)] H Q:=iP (by kernel_rfl) h
def nX:Code:=(Tryz.f75.body).getD .skip
def jj:Prop:=
 m8 H dep 4 25 x0 λo f=>
 ad f 25 o λk=>
 Ue dep f 15 k x1 λd H2=>
 bn d 0 λl=>
 bn d 1 λn=>
 kz n λm=>
 br (some m) (
 Q (.tup [(.v (.slice none 0 0)),(.v (.int .i64 8))]) H2) (
 mG 42 21 0 a λh=>
 br (some h) (
 Q (.tup [(.v (.slice none 0 0)),a]) H2) (
 QK dep H2 27 b l λe j=>
 bn e 0 λi=>
 bn e 1 λc=>
 Q (.tup [i,c]) j))
theorem nU(h : ∀g:ed,jj dep x0 x1 a b H Q):dP Tryz.f75 (dep+1) [(0,x0),(1,x1),(2,a),(3,b)] H Q:=iP (by kernel_rfl) h
def Fe:Code:=(Tryz.f77.body).getD .skip
def gz:=sV Tryz.f77 2
def yM:Nat->Option (List Nat):=λi=>cond (Nat.beq i 2) (some [12,3,1,10,11]) (none)
def tP:Prop:=
 jY x0 λf=>
 ae 129 f 2 λd=>
 ad H 26 d λc=>
 Gr H dep 11 26 c λe=>
  bu env Tryz.f77 (dep+1) gz [(12,(.v (.int .i64 0))),(3,(.v (.slice none 0 0))),(1,x1),(10,c),(11,e)] H Q
theorem EC(h : ∀g:ed,tP dep x0 x1 H Q):dP Tryz.f77 (dep+1) [(0,x0),(1,x1)] H Q:=vf yM (by kernel_rfl) h
def jx(dep:Nat)(g:Nat->AV)(c b x1 e d:AV)(H:aa)(Q:AV->aa->Prop):Prop:=
 dc 3 12 11 c d λC=>
 br (some C) (
 bz H 26 e c λw=>
 ad H 62 w λE=>
 wE H dep 6 62 λi x=>
 aV x 62 i E λF H2=>
 ae 62 i 0 λz=>
 ad H2 5 z λy=>
 CW 5 17 y λf=>
 gQ f false (ao 62 i 2) λB=>
 gQ f false (ao 38 B 1) λk=>
 gQ f false (ao 31 k 0) λn=>
 gQ f false (aq H2 29 n) λo=>
 gQ f false (aq H2 29 x1) λu=>
 gW f false H2 (ZN dep H2 25 o u) λq j=>
 eg f q λl=>
 br (some l) (
 ad j 62 i λh=>
 T8 j dep 29 26 1 0 h λm A=>
 T7 A dep 30 26 26 b m λt D=>
 ef 3 12 1 c λp=>
  bu env Tryz.f77 (dep+1) gz [(12,p),(3,t),(1,x1),(10,e),(11,d)] D Q) (
 ef 3 12 1 c λh=>
  bu env Tryz.f77 (dep+1) gz [(12,h),(3,b),(1,x1),(10,e),(11,d)] j Q)) (
 Q (.tup [b,(.v (.int .i64 0))]) H)
theorem qB(dep:Nat)(e b x1 d c:AV)(H:aa)(Q:AV->aa->Prop)(h : ∀g,jx dep g e b x1 d c H Q):bu env Tryz.f77 (dep+1) gz [(12,e),(3,b),(1,x1),(10,d),(11,c)] H Q:=sU yM (by kernel_rfl) h
def fc:Prop:=
 bF H 2 62 x0 λj F=>
 bF F 3 62 x1 λi H2=>
 ae 62 j 0 λM=>
 ad H2 5 M λL=>
 ae 62 i 0 λJ=>
 ad H2 5 J λI=>
 rM 5 6 8 L I λf=>
 gQ f true (ao 62 j 1) λG=>
 gQ f true (aq H2 3 G) λK=>
 gQ f true (ao 62 i 1) λk=>
 gQ f true (aq H2 3 k) λt=>
 gQ f true (kb 3 12 14 K t) λv=>
 bD f v λd=>
 gQ d true (ao 62 j 2) λB=>
 gQ d true (aq H2 38 B) λm=>
 gQ d true (ao 62 i 2) λD=>
 gQ d true (aq H2 38 D) λo=>
 gW d true H2 (fm true H2 22 62 [m,o]) λC h=>
 bD d C λc=>
 gQ c true (ao 62 j 3) λu=>
 gQ c true (aq h 42 u) λA=>
 gQ c true (ao 62 i 3) λq=>
 gQ c true (aq h 42 q) λz=>
 gQ c true (kb 42 26 28 A z) λn=>
 bD c n λe=>
 gQ e true (ao 62 j 4) λE=>
 gQ e true (aq h 60 E) λw=>
 gQ e true (ao 62 i 4) λy=>
 gQ e true (aq h 60 y) λp=>
 gQ e true (kb 60 33 35 w p) λx=>
 bD e x λl=>
 Q l h
theorem yv(h : ∀g:ed,fc x0 x1 H Q):dP Tryz.f80 0 [(0,x0),(1,x1)] H Q:=iP (by kernel_rfl) h
def LO:Code:=(Tryz.f100.body).getD .skip
def k9:=sV Tryz.f100 6
def DN:Nat->Option (List Nat):=λi=>cond (Nat.beq i 6) (some [28,6,7,26,27]) (none)
def vc:Prop:=
 m8 H dep 2 25 x0 λl i=>
 ad i 25 l λu=>
 lE (bB env true (ax env) (cb env (dep+1)) i (⟨(dep+1),11,aa.gen i (dep+1) 11,0⟩:Ref) (some (.fn (.func 102) [] [])) [u]) λB H2=>
 mG 42 11 0 B λc=>
 gQ c false (aU x1) λz=>
 gQ c false (ZJ H2 dep 15 26 z) λA=>
 gQ c false (Ad 3 15 2048 A) λw=>
 eg c w λx=>
 br (some x) (
 Q (.tup [(.v (.pointer none)),(.v (.bool false))]) H2) (
 ad H2 25 l λq=>
 ad H2 25 l λh=>
 lE (nO env false (ax env) (cb env (dep+1)) H2 (⟨(dep+1),20,aa.gen H2 (dep+1) 20,0⟩:Ref) (some (.fn (.func 160) [] [])) [h]) λd t=>
 Uf t dep 21 λe C=>
 Uf C dep 22 λn y=>
 jU (nz env.P 129 (some [(0,q),(1,d),(3,e),(4,n)])) λm=>
 m8 y dep 24 129 m λj o=>
 lE (bB env true (ax env) (cb env (dep+1)) o (⟨(dep+1),25,aa.gen o (dep+1) 25,0⟩:Ref) (some (.fn (.func 84) [] [])) []) λf p=>
 Gr p dep 27 26 x1 λk=>
  bu env Tryz.f100 (dep+1) k9 [(28,(.v (.int .i64 0))),(6,j),(7,f),(26,x1),(27,k)] p Q)
theorem KQ(h : ∀g:ed,vc dep x0 x1 H Q):dP Tryz.f100 (dep+1) [(0,x0),(1,x1)] H Q:=vf DN (by kernel_rfl) h
def sG(dep:Nat)(g:Nat->AV)(d h w k m:AV)(H:aa)(Q:AV->aa->Prop):Prop:=
 dc 3 28 27 d m λv1=>
 br (some v1) (
 bz H 26 k d λS=>
 ad H 62 S λv3=>
 wE H dep 9 62 λe T=>
 aV T 62 e v3 λv5 H2=>
 ad H2 62 e λZ=>
 lE (bB env true (ax env) (cb env (dep+1)) H2 (⟨(dep+1),33,aa.gen H2 (dep+1) 33,0⟩:Ref) (some (.fn (.func 82) [] [])) [Z]) λW f=>
 mG 42 33 0 W λc=>
 gQ c false (aU w) λv9=>
 gQ c false (ao 62 e 0) λp=>
 gQ c false (aq f 5 p) λy=>
 gQ c false (fe env.P (aa.get f) 151 (some v9) (some y) false) λA=>
 gQ c false (CU 150 A 0) λL=>
 gQ c false (aU h) λI=>
 gQ c false (aq f 62 e) λt=>
 gW c false f (bB env true (ax env) (cb env (dep+1)) f (⟨(dep+1),43,aa.gen f (dep+1) 43,0⟩:Ref) (some L) [I,t]) λN i=>
 gQ c false (sY N) λu=>
 eg c u λJ=>
 br (some J) (
 Q (.tup [(.v (.pointer none)),(.v (.bool false))]) i) (
 ae 62 e 0 λF=>
 ad i 5 F λz=>
 CV i 151 w z λG=>
 jU (vL env.P 150 (some G) 1) λx=>
 ad i 62 e λE=>
 lE (bB env true (ax env) (cb env (dep+1)) i (⟨(dep+1),53,aa.gen i (dep+1) 53,0⟩:Ref) (some x) [h,E]) λV o=>
 jY h λO=>
 ae 129 O 2 λn=>
 ad o 26 n λB=>
 ad o 62 e λD=>
 lE (bB env false (ax env) (cb env (dep+1)) o (⟨(dep+1),60,aa.gen o (dep+1) 60,0⟩:Ref) (some (.fn (.func 161) [] [])) [D]) λj H6=>
 T8 H6 dep 61 26 1 0 j λC Y=>
 T7 Y dep 62 26 26 B C λq U=>
 jY h λK=>
 ae 129 K 2 λl=>
 aV U 26 l q λX R=>
  iB [(n,j)] [l] [] R /\
 (ef 3 28 1 d λM=>
  bu env Tryz.f100 (dep+1) k9 [(28,M),(6,h),(7,w),(26,k),(27,m)] R Q))) (
 Q (.tup [h,(.v (.bool true))]) H)
theorem vw(dep:Nat)(d i f e c:AV)(H:aa)(Q:AV->aa->Prop)(h : ∀g,sG dep g d i f e c H Q):bu env Tryz.f100 (dep+1) k9 [(28,d),(6,i),(7,f),(26,e),(27,c)] H Q:=sU DN (by kernel_rfl) h
def Ea:Code:=(Tryz.f145.body).getD .skip
def xg:Prop:=
 m8 H dep 3 62 x1 λe z=>
 ae 62 e 2 λC=>
 ae 38 C 1 λI=>
 ae 31 I 0 λG=>
 ad z 29 G λE=>
 ZR dep z 13 x0 E λA H2=>
 bn A 0 λD=>
 bn A 1 λJ=>
 jY x0 λF=>
 ae 129 F 3 λf=>
 ad H2 126 f λk=>
 ae 62 e 2 λm=>
 ae 38 m 1 λw=>
 ad H2 31 w λu=>
 CV H2 126 k u λh=>
 jU (vL env.P 73 (some h) 0) λx=>
 kz x λc=>
 gQ c true (aU x0) λv=>
 gQ c true (ao 62 e 1) λq=>
 gQ c true (aq H2 3 q) λl=>
 gQ c true (ao 62 e 2) λt=>
 gQ c true (ao 38 t 1) λj=>
 gQ c true (ao 31 j 0) λp=>
 gQ c true (aq H2 29 p) λi=>
 gW c true H2 (bB env true (ax env) (cb env (dep+1)) H2 (⟨(dep+1),34,aa.gen H2 (dep+1) 34,0⟩:Ref) (some (.fn (.func 147) [] [])) [v,l,i]) λy B=>
 bD c y λd=>
 gQ d true (aU D) λn=>
 bD d n λo=>
 Q o B
theorem Dd(h : ∀g:ed,xg dep x0 x1 H Q):dP Tryz.f145 (dep+1) [(0,x0),(1,x1)] H Q:=iP (by kernel_rfl) h
def rH:Code:=(Tryz.f146.body).getD .skip
def lH:Prop:=
 m8 H dep 3 29 x1 λA f=>
 jY x0 λD=>
 ae 129 D 0 λK=>
 ad f 25 K λJ=>
 ad f 29 A λG=>
 ZS dep f 15 J G λz H2=>
 bn z 0 λF=>
 bn z 1 λL=>
 wE H2 dep 6 81 λn B=>
 aV B 81 n F λC e=>
 jY x0 λk=>
 ae 129 k 4 λm=>
 ad e 127 m λw=>
 ad e 29 A λu=>
 CV e 127 w u λh=>
 wE e dep 8 81 λc I=>
 aV I 81 c h λE d=>
 ae 81 c 1 λv=>
 ad d 3 v λq=>
 ae 81 n 1 λl=>
 ad d 3 l λt=>
 dc 3 25 27 q t λj=>
 ae 81 c 2 λp=>
 ad d 3 p λi=>
 ae 81 n 2 λy=>
 ad d 3 y λx=>
 dc 3 30 32 i x λo=>
 Q (.tup [j,o]) d
theorem rD(h : ∀g:ed,lH dep x0 x1 H Q):dP Tryz.f146 (dep+1) [(0,x0),(1,x1)] H Q:=iP (by kernel_rfl) h
def sx:Code:=(Tryz.f147.body).getD .skip
def iI:Prop:=
 m8 H dep 5 29 a λo c=>
 jY x0 λl=>
 ae 129 l 1 λj=>
 ad c 25 j λm=>
 ad c 29 o λn=>
 lE (bB env false (ax env) (cb env (dep+1)) c (⟨(dep+1),16,aa.gen c (dep+1) 16,0⟩:Ref) (some (.fn (.func 174) [] [])) [m,x1,n]) λh H2=>
 bn h 0 λi=>
 bn h 1 λk=>
 Af 42 19 0 k λf=>
 gQ f true (aU i) λe=>
 bD f e λd=>
 Q d H2
theorem rT(h : ∀g:ed,iI dep x0 x1 a H Q):dP Tryz.f147 (dep+1) [(0,x0),(1,x1),(2,a)] H Q:=iP (by kernel_rfl) h
def D9:Code:=(Tryz.f148.body).getD .skip
def xf:Prop:=
 m8 H dep 3 62 x1 λe d=>
 jY x0 λI=>
 ae 129 I 3 λW=>
 ad d 126 W λT=>
 ae 62 e 2 λM=>
 ae 38 M 1 λL=>
 ad d 31 L λJ=>
 ae 62 e 1 λK=>
 ad d 3 K λO=>
 jU (nz env.P 73 (some [(0,(.v (.bool true))),(1,O)])) λh=>
 lE (dQ env.P d 126 (some T) (some J) (some h)) λN H2=>
 jY x0 λq=>
 ae 129 q 4 λC=>
 ad H2 127 C λz=>
 ae 62 e 2 λj=>
 ae 38 j 1 λD=>
 ae 31 D 0 λl=>
 ad H2 29 l λA=>
 CV H2 127 z A λy=>
 wE H2 dep 4 81 λc G=>
 aV G 81 c y λS F=>
 ae 81 c 1 λo=>
 ad F 3 o λx=>
 ef 3 25 1 x λk=>
 ae 81 c 1 λE=>
 aV F 3 E k λV f=>
 jY x0 λt=>
 ae 129 t 4 λw=>
 ad f 127 w λm=>
 ae 62 e 2 λu=>
 ae 38 u 1 λi=>
 ae 31 i 0 λB=>
 ad f 29 B λp=>
 ad f 81 c λn=>
 lE (dQ env.P f 127 (some m) (some p) (some n)) λU R=>
 Q (.v (.tuple #[])) R
theorem Dc(h : ∀g:ed,xf dep x0 x1 H Q):dP Tryz.f148 (dep+1) [(0,x0),(1,x1)] H Q:=iP (by kernel_rfl) h
def D8:Code:=(Tryz.f149.body).getD .skip
def xe:Prop:=
 m8 H dep 3 62 x1 λi n=>
 jY x0 λY=>
 ae 129 Y 3 λv3=>
 ad n 126 v3 λv4=>
 ae 62 i 2 λv5=>
 ae 38 v5 1 λv6=>
 ad n 31 v6 λZ=>
 CV n 126 v4 Z λv8=>
 wE n dep 5 73 λo H2=>
 aV H2 73 o v8 λX V=>
 ae 62 i 2 λD=>
 ae 38 D 1 λF=>
 ae 31 F 0 λR=>
 ad V 29 R λM=>
 ZR dep V 22 x0 M λj h=>
 bn j 0 λv16=>
 bn j 1 λv=>
 ae 73 o 0 λO=>
 ad h 4 O λc=>
 gQ c true (aU x0) λE=>
 gQ c true (ao 73 o 1) λL=>
 gQ c true (aq h 3 L) λA=>
 gQ c true (ao 62 i 2) λK=>
 gQ c true (ao 38 K 1) λu=>
 gQ c true (ao 31 u 0) λU=>
 gQ c true (aq h 29 U) λT=>
 gW c true h (nO env true (ax env) (cb env (dep+1)) h (⟨(dep+1),35,aa.gen h (dep+1) 35,0⟩:Ref) (some (.fn (.func 147) [] [])) [E,A,T]) λG f=>
 bD c G λe=>
 gQ e true (ao 62 i 2) λw=>
 gQ e true (ao 38 w 2) λI=>
 gQ e true (aq f 3 I) λq=>
 gQ e true (ao 73 o 2) λP=>
 gQ e true (aq f 3 P) λB=>
 gQ e true (ZM 3 42 1 B) λk=>
 gQ e true (kb 3 40 43 q k) λl=>
 bD e l λm=>
 gQ m true (aU v) λN=>
 bD m N λd=>
 gQ d true (ao 62 i 3) λx=>
 gQ d true (aq f 42 x) λS=>
 gQ d true (aU x0) λJ=>
 gQ d true (ao 62 i 2) λC=>
 gQ d true (aq f 38 C) λt=>
 gW d true f (nO env true (ax env) (cb env (dep+1)) f (⟨(dep+1),55,aa.gen f (dep+1) 55,0⟩:Ref) (some (.fn (.func 72) [] [])) [J,t]) λz W=>
 gQ d true (kb 42 51 55 S z) λp=>
 bD d p λy=>
  iB [(l,k)] [] [] W /\
 (Q y W)
theorem Db(h : ∀g:ed,xe dep x0 x1 H Q):dP Tryz.f149 (dep+1) [(0,x0),(1,x1)] H Q:=iP (by kernel_rfl) h
def xa:Code:=(Tryz.f150.body).getD .skip
def kn:Prop:=
 m8 H dep 3 62 x1 λl P=>
 jY x0 λv2=>
 ae 129 v2 3 λv3=>
 ad P 126 v3 λv4=>
 ae 62 l 2 λv5=>
 ae 38 v5 1 λv6=>
 ad P 31 v6 λv7=>
 CV P 126 v4 v7 λv8=>
 jY x0 λv9=>
 ae 129 v9 4 λv10=>
 ad P 127 v10 λv11=>
 ae 62 l 2 λv12=>
 ae 38 v12 1 λv13=>
 ae 31 v13 0 λv14=>
 ad P 29 v14 λv15=>
 CV P 127 v11 v15 λv16=>
 wE P dep 4 73 λe H2=>
 wE H2 dep 5 81 λd H3=>
 aV H3 73 e v8 λv19 H4=>
 aV H4 81 d v16 λv20 H5=>
  iB [(v10,e),(v14,e),(v11,e)] [e,d] [] H5 /\
 (ae 73 e 2 λv21=>
 ad H5 3 v21 λv22=>
 ef 3 24 1 v22 λv23=>
 ae 73 e 2 λv24=>
 aV H5 3 v24 v23 λv25 H6=>
 ae 81 d 2 λv26=>
 ad H6 3 v26 λv27=>
 ef 3 28 1 v27 λv28=>
 ae 81 d 2 λv29=>
 aV H6 3 v29 v28 λv30 k=>
 ae 62 l 3 λv31=>
 ad k 42 v31 λv32=>
 Af 42 32 0 v32 λv33=>
 br (some v33) (
 jY x0 λV=>
 ae 129 V 5 λz=>
 ad k 41 z λj=>
 ae 62 l 2 λK=>
 ad k 38 K λY=>
 lE (bB env false (ax env) (cb env (dep+1)) k (⟨(dep+1),41,aa.gen k (dep+1) 41,0⟩:Ref) (some (.fn (.func 108) [] [])) [Y]) λw H8=>
 T8 H8 dep 42 41 1 0 w λL H9=>
 T7 H9 dep 43 41 41 j L λF I=>
 jY x0 λo=>
 ae 129 o 5 λB=>
 aV I 41 B F λv44 c=>
  iB [(z,w)] [B] [] c /\
 (ae 62 l 2 λt=>
 ae 38 t 0 λT=>
 ad c 5 T λJ=>
 xY 5 48 J λS=>
 br (some S) (
 ae 81 d 3 λm=>
 ad c 3 m λp=>
 ae 62 l 2 λi=>
 ae 38 i 3 λn=>
 ae 35 n 1 λq=>
 ad c 3 q λA=>
 qM 3 51 55 p A λM=>
 ae 81 d 3 λR=>
 aV c 3 R M λy f=>
 jY x0 λE=>
 ae 129 E 3 λv59=>
 ad f 126 v59 λh=>
 ae 62 l 2 λC=>
 ae 38 C 1 λG=>
 ad f 31 G λv63=>
 jY x0 λO=>
 ae 129 O 4 λX=>
 ad f 127 X λx=>
 ae 62 l 2 λW=>
 ae 38 W 1 λN=>
 ae 31 N 0 λD=>
 ad f 29 D λv70=>
 ad f 73 e λv71=>
 ad f 81 d λv72=>
 JI f 126 h v63 λv73 Z=>
 bn v73 1 λv74=>
 JJ Z h v74 v71 λv75 U=>
 JI U 127 x v70 λv76 u=>
 bn v76 1 λv77=>
 JJ u x v77 v72 λv78 H16=>
  iB [(D,h),(e,h),(d,h),(d,x)] [] [] H16 /\
 (Q (.v (.tuple #[])) H16)) (
 jY x0 λm=>
 ae 129 m 3 λp=>
 ad c 126 p λi=>
 ae 62 l 2 λn=>
 ae 38 n 1 λq=>
 ad c 31 q λA=>
 jY x0 λM=>
 ae 129 M 4 λR=>
 ad c 127 R λy=>
 ae 62 l 2 λE=>
 ae 38 E 1 λv59=>
 ae 31 v59 0 λh=>
 ad c 29 h λC=>
 ad c 73 e λG=>
 ad c 81 d λv63=>
 JI c 126 i A λO f=>
 bn O 1 λX=>
 JJ f i X G λx Z=>
 JI Z 127 y C λW U=>
 bn W 1 λN=>
 JJ U y N v63 λD u=>
  iB [(h,i),(e,i),(d,i),(d,y)] [] [] u /\
 (Q (.v (.tuple #[])) u)))) (
 jY x0 λV=>
 ae 129 V 3 λz=>
 ad k 126 z λj=>
 ae 62 l 2 λK=>
 ae 38 K 1 λY=>
 ad k 31 Y λw=>
 jY x0 λL=>
 ae 129 L 4 λF=>
 ad k 127 F λo=>
 ae 62 l 2 λB=>
 ae 38 B 1 λv44=>
 ae 31 v44 0 λt=>
 ad k 29 t λT=>
 ad k 73 e λJ=>
 ad k 81 d λS=>
 JI k 126 j w λm H8=>
 bn m 1 λp=>
 JJ H8 j p J λi H9=>
 JI H9 127 o T λn I=>
 bn n 1 λq=>
 JJ I o q S λA c=>
  iB [(t,j),(e,j),(d,j),(d,o)] [] [] c /\
 (Q (.v (.tuple #[])) c)))
theorem wM(h : ∀g:ed,kn dep x0 x1 H Q):dP Tryz.f150 (dep+1) [(0,x0),(1,x1)] H Q:=iP (by kernel_rfl) h
def D7:Code:=(Tryz.f151.body).getD .skip
def sH:Prop:=
 m8 H dep 3 62 x1 λm e=>
 jY x0 λk=>
 ae 129 k 1 λq=>
 ad e 25 q λn=>
 ae 62 m 4 λo=>
 ad e 60 o λp=>
 ZT dep e 14 n p λf H2=>
 bn f 0 λl=>
 bn f 1 λi=>
 wE H2 dep 5 25 λd j=>
 aV j 25 d l λh t=>
 Af 42 17 0 i λc=>
 Q c t
theorem Da(h : ∀g:ed,sH dep x0 x1 H Q):dP Tryz.f151 (dep+1) [(0,x0),(1,x1)] H Q:=iP (by kernel_rfl) h
def D6:Code:=(Tryz.f153.body).getD .skip
def xd:Prop:=
 m8 H dep 3 62 x1 λp e=>
 jY x0 λl=>
 ae 129 l 1 λh=>
 ad e 25 h λm=>
 ae 62 p 4 λo=>
 ad e 60 o λn=>
 ZT dep e 12 m n λf H2=>
 bn f 0 λj=>
 bn f 1 λq=>
 jY x0 λd=>
 ae 129 d 1 λc=>
 aV H2 25 c j λi k=>
 Q (.v (.tuple #[])) k
theorem C9(h : ∀g:ed,xd dep x0 x1 H Q):dP Tryz.f153 (dep+1) [(0,x0),(1,x1)] H Q:=iP (by kernel_rfl) h
def ct:=sV Tryz.f3 12
def eG:=sV Tryz.f3 15
def bC:=sV Tryz.f3 19
def eF:=sV Tryz.f3 22
def dT:Nat->Option (List Nat):=λi=>cond (Nat.beq i 12) (some [23,10,18,1,9,22]) (cond (Nat.beq i 15) (some [24,23,10,18,1,9,22]) (cond (Nat.beq i 19) (some [25,18,1,9,22]) (cond (Nat.beq i 22) (some [26,25,18,1,9,22]) (none))))
def fy:Prop:=
 bF H 4 25 x0 λk H1=>
 bF H1 6 38 a λZ H2=>
 bF H2 7 29 b λv3 H3=>
 ad H3 25 k λv4=>
 bw true H3 29 13 [v4,x1,(.v (.int .i64 25))] λn y=>
 gQ n false (ao 38 Z 6) λv6=>
 gQ n false (aq y 36 v6) λv7=>
 gQ n false (xW y 33 36 v7) λv8=>
 gQ n false (Ad 3 33 300 v8) λv9=>
 eg n v9 λA=>
 br (some A) (
 Q (.v (.bool true)) y) (
 bw true y 37 14 [x1] λe H5=>
 ad H5 25 k λv12=>
 bw true H5 41 15 [v12,e] λw H6=>
 bn w 0 λp=>
 bn w 1 λv15=>
 ad H6 25 k λX=>
 bw true H6 47 16 [X,x1] λl F=>
 bn l 0 λv18=>
 bn l 1 λv19=>
 ad F 25 k λJ=>
 ad F 38 Z λv21=>
 bw true F 54 17 [J,e,v21] λm B=>
 bn m 0 λR=>
 bn m 1 λD=>
 ad B 25 k λv25=>
 ad B 38 Z λv26=>
 bw true B 61 18 [v25,x1,v26] λu O=>
 bn u 0 λP=>
 bn u 1 λv29=>
 ad O 25 k λM=>
 ad O 29 v3 λv31=>
 bw true O 68 19 [M,e,v31] λt j=>
 bn t 0 λo=>
 bn t 1 λv34=>
 ad j 25 k λU=>
 ad j 29 v3 λv36=>
 bw true j 75 20 [U,x1,v36] λq G=>
 bn q 0 λv38=>
 bn q 1 λE=>
 bw true G 80 21 [p,v18] λf x=>
 gQ f true (aU v15) λN=>
 gQ f true (aU v19) λI=>
 gQ f true (kb 3 82 83 N I) λv43=>
 bD f v43 λd=>
 gQ d true (aU R) λz=>
 gQ d true (aU P) λv46=>
 gQ d true (kb 3 87 88 z v46) λS=>
 bD d S λi=>
 gQ i true (aU D) λC=>
 gQ i true (aU v29) λV=>
 gQ i true (kb 3 92 93 C V) λW=>
 bD i W λc=>
 gQ c true (aU o) λv53=>
 gQ c true (aU v38) λv54=>
 gW c true x (fm true x 99 22 [v53,v54]) λY H13=>
 bD c Y λh=>
 gQ h true (aU v34) λT=>
 gQ h true (aU E) λL=>
 gQ h true (kb 3 102 103 T L) λv59=>
 bD h v59 λK=>
  bu env Tryz.f3 0 ct [(23,(.v (.int .i64 0))),(10,p),(18,o),(1,x1),(9,e),(22,K)] H13 Q)
theorem tD(h : ∀g:ed,fy x0 x1 a b H Q):dP Tryz.f3 0 [(0,x0),(1,x1),(2,a),(3,b)] H Q:=vf dT (by kernel_rfl) h
def hY(g:Nat->AV)(d c x18 x1 x9 x22:AV)(H:aa)(Q:AV->aa->Prop):Prop:=
 eL H 108 41 c λf=>
 dc 3 106 108 d f λe=>
 br (some e) (
  bu env Tryz.f3 0 eG [(24,(.v (.int .i64 0))),(23,d),(10,c),(18,x18),(1,x1),(9,x9),(22,x22)] H Q) (
  bu env Tryz.f3 0 bC [(25,(.v (.int .i64 0))),(18,x18),(1,x1),(9,x9),(22,x22)] H Q)
theorem lC(d c x18 x1 x9 x22:AV)(H:aa)(Q:AV->aa->Prop)(h : ∀g,hY g d c x18 x1 x9 x22 H Q):bu env Tryz.f3 0 ct [(23,d),(10,c),(18,x18),(1,x1),(9,x9),(22,x22)] H Q:=sU dT (by kernel_rfl) h
def gZ(g:Nat->AV)(e d c x18 x1 x9 x22:AV)(H:aa)(Q:AV->aa->Prop):Prop:=
 bz H 41 c d λn=>
 ae 38 n 6 λk=>
 ad H 36 k λt=>
 eL H 118 36 t λp=>
 dc 3 112 118 e p λq=>
 br (some q) (
 bz H 41 c d λh=>
 ae 38 h 6 λm=>
 ad H 36 m λo=>
 bz H 36 o e λi=>
 lE (nx env.P H 21 (some i) (some (.v (.int .i32 7)))) λj l=>
 ef 3 120 1 e λf=>
  bu env Tryz.f3 0 eG [(24,f),(23,d),(10,c),(18,x18),(1,x1),(9,x9),(22,x22)] l Q) (
 ef 3 110 1 d λh=>
  bu env Tryz.f3 0 ct [(23,h),(10,c),(18,x18),(1,x1),(9,x9),(22,x22)] H Q)
theorem lB(c e d x18 x1 x9 x22:AV)(H:aa)(Q:AV->aa->Prop)(h : ∀g,gZ g c e d x18 x1 x9 x22 H Q):bu env Tryz.f3 0 eG [(24,c),(23,e),(10,d),(18,x18),(1,x1),(9,x9),(22,x22)] H Q:=sU dT (by kernel_rfl) h
def gY(g:Nat->AV)(c x18 x1 x9 x22:AV)(H:aa)(Q:AV->aa->Prop):Prop:=
 eL H 131 26 x18 λf=>
 dc 3 129 131 c f λd=>
 br (some d) (
  bu env Tryz.f3 0 eF [(26,(.v (.int .i64 0))),(25,c),(18,x18),(1,x1),(9,x9),(22,x22)] H Q) (
 gQ x22 true (aU x9) λk=>
 gQ x22 true (aU x1) λh=>
 gW x22 true H (fm true H 158 22 [k,h]) λi e=>
 bD x22 i λj=>
 Q j e)
theorem lA(c x18 x1 x9 x22:AV)(H:aa)(Q:AV->aa->Prop)(h : ∀g,gY g c x18 x1 x9 x22 H Q):bu env Tryz.f3 0 bC [(25,c),(18,x18),(1,x1),(9,x9),(22,x22)] H Q:=sU dT (by kernel_rfl) h
def gX(g:Nat->AV)(d c x18 x1 x9 x22:AV)(H:aa)(Q:AV->aa->Prop):Prop:=
 bz H 26 x18 c λn=>
 ae 62 n 2 λl=>
 ae 38 l 6 λu=>
 ad H 36 u λp=>
 eL H 142 36 p λq=>
 dc 3 135 142 d q λt=>
 br (some t) (
 bz H 26 x18 c λh=>
 ae 62 h 2 λo=>
 ae 38 o 6 λk=>
 ad H 36 k λf=>
 bz H 36 f d λe=>
 lE (nx env.P H 21 (some e) (some (.v (.int .i32 7)))) λj m=>
 ef 3 144 1 d λi=>
  bu env Tryz.f3 0 eF [(26,i),(25,c),(18,x18),(1,x1),(9,x9),(22,x22)] m Q) (
 ef 3 133 1 c λh=>
  bu env Tryz.f3 0 bC [(25,h),(18,x18),(1,x1),(9,x9),(22,x22)] H Q)
theorem lz(d c x18 x1 x9 x22:AV)(H:aa)(Q:AV->aa->Prop)(h : ∀g,gX g d c x18 x1 x9 x22 H Q):bu env Tryz.f3 0 eF [(26,d),(25,c),(18,x18),(1,x1),(9,x9),(22,x22)] H Q:=sU dT (by kernel_rfl) h
end
end Go.Proofs.YtmkmimgokagimaaGreat
namespace Go.Ab
def xn.enc(h:xn):List AV:=[a8 h.lv,af h.cats,a8 h.num]
def bM.enc(i:bM):List AV:=[a8 i.h.lv,af i.h.cats,a8 i.h.num,aI i.n]
def wm.enc(s:wm):List AV:=[a8 s.f.h.lv,af s.f.h.cats,a8 s.f.h.num,aI s.f.n,aI s.many]
end Go.Ab
namespace Go.Proofs.YtmkmimgokagimaaGreat
open Go.Ab Go.ChangeShapes Go.WideShapes Go.RowKit
def BK:OI env.P 29 (λ_=>True) (λp:UInt8 × UInt32=>[a8 p.1,af p.2]):=by
 intro n xs h;have h:=mN (P:=env.P) N3 h;obtain⟨m,x,r,rfl,a,y,r',rfl,b,rfl⟩:=h;obtain⟨v,_,rfl⟩:=Q5 (P:=env.P) (t:=5) (by simp) _ _ a;obtain⟨w,_,rfl⟩:=abo (P:=env.P) (t:=27) (by simp) _ _ b;exact⟨(v,w),trivial,rfl⟩
def Q4:OI env.P 31 (λ_=>True) xn.enc:=by
 intro n xs h;have h:=mN (P:=env.P) N0 h;obtain⟨m,x,r,rfl,a,y,r',rfl,b,rfl⟩:=h;obtain⟨p,_,rfl⟩:=BK _ _ a;obtain⟨w,_,rfl⟩:=Q5 (P:=env.P) (t:=5) (by simp) _ _ b;exact⟨⟨p.1,p.2,w⟩,trivial,rfl⟩
def Q3:OI env.P 33 (λ_=>True) bM.enc:=by
 intro n xs h;have h:=mN (P:=env.P) NZ h;obtain⟨m,x,r,rfl,a,y,r',rfl,b,rfl⟩:=h;obtain⟨p,_,rfl⟩:=Q4 _ _ a;obtain⟨i,_,rfl⟩:=tU (P:=env.P) (t:=3) (by simp) _ _ b;exact⟨⟨p,i⟩,trivial,rfl⟩
def Ys:OI env.P 35 (λ_=>True) wm.enc:=by
 intro n xs h;have h:=mN (P:=env.P) NY h;obtain⟨m,x,r,rfl,a,y,r',rfl,b,rfl⟩:=h;obtain⟨p,_,rfl⟩:=Q3 _ _ a;obtain⟨i,_,rfl⟩:=tU (P:=env.P) (t:=3) (by simp) _ _ b;exact⟨⟨p,i⟩,trivial,rfl⟩
def UM{n:Nat}{xs:List AV}(h:CT env.P n 36 xs) : ∃(l:List Int) (x:AV),(∀a∈l, -2147483648<=a/\a<=2147483647)/\xs=[x]/\Sl 1 (rows l) x:=by
 obtain⟨l,x,b,rfl,s⟩:=Dm (P:=env.P) Uz Uy X5 (Yr (by simp)) h;exact⟨l,x,b,rfl,s⟩
def WU(p:aw × AV):List AV:=[a8 p.1.kind,a8 p.1.h.lv,af p.1.h.cats,a8 p.1.h.num,aI p.1.serial,a8 p.1.s.f.h.lv,af p.1.s.f.h.cats,a8 p.1.s.f.h.num,aI p.1.s.f.n,aI p.1.s.many,
 a8 p.1.a.h.lv,af p.1.a.h.cats,a8 p.1.a.h.num,aI p.1.a.n,a8 p.1.to.lv,af p.1.to.cats,p.2]
def MO:OI env.P 38 (λp:aw × AV=>Sl 1 (rows p.1.l) p.2 /\∀a∈p.1.l, -2147483648<=a/\a<=2147483647) WU:=by
 intro n xs h;have h:=mN (P:=env.P) NX h;obtain⟨m,x1,r1,rfl,f,v,r2,rfl,o,w,r3,rfl,i,A,r4,rfl,j,z,r5,rfl,e,x,B,rfl,g,u,r7,rfl,q,rfl⟩:=h;obtain⟨k,_,rfl⟩:=Q5 (P:=env.P) (t:=5) (by simp) _ _ f;obtain⟨b,_,rfl⟩:=Q4 _ _ o;obtain⟨d,_,rfl⟩:=tU (P:=env.P) (t:=3) (by simp) _ _ i;obtain⟨s,_,rfl⟩:=Ys _ _ j;obtain⟨a,_,rfl⟩:=Q3 _ _ e;obtain⟨t,_,rfl⟩:=BK _ _ g;obtain⟨l,y,c,rfl,sl⟩:=UM q;exact⟨(⟨k,b,d,s,a,⟨t.1,t.2⟩,l⟩,y),⟨sl,c⟩,rfl⟩
def aa9{n:Nat}{x:AV}(h:TO env.P n 38 x) : ∃p:aw × AV,(Sl 1 (rows p.1.l) p.2 /\∀a∈p.1.l, -2147483648<=a/\a<=2147483647)/\x = .agg (WU p):=by
 obtain⟨y,rfl,b⟩:=h.agg (by simp);obtain⟨q,c,rfl⟩:=MO _ _ b;exact⟨q,c,rfl⟩
def own:ownKnob Tryz.prog.godebug=none:=by kernel_rfl
def kids:Kids Tryz.prog (· < Tryz.prog.types.size):=kids_rows (by kernel_rfl) (by kernel_rfl)
end Go.Proofs.YtmkmimgokagimaaGreat
