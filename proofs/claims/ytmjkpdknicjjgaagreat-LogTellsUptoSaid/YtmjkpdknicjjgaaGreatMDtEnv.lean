/-
  What is to be shown of each function, computed from its code. No statement of a seat is proved here.
-/
import Derived.Test.YtmjkpdknicjjgaaGreatMSlVc22
set_option linter.unusedVariables false
set_option linter.unusedSimpArgs false
set_option linter.unusedSectionVars false
set_option linter.unnecessarySimpa false
set_option maxRecDepth 1000000
set_option linter.defProp false
noncomputable section
namespace Go.Proofs.YtmjkpdknicjjgaaGreat
open Go.Ab
section
variable(dep:Nat)(g:Nat->AV)(x0 a b:AV)(H:aa)(Q:AV->aa->Prop)
def tZ:Prop:=
 eA H 1 36 x0 λe H1=>
 ad H1 36 e λv2=>
 bI true H1 16 99 [v2] λv3 H2=>
 j5 37 17 0 v3 λv4=>
 br (some v4) (
 Q (.tup [(.v (.slice none 0 0)),v3]) H2) (
 ak 36 e 1 λv5=>
 ad H2 29 v5 λv6=>
 bI true H2 23 66 [v6] λv7 H3=>
 bj v7 0 λv8=>
 bj v7 1 λv9=>
 ak 36 e 3 λN=>
 ak 33 N 0 λY=>
 ad H3 31 Y λv12=>
 bI true H3 30 100 [v12] λx H4=>
 bj x 0 λZ=>
 bj x 1 λv15=>
 ak 36 e 0 λJ=>
 ad H4 5 J λv17=>
 nz H4 35 57 1 0 v17 λW o=>
 ak 36 e 2 λU=>
 ad o 3 U λS=>
 Yy 3 38 S λD=>
 dy o 40 3 5 D λM=>
 ak 36 e 2 λv23=>
 ad o 3 v23 λv24=>
 Sy 3 42 v24 λV=>
 dy o 44 3 5 V λR=>
 ak 36 e 2 λG=>
 ad o 3 G λX=>
 dy o 47 3 5 X λI=>
 Pc o 48 57 3 0 M 1 R 2 I λO H6=>
 ak 36 e 3 λv31=>
 ak 33 v31 1 λv32=>
 ad H6 3 v32 λv33=>
 dy H6 53 3 5 v33 λv34=>
 nz H6 54 57 1 0 v34 λE H7=>
 gh (lH env.P false true H7 (Ref.mk 0 55 (aa.gen H7 0 55) 0) 79 5 (some [(0,W),(1,v8),(2,O),(3,Z),(4,E)])) λA H8=>
 bI true H8 56 43 [A] λj H9=>
 ak 36 e 0 λK=>
 ad H9 5 K λz=>
 wq 5 58 z λB=>
 br (some B) (
 SB H9 61 57 13 λs c=>
 ak 36 e 4 λt=>
 ad c 31 t λq=>
 ee 31 λp=>
 yZ 31 63 64 q p λk=>
 br (some k) (
 ak 36 e 4 λh=>
 ad c 31 h λl=>
 bI true c 69 100 [l] λd f=>
 bj d 0 λi=>
 bj d 1 λF=>
 ak 36 e 6 λm=>
 ad f 34 m λw=>
 bI true f 75 101 [w] λy n=>
 bj y 0 λv54=>
 bj y 1 λv55=>
 Pc n 81 79 3 0 j 1 i 2 v54 λT u=>
 bI true u 82 43 [T] λL C=>
 Q (.tup [L,(.v (.int .i64 0))]) C) (
 ak 36 e 6 λh=>
 ad c 34 h λl=>
 bI true c 75 101 [l] λd f=>
 bj d 0 λi=>
 bj d 1 λF=>
 Pc f 81 79 3 0 j 1 s 2 i λm n=>
 bI true n 82 43 [m] λw u=>
 Q (.tup [w,(.v (.int .i64 0))]) u)) (
 yA 5 58 z λs=>
 br (some s) (
 ak 36 e 5 λt=>
 ad H9 27 t λq=>
 uc 29 0 q λp=>
 bI true H9 89 66 [p] λk c=>
 bj k 0 λh=>
 bj k 1 λl=>
 Ik c 57 h λd=>
 dG c 95 57 57 j d λi f=>
 Q (.tup [i,(.v (.int .i64 0))]) f) (
 Q (.tup [j,(.v (.int .i64 0))]) H9)))
theorem zZ(h : ∀g:iR,tZ x0 H Q):ig Tryz.f67 0 [(0,x0)] H Q:=mO (by kernel_rfl) h
def I4:Prop:=
 iy H 2 36 λc H1=>
 uc 202 0 x0 λv2=>
 eA H1 17 202 v2 λz H2=>
 dL (yL (.func 129) (some [z]) (some [])) λv4=>
 dL (yL (.func 130) (some [z]) (some [])) λv5=>
 YE H2 23 v4 λv6 H3=>
 fH H3 57 v6 0 λv7=>
 ad H3 5 v7 λv8=>
 ak 36 c 0 λv9=>
 aT H3 5 v9 v8 λv10 H4=>
 gh (aV env true (ay env) (cD env 0) H4 (Ref.mk 0 29 (aa.gen H4 0 29) 0) (some v4) [(.v (.int .i64 6))]) λv11 H5=>
 bI true H5 30 111 [v11] λv12 H6=>
 bj v12 0 λv13=>
 bj v12 1 λv14=>
 iy H6 8 29 λv15 H7=>
 aT H7 29 v15 v13 λv16 H8=>
 gh (aV env true (ay env) (cD env 0) H8 (Ref.mk 0 34 (aa.gen H8 0 34) 0) (some v4) [(.v (.int .i64 3))]) λx H9=>
 ad H9 29 v15 λv18=>
 fH H9 57 x 0 λv19=>
 ad H9 5 v19 λv20=>
 dy H9 39 5 3 v20 λv21=>
 SC 3 39 v21 λv22=>
 fH H9 57 x 1 λv23=>
 ad H9 5 v23 λv24=>
 dy H9 44 5 3 v24 λv25=>
 Pg 3 44 v25 λv26=>
 E9 3 40 45 v22 v26 λv27=>
 fH H9 57 x 2 λv28=>
 ad H9 5 v28 λv29=>
 dy H9 50 5 3 v29 λv30=>
 E9 3 46 50 v27 v30 λv31=>
 ak 36 c 1 λf=>
 aT H9 29 f v18 λv33 H10=>
 ak 36 c 2 λv34=>
 aT H10 3 v34 v31 λv35 H11=>
  qU [(x,f),(v19,f),(v20,f),(x,f),(v23,f),(v24,f),(x,f),(v28,f),(v29,f)] [f,v34] [] H11 /\
 (gh (aV env true (ay env) (cD env 0) H11 (Ref.mk 0 55 (aa.gen H11 0 55) 0) (some v5) [(.v (.bool false))]) λv36 H12=>
 ak 36 c 3 λv37=>
 ak 33 v37 0 λv38=>
 aT H12 31 v38 v36 λv39 H13=>
 YE H13 59 v4 λv40 K=>
 fH K 57 v40 0 λv41=>
 ad K 5 v41 λv42=>
 dy K 62 5 3 v42 λv43=>
 ak 36 c 3 λv44=>
 ak 33 v44 1 λv45=>
 aT K 3 v45 v43 λv46 d=>
 o3 z λv47=>
 ak 202 v47 2 λv48=>
 ad d 4 v48 λv49=>
 gQ v49 false (bF v14) λv50=>
 gQ v49 false (vf 37 70 0 v50) λv51=>
 cM v49 v51 λI=>
 gQ I false (az 36 c 3) λv53=>
 gQ I false (az 33 v53 1) λv54=>
 gQ I false (au d 3 v54) λv55=>
 gQ I false (y8 3 76 64 v55) λv56=>
 cM I v56 λv57=>
 br (some v57) (
 ee 36 λY=>
 aT d 36 c Y λv59 e=>
 bp e c 36 λX=>
 Q (.tup [X,(.v (.int .i64 0)),(.v (.int .i64 8))]) e) (
 ak 36 c 0 λY=>
 ad d 5 Y λv59=>
 wq 5 81 v59 λX=>
 br (some X) (
 gh (aV env true (ay env) (cD env 0) d (Ref.mk 0 85 (aa.gen d 0 85) 0) (some v5) [(.v (.bool true))]) λv61 e=>
 ak 36 c 4 λB=>
 aT e 31 B v61 λO h=>
 ak 36 c 3 λm=>
 ak 33 m 1 λA=>
 ad h 3 A λp=>
 qn 3 4 91 p λG=>
 Kw h 93 v4 G λJ H18=>
 bI true H18 94 131 [J] λi R=>
 bj i 0 λE=>
 bj i 1 λj=>
 o3 z λC=>
 ak 202 C 2 λL=>
 ad R 4 L λn=>
 gQ n false (bF j) λD=>
 gQ n false (vf 37 104 0 D) λT=>
 cM n T λv77=>
 ak 36 c 6 λv78=>
 aT R 34 v78 E λv79 W=>
 o3 z λv80=>
 ak 202 v80 2 λV=>
 aT W 4 V v77 λv82 u=>
 o3 z λv83=>
 ak 202 v83 2 λv84=>
 ad u 4 v84 λq=>
 gQ q false (au u 36 c) λs=>
 gW q false u (gy true u 141 99 [s]) λZ k=>
 gQ q false (vf 37 141 0 Z) λS=>
 cM q S λU=>
 br (some U) (
 ee 36 λF=>
 aT k 36 c F λy l=>
 bp l c 36 λo=>
 Q (.tup [o,(.v (.int .i64 0)),(.v (.int .i64 8))]) l) (
 ad k 36 c λF=>
 o3 z λy=>
 ak 202 y 1 λo=>
 ad k 3 o λw=>
 aT k 36 c F λv94 l=>
  qU [(o,c)] [c] [] l /\
 (bp l c 36 λv95=>
 Q (.tup [v95,w,(.v (.int .i64 0))]) l))) (
 yA 5 81 v59 λv61=>
 br (some v61) (
 gh (aV env true (ay env) (cD env 0) d (Ref.mk 0 114 (aa.gen d 0 114) 0) (some v4) [(.v (.int .i64 5))]) λB e=>
 bI true e 115 132 [B] λO h=>
 Pd h 116 57 1 λm H18=>
 dG H18 117 57 57 O m λA R=>
 bI true R 118 111 [A] λp W=>
 bj p 0 λG=>
 bj p 1 λJ=>
 iy W 13 29 λi u=>
 aT u 29 i G λE k=>
 ak 29 i 0 λj=>
 ad k 27 j λC=>
 o3 z λL=>
 ak 202 L 2 λn=>
 ad k 4 n λD=>
 gQ D false (bF J) λT=>
 gQ D false (vf 37 129 0 T) λv77=>
 cM D v77 λv78=>
 ak 36 c 5 λv79=>
 aT k 27 v79 C λv80 l=>
 o3 z λV=>
 ak 202 V 2 λv82=>
 aT l 4 v82 v78 λv83 M=>
 o3 z λv84=>
 ak 202 v84 2 λq=>
 ad M 4 q λs=>
 gQ s false (au M 36 c) λZ=>
 gW s false M (gy true M 141 99 [Z]) λS N=>
 gQ s false (vf 37 141 0 S) λU=>
 cM s U λF=>
 br (some F) (
 ee 36 λy=>
 aT N 36 c y λo t=>
 bp t c 36 λw=>
 Q (.tup [w,(.v (.int .i64 0)),(.v (.int .i64 8))]) t) (
 ad N 36 c λy=>
 o3 z λo=>
 ak 202 o 1 λw=>
 ad N 3 w λv94=>
 gh (
  iV env.P N 36 (some c) (some y)) λv95 t=>
  qU [(w,c)] [c] [] t /\
 (bp t c 36 λv96=>
 Q (.tup [v96,v94,(.v (.int .i64 0))]) t))) (
 o3 z λB=>
 ak 202 B 2 λO=>
 ad d 4 O λm=>
 gQ m false (au d 36 c) λA=>
 gW m false d (gy true d 141 99 [A]) λp e=>
 gQ m false (vf 37 141 0 p) λG=>
 cM m G λJ=>
 br (some J) (
 ee 36 λi=>
 aT e 36 c i λE h=>
 bp h c 36 λj=>
 Q (.tup [j,(.v (.int .i64 0)),(.v (.int .i64 8))]) h) (
 ad e 36 c λi=>
 o3 z λE=>
 ak 202 E 1 λj=>
 ad e 3 j λC=>
 gh (
  iV env.P e 36 (some c) (some i)) λL h=>
  qU [(j,c)] [c] [] h /\
 (bp h c 36 λn=>
 Q (.tup [n,C,(.v (.int .i64 0))]) h))))))
theorem Qv(h : ∀g:iR,I4 x0 H Q):ig Tryz.f112 0 [(0,x0)] H Q:=mO (by kernel_rfl) h
def dU:=uI Tryz.f43 3
def dJ:=uI Tryz.f43 11
def jK:Nat->Option (List Nat):=λi=>cond (Nat.beq i 3) (some [11,3,9,0,10]) (cond (Nat.beq i 11) (some [27,6,25,26]) (none))
def mN:Prop:=
 dO H 10 79 x0 λc=>
  cB env Tryz.f43 0 dU [(11,(.v (.int .i64 0))),(3,(.v (.int .i64 0))),(9,x0),(0,x0),(10,c)] H Q
theorem sM(h : ∀g:iR,mN x0 H Q):ig Tryz.f43 0 [(0,x0)] H Q:=xV jK (by kernel_rfl) h
def iZ(g:Nat->AV)(c l e x0 d:AV)(H:aa)(Q:AV->aa->Prop):Prop:=
 fQ 3 11 10 c d λm=>
 br (some m) (
 dF H 79 e c λh=>
 ad H 57 h λi=>
 dO H 17 57 i λp=>
 fJ 3 15 17 l p λf=>
 sG 3 19 0 f λn=>
 br (some n) (
 dL (yc env.P 9 (some (.v (.string ⟨#[108,101,110,32,111,117,116,32,111,102,32,114,97,110,103,101]⟩)))) λj=>
 dL (none) λq=>
 jh 3 11 1 c λo=>
  cB env Tryz.f43 0 dU [(11,o),(3,f),(9,e),(0,x0),(10,d)] H Q) (
 jh 3 11 1 c λj=>
  cB env Tryz.f43 0 dU [(11,j),(3,f),(9,e),(0,x0),(10,d)] H Q)) (
 bI true H 24 72 [(.v (.slice none 0 0)),l] λh k=>
 dO k 26 79 x0 λi=>
  cB env Tryz.f43 0 dJ [(27,(.v (.int .i64 0))),(6,h),(25,x0),(26,i)] k Q)
theorem lV(c f e x0 d:AV)(H:aa)(Q:AV->aa->Prop)(h : ∀g,iZ g c f e x0 d H Q):cB env Tryz.f43 0 dU [(11,c),(3,f),(9,e),(0,x0),(10,d)] H Q:=xW jK (by kernel_rfl) h
def fl(g:Nat->AV)(c f e d:AV)(H:aa)(Q:AV->aa->Prop):Prop:=
 fQ 3 27 26 c d λh=>
 br (some h) (
 dF H 79 e c λj=>
 ad H 57 j λm=>
 dG H 33 57 57 f m λl k=>
 jh 3 27 1 c λi=>
  cB env Tryz.f43 0 dJ [(27,i),(6,l),(25,e),(26,d)] k Q) (
 Q f H)
theorem lj(e f d c:AV)(H:aa)(Q:AV->aa->Prop)(h : ∀g,fl g e f d c H Q):cB env Tryz.f43 0 dJ [(27,e),(6,f),(25,d),(26,c)] H Q:=xW jK (by kernel_rfl) h
def qP:=uI Tryz.f101 6
def Cx:Nat->Option (List Nat):=λi=>cond (Nat.beq i 6) (some [15,5,13,14]) (none)
def yv:Prop:=
 bI true H 9 123 [x0] λd c=>
 j5 37 10 0 d λe=>
 br (some e) (
 Q (.tup [(.v (.slice none 0 0)),d]) c) (
 dO c 14 34 x0 λf=>
  cB env Tryz.f101 0 qP [(15,(.v (.int .i64 0))),(5,(.v (.slice none 0 0))),(13,x0),(14,f)] c Q)
theorem Jx(h : ∀g:iR,yv x0 H Q):ig Tryz.f101 0 [(0,x0)] H Q:=xV Cx (by kernel_rfl) h
def qY(g:Nat->AV)(c l e d:AV)(H:aa)(Q:AV->aa->Prop):Prop:=
 fQ 3 15 14 c d λm=>
 br (some m) (
 dF H 34 e c λs=>
 ad H 21 s λf=>
 dL (bN env.P .shr 21 (Operand.tmp 20) (.const (.int .u64 24)) (some f) (some (.v (.int .u64 24)))) λw=>
 dy H 22 21 5 w λq=>
 Yy 21 23 f λn=>
 dy H 25 21 5 n λo=>
 Sy 21 26 f λp=>
 dy H 28 21 5 p λt=>
 dy H 30 21 5 f λh=>
 Pf H 31 57 4 0 q 1 o 2 t 3 h λj u=>
 dG u 32 57 57 l j λk H2=>
 jh 3 15 1 c λi=>
  cB env Tryz.f101 0 qP [(15,i),(5,k),(13,e),(14,d)] H2 Q) (
 Q (.tup [l,(.v (.int .i64 0))]) H)
theorem zj(c f e d:AV)(H:aa)(Q:AV->aa->Prop)(h : ∀g,qY g c f e d H Q):cB env Tryz.f101 0 qP [(15,c),(5,f),(13,e),(14,d)] H Q:=xW Cx (by kernel_rfl) h
def ry:Code:=(Tryz.f129.body).getD .skip
def fx:Prop:=
 o3 x0 λR=>
 ak 202 R 2 λU=>
 ad H 4 U λc=>
 gQ c false (bF x0) λN=>
 gQ c false (Ln (some N)) λL=>
 gQ c false (az 202 L 0) λS=>
 gQ c false (au H 57 S) λK=>
 gQ c false (cO env.P false (aa.get H) (⟨(dep+1),15,aa.gen H (dep+1) 15,0⟩:Ref) .len #[57] [K]) λT=>
 gQ c false (bF x0) λM=>
 gQ c false (Ln (some M)) λz=>
 gQ c false (az 202 z 1) λl=>
 gQ c false (au H 3 l) λo=>
 gQ c false (bN env.P .sub 3 (Operand.tmp 15) (Operand.tmp 19) (some T) (some o)) λk=>
 gQ c false (bF a) λm=>
 gQ c false (O8 3 20 21 k m) λD=>
 cM c D λu=>
 o3 x0 λA=>
 ak 202 A 2 λf=>
 aT H 4 f u λV e=>
 o3 x0 λG=>
 ak 202 G 2 λn=>
 ad e 4 n λx=>
 br (some x) (
 gh (lD e (⟨(dep+1),31,aa.gen e (dep+1) 31,0⟩:Ref) (xk env.P (⟨(dep+1),31,aa.gen e (dep+1) 31,0⟩:Ref) 57 (some a) (some a))) λd H2=>
 Q d H2) (
 o3 x0 λd=>
 ak 202 d 1 λt=>
 ad e 3 t λJ=>
 fJ 3 35 36 J a λI=>
 o3 x0 λs=>
 ak 202 s 1 λj=>
 aT e 3 j I λO H2=>
 o3 x0 λE=>
 ak 202 E 0 λC=>
 ad H2 57 C λy=>
 o3 x0 λv=>
 ak 202 v 1 λB=>
 ad H2 3 B λq=>
 Ij 3 47 48 q a λh=>
 o3 x0 λp=>
 ak 202 p 1 λw=>
 ad H2 3 w λF=>
 dL (cm env.P (aa.get H2) 57 (some y) (oi h) (oi F) (some none)) λi=>
 Q i H2)
theorem rp(h : ∀g:iR,fx dep x0 a H Q):ig Tryz.f129 (dep+1) [(0,x0),(1,a)] H Q:=mO (by kernel_rfl) h
def sX:Code:=(Tryz.f130.body).getD .skip
def fX:Prop:=
 YN H dep 4 31 λy x=>
 gh (aV env true (ay env) (cD env (dep+1)) x (⟨(dep+1),10,aa.gen x (dep+1) 10,0⟩:Ref) (some (.fn (.func 129) [] [])) [x0,(.v (.int .i64 13))]) λB H2=>
 gh (aV env true (ay env) (cD env (dep+1)) H2 (⟨(dep+1),13,aa.gen H2 (dep+1) 13,0⟩:Ref) (some (.fn (.func 149) [] [])) [B]) λC J=>
 bj C 0 λG=>
 bj C 1 λE=>
 YN J dep 6 31 λz L=>
 aT L 31 z G λN e=>
 gQ a true (bF B) λK=>
 gW a true e (lD e (⟨(dep+1),19,aa.gen e (dep+1) 19,0⟩:Ref) (xk env.P (⟨(dep+1),19,aa.gen e (dep+1) 19,0⟩:Ref) 57 (some (AV.v (Value.int IntKind.i64 13))) (some (AV.v (Value.int IntKind.i64 13))))) λF l=>
 gW a true l (aV env true (ay env) (cD env (dep+1)) l (⟨(dep+1),20,aa.gen l (dep+1) 20,0⟩:Ref) (some (.fn (.func 63) [] [])) [K,F]) λp A=>
 ct a p λi=>
 o3 x0 λk=>
 ak 202 k 2 λh=>
 ad A 4 h λc=>
 gQ c false (bF E) λs=>
 gQ c false (vf 37 28 0 s) λn=>
 gQ c false (bF n) λd=>
 gQ d true (bF i) λf=>
 gQ d true (vd f) λu=>
 gQ c false (O7 d u) λt=>
 cM c t λj=>
 o3 x0 λo=>
 ak 202 o 2 λq=>
 aT A 4 q j λI D=>
 ad D 31 z λw=>
 aT D 31 y w λM H9=>
 bp H9 y 31 λm=>
 Q m H9
theorem sN(h : ∀g:iR,fX dep x0 a H Q):ig Tryz.f130 (dep+1) [(0,x0),(1,a)] H Q:=mO (by kernel_rfl) h
def Kn:Code:=(Tryz.f131.body).getD .skip
def kL:List Item:=(k6 10006 400 [.code Kn]).getD []
def eK:Code:=rfA kL
def eJ:Code:=rfB kL
def uC:List Item:=rfK kL
def yl:Nat->Option (List Nat):=λi=>cond (Nat.beq i 10006) (some [16,2]) (none)
def CM:Nat->Bool:=λi=>false
def CZ:Prop:=
 iy H 2 34 λd c=>
 dO c 8 57 x0 λi=>
 wx 3 8 256 i λl=>
 br (some l) (
 Kv c 34 d λf H2=>
 bp H2 d 34 λe=>
 Q (.tup [e,(.v (.int .i64 4))]) H2) (
 dO c 12 57 x0 λf=>
 sH 3 12 4 f λe=>
 wx 3 13 0 e λj=>
 br (some j) (
 Kv c 34 d λh H2=>
 bp H2 d 34 λk=>
 Q (.tup [k,(.v (.int .i64 8))]) H2) (
 bI true c 16 42 [x0,(.v (.int .i64 4))] λh H2=>
  cB env Tryz.f131 0 kL [(16,h),(2,d)] H2 Q))
theorem Jy(h : ∀g:iR,CZ x0 H Q):ig Tryz.f131 0 [(0,x0)] H Q:=xV yl (by kernel_rfl) h
def oY(g:Nat->AV)(b:AV)(H:aa)(Q:AV->aa->Prop):Prop:=
 ad H 34 b λh=>
 bI true H 45 123 [h] λe c=>
 j5 37 46 0 e λj=>
 br (some j) (
 Kv c 34 b λf H2=>
 bp H2 b 34 λd=>
 Q (.tup [d,e]) H2) (
 ad c 34 b λf=>
 aT c 34 b f λd H2=>
 bp H2 b 34 λi=>
 Q (.tup [i,(.v (.int .i64 0))]) H2)
theorem Aq(b:AV)(H:aa)(Q:AV->aa->Prop)(h : ∀g,oY g b H Q):cB env Tryz.f131 0 uC [(2,b)] H Q:=⟨λg=>lY (live:=yl) (cut:=CM) (n:=500) (Eq.mp (by kernel_rfl) (h g))⟩
def pB(r:Ref)(g:Nat->AV)(b d:AV)(H:aa)(Q:AV->aa->Prop):Prop:=
 bgP (xq H r) λc=>
 dL (nh env.P (aa.get (aa.put H r (some (dW 1 c)))) 34 (some b)) λE=>
 dL (bK env.P (aa.get (aa.put H r (some (dW 1 c)))) 57 (some d) (some (AV.v (Value.int IntKind.i64 0)))) λF=>
 dL (nh env.P (aa.get (aa.put H r (some (dW 1 c)))) 5 (some F)) λz=>
 dL (bX env.P (aa.get (aa.put H r (some (dW 1 c)))) (⟨2,22,aa.gen (aa.put H r (some (dW 1 c))) 2 22,0⟩:Ref) 5 25 (some z)) λx=>
 dL (bN env.P .shl 25 (Operand.tmp 22) (.const (.int .u64 24)) (some x) (some (.v (.int .u64 24)))) λC=>
 dL (bK env.P (aa.get (aa.put H r (some (dW 1 c)))) 57 (some d) (some (AV.v (Value.int IntKind.i64 1)))) λw=>
 dL (nh env.P (aa.get (aa.put H r (some (dW 1 c)))) 5 (some w)) λD=>
 dL (bX env.P (aa.get (aa.put H r (some (dW 1 c)))) (⟨2,27,aa.gen (aa.put H r (some (dW 1 c))) 2 27,0⟩:Ref) 5 25 (some D)) λy=>
 SC 25 27 y λn=>
 E9 25 23 28 C n λh=>
 dL (bK env.P (aa.get (aa.put H r (some (dW 1 c)))) 57 (some d) (some (AV.v (Value.int IntKind.i64 2)))) λk=>
 dL (nh env.P (aa.get (aa.put H r (some (dW 1 c)))) 5 (some k)) λf=>
 dL (bX env.P (aa.get (aa.put H r (some (dW 1 c)))) (⟨2,33,aa.gen (aa.put H r (some (dW 1 c))) 2 33,0⟩:Ref) 5 25 (some f)) λi=>
 Pg 25 33 i λq=>
 E9 25 29 34 h q λl=>
 dL (bK env.P (aa.get (aa.put H r (some (dW 1 c)))) 57 (some d) (some (AV.v (Value.int IntKind.i64 3)))) λo=>
 dL (nh env.P (aa.get (aa.put H r (some (dW 1 c)))) 5 (some o)) λe=>
 dL (bX env.P (aa.get (aa.put H r (some (dW 1 c)))) (⟨2,39,aa.gen (aa.put H r (some (dW 1 c))) 2 39,0⟩:Ref) 5 25 (some e)) λt=>
 E9 25 35 39 l t λs=>
 dL (bX env.P (aa.get (aa.put H r (some (dW 1 c)))) (⟨2,41,aa.gen (aa.put H r (some (dW 1 c))) 2 41,0⟩:Ref) 25 21 (some s)) λj=>
 gh (lH env.P true false (aa.put H r (some (dW 1 c))) (⟨2,42,aa.gen (aa.put H r (some (dW 1 c))) 2 42,0⟩:Ref) 34 1 (some [(0,j)])) λm u=>
 gh (dm env.P true u (⟨2,43,aa.gen u 2 43,0⟩:Ref) (some 34) (some 34) E m) λp H2=>
 aT H2 34 b p λA B=>
 Q (.v (.int .i64 0)) B
theorem Br(r:Ref)(b c:AV)(H:aa)(Q:AV->aa->Prop)(h : ∀g,pB r g b c H Q):V6 env Tryz.f131 (some r) 2 [.code eK,.beginRound,.code eJ] [(2,b),(17,c)] H Q:=⟨λg=>lY (live:=yl) (cut:=CM) (n:=500) (Eq.mp (by kernel_rfl) (h g))⟩
def zW:Prop:=
 Sz 57 3 x0 λe=>
 br (some e) (
 Q (.v (.slice none 0 0)) H) (
 gh (lH env.P false true H (Ref.mk 0 5 (aa.gen H 0 5) 0) 57 0 (some [])) λc d=>
 dG d 7 57 57 c x0 λf H2=>
 Q f H2)
theorem FV(h : ∀g:iR,zW x0 H Q):ig Tryz.f132 0 [(0,x0)] H Q:=mO (by kernel_rfl) h
def j3:Prop:=
 eA H 2 57 x0 λe f=>
 eA f 3 3 a λc H2=>
 ad H2 3 c λj=>
 sG 3 5 1 j λh=>
 br (some h) (
 dL (yc env.P 9 (some (.v (.string ⟨#[99,97,110,110,111,116,32,98,101,32,108,101,115,115,32,116,104,97,110,32,49]⟩)))) λd=>
 dL (none) λk=>
 dL (yL (.func 71) (some []) (some [e,c])) λi=>
 Q i H2) (
 dL (yL (.func 71) (some []) (some [e,c])) λd=>
 Q d H2)
theorem nf(h : ∀g:iR,j3 x0 a H Q):ig Tryz.f42 0 [(0,x0),(1,a)] H Q:=mO (by kernel_rfl) h
def og:Prop:=
 dy H 6 57 9 x0 λd=>
 dy H 8 57 9 a λc=>
 ve 9 6 8 d c λe=>
 Q e H
theorem FU(h : ∀g:iR,og x0 a H Q):ig Tryz.f63 0 [(0,x0),(1,a)] H Q:=mO (by kernel_rfl) h
def nI:Prop:=
 sG 3 5 0 a λq=>
 br (some q) (
 dL (yc env.P 9 (some (.v (.string ⟨#[99,97,110,110,111,116,32,98,101,32,110,101,103,97,116,105,118,101]⟩)))) λo=>
 dL (none) λp=>
 Pb H 10 57 x0 λj=>
 dO H 12 57 x0 λf=>
 Ij 3 10 12 j f λk=>
 Ij 3 8 13 a k λh=>
 wx 3 15 0 h λm=>
 br (some m) (
 Pb H 19 57 x0 λi=>
 DX H 57 x0 i λe=>
 dG H 22 57 3 e h λd c=>
 dO c 24 57 x0 λl=>
 DX c 57 d l λn=>
 Q n c) (
 Q x0 H)) (
 Pb H 10 57 x0 λo=>
 dO H 12 57 x0 λp=>
 Ij 3 10 12 o p λj=>
 Ij 3 8 13 a j λf=>
 wx 3 15 0 f λk=>
 br (some k) (
 Pb H 19 57 x0 λh=>
 DX H 57 x0 h λm=>
 dG H 22 57 3 m f λi c=>
 dO c 24 57 x0 λe=>
 DX c 57 i e λd=>
 Q d c) (
 Q x0 H))
theorem tG(h : ∀g:iR,nI x0 a H Q):ig Tryz.f72 0 [(0,x0),(1,a)] H Q:=mO (by kernel_rfl) h
def mm:Code:=(Tryz.f71.body).getD .skip
def cP:=uI Tryz.f71 1
def mg:Nat->Option (List Nat):=λi=>cond (Nat.beq i 1) (some [2,4,1,0]) (none)
def jr:Prop:=
 cB env Tryz.f71 (dep+1) cP [(2,b),(4,(.v (.int .i64 0))),(1,a),(0,x0)] H Q
theorem lZ(h : ∀g:iR,jr dep x0 a b H Q):ig Tryz.f71 (dep+1) [(0,x0),(1,a),(2,b)] H Q:=xV mg (by kernel_rfl) h
def cS(dep:Nat)(g:Nat->AV)(b c a x0:AV)(H:aa)(Q:AV->aa->Prop):Prop:=
 ad H 57 a λn=>
 Pj H dep 8 57 n λs=>
 fQ 3 6 8 c s λw=>
 br (some w) (
 ad H 3 b λu=>
 ad H 57 a λq=>
 yz H 57 q c λo=>
 Pj H dep 17 57 o λp=>
 dL (cO env.P true (aa.get H) (⟨(dep+1),18,aa.gen H (dep+1) 18,0⟩:Ref) .min #[3,3] [u,p]) λm=>
 ad H 57 a λt=>
 fJ 3 22 23 c m λe=>
 fJ 3 25 26 c m λi=>
 dL (cm env.P (aa.get H) 57 (some t) (oi c) (oi e) (oi i)) λl=>
 gh (aV env true (ay env) (cD env (dep+1)) H (⟨(dep+1),29,aa.gen H (dep+1) 29,0⟩:Ref) (some x0) [l]) λf h=>
 mE f λj=>
 br (some j) (
 Q (.v (.tuple #[])) h) (
 ad h 3 b λk=>
 fJ 3 10 11 c k λd=>
  cB env Tryz.f71 (dep+1) cP [(2,b),(4,d),(1,a),(0,x0)] h Q)) (
 Q (.v (.tuple #[])) H)
theorem dH(dep:Nat)(b c a x0:AV)(H:aa)(Q:AV->aa->Prop)(h : ∀g,cS dep g b c a x0 H Q):cB env Tryz.f71 (dep+1) cP [(2,b),(4,c),(1,a),(0,x0)] H Q:=xW mg (by kernel_rfl) h
def jb:=uI Tryz.f6 3
def pO:Nat->Option (List Nat):=λi=>cond (Nat.beq i 3) (some [4,1,3,2]) (none)
def pW:Prop:=
 eA H 1 24 x0 λe d=>
 iy d 2 24 λc H2=>
  cB env Tryz.f6 0 jb [(4,(.v (.int .i64 0))),(1,e),(3,(.v (.slice none 0 0))),(2,c)] H2 Q
theorem wL(h : ∀g:iR,pW x0 H Q):ig Tryz.f6 0 [(0,x0)] H Q:=xV pO (by kernel_rfl) h
def eC(g:Nat->AV)(d a w b:AV)(H:aa)(Q:AV->aa->Prop):Prop:=
 ak 24 a 0 λx=>
 ad H 22 x λz=>
 dO H 8 22 z λB=>
 fQ 3 5 8 d B λA=>
 br (some A) (
 ak 24 a 0 λl=>
 ad H 22 l λt=>
 dF H 22 t d λh=>
 ak 59 h 0 λu=>
 ad H 3 u λm=>
 ak 24 a 0 λi=>
 ad H 22 i λn=>
 dF H 22 n d λq=>
 ak 59 q 1 λk=>
 ad H 57 k λo=>
 gh (dm env.P false H (Ref.mk 0 25 (aa.gen H 0 25) 0) (some 57) (some 57) (.v (.slice none 0 0)) o) λp c=>
 tA 59 0 m 1 p λe=>
 gh (lH env.P true true c (Ref.mk 0 27 (aa.gen c 0 27) 0) 22 1 (some [(0,e)])) λj H2=>
 dG H2 28 22 22 w j λf y=>
 jh 3 10 1 d λs=>
  cB env Tryz.f6 0 jb [(4,s),(1,a),(3,f),(2,b)] y Q) (
 ak 24 a 0 λl=>
 aT H 22 l w λt c=>
 ad c 24 a λh=>
 aT c 24 b h λu H2=>
 bp H2 b 24 λm=>
 Q m H2)
theorem oE(c a d b:AV)(H:aa)(Q:AV->aa->Prop)(h : ∀g,eC g c a d b H Q):cB env Tryz.f6 0 jb [(4,c),(1,a),(3,d),(2,b)] H Q:=xW pO (by kernel_rfl) h
def gl:=uI Tryz.f25 2
def qF:Nat->Option (List Nat):=λi=>cond (Nat.beq i 2) (some [3,1]) (none)
def rh:Prop:=
 eA H 1 24 x0 λd c=>
  cB env Tryz.f25 0 gl [(3,(.v (.int .i64 0))),(1,d)] c Q
theorem xL(h : ∀g:iR,rh x0 H Q):ig Tryz.f25 0 [(0,x0)] H Q:=xV qF (by kernel_rfl) h
def bE(g:Nat->AV)(A a:AV)(H:aa)(Q:AV->aa->Prop):Prop:=
 ak 24 a 0 λT=>
 ad H 22 T λU=>
 dO H 8 22 U λV=>
 fQ 3 5 8 A V λS=>
 br (some S) (
 ak 24 a 0 λD=>
 ad H 22 D λK=>
 dF H 22 K A λz=>
 ad H 59 z λL=>
 iy H 4 59 λn R=>
 aT R 59 n L λB H2=>
 ak 59 n 0 λh=>
 ad H2 3 h λq=>
 sG 3 18 0 q λf=>
 gQ f false (az 59 n 0) λo=>
 gQ f false (au H2 3 o) λj=>
 gQ f false (m9 3 22 6146 j) λu=>
 cM f u λe=>
 gQ e false (bF A) λl=>
 gQ e false (y8 3 26 0 l) λd=>
 gQ e false (bF d) λc=>
 gQ c true (az 59 n 0) λp=>
 gQ c true (au H2 3 p) λw=>
 gQ c true (az 24 a 0) λi=>
 gQ c true (au H2 22 i) λt=>
 gQ c true (bF A) λy=>
 gQ c true (YK 3 33 1 y) λx=>
 gQ c true (Ku H2 22 t x) λs=>
 gQ c true (az 59 s 0) λm=>
 gQ c true (au H2 3 m) λG=>
 gQ c true (MQ 3 30 37 w G) λO=>
 gQ e false (O7 c O) λN=>
 cM e N λk=>
 gQ k false (az 59 n 1) λI=>
 gQ k false (au H2 57 I) λM=>
 gQ k false (DY H2 44 57 M) λF=>
 gQ k false (vf 3 44 128 F) λC=>
 cM k C λE=>
 br (some E) (
 Q (.v (.bool false)) H2) (
 jh 3 10 1 A λJ=>
  cB env Tryz.f25 0 gl [(3,J),(1,a)] H2 Q)) (
 ak 24 a 1 λD=>
 ad H 3 D λK=>
 wu 3 48 0 K λz=>
 gQ z true (az 24 a 1) λL=>
 gQ z true (au H 3 L) λn=>
 gQ z true (ql 3 52 2147483648 n) λB=>
 ct z B λh=>
 gQ h true (az 24 a 2) λq=>
 gQ h true (au H 3 q) λf=>
 gQ h true (bN env.P .geq 3 (Operand.tmp 57) (.const (.int .i64 (-1))) (some f) (some (.v (.int .i64 (-1))))) λo=>
 ct h o λj=>
 gQ j true (az 24 a 2) λu=>
 gQ j true (au H 3 u) λe=>
 gQ j true (ql 3 62 2147483648 e) λl=>
 ct j l λd=>
 gQ d true (az 24 a 3) λc=>
 gQ d true (au H 4 c) λp=>
 gQ d true (vd p) λw=>
 gQ d true (bF w) λi=>
 gQ i false (az 24 a 2) λt=>
 gQ i false (au H 3 t) λy=>
 gQ i false (ud 3 71 0 y) λx=>
 gQ d true (O6 i x) λs=>
 ct d s λm=>
 Q m H)
theorem jw(c a:AV)(H:aa)(Q:AV->aa->Prop)(h : ∀g,bE g c a H Q):cB env Tryz.f25 0 gl [(3,c),(1,a)] H Q:=xW qF (by kernel_rfl) h
def fC:Prop:=
 eA H 3 24 x0 λc E=>
 iy E 6 24 λn H2=>
 ak 24 c 3 λI=>
 ad H2 4 I λs=>
 gQ s false (az 24 c 2) λD=>
 gQ s false (au H2 3 D) λA=>
 gQ s false (ud 3 11 0 A) λB=>
 cM s B λC=>
 br (some C) (
 ak 24 c 3 λx=>
 gh (iV env.P H2 4 (some x) (some (AV.v (Value.bool true)))) λq f=>
 ad f 24 c λi=>
 aT f 24 n i λe k=>
 bp k n 24 λd=>
 Q d k) (
 ak 24 c 2 λx=>
 ad H2 3 x λq=>
 wx 3 17 0 q λi=>
 br (some i) (
 ak 24 c 2 λe=>
 ad H2 3 e λd=>
 BR 3 20 1 d λj=>
 ak 24 c 2 λl=>
 aT H2 3 l j λu f=>
 ak 24 c 0 λh=>
 ad f 22 h λo=>
 bI true f 27 89 [o,a,b] λm k=>
 ak 24 c 0 λy=>
 aT k 22 y m λG p=>
 ad p 24 c λw=>
 aT p 24 n w λF z=>
 bp z n 24 λt=>
 Q t z) (
 ak 24 c 0 λe=>
 ad H2 22 e λd=>
 bI true H2 27 89 [d,a,b] λj f=>
 ak 24 c 0 λl=>
 aT f 22 l j λu k=>
 ad k 24 c λh=>
 aT k 24 n h λo p=>
 bp p n 24 λm=>
 Q m p))
theorem nN(h : ∀g:iR,fC x0 a b H Q):ig Tryz.f58 0 [(0,x0),(1,a),(2,b)] H Q:=mO (by kernel_rfl) h
def jV:=uI Tryz.f95 2
def rG:Nat->Option (List Nat):=λi=>cond (Nat.beq i 2) (some [5,2,1]) (none)
def rK:Prop:=
 eA H 2 24 x0 λd c=>
  cB env Tryz.f95 0 jV [(5,(.v (.int .i64 0))),(2,d),(1,a)] c Q
theorem yU(h : ∀g:iR,rK x0 a H Q):ig Tryz.f95 0 [(0,x0),(1,a)] H Q:=xV rG (by kernel_rfl) h
def jX(g:Nat->AV)(d b a:AV)(H:aa)(Q:AV->aa->Prop):Prop:=
 ak 24 b 0 λn=>
 ad H 22 n λs=>
 dO H 9 22 s λv=>
 fQ 3 6 9 d v λu=>
 br (some u) (
 ak 24 b 0 λi=>
 ad H 22 i λo=>
 dF H 22 o d λp=>
 ak 59 p 0 λq=>
 ad H 3 q λt=>
 ve 3 18 19 t a λf=>
 br (some f) (
 ak 24 b 0 λc=>
 ad H 22 c λm=>
 dF H 22 m d λh=>
 ak 59 h 1 λk=>
 ad H 57 k λl=>
 Ph H 27 57 57 l λe j=>
 Q e j) (
 jh 3 11 1 d λc=>
  cB env Tryz.f95 0 jV [(5,c),(2,b),(1,a)] H Q)) (
 SB H 28 57 128 λi j=>
 Q i j)
theorem l9(c b a:AV)(H:aa)(Q:AV->aa->Prop)(h : ∀g,jX g c b a H Q):cB env Tryz.f95 0 jV [(5,c),(2,b),(1,a)] H Q:=xW rG (by kernel_rfl) h
def fM:=uI Tryz.f89 3
def fL:=uI Tryz.f89 9
def mh:Nat->Option (List Nat):=λi=>cond (Nat.beq i 3) (some [8,0,7,1,2]) (cond (Nat.beq i 9) (some [9,0,7,1]) (none))
def pV:Prop:=
 cB env Tryz.f89 0 fM [(8,(.v (.int .i64 0))),(0,x0),(7,(.v (.slice none 0 0))),(1,a),(2,b)] H Q
theorem wK(h : ∀g:iR,pV x0 a b H Q):ig Tryz.f89 0 [(0,x0),(1,a),(2,b)] H Q:=xV mh (by kernel_rfl) h
def cW(g:Nat->AV)(c x0 f a b:AV)(H:aa)(Q:AV->aa->Prop):Prop:=
 dO H 12 22 x0 λn=>
 fQ 3 10 12 c n λq=>
 br (some q) (
 dF H 22 x0 c λm=>
 ak 59 m 0 λk=>
 ad H 3 k λi=>
 fQ 3 20 21 i a λd=>
 br (some d) (
 dF H 22 x0 c λe=>
 ad H 59 e λp=>
 nz H 28 22 1 0 p λs j=>
 dG j 29 22 22 f s λh H2=>
 jh 3 14 1 c λl=>
  cB env Tryz.f89 0 fM [(8,l),(0,x0),(7,h),(1,a),(2,b)] H2 Q) (
 jh 3 14 1 c λe=>
  cB env Tryz.f89 0 fM [(8,e),(0,x0),(7,f),(1,a),(2,b)] H Q)) (
 Ph H 33 57 57 b λm j=>
 tA 59 0 a 1 m λk=>
 nz j 35 22 1 0 k λi H2=>
 dG H2 36 22 22 f i λd o=>
  cB env Tryz.f89 0 fL [(9,(.v (.int .i64 0))),(0,x0),(7,d),(1,a)] o Q)
theorem kY(d x0 c a b:AV)(H:aa)(Q:AV->aa->Prop)(h : ∀g,cW g d x0 c a b H Q):cB env Tryz.f89 0 fM [(8,d),(0,x0),(7,c),(1,a),(2,b)] H Q:=xW mh (by kernel_rfl) h
def jf(g:Nat->AV)(c x0 e a:AV)(H:aa)(Q:AV->aa->Prop):Prop:=
 dO H 39 22 x0 λi=>
 fQ 3 37 39 c i λm=>
 br (some m) (
 dF H 22 x0 c λq=>
 ak 59 q 0 λp=>
 ad H 3 p λl=>
 Sx 3 47 48 l a λj=>
 br (some j) (
 dF H 22 x0 c λd=>
 ad H 59 d λk=>
 nz H 55 22 1 0 k λn o=>
 dG o 56 22 22 e n λf H2=>
 jh 3 41 1 c λh=>
  cB env Tryz.f89 0 fL [(9,h),(0,x0),(7,f),(1,a)] H2 Q) (
 jh 3 41 1 c λd=>
  cB env Tryz.f89 0 fL [(9,d),(0,x0),(7,e),(1,a)] H Q)) (
 Q e H)
theorem kX(d x0 c a:AV)(H:aa)(Q:AV->aa->Prop)(h : ∀g,jf g d x0 c a H Q):cB env Tryz.f89 0 fL [(9,d),(0,x0),(7,c),(1,a)] H Q:=xW mh (by kernel_rfl) h
end
section
variable(dep:Nat)(g:Nat->AV)(x0 a:AV)(H:aa)(Q:AV->aa->Prop)
def bZ:Prop:=
 iy H 2 36 λj T=>
 dO T 10 57 x0 λv2=>
 sG 3 10 24 v2 λv3=>
 br (some v3) (
 ee 36 λv4=>
 aT T 36 j v4 λv5 H2=>
 bp H2 j 36 λv6=>
 Q (.tup [v6,(.v (.int .i64 0)),(.v (.int .i64 8))]) H2) (
 fH T 57 x0 0 λv4=>
 ad T 5 v4 λv5=>
 fH T 57 x0 23 λv6=>
 ad T 5 v6 λv7=>
 dy T 19 5 3 v7 λv8=>
 bI false T 20 151 [v5,v8] λF H2=>
 vg 3 21 0 F λB=>
 gQ B false (bF x0) λv11=>
 gQ B false (DY H2 25 57 v11) λv12=>
 gQ B false (bF F) λv13=>
 gQ B false (O8 3 25 26 v12 v13) λv14=>
 cM B v14 λv15=>
 br (some v15) (
 ee 36 λv16=>
 aT H2 36 j v16 λv17 w=>
 bp w j 36 λv18=>
 Q (.tup [v18,(.v (.int .i64 0)),(.v (.int .i64 8))]) w) (
 fH H2 57 x0 0 λv16=>
 ad H2 5 v16 λv17=>
 Yz H2 57 x0 λv18=>
 bI false H2 35 152 [v18] λv19 w=>
 fH w 57 x0 7 λv20=>
 ad w 5 v20 λv21=>
 dy w 39 5 3 v21 λv22=>
 qn 3 65536 39 v22 λv23=>
 fH w 57 x0 8 λv24=>
 ad w 5 v24 λv25=>
 dy w 44 5 3 v25 λv26=>
 qn 3 256 44 v26 λv27=>
 fJ 3 40 45 v23 v27 λv28=>
 fH w 57 x0 9 λv29=>
 ad w 5 v29 λv30=>
 dy w 50 5 3 v30 λv31=>
 fJ 3 46 50 v28 v31 λv32=>
 dL (cm env.P (aa.get w) 57 (some x0) (oi (.v (.int .i64 10))) (oi (.v (.int .i64 23))) (some none)) λv33=>
 bI false w 54 153 [v33] λv34 H4=>
 fH H4 57 x0 23 λv35=>
 ad H4 5 v35 λv36=>
 dy H4 58 5 3 v36 λv37=>
 tA 33 0 v34 1 v37 λv38=>
 dL (nS env.P 36 (some [(0,v17),(1,v19),(2,v32),(3,v38)])) λv39=>
 iy H4 6 36 λb H5=>
 aT H5 36 b v39 λv41 U=>
 ak 36 b 0 λv42=>
 ad U 5 v42 λv43=>
 wq 5 62 v43 λv44=>
 br (some v44) (
 dL (cm env.P (aa.get U) 57 (some x0) (oi (.v (.int .i64 24))) (oi (.v (.int .i64 37))) (some none)) λv45=>
 bI true U 66 153 [v45] λW H7=>
 ak 36 b 4 λv47=>
 aT H7 31 v47 W λR D=>
 dL (cm env.P (aa.get D) 57 (some x0) (oi (.v (.int .i64 37))) (oi F) (some none)) λI=>
 bI true D 72 154 [I] λd H9=>
 bj d 0 λz=>
 bj d 1 λM=>
 j5 3 75 0 M λL=>
 br (some L) (
 ee 36 λt=>
 aT H9 36 j t λS k=>
 bp k j 36 λp=>
 Q (.tup [p,(.v (.int .i64 0)),(.v (.int .i64 8))]) k) (
 ak 36 b 6 λt=>
 aT H9 34 t z λS k=>
 ak 36 b 0 λp=>
 ad k 5 p λA=>
 yA 5 81 A λf=>
 br (some f) (
 YC k 57 x0 λq=>
 Ph k 85 57 57 q λm n=>
 Pd n 86 57 1 λc i=>
 dG i 87 57 57 m c λl e=>
 bI true e 88 152 [l] λG o=>
 dL (tf env.P 29 (some G) 0) λN=>
 ak 36 b 5 λy=>
 aT o 27 y N λO H15=>
 ad H15 36 b λJ=>
 bI false H15 92 52 [J] λu Y=>
 mE u λh=>
 gQ h false (au Y 36 b) λs=>
 gW h false Y (gy false Y 96 86 [s]) λE x=>
 gQ h false (y0 x 97 57 9 E) λZ=>
 gQ h false (bF x0) λC=>
 gQ h false (bF F) λv74=>
 gQ h false (O9 x 57 C v74) λv75=>
 gQ h false (y0 x 101 57 9 v75) λv76=>
 gQ h false (Ii 9 97 101 Z v76) λv77=>
 cM h v77 λv78=>
 br (some v78) (
 ee 36 λV=>
 aT x 36 j V λv80 K=>
 bp K j 36 λX=>
 Q (.tup [X,(.v (.int .i64 0)),(.v (.int .i64 8))]) K) (
 ad x 36 b λV=>
 aT x 36 j V λv80 K=>
 bp K j 36 λX=>
 Q (.tup [X,F,(.v (.int .i64 0))]) K)) (
 ad k 36 b λq=>
 bI false k 92 52 [q] λm n=>
 mE m λc=>
 gQ c false (au n 36 b) λl=>
 gW c false n (gy false n 96 86 [l]) λG i=>
 gQ c false (y0 i 97 57 9 G) λN=>
 gQ c false (bF x0) λy=>
 gQ c false (bF F) λO=>
 gQ c false (O9 i 57 y O) λJ=>
 gQ c false (y0 i 101 57 9 J) λu=>
 gQ c false (Ii 9 97 101 N u) λh=>
 cM c h λs=>
 br (some s) (
 ee 36 λE=>
 aT i 36 j E λZ e=>
 bp e j 36 λC=>
 Q (.tup [C,(.v (.int .i64 0)),(.v (.int .i64 8))]) e) (
 ad i 36 b λE=>
 aT i 36 j E λZ e=>
 bp e j 36 λC=>
 Q (.tup [C,F,(.v (.int .i64 0))]) e)))) (
 ak 36 b 0 λv45=>
 ad U 5 v45 λW=>
 yA 5 81 W λv47=>
 br (some v47) (
 YC U 57 x0 λR=>
 Ph U 85 57 57 R λI H7=>
 Pd H7 86 57 1 λd D=>
 dG D 87 57 57 I d λz H9=>
 bI true H9 88 152 [z] λM k=>
 dL (tf env.P 29 (some M) 0) λL=>
 ak 36 b 5 λt=>
 aT k 27 t L λS n=>
 ad n 36 b λp=>
 bI false n 92 52 [p] λA i=>
 mE A λf=>
 gQ f false (au i 36 b) λq=>
 gW f false i (gy false i 96 86 [q]) λm e=>
 gQ f false (y0 e 97 57 9 m) λc=>
 gQ f false (bF x0) λl=>
 gQ f false (bF F) λG=>
 gQ f false (O9 e 57 l G) λN=>
 gQ f false (y0 e 101 57 9 N) λy=>
 gQ f false (Ii 9 97 101 c y) λO=>
 cM f O λJ=>
 br (some J) (
 ee 36 λu=>
 aT e 36 j u λh o=>
 bp o j 36 λs=>
 Q (.tup [s,(.v (.int .i64 0)),(.v (.int .i64 8))]) o) (
 ad e 36 b λu=>
 aT e 36 j u λh o=>
 bp o j 36 λs=>
 Q (.tup [s,F,(.v (.int .i64 0))]) o)) (
 ad U 36 b λR=>
 bI false U 92 52 [R] λI H7=>
 mE I λd=>
 gQ d false (au H7 36 b) λz=>
 gW d false H7 (gy false H7 96 86 [z]) λM D=>
 gQ d false (y0 D 97 57 9 M) λL=>
 gQ d false (bF x0) λt=>
 gQ d false (bF F) λS=>
 gQ d false (O9 D 57 t S) λp=>
 gQ d false (y0 D 101 57 9 p) λA=>
 gQ d false (Ii 9 97 101 L A) λf=>
 cM d f λq=>
 br (some q) (
 ee 36 λm=>
 aT D 36 j m λc H9=>
 bp H9 j 36 λl=>
 Q (.tup [l,(.v (.int .i64 0)),(.v (.int .i64 8))]) H9) (
 ad D 36 b λm=>
 aT D 36 j m λc H9=>
 bp H9 j 36 λl=>
 Q (.tup [l,F,(.v (.int .i64 0))]) H9)))))
theorem xP(h : ∀g:iR,bZ x0 H Q):ig Tryz.f135 0 [(0,x0)] H Q:=mO (by kernel_rfl) h
def iH:=uI Tryz.f53 2
def pe:Nat->Option (List Nat):=λi=>cond (Nat.beq i 2) (some [3,1]) (none)
def pk:Prop:=
 eA H 1 36 x0 λc b=>
  cB env Tryz.f53 0 iH [(3,(.v (.int .i64 0))),(1,c)] b Q
theorem vL(h : ∀g:iR,pk x0 H Q):ig Tryz.f53 0 [(0,x0)] H Q:=xV pe (by kernel_rfl) h
def iM(g:Nat->AV)(c a:AV)(H:aa)(Q:AV->aa->Prop):Prop:=
 ak 36 a 6 λd=>
 ad H 34 d λj=>
 dO H 7 34 j λm=>
 fQ 3 4 7 c m λl=>
 br (some l) (
 ak 36 a 6 λi=>
 ad H 34 i λe=>
 dF H 34 e c λf=>
 ad H 21 f λh=>
 dL (bN env.P .eql 21 (Operand.tmp 15) (.const (.int .i32 (-1))) (some h) (some (.v (.int .i32 (-1))))) λk=>
 br (some k) (
 Q (.v (.bool false)) H) (
 jh 3 9 1 c λb=>
  cB env Tryz.f53 0 iH [(3,b),(1,a)] H Q)) (
 Q (.v (.bool true)) H)
theorem nP(b a:AV)(H:aa)(Q:AV->aa->Prop)(h : ∀g,iM g b a H Q):cB env Tryz.f53 0 iH [(3,b),(1,a)] H Q:=xW pe (by kernel_rfl) h
def fu:Prop:=
 sG 3 5 1 a λb=>
 gQ b false (bF a) λf=>
 gQ b false (y8 3 8 64 f) λh=>
 cM b h λi=>
 br (some i) (
 Q (.v (.int .i64 0)) H) (
 wq 5 11 x0 λe=>
 br (some e) (
 qn 3 4 13 a λc=>
 dL (bN env.P .add 3 (Operand.const (Value.int IntKind.i64 37)) (Operand.tmp 14) (some (AV.v (Value.int IntKind.i64 37))) (some c)) λd=>
 Q d H) (
 Fa 5 16 x0 λc=>
 br (some c) (
 Q (.v (.int .i64 24)) H) (
 yA 5 18 x0 λd=>
 br (some d) (
 Q (.v (.int .i64 29)) H) (
 Q (.v (.int .i64 0)) H))))
theorem wS(h : ∀g:iR,fu x0 a H Q):ig Tryz.f151 0 [(0,x0),(1,a)] H Q:=mO (by kernel_rfl) h
def aQ:Prop:=
 eA H 1 36 x0 λe H1=>
 ak 36 e 1 λv2=>
 ad H1 29 v2 λv3=>
 bI true H1 6 51 [v3] λv4 H2=>
 mE v4 λJ=>
 gQ J false (az 36 e 2) λv6=>
 gQ J false (au H2 3 v6) λv7=>
 gQ J false (ql 3 10 1 v7) λv8=>
 cM J v8 λK=>
 gQ K false (az 36 e 2) λX=>
 gQ K false (au H2 3 X) λN=>
 gQ K false (m9 3 15 16777216 N) λS=>
 cM K S λk=>
 gQ k false (az 36 e 3) λO=>
 gQ k false (au H2 33 O) λv15=>
 gW k false H2 (gy true H2 21 79 [v15]) λW o=>
 gQ k false (vd W) λY=>
 cM k Y λL=>
 br (some L) (
 Q (.v (.bool false)) o) (
 ak 36 e 5 λv19=>
 ad o 27 v19 λv20=>
 ee 27 λR=>
 ve 27 25 26 v20 R λh=>
 ak 36 e 0 λZ=>
 ad o 5 Z λV=>
 wq 5 29 V λv25=>
 br (some v25) (
 gQ h true (az 36 e 4) λI=>
 gQ h true (au o 31 I) λA=>
 gW h true o (gy true o 35 80 [A]) λu j=>
 gQ h true (bF u) λc=>
 gQ c false (az 36 e 4) λF=>
 gQ c false (au j 31 F) λE=>
 gW c false j (gy true j 39 81 [E]) λD m=>
 gQ h true (O6 c D) λB=>
 ct h B λd=>
 gQ d true (az 36 e 3) λy=>
 gQ d true (az 33 y 0) λq=>
 gQ d true (az 31 q 0) λn=>
 gQ d true (au m 29 n) λC=>
 gQ d true (az 36 e 1) λf=>
 gQ d true (au m 29 f) λs=>
 gQ d true (kK 29 46 48 C s) λp=>
 ct d p λb=>
 gQ b true (az 36 e 6) λi=>
 gQ b true (au m 34 i) λG=>
 gQ b true (DY m 54 34 G) λt=>
 gQ b true (az 36 e 3) λx=>
 gQ b true (az 33 x 1) λz=>
 gQ b true (au m 3 z) λw=>
 gQ b true (kK 3 54 57 t w) λU=>
 ct b U λl=>
 gQ l true (az 36 e 6) λM=>
 gQ l true (au m 34 M) λT=>
 gW l true m (gy true m 63 82 [T]) λv53 H6=>
 gQ l true (ud 3 63 0 v53) λv54=>
 ct l v54 λv55=>
 Q v55 H6) (
 ak 36 e 4 λI=>
 ad o 31 I λA=>
 bI true o 68 80 [A] λu j=>
 mE u λc=>
 gQ c false (az 36 e 6) λF=>
 gQ c false (au j 34 F) λE=>
 gQ c false (DY j 73 34 E) λD=>
 gQ c false (y8 3 73 0 D) λB=>
 cM c B λd=>
 br (some d) (
 Q (.v (.bool false)) j) (
 ak 36 e 0 λy=>
 ad j 5 y λq=>
 Fa 5 77 q λn=>
 gQ n true (bF h) λC=>
 ct n C λf=>
 gQ f false (az 36 e 0) λs=>
 gQ f false (au j 5 s) λp=>
 gQ f false (bN env.P .eql 5 (Operand.tmp 84) (.const (.int .u8 3)) (some p) (some (a8 3))) λb=>
 gQ f false (bF b) λi=>
 gQ i true (az 36 e 5) λG=>
 gQ i true (au j 27 G) λt=>
 gW i true j (gy true j 89 78 [t]) λx m=>
 gQ f false (O7 i x) λz=>
 cM f z λw=>
 Q w m)))
theorem xO(h : ∀g:iR,aQ x0 H Q):ig Tryz.f52 0 [(0,x0)] H Q:=mO (by kernel_rfl) h
def gp:Prop:=
 eA H 1 36 x0 λb H1=>
 ak 36 b 0 λv2=>
 ad H1 5 v2 λv3=>
 Pa H1 6 57 1 0 v3 λv4 H2=>
 ak 36 b 1 λv5=>
 ad H2 29 v5 λv6=>
 bI false H2 9 85 [v6] λv7 H3=>
 dG H3 10 57 57 v4 v7 λv8 y=>
 ak 36 b 2 λv9=>
 ad y 3 v9 λR=>
 vh 3 13 65536 R λv11=>
 dy y 15 3 5 v11 λv12=>
 ak 36 b 2 λv13=>
 ad y 3 v13 λv14=>
 vh 3 17 256 v14 λv15=>
 sH 3 18 256 v15 λM=>
 dy y 20 3 5 M λv17=>
 ak 36 b 2 λZ=>
 ad y 3 Z λX=>
 sH 3 22 256 X λV=>
 dy y 24 3 5 V λG=>
 Pc y 25 57 3 0 v12 1 v17 2 G λO H5=>
 dG H5 26 57 57 v8 O λv23 H6=>
 ak 36 b 3 λv24=>
 ak 33 v24 0 λY=>
 ad H6 31 Y λU=>
 bI true H6 31 109 [U] λK H7=>
 dG H7 32 57 57 v23 K λv28 S=>
 ak 36 b 3 λL=>
 ak 33 L 1 λT=>
 ad S 3 T λv31=>
 dy S 37 3 5 v31 λv32=>
 nz S 38 57 1 0 v32 λv33 H9=>
 dG H9 39 57 57 v28 v33 λq c=>
 ak 36 b 0 λJ=>
 ad c 5 J λF=>
 wq 5 41 F λI=>
 br (some I) (
 ak 36 b 4 λx=>
 ad c 31 x λD=>
 bI true c 45 80 [D] λt e=>
 br (some t) (
 gh (dm env.P true e (Ref.mk 0 47 (aa.gen e 0 47) 0) (some 57) (some 3) q (.v (.int .i64 13))) λm h=>
 ak 36 b 6 λn=>
 ad h 34 n λl=>
 bI true h 56 110 [l] λk s=>
 dG s 57 57 57 m k λi f=>
 ak 36 b 0 λj=>
 ad f 5 j λz=>
 yA 5 59 z λo=>
 br (some o) (
 ak 36 b 5 λA=>
 ad f 27 A λw=>
 uc 29 0 w λu=>
 bI true f 65 85 [u] λE d=>
 Ik d 57 E λC=>
 dG d 67 57 57 i C λB p=>
 Q B p) (
 Q i f)) (
 ak 36 b 4 λm=>
 ad e 31 m λn=>
 bI true e 51 109 [n] λl h=>
 dG h 52 57 57 q l λk s=>
 ak 36 b 6 λi=>
 ad s 34 i λj=>
 bI true s 56 110 [j] λz f=>
 dG f 57 57 57 k z λo d=>
 ak 36 b 0 λA=>
 ad d 5 A λw=>
 yA 5 59 w λu=>
 br (some u) (
 ak 36 b 5 λE=>
 ad d 27 E λC=>
 uc 29 0 C λB=>
 bI true d 65 85 [B] λv55 p=>
 Ik p 57 v55 λW=>
 dG p 67 57 57 o W λN H17=>
 Q N H17) (
 Q o d))) (
 ak 36 b 0 λx=>
 ad c 5 x λD=>
 yA 5 59 D λt=>
 br (some t) (
 ak 36 b 5 λm=>
 ad c 27 m λn=>
 uc 29 0 n λl=>
 bI true c 65 85 [l] λk e=>
 Ik e 57 k λi=>
 dG e 67 57 57 q i λj h=>
 Q j h) (
 Q q c))
theorem vM(h : ∀g:iR,gp x0 H Q):ig Tryz.f86 0 [(0,x0)] H Q:=mO (by kernel_rfl) h
def ky:=uI Tryz.f152 3
def oL:Nat->Option (List Nat):=λi=>cond (Nat.beq i 3) (some [4,0,3,2]) (none)
def oQ:Prop:=
 iy H 2 29 λc b=>
  cB env Tryz.f152 0 ky [(4,(.v (.int .i64 1))),(0,x0),(3,(.v (.int .i64 0))),(2,c)] b Q
theorem uY(h : ∀g:iR,oQ x0 H Q):ig Tryz.f152 0 [(0,x0)] H Q:=xV oL (by kernel_rfl) h
def dS(g:Nat->AV)(j x0 m h:AV)(H:aa)(Q:AV->aa->Prop):Prop:=
 sG 3 5 5 j λn=>
 br (some n) (
 qn 3 256 9 m λf=>
 dF H 57 x0 j λk=>
 ad H 5 k λi=>
 dy H 15 5 3 i λe=>
 fJ 3 10 15 f e λb=>
 jh 3 7 1 j λc=>
  cB env Tryz.f152 0 ky [(4,c),(0,x0),(3,b),(2,h)] H Q) (
 fH H 57 x0 0 λf=>
 ad H 5 f λk=>
 dy H 21 3 25 m λi=>
 tA 27 0 k 1 i λe=>
 fH H 57 x0 5 λb=>
 ad H 5 b λc=>
 tA 29 0 e 1 c λo=>
 aT H 29 h o λp l=>
 bp l h 29 λd=>
 Q d l)
theorem eX(c x0 d b:AV)(H:aa)(Q:AV->aa->Prop)(h : ∀g,dS g c x0 d b H Q):cB env Tryz.f152 0 ky [(4,c),(0,x0),(3,d),(2,b)] H Q:=xW oL (by kernel_rfl) h
def gM:=uI Tryz.f153 3
def rH:Nat->Option (List Nat):=λi=>cond (Nat.beq i 3) (some [4,0,3,2]) (none)
def rL:Prop:=
 iy H 2 31 λc b=>
  cB env Tryz.f153 0 gM [(4,(.v (.int .i64 6))),(0,x0),(3,(.v (.int .i64 0))),(2,c)] b Q
theorem yV(h : ∀g:iR,rL x0 H Q):ig Tryz.f153 0 [(0,x0)] H Q:=xV rH (by kernel_rfl) h
def mw(g:Nat->AV)(f x0 j d:AV)(H:aa)(Q:AV->aa->Prop):Prop:=
 sG 3 5 13 f λk=>
 br (some k) (
 qn 3 256 9 j λc=>
 dF H 57 x0 f λh=>
 ad H 5 h λe=>
 dy H 15 5 3 e λi=>
 fJ 3 10 15 c i λb=>
 jh 3 7 1 f λl=>
  cB env Tryz.f153 0 gM [(4,l),(0,x0),(3,b),(2,d)] H Q) (
 dL (cm env.P (aa.get H) 57 (some x0) (some none) (oi (.v (.int .i64 6))) (some none)) λc=>
 bI true H 19 152 [c] λh m=>
 tA 31 0 h 1 j λe=>
 aT m 31 d e λi H2=>
 bp H2 d 31 λb=>
 Q b H2)
theorem pH(c x0 d b:AV)(H:aa)(Q:AV->aa->Prop)(h : ∀g,mw g c x0 d b H Q):cB env Tryz.f153 0 gM [(4,c),(0,x0),(3,d),(2,b)] H Q:=xW rH (by kernel_rfl) h
def eS:=uI Tryz.f154 5
def qH:Nat->Option (List Nat):=λi=>cond (Nat.beq i 5) (some [5,4,0]) (none)
def rk:Prop:=
 dO H 8 57 x0 λc=>
 wx 3 8 256 c λb=>
 br (some b) (
 Q (.tup [(.v (.slice none 0 0)),(.v (.int .i64 4))]) H) (
  cB env Tryz.f154 0 eS [(5,(.v (.int .i64 0))),(4,(.v (.slice none 0 0))),(0,x0)] H Q)
theorem xT(h : ∀g:iR,rk x0 H Q):ig Tryz.f154 0 [(0,x0)] H Q:=xV qH (by kernel_rfl) h
def dR(g:Nat->AV)(e A x0:AV)(H:aa)(Q:AV->aa->Prop):Prop:=
 jh 3 10 3 e λI=>
 dO H 13 57 x0 λL=>
 fQ 3 11 13 I L λM=>
 br (some M) (
 dF H 57 x0 e λl=>
 ad H 5 l λk=>
 dy H 21 5 3 k λt=>
 qn 3 16777216 21 t λF=>
 jh 3 24 1 e λK=>
 dF H 57 x0 K λG=>
 ad H 5 G λw=>
 dy H 28 5 3 w λm=>
 qn 3 65536 28 m λp=>
 fJ 3 22 29 F p λj=>
 jh 3 32 2 e λn=>
 dF H 57 x0 n λz=>
 ad H 5 z λs=>
 dy H 36 5 3 s λx=>
 qn 3 256 36 x λi=>
 fJ 3 30 37 j i λD=>
 jh 3 40 3 e λC=>
 dF H 57 x0 C λo=>
 ad H 5 o λu=>
 dy H 44 5 3 u λy=>
 fJ 3 38 44 D y λd=>
 vg 3 46 4294967295 d λE=>
 br (some E) (
 gh (lH env.P false true H (Ref.mk 0 49 (aa.gen H 0 49) 0) 34 1 (some [(0,(.v (.int .i32 (-1))))])) λf h=>
 dG h 50 34 34 A f λc H2=>
 jh 3 15 4 e λb=>
  cB env Tryz.f154 0 eS [(5,b),(4,c),(0,x0)] H2 Q) (
 bI true H 52 107 [d] λf h=>
 br (some f) (
 dy h 55 3 21 d λc=>
 nz h 56 34 1 0 c λb H2=>
 dG H2 57 34 34 A b λq J=>
 jh 3 15 4 e λB=>
  cB env Tryz.f154 0 eS [(5,B),(4,q),(0,x0)] J Q) (
 Q (.tup [(.v (.slice none 0 0)),(.v (.int .i64 8))]) h))) (
 dO H 59 57 x0 λl=>
 sH 3 59 4 l λk=>
 j5 3 60 0 k λt=>
 br (some t) (
 Q (.tup [(.v (.slice none 0 0)),(.v (.int .i64 8))]) H) (
 Q (.tup [A,(.v (.int .i64 0))]) H))
theorem jx(b c x0:AV)(H:aa)(Q:AV->aa->Prop)(h : ∀g,dR g b c x0 H Q):cB env Tryz.f154 0 eS [(5,b),(4,c),(0,x0)] H Q:=xW qH (by kernel_rfl) h
def nk:Prop:=
 eA H 1 29 x0 λd c=>
 ak 29 d 0 λf=>
 ad c 27 f λk=>
 bI true c 5 78 [k] λb H2=>
 gQ b true (az 29 d 1) λe=>
 gQ b true (au H2 5 e) λh=>
 gQ b true (bN env.P .lss 5 (Operand.tmp 8) (.const (.int .u8 8)) (some h) (some (a8 8))) λi=>
 ct b i λj=>
 Q j H2
theorem s9(h : ∀g:iR,nk x0 H Q):ig Tryz.f51 0 [(0,x0)] H Q:=mO (by kernel_rfl) h
def fE:Prop:=
 eA H 1 33 x0 λc q=>
 ak 33 c 0 λw=>
 ad q 31 w λy=>
 bI true q 5 81 [y] λe H2=>
 gQ e true (az 33 c 1) λu=>
 gQ e true (au H2 3 u) λs=>
 gQ e true (m9 3 8 1 s) λt=>
 ct e t λd=>
 gQ d true (az 33 c 1) λx=>
 gQ d true (au H2 3 x) λi=>
 gQ d true (y9 3 13 64 i) λl=>
 ct d l λb=>
 gQ b true (az 33 c 0) λk=>
 gQ b true (az 31 k 1) λm=>
 gQ b true (au H2 3 m) λn=>
 gQ b true (az 33 c 1) λf=>
 gQ b true (au H2 3 f) λj=>
 gQ b true (bN env.P .sub 3 (Operand.const (Value.int IntKind.i64 1099511627777)) (Operand.tmp 21) (some (AV.v (Value.int IntKind.i64 1099511627777))) (some j)) λh=>
 gQ b true (MQ 3 19 22 n h) λp=>
 ct b p λo=>
 Q o H2
theorem uo(h : ∀g:iR,fE x0 H Q):ig Tryz.f79 0 [(0,x0)] H Q:=mO (by kernel_rfl) h
def pZ:Prop:=
 eA H 1 31 x0 λd b=>
 ad b 31 d λc=>
 ee 31 λe=>
 ve 31 3 4 c e λf=>
 Q f b
theorem wR(h : ∀g:iR,pZ x0 H Q):ig Tryz.f80 0 [(0,x0)] H Q:=mO (by kernel_rfl) h
def rj:Prop:=
 eA H 1 31 x0 λd i=>
 ak 31 d 0 λk=>
 ad i 29 k λo=>
 bI true i 5 51 [o] λb H2=>
 gQ b true (az 31 d 1) λj=>
 gQ b true (au H2 3 j) λm=>
 gQ b true (m9 3 8 1 m) λn=>
 ct b n λc=>
 gQ c true (az 31 d 1) λl=>
 gQ c true (au H2 3 l) λh=>
 gQ c true (y9 3 13 1099511627776 h) λe=>
 ct c e λf=>
 Q f H2
theorem xS(h : ∀g:iR,rj x0 H Q):ig Tryz.f81 0 [(0,x0)] H Q:=mO (by kernel_rfl) h
def iI:=uI Tryz.f82 4
def pf:Nat->Option (List Nat):=λi=>cond (Nat.beq i 4) (some [3,0]) (none)
def lS:Prop:=
 dO H 5 34 x0 λc=>
 wx 3 5 64 c λb=>
 br (some b) (
 Q (.v (.int .i64 4)) H) (
  cB env Tryz.f82 0 iI [(3,(.v (.int .i64 0))),(0,x0)] H Q)
theorem vQ(h : ∀g:iR,lS x0 H Q):ig Tryz.f82 0 [(0,x0)] H Q:=xV pf (by kernel_rfl) h
def fF(g:Nat->AV)(c x0:AV)(H:aa)(Q:AV->aa->Prop):Prop:=
 dO H 9 34 x0 λk=>
 fQ 3 7 9 c k λo=>
 br (some o) (
 dF H 34 x0 c λs=>
 ad H 21 s λq=>
 YB 21 16 q λb=>
 gQ b true (bF x0) λl=>
 gQ b true (bF c) λm=>
 gQ b true (Ku H 34 l m) λn=>
 gQ b true (au H 21 n) λp=>
 gQ b true (y0 H 23 21 3 p) λd=>
 gW b true H (gy true H 24 107 [d]) λf j=>
 gQ b true (vd f) λi=>
 ct b i λe=>
 br (some e) (
 Q (.v (.int .i64 8)) j) (
 jh 3 11 1 c λh=>
  cB env Tryz.f82 0 iI [(3,h),(0,x0)] j Q)) (
 Q (.v (.int .i64 0)) H)
theorem nQ(b x0:AV)(H:aa)(Q:AV->aa->Prop)(h : ∀g,fF g b x0 H Q):cB env Tryz.f82 0 iI [(3,b),(0,x0)] H Q:=xW pf (by kernel_rfl) h
def rl:Prop:=
 eA H 1 27 x0 λd b=>
 ak 27 d 0 λc=>
 ad b 5 c λe=>
 dL (bN env.P .leq 5 (Operand.tmp 4) (.const (.int .u8 15)) (some e) (some (a8 15))) λf=>
 Q f b
theorem xU(h : ∀g:iR,rl x0 H Q):ig Tryz.f78 0 [(0,x0)] H Q:=mO (by kernel_rfl) h
def pn:Prop:=
 eA H 1 29 x0 λb j=>
 ak 29 b 0 λs=>
 ak 27 s 0 λw=>
 ad j 5 w λu=>
 Pa j 7 57 1 0 u λq H2=>
 ak 29 b 0 λm=>
 ak 27 m 1 λn=>
 ad H2 25 n λp=>
 dy H2 11 25 3 p λt=>
 bI false H2 12 108 [t,(.v (.int .i64 4))] λc l=>
 dG l 13 57 57 q c λe k=>
 ak 29 b 1 λh=>
 ad k 5 h λd=>
 nz k 17 57 1 0 d λf o=>
 dG o 18 57 57 e f λi x=>
 Q i x
theorem vO(h : ∀g:iR,pn x0 H Q):ig Tryz.f85 0 [(0,x0)] H Q:=mO (by kernel_rfl) h
def po:Prop:=
 eA H 1 31 x0 λc b=>
 ak 31 c 0 λe=>
 ad b 29 e λm=>
 bI false b 5 85 [m] λf H2=>
 ak 31 c 1 λd=>
 ad H2 3 d λi=>
 bI false H2 8 108 [i,(.v (.int .i64 7))] λk h=>
 dG h 9 57 57 f k λl j=>
 Q l j
theorem vP(h : ∀g:iR,po x0 H Q):ig Tryz.f109 0 [(0,x0)] H Q:=mO (by kernel_rfl) h
def fN:=uI Tryz.f110 3
def pS:Nat->Option (List Nat):=λi=>cond (Nat.beq i 3) (some [4,3,0]) (none)
def p9:Prop:=
 cB env Tryz.f110 0 fN [(4,(.v (.int .i64 0))),(3,(.v (.slice none 0 0))),(0,x0)] H Q
theorem wU(h : ∀g:iR,p9 x0 H Q):ig Tryz.f110 0 [(0,x0)] H Q:=xV pS (by kernel_rfl) h
def eD(g:Nat->AV)(n t x0:AV)(H:aa)(Q:AV->aa->Prop):Prop:=
 dO H 8 34 x0 λu=>
 fQ 3 6 8 n u λx=>
 br (some x) (
 dF H 34 x0 n λz=>
 ad H 21 z λy=>
 dy H 16 21 3 y λm=>
 sG 3 17 0 m λw=>
 br (some w) (
 SA 3 20 16777216 4294967295 λo=>
 dy H 22 3 5 o λp=>
 SA 3 23 65536 4294967295 λq=>
 sH 3 24 256 q λd=>
 dy H 26 3 5 d λh=>
 SA 3 27 256 4294967295 λk=>
 sH 3 28 256 k λf=>
 dy H 30 3 5 f λi=>
 dL (bN env.P .rem 3 (Operand.tmp 31) (Operand.const (Value.int IntKind.i64 256)) (some (AV.v (Value.int IntKind.i64 4294967295))) (some (AV.v (Value.int IntKind.i64 256)))) λj=>
 dy H 33 3 5 j λb=>
 Pf H 34 57 4 0 p 1 h 2 i 3 b λe s=>
 dG s 35 57 57 t e λc H2=>
 jh 3 10 1 n λl=>
  cB env Tryz.f110 0 fN [(4,l),(3,c),(0,x0)] H2 Q) (
 vh 3 20 16777216 m λo=>
 dy H 22 3 5 o λp=>
 vh 3 23 65536 m λq=>
 sH 3 24 256 q λd=>
 dy H 26 3 5 d λh=>
 vh 3 27 256 m λk=>
 sH 3 28 256 k λf=>
 dy H 30 3 5 f λi=>
 sH 3 31 256 m λj=>
 dy H 33 3 5 j λb=>
 Pf H 34 57 4 0 p 1 h 2 i 3 b λe s=>
 dG s 35 57 57 t e λc H2=>
 jh 3 10 1 n λl=>
  cB env Tryz.f110 0 fN [(4,l),(3,c),(0,x0)] H2 Q)) (
 Q t H)
theorem oG(b c x0:AV)(H:aa)(Q:AV->aa->Prop)(h : ∀g,eD g b c x0 H Q):cB env Tryz.f110 0 fN [(4,b),(3,c),(0,x0)] H Q:=xW pS (by kernel_rfl) h
def rM:Prop:=
 wu 3 3 0 x0 λc=>
 gQ c true (bF x0) λi=>
 gQ c true (y9 3 6 1114111 i) λm=>
 ct c m λb=>
 gQ b true (bF x0) λh=>
 gQ b true (ql 3 10 55296 h) λk=>
 gQ b true (bF k) λe=>
 gQ e false (bF x0) λl=>
 gQ e false (y8 3 13 57343 l) λj=>
 gQ b true (O6 e j) λf=>
 ct b f λd=>
 Q d H
theorem yW(h : ∀g:iR,rM x0 H Q):ig Tryz.f107 0 [(0,x0)] H Q:=mO (by kernel_rfl) h
def k5:=uI Tryz.f108 3
def pR:Nat->Option (List Nat):=λi=>cond (Nat.beq i 3) (some [6,0,5,1]) (none)
def my:Prop:=
 cB env Tryz.f108 0 k5 [(6,(.v (.int .i64 0))),(0,x0),(5,(.v (.slice none 0 0))),(1,a)] H Q
theorem pI(h : ∀g:iR,my x0 a H Q):ig Tryz.f108 0 [(0,x0),(1,a)] H Q:=xV pR (by kernel_rfl) h
def aZ(g:Nat->AV)(c x0 b a:AV)(H:aa)(Q:AV->aa->Prop):Prop:=
 fQ 3 7 8 c a λd=>
 br (some d) (
 sH 3 12 256 x0 λi=>
 dy H 14 3 5 i λl=>
 nz H 15 57 1 0 l λk j=>
 dG j 17 57 57 k b λh H2=>
 vh 3 18 256 x0 λe=>
 jh 3 10 1 c λf=>
  cB env Tryz.f108 0 k5 [(6,f),(0,e),(5,h),(1,a)] H2 Q) (
 Q b H)
theorem bh(c x0 b a:AV)(H:aa)(Q:AV->aa->Prop)(h : ∀g,aZ g c x0 b a H Q):cB env Tryz.f108 0 k5 [(6,c),(0,x0),(5,b),(1,a)] H Q:=xW pR (by kernel_rfl) h
def mq:Prop:=
 eA H 2 43 x0 λf F=>
 eA F 3 43 a λi H2=>
 ak 43 f 0 λK=>
 ad H2 5 K λG=>
 ak 43 i 0 λD=>
 ad H2 5 D λI=>
 ve 5 6 8 G I λe=>
 gQ e true (az 43 f 1) λJ=>
 gQ e true (au H2 3 J) λE=>
 gQ e true (az 43 i 1) λv=>
 gQ e true (au H2 3 v) λl=>
 gQ e true (kK 3 12 14 E l) λo=>
 ct e o λb=>
 gQ b true (az 43 f 2) λm=>
 gQ b true (au H2 36 m) λz=>
 gQ b true (az 43 i 2) λt=>
 gQ b true (au H2 36 t) λw=>
 gW b true H2 (gy true H2 22 104 [z,w]) λj h=>
 ct b j λc=>
 gQ c true (az 43 f 3) λB=>
 gQ c true (au h 37 B) λn=>
 gQ c true (az 43 i 3) λu=>
 gQ c true (au h 37 u) λx=>
 gQ c true (kK 37 26 28 n x) λq=>
 ct c q λd=>
 gQ d true (az 43 f 4) λC=>
 gQ d true (au h 41 C) λp=>
 gQ d true (az 43 i 4) λk=>
 gQ d true (au h 41 k) λs=>
 gQ d true (kK 41 33 35 p s) λA=>
 ct d A λy=>
 Q y h
theorem FN(h : ∀g:iR,mq x0 a H Q):ig Tryz.f70 0 [(0,x0),(1,a)] H Q:=mO (by kernel_rfl) h
def tq:Prop:=
 eA H 1 43 x0 λj d=>
 ad d 43 j λh=>
 uc 102 0 h λn=>
 bI true d 9 39 [n] λe H2=>
 bj e 0 λf=>
 bj e 1 λk=>
 mE k λl=>
 br (some l) (
 Q (.tup [(.v (.int .i64 0)),(.v (.int .i64 8))]) H2) (
 dO H2 15 57 f λm=>
 jh 3 15 119 m λi=>
 BR 3 16 1 i λc=>
 vh 3 17 119 c λb=>
 Q (.tup [b,(.v (.int .i64 0))]) H2)
theorem EF(h : ∀g:iR,tq x0 H Q):ig Tryz.f40 0 [(0,x0)] H Q:=mO (by kernel_rfl) h
def cE:Prop:=
 eA H 1 102 x0 λc H1=>
 ak 102 c 0 λv2=>
 ak 43 v2 0 λv3=>
 ad H1 5 v3 λv4=>
 uc 43 0 v4 λv5=>
 iy H1 4 43 λR H2=>
 aT H2 43 R v5 λv7 L=>
 ak 102 c 0 λv8=>
 ak 43 v8 0 λv9=>
 ad L 5 v9 λv10=>
 wq 5 12 v10 λv11=>
 br (some v11) (
 ak 102 c 0 λv12=>
 ak 43 v12 2 λJ=>
 ak 36 J 1 λp=>
 ad L 29 p λu=>
 ak 102 c 0 λm=>
 ak 43 m 1 λh=>
 ad L 3 h λx=>
 ak 43 R 2 λf=>
 ak 36 f 1 λl=>
 aT L 29 l u λd S=>
 ak 43 R 1 λj=>
 aT S 3 j x λz n=>
  qU [(h,l)] [l,j] [] n /\
 (ak 102 c 0 λq=>
 ak 43 q 2 λo=>
 ak 36 o 1 λk=>
 ad n 29 k λE=>
 bI true n 30 66 [E] λy B=>
 bj y 0 λF=>
 bj y 1 λG=>
 ak 102 c 0 λN=>
 ak 43 N 1 λb=>
 ad B 3 b λK=>
 wu 3 35 0 K λi=>
 gQ i true (az 102 c 0) λD=>
 gQ i true (az 43 D 1) λC=>
 gQ i true (au B 3 C) λe=>
 gQ i true (y9 3 40 255 e) λY=>
 ct i Y λO=>
 ak 102 c 0 λT=>
 ak 43 T 1 λv41=>
 ad B 3 v41 λI=>
 dy B 47 3 5 I λv43=>
 nz B 48 57 1 0 v43 λv44 s=>
 dG s 49 57 57 F v44 λv45 H8=>
 ak 102 c 0 λW=>
 ak 43 W 0 λv47=>
 ad H8 5 v47 λV=>
 nz H8 111 57 1 0 V λv49 H9=>
 dG H9 113 57 57 v49 v45 λX w=>
 gQ O true (bF G) λU=>
 gQ O true (ud 37 116 0 U) λv52=>
 ct O v52 λt=>
 gQ t true (az 102 c 0) λv54=>
 gQ t true (au w 43 v54) λv55=>
 gQ t true (au w 43 R) λv56=>
 gW t true w (gy true w 123 70 [v55,v56]) λZ A=>
 ct t Z λv58=>
 Q (.tup [X,v58]) A)) (
 Fa 5 12 v10 λv12=>
 br (some v12) (
 ak 102 c 0 λJ=>
 ak 43 J 2 λp=>
 ad L 36 p λu=>
 ak 102 c 0 λm=>
 ak 43 m 3 λh=>
 ad L 37 h λx=>
 ak 43 R 2 λf=>
 aT L 36 f u λl S=>
 ak 43 R 3 λd=>
 aT S 37 d x λj n=>
  qU [(h,f)] [f,d] [] n /\
 (ak 102 c 0 λz=>
 ak 43 z 2 λq=>
 ad n 36 q λo=>
 bI true n 64 67 [o] λk B=>
 bj k 0 λE=>
 bj k 1 λy=>
 ak 102 c 0 λF=>
 ak 43 F 2 λG=>
 ad B 36 G λN=>
 bI true B 70 68 [N] λb s=>
 gQ b true (az 102 c 0) λK=>
 gQ b true (az 43 K 3) λi=>
 gQ b true (au s 37 i) λD=>
 gQ b true (m9 37 74 0 D) λC=>
 ct b C λe=>
 gQ e true (az 102 c 0) λY=>
 gQ e true (az 43 Y 3) λO=>
 gQ e true (au s 37 O) λT=>
 gQ e true (ql 37 80 65536 T) λv41=>
 ct e v41 λI=>
 ak 102 c 0 λv43=>
 ak 43 v43 3 λv44=>
 ad s 37 v44 λv45=>
 Sy 37 85 v45 λW=>
 dy s 87 37 5 W λv47=>
 ak 102 c 0 λV=>
 ak 43 V 3 λv49=>
 ad s 37 v49 λX=>
 dy s 91 37 5 X λU=>
 gh (lH env.P false true s (Ref.mk 0 92 (aa.gen s 0 92) 0) 57 2 (some [(0,v47),(1,U)])) λv52 H8=>
 dG H8 94 57 57 v52 E λt H9=>
 ak 102 c 0 λv54=>
 ak 43 v54 0 λv55=>
 ad H9 5 v55 λv56=>
 nz H9 111 57 1 0 v56 λZ w=>
 dG w 113 57 57 Z t λv58 A=>
 gQ I true (bF y) λv59=>
 gQ I true (ud 37 116 0 v59) λv60=>
 ct I v60 λM=>
 gQ M true (az 102 c 0) λv62=>
 gQ M true (au A 43 v62) λv63=>
 gQ M true (au A 43 R) λv64=>
 gW M true A (gy true A 123 70 [v63,v64]) λv65 H12=>
 ct M v65 λv66=>
 Q (.tup [v58,v66]) H12)) (
 yA 5 12 v10 λJ=>
 br (some J) (
 ak 102 c 0 λp=>
 ak 43 p 4 λu=>
 ad L 41 u λm=>
 ak 43 R 4 λh=>
 aT L 41 h m λx S=>
 ak 102 c 0 λf=>
 ak 43 f 4 λl=>
 ad S 41 l λd=>
 bI true S 105 69 [d] λj n=>
 bj j 0 λz=>
 bj j 1 λq=>
 ak 102 c 0 λo=>
 ak 43 o 0 λk=>
 ad n 5 k λE=>
 nz n 111 57 1 0 E λy B=>
 dG B 113 57 57 y z λF s=>
 gQ (.v (.bool true)) true (bF q) λG=>
 gQ (.v (.bool true)) true (ud 37 116 0 G) λN=>
 dL (zt (some (AV.v (Value.bool true))) (some N) (some (AV.v (Value.bool false)))) λb=>
 gQ b true (az 102 c 0) λK=>
 gQ b true (au s 43 K) λi=>
 gQ b true (au s 43 R) λD=>
 gW b true s (gy true s 123 70 [i,D]) λC H8=>
 ct b C λe=>
 Q (.tup [F,e]) H8) (
 ak 102 c 0 λp=>
 ak 43 p 0 λu=>
 ad L 5 u λm=>
 nz L 111 57 1 0 m λh S=>
 gh (dm env.P true S (Ref.mk 0 113 (aa.gen S 0 113) 0) (some 57) (some 57) h (.v (.slice none 0 0))) λx n=>
 gQ (.v (.bool false)) true (jI (some (AV.v (Value.int IntKind.i64 0)))) λf=>
 gQ (.v (.bool false)) true (ud 37 116 0 f) λl=>
 dL (zt (some (AV.v (Value.bool false))) (some l) (some (AV.v (Value.bool false)))) λd=>
 gQ d true (az 102 c 0) λj=>
 gQ d true (au n 43 j) λz=>
 gQ d true (au n 43 R) λq=>
 gW d true n (gy true n 123 70 [z,q]) λo B=>
 ct d o λk=>
 Q (.tup [x,k]) B)))
theorem qh(h : ∀g:iR,cE x0 H Q):ig Tryz.f39 0 [(0,x0)] H Q:=mO (by kernel_rfl) h
def yx:Prop:=
 eA H 1 41 x0 λs x=>
 ad x 41 s λC=>
 bI true x 9 103 [C] λy H2=>
 j5 37 10 0 y λD=>
 br (some D) (
 Q (.tup [(.v (.slice none 0 0)),y]) H2) (
 ak 41 s 1 λB=>
 ak 39 B 1 λz=>
 ad H2 4 z λA=>
 br (some A) (
 ak 41 s 1 λu=>
 ak 39 u 0 λw=>
 ad H2 27 w λi=>
 uc 29 0 i λk=>
 bI true H2 21 66 [k] λc d=>
 bj c 0 λb=>
 bj c 1 λl=>
 ak 41 s 0 λn=>
 ad d 3 n λe=>
 dy d 26 3 5 e λj=>
 gh (lH env.P true false d (Ref.mk 0 28 (aa.gen d 0 28) 0) 57 2 (some [(0,j),(1,(a8 1))])) λf o=>
 dO o 31 57 b λq=>
 BR 3 31 1 q λp=>
 DX o 57 b p λm=>
 dG o 34 57 57 f m λh t=>
 Q (.tup [h,l]) t) (
 ak 41 s 1 λu=>
 ak 39 u 0 λw=>
 ad H2 27 w λi=>
 uc 29 0 i λk=>
 bI true H2 21 66 [k] λc d=>
 bj c 0 λb=>
 bj c 1 λl=>
 ak 41 s 0 λn=>
 ad d 3 n λe=>
 dy d 26 3 5 e λj=>
 gh (lH env.P true false d (Ref.mk 0 28 (aa.gen d 0 28) 0) 57 2 (some [(0,j),(1,(a8 0))])) λf o=>
 dO o 31 57 b λq=>
 BR 3 31 1 q λp=>
 DX o 57 b p λm=>
 dG o 34 57 57 f m λh t=>
 Q (.tup [h,l]) t))
theorem JB(h : ∀g:iR,yx x0 H Q):ig Tryz.f69 0 [(0,x0)] H Q:=mO (by kernel_rfl) h
def uT:Prop:=
 eA H 1 41 x0 λf h=>
 ak 41 f 1 λD=>
 ak 39 D 1 λF=>
 ad h 4 F λe=>
 gQ e false (az 41 f 1) λC=>
 gQ e false (az 39 C 0) λz=>
 gQ e false (au h 27 z) λA=>
 gW e false h (gy false h 11 125 []) λB H2=>
 gQ e false (kK 27 10 11 A B) λE=>
 cM e E λm=>
 ak 41 f 0 λn=>
 ad H2 3 n λs=>
 sG 3 15 0 s λc=>
 gQ c false (az 41 f 0) λo=>
 gQ c false (au H2 3 o) λq=>
 gQ c false (m9 3 19 8 q) λj=>
 cM c j λb=>
 gQ b false (az 41 f 1) λk=>
 gQ b false (az 39 k 0) λw=>
 gQ b false (au H2 27 w) λt=>
 gW b false H2 (gy true H2 26 119 [t]) λp y=>
 gQ b false (vf 37 26 0 p) λl=>
 cM b l λd=>
 gQ d false (bF m) λi=>
 gQ d false (vd i) λx=>
 cM d x λu=>
 br (some u) (
 Q (.v (.int .i64 8)) y) (
 Q (.v (.int .i64 0)) y)
theorem FR(h : ∀g:iR,uT x0 H Q):ig Tryz.f103 0 [(0,x0)] H Q:=mO (by kernel_rfl) h
end
section
variable(dep:Nat)(g:Nat->AV)(x0 b a:AV)(H:aa)(Q:AV->aa->Prop)
def Ih:Code:=(Tryz.f22.body).getD .skip
def j8:List Item:=(k6 10008 400 [.code Ih]).getD []
def bw:Code:=rfA j8
def bu:Code:=rfB j8
def tB:List Item:=rfK j8
def vU:Nat->Option (List Nat):=λi=>cond (Nat.beq i 10008) (some [34,6,10,5,4]) (none)
def AY:Nat->Bool:=λi=>false
def sD:Prop:=
 eA H 3 43 x0 λy E=>
 eA E 4 3 b λz H2=>
 eA H2 5 3 a λB I=>
 iy I 6 79 λf A=>
 ad A 43 y λC=>
 uc 102 0 C λJ=>
 bI true A 17 39 [J] λx q=>
 bj x 0 λK=>
 bj x 1 λD=>
 mE D λs=>
 br (some s) (
 Kv q 79 f λh j=>
 bp j f 79 λd=>
 Q (.tup [d,(.v (.int .i64 8))]) j) (
 ad q 43 y λh=>
 bI true q 24 40 [h] λd j=>
 bj d 0 λm=>
 bj d 1 λF=>
 iy j 10 3 λe L=>
 aT L 3 e m λG k=>
 ad k 3 z λt=>
 ad k 3 B λl=>
 ad k 3 e λw=>
 dL (nS env.P 108 (some [(0,t),(1,l),(3,w)])) λu=>
 bI true k 31 41 [u] λn H9=>
 mE n λp=>
 br (some p) (
 Kv H9 79 f λi c=>
 bp c f 79 λo=>
 Q (.tup [o,(.v (.int .i64 2))]) c) (
 bI true H9 34 42 [K,(.v (.int .i64 119))] λi c=>
  cB env Tryz.f22 0 j8 [(34,i),(6,f),(10,e),(5,B),(4,z)] c Q))
theorem HG(h : ∀g:iR,sD x0 b a H Q):ig Tryz.f22 0 [(0,x0),(1,b),(2,a)] H Q:=xV vU (by kernel_rfl) h
def sY(g:Nat->AV)(c:AV)(H:aa)(Q:AV->aa->Prop):Prop:=
 ad H 79 c λe=>
 aT H 79 c e λh d=>
 bp d c 79 λf=>
 Q (.tup [f,(.v (.int .i64 0))]) d
theorem zk(c:AV)(H:aa)(Q:AV->aa->Prop)(h : ∀g,sY g c H Q):cB env Tryz.f22 0 tB [(6,c)] H Q:=⟨λg=>lY (live:=vU) (cut:=AY) (n:=500) (Eq.mp (by kernel_rfl) (h g))⟩
def kj(r:Ref)(g:Nat->AV)(e o D I q:AV)(H:aa)(Q:AV->aa->Prop):Prop:=
 bgP (xq H r) λn=>
 dL (nh env.P (aa.get (aa.put H r (some (dW 1 n)))) 3 (some I)) λG=>
 gh (aV env false (ay env) (cD env 2) (aa.put H r (some (dW 1 n))) (⟨2,37,aa.gen (aa.put H r (some (dW 1 n))) 2 37,0⟩:Ref) (some (.fn (.func 44) [] [])) [G,(.v (.int .i64 4))]) λK i=>
 ad i 3 D λC=>
 gh (aV env false (ay env) (cD env 2) i (⟨2,39,aa.gen i 2 39,0⟩:Ref) (some (.fn (.func 44) [] [])) [C,(.v (.int .i64 3))]) λA H2=>
 ad H2 79 e λE=>
 dL (cO env.P false (aa.get H2) (⟨2,41,aa.gen H2 2 41,0⟩:Ref) .len #[79] [E]) λz=>
 dL (bX env.P (aa.get H2) (⟨2,42,aa.gen H2 2 42,0⟩:Ref) 3 5 (some z)) λF=>
 ad H2 3 o λB=>
 dL (bX env.P (aa.get H2) (⟨2,44,aa.gen H2 2 44,0⟩:Ref) 3 5 (some B)) λp=>
 gh (lH env.P true false H2 (⟨2,45,aa.gen H2 2 45,0⟩:Ref) 57 2 (some [(0,F),(1,p)])) λj w=>
 gh (lH env.P true false w (⟨2,47,aa.gen w 2 47,0⟩:Ref) 79 4 (some [(0,K),(1,A),(2,j),(3,q)])) λl y=>
 gh (aV env false (ay env) (cD env 2) y (⟨2,48,aa.gen y 2 48,0⟩:Ref) (some (.fn (.func 43) [] [])) [l]) λc f=>
 ad f 79 e λk=>
 dL (cO env.P false (aa.get f) (⟨2,52,aa.gen f 2 52,0⟩:Ref) .len #[57] [c]) λs=>
 YO 3 128 52 s λm=>
 gh (dm env.P true f (⟨2,54,aa.gen f 2 54,0⟩:Ref) (some 57) (some 3) c m) λd u=>
 gh (lH env.P true true u (⟨2,55,aa.gen u 2 55,0⟩:Ref) 79 1 (some [(0,d)])) λh x=>
 gh (dm env.P true x (⟨2,56,aa.gen x 2 56,0⟩:Ref) (some 79) (some 79) k h) λt L=>
 aT L 79 e t λJ H9=>
  qU [(e,c),(e,d)] [e] [d] H9 /\
 (Q (.v (.int .i64 0)) H9)
theorem Ar(r:Ref)(f c e i d:AV)(H:aa)(Q:AV->aa->Prop)(h : ∀g,kj r g f c e i d H Q):V6 env Tryz.f22 (some r) 2 [.code bw,.beginRound,.code bu] [(6,f),(10,c),(5,e),(4,i),(35,d)] H Q:=⟨λg=>lY (live:=vU) (cut:=AY) (n:=500) (Eq.mp (by kernel_rfl) (h g))⟩
def qZ:Prop:=
 iy H 2 108 λh j=>
 dO j 6 57 x0 λD=>
 j5 3 6 128 D λG=>
 br (some G) (
 ee 108 λp=>
 aT j 108 h p λz H2=>
 bp H2 h 108 λl=>
 Q (.tup [l,(.v (.int .i64 8))]) H2) (
 dL (cm env.P (aa.get j) 57 (some x0) (some none) (oi (.v (.int .i64 4))) (some none)) λp=>
 bI false j 11 90 [p] λz H2=>
 dL (cm env.P (aa.get H2) 57 (some x0) (oi (.v (.int .i64 4))) (oi (.v (.int .i64 7))) (some none)) λl=>
 bI false H2 14 90 [l] λB c=>
 fH c 57 x0 7 λC=>
 ad c 5 C λE=>
 dy c 18 5 3 E λm=>
 fH c 57 x0 8 λq=>
 ad c 5 q λu=>
 dy c 22 5 3 u λo=>
 dL (nS env.P 108 (some [(0,z),(1,B),(2,m),(3,o)])) λs=>
 iy c 4 108 λe F=>
 aT F 108 e s λA y=>
 ad y 108 e λn=>
 bI true y 25 41 [n] λk w=>
 mE k λx=>
 br (some x) (
 ee 108 λf=>
 aT w 108 h f λt i=>
 bp i h 108 λd=>
 Q (.tup [d,(.v (.int .i64 8))]) i) (
 ad w 108 e λf=>
 aT w 108 h f λt i=>
 bp i h 108 λd=>
 Q (.tup [d,(.v (.int .i64 0))]) i))
theorem FO(h : ∀g:iR,qZ x0 H Q):ig Tryz.f60 0 [(0,x0)] H Q:=mO (by kernel_rfl) h
def A9:Prop:=
 eA H 1 108 x0 λi d=>
 ak 108 i 0 λM=>
 ad d 3 M λN=>
 wu 3 4 1 N λk=>
 gQ k true (az 108 i 0) λJ=>
 gQ k true (au d 3 J) λL=>
 gQ k true (ql 3 8 2147483648 L) λI=>
 ct k I λl=>
 gQ l true (az 108 i 1) λK=>
 gQ l true (au d 3 K) λx=>
 gQ l true (m9 3 13 1 x) λo=>
 ct l o λe=>
 gQ e true (az 108 i 1) λn=>
 gQ e true (au d 3 n) λp=>
 gQ e true (ql 3 18 16777216 p) λC=>
 ct e C λh=>
 gQ h true (az 108 i 3) λy=>
 gQ h true (au d 3 y) λm=>
 gQ h true (m9 3 23 1 m) λF=>
 ct h F λj=>
 gQ j true (az 108 i 3) λq=>
 gQ j true (au d 3 q) λv=>
 gQ j true (y9 3 28 4 v) λA=>
 ct j A λf=>
 gQ f true (az 108 i 2) λG=>
 gQ f true (au d 3 G) λE=>
 gQ f true (m9 3 33 0 E) λs=>
 ct f s λc=>
 gQ c true (az 108 i 2) λt=>
 gQ c true (au d 3 t) λD=>
 gQ c true (az 108 i 3) λB=>
 gQ c true (au d 3 B) λw=>
 gQ c true (O8 3 38 40 D w) λu=>
 ct c u λz=>
 Q z d
theorem HF(h : ∀g:iR,A9 x0 H Q):ig Tryz.f41 0 [(0,x0)] H Q:=mO (by kernel_rfl) h
def pz:=uI Tryz.f44 2
def xp:Nat->Option (List Nat):=λi=>cond (Nat.beq i 2) (some [5,0,4]) (none)
def so:Prop:=
 BR 3 6 1 b λc=>
  cB env Tryz.f44 0 pz [(5,c),(0,x0),(4,(.v (.slice none 0 0)))] H Q
theorem wI(h : ∀g:iR,so x0 b H Q):ig Tryz.f44 0 [(0,x0),(1,b)] H Q:=xV xp (by kernel_rfl) h
def dQ(g:Nat->AV)(c x0 d:AV)(H:aa)(Q:AV->aa->Prop):Prop:=
 wu 3 8 0 c λe=>
 br (some e) (
 qn 3 8 14 c λj=>
 dL (bN env.P .shr 3 (Operand.tmp 13) (Operand.tmp 15) (some x0) (some j)) λm=>
 dy H 17 3 5 m λl=>
 nz H 18 57 1 0 l λi k=>
 dG k 19 57 57 d i λf H2=>
 BR 3 10 1 c λh=>
  cB env Tryz.f44 0 pz [(5,h),(0,x0),(4,f)] H2 Q) (
 Q d H)
theorem eF(c x0 d:AV)(H:aa)(Q:AV->aa->Prop)(h : ∀g,dQ g c x0 d H Q):cB env Tryz.f44 0 pz [(5,c),(0,x0),(4,d)] H Q:=xW xp (by kernel_rfl) h
def bQ:=uI Tryz.f92 4
def fa:Nat->Option (List Nat):=λi=>cond (Nat.beq i 4) (some [17,2,1,15,16]) (none)
def da:Prop:=
 dO H 11 79 x0 λd=>
 dO H 13 79 b λc=>
 yZ 3 11 13 d c λe=>
 br (some e) (
 Q (.v (.bool false)) H) (
 dO H 16 79 x0 λf=>
  cB env Tryz.f92 0 bQ [(17,(.v (.int .i64 0))),(2,a),(1,b),(15,x0),(16,f)] H Q)
theorem kp(h : ∀g:iR,da x0 b a H Q):ig Tryz.f92 0 [(0,x0),(1,b),(2,a)] H Q:=xV fa (by kernel_rfl) h
def bR(g:Nat->AV)(c a b d e:AV)(H:aa)(Q:AV->aa->Prop):Prop:=
 fQ 3 17 16 c e λh=>
 br (some h) (
 dF H 79 d c λm=>
 ad H 57 m λo=>
 dF H 79 b c λn=>
 ad H 57 n λl=>
 gh (aV env true (ay env) (cD env 0) H (Ref.mk 0 29 (aa.gen H 0 29) 0) (some a) [o,l]) λi f=>
 mE i λj=>
 br (some j) (
 Q (.v (.bool false)) f) (
 jh 3 17 1 c λk=>
  cB env Tryz.f92 0 bQ [(17,k),(2,a),(1,b),(15,d),(16,e)] f Q)) (
 Q (.v (.bool true)) H)
theorem cV(e a b c d:AV)(H:aa)(Q:AV->aa->Prop)(h : ∀g,bR g e a b c d H Q):cB env Tryz.f92 0 bQ [(17,e),(2,a),(1,b),(15,c),(16,d)] H Q:=xW fa (by kernel_rfl) h
def ou:=uI Tryz.f90 2
def zy:Nat->Option (List Nat):=λi=>cond (Nat.beq i 2) (some [7,2,5,6]) (none)
def zS:Prop:=
 dO H 6 57 x0 λc=>
  cB env Tryz.f90 0 ou [(7,(.v (.int .i64 0))),(2,(.v (.int .i64 0))),(5,x0),(6,c)] H Q
theorem FM(h : ∀g:iR,zS x0 H Q):ig Tryz.f90 0 [(0,x0)] H Q:=xV zy (by kernel_rfl) h
def sn(g:Nat->AV)(c a d e:AV)(H:aa)(Q:AV->aa->Prop):Prop:=
 fQ 3 7 6 c e λf=>
 br (some f) (
 dF H 57 d c λk=>
 ad H 5 k λm=>
 Pg 3 11 a λl=>
 dy H 14 5 3 m λj=>
 E9 3 12 14 l j λh=>
 jh 3 7 1 c λi=>
  cB env Tryz.f90 0 ou [(7,i),(2,h),(5,d),(6,e)] H Q) (
 Q a H)
theorem wH(d a c e:AV)(H:aa)(Q:AV->aa->Prop)(h : ∀g,sn g d a c e H Q):cB env Tryz.f90 0 ou [(7,d),(2,a),(5,c),(6,e)] H Q:=xW zy (by kernel_rfl) h
def tQ:Prop:=
 iy H 2 41 λl k=>
 dO k 8 57 x0 λY=>
 j5 3 8 7 Y λp=>
 gQ p false (bF x0) λR=>
 gQ p false (bK env.P (aa.get k) 57 (some R) (some (AV.v (Value.int IntKind.i64 1)))) λO=>
 gQ p false (au k 5 O) λU=>
 gQ p false (bN env.P .gtr 5 (Operand.tmp 13) (.const (.int .u8 1)) (some U) (some (a8 1))) λM=>
 cM p M λW=>
 br (some W) (
 ee 41 λt=>
 aT k 41 l t λn H2=>
 bp H2 l 41 λf=>
 Q (.tup [f,(.v (.int .i64 8))]) H2) (
 dL (cm env.P (aa.get k) 57 (some x0) (oi (.v (.int .i64 2))) (oi (.v (.int .i64 7))) (oi (.v (.int .i64 7)))) λt=>
 Pd k 20 57 1 λn H2=>
 dG H2 21 57 57 t n λf T=>
 bI true T 22 111 [f] λm Z=>
 bj m 0 λs=>
 bj m 1 λu=>
 iy Z 4 29 λo V=>
 aT V 29 o s λS h=>
 fH h 57 x0 0 λC=>
 ad h 5 C λq=>
 dy h 28 5 3 q λJ=>
 ak 29 o 0 λG=>
 ad h 27 G λw=>
 fH h 57 x0 1 λA=>
 ad h 5 A λD=>
 wq 5 33 D λy=>
 tA 39 0 w 1 y λL=>
 tA 41 0 J 1 L λI=>
 iy h 6 41 λi X=>
 aT X 41 i I λN K=>
 j5 37 37 0 u λd=>
 gQ d false (au K 41 i) λF=>
 gW d false K (gy true K 41 103 [F]) λE H9=>
 gQ d false (vf 37 41 0 E) λB=>
 cM d B λz=>
 br (some z) (
 ee 41 λj=>
 aT H9 41 l j λx c=>
 bp c l 41 λe=>
 Q (.tup [e,(.v (.int .i64 8))]) c) (
 ad H9 41 i λj=>
 aT H9 41 l j λx c=>
 bp c l 41 λe=>
 Q (.tup [e,(.v (.int .i64 0))]) c))
theorem xI(h : ∀g:iR,tQ x0 H Q):ig Tryz.f113 0 [(0,x0)] H Q:=mO (by kernel_rfl) h
end
section
variable(dep:Nat)(g:Nat->AV)(x0 a:AV)(H:aa)(Q:AV->aa->Prop)
def EC:Prop:=
 wu 3 5 0 x0 λb=>
 gQ b true (bF x0) λd=>
 gQ b true (bF a) λe=>
 gQ b true (MQ 3 8 9 d e) λf=>
 ct b f λc=>
 Q c H
theorem KN(h : ∀g:iR,EC x0 a H Q):ig Tryz.f21 0 [(0,x0),(1,a)] H Q:=mO (by kernel_rfl) h
def gw:=uI Tryz.f12 4
def nW:Nat->Option (List Nat):=λi=>cond (Nat.beq i 4) (some [5,1,0]) (none)
def kO:Prop:=
 dO H 7 50 x0 λc=>
 dO H 9 50 a λb=>
 yZ 3 7 9 c b λd=>
 br (some d) (
 Q (.v (.bool false)) H) (
  cB env Tryz.f12 0 gw [(5,(.v (.int .i64 0))),(1,a),(0,x0)] H Q)
theorem ui(h : ∀g:iR,kO x0 a H Q):ig Tryz.f12 0 [(0,x0),(1,a)] H Q:=xV nW (by kernel_rfl) h
def gx(g:Nat->AV)(b a x0:AV)(H:aa)(Q:AV->aa->Prop):Prop:=
 dO H 13 50 x0 λd=>
 fQ 3 11 13 b d λj=>
 br (some j) (
 dF H 50 x0 b λm=>
 ad H 43 m λl=>
 dF H 50 a b λi=>
 ad H 43 i λe=>
 bI false H 25 31 [l,e] λf c=>
 mE f λh=>
 br (some h) (
 Q (.v (.bool false)) c) (
 jh 3 15 1 b λk=>
  cB env Tryz.f12 0 gw [(5,k),(1,a),(0,x0)] c Q)) (
 Q (.v (.bool true)) H)
theorem ng(b a x0:AV)(H:aa)(Q:AV->aa->Prop)(h : ∀g,gx g b a x0 H Q):cB env Tryz.f12 0 gw [(5,b),(1,a),(0,x0)] H Q:=xW nW (by kernel_rfl) h
def fq:Prop:=
 eA H 2 43 x0 λf F=>
 eA F 3 43 a λi H2=>
 ak 43 f 0 λK=>
 ad H2 5 K λG=>
 ak 43 i 0 λD=>
 ad H2 5 D λI=>
 ve 5 6 8 G I λe=>
 gQ e true (az 43 f 1) λJ=>
 gQ e true (au H2 3 J) λE=>
 gQ e true (az 43 i 1) λv=>
 gQ e true (au H2 3 v) λl=>
 gQ e true (kK 3 12 14 E l) λo=>
 ct e o λb=>
 gQ b true (az 43 f 2) λm=>
 gQ b true (au H2 36 m) λz=>
 gQ b true (az 43 i 2) λt=>
 gQ b true (au H2 36 t) λw=>
 gW b true H2 (gy true H2 22 54 [z,w]) λj h=>
 ct b j λc=>
 gQ c true (az 43 f 3) λB=>
 gQ c true (au h 37 B) λn=>
 gQ c true (az 43 i 3) λu=>
 gQ c true (au h 37 u) λx=>
 gQ c true (kK 37 26 28 n x) λq=>
 ct c q λd=>
 gQ d true (az 43 f 4) λC=>
 gQ d true (au h 41 C) λp=>
 gQ d true (az 43 i 4) λk=>
 gQ d true (au h 41 k) λs=>
 gQ d true (kK 41 33 35 p s) λA=>
 ct d A λy=>
 Q y h
theorem wP(h : ∀g:iR,fq x0 a H Q):ig Tryz.f31 0 [(0,x0),(1,a)] H Q:=mO (by kernel_rfl) h
end
end Go.Proofs.YtmjkpdknicjjgaaGreat
namespace Go.Ab
def R7{P:Program}{T:TypeId}{z by':Nat}(j:RU P T z by'=true){cs:List AV}(h:cs.length=z)(a:z<=16777216)(k:cs.all AV.one=true)(H:aa)(r:Ref) :
 tF P H r T 1 (some [(0,.agg cs)])=some (.dsl r 0 1 (some 1),(r,some ⟨z,[.agg cs],false,false⟩) :: H):=by
 obtain⟨e,zz,g,i,l,d,b,f,c,m⟩:=fB j;simp only[tF,g,d,i];rw[if_pos ⟨trivial,vl c,a,b,f,h,k⟩]
def Yv{P:Program}{T:TypeId}{z by':Nat}(q:RU P T z by'=true)(f:EA P T=true){H:aa}{r a:Ref}{c:Option Nat}{b:AV}(i:H.get a=some ⟨z,[b],false,false⟩){s:AV} :
 (s = .v (.slice none 0 0)->by'<=aG->AF P H r (some T) (some T) s (.dsl a 0 1 c)=some (.dsl r 0 1 none,(r,some ⟨z,[b],false,false⟩) :: H.put a none)) /\
 (∀r' es fz,s = .dsl r' 0 es.length none->H.get r'=some ⟨z,es,false,fz⟩->r'≠a->(es.length+1) * by'<=aG->AF P H r (some T) (some T) s (.dsl a 0 1 c) =
  some (.dsl ⟨r'.d,r'.t,H.gen r'.d r'.t,0⟩ 0 (es.length+1) none,(⟨r'.d,r'.t,H.gen r'.d r'.t,0⟩,some ⟨z,es++[b],false,fz⟩) :: (H.put a none).put r' none)):=by
 obtain⟨e,zz,k,l,h,j,m,u,p,n⟩:=fB q;unfold EA at f;simp only[bt,gz]at f;have g : ¬((P.underlying T).isNone=true\/isInt P T≠false):=by
  rw[f.2];cases o:P.underlying T with
  | none=>rw[o]at f;simp at f
  | some d=>simp
 have hd : ¬((false=true)\/z≠z\/z=0\/by'=0\/[b]=[]\/zz.cells.length≠z\/1≠[b].length):=by simp[m,p,n]
 constructor;·rintro rfl hb;simp only[AF,dX,k,Option.map_some,cb,l,h,j,i];rw[if_neg g,if_neg hd,if_pos (by omega)]
 rintro r' es fz rfl hr hn hb;simp only[AF,dX,k,Option.map_some,cb,l,h,j,i];rw[if_neg g,if_neg hd];simp only[hr];rw[if_pos ⟨trivial,trivial,trivial,hn,hb⟩]
def F2.snoc{R:AV->AV->Prop}{a ys:List AV}{x y:AV}(h:F2 R a ys)(b:R x y):F2 R (a++[x]) (ys++[y]):=h.app ⟨b,trivial⟩
def Ql{z:Nat}{H H2:aa}{F k:List (Ref × aY)}{rows:List u9}{s:AV}{es es':List AV}{rs:List Ref}(h:sZ H (k++F) (⟨z,s,es',rs⟩ :: rows)){r2:Ref}{cs ys:List AV}
 (G:F2 (DE H.get) es es') (i : ∀q∈es.flatMap gf,q∈rs) (C:(es.flatMap gf).Nodup) (P:F2 (DC H.get) cs ys) (I:cs.flatMap iX=k.map (·.1)) (J:Fr H2) (O:H.get r2=none) (K:H2.get r2=some ⟨z,es++[.agg cs],false,false⟩)
 (w : ∀q b,H.get q=some b->(q∈rs->q∈es.flatMap gf)->H2.get q=some b):sZ H2 F (⟨z,.dsl r2 0 (es.length+1) none,es'++[.agg ys],r2 :: (es++[AV.agg cs]).flatMap gf⟩ :: rows):=by
 have l:=h.nd;rw[xF]at l;obtain⟨n1,n2,L⟩:=Da.1 l;obtain⟨d1,d2⟩:=Jh.1 h.dis;have o:(es++[AV.agg cs]).flatMap gf=es.flatMap gf++k.map (·.1):=by
  rw[BW,<-I];simp[gf]
 have v : ∀q∈k.map (·.1),∃b,H.get q=some b/\(q∈rs->q∈es.flatMap gf):=by
  intro q d;obtain⟨p,hp,rfl⟩:=j6.1 d;exact⟨p.2,h.has p (D3 _ hp),λc=>absurd c (h.sep _ (gD ..) p (D3 _ hp))⟩
 have B : ∀q∈es.flatMap gf,∃b,H.get q=some b:=λq d=>(h.row _ (gD ..)).live q (i q d);have j : ∀q b,H.get q=some b->q≠r2:=λq b g e=>by rw[e,O]at g;cases g
 have E : ∀p∈F,H2.get p.1=some p.2:=λp hp=>w _ _ (h.has p (Df _ hp)) λc=>absurd c (h.sep _ (gD ..) p (Df _ hp));refine⟨J,E,n2,λt m=>?_,λt m p hp=>?_,?_⟩
 ·rcases ef.1 m with rfl | m
  ·refine .inr (.inr ⟨r2,es++[.agg cs],by simp,by simp,K,?_,rfl,?_⟩);·have c : ∀x∈es,∀y,DE H.get x y->DE H2.get x y:=λx A y n=>n.bk λq d b g=>w q b g λ_=>gC.2 ⟨x,A,d⟩;refine(G.mono c).snoc ⟨cs,ys,rfl,rfl,P.mono λx A y n=>n.bk λq d b g=>?_⟩;obtain⟨Q,_,M⟩:=v q (by rw[<-I];exact gC.2 ⟨x,A,d⟩);exact w q b g M
   rw[o];refine wC.2 ⟨λc=>?_,Da.2 ⟨C,n1,λa N b g e=>?_⟩⟩
   ·rcases kQ.1 c with c | c
    ·obtain⟨b,g⟩:=B _ c;exact j _ _ g rfl
    obtain⟨b,g,_⟩:=v _ c;exact j _ _ g rfl
   obtain⟨p,hp,rfl⟩:=j6.1 g;exact h.sep _ (gD ..) p (D3 _ hp) (by rw[<-e];exact i a N)
  refine(h.row t (iS _ m)).bk λq d b g=>w q b g λc=>absurd d (d1 t m q c)
 ·rcases ef.1 m with rfl | m
  ·intro c;simp only[o]at c;rcases ef.1 c with e | c
   ·exact j _ _ (h.has p (Df _ hp)) e
   rcases kQ.1 c with c | c
   ·exact h.sep _ (gD ..) p (Df _ hp) (i _ c)
   exact L _ c _ (Fw (f:=λp:Ref × aY=>p.1) hp) rfl
  exact h.sep t (iS _ m) p (Df _ hp)
 refine Jh.2 ⟨λu D q d c=>?_,d2⟩;simp only[o]at d;obtain⟨b,g⟩:=(h.row u (iS _ D)).live q c;rcases ef.1 d with rfl | d
 ·exact j _ _ g rfl
 rcases kQ.1 d with d | d
 ·exact d1 u D q (i q d) c
 obtain⟨p,hp,rfl⟩:=j6.1 d;exact h.sep u (iS _ D) p (D3 _ hp) c
def ab5{P:Program}{T:TypeId}{z by':Nat}(S:RU P T z by'=true)(hA:EA P T=true){H:aa}{U I:List (Ref × aY)}{rows:List u9}{s:AV}{es':List AV}{rs:List Ref}
 (Z:s = .v (.slice none 0 0) \/∃r n,s = .dsl r 0 n none) (h:sZ H (I++U) (⟨z,s,es',rs⟩ :: rows)) {cs ys:List AV} (W:F2 (DC H.get) cs ys) (V:cs.flatMap iX=I.map (·.1)) (hz:cs.length=z) (N:z<=16777216) (ho:cs.all AV.one=true) (g:(es'.length+1) * by'<=aG)
 {D G:Nat} {K:AV->aa->Prop} (X : ∀r2 H2 O,sZ H2 U (⟨z,.dsl r2 0 (es'.length+1) none,es'++[.agg ys],O⟩ :: rows)->K (.dsl r2 0 (es'.length+1) none) H2) :
 gh (tF P H (⟨0,D,aa.gen H 0 D,0⟩:Ref) T 1 (some [(0,.agg cs)])) λv a=>gh (AF P a (⟨0,G,aa.gen a 0 G,0⟩:Ref) (some T) (some T) s v) K:=by
 obtain⟨r1,u⟩ : ∃r1:Ref,r1=⟨0,D,H.gen 0 D,0⟩:=⟨_,rfl⟩;have m:H.get r1=none:=by rw[u];exact h.fr 0 D _ 0 (bg _)
 obtain⟨a,l⟩ : ∃a:aa,a=(r1,some ⟨z,[.agg cs],false,false⟩) :: H:=⟨_,rfl⟩;have C:Fr a:=by rw[l,u];exact oB h.fr rfl _
 have B:a.get r1=some ⟨z,[.agg cs],false,false⟩:=by rw[l,aa.bS,if_pos rfl]
 have i : ∀q b,H.get q=some b->a.get q=some b:=λq b f=>by
  rw[l,aa.bS,if_neg (λe=>by rw[<-e,m]at f;cases f)];exact f
 refine tk (v := .dsl r1 0 1 (some 1)) (H:=a) (by rw[R7 S hz N ho,l,u]) ?_;obtain⟨a1,a2⟩:=Yv (r:=⟨0,G,a.gen 0 G,0⟩) S hA (c:=some 1) B (s:=s);have k : ∀d t,H.get ⟨d,t,a.gen d t,0⟩=none:=λd t=>by
  cases M:H.get ⟨d,t,a.gen d t,0⟩ with| none=>rfl| some b=>have:=i _ _ M;rw[C d t _ 0 (bg _)]at this;cases this
 have w:(a.get r1).isSome=true:=by rw[B];rfl
 have F:Fr (a.put r1 none):=oZ C w none;have p:=h.row _ (gD ..);rcases Z with rfl | ⟨r',n,rfl⟩
 ·rcases p with ⟨_,L,o⟩ | ⟨_,e,_⟩ | ⟨_,_,e,_⟩
  ·simp only at L o;subst L;subst o;refine tk (a1 rfl (by simpa using g)) ?_;refine X _ _ _ (Ql (es:=[]) h trivial (by simp) (by simp) W V ?_ (k 0 G) ?_ ?_);·refine oB F ?_ _;rw[aa.dK _ _ _ w]
   ·rw[aa.bS,if_pos rfl];rfl
   intro q b f _;rw[aa.bS,if_neg (λe=>by rw[<-e,k]at f;cases f),aa.ab,if_neg (λe=>by rw[e,m]at f;cases f)];exact i q b f
  ·cases e
  cases e
 rcases p with ⟨e,_⟩ | ⟨_,e,_⟩ | ⟨r0,es,e,L,o,R,J,Q⟩
 ·cases e
 ·cases e
 simp only at e o R J Q;injection e with Y q2 q3 q4
 subst Y;subst q3;have j:es.length=es'.length:=R.len;have E:r'≠r1:=λe=>by rw[e,m]at o;cases o
 have x:((a.put r1 none).get r').isSome=true:=by rw[aa.ab,if_neg E,i _ _ o];rfl
 have y : ∀d t,((a.put r1 none).put r' none).gen d t=a.gen d t:=λd t=>by rw[aa.dK _ _ _ x,aa.dK _ _ _ w]
 refine tk (a2 r' es false rfl (i _ _ o) E (by rw[j];exact g)) ?_;rw[j];rw[J]at Q;have A:=(wC.1 Q);have:=Ql (es:=es) (r2:=⟨r'.d,r'.t,a.gen r'.d r'.t,0⟩) (H2:=(⟨r'.d,r'.t,a.gen r'.d r'.t,0⟩,some ⟨z,es++[.agg cs],false,false⟩) :: ((a.put r1 none).put r' none)) h R (λq M=>by rw[J];exact iS _ M) A.2 W V (oB (oZ F x none) (y _ _).symm _) (k _ _) (by rw[aa.bS,if_pos rfl]) (λq b f hm=>by
  rw[aa.bS,if_neg (λe=>by rw[<-e,k]at f;cases f),aa.ab,if_neg (λe=>by
   subst e;exact A.1 (hm (by rw[J];exact gD ..))),aa.ab,if_neg (λe=>by rw[e,m]at f;cases f)]
  exact i q b f)
 rw[j]at this;exact X _ _ _ this
end Go.Ab
namespace Go.Proofs.YtmjkpdknicjjgaaGreat
open Go.Ab
attribute [local simp] aC aw ah aq ao bk jE aE ar ax bo bn aG aD ae aN cN
structure eE where
 pos:Int
 bs:List UInt8
 av:AV
def eE.enc(s:eE):AV := .agg [aI s.pos,s.av]
def iQ(s:eE):Prop:=Sl 1 (aA s.bs) s.av
def a9(l:List eE):List AV:=l.map eE.enc
@[simp] def CI(l:List eE):(a9 l).length=l.length:=by simp[a9]
def df(x:AV)(st lf:Int)(dd:Bool):AV := .agg [x,aI st,aI lf,aB dd]
def aen{x:AV}{l:List UInt8}(o:Sl 1 (aA l) x)(u:l.length=128):ay env 46 [x]=some (.bq 1 (aA l) none):=by
 refine aM rfl (by kernel_rfl) (KP _ _ _ λg=>?_);have F:=o.r;have b:=zq (P:=env.P) (t:=57) (z:=1) (by':=1) (zz:=a8 0) (r:=⟨0,6,0,0⟩) (by kernel_rfl) (by kernel_rfl) (n:=128) (by decide) (by decide);have a:(aA l).length=128:=by simp[u]
 rcases o with ⟨rfl,i⟩ | ⟨c,rfl,i⟩
 ·rw[i]at a;cases a
 have D : ∀(H:aa)(L:List AV),L.length=128->H.get ⟨0,6,0,0⟩=some ⟨1,L,true,false⟩->zi env.P H (some 57) (.bA ⟨0,6,0,0⟩ 0 128 none) (.bq 1 (aA l) c)=some (aI 128,H.put ⟨0,6,0,0⟩ (some ⟨1,aA l,true,false⟩)):=by
  intro H L y m;have B:(aA l).take 128=aA l:=cN (by omega);have e:L.drop 128=[]:=wF (by omega);have j:Nat.min (aA l).length 128=128:=by rw[a];rfl
  have E:jJ (.bq 1 (aA l) c)=false:=rfl;have C:cy H.get (.bq 1 (aA l) c)=some (1,aA l):=rfl;simp only[zi,E,C,dX,m];simp[j,B,e,y,a]
 have d:=λH=>D H (List.replicate 128 (a8 0)) (by simp);simp[an, *,EE,u];have p:Int.ofNat l.length=128:=by simp[u]
 rw[show((128:Nat):Int)=128 from rfl]at b;simp[b,d,a]
@[simp] def agu(a:Int):ay env 105 [aI a]=some (aB false):=by
 refine aM rfl (by kernel_rfl) (B8 _ _ _ λg=>?_);simp[an, *,vF]
@[simp] def acC(a b:Int):ay env 75 [aI a,aI b]=some (aI (if a<b then -1 else if b<a then 1 else 0)):=by
 refine aM rfl (by kernel_rfl) (As _ _ _ _ λg=>?_);simp[an, *,tD];repeat' ((first | apply qT<;>intro h | apply mY<;>intro h | apply mZ<;>intro h | apply mW<;>intro h | apply mX<;>intro h)<;>(try simp only[iQb,iQc,gz,pF,bt,jt]at h)<;>(try simp[an, *]))
 done
def PA(a b:Int)(x:AV)(h:x.one=true)(c : ∀g n,view g (n+1) x=some x):ay env 74 [.agg [aI a,x],aI b]=some (aI (if a<b then -1 else if b<a then 1 else 0)):=by
 refine aM rfl (by kernel_rfl) (FT _ _ _ _ λg=>?_);simp[an, *,zV]
def nth(l:List eE)(q:Int):Nat:=(l.takeWhile λs=>decide (s.pos<q)).length
def mL(l:List eE)(q:Int)(n:Nat):Bool:=match l[n]? with | some s=>decide (s.pos=q) | none=>false
section
variable{l:List eE}{x:AV}{q:Int}{N:Nat}(o:Sl 2 (a9 l) x)(f : ∀s∈l,iQ s)(u:l.length<1000000)(w : ∀k (h:k<l.length),(l[k].pos<q↔k<N))(v:N<=l.length)
include o f u w v
theorem Yr{Q:AV->aa->Prop} : ∀(m i j:Nat)(H:aa),j - i<=m->i<=N->N<=j->j<=l.length->Fr H ->
 (∀y H',y = .tup [aI N,aB (mL l q N)]->Q y H') ->
 cB env Tryz.f73 0 aJ [(1,aI q),(0,x),(2,.fn (.func 74) [] []),(10,aI j),(9,aI i),(8,aI l.length)] H Q:=by
 intro m;induction m with
 | zero=>
  intro i j H L hi D c z b;obtain rfl:i=j:=by omega
  obtain rfl:i=N:=(by omega);refine cf _ _ _ _ _ _ _ _ λg=>?_;by_cases a:i<l.length
  ·have V:(a9 l)[i]?=some (l[i]).enc:=(by simp[a9,a]);have e:=(f l[i] (eO _)).r;have G:=PA l[i].pos q l[i].av;have C:bP (a9 l) i 0 2 true=some (.agg [aI l[i].pos,l[i].av]):=by simp[a9,a,eE.enc]
   have K:=G e.2.2.2.2.1 e.2.1;have n:mL l q i=decide (l[i].pos=q):=by simp[mL,a]
   simp only[n]at b;have I : ¬l[i].pos<q:=by intro h;exact absurd ((w i a).1 h) (by omega)
   clear w G f;simp[an, *,aP,o.r,o.idx,eE.enc,dI];exact b _ _ (by
    have:decide (l[i].pos<=q)=decide (l[i].pos=q):=by simp only[decide_eq_decide];omega
    rw[this])
  have n:mL l q i=false:=(by simp[mL,a]);simp only[n]at b;simp[an, *,aP,o.r,o.idx,eE.enc,dI]
 | succ m t=>
  intro i j H L hi D c z b;by_cases M:i<j
  ·have U:=iQa ((i:Int)+j) (by omega);refine cf _ _ _ _ _ _ _ _ λg=>?_;obtain⟨h,n⟩ : ∃h,h=(i+j) / 2:=⟨_,rfl⟩;have p:h<l.length:=by omega
   have T:(0:Int)<=(i:Int)+j:=(by omega);have R:(i:Int)+j<=4294967296:=(by omega);have P:((i:Int)+j).fdiv (2 ^ min 1 IntKind.u64.bits)=h:=by rw[show(2:Int) ^ min 1 IntKind.u64.bits=2 from rfl,dx];omega
   have S:=iQa (h:Int) (by omega);have W:=iQa ((h:Int)+1) (by omega);have e:=(f l[h] (eO _)).r;have K:=PA l[h].pos q l[h].av e.2.2.2.2.1 e.2.1;have C:bP (a9 l) h 0 2 true=some (.agg [aI l[h].pos,l[h].av]):=by simp[a9,p,eE.enc]
   have J:=w h p;have E:=λH'=>t (h+1) j H';have B:=λH'=>t i h H';have b1:j - (h+1)<=m:=by omega
   have b2:h - i<=m:=(by omega);have b3:h<=l.length:=(by omega);clear t w f n;simp[an, *,aP,o.r,o.idx,eE.enc,dI];by_cases a:h<N
   ·have d:(decide ((if h<N then (-1:Int) else if q<l[h].pos then 1 else 0)<0))=true:=by rw[if_pos a];rfl
    have O:((h+1:Nat):Int)=(h:Int)+1:=(by omega);rw[d];have F:=E H b1 (by omega) D c z b;rw[O]at F;simp[*]
   have d:(decide ((if h<N then (-1:Int) else if q<l[h].pos then 1 else 0)<0))=false:=(by rw[if_neg a];split<;>rfl);rw[d];have F:=B H b2 hi (by omega) b3 z b;simp[*]
  exact t i j H (by omega) hi D c z b
theorem ahn:ay env 73 [x,aI q,.fn (.func 74) [] []]=some (.tup [aI N,aB (mL l q N)]):=by
 refine aM rfl (by kernel_rfl) (eW _ _ _ _ _ λg=>?_);have h:=Yr o f u w v (Q:=λy H'=>dA env 73 y H' (.tup [aI N,aB (mL l q N)])) l.length 0 l.length [] (by omega) (by omega) v (bg _) (by simp(maxDischargeDepth:=12) [HA, *]) (λy H' e=>by rw[e];simp);simp[an, *,cz,o.r];exact h
theorem Tt{st lf:Int}{dd:Bool}:ay env 48 [df x st lf dd,aI q]=some (.tup [aI N,aB (mL l q N)]):=by
 refine aM rfl (by kernel_rfl) (JC _ _ _ _ λg=>?_);have h:=ahn o f u w v;simp[an, *,C2,df,o.r]
end
def fO(a:Int):List eE->Bool
 | []=>true
 | s :: l => !decide (s.pos<=a) && !decide (s.pos>=6146)&&decide (s.bs.length=128)&&fO s.pos l
def EO(st lf:Int)(dd:Bool):Bool := !decide (st<0) && !decide (st>=2147483648) && !decide (lf < -1) && !decide (lf>=2147483648) && !(dd && !decide (lf=0))
def EP(l:List eE)(st lf:Int)(dd:Bool):Bool:=fO (-1) l&&EO st lf dd
section
variable{l:List eE}{x:AV}{st lf:Int}{dd:Bool}(o:Sl 2 (a9 l) x)(f : ∀s∈l,iQ s)(u:l.length<1000000000)
include o f u
theorem OO{r1:Ref}{Q:AV->aa->Prop} : ∀(s:List eE)(k:Nat)(i a:Int)(H:aa),l.drop k=s->k<=l.length->i=k->Fr H->H.get r1=some ⟨4,[df x st lf dd],false,false⟩ ->
 (∀y H',y=aI (if fO a s&&EO st lf dd then 0 else 8)->Q y H') ->
 cB env Tryz.f20 0 pr [(9,aI i),(3,aI a),(7,x),(1,.ptr r1 0 0),(8,aI l.length)] H Q:=by
 intro s;induction s with
 | nil=>
  rintro k i a H hs hk rfl hF h1 hQ;obtain rfl:=drop_nil hs hk;refine yH _ _ _ _ _ _ _ λg=>?_;simp only[df]at h1;simp[an, *,tu,o.r];repeat' ((first | apply qT<;>intro h | apply mY<;>intro h | apply mZ<;>intro h | apply mW<;>intro h | apply mX<;>intro h)<;>(try simp only[iQb,iQc,gz,pF,bt,jt]at h)<;>(try simp[an, *]))
  all_goals refine hQ _ _ ?_
  all_goals simp[fO,EO, *]
  all_goals (try omega)
 | cons p s j=>
  rintro k i a H hs hk rfl hF h1 hQ;obtain⟨n,z,c,d⟩:=drop_cons hs;have B:=iQa ((k:Int)+1) (by omega);have hp:=(f p (by rw[<-z];exact eO _)).r;have m:bP (a9 l) k 0 2 true=some (.agg [aI p.pos,p.av]):=by simp[a9,d,eE.enc]
  refine yH _ _ _ _ _ _ _ λg=>?_;have b:=λH'=>j (k+1) ((k:Int)+1) p.pos H' c (by omega) (by omega);clear j f;simp only[df]at h1 b;simp[an, *,tu,o.r,o.idx];repeat' ((first | apply qT<;>intro h | apply mY<;>intro h | apply mZ<;>intro h | apply mW<;>intro h | apply mX<;>intro h)<;>(try simp only[iQb,iQc,gz,pF,bt,jt]at h)<;>(try simp[an, *]))
  all_goals first
   | exact hQ _ _ (by simp[fO, *]<;>omega)
   | refine b _ (by simp(maxDischargeDepth:=12) [HA, *]) (by simp[*,uF,uG,Cr,Cs]) λy H' e=>hQ y H' ?_
  all_goals have t:p.bs.length=128:=by omega
  all_goals simp[e,fO, *]
theorem PC:ay env 20 [df x st lf dd]=some (aI (if EP l st lf dd then 0 else 8)):=by
 refine aM rfl (by kernel_rfl) (HN _ _ _ λg=>?_);have h:=OO (st:=st) (lf:=lf) (dd:=dd) o f u (r1:=⟨0,1,0,0⟩) (Q:=λy H'=>dA env 20 y H' (aI (if EP l st lf dd then 0 else 8))) l 0 0 (-1) [(⟨0,1,0,0⟩,some ⟨4,[df x st lf dd],false,false⟩)] rfl (by omega) rfl (by simp(maxDischargeDepth:=12) [HA, *]) (by simp) (λy H' e=>by rw[e];unfold EP;split<;>simp);simp only[df]at h ⊢;simp[an, *,Bd,o.r];exact h
theorem JM{q:Int}:ay env 47 [df x st lf dd,aI q]=some (aI (if EP l st lf dd then (if 0<=q/\q<6146 then 0 else 2) else 8)):=by
 refine aM rfl (by kernel_rfl) (HM _ _ _ _ λg=>?_);have h:=PC (st:=st) (lf:=lf) (dd:=dd) o f u;simp only[df]at h ⊢;cases hd:EP l st lf dd<;>simp[hd]at h;·simp[an, *,wh,o.r]
 simp[an, *,wh,o.r];repeat' ((first | apply qT<;>intro h | apply mY<;>intro h | apply mZ<;>intro h | apply mW<;>intro h | apply mX<;>intro h)<;>(try simp only[iQb,iQc,gz,pF,bt,jt]at h)<;>(try simp[an, *]))
 all_goals omega
end
def aeP:bN env.P .eql 22 (.tmp 3) (.const (.slice none 0 0)) (some aO) (some aO)=some (aB true,[]):=by kernel_rfl
def Qy(s:eE):eE:=⟨s.pos,s.bs,.bq 1 (aA s.bs) none⟩
def qx(l:List eE):List eE:=l.map Qy
@[simp] def Wp(l:List eE):(qx l).length=l.length:=by simp[qx]
def Bw(l:List eE) : ∀s∈qx l,iQ s:=by
 intro s a;obtain⟨p,_,rfl⟩:=j6.1 a;exact Sl.mk _ _
section
variable{l:List eE}{x:AV}{st lf:Int}{dd:Bool}(o:Sl 2 (a9 l) x)(f : ∀s∈l,iQ s)(A : ∀s∈l,s.bs.length=128)(u:l.length<1000000)
include o f A u
def twA(x:AV)(l:List eE):AV:=match x with
 | .bq z [] _ => .fsl z [] (some 0)
 | .bq z _ _ => .fsl z (a9 (qx l)) none
 | x=>x
end
def Wq{l:List eE}{x:AV}(o:Sl 2 (a9 l) x):ace 2 (a9 (qx l)) (twA x l):=by
 rcases o with ⟨rfl,he⟩ | ⟨c,rfl,_⟩
 ·have:l=[]:=by simpa [a9] using he
  subst this;exact .inl ⟨rfl,rfl⟩
 cases l with| nil=>exact .inr (.inr ⟨rfl,rfl⟩)| cons p l=>exact .inr (.inl rfl)
def qo:AV:=df aO 0 0 false
def yu : ∀(l:List eE)(a:Int),fO a l=true ->∀s∈l,s.bs.length=128:=by
 intro l;induction l with
 | nil=>intro a h s b;cases b
 | cons p l c=>
  intro a h s b;simp[fO]at h;rcases ef.1 b with rfl | b
  ·exact h.1.2
  exact c _ h.2 s b
def vw:AV->AV
 | .fsl z es c => .bq z es c
 | x=>x
end Go.Proofs.YtmjkpdknicjjgaaGreat
namespace Go.Proofs.YtmjkpdknicjjgaaGreat
open Go.Ab Go.ChangeShapes Go.WideShapes Go.RowKit
def Xe:O3 env.P 59 iQ (λs:eE=>[aI s.pos,s.av]):=by
 intro n d h;have h:=np (P:=env.P) Er h;obtain⟨m,x,r,rfl,c,y,r',rfl,b,rfl⟩:=h;obtain⟨i,_,rfl⟩:=su (P:=env.P) (t:=3) (by simp) _ _ c;obtain⟨l,z,rfl,a⟩:=Tp (P:=env.P) (t:=57) (e:=5) (by simp) (by simp) (by simp) (by simp) b;exact⟨⟨i,l,z⟩,a,rfl⟩
def aar{n:Nat}{x:AV}(h:Si env.P n 24 x) : ∃(l:List eE) (y:AV) (st lf:Int) (dd:Bool),(∀s∈l,iQ s)/\Sl 2 (a9 l) y/\x=df y st lf dd:=by
 obtain⟨y,rfl,d⟩:=h.agg (by simp);have h:=np (P:=env.P) Md d;obtain⟨m,o,r1,rfl,f,i,r2,rfl,g,k,r3,rfl,a,j,r4,rfl,e,rfl⟩:=h;obtain⟨l,z,c,rfl,s⟩:=Gc (P:=env.P) KU KR Pp Xe f;obtain⟨st,_,rfl⟩:=su (P:=env.P) (t:=3) (by simp) _ _ g;obtain⟨lf,_,rfl⟩:=su (P:=env.P) (t:=3) (by simp) _ _ a;obtain⟨b,_,rfl⟩:=Le (P:=env.P) (t:=4) (by simp) _ _ e;exact⟨l,z,st,lf,b,c,s,rfl⟩
end Go.Proofs.YtmjkpdknicjjgaaGreat
namespace Go.Proofs.YtmjkpdknicjjgaaGreat
open Go.Ab
attribute [local simp] aC aw ah aq ao bk jE aE ar ax bo bn aG aD ae aN cN
@[simp] def aes(a:UInt8)(b:UInt32):ay env 119 [.agg [a8 a,bO b]]=some (aI (bad (decide (a<=15)))):=by
 refine aM rfl (by kernel_rfl) (FQ _ _ _ λg=>?_);simp[an, *,zU];repeat' ((first | apply qT<;>intro h | apply mY<;>intro h | apply mZ<;>intro h | apply mW<;>intro h | apply mX<;>intro h)<;>(try simp only[iQb,iQc,gz,pF,bt,jt]at h)<;>(try simp[an, *]))
 all_goals (try grind [bad])
@[simp] def agt(b:Bool):ay env 118 [aB b]=some (aI (bad b)):=by
 refine aM rfl (by kernel_rfl) (Jz _ _ _ λg=>?_);cases b<;>simp[an, *,C0,bad]
@[simp] def VZ(a:UInt8)(b:UInt32)(n:UInt8):ay env 97 [.agg [a8 a,bO b,a8 n]]=some (aI (bad (fA ⟨a,b,n⟩))):=by
 refine aM rfl (by kernel_rfl) (Bs _ _ _ λg=>?_);simp[an, *,uS,fA];repeat' ((first | apply qT<;>intro h | apply mY<;>intro h | apply mZ<;>intro h | apply mW<;>intro h | apply mX<;>intro h)<;>(try simp only[iQb,iQc,gz,pF,bt,jt]at h)<;>(try simp[an, *]))
@[simp] def aet(a:UInt8)(b:UInt32)(n:UInt8)(k:Int):ay env 122 [.agg [a8 a,bO b,a8 n,aI k]]=some (aI (bad (yP ⟨⟨a,b,n⟩,k⟩))):=by
 refine aM rfl (by kernel_rfl) (JA _ _ _ λg=>?_);simp[an, *,C1,yP];repeat' ((first | apply qT<;>intro h | apply mY<;>intro h | apply mZ<;>intro h | apply mW<;>intro h | apply mX<;>intro h)<;>(try simp only[iQb,iQc,gz,pF,bt,jt]at h)<;>(try simp[an, *]))
@[simp] def Y7(a:UInt8)(b:UInt32)(n:UInt8)(k m:Int):ay env 120 [.agg [a8 a,bO b,a8 n,aI k,aI m]]=some (aI (bad (nD ⟨⟨⟨a,b,n⟩,k⟩,m⟩))):=by
 refine aM rfl (by kernel_rfl) (Dp _ _ _ λg=>?_);cases c:yP ⟨⟨a,b,n⟩,k⟩ with
 | false=>simp[an, *,mr,nD]
 | true=>
  have d:=IP c;simp only at d;by_cases i:1<=m
  ·by_cases f:m<=64;·have e:=iQa (k+m) (by omega);have h:=iQa (k+m - 1) (by omega);simp[an, *,mr,nD]
   simp[an, *,mr,nD]
  simp[an, *,mr,nD]
end Go.Proofs.YtmjkpdknicjjgaaGreat
namespace Go.Ab
def Qn.enc(h:Qn):List AV:=[a8 h.lv,bO h.cats,a8 h.num]
def yY.enc(i:yY):List AV:=[a8 i.h.lv,bO i.h.cats,a8 i.h.num,aI i.n]
def Spn.enc(s:Spn):List AV:=[a8 s.f.h.lv,bO s.f.h.cats,a8 s.f.h.num,aI s.f.n,aI s.many]
end Go.Ab
namespace Go.Proofs.YtmjkpdknicjjgaaGreat
open Go.Ab Go.ChangeShapes Go.WideShapes Go.RowKit
def JP:O3 env.P 27 (λ_=>True) (λp:UInt8 × UInt32=>[a8 p.1,bO p.2]):=by
 intro n c h;have h:=np (P:=env.P) Mc h;obtain⟨m,x,r,rfl,b,y,r',rfl,a,rfl⟩:=h;obtain⟨v,_,rfl⟩:=Lf (P:=env.P) (t:=5) (by simp) _ _ b;obtain⟨w,_,rfl⟩:=aaD (P:=env.P) (t:=25) (by simp) _ _ a;exact⟨(v,w),trivial,rfl⟩
def PF:O3 env.P 29 (λ_=>True) Qn.enc:=by
 intro n c h;have h:=np (P:=env.P) Mb h;obtain⟨m,x,r,rfl,b,y,r',rfl,a,rfl⟩:=h;obtain⟨p,_,rfl⟩:=JP _ _ b;obtain⟨w,_,rfl⟩:=Lf (P:=env.P) (t:=5) (by simp) _ _ a;exact⟨⟨p.1,p.2,w⟩,trivial,rfl⟩
def PE:O3 env.P 31 (λ_=>True) yY.enc:=by
 intro n c h;have h:=np (P:=env.P) Ma h;obtain⟨m,x,r,rfl,b,y,r',rfl,a,rfl⟩:=h;obtain⟨p,_,rfl⟩:=PF _ _ b;obtain⟨i,_,rfl⟩:=su (P:=env.P) (t:=3) (by simp) _ _ a;exact⟨⟨p,i⟩,trivial,rfl⟩
def Xd:O3 env.P 33 (λ_=>True) Spn.enc:=by
 intro n c h;have h:=np (P:=env.P) L9 h;obtain⟨m,x,r,rfl,b,y,r',rfl,a,rfl⟩:=h;obtain⟨p,_,rfl⟩:=PE _ _ b;obtain⟨i,_,rfl⟩:=su (P:=env.P) (t:=3) (by simp) _ _ a;exact⟨⟨p,i⟩,trivial,rfl⟩
def To{n:Nat}{b:List AV}(h:C6 env.P n 34 b) : ∃(l:List Int) (x:AV),(∀a∈l, -2147483648<=a/\a<=2147483647)/\b=[x]/\Sl 1 (rows l) x:=by
 obtain⟨l,x,c,rfl,s⟩:=Gc (P:=env.P) Tb S6 WE (Xc (by simp)) h;exact⟨l,x,c,rfl,s⟩
def JJ{n:Nat}{x:AV}(h:Si env.P n 3 x) : ∃i:Int,(-9223372036854775808<=i/\i<=9223372036854775807)/\x=aI i:=by
 obtain⟨i,hi,e⟩:=su (P:=env.P) (t:=3) (by simp) _ _ (h.cell (by simp));cases e;exact⟨i,hi,rfl⟩
def ZR(p:fG × AV):List AV:=[a8 p.1.kind,a8 p.1.h.lv,bO p.1.h.cats,a8 p.1.h.num,aI p.1.serial,a8 p.1.s.f.h.lv,bO p.1.s.f.h.cats,a8 p.1.s.f.h.num,aI p.1.s.f.n,aI p.1.s.many,
 a8 p.1.a.h.lv,bO p.1.a.h.cats,a8 p.1.a.h.num,aI p.1.a.n,a8 p.1.to.lv,bO p.1.to.cats,p.2]
def TW:O3 env.P 36 (λp:fG × AV=>Sl 1 (rows p.1.l) p.2 /\∀a∈p.1.l, -2147483648<=a/\a<=2147483647) ZR:=by
 intro n x h;have h:=np (P:=env.P) L8 h;obtain⟨m,D,r1,rfl,j,v,r2,rfl,o,C,r3,rfl,c,B,r4,rfl,g,w,r5,rfl,d,z,r6,rfl,i,u,A,rfl,f,rfl⟩:=h;obtain⟨k,_,rfl⟩:=Lf (P:=env.P) (t:=5) (by simp) _ _ j;obtain⟨e,_,rfl⟩:=PF _ _ o;obtain⟨b,_,rfl⟩:=su (P:=env.P) (t:=3) (by simp) _ _ c;obtain⟨s,_,rfl⟩:=Xd _ _ g;obtain⟨a,_,rfl⟩:=PE _ _ d;obtain⟨t,_,rfl⟩:=JP _ _ i;obtain⟨l,y,q,rfl,sl⟩:=To f;exact⟨(⟨k,e,b,s,a,⟨t.1,t.2⟩,l⟩,y),⟨sl,q⟩,rfl⟩
def own:ownKnob Tryz.prog.godebug=none:=by kernel_rfl
def kids:Kids Tryz.prog (· < Tryz.prog.types.size):=kids_rows (by kernel_rfl) (by kernel_rfl)
end Go.Proofs.YtmjkpdknicjjgaaGreat
namespace Go.Proofs.YtmjkpdknicjjgaaGreat
open Go.Ab
section
attribute [local simp] aC aw ah aq ao bk jE aE ar ax bo bn aG aD ae aN cN
@[simp] def acA(n:Int)(a:0<=n):ay env 98 [aI n,aI 4]=some (.bq 1 (aA (be 4 n)) none):=by
 refine aM rfl (by kernel_rfl) (AI _ _ _ _ λg=>?_);have c:IntKind.i64.wrap (-1) = -1:=rfl;have b:IntKind.i64.wrap 0=0:=rfl;simp[an, *,we];refine dE _ _ _ _ _ λg=>?_;simp[an, *,dk,dI,dx];refine dE _ _ _ _ _ λg=>?_;simp[an, *,dk,dI,dx];refine dE _ _ _ _ _ λg=>?_;simp[an, *,dk,dI,dx];refine dE _ _ _ _ _ λg=>?_;simp[an, *,dk,dI,dx];refine dE _ _ _ _ _ λg=>?_;simp[an, *,dk,uN,aA]
@[simp] def QN(n:Int)(a:0<=n):ay env 98 [aI n,aI 7]=some (.bq 1 (aA (be 7 n)) none):=by
 refine aM rfl (by kernel_rfl) (AI _ _ _ _ λg=>?_);have c:IntKind.i64.wrap (-1) = -1:=rfl;have b:IntKind.i64.wrap 0=0:=rfl;simp[an, *,we];refine dE _ _ _ _ _ λg=>?_;simp[an, *,dk,dI,dx];refine dE _ _ _ _ _ λg=>?_;simp[an, *,dk,dI,dx];refine dE _ _ _ _ _ λg=>?_;simp[an, *,dk,dI,dx];refine dE _ _ _ _ _ λg=>?_;simp[an, *,dk,dI,dx];refine dE _ _ _ _ _ λg=>?_;simp[an, *,dk,dI,dx];refine dE _ _ _ _ _ λg=>?_;simp[an, *,dk,dI,dx];refine dE _ _ _ _ _ λg=>?_;simp[an, *,dk,dI,dx];refine dE _ _ _ _ _ λg=>?_;simp[an, *,dk,OY,aA]
def Rf{d:AV}{Q:AV->aa->Prop}{l:List UInt8}(f:Sl 1 (aA l) d)(u:l.length<=7) : ∀(s:List UInt8)(k:Nat)(i a:Int)(H:aa),l.drop k=s->k<=l.length->i=k->0<=a->a<256 ^ k ->
 (∀y H',y=aI (Au a s)->Q y H') ->
 cB env Tryz.f148 0 sv [(7,aI i),(2,aI a),(5,d),(6,aI l.length)] H Q:=by
 intro s;induction s with
 | nil=>rintro k i a H hs hk rfl h0 h1 hQ;obtain rfl:=drop_nil hs hk;refine AH _ _ _ _ _ _ λg=>?_;simp[an, *,wc];exact hQ _ _ rfl
 | cons b s h=>rintro k i a H hs hk rfl h0 h1 hQ;obtain⟨m,o,c,j⟩:=drop_cons hs;refine AH _ _ _ _ _ _ λg=>?_;have p:=b.toNat_lt;have n:=Ae (k:=k) 6 (by omega);have e:=PL h0 (by omega) b;have q:=iQa (a * 256) (by omega);have t:=iQa ((k:Int)+1) (by omega);simp[an, *,wc,Ck,f.idx];exact h (k+1) _ _ _ c (by omega) (by simp) (by omega) (by rw[Bj];omega) hQ
@[simp] def ND{x:AV}{l:List UInt8}(a:Sl 1 (aA l) x)(b:l.length<=7):ay env 148 [x]=some (aI (val l)):=by
 refine aM rfl (by kernel_rfl) (KO _ _ _ λg=>?_);have h:=a.len;simp[an, *,ED];exact Rf a b l 0 _ _ _ rfl (by omega) rfl (by omega) (by simp) (λy H' e=>by simp[e,val])
def cr(h:Qn):List UInt8:=h.lv :: (be 4 h.cats.toNat++[h.num])
@[simp] def BE(h:Qn):(cr h).length=6:=by simp[cr]
@[simp] def K6(a:UInt8)(b:UInt32)(n:UInt8):ay env 66 [.agg [a8 a,bO b,a8 n]]=some (if fA ⟨a,b,n⟩ then .tup [.fsl 1 (aA (cr ⟨a,b,n⟩)) none,aI 0] else .tup [aO,aI 8]):=by
 refine aM rfl (by kernel_rfl) (Dm _ _ _ λg=>?_);cases h:fA ⟨a,b,n⟩ with
 | true=>simp[an, *,sq,bad,aA,cr]
 | false=>simp[an, *,sq,bad]
def dP(i:yY):List UInt8:=cr i.h++be 7 i.n
@[simp] def Ol(i:yY):(dP i).length=13:=by simp[dP]
@[simp] def ahp(a:UInt8)(b:UInt32)(n:UInt8)(k:Int):ay env 100 [.agg [a8 a,bO b,a8 n,aI k]]=some (if yP ⟨⟨a,b,n⟩,k⟩ then .tup [.bq 1 (aA (dP ⟨⟨a,b,n⟩,k⟩)) none,aI 0] else .tup [aO,aI 8]):=by
 refine aM rfl (by kernel_rfl) (Nm _ _ _ λg=>?_);cases h:yP ⟨⟨a,b,n⟩,k⟩ with
 | true=>
  have c:=IP h;have e:=QN k (by simp only at c;omega);have d:fA ⟨a,b,n⟩=true:=by simp only[yP,bt]at h;exact h.1
  simp only at c;simp[an, *,BO,bad,aA,dP]
 | false=>simp[an, *,BO,bad]
def WS{c:Option Nat}{a n b1 b2 b3 b4:UInt8}(b:6<=c.getD 6):ay env 128 [.bq 1 [a8 a,a8 b1,a8 b2,a8 b3,a8 b4,a8 n] c]=some (.agg [a8 a,bO (u32 (val [b1,b2,b3,b4])),a8 n,aI (bad (fA ⟨a,u32 (val [b1,b2,b3,b4]),n⟩))]):=by
 refine aM rfl (by kernel_rfl) (B0 _ _ _ λg=>?_);have e:=ND (l:=[b1,b2,b3,b4]) (x := .bq 1 [a8 b1,a8 b2,a8 b3,a8 b4] (c.map (· - 1))) (Sl.XE (Kh b (by simp))) (by simp);have d:=wX [b1,b2,b3,b4];generalize val [b1,b2,b3,b4]=v at *;simp[an, *,yw]
def Eb{c:Option Nat}{a n b1 b2 b3 b4:UInt8}(b:6<=c.getD 6):ay env 111 [.bq 1 [a8 a,a8 b1,a8 b2,a8 b3,a8 b4,a8 n] c] =
 some (if fA ⟨a,u32 (val [b1,b2,b3,b4]),n⟩ then .tup [.agg [a8 a,bO (u32 (val [b1,b2,b3,b4])),a8 n],aI 0] else .tup [.agg [a8 0,bO 0,a8 0],aI 8]):=by
 refine aM rfl (by kernel_rfl) (Dn _ _ _ λg=>?_);have d:=WS (a:=a) (n:=n) (b1:=b1) (b2:=b2) (b3:=b3) (b4:=b4) b;generalize val [b1,b2,b3,b4]=v at *;cases h:fA ⟨a,u32 v,n⟩<;>simp[an, *,xA,bad]
def QO{c:Option Nat}{a n b1 b2 b3 b4 d1 d2 d3 d4 d5 d6 d7:UInt8}(b:13<=c.getD 13):ay env 128 [.bq 1 [a8 a,a8 b1,a8 b2,a8 b3,a8 b4,a8 n,a8 d1,a8 d2,a8 d3,a8 d4,a8 d5,a8 d6,a8 d7] c]=some (.agg [a8 a,bO (u32 (val [b1,b2,b3,b4])),a8 n,aI (bad (fA ⟨a,u32 (val [b1,b2,b3,b4]),n⟩))]):=by
 refine aM rfl (by kernel_rfl) (B0 _ _ _ λg=>?_);have e:=ND (l:=[b1,b2,b3,b4]) (x := .bq 1 [a8 b1,a8 b2,a8 b3,a8 b4] (c.map (· - 1))) (Sl.XE (Kh b (by simp))) (by simp);have d:=wX [b1,b2,b3,b4];generalize val [b1,b2,b3,b4]=v at *;simp[an, *,yw]
def aax{c:Option Nat}{a n b1 b2 b3 b4 d1 d2 d3 d4 d5 d6 d7:UInt8}(b:13<=c.getD 13):ay env 149 [.bq 1 [a8 a,a8 b1,a8 b2,a8 b3,a8 b4,a8 n,a8 d1,a8 d2,a8 d3,a8 d4,a8 d5,a8 d6,a8 d7] c] =
 some (if yP ⟨⟨a,u32 (val [b1,b2,b3,b4]),n⟩,val [d1,d2,d3,d4,d5,d6,d7]⟩ then .tup [.agg [a8 a,bO (u32 (val [b1,b2,b3,b4])),a8 n,aI (val [d1,d2,d3,d4,d5,d6,d7])],aI 0] else .tup [.agg [a8 0,bO 0,a8 0,aI 0],aI 8]):=by
 refine aM rfl (by kernel_rfl) (Nn _ _ _ λg=>?_);have e:=QO (a:=a) (n:=n) (b1:=b1) (b2:=b2) (b3:=b3) (b4:=b4) (d1:=d1) (d2:=d2) (d3:=d3) (d4:=d4) (d5:=d5) (d6:=d6) (d7:=d7) b;have d:=ND (l:=[d1,d2,d3,d4,d5,d6,d7]) (x := .bq 1 [a8 d1,a8 d2,a8 d3,a8 d4,a8 d5,a8 d6,a8 d7] (c.map (· - 6))) (Sl.XE (Kh b (by simp))) (by simp);generalize val [b1,b2,b3,b4]=v at *;generalize val [d1,d2,d3,d4,d5,d6,d7]=w at *;cases h:yP ⟨⟨a,u32 v,n⟩,w⟩<;>simp[an, *,Hr,bad]
def td(n:Int):Bool:=(decide (0<=n)&&decide (n<55296))||(decide (57343<n)&&decide (n<=1114111))
@[simp] def agv(n:Int):ay env 146 [.v (.int .i32 n)]=some (aB (td n)):=by
 refine aM rfl (by kernel_rfl) (uU _ _ _ λg=>?_);simp[an, *,oN,td];repeat' ((first | apply qT<;>intro h | apply mY<;>intro h | apply mZ<;>intro h | apply mW<;>intro h | apply mX<;>intro h)<;>(try simp only[iQb,iQc,gz,pF,bt,jt]at h)<;>(try simp[an, *]))
 all_goals (try grind)
@[simp] def ags(n:Int):ay env 145 [.v (.int .i32 n)]=some (aB (!ij n)):=by
 refine aM rfl (by kernel_rfl) (Dl _ _ _ λg=>?_);by_cases h:n = -1;·subst h;simp[an, *,sk,ij]
 simp[an, *,sk,ij,td]
def yq:List Int->Nat->Int
 | [],_ => -1
 | n :: l,k=>if ij n then yq l (k+1) else k
def Oj(l:List Int) : ∀k:Nat,(0<=yq l k↔l.all ij=false):=by
 induction l with| nil=>intro k;simp[yq]| cons n l b=>
  intro k;unfold yq;cases h:ij n with
  | true=>rw[if_pos rfl,b,yB,h,ia]
  | false=>simp[h]
def Ng{x0:AV}{Q:AV->aa->Prop}{l:List Int}(a:Sl 1 (rows l) x0)(f:l.length<4611686018427387904) : ∀(s:List Int)(k:Nat)(i:Int)(H:aa),l.drop k=s->k<=l.length->i=k ->
 (∀y H',y=aI (yq s k)->Q y H') ->
 cB env Tryz.f155 0 ej [(8,aI i),(0,x0),(1,.fn (.func 145) [] []),(7,aI l.length)] H Q:=by
 intro s;induction s with
 | nil=>rintro k i H hs hk rfl hQ;obtain rfl:=drop_nil hs hk;refine kG _ _ _ _ _ _ λg=>?_;simp[an, *,eu];all_goals exact hQ _ _ rfl
 | cons b s j=>
  rintro k i H hs hk rfl hQ;obtain⟨n,p,c,o⟩:=drop_cons hs;refine kG _ _ _ _ _ _ λg=>?_;have q:=iQa ((k:Int)+1) (by omega);cases h:ij b with
  | true=>simp[an, *,eu,a.idx,rows,aR];exact j (k+1) _ _ c (by omega) (by simp) (λy H' e=>hQ y H' (by simp[e,yq,h]))
  | false=>simp[an, *,eu,a.idx,rows,aR];exact hQ _ _ (by simp[yq,h])
section
variable{x:AV}{l:List Int}(a:Sl 1 (rows l) x)(f:l.length<4611686018427387904)
include a f
theorem NG:ay env 155 [x,.fn (.func 145) [] []]=some (aI (yq l 0)):=by
 refine aM rfl (by kernel_rfl) (qe _ _ _ _ λg=>?_);have h:=a.len;simp[an, *,kV];exact Ng a f l 0 _ _ rfl (by omega) rfl (λy H' e=>by simp[e])
theorem TO:ay env 147 [x,.fn (.func 145) [] []]=some (aB (!l.all ij)):=by
 refine aM rfl (by kernel_rfl) (oT _ _ _ _ λg=>?_);have h:=NG a f;have e:decide (0<=yq l 0) = !l.all ij:=by
  have:=Oj l 0;cases h:l.all ij<;>simp[h]at this ⊢ <;> omega
 simp[an, *,kg,a.r]
theorem Ds:ay env 123 [x]=some (aI (xh l)):=by
 refine aM rfl (by kernel_rfl) (FL _ _ _ λg=>?_);have h:=TO a f;have c:=a.len;by_cases b:64<l.length
 ·have:(64:Int)<l.length:=by omega
  simp[an, *,uR,xh,a.r]
 have : ¬(64:Int)<l.length:=by omega
 cases e:l.all ij<;>simp[an, *,uR,xh,a.r]
end
def OH{x0 u:AV}{Q:AV->aa->Prop}{l m:List Int}(a:Sl 1 (rows l) x0)(d:Sl 1 (rows m) u)(f:l.length<4611686018427387904)(j:m.length=l.length) : ∀(s t:List Int)(k:Nat)(i:Int)(H:aa),l.drop k=s->m.drop k=t->k<=l.length->i=k ->
 (∀y H',y=aB (decide (s=t))->Q y H') ->
 cB env Tryz.f126 0 fc [(13,aI i),(1,u),(0,x0),(12,aI l.length)] H Q:=by
 intro s;induction s with
 | nil=>rintro t k i H hs ht hk rfl hQ;obtain rfl:=drop_nil hs hk;rw[<-j,I8]at ht;subst ht;refine lg _ _ _ _ _ _ λg=>?_;simp[an, *,fk];all_goals exact hQ _ _ rfl
 | cons b s v=>
  rintro t k i H hs ht hk rfl hQ;obtain⟨z,B,h,A⟩:=drop_cons hs;cases t with
  | nil=>have:=iQf List.length ht;simp at this;omega
  | cons c t=>
  obtain⟨p,w,n,q⟩:=drop_cons ht;refine lg _ _ _ _ _ _ λg=>?_;have C:=iQa ((k:Int)+1) (by omega);by_cases o:b=c;·subst o;simp[an, *,fk,a.idx,d.idx,rows,aR];exact v t (k+1) _ _ h n (by omega) (by simp) (λy H' e=>hQ y H' (by simp[e]))
  simp[an, *,fk,a.idx,d.idx,rows,aR];all_goals exact hQ _ _ (by simp[o])
def QK{x0 u:AV}{Q:AV->aa->Prop}{l m:List Int}(a:Sl 1 (rows l) x0)(d:Sl 1 (rows m) u)(f:l.length<4611686018427387904)(j:m.length=l.length) : ∀(s t:List Int)(k:Nat)(i:Int)(H:aa),l.drop k=s->m.drop k=t->k<=l.length->i=k ->
 (∀y H',y=aB (decide (s=t))->Q y H') ->
 cB env Tryz.f83 0 je [(5,aI i),(1,u),(0,x0)] H Q:=by
 intro s;induction s with
 | nil=>rintro t k i H hs ht hk rfl hQ;obtain rfl:=drop_nil hs hk;rw[<-j,I8]at ht;subst ht;refine oH _ _ _ _ _ λg=>?_;simp[an, *,jg,a.len];all_goals exact hQ _ _ rfl
 | cons b s v=>
  rintro t k i H hs ht hk rfl hQ;obtain⟨z,B,h,A⟩:=drop_cons hs;cases t with
  | nil=>have:=iQf List.length ht;simp at this;omega
  | cons c t=>
  obtain⟨p,w,n,q⟩:=drop_cons ht;refine oH _ _ _ _ _ λg=>?_;have C:=iQa ((k:Int)+1) (by omega);by_cases o:b=c;·subst o;simp[an, *,jg,a.idx,d.idx,a.len,rows,aR];exact v t (k+1) _ _ h n (by omega) (by simp) (λy H' e=>hQ y H' (by simp[e]))
  simp[an, *,jg,a.idx,d.idx,a.len,rows,aR];all_goals exact hQ _ _ (by simp[o])
section
variable{x y:AV}{l m:List Int}(a:Sl 1 (rows l) x)(d:Sl 1 (rows m) y)(f:l.length<4611686018427387904)
include a d f
theorem QQ:ay env 126 [x,y]=some (aB (decide (l=m))):=by
 refine aM rfl (by kernel_rfl) (rQ _ _ _ _ λg=>?_);have k:=a.len;have j:=d.len;by_cases h:m.length=l.length
 ·have i:(m.length:Int)=l.length:=by omega
  simp[an, *,jq];exact OH a d f h l m 0 0 _ rfl rfl (by omega) rfl (λy H' e=>by simp[e])
 have i : ¬(l.length:Int)=m.length:=by omega
 have c:l≠m:=λe=>h (by rw[e]);have b : ¬(m.length:Int)=l.length:=by omega
 simp[an, *,jq]
theorem Tw:ay env 83 [x,y]=some (aB (decide (l=m))):=by
 refine aM rfl (by kernel_rfl) (wV _ _ _ _ λg=>?_);have k:=a.len;have j:=d.len;by_cases h:m.length=l.length
 ·have i:(m.length:Int)=l.length:=by omega
  simp[an, *,mz];exact QK a d f h l m 0 0 _ rfl rfl (by omega) rfl (λy H' e=>by simp[e])
 have i : ¬(l.length:Int)=m.length:=by omega
 have c:l≠m:=λe=>h (by rw[e]);have b : ¬(m.length:Int)=l.length:=by omega
 simp[an, *,mz]
end
def OZ : ∀(l:List eE)(a:Int),fO a l=true ->∀s∈l,a<s.pos:=by
 intro l;induction l with
 | nil=>intro a h s e;cases e
 | cons p l f=>
  intro a h s e;simp[fO]at h;rcases ef.1 e with rfl | e
  ·exact h.1.1.1
  have:=f _ h.2 s e;have:=h.1.1.1;omega
def N7(l:List eE)(q:Int):nth l q<=l.length:=by
 unfold nth;exact(List.takeWhile_sublist _).length_le
def LC(q:Int) : ∀(l:List eE)(a:Int),fO a l=true ->∀k (h:k<l.length),(l[k].pos<q↔k<nth l q):=by
 intro l;induction l with
 | nil=>intro a h k f;exact absurd f (by simp)
 | cons p l i=>
  intro a h k f;have j:=OZ l p.pos (by simp[fO]at h;exact h.2);have g:fO p.pos l=true:=by simp[fO]at h;exact h.2
  unfold nth;by_cases hp:p.pos<q
  ·rw[Jp (by simpa using hp),iA];cases k with
   | zero=>simp[hp]
   | succ k=>have e:k<l.length:=(by simpa using f);have:=i p.pos g k e;unfold nth at this;simp only[iQG];rw[this];omega
  rw[Jo (by simpa using hp)];cases k with
  | zero=>simp[hp]
  | succ k=>have e:k<l.length:=(by simpa using f);have:=j l[k] (eO _);simp only[iQG,k8];omega
def Ak{l:List eE}{st lf:Int}{dd:Bool}(h:EP l st lf dd=true):fO (-1) l=true:=by
 unfold EP at h;simp at h;exact h.1
def rdB(l:List eE)(q:Int):List UInt8:=if mL l q (nth l q) then ((l[nth l q]?).map (·.bs)).getD [] else List.replicate 128 0
section
variable{l:List eE}{x:AV}{st lf:Int}{dd:Bool}(c:Sl 2 (a9 l) x)(b : ∀s∈l,iQ s)(d:l.length<1000000)
include c b d
theorem aat{q:Int}:ay env 59 [df x st lf dd,aI q]=some (
 if EP l st lf dd then (if 0<=q/\q<6146 then .tup [.bq 1 (aA (rdB l q)) none,aI 0] else .tup [aO,aI 2]) else .tup [aO,aI 8]):=by
 refine aM rfl (by kernel_rfl) (JD _ _ _ _ λg=>?_);have a:=JM (st:=st) (lf:=lf) (dd:=dd) c b (by omega) (q:=q);cases hd:EP l st lf dd;·simp[hd]at a;simp only[df]at a ⊢;simp[an, *,q9,c.r]
 simp[hd]at a;by_cases f:0<=q/\q<6146
 ·rw[if_pos f]at a;have m:=Tt (st:=st) (lf:=lf) (dd:=dd) c b d (LC q l (-1) (Ak hd)) (N7 l q);cases e:mL l q (nth l q)
  ·obtain⟨Z,k⟩ : ∃Z:List UInt8,Z=List.replicate 128 0:=⟨_,rfl⟩;have v:Z.length=128:=by rw[k];rfl
   have u:rdB l q=Z:=by unfold rdB;rw[e,k];rfl
   rw[e]at m;simp only[df,u]at a m ⊢;rw[if_pos f];have o:=zq (P:=env.P) (t:=57) (z:=1) (by':=1) (zz:=a8 0) (r:=⟨0,23,0,0⟩) (by kernel_rfl) (by kernel_rfl) (n:=128) (by decide) (by decide);rw[show List.replicate 128 (a8 0)=aA Z from by rw[k];rfl,show((128:Nat):Int)=128 from rfl]at o;clear k;simp[an, *,q9,c.r]
  have i:nth l q<l.length:=by
   unfold mL at e;cases h:l[nth l q]? with
   | none=>rw[h]at e;cases e
   | some s=>exact(dT.1 h).1
  obtain⟨p,hp⟩ : ∃p,p=l[nth l q]:=⟨_,rfl⟩;have j:=b p (by rw[hp];exact eO _);have u:rdB l q=p.bs:=by simp[rdB,e,i,hp]
  have A:=aen j (yu l (-1) (Ak hd) p (by rw[hp];exact eO _));have y:=j.r;rw[e]at m;simp only[df,u]at a m ⊢;rw[if_pos f];have w:bP (a9 l) (nth l q) 1 1 false=some p.av:=by simp[a9,i,eE.enc,hp]
  clear b;subst hp;simp[an, *,q9,c.r,c.idx]
 rw[if_neg f]at a;simp only[df]at a ⊢;rw[if_neg f];simp[an, *,q9,c.r]
end
def F1 : ∀(l:List eE)(a:Int),fO a (qx l)=fO a l:=by
 intro l;induction l with
 | nil=>intro a;rfl
 | cons p l g=>intro a;show(_&&fO p.pos (qx l))=_;rw[g];rfl
def aae(l:List eE)(q:Int):nth (qx l) q=nth l q:=by
 unfold nth;induction l with
 | nil=>rfl
 | cons p l i=>
  show((Qy p :: qx l).takeWhile _).length=_;by_cases h:p.pos<q;·have g:decide ((Qy p).pos<q)=true:=iQg h;have a:decide (p.pos<q)=true:=iQg h;rw[Jp (p:=λs:eE=>decide (s.pos<q)) g,Jp (p:=λs:eE=>decide (s.pos<q)) a,iA,iA,i]
  have g : ¬decide ((Qy p).pos<q)=true:=by rw[iQb];exact h
  have a : ¬decide (p.pos<q)=true:=by rw[iQb];exact h
  rw[Jo (p:=λs:eE=>decide (s.pos<q)) g,Jo (p:=λs:eE=>decide (s.pos<q)) a]
def aaf(l:List eE)(q:Int)(n:Nat):mL (qx l) q n=mL l q n:=by
 unfold mL qx;rw[kR];cases l[n]?<;>rfl
def yX(q:Int)(b:List UInt8):eE:=⟨q,b,.bq 1 (aA b) none⟩
def wrL(l:List eE)(q:Int)(b:List UInt8):List eE:=
 if mL l q (nth l q) then (qx l).set (nth l q) (yX q b) else (qx l).take (nth l q)++yX q b :: (qx l).drop (nth l q)
def abC{l:List eE}{q:Int}{n:Nat}(a:mL l q n=true) : ∃h:n<l.length,l[n].pos=q:=by
 unfold mL at a;cases h:l[n]? with
 | none=>rw[h]at a;cases a
 | some s=>obtain⟨i,g⟩:=dT.1 h;rw[h]at a;exact⟨i,by rw[g];simpa using a⟩
def He:env.Ok (zJ env):=J9 GP (by kernel_rfl) OD (λf t h=>by cases h) (λf args H y H' h=>by
 by_cases e:f=49;·rw[if_pos e]at h;rw[e];exact ins.IN args H y H' h
 rw[if_neg e]at h;cases h)
def CA{E:Env}{ok:Array Oper->Bool}(a:E.Ok ok){dep:Nat}{f:FuncId}{args:List AV}{H H':aa}{y:AV}(h:cD E dep (.fn f) args H=some (y,H')):il E.P (.fn f) args H y H':=by
 obtain⟨m,hm⟩:=qJ.1 h;exact ya a (Gk a m) (hm m (bg _))
def J4{x:AV}{n:Nat}{a:Ref}{b:Option Nat}{bv:aY}{v:AV}{H H':aa}{y:AV}(l:H.get a=some bv)(k:bv.es=[v])(h:cO env.P false H.get ⟨1,19,H.gen 1 19,0⟩ .len #[22] [x]=some (aI n,[]))
 (d : ∃z,cm env.P H.get 22 (some x) (some (some (n:Int))) (some none) (some none)=some (z,[]))
 (i:dm env.P true H ⟨1,25,H.gen 1 25,0⟩ (some 22) (some 22) x (.bA a 0 1 b)=some (y,H'))
 (e:qN Tryz.prog 22 40 [x,aI n,.bA a 0 1 b] H=none) :
 cD env 0 (.fn 49) [x,aI n,.bA a 0 1 b] H=some (y,H'):=by
 obtain⟨f,H2,j,rfl,rfl⟩ : ∃f H2,cD env 0 (.fn 49) [x,aI n,.bA a 0 1 b] H=some (f,H2)/\f=y/\H2=H':=by
  refine qK (fn:=Tryz.f49) (c:=iu) (by kernel_rfl) (by kernel_rfl) (by kernel_rfl) (by kernel_rfl) (by kernel_rfl) ?_ ?_;·refine im _ _ _ _ _ _ λg=>?_;obtain⟨z,d⟩:=d;simp[an, *,dD,d,h,i]
  exact e
 exact j
def abv(H:aa)(r:Ref)(n:Nat)(e:Ref)(p:Option Nat)(b bv:aY)(v:AV)(z by':Nat)(f:VH Tryz.prog 22 H r n e b bv v z by')(J:Fr H) :
 il Tryz.prog (.fn 49) [.bA r 0 n none,.v (.int .i64 n),.bA e 0 1 p] H (.bA (vW H r) 0 (n+1) none) ((vW H r,some { b with es:=b.es++[v]}) :: H.put r none):=by
 obtain⟨g,h,j,q,l,s,o,m,w,y,A,a,D,c,i⟩:=f;have u:(cu Tryz.prog 22).bind (aH Tryz.prog)=some 2:=by kernel_rfl
 have k:(cu Tryz.prog 22).bind (gX Tryz.prog)=some 32:=by kernel_rfl
 rw[u]at j;rw[k]at q;cases j;cases q;obtain⟨K,es,G,I⟩:=b;obtain⟨B,x,E,F⟩:=bv;simp only at l s o m w a c;subst l s o m w a c;have d:Sp H.get 2 [v] (.bA e 0 1 p) := .inr ⟨rfl,by simp,by simp[cy,h]⟩;have C:=MF (P:=env.P) (t:=22) (t':=22) (z:=2) (by':=32) (by kernel_rfl) (by kernel_rfl) H ⟨1,25,H.gen 1 25,0⟩ r es.length d g rfl (by simp) (by simpa using i);refine CA He (J4 h rfl (by simp) ⟨.bA r es.length 0 none,by simp[cm,g,bounds]⟩ C ?_);simp[qN,g,h,u,k]
def abt(H:aa)(x:AV)(c:Ref)(e:Option Nat)(bv:aY)(v:AV)(z by':Nat)(i:H.get c=some bv)(j:(cu Tryz.prog 22).bind (aH Tryz.prog)=some z)(m:(cu Tryz.prog 22).bind (gX Tryz.prog)=some by')(k:bv.es=[v])
 (a:xw z H.get x=true) (l:bv.arr=true) (o:bv.esz=z) (q:1<z) (s:0<by') (C:by'<=aG) (G:Fr H) :
 il Tryz.prog (.fn 49) [x,.v (.int .i64 0),.bA c 0 1 e] H (.bA (oU 25 H) 0 1 none) ((oU 25 H,some ⟨z,[v],true,false⟩) :: H):=by
 have A:(cu Tryz.prog 22).bind (aH Tryz.prog)=some 2:=by kernel_rfl
 have w:(cu Tryz.prog 22).bind (gX Tryz.prog)=some 32:=by kernel_rfl
 rw[A]at j;rw[w]at m;cases j;cases m;obtain⟨y,p,B,E⟩:=bv;simp only at k l o;subst k l o;have f:jM 2 H.get (.bA c 0 1 e)=some [v]:=by simp[jM,cy,i,Vf]
 unfold xw at a;split at a;·refine CA He (J4 (n:=0) i rfl (by simp) ⟨aO,by kernel_rfl⟩ ?_ rfl);have h:=O0 (P:=env.P) (t:=22) (t':=22) (by kernel_rfl) (by kernel_rfl) true H ⟨1,25,H.gen 1 25,0⟩ (.bA c 0 1 e) (by rw[show jm env.P 22=2 from by kernel_rfl,f];rfl);rw[h,show jm env.P 22=2 from by kernel_rfl,f,show nK env.P 22=32 from by kernel_rfl];simp[CU,oU]
 ·rename_i r;split at a
  ·rename_i b d;obtain⟨I,es,F,u⟩:=b;simp only[bt,iQl,List.isEmpty_iff]at a;obtain⟨⟨rfl,rfl⟩,rfl⟩:=a;have g:jm env.P 22=2:=by kernel_rfl
   have D:nK env.P 22=32:=(by kernel_rfl);have h:=Ez (P:=env.P) (t:=22) (t':=22) (by kernel_rfl) (by kernel_rfl) true H ⟨1,25,H.gen 1 25,0⟩ r 0 0 (.bA c 0 1 e) (es:=[]) (new:=[v]) (fz:=u) (by rw[g];exact d) (by rw[g];exact f) rfl (.inr ⟨by rw[D];simp[aG],by simp⟩);rw[g,if_neg (by simp)]at h;refine CA He (J4 (n:=0) i rfl (by simp) ⟨.bA r 0 0 (some 0),by simp[cm,d,bounds]⟩ h ?_);simp[qN]
  cases a
 cases a
def RY(args:List AV)(H:aa)(y:AV)(H':aa)(h:sx Tryz.prog 22 40 25 args H=some (y,H')):il Tryz.prog (.fn 49) args H y H':=
 OK ⟨Tryz.f49,by kernel_rfl,by kernel_rfl,by kernel_rfl⟩ ins.IN abv abt h
def UL{E:Env}{f:FuncId}{fn:Func}{c:Code}{args:List AV}{R:AV->Prop}(k:E.spec f args=none)(p:E.allowed f=true)(A:E.P.funcs[f]?=some fn)(z:fn.body=some c)(d:Nat.ble args.length fn.ntmps=true)
 (h:cB E fn 0 [.code c] (CT 0 args) [] λx H =>∃y,dA E f x H y/\R y) : ∃y,ay E f args=some y/\R y:=by
 obtain⟨x,H,⟨y,g,u⟩,n,w⟩:=h.h (λ_=>AV.undef) args λi=>(Cp args i).symm;refine⟨y,tM.2 ⟨n,λm q=>?_⟩,u⟩;obtain⟨st,j,v,t⟩:=w m q;subst t;unfold cY;rw[k];unfold tl;simp only[p,if_true,A,z,if_pos (De d),j,v,Option.map_some];unfold dA at g;split;·rename_i j;rw[if_pos j]at g;rw[if_pos g.1];exact g.2
 rename_i j;rw[if_neg j]at g;exact g
section
variable{l:List eE}{x:AV}{st lf:Int}{dd:Bool}(a:Sl 2 (a9 l) x)(b : ∀s∈l,iQ s)
include a b
theorem Ot{r1:Ref}{Q:AV->aa->Prop}{H:aa}(q:H.get r1=some ⟨4,[df x st lf dd],false,false⟩)(c : ∀t:Bool,(t=false->l.length<=200)->Q (aB t) H) : ∀(j k:Nat)(n:Int),k+j=300->k<=l.length->0<=n->n<=10000 * k ->
 cB env Tryz.f5 0 iG [(4,aI k),(1,.ptr r1 0 0),(3,aI n)] H Q:=by
 intro j;induction j with
 | zero=>
  intro k n A i z C;refine nO _ _ _ _ _ λg=>?_;simp only[df]at q;obtain rfl:k=300:=by omega
  simp[an, *,iK,a.r];repeat' ((first | apply qT<;>intro h | apply mY<;>intro h | apply mZ<;>intro h | apply mW<;>intro h | apply mX<;>intro h)<;>(try simp only[iQb,iQc,gz,pF,bt,jt]at h)<;>(try simp[an, *,a.r]))
  all_goals first | exact c true (λh=>by cases h) | exact c _ (λ_=>by omega)
 | succ j w=>
  intro k n A i z C;have E:=iQa ((k:Int)+1) (by omega);refine nO _ _ _ _ _ λg=>?_;simp only[df]at q;have D:(k:Int)<300:=by omega
  by_cases f:k<l.length
  ·have hp:=(b l[k] (eO _)).r;have v:bP (a9 l) k 1 1 false=some l[k].av:=by simp[a9,f,eE.enc]
   simp[an, *,iK,a.r,a.idx];obtain⟨m,hm⟩ : ∃m:Int,m=if 10000<(l[k].bs.length:Int) then 10000 else (l[k].bs.length:Int):=⟨_,rfl⟩
   have u:0<=m/\m<=10000:=by rw[hm];split<;>omega
   have B:=iQa (n+m) (by omega);rw[<-hm,B];have p:=w (k+1) (n+m) (by omega) (by omega) (by omega) (by omega);rw[show((k+1:Nat):Int)=(k:Int)+1 from by omega]at p;exact p
  simp[an, *,iK,a.r,a.idx];repeat' ((first | apply qT<;>intro h | apply mY<;>intro h | apply mZ<;>intro h | apply mW<;>intro h | apply mX<;>intro h)<;>(try simp only[iQb,iQc,gz,pF,bt,jt]at h)<;>(try simp[an, *,a.r]))
  all_goals first | exact c true (λh=>by cases h) | exact c _ (λ_=>by omega)
theorem W5 : ∃t:Bool,ay env 5 [df x st lf dd]=some (aB t)/\(t=false->l.length<=200):=by
 have h : ∃y,ay env 5 [df x st lf dd]=some y /\∃t:Bool,y=aB t/\(t=false->l.length<=200):=by
  refine UL (fn:=Tryz.f5) (c:=vZ) (by kernel_rfl) (by kernel_rfl) (by kernel_rfl) (by kernel_rfl) (by kernel_rfl) ?_;refine vK _ _ _ λg=>?_;suffices h : ∀Q:AV->aa->Prop,(∀t:Bool,(t=false->l.length<=200)->Q (aB t) [(⟨0,1,0,0⟩,some ⟨4,[df x st lf dd],false,false⟩)])->lQ g (df x st lf dd) [] Q from
   h _ λt j=>⟨aB t,by simp,t,rfl,j⟩
  intro Q f;have d:=Ot (st:=st) (lf:=lf) (dd:=dd) a b (r1:=⟨0,1,0,0⟩) (H:=[(⟨0,1,0,0⟩,some ⟨4,[df x st lf dd],false,false⟩)]) (Q:=Q) (by simp) f 300 0 0 (by omega) (by omega) (by omega) (by omega);clear f;simp only[df]at d ⊢;simp[an, *,lQ,a.r];exact d
 obtain⟨y,k,t,rfl,i⟩:=h;exact⟨t,k,i⟩
end
def Mw{l:List UInt8}{x:AV}(h:Sl 1 (aA l) x)(g:cL)(r:Ref):bX env.P g r 57 9 (some x)=some (sB l,[]):=by
 rcases h with ⟨rfl,h⟩ | ⟨c,rfl,h⟩
 ·have:l=[]:=by simpa [aA] using h
  subst this;simp
 simp
def fK(l:List eE):List (Int × List UInt8):=l.map λs=>(s.pos,s.bs)
def Mz:Env:=uM Tryz.prog [45] [] [45] (λ_=>false) (λ_=>[]) (λ_=>false) []
def afC:Ep Mz [45]=true:=by kernel_rfl
def ahG:Mz.Ok (zJ Mz):=J9 GP (by kernel_rfl) afC (λf t h=>by cases h) (λf args H y H' h=>by cases h)
def ZV:Code:=(Tryz.f45.body).getD .skip
def aeT:Nat->Option (List Nat):=λi=>none
def afA:Nat->Bool:=λi=>false
def ZX(dep:Nat)(g:Nat->AV)(x0:AV)(H:aa)(Q:AV->aa->Prop):Prop:=
 Sz 22 3 x0 λc=>
 br (some c) (
  Q (.v (.slice none 0 0)) H) (
  gh (lH env.P false true H (⟨(dep+1),5,aa.gen H (dep+1) 5,0⟩:Ref) 22 0 (some [])) λa b=>
  Pe b dep 7 22 22 a x0 λd H2=>
  Q d H2)
def adF(dep:Nat)(x0:AV)(H:aa)(Q:AV->aa->Prop)(h : ∀g,ZX dep g x0 H Q):cB Mz Tryz.f45 (dep+1) [.code ZV] [(0,x0)] H Q:=⟨λg=>lY (live:=aeT) (cut:=afA) (n:=500) (Eq.mp (by kernel_rfl) (h g))⟩
def afB(H:aa)(e:AV)(es:List AV)(c:Option Nat)(d:(es.length+1) * 32<=Ab.aG)(h:Fr H):il Tryz.prog (.fn 45) [.bq 2 (e :: es) c] H (.bA (oU 7 H) 0 (es.length+1) none) (Vk 2 5 7 H (e :: es) true):=by
 obtain⟨a,H2,f,rfl,rfl⟩ : ∃a H2,cD Mz 0 (.fn 45) [.bq 2 (e :: es) c] H=some (a,H2)/\a = .bA (oU 7 H) 0 (es.length+1) none/\H2=Vk 2 5 7 H (e :: es) true:=by
  refine qK (fn:=Tryz.f45) (c:=ZV) (by kernel_rfl) (by kernel_rfl) (by kernel_rfl) (by kernel_rfl) (by kernel_rfl) ?_ ?_
  ·refine adF _ _ _ _ λg=>?_;have b:(es.length+1) * 32<=140737488355328:=by simpa [aG] using d
   simp[an, *,ZX,Vk,oU,b];done
  rfl
 exact CA ahG f
def Mo(args:List AV)(H:aa)(y:AV)(H':aa)(h:sg 2 32 5 7 args H=some (y,H')):il Tryz.prog (.fn 45) args H y H':=
 Kd ⟨Tryz.f45,by kernel_rfl,by kernel_rfl,by kernel_rfl⟩ afB h
def bc(l:List Int):List UInt8:=l.flatMap λn=>be 4 n
def mS(l:List Int):(bc l).length=4 * l.length:=by
 induction l with| nil=>rfl| cons n l a=>show(be 4 n++bc l).length=_;rw[ju,a,DV,iA];omega
def Q8{l:List Int}{u:AV}(o:Sl 1 (rows l) u)(S:l.length<100000)(G : ∀n∈l, -2147483648<=n/\n<=2147483647){Q:AV->aa->Prop} :
 ∀(s:List Int)(k:Nat)(i:Int)(a:List Int)(j:AV)(H:aa),l.drop k=s->k<=l.length->i=k->a.length=k->Fr H->fY [32] 1 (aA (bc a)) H j->(a=[]->j=aO) ->
 (∀y H',fY [32] 1 (aA (bc (a++s))) H' y->(a++s=[]->y=aO)->Q (.tup [y,aI 0]) H') ->
 cB env Tryz.f101 0 qP [(15,aI i),(5,j),(13,u),(14,aI l.length)] H Q:=by
 intro s;induction s with
 | nil=>rintro k i a j H hs hk rfl ha hF hO hN hQ;obtain rfl:=drop_nil hs hk;refine zj _ _ _ _ _ _ λg=>?_;have d:=hQ j H (by simpa using hO) (by simpa using hN);clear hQ hO hN;simp[an, *,qY,o.len];all_goals exact d
 | cons n s C=>
  rintro k i a j H hs hk rfl ha hF hO hN hQ;obtain⟨F,J,x,z⟩:=drop_cons hs;have L:=G n (by rw[<-J];exact eO _);have U:=iQa ((k:Int)+1) (by omega);refine zj _ _ _ _ _ _ λg=>?_;have E:bP (rows l) k 0 1 false=some (.v (.int .i32 n)):=by simp[rows,z,aR]
  have O:n.fdiv (2 ^ min 24 IntKind.i32.bits)=n / 16777216:=by rw[show(2:Int) ^ min 24 IntKind.i32.bits=16777216 from rfl];exact dx n 16777216
  have K:n.fdiv (2 ^ min 16 IntKind.i32.bits)=n / 65536:=by rw[show(2:Int) ^ min 16 IntKind.i32.bits=65536 from rfl];exact dx n 65536
  have T:n.fdiv (2 ^ min 8 IntKind.i32.bits)=n / 256:=by rw[show(2:Int) ^ min 8 IntKind.i32.bits=256 from rfl];exact dx n 256
  have p:=λA H'=>C (k+1) ((k:Int)+1) (a++[n]) A H' x (by omega) (by simp) (by simp;omega);have d : ∀y H',fY [32] 1 (aA (bc ((a++[n])++s))) H' y->((a++[n])++s=[]->y=aO)->Q (.tup [y,aI 0]) H':=λy H' h L=>hQ y H' (by simpa using h) (λe=>by simp at e);have q:=mS a;have b:(aA (bc a)).length=4 * a.length:=by rw[show(aA (bc a)).length=(bc a).length from by simp,q]
  have f : ∀(g m:Nat)(H':aa),m=4 * a.length+4->H'.get ⟨0,32,g,0⟩=some ⟨1,aA (bc a)++[a8 (u8 (n / 16777216)),a8 (u8 (n / 65536)),a8 (u8 (n / 256)),a8 (u8 n)],true,false⟩->fY [32] 1 (aA (bc (a++[n]))) H' (.bA ⟨0,32,g,0⟩ 0 m none):=by
   intro g m H' D h;subst D;have e:aA (bc (a++[n]))=aA (bc a)++[a8 (u8 (n / 16777216)),a8 (u8 (n / 65536)),a8 (u8 (n / 256)),a8 (u8 n)]:=by simp[bc,uN,aA]
   rw[e];exact .inr ⟨32,g,by simp,by rw[ju,b];rfl,h⟩
  clear hQ hN C;rcases hO with ⟨rfl,I⟩ | ⟨t,M,B,rfl,N⟩
  ·have w:a=[]:=(by have:=iQf List.length I;rw[b]at this;simp only[k8]at this;exact yG (by omega));subst w;have c:=f (H.gen 0 32) 4;clear f;simp[an, *,qY,o.r,o.idx,dI,dx];exact p _ _ (by simp(maxDischargeDepth:=12) [hY, *]) (c _ rfl (by simp[bc])) (λe=>by simp at e) d
  rw[k9]at B;subst B;have R:(H.get ⟨0,32,M,0⟩).isSome=true:=by rw[N];rfl
  have P:kP 1 1 (aA (bc a)).length true none (some ⟨1,aA (bc a),true,false⟩) (some [a8 (u8 (n / 16777216)),a8 (u8 (n / 65536)),a8 (u8 (n / 256)),a8 (u8 n)]):=(by rw[ar,b];refine⟨rfl,b.symm ▸ rfl,.inr ⟨?_,rfl⟩⟩;simp;omega);have c:=λH'=>f (H.gen 0 32) ((aA (bc a)).length+4) H' (by rw[b]);clear f ha b q;generalize aA (bc a)=bs at *;simp[an, *,qY,o.r,o.idx,dI,dx];exact p _ _ (by simp(maxDischargeDepth:=12) [hY, *]) (c _ (by simp)) (λe=>by simp at e) d
def WV{l:List Int}{x:AV}(d:Sl 1 (rows l) x)(k:l.length<100000)(s : ∀n∈l, -2147483648<=n/\n<=2147483647):ay env 101 [x]=some (if xh l=0 then .tup [lW 1 (aA (bc l)),aI 0] else .tup [aO,aI (xh l)]):=by
 refine aM rfl (by kernel_rfl) (Jx _ _ _ λg=>?_);have j:=Ds d (by omega);have z:=d.len;by_cases h:xh l=0
 ·rw[if_pos h];rw[h]at j;have a:=λH Q=>Q8 d k s (H:=H) (Q:=Q) l 0 0 [] aO rfl (by omega) rfl rfl;have c : ∀y H',fY [32] 1 (aA (bc ([]++l))) H' y->([]++l=[]->y=aO)->view H'.get 8 (.tup [y,aI 0])=some (.tup [lW 1 (aA (bc l)),aI 0]):=by
   intro y H' i b;rw[o4]at i b;rcases i with ⟨rfl,q⟩ | ⟨t,A,w,rfl,o⟩
   ·rw[q];simp[lW]
   have f:aA (bc l)≠[]:=by
    intro e;have p:=iQf List.length e;have v:=mS l;have u:(aA (bc l)).length=(bc l).length:=by simp
    simp only[k8]at p;have:l=[]:=yG (by omega);cases b this
   rw[tK 1 f];generalize aA (bc l)=bs at *;simp[o]
  have run:=λH m=>a H (λx H=>view H.get 8 x=some (.tup [lW 1 (aA (bc l)),aI 0])) m (.inl ⟨rfl,rfl⟩) (λ_=>rfl) c;clear a c h;generalize lW 1 (aA (bc l))=yo at *;simp[an, *,yv,d.r];all_goals exact run _ (by simp(maxDischargeDepth:=12) [HA, *])
 rw[if_neg h];simp[an, *,yv,d.r]
def MH{P:Program}{t t':TypeId}(p:oc P t=true)(b:isInt P t'=true)(o:(eM P t).cells.all AV.one=true)(u:Bool)(H:aa)(r:Ref)(n:Int)(B:0<n)(s:n<=aG)(q:n.toNat * nK P t<=aG) :
 dm P u H r (some t) (some t') aO (aI n)=some (.bA r 0 n.toNat none,({ r with k:=0},some ⟨jm P t,List.replicate n.toNat (eM P t),true,false⟩) :: H):=by
 unfold oc at p;obtain⟨e,zz,m,l,x,f,i,C,g,j⟩:=fB p;have v:eM P t=zz:=by unfold eM;rw[m,dX,f];rfl
 rw[v]at o ⊢;have c:(P.underlying t').isNone=false:=by
  unfold isInt at b;cases h:P.underlying t' with
  | none=>rw[h]at b;cases b
  | some d=>rfl
 have A : ¬((P.underlying t').isNone=true\/isInt P t'≠isNum (aI n)):=by rw[c,b];simp[isNum]
 have hd : ¬(jm P t≠jm P t\/jm P t=0\/nK P t=0\/zz.cells.length≠jm P t):=by simp[i,g,j]
 have a:md P H.get e (aI n)=some (jm P t,List.replicate n.toNat zz):=by
  show(match eP P e,aH P e with | some w,some z=>if 0<=n/\n<=aG/\w.cells.length=z/\w.cells.all AV.one then some (z,List.replicate n.toNat w) else none | _,_=>none)=_;rw[f,l];exact if_pos ⟨by omega,s,by simp[i,g,j],o⟩
 have y:List.replicate n.toNat zz≠[]:=by
  intro h;have:=iQf List.length h;simp only[AA,k8]at this;omega
 simp only[dm,ei,dX,m,Option.map_some,cb,if_neg A,l,x,f,a,if_neg hd,if_neg y,AA,if_pos q];rfl
@[simp] def adw(g:cL)(r:Ref):cO env.P false g r .cap #[57] [aO]=some (aI 0,[]):=by kernel_rfl
def aay(n:Int)(b:0<n)(h:n<1000000):ay env 72 [aO,aI n]=some (.fsl 1 [] none):=by
 refine aM rfl (by kernel_rfl) (tG _ _ _ _ λg=>?_);have d : ¬n<0:=by omega
 have i:=iQa n (by omega);have e:IntKind.i64.wrap 0=0:=rfl;have c:n<=140737488355328:=by omega
 have f:n.toNat<=140737488355328:=by omega
 have j:0<n.toNat:=by omega
 have a:=MH (P:=env.P) (t:=57) (t':=3) (by simp) (by simp) (by simp) true [] ⟨0,22,0,0⟩ n b c (by simp;omega);simp[an, *,nI, -a];refine tk a ?_;simp;all_goals omega
def kN(s:List (List UInt8 × AV)):List UInt8:=s.flatMap (·.1)
def R4{ps:List (List UInt8 × AV)}{x0:AV}(m:Sl 1 (ps.map (·.2)) x0)(hp : ∀p∈ps,Sl 1 (aA p.1) p.2)(K:ps.length<100000)(I:(kN ps).length<1000000){Q:AV->aa->Prop} :
 ∀(s:List (List UInt8 × AV)) (k:Nat) (i:Int) (acc:List UInt8) (l:Nat) (H:aa),ps.drop k=s->k<=ps.length->i=k->acc.length+(kN s).length=(kN ps).length->Fr H->H.get ⟨0,24,l,0⟩=some ⟨1,aA acc,true,false⟩ ->
 (∀g H',H'.get ⟨0,24,g,0⟩=some ⟨1,aA (acc++kN s),true,false⟩->Q (.bA ⟨0,24,g,0⟩ 0 (acc++kN s).length none) H') ->
 cB env Tryz.f43 0 dJ [(27,aI i),(6,.bA ⟨0,24,l,0⟩ 0 acc.length none),(25,x0),(26,aI ps.length)] H Q:=by
 intro s;induction s with
 | nil=>rintro k i acc l H hs hk rfl ha hF hr hQ;obtain rfl:=drop_nil hs hk;refine lj _ _ _ _ _ _ λg=>?_;have d:=hQ l H (by simpa [kN] using hr);simp only[kN,Bo,oD]at d;clear hQ hr;simp[an, *,fl];all_goals exact d
 | cons p s v=>
  rintro k i acc l H hs hk rfl ha hF hr hQ;obtain⟨C,E,o,q⟩:=drop_cons hs;have c:=hp p (by rw[<-E];exact eO _);obtain⟨b,x⟩:=p;simp only at c;have L:=iQa ((k:Int)+1) (by omega);have n:kN ((b,x) :: s)=b++kN s:=rfl;rw[n]at ha hQ;rw[ju]at ha;have y:bP (ps.map (·.2)) k 0 1 false=some x:=by simp[q,c.r]
  have z:(ps.map (·.2)).length=ps.length:=(by simp);have f:(aA b).length=b.length:=(by simp);have j:(aA acc).length=acc.length:=(by simp);have J:(H.get ⟨0,24,l,0⟩).isSome=true:=by rw[hr];rfl
  have e:=λg H'=>v (k+1) ((k:Int)+1) (acc++b) g H' o (by omega) (by simp) (by simp;omega);have d : ∀g H',H'.get ⟨0,24,g,0⟩=some ⟨1,aA ((acc++b)++kN s),true,false⟩->Q (.bA ⟨0,24,g,0⟩ 0 ((acc++b)++kN s).length none) H':=λg H' h=>by
   have:=hQ g H' (by rw[<-qq];exact h);rw[<-qq]at this;exact this
  clear hQ v hp hs;refine lj _ _ _ _ _ _ λg=>?_;have F:=c.jM;by_cases w:b=[];·subst w;have a:=e l H hF;simp only[oD]at a d;have t:=a hr d;clear a e d;simp[an, *,fl,m.r,m.idx,c.r,c.jM]
  have D:aA b≠[]:=(by simpa using w);have G:kP 1 1 acc.length true none (some ⟨1,aA acc,true,false⟩) (some (aA b)):=(by rw[ar,f,j];exact⟨rfl,rfl,.inr ⟨by simp;omega,rfl⟩⟩);have a:=e (H.gen 0 24);have u:aA (acc++b)=aA acc++aA b:=xF ..;rw[u]at a;rw[show(acc++b).length=(aA acc).length+(aA b).length by rw[f,j,ju]]at a;clear e f j ha u;generalize aA acc=A at *;generalize aA b=B at *;simp[an, *,fl,m.r,m.idx,c.r,c.jM];exact a _ (by simp(maxDischargeDepth:=12) [hY, *]) (by simp) d
def R5{ps:List (List UInt8 × AV)}{x0:AV}(f:Sl 1 (ps.map (·.2)) x0)(hp : ∀p∈ps,Sl 1 (aA p.1) p.2)(A:ps.length<100000)(y:(kN ps).length<1000000)(z:0<(kN ps).length){H:aa}{Q:AV->aa->Prop}
 (a : ∀H',Fr H'->H'.get ⟨0,24,H.gen 0 24,0⟩=some ⟨1,[],true,false⟩->cB env Tryz.f43 0 dJ [(27,aI 0),(6,.bA ⟨0,24,H.gen 0 24,0⟩ 0 0 none),(25,x0),(26,aI ps.length)] H' Q) :
 ∀(s:List (List UInt8 × AV)) (k:Nat) (i n:Int),ps.drop k=s->k<=ps.length->i=k->0<=n->n+(kN s).length=(kN ps).length->Fr H ->
 cB env Tryz.f43 0 dU [(11,aI i),(3,aI n),(9,x0),(0,x0),(10,aI ps.length)] H Q:=by
 intro s;induction s with
 | nil=>
  rintro k i n hs hk rfl hn0 hn hF;obtain rfl:=drop_nil hs hk;refine lV _ _ _ _ _ _ _ λg=>?_;have e:n=(kN ps).length:=by simpa [kN] using hn
  have D:=aay n (by omega) (by omega);have h:(ps.map (·.2)).length=ps.length:=by simp
  clear e hn hp;simp[an, *,iZ,f.r];exact a _ (by simp(maxDischargeDepth:=12) [hY, *]) (by simp)
 | cons p s o=>
  rintro k i n hs hk rfl hn0 hn hF;obtain⟨u,w,l,m⟩:=drop_cons hs;have c:=hp p (by rw[<-w];exact eO _);obtain⟨b,x⟩:=p;simp only at c;have j:kN ((b,x) :: s)=b++kN s:=rfl;rw[j,ju]at hn;have B:=iQa ((k:Int)+1) (by omega);have C:=iQa (n+(b.length:Int)) (by omega);have t:bP (ps.map (·.2)) k 0 1 false=some x:=by simp[m,c.r]
  have h:(ps.map (·.2)).length=ps.length:=(by simp);have v:(aA b).length=b.length:=(by simp);have q : ¬n+(b.length:Int)<0:=(by omega);have d:=o (k+1) ((k:Int)+1) (n+(b.length:Int)) l (by omega) (by simp) (by omega) (by omega) hF;refine lV _ _ _ _ _ _ _ λg=>?_;clear o a hp hs hn;simp[an, *,iZ,f.r,f.idx,c.r];all_goals exact d
def Gi{ps:List (List UInt8 × AV)}{x0:AV}(c:Sl 1 (ps.map (·.2)) x0)(hp : ∀p∈ps,Sl 1 (aA p.1) p.2)(i:ps.length<100000)(h:(kN ps).length<1000000)(m:0<(kN ps).length):ay env 43 [x0]=some (.fsl 1 (aA (kN ps)) none):=by
 refine aM rfl (by kernel_rfl) (sM _ _ _ λg=>?_);have l:(ps.map (·.2)).length=ps.length:=by simp
 have n:=c.len;have d:(aA (kN ps)).length=(kN ps).length:=by simp
 have j:=λH' Q e f=>R4 c hp i h (Q:=Q) ps 0 0 [] 0 H' rfl (by omega) rfl (by simp) e f;have k:=λQ b=>R5 c hp i h m (H:=[]) (Q:=Q) b ps 0 0 0 rfl (by omega) rfl (by omega) (by omega) Fr.nil;clear hp;simp[an, *,mN,c.r];refine k _ λH' e f=>j H' _ e f λq o a=>?_;rw[o4]at a ⊢;rw[<-d];generalize aA (kN ps)=B at *;simp[a]
def zer:List UInt8:=List.replicate 128 0
def V0:List eE->Int->List UInt8
 | [],_=>zer
 | p :: l,q=>if p.pos<q then V0 l q else if p.pos=q then p.bs else zer
def HD(q:Int)(b:List UInt8):List eE->List eE
 | []=>[yX q b]
 | p :: l=>if p.pos<q then Qy p :: HD q b l else if p.pos=q then yX q b :: qx l else yX q b :: Qy p :: qx l
def LD(p:eE)(l:List eE)(q:Int):nth (p :: l) q=if p.pos<q then nth l q+1 else 0:=by
 unfold nth;by_cases h:p.pos<q;·rw[Jp (p:=λs:eE=>decide (s.pos<q)) (iQg h),if_pos h,iA]
 rw[Jo (p:=λs:eE=>decide (s.pos<q)) (by rw[iQb];exact h),if_neg h];rfl
def aaI(l:List eE)(q:Int):rdB l q=V0 l q:=by
 induction l with| nil=>rfl| cons p l a=>
  unfold rdB V0;rw[LD];by_cases h:p.pos<q;·rw[if_pos h,if_pos h,<-a];rfl
  rw[if_neg h,if_neg h];by_cases e:p.pos=q;·simp[mL,e]
  simp[mL,e,zer]
def Z3(l:List eE)(q:Int)(b:List UInt8):wrL l q b=HD q b l:=by
 induction l with| nil=>rfl| cons p l a=>
  unfold wrL HD;rw[LD];by_cases h:p.pos<q;·rw[if_pos h,if_pos h,<-a];unfold wrL;have e:mL (p :: l) q (nth l q+1)=mL l q (nth l q):=rfl;rw[e];split<;>rfl
  rw[if_neg h,if_neg h];by_cases e:p.pos=q;·simp[mL,e,qx]
  simp[mL,e,qx]
def ab4(q:Int)(b:List UInt8)(k:q<6146)(d:b.length=128) : ∀(l:List eE)(a:Int),a<q->fO a l=true->fO a (HD q b l)=true:=by
 intro l;induction l with
 | nil=>intro a j _;simp[HD,fO,yX,d];omega
 | cons p l i=>
  intro a j h;have o:=h;simp[fO]at h;have m:=h.1.1.1;have n:=h.1.1.2;have g:=h.1.2;unfold HD;by_cases f:p.pos<q;·rw[if_pos f];have:=i p.pos f h.2;simp[fO,Qy,this,g];exact⟨iQi (by omega),by omega⟩
  rw[if_neg f];by_cases e:p.pos=q
  ·rw[if_pos e];have c:fO q (qx l)=true:=by rw[F1,<-e];exact h.2
   simp[fO,yX,d,c];exact⟨iQi (by omega),by omega⟩
  rw[if_neg e];have c:fO p.pos (qx l)=true:=by rw[F1];exact h.2
  simp[fO,yX,Qy,d,c,g];exact⟨⟨iQi (by omega),by omega⟩,iQi (by omega),by omega⟩
def adA(q:Int)(b:List UInt8) : ∀(l:List eE),∀s∈HD q b l,iQ s:=by
 have c:iQ (yX q b):=Sl.mk _ _;intro l;induction l with
 | nil=>intro s a;simp[HD]at a;subst a;exact c
 | cons p l d=>
  intro s a;unfold HD at a;split at a
  ·rcases ef.1 a with rfl | a
   ·exact Sl.mk _ _
   exact d s a
  split at a
  ·rcases ef.1 a with rfl | a
   ·exact c
   exact Bw l s a
  rcases ef.1 a with rfl | a
  ·exact c
  exact Bw (p :: l) s a
def DJ(l:List eE):fK (qx l)=fK l:=by simp[fK,qx,Qy]
def YW{l:List eE}{x:AV}(a:Sl 2 (a9 l) x):Sl 2 (a9 (qx l)) (vw (twA x l)):=by
 rcases Wq a with ⟨h,e⟩ | h | ⟨h,e⟩
 ·rw[h,e];exact .inl ⟨rfl,rfl⟩
 ·rw[h];exact Sl.mk _ _
 rw[h,e];exact .inr ⟨some 0,rfl,by simp⟩
def rV(st lf:Int)(dd:Bool)(st' lf':Int)(dd':Bool):Bool:=decide (st=st')&&(decide (lf=lf')&&decide (dd=dd'))
section
variable{l m:List eE}{x y:AV}(b:Sl 2 (a9 l) x)(d : ∀s∈l,iQ s)(c:Sl 2 (a9 m) y)(a : ∀s∈m,iQ s)(f:l.length<1000000)
include b d c a f
theorem Oq{r1 r2:Ref}{Q:AV->aa->Prop}{H:aa}{st lf st' lf':Int}{dd dd':Bool}(N:H.get r1=some ⟨4,[df x st lf dd],false,false⟩)(O:H.get r2=some ⟨4,[df y st' lf' dd'],false,false⟩) :
 ∀(s t:List eE)(k:Nat),l.drop k=s->m.drop k=t->k<=l.length->l.length=m.length->Q (aB (decide (fK s=fK t)&&rV st lf dd st' lf' dd')) H ->
 cB env Tryz.f11 0 jc [(5,aI k),(3,.ptr r2 0 0),(2,.ptr r1 0 0)] H Q:=by
 simp only[df]at N O;intro s;induction s with
 | nil=>
  intro t k o n J A h;obtain rfl:=drop_nil o J;have:t=[]:=by rw[<-n];exact wF (by omega)
  subst this;have D:decide (fK []=fK [])=true:=by simp
  rw[D,ia]at h;clear D n o;refine oF _ _ _ _ _ λg=>?_;by_cases G:st=st'
  ·by_cases F:lf=lf';·have e:rV st lf dd st' lf' dd'=decide (dd=dd'):=(by simp[rV,G,F]);rw[e]at h;clear e;cases dd<;>cases dd'<;>simp at h<;>simp[an, *,dB,b.r,c.r]<;>exact h
   have e:rV st lf dd st' lf' dd'=false:=(by simp[rV,F]);rw[e]at h;clear e;simp[an, *,dB,b.r,c.r]
  have e:rV st lf dd st' lf' dd'=false:=(by simp[rV,G]);rw[e]at h;clear e;simp[an, *,dB,b.r,c.r]
 | cons p s E=>
  intro t k o n J A h;obtain⟨M,P,B,z⟩:=drop_cons o;cases t with
  | nil=>have:=iQf List.length n;simp at this;omega
  | cons q t=>
   obtain⟨I,w,C,v⟩:=drop_cons n;have S:=iQa ((k:Int)+1) (by omega);have i:=E t (k+1) B C (by omega) A;rw[show((k+1:Nat):Int)=(k:Int)+1 from by omega]at i;have r1:bP (a9 l) k 0 1 false=some (aI p.pos):=by simp[a9,z,eE.enc]
   have r2:bP (a9 l) k 1 1 false=some p.av:=(by simp[a9,z,eE.enc]);have r3:bP (a9 m) k 0 1 false=some (aI q.pos):=(by simp[a9,v,eE.enc]);have r4:bP (a9 m) k 1 1 false=some q.av:=(by simp[a9,v,eE.enc]);have hp:=d p (by rw[<-P];exact eO _);have w:=a q (by rw[<-w];exact eO _);clear E d a o n;generalize rV st lf dd st' lf' dd'=SH at *;refine oF _ _ _ _ _ λg=>?_;by_cases j:p.pos=q.pos
   ·have K:=Mw hp;have L:=Mw w;by_cases u:p.bs=q.bs
    ·have e:decide (fK (p :: s)=fK (q :: t))=decide (fK s=fK t):=by rw[decide_eq_decide];simp[fK,j,u]
     rw[e]at h;clear hp w;have R:=i h;clear h i;simp[an, *,dB,b.r,c.r,b.idx,c.idx]
    have e:decide (fK (p :: s)=fK (q :: t))=false:=(by simp[fK,u]);rw[e,pE]at h;clear hp w i;simp[an, *,dB,b.r,c.r,b.idx,c.idx]
   have e:decide (fK (p :: s)=fK (q :: t))=false:=(by simp[fK,j]);rw[e,pE]at h;clear i;simp[an, *,dB,b.r,c.r,b.idx,c.idx]
theorem WU{st lf st' lf':Int}{dd dd':Bool}:ay env 11 [df x st lf dd,df y st' lf' dd']=some (aB (decide (fK l=fK m)&&rV st lf dd st' lf' dd')):=by
 refine aM rfl (by kernel_rfl) (wM _ _ _ _ λg=>?_);by_cases i:l.length=m.length;·have h:=Oq (st:=st) (lf:=lf) (dd:=dd) (st':=st') (lf':=lf') (dd':=dd') b d c a f (r1:=⟨0,2,0,0⟩) (r2:=⟨0,3,0,0⟩) (H:=[(⟨0,3,0,0⟩,some ⟨4,[df y st' lf' dd'],false,false⟩),(⟨0,2,0,0⟩,some ⟨4,[df x st lf dd],false,false⟩)]) (Q:=λv H'=>dA env 11 v H' (aB (decide (fK l=fK m)&&rV st lf dd st' lf' dd'))) (by simp) (by simp) l m 0 rfl rfl (by omega) i (by simp);generalize (decide (fK l=fK m)&&rV st lf dd st' lf' dd')=SH at *;simp only[df]at h ⊢;simp[an, *,mu,b.r,c.r];exact h
 have e:decide (fK l=fK m)=false:=(by rw[iQc];intro e;have:=iQf List.length e;simp[fK]at this;exact i this);rw[e,pE];have j : ¬(l.length:Int)=m.length:=by omega
 simp only[df];simp[an, *,mu,b.r,c.r]
end
end
section
attribute [local simp] aC aw ah aq ao bk jE aE ar ax bo bn aG aD ae aN cN
def Vs(z:Nat)(zz:AV)(H:aa)(r:Ref)(n:Nat)(a:List (Nat × AV))(refs:List Ref):cJ:=match gN (List.replicate n zz) a with
 | some es=>some (.bA r 0 n (some n),(r,some ⟨z,es,true,false⟩) :: b9 H refs)
 | none=>none
def BJ{P:Program}{a:Bool}{t:TypeId}(v:oc P t=true)(H:aa)(d k h:Nat)(n:Nat)(ps:List (Nat × AV))(o:n * jm P t<=16777216)(z:(cZ H.get ps).isSome=true)
 (w:((cZ H.get ps).getD []).all (λp=>p.2.cells.length == jm P t&&p.2.cells.all AV.one)=true) (b:(gN (List.replicate n (eM P t)) ((cZ H.get ps).getD [])).isSome=true) (g:m0 H.get (bH H.get (ps.map (·.2)))=false) :
 lH P a true H ⟨d,k,h,0⟩ t n (some ps)=Vs (jm P t) (eM P t) H ⟨d,k,h,0⟩ n ((cZ H.get ps).getD []) (bH H.get (ps.map (·.2))):=by
 obtain⟨ws,hw⟩:=ib.1 z;rw[hw,cb]at w b ⊢;obtain⟨es,b⟩:=ib.1 b;unfold oc at v;obtain⟨e,zz,u,C,E,q,y,B,A,F⟩:=fB v;have c:eM P t=zz:=by unfold eM;rw[u,dX,q];rfl
 rw[c]at b ⊢;have m:mkSlice P H.get t n ps=some ⟨jm P t,es,true,false⟩:=by
  simp only[mkSlice,u,hw,q,C];rw[if_pos ⟨vl A,o,y,B,by simpa using w⟩,b];rfl
 have D:fT P a H.get ⟨d,k,h,0⟩ t n (some ps)=none:=by
  simp only[fT,g,gj,iQh]
 unfold lH Vs;rw[D,b];simp only[lD,Ei,iQq,jH,m,Option.map_some]
attribute [local simp] BJ Vs cZ
def V3(q:Int)(b:List UInt8):eE:=⟨q,b,lW 1 (aA b)⟩
def rtS(s:eE):eE:=V3 s.pos s.bs
def Hy(l:List eE):List eE:=l.map rtS
@[simp] def W9(l:List eE):(Hy l).length=l.length:=by simp[Hy]
def aaA(l:List eE) : ∀s∈Hy l,iQ s:=by
 intro s a;obtain⟨p,_,rfl⟩:=j6.1 a;exact yg _ _
def Oe(l:List eE):fK (Hy l)=fK l:=by simp[fK,Hy,rtS,V3]
def ZS(st lf:Int)(dd:Bool):EO st lf dd=(if 0<=st/\st<2147483648 /\ -1<=lf/\lf<2147483648 then (!dd||decide (lf=0)) else false):=by
 unfold EO;split
 ·rename_i h;have e : ¬st<0:=by omega
  have c : ¬st>=2147483648:=(by omega);have a : ¬lf < -1:=(by omega);have d : ¬lf>=2147483648:=(by omega);simp only[iQi e,iQi c,iQi a,iQi d];cases dd<;>simp
 rename_i h;cases b:(!decide (st<0) && !decide (st>=2147483648) && !decide (lf < -1) && !decide (lf>=2147483648) && !(dd && !decide (lf=0))) with
 | false=>rfl
 | true=>simp at b;exact absurd (by omega) h
section
variable{l:List eE}{x:AV}{st lf:Int}{dd:Bool}(f:Sl 2 (a9 l) x)(i : ∀s∈l,iQ s)(j:l.length<1000000)
include f i j
theorem Uz{r1:Ref}{Q:AV->aa->Prop} : ∀(s:List eE)(k:Nat)(d:eE)(H:aa),l.drop (k+1)=s->l[k]?=some d->0<=d.pos->Fr H->H.get r1=some ⟨4,[df x st lf dd],false,false⟩ ->
 (∀H',Q (aB (fO d.pos s&&EO st lf dd)) H') ->
 cB env Tryz.f25 0 gl [(3,aI ((k:Int)+1)),(1,.ptr r1 0 0)] H Q:=by
 intro s;induction s with
 | nil=>
  intro k d H t u C I y o;have z:k<l.length:=(dT.1 u).1;have M:l.length=k+1:=by
   have:=iQf List.length t;simp at this;omega
  have L:(l.length:Int)=(k:Int)+1:=(by omega);have D:fO d.pos []=true:=rfl;rw[D,ia]at o;have A:=o H;rw[ZS]at A;clear o t i D M;refine jw _ _ _ _ λg=>?_;simp only[df]at y;simp[an, *,bE,f.r];repeat' ((first | apply qT<;>intro h | apply mY<;>intro h | apply mZ<;>intro h | apply mW<;>intro h | apply mX<;>intro h)<;>(try simp only[iQb,iQc,gz,pF,bt,jt]at h)<;>(try simp[an, *]))
  all_goals first | (rw[if_pos (by omega)]at A;cases dd<;>simp_all) | (rw[if_neg (by omega)]at A;cases dd<;>simp_all)
 | cons p s w=>
  intro k d H t u C I y o;obtain⟨J,B,q,n⟩:=drop_cons t;have U:=iQa ((k:Int)+1+1) (by omega);have V:=iQa (k:Int) (by omega);have P:(0:Int)<=(k:Int)+1:=by omega
  have hp:=(i p (by rw[<-B];exact eO _)).r;have G:bP (a9 l) (k+1) 0 2 true=some (.agg [aI p.pos,p.av]):=by simp[a9,n,eE.enc]
  have F:bP (a9 l) k 0 1 false=some (aI d.pos):=(by simp[a9,u,eE.enc]);have z:(k:Int)+1<l.length:=(by omega);have E:(k:Int)<l.length:=(by omega);have N:(0:Int)<(k:Int)+1:=(by omega);have R:((k:Int)+1).toNat=k+1:=(by omega);have m:=λH=>w (k+1) p H q n;rw[show(((k+1:Nat):Int)+1)=(k:Int)+1+1 from by omega]at m;refine jw _ _ _ _ λg=>?_;simp only[df]at y m;by_cases c:fO d.pos [p]=true
  ·have c':=c;simp[fO]at c';have O : ¬p.pos<0:=by omega
   have T : ¬p.pos>=6146:=(by omega);have W : ¬p.pos<=d.pos:=(by omega);have S:(p.bs.length:Int)=128:=(by omega);have e:fO d.pos (p :: s)=fO p.pos s:=by simp[fO];simp[fO]at c;simp[c]
   rw[e]at o;have v:=λH a b=>m H (by omega) a b o;clear w m i t u B q n c c' o;simp[an, *,bE,f.r,f.idx];refine v _ (by simp(maxDischargeDepth:=12) [HA, *]) (by simp(maxDischargeDepth:=12) [HA, *])
  have c':p.pos<0\/p.pos>=6146\/p.pos<=d.pos \/¬(p.bs.length:Int)=128:=(by simp[fO]at c;omega);have e:fO d.pos (p :: s)=false:=by
   cases h:fO d.pos (p :: s) with| false=>rfl| true=>exfalso;apply c;simp[fO]at h ⊢;exact h.1
  rw[e,pE]at o;clear w m i t u B q n c e;by_cases d1:p.pos<0;·clear c';simp[an, *,bE,f.r,f.idx]
  by_cases d2:6146<=p.pos;·clear c';simp[an, *,bE,f.r,f.idx]
  by_cases d3:p.pos<=d.pos;·clear c';simp[an, *,bE,f.r,f.idx]
  have d4 : ¬p.bs.length=128:=(by omega);have K : ¬(p.bs.length:Int)=128:=(by omega);clear c';simp[an, *,bE,f.r,f.idx]
theorem aav:ay env 25 [df x st lf dd]=some (aB (EP l st lf dd)):=by
 refine aM rfl (by kernel_rfl) (xL _ _ _ λg=>?_);have E : ∀(r1:Ref)(Q:AV->aa->Prop)(H:aa),Fr H->H.get r1=some ⟨4,[df x st lf dd],false,false⟩->(∀H',Q (aB (EP l st lf dd)) H')->cB env Tryz.f25 0 gl [(3,aI 0),(1,.ptr r1 0 0)] H Q:=by
  intro r1 Q H I u n;unfold EP at n;cases d:l with
  | nil=>
   have t:fO (-1) l=true:=by rw[d];rfl
   rw[t,ia,ZS]at n;have v:=n H;have w:(l.length:Int)=0:=by rw[d];rfl
   clear n i t d;refine jw _ _ _ _ λg=>?_;simp only[df]at u;simp[an, *,bE,f.r];repeat' ((first | apply qT<;>intro h | apply mY<;>intro h | apply mZ<;>intro h | apply mW<;>intro h | apply mX<;>intro h)<;>(try simp only[iQb,iQc,gz,pF,bt,jt]at h)<;>(try simp[an, *]))
   all_goals first | (rw[if_pos (by omega)]at v;cases dd<;>simp_all) | (rw[if_neg (by omega)]at v;cases dd<;>simp_all)
  | cons p s=>
   have K:=iQa ((0:Int)+1) (by omega);have hp:=(i p (by rw[d];simp)).r;have m:l[0]?=some p:=by rw[d];rfl
   have o:l.drop (0+1)=s:=by rw[d];rfl
   have z:bP (a9 l) 0 0 2 true=some (.agg [aI p.pos,p.av]):=(by simp[a9,m,eE.enc]);have A:0<l.length:=by rw[d];simp
   have C:(0:Int)<l.length:=(by omega);have k:=λH=>Uz (st:=st) (lf:=lf) (dd:=dd) f i j (r1:=r1) (Q:=Q) s 0 p H o m;rw[show(((0:Nat):Int)+1)=1 from rfl]at k;refine jw _ _ _ _ λg=>?_;simp only[df]at u k;by_cases c:fO (-1) [p]=true
   ·have c':=c;simp[fO]at c';have F : ¬p.pos<0:=by omega
    have J : ¬p.pos>=6146:=(by omega);have G:(p.bs.length:Int)=128:=(by omega);have e:fO (-1) l=fO p.pos s:=by rw[d];simp[fO];simp[fO]at c;simp[c]
    rw[e]at n;have q:=λH a b=>k H (by omega) a b n;clear k i m o c c' n d;simp[an, *,bE,f.r,f.idx];refine q _ (by simp(maxDischargeDepth:=12) [HA, *]) (by simp(maxDischargeDepth:=12) [HA, *])
   have c':p.pos<0\/p.pos>=6146 \/¬(p.bs.length:Int)=128:=(by simp[fO]at c;omega);have e:fO (-1) l=false:=by
    rw[d];cases h:fO (-1) (p :: s) with
    | false=>rfl
    | true=>exfalso;apply c;simp[fO]at h ⊢;exact h.1
   rw[e,pE]at n;clear k i m o c e d;by_cases d1:p.pos<0;·clear c';simp[an, *,bE,f.r,f.idx]
   by_cases d2:6146<=p.pos;·clear c';simp[an, *,bE,f.r,f.idx]
   have d4 : ¬p.bs.length=128:=(by omega);have B : ¬(p.bs.length:Int)=128:=(by omega);clear c';simp[an, *,bE,f.r,f.idx]
 have h:=E ⟨0,1,0,0⟩ (λy H'=>view H'.get 8 y=some (aB (EP l st lf dd))) [(⟨0,1,0,0⟩,some ⟨4,[df x st lf dd],false,false⟩)] (by simp(maxDischargeDepth:=12) [HA, *]) (by simp) (by simp);generalize EP l st lf dd=D at *;simp only[df]at h ⊢;simp[an, *,rh,f.r];first | done | exact h
def Sb(l:List eE)(q:Int):List UInt8:=match l with
 | []=>List.replicate 128 0
 | p :: l=>if p.pos=q then p.bs else Sb l q
end
end
section
attribute [local simp] aC aw ah aq ao bk jE aE ar ax bo bn aG aD ae aN cN
attribute [local simp] BJ Vs cZ
section
variable{l:List eE}{x:AV}{st lf:Int}{dd:Bool}(d:Sl 2 (a9 l) x)(a : ∀s∈l,iQ s)(f:l.length<1000000)
include d a f
theorem Yt(b : ∀s∈l,s.bs.length=128){q:Int}{r1:Ref}{Q:AV->aa->Prop}{H:aa}(R:Fr H)(F:H.get r1=some ⟨4,[df x st lf dd],false,false⟩) :
 ∀(s:List eE)(k:Nat),l.drop k=s->k<=l.length->(∀y H',(∀n,view H'.get (n+1) y=some (.bq 1 (aA (Sb s q)) none))->Q y H') ->
 cB env Tryz.f95 0 jV [(5,aI k),(2,.ptr r1 0 0),(1,aI q)] H Q:=by
 intro s;induction s with
 | nil=>
  intro k u K m;obtain rfl:=drop_nil u K;have I:=zq (P:=env.P) (t:=57) (z:=1) (by':=1) (zz:=a8 0) (r:=⟨0,28,H.gen 0 28,0⟩) (by kernel_rfl) (by kernel_rfl) (n:=128) (by decide) (by decide);obtain⟨Z,C⟩ : ∃Z:List UInt8,Z=List.replicate 128 0:=⟨_,rfl⟩;have D:Z.length=128:=by rw[C];rfl
  rw[show List.replicate 128 (a8 0)=aA Z from by rw[C];rfl,show((128:Nat):Int)=128 from rfl]at I;have e:Sb [] q=Z:=by rw[C];rfl
  rw[e]at m;clear C e a b u;refine l9 _ _ _ _ _ λg=>?_;simp only[df]at F;simp[an, *,jX,d.r];first | done | exact m _ _ (λn=>by simp[D])
 | cons p s E=>
  intro k u K m;obtain⟨L,N,o,w⟩:=drop_cons u;have S:=iQa ((k:Int)+1) (by omega);have B:p∈l:=by rw[<-N];exact eO _
  have hp:=a p B;have j:=b p B;have r1:bP (a9 l) k 0 1 false=some (aI p.pos):=by simp[a9,w,eE.enc]
  have r2:bP (a9 l) k 1 1 false=some p.av:=(by simp[a9,w,eE.enc]);have i:=E (k+1) o (by omega);rw[show((k+1:Nat):Int)=(k:Int)+1 from by omega]at i;by_cases v:p.pos=q
  ·have e:Sb (p :: s) q=p.bs:=by show(if p.pos=q then _ else _)=_;rw[if_pos v]
   rw[e]at m;have G:aA p.bs≠[]:=(by intro h;have:=iQf List.length h;rw[fW,j]at this;cases this);have A:(aA p.bs).length=128:=by rw[fW];exact j
   clear E i a b e u o B;refine l9 _ _ _ _ _ λg=>?_;simp only[df]at F;have J : ¬p.bs=[]:=by
    intro h;rw[h]at j;cases j
   rcases hp with ⟨h,M⟩ | ⟨c,h,_⟩
   ·exact absurd M G
   rw[h]at r2;simp[an, *,jX,d.r,d.idx,CU];first | done | exact m _ _ (λn=>by simp[A])
  have e:Sb (p :: s) q=Sb s q:=by show(if p.pos=q then _ else _)=_;rw[if_neg v]
  rw[e]at m;have O:=i m;clear E i a b u o B m;refine l9 _ _ _ _ _ λg=>?_;simp only[df]at F;simp[an, *,jX,d.r,d.idx]
theorem aep(b : ∀s∈l,s.bs.length=128)(q:Int):ay env 95 [df x st lf dd,aI q]=some (.bq 1 (aA (Sb l q)) none):=by
 refine aM rfl (by kernel_rfl) (yU _ _ _ _ λg=>?_);have h:=Yt (st:=st) (lf:=lf) (dd:=dd) d a f b (q:=q) (r1:=⟨0,2,0,0⟩) (Q:=λy H'=>view H'.get 8 y=some (.bq 1 (aA (Sb l q)) none)) (H:=[(⟨0,2,0,0⟩,some ⟨4,[df x st lf dd],false,false⟩)]) (by simp(maxDischargeDepth:=12) [HA, *]) (by simp) l 0 rfl (by omega) (λy H' c=>c 7);simp only[df]at h ⊢;simp[an, *,rK,d.r];first | done | exact h
theorem NJ(q : ∀s∈l,s.bs.length<1000000000){r1 r2:Ref}(n3:r1≠r2){Q:AV->aa->Prop} : ∀(s:List eE)(k:Nat)(c:List eE)(u:AV)(H:aa),l.drop k=s->k<=l.length->c.length=k->Fr H->H.get r1=some ⟨4,[df x st lf dd],false,false⟩->H.get r2=some ⟨4,[df aO 0 0 false],false,false⟩->r1.t≠28->r2.t≠28 ->
 fY [28] 2 (a9 c) H u->(c=[]->u=aO) ->
 (∀y H',fY [28] 2 (a9 (c++Hy s)) H' y->(c++Hy s=[]->y=aO)->Q (df y st lf dd) H') ->
 cB env Tryz.f6 0 jb [(4,aI k),(1,.ptr r1 0 0),(3,u),(2,.ptr r2 0 0)] H Q:=by
 intro s;induction s with
 | nil=>
  intro k c u H J Y S hF N O w z E L D;obtain rfl:=drop_nil J Y;have e:c++Hy []=c:=by simp[Hy]
  rw[e]at D;have n4:r2≠r1:=λe=>n3 e.symm;have hcl:u.cells=[u]/\u.one=true:=(by rcases E with ⟨rfl,_⟩ | ⟨t,g,_,rfl,_⟩<;>exact⟨rfl,rfl⟩);have F : ∀b M,fY [28] 2 (a9 c) ((H.put r1 b).put r2 M) u:=by
   intro b M;rcases E with h | ⟨t,g,v,rfl,hh⟩
   ·exact .inl h
   have P:t=28:=(by simpa using v);subst P;refine .inr ⟨28,g,v,rfl,?_⟩;have m1 : ¬(⟨0,28,g,0⟩:Ref)=r1:=λe=>w (by rw[<-e]);have m2 : ¬(⟨0,28,g,0⟩:Ref)=r2:=λe=>z (by rw[<-e]);rw[aa.ab,if_neg m2,aa.ab,if_neg m1];exact hh
  have n:=λb M=>D u _ (F b M) L;clear D F E L a q J;refine oE _ _ _ _ _ _ λg=>?_;simp only[df]at N O n;simp[an, *,eC,d.r,aa.ab];done
 | cons p s W=>
  intro k c u H J Y S hF N O w z E L D;obtain⟨hlt,hg,U,I⟩:=drop_cons J;have K:p∈l:=by rw[<-hg];exact eO _
  have hp:=a p K;have hpl:=q p K;have e3:=iQa ((k:Int)+1) (by omega);have rd1:bP (a9 l) k 0 1 false=some (aI p.pos):=by simp[a9,I,eE.enc]
  have rd2:bP (a9 l) k 1 1 false=some p.av:=(by simp[a9,I,eE.enc]);have o:=λR H'=>W (k+1) (c++[rtS p]) R H' U (by omega) (by simp;omega);rw[show((k+1:Nat):Int)=(k:Int)+1 from by omega]at o;have n : ∀y H',fY [28] 2 (a9 ((c++[rtS p])++Hy s)) H' y->(((c++[rtS p])++Hy s)=[]->y=aO)->Q (df y st lf dd) H':=λy H' h hn=>D y H' (by simpa [Hy] using h) (λe=>by simp[Hy]at e);clear D L W;have G:(rtS p).enc = .agg [aI p.pos,lW 1 (aA p.bs)]:=rfl;have j : ∀(g m:Nat)(H':aa),m=c.length+1->H'.get ⟨0,28,g,0⟩=some ⟨2,a9 c++[.agg [aI p.pos,lW 1 (aA p.bs)]],true,false⟩->fY [28] 2 (a9 (c++[rtS p])) H' (.bA ⟨0,28,g,0⟩ 0 m none):=(by intro g m H' K h;subst K;exact .inr ⟨28,g,by simp,by simp,by rw[h];simp[a9,G]⟩);have hb1:(aA p.bs).length=p.bs.length:=(by simp);have hb2:p.bs.length * 1<=140737488355328:=(by omega);have Z:=hp.jM;refine oE _ _ _ _ _ _ λg=>?_;simp only[df]at N O o n;clear a q;have hb3:p.bs.length<=140737488355328:=by omega
  by_cases X:p.bs=[]
  ·have V:lW 1 (aA p.bs)=aO:=by rw[X];rfl
   rw[V]at j;rcases E with ⟨rfl,T⟩ | ⟨t,C,v,rfl,A⟩
   ·have B:c=[]:=(by simpa [a9] using T);subst B;have i:=j (H.gen 0 28) 1;simp[an, *,eC,d.r,d.idx,hp.r,hp.jM,CU];exact o _ _ (by simp(maxDischargeDepth:=12) [hY, *]) (by simp(maxDischargeDepth:=12) [hY, *]) (by simp(maxDischargeDepth:=12) [hY, *]) w z (i _ rfl (by simp[a9])) (λe=>by simp at e) n
   rw[k9]at v;subst v;have l6:(H.get ⟨0,28,C,0⟩).isSome=true:=by rw[A];rfl
   have w1 : ¬r1=(⟨0,28,C,0⟩:Ref):=λe=>w (by rw[e]);have w2 : ¬r2=(⟨0,28,C,0⟩:Ref):=λe=>z (by rw[e]);have f4:kP 2 32 c.length true none (some ⟨2,a9 c,true,false⟩) (some [.agg [aI p.pos,aO]]):=(by simp;omega);have i:=λH'=>j (H.gen 0 28) (c.length+1) H' rfl;clear j S;simp[an, *,eC,d.r,d.idx,hp.r,hp.jM,CU];exact o _ _ (by simp(maxDischargeDepth:=12) [hY, *]) (by simp(maxDischargeDepth:=12) [hY, *]) (by simp(maxDischargeDepth:=12) [hY, *]) w z (i _ (by simp)) (λe=>by simp at e) n
  have V:lW 1 (aA p.bs) = .bq 1 (aA p.bs) none:=tK 1 (by simpa [aA] using X);rw[V]at j;rcases E with ⟨rfl,T⟩ | ⟨t,C,v,rfl,A⟩
  ·have B:c=[]:=(by simpa [a9] using T);subst B;have i:=j (H.gen 0 28) 1;simp[an, *,eC,d.r,d.idx,hp.r,hp.jM,CU];exact o _ _ (by simp(maxDischargeDepth:=12) [hY, *]) (by simp(maxDischargeDepth:=12) [hY, *]) (by simp(maxDischargeDepth:=12) [hY, *]) w z (i _ rfl (by simp[a9])) (λe=>by simp at e) n
  rw[k9]at v;subst v;have l6:(H.get ⟨0,28,C,0⟩).isSome=true:=by rw[A];rfl
  have w1 : ¬r1=(⟨0,28,C,0⟩:Ref):=λe=>w (by rw[e]);have w2 : ¬r2=(⟨0,28,C,0⟩:Ref):=λe=>z (by rw[e]);have f4:kP 2 32 c.length true none (some ⟨2,a9 c,true,false⟩) (some [.agg [aI p.pos,.bq 1 (aA p.bs) none]]):=(by simp;omega);have i:=λH'=>j (H.gen 0 28) (c.length+1) H' rfl;clear j S;simp[an, *,eC,d.r,d.idx,hp.r,hp.jM,CU];exact o _ _ (by simp(maxDischargeDepth:=12) [hY, *]) (by simp(maxDischargeDepth:=12) [hY, *]) (by simp(maxDischargeDepth:=12) [hY, *]) w z (i _ (by simp)) (λe=>by simp at e) n
theorem WX(b : ∀s∈l,s.bs.length<1000000000):ay env 6 [df x st lf dd]=some (df (lW 2 (a9 (Hy l))) st lf dd):=by
 refine aM rfl (by kernel_rfl) (wL _ _ _ λg=>?_);have h:=NJ (st:=st) (lf:=lf) (dd:=dd) d a f b (r1:=⟨0,1,0,0⟩) (r2:=⟨0,2,0,0⟩) (by simp) (Q:=λy H'=>view H'.get 8 y=some (df (lW 2 (a9 (Hy l))) st lf dd)) l 0 [] aO [(⟨0,2,0,0⟩,some ⟨4,[df aO 0 0 false],false,false⟩),(⟨0,1,0,0⟩,some ⟨4,[df x st lf dd],false,false⟩)] rfl (by omega) rfl (by simp(maxDischargeDepth:=12) [HA, *]) (by simp) (by simp) (by simp) (by simp) (.inl ⟨rfl,rfl⟩) (λ_=>rfl) (λy H' k j=>by
  rw[o4]at k j;unfold df;rcases k with ⟨rfl,m⟩ | ⟨t,o,n,rfl,i⟩
  ·rw[m];simp[lW]
  have c:a9 (Hy l)≠[]:=by
   intro e;have:Hy l=[]:=by simpa [a9] using e
   cases j this
  rw[tK 2 c];rw[CI]at *;simp[i])
 rw[show((0:Nat):Int)=0 from rfl]at h;generalize lW 2 (a9 (Hy l))=W at *;simp only[df]at h ⊢;simp[an, *,pW,d.r];first | done | exact h
end
def Kt(l:List eE)(q:Int):List eE:=l.filter λs=>decide (s.pos<q)
def Ib(l:List eE)(q:Int):List eE:=l.filter λs=>decide (q<s.pos)
def rC(l:List eE)(q:Int)(b:List UInt8):List eE:=Kt l q++V3 q b :: Ib l q
section
variable{l:List eE}{x:AV}(c:Sl 2 (a9 l) x)(a : ∀s∈l,iQ s)(d:l.length<1000000){q:Int}
include c a d
theorem Nh{Q:AV->aa->Prop} : ∀(s:List eE)(k:Nat)(b:List eE)(m:AV)(H:aa),l.drop k=s->k<=l.length->b.length<=1000001+k->b≠[]->Fr H->fY [29,36] 2 (a9 b) H m ->
 (∀y H',fY [29,36] 2 (a9 (b++Ib s q)) H' y->Q y H') ->
 cB env Tryz.f89 0 fL [(9,aI k),(0,x),(7,m),(1,aI q)] H Q:=by
 intro s;induction s with
 | nil=>intro k b m H C K E j J B i;obtain rfl:=drop_nil C K;have u:=i m H (by simpa [Ib] using B);clear i B a;refine kX _ _ _ _ _ _ λg=>?_;simp[an, *,jf,c.r];done
 | cons p s z=>
  intro k b m H C K E j J B i;obtain⟨R,T,v,w⟩:=drop_cons C;have hp:=a p (by rw[<-T];exact eO _);have W:=iQa ((k:Int)+1) (by omega);have P:bP (a9 l) k 0 1 false=some (aI p.pos):=by simp[a9,w,eE.enc]
  have M:bP (a9 l) k 0 2 true=some (.agg [aI p.pos,p.av]):=(by simp[a9,w,eE.enc]);have O:=hp.r;rcases B with ⟨_,S⟩ | ⟨t,G,o,rfl,n⟩
  ·exact absurd (by simpa [a9] using S) j
  by_cases L:q<p.pos
  ·have e:=λD H'=>z (k+1) (b++[p]) D H' v (by omega) (by simp;omega) (by simp);rw[show((k+1:Nat):Int)=(k:Int)+1 from by omega]at e;have f:Ib (p :: s) q=p :: Ib s q:=by simp[Ib,L]
   rw[f]at i;have u : ∀y H',fY [29,36] 2 (a9 ((b++[p])++Ib s q)) H' y->Q y H':=λy H' h=>i y H' (by simpa using h);have U:kP 2 32 b.length true none (some ⟨2,a9 b,true,false⟩) (some [.agg [aI p.pos,p.av]]):=(by simp;omega);have V:(H.get ⟨0,t,G,0⟩).isSome=true:=by rw[n];rfl
   have F : ∀(A:Nat)(H':aa),H'.get ⟨0,t,A,0⟩=some ⟨2,a9 b++[.agg [aI p.pos,p.av]],true,false⟩->fY [29,36] 2 (a9 (b++[p])) H' (.bA ⟨0,t,A,0⟩ 0 (b.length+1) none):=(by intro A H' h;exact .inr ⟨t,A,o,by simp,by rw[h];simp[a9,eE.enc]⟩);have I:t=29\/t=36:=(by simpa using o);clear i z a E f o;refine kX _ _ _ _ _ _ λg=>?_;rcases I with rfl | rfl
   all_goals
    simp[an, *,jf,c.r,c.idx]
    exact e _ _ (by simp(maxDischargeDepth:=12) [hY, *]) (F _ _ (by simp)) u
  have e:=λH'=>z (k+1) b (.bA ⟨0,t,G,0⟩ 0 (a9 b).length none) H' v (by omega) (by omega) j;rw[show((k+1:Nat):Int)=(k:Int)+1 from by omega]at e;have f:Ib (p :: s) q=Ib s q:=by simp[Ib,L]
  rw[f]at i;have N:=e H J (.inr ⟨t,G,o,rfl,n⟩) i;rw[CI]at N;clear i z a E f o e;refine kX _ _ _ _ _ _ λg=>?_;simp[an, *,jf,c.r,c.idx];done
theorem Ni{xb:AV}{b:List UInt8}(A:Sl 1 (aA b) xb)(hbl:b.length<1000000000){Q:AV->aa->Prop}(P : ∀y H',fY [29,36] 2 (a9 (rC l q b)) H' y->Q y H') : ∀(s:List eE)(k:Nat)(e:List eE)(F:AV)(H:aa),l.drop k=s->k<=l.length->e.length<=k->e++Kt s q=Kt l q->Fr H->fY [29] 2 (a9 e) H F ->
 cB env Tryz.f89 0 fM [(8,aI k),(0,x),(7,F),(1,aI q),(2,xb)] H Q:=by
 intro s;induction s with
 | nil=>
  intro k e F H N Y R j X E;obtain rfl:=drop_nil N Y;have v:e=Kt l q:=by rw[<-j];simp[Kt]
  have hbr:=A.r;have V:=A.jM;have hb2:b.length<=140737488355328:=by omega
  have J:=λD H'=>Nh (q:=q) c a d (Q:=Q) l 0 (e++[V3 q b]) D H' rfl (by omega) (by simp;omega) (by simp);have B : ∀y H',fY [29,36] 2 (a9 ((e++[V3 q b])++Ib l q)) H' y->Q y H':=λy H' h=>P y H' (by
   have:(e++[V3 q b])++Ib l q=rC l q b:=by rw[v];simp[rC]
   rw[<-this];exact h)
  rw[show((0:Nat):Int)=0 from rfl]at J;have i : ∀(t C m:Nat)(H':aa),t=29\/t=36->m=e.length+1->H'.get ⟨0,t,C,0⟩=some ⟨2,a9 e++[.agg [aI q,lW 1 (aA b)]],true,false⟩->fY [29,36] 2 (a9 (e++[V3 q b])) H' (.bA ⟨0,t,C,0⟩ 0 m none):=(by intro t C m H' z S h;subst S;exact .inr ⟨t,C,by rcases z with rfl | rfl<;>simp,by simp,by rw[h];simp[a9,eE.enc,V3]⟩);clear P a j v N;refine kY _ _ _ _ _ _ _ λg=>?_;by_cases G:b=[]
  ·have T:lW 1 (aA b)=aO:=by rw[G];rfl
   rw[T]at i;rcases E with ⟨rfl,I⟩ | ⟨t,M,z,rfl,n⟩
   ·have o:e=[]:=(by simpa [a9] using I);subst o;have f:=i 36 (H.gen 0 36) 1;simp[an, *,cW,c.r,c.idx,A.r,A.jM,CU];exact J _ _ (by simp(maxDischargeDepth:=12) [hY, *]) (f _ (.inr rfl) rfl (by simp[a9])) B
   rw[k9]at z;subst z;have W:(H.get ⟨0,29,M,0⟩).isSome=true:=by rw[n];rfl
   have U:kP 2 32 e.length true none (some ⟨2,a9 e,true,false⟩) (some [.agg [aI q,aO]]):=(by simp;omega);have f:=λH'=>i 29 (H.gen 0 29) (e.length+1) H' (.inl rfl) rfl;clear i R;simp[an, *,cW,c.r,c.idx,A.r,A.jM,CU];exact J _ _ (by simp(maxDischargeDepth:=12) [hY, *]) (f _ (by simp)) B
  have T:lW 1 (aA b) = .bq 1 (aA b) none:=tK 1 (by simpa [aA] using G);rw[T]at i;rcases E with ⟨rfl,I⟩ | ⟨t,M,z,rfl,n⟩
  ·have o:e=[]:=(by simpa [a9] using I);subst o;have f:=i 36 (H.gen 0 36) 1;simp[an, *,cW,c.r,c.idx,A.r,A.jM,CU];exact J _ _ (by simp(maxDischargeDepth:=12) [hY, *]) (f _ (.inr rfl) rfl (by simp[a9])) B
  rw[k9]at z;subst z;have W:(H.get ⟨0,29,M,0⟩).isSome=true:=by rw[n];rfl
  have U:kP 2 32 e.length true none (some ⟨2,a9 e,true,false⟩) (some [.agg [aI q,.bq 1 (aA b) none]]):=(by simp;omega);have f:=λH'=>i 29 (H.gen 0 29) (e.length+1) H' (.inl rfl) rfl;clear i R;simp[an, *,cW,c.r,c.idx,A.r,A.jM,CU];exact J _ _ (by simp(maxDischargeDepth:=12) [hY, *]) (f _ (by simp)) B
 | cons p s O=>
  intro k e F H N Y R j X E;obtain⟨hlt,hg,K,L⟩:=drop_cons N;have hp:=a p (by rw[<-hg];exact eO _);have e3:=iQa ((k:Int)+1) (by omega);have rd1:bP (a9 l) k 0 1 false=some (aI p.pos):=by simp[a9,L,eE.enc]
  have rd2:bP (a9 l) k 0 2 true=some (.agg [aI p.pos,p.av]):=(by simp[a9,L,eE.enc]);have hpr:=hp.r;by_cases Z:p.pos<q
  ·have w:Kt (p :: s) q=p :: Kt s q:=(by simp[Kt,Z]);have u:=λD H'=>O (k+1) (e++[p]) D H' K (by omega) (by simp;omega) (by rw[<-j,w];simp);rw[show((k+1:Nat):Int)=(k:Int)+1 from by omega]at u;have i : ∀(C m:Nat)(H':aa),m=e.length+1->H'.get ⟨0,29,C,0⟩=some ⟨2,a9 e++[.agg [aI p.pos,p.av]],true,false⟩->fY [29] 2 (a9 (e++[p])) H' (.bA ⟨0,29,C,0⟩ 0 m none):=(by intro C m H' S h;subst S;exact .inr ⟨29,C,by simp,by simp,by rw[h];simp[a9,eE.enc]⟩);clear P O a w j;refine kY _ _ _ _ _ _ _ λg=>?_;rcases E with ⟨rfl,I⟩ | ⟨t,M,z,rfl,n⟩
   ·have o:e=[]:=(by simpa [a9] using I);subst o;have f:=i (H.gen 0 29) 1;simp[an, *,cW,c.r,c.idx,CU];exact u _ _ (by simp(maxDischargeDepth:=12) [hY, *]) (f _ rfl (by simp[a9]))
   rw[k9]at z;subst z;have W:(H.get ⟨0,29,M,0⟩).isSome=true:=by rw[n];rfl
   have U:kP 2 32 e.length true none (some ⟨2,a9 e,true,false⟩) (some [.agg [aI p.pos,p.av]]):=(by simp;omega);have f:=λH'=>i (H.gen 0 29) (e.length+1) H' rfl;clear i R;simp[an, *,cW,c.r,c.idx,CU];exact u _ _ (by simp(maxDischargeDepth:=12) [hY, *]) (f _ (by simp))
  have w:Kt (p :: s) q=Kt s q:=(by simp[Kt,Z]);have u:=O (k+1) e F H K (by omega) (by omega) (by rw[<-j,w]) X E;rw[show((k+1:Nat):Int)=(k:Int)+1 from by omega]at u;clear P O a w j E;refine kY _ _ _ _ _ _ _ λg=>?_;simp[an, *,cW,c.r,c.idx];done
theorem aas{xb:AV}{b:List UInt8}(i:Sl 1 (aA b) xb)(f:b.length<1000000000):ay env 89 [x,aI q,xb]=some (.bq 2 (a9 (rC l q b)) none):=by
 refine aM rfl (by kernel_rfl) (wK _ _ _ _ _ λg=>?_);have h:=Ni c a d i f (q:=q) (Q:=λy H'=>view H'.get 8 y=some (.bq 2 (a9 (rC l q b)) none)) (λy H' k=>by
  rcases k with ⟨rfl,j⟩ | ⟨t,n,m,rfl,e⟩
  ·simp[a9,rC]at j
  rw[CI]at *;simp[e]) l 0 [] aO [] rfl (by omega) (by simp) (by simp) Fr.nil (.inl ⟨rfl,rfl⟩)
 rw[show((0:Nat):Int)=0 from rfl]at h;generalize a9 (rC l q b)=W at *;simp[an, *,pV];first | done | exact h
end
end
section
attribute [local simp] aC aw ah aq ao bk jE aE ar ax bo bn aG aD ae aN cN
section
variable{l:List eE}{x xb:AV}{st lf:Int}{dd:Bool}{b:List UInt8}(d:Sl 2 (a9 l) x)(c : ∀s∈l,iQ s)(j:l.length<500000)(i:Sl 1 (aA b) xb)(f:b.length<1000000000)
include d c j i f
theorem HP{q:Int}(a:dd=true\/lf=0):ay env 58 [df x st lf dd,aI q,xb]=some (df x st lf true):=by
 refine aM rfl (by kernel_rfl) (nN _ _ _ _ _ λg=>?_);simp only[df];rcases a with rfl | rfl
 ·simp[an, *,fC,d.r]
 cases dd<;>simp[an, *,fC,d.r]
theorem K1{q:Int}(h : ¬lf=0)(o : -1<=lf/\lf<2147483648):ay env 58 [df x st lf false,aI q,xb]=some (df (.bq 2 (a9 (rC l q b)) none) st (if lf>0 then lf - 1 else lf) false):=by
 refine aM rfl (by kernel_rfl) (nN _ _ _ _ _ λg=>?_);have n:=aas (q:=q) d c (by omega) i f;have k:=i.r;have m:=iQa (lf - 1) (by omega);generalize a9 (rC l q b)=W at *;simp only[df];clear c;by_cases a:lf>0;·have e:0<lf:=a;rw[if_pos a];simp[an, *,fC,d.r]
 have e : ¬0<lf:=a;rw[if_neg a];simp[an, *,fC,d.r]
theorem Wc(q:Int) : ∀s∈rC l q b,iQ s:=by
 intro s a;unfold rC at a;rcases kQ.1 a with h | h
 ·exact c s (C9.1 h).1
 rcases ef.1 h with rfl | h
 ·exact yg _ _
 exact c s (C9.1 h).1
end
def UN(q:Int)(b:List UInt8) : ∀(l:List eE)(a:Int),fO a l=true->fK (HD q b l)=fK (rC l q b):=by
 have g : ∀(l:List eE)(a:Int),fO a l=true->q<=a->Kt l q=[]/\Ib l q=l:=by
  intro l a h z;have m:=OZ l a h;constructor;·unfold Kt;rw[List.filter_eq_nil_iff];intro s u;have:=m s u;simp;omega
  unfold Ib;rw[List.filter_eq_self];intro s u;have:=m s u;simp;omega
 intro l;induction l with
 | nil=>intro a _;rfl
 | cons p l y=>
  intro a h;have v:fO p.pos l=true:=by simp[fO]at h;exact h.2
  unfold HD;by_cases o:p.pos<q
  ·rw[if_pos o];have t:Kt (p :: l) q=p :: Kt l q:=by simp[Kt,o]
   have k:Ib (p :: l) q=Ib l q:=by unfold Ib;rw[M8 (by simp;omega)]
   have:=y p.pos v;unfold rC at this ⊢;rw[t,k];simp only[fK,vG,I9]at this ⊢;rw[this];rfl
  rw[if_neg o];obtain⟨w,n⟩:=g l p.pos v (by omega);have t:Kt (p :: l) q=[]:=by unfold Kt at w ⊢;rw[M8 (by simpa using o)];exact w
  by_cases e:p.pos=q
  ·rw[if_pos e];have k:Ib (p :: l) q=l:=by unfold Ib at n ⊢;rw[M8 (by simp;omega)];exact n
   unfold rC;rw[t,k];simp[fK,qx,Qy,yX,V3]
  rw[if_neg e];have k:Ib (p :: l) q=p :: l:=by unfold Ib at n ⊢;rw[List.filter_cons_of_pos (by simp;omega),n]
  unfold rC;rw[t,k];simp[fK,qx,Qy,yX,V3]
def afM(q:Int) : ∀(l:List eE)(a:Int),fO a l=true->Sb l q=V0 l q:=by
 have n : ∀(l:List eE)(a:Int),fO a l=true->q<=a->Sb l q=zer:=by
  intro l;induction l with
  | nil=>intro a _ _;rfl
  | cons p l k=>
   intro a h o;have g:fO p.pos l=true:=by simp[fO]at h;exact h.2
   have hp:=OZ (p :: l) a h p (by simp);show(if p.pos=q then p.bs else Sb l q)=zer;rw[if_neg (by omega)];exact k p.pos g (by omega)
 intro l;induction l with
 | nil=>intro a _;rfl
 | cons p l k=>
  intro a h;have g:fO p.pos l=true:=by simp[fO]at h;exact h.2
  show(if p.pos=q then p.bs else Sb l q)=(if p.pos<q then V0 l q else if p.pos=q then p.bs else zer);by_cases m:p.pos<q;·rw[if_neg (by omega),if_pos m];exact k p.pos g
  rw[if_neg m];by_cases e:p.pos=q;·rw[if_pos e,if_pos e]
  rw[if_neg e,if_neg e];exact n l p.pos g (by omega)
end
section
def kM:List FuncId:=[23,24,46,7,91,61,29,9]
def o9:List FuncId:=[49,45,22]
def aa4:List FuncId:=[23,24,46,7,91,61,29,9,49,45,22,3]
def aaj:FuncId->List AV->aa->Option (AV × aa):=λf args H=>if f=49 then sx Tryz.prog 22 40 25 args H else if f=45 then sg 2 32 5 7 args H else if f=22 then BL (ay env f) args H else none
def Wv(f:FuncId)(args:List AV)(H:aa)(y:AV)(H':aa)(h:aaj f args H=some (y,H')):il Tryz.prog (.fn f) args H y H':=by
 unfold aaj at h;split at h;·rename_i e;subst e;exact RY args H y H' h
 split at h;·rename_i e;subst e;exact Mo args H y H' h
 split at h;·rename_i e;subst e;exact Sg (λb y a=>IK He a) h
 cases h
def aK:Env:=Pt (uM Tryz.prog fns kM o9 (F7 [(52,50,99999),(53,50,99999),(19,13,18),(16,1,77777),(55,1,88888),(27,1,88888)]) (wZ [(49,9,0,[(6,50),(6,54)]),(81,5,9,[(82,8)]),(15,12,0,[(20,23)]),(52,10,0,[(56,58)]),(13,5,4,[(3,2)]),(67,5,4,[(3,2)]),(48,5,4,[(6,2)]),(7,6,0,[(3,5)]),(14,5,3,[(15,2)]),(35,21,0,[(36,52),(37,52),(38,52),(41,52),(42,52),(43,52),(47,52),(48,52),(49,52)]),(145,8,4,[(148,2)]),(21,10,4,[(23,3),(25,3)])]) (Nq [(52,50,99999),(53,50,99999),(19,13,18),(16,1,77777),(55,1,88888),(27,1,88888)]) [] (λ_=>false) (λ_=>none) aaj N9) (λf args=>if aa4.contains f then none else ay env f args) (WG [(52,50,99999),(53,50,99999),(19,13,18),(16,1,77777),(55,1,88888),(27,1,88888)])
@[simp] def Pk(h:aa)(n:Nat)(v:AV)(k:AV->aa->Prop):Prop:=gh (aV aK false (ay aK) (cD aK 0) h (Ref.mk 0 n (aa.gen h 0 n) 0) (some (.fn (.func 46) [] [])) [v]) k
@[simp] def YQ(h:aa)(n:Nat)(v:AV)(k:AV->aa->Prop):Prop:=gh (aV aK true (ay aK) (cD aK 0) h (Ref.mk 0 n (aa.gen h 0 n) 0) (some (.fn (.func 21) [] [])) [v,(.v (.int .i64 2))]) k
@[simp] def YP(h:aa)(n:Nat)(v:AV):=aV aK true (ay aK) (cD aK 0) h (Ref.mk 0 n (aa.gen h 0 n) 0) (some (.fn (.func 21) [] [])) [v,(.v (.int .i64 16777215))]
@[simp] def YM(h:aa)(n:Nat)(v a b:AV)(k:AV->aa->Prop):Prop:=gh (aV aK true (ay aK) (cD aK 0) h (Ref.mk 0 n (aa.gen h 0 n) 0) (some (.fn (.func 49) [] [])) [v,a,b]) k
@[simp] def YL(h:aa)(n:Nat)(v a b:AV)(k:AV->aa->Prop):Prop:=gh (aV aK true (ay aK) (cD aK 0) h (Ref.mk 0 n (aa.gen h 0 n) 0) (some (.fn (.func 22) [] [])) [v,a,b]) k
@[simp] def YJ(h:aa)(n:Nat)(v a:AV)(k:AV->aa->Prop):Prop:=gh (aV aK true (ay aK) (cD aK 0) h (Ref.mk 0 n (aa.gen h 0 n) 0) (some (.fn (.func 48) [] [])) [v,a]) k
@[simp] def YI(h:aa)(n:Nat)(v a:AV)(k:AV->aa->Prop):Prop:=gh (aV aK true (ay aK) (cD aK 0) h (Ref.mk 0 n (aa.gen h 0 n) 0) (some (.fn (.func 59) [] [])) [v,a]) k
@[simp] def YH(h:aa)(n:Nat)(v:AV)(k:AV->aa->Prop):Prop:=gh (aV aK true (ay aK) (cD aK 0) h (Ref.mk 0 n (aa.gen h 0 n) 0) (some (.fn (.func 23) [] [])) [v]) k
@[simp] def YG(h:aa)(n:Nat)(v:AV)(k:AV->aa->Prop):Prop:=gh (aV aK true (ay aK) (cD aK 0) h (Ref.mk 0 n (aa.gen h 0 n) 0) (some (.fn (.func 20) [] [])) [v]) k
@[simp] def YF(h:aa)(n:Nat)(v:AV)(k:AV->aa->Prop):Prop:=gh (aV aK true (ay aK) (cD aK 0) h (Ref.mk 0 n (aa.gen h 0 n) 0) (some (.fn (.func 60) [] [])) [v]) k
def Ye:Ep (uM Tryz.prog fns kM o9 (F7 [(52,50,99999),(53,50,99999),(19,13,18),(16,1,77777),(55,1,88888),(27,1,88888)]) (wZ [(49,9,0,[(6,50),(6,54)]),(81,5,9,[(82,8)]),(15,12,0,[(20,23)]),(52,10,0,[(56,58)]),(13,5,4,[(3,2)]),(67,5,4,[(3,2)]),(48,5,4,[(6,2)]),(7,6,0,[(3,5)]),(14,5,3,[(15,2)]),(35,21,0,[(36,52),(37,52),(38,52),(41,52),(42,52),(43,52),(47,52),(48,52),(49,52)]),(145,8,4,[(148,2)]),(21,10,4,[(23,3),(25,3)])]) (Nq [(52,50,99999),(53,50,99999),(19,13,18),(16,1,77777),(55,1,88888),(27,1,88888)])) fns=true:=by kernel_rfl
def abN:aK.Ok (zJ aK):=Tf (λf args y h=>by
 split at h;·cases h
 exact IK He h) (by kernel_rfl) Ye (λf t h=>by cases h) Wv
def j9{f:FuncId}{args:List AV}{y:AV}(h:aa4.contains f=false)(a:ay env f args=some y):ay aK f args=some y:=RA (by
 show(if aa4.contains f then none else ay env f args)=some y;rw[h];exact a)
@[simp] def agM{f:FuncId}(h:o9.contains f=false):(aK.mode f == 2)=false:=by
 show((if kM.contains f then (if o9.contains f then 3 else 1) else if o9.contains f then 2 else 0) == 2)=false;rw[h];split<;>rfl
@[simp] def aeM{f:FuncId}(h:o9.contains f=false):(aK.mode f == 3)=false:=by
 show((if kM.contains f then (if o9.contains f then 3 else 1) else if o9.contains f then 2 else 0) == 3)=false;rw[h];split<;>rfl
def abd{f:FuncId}(h:kM.contains f=false):tg (aK.mode f)=false:=by
 show tg (if kM.contains f then (if o9.contains f then 3 else 1) else if o9.contains f then 2 else 0)=false;rw[h];cases o9.contains f<;>rfl
@[simp] def afi{f:FuncId}(h:kM.contains f=false)(x:AV)(H:aa)(y:AV):dA aK f x H y↔view H.get depth x=some y:=IQ (abd h) x H y
def abc{f:FuncId}(h:kM.contains f=true):tg (aK.mode f)=true:=by
 show tg (if kM.contains f then (if o9.contains f then 3 else 1) else if o9.contains f then 2 else 0)=true;rw[h];cases o9.contains f<;>rfl
@[simp] def ke{f:FuncId}(h:kM.contains f=true)(x:AV)(H:aa)(y:AV):dA aK f x H y↔(af H.get depth x).Nodup/\bJ H.get depth x=some y:=Eo (abc h) x H y
end
end Go.Proofs.YtmjkpdknicjjgaaGreat
