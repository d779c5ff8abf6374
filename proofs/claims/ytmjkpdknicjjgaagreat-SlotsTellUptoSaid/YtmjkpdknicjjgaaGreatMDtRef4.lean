/-
  What is to be shown of each function, computed from its code. No statement of a seat is proved here.
-/
import Derived.Test.YtmjkpdknicjjgaaGreatMSlVc22
set_option linter.unusedVariables false
set_option linter.unusedSimpArgs false
set_option linter.unusedSectionVars false
set_option linter.unnecessarySimpa false
set_option maxRecDepth 1000000
set_option linter.defProp false
noncomputable section
namespace Go.Proofs.YtmjkpdknicjjgaaGreat
open Go.Ab
section
variable(dep:Nat)(g:Nat->AV)(x0 a b:AV)(H:aa)(Q:AV->aa->Prop)
def vC:Prop:=
 dH H 1 36 x0 λe H1=>
 ad H1 36 e λv2=>
 aV true H1 16 99 [v2] λv3 H2=>
 gC 37 17 0 v3 λv4=>
 br (some v4) (
 Q (.tup [(.v (.slice none 0 0)),v3]) H2) (
 ae 36 e 1 λv5=>
 ad H2 29 v5 λv6=>
 aV true H2 23 66 [v6] λv7 H3=>
 aQ v7 0 λv8=>
 aQ v7 1 λv9=>
 ae 36 e 3 λv10=>
 ae 33 v10 0 λI=>
 ad H3 31 I λB=>
 aV true H3 30 100 [B] λx H4=>
 aQ x 0 λv14=>
 aQ x 1 λv15=>
 ae 36 e 0 λM=>
 ad H4 5 M λS=>
 mw H4 35 57 1 0 S λF s=>
 ae 36 e 2 λT=>
 ad s 3 T λW=>
 aaA 3 38 W λv21=>
 cY s 40 3 5 v21 λJ=>
 ae 36 e 2 λX=>
 ad s 3 X λU=>
 Uv 3 42 U λv25=>
 cY s 44 3 5 v25 λE=>
 ae 36 e 2 λZ=>
 ad s 3 Z λv28=>
 cY s 47 3 5 v28 λR=>
 Mi s 48 57 3 0 J 1 E 2 R λK V=>
 ae 36 e 3 λv31=>
 ae 33 v31 1 λC=>
 ad V 3 C λY=>
 cY V 53 3 5 Y λN=>
 mw V 54 57 1 0 N λG H7=>
 iE (lb env.P false true H7 (Ref.mk 0 55 (aa.gen H7 0 55) 0) 79 5 (some [(0,F),(1,v8),(2,K),(3,v14),(4,G)])) λD H8=>
 aV true H8 56 43 [D] λj H9=>
 ae 36 e 0 λO=>
 ad H9 5 O λy=>
 xT 5 58 y λA=>
 br (some A) (
 Q3 H9 61 57 13 λt c=>
 ae 36 e 4 λn=>
 ad c 31 n λo=>
 cS 31 λw=>
 Av 31 63 64 o w λk=>
 br (some k) (
 ae 36 e 4 λi=>
 ad c 31 i λl=>
 aV true c 69 100 [l] λd f=>
 aQ d 0 λh=>
 aQ d 1 λv50=>
 ae 36 e 6 λm=>
 ad f 34 m λq=>
 aV true f 75 101 [q] λz p=>
 aQ z 0 λv54=>
 aQ z 1 λv55=>
 Mi p 81 79 3 0 j 1 h 2 v54 λv56 u=>
 aV true u 82 43 [v56] λv57 L=>
 Q (.tup [v57,(.v (.int .i64 0))]) L) (
 ae 36 e 6 λi=>
 ad c 34 i λl=>
 aV true c 75 101 [l] λd f=>
 aQ d 0 λh=>
 aQ d 1 λv50=>
 Mi f 81 79 3 0 j 1 t 2 h λm p=>
 aV true p 82 43 [m] λq u=>
 Q (.tup [q,(.v (.int .i64 0))]) u)) (
 z7 5 58 y λt=>
 br (some t) (
 ae 36 e 5 λn=>
 ad H9 27 n λo=>
 tQ 29 0 o λw=>
 aV true H9 89 66 [w] λk c=>
 aQ k 0 λi=>
 aQ k 1 λl=>
 JT c 57 i λd=>
 dC c 95 57 57 j d λh f=>
 Q (.tup [h,(.v (.int .i64 0))]) f) (
 Q (.tup [j,(.v (.int .i64 0))]) H9)))
theorem Br(h : ∀g:fZ,vC x0 H Q):fL Tryz.f67 0 [(0,x0)] H Q:=md (by kernel_rfl) h
def KC:Prop:=
 dV H 2 36 λc H1=>
 tQ 202 0 x0 λv2=>
 dH H1 17 202 v2 λt H2=>
 dL (Ai (.func 129) (some [t]) (some [])) λv4=>
 dL (Ai (.func 130) (some [t]) (some [])) λv5=>
 aaG H2 23 v4 λv6 H3=>
 eX H3 57 v6 0 λv7=>
 ad H3 5 v7 λv8=>
 ae 36 c 0 λv9=>
 aC H3 5 v9 v8 λv10 H4=>
 iE (bm env true (ar env) (dg env 0) H4 (Ref.mk 0 29 (aa.gen H4 0 29) 0) (some v4) [(.v (.int .i64 6))]) λv11 H5=>
 aV true H5 30 111 [v11] λv12 H6=>
 aQ v12 0 λv13=>
 aQ v12 1 λv14=>
 dV H6 8 29 λv15 H7=>
 aC H7 29 v15 v13 λv16 H8=>
 iE (bm env true (ar env) (dg env 0) H8 (Ref.mk 0 34 (aa.gen H8 0 34) 0) (some v4) [(.v (.int .i64 3))]) λx H9=>
 ad H9 29 v15 λv18=>
 eX H9 57 x 0 λv19=>
 ad H9 5 v19 λv20=>
 cY H9 39 5 3 v20 λv21=>
 aaz 3 39 v21 λv22=>
 eX H9 57 x 1 λv23=>
 ad H9 5 v23 λv24=>
 cY H9 44 5 3 v24 λv25=>
 JU 3 44 v25 λv26=>
 C8 3 40 45 v22 v26 λv27=>
 eX H9 57 x 2 λv28=>
 ad H9 5 v28 λv29=>
 cY H9 50 5 3 v29 λv30=>
 C8 3 46 50 v27 v30 λv31=>
 ae 36 c 1 λf=>
 aC H9 29 f v18 λv33 H10=>
 ae 36 c 2 λv34=>
 aC H10 3 v34 v31 λv35 W=>
  qJ [(x,f),(v19,f),(v20,f),(x,f),(v23,f),(v24,f),(x,f),(v28,f),(v29,f)] [f,v34] [] W /\
 (iE (bm env true (ar env) (dg env 0) W (Ref.mk 0 55 (aa.gen W 0 55) 0) (some v5) [(.v (.bool false))]) λv36 H12=>
 ae 36 c 3 λv37=>
 ae 33 v37 0 λv38=>
 aC H12 31 v38 v36 λv39 H13=>
 aaG H13 59 v4 λv40 L=>
 eX L 57 v40 0 λv41=>
 ad L 5 v41 λv42=>
 cY L 62 5 3 v42 λv43=>
 ae 36 c 3 λv44=>
 ae 33 v44 1 λv45=>
 aC L 3 v45 v43 λv46 d=>
 pT t λv47=>
 ae 202 v47 2 λv48=>
 ad d 4 v48 λv49=>
 gQ v49 false (bL v14) λv50=>
 gQ v49 false (wN 37 70 0 v50) λv51=>
 dh v49 v51 λC=>
 gQ C false (aw 36 c 3) λv53=>
 gQ C false (aw 33 v53 1) λv54=>
 gQ C false (an d 3 v54) λv55=>
 gQ C false (Fg 3 76 64 v55) λv56=>
 dh C v56 λv57=>
 br (some v57) (
 cS 36 λv58=>
 aC d 36 c v58 λv59 e=>
 aN e c 36 λZ=>
 Q (.tup [Z,(.v (.int .i64 0)),(.v (.int .i64 8))]) e) (
 ae 36 c 0 λv58=>
 ad d 5 v58 λv59=>
 xT 5 81 v59 λZ=>
 br (some Z) (
 iE (bm env true (ar env) (dg env 0) d (Ref.mk 0 85 (aa.gen d 0 85) 0) (some v5) [(.v (.bool true))]) λS e=>
 ae 36 c 4 λA=>
 aC e 31 A S λM h=>
 ae 36 c 3 λj=>
 ae 33 j 1 λI=>
 ad h 3 I λs=>
 pn 3 4 91 s λG=>
 Mj h 93 v4 G λF H18=>
 aV true H18 94 131 [F] λi N=>
 aQ i 0 λE=>
 aQ i 1 λm=>
 pT t λJ=>
 ae 202 J 2 λK=>
 ad N 4 K λo=>
 gQ o false (bL m) λD=>
 gQ o false (wN 37 104 0 D) λY=>
 dh o Y λv77=>
 ae 36 c 6 λV=>
 aC N 34 V E λv79 H20=>
 pT t λv80=>
 ae 202 v80 2 λU=>
 aC H20 4 U v77 λv82 p=>
 pT t λv83=>
 ae 202 v83 2 λT=>
 ad p 4 T λu=>
 gQ u false (an p 36 c) λy=>
 gW u false p (fg true p 141 99 [y]) λv87 l=>
 gQ u false (wN 37 141 0 v87) λv88=>
 dh u v88 λX=>
 br (some X) (
 cS 36 λB=>
 aC l 36 c B λz k=>
 aN k c 36 λn=>
 Q (.tup [n,(.v (.int .i64 0)),(.v (.int .i64 8))]) k) (
 ad l 36 c λB=>
 pT t λz=>
 ae 202 z 1 λn=>
 ad l 3 n λw=>
 aC l 36 c B λv94 k=>
  qJ [(n,c)] [c] [] k /\
 (aN k c 36 λv95=>
 Q (.tup [v95,w,(.v (.int .i64 0))]) k))) (
 z7 5 81 v59 λS=>
 br (some S) (
 iE (bm env true (ar env) (dg env 0) d (Ref.mk 0 114 (aa.gen d 0 114) 0) (some v4) [(.v (.int .i64 5))]) λA e=>
 aV true e 115 132 [A] λM h=>
 QT h 116 57 1 λj H18=>
 dC H18 117 57 57 M j λI N=>
 aV true N 118 111 [I] λs H20=>
 aQ s 0 λG=>
 aQ s 1 λF=>
 dV H20 13 29 λi p=>
 aC p 29 i G λE l=>
 ae 29 i 0 λm=>
 ad l 27 m λJ=>
 pT t λK=>
 ae 202 K 2 λo=>
 ad l 4 o λD=>
 gQ D false (bL F) λY=>
 gQ D false (wN 37 129 0 Y) λv77=>
 dh D v77 λV=>
 ae 36 c 5 λv79=>
 aC l 27 v79 J λv80 k=>
 pT t λU=>
 ae 202 U 2 λv82=>
 aC k 4 v82 V λv83 R=>
 pT t λT=>
 ae 202 T 2 λu=>
 ad R 4 u λy=>
 gQ y false (an R 36 c) λv87=>
 gW y false R (fg true R 141 99 [v87]) λv88 O=>
 gQ y false (wN 37 141 0 v88) λX=>
 dh y X λB=>
 br (some B) (
 cS 36 λz=>
 aC O 36 c z λn q=>
 aN q c 36 λw=>
 Q (.tup [w,(.v (.int .i64 0)),(.v (.int .i64 8))]) q) (
 ad O 36 c λz=>
 pT t λn=>
 ae 202 n 1 λw=>
 ad O 3 w λv94=>
 iE (
  jy env.P O 36 (some c) (some z)) λv95 q=>
  qJ [(w,c)] [c] [] q /\
 (aN q c 36 λv96=>
 Q (.tup [v96,v94,(.v (.int .i64 0))]) q))) (
 pT t λA=>
 ae 202 A 2 λM=>
 ad d 4 M λj=>
 gQ j false (an d 36 c) λI=>
 gW j false d (fg true d 141 99 [I]) λs e=>
 gQ j false (wN 37 141 0 s) λG=>
 dh j G λF=>
 br (some F) (
 cS 36 λi=>
 aC e 36 c i λE h=>
 aN h c 36 λm=>
 Q (.tup [m,(.v (.int .i64 0)),(.v (.int .i64 8))]) h) (
 ad e 36 c λi=>
 pT t λE=>
 ae 202 E 1 λm=>
 ad e 3 m λJ=>
 iE (
  jy env.P e 36 (some c) (some i)) λK h=>
  qJ [(m,c)] [c] [] h /\
 (aN h c 36 λo=>
 Q (.tup [o,J,(.v (.int .i64 0))]) h))))))
theorem Si(h : ∀g:fZ,KC x0 H Q):fL Tryz.f112 0 [(0,x0)] H Q:=md (by kernel_rfl) h
def ed:=sL Tryz.f43 3
def dS:=sL Tryz.f43 11
def jX:Nat->Option (List Nat):=λi=>cond (Nat.beq i 3) (some [11,3,9,0,10]) (cond (Nat.beq i 11) (some [27,6,25,26]) (none))
def nB:Prop:=
 de H 10 79 x0 λc=>
  bS env Tryz.f43 0 ed [(11,(.v (.int .i64 0))),(3,(.v (.int .i64 0))),(9,x0),(0,x0),(10,c)] H Q
theorem tX(h : ∀g:fZ,nB x0 H Q):fL Tryz.f43 0 [(0,x0)] H Q:=uC jX (by kernel_rfl) h
def ji(g:Nat->AV)(c j f x0 d:AV)(H:aa)(Q:AV->aa->Prop):Prop:=
 eU 3 11 10 c d λp=>
 br (some p) (
 cH H 79 f c λi=>
 ad H 57 i λe=>
 de H 17 57 e λm=>
 fQ 3 15 17 j m λh=>
 pU 3 19 0 h λo=>
 br (some o) (
 dL (zI env.P 9 (some (.v (.string ⟨#[108,101,110,32,111,117,116,32,111,102,32,114,97,110,103,101]⟩)))) λl=>
 dL (none) λq=>
 fY 3 11 1 c λn=>
  bS env Tryz.f43 0 ed [(11,n),(3,h),(9,f),(0,x0),(10,d)] H Q) (
 fY 3 11 1 c λl=>
  bS env Tryz.f43 0 ed [(11,l),(3,h),(9,f),(0,x0),(10,d)] H Q)) (
 aV true H 24 72 [(.v (.slice none 0 0)),j] λi k=>
 de k 26 79 x0 λe=>
  bS env Tryz.f43 0 dS [(27,(.v (.int .i64 0))),(6,i),(25,x0),(26,e)] k Q)
theorem mu(c e f x0 d:AV)(H:aa)(Q:AV->aa->Prop)(h : ∀g,ji g c e f x0 d H Q):bS env Tryz.f43 0 ed [(11,c),(3,e),(9,f),(0,x0),(10,d)] H Q:=tG jX (by kernel_rfl) h
def fE(g:Nat->AV)(c f e d:AV)(H:aa)(Q:AV->aa->Prop):Prop:=
 eU 3 27 26 c d λk=>
 br (some k) (
 cH H 79 e c λm=>
 ad H 57 m λi=>
 dC H 33 57 57 f i λh j=>
 fY 3 27 1 c λl=>
  bS env Tryz.f43 0 dS [(27,l),(6,h),(25,e),(26,d)] j Q) (
 Q f H)
theorem lU(c f e d:AV)(H:aa)(Q:AV->aa->Prop)(h : ∀g,fE g c f e d H Q):bS env Tryz.f43 0 dS [(27,c),(6,f),(25,e),(26,d)] H Q:=tG jX (by kernel_rfl) h
def r9:=sL Tryz.f101 6
def DK:Nat->Option (List Nat):=λi=>cond (Nat.beq i 6) (some [15,5,13,14]) (none)
def zX:Prop:=
 aV true H 9 123 [x0] λd c=>
 gC 37 10 0 d λf=>
 br (some f) (
 Q (.tup [(.v (.slice none 0 0)),d]) c) (
 de c 14 34 x0 λe=>
  bS env Tryz.f101 0 r9 [(15,(.v (.int .i64 0))),(5,(.v (.slice none 0 0))),(13,x0),(14,e)] c Q)
theorem K8(h : ∀g:fZ,zX x0 H Q):fL Tryz.f101 0 [(0,x0)] H Q:=uC DK (by kernel_rfl) h
def sq(g:Nat->AV)(c l e d:AV)(H:aa)(Q:AV->aa->Prop):Prop:=
 eU 3 15 14 c d λs=>
 br (some s) (
 cH H 34 e c λu=>
 ad H 21 u λf=>
 dL (bC env.P .shr 21 (Operand.tmp 20) (.const (.int .u64 24)) (some f) (some (.v (.int .u64 24)))) λn=>
 cY H 22 21 5 n λt=>
 aaA 21 23 f λx=>
 cY H 25 21 5 x λw=>
 Uv 21 26 f λm=>
 cY H 28 21 5 m λo=>
 cY H 30 21 5 f λj=>
 QV H 31 57 4 0 t 1 w 2 o 3 j λh q=>
 dC q 32 57 57 l h λi p=>
 fY 3 15 1 c λk=>
  bS env Tryz.f101 0 r9 [(15,k),(5,i),(13,e),(14,d)] p Q) (
 Q (.tup [l,(.v (.int .i64 0))]) H)
theorem AI(d f c e:AV)(H:aa)(Q:AV->aa->Prop)(h : ∀g,sq g d f c e H Q):bS env Tryz.f101 0 r9 [(15,d),(5,f),(13,c),(14,e)] H Q:=tG DK (by kernel_rfl) h
def sM:Code:=(Tryz.f129.body).getD .skip
def fP:Prop:=
 pT x0 λR=>
 ae 202 R 2 λS=>
 ad H 4 S λc=>
 gQ c false (bL x0) λU=>
 gQ c false (Nd (some U)) λV=>
 gQ c false (aw 202 V 0) λT=>
 gQ c false (an H 57 T) λW=>
 gQ c false (cb env.P false (aa.get H) (⟨(dep+1),15,aa.gen H (dep+1) 15,0⟩:Ref) .len #[57] [W]) λN=>
 gQ c false (bL x0) λO=>
 gQ c false (Nd (some O)) λD=>
 gQ c false (aw 202 D 1) λy=>
 gQ c false (an H 3 y) λj=>
 gQ c false (bC env.P .sub 3 (Operand.tmp 15) (Operand.tmp 19) (some N) (some j)) λm=>
 gQ c false (bL a) λF=>
 gQ c false (QO 3 20 21 m F) λv=>
 dh c v λE=>
 pT x0 λi=>
 ae 202 i 2 λw=>
 aC H 4 w E λM f=>
 pT x0 λn=>
 ae 202 n 2 λB=>
 ad f 4 B λA=>
 br (some A) (
 iE (lY f (⟨(dep+1),31,aa.gen f (dep+1) 31,0⟩:Ref) (yL env.P (⟨(dep+1),31,aa.gen f (dep+1) 31,0⟩:Ref) 57 (some a) (some a))) λd e=>
 Q d e) (
 pT x0 λd=>
 ae 202 d 1 λk=>
 ad f 3 k λs=>
 fQ 3 35 36 s a λu=>
 pT x0 λq=>
 ae 202 q 1 λJ=>
 aC f 3 J u λL e=>
 pT x0 λC=>
 ae 202 C 0 λG=>
 ad e 57 G λl=>
 pT x0 λp=>
 ae 202 p 1 λI=>
 ad e 3 I λx=>
 JR 3 47 48 x a λt=>
 pT x0 λz=>
 ae 202 z 1 λK=>
 ad e 3 K λo=>
 dL (cr env.P (aa.get e) 57 (some l) (oi t) (oi o) (some none)) λh=>
 Q h e)
theorem sI(h : ∀g:fZ,fP dep x0 a H Q):fL Tryz.f129 (dep+1) [(0,x0),(1,a)] H Q:=md (by kernel_rfl) h
def uw:Code:=(Tryz.f130.body).getD .skip
def gy:Prop:=
 aaN H dep 4 31 λz x=>
 iE (bm env true (ar env) (dg env (dep+1)) x (⟨(dep+1),10,aa.gen x (dep+1) 10,0⟩:Ref) (some (.fn (.func 129) [] [])) [x0,(.v (.int .i64 13))]) λB D=>
 iE (bm env true (ar env) (dg env (dep+1)) D (⟨(dep+1),13,aa.gen D (dep+1) 13,0⟩:Ref) (some (.fn (.func 149) [] [])) [B]) λE F=>
 aQ E 0 λL=>
 aQ E 1 λM=>
 aaN F dep 6 31 λC N=>
 aC N 31 C L λO e=>
 gQ a true (bL B) λG=>
 gW a true e (lY e (⟨(dep+1),19,aa.gen e (dep+1) 19,0⟩:Ref) (yL env.P (⟨(dep+1),19,aa.gen e (dep+1) 19,0⟩:Ref) 57 (some (AV.v (Value.int IntKind.i64 13))) (some (AV.v (Value.int IntKind.i64 13))))) λJ j=>
 gW a true j (bm env true (ar env) (dg env (dep+1)) j (⟨(dep+1),20,aa.gen j (dep+1) 20,0⟩:Ref) (some (.fn (.func 63) [] [])) [G,J]) λu A=>
 cu a u λq=>
 pT x0 λh=>
 ae 202 h 2 λi=>
 ad A 4 i λc=>
 gQ c false (bL M) λo=>
 gQ c false (wN 37 28 0 o) λw=>
 gQ c false (bL w) λd=>
 gQ d true (bL q) λp=>
 gQ d true (vD p) λf=>
 gQ c false (Mg d f) λk=>
 dh c k λt=>
 pT x0 λs=>
 ae 202 s 2 λl=>
 aC A 4 l t λI y=>
 ad y 31 C λn=>
 aC y 31 z n λK H9=>
 aN H9 z 31 λm=>
 Q m H9
theorem tY(h : ∀g:fZ,gy dep x0 a H Q):fL Tryz.f130 (dep+1) [(0,x0),(1,a)] H Q:=md (by kernel_rfl) h
def L5:Code:=(Tryz.f131.body).getD .skip
def k8:List Item:=(lP 10006 400 [.code L5]).getD []
def eS:Code:=rfA k8
def eR:Code:=rfB k8
def vV:List Item:=rfK k8
def zO:Nat->Option (List Nat):=λi=>cond (Nat.beq i 10006) (some [16,2]) (none)
def D1:Nat->Bool:=λi=>false
def Ea:Prop:=
 dV H 2 34 λe d=>
 de d 8 57 x0 λl=>
 sN 3 8 256 l λj=>
 br (some j) (
 Mh d 34 e λh c=>
 aN c e 34 λf=>
 Q (.tup [f,(.v (.int .i64 4))]) c) (
 de d 12 57 x0 λh=>
 my 3 12 4 h λf=>
 sN 3 13 0 f λm=>
 br (some m) (
 Mh d 34 e λi c=>
 aN c e 34 λk=>
 Q (.tup [k,(.v (.int .i64 8))]) c) (
 aV true d 16 42 [x0,(.v (.int .i64 4))] λi c=>
  bS env Tryz.f131 0 k8 [(16,i),(2,e)] c Q))
theorem K9(h : ∀g:fZ,Ea x0 H Q):fL Tryz.f131 0 [(0,x0)] H Q:=uC zO (by kernel_rfl) h
def pS(g:Nat->AV)(b:AV)(H:aa)(Q:AV->aa->Prop):Prop:=
 ad H 34 b λj=>
 aV true H 45 123 [j] λh d=>
 gC 37 46 0 h λi=>
 br (some i) (
 Mh d 34 b λf c=>
 aN c b 34 λe=>
 Q (.tup [e,h]) c) (
 ad d 34 b λf=>
 aC d 34 b f λe c=>
 aN c b 34 λk=>
 Q (.tup [k,(.v (.int .i64 0))]) c)
theorem BM(b:AV)(H:aa)(Q:AV->aa->Prop)(h : ∀g,pS g b H Q):bS env Tryz.f131 0 vV [(2,b)] H Q:=⟨λg=>sQ (live:=zO) (cut:=D1) (n:=500) (Eq.mp (by kernel_rfl) (h g))⟩
def qK(r:Ref)(g:Nat->AV)(b d:AV)(H:aa)(Q:AV->aa->Prop):Prop:=
 bgP (yQ H r) λc=>
 dL (ow env.P (aa.get (aa.put H r (some (ei 1 c)))) 34 (some b)) λA=>
 dL (bH env.P (aa.get (aa.put H r (some (ei 1 c)))) 57 (some d) (some (AV.v (Value.int IntKind.i64 0)))) λE=>
 dL (ow env.P (aa.get (aa.put H r (some (ei 1 c)))) 5 (some E)) λC=>
 dL (bY env.P (aa.get (aa.put H r (some (ei 1 c)))) (⟨2,22,aa.gen (aa.put H r (some (ei 1 c))) 2 22,0⟩:Ref) 5 25 (some C)) λG=>
 dL (bC env.P .shl 25 (Operand.tmp 22) (.const (.int .u64 24)) (some G) (some (.v (.int .u64 24)))) λB=>
 dL (bH env.P (aa.get (aa.put H r (some (ei 1 c)))) 57 (some d) (some (AV.v (Value.int IntKind.i64 1)))) λF=>
 dL (ow env.P (aa.get (aa.put H r (some (ei 1 c)))) 5 (some F)) λx=>
 dL (bY env.P (aa.get (aa.put H r (some (ei 1 c)))) (⟨2,27,aa.gen (aa.put H r (some (ei 1 c))) 2 27,0⟩:Ref) 5 25 (some x)) λz=>
 aaz 25 27 z λq=>
 C8 25 23 28 B q λn=>
 dL (bH env.P (aa.get (aa.put H r (some (ei 1 c)))) 57 (some d) (some (AV.v (Value.int IntKind.i64 2)))) λh=>
 dL (ow env.P (aa.get (aa.put H r (some (ei 1 c)))) 5 (some h)) λi=>
 dL (bY env.P (aa.get (aa.put H r (some (ei 1 c)))) (⟨2,33,aa.gen (aa.put H r (some (ei 1 c))) 2 33,0⟩:Ref) 5 25 (some i)) λt=>
 JU 25 33 t λl=>
 C8 25 29 34 n l λs=>
 dL (bH env.P (aa.get (aa.put H r (some (ei 1 c)))) 57 (some d) (some (AV.v (Value.int IntKind.i64 3)))) λe=>
 dL (ow env.P (aa.get (aa.put H r (some (ei 1 c)))) 5 (some e)) λm=>
 dL (bY env.P (aa.get (aa.put H r (some (ei 1 c)))) (⟨2,39,aa.gen (aa.put H r (some (ei 1 c))) 2 39,0⟩:Ref) 5 25 (some m)) λf=>
 C8 25 35 39 s f λj=>
 dL (bY env.P (aa.get (aa.put H r (some (ei 1 c)))) (⟨2,41,aa.gen (aa.put H r (some (ei 1 c))) 2 41,0⟩:Ref) 25 21 (some j)) λp=>
 iE (lb env.P true false (aa.put H r (some (ei 1 c))) (⟨2,42,aa.gen (aa.put H r (some (ei 1 c))) 2 42,0⟩:Ref) 34 1 (some [(0,p)])) λo u=>
 iE (dm env.P true u (⟨2,43,aa.gen u 2 43,0⟩:Ref) (some 34) (some 34) A o) λk D=>
 aC D 34 b k λy w=>
 Q (.v (.int .i64 0)) w
theorem CI(r:Ref)(b c:AV)(H:aa)(Q:AV->aa->Prop)(h : ∀g,qK r g b c H Q):X6 env Tryz.f131 (some r) 2 [.code eS,.beginRound,.code eR] [(2,b),(17,c)] H Q:=⟨λg=>sQ (live:=zO) (cut:=D1) (n:=500) (Eq.mp (by kernel_rfl) (h g))⟩
def Bo:Prop:=
 QZ 57 3 x0 λf=>
 br (some f) (
 Q (.v (.slice none 0 0)) H) (
 iE (lb env.P false true H (Ref.mk 0 5 (aa.gen H 0 5) 0) 57 0 (some [])) λe c=>
 dC c 7 57 57 e x0 λd h=>
 Q d h)
theorem Hr(h : ∀g:fZ,Bo x0 H Q):fL Tryz.f132 0 [(0,x0)] H Q:=md (by kernel_rfl) h
def kp:Prop:=
 dH H 2 57 x0 λe h=>
 dH h 3 3 a λc d=>
 ad d 3 c λi=>
 pU 3 5 1 i λj=>
 br (some j) (
 dL (zI env.P 9 (some (.v (.string ⟨#[99,97,110,110,111,116,32,98,101,32,108,101,115,115,32,116,104,97,110,32,49]⟩)))) λf=>
 dL (none) λl=>
 dL (Ai (.func 71) (some []) (some [e,c])) λk=>
 Q k d) (
 dL (Ai (.func 71) (some []) (some [e,c])) λf=>
 Q f d)
theorem nQ(h : ∀g:fZ,kp x0 a H Q):fL Tryz.f42 0 [(0,x0),(1,a)] H Q:=md (by kernel_rfl) h
def oX:Prop:=
 cY H 6 57 9 x0 λd=>
 cY H 8 57 9 a λe=>
 uU 9 6 8 d e λc=>
 Q c H
theorem Hq(h : ∀g:fZ,oX x0 a H Q):fL Tryz.f63 0 [(0,x0),(1,a)] H Q:=md (by kernel_rfl) h
def oA:Prop:=
 pU 3 5 0 a λq=>
 br (some q) (
 dL (zI env.P 9 (some (.v (.string ⟨#[99,97,110,110,111,116,32,98,101,32,110,101,103,97,116,105,118,101]⟩)))) λp=>
 dL (none) λo=>
 QS H 10 57 x0 λk=>
 de H 12 57 x0 λf=>
 JR 3 10 12 k f λn=>
 JR 3 8 13 a n λh=>
 sN 3 15 0 h λj=>
 br (some j) (
 QS H 19 57 x0 λm=>
 Ff H 57 x0 m λe=>
 dC H 22 57 3 e h λd c=>
 de c 24 57 x0 λi=>
 Ff c 57 d i λl=>
 Q l c) (
 Q x0 H)) (
 QS H 10 57 x0 λp=>
 de H 12 57 x0 λo=>
 JR 3 10 12 p o λk=>
 JR 3 8 13 a k λf=>
 sN 3 15 0 f λn=>
 br (some n) (
 QS H 19 57 x0 λh=>
 Ff H 57 x0 h λj=>
 dC H 22 57 3 j f λm c=>
 de c 24 57 x0 λe=>
 Ff c 57 m e λd=>
 Q d c) (
 Q x0 H))
theorem uZ(h : ∀g:fZ,oA x0 a H Q):fL Tryz.f72 0 [(0,x0),(1,a)] H Q:=md (by kernel_rfl) h
def mU:Code:=(Tryz.f71.body).getD .skip
def cW:=sL Tryz.f71 1
def mN:Nat->Option (List Nat):=λi=>cond (Nat.beq i 1) (some [2,4,1,0]) (none)
def jF:Prop:=
 bS env Tryz.f71 (dep+1) cW [(2,b),(4,(.v (.int .i64 0))),(1,a),(0,x0)] H Q
theorem mD(h : ∀g:fZ,jF dep x0 a b H Q):fL Tryz.f71 (dep+1) [(0,x0),(1,a),(2,b)] H Q:=uC mN (by kernel_rfl) h
def cX(dep:Nat)(g:Nat->AV)(b c a x0:AV)(H:aa)(Q:AV->aa->Prop):Prop:=
 ad H 57 a λq=>
 QX H dep 8 57 q λt=>
 eU 3 6 8 c t λp=>
 br (some p) (
 ad H 3 b λn=>
 ad H 57 a λs=>
 z6 H 57 s c λw=>
 QX H dep 17 57 w λu=>
 dL (cb env.P true (aa.get H) (⟨(dep+1),18,aa.gen H (dep+1) 18,0⟩:Ref) .min #[3,3] [n,u]) λm=>
 ad H 57 a λo=>
 fQ 3 22 23 c m λf=>
 fQ 3 25 26 c m λd=>
 dL (cr env.P (aa.get H) 57 (some o) (oi c) (oi f) (oi d)) λe=>
 iE (bm env true (ar env) (dg env (dep+1)) H (⟨(dep+1),29,aa.gen H (dep+1) 29,0⟩:Ref) (some x0) [e]) λh i=>
 lA h λl=>
 br (some l) (
 Q (.v (.tuple #[])) i) (
 ad i 3 b λj=>
 fQ 3 10 11 c j λk=>
  bS env Tryz.f71 (dep+1) cW [(2,b),(4,k),(1,a),(0,x0)] i Q)) (
 Q (.v (.tuple #[])) H)
theorem dR(dep:Nat)(b c a x0:AV)(H:aa)(Q:AV->aa->Prop)(h : ∀g,cX dep g b c a x0 H Q):bS env Tryz.f71 (dep+1) cW [(2,b),(4,c),(1,a),(0,x0)] H Q:=tG mN (by kernel_rfl) h
def jn:=sL Tryz.f6 3
def rh:Nat->Option (List Nat):=λi=>cond (Nat.beq i 3) (some [4,1,3,2]) (none)
def ry:Prop:=
 dH H 1 24 x0 λe c=>
 dV c 2 24 λd f=>
  bS env Tryz.f6 0 jn [(4,(.v (.int .i64 0))),(1,e),(3,(.v (.slice none 0 0))),(2,d)] f Q
theorem yl(h : ∀g:fZ,ry x0 H Q):fL Tryz.f6 0 [(0,x0)] H Q:=uC rh (by kernel_rfl) h
def eO(g:Nat->AV)(e a u b:AV)(H:aa)(Q:AV->aa->Prop):Prop:=
 ae 24 a 0 λB=>
 ad H 22 B λC=>
 de H 8 22 C λA=>
 eU 3 5 8 e A λz=>
 br (some z) (
 ae 24 a 0 λn=>
 ad H 22 n λx=>
 cH H 22 x e λt=>
 ae 59 t 0 λw=>
 ad H 3 w λm=>
 ae 24 a 0 λk=>
 ad H 22 k λf=>
 cH H 22 f e λj=>
 ae 59 j 1 λl=>
 ad H 57 l λq=>
 iE (dm env.P false H (Ref.mk 0 25 (aa.gen H 0 25) 0) (some 57) (some 57) (.v (.slice none 0 0)) q) λo c=>
 qN 59 0 m 1 o λp=>
 iE (lb env.P true true c (Ref.mk 0 27 (aa.gen c 0 27) 0) 22 1 (some [(0,p)])) λh d=>
 dC d 28 22 22 u h λs y=>
 fY 3 10 1 e λi=>
  bS env Tryz.f6 0 jn [(4,i),(1,a),(3,s),(2,b)] y Q) (
 ae 24 a 0 λn=>
 aC H 22 n u λx c=>
 ad c 24 a λt=>
 aC c 24 b t λw d=>
 aN d b 24 λm=>
 Q m d)
theorem pt(d a c b:AV)(H:aa)(Q:AV->aa->Prop)(h : ∀g,eO g d a c b H Q):bS env Tryz.f6 0 jn [(4,d),(1,a),(3,c),(2,b)] H Q:=tG rh (by kernel_rfl) h
def gI:=sL Tryz.f25 2
def rV:Nat->Option (List Nat):=λi=>cond (Nat.beq i 2) (some [3,1]) (none)
def sy:Prop:=
 dH H 1 24 x0 λd c=>
  bS env Tryz.f25 0 gI [(3,(.v (.int .i64 0))),(1,d)] c Q
theorem zo(h : ∀g:fZ,sy x0 H Q):fL Tryz.f25 0 [(0,x0)] H Q:=uC rV (by kernel_rfl) h
def bG(g:Nat->AV)(B a:AV)(H:aa)(Q:AV->aa->Prop):Prop:=
 ae 24 a 0 λT=>
 ad H 22 T λU=>
 de H 8 22 U λW=>
 eU 3 5 8 B W λV=>
 br (some V) (
 ae 24 a 0 λM=>
 ad H 22 M λJ=>
 cH H 22 J B λA=>
 ad H 59 A λE=>
 dV H 4 59 λo S=>
 aC S 59 o E λC l=>
 ae 59 o 0 λj=>
 ad l 3 j λm=>
 pU 3 18 0 m λf=>
 gQ f false (aw 59 o 0) λy=>
 gQ f false (an l 3 y) λi=>
 gQ f false (og 3 22 6146 i) λx=>
 dh f x λe=>
 gQ e false (bL B) λt=>
 gQ e false (Fg 3 26 0 t) λd=>
 gQ e false (bL d) λc=>
 gQ c true (aw 59 o 0) λw=>
 gQ c true (an l 3 w) λu=>
 gQ c true (aw 24 a 0) λh=>
 gQ c true (an l 22 h) λn=>
 gQ c true (bL B) λq=>
 gQ c true (aaM 3 33 1 q) λs=>
 gQ c true (Mf l 22 n s) λp=>
 gQ c true (aw 59 p 0) λz=>
 gQ c true (an l 3 z) λD=>
 gQ c true (OF 3 30 37 u D) λL=>
 gQ e false (Mg c L) λN=>
 dh e N λk=>
 gQ k false (aw 59 o 1) λF=>
 gQ k false (an l 57 F) λO=>
 gQ k false (BS l 44 57 O) λI=>
 gQ k false (wN 3 44 128 I) λG=>
 dh k G λK=>
 br (some K) (
 Q (.v (.bool false)) l) (
 fY 3 10 1 B λR=>
  bS env Tryz.f25 0 gI [(3,R),(1,a)] l Q)) (
 ae 24 a 1 λM=>
 ad H 3 M λJ=>
 wO 3 48 0 J λA=>
 gQ A true (aw 24 a 1) λE=>
 gQ A true (an H 3 E) λo=>
 gQ A true (vE 3 52 2147483648 o) λC=>
 cu A C λj=>
 gQ j true (aw 24 a 2) λm=>
 gQ j true (an H 3 m) λf=>
 gQ j true (bC env.P .geq 3 (Operand.tmp 57) (.const (.int .i64 (-1))) (some f) (some (.v (.int .i64 (-1))))) λy=>
 cu j y λi=>
 gQ i true (aw 24 a 2) λx=>
 gQ i true (an H 3 x) λe=>
 gQ i true (vE 3 62 2147483648 e) λt=>
 cu i t λd=>
 gQ d true (aw 24 a 3) λc=>
 gQ d true (an H 4 c) λw=>
 gQ d true (vD w) λu=>
 gQ d true (bL u) λh=>
 gQ h false (aw 24 a 2) λn=>
 gQ h false (an H 3 n) λq=>
 gQ h false (tS 3 71 0 q) λs=>
 gQ d true (QN h s) λp=>
 cu d p λz=>
 Q z H)
theorem jJ(c a:AV)(H:aa)(Q:AV->aa->Prop)(h : ∀g,bG g c a H Q):bS env Tryz.f25 0 gI [(3,c),(1,a)] H Q:=tG rV (by kernel_rfl) h
def fU:Prop:=
 dH H 3 24 x0 λc D=>
 dV D 6 24 λo f=>
 ae 24 c 3 λE=>
 ad f 4 E λt=>
 gQ t false (aw 24 c 2) λF=>
 gQ t false (an f 3 F) λI=>
 gQ t false (tS 3 11 0 I) λG=>
 dh t G λB=>
 br (some B) (
 ae 24 c 3 λx=>
 OH f 4 x λp i=>
 ad i 24 c λh=>
 aC i 24 o h λe m=>
 aN m o 24 λd=>
 Q d m) (
 ae 24 c 2 λx=>
 ad f 3 x λp=>
 sN 3 17 0 p λh=>
 br (some h) (
 ae 24 c 2 λe=>
 ad f 3 e λd=>
 BT 3 20 1 d λn=>
 ae 24 c 2 λl=>
 aC f 3 l n λy i=>
 ae 24 c 0 λj=>
 ad i 22 j λs=>
 aV true i 27 89 [s,a,b] λk m=>
 ae 24 c 0 λw=>
 aC m 22 w k λA q=>
 ad q 24 c λu=>
 aC q 24 o u λC z=>
 aN z o 24 λv=>
 Q v z) (
 ae 24 c 0 λe=>
 ad f 22 e λd=>
 aV true f 27 89 [d,a,b] λn i=>
 ae 24 c 0 λl=>
 aC i 22 l n λy m=>
 ad m 24 c λj=>
 aC m 24 o j λs q=>
 aN q o 24 λk=>
 Q k q))
theorem oE(h : ∀g:fZ,fU x0 a b H Q):fL Tryz.f58 0 [(0,x0),(1,a),(2,b)] H Q:=md (by kernel_rfl) h
def kb:=sL Tryz.f95 2
def sV:Nat->Option (List Nat):=λi=>cond (Nat.beq i 2) (some [5,2,1]) (none)
def sY:Prop:=
 dH H 2 24 x0 λd c=>
  bS env Tryz.f95 0 kb [(5,(.v (.int .i64 0))),(2,d),(1,a)] c Q
theorem Aq(h : ∀g:fZ,sY x0 a H Q):fL Tryz.f95 0 [(0,x0),(1,a)] H Q:=uC sV (by kernel_rfl) h
def kf(g:Nat->AV)(d b a:AV)(H:aa)(Q:AV->aa->Prop):Prop:=
 ae 24 b 0 λs=>
 ad H 22 s λt=>
 de H 9 22 t λq=>
 eU 3 6 9 d q λo=>
 br (some o) (
 ae 24 b 0 λj=>
 ad H 22 j λv=>
 cH H 22 v d λu=>
 ae 59 u 0 λn=>
 ad H 3 n λp=>
 uU 3 18 19 p a λf=>
 br (some f) (
 ae 24 b 0 λc=>
 ad H 22 c λe=>
 cH H 22 e d λh=>
 ae 59 h 1 λm=>
 ad H 57 m λk=>
 QW H 27 57 57 k λl i=>
 Q l i) (
 fY 3 11 1 d λc=>
  bS env Tryz.f95 0 kb [(5,c),(2,b),(1,a)] H Q)) (
 Q3 H 28 57 128 λj i=>
 Q j i)
theorem mE(c b a:AV)(H:aa)(Q:AV->aa->Prop)(h : ∀g,kf g c b a H Q):bS env Tryz.f95 0 kb [(5,c),(2,b),(1,a)] H Q:=tG sV (by kernel_rfl) h
def gl:=sL Tryz.f89 3
def gk:=sL Tryz.f89 9
def mO:Nat->Option (List Nat):=λi=>cond (Nat.beq i 3) (some [8,0,7,1,2]) (cond (Nat.beq i 9) (some [9,0,7,1]) (none))
def ru:Prop:=
 bS env Tryz.f89 0 gl [(8,(.v (.int .i64 0))),(0,x0),(7,(.v (.slice none 0 0))),(1,a),(2,b)] H Q
theorem yj(h : ∀g:fZ,ru x0 a b H Q):fL Tryz.f89 0 [(0,x0),(1,a),(2,b)] H Q:=uC mO (by kernel_rfl) h
def da(g:Nat->AV)(c x0 h a b:AV)(H:aa)(Q:AV->aa->Prop):Prop:=
 de H 12 22 x0 λs=>
 eU 3 10 12 c s λt=>
 br (some t) (
 cH H 22 x0 c λj=>
 ae 59 j 0 λf=>
 ad H 3 f λl=>
 eU 3 20 21 l a λn=>
 br (some n) (
 cH H 22 x0 c λm=>
 ad H 59 m λp=>
 mw H 28 22 1 0 p λq k=>
 dC k 29 22 22 h q λe i=>
 fY 3 14 1 c λd=>
  bS env Tryz.f89 0 gl [(8,d),(0,x0),(7,e),(1,a),(2,b)] i Q) (
 fY 3 14 1 c λm=>
  bS env Tryz.f89 0 gl [(8,m),(0,x0),(7,h),(1,a),(2,b)] H Q)) (
 QW H 33 57 57 b λj k=>
 qN 59 0 a 1 j λf=>
 mw k 35 22 1 0 f λl i=>
 dC i 36 22 22 h l λn o=>
  bS env Tryz.f89 0 gk [(9,(.v (.int .i64 0))),(0,x0),(7,n),(1,a)] o Q)
theorem lH(c x0 d a b:AV)(H:aa)(Q:AV->aa->Prop)(h : ∀g,da g c x0 d a b H Q):bS env Tryz.f89 0 gl [(8,c),(0,x0),(7,d),(1,a),(2,b)] H Q:=tG mO (by kernel_rfl) h
def jt(g:Nat->AV)(c x0 f a:AV)(H:aa)(Q:AV->aa->Prop):Prop:=
 de H 39 22 x0 λo=>
 eU 3 37 39 c o λq=>
 br (some q) (
 cH H 22 x0 c λm=>
 ae 59 m 0 λj=>
 ad H 3 j λp=>
 JS 3 47 48 p a λs=>
 br (some s) (
 cH H 22 x0 c λh=>
 ad H 59 h λi=>
 mw H 55 22 1 0 i λk n=>
 dC n 56 22 22 f k λe l=>
 fY 3 41 1 c λd=>
  bS env Tryz.f89 0 gk [(9,d),(0,x0),(7,e),(1,a)] l Q) (
 fY 3 41 1 c λh=>
  bS env Tryz.f89 0 gk [(9,h),(0,x0),(7,f),(1,a)] H Q)) (
 Q f H)
theorem lG(c x0 d a:AV)(H:aa)(Q:AV->aa->Prop)(h : ∀g,jt g c x0 d a H Q):bS env Tryz.f89 0 gk [(9,c),(0,x0),(7,d),(1,a)] H Q:=tG mO (by kernel_rfl) h
end
section
variable(dep:Nat)(g:Nat->AV)(x0 a:AV)(H:aa)(Q:AV->aa->Prop)
def cf:Prop:=
 dV H 2 36 λj V=>
 de V 10 57 x0 λv2=>
 pU 3 10 24 v2 λv3=>
 br (some v3) (
 cS 36 λv4=>
 aC V 36 j v4 λv5 T=>
 aN T j 36 λv6=>
 Q (.tup [v6,(.v (.int .i64 0)),(.v (.int .i64 8))]) T) (
 eX V 57 x0 0 λv4=>
 ad V 5 v4 λv5=>
 eX V 57 x0 23 λv6=>
 ad V 5 v6 λv7=>
 cY V 19 5 3 v7 λv8=>
 aV false V 20 151 [v5,v8] λy T=>
 vF 3 21 0 y λL=>
 gQ L false (bL x0) λv11=>
 gQ L false (BS T 25 57 v11) λv12=>
 gQ L false (bL y) λv13=>
 gQ L false (QO 3 25 26 v12 v13) λv14=>
 dh L v14 λv15=>
 br (some v15) (
 cS 36 λv16=>
 aC T 36 j v16 λv17 w=>
 aN w j 36 λZ=>
 Q (.tup [Z,(.v (.int .i64 0)),(.v (.int .i64 8))]) w) (
 eX T 57 x0 0 λv16=>
 ad T 5 v16 λv17=>
 aaC T 57 x0 λZ=>
 aV false T 35 152 [Z] λv19 w=>
 eX w 57 x0 7 λv20=>
 ad w 5 v20 λv21=>
 cY w 39 5 3 v21 λv22=>
 pn 3 65536 39 v22 λv23=>
 eX w 57 x0 8 λv24=>
 ad w 5 v24 λv25=>
 cY w 44 5 3 v25 λv26=>
 pn 3 256 44 v26 λv27=>
 fQ 3 40 45 v23 v27 λv28=>
 eX w 57 x0 9 λv29=>
 ad w 5 v29 λv30=>
 cY w 50 5 3 v30 λv31=>
 fQ 3 46 50 v28 v31 λv32=>
 dL (cr env.P (aa.get w) 57 (some x0) (oi (.v (.int .i64 10))) (oi (.v (.int .i64 23))) (some none)) λv33=>
 aV false w 54 153 [v33] λv34 H4=>
 eX H4 57 x0 23 λv35=>
 ad H4 5 v35 λv36=>
 cY H4 58 5 3 v36 λv37=>
 qN 33 0 v34 1 v37 λv38=>
 dL (mI env.P 36 (some [(0,v17),(1,v19),(2,v32),(3,v38)])) λv39=>
 dV H4 6 36 λb H5=>
 aC H5 36 b v39 λv41 U=>
 ae 36 b 0 λv42=>
 ad U 5 v42 λv43=>
 xT 5 62 v43 λv44=>
 br (some v44) (
 dL (cr env.P (aa.get U) 57 (some x0) (oi (.v (.int .i64 24))) (oi (.v (.int .i64 37))) (some none)) λv45=>
 aV true U 66 153 [v45] λv46 Y=>
 ae 36 b 4 λv47=>
 aC Y 31 v47 v46 λO F=>
 dL (cr env.P (aa.get F) 57 (some x0) (oi (.v (.int .i64 37))) (oi y) (some none)) λE=>
 aV true F 72 154 [E] λd H9=>
 aQ d 0 λz=>
 aQ d 1 λC=>
 gC 3 75 0 C λJ=>
 br (some J) (
 cS 36 λu=>
 aC H9 36 j u λR k=>
 aN k j 36 λq=>
 Q (.tup [q,(.v (.int .i64 0)),(.v (.int .i64 8))]) k) (
 ae 36 b 6 λu=>
 aC H9 34 u z λR k=>
 ae 36 b 0 λq=>
 ad k 5 q λM=>
 z7 5 81 M λf=>
 br (some f) (
 aaE k 57 x0 λt=>
 QW k 85 57 57 t λm n=>
 QT n 86 57 1 λc i=>
 dC i 87 57 57 m c λl e=>
 aV true e 88 152 [l] λD o=>
 dL (tn env.P 29 (some D) 0) λB=>
 ae 36 b 5 λN=>
 aC o 27 N B λS H15=>
 ad H15 36 b λG=>
 aV false H15 92 52 [G] λs W=>
 lA s λh=>
 gQ h false (an W 36 b) λp=>
 gW h false W (fg false W 96 86 [p]) λI x=>
 gQ h false (xS x 97 57 9 I) λv72=>
 gQ h false (bL x0) λA=>
 gQ h false (bL y) λv74=>
 gQ h false (QP x 57 A v74) λv75=>
 gQ h false (xS x 101 57 9 v75) λv76=>
 gQ h false (BR 9 97 101 v72 v76) λv77=>
 dh h v77 λv78=>
 br (some v78) (
 cS 36 λv79=>
 aC x 36 j v79 λv80 K=>
 aN K j 36 λX=>
 Q (.tup [X,(.v (.int .i64 0)),(.v (.int .i64 8))]) K) (
 ad x 36 b λv79=>
 aC x 36 j v79 λv80 K=>
 aN K j 36 λX=>
 Q (.tup [X,y,(.v (.int .i64 0))]) K)) (
 ad k 36 b λt=>
 aV false k 92 52 [t] λm n=>
 lA m λc=>
 gQ c false (an n 36 b) λl=>
 gW c false n (fg false n 96 86 [l]) λD i=>
 gQ c false (xS i 97 57 9 D) λB=>
 gQ c false (bL x0) λN=>
 gQ c false (bL y) λS=>
 gQ c false (QP i 57 N S) λG=>
 gQ c false (xS i 101 57 9 G) λs=>
 gQ c false (BR 9 97 101 B s) λh=>
 dh c h λp=>
 br (some p) (
 cS 36 λI=>
 aC i 36 j I λv72 e=>
 aN e j 36 λA=>
 Q (.tup [A,(.v (.int .i64 0)),(.v (.int .i64 8))]) e) (
 ad i 36 b λI=>
 aC i 36 j I λv72 e=>
 aN e j 36 λA=>
 Q (.tup [A,y,(.v (.int .i64 0))]) e)))) (
 ae 36 b 0 λv45=>
 ad U 5 v45 λv46=>
 z7 5 81 v46 λv47=>
 br (some v47) (
 aaE U 57 x0 λO=>
 QW U 85 57 57 O λE Y=>
 QT Y 86 57 1 λd F=>
 dC F 87 57 57 E d λz H9=>
 aV true H9 88 152 [z] λC k=>
 dL (tn env.P 29 (some C) 0) λJ=>
 ae 36 b 5 λu=>
 aC k 27 u J λR n=>
 ad n 36 b λq=>
 aV false n 92 52 [q] λM i=>
 lA M λf=>
 gQ f false (an i 36 b) λt=>
 gW f false i (fg false i 96 86 [t]) λm e=>
 gQ f false (xS e 97 57 9 m) λc=>
 gQ f false (bL x0) λl=>
 gQ f false (bL y) λD=>
 gQ f false (QP e 57 l D) λB=>
 gQ f false (xS e 101 57 9 B) λN=>
 gQ f false (BR 9 97 101 c N) λS=>
 dh f S λG=>
 br (some G) (
 cS 36 λs=>
 aC e 36 j s λh o=>
 aN o j 36 λp=>
 Q (.tup [p,(.v (.int .i64 0)),(.v (.int .i64 8))]) o) (
 ad e 36 b λs=>
 aC e 36 j s λh o=>
 aN o j 36 λp=>
 Q (.tup [p,y,(.v (.int .i64 0))]) o)) (
 ad U 36 b λO=>
 aV false U 92 52 [O] λE Y=>
 lA E λd=>
 gQ d false (an Y 36 b) λz=>
 gW d false Y (fg false Y 96 86 [z]) λC F=>
 gQ d false (xS F 97 57 9 C) λJ=>
 gQ d false (bL x0) λu=>
 gQ d false (bL y) λR=>
 gQ d false (QP F 57 u R) λq=>
 gQ d false (xS F 101 57 9 q) λM=>
 gQ d false (BR 9 97 101 J M) λf=>
 dh d f λt=>
 br (some t) (
 cS 36 λm=>
 aC F 36 j m λc H9=>
 aN H9 j 36 λl=>
 Q (.tup [l,(.v (.int .i64 0)),(.v (.int .i64 8))]) H9) (
 ad F 36 b λm=>
 aC F 36 j m λc H9=>
 aN H9 j 36 λl=>
 Q (.tup [l,y,(.v (.int .i64 0))]) H9)))))
theorem zt(h : ∀g:fZ,cf x0 H Q):fL Tryz.f135 0 [(0,x0)] H Q:=md (by kernel_rfl) h
def iR:=sL Tryz.f53 2
def qi:Nat->Option (List Nat):=λi=>cond (Nat.beq i 2) (some [3,1]) (none)
def qx:Prop:=
 dH H 1 36 x0 λc b=>
  bS env Tryz.f53 0 iR [(3,(.v (.int .i64 0))),(1,c)] b Q
theorem xw(h : ∀g:fZ,qx x0 H Q):fL Tryz.f53 0 [(0,x0)] H Q:=uC qi (by kernel_rfl) h
def iW(g:Nat->AV)(b a:AV)(H:aa)(Q:AV->aa->Prop):Prop:=
 ae 36 a 6 λi=>
 ad H 34 i λk=>
 de H 7 34 k λh=>
 eU 3 4 7 b h λe=>
 br (some e) (
 ae 36 a 6 λj=>
 ad H 34 j λm=>
 cH H 34 m b λl=>
 ad H 21 l λd=>
 dL (bC env.P .eql 21 (Operand.tmp 15) (.const (.int .i32 (-1))) (some d) (some (.v (.int .i32 (-1))))) λf=>
 br (some f) (
 Q (.v (.bool false)) H) (
 fY 3 9 1 b λc=>
  bS env Tryz.f53 0 iR [(3,c),(1,a)] H Q)) (
 Q (.v (.bool true)) H)
theorem oG(b a:AV)(H:aa)(Q:AV->aa->Prop)(h : ∀g,iW g b a H Q):bS env Tryz.f53 0 iR [(3,b),(1,a)] H Q:=tG qi (by kernel_rfl) h
def fK:Prop:=
 pU 3 5 1 a λd=>
 gQ d false (bL a) λi=>
 gQ d false (Fg 3 8 64 i) λe=>
 dh d e λh=>
 br (some h) (
 Q (.v (.int .i64 0)) H) (
 xT 5 11 x0 λf=>
 br (some f) (
 pn 3 4 13 a λb=>
 C9 3 37 14 b λc=>
 Q c H) (
 Gt 5 16 x0 λb=>
 br (some b) (
 Q (.v (.int .i64 24)) H) (
 z7 5 18 x0 λc=>
 br (some c) (
 Q (.v (.int .i64 29)) H) (
 Q (.v (.int .i64 0)) H))))
theorem yu(h : ∀g:fZ,fK x0 a H Q):fL Tryz.f151 0 [(0,x0),(1,a)] H Q:=md (by kernel_rfl) h
def aU:Prop:=
 dH H 1 36 x0 λe H1=>
 ae 36 e 1 λv2=>
 ad H1 29 v2 λv3=>
 aV true H1 6 51 [v3] λv4 J=>
 lA v4 λL=>
 gQ L false (aw 36 e 2) λv6=>
 gQ L false (an J 3 v6) λv7=>
 gQ L false (vE 3 10 1 v7) λv8=>
 dh L v8 λK=>
 gQ K false (aw 36 e 2) λv10=>
 gQ K false (an J 3 v10) λv11=>
 gQ K false (og 3 15 16777216 v11) λO=>
 dh K O λk=>
 gQ k false (aw 36 e 3) λv14=>
 gQ k false (an J 33 v14) λX=>
 gW k false J (fg true J 21 79 [X]) λv16 o=>
 gQ k false (vD v16) λM=>
 dh k M λY=>
 br (some Y) (
 Q (.v (.bool false)) o) (
 ae 36 e 5 λN=>
 ad o 27 N λS=>
 cS 27 λv21=>
 uU 27 25 26 S v21 λh=>
 ae 36 e 0 λT=>
 ad o 5 T λR=>
 xT 5 29 R λV=>
 br (some V) (
 gQ h true (aw 36 e 4) λy=>
 gQ h true (an o 31 y) λw=>
 gW h true o (fg true o 35 80 [w]) λG j=>
 gQ h true (bL G) λb=>
 gQ b false (aw 36 e 4) λC=>
 gQ b false (an j 31 C) λF=>
 gW b false j (fg true j 39 81 [F]) λs m=>
 gQ h true (QN b s) λu=>
 cu h u λd=>
 gQ d true (aw 36 e 3) λz=>
 gQ d true (aw 33 z 0) λx=>
 gQ d true (aw 31 x 0) λn=>
 gQ d true (an m 29 n) λI=>
 gQ d true (aw 36 e 1) λf=>
 gQ d true (an m 29 f) λq=>
 gQ d true (k7 29 46 48 I q) λA=>
 cu d A λc=>
 gQ c true (aw 36 e 6) λi=>
 gQ c true (an m 34 i) λt=>
 gQ c true (BS m 54 34 t) λB=>
 gQ c true (aw 36 e 3) λD=>
 gQ c true (aw 33 D 1) λE=>
 gQ c true (an m 3 E) λp=>
 gQ c true (k7 3 54 57 B p) λU=>
 cu c U λl=>
 gQ l true (aw 36 e 6) λW=>
 gQ l true (an m 34 W) λv52=>
 gW l true m (fg true m 63 82 [v52]) λv53 H6=>
 gQ l true (tS 3 63 0 v53) λv54=>
 cu l v54 λZ=>
 Q Z H6) (
 ae 36 e 4 λy=>
 ad o 31 y λw=>
 aV true o 68 80 [w] λG j=>
 lA G λb=>
 gQ b false (aw 36 e 6) λC=>
 gQ b false (an j 34 C) λF=>
 gQ b false (BS j 73 34 F) λs=>
 gQ b false (Fg 3 73 0 s) λu=>
 dh b u λd=>
 br (some d) (
 Q (.v (.bool false)) j) (
 ae 36 e 0 λz=>
 ad j 5 z λx=>
 Gt 5 77 x λn=>
 gQ n true (bL h) λI=>
 cu n I λf=>
 gQ f false (aw 36 e 0) λq=>
 gQ f false (an j 5 q) λA=>
 gQ f false (bC env.P .eql 5 (Operand.tmp 84) (.const (.int .u8 3)) (some A) (some (a8 3))) λc=>
 gQ f false (bL c) λi=>
 gQ i true (aw 36 e 5) λt=>
 gQ i true (an j 27 t) λB=>
 gW i true j (fg true j 89 78 [B]) λD m=>
 gQ f false (Mg i D) λE=>
 dh f E λp=>
 Q p m)))
theorem zr(h : ∀g:fZ,aU x0 H Q):fL Tryz.f52 0 [(0,x0)] H Q:=md (by kernel_rfl) h
def gM:Prop:=
 dH H 1 36 x0 λb H1=>
 ae 36 b 0 λv2=>
 ad H1 5 v2 λv3=>
 QR H1 6 57 1 0 v3 λv4 H2=>
 ae 36 b 1 λv5=>
 ad H2 29 v5 λv6=>
 aV false H2 9 85 [v6] λv7 H3=>
 dC H3 10 57 57 v4 v7 λv8 D=>
 ae 36 b 2 λv9=>
 ad D 3 v9 λv10=>
 rH 3 13 65536 v10 λO=>
 cY D 15 3 5 O λF=>
 ae 36 b 2 λI=>
 ad D 3 I λv14=>
 rH 3 17 256 v14 λv15=>
 my 3 18 256 v15 λV=>
 cY D 20 3 5 V λX=>
 ae 36 b 2 λL=>
 ad D 3 L λY=>
 my 3 22 256 Y λv20=>
 cY D 24 3 5 v20 λv21=>
 Mi D 25 57 3 0 F 1 X 2 v21 λS H5=>
 dC H5 26 57 57 v8 S λv23 H6=>
 ae 36 b 3 λZ=>
 ae 33 Z 0 λv25=>
 ad H6 31 v25 λK=>
 aV true H6 31 109 [K] λv27 H7=>
 dC H7 32 57 57 v23 v27 λv28 H8=>
 ae 36 b 3 λW=>
 ae 33 W 1 λT=>
 ad H8 3 T λv31=>
 cY H8 37 3 5 v31 λG=>
 mw H8 38 57 1 0 G λv33 H9=>
 dC H9 39 57 57 v28 v33 λq c=>
 ae 36 b 0 λN=>
 ad c 5 N λJ=>
 xT 5 41 J λR=>
 br (some R) (
 ae 36 b 4 λy=>
 ad c 31 y λu=>
 aV true c 45 80 [u] λt d=>
 br (some t) (
 iE (dm env.P true d (Ref.mk 0 47 (aa.gen d 0 47) 0) (some 57) (some 3) q (.v (.int .i64 13))) λl i=>
 ae 36 b 6 λj=>
 ad i 34 j λk=>
 aV true i 56 110 [k] λn s=>
 dC s 57 57 57 l n λf h=>
 ae 36 b 0 λm=>
 ad h 5 m λC=>
 z7 5 59 C λo=>
 br (some o) (
 ae 36 b 5 λz=>
 ad h 27 z λB=>
 tQ 29 0 B λw=>
 aV true h 65 85 [w] λx e=>
 JT e 57 x λA=>
 dC e 67 57 57 f A λE p=>
 Q E p) (
 Q f h)) (
 ae 36 b 4 λl=>
 ad d 31 l λj=>
 aV true d 51 109 [j] λk i=>
 dC i 52 57 57 q k λn s=>
 ae 36 b 6 λf=>
 ad s 34 f λm=>
 aV true s 56 110 [m] λC h=>
 dC h 57 57 57 n C λo e=>
 ae 36 b 0 λz=>
 ad e 5 z λB=>
 z7 5 59 B λw=>
 br (some w) (
 ae 36 b 5 λx=>
 ad e 27 x λA=>
 tQ 29 0 A λE=>
 aV true e 65 85 [E] λM p=>
 JT p 57 M λv56=>
 dC p 67 57 57 o v56 λv57 U=>
 Q v57 U) (
 Q o e))) (
 ae 36 b 0 λy=>
 ad c 5 y λu=>
 z7 5 59 u λt=>
 br (some t) (
 ae 36 b 5 λl=>
 ad c 27 l λj=>
 tQ 29 0 j λk=>
 aV true c 65 85 [k] λn d=>
 JT d 57 n λf=>
 dC d 67 57 57 q f λm i=>
 Q m i) (
 Q q c))
theorem xy(h : ∀g:fZ,gM x0 H Q):fL Tryz.f86 0 [(0,x0)] H Q:=md (by kernel_rfl) h
def kJ:=sL Tryz.f152 3
def pD:Nat->Option (List Nat):=λi=>cond (Nat.beq i 3) (some [4,0,3,2]) (none)
def pK:Prop:=
 dV H 2 29 λc b=>
  bS env Tryz.f152 0 kJ [(4,(.v (.int .i64 1))),(0,x0),(3,(.v (.int .i64 0))),(2,c)] b Q
theorem wK(h : ∀g:fZ,pK x0 H Q):fL Tryz.f152 0 [(0,x0)] H Q:=uC pD (by kernel_rfl) h
def dZ(g:Nat->AV)(f x0 l e:AV)(H:aa)(Q:AV->aa->Prop):Prop:=
 pU 3 5 5 f λo=>
 br (some o) (
 pn 3 256 9 l λi=>
 cH H 57 x0 f λd=>
 ad H 5 d λc=>
 cY H 15 5 3 c λh=>
 fQ 3 10 15 i h λk=>
 fY 3 7 1 f λj=>
  bS env Tryz.f152 0 kJ [(4,j),(0,x0),(3,k),(2,e)] H Q) (
 eX H 57 x0 0 λi=>
 ad H 5 i λd=>
 cY H 21 3 25 l λc=>
 qN 27 0 d 1 c λh=>
 eX H 57 x0 5 λk=>
 ad H 5 k λj=>
 qN 29 0 h 1 j λn=>
 aC H 29 e n λp m=>
 aN m e 29 λb=>
 Q b m)
theorem fq(d x0 c b:AV)(H:aa)(Q:AV->aa->Prop)(h : ∀g,dZ g d x0 c b H Q):bS env Tryz.f152 0 kJ [(4,d),(0,x0),(3,c),(2,b)] H Q:=tG pD (by kernel_rfl) h
def hU:=sL Tryz.f153 3
def sW:Nat->Option (List Nat):=λi=>cond (Nat.beq i 3) (some [4,0,3,2]) (none)
def sZ:Prop:=
 dV H 2 31 λc b=>
  bS env Tryz.f153 0 hU [(4,(.v (.int .i64 6))),(0,x0),(3,(.v (.int .i64 0))),(2,c)] b Q
theorem Ar(h : ∀g:fZ,sZ x0 H Q):fL Tryz.f153 0 [(0,x0)] H Q:=uC sW (by kernel_rfl) h
def nf(g:Nat->AV)(e x0 i d:AV)(H:aa)(Q:AV->aa->Prop):Prop:=
 pU 3 5 13 e λm=>
 br (some m) (
 pn 3 256 9 i λf=>
 cH H 57 x0 e λc=>
 ad H 5 c λb=>
 cY H 15 5 3 b λk=>
 fQ 3 10 15 f k λh=>
 fY 3 7 1 e λn=>
  bS env Tryz.f153 0 hU [(4,n),(0,x0),(3,h),(2,d)] H Q) (
 dL (cr env.P (aa.get H) 57 (some x0) (some none) (oi (.v (.int .i64 6))) (some none)) λf=>
 aV true H 19 152 [f] λc l=>
 qN 31 0 c 1 i λb=>
 aC l 31 d b λk j=>
 aN j d 31 λh=>
 Q h j)
theorem qS(d x0 c b:AV)(H:aa)(Q:AV->aa->Prop)(h : ∀g,nf g d x0 c b H Q):bS env Tryz.f153 0 hU [(4,d),(0,x0),(3,c),(2,b)] H Q:=tG sW (by kernel_rfl) h
def fe:=sL Tryz.f154 5
def rX:Nat->Option (List Nat):=λi=>cond (Nat.beq i 5) (some [5,4,0]) (none)
def sD:Prop:=
 de H 8 57 x0 λb=>
 sN 3 8 256 b λc=>
 br (some c) (
 Q (.tup [(.v (.slice none 0 0)),(.v (.int .i64 4))]) H) (
  bS env Tryz.f154 0 fe [(5,(.v (.int .i64 0))),(4,(.v (.slice none 0 0))),(0,x0)] H Q)
theorem zA(h : ∀g:fZ,sD x0 H Q):fL Tryz.f154 0 [(0,x0)] H Q:=uC rX (by kernel_rfl) h
def dY(g:Nat->AV)(e C x0:AV)(H:aa)(Q:AV->aa->Prop):Prop:=
 fY 3 10 3 e λK=>
 de H 13 57 x0 λL=>
 eU 3 11 13 K L λM=>
 br (some M) (
 cH H 57 x0 e λA=>
 ad H 5 A λD=>
 cY H 21 5 3 D λt=>
 pn 3 16777216 21 t λN=>
 fY 3 24 1 e λI=>
 cH H 57 x0 I λJ=>
 ad H 5 J λz=>
 cY H 28 5 3 z λu=>
 pn 3 65536 28 u λl=>
 fQ 3 22 29 N l λm=>
 fY 3 32 2 e λF=>
 cH H 57 x0 F λq=>
 ad H 5 q λE=>
 cY H 36 5 3 E λj=>
 pn 3 256 36 j λs=>
 fQ 3 30 37 m s λk=>
 fY 3 40 3 e λn=>
 cH H 57 x0 n λx=>
 ad H 5 x λw=>
 cY H 44 5 3 w λo=>
 fQ 3 38 44 k o λb=>
 vF 3 46 4294967295 b λp=>
 br (some p) (
 iE (lb env.P false true H (Ref.mk 0 49 (aa.gen H 0 49) 0) 34 1 (some [(0,(.v (.int .i32 (-1))))])) λd h=>
 dC h 50 34 34 C d λc B=>
 fY 3 15 4 e λf=>
  bS env Tryz.f154 0 fe [(5,f),(4,c),(0,x0)] B Q) (
 aV true H 52 107 [b] λd h=>
 br (some d) (
 cY h 55 3 21 b λc=>
 mw h 56 34 1 0 c λf B=>
 dC B 57 34 34 C f λi G=>
 fY 3 15 4 e λy=>
  bS env Tryz.f154 0 fe [(5,y),(4,i),(0,x0)] G Q) (
 Q (.tup [(.v (.slice none 0 0)),(.v (.int .i64 8))]) h))) (
 de H 59 57 x0 λA=>
 my 3 59 4 A λD=>
 gC 3 60 0 D λt=>
 br (some t) (
 Q (.tup [(.v (.slice none 0 0)),(.v (.int .i64 8))]) H) (
 Q (.tup [C,(.v (.int .i64 0))]) H))
theorem jK(c b x0:AV)(H:aa)(Q:AV->aa->Prop)(h : ∀g,dY g c b x0 H Q):bS env Tryz.f154 0 fe [(5,c),(4,b),(0,x0)] H Q:=tG rX (by kernel_rfl) h
def nX:Prop:=
 dH H 1 29 x0 λd c=>
 ae 29 d 0 λj=>
 ad c 27 j λf=>
 aV true c 5 78 [f] λb e=>
 gQ b true (aw 29 d 1) λi=>
 gQ b true (an e 5 i) λl=>
 gQ b true (bC env.P .lss 5 (Operand.tmp 8) (.const (.int .u8 8)) (some l) (some (a8 8))) λk=>
 cu b k λh=>
 Q h e
theorem uF(h : ∀g:fZ,nX x0 H Q):fL Tryz.f51 0 [(0,x0)] H Q:=md (by kernel_rfl) h
def fV:Prop:=
 dH H 1 33 x0 λd s=>
 ae 33 d 0 λx=>
 ad s 31 x λu=>
 aV true s 5 81 [u] λf c=>
 gQ f true (aw 33 d 1) λw=>
 gQ f true (an c 3 w) λz=>
 gQ f true (og 3 8 1 z) λy=>
 cu f y λe=>
 gQ e true (aw 33 d 1) λt=>
 gQ e true (an c 3 t) λk=>
 gQ e true (z8 3 13 64 k) λh=>
 cu e h λb=>
 gQ b true (aw 33 d 0) λl=>
 gQ b true (aw 31 l 1) λp=>
 gQ b true (an c 3 p) λn=>
 gQ b true (aw 33 d 1) λo=>
 gQ b true (an c 3 o) λi=>
 gQ b true (bC env.P .sub 3 (Operand.const (Value.int IntKind.i64 1099511627777)) (Operand.tmp 21) (some (AV.v (Value.int IntKind.i64 1099511627777))) (some i)) λq=>
 gQ b true (OF 3 19 22 n q) λj=>
 cu b j λm=>
 Q m c
theorem vN(h : ∀g:fZ,fV x0 H Q):fL Tryz.f79 0 [(0,x0)] H Q:=md (by kernel_rfl) h
def rB:Prop:=
 dH H 1 31 x0 λf b=>
 ad b 31 f λe=>
 cS 31 λc=>
 uU 31 3 4 e c λd=>
 Q d b
theorem yt(h : ∀g:fZ,rB x0 H Q):fL Tryz.f80 0 [(0,x0)] H Q:=md (by kernel_rfl) h
def sC:Prop:=
 dH H 1 31 x0 λf j=>
 ae 31 f 0 λm=>
 ad j 29 m λk=>
 aV true j 5 51 [k] λc i=>
 gQ c true (aw 31 f 1) λl=>
 gQ c true (an i 3 l) λp=>
 gQ c true (og 3 8 1 p) λo=>
 cu c o λb=>
 gQ b true (aw 31 f 1) λn=>
 gQ b true (an i 3 n) λh=>
 gQ b true (z8 3 13 1099511627776 h) λd=>
 cu b d λe=>
 Q e i
theorem zy(h : ∀g:fZ,sC x0 H Q):fL Tryz.f81 0 [(0,x0)] H Q:=md (by kernel_rfl) h
def iS:=sL Tryz.f82 4
def qj:Nat->Option (List Nat):=λi=>cond (Nat.beq i 4) (some [3,0]) (none)
def mm:Prop:=
 de H 5 34 x0 λb=>
 sN 3 5 64 b λc=>
 br (some c) (
 Q (.v (.int .i64 4)) H) (
  bS env Tryz.f82 0 iS [(3,(.v (.int .i64 0))),(0,x0)] H Q)
theorem xC(h : ∀g:fZ,mm x0 H Q):fL Tryz.f82 0 [(0,x0)] H Q:=uC qj (by kernel_rfl) h
def fW(g:Nat->AV)(c x0:AV)(H:aa)(Q:AV->aa->Prop):Prop:=
 de H 9 34 x0 λo=>
 eU 3 7 9 c o λp=>
 br (some p) (
 cH H 34 x0 c λn=>
 ad H 21 n λl=>
 aaD 21 16 l λb=>
 gQ b true (bL x0) λs=>
 gQ b true (bL c) λq=>
 gQ b true (Mf H 34 s q) λk=>
 gQ b true (an H 21 k) λm=>
 gQ b true (xS H 23 21 3 m) λf=>
 gW b true H (fg true H 24 107 [f]) λd j=>
 gQ b true (vD d) λe=>
 cu b e λh=>
 br (some h) (
 Q (.v (.int .i64 8)) j) (
 fY 3 11 1 c λi=>
  bS env Tryz.f82 0 iS [(3,i),(0,x0)] j Q)) (
 Q (.v (.int .i64 0)) H)
theorem oH(b x0:AV)(H:aa)(Q:AV->aa->Prop)(h : ∀g,fW g b x0 H Q):bS env Tryz.f82 0 iS [(3,b),(0,x0)] H Q:=tG qj (by kernel_rfl) h
def sE:Prop:=
 dH H 1 27 x0 λf b=>
 ae 27 f 0 λe=>
 ad b 5 e λc=>
 dL (bC env.P .leq 5 (Operand.tmp 4) (.const (.int .u8 15)) (some c) (some (a8 15))) λd=>
 Q d b
theorem zB(h : ∀g:fZ,sE x0 H Q):fL Tryz.f78 0 [(0,x0)] H Q:=md (by kernel_rfl) h
def qy:Prop:=
 dH H 1 29 x0 λh k=>
 ae 29 h 0 λw=>
 ae 27 w 0 λs=>
 ad k 5 s λo=>
 QR k 7 57 1 0 o λu f=>
 ae 29 h 0 λy=>
 ae 27 y 1 λx=>
 ad f 25 x λn=>
 cY f 11 25 3 n λq=>
 aV false f 12 108 [q,(.v (.int .i64 4))] λd m=>
 dC m 13 57 57 u d λb l=>
 ae 29 h 1 λc=>
 ad l 5 c λe=>
 mw l 17 57 1 0 e λj t=>
 dC t 18 57 57 b j λi p=>
 Q i p
theorem xA(h : ∀g:fZ,qy x0 H Q):fL Tryz.f85 0 [(0,x0)] H Q:=md (by kernel_rfl) h
def qz:Prop:=
 dH H 1 31 x0 λc b=>
 ae 31 c 0 λl=>
 ad b 29 l λe=>
 aV false b 5 85 [e] λk d=>
 ae 31 c 1 λi=>
 ad d 3 i λn=>
 aV false d 8 108 [n,(.v (.int .i64 7))] λm f=>
 dC f 9 57 57 k m λh j=>
 Q h j
theorem xB(h : ∀g:fZ,qz x0 H Q):fL Tryz.f109 0 [(0,x0)] H Q:=md (by kernel_rfl) h
def gm:=sL Tryz.f110 3
def rm:Nat->Option (List Nat):=λi=>cond (Nat.beq i 3) (some [4,3,0]) (none)
def rC:Prop:=
 bS env Tryz.f110 0 gm [(4,(.v (.int .i64 0))),(3,(.v (.slice none 0 0))),(0,x0)] H Q
theorem yw(h : ∀g:fZ,rC x0 H Q):fL Tryz.f110 0 [(0,x0)] H Q:=uC rm (by kernel_rfl) h
def eP(g:Nat->AV)(n o x0:AV)(H:aa)(Q:AV->aa->Prop):Prop:=
 de H 8 34 x0 λy=>
 eU 3 6 8 n y λz=>
 br (some z) (
 cH H 34 x0 n λx=>
 ad H 21 x λw=>
 cY H 16 21 3 w λm=>
 pU 3 17 0 m λA=>
 br (some A) (
 Uw 3 20 16777216 4294967295 λu=>
 cY H 22 3 5 u λp=>
 Uw 3 23 65536 4294967295 λq=>
 my 3 24 256 q λf=>
 cY H 26 3 5 f λb=>
 Uw 3 27 256 4294967295 λe=>
 my 3 28 256 e λh=>
 cY H 30 3 5 h λk=>
 dL (bC env.P .rem 3 (Operand.tmp 31) (Operand.const (Value.int IntKind.i64 256)) (some (AV.v (Value.int IntKind.i64 4294967295))) (some (AV.v (Value.int IntKind.i64 256)))) λi=>
 cY H 33 3 5 i λj=>
 QV H 34 57 4 0 p 1 b 2 k 3 j λc t=>
 dC t 35 57 57 o c λl s=>
 fY 3 10 1 n λd=>
  bS env Tryz.f110 0 gm [(4,d),(3,l),(0,x0)] s Q) (
 rH 3 20 16777216 m λu=>
 cY H 22 3 5 u λp=>
 rH 3 23 65536 m λq=>
 my 3 24 256 q λf=>
 cY H 26 3 5 f λb=>
 rH 3 27 256 m λe=>
 my 3 28 256 e λh=>
 cY H 30 3 5 h λk=>
 my 3 31 256 m λi=>
 cY H 33 3 5 i λj=>
 QV H 34 57 4 0 p 1 b 2 k 3 j λc t=>
 dC t 35 57 57 o c λl s=>
 fY 3 10 1 n λd=>
  bS env Tryz.f110 0 gm [(4,d),(3,l),(0,x0)] s Q)) (
 Q o H)
theorem pw(c b x0:AV)(H:aa)(Q:AV->aa->Prop)(h : ∀g,eP g c b x0 H Q):bS env Tryz.f110 0 gm [(4,c),(3,b),(0,x0)] H Q:=tG rm (by kernel_rfl) h
def s8:Prop:=
 wO 3 3 0 x0 λd=>
 gQ d true (bL x0) λk=>
 gQ d true (z8 3 6 1114111 k) λh=>
 cu d h λb=>
 gQ b true (bL x0) λj=>
 gQ b true (vE 3 10 55296 j) λm=>
 gQ b true (bL m) λf=>
 gQ f false (bL x0) λi=>
 gQ f false (Fg 3 13 57343 i) λl=>
 gQ b true (QN f l) λe=>
 cu b e λc=>
 Q c H
theorem As(h : ∀g:fZ,s8 x0 H Q):fL Tryz.f107 0 [(0,x0)] H Q:=md (by kernel_rfl) h
def lK:=sL Tryz.f108 3
def rk:Nat->Option (List Nat):=λi=>cond (Nat.beq i 3) (some [6,0,5,1]) (none)
def ng:Prop:=
 bS env Tryz.f108 0 lK [(6,(.v (.int .i64 0))),(0,x0),(5,(.v (.slice none 0 0))),(1,a)] H Q
theorem qT(h : ∀g:fZ,ng x0 a H Q):fL Tryz.f108 0 [(0,x0),(1,a)] H Q:=uC rk (by kernel_rfl) h
def bc(g:Nat->AV)(c x0 b a:AV)(H:aa)(Q:AV->aa->Prop):Prop:=
 eU 3 7 8 c a λi=>
 br (some i) (
 my 3 12 256 x0 λk=>
 cY H 14 3 5 k λf=>
 mw H 15 57 1 0 f λd h=>
 dC h 17 57 57 d b λj e=>
 rH 3 18 256 x0 λm=>
 fY 3 10 1 c λl=>
  bS env Tryz.f108 0 lK [(6,l),(0,m),(5,j),(1,a)] e Q) (
 Q b H)
theorem bn(b x0 c a:AV)(H:aa)(Q:AV->aa->Prop)(h : ∀g,bc g b x0 c a H Q):bS env Tryz.f108 0 lK [(6,b),(0,x0),(5,c),(1,a)] H Q:=tG rk (by kernel_rfl) h
def mZ:Prop:=
 dH H 2 43 x0 λi G=>
 dH G 3 43 a λj e=>
 ae 43 i 0 λK=>
 ad e 5 K λJ=>
 ae 43 j 0 λL=>
 ad e 5 L λI=>
 uU 5 6 8 J I λf=>
 gQ f true (aw 43 i 1) λE=>
 gQ f true (an e 3 E) λF=>
 gQ f true (aw 43 j 1) λz=>
 gQ f true (an e 3 z) λv=>
 gQ f true (k7 3 12 14 F v) λm=>
 cu f m λc=>
 gQ c true (aw 43 i 2) λB=>
 gQ c true (an e 36 B) λt=>
 gQ c true (aw 43 j 2) λA=>
 gQ c true (an e 36 A) λl=>
 gW c true e (fg true e 22 104 [t,l]) λu h=>
 cu c u λb=>
 gQ b true (aw 43 i 3) λo=>
 gQ b true (an h 37 o) λx=>
 gQ b true (aw 43 j 3) λw=>
 gQ b true (an h 37 w) λp=>
 gQ b true (k7 37 26 28 x p) λn=>
 cu b n λd=>
 gQ d true (aw 43 i 4) λs=>
 gQ d true (an h 41 s) λq=>
 gQ d true (aw 43 j 4) λD=>
 gQ d true (an h 41 D) λk=>
 gQ d true (k7 41 33 35 q k) λy=>
 cu d y λC=>
 Q C h
theorem Hk(h : ∀g:fZ,mZ x0 a H Q):fL Tryz.f70 0 [(0,x0),(1,a)] H Q:=md (by kernel_rfl) h
def uP:Prop:=
 dH H 1 43 x0 λi e=>
 ad e 43 i λl=>
 tQ 102 0 l λh=>
 aV true e 9 39 [h] λf d=>
 aQ f 0 λk=>
 aQ f 1 λo=>
 lA o λn=>
 br (some n) (
 Q (.tup [(.v (.int .i64 0)),(.v (.int .i64 8))]) d) (
 de d 15 57 k λj=>
 fY 3 15 119 j λm=>
 BT 3 16 1 m λc=>
 rH 3 17 119 c λb=>
 Q (.tup [b,(.v (.int .i64 0))]) d)
theorem FY(h : ∀g:fZ,uP x0 H Q):fL Tryz.f40 0 [(0,x0)] H Q:=md (by kernel_rfl) h
def cN:Prop:=
 dH H 1 102 x0 λc H1=>
 ae 102 c 0 λv2=>
 ae 43 v2 0 λv3=>
 ad H1 5 v3 λv4=>
 tQ 43 0 v4 λv5=>
 dV H1 4 43 λR H2=>
 aC H2 43 R v5 λv7 L=>
 ae 102 c 0 λv8=>
 ae 43 v8 0 λv9=>
 ad L 5 v9 λv10=>
 xT 5 12 v10 λv11=>
 br (some v11) (
 ae 102 c 0 λV=>
 ae 43 V 2 λD=>
 ae 36 D 1 λu=>
 ad L 29 u λs=>
 ae 102 c 0 λn=>
 ae 43 n 1 λh=>
 ad L 3 h λw=>
 ae 43 R 2 λi=>
 ae 36 i 1 λl=>
 aC L 29 l s λd S=>
 ae 43 R 1 λk=>
 aC S 3 k w λz q=>
  qJ [(h,l)] [l,k] [] q /\
 (ae 102 c 0 λo=>
 ae 43 o 2 λp=>
 ae 36 p 1 λj=>
 ad q 29 j λN=>
 aV true q 30 66 [N] λA B=>
 aQ A 0 λK=>
 aQ A 1 λJ=>
 ae 102 c 0 λO=>
 ae 43 O 1 λb=>
 ad B 3 b λM=>
 wO 3 35 0 M λf=>
 gQ f true (aw 102 c 0) λI=>
 gQ f true (aw 43 I 1) λF=>
 gQ f true (an B 3 F) λe=>
 gQ f true (z8 3 40 255 e) λv38=>
 cu f v38 λE=>
 ae 102 c 0 λU=>
 ae 43 U 1 λv41=>
 ad B 3 v41 λG=>
 cY B 47 3 5 G λZ=>
 mw B 48 57 1 0 Z λv44 m=>
 dC m 49 57 57 K v44 λY H8=>
 ae 102 c 0 λv46=>
 ae 43 v46 0 λv47=>
 ad H8 5 v47 λT=>
 mw H8 111 57 1 0 T λv49 H9=>
 dC H9 113 57 57 v49 Y λv50 x=>
 gQ E true (bL J) λW=>
 gQ E true (tS 37 116 0 W) λv52=>
 cu E v52 λt=>
 gQ t true (aw 102 c 0) λv54=>
 gQ t true (an x 43 v54) λX=>
 gQ t true (an x 43 R) λv56=>
 gW t true x (fg true x 123 70 [X,v56]) λv57 y=>
 cu t v57 λv58=>
 Q (.tup [v50,v58]) y)) (
 Gt 5 12 v10 λV=>
 br (some V) (
 ae 102 c 0 λD=>
 ae 43 D 2 λu=>
 ad L 36 u λs=>
 ae 102 c 0 λn=>
 ae 43 n 3 λh=>
 ad L 37 h λw=>
 ae 43 R 2 λi=>
 aC L 36 i s λl S=>
 ae 43 R 3 λd=>
 aC S 37 d w λk q=>
  qJ [(h,i)] [i,d] [] q /\
 (ae 102 c 0 λz=>
 ae 43 z 2 λo=>
 ad q 36 o λp=>
 aV true q 64 67 [p] λj B=>
 aQ j 0 λN=>
 aQ j 1 λA=>
 ae 102 c 0 λK=>
 ae 43 K 2 λJ=>
 ad B 36 J λO=>
 aV true B 70 68 [O] λb m=>
 gQ b true (aw 102 c 0) λM=>
 gQ b true (aw 43 M 3) λf=>
 gQ b true (an m 37 f) λI=>
 gQ b true (og 37 74 0 I) λF=>
 cu b F λe=>
 gQ e true (aw 102 c 0) λv38=>
 gQ e true (aw 43 v38 3) λE=>
 gQ e true (an m 37 E) λU=>
 gQ e true (vE 37 80 65536 U) λv41=>
 cu e v41 λG=>
 ae 102 c 0 λZ=>
 ae 43 Z 3 λv44=>
 ad m 37 v44 λY=>
 Uv 37 85 Y λv46=>
 cY m 87 37 5 v46 λv47=>
 ae 102 c 0 λT=>
 ae 43 T 3 λv49=>
 ad m 37 v49 λv50=>
 cY m 91 37 5 v50 λW=>
 iE (lb env.P false true m (Ref.mk 0 92 (aa.gen m 0 92) 0) 57 2 (some [(0,v47),(1,W)])) λv52 H8=>
 dC H8 94 57 57 v52 N λt H9=>
 ae 102 c 0 λv54=>
 ae 43 v54 0 λX=>
 ad H9 5 X λv56=>
 mw H9 111 57 1 0 v56 λv57 x=>
 dC x 113 57 57 v57 t λv58 y=>
 gQ G true (bL A) λv59=>
 gQ G true (tS 37 116 0 v59) λv60=>
 cu G v60 λC=>
 gQ C true (aw 102 c 0) λv62=>
 gQ C true (an y 43 v62) λv63=>
 gQ C true (an y 43 R) λv64=>
 gW C true y (fg true y 123 70 [v63,v64]) λv65 H12=>
 cu C v65 λv66=>
 Q (.tup [v58,v66]) H12)) (
 z7 5 12 v10 λD=>
 br (some D) (
 ae 102 c 0 λu=>
 ae 43 u 4 λs=>
 ad L 41 s λn=>
 ae 43 R 4 λh=>
 aC L 41 h n λw S=>
 ae 102 c 0 λi=>
 ae 43 i 4 λl=>
 ad S 41 l λd=>
 aV true S 105 69 [d] λk q=>
 aQ k 0 λz=>
 aQ k 1 λo=>
 ae 102 c 0 λp=>
 ae 43 p 0 λj=>
 ad q 5 j λN=>
 mw q 111 57 1 0 N λA B=>
 dC B 113 57 57 A z λK m=>
 gQ (.v (.bool true)) true (bL o) λJ=>
 gQ (.v (.bool true)) true (tS 37 116 0 J) λO=>
 dL (ue (some (AV.v (Value.bool true))) (some O) (some (AV.v (Value.bool false)))) λb=>
 gQ b true (aw 102 c 0) λM=>
 gQ b true (an m 43 M) λf=>
 gQ b true (an m 43 R) λI=>
 gW b true m (fg true m 123 70 [f,I]) λF H8=>
 cu b F λe=>
 Q (.tup [K,e]) H8) (
 ae 102 c 0 λu=>
 ae 43 u 0 λs=>
 ad L 5 s λn=>
 mw L 111 57 1 0 n λh S=>
 iE (dm env.P true S (Ref.mk 0 113 (aa.gen S 0 113) 0) (some 57) (some 57) h (.v (.slice none 0 0))) λw q=>
 gQ (.v (.bool false)) true (iL (some (AV.v (Value.int IntKind.i64 0)))) λi=>
 gQ (.v (.bool false)) true (tS 37 116 0 i) λl=>
 dL (ue (some (AV.v (Value.bool false))) (some l) (some (AV.v (Value.bool false)))) λd=>
 gQ d true (aw 102 c 0) λk=>
 gQ d true (an q 43 k) λz=>
 gQ d true (an q 43 R) λo=>
 gW d true q (fg true q 123 70 [z,o]) λp B=>
 cu d p λj=>
 Q (.tup [w,j]) B)))
theorem rF(h : ∀g:fZ,cN x0 H Q):fL Tryz.f39 0 [(0,x0)] H Q:=md (by kernel_rfl) h
def zZ:Prop:=
 dH H 1 41 x0 λt y=>
 ad y 41 t λC=>
 aV true y 9 103 [C] λz s=>
 gC 37 10 0 z λA=>
 br (some A) (
 Q (.tup [(.v (.slice none 0 0)),z]) s) (
 ae 41 t 1 λB=>
 ae 39 B 1 λE=>
 ad s 4 E λD=>
 br (some D) (
 ae 41 t 1 λu=>
 ae 39 u 0 λw=>
 ad s 27 w λk=>
 tQ 29 0 k λe=>
 aV true s 21 66 [e] λb d=>
 aQ b 0 λc=>
 aQ b 1 λp=>
 ae 41 t 0 λm=>
 ad d 3 m λo=>
 cY d 26 3 5 o λf=>
 iE (lb env.P true false d (Ref.mk 0 28 (aa.gen d 0 28) 0) 57 2 (some [(0,f),(1,(a8 1))])) λq n=>
 de n 31 57 c λh=>
 BT 3 31 1 h λl=>
 Ff n 57 c l λi=>
 dC n 34 57 57 q i λj x=>
 Q (.tup [j,p]) x) (
 ae 41 t 1 λu=>
 ae 39 u 0 λw=>
 ad s 27 w λk=>
 tQ 29 0 k λe=>
 aV true s 21 66 [e] λb d=>
 aQ b 0 λc=>
 aQ b 1 λp=>
 ae 41 t 0 λm=>
 ad d 3 m λo=>
 cY d 26 3 5 o λf=>
 iE (lb env.P true false d (Ref.mk 0 28 (aa.gen d 0 28) 0) 57 2 (some [(0,f),(1,(a8 0))])) λq n=>
 de n 31 57 c λh=>
 BT 3 31 1 h λl=>
 Ff n 57 c l λi=>
 dC n 34 57 57 q i λj x=>
 Q (.tup [j,p]) x))
theorem Ld(h : ∀g:fZ,zZ x0 H Q):fL Tryz.f69 0 [(0,x0)] H Q:=md (by kernel_rfl) h
def wB:Prop:=
 dH H 1 41 x0 λh i=>
 ae 41 h 1 λE=>
 ae 39 E 1 λC=>
 ad i 4 C λe=>
 gQ e false (aw 41 h 1) λD=>
 gQ e false (aw 39 D 0) λG=>
 gQ e false (an i 27 G) λF=>
 gW e false i (fg false i 11 125 []) λA f=>
 gQ e false (k7 27 10 11 F A) λB=>
 dh e B λo=>
 ae 41 h 0 λj=>
 ad f 3 j λn=>
 pU 3 15 0 n λc=>
 gQ c false (aw 41 h 0) λx=>
 gQ c false (an f 3 x) λt=>
 gQ c false (og 3 19 8 t) λw=>
 dh c w λb=>
 gQ b false (aw 41 h 1) λy=>
 gQ b false (aw 39 y 0) λk=>
 gQ b false (an f 27 k) λq=>
 gW b false f (fg true f 26 119 [q]) λl z=>
 gQ b false (wN 37 26 0 l) λm=>
 dh b m λd=>
 gQ d false (bL o) λp=>
 gQ d false (vD p) λs=>
 dh d s λu=>
 br (some u) (
 Q (.v (.int .i64 8)) z) (
 Q (.v (.int .i64 0)) z)
theorem Ho(h : ∀g:fZ,wB x0 H Q):fL Tryz.f103 0 [(0,x0)] H Q:=md (by kernel_rfl) h
end
section
variable(dep:Nat)(g:Nat->AV)(x0 b a:AV)(H:aa)(Q:AV->aa->Prop)
def JP:Code:=(Tryz.f22.body).getD .skip
def kz:List Item:=(lP 10008 400 [.code JP]).getD []
def bt:Code:=rfA kz
def bq:Code:=rfB kz
def uV:List Item:=rfK kz
def xF:Nat->Option (List Nat):=λi=>cond (Nat.beq i 10008) (some [34,6,10,5,4]) (none)
def Cr:Nat->Bool:=λi=>false
def tO:Prop:=
 dH H 3 43 x0 λx F=>
 dH F 4 3 b λy J=>
 dH J 5 3 a λz C=>
 dV C 6 79 λi B=>
 ad B 43 x λK=>
 tQ 102 0 K λI=>
 aV true B 17 39 [I] λA q=>
 aQ A 0 λD=>
 aQ A 1 λE=>
 lA E λw=>
 br (some w) (
 Mh q 79 i λh j=>
 aN j i 79 λc=>
 Q (.tup [c,(.v (.int .i64 8))]) j) (
 ad q 43 x λh=>
 aV true q 24 40 [h] λc j=>
 aQ c 0 λo=>
 aQ c 1 λM=>
 dV j 10 3 λe G=>
 aC G 3 e o λL k=>
 ad k 3 y λl=>
 ad k 3 z λs=>
 ad k 3 e λm=>
 dL (mI env.P 108 (some [(0,l),(1,s),(3,m)])) λp=>
 aV true k 31 41 [p] λu H9=>
 lA u λt=>
 br (some t) (
 Mh H9 79 i λf d=>
 aN d i 79 λn=>
 Q (.tup [n,(.v (.int .i64 2))]) d) (
 aV true H9 34 42 [D,(.v (.int .i64 119))] λf d=>
  bS env Tryz.f22 0 kz [(34,f),(6,i),(10,e),(5,z),(4,y)] d Q))
theorem Jo(h : ∀g:fZ,tO x0 b a H Q):fL Tryz.f22 0 [(0,x0),(1,b),(2,a)] H Q:=uC xF (by kernel_rfl) h
def uA(g:Nat->AV)(c:AV)(H:aa)(Q:AV->aa->Prop):Prop:=
 ad H 79 c λf=>
 aC H 79 c f λh d=>
 aN d c 79 λe=>
 Q (.tup [e,(.v (.int .i64 0))]) d
theorem AJ(c:AV)(H:aa)(Q:AV->aa->Prop)(h : ∀g,uA g c H Q):bS env Tryz.f22 0 uV [(6,c)] H Q:=⟨λg=>sQ (live:=xF) (cut:=Cr) (n:=500) (Eq.mp (by kernel_rfl) (h g))⟩
def kC(r:Ref)(g:Nat->AV)(f u G L p:AV)(H:aa)(Q:AV->aa->Prop):Prop:=
 bgP (yQ H r) λn=>
 dL (ow env.P (aa.get (aa.put H r (some (ei 1 n)))) 3 (some L)) λE=>
 iE (bm env false (ar env) (dg env 2) (aa.put H r (some (ei 1 n))) (⟨2,37,aa.gen (aa.put H r (some (ei 1 n))) 2 37,0⟩:Ref) (some (.fn (.func 44) [] [])) [E,(.v (.int .i64 4))]) λJ k=>
 ad k 3 G λI=>
 iE (bm env false (ar env) (dg env 2) k (⟨2,39,aa.gen k 2 39,0⟩:Ref) (some (.fn (.func 44) [] [])) [I,(.v (.int .i64 3))]) λM c=>
 ad c 79 f λF=>
 dL (cb env.P false (aa.get c) (⟨2,41,aa.gen c 2 41,0⟩:Ref) .len #[79] [F]) λK=>
 dL (bY env.P (aa.get c) (⟨2,42,aa.gen c 2 42,0⟩:Ref) 3 5 (some K)) λA=>
 ad c 3 u λC=>
 dL (bY env.P (aa.get c) (⟨2,44,aa.gen c 2 44,0⟩:Ref) 3 5 (some C)) λq=>
 iE (lb env.P true false c (⟨2,45,aa.gen c 2 45,0⟩:Ref) 57 2 (some [(0,A),(1,q)])) λo w=>
 iE (lb env.P true false w (⟨2,47,aa.gen w 2 47,0⟩:Ref) 79 4 (some [(0,J),(1,M),(2,o),(3,p)])) λj z=>
 iE (bm env false (ar env) (dg env 2) z (⟨2,48,aa.gen z 2 48,0⟩:Ref) (some (.fn (.func 43) [] [])) [j]) λe h=>
 ad h 79 f λt=>
 dL (cb env.P false (aa.get h) (⟨2,52,aa.gen h 2 52,0⟩:Ref) .len #[57] [e]) λl=>
 Q2 3 128 52 l λs=>
 iE (dm env.P true h (⟨2,54,aa.gen h 2 54,0⟩:Ref) (some 57) (some 3) e s) λd x=>
 iE (lb env.P true true x (⟨2,55,aa.gen x 2 55,0⟩:Ref) 79 1 (some [(0,d)])) λm y=>
 iE (dm env.P true y (⟨2,56,aa.gen y 2 56,0⟩:Ref) (some 79) (some 79) t m) λi D=>
 aC D 79 f i λB H9=>
  qJ [(f,e),(f,d)] [f] [d] H9 /\
 (Q (.v (.int .i64 0)) H9)
theorem BN(r:Ref)(f d e i c:AV)(H:aa)(Q:AV->aa->Prop)(h : ∀g,kC r g f d e i c H Q):X6 env Tryz.f22 (some r) 2 [.code bt,.beginRound,.code bq] [(6,f),(10,d),(5,e),(4,i),(35,c)] H Q:=⟨λg=>sQ (live:=xF) (cut:=Cr) (n:=500) (Eq.mp (by kernel_rfl) (h g))⟩
def lO:=sL Tryz.f61 8
def Cj:Nat->Option (List Nat):=λi=>cond (Nat.beq i 8) (some [29,5,27,2,3,0,28]) (none)
def tP:Prop:=
 dV H 2 43 λc x=>
 dV x 3 108 λe h=>
 de h 11 79 x0 λy=>
 vF 3 11 0 y λw=>
 br (some w) (
 ad h 43 c λp=>
 ad h 108 e λt=>
 aC h 43 c p λs l=>
 aC l 108 e t λu d=>
  qJ [(e,c)] [c,e] [] d /\
 (aN d c 43 λj=>
 aN d e 108 λi=>
 Q (.tup [j,i,(.v (.int .i64 8))]) d)) (
 eX h 79 x0 0 λp=>
 ad h 57 p λt=>
 aV true h 19 60 [t] λs l=>
 aQ s 0 λu=>
 aQ s 1 λj=>
 aC l 108 e u λi d=>
 gC 37 22 0 j λk=>
 br (some k) (
 ad d 43 c λf=>
 cS 108 λn=>
 aC d 43 c f λB z=>
 aC z 108 e n λA o=>
 aN o c 43 λq=>
 aN o e 108 λm=>
 Q (.tup [q,m,j]) o) (
 de d 28 79 x0 λf=>
  bS env Tryz.f61 0 lO [(29,(.v (.int .i64 0))),(5,(.v (.slice none 0 0))),(27,x0),(2,c),(3,e),(0,x0),(28,f)] d Q))
theorem Jp(h : ∀g:fZ,tP x0 H Q):fL Tryz.f61 0 [(0,x0)] H Q:=uC Cj (by kernel_rfl) h
def fa(g:Nat->AV)(l M p a c x0 s:AV)(H:aa)(Q:AV->aa->Prop):Prop:=
 eU 3 29 28 l s λR=>
 br (some R) (
 cH H 79 p l λJ=>
 ad H 57 J λu=>
 de H 36 57 u λq=>
 dL (cb env.P false (aa.get H) (Ref.mk 0 37 (aa.gen H 0 37) 0) .min #[3,3] [q,(.v (.int .i64 9))]) λw=>
 z6 H 57 u w λt=>
 dC H 39 57 57 M t λy n=>
 fY 3 29 1 l λm=>
  bS env Tryz.f61 0 lO [(29,m),(5,y),(27,p),(2,a),(3,c),(0,x0),(28,s)] n Q) (
 de H 42 57 M λJ=>
 pU 3 42 8 J λu=>
 br (some u) (
 ad H 43 a λq=>
 cS 108 λw=>
 aC H 43 a q λt n=>
 aC n 108 c w λy f=>
 aN f a 43 λm=>
 aN f c 108 λD=>
 Q (.tup [m,D,(.v (.int .i64 8))]) f) (
 aV true H 47 91 [M] λq n=>
 aC n 43 a q λw f=>
 ad f 43 a λt=>
 ae 108 c 0 λy=>
 ad f 3 y λm=>
 ae 108 c 1 λD=>
 ad f 3 D λL=>
 aV true f 54 22 [t,m,L] λo O=>
 aQ o 0 λB=>
 aQ o 1 λC=>
 gC 37 57 0 C λd=>
 gQ d false (bL B) λG=>
 gQ d false (bL x0) λN=>
 gW d false O (fg true O 62 92 [G,N,(.fn (.func 63) [] [])]) λz x=>
 gQ d false (vD z) λI=>
 dh d I λA=>
 br (some A) (
 cS 43 λi=>
 cS 108 λk=>
 aC x 43 a i λK F=>
 aC F 108 c k λE e=>
 aN e a 43 λh=>
 aN e c 108 λj=>
 Q (.tup [h,j,(.v (.int .i64 8))]) e) (
 ad x 43 a λi=>
 ad x 108 c λk=>
 aC x 43 a i λK F=>
 aC F 108 c k λE e=>
  qJ [(c,a)] [a,c] [] e /\
 (aN e a 43 λh=>
 aN e c 108 λj=>
 Q (.tup [h,j,(.v (.int .i64 0))]) e))))
theorem nR(e i c a f x0 d:AV)(H:aa)(Q:AV->aa->Prop)(h : ∀g,fa g e i c a f x0 d H Q):bS env Tryz.f61 0 lO [(29,e),(5,i),(27,c),(2,a),(3,f),(0,x0),(28,d)] H Q:=tG Cj (by kernel_rfl) h
def su:Prop:=
 dV H 2 108 λh k=>
 de k 6 57 x0 λG=>
 gC 3 6 128 G λD=>
 br (some D) (
 cS 108 λs=>
 aC k 108 h s λA i=>
 aN i h 108 λy=>
 Q (.tup [y,(.v (.int .i64 8))]) i) (
 dL (cr env.P (aa.get k) 57 (some x0) (some none) (oi (.v (.int .i64 4))) (some none)) λs=>
 aV false k 11 90 [s] λA i=>
 dL (cr env.P (aa.get i) 57 (some x0) (oi (.v (.int .i64 4))) (oi (.v (.int .i64 7))) (some none)) λy=>
 aV false i 14 90 [y] λI c=>
 eX c 57 x0 7 λB=>
 ad c 5 B λC=>
 cY c 18 5 3 C λq=>
 eX c 57 x0 8 λl=>
 ad c 5 l λp=>
 cY c 22 5 3 p λt=>
 dL (mI env.P 108 (some [(0,A),(1,I),(2,q),(3,t)])) λw=>
 dV c 4 108 λf E=>
 aC E 108 f w λF z=>
 ad z 108 f λm=>
 aV true z 25 41 [m] λx u=>
 lA x λn=>
 br (some n) (
 cS 108 λe=>
 aC u 108 h e λo j=>
 aN j h 108 λd=>
 Q (.tup [d,(.v (.int .i64 8))]) j) (
 ad u 108 f λe=>
 aC u 108 h e λo j=>
 aN j h 108 λd=>
 Q (.tup [d,(.v (.int .i64 0))]) j))
theorem Hl(h : ∀g:fZ,su x0 H Q):fL Tryz.f60 0 [(0,x0)] H Q:=md (by kernel_rfl) h
def Cv:Prop:=
 dH H 1 108 x0 λi d=>
 ae 108 i 0 λJ=>
 ad d 3 J λL=>
 wO 3 4 1 L λl=>
 gQ l true (aw 108 i 0) λM=>
 gQ l true (an d 3 M) λK=>
 gQ l true (vE 3 8 2147483648 K) λN=>
 cu l N λk=>
 gQ k true (aw 108 i 1) λI=>
 gQ k true (an d 3 I) λD=>
 gQ k true (og 3 13 1 D) λz=>
 cu k z λe=>
 gQ e true (aw 108 i 1) λq=>
 gQ e true (an d 3 q) λE=>
 gQ e true (vE 3 18 16777216 E) λx=>
 cu e x λj=>
 gQ j true (aw 108 i 3) λn=>
 gQ j true (an d 3 n) λy=>
 gQ j true (og 3 23 1 y) λo=>
 cu j o λh=>
 gQ h true (aw 108 i 3) λB=>
 gQ h true (an d 3 B) λA=>
 gQ h true (z8 3 28 4 A) λs=>
 cu h s λf=>
 gQ f true (aw 108 i 2) λv=>
 gQ f true (an d 3 v) λw=>
 gQ f true (og 3 33 0 w) λu=>
 cu f u λc=>
 gQ c true (aw 108 i 2) λm=>
 gQ c true (an d 3 m) λC=>
 gQ c true (aw 108 i 3) λF=>
 gQ c true (an d 3 F) λp=>
 gQ c true (QO 3 38 40 C p) λt=>
 cu c t λG=>
 Q G d
theorem Jn(h : ∀g:fZ,Cv x0 H Q):fL Tryz.f41 0 [(0,x0)] H Q:=md (by kernel_rfl) h
def qI:=sL Tryz.f44 2
def yP:Nat->Option (List Nat):=λi=>cond (Nat.beq i 2) (some [5,0,4]) (none)
def tE:Prop:=
 BT 3 6 1 b λc=>
  bS env Tryz.f44 0 qI [(5,c),(0,x0),(4,(.v (.slice none 0 0)))] H Q
theorem ye(h : ∀g:fZ,tE x0 b H Q):fL Tryz.f44 0 [(0,x0),(1,b)] H Q:=uC yP (by kernel_rfl) h
def dX(g:Nat->AV)(c x0 d:AV)(H:aa)(Q:AV->aa->Prop):Prop:=
 wO 3 8 0 c λj=>
 br (some j) (
 pn 3 8 14 c λl=>
 QQ 3 13 15 x0 l λh=>
 cY H 17 3 5 h λe=>
 mw H 18 57 1 0 e λk i=>
 dC i 19 57 57 d k λn f=>
 BT 3 10 1 c λm=>
  bS env Tryz.f44 0 qI [(5,m),(0,x0),(4,n)] f Q) (
 Q d H)
theorem eQ(d x0 c:AV)(H:aa)(Q:AV->aa->Prop)(h : ∀g,dX g d x0 c H Q):bS env Tryz.f44 0 qI [(5,d),(0,x0),(4,c)] H Q:=tG yP (by kernel_rfl) h
def nW:Prop:=
 dV H 2 43 λc C=>
 eX C 57 x0 0 λI=>
 ad C 5 I λG=>
 ae 43 c 0 λE=>
 aC C 5 E G λK k=>
 dL (cr env.P (aa.get k) 57 (some x0) (oi (.v (.int .i64 1))) (some none) (some none)) λy=>
 ae 43 c 0 λJ=>
 ad k 5 J λA=>
 xT 5 10 A λF=>
 br (some F) (
 dL (cr env.P (aa.get k) 57 (some y) (some none) (oi (.v (.int .i64 6))) (some none)) λt=>
 aV true k 16 111 [t] λe p=>
 aQ e 0 λd=>
 aQ e 1 λf=>
 ae 43 c 2 λi=>
 ae 36 i 1 λn=>
 aC p 29 n d λh l=>
 eX l 57 y 6 λm=>
 ad l 5 m λo=>
 cY l 24 5 3 o λq=>
 ae 43 c 1 λj=>
 aC l 3 j q λz w=>
 ad w 43 c λs=>
 aC w 43 c s λB x=>
 aN x c 43 λu=>
 Q u x) (
 Gt 5 10 A λt=>
 br (some t) (
 dL (cr env.P (aa.get k) 57 (some y) (some none) (oi (.v (.int .i64 2))) (some none)) λe=>
 aV true k 30 90 [e] λd p=>
 ae 43 c 3 λf=>
 aC p 37 f d λi l=>
 dL (cr env.P (aa.get l) 57 (some y) (oi (.v (.int .i64 2))) (some none) (some none)) λn=>
 aV true l 35 112 [n] λh w=>
 aQ h 0 λm=>
 aQ h 1 λo=>
 aQ h 2 λq=>
 ae 43 c 2 λj=>
 aC w 36 j m λz x=>
 ad x 43 c λs=>
 aC x 43 c s λB D=>
 aN D c 43 λu=>
 Q u D) (
 z7 5 10 A λe=>
 br (some e) (
 dL (cr env.P (aa.get k) 57 (some y) (some none) (oi (.v (.int .i64 7))) (some none)) λd=>
 aV true k 45 113 [d] λf p=>
 aQ f 0 λi=>
 aQ f 1 λn=>
 ae 43 c 4 λh=>
 aC p 41 h i λm l=>
 ad l 43 c λo=>
 aC l 43 c o λq w=>
 aN w c 43 λj=>
 Q j w) (
 ad k 43 c λd=>
 aC k 43 c d λf p=>
 aN p c 43 λi=>
 Q i p)))
theorem FX(h : ∀g:fZ,nW x0 H Q):fL Tryz.f91 0 [(0,x0)] H Q:=md (by kernel_rfl) h
def bN:=sL Tryz.f92 4
def fw:Nat->Option (List Nat):=λi=>cond (Nat.beq i 4) (some [17,2,1,15,16]) (none)
def du:Prop:=
 de H 11 79 x0 λe=>
 de H 13 79 b λf=>
 Av 3 11 13 e f λc=>
 br (some c) (
 Q (.v (.bool false)) H) (
 de H 16 79 x0 λd=>
  bS env Tryz.f92 0 bN [(17,(.v (.int .i64 0))),(2,a),(1,b),(15,x0),(16,d)] H Q)
theorem kF(h : ∀g:fZ,du x0 b a H Q):fL Tryz.f92 0 [(0,x0),(1,b),(2,a)] H Q:=uC fw (by kernel_rfl) h
def bP(g:Nat->AV)(c a b d e:AV)(H:aa)(Q:AV->aa->Prop):Prop:=
 eU 3 17 16 c e λk=>
 br (some k) (
 cH H 79 d c λm=>
 ad H 57 m λj=>
 cH H 79 b c λi=>
 ad H 57 i λl=>
 iE (bm env true (ar env) (dg env 0) H (Ref.mk 0 29 (aa.gen H 0 29) 0) (some a) [j,l]) λo f=>
 lA o λn=>
 br (some n) (
 Q (.v (.bool false)) f) (
 fY 3 17 1 c λh=>
  bS env Tryz.f92 0 bN [(17,h),(2,a),(1,b),(15,d),(16,e)] f Q)) (
 Q (.v (.bool true)) H)
theorem cZ(c a b e d:AV)(H:aa)(Q:AV->aa->Prop)(h : ∀g,bP g c a b e d H Q):bS env Tryz.f92 0 bN [(17,c),(2,a),(1,b),(15,e),(16,d)] H Q:=tG fw (by kernel_rfl) h
def o9:=sL Tryz.f90 2
def AT:Nat->Option (List Nat):=λi=>cond (Nat.beq i 2) (some [7,2,5,6]) (none)
def Bk:Prop:=
 de H 6 57 x0 λc=>
  bS env Tryz.f90 0 o9 [(7,(.v (.int .i64 0))),(2,(.v (.int .i64 0))),(5,x0),(6,c)] H Q
theorem Hj(h : ∀g:fZ,Bk x0 H Q):fL Tryz.f90 0 [(0,x0)] H Q:=uC AT (by kernel_rfl) h
def tD(g:Nat->AV)(c a d e:AV)(H:aa)(Q:AV->aa->Prop):Prop:=
 eU 3 7 6 c e λi=>
 br (some i) (
 cH H 57 d c λk=>
 ad H 5 k λh=>
 JU 3 11 a λf=>
 cY H 14 5 3 h λj=>
 C8 3 12 14 f j λm=>
 fY 3 7 1 c λl=>
  bS env Tryz.f90 0 o9 [(7,l),(2,m),(5,d),(6,e)] H Q) (
 Q a H)
theorem yd(e a d c:AV)(H:aa)(Q:AV->aa->Prop)(h : ∀g,tD g e a d c H Q):bS env Tryz.f90 0 o9 [(7,e),(2,a),(5,d),(6,c)] H Q:=tG AT (by kernel_rfl) h
def vm:Prop:=
 dV H 2 41 λl k=>
 de k 8 57 x0 λT=>
 gC 3 8 7 T λp=>
 gQ p false (bL x0) λV=>
 gQ p false (bH env.P (aa.get k) 57 (some V) (some (AV.v (Value.int IntKind.i64 1)))) λW=>
 gQ p false (an k 5 W) λU=>
 gQ p false (bC env.P .gtr 5 (Operand.tmp 13) (.const (.int .u8 1)) (some U) (some (a8 1))) λZ=>
 dh p Z λO=>
 br (some O) (
 cS 41 λz=>
 aC k 41 l z λo q=>
 aN q l 41 λi=>
 Q (.tup [i,(.v (.int .i64 8))]) q) (
 dL (cr env.P (aa.get k) 57 (some x0) (oi (.v (.int .i64 2))) (oi (.v (.int .i64 7))) (oi (.v (.int .i64 7)))) λz=>
 QT k 20 57 1 λo q=>
 dC q 21 57 57 z o λi N=>
 aV true N 22 111 [i] λm X=>
 aQ m 0 λx=>
 aQ m 1 λL=>
 dV X 4 29 λn R=>
 aC R 29 n x λY e=>
 eX e 57 x0 0 λs=>
 ad e 5 s λF=>
 cY e 28 5 3 F λt=>
 ae 29 n 0 λy=>
 ad e 27 y λJ=>
 eX e 57 x0 1 λI=>
 ad e 5 I λA=>
 xT 5 33 A λu=>
 qN 39 0 J 1 u λD=>
 qN 41 0 t 1 D λE=>
 dV e 6 41 λf S=>
 aC S 41 f E λv28 B=>
 gC 37 37 0 L λd=>
 gQ d false (an B 41 f) λK=>
 gW d false B (fg true B 41 103 [K]) λM H9=>
 gQ d false (wN 37 41 0 M) λw=>
 dh d w λC=>
 br (some C) (
 cS 41 λj=>
 aC H9 41 l j λG c=>
 aN c l 41 λh=>
 Q (.tup [h,(.v (.int .i64 8))]) c) (
 ad H9 41 f λj=>
 aC H9 41 l j λG c=>
 aN c l 41 λh=>
 Q (.tup [h,(.v (.int .i64 0))]) c))
theorem zl(h : ∀g:fZ,vm x0 H Q):fL Tryz.f113 0 [(0,x0)] H Q:=md (by kernel_rfl) h
end
section
variable(dep:Nat)(g:Nat->AV)(x0 a b c d:AV)(H:aa)(Q:AV->aa->Prop)
def pa:=sL Tryz.f7 14
def Ck:Nat->Option (List Nat):=λi=>cond (Nat.beq i 14) (some [10,70,2,1,68,15,69]) (none)
def iJ:Prop:=
 dH H 5 24 x0 λC Z=>
 dH Z 9 43 d λv2 H2=>
 dV H2 10 24 λe W=>
 ad W 24 C λv4=>
 aV true W 19 20 [v4] λY O=>
 gC 37 20 0 Y λv6=>
 br (some v6) (
 cS 24 λU=>
 aC O 24 e U λX w=>
 aN w e 24 λs=>
 Q (.tup [s,(.v (.int .i64 0)),Y]) w) (
 ae 24 C 1 λU=>
 ad O 3 U λX=>
 wO 3 25 1 X λs=>
 gQ s true (bL c) λN=>
 gQ s true (og 3 28 1 N) λL=>
 cu s L λj=>
 gQ j true (bL c) λF=>
 gQ j true (vE 3 32 16777216 F) λS=>
 cu j S λJ=>
 aV true O 36 21 [a,(.v (.int .i64 2))] λR w=>
 lA R λh=>
 gQ h false (bL b) λK=>
 gW h false w (fg true w 40 21 [K,(.v (.int .i64 2048))]) λD B=>
 gQ h false (vD D) λG=>
 dh h G λp=>
 gQ p false (bL J) λM=>
 gQ p false (vD M) λI=>
 dh p I λE=>
 br (some E) (
 cS 24 λn=>
 aC B 24 e n λx i=>
 aN i e 24 λm=>
 Q (.tup [m,(.v (.int .i64 0)),(.v (.int .i64 2))]) i) (
 ad B 43 v2 λn=>
 ae 24 C 1 λx=>
 ad B 3 x λm=>
 aV true B 53 22 [n,m,c] λA i=>
 aQ A 0 λf=>
 aQ A 1 λz=>
 gC 37 56 0 z λT=>
 br (some T) (
 cS 24 λk=>
 aC i 24 e k λt l=>
 aN l e 24 λq=>
 Q (.tup [q,(.v (.int .i64 0)),z]) l) (
 de i 62 79 f λk=>
 fQ 3 60 62 b k λt=>
 sN 3 63 2048 t λq=>
 br (some q) (
 cS 24 λo=>
 aC i 24 e o λu l=>
 aN l e 24 λy=>
 Q (.tup [y,(.v (.int .i64 0)),(.v (.int .i64 9))]) l) (
 ad i 24 C λo=>
 aV true i 67 23 [o] λu l=>
 aC l 24 e u λy H9=>
 dL (
  cb env.P false (aa.get H9) (Ref.mk 0 69 (aa.gen H9 0 69) 0) .len #[79] [f]) λV=>
  bS env Tryz.f7 0 pa [(10,e),(70,(.v (.int .i64 0))),(2,b),(1,a),(68,f),(15,f),(69,V)] H9 Q))))
theorem Jw(h : ∀g:fZ,iJ x0 a b c d H Q):fL Tryz.f7 0 [(0,x0),(1,a),(2,b),(3,c),(4,d)] H Q:=uC Ck (by kernel_rfl) h
def ig(g:Nat->AV)(e f b a i k l:AV)(H:aa)(Q:AV->aa->Prop):Prop:=
 eU 3 70 69 f l λA=>
 br (some A) (
 cH H 79 i f λp=>
 ad H 57 p λt=>
 ad H 24 e λs=>
 Gu 3 77 2048 a λy=>
 fQ 3 78 79 y b λq=>
 fQ 3 80 81 q f λD=>
 aV true H 84 24 [s,D,t] λw m=>
 aQ w 0 λz=>
 aQ w 1 λj=>
 aC m 24 e z λB x=>
 gC 37 87 0 j λn=>
 br (some n) (
 cS 24 λh=>
 aC x 24 e h λC u=>
 aN u e 24 λo=>
 Q (.tup [o,(.v (.int .i64 0)),j]) u) (
 fY 3 70 1 f λh=>
  bS env Tryz.f7 0 pa [(10,e),(70,h),(2,b),(1,a),(68,i),(15,k),(69,l)] x Q)) (
 ad H 24 e λp=>
 de H 95 79 k λt=>
 fQ 3 93 95 b t λs=>
 aC H 24 e p λy m=>
 aN m e 24 λq=>
 Q (.tup [q,s,(.v (.int .i64 0))]) m)
theorem jA(k i b a f e j:AV)(H:aa)(Q:AV->aa->Prop)(h : ∀g,ig g k i b a f e j H Q):bS env Tryz.f7 0 pa [(10,k),(70,i),(2,b),(1,a),(68,f),(15,e),(69,j)] H Q:=tG Ck (by kernel_rfl) h
def tI:=sL Tryz.f9 6
def FC:Nat->Option (List Nat):=λi=>cond (Nat.beq i 6) (some [9,8,2,1,4,3]) (none)
def FT:Prop:=
 dH H 4 24 x0 λq n=>
 ad n 24 q λy=>
 aV true n 15 20 [y] λo m=>
 gC 37 16 0 o λu=>
 br (some u) (
 Q (.tup [(.v (.slice none 0 0)),(.v (.int .i64 0)),o]) m) (
 aV true m 20 21 [a,(.v (.int .i64 2))] λx l=>
 lA x λf=>
 gQ f false (bL b) λz=>
 gW f false l (fg true l 24 21 [z,(.v (.int .i64 16777215))]) λt s=>
 gQ f false (vD t) λw=>
 dh f w λe=>
 gQ e false (bL c) λh=>
 gW e false s (fg true s 29 21 [h,(.v (.int .i64 16777215))]) λi p=>
 gQ e false (vD i) λj=>
 dh e j λk=>
 br (some k) (
 Q (
  .tup [(.v (.slice none 0 0)),(.v (.int .i64 0)),(.v (.int .i64 2))]) p) (
  bS env Tryz.f9 0 tI [(9,(.v (.int .i64 0))),(8,(.v (.slice none 0 0))),(2,b),(1,a),(4,q),(3,c)] p Q))
theorem MC(h : ∀g:fZ,FT x0 a b c H Q):fL Tryz.f9 0 [(0,x0),(1,a),(2,b),(3,c)] H Q:=uC FC (by kernel_rfl) h
def jR(g:Nat->AV)(h e b a d c:AV)(H:aa)(Q:AV->aa->Prop):Prop:=
 de H 33 50 e λu=>
 eU 3 33 34 u c λw=>
 br (some w) (
 ad H 24 d λB=>
 de H 42 50 e λz=>
 fQ 3 40 42 b z λC=>
 fY 3 43 1 C λx=>
 aV true H 45 29 [B,a,h,x] λp s=>
 aQ p 0 λq=>
 aQ p 1 λo=>
 dV s 12 43 λf A=>
 aC A 43 f q λy i=>
 vF 3 48 0 o λj=>
 br (some j) (
 Q (.tup [e,h,(.v (.int .i64 0))]) i) (
 ad i 43 f λk=>
 mw i 52 50 1 0 k λn D=>
 dC D 53 50 50 e n λl t=>
 fQ 3 54 55 h o λm=>
  bS env Tryz.f9 0 tI [(9,m),(8,l),(2,b),(1,a),(4,d),(3,c)] t Q)) (
 Q (.tup [e,h,(.v (.int .i64 0))]) H)
theorem Jv(f e b a d c:AV)(H:aa)(Q:AV->aa->Prop)(h : ∀g,jR g f e b a d c H Q):bS env Tryz.f9 0 tI [(9,f),(8,e),(2,b),(1,a),(4,d),(3,c)] H Q:=tG FC (by kernel_rfl) h
def FR:Prop:=
 wO 3 5 0 x0 λe=>
 gQ e true (bL x0) λj=>
 gQ e true (bL a) λf=>
 gQ e true (OF 3 8 9 j f) λi=>
 cu e i λh=>
 Q h H
theorem MB(h : ∀g:fZ,FR x0 a H Q):fL Tryz.f21 0 [(0,x0),(1,a)] H Q:=md (by kernel_rfl) h
def sd:=sL Tryz.f29 9
def DL:Nat->Option (List Nat):=λi=>cond (Nat.beq i 9) (some [53,14,2,1,4,8,12,52]) (none)
def pj:Prop:=
 dH H 4 24 x0 λG M=>
 dV M 8 43 λj o=>
 wO 3 18 2048 b λO=>
 br (some O) (
 ad o 43 j λE=>
 aC o 43 j E λJ n=>
 aN n j 43 λA=>
 Q (.tup [A,(.v (.int .i64 0))]) n) (
 ad o 24 G λE=>
 Gu 3 23 2048 a λJ=>
 fQ 3 24 25 J b λA=>
 aV true o 27 59 [E,A] λK n=>
 aQ K 0 λL=>
 aQ K 1 λS=>
 aV true n 32 60 [L] λl P=>
 aQ l 0 λB=>
 aQ l 1 λt=>
 dV P 12 108 λf N=>
 aC N 108 f B λR k=>
 gC 37 35 0 t λh=>
 gQ h false (aw 108 f 1) λF=>
 gQ h false (an k 3 F) λq=>
 gQ h false (bL c) λz=>
 gQ h false (BR 3 39 40 q z) λs=>
 dh h s λe=>
 gQ e false (bL b) λD=>
 gQ e false (aw 108 f 3) λC=>
 gQ e false (an k 3 C) λw=>
 gQ e false (OG 3 44 46 D w) λu=>
 gQ e false (Fg 3 47 2048 u) λx=>
 dh e x λy=>
 br (some y) (
 ad k 43 j λi=>
 aC k 43 j i λm I=>
 aN I j 43 λp=>
 Q (.tup [p,(.v (.int .i64 0))]) I) (
 ae 108 f 3 λi=>
 ad k 3 i λm=>
  bS env Tryz.f29 0 sd [(53,(.v (.int .i64 0))),(14,(.v (.slice none 0 0))),(2,b),(1,a),(4,G),(8,j),(12,f),(52,m)] k Q))
theorem La(h : ∀g:fZ,pj x0 a b c H Q):fL Tryz.f29 0 [(0,x0),(1,a),(2,b),(3,c)] H Q:=uC DL (by kernel_rfl) h
def m8(g:Nat->AV)(i m b a d f o n:AV)(H:aa)(Q:AV->aa->Prop):Prop:=
 eU 3 53 52 i n λA=>
 br (some A) (
 ad H 24 d λp=>
 Gu 3 58 2048 a λt=>
 fQ 3 59 60 t b λz=>
 fQ 3 61 62 z i λw=>
 aV true H 64 59 [p,w] λy u=>
 aQ y 0 λx=>
 aQ y 1 λq=>
 mw u 69 79 1 0 x λl j=>
 dC j 70 79 79 m l λe h=>
 fY 3 53 1 i λk=>
  bS env Tryz.f29 0 sd [(53,k),(14,e),(2,b),(1,a),(4,d),(8,f),(12,o),(52,n)] h Q) (
 aV true H 74 61 [m] λp u=>
 aQ p 0 λt=>
 aQ p 1 λz=>
 aQ p 2 λw=>
 aC u 43 f t λy j=>
 gC 37 78 0 w λx=>
 br (some x) (
 cS 43 λq=>
 aC j 43 f q λl h=>
 aN h f 43 λe=>
 Q (.tup [e,(.v (.int .i64 0))]) h) (
 ad j 43 f λq=>
 ae 108 o 3 λl=>
 ad j 3 l λe=>
 aC j 43 f q λk h=>
  qJ [(l,f)] [f] [] h /\
 (aN h f 43 λs=>
 Q (.tup [s,e]) h)))
theorem AK(e f b a d k j i:AV)(H:aa)(Q:AV->aa->Prop)(h : ∀g,m8 g e f b a d k j i H Q):bS env Tryz.f29 0 sd [(53,e),(14,f),(2,b),(1,a),(4,d),(8,k),(12,j),(52,i)] H Q:=tG DL (by kernel_rfl) h
def yZ:Code:=(Tryz.f13.body).getD .skip
def jm:=sL Tryz.f13 2
def rg:Nat->Option (List Nat):=λi=>cond (Nat.beq i 2) (some [5,0,1]) (none)
def zb:Prop:=
 bS env Tryz.f13 0 jm [(5,(.v (.int .i64 0))),(0,x0),(1,a)] H Q
theorem yi(h : ∀g:fZ,zb x0 a H Q):fL Tryz.f13 0 [(0,x0),(1,a)] H Q:=uC rg (by kernel_rfl) h
def gq(g:Nat->AV)(e x0 a:AV)(H:aa)(Q:AV->aa->Prop):Prop:=
 de H 8 50 x0 λq=>
 eU 3 6 8 e q λj=>
 gQ j true (bL e) λp=>
 gQ j true (vE 3 11 200 p) λn=>
 cu j n λs=>
 br (some s) (
 cH H 50 x0 e λl=>
 ae 43 l 2 λk=>
 ae 36 k 6 λm=>
 ad H 34 m λo=>
 de H 22 34 o λi=>
 sN 3 22 200 i λf=>
 br (some f) (
 Q (.v (.bool true)) H) (
 fY 3 14 1 e λh=>
  bS env Tryz.f13 0 jm [(5,h),(0,x0),(1,a)] H Q)) (
 de H 25 50 x0 λl=>
 JS 3 25 26 l a λk=>
 Q k H)
theorem pr(e x0 a:AV)(H:aa)(Q:AV->aa->Prop)(h : ∀g,gq g e x0 a H Q):bS env Tryz.f13 0 jm [(5,e),(0,x0),(1,a)] H Q:=tG rg (by kernel_rfl) h
def gN:=sL Tryz.f12 4
def oM:Nat->Option (List Nat):=λi=>cond (Nat.beq i 4) (some [5,1,0]) (none)
def lj:Prop:=
 de H 7 50 x0 λf=>
 de H 9 50 a λh=>
 Av 3 7 9 f h λe=>
 br (some e) (
 Q (.v (.bool false)) H) (
  bS env Tryz.f12 0 gN [(5,(.v (.int .i64 0))),(1,a),(0,x0)] H Q)
theorem vL(h : ∀g:fZ,lj x0 a H Q):fL Tryz.f12 0 [(0,x0),(1,a)] H Q:=uC oM (by kernel_rfl) h
def gO(g:Nat->AV)(e a x0:AV)(H:aa)(Q:AV->aa->Prop):Prop:=
 de H 13 50 x0 λl=>
 eU 3 11 13 e l λn=>
 br (some n) (
 cH H 50 x0 e λk=>
 ad H 43 k λi=>
 cH H 50 a e λm=>
 ad H 43 m λp=>
 aV false H 25 31 [i,p] λo f=>
 lA o λh=>
 br (some h) (
 Q (.v (.bool false)) f) (
 fY 3 15 1 e λj=>
  bS env Tryz.f12 0 gN [(5,j),(1,a),(0,x0)] f Q)) (
 Q (.v (.bool true)) H)
theorem nS(e a x0:AV)(H:aa)(Q:AV->aa->Prop)(h : ∀g,gO g e a x0 H Q):bS env Tryz.f12 0 gN [(5,e),(1,a),(0,x0)] H Q:=tG oM (by kernel_rfl) h
def fJ:Prop:=
 dH H 2 43 x0 λl K=>
 dH K 3 43 a λm i=>
 ae 43 l 0 λN=>
 ad i 5 N λM=>
 ae 43 m 0 λO=>
 ad i 5 O λL=>
 uU 5 6 8 M L λj=>
 gQ j true (aw 43 l 1) λI=>
 gQ j true (an i 3 I) λJ=>
 gQ j true (aw 43 m 1) λC=>
 gQ j true (an i 3 C) λy=>
 gQ j true (k7 3 12 14 J y) λp=>
 cu j p λf=>
 gQ f true (aw 43 l 2) λE=>
 gQ f true (an i 36 E) λw=>
 gQ f true (aw 43 m 2) λD=>
 gQ f true (an i 36 D) λo=>
 gW f true i (fg true i 22 54 [w,o]) λx k=>
 cu f x λe=>
 gQ e true (aw 43 l 3) λs=>
 gQ e true (an k 37 s) λA=>
 gQ e true (aw 43 m 3) λz=>
 gQ e true (an k 37 z) λt=>
 gQ e true (k7 37 26 28 A t) λq=>
 cu e q λh=>
 gQ h true (aw 43 l 4) λv=>
 gQ h true (an k 41 v) λu=>
 gQ h true (aw 43 m 4) λG=>
 gQ h true (an k 41 G) λn=>
 gQ h true (k7 41 33 35 u n) λB=>
 cu h B λF=>
 Q F k
theorem yq(h : ∀g:fZ,fJ x0 a H Q):fL Tryz.f31 0 [(0,x0),(1,a)] H Q:=md (by kernel_rfl) h
end
section
variable(dep:Nat)(g:Nat->AV)(x0 a:AV)(H:aa)(Q:AV->aa->Prop)
def tN:Prop:=
 dH H 1 24 x0 λE M=>
 dV M 3 63 λh I=>
 ad I 24 E λN=>
 aV true I 11 14 [N] λG J=>
 aQ G 0 λO=>
 aQ G 1 λF=>
 dV J 5 63 λo R=>
 aC R 63 o O λS q=>
 gC 37 14 0 F λL=>
 br (some L) (
 ad q 63 o λn=>
 aC q 63 h n λs e=>
 aN e h 63 λj=>
 Q (.tup [(.v (.slice none 0 0)),j,F]) e) (
 ad q 24 E λn=>
 ae 63 o 0 λs=>
 ad q 3 s λj=>
 my 3 21 2 j λu=>
 C9 3 1 22 u λD=>
 ae 63 o 1 λA=>
 ad q 3 A λC=>
 aV true q 26 9 [n,D,(.v (.int .i64 0)),C] λi e=>
 aQ i 0 λl=>
 aQ i 1 λK=>
 aQ i 2 λk=>
 vF 37 30 0 k λd=>
 gQ d true (bL l) λB=>
 gQ d true (BS e 34 50 B) λw=>
 gQ d true (aw 63 o 1) λt=>
 gQ d true (an e 3 t) λy=>
 gQ d true (BR 3 34 36 w y) λz=>
 cu d z λx=>
 br (some x) (
 dL (bC env.P .neq 37 (Operand.tmp 39) (Operand.const (Value.int IntKind.i64 0)) (some (AV.v (Value.int IntKind.i64 8))) (some (AV.v (Value.int IntKind.i64 0)))) λp=>
 br (some p) (
 cS 63 λb=>
 aC e 63 h b λm f=>
 aN f h 63 λc=>
 Q (.tup [(.v (.slice none 0 0)),c,(.v (.int .i64 8))]) f) (
 ad e 63 o λb=>
 aC e 63 h b λm f=>
 aN f h 63 λc=>
 Q (.tup [l,c,(.v (.int .i64 0))]) f)) (
 gC 37 39 0 k λp=>
 br (some p) (
 cS 63 λb=>
 aC e 63 h b λm f=>
 aN f h 63 λc=>
 Q (.tup [(.v (.slice none 0 0)),c,k]) f) (
 ad e 63 o λb=>
 aC e 63 h b λm f=>
 aN f h 63 λc=>
 Q (.tup [l,c,(.v (.int .i64 0))]) f)))
theorem Jm(h : ∀g:fZ,tN x0 H Q):fL Tryz.f16 0 [(0,x0)] H Q:=md (by kernel_rfl) h
def ph:Prop:=
 dH H 1 24 x0 λs F=>
 dV F 2 63 λh A=>
 ad A 24 s λG=>
 aV true A 7 20 [G] λz k=>
 gC 37 8 0 z λJ=>
 br (some J) (
 cS 63 λy=>
 aC k 63 h y λB j=>
 aN j h 63 λo=>
 Q (.tup [o,z]) j) (
 ad k 24 s λy=>
 aV false k 13 32 [y,(.v (.int .i64 0))] λB j=>
 ad j 24 s λo=>
 aV false j 15 32 [o,(.v (.int .i64 1))] λE I=>
 qN 92 0 B 1 E λp=>
 dV I 5 92 λb D=>
 aC D 92 b p λC c=>
 eX c 92 b 0 λq=>
 ae 63 q 0 λw=>
 ad c 3 w λt=>
 eX c 92 b 1 λu=>
 ae 63 u 0 λl=>
 ad c 3 l λx=>
 JS 3 19 22 t x λm=>
 br (some m) (
 eX c 92 b 0 λe=>
 ad c 63 e λd=>
 aC c 63 h d λn i=>
 aN i h 63 λf=>
 Q (.tup [f,(.v (.int .i64 0))]) i) (
 eX c 92 b 1 λe=>
 ad c 63 e λd=>
 aC c 63 h d λn i=>
 aN i h 63 λf=>
 Q (.tup [f,(.v (.int .i64 0))]) i))
theorem Ez(h : ∀g:fZ,ph x0 H Q):fL Tryz.f14 0 [(0,x0)] H Q:=md (by kernel_rfl) h
def o7:=sL Tryz.f35 5
def AS:Nat->Option (List Nat):=λi=>cond (Nat.beq i 5) (some [13,3,11,12]) (none)
def wy:Prop:=
 de H 9 50 x0 λc=>
 sN 3 9 2048 c λd=>
 br (some d) (
 Q (.v (.int .i64 4)) H) (
 de H 12 50 x0 λb=>
  bS env Tryz.f35 0 o7 [(13,(.v (.int .i64 0))),(3,(.v (.int .i64 0))),(11,x0),(12,b)] H Q)
theorem Hg(h : ∀g:fZ,wy x0 H Q):fL Tryz.f35 0 [(0,x0)] H Q:=uC AS (by kernel_rfl) h
def mW(g:Nat->AV)(b k d c:AV)(H:aa)(Q:AV->aa->Prop):Prop:=
 eU 3 13 12 b c λt=>
 br (some t) (
 cH H 50 d b λi=>
 ad H 43 i λq=>
 dV H 5 43 λl s=>
 aC s 43 l q λw n=>
 ad n 43 l λu=>
 aV true n 19 40 [u] λo j=>
 aQ o 0 λp=>
 aQ o 1 λm=>
 gC 37 22 0 m λh=>
 br (some h) (
 Q m j) (
 fQ 3 25 26 k p λe=>
 fY 3 13 1 b λf=>
  bS env Tryz.f35 0 o7 [(13,f),(3,e),(11,d),(12,c)] j Q)) (
 sN 3 29 2048 k λi=>
 br (some i) (
 Q (.v (.int .i64 9)) H) (
 Q (.v (.int .i64 0)) H))
theorem td(b e d c:AV)(H:aa)(Q:AV->aa->Prop)(h : ∀g,mW g b e d c H Q):bS env Tryz.f35 0 o7 [(13,b),(3,e),(11,d),(12,c)] H Q:=tG AS (by kernel_rfl) h
def tz:=sL Tryz.f36 4
def tx:=sL Tryz.f36 9
def wc:Nat->Option (List Nat):=λi=>cond (Nat.beq i 4) (some [9,1,3]) (cond (Nat.beq i 9) (some [23,1,3]) (none))
def Bj:Prop:=
 dH H 1 63 x0 λh d=>
 Q3 d 6 57 128 λb c=>
 eX c 57 b 0 λe=>
 iE (jy env.P c 5 (some e) (some (a8 77))) λi f=>
  bS env Tryz.f36 0 tz [(9,(.v (.int .i64 0))),(1,h),(3,b)] f Q
theorem Hh(h : ∀g:fZ,Bj x0 H Q):fL Tryz.f36 0 [(0,x0)] H Q:=uC wc (by kernel_rfl) h
def k6(g:Nat->AV)(b a c:AV)(H:aa)(Q:AV->aa->Prop):Prop:=
 pU 3 9 4 b λj=>
 br (some j) (
 Q2 3 4 13 b λl=>
 ae 63 a 0 λh=>
 ad H 3 h λf=>
 pn 3 8 17 b λk=>
 QQ 3 16 18 f k λn=>
 cY H 20 3 5 n λm=>
 cH H 57 c l λe=>
 aC H 5 e m λo i=>
 fY 3 9 1 b λd=>
  bS env Tryz.f36 0 tz [(9,d),(1,a),(3,c)] i Q) (
  bS env Tryz.f36 0 tx [(23,(.v (.int .i64 0))),(1,a),(3,c)] H Q)
theorem mC(c a b:AV)(H:aa)(Q:AV->aa->Prop)(h : ∀g,k6 g c a b H Q):bS env Tryz.f36 0 tz [(9,c),(1,a),(3,b)] H Q:=tG wc (by kernel_rfl) h
def mX(g:Nat->AV)(b a c:AV)(H:aa)(Q:AV->aa->Prop):Prop:=
 pU 3 23 3 b λj=>
 br (some j) (
 Q2 3 7 27 b λl=>
 ae 63 a 1 λh=>
 ad H 3 h λf=>
 pn 3 8 31 b λk=>
 QQ 3 30 32 f k λn=>
 cY H 34 3 5 n λm=>
 cH H 57 c l λe=>
 aC H 5 e m λo i=>
 fY 3 23 1 b λd=>
  bS env Tryz.f36 0 tx [(23,d),(1,a),(3,c)] i Q) (
 Q c H)
theorem oZ(b a c:AV)(H:aa)(Q:AV->aa->Prop)(h : ∀g,mX g b a c H Q):bS env Tryz.f36 0 tx [(23,b),(1,a),(3,c)] H Q:=tG wc (by kernel_rfl) h
def qC:=sL Tryz.f32 5
def o8:=sL Tryz.f32 10
def xE:Nat->Option (List Nat):=λi=>cond (Nat.beq i 5) (some [24,4,22,5,1,23]) (cond (Nat.beq i 10) (some [39,4,37,5,1,38]) (none))
def Cu:Prop:=
 dH H 2 24 x0 λn l=>
 dV l 4 63 λd k=>
 ad k 24 n λm=>
 C9 3 6144 13 a λp=>
 aV true k 15 59 [m,p] λh b=>
 aQ h 0 λj=>
 aQ h 1 λq=>
 gC 37 18 0 q λo=>
 br (some o) (
 ad b 63 d λe=>
 aC b 63 d e λc i=>
 aN i d 63 λf=>
 Q f i) (
 QY b 57 j λe=>
 de b 23 57 e λc=>
  bS env Tryz.f32 0 qC [(24,(.v (.int .i64 0))),(4,d),(22,e),(5,j),(1,a),(23,c)] b Q)
theorem Jl(h : ∀g:fZ,Cu x0 a H Q):fL Tryz.f32 0 [(0,x0),(1,a)] H Q:=uC xE (by kernel_rfl) h
def uO(g:Nat->AV)(b e d i a c:AV)(H:aa)(Q:AV->aa->Prop):Prop:=
 eU 3 24 23 b c λp=>
 br (some p) (
 cH H 57 d b λf=>
 ad H 5 f λj=>
 ae 63 e 0 λm=>
 ad H 3 m λq=>
 JU 3 29 q λt=>
 cY H 32 5 3 j λs=>
 C8 3 30 32 t s λk=>
 ae 63 e 0 λn=>
 aC H 3 n k λl o=>
 fY 3 24 1 b λh=>
  bS env Tryz.f32 0 qC [(24,h),(4,e),(22,d),(5,i),(1,a),(23,c)] o Q) (
 aaB H 57 i λf=>
 de H 38 57 f λj=>
  bS env Tryz.f32 0 o8 [(39,(.v (.int .i64 0))),(4,e),(37,f),(5,i),(1,a),(38,j)] H Q)
theorem Ae(c f d e a b:AV)(H:aa)(Q:AV->aa->Prop)(h : ∀g,uO g c f d e a b H Q):bS env Tryz.f32 0 qC [(24,c),(4,f),(22,d),(5,e),(1,a),(23,b)] H Q:=tG xE (by kernel_rfl) h
def jD(g:Nat->AV)(e c l G a m:AV)(H:aa)(Q:AV->aa->Prop):Prop:=
 eU 3 39 38 e m λI=>
 br (some I) (
 cH H 57 l e λy=>
 ad H 5 y λC=>
 ae 63 c 1 λj=>
 ad H 3 j λD=>
 JU 3 44 D λz=>
 cY H 47 5 3 C λF=>
 C8 3 45 47 z F λd=>
 ae 63 c 1 λv=>
 aC H 3 v d λn o=>
 fY 3 39 1 e λh=>
  bS env Tryz.f32 0 o8 [(39,h),(4,c),(37,l),(5,G),(1,a),(38,m)] o Q) (
 ae 63 c 0 λy=>
 ad H 3 y λC=>
 pU 3 52 1 C λj=>
 gQ j false (aw 63 c 0) λD=>
 gQ j false (an H 3 D) λz=>
 gQ j false (og 3 56 2147483648 z) λF=>
 dh j F λd=>
 gQ d false (aw 63 c 0) λv=>
 gQ d false (an H 3 v) λn=>
 gQ d false (aaL 3 61 2 n) λh=>
 gQ d false (bL a) λs=>
 gQ d false (BR 3 62 63 h s) λt=>
 dh d t λb=>
 gQ b false (bL G) λw=>
 gQ b false (an H 63 c) λE=>
 gW b false H (fg true H 69 36 [E]) λp o=>
 gW b false o (fg true o 70 63 [w,p]) λx B=>
 gQ b false (vD x) λq=>
 dh b q λu=>
 br (some u) (
 cS 63 λi=>
 aC B 63 c i λA k=>
 aN k c 63 λf=>
 Q f k) (
 ad B 63 c λi=>
 aC B 63 c i λA k=>
 aN k c 63 λf=>
 Q f k))
theorem yc(b f c e a d:AV)(H:aa)(Q:AV->aa->Prop)(h : ∀g,jD g b f c e a d H Q):bS env Tryz.f32 0 o8 [(39,b),(4,f),(37,c),(5,e),(1,a),(38,d)] H Q:=tG xE (by kernel_rfl) h
end
section
attribute [local simp] aK az ak ay ax bD kj aM aq aA bA bw aJ aL af aW dq
structure eb where
 pos:Int
 bs:List UInt8
 av:AV
def eb.enc(s:eb):AV := .agg [aI s.pos,s.av]
def iX(s:eb):Prop:=Sl 1 (au s.bs) s.av
def aG(l:List eb):List AV:=l.map eb.enc
@[simp] def yW(l:List eb):(aG l).length=l.length:=by simp[aG]
def cz(x:AV)(st lf:Int)(dd:Bool):AV := .agg [x,aI st,aI lf,aB dd]
def Vp{x:AV}{l:List UInt8}(o:Sl 1 (au l) x)(u:l.length=128):ar env 46 [x]=some (.bg 1 (au l) none):=by
 refine aF rfl (by kernel_rfl) (ME _ _ _ λg=>?_);have F:=o.r;have a:=yK (P:=env.P) (t:=57) (z:=1) (by':=1) (zz:=a8 0) (r:=⟨0,6,0,0⟩) (by kernel_rfl) (by kernel_rfl) (n:=128) (by decide) (by decide);have b:(au l).length=128:=by simp[u]
 rcases o with ⟨rfl,i⟩ | ⟨c,rfl,i⟩
 ·rw[i]at b;cases b
 have y : ∀(H:aa)(L:List AV),L.length=128->H.get ⟨0,6,0,0⟩=some ⟨1,L,true,false⟩->AH env.P H (some 57) (.bk ⟨0,6,0,0⟩ 0 128 none) (.bg 1 (au l) c)=some (aI 128,H.put ⟨0,6,0,0⟩ (some ⟨1,au l,true,false⟩)):=by
  intro H L p j;have D:(au l).take 128=au l:=dq (by omega);have d:L.drop 128=[]:=ya (by omega);have E:Nat.min (au l).length 128=128:=by rw[b];rfl
  have C:jW (.bg 1 (au l) c)=false:=rfl;have m:cy H.get (.bg 1 (au l) c)=some (1,au l):=rfl;simp only[AH,C,m,eD,j];simp[E,D,d,p,b]
 have e:=λH=>y H (List.replicate 128 (a8 0)) (by simp);simp[aj, *,FV,u];have B:Int.ofNat l.length=128:=by simp[u]
 rw[show((128:Nat):Int)=128 from rfl]at a;simp[a,e,b]
@[simp] def aip(a:Int):ar env 105 [aI a]=some (aB false):=by
 refine aF rfl (by kernel_rfl) (Dh _ _ _ λg=>?_);simp[aj, *,xn]
@[simp] def aez(a b:Int):ar env 75 [aI a,aI b]=some (aI (if a<b then -1 else if b<a then 1 else 0)):=by
 refine aF rfl (by kernel_rfl) (BO _ _ _ _ λg=>?_);simp[aj, *,uX];repeat' ((first | apply si<;>intro h | apply nL<;>intro h | apply nM<;>intro h | apply nJ<;>intro h | apply nK<;>intro h)<;>(try simp only[iQb,iQc,iB,qQ,bo,jH]at h)<;>(try simp[aj, *]))
 done
def Rn(a b:Int)(x:AV)(h:x.one=true)(c : ∀g n,view g (n+1) x=some x):ar env 74 [.agg [aI a,x],aI b]=some (aI (if a<b then -1 else if b<a then 1 else 0)):=by
 refine aF rfl (by kernel_rfl) (Hp _ _ _ _ λg=>?_);simp[aj, *,Bn]
def nth(l:List eb)(q:Int):Nat:=(l.takeWhile λs=>decide (s.pos<q)).length
def ke(l:List eb)(q:Int)(n:Nat):Bool:=match l[n]? with | some s=>decide (s.pos=q) | none=>false
section
variable{l:List eb}{x:AV}{q:Int}{N:Nat}(o:Sl 2 (aG l) x)(f : ∀s∈l,iX s)(u:l.length<1000000)(A : ∀k (h:k<l.length),(l[k].pos<q↔k<N))(w:N<=l.length)
include o f u A w
theorem aas{Q:AV->aa->Prop} : ∀(m i j:Nat)(H:aa),j - i<=m->i<=N->N<=j->j<=l.length->Fr H ->
 (∀y H',y = .tup [aI N,aB (ke l q N)]->Q y H') ->
 bS env Tryz.f73 0 aH [(1,aI q),(0,x),(2,.fn (.func 74) [] []),(10,aI j),(9,aI i),(8,aI l.length)] H Q:=by
 intro m;induction m with
 | zero=>
  intro i j H O hi B c t b;obtain rfl:i=j:=by omega
  obtain rfl:i=N:=(by omega);refine cw _ _ _ _ _ _ _ _ λg=>?_;by_cases a:i<l.length
  ·have P:(aG l)[i]?=some (l[i]).enc:=(by simp[aG,a]);have e:=(f l[i] (eE _)).r;have I:=Rn l[i].pos q l[i].av;have D:bF (aG l) i 0 2 true=some (.agg [aI l[i].pos,l[i].av]):=by simp[aG,a,eb.enc]
   have J:=I e.2.2.2.2.1 e.2.1;have p:ke l q i=decide (l[i].pos=q):=by simp[ke,a]
   simp only[p]at b;have F : ¬l[i].pos<q:=by intro h;exact absurd ((A i a).1 h) (by omega)
   clear A I f;simp[aj, *,aT,o.r,o.idx,eb.enc,cK];exact b _ _ (by
    have:decide (l[i].pos<=q)=decide (l[i].pos=q):=by simp only[decide_eq_decide];omega
    rw[this])
  have p:ke l q i=false:=(by simp[ke,a]);simp only[p]at b;simp[aj, *,aT,o.r,o.idx,eb.enc,cK]
 | succ m z=>
  intro i j H O hi B c t b;by_cases K:i<j
  ·have V:=iQa ((i:Int)+j) (by omega);refine cw _ _ _ _ _ _ _ _ λg=>?_;obtain⟨h,p⟩ : ∃h,h=(i+j) / 2:=⟨_,rfl⟩;have n:h<l.length:=by omega
   have S:(0:Int)<=(i:Int)+j:=(by omega);have R:(i:Int)+j<=4294967296:=(by omega);have T:((i:Int)+j).fdiv (2 ^ min 1 IntKind.u64.bits)=h:=by rw[show(2:Int) ^ min 1 IntKind.u64.bits=2 from rfl,cF];omega
   have W:=iQa (h:Int) (by omega);have U:=iQa ((h:Int)+1) (by omega);have e:=(f l[h] (eE _)).r;have J:=Rn l[h].pos q l[h].av e.2.2.2.2.1 e.2.1;have D:bF (aG l) h 0 2 true=some (.agg [aI l[h].pos,l[h].av]):=by simp[aG,n,eb.enc]
   have L:=A h n;have C:=λH'=>z (h+1) j H';have E:=λH'=>z i h H';have b1:j - (h+1)<=m:=by omega
   have b2:h - i<=m:=(by omega);have b3:h<=l.length:=(by omega);clear z A f p;simp[aj, *,aT,o.r,o.idx,eb.enc,cK];by_cases a:h<N
   ·have d:(decide ((if h<N then (-1:Int) else if q<l[h].pos then 1 else 0)<0))=true:=by rw[if_pos a];rfl
    have M:((h+1:Nat):Int)=(h:Int)+1:=(by omega);rw[d];have G:=C H b1 (by omega) B c t b;rw[M]at G;simp[*]
   have d:(decide ((if h<N then (-1:Int) else if q<l[h].pos then 1 else 0)<0))=false:=(by rw[if_neg a];split<;>rfl);rw[d];have G:=E H b2 hi (by omega) b3 t b;simp[*]
  exact z i j H (by omega) hi B c t b
theorem aji:ar env 73 [x,aI q,.fn (.func 74) [] []]=some (.tup [aI N,aB (ke l q N)]):=by
 refine aF rfl (by kernel_rfl) (fp _ _ _ _ _ λg=>?_);have h:=aas o f u A w (Q:=λy H'=>cU env 73 y H' (.tup [aI N,aB (ke l q N)])) l.length 0 l.length [] (by omega) (by omega) w (cG _) (by simp(maxDischargeDepth:=12) [Ek, *]) (λy H' e=>by rw[e];simp);simp[aj, *,cJ,o.r];exact h
theorem Pq{st lf:Int}{dd:Bool}:ar env 48 [cz x st lf dd,aI q]=some (.tup [aI N,aB (ke l q N)]):=by
 refine aF rfl (by kernel_rfl) (Le _ _ _ _ λg=>?_);have h:=aji o f u A w;simp[aj, *,Ed,cz,o.r]
end
def gp(a:Int):List eb->Bool
 | []=>true
 | s :: l => !decide (s.pos<=a) && !decide (s.pos>=6146)&&decide (s.bs.length=128)&&gp s.pos l
def E5(st lf:Int)(dd:Bool):Bool := !decide (st<0) && !decide (st>=2147483648) && !decide (lf < -1) && !decide (lf>=2147483648) && !(dd && !decide (lf=0))
def Eh(l:List eb)(st lf:Int)(dd:Bool):Bool:=gp (-1) l&&E5 st lf dd
section
variable{l:List eb}{x:AV}{st lf:Int}{dd:Bool}(o:Sl 2 (aG l) x)(f : ∀s∈l,iX s)(u:l.length<1000000000)
include o f u
theorem Qu{r1:Ref}{Q:AV->aa->Prop} : ∀(s:List eb)(k:Nat)(i a:Int)(H:aa),l.drop k=s->k<=l.length->i=k->Fr H->H.get r1=some ⟨4,[cz x st lf dd],false,false⟩ ->
 (∀y H',y=aI (if gp a s&&E5 st lf dd then 0 else 8)->Q y H') ->
 bS env Tryz.f20 0 qD [(9,aI i),(3,aI a),(7,x),(1,.ptr r1 0 0),(8,aI l.length)] H Q:=by
 intro s;induction s with
 | nil=>
  rintro k i a H hs hk rfl hF h1 hQ;obtain rfl:=drop_nil hs hk;refine Af _ _ _ _ _ _ _ λg=>?_;simp only[cz]at h1;simp[aj, *,uQ,o.r];repeat' ((first | apply si<;>intro h | apply nL<;>intro h | apply nM<;>intro h | apply nJ<;>intro h | apply nK<;>intro h)<;>(try simp only[iQb,iQc,iB,qQ,bo,jH]at h)<;>(try simp[aj, *]))
  all_goals refine hQ _ _ ?_
  all_goals simp[gp,E5, *]
  all_goals (try omega)
 | cons p s j=>
  rintro k i a H hs hk rfl hF h1 hQ;obtain⟨z,m,c,d⟩:=drop_cons hs;have B:=iQa ((k:Int)+1) (by omega);have hp:=(f p (by rw[<-m];exact eE _)).r;have t:bF (aG l) k 0 2 true=some (.agg [aI p.pos,p.av]):=by simp[aG,d,eb.enc]
  refine Af _ _ _ _ _ _ _ λg=>?_;have b:=λH'=>j (k+1) ((k:Int)+1) p.pos H' c (by omega) (by omega);clear j f;simp only[cz]at h1 b;simp[aj, *,uQ,o.r,o.idx];repeat' ((first | apply si<;>intro h | apply nL<;>intro h | apply nM<;>intro h | apply nJ<;>intro h | apply nK<;>intro h)<;>(try simp only[iQb,iQc,iB,qQ,bo,jH]at h)<;>(try simp[aj, *]))
  all_goals first
   | exact hQ _ _ (by simp[gp, *]<;>omega)
   | refine b _ (by simp(maxDischargeDepth:=12) [Ek, *]) (by simp[*,vZ,wa,DD,DF]) λy H' e=>hQ y H' ?_
  all_goals have n:p.bs.length=128:=by omega
  all_goals simp[e,gp, *]
theorem Rq:ar env 20 [cz x st lf dd]=some (aI (if Eh l st lf dd then 0 else 8)):=by
 refine aF rfl (by kernel_rfl) (Jy _ _ _ λg=>?_);have h:=Qu (st:=st) (lf:=lf) (dd:=dd) o f u (r1:=⟨0,1,0,0⟩) (Q:=λy H'=>cU env 20 y H' (aI (if Eh l st lf dd then 0 else 8))) l 0 0 (-1) [(⟨0,1,0,0⟩,some ⟨4,[cz x st lf dd],false,false⟩)] rfl (by omega) rfl (by simp(maxDischargeDepth:=12) [Ek, *]) (by simp) (λy H' e=>by rw[e];unfold Eh;split<;>simp);simp only[cz]at h ⊢;simp[aj, *,Cz,o.r];exact h
theorem Dp{q:Int}:ar env 47 [cz x st lf dd,aI q]=some (aI (if Eh l st lf dd then (if 0<=q/\q<6146 then 0 else 2) else 8)):=by
 refine aF rfl (by kernel_rfl) (Jx _ _ _ _ λg=>?_);have h:=Rq (st:=st) (lf:=lf) (dd:=dd) o f u;simp only[cz]at h ⊢;cases hd:Eh l st lf dd<;>simp[hd]at h;·simp[aj, *,xO,o.r]
 simp[aj, *,xO,o.r];repeat' ((first | apply si<;>intro h | apply nL<;>intro h | apply nM<;>intro h | apply nJ<;>intro h | apply nK<;>intro h)<;>(try simp only[iQb,iQc,iB,qQ,bo,jH]at h)<;>(try simp[aj, *]))
 all_goals omega
end
def abg:bC env.P .eql 22 (.tmp 3) (.const (.slice none 0 0)) (some aO) (some aO)=some (aB true,[]):=by kernel_rfl
def VP{x:AV}{l:List eb}(o:Sl 2 (aG l) x)(u:l.length<1000000):ar env 45 [x]=some (LX x):=by
 rcases o.Wr with ⟨rfl,he⟩ | ⟨c,rfl⟩
 ·refine aF rfl (by kernel_rfl) (b9 _ _ _ λg=>?_);simp[aj, *,bB,abg]
 by_cases b:l=[];·refine aF rfl (by kernel_rfl) (b9 _ _ _ λg=>?_);subst b;simp[aj, *,bB,aG]
 refine aF rfl (by kernel_rfl) (b9 _ _ _ λg=>?_);have d:aG l≠[]:=by simp[aG,b]
 have a:=yW l;have e:l.length * 32<=140737488355328:=by omega
 generalize aG l=es at *;simp[aj, *,bB,Da,Kv]
def Q9(s:eb):eb:=⟨s.pos,s.bs,.bg 1 (au s.bs) none⟩
def mv(l:List eb):List eb:=l.map Q9
@[simp] def Yo(l:List eb):(mv l).length=l.length:=by simp[mv]
def CO(l:List eb) : ∀s∈mv l,iX s:=by
 intro s a;obtain⟨p,_,rfl⟩:=nO.1 a;exact Sl.mk _ _
def half(l:List eb)(k:Nat):List AV:=aG (mv (l.take k)++l.drop k)
def W1(l:List eb)(k:Nat)(h:k<=l.length):(half l k).length=l.length:=by simp[half];omega
def RL(l:List eb)(k:Nat)(h:k<l.length):(half l k)[k]?=some l[k].enc:=by
 simp[half,aG,List.getElem?_append,Aw (iY h),h]
def W0(l:List eb)(k:Nat)(h:k<l.length):(half l k).set k (Q9 l[k]).enc=half l (k+1):=by
 unfold half aG;rw[<-GJ];congr 1;have a:(mv (l.take k)).length=k:=by simp;omega
 have b:l.drop k=l[k] :: l.drop (k+1):=KX h;rw[Fm _ _ (by omega),a,pV,b,Fi,UC h];unfold mv;rw[zh,qP];rfl
def P9(l:List eb)(k:Nat)(h:k<l.length):fm (half l k) k 1 [.bg 1 (au l[k].bs) none]=some (half l (k+1)):=by
 rw[<-W0 l k h];unfold fm;rw[RL l k h];rfl
section
variable{l:List eb}{x:AV}{st lf:Int}{dd:Bool}(o:Sl 2 (aG l) x)(f : ∀s∈l,iX s)(v : ∀s∈l,s.bs.length=128)(u:l.length<1000000)
include o f v u
theorem Sk{r1 r2 r3:Ref}{c:Option Nat}(n1:r3≠r1)(n2:r3≠r2)(n:r1≠r2){Q:AV->aa->Prop} : ∀(m k:Nat)(H:aa),k+m=l.length->Fr H->H.get r1=some ⟨4,[cz x st lf dd],false,false⟩->H.get r2=some ⟨4,[cz aO 0 0 false],false,false⟩ ->
 H.get r3=some ⟨2,half l k,true,false⟩ ->
 (∀H',H'.get r3=some ⟨2,aG (mv l),true,false⟩->Q (cz (.bk r3 0 l.length c) st lf dd) H') ->
 bS env Tryz.f23 0 sf [(10,aI k),(3,.bk r3 0 l.length c),(2,.ptr r2 0 0),(1,.ptr r1 0 0),(9,aI l.length)] H Q:=by
 intro m;induction m with
 | zero=>
  intro k H D B i j p d;obtain rfl:k=l.length:=by omega
  have e:half l l.length=aG (mv l):=(by simp[half]);rw[e]at p;refine rM _ _ _ _ _ _ _ λg=>?_;simp only[cz]at i j d;have E:r2≠r1:=λe=>n e.symm;have F:r1≠r3:=λe=>n1 e.symm;have C:r2≠r3:=λe=>n2 e.symm;simp[aj, *,oW,aa.ab]
 | succ m t=>
  intro k H D B i j p d;have b:k<l.length:=by omega
  have hp:=f l[k] (eE _);have K:=Vp hp (v l[k] (eE _));have y:=hp.r;have L:=iQa ((k:Int)+1) (by omega);have I:bF (half l k) k 1 1 false=some l[k].av:=(by unfold bF;rw[RL l k b];rfl);have J:=P9 l k b;have z:=W1 l k (by omega);have G:((k+1:Nat):Int)=(k:Int)+1:=by omega
  have a:=λH'=>t (k+1) H' (by omega);rw[G]at a;clear t f v;refine rM _ _ _ _ _ _ _ λg=>?_;simp only[cz]at i j d a;have E:r2≠r1:=λe=>n e.symm;have F:r1≠r3:=λe=>n1 e.symm;have C:r2≠r3:=λe=>n2 e.symm;simp[aj, *,oW];exact a _ (by simp(maxDischargeDepth:=12) [dU, *]) (by simp(maxDischargeDepth:=12) [dU, *]) (by simp(maxDischargeDepth:=12) [dU, *]) (by simp(maxDischargeDepth:=12) [dU, *]) d
def Sm(x:AV)(l:List eb):AV:=match x with
 | .bg z [] _ => .fsl z [] (some 0)
 | .bg z _ _ => .fsl z (aG (mv l)) none
 | x=>x
theorem Lq:ar env 23 [cz x st lf dd]=some (cz (Sm x l) st lf dd):=by
 refine aF rfl (by kernel_rfl) (Lf _ _ _ λg=>?_);have p:=VP o u;rcases o.Wr with ⟨rfl,he⟩ | ⟨c,rfl⟩
 ·have d:l=[]:=by simpa [aG] using he
  subst d;simp only[cz];simp[aj, *,vn,o.r,Sm];refine rM _ _ _ _ _ _ _ λg=>?_;simp[aj, *,oW]
 by_cases j:l=[];·subst j;simp only[cz];simp[aG]at p;have e:aG []=[]:=rfl;rw[e]at o ⊢;simp[aj, *,vn,o.r,Sm];refine rM _ _ _ _ _ _ _ λg=>?_;simp[aj, *,oW]
 have b:aG l≠[]:=(by simp[aG,j]);rw[Kv 2 c b]at p;have e:half l 0=aG l:=by simp[half,mv]
 have n:=λ(Q:AV->aa->Prop) H=>Sk (st:=st) (lf:=lf) (dd:=dd) (x := .bg 2 (aG l) c) (c:=none) o f v u (r1:=⟨0,1,0,0⟩) (r2:=⟨0,2,0,0⟩) (r3:=⟨0,7,0,0⟩) (by simp) (by simp) (by simp) (Q:=Q) l.length 0 H (by omega);have i:Sm (.bg 2 (aG l) c) l = .fsl 2 (aG (mv l)) none:=by
  cases l with| nil=>exact(j rfl).elim| cons _ _=>rfl
 have a:(aG (mv l)).length=l.length:=(by simp);simp only[cz]at n ⊢;rw[i];have m:=yW l;generalize t:aG l=es at *;simp[aj, *,vn,o.r];exact n _ _ (by simp(maxDischargeDepth:=12) [Ek, *]) (by simp) (by simp) (by simp[e]) λH' h=>by simp[h,a]
end
def Ge{l:List eb}{x:AV}(o:Sl 2 (aG l) x):aee 2 (aG (mv l)) (Sm x l):=by
 rcases o with ⟨rfl,he⟩ | ⟨c,rfl,_⟩
 ·have:l=[]:=by simpa [aG] using he
  subst this;exact .inl ⟨rfl,rfl⟩
 cases l with| nil=>exact .inr (.inr ⟨rfl,rfl⟩)| cons p l=>exact .inr (.inl rfl)
def kr:AV:=cz aO 0 0 false
def tL : ∀(l:List eb)(a:Int),gp a l=true ->∀s∈l,s.bs.length=128:=by
 intro l;induction l with
 | nil=>intro a h s b;cases b
 | cons p l c=>
  intro a h s b;simp[gp]at h;rcases fh.1 b with rfl | b
  ·exact h.1.2
  exact c _ h.2 s b
def vw:AV->AV
 | .fsl z es c => .bg z es c
 | x=>x
end
end Go.Proofs.YtmjkpdknicjjgaaGreat
namespace Go.Proofs.YtmjkpdknicjjgaaGreat
open Go.Ab Go.ChangeShapes Go.WideShapes Go.RowKit
def Zh:QL env.P 59 iX (λs:eb=>[aI s.pos,s.av]):=by
 intro n d h;have h:=n8 (P:=env.P) FI h;obtain⟨m,x,r,rfl,b,y,r',rfl,c,rfl⟩:=h;obtain⟨i,_,rfl⟩:=ve (P:=env.P) (t:=3) (by simp) _ _ b;obtain⟨l,z,rfl,a⟩:=Vm (P:=env.P) (t:=57) (e:=5) (by simp) (by simp) (by simp) (by simp) c;exact⟨⟨i,l,z⟩,a,rfl⟩
def acs{n:Nat}{x:AV}(h:Uu env.P n 24 x) : ∃(l:List eb) (y:AV) (st lf:Int) (dd:Bool),(∀s∈l,iX s)/\Sl 2 (aG l) y/\x=cz y st lf dd:=by
 obtain⟨y,rfl,a⟩:=h.agg (by simp);have h:=n8 (P:=env.P) N0 a;obtain⟨m,j,r1,rfl,e,k,r2,rfl,f,i,r3,rfl,d,o,r4,rfl,c,rfl⟩:=h;obtain⟨l,z,g,rfl,s⟩:=Dm (P:=env.P) MJ MG Rb Zh e;obtain⟨st,_,rfl⟩:=ve (P:=env.P) (t:=3) (by simp) _ _ f;obtain⟨lf,_,rfl⟩:=ve (P:=env.P) (t:=3) (by simp) _ _ d;obtain⟨b,_,rfl⟩:=M5 (P:=env.P) (t:=4) (by simp) _ _ c;exact⟨l,z,st,lf,b,g,s,rfl⟩
end Go.Proofs.YtmjkpdknicjjgaaGreat
namespace Go.Proofs.YtmjkpdknicjjgaaGreat
open Go.Ab
attribute [local simp] aK az ak ay ax bD kj aM aq aA bA bw aJ aL af aW dq
@[simp] def agr(a:UInt8)(b:UInt32):ar env 119 [.agg [a8 a,bR b]]=some (aI (bad (decide (a<=15)))):=by
 refine aF rfl (by kernel_rfl) (Hn _ _ _ λg=>?_);simp[aj, *,Bm];repeat' ((first | apply si<;>intro h | apply nL<;>intro h | apply nM<;>intro h | apply nJ<;>intro h | apply nK<;>intro h)<;>(try simp only[iQb,iQc,iB,qQ,bo,jH]at h)<;>(try simp[aj, *]))
 all_goals (try grind [bad])
@[simp] def aio(b:Bool):ar env 118 [aB b]=some (aI (bad b)):=by
 refine aF rfl (by kernel_rfl) (Lb _ _ _ λg=>?_);cases b<;>simp[aj, *,Eb,bad]
@[simp] def XV(a:UInt8)(b:UInt32)(n:UInt8):ar env 97 [.agg [a8 a,bR b,a8 n]]=some (aI (bad (fT ⟨a,b,n⟩))):=by
 refine aF rfl (by kernel_rfl) (CJ _ _ _ λg=>?_);simp[aj, *,wA,fT];repeat' ((first | apply si<;>intro h | apply nL<;>intro h | apply nM<;>intro h | apply nJ<;>intro h | apply nK<;>intro h)<;>(try simp only[iQb,iQc,iB,qQ,bo,jH]at h)<;>(try simp[aj, *]))
@[simp] def ags(a:UInt8)(b:UInt32)(n:UInt8)(k:Int):ar env 122 [.agg [a8 a,bR b,a8 n,aI k]]=some (aI (bad (Al ⟨⟨a,b,n⟩,k⟩))):=by
 refine aF rfl (by kernel_rfl) (Lc _ _ _ λg=>?_);simp[aj, *,Ec,Al];repeat' ((first | apply si<;>intro h | apply nL<;>intro h | apply nM<;>intro h | apply nJ<;>intro h | apply nK<;>intro h)<;>(try simp only[iQb,iQc,iB,qQ,bo,jH]at h)<;>(try simp[aj, *]))
@[simp] def aa5(a:UInt8)(b:UInt32)(n:UInt8)(k m:Int):ar env 120 [.agg [a8 a,bR b,a8 n,aI k,aI m]]=some (aI (bad (ov ⟨⟨⟨a,b,n⟩,k⟩,m⟩))):=by
 refine aF rfl (by kernel_rfl) (ED _ _ _ λg=>?_);cases c:Al ⟨⟨a,b,n⟩,k⟩ with
 | false=>simp[aj, *,m9,ov]
 | true=>
  have d:=Kp c;simp only at d;by_cases f:1<=m
  ·by_cases i:m<=64;·have e:=iQa (k+m) (by omega);have h:=iQa (k+m - 1) (by omega);simp[aj, *,m9,ov]
   simp[aj, *,m9,ov]
  simp[aj, *,m9,ov]
end Go.Proofs.YtmjkpdknicjjgaaGreat
namespace Go.Ab
def R9.enc(h:R9):List AV:=[a8 h.lv,bR h.cats,a8 h.num]
def Au.enc(i:Au):List AV:=[a8 i.h.lv,bR i.h.cats,a8 i.h.num,aI i.n]
def Spn.enc(s:Spn):List AV:=[a8 s.f.h.lv,bR s.f.h.cats,a8 s.f.h.num,aI s.f.n,aI s.many]
end Go.Ab
namespace Go.Proofs.YtmjkpdknicjjgaaGreat
open Go.Ab Go.ChangeShapes Go.WideShapes Go.RowKit
def Ls:QL env.P 27 (λ_=>True) (λp:UInt8 × UInt32=>[a8 p.1,bR p.2]):=by
 intro n c h;have h:=n8 (P:=env.P) NZ h;obtain⟨m,x,r,rfl,a,y,r',rfl,b,rfl⟩:=h;obtain⟨v,_,rfl⟩:=M6 (P:=env.P) (t:=5) (by simp) _ _ a;obtain⟨w,_,rfl⟩:=acJ (P:=env.P) (t:=25) (by simp) _ _ b;exact⟨(v,w),trivial,rfl⟩
def Rt:QL env.P 29 (λ_=>True) R9.enc:=by
 intro n c h;have h:=n8 (P:=env.P) NY h;obtain⟨m,x,r,rfl,a,y,r',rfl,b,rfl⟩:=h;obtain⟨p,_,rfl⟩:=Ls _ _ a;obtain⟨w,_,rfl⟩:=M6 (P:=env.P) (t:=5) (by simp) _ _ b;exact⟨⟨p.1,p.2,w⟩,trivial,rfl⟩
def Rs:QL env.P 31 (λ_=>True) Au.enc:=by
 intro n c h;have h:=n8 (P:=env.P) NX h;obtain⟨m,x,r,rfl,a,y,r',rfl,b,rfl⟩:=h;obtain⟨p,_,rfl⟩:=Rt _ _ a;obtain⟨i,_,rfl⟩:=ve (P:=env.P) (t:=3) (by simp) _ _ b;exact⟨⟨p,i⟩,trivial,rfl⟩
def Zg:QL env.P 33 (λ_=>True) Spn.enc:=by
 intro n c h;have h:=n8 (P:=env.P) NW h;obtain⟨m,x,r,rfl,a,y,r',rfl,b,rfl⟩:=h;obtain⟨p,_,rfl⟩:=Rs _ _ a;obtain⟨i,_,rfl⟩:=ve (P:=env.P) (t:=3) (by simp) _ _ b;exact⟨⟨p,i⟩,trivial,rfl⟩
def Vl{n:Nat}{b:List AV}(h:Ei env.P n 34 b) : ∃(l:List Int) (x:AV),(∀a∈l, -2147483648<=a/\a<=2147483647)/\b=[x]/\Sl 1 (rows l) x:=by
 obtain⟨l,x,c,rfl,s⟩:=Dm (P:=env.P) U9 U3 YD (Zf (by simp)) h;exact⟨l,x,c,rfl,s⟩
def abU(p:fX × AV):List AV:=[a8 p.1.kind,a8 p.1.h.lv,bR p.1.h.cats,a8 p.1.h.num,aI p.1.serial,a8 p.1.s.f.h.lv,bR p.1.s.f.h.cats,a8 p.1.s.f.h.num,aI p.1.s.f.n,aI p.1.s.many,
 a8 p.1.a.h.lv,bR p.1.a.h.cats,a8 p.1.a.h.num,aI p.1.a.n,a8 p.1.to.lv,bR p.1.to.cats,p.2]
def VV:QL env.P 36 (λp:fX × AV=>Sl 1 (rows p.1.l) p.2 /\∀a∈p.1.l, -2147483648<=a/\a<=2147483647) abU:=by
 intro n B h;have h:=n8 (P:=env.P) NV h;obtain⟨m,v,r1,rfl,e,x,r2,rfl,j,u,r3,rfl,d,D,r4,rfl,c,z,r5,rfl,f,C,r6,rfl,b,A,w,rfl,i,rfl⟩:=h;obtain⟨k,_,rfl⟩:=M6 (P:=env.P) (t:=5) (by simp) _ _ e;obtain⟨q,_,rfl⟩:=Rt _ _ j;obtain⟨o,_,rfl⟩:=ve (P:=env.P) (t:=3) (by simp) _ _ d;obtain⟨s,_,rfl⟩:=Zg _ _ c;obtain⟨a,_,rfl⟩:=Rs _ _ f;obtain⟨t,_,rfl⟩:=Ls _ _ b;obtain⟨l,y,g,rfl,sl⟩:=Vl i;exact⟨(⟨k,q,o,s,a,⟨t.1,t.2⟩,l⟩,y),⟨sl,g⟩,rfl⟩
def own:ownKnob Tryz.prog.godebug=none:=by kernel_rfl
def kids:Kids Tryz.prog (· < Tryz.prog.types.size):=kids_rows (by kernel_rfl) (by kernel_rfl)
end Go.Proofs.YtmjkpdknicjjgaaGreat
namespace Go.Proofs.YtmjkpdknicjjgaaGreat
open Go.Ab
section
attribute [local simp] aK az ak ay ax bD kj aM aq aA bA bw aJ aL af aW dq
def Qw{f:FuncId}(a:(env.mode f == 2)=true)(dep:Nat)(H:aa)(r:Ref)(first args captured:List AV) :
 bm env true (ar env) (dg env dep) H r (some (.fn (.func f) first captured)) args=dg env dep (.fn f) (first++args++captured) H:=by
 have h:env.mode f=2:=by simpa using a
 simp[bm,k9,nn,lY,EU,h]
def Ty{dep:Nat}{f:FuncId}{args:List AV}{H:aa}{z:AV × aa}(h:env.thrSpec f args H=some z):dg env dep (.fn f) args H=some z:=
 qB.2 ⟨0,λm _=>by unfold eF;simp only[h]⟩
def ahI(es:List AV)(H:aa)(s:AV):Prop:=(s=aO/\es=[])\/(∃r,s = .bk r 0 0 (some 0)/\es=[]/\H.get r=some ⟨2,[],true,false⟩) \/∃r,s = .bk r 0 es.length none/\H.get r=some ⟨2,es,true,false⟩
def Qj{H:aa}(a:Fr H){d t:Nat}:H.get ⟨d,t,H.gen d t,0⟩=none:=a d t _ 0 (cG _)
def VM{es:List AV}{H:aa}{s v:AV}{n:Nat}{a:Ref}{j:Option Nat}{fz:Bool}(D:ahI es H s)(K:H.get a=some ⟨2,[v],true,fz⟩)(hc:(j.getD 1)=1)(C:s.at?≠some a)(X:n<=es.length)(hl:es.length<1000000)(p:Fr H)(dep:Nat) :
 ∃r' H',dg env dep (.fn 49) [s,aI n,.bk a 0 1 j] H=some (.bk r' 0 (es.length+1) none,H')/\H'.get r'=some ⟨2,dy es n v,true,false⟩/\Fr H' /\
  ∀q b,H.get q=some b->s.at?≠some q->H'.get q=some b/\r'≠q:=by
 by_cases o:n<es.length
 ·rcases D with ⟨rfl,rfl⟩ | ⟨r,rfl,rfl,k⟩ | ⟨r,rfl,k⟩
  ·exact absurd o (by simp)
  ·exact absurd o (by simp)
  have F:r≠a:=(by intro e;rw[e]at C;exact C rfl);have B:(es.length+1) * 32<=aJ:=by unfold aJ;omega
  have J:oy Tryz.prog 22 40 [.bk r 0 es.length none,aI n,.bk a 0 1 j] H=some (.bk ⟨r.d,r.t,H.gen r.d r.t,0⟩ 0 (es.length+1) none,xI 40 H r ⟨2,dy es n v,true,false⟩):=(by have u:(ca Tryz.prog 22).bind (aE Tryz.prog)=some 2:=(by kernel_rfl);have E:(ca Tryz.prog 22).bind (gP Tryz.prog)=some 32:=(by kernel_rfl);simp only[oy,k,K,u,E];rw[if_pos (by refine⟨?_,?_,?_,?_,?_,?_,?_,?_,?_,?_,?_,?_⟩<;>first | trivial | exact F | exact B | omega | rfl | decide)];rfl);have S:H.get (qH 40 H r)=none:=Qj p;refine⟨_,_,Ty J,?_,?_,?_⟩;·rw[oP 40 _ S,if_pos rfl]
  ·unfold xI qH;have T : ∀d t,(H.put r none).gen d t=H.gen d t:=λd t=>aa.ej H r none (by rw[k];rfl) d t;refine pk (pk (uT p (by rw[k];rfl) _) (T _ _).symm _) ?_ _;rw[aa.nU,if_neg (λh=>by have:=h.1;omega),T]
  intro q b m I;have G:q≠r:=by rintro rfl;exact I rfl
  have f:(⟨r.d,r.t,H.gen r.d r.t,0⟩:Ref)≠q:=(by intro e;rw[<-e,Qj p]at m;cases m);exact⟨by rw[oP 40 q S,if_neg f,if_neg G];exact m,f⟩
 obtain rfl:n=es.length:=by omega
 have l:dy es es.length v=es++[v]:=(by simp[dy]);rw[l];clear X o l;have A:Sa H.get 2 [v] (.bk a 0 1 j) := .inr ⟨rfl,by simp,by simp[cy,K]⟩;have own:Ej 2 es H s ->∀dep,∃r' H',dm env.P true H ⟨dep+1,25,H.gen (dep+1) 25,0⟩ (some 22) (some 22) s (.bk a 0 1 j)=some (.bk r' 0 (es.length+1) none,H')/\H'.get r'=some ⟨2,es++[v],true,false⟩/\Fr H' /\
  ∀q b,H.get q=some b->s.at?≠some q->H'.get q=some b/\r'≠q:=by
  intro ho dep;have h:=Oq (P:=env.P) (t:=22) (t':=22) (z:=2) (by':=32) (by kernel_rfl) (by kernel_rfl) H (dep+1) 25 ho A (by simp[aJ];omega) p;obtain⟨s',H',W,N,a3,O⟩:=h;rcases N with ⟨_,h0⟩ | ⟨r',rfl,N⟩
  ·simp at h0
  refine⟨r',H',?_,N,a3,λq b u E=>⟨(O q b u E).1,?_⟩⟩;·rw[W];simp
  have:=(O q b u E).2;rintro rfl;exact this rfl
 have key : ∀dep,∃r' H',dm env.P true H ⟨dep+1,25,H.gen (dep+1) 25,0⟩ (some 22) (some 22) s (.bk a 0 1 j)=some (.bk r' 0 (es.length+1) none,H')/\H'.get r'=some ⟨2,es++[v],true,false⟩/\Fr H' /\
  ∀q b,H.get q=some b->s.at?≠some q->H'.get q=some b/\r'≠q:=by
  intro dep;rcases D with ⟨rfl,rfl⟩ | ⟨r,rfl,rfl,k⟩ | ⟨r,rfl,k⟩
  ·exact own (.inl ⟨rfl,rfl⟩) dep
  ·have x:jw env.P 22=2:=(by kernel_rfl);have Q:oe env.P 22=32:=(by kernel_rfl);have h:=Bh (P:=env.P) (t:=22) (t':=22) (by kernel_rfl) (by kernel_rfl) true H ⟨dep+1,25,H.gen (dep+1) 25,0⟩ r 0 0 (.bk a 0 1 j) (es:=[]) (new:=[v]) (fz:=false) (by rw[x];exact k) (by rw[x];simp[K,aah]) rfl (.inr ⟨by rw[Q];simp[aJ],by simp⟩);rw[x,if_neg (by simp)]at h;refine⟨_,_,h,?_,?_,?_⟩;·rw[aa.cL,if_pos rfl]
   ·exact pk p rfl _
   intro q b m _;have f:(⟨dep+1,25,H.gen (dep+1) 25,0⟩:Ref)≠q:=by
    intro e;rw[<-e,Qj p]at m;cases m
   exact⟨by rw[aa.cL,if_neg f];exact m,f⟩
  exact own (.inr ⟨r,rfl,k⟩) dep
 obtain⟨r',H',k1,Y,Z,V⟩:=key dep;obtain⟨y,M,u,R,x⟩ : ∃y M,dg env dep (.fn 49) [s,aI es.length,.bk a 0 1 j] H=some (y,M)/\y = .bk r' 0 (es.length+1) none/\M=H':=by
  refine qn (fn:=Tryz.f49) (c:=dP) (by kernel_rfl) (by kernel_rfl) (by kernel_rfl) (by kernel_rfl) (by kernel_rfl) ?_ ?_
  ·refine dN _ _ _ _ _ _ λg=>?_;rcases D with ⟨rfl,rfl⟩ | ⟨r,rfl,rfl,k⟩ | ⟨r,rfl,k⟩
   ·simp[aj, *,aY,k1];done
   ·simp[aj, *,aY,k1];done
   simp[aj, *,aY,k1];done
  cases h:env.thrSpec 49 [s,aI es.length,.bk a 0 1 j] H with| none=>rfl| some w=>
   exfalso;have U:oy Tryz.prog 22 40 [s,aI es.length,.bk a 0 1 j] H=some (w.1,w.2):=h;obtain⟨r,n,i,rv',cv',b,bv,v',z',by',he,L,_⟩:=DR U;simp only[wR,AV.v.injEq,iQD]at he;obtain⟨rfl,⟨_,rfl⟩,_⟩:=he;unfold NC at L;rcases D with ⟨e,_⟩ | ⟨q,e,_⟩ | ⟨q,e,_⟩
   ·cases e
   ·cases e
   injection e with R x Q e4
   omega
 exact⟨r',H',by rw[u,R,x],Y,Z,V⟩
@[simp] def aex(n:Int)(b:0<=n):ar env 98 [aI n,aI 4]=some (.bg 1 (au (be 4 n)) none):=by
 refine aF rfl (by kernel_rfl) (Ca _ _ _ _ λg=>?_);have a:IntKind.i64.wrap (-1) = -1:=rfl;have c:IntKind.i64.wrap 0=0:=rfl;simp[aj, *,xN];refine dQ _ _ _ _ _ λg=>?_;simp[aj, *,dA,cK,cF];refine dQ _ _ _ _ _ λg=>?_;simp[aj, *,dA,cK,cF];refine dQ _ _ _ _ _ λg=>?_;simp[aj, *,dA,cK,cF];refine dQ _ _ _ _ _ λg=>?_;simp[aj, *,dA,cK,cF];refine dQ _ _ _ _ _ λg=>?_;simp[aj, *,dA,uu,au]
@[simp] def SD(n:Int)(b:0<=n):ar env 98 [aI n,aI 7]=some (.bg 1 (au (be 7 n)) none):=by
 refine aF rfl (by kernel_rfl) (Ca _ _ _ _ λg=>?_);have a:IntKind.i64.wrap (-1) = -1:=rfl;have c:IntKind.i64.wrap 0=0:=rfl;simp[aj, *,xN];refine dQ _ _ _ _ _ λg=>?_;simp[aj, *,dA,cK,cF];refine dQ _ _ _ _ _ λg=>?_;simp[aj, *,dA,cK,cF];refine dQ _ _ _ _ _ λg=>?_;simp[aj, *,dA,cK,cF];refine dQ _ _ _ _ _ λg=>?_;simp[aj, *,dA,cK,cF];refine dQ _ _ _ _ _ λg=>?_;simp[aj, *,dA,cK,cF];refine dQ _ _ _ _ _ λg=>?_;simp[aj, *,dA,cK,cF];refine dQ _ _ _ _ _ λg=>?_;simp[aj, *,dA,cK,cF];refine dQ _ _ _ _ _ λg=>?_;simp[aj, *,dA,QF,au]
def Ta{d:AV}{Q:AV->aa->Prop}{l:List UInt8}(f:Sl 1 (au l) d)(u:l.length<=7) : ∀(s:List UInt8)(k:Nat)(i a:Int)(H:aa),l.drop k=s->k<=l.length->i=k->0<=a->a<256 ^ k ->
 (∀y H',y=aI (vc a s)->Q y H') ->
 bS env Tryz.f148 0 tJ [(7,aI i),(2,aI a),(5,d),(6,aI l.length)] H Q:=by
 intro s;induction s with
 | nil=>rintro k i a H hs hk rfl h0 h1 hQ;obtain rfl:=drop_nil hs hk;refine B9 _ _ _ _ _ _ λg=>?_;simp[aj, *,xM];exact hQ _ _ rfl
 | cons b s h=>rintro k i a H hs hk rfl h0 h1 hQ;obtain⟨m,o,c,j⟩:=drop_cons hs;refine B9 _ _ _ _ _ _ λg=>?_;have n:=b.toNat_lt;have q:=qX (k:=k) 6 (by omega);have e:=Gk h0 (by omega) b;have t:=iQa (a * 256) (by omega);have p:=iQa ((k:Int)+1) (by omega);simp[aj, *,xM,yM,f.idx];exact h (k+1) _ _ _ c (by omega) (by simp) (by omega) (by rw[vI];omega) hQ
@[simp] def Pp{x:AV}{l:List UInt8}(a:Sl 1 (au l) x)(b:l.length<=7):ar env 148 [x]=some (aI (val l)):=by
 refine aF rfl (by kernel_rfl) (MD _ _ _ λg=>?_);have h:=a.len;simp[aj, *,FU];exact Ta a b l 0 _ _ _ rfl (by omega) rfl (by omega) (by simp) (λy H' e=>by simp[e,val])
def cE(h:R9):List UInt8:=h.lv :: (be 4 h.cats.toNat++[h.num])
@[simp] def CW(h:R9):(cE h).length=6:=by simp[cE]
@[simp] def MW(a:UInt8)(b:UInt32)(n:UInt8):ar env 66 [.agg [a8 a,bR b,a8 n]]=some (if fT ⟨a,b,n⟩ then .tup [.fsl 1 (au (cE ⟨a,b,n⟩)) none,aI 0] else .tup [aO,aI 8]):=by
 refine aF rfl (by kernel_rfl) (EB _ _ _ λg=>?_);cases h:fT ⟨a,b,n⟩ with
 | true=>simp[aj, *,tF,bad,au,cE]
 | false=>simp[aj, *,tF,bad]
def dW(i:Au):List UInt8:=cE i.h++be 7 i.n
@[simp] def P5(i:Au):(dW i).length=13:=by simp[dW]
@[simp] def ajj(a:UInt8)(b:UInt32)(n:UInt8)(k:Int):ar env 100 [.agg [a8 a,bR b,a8 n,aI k]]=some (if Al ⟨⟨a,b,n⟩,k⟩ then .tup [.bg 1 (au (dW ⟨⟨a,b,n⟩,k⟩)) none,aI 0] else .tup [aO,aI 8]):=by
 refine aF rfl (by kernel_rfl) (O8 _ _ _ λg=>?_);cases h:Al ⟨⟨a,b,n⟩,k⟩ with
 | true=>
  have c:=Kp h;have d:=SD k (by simp only at c;omega);have e:fT ⟨a,b,n⟩=true:=by simp only[Al,bo]at h;exact h.1
  simp only at c;simp[aj, *,C5,bad,au,dW]
 | false=>simp[aj, *,C5,bad]
def YQ{c:Option Nat}{a n b1 b2 b3 b4:UInt8}(b:6<=c.getD 6):ar env 128 [.bg 1 [a8 a,a8 b1,a8 b2,a8 b3,a8 b4,a8 n] c]=some (.agg [a8 a,bR (u32 (val [b1,b2,b3,b4])),a8 n,aI (bad (fT ⟨a,u32 (val [b1,b2,b3,b4]),n⟩))]):=by
 refine aF rfl (by kernel_rfl) (Dg _ _ _ λg=>?_);have d:=Pp (l:=[b1,b2,b3,b4]) (x := .bg 1 [a8 b1,a8 b2,a8 b3,a8 b4] (c.map (· - 1))) (Sl.ZD (LZ b (by simp))) (by simp);have e:=yy [b1,b2,b3,b4];generalize val [b1,b2,b3,b4]=v at *;simp[aj, *,zY]
def Fu{c:Option Nat}{a n b1 b2 b3 b4:UInt8}(b:6<=c.getD 6):ar env 111 [.bg 1 [a8 a,a8 b1,a8 b2,a8 b3,a8 b4,a8 n] c] =
 some (if fT ⟨a,u32 (val [b1,b2,b3,b4]),n⟩ then .tup [.agg [a8 a,bR (u32 (val [b1,b2,b3,b4])),a8 n],aI 0] else .tup [.agg [a8 0,bR 0,a8 0],aI 8]):=by
 refine aF rfl (by kernel_rfl) (EC _ _ _ λg=>?_);have d:=YQ (a:=a) (n:=n) (b1:=b1) (b2:=b2) (b3:=b3) (b4:=b4) b;generalize val [b1,b2,b3,b4]=v at *;cases h:fT ⟨a,u32 v,n⟩<;>simp[aj, *,za,bad]
def SE{c:Option Nat}{a n b1 b2 b3 b4 d1 d2 d3 d4 d5 d6 d7:UInt8}(b:13<=c.getD 13):ar env 128 [.bg 1 [a8 a,a8 b1,a8 b2,a8 b3,a8 b4,a8 n,a8 d1,a8 d2,a8 d3,a8 d4,a8 d5,a8 d6,a8 d7] c]=some (.agg [a8 a,bR (u32 (val [b1,b2,b3,b4])),a8 n,aI (bad (fT ⟨a,u32 (val [b1,b2,b3,b4]),n⟩))]):=by
 refine aF rfl (by kernel_rfl) (Dg _ _ _ λg=>?_);have d:=Pp (l:=[b1,b2,b3,b4]) (x := .bg 1 [a8 b1,a8 b2,a8 b3,a8 b4] (c.map (· - 1))) (Sl.ZD (LZ b (by simp))) (by simp);have e:=yy [b1,b2,b3,b4];generalize val [b1,b2,b3,b4]=v at *;simp[aj, *,zY]
def acD{c:Option Nat}{a n b1 b2 b3 b4 d1 d2 d3 d4 d5 d6 d7:UInt8}(b:13<=c.getD 13):ar env 149 [.bg 1 [a8 a,a8 b1,a8 b2,a8 b3,a8 b4,a8 n,a8 d1,a8 d2,a8 d3,a8 d4,a8 d5,a8 d6,a8 d7] c] =
 some (if Al ⟨⟨a,u32 (val [b1,b2,b3,b4]),n⟩,val [d1,d2,d3,d4,d5,d6,d7]⟩ then .tup [.agg [a8 a,bR (u32 (val [b1,b2,b3,b4])),a8 n,aI (val [d1,d2,d3,d4,d5,d6,d7])],aI 0] else .tup [.agg [a8 0,bR 0,a8 0,aI 0],aI 8]):=by
 refine aF rfl (by kernel_rfl) (O9 _ _ _ λg=>?_);have e:=SE (a:=a) (n:=n) (b1:=b1) (b2:=b2) (b3:=b3) (b4:=b4) (d1:=d1) (d2:=d2) (d3:=d3) (d4:=d4) (d5:=d5) (d6:=d6) (d7:=d7) b;have d:=Pp (l:=[d1,d2,d3,d4,d5,d6,d7]) (x := .bg 1 [a8 d1,a8 d2,a8 d3,a8 d4,a8 d5,a8 d6,a8 d7] (c.map (· - 6))) (Sl.ZD (LZ b (by simp))) (by simp);generalize val [b1,b2,b3,b4]=v at *;generalize val [d1,d2,d3,d4,d5,d6,d7]=w at *;cases h:Al ⟨⟨a,u32 v,n⟩,w⟩<;>simp[aj, *,Jb,bad]
def uH(n:Int):Bool:=(decide (0<=n)&&decide (n<55296))||(decide (57343<n)&&decide (n<=1114111))
@[simp] def aiq(n:Int):ar env 146 [.v (.int .i32 n)]=some (aB (uH n)):=by
 refine aF rfl (by kernel_rfl) (wD _ _ _ λg=>?_);simp[aj, *,pF,uH];repeat' ((first | apply si<;>intro h | apply nL<;>intro h | apply nM<;>intro h | apply nJ<;>intro h | apply nK<;>intro h)<;>(try simp only[iQb,iQc,iB,qQ,bo,jH]at h)<;>(try simp[aj, *]))
 all_goals (try grind)
@[simp] def ain(n:Int):ar env 145 [.v (.int .i32 n)]=some (aB (!iC n)):=by
 refine aF rfl (by kernel_rfl) (EA _ _ _ λg=>?_);by_cases h:n = -1;·subst h;simp[aj, *,tC,iC]
 simp[aj, *,tC,iC,uH]
def zQ:List Int->Nat->Int
 | [],_ => -1
 | n :: l,k=>if iC n then zQ l (k+1) else k
def P4(l:List Int) : ∀k:Nat,(0<=zQ l k↔l.all iC=false):=by
 induction l with| nil=>intro k;simp[zQ]| cons n l b=>
  intro k;unfold zQ;cases h:iC n with
  | true=>rw[if_pos rfl,b,tU,h,iZ]
  | false=>simp[h]
def O0{x0:AV}{Q:AV->aa->Prop}{l:List Int}(a:Sl 1 (rows l) x0)(f:l.length<4611686018427387904) : ∀(s:List Int)(k:Nat)(i:Int)(H:aa),l.drop k=s->k<=l.length->i=k ->
 (∀y H',y=aI (zQ s k)->Q y H') ->
 bS env Tryz.f155 0 eI [(8,aI i),(0,x0),(1,.fn (.func 145) [] []),(7,aI l.length)] H Q:=by
 intro s;induction s with
 | nil=>rintro k i H hs hk rfl hQ;obtain rfl:=drop_nil hs hk;refine kU _ _ _ _ _ _ λg=>?_;simp[aj, *,eJ];all_goals exact hQ _ _ rfl
 | cons b s j=>
  rintro k i H hs hk rfl hQ;obtain⟨o,p,c,n⟩:=drop_cons hs;refine kU _ _ _ _ _ _ λg=>?_;have q:=iQa ((k:Int)+1) (by omega);cases h:iC b with
  | true=>simp[aj, *,eJ,a.idx,rows,aR];exact j (k+1) _ _ c (by omega) (by simp) (λy H' e=>hQ y H' (by simp[e,zQ,h]))
  | false=>simp[aj, *,eJ,a.idx,rows,aR];exact hQ _ _ (by simp[zQ,h])
section
variable{x:AV}{l:List Int}(a:Sl 1 (rows l) x)(f:l.length<4611686018427387904)
include a f
theorem Pr:ar env 155 [x,.fn (.func 145) [] []]=some (aI (zQ l 0)):=by
 refine aF rfl (by kernel_rfl) (rD _ _ _ _ λg=>?_);have h:=a.len;simp[aj, *,lE];exact O0 a f l 0 _ _ rfl (by omega) rfl (λy H' e=>by simp[e])
theorem VO:ar env 147 [x,.fn (.func 145) [] []]=some (aB (!l.all iC)):=by
 refine aF rfl (by kernel_rfl) (pN _ _ _ _ λg=>?_);have h:=Pr a f;have e:decide (0<=zQ l 0) = !l.all iC:=by
  have:=P4 l 0;cases h:l.all iC<;>simp[h]at this ⊢ <;> omega
 simp[aj, *,kB,a.r]
theorem EH:ar env 123 [x]=some (aI (yG l)):=by
 refine aF rfl (by kernel_rfl) (Hi _ _ _ λg=>?_);have h:=VO a f;have c:=a.len;by_cases b:64<l.length
 ·have:(64:Int)<l.length:=by omega
  simp[aj, *,wz,yG,a.r]
 have : ¬(64:Int)<l.length:=by omega
 cases e:l.all iC<;>simp[aj, *,wz,yG,a.r]
end
def Qp{x0 o:AV}{Q:AV->aa->Prop}{l m:List Int}(a:Sl 1 (rows l) x0)(d:Sl 1 (rows m) o)(f:l.length<4611686018427387904)(n:m.length=l.length) : ∀(s t:List Int)(k:Nat)(i:Int)(H:aa),l.drop k=s->m.drop k=t->k<=l.length->i=k ->
 (∀y H',y=aB (decide (s=t))->Q y H') ->
 bS env Tryz.f126 0 fy [(13,aI i),(1,o),(0,x0),(12,aI l.length)] H Q:=by
 intro s;induction s with
 | nil=>rintro t k i H hs ht hk rfl hQ;obtain rfl:=drop_nil hs hk;rw[<-n,KH]at ht;subst ht;refine lT _ _ _ _ _ _ λg=>?_;simp[aj, *,fC];all_goals exact hQ _ _ rfl
 | cons b s z=>
  rintro t k i H hs ht hk rfl hQ;obtain⟨w,B,j,A⟩:=drop_cons hs;cases t with
  | nil=>have:=iQg List.length ht;simp at this;omega
  | cons c t=>
  obtain⟨u,v,h,q⟩:=drop_cons ht;refine lT _ _ _ _ _ _ λg=>?_;have C:=iQa ((k:Int)+1) (by omega);by_cases p:b=c;·subst p;simp[aj, *,fC,a.idx,d.idx,rows,aR];exact z t (k+1) _ _ j h (by omega) (by simp) (λy H' e=>hQ y H' (by simp[e]))
  simp[aj, *,fC,a.idx,d.idx,rows,aR];all_goals exact hQ _ _ (by simp[p])
def Sz{x0 o:AV}{Q:AV->aa->Prop}{l m:List Int}(a:Sl 1 (rows l) x0)(d:Sl 1 (rows m) o)(f:l.length<4611686018427387904)(n:m.length=l.length) : ∀(s t:List Int)(k:Nat)(i:Int)(H:aa),l.drop k=s->m.drop k=t->k<=l.length->i=k ->
 (∀y H',y=aB (decide (s=t))->Q y H') ->
 bS env Tryz.f83 0 jr [(5,aI i),(1,o),(0,x0)] H Q:=by
 intro s;induction s with
 | nil=>rintro t k i H hs ht hk rfl hQ;obtain rfl:=drop_nil hs hk;rw[<-n,KH]at ht;subst ht;refine px _ _ _ _ _ λg=>?_;simp[aj, *,ju,a.len];all_goals exact hQ _ _ rfl
 | cons b s z=>
  rintro t k i H hs ht hk rfl hQ;obtain⟨w,B,j,A⟩:=drop_cons hs;cases t with
  | nil=>have:=iQg List.length ht;simp at this;omega
  | cons c t=>
  obtain⟨u,v,h,q⟩:=drop_cons ht;refine px _ _ _ _ _ λg=>?_;have C:=iQa ((k:Int)+1) (by omega);by_cases p:b=c;·subst p;simp[aj, *,ju,a.idx,d.idx,a.len,rows,aR];exact z t (k+1) _ _ j h (by omega) (by simp) (λy H' e=>hQ y H' (by simp[e]))
  simp[aj, *,ju,a.idx,d.idx,a.len,rows,aR];all_goals exact hQ _ _ (by simp[p])
section
variable{x y:AV}{l m:List Int}(a:Sl 1 (rows l) x)(d:Sl 1 (rows m) y)(f:l.length<4611686018427387904)
include a d f
theorem SI:ar env 126 [x,y]=some (aB (decide (l=m))):=by
 refine aF rfl (by kernel_rfl) (tf _ _ _ _ λg=>?_);have j:=a.len;have k:=d.len;by_cases h:m.length=l.length
 ·have i:(m.length:Int)=l.length:=by omega
  simp[aj, *,jE];exact Qp a d f h l m 0 0 _ rfl rfl (by omega) rfl (λy H' e=>by simp[e])
 have i : ¬(l.length:Int)=m.length:=by omega
 have b:l≠m:=λe=>h (by rw[e]);have c : ¬(m.length:Int)=l.length:=by omega
 simp[aj, *,jE]
theorem Vu:ar env 83 [x,y]=some (aB (decide (l=m))):=by
 refine aF rfl (by kernel_rfl) (yx _ _ _ _ λg=>?_);have j:=a.len;have k:=d.len;by_cases h:m.length=l.length
 ·have i:(m.length:Int)=l.length:=by omega
  simp[aj, *,nh];exact Sz a d f h l m 0 0 _ rfl rfl (by omega) rfl (λy H' e=>by simp[e])
 have i : ¬(l.length:Int)=m.length:=by omega
 have b:l≠m:=λe=>h (by rw[e]);have c : ¬(m.length:Int)=l.length:=by omega
 simp[aj, *,nh]
end
def QH : ∀(l:List eb)(a:Int),gp a l=true ->∀s∈l,a<s.pos:=by
 intro l;induction l with
 | nil=>intro a h s e;cases e
 | cons p l f=>
  intro a h s e;simp[gp]at h;rcases fh.1 e with rfl | e
  ·exact h.1.1.1
  have:=f _ h.2 s e;have:=h.1.1.1;omega
def Iv(l:List eb)(q:Int):nth l q<=l.length:=by
 unfold nth;exact(List.takeWhile_sublist _).length_le
def Iu(q:Int) : ∀(l:List eb)(a:Int),gp a l=true ->∀k (h:k<l.length),(l[k].pos<q↔k<nth l q):=by
 intro l;induction l with
 | nil=>intro a h k f;exact absurd f (by simp)
 | cons p l g=>
  intro a h k f;have j:=QH l p.pos (by simp[gp]at h;exact h.2);have i:gp p.pos l=true:=by simp[gp]at h;exact h.2
  unfold nth;by_cases hp:p.pos<q
  ·rw[KZ (by simpa using hp),gD];cases k with
   | zero=>simp[hp]
   | succ k=>have e:k<l.length:=(by simpa using f);have:=g p.pos i k e;unfold nth at this;simp only[iQE];rw[this];omega
  rw[KY (by simpa using hp)];cases k with
  | zero=>simp[hp]
  | succ k=>have e:k<l.length:=(by simpa using f);have:=j l[k] (eE _);simp only[iQE,kS];omega
def vk{l:List eb}{st lf:Int}{dd:Bool}(h:Eh l st lf dd=true):gp (-1) l=true:=by
 unfold Eh at h;simp at h;exact h.1
def rdB(l:List eb)(q:Int):List UInt8:=if ke l q (nth l q) then ((l[nth l q]?).map (·.bs)).getD [] else List.replicate 128 0
section
variable{l:List eb}{x:AV}{st lf:Int}{dd:Bool}(c:Sl 2 (aG l) x)(b : ∀s∈l,iX s)(d:l.length<1000000)
include c b d
theorem acv{q:Int}:ar env 59 [cz x st lf dd,aI q]=some (
 if Eh l st lf dd then (if 0<=q/\q<6146 then .tup [.bg 1 (au (rdB l q)) none,aI 0] else .tup [aO,aI 2]) else .tup [aO,aI 8]):=by
 refine aF rfl (by kernel_rfl) (Lg _ _ _ _ λg=>?_);have a:=Dp (st:=st) (lf:=lf) (dd:=dd) c b (by omega) (q:=q);cases hd:Eh l st lf dd;·simp[hd]at a;simp only[cz]at a ⊢;simp[aj, *,sv,c.r]
 simp[hd]at a;by_cases f:0<=q/\q<6146
 ·rw[if_pos f]at a;have k:=Pq (st:=st) (lf:=lf) (dd:=dd) c b d (Iu q l (-1) (vk hd)) (Iv l q);cases e:ke l q (nth l q)
  ·obtain⟨Z,m⟩ : ∃Z:List UInt8,Z=List.replicate 128 0:=⟨_,rfl⟩;have w:Z.length=128:=by rw[m];rfl
   have u:rdB l q=Z:=by unfold rdB;rw[e,m];rfl
   rw[e]at k;simp only[cz,u]at a k ⊢;rw[if_pos f];have o:=yK (P:=env.P) (t:=57) (z:=1) (by':=1) (zz:=a8 0) (r:=⟨0,23,0,0⟩) (by kernel_rfl) (by kernel_rfl) (n:=128) (by decide) (by decide);rw[show List.replicate 128 (a8 0)=au Z from by rw[m];rfl,show((128:Nat):Int)=128 from rfl]at o;clear m;simp[aj, *,sv,c.r]
  have j:nth l q<l.length:=by
   unfold ke at e;cases h:l[nth l q]? with
   | none=>rw[h]at e;cases e
   | some s=>exact(ee.1 h).1
  obtain⟨p,hp⟩ : ∃p,p=l[nth l q]:=⟨_,rfl⟩;have i:=b p (by rw[hp];exact eE _);have u:rdB l q=p.bs:=by simp[rdB,e,j,hp]
  have A:=Vp i (tL l (-1) (vk hd) p (by rw[hp];exact eE _));have v:=i.r;rw[e]at k;simp only[cz,u]at a k ⊢;rw[if_pos f];have y:bF (aG l) (nth l q) 1 1 false=some p.av:=by simp[aG,j,eb.enc,hp]
  clear b;subst hp;simp[aj, *,sv,c.r,c.idx]
 rw[if_neg f]at a;simp only[cz]at a ⊢;rw[if_neg f];simp[aj, *,sv,c.r]
end
def Kn{es:List AV}{H:aa}{s v:AV}{n:Nat}{e:Ref}{h:Option Nat}{fz:Bool}{a:Ref}{k:AV->aa->Prop}(j:ahI es H s)(t:H.get e=some ⟨2,[v],true,fz⟩)(z:(h.getD 1)=1)(g:s.at?≠some e)(y:n<=es.length)(i:es.length<1000000)(p:Fr H)
 (w : ∀r' H',H'.get r'=some ⟨2,dy es n v,true,false⟩->Fr H'->(∀q b,H.get q=some b->s.at?≠some q->H'.get q=some b/\r'≠q)->k (.bk r' 0 (es.length+1) none) H') :
 iE (bm env true (ar env) (dg env 0) H a (some (.fn (.func 49) [] [])) [s,aI n,.bk e 0 1 h]) k:=by
 obtain⟨r',H',u,A,o,m⟩:=VM j t z g y i p 0;refine wq (v := .bk r' 0 (es.length+1) none) (H:=H') ?_ (w r' H' A o m);rw[Qw (by kernel_rfl)];exact u
def EE : ∀(l:List eb)(a:Int),gp a (mv l)=gp a l:=by
 intro l;induction l with
 | nil=>intro a;rfl
 | cons p l e=>intro a;show(_&&gp p.pos (mv l))=_;rw[e];rfl
def UX(l:List eb)(q:Int):nth (mv l) q=nth l q:=by
 unfold nth;induction l with
 | nil=>rfl
 | cons p l g=>
  show((Q9 p :: mv l).takeWhile _).length=_;by_cases h:p.pos<q;·have a:decide ((Q9 p).pos<q)=true:=iQh h;have e:decide (p.pos<q)=true:=iQh h;rw[KZ (p:=λs:eb=>decide (s.pos<q)) a,KZ (p:=λs:eb=>decide (s.pos<q)) e,gD,gD,g]
  have a : ¬decide ((Q9 p).pos<q)=true:=by rw[iQb];exact h
  have e : ¬decide (p.pos<q)=true:=by rw[iQb];exact h
  rw[KY (p:=λs:eb=>decide (s.pos<q)) a,KY (p:=λs:eb=>decide (s.pos<q)) e]
def UY(l:List eb)(q:Int)(n:Nat):ke (mv l) q n=ke l q n:=by
 unfold ke mv;rw[mr];cases l[n]?<;>rfl
def oC(q:Int)(b:List UInt8):eb:=⟨q,b,.bg 1 (au b) none⟩
def Ya(l:List eb)(q:Int)(b:List UInt8):List eb:=
 if ke l q (nth l q) then (mv l).set (nth l q) (oC q b) else (mv l).take (nth l q)++oC q b :: (mv l).drop (nth l q)
def WZ{l:List eb}{q:Int}{n:Nat}(a:ke l q n=true) : ∃h:n<l.length,l[n].pos=q:=by
 unfold ke at a;cases h:l[n]? with
 | none=>rw[h]at a;cases a
 | some s=>obtain⟨e,g⟩:=ee.1 h;rw[h]at a;exact⟨e,by rw[g];simpa using a⟩
def Ze(l:List eb)(n:Nat)(h:n<l.length)(b:List UInt8):fm (aG l) n 1 [.bg 1 (au b) none]=some (aG (l.set n (oC l[n].pos b))):=by
 have e:(aG l)[n]?=some l[n].enc:=by simp[aG,h]
 unfold fm;rw[e];unfold aG;rw[GJ];rfl
def ZS(l:List eb)(n:Nat)(h:n<=l.length)(q:Int)(b:List UInt8):fm (dy (aG l) n (.agg [aI q,aO])) n 1 [.bg 1 (au b) none]=some (aG (l.take n++oC q b :: l.drop n)):=by
 have a:((aG l).take n).length=n:=by simp;omega
 have e:(dy (aG l) n (.agg [aI q,aO]))[n]?=some (.agg [aI q,aO]):=by
  unfold dy;rw[gU (by omega),a,pV];rfl
 unfold fm;rw[e];have g:(dy (aG l) n (.agg [aI q,aO])).set n (oC q b).enc=aG (l.take n++oC q b :: l.drop n):=by
  unfold dy;rw[Fm _ _ (by omega),a,pV,Fi];simp[aG]
 rw[<-g];rfl
section
variable{l:List eb}{x xb:AV}{st lf:Int}{dd:Bool}{b:List UInt8}(c:Sl 2 (aG l) x)(d : ∀s∈l,iX s)(i:l.length<500000)(f:Sl 1 (au b) xb)
include c d i f
theorem MR{q:Int}(hd:Eh l st lf dd=true)(k:0<=q/\q<6146)(h:b.length=128)(a:dd=true\/lf=0):ar env 24 [cz x st lf dd,aI q,xb]=some (
 .tup [cz (vw (Sm x l)) st lf true,aI 0]):=by
 refine aF rfl (by kernel_rfl) (Cb _ _ _ _ _ λg=>?_);have j:=Dp (st:=st) (lf:=lf) (dd:=dd) c d (by omega) (q:=q);have n:=f.r;have o:=Lq (st:=st) (lf:=lf) (dd:=dd) c d (tL l (-1) (vk hd)) (by omega);have m:=Ge c;generalize Sm x l=y at *;simp[hd,k]at j;simp only[cz]at j o ⊢;clear d hd k;rcases a with rfl | rfl
 ·rcases m with ⟨rfl,e⟩ | rfl | ⟨rfl,e⟩<;>simp[aj, *,gK,c.r,vw]
 cases dd<;>rcases m with ⟨rfl,e⟩ | rfl | ⟨rfl,e⟩<;>simp[aj, *,gK,c.r,vw]
theorem SF{q:Int}(hd:Eh l st lf false=true)(V:0<=q/\q<6146)(F:b.length=128)(Y : ¬lf=0):ar env 24 [cz x st lf false,aI q,xb]=some (
 .tup [cz (.bg 2 (aG (Ya l q b)) none) st (if lf>0 then lf - 1 else lf) false,aI 0]):=by
 refine aF rfl (by kernel_rfl) (Cb _ _ _ _ _ λg=>?_);have T:=Dp (st:=st) (lf:=lf) (dd:=false) c d (by omega) (q:=q);have hbl:=f.r;have ho:=Vp f F;have hT:=Lq (st:=st) (lf:=lf) (dd:=false) c d (tL l (-1) (vk hd)) (by omega);have U:=Ge c;have A:=vk hd;have Z:(mv l).length<500000:=by simpa using i
 have k:=λ(y:AV)(st lf:Int)(dd:Bool)(X:Sl 2 (aG (mv l)) y)=>Pq (st:=st) (lf:=lf) (dd:=dd) X (CO l) (by omega) (Iu q (mv l) (-1) (by rw[EE];exact A)) (Iv _ q);have t:=Iv (mv l) q;have o:=λh=>Ze (mv l) (nth (mv l) q) h b;have hw2:=ZS (mv l) (nth (mv l) q) t q b;have G:Ya l q b=if ke (mv l) q (nth (mv l) q) then (mv l).set (nth (mv l) q) (oC q b) else (mv l).take (nth (mv l) q)++oC q b :: (mv l).drop (nth (mv l) q):=by
  unfold Ya;rw[UX,UY]
 rw[G];have p:=λh=>WZ (l:=mv l) (q:=q) (n:=nth (mv l) q) h;generalize nth (mv l) q=N at *;generalize Sm x l=y at *;generalize mv l=L at *;simp[hd,V]at T;have hst : -1<=lf/\lf<2147483648:=by
  unfold Eh E5 at hd;simp at hd;omega
 have ew:=iQa (lf - 1) (by omega);simp only[cz]at T hT k ⊢;clear d hd V G A;have j:ar env 48 [.agg [.bg 2 (aG L) none,aI st,aI (if lf>0 then lf - 1 else lf),aB false],aI q]=some (.tup [aI N,aB (ke L q N)]):=k _ _ _ _ (Sl.mk _ _);by_cases M:lf>0
 ·have Q:0<lf:=M;rw[if_pos M]at j ⊢;clear j;rcases U with ⟨rfl,B⟩ | rfl | ⟨rfl,B⟩
  ·have D:L=[]:=(by simpa [aG] using B);subst D;obtain rfl:N=0:=by simpa using t
   have u:ke [] q 0=false:=rfl;have j:=k aO st (lf - 1) false (.inl ⟨rfl,rfl⟩);rw[u]at j ⊢;clear o k p;have a:aG ((([]:List eb).take 0)++oC q b :: ([]:List eb).drop 0)=[.agg [aI q,.bg 1 (au b) none]]:=rfl;simp only[eW,iQe];rw[a];clear a;simp[aj, *,gK,c.r];refine Kn (es:=[]) (n:=0) (v := .agg [aI q,aO]) (fz:=false) (.inl ⟨rfl,rfl⟩) (by simp) (by rfl) (by simp) (cG 0) (by simp) (by simp(maxDischargeDepth:=12) [Ek, *]) λr' H' k1 H m=>?_;obtain⟨J,z⟩:=m ⟨0,3,0,0⟩ ⟨4,[.agg [aO,aI st,aI (lf - 1),aB false]],false,false⟩ (by simp) (by simp);obtain⟨E,w⟩:=m ⟨0,6,0,0⟩ ⟨4,[.agg [aO,aI 0,aI 0,aB false]],false,false⟩ (by simp) (by simp);have I:(⟨0,3,0,0⟩:Ref)≠r':=λe=>z e.symm;have K:(⟨0,6,0,0⟩:Ref)≠r':=λe=>w e.symm;have C:H'.get r'=some ⟨2,[.agg [aI q,aO]],true,false⟩:=k1;clear m k1;simp[*,aa.ab]
  ·cases u:ke L q N
   ·have j:=k _ st (lf - 1) false (Sl.mk _ _);rw[u]at j;clear o k p;simp[aj, *,gK,c.r];refine Kn (es:=aG L) (v := .agg [aI q,aO]) (fz:=false) (.inr (.inr ⟨_,by simp;rfl,by simp⟩)) (by simp) (by rfl) (by simp) (by simpa using t) (by simp;omega) (by simp(maxDischargeDepth:=12) [Ek, *]) λr' H' k1 H m=>?_;obtain⟨J,z⟩:=m ⟨0,3,0,0⟩ ⟨4,[.agg [.bk ⟨0,23,0,0⟩ 0 L.length none,aI st,aI (lf - 1),aB false]],false,false⟩ (by simp) (by simp);obtain⟨E,w⟩:=m ⟨0,6,0,0⟩ ⟨4,[.agg [aO,aI 0,aI 0,aB false]],false,false⟩ (by simp) (by simp);have I:(⟨0,3,0,0⟩:Ref)≠r':=λe=>z e.symm;have K:(⟨0,6,0,0⟩:Ref)≠r':=λe=>w e.symm;have P:(dy (aG L) N (.agg [aI q,aO])).length=L.length+1:=by rw[vq _ _ _ (by simpa using t)];simp
    have a:(aG (L.take N++oC q b :: L.drop N)).length=L.length+1:=by simp;omega
    have hN:N<L.length+1:=(by omega);clear m;generalize dy (aG L) N (.agg [aI q,aO])=W at *;generalize aG (L.take N++oC q b :: L.drop N)=W2 at *;simp[*,aa.ab];omega
   have j:=k _ st (lf - 1) false (Sl.mk _ _);obtain⟨R,S⟩:=p u;rw[u]at j;have O:=o R;rw[S]at O;clear o k p;rw[if_pos rfl];have a:(aG (L.set N (oC q b))).length=L.length:=by simp
   generalize aG (L.set N (oC q b))=W2 at *;simp[aj, *,gK,c.r]
  have D:L=[]:=(by simpa [aG] using B);subst D;obtain rfl:N=0:=by simpa using t
  have u:ke [] q 0=false:=rfl;have j:=k (.bg 2 [] (some 0)) st (lf - 1) false (.inr ⟨some 0,rfl,by simp⟩);rw[u]at j ⊢;clear o k p;have a:aG ((([]:List eb).take 0)++oC q b :: ([]:List eb).drop 0)=[.agg [aI q,.bg 1 (au b) none]]:=rfl;simp only[eW,iQe];rw[a];clear a;simp[aj, *,gK,c.r];refine Kn (es:=[]) (n:=0) (v := .agg [aI q,aO]) (fz:=false) (.inr (.inl ⟨_,by simp;rfl,rfl,by simp⟩)) (by simp) (by rfl) (by simp) (cG 0) (by simp) (by simp(maxDischargeDepth:=12) [Ek, *]) λr' H' k1 H m=>?_;obtain⟨J,z⟩:=m ⟨0,3,0,0⟩ ⟨4,[.agg [.bk ⟨0,23,0,0⟩ 0 0 (some 0),aI st,aI (lf - 1),aB false]],false,false⟩ (by simp) (by simp);obtain⟨E,w⟩:=m ⟨0,6,0,0⟩ ⟨4,[.agg [aO,aI 0,aI 0,aB false]],false,false⟩ (by simp) (by simp);have I:(⟨0,3,0,0⟩:Ref)≠r':=λe=>z e.symm;have K:(⟨0,6,0,0⟩:Ref)≠r':=λe=>w e.symm;have C:H'.get r'=some ⟨2,[.agg [aI q,aO]],true,false⟩:=k1;clear m k1;simp[*,aa.ab]
 have Q : ¬0<lf:=M;rw[if_neg M]at j ⊢;clear j ew;rcases U with ⟨rfl,B⟩ | rfl | ⟨rfl,B⟩
 ·have D:L=[]:=(by simpa [aG] using B);subst D;obtain rfl:N=0:=by simpa using t
  have u:ke [] q 0=false:=rfl;have j:=k aO st lf false (.inl ⟨rfl,rfl⟩);rw[u]at j ⊢;clear o k p;have a:aG ((([]:List eb).take 0)++oC q b :: ([]:List eb).drop 0)=[.agg [aI q,.bg 1 (au b) none]]:=rfl;simp only[eW,iQe];rw[a];clear a;simp[aj, *,gK,c.r];refine Kn (es:=[]) (n:=0) (v := .agg [aI q,aO]) (fz:=false) (.inl ⟨rfl,rfl⟩) (by simp) (by rfl) (by simp) (cG 0) (by simp) (by simp(maxDischargeDepth:=12) [Ek, *]) λr' H' k1 H m=>?_;obtain⟨J,z⟩:=m ⟨0,3,0,0⟩ ⟨4,[.agg [aO,aI st,aI lf,aB false]],false,false⟩ (by simp) (by simp);obtain⟨E,w⟩:=m ⟨0,6,0,0⟩ ⟨4,[.agg [aO,aI 0,aI 0,aB false]],false,false⟩ (by simp) (by simp);have I:(⟨0,3,0,0⟩:Ref)≠r':=λe=>z e.symm;have K:(⟨0,6,0,0⟩:Ref)≠r':=λe=>w e.symm;have C:H'.get r'=some ⟨2,[.agg [aI q,aO]],true,false⟩:=k1;clear m k1;simp[*,aa.ab]
 ·cases u:ke L q N
  ·have j:=k _ st lf false (Sl.mk _ _);rw[u]at j;clear o k p;simp[aj, *,gK,c.r];refine Kn (es:=aG L) (v := .agg [aI q,aO]) (fz:=false) (.inr (.inr ⟨_,by simp;rfl,by simp⟩)) (by simp) (by rfl) (by simp) (by simpa using t) (by simp;omega) (by simp(maxDischargeDepth:=12) [Ek, *]) λr' H' k1 H m=>?_;obtain⟨J,z⟩:=m ⟨0,3,0,0⟩ ⟨4,[.agg [.bk ⟨0,23,0,0⟩ 0 L.length none,aI st,aI lf,aB false]],false,false⟩ (by simp) (by simp);obtain⟨E,w⟩:=m ⟨0,6,0,0⟩ ⟨4,[.agg [aO,aI 0,aI 0,aB false]],false,false⟩ (by simp) (by simp);have I:(⟨0,3,0,0⟩:Ref)≠r':=λe=>z e.symm;have K:(⟨0,6,0,0⟩:Ref)≠r':=λe=>w e.symm;have P:(dy (aG L) N (.agg [aI q,aO])).length=L.length+1:=by rw[vq _ _ _ (by simpa using t)];simp
   have a:(aG (L.take N++oC q b :: L.drop N)).length=L.length+1:=by simp;omega
   have hN:N<L.length+1:=(by omega);clear m;generalize dy (aG L) N (.agg [aI q,aO])=W at *;generalize aG (L.take N++oC q b :: L.drop N)=W2 at *;simp[*,aa.ab];omega
  have j:=k _ st lf false (Sl.mk _ _);obtain⟨R,S⟩:=p u;rw[u]at j;have O:=o R;rw[S]at O;clear o k p;rw[if_pos rfl];have a:(aG (L.set N (oC q b))).length=L.length:=by simp
  generalize aG (L.set N (oC q b))=W2 at *;simp[aj, *,gK,c.r]
 have D:L=[]:=(by simpa [aG] using B);subst D;obtain rfl:N=0:=by simpa using t
 have u:ke [] q 0=false:=rfl;have j:=k (.bg 2 [] (some 0)) st lf false (.inr ⟨some 0,rfl,by simp⟩);rw[u]at j ⊢;clear o k p;have a:aG ((([]:List eb).take 0)++oC q b :: ([]:List eb).drop 0)=[.agg [aI q,.bg 1 (au b) none]]:=rfl;simp only[eW,iQe];rw[a];clear a;simp[aj, *,gK,c.r];refine Kn (es:=[]) (n:=0) (v := .agg [aI q,aO]) (fz:=false) (.inr (.inl ⟨_,by simp;rfl,rfl,by simp⟩)) (by simp) (by rfl) (by simp) (cG 0) (by simp) (by simp(maxDischargeDepth:=12) [Ek, *]) λr' H' k1 H m=>?_;obtain⟨J,z⟩:=m ⟨0,3,0,0⟩ ⟨4,[.agg [.bk ⟨0,23,0,0⟩ 0 0 (some 0),aI st,aI lf,aB false]],false,false⟩ (by simp) (by simp);obtain⟨E,w⟩:=m ⟨0,6,0,0⟩ ⟨4,[.agg [aO,aI 0,aI 0,aB false]],false,false⟩ (by simp) (by simp);have I:(⟨0,3,0,0⟩:Ref)≠r':=λe=>z e.symm;have K:(⟨0,6,0,0⟩:Ref)≠r':=λe=>w e.symm;have C:H'.get r'=some ⟨2,[.agg [aI q,aO]],true,false⟩:=k1;clear m k1;simp[*,aa.ab]
end
def LR:env.Ok (A9 env):=LQ Iz (by kernel_rfl) Ql (λf t h=>by cases h) (λf args H y H' h=>by
 by_cases e:f=49;·rw[if_pos e]at h;rw[e];exact ins.Ko args H y H' h
 rw[if_neg e]at h;cases h)
def DP{E:Env}{ok:Array Oper->Bool}(a:E.Ok ok){dep:Nat}{f:FuncId}{args:List AV}{H H':aa}{y:AV}(h:dg E dep (.fn f) args H=some (y,H')):jd E.P (.fn f) args H y H':=by
 obtain⟨m,hm⟩:=qB.1 h;exact zF a (HS a m) (hm m (cG _))
def LL{x:AV}{n:Nat}{a:Ref}{b:Option Nat}{bv:bj}{v:AV}{H H':aa}{y:AV}(m:H.get a=some bv)(j:bv.es=[v])(l:cb env.P false H.get ⟨1,19,H.gen 1 19,0⟩ .len #[22] [x]=some (aI n,[]))
 (d : ∃z,cr env.P H.get 22 (some x) (some (some (n:Int))) (some none) (some none)=some (z,[]))
 (k:dm env.P true H ⟨1,25,H.gen 1 25,0⟩ (some 22) (some 22) x (.bk a 0 1 b)=some (y,H'))
 (e:oy Tryz.prog 22 40 [x,aI n,.bk a 0 1 b] H=none) :
 dg env 0 (.fn 49) [x,aI n,.bk a 0 1 b] H=some (y,H'):=by
 obtain⟨f,h,i,rfl,rfl⟩ : ∃f h,dg env 0 (.fn 49) [x,aI n,.bk a 0 1 b] H=some (f,h)/\f=y/\h=H':=by
  refine qn (fn:=Tryz.f49) (c:=dP) (by kernel_rfl) (by kernel_rfl) (by kernel_rfl) (by kernel_rfl) (by kernel_rfl) ?_ ?_;·refine dN _ _ _ _ _ _ λg=>?_;obtain⟨z,d⟩:=d;simp[aj, *,aY,d,l,k]
  exact e
 exact i
def adw(H:aa)(r:Ref)(n:Nat)(f:Ref)(o:Option Nat)(b bv:bj)(v:AV)(z by':Nat)(g:XG Tryz.prog 22 H r n f b bv v z by')(J:Fr H) :
 jd Tryz.prog (.fn 49) [.bk r 0 n none,.v (.int .i64 n),.bk f 0 1 o] H (.bk (xH H r) 0 (n+1) none) ((xH H r,some { b with es:=b.es++[v]}) :: H.put r none):=by
 obtain⟨e,i,m,l,p,j,x,w,s,D,E,c,y,d,h⟩:=g;have k:(ca Tryz.prog 22).bind (aE Tryz.prog)=some 2:=by kernel_rfl
 have u:(ca Tryz.prog 22).bind (gP Tryz.prog)=some 32:=by kernel_rfl
 rw[k]at m;rw[u]at l;cases m;cases l;obtain⟨G,es,K,I⟩:=b;obtain⟨C,q,B,A⟩:=bv;simp only at p j x w s c d;subst p j x w s c d;have a:Sa H.get 2 [v] (.bk f 0 1 o) := .inr ⟨rfl,by simp,by simp[cy,i]⟩;have F:=Ot (P:=env.P) (t:=22) (t':=22) (z:=2) (by':=32) (by kernel_rfl) (by kernel_rfl) H ⟨1,25,H.gen 1 25,0⟩ r es.length a e rfl (by simp) (by simpa using h);refine DP LR (LL i rfl (by simp) ⟨.bk r es.length 0 none,by simp[cr,e,bounds]⟩ F ?_);simp[oy,e,i,k,u]
def adu(H:aa)(x:AV)(d:Ref)(e:Option Nat)(bv:bj)(v:AV)(z by':Nat)(g:H.get d=some bv)(k:(ca Tryz.prog 22).bind (aE Tryz.prog)=some z)(j:(ca Tryz.prog 22).bind (gP Tryz.prog)=some by')(l:bv.es=[v])
 (a:yX z H.get x=true) (p:bv.arr=true) (o:bv.esz=z) (A:1<z) (C:0<by') (E:by'<=aJ) (G:Fr H) :
 jd Tryz.prog (.fn 49) [x,.v (.int .i64 0),.bk d 0 1 e] H (.bk (pO 25 H) 0 1 none) ((pO 25 H,some ⟨z,[v],true,false⟩) :: H):=by
 have q:(ca Tryz.prog 22).bind (aE Tryz.prog)=some 2:=by kernel_rfl
 have B:(ca Tryz.prog 22).bind (gP Tryz.prog)=some 32:=by kernel_rfl
 rw[q]at k;rw[B]at j;cases k;cases j;obtain⟨y,m,w,u⟩:=bv;simp only at l p o;subst l p o;have f:jZ 2 H.get (.bk d 0 1 e)=some [v]:=by simp[jZ,cy,g,Xf]
 unfold yX at a;split at a;·refine DP LR (LL (n:=0) g rfl (by simp) ⟨aO,by kernel_rfl⟩ ?_ rfl);have h:=QI (P:=env.P) (t:=22) (t':=22) (by kernel_rfl) (by kernel_rfl) true H ⟨1,25,H.gen 1 25,0⟩ (.bk d 0 1 e) (by rw[show jw env.P 22=2 from by kernel_rfl,f];rfl);rw[h,show jw env.P 22=2 from by kernel_rfl,f,show oe env.P 22=32 from by kernel_rfl];simp[D6,pO]
 ·rename_i r;split at a
  ·rename_i b c;obtain⟨F,es,I,s⟩:=b;simp only[bo,iQl,List.isEmpty_iff]at a;obtain⟨⟨rfl,rfl⟩,rfl⟩:=a;have i:jw env.P 22=2:=by kernel_rfl
   have D:oe env.P 22=32:=(by kernel_rfl);have h:=Bh (P:=env.P) (t:=22) (t':=22) (by kernel_rfl) (by kernel_rfl) true H ⟨1,25,H.gen 1 25,0⟩ r 0 0 (.bk d 0 1 e) (es:=[]) (new:=[v]) (fz:=s) (by rw[i];exact c) (by rw[i];exact f) rfl (.inr ⟨by rw[D];simp[aJ],by simp⟩);rw[i,if_neg (by simp)]at h;refine DP LR (LL (n:=0) g rfl (by simp) ⟨.bk r 0 0 (some 0),by simp[cr,c,bounds]⟩ h ?_);simp[oy]
  cases a
 cases a
def TZ(args:List AV)(H:aa)(y:AV)(H':aa)(h:xl Tryz.prog 22 40 25 args H=some (y,H')):jd Tryz.prog (.fn 49) args H y H':=
 Qs ⟨Tryz.f49,by kernel_rfl,by kernel_rfl,by kernel_rfl⟩ ins.Ko adw adu h
def Nx{E:Env}{f:FuncId}{fn:Func}{c:Code}{args:List AV}{R:AV->Prop}(k:E.spec f args=none)(p:E.allowed f=true)(q:E.P.funcs[f]?=some fn)(w:fn.body=some c)(d:Nat.ble args.length fn.ntmps=true)
 (h:bS E fn 0 [.code c] (FO 0 args) [] λx H =>∃y,cU E f x H y/\R y) : ∃y,ar E f args=some y/\R y:=by
 obtain⟨x,H,⟨y,g,v⟩,n,u⟩:=h.h (λ_=>AV.undef) args λi=>(It args i).symm;refine⟨y,xg.2 ⟨n,λm A=>?_⟩,v⟩;obtain⟨st,j,z,t⟩:=u m A;subst t;unfold dv;rw[k];unfold wu;simp only[p,if_true,q,w,if_pos (GV d),j,z,Option.map_some];unfold cU at g;split;·rename_i j;rw[if_pos j]at g;rw[if_pos g.1];exact g.2
 rename_i j;rw[if_neg j]at g;exact g
section
variable{l:List eb}{x:AV}{st lf:Int}{dd:Bool}(a:Sl 2 (aG l) x)(b : ∀s∈l,iX s)
include a b
theorem Qb{r1:Ref}{Q:AV->aa->Prop}{H:aa}(p:H.get r1=some ⟨4,[cz x st lf dd],false,false⟩)(c : ∀t:Bool,(t=false->l.length<=200)->Q (aB t) H) : ∀(j k:Nat)(n:Int),k+j=300->k<=l.length->0<=n->n<=10000 * k ->
 bS env Tryz.f5 0 iQ [(4,aI k),(1,.ptr r1 0 0),(3,aI n)] H Q:=by
 intro j;induction j with
 | zero=>
  intro k n u f B v;refine oF _ _ _ _ _ λg=>?_;simp only[cz]at p;obtain rfl:k=300:=by omega
  simp[aj, *,iU,a.r];repeat' ((first | apply si<;>intro h | apply nL<;>intro h | apply nM<;>intro h | apply nJ<;>intro h | apply nK<;>intro h)<;>(try simp only[iQb,iQc,iB,qQ,bo,jH]at h)<;>(try simp[aj, *,a.r]))
  all_goals first | exact c true (λh=>by cases h) | exact c _ (λ_=>by omega)
 | succ j w=>
  intro k n u f B v;have D:=iQa ((k:Int)+1) (by omega);refine oF _ _ _ _ _ λg=>?_;simp only[cz]at p;have E:(k:Int)<300:=by omega
  by_cases i:k<l.length
  ·have hp:=(b l[k] (eE _)).r;have C:bF (aG l) k 1 1 false=some l[k].av:=by simp[aG,i,eb.enc]
   simp[aj, *,iU,a.r,a.idx];obtain⟨m,hm⟩ : ∃m:Int,m=if 10000<(l[k].bs.length:Int) then 10000 else (l[k].bs.length:Int):=⟨_,rfl⟩
   have z:0<=m/\m<=10000:=by rw[hm];split<;>omega
   have A:=iQa (n+m) (by omega);rw[<-hm,A];have q:=w (k+1) (n+m) (by omega) (by omega) (by omega) (by omega);rw[show((k+1:Nat):Int)=(k:Int)+1 from by omega]at q;exact q
  simp[aj, *,iU,a.r,a.idx];repeat' ((first | apply si<;>intro h | apply nL<;>intro h | apply nM<;>intro h | apply nJ<;>intro h | apply nK<;>intro h)<;>(try simp only[iQb,iQc,iB,qQ,bo,jH]at h)<;>(try simp[aj, *,a.r]))
  all_goals first | exact c true (λh=>by cases h) | exact c _ (λ_=>by omega)
theorem Y6 : ∃t:Bool,ar env 5 [cz x st lf dd]=some (aB t)/\(t=false->l.length<=200):=by
 have h : ∃y,ar env 5 [cz x st lf dd]=some y /\∃t:Bool,y=aB t/\(t=false->l.length<=200):=by
  refine Nx (fn:=Tryz.f5) (c:=xK) (by kernel_rfl) (by kernel_rfl) (by kernel_rfl) (by kernel_rfl) (by kernel_rfl) ?_;refine xv _ _ _ λg=>?_;suffices h : ∀Q:AV->aa->Prop,(∀t:Bool,(t=false->l.length<=200)->Q (aB t) [(⟨0,1,0,0⟩,some ⟨4,[cz x st lf dd],false,false⟩)])->mj g (cz x st lf dd) [] Q from
   h _ λt k=>⟨aB t,by simp,t,rfl,k⟩
  intro Q f;have d:=Qb (st:=st) (lf:=lf) (dd:=dd) a b (r1:=⟨0,1,0,0⟩) (H:=[(⟨0,1,0,0⟩,some ⟨4,[cz x st lf dd],false,false⟩)]) (Q:=Q) (by simp) f 300 0 0 (by omega) (by omega) (by omega) (by omega);clear f;simp only[cz]at d ⊢;simp[aj, *,mj,a.r];exact d
 obtain⟨y,i,t,rfl,j⟩:=h;exact⟨t,i,j⟩
end
def IT{l:List UInt8}{x:AV}(h:Sl 1 (au l) x)(g:cV)(r:Ref):bY env.P g r 57 9 (some x)=some (sB l,[]):=by
 rcases h with ⟨rfl,h⟩ | ⟨c,rfl,h⟩
 ·have:l=[]:=by simpa [au] using h
  subst this;simp
 simp
def gG(l:List eb):List (Int × List UInt8):=l.map λs=>(s.pos,s.bs)
def Oj:Env:=wj Tryz.prog [45] [] [45] (λ_=>false) (λ_=>[]) (λ_=>false) []
def ahv:FH Oj [45]=true:=by kernel_rfl
def ajA:Oj.Ok (A9 Oj):=LQ Iz (by kernel_rfl) ahv (λf t h=>by cases h) (λf args H y H' h=>by cases h)
def abZ:Code:=(Tryz.f45.body).getD .skip
def agM:Nat->Option (List Nat):=λi=>none
def ahs:Nat->Bool:=λi=>false
def ab1(dep:Nat)(g:Nat->AV)(x0:AV)(H:aa)(Q:AV->aa->Prop):Prop:=
 QZ 22 3 x0 λc=>
 br (some c) (
  Q (.v (.slice none 0 0)) H) (
  iE (lb env.P false true H (⟨(dep+1),5,aa.gen H (dep+1) 5,0⟩:Ref) 22 0 (some [])) λd a=>
  QU a dep 7 22 22 d x0 λb e=>
  Q b e)
def afC(dep:Nat)(x0:AV)(H:aa)(Q:AV->aa->Prop)(h : ∀g,ab1 dep g x0 H Q):bS Oj Tryz.f45 (dep+1) [.code abZ] [(0,x0)] H Q:=⟨λg=>sQ (live:=agM) (cut:=ahs) (n:=500) (Eq.mp (by kernel_rfl) (h g))⟩
def ahu(H:aa)(e:AV)(es:List AV)(c:Option Nat)(f:(es.length+1) * 32<=Ab.aJ)(i:Fr H):jd Tryz.prog (.fn 45) [.bg 2 (e :: es) c] H (.bk (pO 7 H) 0 (es.length+1) none) (Xj 2 5 7 H (e :: es) true):=by
 obtain⟨b,a,h,rfl,rfl⟩ : ∃b a,dg Oj 0 (.fn 45) [.bg 2 (e :: es) c] H=some (b,a)/\b = .bk (pO 7 H) 0 (es.length+1) none/\a=Xj 2 5 7 H (e :: es) true:=by
  refine qn (fn:=Tryz.f45) (c:=abZ) (by kernel_rfl) (by kernel_rfl) (by kernel_rfl) (by kernel_rfl) (by kernel_rfl) ?_ ?_
  ·refine afC _ _ _ _ λg=>?_;have d:(es.length+1) * 32<=140737488355328:=by simpa [aJ] using f
   simp[aj, *,ab1,Xj,pO,d];done
  rfl
 exact DP ajA h
def Oa(args:List AV)(H:aa)(y:AV)(H':aa)(h:yY 2 32 5 7 args H=some (y,H')):jd Tryz.prog (.fn 45) args H y H':=
 LV ⟨Tryz.f45,by kernel_rfl,by kernel_rfl,by kernel_rfl⟩ ahu h
def bh(l:List Int):List UInt8:=l.flatMap λn=>be 4 n
def nF(l:List Int):(bh l).length=4 * l.length:=by
 induction l with| nil=>rfl| cons n l a=>show(be 4 n++bh l).length=_;rw[ja,a,Fa,gD];omega
def S5{l:List Int}{p:AV}(o:Sl 1 (rows l) p)(U:l.length<100000)(K : ∀n∈l, -2147483648<=n/\n<=2147483647){Q:AV->aa->Prop} :
 ∀(s:List Int)(k:Nat)(i:Int)(a:List Int)(j:AV)(H:aa),l.drop k=s->k<=l.length->i=k->a.length=k->Fr H->fG [32] 1 (au (bh a)) H j->(a=[]->j=aO) ->
 (∀y H',fG [32] 1 (au (bh (a++s))) H' y->(a++s=[]->y=aO)->Q (.tup [y,aI 0]) H') ->
 bS env Tryz.f101 0 r9 [(15,aI i),(5,j),(13,p),(14,aI l.length)] H Q:=by
 intro s;induction s with
 | nil=>rintro k i a j H hs hk rfl ha hF hO hN hQ;obtain rfl:=drop_nil hs hk;refine AI _ _ _ _ _ _ λg=>?_;have d:=hQ j H (by simpa using hO) (by simpa using hN);clear hQ hO hN;simp[aj, *,sq,o.len];all_goals exact d
 | cons n s B=>
  rintro k i a j H hs hk rfl ha hF hO hN hQ;obtain⟨N,E,x,A⟩:=drop_cons hs;have I:=K n (by rw[<-E];exact eE _);have T:=iQa ((k:Int)+1) (by omega);refine AI _ _ _ _ _ _ λg=>?_;have L:bF (rows l) k 0 1 false=some (.v (.int .i32 n)):=by simp[rows,A,aR]
  have G:n.fdiv (2 ^ min 24 IntKind.i32.bits)=n / 16777216:=by rw[show(2:Int) ^ min 24 IntKind.i32.bits=16777216 from rfl];exact cF n 16777216
  have M:n.fdiv (2 ^ min 16 IntKind.i32.bits)=n / 65536:=by rw[show(2:Int) ^ min 16 IntKind.i32.bits=65536 from rfl];exact cF n 65536
  have S:n.fdiv (2 ^ min 8 IntKind.i32.bits)=n / 256:=by rw[show(2:Int) ^ min 8 IntKind.i32.bits=256 from rfl];exact cF n 256
  have u:=λw H'=>B (k+1) ((k:Int)+1) (a++[n]) w H' x (by omega) (by simp) (by simp;omega);have d : ∀y H',fG [32] 1 (au (bh ((a++[n])++s))) H' y->((a++[n])++s=[]->y=aO)->Q (.tup [y,aI 0]) H':=λy H' h I=>hQ y H' (by simpa using h) (λe=>by simp at e);have q:=nF a;have b:(au (bh a)).length=4 * a.length:=by rw[show(au (bh a)).length=(bh a).length from by simp,q]
  have f : ∀(g m:Nat)(H':aa),m=4 * a.length+4->H'.get ⟨0,32,g,0⟩=some ⟨1,au (bh a)++[a8 (u8 (n / 16777216)),a8 (u8 (n / 65536)),a8 (u8 (n / 256)),a8 (u8 n)],true,false⟩->fG [32] 1 (au (bh (a++[n]))) H' (.bk ⟨0,32,g,0⟩ 0 m none):=by
   intro g m H' O h;subst O;have e:au (bh (a++[n]))=au (bh a)++[a8 (u8 (n / 16777216)),a8 (u8 (n / 65536)),a8 (u8 (n / 256)),a8 (u8 n)]:=by simp[bh,uu,au]
   rw[e];exact .inr ⟨32,g,by simp,by rw[ja,b];rfl,h⟩
  clear hQ hN B;rcases hO with ⟨rfl,D⟩ | ⟨t,F,C,rfl,J⟩
  ·have z:a=[]:=(by have:=iQg List.length D;rw[b]at this;simp only[kS]at this;exact Ad (by omega));subst z;have c:=f (H.gen 0 32) 4;clear f;simp[aj, *,sq,o.r,o.idx,cK,cF];exact u _ _ (by simp(maxDischargeDepth:=12) [dU, *]) (c _ rfl (by simp[bh])) (λe=>by simp at e) d
  rw[mA]at C;subst C;have P:(H.get ⟨0,32,F,0⟩).isSome=true:=by rw[J];rfl
  have R:kL 1 1 (au (bh a)).length true none (some ⟨1,au (bh a),true,false⟩) (some [a8 (u8 (n / 16777216)),a8 (u8 (n / 65536)),a8 (u8 (n / 256)),a8 (u8 n)]):=(by rw[aq,b];refine⟨rfl,b.symm ▸ rfl,.inr ⟨?_,rfl⟩⟩;simp;omega);have c:=λH'=>f (H.gen 0 32) ((au (bh a)).length+4) H' (by rw[b]);clear f ha b q;generalize au (bh a)=bs at *;simp[aj, *,sq,o.r,o.idx,cK,cF];exact u _ _ (by simp(maxDischargeDepth:=12) [dU, *]) (c _ (by simp)) (λe=>by simp at e) d
def YU{l:List Int}{x:AV}(d:Sl 1 (rows l) x)(s:l.length<100000)(o : ∀n∈l, -2147483648<=n/\n<=2147483647):ar env 101 [x]=some (if yG l=0 then .tup [kn 1 (au (bh l)),aI 0] else .tup [aO,aI (yG l)]):=by
 refine aF rfl (by kernel_rfl) (K8 _ _ _ λg=>?_);have q:=EH d (by omega);have w:=d.len;by_cases h:yG l=0
 ·rw[if_pos h];rw[h]at q;have a:=λH Q=>S5 d s o (H:=H) (Q:=Q) l 0 0 [] aO rfl (by omega) rfl rfl;have b : ∀y H',fG [32] 1 (au (bh ([]++l))) H' y->([]++l=[]->y=aO)->view H'.get 8 (.tup [y,aI 0])=some (.tup [kn 1 (au (bh l)),aI 0]):=by
   intro y H' i c;rw[sO]at i c;rcases i with ⟨rfl,j⟩ | ⟨t,v,A,rfl,k⟩
   ·rw[j];simp[kn]
   have f:au (bh l)≠[]:=by
    intro e;have p:=iQg List.length e;have z:=nF l;have u:(au (bh l)).length=(bh l).length:=by simp
    simp only[kS]at p;have:l=[]:=Ad (by omega);cases c this
   rw[tH 1 f];generalize au (bh l)=bs at *;simp[k]
  have run:=λH m=>a H (λx H=>view H.get 8 x=some (.tup [kn 1 (au (bh l)),aI 0])) m (.inl ⟨rfl,rfl⟩) (λ_=>rfl) b;clear a b h;generalize kn 1 (au (bh l))=yo at *;simp[aj, *,zX,d.r];all_goals exact run _ (by simp(maxDischargeDepth:=12) [Ek, *])
 rw[if_neg h];simp[aj, *,zX,d.r]
def Ov{P:Program}{t t':TypeId}(j:oT P t=true)(b:isInt P t'=true)(g:(eT P t).cells.all AV.one=true)(q:Bool)(H:aa)(r:Ref)(n:Int)(C:0<n)(s:n<=aJ)(x:n.toNat * oe P t<=aJ) :
 dm P q H r (some t) (some t') aO (aI n)=some (.bk r 0 n.toNat none,({ r with k:=0},some ⟨jw P t,List.replicate n.toNat (eT P t),true,false⟩) :: H):=by
 unfold oT at j;obtain⟨e,zz,m,o,y,f,i,B,p,l⟩:=gJ j;have v:eT P t=zz:=by unfold eT;rw[m,eD,f];rfl
 rw[v]at g ⊢;have c:(P.underlying t').isNone=false:=by
  unfold isInt at b;cases h:P.underlying t' with
  | none=>rw[h]at b;cases b
  | some d=>rfl
 have A : ¬((P.underlying t').isNone=true\/isInt P t'≠isNum (aI n)):=by rw[c,b];simp[isNum]
 have hd : ¬(jw P t≠jw P t\/jw P t=0\/oe P t=0\/zz.cells.length≠jw P t):=by simp[i,p,l]
 have a:mK P H.get e (aI n)=some (jw P t,List.replicate n.toNat zz):=by
  show(match eu P e,aE P e with | some w,some z=>if 0<=n/\n<=aJ/\w.cells.length=z/\w.cells.all AV.one then some (z,List.replicate n.toNat w) else none | _,_=>none)=_;rw[f,o];exact if_pos ⟨by omega,s,by simp[i,p,l],g⟩
 have u:List.replicate n.toNat zz≠[]:=by
  intro h;have:=iQg List.length h;simp only[AA,kS]at this;omega
 simp only[dm,eG,eD,m,Option.map_some,cB,if_neg A,o,y,f,a,if_neg hd,if_neg u,AA,if_pos x];rfl
@[simp] def afs(g:cV)(r:Ref):cb env.P false g r .cap #[57] [aO]=some (aI 0,[]):=by kernel_rfl
def acE(n:Int)(b:0<n)(f:n<1000000):ar env 72 [aO,aI n]=some (.fsl 1 [] none):=by
 refine aF rfl (by kernel_rfl) (uZ _ _ _ _ λg=>?_);have i : ¬n<0:=by omega
 have e:=iQa n (by omega);have d:IntKind.i64.wrap 0=0:=rfl;have c:n<=140737488355328:=by omega
 have j:n.toNat<=140737488355328:=by omega
 have h:0<n.toNat:=by omega
 have a:=Ov (P:=env.P) (t:=57) (t':=3) (by simp) (by simp) (by simp) true [] ⟨0,22,0,0⟩ n b c (by simp;omega);simp[aj, *,oA, -a];refine wq a ?_;simp;all_goals omega
def la(s:List (List UInt8 × AV)):List UInt8:=s.flatMap (·.1)
def T7{ps:List (List UInt8 × AV)}{x0:AV}(m:Sl 1 (ps.map (·.2)) x0)(hp : ∀p∈ps,Sl 1 (au p.1) p.2)(L:ps.length<100000)(K:(la ps).length<1000000){Q:AV->aa->Prop} :
 ∀(s:List (List UInt8 × AV)) (k:Nat) (i:Int) (acc:List UInt8) (f:Nat) (H:aa),ps.drop k=s->k<=ps.length->i=k->acc.length+(la s).length=(la ps).length->Fr H->H.get ⟨0,24,f,0⟩=some ⟨1,au acc,true,false⟩ ->
 (∀g H',H'.get ⟨0,24,g,0⟩=some ⟨1,au (acc++la s),true,false⟩->Q (.bk ⟨0,24,g,0⟩ 0 (acc++la s).length none) H') ->
 bS env Tryz.f43 0 dS [(27,aI i),(6,.bk ⟨0,24,f,0⟩ 0 acc.length none),(25,x0),(26,aI ps.length)] H Q:=by
 intro s;induction s with
 | nil=>rintro k i acc f H hs hk rfl ha hF hr hQ;obtain rfl:=drop_nil hs hk;refine lU _ _ _ _ _ _ λg=>?_;have d:=hQ f H (by simpa [la] using hr);simp only[la,Er,rI]at d;clear hQ hr;simp[aj, *,fE];all_goals exact d
 | cons p s u=>
  rintro k i acc f H hs hk rfl ha hF hr hQ;obtain⟨E,y,o,t⟩:=drop_cons hs;have c:=hp p (by rw[<-y];exact eE _);obtain⟨b,x⟩:=p;simp only at c;have J:=iQa ((k:Int)+1) (by omega);have q:la ((b,x) :: s)=b++la s:=rfl;rw[q]at ha hQ;rw[ja]at ha;have F:bF (ps.map (·.2)) k 0 1 false=some x:=by simp[t,c.r]
  have z:(ps.map (·.2)).length=ps.length:=(by simp);have l:(au b).length=b.length:=(by simp);have j:(au acc).length=acc.length:=(by simp);have G:(H.get ⟨0,24,f,0⟩).isSome=true:=by rw[hr];rfl
  have e:=λg H'=>u (k+1) ((k:Int)+1) (acc++b) g H' o (by omega) (by simp) (by simp;omega);have d : ∀g H',H'.get ⟨0,24,g,0⟩=some ⟨1,au ((acc++b)++la s),true,false⟩->Q (.bk ⟨0,24,g,0⟩ 0 ((acc++b)++la s).length none) H':=λg H' h=>by
   have:=hQ g H' (by rw[<-qP];exact h);rw[<-qP]at this;exact this
  clear hQ u hp hs;refine lU _ _ _ _ _ _ λg=>?_;have D:=c.jZ;by_cases v:b=[];·subst v;have a:=e f H hF;simp only[rI]at a d;have n:=a hr d;clear a e d;simp[aj, *,fE,m.r,m.idx,c.r,c.jZ]
  have C:au b≠[]:=(by simpa using v);have I:kL 1 1 acc.length true none (some ⟨1,au acc,true,false⟩) (some (au b)):=(by rw[aq,l,j];exact⟨rfl,rfl,.inr ⟨by simp;omega,rfl⟩⟩);have a:=e (H.gen 0 24);have w:au (acc++b)=au acc++au b:=zh ..;rw[w]at a;rw[show(acc++b).length=(au acc).length+(au b).length by rw[l,j,ja]]at a;clear e l j ha w;generalize au acc=A at *;generalize au b=B at *;simp[aj, *,fE,m.r,m.idx,c.r,c.jZ];exact a _ (by simp(maxDischargeDepth:=12) [dU, *]) (by simp) d
def T8{ps:List (List UInt8 × AV)}{x0:AV}(e:Sl 1 (ps.map (·.2)) x0)(hp : ∀p∈ps,Sl 1 (au p.1) p.2)(D:ps.length<100000)(C:(la ps).length<1000000)(B:0<(la ps).length){H:aa}{Q:AV->aa->Prop}
 (a : ∀H',Fr H'->H'.get ⟨0,24,H.gen 0 24,0⟩=some ⟨1,[],true,false⟩->bS env Tryz.f43 0 dS [(27,aI 0),(6,.bk ⟨0,24,H.gen 0 24,0⟩ 0 0 none),(25,x0),(26,aI ps.length)] H' Q) :
 ∀(s:List (List UInt8 × AV)) (k:Nat) (i n:Int),ps.drop k=s->k<=ps.length->i=k->0<=n->n+(la s).length=(la ps).length->Fr H ->
 bS env Tryz.f43 0 ed [(11,aI i),(3,aI n),(9,x0),(0,x0),(10,aI ps.length)] H Q:=by
 intro s;induction s with
 | nil=>
  rintro k i n hs hk rfl hn0 hn hF;obtain rfl:=drop_nil hs hk;refine mu _ _ _ _ _ _ _ λg=>?_;have h:n=(la ps).length:=by simpa [la] using hn
  have A:=acE n (by omega) (by omega);have j:(ps.map (·.2)).length=ps.length:=by simp
  clear h hn hp;simp[aj, *,ji,e.r];exact a _ (by simp(maxDischargeDepth:=12) [dU, *]) (by simp)
 | cons p s o=>
  rintro k i n hs hk rfl hn0 hn hF;obtain⟨u,t,f,m⟩:=drop_cons hs;have c:=hp p (by rw[<-t];exact eE _);obtain⟨b,x⟩:=p;simp only at c;have l:la ((b,x) :: s)=b++la s:=rfl;rw[l,ja]at hn;have z:=iQa ((k:Int)+1) (by omega);have y:=iQa (n+(b.length:Int)) (by omega);have v:bF (ps.map (·.2)) k 0 1 false=some x:=by simp[m,c.r]
  have j:(ps.map (·.2)).length=ps.length:=(by simp);have w:(au b).length=b.length:=(by simp);have q : ¬n+(b.length:Int)<0:=(by omega);have d:=o (k+1) ((k:Int)+1) (n+(b.length:Int)) f (by omega) (by simp) (by omega) (by omega) hF;refine mu _ _ _ _ _ _ _ λg=>?_;clear o a hp hs hn;simp[aj, *,ji,e.r,e.idx,c.r];all_goals exact d
def HP{ps:List (List UInt8 × AV)}{x0:AV}(c:Sl 1 (ps.map (·.2)) x0)(hp : ∀p∈ps,Sl 1 (au p.1) p.2)(i:ps.length<100000)(h:(la ps).length<1000000)(n:0<(la ps).length):ar env 43 [x0]=some (.fsl 1 (au (la ps)) none):=by
 refine aF rfl (by kernel_rfl) (tX _ _ _ λg=>?_);have l:(ps.map (·.2)).length=ps.length:=by simp
 have j:=c.len;have d:(au (la ps)).length=(la ps).length:=by simp
 have o:=λH' Q f e=>T7 c hp i h (Q:=Q) ps 0 0 [] 0 H' rfl (by omega) rfl (by simp) f e;have m:=λQ b=>T8 c hp i h n (H:=[]) (Q:=Q) b ps 0 0 0 rfl (by omega) rfl (by omega) (by omega) Fr.nil;clear hp;simp[aj, *,nB,c.r];refine m _ λH' f e=>o H' _ f e λq k a=>?_;rw[sO]at a ⊢;rw[<-d];generalize au (la ps)=B at *;simp[a]
def zer:List UInt8:=List.replicate 128 0
def XW:List eb->Int->List UInt8
 | [],_=>zer
 | p :: l,q=>if p.pos<q then XW l q else if p.pos=q then p.bs else zer
def Jj(q:Int)(b:List UInt8):List eb->List eb
 | []=>[oC q b]
 | p :: l=>if p.pos<q then Q9 p :: Jj q b l else if p.pos=q then oC q b :: mv l else oC q b :: Q9 p :: mv l
def Nr(p:eb)(l:List eb)(q:Int):nth (p :: l) q=if p.pos<q then nth l q+1 else 0:=by
 unfold nth;by_cases h:p.pos<q;·rw[KZ (p:=λs:eb=>decide (s.pos<q)) (iQh h),if_pos h,gD]
 rw[KY (p:=λs:eb=>decide (s.pos<q)) (by rw[iQb];exact h),if_neg h];rfl
def acO(l:List eb)(q:Int):rdB l q=XW l q:=by
 induction l with| nil=>rfl| cons p l a=>
  unfold rdB XW;rw[Nr];by_cases h:p.pos<q;·rw[if_pos h,if_pos h,<-a];rfl
  rw[if_neg h,if_neg h];by_cases e:p.pos=q;·simp[ke,e]
  simp[ke,e,zer]
def UG(l:List eb)(q:Int)(b:List UInt8):Ya l q b=Jj q b l:=by
 induction l with| nil=>rfl| cons p l a=>
  unfold Ya Jj;rw[Nr];by_cases h:p.pos<q;·rw[if_pos h,if_pos h,<-a];unfold Ya;have e:ke (p :: l) q (nth l q+1)=ke l q (nth l q):=rfl;rw[e];split<;>rfl
  rw[if_neg h,if_neg h];by_cases e:p.pos=q;·simp[ke,e,mv]
  simp[ke,e,mv]
def ad6(q:Int)(b:List UInt8)(k:q<6146)(c:b.length=128) : ∀(l:List eb)(a:Int),a<q->gp a l=true->gp a (Jj q b l)=true:=by
 intro l;induction l with
 | nil=>intro a j _;simp[Jj,gp,oC,c];omega
 | cons p l i=>
  intro a j h;have m:=h;simp[gp]at h;have n:=h.1.1.1;have o:=h.1.1.2;have g:=h.1.2;unfold Jj;by_cases f:p.pos<q;·rw[if_pos f];have:=i p.pos f h.2;simp[gp,Q9,this,g];exact⟨iQi (by omega),by omega⟩
  rw[if_neg f];by_cases e:p.pos=q
  ·rw[if_pos e];have d:gp q (mv l)=true:=by rw[EE,<-e];exact h.2
   simp[gp,oC,c,d];exact⟨iQi (by omega),by omega⟩
  rw[if_neg e];have d:gp p.pos (mv l)=true:=by rw[EE];exact h.2
  simp[gp,oC,Q9,c,d,g];exact⟨⟨iQi (by omega),by omega⟩,iQi (by omega),by omega⟩
def afx(q:Int)(b:List UInt8) : ∀(l:List eb),∀s∈Jj q b l,iX s:=by
 have c:iX (oC q b):=Sl.mk _ _;intro l;induction l with
 | nil=>intro s a;simp[Jj]at a;subst a;exact c
 | cons p l d=>
  intro s a;unfold Jj at a;split at a
  ·rcases fh.1 a with rfl | a
   ·exact Sl.mk _ _
   exact d s a
  split at a
  ·rcases fh.1 a with rfl | a
   ·exact c
   exact CO l s a
  rcases fh.1 a with rfl | a
  ·exact c
  exact CO (p :: l) s a
def ID(l:List eb):gG (mv l)=gG l:=by simp[gG,mv,Q9]
def aaT{l:List eb}{x:AV}(a:Sl 2 (aG l) x):Sl 2 (aG (mv l)) (vw (Sm x l)):=by
 rcases Ge a with ⟨h,e⟩ | h | ⟨h,e⟩
 ·rw[h,e];exact .inl ⟨rfl,rfl⟩
 ·rw[h];exact Sl.mk _ _
 rw[h,e];exact .inr ⟨some 0,rfl,by simp⟩
def tj(st lf:Int)(dd:Bool)(st' lf':Int)(dd':Bool):Bool:=decide (st=st')&&(decide (lf=lf')&&decide (dd=dd'))
section
variable{l m:List eb}{x y:AV}(c:Sl 2 (aG l) x)(d : ∀s∈l,iX s)(b:Sl 2 (aG m) y)(a : ∀s∈m,iX s)(f:l.length<1000000)
include c d b a f
theorem Qa{r1 r2:Ref}{Q:AV->aa->Prop}{H:aa}{st lf st' lf':Int}{dd dd':Bool}(M:H.get r1=some ⟨4,[cz x st lf dd],false,false⟩)(P:H.get r2=some ⟨4,[cz y st' lf' dd'],false,false⟩) :
 ∀(s t:List eb)(k:Nat),l.drop k=s->m.drop k=t->k<=l.length->l.length=m.length->Q (aB (decide (gG s=gG t)&&tj st lf dd st' lf' dd')) H ->
 bS env Tryz.f11 0 jo [(5,aI k),(3,.ptr r2 0 0),(2,.ptr r1 0 0)] H Q:=by
 simp only[cz]at M P;intro s;induction s with
 | nil=>
  intro t k o n G A h;obtain rfl:=drop_nil o G;have:t=[]:=by rw[<-n];exact ya (by omega)
  subst this;have F:decide (gG []=gG [])=true:=by simp
  rw[F,iZ]at h;clear F n o;refine pv _ _ _ _ _ λg=>?_;by_cases E:st=st'
  ·by_cases D:lf=lf';·have e:tj st lf dd st' lf' dd'=decide (dd=dd'):=(by simp[tj,E,D]);rw[e]at h;clear e;cases dd<;>cases dd'<;>simp at h<;>simp[aj, *,dM,c.r,b.r]<;>exact h
   have e:tj st lf dd st' lf' dd'=false:=(by simp[tj,D]);rw[e]at h;clear e;simp[aj, *,dM,c.r,b.r]
  have e:tj st lf dd st' lf' dd'=false:=(by simp[tj,E]);rw[e]at h;clear e;simp[aj, *,dM,c.r,b.r]
 | cons p s I=>
  intro t k o n G A h;obtain⟨O,K,C,w⟩:=drop_cons o;cases t with
  | nil=>have:=iQg List.length n;simp at this;omega
  | cons q t=>
   obtain⟨J,u,B,z⟩:=drop_cons n;have S:=iQa ((k:Int)+1) (by omega);have i:=I t (k+1) C B (by omega) A;rw[show((k+1:Nat):Int)=(k:Int)+1 from by omega]at i;have r1:bF (aG l) k 0 1 false=some (aI p.pos):=by simp[aG,w,eb.enc]
   have r2:bF (aG l) k 1 1 false=some p.av:=(by simp[aG,w,eb.enc]);have r3:bF (aG m) k 0 1 false=some (aI q.pos):=(by simp[aG,z,eb.enc]);have r4:bF (aG m) k 1 1 false=some q.av:=(by simp[aG,z,eb.enc]);have hp:=d p (by rw[<-K];exact eE _);have u:=a q (by rw[<-u];exact eE _);clear I d a o n;generalize tj st lf dd st' lf' dd'=SH at *;refine pv _ _ _ _ _ λg=>?_;by_cases j:p.pos=q.pos
   ·have L:=IT hp;have N:=IT u;by_cases v:p.bs=q.bs
    ·have e:decide (gG (p :: s)=gG (q :: t))=decide (gG s=gG t):=by rw[decide_eq_decide];simp[gG,j,v]
     rw[e]at h;clear hp u;have R:=i h;clear h i;simp[aj, *,dM,c.r,b.r,c.idx,b.idx]
    have e:decide (gG (p :: s)=gG (q :: t))=false:=(by simp[gG,v]);rw[e,qO]at h;clear hp u i;simp[aj, *,dM,c.r,b.r,c.idx,b.idx]
   have e:decide (gG (p :: s)=gG (q :: t))=false:=(by simp[gG,j]);rw[e,qO]at h;clear i;simp[aj, *,dM,c.r,b.r,c.idx,b.idx]
theorem YT{st lf st' lf':Int}{dd dd':Bool}:ar env 11 [cz x st lf dd,cz y st' lf' dd']=some (aB (decide (gG l=gG m)&&tj st lf dd st' lf' dd')):=by
 refine aF rfl (by kernel_rfl) (ym _ _ _ _ λg=>?_);by_cases i:l.length=m.length;·have h:=Qa (st:=st) (lf:=lf) (dd:=dd) (st':=st') (lf':=lf') (dd':=dd') c d b a f (r1:=⟨0,2,0,0⟩) (r2:=⟨0,3,0,0⟩) (H:=[(⟨0,3,0,0⟩,some ⟨4,[cz y st' lf' dd'],false,false⟩),(⟨0,2,0,0⟩,some ⟨4,[cz x st lf dd],false,false⟩)]) (Q:=λv H'=>cU env 11 v H' (aB (decide (gG l=gG m)&&tj st lf dd st' lf' dd'))) (by simp) (by simp) l m 0 rfl rfl (by omega) i (by simp);generalize (decide (gG l=gG m)&&tj st lf dd st' lf' dd')=SH at *;simp only[cz]at h ⊢;simp[aj, *,na,c.r,b.r];exact h
 have e:decide (gG l=gG m)=false:=(by rw[iQc];intro e;have:=iQg List.length e;simp[gG]at this;exact i this);rw[e,qO];have j : ¬(l.length:Int)=m.length:=by omega
 simp only[cz];simp[aj, *,na,c.r,b.r]
end
end
section
attribute [local simp] aK az ak ay ax bD kj aM aq aA bA bw aJ aL af aW dq
def Xr(z:Nat)(zz:AV)(H:aa)(r:Ref)(n:Nat)(a:List (Nat × AV))(refs:List Ref):cR:=match hY (List.replicate n zz) a with
 | some es=>some (.bk r 0 n (some n),(r,some ⟨z,es,true,false⟩) :: cg H refs)
 | none=>none
def C1{P:Program}{a:Bool}{t:TypeId}(v:oT P t=true)(H:aa)(d k m:Nat)(n:Nat)(ps:List (Nat × AV))(g:n * jw P t<=16777216)(z:(dp H.get ps).isSome=true)
 (w:((dp H.get ps).getD []).all (λp=>p.2.cells.length == jw P t&&p.2.cells.all AV.one)=true) (b:(hY (List.replicate n (eT P t)) ((dp H.get ps).getD [])).isSome=true) (h:mV H.get (ct H.get (ps.map (·.2)))=false) :
 lb P a true H ⟨d,k,m,0⟩ t n (some ps)=Xr (jw P t) (eT P t) H ⟨d,k,m,0⟩ n ((dp H.get ps).getD []) (ct H.get (ps.map (·.2))):=by
 obtain⟨ws,hw⟩:=gT.1 z;rw[hw,cB]at w b ⊢;obtain⟨es,b⟩:=gT.1 b;unfold oT at v;obtain⟨e,zz,u,D,E,q,A,y,C,F⟩:=gJ v;have o:eT P t=zz:=by unfold eT;rw[u,eD,q];rfl
 rw[o]at b ⊢;have c:mkSlice P H.get t n ps=some ⟨jw P t,es,true,false⟩:=by
  simp only[mkSlice,u,hw,q,D];rw[if_pos ⟨Aa C,g,A,y,by simpa using w⟩,b];rfl
 have B:gx P a H.get ⟨d,k,m,0⟩ t n (some ps)=none:=by
  simp only[gx,h,eW,iQe]
 unfold lb Xr;rw[B,b];simp only[lY,EU,iQp,jV,c,Option.map_some]
attribute [local simp] C1 Xr dp
def XZ(q:Int)(b:List UInt8):eb:=⟨q,b,kn 1 (au b)⟩
def rtS(s:eb):eb:=XZ s.pos s.bs
def F3(l:List eb):List eb:=l.map rtS
@[simp] def Zb(l:List eb):(F3 l).length=l.length:=by simp[F3]
def acG(l:List eb) : ∀s∈F3 l,iX s:=by
 intro s a;obtain⟨p,_,rfl⟩:=nO.1 a;exact rS _ _
def P0(l:List eb):gG (F3 l)=gG l:=by simp[gG,F3,rtS,XZ]
def abV(st lf:Int)(dd:Bool):E5 st lf dd=(if 0<=st/\st<2147483648 /\ -1<=lf/\lf<2147483648 then (!dd||decide (lf=0)) else false):=by
 unfold E5;split
 ·rename_i h;have a : ¬st<0:=by omega
  have b : ¬st>=2147483648:=(by omega);have d : ¬lf < -1:=(by omega);have c : ¬lf>=2147483648:=(by omega);simp only[iQi a,iQi b,iQi d,iQi c];cases dd<;>simp
 rename_i h;cases e:(!decide (st<0) && !decide (st>=2147483648) && !decide (lf < -1) && !decide (lf>=2147483648) && !(dd && !decide (lf=0))) with
 | false=>rfl
 | true=>simp at e;exact absurd (by omega) h
section
variable{l:List eb}{x:AV}{st lf:Int}{dd:Bool}(f:Sl 2 (aG l) x)(i : ∀s∈l,iX s)(j:l.length<1000000)
include f i j
theorem Ww{r1:Ref}{Q:AV->aa->Prop} : ∀(s:List eb)(k:Nat)(d:eb)(H:aa),l.drop (k+1)=s->l[k]?=some d->0<=d.pos->Fr H->H.get r1=some ⟨4,[cz x st lf dd],false,false⟩ ->
 (∀H',Q (aB (gp d.pos s&&E5 st lf dd)) H') ->
 bS env Tryz.f25 0 gI [(3,aI ((k:Int)+1)),(1,.ptr r1 0 0)] H Q:=by
 intro s;induction s with
 | nil=>
  intro k d H t u y I w o;have B:k<l.length:=(ee.1 u).1;have J:l.length=k+1:=by
   have:=iQg List.length t;simp at this;omega
  have G:(l.length:Int)=(k:Int)+1:=(by omega);have E:gp d.pos []=true:=rfl;rw[E,iZ]at o;have z:=o H;rw[abV]at z;clear o t i E J;refine jJ _ _ _ _ λg=>?_;simp only[cz]at w;simp[aj, *,bG,f.r];repeat' ((first | apply si<;>intro h | apply nL<;>intro h | apply nM<;>intro h | apply nJ<;>intro h | apply nK<;>intro h)<;>(try simp only[iQb,iQc,iB,qQ,bo,jH]at h)<;>(try simp[aj, *]))
  all_goals first | (rw[if_pos (by omega)]at z;cases dd<;>simp_all) | (rw[if_neg (by omega)]at z;cases dd<;>simp_all)
 | cons p s A=>
  intro k d H t u y I w o;obtain⟨M,v,q,n⟩:=drop_cons t;have U:=iQa ((k:Int)+1+1) (by omega);have T:=iQa (k:Int) (by omega);have O:(0:Int)<=(k:Int)+1:=by omega
  have hp:=(i p (by rw[<-v];exact eE _)).r;have L:bF (aG l) (k+1) 0 2 true=some (.agg [aI p.pos,p.av]):=by simp[aG,n,eb.enc]
  have F:bF (aG l) k 0 1 false=some (aI d.pos):=(by simp[aG,u,eb.enc]);have B:(k:Int)+1<l.length:=(by omega);have D:(k:Int)<l.length:=(by omega);have N:(0:Int)<(k:Int)+1:=(by omega);have W:((k:Int)+1).toNat=k+1:=(by omega);have m:=λH=>A (k+1) p H q n;rw[show(((k+1:Nat):Int)+1)=(k:Int)+1+1 from by omega]at m;refine jJ _ _ _ _ λg=>?_;simp only[cz]at w m;by_cases c:gp d.pos [p]=true
  ·have c':=c;simp[gp]at c';have R : ¬p.pos<0:=by omega
   have V : ¬p.pos>=6146:=(by omega);have P : ¬p.pos<=d.pos:=(by omega);have S:(p.bs.length:Int)=128:=(by omega);have e:gp d.pos (p :: s)=gp p.pos s:=by simp[gp];simp[gp]at c;simp[c]
   rw[e]at o;have C:=λH a b=>m H (by omega) a b o;clear A m i t u v q n c c' o;simp[aj, *,bG,f.r,f.idx];refine C _ (by simp(maxDischargeDepth:=12) [Ek, *]) (by simp(maxDischargeDepth:=12) [Ek, *])
  have c':p.pos<0\/p.pos>=6146\/p.pos<=d.pos \/¬(p.bs.length:Int)=128:=(by simp[gp]at c;omega);have e:gp d.pos (p :: s)=false:=by
   cases h:gp d.pos (p :: s) with| false=>rfl| true=>exfalso;apply c;simp[gp]at h ⊢;exact h.1
  rw[e,qO]at o;clear A m i t u v q n c e;by_cases d1:p.pos<0;·clear c';simp[aj, *,bG,f.r,f.idx]
  by_cases d2:6146<=p.pos;·clear c';simp[aj, *,bG,f.r,f.idx]
  by_cases d3:p.pos<=d.pos;·clear c';simp[aj, *,bG,f.r,f.idx]
  have d4 : ¬p.bs.length=128:=(by omega);have K : ¬(p.bs.length:Int)=128:=(by omega);clear c';simp[aj, *,bG,f.r,f.idx]
theorem acy:ar env 25 [cz x st lf dd]=some (aB (Eh l st lf dd)):=by
 refine aF rfl (by kernel_rfl) (zo _ _ _ λg=>?_);have B : ∀(r1:Ref)(Q:AV->aa->Prop)(H:aa),Fr H->H.get r1=some ⟨4,[cz x st lf dd],false,false⟩->(∀H',Q (aB (Eh l st lf dd)) H')->bS env Tryz.f25 0 gI [(3,aI 0),(1,.ptr r1 0 0)] H Q:=by
  intro r1 Q H F t n;unfold Eh at n;cases k:l with
  | nil=>
   have u:gp (-1) l=true:=by rw[k];rfl
   rw[u,iZ,abV]at n;have w:=n H;have v:(l.length:Int)=0:=by rw[k];rfl
   clear n i u k;refine jJ _ _ _ _ λg=>?_;simp only[cz]at t;simp[aj, *,bG,f.r];repeat' ((first | apply si<;>intro h | apply nL<;>intro h | apply nM<;>intro h | apply nJ<;>intro h | apply nK<;>intro h)<;>(try simp only[iQb,iQc,iB,qQ,bo,jH]at h)<;>(try simp[aj, *]))
   all_goals first | (rw[if_pos (by omega)]at w;cases dd<;>simp_all) | (rw[if_neg (by omega)]at w;cases dd<;>simp_all)
  | cons p s=>
   have J:=iQa ((0:Int)+1) (by omega);have hp:=(i p (by rw[k];simp)).r;have m:l[0]?=some p:=by rw[k];rfl
   have o:l.drop (0+1)=s:=by rw[k];rfl
   have C:bF (aG l) 0 0 2 true=some (.agg [aI p.pos,p.av]):=(by simp[aG,m,eb.enc]);have E:0<l.length:=by rw[k];simp
   have z:(0:Int)<l.length:=(by omega);have d:=λH=>Ww (st:=st) (lf:=lf) (dd:=dd) f i j (r1:=r1) (Q:=Q) s 0 p H o m;rw[show(((0:Nat):Int)+1)=1 from rfl]at d;refine jJ _ _ _ _ λg=>?_;simp only[cz]at t d;by_cases c:gp (-1) [p]=true
   ·have c':=c;simp[gp]at c';have G : ¬p.pos<0:=by omega
    have K : ¬p.pos>=6146:=(by omega);have I:(p.bs.length:Int)=128:=(by omega);have e:gp (-1) l=gp p.pos s:=by rw[k];simp[gp];simp[gp]at c;simp[c]
    rw[e]at n;have q:=λH a b=>d H (by omega) a b n;clear d i m o c c' n k;simp[aj, *,bG,f.r,f.idx];refine q _ (by simp(maxDischargeDepth:=12) [Ek, *]) (by simp(maxDischargeDepth:=12) [Ek, *])
   have c':p.pos<0\/p.pos>=6146 \/¬(p.bs.length:Int)=128:=(by simp[gp]at c;omega);have e:gp (-1) l=false:=by
    rw[k];cases h:gp (-1) (p :: s) with
    | false=>rfl
    | true=>exfalso;apply c;simp[gp]at h ⊢;exact h.1
   rw[e,qO]at n;clear d i m o c e k;by_cases d1:p.pos<0;·clear c';simp[aj, *,bG,f.r,f.idx]
   by_cases d2:6146<=p.pos;·clear c';simp[aj, *,bG,f.r,f.idx]
   have d4 : ¬p.bs.length=128:=(by omega);have A : ¬(p.bs.length:Int)=128:=(by omega);clear c';simp[aj, *,bG,f.r,f.idx]
 have h:=B ⟨0,1,0,0⟩ (λy H'=>view H'.get 8 y=some (aB (Eh l st lf dd))) [(⟨0,1,0,0⟩,some ⟨4,[cz x st lf dd],false,false⟩)] (by simp(maxDischargeDepth:=12) [Ek, *]) (by simp) (by simp);generalize Eh l st lf dd=D at *;simp only[cz]at h ⊢;simp[aj, *,sy,f.r];first | done | exact h
def Ue(l:List eb)(q:Int):List UInt8:=match l with
 | []=>List.replicate 128 0
 | p :: l=>if p.pos=q then p.bs else Ue l q
end
end
section
attribute [local simp] aK az ak ay ax bD kj aM aq aA bA bw aJ aL af aW dq
attribute [local simp] C1 Xr dp
section
variable{l:List eb}{x:AV}{st lf:Int}{dd:Bool}(d:Sl 2 (aG l) x)(a : ∀s∈l,iX s)(f:l.length<1000000)
include d a f
theorem aau(b : ∀s∈l,s.bs.length=128){q:Int}{r1:Ref}{Q:AV->aa->Prop}{H:aa}(O:Fr H)(E:H.get r1=some ⟨4,[cz x st lf dd],false,false⟩) :
 ∀(s:List eb)(k:Nat),l.drop k=s->k<=l.length->(∀y H',(∀n,view H'.get (n+1) y=some (.bg 1 (au (Ue s q)) none))->Q y H') ->
 bS env Tryz.f95 0 kb [(5,aI k),(2,.ptr r1 0 0),(1,aI q)] H Q:=by
 intro s;induction s with
 | nil=>
  intro k u J m;obtain rfl:=drop_nil u J;have D:=yK (P:=env.P) (t:=57) (z:=1) (by':=1) (zz:=a8 0) (r:=⟨0,28,H.gen 0 28,0⟩) (by kernel_rfl) (by kernel_rfl) (n:=128) (by decide) (by decide);obtain⟨Z,B⟩ : ∃Z:List UInt8,Z=List.replicate 128 0:=⟨_,rfl⟩;have I:Z.length=128:=by rw[B];rfl
  rw[show List.replicate 128 (a8 0)=au Z from by rw[B];rfl,show((128:Nat):Int)=128 from rfl]at D;have e:Ue [] q=Z:=by rw[B];rfl
  rw[e]at m;clear B e a b u;refine mE _ _ _ _ _ λg=>?_;simp only[cz]at E;simp[aj, *,kf,d.r];first | done | exact m _ _ (λn=>by simp[I])
 | cons p s G=>
  intro k u J m;obtain⟨N,L,o,A⟩:=drop_cons u;have S:=iQa ((k:Int)+1) (by omega);have C:p∈l:=by rw[<-L];exact eE _
  have hp:=a p C;have i:=b p C;have r1:bF (aG l) k 0 1 false=some (aI p.pos):=by simp[aG,A,eb.enc]
  have r2:bF (aG l) k 1 1 false=some p.av:=(by simp[aG,A,eb.enc]);have j:=G (k+1) o (by omega);rw[show((k+1:Nat):Int)=(k:Int)+1 from by omega]at j;by_cases w:p.pos=q
  ·have e:Ue (p :: s) q=p.bs:=by show(if p.pos=q then _ else _)=_;rw[if_pos w]
   rw[e]at m;have F:au p.bs≠[]:=(by intro h;have:=iQg List.length h;rw[fN,i]at this;cases this);have v:(au p.bs).length=128:=by rw[fN];exact i
   clear G j a b e u o C;refine mE _ _ _ _ _ λg=>?_;simp only[cz]at E;have K : ¬p.bs=[]:=by
    intro h;rw[h]at i;cases i
   rcases hp with ⟨h,M⟩ | ⟨c,h,_⟩
   ·exact absurd M F
   rw[h]at r2;simp[aj, *,kf,d.r,d.idx,D6];first | done | exact m _ _ (λn=>by simp[v])
  have e:Ue (p :: s) q=Ue s q:=by show(if p.pos=q then _ else _)=_;rw[if_neg w]
  rw[e]at m;have R:=j m;clear G j a b u o C m;refine mE _ _ _ _ _ λg=>?_;simp only[cz]at E;simp[aj, *,kf,d.r,d.idx]
theorem ago(b : ∀s∈l,s.bs.length=128)(q:Int):ar env 95 [cz x st lf dd,aI q]=some (.bg 1 (au (Ue l q)) none):=by
 refine aF rfl (by kernel_rfl) (Aq _ _ _ _ λg=>?_);have h:=aau (st:=st) (lf:=lf) (dd:=dd) d a f b (q:=q) (r1:=⟨0,2,0,0⟩) (Q:=λy H'=>view H'.get 8 y=some (.bg 1 (au (Ue l q)) none)) (H:=[(⟨0,2,0,0⟩,some ⟨4,[cz x st lf dd],false,false⟩)]) (by simp(maxDischargeDepth:=12) [Ek, *]) (by simp) l 0 rfl (by omega) (λy H' c=>c 7);simp only[cz]at h ⊢;simp[aj, *,sY,d.r];first | done | exact h
theorem Pu(q : ∀s∈l,s.bs.length<1000000000){r1 r2:Ref}(n3:r1≠r2){Q:AV->aa->Prop} : ∀(s:List eb)(k:Nat)(c:List eb)(u:AV)(H:aa),l.drop k=s->k<=l.length->c.length=k->Fr H->H.get r1=some ⟨4,[cz x st lf dd],false,false⟩->H.get r2=some ⟨4,[cz aO 0 0 false],false,false⟩->r1.t≠28->r2.t≠28 ->
 fG [28] 2 (aG c) H u->(c=[]->u=aO) ->
 (∀y H',fG [28] 2 (aG (c++F3 s)) H' y->(c++F3 s=[]->y=aO)->Q (cz y st lf dd) H') ->
 bS env Tryz.f6 0 jn [(4,aI k),(1,.ptr r1 0 0),(3,u),(2,.ptr r2 0 0)] H Q:=by
 intro s;induction s with
 | nil=>
  intro k c u H K W U hF O V v w D L E;obtain rfl:=drop_nil K W;have e:c++F3 []=c:=by simp[F3]
  rw[e]at E;have n4:r2≠r1:=λe=>n3 e.symm;have hcl:u.cells=[u]/\u.one=true:=(by rcases D with ⟨rfl,_⟩ | ⟨t,g,_,rfl,_⟩<;>exact⟨rfl,rfl⟩);have G : ∀b J,fG [28] 2 (aG c) ((H.put r1 b).put r2 J) u:=by
   intro b J;rcases D with h | ⟨t,g,z,rfl,hh⟩
   ·exact .inl h
   have N:t=28:=(by simpa using z);subst N;refine .inr ⟨28,g,z,rfl,?_⟩;have m1 : ¬(⟨0,28,g,0⟩:Ref)=r1:=λe=>v (by rw[<-e]);have m2 : ¬(⟨0,28,g,0⟩:Ref)=r2:=λe=>w (by rw[<-e]);rw[aa.ab,if_neg m2,aa.ab,if_neg m1];exact hh
  have n:=λb J=>E u _ (G b J) L;clear E G D L a q K;refine pt _ _ _ _ _ _ λg=>?_;simp only[cz]at O V n;simp[aj, *,eO,d.r,aa.ab];done
 | cons p s Y=>
  intro k c u H K W U hF O V v w D L E;obtain⟨hlt,hg,S,I⟩:=drop_cons K;have M:p∈l:=by rw[<-hg];exact eE _
  have hp:=a p M;have hpl:=q p M;have e3:=iQa ((k:Int)+1) (by omega);have rd1:bF (aG l) k 0 1 false=some (aI p.pos):=by simp[aG,I,eb.enc]
  have rd2:bF (aG l) k 1 1 false=some p.av:=(by simp[aG,I,eb.enc]);have o:=λT H'=>Y (k+1) (c++[rtS p]) T H' S (by omega) (by simp;omega);rw[show((k+1:Nat):Int)=(k:Int)+1 from by omega]at o;have n : ∀y H',fG [28] 2 (aG ((c++[rtS p])++F3 s)) H' y->(((c++[rtS p])++F3 s)=[]->y=aO)->Q (cz y st lf dd) H':=λy H' h hn=>E y H' (by simpa [F3] using h) (λe=>by simp[F3]at e);clear E L Y;have F:(rtS p).enc = .agg [aI p.pos,kn 1 (au p.bs)]:=rfl;have j : ∀(g m:Nat)(H':aa),m=c.length+1->H'.get ⟨0,28,g,0⟩=some ⟨2,aG c++[.agg [aI p.pos,kn 1 (au p.bs)]],true,false⟩->fG [28] 2 (aG (c++[rtS p])) H' (.bk ⟨0,28,g,0⟩ 0 m none):=(by intro g m H' M h;subst M;exact .inr ⟨28,g,by simp,by simp,by rw[h];simp[aG,F]⟩);have hb1:(au p.bs).length=p.bs.length:=(by simp);have hb2:p.bs.length * 1<=140737488355328:=(by omega);have Z:=hp.jZ;refine pt _ _ _ _ _ _ λg=>?_;simp only[cz]at O V o n;clear a q;have hb3:p.bs.length<=140737488355328:=by omega
  by_cases X:p.bs=[]
  ·have P:kn 1 (au p.bs)=aO:=by rw[X];rfl
   rw[P]at j;rcases D with ⟨rfl,R⟩ | ⟨t,C,z,rfl,B⟩
   ·have A:c=[]:=(by simpa [aG] using R);subst A;have i:=j (H.gen 0 28) 1;simp[aj, *,eO,d.r,d.idx,hp.r,hp.jZ,D6];exact o _ _ (by simp(maxDischargeDepth:=12) [dU, *]) (by simp(maxDischargeDepth:=12) [dU, *]) (by simp(maxDischargeDepth:=12) [dU, *]) v w (i _ rfl (by simp[aG])) (λe=>by simp at e) n
   rw[mA]at z;subst z;have l6:(H.get ⟨0,28,C,0⟩).isSome=true:=by rw[B];rfl
   have w1 : ¬r1=(⟨0,28,C,0⟩:Ref):=λe=>v (by rw[e]);have w2 : ¬r2=(⟨0,28,C,0⟩:Ref):=λe=>w (by rw[e]);have f4:kL 2 32 c.length true none (some ⟨2,aG c,true,false⟩) (some [.agg [aI p.pos,aO]]):=(by simp;omega);have i:=λH'=>j (H.gen 0 28) (c.length+1) H' rfl;clear j U;simp[aj, *,eO,d.r,d.idx,hp.r,hp.jZ,D6];exact o _ _ (by simp(maxDischargeDepth:=12) [dU, *]) (by simp(maxDischargeDepth:=12) [dU, *]) (by simp(maxDischargeDepth:=12) [dU, *]) v w (i _ (by simp)) (λe=>by simp at e) n
  have P:kn 1 (au p.bs) = .bg 1 (au p.bs) none:=tH 1 (by simpa [au] using X);rw[P]at j;rcases D with ⟨rfl,R⟩ | ⟨t,C,z,rfl,B⟩
  ·have A:c=[]:=(by simpa [aG] using R);subst A;have i:=j (H.gen 0 28) 1;simp[aj, *,eO,d.r,d.idx,hp.r,hp.jZ,D6];exact o _ _ (by simp(maxDischargeDepth:=12) [dU, *]) (by simp(maxDischargeDepth:=12) [dU, *]) (by simp(maxDischargeDepth:=12) [dU, *]) v w (i _ rfl (by simp[aG])) (λe=>by simp at e) n
  rw[mA]at z;subst z;have l6:(H.get ⟨0,28,C,0⟩).isSome=true:=by rw[B];rfl
  have w1 : ¬r1=(⟨0,28,C,0⟩:Ref):=λe=>v (by rw[e]);have w2 : ¬r2=(⟨0,28,C,0⟩:Ref):=λe=>w (by rw[e]);have f4:kL 2 32 c.length true none (some ⟨2,aG c,true,false⟩) (some [.agg [aI p.pos,.bg 1 (au p.bs) none]]):=(by simp;omega);have i:=λH'=>j (H.gen 0 28) (c.length+1) H' rfl;clear j U;simp[aj, *,eO,d.r,d.idx,hp.r,hp.jZ,D6];exact o _ _ (by simp(maxDischargeDepth:=12) [dU, *]) (by simp(maxDischargeDepth:=12) [dU, *]) (by simp(maxDischargeDepth:=12) [dU, *]) v w (i _ (by simp)) (λe=>by simp at e) n
theorem YW(b : ∀s∈l,s.bs.length<1000000000):ar env 6 [cz x st lf dd]=some (cz (kn 2 (aG (F3 l))) st lf dd):=by
 refine aF rfl (by kernel_rfl) (yl _ _ _ λg=>?_);have h:=Pu (st:=st) (lf:=lf) (dd:=dd) d a f b (r1:=⟨0,1,0,0⟩) (r2:=⟨0,2,0,0⟩) (by simp) (Q:=λy H'=>view H'.get 8 y=some (cz (kn 2 (aG (F3 l))) st lf dd)) l 0 [] aO [(⟨0,2,0,0⟩,some ⟨4,[cz aO 0 0 false],false,false⟩),(⟨0,1,0,0⟩,some ⟨4,[cz x st lf dd],false,false⟩)] rfl (by omega) rfl (by simp(maxDischargeDepth:=12) [Ek, *]) (by simp) (by simp) (by simp) (by simp) (.inl ⟨rfl,rfl⟩) (λ_=>rfl) (λy H' j k=>by
  rw[sO]at j k;unfold cz;rcases j with ⟨rfl,m⟩ | ⟨t,n,o,rfl,i⟩
  ·rw[m];simp[kn]
  have c:aG (F3 l)≠[]:=by
   intro e;have:F3 l=[]:=by simpa [aG] using e
   cases k this
  rw[tH 2 c];rw[yW]at *;simp[i])
 rw[show((0:Nat):Int)=0 from rfl]at h;generalize kn 2 (aG (F3 l))=W at *;simp only[cz]at h ⊢;simp[aj, *,ry,d.r];first | done | exact h
end
def Me(l:List eb)(q:Int):List eb:=l.filter λs=>decide (s.pos<q)
def JK(l:List eb)(q:Int):List eb:=l.filter λs=>decide (q<s.pos)
def sR(l:List eb)(q:Int)(b:List UInt8):List eb:=Me l q++XZ q b :: JK l q
section
variable{l:List eb}{x:AV}(c:Sl 2 (aG l) x)(a : ∀s∈l,iX s)(d:l.length<1000000){q:Int}
include c a d
theorem O1{Q:AV->aa->Prop} : ∀(s:List eb)(k:Nat)(b:List eb)(o:AV)(H:aa),l.drop k=s->k<=l.length->b.length<=1000001+k->b≠[]->Fr H->fG [29,36] 2 (aG b) H o ->
 (∀y H',fG [29,36] 2 (aG (b++JK s q)) H' y->Q y H') ->
 bS env Tryz.f89 0 gk [(9,aI k),(0,x),(7,o),(1,aI q)] H Q:=by
 intro s;induction s with
 | nil=>intro k b o H D K I j J B i;obtain rfl:=drop_nil D K;have n:=i o H (by simpa [JK] using B);clear i B a;refine lG _ _ _ _ _ _ λg=>?_;simp[aj, *,jt,c.r];done
 | cons p s z=>
  intro k b o H D K I j J B i;obtain⟨T,P,m,v⟩:=drop_cons D;have hp:=a p (by rw[<-P];exact eE _);have W:=iQa ((k:Int)+1) (by omega);have S:bF (aG l) k 0 1 false=some (aI p.pos):=by simp[aG,v,eb.enc]
  have N:bF (aG l) k 0 2 true=some (.agg [aI p.pos,p.av]):=(by simp[aG,v,eb.enc]);have O:=hp.r;rcases B with ⟨_,M⟩ | ⟨t,E,w,rfl,u⟩
  ·exact absurd (by simpa [aG] using M) j
  by_cases L:q<p.pos
  ·have e:=λF H'=>z (k+1) (b++[p]) F H' m (by omega) (by simp;omega) (by simp);rw[show((k+1:Nat):Int)=(k:Int)+1 from by omega]at e;have f:JK (p :: s) q=p :: JK s q:=by simp[JK,L]
   rw[f]at i;have n : ∀y H',fG [29,36] 2 (aG ((b++[p])++JK s q)) H' y->Q y H':=λy H' h=>i y H' (by simpa using h);have V:kL 2 32 b.length true none (some ⟨2,aG b,true,false⟩) (some [.agg [aI p.pos,p.av]]):=(by simp;omega);have U:(H.get ⟨0,t,E,0⟩).isSome=true:=by rw[u];rfl
   have G : ∀(A:Nat)(H':aa),H'.get ⟨0,t,A,0⟩=some ⟨2,aG b++[.agg [aI p.pos,p.av]],true,false⟩->fG [29,36] 2 (aG (b++[p])) H' (.bk ⟨0,t,A,0⟩ 0 (b.length+1) none):=(by intro A H' h;exact .inr ⟨t,A,w,by simp,by rw[h];simp[aG,eb.enc]⟩);have C:t=29\/t=36:=(by simpa using w);clear i z a I f w;refine lG _ _ _ _ _ _ λg=>?_;rcases C with rfl | rfl
   all_goals
    simp[aj, *,jt,c.r,c.idx]
    exact e _ _ (by simp(maxDischargeDepth:=12) [dU, *]) (G _ _ (by simp)) n
  have e:=λH'=>z (k+1) b (.bk ⟨0,t,E,0⟩ 0 (aG b).length none) H' m (by omega) (by omega) j;rw[show((k+1:Nat):Int)=(k:Int)+1 from by omega]at e;have f:JK (p :: s) q=JK s q:=by simp[JK,L]
  rw[f]at i;have R:=e H J (.inr ⟨t,E,w,rfl,u⟩) i;rw[yW]at R;clear i z a I f w e;refine lG _ _ _ _ _ _ λg=>?_;simp[aj, *,jt,c.r,c.idx];done
theorem O2{xb:AV}{b:List UInt8}(z:Sl 1 (au b) xb)(hbl:b.length<1000000000){Q:AV->aa->Prop}(O : ∀y H',fG [29,36] 2 (aG (sR l q b)) H' y->Q y H') : ∀(s:List eb)(k:Nat)(e:List eb)(L:AV)(H:aa),l.drop k=s->k<=l.length->e.length<=k->e++Me s q=Me l q->Fr H->fG [29] 2 (aG e) H L ->
 bS env Tryz.f89 0 gl [(8,aI k),(0,x),(7,L),(1,aI q),(2,xb)] H Q:=by
 intro s;induction s with
 | nil=>
  intro k e L H N W R j V E;obtain rfl:=drop_nil N W;have v:e=Me l q:=by rw[<-j];simp[Me]
  have hbr:=z.r;have Y:=z.jZ;have hb2:b.length<=140737488355328:=by omega
  have K:=λD H'=>O1 (q:=q) c a d (Q:=Q) l 0 (e++[XZ q b]) D H' rfl (by omega) (by simp;omega) (by simp);have B : ∀y H',fG [29,36] 2 (aG ((e++[XZ q b])++JK l q)) H' y->Q y H':=λy H' h=>O y H' (by
   have:(e++[XZ q b])++JK l q=sR l q b:=by rw[v];simp[sR]
   rw[<-this];exact h)
  rw[show((0:Nat):Int)=0 from rfl]at K;have i : ∀(t C m:Nat)(H':aa),t=29\/t=36->m=e.length+1->H'.get ⟨0,t,C,0⟩=some ⟨2,aG e++[.agg [aI q,kn 1 (au b)]],true,false⟩->fG [29,36] 2 (aG (e++[XZ q b])) H' (.bk ⟨0,t,C,0⟩ 0 m none):=(by intro t C m H' A T h;subst T;exact .inr ⟨t,C,by rcases A with rfl | rfl<;>simp,by simp,by rw[h];simp[aG,eb.enc,XZ]⟩);clear O a j v N;refine lH _ _ _ _ _ _ _ λg=>?_;by_cases J:b=[]
  ·have S:kn 1 (au b)=aO:=by rw[J];rfl
   rw[S]at i;rcases E with ⟨rfl,F⟩ | ⟨t,I,A,rfl,u⟩
   ·have o:e=[]:=(by simpa [aG] using F);subst o;have f:=i 36 (H.gen 0 36) 1;simp[aj, *,da,c.r,c.idx,z.r,z.jZ,D6];exact K _ _ (by simp(maxDischargeDepth:=12) [dU, *]) (f _ (.inr rfl) rfl (by simp[aG])) B
   rw[mA]at A;subst A;have U:(H.get ⟨0,29,I,0⟩).isSome=true:=by rw[u];rfl
   have X:kL 2 32 e.length true none (some ⟨2,aG e,true,false⟩) (some [.agg [aI q,aO]]):=(by simp;omega);have f:=λH'=>i 29 (H.gen 0 29) (e.length+1) H' (.inl rfl) rfl;clear i R;simp[aj, *,da,c.r,c.idx,z.r,z.jZ,D6];exact K _ _ (by simp(maxDischargeDepth:=12) [dU, *]) (f _ (by simp)) B
  have S:kn 1 (au b) = .bg 1 (au b) none:=tH 1 (by simpa [au] using J);rw[S]at i;rcases E with ⟨rfl,F⟩ | ⟨t,I,A,rfl,u⟩
  ·have o:e=[]:=(by simpa [aG] using F);subst o;have f:=i 36 (H.gen 0 36) 1;simp[aj, *,da,c.r,c.idx,z.r,z.jZ,D6];exact K _ _ (by simp(maxDischargeDepth:=12) [dU, *]) (f _ (.inr rfl) rfl (by simp[aG])) B
  rw[mA]at A;subst A;have U:(H.get ⟨0,29,I,0⟩).isSome=true:=by rw[u];rfl
  have X:kL 2 32 e.length true none (some ⟨2,aG e,true,false⟩) (some [.agg [aI q,.bg 1 (au b) none]]):=(by simp;omega);have f:=λH'=>i 29 (H.gen 0 29) (e.length+1) H' (.inl rfl) rfl;clear i R;simp[aj, *,da,c.r,c.idx,z.r,z.jZ,D6];exact K _ _ (by simp(maxDischargeDepth:=12) [dU, *]) (f _ (by simp)) B
 | cons p s P=>
  intro k e L H N W R j V E;obtain⟨hlt,hg,G,M⟩:=drop_cons N;have hp:=a p (by rw[<-hg];exact eE _);have e3:=iQa ((k:Int)+1) (by omega);have rd1:bF (aG l) k 0 1 false=some (aI p.pos):=by simp[aG,M,eb.enc]
  have rd2:bF (aG l) k 0 2 true=some (.agg [aI p.pos,p.av]):=(by simp[aG,M,eb.enc]);have hpr:=hp.r;by_cases Z:p.pos<q
  ·have n:Me (p :: s) q=p :: Me s q:=(by simp[Me,Z]);have w:=λD H'=>P (k+1) (e++[p]) D H' G (by omega) (by simp;omega) (by rw[<-j,n];simp);rw[show((k+1:Nat):Int)=(k:Int)+1 from by omega]at w;have i : ∀(C m:Nat)(H':aa),m=e.length+1->H'.get ⟨0,29,C,0⟩=some ⟨2,aG e++[.agg [aI p.pos,p.av]],true,false⟩->fG [29] 2 (aG (e++[p])) H' (.bk ⟨0,29,C,0⟩ 0 m none):=(by intro C m H' T h;subst T;exact .inr ⟨29,C,by simp,by simp,by rw[h];simp[aG,eb.enc]⟩);clear O P a n j;refine lH _ _ _ _ _ _ _ λg=>?_;rcases E with ⟨rfl,F⟩ | ⟨t,I,A,rfl,u⟩
   ·have o:e=[]:=(by simpa [aG] using F);subst o;have f:=i (H.gen 0 29) 1;simp[aj, *,da,c.r,c.idx,D6];exact w _ _ (by simp(maxDischargeDepth:=12) [dU, *]) (f _ rfl (by simp[aG]))
   rw[mA]at A;subst A;have U:(H.get ⟨0,29,I,0⟩).isSome=true:=by rw[u];rfl
   have X:kL 2 32 e.length true none (some ⟨2,aG e,true,false⟩) (some [.agg [aI p.pos,p.av]]):=(by simp;omega);have f:=λH'=>i (H.gen 0 29) (e.length+1) H' rfl;clear i R;simp[aj, *,da,c.r,c.idx,D6];exact w _ _ (by simp(maxDischargeDepth:=12) [dU, *]) (f _ (by simp))
  have n:Me (p :: s) q=Me s q:=(by simp[Me,Z]);have w:=P (k+1) e L H G (by omega) (by omega) (by rw[<-j,n]) V E;rw[show((k+1:Nat):Int)=(k:Int)+1 from by omega]at w;clear O P a n j E;refine lH _ _ _ _ _ _ _ λg=>?_;simp[aj, *,da,c.r,c.idx];done
theorem acu{xb:AV}{b:List UInt8}(k:Sl 1 (au b) xb)(f:b.length<1000000000):ar env 89 [x,aI q,xb]=some (.bg 2 (aG (sR l q b)) none):=by
 refine aF rfl (by kernel_rfl) (yj _ _ _ _ _ λg=>?_);have h:=O2 c a d k f (q:=q) (Q:=λy H'=>view H'.get 8 y=some (.bg 2 (aG (sR l q b)) none)) (λy H' i=>by
  rcases i with ⟨rfl,j⟩ | ⟨t,m,n,rfl,e⟩
  ·simp[aG,sR]at j
  rw[yW]at *;simp[e]) l 0 [] aO [] rfl (by omega) (by simp) (by simp) Fr.nil (.inl ⟨rfl,rfl⟩)
 rw[show((0:Nat):Int)=0 from rfl]at h;generalize aG (sR l q b)=W at *;simp[aj, *,ru];first | done | exact h
end
end
end Go.Proofs.YtmjkpdknicjjgaaGreat
