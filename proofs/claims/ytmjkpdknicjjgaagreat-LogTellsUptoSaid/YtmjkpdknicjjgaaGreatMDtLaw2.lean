/-
  What is to be shown of each function, computed from its code. No statement of a seat is proved here.
-/
import Derived.Test.YtmjkpdknicjjgaaGreatMDtEnv
set_option linter.unusedVariables false
set_option linter.unusedSimpArgs false
set_option linter.unusedSectionVars false
set_option linter.unnecessarySimpa false
set_option maxRecDepth 1000000
set_option linter.defProp false
noncomputable section
namespace Go.Proofs.YtmjkpdknicjjgaaGreat
open Go.Ab
section
def A8:Code:=(Tryz.f46.body).getD .skip
def HZ:Nat->Option (List Nat):=λi=>none
def Ie:Nat->Bool:=λi=>false
def Be(g:Nat->AV)(x0:AV)(H:aa)(Q:AV->aa->Prop):Prop:=
 dO H 5 57 x0 λc=>
 YD H 6 57 c λa b=>
 Bg b 57 a x0 λd H2=>
 Q a H2
def HO(x0:AV)(H:aa)(Q:AV->aa->Prop)(h : ∀g,Be g x0 H Q):cB aK Tryz.f46 0 [.code A8] [(0,x0)] H Q:=⟨λg=>lY (live:=HZ) (cut:=Ie) (n:=500) (Eq.mp (by kernel_rfl) (h g))⟩
def bU:Code:=(Tryz.f45.body).getD .skip
def gY:Nat->Option (List Nat):=λi=>none
def hJ:Nat->Bool:=λi=>false
def bW(dep:Nat)(g:Nat->AV)(x0:AV)(H:aa)(Q:AV->aa->Prop):Prop:=
 Sz 22 3 x0 λc=>
 br (some c) (
  Q (.v (.slice none 0 0)) H) (
  gh (lH env.P false true H (⟨(dep+1),5,aa.gen H (dep+1) 5,0⟩:Ref) 22 0 (some [])) λa b=>
  Pe b dep 7 22 22 a x0 λd H2=>
  Q d H2)
def dv(dep:Nat)(x0:AV)(H:aa)(Q:AV->aa->Prop)(h : ∀g,bW dep g x0 H Q):cB aK Tryz.f45 (dep+1) [.code bU] [(0,x0)] H Q:=⟨λg=>lY (live:=gY) (cut:=hJ) (n:=500) (Eq.mp (by kernel_rfl) (h g))⟩
def zQ:Code:=(Tryz.f23.body).getD .skip
def mi:=uI Tryz.f23 3
def zB:Nat->Option (List Nat):=λi=>cond (Nat.beq i 3) (some [10,3,2,1,9]) (none)
def zL:Nat->Bool:=λi=>false
def rm(g:Nat->AV)(x0:AV)(H:aa)(Q:AV->aa->Prop):Prop:=
 eA H 1 24 x0 λb e=>
 iy e 2 24 λd H2=>
 ak 24 b 0 λi=>
 ad H2 22 i λf=>
 gh (aV aK true (ay aK) (cD aK 0) H2 (Ref.mk 0 7 (aa.gen H2 0 7) 0) (some (.fn (.func 45) [] [])) [f]) λa c=>
 dO c 9 22 a λh=>
 cB aK Tryz.f23 0 mi [(10,(.v (.int .i64 0))),(3,a),(2,d),(1,b),(9,h)] c Q
def FY(x0:AV)(H:aa)(Q:AV->aa->Prop)(h : ∀g,rm g x0 H Q):cB aK Tryz.f23 0 [.code zQ] [(0,x0)] H Q:=⟨λg=>lY (live:=zB) (cut:=zL) (n:=500) (Eq.mp (by kernel_rfl) (h g))⟩
def mB(g:Nat->AV)(a c f i j:AV)(H:aa)(Q:AV->aa->Prop):Prop:=
 fQ 3 10 9 a j λm=>
 br (some m) (
  dF H 22 c a λe=>
  ak 59 e 1 λl=>
  ad H 57 l λh=>
  gh (aV aK true (ay aK) (cD aK 0) H (Ref.mk 0 20 (aa.gen H 0 20) 0) (some (.fn (.func 46) [] [])) [h]) λk b=>
  dF b 22 c a λd=>
  ak 59 d 1 λn=>
  aT b 57 n k λp H2=>
  jh 3 10 1 a λo=>
  cB aK Tryz.f23 0 mi [(10,o),(3,c),(2,f),(1,i),(9,j)] H2 Q) (
  ak 24 i 0 λe=>
  aT H 22 e c λl b=>
  ad b 24 i λh=>
  aT b 24 f h λk H2=>
  bp H2 f 24 λd=>
  Q d H2)
def om(a d b e c:AV)(H:aa)(Q:AV->aa->Prop)(h : ∀g,mB g a d b e c H Q):cB aK Tryz.f23 0 mi [(10,a),(3,d),(2,b),(1,e),(9,c)] H Q:=qQ λg=>lY (live:=zB) (cut:=zL) (n:=500) (Eq.mp (by kernel_rfl) (h g))
def tp:Code:=(Tryz.f24.body).getD .skip
def EM:Nat->Option (List Nat):=λi=>none
def ER:Nat->Bool:=λi=>false
def tv(g:Nat->AV)(x0 U N:AV)(H:aa)(Q:AV->aa->Prop):Prop:=
 eA H 3 24 x0 λa H1=>
 iy H1 6 24 λe H2=>
 ad H2 24 a λv3=>
 gh (aV aK true (ay aK) (cD aK 0) H2 (Ref.mk 0 13 (aa.gen H2 0 13) 0) (some (.fn (.func 47) [] [])) [v3,U]) λv4 R=>
 j5 37 14 0 v4 λv5=>
 br (some v5) (
  ee 24 λv6=>
  aT R 24 e v6 λv7 F=>
  bp F e 24 λL=>
  Q (.tup [L,v4]) F) (
  dO R 19 57 N λv6=>
  j5 3 19 128 v6 λv7=>
  br (some v7) (
   ee 24 λL=>
   aT R 24 e L λv9 F=>
   bp F e 24 λK=>
   Q (.tup [K,(.v (.int .i64 2))]) F) (
   ad R 24 a λL=>
   YH R 23 L λv9 F=>
   aT F 24 a v9 λK C=>
   ak 24 a 3 λv11=>
   ad C 4 v11 λB=>
   gQ B false (az 24 a 2) λZ=>
   gQ B false (au C 3 Z) λv14=>
   gQ B false (ud 3 29 0 v14) λv15=>
   cM B v15 λV=>
   br (some V) (
    ak 24 a 3 λI=>
    gh (iV env.P C 4 (some I) (some (AV.v (Value.bool true)))) λM w=>
    ad w 24 a λG=>
    aT w 24 e G λA l=>
    bp l e 24 λf=>
    Q (.tup [f,(.v (.int .i64 0))]) l) (
    ak 24 a 2 λI=>
    ad C 3 I λM=>
    wx 3 36 0 M λG=>
    br (some G) (
     ak 24 a 2 λA=>
     ad C 3 A λf=>
     BR 3 39 1 f λp=>
     ak 24 a 2 λJ=>
     aT C 3 J p λO w=>
     ad w 24 a λq=>
     YJ w 45 q U λi l=>
     bj i 0 λc=>
     bj i 1 λs=>
     mE s λn=>
     br (some n) (
      ak 24 a 0 λh=>
      ad l 22 h λk=>
      uc 59 0 U λj=>
      nz l 55 22 1 0 j λd z=>
      YM z 56 k c d λt H9=>
      ak 24 a 0 λy=>
      aT H9 22 y t λx b=>
      ak 24 a 0 λE=>
      ad b 22 E λo=>
      Pk b 62 N λT u=>
      dF u 22 o c λD=>
      ak 59 D 1 λX=>
      aT u 57 X T λv42 m=>
      ad m 24 a λW=>
      aT m 24 e W λv44 S=>
      bp S e 24 λY=>
      Q (.tup [Y,(.v (.int .i64 0))]) S) (
      ak 24 a 0 λh=>
      ad l 22 h λk=>
      Pk l 62 N λj z=>
      dF z 22 k c λd=>
      ak 59 d 1 λt=>
      aT z 57 t j λy H9=>
      ad H9 24 a λx=>
      aT H9 24 e x λE b=>
      bp b e 24 λo=>
      Q (.tup [o,(.v (.int .i64 0))]) b)) (
     ad C 24 a λA=>
     YJ C 45 A U λf w=>
     bj f 0 λp=>
     bj f 1 λJ=>
     mE J λO=>
     br (some O) (
      ak 24 a 0 λq=>
      ad w 22 q λi=>
      uc 59 0 U λc=>
      nz w 55 22 1 0 c λs l=>
      YM l 56 i p s λn z=>
      ak 24 a 0 λh=>
      aT z 22 h n λk H9=>
      ak 24 a 0 λj=>
      ad H9 22 j λd=>
      Pk H9 62 N λt b=>
      dF b 22 d p λy=>
      ak 59 y 1 λx=>
      aT b 57 x t λE u=>
      ad u 24 a λo=>
      aT u 24 e o λT m=>
      bp m e 24 λD=>
      Q (.tup [D,(.v (.int .i64 0))]) m) (
      ak 24 a 0 λq=>
      ad w 22 q λi=>
      Pk w 62 N λc l=>
      dF l 22 i p λs=>
      ak 59 s 1 λn=>
      aT l 57 n c λh z=>
      ad z 24 a λk=>
      aT z 24 e k λj H9=>
      bp H9 e 24 λd=>
      Q (.tup [d,(.v (.int .i64 0))]) H9)))))
def yJ(x0 b a:AV)(H:aa)(Q:AV->aa->Prop)(h : ∀g,tv g x0 b a H Q):cB aK Tryz.f24 0 [.code tp] [(0,x0),(1,b),(2,a)] H Q:=⟨λg=>lY (live:=EM) (cut:=ER) (n:=500) (Eq.mp (by kernel_rfl) (h g))⟩
def tn:Code:=(Tryz.f7.body).getD .skip
def mU:=uI Tryz.f7 14
def yO:Nat->Option (List Nat):=λi=>cond (Nat.beq i 14) (some [10,70,2,1,68,15,69]) (none)
def yS:Nat->Bool:=λi=>false
def k7(g:Nat->AV)(x0 W C F x4:AV)(H:aa)(Q:AV->aa->Prop):Prop:=
 eA H 5 24 x0 λy X=>
 eA X 9 43 x4 λv2 H2=>
 iy H2 10 24 λa U=>
 ad U 24 y λY=>
 YG U 19 Y λT O=>
 j5 37 20 0 T λZ=>
 br (some Z) (
  ee 24 λA=>
  aT O 24 a A λV n=>
  bp n a 24 λq=>
  Q (.tup [q,(.v (.int .i64 0)),T]) n) (
  ak 24 y 1 λA=>
  ad O 3 A λV=>
  wu 3 25 1 V λq=>
  gQ q true (bF F) λL=>
  gQ q true (m9 3 28 1 L) λD=>
  ct q D λf=>
  gQ f true (bF F) λB=>
  gQ f true (ql 3 32 16777216 B) λE=>
  ct f E λP=>
  YQ O 36 W λI n=>
  mE I λc=>
  gQ c false (bF C) λz=>
  gW c false n (aV aK true (ay aK) (cD aK 0) n (Ref.mk 0 40 (aa.gen n 0 40) 0) (some (.fn (.func 21) [] [])) [z,(.v (.int .i64 2048))]) λS x=>
  gQ c false (vd S) λR=>
  cM c R λe=>
  gQ e false (bF P) λK=>
  gQ e false (vd K) λM=>
  cM e M λG=>
  br (some G) (
   ee 24 λm=>
   aT x 24 a m λw d=>
   bp d a 24 λi=>
   Q (.tup [i,(.v (.int .i64 0)),(.v (.int .i64 2))]) d) (
   ad x 43 v2 λm=>
   ak 24 y 1 λw=>
   ad x 3 w λi=>
   YL x 53 m i F λp d=>
   bj p 0 λb=>
   bj p 1 λu=>
   j5 37 56 0 u λN=>
   br (some N) (
    ee 24 λj=>
    aT d 24 a j λt l=>
    bp l a 24 λk=>
    Q (.tup [k,(.v (.int .i64 0)),u]) l) (
    dO d 62 79 b λj=>
    fJ 3 60 62 C j λt=>
    wx 3 63 2048 t λk=>
    br (some k) (
     ee 24 λh=>
     aT d 24 a h λo l=>
     bp l a 24 λs=>
     Q (.tup [s,(.v (.int .i64 0)),(.v (.int .i64 9))]) l) (
     ad d 24 y λh=>
     YH d 67 h λo l=>
     aT l 24 a o λs H9=>
     dO H9 69 79 b λJ=>
     cB aK Tryz.f7 0 mU [(10,a),(70,(.v (.int .i64 0))),(2,C),(1,W),(68,b),(15,b),(69,J)] H9 Q))))
def yI(x0 d a c b:AV)(H:aa)(Q:AV->aa->Prop)(h : ∀g,k7 g x0 d a c b H Q):cB aK Tryz.f7 0 [.code tn] [(0,x0),(1,d),(2,a),(3,c),(4,b)] H Q:=⟨λg=>lY (live:=yO) (cut:=yS) (n:=500) (Eq.mp (by kernel_rfl) (h g))⟩
def pC(g:Nat->AV)(a b j u e f d:AV)(H:aa)(Q:AV->aa->Prop):Prop:=
 fQ 3 70 69 b d λA=>
 br (some A) (
  dF H 79 e b λn=>
  ad H 57 n λp=>
  ad H 24 a λk=>
  Fb 3 77 2048 u λq=>
  fJ 3 78 79 q j λm=>
  fJ 3 80 81 m b λw=>
  gh (aV aK true (ay aK) (cD aK 0) H (Ref.mk 0 84 (aa.gen H 0 84) 0) (some (.fn (.func 24) [] [])) [k,w,p]) λt i=>
  bj t 0 λx=>
  bj t 1 λh=>
  aT i 24 a x λy H2=>
  j5 37 87 0 h λl=>
  br (some l) (
   ee 24 λc=>
   aT H2 24 a c λz s=>
   bp s a 24 λo=>
   Q (.tup [o,(.v (.int .i64 0)),h]) s) (
   jh 3 70 1 b λc=>
   cB aK Tryz.f7 0 mU [(10,a),(70,c),(2,j),(1,u),(68,e),(15,f),(69,d)] H2 Q)) (
  ad H 24 a λn=>
  dO H 95 79 f λp=>
  fJ 3 93 95 j p λk=>
  aT H 24 a n λq i=>
  bp i a 24 λm=>
  Q (.tup [m,k,(.v (.int .i64 0))]) i)
def uq(c b f i e a d:AV)(H:aa)(Q:AV->aa->Prop)(h : ∀g,pC g c b f i e a d H Q):cB aK Tryz.f7 0 mU [(10,c),(70,b),(2,f),(1,i),(68,e),(15,a),(69,d)] H Q:=qQ λg=>lY (live:=yO) (cut:=yS) (n:=500) (Eq.mp (by kernel_rfl) (h g))
def vE:Code:=(Tryz.f91.body).getD .skip
def Cy:Nat->Option (List Nat):=λi=>none
def CN:Nat->Bool:=λi=>false
def lJ(g:Nat->AV)(x0:AV)(H:aa)(Q:AV->aa->Prop):Prop:=
 iy H 2 43 λa w=>
 fH w 57 x0 0 λE=>
 ad w 5 E λF=>
 ak 43 a 0 λD=>
 aT w 5 D F λG H2=>
 dL (cm env.P (aa.get H2) 57 (some x0) (oi (.v (.int .i64 1))) (some none) (some none)) λu=>
 ak 43 a 0 λB=>
 ad H2 5 B λy=>
 wq 5 10 y λC=>
 br (some C) (
  dL (cm env.P (aa.get H2) 57 (some u) (some none) (oi (.v (.int .i64 6))) (some none)) λq=>
  gh (aV aK true (ay aK) (cD aK 0) H2 (Ref.mk 0 16 (aa.gen H2 0 16) 0) (some (.fn (.func 111) [] [])) [q]) λd m=>
  bj d 0 λb=>
  bj d 1 λc=>
  ak 43 a 2 λe=>
  ak 36 e 1 λl=>
  aT m 29 l b λf h=>
  fH h 57 u 6 λk=>
  ad h 5 k λj=>
  dy h 24 5 3 j λs=>
  ak 43 a 1 λi=>
  aT h 3 i s λx p=>
  ad p 43 a λo=>
  aT p 43 a o λz t=>
  bp t a 43 λn=>
  Q n t) (
  Fa 5 10 y λq=>
  br (some q) (
   dL (cm env.P (aa.get H2) 57 (some u) (some none) (oi (.v (.int .i64 2))) (some none)) λd=>
   gh (aV aK true (ay aK) (cD aK 0) H2 (Ref.mk 0 30 (aa.gen H2 0 30) 0) (some (.fn (.func 90) [] [])) [d]) λb m=>
   ak 43 a 3 λc=>
   aT m 37 c b λe h=>
   dL (cm env.P (aa.get h) 57 (some u) (oi (.v (.int .i64 2))) (some none) (some none)) λl=>
   gh (aV aK true (ay aK) (cD aK 0) h (Ref.mk 0 35 (aa.gen h 0 35) 0) (some (.fn (.func 112) [] [])) [l]) λf p=>
   bj f 0 λk=>
   bj f 1 λj=>
   bj f 2 λs=>
   ak 43 a 2 λi=>
   aT p 36 i k λx t=>
   ad t 43 a λo=>
   aT t 43 a o λz A=>
   bp A a 43 λn=>
   Q n A) (
   yA 5 10 y λd=>
   br (some d) (
    dL (cm env.P (aa.get H2) 57 (some u) (some none) (oi (.v (.int .i64 7))) (some none)) λb=>
    gh (aV aK true (ay aK) (cD aK 0) H2 (Ref.mk 0 45 (aa.gen H2 0 45) 0) (some (.fn (.func 113) [] [])) [b]) λc m=>
    bj c 0 λe=>
    bj c 1 λl=>
    ak 43 a 4 λf=>
    aT m 41 f e λk h=>
    ad h 43 a λj=>
    aT h 43 a j λs p=>
    bp p a 43 λi=>
    Q i p) (
    ad H2 43 a λb=>
    aT H2 43 a b λc m=>
    bp m a 43 λe=>
    Q e m)))
def B9(x0:AV)(H:aa)(Q:AV->aa->Prop)(h : ∀g,lJ g x0 H Q):cB aK Tryz.f91 0 [.code vE] [(0,x0)] H Q:=⟨λg=>lY (live:=Cy) (cut:=CN) (n:=500) (Eq.mp (by kernel_rfl) (h g))⟩
def yT:Code:=(Tryz.f61.body).getD .skip
def jW:=uI Tryz.f61 8
def yN:Nat->Option (List Nat):=λi=>cond (Nat.beq i 8) (some [29,5,27,2,3,0,28]) (none)
def yR:Nat->Bool:=λi=>false
def pw(g:Nat->AV)(x0:AV)(H:aa)(Q:AV->aa->Prop):Prop:=
 iy H 2 43 λa t=>
 iy t 3 108 λb H2=>
 dO H2 11 79 x0 λy=>
 vg 3 11 0 y λu=>
 br (some u) (
  ad H2 43 a λn=>
  ad H2 108 b λj=>
  aT H2 43 a n λk i=>
  aT i 108 b j λq c=>
  qU [(b,a)] [a,b] [] c /\
  (bp c a 43 λf=>
  bp c b 108 λe=>
  Q (.tup [f,e,(.v (.int .i64 8))]) c)) (
  fH H2 79 x0 0 λn=>
  ad H2 57 n λj=>
  YF H2 19 j λk i=>
  bj k 0 λq=>
  bj k 1 λf=>
  aT i 108 b q λe c=>
  j5 37 22 0 f λo=>
  br (some o) (
   ad c 43 a λd=>
   ee 108 λm=>
   aT c 43 a d λw s=>
   aT s 108 b m λx p=>
   bp p a 43 λh=>
   bp p b 108 λl=>
   Q (.tup [h,l,f]) p) (
   dO c 28 79 x0 λd=>
   cB aK Tryz.f61 0 jW [(29,(.v (.int .i64 0))),(5,(.v (.slice none 0 0))),(27,x0),(2,a),(3,b),(0,x0),(28,d)] c Q))
def EG(x0:AV)(H:aa)(Q:AV->aa->Prop)(h : ∀g,pw g x0 H Q):cB aK Tryz.f61 0 [.code yT] [(0,x0)] H Q:=⟨λg=>lY (live:=yN) (cut:=yR) (n:=500) (Eq.mp (by kernel_rfl) (h g))⟩
def dN(g:Nat->AV)(f D p a b x0 k:AV)(H:aa)(Q:AV->aa->Prop):Prop:=
 fQ 3 29 28 f k λN=>
 br (some N) (
  dF H 79 p f λJ=>
  ad H 57 J λw=>
  dO H 36 57 w λm=>
  dL (cO env.P false (aa.get H) (Ref.mk 0 37 (aa.gen H 0 37) 0) .min #[3,3] [m,(.v (.int .i64 9))]) λs=>
  yz H 57 w s λt=>
  dG H 39 57 57 D t λq l=>
  jh 3 29 1 f λo=>
  cB aK Tryz.f61 0 jW [(29,o),(5,q),(27,p),(2,a),(3,b),(0,x0),(28,k)] l Q) (
  dO H 42 57 D λJ=>
  sG 3 42 8 J λw=>
  br (some w) (
   ad H 43 a λm=>
   ee 108 λs=>
   aT H 43 a m λt l=>
   aT l 108 b s λq H2=>
   bp H2 a 43 λo=>
   bp H2 b 108 λz=>
   Q (.tup [o,z,(.v (.int .i64 8))]) H2) (
   gh (aV aK true (ay aK) (cD aK 0) H (Ref.mk 0 47 (aa.gen H 0 47) 0) (some (.fn (.func 91) [] [])) [D]) λm l=>
   aT l 43 a m λs H2=>
   ad H2 43 a λt=>
   ak 108 b 0 λq=>
   ad H2 3 q λo=>
   ak 108 b 1 λz=>
   ad H2 3 z λG=>
   YL H2 54 t o G λn C=>
   bj n 0 λA=>
   bj n 1 λy=>
   j5 37 57 0 y λc=>
   gQ c false (bF A) λL=>
   gQ c false (bF x0) λB=>
   gW c false C (aV aK true (ay aK) (cD aK 0) C (Ref.mk 0 62 (aa.gen C 0 62) 0) (some (.fn (.func 92) [] [])) [L,B,(.fn (.func 63) [] [])]) λI u=>
   gQ c false (vd I) λx=>
   cM c x λM=>
   br (some M) (
    ee 43 λi=>
    ee 108 λe=>
    aT u 43 a i λE F=>
    aT F 108 b e λK d=>
    bp d a 43 λh=>
    bp d b 108 λj=>
    Q (.tup [h,j,(.v (.int .i64 8))]) d) (
    ad u 43 a λi=>
    ad u 108 b λe=>
    aT u 43 a i λE F=>
    aT F 108 b e λK d=>
    qU [(b,a)] [a,b] [] d /\
    (bp d a 43 λh=>
    bp d b 108 λj=>
    Q (.tup [h,j,(.v (.int .i64 0))]) d))))
def fS(c d b e f x0 a:AV)(H:aa)(Q:AV->aa->Prop)(h : ∀g,dN g c d b e f x0 a H Q):cB aK Tryz.f61 0 jW [(29,c),(5,d),(27,b),(2,e),(3,f),(0,x0),(28,a)] H Q:=qQ λg=>lY (live:=yN) (cut:=yR) (n:=500) (Eq.mp (by kernel_rfl) (h g))
def zP:Code:=(Tryz.f29.body).getD .skip
def ov:=uI Tryz.f29 9
def zA:Nat->Option (List Nat):=λi=>cond (Nat.beq i 9) (some [53,14,2,1,4,8,12,52]) (none)
def zK:Nat->Bool:=λi=>false
def mA(g:Nat->AV)(x0 G j K:AV)(H:aa)(Q:AV->aa->Prop):Prop:=
 eA H 4 24 x0 λE I=>
 iy I 8 43 λe H2=>
 wu 3 18 2048 j λO=>
 br (some O) (
  ad H2 43 e λm=>
  aT H2 43 e m λD k=>
  bp k e 43 λu=>
  Q (.tup [u,(.v (.int .i64 0))]) k) (
  ad H2 24 E λm=>
  Fb 3 23 2048 G λD=>
  fJ 3 24 25 D j λu=>
  YI H2 27 m u λC k=>
  bj C 0 λM=>
  bj C 1 λP=>
  YF k 32 M λi N=>
  bj i 0 λn=>
  bj i 1 λp=>
  iy N 12 108 λb L=>
  aT L 108 b n λJ f=>
  j5 37 35 0 p λc=>
  gQ c false (az 108 b 1) λt=>
  gQ c false (au f 3 t) λx=>
  gQ c false (bF K) λl=>
  gQ c false (Ii 3 39 40 x l) λA=>
  cM c A λa=>
  gQ a false (bF j) λo=>
  gQ a false (az 108 b 3) λw=>
  gQ a false (au f 3 w) λy=>
  gQ a false (MR 3 44 46 o y) λq=>
  gQ a false (y8 3 47 2048 q) λB=>
  cM a B λz=>
  br (some z) (
   ad f 43 e λd=>
   aT f 43 e d λh F=>
   bp F e 43 λs=>
   Q (.tup [s,(.v (.int .i64 0))]) F) (
   ak 108 b 3 λd=>
   ad f 3 d λh=>
   cB aK Tryz.f29 0 ov [(53,(.v (.int .i64 0))),(14,(.v (.slice none 0 0))),(2,j),(1,G),(4,E),(8,e),(12,b),(52,h)] f Q))
def FX(x0 c a b:AV)(H:aa)(Q:AV->aa->Prop)(h : ∀g,mA g x0 c a b H Q):cB aK Tryz.f29 0 [.code zP] [(0,x0),(1,c),(2,a),(3,b)] H Q:=⟨λg=>lY (live:=zA) (cut:=zK) (n:=500) (Eq.mp (by kernel_rfl) (h g))⟩
def kJ(g:Nat->AV)(d h t x w b i j:AV)(H:aa)(Q:AV->aa->Prop):Prop:=
 fQ 3 53 52 d j λy=>
 br (some y) (
  ad H 24 w λk=>
  Fb 3 58 2048 x λs=>
  fJ 3 59 60 s t λu=>
  fJ 3 61 62 u d λn=>
  YI H 64 k n λq o=>
  bj q 0 λm=>
  bj q 1 λl=>
  nz o 69 79 1 0 m λe H2=>
  dG H2 70 79 79 h e λa c=>
  jh 3 53 1 d λf=>
  cB aK Tryz.f29 0 ov [(53,f),(14,a),(2,t),(1,x),(4,w),(8,b),(12,i),(52,j)] c Q) (
  gh (aV aK true (ay aK) (cD aK 0) H (Ref.mk 0 74 (aa.gen H 0 74) 0) (some (.fn (.func 61) [] [])) [h]) λk o=>
  bj k 0 λs=>
  bj k 1 λu=>
  bj k 2 λn=>
  aT o 43 b s λq H2=>
  j5 37 78 0 n λm=>
  br (some m) (
   ee 43 λl=>
   aT H2 43 b l λe c=>
   bp c b 43 λa=>
   Q (.tup [a,(.v (.int .i64 0))]) c) (
   ad H2 43 b λl=>
   ak 108 i 3 λe=>
   ad H2 3 e λa=>
   aT H2 43 b l λf c=>
   qU [(e,b)] [b] [] c /\
   (bp c b 43 λp=>
   Q (.tup [p,a]) c)))
def wW(c b e j f i d a:AV)(H:aa)(Q:AV->aa->Prop)(h : ∀g,kJ g c b e j f i d a H Q):cB aK Tryz.f29 0 ov [(53,c),(14,b),(2,e),(1,j),(4,f),(8,i),(12,d),(52,a)] H Q:=qQ λg=>lY (live:=zA) (cut:=zK) (n:=500) (Eq.mp (by kernel_rfl) (h g))
def sy:Code:=(Tryz.f9.body).getD .skip
def pt:=uI Tryz.f9 6
def AU:Nat->Option (List Nat):=λi=>cond (Nat.beq i 6) (some [9,8,2,1,4,3]) (none)
def AZ:Nat->Bool:=λi=>false
def sE(g:Nat->AV)(x0 p l o:AV)(H:aa)(Q:AV->aa->Prop):Prop:=
 eA H 4 24 x0 λh k=>
 ad k 24 h λu=>
 YG k 15 u λn H2=>
 j5 37 16 0 n λx=>
 br (some x) (
  Q (.tup [(.v (.slice none 0 0)),(.v (.int .i64 0)),n]) H2) (
  YQ H2 20 p λt i=>
  mE t λb=>
  gQ b false (bF l) λq=>
  gW b false i (YP i 24 q) λs m=>
  gQ b false (vd s) λw=>
  cM b w λa=>
  gQ a false (bF o) λd=>
  gW a false m (YP m 29 d) λf j=>
  gQ a false (vd f) λc=>
  cM a c λe=>
  br (some e) (
   Q (.tup [(.v (.slice none 0 0)),(.v (.int .i64 0)),(.v (.int .i64 2))]) j) (
   cB aK Tryz.f9 0 pt [(9,(.v (.int .i64 0))),(8,(.v (.slice none 0 0))),(2,l),(1,p),(4,h),(3,o)] j Q))
def vR(x0 c a b:AV)(H:aa)(Q:AV->aa->Prop)(h : ∀g,sE g x0 c a b H Q):cB aK Tryz.f9 0 [.code sy] [(0,x0),(1,c),(2,a),(3,b)] H Q:=⟨λg=>lY (live:=AU) (cut:=AZ) (n:=500) (Eq.mp (by kernel_rfl) (h g))⟩
def px(g:Nat->AV)(d b m q o p:AV)(H:aa)(Q:AV->aa->Prop):Prop:=
 dO H 33 50 b λx=>
 fQ 3 33 34 x p λB=>
 br (some B) (
  ad H 24 o λC=>
  dO H 42 50 b λu=>
  fJ 3 40 42 m u λs=>
  jh 3 43 1 s λy=>
  gh (aV aK true (ay aK) (cD aK 0) H (Ref.mk 0 45 (aa.gen H 0 45) 0) (some (.fn (.func 29) [] [])) [C,q,d,y]) λk t=>
  bj k 0 λA=>
  bj k 1 λl=>
  iy t 12 43 λa H2=>
  aT H2 43 a A λw c=>
  vg 3 48 0 l λh=>
  br (some h) (
   Q (.tup [b,d,(.v (.int .i64 0))]) c) (
   ad c 43 a λe=>
   gh (tF env.P c (Ref.mk 0 52 (aa.gen c 0 52) 0) 50 1 (some [(0,e)])) λf n=>
   gh (AF env.P n (Ref.mk 0 53 (aa.gen n 0 53) 0) (some 50) (some 50) b f) λj z=>
   fJ 3 54 55 d l λi=>
   cB aK Tryz.f9 0 pt [(9,i),(8,j),(2,m),(1,q),(4,o),(3,p)] z Q)) (
  Q (.tup [b,d,(.v (.int .i64 0))]) H)
def EH(a e b f c d:AV)(H:aa)(Q:AV->aa->Prop)(h : ∀g,px g a e b f c d H Q):cB aK Tryz.f9 0 pt [(9,a),(8,e),(2,b),(1,f),(4,c),(3,d)] H Q:=qQ λg=>lY (live:=AU) (cut:=AZ) (n:=500) (Eq.mp (by kernel_rfl) (h g))
def jO:Code:=(Tryz.f3.body).getD .skip
def fg:=uI Tryz.f3 10
def cQ:=uI Tryz.f3 14
def fe:=uI Tryz.f3 17
def fU:Nat->Option (List Nat):=λi=>cond (Nat.beq i 10) (some [27,14,20,6,13,26]) (cond (Nat.beq i 14) (some [28,20,6,13,26]) (cond (Nat.beq i 17) (some [29,28,20,6,13,26]) (none)))
def fV:Nat->Bool:=λi=>false
def jQ(g:Nat->AV)(x0 z x2 x x4 x5:AV)(H:aa)(Q:AV->aa->Prop):Prop:=
 eA H 6 24 x0 λw H1=>
 eA H1 11 43 x5 λP H2=>
 ad H2 24 w λv3=>
 gh (aV aK true (ay aK) (cD aK 0) H2 (Ref.mk 0 31 (aa.gen H2 0 31) 0) (some (.fn (.func 5) [] [])) [v3]) λq s=>
 gQ q false (az 43 P 2) λv5=>
 gQ q false (az 36 v5 6) λv6=>
 gQ q false (au s 34 v6) λv7=>
 gQ q false (DY s 36 34 v7) λv8=>
 gQ q false (y8 3 36 200 v8) λv9=>
 cM q v9 λO=>
 br (some O) (
  Q (.v (.bool true)) s) (
  ad s 24 w λv11=>
  gh (aV aK true (ay aK) (cD aK 0) s (Ref.mk 0 40 (aa.gen s 0 40) 0) (some (.fn (.func 6) [] [])) [v11]) λv12 H4=>
  iy H4 13 24 λe H5=>
  aT H5 24 e v12 λv14 y=>
  ad y 24 e λv15=>
  ad y 43 P λL=>
  gh (aV aK true (ay aK) (cD aK 0) y (Ref.mk 0 47 (aa.gen y 0 47) 0) (some (.fn (.func 7) [] [])) [v15,z,x2,x,L]) λo H7=>
  bj o 0 λZ=>
  bj o 1 λW=>
  bj o 2 λT=>
  iy H7 14 24 λi H8=>
  aT H8 24 i Z λv22 H9=>
  ad H9 24 w λv23=>
  ad H9 43 P λv24=>
  gh (aV aK true (ay aK) (cD aK 0) H9 (Ref.mk 0 57 (aa.gen H9 0 57) 0) (some (.fn (.func 8) [] [])) [v23,z,x2,x,v24]) λm A=>
  bj m 0 λR=>
  bj m 1 λK=>
  bj m 2 λv28=>
  iy A 17 24 λt H11=>
  aT H11 24 t R λv30 k=>
  ad k 24 e λv31=>
  gh (aV aK true (ay aK) (cD aK 0) k (Ref.mk 0 66 (aa.gen k 0 66) 0) (some (.fn (.func 9) [] [])) [v31,z,x,x4]) λn p=>
  bj n 0 λu=>
  bj n 1 λv34=>
  bj n 2 λG=>
  ad p 24 w λC=>
  gh (aV aK true (ay aK) (cD aK 0) p (Ref.mk 0 75 (aa.gen p 0 75) 0) (some (.fn (.func 10) [] [])) [C,z,x,x4]) λj b=>
  bj j 0 λM=>
  bj j 1 λv39=>
  bj j 2 λD=>
  ad b 24 i λY=>
  ad b 24 t λv42=>
  gh (aV aK true (ay aK) (cD aK 0) b (Ref.mk 0 81 (aa.gen b 0 81) 0) (some (.fn (.func 11) [] [])) [Y,v42]) λc l=>
  gQ c true (bF W) λV=>
  gQ c true (bF K) λv45=>
  gQ c true (kK 3 83 84 V v45) λF=>
  ct c F λf=>
  gQ f true (bF T) λE=>
  gQ f true (bF v28) λv49=>
  gQ f true (kK 3 88 89 E v49) λI=>
  ct f I λa=>
  gQ a true (bF u) λv52=>
  gQ a true (bF M) λv53=>
  gW a true l (aV aK true (ay aK) (cD aK 0) l (Ref.mk 0 95 (aa.gen l 0 95) 0) (some (.fn (.func 12) [] [])) [v52,v53]) λv54 J=>
  ct a v54 λh=>
  gQ h true (bF v34) λU=>
  gQ h true (bF v39) λN=>
  gQ h true (kK 3 98 99 U N) λX=>
  ct h X λd=>
  gQ d true (bF G) λS=>
  gQ d true (bF D) λv61=>
  gQ d true (kK 3 103 104 S v61) λB=>
  ct d B λv63=>
  cB aK Tryz.f3 0 fg [(27,(.v (.int .i64 0))),(14,i),(20,u),(6,w),(13,e),(26,v63)] J Q)
def mH(x0 e b d c a:AV)(H:aa)(Q:AV->aa->Prop)(h : ∀g,jQ g x0 e b d c a H Q):cB aK Tryz.f3 0 [.code jO] [(0,x0),(1,e),(2,b),(3,d),(4,c),(5,a)] H Q:=⟨λg=>lY (live:=fU) (cut:=fV) (n:=500) (Eq.mp (by kernel_rfl) (h g))⟩
def iP(g:Nat->AV)(b a c q e d:AV)(H:aa)(Q:AV->aa->Prop):Prop:=
 ak 24 a 0 λy=>
 ad H 22 y λB=>
 dO H 110 22 B λC=>
 fQ 3 107 110 b C λx=>
 br (some x) (
  ak 24 a 0 λt=>
  ad H 22 t λz=>
  dF H 22 z b λs=>
  ak 59 s 1 λA=>
  ad H 57 A λu=>
  ak 24 a 0 λm=>
  ad H 22 m λi=>
  dF H 22 i b λk=>
  ak 59 k 1 λh=>
  ad H 57 h λj=>
  fH H 57 j 0 λo=>
  ad H 5 o λl=>
  dL (bN env.P .add 5 (Operand.tmp 127) (.const (.int .u8 1)) (some l) (some (a8 1))) λn=>
  fH H 57 u 0 λf=>
  aT H 5 f n λD w=>
  jh 3 112 1 b λp=>
  cB aK Tryz.f3 0 fg [(27,p),(14,a),(20,c),(6,q),(13,e),(26,d)] w Q) (
  cB aK Tryz.f3 0 cQ [(28,(.v (.int .i64 0))),(20,c),(6,q),(13,e),(26,d)] H Q)
def lz(d c a f e b:AV)(H:aa)(Q:AV->aa->Prop)(h : ∀g,iP g d c a f e b H Q):cB aK Tryz.f3 0 fg [(27,d),(14,c),(20,a),(6,f),(13,e),(26,b)] H Q:=qQ λg=>lY (live:=fU) (cut:=fV) (n:=500) (Eq.mp (by kernel_rfl) (h g))
def iO(g:Nat->AV)(b c e d a:AV)(H:aa)(Q:AV->aa->Prop):Prop:=
 dO H 132 50 c λf=>
 fQ 3 130 132 b f λj=>
 br (some j) (
  cB aK Tryz.f3 0 fe [(29,(.v (.int .i64 0))),(28,b),(20,c),(6,e),(13,d),(26,a)] H Q) (
  gQ a true (au H 24 d) λm=>
  gQ a true (au H 24 e) λl=>
  gW a true H (aV aK true (ay aK) (cD aK 0) H (Ref.mk 0 159 (aa.gen H 0 159) 0) (some (.fn (.func 11) [] [])) [m,l]) λi k=>
  ct a i λh=>
  Q h k)
def ly(a b e d c:AV)(H:aa)(Q:AV->aa->Prop)(h : ∀g,iO g a b e d c H Q):cB aK Tryz.f3 0 cQ [(28,a),(20,b),(6,e),(13,d),(26,c)] H Q:=qQ λg=>lY (live:=fU) (cut:=fV) (n:=500) (Eq.mp (by kernel_rfl) (h g))
def iN(g:Nat->AV)(c a b k e d:AV)(H:aa)(Q:AV->aa->Prop):Prop:=
 dF H 50 b a λl=>
 ak 43 l 2 λp=>
 ak 36 p 6 λw=>
 ad H 34 w λt=>
 dO H 143 34 t λo=>
 fQ 3 136 143 c o λm=>
 br (some m) (
  dF H 50 b a λf=>
  ak 43 f 2 λn=>
  ak 36 n 6 λq=>
  ad H 34 q λh=>
  dF H 34 h c λj=>
  gh (iV env.P H 21 (some j) (some (.v (.int .i32 7)))) λu s=>
  jh 3 145 1 c λi=>
  cB aK Tryz.f3 0 fe [(29,i),(28,a),(20,b),(6,k),(13,e),(26,d)] s Q) (
  jh 3 134 1 a λf=>
  cB aK Tryz.f3 0 cQ [(28,f),(20,b),(6,k),(13,e),(26,d)] H Q)
def lu(d a b f e c:AV)(H:aa)(Q:AV->aa->Prop)(h : ∀g,iN g d a b f e c H Q):cB aK Tryz.f3 0 fe [(29,d),(28,a),(20,b),(6,f),(13,e),(26,c)] H Q:=qQ λg=>lY (live:=fU) (cut:=fV) (n:=500) (Eq.mp (by kernel_rfl) (h g))
end
section
attribute [local simp] aC aw ah aq ao kM o9 bk jE aE ar ax bo bn aG aD ae aN cN
def ZT{x:AV}{l:List UInt8}(k:Sl 1 (aA l) x)(v:l.length<1000000000):ay aK 46 [x]=some (.fsl 1 (aA l) none):=by
 refine nF (fn:=Tryz.f46) (c:=A8) rfl (by kernel_rfl) (by kernel_rfl) (by kernel_rfl) (by kernel_rfl) ?_;refine HO _ _ _ λg=>?_;have w:=k.r;have d:=zq (P:=env.P) (t:=57) (z:=1) (by':=1) (zz:=a8 0) (r:=⟨0,6,0,0⟩) (by kernel_rfl) (by kernel_rfl) (n:=l.length) (by simp only[aG];omega) (by omega);have b:(aA l).length=l.length:=by simp
 have p : ∀(H:aa)(L:List AV),L.length=l.length->H.get ⟨0,6,0,0⟩=some ⟨1,L,true,false⟩->zi env.P H (some 57) (.bA ⟨0,6,0,0⟩ 0 l.length none) x=some (aI l.length,H.put ⟨0,6,0,0⟩ (some ⟨1,aA l,true,false⟩)):=by
  intro H L o j;have s:(aA l).take l.length=aA l:=cN (by omega);have i:L.drop l.length=[]:=wF (by omega);have q:Nat.min (aA l).length l.length=l.length:=by rw[b];exact iQV _
  rcases k with ⟨rfl,m⟩ | ⟨c,rfl,m⟩
  ·have a:l=[]:=(by apply sK.1;rw[<-b,m];rfl);subst a;have f:L=[]:=sK.1 o;subst f;have h:jJ aO=true:=rfl;simp only[zi,h,if_true,dX,j];simp
  have h:jJ (.bq 1 (aA l) c)=false:=rfl;have u:cy H.get (.bq 1 (aA l) c)=some (1,aA l):=rfl;simp only[zi,h,u,dX,j];simp[q,s,i,o,b]
 have e:=λH=>p H (List.replicate l.length (a8 0)) (by simp);clear p;simp[an, *,Be,v,d,e]
def Ms(dep:Nat)(H:aa):cD aK dep (.fn 45) [aO] H=some (aO,H):=by
 obtain⟨a,H2,b,rfl,rfl⟩ : ∃a H2,cD aK dep (.fn 45) [aO] H=some (a,H2)/\a=aO/\H2=H:=by
  refine qK (fn:=Tryz.f45) (c:=bU) (by kernel_rfl) (by kernel_rfl) (by kernel_rfl) (by kernel_rfl) (by kernel_rfl) ?_ ?_;·refine dv _ _ _ _ λg=>?_;simp[an, *,bW,aeP]
  rfl
 exact b
def Mt(dep:Nat)(H:aa)(c:Option Nat):cD aK dep (.fn 45) [.bq 2 [] c] H=some (.bA ⟨dep+1,5,H.gen (dep+1) 5,0⟩ 0 0 (some 0),(⟨dep+1,5,H.gen (dep+1) 5,0⟩,some ⟨2,[],true,false⟩) :: H):=by
 obtain⟨a,H2,b,rfl,rfl⟩ : ∃a H2,cD aK dep (.fn 45) [.bq 2 [] c] H=some (a,H2)/\a = .bA ⟨dep+1,5,H.gen (dep+1) 5,0⟩ 0 0 (some 0)/\H2=(⟨dep+1,5,H.gen (dep+1) 5,0⟩,some ⟨2,[],true,false⟩) :: H:=by
  refine qK (fn:=Tryz.f45) (c:=bU) (by kernel_rfl) (by kernel_rfl) (by kernel_rfl) (by kernel_rfl) (by kernel_rfl) ?_ ?_;·refine dv _ _ _ _ λg=>?_;simp[an, *,bW]
  rfl
 exact b
def Yp{es:List AV}(a:es≠[])(b:es.length<1000000)(dep:Nat)(H:aa)(c:Option Nat):cD aK dep (.fn 45) [.bq 2 es c] H=some (.dsl (oU 7 H) 0 es.length none,Vk 2 5 7 H es false):=by
 obtain⟨e,es,rfl⟩:=iQz a;refine qJ.2 ⟨0,λm _=>?_⟩;have:aK.thrSpec 45 [.bq 2 (e :: es) c] H=some (.dsl (oU 7 H) 0 (es.length+1) none,Vk 2 5 7 H (e :: es) false):=by
  show(if 45=49 then sx Tryz.prog 22 40 25 [.bq 2 (e :: es) c] H else if 45=45 then sg 2 32 5 7 [.bq 2 (e :: es) c] H else none)=_;rw[if_neg (by decide),if_pos rfl];simp only[iA]at b;exact if_pos ⟨rfl,by decide,by simp only[aG];omega⟩
 unfold eG;simp only[this,iA]
def Am{f:FuncId}(a:(aK.mode f == 2)=true)(dep:Nat)(H:aa)(r:Ref)(first args captured:List AV) :
 aV aK true (ay aK) (cD aK dep) H r (some (.fn (.func f) first captured)) args=cD aK dep (.fn f) (first++args++captured) H:=by
 have h:aK.mode f=2:=by simpa using a
 simp[aV,kT,nc,lD,Ei,h]
def BH(dep:Nat)(H:aa)(r:Ref)(args:List AV):aV aK true (ay aK) (cD aK dep) H r (some (.fn (.func 45) [] [])) args=cD aK dep (.fn 45) args H:=by
 rw[Am (by rfl)];simp
def Em(dep:Nat)(H:aa)(r:Ref)(args:List AV):aV aK true (ay aK) (cD aK dep) H r (some (.fn (.func 49) [] [])) args=cD aK dep (.fn 49) args H:=by
 rw[Am (by rfl)];simp
def Rc(s:eE):AV := .agg [aI s.pos,.fsl 1 (aA s.bs) none]
def cG(l:List eE):List AV:=l.map Rc
@[simp] def xg(l:List eE):(cG l).length=l.length:=by simp[cG]
def Dw(l:List eE) : ∀e∈cG l,Oi e=true:=by
 intro e a;obtain⟨s,_,rfl⟩:=j6.1 a;rfl
def Ir(l:List eE):(cG l).map Cd=a9 (qx l):=by
 unfold cG a9 qx;rw[Bk,Bk];rfl
def KZ{s:eE}(h:iQ s) : ∃ys,s.enc = .agg ys/\ys.all zr=true:=by
 refine⟨_,rfl,?_⟩;rcases h with ⟨h,_⟩ | ⟨c,h,_⟩<;>simp[h,zr]
def P7{g:cL}{l:List eE}(i : ∀s∈l,iQ s):F2 (DE g) (a9 l) (a9 l)/\(a9 l).flatMap gf=[]:=Uj λe b=>by
 obtain⟨s,a,rfl⟩:=j6.1 b;exact KZ (i s a)
def vC(l:List eE)(k:Nat):List AV:=cG (l.take k)++a9 (l.drop k)
def RN(l:List eE)(k:Nat)(h:k<=l.length):(vC l k).length=l.length:=by simp[vC];omega
def U3(l:List eE)(k:Nat)(h:k<l.length):(vC l k)[k]?=some (.agg [aI l[k].pos,l[k].av]):=by
 have a:(cG (l.take k)).length=k:=by simp;omega
 unfold vC;rw[ic (by omega),a,rz];simp[a9,h,eE.enc]
def RM(l:List eE)(k:Nat)(h:k<l.length):(vC l k).set k (Rc l[k])=vC l (k+1):=by
 unfold vC;have b:(cG (l.take k)).length=k:=by simp;omega
 have a:l.drop k=l[k] :: l.drop (k+1):=Nc h;rw[Dd _ _ (by omega),b,rz,a];show cG (l.take k)++(eE.enc l[k] :: a9 (l.drop (k+1))).set 0 (Rc l[k])=_;rw[Db,List.take_succ_eq_append_getElem h];unfold cG;rw[xF,qq];rfl
def tO{H:aa}(a:Fr H){d t:Nat}:H.get ⟨d,t,H.gen d t,0⟩=none:=a d t _ 0 (bg _)
section
variable{l:List eE}{x:AV}{st lf:Int}{dd:Bool}(o:Sl 2 (a9 l) x)(i : ∀s∈l,iQ s)(n : ∀s∈l,s.bs.length<1000000000)(u:l.length<1000000)
include o i n u
theorem Mp{r1 r2 r3:Ref}(n3:r1≠r2){Q:AV->aa->Prop} : ∀(m k:Nat)(H:aa)(rs:List Ref),k+m=l.length->Fr H->H.get r1=some ⟨4,[df x st lf dd],false,false⟩->H.get r2=some ⟨4,[df aO 0 0 false],false,false⟩ ->
 jR 2 H r3 (vC l k) rs->r1 ∉ rs->r2 ∉ rs ->
 (∀H' rs,jR 2 H' r3 (cG l) rs->Q (df (.dsl r3 0 l.length none) st lf dd) H') ->
 cB aK Tryz.f23 0 mi [(10,aI k),(3,.dsl r3 0 l.length none),(2,.ptr r2 0 0),(1,.ptr r1 0 0),(9,aI l.length)] H Q:=by
 intro m;induction m with
 | zero=>
  intro k H rs C T G I f L J K;obtain rfl:k=l.length:=by omega
  have e:vC l l.length=cG l:=(by simp[vC,a9]);rw[e]at f;have n1:r1≠r2:=n3;have n4:r2≠r1:=λe=>n3 e.symm;refine om _ _ _ _ _ _ _ λg=>?_;have C : ∀(b R:Option aY),jR 2 ((H.put r1 b).put r2 R) r3 (cG l) rs:=λb R=>f.bk λq y k C=>by
   rw[aa.ab,if_neg (λe:q=r2=>J (by rw[<-e];exact y)),aa.ab,if_neg (λe:q=r1=>L (by rw[<-e];exact y))];exact C
  have S:=λb R=>K _ rs (C b R);clear K C f;simp only[df]at G I S;simp[an, *,mB,aa.ab]
 | succ m ih=>
  intro k H rs C T G I f L J K;have F:k<l.length:=by omega
  have hp:=i l[k] (eO _);have ho:=ZT hp (n l[k] (eO _));have E:=hp.r;have e3:=iQa ((k:Int)+1) (by omega);have w:=U3 l k F;obtain⟨q,y⟩ : ∃q:Ref,q=⟨0,20,H.gen 0 20,0⟩:=⟨_,rfl⟩;have c:H.get q=none:=by rw[y];exact tO T
  obtain⟨es,t,P,g2,g3,g4⟩:=f.set w (j:=1) (by simp) c 1 (by decide) (aA l[k].bs) none;obtain⟨es',xs,D,g5,g6,O,_⟩:=f.at w;rw[P]at D;cases D;have hrd:bP es k 1 1 false=some l[k].av:=by
   unfold bP;rw[g6];match xs,O with
   | [a,b],O=>
    have v:=O.2.1;rcases v with ⟨rfl,_⟩ | ⟨_,_,_,_,_,v,_⟩
    ·rfl
    rw[v]at E;exact absurd (E.2.1 (λ_=>none) 0) (by simp[Ab.view])
  have M : .agg (patch [aI l[k].pos,l[k].av] 1 [.fsl 1 (aA l[k].bs) none])=Rc l[k]:=rfl;rw[M,RM l k F]at g4;have B:r3∈rs:=(by obtain⟨_,_,_,X,_⟩:=f;rw[X];simp);have u1:r3≠r1:=λe=>L (e ▸ B);have u2:r3≠r2:=λe=>J (e ▸ B);have Z:r1≠r3:=λe=>u1 e.symm;have W:r2≠r3:=λe=>u2 e.symm;have v1:q≠r1:=λe=>by rw[e,G]at c;cases c
  have v2:q≠r2:=λe=>by rw[e,I]at c;cases c
  have v3:q≠r3:=λe=>by rw[e,P]at c;cases c
  have key : ∀Y:aa->Prop,(∀H',Fr H'->H'.get r1=some ⟨4,[df x st lf dd],false,false⟩->H'.get r2=some ⟨4,[df aO 0 0 false],false,false⟩->(∃d,jR 2 H' r3 (vC l (k+1)) d/\r1 ∉ d/\r2 ∉ d)->Y H') ->
   Y ((q,some ⟨1,aA l[k].bs,true,false⟩) :: H.put r3 (some ⟨2,t,false,false⟩)):=by
   intro Y h;obtain⟨H2,A⟩ : ∃H2:aa,H2=(q,some ⟨1,aA l[k].bs,true,false⟩) :: H.put r3 (some ⟨2,t,false,false⟩):=⟨_,rfl⟩;have N : ∀p,H2.get p=if q=p then some ⟨1,aA l[k].bs,true,false⟩ else if p=r3 then some ⟨2,t,false,false⟩ else H.get p:=λp=>by rw[A,aa.bS,aa.ab]
   obtain⟨d,a1,a2⟩:=g4 H2 (by rw[N,if_neg v3,if_pos rfl]) (by rw[N,if_pos rfl]) (λp b hp v=>by
    rw[N,if_neg (λe=>by rw[<-e,c]at v;cases v),if_neg hp];exact v)
   rw[<-A];refine h H2 ?_ (by rw[N,if_neg v1,if_neg Z];exact G) (by rw[N,if_neg v2,if_neg W];exact I) ⟨d,a1,λV=>?_,λV=>?_⟩;·rw[A,y];exact oB (oZ T (by rw[P];rfl) _) (aa.dK _ _ _ (by rw[P];rfl) _ _).symm _
   ·rcases a2 _ V with e | e
    ·exact L e
    exact v1 e.symm
   rcases a2 _ V with e | e
   ·exact J e
   exact v2 e.symm
  have z:=λH' rs=>ih (k+1) H' rs (by omega);rw[show((k+1:Nat):Int)=(k:Int)+1 from by omega]at z;have XQ:=key (λH'=>cB aK Tryz.f23 0 mi [(10,aI ((k:Int)+1)),(3,.dsl r3 0 l.length none),(2,.ptr r2 0 0),(1,.ptr r1 0 0),(9,aI l.length)] H' Q) (λH' b1 b2 b3 b4=>by
   obtain⟨d,b5,b6,b7⟩:=b4;exact z H' d b1 b2 b3 b5 b6 b7 K)
  clear ih z key g4 g6 O i n w f M L J B G I K;have hlen:es.length=l.length:=by rw[g2,RN l k (by omega)]
  refine om _ _ _ _ _ _ _ λg=>?_;have U:r3≠q:=λe=>v3 e.symm;simp only[y,fW]at XQ v3 U c g3;clear y;simp[an, *,mB,gE,aa.ab,aa.bS];done
end
def Mi{f:FuncId}(c:kM.contains f=true){H:aa}{s:AV}{es':List AV}{rs:List Ref}(h:nL 2 H s es' rs)(st lf:Int)(dd:Bool):dA aK f (df s st lf dd) H (df (yh 2 s es') st lf dd):=by
 obtain⟨d,e,a,g⟩:=h.out 4;have b:=h.nodup;rw[ke c];unfold df;simp[d,a,b]
def Sq(x:AV)(l:List eE):AV:=match x with
 | .bq z [] _ => .fsl z [] (some 0)
 | .bq z _ _ => .nsl z (cG l) none
 | x=>x
def Po{l:List eE}{x:AV}(o:Sl 2 (a9 l) x):BQ 2 (cG l) (Sq x l):=by
 rcases o with ⟨rfl,he⟩ | ⟨c,rfl,_⟩
 ·have:l=[]:=by simpa [a9] using he
  subst this;exact .inl ⟨rfl,rfl⟩
 cases l with| nil=>exact .inr (.inl ⟨rfl,rfl⟩)| cons p l=>exact .inr (.inr ⟨rfl,by simp[cG]⟩)
section
variable{l:List eE}{x:AV}{st lf:Int}{dd:Bool}(o:Sl 2 (a9 l) x)(i : ∀s∈l,iQ s)(n : ∀s∈l,s.bs.length<1000000000)(u:l.length<1000000)
include o i n u
theorem abT:ay aK 23 [df x st lf dd]=some (df (Sq x l) st lf dd):=by
 refine nF (fn:=Tryz.f23) (c:=zQ) rfl (by kernel_rfl) (by kernel_rfl) (by kernel_rfl) (by kernel_rfl) ?_;refine FY _ _ _ λg=>?_;rcases o.aeO with ⟨rfl,he⟩ | ⟨c,rfl⟩
 ·have p:l=[]:=by simpa [a9] using he
  subst p;have q:=Ms 0;simp only[df];simp[an, *,rm,o.r,Sq,BH];refine om _ _ _ _ _ _ _ λg=>?_;simp[an, *,mB]
 by_cases k:l=[];·subst k;have q:=λH=>Mt 0 H c;have j:a9 []=[]:=rfl;rw[j]at o ⊢;simp only[df];simp[an, *,rm,o.r,Sq,BH];refine om _ _ _ _ _ _ _ λg=>?_;simp[an, *,mB,bJ]
 have m:a9 l≠[]:=(by simp[a9,k]);have e:=CI l;have q:=λH=>Yp m (by simp;omega) 0 H c;have b:Sq (.bq 2 (a9 l) c) l = .nsl 2 (cG l) none:=by
  cases l with| nil=>exact(k rfl).elim| cons _ _=>rfl
 have j:vC l 0=a9 l:=(by simp[vC,cG]);obtain⟨f1,f2⟩:=P7 (g:=λ_=>none) i;have t:=λ(Q:AV->aa->Prop) r3 H rs=>Mp (st:=st) (lf:=lf) (dd:=dd) (x := .bq 2 (a9 l) c) o i n u (r1:=⟨0,1,0,0⟩) (r2:=⟨0,2,0,0⟩) (r3:=r3) (by simp) (Q:=Q) l.length 0 H rs (by omega);have d : ∀(H:aa) r3,H.get r3=some ⟨2,a9 l,false,false⟩->jR 2 H r3 (vC l 0) [r3]:=λH r3 h=>⟨a9 l,h,by rw[j];exact(P7 i).1,by rw[f2],by simp⟩;have a : ∀(H':aa) r3 rs,jR 2 H' r3 (cG l) rs->dA aK 23 (df (.dsl r3 0 l.length none) st lf dd) H' (df (.nsl 2 (cG l) none) st lf dd):=λH' r3 rs h=>by
  have:=Mi (f:=23) (by rfl) (h.row (by simp[cG,k])) st lf dd;rw[xg]at this;exact this
 rw[b];clear i j f1 f2 b;simp only[df]at t a ⊢;generalize a9 l=es at *;simp only[e]at q;simp[an, *,rm,o.r,BH];refine t _ _ _ [_] ?_ ?_ ?_ (d _ _ ?_) ?_ ?_ λH' rs h=>a H' _ rs h;·unfold Vk oU;exact(by simp(maxDischargeDepth:=12) [HA, *])
 all_goals simp[E5,oU]
 done
end
def abf{y:AV}(st lf:Int)(dd:Bool) : ∀r s bs,aj r 7 y []=(s,bs)->aj r depth (df y st lf dd) []=(df s st lf dd,bs):=by
 intro r s bs h;unfold df;show(λp:List AV × List aY=>(AV.agg p.1,p.2)) ([y,aI st,aI lf,aB dd].foldl (λ(p:List AV × List aY) c=>let (y,bs):=aj r 7 c p.2;(p.1++[y],bs)) ([],[]))=_;simp only[rB,h];rfl
def abe{y:AV}(st lf:Int)(dd:Bool)(e:Int) : ∀r s bs,aj r 6 y []=(s,bs)->aj r depth (.tup [df y st lf dd,aI e]) []=(.tup [df s st lf dd,aI e],bs):=by
 intro r s bs h;have a:aj r 7 (df y st lf dd) []=(df s st lf dd,bs):=by
  unfold df;show(λp:List AV × List aY=>(AV.agg p.1,p.2)) ([y,aI st,aI lf,aB dd].foldl (λ(p:List AV × List aY) c=>let (y,bs):=aj r 6 c p.2;(p.1++[y],bs)) ([],[]))=_;simp only[rB,h];rfl
 show(λp:List AV × List aY=>(AV.tup p.1,p.2)) ([df y st lf dd,aI e].foldl (λ(p:List AV × List aY) c=>let (y,bs):=aj r 7 c p.2;(p.1++[y],bs)) ([],[]))=_;simp only[rB,a];rfl
def Dq{l:List eE}{x:AV}{st lf:Int}{dd:Bool}(c:Sl 2 (a9 l) x)(b : ∀s∈l,iQ s)(a : ∀s∈l,s.bs.length<1000000000)(e:l.length<1000000){H:aa}{r:Ref}(g : ∃d t,r=⟨d,t,H.gen d t,0⟩){K:AV->aa->Prop}{refs:List Ref}(f:Fr H)
 (h : ∀H' s rs,Fr H'->nL 2 H' s (cG l) rs->Hu H H' refs->(∀q∈rs,H.get q=none)->yh 2 s (cG l)=Sq x l->K (df s st lf dd) H') :
 gh (rJ true H r refs (ay aK 23 [df x st lf dd])) K:=
 DR g (z:=2) (by decide) (n:=4) (mk:=λs=>df s st lf dd) (abT c b a e) (abf st lf dd) (Po c) (Dw l) f h
def pA{z:Nat}{H:aa}{s:AV}{es':List AV}{rs:List Ref}(h:nL z H s es' rs):s.cells=[s]/\s.one=true:=by
 rcases h with ⟨rfl,_,_⟩ | ⟨r,rfl,_,_,_⟩ | ⟨r,es,rfl,_⟩<;>exact⟨rfl,rfl⟩
def CJ{f:FuncId}(c:kM.contains f=true){H:aa}{s:AV}{es':List AV}{rs:List Ref}(h:nL 2 H s es' rs)(st lf:Int)(dd:Bool)(e:Int):dA aK f (.tup [df s st lf dd,aI e]) H (.tup [df (yh 2 s es') st lf dd,aI e]):=by
 obtain⟨d,g,a,i⟩:=h.out 3;have b:=h.nodup;rw[ke c];unfold df;simp[d,a,b]
def LO{es:List AV}{n:Nat}(v:AV)(b:n<=es.length):(eT es n v)[n]?=some v:=by
 have a:(es.take n).length=n:=by rw[j7];omega
 unfold eT;rw[ic (by omega),a,rz];rfl
def RH{es:List AV}{n:Nat}(v w:AV)(b:n<=es.length):(eT es n v).set n w=eT es n w:=by
 have a:(es.take n).length=n:=by rw[j7];omega
 unfold eT;rw[Dd _ _ (by omega),a,rz,Db]
def ym{dep:Nat}{f:FuncId}{args:List AV}{H:aa}{z:AV × aa}(h:aK.thrSpec f args H=some z):cD aK dep (.fn f) args H=some z:=
 qJ.2 ⟨0,λm _=>by unfold eG;simp only[h]⟩
def Vj{H:aa}{s:AV}{es':List AV}{rs:List Ref}{N:Ref}{q:Int}{n:Nat}{fz:Bool}{R:Option Nat}(L:nL 2 H s es' rs)(S:H.get N=some ⟨2,[.agg [aI q,aO]],true,fz⟩)(W:n<=es'.length)(hl:es'.length<1000000)(v:Fr H)(dep:Nat) :
 ∃r' H' I,cD aK dep (.fn 49) [s,aI n,.bA N 0 1 R] H=some (.dsl r' 0 (es'.length+1) none,H')/\Fr H'/\jR 2 H' r' (eT es' n (.agg [aI q,aO])) I /\
  (∀p∈I,p∈rs\/H.get p=none) /\∀p b,p ∉ rs->H.get p=some b->H'.get p=some b:=by
 have T:(cu Tryz.prog 22).bind (aH Tryz.prog)=some 2:=by kernel_rfl
 have X:(cu Tryz.prog 22).bind (gX Tryz.prog)=some 32:=by kernel_rfl
 have i:([aI q,aO]:List AV).all zr=true:=rfl;have k : ∀args H,aK.thrSpec 49 args H=sx Tryz.prog 22 40 25 args H:=λargs H=>rfl;have l : ∀s:AV,(∀r n,s ≠ .dsl r 0 n none)->xw 2 H.get s=true->cD aK dep (.fn 49) [s,aI 0,.bA N 0 1 R] H=some (.dsl (oU 25 H) 0 1 none,(oU 25 H,some ⟨2,[.agg [aI q,aO]],false,false⟩) :: H):=by
  intro s L he;refine ym ?_;rw[k];unfold sx;split
  ·rename_i e;injection e with e _
   exact absurd e (L _ _)
  ·rename_i e;injection e with e1 e
   injection e with e2 e
   injection e with e3 e
   cases e1;cases e3;simp only[S,T,X];rw[if_pos (by refine⟨he,?_,?_,?_,?_,?_⟩<;>first | trivial | rfl | decide | simp[aG])]
  rename_i h1 h2;exact absurd rfl (h2 _ _ _)
 have m : ∀n:Nat,n=0->jR 2 ((oU 25 H,some ⟨2,[.agg [aI q,aO]],false,false⟩) :: H) (oU 25 H) (eT [] n (.agg [aI q,aO])) [oU 25 H]:=by
  rintro n rfl;refine⟨[.agg [aI q,aO]],by rw[aa.bS,if_pos rfl],⟨GC i,trivial⟩,by simp[DD i],by simp⟩
 have o:H.get (oU 25 H)=none:=tO v;have g : ∀p b,H.get p=some b->aa.get ((oU 25 H,some ⟨2,[.agg [aI q,aO]],false,false⟩) :: H) p=some b:=λp b a=>by
  rw[aa.bS,if_neg (λe=>by rw[<-e,o]at a;cases a)];exact a
 rcases L with ⟨rfl,rfl,rfl⟩ | ⟨r,rfl,rfl,rfl,h4⟩ | ⟨r,es,rfl,hne,K,P,rfl,D⟩
 ·obtain rfl:n=0:=by simpa using W
  exact⟨_,_,_,l _ (λr n e=>by cases e) rfl,oB v rfl _,m 0 rfl,λp hp => .inr (by simp at hp;rw[hp];exact o),λp b _ a=>g p b a⟩
 ·obtain rfl:n=0:=by simpa using W
  exact⟨_,_,_,l _ (λr n e=>by cases e) (by simp[xw,h4]),oB v rfl _,m 0 rfl,λp hp => .inr (by simp at hp;rw[hp];exact o),λp b _ a=>g p b a⟩
 have J:=P.len;have M:H.get (qM 40 H r)=none:=tO v;have u:H.get ⟨r.d,r.t,H.gen r.d r.t,0⟩=none:=tO v;obtain⟨r',c⟩ : ∃r':Ref,r'=⟨r.d,r.t,H.gen r.d r.t,0⟩:=⟨_,rfl⟩;rw[<-c]at u;have Y:r'≠r:=λe=>by rw[e,K]at u;cases u
 refine⟨r',yp 40 H r ⟨2,eT es n (.agg [aI q,aO]),false,false⟩,r' :: es.flatMap gf,?_,?_,?_,?_,?_⟩;·refine ym ?_;rw[k];simp only[sx,K,S,T,X];rw[if_pos (by refine⟨?_,?_,?_,?_,?_,?_,?_,?_,?_,?_,?_⟩<;>first | trivial | rfl | decide | omega | (simp only[aG];omega))];rw[c,J];rfl
 ·unfold yp qM;have V : ∀d t,(H.put r none).gen d t=H.gen d t:=λd t=>aa.dK H r none (by rw[K];rfl) d t;refine oB (oB (oZ v (by rw[K];rfl) _) (V _ _).symm _) ?_ _;rw[aa.n8,if_neg (λh=>by have:=h.1;omega),V]
 ·have j : ∀p b,p∈es.flatMap gf->H.get p=some b->(yp 40 H r ⟨2,eT es n (.agg [aI q,aO]),false,false⟩).get p=some b:=(by intro p b hp a;rw[qO 40 p M,<-c,if_neg (λe=>by rw[<-e,u]at a;cases a),if_neg (λe=>(wC.1 D).1 (by rw[<-e];exact hp))];exact a);have w:es'=es'.take n++es'.drop n:=(AB n es').symm;obtain⟨A,B,f,U,Z⟩:=F2.split (A':=es'.take n) (B':=es'.drop n) (by rw[<-w];exact P);have E:A.length=n:=by rw[U.len,j7];omega
  have z:es.take n=A:=by rw[f,<-E,wA];rfl
  have C:es.drop n=B:=by rw[f,<-E,Ax];rfl
  have Q:(eT es n (.agg [aI q,aO])).flatMap gf=es.flatMap gf:=(by unfold eT;rw[z,C,BW,lU,DD i,o4,<-BW,<-f]);refine⟨eT es n (.agg [aI q,aO]),by rw[qO 40 _ M,if_pos c.symm],?_,by rw[Q],?_⟩
  ·generalize (yp 40 H r ⟨2,eT es n (.agg [aI q,aO]),false,false⟩).get=G at *;unfold eT;rw[z,C];refine F2.app (F2.mono (λx O y F=>DE.bk F λp hp b a=>j p b ?_ a) U) ⟨GC i,F2.mono (λx O y F=>DE.bk F λp hp b a=>j p b ?_ a) Z⟩;·rw[f];exact gC.2 ⟨x,by simp[O],hp⟩
   rw[f];exact gC.2 ⟨x,by simp[O],hp⟩
  refine wC.2 ⟨λhm=>?_,(wC.1 D).2⟩;obtain⟨b,a⟩:=F2.live (λx y F=>DE.live F) P _ hm;rw[u]at a;cases a
 ·intro p hp;rcases ef.1 hp with rfl | hp
  ·exact .inr u
  exact .inl (iS _ hp)
 intro p b hp a;rw[qO 40 p M,<-c,if_neg (λe=>by rw[<-e,u]at a;cases a),if_neg (λe=>hp (by rw[e];simp))];exact a
def abu{H:aa}{s:AV}{es':List AV}{rs:List Ref}{c:Ref}{q:Int}{n:Nat}{fz:Bool}{j:Option Nat}(d:nL 2 H s es' rs)(g:H.get c=some ⟨2,[.agg [aI q,aO]],true,fz⟩)(o:n<=es'.length)(h:es'.length<1000000)(i:Fr H){dep:Nat}{K:AV->aa->Prop}
 (t : ∀r' H' a,Fr H'->jR 2 H' r' (eT es' n (.agg [aI q,aO])) a->(∀p∈a,p∈rs\/H.get p=none)->(∀p b,p ∉ rs->H.get p=some b->H'.get p=some b)->K (.dsl r' 0 (es'.length+1) none) H') :
 gh (cD aK dep (.fn 49) [s,aI n,.bA c 0 1 j] H) K:=by
 obtain⟨r',H',a,l,m,e,k,f⟩:=Vj d g o h i dep;exact tk l (t r' H' a m e k f)
def aeF{H:aa}{r':Ref}{es':List AV}{rs:List Ref}{N m:Nat}{pos:Int}{c' xb:AV}{b:List UInt8}{r:Ref}(R : ∃d t,r=⟨d,t,H.gen d t,0⟩){K:aa->Prop}(o:Sl 1 (aA b) xb)(s:b.length<1000000000)(J:Fr H)(f:jR 2 H r' es' rs)(S:m=es'.length)(i:es'[N]?=some (.agg [aI pos,c']))
 (L : ∀H2 w,Fr H2->jR 2 H2 r' (es'.set N (.agg [aI pos,.fsl 1 (aA b) none])) w->(∀p∈w,p∈rs\/H.get p=none)->(∀p k,p ∉ rs->H.get p=some k->H2.get p=some k)->K H2) :
 gh (rJ false H r [] (ay aK 46 [xb])) λv I=>dL (bK env.P I.get 22 (some (.dsl r' 0 m none)) (some (aI N))) λa=>dL (iB env.P 59 (some a) 1) λB=>gh (iV env.P I 57 (some B) (some v)) λ_ H2=>K H2:=by
 obtain⟨d,t,rfl⟩:=R;subst S;have V:=ZT o s;obtain⟨n,g⟩ : ∃q:Ref,q=⟨d,t,H.gen d t,0⟩:=⟨_,rfl⟩;have c:H.get n=none:=by rw[g];exact tO J
 obtain⟨es,h,C,U,O,F⟩:=f.set i (j:=1) (by simp) c 1 (by decide) (aA b) none;have u : .agg (patch [aI pos,c'] 1 [.fsl 1 (aA b) none])=AV.agg [aI pos,.fsl 1 (aA b) none]:=rfl;rw[u]at F;have T:N<es'.length:=(dT.1 i).1;have G:n≠r':=λe=>by rw[e,C]at c;cases c
 have M:r'∈rs:=by
  obtain⟨_,_,_,D,_⟩:=f;rw[D];simp
 have y:K ((n,some ⟨1,aA b,true,false⟩) :: H.put r' (some ⟨2,h,false,false⟩)):=by
  obtain⟨H2,l⟩ : ∃H2:aa,H2=(n,some ⟨1,aA b,true,false⟩) :: H.put r' (some ⟨2,h,false,false⟩):=⟨_,rfl⟩;have x : ∀p,H2.get p=if n=p then some ⟨1,aA b,true,false⟩ else if p=r' then some ⟨2,h,false,false⟩ else H.get p:=λp=>by rw[l,aa.bS,aa.ab]
  obtain⟨E,Q,B⟩:=F H2 (by rw[x,if_neg G,if_pos rfl]) (by rw[x,if_pos rfl]) (λp b hp o=>by
   rw[x,if_neg (λe=>by rw[<-e,c]at o;cases o),if_neg hp];exact o)
  rw[<-l];refine L H2 E ?_ Q (λp hp=>?_) (λp k hp z=>?_);·rw[l,g];exact oB (oZ J (by rw[C];rfl) _) (aa.dK _ _ _ (by rw[C];rfl) _ _).symm _
  ·rcases B p hp with e | e
   ·exact .inl e
   exact .inr (by rw[e];exact c)
  rw[x,if_neg (λe=>by rw[<-e,c]at z;cases z),if_neg (λe=>hp (by rw[e];exact M))];exact z
 have A:r'≠n:=λe=>G e.symm;clear F L i f u;simp only[g,fW]at y G A c O;clear g;simp[gE,aa.ab,aa.bS, *];done
def Td{l:List eE}{x:AV}(f:Sl 2 (a9 l) x):Sl 2 (a9 (qx l)) (xc (Sq x l)):=by
 rcases f with ⟨rfl,he⟩ | ⟨c,rfl,_⟩
 ·have:l=[]:=by simpa [a9] using he
  subst this;exact .inl ⟨rfl,rfl⟩
 cases l with| nil=>exact .inr ⟨some 0,rfl,bg _⟩| cons p l=>have:xc (Sq (.bq 2 (a9 (p :: l)) c) (p :: l)) = .bq 2 (a9 (qx (p :: l))) none:=(by show AV.bq 2 ((cG (p :: l)).map Cd) none=_;rw[Ir]);rw[this];exact Sl.mk _ _
def PD(l:List eE):cG (qx l)=cG l:=by
 unfold cG qx;rw[Bk];rfl
section
variable{xb:AV}{N:Nat}{st lf:Int}{b:List UInt8}(a:Sl 1 (aA b) xb)(i:b.length<1000000000)
include a i
theorem zX{r':Ref}{es':List AV}{p:List Ref}{H9:aa}{c':AV}{pos:Int}{m:Nat}{es2:List AV}(H:Fr H9)(T:H9.get ⟨0,3,0,0⟩=some ⟨4,[.agg [.dsl r' 0 m none,aI st,aI lf,aB false]],false,false⟩)(L:H9.get ⟨0,6,0,0⟩=some ⟨4,[.agg [aO,aI 0,aI 0,aB false]],false,false⟩)
 (w:jR 2 H9 r' es' p) (n1:(⟨0,3,0,0⟩:Ref) ∉ p) (n2:(⟨0,6,0,0⟩:Ref) ∉ p) (C:m=es'.length) (o:es'[N]?=some (.agg [aI pos,c'])) (g:es'.set N (.agg [aI pos,.fsl 1 (aA b) none])=es2) :
 gh (rJ false H9 ⟨0,62,H9.gen 0 62,0⟩ [] (ay aK 46 [xb])) λJ t=>dL (bK env.P t.get 22 (some (.dsl r' 0 m none)) (some (aI N))) λD=>dL (iB env.P 59 (some D) 1) λB=>gh (iV env.P t 57 (some B) (some J)) λM u=>
  dL (nh env.P (aa.get u) 24 (some (.ptr ⟨0,3,0,0⟩ 0 0))) λI=>gh (iV env.P u 24 (some (.ptr ⟨0,6,0,0⟩ 0 0)) (some I)) λS z=>dL (xj env.P z (.ptr ⟨0,6,0,0⟩ 0 0) 24) λE=>
  dA aK 24 (.tup [E,.v (.int .i64 0)]) z (.tup [.agg [.nsl 2 es2 none,aI st,aI lf,aB false],aI 0]):=by
 refine aeF ⟨_,_,rfl⟩ a i H w C o λH2 y O n k1 K=>?_;rw[g]at n;have G:es2≠[]:=by
  intro e;rw[<-g]at e;have:=iQf List.length e;rw[MS]at this;have U:=(dT.1 o).1;simp only[k8]at this;omega
 have A:es2.length=m:=by rw[<-g,MS,C]
 have d1:=K _ _ n1 T;have d2:=K _ _ n2 L;have c:=n.row G;rw[A]at c;have F:(⟨0,6,0,0⟩:Ref) ∉ y:=λh=>by
  rcases k1 _ h with h | h
  ·exact n2 h
  rw[L]at h;cases h
 have k : ∀H9:aa,(∀q∈y,∀b,H2.get q=some b->H9.get q=some b)->dA aK 24 (.tup [df (.dsl r' 0 m none) st lf false,aI 0]) H9 (.tup [df (.nsl 2 es2 none) st lf false,aI 0]):=λH9 Q=>CJ (by rfl) (c.bk Q) _ _ _ _;simp only[df]at k;clear c n w k1 K g o C A;simp[-ke,gE,aa.ab, *];refine k _ λq R b a=>?_;have n2 : ¬q=⟨0,6,0,0⟩:=λe=>F (by rw[<-e];exact R);simp[aa.ab,n2,a];done
end
section
variable{l:List eE}{x:AV}{st lf:Int}{dd:Bool}(f:Sl 2 (a9 l) x)(d : ∀s∈l,iQ s)(j:l.length<500000)
include f d j
variable{xb:AV}{b:List UInt8}(a:Sl 1 (aA b) xb)
include a
theorem Mr{q:Int}(hd:EP l st lf dd=true)(m:0<=q/\q<6146)(w:b.length=128)(p:dd=true\/lf=0):ay aK 24 [df x st lf dd,aI q,xb]=some (
 .tup [df (Sq x l) st lf true,aI 0]):=by
 refine nF (fn:=Tryz.f24) (c:=tp) rfl (by kernel_rfl) (by kernel_rfl) (by kernel_rfl) (by kernel_rfl) ?_;refine yJ _ _ _ _ _ λg=>?_;have z:=j9 (by rfl) (JM (st:=st) (lf:=lf) (dd:=dd) f d (by omega) (q:=q));have i:=a.r;have o : ∀s∈l,s.bs.length<1000000000:=λs C=>by
  have:=yu l (-1) (Ak hd) s C;omega
 have u:=λH r K refs G D=>Dq (st:=st) (lf:=lf) (dd:=dd) f d o (by omega) (H:=H) (r:=r) (K:=K) (refs:=refs) G D;simp[hd,m]at z;simp only[df]at z u ⊢;clear d hd m;simp[an, *,tv,f.r];refine u _ _ _ _ ⟨_,_,rfl⟩ (by simp(maxDischargeDepth:=12) [HA, *]) λH' s rs E k v n B=>?_;have I:=pA k;have b1:=v.same (q:=⟨0,3,0,0⟩) (by simp) (by simp;rfl);have b2:=v.same (q:=⟨0,6,0,0⟩) (by simp) (by simp;rfl);have y:(⟨0,3,0,0⟩:Ref) ∉ rs:=λt=>by have:=n _ t;simp at this
 have A:(⟨0,6,0,0⟩:Ref) ∉ rs:=λt=>by have:=n _ t;simp at this
 have h : ∀H9:aa,(∀q∈rs,∀b,H'.get q=some b->H9.get q=some b)->dA aK 24 (.tup [df s st lf true,aI 0]) H9 (.tup [df (Sq x l) st lf true,aI 0]):=λH9 F=>by
  rw[<-B];exact CJ (by rfl) (k.bk F) _ _ _ _
 simp only[df]at h;clear v n k u B;rcases p with rfl | rfl
 ·simp[-ke,gE,aa.ab, *];refine h _ λq m b a=>?_;have n1 : ¬q=⟨0,3,0,0⟩:=λe=>y (by rw[<-e];exact m);have n2 : ¬q=⟨0,6,0,0⟩:=λe=>A (by rw[<-e];exact m);simp[aa.ab,n1,n2,a];done
 cases dd;all_goals
  simp[-ke,gE,aa.ab, *]
  refine h _ λq m b a=>?_
  have n1 : ¬q=⟨0,3,0,0⟩:=λe=>y (by rw[<-e];exact m)
  have n2 : ¬q=⟨0,6,0,0⟩:=λe=>A (by rw[<-e];exact m)
  simp[aa.ab,n1,n2,a]
  done
theorem RZ{q:Int}(hd:EP l st lf false=true)(hq:0<=q/\q<6146)(h128:b.length=128)(hlf : ¬lf=0):ay aK 24 [df x st lf false,aI q,xb]=some (
 .tup [df (.nsl 2 (cG (wrL l q b)) none) st (if lf>0 then lf - 1 else lf) false,aI 0]):=by
 refine nF (fn:=Tryz.f24) (c:=tp) rfl (by kernel_rfl) (by kernel_rfl) (by kernel_rfl) (by kernel_rfl) ?_;refine yJ _ _ _ _ _ λg=>?_;have hA:=j9 (by rfl) (JM (st:=st) (lf:=lf) (dd:=false) f d (by omega) (q:=q));have i:=a.r;have hs128 : ∀s∈l,s.bs.length<1000000000:=λs T=>by
  have:=yu l (-1) (Ak hd) s T;omega
 have hT:=λH r K refs hr hF=>Dq (st:=st) (lf:=lf) (dd:=false) f d hs128 (by omega) (H:=H) (r:=r) (K:=K) (refs:=refs) hr hF;have X:=Ak hd;have hll:(qx l).length<500000:=by simpa using j
 have D:=λ(y:AV)(st lf:Int)(dd:Bool)(hy:Sl 2 (a9 (qx l)) y)=>j9 (by rfl) (Tt (st:=st) (lf:=lf) (dd:=dd) hy (Bw l) (by omega) (LC q (qx l) (-1) (by rw[F1];exact X)) (N7 _ q));have hnl:=N7 (qx l) q;have hwr:wrL l q b=if mL (qx l) q (nth (qx l) q) then (qx l).set (nth (qx l) q) (yX q b) else (qx l).take (nth (qx l) q)++yX q b :: (qx l).drop (nth (qx l) q):=by
  unfold wrL;rw[aae,aaf]
 rw[hwr];have F:=λh=>abC (l:=qx l) (q:=q) (n:=nth (qx l) q) h;have P:=Td f;rw[<-PD]at hT;generalize nth (qx l) q=N at *;generalize qx l=L at *;simp[hd,hq]at hA;have hst : -1<=lf/\lf<2147483648:=by
  unfold EP EO at hd;simp at hd;omega
 have ew:=iQa (lf - 1) (by omega);simp only[df]at hA hT D ⊢;clear d hd hq hwr X;simp[an, *,tv,f.r];refine hT _ _ _ _ ⟨_,_,rfl⟩ (by simp(maxDischargeDepth:=12) [HA, *]) λH' s rs hF' t M hfr ho=>?_;have hc:=pA t;have b1:=M.same (q:=⟨0,3,0,0⟩) (by simp) (by simp;rfl);have b2:=M.same (q:=⟨0,6,0,0⟩) (by simp) (by simp;rfl);have m1:(⟨0,3,0,0⟩:Ref) ∉ rs:=λhm=>by have:=hfr _ hm;simp at this
 have m2:(⟨0,6,0,0⟩:Ref) ∉ rs:=λhm=>by have:=hfr _ hm;simp at this
 clear hT M;have hv : ∀G:aa,(∀q∈rs,∀b,H'.get q=some b->G.get q=some b)->view G.get 7 s=some (xc (Sq x l)):=λG E=>by
  have:=((t.bk E).out 4).2.1;rw[ho]at this;exact this
 have W : ∀b b',∀q∈rs,∀k,H'.get q=some k->((H'.put ⟨0,3,0,0⟩ b).put ⟨0,3,0,0⟩ b').get q=some k:=λb b' q hq k M=>by
  have n1 : ¬q=⟨0,3,0,0⟩:=λe=>m1 (by rw[<-e];exact hq);rw[aa.ab,if_neg n1,aa.ab,if_neg n1];exact M
 have V : ∀b,∀q∈rs,∀k,H'.get q=some k->(H'.put ⟨0,3,0,0⟩ b).get q=some k:=λb q hq k M=>by
  have n1 : ¬q=⟨0,3,0,0⟩:=λe=>m1 (by rw[<-e];exact hq);rw[aa.ab,if_neg n1];exact M
 have hv1:=λb b'=>hv _ (W b b');have hv2:=λb=>hv _ (V b);have J:N<=(cG L).length:=by simpa using hnl
 have O : ∀(G:aa)(lf':Int)(K:AV->aa->Prop),Fr G->G.get ⟨0,3,0,0⟩=some ⟨4,[.agg [s,aI st,aI lf',aB false]],false,false⟩->G.get ⟨0,6,0,0⟩=some ⟨4,[.agg [aO,aI 0,aI 0,aB false]],false,false⟩->(∀q∈rs,∀b,H'.get q=some b->G.get q=some b) ->
  (∀r' H9 z,Fr H9->jR 2 H9 r' (eT (cG L) N (.agg [aI q,aO])) z->H9.get ⟨0,3,0,0⟩=some ⟨4,[.agg [s,aI st,aI lf',aB false]],false,false⟩->H9.get ⟨0,6,0,0⟩=some ⟨4,[.agg [aO,aI 0,aI 0,aB false]],false,false⟩->(⟨0,3,0,0⟩:Ref) ∉ z->(⟨0,6,0,0⟩:Ref) ∉ z->K (.dsl r' 0 (L.length+1) none) H9) ->
  gh (cD aK 0 (.fn 49) [s,aI N,.bA ⟨0,55,G.gen 0 55,0⟩ 0 1 (some 1)] ((⟨0,55,G.gen 0 55,0⟩,some ⟨2,[.agg [aI q,aO]],true,false⟩) :: G)) K:=by
  intro G lf' K E g1 g2 g3 hK;have hn55:G.get ⟨0,55,G.gen 0 55,0⟩=none:=tO E;have C : ∀p k,G.get p=some k->aa.get ((⟨0,55,G.gen 0 55,0⟩,some ⟨2,[.agg [aI q,aO]],true,false⟩) :: G) p=some k:=λp k hp=>by
   rw[aa.bS,if_neg (λe=>by rw[<-e,hn55]at hp;cases hp)];exact hp
  have o:=(t.bk g3).bk (H':=(⟨0,55,G.gen 0 55,0⟩,some ⟨2,[.agg [aI q,aO]],true,false⟩) :: G) λp hp k M=>C p k M;refine abu o (fz:=false) (by rw[aa.bS,if_pos rfl]) J (by simp;omega) (oB E rfl _) λr' H9 z k1 k2 k3 k4=>?_;rw[xg];have j1:=k4 _ _ m1 (C _ _ g1);have j2:=k4 _ _ m2 (C _ _ g2);refine hK r' H9 z k1 k2 j1 j2 (λh=>?_) λh=>?_
  ·rcases k3 _ h with h | h
   ·exact m1 h
   rw[C _ _ g1]at h;cases h
  rcases k3 _ h with h | h
  ·exact m2 h
  rw[C _ _ g2]at h;cases h
 have u:(eT (cG L) N (.agg [aI q,aO])).set N (.agg [aI q,.fsl 1 (aA b) none])=cG (L.take N++yX q b :: L.drop N):=by
  rw[RH _ _ J];unfold eT cG;rw[xF,vG,iQR,List.map_drop];rfl
 have w : ∀h:N<L.length,L[N].pos=q->(cG L)[N]?=some (.agg [aI q,.fsl 1 (aA L[N].bs) none])/\(cG L).set N (.agg [aI q,.fsl 1 (aA b) none])=cG (L.set N (yX q b)):=λh hp=>by
  constructor;·unfold cG;rw[kR,de h];show some (Rc L[N])=_;unfold Rc;rw[hp]
  unfold cG;rw[Fo];rfl
 by_cases h0:lf>0
 ·have h0':0<lf:=h0;rw[if_pos h0];have S:=D _ st (lf - 1) false P;obtain⟨G,E⟩ : ∃G:aa,(H'.put ⟨0,3,0,0⟩ (some ⟨4,[.agg [s,aI st,aI lf,aB false]],false,false⟩)).put ⟨0,3,0,0⟩ (some ⟨4,[.agg [s,aI st,.v (.int .i64 (lf - 1)),aB false]],false,false⟩)=G:=⟨_,rfl⟩;have G1:Fr G:=by rw[<-E];exact oZ (oZ hF' (by rw[b1];rfl) _) (by simp[aa.ab]) _
  have G2:G.get ⟨0,3,0,0⟩=some ⟨4,[.agg [s,aI st,aI (lf - 1),aB false]],false,false⟩:=by rw[<-E];simp[aa.ab]
  have G3:G.get ⟨0,6,0,0⟩=some ⟨4,[.agg [aO,aI 0,aI 0,aB false]],false,false⟩:=by rw[<-E];simp[aa.ab,b2]
  have Q : ∀q∈rs,∀b,H'.get q=some b->G.get q=some b:=by rw[<-E];exact W _ _
  have G5:=hv G Q;clear hv hv1 hv2 W V;cases Z:mL L q N
  ·rw[Z]at S;have A:=λK=>O G (lf - 1) K G1 G2 G3 Q;clear D O w F t;simp[gE,aa.ab,Em, *];refine A _ λr' H9 z q1 q2 q3 q4 Y q6=>?_;have n3 : ∀p∈z,¬p=⟨0,3,0,0⟩:=λp hp e=>Y (by rw[<-e];exact hp);have U:=zX (N:=N) (st:=st) (lf:=lf - 1) (pos:=q) (c':=aO) (m:=L.length+1) (es2:=cG (L.take N++yX q b :: L.drop N)) (r':=r') (H9:=H9.put ⟨0,3,0,0⟩ (some ⟨4,[.agg [.dsl r' 0 (L.length+1) none,aI st,aI (lf - 1),aB false]],false,false⟩)) a (by omega)
    (oZ q1 (by rw[q3];rfl) _) (by rw[aa.ab,if_pos rfl]) (by rw[aa.ab,if_neg (by simp)];exact q4) (q2.bk λp hp k M=>by rw[aa.ab,if_neg (n3 p hp)];exact M) Y q6 (by rw[Ai _ _ _ J];simp) (LO _ J) u
   clear q2 Y q6 n3 u A Q;simp[gE,aa.ab, -ke, *];first | done | exact U
  rw[Z]at S;obtain⟨R,B⟩:=F Z;obtain⟨I,e2⟩:=w R B;obtain⟨r',T,o⟩ : ∃r',s = .dsl r' 0 L.length none/\jR 2 G r' (cG L) rs:=by
   rcases t.bk Q with ⟨_,h,_⟩ | ⟨_,_,h,_⟩ | ⟨r',es,h1,h2,h3,h4,h5,h6⟩
   ·rw[h]at I;cases I
   ·rw[h]at I;cases I
   exact⟨r',by rw[h1,h4.len];simp,es,h3,h4,h5,h6⟩
  have U:=zX (N:=N) (st:=st) (lf:=lf - 1) (pos:=q) (m:=L.length) (r':=r') (H9:=G) a (by omega) G1 (by rw[<-T];exact G2) G3 o m1 m2 (by simp) I e2;rw[<-T]at U;clear D O w F t o I e2 B T u Q;simp[gE,aa.ab, -ke, *];first | done | exact U
 have h0' : ¬0<lf:=h0;rw[if_neg h0];have S:=D _ st (lf) false P;obtain⟨G,E⟩ : ∃G:aa,H'.put ⟨0,3,0,0⟩ (some ⟨4,[.agg [s,aI st,aI lf,aB false]],false,false⟩)=G:=⟨_,rfl⟩;have G1:Fr G:=by rw[<-E];exact oZ hF' (by rw[b1];rfl) _
 have G2:G.get ⟨0,3,0,0⟩=some ⟨4,[.agg [s,aI st,aI (lf),aB false]],false,false⟩:=by rw[<-E];simp[aa.ab]
 have G3:G.get ⟨0,6,0,0⟩=some ⟨4,[.agg [aO,aI 0,aI 0,aB false]],false,false⟩:=by rw[<-E];simp[aa.ab,b2]
 have Q : ∀q∈rs,∀b,H'.get q=some b->G.get q=some b:=by rw[<-E];exact V _
 have G5:=hv G Q;clear hv hv1 hv2 W V;cases Z:mL L q N
 ·rw[Z]at S;have A:=λK=>O G (lf) K G1 G2 G3 Q;clear D O w F t;simp[gE,aa.ab,Em, *];refine A _ λr' H9 z q1 q2 q3 q4 Y q6=>?_;have n3 : ∀p∈z,¬p=⟨0,3,0,0⟩:=λp hp e=>Y (by rw[<-e];exact hp);have U:=zX (N:=N) (st:=st) (lf:=lf) (pos:=q) (c':=aO) (m:=L.length+1) (es2:=cG (L.take N++yX q b :: L.drop N)) (r':=r') (H9:=H9.put ⟨0,3,0,0⟩ (some ⟨4,[.agg [.dsl r' 0 (L.length+1) none,aI st,aI (lf),aB false]],false,false⟩)) a (by omega)
   (oZ q1 (by rw[q3];rfl) _) (by rw[aa.ab,if_pos rfl]) (by rw[aa.ab,if_neg (by simp)];exact q4) (q2.bk λp hp k M=>by rw[aa.ab,if_neg (n3 p hp)];exact M) Y q6 (by rw[Ai _ _ _ J];simp) (LO _ J) u
  clear q2 Y q6 n3 u A Q;simp[gE,aa.ab, -ke, *];first | done | exact U
 rw[Z]at S;obtain⟨R,B⟩:=F Z;obtain⟨I,e2⟩:=w R B;obtain⟨r',T,o⟩ : ∃r',s = .dsl r' 0 L.length none/\jR 2 G r' (cG L) rs:=by
  rcases t.bk Q with ⟨_,h,_⟩ | ⟨_,_,h,_⟩ | ⟨r',es,h1,h2,h3,h4,h5,h6⟩
  ·rw[h]at I;cases I
  ·rw[h]at I;cases I
  exact⟨r',by rw[h1,h4.len];simp,es,h3,h4,h5,h6⟩
 have U:=zX (N:=N) (st:=st) (lf:=lf) (pos:=q) (m:=L.length) (r':=r') (H9:=G) a (by omega) G1 (by rw[<-T];exact G2) G3 o m1 m2 (by simp) I e2;rw[<-T]at U;clear D O w F t o I e2 B T u Q;simp[gE,aa.ab, -ke, *];first | done | exact U
end
end
end Go.Proofs.YtmjkpdknicjjgaaGreat
namespace Go.Ab
def jR.aeH{z:Nat}{H:aa}{r:Ref}{es':List AV}{rs:List Ref}(h:jR z H r es' rs){i j:Nat}{ys:List AV}(hi:es'[i]?=some (.agg ys)){k:Nat}{l:List AV}{c:Option Nat}(hj:ys[j]?=some (.fsl k l c)) :
 ∃es W q,H.get r=some ⟨z,es,false,false⟩/\es.length=es'.length/\es[i]?=some (.agg W)/\W[j]?=some (.bA q 0 l.length c)/\H.get q=some ⟨k,l,true,false⟩/\q∈rs/\q≠r /\
  ∀u:List AV,u.length=l.length->jR z (H.put q (some ⟨k,u,true,false⟩)) r (es'.set i (.agg (ys.set j (.fsl k u c)))) rs:=by
 obtain⟨es,Z,h2,I,V⟩:=h;have Y:=Cc hi;have hil:i<es'.length:=(dT.1 hi).1;have o:(es'.take i).length=i:=by rw[j7];omega
 generalize es'.take i=A' at *;generalize es'.drop (i+1)=B' at *;subst Y;obtain⟨A,C,rfl,hA,R⟩:=F2.split h2;match C,R with
 | x :: B,R=>
 obtain⟨⟨W,ys',rfl,e,hX⟩,hB⟩:=R;cases e;have U:A.length=i:=by rw[hA.len,o]
 have X:=Cc hj;have hjl:j<ys.length:=(dT.1 hj).1;have K:(ys.take j).length=j:=by rw[j7];omega
 generalize ys.take j=Y1 at *;generalize ys.drop (j+1)=Y2 at *;subst X;obtain⟨G,X3,rfl,N,E⟩:=F2.split hX;match X3,E with
 | x0 :: J,E=>
 have L:G.length=j:=by rw[N.len,K]
 obtain⟨P,S⟩:=E;rcases P with ⟨_,hp⟩ | ⟨q,z1',l',c',rfl,e,hq,hz⟩
 ·cases hp
 cases e;have e1:(A ++ .agg (G ++ .bA q 0 l.length c :: J) :: B).flatMap gf=A.flatMap gf++(G.flatMap iX++(q :: (J.flatMap iX++B.flatMap gf))):=by simp[gf,BW,lU,iX]
 rw[e1]at I;rw[I]at V;have F:(r :: (A.flatMap gf++(G.flatMap iX++(q :: (J.flatMap iX++B.flatMap gf))))).Perm (q :: (r :: (A.flatMap gf++(G.flatMap iX++(J.flatMap iX++B.flatMap gf))))):=by
  have:=List.perm_middle (a:=q) (l₁:=r :: (A.flatMap gf++G.flatMap iX)) (l₂:=J.flatMap iX++B.flatMap gf);simpa [qq] using this
 have t:=(wC.1 (F.nodup_iff.1 V)).1;simp only[ef,kQ,not_or]at t;obtain⟨n0,n1,n2,n3,n4⟩:=t;refine⟨_,_,q,Z,h2.len,by rw[ic (by omega),U,rz];rfl,by rw[ic (by omega),L,rz];rfl,hq,by rw[I];simp,n0,λu T=>?_⟩;have M : ∀p b,p≠q->H.get p=some b->(H.put q (some ⟨k,u,true,false⟩)).get p=some b:=λp b hp m=>by rw[aa.ab,if_neg hp];exact m
 have O:(A' ++ .agg (Y1 ++ .fsl k l c :: Y2) :: B').set i (.agg ((Y1 ++ .fsl k l c :: Y2).set j (.fsl k u c)))=A' ++ .agg (Y1 ++ .fsl k u c :: Y2) :: B':=by
  rw[Dd _ _ (by omega),o,rz,Db,Dd _ _ (by omega),K,rz,Db]
 rw[O];refine⟨_,M r _ (λe=>n0 e.symm) Z,?_,by rw[e1];exact I,by rw[I];exact V⟩;refine F2.app (F2.mono (λx w y D=>DE.bk D λp hp b m=>M p b (λe=>n1 (by rw[<-e];exact gC.2 ⟨x,w,hp⟩)) m) hA) ⟨⟨_,_,rfl,rfl,F2.app (F2.mono (λx w y D=>DC.bk D λp hp b m=>M p b (λe=>n2 (by rw[<-e];exact gC.2 ⟨x,w,hp⟩)) m) N) ⟨.inr ⟨q,k,u,c,by rw[T],rfl,by rw[aa.ab,if_pos rfl],hz⟩,F2.mono (λx w y D=>DC.bk D λp hp b m=>M p b (λe=>n3 (by rw[<-e];exact gC.2 ⟨x,w,hp⟩)) m) S⟩⟩,F2.mono (λx w y D=>DE.bk D λp hp b m=>M p b (λe=>n4 (by rw[<-e];exact gC.2 ⟨x,w,hp⟩)) m) hB⟩
end Go.Ab
namespace Go.Proofs.YtmjkpdknicjjgaaGreat
open Go.Ab
section
attribute [local simp] aC aw ah aq ao kM o9 bk jE aE ar ax bo bn aG aD ae aN cN
def Spo(H0 H:aa)(rs:List Ref):Prop :=∀q b,q ∉ rs->H0.get q=some b->H.get q=some b
end
section
def SD:BQ 2 (cG []) aO := .inl ⟨rfl,rfl⟩
def V7:Sl 2 (a9 []) aO := .inl ⟨rfl,rfl⟩
def K0(st lf:Int)(dd:Bool):rV st lf dd st lf dd=true:=by simp[rV]
end
section
attribute [local simp] aC aw ah aq ao kM o9 bk jE aE ar ax bo bn aG aD ae aN cN
def IZ{l:List eE}{y:AV}(h:BQ 2 (cG l) y):Sl 2 (a9 (qx l)) (xc y):=by
 rcases h with ⟨rfl,he⟩ | ⟨rfl,he⟩ | ⟨rfl,he⟩
 ·have:l=[]:=by simpa [cG] using he
  subst this;exact .inl ⟨rfl,rfl⟩
 ·have:l=[]:=by simpa [cG] using he
  subst this;exact .inr ⟨some 0,rfl,bg _⟩
 have:xc (.nsl 2 (cG l) none) = .bq 2 (a9 (qx l)) none:=(by show AV.bq 2 ((cG l).map Cd) none=_;rw[Ir]);rw[this];exact Sl.mk _ _
def Ew(s:AV)(st lf:Int)(dd:Bool):aY:=⟨4,[df s st lf dd],false,false⟩
def Vt{H:aa}{A:List (Ref × aY)}{rows:List u9}(h:sZ H A rows){t:Nat}{s:AV}{st lf:Int}{dd:Bool}(B:s.cells=[s]/\s.one=true){K:AV->aa->Prop}
 (C : ∀r H',sZ H' ((r,Ew s st lf dd) :: A) rows->(∀q b,H.get q=some b->H'.get q=some b)->K (.ptr r 0 0) H') :
 gh (lD H (⟨0,t,aa.gen H 0 t,0⟩:Ref) (uD env.P (⟨0,t,aa.gen H 0 t,0⟩:Ref) 24)) λv D=>gh (iV env.P D 24 (some v) (some (df s st lf dd))) λF H2=>K v H2:=by
 have E:H.get ⟨0,t,H.gen 0 t,0⟩=none:=tO h.fr;have w:=C ⟨0,t,H.gen 0 t,0⟩ ((⟨0,t,H.gen 0 t,0⟩,some (Ew s st lf dd)) :: H) (h.new 0 t _) (λq b z=>by rw[aa.bS,if_neg (λe=>by rw[<-e,E]at z;cases z)];exact z);clear C;simp only[Ew,df]at w ⊢;simp[gE,B.1,B.2];exact w
def Od{H:aa}{e:List (Ref × aY)}{rows:List u9}(h:sZ H e rows)(r:Ref)(s:AV)(st lf:Int)(dd:Bool)(t:(r,Ew s st lf dd)∈e){K:AV->Prop}(q:K (df s st lf dd)) :
 dL (nh env.P (aa.get H) 24 (some (.ptr r 0 0))) K:=by
 have:=h.has _ t;simp only[Ew,df]at this q ⊢;simp[this];exact q
def _root_.Go.Ab.Sl.Ur{z:Nat}{es:List AV}{x:AV}(h:Sl z es x):x.cells=[x]/\x.one=true:=⟨h.r.2.2.2.1,h.r.2.2.2.2.1⟩
def Zg{H:aa}{z:List (Ref × aY)}{rows:List u9}(h:sZ H z rows){t:Nat}{s:AV}{st lf:Int}{dd:Bool}(A:s.cells=[s]/\s.one=true){K:AV->aa->Prop}
 (B : ∀r H',sZ H' ((r,Ew s st lf dd) :: z) rows->(∀q b,H.get q=some b->H'.get q=some b)->K (.ptr r 0 0) H') :
 gh (lD H (⟨0,t,aa.gen H 0 t,0⟩:Ref) (HU env.P (⟨0,t,aa.gen H 0 t,0⟩:Ref) 24 (some (df s st lf dd)))) K:=by
 have C:H.get ⟨0,t,H.gen 0 t,0⟩=none:=tO h.fr;have v:=B ⟨0,t,H.gen 0 t,0⟩ ((⟨0,t,H.gen 0 t,0⟩,some (Ew s st lf dd)) :: H) (h.new 0 t _) (λq b w=>by rw[aa.bS,if_neg (λe=>by rw[<-e,C]at w;cases w)];exact w);clear B;simp only[Ew,df]at v ⊢;simp[A.1,A.2];exact v
def Is{l m:List eE}{x y:AV}(f:Sl 2 (a9 l) x)(c : ∀s∈l,iQ s)(g:Sl 2 (a9 m) y)(a : ∀s∈m,iQ s)(j:l.length<1000000)(e:fK l=fK m)(st lf:Int)(dd:Bool):ay aK 11 [df x st lf dd,df y st lf dd]=some (aB true):=by
 have:=j9 (by rfl) (WU (st:=st) (lf:=lf) (dd:=dd) (st':=st) (lf':=lf) (dd':=dd) f c g a j);rw[e,K0]at this;simpa using this
def Lc{H:aa}{s:AV}{es':List AV}{rs:List Ref}(h:nL 2 H s es' rs){y:AV}(t:yh 2 s es'=y):view H.get 7 s=some (xc y)/\af H.get 7 s=rs/\s.cells=[s]/\s.one=true:=by
 obtain⟨w,e,q,v⟩:=h.out 4;rw[t]at e;exact⟨e,q,pA h⟩
end
end Go.Proofs.YtmjkpdknicjjgaaGreat
