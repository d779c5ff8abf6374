/-
  Handles and ids as bytes: what these functions answer. No statement of a seat is proved here.
-/
import Derived.Test.YtehkjjcdkbcebaaGreatMRkEnv
set_option linter.unusedVariables false
set_option linter.unusedSimpArgs false
set_option linter.unusedSectionVars false
set_option linter.unnecessarySimpa false
set_option maxRecDepth 1000000
namespace Go.Proofs.YtehkjjcdkbcebaaGreat
open Go.Ab
section
attribute [local simp] bn aO aE aQ aP cy ld bp aG aU cZ cY aX bo ar bS fC
@[simp] theorem Ue(n:Int)(a:0<=n):au env 115 [aI n,aI 4]=some (.bl 1 (al (be 4 n)) none):=by
 refine ax rfl (by kernel_rfl) (wG _ _ _ _ λg=>?_)
 have b:IntKind.i64.wrap (-1) = -1:=rfl
 have c:IntKind.i64.wrap 0=0:=rfl
 simp[ak, *,sc]
 refine cD _ _ _ _ _ λg=>?_
 simp[ak, *,cu,dq,cK]
 refine cD _ _ _ _ _ λg=>?_
 simp[ak, *,cu,dq,cK]
 refine cD _ _ _ _ _ λg=>?_
 simp[ak, *,cu,dq,cK]
 refine cD _ _ _ _ _ λg=>?_
 simp[ak, *,cu,dq,cK]
 refine cD _ _ _ _ _ λg=>?_
 simp[ak, *,cu,qP,al]
@[simp] theorem KY(n:Int)(a:0<=n):au env 115 [aI n,aI 7]=some (.bl 1 (al (be 7 n)) none):=by
 refine ax rfl (by kernel_rfl) (wG _ _ _ _ λg=>?_)
 have b:IntKind.i64.wrap (-1) = -1:=rfl
 have c:IntKind.i64.wrap 0=0:=rfl
 simp[ak, *,sc]
 refine cD _ _ _ _ _ λg=>?_
 simp[ak, *,cu,dq,cK]
 refine cD _ _ _ _ _ λg=>?_
 simp[ak, *,cu,dq,cK]
 refine cD _ _ _ _ _ λg=>?_
 simp[ak, *,cu,dq,cK]
 refine cD _ _ _ _ _ λg=>?_
 simp[ak, *,cu,dq,cK]
 refine cD _ _ _ _ _ λg=>?_
 simp[ak, *,cu,dq,cK]
 refine cD _ _ _ _ _ λg=>?_
 simp[ak, *,cu,dq,cK]
 refine cD _ _ _ _ _ λg=>?_
 simp[ak, *,cu,dq,cK]
 refine cD _ _ _ _ _ λg=>?_
 simp[ak, *,cu,Jr,al]
theorem Lf{x5:AV}{Q:AV->ab->Prop}{l:List UInt8}(j:Sl 1 (al l) x5)(n:l.length<=7) : ∀(s:List UInt8)(k:Nat)(i a:Int)(H:ab),l.drop k=s->k<=l.length->i=k->0<=a->a<256 ^ k ->
 (∀y h,y=aI (we a s)->Q y h) ->
 dZ env Tryz.f142 0 oX [(7,aI i),(2,aI a),(5,x5),(6,aI l.length)] H Q:=by
 intro s
 induction s with
 | nil=>
  rintro k i a H hs hk rfl h0 h1 hQ
  obtain rfl:=drop_nil hs hk
  refine wF _ _ _ _ _ _ λg=>?_
  simp[ak, *,sb]
  exact hQ _ _ rfl
 | cons b s m=>
  rintro k i a H hs hk rfl h0 h1 hQ
  obtain⟨f,t,c,d⟩:=drop_cons hs
  refine wF _ _ _ _ _ _ λg=>?_
  have u:=b.toNat_lt
  have q:=vT (k:=k) 6 (by omega)
  have e:=J5 h0 (by omega) b
  have o:=IntWalk.i64_in (a * 256) (by omega)
  have p:=IntWalk.i64_in ((k:Int)+1) (by omega)
  simp[ak, *,sb,yf,j.idx]
  exact m (k+1) _ _ _ c (by omega) (by simp) (by omega) (by rw[wZ];omega) hQ
@[simp] theorem Ip{x:AV}{l:List UInt8}(a:Sl 1 (al l) x)(b:l.length<=7):au env 142 [x]=some (aI (val l)):=by
 refine ax rfl (by kernel_rfl) (F5 _ _ _ λg=>?_)
 have h:=a.len
 simp[ak, *,Aq]
 exact Lf a b l 0 _ _ _ rfl (by omega) rfl (by omega) (by simp) (λy c e=>by simp[e,val])
def bJ(h:KC):List UInt8:=h.lv :: (be 4 h.cats.toNat++[h.num])
@[simp] theorem xw(h:KC):(bJ h).length=6:=by simp[bJ]
@[simp] theorem Gg(a:UInt8)(b:UInt32)(n:UInt8):au env 89 [.agg [a8 a,bc b,a8 n]]=some (if ej ⟨a,b,n⟩ then .tup [.fsl 1 (al (bJ ⟨a,b,n⟩)) none,aI 0] else .tup [bF,aI 8]):=by
 refine ax rfl (by kernel_rfl) (zg _ _ _ λg=>?_)
 cases h:ej ⟨a,b,n⟩ with
 | true=>simp[ak, *,oU,bad,al,bJ]
 | false=>simp[ak, *,oU,bad]
def cR(i:uO):List UInt8:=bJ i.h++be 7 i.n
@[simp] theorem I0(i:uO):(cR i).length=13:=by simp[cR]
@[simp] theorem YX(a:UInt8)(b:UInt32)(n:UInt8)(k:Int):au env 117 [.agg [a8 a,bc b,a8 n,aI k]]=some (if uF ⟨⟨a,b,n⟩,k⟩ then .tup [.bl 1 (al (cR ⟨⟨a,b,n⟩,k⟩)) none,aI 0] else .tup [bF,aI 8]):=by
 refine ax rfl (by kernel_rfl) (HY _ _ _ λg=>?_)
 cases h:uF ⟨⟨a,b,n⟩,k⟩ with
 | true=>
  have c:=D5 h
  have d:=KY k (by simp only at c;omega)
  have e:ej ⟨a,b,n⟩=true:=by simp only[uF,aY]at h;exact h.1
  simp only at c
  simp[ak, *,xE,bad,al,cR]
 | false=>simp[ak, *,xE,bad]
theorem PK{c:Option Nat}{a n b1 b2 b3 b4:UInt8}(b:6<=c.getD 6):au env 126 [.bl 1 [a8 a,a8 b1,a8 b2,a8 b3,a8 b4,a8 n] c]=some (.agg [a8 a,bc (u32 (val [b1,b2,b3,b4])),a8 n,aI (bad (ej ⟨a,u32 (val [b1,b2,b3,b4]),n⟩))]):=by
 refine ax rfl (by kernel_rfl) (xV _ _ _ λg=>?_)
 have d:=Ip (l:=[b1,b2,b3,b4]) (x := .bl 1 [a8 b1,a8 b2,a8 b3,a8 b4] (c.map (· - 1))) (Sl.Qp (Fu b (by simp))) (by simp)
 have e:=sJ [b1,b2,b3,b4]
 generalize val [b1,b2,b3,b4]=v at *
 simp[ak, *,uc]
theorem z7{c:Option Nat}{a n b1 b2 b3 b4:UInt8}(b:6<=c.getD 6):au env 100 [.bl 1 [a8 a,a8 b1,a8 b2,a8 b3,a8 b4,a8 n] c] =
 some (if ej ⟨a,u32 (val [b1,b2,b3,b4]),n⟩ then .tup [.agg [a8 a,bc (u32 (val [b1,b2,b3,b4])),a8 n],aI 0] else .tup [.agg [a8 0,bc 0,a8 0],aI 8]):=by
 refine ax rfl (by kernel_rfl) (zh _ _ _ λg=>?_)
 have d:=PK (a:=a) (n:=n) (b1:=b1) (b2:=b2) (b3:=b3) (b4:=b4) b
 generalize val [b1,b2,b3,b4]=v at *
 cases h:ej ⟨a,u32 v,n⟩<;>simp[ak, *,tg,bad]
theorem KZ{c:Option Nat}{a n b1 b2 b3 b4 d1 d2 d3 d4 d5 d6 d7:UInt8}(b:13<=c.getD 13):au env 126 [.bl 1 [a8 a,a8 b1,a8 b2,a8 b3,a8 b4,a8 n,a8 d1,a8 d2,a8 d3,a8 d4,a8 d5,a8 d6,a8 d7] c]=some (.agg [a8 a,bc (u32 (val [b1,b2,b3,b4])),a8 n,aI (bad (ej ⟨a,u32 (val [b1,b2,b3,b4]),n⟩))]):=by
 refine ax rfl (by kernel_rfl) (xV _ _ _ λg=>?_)
 have d:=Ip (l:=[b1,b2,b3,b4]) (x := .bl 1 [a8 b1,a8 b2,a8 b3,a8 b4] (c.map (· - 1))) (Sl.Qp (Fu b (by simp))) (by simp)
 have e:=sJ [b1,b2,b3,b4]
 generalize val [b1,b2,b3,b4]=v at *
 simp[ak, *,uc]
theorem Ss{c:Option Nat}{a n b1 b2 b3 b4 d1 d2 d3 d4 d5 d6 d7:UInt8}(b:13<=c.getD 13):au env 143 [.bl 1 [a8 a,a8 b1,a8 b2,a8 b3,a8 b4,a8 n,a8 d1,a8 d2,a8 d3,a8 d4,a8 d5,a8 d6,a8 d7] c] =
 some (if uF ⟨⟨a,u32 (val [b1,b2,b3,b4]),n⟩,val [d1,d2,d3,d4,d5,d6,d7]⟩ then .tup [.agg [a8 a,bc (u32 (val [b1,b2,b3,b4])),a8 n,aI (val [d1,d2,d3,d4,d5,d6,d7])],aI 0] else .tup [.agg [a8 0,bc 0,a8 0,aI 0],aI 8]):=by
 refine ax rfl (by kernel_rfl) (HZ _ _ _ λg=>?_)
 have e:=KZ (a:=a) (n:=n) (b1:=b1) (b2:=b2) (b3:=b3) (b4:=b4) (d1:=d1) (d2:=d2) (d3:=d3) (d4:=d4) (d5:=d5) (d6:=d6) (d7:=d7) b
 have d:=Ip (l:=[d1,d2,d3,d4,d5,d6,d7]) (x := .bl 1 [a8 d1,a8 d2,a8 d3,a8 d4,a8 d5,a8 d6,a8 d7] (c.map (· - 6))) (Sl.Qp (Fu b (by simp))) (by simp)
 generalize val [b1,b2,b3,b4]=v at *
 generalize val [d1,d2,d3,d4,d5,d6,d7]=w at *
 cases h:uF ⟨⟨a,u32 v,n⟩,w⟩<;>simp[ak, *,CZ,bad]
end
section
noncomputable def rL:Code:=(Tryz.f55.body).getD .skip
def yu:Nat->Option (List Nat):=λi=>none
def yG:Nat->Bool:=λi=>false
def jv(g:Nat->AV)(B:AV)(H:ab)(Q:AV->ab->Prop):Prop:=
 gR H 2 60 λa z=>
 eG z 27 B 0 λG=>
 ae z 5 G λI=>
 ah 60 a 0 λF=>
 ao z 5 F I λJ d=>
 ew (ca env.P (ab.get d) 27 (some B) (oi (.v (.int .i64 1))) (some none) (some none)) λw=>
 ah 60 a 0 λD=>
 ae d 5 D λA=>
 sg 5 10 A λE=>
 br (some E) (
 ew (ca env.P (ab.get d) 27 (some w) (some none) (oi (.v (.int .i64 6))) (some none)) λo=>
 iq (aT a9 true (au a9) (dA a9 0) d (Ref.mk 0 16 (ab.gen d 0 16) 0) (some (.fn (.func 100) [] [])) [o]) λf n=>
 bm f 0 λb=>
 bm f 1 λe=>
 ah 60 a 2 λc=>
 ah 54 c 1 λm=>
 ao n 47 m b λh i=>
 eG i 27 w 6 λl=>
 ae i 5 l λk=>
 cE i 24 5 3 k λt=>
 ah 60 a 1 λj=>
 ao i 3 j t λx s=>
 ae s 60 a λp=>
 ao s 60 a p λy u=>
 bw u a 60 λq=>
 Q q u) (
 AO 5 10 A λo=>
 br (some o) (
 ew (ca env.P (ab.get d) 27 (some w) (some none) (oi (.v (.int .i64 2))) (some none)) λf=>
 iq (aT a9 true (au a9) (dA a9 0) d (Ref.mk 0 30 (ab.gen d 0 30) 0) (some (.fn (.func 61) [] [])) [f]) λb n=>
 ah 60 a 3 λe=>
 ao n 22 e b λc i=>
 ew (ca env.P (ab.get i) 27 (some w) (oi (.v (.int .i64 2))) (some none) (some none)) λm=>
 iq (aT a9 true (au a9) (dA a9 0) i (Ref.mk 0 35 (ab.gen i 0 35) 0) (some (.fn (.func 101) [] [])) [m]) λh s=>
 bm h 0 λl=>
 bm h 1 λk=>
 bm h 2 λt=>
 ah 60 a 2 λj=>
 ao s 54 j l λx u=>
 ae u 60 a λp=>
 ao u 60 a p λy C=>
 bw C a 60 λq=>
 Q q C) (
 uh 5 10 A λf=>
 br (some f) (
 ew (ca env.P (ab.get d) 27 (some w) (some none) (oi (.v (.int .i64 7))) (some none)) λb=>
 iq (aT a9 true (au a9) (dA a9 0) d (Ref.mk 0 45 (ab.gen d 0 45) 0) (some (.fn (.func 102) [] [])) [b]) λe n=>
 bm e 0 λc=>
 bm e 1 λm=>
 ah 60 a 4 λh=>
 ao n 58 h c λl i=>
 ae i 60 a λk=>
 ao i 60 a k λt s=>
 bw s a 60 λj=>
 Q j s) (
 ae d 60 a λb=>
 ao d 60 a b λe n=>
 bw n a 60 λc=>
 Q c n)))
theorem xW(a:AV)(H:ab)(Q:AV->ab->Prop)(h : ∀g,jv g a H Q):dZ a9 Tryz.f55 0 [.code rL] [(0,a)] H Q:=⟨λg=>pU (live:=yu) (cut:=yG) (n:=500) (Eq.mp (by kernel_rfl) (h g))⟩
noncomputable def te:Code:=(Tryz.f27.body).getD .skip
def zA:Nat->Option (List Nat):=λi=>none
def zK:Nat->Bool:=λi=>false
def oV(g:Nat->AV)(n:AV)(H:ab)(Q:AV->ab->Prop):Prop:=
 eX H 1 60 n λa m=>
 gR m 2 60 λf b=>
 ah 60 a 2 λo=>
 ae b 54 o λk=>
 iq (aT a9 true (au a9) (dA a9 0) b (Ref.mk 0 5 (ab.gen b 0 5) 0) (some (.fn (.func 42) [] [])) [k]) λh l=>
 ah 60 a 2 λi=>
 ao l 54 i h λp e=>
 ae e 60 a λj=>
 ao e 60 f j λq d=>
 bw d f 60 λc=>
 Q c d
theorem zj(a:AV)(H:ab)(Q:AV->ab->Prop)(h : ∀g,oV g a H Q):dZ a9 Tryz.f27 0 [.code te] [(0,a)] H Q:=⟨λg=>pU (live:=zA) (cut:=zK) (n:=500) (Eq.mp (by kernel_rfl) (h g))⟩
noncomputable def uI:Code:=(Tryz.f23.body).getD .skip
noncomputable def gU:=xv Tryz.f23 8
def uE:Nat->Option (List Nat):=λi=>cond (Nat.beq i 8) (some [29,5,27,2,3,0,28]) (none)
def uH:Nat->Bool:=λi=>false
def mQ(g:Nat->AV)(h:AV)(H:ab)(Q:AV->ab->Prop):Prop:=
 gR H 2 60 λa z=>
 gR z 3 69 λc d=>
 eR d 11 61 h λA=>
 wo 3 11 0 A λu=>
 br (some u) (
 ae d 60 a λm=>
 ae d 69 c λl=>
 ao d 60 a m λj p=>
 ao p 69 c l λt b=>
  oP [(c,a)] [a,c] [] b /\
 (bw b a 60 λi=>
 bw b c 69 λf=>
 Q (.tup [i,f,(.v (.int .i64 8))]) b)) (
 eG d 61 h 0 λm=>
 ae d 27 m λl=>
 Q9 d 19 l λj p=>
 bm j 0 λt=>
 bm j 1 λi=>
 ao p 69 c t λf b=>
 lf 22 22 0 i λk=>
 br (some k) (
 ae b 60 a λe=>
 fa 69 λq=>
 ao b 60 a e λw y=>
 ao y 69 c q λx s=>
 bw s a 60 λn=>
 bw s c 69 λo=>
 Q (.tup [n,o,i]) s) (
 eR b 28 61 h λe=>
  dZ a9 Tryz.f23 0 gU [(29,(.v (.int .i64 0))),(5,(.v (.slice none 0 0))),(27,h),(2,a),(3,c),(0,h),(28,e)] b Q))
theorem Au(a:AV)(H:ab)(Q:AV->ab->Prop)(h : ∀g,mQ g a H Q):dZ a9 Tryz.f23 0 [.code uI] [(0,a)] H Q:=⟨λg=>pU (live:=uE) (cut:=uH) (n:=500) (Eq.mp (by kernel_rfl) (h g))⟩
def cO(g:Nat->AV)(h x5 n a b M x28:AV)(H:ab)(Q:AV->ab->Prop):Prop:=
 kb 3 29 28 h x28 λN=>
 br (some N) (
 gf H 61 n h λK=>
 ae H 27 K λw=>
 eR H 36 27 w λp=>
 ew (cW env.P false (ab.get H) (Ref.mk 0 37 (ab.gen H 0 37) 0) .min #[3,3] [p,(.v (.int .i64 9))]) λu=>
 ew (ca env.P (ab.get H) 27 (some w) (oi u) (some none) (some none)) λt=>
 dg H 39 27 27 x5 t λq l=>
 kH 3 29 1 h λo=>
  dZ a9 Tryz.f23 0 gU [(29,o),(5,q),(27,n),(2,a),(3,b),(0,M),(28,x28)] l Q) (
 eR H 42 27 x5 λK=>
 uT 3 42 8 K λw=>
 br (some w) (
 ae H 60 a λp=>
 fa 69 λu=>
 ao H 60 a p λt l=>
 ao l 69 b u λq d=>
 bw d a 60 λo=>
 bw d b 69 λD=>
 Q (.tup [o,D,(.v (.int .i64 8))]) d) (
 iq (aT a9 true (au a9) (dA a9 0) H (Ref.mk 0 47 (ab.gen H 0 47) 0) (some (.fn (.func 55) [] [])) [x5]) λp l=>
 ao l 60 a p λu d=>
 ae d 60 a λt=>
 ah 69 b 0 λq=>
 ae d 3 q λo=>
 ah 69 b 1 λD=>
 ae d 3 D λy=>
 Ra d 54 t o y λm G=>
 bm m 0 λL=>
 bm m 1 λz=>
 lf 22 57 0 z λc=>
 gQ c false (cC L) λF=>
 gQ c false (cC M) λC=>
 gW c false G (aT a9 true (au a9) (dA a9 0) G (Ref.mk 0 62 (ab.gen G 0 62) 0) (some (.fn (.func 56) [] [])) [F,C,(.fn (.func 57) [] [])]) λE s=>
 gQ c false (xH E) λA=>
 fv c A λJ=>
 br (some J) (
 fa 60 λj=>
 fa 69 λf=>
 ao s 60 a j λB I=>
 ao I 69 b f λx e=>
 bw e a 60 λk=>
 bw e b 69 λi=>
 Q (.tup [k,i,(.v (.int .i64 8))]) e) (
 ae s 60 a λj=>
 ae s 69 b λf=>
 ao s 60 a j λB I=>
 ao I 69 b f λx e=>
  oP [(b,a)] [a,b] [] e /\
 (bw e a 60 λk=>
 bw e b 69 λi=>
 Q (.tup [k,i,(.v (.int .i64 0))]) e))))
theorem eI(a x5 b c d e x28:AV)(H:ab)(Q:AV->ab->Prop)(h : ∀g,cO g a x5 b c d e x28 H Q):dZ a9 Tryz.f23 0 gU [(29,a),(5,x5),(27,b),(2,c),(3,d),(0,e),(28,x28)] H Q:=sW λg=>pU (live:=uE) (cut:=uH) (n:=500) (Eq.mp (by kernel_rfl) (h g))
noncomputable def cM:Code:=(Tryz.f4.body).getD .skip
noncomputable def bL:=xv Tryz.f4 6
noncomputable def dk:=xv Tryz.f4 19
noncomputable def cr:=xv Tryz.f4 25
noncomputable def cm:=xv Tryz.f4 29
def cH:Nat->Option (List Nat):=λi=>cond (Nat.beq i 6) (some [13,4,12,5,11,6,3,2]) (cond (Nat.beq i 19) (some [31,30,4,12,28,18,5,11,29]) (cond (Nat.beq i 25) (some [36,28,18,4,12,5,11,30,29]) (cond (Nat.beq i 29) (some [37,18,4,12,5,11,30,29]) (none))))
def cL:Nat->Bool:=λi=>false
def cP(g:Nat->AV)(z s t u p:AV)(H:ab)(Q:AV->ab->Prop):Prop:=
 eX H 5 60 z λi x=>
 eX x 6 60 s λq a=>
 ah 60 i 2 λI=>
 ah 54 I 6 λF=>
 ae a 52 F λC=>
 eR a 41 52 C λB=>
 wq 3 41 1000 B λc=>
 gQ c false (an 60 q 2) λD=>
 gQ c false (an 54 D 6) λE=>
 gQ c false (aF a 52 E) λj=>
 gQ c false (Dv a 47 52 j) λl=>
 gQ c false (Dx 3 47 1000 l) λf=>
 fv c f λb=>
 gQ b false (cC p) λh=>
 gW b false a (aT a9 true (au a9) (dA a9 0) a (Ref.mk 0 52 (ab.gen a 0 52) 0) (some (.fn (.func 19) [] [])) [h]) λo e=>
 fv b o λm=>
 br (some m) (
 Q (.v (.bool true)) e) (
 ae e 60 i λn=>
 iq (aT a9 true (au a9) (dA a9 0) e (Ref.mk 0 55 (ab.gen e 0 55) 0) (some (.fn (.func 20) [] [])) [n]) λk w=>
 gR w 11 60 λd G=>
 ao G 60 d k λy A=>
  dZ a9 Tryz.f4 0 bL [(13,(.v (.int .i64 0))),(4,p),(12,(.v (.slice none 0 0))),(5,i),(11,d),(6,q),(3,u),(2,t)] A Q)
theorem dJ(d a e c b:AV)(H:ab)(Q:AV->ab->Prop)(h : ∀g,cP g d a e c b H Q):dZ a9 Tryz.f4 0 [.code cM] [(0,d),(1,a),(2,e),(3,c),(4,b)] H Q:=⟨λg=>pU (live:=cH) (cut:=cL) (n:=500) (Eq.mp (by kernel_rfl) (h g))⟩
def eZ(g:Nat->AV)(s G t x5 x11 x6 x3 W:AV)(H:ab)(Q:AV->ab->Prop):Prop:=
 eR H 58 61 G λv1=>
 kb 3 56 58 s v1 λv2=>
 br (some v2) (
 gf H 61 G s λv3=>
 ae H 27 v3 λM=>
 JF H 67 27 27 M λv5 D=>
 o7 D 68 61 1 0 v5 λv6 N=>
 dg N 69 61 61 t v6 λv7 H3=>
 kH 3 60 1 s λL=>
  dZ a9 Tryz.f4 0 bL [(13,L),(4,G),(12,v7),(5,x5),(11,x11),(6,x6),(3,x3),(2,W)] H3 Q) (
 ae H 60 x11 λv3=>
 Ra H 74 v3 W x3 λM D=>
 bm M 0 λv5=>
 bm M 1 λv6=>
 ae D 60 x5 λv7=>
 iq (aT a9 true (au a9) (dA a9 0) D (Ref.mk 0 81 (ab.gen D 0 81) 0) (some (.fn (.func 22) [] [])) [v7,W,x3]) λL N=>
 bm L 0 λv9=>
 bm L 1 λX=>
 iq (aT a9 true (au a9) (dA a9 0) N (Ref.mk 0 86 (ab.gen N 0 86) 0) (some (.fn (.func 23) [] [])) [t]) λy H3=>
 bm y 0 λZP=>
 bm y 1 λZ=>
 bm y 2 λU=>
 gR H3 18 60 λA H4=>
 gR H4 19 69 λK H5=>
 ao H5 60 A ZP λv17 H6=>
 ao H6 69 K Z λv18 H7=>
 iq (aT a9 true (au a9) (dA a9 0) H7 (Ref.mk 0 92 (ab.gen H7 0 92) 0) (some (.fn (.func 24) [] [])) [G]) λw H8=>
 bm w 0 λZY=>
 bm w 1 λO=>
 bm w 2 λZB=>
 gR H8 21 60 λI H9=>
 gR H9 22 69 λE ZW=>
 ao ZW 60 I ZY λv25 Zv=>
 ao Zv 69 E O λv26 z=>
 ae z 60 x11 λZ0=>
 iq (aT a9 true (au a9) (dA a9 0) z (Ref.mk 0 98 (ab.gen z 0 98) 0) (some (.fn (.func 25) [] [])) [Z0]) λF B=>
 bm F 0 λZH=>
 bm F 1 λY=>
 ae B 60 x5 λZR=>
 iq (aT a9 true (au a9) (dA a9 0) B (Ref.mk 0 103 (ab.gen B 0 103) 0) (some (.fn (.func 26) [] [])) [ZR]) λC x=>
 bm C 0 λS=>
 bm C 1 λZT=>
 ae x 60 x11 λZD=>
 iq (aT a9 true (au a9) (dA a9 0) x (Ref.mk 0 107 (ab.gen x 0 107) 0) (some (.fn (.func 27) [] [])) [ZD]) λZE Z4=>
 gR Z4 28 60 λq ZO=>
 ao ZO 60 q ZE λv38 J=>
 iq (aT a9 true (au a9) (dA a9 0) J (Ref.mk 0 110 (ab.gen J 0 110) 0) (some (.fn (.func 28) [] [])) [v5,v9]) λd o=>
 gQ d true (cC v6) λZ8=>
 gQ d true (cC X) λZM=>
 gQ d true (iI 3 112 113 Z8 ZM) λZX=>
 bM d ZX λc=>
 gQ c true (aF o 60 A) λZx=>
 gQ c true (aF o 60 I) λZC=>
 gW c true o (Q6 o 119 Zx ZC) λZA b=>
 bM c ZA λk=>
 gQ k true (aF b 69 K) λv48=>
 gQ k true (aF b 69 E) λZS=>
 gQ k true (iI 69 122 123 v48 ZS) λZU=>
 bM k ZU λl=>
 gQ l true (cC U) λT=>
 gQ l true (cC ZB) λZ2=>
 gQ l true (iI 3 127 128 T Z2) λZQ=>
 bM l ZQ λi=>
 gQ i true (cC ZH) λZN=>
 gQ i true (cC S) λZ6=>
 gQ i true (iI 3 132 133 ZN Z6) λZI=>
 bM i ZI λp=>
 gQ p true (cC Y) λZ9=>
 gQ p true (cC ZT) λZt=>
 gQ p true (iI 3 137 138 Z9 Zt) λZ5=>
 bM p Z5 λZJ=>
 ae b 60 x11 λZZ=>
 iq (aT a9 false (au a9) (dA a9 0) b (Ref.mk 0 142 (ab.gen b 0 142) 0) (some (.fn (.func 30) [] [])) [ZZ]) λZu u=>
 ae u 60 x5 λZw=>
 iq (aT a9 false (au a9) (dA a9 0) u (Ref.mk 0 144 (ab.gen u 0 144) 0) (some (.fn (.func 31) [] [])) [Zw]) λZ3 e=>
 ug 3 142 144 Zu Z3 λa=>
 gQ a true (aF e 60 x11) λZK=>
 gQ a true (aF e 60 x6) λv70=>
 gW a true e (Q8 e 149 ZK v70) λZ7 n=>
 gQ a true (aF n 60 x5) λZV=>
 gQ a true (aF n 60 x6) λV=>
 gW a true n (Q7 n 152 ZV V) λZL j=>
 gQ a true (iI 4 149 152 Z7 ZL) λZF=>
 bM a ZF λm=>
 gQ m true (aF j 60 x11) λZ1=>
 gQ m true (aF j 60 x5) λZy=>
 gW m true j (Q8 j 158 Z1 Zy) λP f=>
 bM m P λh=>
 gQ h true (aF f 60 q) λv81=>
 gQ h true (aF f 60 x5) λZG=>
 gW h true f (Q7 f 163 v81 ZG) λZs Zz=>
 bM h Zs λR=>
  dZ a9 Tryz.f4 0 dk [(31,(.v (.int .i64 0))),(30,R),(4,G),(12,t),(28,q),(18,A),(5,x5),(11,x11),(29,ZJ)] Zz Q)
theorem iU(a d b x5 x11 f e c:AV)(H:ab)(Q:AV->ab->Prop)(h : ∀g,eZ g a d b x5 x11 f e c H Q):dZ a9 Tryz.f4 0 bL [(13,a),(4,d),(12,b),(5,x5),(11,x11),(6,f),(3,e),(2,c)] H Q:=sW λg=>pU (live:=cH) (cut:=cL) (n:=500) (Eq.mp (by kernel_rfl) (h g))
def eP(g:Nat->AV)(b a j d x28 x18 x5 x11 e:AV)(H:ab)(Q:AV->ab->Prop):Prop:=
 eR H 167 61 j λC=>
 kb 3 165 167 b C λL=>
 br (some L) (
 gf H 61 d b λM=>
 ae H 27 M λJ=>
 Q9 H 176 J λz F=>
 bm z 0 λG=>
 bm z 1 λB=>
 gR F 32 69 λA D=>
 ao D 69 A G λN i=>
 gf i 61 j b λo=>
 ae i 27 o λt=>
 iq (aT a9 true (au a9) (dA a9 0) i (Ref.mk 0 184 (ab.gen i 0 184) 0) (some (.fn (.func 34) [] [])) [t]) λh E=>
 bm h 0 λp=>
 bm h 1 λl=>
 gR E 34 69 λf K=>
 ao K 69 f p λI s=>
 gQ a true (aF s 69 A) λw=>
 gQ a true (aF s 69 f) λq=>
 gQ a true (iI 69 189 190 w q) λy=>
 bM a y λc=>
 gQ c true (cC B) λk=>
 gQ c true (cC l) λu=>
 gQ c true (iI 3 194 195 k u) λm=>
 bM c m λx=>
 kH 3 169 1 b λn=>
  dZ a9 Tryz.f4 0 dk [(31,n),(30,x),(4,j),(12,d),(28,x28),(18,x18),(5,x5),(11,x11),(29,e)] s Q) (
  dZ a9 Tryz.f4 0 cr [(36,(.v (.int .i64 0))),(28,x28),(18,x18),(4,j),(12,d),(5,x5),(11,x11),(30,a),(29,e)] H Q)
theorem iQ(c a e d x28 x18 x5 x11 b:AV)(H:ab)(Q:AV->ab->Prop)(h : ∀g,eP g c a e d x28 x18 x5 x11 b H Q):dZ a9 Tryz.f4 0 dk [(31,c),(30,a),(4,e),(12,d),(28,x28),(18,x18),(5,x5),(11,x11),(29,b)] H Q:=sW λg=>pU (live:=cH) (cut:=cL) (n:=500) (Eq.mp (by kernel_rfl) (h g))
def eO(g:Nat->AV)(a x28 x18 m c x5 x11 d b:AV)(H:ab)(Q:AV->ab->Prop):Prop:=
 ah 60 x28 2 λo=>
 ah 54 o 6 λy=>
 ae H 52 y λz=>
 eR H 202 52 z λx=>
 kb 3 198 202 a x λs=>
 br (some s) (
 ah 60 x28 2 λq=>
 ah 54 q 6 λn=>
 ae H 52 n λt=>
 ah 60 x28 2 λw=>
 ah 54 w 6 λh=>
 ae H 52 h λj=>
 gf H 52 j a λe=>
 ae H 21 e λi=>
 QX 21 215 i λf=>
 gf H 52 t a λl=>
 ao H 21 l f λu p=>
 kH 3 204 1 a λk=>
  dZ a9 Tryz.f4 0 cr [(36,k),(28,x28),(18,x18),(4,m),(12,c),(5,x5),(11,x11),(30,d),(29,b)] p Q) (
  dZ a9 Tryz.f4 0 cm [(37,(.v (.int .i64 0))),(18,x18),(4,m),(12,c),(5,x5),(11,x11),(30,d),(29,b)] H Q)
theorem iP(c x28 x18 e d x5 x11 a b:AV)(H:ab)(Q:AV->ab->Prop)(h : ∀g,eO g c x28 x18 e d x5 x11 a b H Q):dZ a9 Tryz.f4 0 cr [(36,c),(28,x28),(18,x18),(4,e),(12,d),(5,x5),(11,x11),(30,a),(29,b)] H Q:=sW λg=>pU (live:=cH) (cut:=cL) (n:=500) (Eq.mp (by kernel_rfl) (h g))
def eN(g:Nat->AV)(b x18 s k x5 x11 m d:AV)(H:ab)(Q:AV->ab->Prop):Prop:=
 ah 60 x18 2 λt=>
 ah 54 t 6 λy=>
 ae H 52 y λz=>
 eR H 222 52 z λx=>
 kb 3 218 222 b x λv=>
 br (some v) (
 ah 60 x18 2 λn=>
 ah 54 n 6 λj=>
 ae H 52 j λo=>
 ah 60 x18 2 λp=>
 ah 54 p 6 λf=>
 ae H 52 f λa=>
 gf H 52 a b λc=>
 ae H 21 c λh=>
 QX 21 235 h λe=>
 gf H 52 o b λi=>
 ao H 21 i e λw l=>
 kH 3 224 1 b λq=>
  dZ a9 Tryz.f4 0 cm [(37,q),(18,x18),(4,s),(12,k),(5,x5),(11,x11),(30,m),(29,d)] l Q) (
 gQ d true (cC m) λn=>
 bM d n λj=>
 gQ j true (aF H 60 x11) λo=>
 gQ j true (aF H 60 x5) λp=>
 gW j true H (Q6 H 245 o p) λf l=>
 bM j f λa=>
 gQ a true (cC k) λc=>
 gQ a true (cC s) λh=>
 gW a true l (aT a9 true (au a9) (dA a9 0) l (Ref.mk 0 250 (ab.gen l 0 250) 0) (some (.fn (.func 28) [] [])) [c,h]) λe u=>
 bM a e λi=>
 Q i u)
theorem iO(c x18 e d x5 x11 a b:AV)(H:ab)(Q:AV->ab->Prop)(h : ∀g,eN g c x18 e d x5 x11 a b H Q):dZ a9 Tryz.f4 0 cm [(37,c),(18,x18),(4,e),(12,d),(5,x5),(11,x11),(30,a),(29,b)] H Q:=sW λg=>pU (live:=cH) (cut:=cL) (n:=500) (Eq.mp (by kernel_rfl) (h g))
end
section
attribute [local simp] bn aO aE aQ aP cy ld bp aG aU cZ cY aX bo ar bS fC
def pC(n:Int):Bool:=(decide (0<=n)&&decide (n<55296))||(decide (57343<n)&&decide (n<=1114111))
@[simp] theorem XU(n:Int):au env 153 [.v (.int .i32 n)]=some (aB (pC n)):=by
 refine ax rfl (by kernel_rfl) (qW _ _ _ λg=>?_)
 simp[ak, *,mc,pC]
 repeat' ((first | apply td<;>intro h | apply oN<;>intro h | apply oO<;>intro h | apply oL<;>intro h | apply oM<;>intro h)<;>(try simp only[decide_eq_true_eq,decide_eq_false_iff_not,gE,rn,aY,jh]at h)<;>(try simp[ak, *]))
 all_goals (try grind)
@[simp] theorem XS(n:Int):au env 152 [.v (.int .i32 n)]=some (aB (!fw n)):=by
 refine ax rfl (by kernel_rfl) (zf _ _ _ λg=>?_)
 by_cases h:n = -1
 ·subst h;simp[ak, *,oR,fw]
 ·simp[ak, *,oR,fw,pC]
def tV:List Int->Nat->Int
 | [],_ => -1
 | n :: l,k=>if fw n then tV l (k+1) else k
theorem IZ(l:List Int) : ∀k:Nat,(0<=tV l k↔l.all fw=false):=by
 induction l with
 | nil=>intro k;simp[tV]
 | cons n l b=>
  intro k
  unfold tV
  cases h:fw n with
  | true=>rw[if_pos rfl,b,tj,h,hU]
  | false=>simp[h]
theorem HT{n:AV}{Q:AV->ab->Prop}{l:List Int}(a:Sl 1 (rows l) n)(f:l.length<4611686018427387904) : ∀(s:List Int)(k:Nat)(i:Int)(H:ab),l.drop k=s->k<=l.length->i=k ->
 (∀y h,y=aI (tV s k)->Q y h) ->
 dZ env Tryz.f155 0 dh [(8,aI i),(0,n),(1,.fn (.func 152) [] []),(7,aI l.length)] H Q:=by
 intro s
 induction s with
 | nil=>
  rintro k i H hs hk rfl hQ
  obtain rfl:=drop_nil hs hk
  refine iN _ _ _ _ _ _ λg=>?_
  simp[ak, *,dm]
  all_goals exact hQ _ _ rfl
 | cons b s q=>
  rintro k i H hs hk rfl hQ
  obtain⟨p,u,c,o⟩:=drop_cons hs
  refine iN _ _ _ _ _ _ λg=>?_
  have t:=IntWalk.i64_in ((k:Int)+1) (by omega)
  cases j:fw b with
  | true=>
   simp[ak, *,dm,a.idx,rows,aR]
   exact q (k+1) _ _ c (by omega) (by simp) (λy h e=>hQ y h (by simp[e,tV,j]))
  | false=>
   simp[ak, *,dm,a.idx,rows,aR]
   exact hQ _ _ (by simp[tV,j])
theorem S6:bK env.P .eql 52 (.tmp 3) (.const (.slice none 0 0)) (some (.v (.slice none 0 0))) (some (.v (.slice none 0 0)))=some (aB true,[]):=by kernel_rfl
section
variable{x:AV}{l:List Int}(a:Sl 1 (rows l) x)(f:l.length<4611686018427387904)
include a f
theorem Iu:au env 155 [x,.fn (.func 152) [] []]=some (aI (tV l 0)):=by
 refine ax rfl (by kernel_rfl) (ny _ _ _ _ λg=>?_)
 have h:=a.len
 simp[ak, *,jb]
 exact HT a f l 0 _ _ rfl (by omega) rfl (λy b e=>by simp[e])
theorem Nk:au env 154 [x,.fn (.func 152) [] []]=some (aB (!l.all fw)):=by
 refine ax rfl (by kernel_rfl) (mh _ _ _ _ λg=>?_)
 have h:=Iu a f
 have e:decide (0<=tV l 0) = !l.all fw:=by
  have:=IZ l 0
  cases h:l.all fw<;>simp[h]at this ⊢ <;> omega
 simp[ak, *,il,a.r]
theorem zm:au env 140 [x]=some (aI (sP l)):=by
 refine ax rfl (by kernel_rfl) (Bw _ _ _ λg=>?_)
 have h:=Nk a f
 have c:=a.len
 by_cases b:64<l.length
 ·have:(64:Int)<l.length:=by omega
  simp[ak, *,qT,sP,a.r]
 ·have : ¬(64:Int)<l.length:=by omega
  cases e:l.all fw<;>simp[ak, *,qT,sP,a.r]
theorem DJ(i:l.length * 4<=140737488355328):au env 86 [x]=some (Fs x):=by
 refine ax rfl (by kernel_rfl) (oy _ _ _ λg=>?_)
 rcases a with ⟨rfl,h⟩ | ⟨c,rfl,j⟩
 ·have k:=S6
  simp[ak, *,eC]
 ·by_cases b:l=[]
  ·subst b
   simp[ak, *,eC,rows]
  ·have e:rows l≠[]:=by simpa using b
   have hp:0<l.length:=xO.2 b
   rw[Ee 1 c e]
   simp[ak, *,eC]
end
theorem Je{u p:AV}{Q:AV->ab->Prop}{l m:List Int}(a:Sl 1 (rows l) u)(d:Sl 1 (rows m) p)(f:l.length<4611686018427387904)(o:m.length=l.length) : ∀(s t:List Int)(k:Nat)(i:Int)(H:ab),l.drop k=s->m.drop k=t->k<=l.length->i=k ->
 (∀y j,y=aB (decide (s=t))->Q y j) ->
 dZ env Tryz.f88 0 dO [(13,aI i),(1,p),(0,u),(12,aI l.length)] H Q:=by
 intro s
 induction s with
 | nil=>
  rintro t k i H hs ht hk rfl hQ
  obtain rfl:=drop_nil hs hk
  rw[<-o,HC]at ht
  subst ht
  refine jl _ _ _ _ _ _ λg=>?_
  simp[ak, *,dR]
  all_goals exact hQ _ _ rfl
 | cons b s C=>
  rintro t k i H hs ht hk rfl hQ
  obtain⟨B,E,h,A⟩:=drop_cons hs
  cases t with
  | nil=>have:=congrArg List.length ht;simp at this;omega
  | cons c t=>
  obtain⟨w,z,n,v⟩:=drop_cons ht
  refine jl _ _ _ _ _ _ λg=>?_
  have D:=IntWalk.i64_in ((k:Int)+1) (by omega)
  by_cases q:b=c
  ·subst q
   simp[ak, *,dR,a.idx,d.idx,rows,aR]
   exact C t (k+1) _ _ h n (by omega) (by simp) (λy j e=>hQ y j (by simp[e]))
  ·simp[ak, *,dR,a.idx,d.idx,rows,aR]
   all_goals exact hQ _ _ (by simp[q])
theorem KX{u p:AV}{Q:AV->ab->Prop}{l m:List Int}(a:Sl 1 (rows l) u)(d:Sl 1 (rows m) p)(f:l.length<4611686018427387904)(o:m.length=l.length) : ∀(s t:List Int)(k:Nat)(i:Int)(H:ab),l.drop k=s->m.drop k=t->k<=l.length->i=k ->
 (∀y j,y=aB (decide (s=t))->Q y j) ->
 dZ env Tryz.f87 0 fX [(5,aI i),(1,p),(0,u)] H Q:=by
 intro s
 induction s with
 | nil=>
  rintro t k i H hs ht hk rfl hQ
  obtain rfl:=drop_nil hs hk
  rw[<-o,HC]at ht
  subst ht
  refine lY _ _ _ _ _ λg=>?_
  simp[ak, *,fZ,a.len]
  all_goals exact hQ _ _ rfl
 | cons b s C=>
  rintro t k i H hs ht hk rfl hQ
  obtain⟨B,E,h,A⟩:=drop_cons hs
  cases t with
  | nil=>have:=congrArg List.length ht;simp at this;omega
  | cons c t=>
  obtain⟨w,z,n,v⟩:=drop_cons ht
  refine lY _ _ _ _ _ λg=>?_
  have D:=IntWalk.i64_in ((k:Int)+1) (by omega)
  by_cases q:b=c
  ·subst q
   simp[ak, *,fZ,a.idx,d.idx,a.len,rows,aR]
   exact C t (k+1) _ _ h n (by omega) (by simp) (λy j e=>hQ y j (by simp[e]))
  ·simp[ak, *,fZ,a.idx,d.idx,a.len,rows,aR]
   all_goals exact hQ _ _ (by simp[q])
section
variable{x y:AV}{l m:List Int}(a:Sl 1 (rows l) x)(d:Sl 1 (rows m) y)(f:l.length<4611686018427387904)
include a d f
theorem K0:au env 88 [x,y]=some (aB (decide (l=m))):=by
 refine ax rfl (by kernel_rfl) (ox _ _ _ _ λg=>?_)
 have j:=a.len
 have k:=d.len
 by_cases h:m.length=l.length
 ·have c:(m.length:Int)=l.length:=by omega
  simp[ak, *,gr]
  exact Je a d f h l m 0 0 _ rfl rfl (by omega) rfl (λy n e=>by simp[e])
 ·have c : ¬(l.length:Int)=m.length:=by omega
  have i:l≠m:=λe=>h (by rw[e])
  have b : ¬(m.length:Int)=l.length:=by omega
  simp[ak, *,gr]
theorem MX:au env 87 [x,y]=some (aB (decide (l=m))):=by
 refine ax rfl (by kernel_rfl) (sI _ _ _ _ λg=>?_)
 have j:=a.len
 have k:=d.len
 by_cases h:m.length=l.length
 ·have c:(m.length:Int)=l.length:=by omega
  simp[ak, *,j7]
  exact KX a d f h l m 0 0 _ rfl rfl (by omega) rfl (λy n e=>by simp[e])
 ·have c : ¬(l.length:Int)=m.length:=by omega
  have i:l≠m:=λe=>h (by rw[e])
  have b : ¬(m.length:Int)=l.length:=by omega
  simp[ak, *,j7]
end
end
section
attribute [local simp] bn aO aE aQ aP cy ld bp aG aU cZ cY aX bo ar bS fC
def aH(l:List Int):List UInt8:=l.flatMap λn=>be 4 n
theorem kC(l:List Int):(aH l).length=4 * l.length:=by
 induction l with
 | nil=>rfl
 | cons n l a=>show(be 4 n++aH l).length=_;rw[gG,a,zO,ji];omega
theorem Lb{l:List Int}{p:AV}(q:Sl 1 (rows l) p)(T:l.length<100000)(I : ∀n∈l, -2147483648<=n/\n<=2147483647){Q:AV->ab->Prop} :
 ∀(s:List Int)(k:Nat)(i:Int)(a:List Int)(x5:AV)(H:ab),l.drop k=s->k<=l.length->i=k->a.length=k->Fr H->nx [32] 1 (al (aH a)) H x5->(a=[]->x5=bF) ->
 (∀y b,nx [32] 1 (al (aH (a++s))) b y->(a++s=[]->y=bF)->Q (.tup [y,aI 0]) b) ->
 dZ env Tryz.f118 0 nN [(15,aI i),(5,x5),(13,p),(14,aI l.length)] H Q:=by
 intro s
 induction s with
 | nil=>
  rintro k i a x5 H hs hk rfl ha hF hO hN hQ
  obtain rfl:=drop_nil hs hk
  refine ve _ _ _ _ _ _ λg=>?_
  have f:=hQ x5 H (by simpa using hO) (by simpa using hN)
  clear hQ hO hN
  simp[ak, *,nT,q.len]
  all_goals exact f
 | cons n s C=>
  rintro k i a x5 H hs hk rfl ha hF hO hN hQ
  obtain⟨K,G,w,x⟩:=drop_cons hs
  have D:=I n (by rw[<-G];exact gD _)
  have R:=IntWalk.i64_in ((k:Int)+1) (by omega)
  refine ve _ _ _ _ _ _ λg=>?_
  have N:cG (rows l) k 0 1 false=some (.v (.int .i32 n)):=by simp[rows,x,aR]
  have F:n.fdiv (2 ^ min 24 IntKind.i32.bits)=n / 16777216:=by rw[show(2:Int) ^ min 24 IntKind.i32.bits=16777216 from rfl];exact cK n 16777216
  have M:n.fdiv (2 ^ min 16 IntKind.i32.bits)=n / 65536:=by rw[show(2:Int) ^ min 16 IntKind.i32.bits=65536 from rfl];exact cK n 65536
  have S:n.fdiv (2 ^ min 8 IntKind.i32.bits)=n / 256:=by rw[show(2:Int) ^ min 8 IntKind.i32.bits=256 from rfl];exact cK n 256
  have u:=λz b=>C (k+1) ((k:Int)+1) (a++[n]) z b w (by omega) (by simp) (by simp;omega)
  have f : ∀y b,nx [32] 1 (al (aH ((a++[n])++s))) b y->((a++[n])++s=[]->y=bF)->Q (.tup [y,aI 0]) b:=λy b h D=>hQ y b (by simpa using h) (λe=>by simp at e)
  have o:=kC a
  have c:(al (aH a)).length=4 * a.length:=by rw[show(al (aH a)).length=(aH a).length from by simp,o]
  have j : ∀(g m:Nat)(b:ab),m=4 * a.length+4->b.get ⟨0,32,g,0⟩=some ⟨1,al (aH a)++[a8 (u8 (n / 16777216)),a8 (u8 (n / 65536)),a8 (u8 (n / 256)),a8 (u8 n)],true,false⟩->nx [32] 1 (al (aH (a++[n]))) b (.bD ⟨0,32,g,0⟩ 0 m none):=by
   intro g m b O h
   subst O
   have e:al (aH (a++[n]))=al (aH a)++[a8 (u8 (n / 16777216)),a8 (u8 (n / 65536)),a8 (u8 (n / 256)),a8 (u8 n)]:=by simp[aH,qP,al]
   rw[e]
   exact .inr ⟨32,g,by simp,by rw[gG,c];rfl,h⟩
  clear hQ hN C
  rcases hO with ⟨rfl,J⟩ | ⟨t,L,B,rfl,E⟩
  ·have A:a=[]:=by
    have:=congrArg List.length J
    rw[c]at this
    simp only[lV]at this
    exact uw (by omega)
   subst A
   have d:=j (H.gen 0 32) 4
   clear j
   simp[ak, *,nT,q.r,q.idx,dq,cK]
   exact u _ _ (by simp(maxDischargeDepth:=12) [ov, *]) (d _ rfl (by simp[aH])) (λe=>by simp at e) f
  ·rw[pT]at B
   subst B
   have P:(H.get ⟨0,32,L,0⟩).isSome=true:=by rw[E];rfl
   have U:ql 1 1 (al (aH a)).length true none (some ⟨1,al (aH a),true,false⟩) (some [a8 (u8 (n / 16777216)),a8 (u8 (n / 65536)),a8 (u8 (n / 256)),a8 (u8 n)]):=by
    rw[aG,c];refine⟨rfl,c.symm ▸ rfl,.inr ⟨?_,rfl⟩⟩;simp;omega
   have d:=λb=>j (H.gen 0 32) ((al (aH a)).length+4) b (by rw[c])
   clear j ha c o
   generalize al (aH a)=bs at *
   simp[ak, *,nT,q.r,q.idx,dq,cK]
   exact u _ _ (by simp(maxDischargeDepth:=12) [ov, *]) (d _ (by simp)) (λe=>by simp at e) f
theorem PN{l:List Int}{x:AV}(d:Sl 1 (rows l) x)(o:l.length<100000)(k : ∀n∈l, -2147483648<=n/\n<=2147483647):au env 118 [x]=some (if sP l=0 then .tup [iT 1 (al (aH l)),aI 0] else .tup [bF,aI (sP l)]):=by
 refine ax rfl (by kernel_rfl) (EL _ _ _ λg=>?_)
 have p:=zm d (by omega)
 have v:=d.len
 by_cases h:sP l=0
 ·rw[if_pos h]
  rw[h]at p
  have a:=λH Q=>Lb d o k (H:=H) (Q:=Q) l 0 0 [] bF rfl (by omega) rfl rfl
  have c : ∀y i,nx [32] 1 (al (aH ([]++l))) i y->([]++l=[]->y=bF)->view i.get 8 (.tup [y,aI 0])=some (.tup [iT 1 (al (aH l)),aI 0]):=by
   intro y i j b
   rw[pR]at j b
   rcases j with ⟨rfl,m⟩ | ⟨t,A,w,rfl,q⟩
   ·rw[m];simp[iT]
   ·have f:al (aH l)≠[]:=by
     intro e
     have s:=congrArg List.length e
     have z:=kC l
     have B:(al (aH l)).length=(aH l).length:=by simp
     simp only[lV]at s
     have:l=[]:=uw (by omega)
     cases b this
    rw[rC 1 f]
    generalize al (aH l)=bs at *
    simp[q]
  have run:=λH u=>a H (λx H=>view H.get 8 x=some (.tup [iT 1 (al (aH l)),aI 0])) u (.inl ⟨rfl,rfl⟩) (λ_=>rfl) c
  clear a c h
  generalize iT 1 (al (aH l))=yo at *
  simp[ak, *,tZ,d.r]
  all_goals exact run _ (by simp(maxDischargeDepth:=12) [R9, *])
 ·rw[if_neg h]
  simp[ak, *,tZ,d.r]
theorem Hs{P:Program}{t t':TypeId}(l:pK P t=true)(b:isInt P t'=true)(m:(gN P t).cells.all AV.one=true)(y:Bool)(H:ab)(r:Ref)(n:Int)(D:0<n)(A:n<=aX)(B:n.toNat * pw P t<=aX) :
 cS P y H r (some t) (some t') bF (aI n)=some (.bD r 0 n.toNat none,({ r with k:=0},some ⟨jf P t,List.replicate n.toNat (gN P t),true,false⟩) :: H):=by
 unfold pK at l
 obtain⟨e,zz,p,i,s,f,j,C,o,g⟩:=gk l
 have u:gN P t=zz:=by unfold gN;rw[p,dF,f];rfl
 rw[u]at m ⊢
 have c:(P.underlying t').isNone=false:=by
  unfold isInt at b
  cases h:P.underlying t' with
  | none=>rw[h]at b;cases b
  | some d=>rfl
 have v : ¬((P.underlying t').isNone=true\/isInt P t'≠isNum (aI n)):=by rw[c,b];simp[isNum]
 have x : ¬(jf P t≠jf P t\/jf P t=0\/pw P t=0\/zz.cells.length≠jf P t):=by simp[j,o,g]
 have a:kn P H.get e (aI n)=some (jf P t,List.replicate n.toNat zz):=by
  show(match ei P e,av P e with | some w,some z=>if 0<=n/\n<=aX/\w.cells.length=z/\w.cells.all AV.one then some (z,List.replicate n.toNat w) else none | _,_=>none)=_
  rw[f,i]
  exact if_pos ⟨by omega,A,by simp[j,o,g],m⟩
 have q:List.replicate n.toNat zz≠[]:=by
  intro h
  have:=congrArg List.length h
  simp only[zU,lV]at this
  omega
 simp only[cS,dy,dF,p,Option.map_some,bO,if_neg v,i,s,f,a,if_neg x,if_neg q,zU,if_pos B]
 rfl
@[simp] theorem U7(g:cf)(r:Ref):cW env.P false g r .cap #[27] [bF]=some (aI 0,[]):=by kernel_rfl
theorem Su(n:Int)(c:0<n)(h:n<1000000):au env 93 [bF,aI n]=some (.fsl 1 [] none):=by
 refine ax rfl (by kernel_rfl) (pZ _ _ _ _ λg=>?_)
 have i : ¬n<0:=by omega
 have j:=IntWalk.i64_in n (by omega)
 have e:IntKind.i64.wrap 0=0:=rfl
 have b:n<=140737488355328:=by omega
 have f:n.toNat<=140737488355328:=by omega
 have d:0<n.toNat:=by omega
 have a:=Hs (P:=env.P) (t:=27) (t':=3) (by simp) (by simp) (by simp) true [] ⟨0,22,0,0⟩ n c b (by simp;omega)
 simp[ak, *,k9, -a]
 refine tY a ?_
 simp
 all_goals omega
def iX(s:List (List UInt8 × AV)):List UInt8:=s.flatMap (·.1)
theorem LU{ps:List (List UInt8 × AV)}{y:AV}(n:Sl 1 (ps.map (·.2)) y)(hp : ∀p∈ps,Sl 1 (al p.1) p.2)(L:ps.length<100000)(M:(iX ps).length<1000000){Q:AV->ab->Prop} :
 ∀(s:List (List UInt8 × AV)) (k:Nat) (i:Int) (acc:List UInt8) (m:Nat) (H:ab),ps.drop k=s->k<=ps.length->i=k->acc.length+(iX s).length=(iX ps).length->Fr H->H.get ⟨0,24,m,0⟩=some ⟨1,al acc,true,false⟩ ->
 (∀g e,e.get ⟨0,24,g,0⟩=some ⟨1,al (acc++iX s),true,false⟩->Q (.bD ⟨0,24,g,0⟩ 0 (acc++iX s).length none) e) ->
 dZ env Tryz.f49 0 cJ [(27,aI i),(6,.bD ⟨0,24,m,0⟩ 0 acc.length none),(25,y),(26,aI ps.length)] H Q:=by
 intro s
 induction s with
 | nil=>
  rintro k i acc m H hs hk rfl ha hF hr hQ
  obtain rfl:=drop_nil hs hk
  refine jm _ _ _ _ _ _ λg=>?_
  have c:=hQ m H (by simpa [iX] using hr)
  simp only[iX,y8,pQ]at c
  clear hQ hr
  simp[ak, *,dS]
  all_goals exact c
 | cons p s z=>
  rintro k i acc m H hs hk rfl ha hF hr hQ
  obtain⟨E,D,o,q⟩:=drop_cons hs
  have d:=hp p (by rw[<-D];exact gD _)
  obtain⟨b,x⟩:=p
  simp only at d
  have K:=IntWalk.i64_in ((k:Int)+1) (by omega)
  have u:iX ((b,x) :: s)=b++iX s:=rfl
  rw[u]at ha hQ
  rw[gG]at ha
  have G:cG (ps.map (·.2)) k 0 1 false=some x:=by simp[q,d.r]
  have I:(ps.map (·.2)).length=ps.length:=by simp
  have j:(al b).length=b.length:=by simp
  have l:(al acc).length=acc.length:=by simp
  have J:(H.get ⟨0,24,m,0⟩).isSome=true:=by rw[hr];rfl
  have f:=λg e=>z (k+1) ((k:Int)+1) (acc++b) g e o (by omega) (by simp) (by simp;omega)
  have c : ∀g e,e.get ⟨0,24,g,0⟩=some ⟨1,al ((acc++b)++iX s),true,false⟩->Q (.bD ⟨0,24,g,0⟩ 0 ((acc++b)++iX s).length none) e:=λg e h=>by
   have:=hQ g e (by rw[<-pS];exact h)
   rw[<-pS]at this
   exact this
  clear hQ z hp hs
  refine jm _ _ _ _ _ _ λg=>?_
  have F:=d.kq
  by_cases w:b=[]
  ·subst w
   have a:=f m H hF
   simp only[pQ]at a c
   have t:=a hr c
   clear a f c
   simp[ak, *,dS,n.r,n.idx,d.r,d.kq]
  ·have C:al b≠[]:=by simpa using w
   have N:ql 1 1 acc.length true none (some ⟨1,al acc,true,false⟩) (some (al b)):=by
    rw[aG,j,l];exact⟨rfl,rfl,.inr ⟨by simp;omega,rfl⟩⟩
   have a:=f (H.gen 0 24)
   have v:al (acc++b)=al acc++al b:=xd ..
   rw[v]at a
   rw[show(acc++b).length=(al acc).length+(al b).length by rw[j,l,gG]]at a
   clear f j l ha v
   generalize al acc=A at *
   generalize al b=B at *
   simp[ak, *,dS,n.r,n.idx,d.r,d.kq]
   exact a _ (by simp(maxDischargeDepth:=12) [ov, *]) (by simp) c
theorem LV{ps:List (List UInt8 × AV)}{e:AV}(l:Sl 1 (ps.map (·.2)) e)(hp : ∀p∈ps,Sl 1 (al p.1) p.2)(D:ps.length<100000)(E:(iX ps).length<1000000)(F:0<(iX ps).length){H:ab}{Q:AV->ab->Prop}
 (a : ∀j,Fr j->j.get ⟨0,24,H.gen 0 24,0⟩=some ⟨1,[],true,false⟩->dZ env Tryz.f49 0 cJ [(27,aI 0),(6,.bD ⟨0,24,H.gen 0 24,0⟩ 0 0 none),(25,e),(26,aI ps.length)] j Q) :
 ∀(s:List (List UInt8 × AV)) (k:Nat) (i n:Int),ps.drop k=s->k<=ps.length->i=k->0<=n->n+(iX s).length=(iX ps).length->Fr H ->
 dZ env Tryz.f49 0 cX [(11,aI i),(3,aI n),(9,e),(0,e),(10,aI ps.length)] H Q:=by
 intro s
 induction s with
 | nil=>
  rintro k i n hs hk rfl hn0 hn hF
  obtain rfl:=drop_nil hs hk
  refine jJ _ _ _ _ _ _ _ λg=>?_
  have m:n=(iX ps).length:=by simpa [iX] using hn
  have B:=Su n (by omega) (by omega)
  have q:(ps.map (·.2)).length=ps.length:=by simp
  clear m hn hp
  simp[ak, *,fU,l.r]
  exact a _ (by simp(maxDischargeDepth:=12) [ov, *]) (by simp)
 | cons p s u=>
  rintro k i n hs hk rfl hn0 hn hF
  obtain⟨y,w,f,h⟩:=drop_cons hs
  have c:=hp p (by rw[<-w];exact gD _)
  obtain⟨b,x⟩:=p
  simp only at c
  have o:iX ((b,x) :: s)=b++iX s:=rfl
  rw[o,gG]at hn
  have A:=IntWalk.i64_in ((k:Int)+1) (by omega)
  have C:=IntWalk.i64_in (n+(b.length:Int)) (by omega)
  have z:cG (ps.map (·.2)) k 0 1 false=some x:=by simp[h,c.r]
  have q:(ps.map (·.2)).length=ps.length:=by simp
  have v:(al b).length=b.length:=by simp
  have t : ¬n+(b.length:Int)<0:=by omega
  have d:=u (k+1) ((k:Int)+1) (n+(b.length:Int)) f (by omega) (by simp) (by omega) (by omega) hF
  refine jJ _ _ _ _ _ _ _ λg=>?_
  clear u a hp hs hn
  simp[ak, *,fU,l.r,l.idx,c.r]
  all_goals exact d
theorem BZ{ps:List (List UInt8 × AV)}{k:AV}(c:Sl 1 (ps.map (·.2)) k)(hp : ∀p∈ps,Sl 1 (al p.1) p.2)(i:ps.length<100000)(j:(iX ps).length<1000000)(o:0<(iX ps).length):au env 49 [k]=some (.fsl 1 (al (iX ps)) none):=by
 refine ax rfl (by kernel_rfl) (pd _ _ _ λg=>?_)
 have s:(ps.map (·.2)).length=ps.length:=by simp
 have l:=c.len
 have h:(al (iX ps)).length=(iX ps).length:=by simp
 have m:=λd Q e f=>LU c hp i j (Q:=Q) ps 0 0 [] 0 d rfl (by omega) rfl (by simp) e f
 have q:=λQ a=>LV c hp i j o (H:=[]) (Q:=Q) a ps 0 0 0 rfl (by omega) rfl (by omega) (by omega) Fr.nil
 clear hp
 simp[ak, *,kr,c.r]
 refine q _ λd e f=>m d _ e f λt n b=>?_
 rw[pR]at b ⊢
 rw[<-h]
 generalize al (iX ps)=B at *
 simp[b]
end
end Go.Proofs.YtehkjjcdkbcebaaGreat
