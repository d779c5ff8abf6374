/-
  What is to be shown of each function, computed from its code. No statement of a seat is proved here.
-/
import Derived.Test.YtehkjjcdkbcebaaGreatMMnVc5
set_option linter.unusedVariables false
set_option linter.unusedSimpArgs false
set_option linter.unusedSectionVars false
set_option linter.unnecessarySimpa false
set_option maxRecDepth 1000000
set_option linter.defProp false
noncomputable section
namespace Go.Proofs.YtehkjjcdkbcebaaGreat
open Go.Ab
section
variable(dep:Nat)(g:Nat->AV)(c b a:AV)(H:ab)(Q:AV->ab->Prop)
def kF:=yr Tryz.f11 3
def Au:Nat->Option (List Nat):=λi=>cond (Nat.beq i 3) (some [12,1,10,2,11]) (none)
def rD:Prop:=
 gr H 1 26 c λd j=>
 fO j 2 26 λp H2=>
 aj 26 d 8 λn=>
 af H2 24 n λo=>
 bC true H2 7 41 [o] λi m=>
 aj 26 d 8 λk=>
 bH m 24 k i λq e=>
 aj 26 d 8 λl=>
 af e 24 l λh=>
 er e 11 24 h λf=>
  bL env Tryz.f11 0 kF [(12,(.v (.int .i64 0))),(1,d),(10,h),(2,p),(11,f)] e Q
theorem GZ(h : ∀g:iv,rD c H Q):ia Tryz.f11 0 [(0,c)] H Q:=zR Au (by kernel_rfl) h
def kM(g:Nat->AV)(d b e a f:AV)(H:ab)(Q:AV->ab->Prop):Prop:=
 kn 3 12 11 d f λq=>
 br (some q) (
 fJ H 24 e d λl=>
 af H 54 l λn=>
 fO H 4 54 λi h=>
 bH h 54 i n λw H2=>
 aj 26 b 8 λt=>
 af H2 24 t λp=>
 af H2 54 i λv=>
 bC false H2 21 42 [v] λs m=>
 fJ m 24 p d λj=>
 bH m 54 j s λu o=>
 lf 3 12 1 d λk=>
  bL env Tryz.f11 0 kF [(12,k),(1,b),(10,e),(2,a),(11,f)] o Q) (
 af H 26 b λl=>
 bH H 26 a l λn h=>
 eO h a 26 λi=>
 Q i h)
theorem mB(f b d a e:AV)(H:ab)(Q:AV->ab->Prop)(h : ∀g,kM g f b d a e H Q):bL env Tryz.f11 0 kF [(12,f),(1,b),(10,d),(2,a),(11,e)] H Q:=y8 Au (by kernel_rfl) h
def tz:Code:=(Tryz.f18.body).getD .skip
def eF:=yr Tryz.f18 2
def fX:=yr Tryz.f18 5
def j5:Nat->Option (List Nat):=λi=>cond (Nat.beq i 2) (some [2,1]) (cond (Nat.beq i 5) (some [3,2,1]) (none))
def oc:Prop:=
 jF (kj H (⟨(dep+1),1,ab.gen H (dep+1) 1,0⟩:Ref) (Fp env.P (⟨(dep+1),1,ab.gen H (dep+1) 1,0⟩:Ref) 26 (some c))) λe d=>
  bL env Tryz.f18 (dep+1) eF [(2,(.v (.int .i64 0))),(1,e)] d Q
theorem ti(h : ∀g:iv,oc dep c H Q):ia Tryz.f18 (dep+1) [(0,c)] H Q:=zR j5 (by kernel_rfl) h
def jn(dep:Nat)(g:Nat->AV)(a b:AV)(H:ab)(Q:AV->ab->Prop):Prop:=
 aj 26 b 8 λd=>
 af H 24 d λh=>
 FC H dep 7 24 h λf=>
 kn 3 4 7 a f λe=>
 br (some e) (
  bL env Tryz.f18 (dep+1) fX [(3,(.v (.int .i64 0))),(2,a),(1,b)] H Q) (
 Q (.v (.tuple #[])) H)
theorem mN(dep:Nat)(a b:AV)(H:ab)(Q:AV->ab->Prop)(h : ∀g,jn dep g a b H Q):bL env Tryz.f18 (dep+1) eF [(2,a),(1,b)] H Q:=y8 j5 (by kernel_rfl) h
def jm(dep:Nat)(g:Nat->AV)(x3 a b:AV)(H:ab)(Q:AV->ab->Prop):Prop:=
 aj 26 b 8 λw=>
 af H 24 w λD=>
 fJ H 24 D a λx=>
 aj 54 x 6 λC=>
 af H 52 C λA=>
 FC H dep 18 52 A λB=>
 kn 3 11 18 x3 B λy=>
 br (some y) (
 aj 26 b 8 λm=>
 af H 24 m λq=>
 fJ H 24 q a λe=>
 aj 54 e 6 λd=>
 af H 52 d λh=>
 aj 26 b 8 λf=>
 af H 24 f λu=>
 fJ H 24 u a λk=>
 aj 54 k 6 λi=>
 af H 52 i λp=>
 fJ H 52 p x3 λo=>
 af H 21 o λn=>
 fg (bE env.P .add 21 (Operand.tmp 37) (.const (.int .i32 1)) (some n) (some (.v (.int .i32 1)))) λj=>
 fJ H 52 h x3 λt=>
 bH H 21 t j λz s=>
 lf 3 20 1 x3 λl=>
  bL env Tryz.f18 (dep+1) fX [(3,l),(2,a),(1,b)] s Q) (
 aj 26 b 8 λm=>
 af H 24 m λq=>
 fJ H 24 q a λe=>
 aj 54 e 2 λd=>
 jF (iu env.P H 3 (some d) (some (.v (.int .i64 (-7))))) λh s=>
 lf 3 9 1 a λf=>
  bL env Tryz.f18 (dep+1) eF [(2,f),(1,b)] s Q)
theorem mM(dep:Nat)(x3 a b:AV)(H:ab)(Q:AV->ab->Prop)(h : ∀g,jm dep g x3 a b H Q):bL env Tryz.f18 (dep+1) fX [(3,x3),(2,a),(1,b)] H Q:=y8 j5 (by kernel_rfl) h
def dL:Prop:=
 gr H 3 26 c λs H1=>
 gr H1 4 26 b λv2 H2=>
 af H2 26 s λv3=>
 bC true H2 21 5 [v3] λv4 X=>
 gQ v4 false (aW X 26 v2) λv5=>
 gW v4 false X (jo true X 24 5 [v5]) λv6 R=>
 cI v4 v6 λP=>
 gQ P false (cf a) λv8=>
 gQ P false (vW R 28 27 v8) λv9=>
 gQ P false (zG 3 28 3000 v9) λv10=>
 cI P v10 λv11=>
 br (some v11) (
 Q (.v (.bool true)) R) (
 af R 26 s λv12=>
 bC true R 32 6 [v12] λv13 H5=>
 fO H5 7 26 λd H6=>
 bH H6 26 d v13 λv15 H7=>
 Mm H7 34 27 27 a λK H8=>
 af H8 26 d λv17=>
 bC true H8 37 7 [v17] λI H9=>
 ep I 0 λv19=>
 ep I 1 λZ=>
 af H9 26 s λv21=>
 bC true H9 42 8 [v21] λM H10=>
 ep M 0 λv23=>
 ep M 1 λv24=>
 bC true H10 47 9 [K] λG H11=>
 ep G 0 λv26=>
 ep G 1 λv27=>
 fO H11 13 26 λB H12=>
 bH H12 26 B v26 λv29 H13=>
 bC true H13 52 10 [a] λF H14=>
 ep F 0 λv31=>
 ep F 1 λv32=>
 fO H14 15 26 λN H15=>
 bH H15 26 N v31 λv34 L=>
 af L 26 d λv35=>
 bC true L 56 11 [v35] λv36 H17=>
 fO H17 17 26 λy H18=>
 bH H18 26 y v36 λv38 e=>
 fN e 58 27 9 v19 λv39=>
 fN e 60 27 9 v23 λv40=>
 tI 9 58 60 v39 v40 λl=>
 gQ l true (cf Z) λv42=>
 gQ l true (cf v24) λv43=>
 gQ l true (iA 3 63 64 v42 v43) λv44=>
 dy l v44 λn=>
 gQ n true (aW e 26 B) λv46=>
 gQ n true (aW e 26 N) λv47=>
 gW n true e (jo false e 70 12 [v46,v47]) λv48 C=>
 dy n v48 λk=>
 gQ k true (cf v27) λv50=>
 gQ k true (cf v32) λv51=>
 gQ k true (iA 3 73 74 v50 v51) λv52=>
 dy k v52 λf=>
 gQ f true (aW C 26 d) λv54=>
 gW f true C (jo false C 79 13 [v54]) λv55 u=>
 gQ f true (aW u 26 s) λv56=>
 gW f true u (jo false u 81 14 [v56]) λv57 A=>
 gQ f true (iA 3 79 81 v55 v57) λV=>
 dy f V λh=>
 gQ h true (aW A 26 d) λv60=>
 gW h true A (jo false A 86 15 [v60]) λU D=>
 gQ h true (aW D 26 s) λv62=>
 gW h true D (jo false D 88 16 [v62]) λv63 x=>
 gQ h true (iA 4 86 88 U v63) λv64=>
 dy h v64 λO=>
 af x 26 d λv66=>
 af x 26 v2 λv67=>
 bC false x 93 17 [v66,v67] λv68 w=>
 af w 26 s λv69=>
 af w 26 v2 λS=>
 bC false w 96 12 [v69,S] λv71 m=>
 tI 4 93 96 v68 v71 λp=>
 gQ p true (aW m 26 d) λY=>
 gQ p true (aW m 26 s) λv74=>
 gW p true m (jo false m 101 17 [Y,v74]) λv75 o=>
 dy p v75 λt=>
 gQ t true (aW o 26 y) λv77=>
 gQ t true (aW o 26 s) λv78=>
 gW t true o (jo false o 106 12 [v77,v78]) λv79 J=>
 dy t v79 λv80=>
 af J 26 y λW=>
 bC true J 109 18 [W] λv82 E=>
 af E 26 B λv83=>
 bC true E 111 18 [v83] λv84 j=>
 gQ O true (cf v80) λv85=>
 dy O v85 λq=>
 gQ q true (aW j 26 d) λv87=>
 gQ q true (aW j 26 s) λv88=>
 gW q true j (jo true j 119 12 [v87,v88]) λv89 z=>
 dy q v89 λi=>
 gQ i true (cf K) λv91=>
 gQ i true (tJ z 123 27 9 v91) λv92=>
 gQ i true (cf a) λT=>
 gQ i true (tJ z 125 27 9 T) λv94=>
 gQ i true (iA 9 123 125 v92 v94) λv95=>
 dy i v95 λv96=>
 Q v96 z)
theorem fc(h : ∀g:iv,dL c b a H Q):ia Tryz.f3 0 [(0,c),(1,b),(2,a)] H Q:=me (by kernel_rfl) h
end
section
attribute [local simp] a7 aL au aJ aH bF kV bc aA aN cw cu aY ba ah bG fG
@[simp] def ZS(a:UInt8)(b:UInt32):aK env 136 [.agg [a8 a,cH b]]=some (aI (bad (decide (a<=15)))):=by
 refine bo rfl (by kernel_rfl) (DL _ _ _ λg=>?_);simp[ak, *,xO];repeat' ((first | apply Cy<;>intro h | apply xG<;>intro h | apply xH<;>intro h | apply xE<;>intro h | apply xF<;>intro h)<;>(try simp only[iQb,iQd,jH,zJ,bD,lI]at h)<;>(try simp[ak, *]))
 all_goals (try grind [bad])
@[simp] def abW(b:Bool):aK env 135 [aB b]=some (aI (bad b)):=by
 refine bo rfl (by kernel_rfl) (G1 _ _ _ λg=>?_);cases b<;>simp[ak, *,AW,bad]
@[simp] def SN(a:UInt8)(b:UInt32)(n:UInt8):aK env 114 [.agg [a8 a,cH b,a8 n]]=some (aI (bad (jt ⟨a,b,n⟩))):=by
 refine bo rfl (by kernel_rfl) (yZ _ _ _ λg=>?_);simp[ak, *,so,jt];repeat' ((first | apply Cy<;>intro h | apply xG<;>intro h | apply xH<;>intro h | apply xE<;>intro h | apply xF<;>intro h)<;>(try simp only[iQb,iQd,jH,zJ,bD,lI]at h)<;>(try simp[ak, *]))
@[simp] def ZT(a:UInt8)(b:UInt32)(n:UInt8)(k:Int):aK env 139 [.agg [a8 a,cH b,a8 n,aI k]]=some (aI (bad (wB ⟨⟨a,b,n⟩,k⟩))):=by
 refine bo rfl (by kernel_rfl) (G2 _ _ _ λg=>?_);simp[ak, *,AX,wB];repeat' ((first | apply Cy<;>intro h | apply xG<;>intro h | apply xH<;>intro h | apply xE<;>intro h | apply xF<;>intro h)<;>(try simp only[iQb,iQd,jH,zJ,bD,lI]at h)<;>(try simp[ak, *]))
@[simp] def Ve(a:UInt8)(b:UInt32)(n:UInt8)(k m:Int):aK env 137 [.agg [a8 a,cH b,a8 n,aI k,aI m]]=some (aI (bad (mg ⟨⟨⟨a,b,n⟩,k⟩,m⟩))):=by
 refine bo rfl (by kernel_rfl) (Bo _ _ _ λg=>?_);cases c:wB ⟨⟨a,b,n⟩,k⟩ with
 | false=>simp[ak, *,kN,mg]
 | true=>
  have d:=F9 c;simp only at d;by_cases e:1<=m
  ·by_cases i:m<=64;·have h:=iQa (k+m) (by omega);have f:=iQa (k+m - 1) (by omega);simp[ak, *,kN,mg]
   simp[ak, *,kN,mg]
  simp[ak, *,kN,mg]
end
end Go.Proofs.YtehkjjcdkbcebaaGreat
namespace Go.Ab
def NI.enc(h:NI):List AV:=[a8 h.lv,cH h.cats,a8 h.num]
def wS.enc(i:wS):List AV:=[a8 i.h.lv,cH i.h.cats,a8 i.h.num,aI i.n]
def XT.enc(s:XT):List AV:=[a8 s.f.h.lv,cH s.f.h.cats,a8 s.f.h.num,aI s.f.n,aI s.many]
end Go.Ab
namespace Go.Proofs.YtehkjjcdkbcebaaGreat
open Go.Ab Go.ChangeShapes Go.WideShapes Go.RowKit
def MI:Pk env.P 45 (λ_=>True) (λp:UInt8 × UInt32=>[a8 p.1,cH p.2]):=by
 intro n c h;have h:=rG (P:=env.P) JG h;obtain⟨m,x,r,rfl,a,y,r',rfl,b,rfl⟩:=h;obtain⟨v,_,rfl⟩:=FP (P:=env.P) (t:=5) (by simp) _ _ a;obtain⟨w,_,rfl⟩:=Wu (P:=env.P) (t:=43) (by simp) _ _ b;exact⟨(v,w),trivial,rfl⟩
def MK:Pk env.P 47 (λ_=>True) NI.enc:=by
 intro n c h;have h:=rG (P:=env.P) JF h;obtain⟨m,x,r,rfl,a,y,r',rfl,b,rfl⟩:=h;obtain⟨p,_,rfl⟩:=MI _ _ a;obtain⟨w,_,rfl⟩:=FP (P:=env.P) (t:=5) (by simp) _ _ b;exact⟨⟨p.1,p.2,w⟩,trivial,rfl⟩
def MJ:Pk env.P 49 (λ_=>True) wS.enc:=by
 intro n c h;have h:=rG (P:=env.P) JE h;obtain⟨m,x,r,rfl,a,y,r',rfl,b,rfl⟩:=h;obtain⟨p,_,rfl⟩:=MK _ _ a;obtain⟨i,_,rfl⟩:=rk (P:=env.P) (t:=3) (by simp) _ _ b;exact⟨⟨p,i⟩,trivial,rfl⟩
def TL:Pk env.P 51 (λ_=>True) XT.enc:=by
 intro n c h;have h:=rG (P:=env.P) JD h;obtain⟨m,x,r,rfl,a,y,r',rfl,b,rfl⟩:=h;obtain⟨p,_,rfl⟩:=MJ _ _ a;obtain⟨i,_,rfl⟩:=rk (P:=env.P) (t:=3) (by simp) _ _ b;exact⟨⟨p,i⟩,trivial,rfl⟩
def Qb{n:Nat}{b:List AV}(h:zE env.P n 52 b) : ∃(l:List Int) (x:AV),(∀a∈l, -2147483648<=a/\a<=2147483647)/\b=[x]/\Sl 1 (rows l) x:=by
 obtain⟨l,x,c,rfl,s⟩:=DZ (P:=env.P) P0 PY Tl (TJ (by simp)) h;exact⟨l,x,c,rfl,s⟩
def aaV(p:bp × AV):List AV:=[a8 p.1.kind,a8 p.1.h.lv,cH p.1.h.cats,a8 p.1.h.num,aI p.1.serial,a8 p.1.s.f.h.lv,cH p.1.s.f.h.cats,a8 p.1.s.f.h.num,aI p.1.s.f.n,aI p.1.s.many,
 a8 p.1.a.h.lv,cH p.1.a.h.cats,a8 p.1.a.h.num,aI p.1.a.n,a8 p.1.to.lv,cH p.1.to.cats,p.2]
def QG:Pk env.P 54 (λp:bp × AV=>Sl 1 (rows p.1.l) p.2 /\∀a∈p.1.l, -2147483648<=a/\a<=2147483647) aaV:=by
 intro n v h;have h:=rG (P:=env.P) JC h;obtain⟨m,C,r1,rfl,i,u,r2,rfl,o,x3,r3,rfl,e,z,x,rfl,g,w,r5,rfl,j,B,D,rfl,b,A,r7,rfl,c,rfl⟩:=h;obtain⟨k,_,rfl⟩:=FP (P:=env.P) (t:=5) (by simp) _ _ i;obtain⟨q,_,rfl⟩:=MK _ _ o;obtain⟨d,_,rfl⟩:=rk (P:=env.P) (t:=3) (by simp) _ _ e;obtain⟨s,_,rfl⟩:=TL _ _ g;obtain⟨a,_,rfl⟩:=MJ _ _ j;obtain⟨t,_,rfl⟩:=MI _ _ b;obtain⟨l,y,f,rfl,sl⟩:=Qb c;exact⟨(⟨k,q,d,s,a,⟨t.1,t.2⟩,l⟩,y),⟨sl,f⟩,rfl⟩
def Qd{n:Nat}{x:AV}(h:Pv env.P n 27 x) : ∃l:List UInt8,Sl 1 (aQ l) x:=by
 obtain⟨l,a,e,s⟩:=Qc (P:=env.P) P1 (by simp) Tb Wk (h.cell (by simp));cases e;exact⟨l,s⟩
def own:ownKnob Tryz.prog.godebug=none:=by kernel_rfl
def kids:Kids Tryz.prog (· < Tryz.prog.types.size):=kids_rows (by kernel_rfl) (by kernel_rfl)
end Go.Proofs.YtehkjjcdkbcebaaGreat
namespace Go.Proofs.YtehkjjcdkbcebaaGreat
open Go.Ab
section
attribute [local simp] a7 aL au aJ aH bF kV bc aA aN cw cu aY ba ah bG fG
@[simp] def Yc(n:Int)(c:0<=n):aK env 115 [aI n,aI 4]=some (.cC 1 (aQ (be 4 n)) none):=by
 refine bo rfl (by kernel_rfl) (yC _ _ _ _ λg=>?_);have a:IntKind.i64.wrap (-1) = -1:=rfl;have b:IntKind.i64.wrap 0=0:=rfl;simp[ak, *,tE];refine cS _ _ _ _ _ λg=>?_;simp[ak, *,cJ,gM,fv];refine cS _ _ _ _ _ λg=>?_;simp[ak, *,cJ,gM,fv];refine cS _ _ _ _ _ λg=>?_;simp[ak, *,cJ,gM,fv];refine cS _ _ _ _ _ λg=>?_;simp[ak, *,cJ,gM,fv];refine cS _ _ _ _ _ λg=>?_;simp[ak, *,cJ,wP,aQ]
@[simp] def N0(n:Int)(c:0<=n):aK env 115 [aI n,aI 7]=some (.cC 1 (aQ (be 7 n)) none):=by
 refine bo rfl (by kernel_rfl) (yC _ _ _ _ λg=>?_);have a:IntKind.i64.wrap (-1) = -1:=rfl;have b:IntKind.i64.wrap 0=0:=rfl;simp[ak, *,tE];refine cS _ _ _ _ _ λg=>?_;simp[ak, *,cJ,gM,fv];refine cS _ _ _ _ _ λg=>?_;simp[ak, *,cJ,gM,fv];refine cS _ _ _ _ _ λg=>?_;simp[ak, *,cJ,gM,fv];refine cS _ _ _ _ _ λg=>?_;simp[ak, *,cJ,gM,fv];refine cS _ _ _ _ _ λg=>?_;simp[ak, *,cJ,gM,fv];refine cS _ _ _ _ _ λg=>?_;simp[ak, *,cJ,gM,fv];refine cS _ _ _ _ _ λg=>?_;simp[ak, *,cJ,gM,fv];refine cS _ _ _ _ _ λg=>?_;simp[ak, *,cJ,LZ,aQ]
def Oj{d:AV}{Q:AV->ab->Prop}{l:List UInt8}(h:Sl 1 (aQ l) d)(o:l.length<=7) : ∀(s:List UInt8)(k:Nat)(i a:Int)(H:ab),l.drop k=s->k<=l.length->i=k->0<=a->a<256 ^ k ->
 (∀y H',y=aI (zT a s)->Q y H') ->
 bL env Tryz.f142 0 qh [(7,aI i),(2,aI a),(5,d),(6,aI l.length)] H Q:=by
 intro s;induction s with
 | nil=>rintro k i a H hs hk rfl h0 h1 hQ;obtain rfl:=drop_nil hs hk;refine yB _ _ _ _ _ _ λg=>?_;simp[ak, *,tD];exact hQ _ _ rfl
 | cons b s j=>rintro k i a H hs hk rfl h0 h1 hQ;obtain⟨f,t,c,m⟩:=drop_cons hs;refine yB _ _ _ _ _ _ λg=>?_;have n:=b.toNat_lt;have q:=BA (k:=k) 6 (by omega);have e:=MQ h0 (by omega) b;have u:=iQa (a * 256) (by omega);have p:=iQa ((k:Int)+1) (by omega);simp[ak, *,tD,xt,h.idx];exact j (k+1) _ _ _ c (by omega) (by simp) (by omega) (by rw[Ba];omega) hQ
@[simp] def KP{x:AV}{l:List UInt8}(a:Sl 1 (aQ l) x)(b:l.length<=7):aK env 142 [x]=some (aI (val l)):=by
 refine bo rfl (by kernel_rfl) (Iu _ _ _ λg=>?_);have h:=a.len;simp[ak, *,CB];exact Oj a b l 0 _ _ _ rfl (by omega) rfl (by omega) (by simp) (λy H' e=>by simp[e,val])
def dq(h:NI):List UInt8:=h.lv :: (be 4 h.cats.toNat++[h.num])
@[simp] def ED(h:NI):(dq h).length=6:=by simp[dq]
@[simp] def IH(a:UInt8)(b:UInt32)(n:UInt8):aK env 89 [.agg [a8 a,cH b,a8 n]]=some (if jt ⟨a,b,n⟩ then .tup [.fsl 1 (aQ (dq ⟨a,b,n⟩)) none,aI 0] else .tup [a9,aI 8]):=by
 refine bo rfl (by kernel_rfl) (Bm _ _ _ λg=>?_);cases h:jt ⟨a,b,n⟩ with
 | true=>simp[ak, *,p7,bad,aQ,dq]
 | false=>simp[ak, *,p7,bad]
def cY(i:wS):List UInt8:=dq i.h++be 7 i.n
@[simp] def LC(i:wS):(cY i).length=13:=by simp[cY]
@[simp] def acV(a:UInt8)(b:UInt32)(n:UInt8)(k:Int):aK env 117 [.agg [a8 a,cH b,a8 n,aI k]]=some (if wB ⟨⟨a,b,n⟩,k⟩ then .tup [.cC 1 (aQ (cY ⟨⟨a,b,n⟩,k⟩)) none,aI 0] else .tup [a9,aI 8]):=by
 refine bo rfl (by kernel_rfl) (KE _ _ _ λg=>?_);cases h:wB ⟨⟨a,b,n⟩,k⟩ with
 | true=>
  have c:=F9 h;have d:=N0 k (by simp only at c;omega);have e:jt ⟨a,b,n⟩=true:=by simp only[wB,bD]at h;exact h.1
  simp only at c;simp[ak, *,zB,bad,aQ,cY]
 | false=>simp[ak, *,zB,bad]
def Tu{c:Option Nat}{a n b1 b2 b3 b4:UInt8}(b:6<=c.getD 6):aK env 126 [.cC 1 [a8 a,a8 b1,a8 b2,a8 b3,a8 b4,a8 n] c]=some (.agg [a8 a,cH (u32 (val [b1,b2,b3,b4])),a8 n,aI (bad (jt ⟨a,u32 (val [b1,b2,b3,b4]),n⟩))]):=by
 refine bo rfl (by kernel_rfl) (zQ _ _ _ λg=>?_);have e:=KP (l:=[b1,b2,b3,b4]) (x := .cC 1 [a8 b1,a8 b2,a8 b3,a8 b4] (c.map (· - 1))) (Sl.mkC (HJ b (by simp))) (by simp);have d:=ku [b1,b2,b3,b4];generalize val [b1,b2,b3,b4]=v at *;simp[ak, *,vS]
def II{c:Option Nat}{a n b1 b2 b3 b4:UInt8}(b:6<=c.getD 6):aK env 100 [.cC 1 [a8 a,a8 b1,a8 b2,a8 b3,a8 b4,a8 n] c] =
 some (if jt ⟨a,u32 (val [b1,b2,b3,b4]),n⟩ then .tup [.agg [a8 a,cH (u32 (val [b1,b2,b3,b4])),a8 n],aI 0] else .tup [.agg [a8 0,cH 0,a8 0],aI 8]):=by
 refine bo rfl (by kernel_rfl) (Bn _ _ _ λg=>?_);have d:=Tu (a:=a) (n:=n) (b1:=b1) (b2:=b2) (b3:=b3) (b4:=b4) b;generalize val [b1,b2,b3,b4]=v at *;cases h:jt ⟨a,u32 v,n⟩<;>simp[ak, *,uR,bad]
def N1{c:Option Nat}{a n b1 b2 b3 b4 d1 d2 d3 d4 d5 d6 d7:UInt8}(b:13<=c.getD 13):aK env 126 [.cC 1 [a8 a,a8 b1,a8 b2,a8 b3,a8 b4,a8 n,a8 d1,a8 d2,a8 d3,a8 d4,a8 d5,a8 d6,a8 d7] c]=some (.agg [a8 a,cH (u32 (val [b1,b2,b3,b4])),a8 n,aI (bad (jt ⟨a,u32 (val [b1,b2,b3,b4]),n⟩))]):=by
 refine bo rfl (by kernel_rfl) (zQ _ _ _ λg=>?_);have e:=KP (l:=[b1,b2,b3,b4]) (x := .cC 1 [a8 b1,a8 b2,a8 b3,a8 b4] (c.map (· - 1))) (Sl.mkC (HJ b (by simp))) (by simp);have d:=ku [b1,b2,b3,b4];generalize val [b1,b2,b3,b4]=v at *;simp[ak, *,vS]
def Wr{c:Option Nat}{a n b1 b2 b3 b4 d1 d2 d3 d4 d5 d6 d7:UInt8}(b:13<=c.getD 13):aK env 143 [.cC 1 [a8 a,a8 b1,a8 b2,a8 b3,a8 b4,a8 n,a8 d1,a8 d2,a8 d3,a8 d4,a8 d5,a8 d6,a8 d7] c] =
 some (if wB ⟨⟨a,u32 (val [b1,b2,b3,b4]),n⟩,val [d1,d2,d3,d4,d5,d6,d7]⟩ then .tup [.agg [a8 a,cH (u32 (val [b1,b2,b3,b4])),a8 n,aI (val [d1,d2,d3,d4,d5,d6,d7])],aI 0] else .tup [.agg [a8 0,cH 0,a8 0,aI 0],aI 8]):=by
 refine bo rfl (by kernel_rfl) (KF _ _ _ λg=>?_);have e:=N1 (a:=a) (n:=n) (b1:=b1) (b2:=b2) (b3:=b3) (b4:=b4) (d1:=d1) (d2:=d2) (d3:=d3) (d4:=d4) (d5:=d5) (d6:=d6) (d7:=d7) b;have d:=KP (l:=[d1,d2,d3,d4,d5,d6,d7]) (x := .cC 1 [a8 d1,a8 d2,a8 d3,a8 d4,a8 d5,a8 d6,a8 d7] (c.map (· - 6))) (Sl.mkC (HJ b (by simp))) (by simp);generalize val [b1,b2,b3,b4]=v at *;generalize val [d1,d2,d3,d4,d5,d6,d7]=w at *;cases h:wB ⟨⟨a,u32 v,n⟩,w⟩<;>simp[ak, *,E5,bad]
def qM(n:Int):Bool:=(decide (0<=n)&&decide (n<55296))||(decide (57343<n)&&decide (n<=1114111))
@[simp] def abX(n:Int):aK env 153 [.v (.int .i32 n)]=some (aB (qM n)):=by
 refine bo rfl (by kernel_rfl) (sw _ _ _ λg=>?_);simp[ak, *,nE,qM];repeat' ((first | apply Cy<;>intro h | apply xG<;>intro h | apply xH<;>intro h | apply xE<;>intro h | apply xF<;>intro h)<;>(try simp only[iQb,iQd,jH,zJ,bD,lI]at h)<;>(try simp[ak, *]))
 all_goals (try grind)
@[simp] def abV(n:Int):aK env 152 [.v (.int .i32 n)]=some (aB (!fK n)):=by
 refine bo rfl (by kernel_rfl) (Bl _ _ _ λg=>?_);by_cases h:n = -1;·subst h;simp[ak, *,pY,fK]
 simp[ak, *,pY,fK,qM]
def vI:List Int->Nat->Int
 | [],_ => -1
 | n :: l,k=>if fK n then vI l (k+1) else k
def LB(l:List Int) : ∀k:Nat,(0<=vI l k↔l.all fK=false):=by
 induction l with| nil=>intro k;simp[vI]| cons n l b=>
  intro k;unfold vI;cases h:fK n with
  | true=>rw[if_pos rfl,b,uU,h,kX]
  | false=>simp[h]
def Ky{j:AV}{Q:AV->ab->Prop}{l:List Int}(a:Sl 1 (rows l) j)(f:l.length<4611686018427387904) : ∀(s:List Int)(k:Nat)(i:Int)(H:ab),l.drop k=s->k<=l.length->i=k ->
 (∀y H',y=aI (vI s k)->Q y H') ->
 bL env Tryz.f155 0 dv [(8,aI i),(0,j),(1,.fn (.func 152) [] []),(7,aI l.length)] H Q:=by
 intro s;induction s with
 | nil=>rintro k i H hs hk rfl hQ;obtain rfl:=drop_nil hs hk;refine iU _ _ _ _ _ _ λg=>?_;simp[ak, *,dw];all_goals exact hQ _ _ rfl
 | cons b s p=>
  rintro k i H hs hk rfl hQ;obtain⟨o,t,c,n⟩:=drop_cons hs;refine iU _ _ _ _ _ _ λg=>?_;have q:=iQa ((k:Int)+1) (by omega);cases h:fK b with
  | true=>simp[ak, *,dw,a.idx,rows,aR];exact p (k+1) _ _ c (by omega) (by simp) (λy H' e=>hQ y H' (by simp[e,vI,h]))
  | false=>simp[ak, *,dw,a.idx,rows,aR];exact hQ _ _ (by simp[vI,h])
def WX:bE env.P .eql 52 (.tmp 3) (.const (.slice none 0 0)) (some (.v (.slice none 0 0))) (some (.v (.slice none 0 0)))=some (aB true,[]):=by kernel_rfl
section
variable{x:AV}{l:List Int}(a:Sl 1 (rows l) x)(f:l.length<4611686018427387904)
include a f
theorem KU:aK env 155 [x,.fn (.func 152) [] []]=some (aI (vI l 0)):=by
 refine bo rfl (by kernel_rfl) (oP _ _ _ _ λg=>?_);have h:=a.len;simp[ak, *,ju];exact Ky a f l 0 _ _ rfl (by omega) rfl (λy H' e=>by simp[e])
theorem QC:aK env 154 [x,.fn (.func 152) [] []]=some (aB (!l.all fK)):=by
 refine bo rfl (by kernel_rfl) (nI _ _ _ _ λg=>?_);have h:=KU a f;have e:decide (0<=vI l 0) = !l.all fK:=by
  have:=LB l 0;cases h:l.all fK<;>simp[h]at this ⊢ <;> omega
 simp[ak, *,iF,a.r]
theorem Bt:aK env 140 [x]=some (aI (uq l)):=by
 refine bo rfl (by kernel_rfl) (DI _ _ _ λg=>?_);have h:=QC a f;have c:=a.len;by_cases b:64<l.length
 ·have:(64:Int)<l.length:=by omega
  simp[ak, *,sn,uq,a.r]
 have : ¬(64:Int)<l.length:=by omega
 cases e:l.all fK<;>simp[ak, *,sn,uq,a.r]
theorem N3(i:l.length * 4<=140737488355328):aK env 86 [x]=some (HG x):=by
 refine bo rfl (by kernel_rfl) (pJ _ _ _ λg=>?_);rcases a with ⟨rfl,h⟩ | ⟨c,rfl,j⟩
 ·have k:=WX;simp[ak, *,eN]
 by_cases e:l=[];·subst e;simp[ak, *,eN,rows]
 have b:rows l≠[]:=(by simpa using e);have hp:0<l.length:=BY.2 e;rw[Gg 1 c b];simp[ak, *,eN]
end
def LP{u v:AV}{Q:AV->ab->Prop}{l m:List Int}(a:Sl 1 (rows l) u)(d:Sl 1 (rows m) v)(f:l.length<4611686018427387904)(h:m.length=l.length) : ∀(s t:List Int)(k:Nat)(i:Int)(H:ab),l.drop k=s->m.drop k=t->k<=l.length->i=k ->
 (∀y H',y=aB (decide (s=t))->Q y H') ->
 bL env Tryz.f88 0 eb [(13,aI i),(1,v),(0,u),(12,aI l.length)] H Q:=by
 intro s;induction s with
 | nil=>rintro t k i H hs ht hk rfl hQ;obtain rfl:=drop_nil hs hk;rw[<-h,Dk]at ht;subst ht;refine jK _ _ _ _ _ _ λg=>?_;simp[ak, *,ej];all_goals exact hQ _ _ rfl
 | cons b s A=>
  rintro t k i H hs ht hk rfl hQ;obtain⟨z,D,j,w⟩:=drop_cons hs;cases t with
  | nil=>have:=iQh List.length ht;simp at this;omega
  | cons c t=>
  obtain⟨p,B,n,q⟩:=drop_cons ht;refine jK _ _ _ _ _ _ λg=>?_;have C:=iQa ((k:Int)+1) (by omega);by_cases o:b=c;·subst o;simp[ak, *,ej,a.idx,d.idx,rows,aR];exact A t (k+1) _ _ j n (by omega) (by simp) (λy H' e=>hQ y H' (by simp[e]))
  simp[ak, *,ej,a.idx,d.idx,rows,aR];all_goals exact hQ _ _ (by simp[o])
def NZ{u v:AV}{Q:AV->ab->Prop}{l m:List Int}(a:Sl 1 (rows l) u)(d:Sl 1 (rows m) v)(f:l.length<4611686018427387904)(h:m.length=l.length) : ∀(s t:List Int)(k:Nat)(i:Int)(H:ab),l.drop k=s->m.drop k=t->k<=l.length->i=k ->
 (∀y H',y=aB (decide (s=t))->Q y H') ->
 bL env Tryz.f87 0 gD [(5,aI i),(1,v),(0,u)] H Q:=by
 intro s;induction s with
 | nil=>rintro t k i H hs ht hk rfl hQ;obtain rfl:=drop_nil hs hk;rw[<-h,Dk]at ht;subst ht;refine nz _ _ _ _ _ λg=>?_;simp[ak, *,gJ,a.len];all_goals exact hQ _ _ rfl
 | cons b s A=>
  rintro t k i H hs ht hk rfl hQ;obtain⟨z,D,j,w⟩:=drop_cons hs;cases t with
  | nil=>have:=iQh List.length ht;simp at this;omega
  | cons c t=>
  obtain⟨p,B,n,q⟩:=drop_cons ht;refine nz _ _ _ _ _ λg=>?_;have C:=iQa ((k:Int)+1) (by omega);by_cases o:b=c;·subst o;simp[ak, *,gJ,a.idx,d.idx,a.len,rows,aR];exact A t (k+1) _ _ j n (by omega) (by simp) (λy H' e=>hQ y H' (by simp[e]))
  simp[ak, *,gJ,a.idx,d.idx,a.len,rows,aR];all_goals exact hQ _ _ (by simp[o])
section
variable{x y:AV}{l m:List Int}(a:Sl 1 (rows l) x)(d:Sl 1 (rows m) y)(f:l.length<4611686018427387904)
include a d f
theorem N2:aK env 88 [x,y]=some (aB (decide (l=m))):=by
 refine bo rfl (by kernel_rfl) (pI _ _ _ _ λg=>?_);have j:=a.len;have k:=d.len;by_cases h:m.length=l.length
 ·have c:(m.length:Int)=l.length:=by omega
  simp[ak, *,gS];exact LP a d f h l m 0 0 _ rfl rfl (by omega) rfl (λy H' e=>by simp[e])
 have c : ¬(l.length:Int)=m.length:=by omega
 have i:l≠m:=λe=>h (by rw[e]);have b : ¬(m.length:Int)=l.length:=by omega
 simp[ak, *,gS]
theorem Qk:aK env 87 [x,y]=some (aB (decide (l=m))):=by
 refine bo rfl (by kernel_rfl) (ug _ _ _ _ λg=>?_);have j:=a.len;have k:=d.len;by_cases h:m.length=l.length
 ·have c:(m.length:Int)=l.length:=by omega
  simp[ak, *,kT];exact NZ a d f h l m 0 0 _ rfl rfl (by omega) rfl (λy H' e=>by simp[e])
 have c : ¬(l.length:Int)=m.length:=by omega
 have i:l≠m:=λe=>h (by rw[e]);have b : ¬(m.length:Int)=l.length:=by omega
 simp[ak, *,kT]
end
def aU(l:List Int):List UInt8:=l.flatMap λn=>be 4 n
def ly(l:List Int):(aU l).length=4 * l.length:=by
 induction l with| nil=>rfl| cons n l a=>show(be 4 n++aU l).length=_;rw[eS,a,EY,lZ];omega
def Of{l:List Int}{o:AV}(p:Sl 1 (rows l) o)(T:l.length<100000)(E : ∀n∈l, -2147483648<=n/\n<=2147483647){Q:AV->ab->Prop} :
 ∀(s:List Int)(k:Nat)(i:Int)(a:List Int)(j:AV)(H:ab),l.drop k=s->k<=l.length->i=k->a.length=k->Fr H->sq [32] 1 (aQ (aU a)) H j->(a=[]->j=a9) ->
 (∀y H',sq [32] 1 (aQ (aU (a++s))) H' y->(a++s=[]->y=a9)->Q (.tup [y,aI 0]) H') ->
 bL env Tryz.f118 0 o6 [(15,aI i),(5,j),(13,o),(14,aI l.length)] H Q:=by
 intro s;induction s with
 | nil=>rintro k i a j H hs hk rfl ha hF hO hN hQ;obtain rfl:=drop_nil hs hk;refine xh _ _ _ _ _ _ λg=>?_;have f:=hQ j H (by simpa using hO) (by simpa using hN);clear hQ hO hN;simp[ak, *,pe,p.len];all_goals exact f
 | cons n s C=>
  rintro k i a j H hs hk rfl ha hF hO hN hQ;obtain⟨M,O,w,x⟩:=drop_cons hs;have K:=E n (by rw[<-O];exact kq _);have U:=iQa ((k:Int)+1) (by omega);refine xh _ _ _ _ _ _ λg=>?_;have L:dQ (rows l) k 0 1 false=some (.v (.int .i32 n)):=by simp[rows,x,aR]
  have G:n.fdiv (2 ^ min 24 IntKind.i32.bits)=n / 16777216:=by rw[show(2:Int) ^ min 24 IntKind.i32.bits=16777216 from rfl];exact fv n 16777216
  have I:n.fdiv (2 ^ min 16 IntKind.i32.bits)=n / 65536:=by rw[show(2:Int) ^ min 16 IntKind.i32.bits=65536 from rfl];exact fv n 65536
  have R:n.fdiv (2 ^ min 8 IntKind.i32.bits)=n / 256:=by rw[show(2:Int) ^ min 8 IntKind.i32.bits=256 from rfl];exact fv n 256
  have q:=λA H'=>C (k+1) ((k:Int)+1) (a++[n]) A H' w (by omega) (by simp) (by simp;omega);have f : ∀y H',sq [32] 1 (aQ (aU ((a++[n])++s))) H' y->((a++[n])++s=[]->y=a9)->Q (.tup [y,aI 0]) H':=λy H' h K=>hQ y H' (by simpa using h) (λe=>by simp at e);have u:=ly a;have b:(aQ (aU a)).length=4 * a.length:=by rw[show(aQ (aU a)).length=(aU a).length from by simp,u]
  have d : ∀(g m:Nat)(H':ab),m=4 * a.length+4->H'.get ⟨0,32,g,0⟩=some ⟨1,aQ (aU a)++[a8 (u8 (n / 16777216)),a8 (u8 (n / 65536)),a8 (u8 (n / 256)),a8 (u8 n)],true,false⟩->sq [32] 1 (aQ (aU (a++[n]))) H' (.bO ⟨0,32,g,0⟩ 0 m none):=by
   intro g m H' N h;subst N;have e:aQ (aU (a++[n]))=aQ (aU a)++[a8 (u8 (n / 16777216)),a8 (u8 (n / 65536)),a8 (u8 (n / 256)),a8 (u8 n)]:=by simp[aU,wP,aQ]
   rw[e];exact .inr ⟨32,g,by simp,by rw[eS,b];rfl,h⟩
  clear hQ hN C;rcases hO with ⟨rfl,D⟩ | ⟨t,F,B,rfl,J⟩
  ·have z:a=[]:=(by have:=iQh List.length D;rw[b]at this;simp only[oq]at this;exact we (by omega));subst z;have c:=d (H.gen 0 32) 4;clear d;simp[ak, *,pe,p.r,p.idx,gM,fv];exact q _ _ (by simp(maxDischargeDepth:=12) [rE, *]) (c _ rfl (by simp[aU])) (λe=>by simp at e) f
  rw[l7]at B;subst B;have S:(H.get ⟨0,32,F,0⟩).isSome=true:=by rw[J];rfl
  have P:rB 1 1 (aQ (aU a)).length true none (some ⟨1,aQ (aU a),true,false⟩) (some [a8 (u8 (n / 16777216)),a8 (u8 (n / 65536)),a8 (u8 (n / 256)),a8 (u8 n)]):=(by rw[aA,b];refine⟨rfl,b.symm ▸ rfl,.inr ⟨?_,rfl⟩⟩;simp;omega);have c:=λH'=>d (H.gen 0 32) ((aQ (aU a)).length+4) H' (by rw[b]);clear d ha b u;generalize aQ (aU a)=bs at *;simp[ak, *,pe,p.r,p.idx,gM,fv];exact q _ _ (by simp(maxDischargeDepth:=12) [rE, *]) (c _ (by simp)) (λe=>by simp at e) f
def Tv{l:List Int}{x:AV}(d:Sl 1 (rows l) x)(p:l.length<100000)(m : ∀n∈l, -2147483648<=n/\n<=2147483647):aK env 118 [x]=some (if uq l=0 then .tup [oR 1 (aQ (aU l)),aI 0] else .tup [a9,aI (uq l)]):=by
 refine bo rfl (by kernel_rfl) (GX _ _ _ λg=>?_);have o:=Bt d (by omega);have A:=d.len;by_cases h:uq l=0
 ·rw[if_pos h];rw[h]at o;have a:=λH Q=>Of d p m (H:=H) (Q:=Q) l 0 0 [] a9 rfl (by omega) rfl rfl;have b : ∀y H',sq [32] 1 (aQ (aU ([]++l))) H' y->([]++l=[]->y=a9)->view H'.get 8 (.tup [y,aI 0])=some (.tup [oR 1 (aQ (aU l)),aI 0]):=by
   intro y H' i c;rw[ko]at i c;rcases i with ⟨rfl,k⟩ | ⟨t,v,u,rfl,s⟩
   ·rw[k];simp[oR]
   have f:aQ (aU l)≠[]:=by
    intro e;have j:=iQh List.length e;have z:=ly l;have w:(aQ (aU l)).length=(aU l).length:=by simp
    simp only[oq]at j;have:l=[]:=we (by omega);cases c this
   rw[qf 1 f];generalize aQ (aU l)=bs at *;simp[s]
  have run:=λH q=>a H (λx H=>view H.get 8 x=some (.tup [oR 1 (aQ (aU l)),aI 0])) q (.inl ⟨rfl,rfl⟩) (λ_=>rfl) b;clear a b h;generalize oR 1 (aQ (aU l))=yo at *;simp[ak, *,vQ,d.r];all_goals exact run _ (by simp(maxDischargeDepth:=12) [SJ, *])
 rw[if_neg h];simp[ak, *,vQ,d.r]
def J4{P:Program}{t t':TypeId}(p:qF P t=true)(b:isInt P t'=true)(g:(j6 P t).cells.all AV.one=true)(s:Bool)(H:ab)(r:Ref)(n:Int)(D:0<n)(v:n<=aY)(q:n.toNat * tv P t<=aY) :
 dK P s H r (some t) (some t') a9 (aI n)=some (.bO r 0 n.toNat none,({ r with k:=0},some ⟨lO P t,List.replicate n.toNat (j6 P t),true,false⟩) :: H):=by
 unfold qF at p;obtain⟨e,zz,i,m,B,f,o,C,j,l⟩:=fx p;have x:j6 P t=zz:=by unfold j6;rw[i,cR,f];rfl
 rw[x]at g ⊢;have c:(P.underlying t').isNone=false:=by
  unfold isInt at b;cases h:P.underlying t' with
  | none=>rw[h]at b;cases b
  | some d=>rfl
 have y : ¬((P.underlying t').isNone=true\/isInt P t'≠isNum (aI n)):=by rw[c,b];simp[isNum]
 have A : ¬(lO P t≠lO P t\/lO P t=0\/tv P t=0\/zz.cells.length≠lO P t):=by simp[o,j,l]
 have a:lN P H.get e (aI n)=some (lO P t,List.replicate n.toNat zz):=by
  show(match eJ P e,av P e with | some w,some z=>if 0<=n/\n<=aY/\w.cells.length=z/\w.cells.all AV.one then some (z,List.replicate n.toNat w) else none | _,_=>none)=_;rw[f,m];exact if_pos ⟨by omega,v,by simp[o,j,l],g⟩
 have u:List.replicate n.toNat zz≠[]:=by
  intro h;have:=iQh List.length h;simp only[GJ,oq]at this;omega
 simp only[dK,dY,cR,i,Option.map_some,dP,if_neg y,m,B,f,a,if_neg A,if_neg u,GJ,if_pos q];rfl
@[simp] def Zb(g:cb)(r:Ref):dX env.P false g r .cap #[27] [a9]=some (aI 0,[]):=by kernel_rfl
def Ws(n:Int)(c:0<n)(e:n<1000000):aK env 93 [a9,aI n]=some (.fsl 1 [] none):=by
 refine bo rfl (by kernel_rfl) (rh _ _ _ _ λg=>?_);have f : ¬n<0:=by omega
 have j:=iQa n (by omega);have i:IntKind.i64.wrap 0=0:=rfl;have b:n<=140737488355328:=by omega
 have d:n.toNat<=140737488355328:=by omega
 have h:0<n.toNat:=by omega
 have a:=J4 (P:=env.P) (t:=27) (t':=3) (by simp) (by simp) (by simp) true [] ⟨0,22,0,0⟩ n c b (by simp;omega);simp[ak, *,mq, -a];refine jd a ?_;simp;all_goals omega
def jW(s:List (List UInt8 × AV)):List UInt8:=s.flatMap (·.1)
def Pb{ps:List (List UInt8 × AV)}{w:AV}(m:Sl 1 (ps.map (·.2)) w)(hp : ∀p∈ps,Sl 1 (aQ p.1) p.2)(L:ps.length<100000)(J:(jW ps).length<1000000){Q:AV->ab->Prop} :
 ∀(s:List (List UInt8 × AV)) (k:Nat) (i:Int) (acc:List UInt8) (f:Nat) (H:ab),ps.drop k=s->k<=ps.length->i=k->acc.length+(jW s).length=(jW ps).length->Fr H->H.get ⟨0,24,f,0⟩=some ⟨1,aQ acc,true,false⟩ ->
 (∀g H',H'.get ⟨0,24,g,0⟩=some ⟨1,aQ (acc++jW s),true,false⟩->Q (.bO ⟨0,24,g,0⟩ 0 (acc++jW s).length none) H') ->
 bL env Tryz.f49 0 cV [(27,aI i),(6,.bO ⟨0,24,f,0⟩ 0 acc.length none),(25,w),(26,aI ps.length)] H Q:=by
 intro s;induction s with
 | nil=>rintro k i acc f H hs hk rfl ha hF hr hQ;obtain rfl:=drop_nil hs hk;refine jL _ _ _ _ _ _ λg=>?_;have d:=hQ f H (by simpa [jW] using hr);simp only[jW,Dm,mz]at d;clear hQ hr;simp[ak, *,ek];all_goals exact d
 | cons p s y=>
  rintro k i acc f H hs hk rfl ha hF hr hQ;obtain⟨D,F,n,t⟩:=drop_cons hs;have c:=hp p (by rw[<-F];exact kq _);obtain⟨b,x⟩:=p;simp only at c;have M:=iQa ((k:Int)+1) (by omega);have q:jW ((b,x) :: s)=b++jW s:=rfl;rw[q]at ha hQ;rw[eS]at ha;have C:dQ (ps.map (·.2)) k 0 1 false=some x:=by simp[t,c.r]
  have E:(ps.map (·.2)).length=ps.length:=(by simp);have l:(aQ b).length=b.length:=(by simp);have j:(aQ acc).length=acc.length:=(by simp);have K:(H.get ⟨0,24,f,0⟩).isSome=true:=by rw[hr];rfl
  have e:=λg H'=>y (k+1) ((k:Int)+1) (acc++b) g H' n (by omega) (by simp) (by simp;omega);have d : ∀g H',H'.get ⟨0,24,g,0⟩=some ⟨1,aQ ((acc++b)++jW s),true,false⟩->Q (.bO ⟨0,24,g,0⟩ 0 ((acc++b)++jW s).length none) H':=λg H' h=>by
   have:=hQ g H' (by rw[<-il];exact h);rw[<-il]at this;exact this
  clear hQ y hp hs;refine jL _ _ _ _ _ _ λg=>?_;have z:=c.kg;by_cases u:b=[];·subst u;have a:=e f H hF;simp only[mz]at a d;have o:=a hr d;clear a e d;simp[ak, *,ek,m.r,m.idx,c.r,c.kg]
  have G:aQ b≠[]:=(by simpa using u);have I:rB 1 1 acc.length true none (some ⟨1,aQ acc,true,false⟩) (some (aQ b)):=(by rw[aA,l,j];exact⟨rfl,rfl,.inr ⟨by simp;omega,rfl⟩⟩);have a:=e (H.gen 0 24);have v:aQ (acc++b)=aQ acc++aQ b:=xg ..;rw[v]at a;rw[show(acc++b).length=(aQ acc).length+(aQ b).length by rw[l,j,eS]]at a;clear e l j ha v;generalize aQ acc=A at *;generalize aQ b=B at *;simp[ak, *,ek,m.r,m.idx,c.r,c.kg];exact a _ (by simp(maxDischargeDepth:=12) [rE, *]) (by simp) d
def Pc{ps:List (List UInt8 × AV)}{e:AV}(f:Sl 1 (ps.map (·.2)) e)(hp : ∀p∈ps,Sl 1 (aQ p.1) p.2)(B:ps.length<100000)(A:(jW ps).length<1000000)(E:0<(jW ps).length){H:ab}{Q:AV->ab->Prop}
 (a : ∀H',Fr H'->H'.get ⟨0,24,H.gen 0 24,0⟩=some ⟨1,[],true,false⟩->bL env Tryz.f49 0 cV [(27,aI 0),(6,.bO ⟨0,24,H.gen 0 24,0⟩ 0 0 none),(25,e),(26,aI ps.length)] H' Q) :
 ∀(s:List (List UInt8 × AV)) (k:Nat) (i n:Int),ps.drop k=s->k<=ps.length->i=k->0<=n->n+(jW s).length=(jW ps).length->Fr H ->
 bL env Tryz.f49 0 df [(11,aI i),(3,aI n),(9,e),(0,e),(10,aI ps.length)] H Q:=by
 intro s;induction s with
 | nil=>
  rintro k i n hs hk rfl hn0 hn hF;obtain rfl:=drop_nil hs hk;refine kf _ _ _ _ _ _ _ λg=>?_;have o:n=(jW ps).length:=by simpa [jW] using hn
  have z:=Ws n (by omega) (by omega);have m:(ps.map (·.2)).length=ps.length:=by simp
  clear o hn hp;simp[ak, *,gz,f.r];exact a _ (by simp(maxDischargeDepth:=12) [rE, *]) (by simp)
 | cons p s t=>
  rintro k i n hs hk rfl hn0 hn hF;obtain⟨w,y,h,l⟩:=drop_cons hs;have c:=hp p (by rw[<-y];exact kq _);obtain⟨b,x⟩:=p;simp only at c;have j:jW ((b,x) :: s)=b++jW s:=rfl;rw[j,eS]at hn;have C:=iQa ((k:Int)+1) (by omega);have D:=iQa (n+(b.length:Int)) (by omega);have v:dQ (ps.map (·.2)) k 0 1 false=some x:=by simp[l,c.r]
  have m:(ps.map (·.2)).length=ps.length:=(by simp);have u:(aQ b).length=b.length:=(by simp);have q : ¬n+(b.length:Int)<0:=(by omega);have d:=t (k+1) ((k:Int)+1) (n+(b.length:Int)) h (by omega) (by simp) (by omega) (by omega) hF;refine kf _ _ _ _ _ _ _ λg=>?_;clear t a hp hs hn;simp[ak, *,gz,f.r,f.idx,c.r];all_goals exact d
def IK{ps:List (List UInt8 × AV)}{i:AV}(c:Sl 1 (ps.map (·.2)) i)(hp : ∀p∈ps,Sl 1 (aQ p.1) p.2)(j:ps.length<100000)(h:(jW ps).length<1000000)(q:0<(jW ps).length):aK env 49 [i]=some (.fsl 1 (aQ (jW ps)) none):=by
 refine bo rfl (by kernel_rfl) (qu _ _ _ λg=>?_);have m:(ps.map (·.2)).length=ps.length:=by simp
 have l:=c.len;have f:(aQ (jW ps)).length=(jW ps).length:=by simp
 have n:=λH' Q d e=>Pb c hp j h (Q:=Q) ps 0 0 [] 0 H' rfl (by omega) rfl (by simp) d e;have k:=λQ b=>Pc c hp j h q (H:=[]) (Q:=Q) b ps 0 0 0 rfl (by omega) rfl (by omega) (by omega) Fr.nil;clear hp;simp[ak, *,ld,c.r];refine k _ λH' d e=>n H' _ d e λs o a=>?_;rw[ko]at a ⊢;rw[<-f];generalize aQ (jW ps)=B at *;simp[a]
end
end Go.Proofs.YtehkjjcdkbcebaaGreat
