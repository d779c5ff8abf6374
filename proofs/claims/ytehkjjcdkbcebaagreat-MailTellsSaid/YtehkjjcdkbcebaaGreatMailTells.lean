/-
  Mail, told: the law's walk. No statement of a seat is proved here.
-/
import Derived.Test.YtehkjjcdkbcebaaGreatMMnLaw
set_option linter.unusedVariables false
set_option linter.unusedSimpArgs false
set_option linter.unusedSectionVars false
set_option linter.unnecessarySimpa false
set_option maxRecDepth 1000000
namespace Go.Proofs.YtehkjjcdkbcebaaGreat
open Go.Ab
section
attribute [local simp] a7 aL au aJ aH bF kV bc aA aN cw cu aY ba ah bG fG
theorem PW{l:List (bp × AV)}{x:AV}(d:Sl 17 (a6 l) x)(e:OF l):Sl 17 (a6 l) (Ce (Va x l)):=by
 rcases d with ⟨rfl,he⟩ | ⟨c,rfl,_⟩
 ·have:l=[]:=by simpa [a6] using he
  subst this;exact .inl ⟨rfl,rfl⟩
 cases l with| nil=>exact .inr ⟨some 0,rfl,aV _⟩| cons p l=>show Sl 17 _ (.cC 17 ((bV (p :: l)).map yF) none);rw[IM e];exact Sl.mk 17 _
section
variable{m j:aD}{l B:List (bp × AV)}{x t:AV}(d:Sl 17 (a6 l) x)(k:Sl 17 (a6 B) t)(i : ∀p∈l,uS p)(A : ∀p∈B,uS p)(w : ∀p∈l,∀a∈p.1.l, -2147483648<=a/\a<=2147483647)
 (E:DY l) (o:DY B) {b:List UInt8} {D:AV} (u:Sl 1 (aQ b) D) (C:b.length<=3000)
include d k i A w E o u C
theorem Uc(g1:aK env 5 [m.val x]=some (aB false))(g2:aK env 5 [j.val t]=some (aB false)) :
 aK env 3 [m.val x,j.val t,D]=some (aB true):=by
 obtain⟨l10,l500⟩:=E;obtain⟨l10',l500'⟩:=o;have K : ∀p∈l,p.1.l.length<100000:=λp hp=>by have:=l500 p hp;omega
 obtain⟨X,hT,J⟩:=Oc d l10 i K m;have F:=Wh i;have N:=S8 K;have tlen:=CO l;obtain⟨y1,hP,hp1⟩:=FM J (by omega) F m;obtain⟨y2,hQ,hp2⟩:=Qz d (by omega) i w K m;obtain⟨z1,z2,e,bs,rfl,rfl,hz1,hz2,he⟩:=Ox hp1 hp2;have e0:nA m (yq l)=iD m l:=by rw[<-Rq,MX]
 have hCk:=Cf J (by omega) F m;have hCd:=KT d (by omega) i w K m;have Q:=Qx J (by omega) F m;have hUd:=TD d (by omega) i w K m;rw[e0]at hCk Q;rw[<-he]at hCd;rw[show(if iD m l=true then aI 0 else aI 8)=aI e by rw[he];split<;>rfl]at hCk;rw[Bool.and_comm]at Q;generalize (iD m l&&decide (m.kind<=5))=U at Q hUd;obtain⟨y3,hG,hg⟩:=QA u (by omega);obtain⟨M,L,z,f,hg1,rfl,hz,O,hL3⟩:=OY hg;have hMG:=λ(v:AV)(hv:Sl 1 (aQ b) v)=>FN hv (by omega);rw[hg1]at hMG;have hTw:=KR J N (by omega) m;have I:=Jw O;have R:=yd (ol:=L) (λp hp=>(O p hp).2);have S:=PW J N;have hYo:=Ta J;have hLo:=I6 L;have hS1:=uj (Ah L) hz (by omega) I I M M;rw[xl,rW,<-R]at hS1;have hS2:=zd J k (by omega) F A m j;have hS3:=uj d k (by omega) i A m j;rw[xW]at hS2;rw[Bool.and_comm]at hS3;generalize (nO m j&&dx l B)=P at hS2 hS3;have hS4:=zd J d (by omega) F i m m;have hS5:=uj S d (by omega) F i m m;have hS6:=uj J d (by omega) F i m m;rw[xW,xl,rW]at hS4 hS5 hS6;have c1:=FZ d;have c2:=FZ k;have c3:=FZ J;have c4:=FZ hz;have u1:=d.r;have u2:=k.r;have u3:=J.r;have u4:=hz.r;have u5:=u.r;have u6:=hz1.r;have u7:=hz2.r;have u8:=S.r;have u9:=(Ah L).r;rw[<-R]at u9;have hLl : ∀p∈L,p.1.l.length<1000000:=λp hp=>by
  have:=(I p hp).2;rcases(lT (O p hp).1)with ⟨_,_,_,_,h64,⟨_,_,_,h,_⟩ | ⟨_,_,_,h⟩ | ⟨_,_,h,_⟩⟩
  ·omega
  ·rw[h];simp
  rw[h];simp
 have hTl : ∀p∈yq l,p.1.l.length<1000000:=λp hp=>by have:=(N p hp).2;omega
 have hbI : ¬(3000:Int)<b.length:=by omega
 have hSp:=bY (f:=18) (by kernel_rfl);refine bo rfl (by kernel_rfl) (fc _ _ _ _ _ λg=>?_);clear hp1 hp2 hg hg1 he e0 d k J i A F N hz w O I S;generalize hYv:Ce (Va X (yq l))=Yv at *;clear R;generalize hLv:Ce (CI L)=Lv at *;generalize hYy:Va X (yq l)=Yy at *;unfold dL;refine xy sv.nil c1 λr3 H c=>?_;refine xy c c2 λr4 H c=>?_;refine wA c r3 m x (by simp) ?_;simp only[aD.val]at *;simp[ak, *, -oX, -mO];refine wA c r4 j t (by simp) ?_;simp only[aD.val];simp[ak, *, -oX, -mO];refine wA c r3 m x (by simp) ?_;simp only[aD.val];simp[ak, *, -oX, -mO];refine Hr c c3 λr7 H c=>?_;refine Wy c u (by omega) λxr H rfs G hrv c=>?_;refine wA c r7 m X (by simp) ?_;simp only[aD.val];simp[ak, *, -oX, -mO];refine wA c r3 m x (by simp) ?_;simp only[aD.val];simp[ak, *, -oX, -mO];obtain⟨hvw,hvs,hc1,hc2⟩:=G.seen c (λq hq=>by simp[hq]);rw[hrv]at hvw;have W:=hMG _ (Ag 1 (aQ b));simp[ak, *, -oX, -mO, -au, -aJ, -aH];refine sv.aa5 G c ⟨_,_,rfl⟩ (z:=17) (by decide) (y:=CI L) (mk:=λs => .tup [M.val s,aI f]) (n:=3) (by first | rfl | exact W) (MV M f) hLo (Bu L) λH Y rs1 rfs' fz' G c ho1=>?_;clear hvw hvs;simp only[aD.val];simp[ak, *, -oX, -mO];refine Hr (m:=M) (x:=Y) c (qG (c.row _ (im ..))) λQM H c=>?_;simp[ak, *, -oX, -mO];refine Hr (m:=M) (x:=z) c c4 λr15 H c=>?_;refine wA c r7 m X (by simp) ?_;simp only[aD.val];simp[ak, *, -oX, -mO, -au, -aJ, -aH];refine c.call ⟨_,_,rfl⟩ (z:=17) (refs:=[]) (by decide) (by simp) (by simp) (n:=4) (y:=Yy) (mk:=λs=>m.val s) (by first | rfl | exact hTw) (W0 m) hYo (Bu _) λH s2 T c hk hn ho2=>?_;clear hk hn;simp only[aD.val];refine Hr (m:=m) (x:=s2) c (qG (c.row _ (im ..))) λr17 H c=>?_;have f3:=c.has (r3,m.bu x) (by simp);have f4:=c.has (r4,j.bu t) (by simp);have f7:=c.has (r7,m.bu X) (by simp);have f13:=c.has (QM,M.bu Y) (by simp);have f15:=c.has (r15,M.bu z) (by simp);have Z:=c.has (r17,m.bu s2) (by simp);have w1:=IP (c.row ⟨17,Y,bV L,rs1⟩ (by simp)) ho1;have w2:=IP (c.row ⟨17,s2,bV (yq l),T⟩ (by simp)) ho2;rw[hLv]at w1;rw[hYv]at w2;simp only[aD.bu]at f3 f4 f7 f13 f15 Z;have k1:=CZ hz1;have k2:=CZ hz2;have k3:=CZ u;simp[ak, *];clear f3 f4 f7 f13 f15 Z w1 w2;refine Mw (m:=m) (c.row ⟨17,s2,bV (yq l),T⟩ (by simp)) (by omega) hTl c.fr λH' V hS=>?_;replace c:=c.Vd V hS;clear V hS;refine wA c QM M Y (by simp) ?_;simp only[aD.val];simp[ak, *];refine Mw (m:=M) (c.row ⟨17,Y,bV L,rs1⟩ (by simp)) (by omega) hLl c.fr λH' V hS=>?_;replace c:=c.Vd V hS;clear V hS;have f3:=c.has (r3,m.bu x) (by simp);have f7:=c.has (r7,m.bu X) (by simp);have k4:=Sb G c (λp hp=>by simp[hp]);have hrc:xr.cells=[xr]/\xr.one=true:=⟨hc1,hc2⟩;simp only[aD.bu]at f3 f7;simp[ak, *]
end
theorem WZ{m o:aD}{l v:List (bp × AV)}{x j:AV}(d:Sl 17 (a6 l) x)(e:Sl 17 (a6 v) j)(h : ∀p∈l,Sl 1 (rows p.1.l) p.2)(i : ∀p∈v,Sl 1 (rows p.1.l) p.2)(k : ∀p∈l,∀a∈p.1.l, -2147483648<=a/\a<=2147483647)
 {b:List UInt8} {u:AV} (f:Sl 1 (aQ b) u):aK env 3 [m.val x,o.val j,u]=some (aB true):=by
 obtain⟨_,B,b1,rfl,s1⟩:=MH d h m;obtain⟨_,z,b2,rfl,s2⟩:=MH e i o;have q:=FZ d;have t:=FZ e;have D:=d.r;have C:=e.r;have E:=f.r;cases b1 with
 | true=>refine bo rfl (by kernel_rfl) (fc _ _ _ _ _ λg=>?_);clear d e h i k f s1 s2 z;unfold dL;refine xy sv.nil q λr3 H c=>?_;refine xy c t λn H c=>?_;refine wA c r3 m x (by simp) ?_;simp only[aD.val]at *;simp[ak, *]
 | false=>
  have w:=s1 rfl;cases b2 with
  | true=>refine bo rfl (by kernel_rfl) (fc _ _ _ _ _ λg=>?_);clear d e h i k f s1 s2;unfold dL;refine xy sv.nil q λr3 H c=>?_;refine xy c t λn H c=>?_;refine wA c r3 m x (by simp) ?_;simp only[aD.val]at *;simp[ak, *, -mO];refine wA c n o j (by simp) ?_;simp only[aD.val];simp[ak, *]
  | false=>
   have y:=s2 rfl;by_cases s:b.length<=3000;·exact Uc d e (λp hp=>⟨h p hp,by have:=w.2 p hp;omega⟩) (λp hp=>⟨i p hp,by have:=y.2 p hp;omega⟩) k w y f s B z
   refine bo rfl (by kernel_rfl) (fc _ _ _ _ _ λg=>?_);have A:(3000:Int)<b.length:=by omega
   clear d e h i k f s1 s2;unfold dL;refine xy sv.nil q λr3 H c=>?_;refine xy c t λn H c=>?_;refine wA c r3 m x (by simp) ?_;simp only[aD.val]at *;simp[ak, *, -mO];refine wA c n o j (by simp) ?_;simp only[aD.val];simp[ak, *]
end
end Go.Proofs.YtehkjjcdkbcebaaGreat
namespace Go.Proofs.YtehkjjcdkbcebaaGreat.mailTells
open Go.Ab Go.ChangeShapes Go.WideShapes Go.RowKit
theorem law(a:List AV)(h:L1 env.P 20 Tryz.f3.params.toList a):aK env 3 a=some (aB true):=by
 rw[show Tryz.f3.params.toList=[26,26,27] from by kernel_rfl]at h;obtain⟨q,a,rfl,n,h⟩:=Br h;obtain⟨t,a,rfl,d,h⟩:=Br h;obtain⟨e,a,rfl,k,h⟩:=Br h;obtain rfl:=Qa h;obtain⟨m,l,x,c,g,rfl⟩:=MA n;obtain⟨o,s,e,i,j,rfl⟩:=MA d;obtain⟨b,f⟩:=Qd k;exact WZ g j (λp hp=>(c p hp).1) (λp hp=>(i p hp).1) (λp hp=>(c p hp).2) f
theorem lifted(e:Os)(a:e.Started)(H:Type)(enc:TypeId × Value->H) :
 ReturnsInHanded {} Tryz.checked e 3 .any (Rows.mailTellsSpec.pre6 enc Tryz.prog Tryz.f3 Rows.mailTellsRow.domain false) (Rows.mailTellsSpec.post enc Tryz.prog Tryz.f3 false true false false):=by
 refine returnsInHanded_of_change (C:=Tryz.checked) own a (by kernel_rfl) Tryz.func3
  (ChangeSpec.witness6 (enc:=enc) (C:=Tryz.checked) false ⟨#[], #[.agg #[.int .u8 0,.int .i64 0,.int .i64 0,.int .i64 0,.int .i64 0,.int .i64 0,.int .u8 0,.int .i64 0,.int .i64 0,.int .i64 0,.int .i64 0,.slice none 0 0],.agg #[.int .u8 0,.int .i64 0,.int .i64 0,.int .i64 0,.int .i64 0,.int .i64 0,.int .u8 0,.int .i64 0,.int .i64 0,.int .i64 0,.int .i64 0,.slice none 0 0],.slice none 0 0],[]⟩ 8 (by kernel_rfl) (by kernel_rfl) (by kernel_rfl) (by kernel_rfl)) ?_
 intro W d args ds i b c g _ _;exact Fu (E:=env) aaU kids (slices_full_of Tryz.prog (by kernel_rfl)) (m:=20) (λt f=>of_decide_eq_true (eC.1 (show Tryz.f3.params.toList.all (λt=>decide (t<Tryz.prog.types.size))=true by kernel_rfl) t f)) (by kernel_rfl) rfl
  (λds h=>by match ds,h with | [_,_,_],_=>rfl) (by kernel_rfl) law W d args ds i b c g
theorem o1:Rows.mailTellsRow.holds Tryz.pinned (OpenSpec.ofChange Rows.mailTellsSpec):=
 OpenClaim.holds_of_wide 3 Tryz.f3 rfl rfl rfl rfl rfl rfl rfl ⟨rfl,rfl,rfl,rfl,rfl⟩ rfl rfl rfl rfl rfl (by kernel_rfl) Tryz.func3 (by kernel_rfl)
  (of_decide_eq_true (by kernel_rfl)) (by unfold Func.isWrapper;first | (rw[if_pos (by decide +kernel)];kernel_rfl) | (rw[if_neg (by decide +kernel)];exact⟨rfl,rfl⟩))
  (λb a H enc _=>lifted b a H enc)
theorem proved:Rows.MailTellsSaid:=
 o1
end Go.Proofs.YtehkjjcdkbcebaaGreat.mailTells
