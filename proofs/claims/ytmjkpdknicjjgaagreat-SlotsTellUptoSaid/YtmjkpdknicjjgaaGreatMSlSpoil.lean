/-
  The environment in which a disk's sectors are its caller's own. No statement of a seat is proved here.
-/
import Derived.Test.YtmjkpdknicjjgaaGreatMDtRef4
set_option linter.unusedVariables false
set_option linter.unusedSimpArgs false
set_option linter.unusedSectionVars false
set_option linter.unnecessarySimpa false
set_option maxRecDepth 1000000
set_option linter.defProp false
noncomputable section
namespace Go.Proofs.YtmjkpdknicjjgaaGreat
open Go.Ab
section
def nz:List FuncId:=[23,24,46,18]
def sJ:List FuncId:=[49,45]
def ac8:List FuncId:=[23,24,46,18,49,45,4]
def ach:FuncId->List AV->aa->Option (AV × aa):=λf args H=>if f=49 then xl Tryz.prog 22 40 25 args H else if f=45 then yY 2 32 5 7 args H else none
def Yt(f:FuncId)(args:List AV)(H:aa)(y:AV)(H':aa)(h:ach f args H=some (y,H')):jd Tryz.prog (.fn f) args H y H':=by
 unfold ach at h;split at h;·rename_i e;subst e;exact TZ args H y H' h
 split at h;·rename_i e;subst e;exact Oa args H y H' h
 cases h
def bp:Env:=Rf (wj Tryz.prog fns nz sJ (Hz [(19,13,18),(16,1,77777),(55,1,88888),(27,1,88888)]) (yB [(49,9,0,[(6,50),(6,54)]),(81,5,9,[(82,8)]),(15,12,0,[(20,23)]),(52,10,0,[(56,58)]),(13,5,4,[(3,2)]),(67,5,4,[(3,2)]),(48,5,4,[(6,2)]),(7,6,0,[(3,5)]),(14,5,3,[(15,2)]),(35,21,0,[(36,52),(37,52),(38,52),(41,52),(42,52),(43,52),(47,52),(48,52),(49,52)]),(145,8,4,[(148,2)]),(21,10,4,[(23,3),(25,3)])]) (Pd [(19,13,18),(16,1,77777),(55,1,88888),(27,1,88888)]) [] (λ_=>false) (λ_=>none) ach PW) (λf args=>if ac8.contains f then none else ar env f args)
@[simp] def Q1(h:aa)(n:Nat)(v:AV)(k:AV->aa->Prop):Prop:=iE (bm bp false (ar bp) (dg bp 0) h (Ref.mk 0 n (aa.gen h 0 n) 0) (some (.fn (.func 46) [] [])) [v]) k
@[simp] def aaK(h:aa)(n:Nat)(v b a:AV)(k:AV->aa->Prop):Prop:=iE (bm bp true (ar bp) (dg bp 0) h (Ref.mk 0 n (aa.gen h 0 n) 0) (some (.fn (.func 49) [] [])) [v,b,a]) k
@[simp] def aaJ(h:aa)(n:Nat)(v a:AV)(k:AV->aa->Prop):Prop:=iE (bm bp true (ar bp) (dg bp 0) h (Ref.mk 0 n (aa.gen h 0 n) 0) (some (.fn (.func 48) [] [])) [v,a]) k
@[simp] def aaI(h:aa)(n:Nat)(v:AV)(k:AV->aa->Prop):Prop:=iE (bm bp true (ar bp) (dg bp 0) h (Ref.mk 0 n (aa.gen h 0 n) 0) (some (.fn (.func 14) [] [])) [v]) k
@[simp] def aaH(h:aa)(n:Nat)(v a:AV):=bm bp true (ar bp) (dg bp 0) h (Ref.mk 0 n (aa.gen h 0 n) 0) (some (.fn (.func 11) [] [])) [v,a]
def aad:FH (wj Tryz.prog fns nz sJ (Hz [(19,13,18),(16,1,77777),(55,1,88888),(27,1,88888)]) (yB [(49,9,0,[(6,50),(6,54)]),(81,5,9,[(82,8)]),(15,12,0,[(20,23)]),(52,10,0,[(56,58)]),(13,5,4,[(3,2)]),(67,5,4,[(3,2)]),(48,5,4,[(6,2)]),(7,6,0,[(3,5)]),(14,5,3,[(15,2)]),(35,21,0,[(36,52),(37,52),(38,52),(41,52),(42,52),(43,52),(47,52),(48,52),(49,52)]),(145,8,4,[(148,2)]),(21,10,4,[(23,3),(25,3)])]) (Pd [(19,13,18),(16,1,77777),(55,1,88888),(27,1,88888)])) fns=true:=by kernel_rfl
def adO:bp.Ok (A9 bp):=Vd (λf args y h=>by
 split at h;·cases h
 exact TA LR h) (by kernel_rfl) aad (λf t h=>by cases h) Yt
def ui{f:FuncId}{args:List AV}{y:AV}(h:ac8.contains f=false)(a:ar env f args=some y):ar bp f args=some y:=Tz (by
 show(if ac8.contains f then none else ar env f args)=some y;rw[h];exact a)
@[simp] def aiG{f:FuncId}(h:sJ.contains f=false):(bp.mode f == 2)=false:=by
 show((if nz.contains f then (if sJ.contains f then 3 else 1) else if sJ.contains f then 2 else 0) == 2)=false;rw[h];split<;>rfl
@[simp] def agJ{f:FuncId}(h:sJ.contains f=false):(bp.mode f == 3)=false:=by
 show((if nz.contains f then (if sJ.contains f then 3 else 1) else if sJ.contains f then 2 else 0) == 3)=false;rw[h];split<;>rfl
def adi{f:FuncId}(h:nz.contains f=false):uJ (bp.mode f)=false:=by
 show uJ (if nz.contains f then (if sJ.contains f then 3 else 1) else if sJ.contains f then 2 else 0)=false;rw[h];cases sJ.contains f<;>rfl
@[simp] def ag9{f:FuncId}(h:nz.contains f=false)(x:AV)(H:aa)(y:AV):cU bp f x H y↔view H.get depth x=some y:=Kq (adi h) x H y
def adh{f:FuncId}(h:nz.contains f=true):uJ (bp.mode f)=true:=by
 show uJ (if nz.contains f then (if sJ.contains f then 3 else 1) else if sJ.contains f then 2 else 0)=true;rw[h];cases sJ.contains f<;>rfl
@[simp] def oQ{f:FuncId}(h:nz.contains f=true)(x:AV)(H:aa)(y:AV):cU bp f x H y↔(ah H.get depth x).Nodup/\bO H.get depth x=some y:=FG (adh h) x H y
end
section
attribute [local simp] aK az ak ay ax bD kj aM aq aA bA bw aJ aL af aW dq
section
variable{l:List eb}{x xb:AV}{st lf:Int}{dd:Bool}{b:List UInt8}(d:Sl 2 (aG l) x)(c : ∀s∈l,iX s)(j:l.length<500000)(i:Sl 1 (au b) xb)(f:b.length<1000000000)
include d c j i f
theorem JA{q:Int}(a:dd=true\/lf=0):ar env 58 [cz x st lf dd,aI q,xb]=some (cz x st lf true):=by
 refine aF rfl (by kernel_rfl) (oE _ _ _ _ _ λg=>?_);simp only[cz];rcases a with rfl | rfl
 ·simp[aj, *,fU,d.r]
 cases dd<;>simp[aj, *,fU,d.r]
theorem MQ{q:Int}(h : ¬lf=0)(n : -1<=lf/\lf<2147483648):ar env 58 [cz x st lf false,aI q,xb]=some (cz (.bg 2 (aG (sR l q b)) none) st (if lf>0 then lf - 1 else lf) false):=by
 refine aF rfl (by kernel_rfl) (oE _ _ _ _ _ λg=>?_);have o:=acu (q:=q) d c (by omega) i f;have k:=i.r;have m:=iQa (lf - 1) (by omega);generalize aG (sR l q b)=W at *;simp only[cz];clear c;by_cases a:lf>0;·have e:0<lf:=a;rw[if_pos a];simp[aj, *,fU,d.r]
 have e : ¬0<lf:=a;rw[if_neg a];simp[aj, *,fU,d.r]
theorem Yd(q:Int) : ∀s∈sR l q b,iX s:=by
 intro s a;unfold sR at a;rcases mq.1 a with h | h
 ·exact c s (Ep.1 h).1
 rcases fh.1 h with rfl | h
 ·exact rS _ _
 exact c s (Ep.1 h).1
end
def WK(q:Int)(b:List UInt8) : ∀(l:List eb)(a:Int),gp a l=true->gG (Jj q b l)=gG (sR l q b):=by
 have g : ∀(l:List eb)(a:Int),gp a l=true->q<=a->Me l q=[]/\JK l q=l:=by
  intro l a h z;have k:=QH l a h;constructor;·unfold Me;rw[List.filter_eq_nil_iff];intro s u;have:=k s u;simp;omega
  unfold JK;rw[List.filter_eq_self];intro s u;have:=k s u;simp;omega
 intro l;induction l with
 | nil=>intro a _;rfl
 | cons p l y=>
  intro a h;have v:gp p.pos l=true:=by simp[gp]at h;exact h.2
  unfold Jj;by_cases t:p.pos<q
  ·rw[if_pos t];have o:Me (p :: l) q=p :: Me l q:=by simp[Me,t]
   have m:JK (p :: l) q=JK l q:=by unfold JK;rw[OT (by simp;omega)]
   have:=y p.pos v;unfold sR at this ⊢;rw[o,m];simp only[gG,xp,KI]at this ⊢;rw[this];rfl
  rw[if_neg t];obtain⟨w,n⟩:=g l p.pos v (by omega);have o:Me (p :: l) q=[]:=by unfold Me at w ⊢;rw[OT (by simpa using t)];exact w
  by_cases e:p.pos=q
  ·rw[if_pos e];have m:JK (p :: l) q=l:=by unfold JK at n ⊢;rw[OT (by simp;omega)];exact n
   unfold sR;rw[o,m];simp[gG,mv,Q9,oC,XZ]
  rw[if_neg e];have m:JK (p :: l) q=p :: l:=by unfold JK at n ⊢;rw[List.filter_cons_of_pos (by simp;omega),n]
  unfold sR;rw[o,m];simp[gG,mv,Q9,oC,XZ]
def ahF(q:Int) : ∀(l:List eb)(a:Int),gp a l=true->Ue l q=XW l q:=by
 have n : ∀(l:List eb)(a:Int),gp a l=true->q<=a->Ue l q=zer:=by
  intro l;induction l with
  | nil=>intro a _ _;rfl
  | cons p l k=>
   intro a h o;have g:gp p.pos l=true:=by simp[gp]at h;exact h.2
   have hp:=QH (p :: l) a h p (by simp);show(if p.pos=q then p.bs else Ue l q)=zer;rw[if_neg (by omega)];exact k p.pos g (by omega)
 intro l;induction l with
 | nil=>intro a _;rfl
 | cons p l k=>
  intro a h;have g:gp p.pos l=true:=by simp[gp]at h;exact h.2
  show(if p.pos=q then p.bs else Ue l q)=(if p.pos<q then XW l q else if p.pos=q then p.bs else zer);by_cases m:p.pos<q;·rw[if_neg (by omega),if_pos m];exact k p.pos g
  rw[if_neg m];by_cases e:p.pos=q;·rw[if_pos e,if_pos e]
  rw[if_neg e,if_neg e];exact n l p.pos g (by omega)
end
section
def Ct:Code:=(Tryz.f46.body).getD .skip
def JI:Nat->Option (List Nat):=λi=>none
def JM:Nat->Bool:=λi=>false
def CA(g:Nat->AV)(x0:AV)(H:aa)(Q:AV->aa->Prop):Prop:=
 de H 5 57 x0 λc=>
 aaF H 6 57 c λa b=>
 CC b 57 a x0 λe d=>
 Q a d
def Jz(x0:AV)(H:aa)(Q:AV->aa->Prop)(h : ∀g,CA g x0 H Q):bS bp Tryz.f46 0 [.code Ct] [(0,x0)] H Q:=⟨λg=>sQ (live:=JI) (cut:=JM) (n:=500) (Eq.mp (by kernel_rfl) (h g))⟩
def bW:Code:=(Tryz.f45.body).getD .skip
def iw:Nat->Option (List Nat):=λi=>none
def iz:Nat->Bool:=λi=>false
def bX(dep:Nat)(g:Nat->AV)(x0:AV)(H:aa)(Q:AV->aa->Prop):Prop:=
 QZ 22 3 x0 λc=>
 br (some c) (
  Q (.v (.slice none 0 0)) H) (
  iE (lb env.P false true H (⟨(dep+1),5,aa.gen H (dep+1) 5,0⟩:Ref) 22 0 (some [])) λd a=>
  QU a dep 7 22 22 d x0 λb e=>
  Q b e)
def dK(dep:Nat)(x0:AV)(H:aa)(Q:AV->aa->Prop)(h : ∀g,bX dep g x0 H Q):bS bp Tryz.f45 (dep+1) [.code bW] [(0,x0)] H Q:=⟨λg=>sQ (live:=iw) (cut:=iz) (n:=500) (Eq.mp (by kernel_rfl) (h g))⟩
def Be:Code:=(Tryz.f23.body).getD .skip
def mQ:=sL Tryz.f23 3
def AU:Nat->Option (List Nat):=λi=>cond (Nat.beq i 3) (some [10,3,2,1,9]) (none)
def Ba:Nat->Bool:=λi=>false
def sF(g:Nat->AV)(x0:AV)(H:aa)(Q:AV->aa->Prop):Prop:=
 dH H 1 24 x0 λc e=>
 dV e 2 24 λi a=>
 ae 24 c 0 λf=>
 ad a 22 f λh=>
 iE (bm bp true (ar bp) (dg bp 0) a (Ref.mk 0 7 (aa.gen a 0 7) 0) (some (.fn (.func 45) [] [])) [h]) λd b=>
 de b 9 22 d λj=>
 bS bp Tryz.f23 0 mQ [(10,(.v (.int .i64 0))),(3,d),(2,i),(1,c),(9,j)] b Q
def Hs(x0:AV)(H:aa)(Q:AV->aa->Prop)(h : ∀g,sF g x0 H Q):bS bp Tryz.f23 0 [.code Be] [(0,x0)] H Q:=⟨λg=>sQ (live:=AU) (cut:=Ba) (n:=500) (Eq.mp (by kernel_rfl) (h g))⟩
def ni(g:Nat->AV)(a c h e l:AV)(H:aa)(Q:AV->aa->Prop):Prop:=
 eU 3 10 9 a l λo=>
 br (some o) (
  cH H 22 c a λj=>
  ae 59 j 1 λk=>
  ad H 57 k λf=>
  iE (bm bp true (ar bp) (dg bp 0) H (Ref.mk 0 20 (aa.gen H 0 20) 0) (some (.fn (.func 46) [] [])) [f]) λm b=>
  cH b 22 c a λi=>
  ae 59 i 1 λp=>
  aC b 57 p m λq d=>
  fY 3 10 1 a λn=>
  bS bp Tryz.f23 0 mQ [(10,n),(3,c),(2,h),(1,e),(9,l)] d Q) (
  ae 24 e 0 λj=>
  aC H 22 j c λk b=>
  ad b 24 e λf=>
  aC b 24 h f λm d=>
  aN d h 24 λi=>
  Q i d)
def o3(a c b d e:AV)(H:aa)(Q:AV->aa->Prop)(h : ∀g,ni g a c b d e H Q):bS bp Tryz.f23 0 mQ [(10,a),(3,c),(2,b),(1,d),(9,e)] H Q:=DU λg=>sQ (live:=AU) (cut:=Ba) (n:=500) (Eq.mp (by kernel_rfl) (h g))
def uN:Code:=(Tryz.f24.body).getD .skip
def F7:Nat->Option (List Nat):=λi=>none
def Ga:Nat->Bool:=λi=>false
def uR(g:Nat->AV)(x0 O R:AV)(H:aa)(Q:AV->aa->Prop):Prop:=
 dH H 3 24 x0 λa H1=>
 dV H1 6 24 λe H2=>
 ad H2 24 a λv3=>
 iE (bm bp true (ar bp) (dg bp 0) H2 (Ref.mk 0 13 (aa.gen H2 0 13) 0) (some (.fn (.func 47) [] [])) [v3,O]) λv4 K=>
 gC 37 14 0 v4 λv5=>
 br (some v5) (
  cS 24 λV=>
  aC K 24 e V λv7 J=>
  aN J e 24 λL=>
  Q (.tup [L,v4]) J) (
  de K 19 57 R λV=>
  gC 3 19 128 V λv7=>
  br (some v7) (
   cS 24 λL=>
   aC K 24 e L λv9 J=>
   aN J e 24 λS=>
   Q (.tup [S,(.v (.int .i64 2))]) J) (
   ad K 24 a λL=>
   iE (bm bp true (ar bp) (dg bp 0) K (Ref.mk 0 23 (aa.gen K 0 23) 0) (some (.fn (.func 23) [] [])) [L]) λv9 J=>
   aC J 24 a v9 λS C=>
   ae 24 a 3 λW=>
   ad C 4 W λx=>
   gQ x false (aw 24 a 2) λU=>
   gQ x false (an C 3 U) λv14=>
   gQ x false (tS 3 29 0 v14) λv15=>
   dh x v15 λZ=>
   br (some Z) (
    ae 24 a 3 λF=>
    OH C 4 F λN w=>
    ad w 24 a λG=>
    aC w 24 e G λA l=>
    aN l e 24 λj=>
    Q (.tup [j,(.v (.int .i64 0))]) l) (
    ae 24 a 2 λF=>
    ad C 3 F λN=>
    sN 3 36 0 N λG=>
    br (some G) (
     ae 24 a 2 λA=>
     ad C 3 A λj=>
     BT 3 39 1 j λn=>
     ae 24 a 2 λI=>
     aC C 3 I n λP w=>
     ad w 24 a λt=>
     aaJ w 45 t O λh l=>
     aQ h 0 λc=>
     aQ h 1 λu=>
     lA u λs=>
     br (some s) (
      ae 24 a 0 λi=>
      ad l 22 i λk=>
      tQ 59 0 O λf=>
      mw l 55 22 1 0 f λd B=>
      aaK B 56 k c d λp H9=>
      ae 24 a 0 λz=>
      aC H9 22 z p λy b=>
      ae 24 a 0 λE=>
      ad b 22 E λq=>
      Q1 b 62 R λM m=>
      cH m 22 q c λD=>
      ae 59 D 1 λv41=>
      aC m 57 v41 M λv42 o=>
      ad o 24 a λY=>
      aC o 24 e Y λv44 T=>
      aN T e 24 λX=>
      Q (.tup [X,(.v (.int .i64 0))]) T) (
      ae 24 a 0 λi=>
      ad l 22 i λk=>
      Q1 l 62 R λf B=>
      cH B 22 k c λd=>
      ae 59 d 1 λp=>
      aC B 57 p f λz H9=>
      ad H9 24 a λy=>
      aC H9 24 e y λE b=>
      aN b e 24 λq=>
      Q (.tup [q,(.v (.int .i64 0))]) b)) (
     ad C 24 a λA=>
     aaJ C 45 A O λj w=>
     aQ j 0 λn=>
     aQ j 1 λI=>
     lA I λP=>
     br (some P) (
      ae 24 a 0 λt=>
      ad w 22 t λh=>
      tQ 59 0 O λc=>
      mw w 55 22 1 0 c λu l=>
      aaK l 56 h n u λs B=>
      ae 24 a 0 λi=>
      aC B 22 i s λk H9=>
      ae 24 a 0 λf=>
      ad H9 22 f λd=>
      Q1 H9 62 R λp b=>
      cH b 22 d n λz=>
      ae 59 z 1 λy=>
      aC b 57 y p λE m=>
      ad m 24 a λq=>
      aC m 24 e q λM o=>
      aN o e 24 λD=>
      Q (.tup [D,(.v (.int .i64 0))]) o) (
      ae 24 a 0 λt=>
      ad w 22 t λh=>
      Q1 w 62 R λc l=>
      cH l 22 h n λu=>
      ae 59 u 1 λs=>
      aC l 57 s c λi B=>
      ad B 24 a λk=>
      aC B 24 e k λf H9=>
      aN H9 e 24 λd=>
      Q (.tup [d,(.v (.int .i64 0))]) H9)))))
def Ag(x0 b a:AV)(H:aa)(Q:AV->aa->Prop)(h : ∀g,uR g x0 b a H Q):bS bp Tryz.f24 0 [.code uN] [(0,x0),(1,b),(2,a)] H Q:=⟨λg=>sQ (live:=F7) (cut:=Ga) (n:=500) (Eq.mp (by kernel_rfl) (h g))⟩
def Ao:Code:=(Tryz.f18.body).getD .skip
def nH:=sL Tryz.f18 14
def Ak:Nat->Option (List Nat):=λi=>cond (Nat.beq i 14) (some [4,50,2,11,10,48,9,49]) (none)
def An:Nat->Bool:=λi=>false
def lQ(g:Nat->AV)(x0 s:AV)(H:aa)(Q:AV->aa->Prop):Prop:=
 dH H 2 24 x0 λy J=>
 dV J 4 24 λe E=>
 ad E 24 y λL=>
 aaI E 16 L λD G=>
 aQ D 0 λM=>
 aQ D 1 λC=>
 dV G 6 63 λF N=>
 aC N 63 F M λO m=>
 gC 37 20 0 C λI=>
 br (some I) (
  cS 24 λk=>
  aC m 24 e k λo b=>
  aN b e 24 λh=>
  Q (.tup [h,C]) b) (
  ae 24 y 1 λk=>
  ad m 3 k λo=>
  pU 3 26 1 o λh=>
  br (some h) (
   cS 24 λc=>
   aC m 24 e c λq b=>
   aN b e 24 λa=>
   Q (.tup [a,(.v (.int .i64 2))]) b) (
   iE (bm bp true (ar bp) (dg bp 0) m (Ref.mk 0 30 (aa.gen m 0 30) 0) (some (.fn (.func 35) [] [])) [s]) λc b=>
   gC 37 31 0 c λq=>
   br (some q) (
    cS 24 λa=>
    aC b 24 e a λp t=>
    aN t e 24 λf=>
    Q (.tup [f,c]) t) (
    ae 63 F 0 λa=>
    ad b 3 a λp=>
    fY 3 36 1 p λf=>
    de b 39 50 s λz=>
    qN 63 0 f 1 z λu=>
    dV b 9 63 λd t=>
    aC t 63 d u λK l=>
    ae 63 d 0 λA=>
    ad l 3 A λx=>
    wO 3 42 2147483648 x λw=>
    br (some w) (
     cS 24 λj=>
     aC l 24 e j λn H9=>
     aN H9 e 24 λi=>
     Q (.tup [i,(.v (.int .i64 9))]) H9) (
     ae 63 d 0 λj=>
     ad l 3 j λn=>
     my 3 46 2 n λi=>
     de l 49 50 s λB=>
     bS bp Tryz.f18 0 nH [(4,e),(50,(.v (.int .i64 0))),(2,y),(11,(.v (.int .i64 0))),(10,i),(48,s),(9,d),(49,B)] l Q))))
def FZ(x0 a:AV)(H:aa)(Q:AV->aa->Prop)(h : ∀g,lQ g x0 a H Q):bS bp Tryz.f18 0 [.code Ao] [(0,x0),(1,a)] H Q:=⟨λg=>sQ (live:=Ak) (cut:=An) (n:=500) (Eq.mp (by kernel_rfl) (h g))⟩
def qL(g:Nat->AV)(j b m x d i B h:AV)(H:aa)(Q:AV->aa->Prop):Prop:=
 eU 3 50 49 b h λF=>
 br (some F) (
  cH H 50 i b λu=>
  ad H 43 u λw=>
  dV H 13 43 λo l=>
  aC l 43 o w λC e=>
  ad e 24 m λn=>
  C9 3 1 57 d λy=>
  fY 3 60 1 b λq=>
  ad e 43 o λz=>
  iE (bm bp true (ar bp) (dg bp 0) e (Ref.mk 0 63 (aa.gen e 0 63) 0) (some (.fn (.func 7) [] [])) [n,y,x,q,z]) λa k=>
  aQ a 0 λv=>
  aQ a 1 λp=>
  aQ a 2 λf=>
  aC k 24 m v λG D=>
  gC 37 67 0 f λs=>
  br (some s) (
   cS 24 λc=>
   aC D 24 j c λE A=>
   aN A j 24 λt=>
   Q (.tup [t,f]) A) (
   fY 3 50 1 b λc=>
   bS bp Tryz.f18 0 nH [(4,j),(50,c),(2,m),(11,p),(10,d),(48,i),(9,B),(49,h)] D Q)) (
  ad H 24 m λu=>
  C9 3 6144 73 d λw=>
  ad H 63 B λo=>
  iE (bm bp false (ar bp) (dg bp 0) H (Ref.mk 0 76 (aa.gen H 0 76) 0) (some (.fn (.func 36) [] [])) [o]) λC l=>
  iE (bm bp false (ar bp) (dg bp 0) l (Ref.mk 0 77 (aa.gen l 0 77) 0) (some (.fn (.func 24) [] [])) [u,w,C]) λn e=>
  aQ n 0 λy=>
  aQ n 1 λq=>
  aC e 24 j y λz k=>
  aN k j 24 λa=>
  Q (.tup [a,q]) k)
def vO(j b f c e a i d:AV)(H:aa)(Q:AV->aa->Prop)(h : ∀g,qL g j b f c e a i d H Q):bS bp Tryz.f18 0 nH [(4,j),(50,b),(2,f),(11,c),(10,e),(48,a),(9,i),(49,d)] H Q:=DU λg=>sQ (live:=Ak) (cut:=An) (n:=500) (Eq.mp (by kernel_rfl) (h g))
def jC:Code:=(Tryz.f4.body).getD .skip
def fc:=sL Tryz.f4 12
def mP:Nat->Option (List Nat):=λi=>cond (Nat.beq i 12) (some [21,16,2,5,20]) (none)
def mT:Nat->Bool:=λi=>false
def jG(g:Nat->AV)(x0 z:AV)(H:aa)(Q:AV->aa->Prop):Prop:=
 dH H 2 24 x0 λt H1=>
 ad H1 24 t λv2=>
 iE (bm bp true (ar bp) (dg bp 0) H1 (Ref.mk 0 23 (aa.gen H1 0 23) 0) (some (.fn (.func 5) [] [])) [v2]) λy H2=>
 gQ y false (bL z) λv4=>
 gW y false H2 (bm bp true (ar bp) (dg bp 0) H2 (Ref.mk 0 26 (aa.gen H2 0 26) 0) (some (.fn (.func 13) [] [])) [v4,(.v (.int .i64 40))]) λv5 u=>
 gQ y false (bL v5) λI=>
 gQ I true (bL z) λv7=>
 gQ I true (BS u 29 50 v7) λv8=>
 gQ I true (z8 3 29 2048 v8) λv9=>
 gQ y false (Mg I v9) λv10=>
 dh y v10 λe=>
 gQ e false (bL z) λM=>
 gQ e false (BS u 35 50 M) λP=>
 gQ e false (Fg 3 35 2060 P) λv14=>
 dh e v14 λv15=>
 br (some v15) (
  Q (.v (.bool true)) u) (
  ad u 24 t λv16=>
  iE (bm bp true (ar bp) (dg bp 0) u (Ref.mk 0 39 (aa.gen u 0 39) 0) (some (.fn (.func 6) [] [])) [v16]) λv17 H4=>
  dV H4 5 24 λb H5=>
  aC H5 24 b v17 λv19 H6=>
  ad H6 24 b λv20=>
  aaI H6 42 v20 λE H7=>
  aQ E 0 λv22=>
  aQ E 1 λv23=>
  dV H7 6 63 λA H8=>
  aC H8 63 A v22 λv25 H9=>
  ad H9 24 t λX=>
  iE (bm bp true (ar bp) (dg bp 0) H9 (Ref.mk 0 47 (aa.gen H9 0 47) 0) (some (.fn (.func 15) [] [])) [X]) λB H10=>
  aQ B 0 λv28=>
  aQ B 1 λv29=>
  dV H10 8 63 λx H11=>
  aC H11 63 x v28 λv31 m=>
  ad m 24 b λO=>
  iE (bm bp true (ar bp) (dg bp 0) m (Ref.mk 0 52 (aa.gen m 0 52) 0) (some (.fn (.func 16) [] [])) [O]) λo H13=>
  aQ o 0 λv34=>
  aQ o 1 λv35=>
  aQ o 2 λT=>
  dV H13 11 63 λw H14=>
  aC H14 63 w v35 λv38 n=>
  ad n 24 t λR=>
  iE (bm bp true (ar bp) (dg bp 0) n (Ref.mk 0 58 (aa.gen n 0 58) 0) (some (.fn (.func 17) [] [])) [R]) λl L=>
  aQ l 0 λv41=>
  aQ l 1 λV=>
  aQ l 2 λv43=>
  dV L 14 63 λG H17=>
  aC H17 63 G V λv45 p=>
  ad p 24 b λv46=>
  iE (bm bp true (ar bp) (dg bp 0) p (Ref.mk 0 65 (aa.gen p 0 65) 0) (some (.fn (.func 18) [] [])) [v46,z]) λF H19=>
  aQ F 0 λJ=>
  aQ F 1 λv49=>
  dV H19 16 24 λq H20=>
  aC H20 24 q J λv51 s=>
  ad s 24 t λv52=>
  iE (bm bp true (ar bp) (dg bp 0) s (Ref.mk 0 71 (aa.gen s 0 71) 0) (some (.fn (.func 19) [] [])) [v52,z]) λD H22=>
  aQ D 0 λv54=>
  aQ D 1 λZ=>
  dV H22 18 24 λC H23=>
  aC H23 24 C v54 λv57 c=>
  ad c 63 A λv58=>
  ad c 63 x λv59=>
  uU 63 74 75 v58 v59 λi=>
  gQ i true (bL v23) λK=>
  gQ i true (bL v29) λS=>
  gQ i true (k7 3 78 79 K S) λv63=>
  cu i v63 λf=>
  gQ f true (bL v34) λv65=>
  gQ f true (bL v41) λv66=>
  gW f true c (bm bp true (ar bp) (dg bp 0) c (Ref.mk 0 85 (aa.gen c 0 85) 0) (some (.fn (.func 12) [] [])) [v65,v66]) λv67 a=>
  cu f v67 λj=>
  gQ j true (an a 63 w) λv69=>
  gQ j true (an a 63 G) λv70=>
  gQ j true (k7 63 88 89 v69 v70) λv71=>
  cu j v71 λk=>
  gQ k true (bL T) λY=>
  gQ k true (bL v43) λv74=>
  gQ k true (k7 3 93 94 Y v74) λv75=>
  cu k v75 λh=>
  gQ h true (an a 24 q) λv77=>
  gQ h true (an a 24 C) λW=>
  gW h true a (aaH a 100 v77 W) λv79 H26=>
  cu h v79 λd=>
  gQ d true (bL v49) λU=>
  gQ d true (bL Z) λv82=>
  gQ d true (k7 3 103 104 U v82) λv83=>
  cu d v83 λN=>
  bS bp Tryz.f4 0 fc [(21,(.v (.int .i64 0))),(16,q),(2,t),(5,b),(20,N)] H26 Q)
def mG(x0 a:AV)(H:aa)(Q:AV->aa->Prop)(h : ∀g,jG g x0 a H Q):bS bp Tryz.f4 0 [.code jC] [(0,x0),(1,a)] H Q:=⟨λg=>sQ (live:=mP) (cut:=mT) (n:=500) (Eq.mp (by kernel_rfl) (h g))⟩
def iA(g:Nat->AV)(c b v u a:AV)(H:aa)(Q:AV->aa->Prop):Prop:=
 ae 24 b 0 λA=>
 ad H 22 A λB=>
 de H 110 22 B λz=>
 eU 3 107 110 c z λx=>
 br (some x) (
  ae 24 b 0 λm=>
  ad H 22 m λt=>
  cH H 22 t c λs=>
  ae 59 s 1 λh=>
  ad H 57 h λy=>
  ae 24 b 0 λi=>
  ad H 22 i λd=>
  cH H 22 d c λf=>
  ae 59 f 1 λj=>
  ad H 57 j λp=>
  eX H 57 p 0 λn=>
  ad H 5 n λo=>
  dL (bC env.P .add 5 (Operand.tmp 127) (.const (.int .u8 1)) (some o) (some (a8 1))) λe=>
  eX H 57 y 0 λq=>
  aC H 5 q e λw l=>
  fY 3 112 1 c λk=>
  bS bp Tryz.f4 0 fc [(21,k),(16,b),(2,v),(5,u),(20,a)] l Q) (
  gQ a true (an H 24 u) λm=>
  gQ a true (an H 24 v) λt=>
  gW a true H (aaH H 134 m t) λs l=>
  cu a s λh=>
  Q h l)
def lB(c b d e a:AV)(H:aa)(Q:AV->aa->Prop)(h : ∀g,iA g c b d e a H Q):bS bp Tryz.f4 0 fc [(21,c),(16,b),(2,d),(5,e),(20,a)] H Q:=DU λg=>sQ (live:=mP) (cut:=mT) (n:=500) (Eq.mp (by kernel_rfl) (h g))
end
section
attribute [local simp] aK az ak ay ax nz sJ bD kj aM aq aA bA bw aJ aL af aW dq
def abW{x:AV}{l:List UInt8}(k:Sl 1 (au l) x)(u:l.length<1000000000):ar bp 46 [x]=some (.fsl 1 (au l) none):=by
 refine xf (fn:=Tryz.f46) (c:=Ct) rfl (by kernel_rfl) (by kernel_rfl) (by kernel_rfl) (by kernel_rfl) ?_;refine Jz _ _ _ λg=>?_;have w:=k.r;have a:=yK (P:=env.P) (t:=57) (z:=1) (by':=1) (zz:=a8 0) (r:=⟨0,6,0,0⟩) (by kernel_rfl) (by kernel_rfl) (n:=l.length) (by simp only[aJ];omega) (by omega);have e:(au l).length=l.length:=by simp
 have o : ∀(H:aa)(L:List AV),L.length=l.length->H.get ⟨0,6,0,0⟩=some ⟨1,L,true,false⟩->AH env.P H (some 57) (.bk ⟨0,6,0,0⟩ 0 l.length none) x=some (aI l.length,H.put ⟨0,6,0,0⟩ (some ⟨1,au l,true,false⟩)):=by
  intro H L m j;have s:(au l).take l.length=au l:=dq (by omega);have b:L.drop l.length=[]:=ya (by omega);have v:Nat.min (au l).length l.length=l.length:=by rw[e];exact iQU _
  rcases k with ⟨rfl,p⟩ | ⟨c,rfl,p⟩
  ·have f:l=[]:=(by apply wU.1;rw[<-e,p];rfl);subst f;have h:L=[]:=wU.1 m;subst h;have i:jW aO=true:=rfl;simp only[AH,i,if_true,eD,j];simp
  have i:jW (.bg 1 (au l) c)=false:=rfl;have q:cy H.get (.bg 1 (au l) c)=some (1,au l):=rfl;simp only[AH,i,q,eD,j];simp[v,s,b,m,e]
 have d:=λH=>o H (List.replicate l.length (a8 0)) (by simp);clear o;simp[aj, *,CA,u,a,d]
def Oe(dep:Nat)(H:aa):dg bp dep (.fn 45) [aO] H=some (aO,H):=by
 obtain⟨a,b,d,rfl,rfl⟩ : ∃a b,dg bp dep (.fn 45) [aO] H=some (a,b)/\a=aO/\b=H:=by
  refine qn (fn:=Tryz.f45) (c:=bW) (by kernel_rfl) (by kernel_rfl) (by kernel_rfl) (by kernel_rfl) (by kernel_rfl) ?_ ?_;·refine dK _ _ _ _ λg=>?_;simp[aj, *,bX,abg]
  rfl
 exact d
def Of(dep:Nat)(H:aa)(c:Option Nat):dg bp dep (.fn 45) [.bg 2 [] c] H=some (.bk ⟨dep+1,5,H.gen (dep+1) 5,0⟩ 0 0 (some 0),(⟨dep+1,5,H.gen (dep+1) 5,0⟩,some ⟨2,[],true,false⟩) :: H):=by
 obtain⟨b,a,d,rfl,rfl⟩ : ∃b a,dg bp dep (.fn 45) [.bg 2 [] c] H=some (b,a)/\b = .bk ⟨dep+1,5,H.gen (dep+1) 5,0⟩ 0 0 (some 0)/\a=(⟨dep+1,5,H.gen (dep+1) 5,0⟩,some ⟨2,[],true,false⟩) :: H:=by
  refine qn (fn:=Tryz.f45) (c:=bW) (by kernel_rfl) (by kernel_rfl) (by kernel_rfl) (by kernel_rfl) (by kernel_rfl) ?_ ?_;·refine dK _ _ _ _ λg=>?_;simp[aj, *,bX]
  rfl
 exact d
def aao{es:List AV}(a:es≠[])(b:es.length<1000000)(dep:Nat)(H:aa)(c:Option Nat):dg bp dep (.fn 45) [.bg 2 es c] H=some (.dsl (pO 7 H) 0 es.length none,Xj 2 5 7 H es false):=by
 obtain⟨e,es,rfl⟩:=iQz a;refine qB.2 ⟨0,λm _=>?_⟩;have:bp.thrSpec 45 [.bg 2 (e :: es) c] H=some (.dsl (pO 7 H) 0 (es.length+1) none,Xj 2 5 7 H (e :: es) false):=by
  show(if 45=49 then xl Tryz.prog 22 40 25 [.bg 2 (e :: es) c] H else if 45=45 then yY 2 32 5 7 [.bg 2 (e :: es) c] H else none)=_;rw[if_neg (by decide),if_pos rfl];simp only[gD]at b;exact if_pos ⟨rfl,by decide,by simp only[aJ];omega⟩
 unfold eF;simp only[this,gD]
def Kw{f:FuncId}(a:(bp.mode f == 2)=true)(dep:Nat)(H:aa)(r:Ref)(first args captured:List AV) :
 bm bp true (ar bp) (dg bp dep) H r (some (.fn (.func f) first captured)) args=dg bp dep (.fn f) (first++args++captured) H:=by
 have h:bp.mode f=2:=by simpa using a
 simp[bm,k9,nn,lY,EU,h]
def C0(dep:Nat)(H:aa)(r:Ref)(args:List AV):bm bp true (ar bp) (dg bp dep) H r (some (.fn (.func 45) [] [])) args=dg bp dep (.fn 45) args H:=by
 rw[Kw (by rfl)];simp
def FE(dep:Nat)(H:aa)(r:Ref)(args:List AV):bm bp true (ar bp) (dg bp dep) H r (some (.fn (.func 49) [] [])) args=dg bp dep (.fn 49) args H:=by
 rw[Kw (by rfl)];simp
def S7(s:eb):AV := .agg [aI s.pos,.fsl 1 (au s.bs) none]
def dt(l:List eb):List AV:=l.map S7
@[simp] def yF(l:List eb):(dt l).length=l.length:=by simp[dt]
def EK(l:List eb) : ∀e∈dt l,WU e=true:=by
 intro e a;obtain⟨s,_,rfl⟩:=nO.1 a;rfl
def J3(l:List eb):(dt l).map HF=aG (mv l):=by
 unfold dt aG mv;rw[GG,GG];rfl
def MO{s:eb}(h:iX s) : ∃a,s.enc = .agg a/\a.all AP=true:=by
 refine⟨_,rfl,?_⟩;rcases h with ⟨h,_⟩ | ⟨c,h,_⟩<;>simp[h,AP]
def RU{g:cV}{l:List eb}(i : ∀s∈l,iX s):F2 (DE g) (aG l) (aG l)/\(aG l).flatMap jf=[]:=Wg λe a=>by
 obtain⟨s,b,rfl⟩:=nO.1 a;exact MO (i s b)
def xi(l:List eb)(k:Nat):List AV:=dt (l.take k)++aG (l.drop k)
def TN(l:List eb)(k:Nat)(h:k<=l.length):(xi l k).length=l.length:=by simp[xi];omega
def W3(l:List eb)(k:Nat)(h:k<l.length):(xi l k)[k]?=some (.agg [aI l[k].pos,l[k].av]):=by
 have a:(dt (l.take k)).length=k:=by simp;omega
 unfold xi;rw[gU (by omega),a,pV];simp[aG,h,eb.enc]
def TM(l:List eb)(k:Nat)(h:k<l.length):(xi l k).set k (S7 l[k])=xi l (k+1):=by
 unfold xi;have a:(dt (l.take k)).length=k:=by simp;omega
 have b:l.drop k=l[k] :: l.drop (k+1):=KX h;rw[Fm _ _ (by omega),a,pV,b];show dt (l.take k)++(eb.enc l[k] :: aG (l.drop (k+1))).set 0 (S7 l[k])=_;rw[Fi,UC h];unfold dt;rw[zh,qP];rfl
def xj{H:aa}(a:Fr H){d t:Nat}:H.get ⟨d,t,H.gen d t,0⟩=none:=a d t _ 0 (cG _)
section
variable{l:List eb}{x:AV}{st lf:Int}{dd:Bool}(o:Sl 2 (aG l) x)(i : ∀s∈l,iX s)(n : ∀s∈l,s.bs.length<1000000000)(u:l.length<1000000)
include o i n u
theorem Ob{r1 r2 r3:Ref}(n3:r1≠r2){Q:AV->aa->Prop} : ∀(m k:Nat)(H:aa)(rs:List Ref),k+m=l.length->Fr H->H.get r1=some ⟨4,[cz x st lf dd],false,false⟩->H.get r2=some ⟨4,[cz aO 0 0 false],false,false⟩ ->
 lu 2 H r3 (xi l k) rs->r1 ∉ rs->r2 ∉ rs ->
 (∀H' rs,lu 2 H' r3 (dt l) rs->Q (cz (.dsl r3 0 l.length none) st lf dd) H') ->
 bS bp Tryz.f23 0 mQ [(10,aI k),(3,.dsl r3 0 l.length none),(2,.ptr r2 0 0),(1,.ptr r1 0 0),(9,aI l.length)] H Q:=by
 intro m;induction m with
 | zero=>
  intro k H rs C T F M f K J I;obtain rfl:k=l.length:=by omega
  have e:xi l l.length=dt l:=(by simp[xi,aG]);rw[e]at f;have n1:r1≠r2:=n3;have n4:r2≠r1:=λe=>n3 e.symm;refine o3 _ _ _ _ _ _ _ λg=>?_;have C : ∀(b P:Option bj),lu 2 ((H.put r1 b).put r2 P) r3 (dt l) rs:=λb P=>f.bD λq A k C=>by
   rw[aa.ab,if_neg (λe:q=r2=>J (by rw[<-e];exact A)),aa.ab,if_neg (λe:q=r1=>K (by rw[<-e];exact A))];exact C
  have V:=λb P=>I _ rs (C b P);clear I C f;simp only[cz]at F M V;simp[aj, *,ni,aa.ab]
 | succ m ih=>
  intro k H rs C T F M f K J I;have O:k<l.length:=by omega
  have hp:=i l[k] (eE _);have ho:=abW hp (n l[k] (eE _));have D:=hp.r;have e3:=iQa ((k:Int)+1) (by omega);have z:=W3 l k O;obtain⟨q,A⟩ : ∃q:Ref,q=⟨0,20,H.gen 0 20,0⟩:=⟨_,rfl⟩;have c:H.get q=none:=by rw[A];exact xj T
  obtain⟨es,B,S,g2,g3,U⟩:=f.set z (j:=1) (by simp) c 1 (by decide) (au l[k].bs) none;obtain⟨es',xs,N,g5,g6,R,_⟩:=f.at z;rw[S]at N;cases N;have hrd:bF es k 1 1 false=some l[k].av:=by
   unfold bF;rw[g6];match xs,R with
   | [a,b],R=>
    have w:=R.2.1;rcases w with ⟨rfl,_⟩ | ⟨_,_,_,_,_,w,_⟩
    ·rfl
    rw[w]at D;exact absurd (D.2.1 (λ_=>none) 0) (by simp[Ab.view])
  have E : .agg (patch [aI l[k].pos,l[k].av] 1 [.fsl 1 (au l[k].bs) none])=S7 l[k]:=rfl;rw[E,TM l k O]at U;have t:r3∈rs:=(by obtain⟨_,_,_,hrs,_⟩:=f;rw[hrs];simp);have u1:r3≠r1:=λe=>K (e ▸ t);have u2:r3≠r2:=λe=>J (e ▸ t);have X:r1≠r3:=λe=>u1 e.symm;have u2':r2≠r3:=λe=>u2 e.symm;have v1:q≠r1:=λe=>by rw[e,F]at c;cases c
  have v2:q≠r2:=λe=>by rw[e,M]at c;cases c
  have W:q≠r3:=λe=>by rw[e,S]at c;cases c
  have key : ∀Q':aa->Prop,(∀H',Fr H'->H'.get r1=some ⟨4,[cz x st lf dd],false,false⟩->H'.get r2=some ⟨4,[cz aO 0 0 false],false,false⟩->(∃d,lu 2 H' r3 (xi l (k+1)) d/\r1 ∉ d/\r2 ∉ d)->Q' H') ->
   Q' ((q,some ⟨1,au l[k].bs,true,false⟩) :: H.put r3 (some ⟨2,B,false,false⟩)):=by
   intro Q' h;obtain⟨L,v⟩ : ∃L:aa,L=(q,some ⟨1,au l[k].bs,true,false⟩) :: H.put r3 (some ⟨2,B,false,false⟩):=⟨_,rfl⟩;have G : ∀p,L.get p=if q=p then some ⟨1,au l[k].bs,true,false⟩ else if p=r3 then some ⟨2,B,false,false⟩ else H.get p:=λp=>by rw[v,aa.cL,aa.ab]
   obtain⟨d,a1,a2⟩:=U L (by rw[G,if_neg W,if_pos rfl]) (by rw[G,if_pos rfl]) (λp b hp w=>by
    rw[G,if_neg (λe=>by rw[<-e,c]at w;cases w),if_neg hp];exact w)
   rw[<-v];refine h L ?_ (by rw[G,if_neg v1,if_neg X];exact F) (by rw[G,if_neg v2,if_neg u2'];exact M) ⟨d,a1,λZ=>?_,λZ=>?_⟩;·rw[v,A];exact pk (uT T (by rw[S];rfl) _) (aa.ej _ _ _ (by rw[S];rfl) _ _).symm _
   ·rcases a2 _ Z with e | e
    ·exact K e
    exact v1 e.symm
   rcases a2 _ Z with e | e
   ·exact J e
   exact v2 e.symm
  have y:=λH' rs=>ih (k+1) H' rs (by omega);rw[show((k+1:Nat):Int)=(k:Int)+1 from by omega]at y;have ZP:=key (λH'=>bS bp Tryz.f23 0 mQ [(10,aI ((k:Int)+1)),(3,.dsl r3 0 l.length none),(2,.ptr r2 0 0),(1,.ptr r1 0 0),(9,aI l.length)] H' Q) (λH' b1 b2 b3 b4=>by
   obtain⟨d,b5,b6,b7⟩:=b4;exact y H' d b1 b2 b3 b5 b6 b7 I)
  clear ih y key U g6 R i n z f E K J t F M I;have hlen:es.length=l.length:=by rw[g2,TN l k (by omega)]
  refine o3 _ _ _ _ _ _ _ λg=>?_;have Y:r3≠q:=λe=>W e.symm;simp only[A,fN]at ZP W Y c g3;clear A;simp[aj, *,ni,ky,aa.ab,aa.cL];done
end
def N5{f:FuncId}(a:nz.contains f=true){H:aa}{s:AV}{es':List AV}{rs:List Ref}(h:wC 2 H s es' rs)(st lf:Int)(dd:Bool):cU bp f (cz s st lf dd) H (cz (Dx 2 s es') st lf dd):=by
 obtain⟨c,g,b,e⟩:=h.out 4;have d:=h.nodup;rw[oQ a];unfold cz;simp[c,b,d]
def Uo(x:AV)(l:List eb):AV:=match x with
 | .bg z [] _ => .fsl z [] (some 0)
 | .bg z _ _ => .nsl z (dt l) none
 | x=>x
def Ra{l:List eb}{x:AV}(o:Sl 2 (aG l) x):JQ 2 (dt l) (Uo x l):=by
 rcases o with ⟨rfl,he⟩ | ⟨c,rfl,_⟩
 ·have:l=[]:=by simpa [aG] using he
  subst this;exact .inl ⟨rfl,rfl⟩
 cases l with| nil=>exact .inr (.inl ⟨rfl,rfl⟩)| cons p l=>exact .inr (.inr ⟨rfl,by simp[dt]⟩)
section
variable{l:List eb}{x:AV}{st lf:Int}{dd:Bool}(o:Sl 2 (aG l) x)(i : ∀s∈l,iX s)(n : ∀s∈l,s.bs.length<1000000000)(u:l.length<1000000)
include o i n u
theorem adT:ar bp 23 [cz x st lf dd]=some (cz (Uo x l) st lf dd):=by
 refine xf (fn:=Tryz.f23) (c:=Be) rfl (by kernel_rfl) (by kernel_rfl) (by kernel_rfl) (by kernel_rfl) ?_;refine Hs _ _ _ λg=>?_;rcases o.Wr with ⟨rfl,he⟩ | ⟨c,rfl⟩
 ·have p:l=[]:=by simpa [aG] using he
  subst p;have q:=Oe 0;simp only[cz];simp[aj, *,sF,o.r,Uo,C0];refine o3 _ _ _ _ _ _ _ λg=>?_;simp[aj, *,ni]
 by_cases k:l=[];·subst k;have q:=λH=>Of 0 H c;have j:aG []=[]:=rfl;rw[j]at o ⊢;simp only[cz];simp[aj, *,sF,o.r,Uo,C0];refine o3 _ _ _ _ _ _ _ λg=>?_;simp[aj, *,ni,bO]
 have m:aG l≠[]:=(by simp[aG,k]);have e:=yW l;have q:=λH=>aao m (by simp;omega) 0 H c;have b:Uo (.bg 2 (aG l) c) l = .nsl 2 (dt l) none:=by
  cases l with| nil=>exact(k rfl).elim| cons _ _=>rfl
 have j:xi l 0=aG l:=(by simp[xi,dt]);obtain⟨f1,f2⟩:=RU (g:=λ_=>none) i;have t:=λ(Q:AV->aa->Prop) r3 H rs=>Ob (st:=st) (lf:=lf) (dd:=dd) (x := .bg 2 (aG l) c) o i n u (r1:=⟨0,1,0,0⟩) (r2:=⟨0,2,0,0⟩) (r3:=r3) (by simp) (Q:=Q) l.length 0 H rs (by omega);have d : ∀(H:aa) r3,H.get r3=some ⟨2,aG l,false,false⟩->lu 2 H r3 (xi l 0) [r3]:=λH r3 h=>⟨aG l,h,by rw[j];exact(RU i).1,by rw[f2],by simp⟩;have a : ∀(H':aa) r3 rs,lu 2 H' r3 (dt l) rs->cU bp 23 (cz (.dsl r3 0 l.length none) st lf dd) H' (cz (.nsl 2 (dt l) none) st lf dd):=λH' r3 rs h=>by
  have:=N5 (f:=23) (by rfl) (h.row (by simp[dt,k])) st lf dd;rw[yF]at this;exact this
 rw[b];clear i j f1 f2 b;simp only[cz]at t a ⊢;generalize aG l=es at *;simp only[e]at q;simp[aj, *,sF,o.r,C0];refine t _ _ _ [_] ?_ ?_ ?_ (d _ _ ?_) ?_ ?_ λH' rs h=>a H' _ rs h;·unfold Xj pO;exact(by simp(maxDischargeDepth:=12) [Ek, *])
 all_goals simp[Gn,pO]
 done
end
def adj{y:AV}(st lf:Int)(dd:Bool) : ∀r s bs,ao r 7 y []=(s,bs)->ao r depth (cz y st lf dd) []=(cz s st lf dd,bs):=by
 intro r s bs h;unfold cz;show(λp:List AV × List bj=>(AV.agg p.1,p.2)) ([y,aI st,aI lf,aB dd].foldl (λ(p:List AV × List bj) c=>let (y,bs):=ao r 7 c p.2;(p.1++[y],bs)) ([],[]))=_;simp only[wS,h];rfl
def Wv{y:AV}(st lf:Int)(dd:Bool)(e:Int) : ∀r s bs,ao r 6 y []=(s,bs)->ao r depth (.tup [cz y st lf dd,aI e]) []=(.tup [cz s st lf dd,aI e],bs):=by
 intro r s bs h;have a:ao r 7 (cz y st lf dd) []=(cz s st lf dd,bs):=by
  unfold cz;show(λp:List AV × List bj=>(AV.agg p.1,p.2)) ([y,aI st,aI lf,aB dd].foldl (λ(p:List AV × List bj) c=>let (y,bs):=ao r 6 c p.2;(p.1++[y],bs)) ([],[]))=_;simp only[wS,h];rfl
 show(λp:List AV × List bj=>(AV.tup p.1,p.2)) ([cz y st lf dd,aI e].foldl (λ(p:List AV × List bj) c=>let (y,bs):=ao r 7 c p.2;(p.1++[y],bs)) ([],[]))=_;simp only[wS,a];rfl
def JZ{l:List eb}{x:AV}{st lf:Int}{dd:Bool}(c:Sl 2 (aG l) x)(b : ∀s∈l,iX s)(a : ∀s∈l,s.bs.length<1000000000)(h:l.length<1000000){H:aa}{r:Ref}(g : ∃d t,r=⟨d,t,H.gen d t,0⟩){K:AV->aa->Prop}{refs:List Ref}(e:Fr H)
 (f : ∀H' s rs,Fr H'->wC 2 H' s (dt l) rs->Je H H' refs->(∀q∈rs,H.get q=none)->Dx 2 s (dt l)=Uo x l->K (cz s st lf dd) H') :
 iE (qu true H r refs (ar bp 23 [cz x st lf dd])) K:=
 E6 g (z:=2) (by decide) (n:=4) (mk:=λs=>cz s st lf dd) (adT c b a h) (adj st lf dd) (Ra c) (EK l) e f
def wo{z:Nat}{H:aa}{s:AV}{es':List AV}{rs:List Ref}(h:wC z H s es' rs):s.cells=[s]/\s.one=true:=by
 rcases h with ⟨rfl,_,_⟩ | ⟨r,rfl,_,_,_⟩ | ⟨r,es,rfl,_⟩<;>exact⟨rfl,rfl⟩
def zU{f:FuncId}(a:nz.contains f=true){H:aa}{s:AV}{es':List AV}{rs:List Ref}(h:wC 2 H s es' rs)(st lf:Int)(dd:Bool)(e:Int):cU bp f (.tup [cz s st lf dd,aI e]) H (.tup [cz (Dx 2 s es') st lf dd,aI e]):=by
 obtain⟨c,i,b,g⟩:=h.out 3;have d:=h.nodup;rw[oQ a];unfold cz;simp[c,b,d]
def NF{es:List AV}{n:Nat}(v:AV)(b:n<=es.length):(dy es n v)[n]?=some v:=by
 have a:(es.take n).length=n:=by rw[ku];omega
 unfold dy;rw[gU (by omega),a,pV];rfl
def TH{es:List AV}{n:Nat}(v w:AV)(b:n<=es.length):(dy es n v).set n w=dy es n w:=by
 have a:(es.take n).length=n:=by rw[ku];omega
 unfold dy;rw[Fm _ _ (by omega),a,pV,Fi]
def IB{dep:Nat}{f:FuncId}{args:List AV}{H:aa}{z:AV × aa}(h:bp.thrSpec f args H=some z):dg bp dep (.fn f) args H=some z:=
 qB.2 ⟨0,λm _=>by unfold eF;simp only[h]⟩
def Xi{H:aa}{s:AV}{es':List AV}{rs:List Ref}{P:Ref}{q:Int}{n:Nat}{fz:Bool}{V:Option Nat}(M:wC 2 H s es' rs)(U:H.get P=some ⟨2,[.agg [aI q,aO]],true,fz⟩)(R:n<=es'.length)(hl:es'.length<1000000)(v:Fr H)(dep:Nat) :
 ∃r' H' C,dg bp dep (.fn 49) [s,aI n,.bk P 0 1 V] H=some (.dsl r' 0 (es'.length+1) none,H')/\Fr H'/\lu 2 H' r' (dy es' n (.agg [aI q,aO])) C /\
  (∀p∈C,p∈rs\/H.get p=none) /\∀p b,p ∉ rs->H.get p=some b->H'.get p=some b:=by
 have W:(ca Tryz.prog 22).bind (aE Tryz.prog)=some 2:=by kernel_rfl
 have X:(ca Tryz.prog 22).bind (gP Tryz.prog)=some 32:=by kernel_rfl
 have i:([aI q,aO]:List AV).all AP=true:=rfl;have l : ∀args H,bp.thrSpec 49 args H=xl Tryz.prog 22 40 25 args H:=λargs H=>rfl;have k : ∀s:AV,(∀r n,s ≠ .dsl r 0 n none)->yX 2 H.get s=true->dg bp dep (.fn 49) [s,aI 0,.bk P 0 1 V] H=some (.dsl (pO 25 H) 0 1 none,(pO 25 H,some ⟨2,[.agg [aI q,aO]],false,false⟩) :: H):=by
  intro s M he;refine IB ?_;rw[l];unfold xl;split
  ·rename_i e;injection e with e _
   exact absurd e (M _ _)
  ·rename_i e;injection e with e1 e
   injection e with e2 e
   injection e with e3 e
   cases e1;cases e3;simp only[U,W,X];rw[if_pos (by refine⟨he,?_,?_,?_,?_,?_⟩<;>first | trivial | rfl | decide | simp[aJ])]
  rename_i h1 h2;exact absurd rfl (h2 _ _ _)
 have j : ∀n:Nat,n=0->lu 2 ((pO 25 H,some ⟨2,[.agg [aI q,aO]],false,false⟩) :: H) (pO 25 H) (dy [] n (.agg [aI q,aO])) [pO 25 H]:=by
  rintro n rfl;refine⟨[.agg [aI q,aO]],by rw[aa.cL,if_pos rfl],⟨Il i,trivial⟩,by simp[ER i],by simp⟩
 have u:H.get (pO 25 H)=none:=xj v;have f : ∀p b,H.get p=some b->aa.get ((pO 25 H,some ⟨2,[.agg [aI q,aO]],false,false⟩) :: H) p=some b:=λp b a=>by
  rw[aa.cL,if_neg (λe=>by rw[<-e,u]at a;cases a)];exact a
 rcases M with ⟨rfl,rfl,rfl⟩ | ⟨r,rfl,rfl,rfl,Y⟩ | ⟨r,es,rfl,Z,K,O,rfl,w⟩
 ·obtain rfl:n=0:=by simpa using R
  exact⟨_,_,_,k _ (λr n e=>by cases e) rfl,pk v rfl _,j 0 rfl,λp hp => .inr (by simp at hp;rw[hp];exact u),λp b _ a=>f p b a⟩
 ·obtain rfl:n=0:=by simpa using R
  exact⟨_,_,_,k _ (λr n e=>by cases e) (by simp[yX,Y]),pk v rfl _,j 0 rfl,λp hp => .inr (by simp at hp;rw[hp];exact u),λp b _ a=>f p b a⟩
 have J:=O.len;have N:H.get (qH 40 H r)=none:=xj v;have o:H.get ⟨r.d,r.t,H.gen r.d r.t,0⟩=none:=xj v;obtain⟨r',g⟩ : ∃r':Ref,r'=⟨r.d,r.t,H.gen r.d r.t,0⟩:=⟨_,rfl⟩;rw[<-g]at o;have hrr:r'≠r:=λe=>by rw[e,K]at o;cases o
 refine⟨r',xI 40 H r ⟨2,dy es n (.agg [aI q,aO]),false,false⟩,r' :: es.flatMap jf,?_,?_,?_,?_,?_⟩;·refine IB ?_;rw[l];simp only[xl,K,U,W,X];rw[if_pos (by refine⟨?_,?_,?_,?_,?_,?_,?_,?_,?_,?_,?_⟩<;>first | trivial | rfl | decide | omega | (simp only[aJ];omega))];rw[g,J];rfl
 ·unfold xI qH;have T : ∀d t,(H.put r none).gen d t=H.gen d t:=λd t=>aa.ej H r none (by rw[K];rfl) d t;refine pk (pk (uT v (by rw[K];rfl) _) (T _ _).symm _) ?_ _;rw[aa.nU,if_neg (λh=>by have:=h.1;omega),T]
 ·have m : ∀p b,p∈es.flatMap jf->H.get p=some b->(xI 40 H r ⟨2,dy es n (.agg [aI q,aO]),false,false⟩).get p=some b:=(by intro p b hp a;rw[oP 40 p N,<-g,if_neg (λe=>by rw[<-e,o]at a;cases a),if_neg (λe=>(Ax.1 w).1 (by rw[<-e];exact hp))];exact a);have D:es'=es'.take n++es'.drop n:=(BY n es').symm;obtain⟨A,B,c,S,hB⟩:=F2.split (A':=es'.take n) (B':=es'.drop n) (by rw[<-D];exact O);have I:A.length=n:=by rw[S.len,ku];omega
  have z:es.take n=A:=by rw[c,<-I,xW];rfl
  have E:es.drop n=B:=by rw[c,<-I,BU];rfl
  have Q:(dy es n (.agg [aI q,aO])).flatMap jf=es.flatMap jf:=(by unfold dy;rw[z,E,Fl,mz,ER i,sO,<-Fl,<-c]);refine⟨dy es n (.agg [aI q,aO]),by rw[oP 40 _ N,if_pos g.symm],?_,by rw[Q],?_⟩
  ·generalize (xI 40 H r ⟨2,dy es n (.agg [aI q,aO]),false,false⟩).get=G at *;unfold dy;rw[z,E];refine F2.app (F2.mono (λx L y F=>DE.bD F λp hp b a=>m p b ?_ a) S) ⟨Il i,F2.mono (λx L y F=>DE.bD F λp hp b a=>m p b ?_ a) hB⟩;·rw[c];exact iK.2 ⟨x,by simp[L],hp⟩
   rw[c];exact iK.2 ⟨x,by simp[L],hp⟩
  refine Ax.2 ⟨λhm=>?_,(Ax.1 w).2⟩;obtain⟨b,a⟩:=F2.live (λx y F=>DE.live F) O _ hm;rw[o]at a;cases a
 ·intro p hp;rcases fh.1 hp with rfl | hp
  ·exact .inr o
  exact .inl (j7 _ hp)
 intro p b hp a;rw[oP 40 p N,<-g,if_neg (λe=>by rw[<-e,o]at a;cases a),if_neg (λe=>hp (by rw[e];simp))];exact a
def adv{H:aa}{s:AV}{es':List AV}{rs:List Ref}{c:Ref}{q:Int}{n:Nat}{fz:Bool}{k:Option Nat}(d:wC 2 H s es' rs)(h:H.get c=some ⟨2,[.agg [aI q,aO]],true,fz⟩)(l:n<=es'.length)(t:es'.length<1000000)(g:Fr H){dep:Nat}{K:AV->aa->Prop}
 (i : ∀r' H' a,Fr H'->lu 2 H' r' (dy es' n (.agg [aI q,aO])) a->(∀p∈a,p∈rs\/H.get p=none)->(∀p b,p ∉ rs->H.get p=some b->H'.get p=some b)->K (.dsl r' 0 (es'.length+1) none) H') :
 iE (dg bp dep (.fn 49) [s,aI n,.bk c 0 1 k] H) K:=by
 obtain⟨r',H',a,j,o,f,e,m⟩:=Xi d h l t g dep;exact wq j (i r' H' a o f e m)
def agD{H:aa}{r':Ref}{es':List AV}{rs:List Ref}{N m:Nat}{pos:Int}{c' xb:AV}{b:List UInt8}{r:Ref}(S : ∃d t,r=⟨d,t,H.gen d t,0⟩){K:aa->Prop}(w:Sl 1 (au b) xb)(s:b.length<1000000000)(J:Fr H)(g:lu 2 H r' es' rs)(Q:m=es'.length)(l:es'[N]?=some (.agg [aI pos,c']))
 (M : ∀f x,Fr f->lu 2 f r' (es'.set N (.agg [aI pos,.fsl 1 (au b) none])) x->(∀p∈x,p∈rs\/H.get p=none)->(∀p k,p ∉ rs->H.get p=some k->f.get p=some k)->K f) :
 iE (qu false H r [] (ar bp 46 [xb])) λv L=>dL (bH env.P L.get 22 (some (.dsl r' 0 m none)) (some (aI N))) λa=>dL (iM env.P 59 (some a) 1) λG=>iE (jy env.P L 57 (some G) (some v)) λ_ f=>K f:=by
 obtain⟨d,t,rfl⟩:=S;subst Q;have V:=abW w s;obtain⟨o,h⟩ : ∃q:Ref,q=⟨d,t,H.gen d t,0⟩:=⟨_,rfl⟩;have c:H.get o=none:=by rw[h];exact xj J
 obtain⟨es,n,F,W,T,A⟩:=g.set l (j:=1) (by simp) c 1 (by decide) (au b) none;have u : .agg (patch [aI pos,c'] 1 [.fsl 1 (au b) none])=AV.agg [aI pos,.fsl 1 (au b) none]:=rfl;rw[u]at A;have U:N<es'.length:=(ee.1 l).1;have B:o≠r':=λe=>by rw[e,F]at c;cases c
 have R:r'∈rs:=by
  obtain⟨_,_,_,D,_⟩:=g;rw[D];simp
 have E:K ((o,some ⟨1,au b,true,false⟩) :: H.put r' (some ⟨2,n,false,false⟩)):=by
  obtain⟨f,i⟩ : ∃f:aa,f=(o,some ⟨1,au b,true,false⟩) :: H.put r' (some ⟨2,n,false,false⟩):=⟨_,rfl⟩;have y : ∀p,f.get p=if o=p then some ⟨1,au b,true,false⟩ else if p=r' then some ⟨2,n,false,false⟩ else H.get p:=λp=>by rw[i,aa.cL,aa.ab]
  obtain⟨I,O,G⟩:=A f (by rw[y,if_neg B,if_pos rfl]) (by rw[y,if_pos rfl]) (λp b hp w=>by
   rw[y,if_neg (λe=>by rw[<-e,c]at w;cases w),if_neg hp];exact w)
  rw[<-i];refine M f I ?_ O (λp hp=>?_) (λp k hp z=>?_);·rw[i,h];exact pk (uT J (by rw[F];rfl) _) (aa.ej _ _ _ (by rw[F];rfl) _ _).symm _
  ·rcases G p hp with e | e
   ·exact .inl e
   exact .inr (by rw[e];exact c)
  rw[y,if_neg (λe=>by rw[<-e,c]at z;cases z),if_neg (λe=>hp (by rw[e];exact R))];exact z
 have C:r'≠o:=λe=>B e.symm;clear A M l g u;simp only[h,fN]at E B C c T;clear h;simp[ky,aa.ab,aa.cL, *];done
def Vb{l:List eb}{x:AV}(f:Sl 2 (aG l) x):Sl 2 (aG (mv l)) (Dn (Uo x l)):=by
 rcases f with ⟨rfl,he⟩ | ⟨c,rfl,_⟩
 ·have:l=[]:=by simpa [aG] using he
  subst this;exact .inl ⟨rfl,rfl⟩
 cases l with| nil=>exact .inr ⟨some 0,rfl,cG _⟩| cons p l=>have:Dn (Uo (.bg 2 (aG (p :: l)) c) (p :: l)) = .bg 2 (aG (mv (p :: l))) none:=(by show AV.bg 2 ((dt (p :: l)).map HF) none=_;rw[J3]);rw[this];exact Sl.mk _ _
def Rr(l:List eb):dt (mv l)=dt l:=by
 unfold dt mv;rw[GG];rfl
section
variable{xb:AV}{N:Nat}{st lf:Int}{b:List UInt8}(a:Sl 1 (au b) xb)(i:b.length<1000000000)
include a i
theorem Bp{r':Ref}{es':List AV}{o:List Ref}{H9:aa}{c':AV}{pos:Int}{m:Nat}{es2:List AV}(D:Fr H9)(S:H9.get ⟨0,3,0,0⟩=some ⟨4,[.agg [.dsl r' 0 m none,aI st,aI lf,aB false]],false,false⟩)(L:H9.get ⟨0,6,0,0⟩=some ⟨4,[.agg [aO,aI 0,aI 0,aB false]],false,false⟩)
 (w:lu 2 H9 r' es' o) (n1:(⟨0,3,0,0⟩:Ref) ∉ o) (n2:(⟨0,6,0,0⟩:Ref) ∉ o) (K:m=es'.length) (n:es'[N]?=some (.agg [aI pos,c'])) (g:es'.set N (.agg [aI pos,.fsl 1 (au b) none])=es2) :
 iE (qu false H9 ⟨0,62,H9.gen 0 62,0⟩ [] (ar bp 46 [xb])) λC t=>dL (bH env.P t.get 22 (some (.dsl r' 0 m none)) (some (aI N))) λB=>dL (iM env.P 59 (some B) 1) λF=>iE (jy env.P t 57 (some F) (some C)) λM y=>
  dL (ow env.P (aa.get y) 24 (some (.ptr ⟨0,3,0,0⟩ 0 0))) λI=>iE (jy env.P y 24 (some (.ptr ⟨0,6,0,0⟩ 0 0)) (some I)) λU u=>dL (yJ env.P u (.ptr ⟨0,6,0,0⟩ 0 0) 24) λG=>
  cU bp 24 (.tup [G,.v (.int .i64 0)]) u (.tup [.agg [.nsl 2 es2 none,aI st,aI lf,aB false],aI 0]):=by
 refine agD ⟨_,_,rfl⟩ a i D w K n λR z T p k1 E=>?_;rw[g]at p;have H:es2≠[]:=by
  intro e;rw[<-g]at e;have:=iQg List.length e;rw[OI]at this;have V:=(ee.1 n).1;simp only[kS]at this;omega
 have A:es2.length=m:=by rw[<-g,OI,K]
 have d1:=E _ _ n1 S;have d2:=E _ _ n2 L;have c:=p.row H;rw[A]at c;have J:(⟨0,6,0,0⟩:Ref) ∉ z:=λh=>by
  rcases k1 _ h with h | h
  ·exact n2 h
  rw[L]at h;cases h
 have k : ∀H9:aa,(∀q∈z,∀b,R.get q=some b->H9.get q=some b)->cU bp 24 (.tup [cz (.dsl r' 0 m none) st lf false,aI 0]) H9 (.tup [cz (.nsl 2 es2 none) st lf false,aI 0]):=λH9 Q=>zU (by rfl) (c.bD Q) _ _ _ _;simp only[cz]at k;clear c p w k1 E g n K A;simp[-oQ,ky,aa.ab, *];refine k _ λq O b a=>?_;have n2 : ¬q=⟨0,6,0,0⟩:=λe=>J (by rw[<-e];exact O);simp[aa.ab,n2,a];done
end
section
variable{l:List eb}{x:AV}{st lf:Int}{dd:Bool}(f:Sl 2 (aG l) x)(d : ∀s∈l,iX s)(j:l.length<500000)
include f d j
variable{xb:AV}{b:List UInt8}(a:Sl 1 (au b) xb)
include a
theorem Od{q:Int}(hd:Eh l st lf dd=true)(m:0<=q/\q<6146)(z:b.length=128)(u:dd=true\/lf=0):ar bp 24 [cz x st lf dd,aI q,xb]=some (
 .tup [cz (Uo x l) st lf true,aI 0]):=by
 refine xf (fn:=Tryz.f24) (c:=uN) rfl (by kernel_rfl) (by kernel_rfl) (by kernel_rfl) (by kernel_rfl) ?_;refine Ag _ _ _ _ _ λg=>?_;have y:=ui (by rfl) (Dp (st:=st) (lf:=lf) (dd:=dd) f d (by omega) (q:=q));have i:=a.r;have n : ∀s∈l,s.bs.length<1000000000:=λs C=>by
  have:=tL l (-1) (vk hd) s C;omega
 have t:=λH r K refs G E=>JZ (st:=st) (lf:=lf) (dd:=dd) f d n (by omega) (H:=H) (r:=r) (K:=K) (refs:=refs) G E;simp[hd,m]at y;simp only[cz]at y t ⊢;clear d hd m;simp[aj, *,uR,f.r];refine t _ _ _ _ ⟨_,_,rfl⟩ (by simp(maxDischargeDepth:=12) [Ek, *]) λH' s rs D k p o w=>?_;have I:=wo k;have b1:=p.same (q:=⟨0,3,0,0⟩) (by simp) (by simp;rfl);have b2:=p.same (q:=⟨0,6,0,0⟩) (by simp) (by simp;rfl);have B:(⟨0,3,0,0⟩:Ref) ∉ rs:=λv=>by have:=o _ v;simp at this
 have A:(⟨0,6,0,0⟩:Ref) ∉ rs:=λv=>by have:=o _ v;simp at this
 have h : ∀H9:aa,(∀q∈rs,∀b,H'.get q=some b->H9.get q=some b)->cU bp 24 (.tup [cz s st lf true,aI 0]) H9 (.tup [cz (Uo x l) st lf true,aI 0]):=λH9 F=>by
  rw[<-w];exact zU (by rfl) (k.bD F) _ _ _ _
 simp only[cz]at h;clear p o k t w;rcases u with rfl | rfl
 ·simp[-oQ,ky,aa.ab, *];refine h _ λq m b a=>?_;have n1 : ¬q=⟨0,3,0,0⟩:=λe=>B (by rw[<-e];exact m);have n2 : ¬q=⟨0,6,0,0⟩:=λe=>A (by rw[<-e];exact m);simp[aa.ab,n1,n2,a];done
 cases dd;all_goals
  simp[-oQ,ky,aa.ab, *]
  refine h _ λq m b a=>?_
  have n1 : ¬q=⟨0,3,0,0⟩:=λe=>B (by rw[<-e];exact m)
  have n2 : ¬q=⟨0,6,0,0⟩:=λe=>A (by rw[<-e];exact m)
  simp[aa.ab,n1,n2,a]
  done
theorem T2{q:Int}(hd:Eh l st lf false=true)(hq:0<=q/\q<6146)(h128:b.length=128)(hlf : ¬lf=0):ar bp 24 [cz x st lf false,aI q,xb]=some (
 .tup [cz (.nsl 2 (dt (Ya l q b)) none) st (if lf>0 then lf - 1 else lf) false,aI 0]):=by
 refine xf (fn:=Tryz.f24) (c:=uN) rfl (by kernel_rfl) (by kernel_rfl) (by kernel_rfl) (by kernel_rfl) ?_;refine Ag _ _ _ _ _ λg=>?_;have hA:=ui (by rfl) (Dp (st:=st) (lf:=lf) (dd:=false) f d (by omega) (q:=q));have i:=a.r;have hs128 : ∀s∈l,s.bs.length<1000000000:=λs T=>by
  have:=tL l (-1) (vk hd) s T;omega
 have hT:=λH r K refs hr hF=>JZ (st:=st) (lf:=lf) (dd:=false) f d hs128 (by omega) (H:=H) (r:=r) (K:=K) (refs:=refs) hr hF;have X:=vk hd;have hll:(mv l).length<500000:=by simpa using j
 have D:=λ(y:AV)(st lf:Int)(dd:Bool)(hy:Sl 2 (aG (mv l)) y)=>ui (by rfl) (Pq (st:=st) (lf:=lf) (dd:=dd) hy (CO l) (by omega) (Iu q (mv l) (-1) (by rw[EE];exact X)) (Iv _ q));have hnl:=Iv (mv l) q;have hwr:Ya l q b=if ke (mv l) q (nth (mv l) q) then (mv l).set (nth (mv l) q) (oC q b) else (mv l).take (nth (mv l) q)++oC q b :: (mv l).drop (nth (mv l) q):=by
  unfold Ya;rw[UX,UY]
 rw[hwr];have O:=λh=>WZ (l:=mv l) (q:=q) (n:=nth (mv l) q) h;have P:=Vb f;rw[<-Rr]at hT;generalize nth (mv l) q=N at *;generalize mv l=L at *;simp[hd,hq]at hA;have hst : -1<=lf/\lf<2147483648:=by
  unfold Eh E5 at hd;simp at hd;omega
 have ew:=iQa (lf - 1) (by omega);simp only[cz]at hA hT D ⊢;clear d hd hq hwr X;simp[aj, *,uR,f.r];refine hT _ _ _ _ ⟨_,_,rfl⟩ (by simp(maxDischargeDepth:=12) [Ek, *]) λH' s rs hF' t F hfr ho=>?_;have hc:=wo t;have b1:=F.same (q:=⟨0,3,0,0⟩) (by simp) (by simp;rfl);have b2:=F.same (q:=⟨0,6,0,0⟩) (by simp) (by simp;rfl);have m1:(⟨0,3,0,0⟩:Ref) ∉ rs:=λhm=>by have:=hfr _ hm;simp at this
 have m2:(⟨0,6,0,0⟩:Ref) ∉ rs:=λhm=>by have:=hfr _ hm;simp at this
 clear hT F;have hv : ∀G:aa,(∀q∈rs,∀b,H'.get q=some b->G.get q=some b)->view G.get 7 s=some (Dn (Uo x l)):=λG E=>by
  have:=((t.bD E).out 4).2.1;rw[ho]at this;exact this
 have U : ∀b b',∀q∈rs,∀k,H'.get q=some k->((H'.put ⟨0,3,0,0⟩ b).put ⟨0,3,0,0⟩ b').get q=some k:=λb b' q hq k F=>by
  have n1 : ¬q=⟨0,3,0,0⟩:=λe=>m1 (by rw[<-e];exact hq);rw[aa.ab,if_neg n1,aa.ab,if_neg n1];exact F
 have V : ∀b,∀q∈rs,∀k,H'.get q=some k->(H'.put ⟨0,3,0,0⟩ b).get q=some k:=λb q hq k F=>by
  have n1 : ¬q=⟨0,3,0,0⟩:=λe=>m1 (by rw[<-e];exact hq);rw[aa.ab,if_neg n1];exact F
 have hv1:=λb b'=>hv _ (U b b');have hv2:=λb=>hv _ (V b);have I:N<=(dt L).length:=by simpa using hnl
 have M : ∀(G:aa)(lf':Int)(K:AV->aa->Prop),Fr G->G.get ⟨0,3,0,0⟩=some ⟨4,[.agg [s,aI st,aI lf',aB false]],false,false⟩->G.get ⟨0,6,0,0⟩=some ⟨4,[.agg [aO,aI 0,aI 0,aB false]],false,false⟩->(∀q∈rs,∀b,H'.get q=some b->G.get q=some b) ->
  (∀r' H9 z,Fr H9->lu 2 H9 r' (dy (dt L) N (.agg [aI q,aO])) z->H9.get ⟨0,3,0,0⟩=some ⟨4,[.agg [s,aI st,aI lf',aB false]],false,false⟩->H9.get ⟨0,6,0,0⟩=some ⟨4,[.agg [aO,aI 0,aI 0,aB false]],false,false⟩->(⟨0,3,0,0⟩:Ref) ∉ z->(⟨0,6,0,0⟩:Ref) ∉ z->K (.dsl r' 0 (L.length+1) none) H9) ->
  iE (dg bp 0 (.fn 49) [s,aI N,.bk ⟨0,55,G.gen 0 55,0⟩ 0 1 (some 1)] ((⟨0,55,G.gen 0 55,0⟩,some ⟨2,[.agg [aI q,aO]],true,false⟩) :: G)) K:=by
  intro G lf' K E g1 g2 g3 hK;have hn55:G.get ⟨0,55,G.gen 0 55,0⟩=none:=xj E;have C : ∀p k,G.get p=some k->aa.get ((⟨0,55,G.gen 0 55,0⟩,some ⟨2,[.agg [aI q,aO]],true,false⟩) :: G) p=some k:=λp k hp=>by
   rw[aa.cL,if_neg (λe=>by rw[<-e,hn55]at hp;cases hp)];exact hp
  have o:=(t.bD g3).bD (H':=(⟨0,55,G.gen 0 55,0⟩,some ⟨2,[.agg [aI q,aO]],true,false⟩) :: G) λp hp k F=>C p k F;refine adv o (fz:=false) (by rw[aa.cL,if_pos rfl]) I (by simp;omega) (pk E rfl _) λr' H9 z k1 k2 k3 k4=>?_;rw[yF];have j1:=k4 _ _ m1 (C _ _ g1);have j2:=k4 _ _ m2 (C _ _ g2);refine hK r' H9 z k1 k2 j1 j2 (λh=>?_) λh=>?_
  ·rcases k3 _ h with h | h
   ·exact m1 h
   rw[C _ _ g1]at h;cases h
  rcases k3 _ h with h | h
  ·exact m2 h
  rw[C _ _ g2]at h;cases h
 have w:(dy (dt L) N (.agg [aI q,aO])).set N (.agg [aI q,.fsl 1 (au b) none])=dt (L.take N++oC q b :: L.drop N):=by
  rw[TH _ _ I];unfold dy dt;rw[zh,xp,iQQ,List.map_drop];rfl
 have u : ∀h:N<L.length,L[N].pos=q->(dt L)[N]?=some (.agg [aI q,.fsl 1 (au L[N].bs) none])/\(dt L).set N (.agg [aI q,.fsl 1 (au b) none])=dt (L.set N (oC q b)):=λh hp=>by
  constructor;·unfold dt;rw[mr,dI h];show some (S7 L[N])=_;unfold S7;rw[hp]
  unfold dt;rw[GJ];rfl
 by_cases h0:lf>0
 ·have h0':0<lf:=h0;rw[if_pos h0];have S:=D _ st (lf - 1) false P;obtain⟨G,E⟩ : ∃G:aa,(H'.put ⟨0,3,0,0⟩ (some ⟨4,[.agg [s,aI st,aI lf,aB false]],false,false⟩)).put ⟨0,3,0,0⟩ (some ⟨4,[.agg [s,aI st,.v (.int .i64 (lf - 1)),aB false]],false,false⟩)=G:=⟨_,rfl⟩;have G1:Fr G:=by rw[<-E];exact uT (uT hF' (by rw[b1];rfl) _) (by simp[aa.ab]) _
  have G2:G.get ⟨0,3,0,0⟩=some ⟨4,[.agg [s,aI st,aI (lf - 1),aB false]],false,false⟩:=by rw[<-E];simp[aa.ab]
  have G3:G.get ⟨0,6,0,0⟩=some ⟨4,[.agg [aO,aI 0,aI 0,aB false]],false,false⟩:=by rw[<-E];simp[aa.ab,b2]
  have R : ∀q∈rs,∀b,H'.get q=some b->G.get q=some b:=by rw[<-E];exact U _ _
  have G5:=hv G R;clear hv hv1 hv2 U V;cases Z:ke L q N
  ·rw[Z]at S;have A:=λK=>M G (lf - 1) K G1 G2 G3 R;clear D M u O t;simp[ky,aa.ab,FE, *];refine A _ λr' H9 z q1 q2 q3 q4 Y q6=>?_;have n3 : ∀p∈z,¬p=⟨0,3,0,0⟩:=λp hp e=>Y (by rw[<-e];exact hp);have W:=Bp (N:=N) (st:=st) (lf:=lf - 1) (pos:=q) (c':=aO) (m:=L.length+1) (es2:=dt (L.take N++oC q b :: L.drop N)) (r':=r') (H9:=H9.put ⟨0,3,0,0⟩ (some ⟨4,[.agg [.dsl r' 0 (L.length+1) none,aI st,aI (lf - 1),aB false]],false,false⟩)) a (by omega)
    (uT q1 (by rw[q3];rfl) _) (by rw[aa.ab,if_pos rfl]) (by rw[aa.ab,if_neg (by simp)];exact q4) (q2.bD λp hp k F=>by rw[aa.ab,if_neg (n3 p hp)];exact F) Y q6 (by rw[vq _ _ _ I];simp) (NF _ I) w
   clear q2 Y q6 n3 w A R;simp[ky,aa.ab, -oQ, *];first | done | exact W
  rw[Z]at S;obtain⟨Q,B⟩:=O Z;obtain⟨J,e2⟩:=u Q B;obtain⟨r',T,o⟩ : ∃r',s = .dsl r' 0 L.length none/\lu 2 G r' (dt L) rs:=by
   rcases t.bD R with ⟨_,h,_⟩ | ⟨_,_,h,_⟩ | ⟨r',es,h1,h2,h3,h4,h5,h6⟩
   ·rw[h]at J;cases J
   ·rw[h]at J;cases J
   exact⟨r',by rw[h1,h4.len];simp,es,h3,h4,h5,h6⟩
  have W:=Bp (N:=N) (st:=st) (lf:=lf - 1) (pos:=q) (m:=L.length) (r':=r') (H9:=G) a (by omega) G1 (by rw[<-T];exact G2) G3 o m1 m2 (by simp) J e2;rw[<-T]at W;clear D M u O t o J e2 B T w R;simp[ky,aa.ab, -oQ, *];first | done | exact W
 have h0' : ¬0<lf:=h0;rw[if_neg h0];have S:=D _ st (lf) false P;obtain⟨G,E⟩ : ∃G:aa,H'.put ⟨0,3,0,0⟩ (some ⟨4,[.agg [s,aI st,aI lf,aB false]],false,false⟩)=G:=⟨_,rfl⟩;have G1:Fr G:=by rw[<-E];exact uT hF' (by rw[b1];rfl) _
 have G2:G.get ⟨0,3,0,0⟩=some ⟨4,[.agg [s,aI st,aI (lf),aB false]],false,false⟩:=by rw[<-E];simp[aa.ab]
 have G3:G.get ⟨0,6,0,0⟩=some ⟨4,[.agg [aO,aI 0,aI 0,aB false]],false,false⟩:=by rw[<-E];simp[aa.ab,b2]
 have R : ∀q∈rs,∀b,H'.get q=some b->G.get q=some b:=by rw[<-E];exact V _
 have G5:=hv G R;clear hv hv1 hv2 U V;cases Z:ke L q N
 ·rw[Z]at S;have A:=λK=>M G (lf) K G1 G2 G3 R;clear D M u O t;simp[ky,aa.ab,FE, *];refine A _ λr' H9 z q1 q2 q3 q4 Y q6=>?_;have n3 : ∀p∈z,¬p=⟨0,3,0,0⟩:=λp hp e=>Y (by rw[<-e];exact hp);have W:=Bp (N:=N) (st:=st) (lf:=lf) (pos:=q) (c':=aO) (m:=L.length+1) (es2:=dt (L.take N++oC q b :: L.drop N)) (r':=r') (H9:=H9.put ⟨0,3,0,0⟩ (some ⟨4,[.agg [.dsl r' 0 (L.length+1) none,aI st,aI (lf),aB false]],false,false⟩)) a (by omega)
   (uT q1 (by rw[q3];rfl) _) (by rw[aa.ab,if_pos rfl]) (by rw[aa.ab,if_neg (by simp)];exact q4) (q2.bD λp hp k F=>by rw[aa.ab,if_neg (n3 p hp)];exact F) Y q6 (by rw[vq _ _ _ I];simp) (NF _ I) w
  clear q2 Y q6 n3 w A R;simp[ky,aa.ab, -oQ, *];first | done | exact W
 rw[Z]at S;obtain⟨Q,B⟩:=O Z;obtain⟨J,e2⟩:=u Q B;obtain⟨r',T,o⟩ : ∃r',s = .dsl r' 0 L.length none/\lu 2 G r' (dt L) rs:=by
  rcases t.bD R with ⟨_,h,_⟩ | ⟨_,_,h,_⟩ | ⟨r',es,h1,h2,h3,h4,h5,h6⟩
  ·rw[h]at J;cases J
  ·rw[h]at J;cases J
  exact⟨r',by rw[h1,h4.len];simp,es,h3,h4,h5,h6⟩
 have W:=Bp (N:=N) (st:=st) (lf:=lf) (pos:=q) (m:=L.length) (r':=r') (H9:=G) a (by omega) G1 (by rw[<-T];exact G2) G3 o m1 m2 (by simp) J e2;rw[<-T]at W;clear D M u O t o J e2 B T w R;simp[ky,aa.ab, -oQ, *];first | done | exact W
end
end
end Go.Proofs.YtmjkpdknicjjgaaGreat
namespace Go.Ab
def lu.ajn{z:Nat}{H:aa}{r:Ref}{es':List AV}{rs:List Ref}(h:lu z H r es' rs){i j:Nat}{E:List AV}(hi:es'[i]?=some (.agg E)){m:Nat}{l:List AV}{c:Option Nat}(hj:E[j]?=some (.fsl m l c)) :
 ∃es T q,H.get r=some ⟨z,es,false,false⟩/\es.length=es'.length/\es[i]?=some (.agg T)/\T[j]?=some (.bk q 0 l.length c)/\H.get q=some ⟨m,l,true,false⟩/\q∈rs/\q≠r /\
  ∀w:List AV,w.length=l.length->lu z (H.put q (some ⟨m,w,true,false⟩)) r (es'.set i (.agg (E.set j (.fsl m w c)))) rs:=by
 obtain⟨es,h1,h2,N,S⟩:=h;have V:=Dl hi;have hil:i<es'.length:=(ee.1 hi).1;have t:(es'.take i).length=i:=by rw[ku];omega
 generalize es'.take i=A' at *;generalize es'.drop (i+1)=B' at *;subst V;obtain⟨A,C,rfl,hA,hC⟩:=F2.split h2;match C,hC with
 | x :: B,hC=>
 obtain⟨⟨T,ys',rfl,e,hX⟩,hB⟩:=hC;cases e;have W:A.length=i:=by rw[hA.len,t]
 have Y:=Dl hj;have hjl:j<E.length:=(ee.1 hj).1;have R:(E.take j).length=j:=by rw[ku];omega
 generalize E.take j=Y1 at *;generalize E.drop (j+1)=Y2 at *;subst Y;obtain⟨J,X3,rfl,K,I⟩:=F2.split hX;match X3,I with
 | x0 :: O,I=>
 have P:J.length=j:=by rw[K.len,R]
 obtain⟨X,Z⟩:=I;rcases X with ⟨_,hp⟩ | ⟨q,z1',l',c',rfl,e,hq,hz⟩
 ·cases hp
 cases e;have e1:(A ++ .agg (J ++ .bk q 0 l.length c :: O) :: B).flatMap jf=A.flatMap jf++(J.flatMap kZ++(q :: (O.flatMap kZ++B.flatMap jf))):=by simp[jf,Fl,mz,kZ]
 rw[e1]at N;rw[N]at S;have G:(r :: (A.flatMap jf++(J.flatMap kZ++(q :: (O.flatMap kZ++B.flatMap jf))))).Perm (q :: (r :: (A.flatMap jf++(J.flatMap kZ++(O.flatMap kZ++B.flatMap jf))))):=by
  have:=List.perm_middle (a:=q) (l₁:=r :: (A.flatMap jf++J.flatMap kZ)) (l₂:=O.flatMap kZ++B.flatMap jf);simpa [qP] using this
 have u:=(Ax.1 (G.nodup_iff.1 S)).1;simp only[fh,mq,not_or]at u;obtain⟨n0,n1,n2,n3,n4⟩:=u;refine⟨_,_,q,h1,h2.len,by rw[gU (by omega),W,pV];rfl,by rw[gU (by omega),P,pV];rfl,hq,by rw[N];simp,n0,λw U=>?_⟩;have M : ∀p b,p≠q->H.get p=some b->(H.put q (some ⟨m,w,true,false⟩)).get p=some b:=λp b hp o=>by rw[aa.ab,if_neg hp];exact o
 have L:(A' ++ .agg (Y1 ++ .fsl m l c :: Y2) :: B').set i (.agg ((Y1 ++ .fsl m l c :: Y2).set j (.fsl m w c)))=A' ++ .agg (Y1 ++ .fsl m w c :: Y2) :: B':=by
  rw[Fm _ _ (by omega),t,pV,Fi,Fm _ _ (by omega),R,pV,Fi]
 rw[L];refine⟨_,M r _ (λe=>n0 e.symm) h1,?_,by rw[e1];exact N,by rw[N];exact S⟩;refine F2.app (F2.mono (λx D y F=>DE.bD F λp hp b o=>M p b (λe=>n1 (by rw[<-e];exact iK.2 ⟨x,D,hp⟩)) o) hA) ⟨⟨_,_,rfl,rfl,F2.app (F2.mono (λx D y F=>DC.bD F λp hp b o=>M p b (λe=>n2 (by rw[<-e];exact iK.2 ⟨x,D,hp⟩)) o) K) ⟨.inr ⟨q,m,w,c,by rw[U],rfl,by rw[aa.ab,if_pos rfl],hz⟩,F2.mono (λx D y F=>DC.bD F λp hp b o=>M p b (λe=>n3 (by rw[<-e];exact iK.2 ⟨x,D,hp⟩)) o) Z⟩⟩,F2.mono (λx D y F=>DE.bD F λp hp b o=>M p b (λe=>n4 (by rw[<-e];exact iK.2 ⟨x,D,hp⟩)) o) hB⟩
end Go.Ab
namespace Go.Proofs.YtmjkpdknicjjgaaGreat
open Go.Ab
section
attribute [local simp] aK az ak ay ax nz sJ bD kj aM aq aA bA bw aJ aL af aW dq
def Spo(f H:aa)(rs:List Ref):Prop :=∀q b,q ∉ rs->f.get q=some b->H.get q=some b
end
section
structure ajK (fD fR:FuncId) (argsD argsR:List AV) (ys:AV) (l1:List eb) (y2:AV) (l2:List eb) (st lf:Int) (dd:Bool) (e:Int):Prop where
 d:ar bp fD argsD=some (.tup [cz ys st lf dd,aI e])
 r:ar env fR argsR=some (.tup [cz y2 st lf dd,aI e])
 out:JQ 2 (dt l1) ys
 few:l1.length<1000000
 short : ∀s∈l1,s.bs.length<1000000000
 sl:Sl 2 (aG l2) y2
 ok : ∀s∈l2,iX s
 key:gG l1=gG l2
def Ux:JQ 2 (dt []) aO := .inl ⟨rfl,rfl⟩
def X7:Sl 2 (aG []) aO := .inl ⟨rfl,rfl⟩
def MP(st lf:Int)(dd:Bool):tj st lf dd st lf dd=true:=by simp[tj]
end
section
attribute [local simp] aK az ak ay ax nz sJ bD kj aM aq aA bA bw aJ aL af aW dq
def TX{l:List eb}{y:AV}(h:JQ 2 (dt l) y):Sl 2 (aG (mv l)) (Dn y):=by
 rcases h with ⟨rfl,he⟩ | ⟨rfl,he⟩ | ⟨rfl,he⟩
 ·have:l=[]:=by simpa [dt] using he
  subst this;exact .inl ⟨rfl,rfl⟩
 ·have:l=[]:=by simpa [dt] using he
  subst this;exact .inr ⟨some 0,rfl,cG _⟩
 have:Dn (.nsl 2 (dt l) none) = .bg 2 (aG (mv l)) none:=(by show AV.bg 2 ((dt l).map HF) none=_;rw[J3]);rw[this];exact Sl.mk _ _
def JO(s:AV)(st lf:Int)(dd:Bool):bj:=⟨4,[cz s st lf dd],false,false⟩
def Xs{H:aa}{A:List (Ref × bj)}{rows:List Fe}(h:C7 H A rows){t:Nat}{s:AV}{st lf:Int}{dd:Bool}(C:s.cells=[s]/\s.one=true){K:AV->aa->Prop}
 (B : ∀r H',C7 H' ((r,JO s st lf dd) :: A) rows->(∀q b,H.get q=some b->H'.get q=some b)->K (.ptr r 0 0) H') :
 iE (lY H (⟨0,t,aa.gen H 0 t,0⟩:Ref) (vX env.P (⟨0,t,aa.gen H 0 t,0⟩:Ref) 24)) λv E=>iE (jy env.P E 24 (some v) (some (cz s st lf dd))) λG D=>K v D:=by
 have F:H.get ⟨0,t,H.gen 0 t,0⟩=none:=xj h.fr;have w:=B ⟨0,t,H.gen 0 t,0⟩ ((⟨0,t,H.gen 0 t,0⟩,some (JO s st lf dd)) :: H) (h.new 0 t _) (λq b z=>by rw[aa.cL,if_neg (λe=>by rw[<-e,F]at z;cases z)];exact z);clear B;simp only[JO,cz]at w ⊢;simp[ky,C.1,C.2];exact w
def LK{H:aa}{e:List (Ref × bj)}{rows:List Fe}(h:C7 H e rows)(r:Ref)(s:AV)(st lf:Int)(dd:Bool)(t:(r,JO s st lf dd)∈e){K:AV->Prop}(q:K (cz s st lf dd)) :
 dL (ow env.P (aa.get H) 24 (some (.ptr r 0 0))) K:=by
 have:=h.has _ t;simp only[JO,cz]at this q ⊢;simp[this];exact q
def _root_.Go.Ab.Sl.ZB{z:Nat}{es:List AV}{x:AV}(h:Sl z es x):x.cells=[x]/\x.one=true:=⟨h.r.2.2.2.1,h.r.2.2.2.2.1⟩
def abe{H:aa}{z:List (Ref × bj)}{rows:List Fe}(h:C7 H z rows){t:Nat}{s:AV}{st lf:Int}{dd:Bool}(B:s.cells=[s]/\s.one=true){K:AV->aa->Prop}
 (A : ∀r H',C7 H' ((r,JO s st lf dd) :: z) rows->(∀q b,H.get q=some b->H'.get q=some b)->K (.ptr r 0 0) H') :
 iE (lY H (⟨0,t,aa.gen H 0 t,0⟩:Ref) (Lx env.P (⟨0,t,aa.gen H 0 t,0⟩:Ref) 24 (some (cz s st lf dd)))) K:=by
 have C:H.get ⟨0,t,H.gen 0 t,0⟩=none:=xj h.fr;have v:=A ⟨0,t,H.gen 0 t,0⟩ ((⟨0,t,H.gen 0 t,0⟩,some (JO s st lf dd)) :: H) (h.new 0 t _) (λq b w=>by rw[aa.cL,if_neg (λe=>by rw[<-e,C]at w;cases w)];exact w);clear A;simp only[JO,cz]at v ⊢;simp[B.1,B.2];exact v
def J4{l m:List eb}{x y:AV}(f:Sl 2 (aG l) x)(c : ∀s∈l,iX s)(d:Sl 2 (aG m) y)(a : ∀s∈m,iX s)(j:l.length<1000000)(e:gG l=gG m)(st lf:Int)(dd:Bool):ar bp 11 [cz x st lf dd,cz y st lf dd]=some (aB true):=by
 have:=ui (by rfl) (YT (st:=st) (lf:=lf) (dd:=dd) (st':=st) (lf':=lf) (dd':=dd) f c d a j);rw[e,MP]at this;simpa using this
def VS{H:aa}{s:AV}{es':List AV}{rs:List Ref}(h:wC 2 H s es' rs){y:AV}(q:Dx 2 s es'=y):view H.get 7 s=some (Dn y)/\ah H.get 7 s=rs/\s.cells=[s]/\s.one=true:=by
 obtain⟨w,e,t,v⟩:=h.out 4;rw[q]at e;exact⟨e,t,wo h⟩
section
variable{x o:AV}{b a:Int}{c:Bool}{z w:List eb}(t:Sl 2 (aG z) x)(f:Sl 2 (aG w) o)(v:ar bp 11 [cz o b a c,cz x b a c]=some (aB true))
 {s:AV} {rs:List Ref} {st lf:Int} {dd:Bool} {r16 r2 r5:Ref} {n:Nat} {Q:AV->aa->Prop} (A:n<1000000) (d:r16 ∉ rs) (n2:r2 ∉ rs) (y:r5 ∉ rs) (u : ∀H,Q (aB true) H)
include t f v A d n2 y u
theorem Vh : ∀(m k:Nat)(H:aa)(l:List eb),k+m=n->Fr H->H.get r16=some (JO s st lf dd)->H.get r2=some (JO x b a c)->H.get r5=some (JO o b a c)->wC 2 H s (dt l) rs->l.length=n->(∀s∈l,s.bs.length=128) ->
 bS bp Tryz.f4 0 fc [(21,aI k),(16,.ptr r16 0 0),(2,.ptr r2 0 0),(5,.ptr r5 0 0),(20,aB true)] H Q:=by
 intro m;induction m with
 | zero=>
  intro k H l hk Y F M K hd L S;have E:=hd.len;rw[yF,L]at E;have hq:=u H;obtain rfl:k=n:=by omega
  have v1:=t.r;have v2:=f.r;simp only[JO,cz]at F M K v;clear u hd t f;refine lB _ _ _ _ _ _ _ λg=>?_;simp[aj, *,iA];done
 | succ m ih=>
  intro k H l hk Y F M K hd L S;have E:=hd.len;rw[yF,L]at E;have hin:(k:Int)<n:=by omega
  have R:k<l.length:=(by omega);obtain⟨p,hp⟩ : ∃p,l[k]?=some p:=⟨_,dI R⟩;have D:(dt l)[k]?=some (.agg [aI p.pos,.fsl 1 (au p.bs) none]):=(by unfold dt;rw[mr,hp];rfl);have U:=S p (dJ hp);obtain⟨r,rfl,G⟩ : ∃r,s = .dsl r 0 n none/\lu 2 H r (dt l) rs:=by
   rcases hd with ⟨_,h,_⟩ | ⟨_,_,h,_⟩ | ⟨r',es,h1,M,h3,X,K,h6⟩
   ·rw[h]at D;cases D
   ·rw[h]at D;cases D
   exact⟨r',by rw[h1,X.len,yF,L],es,h3,X,K,h6⟩
  obtain⟨es,xs,q,g1,g2,g3,g4,g5,N,g7,Z⟩:=G.ajn D (j:=1) rfl;have hrd:bF es k 1 1 false=some (.bk q 0 p.bs.length none):=(by rw[PE g3 g4,fN]);have h0:0<p.bs.length:=(by omega);have e3:=iQa ((k:Int)+1) (by omega);have hw:=Mo (m:=p.bs) (i:=0) h0 (p.bs[0]+1);rw[show(a8 (p.bs[0]+1)).cells=[a8 (p.bs[0]+1)] from rfl]at hw;have q1:q≠r16:=λe=>d (by rw[<-e];exact N);have q2:q≠r2:=λe=>n2 (by rw[<-e];exact N);have q5:q≠r5:=λe=>y (by rw[<-e];exact N);have T:r16≠q:=λe=>q1 e.symm;have O:r2≠q:=λe=>q2 e.symm;have P:r5≠q:=λe=>q5 e.symm;have C:=Z (au (p.bs.set 0 (p.bs[0]+1))) (by simp);have I:(dt l).set k (.agg ([aI p.pos,.fsl 1 (au p.bs) none].set 1 (.fsl 1 (au (p.bs.set 0 (p.bs[0]+1))) none)))=dt (l.set k ⟨p.pos,p.bs.set 0 (p.bs[0]+1),p.av⟩):=(by unfold dt;rw[GJ];rfl);rw[I]at C;have B:(dt (l.set k ⟨p.pos,p.bs.set 0 (p.bs[0]+1),p.av⟩)).length=n:=by simp[L]
  have J:=C.row (λe=>by rw[e]at B;simp at B;omega);rw[B]at J;have V:=ih (k+1) (H.put q (some ⟨1,au (p.bs.set 0 (p.bs[0]+1)),true,false⟩)) _ (by omega) (uT Y (by rw[g5];rfl) _) (by rw[aa.ab,if_neg T];exact F) (by rw[aa.ab,if_neg O];exact M) (by rw[aa.ab,if_neg P];exact K) J (by simp[L]) (λs hs=>by
   rcases OW hs with h | h
   ·exact S s h
   rw[h];simp[U])
  rw[show((k+1:Nat):Int)=(k:Int)+1 from by omega]at V;have hkI:(0:Int)<p.bs.length:=by omega
  simp only[JO,cz]at F M K;clear Z u hd G C I ih J B t f v;refine lB _ _ _ _ _ _ _ λg=>?_;generalize au (p.bs.set 0 (p.bs[0]+1))=W at *;simp[aj, *,iA,ky];done
end
end
end Go.Proofs.YtmjkpdknicjjgaaGreat
