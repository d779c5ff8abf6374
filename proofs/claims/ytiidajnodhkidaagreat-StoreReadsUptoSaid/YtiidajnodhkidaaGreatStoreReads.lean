/-
  A disk's store: its sectors are the caller's own. No statement of a seat is proved here.
-/
import Derived.Test.YtiidajnodhkidaaGreatMSrPro
set_option linter.unusedVariables false
set_option linter.unusedSimpArgs false
set_option linter.unusedSectionVars false
set_option linter.unnecessarySimpa false
set_option maxRecDepth 1000000
namespace Go.Proofs.YtiidajnodhkidaaGreat
open Go.Ab
section
attribute [local simp] aN aG ar aD aC ph uU bT kp aP ax aJ bG bF aX aO af a9 dM
theorem TL(a:Bool)(H:aa)(r:Ref)(o:Option AV):oA a H r [] o=oA true H r [] o:=by
 cases o<;>simp[oA,kB]
def stD(y:AV)(d:Dk)(o:AV)(g k a:Int):AV := .agg [y,aI d.st,aI d.lf,aB d.dd,o,aI g,aI k,aI a]
def ofD(d:Dk):AV:=if ND d=0 then .tup [stD (tdA d.x d.l) d (cK 24 (ao (cX d.all))) d.cur.1 d.cur.2 d.ud.2,aI 0] else .tup [lC,aI (ND d)]
theorem Lx{f:FuncId}(b:ph.contains f=true){o:AV}(c:(∀g n,aj g n o=[])/\(∀g n,ca g (n+1) o=some o)){H:aa}{s:AV}{es':List AV}{j:List Ref}(h:wN 2 H s es' j)(st lf:Int)(dd:Bool)(g k a e:Int) :
 ed bQ f (.tup [.agg [s,aI st,aI lf,aB dd,o,aI g,aI k,aI a],aI e]) H (.tup [.agg [DN 2 s es',aI st,aI lf,aB dd,o,aI g,aI k,aI a],aI e]):=by
 obtain⟨l,m,d,p⟩:=h.out 3;have i:=h.nodup;rw[IE b];simp[l,d,i,c]
theorem aj1{d:Dk}(i:d.vm):ay bQ 13 [d.val]=some (ofD d):=by
 refine BO (fn:=Tryz.f13) (c:=CC) rfl (by kernel_rfl) (by kernel_rfl) (by kernel_rfl) (by kernel_rfl) ?_;refine Jy _ _ _ λg=>?_;have C:=rO (by rfl) (DG i);have R:=i.sl.r;unfold ofD ND;cases k:d.may with
 | false=>rw[k]at C;clear i k;obtain⟨l,x,st,lf,dd⟩:=d;simp only[Dk.val,dR,lC,gB,iQe,show ¬(8:Int)=0 by decide]at *;simp[ak, *,oH,aa.ad]
 | true=>
  rw[k]at C;simp only[if_true]at C ⊢;by_cases w:d.st<1;·simp only[if_pos w,show ¬(2:Int)=0 by decide,iQe];clear i k;obtain⟨l,x,st,lf,dd⟩:=d;simp only[Dk.val,dR,lC]at *;simp[ak, *,oH,aa.ad]
  simp only[if_neg w];have F:=rO (by rfl) (Vt i);rw[k,if_pos rfl]at F;unfold Ry at F;by_cases j:(d.sC.length:Int)=d.cur.2
  ·rw[if_pos j]at F;simp only[if_pos j];have J:=IS d;have X:=rO (by rfl) (LC i k (area:=0) (nu:=d.cur.2) (most:=2048) (by omega) (by omega) (by omega));rw[iQV,show eC d 0 d.cur.2 2048 2049 0 0=d.ud from rfl]at X;have M:=LS d;have I:=LW d;have e1:=iQa (d.cur.2+d.ud.1.length) (by omega);have Y:=rO (by rfl) (Rd i (many:=d.cur.2+d.ud.1.length) (by omega));have u:=gZ 24 (ao (cX d.sC));have v:=gZ 24 (ao (cX d.ud.1));have A:=gZ 24 (ao (cX d.all));have r1:=u.r;have r2:=v.r;have r3:=A.r;rw[fl,qE]at r1 r2 r3;have t:=rO (by rfl) (Vz u v (by rw[qE];omega) (by rw[qE];omega));rw[show cX d.sC++cX d.ud.1=cX d.all by simp[cX,Dk.all]]at t;have L:=λ(H:aa)(r:Ref) K hr hF=>Sc (st:=d.st) (lf:=d.lf) (dd:=d.dd) (H:=H) (r:=r) (K:=K) (refs:=[]) i.sl i.ok (Rv k) (by have:=i.len;omega) hr hF;have a:=λ(o:AV)(B:(∀g n,aj g n o=[])/\(∀g n,ca g (n+1) o=some o)) (H:aa) (s:AV) (D:List Ref) (h:wN 2 H s (iv d.l) D)=>Lx (f:=13) (by rfl) B h d.st d.lf d.dd;have U:cK 24 (ao (cX d.sC))=aY \/∃es,cK 24 (ao (cX d.sC)) = .bE 24 es none:=by
    unfold cK;split;·exact .inl rfl
    exact .inr ⟨_,rfl⟩
   have Q:cK 24 (ao (cX d.ud.1))=aY \/∃es,cK 24 (ao (cX d.ud.1)) = .bE 24 es none:=by
    unfold cK;split;·exact .inl rfl
    exact .inr ⟨_,rfl⟩
   have W:cK 24 (ao (cX d.all))=aY \/∃es,cK 24 (ao (cX d.all)) = .bE 24 es none:=by
    unfold cK;split;·exact .inl rfl
    exact .inr ⟨_,rfl⟩
   generalize cK 24 (ao (cX d.sC))=o1 at *;generalize cK 24 (ao (cX d.ud.1))=o2 at *;generalize cK 24 (ao (cX d.all))=o3 at *;generalize d.ud.2=at' at *;clear M I;generalize d.ud.1.length=ml at *;generalize d.sC.length=ll0 at *;generalize d.cur=m at *;generalize d.l.any (sv d (m.2+ml))=b at *;clear k u v A j J;cases b with
   | true=>simp only[if_true,show ¬(8:Int)=0 by decide,iQe];clear i L a t r3 W;obtain⟨l,x,st,lf,dd⟩:=d;simp only[Dk.val,dR,lC]at *;simp[ak, *,oH,aa.ad]
   | false=>
    simp only[gB,iQe,if_true];clear i U Q;obtain⟨O,P⟩:=m;have a:=a o3 ⟨r3.2.2.1,r3.2.2.2.2.2.1⟩;obtain⟨l,x,st,lf,dd⟩:=d;simp only[Dk.val,dR,lC,stD]at *;simp[ak, *,oH,aa.ad];rw[TL];refine L _ _ _ ⟨_,_,rfl⟩ ?_ λS s D hF' p E z B=>?_;·exact(by simp(maxDischargeDepth:=12) [eR, *])
    have b1:=E.same (q:=⟨0,1,0,0⟩) (by simp) (by simp[aa.ad];rfl);have b2:=E.same (q:=⟨0,2,0,0⟩) (by simp) (by simp[aa.ad];rfl);have b6:=E.same (q:=⟨0,6,0,0⟩) (by simp) (by simp[aa.ad];rfl);have C:=C9 p;have N:(⟨0,2,0,0⟩:Ref) ∉ D:=λk=>by have:=z _ k;simp[aa.ad]at this
    have y : ∀G:aa,(∀q∈D,∀b,S.get q=some b->G.get q=some b)->ed bQ 13 (.tup [.agg [s,aI st,aI lf,aB dd,o3,aI O,aI P,aI at'],aI 0]) G (.tup [.agg [tdA x l,aI st,aI lf,aB dd,o3,aI O,aI P,aI at'],aI 0]):=λG T=>by
     rw[<-B];exact a _ _ _ (p.bT T) _ _ _ _
    clear L a E z p B;simp[-IE,uy,aa.ad, *];refine y _ λq Z b V=>?_;have n1 : ¬q=⟨0,2,0,0⟩:=λe=>N (by rw[<-e];exact Z);simp[aa.ad,n1,V]
  rw[if_neg j]at F;simp only[if_neg j,show ¬(8:Int)=0 by decide,iQe];clear i k j;obtain⟨l,x,st,lf,dd⟩:=d;simp only[Dk.val,dR,lC]at *;simp[ak, *,oH,aa.ad]
def str(s:AV)(st lf:Int)(dd:Bool)(o:AV)(g k a:Int):AV := .agg [s,aI st,aI lf,aB dd,o,aI g,aI k,aI a]
def BS(s:AV)(st lf:Int)(dd:Bool)(o:AV)(g k a:Int):bC:=⟨8,[str s st lf dd o g k a],false,false⟩
theorem UO{s:AV}{st lf g1 k1 a1:Int}{dd:Bool}{o:AV}{q19 q:Ref}{n:Nat}{x11 x4 x10 x5 x9 x20:AV}{Q:AV->aa->Prop}{H0:aa}(Y:q≠q19)(v:n<1000000)(R:o = .ct q 0 n none\/(o=aY/\n=0))
 (M : ∀K,Fr K->(∀r,r≠q->K.get r=H0.get r)->cy bQ Tryz.f5 0 cw [(22,aI 0),(11,x11),(4,x4),(10,x10),(5,x5),(9,x9),(20,x20)] K Q) :
 ∀(m k:Nat)(H:aa)(L:List (dY × AV)),k+m=n->Fr H->(∀r,r≠q->H.get r=H0.get r)->H.get q19=some (BS s st lf dd o g1 k1 a1)->(n≠0->H.get q=some ⟨24,ao L,true,false⟩)->L.length=n ->
 cy bQ Tryz.f5 0 fy [(21,aI k),(19,.ptr q19 0 0),(11,x11),(4,x4),(10,x10),(5,x5),(9,x9),(20,x20)] H Q:=by
 intro m;induction m with
 | zero=>
  intro k H L X G j a i J;obtain rfl:k=n:=by omega
  have p:=M H G j;clear M j;simp only[BS,str]at a;refine lP _ _ _ _ _ _ _ _ _ _ λg=>?_;rcases R with rfl | ⟨rfl,rfl⟩
  ·simp[ak, *,fA];first | done | exact p
  simp[ak, *,fA];first | done | exact p
 | succ m T=>
  intro k H L X G j a i J;have I:k<L.length:=by omega
  have N:=i (by omega);obtain rfl:o = .ct q 0 n none:=by
   rcases R with h | ⟨_,h⟩
   ·exact h
   omega
  have S:(ao L).length=n:=(by rw[fl,J]);have Z:=iQa ((k:Int)+1) (by omega);have F:(ao L)[k]?=some (L[k].1.val L[k].2):=by simp[ao,eu I]
  have V:fS (ao L) k 1 [aI (-7)]=some (ao (L.set k ({ L[k].1 with user := -7},L[k].2))):=(by unfold fS;rw[F];show some ((ao L).set k _)=_;unfold ao;rw[KO];rfl);have l:=T (k+1) (H.put q (some ⟨24,ao (L.set k ({ L[k].1 with user := -7},L[k].2)),true,false⟩)) _ (by omega) (Jc G (by rw[N];rfl) _) (λr P=>by rw[aa.ad,if_neg P];exact j r P)
   (by rw[aa.ad,if_neg (λe=>Y e.symm)];exact a) (λ_=>by rw[aa.ad,if_pos rfl]) (by simp[J])
  rw[show((k+1:Nat):Int)=(k:Int)+1 from by omega]at l;clear T M j F i;have U:(k:Int)<n:=by omega
  have O:k<n:=(by omega);simp only[BS,str]at a;generalize ao (L.set k ({ L[k].1 with user := -7},L[k].2))=W at *;generalize ao L=E at *;refine lP _ _ _ _ _ _ _ _ _ _ λg=>?_;simp[ak, *,fA,uy];first | done | exact l
section
variable{own u:AV}{b d r5 r10 r4:Ref}{s o:AV}{st lf g1 k1 a1:Int}{dd:Bool}{z b5 b10 b4:bC}{D C A B:AV}
 {rs:List Ref} {n:Nat} {Q:AV->aa->Prop} (v:n<1000000) (t:b ∉ rs) (w:d ∉ rs) (y:r5 ∉ rs) (f:r10 ∉ rs) (x:r4 ∉ rs)
 (c : ∀(H:aa),Fr H->H.get d=some z->H.get r5=some b5->H.get r10=some b10->H.get r4=some b4->H.get b=some (BS s st lf dd o g1 k1 a1)->tu s=some n->cy bQ Tryz.f5 0 cw [(22,aI n),(11,.ptr b 0 0),(4,.ptr r4 0 0),(10,.ptr r10 0 0),(5,.ptr r5 0 0),(9,.ptr d 0 0),(20,aB true)] H Q)
include v t w y f x c
theorem UP : ∀(m k:Nat)(H:aa)(l:List fH),k+m=n->Fr H->H.get d=some z->H.get r5=some b5->H.get r10=some b10->H.get r4=some b4->H.get b=some (BS s st lf dd o g1 k1 a1)->wN 2 H s (iv l) rs->l.length=n->(∀s∈l,s.bs.length=128) ->
 cy bQ Tryz.f5 0 cw [(22,aI k),(11,.ptr b 0 0),(4,.ptr r4 0 0),(10,.ptr r10 0 0),(5,.ptr r5 0 0),(9,.ptr d 0 0),(20,aB true)] H Q:=by
 intro m;induction m with
 | zero=>
  intro k H l hk Y T O I N J hd P V;have F:=hd.len;rw[BH,P]at F;obtain rfl:k=n:=by omega
  exact c H Y T O I N J F
 | succ m ih=>
  intro k H l hk Y T O I N J hd P V;have F:=hd.len;rw[BH,P]at F;have hin:(k:Int)<n:=by omega
  have Z:k<l.length:=(by omega);obtain⟨p,hp⟩ : ∃p,l[k]?=some p:=⟨_,eu Z⟩;have G:(iv l)[k]?=some (.agg [aI p.pos,.fsl 1 (aK p.bs) none]):=(by unfold iv;rw[nM,hp];rfl);have hpb:=V p (ja hp);obtain⟨r,rfl,L⟩ : ∃r,s = .dsl r 0 n none/\qo 2 H r (iv l) rs:=by
   rcases hd with ⟨_,h,_⟩ | ⟨_,_,h,_⟩ | ⟨r',es,h1,h2,h3,N,O,h6⟩
   ·rw[h]at G;cases G
   ·rw[h]at G;cases G
   exact⟨r',by rw[h1,N.len,BH,P],es,h3,N,O,h6⟩
  obtain⟨es,xs,q,g1,g2,g3,g4,g5,R,g7,g8⟩:=L.ajM G (j:=1) rfl;have hrd:bP es k 1 1 false=some (.ct q 0 p.bs.length none):=(by rw[PI g3 g4,gM]);have h0:0<p.bs.length:=(by omega);have e3:=iQa ((k:Int)+1) (by omega);have hw:=Mv (m:=p.bs) (i:=0) h0 (p.bs[0]+1);rw[show(a8 (p.bs[0]+1)).cells=[a8 (p.bs[0]+1)] from rfl]at hw;have U:q≠b:=λe=>t (by rw[<-e];exact R);have q9:q≠d:=λe=>w (by rw[<-e];exact R);have q5:q≠r5:=λe=>y (by rw[<-e];exact R);have q10:q≠r10:=λe=>f (by rw[<-e];exact R);have q4:q≠r4:=λe=>x (by rw[<-e];exact R);have S:b≠q:=λe=>U e.symm;have E:=g8 (aK (p.bs.set 0 (p.bs[0]+1))) (by simp);have K:(iv l).set k (.agg ([aI p.pos,.fsl 1 (aK p.bs) none].set 1 (.fsl 1 (aK (p.bs.set 0 (p.bs[0]+1))) none)))=iv (l.set k ⟨p.pos,p.bs.set 0 (p.bs[0]+1),p.av⟩):=(by unfold iv;rw[KO];rfl);rw[K]at E;have a:(iv (l.set k ⟨p.pos,p.bs.set 0 (p.bs[0]+1),p.av⟩)).length=n:=by simp[P]
  have M:=E.row (λe=>by rw[e]at a;simp at a;omega);rw[a]at M;have X:=ih (k+1) (H.put q (some ⟨1,aK (p.bs.set 0 (p.bs[0]+1)),true,false⟩)) _ (by omega) (Jc Y (by rw[g5];rfl) _) (by rw[aa.ad,if_neg (λe=>q9 e.symm)];exact T) (by rw[aa.ad,if_neg (λe=>q5 e.symm)];exact O)
   (by rw[aa.ad,if_neg (λe=>q10 e.symm)];exact I) (by rw[aa.ad,if_neg (λe=>q4 e.symm)];exact N) (by rw[aa.ad,if_neg S];exact J) M (by simp[P]) (λs hs=>by
    rcases O2 hs with h | h
    ·exact V s h
    rw[h];simp[hpb])
  rw[show((k+1:Nat):Int)=(k:Int)+1 from by omega]at X;have hkI:(0:Int)<p.bs.length:=by omega
  simp only[BS,str]at J;clear g8 c hd L E K ih M a T O I N;refine lO _ _ _ _ _ _ _ _ _ λg=>?_;generalize aK (p.bs.set 0 (p.bs[0]+1))=W at *;simp[ak, *,iz,uy];done
end
end
section
theorem Z0 : ∀(l m:List fH)(d e:Dk)(n:Int),dV l=dV m->d.st=e.st->d.dd=e.dd->l.any (sv d n)=m.any (sv e n):=by
 intro l;induction l with
 | nil=>
  intro m d e n h _ _;cases m with
  | nil=>rfl
  | cons q m=>cases h
 | cons p l f=>
  intro m d e n h c a;cases m with
  | nil=>cases h
  | cons q m=>have b:p.pos=q.pos/\p.bs=q.bs:=(by have:=iQf List.head? h;simpa [dV] using this);have g:dV l=dV m:=(by have:=iQf List.tail h;simpa [dV] using this);rw[KP,KP,f m d e n g c a];unfold sv NO;rw[b.1,b.2,c,a]
theorem _root_.Go.Proofs.YtiidajnodhkidaaGreat.Dk.Eq.ud{d e:Dk}(h:d.Eq e):d.ud=e.ud:=by
 unfold Dk.ud;rw[h.cur];exact h.scan _ _ _ _ _ _
theorem acI{d e:Dk}(h:d.Eq e):ND d=ND e:=by
 unfold ND;rw[h.may,h.st,h.sC,h.cur,h.ud,Z0 d.l e.l d e _ h.key h.st h.dd]
theorem all_eq{d e:Dk}(h:d.Eq e):d.all=e.all:=by
 unfold Dk.all;rw[h.sC,h.ud]
structure adJ (D:Dk) (ys:AV) (La:List fH) (y2:AV) (Lb:List fH) (st lf:Int) (dd:Bool) (R:List dY) (O:AV) (g k a e:Int):Prop where
 d:ay bQ 13 [D.rt.val]=some (.tup [.agg [ys,aI st,aI lf,aB dd,O,aI g,aI k,aI a],aI e])
 r:ay bQ 27 [D.val]=some (.tup [.agg [y2,aI st,aI lf,aB dd,O,aI g,aI k,aI a],aI e])
 out:Ml 2 (iv La) ys
 few:La.length<1000000
 b128 : ∀s∈La,s.bs.length=128
 sl:Sl 2 (bt Lb) y2
 same:ay bQ 30 [.agg [HM ys,aI st,aI lf,aB dd,O,aI g,aI k,aI a],.agg [y2,aI st,aI lf,aB dd,O,aI g,aI k,aI a]]=some (aB true)
 row:Sl 24 (ao (cX R)) O
theorem yK{c b:List fH}{i f:AV}(u:Sl 2 (bt c) i)(o:Sl 2 (bt b) f)(x : ∀s∈c,fM s)(z : ∀s∈b,fM s)(n:c.length<500000)(w:b.length<500000)(D:dV c=dV b)
 {A B:List (dY × AV)} {l j:AV} (q:Sl 24 (ao A) l) (v:Sl 24 (ao B) j) (C : ∀p∈A,oX p) (m : ∀p∈B,oX p) (y:A.length<1000000) (t:Aw A=Aw B) (st lf:Int) (dd:Bool) (g k a:Int) :
 ay bQ 30 [.agg [i,aI st,aI lf,aB dd,l,aI g,aI k,aI a],.agg [f,aI st,aI lf,aB dd,j,aI g,aI k,aI a]]=some (aB true):=by
 have h:=Ke (d:=⟨c,i,st,lf,dd⟩) (e:=⟨b,f,st,lf,dd⟩) ⟨u,x,n⟩ ⟨o,z,w⟩ q v C m y g k a g k a;refine rO (by rfl) ?_;rw[t,HN]at h;unfold tK at h;simpa [vi,D] using h
theorem ZW{d:Dk}(s:d.vm) : ∃y z w u st lf dd R O g k a e,adJ d y z w u st lf dd R O g k a e:=by
 have b:=xF s;have c:=rt_eq d;have j:=aj1 b;have m:=rO (by rfl) (YB s);unfold ofD at j;unfold ofG at m;rw[acI c,all_eq c,c.cur,c.ud]at j;have x:Aw (cX d.all)=Aw (cX d.all):=rfl;by_cases n:ND d=0
 ·have v:d.may=true:=by
   unfold ND at n;by_cases h:d.may=true;·exact h
   rw[if_neg h]at n;cases n
  have o:d.rt.may=true:=by rw[c.may];exact v
  rw[if_pos n]at j m;have p:=gZ 24 (ao (cX d.all));have t:=HV (Mj d).1;have f:=Q0 b.sl;have i:=TC f;exact⟨_,d.rt.l,_,d.rt.l,d.st,d.lf,d.dd,d.all,_,_,_,_,_,j,m,f,by have:=b.len;omega,zW d.rt.l (-1) (vu o),b.sl,
   yK i b.sl (ER _) b.ok (by have:=b.len;simpa using this) b.len (E9 _) p p t t (by have:=(Mj d).2;simp;omega) rfl _ _ _ _ _ _,p⟩
 rw[if_neg n]at j m;have q:Sl 24 (ao (cX [])) aY := .inl ⟨rfl,rfl⟩;refine⟨aY,[],aY,[],0,0,false,[],aY,0,0,0,ND d,j,m,Uf,by simp,by simp,Dm,?_,q⟩;exact yK Dm Dm (by simp) (by simp) (by simp) (by simp) rfl q q (by simp[cX]) (by simp[cX]) (by simp[cX]) rfl _ _ _ _ _ _
end
section
attribute [local simp] aN aG ar aD aC ph uU bT kp aP ax aJ bG bF aX aO af a9 dM
theorem EU{H:aa}{i:List (Ref × bC)}{rows:List Bw}(h:Aa H i rows){t:Nat}{s o:AV}{st lf g k a:Int}{dd:Bool}(l:s.cells=[s]/\s.one=true)(hd:o.cells=[o]/\o.one=true){K:AV->aa->Prop}
 (j : ∀r d,Aa d ((r,BS s st lf dd o g k a) :: i) rows->(∀q b,H.get q=some b->d.get q=some b)->K (.ptr r 0 0) d) :
 kA (mA H (⟨0,t,aa.gen H 0 t,0⟩:Ref) (wc env.P (⟨0,t,aa.gen H 0 t,0⟩:Ref) 29)) λv p=>kA (kn env.P p 29 (some v) (some (str s st lf dd o g k a))) λu m=>K v m:=by
 have n:H.get ⟨0,t,H.gen 0 t,0⟩=none:=BP h.fr;have c:=j ⟨0,t,H.gen 0 t,0⟩ ((⟨0,t,H.gen 0 t,0⟩,some (BS s st lf dd o g k a)) :: H) (h.new 0 t _) (λq b f=>by rw[aa.gS,if_neg (λe=>by rw[<-e,n]at f;cases f)];exact f);clear j;simp only[BS,str]at c ⊢;simp[uy,l.1,l.2,hd.1,hd.2];exact c
theorem Ly{H:aa}{i:List (Ref × bC)}{rows:List Bw}(h:Aa H i rows){t:Nat}{s o:AV}{st lf g k a:Int}{dd:Bool}(l:s.cells=[s]/\s.one=true)(hd:o.cells=[o]/\o.one=true){K:AV->aa->Prop}
 (j : ∀r d,Aa d ((r,BS s st lf dd o g k a) :: i) rows->(∀q b,H.get q=some b->d.get q=some b)->K (.ptr r 0 0) d) :
 kA (mA H (⟨0,t,aa.gen H 0 t,0⟩:Ref) (JD env.P (⟨0,t,aa.gen H 0 t,0⟩:Ref) 29 (some (str s st lf dd o g k a)))) K:=by
 have m:H.get ⟨0,t,H.gen 0 t,0⟩=none:=BP h.fr;have c:=j ⟨0,t,H.gen 0 t,0⟩ ((⟨0,t,H.gen 0 t,0⟩,some (BS s st lf dd o g k a)) :: H) (h.new 0 t _) (λq b f=>by rw[aa.gS,if_neg (λe=>by rw[<-e,m]at f;cases f)];exact f);clear j;simp only[BS,str]at c ⊢;simp[l.1,l.2,hd.1,hd.2];exact c
theorem J6{H:aa}{b:List (Ref × bC)}{rows:List Bw}(h:Aa H b rows)(r:Ref)(s:AV)(st lf:Int)(dd:Bool)(o:AV)(g k a:Int)(d:(r,BS s st lf dd o g k a)∈b){K:AV->Prop}(c:K (str s st lf dd o g k a)) :
 fO (oT env.P (aa.get H) 29 (some (.ptr r 0 0))) K:=by
 have:=h.has _ d;simp only[BS,str]at this c ⊢;simp[this];exact c
theorem QZ{H:aa}{c:List (Ref × bC)}{rows:List Bw}(h:Aa H c rows)(d t:Nat)(b0 b1:bC):Aa (keyed ⟨d,t,H.gen d t,0⟩ 0 [b0,b1] H) ((⟨d,t,H.gen d t,0⟩,b0) :: (⟨d,t,H.gen d t,1⟩,b1) :: c) rows:=by
 have a : ∀k,H.get ⟨d,t,H.gen d t,k⟩=none:=λk=>h.fr d t _ k (bM _);have j:=Fr.keyed h.fr [b0,b1] d t;have i:Aa (keyed ⟨d,t,H.gen d t,0⟩ 0 [b0,b1] H) c rows:=h.grow j λq b f=>by
  rw[aa.tT,if_neg (λe=>?_)];·exact f
  have:=h.fr q.d q.t q.g q.k (by rw[e.1,e.2.1,e.2.2.1];exact bM _);rw[show(⟨q.d,q.t,q.g,q.k⟩:Ref)=q from rfl,f]at this;cases this
 refine(i.add (r:=⟨d,t,H.gen d t,1⟩) (b:=b1) (by simp[aa.tT]) (λp hp e=>?_) (h.live (a 1))).add (by simp[aa.tT]) (λp hp e=>?_) (h.live (a 0));·have:=h.has p hp;rw[e,a 1]at this;cases this
 rcases fR.1 hp with rfl | hp
 ·cases e
 have:=h.has p hp;rw[e,a 0]at this;cases this
theorem adr{H:aa}{m:List (Ref × bC)}{rows:List Bw}(h:Aa H m rows){t:Nat}{Y:AV}{W:List AV}(u:Z3 2 W Y){E:List AV}{st lf g k a:Int}{dd:Bool}{K:AV->aa->Prop}
 (j : ∀s o q n i,Aa n (i++m) rows->(s.cells=[s]/\s.one=true)->(o.cells=[o]/\o.one=true)->(∀d:aa,(∀p∈i,d.get p.1=some p.2)->view d.get 7 s=some (vw Y)/\view d.get 7 o=some (cK 24 E)) ->
  ((E.length≠0/\o = .ct q 0 E.length none)\/(o=aY/\E.length=0))->(E.length≠0->(q,⟨24,E,true,false⟩)∈i)->(∀p∈m,p.1≠q)->K (str s st lf dd o g k a) n) :
 kA (oA true H (⟨0,t,aa.gen H 0 t,0⟩:Ref) [] (some (.agg [Y,aI st,aI lf,aB dd,A0 24 E,aI g,aI k,aI a]))) K:=by
 have v : ∀k,H.get ⟨0,t,H.gen 0 t,k⟩=none:=λk=>h.fr 0 t _ k (bM _);have b : ∀k,∀p∈m,p.1≠⟨0,t,H.gen 0 t,k⟩:=λk p hp e=>by
  have:=h.has p hp;rw[e,v k]at this;cases this
 by_cases f:E=[]
 ·subst f;rw[Nz];rcases u with ⟨rfl,rfl⟩ | rfl | ⟨rfl,rfl⟩
  ·refine rm ?_ (j aY aY ⟨0,t,H.gen 0 t,0⟩ H [] h ⟨rfl,rfl⟩ ⟨rfl,rfl⟩ (λd _=>⟨rfl,rfl⟩) (.inr ⟨rfl,rfl⟩) (λe=>absurd rfl e) (b 0));first | rfl | simp[oA,aw,kB,keyed]
  ·refine rm ?_ (j (.ct ⟨0,t,H.gen 0 t,0⟩ 0 W.length none) aY ⟨0,t,H.gen 0 t,0⟩ _ [(⟨0,t,H.gen 0 t,0⟩,⟨2,W,true,false⟩)] (h.new 0 t _) ⟨rfl,rfl⟩ ⟨rfl,rfl⟩ (λd c=>⟨by have:=c _ (lX.2 rfl);simp only at this;simp[this,vw],rfl⟩) (.inr ⟨rfl,rfl⟩) (λe=>absurd rfl e) (b 0));first | rfl | simp[oA,aw,kB,keyed]
  refine rm ?_ (j (.ct ⟨0,t,H.gen 0 t,0⟩ 0 0 (some 0)) aY ⟨0,t,H.gen 0 t,0⟩ _ [(⟨0,t,H.gen 0 t,0⟩,⟨2,[],true,false⟩)] (h.new 0 t _) ⟨rfl,rfl⟩ ⟨rfl,rfl⟩ (λd c=>⟨by have:=c _ (lX.2 rfl);simp only at this;simp[this,vw],rfl⟩) (.inr ⟨rfl,rfl⟩) (λe=>absurd rfl e) (b 0));first | rfl | simp[oA,aw,kB,keyed]
 rw[DO 24 f];rcases u with ⟨rfl,rfl⟩ | rfl | ⟨rfl,rfl⟩
 ·refine rm ?_ (j aY (.ct ⟨0,t,H.gen 0 t,0⟩ 0 E.length none) ⟨0,t,H.gen 0 t,0⟩ _ [(⟨0,t,H.gen 0 t,0⟩,⟨24,E,true,false⟩)] (h.new 0 t _) ⟨rfl,rfl⟩ ⟨rfl,rfl⟩ (λd c=>⟨rfl,by have:=c _ (lX.2 rfl);simp only at this;simp[this,ji 24 f]⟩) (.inl ⟨λe=>f (si.1 e),rfl⟩) (λ_=>lX.2 rfl) (b 0));first | rfl | simp[oA,aw,kB,keyed]
 ·refine rm ?_ (j (.ct ⟨0,t,H.gen 0 t,0⟩ 0 W.length none) (.ct ⟨0,t,H.gen 0 t,1⟩ 0 E.length none) ⟨0,t,H.gen 0 t,1⟩ _ [(⟨0,t,H.gen 0 t,0⟩,⟨2,W,true,false⟩),(⟨0,t,H.gen 0 t,1⟩,⟨24,E,true,false⟩)] (QZ h 0 t _ _) ⟨rfl,rfl⟩ ⟨rfl,rfl⟩ (λd c=>by
   have a1:=c _ (j1 ..);have l:=c _ (kQ _ (j1 ..));simp only at a1 l;exact⟨by simp[a1,vw],by simp[l,ji 24 f]⟩) (.inl ⟨λe=>f (si.1 e),rfl⟩) (λ_=>by simp) (b 1))
  first | rfl | simp[oA,aw,kB,keyed]
 refine rm ?_ (j (.ct ⟨0,t,H.gen 0 t,0⟩ 0 0 (some 0)) (.ct ⟨0,t,H.gen 0 t,1⟩ 0 E.length none) ⟨0,t,H.gen 0 t,1⟩ _ [(⟨0,t,H.gen 0 t,0⟩,⟨2,[],true,false⟩),(⟨0,t,H.gen 0 t,1⟩,⟨24,E,true,false⟩)] (QZ h 0 t _ _) ⟨rfl,rfl⟩ ⟨rfl,rfl⟩ (λd c=>by
  have a1:=c _ (j1 ..);have l:=c _ (kQ _ (j1 ..));simp only at a1 l;exact⟨by simp[a1,vw],by simp[l,ji 24 f]⟩) (.inl ⟨λe=>f (si.1 e),rfl⟩) (λ_=>by simp) (b 1))
 first | rfl | simp[oA,aw,kB,keyed]
theorem We(n:Int) : ∃st lf e:Int,Ko n (fresh n) = .tup [.agg [aY,aI st,aI lf,aB false,aY,aI 0,aI 0,aI 0],aI e]:=by
 unfold Ko;split;·exact⟨0,0,2,rfl⟩
 exact⟨1,n,0,rfl⟩
theorem Wg{y:AV}(st lf:Int)(dd:Bool){o:AV}(b : ∀r n bs,aw r n o bs=(o,bs))(g k a e:Int) : ∀r s bs,aw r 6 y []=(s,bs)->aw r depth (.tup [.agg [y,aI st,aI lf,aB dd,o,aI g,aI k,aI a],aI e]) []=(.tup [str s st lf dd o g k a,aI e],bs):=by
 intro r s bs h;have z:aw r 7 (.agg [y,aI st,aI lf,aB dd,o,aI g,aI k,aI a]) []=(str s st lf dd o g k a,bs):=by
  unfold str;show(λp:List AV × List bC=>(AV.agg p.1,p.2)) ([y,aI st,aI lf,aB dd,o,aI g,aI k,aI a].foldl (λ(p:List AV × List bC) c=>let (y,bs):=aw r 6 c p.2;(p.1++[y],bs)) ([],[]))=_;simp only[wU,h,b];rfl
 show(λp:List AV × List bC=>(AV.tup p.1,p.2)) ([.agg [y,aI st,aI lf,aB dd,o,aI g,aI k,aI a],aI e].foldl (λ(p:List AV × List bC) c=>let (y,bs):=aw r 7 c p.2;(p.1++[y],bs)) ([],[]))=_;simp only[wU,z];rfl
section
variable{d s q:Dk}(hd:d.vm)(f:s.vm)(v:q.vm)(B : ∀x∈d.l,x.bs.length<1000000000)(bs : ∀x∈s.l,x.bs.length<1000000000)
 {l m:List (dY × AV)} {x y:AV} (i:Sl 24 (ao l) x) (u:Sl 24 (ao m) y) (j : ∀p∈l,oX p) (t : ∀p∈m,oX p) (sl : ∀p∈l,p.1.op.l.length<=200) (w:l.length<=100) (A:m.length<=100)
include hd f v B bs i u j t sl w A
theorem Yc(F G a gq kq aq n:Int)(g1:ay bQ 23 [d.val]=some (aB false))(g2:ay bQ 24 [vi s x F G a]=some (aB false))(g3:ay bQ 24 [vi q y gq kq aq]=some (aB false)) :
 ay bQ 5 [d.val,vi s x F G a,vi q y gq kq aq,aI n]=some (aB true):=by
 refine BO (fn:=Tryz.f5) (c:=jD) rfl (by kernel_rfl) (by kernel_rfl) (by kernel_rfl) (by kernel_rfl) ?_;refine mU _ _ _ _ _ _ λg=>?_;have I:=xF f;have sl' : ∀p∈l,p.1.op.l.length<100000:=λp hp=>by have:=sl p hp;omega
 have hTw:=rO (by rfl) (Kd f bs i j sl' (by omega) (g1:=F) (k1:=G) (a1:=a));have hMi:=rO (by rfl) (aav hd B);obtain⟨ys,La,y2,Lb,ost,olf,X,R,O,og,ok',oa,oe,hO⟩:=ZW hd;have hOd:=hO.d;have hOr:=hO.r;have hOs:=hO.same;obtain⟨nst,nlf,ne,C⟩:=We n;have hN1:=rO (by rfl) (Ys n);have hN2:=rO (by rfl) (Vj n);rw[C]at hN1 hN2;have hN3:=yK Dm Dm (by simp) (by simp) (by simp) (by simp) rfl (show Sl 24 (ao []) aY from .inl ⟨rfl,rfl⟩) (show Sl 24 (ao []) aY from .inl ⟨rfl,rfl⟩) (by simp) (by simp) (by simp) rfl nst nlf false 0 0 0;have E:Sl 24 (ao (EP l)) (cK 24 (ao (EP l))):=gZ _ _;have hrw : ∀p∈EP l,oX p:=abK j;have hT:=rO (by rfl) (Yr (L:=EP l) (g1:=F) (k1:=G) (a1:=a) (λp hp=>by
  obtain⟨r,hr,rfl⟩:=mo.1 hp;exact⟨rfl,sl' r hr⟩) (by simp;omega) I (λz hz=>by
  obtain⟨r,hr,rfl⟩:=mo.1 hz;exact bs r hr))
 have hEp:=rO (by rfl) (YJ (d:=s.rt) (ro:=cK 24 (ao (EP l))) (g1:=F) (k:=G) (at':=a) I E);have hA1:=rO (by rfl) (M4 I v E u hrw t (by simp;omega) F G a gq kq aq);have hA2:=rO (by rfl) (Ke f v i u j t (by omega) F G a gq kq aq);rw[show tK s.rt q=tK s q by unfold tK Dk.rt;rw[Fa],Gn]at hA1;generalize (tK s q&&(o8 (Aw l) (Aw m)&&((decide (F=gq)&&decide (G=kq))&&decide (a=aq))))=P at hA1 hA2;have hA3:=rO (by rfl) (M4 I f E i hrw j (by simp;omega) F G a F G a);rw[show tK s.rt s=true by unfold tK Dk.rt;simp[Fa],Gn,HN,show(true&&(true&&((decide (F=F)&&decide (G=G))&&decide (a=a))))=true by simp]at hA3;have hA4:=yK (Uv I.sl) f.sl (ER _) f.ok (by have:=f.len;simpa [Dk.rt] using this) f.len (by rw[E9];exact Fa _) E i hrw j (by simp;omega) (Gn l) s.st s.lf s.dd F G a;have hA5:=yK I.sl f.sl I.ok f.ok I.len f.len (Fa _) E i hrw j (by simp;omega) (Gn l) s.st s.lf s.dd F G a;have hA6:=So (xF hd).sl (xF hd).ok hd.sl hd.ok (by have:=(xF hd).len;omega) (Fa d.l) d.st d.lf d.dd;have hY:=Dz I.sl;have u1:=hd.sl.r;have u2:=f.sl.r;have u3:=v.sl.r;have u4:=i.r;have u5:=u.r;have u6:=E.r;have u7:=I.sl.r;have u8:=(xF hd).sl.r;have u9:=hO.sl.r;have u10:=hO.row.r;have c1:=hd.sl.C4;have c2:=f.sl.C4;have c3:=v.sl.C4;have c4:=i.C4;have c5:=u.C4;have c6:=E.C4;have c7:=I.sl.C4;have c8:=(xF hd).sl.C4;have c9:=hO.sl.C4;have c10:=hO.row.C4;have hout:=hO.out;have h128:=hO.b128;have few:=hO.few;have tlen:(EP l).length=l.length:=XZ l;obtain⟨ld,xd,st,lf,dd⟩:=d;obtain⟨ls,xs,N,K,J⟩:=s;obtain⟨lq,xq,qst,qlf,qdd⟩:=q;clear hO hd f v i u j t sl I E hrw sl' B bs C;simp only[Dk.rt,Dk.val,vi]at *;generalize cK 2 (bt (Gd ld))=M at *;generalize cK 2 (bt (Gd ls))=S at *;generalize OJ S (Gd ls)=Y at *;generalize bt (zH (Gd ls))=WS at *;generalize EP l=T at *;generalize hW:cK 24 (ao T)=W at *;unfold jF;refine aaH Aa.nil c1 λr4 H o V=>?_;clear V;refine Ly o c2 c4 λr5 H o V=>?_;clear V;refine Ly o c3 c5 λr6 H o V=>?_;clear V;refine Wu o r4 xd st lf dd (by simp) ?_;simp only[dR]at *;simp[ak, *, -kT, -kS];refine J6 o r5 xs N K J x F G a (by simp) ?_;simp only[str];simp[ak, *, -kT, -kS];refine J6 o r6 xq qst qlf qdd y gq kq aq (by simp) ?_;simp only[str];simp[ak, *, -kT, -kS];refine J6 o r5 xs N K J x F G a (by simp) ?_;simp only[str];simp[ak, *, -kT, -kS];refine EU o c7 c6 λr9 H o V=>?_;clear V;refine Wu o r4 xd st lf dd (by simp) ?_;simp only[dR];simp[ak, *, -kT, -kS];refine ahz o c8 λr10 H o V=>?_;clear V;refine Wu o r10 M st lf dd (by simp) ?_;simp only[dR];simp[ak, *, -kT, -kS, -ar, -aD, -aC];refine o.call ⟨_,_,rfl⟩ (z:=2) (refs:=[]) (by decide) (by simp) (by simp) (n:=3) (y:=ys) (mk:=λs => .tup [.agg [s,aI ost,aI olf,aB X,O,aI og,aI ok',aI oa],aI oe]) (by first | rfl | exact hOd) (Wg _ _ _ u10.2.2.2.2.2.2 _ _ _ _) hout (Kh _) λH s1 rs1 o hk hn ho1=>?_;clear hk hn;simp[ak, *, -kT, -kS];refine EU o (C9 (o.row _ (j1 ..))) c10 λZ H o V=>?_;clear V;refine Wu o r4 xd st lf dd (by simp) ?_;simp only[dR];simp[ak, *, -kT, -kS];refine EU o c9 c10 λr13 H o V=>?_;clear V;simp[ak, *, -kT, -kS];refine EU o ⟨rfl,rfl⟩ ⟨rfl,rfl⟩ λr15 H o V=>?_;clear V;simp[ak, *, -kT, -kS];refine EU o ⟨rfl,rfl⟩ ⟨rfl,rfl⟩ λr17 H o V=>?_;clear V;refine J6 o r9 S N K J W F G a (by simp) ?_;simp only[str];simp[ak, *, -kT, -kS, -ar, -aD, -aC];refine adr o hY λt1 t2 q0 H fs' o tc1 tc2 tv tq tm tne=>?_;refine EU o tc1 tc2 λr19 H o V=>?_;clear V tne;have f4:=o.has (r4,Mm xd st lf dd) (by simp);have f5:=o.has (r5,BS xs N K J x F G a) (by simp);have f6:=o.has (r6,BS xq qst qlf qdd y gq kq aq) (by simp);have f9:=o.has (r9,BS S N K J W F G a) (by simp);have f10:=o.has (r10,Mm M st lf dd) (by simp);have f11:=o.has (Z,BS s1 ost olf X O og ok' oa) (by simp);have f13:=o.has (r13,BS y2 ost olf X O og ok' oa) (by simp);have f15:=o.has (r15,BS aY nst nlf false aY 0 0 0) (by simp);have f17:=o.has (r17,BS aY nst nlf false aY 0 0 0) (by simp);have f19:=o.has (r19,BS t1 N K J t2 F G a) (by simp);have U:=o.row ⟨2,s1,iv La,rs1⟩ (by simp);have w1:=VA U ho1;have w2:=tv H (λp hp=>o.has p (by simp[hp]));have D:=o.sep ⟨2,s1,iv La,rs1⟩ (by simp);have hF:=o.fr;rw[fl]at tq tm;obtain⟨p,p19,p9,p5,p10,p4,p11,prs,pb,po⟩ : ∃p:Ref,p≠r19/\p≠r9/\p≠r5/\p≠r10/\p≠r4/\p≠Z/\p ∉ rs1/\(T.length≠0->H.get p=some ⟨24,ao T,true,false⟩)/\(t2 = .ct p 0 T.length none\/(t2=aY/\T.length=0)):=by
  by_cases h0:T.length=0
  ·have hn:H.get ⟨0,0,H.gen 0 0,0⟩=none:=BP hF;have C : ∀r b,H.get r=some b->(⟨0,0,H.gen 0 0,0⟩:Ref)≠r:=λr b h e=>by rw[<-e,hn]at h;cases h
   refine⟨_,C _ _ f19,C _ _ f9,C _ _ f5,C _ _ f10,C _ _ f4,C _ _ f11,o.live hn ⟨2,s1,iv La,rs1⟩ (by simp),λh=>absurd h0 h,?_⟩;rcases tq with h | h
   ·exact absurd h0 h.1
   exact .inr h
  have t:=tm h0;have hb:=o.has (q0,⟨24,ao T,true,false⟩) (by simp[t]);have C : ∀r b,H.get r=some b->b.esz≠24->q0≠r:=λr b h e e2=>by rw[<-e2,hb]at h;cases h;exact e rfl
  refine⟨q0,C _ _ f19 (by simp[BS]),C _ _ f9 (by simp[BS]),C _ _ f5 (by simp[BS]),C _ _ f10 (by simp[Mm]),C _ _ f4 (by simp[Mm]),C _ _ f11 (by simp[BS]),D (q0,⟨24,ao T,true,false⟩) (by simp[t]),λ_=>hb,?_⟩;rcases tq with h | h
  ·exact .inl h.2
  exact absurd h.2 h0
 have hend : ∀H',Fr H'->H'.get r9=some (BS S N K J W F G a)->H'.get r5=some (BS xs N K J x F G a)->H'.get r10=some (Mm M st lf dd)->H'.get r4=some (Mm xd st lf dd)->H'.get Z=some (BS s1 ost olf X O og ok' oa)->tu s1=some La.length ->
  cy bQ Tryz.f5 0 cw [(22,aI La.length),(11,.ptr Z 0 0),(4,.ptr r4 0 0),(10,.ptr r10 0 0),(5,.ptr r5 0 0),(9,.ptr r9 0 0),(20,aB true)] H' λx H=>ed bQ 5 x H (aB true):=by
  intro H' hF' e9 e5 e10 e4 e11 el;clear hOd hOr hOs hN1 hN2 hN3 hT hEp hA1 hA2 hA3 hA4 hTw hMi g1 g2 g3 o D f4 f5 f6 f9 f10 f11 f13 f15 f17 f19 w1 w2 tv tq tm pb po U ho1 hout hY;simp only[BS,Mm,dR,str]at *;refine lO _ _ _ _ _ _ _ _ _ λg=>?_;simp[ak, *,iz]
 have hfin:=UO (q19:=r19) (s:=t1) (st:=N) (lf:=K) (g1:=F) (k1:=G) (a1:=a) (dd:=J) (x11 := .ptr Z 0 0) (x4 := .ptr r4 0 0) (x10 := .ptr r10 0 0) (x5 := .ptr r5 0 0) (x9 := .ptr r9 0 0) (x20:=aB true) (H0:=H) (Q:=λx H=>ed bQ 5 x H (aB true)) p19 (by omega) po
  (λH' hF' hg=>UP (n:=La.length) few (D (Z,BS s1 ost olf X O og ok' oa) (by simp)) (D (r9,BS S N K J W F G a) (by simp)) (D (r5,BS xs N K J x F G a) (by simp)) (D (r10,Mm M st lf dd) (by simp)) (D (r4,Mm xd st lf dd) (by simp)) hend La.length 0 H' La (by omega) hF'
   (by rw[hg _ p9.symm];exact f9) (by rw[hg _ p5.symm];exact f5) (by rw[hg _ p10.symm];exact f10) (by rw[hg _ p4.symm];exact f4) (by rw[hg _ p11.symm];exact f11) (U.bT λr hr b hb=>by rw[hg _ (λe=>prs (by rw[<-e];exact hr))];exact hb) rfl h128)
  T.length 0 H T (by omega) hF (λ_ _=>rfl) f19 pb rfl
 rw[hW]at w2;clear hend o D tv tq tm pb po U ho1 hout hY prs p19 p9 p5 p10 p4 p11 h128 few;simp only[BS,Mm,dR,str]at f4 f5 f6 f9 f10 f11 f13 f15 f17 f19;simp[ak, *];exact hfin
end
section
variable{d s q:Dk}(hd:Sl 2 (bt d.l) d.x)(b:Sl 2 (bt s.l) s.x)(e:Sl 2 (bt q.l) q.x){l m:List (dY × AV)}{x y:AV}(f:Sl 24 (ao l) x)(a:Sl 24 (ao m) y)
include hd b e f a
theorem abR(t v h k C A n:Int)(b1 b2 b3:Bool)(g1:ay bQ 23 [d.val]=some (aB b1))(Q:ay bQ 24 [vi s x t v h]=some (aB b2))(T:ay bQ 24 [vi q y k C A]=some (aB b3))(z:(b1||(b2||b3))=true) :
 ay bQ 5 [d.val,vi s x t v h,vi q y k C A,aI n]=some (aB true):=by
 refine BO (fn:=Tryz.f5) (c:=jD) rfl (by kernel_rfl) (by kernel_rfl) (by kernel_rfl) (by kernel_rfl) ?_;refine mU _ _ _ _ _ _ λg=>?_;have F:=hd.C4;have E:=b.C4;have I:=e.C4;have J:=f.C4;have G:=a.C4;have U:=hd.r;have N:=b.r;have O:=e.r;have S:=f.r;have P:=a.r;obtain⟨R,L,st,lf,dd⟩:=d;obtain⟨ls,xs,w,u,o⟩:=s;obtain⟨M,K,p,B,D⟩:=q;clear hd b e f a;simp only[Dk.val,vi]at *;unfold jF;refine aaH Aa.nil F λr4 H i j=>?_;clear j;refine Ly i E J λr5 H i j=>?_;clear j;refine Ly i I G λr6 H i j=>?_;clear j;refine Wu i r4 L st lf dd (by simp) ?_;simp only[dR]at *;cases b1 with
 | true=>clear z;simp[ak, *, -kT, -kS];done
 | false=>
  simp[ak, *, -kT, -kS];refine J6 i r5 xs w u o x t v h (by simp) ?_;simp only[str];cases b2 with
  | true=>clear z;simp[ak, *, -kT, -kS];done
  | false=>obtain rfl:b3=true:=(by simpa using z);simp[ak, *, -kT, -kS];refine J6 i r6 K p B D y k C A (by simp) ?_;simp only[str];simp[ak, *, -kT, -kS];done
end
theorem abS{d s q:Dk}(hd:Sl 2 (bt d.l) d.x)(b:Sl 2 (bt s.l) s.x)(e:Sl 2 (bt q.l) q.x)(z : ∀x∈d.l,fM x)(A : ∀x∈s.l,fM x)(C : ∀x∈q.l,fM x)
 (P : ∀x∈d.l,x.bs.length<1000000000) (bs : ∀x∈s.l,x.bs.length<1000000000) {l m:List (dY × AV)} {x y:AV} (f:Sl 24 (ao l) x) (a:Sl 24 (ao m) y) (v : ∀p∈l,Sl 1 (rows p.1.op.l) p.2) (B : ∀p∈m,Sl 1 (rows p.1.op.l) p.2) (j u c t o k n:Int) :
 ay bQ 5 [d.val,vi s x j u c,vi q y t o k,aI n]=some (aB true):=by
 obtain⟨b1,N,k1⟩:=Ri (st:=d.st) (lf:=d.lf) (dd:=d.dd) hd z;obtain⟨b2,F,K⟩:=HR b A f v j u c;obtain⟨b3,J,O⟩:=HR e C a B t o k;have h:=rO (by rfl) N;have i:=rO (by rfl) F;have g:=rO (by rfl) J;by_cases G:(b1||(b2||b3))=true;·exact abR hd b e f a j u c t o k n b1 b2 b3 h i g G
 have D:b1=false:=by cases b1<;>simp_all
 have M:b2=false:=by cases b2<;>simp_all
 have L:b3=false:=by cases b3<;>simp_all
 subst D M L;obtain⟨a1,I,w⟩:=K rfl;obtain⟨Q,E,H⟩:=O rfl;have a0:=k1 rfl;exact Yc ⟨hd,z,by omega⟩ ⟨b,A,by omega⟩ ⟨e,C,by omega⟩ P bs f a (λp hp=>⟨v p hp,by have:=w p hp;omega⟩) (λp hp=>⟨B p hp,by have:=H p hp;omega⟩) w I E j u c t o k n h i g
end
end Go.Proofs.YtiidajnodhkidaaGreat
namespace Go.Proofs.YtiidajnodhkidaaGreat.storeReads
open Go.Ab Go.ChangeShapes Go.WideShapes Go.RowKit
theorem law(a:List AV)(h:QG bQ.P 20 Tryz.f5.params.toList a)(i : ∀x∈a,uO 1048576 x):ay bQ 5 a=some (aB true):=by
 rw[show Tryz.f5.params.toList=[24,29,29,3] from by kernel_rfl]at h;obtain⟨x0,a,rfl,v,h⟩:=BD h;obtain⟨B,a,rfl,A,h⟩:=BD h;obtain⟨C,a,rfl,m,h⟩:=BD h;obtain⟨D,a,rfl,q,h⟩:=BD h;obtain rfl:=UX h;obtain⟨l,y,st,lf,dd,b,g,rfl⟩:=abU v;obtain⟨e,R,ro,g1,k1,a1,c,j,z,p,rfl⟩:=U0 A;obtain⟨f,S,E,w,u,t,f1,f2,f3,f4,rfl⟩:=U0 m;obtain⟨n,_,rfl⟩:=abT q;have o:=UT g b (i (dR y st lf dd) (by simp));have k:=US j c (i (vi e ro g1 k1 a1) (by simp));exact abS (d:=⟨l,y,st,lf,dd⟩) g j f2 b c f1 (λs h=>by have:=o s h;omega) (λs h=>by have:=k s h;omega) p f4 z f3 g1 k1 a1 w u t n
def wit:Input:=⟨#[], #[.agg #[.slice none 0 0,.int .i64 0,.int .i64 0,.bool false],.agg #[.slice none 0 0,.int .i64 0,.int .i64 0,.bool false,.slice none 0 0,.int .i64 0,.int .i64 0,.int .i64 0],.agg #[.slice none 0 0,.int .i64 0,.int .i64 0,.bool false,.slice none 0 0,.int .i64 0,.int .i64 0,.int .i64 0],.int .i64 0],[]⟩
theorem lifted(e:Os)(a:e.Started)(H:Type)(enc:TypeId × Value->H)(f:Stop.Interp) :
 ReturnsInHanded {} Tryz.checked e 5 .any ((Rows.OpenSpec.upto Rows.storeReadsSpec).pre6 enc Tryz.prog Tryz.f5 Rows.storeReadsUptoRow.domain false) (((Rows.OpenSpec.upto Rows.storeReadsSpec).at f).post enc Tryz.prog Tryz.f5 false true false false):=by
 refine returnsInHanded_of_cond (C:=Tryz.checked) (s:=Rows.OpenSpec.upto Rows.storeReadsSpec) (k:=Rows.uptoSmall) rfl own a (by kernel_rfl) Tryz.func5
  (OpenSpec.witness (enc:=enc) (C:=Tryz.checked) (s:=Rows.OpenSpec.upto Rows.storeReadsSpec) (k:=Rows.uptoSmall) rfl false wit 8 (by kernel_rfl) (by kernel_rfl) (by kernel_rfl)
   (x:=(DataW.whole enc Tryz.prog (World.plainHolding Tryz.prog e wit).memory Tryz.f5.params.toList [] false wit.args.toList 8).get (by kernel_rfl)) (Option.some_get _).symm (by kernel_rfl) (by kernel_rfl)) ?_
 intro W c args ds g b d i _ j _;exact Ip (E:=bQ) adi kids (slices_full_of Tryz.prog (by kernel_rfl)) (s:=(Rows.OpenSpec.upto Rows.storeReadsSpec).at f) (m:=20) (λt h=>iQC (gP.1 (show Tryz.f5.params.toList.all (λt=>decide (t<Tryz.prog.types.size))=true by kernel_rfl) t h)) (by kernel_rfl) rfl
  (λds hd=>by match ds,hd with | [_,_,_,_],_=>rfl) (by kernel_rfl) Qw W7 law W c args ds g b d i (Qv j)
theorem su:Rows.storeReadsUptoRow.holds Tryz.pinned (Rows.OpenSpec.upto Rows.storeReadsSpec):=
 OpenClaim.holds_of_cond 5 Tryz.f5 rfl rfl rfl rfl rfl rfl rfl ⟨rfl,rfl,rfl,rfl,rfl⟩ rfl rfl rfl rfl rfl (by kernel_rfl) Tryz.func5 (by kernel_rfl)
  (iQC (by kernel_rfl)) (by unfold Func.isWrapper;first | (rw[if_pos (by decide +kernel)];kernel_rfl) | (rw[if_neg (by decide +kernel)];exact⟨rfl,rfl⟩))
  (λb a H enc _ c=>lifted b a H enc c)
theorem proved:Rows.StoreReadsUptoSaid:=
 su
end Go.Proofs.YtiidajnodhkidaaGreat.storeReads
