/-
  Records and their blocks: what is put is got; what is mixed is no record. No statement of a seat is proved here.
-/
import Derived.Test.YtiidajnodhkidaaGreatMRecGet
set_option linter.unusedVariables false
set_option linter.unusedSimpArgs false
set_option linter.unusedSectionVars false
set_option linter.unnecessarySimpa false
set_option maxRecDepth 1000000
set_option linter.defProp false
namespace Go.Proofs.YtiidajnodhkidaaGreat
open Go.Ab
section
def V2{a b:gI}(h:o9 a b=true):a=b:=by
 obtain⟨v,⟨I,a_3,u⟩,x,⟨⟨⟨H,E,A⟩,D⟩,q⟩,⟨⟨e,i,s⟩,p⟩,⟨l,o⟩,L⟩:=a;obtain⟨G,⟨J,K,C⟩,y,⟨⟨⟨z,F,w⟩,B⟩,j⟩,⟨⟨g,n,t⟩,k⟩,⟨m,d⟩,M⟩:=b;simp[o9]at h;simp[h]
def U1{a b:dY}(h:my a b=true):a=b:=by
 obtain⟨a1,m,n,o,t,p,q,a8⟩:=a;obtain⟨b1,b2,b3,b4,b5,b6,u,s⟩:=b;simp only[my,bI,iQb]at h;obtain⟨k,f,d,l,i,⟨g,j⟩,e⟩:=h;rw[k,f,V2 d,l,i,g,j,e]
def Pq(a:dY):my a a=true:=by simp[my,o9]
def RH{b:Type}(p:List b)(a d:b)(t:List b){n:Nat}(h:p.length=n):(p++a :: t).getD n d=a:=by subst h;simp[List.getD]
def Nl{st nu of i:Int}{x:List UInt8}(h:x.length<=119):(nJ st nu of i x).length=128:=by simp[nJ];omega
def vF{st nu a of:Int}:l9 st nu a of=true↔1<=st/\st<2147483648/\1<=nu/\nu<16777216/\1<=of/\of<=4/\0<=a/\a<of:=by
 simp only[l9,bI,iQb,and_assoc]
def Zy{st nu of i:Int}{x:List UInt8}(j:x.length<=119)(c:l9 st nu i of=true):du (nJ st nu of i x)=⟨st,nu,i,of⟩/\gV (nJ st nu of i x)=true:=by
 obtain⟨q,f,k,s,o,m,p,l⟩:=vF.1 c;have e:du (nJ st nu of i x)=⟨st,nu,i,of⟩:=by
  have a:(nJ st nu of i x).take 4=be 4 st:=Af (Fo 4 st);have g:((nJ st nu of i x).drop 4).take 3=be 3 nu:=(by rw[show(nJ st nu of i x).drop 4=be 3 nu++([u8 i,u8 of]++(x++List.replicate (119 - x.length) 0)) from Dn (Fo 4 st)];exact Af (Fo 3 nu));have b:(nJ st nu of i x).getD 7 0=u8 i:=(by have:=RH (be 4 st++be 3 nu) (u8 i) 0 (u8 of :: (x++List.replicate (119 - x.length) 0)) (n:=7) (by simp);rw[<-this];simp[nJ]);have d:(nJ st nu of i x).getD 8 0=u8 of:=(by have:=RH (be 4 st++(be 3 nu++[u8 i])) (u8 of) 0 (x++List.replicate (119 - x.length) 0) (n:=8) (by simp);rw[<-this];simp[nJ]);unfold du;rw[a,g,b,d,CR (by omega) (by omega),CR (by omega) (by omega),CT,CT];congr 1<;>omega
 refine⟨e,?_⟩;unfold gV;rw[e,Nl j];simpa using c
def E0(st nu of:Int) : ∀(l:List (List UInt8)) (i:Int) (k:Nat),(rC st nu of i l)[k]?=(l[k]?).map (nJ st nu of (i+k))
 | [],_,_=>rfl
 | x :: l,i,0=>by simp[rC]
 | x :: l,i,k+1=>by
  rw[rC,OZ,OZ,E0 st nu of l (i+1) k];congr 2;omega
def Kk : ∀(m:Nat)(s:List UInt8),∀x∈E5 m s,x.length<=119
 | 0,_,x,h=>by cases h
 | m+1,s,x,h=>by
  rw[E5]at h;split at h;·cases h
  rcases fR.1 h with rfl | h
  ·simp;omega
  exact Kk m _ x h
def Il : ∀(m:Nat)(s:List UInt8),s.length<=119 * m->(E5 m s).length=(s.length+118) / 119
 | 0,s,h=>by rw[show s.length=0 by omega];rfl
 | m+1,s,h=>by
  rw[E5];split;·rename_i e;rw[e];rfl
  rename_i e;have hp:0<s.length:=yd.2 e;rw[jP,Il m (s.drop 119) (by rw[oZ];omega),oZ];omega
def Ov(st nu of:Int) : ∀(m:Nat)(s:List UInt8)(i:Int),s.length<=119 * m ->∃z,iL (rC st nu of i (E5 m s))=s++List.replicate z 0
 | 0,s,i,h=>⟨0,by rw[show s=[] from si.1 (by omega)];rfl⟩
 | m+1,s,i,h=>by
  rw[E5];split;·rename_i e;exact⟨0,by rw[e];rfl⟩
  rename_i e;obtain⟨z,d⟩:=Ov st nu of m (s.drop 119) (i+1) (by rw[oZ];omega);have b:(nJ st nu of i (s.take 119)).drop 9=s.take 119++List.replicate (119 - (s.take 119).length) 0:=by
   have:nJ st nu of i (s.take 119)=(be 4 st++(be 3 nu++[u8 i,u8 of]))++(s.take 119++List.replicate (119 - (s.take 119).length) 0):=(by simp[nJ]);rw[this];exact Dn (by simp)
  have g:iL (rC st nu of i (s.take 119 :: E5 m (s.drop 119)))=(s.take 119++List.replicate (119 - (s.take 119).length) 0)++(s.drop 119++List.replicate z 0):=(by rw[<-d,<-b];simp[iL,rC]);rw[g];by_cases a:s.length<=119;·refine⟨119 - s.length+z,?_⟩;rw[dM a,Fz a,sf,sh,Uj]
  refine⟨z,?_⟩;rw[oM,show 119 - min 119 s.length=0 by omega,K2,tg,<-sh,Dt]
def pq{r:dY}(h:ej r=true)(st nu:Int):(de r st nu).length=nI r:=by
 unfold de;rw[EZ,Il 3 _ (zM h).1];rfl
def Ef{r:dY}{st nu:Int}(c:l9 st nu 0 (nI r)=true){i:Nat}{b:List UInt8}(a:(de r st nu)[i]?=some b)(hi:i<nI r):du b=⟨st,nu,i,nI r⟩/\gV b=true/\b.length=128:=by
 unfold de at a;rw[E0,bU]at a;obtain⟨x,m,rfl⟩:=a;have d:=Kk 3 _ x (ja m);obtain⟨k,f,e,l,j,g,o,n⟩:=vF.1 c;have:=Zy (st:=st) (nu:=nu) (of:=nI r) (i:=0+(i:Int)) d (vF.2 ⟨k,f,e,l,j,g,by omega,by omega⟩);rw[show(0:Int)+i=i by omega]at this;rw[show(0:Int)+i=i by omega];exact⟨this.1,this.2,Nl d⟩
def Qf{l:List (List UInt8)}{p:dY × Hd}(h:xM l=some p) : ∀(i:Nat)(b:List UInt8),l[i]?=some b->du b=⟨p.2.st,p.2.nu,i,l.length⟩:=by
 intro i b e;unfold xM at h;split at h;·rename_i j;cases h;simp only[bI,y9,iQb]at j;obtain⟨n,m,⟨k,c⟩,g⟩:=j;have a:=pq k (du (l.headD [])).st (du (l.headD [])).nu;rw[g]at a;have hi:=(fg.1 e).1;have d:=e;rw[<-g]at d;have:=Ef c d (by omega);rw[this.1,a]
 cases h
def TG{B:List (List UInt8)}(h : ∀b∈B,b.length=128)(i:B.length<=4):(iL B).length<100000:=by
 have : ∀B:List (List UInt8),(∀b∈B,b.length=128)->(iL B).length<=128 * B.length:=by
  intro B;induction B with
  | nil=>intro _;simp[iL]
  | cons b B a=>intro h;have g:=a λx d=>h x (kQ _ d);have f:=h b (j1 ..);have e:iL (b :: B)=b.drop 9++iL B:=rfl;rw[e,iX,oZ,jP];omega
 have:=this B h;omega
def Xc{B:List (List UInt8)}(h:B≠[]):fF B≠[]:=by simpa [fF] using h
def Fm{r:dY}{st nu:Int}(a:ej r=true)(c:l9 st nu 0 (nI r)=true) : ∀b∈de r st nu,b.length=128:=by
 intro b d;obtain⟨i,hi⟩:=List.mem_iff_getElem?.1 d;have:=(fg.1 hi).1;rw[pq a]at this;exact(Ef c hi this).2.2
end
section
structure Dk where
 l:List fH
 x:AV
 st:Int
 lf:Int
 dd:Bool
def Dk.val(d:Dk):AV:=dR d.x d.st d.lf d.dd
structure Dk.vm (d:Dk):Prop where
 sl:Sl 2 (bt d.l) d.x
 ok : ∀s∈d.l,fM s
 len:d.l.length<500000
def Dk.may(d:Dk):Bool:=Gi d.l d.st d.lf d.dd
def Dk.tw(d:Dk):Dk:=⟨zH d.l,vw (OJ d.x d.l),d.st,d.lf,d.dd⟩
def Dk.dead(d:Dk):Bool:=d.dd||decide (d.lf=0)
def Dk.wr(d:Dk)(q:Int)(b:List UInt8):Dk:=
 if d.dead then ⟨zH d.l,vw (OJ d.x d.l),d.st,d.lf,true⟩ else ⟨OI q b d.l,.bE 2 (bt (OI q b d.l)) none,d.st,if d.lf>0 then d.lf - 1 else d.lf,false⟩
def Dk.rd(d:Dk)(q:Int):List UInt8:=XD d.l q
def Dk.wrs(d:Dk)(q:Int):List (List UInt8)->Dk
 | []=>d
 | b :: B=>(d.wr q b).wrs (q+1) B
def TQ : ∀(l:List fH)(a:Int),a<=6145->gN a l=true->(l.length:Int)<=6145 - a:=by
 intro l;induction l with
 | nil=>intro a b _;simp;omega
 | cons p l c=>intro a b h;simp[gN]at h;have:=c p.pos (by omega) h.2;simp only[jP];omega
def vu{d:Dk}(h:d.may=true):gN (-1) d.l=true:=L4 h
def Zk{d:Dk}(h:d.may=true):d.l.length<=6146:=by
 have:=TQ d.l (-1) (by omega) (vu h);omega
def abJ{d:Dk}(h:d.vm):d.tw.vm:=⟨Uv h.sl,ER _,by show(zH d.l).length<_;rw[X0];exact h.len⟩
def UC{d:Dk}:d.tw.may=d.may:=by unfold Dk.may Dk.tw Gi;rw[Ls]
def O7{d:Dk}(h:d.may=true){q:Int}(e:0<=q/\q<6146){b:List UInt8}(f:b.length=128):(d.wr q b).may=true:=by
 have c:=vu h;unfold Dk.may Gi at h ⊢;unfold Dk.wr;split;·rename_i a;show(gN (-1) (zH d.l)&&_)=true;rw[Ls,c];unfold Dk.dead at a;unfold IQ at h ⊢;rw[c]at h;simp only[jf,iQb]at a;rcases a with a | a<;>simp[a]at h ⊢ <;> omega
 rename_i a;show(gN (-1) (OI q b d.l)&&_)=true;rw[adB q b e.2 f d.l (-1) (by omega) c];unfold Dk.dead at a;unfold IQ at h ⊢;rw[c]at h;simp at h a ⊢;obtain⟨i,g⟩:=a;split<;>omega
def abC{d:Dk}(h:d.vm)(c:d.may=true){q:Int}(a:0<=q/\q<6146){b:List UInt8}(e:b.length=128):(d.wr q b).vm:=by
 have:=Zk (O7 c a e);refine⟨?_,?_,by omega⟩
 ·unfold Dk.wr;split;·exact Uv h.sl
  exact Sl.mk _ _
 unfold Dk.wr;split;·exact ER _
 exact afi q b d.l
def abz : ∀(B:List (List UInt8)) (d:Dk) (q:Int),d.vm->d.may=true->0<=q->q+B.length<=6146->(∀b∈B,b.length=128)->(d.wrs q B).vm/\(d.wrs q B).may=true:=by
 intro B;induction B with
 | nil=>intro d q h a _ _ _;exact⟨h,a⟩
 | cons b B e=>intro d q h a i f c;simp only[jP]at f;have b1:=c b (j1 ..);exact e (d.wr q b) (q+1) (abC h a (by omega) b1) (O7 a (by omega) b1) (by omega) (by omega) λx g=>c x (kQ _ g)
def abX{d:Dk}(h:d.vm)(a:d.may=true){q:Int}(b:0<=q/\q<6146):ay env 116 [d.val,aI q]=some (.tup [.bE 1 (aK (d.rd q)) none,aI 0]):=by
 have:=abW (st:=d.st) (lf:=d.lf) (dd:=d.dd) h.sl h.ok (by have:=h.len;omega) (q:=q);rw[if_pos (show Gi d.l d.st d.lf d.dd=true from a),if_pos b,acg]at this;exact this
def PJ{d:Dk}(a:d.may=true)(q:Int):(d.rd q).length=128:=by
 have h:=zW d.l (-1) (vu a);unfold Dk.rd;generalize d.l=l at *;clear a d;induction l with
 | nil=>rfl
 | cons p l c=>
  unfold XD;split;·exact c λs b=>h s (kQ _ b)
  split;·exact h p (j1 ..)
  rfl
def DG{d:Dk}(h:d.vm):ay env 45 [d.val]=some (aI (if d.may then 0 else 8)):=LF (st:=d.st) (lf:=d.lf) (dd:=d.dd) h.sl h.ok (by have:=h.len;omega)
end
section
attribute [local simp] aN aG ar aD aC bT kp aP ax aJ bG bF aX aO af a9 dM
def Ps(a b:Int):ay env 69 [aI a,aI b]=some (aB (decide (0<=a)&&decide (a<=b))):=by
 refine aH rfl (by kernel_rfl) (MJ _ _ _ _ λg=>?_);cases h:decide (0<=a)<;>simp[ak, *,F5]
def ZZ(d:Dk)(area at' nu:Int)(r:dY):Int:=
 if d.may then (if 0<=area/\area<=2/\0<=at'/\at'<=2048/\1<=d.st/\1<=nu/\nu<16777216 then (if ej r then (if at'+nI r<=2048 then 0 else 9) else 8) else 2) else 8
def Dk.app(d:Dk)(area at' nu:Int)(r:dY):Dk:=d.tw.wrs (area * 2048+at') (de r d.st nu)
@[simp] def aea(v:UInt8)(c:UInt32)(ok:Bool):ay env 137 [.agg [a8 v,bY c,aB ok]]=some (aB (xN v c ok)):=by
 refine aH rfl (by kernel_rfl) (vo _ _ _ λg=>?_);by_cases h:v<=15
 ·cases ok
  ·by_cases a:v=0;·by_cases b:c=0<;>simp[ak, *,gl,xN,h,a,b,mV,fN]
   simp[ak, *,gl,xN,h,a,mV,fN]
  simp[ak, *,gl,xN,h]
 simp[ak, *,gl,xN,h]
@[simp] def Rh(user:Int)(v:UInt8)(c:UInt32)(ok:Bool):ay env 99 [.agg [aI user,a8 v,bY c,aB ok]]=some (aB (s9 user v c ok)):=by
 refine aH rfl (by kernel_rfl) (zC _ _ _ λg=>?_);by_cases h:0<=user;·by_cases a:user<8<;>simp[ak, *,oc,s9,h,a]
 simp[ak, *,oc,s9,h]
def SF(user:Int)(v:UInt8)(c:UInt32)(ok:Bool):ay env 140 [.agg [aI user,a8 v,bY c,aB ok]]=some (.bE 1 (aK (lg user v c ok)) none):=by
 refine aH rfl (by kernel_rfl) (xB _ _ _ λg=>?_);have b:=Kb v c 0;have a:aK (cS ⟨v,c,0⟩)=a8 v :: (aK (be 4 c.toNat)++[a8 0]):=by simp[cS,aK]
 have d:(aK (be 4 c.toNat)).length=4:=by simp
 rw[a]at b;cases ok;·simp[ak, *,mO,lg];rfl
 simp[ak, *,mO,lg];rfl
def PK{l:List UInt8}{x:AV}(f:Sl 1 (aK l) x)(v:l.length<=7){Q:AV->aa->Prop}{H:aa} : ∀(s:List UInt8)(k:Nat)(a:Int),l.drop k=s->k<=l.length->0<=a->a<256 ^ k->(∀y,y=aI (vp a s)->Q y H) ->
 cy env Tryz.f204 0 iR [(4,aI k),(0,x),(3,aI a)] H Q:=by
 intro s;induction s with
 | nil=>intro k a d i m o b;obtain rfl:=drop_nil d i;refine oQ _ _ _ _ _ λg=>?_;simp[ak, *,lz,f.r];exact b _ rfl
 | cons p s h=>intro k a d i m o b;obtain⟨j,z,c,n⟩:=drop_cons d;have hp:=p.toNat_lt;have t:=rD (k:=k) 6 (by omega);have q:=iQa (256 * a) (by omega);have u:=iQa (256 * a+p.toNat) (by omega);have w:=iQa ((k:Int)+1) (by omega);have e:=h (k+1) (256 * a+p.toNat) c (by omega) (by omega) (by rw[AB];omega) b;rw[show((k+1:Nat):Int)=(k:Int)+1 from by omega]at e;clear h b;refine oQ _ _ _ _ _ λg=>?_;simp[ak, *,lz,f.r,f.idx];done
def Yz{l:List UInt8}{x:AV}(b:Sl 1 (aK l) x)(a:l.length<=7):ay env 204 [x]=some (aI (val l)):=by
 refine aH rfl (by kernel_rfl) (wL _ _ _ λg=>?_);unfold qn;exact PK b a l 0 0 rfl (by omega) (by omega) (by decide) (λy e=>by rw[e];simp[val])
def Vg{l:List UInt8}{x:AV}(n:Sl 1 (aK l) x)(m:l.length=6):ay env 199 [x]=some (if gE (iZ l) then .tup [.agg [a8 (iZ l).lv,bY (iZ l).cats,a8 (iZ l).num],aI 0] else .tup [.agg [a8 0,bY 0,a8 0],aI 8]):=by
 obtain⟨a,b,c,d,e,f,rfl⟩:=Lz m;obtain⟨i,rfl,o⟩:=nU n (by simp[aK]);refine aH rfl (by kernel_rfl) (uS _ _ _ λg=>?_);have k:iZ [a,b,c,d,e,f]=⟨a,u32 (val [b,c,d,e]),f⟩:=rfl;have p:=Yz (l:=[b,c,d,e]) (x := .bE 1 [a8 b,a8 c,a8 d,a8 e] (i.map (· - 1))) (.inr ⟨_,rfl,by cases i with | none=>simp[aK] | some c=>simp[aK]at o ⊢;omega⟩) (by simp);have h:=DF a (u32 (val [b,c,d,e])) f;rw[k];generalize val [b,c,d,e]=V at *;cases j:gE ⟨a,u32 V,f⟩;·rw[j]at h;simp[ak, *,kP,aK];done
 rw[j]at h;simp[ak, *,kP,aK];done
def gOk(b:List UInt8):Bool:=decide (b.getD 1 0<=1)&&s9 (b.getD 0 0).toNat (b.getD 2 0) (u32 (val ((b.drop 3).take 4))) (decide (b.getD 1 0=1))
def Yy{c:Option Nat}{b0 b1 b2 b3 b4 b5 b6:UInt8}(s:7<=c.getD 7):ay env 201 [.bE 1 [a8 b0,a8 b1,a8 b2,a8 b3,a8 b4,a8 b5,a8 b6] c] =
 some (if decide (b1<=1)&&s9 b0.toNat b2 (u32 (val [b3,b4,b5,b6])) (decide (b1=1)) then .tup [.agg [aI b0.toNat,a8 b2,bY (u32 (val [b3,b4,b5,b6])),aB (decide (b1=1))],aI 0] else .tup [.agg [aI 0,a8 0,bY 0,aB false],aI 8]):=by
 refine aH rfl (by kernel_rfl) (zD _ _ _ λg=>?_);have f:=b3.toNat_lt;have j:=b4.toNat_lt;have q:=b5.toNat_lt;have h:=b6.toNat_lt;have i:=iQa ((b3.toNat:Int)) (by omega);have o:=iQa (256 * (b3.toNat:Int)) (by omega);have k:=iQa (256 * (b3.toNat:Int)+b4.toNat) (by omega);have m:=iQa (256 * (256 * (b3.toNat:Int)+b4.toNat)) (by omega);have p:=iQa (256 * (256 * (b3.toNat:Int)+b4.toNat)+b5.toNat) (by omega);have n:=iQa (256 * (256 * (256 * (b3.toNat:Int)+b4.toNat)+b5.toNat)) (by omega);have l:=iQa (256 * (256 * (256 * (b3.toNat:Int)+b4.toNat)+b5.toNat)+b6.toNat) (by omega);have e:val [b3,b4,b5,b6]=256 * (256 * (256 * (b3.toNat:Int)+b4.toNat)+b5.toNat)+b6.toNat:=by simp[val,vp]
 by_cases a:b1<=1
 ·have d : ¬1<b1:=by rw[UInt8.not_lt];exact a
  have b:=Rh b0.toNat b2 (u32 (val [b3,b4,b5,b6])) (decide (b1=1));rw[e]at b ⊢;simp only[a,iQG,ig];cases hm:s9 b0.toNat b2 (u32 (256 * (256 * (256 * (b3.toNat:Int)+b4.toNat)+b5.toNat)+b6.toNat)) (decide (b1=1));·rw[hm]at b;simp[ak, *,ly];refine cG _ _ _ _ _ _ λg=>?_;simp[ak, *,cg];refine cG _ _ _ _ _ _ λg=>?_;simp[ak, *,cg];refine cG _ _ _ _ _ _ λg=>?_;simp[ak, *,cg];refine cG _ _ _ _ _ _ λg=>?_;simp[ak, *,cg];refine cG _ _ _ _ _ _ λg=>?_;simp[ak, *,cg]
  rw[hm]at b;simp[ak, *,ly];refine cG _ _ _ _ _ _ λg=>?_;simp[ak, *,cg];refine cG _ _ _ _ _ _ λg=>?_;simp[ak, *,cg];refine cG _ _ _ _ _ _ λg=>?_;simp[ak, *,cg];refine cG _ _ _ _ _ _ λg=>?_;simp[ak, *,cg];refine cG _ _ _ _ _ _ λg=>?_;simp[ak, *,cg]
 have d:1<b1:=by rw[<-UInt8.not_le];exact a
 simp[ak, *,ly,a];done
def U4{l:List (List UInt8)}(c:l.length<=4)(g : ∀b∈l,b.length=128):ay env 117 [.bE 1 (fF l) none]=some (Cz l):=by
 have h:=Va (x0 := .bE 1 (fF l) none) (l:=l.map λb=>(b,JQ b)) (by rw[GC];exact Sl.mk _ _) (GB _) (by simp;omega) (by rw[Bk];exact AE (TG g c) (by omega));rw[Bk]at h;exact h
def fE(d:Dk)(p:Int)(n:Nat):List (List UInt8):=(List.range n).map λ(i:Nat)=>d.rd (p+(i:Int))
@[simp] def tU(d:Dk)(p:Int)(n:Nat):(fE d p n).length=n:=by simp[fE]
def FY(d:Dk)(p:Int)(n:Nat):fE d p (n+1)=fE d p n++[d.rd (p+n)]:=by simp[fE,List.range_succ]
def I2{d:Dk}(a:d.may=true)(p:Int)(n:Nat) : ∀b∈fE d p n,b.length=128:=by
 intro b c;obtain⟨i,_,rfl⟩:=mo.1 c;exact PJ a _
def o4(d:Dk)(p at' nu:Int):Option (dY × Nat):=
 if 2048<=at' then none else if gV (d.rd p)&&(decide ((du (d.rd p)).nu=nu)&&decide (at'+(du (d.rd p)).of<=2048)) then
  (xM (fE d p (du (d.rd p)).of.toNat)).map λq=>(q.1,(du (d.rd p)).of.toNat) else none
def kZ:Option (dY × Nat)->AV
 | some (r,n) => .tup [r.val (gK r.op.l),aI n]
 | none => .tup [kg.val aY,aI 0]
def Ha(of:Nat):Option (dY × Hd)->AV
 | some (r,_) => .tup [r.val (gK r.op.l),aI of]
 | none => .tup [kg.val aY,aI 0]
section
variable{d:Dk}(e:d.vm)(a:d.may=true){area at':Int}(o:0<=area/\area<=2)(s:0<=at'){of:Nat}(f:1<=of/\of<=4/\at'+of<=2048){hd:Hd}(m:hd.of=of)
include e a o s f m
theorem O8{Q:AV->aa->Prop}(C : ∀F,Q (Ha of (xM (fE d (area * 2048+at') of))) F) : ∀(j k:Nat)(i:Int)(v:AV)(H:aa),k+j=of->i=k->Fr H ->
 H.get ⟨0,4,0,0⟩=some ⟨4,[d.val],false,false⟩->H.get ⟨0,8,0,0⟩=some ⟨24,[kg.val aY],false,false⟩->H.get ⟨0,12,0,0⟩=some ⟨4,[hd.val],false,false⟩ ->
 hU [70] 1 (fF (fE d (area * 2048+at') k)) H v ->
 cy env Tryz.f74 0 sG [(53,aI i),(14,v),(2,aI at'),(1,aI area),(4,.ptr ⟨0,4,0,0⟩ 0 0),(8,.ptr ⟨0,8,0,0⟩ 0 0),(12,.ptr ⟨0,12,0,0⟩ 0 0),(52,aI of)] H Q:=by
 have P:=iQa (area * 2048) (by omega);have Y:=iQa (area * 2048+at') (by omega);intro j;induction j with
 | zero=>
  rintro k i v H hk rfl hF h4 h8 h12 hO;obtain rfl:k=of:=by omega
  have z:=U4 (l:=fE d (area * 2048+at') k) (by rw[tU];exact f.2.1) (I2 a _ _);have n:(fF (fE d (area * 2048+at') k)).length=k:=by rw[BX,tU]
  unfold Cz at z;refine AQ _ _ _ _ _ _ _ _ _ _ λg=>?_;generalize fE d (area * 2048+at') k=B at *;clear e a;rcases hO with ⟨rfl,M⟩ | ⟨t,G,p,rfl,E⟩
  ·rw[M]at n;simp at n;omega
  rw[lX]at p;subst p;unfold Hd.val at h12;unfold dY.val kg dS at h8;have U:(H.get ⟨0,8,0,0⟩).isSome=true:=by rw[h8];rfl
  generalize fF B=BV at *;cases u:xM B with
  | none=>rw[u]at z C;simp only[Ha]at C z;unfold zf at z;unfold dY.val Hd.val kg dS at *;clear u;simp[ak, *,nw,aa.ad]
  | some q=>
   obtain⟨r,h⟩:=q;rw[u]at z C;simp only[Ha]at C z;clear u;have I:=(jG r.op.l).r;unfold dY.val Hd.val at *;generalize A:gK r.op.l=ro at *;have y:ro=aY \/∃c,ro = .bE 1 (rows r.op.l) c:=by
    rw[<-A];rcases jG r.op.l with ⟨h,_⟩ | ⟨c,h,_⟩
    ·exact .inl h
    exact .inr ⟨c,h⟩
   clear A;rcases y with rfl | ⟨c,rfl⟩
   ·simp[ak, *,nw,aa.ad]
   simp[ak, *,nw,aa.ad]
 | succ j J=>
  rintro k i v H hk rfl hF h4 h8 h12 hO;have O:0<=area * 2048+at'+k/\area * 2048+at'+k<6146:=by omega
  have X:=iQa (area * 2048+at'+k) (by omega);have S:=iQa ((k:Int)+1) (by omega);have T:=abX e a O;have n:(fF (fE d (area * 2048+at') k)).length=k:=by rw[BX,tU]
  have N:k<of:=(by omega);have w:=λD F=>J (k+1) ((k:Int)+1) D F (by omega) (by simp);rw[FY,<-Dd]at w;clear J C;have L:=e.sl.r;generalize d.rd (area * 2048+at'+k)=b at *;have K:=(Sl.mk 1 (aK b)).r;refine AQ _ _ _ _ _ _ _ _ _ _ λg=>?_;generalize fF (fE d (area * 2048+at') k)=BV at *;clear e a;obtain⟨l,x,st,lf,dd⟩:=d;simp only[Dk.val,dR]at *;have V:(H.get ⟨0,4,0,0⟩).isSome=true:=by rw[h4];rfl
  rcases hO with ⟨rfl,rfl⟩ | ⟨t,G,p,rfl,E⟩
  ·clear n;simp[ak, *,nw];exact w _ _ (by simp(maxDischargeDepth:=12) [eR, *]) (by simp(maxDischargeDepth:=12) [eR, *]) (by simp(maxDischargeDepth:=12) [eR, *]) (by simp(maxDischargeDepth:=12) [eR, *]) (.inr ⟨70,H.gen 0 70,by simp,by simp,by simp⟩)
  rw[lX]at p;subst p;have W:(H.get ⟨0,70,G,0⟩).isSome=true:=by rw[E];rfl
  have R:kJ 1 24 BV.length true none (some ⟨1,BV,true,false⟩) (some [.bE 1 (aK b) none]):=(by simp;omega);clear n;simp[ak, *,nw];exact w _ _ (by simp(maxDischargeDepth:=12) [eR, *]) (by simp(maxDischargeDepth:=12) [eR, *]) (by simp(maxDischargeDepth:=12) [eR, *]) (by simp(maxDischargeDepth:=12) [eR, *]) (.inr ⟨70,H.gen 0 70,by simp,by simp,by simp⟩)
end
def RD{b:List UInt8}(h:gV b=true):1<=(du b).of/\(du b).of<=4:=by
 unfold gV l9 at h;simp at h;omega
section
variable{d:Dk}(e:d.vm)(a:d.may=true){area:Int}(o:0<=area/\area<=2)
include e a o
theorem Yh{at':Int}(s:0<=at')(nu:Int):ay env 74 [d.val,aI area,aI at',aI nu]=some (kZ (o4 d (area * 2048+at') at' nu)):=by
 refine aH rfl (by kernel_rfl) (Lk _ _ _ _ _ _ λg=>?_);have j:=e.sl.r;unfold o4;by_cases B:2048<=at';·rw[if_pos B];clear a e;obtain⟨l,y,st,lf,dd⟩:=d;simp only[Dk.val,dR]at j ⊢;unfold kZ dY.val kg dS;simp[ak, *,pL,aa.ad]
 rw[if_neg B];have G:0<=area * 2048+at'/\area * 2048+at'<6146:=by omega
 have J:=iQa (area * 2048) (by omega);have N:=iQa (area * 2048+at') (by omega);have w:=abX e a G;generalize A:d.rd (area * 2048+at')=b at *;have k:=EV (x := .bE 1 (aK b) none) (b:=b) (Sl.mk _ _);have C:=(Sl.mk 1 (aK b)).r;cases u:gV b with
 | false=>rw[u,if_neg (by decide)]at k;simp only[oY,gB,iQe];clear a e;obtain⟨l,y,st,lf,dd⟩:=d;simp only[Dk.val,dR,Hd.val]at j k w ⊢;unfold kZ dY.val kg dS;simp[ak, *,pL,aa.ad]
 | true=>
  rw[u,if_pos rfl]at k;have f:=RD u;have M:=iQa (at'+(du b).of) (by omega);simp only[ig];by_cases t:(du b).nu=nu/\at'+(du b).of<=2048
  ·have p:(decide ((du b).nu=nu)&&decide (at'+(du b).of<=2048))=true:=(by simp[t]);rw[if_pos p];obtain⟨of,i⟩:=JZ (show 0<=(du b).of by omega);rw[i];have c:=λH=>O8 e a o s (of:=of) ⟨by omega,by omega,by omega⟩ (hd:=du b) i (Q:=λv H=>ed env 74 v H (kZ ((xM (fE d (area * 2048+at') (Int.toNat (of:Int)))).map λq=>(q.1,Int.toNat (of:Int))))) (λK=>by
    rw[show Int.toNat (of:Int)=of from rfl];cases xM (fE d (area * 2048+at') of) with
    | none=>unfold Ha kZ dY.val kg dS;simp
    | some q=>
     obtain⟨r,h⟩:=q;have z:=(jG r.op.l).r;simp only[Ha,kZ,Option.map_some];unfold dY.val;simp[z]) of 0 0 aY H (by omega) rfl
   have n:=t.1;have r2 : ¬(2048:Int)<at'+(of:Int):=by omega
   clear a e A p;generalize kZ _=W at *;obtain⟨l,y,st,lf,dd⟩:=d;simp only[Dk.val,dR]at j w c ⊢;unfold dY.val kg dS at c;generalize du b=hd at *;obtain⟨I,E,D,F⟩:=hd;simp only at i n t;subst i n;simp only[Hd.val]at k c;simp[ak, *,pL,aa.ad];exact c _ (by simp(maxDischargeDepth:=12) [eR, *]) (by simp(maxDischargeDepth:=12) [eR, *]) (by simp(maxDischargeDepth:=12) [eR, *]) (by simp(maxDischargeDepth:=12) [eR, *]) (.inl ⟨rfl,rfl⟩)
  have p:(decide ((du b).nu=nu)&&decide (at'+(du b).of<=2048))=false:=(by simp only[GL,iQc];omega);rw[p];simp only[gB,iQe];clear a e A;obtain⟨l,y,st,lf,dd⟩:=d;simp only[Dk.val,dR,Hd.val]at j k w ⊢;unfold kZ dY.val kg dS;by_cases L:(du b).nu=nu;·have O:(2048:Int)<at'+(du b).of:=(by omega);simp[ak, *,pL,aa.ad]
  simp[ak, *,pL,aa.ad]
end
def CZ(l:List Int):Prop :=∀a∈l, -2147483648<=a/\a<=2147483647
def oX(p:dY × AV):Prop:=Sl 1 (rows p.1.op.l) p.2/\p.1.op.l.length<1100000
def YC(k1 M:UInt8)(O N:Int)(t:UInt8)(z:UInt8)(a_3:UInt32)(s:UInt8)(C:Int)(J:UInt8)(u:UInt32)(F:UInt8)(I:Int)(p:Int)(b:UInt8)(j:UInt32)(i:UInt8)(o:Int)(e:UInt8)(h:UInt32)(w:UInt8)(K:UInt8)(A:UInt32)(H:UInt8)(D:Int)(E:UInt8)(v:UInt32)(B:UInt8)(G:Int)(k:Int)(c:UInt8)(n:UInt32)(q:UInt8)(d:Int)(f:UInt8)(a:UInt32)(P L g1 T:Int)(U R:UInt8)(Q V:UInt32)(X S:Bool){x y:AV}{l m:List Int}(Y:Sl 1 (rows l) x)(W:Sl 1 (rows m) y)(hl:l.length<1000000000)(hm:m.length<1000000000) :
 ay env 52 [.agg [a8 k1,aI O,a8 t,a8 z,bY a_3,a8 s,aI C,a8 J,bY u,a8 F,aI I,aI p,a8 b,bY j,a8 i,aI o,a8 e,bY h,x,aI P,aI g1,a8 U,bY Q,aB X],.agg [a8 M,aI N,a8 w,a8 K,bY A,a8 H,aI D,a8 E,bY v,a8 B,aI G,aI k,a8 c,bY n,a8 q,aI d,a8 f,bY a,y,aI L,aI T,a8 R,bY V,aB S]] =
  some (aB (my ⟨k1,O,(⟨t,⟨z,a_3,s⟩,C,⟨⟨⟨J,u,F⟩,I⟩,p⟩,⟨⟨b,j,i⟩,o⟩,⟨e,h⟩,l⟩:gI),P,g1,U,Q,X⟩ ⟨M,N,(⟨w,⟨K,A,H⟩,D,⟨⟨⟨E,v,B⟩,G⟩,k⟩,⟨⟨c,n,q⟩,d⟩,⟨f,a⟩,m⟩:gI),L,T,R,V,S⟩)):=by
 refine aH rfl (by kernel_rfl) (yx _ _ _ _ λg=>?_);have hq:=EX t z a_3 s C J u F I p b j i o e h w K A H D E v B G k c n q d f a Y W hl hm;have hr:=Y.r;have Z:=W.r;unfold my;cases e1:decide (k1=M) with
 | false=>simp[ak, *,gw,mV,fN]
 | true=>
 cases e2:decide (O=N) with| false=>simp[ak, *,gw,mV,fN]| true=>
 cases e3:o9 (⟨t,⟨z,a_3,s⟩,C,⟨⟨⟨J,u,F⟩,I⟩,p⟩,⟨⟨b,j,i⟩,o⟩,⟨e,h⟩,l⟩:gI) (⟨w,⟨K,A,H⟩,D,⟨⟨⟨E,v,B⟩,G⟩,k⟩,⟨⟨c,n,q⟩,d⟩,⟨f,a⟩,m⟩:gI) with| false=>simp[ak, *,gw,mV,fN]| true=>
 cases e4:decide (P=L) with| false=>simp[ak, *,gw,mV,fN]| true=>simp[ak, *,gw,mV,fN]
def age{p q:dY × AV}(hp:oX p)(T:oX q):ay env 52 [p.1.val p.2,q.1.val q.2]=some (aB (my p.1 q.1)):=by
 obtain⟨⟨k,u,⟨D,⟨Q,a_3,C⟩,F,⟨⟨⟨P,M,I⟩,L⟩,z⟩,⟨⟨b,e,A⟩,t⟩,⟨i,s⟩,l⟩,c,g,v,w,o⟩,x⟩:=p;obtain⟨⟨k',V,⟨O,⟨R,S,K⟩,G,⟨⟨⟨H,N,E⟩,J⟩,f⟩,⟨⟨d,n,B⟩,h⟩,⟨j,a⟩,m⟩,X,W,U,w',o'⟩,y⟩:=q;exact YC k k' u V D Q a_3 C F P M I L z b e A t i s O R S K G H N E J f d n B h j a c X g W v U w w' o o' hp.1 T.1 (by have:=hp.2;simp at this;omega) (by have:=T.2;simp at this;omega)
def SM(j:UInt8)(t:UInt8)(a_3:UInt32)(s:UInt8)(k:Int)(q:UInt8)(p:UInt32)(n:UInt8)(o:Int)(f:Int)(a:UInt8)(b:UInt32)(i:UInt8)(e:Int)(c:UInt8)(d:UInt32){x:AV}{l:List Int}(u:Sl 1 (rows l) x)(v:l.length<1000000000):ay env 95 [.agg [a8 j,a8 t,bY a_3,a8 s,aI k,a8 q,bY p,a8 n,aI o,aI f,a8 a,bY b,a8 i,aI e,a8 c,bY d,x]]=some (aB (o9 { (⟨j,⟨t,a_3,s⟩,k,⟨⟨⟨q,p,n⟩,o⟩,f⟩,⟨⟨a,b,i⟩,e⟩,⟨c,d⟩,l⟩:gI)with h:=⟨0,0,0⟩} dS)):=by
 have h:=EX j 0 0 0 k q p n o f a b i e c d 0 0 0 0 0 0 0 0 0 0 0 0 0 0 0 0 u (y:=aY) (m:=[]) (.inl ⟨rfl,rfl⟩) v (by simp);refine aH rfl (by kernel_rfl) (yv _ _ _ λg=>?_);simp[ak, *,rT,u.r];rfl
def Vm(k:UInt8)(u:Int)(t:UInt8)(s:UInt8)(a_3:UInt32)(p:UInt8)(A:Int)(D:UInt8)(z:UInt32)(B:UInt8)(C:Int)(j:Int)(a:UInt8)(f:UInt32)(e:UInt8)(i:Int)(b:UInt8)(d:UInt32)(c g1:Int)(v:UInt8)(w:UInt32)(o:Bool){x:AV}{l:List Int}(E:Sl 1 (rows l) x)(U:l.length<100000)(V:CZ l) :
 ay env 64 [.agg [a8 k,aI u,a8 t,a8 s,bY a_3,a8 p,aI A,a8 D,bY z,a8 B,aI C,aI j,a8 a,bY f,a8 e,aI i,a8 b,bY d,x,aI c,aI g1,a8 v,bY w,aB o]]=some (aB (ej ⟨k,u,(⟨t,⟨s,a_3,p⟩,A,⟨⟨⟨D,z,B⟩,C⟩,j⟩,⟨⟨a,f,e⟩,i⟩,⟨b,d⟩,l⟩:gI),c,g1,v,w,o⟩)):=by
 have H:=SM t s a_3 p A D z B C j a f e i b d E (by omega);have I:=Gq t s a_3 p A D z B C j a f e i b d E (by omega) V;have K:=SE t s a_3 p A D z B C j a f e i b d E U;have N:=Rh g1 v w o;have J:=DF s a_3 p;refine aH rfl (by kernel_rfl) (zy _ _ _ λg=>?_);have L:o9 { (⟨t,⟨s,a_3,p⟩,A,⟨⟨⟨D,z,B⟩,C⟩,j⟩,⟨⟨a,f,e⟩,i⟩,⟨b,d⟩,l⟩:gI)with h:=⟨0,0,0⟩} dS=o9 (⟨t,⟨s,a_3,p⟩,A,⟨⟨⟨D,z,B⟩,C⟩,j⟩,⟨⟨a,f,e⟩,i⟩,⟨b,d⟩,l⟩:gI) { dS with h:=⟨s,a_3,p⟩}:=by
  simp[o9,dS]
 by_cases k1:k=1
 ·subst k1;have G:ej ⟨1,u,(⟨t,⟨s,a_3,p⟩,A,⟨⟨⟨D,z,B⟩,C⟩,j⟩,⟨⟨a,f,e⟩,i⟩,⟨b,d⟩,l⟩:gI),c,g1,v,w,o⟩=((decide (0<=u)&&decide (u<=255))&&(gE ⟨s,a_3,p⟩&&(o9 { (⟨t,⟨s,a_3,p⟩,A,⟨⟨⟨D,z,B⟩,C⟩,j⟩,⟨⟨a,f,e⟩,i⟩,⟨b,d⟩,l⟩:gI)with h:=⟨0,0,0⟩} dS&&(decide (c=0)&&(decide (g1=0)&&(decide (v=0)&&decide (w=0)&&decide (o=false))))))):=by
   rw[L];simp[ej,Hb,my]
  rw[G];clear L G I K N;generalize o9 { (⟨t,⟨s,a_3,p⟩,A,⟨⟨⟨D,z,B⟩,C⟩,j⟩,⟨⟨a,f,e⟩,i⟩,⟨b,d⟩,l⟩:gI)with h:=⟨0,0,0⟩} dS=n at *;generalize gE ⟨s,a_3,p⟩=hh at *;cases n with
  | false=>simp[ak, *,bm,E.r,H]
  | true=>
  cases hh with| false=>simp[ak, *,bm,E.r,H,J]| true=>
  by_cases F:0<=u
  ·by_cases S:u<=255
   ·by_cases c0:c=0;·simp[ak, *,bm,E.r,H,J,F,S,c0,mV,fN]
    simp[ak, *,bm,E.r,H,J,F,S,c0]
   simp[ak, *,bm,E.r,H,J,F,S]
  simp[ak, *,bm,E.r,H,J,F]
 by_cases F:u=0
 ·by_cases M:k=2
  ·subst M;have G:ej ⟨2,u,(⟨t,⟨s,a_3,p⟩,A,⟨⟨⟨D,z,B⟩,C⟩,j⟩,⟨⟨a,f,e⟩,i⟩,⟨b,d⟩,l⟩:gI),c,g1,v,w,o⟩=(r8 (⟨t,⟨s,a_3,p⟩,A,⟨⟨⟨D,z,B⟩,C⟩,j⟩,⟨⟨a,f,e⟩,i⟩,⟨b,d⟩,l⟩:gI)&&(!decide (-1∈l)&&((decide (0<=c)&&decide (c<65536))&&(decide (g1=0)&&(decide (v=0)&&decide (w=0)&&decide (o=false)))))):=by
    have W : ∀q:gI,o9 q q=true:=λq=>by simp[o9]
    simp only[ej,Hb,my,W,F,show ¬((2:UInt8)=1) from by decide,iQe,if_true,iQG,ig];cases r8 (⟨t,⟨s,a_3,p⟩,A,⟨⟨⟨D,z,B⟩,C⟩,j⟩,⟨⟨a,f,e⟩,i⟩,⟨b,d⟩,l⟩:gI)<;>cases decide (-1∈l)<;>cases decide (0<=c)<;>cases decide (c<65536)<;>simp
   rw[G];clear L G H J N;generalize r8 (⟨t,⟨s,a_3,p⟩,A,⟨⟨⟨D,z,B⟩,C⟩,j⟩,⟨⟨a,f,e⟩,i⟩,⟨b,d⟩,l⟩:gI)=n at *;generalize R:decide (-1∈l)=pl at *;clear R;cases n with
   | false=>simp[ak, *,bm,E.r,I,F]
   | true=>
   cases pl with| true=>simp[ak, *,bm,E.r,I,K,F]| false=>
   by_cases c0:0<=c
   ·by_cases T:c<65536;·simp[ak, *,bm,E.r,I,K,F,c0,T,mV,fN]
    simp[ak, *,bm,E.r,I,K,F,c0,T]
   simp[ak, *,bm,E.r,I,K,F,c0]
  by_cases O:k=3
  ·subst O;have Q:=EX t s a_3 p A D z B C j a f e i b d 0 0 0 0 0 0 0 0 0 0 0 0 0 0 0 0 E (y:=aY) (m:=[]) (.inl ⟨rfl,rfl⟩) (by omega) (by simp);have G:ej ⟨3,u,(⟨t,⟨s,a_3,p⟩,A,⟨⟨⟨D,z,B⟩,C⟩,j⟩,⟨⟨a,f,e⟩,i⟩,⟨b,d⟩,l⟩:gI),c,g1,v,w,o⟩=(o9 (⟨t,⟨s,a_3,p⟩,A,⟨⟨⟨D,z,B⟩,C⟩,j⟩,⟨⟨a,f,e⟩,i⟩,⟨b,d⟩,l⟩:gI) dS&&(decide (c=0)&&s9 g1 v w o)):=by
    simp only[ej,Hb,my,F,show ¬((3:UInt8)=1) from by decide,show ¬((3:UInt8)=2) from by decide,iQe,if_true,iQG,ig];cases s9 g1 v w o<;>cases o9 (⟨t,⟨s,a_3,p⟩,A,⟨⟨⟨D,z,B⟩,C⟩,j⟩,⟨⟨a,f,e⟩,i⟩,⟨b,d⟩,l⟩:gI) dS<;>simp
   rw[G];have P:o9 (⟨t,⟨s,a_3,p⟩,A,⟨⟨⟨D,z,B⟩,C⟩,j⟩,⟨⟨a,f,e⟩,i⟩,⟨b,d⟩,l⟩:gI) ⟨0,⟨0,0,0⟩,0,⟨⟨⟨0,0,0⟩,0⟩,0⟩,⟨⟨0,0,0⟩,0⟩,⟨0,0⟩,[]⟩=o9 (⟨t,⟨s,a_3,p⟩,A,⟨⟨⟨D,z,B⟩,C⟩,j⟩,⟨⟨a,f,e⟩,i⟩,⟨b,d⟩,l⟩:gI) dS:=rfl;rw[P]at Q;clear L G H J I K P;generalize o9 (⟨t,⟨s,a_3,p⟩,A,⟨⟨⟨D,z,B⟩,C⟩,j⟩,⟨⟨a,f,e⟩,i⟩,⟨b,d⟩,l⟩:gI) dS=n at *;generalize s9 g1 v w o=m at *;cases n with
   | false=>simp[ak, *,bm,E.r,Q,F]
   | true=>
    by_cases c0:c=0;·simp[ak, *,bm,E.r,Q,N,F,c0]
    simp[ak, *,bm,E.r,Q,F,c0]
  have G:ej ⟨k,u,(⟨t,⟨s,a_3,p⟩,A,⟨⟨⟨D,z,B⟩,C⟩,j⟩,⟨⟨a,f,e⟩,i⟩,⟨b,d⟩,l⟩:gI),c,g1,v,w,o⟩=false:=(by simp[ej,k1,M,O]);rw[G];clear L G H J I K N;simp[ak, *,bm,E.r,F,k1,M,O]
 have G:ej ⟨k,u,(⟨t,⟨s,a_3,p⟩,A,⟨⟨⟨D,z,B⟩,C⟩,j⟩,⟨⟨a,f,e⟩,i⟩,⟨b,d⟩,l⟩:gI),c,g1,v,w,o⟩=false:=by
  simp only[ej,Hb,my,k1,iQe];by_cases M:k=2;·simp[M,F]
  by_cases O:k=3<;>simp[M,O,F]
 rw[G];clear L G H J I K N;simp[ak, *,bm,E.r,F,k1]
def ab1{p:dY × AV}(hp:oX p)(A:p.1.op.l.length<100000)(B:CZ p.1.op.l):ay env 64 [p.1.val p.2]=some (aB (ej p.1)):=by
 obtain⟨⟨k,u,⟨m,⟨z,a_3,j⟩,n,⟨⟨⟨y,t,q⟩,s⟩,h⟩,⟨⟨a,b,i⟩,f⟩,⟨d,e⟩,l⟩,c,g,v,w,o⟩,x⟩:=p;exact Vm k u m z a_3 j n y t q s h a b i f d e c g v w o hp.1 A B
end
section
attribute [local simp] aN aG ar aD aC bT kp aP ax aJ bG bF aX aO af a9 dM
attribute [local simp] BT bsO dG
def M6(k:UInt8)(u:Int)(y:UInt8)(s:UInt8)(a_3:UInt32)(q:UInt8)(A:Int)(D:UInt8)(z:UInt32)(B:UInt8)(C:Int)(m:Int)(b:UInt8)(j:UInt32)(i:UInt8)(n:Int)(d:UInt8)(f:UInt32)(c g1:Int)(v:UInt8)(w:UInt32)(o:Bool){x:AV}{l:List Int}(L:Sl 1 (rows l) x)(a:l.length<100000)(E:ej ⟨k,u,(⟨y,⟨s,a_3,q⟩,A,⟨⟨⟨D,z,B⟩,C⟩,m⟩,⟨⟨b,j,i⟩,n⟩,⟨d,f⟩,l⟩:gI),c,g1,v,w,o⟩=true) :
 ay env 100 [.agg [a8 k,aI u,a8 y,a8 s,bY a_3,a8 q,aI A,a8 D,bY z,a8 B,aI C,aI m,a8 b,bY j,a8 i,aI n,a8 d,bY f,x,aI c,aI g1,a8 v,bY w,aB o]]=some (.bE 1 (aK (m9 ⟨k,u,(⟨y,⟨s,a_3,q⟩,A,⟨⟨⟨D,z,B⟩,C⟩,m⟩,⟨⟨b,j,i⟩,n⟩,⟨d,f⟩,l⟩:gI),c,g1,v,w,o⟩)) none):=by
 have U:=L.r;by_cases k1:k=1
 ·subst k1;have V:=Kb s a_3 q;have e:m9 ⟨1,u,(⟨y,⟨s,a_3,q⟩,A,⟨⟨⟨D,z,B⟩,C⟩,m⟩,⟨⟨b,j,i⟩,n⟩,⟨d,f⟩,l⟩:gI),c,g1,v,w,o⟩=1 :: (cS ⟨s,a_3,q⟩++[u8 u]):=rfl;have J:(cS ⟨s,a_3,q⟩).length=6:=by simp[cS]
  have G:cS ⟨s,a_3,q⟩≠[]:=by intro h;rw[h]at J;simp at J
  rw[e];clear E e a;generalize cS ⟨s,a_3,q⟩=hb at *;refine aH rfl (by kernel_rfl) (mE _ _ _ λg=>?_);simp[ak, *,ke,aK];done
 by_cases I:k=2
 ·subst I;have F:r8 (⟨y,⟨s,a_3,q⟩,A,⟨⟨⟨D,z,B⟩,C⟩,m⟩,⟨⟨b,j,i⟩,n⟩,⟨d,f⟩,l⟩:gI)=true/\0<=c/\c<65536:=by
   simp only[ej,if_neg k1,if_true,bI,iQb]at E;exact⟨E.2.1,E.1.1.2,E.1.2⟩
  obtain⟨F,c0,W⟩:=F;have O:=BF y s a_3 q A D z B C m b j i n d f L a F;have e:m9 ⟨2,u,(⟨y,⟨s,a_3,q⟩,A,⟨⟨⟨D,z,B⟩,C⟩,m⟩,⟨⟨b,j,i⟩,n⟩,⟨d,f⟩,l⟩:gI),c,g1,v,w,o⟩=2 :: ([u8 (c / 256),u8 c]++fW (⟨y,⟨s,a_3,q⟩,A,⟨⟨⟨D,z,B⟩,C⟩,m⟩,⟨⟨b,j,i⟩,n⟩,⟨d,f⟩,l⟩:gI)):=rfl;have H:(fW (⟨y,⟨s,a_3,q⟩,A,⟨⟨⟨D,z,B⟩,C⟩,m⟩,⟨⟨b,j,i⟩,n⟩,⟨d,f⟩,l⟩:gI)).length<=293/\24<=(fW (⟨y,⟨s,a_3,q⟩,A,⟨⟨⟨D,z,B⟩,C⟩,m⟩,⟨⟨b,j,i⟩,n⟩,⟨d,f⟩,l⟩:gI)).length:=by rw[xh F];exact⟨(vY F).2,(vY F).1⟩
  rw[e];clear E e a F;generalize fW (⟨y,⟨s,a_3,q⟩,A,⟨⟨⟨D,z,B⟩,C⟩,m⟩,⟨⟨b,j,i⟩,n⟩,⟨d,f⟩,l⟩:gI)=ob at *;have G:ob≠[]:=by rintro rfl;simp at H
  have S:=UL c0;have Q:=UG c0;have M:=λt xo yo=>mz env.P t xo yo .i64 c 256 (by decide);have T:=λt xo yo=>jg env.P t xo yo .i64 c 256 (by decide);have N:=iQa (c / 256) (by omega);rw[S,N]at M;rw[Q]at T;have X:3+ob.length<=140737488355328/\2<3+ob.length/\0<ob.length/\1+2=3:=by omega
  refine aH rfl (by kernel_rfl) (mE _ _ _ λg=>?_);simp[ak, *,ke,aK,me];exact⟨by omega,dM (by simp;omega)⟩
 by_cases K:k=3
 ·subst K;have O:=SF g1 v w o;have e:m9 ⟨3,u,(⟨y,⟨s,a_3,q⟩,A,⟨⟨⟨D,z,B⟩,C⟩,m⟩,⟨⟨b,j,i⟩,n⟩,⟨d,f⟩,l⟩:gI),c,g1,v,w,o⟩=3 :: lg g1 v w o:=rfl;rw[e];clear E e a;have R:(lg g1 v w o).length=7:=by simp[lg]
  generalize lg g1 v w o=gb at *;have G:gb≠[]:=by rintro rfl;simp at R
  refine aH rfl (by kernel_rfl) (mE _ _ _ λg=>?_);simp[ak, *,ke,aK];done
 simp[ej,k1,I,K]at E
def HS{p:dY × AV}(hp:oX p)(a:p.1.op.l.length<100000)(B:ej p.1=true):ay env 100 [p.1.val p.2]=some (.bE 1 (aK (m9 p.1)) none):=by
 obtain⟨⟨k,u,⟨n,⟨A,a_3,m⟩,q,⟨⟨⟨z,y,s⟩,t⟩,i⟩,⟨⟨b,d,j⟩,h⟩,⟨e,f⟩,l⟩,c,g,v,w,o⟩,x⟩:=p;exact M6 k u n A a_3 m q z y s t i b d j h e f c g v w o hp.1 a B
section
variable{p:dY × AV}(hp:oX p)(a:p.1.op.l.length<100000)
include hp a
theorem Kf(b:ej p.1=true):ay env 65 [p.1.val p.2]=some (aI (nI p.1)):=by
 have m:=HS hp a b;have u:=hp.1.r;have q:=zM b;have k:nI p.1=((m9 p.1).length+118) / 119:=rfl;refine aH rfl (by kernel_rfl) (yy _ _ _ λg=>?_);unfold dY.val at m ⊢;generalize m9 p.1=bs at *;generalize nI p.1=N at *;have i:=λt xo yo=>mz env.P t xo yo .i64 (bs.length:Int) 119 (by decide);have j:=λt xo yo=>jg env.P t xo yo .i64 (bs.length:Int) 119 (by decide);have d:((bs.length:Int)).tdiv 119=((bs.length / 119:Nat):Int):=by rw[G6 (by omega)];omega
 have e:((bs.length:Int)).tmod 119=((bs.length % 119:Nat):Int):=by rw[Aj (by omega)];omega
 rw[d]at i;rw[e]at j;obtain⟨D,f⟩ : ∃D:Nat,D=bs.length / 119:=⟨_,rfl⟩;obtain⟨M,c⟩ : ∃M:Nat,M=bs.length % 119:=⟨_,rfl⟩;have n:=iQa (D:Int) (by omega);have v:=iQa ((D:Int)+1) (by omega);rw[<-f,n]at i;rw[<-c]at j;by_cases s:0<M
 ·have h:(N:Int)=(D:Int)+1:=by omega
  have o:(0:Int)<(M:Int):=(by omega);clear b hp k d e f c;simp only[h];simp[ak, *,nB];done
 have h:(N:Int)=(D:Int):=by omega
 have o : ¬(0:Int)<(M:Int):=(by omega);clear b hp k d e f c;simp only[h];simp[ak, *,nB];done
end
def LD(st nu b of:Int):ay env 164 [.agg [aI st,aI nu,aI b,aI of]]=some (aB (l9 st nu b of)):=by
 refine aH rfl (by kernel_rfl) (vT _ _ _ λg=>?_);simp[ak, *,py];repeat' ((first | apply qO<;>intro h | apply mK<;>intro h | apply mL<;>intro h | apply mI<;>intro h | apply mJ<;>intro h)<;>(try simp only[iQb,iQc,ij,pO,bI,jf]at h)<;>(try simp[ak, *,l9]))
 all_goals (try (simp[l9];omega))
def GF{n:Int}(b:0<=n)(c:n<4294967296):IntKind.i64.wrap (n.tdiv 16777216)=n / 16777216/\IntKind.i64.wrap (n.tdiv 65536)=n / 65536/\IntKind.i64.wrap (n.tdiv 256)=n / 256/\(n / 65536).tmod 256=n / 65536 % 256/\(n / 256).tmod 256=n / 256 % 256/\n.tmod 256=n % 256:=by
 refine⟨?_,?_,?_,Aj (by omega),Aj (by omega),Aj b⟩;all_goals rw[G6 b]
 all_goals exact iQa _ (by omega)
def KI{H:aa}{r q:Ref}{B:List UInt8}(e:H.get q=some ⟨1,aK B,true,false⟩)(n:Nat)(h:n<=1000)(i:B.length<=1000){K:AV->aa->Prop}
 (g : ∀c f,f.get c=some ⟨1,aK (B++List.replicate n 0),true,false⟩->K (.ct c 0 (B.length+n) none) f):kA (ee env.P true H r (some 76) (some 3) (.ct q 0 B.length none) (aI n)) K:=by
 have b:=F1 (P:=env.P) (t:=76) (t':=3) (by kernel_rfl) (by kernel_rfl) (by kernel_rfl) (H:=H) (r:=r) (q:=q) (es:=aK B) (fz:=false) e n (by simp[aX];omega) (by rw[show td env.P 76=1 from by kernel_rfl];simp[aX];omega);rw[gM,show lj env.P 76=1 from by kernel_rfl,show gX env.P 76=a8 0 from by kernel_rfl]at b;by_cases d:n=0;·subst d;rw[if_pos rfl]at b;refine rm b (g q H ?_);simpa using e
 rw[if_neg d]at b;refine rm b (g _ _ ?_);rw[aa.gS,if_pos rfl];simp[aK]
def Vl{st nu i of:Int}(a0:0<=st)(a1:st<4294967296)(b0:0<=nu)(b1:nu<4294967296){x:AV}{bs:List UInt8}(S:Sl 1 (aK bs) x)(a:bs.length<=119)(k:bs≠[]) :
 ay env 169 [.agg [aI st,aI nu,aI i,aI of],x]=some (.bE 1 (aK (nJ st nu of i bs)) none):=by
 obtain⟨V,rfl,O⟩:=nU S (by simpa [aK] using yd.2 k);have C:=λt xo yo=>mz env.P t xo yo .i64 st 16777216 (by decide);have N:=λt xo yo=>mz env.P t xo yo .i64 st 65536 (by decide);have L:=λt xo yo=>mz env.P t xo yo .i64 st 256 (by decide);have J:=λt xo yo=>jg env.P t xo yo .i64 (st / 65536) 256 (by decide);have Q:=λt xo yo=>jg env.P t xo yo .i64 (st / 256) 256 (by decide);have G:=λt xo yo=>jg env.P t xo yo .i64 st 256 (by decide);obtain⟨n,z,w,o,s,v⟩:=GF a0 a1;rw[n]at C;rw[z]at N;rw[w]at L;rw[o]at J;rw[s]at Q;rw[v]at G;have I:=λt xo yo=>mz env.P t xo yo .i64 nu 65536 (by decide);have R:=λt xo yo=>mz env.P t xo yo .i64 nu 256 (by decide);have M:=λt xo yo=>jg env.P t xo yo .i64 (nu / 256) 256 (by decide);have D:=λt xo yo=>jg env.P t xo yo .i64 nu 256 (by decide);obtain⟨d1,d2,d3,d4,d5,d6⟩:=GF b0 b1;rw[d2]at I;rw[d3]at R;rw[d5]at M;rw[d6]at D;clear n z w o s v d1 d2 d3 d4 d5 d6;have E:aK bs≠[]:=by simpa [aK] using k
 have U:9+bs.length<=140737488355328:=by omega
 have T:IntKind.i64.wrap (128 - (9+(bs.length:Int)))=((119 - bs.length:Nat):Int):=by rw[iQa _ (by omega)];omega
 have A:(aK bs).length=bs.length:=by simp
 refine aH rfl (by kernel_rfl) (zx _ _ _ _ λg=>?_);have d : ∀(f:Ref)(e:aa)(B:List UInt8),e.get f=some ⟨1,aK B,true,false⟩->ed env 169 (.ct f 0 B.length none) e (.bE 1 (aK B) none):=λf e B h=>by simp[h]
 obtain⟨c,b⟩ : ∃c,c=[u8 (st / 16777216),u8 (st / 65536),u8 (st / 256),u8 st,u8 (nu / 65536),u8 (nu / 256),u8 nu,u8 i,u8 of]:=⟨_,rfl⟩;have u:nJ st nu of i bs=c++bs++List.replicate (119 - bs.length) 0:=by rw[b];simp[nJ,vc,TO]
 have m:aK (c++bs)=a8 (u8 (st / 16777216)) :: a8 (u8 (st / 65536)) :: a8 (u8 (st / 256)) :: a8 (u8 st) :: a8 (u8 (nu / 65536)) :: a8 (u8 (nu / 256)) :: a8 (u8 nu) :: a8 (u8 i) :: a8 (u8 of) :: aK bs:=by rw[b];rfl
 have j:(c++bs).length=9+bs.length:=by rw[b];simp;omega
 have F:=λ(H:aa)(r q:Ref) hq=>KI (H:=H) (r:=r) (q:=q) (B:=c++bs) hq (119 - bs.length) (by omega) (by omega) (K:=λy e=>ed env 169 y e (.bE 1 (aK (nJ st nu of i bs)) none)) (λf e h=>by
  have:=d f e _ h;rw[iX,Ds,<-u]at this;exact this)
 rw[m,j]at F;clear d m j u b;simp[ak, *,sU,me]
def Zc : ∀(m:Nat)(s:List UInt8)(k:Nat),k<(E5 m s).length->119 * k<s.length/\(E5 m s)[k]?=some ((s.drop (119 * k)).take 119):=by
 intro m;induction m with
 | zero=>intro s k h;simp[E5]at h
 | succ m f=>
  intro s k h;unfold E5 at h ⊢;by_cases b:s=[];·rw[if_pos b]at h;simp at h
  rw[if_neg b]at h ⊢;cases k with
  | zero=>exact⟨by have:=yd.2 b;omega,by simp⟩
  | succ k=>obtain⟨e,d⟩:=f (s.drop 119) k (by simpa using h);rw[oZ]at e;refine⟨by omega,?_⟩;rw[OZ,d,pN];congr 3;omega
def QA{r:dY}(a:ej r=true)(st nu:Int){k:Nat}(e:k<nI r):119 * k<(m9 r).length/\(de r st nu)[k]?=some (nJ st nu (nI r) k (((m9 r).drop (119 * k)).take 119)):=by
 have f:(E5 3 (m9 r)).length=nI r:=by rw[Il 3 (m9 r) (by have:=(zM a).1;omega)];rfl
 obtain⟨d,b⟩:=Zc 3 (m9 r) k (by omega);refine⟨d,?_⟩;unfold de;rw[E0,b];simp
section
variable{p:dY × AV}(hp:oX p)(c:p.1.op.l.length<100000)(a:ej p.1=true){st nu:Int}(a0:0<=st)(a1:st<4294967296)(b0:0<=nu)(b1:nu<4294967296)
include hp c a a0 a1 b0 b1
theorem Xb{Q:AV->aa->Prop}(K : ∀h C,hU [39] 1 (fF (de p.1 st nu)) C h->Q h C) : ∀(s:List (List UInt8)) (k:Nat) (h:AV) (H:aa),(de p.1 st nu).drop k=s->k<=(de p.1 st nu).length->Fr H ->
 H.get ⟨0,3,0,0⟩=some ⟨24,[p.1.val p.2],false,false⟩->hU [39] 1 (fF ((de p.1 st nu).take k)) H h ->
 cy env Tryz.f141 0 iQ [(9,aI k),(3,.ptr ⟨0,3,0,0⟩ 0 0),(2,aI nu),(1,aI st),(8,h),(7,.bE 1 (aK (m9 p.1)) none)] H Q:=by
 intro s;induction s with
 | nil=>intro k h H D P V z m;obtain rfl:=drop_nil D P;rw[Ce]at m;have E:=Kf hp c a;have d:=pq a st nu;have W:=hp.1.r;have X:=K h H m;rw[d];unfold dY.val at E z;clear K hp m d;refine oP _ _ _ _ _ _ _ _ λg=>?_;simp[ak, *,iT];done
 | cons b s M=>
  intro k h H D P V z m;obtain⟨y,hg,v,n⟩:=drop_cons D;have E:=Kf hp c a;have d:=pq a st nu;have W:=hp.1.r;rw[d]at y;obtain⟨c1,F⟩:=QA a st nu y;have o:b=nJ st nu (nI p.1) k (((m9 p.1).drop (119 * k)).take 119):=by rw[n]at F;exact KT F
  have T:=zM a;have hN:=Gs a;have J:nI p.1=((m9 p.1).length+118) / 119:=rfl;obtain⟨pc,j⟩ : ∃pc,pc=((m9 p.1).drop (119 * k)).take 119:=⟨_,rfl⟩;rw[<-j]at o;have u:pc.length<=119/\pc≠[]:=(by rw[j];refine⟨by rw[oM];omega,λe=>?_⟩;have:=iQf List.length e;rw[oM,oZ]at this;simp only[lE]at this;omega);obtain⟨B,w⟩ : ∃B:Int,(if ((k:Int)+1) * 119<((m9 p.1).length:Int) then ((k:Int)+1) * 119 else ((m9 p.1).length:Int))=B:=⟨_,rfl⟩;have S:(0:Int)<=(k:Int) * 119/\(k:Int) * 119<=B/\B<=((m9 p.1).length:Int):=(by rw[<-w];split<;>omega);have U:((aK (m9 p.1)).drop ((k:Int) * 119).toNat).take (B.toNat - ((k:Int) * 119).toNat)=aK pc:=by
   rw[j];unfold aK;rw[<-List.map_drop,<-List.map_take,show((k:Int) * 119).toNat=119 * k from by omega];congr 1;split at w;·congr 1;omega
   rw[dM (by rw[oZ];omega),dM (by rw[oZ];omega)]
  have Z:=Vl (i:=k) (of:=nI p.1) a0 a1 b0 b1 (x := .bE 1 (aK pc) none) (Sl.mk _ _) u.1 u.2;rw[<-o]at Z;have f:=λh C=>M (k+1) h C v (by omega);have A:(de p.1 st nu).take (k+1)=(de p.1 st nu).take k++[b]:=by rw[Ez,n];rfl
  have L:((de p.1 st nu).take k).length=k:=by rw[oM];omega
  rw[show((k+1:Nat):Int)=(k:Int)+1 from by omega,A]at f;have e1:=iQa ((k:Int) * 119) (by omega);have e2:=iQa ((k:Int)+1) (by omega);have e3:=iQa (((k:Int)+1) * 119) (by omega);have O:(k:Int)<nI p.1:=by omega
  generalize (de p.1 st nu).take k=done at *;generalize m9 p.1=bs at *;generalize nI p.1=N at *;unfold dY.val at E z f;clear o F n hg D v K hp M j d A J;refine oP _ _ _ _ _ _ _ _ λg=>?_;have G:(k+1) * 24<=140737488355328:=by omega
  have q:(fF done).length=k:=(by simp[L]);have I:fF (done++[b])=fF done++[.bE 1 (aK b) none]:=(by simp[fF,JQ]);rw[I]at f;rcases m with ⟨rfl,m⟩ | ⟨t,Y,ht,rfl,m⟩
  ·rw[m]at f;simp[ak, *,iT];refine f _ _ (by simp(maxDischargeDepth:=12) [Gk, *]) (by simp[z]) (.inr ⟨39,H.gen 0 39,by simp,rfl,by simp⟩)
  obtain rfl:t=39:=(by simpa using ht);rw[q];have R:(H.get ⟨0,39,Y,0⟩).isSome=true:=by rw[m];rfl
  generalize fF done=eo at *;simp[ak, *,iT];refine f _ _ (by simp(maxDischargeDepth:=12) [eR, *]) ?_ (.inr ⟨39,H.gen 0 39,by simp,by simp[q],by simp⟩);simp[aa.ad,z]
theorem M7:ay env 141 [p.1.val p.2,aI st,aI nu]=some (.bE 1 (fF (de p.1 st nu)) none):=by
 have j:=HS hp c a;have n:=hp.1.r;have f:fF (de p.1 st nu)≠[]:=Xc (I1 a st nu);have d:=λQ k=>Xb hp c a a0 a1 b0 b1 (Q:=Q) k (de p.1 st nu) 0 aY [(⟨0,3,0,0⟩,some ⟨24,[p.1.val p.2],false,false⟩)] rfl (by omega) (by simp(maxDischargeDepth:=12) [Gk, *]) (by simp) (.inl ⟨rfl,rfl⟩);have b : ∀e i,hU [39] 1 (fF (de p.1 st nu)) i e->ed env 141 e i (.bE 1 (fF (de p.1 st nu)) none):=by
  rintro e i (⟨_,h⟩ | ⟨t,m,o,rfl,h⟩);·exact absurd h f
  generalize fF (de p.1 st nu)=eo at *;simp[h]
 refine aH rfl (by kernel_rfl) (wJ _ _ _ _ _ λg=>?_);replace d:=d _ b;clear b hp a;generalize fF (de p.1 st nu)=eo at *;unfold dY.val at j d ⊢;simp[ak, *,qj];exact d
end
end
section
attribute [local simp] aN aG ar aD aC bT kp aP ax aJ bG bF aX aO af a9 dM
def Kg{x:AV}{b:List UInt8}(j:Sl 1 (aK b) x):ay env 130 [x]=some (if gV b then .tup [(du b).val,aI 0] else .tup [(⟨0,0,0,0⟩:Hd).val,aI 8]):=by
 have n:=j.r;by_cases d:b.length=128
 ·have f:(b.length:Int)=128:=by omega
  obtain⟨b0,b1,b2,b3,b4,b5,b6,c,a,t,rfl⟩ : ∃b0 b1 b2 b3 b4 b5 b6 c a t,b=b0 :: b1 :: b2 :: b3 :: b4 :: b5 :: b6 :: c :: a :: t:=by
   match b,d with
   | b0 :: b1 :: b2 :: b3 :: b4 :: b5 :: b6 :: c :: a :: t,_=>exact⟨_,_,_,_,_,_,_,_,_,_,rfl⟩
  obtain⟨y,rfl,h⟩:=nU j (by simp);have B:=b0.toNat_lt;have p:=b1.toNat_lt;have E:=b2.toNat_lt;have A:=b3.toNat_lt;have q:=b4.toNat_lt;have G:=b5.toNat_lt;have D:=b6.toNat_lt;have i:du (b0 :: b1 :: b2 :: b3 :: b4 :: b5 :: b6 :: c :: a :: t)=⟨16777216 * (b0.toNat:Int)+65536 * b1.toNat+256 * b2.toNat+b3.toNat,65536 * (b4.toNat:Int)+256 * b5.toNat+b6.toNat,c.toNat,a.toNat⟩:=(by simp[du,Ab.val,vp];constructor<;>omega);have e:gV (b0 :: b1 :: b2 :: b3 :: b4 :: b5 :: b6 :: c :: a :: t)=l9 (16777216 * (b0.toNat:Int)+65536 * b1.toNat+256 * b2.toNat+b3.toNat) (65536 * (b4.toNat:Int)+256 * b5.toNat+b6.toNat) c.toNat a.toNat:=(by unfold gV;rw[i,d];simp);have o:(t.length:Int)+1+1+1+1+1+1+1+1+1=128:=by simp at d;omega
  have s:=iQa (16777216 * (b0.toNat:Int)) (by omega);have I:=iQa (65536 * (b1.toNat:Int)) (by omega);have F:=iQa (256 * (b2.toNat:Int)) (by omega);have v:=iQa (16777216 * (b0.toNat:Int)+65536 * b1.toNat) (by omega);have H:=iQa (16777216 * (b0.toNat:Int)+65536 * b1.toNat+256 * b2.toNat) (by omega);have w:=iQa (16777216 * (b0.toNat:Int)+65536 * b1.toNat+256 * b2.toNat+b3.toNat) (by omega);have u:=iQa (65536 * (b4.toNat:Int)) (by omega);have z:=iQa (256 * (b5.toNat:Int)) (by omega);have C:=iQa (65536 * (b4.toNat:Int)+256 * b5.toNat) (by omega);have m:=iQa (65536 * (b4.toNat:Int)+256 * b5.toNat+b6.toNat) (by omega);have k:=LD (16777216 * (b0.toNat:Int)+65536 * b1.toNat+256 * b2.toNat+b3.toNat) (65536 * (b4.toNat:Int)+256 * b5.toNat+b6.toNat) c.toNat a.toNat;rw[e,i];unfold Hd.val;clear e i h j n f d;cases l:l9 (16777216 * (b0.toNat:Int)+65536 * b1.toNat+256 * b2.toNat+b3.toNat) (65536 * (b4.toNat:Int)+256 * b5.toNat+b6.toNat) c.toNat a.toNat;·rw[l]at k;refine aH rfl (by kernel_rfl) (m8 _ _ _ λg=>?_);simp[ak, *,kL,aK];done
  rw[l]at k;refine aH rfl (by kernel_rfl) (m8 _ _ _ λg=>?_);simp[ak, *,kL,aK];done
 have f : ¬(b.length:Int)=128:=by omega
 have e:gV b=false:=by unfold gV;simp[d]
 rw[e];unfold Hd.val;clear e;refine aH rfl (by kernel_rfl) (m8 _ _ _ λg=>?_);simp[ak, *,kL]
def TB(b:List UInt8):Bool:=if b.getD 0 0=1 then gE (iZ ((b.drop 1).take 6)) else if b.getD 0 0=2 then nR (b.drop 3) else if b.getD 0 0=3 then gOk ((b.drop 1).take 7) else false
def UI(b:List UInt8):AV := .tup [(bW b).val (gK (bW b).op.l),aB (TB b&&ej (bW b))]
def Qh(b:List UInt8):sI b = .tup [.agg (B8 (PZ b)++[gK (PZ b).l]),aI (if nR b then rB b else 0),aI (if nR b then 0 else 8)]:=by
 unfold sI PZ pJ;split<;>rfl
def FB(l:List UInt8) : ∀a∈words l, -2147483648<=a/\a<=2147483647:=by
 intro a e;match l,e with
 | a :: b :: c :: d :: t,e=>
  rcases fR.1 e with rfl | e
  ·unfold word;rw[iQv];have:=yF [a,b,c,d];simp only[jP,lE]at this;omega
  exact FB t _ e
def LN(b:List UInt8):CZ (bW b).op.l:=by
 have c:CZ dS.l:=λa d=>by cases d
 have e : ∀b,CZ (qw b).op.l:=λb=>by rw[(Be b).2.1];exact c
 unfold bW;split;·exact c
 split
 ·show CZ (PZ (b.drop 3)).l;unfold PZ;split
  ·unfold oJ;show CZ (if _ then _ else _);split;·exact FB _
   exact λa d=>by cases d
  exact c
 split;·exact e _
 exact c
def SK{b:List UInt8}{x:AV}(v:Sl 1 (aK b) x)(B:8<=b.length)(D:b.length<100000):ay env 190 [x]=some (UI b):=by
 have k:=LN b;have n:=we b;have d:=ab1 (p:=(bW b,gK (bW b).op.l)) ⟨jG _,by simp only;omega⟩ (by simp only;omega) k;unfold UI;match b,B with
 | b0 :: b1 :: b2 :: b3 :: b4 :: b5 :: b6 :: a :: t,_=>
 obtain⟨j,rfl,i⟩:=nU v (by simp);rw[gM]at i;simp only[jP]at i D;have E:6<=(j.map (· - 1)).getD 6:=by cases j<;>simp at i ⊢ <;> omega
 have C:7<=(j.map (· - 1)).getD 7:=by cases j<;>simp at i ⊢ <;> omega
 have J:(7:Int)<=j.getD (t.length+1+1+1+1+1+1+1+1):=by omega
 have B:(8:Int)<=j.getD (t.length+1+1+1+1+1+1+1+1):=by omega
 have G:(7:Int) <= ↑t.length+1+1+1+1+1+1+1+1/\(7:Int) < ↑t.length+1+1+1+1+1+1+1+1/\(8:Int) <= ↑t.length+1+1+1+1+1+1+1+1/\(1:Int) < ↑t.length+1+1+1+1+1+1+1+1/\(2:Int) < ↑t.length+1+1+1+1+1+1+1+1/\(3:Int) <= ↑t.length+1+1+1+1+1+1+1+1:=by omega
 have I:(0:Int) < ↑t.length+1+1+1+1+1+1+1+1:=by omega
 by_cases k1:b0=1
 ·subst k1;have e:bW (1 :: b1 :: b2 :: b3 :: b4 :: b5 :: b6 :: a :: t)=⟨1,a.toNat, { dS with h:=Fe [b1,b2,b3,b4,b5,b6]},0,0,0,0,false⟩:=rfl;have f:TB (1 :: b1 :: b2 :: b3 :: b4 :: b5 :: b6 :: a :: t)=gE (iZ [b1,b2,b3,b4,b5,b6]):=rfl;have u:=Vg (x := .bE 1 [a8 b1,a8 b2,a8 b3,a8 b4,a8 b5,a8 b6] (j.map (· - 1))) (l:=[b1,b2,b3,b4,b5,b6]) (by rw[show[a8 b1,a8 b2,a8 b3,a8 b4,a8 b5,a8 b6]=aK [b1,b2,b3,b4,b5,b6] from rfl];exact Sl.Zi (by simpa using E)) rfl;rw[e]at d ⊢;rw[f];unfold Fe at d ⊢;unfold dY.val dS at d ⊢;simp only[uD]at d ⊢;clear e f k n v;generalize iZ [b1,b2,b3,b4,b5,b6]=hh at *;refine aH rfl (by kernel_rfl) (iC _ _ _ λg=>?_);cases q:gE hh;·rw[q]at u;clear d;simp[ak, *,eX,aK];done
  rw[q,if_pos rfl]at d;simp only[if_true];rw[q]at u;generalize ej _=R at *;simp[ak, *,eX,aK];done
 by_cases z:b0=2
 ·subst z;have e:bW (2 :: b1 :: b2 :: b3 :: b4 :: b5 :: b6 :: a :: t)=⟨2,0,PZ (b3 :: b4 :: b5 :: b6 :: a :: t),val [b1,b2],0,0,0,false⟩:=rfl;have f:TB (2 :: b1 :: b2 :: b3 :: b4 :: b5 :: b6 :: a :: t)=nR (b3 :: b4 :: b5 :: b6 :: a :: t):=rfl;have y:val [b1,b2]=256 * (b1.toNat:Int)+b2.toNat:=by simp[val,vp]
  have O:=b1.toNat_lt;have K:=b2.toNat_lt;have H:=iQa (256 * (b1.toNat:Int)) (by omega);have M:=iQa (256 * (b1.toNat:Int)+b2.toNat) (by omega);have s:Sl 1 (aK (b3 :: b4 :: b5 :: b6 :: a :: t)) (.bE 1 (a8 b3 :: a8 b4 :: a8 b5 :: a8 b6 :: a8 a :: List.map a8 t) (j.map (· - 3))):=(by rw[show a8 b3 :: a8 b4 :: a8 b5 :: a8 b6 :: a8 a :: List.map a8 t=aK (b3 :: b4 :: b5 :: b6 :: a :: t) from rfl];exact Sl.Zi (by cases j<;>simp at i ⊢ <;> omega));have m:=Yx s (by simp only[jP];omega);rw[Qh]at m;rw[e]at d ⊢;rw[f,y];rw[y]at d;have N:((t.length:Int)+1+1+1+1+1+1+1+1).toNat - 3=t.length+5:=by omega
  have L:List.take (t.length+5) (a8 b3 :: a8 b4 :: a8 b5 :: a8 b6 :: a8 a :: List.map a8 t)=a8 b3 :: a8 b4 :: a8 b5 :: a8 b6 :: a8 a :: List.map a8 t:=dM (by simp);unfold dY.val at d ⊢;clear e f k n v y s;generalize PZ (b3 :: b4 :: b5 :: b6 :: a :: t)=o at *;simp only[B8]at m;have F:=(jG o.l).r;simp only at d ⊢;generalize gK o.l=ro at *;generalize (if nR (b3 :: b4 :: b5 :: b6 :: a :: t) then rB (b3 :: b4 :: b5 :: b6 :: a :: t) else 0)=sz at *;generalize nR (b3 :: b4 :: b5 :: b6 :: a :: t)=ok at *;generalize ej _=R at *;refine aH rfl (by kernel_rfl) (iC _ _ _ λg=>?_);cases ok<;>simp[ak, *,eX,aK];done
 by_cases w:b0=3
 ·subst w;have e:bW (3 :: b1 :: b2 :: b3 :: b4 :: b5 :: b6 :: a :: t) = { qw [b1,b2,b3,b4,b5,b6,a]with kind:=3}:=rfl;have f:TB (3 :: b1 :: b2 :: b3 :: b4 :: b5 :: b6 :: a :: t)=(decide (b2<=1)&&s9 b1.toNat b3 (u32 (val [b4,b5,b6,a])) (decide (b2=1))):=rfl;have A:qw [b1,b2,b3,b4,b5,b6,a]=if decide (b2<=1)&&s9 b1.toNat b3 (u32 (val [b4,b5,b6,a])) (decide (b2=1)) then ⟨0,0,dS,0,b1.toNat,b3,u32 (val [b4,b5,b6,a]),decide (b2=1)⟩ else ⟨0,0,dS,0,0,0,0,false⟩:=rfl
  have u:=Yy (c:=j.map (· - 1)) (b0:=b1) (b1:=b2) (b2:=b3) (b3:=b4) (b4:=b5) (b5:=b6) (b6:=a) C;rw[e,A]at d ⊢;rw[f];clear e f A k n v;generalize u32 (val [b4,b5,b6,a])=V at *;generalize decide (b2=1)=OB at *;cases q:decide (b2<=1)&&s9 b1.toNat b3 V OB;·rw[q]at u;unfold dY.val dS;clear d;refine aH rfl (by kernel_rfl) (iC _ _ _ λg=>?_);simp[ak, *,eX,aK,uD];done
  rw[q]at u d;simp only[if_true]at d ⊢;unfold dY.val dS at d ⊢;simp only[uD]at d ⊢;generalize ej _=R at *;clear q;refine aH rfl (by kernel_rfl) (iC _ _ _ λg=>?_);simp[ak, *,eX,aK];done
 have e:bW (b0 :: b1 :: b2 :: b3 :: b4 :: b5 :: b6 :: a :: t)=⟨b0,0,dS,0,0,0,0,false⟩:=(by unfold bW;simp[k1,z,w]);have f:TB (b0 :: b1 :: b2 :: b3 :: b4 :: b5 :: b6 :: a :: t)=false:=(by unfold TB;simp[k1,z,w]);rw[e,f];unfold dY.val dS;simp only[uD];clear d e f;refine aH rfl (by kernel_rfl) (iC _ _ _ λg=>?_);simp[ak, *,eX,aK]
def pV(l:List (List UInt8)):List UInt8:=if l.all (λb=>decide (b.length=128)) then iL l else []
def RT{B:List (List UInt8)}(h:B.all (λb=>decide (b.length=128))=true):(iL B).length=119 * B.length:=by
 induction B with| nil=>rfl| cons b B a=>simp only[zk,bI,iQb]at h;have:=a h.2;simp only[iL,nL,iX,oZ,jP]at this ⊢;omega
def TH(l:List (List UInt8))(b:List UInt8):iL (l++[b])=iL l++b.drop 9:=by simp[iL]
section
variable{x0:AV}{l:List (List UInt8 × AV)}(c:Sl 1 (bV l) x0)(d:okB l)(f:l.length<800)
include c d f
theorem Se{Q:AV->aa->Prop}(n:(ib l).all (λb=>decide (b.length=128))=true ->∀h v,hU [23] 1 (aK (iL (ib l))) v h->(l.length=0->h=aY)->Q h v)(m:(ib l).all (λb=>decide (b.length=128))=false ->∀v,Q aY v) :
 ∀(s:List (List UInt8 × AV)) (k:Nat) (h:AV) (H:aa),l.drop k=s->k<=l.length->Fr H->(ib (l.take k)).all (λb=>decide (b.length=128))=true->hU [23] 1 (aK (iL (ib (l.take k)))) H h->(k=0->h=aY) ->
 cy env Tryz.f189 0 jL [(4,aI k),(0,x0),(3,h)] H Q:=by
 intro s;induction s with
 | nil=>
  intro k h H I T W z w y;obtain rfl:=drop_nil I T;rw[Ce]at z w;have L:=n z h H w y;have F:(bV l).length=l.length:=by simp[bV]
  clear n m w d;refine md _ _ _ _ _ λg=>?_;simp[ak, *,gU,c.r];done
 | cons p s O=>
  intro k h H I T W z w y;obtain⟨E,P,D,B⟩:=drop_cons I;have hp:Sl 1 (aK p.1) p.2:=d p (by rw[<-P];exact fj E);have N:bP (bV l) k 0 1 false=some p.2:=by simp[bV,B,bP,hp.r]
  have F:(bV l).length=l.length:=(by simp[bV]);have S:(k:Int)<l.length:=(by omega);have e1:=iQa ((k:Int)+1) (by omega);have A:l.take (k+1)=l.take k++[p]:=by rw[Ez,B];rfl
  have o:ib (l.take (k+1))=ib (l.take k)++[p.1]:=by rw[A];simp[ib]
  have u:p.1∈ib l:=by simp only[ib,mo];exact⟨p,by rw[<-P];exact fj E,rfl⟩
  have M:=hp.r;by_cases i:p.1.length=128
  ·obtain⟨cp,G,Y⟩:=nU hp (by simp;omega);have j:=λh v=>O (k+1) h v D (by omega);have x:(ib (l.take (k+1))).all (λb=>decide (b.length=128))=true:=by rw[o];simp only[List.all_append,z,zk,KM,i,iQG,ig]
   have hd:aK (iL (ib (l.take (k+1))))=aK (iL (ib (l.take k)))++(aK p.1).drop 9:=by rw[o,TH];simp[aK]
   have q:((aK p.1).drop 9).length=119:=(by simp[i]);have R:(aK p.1).drop 9≠[]:=by intro e;rw[e]at q;simp at q
   have hcl:(aK (iL (ib (l.take k)))).length<=100000:=(by have h1:=RT z;rw[show(ib (l.take k)).length=k from by simp[ib];omega]at h1;rw[gM];omega);have C:(p.1.length:Int)=128:=(by omega);have V:(aK p.1).length=p.1.length:=gM _;rw[show((k+1:Nat):Int)=(k:Int)+1 from by omega,hd]at j;replace j:=λh v a b=>j h v a x b (λe=>by omega);clear y;rw[G]at N M;have J:List.take 119 (List.drop 9 (aK p.1))=List.drop 9 (aK p.1):=dM (by omega);clear n m O d z o A x hd P B I D G u hp;generalize aK (iL (ib (l.take k)))=eo at *;generalize aK p.1=ep at *;refine md _ _ _ _ _ λg=>?_;rcases w with ⟨rfl,rfl⟩ | ⟨t,X,Z,rfl,w⟩
   ·simp[ak, *,gU,c.r,c.idx];exact j _ _ (by simp(maxDischargeDepth:=12) [Gk, *]) (.inr ⟨23,H.gen 0 23,by simp,by simp[q],by simp⟩)
   obtain rfl:t=23:=(by simpa using Z);have K:eo.length+119<=140737488355328:=(by omega);have U:(H.get ⟨0,23,X,0⟩).isSome=true:=by rw[w];rfl
   simp[ak, *,gU,c.r,c.idx];exact j _ _ (by simp(maxDischargeDepth:=12) [eR, *]) (.inr ⟨23,H.gen 0 23,by simp,by rw[iX,q],by simp⟩)
  have L:=m (by rw[List.all_eq_false];exact⟨p.1,u,by simpa using i⟩) H;have C : ¬(p.1.length:Int)=128:=by omega
  clear n m O d w z o A;refine md _ _ _ _ _ λg=>?_;simp[ak, *,gU,c.r,c.idx];done
theorem SJ:ay env 189 [x0]=some (cK 1 (aK (pV (ib l)))):=by
 obtain⟨y,j⟩ : ∃y,y=cK 1 (aK (pV (ib l))):=⟨_,rfl⟩;have q:=λQ o s=>Se c d f (Q:=Q) o s l 0 aY [] rfl (by omega) Fr.nil (by simp[ib]) (.inl ⟨rfl,by simp[ib,iL]⟩) (λ_=>rfl);have m:(ib l).all (λb=>decide (b.length=128))=true->l.length≠0->aK (iL (ib l))≠[]:=by
  intro a k e;cases l with
  | nil=>exact k rfl
  | cons p t=>
   have o:p.1.length=128:=by simp[ib]at a;exact a.1
   have:=iQf List.length e;simp[ib,iL,o]at this
 replace q:=q (λv n=>ed env 189 v n y) (λa x n h i=>by
  rw[j];have e:pV (ib l)=iL (ib l):=if_pos a;rw[e];rcases h with ⟨rfl,h⟩ | ⟨t,w,u,rfl,h⟩
  ·rw[h];simp[cK]
  ·obtain rfl:t=23:=(by simpa using u);have k:=m a (λe=>by have:=i e;cases this);rw[ji 1 k];generalize aK (iL (ib l))=eo at *;simp[h]) (λa n=>by
  rw[j];have e:pV (ib l)=[]:=if_neg (by rw[a];decide);rw[e];simp[cK])
 rw[<-j];refine aH rfl (by kernel_rfl) (yu _ _ _ λg=>?_);unfold rS;exact q
end
section
variable{x y:AV}{l m:List (List UInt8 × AV)}(c:Sl 1 (bV l) x)(a:Sl 1 (bV m) y)(i:okB l)(f:okB m)(d:l.length<1000000)
include c a i f d
theorem Pp(M:l.length=m.length){Q:AV->aa->Prop}{H:aa} : ∀(s t:List (List UInt8 × AV)) (k:Nat),l.drop k=s->m.drop k=t->k<=l.length->Q (aB (decide (ib s=ib t))) H ->
 cy env Tryz.f191 0 gy [(5,aI k),(1,y),(0,x)] H Q:=by
 have K:(bV l).length=l.length:=by simp[bV]
 have E:(bV m).length=m.length:=by simp[bV]
 intro s;induction s with
 | nil=>
  intro t k C A L z;obtain rfl:=drop_nil C L;have:t=[]:=by rw[<-A];exact Fz (by omega)
  subst this;rw[iQi rfl]at z;clear i f;refine jz _ _ _ _ _ λg=>?_;simp[ak, *,gz,c.r,a.r]
 | cons p s G=>
  intro t k C A L z;obtain⟨F,J,u,w⟩:=drop_cons C;cases t with
  | nil=>have:=iQf List.length A;simp at this;omega
  | cons q t=>
   obtain⟨B,I,o,v⟩:=drop_cons A;have e:Sl 1 (aK p.1) p.2:=i p (by rw[<-J];exact fj F);have n:Sl 1 (aK q.1) q.2:=f q (by rw[<-I];exact fj B);have r1:bP (bV l) k 0 1 false=some p.2:=by simp[bV,w,bP,e.r]
   have r2:bP (bV m) k 0 1 false=some q.2:=(by simp[bV,v,bP,n.r]);have R:=iQa ((k:Int)+1) (by omega);have S:=λ(g:dv)(r:Ref)=>Sl.conv (P:=env.P) (src:=76) (dst:=9) e (by kernel_rfl) (by kernel_rfl) g r;have T:=λ(g:dv)(r:Ref)=>Sl.conv (P:=env.P) (src:=76) (dst:=9) n (by kernel_rfl) (by kernel_rfl) g r;have N:(k:Int)<l.length:=by omega
   have O:(k:Int)<m.length:=(by omega);have j:=G t (k+1) u o (by omega);rw[show((k+1:Nat):Int)=(k:Int)+1 from by omega]at j;have b:(ib (p :: s)=ib (q :: t))↔(p.1=q.1/\ib s=ib t):=by simp[ib]
   by_cases D:p.1=q.1;·have hd:decide (ib (p :: s)=ib (q :: t))=decide (ib s=ib t):=decide_eq_decide.2 (by rw[b];exact⟨λh=>h.2,λh=>⟨D,h⟩⟩);rw[hd]at z;replace j:=j z;clear G i f hd b C u A o J w I v e n z;refine jz _ _ _ _ _ λg=>?_;simp[ak, *,gz,c.r,a.r,c.idx,a.idx];done
   have hd:decide (ib (p :: s)=ib (q :: t))=false:=iQh (by rw[b];exact λh=>D h.1);rw[hd]at z;clear G i f hd b C u A o J w I v e n j;refine jz _ _ _ _ _ λg=>?_;simp[ak, *,gz,c.r,a.r,c.idx,a.idx];done
theorem SL:ay env 191 [x,y]=some (aB (decide (ib l=ib m))):=by
 have n:(bV l).length=l.length:=by simp[bV]
 have j:(bV m).length=m.length:=by simp[bV]
 by_cases b:l.length=m.length
 ·have k:=λQ o=>Pp c a i f d b (Q:=Q) (H:=[]) l m 0 rfl rfl (by omega) o;have e:(l.length:Int)=m.length:=by omega
  refine aH rfl (by kernel_rfl) (nN _ _ _ _ λg=>?_);replace k:=k (λv p=>ed env 191 v p (aB (decide (ib l=ib m)))) (by simp);clear i f;simp[ak, *,kC,c.r,a.r];simpa using k
 have hd:decide (ib l=ib m)=false:=iQh (λh=>b (by have:=iQf List.length h;simpa [ib] using this));have e : ¬(l.length:Int)=m.length:=by omega
 rw[hd];clear i f hd;refine aH rfl (by kernel_rfl) (nN _ _ _ _ λg=>?_);simp[ak, *,kC,c.r,a.r]
end
def Ea(l:List (List UInt8)):Bool := !(pV l).isEmpty&&(gV (l.headD [])&&((TB (pV l)&&ej (bW (pV l)))&&decide (de (bW (pV l)) (du (l.headD [])).st (du (l.headD [])).nu=l)))
def TD(l:List (List UInt8)):AV:=if Ea l then .tup [(bW (pV l)).val (gK (bW (pV l)).op.l),(du (l.headD [])).val,aI 0] else zf
def adn{r:dY}(h:ej r=true)(z:List UInt8):TB (m9 r++z)=true:=by
 unfold ej at h;unfold m9 TB;split at h
 ·rename_i k1;simp only[bI,iQb]at h;obtain⟨⟨e,q⟩,j,k⟩:=h;rw[if_pos k1,KU];have b:(r.kind :: (cS r.op.h++[u8 r.user]++z)).getD 0 0=1:=k1;have n:((r.kind :: (cS r.op.h++[u8 r.user]++z)).drop 1).take 6=cS r.op.h:=by
   rw[iQQ,List.tail_cons,sh];exact Af (C6 _)
  rw[if_pos b,n,zV,j]
 rename_i k1;split at h
 ·rename_i g;simp only[bI,iQb,ij]at h;obtain⟨⟨⟨B,e⟩,q⟩,j,k⟩:=h;rw[if_neg k1,if_pos g,KU];have b:(r.kind :: ([u8 (r.code / 256),u8 r.code]++fW r.op++z)).getD 0 0=2:=g;have s:(r.kind :: ([u8 (r.code / 256),u8 r.code]++fW r.op++z)).drop 3=fW r.op++z:=by simp
  rw[if_neg (by rw[b];decide),if_pos b,s,(SZ j z).2.2]
 rename_i g;split at h
 ·rename_i t;simp only[bI]at h;obtain⟨e,k⟩:=h;rw[if_neg k1,if_neg g,KU];have b:(r.kind :: (lg r.gu r.gv r.gc r.gok++z)).getD 0 0=3:=t;have A:((r.kind :: (lg r.gu r.gv r.gc r.gok++z)).drop 1).take 7=lg r.gu r.gv r.gc r.gok:=by
   rw[iQQ,List.tail_cons];exact Af (by simp[lg])
  rw[if_neg (by rw[b];decide),if_neg (by rw[b];decide),if_pos b,A];have C:(0<=r.gu/\r.gu<8):=by simp only[s9,bI,iQb]at e;exact e.1
  have v:((lg r.gu r.gv r.gc r.gok).getD 0 0).toNat=r.gu:=(by show((u8 r.gu).toNat:Int)=r.gu;rw[CT];omega);have g1:(lg r.gu r.gv r.gc r.gok).getD 1 0=if r.gok then 1 else 0:=rfl
  have p:(lg r.gu r.gv r.gc r.gok).getD 2 0=r.gv:=rfl;have w:u32 (val (((lg r.gu r.gv r.gc r.gok).drop 3).take 4))=r.gc:=(by rw[show((lg r.gu r.gv r.gc r.gok).drop 3).take 4=be 4 r.gc.toNat from dM (by simp[lg])];exact CU r.gc);have u:decide ((if r.gok then (1:UInt8) else 0)=1)=r.gok:=by cases r.gok<;>rfl
  have o:decide ((if r.gok then (1:UInt8) else 0)<=1)=true:=by cases r.gok<;>rfl
  unfold gOk;rw[v,g1,p,w,u,o,e,ig]
 cases h
def ado(l:List (List UInt8)):Ea l=(gV (l.headD [])&&y9 l (du (l.headD [])) (iL l))/\(Ea l=true->pV l=iL l):=by
 by_cases g:l.all (λb=>decide (b.length=128))=true
 ·have p:pV l=iL l:=if_pos g;refine⟨?_,λ_=>p⟩;unfold Ea y9;rw[p];cases l with
  | nil=>rfl
  | cons b0 t=>
   have B:b0.length=128:=by simp at g;exact g.1
   have u:iL (b0 :: t)≠[]:=(by intro e;have:=iQf List.length e;simp[iL,B]at this);have D:decide (8<=(iL (b0 :: t)).length)=true:=by simp[iL,B];omega
   rw[D,ig];have s:(iL (b0 :: t)).isEmpty=false:=by simpa using u
   rw[s,zm,ig];show(gV b0&&_)=(gV b0&&_);cases q:gV b0 with
   | false=>rfl
   | true=>
    rw[ig,ig];show((TB _&&ej _)&&decide (de _ (du b0).st (du b0).nu=_))=(ej _&&l9 (du b0).st (du b0).nu 0 _&&decide (de _ (du b0).st (du b0).nu=_));generalize G:bW (iL (b0 :: t))=r at *;cases j:ej r with
    | false=>simp
    | true=>
     by_cases n:de r (du b0).st (du b0).nu=b0 :: t
     ·have w : ∃z,iL (b0 :: t)=m9 r++List.replicate z 0:=(by rw[<-n];exact Ov _ _ _ 3 (m9 r) 0 (by have:=(zM j).1;omega));obtain⟨z,w⟩:=w;have k:TB (iL (b0 :: t))=true:=by rw[w];exact adn j _
      have v:l9 (du b0).st (du b0).nu 0 (nI r)=true:=(by have E:l9 (du b0).st (du b0).nu (du b0).ix (du b0).of=true:=(by unfold gV at q;simp only[bI]at q;exact q.2);have o:=vF.1 E;have F:=Gs j;exact vF.2 ⟨o.1,o.2.1,o.2.2.1,o.2.2.2.1,by omega,by omega,by omega,by omega⟩);rw[k,v]
     simp[n]
 have p:pV l=[]:=if_neg g;have C:Ea l=false:=by unfold Ea;rw[p];rfl
 refine⟨?_,λh=>by rw[C]at h;cases h⟩;rw[C];cases k:(gV (l.headD [])&&y9 l (du (l.headD [])) (iL l)) with
 | false=>rfl
 | true=>exfalso;unfold y9 at k;simp only[bI,iQb]at k;obtain⟨_,_,⟨j,v⟩,n⟩:=k;refine g ?_;rw[<-n];rw[gP];exact λb A=>iQi (Fm j v b A)
def ZR(l:List (List UInt8)):TD l=Cz l:=by
 obtain⟨e,b⟩:=ado l;unfold TD Cz xM;rw[<-e];cases hd:Ea l with
 | false=>simp
 | true=>rw[b hd];simp
def SN{p:dY × AV}(hp:oX p)(a:p.1.op.l.length<100000):ay env 56 [p.1.val p.2]=some (p.1.val (cK 1 (rows p.1.op.l))):=by
 obtain⟨⟨k,u,⟨s,⟨D,a_3,n⟩,t,⟨⟨⟨C,B,z⟩,A⟩,j⟩,⟨⟨b,e,m⟩,i⟩,⟨f,h⟩,l⟩,c,g,v,w,o⟩,x⟩:=p;have F:=Ve s D a_3 n t C B z A j b e m i f h hp.1 a;have E:=hp.1.r;have q:=(gZ 1 (rows l)).r;unfold dY.val;simp only at F E q ⊢;clear hp;generalize cK 1 (rows l)=y at *;refine aH rfl (by kernel_rfl) (yw _ _ _ λg=>?_);simp[ak, *,rU];done
section
variable{x0:AV}{l:List (List UInt8 × AV)}(d:Sl 1 (bV l) x0)(a:okB l)
include d a
theorem Vn(Q:l.length<800):ay env 162 [x0]=some (Cz (ib l)):=by
 rw[<-ZR];have E:=SJ d a Q;have I:(bV l).length=l.length:=by simp[bV]
 have w:(pV (ib l)).length<100000:=by
  unfold pV;split;·rename_i s;have H:=RT s;rw[show(ib l).length=l.length from by simp[ib]]at H;omega
  simp
 have j:pV (ib l)≠[]->l≠[]/\(ib l).all (λb=>decide (b.length=128))=true:=by
  intro h;have s:(ib l).all (λb=>decide (b.length=128))=true:=by
   cases s:(ib l).all (λb=>decide (b.length=128)) with| true=>rfl| false=>exact absurd (if_neg (by rw[s];decide)) h
  exact⟨λe=>h (by rw[e];rfl),s⟩
 have z:=gZ 1 (aK (pV (ib l)));have u:=z.r;by_cases n:pV (ib l)=[];·have hd:TD (ib l)=zf:=(by unfold TD Ea;rw[n];rfl);rw[hd];rw[n]at E;have O:cK 1 (aK [])=aY:=rfl;rw[O]at E;unfold zf dY.val Hd.val kg dS;clear j z u n a hd;refine aH rfl (by kernel_rfl) (k6 _ _ _ λg=>?_);simp[ak, *,ju,d.r];done
 obtain⟨H,q⟩:=j n;obtain⟨c,t,rfl⟩:=iQA H;have o:=a c (by simp);have i:119<=(pV (ib (c :: t))).length:=by
  have T:c.1.length=128:=by simp[ib]at q;exact q.1
  have:pV (ib (c :: t))=iL (ib (c :: t)):=if_pos q;rw[this];simp[ib,iL,T]
 have K:=Kg o;have m:=SK z (by omega) w;have S:bP (bV (c :: t)) 0 0 1 false=some c.2:=by simp[bV,bP,o.r]
 have N:(0:Int)<(c :: t).length:=(by simp);obtain⟨b,k⟩ : ∃b,b=pV (ib (c :: t)):=⟨_,rfl⟩;have f:TD (ib (c :: t))=if gV c.1&&((TB b&&ej (bW b))&&decide (de (bW b) (du c.1).st (du c.1).nu=ib (c :: t))) then .tup [(bW b).val (gK (bW b).op.l),(du c.1).val,aI 0] else zf:=by
  rw[k];unfold TD Ea;have:(pV (ib (c :: t))).isEmpty=false:=by simpa using n
  rw[this];rfl
 rw[f];rw[<-k]at E z u m i w;have U:aK b≠[]:=by intro e;have:=iQf List.length e;simp at this;rw[this]at i;simp at i
 have L:(aK b).length=b.length:=(by simp);have P : ¬b=[]:=by rintro rfl;simp at i
 have M:=we b;have hp:oX (bW b,gK (bW b).op.l):=⟨jG _,by simp only;omega⟩;have R:=hp.1.r;have V:(c.1=c.1):=rfl;unfold UI at m;have J:=o.r;cases y:gV c.1 with
 | false=>rw[y,if_neg (by decide)]at K;unfold zf dY.val Hd.val kg dS at *;clear f k n j a hp q;simp only at *;generalize cK 1 (aK b)=ob at *;generalize gK (bW b).op.l=ro at *;generalize bW b=r at *;refine aH rfl (by kernel_rfl) (k6 _ _ _ λg=>?_);simp[ak, *,ju,d.r,d.idx];done
 | true=>
  rw[y,if_pos rfl]at K;cases p:TB b&&ej (bW b) with
  | false=>rw[p]at m;unfold zf dY.val Hd.val kg dS at *;clear f k n j a hp q p;simp only at *;generalize cK 1 (aK b)=ob at *;generalize gK (bW b).op.l=ro at *;generalize bW b=r at *;generalize du c.1=hd at *;refine aH rfl (by kernel_rfl) (k6 _ _ _ λg=>?_);simp[ak, *,ju,d.r,d.idx];done
  | true=>
   rw[p]at m;have A:ej (bW b)=true:=by cases h:ej (bW b)with | true=>rfl | false=>rw[h]at p;simp at p
   have C:=vF.1 (show l9 (du c.1).st (du c.1).nu (du c.1).ix (du c.1).of=true by unfold gV at y;simp only[bI]at y;exact y.2);have B:=M7 hp (by simp only;omega) A (st:=(du c.1).st) (nu:=(du c.1).nu) (by omega) (by omega) (by omega) (by omega);simp only at B;have v:=pq A (du c.1).st (du c.1).nu;have F:=Gs A;have G:=SL (x := .bE 1 (fF (de (bW b) (du c.1).st (du c.1).nu)) none) (l:=(de (bW b) (du c.1).st (du c.1).nu).map λb=>(b,JQ b)) (by rw[GC];exact Sl.mk _ _) d (GB _) a (by rw[AM,v];omega);rw[Bk]at G;generalize decide (de (bW b) (du c.1).st (du c.1).nu=ib (c :: t))=D at *;unfold zf dY.val Hd.val kg dS at *;clear f k n j a hp q p A C v F;simp only at *;generalize cK 1 (aK b)=ob at *;generalize fF (de (bW b) (du c.1).st (du c.1).nu)=bv at *;generalize gK (bW b).op.l=ro at *;generalize bW b=r at *;generalize du c.1=hd at *;refine aH rfl (by kernel_rfl) (k6 _ _ _ λg=>?_);cases D<;>simp[ak, *,ju,d.r,d.idx];done
end
def ao(l:List (dY × AV)):List AV:=l.map λp=>p.1.val p.2
@[simp] def fl(l:List (dY × AV)):(ao l).length=l.length:=by simp[ao]
def Aw(l:List (dY × AV)):List dY:=l.map (·.1)
@[simp] def aiA(l:List (dY × AV)):(Aw l).length=l.length:=by simp[Aw]
def Sq(a b:dY):my a b=true↔a=b:=⟨U1,λh=>by rw[h];exact Pq b⟩
def o8:List dY->List dY->Bool
 | [],[]=>true
 | a :: l,b :: m=>my a b&&o8 l m
 | _,_=>false
def J9 : ∀(l m:List dY),o8 l m=true↔l=m:=by
 intro l;induction l with
 | nil=>intro m;cases m<;>simp[o8]
 | cons a l c=>intro m;cases m with
  | nil=>simp[o8]
  | cons b m=>simp[o8,Sq,c]
def HN(l:List dY):o8 l l=true:=(J9 l l).2 rfl
def J8{l m:List dY}(h:l.length≠m.length):o8 l m=false:=by
 cases e:o8 l m with| false=>rfl| true=>exact absurd (iQf List.length ((J9 l m).1 e)) h
section
variable{l m:List (dY × AV)}{x y:AV}(d:Sl 24 (ao l) x)(n:Sl 24 (ao m) y)(j : ∀p∈l,oX p)(o : ∀p∈m,oX p)(f:l.length<1000000)
include d n j o f
theorem LA(z:l.length=m.length){Q:AV->aa->Prop}{H:aa} : ∀(s t:List (dY × AV)) (k:Nat) (i:Int),l.drop k=s->m.drop k=t->k<=l.length->i=k->(Q (aB (o8 (Aw s) (Aw t))) H) ->
 cy env Tryz.f21 0 iq [(5,aI i),(1,y),(0,x)] H Q:=by
 intro s;induction s with
 | nil=>rintro t k i hs ht hk rfl hQ;obtain rfl:=drop_nil hs hk;rw[z,Ex]at ht;subst ht;refine oy _ _ _ _ _ λg=>?_;simp[ak, *,ir,d.r];all_goals simpa [Aw,o8] using hQ
 | cons p s G=>
  rintro t k i hs ht hk rfl hQ;obtain⟨K,M,B,C⟩:=drop_cons hs;have F:k<m.length:=by omega
  obtain⟨q,t',rfl⟩ : ∃q t',t=q :: t':=by
   cases t with| nil=>have:=iQf List.length ht;simp at this;omega| cons q t'=>exact⟨q,t',rfl⟩
  obtain⟨_,D,A,v⟩:=drop_cons ht;have b:=j p (M ▸ fj _);have h:=o q (D ▸ fj _);have L:=age b h;have N:=iQa ((k:Int)+1) (by omega);have c:=G t' (k+1) ((k:Int)+1) B A (by omega) (by simp);have J:=b.1.r;have I:=h.1.r;have u:bP (ao l) k 0 24 true=some (p.1.val p.2):=by simp[ao,C,dY.val]
  have w:bP (ao m) k 0 24 true=some (q.1.val q.2):=(by simp[ao,v,dY.val]);have a:Q (aB (my p.1 q.1&&o8 (Aw s) (Aw t'))) H:=hQ;clear G hQ j o;unfold dY.val at L u w;generalize my p.1 q.1=e at *;refine oy _ _ _ _ _ λg=>?_;cases e with
  | false=>simp[ak, *,ir,d.r,d.idx,n.r,n.idx];simpa using a
  | true=>rw[ig]at a;have E:=c a;clear c a;simp[ak, *,ir,d.r,d.idx,n.r,n.idx]
theorem Sw:ay env 21 [x,y]=some (aB (o8 (Aw l) (Aw m))):=by
 refine aH rfl (by kernel_rfl) (vR _ _ _ _ λg=>?_);by_cases a:l.length=m.length;·have h:=LA d n j o f a (Q:=λv H=>ed env 21 v H (aB (o8 (Aw l) (Aw m)))) (H:=[]) l m 0 0 rfl rfl (by omega) rfl (by simp);have b:=d.r;have c:=n.r;rw[fl]at b c;rw[a]at b;clear j o;simp[ak, *,lV];exact h
 have e : ¬(l.length:Int)=m.length:=by omega
 rw[J8 (by simpa using a)];clear j o;simp[ak, *,lV,d.r,n.r]
end
section
variable{l:List (dY × AV)}{x:AV}(d:Sl 24 (ao l) x)(j : ∀p∈l,Sl 1 (rows p.1.op.l) p.2)(most:Int)
include d j
theorem Tl{Q:AV->aa->Prop}{H:aa}(b : ∀t:Bool,(t=false->(∀p∈l.take 200,p.1.op.l.length<=200)/\(l.length:Int)<=most)->Q (aB t) H) : ∀(s:List (dY × AV)) (k:Nat) (i:Int),l.drop k=s->k<=l.length->i=k ->
 (∀p∈l.take k,p.1.op.l.length<=200)->k<=200->cy env Tryz.f37 0 jI [(5,aI i),(0,x),(1,aI most)] H Q:=by
 intro s;induction s with
 | nil=>rintro k i hs hk rfl hd h2;obtain rfl:=drop_nil hs hk;refine pQ _ _ _ _ _ λg=>?_;rw[Ce]at hd;have a:=b (decide (most<l.length)) (λh=>⟨λp hp=>hd p (Ai hp),by simpa using h⟩);clear b j hd;simp[ak, *,gT,d.r];all_goals exact a
 | cons p s u=>
  rintro k i hs hk rfl hd h2;obtain⟨I,K,v,e⟩:=drop_cons hs;have F:=(j p (K ▸ fj _)).r;have L:=iQa ((k:Int)+1) (by omega);refine pQ _ _ _ _ _ λg=>?_;have J:(k:Int)<l.length:=by omega
  by_cases B:k<200
  ·have w:(k:Int)<200:=(by omega);have E:bP (ao l) k 18 1 false=some p.2:=(by simp[ao,e,dY.val]);by_cases f:p.1.op.l.length<=200
   ·have G:=u (k+1) ((k:Int)+1) v (by omega) (by simp) (by
     intro q c;rw[Ez,e]at c;rcases mS.1 c with c | c
     ·exact hd q c
     simp at c;subst c;exact f) (by omega)
    have z : ¬(200:Int)<p.1.op.l.length:=(by omega);clear u b j hd;simp[ak, *,gT,d.r,d.idx]
   have a:=b true (by simp);have z:(200:Int)<p.1.op.l.length:=by omega
   clear u b j hd;simp[ak, *,gT,d.r,d.idx];all_goals exact a
  have A:k=200:=(by omega);subst A;have a:=b (decide (most<l.length)) (λh=>⟨hd,by simpa using h⟩);have C:(200:Int)<l.length:=by omega
  have D:200<l.length:=(by omega);clear u b j hd;simp[ak, *,gT,d.r];all_goals exact a
theorem ab2 : ∃t:Bool,ay env 37 [x,aI most]=some (aB t)/\(t=false->(∀p∈l.take 200,p.1.op.l.length<=200)/\(l.length:Int)<=most):=by
 have h : ∃y,ay env 37 [x,aI most]=some y /\∃t:Bool,y=aB t/\(t=false->(∀p∈l.take 200,p.1.op.l.length<=200)/\(l.length:Int)<=most):=by
  refine Ix (fn:=Tryz.f37) (c:=zd) (by kernel_rfl) (by kernel_rfl) (by kernel_rfl) (by kernel_rfl) (by kernel_rfl) ?_;refine yq _ _ _ _ λg=>?_;exact Tl d j most (λt e=>⟨aB t,by simp,t,rfl,e⟩) l 0 0 rfl (by omega) rfl (by simp) (by omega)
 obtain⟨y,b,t,rfl,a⟩:=h;exact⟨t,b,a⟩
end
def eC(d:Dk)(p nu most:Int):Nat->Int->Nat->List dY × Int
 | 0,at',_=>([],at')
 | m+1,at',n=>if (n:Int)<most then (match o4 d (p+at') at' (nu+n+1) with
  | some (r,k)=>(r :: (eC d p nu most m (at'+k) (n+1)).1,(eC d p nu most m (at'+k) (n+1)).2)
  | none=>([],at')) else ([],at')
def cX(l:List dY):List (dY × AV):=l.map λr=>(r,gK r.op.l)
@[simp] def qE(l:List dY):(cX l).length=l.length:=by simp[cX]
def EH{d:Dk}{p at' nu:Int}{r:dY}{k:Nat}(h:o4 d p at' nu=some (r,k)):1<=k/\k<=4/\at'+k<=2048/\r.op.l.length<1000000:=by
 unfold o4 at h;split at h;·cases h
 split at h
 ·rename_i n e;simp only[bI,iQb]at e;have m:=RD e.1;cases c:xM (fE d p (du (d.rd p)).of.toNat) with
  | none=>rw[c]at h;cases h
  | some q=>
   rw[c]at h;simp only[Option.map_some,eS,tf]at h;obtain⟨g,o⟩:=h;have:q.1.op.l.length<=64:=by
    unfold xM at c;split at c;·cases c;exact we _
    cases c
   rw[<-g];omega
 cases h
section
variable{d:Dk}(b:d.vm)(a:d.may=true){area nu most:Int}(j:0<=area/\area<=2)(f:0<=nu/\nu<=16777215)(i:0<=most/\most<=16777215)
include b a j f i
theorem Sn{Q:AV->aa->Prop} : ∀(m:Nat)(at':Int)(acc:List (dY × AV)) (G:AV) (H:aa),0<=at'->at'<=2048->2049<=at'+m->(acc.length:Int)<=at'->Fr H ->
 H.get ⟨0,4,0,0⟩=some ⟨4,[d.val],false,false⟩->hU [53] 24 (ao acc) H G->(acc=[]->G=aY) ->
 (∀y o,hU [53] 24 (ao (acc++cX (eC d (area * 2048) nu most m at' acc.length).1)) o y->(acc++cX (eC d (area * 2048) nu most m at' acc.length).1=[]->y=aY)->Q (.tup [y,aI (eC d (area * 2048) nu most m at' acc.length).2,aI 0]) o) ->
 cy env Tryz.f47 0 ue [(9,aI at'),(8,G),(2,aI nu),(1,aI area),(4,.ptr ⟨0,4,0,0⟩ 0 0),(3,aI most)] H Q:=by
 intro m;induction m with
 | zero=>rintro at' acc G H h0 h1 h2;omega
 | succ m L=>
  rintro at' acc G H h0 h1 h2 hal hF h4 hO hN hQ;have M:=iQa (nu+acc.length) (by omega);have N:=iQa (nu+acc.length+1) (by omega);have D:=Yh b a j h0 (nu+acc.length+1);have p:(ao acc).length=acc.length:=fl acc;unfold eC at hQ;refine Ju _ _ _ _ _ _ _ _ λg=>?_;have O:=b.sl.r;by_cases A:(acc.length:Int)<most
  ·rw[if_pos A]at hQ;cases B:o4 d (area * 2048+at') at' (nu+acc.length+1) with
   | none=>
    rw[B]at D hQ;have n:=λo h=>hQ G o (by simpa [cX] using h) (by simpa [cX] using hN);simp only at n;clear hQ L B a b hN;obtain⟨l,y,st,lf,dd⟩:=d;simp only[Dk.val,dR]at *;have R:(H.get ⟨0,4,0,0⟩).isSome=true:=by rw[h4];rfl
    unfold kZ dY.val kg dS at D;rcases hO with ⟨rfl,K⟩ | ⟨t,J,s,rfl,w⟩
    ·have:acc=[]:=(by simpa [ao] using K);subst this;have E:0<most:=A;simp only[lE,Dp,AG]at D M N;simp[ak, *,j9];all_goals exact n _ (.inl ⟨rfl,rfl⟩)
    rw[lX]at s;subst s;simp only[p]at n ⊢;have V:(H.get ⟨0,53,J,0⟩).isSome=true:=by rw[w];rfl
    simp[ak, *,j9];all_goals exact n _ (.inr ⟨53,J,by simp,by rw[p],by simp(maxDischargeDepth:=12) [eR, *]⟩)
   | some q=>
    obtain⟨r,k⟩:=q;have P:=EH B;rw[B]at D hQ;simp only at hQ;have Y:=iQa (at'+k) (by omega);have U : ¬k=0:=by omega
    have v:=λI o=>L (at'+k) (acc++[(r,gK r.op.l)]) I o (by omega) (by omega) (by omega) (by simp;omega);have F:=(jG r.op.l).r;have C:gK r.op.l=aY \/∃c,gK r.op.l = .bE 1 (rows r.op.l) c:=by
     rcases jG r.op.l with ⟨h,_⟩ | ⟨c,h,_⟩
     ·exact .inl h
     exact .inr ⟨c,h⟩
    have n : ∀y o,hU [53] 24 (ao ((acc++[(r,gK r.op.l)])++cX (eC d (area * 2048) nu most m (at'+k) (acc++[(r,gK r.op.l)]).length).1)) o y->((acc++[(r,gK r.op.l)])++cX (eC d (area * 2048) nu most m (at'+k) (acc++[(r,gK r.op.l)]).length).1=[]->y=aY)->Q (.tup [y,aI (eC d (area * 2048) nu most m (at'+k) (acc++[(r,gK r.op.l)]).length).2,aI 0]) o:=(by intro y o h f;rw[iX,EF]at h ⊢;exact hQ y o (by simpa [cX] using h) (λe=>by simp[cX]at e));have v:=λI o a1 S T=>v I o a1 S T (λe=>by simp at e) n;have z : ∀(g m:Nat)(o:aa),m=acc.length+1->o.get ⟨0,53,g,0⟩=some ⟨24,ao acc++[r.val (gK r.op.l)],true,false⟩->hU [53] 24 (ao (acc++[(r,gK r.op.l)])) o (.ct ⟨0,53,g,0⟩ 0 m none):=(by intro g m o a h;subst a;exact .inr ⟨53,g,by simp,by simp,by rw[h];simp[ao]⟩);clear L hQ n B a b hN;unfold kZ at D;unfold dY.val at D z;obtain⟨l,y,st,lf,dd⟩:=d;simp only[Dk.val,dR]at *;have R:(H.get ⟨0,4,0,0⟩).isSome=true:=by rw[h4];rfl
    generalize gK r.op.l=ro at *;have W:acc.length+1<=2049:=by omega
    rcases hO with ⟨rfl,K⟩ | ⟨t,J,s,rfl,w⟩
    ·have:acc=[]:=(by simpa [ao] using K);subst this;have u:=λo=>z (H.gen 0 53) 1 o rfl;clear z p;have E:0<most:=A;simp only[lE,Dp,AG]at D M N;rcases C with rfl | ⟨c,rfl⟩
     ·clear F;simp[ak, *,j9];exact v _ _ (by simp(maxDischargeDepth:=12) [eR, *]) (by simp(maxDischargeDepth:=12) [eR, *]) (u _ (by simp(maxDischargeDepth:=12) [eR, *]))
     simp[ak, *,j9];exact v _ _ (by simp(maxDischargeDepth:=12) [eR, *]) (by simp(maxDischargeDepth:=12) [eR, *]) (u _ (by simp(maxDischargeDepth:=12) [eR, *]))
    rw[lX]at s;subst s;simp only[p]at w ⊢;have V:(H.get ⟨0,53,J,0⟩).isSome=true:=by rw[w];rfl
    have u:=λo=>z (H.gen 0 53) (acc.length+1) o rfl;clear z;have X : ∀x:AV,kJ 24 160 acc.length true none (some ⟨24,ao acc,true,false⟩) (some [x]):=(by intro x;simp;omega);rcases C with rfl | ⟨c,rfl⟩
    ·clear F;simp[ak, *,j9];exact v _ _ (by simp(maxDischargeDepth:=12) [eR, *]) (by simp(maxDischargeDepth:=12) [eR, *]) (u _ (by simp(maxDischargeDepth:=12) [eR, *]))
    simp[ak, *,j9];exact v _ _ (by simp(maxDischargeDepth:=12) [eR, *]) (by simp(maxDischargeDepth:=12) [eR, *]) (u _ (by simp(maxDischargeDepth:=12) [eR, *]))
  rw[if_neg A]at hQ;have n:=λo h=>hQ G o (by simpa [cX] using h) (by simpa [cX] using hN);simp only at n;clear hQ L a b D hN;rcases hO with ⟨rfl,K⟩ | ⟨t,J,s,rfl,w⟩
  ·have:acc=[]:=(by simpa [ao] using K);subst this;have E : ¬0<most:=A;simp[ak, *,j9];all_goals exact n _ (.inl ⟨rfl,rfl⟩)
  rw[lX]at s;subst s;simp only[p]at n ⊢;simp[ak, *,j9];all_goals exact n _ (.inr ⟨53,J,by simp,by rw[p],w⟩)
theorem LC:ay env 47 [d.val,aI area,aI nu,aI most]=some (.tup [cK 24 (ao (cX (eC d (area * 2048) nu most 2049 0 0).1)),aI (eC d (area * 2048) nu most 2049 0 0).2,aI 0]):=by
 refine aH rfl (by kernel_rfl) (MK _ _ _ _ _ _ λg=>?_);have C:=DG b;rw[a]at C;have z:=Ps area 2;have p:=Ps nu 16777215;have A:=Ps most 16777215;rw[iQi j.1,iQi j.2]at z;rw[iQi f.1,iQi f.2]at p;rw[iQi i.1,iQi i.2]at A;have e:=Sn b a j f i (Q:=λv H=>ed env 47 v H (.tup [cK 24 (ao (cX (eC d (area * 2048) nu most 2049 0 0).1)),aI (eC d (area * 2048) nu most 2049 0 0).2,aI 0])) 2049 0 [] aY;have o : ∀(y:AV)(m:aa),hU [53] 24 (ao (([]:List (dY × AV))++cX (eC d (area * 2048) nu most 2049 0 ([]:List (dY × AV)).length).1)) m y->([]++cX (eC d (area * 2048) nu most 2049 0 ([]:List (dY × AV)).length).1=[]->y=aY) ->
  ed env 47 (.tup [y,aI (eC d (area * 2048) nu most 2049 0 ([]:List (dY × AV)).length).2,aI 0]) m (.tup [cK 24 (ao (cX (eC d (area * 2048) nu most 2049 0 0).1)),aI (eC d (area * 2048) nu most 2049 0 0).2,aI 0]):=by
  intro y m h f;rw[lE]at h f ⊢;rw[sf]at h f;generalize eC d (area * 2048) nu most 2049 0 0=q at *;rcases h with ⟨rfl,B⟩ | ⟨t,D,w,rfl,k⟩
  ·rw[B];simp[cK]
  by_cases n:ao (cX q.1)=[];·cases f (by simpa [ao] using n)
  rw[ji 24 n];simp[k]
 have x:=b.sl.r;have c:=λH a1 s u=>e H (by omega) (by omega) (by omega) (by simp) a1 s u (λ_=>rfl) o;clear a b o e;generalize eC d (area * 2048) nu most 2049 0 0=q at *;obtain⟨l,y,st,lf,dd⟩:=d;simp only[Dk.val,dR]at *;simp[ak, *,F6];exact c _ (by simp(maxDischargeDepth:=12) [eR, *]) (by simp(maxDischargeDepth:=12) [eR, *]) (.inl ⟨rfl,rfl⟩)
end
end
section
def af7:List dY->Nat
 | []=>0
 | r :: L=>nI r+af7 L
def chain(d:Dk)(p:Int):Int->Int->List dY->Prop
 | _,_,[]=>True
 | nu,at',r :: L=>o4 d (p+at') at' nu=some (r,nI r)/\chain d p (nu+1) (at'+nI r) L
def adC{d:Dk}(e:d.vm){area at' nu:Int}{r:dY}(h:ZZ d area at' nu r=0):(d.app area at' nu r).vm/\(d.app area at' nu r).may=true/\d.may=true/\(0<=area/\area<=2/\0<=at'/\at'<=2048/\1<=d.st/\1<=nu/\nu<16777216)/\ej r=true/\at'+nI r<=2048/\l9 d.st nu 0 (nI r)=true:=by
 unfold ZZ at h;split at h
 ·rename_i b;split at h
  ·rename_i g;split at h
   ·rename_i a;split at h
    ·rename_i i;have f:d.st<2147483648:=by
      have:=b;unfold Dk.may Gi IQ at this;simp at this;omega
     have j:=Gs a;have c:l9 d.st nu 0 (nI r)=true:=(by unfold l9;simp;omega);have:=abz (de r d.st nu) d.tw (area * 2048+at') (abJ e) (by rw[UC,b]) (by omega) (by rw[pq a];omega) (Fm a c);exact⟨this.1,this.2,b,g,a,i,c⟩
    cases h
   cases h
  cases h
 cases h
end
end Go.Proofs.YtiidajnodhkidaaGreat
namespace Go.Proofs.YtiidajnodhkidaaGreat
open Go.Ab Go.ChangeShapes Go.WideShapes Go.RowKit
def YX:OL env.P 47 (λ_=>True) (λp:UInt8 × UInt32 × Bool=>[a8 p.1,bY p.2.1,aB p.2.2]):=by
 intro n d h;have h:=lK (P:=env.P) N2 h;obtain⟨m,x,r,rfl,c,y,r',rfl,a,rfl⟩:=h;obtain⟨q,_,rfl⟩:=LH _ _ c;obtain⟨b,_,rfl⟩:=Ia (P:=env.P) (t:=4) (by simp) _ _ a;exact⟨(q.1,q.2,b),trivial,rfl⟩
def ajK(p:dY × AV):List AV:=[a8 p.1.kind,aI p.1.user]++(abr (p.1.op,p.2)++[aI p.1.code,aI p.1.gu,a8 p.1.gv,bY p.1.gc,aB p.1.gok])
def YU:OL env.P 51 (λp:dY × AV=>Sl 1 (rows p.1.op.l) p.2) ajK:=by
 intro n s h;have h:=lK (P:=env.P) N0 h;obtain⟨m,o,r1,rfl,i,v,r2,rfl,b,w,r3,rfl,e,x4,r4,rfl,j,x5,r5,rfl,d,rfl⟩:=h;obtain⟨k,_,rfl⟩:=Nh (P:=env.P) (t:=5) (by simp) _ _ i;obtain⟨u,_,rfl⟩:=nW (P:=env.P) (t:=3) (by simp) _ _ b;obtain⟨q,f,rfl⟩:=YV _ _ e;obtain⟨c,_,rfl⟩:=nW (P:=env.P) (t:=30) (by simp) _ _ j;have a:=lK (P:=env.P) N1 d;obtain⟨m,x,s1,rfl,i1,y,s2,rfl,i2,rfl⟩:=a;obtain⟨g,_,rfl⟩:=nW (P:=env.P) (t:=3) (by simp) _ _ i1;obtain⟨z,_,rfl⟩:=YX _ _ i2;exact⟨(⟨k,u,q.1,c,g,z.1,z.2.1,z.2.2⟩,q.2),f,rfl⟩
end Go.Proofs.YtiidajnodhkidaaGreat
namespace Go.Proofs.YtiidajnodhkidaaGreat
open Go.Ab
section
attribute [local simp] aN aG ar aD aC bT kp aP ax aJ bG bF aX aO af a9 dM
def agf:ay env 39 []=some (dR aY 0 (-1) false):=by
 refine aH rfl (by kernel_rfl) (MN _ _ λg=>?_);simp[ak, *,F9,dR]
def fresh(n:Int):Dk:=⟨[],aY,1,n,false⟩
def Ty(n:Int):(fresh n).vm:=⟨.inl ⟨rfl,rfl⟩,λs a=>(by cases a),by simp[fresh]⟩
def Tx{n:Int}(h : -1<=n/\n<2147483648):(fresh n).may=true:=by
 unfold Dk.may Gi IQ fresh gN;simp;omega
def YI{n:Int}(h : -1<=n/\n<2147483648):ay env 38 [dR aY 0 (-1) false,aI n]=some (.tup [(fresh n).val,aI 0]):=by
 have:=Na (l:=[]) (x:=aY) (st:=0) (lf := -1) (dd:=false) (.inl ⟨rfl,rfl⟩) (λs a=>by cases a) (by simp) n;rw[if_pos (by decide),if_neg (by omega),if_neg (by decide)]at this;exact this
def Dk.again(d:Dk)(n:Int):Dk:=⟨zH d.l,vw (OJ d.x d.l),d.st+1,n,false⟩
def Q9{d:Dk}{p nu most:Int} : ∀(m:Nat)(at':Int)(n:Nat),(∀r∈(eC d p nu most m at' n).1,r.op.l.length<1000000)/\(eC d p nu most m at' n).1.length<=m:=by
 intro m;induction m with
 | zero=>intro at' n;exact⟨λr a=>(by cases a),bM _⟩
 | succ m e=>
  intro at' n;unfold eC;split
  ·split
   ·rename_i r k c;have:=e (at'+k) (n+1);refine⟨λq b=>?_,by simp;exact this.2⟩;rcases fR.1 b with rfl | b
    ·exact(EH c).2.2.2
    exact this.1 q b
   exact⟨λr a=>(by cases a),by simp⟩
  exact⟨λr a=>(by cases a),by simp⟩
def HV{l:List dY}(h : ∀r∈l,r.op.l.length<1000000) : ∀p∈cX l,oX p:=by
 intro p hp;obtain⟨r,a,rfl⟩:=mo.1 hp;exact⟨jG _,AE (h r a) (by decide)⟩
attribute [local simp] aN aG ar aD aC bT kp aP ax aJ bG bF aX aO af a9 dM
end
section
attribute [local simp] aN aG ar aD aC bT kp aP ax aJ bG bF aX aO af a9 dM
def tl(g n:Int):List UInt8:=77 :: (be 4 g++(be 3 n++List.replicate 120 0))
def Yp{g n:Int}(e:0<=g)(c:0<=n):ay env 114 [.agg [aI g,aI n]]=some (.bE 1 (aK (tl g n)) none):=by
 refine aH rfl (by kernel_rfl) (Hl _ _ _ λg=>?_);have a:=yP (P:=env.P) (t:=76) (z:=1) (by':=1) (zz:=a8 0) (r:=⟨0,6,0,0⟩) (by kernel_rfl) (by kernel_rfl) (n:=128) (by decide) (by decide);rw[show((128:Nat):Int)=128 from rfl]at a;simp[ak, *,Bp];refine mX _ _ _ _ _ λg=>?_;simp[ak, *,lM,cY,cT];refine mX _ _ _ _ _ λg=>?_;simp[ak, *,lM,cY,cT];refine mX _ _ _ _ _ λg=>?_;simp[ak, *,lM,cY,cT];refine mX _ _ _ _ _ λg=>?_;simp[ak, *,lM,cY,cT];refine mX _ _ _ _ _ λg=>?_;simp[ak, *,lM];refine pz _ _ _ _ _ λg=>?_;simp[ak, *,nn,cY,cT];refine pz _ _ _ _ _ λg=>?_;simp[ak, *,nn,cY,cT];refine pz _ _ _ _ _ λg=>?_;simp[ak, *,nn,cY,cT];refine pz _ _ _ _ _ λg=>?_;simp[ak, *,nn,tl,vc,TO,aK]
def zL{P:Program}{t z:Nat}(h:(eK P t).bind (aV P)=some z){es:List AV}{x:AV}(f:Sl z es x){lo hi:Int}(m:0<=lo)(n:lo<=hi)(k:hi<=es.length) :
 ∃y,(∀g,dx P g t (some x) (some (some lo)) (some (some hi)) (some none)=some (y,[]))/\Sl z ((es.drop lo.toNat).take (hi.toNat - lo.toNat)) y:=by
 rcases f with ⟨rfl,rfl⟩ | ⟨c,rfl,e⟩
 ·obtain⟨y,a,i⟩:=ET h (λ_=>none) (.inl ⟨rfl,rfl⟩) m n k;refine⟨y,λg=>?_,i⟩;rw[C0 (by rw[h];rfl)]at a ⊢;exact a
 obtain⟨y,a,i⟩:=ET h (λ_=>none) (.inr ⟨c,rfl,e⟩) m n k;refine⟨y,λg=>?_,i⟩;rw[C1 h]at a ⊢;exact a
def uK(b:List UInt8):Int:=val ((b.drop 1).take 4)
def DR(b:List UInt8):Int:=val ((b.drop 5).take 3)
def yO(b:List UInt8)(slot:Int):Int × Int:=if 1<=uK b/\uK b<2147483648/\uK b % 2=slot/\b=tl (uK b) (DR b) then (uK b,DR b) else (0,0)
section
variable{x5:AV}{b:List UInt8}(f:Sl 1 (aK b) x5)(B:b.length=128){slot:Int}{Q:AV->aa->Prop}(u : ∀H,Q (.agg [aI (yO b slot).1,aI (yO b slot).2]) H)
include f B u
theorem PG{z:AV}{l:List UInt8}(m:Sl 1 (aK l) z)(w:l=(b.drop 5).take 3)(N:0<=slot){J:Int}(q:J=uK b) : ∀(s:List UInt8)(k:Nat)(i a:Int)(H:aa),l.drop k=s->k<=l.length->i=k->0<=a->a<256 ^ k->vp a s=DR b ->
 H.get ⟨0,4,0,0⟩=some ⟨2,[.agg [aI J,aI a]],false,false⟩->Fr H ->
 cy env Tryz.f115 0 pE [(39,aI i),(4,.ptr ⟨0,4,0,0⟩ 0 0),(37,z),(5,x5),(1,aI slot),(38,aI l.length)] H Q:=by
 have E:l.length=3:=by rw[w];simp[B]
 intro s;induction s with
 | nil=>
  rintro k i a H hs hk rfl h0 h1 hv h4 hF;obtain rfl:=drop_nil hs hk;refine yi _ _ _ _ _ _ _ _ λg=>?_;have G:a=DR b:=hv;subst G;subst q;have R:(H.get ⟨0,4,0,0⟩).isSome=true:=by rw[h4];rfl
  have y:0<=uK b:=yH 0 (by omega) _;have D:0<=DR b:=yH 0 (by omega) _;have U:=Yp y D;have o:=DH f (Sl.mk 1 (aK (tl (uK b) (DR b))));have S:=f.r;have n : ∀xo yo,bZ env.P .rem 3 xo yo (some (.v (.int .i64 (uK b)))) (some (.v (.int .i64 2)))=some (aI (uK b % 2),[]):=(by intro xo yo;have:=jg (P:=env.P) (t:=3) (xo:=xo) (yo:=yo) (k := .i64) (a:=uK b) (b:=2) (by omega);rw[Aj y]at this;exact this);have I : ∀xo yo,bZ env.P .rem 3 xo yo (some (aI (uK b))) (some (.v (.int .i64 2)))=some (aI (uK b % 2),[]):=n;unfold yO at u;generalize uK b=gb at *;generalize DR b=nb at *;have hd:decide (b=tl gb nb)=true\/decide (b=tl gb nb)=false:=by cases decide (b=tl gb nb)<;>simp
  by_cases Y:gb<1;·rw[if_neg (by omega)]at u;clear hd f m;simp[ak, *,jW,aa.ad]
  by_cases W:2147483648<=gb;·rw[if_neg (by omega)]at u;clear hd f m;simp[ak, *,jW,aa.ad]
  by_cases K:gb % 2=slot
  ·rcases hd with hd | hd
   ·have c:b=tl gb nb:=(by simpa using hd);rw[if_pos ⟨by omega,by omega,K,c⟩]at u;rw[hd]at o;clear hd c f m;generalize tl gb nb=mb at *;simp[ak, *,jW,aa.ad]
   have c : ¬b=tl gb nb:=(by simpa using hd);rw[if_neg (λh=>c h.2.2.2)]at u;rw[hd]at o;clear hd c f m;generalize tl gb nb=mb at *;simp[ak, *,jW,aa.ad]
  rw[if_neg (λh=>K h.2.2.1)]at u;clear hd f m;simp[ak, *,jW,aa.ad]
 | cons v s L=>
  rintro k i a H hs hk rfl h0 h1 hv h4 hF;obtain⟨T,hg,C,V⟩:=drop_cons hs;have O:=v.toNat_lt;have X:=rD (k:=k) 6 (by omega);have e:=Gv h0 (by omega) v;have e2:=iQa (a * 256) (by omega);have Z:=iQa ((k:Int)+1) (by omega);have F:=λM=>L (k+1) ((k:Int)+1) (256 * a+v.toNat) M C (by omega) (by simp) (by omega) (by rw[AB];omega) hv;have R:(H.get ⟨0,4,0,0⟩).isSome=true:=by rw[h4];rfl
  clear L u hv;clear q E w;refine yi _ _ _ _ _ _ _ _ λg=>?_;simp[ak, *,jW,yS,m.idx,aa.ad];exact F _ (by simp(maxDischargeDepth:=12) [eR, *]) (by simp(maxDischargeDepth:=12) [eR, *])
theorem PH{m:AV}{l:List UInt8}(G:Sl 1 (aK l) m)(w:l=(b.drop 1).take 4)(D:0<=slot) : ∀(s:List UInt8)(k:Nat)(i a:Int)(H:aa),l.drop k=s->k<=l.length->i=k->0<=a->a<256 ^ k->vp a s=uK b ->
 H.get ⟨0,4,0,0⟩=some ⟨2,[.agg [aI a,aI 0]],false,false⟩->Fr H ->
 cy env Tryz.f115 0 re [(24,aI i),(4,.ptr ⟨0,4,0,0⟩ 0 0),(22,m),(5,x5),(1,aI slot),(23,aI l.length)] H Q:=by
 have y:l.length=4:=by rw[w];simp[B]
 intro s;induction s with
 | nil=>
  rintro k i a H hs hk rfl h0 h1 hv h4 hF;obtain rfl:=drop_nil hs hk;refine Al _ _ _ _ _ _ _ _ λg=>?_;have F:a=uK b:=hv;obtain⟨z,L,c⟩:=zL (P:=env.P) (t:=76) (z:=1) (by kernel_rfl) f (lo:=5) (hi:=8) (by omega) (by omega) (by simp;omega);have o:((aK b).drop (5:Int).toNat).take ((8:Int).toNat - (5:Int).toNat)=aK ((b.drop 5).take 3):=by simp[aK]
  rw[o]at c;have h:((b.drop 5).take 3).length=3:=by simp[B]
  have n:=PG f B u c rfl D F ((b.drop 5).take 3) 0 0 0 H rfl (by omega) rfl (by omega) (by simp) rfl h4 hF;rw[h]at n;have C:=c.len;rw[gM,h]at C;clear u f G c o h;simp[ak, *,vd];exact n
 | cons v s I=>
  rintro k i a H hs hk rfl h0 h1 hv h4 hF;obtain⟨M,U,q,N⟩:=drop_cons hs;have K:=v.toNat_lt;have O:=rD (k:=k) 6 (by omega);have e:=Gv h0 (by omega) v;have T:=iQa (a * 256) (by omega);have S:=iQa ((k:Int)+1) (by omega);have E:=λJ=>I (k+1) ((k:Int)+1) (256 * a+v.toNat) J q (by omega) (by simp) (by omega) (by rw[AB];omega) hv;have R:(H.get ⟨0,4,0,0⟩).isSome=true:=by rw[h4];rfl
  clear I u hv;clear y w;refine Al _ _ _ _ _ _ _ _ λg=>?_;simp[ak, *,vd,yS,G.idx,aa.ad];exact E _ (by simp(maxDischargeDepth:=12) [eR, *]) (by simp(maxDischargeDepth:=12) [eR, *])
end
def Dk.mark(d:Dk)(slot:Int):Int × Int:=yO (d.rd (6144+slot)) slot
def Dk.cur(d:Dk):Int × Int:=if (d.mark 1).1<(d.mark 0).1 then d.mark 0 else d.mark 1
def VD(b:List UInt8)(slot:Int):0<=(yO b slot).1/\(yO b slot).1<2147483648/\0<=(yO b slot).2/\(yO b slot).2<=16777215:=by
 unfold yO;split
 ·rename_i h;have a:0<=DR b:=yH 0 (by omega) _;have c:DR b<256 ^ (0+((b.drop 5).take 3).length):=CS ((b.drop 5).take 3) 0 (by omega) 0 (by decide);have w:((b.drop 5).take 3).length<=3:=by simp;omega
  have:=rD (k:=0+((b.drop 5).take 3).length) 3 (by omega);exact⟨by show 0<=uK b;omega,h.2.1,a,by show DR b<=_;omega⟩
 simp
def IS(d:Dk):0<=d.cur.1/\d.cur.1<2147483648/\0<=d.cur.2/\d.cur.2<=16777215:=by
 unfold Dk.cur;split<;>exact VD _ _
def ZT(a b c e:AV):oK env.P 178 (some [(0,.agg [a,b]),(1,.agg [c,e])])=some (.agg [a,b,c,e],[]):=by
 have i:fk env.P 178=some (.agg [aI 0,aI 0,aI 0,aI 0]):=by kernel_rfl
 have h:mf env.P 178=some (2,27):=by kernel_rfl
 have g:aV env.P 27=some 2:=by kernel_rfl
 unfold oK;rw[i];simp only[h,g];rfl
section
variable{d:Dk}(j:d.vm)
include j
theorem Rc(k:d.may=true){slot:Int}(o:0<=slot/\slot<=1):ay env 115 [d.val,aI slot]=some (.agg [aI (d.mark slot).1,aI (d.mark slot).2]):=by
 refine aH rfl (by kernel_rfl) (Jk _ _ _ _ λg=>?_);have D:=iQa (6144+slot) (by omega);have E:=abX j k (q:=6144+slot) (by omega);have c:=PJ k (6144+slot);unfold Dk.mark;generalize d.rd (6144+slot)=b at *;have f:=Sl.mk 1 (aK b);obtain⟨z,C,a⟩:=zL (P:=env.P) (t:=76) (z:=1) (by kernel_rfl) f (lo:=1) (hi:=5) (by omega) (by omega) (by simp;omega);have i:((aK b).drop (1:Int).toNat).take ((5:Int).toNat - (1:Int).toNat)=aK ((b.drop 1).take 4):=by simp[aK]
 rw[i]at a;have e:((b.drop 1).take 4).length=4:=by simp[c]
 have h:=λH=>PH f c (slot:=slot) (Q:=λv H=>ed env 115 v H (.agg [aI (yO b slot).1,aI (yO b slot).2])) (λH=>by simp) a rfl o.1 ((b.drop 1).take 4) 0 0 0 H rfl (by omega) rfl (by omega) (by simp) rfl;rw[e]at h;have n:=a.len;rw[gM,e]at n;have s:=j.sl.r;clear j k f a i e;obtain⟨l,y,st,lf,dd⟩:=d;simp only[Dk.val,dR]at *;generalize yO b slot=m at *;simp[ak, *,CE,aa.ad];exact h _ (by simp(maxDischargeDepth:=12) [eR, *]) (by simp(maxDischargeDepth:=12) [eR, *])
theorem SQ:ay env 73 [d.val]=some (if d.may then .tup [.agg [aI d.cur.1,aI d.cur.2],aI 0] else .tup [.agg [aI 0,aI 0],aI 8]):=by
 refine aH rfl (by kernel_rfl) (EK _ _ _ λg=>?_);have a:=DG j;have e:=j.sl.r;cases hm:d.may with
 | false=>rw[hm]at a;clear j hm;obtain⟨l,y,st,lf,dd⟩:=d;simp only[Dk.val,dR,gB,iQe]at *;simp[ak, *,pK,aa.ad]
 | true=>
  rw[hm]at a;have i:=Rc j hm (slot:=0) (by omega);have k:=Rc j hm (slot:=1) (by omega);simp only[if_true];unfold Dk.cur;have c:=ZT;generalize d.mark 0=m0 at *;generalize d.mark 1=m1 at *;clear j hm;obtain⟨l,y,st,lf,dd⟩:=d;simp only[Dk.val,dR,if_true]at *;by_cases h:m1.1<m0.1;·rw[if_pos h];simp[ak, *,pK,aa.ad]
  rw[if_neg h];simp[ak, *,pK,aa.ad]
def Dk.sC(d:Dk):List dY:=(eC d ((1+d.cur.1 % 2) * 2048) 0 d.cur.2 2049 0 0).1
def Ry(d:Dk):AV:=if (d.sC.length:Int)=d.cur.2 then .tup [cK 24 (ao (cX d.sC)),.agg [aI d.cur.1,aI d.cur.2],aI 0] else .tup [aY,.agg [aI 0,aI 0],aI 8]
theorem Vt:ay env 46 [d.val]=some (if d.may then Ry d else .tup [aY,.agg [aI 0,aI 0],aI 8]):=by
 refine aH rfl (by kernel_rfl) (Jl _ _ _ λg=>?_);have s:=SQ j;have z:=j.sl.r;cases hm:d.may with
 | false=>rw[hm]at s;clear j hm;obtain⟨l,y,st,lf,dd⟩:=d;simp only[Dk.val,dR,gB,iQe]at *;simp[ak, *,ui,aa.ad]
 | true=>
  rw[hm]at s;have n:=IS d;have i:=LC j hm (area:=1+d.cur.1 % 2) (nu:=0) (most:=d.cur.2) (by omega) (by omega) (by omega);simp only[if_true]at s ⊢;unfold Ry;have D:=iQa (1+d.cur.1 % 2) (by omega);have c : ∀xo yo,bZ env.P .rem 3 xo yo (some (.v (.int .i64 d.cur.1))) (some (.v (.int .i64 2)))=some (aI (d.cur.1 % 2),[]):=(by intro xo yo;have:=jg (P:=env.P) (t:=3) (xo:=xo) (yo:=yo) (k := .i64) (a:=d.cur.1) (b:=2) (by omega);rw[Aj n.1]at this;exact this);have q : ∀xo yo,bZ env.P .rem 3 xo yo (some (aI d.cur.1)) (some (.v (.int .i64 2)))=some (aI (d.cur.1 % 2),[]):=c;rw[show eC d ((1+d.cur.1 % 2) * 2048) 0 d.cur.2 2049 0 0=(d.sC,(eC d ((1+d.cur.1 % 2) * 2048) 0 d.cur.2 2049 0 0).2) from rfl]at i;generalize (eC d ((1+d.cur.1 % 2) * 2048) 0 d.cur.2 2049 0 0).2=nx at *;have e:=(gZ 24 (ao (cX d.sC))).r;rw[fl,qE]at e;generalize cK 24 (ao (cX d.sC))=o at *;generalize d.sC.length=C at *;generalize d.cur=m at *;clear j hm;obtain⟨l,y,st,lf,dd⟩:=d;simp only[Dk.val,dR,if_true]at *;by_cases h:(C:Int)=m.2;·rw[if_pos h];simp[ak, *,ui,aa.ad]
  rw[if_neg h];simp[ak, *,ui,aa.ad]
end
end
section
structure Eqv (d e:Dk):Prop where
 rd : ∀q,d.rd q=e.rd q
 lf:d.lf=e.lf
 dd:d.dd=e.dd
 st:d.st=e.st
def Eqv.refl(d:Dk):Eqv d d:=⟨λ_=>rfl,rfl,rfl,rfl⟩
def Eqv.trans{a b c:Dk}(h:Eqv a b)(g:Eqv b c):Eqv a c:=⟨λq=>(h.rd q).trans (g.rd q),h.lf.trans g.lf,h.dd.trans g.dd,h.st.trans g.st⟩
end
section
attribute [local simp] aN aG ar aD aC bT kp aP ax aJ bG bF aX aO af a9 dM
@[simp] def afd(g:dv)(r:Ref):eD env.P false g r .cap #[25] [aY]=some (aI 0,[]):=by kernel_rfl
def Vw:ay env 80 [aY,aI 0]=some aY:=by
 refine aH rfl (by kernel_rfl) (eJ _ _ _ _ λg=>?_);simp[ak, *,cN]
def YG(n:Int)(b:0<n)(j:n<100000):ay env 80 [aY,aI n]=some (.fsl 24 [] none):=by
 refine aH rfl (by kernel_rfl) (eJ _ _ _ _ λg=>?_);have i : ¬n<0:=by omega
 have e:=iQa n (by omega);have h:IntKind.i64.wrap 0=0:=rfl;have a:n<=140737488355328:=by omega
 have k:n.toNat<=140737488355328:=by omega
 have c:0<n.toNat:=by omega
 have z:=F3 (P:=env.P) (t:=25) (t':=3) (by simp) (by simp) (by kernel_rfl) true [] ⟨0,22,0,0⟩ n b a (by simp;omega);simp[ak, *,cN, -z];refine rm z ?_;simp;all_goals omega
def Vz{a b:List (dY × AV)}{O L:AV}(P:Sl 24 (ao a) O)(N:Sl 24 (ao b) L)(W:a.length<10000)(Y:b.length<10000):ay env 50 [.bE 1 [O,L] (some 2)]=some (cK 24 (ao (a++b))):=by
 refine aH rfl (by kernel_rfl) (jc _ _ _ λg=>?_);have j:ao (a++b)=ao a++ao b:=by simp[ao]
 have I:=P.r;have w:=N.r;have u:=P.kI;have v:=N.kI;have V:=iQa (a.length:Int) (by omega);have e2:=iQa ((a.length:Int)+b.length) (by omega);have g0:=Vw;have w0:IntKind.i64.wrap 0=0:=rfl;have n1 : ¬(a.length:Int)<0:=by omega
 have n2 : ¬(a.length:Int)+b.length<0:=by omega
 rw[j];rw[fl]at I w;simp[ak, *,ek];refine cz _ _ _ _ _ _ _ λg=>?_;simp[ak, *,bj];refine cz _ _ _ _ _ _ _ λg=>?_;simp[ak, *,bj];refine cz _ _ _ _ _ _ _ λg=>?_;have q : ∀l:List (dY × AV),l≠[]->ao l≠[]:=λl h e=>h (by simpa [ao] using e);have k:(ao a).length=a.length:=fl a;have o:(ao b).length=b.length:=fl b;by_cases t:a=[]/\b=[]
 ·obtain⟨rfl,rfl⟩:=t;clear I w k o q n1 n2 V e2 u v j W Y;rcases P with ⟨rfl,_⟩ | ⟨c,rfl,hc⟩<;>rcases N with ⟨rfl,_⟩ | ⟨c',rfl,Z⟩
  all_goals
   simp[ak, *,bj,ao]
   refine bf _ _ _ _ _ _ λg=>?_
   simp[ak, *,ae]
   refine bf _ _ _ _ _ _ λg=>?_
   simp[ak, *,ae]
   refine bf _ _ _ _ _ _ λg=>?_
   simp[ak, *,ae,cK]
 have hp:0<(a.length:Int)+b.length:=by
  by_cases U:a=[];·have:b≠[]:=λh=>t ⟨U,h⟩;have:=yd.2 this;omega
  have:=yd.2 U;omega
 have hG:=YG ((a.length:Int)+b.length) hp (by omega);have n:ao a++ao b≠[]:=(by intro e;have:=iQf List.length e;rw[iX,k,o,lE]at this;omega);rw[ji 24 n];have f1:kJ 24 160 0 true none (some ⟨24,[],true,false⟩) (some (ao a)):=by rw[ax];exact⟨rfl,rfl,.inr ⟨by simp;omega,rfl⟩⟩
 have R:kJ 24 160 0 true none (some ⟨24,[],true,false⟩) (some (ao b)):=by rw[ax];exact⟨rfl,rfl,.inr ⟨by simp;omega,rfl⟩⟩
 have T:kJ 24 160 a.length true none (some ⟨24,ao a,true,false⟩) (some (ao b)):=by rw[ax,k];exact⟨rfl,rfl,.inr ⟨by simp;omega,rfl⟩⟩
 simp[ak, *,bj];refine bf _ _ _ _ _ _ λg=>?_;have step:=λ(H:aa)(Q:AV->aa->Prop)(i:Int)(X:AV)=>bf (aI i) X (.bE 1 [O,L] (some 2)) (aI 2) H Q;by_cases S:a=[];·subst S;have J:b≠[]:=λh=>t ⟨rfl,h⟩;have nb:=q b J;have M:ao []=[]:=rfl;rw[M]at u j ⊢;clear t n hp q j f1 T k;simp only[lE,Dp,KL]at *;generalize ao b=B at *;simp[ak, *,ae];refine step _ _ _ _ λg=>?_;simp[ak, *,ae];refine step _ _ _ _ λg=>?_;simp[ak, *,ae]
 have nA:=q a S;by_cases J:b=[];·subst J;have K:ao []=[]:=rfl;rw[K]at v j ⊢;clear t n hp q j R T o;simp only[lE,Dp,AG,tg]at *;generalize ao a=A at *;simp[ak, *,ae];refine step _ _ _ _ λg=>?_;simp[ak, *,ae];refine step _ _ _ _ λg=>?_;simp[ak, *,ae]
 have nb:=q b J;clear t n hp q j R;generalize ao a=A at *;generalize ao b=B at *;simp[ak, *,ae];refine step _ _ _ _ λg=>?_;simp[ak, *,ae];refine step _ _ _ _ λg=>?_;simp[ak, *,ae]
def SP{s t:fH}(b:fM s)(c:fM t):ay env 86 [.agg [aI s.pos,s.av],.agg [aI t.pos,t.av]]=some (aB (decide (s.pos=t.pos)&&decide (s.bs=t.bs))):=by
 refine aH rfl (by kernel_rfl) (Hw _ _ _ _ λg=>?_);have h:=DH b c;have i:=b.r;have j:=c.r;by_cases e:s.pos=t.pos;·have a:decide (s.pos=t.pos)=true:=iQi e;rw[a,ig];simp[ak, *,wD]
 have a:decide (s.pos=t.pos)=false:=iQh e;rw[a,oY];simp[ak, *,wD]
section
variable{l m:List fH}{x y:AV}(F:Sl 2 (bt l) x)(E:Sl 2 (bt m) y)(D : ∀s∈l,fM s)(z : ∀s∈m,fM s)(C:l.length<1000000)
include F E D z C
theorem WU(j:l.length=m.length){Q:AV->aa->Prop} : ∀(s t:List fH)(k:Nat)(i:Int)(H:aa),l.drop k=s->m.drop k=t->k<=l.length->i=k->Fr H->(∀a,Q (aB (decide (dV s=dV t))) a) ->
 cy env Tryz.f88 0 az [(17,aI i),(2,.fn (.func 86) [] []),(1,y),(15,x),(16,aI l.length)] H Q:=by
 intro s;induction s with
 | nil=>rintro t k i H hs ht v rfl hF hQ;obtain rfl:=drop_nil hs v;rw[j,Ex]at ht;subst ht;rw[iQi rfl]at hQ;refine bp _ _ _ _ _ _ _ λg=>?_;clear D z;simp[ak, *,aE]
 | cons p s R=>
  rintro t k i H hs ht v rfl hF hQ;obtain⟨Z,hg,I,K⟩:=drop_cons hs;have O:k<m.length:=by omega
  obtain⟨q,t',rfl⟩ : ∃q t',t=q :: t':=by
   cases t with| nil=>have:=iQf List.length ht;simp at this;omega| cons q t'=>exact⟨q,t',rfl⟩
  obtain⟨_,M,B,w⟩:=drop_cons ht;have o:=D p (hg ▸ fj _);have u:=z q (M ▸ fj _);have S:=SP o u;have e3:=iQa ((k:Int)+1) (by omega);have c:=λa=>R t' (k+1) ((k:Int)+1) a I B (by omega) (by simp);have X:=o.r;have V:=u.r;have T:bP (bt l) k 0 2 true=some (.agg [aI p.pos,p.av]):=by simp[bt,K,fH.enc]
  have U:bP (bt m) k 0 2 true=some (.agg [aI q.pos,q.av]):=(by simp[bt,w,fH.enc]);have hkl:(k:Int)<m.length:=(by omega);have P:(k:Int)<l.length:=(by omega);have v:dV (p :: s)=(p.pos,p.bs) :: dV s:=rfl;have A:dV (q :: t')=(q.pos,q.bs) :: dV t':=rfl;rw[v,A]at hQ;clear R D z v A;refine bp _ _ _ _ _ _ _ λg=>?_;by_cases e:p.pos=q.pos/\p.bs=q.bs;·have n:(decide (p.pos=q.pos)&&decide (p.bs=q.bs))=true:=(by simp[e]);have b:=λa N=>c a N (λL=>by have:=hQ L;simpa [e] using this);rw[n]at S;clear c hQ e n;rw[j]at b;simp[ak, *,aE,F.idx,E.idx];exact b _ (by simp(maxDischargeDepth:=12) [eR, *])
  have n:(decide (p.pos=q.pos)&&decide (p.bs=q.bs))=false:=by
   by_cases J:p.pos=q.pos;·have W : ¬p.bs=q.bs:=λh=>e ⟨J,h⟩;simp[J,W]
   simp[J]
  have Y : ∀a,Q (aB false) a:=λa=>by
   have:=hQ a;rw[iQh (λh=>e (by simpa using (List.cons.inj h).1))]at this;exact this
  rw[n]at S;clear c hQ e n;simp[ak, *,aE,F.idx,E.idx]
theorem agk:ay env 88 [x,y,.fn (.func 86) [] []]=some (aB (decide (dV l=dV m))):=by
 refine aH rfl (by kernel_rfl) (cZ _ _ _ _ _ λg=>?_);have b:=F.r;have e:=E.r;rw[za]at b e;by_cases a:l.length=m.length;·have h:=WU F E D z C a (Q:=λv H=>ed env 88 v H (aB (decide (dV l=dV m)))) l m 0 0 [] rfl rfl (by omega) rfl (by simp(maxDischargeDepth:=12) [Gk, *]) (λj=>by simp);rw[a]at h b;clear D z;simp[ak, *,aT];exact h
 have i : ¬(l.length:Int)=m.length:=by omega
 have c:decide (dV l=dV m)=false:=iQh λh=>a (by have:=iQf List.length h;simpa [dV] using this);rw[c];clear D z;simp[ak, *,aT]
end
def YK{d e:Dk}(hd:d.vm)(a:e.vm):ay env 53 [d.val,e.val]=some (aB (decide (dV d.l=dV e.l)&&(decide (d.st=e.st)&&(decide (d.lf=e.lf)&&decide (d.dd=e.dd))))):=by
 refine aH rfl (by kernel_rfl) (Lq _ _ _ _ λg=>?_);have h:=agk hd.sl a.sl hd.ok a.ok (by have:=hd.len;omega);have j:=hd.sl.r;have i:=a.sl.r;clear hd a;obtain⟨l,x,st,lf,dd⟩:=d;obtain⟨m,y,st',lf',dd'⟩:=e;simp only[Dk.val,dR]at *;generalize decide (dV l=dV m)=kb at *;cases kb with
 | false=>simp[ak, *,sP]
 | true=>
 by_cases b:st=st'
 ·subst b;by_cases c:lf=lf';·subst c;cases dd<;>cases dd'<;>simp[ak, *,sP]
  simp[ak, *,sP]
 simp[ak, *,sP]
def Yv{p q:dY × AV}(hp:oX p)(hq:oX q):ay env 55 [p.1.val p.2,q.1.val q.2]=some (aB (my p.1 q.1)):=by
 obtain⟨⟨k,u,⟨M,⟨Z,a_3,L⟩,O,⟨⟨⟨Y,V,R⟩,U⟩,I⟩,⟨⟨b,h,J⟩,H⟩,⟨n,B⟩,l⟩,c,g,v,w,o⟩,x⟩:=p;obtain⟨⟨k',u',⟨X,⟨b_2,b_3,T⟩,P,⟨⟨⟨Q,W,N⟩,S⟩,i⟩,⟨⟨e,A,K⟩,j⟩,⟨t,a⟩,m⟩,c',g',v',w',o'⟩,y⟩:=q;exact Ka k k' u u' M Z a_3 L O Y V R U I b h J H n B X b_2 b_3 T P Q W N S i e A K j t a c c' g g' v v' w w' o o' hp.1 hq.1 (by have:=hp.2;simp at this;omega)
section
variable{l m:List (dY × AV)}{x y:AV}(F:Sl 24 (ao l) x)(E:Sl 24 (ao m) y)(D : ∀p∈l,oX p)(z : ∀p∈m,oX p)(C:l.length<1000000)
include F E D z C
theorem WV(o:l.length=m.length){Q:AV->aa->Prop} : ∀(s t:List (dY × AV)) (k:Nat) (i:Int) (H:aa),l.drop k=s->m.drop k=t->k<=l.length->i=k->Fr H->(∀c,Q (aB (o8 (Aw s) (Aw t))) c) ->
 cy env Tryz.f54 0 aA [(17,aI i),(2,.fn (.func 55) [] []),(1,y),(15,x),(16,aI l.length)] H Q:=by
 intro s;induction s with
 | nil=>rintro t k i H hs ht hk rfl hF hQ;obtain rfl:=drop_nil hs hk;rw[o,Ex]at ht;subst ht;refine bq _ _ _ _ _ _ _ λg=>?_;simp only[Aw,iQU,o8]at hQ;clear D z;simp[ak, *,aF]
 | cons p s O=>
  rintro t k i H hs ht hk rfl hF hQ;obtain⟨S,V,B,I⟩:=drop_cons hs;have M:k<m.length:=by omega
  obtain⟨q,t',rfl⟩ : ∃q t',t=q :: t':=by
   cases t with| nil=>have:=iQf List.length ht;simp at this;omega| cons q t'=>exact⟨q,t',rfl⟩
  obtain⟨_,J,A,v⟩:=drop_cons ht;have b:=D p (V ▸ fj _);have n:=z q (J ▸ fj _);have U:=Yv b n;have W:=iQa ((k:Int)+1) (by omega);have h:=λc=>O t' (k+1) ((k:Int)+1) c B A (by omega) (by simp);have R:=b.1.r;have P:=n.1.r;have u:bP (ao l) k 0 24 true=some (p.1.val p.2):=by simp[ao,I,dY.val]
  have w:bP (ao m) k 0 24 true=some (q.1.val q.2):=(by simp[ao,v,dY.val]);have T:(k:Int)<m.length:=(by omega);have N:(k:Int)<l.length:=(by omega);have j : ∀c,Q (aB (my p.1 q.1&&o8 (Aw s) (Aw t'))) c:=hQ;clear O D z hQ b n;unfold dY.val at U u w;generalize my p.1 q.1=e at *;refine bq _ _ _ _ _ _ _ λg=>?_;cases e with
  | true=>have a:=λc L=>h c L (λK=>by have:=j K;rw[ig]at this;exact this);clear h j;rw[o]at a;simp[ak, *,aF,F.idx,E.idx];exact a _ (by simp(maxDischargeDepth:=12) [eR, *])
  | false=>simp only[oY]at j;clear h;simp[ak, *,aF,F.idx,E.idx]
theorem agl:ay env 54 [x,y,.fn (.func 55) [] []]=some (aB (o8 (Aw l) (Aw m))):=by
 refine aH rfl (by kernel_rfl) (da _ _ _ _ _ λg=>?_);have b:=F.r;have c:=E.r;rw[fl]at b c;by_cases a:l.length=m.length;·have h:=WV F E D z C a (Q:=λv H=>ed env 54 v H (aB (o8 (Aw l) (Aw m)))) l m 0 0 [] rfl rfl (by omega) rfl (by simp(maxDischargeDepth:=12) [Gk, *]) (λi=>by simp);rw[a]at h b;clear D z;simp[ak, *,aU];exact h
 have e : ¬(l.length:Int)=m.length:=by omega
 rw[J8 (by simpa using a)];clear D z;simp[ak, *,aU]
end
def NO(d:Dk)(many:Int)(h:Hd):Bool:=decide (d.st<h.st)||(decide (many+1<h.nu)||(decide (h.nu=many+1)&&(decide (h.st=d.st) && !d.dd)))
def sv(d:Dk)(many:Int)(s:fH):Bool:=decide (s.pos<2048)&&(gV s.bs&&NO d many (du s.bs))
def Sr{d:Dk}(f:d.vm){many:Int}(G:0<=many/\many<100000000){s:fH}(j:fM s):ay env 75 [.agg [aI s.pos,s.av],.iptr 4 [d.val] 0 0,.iptr 1 [aI many] 0 0]=some (aB (sv d many s)):=by
 refine aH rfl (by kernel_rfl) (EJ _ _ _ _ _ λg=>?_);have e:=EV j;have q:=j.r;have n:=f.sl.r;have w:=iQa (many+1) (by omega);unfold sv NO;clear f;obtain⟨l,x,st,lf,dd⟩:=d;simp only[Dk.val,dR]at *;cases i:gV s.bs with
 | false=>
  rw[i,if_neg (by decide)]at e;simp only[oY,CN];simp only[Hd.val]at e;clear i;by_cases t:st<0;·by_cases a:s.pos<2048<;>simp[ak, *,iN]
  by_cases k:many+1<0;·omega
  by_cases v:(0:Int)=many+1;·omega
  by_cases a:s.pos<2048<;>simp[ak, *,iN]
 | true=>
  rw[i,if_pos rfl]at e;simp only[ig];generalize du s.bs=h at *;obtain⟨c,b,u,o⟩:=h;simp only[Hd.val]at e;simp only;clear i;by_cases t:st<c;·by_cases a:s.pos<2048<;>simp[ak, *,iN]
  by_cases k:many+1<b;·by_cases a:s.pos<2048<;>simp[ak, *,iN]
  by_cases v:b=many+1
  ·by_cases A:c=st;·by_cases a:s.pos<2048<;>cases dd<;>simp[ak, *,iN]
   by_cases a:s.pos<2048<;>simp[ak, *,iN]
  by_cases a:s.pos<2048<;>simp[ak, *,iN]
section
variable{d:Dk}(f:d.vm){many:Int}(G:0<=many/\many<100000000)
include f G
theorem Zs{Q:AV->aa->Prop}{H:aa} : ∀(s:List fH)(k:Nat)(i:Int),d.l.drop k=s->k<=d.l.length->i=k->(∀j:Int,(0<=j↔s.any (sv d many)=true)->Q (aI j) H) ->
 cy env Tryz.f119 0 bA [(8,aI i),(0,d.x),(1,.fn (.func 75) [] [.iptr 4 [d.val] 0 0,.iptr 1 [aI many] 0 0]),(7,aI d.l.length)] H Q:=by
 intro s;induction s with
 | nil=>rintro k i hs hk rfl hQ;obtain rfl:=drop_nil hs hk;have a:=hQ (-1) (by simp);refine dN _ _ _ _ _ _ λg=>?_;clear hQ f;simp[ak, *,bB];all_goals exact a
 | cons p s h=>
  rintro k i hs hk rfl hQ;obtain⟨B,K,e,o⟩:=drop_cons hs;have hp:=f.ok p (K ▸ fj _);have q:=Sr f G hp;have L:=iQa ((k:Int)+1) (by have:=f.len;omega);have I:bP (bt d.l) k 0 2 true=some (.agg [aI p.pos,p.av]):=by simp[bt,o,fH.enc]
  have J:(k:Int)<d.l.length:=(by omega);have w:=hp.r;have t:=f.sl.r;have c:=f.sl;have u : ∀g n,view g (n+2) d.val=some d.val:=(by intro g n;have:=f.sl.r;obtain⟨l,x,st,lf,dd⟩:=d;simp only[Dk.val,dR]at *;simp[this]);refine dN _ _ _ _ _ _ λg=>?_;cases b:sv d many p with
  | true=>have a:=hQ (k:Int) (by simp[b]);rw[b]at q;clear h hQ b f;obtain⟨l,x,st,lf,dd⟩:=d;simp only[Dk.val,dR]at *;simp[ak, *,bB,c.idx];all_goals exact a
  | false=>have A:=h (k+1) ((k:Int)+1) e (by omega) (by simp) (λj v=>hQ j (by simpa [b] using v));rw[b]at q;clear h hQ b f;obtain⟨l,x,st,lf,dd⟩:=d;simp only[Dk.val,dR]at *;simp[ak, *,bB,c.idx]
theorem Px:ay env 77 [d.x,.fn (.func 75) [] [.iptr 4 [d.val] 0 0,.iptr 1 [aI many] 0 0]]=some (aB (d.l.any (sv d many))):=by
 refine aH rfl (by kernel_rfl) (ia _ _ _ _ λg=>?_);have e : ∃y,ay env 119 [d.x,.fn (.func 75) [] [.iptr 4 [d.val] 0 0,.iptr 1 [aI many] 0 0]]=some y /\∃j:Int,y=aI j/\(0<=j↔d.l.any (sv d many)=true):=by
  refine Ix (fn:=Tryz.f119) (c:=iy) (by kernel_rfl) (by kernel_rfl) (by kernel_rfl) (by kernel_rfl) (by kernel_rfl) ?_;refine iw _ _ _ _ λg=>?_;have D:=Zs f G (Q:=λx H =>∃y,ed env 119 x H y /\∃j:Int,y=aI j/\(0<=j↔d.l.any (sv d many)=true)) (H:=[]) d.l 0 0 rfl (by omega) rfl (λj a=>⟨aI j,by simp,j,rfl,a⟩);have i:=f.sl.len;rw[za]at i;clear f;generalize d.l.any (sv d many)=b at *;simp[ak, *,dU];exact D
 obtain⟨y,q,j,rfl,a⟩:=e;have n:=f.sl.r;have k:d.l.any (sv d many)=decide (0<=j):=by
  cases h:d.l.any (sv d many) with| true=>rw[h]at a;exact(iQi (a.2 rfl)).symm| false=>rw[h]at a;exact(iQh (λo=>by cases a.1 o)).symm
 rw[k];clear f a k;obtain⟨l,x,st,lf,dd⟩:=d;simp only[Dk.val,dR]at *;simp[ak, *,dJ]
theorem Rd:ay env 48 [d.val,aI many]=some (aB (!d.l.any (sv d many))):=by
 refine aH rfl (by kernel_rfl) (Hj _ _ _ _ λg=>?_);have h:=Px f G;have a:=f.sl.r;generalize d.l.any (sv d many)=b at *;clear f;obtain⟨l,x,st,lf,dd⟩:=d;simp only[Dk.val,dR]at *;simp[ak, *,Bn]
end
def vi(d:Dk)(ro:AV)(g k at':Int):AV := .agg [d.x,aI d.st,aI d.lf,aB d.dd,ro,aI g,aI k,aI at']
def lC:AV := .agg [aY,aI 0,aI 0,aB false,aY,aI 0,aI 0,aI 0]
def Dk.ud(d:Dk):List dY × Int:=eC d 0 d.cur.2 2048 2049 0 0
def Dk.all(d:Dk):List dY:=d.sC++d.ud.1
def ND(d:Dk):Int:=if d.may then (if d.st<1 then 2 else if (d.sC.length:Int)=d.cur.2 then (if d.l.any (sv d (d.cur.2+d.ud.1.length)) then 8 else 0) else 8) else 8
def ofA(d:Dk):AV:=if ND d=0 then .tup [vi d.tw (cK 24 (ao (cX d.all))) d.cur.1 d.cur.2 d.ud.2,aI 0] else .tup [lC,aI (ND d)]
def LW(d:Dk):(∀r∈d.sC,r.op.l.length<1000000)/\d.sC.length<=2049:=Q9 2049 0 0
def LS(d:Dk):(∀r∈d.ud.1,r.op.l.length<1000000)/\d.ud.1.length<=2049:=Q9 2049 0 0
def ajH{d:Dk}(a:d.vm):ay env 13 [d.val]=some (ofA d):=by
 refine aH rfl (by kernel_rfl) (MG _ _ _ λg=>?_);have q:=DG a;have v:=a.sl.r;unfold ofA ND;cases hm:d.may with
 | false=>rw[hm]at q;clear a hm;obtain⟨l,x,st,lf,dd⟩:=d;simp only[Dk.val,dR,lC,gB,iQe,show ¬(8:Int)=0 by decide]at *;simp[ak, *,rP,aa.ad]
 | true=>
  rw[hm]at q;simp only[if_true]at q ⊢;by_cases i:d.st<1;·simp only[if_pos i,show ¬(2:Int)=0 by decide,iQe];clear a hm;obtain⟨l,x,st,lf,dd⟩:=d;simp only[Dk.val,dR,lC]at *;simp[ak, *,rP,aa.ad]
  simp only[if_neg i];have k:=Vt a;rw[hm,if_pos rfl]at k;unfold Ry at k;by_cases c:(d.sC.length:Int)=d.cur.2
  ·rw[if_pos c]at k;simp only[if_pos c];have o:=IS d;have A:=LC a hm (area:=0) (nu:=d.cur.2) (most:=2048) (by omega) (by omega) (by omega);rw[iQV,show eC d 0 d.cur.2 2048 2049 0 0=d.ud from rfl]at A;have p:=LS d;have n:=LW d;have C:=iQa (d.cur.2+d.ud.1.length) (by omega);have B:=Rd a (many:=d.cur.2+d.ud.1.length) (by omega);have f:=gZ 24 (ao (cX d.sC));have h:=gZ 24 (ao (cX d.ud.1));have j:=gZ 24 (ao (cX d.all));have r1:=f.r;have r2:=h.r;have r3:=j.r;rw[fl,qE]at r1 r2 r3;have e:=Vz f h (by rw[qE];omega) (by rw[qE];omega);rw[show cX d.sC++cX d.ud.1=cX d.all by simp[cX,Dk.all]]at e;have y:=Rj (st:=d.st) (lf:=d.lf) (dd:=d.dd) a.sl a.ok (zW d.l (-1) (vu hm)) (by have:=a.len;omega);have s:=Dz a.sl;have w:cK 24 (ao (cX d.sC))=aY \/∃es,cK 24 (ao (cX d.sC)) = .bE 24 es none:=by
    unfold cK;split;·exact .inl rfl
    exact .inr ⟨_,rfl⟩
   have u:cK 24 (ao (cX d.ud.1))=aY \/∃es,cK 24 (ao (cX d.ud.1)) = .bE 24 es none:=by
    unfold cK;split;·exact .inl rfl
    exact .inr ⟨_,rfl⟩
   have t:cK 24 (ao (cX d.all))=aY \/∃es,cK 24 (ao (cX d.all)) = .bE 24 es none:=by
    unfold cK;split;·exact .inl rfl
    exact .inr ⟨_,rfl⟩
   generalize cK 24 (ao (cX d.sC))=o1 at *;generalize cK 24 (ao (cX d.ud.1))=o2 at *;generalize cK 24 (ao (cX d.all))=o3 at *;generalize d.ud.2=at' at *;clear p n;generalize d.ud.1.length=ml at *;generalize d.sC.length=ll0 at *;generalize d.cur=m at *;generalize d.l.any (sv d (m.2+ml))=b at *;clear hm f h j c o;cases b with
   | true=>simp only[if_true,show ¬(8:Int)=0 by decide,iQe];clear a y s e r3 t;obtain⟨l,x,st,lf,dd⟩:=d;simp only[Dk.val,dR,lC]at *;simp[ak, *,rP,aa.ad]
   | false=>simp only[gB,iQe,if_true];clear a;obtain⟨l,x,st,lf,dd⟩:=d;simp only[Dk.val,Dk.tw,dR,lC,vi]at *;generalize OJ x l=Y at *;clear w u;rcases s with ⟨rfl,z⟩ | rfl | ⟨rfl,z⟩<;>simp only[vw]<;>rcases t with rfl | ⟨es,rfl⟩<;>simp[ak, *,rP,aa.ad]
  rw[if_neg c]at k;simp only[if_neg c,show ¬(8:Int)=0 by decide,iQe];clear a hm c;obtain⟨l,x,st,lf,dd⟩:=d;simp only[Dk.val,dR,lC]at *;simp[ak, *,rP,aa.ad]
def tK(d e:Dk):Bool:=decide (dV d.l=dV e.l)&&(decide (d.st=e.st)&&(decide (d.lf=e.lf)&&decide (d.dd=e.dd)))
section
variable{d e:Dk}(hd:d.vm)(n:e.vm){a b:List (dY × AV)}{u v:AV}(o:Sl 24 (ao a) u)(t:Sl 24 (ao b) v)(q : ∀p∈a,oX p)(s : ∀p∈b,oX p)(w:a.length<1000000)
include hd n o t q s w
theorem M4(g1 k at' B A z:Int):ay env 22 [vi d u g1 k at',vi e v B A z]=some (aB (tK d e&&(o8 (Aw a) (Aw b)&&((decide (g1=B)&&decide (k=A))&&decide (at'=z))))):=by
 refine aH rfl (by kernel_rfl) (Jj _ _ _ _ λg=>?_);have h:=YK hd n;have E:=agl o t q s w;have I:=hd.sl.r;have C:=n.sl.r;have J:=o.r;have G:=t.r;unfold tK;clear hd n q s;generalize (decide (dV d.l=dV e.l)&&(decide (d.st=e.st)&&(decide (d.lf=e.lf)&&decide (d.dd=e.dd))))=b1 at *;generalize o8 (Aw a) (Aw b)=b2 at *;obtain⟨l,x,st,lf,dd⟩:=d;obtain⟨m,y,st',lf',dd'⟩:=e;simp only[Dk.val,dR,vi]at *;cases b1 with
 | false=>simp[ak, *,oG,mV,fN]
 | true=>
 cases b2 with| false=>simp[ak, *,oG,mV,fN]| true=>
  by_cases D:g1=B
  ·by_cases F:k=A;·by_cases H:at'=z<;>simp[ak, *,oG,mV,fN]
   simp[ak, *,oG,mV,fN]
  simp[ak, *,oG,mV,fN]
end
def Mj(d:Dk):(∀r∈d.all,r.op.l.length<1000000)/\d.all.length<=4098:=by
 have m:=LW d;have g:=LS d;refine⟨λr x=>?_,by unfold Dk.all;rw[iX];omega⟩;rcases mS.1 x with h | h
 ·exact m.1 r h
 exact g.1 r h
section
variable{d:Dk}(f:d.vm){R:List (dY × AV)}{ro:AV}(c:Sl 24 (ao R) ro)(i : ∀p∈R,oX p)(j:R.length<1000000)(g1 k at':Int)
include f c i j
omit i j in
theorem YJ:ay env 20 [vi d ro g1 k at']=some (aI d.st):=by
 refine aH rfl (by kernel_rfl) (Hk _ _ _ λg=>?_);have h:=f.sl.r;have m:=c.r;clear f c;obtain⟨l,x,st,lf,dd⟩:=d;simp only[vi]at *;simp[ak, *,Bo]
end
def agq{d:Dk}(f:d.may=true)(q:Int):TP d.l q=d.rd q:=ahE q d.l (-1) (vu f)
def agn{d:Dk}(e:d.vm)(f:d.may=true)(q:Int):ay env 171 [d.val,aI q]=some (.bE 1 (aK (d.rd q)) none):=by
 have h:=agc (st:=d.st) (lf:=d.lf) (dd:=d.dd) e.sl e.ok (by have:=e.len;omega) (zW d.l (-1) (vu f)) q;rw[agq f]at h;exact h
section
variable{d:Dk}(e:d.vm)(f:d.may=true){area at':Int}(i:0<=area/\area<=2)(m:0<=at'/\at'<=2048){n:Nat}(o:1<=n/\n<=4)
include e f i m o
theorem Oy{Q:AV->aa->Prop}(s : ∀x9 p,hU [26] 1 (fF (fE d (area * 2048+at') n)) p x9->Q x9 p) : ∀(j k:Nat)(x9:AV)(H:aa),k+j=n->Fr H ->
 H.get ⟨0,4,0,0⟩=some ⟨4,[d.val],false,false⟩->hU [26] 1 (fF (fE d (area * 2048+at') k)) H x9 ->
 cy env Tryz.f163 0 iP [(10,aI k),(2,aI at'),(1,aI area),(4,.ptr ⟨0,4,0,0⟩ 0 0),(9,x9),(3,aI n)] H Q:=by
 have C:=iQa (area * 2048) (by omega);have K:=iQa (area * 2048+at') (by omega);intro j;induction j with
 | zero=>
  rintro k x9 H hk hF h4 hO;obtain rfl:k=n:=by omega
  have z:=s x9 H hO;refine oO _ _ _ _ _ _ _ _ λg=>?_;clear e f s hO;simp[ak, *,iS];done
 | succ j v=>
  rintro k x9 H hk hF h4 hO;have J:=iQa (area * 2048+at'+k) (by omega);have E:=iQa ((k:Int)+1) (by omega);have F:=agn e f (area * 2048+at'+k);have a:(fF (fE d (area * 2048+at') k)).length=k:=by rw[BX,tU]
  have A:(k:Int)<n:=(by omega);have c:=λq p=>v (k+1) q p (by omega);rw[FY,<-Dd,show((k+1:Nat):Int)=(k:Int)+1 from by omega]at c;clear v s;have y:=e.sl.r;generalize d.rd (area * 2048+at'+k)=b at *;have w:=(Sl.mk 1 (aK b)).r;refine oO _ _ _ _ _ _ _ _ λg=>?_;generalize fF (fE d (area * 2048+at') k)=BV at *;clear e f;obtain⟨l,x,st,lf,dd⟩:=d;simp only[Dk.val,dR]at *;have G:(H.get ⟨0,4,0,0⟩).isSome=true:=by rw[h4];rfl
  rcases hO with ⟨rfl,rfl⟩ | ⟨t,B,h,rfl,u⟩
  ·clear a;simp[ak, *,iS];exact c _ _ (by simp(maxDischargeDepth:=12) [eR, *]) (by simp(maxDischargeDepth:=12) [eR, *]) (.inr ⟨26,H.gen 0 26,by simp,by simp,by simp⟩)
  rw[lX]at h;subst h;have I:(H.get ⟨0,26,B,0⟩).isSome=true:=by rw[u];rfl
  have D:kJ 1 24 BV.length true none (some ⟨1,BV,true,false⟩) (some [.bE 1 (aK b) none]):=(by simp;omega);clear a;simp[ak, *,iS];exact c _ _ (by simp(maxDischargeDepth:=12) [eR, *]) (by simp(maxDischargeDepth:=12) [eR, *]) (.inr ⟨26,H.gen 0 26,by simp,by simp,by simp⟩)
theorem Sz:ay env 163 [d.val,aI area,aI at',aI n]=some (.bE 1 (fF (fE d (area * 2048+at') n)) none):=by
 refine aH rfl (by kernel_rfl) (wI _ _ _ _ _ _ λg=>?_);have s:=e.sl.r;have c:(fF (fE d (area * 2048+at') n)).length=n:=by rw[BX,tU]
 have j:=λH=>Oy e f i m o (Q:=λv H=>ed env 163 v H (.bE 1 (fF (fE d (area * 2048+at') n)) none)) (λx9 w q=>by
  generalize fF (fE d (area * 2048+at') n)=BV at *;rcases q with ⟨rfl,rfl⟩ | ⟨t,u,p,rfl,k⟩
  ·simp at c;omega
  simp[k]) n 0 aY H (by omega)
 have h:=λH a b=>j H a b (.inl ⟨rfl,rfl⟩);clear j c e f;generalize fF (fE d (area * 2048+at') n)=BV at *;obtain⟨l,x,st,lf,dd⟩:=d;simp only[Dk.val,dR]at *;simp[ak, *,qi];exact h _ (by simp(maxDischargeDepth:=12) [eR, *]) (by simp(maxDischargeDepth:=12) [eR, *])
end
def sj(d:Dk)(p at' nu:Int):Nat->Nat->Option (dY × Nat)
 | 0,_=>none
 | j+1,many=>if at'+many<=2048 then (match xM (fE d p many) with
  | some (r,h)=>if h.nu=nu then some (r,many) else sj d p at' nu j (many+1)
  | none=>sj d p at' nu j (many+1)) else none
def SC{l:List (List UInt8)}(a:l.length<=4)(c : ∀b∈l,b.length=128):ay env 162 [.bE 1 (fF l) none]=some (Cz l):=by
 have h:=Vn (x0 := .bE 1 (fF l) none) (l:=l.map λb=>(b,JQ b)) (by rw[GC];exact Sl.mk _ _) (GB _) (by simp;omega);rw[Bk]at h;exact h
section
variable{d:Dk}(e:d.vm)(f:d.may=true){area at' nu:Int}(i:0<=area/\area<=2)(m:0<=at'/\at'<=2048)
include e f i m
theorem Nc{Q:AV->aa->Prop} : ∀(j many:Nat)(H:aa),many+j=5->1<=many->Fr H ->
 H.get ⟨0,4,0,0⟩=some ⟨4,[d.val],false,false⟩->H.get ⟨0,8,0,0⟩=some ⟨24,[kg.val aY],false,false⟩ ->
 (∀s,Q (kZ (sj d (area * 2048+at') at' nu j many)) s) ->
 cy env Tryz.f129 0 jk [(8,.ptr ⟨0,8,0,0⟩ 0 0),(10,aI many),(3,aI nu),(2,aI at'),(1,aI area),(4,.ptr ⟨0,4,0,0⟩ 0 0)] H Q:=by
 intro j;induction j with
 | zero=>
  rintro many H hk h1 hF h4 h8 hQ;obtain rfl:many=5:=by omega
  simp only[sj,kZ]at hQ;refine gC _ _ _ _ _ _ _ _ λg=>?_;clear e f;unfold dY.val kg dS at *;have C:(H.get ⟨0,8,0,0⟩).isSome=true:=by rw[h8];rfl
  simp[ak, *,eW,aa.ad];done
 | succ j v=>
  rintro many H hk h1 hF h4 h8 hQ;have D:=iQa (at'+many) (by omega);have F:=iQa ((many:Int)+1) (by omega);have z:(many:Int)<=4:=by omega
  unfold sj at hQ;have C:(H.get ⟨0,8,0,0⟩).isSome=true:=by rw[h8];rfl
  by_cases w:at'+many<=2048
  ·rw[if_pos w]at hQ;have G:=Sz e f i m (n:=many) ⟨h1,by omega⟩;have t:=SC (l:=fE d (area * 2048+at') many) (by rw[tU];omega) (I2 f _ _);have k:=λs=>v (many+1) s (by omega) (by omega);rw[show((many+1:Nat):Int)=(many:Int)+1 from by omega]at k;have A:=e.sl.r;unfold Cz at t;generalize fE d (area * 2048+at') many=B at *;have E:=(Sl.mk 1 (fF B)).r;cases p:xM B with
   | none=>rw[p]at t hQ;simp only at hQ t;have k:=λs a b c=>k s a b c hQ;clear hQ v p e f;unfold zf at t;refine gC _ _ _ _ _ _ _ _ λg=>?_;obtain⟨l,x,st,lf,dd⟩:=d;simp only[Dk.val,dR]at *;unfold dY.val Hd.val kg dS at *;generalize fF B=BV at *;simp[ak, *,eW,aa.ad];exact k _ (by simp(maxDischargeDepth:=12) [eR, *]) (by simp(maxDischargeDepth:=12) [eR, *]) (by simp(maxDischargeDepth:=12) [eR, *])
   | some q=>
    obtain⟨r,h⟩:=q;rw[p]at t hQ;simp only at hQ t;clear v p e f;have y:=(jG r.op.l).r;by_cases u:h.nu=nu;·rw[if_pos u]at hQ;simp only[kZ]at hQ;refine gC _ _ _ _ _ _ _ _ λg=>?_;obtain⟨l,x,st,lf,dd⟩:=d;simp only[Dk.val,dR]at *;unfold dY.val Hd.val at *;unfold kg dS at *;generalize fF B=BV at *;generalize gK r.op.l=ro at *;simp[ak, *,eW,aa.ad];done
    rw[if_neg u]at hQ;have k:=λs a b c=>k s a b c hQ;clear hQ;refine gC _ _ _ _ _ _ _ _ λg=>?_;obtain⟨l,x,st,lf,dd⟩:=d;simp only[Dk.val,dR]at *;unfold dY.val Hd.val at *;unfold kg dS at *;generalize fF B=BV at *;generalize gK r.op.l=ro at *;simp[ak, *,eW,aa.ad];exact k _ (by simp(maxDischargeDepth:=12) [eR, *]) (by simp(maxDischargeDepth:=12) [eR, *]) (by simp(maxDischargeDepth:=12) [eR, *])
  rw[if_neg w]at hQ;simp only[kZ]at hQ;refine gC _ _ _ _ _ _ _ _ λg=>?_;clear e f v;unfold dY.val kg dS at *;simp[ak, *,eW,aa.ad];done
theorem SA:ay env 129 [d.val,aI area,aI at',aI nu]=some (kZ (sj d (area * 2048+at') at' nu 4 1)):=by
 refine aH rfl (by kernel_rfl) (xv _ _ _ _ _ _ λg=>?_);have u:=e.sl.r;have j : ∀t,ed env 129 (kZ (sj d (area * 2048+at') at' nu 4 1)) t (kZ (sj d (area * 2048+at') at' nu 4 1)):=λt=>by
  generalize sj d (area * 2048+at') at' nu 4 1=w;cases w with
  | none=>unfold kZ dY.val kg dS;simp
  | some q=>obtain⟨r,h⟩:=q;have s:=(jG r.op.l).r;simp only[kZ];unfold dY.val;simp[s]
 have p:=λH=>Nc e f i m (nu:=nu) (Q:=λv H=>ed env 129 v H (kZ (sj d (area * 2048+at') at' nu 4 1))) 4 1 H rfl (by omega);have k:=λH a b c=>p H a b c j;clear p j e f;generalize kZ (sj d (area * 2048+at') at' nu 4 1)=W at *;obtain⟨l,x,st,lf,dd⟩:=d;simp only[Dk.val,dR]at *;unfold dY.val kg dS at *;simp[ak, *,qU];exact k _ (by simp(maxDischargeDepth:=12) [eR, *]) (by simp(maxDischargeDepth:=12) [eR, *]) (by simp(maxDischargeDepth:=12) [eR, *])
end
def Qg{d:Dk}{p:Int}{many:Nat}(k:1<=many){r:dY}{h:Hd}(c:xM (fE d p many)=some (r,h)):gV (d.rd p)=true/\(du (d.rd p)).of=many/\(du (d.rd p)).nu=h.nu:=by
 have a:(fE d p many)[0]?=some (d.rd p):=by
  unfold fE;rw[nM,Fx (by omega)];simp
 have g:=Qf c 0 _ a;have hd:(fE d p many).headD []=d.rd p:=by
  cases j:fE d p many with| nil=>rw[j]at a;cases a| cons b B=>rw[j]at a;simpa using a
 refine⟨?_,?_,?_⟩
 ·unfold xM at c;split at c;·rename_i e;rw[hd]at e;simp only[bI]at e;exact e.1
  cases c
 ·rw[g];simp
 rw[g]
def R4(d:Dk)(p at' nu:Int) : ∀(j many:Nat),many+j=5->1<=many->sj d p at' nu j many=if gV (d.rd p)&&(decide (many<=(du (d.rd p)).of)&&(decide ((du (d.rd p)).nu=nu)&&decide (at'+(du (d.rd p)).of<=2048))) then (xM (fE d p (du (d.rd p)).of.toNat)).map λq=>(q.1,(du (d.rd p)).of.toNat) else none:=by
 intro j;induction j with
 | zero=>
  intro many u l;rw[if_neg];·rfl
  simp only[bI,iQb];rintro⟨h,m,_⟩;have:=RD h;omega
 | succ j t=>
  intro many u l;unfold sj;rw[t (many+1) (by omega) (by omega)];by_cases g:at'+many<=2048
  ·rw[if_pos g];cases k:xM (fE d p many) with
   | some q=>
    obtain⟨r,h⟩:=q;obtain⟨a,b,c⟩:=Qg l k;simp only;rw[a,b,c];by_cases f:h.nu=nu;·rw[if_pos f,if_pos (by simp[f,g])];simp[k]
    rw[if_neg f,if_neg (by simp[f]),if_neg (by simp[f])]
   | none=>
    simp only;by_cases s:(du (d.rd p)).of=many
    ·rw[s,if_neg (by simp;intros;omega)];split;·simp[k]
     rfl
    have e:decide (((many+1:Nat):Int)<=(du (d.rd p)).of)=decide ((many:Int)<=(du (d.rd p)).of):=by
     by_cases h:(many:Int)<=(du (d.rd p)).of;·rw[iQi h,iQi (by omega)]
     rw[iQh h,iQh (by omega)]
    rw[e]
  rw[if_neg g,if_neg];simp only[bI,iQb];rintro⟨h,m,v,w⟩;omega
def Uq(d:Dk)(p at' nu:Int):sj d p at' nu 4 1=o4 d p at' nu:=by
 rw[R4 d p at' nu 4 1 rfl (by omega)];unfold o4;cases a:gV (d.rd p) with
 | false=>simp
 | true=>
  have b:=RD a;by_cases h:2048<=at';·rw[if_pos h,if_neg (by simp;intros;omega)]
  rw[if_neg h];simp only[ig];rw[iQi (show((1:Nat):Int)<=(du (d.rd p)).of by omega),ig]
section
variable{d:Dk}(i:d.vm)(n:d.may=true){area nu most:Int}(o:0<=area/\area<=2)(f:0<=nu/\nu<=16777215)
include i n o
theorem Vb{at':Int}(a:0<=at'/\at'<=2048)(nu:Int):ay env 129 [d.val,aI area,aI at',aI nu]=some (kZ (o4 d (area * 2048+at') at' nu)):=by
 rw[<-Uq];exact SA i n o a
include f
theorem Xq{Q:AV->aa->Prop} : ∀(m:Nat)(at':Int)(acc:List (dY × AV)) (F:AV) (H:aa),0<=at'->at'<=2048->2049<=at'+m->(acc.length:Int)<=at'->Fr H ->
 H.get ⟨0,4,0,0⟩=some ⟨4,[d.val],false,false⟩->hU [37] 24 (ao acc) H F->(acc=[]->F=aY) ->
 (∀y b,hU [37] 24 (ao (acc++cX (eC d (area * 2048) nu most m at' acc.length).1)) b y->(acc++cX (eC d (area * 2048) nu most m at' acc.length).1=[]->y=aY)->Q (.tup [y,aI (eC d (area * 2048) nu most m at' acc.length).2]) b) ->
 cy env Tryz.f92 0 j6 [(11,aI at'),(10,F),(2,aI nu),(1,aI area),(4,.ptr ⟨0,4,0,0⟩ 0 0),(3,aI most)] H Q:=by
 intro m;induction m with
 | zero=>rintro at' acc F H h0 h1 h2;omega
 | succ m K=>
  rintro at' acc F H h0 h1 h2 hal hF h4 hO hN hQ;have L:=iQa (nu+acc.length) (by omega);have M:=iQa (nu+acc.length+1) (by omega);have C:=Vb i n o ⟨h0,h1⟩ (nu+acc.length+1);have j:(ao acc).length=acc.length:=fl acc;unfold eC at hQ;refine xw _ _ _ _ _ _ _ _ λg=>?_;have N:=i.sl.r;by_cases z:(acc.length:Int)<most
  ·rw[if_pos z]at hQ;cases A:o4 d (area * 2048+at') at' (nu+acc.length+1) with
   | none=>
    rw[A]at C hQ;have a:=λb h=>hQ F b (by simpa [cX] using h) (by simpa [cX] using hN);simp only at a;clear hQ K A n i hN;obtain⟨l,y,st,lf,dd⟩:=d;simp only[Dk.val,dR]at *;have P:(H.get ⟨0,4,0,0⟩).isSome=true:=by rw[h4];rfl
    unfold kZ dY.val kg dS at C;rcases hO with ⟨rfl,J⟩ | ⟨t,I,p,rfl,v⟩
    ·have:acc=[]:=(by simpa [ao] using J);subst this;have D:0<most:=z;simp only[lE,Dp,AG]at C L M;simp[ak, *,df];all_goals exact a _ (.inl ⟨rfl,rfl⟩)
    rw[lX]at p;subst p;simp only[j]at a ⊢;have U:(H.get ⟨0,37,I,0⟩).isSome=true:=by rw[v];rfl
    simp[ak, *,df];all_goals exact a _ (.inr ⟨37,I,by simp,by rw[j],by simp(maxDischargeDepth:=12) [eR, *]⟩)
   | some q=>
    obtain⟨r,k⟩:=q;have O:=EH A;rw[A]at C hQ;simp only at hQ;have X:=iQa (at'+k) (by omega);have T : ¬k=0:=by omega
    have u:=λG b=>K (at'+k) (acc++[(r,gK r.op.l)]) G b (by omega) (by omega) (by omega) (by simp;omega);have E:=(jG r.op.l).r;have B:gK r.op.l=aY \/∃c,gK r.op.l = .bE 1 (rows r.op.l) c:=by
     rcases jG r.op.l with ⟨h,_⟩ | ⟨c,h,_⟩
     ·exact .inl h
     exact .inr ⟨c,h⟩
    have a : ∀y b,hU [37] 24 (ao ((acc++[(r,gK r.op.l)])++cX (eC d (area * 2048) nu most m (at'+k) (acc++[(r,gK r.op.l)]).length).1)) b y->((acc++[(r,gK r.op.l)])++cX (eC d (area * 2048) nu most m (at'+k) (acc++[(r,gK r.op.l)]).length).1=[]->y=aY)->Q (.tup [y,aI (eC d (area * 2048) nu most m (at'+k) (acc++[(r,gK r.op.l)]).length).2]) b:=(by intro y b h f;rw[iX,EF]at h ⊢;exact hQ y b (by simpa [cX] using h) (λe=>by simp[cX]at e));have u:=λG b a1 R S=>u G b a1 R S (λe=>by simp at e) a;have w : ∀(g m:Nat)(b:aa),m=acc.length+1->b.get ⟨0,37,g,0⟩=some ⟨24,ao acc++[r.val (gK r.op.l)],true,false⟩->hU [37] 24 (ao (acc++[(r,gK r.op.l)])) b (.ct ⟨0,37,g,0⟩ 0 m none):=(by intro g m b n h;subst n;exact .inr ⟨37,g,by simp,by simp,by rw[h];simp[ao]⟩);clear K hQ a A n i hN;unfold kZ at C;unfold dY.val at C w;obtain⟨l,y,st,lf,dd⟩:=d;simp only[Dk.val,dR]at *;have P:(H.get ⟨0,4,0,0⟩).isSome=true:=by rw[h4];rfl
    generalize gK r.op.l=ro at *;have V:acc.length+1<=2049:=by omega
    rcases hO with ⟨rfl,J⟩ | ⟨t,I,p,rfl,v⟩
    ·have:acc=[]:=(by simpa [ao] using J);subst this;have s:=λb=>w (H.gen 0 37) 1 b rfl;clear w j;have D:0<most:=z;simp only[lE,Dp,AG]at C L M;rcases B with rfl | ⟨c,rfl⟩
     ·clear E;simp[ak, *,df];exact u _ _ (by simp(maxDischargeDepth:=12) [eR, *]) (by simp(maxDischargeDepth:=12) [eR, *]) (s _ (by simp(maxDischargeDepth:=12) [eR, *]))
     simp[ak, *,df];exact u _ _ (by simp(maxDischargeDepth:=12) [eR, *]) (by simp(maxDischargeDepth:=12) [eR, *]) (s _ (by simp(maxDischargeDepth:=12) [eR, *]))
    rw[lX]at p;subst p;simp only[j]at v ⊢;have U:(H.get ⟨0,37,I,0⟩).isSome=true:=by rw[v];rfl
    have s:=λb=>w (H.gen 0 37) (acc.length+1) b rfl;clear w;have W : ∀x:AV,kJ 24 160 acc.length true none (some ⟨24,ao acc,true,false⟩) (some [x]):=(by intro x;simp;omega);rcases B with rfl | ⟨c,rfl⟩
    ·clear E;simp[ak, *,df];exact u _ _ (by simp(maxDischargeDepth:=12) [eR, *]) (by simp(maxDischargeDepth:=12) [eR, *]) (s _ (by simp(maxDischargeDepth:=12) [eR, *]))
    simp[ak, *,df];exact u _ _ (by simp(maxDischargeDepth:=12) [eR, *]) (by simp(maxDischargeDepth:=12) [eR, *]) (s _ (by simp(maxDischargeDepth:=12) [eR, *]))
  rw[if_neg z]at hQ;have a:=λb h=>hQ F b (by simpa [cX] using h) (by simpa [cX] using hN);simp only at a;clear hQ K n i C hN;rcases hO with ⟨rfl,J⟩ | ⟨t,I,p,rfl,v⟩
  ·have:acc=[]:=(by simpa [ao] using J);subst this;have D : ¬0<most:=z;simp[ak, *,df];all_goals exact a _ (.inl ⟨rfl,rfl⟩)
  rw[lX]at p;subst p;simp only[j]at a ⊢;simp[ak, *,df];all_goals exact a _ (.inr ⟨37,I,by simp,by rw[j],v⟩)
theorem Vc:ay env 92 [d.val,aI area,aI nu,aI most]=some (.tup [cK 24 (ao (cX (eC d (area * 2048) nu most 2049 0 0).1)),aI (eC d (area * 2048) nu most 2049 0 0).2]):=by
 refine aH rfl (by kernel_rfl) (zr _ _ _ _ _ _ λg=>?_);have b:=Xq i n o f (most:=most) (Q:=λv H=>ed env 92 v H (.tup [cK 24 (ao (cX (eC d (area * 2048) nu most 2049 0 0).1)),aI (eC d (area * 2048) nu most 2049 0 0).2])) 2049 0 [] aY;have k : ∀(y:AV)(e:aa),hU [37] 24 (ao (([]:List (dY × AV))++cX (eC d (area * 2048) nu most 2049 0 ([]:List (dY × AV)).length).1)) e y->([]++cX (eC d (area * 2048) nu most 2049 0 ([]:List (dY × AV)).length).1=[]->y=aY) ->
  ed env 92 (.tup [y,aI (eC d (area * 2048) nu most 2049 0 ([]:List (dY × AV)).length).2]) e (.tup [cK 24 (ao (cX (eC d (area * 2048) nu most 2049 0 0).1)),aI (eC d (area * 2048) nu most 2049 0 0).2]):=by
  intro y e h f;rw[lE]at h f ⊢;rw[sf]at h f;generalize eC d (area * 2048) nu most 2049 0 0=q at *;rcases h with ⟨rfl,w⟩ | ⟨t,x,s,rfl,c⟩
  ·rw[w];simp[cK]
  by_cases j:ao (cX q.1)=[];·cases f (by simpa [ao] using j)
  rw[ji 24 j];simp[c]
 have u:=i.sl.r;have a:=λH a1 m p=>b H (by omega) (by omega) (by omega) (by simp) a1 m p (λ_=>rfl) k;clear n i k b;generalize eC d (area * 2048) nu most 2049 0 0=q at *;obtain⟨l,y,st,lf,dd⟩:=d;simp only[Dk.val,dR]at *;simp[ak, *,sR];exact a _ (by simp(maxDischargeDepth:=12) [eR, *]) (by simp(maxDischargeDepth:=12) [eR, *]) (.inl ⟨rfl,rfl⟩)
end
end
end Go.Proofs.YtiidajnodhkidaaGreat
namespace Go.Proofs.YtiidajnodhkidaaGreat
open Go.Ab Go.ChangeShapes Go.WideShapes Go.RowKit
def YW:OL env.P 24 (λp:List fH × Dk=>(∀s∈p.2.l,fM s)/\Sl 2 (bt p.2.l) p.2.x) (λp=>[p.2.x,aI p.2.st,aI p.2.lf,aB p.2.dd]):=by
 intro n j h;have h:=lK (P:=env.P) FR h;obtain⟨m,i,r1,rfl,d,k,r2,rfl,c,g,r3,rfl,a,x4,r4,rfl,f,rfl⟩:=h;obtain⟨l,z,e,rfl,s⟩:=AT (P:=env.P) MT MP Q1 Rk d;obtain⟨st,_,rfl⟩:=nW (P:=env.P) (t:=3) (by simp) _ _ c;obtain⟨lf,_,rfl⟩:=nW (P:=env.P) (t:=3) (by simp) _ _ a;obtain⟨b,_,rfl⟩:=Ia (P:=env.P) (t:=4) (by simp) _ _ f;exact⟨([],⟨l,z,st,lf,b⟩),⟨e,s⟩,rfl⟩
def U0{n:Nat}{x:AV}(h:TW env.P n 29 x) : ∃(d:Dk) (R:List (dY × AV)) (ro:AV) (g k at':Int),(∀s∈d.l,fM s)/\Sl 2 (bt d.l) d.x/\(∀p∈R,Sl 1 (rows p.1.op.l) p.2)/\Sl 24 (ao R) ro/\x=vi d ro g k at':=by
 obtain⟨y,rfl,e⟩:=h.agg (by simp);have h:=lK (P:=env.P) N8 e;obtain⟨m,w,r1,rfl,u,z,r2,rfl,f,A,r3,rfl,c,x4,r4,rfl,v,rfl⟩:=h;obtain⟨q,⟨o,j⟩,rfl⟩:=YW _ _ u;obtain⟨R,ro,i,rfl,b⟩:=AT (P:=env.P) UK UE X9 YU f;have c:=lK (P:=env.P) N9 c;obtain⟨m,B,s1,rfl,i1,C,s2,rfl,i2,rfl⟩:=c;obtain⟨g,_,rfl⟩:=nW (P:=env.P) (t:=3) (by simp) _ _ i1;obtain⟨k,_,rfl⟩:=nW (P:=env.P) (t:=3) (by simp) _ _ i2;obtain⟨a,_,rfl⟩:=nW (P:=env.P) (t:=3) (by simp) _ _ v;exact⟨q.2,R,ro,g,k,a,o,j,i,b,rfl⟩
end Go.Proofs.YtiidajnodhkidaaGreat
namespace Go.Proofs.YtiidajnodhkidaaGreat
open Go.Ab
section
attribute [local simp] aN aG ar aD aC bT kp aP ax aJ bG bF aX aO af a9 dM
def Nm{l:List UInt8}{x:AV}(j:Sl 1 (aK l) x)(A:l.length<=7){Q:AV->aa->Prop}{H:aa} : ∀(s:List UInt8)(k:Nat)(a:Int),l.drop k=s->k<=l.length->0<=a->a<256 ^ k->(∀y,y=aI (vp a s)->Q y H) ->
 cy env Tryz.f172 0 iO [(4,aI k),(0,x),(3,aI a)] H Q:=by
 intro s;induction s with
 | nil=>intro k a e n q u b;obtain rfl:=drop_nil e n;refine oN _ _ _ _ _ λg=>?_;simp[ak, *,lx,j.r];exact b _ rfl
 | cons p s m=>intro k a e n q u b;obtain⟨o,C,c,t⟩:=drop_cons e;have hp:=p.toNat_lt;have w:=rD (k:=k) 6 (by omega);have v:=iQa (256 * a) (by omega);have z:=iQa (256 * a+p.toNat) (by omega);have B:=iQa ((k:Int)+1) (by omega);have h:=m (k+1) (256 * a+p.toNat) c (by omega) (by omega) (by rw[AB];omega) b;rw[show((k+1:Nat):Int)=(k:Int)+1 from by omega]at h;clear m b;refine oN _ _ _ _ _ λg=>?_;simp[ak, *,lx,j.r,j.idx];done
def M5{l:List UInt8}{x:AV}(b:Sl 1 (aK l) x)(a:l.length<=7):ay env 172 [x]=some (aI (val l)):=by
 refine aH rfl (by kernel_rfl) (wF _ _ _ λg=>?_);unfold qh;exact Nm b a l 0 0 rfl (by omega) (by omega) (by decide) (λy e=>by rw[e];simp[val])
def Pv{a b:Int}(a0:0<=a)(a1:a<4294967296)(b0:0<=b)(b1:b<4294967296):ay env 144 [.agg [aI a,aI b]]=some (.bE 1 (aK (tl a b)) none):=by
 have A:=λt xo yo=>mz env.P t xo yo .i64 a 16777216 (by decide);have J:=λt xo yo=>mz env.P t xo yo .i64 a 65536 (by decide);have D:=λt xo yo=>mz env.P t xo yo .i64 a 256 (by decide);have C:=λt xo yo=>jg env.P t xo yo .i64 (a / 65536) 256 (by decide);have L:=λt xo yo=>jg env.P t xo yo .i64 (a / 256) 256 (by decide);have I:=λt xo yo=>jg env.P t xo yo .i64 a 256 (by decide);obtain⟨o,x,w,p,s,v⟩:=GF a0 a1;rw[o]at A;rw[x]at J;rw[w]at D;rw[p]at C;rw[s]at L;rw[v]at I;have z:=λt xo yo=>mz env.P t xo yo .i64 b 65536 (by decide);have M:=λt xo yo=>mz env.P t xo yo .i64 b 256 (by decide);have G:=λt xo yo=>jg env.P t xo yo .i64 (b / 256) 256 (by decide);have E:=λt xo yo=>jg env.P t xo yo .i64 b 256 (by decide);obtain⟨d1,d2,d3,d4,d5,d6⟩:=GF b0 b1;rw[d2]at z;rw[d3]at M;rw[d5]at G;rw[d6]at E;clear o x w p s v d1 d2 d3 d4 d5 d6;refine aH rfl (by kernel_rfl) (xu _ _ _ λg=>?_);have j : ∀(l:Ref)(k:aa)(B:List UInt8),k.get l=some ⟨1,aK B,true,false⟩->ed env 144 (.ct l 0 B.length none) k (.bE 1 (aK B) none):=λl k B h=>by simp[h]
 obtain⟨e,c⟩ : ∃e,e=[77,u8 (a / 16777216),u8 (a / 65536),u8 (a / 256),u8 a,u8 (b / 65536),u8 (b / 256),u8 b]:=⟨_,rfl⟩;have u:tl a b=e++List.replicate 120 0:=by rw[c];simp[tl,vc,TO]
 have n:aK e=[a8 77,a8 (u8 (a / 16777216)),a8 (u8 (a / 65536)),a8 (u8 (a / 256)),a8 (u8 a),a8 (u8 (b / 65536)),a8 (u8 (b / 256)),a8 (u8 b)]:=by rw[c];rfl
 have m:e.length=8:=by rw[c];rfl
 have F:=λ(H:aa)(r q:Ref) hq=>KI (H:=H) (r:=r) (q:=q) (B:=e) hq 120 (by omega) (by omega) (K:=λy k=>ed env 144 y k (.bE 1 (aK (tl a b)) none)) (λl k h=>by
  have:=j l k _ h;rw[iX,Ds,<-u]at this;exact this)
 rw[n,m,show((120:Nat):Int)=120 from rfl]at F;clear j n m u c;simp[ak, *,qT,me]
section
variable{d:Dk}(f:d.vm)(i:d.may=true)
include f i
theorem aaw{slot:Int}(S:0<=slot/\slot<=1):ay env 143 [d.val,aI slot]=some (.agg [aI (d.mark slot).1,aI (d.mark slot).2]):=by
 refine aH rfl (by kernel_rfl) (Ar _ _ _ _ λg=>?_);have N:=iQa (6144+slot) (by omega);have R:=agn f i (6144+slot);have c:=PJ i (6144+slot);unfold Dk.mark;generalize d.rd (6144+slot)=b at *;have E:=Sl.mk 1 (aK b);obtain⟨z,J,j⟩:=zL (P:=env.P) (t:=76) (z:=1) (by kernel_rfl) E (lo:=1) (hi:=5) (by omega) (by omega) (by simp;omega);have x:((aK b).drop (1:Int).toNat).take ((5:Int).toNat - (1:Int).toNat)=aK ((b.drop 1).take 4):=by simp[aK]
 rw[x]at j;obtain⟨w,M,m⟩:=zL (P:=env.P) (t:=76) (z:=1) (by kernel_rfl) E (lo:=5) (hi:=8) (by omega) (by omega) (by simp;omega);have o:((aK b).drop (5:Int).toNat).take ((8:Int).toNat - (5:Int).toNat)=aK ((b.drop 5).take 3):=by simp[aK]
 rw[o]at m;have n1:=M5 j (by simp;omega);have n2:=M5 m (by simp;omega);have n:0<=uK b:=yH 0 (by omega) _;have p:0<=DR b:=yH 0 (by omega) _;have s:uK b<4294967296:=by
  have h:=CS ((b.drop 1).take 4) 0 (by omega) 0 (by decide);have B:((b.drop 1).take 4).length=4:=by simp[c]
  rw[B]at h;exact h
 have A:DR b<4294967296:=by
  have h:=CS ((b.drop 5).take 3) 0 (by omega) 0 (by decide);have B:((b.drop 5).take 3).length=3:=by simp[c]
  rw[B]at h;exact Int.lt_trans h (by decide)
 have C:=Pv n s p A;have q : ∀xo yo,bZ env.P .rem 3 xo yo (some (.v (.int .i64 (uK b)))) (some (.v (.int .i64 2)))=some (aI (uK b % 2),[]):=by
  intro xo yo;have:=jg (P:=env.P) (t:=3) (xo:=xo) (yo:=yo) (k := .i64) (a:=uK b) (b:=2) (by omega);rw[Aj n]at this;exact this
 have D : ∀xo yo,bZ env.P .rem 3 xo yo (some (aI (uK b))) (some (.v (.int .i64 2)))=some (aI (uK b % 2),[]):=q;rw[show val ((b.drop 1).take 4)=uK b from rfl]at n1;rw[show val ((b.drop 5).take 3)=DR b from rfl]at n2;unfold yO;have G:=j.r;have K:=m.r;generalize uK b=gb at *;generalize DR b=nb at *;have I:=λ(l:List UInt8) g r=>IT (Sl.mk 1 (aK l)) g r;have H:=f.sl.r;clear f i E j x m o c n p s A;obtain⟨l,y,st,lf,dd⟩:=d;simp only[Dk.val,dR]at *;by_cases Q:gb<1;·rw[if_neg (by omega)];simp[ak, *,ic,aa.ad];done
 by_cases O:2147483648<=gb;·rw[if_neg (by omega)];simp[ak, *,ic,aa.ad];done
 by_cases F:gb % 2=slot
 ·by_cases u:b=tl gb nb;·rw[if_pos ⟨by omega,by omega,F,u⟩];rw[<-u]at C;clear u;simp[ak, *,ic,aa.ad];done
  rw[if_neg (λh=>u h.2.2.2)];have L : ¬tl gb nb=b:=λe=>u e.symm;generalize tl gb nb=mb at *;simp[ak, *,ic,aa.ad];done
 rw[if_neg (λh=>F h.2.2.1)];simp[ak, *,ic,aa.ad];done
theorem SD:ay env 103 [d.val]=some (.agg [aI d.cur.1,aI d.cur.2]):=by
 refine aH rfl (by kernel_rfl) (wH _ _ _ λg=>?_);have a:=f.sl.r;have b:=aaw f i (slot:=0) (by omega);have c:=aaw f i (slot:=1) (by omega);unfold Dk.cur;generalize d.mark 0=m0 at *;generalize d.mark 1=m1 at *;clear f i;obtain⟨l,y,st,lf,dd⟩:=d;simp only[Dk.val,dR,if_true]at *;by_cases h:m1.1<m0.1;·rw[if_pos h];simp[ak, *,mi,aa.ad]
 rw[if_neg h];simp[ak, *,mi,aa.ad]
theorem SB:ay env 91 [d.val]=some (.tup [cK 24 (ao (cX d.sC)),.agg [aI d.cur.1,aI d.cur.2],aB (decide ((d.sC.length:Int)=d.cur.2))]):=by
 refine aH rfl (by kernel_rfl) (wG _ _ _ λg=>?_);have x:=SD f i;have q:=IS d;have p:=Vc f i (area:=1+d.cur.1 % 2) (nu:=0) (most:=d.cur.2) (by omega) (by omega);have w:=iQa (1+d.cur.1 % 2) (by omega);have j : ∀xo yo,bZ env.P .rem 3 xo yo (some (.v (.int .i64 d.cur.1))) (some (.v (.int .i64 2)))=some (aI (d.cur.1 % 2),[]):=by
  intro xo yo;have:=jg (P:=env.P) (t:=3) (xo:=xo) (yo:=yo) (k := .i64) (a:=d.cur.1) (b:=2) (by omega);rw[Aj q.1]at this;exact this
 have s : ∀xo yo,bZ env.P .rem 3 xo yo (some (aI d.cur.1)) (some (.v (.int .i64 2)))=some (aI (d.cur.1 % 2),[]):=j;rw[show eC d ((1+d.cur.1 % 2) * 2048) 0 d.cur.2 2049 0 0=(d.sC,(eC d ((1+d.cur.1 % 2) * 2048) 0 d.cur.2 2049 0 0).2) from rfl]at p;generalize (eC d ((1+d.cur.1 % 2) * 2048) 0 d.cur.2 2049 0 0).2=nx at *;have n:=(gZ 24 (ao (cX d.sC))).r;rw[fl,qE]at n;have u:=f.sl.r;have e:cK 24 (ao (cX d.sC))=aY \/∃z es c,cK 24 (ao (cX d.sC)) = .bE z es c:=by
  rcases gZ 24 (ao (cX d.sC))with ⟨h,_⟩ | ⟨c,h,_⟩
  ·exact .inl h
  exact .inr ⟨_,_,_,h⟩
 generalize cK 24 (ao (cX d.sC))=o at *;generalize d.sC.length=ln at *;generalize d.cur=m at *;clear f i;obtain⟨l,y,st,lf,dd⟩:=d;simp only[Dk.val,dR,if_true]at *;rcases e with rfl | ⟨z,es,c,rfl⟩
 ·simp[ak, *,mh,aa.ad];done
 simp[ak, *,mh,aa.ad];done
end
section
variable{d:Dk}(f:d.vm)
include f
theorem Vk:ay env 57 [d.val]=some (aB d.may):=ab0 (st:=d.st) (lf:=d.lf) (dd:=d.dd) f.sl f.ok (by have:=f.len;omega)
end
def Zq : ∀(l m:List fH)(a:Int),dV l=dV m->gN a l=gN a m:=by
 intro l;induction l with
 | nil=>
  intro m a h;cases m with
  | nil=>rfl
  | cons p m=>simp[dV]at h
 | cons p l t=>
  intro m a h;cases m with
  | nil=>simp[dV]at h
  | cons p' m=>simp only[dV,zj,yc,tf]at h;obtain⟨⟨q,k⟩,e⟩:=h;unfold gN;rw[q,k,t m p'.pos e]
def acT(q:Int) : ∀l m:List fH,dV l=dV m->XD l q=XD m q:=by
 intro l;induction l with
 | nil=>
  intro m h;cases m with
  | nil=>rfl
  | cons p m=>simp[dV]at h
 | cons p l t=>
  intro m h;cases m with
  | nil=>simp[dV]at h
  | cons p' m=>simp only[dV,zj,yc,tf]at h;obtain⟨⟨e,k⟩,a⟩:=h;unfold XD;rw[e,k,t m a]
def Zp(q:Int)(b:List UInt8) : ∀l m:List fH,dV l=dV m->dV (OI q b l)=dV (OI q b m):=by
 intro l;induction l with
 | nil=>
  intro m h;cases m with
  | nil=>rfl
  | cons p m=>simp[dV]at h
 | cons p l v=>
  intro m h;cases m with
  | nil=>simp[dV]at h
  | cons p' m=>
   simp only[dV,zj,yc,tf]at h;obtain⟨⟨e,t⟩,k⟩:=h;have a:=v m k;unfold OI;rw[e];have u:dV (zH l)=dV (zH m):=by rw[E9,E9];exact k
   simp only[dV]at a u ⊢;split;·simp[UD,e,t,a]
   split<;>simp[UD,JG,e,t,u]
structure Dk.Eq (d e:Dk):Prop where
 key:dV d.l=dV e.l
 st:d.st=e.st
 lf:d.lf=e.lf
 dd:d.dd=e.dd
def Dk.Eq.refl(d:Dk):d.Eq d:=⟨rfl,rfl,rfl,rfl⟩
def Dk.Eq.may{d e:Dk}(h:d.Eq e):d.may=e.may:=by unfold Dk.may Gi;rw[Zq _ _ _ h.key,h.st,h.lf,h.dd]
def Dk.Eq.rd{d e:Dk}(h:d.Eq e):d.rd=e.rd:=by
 funext q;exact acT q _ _ h.key
def Dk.Eq.dead{d e:Dk}(h:d.Eq e):d.dead=e.dead:=by unfold Dk.dead;rw[h.lf,h.dd]
def Dk.Eq.whole{d e:Dk}(h:d.Eq e)(p at' nu:Int):o4 d p at' nu=o4 e p at' nu:=by
 unfold o4 fE;rw[h.rd]
def Dk.Eq.scan{d e:Dk}(h:d.Eq e)(p nu most:Int) : ∀(m:Nat)(at':Int)(k:Nat),eC d p nu most m at' k=eC e p nu most m at' k:=by
 intro m;induction m with
 | zero=>intro at' k;rfl
 | succ m a=>intro at' k;unfold eC;rw[h.whole];simp only[a]
def Dk.Eq.cur{d e:Dk}(h:d.Eq e):d.cur=e.cur:=by
 unfold Dk.cur Dk.mark;rw[h.rd]
def Dk.Eq.sC{d e:Dk}(h:d.Eq e):d.sC=e.sC:=by
 unfold Dk.sC;rw[h.cur,h.scan]
def Dk.wg(d:Dk)(q:Int)(b:List UInt8):Dk:=
 if d.dead then ⟨d.l,d.x,d.st,d.lf,true⟩ else ⟨G9 d.l q b,.bE 2 (bt (G9 d.l q b)) none,d.st,if d.lf>0 then d.lf - 1 else d.lf,false⟩
def Dk.Eq.wr{d e:Dk}(h:d.Eq e)(c:d.may=true)(q:Int)(b:List UInt8):(d.wr q b).Eq (e.wg q b):=by
 unfold Dk.wr Dk.wg;rw[h.dead];cases e.dead with
 | true=>exact⟨by show dV (zH d.l)=_;rw[E9];exact h.key,h.st,h.lf,rfl⟩
 | false=>exact⟨by
  show dV (OI q b d.l)=dV (G9 e.l q b);rw[Zp q b _ _ h.key];exact Wv q b e.l (-1) (vu (by rw[<-h.may];exact c)),h.st,by show(if d.lf>0 then d.lf - 1 else d.lf)=_;rw[h.lf];rfl,rfl⟩
def Dk.wgs(d:Dk)(q:Int):List (List UInt8)->Dk
 | []=>d
 | b :: B=>(d.wg q b).wgs (q+1) B
def Dk.Eq.wrs : ∀(B:List (List UInt8)) {d e:Dk} (h:d.Eq e) (c:d.may=true) (q:Int),0<=q->q+B.length<=6146->(∀b∈B,b.length=128)->(d.wrs q B).Eq (e.wgs q B):=by
 intro B;induction B with
 | nil=>intro d e h _ _ _ _ _;exact h
 | cons b B k=>intro d e h c q u m a;simp only[jP]at m;have b1:=a b (j1 ..);exact k (h.wr c q b) (O7 c (by omega) b1) (q+1) (by omega) (by omega) λx t=>a x (kQ _ t)
def Dk.QF(d:Dk)(area at' nu:Int)(r:dY):Dk:=d.wgs (area * 2048+at') (de r d.st nu)
def Dk.Eq.app{d e:Dk}(i:d.vm)(h:d.Eq e){area at' nu:Int}{r:dY}(j:ZZ d area at' nu r=0):(d.app area at' nu r).Eq (e.QF area at' nu r):=by
 obtain⟨_,_,c,t,m,k,q⟩:=adC i j;have a:=pq m d.st nu;unfold Dk.app Dk.QF;rw[<-h.st];exact Dk.Eq.wrs _ (d:=d.tw) ⟨by show dV (zH d.l)=_;rw[E9];exact h.key,h.st,h.lf,h.dd⟩ (by rw[UC];exact c) _ (by omega) (by rw[a];omega) (Fm m q)
def Dk.rt(d:Dk):Dk:=⟨Gd d.l,cK 2 (bt (Gd d.l)),d.st,d.lf,d.dd⟩
def aav{d:Dk}(c:d.vm)(h : ∀s∈d.l,s.bs.length<1000000000):ay env 26 [d.val]=some d.rt.val:=Yw (st:=d.st) (lf:=d.lf) (dd:=d.dd) c.sl c.ok (by have:=c.len;omega) h
def xF{d:Dk}(c:d.vm):d.rt.vm:=⟨gZ _ _,ab7 _,by show(Gd d.l).length<_;rw[YO];exact c.len⟩
def rt_eq(d:Dk):d.rt.Eq d:=⟨Fa _,rfl,rfl,rfl⟩
def Rv{d:Dk}(c:d.may=true) : ∀s∈d.l,s.bs.length<1000000000:=λs e=>by
 have:=zW d.l (-1) (vu c) s e;omega
end
end Go.Proofs.YtiidajnodhkidaaGreat
namespace Go.Proofs.YtiidajnodhkidaaGreat
open Go.Ab Go.ChangeShapes Go.WideShapes Go.RowKit
def J5{N:Nat}{l:List fH}{x:AV}(g:Sl 2 (bt l) x)(a : ∀s∈l,fM s)(d:uO N x) : ∀s∈l,s.bs.length<=N:=by
 intro s b;have f:=(d.sl g).2 s.enc (K3 b);have e:=f.parts s.av (by simp);have c:=(e.sl (a s b)).1;simpa using c
def UT{N:Nat}{l:List fH}{x:AV}{st lf:Int}{dd:Bool}(b:Sl 2 (bt l) x)(a : ∀s∈l,fM s)(h:uO N (dR x st lf dd)) : ∀s∈l,s.bs.length<=N:=J5 b a (h.parts x (by simp))
def US{N:Nat}{d:Dk}{o:AV}{g k a:Int}(c:Sl 2 (bt d.l) d.x)(b : ∀s∈d.l,fM s)(h:uO N (vi d o g k a)) : ∀s∈d.l,s.bs.length<=N:=J5 c b (h.parts d.x (by simp))
end Go.Proofs.YtiidajnodhkidaaGreat
namespace Go.Proofs.YtiidajnodhkidaaGreat
open Go.Ab
section
attribute [local simp] aN aG ar aD aC bT kp aP ax aJ bG bF aX aO af a9 dM
def EP(l:List (dY × AV)):List (dY × AV):=l.map λp=>(p.1,cK 1 (rows p.1.op.l))
@[simp] def XZ(l:List (dY × AV)):(EP l).length=l.length:=by simp[EP]
@[simp] def Gn(l:List (dY × AV)):Aw (EP l)=Aw l:=by simp[Aw,EP,Function.comp_def]
def abK{l:List (dY × AV)}(o : ∀p∈l,oX p) : ∀p∈EP l,oX p:=by
 intro p hp;obtain⟨q,g,rfl⟩:=mo.1 hp;exact⟨gZ _ _,(o q g).2⟩
def XY(l:List dY):EP (cX l)=cX l:=by
 unfold EP cX;rw[GU];refine List.map_congr_left λr _=>?_;show(r,cK 1 (rows r.op.l))=(r,gK r.op.l);unfold cK gK;cases r.op.l<;>simp[rows]
section
variable{d:Dk}(c:d.vm)(n : ∀s∈d.l,s.bs.length<1000000000){l:List (dY × AV)}{ro:AV}(i:Sl 24 (ao l) ro)(o : ∀p∈l,oX p)(j : ∀p∈l,p.1.op.l.length<100000)(f:l.length<100000){g1 k1 a1:Int}
include c n i o j f
theorem PM{Q:AV->aa->Prop} : ∀(s:List (dY × AV)) (k:Nat) (acc:List (dY × AV)) (O:AV) (H:aa),l.drop k=s->k<=l.length->acc.length=k->Fr H ->
 H.get ⟨0,1,0,0⟩=some ⟨8,[vi d ro g1 k1 a1],false,false⟩->H.get ⟨0,2,0,0⟩=some ⟨8,[lC],false,false⟩->hU [20] 24 (ao acc) H O->(acc=[]->O=aY) ->
 (∀y q,hU [20] 24 (ao (acc++EP s)) q y->(acc++EP s=[]->y=aY)->Q (vi d.rt y g1 k1 a1) q) ->
 cy env Tryz.f25 0 jH [(4,aI k),(1,.ptr ⟨0,1,0,0⟩ 0 0),(3,O),(2,.ptr ⟨0,2,0,0⟩ 0 0)] H Q:=by
 intro s;induction s with
 | nil=>
  rintro k acc O H hs hk hal hF b1 b2 hO hN hQ;obtain rfl:=drop_nil hs hk;have hT:=aav c n;have G:=λq h=>hQ O q (by simpa [EP] using h) (by simpa [EP] using hN);have v1:=c.sl.r;have v2:=(xF c).sl.r;have Z:=i.r;rw[fl]at Z;clear hQ hN i o j;generalize d.rt=e at *;clear c n;obtain⟨ld,xd,st,lf,dd⟩:=d;obtain⟨le,xe,st',lf',dd'⟩:=e;simp only[Dk.val,dR,vi,lC]at *;have v:(ao acc).length=acc.length:=fl acc;refine pP _ _ _ _ _ _ λg=>?_;rcases hO with ⟨rfl,T⟩ | ⟨t,S,I,rfl,L⟩
  ·simp[ak, *,ef,aa.ad];first | done | exact G _ (.inl ⟨rfl,T⟩)
  rw[lX]at I;subst I;have l6:(H.get ⟨0,20,S,0⟩).isSome=true:=by rw[L];rfl
  simp only[v]at G ⊢;clear hal;simp[ak, *,ef,aa.ad];first | done | exact G _ (.inr ⟨20,S,by simp,by rw[v],by simp(maxDischargeDepth:=12) [eR, *]⟩)
 | cons p s X=>
  rintro k acc O H hs hk hal hF b1 b2 hO hN hQ;obtain⟨hlt,V,P,R⟩:=drop_cons hs;have hp:=o p (V ▸ fj _);have Y:=SN hp (j p (V ▸ fj _));have e3:=iQa ((k:Int)+1) (by omega);have U:bP (ao l) k 0 24 true=some (p.1.val p.2):=by simp[ao,R,dY.val]
  have hr1:=hp.1.r;have v1:=c.sl.r;have v:(ao acc).length=acc.length:=fl acc;have F:=λN q=>X (k+1) (acc++[(p.1,cK 1 (rows p.1.op.l))]) N q P (by omega) (by simp;omega);have G : ∀y q,hU [20] 24 (ao ((acc++[(p.1,cK 1 (rows p.1.op.l))])++EP s)) q y->((acc++[(p.1,cK 1 (rows p.1.op.l))])++EP s=[]->y=aY)->Q (vi d.rt y g1 k1 a1) q:=(by intro y q h hn;exact hQ y q (by simpa [EP] using h) (λe=>by simp[EP]at e));have F:=λN q a1 a2 a3 a4=>F N q a1 a2 a3 a4 (λe=>by simp at e) G;have J : ∀(g m:Nat)(q:aa),m=acc.length+1->q.get ⟨0,20,g,0⟩=some ⟨24,ao acc++[p.1.val (cK 1 (rows p.1.op.l))],true,false⟩->hU [20] 24 (ao (acc++[(p.1,cK 1 (rows p.1.op.l))])) q (.ct ⟨0,20,g,0⟩ 0 m none):=(by intro g m q hm h;subst hm;exact .inr ⟨20,g,by simp,by simp,by rw[h];simp[ao]⟩);have K:cK 1 (rows p.1.op.l)=aY\/cK 1 (rows p.1.op.l) = .bE 1 (rows p.1.op.l) none:=by
   unfold cK;split;·exact .inl rfl
   exact .inr rfl
  have M:=(gZ 1 (rows p.1.op.l)).r;rw[show((k+1:Nat):Int)=(k:Int)+1 from by omega]at F;clear X hQ G hN o j c n hs P V R hp;unfold dY.val at Y J U;obtain⟨ld,xd,st,lf,dd⟩:=d;simp only[Dk.val,dR,vi,lC]at *;generalize cK 1 (rows p.1.op.l)=ow at *;refine pP _ _ _ _ _ _ λg=>?_;rcases hO with ⟨rfl,T⟩ | ⟨t,S,I,rfl,L⟩
  ·have:acc=[]:=(by simpa [ao] using T);subst this;have E:=λq=>J (H.gen 0 20) 1 q rfl;obtain rfl:k=0:=by simpa using hal.symm
   clear J v;rcases K with rfl | rfl
   ·clear M;simp[ak, *,ef,i.r,i.idx];exact F _ _ (by simp(maxDischargeDepth:=12) [eR, *]) (by simp(maxDischargeDepth:=12) [eR, *]) (by simp(maxDischargeDepth:=12) [eR, *]) (E _ (by simp(maxDischargeDepth:=12) [eR, *]))
   simp[ak, *,ef,i.r,i.idx];exact F _ _ (by simp(maxDischargeDepth:=12) [eR, *]) (by simp(maxDischargeDepth:=12) [eR, *]) (by simp(maxDischargeDepth:=12) [eR, *]) (E _ (by simp(maxDischargeDepth:=12) [eR, *]))
  rw[lX]at I;subst I;simp only[v]at L ⊢;have l6:(H.get ⟨0,20,S,0⟩).isSome=true:=by rw[L];rfl
  have E:=λq=>J (H.gen 0 20) (acc.length+1) q rfl;clear J;have f4 : ∀x:AV,kJ 24 160 acc.length true none (some ⟨24,ao acc,true,false⟩) (some [x]):=(by intro x;simp;omega);have W:acc.length<100000:=(by omega);clear hal;rcases K with rfl | rfl
  ·clear M;simp[ak, *,ef,i.r,i.idx];exact F _ _ (by simp(maxDischargeDepth:=12) [eR, *]) (by simp(maxDischargeDepth:=12) [eR, *]) (by simp(maxDischargeDepth:=12) [eR, *]) (E _ (by simp(maxDischargeDepth:=12) [eR, *]))
  simp[ak, *,ef,i.r,i.idx];exact F _ _ (by simp(maxDischargeDepth:=12) [eR, *]) (by simp(maxDischargeDepth:=12) [eR, *]) (by simp(maxDischargeDepth:=12) [eR, *]) (E _ (by simp(maxDischargeDepth:=12) [eR, *]))
theorem Kd:ay env 25 [vi d ro g1 k1 a1]=some (vi d.rt (cK 24 (ao (EP l))) g1 k1 a1):=by
 refine aH rfl (by kernel_rfl) (ym _ _ _ λg=>?_);have x:=(xF c).sl.r;have m:=PM c n i o j f (g1:=g1) (k1:=k1) (a1:=a1) (Q:=λv H=>ed env 25 v H (vi d.rt (cK 24 (ao (EP l))) g1 k1 a1)) l 0 [] aY [(⟨0,2,0,0⟩,some ⟨8,[lC],false,false⟩),(⟨0,1,0,0⟩,some ⟨8,[vi d ro g1 k1 a1],false,false⟩)] rfl (by omega) rfl (by simp(maxDischargeDepth:=12) [eR, *]) (by rfl) (by rfl) (.inl ⟨rfl,rfl⟩) (λ_=>rfl) (λy J E q=>by
  rw[sf]at E q;unfold vi;rcases E with ⟨rfl,F⟩ | ⟨t,G,K,rfl,h⟩
  ·rw[F];simp[cK,x]
  have k:ao (EP l)≠[]:=by
   intro e;have:EP l=[]:=by simpa [ao] using e
   cases q this
  rw[ji 24 k];rw[fl]at *;simp[h,x])
 have L:=c.sl.r;have I:=i.r;clear c n i o j;generalize cK 24 (ao (EP l))=W at *;obtain⟨M,N,st,lf,dd⟩:=d;simp only[vi,lC]at *;simp[ak, *,rQ];first | done | exact m
end
section
variable{d e:Dk}(c:d.vm)(u:e.vm){a b:List (dY × AV)}{C D:AV}(w:Sl 24 (ao a) C)(B:Sl 24 (ao b) D)(z : ∀p∈a,oX p)(A : ∀p∈b,oX p)(f:a.length<1000000)
include c u w B z A f
theorem Ke(g1 k at' q m h:Int):ay env 30 [vi d C g1 k at',vi e D q m h]=some (aB (tK d e&&(o8 (Aw a) (Aw b)&&((decide (g1=q)&&decide (k=m))&&decide (at'=h))))):=by
 refine aH rfl (by kernel_rfl) (yp _ _ _ _ λg=>?_);have n:=Rg (st:=d.st) (lf:=d.lf) (dd:=d.dd) (st':=e.st) (lf':=e.lf) (dd':=e.dd) c.sl c.ok u.sl u.ok (by have:=c.len;omega);have v:=Sw w B z A f;have hd:(decide (dV d.l=dV e.l)&&rj d.st d.lf d.dd e.st e.lf e.dd)=tK d e:=by
  unfold tK rj;rfl
 rw[hd]at n;have F:=c.sl.r;have x:=u.sl.r;have y:=w.r;have J:=B.r;generalize tK d e=b1 at *;generalize o8 (Aw a) (Aw b)=b2 at *;clear hd c u z A;obtain⟨G,H,st,lf,dd⟩:=d;obtain⟨le,I,st',lf',dd'⟩:=e;simp only[dR,vi]at *;cases b1 with
 | false=>simp[ak, *,gr,mV,fN]
 | true=>
 cases b2 with| false=>simp[ak, *,gr,mV,fN]| true=>
  by_cases t:g1=q
  ·by_cases E:k=m;·by_cases K:at'=h<;>simp[ak, *,gr,mV,fN]
   simp[ak, *,gr,mV,fN]
  simp[ak, *,gr,mV,fN]
end
section
variable{d:Dk}(c:d.vm){many:Int}(e:0<=many/\many<100000000)
include c e
theorem Nf{Q:AV->aa->Prop} : ∀(s:List fH)(k:Nat)(H:aa),d.l.drop k=s->k<=d.l.length->Fr H->H.get ⟨0,2,0,0⟩=some ⟨4,[d.val],false,false⟩->(∀o,Q (aB (!s.any (sv d many))) o) ->
 cy env Tryz.f93 0 gD [(5,aI k),(2,.ptr ⟨0,2,0,0⟩ 0 0),(1,aI many)] H Q:=by
 intro s;induction s with
 | nil=>rintro k H hs hk hF b2 hQ;obtain rfl:=drop_nil hs hk;have m:=hQ H;have S:=c.sl.r;refine lN _ _ _ _ _ λg=>?_;clear hQ c;obtain⟨l,x,st,lf,dd⟩:=d;simp only[Dk.val,dR]at *;simp[ak, *,cf];all_goals exact m
 | cons p s D=>
  rintro k H hs hk hF b2 hQ;obtain⟨O,U,z,v⟩:=drop_cons hs;have hp:=c.ok p (U ▸ fj _);have u:=Kg hp;have B:=hp.r;have j:=c.sl;have S:=c.sl.r;have V:=iQa (many+1) (by omega);have W:=iQa ((k:Int)+1) (by have:=c.len;omega);have P:bP (bt d.l) k 0 1 false=some (aI p.pos):=by simp[bt,v,fH.enc,bP]
  have K:bP (bt d.l) k 1 1 false=some p.av:=(by simp[bt,v,fH.enc,bP,B]);have R:(k:Int)<d.l.length:=(by omega);have f:=λo=>D (k+1) o z (by omega);rw[show((k+1:Nat):Int)=(k:Int)+1 from by omega]at f;cases i:sv d many p with
  | false=>
   have f:=λo a b=>f o a b (λL=>by have:=hQ L;rwa [KP,i,Cc]at this);clear D hQ;unfold sv NO at i;obtain⟨l,x,st,lf,dd⟩:=d;have T:(H.get ⟨0,2,0,0⟩).isSome=true:=by rw[b2];rfl
   simp only[Dk.val,dR]at *;clear c;refine lN _ _ _ _ _ λg=>?_;by_cases I:p.pos<2048
   ·have w : ¬(2048:Int)<=p.pos:=(by omega);cases n:gV p.bs with
    | false=>rw[n,if_neg (by decide)]at u;simp only[Hd.val]at u;clear i;simp[ak, *,cf,j.idx];exact f _ (by simp(maxDischargeDepth:=12) [eR, *]) (by simp(maxDischargeDepth:=12) [eR, *])
    | true=>
     rw[n,if_pos rfl]at u;simp only[n,iQi I,ig]at i;generalize du p.bs=h at *;obtain⟨t,q,A,C⟩:=h;simp only[Hd.val]at u;simp only[G1]at i;obtain⟨J,G,y⟩:=i;have J:=of_decide_eq_false J;have G:=of_decide_eq_false G;by_cases N:q=many+1
     ·by_cases M:t=st
      ·cases dd with| false=>simp[N,M]at y| true=>clear y;simp[ak, *,cf,j.idx];exact f _ (by simp(maxDischargeDepth:=12) [eR, *]) (by simp(maxDischargeDepth:=12) [eR, *])
      clear y;simp[ak, *,cf,j.idx];exact f _ (by simp(maxDischargeDepth:=12) [eR, *]) (by simp(maxDischargeDepth:=12) [eR, *])
     clear y;simp[ak, *,cf,j.idx];exact f _ (by simp(maxDischargeDepth:=12) [eR, *]) (by simp(maxDischargeDepth:=12) [eR, *])
   have w:(2048:Int)<=p.pos:=(by omega);clear i u;simp[ak, *,cf,j.idx];first | done | exact f _ (by simp(maxDischargeDepth:=12) [eR, *]) (by simp(maxDischargeDepth:=12) [eR, *])
  | true=>
   have m : ∀o,Q (aB false) o:=λo=>by have:=hQ o;rwa [KP,i,iQT]at this
   clear D hQ f;unfold sv NO at i;obtain⟨l,x,st,lf,dd⟩:=d;have T:(H.get ⟨0,2,0,0⟩).isSome=true:=by rw[b2];rfl
   simp only[Dk.val,dR]at *;clear c;simp only[bI,iQb]at i;obtain⟨I,n,i⟩:=i;have w : ¬(2048:Int)<=p.pos:=by omega
   rw[n,if_pos rfl]at u;generalize du p.bs=h at *;obtain⟨t,q,A,C⟩:=h;simp only[Hd.val]at u;simp only[jf,bI,iQb,ij]at i;refine lN _ _ _ _ _ λg=>?_;by_cases F:st<t;·clear i;simp[ak, *,cf,j.idx];try exact m _
   by_cases E:many+1<q;·clear i;simp[ak, *,cf,j.idx];try exact m _
   obtain⟨rfl,rfl,rfl⟩:q=many+1/\t=st/\dd=false:=(by simpa [F,E] using i);clear i F E;simp[ak, *,cf,j.idx];try exact m _
theorem Pu:ay env 93 [d.val,aI many]=some (aB (!d.l.any (sv d many))):=by
 refine aH rfl (by kernel_rfl) (xr _ _ _ _ λg=>?_);have a:=Nf c e (Q:=λv H=>ed env 93 v H (aB (!d.l.any (sv d many)))) d.l 0 [(⟨0,2,0,0⟩,some ⟨4,[d.val],false,false⟩)] rfl (by omega) (by simp(maxDischargeDepth:=12) [eR, *]) (by rfl) (λh=>by simp);have f:=c.sl.r;clear c;generalize d.l.any (sv d many)=b at *;obtain⟨l,x,st,lf,dd⟩:=d;simp only[Dk.val,dR]at *;simp[ak, *,qR];first | done | exact a
end
def Ny(E:List AV):cK 24 E=aY\/cK 24 E = .bE 24 E none:=by
 unfold cK;split;·exact .inl rfl
 exact .inr rfl
def MR(d:Dk):Bool:=decide ((d.sC.length:Int)=d.cur.2) && !d.l.any (sv d (d.cur.2+d.ud.1.length))
section
variable{d:Dk}(c:d.vm)
include c
theorem SI(o:d.may=true):ay env 58 [d.val]=some (if MR d then .tup [vi d (cK 24 (ao (cX d.all))) d.cur.1 d.cur.2 d.ud.2,aB true] else .tup [lC,aB false]):=by
 refine aH rfl (by kernel_rfl) (yn _ _ _ λg=>?_);have v:=SB c o;have q:=IS d;have u:=Vc c o (area:=0) (nu:=d.cur.2) (most:=2048) (by omega) (by omega);rw[iQV,show eC d 0 d.cur.2 2048 2049 0 0=d.ud from rfl]at u;have h:=LS d;have f:=LW d;have G:=c.sl.r;unfold MR;by_cases a:(d.sC.length:Int)=d.cur.2
 ·have B:=iQa (d.cur.2+d.ud.1.length) (by omega);have z:=Pu c (many:=d.cur.2+d.ud.1.length) (by omega);have i:=gZ 24 (ao (cX d.sC));have j:=gZ 24 (ao (cX d.ud.1));have r1:=i.r;have r2:=j.r;have C:=i.kI;have J:=j.kI;have D1:(ao (cX d.sC)).length=d.sC.length:=by simp
  have wM:(ao (cX d.ud.1)).length=d.ud.1.length:=(by simp);rw[show ao (cX d.all)=ao (cX d.sC)++ao (cX d.ud.1) by simp[cX,Dk.all,ao]];rw[iQi a,ig];rw[iQi a]at v;clear o;generalize d.l.any (sv d (d.cur.2+d.ud.1.length))=b at *;generalize d.ud.2=at' at *;have w:d.sC.length<=2049:=f.2;have y:d.ud.1.length<=2049:=h.2;rw[fl,qE]at r1 r2;clear h f;generalize ao (cX d.sC)=E1 at *;generalize ao (cX d.ud.1)=E2 at *;generalize d.sC.length=n1 at *;generalize d.ud.1.length=n2 at *;generalize d.cur=m at *;obtain⟨t,F⟩:=m;simp only at *;clear c q;obtain⟨l,x,st,lf,dd⟩:=d;simp only[Dk.val,dR,lC,vi]at *;subst a;have D:n1 * 160<=140737488355328:=by omega
  have H:n2 * 160<=140737488355328:=(by omega);have E:(n1+n2) * 160<=140737488355328:=(by omega);have k : ∀b:Bool,(if (!b)=true then (AV.tup [.agg [x,aI st,aI lf,aB dd,cK 24 (E1++E2),aI t,aI n1,aI at'],aB true]) else .tup [.agg [aY,aI 0,aI 0,aB false,aY,aI 0,aI 0,aI 0],aB false]) =
   if b then .tup [.agg [aY,aI 0,aI 0,aB false,aY,aI 0,aI 0,aI 0],aB false] else .tup [.agg [x,aI st,aI lf,aB dd,cK 24 (E1++E2),aI t,aI n1,aI at'],aB true]:=λb=>by cases b<;>rfl
  rw[k];clear k;by_cases n:E1=[]<;>by_cases p:E2=[]
  ·subst n;subst p;obtain rfl:n1=0:=by simpa using D1.symm
   obtain rfl:n2=0:=(by simpa using wM.symm);rw[sf];rw[show cK 24 []=aY from rfl]at *;simp only[Dp,KL,AG]at *;cases b<;>simp[ak, *,gp,aa.ad]
  ·subst n;obtain rfl:n1=0:=by simpa using D1.symm
   rw[sf];rw[show cK 24 []=aY from rfl]at *;rw[ji 24 p]at *;simp only[Dp,KL,AG]at *;cases b<;>simp[ak, *,gp,aa.ad]
  ·subst p;obtain rfl:n2=0:=by simpa using wM.symm
   rw[tg];rw[show cK 24 []=aY from rfl]at *;rw[ji 24 n]at *;simp only[Dp,KL,AG]at *;cases b<;>simp[ak, *,gp,aa.ad]
  rw[ji 24 (show E1++E2≠[] by simp[n])];rw[ji 24 n]at *;rw[ji 24 p]at *;have I:kJ 24 160 n1 true none (some ⟨24,E1,true,false⟩) (some E2):=by rw[ax,D1];exact⟨rfl,rfl,.inr ⟨by simp;omega,rfl⟩⟩
  cases b<;>simp[ak, *,gp,aa.ad]
 rw[iQh a]at v ⊢;simp only[oY,gB,iQe];have r1:=(gZ 24 (ao (cX d.sC))).r;have s:=a;have A:=Ny (ao (cX d.sC));have D1:(ao (cX d.sC)).length=d.sC.length:=by simp
 generalize cK 24 (ao (cX d.sC))=o1 at *;generalize d.cur=m at *;clear c o a h f u;rw[fl,qE]at r1;generalize d.sC.length=n1 at *;generalize ao (cX d.sC)=E1 at *;obtain⟨l,x,st,lf,dd⟩:=d;simp only[Dk.val,dR,lC]at *;rcases A with rfl | rfl<;>simp[ak, *,gp,aa.ad]
end
def Up{d:Dk}{p at' nu:Int}{r:dY}{k:Nat}(h:o4 d p at' nu=some (r,k)):r.op.l.length<=64:=by
 unfold o4 at h;split at h;·cases h
 split at h
 ·rename_i g e;cases a:xM (fE d p (du (d.rd p)).of.toNat) with
  | none=>rw[a]at h;cases h
  | some q=>
   rw[a]at h;simp only[Option.map_some,eS,tf]at h;obtain⟨b,m⟩:=h;rw[<-b];unfold xM at a;split at a;·cases a;exact we _
   cases a
 cases h
def Ra{d:Dk}{p nu most:Int} : ∀(m:Nat)(at':Int)(n:Nat),∀r∈(eC d p nu most m at' n).1,r.op.l.length<=64:=by
 intro m;induction m with
 | zero=>intro at' n r a;cases a
 | succ m g=>
  intro at' n;unfold eC;split
  ·split
   ·rename_i r k e;intro q b;rcases fR.1 b with rfl | b
    ·exact Up e
    exact g _ _ q b
   intro r a;cases a
  intro r a;cases a
def adG(d:Dk) : ∀r∈d.all,r.op.l.length<=64:=by
 intro r a;rcases mS.1 a with h | h
 ·exact Ra _ _ _ r h
 exact Ra _ _ _ r h
def ab5{l:List dY}(h : ∀r∈l,r.op.l.length<=64) : ∀p∈cX l,p.1.op.l.length<100000:=by
 intro p hp;obtain⟨r,a,rfl⟩:=mo.1 hp;have:=h r a;show r.op.l.length<100000;omega
def ofG(d:Dk):AV:=if ND d=0 then .tup [vi d.rt (cK 24 (ao (cX d.all))) d.cur.1 d.cur.2 d.ud.2,aI 0] else .tup [lC,aI (ND d)]
def YB{d:Dk}(a:d.vm):ay env 27 [d.val]=some (ofG d):=by
 refine aH rfl (by kernel_rfl) (Aq _ _ _ λg=>?_);have n:=Vk a;have D:=a.sl.r;unfold ofG ND;cases hm:d.may with
 | false=>rw[hm]at n;clear a hm;obtain⟨l,x,st,lf,dd⟩:=d;simp only[Dk.val,dR,lC,gB,iQe,show ¬(8:Int)=0 by decide]at *;simp[ak, *,jS,aa.ad]
 | true=>
  rw[hm]at n;simp only[if_true]at n ⊢;by_cases k:d.st<1;·simp only[if_pos k,show ¬(2:Int)=0 by decide,iQe];clear a hm;obtain⟨l,x,st,lf,dd⟩:=d;simp only[Dk.val,dR,lC]at *;simp[ak, *,jS,aa.ad]
  simp only[if_neg k];have E:=SI a hm;have t:=Kd a (Rv hm) (gZ 24 (ao (cX d.all))) (HV (Mj d).1) (ab5 (adG d)) (by have:=(Mj d).2;simp;omega) (g1:=d.cur.1) (k1:=d.cur.2) (a1:=d.ud.2);rw[XY]at t;have v:=(xF a).sl.r;have q:=gZ 24 (ao (cX d.all));have w:=q.r;have u:(if (d.sC.length:Int)=d.cur.2 then (if d.l.any (sv d (d.cur.2+d.ud.1.length))=true then (8:Int) else 0) else 8)=if MR d then 0 else 8:=by
   unfold MR;by_cases h:(d.sC.length:Int)=d.cur.2;·rw[if_pos h,iQi h,ig];cases d.l.any (sv d (d.cur.2+d.ud.1.length))<;>rfl
   rw[if_neg h,iQh h,oY];rfl
  rw[u];have y:=Ny (ao (cX d.all));generalize MR d=b at *;generalize cK 24 (ao (cX d.all))=o at *;generalize d.ud.2=a2 at *;generalize d.cur=m at *;generalize d.rt=e at *;obtain⟨A,z⟩:=m;clear u a hm q;obtain⟨l,x,st,lf,dd⟩:=d;obtain⟨B,C,st',lf',dd'⟩:=e;cases b with
  | true=>simp only[Dk.val,dR,lC,vi,if_true]at *;simp[ak, *,jS,aa.ad]
  | false=>clear t v w y;simp only[Dk.val,dR,lC,vi,gB,iQe,show ¬(8:Int)=0 by decide]at *;simp[ak, *,jS,aa.ad]
def Ko(n:Int)(r:Dk):AV:=if n < -1\/2147483648<=n then .tup [lC,aI 2] else .tup [vi r aY 0 0 0,aI 0]
def Vj(n:Int):ay env 28 [aI n]=some (Ko n (fresh n)):=by
 refine aH rfl (by kernel_rfl) (zq _ _ _ λg=>?_);have h:=abY;have e:=Sv (l:=[]) (x:=aY) (st:=0) (lf := -1) (dd:=false) (.inl ⟨rfl,rfl⟩) (λs f=>by cases f) (by simp) n (by omega);unfold Ko;by_cases a:n < -1;·rw[if_pos (.inl a)];simp only[dR,lC]at *;simp[ak, *,lu]
 by_cases b:2147483648<=n;·rw[if_pos (.inr b)];simp only[dR,lC]at *;simp[ak, *,lu]
 rw[if_neg (by omega)];simp only[dR,fresh,vi]at *;simp[ak, *,lu]
section
variable{d:Dk}(f:Sl 2 (bt d.l) d.x)(c : ∀s∈d.l,fM s){l:List (dY × AV)}{x:AV}(i:Sl 24 (ao l) x)(j : ∀p∈l,Sl 1 (rows p.1.op.l) p.2)
include f c i j
theorem HR(g k a:Int) : ∃b:Bool,ay env 24 [vi d x g k a]=some (aB b)/\(b=false->d.l.length<=200/\l.length<=100 /\∀p∈l,p.1.op.l.length<=200):=by
 obtain⟨b,v,m⟩:=Ri (st:=d.st) (lf:=d.lf) (dd:=d.dd) f c;obtain⟨t,w,e⟩:=ab2 i j 100;refine⟨b||t,?_,λh=>?_⟩;·refine aH rfl (by kernel_rfl) (xt _ _ _ λg=>?_);have u:=f.r;have o:=i.r;clear f c i j e m;obtain⟨l,x,st,lf,dd⟩:=d;simp only[dR,vi]at *;cases b<;>simp[ak, *,qS]
 rw[G1]at h;obtain⟨n,q⟩:=e h.2;exact⟨m h.1,by omega,λp hp=>n p (by rw[dM (by omega)];exact hp)⟩
end
def YD(m:UInt8)(u:UInt8)(a_3:UInt32)(k:UInt8)(n:Int)(t:UInt8)(s:UInt32)(o:UInt8)(q:Int)(i:Int)(c:UInt8)(d:UInt32)(j:UInt8)(h:Int)(e:UInt8)(f:UInt32){l:List Int}(y:l.length<100000):ay env 94 [.agg [a8 m,a8 u,bY a_3,a8 k,aI n,a8 t,bY s,a8 o,aI q,aI i,a8 c,bY d,a8 j,aI h,a8 e,bY f,cK 1 (rows l)]]=some (.agg [a8 m,a8 u,bY a_3,a8 k,aI n,a8 t,bY s,a8 o,aI q,aI i,a8 c,bY d,a8 j,aI h,a8 e,bY f,cK 1 (rows l)]):=by
 have v:=Sy (gZ 1 (rows l)) (by omega) (by omega);have z:=(gZ 1 (rows l)).r;by_cases w:rows l=[];·rw[w]at v ⊢;rw[show cK 1 []=aY from rfl]at *;rw[W1]at v;refine aH rfl (by kernel_rfl) (Hr _ _ _ λg=>?_);simp[ak, *,Dg]
 rw[ji 1 w]at *;rw[BR 1 none w]at v;have x:(rows l).length=l.length:=by simp
 generalize rows l=rw' at *;refine aH rfl (by kernel_rfl) (Hr _ _ _ λg=>?_);simp[ak, *,Dg]
def U8{p:dY × AV}(hp:p.2=cK 1 (rows p.1.op.l))(D:p.1.op.l.length<100000):ay env 62 [p.1.val p.2]=some (p.1.val p.2):=by
 obtain⟨⟨k,u,⟨q,⟨C,a_3,n⟩,s,⟨⟨⟨B,A,t⟩,z⟩,j⟩,⟨⟨d,e,m⟩,i⟩,⟨f,h⟩,l⟩,c,g1,v,w,o⟩,x⟩:=p;simp only at hp D;subst hp;have F:=YD q C a_3 n s B A t z j d e m i f h D;have E:=(gZ 1 (rows l)).r;generalize cK 1 (rows l)=y at *;refine aH rfl (by kernel_rfl) (Ho _ _ _ λg=>?_);unfold dY.val;simp[ak, *,Br]
def Vy{L:List (dY × AV)}(h:L.length<100000):ay env 61 [cK 24 (ao L)]=some (A0 24 (ao L)):=by
 have d:(ao L).length=L.length:=fl L;by_cases c:ao L=[]
 ·rw[c];rw[show cK 24 []=aY from rfl,Nz];refine aH rfl (by kernel_rfl) (eA _ _ _ λg=>?_);have f:bZ env.P .eql 25 (.tmp 3) (.const (.slice none 0 0)) (some aY) (some aY)=some (aB true,[]):=by kernel_rfl
  simp[ak, *,cI]
 rw[ji 24 c,DO 24 c];have i:0<L.length:=(by have:=yd.2 c;omega);generalize ao L=E at *;refine aH rfl (by kernel_rfl) (eA _ _ _ λg=>?_);have e:L.length * 160<=140737488355328:=by omega
 simp[ak, *,cI]
section
variable{L:List (dY × AV)}(b : ∀p∈L,p.2=cK 1 (rows p.1.op.l)/\p.1.op.l.length<100000)(a:L.length<100000){st lf g1 k1 a1:Int}{dd:Bool}
include b a
theorem UM{y:AV}(P:y.cells=[y]/\y.one=true){B7:Option bC}{n:Nat}(I:L.length=n){Q:AV->aa->Prop}(x : ∀i,i.get ⟨0,10,0,0⟩=some ⟨24,ao L,true,false⟩->i.get ⟨0,7,0,0⟩=B7->Q (.agg [y,aI st,aI lf,aB dd,.ct ⟨0,10,0,0⟩ 0 n none,aI g1,aI k1,aI a1]) i) :
 ∀(m k:Nat)(H:aa),k+m=n->Fr H->H.get ⟨0,1,0,0⟩=some ⟨8,[.agg [y,aI st,aI lf,aB dd,.ct ⟨0,10,0,0⟩ 0 n none,aI g1,aI k1,aI a1]],false,false⟩->H.get ⟨0,2,0,0⟩=some ⟨8,[lC],false,false⟩ ->
 H.get ⟨0,10,0,0⟩=some ⟨24,ao L,true,false⟩->H.get ⟨0,7,0,0⟩=B7 ->
 cy env Tryz.f29 0 qZ [(16,aI k),(1,.ptr ⟨0,1,0,0⟩ 0 0),(14,.ct ⟨0,10,0,0⟩ 0 n none),(2,.ptr ⟨0,2,0,0⟩ 0 0),(15,aI n)] H Q:=by
 have A:(ao L).length=n:=by rw[fl,I]
 intro m;induction m with
 | zero=>
  intro k H K G q f c D;obtain rfl:k=n:=by omega
  have F:(H.get ⟨0,1,0,0⟩).isSome=true:=by rw[q];rfl
  have J:(H.get ⟨0,2,0,0⟩).isSome=true:=by rw[f];rfl
  have s:(H.get ⟨0,10,0,0⟩).isSome=true:=by rw[c];rfl
  clear b;generalize ao L=E at *;simp only[lC]at f;refine uQ _ _ _ _ _ _ _ λg=>?_;simp[ak, *,ri,aa.ad];first | done | exact x _ (by simp(maxDischargeDepth:=12) [eR, *]) (by simp(maxDischargeDepth:=12) [eR, *])
 | succ m C=>
  intro k H K G q f c D;have u:k<L.length:=by omega
  have e:L[k]?=some L[k]:=eu u;obtain⟨t,B⟩:=b L[k] (fj _);have w:=U8 t B;have R:=iQa ((k:Int)+1) (by omega);have o:bP (ao L) k 0 24 true=some (L[k].1.val L[k].2):=by simp[ao,e,dY.val]
  have d:fS (ao L) k 0 (L[k].1.val L[k].2).cells=some (ao L):=(by have h:(ao L)[k]?=some (L[k].1.val L[k].2):=(by simp[ao,e]);unfold fS;rw[h];show some ((ao L).set k (L[k].1.val L[k].2))=_;obtain⟨q,f⟩:=fg.1 h;rw[<-f,List.set_getElem_self q]);have z:=(gZ 1 (rows L[k].1.op.l)).r;rw[<-t]at z;have M:(k:Int)<n:=by omega
  have v:k<n:=(by omega);have j:=λi=>C (k+1) i (by omega);rw[show((k+1:Nat):Int)=(k:Int)+1 from by omega]at j;have F:(H.get ⟨0,1,0,0⟩).isSome=true:=by rw[q];rfl
  have J:(H.get ⟨0,2,0,0⟩).isSome=true:=by rw[f];rfl
  have s:(H.get ⟨0,10,0,0⟩).isSome=true:=by rw[c];rfl
  clear C x b t B e;generalize L[k]=p at *;obtain⟨O,N⟩:=p;unfold dY.val at w o d;simp only[AV.cells]at d;generalize ao L=E at *;simp only at w o d z;refine uQ _ _ _ _ _ _ _ λg=>?_;simp[ak, *,ri,uy];exact j _ (by simp(maxDischargeDepth:=12) [eR, *]) (by simp(maxDischargeDepth:=12) [eR, *]) (by simp(maxDischargeDepth:=12) [eR, *]) (by simp(maxDischargeDepth:=12) [eR, *]) (by simp(maxDischargeDepth:=12) [eR, *])
theorem Yr{d:Dk}(f:d.vm)(u : ∀s∈d.l,s.bs.length<1000000000):ay env 29 [vi d (cK 24 (ao L)) g1 k1 a1]=some (.agg [OJ d.x d.l,aI d.st,aI d.lf,aB d.dd,A0 24 (ao L),aI g1,aI k1,aI a1]):=by
 refine aH rfl (by kernel_rfl) (Ji _ _ _ λg=>?_);have z:=M9 (st:=d.st) (lf:=d.lf) (dd:=d.dd) f.sl f.ok u (by have:=f.len;omega);have A:=Vy a;have v:=f.sl.r;have m:=Dz f.sl;obtain⟨t,w,st,lf,dd⟩:=d;simp only at z v m ⊢;generalize bt (zH t)=W at *;generalize OJ w t=Y at *;clear f u;simp only[vi,dR]at *;by_cases j:ao L=[]
 ·have o:L=[]:=by simpa [ao] using j
  subst o;clear b a;clear j;rw[show cK 24 (ao [])=aY from rfl,show A0 24 (ao [])=aY from rfl]at *;rcases m with ⟨rfl,k⟩ | rfl | ⟨rfl,k⟩<;>simp[ak, *,qP,aa.ad]
  all_goals
   refine uQ _ _ _ _ _ _ _ λg=>?_
   simp[ak, *,ri,aa.ad]
 have c:(ao L).length=L.length:=fl L;have e:=λ(y:AV) hy B7 Q hQ H=>UM (st:=st) (lf:=lf) (dd:=dd) (g1:=g1) (k1:=k1) (a1:=a1) b a (y:=y) hy (B7:=B7) rfl (Q:=Q) hQ L.length 0 H (by omega);clear b;rw[ji 24 j,DO 24 j]at *;generalize ao L=E at *;generalize L.length=n at *;simp only[lC]at e;rcases m with ⟨rfl,k⟩ | rfl | ⟨rfl,k⟩
 ·simp[ak, *,qP,aa.ad];refine e aY ?_ none _ ?_ _ ?_ ?_ ?_ ?_ ?_;·exact⟨rfl,rfl⟩
  ·intro q h i;simp[h,c]
  ·exact(by simp(maxDischargeDepth:=12) [Gk, *])
  all_goals simp[aa.get]
 ·simp[ak, *,qP,aa.ad];refine e (.ct ⟨0,7,0,0⟩ 0 W.length none) ?_ (some ⟨2,W,true,false⟩) _ ?_ _ ?_ ?_ ?_ ?_ ?_;·exact⟨rfl,rfl⟩
  ·intro q h i;simp[h,i,c]
  ·exact(by simp(maxDischargeDepth:=12) [Gk, *])
  all_goals simp[aa.get]
 simp[ak, *,qP,aa.ad];refine e (.ct ⟨0,7,0,0⟩ 0 0 (some 0)) ?_ (some ⟨2,[],true,false⟩) _ ?_ _ ?_ ?_ ?_ ?_ ?_;·exact⟨rfl,rfl⟩
 ·intro q h i;simp[h,i,c]
 ·exact(by simp(maxDischargeDepth:=12) [Gk, *])
 all_goals simp[aa.get]
end
def WK{n:Int}(h : -1<=n/\n<2147483648):ofA (fresh n) = .tup [vi (fresh n) aY 0 0 0,aI 0]:=by
 have g:=Tx h;have c:(fresh n).cur=(0,0):=rfl;have e:(fresh n).sC=[]:=by
  unfold Dk.sC;rw[c];rfl
 have j:o4 (fresh n) (0+0) 0 (0+((0:Nat):Int)+1)=none:=rfl;have d:(fresh n).ud=([],0):=by
  unfold Dk.ud;rw[c];show eC (fresh n) 0 0 2048 2049 0 0=_;unfold eC;rw[if_pos (by decide),j]
 have i:ND (fresh n)=0:=by
  unfold ND;rw[g,e,c,d,if_pos rfl];rfl
 unfold ofA;rw[if_pos i,c,d];have f:(fresh n).all=[]:=by
  unfold Dk.all;rw[e,d];rfl
 rw[f];rfl
def Ys(n:Int):ay env 8 [aI n]=some (Ko n (fresh n)):=by
 refine aH rfl (by kernel_rfl) (Lh _ _ _ λg=>?_);have f:=agf;unfold Ko;by_cases h:n < -1\/2147483648<=n;·rw[if_pos h];have c:=Na (l:=[]) (x:=aY) (st:=0) (lf := -1) (dd:=false) (.inl ⟨rfl,rfl⟩) (λs e=>by cases e) (by simp) n;rw[if_pos (by decide),if_pos h]at c;simp only[dR,lC,GK]at *;clear h;simp[ak, *,zZ]
 rw[if_neg h];have c:=YI (n:=n) (by omega);have d:=ajH (Ty n);rw[WK (by omega)]at d;clear h;simp only[fresh,Dk.val,dR,vi,GK]at *;simp[ak, *,zZ]
end
end Go.Proofs.YtiidajnodhkidaaGreat
