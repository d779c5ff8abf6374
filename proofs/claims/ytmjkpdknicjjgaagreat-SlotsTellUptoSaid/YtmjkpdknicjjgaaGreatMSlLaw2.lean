/-
  Records and their blocks: what is put is got; what is mixed is no record. No statement of a seat is proved here.
-/
import Derived.Test.YtmjkpdknicjjgaaGreatMRecGet
import Derived.Test.YtmjkpdknicjjgaaGreatMSlSpoil
set_option linter.unusedVariables false
set_option linter.unusedSimpArgs false
set_option linter.unusedSectionVars false
set_option linter.unnecessarySimpa false
set_option maxRecDepth 1000000
set_option linter.defProp false
namespace Go.Proofs.YtmjkpdknicjjgaaGreat
open Go.Ab
section
def Wk{a b:fX}(h:oI a b=true):a=b:=by
 obtain⟨G,⟨v,a_3,K⟩,E,⟨⟨⟨w,z,H⟩,I⟩,l⟩,⟨⟨i,q,m⟩,p⟩,⟨e,k⟩,L⟩:=a;obtain⟨B,⟨C,J,u⟩,x,⟨⟨⟨F,y,A⟩,D⟩,s⟩,⟨⟨d,g,n⟩,o⟩,⟨j,t⟩,M⟩:=b;simp[oI]at h;simp[h]
def Vo{a b:dw}(h:nw a b=true):a=b:=by
 obtain⟨n,t,v,m,u,q,p,a8⟩:=a;obtain⟨b1,b2,b3,b4,b5,b6,s,o⟩:=b;simp only[nw,bo,iQb]at h;obtain⟨j,f,g,e,k,⟨d,l⟩,i⟩:=h;rw[j,f,Wk g,e,k,d,l,i]
def Pn(a:dw):nw a a=true:=by simp[nw,oI]
def RO{b:Type}(p:List b)(a d:b)(t:List b){n:Nat}(h:p.length=n):(p++a :: t).getD n d=a:=by subst h;simp[List.getD]
def Na{st nu of i:Int}{x:List UInt8}(h:x.length<=119):(nk st nu of i x).length=128:=by simp[nk];omega
def tv{st nu a of:Int}:kW st nu a of=true↔1<=st/\st<2147483648/\1<=nu/\nu<16777216/\1<=of/\of<=4/\0<=a/\a<of:=by
 simp only[kW,bo,iQb,and_assoc]
def ZZ{st nu of i:Int}{x:List UInt8}(a:x.length<=119)(c:kW st nu i of=true):dk (nk st nu of i x)=⟨st,nu,i,of⟩/\iy (nk st nu of i x)=true:=by
 obtain⟨p,f,m,l,q,k,s,o⟩:=tv.1 c;have e:dk (nk st nu of i x)=⟨st,nu,i,of⟩:=by
  have g:(nk st nu of i x).take 4=be 4 st:=xW (Fa 4 st);have j:((nk st nu of i x).drop 4).take 3=be 3 nu:=(by rw[show(nk st nu of i x).drop 4=be 3 nu++([u8 i,u8 of]++(x++List.replicate (119 - x.length) 0)) from BU (Fa 4 st)];exact xW (Fa 3 nu));have d:(nk st nu of i x).getD 7 0=u8 i:=(by have:=RO (be 4 st++be 3 nu) (u8 i) 0 (u8 of :: (x++List.replicate (119 - x.length) 0)) (n:=7) (by simp);rw[<-this];simp[nk]);have b:(nk st nu of i x).getD 8 0=u8 of:=(by have:=RO (be 4 st++(be 3 nu++[u8 i])) (u8 of) 0 (x++List.replicate (119 - x.length) 0) (n:=8) (by simp);rw[<-this];simp[nk]);unfold dk;rw[g,j,d,b,CK (by omega) (by omega),CK (by omega) (by omega),CM,CM];congr 1<;>omega
 refine⟨e,?_⟩;unfold iy;rw[e,Na a];simpa using c
def EN(st nu of:Int) : ∀(l:List (List UInt8)) (i:Int) (k:Nat),(qW st nu of i l)[k]?=(l[k]?).map (nk st nu of (i+k))
 | [],_,_=>rfl
 | x :: l,i,0=>by simp[qW]
 | x :: l,i,k+1=>by
  rw[qW,GX,GX,EN st nu of l (i+1) k];congr 2;omega
def Kb : ∀(m:Nat)(s:List UInt8),∀x∈ES m s,x.length<=119
 | 0,_,x,h=>by cases h
 | m+1,s,x,h=>by
  rw[ES]at h;split at h;·cases h
  rcases fh.1 h with rfl | h
  ·simp;omega
  exact Kb m _ x h
def Im : ∀(m:Nat)(s:List UInt8),s.length<=119 * m->(ES m s).length=(s.length+118) / 119
 | 0,s,h=>by rw[show s.length=0 by omega];rfl
 | m+1,s,h=>by
  rw[ES];split;·rename_i e;rw[e];rfl
  rename_i e;have hp:0<s.length:=Da.2 e;rw[gD,Im m (s.drop 119) (by rw[oD];omega),oD];omega
def Ol(st nu of:Int) : ∀(m:Nat)(s:List UInt8)(i:Int),s.length<=119 * m ->∃z,ib (qW st nu of i (ES m s))=s++List.replicate z 0
 | 0,s,i,h=>⟨0,by rw[show s=[] from wU.1 (by omega)];rfl⟩
 | m+1,s,i,h=>by
  rw[ES];split;·rename_i e;exact⟨0,by rw[e];rfl⟩
  rename_i e;obtain⟨z,b⟩:=Ol st nu of m (s.drop 119) (i+1) (by rw[oD];omega);have d:(nk st nu of i (s.take 119)).drop 9=s.take 119++List.replicate (119 - (s.take 119).length) 0:=by
   have:nk st nu of i (s.take 119)=(be 4 st++(be 3 nu++[u8 i,u8 of]))++(s.take 119++List.replicate (119 - (s.take 119).length) 0):=(by simp[nk]);rw[this];exact BU (by simp)
  have g:ib (qW st nu of i (s.take 119 :: ES m (s.drop 119)))=(s.take 119++List.replicate (119 - (s.take 119).length) 0)++(s.drop 119++List.replicate z 0):=(by rw[<-b,<-d];simp[ib,qW]);rw[g];by_cases a:s.length<=119;·refine⟨119 - s.length+z,?_⟩;rw[dq a,ya a,sO,qP,UB]
  refine⟨z,?_⟩;rw[ku,show 119 - min 119 s.length=0 by omega,KR,rI,<-qP,BY]
def kX{r:dw}(h:bT r=true)(st nu:Int):(bK r st nu).length=fj r:=by
 unfold bK;rw[EM,Im 3 _ (zH h).1];rfl
def D4{r:dw}{st nu:Int}(c:kW st nu 0 (fj r)=true){i:Nat}{b:List UInt8}(a:(bK r st nu)[i]?=some b)(hi:i<fj r):dk b=⟨st,nu,i,fj r⟩/\iy b=true/\b.length=128:=by
 unfold bK at a;rw[EN,bI]at a;obtain⟨x,g,rfl⟩:=a;have d:=Kb 3 _ x (dJ g);obtain⟨l,f,k,j,m,e,o,n⟩:=tv.1 c;have:=ZZ (st:=st) (nu:=nu) (of:=fj r) (i:=0+(i:Int)) d (tv.2 ⟨l,f,k,j,m,e,by omega,by omega⟩);rw[show(0:Int)+i=i by omega]at this;rw[show(0:Int)+i=i by omega];exact⟨this.1,this.2,Na d⟩
def Qd{l:List (List UInt8)}{p:dw × Hd}(h:zT l=some p) : ∀(i:Nat)(b:List UInt8),l[i]?=some b->dk b=⟨p.2.st,p.2.nu,i,l.length⟩:=by
 intro i b e;unfold zT at h;split at h;·rename_i g;cases h;simp only[bo,yV,iQb]at g;obtain⟨n,m,⟨k,c⟩,j⟩:=g;have a:=kX k (dk (l.headD [])).st (dk (l.headD [])).nu;rw[j]at a;have hi:=(ee.1 e).1;have d:=e;rw[<-j]at d;have:=D4 c d (by omega);rw[this.1,a]
 cases h
def Uc{B:List (List UInt8)}{k:Nat}{b:List UInt8}(h:B[k]?=some b):(dE B)[k]?=some (.bg 1 (au b) none):=by simp[dE,h,I2]
def Ib{B:List (List UInt8)}{k:Nat}{b:List UInt8}(h:B[k]?=some b):bF (dE B) k 0 1 false=some (.bg 1 (au b) none):=by
 unfold bF;rw[Uc h];rfl
def T5{B:List (List UInt8)}(h : ∀b∈B,b.length=128)(i:B.length<=4):(ib B).length<100000:=by
 have : ∀B:List (List UInt8),(∀b∈B,b.length=128)->(ib B).length<=128 * B.length:=by
  intro B;induction B with
  | nil=>intro _;simp[ib]
  | cons b B d=>intro h;have g:=d λx a=>h x (j7 _ a);have f:=h b (j6 ..);have e:ib (b :: B)=b.drop 9++ib B:=rfl;rw[e,ja,oD,gD];omega
 have:=this B h;omega
def Xu{B:List (List UInt8)}(h:B≠[]):dE B≠[]:=by simpa [dE] using h
def vx{r:dw}{st nu:Int}(a:bT r=true)(c:kW st nu 0 (fj r)=true) : ∀b∈bK r st nu,b.length=128:=by
 intro b d;obtain⟨i,hi⟩:=List.mem_iff_getElem?.1 d;have:=(ee.1 hi).1;rw[kX a]at this;exact(D4 c hi this).2.2
end
section
structure Dk where
 l:List eb
 x:AV
 st:Int
 lf:Int
 dd:Bool
def Dk.val(d:Dk):AV:=cz d.x d.st d.lf d.dd
structure Dk.sH (d:Dk):Prop where
 sl:Sl 2 (aG d.l) d.x
 ok : ∀s∈d.l,iX s
 len:d.l.length<500000
def Dk.may(d:Dk):Bool:=Eh d.l d.st d.lf d.dd
def Dk.tw(d:Dk):Dk:=⟨mv d.l,vw (Sm d.x d.l),d.st,d.lf,d.dd⟩
def Dk.dead(d:Dk):Bool:=d.dd||decide (d.lf=0)
def Dk.wr(d:Dk)(q:Int)(b:List UInt8):Dk:=
 if d.dead then ⟨mv d.l,vw (Sm d.x d.l),d.st,d.lf,true⟩ else ⟨Jj q b d.l,.bg 2 (aG (Jj q b d.l)) none,d.st,if d.lf>0 then d.lf - 1 else d.lf,false⟩
def Dk.rd(d:Dk)(q:Int):List UInt8:=XW d.l q
def Dk.Md(d:Dk)(q:Int):List (List UInt8)->Dk
 | []=>d
 | b :: B=>(d.wr q b).Md (q+1) B
def Uf : ∀(l:List eb)(a:Int),a<=6145->gp a l=true->(l.length:Int)<=6145 - a:=by
 intro l;induction l with
 | nil=>intro a c _;simp;omega
 | cons p l b=>intro a c h;simp[gp]at h;have:=b p.pos (by omega) h.2;simp only[gD];omega
def vi{d:Dk}(h:d.may=true):gp (-1) d.l=true:=vk h
def LH{d:Dk}(h:d.may=true):d.l.length<=6146:=by
 have:=Uf d.l (-1) (by omega) (vi h);omega
def UZ{d:Dk}(h:d.sH):d.tw.sH:=⟨aaT h.sl,CO _,by show(mv d.l).length<_;rw[Yo];exact h.len⟩
def Pb{d:Dk}:d.tw.may=d.may:=by unfold Dk.may Dk.tw Eh;rw[EE]
def afw(d:Dk)(q:Int)(b:List UInt8):(d.wr q b).st=d.st:=by unfold Dk.wr;split<;>rfl
def CH{d:Dk}(h:d.may=true){q:Int}(e:0<=q/\q<6146){b:List UInt8}(f:b.length=128):(d.wr q b).may=true:=by
 have c:=vi h;unfold Dk.may Eh at h ⊢;unfold Dk.wr;split;·rename_i a;show(gp (-1) (mv d.l)&&_)=true;rw[EE,c];unfold Dk.dead at a;unfold E5 at h ⊢;rw[c]at h;simp only[jH,iQb]at a;rcases a with a | a<;>simp[a]at h ⊢ <;> omega
 rename_i a;show(gp (-1) (Jj q b d.l)&&_)=true;rw[ad6 q b e.2 f d.l (-1) (by omega) c];unfold Dk.dead at a;unfold E5 at h ⊢;rw[c]at h;simp at h a ⊢;obtain⟨g,i⟩:=a;split<;>omega
def K3{d:Dk}(h:d.sH)(e:d.may=true){q:Int}(a:0<=q/\q<6146){b:List UInt8}(c:b.length=128):(d.wr q b).sH:=by
 have:=LH (CH e a c);refine⟨?_,?_,by omega⟩
 ·unfold Dk.wr;split;·exact aaT h.sl
  exact Sl.mk _ _
 unfold Dk.wr;split;·exact CO _
 exact afx q b d.l
def ab3(q:Int)(B:List (List UInt8)) : ∀(d:Dk)(q:Int),(d.Md q B).st=d.st:=by
 induction B with| nil=>intro d q;rfl| cons b B a=>intro d q;show((d.wr q b).Md (q+1) B).st=_;rw[a,afw]
def UD : ∀(B:List (List UInt8)) (d:Dk) (q:Int),d.sH->d.may=true->0<=q->q+B.length<=6146->(∀b∈B,b.length=128)->(d.Md q B).sH/\(d.Md q B).may=true:=by
 intro B;induction B with
 | nil=>intro d q h a _ _ _;exact⟨h,a⟩
 | cons b B f=>intro d q h a i g c;simp only[gD]at g;have b1:=c b (j6 ..);exact f (d.wr q b) (q+1) (K3 h a (by omega) b1) (CH a (by omega) b1) (by omega) (by omega) λx e=>c x (j7 _ e)
def agm{d:Dk}(h:d.sH)(g:d.may=true){q:Int}(e:0<=q/\q<6146){b:List UInt8}{xb:AV}(f:Sl 1 (au b) xb)(a:b.length=128) :
 ar env 24 [d.val,aI q,xb]=some (.tup [(d.wr q b).val,aI 0]):=by
 obtain⟨l,x,st,lf,dd⟩:=d;cases hd:(⟨l,x,st,lf,dd⟩:Dk).dead with
 | true=>
  have c:dd=true\/lf=0:=by unfold Dk.dead at hd;simpa using hd
  have:=MR (st:=st) (lf:=lf) (dd:=dd) h.sl h.ok h.len f g e a c;unfold Dk.wr;rw[hd];exact this
 | false=>
  have c:dd=false /\¬lf=0:=by unfold Dk.dead at hd;simpa using hd
  obtain⟨rfl,i⟩:=c;have:=SF (st:=st) (lf:=lf) h.sl h.ok h.len f g e a i;unfold Dk.wr;rw[hd];rw[UG]at this;exact this
def acw{d:Dk}(h:d.sH)(b:d.may=true){q:Int}(a:0<=q/\q<6146):ar env 59 [d.val,aI q]=some (.tup [.bg 1 (au (d.rd q)) none,aI 0]):=by
 have:=acv (st:=d.st) (lf:=d.lf) (dd:=d.dd) h.sl h.ok (by have:=h.len;omega) (q:=q);rw[if_pos (show Eh d.l d.st d.lf d.dd=true from b),if_pos a,acO]at this;exact this
def PF{d:Dk}(a:d.may=true)(q:Int):(d.rd q).length=128:=by
 have h:=tL d.l (-1) (vi a);unfold Dk.rd;generalize d.l=l at *;clear a d;induction l with
 | nil=>rfl
 | cons p l c=>
  unfold XW;split;·exact c λs b=>h s (j7 _ b)
  split;·exact h p (j6 ..)
  rfl
def HO{d:Dk}(h:d.sH):ar env 20 [d.val]=some (aI (if d.may then 0 else 8)):=Rq (st:=d.st) (lf:=d.lf) (dd:=d.dd) h.sl h.ok (by have:=h.len;omega)
end
section
attribute [local simp] aK az ak ay ax bD kj aM aq aA bA bw aJ aL af aW dq
def HH(a b:Int):ar env 21 [aI a,aI b]=some (aB (decide (0<=a)&&decide (a<=b))):=by
 refine aF rfl (by kernel_rfl) (MB _ _ _ _ λg=>?_);cases h:decide (0<=a)<;>simp[aj, *,FR]
def XF{B:List (List UInt8)}(a : ∀b∈B,b.length=128){area at':Int}(M:0<=area/\area<=2)(E:0<=at'/\at'+B.length<=2048){r10:Ref}{Q:AV->aa->Prop} :
 ∀(s:List (List UInt8)) (k:Nat) (i:Int) (d:Dk) (H:aa),B.drop k=s->k<=B.length->i=k->d.sH->d.may=true->H.get r10=some ⟨4,[d.val],false,false⟩->Fr H ->
 (∀H',Q (.tup [(d.Md (area * 2048+at'+k) s).val,aI (at'+B.length),aI 0]) H') ->
 bS env Tryz.f7 0 pa [(10,.ptr r10 0 0),(70,aI i),(2,aI at'),(1,aI area),(68,.bg 1 (dE B) none),(15,.bg 1 (dE B) none),(69,aI B.length)] H Q:=by
 have L:=iQa (area * 2048) (by omega);have N:=iQa (area * 2048+at') (by omega);have I:=iQa (at'+B.length) (by omega);intro s;induction s with
 | nil=>
  rintro k i d H hs hk rfl e hm hb hF hQ;obtain rfl:=drop_nil hs hk;have h:=hQ;have m:=e.sl.r;obtain⟨l,x,st,lf,dd⟩:=d;simp only[Dk.val,cz,Dk.Md]at hb h m;have A:(H.get r10).isSome=true:=by rw[hb];rfl
  refine jA _ _ _ _ _ _ _ _ _ λg=>?_;clear hQ e hm a;simp[aj, *,ig,aa.ab]
 | cons b s w=>
  rintro k i d H hs hk rfl e hm hb hF hQ;obtain⟨C,z,t,v⟩:=drop_cons hs;have b1:=a b (by rw[<-z];exact eE _);have u:0<=area * 2048+at'+k/\area * 2048+at'+k<6146:=by omega
  have K:=iQa (area * 2048+at'+k) (by omega);have D:=iQa ((k:Int)+1) (by omega);have y:=agm e hm u (Sl.mk 1 (au b)) b1;have n:=K3 e hm u b1;have o:=CH hm u b1;have h : ∀H',Q (.tup [((d.wr (area * 2048+at'+k) b).Md (area * 2048+at'+(k+1:Nat)) s).val,aI (at'+B.length),aI 0]) H':=(by intro H';have:=hQ H';rw[show area * 2048+at'+((k+1:Nat):Int)=area * 2048+at'+k+1 by omega];exact this);have c:=λq H'=>w (k+1) ((k:Int)+1) q H' t (by omega) (by simp);generalize d.wr (area * 2048+at'+k) b=q at *;have c:=λH'=>c q H' n o;have m:=e.sl.r;have p:=n.sl.r;have F:=Ib v;clear w hQ e n hm o a;obtain⟨l,x,st,lf,dd⟩:=d;obtain⟨G,J,st',lf',dd'⟩:=q;simp only[Dk.val,cz]at hb c y m p;have A:(H.get r10).isSome=true:=by rw[hb];rfl
  refine jA _ _ _ _ _ _ _ _ _ λg=>?_;simp[aj, *,ig,aa.ab];exact c _ (by simp(maxDischargeDepth:=12) [dU, *]) (by simp(maxDischargeDepth:=12) [dU, *]) h
def Fc(d:Dk)(area at' nu:Int)(r:dw):Int:=
 if d.may then (if 0<=area/\area<=2/\0<=at'/\at'<=2048/\1<=d.st/\1<=nu/\nu<16777216 then (if bT r then (if at'+fj r<=2048 then 0 else 9) else 8) else 2) else 8
def Dk.app(d:Dk)(area at' nu:Int)(r:dw):Dk:=d.tw.Md (area * 2048+at') (bK r d.st nu)
def ad7(d:Dk)(area at' nu:Int)(r:dw):AV:=
 if Fc d area at' nu r=0 then .tup [(d.app area at' nu r).val,aI (at'+fj r),aI 0] else .tup [kr,aI 0,aI (Fc d area at' nu r)]
section
variable{d:Dk}(e:d.sH)(r:dw){x:AV}(f:Sl 1 (rows r.op.l) x)(j:r.op.l.length<2000000)
include e f j
theorem VQ(area at' nu:Int):ar env 7 [d.val,aI area,aI at',aI nu,r.val x]=some (ad7 d area at' nu r):=by
 refine aF rfl (by kernel_rfl) (Jw _ _ _ _ _ _ _ λg=>?_);have w:=HO e;have hr:=f.r;have q:=e.sl.r;have hp:=MS r f j d.st nu;have f1:=HH area 2;have f2:=HH at' 2048;unfold ad7 Fc;cases hm:d.may with
 | false=>rw[hm]at w;clear hm hp;obtain⟨l,y,st,lf,dd⟩:=d;simp only[Dk.val,cz,kr,eW,iQe]at w q ⊢;unfold dw.val;simp[aj, *,iJ]
 | true=>
  rw[hm]at w;simp only[if_true];by_cases J:0<=area/\area<=2/\0<=at'/\at'<=2048/\1<=d.st/\1<=nu/\nu<16777216
  ·rw[if_pos J];obtain⟨R,O,g3,V,L,g6,g7⟩:=J;have hst:d.st<2147483648:=(by have:=hm;unfold Dk.may Eh E5 at this;simp at this;omega);rw[iQh R,iQh O]at f1;rw[iQh g3,iQh V]at f2;unfold Rv at hp;cases t:bT r with
   | false=>rw[t,if_neg (by decide)]at hp;simp only[eW,iQe,show ¬(8:Int)=0 by decide];clear hm t;obtain⟨l,y,st,lf,dd⟩:=d;simp only[Dk.val,cz,kr]at w q hp L ⊢;unfold dw.val at hp ⊢;simp[aj, *,iJ]
   | true=>
    have hn:=vf t;have G:kW d.st nu 0 (fj r)=true:=(by unfold kW;simp;omega);rw[t,if_pos rfl,G,if_pos rfl]at hp;have m:=kX t d.st nu;have i:=vx t G;simp only[if_true];by_cases o:at'+fj r<=2048
    ·simp only[if_pos o,if_true];have U:=Lq (st:=d.st) (lf:=d.lf) (dd:=d.dd) e.sl e.ok (tL d.l (-1) (vi hm)) (by have:=e.len;omega);have P:=Ge e.sl;have A:=XF (B:=bK r d.st nu) i (area:=area) (at':=at') ⟨R,O⟩ (by omega) (r10:=⟨0,10,0,0⟩) (Q:=λv H=>cU env 7 v H (.tup [(d.app area at' nu r).val,aI (at'+fj r),aI 0]));unfold Dk.app at A ⊢;generalize Z:bK r d.st nu=B at *;obtain⟨b,B',rfl⟩ : ∃b B',B=b :: B':=by
      cases B with| nil=>rw[kS]at m;omega| cons b B'=>exact⟨b,B',rfl⟩
     have b1:=i b (j6 ..);have M:0<=area * 2048+at'/\area * 2048+at'<6146:=by omega
     have C:=UZ e;have s:d.tw.may=true:=by rw[Pb,hm]
     have I:=agm C s M (Sl.mk 1 (au b)) b1;have p:=K3 C s M b1;have z:=CH s M b1;have u : ∀H',cU env 7 (.tup [((d.tw.wr (area * 2048+at') b).Md (area * 2048+at'+1) B').val,aI (at'+fj r),aI 0]) H' (.tup [((d.tw.wr (area * 2048+at') b).Md (area * 2048+at'+1) B').val,aI (at'+fj r),aI 0]):=(by intro H';have E:=(UD B' (d.tw.wr (area * 2048+at') b) (area * 2048+at'+1) p z (by omega) (by simp at m;omega) λb X=>i b (j7 _ X)).1.sl.r;generalize (d.tw.wr (area * 2048+at') b).Md (area * 2048+at'+1) B'=d2 at *;obtain⟨l2,y2,W,lf2,dd2⟩:=d2;simp only[Dk.val,cz]at E ⊢;simp[E]);have a:=λH=>A B' 1 1 (d.tw.wr (area * 2048+at') b) H rfl (by simp) rfl p z;have T:d.tw.Md (area * 2048+at') (b :: B')=(d.tw.wr (area * 2048+at') b).Md (area * 2048+at'+1) B':=rfl;rw[T]at a ⊢;rw[show((1:Nat):Int)=1 from rfl,m]at a;have a:=λH K N=>a H K N u;clear A u;have e1:=iQa (at'+(fj r:Int)) (by omega);have w1:=iQa (area * 2048) (by omega);have w2:=iQa (area * 2048+at') (by omega);have q1:=Ib (B:=b :: B') (k:=0) (b:=b) rfl;have l1:(b :: B').length=fj r:=m;have l2:((dE (b :: B')).length:Int)=fj r:=by rw[vA,l1]
     have l3:0<fj r:=(by omega);have r2 : ¬(2048:Int)<at'+(fj r:Int):=(by omega);generalize ((d.tw.wr (area * 2048+at') b).Md (area * 2048+at'+1) B')=d2 at *;generalize d.tw.wr (area * 2048+at') b=d' at *;have F:=p.sl.r;have n:d'.x=aO \/∃c,d'.x = .bg 2 (aG d'.l) c:=by
      rcases p.sl with ⟨h,_⟩ | ⟨c,h,_⟩
      ·exact .inl h
      exact .inr ⟨c,h⟩
     clear p z C s hm t i G Z e m;obtain⟨l,y,st,lf,dd⟩:=d;obtain⟨l',y',st',lf',dd'⟩:=d';simp only[Dk.val,Dk.tw,cz]at w q hp L U P I a F n ⊢;generalize Sm y l=Y at *;unfold dw.val at hp ⊢;generalize dE (b :: B')=BV at *;rcases P with ⟨rfl,h3⟩ | rfl | ⟨rfl,h3⟩
     ·simp only[vw]at I;simp[aj, *,iJ];refine jA _ _ _ _ _ _ _ _ _ λg=>?_;simp[aj, *,ig,aa.ab];exact a _ (by simp(maxDischargeDepth:=12) [dU, *]) (by simp(maxDischargeDepth:=12) [dU, *])
     ·simp only[vw]at I;rcases n with rfl | ⟨c,rfl⟩
      ·simp[aj, *,iJ];refine jA _ _ _ _ _ _ _ _ _ λg=>?_;simp[aj, *,ig,aa.ab];exact a _ (by simp(maxDischargeDepth:=12) [dU, *]) (by simp(maxDischargeDepth:=12) [dU, *])
      simp[aj, *,iJ];refine jA _ _ _ _ _ _ _ _ _ λg=>?_;simp[aj, *,ig,aa.ab];exact a _ (by simp(maxDischargeDepth:=12) [dU, *]) (by simp(maxDischargeDepth:=12) [dU, *])
     simp only[vw]at I;rcases n with rfl | ⟨c,rfl⟩
     ·simp[aj, *,iJ];refine jA _ _ _ _ _ _ _ _ _ λg=>?_;simp[aj, *,ig,aa.ab];exact a _ (by simp(maxDischargeDepth:=12) [dU, *]) (by simp(maxDischargeDepth:=12) [dU, *])
     simp[aj, *,iJ];refine jA _ _ _ _ _ _ _ _ _ λg=>?_;simp[aj, *,ig,aa.ab];exact a _ (by simp(maxDischargeDepth:=12) [dU, *]) (by simp(maxDischargeDepth:=12) [dU, *])
    simp only[if_neg o,show ¬(9:Int)=0 by decide,iQe];have r1 : ¬at'+(fj r:Int)<=2048:=o;have r2:(2048:Int)<at'+(fj r:Int):=by omega
    have e1:=iQa (at'+(fj r:Int)) (by omega);generalize bK r d.st nu=B at *;clear hm t i G;obtain⟨l,y,st,lf,dd⟩:=d;simp only[Dk.val,cz,kr]at w q hp L ⊢;unfold dw.val at hp ⊢;simp[aj, *,iJ]
  rw[if_neg J];simp only[show ¬(2:Int)=0 by decide,iQe];have D:((decide (0<=area)&&decide (area<=2))=true->(decide (0<=at')&&decide (at'<=2048))=true->(1<=d.st ->¬(1<=nu/\nu<16777216))):=(by simp only[bo,iQb];omega);generalize (decide (0<=area)&&decide (area<=2))=K at *;generalize (decide (0<=at')&&decide (at'<=2048))=N at *;clear hm hp J;obtain⟨l,y,st,lf,dd⟩:=d;simp only[Dk.val,cz,kr]at w q D ⊢;unfold dw.val;by_cases c1:1<=st<;>by_cases S:1<=nu<;>by_cases c3:nu<16777216<;>cases K<;>cases N<;>first | (exfalso;exact D rfl rfl c1 ⟨S,c3⟩) | (clear D;simp[aj, *,iJ])
end
@[simp] def aey(v:UInt8)(c:UInt32)(ok:Bool):ar env 84 [.agg [a8 v,bR c,aB ok]]=some (aB (xJ v c ok)):=by
 refine aF rfl (by kernel_rfl) (u9 _ _ _ λg=>?_);by_cases h:v<=15
 ·cases ok
  ·by_cases a:v=0;·by_cases b:c=0<;>simp[aj, *,fF,xJ,h,a,b,od,gz]
   simp[aj, *,fF,xJ,h,a,od,gz]
  simp[aj, *,fF,xJ,h]
 simp[aj, *,fF,xJ,h]
@[simp] def Rp(a:Int)(v:UInt8)(c:UInt32)(ok:Bool):ar env 55 [.agg [aI a,a8 v,bR c,aB ok]]=some (aB (sK a v c ok)):=by
 refine aF rfl (by kernel_rfl) (zw _ _ _ λg=>?_);by_cases h:0<=a;·by_cases b:a<8<;>simp[aj, *,nN,sK,h,b]
 simp[aj, *,nN,sK,h]
def SP(a:Int)(v:UInt8)(c:UInt32)(ok:Bool):ar env 87 [.agg [aI a,a8 v,bR c,aB ok]]=some (.bg 1 (au (kK a v c ok)) none):=by
 refine aF rfl (by kernel_rfl) (xz _ _ _ λg=>?_);have d:=J7 v c 0;have b:au (cE ⟨v,c,0⟩)=a8 v :: (au (be 4 c.toNat)++[a8 0]):=by simp[cE,au]
 have e:(au (be 4 c.toNat)).length=4:=by simp
 rw[b]at d;cases ok;·simp[aj, *,ml,kK];rfl
 simp[aj, *,ml,kK];rfl
def PG{l:List UInt8}{x:AV}(c:Sl 1 (au l) x)(z:l.length<=7){Q:AV->aa->Prop}{H:aa} : ∀(s:List UInt8)(k:Nat)(a:Int),l.drop k=s->k<=l.length->0<=a->a<256 ^ k->(∀y,y=aI (vc a s)->Q y H) ->
 bS env Tryz.f150 0 ir [(4,aI k),(0,x),(3,aI a)] H Q:=by
 intro s;induction s with
 | nil=>intro k a e h n j b;obtain rfl:=drop_nil e h;refine ot _ _ _ _ _ λg=>?_;simp[aj, *,kP,c.r];exact b _ rfl
 | cons p s i=>intro k a e h n j b;obtain⟨o,u,d,m⟩:=drop_cons e;have hp:=p.toNat_lt;have w:=qX (k:=k) 6 (by omega);have t:=iQa (256 * a) (by omega);have v:=iQa (256 * a+p.toNat) (by omega);have q:=iQa ((k:Int)+1) (by omega);have f:=i (k+1) (256 * a+p.toNat) d (by omega) (by omega) (by rw[vI];omega) b;rw[show((k+1:Nat):Int)=(k:Int)+1 from by omega]at f;clear i b;refine ot _ _ _ _ _ λg=>?_;simp[aj, *,kP,c.r,c.idx];done
def YZ{l:List UInt8}{x:AV}(a:Sl 1 (au l) x)(b:l.length<=7):ar env 150 [x]=some (aI (val l)):=by
 refine aF rfl (by kernel_rfl) (wL _ _ _ λg=>?_);unfold pL;exact PG a b l 0 0 rfl (by omega) (by omega) (by decide) (λy e=>by rw[e];simp[val])
def Vz{l:List UInt8}{x:AV}(m:Sl 1 (au l) x)(o:l.length=6):ar env 134 [x]=some (if fT (iD l) then .tup [.agg [a8 (iD l).lv,bR (iD l).cats,a8 (iD l).num],aI 0] else .tup [.agg [a8 0,bR 0,a8 0],aI 8]):=by
 obtain⟨a,b,c,d,e,f,rfl⟩:=Ll o;obtain⟨j,rfl,n⟩:=nC m (by simp[au]);refine aF rfl (by kernel_rfl) (uG _ _ _ λg=>?_);have k:iD [a,b,c,d,e,f]=⟨a,u32 (val [b,c,d,e]),f⟩:=rfl;have p:=YZ (l:=[b,c,d,e]) (x := .bg 1 [a8 b,a8 c,a8 d,a8 e] (j.map (· - 1))) (.inr ⟨_,rfl,by cases j with | none=>simp[au] | some c=>simp[au]at n ⊢;omega⟩) (by simp);have i:=Dq a (u32 (val [b,c,d,e])) f;rw[k];generalize val [b,c,d,e]=V at *;cases h:fT ⟨a,u32 V,f⟩;·rw[h]at i;simp[aj, *,kq,au];done
 rw[h]at i;simp[aj, *,kq,au];done
def gOk(b:List UInt8):Bool:=decide (b.getD 1 0<=1)&&sK (b.getD 0 0).toNat (b.getD 2 0) (u32 (val ((b.drop 3).take 4))) (decide (b.getD 1 0=1))
def YY{c:Option Nat}{b0 b1 b2 b3 b4 b5 b6:UInt8}(o:7<=c.getD 7):ar env 136 [.bg 1 [a8 b0,a8 b1,a8 b2,a8 b3,a8 b4,a8 b5,a8 b6] c] =
 some (if decide (b1<=1)&&sK b0.toNat b2 (u32 (val [b3,b4,b5,b6])) (decide (b1=1)) then .tup [.agg [aI b0.toNat,a8 b2,bR (u32 (val [b3,b4,b5,b6])),aB (decide (b1=1))],aI 0] else .tup [.agg [aI 0,a8 0,bR 0,aB false],aI 8]):=by
 refine aF rfl (by kernel_rfl) (zx _ _ _ λg=>?_);have q:=b3.toNat_lt;have s:=b4.toNat_lt;have l:=b5.toNat_lt;have i:=b6.toNat_lt;have j:=iQa ((b3.toNat:Int)) (by omega);have p:=iQa (256 * (b3.toNat:Int)) (by omega);have f:=iQa (256 * (b3.toNat:Int)+b4.toNat) (by omega);have k:=iQa (256 * (256 * (b3.toNat:Int)+b4.toNat)) (by omega);have m:=iQa (256 * (256 * (b3.toNat:Int)+b4.toNat)+b5.toNat) (by omega);have h:=iQa (256 * (256 * (256 * (b3.toNat:Int)+b4.toNat)+b5.toNat)) (by omega);have n:=iQa (256 * (256 * (256 * (b3.toNat:Int)+b4.toNat)+b5.toNat)+b6.toNat) (by omega);have e:val [b3,b4,b5,b6]=256 * (256 * (256 * (b3.toNat:Int)+b4.toNat)+b5.toNat)+b6.toNat:=by simp[val,vc]
 by_cases a:b1<=1
 ·have b : ¬1<b1:=by rw[UInt8.not_lt];exact a
  have d:=Rp b0.toNat b2 (u32 (val [b3,b4,b5,b6])) (decide (b1=1));rw[e]at d ⊢;simp only[a,iQF,iZ];cases hm:sK b0.toNat b2 (u32 (256 * (256 * (256 * (b3.toNat:Int)+b4.toNat)+b5.toNat)+b6.toNat)) (decide (b1=1));·rw[hm]at d;simp[aj, *,kO];refine bZ _ _ _ _ _ _ λg=>?_;simp[aj, *,bM];refine bZ _ _ _ _ _ _ λg=>?_;simp[aj, *,bM];refine bZ _ _ _ _ _ _ λg=>?_;simp[aj, *,bM];refine bZ _ _ _ _ _ _ λg=>?_;simp[aj, *,bM];refine bZ _ _ _ _ _ _ λg=>?_;simp[aj, *,bM]
  rw[hm]at d;simp[aj, *,kO];refine bZ _ _ _ _ _ _ λg=>?_;simp[aj, *,bM];refine bZ _ _ _ _ _ _ λg=>?_;simp[aj, *,bM];refine bZ _ _ _ _ _ _ λg=>?_;simp[aj, *,bM];refine bZ _ _ _ _ _ _ λg=>?_;simp[aj, *,bM];refine bZ _ _ _ _ _ _ λg=>?_;simp[aj, *,bM]
 have b:1<b1:=by rw[<-UInt8.not_le];exact a
 simp[aj, *,kO,a];done
def Vr{l:List (List UInt8)}(c:l.length<=4)(g : ∀b∈l,b.length=128):ar env 61 [.bg 1 (dE l) none]=some (Cq l):=by
 have h:=Vv (x0 := .bg 1 (dE l) none) (l:=l.map λb=>(b,I2 b)) (by rw[Gq];exact Sl.mk _ _) (Gp _) (by simp;omega) (by rw[Bd];exact Ay (T5 g c) (by omega));rw[Bd]at h;exact h
def fk(d:Dk)(p:Int)(n:Nat):List (List UInt8):=(List.range n).map λ(i:Nat)=>d.rd (p+(i:Int))
@[simp] def tA(d:Dk)(p:Int)(n:Nat):(fk d p n).length=n:=by simp[fk]
def FN(d:Dk)(p:Int)(n:Nat):fk d p (n+1)=fk d p n++[d.rd (p+n)]:=by simp[fk,List.range_succ]
def I1{d:Dk}(a:d.may=true)(p:Int)(n:Nat) : ∀b∈fk d p n,b.length=128:=by
 intro b c;obtain⟨i,_,rfl⟩:=nO.1 c;exact PF a _
def rK(d:Dk)(p at' nu:Int):Option (dw × Nat):=
 if 2048<=at' then none else if iy (d.rd p)&&(decide ((dk (d.rd p)).nu=nu)&&decide (at'+(dk (d.rd p)).of<=2048)) then
  (zT (fk d p (dk (d.rd p)).of.toNat)).map λq=>(q.1,(dk (d.rd p)).of.toNat) else none
def kE:Option (dw × Nat)->AV
 | some (r,n) => .tup [r.val (gw r.op.l),aI n]
 | none => .tup [jT.val aO,aI 0]
def G6(of:Nat):Option (dw × Hd)->AV
 | some (r,_) => .tup [r.val (gw r.op.l),aI of]
 | none => .tup [jT.val aO,aI 0]
section
variable{d:Dk}(e:d.sH)(a:d.may=true){area at':Int}(o:0<=area/\area<=2)(s:0<=at'){of:Nat}(f:1<=of/\of<=4/\at'+of<=2048){hd:Hd}(m:hd.of=of)
include e a o s f m
theorem O3{Q:AV->aa->Prop}(A : ∀H',Q (G6 of (zT (fk d (area * 2048+at') of))) H') : ∀(j k:Nat)(i:Int)(u:AV)(H:aa),k+j=of->i=k->Fr H ->
 H.get ⟨0,4,0,0⟩=some ⟨4,[d.val],false,false⟩->H.get ⟨0,8,0,0⟩=some ⟨24,[jT.val aO],false,false⟩->H.get ⟨0,12,0,0⟩=some ⟨4,[hd.val],false,false⟩ ->
 fG [70] 1 (dE (fk d (area * 2048+at') k)) H u ->
 bS env Tryz.f29 0 sd [(53,aI i),(14,u),(2,aI at'),(1,aI area),(4,.ptr ⟨0,4,0,0⟩ 0 0),(8,.ptr ⟨0,8,0,0⟩ 0 0),(12,.ptr ⟨0,12,0,0⟩ 0 0),(52,aI of)] H Q:=by
 have W:=iQa (area * 2048) (by omega);have X:=iQa (area * 2048+at') (by omega);intro j;induction j with
 | zero=>
  rintro k i u H hk rfl hF h4 h8 h12 hO;obtain rfl:k=of:=by omega
  have z:=Vr (l:=fk d (area * 2048+at') k) (by rw[tA];exact f.2.1) (I1 a _ _);have n:(dE (fk d (area * 2048+at') k)).length=k:=by rw[vA,tA]
  unfold Cq at z;refine AK _ _ _ _ _ _ _ _ _ _ λg=>?_;generalize fk d (area * 2048+at') k=B at *;clear e a;rcases hO with ⟨rfl,J⟩ | ⟨t,F,p,rfl,D⟩
  ·rw[J]at n;simp at n;omega
  rw[mA]at p;subst p;unfold Hd.val at h12;unfold dw.val jT dB at h8;have O:(H.get ⟨0,8,0,0⟩).isSome=true:=by rw[h8];rfl
  generalize dE B=BV at *;cases v:zT B with
  | none=>rw[v]at z A;simp only[G6]at A z;unfold y9 at z;unfold dw.val Hd.val jT dB at *;clear v;simp[aj, *,m8,aa.ab]
  | some q=>
   obtain⟨r,h⟩:=q;rw[v]at z A;simp only[G6]at A z;clear v;have G:=(jj r.op.l).r;unfold dw.val Hd.val at *;generalize E:gw r.op.l=ro at *;have w:ro=aO \/∃c,ro = .bg 1 (rows r.op.l) c:=by
    rw[<-E];rcases jj r.op.l with ⟨h,_⟩ | ⟨c,h,_⟩
    ·exact .inl h
    exact .inr ⟨c,h⟩
   clear E;rcases w with rfl | ⟨c,rfl⟩
   ·simp[aj, *,m8,aa.ab]
   simp[aj, *,m8,aa.ab]
 | succ j I=>
  rintro k i u H hk rfl hF h4 h8 h12 hO;have K:0<=area * 2048+at'+k/\area * 2048+at'+k<6146:=by omega
  have V:=iQa (area * 2048+at'+k) (by omega);have P:=iQa ((k:Int)+1) (by omega);have U:=acw e a K;have n:(dE (fk d (area * 2048+at') k)).length=k:=by rw[vA,tA]
  have N:k<of:=(by omega);have y:=λC H'=>I (k+1) ((k:Int)+1) C H' (by omega) (by simp);rw[FN,<-C2]at y;clear I A;have M:=e.sl.r;generalize d.rd (area * 2048+at'+k)=b at *;have L:=(Sl.mk 1 (au b)).r;refine AK _ _ _ _ _ _ _ _ _ _ λg=>?_;generalize dE (fk d (area * 2048+at') k)=BV at *;clear e a;obtain⟨l,x,st,lf,dd⟩:=d;simp only[Dk.val,cz]at *;have R:(H.get ⟨0,4,0,0⟩).isSome=true:=by rw[h4];rfl
  rcases hO with ⟨rfl,rfl⟩ | ⟨t,F,p,rfl,D⟩
  ·clear n;simp[aj, *,m8];exact y _ _ (by simp(maxDischargeDepth:=12) [dU, *]) (by simp(maxDischargeDepth:=12) [dU, *]) (by simp(maxDischargeDepth:=12) [dU, *]) (by simp(maxDischargeDepth:=12) [dU, *]) (.inr ⟨70,H.gen 0 70,by simp,by simp,by simp⟩)
  rw[mA]at p;subst p;have S:(H.get ⟨0,70,F,0⟩).isSome=true:=by rw[D];rfl
  have T:kL 1 24 BV.length true none (some ⟨1,BV,true,false⟩) (some [.bg 1 (au b) none]):=(by simp;omega);clear n;simp[aj, *,m8];exact y _ _ (by simp(maxDischargeDepth:=12) [dU, *]) (by simp(maxDischargeDepth:=12) [dU, *]) (by simp(maxDischargeDepth:=12) [dU, *]) (by simp(maxDischargeDepth:=12) [dU, *]) (.inr ⟨70,H.gen 0 70,by simp,by simp,by simp⟩)
end
def RK{b:List UInt8}(h:iy b=true):1<=(dk b).of/\(dk b).of<=4:=by
 unfold iy kW at h;simp at h;omega
section
variable{d:Dk}(e:d.sH)(a:d.may=true){area:Int}(o:0<=area/\area<=2)
include e a o
theorem YK{at':Int}(s:0<=at')(nu:Int):ar env 29 [d.val,aI area,aI at',aI nu]=some (kE (rK d (area * 2048+at') at' nu)):=by
 refine aF rfl (by kernel_rfl) (La _ _ _ _ _ _ λg=>?_);have j:=e.sl.r;unfold rK;by_cases A:2048<=at';·rw[if_pos A];clear a e;obtain⟨l,y,st,lf,dd⟩:=d;simp only[Dk.val,cz]at j ⊢;unfold kE dw.val jT dB;simp[aj, *,pj,aa.ab]
 rw[if_neg A];have E:0<=area * 2048+at'/\area * 2048+at'<6146:=by omega
 have M:=iQa (area * 2048) (by omega);have N:=iQa (area * 2048+at') (by omega);have u:=acw e a E;generalize B:d.rd (area * 2048+at')=b at *;have n:=J6 (x := .bg 1 (au b) none) (b:=b) (Sl.mk _ _);have F:=(Sl.mk 1 (au b)).r;cases t:iy b with
 | false=>rw[t,if_neg (by decide)]at n;simp only[qO,eW,iQe];clear a e;obtain⟨l,y,st,lf,dd⟩:=d;simp only[Dk.val,cz,Hd.val]at j n u ⊢;unfold kE dw.val jT dB;simp[aj, *,pj,aa.ab]
 | true=>
  rw[t,if_pos rfl]at n;have f:=RK t;have L:=iQa (at'+(dk b).of) (by omega);simp only[iZ];by_cases z:(dk b).nu=nu/\at'+(dk b).of<=2048
  ·have p:(decide ((dk b).nu=nu)&&decide (at'+(dk b).of<=2048))=true:=(by simp[z]);rw[if_pos p];obtain⟨of,i⟩:=Gx (show 0<=(dk b).of by omega);rw[i];have c:=λH=>O3 e a o s (of:=of) ⟨by omega,by omega,by omega⟩ (hd:=dk b) i (Q:=λv H=>cU env 29 v H (kE ((zT (fk d (area * 2048+at') (Int.toNat (of:Int)))).map λq=>(q.1,Int.toNat (of:Int))))) (λH'=>by
    rw[show Int.toNat (of:Int)=of from rfl];cases zT (fk d (area * 2048+at') of) with
    | none=>unfold G6 kE dw.val jT dB;simp
    | some q=>
     obtain⟨r,h⟩:=q;have w:=(jj r.op.l).r;simp only[G6,kE,Option.map_some];unfold dw.val;simp[w]) of 0 0 aO H (by omega) rfl
   have k:=z.1;have r2 : ¬(2048:Int)<at'+(of:Int):=by omega
   clear a e B p;generalize kE _=W at *;obtain⟨l,y,st,lf,dd⟩:=d;simp only[Dk.val,cz]at j u c ⊢;unfold dw.val jT dB at c;generalize dk b=hd at *;obtain⟨D,G,C,I⟩:=hd;simp only at i k z;subst i k;simp only[Hd.val]at n c;simp[aj, *,pj,aa.ab];exact c _ (by simp(maxDischargeDepth:=12) [dU, *]) (by simp(maxDischargeDepth:=12) [dU, *]) (by simp(maxDischargeDepth:=12) [dU, *]) (by simp(maxDischargeDepth:=12) [dU, *]) (.inl ⟨rfl,rfl⟩)
  have p:(decide ((dk b).nu=nu)&&decide (at'+(dk b).of<=2048))=false:=(by simp only[Gv,iQc];omega);rw[p];simp only[eW,iQe];clear a e B;obtain⟨l,y,st,lf,dd⟩:=d;simp only[Dk.val,cz,Hd.val]at j n u ⊢;unfold kE dw.val jT dB;by_cases K:(dk b).nu=nu;·have J:(2048:Int)<at'+(dk b).of:=(by omega);simp[aj, *,pj,aa.ab]
  simp[aj, *,pj,aa.ab]
end
def qG(l:List Int):Prop :=∀a∈l, -2147483648<=a/\a<=2147483647
def wM(p:dw × AV):Prop:=Sl 1 (rows p.1.op.l) p.2/\p.1.op.l.length<1100000
def Y3(k1 N:UInt8)(M O:Int)(z:UInt8)(D:UInt8)(a_3:UInt32)(C:UInt8)(J:Int)(t:UInt8)(u:UInt32)(A:UInt8)(B:Int)(h:Int)(i:UInt8)(o:UInt32)(k:UInt8)(f:Int)(b:UInt8)(j:UInt32)(G:UInt8)(H:UInt8)(K:UInt32)(s:UInt8)(E:Int)(w:UInt8)(F:UInt32)(v:UInt8)(I:Int)(p:Int)(a:UInt8)(c:UInt32)(e:UInt8)(n:Int)(d:UInt8)(q:UInt32)(P L Z V:Int)(T X:UInt8)(R W:UInt32)(S Y:Bool){x y:AV}{l m:List Int}(Q:Sl 1 (rows l) x)(U:Sl 1 (rows m) y)(hl:l.length<1000000000)(hm:m.length<1000000000) :
 ar env 31 [.agg [a8 k1,aI M,a8 z,a8 D,bR a_3,a8 C,aI J,a8 t,bR u,a8 A,aI B,aI h,a8 i,bR o,a8 k,aI f,a8 b,bR j,x,aI P,aI Z,a8 T,bR R,aB S],.agg [a8 N,aI O,a8 G,a8 H,bR K,a8 s,aI E,a8 w,bR F,a8 v,aI I,aI p,a8 a,bR c,a8 e,aI n,a8 d,bR q,y,aI L,aI V,a8 X,bR W,aB Y]] =
  some (aB (nw ⟨k1,M,(⟨z,⟨D,a_3,C⟩,J,⟨⟨⟨t,u,A⟩,B⟩,h⟩,⟨⟨i,o,k⟩,f⟩,⟨b,j⟩,l⟩:fX),P,Z,T,R,S⟩ ⟨N,O,(⟨G,⟨H,K,s⟩,E,⟨⟨⟨w,F,v⟩,I⟩,p⟩,⟨⟨a,c,e⟩,n⟩,⟨d,q⟩,m⟩:fX),L,V,X,W,Y⟩)):=by
 refine aF rfl (by kernel_rfl) (yq _ _ _ _ λg=>?_);have hq:=EI z D a_3 C J t u A B h i o k f b j G H K s E w F v I p a c e n d q Q U hl hm;have hr:=Q.r;have hr2:=U.r;unfold nw;cases e1:decide (k1=N) with
 | false=>simp[aj, *,fJ,od,gz]
 | true=>
 cases e2:decide (M=O) with| false=>simp[aj, *,fJ,od,gz]| true=>
 cases e3:oI (⟨z,⟨D,a_3,C⟩,J,⟨⟨⟨t,u,A⟩,B⟩,h⟩,⟨⟨i,o,k⟩,f⟩,⟨b,j⟩,l⟩:fX) (⟨G,⟨H,K,s⟩,E,⟨⟨⟨w,F,v⟩,I⟩,p⟩,⟨⟨a,c,e⟩,n⟩,⟨d,q⟩,m⟩:fX) with| false=>simp[aj, *,fJ,od,gz]| true=>
 cases e4:decide (P=L) with| false=>simp[aj, *,fJ,od,gz]| true=>simp[aj, *,fJ,od,gz]
def agq{p q:dw × AV}(hp:wM p)(T:wM q):ar env 31 [p.1.val p.2,q.1.val q.2]=some (aB (nw p.1 q.1)):=by
 obtain⟨⟨k,u,⟨O,⟨D,a_3,S⟩,K,⟨⟨⟨E,H,P⟩,Q⟩,i⟩,⟨⟨e,z,j⟩,t⟩,⟨b,h⟩,l⟩,c,g,v,w,o⟩,x⟩:=p;obtain⟨⟨k',V,⟨J,⟨M,R,C⟩,F,⟨⟨⟨N,G,I⟩,L⟩,A⟩,⟨⟨a,d,n⟩,s⟩,⟨f,B⟩,m⟩,c',W,U,w',o'⟩,y⟩:=q;exact Y3 k k' u V O D a_3 S K E H P Q i e z j t b h J M R C F N G I L A a d n s f B c c' g W v U w w' o o' hp.1 T.1 (by have:=hp.2;simp at this;omega) (by have:=T.2;simp at this;omega)
def SY(o:UInt8)(s:UInt8)(a_3:UInt32)(t:UInt8)(n:Int)(j:UInt8)(k:UInt32)(p:UInt8)(q:Int)(i:Int)(b:UInt8)(f:UInt32)(d:UInt8)(e:Int)(a:UInt8)(c:UInt32){x:AV}{l:List Int}(u:Sl 1 (rows l) x)(v:l.length<1000000000):ar env 50 [.agg [a8 o,a8 s,bR a_3,a8 t,aI n,a8 j,bR k,a8 p,aI q,aI i,a8 b,bR f,a8 d,aI e,a8 a,bR c,x]]=some (aB (oI { (⟨o,⟨s,a_3,t⟩,n,⟨⟨⟨j,k,p⟩,q⟩,i⟩,⟨⟨b,f,d⟩,e⟩,⟨a,c⟩,l⟩:fX)with h:=⟨0,0,0⟩} dB)):=by
 have h:=EI o 0 0 0 n j k p q i b f d e a c 0 0 0 0 0 0 0 0 0 0 0 0 0 0 0 0 u (y:=aO) (m:=[]) (.inl ⟨rfl,rfl⟩) v (by simp);refine aF rfl (by kernel_rfl) (yp _ _ _ λg=>?_);simp[aj, *,rA,u.r];rfl
def VE(k:UInt8)(u:Int)(A:UInt8)(s:UInt8)(a_3:UInt32)(p:UInt8)(D:Int)(t:UInt8)(z:UInt32)(B:UInt8)(C:Int)(d:Int)(e:UInt8)(j:UInt32)(i:UInt8)(b:Int)(a:UInt8)(f:UInt32)(c H:Int)(v:UInt8)(w:UInt32)(o:Bool){x:AV}{l:List Int}(E:Sl 1 (rows l) x)(X:l.length<100000)(W:qG l) :
 ar env 26 [.agg [a8 k,aI u,a8 A,a8 s,bR a_3,a8 p,aI D,a8 t,bR z,a8 B,aI C,aI d,a8 e,bR j,a8 i,aI b,a8 a,bR f,x,aI c,aI H,a8 v,bR w,aB o]]=some (aB (bT ⟨k,u,(⟨A,⟨s,a_3,p⟩,D,⟨⟨⟨t,z,B⟩,C⟩,d⟩,⟨⟨e,j,i⟩,b⟩,⟨a,f⟩,l⟩:fX),c,H,v,w,o⟩)):=by
 have I:=SY A s a_3 p D t z B C d e j i b a f E (by omega);have K:=Gg A s a_3 p D t z B C d e j i b a f E (by omega) W;have L:=SO A s a_3 p D t z B C d e j i b a f E X;have Q:=Rp H v w o;have J:=Dq s a_3 p;refine aF rfl (by kernel_rfl) (zq _ _ _ λg=>?_);have N:oI { (⟨A,⟨s,a_3,p⟩,D,⟨⟨⟨t,z,B⟩,C⟩,d⟩,⟨⟨e,j,i⟩,b⟩,⟨a,f⟩,l⟩:fX)with h:=⟨0,0,0⟩} dB=oI (⟨A,⟨s,a_3,p⟩,D,⟨⟨⟨t,z,B⟩,C⟩,d⟩,⟨⟨e,j,i⟩,b⟩,⟨a,f⟩,l⟩:fX) { dB with h:=⟨s,a_3,p⟩}:=by
  simp[oI,dB]
 by_cases k1:k=1
 ·subst k1;have G:bT ⟨1,u,(⟨A,⟨s,a_3,p⟩,D,⟨⟨⟨t,z,B⟩,C⟩,d⟩,⟨⟨e,j,i⟩,b⟩,⟨a,f⟩,l⟩:fX),c,H,v,w,o⟩=((decide (0<=u)&&decide (u<=255))&&(fT ⟨s,a_3,p⟩&&(oI { (⟨A,⟨s,a_3,p⟩,D,⟨⟨⟨t,z,B⟩,C⟩,d⟩,⟨⟨e,j,i⟩,b⟩,⟨a,f⟩,l⟩:fX)with h:=⟨0,0,0⟩} dB&&(decide (c=0)&&(decide (H=0)&&(decide (v=0)&&decide (w=0)&&decide (o=false))))))):=by
   rw[N];simp[bT,G8,nw]
  rw[G];clear N G K L Q;generalize oI { (⟨A,⟨s,a_3,p⟩,D,⟨⟨⟨t,z,B⟩,C⟩,d⟩,⟨⟨e,j,i⟩,b⟩,⟨a,f⟩,l⟩:fX)with h:=⟨0,0,0⟩} dB=n at *;generalize fT ⟨s,a_3,p⟩=hh at *;cases n with
  | false=>simp[aj, *,aZ,E.r,I]
  | true=>
  cases hh with| false=>simp[aj, *,aZ,E.r,I,J]| true=>
  by_cases F:0<=u
  ·by_cases S:u<=255
   ·by_cases c0:c=0;·simp[aj, *,aZ,E.r,I,J,F,S,c0,od,gz]
    simp[aj, *,aZ,E.r,I,J,F,S,c0]
   simp[aj, *,aZ,E.r,I,J,F,S]
  simp[aj, *,aZ,E.r,I,J,F]
 by_cases F:u=0
 ·by_cases M:k=2
  ·subst M;have G:bT ⟨2,u,(⟨A,⟨s,a_3,p⟩,D,⟨⟨⟨t,z,B⟩,C⟩,d⟩,⟨⟨e,j,i⟩,b⟩,⟨a,f⟩,l⟩:fX),c,H,v,w,o⟩=(rG (⟨A,⟨s,a_3,p⟩,D,⟨⟨⟨t,z,B⟩,C⟩,d⟩,⟨⟨e,j,i⟩,b⟩,⟨a,f⟩,l⟩:fX)&&(!decide (-1∈l)&&((decide (0<=c)&&decide (c<65536))&&(decide (H=0)&&(decide (v=0)&&decide (w=0)&&decide (o=false)))))):=by
    have V : ∀q:fX,oI q q=true:=λq=>by simp[oI]
    simp only[bT,G8,nw,V,F,show ¬((2:UInt8)=1) from by decide,iQe,if_true,iQF,iZ];cases rG (⟨A,⟨s,a_3,p⟩,D,⟨⟨⟨t,z,B⟩,C⟩,d⟩,⟨⟨e,j,i⟩,b⟩,⟨a,f⟩,l⟩:fX)<;>cases decide (-1∈l)<;>cases decide (0<=c)<;>cases decide (c<65536)<;>simp
   rw[G];clear N G I J Q;generalize rG (⟨A,⟨s,a_3,p⟩,D,⟨⟨⟨t,z,B⟩,C⟩,d⟩,⟨⟨e,j,i⟩,b⟩,⟨a,f⟩,l⟩:fX)=n at *;generalize T:decide (-1∈l)=pl at *;clear T;cases n with
   | false=>simp[aj, *,aZ,E.r,K,F]
   | true=>
   cases pl with| true=>simp[aj, *,aZ,E.r,K,L,F]| false=>
   by_cases c0:0<=c
   ·by_cases U:c<65536;·simp[aj, *,aZ,E.r,K,L,F,c0,U,od,gz]
    simp[aj, *,aZ,E.r,K,L,F,c0,U]
   simp[aj, *,aZ,E.r,K,L,F,c0]
  by_cases P:k=3
  ·subst P;have R:=EI A s a_3 p D t z B C d e j i b a f 0 0 0 0 0 0 0 0 0 0 0 0 0 0 0 0 E (y:=aO) (m:=[]) (.inl ⟨rfl,rfl⟩) (by omega) (by simp);have G:bT ⟨3,u,(⟨A,⟨s,a_3,p⟩,D,⟨⟨⟨t,z,B⟩,C⟩,d⟩,⟨⟨e,j,i⟩,b⟩,⟨a,f⟩,l⟩:fX),c,H,v,w,o⟩=(oI (⟨A,⟨s,a_3,p⟩,D,⟨⟨⟨t,z,B⟩,C⟩,d⟩,⟨⟨e,j,i⟩,b⟩,⟨a,f⟩,l⟩:fX) dB&&(decide (c=0)&&sK H v w o)):=by
    simp only[bT,G8,nw,F,show ¬((3:UInt8)=1) from by decide,show ¬((3:UInt8)=2) from by decide,iQe,if_true,iQF,iZ];cases sK H v w o<;>cases oI (⟨A,⟨s,a_3,p⟩,D,⟨⟨⟨t,z,B⟩,C⟩,d⟩,⟨⟨e,j,i⟩,b⟩,⟨a,f⟩,l⟩:fX) dB<;>simp
   rw[G];have O:oI (⟨A,⟨s,a_3,p⟩,D,⟨⟨⟨t,z,B⟩,C⟩,d⟩,⟨⟨e,j,i⟩,b⟩,⟨a,f⟩,l⟩:fX) ⟨0,⟨0,0,0⟩,0,⟨⟨⟨0,0,0⟩,0⟩,0⟩,⟨⟨0,0,0⟩,0⟩,⟨0,0⟩,[]⟩=oI (⟨A,⟨s,a_3,p⟩,D,⟨⟨⟨t,z,B⟩,C⟩,d⟩,⟨⟨e,j,i⟩,b⟩,⟨a,f⟩,l⟩:fX) dB:=rfl;rw[O]at R;clear N G I J K L O;generalize oI (⟨A,⟨s,a_3,p⟩,D,⟨⟨⟨t,z,B⟩,C⟩,d⟩,⟨⟨e,j,i⟩,b⟩,⟨a,f⟩,l⟩:fX) dB=n at *;generalize sK H v w o=m at *;cases n with
   | false=>simp[aj, *,aZ,E.r,R,F]
   | true=>
    by_cases c0:c=0;·simp[aj, *,aZ,E.r,R,Q,F,c0]
    simp[aj, *,aZ,E.r,R,F,c0]
  have G:bT ⟨k,u,(⟨A,⟨s,a_3,p⟩,D,⟨⟨⟨t,z,B⟩,C⟩,d⟩,⟨⟨e,j,i⟩,b⟩,⟨a,f⟩,l⟩:fX),c,H,v,w,o⟩=false:=(by simp[bT,k1,M,P]);rw[G];clear N G I J K L Q;simp[aj, *,aZ,E.r,F,k1,M,P]
 have G:bT ⟨k,u,(⟨A,⟨s,a_3,p⟩,D,⟨⟨⟨t,z,B⟩,C⟩,d⟩,⟨⟨e,j,i⟩,b⟩,⟨a,f⟩,l⟩:fX),c,H,v,w,o⟩=false:=by
  simp only[bT,G8,nw,k1,iQe];by_cases M:k=2;·simp[M,F]
  by_cases P:k=3<;>simp[M,P,F]
 rw[G];clear N G I J K L Q;simp[aj, *,aZ,E.r,F,k1]
def VF{p:dw × AV}(hp:wM p)(B:p.1.op.l.length<100000)(A:qG p.1.op.l):ar env 26 [p.1.val p.2]=some (aB (bT p.1)):=by
 obtain⟨⟨k,u,⟨s,⟨j,a_3,z⟩,q,⟨⟨⟨m,n,t⟩,y⟩,i⟩,⟨⟨b,h,e⟩,f⟩,⟨a,d⟩,l⟩,c,g,v,w,o⟩,x⟩:=p;exact VE k u s j a_3 z q m n t y i b h e f a d c g v w o hp.1 B A
end
section
attribute [local simp] aK az ak ay ax bD kj aM aq aA bA bw aJ aL af aW dq
attribute [local simp] BJ bsO dp
def MV(k:UInt8)(u:Int)(A:UInt8)(s:UInt8)(a_3:UInt32)(q:UInt8)(D:Int)(y:UInt8)(z:UInt32)(B:UInt8)(C:Int)(f:Int)(i:UInt8)(n:UInt32)(m:UInt8)(d:Int)(b:UInt8)(j:UInt32)(c E:Int)(v:UInt8)(w:UInt32)(o:Bool){x:AV}{l:List Int}(J:Sl 1 (rows l) x)(a:l.length<100000)(F:bT ⟨k,u,(⟨A,⟨s,a_3,q⟩,D,⟨⟨⟨y,z,B⟩,C⟩,f⟩,⟨⟨i,n,m⟩,d⟩,⟨b,j⟩,l⟩:fX),c,E,v,w,o⟩=true) :
 ar env 56 [.agg [a8 k,aI u,a8 A,a8 s,bR a_3,a8 q,aI D,a8 y,bR z,a8 B,aI C,aI f,a8 i,bR n,a8 m,aI d,a8 b,bR j,x,aI c,aI E,a8 v,bR w,aB o]]=some (.bg 1 (au (mH ⟨k,u,(⟨A,⟨s,a_3,q⟩,D,⟨⟨⟨y,z,B⟩,C⟩,f⟩,⟨⟨i,n,m⟩,d⟩,⟨b,j⟩,l⟩:fX),c,E,v,w,o⟩)) none):=by
 have X:=J.r;by_cases k1:k=1
 ·subst k1;have V:=J7 s a_3 q;have e:mH ⟨1,u,(⟨A,⟨s,a_3,q⟩,D,⟨⟨⟨y,z,B⟩,C⟩,f⟩,⟨⟨i,n,m⟩,d⟩,⟨b,j⟩,l⟩:fX),c,E,v,w,o⟩=1 :: (cE ⟨s,a_3,q⟩++[u8 u]):=rfl;have M:(cE ⟨s,a_3,q⟩).length=6:=by simp[cE]
  have H:cE ⟨s,a_3,q⟩≠[]:=by intro h;rw[h]at M;simp at M
  rw[e];clear F e a;generalize cE ⟨s,a_3,q⟩=hb at *;refine aF rfl (by kernel_rfl) (me _ _ _ λg=>?_);simp[aj, *,jS,au];done
 by_cases K:k=2
 ·subst K;have G:rG (⟨A,⟨s,a_3,q⟩,D,⟨⟨⟨y,z,B⟩,C⟩,f⟩,⟨⟨i,n,m⟩,d⟩,⟨b,j⟩,l⟩:fX)=true/\0<=c/\c<65536:=by
   simp only[bT,if_neg k1,if_true,bo,iQb]at F;exact⟨F.2.1,F.1.1.2,F.1.2⟩
  obtain⟨G,c0,W⟩:=G;have Q:=Bx A s a_3 q D y z B C f i n m d b j J a G;have e:mH ⟨2,u,(⟨A,⟨s,a_3,q⟩,D,⟨⟨⟨y,z,B⟩,C⟩,f⟩,⟨⟨i,n,m⟩,d⟩,⟨b,j⟩,l⟩:fX),c,E,v,w,o⟩=2 :: ([u8 (c / 256),u8 c]++fv (⟨A,⟨s,a_3,q⟩,D,⟨⟨⟨y,z,B⟩,C⟩,f⟩,⟨⟨i,n,m⟩,d⟩,⟨b,j⟩,l⟩:fX)):=rfl;have I:(fv (⟨A,⟨s,a_3,q⟩,D,⟨⟨⟨y,z,B⟩,C⟩,f⟩,⟨⟨i,n,m⟩,d⟩,⟨b,j⟩,l⟩:fX)).length<=293/\24<=(fv (⟨A,⟨s,a_3,q⟩,D,⟨⟨⟨y,z,B⟩,C⟩,f⟩,⟨⟨i,n,m⟩,d⟩,⟨b,j⟩,l⟩:fX)).length:=by rw[xe G];exact⟨(vS G).2,(vS G).1⟩
  rw[e];clear F e a G;generalize fv (⟨A,⟨s,a_3,q⟩,D,⟨⟨⟨y,z,B⟩,C⟩,f⟩,⟨⟨i,n,m⟩,d⟩,⟨b,j⟩,l⟩:fX)=ob at *;have H:ob≠[]:=by rintro rfl;simp at I
  have S:=Va c0;have T:=U4 c0;have O:=λt xo yo=>lX env.P t xo yo .i64 c 256 (by decide);have U:=λt xo yo=>gE env.P t xo yo .i64 c 256 (by decide);have N:=iQa (c / 256) (by omega);rw[S,N]at O;rw[T]at U;have Y:3+ob.length<=140737488355328/\2<3+ob.length/\0<ob.length/\1+2=3:=by omega
  refine aF rfl (by kernel_rfl) (me _ _ _ λg=>?_);simp[aj, *,jS,au,lJ];exact⟨by omega,dq (by simp;omega)⟩
 by_cases L:k=3
 ·subst L;have Q:=SP E v w o;have e:mH ⟨3,u,(⟨A,⟨s,a_3,q⟩,D,⟨⟨⟨y,z,B⟩,C⟩,f⟩,⟨⟨i,n,m⟩,d⟩,⟨b,j⟩,l⟩:fX),c,E,v,w,o⟩=3 :: kK E v w o:=rfl;rw[e];clear F e a;have R:(kK E v w o).length=7:=by simp[kK]
  generalize kK E v w o=gb at *;have H:gb≠[]:=by rintro rfl;simp at R
  refine aF rfl (by kernel_rfl) (me _ _ _ λg=>?_);simp[aj, *,jS,au];done
 simp[bT,k1,K,L]at F
def HN{p:dw × AV}(hp:wM p)(a:p.1.op.l.length<100000)(B:bT p.1=true):ar env 56 [p.1.val p.2]=some (.bg 1 (au (mH p.1)) none):=by
 obtain⟨⟨k,u,⟨t,⟨m,a_3,A⟩,s,⟨⟨⟨n,q,y⟩,z⟩,j⟩,⟨⟨d,i,f⟩,h⟩,⟨b,e⟩,l⟩,c,g,v,w,o⟩,x⟩:=p;exact MV k u t m a_3 A s n q y z j d i f h b e c g v w o hp.1 a B
section
variable{p:dw × AV}(hp:wM p)(a:p.1.op.l.length<100000)
include hp a
theorem By(b:bT p.1=true):ar env 27 [p.1.val p.2]=some (aI (fj p.1)):=by
 have n:=HN hp a b;have u:=hp.1.r;have m:=zH b;have j:fj p.1=((mH p.1).length+118) / 119:=rfl;refine aF rfl (by kernel_rfl) (yr _ _ _ λg=>?_);unfold dw.val at n ⊢;generalize mH p.1=bs at *;generalize fj p.1=N at *;have k:=λt xo yo=>lX env.P t xo yo .i64 (bs.length:Int) 119 (by decide);have i:=λt xo yo=>gE env.P t xo yo .i64 (bs.length:Int) 119 (by decide);have c:((bs.length:Int)).tdiv 119=((bs.length / 119:Nat):Int):=by rw[GY (by omega)];omega
 have e:((bs.length:Int)).tmod 119=((bs.length % 119:Nat):Int):=by rw[wV (by omega)];omega
 rw[c]at k;rw[e]at i;obtain⟨D,f⟩ : ∃D:Nat,D=bs.length / 119:=⟨_,rfl⟩;obtain⟨M,d⟩ : ∃M:Nat,M=bs.length % 119:=⟨_,rfl⟩;have o:=iQa (D:Int) (by omega);have s:=iQa ((D:Int)+1) (by omega);rw[<-f,o]at k;rw[<-d]at i;by_cases v:0<M
 ·have h:(N:Int)=(D:Int)+1:=by omega
  have q:(0:Int)<(M:Int):=(by omega);clear b hp j c e f d;simp only[h];simp[aj, *,nc];done
 have h:(N:Int)=(D:Int):=by omega
 have q : ¬(0:Int)<(M:Int):=(by omega);clear b hp j c e f d;simp only[h];simp[aj, *,nc];done
end
def Lp(st nu b of:Int):ar env 133 [.agg [aI st,aI nu,aI b,aI of]]=some (aB (kW st nu b of)):=by
 refine aF rfl (by kernel_rfl) (vM _ _ _ λg=>?_);simp[aj, *,oY];repeat' ((first | apply si<;>intro h | apply nL<;>intro h | apply nM<;>intro h | apply nJ<;>intro h | apply nK<;>intro h)<;>(try simp only[iQb,iQc,iB,qQ,bo,jH]at h)<;>(try simp[aj, *,kW]))
 all_goals (try (simp[kW];omega))
def Gs{n:Int}(b:0<=n)(c:n<4294967296):IntKind.i64.wrap (n.tdiv 16777216)=n / 16777216/\IntKind.i64.wrap (n.tdiv 65536)=n / 65536/\IntKind.i64.wrap (n.tdiv 256)=n / 256/\(n / 65536).tmod 256=n / 65536 % 256/\(n / 256).tmod 256=n / 256 % 256/\n.tmod 256=n % 256:=by
 refine⟨?_,?_,?_,wV (by omega),wV (by omega),wV b⟩;all_goals rw[GY b]
 all_goals exact iQa _ (by omega)
def KB{H:aa}{r q:Ref}{B:List UInt8}(c:H.get q=some ⟨1,au B,true,false⟩)(n:Nat)(h:n<=1000)(g:B.length<=1000){K:AV->aa->Prop}
 (d : ∀f H',H'.get f=some ⟨1,au (B++List.replicate n 0),true,false⟩->K (.bk f 0 (B.length+n) none) H'):iE (dm env.P true H r (some 57) (some 3) (.bk q 0 B.length none) (aI n)) K:=by
 have b:=FP (P:=env.P) (t:=57) (t':=3) (by kernel_rfl) (by kernel_rfl) (by kernel_rfl) (H:=H) (r:=r) (q:=q) (es:=au B) (fz:=false) c n (by simp[aJ];omega) (by rw[show oe env.P 57=1 from by kernel_rfl];simp[aJ];omega);rw[fN,show jw env.P 57=1 from by kernel_rfl,show eT env.P 57=a8 0 from by kernel_rfl]at b;by_cases e:n=0;·subst e;rw[if_pos rfl]at b;refine wq b (d q H ?_);simpa using c
 rw[if_neg e]at b;refine wq b (d _ _ ?_);rw[aa.cL,if_pos rfl];simp[au]
def VD{st nu i of:Int}(a0:0<=st)(E:st<4294967296)(b0:0<=nu)(b1:nu<4294967296){x:AV}{bs:List UInt8}(A:Sl 1 (au bs) x)(a:bs.length<=119)(f:bs≠[]) :
 ar env 88 [.agg [aI st,aI nu,aI i,aI of],x]=some (.bg 1 (au (nk st nu of i bs)) none):=by
 obtain⟨U,rfl,O⟩:=nC A (by simpa [au] using Da.2 f);have I:=λt xo yo=>lX env.P t xo yo .i64 st 16777216 (by decide);have S:=λt xo yo=>lX env.P t xo yo .i64 st 65536 (by decide);have D:=λt xo yo=>lX env.P t xo yo .i64 st 256 (by decide);have N:=λt xo yo=>gE env.P t xo yo .i64 (st / 65536) 256 (by decide);have G:=λt xo yo=>gE env.P t xo yo .i64 (st / 256) 256 (by decide);have C:=λt xo yo=>gE env.P t xo yo .i64 st 256 (by decide);obtain⟨s,u,o,n,v,w⟩:=Gs a0 E;rw[s]at I;rw[u]at S;rw[o]at D;rw[n]at N;rw[v]at G;rw[w]at C;have R:=λt xo yo=>lX env.P t xo yo .i64 nu 65536 (by decide);have Q:=λt xo yo=>lX env.P t xo yo .i64 nu 256 (by decide);have L:=λt xo yo=>gE env.P t xo yo .i64 (nu / 256) 256 (by decide);have J:=λt xo yo=>gE env.P t xo yo .i64 nu 256 (by decide);obtain⟨d1,d2,d3,d4,d5,d6⟩:=Gs b0 b1;rw[d2]at R;rw[d3]at Q;rw[d5]at L;rw[d6]at J;clear s u o n v w d1 d2 d3 d4 d5 d6;have F:au bs≠[]:=by simpa [au] using f
 have V:9+bs.length<=140737488355328:=by omega
 have T:IntKind.i64.wrap (128 - (9+(bs.length:Int)))=((119 - bs.length:Nat):Int):=by rw[iQa _ (by omega)];omega
 have z:(au bs).length=bs.length:=by simp
 refine aF rfl (by kernel_rfl) (zp _ _ _ _ λg=>?_);have d : ∀(j:Ref)(H':aa)(B:List UInt8),H'.get j=some ⟨1,au B,true,false⟩->cU env 88 (.bk j 0 B.length none) H' (.bg 1 (au B) none):=λj H' B h=>by simp[h]
 obtain⟨c,b⟩ : ∃c,c=[u8 (st / 16777216),u8 (st / 65536),u8 (st / 256),u8 st,u8 (nu / 65536),u8 (nu / 256),u8 nu,u8 i,u8 of]:=⟨_,rfl⟩;have m:nk st nu of i bs=c++bs++List.replicate (119 - bs.length) 0:=by rw[b];simp[nk,uu,QG]
 have k:au (c++bs)=a8 (u8 (st / 16777216)) :: a8 (u8 (st / 65536)) :: a8 (u8 (st / 256)) :: a8 (u8 st) :: a8 (u8 (nu / 65536)) :: a8 (u8 (nu / 256)) :: a8 (u8 nu) :: a8 (u8 i) :: a8 (u8 of) :: au bs:=by rw[b];rfl
 have e:(c++bs).length=9+bs.length:=by rw[b];simp;omega
 have M:=λ(H:aa)(r q:Ref) hq=>KB (H:=H) (r:=r) (q:=q) (B:=c++bs) hq (119 - bs.length) (by omega) (by omega) (K:=λy H'=>cU env 88 y H' (.bg 1 (au (nk st nu of i bs)) none)) (λj H' h=>by
  have:=d j H' _ h;rw[ja,AA,<-m]at this;exact this)
 rw[k,e]at M;clear d k e m b;simp[aj, *,sA,lJ]
def Zw : ∀(m:Nat)(s:List UInt8)(k:Nat),k<(ES m s).length->119 * k<s.length/\(ES m s)[k]?=some ((s.drop (119 * k)).take 119):=by
 intro m;induction m with
 | zero=>intro s k h;simp[ES]at h
 | succ m f=>
  intro s k h;unfold ES at h ⊢;by_cases b:s=[];·rw[if_pos b]at h;simp at h
  rw[if_neg b]at h ⊢;cases k with
  | zero=>exact⟨by have:=Da.2 b;omega,by simp⟩
  | succ k=>obtain⟨e,g⟩:=f (s.drop 119) k (by simpa using h);rw[oD]at e;refine⟨by omega,?_⟩;rw[GX,g,po];congr 3;omega
def QD{r:dw}(a:bT r=true)(st nu:Int){k:Nat}(g:k<fj r):119 * k<(mH r).length/\(bK r st nu)[k]?=some (nk st nu (fj r) k (((mH r).drop (119 * k)).take 119)):=by
 have f:(ES 3 (mH r)).length=fj r:=by rw[Im 3 (mH r) (by have:=(zH a).1;omega)];rfl
 obtain⟨b,e⟩:=Zw 3 (mH r) k (by omega);refine⟨b,?_⟩;unfold bK;rw[EN,e];simp
section
variable{p:dw × AV}(hp:wM p)(c:p.1.op.l.length<100000)(a:bT p.1=true){st nu:Int}(a0:0<=st)(d:st<4294967296)(b0:0<=nu)(b1:nu<4294967296)
include hp c a a0 d b0 b1
theorem Xt{Q:AV->aa->Prop}(I : ∀j H',fG [39] 1 (dE (bK p.1 st nu)) H' j->Q j H') : ∀(s:List (List UInt8)) (k:Nat) (j:AV) (H:aa),(bK p.1 st nu).drop k=s->k<=(bK p.1 st nu).length->Fr H ->
 H.get ⟨0,3,0,0⟩=some ⟨24,[p.1.val p.2],false,false⟩->fG [39] 1 (dE ((bK p.1 st nu).take k)) H j ->
 bS env Tryz.f57 0 iq [(9,aI k),(3,.ptr ⟨0,3,0,0⟩ 0 0),(2,aI nu),(1,aI st),(8,j),(7,.bg 1 (au (mH p.1)) none)] H Q:=by
 intro s;induction s with
 | nil=>intro k j H D O U v n;obtain rfl:=drop_nil D O;rw[BW]at n;have F:=By hp c a;have f:=kX a st nu;have Y:=hp.1.r;have W:=I j H n;rw[f];unfold dw.val at F v;clear I hp n f;refine oq _ _ _ _ _ _ _ _ λg=>?_;simp[aj, *,iv];done
 | cons b s P=>
  intro k j H D O U v n;obtain⟨C,R,u,q⟩:=drop_cons D;have F:=By hp c a;have f:=kX a st nu;have Y:=hp.1.r;rw[f]at C;obtain⟨c1,E⟩:=QD a st nu C;have o:b=nk st nu (fj p.1) k (((mH p.1).drop (119 * k)).take 119):=by rw[q]at E;exact GM E
  have X:=zH a;have hN:=vf a;have J:fj p.1=((mH p.1).length+118) / 119:=rfl;obtain⟨pc,m⟩ : ∃pc,pc=((mH p.1).drop (119 * k)).take 119:=⟨_,rfl⟩;rw[<-m]at o;have y:pc.length<=119/\pc≠[]:=(by rw[m];refine⟨by rw[ku];omega,λe=>?_⟩;have:=iQg List.length e;rw[ku,oD]at this;simp only[kS]at this;omega);obtain⟨w,A⟩ : ∃w:Int,(if ((k:Int)+1) * 119<((mH p.1).length:Int) then ((k:Int)+1) * 119 else ((mH p.1).length:Int))=w:=⟨_,rfl⟩;have hmb:(0:Int)<=(k:Int) * 119/\(k:Int) * 119<=w/\w<=((mH p.1).length:Int):=(by rw[<-A];split<;>omega);have hsl:((au (mH p.1)).drop ((k:Int) * 119).toNat).take (w.toNat - ((k:Int) * 119).toNat)=au pc:=by
   rw[m];unfold au;rw[<-List.map_drop,<-iQQ,show((k:Int) * 119).toNat=119 * k from by omega];congr 1;split at A;·congr 1;omega
   rw[dq (by rw[oD];omega),dq (by rw[oD];omega)]
  have Z:=VD (i:=k) (of:=fj p.1) a0 d b0 b1 (x := .bg 1 (au pc) none) (Sl.mk _ _) y.1 y.2;rw[<-o]at Z;have h:=λj H'=>P (k+1) j H' u (by omega);have z:(bK p.1 st nu).take (k+1)=(bK p.1 st nu).take k++[b]:=by rw[Es,q];rfl
  have G:((bK p.1 st nu).take k).length=k:=by rw[ku];omega
  rw[show((k+1:Nat):Int)=(k:Int)+1 from by omega,z]at h;have e1:=iQa ((k:Int) * 119) (by omega);have e2:=iQa ((k:Int)+1) (by omega);have e3:=iQa (((k:Int)+1) * 119) (by omega);have M:(k:Int)<fj p.1:=by omega
  generalize (bK p.1 st nu).take k=done at *;generalize mH p.1=bs at *;generalize fj p.1=N at *;unfold dw.val at F v h;clear o E q R D u I hp P m f z J;refine oq _ _ _ _ _ _ _ _ λg=>?_;have L:(k+1) * 24<=140737488355328:=by omega
  have B:(dE done).length=k:=(by simp[G]);have K:dE (done++[b])=dE done++[.bg 1 (au b) none]:=(by simp[dE,I2]);rw[K]at h;rcases n with ⟨rfl,n⟩ | ⟨t,V,T,rfl,n⟩
  ·rw[n]at h;simp[aj, *,iv];refine h _ _ (by simp(maxDischargeDepth:=12) [Ek, *]) (by simp[v]) (.inr ⟨39,H.gen 0 39,by simp,rfl,by simp⟩)
  obtain rfl:t=39:=(by simpa using T);rw[B];have S:(H.get ⟨0,39,V,0⟩).isSome=true:=by rw[n];rfl
  generalize dE done=eo at *;simp[aj, *,iv];refine h _ _ (by simp(maxDischargeDepth:=12) [dU, *]) ?_ (.inr ⟨39,H.gen 0 39,by simp,by simp[B],by simp⟩);simp[aa.ab,v]
theorem Ft:ar env 57 [p.1.val p.2,aI st,aI nu]=some (.bg 1 (dE (bK p.1 st nu)) none):=by
 have k:=HN hp c a;have n:=hp.1.r;have f:dE (bK p.1 st nu)≠[]:=Xu (I0 a st nu);have e:=λQ j=>Xt hp c a a0 d b0 b1 (Q:=Q) j (bK p.1 st nu) 0 aO [(⟨0,3,0,0⟩,some ⟨24,[p.1.val p.2],false,false⟩)] rfl (by omega) (by simp(maxDischargeDepth:=12) [Ek, *]) (by simp) (.inl ⟨rfl,rfl⟩);have b : ∀i H',fG [39] 1 (dE (bK p.1 st nu)) H' i->cU env 57 i H' (.bg 1 (dE (bK p.1 st nu)) none):=by
  rintro i H' (⟨_,h⟩ | ⟨t,m,o,rfl,h⟩);·exact absurd h f
  generalize dE (bK p.1 st nu)=eo at *;simp[h]
 refine aF rfl (by kernel_rfl) (wJ _ _ _ _ _ λg=>?_);replace e:=e _ b;clear b hp a;generalize dE (bK p.1 st nu)=eo at *;unfold dw.val at k e ⊢;simp[aj, *,pJ];exact e
end
end
section
attribute [local simp] aK az ak ay ax bD kj aM aq aA bA bw aJ aL af aW dq
def SZ{x:AV}{b:List UInt8}(h:Sl 1 (au b) x):ar env 115 [x]=some (if iy b then .tup [(dk b).val,aI 0] else .tup [(⟨0,0,0,0⟩:Hd).val,aI 8]):=by
 have n:=h.r;by_cases f:b.length=128
 ·have d:(b.length:Int)=128:=by omega
  obtain⟨b0,b1,b2,b3,b4,b5,b6,c,a,t,rfl⟩ : ∃b0 b1 b2 b3 b4 b5 b6 c a t,b=b0 :: b1 :: b2 :: b3 :: b4 :: b5 :: b6 :: c :: a :: t:=by
   match b,f with
   | b0 :: b1 :: b2 :: b3 :: b4 :: b5 :: b6 :: c :: a :: t,_=>exact⟨_,_,_,_,_,_,_,_,_,_,rfl⟩
  obtain⟨H,rfl,i⟩:=nC h (by simp);have D:=b0.toNat_lt;have F:=b1.toNat_lt;have I:=b2.toNat_lt;have w:=b3.toNat_lt;have G:=b4.toNat_lt;have y:=b5.toNat_lt;have s:=b6.toNat_lt;have j:dk (b0 :: b1 :: b2 :: b3 :: b4 :: b5 :: b6 :: c :: a :: t)=⟨16777216 * (b0.toNat:Int)+65536 * b1.toNat+256 * b2.toNat+b3.toNat,65536 * (b4.toNat:Int)+256 * b5.toNat+b6.toNat,c.toNat,a.toNat⟩:=(by simp[dk,Ab.val,vc];constructor<;>omega);have e:iy (b0 :: b1 :: b2 :: b3 :: b4 :: b5 :: b6 :: c :: a :: t)=kW (16777216 * (b0.toNat:Int)+65536 * b1.toNat+256 * b2.toNat+b3.toNat) (65536 * (b4.toNat:Int)+256 * b5.toNat+b6.toNat) c.toNat a.toNat:=(by unfold iy;rw[j,f];simp);have o:(t.length:Int)+1+1+1+1+1+1+1+1+1=128:=by simp at f;omega
  have u:=iQa (16777216 * (b0.toNat:Int)) (by omega);have C:=iQa (65536 * (b1.toNat:Int)) (by omega);have p:=iQa (256 * (b2.toNat:Int)) (by omega);have v:=iQa (16777216 * (b0.toNat:Int)+65536 * b1.toNat) (by omega);have z:=iQa (16777216 * (b0.toNat:Int)+65536 * b1.toNat+256 * b2.toNat) (by omega);have q:=iQa (16777216 * (b0.toNat:Int)+65536 * b1.toNat+256 * b2.toNat+b3.toNat) (by omega);have A:=iQa (65536 * (b4.toNat:Int)) (by omega);have E:=iQa (256 * (b5.toNat:Int)) (by omega);have B:=iQa (65536 * (b4.toNat:Int)+256 * b5.toNat) (by omega);have m:=iQa (65536 * (b4.toNat:Int)+256 * b5.toNat+b6.toNat) (by omega);have k:=Lp (16777216 * (b0.toNat:Int)+65536 * b1.toNat+256 * b2.toNat+b3.toNat) (65536 * (b4.toNat:Int)+256 * b5.toNat+b6.toNat) c.toNat a.toNat;rw[e,j];unfold Hd.val;clear e j i h n d f;cases l:kW (16777216 * (b0.toNat:Int)+65536 * b1.toNat+256 * b2.toNat+b3.toNat) (65536 * (b4.toNat:Int)+256 * b5.toNat+b6.toNat) c.toNat a.toNat;·rw[l]at k;refine aF rfl (by kernel_rfl) (mF _ _ _ λg=>?_);simp[aj, *,kg,au];done
  rw[l]at k;refine aF rfl (by kernel_rfl) (mF _ _ _ λg=>?_);simp[aj, *,kg,au];done
 have d : ¬(b.length:Int)=128:=by omega
 have e:iy b=false:=by unfold iy;simp[f]
 rw[e];unfold Hd.val;clear e;refine aF rfl (by kernel_rfl) (mF _ _ _ λg=>?_);simp[aj, *,kg]
def TW(b:List UInt8):Bool:=if b.getD 0 0=1 then fT (iD ((b.drop 1).take 6)) else if b.getD 0 0=2 then nA (b.drop 3) else if b.getD 0 0=3 then gOk ((b.drop 1).take 7) else false
def U6(b:List UInt8):AV := .tup [(bJ b).val (gw (bJ b).op.l),aB (TW b&&bT (bJ b))]
def Qf(b:List UInt8):sg b = .tup [.agg (BP (PU b)++[gw (PU b).l]),aI (if nA b then qV b else 0),aI (if nA b then 0 else 8)]:=by
 unfold sg PU pf;split<;>rfl
def Fp(l:List UInt8) : ∀a∈words l, -2147483648<=a/\a<=2147483647:=by
 intro a e;match l,e with
 | a :: b :: c :: d :: t,e=>
  rcases fh.1 e with rfl | e
  ·unfold word;rw[iQv];have:=yy [a,b,c,d];simp only[gD,kS]at this;omega
  exact Fp t _ e
def Lz(b:List UInt8):qG (bJ b).op.l:=by
 have c:qG dB.l:=λa d=>by cases d
 have e : ∀b,qG (pQ b).op.l:=λb=>by rw[(AZ b).2.1];exact c
 unfold bJ;split;·exact c
 split
 ·show qG (PU (b.drop 3)).l;unfold PU;split
  ·unfold oc;show qG (if _ then _ else _);split;·exact Fp _
   exact λa d=>by cases d
  exact c
 split;·exact e _
 exact c
def SW{b:List UInt8}{x:AV}(v:Sl 1 (au b) x)(B:8<=b.length)(F:b.length<100000):ar env 116 [x]=some (U6 b):=by
 have k:=Lz b;have n:=zK b;have d:=VF (p:=(bJ b,gw (bJ b).op.l)) ⟨jj _,by simp only;omega⟩ (by simp only;omega) k;unfold U6;match b,B with
 | b0 :: b1 :: b2 :: b3 :: b4 :: b5 :: b6 :: a :: t,_=>
 obtain⟨j,rfl,i⟩:=nC v (by simp);rw[fN]at i;simp only[gD]at i F;have C:6<=(j.map (· - 1)).getD 6:=by cases j<;>simp at i ⊢ <;> omega
 have E:7<=(j.map (· - 1)).getD 7:=by cases j<;>simp at i ⊢ <;> omega
 have M:(7:Int)<=j.getD (t.length+1+1+1+1+1+1+1+1):=by omega
 have B:(8:Int)<=j.getD (t.length+1+1+1+1+1+1+1+1):=by omega
 have L:(7:Int) <= ↑t.length+1+1+1+1+1+1+1+1/\(7:Int) < ↑t.length+1+1+1+1+1+1+1+1/\(8:Int) <= ↑t.length+1+1+1+1+1+1+1+1/\(1:Int) < ↑t.length+1+1+1+1+1+1+1+1/\(2:Int) < ↑t.length+1+1+1+1+1+1+1+1/\(3:Int) <= ↑t.length+1+1+1+1+1+1+1+1:=by omega
 have I:(0:Int) < ↑t.length+1+1+1+1+1+1+1+1:=by omega
 by_cases k1:b0=1
 ·subst k1;have e:bJ (1 :: b1 :: b2 :: b3 :: b4 :: b5 :: b6 :: a :: t)=⟨1,a.toNat, { dB with h:=E0 [b1,b2,b3,b4,b5,b6]},0,0,0,0,false⟩:=rfl;have f:TW (1 :: b1 :: b2 :: b3 :: b4 :: b5 :: b6 :: a :: t)=fT (iD [b1,b2,b3,b4,b5,b6]):=rfl;have s:=Vz (x := .bg 1 [a8 b1,a8 b2,a8 b3,a8 b4,a8 b5,a8 b6] (j.map (· - 1))) (l:=[b1,b2,b3,b4,b5,b6]) (by rw[show[a8 b1,a8 b2,a8 b3,a8 b4,a8 b5,a8 b6]=au [b1,b2,b3,b4,b5,b6] from rfl];exact Sl.ZD (by simpa using C)) rfl;rw[e]at d ⊢;rw[f];unfold E0 at d ⊢;unfold dw.val dB at d ⊢;simp only[uc]at d ⊢;clear e f k n v;generalize iD [b1,b2,b3,b4,b5,b6]=hh at *;refine aF rfl (by kernel_rfl) (gV _ _ _ λg=>?_);cases q:fT hh;·rw[q]at s;clear d;simp[aj, *,eB,au];done
  rw[q,if_pos rfl]at d;simp only[if_true];rw[q]at s;generalize bT _=R at *;simp[aj, *,eB,au];done
 by_cases y:b0=2
 ·subst y;have e:bJ (2 :: b1 :: b2 :: b3 :: b4 :: b5 :: b6 :: a :: t)=⟨2,0,PU (b3 :: b4 :: b5 :: b6 :: a :: t),val [b1,b2],0,0,0,false⟩:=rfl;have f:TW (2 :: b1 :: b2 :: b3 :: b4 :: b5 :: b6 :: a :: t)=nA (b3 :: b4 :: b5 :: b6 :: a :: t):=rfl;have w:val [b1,b2]=256 * (b1.toNat:Int)+b2.toNat:=by simp[val,vc]
  have N:=b1.toNat_lt;have O:=b2.toNat_lt;have G:=iQa (256 * (b1.toNat:Int)) (by omega);have H:=iQa (256 * (b1.toNat:Int)+b2.toNat) (by omega);have u:Sl 1 (au (b3 :: b4 :: b5 :: b6 :: a :: t)) (.bg 1 (a8 b3 :: a8 b4 :: a8 b5 :: a8 b6 :: a8 a :: List.map a8 t) (j.map (· - 3))):=(by rw[show a8 b3 :: a8 b4 :: a8 b5 :: a8 b6 :: a8 a :: List.map a8 t=au (b3 :: b4 :: b5 :: b6 :: a :: t) from rfl];exact Sl.ZD (by cases j<;>simp at i ⊢ <;> omega));have m:=YX u (by simp only[gD];omega);rw[Qf]at m;rw[e]at d ⊢;rw[f,w];rw[w]at d;have J:((t.length:Int)+1+1+1+1+1+1+1+1).toNat - 3=t.length+5:=by omega
  have K:List.take (t.length+5) (a8 b3 :: a8 b4 :: a8 b5 :: a8 b6 :: a8 a :: List.map a8 t)=a8 b3 :: a8 b4 :: a8 b5 :: a8 b6 :: a8 a :: List.map a8 t:=dq (by simp);unfold dw.val at d ⊢;clear e f k n v w u;generalize PU (b3 :: b4 :: b5 :: b6 :: a :: t)=o at *;simp only[BP]at m;have D:=(jj o.l).r;simp only at d ⊢;generalize gw o.l=ro at *;generalize (if nA (b3 :: b4 :: b5 :: b6 :: a :: t) then qV (b3 :: b4 :: b5 :: b6 :: a :: t) else 0)=sz at *;generalize nA (b3 :: b4 :: b5 :: b6 :: a :: t)=ok at *;generalize bT _=R at *;refine aF rfl (by kernel_rfl) (gV _ _ _ λg=>?_);cases ok<;>simp[aj, *,eB,au];done
 by_cases z:b0=3
 ·subst z;have e:bJ (3 :: b1 :: b2 :: b3 :: b4 :: b5 :: b6 :: a :: t) = { pQ [b1,b2,b3,b4,b5,b6,a]with kind:=3}:=rfl;have f:TW (3 :: b1 :: b2 :: b3 :: b4 :: b5 :: b6 :: a :: t)=(decide (b2<=1)&&sK b1.toNat b3 (u32 (val [b4,b5,b6,a])) (decide (b2=1))):=rfl;have A:pQ [b1,b2,b3,b4,b5,b6,a]=if decide (b2<=1)&&sK b1.toNat b3 (u32 (val [b4,b5,b6,a])) (decide (b2=1)) then ⟨0,0,dB,0,b1.toNat,b3,u32 (val [b4,b5,b6,a]),decide (b2=1)⟩ else ⟨0,0,dB,0,0,0,0,false⟩:=rfl
  have s:=YY (c:=j.map (· - 1)) (b0:=b1) (b1:=b2) (b2:=b3) (b3:=b4) (b4:=b5) (b5:=b6) (b6:=a) E;rw[e,A]at d ⊢;rw[f];clear e f A k n v;generalize u32 (val [b4,b5,b6,a])=V at *;generalize decide (b2=1)=OB at *;cases q:decide (b2<=1)&&sK b1.toNat b3 V OB;·rw[q]at s;unfold dw.val dB;clear d;refine aF rfl (by kernel_rfl) (gV _ _ _ λg=>?_);simp[aj, *,eB,au,uc];done
  rw[q]at s d;simp only[if_true]at d ⊢;unfold dw.val dB at d ⊢;simp only[uc]at d ⊢;generalize bT _=R at *;clear q;refine aF rfl (by kernel_rfl) (gV _ _ _ λg=>?_);simp[aj, *,eB,au];done
 have e:bJ (b0 :: b1 :: b2 :: b3 :: b4 :: b5 :: b6 :: a :: t)=⟨b0,0,dB,0,0,0,0,false⟩:=(by unfold bJ;simp[k1,y,z]);have f:TW (b0 :: b1 :: b2 :: b3 :: b4 :: b5 :: b6 :: a :: t)=false:=(by unfold TW;simp[k1,y,z]);rw[e,f];unfold dw.val dB;simp only[uc];clear d e f;refine aF rfl (by kernel_rfl) (gV _ _ _ λg=>?_);simp[aj, *,eB,au]
def py(l:List (List UInt8)):List UInt8:=if l.all (λb=>decide (b.length=128)) then ib l else []
def R0{B:List (List UInt8)}(h:B.all (λb=>decide (b.length=128))=true):(ib B).length=119 * B.length:=by
 induction B with| nil=>rfl| cons b B a=>simp only[tU,bo,iQb]at h;have:=a h.2;simp only[ib,mz,ja,oD,gD]at this ⊢;omega
def T6(l:List (List UInt8))(b:List UInt8):ib (l++[b])=ib l++b.drop 9:=by simp[ib]
section
variable{x0:AV}{l:List (List UInt8 × AV)}(c:Sl 1 (bV l) x0)(d:okB l)(f:l.length<800)
include c d f
theorem So{Q:AV->aa->Prop}(o:(gA l).all (λb=>decide (b.length=128))=true ->∀h H',fG [23] 1 (au (ib (gA l))) H' h->(l.length=0->h=aO)->Q h H')(q:(gA l).all (λb=>decide (b.length=128))=false ->∀H',Q aO H') :
 ∀(s:List (List UInt8 × AV)) (k:Nat) (h:AV) (H:aa),l.drop k=s->k<=l.length->Fr H->(gA (l.take k)).all (λb=>decide (b.length=128))=true->fG [23] 1 (au (ib (gA (l.take k)))) H h->(k=0->h=aO) ->
 bS env Tryz.f114 0 jq [(4,aI k),(0,x0),(3,h)] H Q:=by
 intro s;induction s with
 | nil=>
  intro k h H G R V A u x;obtain rfl:=drop_nil G R;rw[BW]at A u;have K:=o A h H u x;have E:(bV l).length=l.length:=by simp[bV]
  clear o q u d;refine lI _ _ _ _ _ λg=>?_;simp[aj, *,gr,c.r];done
 | cons p s L=>
  intro k h H G R V A u x;obtain⟨F,J,D,z⟩:=drop_cons G;have hp:Sl 1 (au p.1) p.2:=d p (by rw[<-J];exact eE F);have O:bF (bV l) k 0 1 false=some p.2:=by simp[bV,z,bF,hp.r]
  have E:(bV l).length=l.length:=(by simp[bV]);have S:(k:Int)<l.length:=(by omega);have e1:=iQa ((k:Int)+1) (by omega);have y:l.take (k+1)=l.take k++[p]:=by rw[Es,z];rfl
  have n:gA (l.take (k+1))=gA (l.take k)++[p.1]:=by rw[y];simp[gA]
  have v:p.1∈gA l:=by simp only[gA,nO];exact⟨p,by rw[<-J];exact eE F,rfl⟩
  have I:=hp.r;by_cases i:p.1.length=128
  ·obtain⟨cp,C,Z⟩:=nC hp (by simp;omega);have j:=λh H'=>L (k+1) h H' D (by omega);have w:(gA (l.take (k+1))).all (λb=>decide (b.length=128))=true:=by rw[n];simp only[List.all_append,A,tU,GI,i,iQF,iZ]
   have hd:au (ib (gA (l.take (k+1))))=au (ib (gA (l.take k)))++(au p.1).drop 9:=by rw[n,T6];simp[au]
   have m:((au p.1).drop 9).length=119:=(by simp[i]);have P:(au p.1).drop 9≠[]:=by intro e;rw[e]at m;simp at m
   have T:(au (ib (gA (l.take k)))).length<=100000:=(by have X:=R0 A;rw[show(gA (l.take k)).length=k from by simp[gA];omega]at X;rw[fN];omega);have B:(p.1.length:Int)=128:=(by omega);have Y:(au p.1).length=p.1.length:=fN _;rw[show((k+1:Nat):Int)=(k:Int)+1 from by omega,hd]at j;replace j:=λh H' a b=>j h H' a w b (λe=>by omega);clear x;rw[C]at O I;have M:List.take 119 (List.drop 9 (au p.1))=List.drop 9 (au p.1):=dq (by omega);clear o q L d A n y w hd J z G D C v hp;generalize au (ib (gA (l.take k)))=eo at *;generalize au p.1=ep at *;refine lI _ _ _ _ _ λg=>?_;rcases u with ⟨rfl,rfl⟩ | ⟨t,W,ht,rfl,u⟩
   ·simp[aj, *,gr,c.r,c.idx];exact j _ _ (by simp(maxDischargeDepth:=12) [Ek, *]) (.inr ⟨23,H.gen 0 23,by simp,by simp[m],by simp⟩)
   obtain rfl:t=23:=(by simpa using ht);have N:eo.length+119<=140737488355328:=(by omega);have U:(H.get ⟨0,23,W,0⟩).isSome=true:=by rw[u];rfl
   simp[aj, *,gr,c.r,c.idx];exact j _ _ (by simp(maxDischargeDepth:=12) [dU, *]) (.inr ⟨23,H.gen 0 23,by simp,by rw[ja,m],by simp⟩)
  have K:=q (by rw[List.all_eq_false];exact⟨p.1,v,by simpa using i⟩) H;have B : ¬(p.1.length:Int)=128:=by omega
  clear o q L d u A n y;refine lI _ _ _ _ _ λg=>?_;simp[aj, *,gr,c.r,c.idx];done
theorem SV:ar env 114 [x0]=some (kn 1 (au (py (gA l)))):=by
 obtain⟨y,i⟩ : ∃y,y=kn 1 (au (py (gA l))):=⟨_,rfl⟩;have m:=λQ n q=>So c d f (Q:=Q) n q l 0 aO [] rfl (by omega) Fr.nil (by simp[gA]) (.inl ⟨rfl,by simp[gA,ib]⟩) (λ_=>rfl);have j:(gA l).all (λb=>decide (b.length=128))=true->l.length≠0->au (ib (gA l))≠[]:=by
  intro a o e;cases l with
  | nil=>exact o rfl
  | cons p t=>
   have n:p.1.length=128:=by simp[gA]at a;exact a.1
   have:=iQg List.length e;simp[gA,ib,n]at this
 replace m:=m (λv H'=>cU env 114 v H' y) (λa u H' h k=>by
  rw[i];have e:py (gA l)=ib (gA l):=if_pos a;rw[e];rcases h with ⟨rfl,h⟩ | ⟨t,w,s,rfl,h⟩
  ·rw[h];simp[kn]
  ·obtain rfl:t=23:=(by simpa using s);have o:=j a (λe=>by have:=k e;cases this);rw[tH 1 o];generalize au (ib (gA l))=eo at *;simp[h]) (λa H'=>by
  rw[i];have e:py (gA l)=[]:=if_neg (by rw[a];decide);rw[e];simp[kn])
 rw[<-i];refine aF rfl (by kernel_rfl) (yn _ _ _ λg=>?_);unfold rz;exact m
end
section
variable{x y:AV}{l m:List (List UInt8 × AV)}(c:Sl 1 (bV l) x)(a:Sl 1 (bV m) y)(i:okB l)(f:okB m)(d:l.length<1000000)
include c a i f d
theorem Pm(O:l.length=m.length){Q:AV->aa->Prop}{H:aa} : ∀(s t:List (List UInt8 × AV)) (k:Nat),l.drop k=s->m.drop k=t->k<=l.length->Q (aB (decide (gA s=gA t))) H ->
 bS env Tryz.f117 0 fM [(5,aI k),(1,y),(0,x)] H Q:=by
 have L:(bV l).length=l.length:=by simp[bV]
 have F:(bV m).length=m.length:=by simp[bV]
 intro s;induction s with
 | nil=>
  intro t k C A K z;obtain rfl:=drop_nil C K;have:t=[]:=by rw[<-A];exact ya (by omega)
  subst this;rw[iQh rfl]at z;clear i f;refine je _ _ _ _ _ λg=>?_;simp[aj, *,fO,c.r,a.r]
 | cons p s I=>
  intro t k C A K z;obtain⟨J,E,u,v⟩:=drop_cons C;cases t with
  | nil=>have:=iQg List.length A;simp at this;omega
  | cons q t=>
   obtain⟨B,G,o,w⟩:=drop_cons A;have n:Sl 1 (au p.1) p.2:=i p (by rw[<-E];exact eE J);have e:Sl 1 (au q.1) q.2:=f q (by rw[<-G];exact eE B);have r1:bF (bV l) k 0 1 false=some p.2:=by simp[bV,v,bF,n.r]
   have r2:bF (bV m) k 0 1 false=some q.2:=(by simp[bV,w,bF,e.r]);have T:=iQa ((k:Int)+1) (by omega);have S:=λ(g:cV)(r:Ref)=>Sl.conv (P:=env.P) (src:=57) (dst:=9) n (by kernel_rfl) (by kernel_rfl) g r;have R:=λ(g:cV)(r:Ref)=>Sl.conv (P:=env.P) (src:=57) (dst:=9) e (by kernel_rfl) (by kernel_rfl) g r;have M:(k:Int)<l.length:=by omega
   have N:(k:Int)<m.length:=(by omega);have j:=I t (k+1) u o (by omega);rw[show((k+1:Nat):Int)=(k:Int)+1 from by omega]at j;have b:(gA (p :: s)=gA (q :: t))↔(p.1=q.1/\gA s=gA t):=by simp[gA]
   by_cases D:p.1=q.1;·have hd:decide (gA (p :: s)=gA (q :: t))=decide (gA s=gA t):=decide_eq_decide.2 (by rw[b];exact⟨λh=>h.2,λh=>⟨D,h⟩⟩);rw[hd]at z;replace j:=j z;clear I i f hd b C u A o E v G w n e z;refine je _ _ _ _ _ λg=>?_;simp[aj, *,fO,c.r,a.r,c.idx,a.idx];done
   have hd:decide (gA (p :: s)=gA (q :: t))=false:=iQi (by rw[b];exact λh=>D h.1);rw[hd]at z;clear I i f hd b C u A o E v G w n e j;refine je _ _ _ _ _ λg=>?_;simp[aj, *,fO,c.r,a.r,c.idx,a.idx];done
theorem SX:ar env 117 [x,y]=some (aB (decide (gA l=gA m))):=by
 have n:(bV l).length=l.length:=by simp[bV]
 have k:(bV m).length=m.length:=by simp[bV]
 by_cases e:l.length=m.length
 ·have j:=λQ o=>Pm c a i f d e (Q:=Q) (H:=[]) l m 0 rfl rfl (by omega) o;have b:(l.length:Int)=m.length:=by omega
  refine aF rfl (by kernel_rfl) (np _ _ _ _ λg=>?_);replace j:=j (λv H'=>cU env 117 v H' (aB (decide (gA l=gA m)))) (by simp);clear i f;simp[aj, *,j3,c.r,a.r];simpa using j
 have hd:decide (gA l=gA m)=false:=iQi (λh=>e (by have:=iQg List.length h;simpa [gA] using this));have b : ¬(l.length:Int)=m.length:=by omega
 rw[hd];clear i f hd;refine aF rfl (by kernel_rfl) (np _ _ _ _ λg=>?_);simp[aj, *,j3,c.r,a.r]
end
def DZ(l:List (List UInt8)):Bool := !(py l).isEmpty&&(iy (l.headD [])&&((TW (py l)&&bT (bJ (py l)))&&decide (bK (bJ (py l)) (dk (l.headD [])).st (dk (l.headD [])).nu=l)))
def TY(l:List (List UInt8)):AV:=if DZ l then .tup [(bJ (py l)).val (gw (bJ (py l)).op.l),(dk (l.headD [])).val,aI 0] else y9
def adQ{r:dw}(h:bT r=true)(z:List UInt8):TW (mH r++z)=true:=by
 unfold bT at h;unfold mH TW;split at h
 ·rename_i k1;simp only[bo,iQb]at h;obtain⟨⟨e,A⟩,j,k⟩:=h;rw[if_pos k1,KI];have b:(r.kind :: (cE r.op.h++[u8 r.user]++z)).getD 0 0=1:=k1;have v:((r.kind :: (cE r.op.h++[u8 r.user]++z)).drop 1).take 6=cE r.op.h:=by
   rw[iQR,List.tail_cons,qP];exact xW (CW _)
  rw[if_pos b,v,zS,j]
 rename_i k1;split at h
 ·rename_i g;simp only[bo,iQb,iB]at h;obtain⟨⟨⟨C,e⟩,A⟩,j,k⟩:=h;rw[if_neg k1,if_pos g,KI];have b:(r.kind :: ([u8 (r.code / 256),u8 r.code]++fv r.op++z)).getD 0 0=2:=g;have s:(r.kind :: ([u8 (r.code / 256),u8 r.code]++fv r.op++z)).drop 3=fv r.op++z:=by simp
  rw[if_neg (by rw[b];decide),if_pos b,s,(Tb j z).2.2]
 rename_i g;split at h
 ·rename_i w;simp only[bo]at h;obtain⟨e,k⟩:=h;rw[if_neg k1,if_neg g,KI];have b:(r.kind :: (kK r.gu r.gv r.gc r.gok++z)).getD 0 0=3:=w;have B:((r.kind :: (kK r.gu r.gv r.gc r.gok++z)).drop 1).take 7=kK r.gu r.gv r.gc r.gok:=by
   rw[iQR,List.tail_cons];exact xW (by simp[kK])
  rw[if_neg (by rw[b];decide),if_neg (by rw[b];decide),if_pos b,B];have D:(0<=r.gu/\r.gu<8):=by simp only[sK,bo,iQb]at e;exact e.1
  have t:((kK r.gu r.gv r.gc r.gok).getD 0 0).toNat=r.gu:=(by show((u8 r.gu).toNat:Int)=r.gu;rw[CM];omega);have u:(kK r.gu r.gv r.gc r.gok).getD 1 0=if r.gok then 1 else 0:=rfl
  have o:(kK r.gu r.gv r.gc r.gok).getD 2 0=r.gv:=rfl;have p:u32 (val (((kK r.gu r.gv r.gc r.gok).drop 3).take 4))=r.gc:=(by rw[show((kK r.gu r.gv r.gc r.gok).drop 3).take 4=be 4 r.gc.toNat from dq (by simp[kK])];exact CN r.gc);have n:decide ((if r.gok then (1:UInt8) else 0)=1)=r.gok:=by cases r.gok<;>rfl
  have q:decide ((if r.gok then (1:UInt8) else 0)<=1)=true:=by cases r.gok<;>rfl
  unfold gOk;rw[t,u,o,p,n,q,e,iZ]
 cases h
def adR(l:List (List UInt8)):DZ l=(iy (l.headD [])&&yV l (dk (l.headD [])) (ib l))/\(DZ l=true->py l=ib l):=by
 by_cases k:l.all (λb=>decide (b.length=128))=true
 ·have p:py l=ib l:=if_pos k;refine⟨?_,λ_=>p⟩;unfold DZ yV;rw[p];cases l with
  | nil=>rfl
  | cons b0 t=>
   have C:b0.length=128:=by simp at k;exact k.1
   have u:ib (b0 :: t)≠[]:=(by intro e;have:=iQg List.length e;simp[ib,C]at this);have D:decide (8<=(ib (b0 :: t)).length)=true:=by simp[ib,C];omega
   rw[D,iZ];have w:(ib (b0 :: t)).isEmpty=false:=by simpa using u
   rw[w,zg,iZ];show(iy b0&&_)=(iy b0&&_);cases A:iy b0 with
   | false=>rfl
   | true=>
    rw[iZ,iZ];show((TW _&&bT _)&&decide (bK _ (dk b0).st (dk b0).nu=_))=(bT _&&kW (dk b0).st (dk b0).nu 0 _&&decide (bK _ (dk b0).st (dk b0).nu=_));generalize F:bJ (ib (b0 :: t))=r at *;cases j:bT r with
    | false=>simp
    | true=>
     by_cases n:bK r (dk b0).st (dk b0).nu=b0 :: t
     ·have q : ∃z,ib (b0 :: t)=mH r++List.replicate z 0:=(by rw[<-n];exact Ol _ _ _ 3 (mH r) 0 (by have:=(zH j).1;omega));obtain⟨z,q⟩:=q;have g:TW (ib (b0 :: t))=true:=by rw[q];exact adQ j _
      have v:kW (dk b0).st (dk b0).nu 0 (fj r)=true:=(by have E:kW (dk b0).st (dk b0).nu (dk b0).ix (dk b0).of=true:=(by unfold iy at A;simp only[bo]at A;exact A.2);have o:=tv.1 E;have G:=vf j;exact tv.2 ⟨o.1,o.2.1,o.2.2.1,o.2.2.2.1,by omega,by omega,by omega,by omega⟩);rw[g,v]
     simp[n]
 have p:py l=[]:=if_neg k;have B:DZ l=false:=by unfold DZ;rw[p];rfl
 refine⟨?_,λh=>by rw[B]at h;cases h⟩;rw[B];cases g:(iy (l.headD [])&&yV l (dk (l.headD [])) (ib l)) with
 | false=>rfl
 | true=>exfalso;unfold yV at g;simp only[bo,iQb]at g;obtain⟨_,_,⟨j,v⟩,n⟩:=g;refine k ?_;rw[<-n];rw[gf];exact λb s=>iQh (vx j v b s)
def aan(l:List (List UInt8)):TY l=Cq l:=by
 obtain⟨e,b⟩:=adR l;unfold TY Cq zT;rw[<-e];cases hd:DZ l with
 | false=>simp
 | true=>rw[b hd];simp
section
variable{x0:AV}{l:List (List UInt8 × AV)}(a:Sl 1 (bV l) x0)(c:okB l)
include a c
theorem VG(Q:l.length<800):ar env 93 [x0]=some (Cq (gA l)):=by
 rw[<-aan];have C:=SV a c Q;have K:(bV l).length=l.length:=by simp[bV]
 have s:(py (gA l)).length<100000:=by
  unfold py;split;·rename_i y;have B:=R0 y;rw[show(gA l).length=l.length from by simp[gA]]at B;omega
  simp
 have k:py (gA l)≠[]->l≠[]/\(gA l).all (λb=>decide (b.length=128))=true:=by
  intro h;have y:(gA l).all (λb=>decide (b.length=128))=true:=by
   cases y:(gA l).all (λb=>decide (b.length=128)) with| true=>rfl| false=>exact absurd (if_neg (by rw[y];decide)) h
  exact⟨λe=>h (by rw[e];rfl),y⟩
 have z:=rS 1 (au (py (gA l)));have u:=z.r;by_cases n:py (gA l)=[];·have hd:TY (gA l)=y9:=(by unfold TY DZ;rw[n];rfl);rw[hd];rw[n]at C;have N:kn 1 (au [])=aO:=rfl;rw[N]at C;unfold y9 dw.val Hd.val jT dB;clear k z u n c hd;refine aF rfl (by kernel_rfl) (kG _ _ _ λg=>?_);simp[aj, *,iV,a.r];done
 obtain⟨B,q⟩:=k n;obtain⟨d,t,rfl⟩:=iQz B;have o:=c d (by simp);have f:119<=(py (gA (d :: t))).length:=by
  have T:d.1.length=128:=by simp[gA]at q;exact q.1
  have:py (gA (d :: t))=ib (gA (d :: t)):=if_pos q;rw[this];simp[gA,ib,T]
 have I:=SZ o;have m:=SW z (by omega) s;have U:bF (bV (d :: t)) 0 0 1 false=some d.2:=by simp[bV,bF,o.r]
 have R:(0:Int)<(d :: t).length:=(by simp);obtain⟨b,j⟩ : ∃b,b=py (gA (d :: t)):=⟨_,rfl⟩;have i:TY (gA (d :: t))=if iy d.1&&((TW b&&bT (bJ b))&&decide (bK (bJ b) (dk d.1).st (dk d.1).nu=gA (d :: t))) then .tup [(bJ b).val (gw (bJ b).op.l),(dk d.1).val,aI 0] else y9:=by
  rw[j];unfold TY DZ;have:(py (gA (d :: t))).isEmpty=false:=by simpa using n
  rw[this];rfl
 rw[i];rw[<-j]at C z u m f s;have L:au b≠[]:=by intro e;have:=iQg List.length e;simp at this;rw[this]at f;simp at f
 have V:(au b).length=b.length:=(by simp);have S : ¬b=[]:=by rintro rfl;simp at f
 have O:=zK b;have hp:wM (bJ b,gw (bJ b).op.l):=⟨jj _,by simp only;omega⟩;have M:=hp.1.r;have P:(d.1=d.1):=rfl;unfold U6 at m;have J:=o.r;cases v:iy d.1 with
 | false=>rw[v,if_neg (by decide)]at I;unfold y9 dw.val Hd.val jT dB at *;clear i j n k c hp q;simp only at *;generalize kn 1 (au b)=ob at *;generalize gw (bJ b).op.l=ro at *;generalize bJ b=r at *;refine aF rfl (by kernel_rfl) (kG _ _ _ λg=>?_);simp[aj, *,iV,a.r,a.idx];done
 | true=>
  rw[v,if_pos rfl]at I;cases p:TW b&&bT (bJ b) with
  | false=>rw[p]at m;unfold y9 dw.val Hd.val jT dB at *;clear i j n k c hp q p;simp only at *;generalize kn 1 (au b)=ob at *;generalize gw (bJ b).op.l=ro at *;generalize bJ b=r at *;generalize dk d.1=hd at *;refine aF rfl (by kernel_rfl) (kG _ _ _ λg=>?_);simp[aj, *,iV,a.r,a.idx];done
  | true=>
   rw[p]at m;have A:bT (bJ b)=true:=by cases h:bT (bJ b)with | true=>rfl | false=>rw[h]at p;simp at p
   have E:=tv.1 (show kW (dk d.1).st (dk d.1).nu (dk d.1).ix (dk d.1).of=true by unfold iy at v;simp only[bo]at v;exact v.2);have H:=Ft hp (by simp only;omega) A (st:=(dk d.1).st) (nu:=(dk d.1).nu) (by omega) (by omega) (by omega) (by omega);simp only at H;have w:=kX A (dk d.1).st (dk d.1).nu;have F:=vf A;have G:=SX (x := .bg 1 (dE (bK (bJ b) (dk d.1).st (dk d.1).nu)) none) (l:=(bK (bJ b) (dk d.1).st (dk d.1).nu).map λb=>(b,I2 b)) (by rw[Gq];exact Sl.mk _ _) a (Gp _) c (by rw[AF,w];omega);rw[Bd]at G;generalize decide (bK (bJ b) (dk d.1).st (dk d.1).nu=gA (d :: t))=D at *;unfold y9 dw.val Hd.val jT dB at *;clear i j n k c hp q p A E w F;simp only at *;generalize kn 1 (au b)=ob at *;generalize dE (bK (bJ b) (dk d.1).st (dk d.1).nu)=bv at *;generalize gw (bJ b).op.l=ro at *;generalize bJ b=r at *;generalize dk d.1=hd at *;refine aF rfl (by kernel_rfl) (kG _ _ _ λg=>?_);cases D<;>simp[aj, *,iV,a.r,a.idx];done
end
def bQ(l:List (dw × AV)):List AV:=l.map λp=>p.1.val p.2
@[simp] def vu(l:List (dw × AV)):(bQ l).length=l.length:=by simp[bQ]
def jg(l:List (dw × AV)):List dw:=l.map (·.1)
@[simp] def vg(l:List (dw × AV)):(jg l).length=l.length:=by simp[jg]
def SA(a b:dw):nw a b=true↔a=b:=⟨Vo,λh=>by rw[h];exact Pn b⟩
def yD:List dw->List dw->Bool
 | [],[]=>true
 | a :: l,b :: m=>nw a b&&yD l m
 | _,_=>false
def J5 : ∀(l m:List dw),yD l m=true↔l=m:=by
 intro l;induction l with
 | nil=>intro m;cases m<;>simp[yD]
 | cons a l c=>intro m;cases m with
  | nil=>simp[yD]
  | cons b m=>simp[yD,SA,c]
def Po(l:List dw):yD l l=true:=(J5 l l).2 rfl
def SB{l m:List dw}(h:l.length≠m.length):yD l m=false:=by
 cases e:yD l m with| false=>rfl| true=>exact absurd (iQg List.length ((J5 l m).1 e)) h
section
variable{l m:List (dw × AV)}{x y:AV}(d:Sl 24 (bQ l) x)(n:Sl 24 (bQ m) y)(j : ∀p∈l,wM p)(o : ∀p∈m,wM p)(f:l.length<1000000)
include d n j o f
theorem Lm(D:l.length=m.length){Q:AV->aa->Prop}{H:aa} : ∀(s t:List (dw × AV)) (k:Nat) (i:Int),l.drop k=s->m.drop k=t->k<=l.length->i=k->(Q (aB (yD (jg s) (jg t))) H) ->
 bS env Tryz.f12 0 gN [(5,aI i),(1,y),(0,x)] H Q:=by
 intro s;induction s with
 | nil=>rintro t k i hs ht hk rfl hQ;obtain rfl:=drop_nil hs hk;rw[D,KH]at ht;subst ht;refine nS _ _ _ _ _ λg=>?_;simp[aj, *,gO,d.r];all_goals simpa [jg,yD] using hQ
 | cons p s E=>
  rintro t k i hs ht hk rfl hQ;obtain⟨L,J,A,C⟩:=drop_cons hs;have G:k<m.length:=by omega
  obtain⟨q,t',rfl⟩ : ∃q t',t=q :: t':=by
   cases t with| nil=>have:=iQg List.length ht;simp at this;omega| cons q t'=>exact⟨q,t',rfl⟩
  obtain⟨_,B,z,v⟩:=drop_cons ht;have b:=j p (J ▸ eE _);have u:=o q (B ▸ eE _);have K:=agq b u;have N:=iQa ((k:Int)+1) (by omega);have w:=E t' (k+1) ((k:Int)+1) A z (by omega) (by simp);have I:=b.1.r;have M:=u.1.r;have c:bF (bQ l) k 0 24 true=some (p.1.val p.2):=by simp[bQ,C,dw.val]
  have h:bF (bQ m) k 0 24 true=some (q.1.val q.2):=(by simp[bQ,v,dw.val]);have a:Q (aB (nw p.1 q.1&&yD (jg s) (jg t'))) H:=hQ;clear E hQ j o;unfold dw.val at K c h;generalize nw p.1 q.1=e at *;refine nS _ _ _ _ _ λg=>?_;cases e with
  | false=>simp[aj, *,gO,d.r,d.idx,n.r,n.idx];simpa using a
  | true=>rw[iZ]at a;have F:=w a;clear w a;simp[aj, *,gO,d.r,d.idx,n.r,n.idx]
theorem SG:ar env 12 [x,y]=some (aB (yD (jg l) (jg m))):=by
 refine aF rfl (by kernel_rfl) (vL _ _ _ _ λg=>?_);by_cases a:l.length=m.length;·have h:=Lm d n j o f a (Q:=λv H=>cU env 12 v H (aB (yD (jg l) (jg m)))) (H:=[]) l m 0 0 rfl rfl (by omega) rfl (by simp);have b:=d.r;have e:=n.r;rw[vu]at b e;rw[a]at b;clear j o;simp[aj, *,lj];exact h
 have c : ¬(l.length:Int)=m.length:=by omega
 rw[SB (by simpa using a)];clear j o;simp[aj, *,lj,d.r,n.r]
end
section
variable{l:List (dw × AV)}{x:AV}(d:Sl 24 (bQ l) x)(j : ∀p∈l,Sl 1 (rows p.1.op.l) p.2)(most:Int)
include d j
theorem Tv{Q:AV->aa->Prop}{H:aa}(b : ∀t:Bool,(t=false->(∀p∈l.take 200,p.1.op.l.length<=200)/\(l.length:Int)<=most)->Q (aB t) H) : ∀(s:List (dw × AV)) (k:Nat) (i:Int),l.drop k=s->k<=l.length->i=k ->
 (∀p∈l.take k,p.1.op.l.length<=200)->k<=200->bS env Tryz.f13 0 jm [(5,aI i),(0,x),(1,aI most)] H Q:=by
 intro s;induction s with
 | nil=>rintro k i hs hk rfl hd h2;obtain rfl:=drop_nil hs hk;refine pr _ _ _ _ _ λg=>?_;rw[BW]at hd;have a:=b (decide (most<l.length)) (λh=>⟨λp hp=>hd p (xY hp),by simpa using h⟩);clear b j hd;simp[aj, *,gq,d.r];all_goals exact a
 | cons p s u=>
  rintro k i hs hk rfl hd h2;obtain⟨J,F,v,e⟩:=drop_cons hs;have G:=(j p (F ▸ eE _)).r;have L:=iQa ((k:Int)+1) (by omega);refine pr _ _ _ _ _ λg=>?_;have I:(k:Int)<l.length:=by omega
  by_cases D:k<200
  ·have A:(k:Int)<200:=(by omega);have B:bF (bQ l) k 18 1 false=some p.2:=(by simp[bQ,e,dw.val]);by_cases f:p.1.op.l.length<=200
   ·have K:=u (k+1) ((k:Int)+1) v (by omega) (by simp) (by
     intro q c;rw[Es,e]at c;rcases mq.1 c with c | c
     ·exact hd q c
     simp at c;subst c;exact f) (by omega)
    have z : ¬(200:Int)<p.1.op.l.length:=(by omega);clear u b j hd;simp[aj, *,gq,d.r,d.idx]
   have a:=b true (by simp);have z:(200:Int)<p.1.op.l.length:=by omega
   clear u b j hd;simp[aj, *,gq,d.r,d.idx];all_goals exact a
  have w:k=200:=(by omega);subst w;have a:=b (decide (most<l.length)) (λh=>⟨hd,by simpa using h⟩);have C:(200:Int)<l.length:=by omega
  have E:200<l.length:=(by omega);clear u b j hd;simp[aj, *,gq,d.r];all_goals exact a
theorem acB : ∃t:Bool,ar env 13 [x,aI most]=some (aB t)/\(t=false->(∀p∈l.take 200,p.1.op.l.length<=200)/\(l.length:Int)<=most):=by
 have h : ∃y,ar env 13 [x,aI most]=some y /\∃t:Bool,y=aB t/\(t=false->(∀p∈l.take 200,p.1.op.l.length<=200)/\(l.length:Int)<=most):=by
  refine Nx (fn:=Tryz.f13) (c:=yZ) (by kernel_rfl) (by kernel_rfl) (by kernel_rfl) (by kernel_rfl) (by kernel_rfl) ?_;refine yi _ _ _ _ λg=>?_;exact Tv d j most (λt e=>⟨aB t,by simp,t,rfl,e⟩) l 0 0 rfl (by omega) rfl (by simp) (by omega)
 obtain⟨y,a,t,rfl,b⟩:=h;exact⟨t,a,b⟩
end
def eZ(d:Dk)(p nu most:Int):Nat->Int->Nat->List dw × Int
 | 0,at',_=>([],at')
 | m+1,at',n=>if (n:Int)<most then (match rK d (p+at') at' (nu+n+1) with
  | some (r,k)=>(r :: (eZ d p nu most m (at'+k) (n+1)).1,(eZ d p nu most m (at'+k) (n+1)).2)
  | none=>([],at')) else ([],at')
def jL(l:List dw):List (dw × AV):=l.map λr=>(r,gw r.op.l)
@[simp] def Dr(l:List dw):(jL l).length=l.length:=by simp[jL]
def Ew{d:Dk}{p at' nu:Int}{r:dw}{k:Nat}(h:rK d p at' nu=some (r,k)):1<=k/\k<=4/\at'+k<=2048/\r.op.l.length<1000000:=by
 unfold rK at h;split at h;·cases h
 split at h
 ·rename_i o e;simp only[bo,iQb]at e;have g:=RK e.1;cases c:zT (fk d p (dk (d.rd p)).of.toNat) with
  | none=>rw[c]at h;cases h
  | some q=>
   rw[c]at h;simp only[Option.map_some,ef,tT]at h;obtain⟨m,n⟩:=h;have:q.1.op.l.length<=64:=by
    unfold zT at c;split at c;·cases c;exact zK _
    cases c
   rw[<-m];omega
 cases h
section
variable{d:Dk}(a:d.sH)(b:d.may=true){area nu most:Int}(j:0<=area/\area<=2)(f:0<=nu/\nu<=16777215)(i:0<=most/\most<=16777215)
include a b j f i
theorem Sy{Q:AV->aa->Prop} : ∀(m:Nat)(at':Int)(acc:List (dw × AV)) (G:AV) (H:aa),0<=at'->at'<=2048->2049<=at'+m->(acc.length:Int)<=at'->Fr H ->
 H.get ⟨0,4,0,0⟩=some ⟨4,[d.val],false,false⟩->fG [53] 24 (bQ acc) H G->(acc=[]->G=aO) ->
 (∀y H',fG [53] 24 (bQ (acc++jL (eZ d (area * 2048) nu most m at' acc.length).1)) H' y->(acc++jL (eZ d (area * 2048) nu most m at' acc.length).1=[]->y=aO)->Q (.tup [y,aI (eZ d (area * 2048) nu most m at' acc.length).2,aI 0]) H') ->
 bS env Tryz.f9 0 tI [(9,aI at'),(8,G),(2,aI nu),(1,aI area),(4,.ptr ⟨0,4,0,0⟩ 0 0),(3,aI most)] H Q:=by
 intro m;induction m with
 | zero=>rintro at' acc G H h0 h1 h2;omega
 | succ m K=>
  rintro at' acc G H h0 h1 h2 hal hF h4 hO hN hQ;have L:=iQa (nu+acc.length) (by omega);have M:=iQa (nu+acc.length+1) (by omega);have C:=YK a b j h0 (nu+acc.length+1);have o:(bQ acc).length=acc.length:=vu acc;unfold eZ at hQ;refine Jv _ _ _ _ _ _ _ _ λg=>?_;have W:=a.sl.r;by_cases B:(acc.length:Int)<most
  ·rw[if_pos B]at hQ;cases w:rK d (area * 2048+at') at' (nu+acc.length+1) with
   | none=>
    rw[w]at C hQ;have n:=λH' h=>hQ G H' (by simpa [jL] using h) (by simpa [jL] using hN);simp only at n;clear hQ K w b a hN;obtain⟨l,y,st,lf,dd⟩:=d;simp only[Dk.val,cz]at *;have N:(H.get ⟨0,4,0,0⟩).isSome=true:=by rw[h4];rfl
    unfold kE dw.val jT dB at C;rcases hO with ⟨rfl,J⟩ | ⟨t,I,p,rfl,u⟩
    ·have:acc=[]:=(by simpa [bQ] using J);subst this;have D:0<most:=B;simp only[kS,GN,GF]at C L M;simp[aj, *,jR];all_goals exact n _ (.inl ⟨rfl,rfl⟩)
    rw[mA]at p;subst p;simp only[o]at n ⊢;have R:(H.get ⟨0,53,I,0⟩).isSome=true:=by rw[u];rfl
    simp[aj, *,jR];all_goals exact n _ (.inr ⟨53,I,by simp,by rw[o],by simp(maxDischargeDepth:=12) [dU, *]⟩)
   | some q=>
    obtain⟨r,k⟩:=q;have U:=Ew w;rw[w]at C hQ;simp only at hQ;have Y:=iQa (at'+k) (by omega);have T : ¬k=0:=by omega
    have v:=λF H'=>K (at'+k) (acc++[(r,gw r.op.l)]) F H' (by omega) (by omega) (by omega) (by simp;omega);have E:=(jj r.op.l).r;have z:gw r.op.l=aO \/∃c,gw r.op.l = .bg 1 (rows r.op.l) c:=by
     rcases jj r.op.l with ⟨h,_⟩ | ⟨c,h,_⟩
     ·exact .inl h
     exact .inr ⟨c,h⟩
    have n : ∀y H',fG [53] 24 (bQ ((acc++[(r,gw r.op.l)])++jL (eZ d (area * 2048) nu most m (at'+k) (acc++[(r,gw r.op.l)]).length).1)) H' y->((acc++[(r,gw r.op.l)])++jL (eZ d (area * 2048) nu most m (at'+k) (acc++[(r,gw r.op.l)]).length).1=[]->y=aO)->Q (.tup [y,aI (eZ d (area * 2048) nu most m (at'+k) (acc++[(r,gw r.op.l)]).length).2,aI 0]) H':=(by intro y H' h f;rw[ja,Eu]at h ⊢;exact hQ y H' (by simpa [jL] using h) (λe=>by simp[jL]at e));have v:=λF H' S V P=>v F H' S V P (λe=>by simp at e) n;have A : ∀(g m:Nat)(H':aa),m=acc.length+1->H'.get ⟨0,53,g,0⟩=some ⟨24,bQ acc++[r.val (gw r.op.l)],true,false⟩->fG [53] 24 (bQ (acc++[(r,gw r.op.l)])) H' (.bk ⟨0,53,g,0⟩ 0 m none):=(by intro g m H' b h;subst b;exact .inr ⟨53,g,by simp,by simp,by rw[h];simp[bQ]⟩);clear K hQ n w b a hN;unfold kE at C;unfold dw.val at C A;obtain⟨l,y,st,lf,dd⟩:=d;simp only[Dk.val,cz]at *;have N:(H.get ⟨0,4,0,0⟩).isSome=true:=by rw[h4];rfl
    generalize gw r.op.l=ro at *;have O:acc.length+1<=2049:=by omega
    rcases hO with ⟨rfl,J⟩ | ⟨t,I,p,rfl,u⟩
    ·have:acc=[]:=(by simpa [bQ] using J);subst this;have s:=λH'=>A (H.gen 0 53) 1 H' rfl;clear A o;have D:0<most:=B;simp only[kS,GN,GF]at C L M;rcases z with rfl | ⟨c,rfl⟩
     ·clear E;simp[aj, *,jR];exact v _ _ (by simp(maxDischargeDepth:=12) [dU, *]) (by simp(maxDischargeDepth:=12) [dU, *]) (s _ (by simp(maxDischargeDepth:=12) [dU, *]))
     simp[aj, *,jR];exact v _ _ (by simp(maxDischargeDepth:=12) [dU, *]) (by simp(maxDischargeDepth:=12) [dU, *]) (s _ (by simp(maxDischargeDepth:=12) [dU, *]))
    rw[mA]at p;subst p;simp only[o]at u ⊢;have R:(H.get ⟨0,53,I,0⟩).isSome=true:=by rw[u];rfl
    have s:=λH'=>A (H.gen 0 53) (acc.length+1) H' rfl;clear A;have X : ∀x:AV,kL 24 160 acc.length true none (some ⟨24,bQ acc,true,false⟩) (some [x]):=(by intro x;simp;omega);rcases z with rfl | ⟨c,rfl⟩
    ·clear E;simp[aj, *,jR];exact v _ _ (by simp(maxDischargeDepth:=12) [dU, *]) (by simp(maxDischargeDepth:=12) [dU, *]) (s _ (by simp(maxDischargeDepth:=12) [dU, *]))
    simp[aj, *,jR];exact v _ _ (by simp(maxDischargeDepth:=12) [dU, *]) (by simp(maxDischargeDepth:=12) [dU, *]) (s _ (by simp(maxDischargeDepth:=12) [dU, *]))
  rw[if_neg B]at hQ;have n:=λH' h=>hQ G H' (by simpa [jL] using h) (by simpa [jL] using hN);simp only at n;clear hQ K b a C hN;rcases hO with ⟨rfl,J⟩ | ⟨t,I,p,rfl,u⟩
  ·have:acc=[]:=(by simpa [bQ] using J);subst this;have D : ¬0<most:=B;simp[aj, *,jR];all_goals exact n _ (.inl ⟨rfl,rfl⟩)
  rw[mA]at p;subst p;simp only[o]at n ⊢;simp[aj, *,jR];all_goals exact n _ (.inr ⟨53,I,by simp,by rw[o],u⟩)
theorem YS:ar env 9 [d.val,aI area,aI nu,aI most]=some (.tup [kn 24 (bQ (jL (eZ d (area * 2048) nu most 2049 0 0).1)),aI (eZ d (area * 2048) nu most 2049 0 0).2,aI 0]):=by
 refine aF rfl (by kernel_rfl) (MC _ _ _ _ _ _ λg=>?_);have z:=HO a;rw[b]at z;have w:=HH area 2;have x:=HH nu 16777215;have s:=HH most 16777215;rw[iQh j.1,iQh j.2]at w;rw[iQh f.1,iQh f.2]at x;rw[iQh i.1,iQh i.2]at s;have c:=Sy a b j f i (Q:=λv H=>cU env 9 v H (.tup [kn 24 (bQ (jL (eZ d (area * 2048) nu most 2049 0 0).1)),aI (eZ d (area * 2048) nu most 2049 0 0).2,aI 0])) 2049 0 [] aO;have n : ∀(y:AV)(H':aa),fG [53] 24 (bQ (([]:List (dw × AV))++jL (eZ d (area * 2048) nu most 2049 0 ([]:List (dw × AV)).length).1)) H' y->([]++jL (eZ d (area * 2048) nu most 2049 0 ([]:List (dw × AV)).length).1=[]->y=aO) ->
  cU env 9 (.tup [y,aI (eZ d (area * 2048) nu most 2049 0 ([]:List (dw × AV)).length).2,aI 0]) H' (.tup [kn 24 (bQ (jL (eZ d (area * 2048) nu most 2049 0 0).1)),aI (eZ d (area * 2048) nu most 2049 0 0).2,aI 0]):=by
  intro y H' h f;rw[kS]at h f ⊢;rw[sO]at h f;generalize eZ d (area * 2048) nu most 2049 0 0=q at *;rcases h with ⟨rfl,o⟩ | ⟨t,D,p,rfl,k⟩
  ·rw[o];simp[kn]
  by_cases m:bQ (jL q.1)=[];·cases f (by simpa [bQ] using m)
  rw[tH 24 m];simp[k]
 have C:=a.sl.r;have e:=λH u A B=>c H (by omega) (by omega) (by omega) (by simp) u A B (λ_=>rfl) n;clear b a n c;generalize eZ d (area * 2048) nu most 2049 0 0=q at *;obtain⟨l,y,st,lf,dd⟩:=d;simp only[Dk.val,cz]at *;simp[aj, *,FT];exact e _ (by simp(maxDischargeDepth:=12) [dU, *]) (by simp(maxDischargeDepth:=12) [dU, *]) (.inl ⟨rfl,rfl⟩)
end
end
section
def nj:List dw->Nat
 | []=>0
 | r :: L=>fj r+nj L
def chain(d:Dk)(p:Int):Int->Int->List dw->Prop
 | _,_,[]=>True
 | nu,at',r :: L=>rK d (p+at') at' nu=some (r,fj r)/\chain d p (nu+1) (at'+fj r) L
def L8(d:Dk)(area at' nu:Int)(r:dw):(d.app area at' nu r).st=d.st:=ab3 0 _ _ _
def Fb{d:Dk}(e:d.sH){area at' nu:Int}{r:dw}(h:Fc d area at' nu r=0):(d.app area at' nu r).sH/\(d.app area at' nu r).may=true/\d.may=true/\(0<=area/\area<=2/\0<=at'/\at'<=2048/\1<=d.st/\1<=nu/\nu<16777216)/\bT r=true/\at'+fj r<=2048/\kW d.st nu 0 (fj r)=true:=by
 unfold Fc at h;split at h
 ·rename_i b;split at h
  ·rename_i f;split at h
   ·rename_i a;split at h
    ·rename_i g;have i:d.st<2147483648:=by
      have:=b;unfold Dk.may Eh E5 at this;simp at this;omega
     have j:=vf a;have c:kW d.st nu 0 (fj r)=true:=(by unfold kW;simp;omega);have:=UD (bK r d.st nu) d.tw (area * 2048+at') (UZ e) (by rw[Pb,b]) (by omega) (by rw[kX a];omega) (vx a c);exact⟨this.1,this.2,b,f,a,g,c⟩
    cases h
   cases h
  cases h
 cases h
end
section
attribute [local simp] aK az ak ay ax bD kj aM aq aA bA bw aJ aL af aW dq
def fresh(n:Int):Dk:=⟨[],aO,1,n,false⟩
def Dk.again(d:Dk)(n:Int):Dk:=⟨mv d.l,vw (Sm d.x d.l),d.st+1,n,false⟩
def Rj{d:Dk}{p nu most:Int} : ∀(m:Nat)(at':Int)(n:Nat),(∀r∈(eZ d p nu most m at' n).1,r.op.l.length<1000000)/\(eZ d p nu most m at' n).1.length<=m:=by
 intro m;induction m with
 | zero=>intro at' n;exact⟨λr a=>(by cases a),cG _⟩
 | succ m e=>
  intro at' n;unfold eZ;split
  ·split
   ·rename_i r k c;have:=e (at'+k) (n+1);refine⟨λq b=>?_,by simp;exact this.2⟩;rcases fh.1 b with rfl | b
    ·exact(Ew c).2.2.2
    exact this.1 q b
   exact⟨λr a=>(by cases a),by simp⟩
  exact⟨λr a=>(by cases a),by simp⟩
def HS{l:List dw}(h : ∀r∈l,r.op.l.length<1000000) : ∀p∈jL l,wM p:=by
 intro p hp;obtain⟨r,a,rfl⟩:=nO.1 hp;exact⟨jj _,Ay (h r a) (by decide)⟩
def acz{p:dw × AV}(hp:wM p):ar env 40 [p.1.val p.2]=some (if bT p.1 then .tup [aI (fj p.1),aI 0] else .tup [aI 0,aI 8]):=by
 obtain⟨⟨k,u,⟨q,⟨n,a_3,z⟩,m,⟨⟨⟨s,j,t⟩,y⟩,i⟩,⟨⟨d,f,b⟩,e⟩,⟨a,h⟩,l⟩,c,g,v,w,o⟩,x⟩:=p;exact HJ k u q n a_3 z m s j t y i d f b e a h c g v w o hp.1 (by have:=hp.2;simp at this;omega)
def gj(g n:Int):List UInt8:=77 :: (be 4 g++(be 3 n++List.replicate 120 0))
def n9(g n:Int):(gj g n).length=128:=by simp[gj,uu,QG]
def Ro{g n:Int}(c:0<=g)(e:0<=n):ar env 36 [.agg [aI g,aI n]]=some (.bg 1 (au (gj g n)) none):=by
 refine aF rfl (by kernel_rfl) (Hh _ _ _ λg=>?_);have a:=yK (P:=env.P) (t:=57) (z:=1) (by':=1) (zz:=a8 0) (r:=⟨0,6,0,0⟩) (by kernel_rfl) (by kernel_rfl) (n:=128) (by decide) (by decide);rw[show((128:Nat):Int)=128 from rfl]at a;simp[aj, *,Bj];refine mC _ _ _ _ _ λg=>?_;simp[aj, *,k6,cK,cF];refine mC _ _ _ _ _ λg=>?_;simp[aj, *,k6,cK,cF];refine mC _ _ _ _ _ λg=>?_;simp[aj, *,k6,cK,cF];refine mC _ _ _ _ _ λg=>?_;simp[aj, *,k6,cK,cF];refine mC _ _ _ _ _ λg=>?_;simp[aj, *,k6];refine oZ _ _ _ _ _ λg=>?_;simp[aj, *,mX,cK,cF];refine oZ _ _ _ _ _ λg=>?_;simp[aj, *,mX,cK,cF];refine oZ _ _ _ _ _ λg=>?_;simp[aj, *,mX,cK,cF];refine oZ _ _ _ _ _ λg=>?_;simp[aj, *,mX,gj,uu,QG,au]
def zG{P:Program}{t z:Nat}(h:(ca P t).bind (aE P)=some z){es:List AV}{x:AV}(f:Sl z es x){lo hi:Int}(n:0<=lo)(k:lo<=hi)(m:hi<=es.length) :
 ∃y,(∀g,cr P g t (some x) (some (some lo)) (some (some hi)) (some none)=some (y,[]))/\Sl z ((es.drop lo.toNat).take (hi.toNat - lo.toNat)) y:=by
 rcases f with ⟨rfl,rfl⟩ | ⟨c,rfl,a⟩
 ·obtain⟨y,e,i⟩:=EG h (λ_=>none) (.inl ⟨rfl,rfl⟩) n k m;refine⟨y,λg=>?_,i⟩;rw[CS (by rw[h];rfl)]at e ⊢;exact e
 obtain⟨y,e,i⟩:=EG h (λ_=>none) (.inr ⟨c,rfl,a⟩) n k m;refine⟨y,λg=>?_,i⟩;rw[CT h]at e ⊢;exact e
def uq(b:List UInt8):Int:=val ((b.drop 1).take 4)
def DA(b:List UInt8):Int:=val ((b.drop 5).take 3)
def yI(b:List UInt8)(slot:Int):Int × Int:=if 1<=uq b/\uq b<2147483648/\uq b % 2=slot/\b=gj (uq b) (DA b) then (uq b,DA b) else (0,0)
section
variable{C:AV}{b:List UInt8}(f:Sl 1 (au b) C)(B:b.length=128){slot:Int}{Q:AV->aa->Prop}(j : ∀H,Q (.agg [aI (yI b slot).1,aI (yI b slot).2]) H)
include f B j
theorem PC{n:AV}{l:List UInt8}(m:Sl 1 (au l) n)(w:l=(b.drop 5).take 3)(O:0<=slot){L:Int}(y:L=uq b) : ∀(s:List UInt8)(k:Nat)(i a:Int)(H:aa),l.drop k=s->k<=l.length->i=k->0<=a->a<256 ^ k->vc a s=DA b ->
 H.get ⟨0,4,0,0⟩=some ⟨2,[.agg [aI L,aI a]],false,false⟩->Fr H ->
 bS env Tryz.f32 0 o8 [(39,aI i),(4,.ptr ⟨0,4,0,0⟩ 0 0),(37,n),(5,C),(1,aI slot),(38,aI l.length)] H Q:=by
 have G:l.length=3:=by rw[w];simp[B]
 intro s;induction s with
 | nil=>
  rintro k i a H hs hk rfl h0 h1 hv h4 hF;obtain rfl:=drop_nil hs hk;refine yc _ _ _ _ _ _ _ _ λg=>?_;have I:a=DA b:=hv;subst I;subst y;have N:(H.get ⟨0,4,0,0⟩).isSome=true:=by rw[h4];rfl
  have o:0<=uq b:=yA 0 (by omega) _;have E:0<=DA b:=yA 0 (by omega) _;have R:=Ro o E;have q:=HQ f (Sl.mk 1 (au (gj (uq b) (DA b))));have S:=f.r;have z : ∀xo yo,bC env.P .rem 3 xo yo (some (.v (.int .i64 (uq b)))) (some (.v (.int .i64 2)))=some (aI (uq b % 2),[]):=(by intro xo yo;have:=gE (P:=env.P) (t:=3) (xo:=xo) (yo:=yo) (k := .i64) (a:=uq b) (b:=2) (by omega);rw[wV o]at this;exact this);have F : ∀xo yo,bC env.P .rem 3 xo yo (some (aI (uq b))) (some (.v (.int .i64 2)))=some (aI (uq b % 2),[]):=z;unfold yI at j;generalize uq b=gb at *;generalize DA b=nb at *;have hd:decide (b=gj gb nb)=true\/decide (b=gj gb nb)=false:=by cases decide (b=gj gb nb)<;>simp
  by_cases Y:gb<1;·rw[if_neg (by omega)]at j;clear hd f m;simp[aj, *,jD,aa.ab]
  by_cases X:2147483648<=gb;·rw[if_neg (by omega)]at j;clear hd f m;simp[aj, *,jD,aa.ab]
  by_cases K:gb % 2=slot
  ·rcases hd with hd | hd
   ·have c:b=gj gb nb:=(by simpa using hd);rw[if_pos ⟨by omega,by omega,K,c⟩]at j;rw[hd]at q;clear hd c f m;generalize gj gb nb=mb at *;simp[aj, *,jD,aa.ab]
   have c : ¬b=gj gb nb:=(by simpa using hd);rw[if_neg (λh=>c h.2.2.2)]at j;rw[hd]at q;clear hd c f m;generalize gj gb nb=mb at *;simp[aj, *,jD,aa.ab]
  rw[if_neg (λh=>K h.2.2.1)]at j;clear hd f m;simp[aj, *,jD,aa.ab]
 | cons v s M=>
  rintro k i a H hs hk rfl h0 h1 hv h4 hF;obtain⟨U,W,D,V⟩:=drop_cons hs;have T:=v.toNat_lt;have h2:=qX (k:=k) 6 (by omega);have e:=Gk h0 (by omega) v;have e2:=iQa (a * 256) (by omega);have Z:=iQa ((k:Int)+1) (by omega);have J:=λH'=>M (k+1) ((k:Int)+1) (256 * a+v.toNat) H' D (by omega) (by simp) (by omega) (by rw[vI];omega) hv;have N:(H.get ⟨0,4,0,0⟩).isSome=true:=by rw[h4];rfl
  clear M j hv;clear y G w;refine yc _ _ _ _ _ _ _ _ λg=>?_;simp[aj, *,jD,yM,m.idx,aa.ab];exact J _ (by simp(maxDischargeDepth:=12) [dU, *]) (by simp(maxDischargeDepth:=12) [dU, *])
theorem PD{n:AV}{l:List UInt8}(I:Sl 1 (au l) n)(w:l=(b.drop 1).take 4)(y:0<=slot) : ∀(s:List UInt8)(k:Nat)(i a:Int)(H:aa),l.drop k=s->k<=l.length->i=k->0<=a->a<256 ^ k->vc a s=uq b ->
 H.get ⟨0,4,0,0⟩=some ⟨2,[.agg [aI a,aI 0]],false,false⟩->Fr H ->
 bS env Tryz.f32 0 qC [(24,aI i),(4,.ptr ⟨0,4,0,0⟩ 0 0),(22,n),(5,C),(1,aI slot),(23,aI l.length)] H Q:=by
 have D:l.length=4:=by rw[w];simp[B]
 intro s;induction s with
 | nil=>
  rintro k i a H hs hk rfl h0 h1 hv h4 hF;obtain rfl:=drop_nil hs hk;refine Ae _ _ _ _ _ _ _ _ λg=>?_;have F:a=uq b:=hv;obtain⟨z,L,c⟩:=zG (P:=env.P) (t:=57) (z:=1) (by kernel_rfl) f (lo:=5) (hi:=8) (by omega) (by omega) (by simp;omega);have m:((au b).drop (5:Int).toNat).take ((8:Int).toNat - (5:Int).toNat)=au ((b.drop 5).take 3):=by simp[au]
  rw[m]at c;have h:((b.drop 5).take 3).length=3:=by simp[B]
  have o:=PC f B j c rfl y F ((b.drop 5).take 3) 0 0 0 H rfl (by omega) rfl (by omega) (by simp) rfl h4 hF;rw[h]at o;have E:=c.len;rw[fN,h]at E;clear j f I c m h;simp[aj, *,uO];exact o
 | cons v s J=>
  rintro k i a H hs hk rfl h0 h1 hv h4 hF;obtain⟨M,O,q,N⟩:=drop_cons hs;have K:=v.toNat_lt;have T:=qX (k:=k) 6 (by omega);have e:=Gk h0 (by omega) v;have U:=iQa (a * 256) (by omega);have S:=iQa ((k:Int)+1) (by omega);have G:=λH'=>J (k+1) ((k:Int)+1) (256 * a+v.toNat) H' q (by omega) (by simp) (by omega) (by rw[vI];omega) hv;have R:(H.get ⟨0,4,0,0⟩).isSome=true:=by rw[h4];rfl
  clear J j hv;clear D w;refine Ae _ _ _ _ _ _ _ _ λg=>?_;simp[aj, *,uO,yM,I.idx,aa.ab];exact G _ (by simp(maxDischargeDepth:=12) [dU, *]) (by simp(maxDischargeDepth:=12) [dU, *])
end
def Dk.mark(d:Dk)(slot:Int):Int × Int:=yI (d.rd (6144+slot)) slot
def Dk.cur(d:Dk):Int × Int:=if (d.mark 1).1<(d.mark 0).1 then d.mark 0 else d.mark 1
def VY(b:List UInt8)(slot:Int):0<=(yI b slot).1/\(yI b slot).1<2147483648/\0<=(yI b slot).2/\(yI b slot).2<=16777215:=by
 unfold yI;split
 ·rename_i h;have a:0<=DA b:=yA 0 (by omega) _;have c:DA b<256 ^ (0+((b.drop 5).take 3).length):=CL ((b.drop 5).take 3) 0 (by omega) 0 (by decide);have w:((b.drop 5).take 3).length<=3:=by simp;omega
  have:=qX (k:=0+((b.drop 5).take 3).length) 3 (by omega);exact⟨by show 0<=uq b;omega,h.2.1,a,by show DA b<=_;omega⟩
 simp
def CZ(d:Dk):0<=d.cur.1/\d.cur.1<2147483648/\0<=d.cur.2/\d.cur.2<=16777215:=by
 unfold Dk.cur;split<;>exact VY _ _
def aaq(a b c e:AV):mI env.P 92 (some [(0,.agg [a,b]),(1,.agg [c,e])])=some (.agg [a,b,c,e],[]):=by
 have g:eu env.P 92=some (.agg [aI 0,aI 0,aI 0,aI 0]):=by kernel_rfl
 have h:ly env.P 92=some (2,63):=by kernel_rfl
 have i:aE env.P 63=some 2:=by kernel_rfl
 unfold mI;rw[g];simp only[h,i];rfl
section
variable{d:Dk}(u:d.sH)
include u
theorem Rl(n:d.may=true){slot:Int}(s:0<=slot/\slot<=1):ar env 32 [d.val,aI slot]=some (.agg [aI (d.mark slot).1,aI (d.mark slot).2]):=by
 refine aF rfl (by kernel_rfl) (Jl _ _ _ _ λg=>?_);have F:=iQa (6144+slot) (by omega);have E:=acw u n (q:=6144+slot) (by omega);have c:=PF n (6144+slot);unfold Dk.mark;generalize d.rd (6144+slot)=b at *;have f:=Sl.mk 1 (au b);obtain⟨z,o,a⟩:=zG (P:=env.P) (t:=57) (z:=1) (by kernel_rfl) f (lo:=1) (hi:=5) (by omega) (by omega) (by simp;omega);have h:((au b).drop (1:Int).toNat).take ((5:Int).toNat - (1:Int).toNat)=au ((b.drop 1).take 4):=by simp[au]
 rw[h]at a;have e:((b.drop 1).take 4).length=4:=by simp[c]
 have i:=λH=>PD f c (slot:=slot) (Q:=λv H=>cU env 32 v H (.agg [aI (yI b slot).1,aI (yI b slot).2])) (λH=>by simp) a rfl s.1 ((b.drop 1).take 4) 0 0 0 H rfl (by omega) rfl (by omega) (by simp) rfl;rw[e]at i;have k:=a.len;rw[fN,e]at k;have D:=u.sl.r;clear u n f a h e;obtain⟨l,y,st,lf,dd⟩:=d;simp only[Dk.val,cz]at *;generalize yI b slot=m at *;simp[aj, *,Cu,aa.ab];exact i _ (by simp(maxDischargeDepth:=12) [dU, *]) (by simp(maxDischargeDepth:=12) [dU, *])
theorem EJ:ar env 14 [d.val]=some (if d.may then .tup [.agg [aI d.cur.1,aI d.cur.2],aI 0] else .tup [.agg [aI 0,aI 0],aI 8]):=by
 refine aF rfl (by kernel_rfl) (Ez _ _ _ λg=>?_);have a:=HO u;have e:=u.sl.r;cases hm:d.may with
 | false=>rw[hm]at a;clear u hm;obtain⟨l,y,st,lf,dd⟩:=d;simp only[Dk.val,cz,eW,iQe]at *;simp[aj, *,ph,aa.ab]
 | true=>
  rw[hm]at a;have k:=Rl u hm (slot:=0) (by omega);have i:=Rl u hm (slot:=1) (by omega);simp only[if_true];unfold Dk.cur;have c:=aaq;generalize d.mark 0=m0 at *;generalize d.mark 1=m1 at *;clear u hm;obtain⟨l,y,st,lf,dd⟩:=d;simp only[Dk.val,cz,if_true]at *;by_cases h:m1.1<m0.1;·rw[if_pos h];simp[aj, *,ph,aa.ab]
  rw[if_neg h];simp[aj, *,ph,aa.ab]
def Dk.EX(d:Dk):List dw:=(eZ d ((1+d.cur.1 % 2) * 2048) 0 d.cur.2 2049 0 0).1
def DN(d:Dk):AV:=if (d.EX.length:Int)=d.cur.2 then .tup [kn 24 (bQ (jL d.EX)),.agg [aI d.cur.1,aI d.cur.2],aI 0] else .tup [aO,.agg [aI 0,aI 0],aI 8]
theorem acC:ar env 16 [d.val]=some (if d.may then DN d else .tup [aO,.agg [aI 0,aI 0],aI 8]):=by
 refine aF rfl (by kernel_rfl) (Jm _ _ _ λg=>?_);have s:=EJ u;have D:=u.sl.r;cases hm:d.may with
 | false=>rw[hm]at s;clear u hm;obtain⟨l,y,st,lf,dd⟩:=d;simp only[Dk.val,cz,eW,iQe]at *;simp[aj, *,tN,aa.ab]
 | true=>
  rw[hm]at s;have e:=CZ d;have q:=YS u hm (area:=1+d.cur.1 % 2) (nu:=0) (most:=d.cur.2) (by omega) (by omega) (by omega);simp only[if_true]at s ⊢;unfold DN;have E:=iQa (1+d.cur.1 % 2) (by omega);have c : ∀xo yo,bC env.P .rem 3 xo yo (some (.v (.int .i64 d.cur.1))) (some (.v (.int .i64 2)))=some (aI (d.cur.1 % 2),[]):=(by intro xo yo;have:=gE (P:=env.P) (t:=3) (xo:=xo) (yo:=yo) (k := .i64) (a:=d.cur.1) (b:=2) (by omega);rw[wV e.1]at this;exact this);have n : ∀xo yo,bC env.P .rem 3 xo yo (some (aI d.cur.1)) (some (.v (.int .i64 2)))=some (aI (d.cur.1 % 2),[]):=c;rw[show eZ d ((1+d.cur.1 % 2) * 2048) 0 d.cur.2 2049 0 0=(d.EX,(eZ d ((1+d.cur.1 % 2) * 2048) 0 d.cur.2 2049 0 0).2) from rfl]at q;generalize (eZ d ((1+d.cur.1 % 2) * 2048) 0 d.cur.2 2049 0 0).2=nx at *;have i:=(rS 24 (bQ (jL d.EX))).r;rw[vu,Dr]at i;generalize kn 24 (bQ (jL d.EX))=o at *;generalize d.EX.length=z at *;generalize d.cur=m at *;clear u hm;obtain⟨l,y,st,lf,dd⟩:=d;simp only[Dk.val,cz,if_true]at *;by_cases h:(z:Int)=m.2;·rw[if_pos h];simp[aj, *,tN,aa.ab]
  rw[if_neg h];simp[aj, *,tN,aa.ab]
end
def vW(L:List dw):Int:=if 2048<L.length then 4 else if L.all bT then (if nj L<=2048 then 0 else 9) else 8
section
variable{l:List (dw × AV)}{x:AV}(f:Sl 24 (bQ l) x)(w : ∀p∈l,wM p)
include f w
theorem Pz(A:l.length<=2048){Q:AV->aa->Prop} : ∀(s:List (dw × AV)) (k:Nat) (i a:Int) (H:aa),l.drop k=s->k<=l.length->i=k->0<=a->a<=3 * k ->
 (∀H',Q (aI (if (jg s).all bT then (if a+nj (jg s)<=2048 then 0 else 9) else 8)) H') ->
 bS env Tryz.f35 0 o7 [(13,aI i),(3,aI a),(11,x),(12,aI l.length)] H Q:=by
 intro s;induction s with
 | nil=>
  rintro k i a H hs hk rfl h0 h1 j;obtain rfl:=drop_nil hs hk;refine td _ _ _ _ _ _ λg=>?_;simp only[jg,El,GI,nj,if_true,GN,GF]at j;clear w;by_cases h:a<=2048
  ·rw[if_pos h]at j;have E : ¬2048<a:=by omega
   simp[aj, *,mW]
  rw[if_neg h]at j;have E:2048<a:=by omega
  simp[aj, *,mW]
 | cons p s q=>
  rintro k i a H hs hk rfl h0 h1 j;obtain⟨F,D,o,t⟩:=drop_cons hs;have hp:=w p (D ▸ eE _);have I:=iQa ((k:Int)+1) (by omega);have c:=acz hp;have n:bF (bQ l) k 0 24 true=some (p.1.val p.2):=by simp[bQ,t,dw.val]
  have z:(k:Int)<l.length:=(by omega);have y:=hp.1.r;rw[show jg (p :: s)=p.1 :: jg s from rfl,tU]at j;cases m:bT p.1 with
  | false=>rw[m]at j c;simp only[qO,eW,iQe]at j c;clear q w hp m;unfold dw.val at c n;refine td _ _ _ _ _ _ λg=>?_;simp[aj, *,mW,f.idx]
  | true=>
   rw[m]at j c;simp only[iZ,if_true,nj]at j c;have J:=vf m;have G:=iQa (a+fj p.1) (by omega);have v:=λH'=>q (k+1) ((k:Int)+1) (a+fj p.1) H' o (by omega) (by simp) (by omega) (by omega) (λH'=>by
    have:=j H';have e:((fj p.1+nj (jg s):Nat):Int)=fj p.1+nj (jg s):=by omega
    simp only[e,<-Int.add_assoc]at this;exact this)
   clear q w hp m j;unfold dw.val at c n;refine td _ _ _ _ _ _ λg=>?_;simp[aj, *,mW,f.idx];all_goals exact v _
theorem SC:ar env 35 [x]=some (aI (vW (jg l))):=by
 refine aF rfl (by kernel_rfl) (Hg _ _ _ λg=>?_);unfold vW;by_cases h:2048<l.length
 ·rw[if_pos (by rw[vg];exact h)];have c:(2048:Int)<l.length:=by omega
  simp[aj, *,wy,f.r]
 rw[if_neg (by rw[vg];exact h)];have c : ¬(2048:Int)<l.length:=by omega
 have a:=λH=>Pz f w (by omega) (Q:=λv H=>cU env 35 v H (aI (if (jg l).all bT then (if nj (jg l)<=2048 then 0 else 9) else 8))) l 0 0 0 H rfl (by omega) rfl (by omega) (by omega) (λH'=>by
  rw[Int.zero_add];have e:(if ((nj (jg l):Nat):Int)<=2048 then (0:Int) else 9)=if nj (jg l)<=2048 then 0 else 9:=by
   by_cases h:nj (jg l)<=2048;·rw[if_pos h,if_pos (by omega)]
   rw[if_neg h,if_neg (by omega)]
  rw[e];simp)
 generalize (if (jg l).all bT then (if nj (jg l)<=2048 then (0:Int) else 9) else 8)=er at *;clear w;simp[aj, *,wy,f.r];exact a _
end
def uy(d:Dk)(area at' nu:Int):List dw->Dk
 | []=>d
 | r :: L=>uy (d.app area at' nu r) area (at'+fj r) (nu+1) L
def Cp(d:Dk)(L:List dw):Dk:=(uy d (1+(d.cur.1+1) % 2) 0 1 L).wr (6144+(d.cur.1+1) % 2) (gj (d.cur.1+1) L.length)
def qp(d:Dk)(L:List dw):Int:=if d.may then (if d.st<1 then 2 else if vW L=0 then (if 2147483648<=d.cur.1+1 then 9 else 0) else vW L) else 8
def I6{d:Dk}(e:d.may=true)(c:1<=d.st){area at' nu:Int}{r:dw}(g:0<=area/\area<=2)(i:0<=at'/\at'+fj r<=2048)(h:1<=nu/\nu<16777216)(a:bT r=true):Fc d area at' nu r=0:=by
 have:=vf a;unfold Fc;rw[if_pos e,if_pos (by omega),if_pos a,if_pos (by omega)]
def R7 : ∀(L:List dw)(d:Dk)(area at' nu:Int),d.sH->d.may=true->1<=d.st->(0<=area/\area<=2)->0<=at'->at'+nj L<=2048->1<=nu->nu+L.length<=16777216->L.all bT=true->(uy d area at' nu L).sH/\(uy d area at' nu L).may=true/\(uy d area at' nu L).st=d.st:=by
 intro L;induction L with
 | nil=>intro d area at' nu u g _ _ _ _ _ _ _;exact⟨u,g,rfl⟩
 | cons r L i=>intro d area at' nu u g a h n m o k e;simp only[tU,bo]at e;simp only[nj,gD]at m k;have c:=Fb u (I6 (at':=at') (nu:=nu) g a h (by omega) (by omega) e.1);have:=i (d.app area at' nu r) area (at'+fj r) (nu+1) c.1 c.2.1 (by rw[L8];exact a) h (by omega) (by omega) (by omega) (by omega) e.2;rw[L8]at this;exact this
end
end Go.Proofs.YtmjkpdknicjjgaaGreat
namespace Go.Proofs.YtmjkpdknicjjgaaGreat
open Go.Ab Go.ChangeShapes Go.WideShapes Go.RowKit
def VW:QL env.P 39 (λ_=>True) (λp:UInt8 × UInt32 × Bool=>[a8 p.1,bR p.2.1,aB p.2.2]):=by
 intro n d h;have h:=n8 (P:=env.P) NU h;obtain⟨m,x,r,rfl,a,y,r',rfl,c,rfl⟩:=h;obtain⟨q,_,rfl⟩:=Ls _ _ a;obtain⟨b,_,rfl⟩:=M5 (P:=env.P) (t:=4) (by simp) _ _ c;exact⟨(q.1,q.2,b),trivial,rfl⟩
def ajl(p:dw × AV):List AV:=[a8 p.1.kind,aI p.1.user]++(abU (p.1.op,p.2)++[aI p.1.code,aI p.1.gu,a8 p.1.gv,bR p.1.gc,aB p.1.gok])
def VU:QL env.P 43 (λp:dw × AV=>Sl 1 (rows p.1.op.l) p.2/\qG p.1.op.l) ajl:=by
 intro n A h;have h:=n8 (P:=env.P) NS h;obtain⟨m,s,r1,rfl,e,w,r2,rfl,j,o,r3,rfl,d,B,r4,rfl,b,y,r5,rfl,f,rfl⟩:=h;obtain⟨k,_,rfl⟩:=M6 (P:=env.P) (t:=5) (by simp) _ _ e;obtain⟨u,_,rfl⟩:=ve (P:=env.P) (t:=3) (by simp) _ _ j;obtain⟨q,i,rfl⟩:=VV _ _ d;obtain⟨c,_,rfl⟩:=ve (P:=env.P) (t:=37) (by simp) _ _ b;have a:=n8 (P:=env.P) NT f;obtain⟨m,v,s1,rfl,i1,x,s2,rfl,i2,rfl⟩:=a;obtain⟨g,_,rfl⟩:=ve (P:=env.P) (t:=3) (by simp) _ _ i1;obtain⟨z,_,rfl⟩:=VW _ _ i2;exact⟨(⟨k,u,q.1,c,g,z.1,z.2.1,z.2.2⟩,q.2),i,rfl⟩
def Vn{n:Nat}{x:AV}(h:Uu env.P n 50 x) : ∃(l:List (dw × AV)),(∀p∈l,Sl 1 (rows p.1.op.l) p.2/\qG p.1.op.l)/\Sl 24 (bQ l) x:=by
 obtain⟨l,z,a,e,s⟩:=Dm (P:=env.P) U8 U1 YB VU (h.cell (by simp));cases e;exact⟨l,a,s⟩
def Vg{N:Nat}{l:List eb}{x:AV}{st lf:Int}{dd:Bool}(c:Sl 2 (aG l) x)(a : ∀s∈l,iX s)(h:uB N (cz x st lf dd)) : ∀s∈l,s.bs.length<=N:=by
 intro s b;have f:=h.parts x (by simp);have e:=(f.sl c).2 s.enc (GQ b);have g:=e.parts s.av (by simp);have d:=(g.sl (a s b)).1;simpa using d
def Vf{N:Nat}{p:dw × AV}(a:Sl 1 (rows p.1.op.l) p.2)(h:uB N (p.1.val p.2)):p.1.op.l.length<=N:=by
 unfold dw.val at h;have b:=h.parts p.2 (by simp);simpa [rows] using (b.sl a).1
def Sw{N:Nat}{l:List (dw × AV)}{x:AV}(a:Sl 24 (bQ l) x)(b : ∀p∈l,Sl 1 (rows p.1.op.l) p.2/\qG p.1.op.l)(h:uB N x) : ∀p∈l,p.1.op.l.length<=N:=λp hp=>
 Vf (b p hp).1 ((h.sl a).2 _ (GQ hp))
end Go.Proofs.YtmjkpdknicjjgaaGreat
namespace Go.Proofs.YtmjkpdknicjjgaaGreat
open Go.Ab
section
attribute [local simp] aK az ak ay ax bD kj aM aq aA bA bw aJ aL af aW dq
def agy{d:Dk}(f:d.may=true)(q:Int):Ue d.l q=d.rd q:=ahF q d.l (-1) (vi f)
def agv{d:Dk}(e:d.sH)(f:d.may=true)(q:Int):ar env 95 [d.val,aI q]=some (.bg 1 (au (d.rd q)) none):=by
 have h:=ago (st:=d.st) (lf:=d.lf) (dd:=d.dd) e.sl e.ok (by have:=e.len;omega) (tL d.l (-1) (vi f)) q;rw[agy f]at h;exact h
section
variable{d:Dk}(e:d.sH)(f:d.may=true){area at':Int}(i:0<=area/\area<=2)(m:0<=at'/\at'<=2048){n:Nat}(o:1<=n/\n<=4)
include e f i m o
theorem Oo{Q:AV->aa->Prop}(q : ∀c H',fG [26] 1 (dE (fk d (area * 2048+at') n)) H' c->Q c H') : ∀(j k:Nat)(c:AV)(H:aa),k+j=n->Fr H ->
 H.get ⟨0,4,0,0⟩=some ⟨4,[d.val],false,false⟩->fG [26] 1 (dE (fk d (area * 2048+at') k)) H c ->
 bS env Tryz.f94 0 im [(10,aI k),(2,aI at'),(1,aI area),(4,.ptr ⟨0,4,0,0⟩ 0 0),(9,c),(3,aI n)] H Q:=by
 have J:=iQa (area * 2048) (by omega);have K:=iQa (area * 2048+at') (by omega);intro j;induction j with
 | zero=>
  rintro k c H hk hF h4 hO;obtain rfl:k=n:=by omega
  have y:=q c H hO;refine oo _ _ _ _ _ _ _ _ λg=>?_;clear e f q hO;simp[aj, *,iu];done
 | succ j v=>
  rintro k c H hk hF h4 hO;have I:=iQa (area * 2048+at'+k) (by omega);have C:=iQa ((k:Int)+1) (by omega);have G:=agv e f (area * 2048+at'+k);have a:(dE (fk d (area * 2048+at') k)).length=k:=by rw[vA,tA]
  have B:(k:Int)<n:=(by omega);have h:=λu H'=>v (k+1) u H' (by omega);rw[FN,<-C2,show((k+1:Nat):Int)=(k:Int)+1 from by omega]at h;clear v q;have A:=e.sl.r;generalize d.rd (area * 2048+at'+k)=b at *;have z:=(Sl.mk 1 (au b)).r;refine oo _ _ _ _ _ _ _ _ λg=>?_;generalize dE (fk d (area * 2048+at') k)=BV at *;clear e f;obtain⟨l,x,st,lf,dd⟩:=d;simp only[Dk.val,cz]at *;have D:(H.get ⟨0,4,0,0⟩).isSome=true:=by rw[h4];rfl
  rcases hO with ⟨rfl,rfl⟩ | ⟨t,w,p,rfl,s⟩
  ·clear a;simp[aj, *,iu];exact h _ _ (by simp(maxDischargeDepth:=12) [dU, *]) (by simp(maxDischargeDepth:=12) [dU, *]) (.inr ⟨26,H.gen 0 26,by simp,by simp,by simp⟩)
  rw[mA]at p;subst p;have E:(H.get ⟨0,26,w,0⟩).isSome=true:=by rw[s];rfl
  have F:kL 1 24 BV.length true none (some ⟨1,BV,true,false⟩) (some [.bg 1 (au b) none]):=(by simp;omega);clear a;simp[aj, *,iu];exact h _ _ (by simp(maxDischargeDepth:=12) [dU, *]) (by simp(maxDischargeDepth:=12) [dU, *]) (.inr ⟨26,H.gen 0 26,by simp,by simp,by simp⟩)
theorem SK:ar env 94 [d.val,aI area,aI at',aI n]=some (.bg 1 (dE (fk d (area * 2048+at') n)) none):=by
 refine aF rfl (by kernel_rfl) (wI _ _ _ _ _ _ λg=>?_);have s:=e.sl.r;have c:(dE (fk d (area * 2048+at') n)).length=n:=by rw[vA,tA]
 have j:=λH=>Oo e f i m o (Q:=λv H=>cU env 94 v H (.bg 1 (dE (fk d (area * 2048+at') n)) none)) (λw H' q=>by
  generalize dE (fk d (area * 2048+at') n)=BV at *;rcases q with ⟨rfl,rfl⟩ | ⟨t,u,p,rfl,k⟩
  ·simp at c;omega
  simp[k]) n 0 aO H (by omega)
 have h:=λH a b=>j H a b (.inl ⟨rfl,rfl⟩);clear j c e f;generalize dE (fk d (area * 2048+at') n)=BV at *;obtain⟨l,x,st,lf,dd⟩:=d;simp only[Dk.val,cz]at *;simp[aj, *,pI];exact h _ (by simp(maxDischargeDepth:=12) [dU, *]) (by simp(maxDischargeDepth:=12) [dU, *])
end
def rL(d:Dk)(p at' nu:Int):Nat->Nat->Option (dw × Nat)
 | 0,_=>none
 | j+1,many=>if at'+many<=2048 then (match zT (fk d p many) with
  | some (r,h)=>if h.nu=nu then some (r,many) else rL d p at' nu j (many+1)
  | none=>rL d p at' nu j (many+1)) else none
def SN{l:List (List UInt8)}(a:l.length<=4)(c : ∀b∈l,b.length=128):ar env 93 [.bg 1 (dE l) none]=some (Cq l):=by
 have h:=VG (x0 := .bg 1 (dE l) none) (l:=l.map λb=>(b,I2 b)) (by rw[Gq];exact Sl.mk _ _) (Gp _) (by simp;omega);rw[Bd]at h;exact h
section
variable{d:Dk}(e:d.sH)(f:d.may=true){area at' nu:Int}(i:0<=area/\area<=2)(m:0<=at'/\at'<=2048)
include e f i m
theorem MY{Q:AV->aa->Prop} : ∀(j k:Nat)(H:aa),k+j=5->1<=k->Fr H ->
 H.get ⟨0,4,0,0⟩=some ⟨4,[d.val],false,false⟩->H.get ⟨0,8,0,0⟩=some ⟨24,[jT.val aO],false,false⟩ ->
 (∀H',Q (kE (rL d (area * 2048+at') at' nu j k)) H') ->
 bS env Tryz.f62 0 iP [(8,.ptr ⟨0,8,0,0⟩ 0 0),(10,aI k),(3,aI nu),(2,aI at'),(1,aI area),(4,.ptr ⟨0,4,0,0⟩ 0 0)] H Q:=by
 intro j;induction j with
 | zero=>
  rintro k H hk h1 hF h4 h8 hQ;obtain rfl:k=5:=by omega
  simp only[rL,kE]at hQ;refine fS _ _ _ _ _ _ _ _ λg=>?_;clear e f;unfold dw.val jT dB at *;have z:(H.get ⟨0,8,0,0⟩).isSome=true:=by rw[h8];rfl
  simp[aj, *,eA,aa.ab];done
 | succ j v=>
  rintro k H hk h1 hF h4 h8 hQ;have G:=iQa (at'+k) (by omega);have D:=iQa ((k:Int)+1) (by omega);have A:(k:Int)<=4:=by omega
  unfold rL at hQ;have z:(H.get ⟨0,8,0,0⟩).isSome=true:=by rw[h8];rfl
  by_cases y:at'+k<=2048
  ·rw[if_pos y]at hQ;have E:=SK e f i m (n:=k) ⟨h1,by omega⟩;have t:=SN (l:=fk d (area * 2048+at') k) (by rw[tA];omega) (I1 f _ _);have p:=λH'=>v (k+1) H' (by omega) (by omega);rw[show((k+1:Nat):Int)=(k:Int)+1 from by omega]at p;have C:=e.sl.r;unfold Cq at t;generalize fk d (area * 2048+at') k=B at *;have F:=(Sl.mk 1 (dE B)).r;cases s:zT B with
   | none=>rw[s]at t hQ;simp only at hQ t;have p:=λH' a b c=>p H' a b c hQ;clear hQ v s e f;unfold y9 at t;refine fS _ _ _ _ _ _ _ _ λg=>?_;obtain⟨l,x,st,lf,dd⟩:=d;simp only[Dk.val,cz]at *;unfold dw.val Hd.val jT dB at *;generalize dE B=BV at *;simp[aj, *,eA,aa.ab];exact p _ (by simp(maxDischargeDepth:=12) [dU, *]) (by simp(maxDischargeDepth:=12) [dU, *]) (by simp(maxDischargeDepth:=12) [dU, *])
   | some q=>
    obtain⟨r,h⟩:=q;rw[s]at t hQ;simp only at hQ t;clear v s e f;have w:=(jj r.op.l).r;by_cases u:h.nu=nu;·rw[if_pos u]at hQ;simp only[kE]at hQ;refine fS _ _ _ _ _ _ _ _ λg=>?_;obtain⟨l,x,st,lf,dd⟩:=d;simp only[Dk.val,cz]at *;unfold dw.val Hd.val at *;unfold jT dB at *;generalize dE B=BV at *;generalize gw r.op.l=ro at *;simp[aj, *,eA,aa.ab];done
    rw[if_neg u]at hQ;have p:=λH' a b c=>p H' a b c hQ;clear hQ;refine fS _ _ _ _ _ _ _ _ λg=>?_;obtain⟨l,x,st,lf,dd⟩:=d;simp only[Dk.val,cz]at *;unfold dw.val Hd.val at *;unfold jT dB at *;generalize dE B=BV at *;generalize gw r.op.l=ro at *;simp[aj, *,eA,aa.ab];exact p _ (by simp(maxDischargeDepth:=12) [dU, *]) (by simp(maxDischargeDepth:=12) [dU, *]) (by simp(maxDischargeDepth:=12) [dU, *])
  rw[if_neg y]at hQ;simp only[kE]at hQ;refine fS _ _ _ _ _ _ _ _ λg=>?_;clear e f v;unfold dw.val jT dB at *;simp[aj, *,eA,aa.ab];done
theorem SL:ar env 62 [d.val,aI area,aI at',aI nu]=some (kE (rL d (area * 2048+at') at' nu 4 1)):=by
 refine aF rfl (by kernel_rfl) (xt _ _ _ _ _ _ λg=>?_);have t:=e.sl.r;have j : ∀H',cU env 62 (kE (rL d (area * 2048+at') at' nu 4 1)) H' (kE (rL d (area * 2048+at') at' nu 4 1)):=λH'=>by
  generalize rL d (area * 2048+at') at' nu 4 1=w;cases w with
  | none=>unfold kE dw.val jT dB;simp
  | some q=>obtain⟨r,h⟩:=q;have s:=(jj r.op.l).r;simp only[kE];unfold dw.val;simp[s]
 have p:=λH=>MY e f i m (nu:=nu) (Q:=λv H=>cU env 62 v H (kE (rL d (area * 2048+at') at' nu 4 1))) 4 1 H rfl (by omega);have k:=λH a b c=>p H a b c j;clear p j e f;generalize kE (rL d (area * 2048+at') at' nu 4 1)=W at *;obtain⟨l,x,st,lf,dd⟩:=d;simp only[Dk.val,cz]at *;unfold dw.val jT dB at *;simp[aj, *,qw];exact k _ (by simp(maxDischargeDepth:=12) [dU, *]) (by simp(maxDischargeDepth:=12) [dU, *]) (by simp(maxDischargeDepth:=12) [dU, *])
end
def Qe{d:Dk}{p:Int}{a:Nat}(l:1<=a){r:dw}{h:Hd}(e:zT (fk d p a)=some (r,h)):iy (d.rd p)=true/\(dk (d.rd p)).of=a/\(dk (d.rd p)).nu=h.nu:=by
 have c:(fk d p a)[0]?=some (d.rd p):=by
  unfold fk;rw[mr,Fk (by omega)];simp
 have k:=Qd e 0 _ c;have hd:(fk d p a).headD []=d.rd p:=by
  cases j:fk d p a with| nil=>rw[j]at c;cases c| cons b B=>rw[j]at c;simpa using c
 refine⟨?_,?_,?_⟩
 ·unfold zT at e;split at e;·rename_i g;rw[hd]at g;simp only[bo]at g;exact g.1
  cases e
 ·rw[k];simp
 rw[k]
def Sd(d:Dk)(p at' nu:Int) : ∀(j g:Nat),g+j=5->1<=g->rL d p at' nu j g=if iy (d.rd p)&&(decide (g<=(dk (d.rd p)).of)&&(decide ((dk (d.rd p)).nu=nu)&&decide (at'+(dk (d.rd p)).of<=2048))) then (zT (fk d p (dk (d.rd p)).of.toNat)).map λq=>(q.1,(dk (d.rd p)).of.toNat) else none:=by
 intro j;induction j with
 | zero=>
  intro g t m;rw[if_neg];·rfl
  simp only[bo,iQb];rintro⟨h,v,_⟩;have:=RK h;omega
 | succ j u=>
  intro g t m;unfold rL;rw[u (g+1) (by omega) (by omega)];by_cases l:at'+g<=2048
  ·rw[if_pos l];cases k:zT (fk d p g) with
   | some q=>
    obtain⟨r,h⟩:=q;obtain⟨a,b,c⟩:=Qe m k;simp only;rw[a,b,c];by_cases f:h.nu=nu;·rw[if_pos f,if_pos (by simp[f,l])];simp[k]
    rw[if_neg f,if_neg (by simp[f]),if_neg (by simp[f])]
   | none=>
    simp only;by_cases s:(dk (d.rd p)).of=g
    ·rw[s,if_neg (by simp;intros;omega)];split;·simp[k]
     rfl
    have e:decide (((g+1:Nat):Int)<=(dk (d.rd p)).of)=decide ((g:Int)<=(dk (d.rd p)).of):=by
     by_cases h:(g:Int)<=(dk (d.rd p)).of;·rw[iQh h,iQh (by omega)]
     rw[iQi h,iQi (by omega)]
    rw[e]
  rw[if_neg l,if_neg];simp only[bo,iQb];rintro⟨h,v,x,w⟩;omega
def UJ(d:Dk)(p at' nu:Int):rL d p at' nu 4 1=rK d p at' nu:=by
 rw[Sd d p at' nu 4 1 rfl (by omega)];unfold rK;cases a:iy (d.rd p) with
 | false=>simp
 | true=>
  have b:=RK a;by_cases h:2048<=at';·rw[if_pos h,if_neg (by simp;intros;omega)]
  rw[if_neg h];simp only[iZ];rw[iQh (show((1:Nat):Int)<=(dk (d.rd p)).of by omega),iZ]
section
variable{d:Dk}(i:d.sH)(n:d.may=true){area nu most:Int}(o:0<=area/\area<=2)(f:0<=nu/\nu<=16777215)
include i n o
theorem Vw{at':Int}(a:0<=at'/\at'<=2048)(nu:Int):ar env 62 [d.val,aI area,aI at',aI nu]=some (kE (rK d (area * 2048+at') at' nu)):=by
 rw[<-UJ];exact SL i n o a
include f
theorem XJ{Q:AV->aa->Prop} : ∀(m:Nat)(at':Int)(acc:List (dw × AV)) (F:AV) (H:aa),0<=at'->at'<=2048->2049<=at'+m->(acc.length:Int)<=at'->Fr H ->
 H.get ⟨0,4,0,0⟩=some ⟨4,[d.val],false,false⟩->fG [37] 24 (bQ acc) H F->(acc=[]->F=aO) ->
 (∀y H',fG [37] 24 (bQ (acc++jL (eZ d (area * 2048) nu most m at' acc.length).1)) H' y->(acc++jL (eZ d (area * 2048) nu most m at' acc.length).1=[]->y=aO)->Q (.tup [y,aI (eZ d (area * 2048) nu most m at' acc.length).2]) H') ->
 bS env Tryz.f30 0 jO [(11,aI at'),(10,F),(2,aI nu),(1,aI area),(4,.ptr ⟨0,4,0,0⟩ 0 0),(3,aI most)] H Q:=by
 intro m;induction m with
 | zero=>rintro at' acc F H h0 h1 h2;omega
 | succ m J=>
  rintro at' acc F H h0 h1 h2 hal hF h4 hO hN hQ;have K:=iQa (nu+acc.length) (by omega);have L:=iQa (nu+acc.length+1) (by omega);have B:=Vw i n o ⟨h0,h1⟩ (nu+acc.length+1);have b:(bQ acc).length=acc.length:=vu acc;unfold eZ at hQ;refine xu _ _ _ _ _ _ _ _ λg=>?_;have V:=i.sl.r;by_cases A:(acc.length:Int)<most
  ·rw[if_pos A]at hQ;cases v:rK d (area * 2048+at') at' (nu+acc.length+1) with
   | none=>
    rw[v]at B hQ;have a:=λH' h=>hQ F H' (by simpa [jL] using h) (by simpa [jL] using hN);simp only at a;clear hQ J v n i hN;obtain⟨l,y,st,lf,dd⟩:=d;simp only[Dk.val,cz]at *;have M:(H.get ⟨0,4,0,0⟩).isSome=true:=by rw[h4];rfl
    unfold kE dw.val jT dB at B;rcases hO with ⟨rfl,I⟩ | ⟨t,G,j,rfl,s⟩
    ·have:acc=[]:=(by simpa [bQ] using I);subst this;have C:0<most:=A;simp only[kS,GN,GF]at B K L;simp[aj, *,cM];all_goals exact a _ (.inl ⟨rfl,rfl⟩)
    rw[mA]at j;subst j;simp only[b]at a ⊢;have P:(H.get ⟨0,37,G,0⟩).isSome=true:=by rw[s];rfl
    simp[aj, *,cM];all_goals exact a _ (.inr ⟨37,G,by simp,by rw[b],by simp(maxDischargeDepth:=12) [dU, *]⟩)
   | some q=>
    obtain⟨r,k⟩:=q;have T:=Ew v;rw[v]at B hQ;simp only at hQ;have X:=iQa (at'+k) (by omega);have S : ¬k=0:=by omega
    have u:=λE H'=>J (at'+k) (acc++[(r,gw r.op.l)]) E H' (by omega) (by omega) (by omega) (by simp;omega);have D:=(jj r.op.l).r;have w:gw r.op.l=aO \/∃c,gw r.op.l = .bg 1 (rows r.op.l) c:=by
     rcases jj r.op.l with ⟨h,_⟩ | ⟨c,h,_⟩
     ·exact .inl h
     exact .inr ⟨c,h⟩
    have a : ∀y H',fG [37] 24 (bQ ((acc++[(r,gw r.op.l)])++jL (eZ d (area * 2048) nu most m (at'+k) (acc++[(r,gw r.op.l)]).length).1)) H' y->((acc++[(r,gw r.op.l)])++jL (eZ d (area * 2048) nu most m (at'+k) (acc++[(r,gw r.op.l)]).length).1=[]->y=aO)->Q (.tup [y,aI (eZ d (area * 2048) nu most m (at'+k) (acc++[(r,gw r.op.l)]).length).2]) H':=(by intro y H' h f;rw[ja,Eu]at h ⊢;exact hQ y H' (by simpa [jL] using h) (λe=>by simp[jL]at e));have u:=λE H' R U O=>u E H' R U O (λe=>by simp at e) a;have z : ∀(g m:Nat)(H':aa),m=acc.length+1->H'.get ⟨0,37,g,0⟩=some ⟨24,bQ acc++[r.val (gw r.op.l)],true,false⟩->fG [37] 24 (bQ (acc++[(r,gw r.op.l)])) H' (.bk ⟨0,37,g,0⟩ 0 m none):=(by intro g m H' n h;subst n;exact .inr ⟨37,g,by simp,by simp,by rw[h];simp[bQ]⟩);clear J hQ a v n i hN;unfold kE at B;unfold dw.val at B z;obtain⟨l,y,st,lf,dd⟩:=d;simp only[Dk.val,cz]at *;have M:(H.get ⟨0,4,0,0⟩).isSome=true:=by rw[h4];rfl
    generalize gw r.op.l=ro at *;have N:acc.length+1<=2049:=by omega
    rcases hO with ⟨rfl,I⟩ | ⟨t,G,j,rfl,s⟩
    ·have:acc=[]:=(by simpa [bQ] using I);subst this;have p:=λH'=>z (H.gen 0 37) 1 H' rfl;clear z b;have C:0<most:=A;simp only[kS,GN,GF]at B K L;rcases w with rfl | ⟨c,rfl⟩
     ·clear D;simp[aj, *,cM];exact u _ _ (by simp(maxDischargeDepth:=12) [dU, *]) (by simp(maxDischargeDepth:=12) [dU, *]) (p _ (by simp(maxDischargeDepth:=12) [dU, *]))
     simp[aj, *,cM];exact u _ _ (by simp(maxDischargeDepth:=12) [dU, *]) (by simp(maxDischargeDepth:=12) [dU, *]) (p _ (by simp(maxDischargeDepth:=12) [dU, *]))
    rw[mA]at j;subst j;simp only[b]at s ⊢;have P:(H.get ⟨0,37,G,0⟩).isSome=true:=by rw[s];rfl
    have p:=λH'=>z (H.gen 0 37) (acc.length+1) H' rfl;clear z;have W : ∀x:AV,kL 24 160 acc.length true none (some ⟨24,bQ acc,true,false⟩) (some [x]):=(by intro x;simp;omega);rcases w with rfl | ⟨c,rfl⟩
    ·clear D;simp[aj, *,cM];exact u _ _ (by simp(maxDischargeDepth:=12) [dU, *]) (by simp(maxDischargeDepth:=12) [dU, *]) (p _ (by simp(maxDischargeDepth:=12) [dU, *]))
    simp[aj, *,cM];exact u _ _ (by simp(maxDischargeDepth:=12) [dU, *]) (by simp(maxDischargeDepth:=12) [dU, *]) (p _ (by simp(maxDischargeDepth:=12) [dU, *]))
  rw[if_neg A]at hQ;have a:=λH' h=>hQ F H' (by simpa [jL] using h) (by simpa [jL] using hN);simp only at a;clear hQ J n i B hN;rcases hO with ⟨rfl,I⟩ | ⟨t,G,j,rfl,s⟩
  ·have:acc=[]:=(by simpa [bQ] using I);subst this;have C : ¬0<most:=A;simp[aj, *,cM];all_goals exact a _ (.inl ⟨rfl,rfl⟩)
  rw[mA]at j;subst j;simp only[b]at a ⊢;simp[aj, *,cM];all_goals exact a _ (.inr ⟨37,G,by simp,by rw[b],s⟩)
theorem acA:ar env 30 [d.val,aI area,aI nu,aI most]=some (.tup [kn 24 (bQ (jL (eZ d (area * 2048) nu most 2049 0 0).1)),aI (eZ d (area * 2048) nu most 2049 0 0).2]):=by
 refine aF rfl (by kernel_rfl) (zn _ _ _ _ _ _ λg=>?_);have b:=XJ i n o f (most:=most) (Q:=λv H=>cU env 30 v H (.tup [kn 24 (bQ (jL (eZ d (area * 2048) nu most 2049 0 0).1)),aI (eZ d (area * 2048) nu most 2049 0 0).2])) 2049 0 [] aO;have j : ∀(y:AV)(H':aa),fG [37] 24 (bQ (([]:List (dw × AV))++jL (eZ d (area * 2048) nu most 2049 0 ([]:List (dw × AV)).length).1)) H' y->([]++jL (eZ d (area * 2048) nu most 2049 0 ([]:List (dw × AV)).length).1=[]->y=aO) ->
  cU env 30 (.tup [y,aI (eZ d (area * 2048) nu most 2049 0 ([]:List (dw × AV)).length).2]) H' (.tup [kn 24 (bQ (jL (eZ d (area * 2048) nu most 2049 0 0).1)),aI (eZ d (area * 2048) nu most 2049 0 0).2]):=by
  intro y H' h f;rw[kS]at h f ⊢;rw[sO]at h f;generalize eZ d (area * 2048) nu most 2049 0 0=q at *;rcases h with ⟨rfl,k⟩ | ⟨t,x,m,rfl,c⟩
  ·rw[k];simp[kn]
  by_cases e:bQ (jL q.1)=[];·cases f (by simpa [bQ] using e)
  rw[tH 24 e];simp[c]
 have w:=i.sl.r;have a:=λH s u p=>b H (by omega) (by omega) (by omega) (by simp) s u p (λ_=>rfl) j;clear n i j b;generalize eZ d (area * 2048) nu most 2049 0 0=q at *;obtain⟨l,y,st,lf,dd⟩:=d;simp only[Dk.val,cz]at *;simp[aj, *,sx];exact a _ (by simp(maxDischargeDepth:=12) [dU, *]) (by simp(maxDischargeDepth:=12) [dU, *]) (.inl ⟨rfl,rfl⟩)
end
def Nb{l:List UInt8}{x:AV}(c:Sl 1 (au l) x)(C:l.length<=7){Q:AV->aa->Prop}{H:aa} : ∀(s:List UInt8)(k:Nat)(a:Int),l.drop k=s->k<=l.length->0<=a->a<256 ^ k->(∀y,y=aI (vc a s)->Q y H) ->
 bS env Tryz.f96 0 ik [(4,aI k),(0,x),(3,aI a)] H Q:=by
 intro s;induction s with
 | nil=>intro k a h m t o b;obtain rfl:=drop_nil h m;refine oh _ _ _ _ _ λg=>?_;simp[aj, *,kM,c.r];exact b _ rfl
 | cons p s n=>intro k a h m t o b;obtain⟨u,z,e,q⟩:=drop_cons h;have hp:=p.toNat_lt;have B:=qX (k:=k) 6 (by omega);have w:=iQa (256 * a) (by omega);have A:=iQa (256 * a+p.toNat) (by omega);have v:=iQa ((k:Int)+1) (by omega);have j:=n (k+1) (256 * a+p.toNat) e (by omega) (by omega) (by rw[vI];omega) b;rw[show((k+1:Nat):Int)=(k:Int)+1 from by omega]at j;clear n b;refine oh _ _ _ _ _ λg=>?_;simp[aj, *,kM,c.r,c.idx];done
def MT{l:List UInt8}{x:AV}(a:Sl 1 (au l) x)(b:l.length<=7):ar env 96 [x]=some (aI (val l)):=by
 refine aF rfl (by kernel_rfl) (wE _ _ _ λg=>?_);unfold pG;exact Nb a b l 0 0 rfl (by omega) (by omega) (by decide) (λy e=>by rw[e];simp[val])
def HL{a b:Int}(a0:0<=a)(A:a<4294967296)(b0:0<=b)(b1:b<4294967296):ar env 65 [.agg [aI a,aI b]]=some (.bg 1 (au (gj a b)) none):=by
 have E:=λt xo yo=>lX env.P t xo yo .i64 a 16777216 (by decide);have M:=λt xo yo=>lX env.P t xo yo .i64 a 65536 (by decide);have z:=λt xo yo=>lX env.P t xo yo .i64 a 256 (by decide);have G:=λt xo yo=>gE env.P t xo yo .i64 (a / 65536) 256 (by decide);have C:=λt xo yo=>gE env.P t xo yo .i64 (a / 256) 256 (by decide);have x:=λt xo yo=>gE env.P t xo yo .i64 a 256 (by decide);obtain⟨v,w,u,s,n,o⟩:=Gs a0 A;rw[v]at E;rw[w]at M;rw[u]at z;rw[s]at G;rw[n]at C;rw[o]at x;have L:=λt xo yo=>lX env.P t xo yo .i64 b 65536 (by decide);have I:=λt xo yo=>lX env.P t xo yo .i64 b 256 (by decide);have J:=λt xo yo=>gE env.P t xo yo .i64 (b / 256) 256 (by decide);have F:=λt xo yo=>gE env.P t xo yo .i64 b 256 (by decide);obtain⟨d1,d2,d3,d4,d5,d6⟩:=Gs b0 b1;rw[d2]at L;rw[d3]at I;rw[d5]at J;rw[d6]at F;clear v w u s n o d1 d2 d3 d4 d5 d6;refine aF rfl (by kernel_rfl) (xr _ _ _ λg=>?_);have j : ∀(m:Ref)(H':aa)(B:List UInt8),H'.get m=some ⟨1,au B,true,false⟩->cU env 65 (.bk m 0 B.length none) H' (.bg 1 (au B) none):=λm H' B h=>by simp[h]
 obtain⟨e,c⟩ : ∃e,e=[77,u8 (a / 16777216),u8 (a / 65536),u8 (a / 256),u8 a,u8 (b / 65536),u8 (b / 256),u8 b]:=⟨_,rfl⟩;have p:gj a b=e++List.replicate 120 0:=by rw[c];simp[gj,uu,QG]
 have k:au e=[a8 77,a8 (u8 (a / 16777216)),a8 (u8 (a / 65536)),a8 (u8 (a / 256)),a8 (u8 a),a8 (u8 (b / 65536)),a8 (u8 (b / 256)),a8 (u8 b)]:=by rw[c];rfl
 have l:e.length=8:=by rw[c];rfl
 have D:=λ(H:aa)(r q:Ref) hq=>KB (H:=H) (r:=r) (q:=q) (B:=e) hq 120 (by omega) (by omega) (K:=λy H'=>cU env 65 y H' (.bg 1 (au (gj a b)) none)) (λm H' h=>by
  have:=j m H' _ h;rw[ja,AA,<-p]at this;exact this)
 rw[k,l,show((120:Nat):Int)=120 from rfl]at D;clear j k l p c;simp[aj, *,qv,lJ]
section
variable{d:Dk}(f:d.sH)(i:d.may=true)
include f i
theorem aa4{slot:Int}(N:0<=slot/\slot<=1):ar env 64 [d.val,aI slot]=some (.agg [aI (d.mark slot).1,aI (d.mark slot).2]):=by
 refine aF rfl (by kernel_rfl) (Ap _ _ _ _ λg=>?_);have S:=iQa (6144+slot) (by omega);have R:=agv f i (6144+slot);have c:=PF i (6144+slot);unfold Dk.mark;generalize d.rd (6144+slot)=b at *;have B:=Sl.mk 1 (au b);obtain⟨z,J,m⟩:=zG (P:=env.P) (t:=57) (z:=1) (by kernel_rfl) B (lo:=1) (hi:=5) (by omega) (by omega) (by simp;omega);have o:((au b).drop (1:Int).toNat).take ((5:Int).toNat - (1:Int).toNat)=au ((b.drop 1).take 4):=by simp[au]
 rw[o]at m;obtain⟨w,G,j⟩:=zG (P:=env.P) (t:=57) (z:=1) (by kernel_rfl) B (lo:=5) (hi:=8) (by omega) (by omega) (by simp;omega);have A:((au b).drop (5:Int).toNat).take ((8:Int).toNat - (5:Int).toNat)=au ((b.drop 5).take 3):=by simp[au]
 rw[A]at j;have n1:=MT m (by simp;omega);have n2:=MT j (by simp;omega);have n:0<=uq b:=yA 0 (by omega) _;have p:0<=DA b:=yA 0 (by omega) _;have u:uq b<4294967296:=by
  have h:=CL ((b.drop 1).take 4) 0 (by omega) 0 (by decide);have E:((b.drop 1).take 4).length=4:=by simp[c]
  rw[E]at h;exact h
 have s:DA b<4294967296:=by
  have h:=CL ((b.drop 5).take 3) 0 (by omega) 0 (by decide);have E:((b.drop 5).take 3).length=3:=by simp[c]
  rw[E]at h;exact Int.lt_trans h (by decide)
 have D:=HL n u p s;have x : ∀xo yo,bC env.P .rem 3 xo yo (some (.v (.int .i64 (uq b)))) (some (.v (.int .i64 2)))=some (aI (uq b % 2),[]):=by
  intro xo yo;have:=gE (P:=env.P) (t:=3) (xo:=xo) (yo:=yo) (k := .i64) (a:=uq b) (b:=2) (by omega);rw[wV n]at this;exact this
 have C : ∀xo yo,bC env.P .rem 3 xo yo (some (aI (uq b))) (some (.v (.int .i64 2)))=some (aI (uq b % 2),[]):=x;rw[show val ((b.drop 1).take 4)=uq b from rfl]at n1;rw[show val ((b.drop 5).take 3)=DA b from rfl]at n2;unfold yI;have H:=m.r;have I:=j.r;generalize uq b=gb at *;generalize DA b=nb at *;have M:=λ(l:List UInt8) g r=>IT (Sl.mk 1 (au l)) g r;have L:=f.sl.r;clear f i B m o j A c n p u s;obtain⟨l,y,st,lf,dd⟩:=d;simp only[Dk.val,cz]at *;by_cases Q:gb<1;·rw[if_neg (by omega)];simp[aj, *,gB,aa.ab];done
 by_cases O:2147483648<=gb;·rw[if_neg (by omega)];simp[aj, *,gB,aa.ab];done
 by_cases F:gb % 2=slot
 ·by_cases q:b=gj gb nb;·rw[if_pos ⟨by omega,by omega,F,q⟩];rw[<-q]at D;clear q;simp[aj, *,gB,aa.ab];done
  rw[if_neg (λh=>q h.2.2.2)];have K : ¬gj gb nb=b:=λe=>q e.symm;generalize gj gb nb=mb at *;simp[aj, *,gB,aa.ab];done
 rw[if_neg (λh=>F h.2.2.1)];simp[aj, *,gB,aa.ab];done
theorem Bw:ar env 33 [d.val]=some (.agg [aI d.cur.1,aI d.cur.2]):=by
 refine aF rfl (by kernel_rfl) (wG _ _ _ λg=>?_);have a:=f.sl.r;have c:=aa4 f i (slot:=0) (by omega);have b:=aa4 f i (slot:=1) (by omega);unfold Dk.cur;generalize d.mark 0=m0 at *;generalize d.mark 1=m1 at *;clear f i;obtain⟨l,y,st,lf,dd⟩:=d;simp only[Dk.val,cz,if_true]at *;by_cases h:m1.1<m0.1;·rw[if_pos h];simp[aj, *,lN,aa.ab]
 rw[if_neg h];simp[aj, *,lN,aa.ab]
theorem SM:ar env 34 [d.val]=some (.tup [kn 24 (bQ (jL d.EX)),.agg [aI d.cur.1,aI d.cur.2],aB (decide ((d.EX.length:Int)=d.cur.2))]):=by
 refine aF rfl (by kernel_rfl) (wF _ _ _ λg=>?_);have x:=Bw f i;have n:=CZ d;have s:=acA f i (area:=1+d.cur.1 % 2) (nu:=0) (most:=d.cur.2) (by omega) (by omega);have w:=iQa (1+d.cur.1 % 2) (by omega);have j : ∀xo yo,bC env.P .rem 3 xo yo (some (.v (.int .i64 d.cur.1))) (some (.v (.int .i64 2)))=some (aI (d.cur.1 % 2),[]):=by
  intro xo yo;have:=gE (P:=env.P) (t:=3) (xo:=xo) (yo:=yo) (k := .i64) (a:=d.cur.1) (b:=2) (by omega);rw[wV n.1]at this;exact this
 have q : ∀xo yo,bC env.P .rem 3 xo yo (some (aI d.cur.1)) (some (.v (.int .i64 2)))=some (aI (d.cur.1 % 2),[]):=j;rw[show eZ d ((1+d.cur.1 % 2) * 2048) 0 d.cur.2 2049 0 0=(d.EX,(eZ d ((1+d.cur.1 % 2) * 2048) 0 d.cur.2 2049 0 0).2) from rfl]at s;generalize (eZ d ((1+d.cur.1 % 2) * 2048) 0 d.cur.2 2049 0 0).2=nx at *;have p:=(rS 24 (bQ (jL d.EX))).r;rw[vu,Dr]at p;have u:=f.sl.r;have e:kn 24 (bQ (jL d.EX))=aO \/∃z es c,kn 24 (bQ (jL d.EX)) = .bg z es c:=by
  rcases rS 24 (bQ (jL d.EX))with ⟨h,_⟩ | ⟨c,h,_⟩
  ·exact .inl h
  exact .inr ⟨_,_,_,h⟩
 generalize kn 24 (bQ (jL d.EX))=o at *;generalize d.EX.length=ln at *;generalize d.cur=m at *;clear f i;obtain⟨l,y,st,lf,dd⟩:=d;simp only[Dk.val,cz,if_true]at *;rcases e with rfl | ⟨z,es,c,rfl⟩
 ·simp[aj, *,lL,aa.ab];done
 simp[aj, *,lL,aa.ab];done
end
section
variable{d:Dk}(f:d.sH)
include f
theorem HM:ar env 25 [d.val]=some (aB d.may):=acy (st:=d.st) (lf:=d.lf) (dd:=d.dd) f.sl f.ok (by have:=f.len;omega)
theorem Lo:ar env 15 [d.val]=some (if d.may then .tup [.agg [aI d.cur.1,aI d.cur.2],aI 0] else .tup [.agg [aI 0,aI 0],aI 8]):=by
 refine aF rfl (by kernel_rfl) (vK _ _ _ λg=>?_);have a:=HM f;have b:=f.sl.r;cases i:d.may with
 | false=>rw[i]at a;clear f i;obtain⟨l,y,st,lf,dd⟩:=d;simp only[Dk.val,cz,eW,iQe]at *;simp[aj, *,lg,aa.ab]
 | true=>have c:=Bw f i;rw[i]at a;simp only[if_true];generalize d.cur=m at *;clear f i;obtain⟨l,y,st,lf,dd⟩:=d;simp only[Dk.val,cz]at *;simp[aj, *,lg,aa.ab]
theorem SR:ar env 17 [d.val]=some (if d.may then DN d else .tup [aO,.agg [aI 0,aI 0],aI 8]):=by
 refine aF rfl (by kernel_rfl) (yf _ _ _ λg=>?_);have e:=HM f;have n:=f.sl.r;cases i:d.may with
 | false=>rw[i]at e;clear f i;obtain⟨l,y,st,lf,dd⟩:=d;simp only[Dk.val,cz,eW,iQe]at *;simp[aj, *,fI,aa.ab]
 | true=>
  have j:=SM f i;rw[i]at e;simp only[if_true];unfold DN;have b:=(rS 24 (bQ (jL d.EX))).r;rw[vu,Dr]at b;have a:kn 24 (bQ (jL d.EX))=aO \/∃z es c,kn 24 (bQ (jL d.EX)) = .bg z es c:=by
   rcases rS 24 (bQ (jL d.EX))with ⟨h,_⟩ | ⟨c,h,_⟩
   ·exact .inl h
   exact .inr ⟨_,_,_,h⟩
  generalize kn 24 (bQ (jL d.EX))=o at *;generalize d.EX.length=k at *;generalize d.cur=m at *;clear f i;obtain⟨l,y,st,lf,dd⟩:=d;simp only[Dk.val,cz]at *;by_cases h:(k:Int)=m.2
  ·rw[if_pos h];rw[iQh h]at j;rcases a with rfl | ⟨z,es,c,rfl⟩
   ·simp[aj, *,fI,aa.ab]
   simp[aj, *,fI,aa.ab]
  rw[if_neg h];rw[iQi h]at j;rcases a with rfl | ⟨z,es,c,rfl⟩
  ·simp[aj, *,fI,aa.ab]
  simp[aj, *,fI,aa.ab]
end
end
section
attribute [local simp] aK az ak ay ax nz sJ bD kj aM aq aA bA bw aJ aL af aW dq
def T9(a:Bool)(H:aa)(r:Ref)(o:Option AV):qu a H r [] o=qu true H r [] o:=by
 cases o<;>simp[qu,mV]
def Dk.X9(d:Dk)(q:Int)(b:List UInt8):AV:=if d.dead then Uo d.x d.l else .nsl 2 (dt (Jj q b d.l)) none
def ajz{d:Dk}(h:d.sH)(i:d.may=true){q:Int}(e:0<=q/\q<6146){b:List UInt8}{xb:AV}(g:Sl 1 (au b) xb)(a:b.length=128) :
 ar bp 24 [d.val,aI q,xb]=some (.tup [cz (d.X9 q b) (d.wr q b).st (d.wr q b).lf (d.wr q b).dd,aI 0]):=by
 obtain⟨l,x,st,lf,dd⟩:=d;cases hd:(⟨l,x,st,lf,dd⟩:Dk).dead with
 | true=>
  have c:dd=true\/lf=0:=by unfold Dk.dead at hd;simpa using hd
  have:=Od (st:=st) (lf:=lf) (dd:=dd) h.sl h.ok h.len g i e a c;unfold Dk.X9 Dk.wr;rw[hd];exact this
 | false=>
  have c:dd=false /\¬lf=0:=by unfold Dk.dead at hd;simpa using hd
  obtain⟨rfl,k⟩:=c;have:=T2 (st:=st) (lf:=lf) h.sl h.ok h.len g i e a k;unfold Dk.X9 Dk.wr;rw[hd];rw[UG]at this;exact this
def Q4{d:Dk}(h:d.sH)(q:Int)(b:List UInt8):JQ 2 (dt (d.wr q b).l) (d.X9 q b):=by
 unfold Dk.wr Dk.X9;cases d.dead with
 | true=>have:=Ra h.sl;rw[<-Rr]at this;exact this
 | false=>
  refine .inr (.inr ⟨rfl,?_⟩);simp only[eW,iQe];generalize d.l=l;cases l with
  | nil=>simp[Jj,dt]
  | cons p l=>unfold Jj;split<;>(try split)<;>simp[dt]
def abh(d:Dk)(L:List dw):AV:=(uy d (1+(d.cur.1+1) % 2) 0 1 L).X9 (6144+(d.cur.1+1) % 2) (gj (d.cur.1+1) L.length)
def P1(d:Dk)(L:List dw):AV:=if qp d L=0 then .tup [cz (abh d L) (Cp d L).st (Cp d L).lf (Cp d L).dd,aI 0] else .tup [kr,aI (qp d L)]
section
variable{l:List (dw × AV)}{x:AV}(j:Sl 24 (bQ l) x)(f : ∀p∈l,wM p)(u:l.length<=2048)
include j f u
theorem Oc{area gen:Int}(ha:area=0\/area=1)(w:0<=gen){W:Dk->AV}(P:W=λh => .tup [cz (h.X9 (6144+area) (gj gen l.length)) (h.wr (6144+area) (gj gen l.length)).st (h.wr (6144+area) (gj gen l.length)).lf (h.wr (6144+area) (gj gen l.length)).dd,aI 0]) : ∀(s:List (dw × AV)) (k:Nat) (i at':Int) (d:Dk) (H:aa),l.drop k=s->k<=l.length->i=k->d.sH->d.may=true->1<=d.st->0<=at'->at'+nj (jg s)<=2048->(jg s).all bT=true->Fr H ->
 H.get ⟨0,2,0,0⟩=some ⟨4,[d.val],false,false⟩->H.get ⟨0,4,0,0⟩=some ⟨4,[kr],false,false⟩->H.get ⟨0,9,0,0⟩=some ⟨2,[.agg [aI gen,aI l.length]],false,false⟩ ->
 bS bp Tryz.f18 0 nH [(4,.ptr ⟨0,4,0,0⟩ 0 0),(50,aI i),(2,.ptr ⟨0,2,0,0⟩ 0 0),(11,aI at'),(10,aI area),(48,x),(9,.ptr ⟨0,9,0,0⟩ 0 0),(49,aI l.length)] H
  (λv H=>cU bp 18 v H (W (uy d (1+area) at' (1+k) (jg s)))):=by
 have w1:=iQa (1+area) (by omega);have w2:=iQa (6144+area) (by omega);intro s;induction s with
 | nil=>
  rintro k i at' d H hs t rfl hf o hst h0 h1 hI hF h2 h4 I;obtain rfl:=drop_nil hs t;have hbk:=ui (by rfl) (Ro w (show(0:Int)<=(l.length:Int) by omega));have Q:=ajz hf o (q:=6144+area) (by omega) (Sl.mk 1 (au (gj gen l.length))) (n9 _ _);have C:=Q4 hf (6144+area) (gj gen l.length);subst P;simp only[jg,El,uy];have L:=hf.sl.r;have S:=λ(H:aa)(r:Ref) K hr hF hK=>E6 (H:=H) (r:=r) (K:=K) (refs:=[]) (n:=3) hr (z:=2) (by decide) (mk:=λs => .tup [cz s (d.wr (6144+area) (gj gen l.length)).st (d.wr (6144+area) (gj gen l.length)).lf (d.wr (6144+area) (gj gen l.length)).dd,aI 0]) Q (Wv _ _ _ _) C (EK _) hF hK;clear hf o f Q;generalize d.X9 (6144+area) (gj gen l.length)=y at *;generalize d.wr (6144+area) (gj gen l.length)=h at *;generalize gj gen l.length=mb at *;obtain⟨X,y0,st,lf,dd⟩:=d;obtain⟨G,V,st',lf',dd'⟩:=h;simp only[Dk.val,cz,kr]at *;have l4:(H.get ⟨0,4,0,0⟩).isSome=true:=by rw[h4];rfl
  refine vO _ _ _ _ _ _ _ _ _ _ λg=>?_;have q0 : ∀(H:aa)(r:Ref),qu false H r [] (some (.bg 1 (au mb) none))=some (.bg 1 (au mb) none,H):=λH r=>by simp
  simp[aj, *,qL,aa.ab, -ak, -ay, -ax];rw[T9];refine S _ _ _ ⟨_,_,rfl⟩ hF λH' s rs U a t B C=>?_;have b4:=t.same (q:=⟨0,4,0,0⟩) (by simp) h4;have hc:=wo a;have m4:(⟨0,4,0,0⟩:Ref) ∉ rs:=λo=>by have:=B _ o;rw[h4]at this;cases this
  have m : ∀H9:aa,(∀q∈rs,∀b,H'.get q=some b->H9.get q=some b)->cU bp 18 (.tup [cz s st' lf' dd',aI 0]) H9 (.tup [cz y st' lf' dd',aI 0]):=λH9 I=>by
   rw[<-C];exact zU (by rfl) (a.bD I) _ _ _ _
  simp only[cz]at m;clear S t B a C;simp[-oQ,ky,aa.ab, *];refine m _ λq hq b Z=>?_;have n1 : ¬q=⟨0,4,0,0⟩:=λe=>m4 (by rw[<-e];exact hq);simp[aa.ab,n1,Z]
 | cons p s R=>
  rintro k i at' d H hs t rfl hf o hst h0 h1 hI hF h2 h4 I;obtain⟨hlt,hg,E,J⟩:=drop_cons hs;rw[show jg (p :: s)=p.1 :: jg s from rfl]at hI h1 ⊢;simp only[tU,bo]at hI;simp only[nj]at h1;have hp:=f p (hg ▸ eE _);have e1:=iQa ((k:Int)+1) (by omega);have F:=I6 (nu:=(k:Int)+1) o hst (area:=1+area) (at':=at') (r:=p.1) (by omega) (by omega) (by omega) hI.1;have A:=VQ hf p.1 hp.1 (by have:=hp.2;omega) (1+area) at' ((k:Int)+1);unfold ad7 at A;rw[if_pos F]at A;replace A:=ui (by rfl) A;have c:=Fb hf F;have D:bF (bQ l) k 0 24 true=some (p.1.val p.2):=by simp[bQ,J,dw.val]
  have Y:(k:Int)<l.length:=(by omega);have M:=λH' b1 b2 b3 b4=>R (k+1) ((k:Int)+1) (at'+fj p.1) (d.app (1+area) at' ((k:Int)+1) p.1) H' E (by omega) (by simp) c.1 c.2.1 (by rw[L8];exact hst) (by omega) (by omega) hI.2 b1 b2 b3 b4;have O:W (uy d (1+area) at' (1+k) (p.1 :: jg s))=W (uy (d.app (1+area) at' ((k:Int)+1) p.1) (1+area) (at'+fj p.1) (1+((k+1:Nat):Int)) (jg s)):=(by show W (uy (d.app (1+area) at' (1+(k:Int)) p.1) (1+area) (at'+fj p.1) (1+(k:Int)+1) (jg s))=_;rw[show(1:Int)+((k+1:Nat):Int)=1+k+1 by omega,show(k:Int)+1=1+k by omega]);rw[O];have L:=hf.sl.r;have N:=c.1.sl.r;have T:=hp.1.r;clear R hf o c F f O P;generalize W (uy (d.app (1+area) at' ((k:Int)+1) p.1) (1+area) (at'+fj p.1) (1+((k+1:Nat):Int)) (jg s))=WW at *;generalize d.app (1+area) at' ((k:Int)+1) p.1=h at *;refine vO _ _ _ _ _ _ _ _ _ _ λg=>?_;obtain⟨X,y,st,lf,dd⟩:=d;obtain⟨G,V,st',lf',dd'⟩:=h;simp only[Dk.val,cz,kr]at *;unfold dw.val at A D;have l2:(H.get ⟨0,2,0,0⟩).isSome=true:=by rw[h2];rfl
  simp[aj, *,qL,aa.ab,j.idx];exact M _ (by simp(maxDischargeDepth:=12) [dU, *]) (by simp(maxDischargeDepth:=12) [dU, *]) (by simp(maxDischargeDepth:=12) [dU, *]) (by simp(maxDischargeDepth:=12) [dU, *])
omit u in
theorem adU{d:Dk}(i:d.sH)(F:l.length<1000000):ar bp 18 [d.val,x]=some (P1 d (jg l)):=by
 refine xf (fn:=Tryz.f18) (c:=Ao) rfl (by kernel_rfl) (by kernel_rfl) (by kernel_rfl) (by kernel_rfl) ?_;refine FZ _ _ _ _ λg=>?_;have C:=ui (by rfl) (EJ i);have M:=ui (by rfl) (SC j f);have O:=i.sl.r;have K:=j.r;have L:=CZ d;unfold P1 qp;cases hm:d.may with
 | false=>rw[hm]at C;clear i hm f;obtain⟨l,y,st,lf,dd⟩:=d;simp only[Dk.val,cz,kr,eW,iQe,show ¬(8:Int)=0 by decide]at *;simp[aj, *,lQ,aa.ab]
 | true=>
  rw[hm]at C;simp only[if_true]at C ⊢;by_cases s:d.st<1;·simp only[if_pos s,show ¬(2:Int)=0 by decide,iQe];generalize d.cur=m at *;clear i hm f;obtain⟨l,y,st,lf,dd⟩:=d;simp only[Dk.val,cz,kr]at *;simp[aj, *,lQ,aa.ab]
  simp only[if_neg s];have q:1<=d.st:=by omega
  have G:=iQa (d.cur.1+1) (by omega);by_cases e:vW (jg l)=0
  ·simp only[if_pos e];rw[e]at M;have h:(jg l).all bT=true/\nj (jg l)<=2048/\l.length<=2048:=by
    unfold vW at e;split at e;·cases e
    rename_i J;rw[vg]at J;split at e
    ·rename_i N;split at e;·rename_i I;exact⟨N,I,by omega⟩
     cases e
    cases e
   by_cases o:2147483648<=d.cur.1+1
   ·simp only[if_pos o,show ¬(9:Int)=0 by decide,iQe];have B:2147483647<d.cur.1+1:=by omega
    generalize d.cur=m at *;clear i hm f h e;obtain⟨l,y,st,lf,dd⟩:=d;simp only[Dk.val,cz,kr]at *;simp[aj, *,lQ,aa.ab]
   simp only[if_neg o,if_true];have n:(d.cur.1+1) % 2=0\/(d.cur.1+1) % 2=1:=by omega
   have w : ∀xo yo,bC env.P .rem 3 xo yo (some (.v (.int .i64 (d.cur.1+1)))) (some (.v (.int .i64 2)))=some (aI ((d.cur.1+1) % 2),[]):=(by intro xo yo;have:=gE (P:=env.P) (t:=3) (xo:=xo) (yo:=yo) (k := .i64) (a:=d.cur.1+1) (b:=2) (by omega);rw[wV (by omega)]at this;exact this);have A : ∀xo yo,bC env.P .rem 3 xo yo (some (aI (d.cur.1+1))) (some (.v (.int .i64 2)))=some (aI ((d.cur.1+1) % 2),[]):=w;have z:=λH=>Oc j f h.2.2 (area:=(d.cur.1+1) % 2) (gen:=d.cur.1+1) n (by omega) rfl l 0 0 0 d H rfl (by omega) rfl i hm q (by omega) (by omega) h.1;have E:(1:Int)+((0:Nat):Int)=1:=rfl;have D:(jg l).length=l.length:=vg l;unfold abh Cp;simp only[D];simp only[E]at z;clear h e E D;generalize (AV.tup [cz ((uy d (1+(d.cur.1+1) % 2) 0 1 (jg l)).X9 (6144+(d.cur.1+1) % 2) (gj (d.cur.1+1) l.length)) ((uy d (1+(d.cur.1+1) % 2) 0 1 (jg l)).wr (6144+(d.cur.1+1) % 2) (gj (d.cur.1+1) l.length)).st ((uy d (1+(d.cur.1+1) % 2) 0 1 (jg l)).wr (6144+(d.cur.1+1) % 2) (gj (d.cur.1+1) l.length)).lf ((uy d (1+(d.cur.1+1) % 2) 0 1 (jg l)).wr (6144+(d.cur.1+1) % 2) (gj (d.cur.1+1) l.length)).dd,aI 0])=W at *;generalize d.cur=m at *;clear i hm f n;generalize (m.1+1) % 2=sl at *;obtain⟨Q,y,st,lf,dd⟩:=d;simp only[Dk.val,cz,kr]at *;simp[aj, *,lQ,aa.ab, -oQ];exact z _ (by simp(maxDischargeDepth:=12) [dU, *]) (by simp(maxDischargeDepth:=12) [dU, *]) (by simp(maxDischargeDepth:=12) [dU, *]) (by simp(maxDischargeDepth:=12) [dU, *])
  simp only[if_neg e];generalize vW (jg l)=er at *;generalize d.cur=m at *;clear i hm f;obtain⟨l,y,st,lf,dd⟩:=d;simp only[Dk.val,cz,kr]at *;simp[aj, *,lQ,aa.ab]
end
end
section
attribute [local simp] aK az ak ay ax bD kj aM aq aA bA bw aJ aL af aW dq
def ZO : ∀(l m:List eb)(a:Int),gG l=gG m->gp a l=gp a m:=by
 intro l;induction l with
 | nil=>
  intro m a h;cases m with
  | nil=>rfl
  | cons p m=>simp[gG]at h
 | cons p l e=>
  intro m a h;cases m with
  | nil=>simp[gG]at h
  | cons p' m=>simp only[gG,xp,wR,tT]at h;obtain⟨⟨c,g⟩,k⟩:=h;unfold gp;rw[c,g,e m p'.pos k]
def adp(q:Int) : ∀l m:List eb,gG l=gG m->XW l q=XW m q:=by
 intro l;induction l with
 | nil=>
  intro m h;cases m with
  | nil=>rfl
  | cons p m=>simp[gG]at h
 | cons p l c=>
  intro m h;cases m with
  | nil=>simp[gG]at h
  | cons p' m=>simp only[gG,xp,wR,tT]at h;obtain⟨⟨a,e⟩,g⟩:=h;unfold XW;rw[a,e,c m g]
def ZN(q:Int)(b:List UInt8) : ∀l m:List eb,gG l=gG m->gG (Jj q b l)=gG (Jj q b m):=by
 intro l;induction l with
 | nil=>
  intro m h;cases m with
  | nil=>rfl
  | cons p m=>simp[gG]at h
 | cons p l s=>
  intro m h;cases m with
  | nil=>simp[gG]at h
  | cons p' m=>
   simp only[gG,xp,wR,tT]at h;obtain⟨⟨c,k⟩,g⟩:=h;have a:=s m g;unfold Jj;rw[c];have e:gG (mv l)=gG (mv m):=by rw[ID,ID];exact g
   simp only[gG]at a e ⊢;split;·simp[Q9,c,k,a]
   split<;>simp[Q9,oC,c,k,e]
structure Dk.Eq (d e:Dk):Prop where
 key:gG d.l=gG e.l
 st:d.st=e.st
 lf:d.lf=e.lf
 dd:d.dd=e.dd
def Dk.Eq.refl(d:Dk):d.Eq d:=⟨rfl,rfl,rfl,rfl⟩
def Dk.Eq.may{d e:Dk}(h:d.Eq e):d.may=e.may:=by unfold Dk.may Eh;rw[ZO _ _ _ h.key,h.st,h.lf,h.dd]
def Dk.Eq.rd{d e:Dk}(h:d.Eq e):d.rd=e.rd:=by
 funext q;exact adp q _ _ h.key
def Dk.Eq.dead{d e:Dk}(h:d.Eq e):d.dead=e.dead:=by unfold Dk.dead;rw[h.lf,h.dd]
def Dk.Eq.whole{d e:Dk}(h:d.Eq e)(p at' nu:Int):rK d p at' nu=rK e p at' nu:=by
 unfold rK fk;rw[h.rd]
def Dk.Eq.scan{d e:Dk}(h:d.Eq e)(p nu most:Int) : ∀(m:Nat)(at':Int)(k:Nat),eZ d p nu most m at' k=eZ e p nu most m at' k:=by
 intro m;induction m with
 | zero=>intro at' k;rfl
 | succ m a=>intro at' k;unfold eZ;rw[h.whole];simp only[a]
def Dk.Eq.cur{d e:Dk}(h:d.Eq e):d.cur=e.cur:=by
 unfold Dk.cur Dk.mark;rw[h.rd]
def Dk.Eq.EX{d e:Dk}(h:d.Eq e):d.EX=e.EX:=by
 unfold Dk.EX;rw[h.cur,h.scan]
def Dk.wg(d:Dk)(q:Int)(b:List UInt8):Dk:=
 if d.dead then ⟨d.l,d.x,d.st,d.lf,true⟩ else ⟨sR d.l q b,.bg 2 (aG (sR d.l q b)) none,d.st,if d.lf>0 then d.lf - 1 else d.lf,false⟩
def Dk.Eq.wr{d e:Dk}(h:d.Eq e)(f:d.may=true)(q:Int)(b:List UInt8):(d.wr q b).Eq (e.wg q b):=by
 unfold Dk.wr Dk.wg;rw[h.dead];cases e.dead with
 | true=>exact⟨by show gG (mv d.l)=_;rw[ID];exact h.key,h.st,h.lf,rfl⟩
 | false=>exact⟨by
  show gG (Jj q b d.l)=gG (sR e.l q b);rw[ZN q b _ _ h.key];exact WK q b e.l (-1) (vi (by rw[<-h.may];exact f)),h.st,by show(if d.lf>0 then d.lf - 1 else d.lf)=_;rw[h.lf];rfl,rfl⟩
def G7{d:Dk}(f:d.may=true){q:Int}(a:0<=q/\q<6146){b:List UInt8}(c:b.length=128):(d.wg q b).may=true:=by
 rw[<-((Dk.Eq.refl d).wr f q b).may];exact CH f a c
def Ex{d:Dk}(i:d.sH)(f:d.may=true){q:Int}(a:0<=q/\q<6146){b:List UInt8}(c:b.length=128):(d.wg q b).sH:=by
 have t:=LH (G7 f a c);refine⟨?_,?_,by omega⟩
 ·unfold Dk.wg;split;·exact i.sl
  exact Sl.mk _ _
 unfold Dk.wg;split;·exact i.ok
 exact Yd (xb := .bg 1 (au b) none) i.sl i.ok i.len (Sl.mk _ _) (by omega) q
def agn{d:Dk}(h:d.sH)(f:d.may=true){q:Int}(k:0<=q/\q<6146){b:List UInt8}{xb:AV}(e:Sl 1 (au b) xb)(j:b.length=128) :
 ar env 58 [d.val,aI q,xb]=some (d.wg q b).val:=by
 obtain⟨l,x,st,lf,dd⟩:=d;cases hd:(⟨l,x,st,lf,dd⟩:Dk).dead with
 | true=>
  have a:dd=true\/lf=0:=by unfold Dk.dead at hd;simpa using hd
  have:=JA (st:=st) (lf:=lf) (dd:=dd) h.sl h.ok h.len e (by omega) (q:=q) a;unfold Dk.wg;rw[hd];exact this
 | false=>
  have a:dd=false /\¬lf=0:=by unfold Dk.dead at hd;simpa using hd
  obtain⟨rfl,g⟩:=a;have c : -1<=lf/\lf<2147483648:=(by unfold Dk.may Eh E5 at f;simp at f;omega);have:=MQ (st:=st) (lf:=lf) h.sl h.ok h.len e (by omega) (q:=q) g c;unfold Dk.wg;rw[hd];exact this
def Dk.O4(d:Dk)(q:Int):List (List UInt8)->Dk
 | []=>d
 | b :: B=>(d.wg q b).O4 (q+1) B
def Dk.Eq.Md : ∀(B:List (List UInt8)) {d e:Dk} (h:d.Eq e) (f:d.may=true) (q:Int),0<=q->q+B.length<=6146->(∀b∈B,b.length=128)->(d.Md q B).Eq (e.O4 q B):=by
 intro B;induction B with
 | nil=>intro d e h _ _ _ _ _;exact h
 | cons b B g=>intro d e h f q m k a;simp only[gD]at k;have b1:=a b (j6 ..);exact g (h.wr f q b) (CH f (by omega) b1) (q+1) (by omega) (by omega) λx c=>a x (j7 _ c)
def UK : ∀(B:List (List UInt8)) (d:Dk) (q:Int),d.sH->d.may=true->0<=q->q+B.length<=6146->(∀b∈B,b.length=128)->(d.O4 q B).sH/\(d.O4 q B).may=true:=by
 intro B;induction B with
 | nil=>intro d q h f _ _ _;exact⟨h,f⟩
 | cons b B e=>intro d q h f k g a;simp only[gD]at g;have b1:=a b (j6 ..);exact e (d.wg q b) (q+1) (Ex h f (by omega) b1) (G7 f (by omega) b1) (by omega) (by omega) λx c=>a x (j7 _ c)
def afy(d:Dk)(q:Int)(b:List UInt8):(d.wg q b).st=d.st:=by unfold Dk.wg;split<;>rfl
def ab6 : ∀(B:List (List UInt8)) (d:Dk) (q:Int),(d.O4 q B).st=d.st:=by
 intro B;induction B with
 | nil=>intro d q;rfl
 | cons b B a=>intro d q;show((d.wg q b).O4 (q+1) B).st=_;rw[a,afy]
section
variable{B:List (List UInt8)}(j : ∀b∈B,b.length=128)(o:B.length<=4){area at':Int}(u:0<=area/\area<=2)(w:0<=at'/\at'+B.length<=2048)
include j o u w
theorem Nc{Q:AV->aa->Prop} : ∀(s:List (List UInt8)) (k:Nat) (d:Dk) (H:aa),B.drop k=s->k<=B.length->d.sH->d.may=true->Fr H ->
 H.get ⟨0,5,0,0⟩=some ⟨4,[d.val],false,false⟩->H.get ⟨0,10,0,0⟩=some ⟨4,[kr],false,false⟩ ->
 (∀H',Q (d.O4 (area * 2048+at'+k) s).val H') ->
 bS env Tryz.f28 0 jN [(12,aI k),(5,.ptr ⟨0,5,0,0⟩ 0 0),(11,.bg 1 (dE B) none),(2,aI at'),(1,aI area),(10,.ptr ⟨0,10,0,0⟩ 0 0)] H Q:=by
 have T:=iQa (area * 2048) (by omega);have U:=iQa (area * 2048+at') (by omega);have G:(dE B).length=B.length:=vA B;intro s;induction s with
 | nil=>
  rintro k d H hs hk i f hF h5 h10 hQ;obtain rfl:=drop_nil hs hk;simp only[Dk.O4]at hQ;have C:=i.sl.r;clear i f;obtain⟨l,y,st,lf,dd⟩:=d;simp only[Dk.val,cz,kr]at *;have J:(H.get ⟨0,10,0,0⟩).isSome=true:=by rw[h10];rfl
  refine pX _ _ _ _ _ _ _ _ λg=>?_;simp[aj, *,mi,aa.ab];done
 | cons b s F=>
  rintro k d H hs hk i f hF h5 h10 hQ;obtain⟨A,E,x,K⟩:=drop_cons hs;have b1:=j b (E ▸ eE _);have z:0<=area * 2048+at'+k/\area * 2048+at'+k<6146:=by omega
  have S:=iQa (area * 2048+at'+k) (by omega);have N:=iQa ((k:Int)+1) (by omega);have M:=agn i f z (Sl.mk 1 (au b)) b1;have h:=Ex i f z b1;have q:=G7 f z b1;have L:=Ib (B:=B) (k:=k) (b:=b) (by rw[dI A,E]);have e:=λH' a v=>F (k+1) (d.wg (area * 2048+at'+k) b) H' x (by omega) h q a v;have m : ∀H',Q ((d.wg (area * 2048+at'+k) b).O4 (area * 2048+at'+((k+1:Nat):Int)) s).val H':=λH'=>by
   have:=hQ H';unfold Dk.O4 at this;rw[show area * 2048+at'+((k+1:Nat):Int)=area * 2048+at'+k+1 from by omega];exact this
  have e:=λH' a v c=>e H' a v c m;rw[show((k+1:Nat):Int)=(k:Int)+1 from by omega]at e;have C:=i.sl.r;have D:=h.sl.r;have I:(k:Int)<B.length:=by omega
  clear F hQ m i f h q;generalize d.wg (area * 2048+at'+k) b=d' at *;generalize dE B=BV at *;obtain⟨l,y,st,lf,dd⟩:=d;obtain⟨R,O,st',lf',dd'⟩:=d';simp only[Dk.val,cz,kr]at *;have P:(H.get ⟨0,5,0,0⟩).isSome=true:=by rw[h5];rfl
  refine pX _ _ _ _ _ _ _ _ λg=>?_;simp[aj, *,mi,aa.ab];exact e _ (by simp(maxDischargeDepth:=12) [dU, *]) (by simp(maxDischargeDepth:=12) [dU, *]) (by simp(maxDischargeDepth:=12) [dU, *])
end
def Dk.Bi(d:Dk)(area at' nu:Int)(r:dw):Dk:=d.O4 (area * 2048+at') (bK r d.st nu)
section
variable{d:Dk}(i:d.sH)(f:d.may=true){p:dw × AV}(hp:wM p)(t:p.1.op.l.length<100000){area at' nu:Int}(n:Fc d area at' nu p.1=0)
include i f hp t n
theorem VC:ar env 28 [d.val,aI area,aI at',aI nu,p.1.val p.2]=some (d.Bi area at' nu p.1).val:=by
 refine aF rfl (by kernel_rfl) (zm _ _ _ _ _ _ _ λg=>?_);obtain⟨_,_,_,G,s,m,A⟩:=Fb i n;have e:=kX s d.st nu;have j:=vx s A;have J:=vf s;obtain⟨_,_,_,_,_,_,_,_⟩:=tv.1 A;have F:=Ft (p:=p) hp t s (st:=d.st) (nu:=nu) (by omega) (by omega) (by omega) (by omega);have h:=λH a b c=>Nc j (area:=area) (at':=at') (by rw[e];omega) (by omega) (by rw[e];omega) (Q:=λv H=>cU env 28 v H (d.Bi area at' nu p.1).val) (bK p.1 d.st nu) 0 d H rfl (by omega) i f a b c;have z:=UK (bK p.1 d.st nu) d (area * 2048+at') i f (by omega) (by rw[e];omega) j;unfold Dk.Bi at *;rw[show area * 2048+at'+((0:Nat):Int)=area * 2048+at' from by omega,show((0:Nat):Int)=0 from rfl]at h;have D:=i.sl.r;have q:=z.1.sl.r;have k : ∀H',cU env 28 (d.O4 (area * 2048+at') (bK p.1 d.st nu)).val H' (d.O4 (area * 2048+at') (bK p.1 d.st nu)).val:=λH'=>by
  generalize d.O4 (area * 2048+at') (bK p.1 d.st nu)=d' at *;obtain⟨E,I,st',lf',dd'⟩:=d';simp only[Dk.val,cz]at *;simp[q]
 have h:=λH a b c=>h H a b c k;have C:=hp.1.r;clear k z i f j e s A m n hp;generalize d.O4 (area * 2048+at') (bK p.1 d.st nu)=d' at *;obtain⟨r,x⟩:=p;simp only at *;generalize dE (bK r d.st nu)=BV at *;obtain⟨l,y,st,lf,dd⟩:=d;simp only[Dk.val,cz,kr]at *;unfold dw.val at *;simp[aj, *,sw];exact h _ (by simp(maxDischargeDepth:=12) [dU, *]) (by simp(maxDischargeDepth:=12) [dU, *]) (by simp(maxDischargeDepth:=12) [dU, *])
end
def Dk.Eq.app{d e:Dk}(i:d.sH)(h:d.Eq e){area at' nu:Int}{r:dw}(n:Fc d area at' nu r=0):(d.app area at' nu r).Eq (e.Bi area at' nu r):=by
 obtain⟨_,_,f,m,g,c,k⟩:=Fb i n;have a:=kX g d.st nu;unfold Dk.app Dk.Bi;rw[<-h.st];exact Dk.Eq.Md _ (d:=d.tw) ⟨by show gG (mv d.l)=_;rw[ID];exact h.key,h.st,h.lf,h.dd⟩ (by rw[Pb];exact f) _ (by omega) (by rw[a];omega) (vx g k)
def aaw{d e:Dk}(h:d.Eq e)(area at' nu:Int)(r:dw):Fc d area at' nu r=Fc e area at' nu r:=by
 unfold Fc;rw[h.may,h.st]
def Mc{d:Dk}(i:d.sH){area at' nu:Int}{r:dw}(n:Fc d area at' nu r=0):(d.Bi area at' nu r).sH/\(d.Bi area at' nu r).may=true/\(d.Bi area at' nu r).st=d.st:=by
 obtain⟨_,_,f,h,e,c,g⟩:=Fb i n;have a:=kX e d.st nu;have:=UK (bK r d.st nu) d (area * 2048+at') i f (by omega) (by rw[a];omega) (vx e g);exact⟨this.1,this.2,ab6 _ _ _⟩
def Bg(d:Dk)(area at' nu:Int):List dw->Dk
 | []=>d
 | r :: L=>Bg (d.Bi area at' nu r) area (at'+fj r) (nu+1) L
def qo(d:Dk)(L:List dw):Dk:=(Bg d (1+(d.cur.1+1) % 2) 0 1 L).wg (6144+(d.cur.1+1) % 2) (gj (d.cur.1+1) L.length)
def I4 : ∀(L:List dw)(d:Dk)(area at' nu:Int),d.sH->d.may=true->1<=d.st->(0<=area/\area<=2)->0<=at'->at'+nj L<=2048->1<=nu->nu+L.length<=16777216->L.all bT=true->(Bg d area at' nu L).sH/\(Bg d area at' nu L).may=true/\(Bg d area at' nu L).st=d.st:=by
 intro L;induction L with
 | nil=>intro d area at' nu e h _ _ _ _ _ _ _;exact⟨e,h,rfl⟩
 | cons r L j=>intro d area at' nu e h b i n m o k g;simp only[tU,bo]at g;simp only[nj,gD]at m k;have a:=Mc e (I6 (at':=at') (nu:=nu) h b i (by omega) (by omega) g.1);have:=j (d.Bi area at' nu r) area (at'+fj r) (nu+1) a.1 a.2.1 (by rw[a.2.2];exact b) i (by omega) (by omega) (by omega) (by omega) g.2;rw[a.2.2]at this;exact this
def Dk.Eq.apps : ∀(L:List dw){d e:Dk}(area at' nu:Int),d.sH->d.Eq e->e.sH->d.may=true->1<=d.st->(0<=area/\area<=2)->0<=at'->at'+nj L<=2048->1<=nu->nu+L.length<=16777216->L.all bT=true->(uy d area at' nu L).Eq (Bg e area at' nu L):=by
 intro L;induction L with
 | nil=>intro d e area at' nu i h _ _ _ _ _ _ _ _ _;exact h
 | cons r L o=>intro d e area at' nu i h k t a n u s v q j;simp only[tU,bo]at j;simp only[nj,gD]at s q;have m:=I6 (at':=at') (nu:=nu) t a n (by omega) (by omega) j.1;have b:=Fb i m;have g:=Mc k (by rw[<-aaw h];exact m);exact o area (at'+fj r) (nu+1) b.1 (h.app i m) g.1 b.2.1 (by rw[L8];exact a) n (by omega) (by omega) (by omega) (by omega) j.2
section
variable{l:List (dw × AV)}{x:AV}(f:Sl 24 (bQ l) x)(c : ∀p∈l,wM p)
include f c
theorem aat(d : ∀p∈l,p.1.op.l.length<100000){Q:AV->aa->Prop}{H:aa}{n:Nat}(v:l.length<=2048)(A:Q (aI n) H) : ∀(s:List (dw × AV)) (k:Nat) (a:Nat),l.drop k=s->k<=l.length->a<=10000 * k->(jg s).all bT=true->a+nj (jg s)=n ->
 bS env Tryz.f37 0 il [(4,aI k),(0,x),(3,aI a)] H Q:=by
 intro s;induction s with
 | nil=>intro k a m u D e i;obtain rfl:=drop_nil m u;simp only[jg,El,nj,uE]at i;subst i;refine om _ _ _ _ _ λg=>?_;clear c d;simp[aj, *,kN,f.r];done
 | cons p s w=>
  intro k a m u D e i;obtain⟨E,t,h,j⟩:=drop_cons m;rw[show jg (p :: s)=p.1 :: jg s from rfl]at e i;simp only[tU,bo]at e;simp only[nj]at i;have b:p∈l:=t ▸ eE _;have z:=By (p:=p) (c p b) (d p b) e.1;have B:=vf e.1;have G:=iQa ((a:Int)+(fj p.1:Int)) (by omega);have F:=iQa ((k:Int)+1) (by omega);have o:=w (k+1) (a+fj p.1) h (by omega) (by omega) e.2 (by omega);rw[show((k+1:Nat):Int)=(k:Int)+1 from by omega,show((a+fj p.1:Nat):Int)=(a:Int)+(fj p.1:Int) from by omega]at o;have q:bF (bQ l) k 0 24 true=some (p.1.val p.2):=by simp[bQ,j,dw.val]
  have C:(k:Int)<l.length:=(by omega);have y:=(c p b).1.r;clear w A c d m h t j;refine om _ _ _ _ _ λg=>?_;unfold dw.val at z q;simp[aj, *,kN,f.r,f.idx];done
theorem MU(a : ∀p∈l,p.1.op.l.length<100000)(b:l.length<=2048)(d:(jg l).all bT=true):ar env 37 [x]=some (aI (nj (jg l))):=by
 refine aF rfl (by kernel_rfl) (wH _ _ _ λg=>?_);unfold pH;exact aat f c a b (n:=nj (jg l)) (by simp) l 0 0 rfl (by omega) (by omega) d (by omega)
theorem TC(e : ∀p∈l,p.1.op.l.length<100000)(S:l.length<=2048){area gen:Int}(F:area=gen % 2)(j:0<=gen/\gen<4294967296){Q:AV->aa->Prop} : ∀(s:List (dw × AV)) (k:Nat) (at':Int) (d:Dk) (H:aa),l.drop k=s->k<=l.length->d.sH->d.may=true->1<=d.st->0<=at'->at'+nj (jg s)<=2048->(jg s).all bT=true->Fr H ->
 H.get ⟨0,2,0,0⟩=some ⟨4,[d.val],false,false⟩->H.get ⟨0,4,0,0⟩=some ⟨4,[kr],false,false⟩->H.get ⟨0,6,0,0⟩=some ⟨2,[.agg [aI gen,aI l.length]],false,false⟩ ->
 (∀H',Q ((Bg d (1+area) at' (1+k) (jg s)).wg (6144+area) (gj gen l.length)).val H') ->
 bS env Tryz.f38 0 jk [(8,aI k),(1,x),(7,aI at'),(2,.ptr ⟨0,2,0,0⟩ 0 0),(6,.ptr ⟨0,6,0,0⟩ 0 0),(4,.ptr ⟨0,4,0,0⟩ 0 0)] H Q:=by
 have M:area=0\/area=1:=by omega
 have X:=iQa (1+area) (by omega);have w2:=iQa (6144+area) (by omega);have o : ∀xo yo,bC env.P .rem 3 xo yo (some (.v (.int .i64 gen))) (some (.v (.int .i64 2)))=some (aI area,[]):=by
  intro xo yo;have:=gE (P:=env.P) (t:=3) (xo:=xo) (yo:=yo) (k := .i64) (a:=gen) (b:=2) (by omega);rw[wV j.1,<-F]at this;exact this
 have z : ∀xo yo,bC env.P .rem 3 xo yo (some (aI gen)) (some (.v (.int .i64 2)))=some (aI area,[]):=o;intro s;induction s with
 | nil=>
  rintro k at' d H hs hk hf hm hst h0 h1 hI hF h2 h4 h6 hQ;obtain rfl:=drop_nil hs hk;have R:=HL j.1 j.2 (show(0:Int)<=(l.length:Int) by omega) (by omega);have W:=agn hf hm (q:=6144+area) (by omega) (Sl.mk 1 (au (gj gen l.length))) (n9 _ _);have n:=Ex hf hm (q:=6144+area) (by omega) (n9 gen l.length);simp only[jg,El,Bg]at hQ;have G:=hf.sl.r;have m:=n.sl.r;clear hf hm n c e F;generalize d.wg (6144+area) (gj gen l.length)=d' at *;generalize gj gen l.length=mb at *;obtain⟨V,y,st,lf,dd⟩:=d;obtain⟨B,O,st',lf',dd'⟩:=d';simp only[Dk.val,cz,kr]at *;have Y:(H.get ⟨0,4,0,0⟩).isSome=true:=by rw[h4];rfl
  refine pq _ _ _ _ _ _ _ _ λg=>?_;simp[aj, *,lM,aa.ab,f.r];done
 | cons p s I=>
  rintro k at' d H hs hk hf hm hst h0 h1 hI hF h2 h4 h6 hQ;obtain⟨U,L,w,D⟩:=drop_cons hs;rw[show jg (p :: s)=p.1 :: jg s from rfl]at hI h1 hQ;simp only[tU,bo]at hI;simp only[nj]at h1;have i:p∈l:=L ▸ eE _;have hp:=c p i;have e1:=iQa ((k:Int)+1) (by omega);have A:=I6 (nu:=(k:Int)+1) hm hst (area:=1+area) (at':=at') (r:=p.1) (by omega) (by omega) (by omega) hI.1;have J:=VC hf hm hp (e p i) A;have N:=By (p:=p) hp (e p i) hI.1;have e2:=iQa (at'+(fj p.1:Int)) (by omega);have h:=Mc hf A;have E:bF (bQ l) k 0 24 true=some (p.1.val p.2):=by simp[bQ,D,dw.val]
  have T:(k:Int)<l.length:=(by omega);have u:=λH' b1 b2 b3 b4=>I (k+1) (at'+fj p.1) (d.Bi (1+area) at' ((k:Int)+1) p.1) H' w (by omega) h.1 h.2.1 (by rw[h.2.2];exact hst) (by omega) (by omega) hI.2 b1 b2 b3 b4 (λC=>by
   have:=hQ C;unfold Bg at this;rw[show(1:Int)+((k+1:Nat):Int)=1+k+1 by omega];rw[show(k:Int)+1=1+k by omega];exact this)
  rw[show((k+1:Nat):Int)=(k:Int)+1 from by omega]at u;have G:=hf.sl.r;have m:=h.1.sl.r;have K:=hp.1.r;clear I hQ hf hm h A c e F;generalize d.Bi (1+area) at' ((k:Int)+1) p.1=d' at *;refine pq _ _ _ _ _ _ _ _ λg=>?_;obtain⟨V,y,st,lf,dd⟩:=d;obtain⟨B,O,st',lf',dd'⟩:=d';simp only[Dk.val,cz,kr]at *;unfold dw.val at J E N;have Z:(H.get ⟨0,2,0,0⟩).isSome=true:=by rw[h2];rfl
  simp[aj, *,lM,aa.ab,f.r,f.idx];exact u _ (by simp(maxDischargeDepth:=12) [dU, *]) (by simp(maxDischargeDepth:=12) [dU, *]) (by simp(maxDischargeDepth:=12) [dU, *]) (by simp(maxDischargeDepth:=12) [dU, *])
theorem SS(j : ∀p∈l,p.1.op.l.length<100000)(w:l.length<=2048){d:Dk}(o:d.sH)(u:d.may=true)(s:1<=d.st)(A:nj (jg l)<=2048)(z:(jg l).all bT=true):ar env 38 [d.val,x]=some (qo d (jg l)).val:=by
 refine aF rfl (by kernel_rfl) (yg _ _ _ _ λg=>?_);have N:=Bw o u;have F:=CZ d;have J:=o.sl.r;have D:=f.r;have B:=iQa (d.cur.1+1) (by omega);have n:=I4 (jg l) d (1+(d.cur.1+1) % 2) 0 1 o u s (by omega) (by omega) (by omega) (by omega) (by rw[vg];omega) z;have q:(qo d (jg l)).sH:=Ex n.1 n.2.1 (by omega) (n9 _ _);have k:=q.sl.r;have t:=λH=>TC f c j w (area:=(d.cur.1+1) % 2) (gen:=d.cur.1+1) rfl (by omega) (Q:=λv H=>cU env 38 v H (qo d (jg l)).val) l 0 0 d H rfl (by omega) o u s (by omega) (by omega) z;have i : ∀H',cU env 38 ((Bg d (1+(d.cur.1+1) % 2) 0 (1+(0:Nat)) (jg l)).wg (6144+(d.cur.1+1) % 2) (gj (d.cur.1+1) l.length)).val H' (qo d (jg l)).val:=by
  intro H';have e:(Bg d (1+(d.cur.1+1) % 2) 0 (1+(0:Nat)) (jg l)).wg (6144+(d.cur.1+1) % 2) (gj (d.cur.1+1) l.length)=qo d (jg l):=by unfold qo;rw[vg];rfl
  rw[e];generalize qo d (jg l)=d2 at *;obtain⟨K,L,E,G,C⟩:=d2;simp only[Dk.val,cz]at k ⊢;simp[k]
 have h:=λH b1 b2 b3 b4=>t H b1 b2 b3 b4 i;rw[show((0:Nat):Int)=0 from rfl]at h;have I : ∀a b:Int,mI env.P 63 (some [(0,aI a),(1,aI b)])=some (.agg [aI a,aI b],[]):=λa b=>by simp
 clear t i n q k z j c;generalize qo d (jg l)=d2 at *;generalize d.cur=m at *;clear o u;obtain⟨M,y,st,lf,dd⟩:=d;simp only[Dk.val,cz,kr]at *;simp[aj, *,rp,aa.ab];exact h _ (by simp(maxDischargeDepth:=12) [dU, *]) (by simp(maxDischargeDepth:=12) [dU, *]) (by simp(maxDischargeDepth:=12) [dU, *]) (by simp(maxDischargeDepth:=12) [dU, *])
end
def Dk.rt(d:Dk):Dk:=⟨F3 d.l,kn 2 (aG (F3 d.l)),d.st,d.lf,d.dd⟩
def aa3{d:Dk}(a:d.sH)(h : ∀s∈d.l,s.bs.length<1000000000):ar env 6 [d.val]=some d.rt.val:=YW (st:=d.st) (lf:=d.lf) (dd:=d.dd) a.sl a.ok (by have:=a.len;omega) h
def HV{d:Dk}(a:d.sH):d.rt.sH:=⟨rS _ _,acG _,by show(F3 d.l).length<_;rw[Zb];exact a.len⟩
def rt_eq(d:Dk):d.rt.Eq d:=⟨P0 _,rfl,rfl,rfl⟩
def ZF{d:Dk}(b:d.may=true) : ∀s∈d.l,s.bs.length<1000000000:=λs a=>by
 have:=tL d.l (-1) (vi b) s a;omega
def uI(d:Dk)(L:List dw):AV:=if qp d L=0 then .tup [(qo d L).rt.val,aI 0] else .tup [kr,aI (qp d L)]
section
variable{l:List (dw × AV)}{x:AV}(e:Sl 24 (bQ l) x)(c : ∀p∈l,wM p)
include e c
theorem Py(a : ∀p∈l,p.1.op.l.length<100000)(w : ∀p∈l,qG p.1.op.l)(C:l.length<=2048){d:Dk}(j:d.sH)(n:d.may=true)(F:1<=d.st){H:aa}(hF:Fr H)(h2:H.get ⟨0,2,0,0⟩=some ⟨4,[d.val],false,false⟩)(R:H.get ⟨0,4,0,0⟩=some ⟨4,[kr],false,false⟩)
 {Q:AV->aa->Prop} (A : ∀H',Q (uI d (jg l)) H') : ∀(s:List (dw × AV)) (k:Nat),l.drop k=s->k<=l.length->((jg s).all bT=(jg l).all bT) ->
 bS env Tryz.f19 0 jl [(4,.ptr ⟨0,4,0,0⟩ 0 0),(6,aI k),(1,x),(2,.ptr ⟨0,2,0,0⟩ 0 0)] H Q:=by
 have hle:=CZ d;have f:qp d (jg l)=if (jg l).all bT then (if nj (jg l)<=2048 then (if 2147483648<=d.cur.1+1 then 9 else 0) else 9) else 8:=by
  have I:vW (jg l)=if (jg l).all bT then (if nj (jg l)<=2048 then 0 else 9) else 8:=(by unfold vW;rw[vg,if_neg (by omega)])
  unfold qp;rw[n,if_pos rfl,if_neg (by omega),I];cases(jg l).all bT with
  | false=>simp
  | true=>
   by_cases t:nj (jg l)<=2048;·simp[t]
   simp[t]
 have M:=j.sl.r;unfold uI at A;have l4:(H.get ⟨0,4,0,0⟩).isSome=true:=by rw[R];rfl
 intro s;induction s with
 | nil=>
  intro k t N b;obtain rfl:=drop_nil t N;rw[show(jg []).all bT=true from rfl]at b;rw[<-b,if_pos rfl]at f;have hB:=MU e c a C b.symm;have hC:=Bw j n;by_cases i:nj (jg l)<=2048
  ·rw[if_pos i]at f;by_cases z:2147483648<=d.cur.1+1
   ·rw[if_pos z]at f;rw[f,if_neg (by decide)]at A;have K:d.cur.1=2147483647:=by omega
    have E : ¬(2048:Int)<(nj (jg l):Int):=(by omega);generalize nj (jg l)=sn at *;generalize d.cur=m at *;clear j n c a w b f;refine gh _ _ _ _ _ _ λg=>?_;obtain⟨O,y,st,lf,dd⟩:=d;simp only[Dk.val,cz,kr]at *;simp[aj, *,eN,aa.ab,e.r];done
   rw[if_neg z]at f;rw[f,if_pos rfl]at A;have K : ¬d.cur.1=2147483647:=by omega
   have E : ¬(2048:Int)<(nj (jg l):Int):=(by omega);have hK:=SS e c a C j n F i b.symm;have q:=I4 (jg l) d (1+(d.cur.1+1) % 2) 0 1 j n F (by omega) (by omega) (by omega) (by omega) (by rw[vg];omega) b.symm;have o:(qo d (jg l)).sH:=Ex q.1 q.2.1 (by omega) (n9 _ _);have B:(qo d (jg l)).may=true:=G7 q.2.1 (by omega) (n9 _ _);have hT:=aa3 o (ZF B);have X:=(HV o).sl.r;have hkr:=o.sl.r;have M:=j.sl.r;generalize (qo d (jg l)).rt=d3 at *;generalize qo d (jg l)=d2 at *;generalize nj (jg l)=sn at *;generalize d.cur=m at *;clear j n c a w b f q o B;refine gh _ _ _ _ _ _ λg=>?_;obtain⟨O,y,st,lf,dd⟩:=d;obtain⟨U,y2,S,lf2,W⟩:=d2;obtain⟨Z,y3,Y,lf3,V⟩:=d3;simp only[Dk.val,cz,kr]at *;simp[aj, *,eN,aa.ab,e.r];done
  rw[if_neg i]at f;rw[f,if_neg (by decide)]at A;have E:(2048:Int)<(nj (jg l):Int):=by omega
  generalize nj (jg l)=sn at *;generalize d.cur=m at *;clear j n c a w b f;refine gh _ _ _ _ _ _ λg=>?_;obtain⟨O,y,st,lf,dd⟩:=d;simp only[Dk.val,cz,kr]at *;simp[aj, *,eN,aa.ab,e.r];done
 | cons p s L=>
  intro k t N b;obtain⟨hlt,z,u,v⟩:=drop_cons t;have h:p∈l:=z ▸ eE _;have G:=VF (p:=p) (c p h) (a p h) (w p h);rw[show jg (p :: s)=p.1 :: jg s from rfl,tU]at b;have e1:=iQa ((k:Int)+1) (by omega);have D:bF (bQ l) k 0 24 true=some (p.1.val p.2):=by simp[bQ,v,dw.val]
  have T:(k:Int)<l.length:=(by omega);have P:=(c p h).1.r;cases hp:bT p.1 with
  | true=>rw[hp]at G b;have J:=L (k+1) u (by omega) (by simpa using b);rw[show((k+1:Nat):Int)=(k:Int)+1 from by omega]at J;clear L A j n c a w b f t u z v hp;refine gh _ _ _ _ _ _ λg=>?_;unfold dw.val at G D;simp[aj, *,eN,aa.ab,e.r,e.idx];done
  | false=>rw[hp]at G b;simp only[qO]at b;rw[<-b,if_neg (by decide)]at f;rw[f,if_neg (by decide)]at A;clear L j n c a w b f t u z v hp;refine gh _ _ _ _ _ _ λg=>?_;unfold dw.val at G D;simp only[kr,cz]at *;simp[aj, *,eN,aa.ab,e.r,e.idx];done
theorem SU(h:l.length<=2048 ->∀p∈l,p.1.op.l.length<100000)(m : ∀p∈l,qG p.1.op.l)(z:l.length<1000000){d:Dk}(i:d.sH):ar env 19 [d.val,x]=some (uI d (jg l)):=by
 refine aF rfl (by kernel_rfl) (yh _ _ _ _ λg=>?_);have w:=HM i;have C:=i.sl.r;have f : ∀H',cU env 19 (uI d (jg l)) H' (uI d (jg l)):=by
  intro H';unfold uI;split;·have A:Sl 2 (aG (F3 (qo d (jg l)).l)) (kn 2 (aG (F3 (qo d (jg l)).l))):=rS _ _;have t:=A.r;simp only[Dk.val,cz,Dk.rt];generalize kn 2 (aG (F3 (qo d (jg l)).l))=o at *;simp[t]
  simp[kr,cz]
 cases hm:d.may with
 | false=>
  have n:qp d (jg l)=8:=by unfold qp;rw[hm];rfl
  unfold uI;rw[hm]at w;rw[n,if_neg (by decide)];clear i hm c f h m;obtain⟨u,y,st,lf,dd⟩:=d;simp only[Dk.val,cz,kr]at *;simp[aj, *,ij,aa.ab]
 | true=>
  rw[hm]at w;by_cases k:d.st<1
  ·have n:qp d (jg l)=2:=by unfold qp;rw[hm,if_pos rfl,if_pos k]
   unfold uI;rw[n,if_neg (by decide)];clear i hm c f h m;obtain⟨u,y,st,lf,dd⟩:=d;simp only[Dk.val,cz,kr]at *;simp[aj, *,ij,aa.ab]
  by_cases s:2048<l.length
  ·have n:qp d (jg l)=4:=by unfold qp vW;rw[hm,if_pos rfl,if_neg k,vg,if_pos s,if_neg (by decide)]
   have j:(2048:Int)<(l.length:Int):=(by omega);unfold uI;rw[n,if_neg (by decide)];clear i hm c f h m;obtain⟨u,y,st,lf,dd⟩:=d;simp only[Dk.val,cz,kr]at *;simp[aj, *,ij,aa.ab,e.r]
  have j : ¬(2048:Int)<(l.length:Int):=(by omega);have q:=λH B a b=>Py e c (h (by omega)) m (by omega) i hm (by omega) (H:=H) B a b (Q:=λv H=>cU env 19 v H (uI d (jg l))) f l 0 rfl (by omega) rfl;rw[show((0:Nat):Int)=0 from rfl]at q;clear i hm c f h m;generalize uI d (jg l)=W at *;obtain⟨u,y,st,lf,dd⟩:=d;simp only[Dk.val,cz,kr]at *;simp[aj, *,ij,aa.ab,e.r];exact q _ (by simp(maxDischargeDepth:=12) [dU, *]) (by simp(maxDischargeDepth:=12) [dU, *]) (by simp(maxDischargeDepth:=12) [dU, *])
end
end
section
attribute [local simp] aK az ak ay ax nz sJ bD kj aM aq aA bA bw aJ aL af aW dq
def NB{d e:Dk}(h:d.Eq e)(L:List dw):qp d L=qp e L:=by
 unfold qp;rw[h.may,h.st,h.cur]
def WH{d e:Dk}(h:d.Eq e):DN d=DN e:=by
 unfold DN;rw[h.EX,h.cur]
def RH{d:Dk}{L:List dw}(h:qp d L=0):d.may=true/\1<=d.st/\L.length<=2048/\L.all bT=true/\nj L<=2048/\d.cur.1+1<2147483648:=by
 unfold qp at h;split at h
 ·rename_i m;split at h;·omega
  rename_i j;split at h
  ·rename_i e;split at h;·omega
   rename_i o;unfold vW at e;split at e;·omega
   rename_i n;split at e
   ·rename_i k;split at e;·exact⟨m,by omega,by omega,k,by assumption,by omega⟩
    omega
   omega
  rename_i e;exact absurd h e
 omega
def ZQ{d e:Dk}(c:d.sH)(h:d.Eq e)(n:e.sH){L:List dw}(t:qp d L=0):(Cp d L).Eq (qo e L)/\(Cp d L).sH/\(Cp d L).may=true/\(qo e L).sH/\(qo e L).may=true:=by
 obtain⟨hm,k,f,o,u,v⟩:=RH t;have q:=CZ d;have s:=Dk.Eq.apps L (1+(d.cur.1+1) % 2) 0 1 c h n hm k (by omega) (by omega) (by omega) (by omega) (by omega) o;have j:=R7 L d (1+(d.cur.1+1) % 2) 0 1 c hm k (by omega) (by omega) (by omega) (by omega) (by omega) o;have m:=I4 L e (1+(d.cur.1+1) % 2) 0 1 n (by rw[<-h.may];exact hm) (by rw[<-h.st];exact k) (by omega) (by omega) (by omega) (by omega) (by omega) o;unfold Cp qo;rw[<-h.cur];exact⟨s.wr j.2.1 _ _,K3 j.1 j.2.1 (by omega) (n9 _ _),CH j.2.1 (by omega) (n9 _ _),Ex m.1 m.2.1 (by omega) (n9 _ _),G7 m.2.1 (by omega) (n9 _ _)⟩
section
variable{l:List (dw × AV)}{x:AV}(g:Sl 24 (bQ l) x)(f : ∀p∈l,wM p)(b:l.length<=2048 ->∀p∈l,p.1.op.l.length<100000)(i : ∀p∈l,qG p.1.op.l)(a:l.length<1000000){d:Dk}(c:d.sH)
include g f b i a c
theorem Ub : ∃E w F D st lf dd e,ajK 18 19 [d.rt.val,x] [d.val,x] E w F D st lf dd e /\∀s∈w,s.bs.length=128:=by
 have k:=HV c;have j:=rt_eq d;have m:=adU g f k a;have o:=SU g f b i a c;unfold P1 at m;unfold uI at o;rw[NB j]at m;by_cases u:qp d (jg l)=0
 ·have n:qp d.rt (jg l)=0:=by rw[NB j];exact u
  obtain⟨k1,J,z,y,H⟩:=ZQ k j c n;rw[if_pos u]at m o;have h:=tL (Cp d.rt (jg l)).l (-1) (vi z);have A:=LH z;refine⟨_,(Cp d.rt (jg l)).l,_,(qo d (jg l)).rt.l,_,_,_,_,⟨m,?_,?_,by omega,λs v=>by have:=h s v;omega,(HV y).sl,(HV y).ok,?_⟩,h⟩;·rw[k1.st,k1.lf,k1.dd];exact o
  ·obtain⟨hm,q,G,C,v,I⟩:=RH n;have B:=CZ d.rt;have t:=R7 (jg l) d.rt (1+(d.rt.cur.1+1) % 2) 0 1 k hm q (by omega) (by omega) (by omega) (by omega) (by omega) C;exact Q4 t.1 _ _
  rw[k1.key];exact(P0 _).symm
 rw[if_neg u]at m o;exact⟨_,[],_,[],_,_,_,_,⟨m,o,Ux,by simp,by simp,X7,by simp,rfl⟩,by simp⟩
end
def bxM(m:Int × Int):bj:=⟨2,[.agg [aI m.1,aI m.2]],false,false⟩
def LI{H:aa}{b:List (Ref × bj)}{rows:List Fe}(h:C7 H b rows){t:Nat}{m:Int × Int}{K:AV->aa->Prop}
 (c : ∀r H',C7 H' ((r,bxM m) :: b) rows->K (.ptr r 0 0) H') :
 iE (lY H (⟨0,t,aa.gen H 0 t,0⟩:Ref) (vX env.P (⟨0,t,aa.gen H 0 t,0⟩:Ref) 63)) λv f=>iE (jy env.P f 63 (some v) (some (.agg [aI m.1,aI m.2]))) λg e=>K v e:=by
 have a:=c ⟨0,t,H.gen 0 t,0⟩ ((⟨0,t,H.gen 0 t,0⟩,some (bxM m)) :: H) (h.new 0 t _);clear c;simp only[bxM]at a ⊢;simp[ky];exact a
def Z0{t:Bool}{l:List (dw × AV)}{x:AV}(u:Sl 24 (bQ l) x)(b:(l.length:Int)<=2048->t=false)(z : ¬(2060:Int)<l.length){g:cV}{r1 r2:Ref}{K:AV->Prop}(F:K (aB false)) :
 gQ (aB t) true (iL (some x)) λE=>gQ (aB t) true (cb env.P false g r1 .len #[50] [E]) λn=>gQ (aB t) true (bC env.P .leq 3 (.tmp 29) (.const (.int .i64 2048)) (some n) (some (.v (.int .i64 2048)))) λo=>
  gQ (aB false) false (ue (some (aB t)) (some o) (some (.v (.bool false)))) λe=>dL (ue (some (aB false)) (some (.v (.bool true))) (some e)) λa=>
  gQ a false (iL (some x)) λc=>gQ a false (cb env.P false g r2 .len #[50] [c]) λi=>gQ a false (bC env.P .gtr 3 (.tmp 35) (.const (.int .i64 2060)) (some i) (some (.v (.int .i64 2060)))) λm=>
  dL (ue (some a) (some (.v (.bool true))) (some m)) λj=>K j:=by
 have D:=u.r;cases t with
 | false=>clear u;simp[*]
 | true=>
  have f : ¬(l.length:Int)<=2048:=λh=>by cases b h
  clear u b;simp[*]
def aap(d:Dk):Int × Int:=if d.may then d.cur else (0,0)
def adV(d:Dk):Int:=if d.may then 0 else 8
def RX(d:Dk):(if d.may then (.tup [.agg [aI d.cur.1,aI d.cur.2],aI 0]:AV) else .tup [.agg [aI 0,aI 0],aI 8]) = .tup [.agg [aI (aap d).1,aI (aap d).2],aI (adV d)]:=by
 unfold aap adV;cases d.may<;>rfl
def Tw(d:Dk) : ∃(o:AV) (L:List dw) (m:Int × Int) (e:Int),(if d.may then DN d else .tup [aO,.agg [aI 0,aI 0],aI 8]) = .tup [o,.agg [aI m.1,aI m.2],aI e]/\Sl 24 (bQ (jL L)) o/\(∀p∈jL L,wM p)/\L.length<=2049:=by
 have b : ∀(m:Int × Int)(e:Int),∃(o:AV) (L:List dw) (a:Int × Int) (f:Int),(AV.tup [aO,.agg [aI m.1,aI m.2],aI e]) = .tup [o,.agg [aI a.1,aI a.2],aI f]/\Sl 24 (bQ (jL L)) o/\(∀p∈jL L,wM p)/\L.length<=2049:=λm e=>
  ⟨aO,[],m,e,rfl,.inl ⟨rfl,rfl⟩,by simp[jL],by simp⟩
 cases d.may with| false=>exact b (0,0) 8| true=>
  simp only[if_true];unfold DN;split;·exact⟨_,d.EX,d.cur,0,rfl,rS _ _,HS λr c=>(Rj 2049 0 0).1 r c,(Rj 2049 0 0).2⟩
  exact b (0,0) 8
section
variable{d:Dk}(k:d.sH)(B : ∀s∈d.l,s.bs.length<1000000000)(y:d.l.length<=200){l:List (dw × AV)}{x:AV}(u:Sl 24 (bQ l) x)(C : ∀p∈l,wM p)(q:l.length<=2048 ->∀p∈l,p.1.op.l.length<100000)(A : ∀p∈l,qG p.1.op.l)(w:l.length<=2060)
include k B y u C q A w
theorem YF(t:Bool)(hg:ar bp 5 [d.val]=some (aB false))(hL:ar bp 13 [x,aI 40]=some (aB t))(ht:t=true->2048<l.length) :
 ar bp 4 [d.val,x]=some (aB true):=by
 refine xf (fn:=Tryz.f4) (c:=jC) rfl (by kernel_rfl) (by kernel_rfl) (by kernel_rfl) (by kernel_rfl) ?_;refine mG _ _ _ _ λg=>?_;have hTw:=ui (by rfl) (aa3 k B);have I:=rt_eq d;have D:=HV k;have hC1:=ui (by rfl) (EJ D);have hC2:=ui (by rfl) (Lo k);have R:=ui (by rfl) (acC D);have W:=ui (by rfl) (SR k);rw[I.may,I.cur,RX]at hC1;rw[RX]at hC2;rw[I.may,WH I]at R;obtain⟨o,L,m,e,V,T,N,hLL⟩:=Tw d;rw[V]at R W;obtain⟨ys,K,y2,l2,st',lf',dd',ek,F,J⟩:=Ub u C q A (by omega) k;have hKr:=ui (by rfl) F.r;have X:=F.d;have hSA:=ui (by rfl) (SG T T N N (by rw[Dr];omega));rw[Po]at hSA;have hSp:=J4 D.sl D.ok k.sl k.ok (by have:=D.len;omega) (P0 d.l) d.st d.lf d.dd;have hT:=λ(Q:AV->aa->Prop) s rs r16 r2 r5 a b c e H f g h i j=>Vh (s:=s) (rs:=rs) (st:=st') (lf:=lf') (dd:=dd') (r16:=r16) (r2:=r2) (r5:=r5) (n:=K.length) (Q:=Q) k.sl D.sl hSp F.few a b c e K.length 0 H K (by omega) f g h i j rfl J;have e1:=J4 (TX F.out) (CO _) F.sl F.ok (by simpa using F.few) (by rw[ID];exact F.key) st' lf' dd';have hxr:=u.r;have hdr:=k.sl.r;have hor:=D.sl.r;have hy2:=F.sl.r;have hLr:=T.r;have f48:(l.length:Int)<=2048->t=false:=λh=>by
  cases t with| false=>rfl| true=>have:=ht rfl;omega
 have f60 : ¬(2060:Int)<l.length:=by omega
 have hdo:=k.sl.ZB;have hoo:=D.sl.ZB;have hyo:=F.sl.ZB;have G:=F.out;clear B y q A C J I V N ht F hSp w;generalize aap d=cm at *;generalize adV d=ce at *;obtain⟨ld,U,st,lf,dd⟩:=d;simp only[Dk.rt,Dk.val]at *;generalize kn 2 (aG (F3 ld))=O at *;clear k D;unfold jG;refine abe C7.nil hdo λr2 H v S=>?_;clear S;refine LK v r2 U st lf dd (by simp) ?_;simp only[cz]at hg hC1 hC2 R W hKr hTw e1 ⊢;simp[aj, *, -pZ, -pY];refine Z0 u f48 f60 ?_;simp[aj, *, -pZ, -pY];refine LK v r2 U st lf dd (by simp) ?_;simp only[cz];simp[aj, *, -pZ, -pY];refine Xs v hoo λr5 H v S=>?_;clear S;refine LK v r5 O st lf dd (by simp) ?_;simp only[cz];simp[aj, *, -pZ, -pY];refine LI v λr6 H v=>?_;refine LK v r2 U st lf dd (by simp) ?_;simp only[cz];simp[aj, *, -pZ, -pY];refine LI v λr8 H v=>?_;refine LK v r5 O st lf dd (by simp) ?_;simp only[cz];simp[aj, *, -pZ, -pY];refine LI v λr11 H v=>?_;refine LK v r2 U st lf dd (by simp) ?_;simp only[cz];simp[aj, *, -pZ, -pY];refine LI v λr14 H v=>?_;refine LK v r5 O st lf dd (by simp) ?_;simp only[cz];simp[aj, *, -pZ, -pY, -ak, -ay, -ax];refine v.call ⟨_,_,rfl⟩ (z:=2) (refs:=[]) (by decide) (by simp) (by simp) (mk:=λs => .tup [cz s st' lf' dd',aI ek]) (n:=3) X (Wv _ _ _ _) G (EK _) λH M E v hk hn ho1=>?_;clear hk hn;simp[aj, *, -pZ, -pY];refine Xs v (wo (v.row _ (j6 ..))) λr16 H v S=>?_;clear S;refine LK v r2 U st lf dd (by simp) ?_;simp only[cz];simp[aj, *, -pZ, -pY];refine Xs v hyo λr18 H v S=>?_;clear S;have f2:=v.has (r2,JO U st lf dd) (by simp);have f5:=v.has (r5,JO O st lf dd) (by simp);have f6:=v.has (r6,bxM cm) (by simp);have f8:=v.has (r8,bxM cm) (by simp);have f11:=v.has (r11,bxM m) (by simp);have f14:=v.has (r14,bxM m) (by simp);have Y:=v.has (r16,JO M st' lf' dd') (by simp);have f18:=v.has (r18,JO y2 st' lf' dd') (by simp);have w1:=VS (v.row ⟨2,M,dt K,E⟩ (by simp)) ho1;have Z:=hT (λx H=>cU bp 4 x H (aB true)) M E r16 r2 r5 (v.sep ⟨2,M,dt K,E⟩ (by simp) (r16,JO M st' lf' dd') (by simp)) (v.sep ⟨2,M,dt K,E⟩ (by simp) (r2,JO U st lf dd) (by simp)) (v.sep ⟨2,M,dt K,E⟩ (by simp) (r5,JO O st lf dd) (by simp)) (λH=>by simp) H v.fr Y f2 f5 (v.row ⟨2,M,dt K,E⟩ (by simp));have qe : ∀(xo yo:Operand)(m:Int × Int),bC env.P .eql 63 xo yo (some (.agg [aI m.1,aI m.2])) (some (.agg [aI m.1,aI m.2]))=some (aB true,[]):=λxo yo m=>by simp[od,gz]
 simp only[JO,bxM,cz]at f2 f5 f6 f8 f11 f14 Y f18;clear hT v X G ho1;simp[aj, *];exact Z
end
def agG{b t:Bool}{l:List (dw × AV)}{x:AV}(a:Sl 24 (bQ l) x)(h:b=true\/(t=true/\(l.length:Int)<=2048)\/(2060:Int)<l.length){H:aa}{r3:Ref}(C:ar bp 13 [x,aI 40]=some (aB t)){p w:aa->Prop}(B:p H) :
 gQ (aB b) false (iL (some x)) λy=>gW (aB b) false H (bm bp true (ar bp) (dg bp 0) H r3 (some (.fn (.func 13) [] [])) [y,(.v (.int .i64 40))]) λz e=>
  gQ (aB b) false (iL (some z)) λg=>
  gQ g true (iL (some x)) λA=>gQ g true (cb env.P false (aa.get e) (⟨0,29,aa.gen e 0 29,0⟩:Ref) .len #[50] [A]) λq=>gQ g true (bC env.P .leq 3 (.tmp 29) (.const (.int .i64 2048)) (some q) (some (.v (.int .i64 2048)))) λs=>
  gQ (aB b) false (ue (some g) (some s) (some (.v (.bool false)))) λn=>dL (ue (some (aB b)) (some (.v (.bool true))) (some n)) λc=>
  gQ c false (iL (some x)) λj=>gQ c false (cb env.P false (aa.get e) (⟨0,35,aa.gen e 0 35,0⟩:Ref) .len #[50] [j]) λk=>gQ c false (bC env.P .gtr 3 (.tmp 35) (.const (.int .i64 2060)) (some k) (some (.v (.int .i64 2060)))) λo=>
  dL (ue (some c) (some (.v (.bool true))) (some o)) λm=>br (some m) (p e) (w e):=by
 have u:=a.r;cases b with
 | true=>clear a h;simp[*]
 | false=>
  simp only[eW,false_or]at h;cases t with
  | false=>have f:(2060:Int)<l.length:=(by simpa using h);clear a h;simp[*]
  | true=>
   by_cases f:(l.length:Int)<=2048;·clear a h;simp[*]
   have D:(2060:Int)<l.length:=(by simpa [f] using h);clear a h;simp[*]
section
variable{d:Dk}(i:Sl 2 (aG d.l) d.x){l:List (dw × AV)}{x:AV}(a:Sl 24 (bQ l) x)
include i a
theorem acq(b t:Bool)(j:ar bp 5 [d.val]=some (aB b))(m:ar bp 13 [x,aI 40]=some (aB t))(h:b=true\/(t=true/\(l.length:Int)<=2048)\/(2060:Int)<l.length) :
 ar bp 4 [d.val,x]=some (aB true):=by
 refine xf (fn:=Tryz.f4) (c:=jC) rfl (by kernel_rfl) (by kernel_rfl) (by kernel_rfl) (by kernel_rfl) ?_;refine mG _ _ _ _ λg=>?_;have e:=i.ZB;have k:=i.r;have n:=a.r;obtain⟨q,o,st,lf,dd⟩:=d;simp only[Dk.val]at *;clear i;unfold jG;refine abe C7.nil e λr2 H f p=>?_;clear p;refine LK f r2 o st lf dd (by simp) ?_;simp only[cz]at j ⊢;refine wq (v:=aB b) (H:=H) (by simp[*]) ?_;exact agG a h m (by simp)
end
def acr{d:Dk}(i:Sl 2 (aG d.l) d.x)(f : ∀s∈d.l,iX s)(n : ∀s∈d.l,s.bs.length<1000000000){l:List (dw × AV)}{x:AV}(a:Sl 24 (bQ l) x)(m : ∀p∈l,wM p)(y : ∀p∈l,qG p.1.op.l):ar bp 4 [d.val,x]=some (aB true):=by
 obtain⟨b,o,k⟩:=Y6 (st:=d.st) (lf:=d.lf) (dd:=d.dd) i f;obtain⟨t,z,u⟩:=acB a (λp hp=>(m p hp).1) 40;have g:=ui (by rfl) o;have c:=ui (by rfl) z;by_cases h:b=true\/(t=true/\(l.length:Int)<=2048)\/(2060:Int)<l.length;·exact acq i a b t g c h
 have v:b=false:=by cases b with
  | false=>rfl
  | true=>exact absurd (.inl rfl) h
 have C : ¬(2060:Int)<l.length:=λe=>h (.inr (.inr e));have j:t=true->2048<l.length:=λe=>by
  have : ¬(l.length:Int)<=2048:=λA=>h (.inr (.inl ⟨e,A⟩));omega
 subst v;refine YF ⟨i,f,by have:=k rfl;omega⟩ n (k rfl) a m (λw p hp=>?_) y (by omega) t g c j;have q:t=false:=by cases t with
  | false=>rfl
  | true=>have:=j rfl;omega
 obtain⟨k1,B⟩:=u q;have:=k1 p (by rw[dq (by omega)];exact hp);omega
end
end Go.Proofs.YtmjkpdknicjjgaaGreat
