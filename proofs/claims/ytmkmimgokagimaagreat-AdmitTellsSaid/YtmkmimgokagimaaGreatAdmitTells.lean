/-
  What is granted to a handle that asks: the rules, one by one. No statement of a seat is proved here.
-/
import Derived.Test.YtmkmimgokagimaaGreatLeJoin10
import Derived.Test.YtmkmimgokagimaaGreatMLeLow1
set_option linter.unusedVariables false
set_option linter.unusedSimpArgs false
set_option linter.unusedSectionVars false
set_option linter.unnecessarySimpa false
set_option maxRecDepth 1000000
namespace Go.Proofs.YtmkmimgokagimaaGreat
open Go.Ab
section
attribute [local simp] aG ay aw aF aE bQ gX aM aA aD bI bH bn aN aj bf fe
def dx(e:Int):AV := .agg [aI e,aB false,a8 0,aI 0,a8 0,a8 0,ae 0,a8 0,aI 0,a8 0,ae 0,a8 0,aI 0,aI 0,a8 0,ae 0,a8 0,aI 0,a8 0,ae 0,ba,aI 0,aI 0,a8 0,ae 0,aB false]
theorem C5(e:Int):ak env 115 [aI e]=some (.fn (.func 175) [] [.iptr 1 [aI e] 0 0]):=by
 refine an rfl (by kernel_rfl) (JZ _ _ _ λg=>?_)
 simp[ai, *,CY]
theorem we(e:Int):ak env 175 [.iptr 1 [aI e] 0 0]=some (dx e):=by
 refine an rfl (by kernel_rfl) (GF _ _ _ λg=>?_)
 unfold dx
 simp[ai, *,A8]
theorem Nz:ak env 118 []=some (aB true):=by
 refine an rfl (by kernel_rfl) (GG _ _ λg=>?_)
 simp[ai, *,A9]
section
variable{H I:AV}{us P:List Clear}{qs:List ah}(b:Sl 3 (bR us) H)(a:Sl 5 (bL qs) I)
include b a
theorem LM(G:us.length<1000000)(F:qs.length<1000000)(Q:Bool)(R V n:Int)(z:UInt8)(X:UInt32)(uc T S:Int)(W:UInt8)(Y:UInt32)(qc Z qe:Int)(e:Int)(h:UInt8)(v:UInt32):ak env 112 [.agg [aB Q,aI R,aI V,H,I,aI n,a8 z,ae X,aI uc,aI T,aI S,a8 W,ae Y,aI qc,aI Z,aI qe],aI e,.agg [a8 h,ae v]]=some (aB (decide (oU us qs n h=0)&&eL us e h v)):=by
 have U:=Vq (gr:=n) b a (by omega) (by omega) e h v
 refine an rfl (by kernel_rfl) (tv _ _ _ _ _ λg=>?_)
 have r1:=b.r
 have r2:=a.r
 generalize eL us e h v=ob at *
 clear b a
 by_cases hp:oU us qs n h=0
 ·rw[hp]at U
  cases ob<;>simp[ai, *,iH,r1,r2,hp]
 ·cases ob<;>simp[ai, *,iH,r1,r2,hp]
theorem agx(v:Bool)(z Q U:Int)(R:UInt8)(T:UInt32)(Y Z V:Int)(S:UInt8)(W:UInt32)(qc X qe:Int)(n:Bool)(e:Int):ak env 114 [.iptr 1 [aB n] 0 0,.iptr 16 [.agg [aB v,aI z,aI Q,H,I,aI U,a8 R,ae T,aI Y,aI Z,aI V,a8 S,ae W,aI qc,aI X,aI qe]] 0 0,.iptr 1 [aI e] 0 0]=some (aB (!n||(v && !decide (z=e)))):=by
 refine an rfl (by kernel_rfl) (GK _ _ _ _ _ λg=>?_)
 clear b a
 cases n<;>cases v<;>by_cases h:z=e<;>simp[ai, *,Bd,h]
theorem agw(e:Bool)(Q h R:Int)(n:UInt8)(z:UInt32)(V W S:Int)(v:UInt8)(T:UInt32)(X U Y:Int):ak env 116 [.iptr 16 [.agg [aB e,aI Q,aI h,H,I,aI R,a8 n,ae z,aI V,aI W,aI S,a8 v,ae T,aI X,aI U,aI Y]] 0 0]=some (aB e):=by
 refine an rfl (by kernel_rfl) (GJ _ _ _ λg=>?_)
 clear b a
 simp[ai, *,Bc]
theorem agv(R:Bool)(S n T:Int)(v:UInt8)(Q:UInt32)(e X U:Int)(z:UInt8)(V:UInt32)(h W Y:Int):ak env 117 [.iptr 16 [.agg [aB R,aI S,aI n,H,I,aI T,a8 v,ae Q,aI e,aI X,aI U,a8 z,ae V,aI h,aI W,aI Y]] 0 0]=some (aB (decide (h<=e))):=by
 refine an rfl (by kernel_rfl) (GI _ _ _ λg=>?_)
 clear b a
 simp[ai, *,Bb]
theorem agp(G:us.length<1000000)(F:qs.length<1000000)(v:Bool)(n U z:Int)(R:UInt8)(W:UInt32)(Z T S:Int)(V:UInt8)(X:UInt32)(qc Y qe:Int)(e:UInt8)(h:UInt32)(Q:UInt8):ak env 122 [.iptr 16 [.agg [aB v,aI n,aI U,H,I,aI z,a8 R,ae W,aI Z,aI T,aI S,a8 V,ae X,aI qc,aI Y,aI qe]] 0 0,.iptr 3 [.agg [a8 e,ae h,a8 Q]] 0 0]=some (aB (!v || !(decide (oU us qs z e=0)&&eL us n e h))):=by
 have hM:=LM b a G F v n U z R W Z T S V X qc Y qe n e h
 refine an rfl (by kernel_rfl) (DT _ _ _ _ λg=>?_)
 have r1:=b.r
 have r2:=a.r
 generalize (decide (oU us qs z e=0)&&eL us n e h)=ob at *
 clear b a
 cases v<;>cases ob<;>simp[ai, *,xU,r1,r2]
section
variable(C:UInt8)(m:UInt8)(t:UInt32)(d:UInt8)(c:Int)(w:UInt8)(y:UInt32)(A:UInt8)(D:Int)(i:Int)(k:UInt8)(j:UInt32)(q:UInt8)(f:Int)(u:UInt8)(o:UInt32){x:AV}{al:List Int}(B:Sl 1 (rows al) x)
include B
theorem ago(z:Bool)(Q e R:Int)(h:UInt8)(v:UInt32)(V W S:Int)(n:UInt8)(T:UInt32)(X U Y:Int):ak env 123 [.iptr 17 [.agg [a8 C,a8 m,ae t,a8 d,aI c,a8 w,ae y,a8 A,aI D,aI i,a8 k,ae j,a8 q,aI f,a8 u,ae o,x]] 0 0,.iptr 16 [.agg [aB z,aI Q,aI e,H,I,aI R,a8 h,ae v,aI V,aI W,aI S,a8 n,ae T,aI X,aI U,aI Y]] 0 0]=some (aB (decide (c<=e))):=by
 refine an rfl (by kernel_rfl) (DS _ _ _ _ λg=>?_)
 clear b a
 simp[ai, *,xT]
theorem agm(z:Bool)(Q e R:Int)(h:UInt8)(v:UInt32)(V W S:Int)(n:UInt8)(T:UInt32)(Y U Z:Int)(X:IntKind.i64.wrap (e+1)=e+1):ak env 125 [.iptr 17 [.agg [a8 C,a8 m,ae t,a8 d,aI c,a8 w,ae y,a8 A,aI D,aI i,a8 k,ae j,a8 q,aI f,a8 u,ae o,x]] 0 0,.iptr 16 [.agg [aB z,aI Q,aI e,H,I,aI R,a8 h,ae v,aI V,aI W,aI S,a8 n,ae T,aI Y,aI U,aI Z]] 0 0]=some (aB (decide (e+1<c))):=by
 refine an rfl (by kernel_rfl) (DQ _ _ _ _ λg=>?_)
 clear b a
 simp[ai, *,xR]
end
theorem agl(R:Bool)(S n T:Int)(v:UInt8)(Q:UInt32)(W h U:Int)(z:UInt8)(V:UInt32)(X e Y:Int):ak env 126 [.iptr 16 [.agg [aB R,aI S,aI n,H,I,aI T,a8 v,ae Q,aI W,aI h,aI U,a8 z,ae V,aI X,aI e,aI Y]] 0 0]=some (aB (decide (e<=h))):=by
 refine an rfl (by kernel_rfl) (DP _ _ _ λg=>?_)
 clear b a
 simp[ai, *,xQ]
end
theorem agu(e:Int)(h:UInt8)(n:UInt32)(v:UInt8):ak env 119 [.iptr 1 [aI e] 0 0,.iptr 3 [.agg [a8 h,ae n,a8 v]] 0 0]=some (.agg [aI 0,aB true,a8 1,aI e,a8 0,a8 h,ae n,a8 v,aI 0,a8 0,ae 0,a8 0,aI 0,aI 0,a8 0,ae 0,a8 0,aI 0,a8 0,ae 0,ba,aI 0,aI 0,a8 0,ae 0,aB false]):=by
 refine an rfl (by kernel_rfl) (GH _ _ _ _ λg=>?_)
 simp[ai, *,Ba]
theorem agq(C:UInt8)(m:UInt8)(t:UInt32)(d:UInt8)(c:Int)(w:UInt8)(y:UInt32)(A:UInt8)(D:Int)(i:Int)(k:UInt8)(j:UInt32)(q:UInt8)(f:Int)(u:UInt8)(o:UInt32){x:AV}{al:List Int}(B:Sl 1 (rows al) x)(S:al.length<1000000)(h:UInt8)(n:UInt32)(e:UInt8):ak env 120 [.iptr 17 [.agg [a8 C,a8 m,ae t,a8 d,aI c,a8 w,ae y,a8 A,aI D,aI i,a8 k,ae j,a8 q,aI f,a8 u,ae o,x]] 0 0,.iptr 3 [.agg [a8 h,ae n,a8 e]] 0 0]=some (aB (!decide ((⟨m,t,d⟩:mz)=⟨h,n,e⟩)||decide (-1∈al))):=by
 have U:=KC C m t d c w y A D i k j q f u o B (by omega)
 refine an rfl (by kernel_rfl) (DU _ _ _ _ λg=>?_)
 have v:decide ((⟨m,t,d⟩:mz)=⟨h,n,e⟩)=(decide (m=h)&&decide (t=n)&&decide (d=e)):=by simp[and_assoc,yK]
 rw[v]
 have T:=B.r
 clear v
 generalize decide (-1∈al)=pl at *
 clear B
 by_cases z:m=h
 ·by_cases Q:t=n
  ·by_cases R:d=e
   ·subst z Q R
    cases pl<;>simp[ai, *,lR,fw,bM]
   ·simp[ai, *,lR,fw,bM,z,Q,R]
  ·simp[ai, *,lR,fw,bM,z,Q]
 ·simp[ai, *,lR,fw,bM,z]
section
variable{O N:AV}{us:List Clear}{qs:List ah}{gr:Int}(J:Sl 3 (bR us) O)(K:Sl 5 (bL qs) N)(G:us.length<1000000)(F:qs.length<1000000){l:List (bW × AV)}{M:AV}(L:Sl 24 (bu l) M)(E : ∀p∈l,tA p)
include J K G F L E
def OL:AV->Int
 | .tup (.v (.int _ n) :: _)=>n
 | _=>0
theorem agn(n:UInt8)(v:UInt32)(h:UInt8)(C:UInt8)(m:UInt8)(t:UInt32)(d:UInt8)(c:Int)(w:UInt8)(y:UInt32)(A:UInt8)(D:Int)(i:Int)(k:UInt8)(j:UInt32)(q:UInt8)(f:Int)(u:UInt8)(o:UInt32){x:AV}{al:List Int}(B:Sl 1 (rows al) x):ak env 124 [.iptr 3 [.agg [O,N,aI gr]] 0 0,.iptr 1 [M] 0 0,.iptr 3 [.agg [a8 n,ae v,a8 h]] 0 0,.iptr 17 [.agg [a8 C,a8 m,ae t,a8 d,aI c,a8 w,ae y,a8 A,aI D,aI i,a8 k,ae j,a8 q,aI f,a8 u,ae o,x]] 0 0]=some (dx (OL (wC us qs gr l ⟨n,v,h⟩ c))):=by
 have S:=abq (gr:=gr) J K G F L E n v h c
 have Q : ∃z e,wC us qs gr l ⟨n,v,h⟩ c = .tup [aI z,aI e]:=by
  unfold wC
  split
  ·exact⟨_,_,rfl⟩
  ·split
   ·exact Di _ _ _
   ·exact⟨_,_,rfl⟩
 obtain⟨z,e,Q⟩:=Q
 rw[Q]at S ⊢
 have R:OL (.tup [aI z,aI e])=z:=rfl
 rw[R]
 unfold dx
 refine an rfl (by kernel_rfl) (DR _ _ _ _ _ _ λg=>?_)
 clear E Q R
 simp[ai, *,xS,J.r,K.r,L.r,B.r]
end
end
section
attribute [local simp] aG ay aw aF aE bQ gX aM aA aD bI bH bn aN aj bf fe
end
section
attribute [local simp] aG ay aw aF aE bQ gX aM aA aD bI bH bn aN aj bf fe
@[simp] theorem aak:(AV.v Value.nilFunc).one=true:=id rfl
@[simp] theorem ab2(f:Fn)(a b:List AV):(AV.fn f a b).one=true:=id rfl
section
variable{j n:AV}{us:List Clear}{qs:List ah}(e:Sl 3 (bR us) j)(d:Sl 5 (bL qs) n)
include e d
theorem U9(b:Bool)(h I F:Int)(E:UInt8)(K:UInt32)(o H G:Int)(J:UInt8)(L:UInt32)(q M N:Int)(f:Bool)(a:Int)(v:UInt8)(y:UInt32)(u:UInt8)(c:Option Nat):ak env 113 [.cD 2 [.agg [.fn (.func 114) [] [.iptr 1 [aB f] 0 0,.iptr 16 [.agg [aB b,aI h,aI I,j,n,aI F,a8 E,ae K,aI o,aI H,aI G,a8 J,ae L,aI q,aI M,aI N]] 0 0,.iptr 1 [aI a] 0 0],.fn (.func 175) [] [.iptr 1 [aI 230] 0 0]],.agg [.fn (.func 116) [] [.iptr 16 [.agg [aB b,aI h,aI I,j,n,aI F,a8 E,ae K,aI o,aI H,aI G,a8 J,ae L,aI q,aI M,aI N]] 0 0],.fn (.func 175) [] [.iptr 1 [aI 0] 0 0]],.agg [.fn (.func 117) [] [.iptr 16 [.agg [aB b,aI h,aI I,j,n,aI F,a8 E,ae K,aI o,aI H,aI G,a8 J,ae L,aI q,aI M,aI N]] 0 0],.fn (.func 175) [] [.iptr 1 [aI 9] 0 0]],.agg [.fn (.func 118) [] [],.fn (.func 119) [] [.iptr 1 [aI a] 0 0,.iptr 3 [.agg [a8 v,ae y,a8 u]] 0 0]]] c] =
 some (if !f||(b && !decide (h=a)) then dx 230 else if b then dx 0 else if q<=o then dx 9 else .agg [aI 0,aB true,a8 1,aI a,a8 0,a8 v,ae y,a8 u,aI 0,a8 0,ae 0,a8 0,aI 0,aI 0,a8 0,ae 0,a8 0,aI 0,a8 0,ae 0,ba,aI 0,aI 0,a8 0,ae 0,aB false]):=by
 have Q:=agx e d b h I F E K o H G J L q M N f a
 have P:=agw e d b h I F E K o H G J L q M N
 have O:=agv e d b h I F E K o H G J L q M N
 have R:=agu a v y u
 have V:=we 230
 have T:=we 0
 have W:=we 9
 have S:=Nz
 have r1:=e.r
 have r2:=d.r
 clear e d
 generalize (!f||(b && !decide (h=a)))=b1 at *
 refine an rfl (by kernel_rfl) (Ic _ _ _ λg=>?_)
 unfold dx at *
 simp[ai, *,B2]
 refine pn _ _ _ _ _ _ λg=>?_
 cases b1 with
 | true=>
  clear P O R
  simp[ai, *,gH,r1,r2]
 | false=>
  simp[ai, *,gH,r1,r2]
  refine pn _ _ _ _ _ _ λg=>?_
  cases b with
  | true=>
   clear Q O R
   simp[ai, *,gH,r1,r2]
  | false=>
   simp[ai, *,gH,r1,r2]
   refine pn _ _ _ _ _ _ λg=>?_
   by_cases U:q<=o
   ·clear Q P R
    simp[ai, *,gH,r1,r2]
   ·simp[ai, *,gH,r1,r2]
    refine pn _ _ _ _ _ _ λg=>?_
    clear Q P O
    simp[ai, *,gH,r1,r2]
end
section
variable{D C:AV}{us z:List Clear}{qs:List ah}{gr:Int}(t:Sl 3 (bR us) D)(w:Sl 5 (bL qs) C)(m:us.length<1000000)(k:qs.length<1000000){l:List (bW × AV)}{B:AV}(x:Sl 24 (bu l) B)(i : ∀p∈l,tA p)
 {j n:AV} (e:Sl 3 (bR z) j) (d:Sl 5 (bL qs) n) (A:z.length<1000000)
include t w m k x i e d A
end
section
variable{D C:AV}{us:List Clear}{qs:List ah}{gr:Int}(t:Sl 3 (bR us) D)(w:Sl 5 (bL qs) C)(m:us.length<1000000)(k:qs.length<1000000){l:List (bW × AV)}{B:AV}(x:Sl 24 (bu l) B)(i : ∀p∈l,tA p)
include t w m k x i
def MO(s:wO)(j n:AV)(a:Int)(u q:ah):AV := .agg [aB s.o,aI s.u,aI s.s,j,n,aI a,a8 u.lv,ae u.cats,aI u.opens,aI u.ops,aI u.cells,a8 q.lv,ae q.cats,aI q.opens,aI q.ops,aI q.cells]
def Xm(us:List Clear)(qs:List ah)(gr:Int)(l:List (bW × AV))(h:mz)(y:AV):Prop:=match oD us qs gr l with
 | none=>y = .tup [MO ⟨false,0,0⟩ ba ba 0 ⟨0,0,0,0,0⟩ ⟨0,0,0,0,0⟩,aI 8]
 | some b=>if dZ h=true then ∃j n,Sl 3 (bR b.us) j/\Sl 5 (bL qs) n/\y = .tup [MO (gN (aV h b.ses)) j n b.gr (DW b h.lv h.cats) (kT us qs gr h.lv h.cats),aI 0] else y = .tup [MO ⟨false,0,0⟩ ba ba 0 ⟨0,0,0,0,0⟩ ⟨0,0,0,0,0⟩,aI 8]
theorem Qh(a:UInt8)(c:UInt32)(f:UInt8) : ∃y,ak env 111 [.agg [D,C,aI gr],B,.agg [a8 a,ae c,a8 f]]=some y/\Xm us qs gr l ⟨a,c,f⟩ y:=by
 have h:=SU (gr:=gr) t w m k x i a c f
 obtain⟨L,N,hp⟩:=Vp (gr:=gr) t w m k x i
 have o:=abm (gr:=gr) t w m k x i a c
 have F:=LQ (gr:=gr) t w (by omega) (by omega) a c
 have r3:=t.r
 have r4:=w.r
 have r5:=x.r
 unfold SI at h
 unfold abQ at hp
 unfold Kr at o
 unfold Xm
 clear t w x i
 cases G:oD us qs gr l with
 | none=>
  rw[G]at h
  clear o hp F
  refine⟨_,?_,rfl⟩
  unfold MO
  refine an rfl (by kernel_rfl) (Bz _ _ _ _ _ λg=>?_)
  dsimp only at h
  simp[ai, *,xP]
 | some b=>
  rw[G]at h hp o
  dsimp only at h hp o ⊢
  cases v:dZ ⟨a,c,f⟩ with
  | false=>
   rw[v]at h
   clear o hp F
   refine⟨_,?_,rfl⟩
   unfold MO
   refine an rfl (by kernel_rfl) (Bz _ _ _ _ _ λg=>?_)
   simp only[mr,if_false]at h
   simp[ai, *,xP]
  | true=>
   rw[v,if_pos rfl]at h
   have E:a<=15:=by unfold dZ at v;simp at v;exact v.1
   rw[if_pos E]at o
   obtain⟨j,n,e,d,rfl⟩:=hp
   refine⟨_,?_,j,n,e,d,rfl⟩
   have r1:=e.r
   have r2:=d.r
   clear e d v
   unfold MO
   unfold wO.av at h
   generalize gN (aV ⟨a,c,f⟩ b.ses)=s at *
   generalize DW b a c=u at *
   try dsimp only at *
   generalize kT us qs gr a c=q at *
   generalize oU us qs gr a=pe at *
   obtain⟨s1,s2,I⟩:=s
   obtain⟨J,K,R,P,Q⟩:=u
   obtain⟨q1,q2,H,O,M⟩:=q
   simp only[ah.enc]at o F
   refine an rfl (by kernel_rfl) (Bz _ _ _ _ _ λg=>?_)
   simp[ai, *,xP]
end
end
section
attribute [local simp] aG ay aw aF aE bQ gX aM aA aD bI bH bn aN aj bf fe
theorem QD{l:List Int}{x:AV}(m:Sl 1 (rows l) x)(N:l.length<100000)(u:UInt8)(F:UInt8)(t:UInt32)(A:UInt8)(z:Int)(o:UInt8)(D:UInt32)(q:UInt8)(w:Int)(b:Int)(e:UInt8)(c:UInt32)(f:UInt8)(a:Int)(j:UInt8)(d:UInt32){r:Ref}{H:aa}(O:H.get r=some ⟨17,[.agg [a8 u,a8 F,ae t,a8 A,aI z,a8 o,ae D,a8 q,aI w,aI b,a8 e,ae c,a8 f,aI a,a8 j,ae d,x]],false,false⟩){Q:AV->aa->Prop} :
 ∀(s:List Int)(k:Nat)(i:Int),l.drop k=s->k<=l.length->i=k->(∀y,y=aB (!decide (-1∈s))->Q y H) ->
 bF env Tryz.f155 0 hZ [(3,aI i),(1,.ptr r 0 0)] H Q:=by
 intro s
 induction s with
 | nil=>
  rintro k i hs hk rfl hQ
  obtain rfl:=drop_nil hs hk
  refine oP _ _ _ _ λg=>?_
  have I:=m.r
  simp[ai, *,im]
  all_goals exact hQ _ (by simp)
 | cons n s B=>
  rintro k i hs hk rfl hQ
  obtain⟨L,P,E,J⟩:=drop_cons hs
  refine oP _ _ _ _ λg=>?_
  have M:=IntWalk.i64_in ((k:Int)+1) (by omega)
  have I:=m.r
  by_cases G:n = -1
  ·have C:=hQ (aB false) (by simp[G])
   clear hQ B
   simp[ai, *,im,m.idx,rows,aR]
   all_goals exact C
  ·have p : ¬ -1=n:=λh=>G h.symm
   have v:=B (k+1) ((k:Int)+1) E (by omega) (by simp) (λy K=>hQ y (by rw[K];simp[p]))
   clear B hQ
   simp[ai, *,im,m.idx,rows,aR]
   all_goals exact v
theorem Kz(n:UInt8)(u:UInt8)(m:UInt32)(q:UInt8)(p:Int)(j:UInt8)(t:UInt32)(k:UInt8)(o:Int)(b:Int)(f:UInt8)(c:UInt32)(h:UInt8)(a:Int)(i:UInt8)(d:UInt32){x:AV}{l:List Int}(v:Sl 1 (rows l) x)(w:l.length<100000):ak env 155 [.agg [a8 n,a8 u,ae m,a8 q,aI p,a8 j,ae t,a8 k,aI o,aI b,a8 f,ae c,a8 h,aI a,a8 i,ae d,x]]=some (aB (!decide (-1∈l))):=by
 refine an rfl (by kernel_rfl) (ya _ _ _ λg=>?_)
 have z:=v.r
 simp[ai, *,qG]
 exact QD v w n u m q p j t k o b f c h a i d (by simp) l 0 _ rfl (by omega) rfl (λy e=>by simp[e])
theorem IB(m:UInt8)(t:UInt8)(k:UInt32)(p:UInt8)(o:Int)(i:UInt8)(q:UInt32)(j:UInt8)(n:Int)(b:Int)(e:UInt8)(c:UInt32)(f:UInt8)(a:Int)(h:UInt8)(d:UInt32){x:AV}{l:List Int}(u:Sl 1 (rows l) x)(y:l.length<100000):ak env 56 [.agg [a8 m,a8 t,ae k,a8 p,aI o,a8 i,ae q,a8 j,aI n,aI b,a8 e,ae c,a8 f,aI a,a8 h,ae d,x]]=some (.agg [a8 m,a8 t,ae k,a8 p,aI o,a8 i,ae q,a8 j,aI n,aI b,a8 e,ae c,a8 f,aI a,a8 h,ae d,m8 1 (rows l)]):=by
 refine an rfl (by kernel_rfl) (y7 _ _ _ λg=>?_)
 have w:=u.r
 have z:l.length<=35184372088832/\l.length * 4<=140737488355328:=by omega
 by_cases v:rows l=[]
 ·simp[ai, *,mU,u.lg,m8]
 ·rw[xp 1 v]
  simp[ai, *,mU,u.lg]
theorem S5(n:UInt8)(v:UInt8)(t:UInt32)(u:UInt8)(p:Int)(j:UInt8)(q:UInt32)(k:UInt8)(o:Int)(b:Int)(e:UInt8)(c:UInt32)(f:UInt8)(a:Int)(i:UInt8)(d:UInt32){x:AV}{l:List Int}(w:Sl 1 (rows l) x)(z:l.length<1000000000):ak env 154 [.agg [a8 n,a8 v,ae t,a8 u,aI p,a8 j,ae q,a8 k,aI o,aI b,a8 e,ae c,a8 f,aI a,a8 i,ae d,x]]=some (aB (nF { (⟨n,⟨v,t,u⟩,p,⟨⟨⟨j,q,k⟩,o⟩,b⟩,⟨⟨e,c,f⟩,a⟩,⟨i,d⟩,l⟩:aC)with h:=⟨0,0,0⟩} vP)):=by
 have h:=LO n 0 0 0 p j q k o b e c f a i d 0 0 0 0 0 0 0 0 0 0 0 0 0 0 0 0 w (y:=ba) (m:=[]) (.inl ⟨rfl,rfl⟩) z (by simp)
 refine an rfl (by kernel_rfl) (yZ _ _ _ λg=>?_)
 simp[ai, *,rL,w.r]
 rfl
theorem Vo(k:UInt8)(u:Int)(D:UInt8)(z:UInt8)(p:UInt32)(t:UInt8)(F:Int)(C:UInt8)(B:UInt32)(A:UInt8)(E:Int)(i:Int)(j:UInt8)(a:UInt32)(d:UInt8)(f:Int)(e:UInt8)(b:UInt32)(c I:Int)(v:UInt8)(w:UInt32)(o:Bool){x:AV}{l:List Int}(G:Sl 1 (rows l) x)(hl:l.length<100000)(hR:qR l) :
 ak env 85 [.agg [a8 k,aI u,a8 D,a8 z,ae p,a8 t,aI F,a8 C,ae B,a8 A,aI E,aI i,a8 j,ae a,a8 d,aI f,a8 e,ae b,x,aI c,aI I,a8 v,ae w,aB o]]=some (aB (ew ⟨k,u,(⟨D,⟨z,p,t⟩,F,⟨⟨⟨C,B,A⟩,E⟩,i⟩,⟨⟨j,a,d⟩,f⟩,⟨e,b⟩,l⟩:aC),c,I,v,w,o⟩)):=by
 have K:=S5 D z p t F C B A E i j a d f e b G (by omega)
 have L:=RL D z p t F C B A E i j a d f e b G (by omega) hR
 have O:=Kz D z p t F C B A E i j a d f e b G hl
 have S:=Yc I v w o
 have M:=vw z p t
 refine an rfl (by kernel_rfl) (zZ _ _ _ λg=>?_)
 have Q:nF { (⟨D,⟨z,p,t⟩,F,⟨⟨⟨C,B,A⟩,E⟩,i⟩,⟨⟨j,a,d⟩,f⟩,⟨e,b⟩,l⟩:aC)with h:=⟨0,0,0⟩} vP=nF (⟨D,⟨z,p,t⟩,F,⟨⟨⟨C,B,A⟩,E⟩,i⟩,⟨⟨j,a,d⟩,f⟩,⟨e,b⟩,l⟩:aC) { vP with h:=⟨z,p,t⟩}:=by
  simp[nF,vP]
 by_cases U:k=1
 ·subst U
  have J:ew ⟨1,u,(⟨D,⟨z,p,t⟩,F,⟨⟨⟨C,B,A⟩,E⟩,i⟩,⟨⟨j,a,d⟩,f⟩,⟨e,b⟩,l⟩:aC),c,I,v,w,o⟩=((decide (0<=u)&&decide (u<=255))&&(dZ ⟨z,p,t⟩&&(nF { (⟨D,⟨z,p,t⟩,F,⟨⟨⟨C,B,A⟩,E⟩,i⟩,⟨⟨j,a,d⟩,f⟩,⟨e,b⟩,l⟩:aC)with h:=⟨0,0,0⟩} vP&&(decide (c=0)&&(decide (I=0)&&(decide (v=0)&&decide (w=0)&&decide (o=false))))))):=by
   rw[Q];simp[ew,HI,m0]
  rw[J]
  clear Q J L O S
  generalize nF { (⟨D,⟨z,p,t⟩,F,⟨⟨⟨C,B,A⟩,E⟩,i⟩,⟨⟨j,a,d⟩,f⟩,⟨e,b⟩,l⟩:aC)with h:=⟨0,0,0⟩} vP=n at *
  generalize dZ ⟨z,p,t⟩=hh at *
  cases n with
  | false=>simp[ai, *,aW,G.r,K]
  | true=>
  cases hh with
  | false=>simp[ai, *,aW,G.r,K,M]
  | true=>
  by_cases H:0<=u
  ·by_cases W:u<=255
   ·by_cases N:c=0
    ·simp[ai, *,aW,G.r,K,M,H,W,N,fw,bM]
    ·simp[ai, *,aW,G.r,K,M,H,W,N]
   ·simp[ai, *,aW,G.r,K,M,H,W]
  ·simp[ai, *,aW,G.r,K,M,H]
 ·by_cases H:u=0
  ·by_cases P:k=2
   ·subst P
    have J:ew ⟨2,u,(⟨D,⟨z,p,t⟩,F,⟨⟨⟨C,B,A⟩,E⟩,i⟩,⟨⟨j,a,d⟩,f⟩,⟨e,b⟩,l⟩:aC),c,I,v,w,o⟩=(lT (⟨D,⟨z,p,t⟩,F,⟨⟨⟨C,B,A⟩,E⟩,i⟩,⟨⟨j,a,d⟩,f⟩,⟨e,b⟩,l⟩:aC)&&(!decide (-1∈l)&&((decide (0<=c)&&decide (c<65536))&&(decide (I=0)&&(decide (v=0)&&decide (w=0)&&decide (o=false)))))):=by
     have hs : ∀q:aC,nF q q=true:=λq=>by simp[nF]
     simp only[ew,HI,m0,hs,H,show ¬((2:UInt8)=1) from by decide,if_false,if_true,decide_true,nX]
     cases lT (⟨D,⟨z,p,t⟩,F,⟨⟨⟨C,B,A⟩,E⟩,i⟩,⟨⟨j,a,d⟩,f⟩,⟨e,b⟩,l⟩:aC)<;>cases decide (-1∈l)<;>cases decide (0<=c)<;>cases decide (c<65536)<;>simp
    rw[J]
    clear Q J K M S
    generalize lT (⟨D,⟨z,p,t⟩,F,⟨⟨⟨C,B,A⟩,E⟩,i⟩,⟨⟨j,a,d⟩,f⟩,⟨e,b⟩,l⟩:aC)=n at *
    generalize X:decide (-1∈l)=pl at *
    clear X
    cases n with
    | false=>simp[ai, *,aW,G.r,L,H]
    | true=>
    cases pl with
    | true=>simp[ai, *,aW,G.r,L,O,H]
    | false=>
    by_cases N:0<=c
    ·by_cases Z:c<65536
     ·simp[ai, *,aW,G.r,L,O,H,N,Z,fw,bM]
     ·simp[ai, *,aW,G.r,L,O,H,N,Z]
    ·simp[ai, *,aW,G.r,L,O,H,N]
   ·by_cases T:k=3
    ·subst T
     have Y:yn I v w o=(decide (0<=I)&&decide (I<8)&&o8 v w o):=rfl
     have V:=LO D z p t F C B A E i j a d f e b 0 0 0 0 0 0 0 0 0 0 0 0 0 0 0 0 G (y:=ba) (m:=[]) (.inl ⟨rfl,rfl⟩) (by omega) (by simp)
     have J:ew ⟨3,u,(⟨D,⟨z,p,t⟩,F,⟨⟨⟨C,B,A⟩,E⟩,i⟩,⟨⟨j,a,d⟩,f⟩,⟨e,b⟩,l⟩:aC),c,I,v,w,o⟩=(nF (⟨D,⟨z,p,t⟩,F,⟨⟨⟨C,B,A⟩,E⟩,i⟩,⟨⟨j,a,d⟩,f⟩,⟨e,b⟩,l⟩:aC) vP&&(decide (c=0)&&(decide (0<=I)&&decide (I<8)&&o8 v w o))):=by
      rw[<-Y]
      simp only[ew,HI,m0,H,show ¬((3:UInt8)=1) from by decide,show ¬((3:UInt8)=2) from by decide,if_false,if_true,decide_true,nX]
      cases yn I v w o<;>cases nF (⟨D,⟨z,p,t⟩,F,⟨⟨⟨C,B,A⟩,E⟩,i⟩,⟨⟨j,a,d⟩,f⟩,⟨e,b⟩,l⟩:aC) vP<;>simp
     rw[J]
     have R:nF (⟨D,⟨z,p,t⟩,F,⟨⟨⟨C,B,A⟩,E⟩,i⟩,⟨⟨j,a,d⟩,f⟩,⟨e,b⟩,l⟩:aC) ⟨0,⟨0,0,0⟩,0,⟨⟨⟨0,0,0⟩,0⟩,0⟩,⟨⟨0,0,0⟩,0⟩,⟨0,0⟩,[]⟩=nF (⟨D,⟨z,p,t⟩,F,⟨⟨⟨C,B,A⟩,E⟩,i⟩,⟨⟨j,a,d⟩,f⟩,⟨e,b⟩,l⟩:aC) vP:=rfl
     rw[R]at V
     clear Q J K M L O Y R
     generalize nF (⟨D,⟨z,p,t⟩,F,⟨⟨⟨C,B,A⟩,E⟩,i⟩,⟨⟨j,a,d⟩,f⟩,⟨e,b⟩,l⟩:aC) vP=n at *
     generalize (decide (0<=I)&&decide (I<8)&&o8 v w o)=m at *
     cases n with
     | false=>simp[ai, *,aW,G.r,V,H]
     | true=>
      by_cases N:c=0
      ·simp[ai, *,aW,G.r,V,S,H,N]
      ·simp[ai, *,aW,G.r,V,H,N]
    ·have J:ew ⟨k,u,(⟨D,⟨z,p,t⟩,F,⟨⟨⟨C,B,A⟩,E⟩,i⟩,⟨⟨j,a,d⟩,f⟩,⟨e,b⟩,l⟩:aC),c,I,v,w,o⟩=false:=by simp[ew,U,P,T]
     rw[J]
     clear Q J K M L O S
     simp[ai, *,aW,G.r,H,U,P,T]
  ·have J:ew ⟨k,u,(⟨D,⟨z,p,t⟩,F,⟨⟨⟨C,B,A⟩,E⟩,i⟩,⟨⟨j,a,d⟩,f⟩,⟨e,b⟩,l⟩:aC),c,I,v,w,o⟩=false:=by
    simp only[ew,HI,m0,U,if_false]
    by_cases P:k=2
    ·simp[P,H]
    ·by_cases T:k=3<;>simp[P,T,H]
   rw[J]
   clear Q J K M L O S
   simp[ai, *,aW,G.r,H,U]
end
end Go.Proofs.YtmkmimgokagimaaGreat
set_option maxHeartbeats 4000000
namespace Go.Proofs.YtmkmimgokagimaaGreat
open Go.Ab
section
attribute [local simp] aG ay aw aF aE bQ gX aM aA aD bI bH bn aN aj bf fe
section
variable{us:List Clear}{qs:List ah}{gr:Int}{l c:List (bW × AV)}{b b':eH}{v:iI}(d:oD us qs gr l=some b)(a:oD us qs gr c=some b')(h:Ud v b b')(f:MP c=MP (l.filter (RX v)))(e:b.da.length<=100)
include d a h f e
end
end
section
attribute [local simp] aG ay aw aF aE bQ gX aM aA aD bI bH bn aN aj bf fe
theorem C6{l:List (bW × AV)}{k:Nat}{p:bW × AV}(h:l[k]?=some p)(j n:Nat)(a:Bool):cm (bu l) k j n a=cm [p.1.val p.2] 0 j n a:=by
 simp[cm,bu,h]
def fy(us:List Clear)(gr:Int):List (bW × AV)->List Clear × Int
 | []=>(us,gr)
 | p :: l=>if p.1.kind=3/\nw us gr p.1.gu=0 then fy (us.set p.1.gu.toNat ⟨p.1.gv,p.1.gc,p.1.gok⟩) (IntKind.i64.wrap (gr - 1)) l else fy us gr l
section
variable{qs:List ah}{l:List (bW × AV)}{q:AV}(m:Sl 24 (bu l) q)(i:qs.length<1000)(t:l.length<100000)(d : ∀p∈l,p.1.kind=3->0<=p.1.gu)
include m i t d
theorem Wd{r2 r4:Ref}(hn:r2≠r4){Q:AV->aa->Prop} : ∀(s:List (bW × AV)) (k:Nat) (us:List Clear) (gr:Int) (T O:AV) (H:aa),l.drop k=s->k<=l.length->Sl 3 (bR us) T->Sl 5 (bL qs) O->us.length<1000 ->
 H.get r2=some ⟨3,[.agg [T,O,aI gr]],false,false⟩->(∃a b c,H.get r4=some ⟨3,[.agg [a,b,c]],false,false⟩)->Fr H ->
 (∀H' j n,Sl 3 (bR (fy us gr s).1) j->Sl 5 (bL qs) n->Q (.agg [j,n,aI (fy us gr s).2]) H') ->
 bF env Tryz.f89 0 fW [(5,aI k),(2,.ptr r2 0 0),(1,q),(4,.ptr r4 0 0)] H Q:=by
 intro s
 induction s with
 | nil=>
  rintro k us gr T O H hs hk hu hq hul h2 ⟨a,b,c,F⟩ hF hQ
  obtain rfl:=drop_nil hs hk
  have I:=λH'=>hQ H' T O hu hq
  simp only[fy]at I
  refine jm _ _ _ _ _ _ λg=>?_
  have D:=eY l
  clear hQ
  simp[ai, *,gf,m.r,hu.r,hq.r,aa.get_put]
  all_goals exact I _
 | cons p s K=>
  rintro k us gr T O H hs hk hu hq hul h2 F hF hQ
  obtain⟨E,Z,y,C⟩:=drop_cons hs
  have e1:=IntWalk.i64_in ((k:Int)+1) (by omega)
  have J:=C6 C
  have D:=eY l
  have hlt':(k:Int)<l.length:=by omega
  have hu0:=d p (Z ▸ mq E)
  have G:(H.get r2).isSome=true:=by rw[h2];rfl
  by_cases B:p.1.kind=3
  ·by_cases L:nw us gr p.1.gu=0
   ·have V:=KE (gr:=gr) hu hq i hul p.1.gu p.1.gv p.1.gc p.1.gok (hu0 B) L
    have f:=λH' h5 h6 h7=>K (k+1) (us.set p.1.gu.toNat ⟨p.1.gv,p.1.gc,p.1.gok⟩) (IntKind.i64.wrap (gr - 1)) _ _ H' y (by omega) (.inr ⟨none,rfl,by simp⟩) (HQ 5 (bL qs)) (by simpa using hul) h5 h6 h7 (λz j n A Y=>by
     have:=hQ z j n
     rw[fy,if_pos ⟨B,L⟩]at this
     exact this A Y)
    rw[show((k+1:Nat):Int)=(k:Int)+1 from by omega]at f
    have hvr:=(HQ 5 (bL qs)).r
    clear K hQ hs y Z C d
    obtain⟨⟨k1,u,⟨a1,⟨a2,a3,a4⟩,a5,⟨⟨⟨a6,a7,M⟩,a9⟩,U⟩,⟨⟨R,W,S⟩,P⟩,⟨X,N⟩,al⟩,c,A,v,w,o⟩,x⟩:=p
    simp only at B
    subst B
    simp only at V f L
    generalize bu l=er at *
    generalize DC 5 (bL qs)=vq at *
    generalize bR (us.set A.toNat ⟨v,w,o⟩)=ec at *
    refine jm _ _ _ _ _ _ λg=>?_
    simp[ai, *,gf,m.r,m.idx,E,D,J,bW.val,hu.r,hq.r,hvr,V,aa.get_put]
    obtain⟨ta,tb,tc,F⟩:=F
    refine f _ ?_ ⟨ta,tb,tc,?_⟩ (ML hF G _)
    ·simp[aa.get_put]
    ·rw[aa.get_put,if_neg (λe=>hn e.symm)];exact F
   ·have V:=KD (gr:=gr) hu hq i hul p.1.gu p.1.gv p.1.gc p.1.gok L
    have f:=λH' h5 h6 h7=>K (k+1) us gr _ _ H' y (by omega) hu hq hul h5 h6 h7 (λz j n A Y=>by
     have:=hQ z j n
     rw[fy,if_neg (λh=>L h.2)]at this
     exact this A Y)
    rw[show((k+1:Nat):Int)=(k:Int)+1 from by omega]at f
    clear K hQ hs y Z C d
    obtain⟨⟨k1,u,⟨a1,⟨a2,a3,a4⟩,a5,⟨⟨⟨a6,a7,M⟩,a9⟩,U⟩,⟨⟨R,W,S⟩,P⟩,⟨X,N⟩,al⟩,c,A,v,w,o⟩,x⟩:=p
    simp only at B
    subst B
    simp only at V L
    generalize bu l=er at *
    refine jm _ _ _ _ _ _ λg=>?_
    simp[ai, *,gf,m.r,m.idx,E,D,J,bW.val,hu.r,hq.r,V,aa.get_put]
    obtain⟨ta,tb,tc,F⟩:=F
    refine f _ ?_ ⟨ta,tb,tc,?_⟩ (ML hF G _)
    ·simp[aa.get_put]
    ·rw[aa.get_put,if_neg (λe=>hn e.symm)];exact F
  ·have f:=K (k+1) us gr _ _ H y (by omega) hu hq hul h2 F hF (λz j n A Y=>by
    have:=hQ z j n
    rw[fy,if_neg (λh=>B h.1)]at this
    exact this A Y)
   rw[show((k+1:Nat):Int)=(k:Int)+1 from by omega]at f
   clear K hQ hs y Z C d
   obtain⟨⟨k1,u,⟨a1,⟨a2,a3,a4⟩,a5,⟨⟨⟨a6,a7,M⟩,a9⟩,U⟩,⟨⟨R,W,S⟩,P⟩,⟨X,N⟩,al⟩,c,A,v,w,o⟩,x⟩:=p
   simp only at B
   generalize bu l=er at *
   refine jm _ _ _ _ _ _ λg=>?_
   simp[ai, *,gf,m.r,m.idx,E,D,J,bW.val,B]
theorem IE{us:List Clear}{gr:Int}{j e:AV}(n:Sl 3 (bR us) j)(o:Sl 5 (bL qs) e)(k:us.length<1000) :
 ∃a b,Sl 3 (bR (fy us gr l).1) a/\Sl 5 (bL qs) b/\ak env 89 [.agg [j,e,aI gr],q]=some (.agg [a,b,aI (fy us gr l).2]):=by
 obtain⟨y,h,a,b,x,w,rfl⟩:=zq (fn:=Tryz.f89) (c:=Ay) (f:=89) (args:=[.agg [j,e,aI gr],q]) (E:=env)
  (R:=λy =>∃a b,Sl 3 (bR (fy us gr l).1) a/\Sl 5 (bL qs) b/\y = .agg [a,b,aI (fy us gr l).2]) (by kernel_rfl) (by kernel_rfl) (by kernel_rfl) (by kernel_rfl) (by kernel_rfl) (by
  refine zU _ _ _ _ λg=>?_
  simp[ai, *,sZ,n.r,o.r]
  refine Wd m i t d (r2:=⟨0,2,0,0⟩) (r4:=⟨0,4,0,0⟩) (by simp) l 0 us gr j e _ rfl (by omega) n o k ?_ ⟨ba,ba,aI 0,?_⟩ ?_ (λH' a b u v=>?_)
  ·simp
  ·simp;try rfl
  ·simp(maxDischargeDepth:=12) [ek, *]
  ·simp[u.r,v.r]
   exact⟨u,v⟩)
 exact⟨a,b,x,w,h⟩
end
end
section
attribute [local simp] aG ay aw aF aE bQ gX aM aA aD bI bH bn aN aj bf fe
structure Pq where
 o:Bool
 u:Int
 s:Int
def xi(h:mz)(t:Pq)(p:bW × AV):Pq:=
 if p.1.op.h=h then (if p.1.kind=1 then ⟨true,p.1.user,t.s⟩ else if p.1.kind=2 then ⟨t.o,t.u,if t.s<p.1.op.serial then p.1.op.serial else t.s⟩ else t) else t
def gj(h:mz)(t:Pq)(l:List (bW × AV)):Pq:=l.foldl (xi h) t
section
variable{l:List (bW × AV)}{i:AV}(f:Sl 24 (bu l) i)(j:l.length<100000)
include f j
theorem Tw{b1 b3:UInt8}{b2:UInt32}{r3 r4 r5:Ref}(P:r5≠r4/\r5≠r3/\r4≠r3){Q:AV->aa->Prop} : ∀(s:List (bW × AV)) (k:Nat) (t:Pq) (H:aa),l.drop k=s->k<=l.length ->
 H.get r3=some ⟨3,[.agg [a8 b1,ae b2,a8 b3]],false,false⟩->(∃a b c,H.get r4=some ⟨3,[.agg [a,b,c]],false,false⟩)->H.get r5=some ⟨3,[.agg [aB t.o,aI t.u,aI t.s]],false,false⟩ ->
 (∀H' y,y=AV.agg [aB (gj ⟨b1,b2,b3⟩ t s).o,aI (gj ⟨b1,b2,b3⟩ t s).u,aI (gj ⟨b1,b2,b3⟩ t s).s]->Q y H') ->
 bF env Tryz.f94 0 cU [(6,aI k),(5,.ptr r5 0 0),(0,i),(3,.ptr r3 0 0),(4,.ptr r4 0 0)] H Q:=by
 intro s
 induction s with
 | nil=>
  rintro k t H hs hk h3 ⟨a,b,c,B⟩ h5 hQ
  obtain rfl:=drop_nil hs hk
  have z:=λH'=>hQ H' _ rfl
  simp only[gj,List.foldl_nil]at z
  refine gz _ _ _ _ _ _ _ λg=>?_
  have m:=eY l
  clear hQ
  simp[ai, *,fa,f.r,aa.get_put]
  all_goals exact z _
 | cons p s O=>
  rintro k t H hs hk h3 B h5 hQ
  obtain⟨q,hg,D,E⟩:=drop_cons hs
  have e1:=IntWalk.i64_in ((k:Int)+1) (by omega)
  have n:=C6 E
  have m:=eY l
  have N:(k:Int)<l.length:=by omega
  have d:=λt' (Z:t'=xi ⟨b1,b2,b3⟩ t p) H' g3 g4 g5=>O (k+1) t' H' D (by omega) g3 g4 g5 (λI y W=>hQ I y (by rw[W,Z];rfl))
  rw[show((k+1:Nat):Int)=(k:Int)+1 from by omega]at d
  clear O hQ hs D hg E
  obtain⟨⟨R,u,⟨a1,⟨G,K,F⟩,M,⟨⟨⟨a6,a7,T⟩,a9⟩,a10⟩,⟨⟨Y,a12,a13⟩,X⟩,⟨a15,U⟩,al⟩,c,g1,v,w,o⟩,x⟩:=p
  obtain⟨ta,tb,tc,B⟩:=B
  obtain⟨t0,t1,t2⟩:=t
  simp only[xi,mz.mk.injEq]at d
  simp only at h5
  have h:(H.get r5).isSome=true:=by rw[h5];rfl
  have V : ¬r3=r5:=λe=>P.2.1 e.symm
  have n45 : ¬r4=r5:=λe=>P.1 e.symm
  generalize bu l=er at *
  by_cases L:G=b1/\K=b2/\F=b3
  ·obtain⟨rfl,rfl,rfl⟩:=L
   by_cases A:R=1
   ·subst A
    refine gz _ _ _ _ _ _ _ λg=>?_
    have d:=d ⟨true,u,t2⟩ (by simp)
    simp[ai, *,fa,f.r,f.idx,q,m,n,bW.val,fw,bM,aa.get_put,h3,B,h5,h]
   ·by_cases C:R=2
    ·subst C
     refine gz _ _ _ _ _ _ _ λg=>?_
     have d:=d ⟨t0,t1,if t2<M then M else t2⟩ (by simp)
     simp[ai, *,fa,f.r,f.idx,q,m,n,bW.val,fw,bM,aa.get_put,h3,B,h5,h]
    ·refine gz _ _ _ _ _ _ _ λg=>?_
     have d:=d ⟨t0,t1,t2⟩ (by simp[A,C])
     simp[ai, *,fa,f.r,f.idx,q,m,n,bW.val,fw,bM,aa.get_put,h3,B,h5,h,A,C]
  ·refine gz _ _ _ _ _ _ _ λg=>?_
   have d:=d ⟨t0,t1,t2⟩ (by rw[if_neg L])
   have J:(!decide (G=b1) || !decide (K=b2) || !decide (F=b3))=true:=by
    by_cases q1:G=b1<;>by_cases q2:K=b2<;>by_cases S:F=b3<;>simp[q1,q2,S]at L ⊢
   simp[ai, *,fa,f.r,f.idx,q,m,n,bW.val,fw,bM,aa.get_put,h3,B,h5,h,J]
theorem GW(b1:UInt8)(b2:UInt32)(b3:UInt8):ak env 94 [i,.agg [a8 b1,ae b2,a8 b3]] =
 some (.agg [aB (gj ⟨b1,b2,b3⟩ ⟨false,0,0⟩ l).o,aI (gj ⟨b1,b2,b3⟩ ⟨false,0,0⟩ l).u,aI (gj ⟨b1,b2,b3⟩ ⟨false,0,0⟩ l).s]):=by
 refine an rfl (by kernel_rfl) (Be _ _ _ _ λg=>?_)
 simp[ai, *,tL,f.r]
 refine Tw f j (b1:=b1) (b2:=b2) (b3:=b3) (r3:=⟨0,3,0,0⟩) (r4:=⟨0,4,0,0⟩) (r5:=⟨0,5,0,0⟩) ⟨by simp,by simp,by simp⟩ l 0 ⟨false,0,0⟩ _ rfl (by omega) ?_ ⟨aB false,aI 0,aI 0,?_⟩ ?_ (λH' y e=>?_)
 ·simp
 ·simp
 ·simp
 ·subst e
  simp
end
def xe(b:iI)(t:wX)(p:bW × AV):wX:=
 if p.1.op.h.lv=b.lv/\p.1.op.h.cats=b.cats then (if p.1.kind=1 then { t with opens:=IntKind.i64.wrap (t.opens+1)} else if p.1.kind=2 then { t with ops:=IntKind.i64.wrap (t.ops+1),cells:=if p.1.code=0/\p.1.op.kind=1 then IntKind.i64.wrap (t.cells+p.1.op.s.many) else t.cells} else t) else t
def tV(b:iI)(t:wX)(l:List (bW × AV)):wX:=l.foldl (xe b) t
section
variable{l:List (bW × AV)}{i:AV}(f:Sl 24 (bu l) i)(j:l.length<100000)
include f j
theorem Qe{b1:UInt8}{b2:UInt32}{r3 r4 r5:Ref}(S:r5≠r4/\r5≠r3/\r4≠r3){Q:AV->aa->Prop} : ∀(s:List (bW × AV)) (k:Nat) (t:wX) (H:aa),l.drop k=s->k<=l.length ->
 H.get r3=some ⟨2,[.agg [a8 b1,ae b2]],false,false⟩->(∃a b c d e,H.get r4=some ⟨5,[.agg [a,b,c,d,e]],false,false⟩)->H.get r5=some ⟨5,[.agg [a8 b1,ae b2,aI t.opens,aI t.ops,aI t.cells]],false,false⟩ ->
 (∀H' y,y=AV.agg [a8 b1,ae b2,aI (tV ⟨b1,b2⟩ t s).opens,aI (tV ⟨b1,b2⟩ t s).ops,aI (tV ⟨b1,b2⟩ t s).cells]->Q y H') ->
 bF env Tryz.f99 0 bm [(6,aI k),(5,.ptr r5 0 0),(0,i),(3,.ptr r3 0 0),(4,.ptr r4 0 0)] H Q:=by
 intro s
 induction s with
 | nil=>
  rintro k t H hs hk h3 ⟨a,b,c,d,e,A⟩ h5 hQ
  obtain rfl:=drop_nil hs hk
  have B:=λH'=>hQ H' _ rfl
  simp only[tV,List.foldl_nil]at B
  refine cR _ _ _ _ _ _ _ λg=>?_
  have n:=eY l
  clear hQ
  simp[ai, *,cC,f.r,aa.get_put]
  all_goals exact B _
 | cons p s R=>
  rintro k t H hs hk h3 A h5 hQ
  obtain⟨z,hg,E,F⟩:=drop_cons hs
  have e1:=IntWalk.i64_in ((k:Int)+1) (by omega)
  have q:=C6 F
  have n:=eY l
  have P:(k:Int)<l.length:=by omega
  have h:=λt' (ht:t'=xe ⟨b1,b2⟩ t p) H' g3 g4 g5=>R (k+1) t' H' E (by omega) g3 g4 g5 (λK y X=>hQ K y (by rw[X,ht];rfl))
  rw[show((k+1:Nat):Int)=(k:Int)+1 from by omega]at h
  clear R hQ hs E hg F
  obtain⟨⟨T,u,⟨a1,⟨J,M,a4⟩,a5,⟨⟨⟨a6,a7,U⟩,a9⟩,N⟩,⟨⟨Z,a12,a13⟩,Y⟩,⟨a15,V⟩,al⟩,c,g1,v,w,o⟩,x⟩:=p
  obtain⟨ta,tb,tc,td,te,A⟩:=A
  obtain⟨t0,t1,t2⟩:=t
  simp only[xe]at h
  simp only at h5
  have m:(H.get r5).isSome=true:=by rw[h5];rfl
  have W : ¬r3=r5:=λe=>S.2.1 e.symm
  have n45 : ¬r4=r5:=λe=>S.1 e.symm
  generalize bu l=er at *
  by_cases O:J=b1/\M=b2
  ·obtain⟨rfl,rfl⟩:=O
   by_cases C:T=1
   ·subst C
    refine cR _ _ _ _ _ _ _ λg=>?_
    have h:=h ⟨IntKind.i64.wrap (t0+1),t1,t2⟩ (by simp)
    simp[ai, *,cC,f.r,f.idx,z,n,q,bW.val,fw,bM,aa.get_put,h3,A,h5,m]
   ·by_cases D:T=2
    ·subst D
     by_cases G:c=0
     ·by_cases I:a1=1
      ·subst G I
       refine cR _ _ _ _ _ _ _ λg=>?_
       have h:=h ⟨t0,IntKind.i64.wrap (t1+1),IntKind.i64.wrap (t2+N)⟩ (by simp)
       simp[ai, *,cC,f.r,f.idx,z,n,q,bW.val,fw,bM,aa.get_put,h3,A,h5,m]
      ·subst G
       refine cR _ _ _ _ _ _ _ λg=>?_
       have h:=h ⟨t0,IntKind.i64.wrap (t1+1),t2⟩ (by simp[I])
       simp[ai, *,cC,f.r,f.idx,z,n,q,bW.val,fw,bM,aa.get_put,h3,A,h5,m,I]
     ·skip
      refine cR _ _ _ _ _ _ _ λg=>?_
      have h:=h ⟨t0,IntKind.i64.wrap (t1+1),t2⟩ (by simp[G])
      simp[ai, *,cC,f.r,f.idx,z,n,q,bW.val,fw,bM,aa.get_put,h3,A,h5,m,G]
    ·skip
     refine cR _ _ _ _ _ _ _ λg=>?_
     have h:=h ⟨t0,t1,t2⟩ (by simp[C,D])
     simp[ai, *,cC,f.r,f.idx,z,n,q,bW.val,fw,bM,aa.get_put,h3,A,h5,m,C,D]
  ·have L:(!decide (J=b1) || !decide (M=b2))=true:=by
    by_cases q1:J=b1<;>by_cases q2:M=b2<;>simp[q1,q2]at O ⊢
   refine cR _ _ _ _ _ _ _ λg=>?_
   have h:=h ⟨t0,t1,t2⟩ (by rw[if_neg O])
   simp[ai, *,cC,f.r,f.idx,z,n,q,bW.val,fw,bM,aa.get_put,h3,A,h5,m,L]
theorem Ai(b1:UInt8)(b2:UInt32):ak env 99 [i,.agg [a8 b1,ae b2]] =
 some (.agg [a8 b1,ae b2,aI (tV ⟨b1,b2⟩ ⟨0,0,0⟩ l).opens,aI (tV ⟨b1,b2⟩ ⟨0,0,0⟩ l).ops,aI (tV ⟨b1,b2⟩ ⟨0,0,0⟩ l).cells]):=by
 refine an rfl (by kernel_rfl) (xV _ _ _ _ λg=>?_)
 simp[ai, *,qD,f.r]
 refine Qe f j (b1:=b1) (b2:=b2) (r3:=⟨0,3,0,0⟩) (r4:=⟨0,4,0,0⟩) (r5:=⟨0,5,0,0⟩) ⟨by simp,by simp,by simp⟩ l 0 ⟨0,0,0⟩ _ rfl (by omega) ?_ ⟨a8 0,ae 0,aI 0,aI 0,aI 0,?_⟩ ?_ (λH' y e=>?_)
 ·simp
 ·simp
 ·simp
 ·subst e
  simp
end
end
section
attribute [local simp] aG ay aw aF aE bQ gX aM aA aD bI bH bn aN aj bf fe
attribute [local simp] zE bsO eb
structure JM where
 code:Int
 write:Bool
 r:bW
 x:AV
def ajS:bW:=⟨0,0,vP,0,0,0,0,false⟩
def JM.av(u:JM):AV := .agg [aI u.code,aB u.write,a8 u.r.kind,aI u.r.user,a8 u.r.op.kind,a8 u.r.op.h.lv,ae u.r.op.h.cats,a8 u.r.op.h.num,aI u.r.op.serial,a8 u.r.op.s.f.h.lv,ae u.r.op.s.f.h.cats,a8 u.r.op.s.f.h.num,aI u.r.op.s.f.n,aI u.r.op.s.many,
 a8 u.r.op.a.h.lv,ae u.r.op.a.h.cats,a8 u.r.op.a.h.num,aI u.r.op.a.n,a8 u.r.op.to.lv,ae u.r.op.to.cats,u.x,aI u.r.code,aI u.r.gu,a8 u.r.gv,ae u.r.gc,aB u.r.gok]
def lu(e:Int):JM:=⟨e,false,ajS,ba⟩
theorem fm(e:Int):(lu e).av=dx e:=rfl
def V7(h:mz)(a:Int):bW:=⟨1,a, { vP with h:=h},0,0,0,0,false⟩
def RW(us:List Clear)(qs:List ah)(gr:Int)(b:eH)(h:mz)(a:Int):JM:=
 if !nV b qs a h.lv h.cats||((gN (aV h b.ses)).o && !decide ((gN (aV h b.ses)).u=a)) then lu 230 else if (gN (aV h b.ses)).o then lu 0 else if (kT us qs gr h.lv h.cats).opens<=(Bj b ⟨h.lv,h.cats⟩).opens then lu 9 else ⟨0,true,V7 h a,ba⟩
def Oc(us:List Clear)(qs:List ah)(gr:Int)(l:List (bW × AV))(h:mz)(a:Int):JM × Int:=match oD us qs gr l with
 | none=>(lu 0,8)
 | some b=>if dZ h=true/\0<=a/\a<=255 then (RW us qs gr b h a,0) else (lu 0,8)
def opR(o:aC)(c:Int):bW:=⟨2,0,o,c,0,0,0,false⟩
def UT(us:List Clear)(qs:List ah)(gr:Int)(l:List (bW × AV))(b:eH)(h:mz)(o:aC)(x:AV):JM:=
 if !decide (o.h=h)||decide (-1∈o.l) then lu 8 else if !(gN (aV h b.ses)).o || !nV b qs (gN (aV h b.ses)).u h.lv h.cats then lu 230 else if o.serial<=(gN (aV h b.ses)).s then lu (OL (wC us qs gr l h o.serial))
 else if (gN (aV h b.ses)).s+1<o.serial then lu 231 else if (kT us qs gr h.lv h.cats).ops<=(Bj b ⟨h.lv,h.cats⟩).ops then lu 9 else ⟨iS us qs gr b o,true,opR o (iS us qs gr b o),tE x⟩
def Fh(us:List Clear)(qs:List ah)(gr:Int)(l:List (bW × AV))(h:mz)(o:aC)(x:AV):JM × Int:=match oD us qs gr l with
 | none=>(lu 0,8)
 | some b=>if dZ h=true/\lT o=true then (UT us qs gr l b h o x,0) else (lu 0,8)
section
variable{z v:AV}{us:List Clear}{qs:List ah}{gr:Int}(j:Sl 3 (bR us) z)(m:Sl 5 (bL qs) v)(t:us.length<1000000)(i:qs.length<1000000){l:List (bW × AV)}{w:AV}(k:Sl 24 (bu l) w)(d : ∀p∈l,tA p)
include j m t i k d
theorem L5{b:eH}(e:oD us qs gr l=some b):b.us.length<1000000:=by
 obtain⟨y,g,h,c⟩:=Vy (gr:=gr) j m t i k d 0 Fr.nil
 rw[e]at c
 obtain⟨rb,rs,ru,rk,f,n,rfl,o,a⟩:=c
 exact a.few
theorem abo(a:UInt8)(e:UInt32)(n:UInt8)(f:Int):ak env 49 [.agg [z,v,aI gr],w,.agg [a8 a,ae e,a8 n],aI f]=some (.tup [(Oc us qs gr l ⟨a,e,n⟩ f).1.av,aI (Oc us qs gr l ⟨a,e,n⟩ f).2]):=by
 obtain⟨y,hO,B⟩:=Qh (gr:=gr) j m t i k d a e n
 have r3:=j.r
 have r4:=m.r
 have r5:=k.r
 have t1:=C5 230
 have t2:=C5 0
 have t3:=C5 9
 unfold Xm at B
 unfold Oc
 cases C:oD us qs gr l with
 | none=>
  rw[C]at B
  subst B
  clear j m k d C
  dsimp only
  rw[fm]
  unfold dx MO at *
  refine an rfl (by kernel_rfl) (qh _ _ _ _ _ _ λg=>?_)
  simp[ai, *,nR]
 | some b=>
  have G:=L5 j m t i k d C
  rw[C]at B
  dsimp only at B ⊢
  cases H:dZ ⟨a,e,n⟩ with
  | false=>
   rw[H]at B
   simp only[mr,if_false]at B
   rw[if_neg (λh=>by cases h.1)]
   subst B
   clear j m k d C
   dsimp only
   rw[fm]
   unfold dx MO at *
   refine an rfl (by kernel_rfl) (qh _ _ _ _ _ _ λg=>?_)
   simp[ai, *,nR]
  | true=>
   rw[H,if_pos rfl]at B
   obtain⟨wu,wq,A,x,rfl⟩:=B
   have r1:=A.r
   have r2:=x.r
   by_cases hlo:f<0
   ·rw[if_neg (λh=>by omega)]
    dsimp only
    rw[fm]
    clear j m k d C A x H
    unfold dx MO at *
    refine an rfl (by kernel_rfl) (qh _ _ _ _ _ _ λg=>?_)
    simp[ai, *,nR]
   ·by_cases hhi:255<f
    ·rw[if_neg (λh=>by omega)]
     dsimp only
     rw[fm]
     clear j m k d C A x H
     unfold dx MO at *
     refine an rfl (by kernel_rfl) (qh _ _ _ _ _ _ λg=>?_)
     simp[ai, *,nR]
    ·rw[if_pos ⟨rfl,by omega,by omega⟩]
     dsimp only
     have hM:=λO P S N T L R Q I V M K W=>LM A x G i O P S b.gr N T L R Q I V M K W f a e
     have hF:=λO P S N T L R Q I V M K W J c=>U9 A x O P S b.gr N T L R Q I V M K W J f a e n c
     have X:DW b a e=⟨a,e,(Bj b ⟨a,e⟩).opens,(Bj b ⟨a,e⟩).ops,(Bj b ⟨a,e⟩).cells⟩:=rfl
     have E:(RW us qs gr b ⟨a,e,n⟩ f).av=if !nV b qs f a e||((gN (aV ⟨a,e,n⟩ b.ses)).o && !decide ((gN (aV ⟨a,e,n⟩ b.ses)).u=f)) then dx 230 else if (gN (aV ⟨a,e,n⟩ b.ses)).o then dx 0 else if (kT us qs gr a e).opens<=(Bj b ⟨a,e⟩).opens then dx 9 else .agg [aI 0,aB true,a8 1,aI f,a8 0,a8 a,ae e,a8 n,aI 0,a8 0,ae 0,a8 0,aI 0,aI 0,a8 0,ae 0,a8 0,aI 0,a8 0,ae 0,ba,aI 0,aI 0,a8 0,ae 0,aB false]:=by
      unfold RW
      dsimp only
      split
      ·rfl
      ·split
       ·rfl
       ·split
        ·rfl
        ·rfl
     rw[E]
     rw[X]at hO
     unfold nV
     clear j m k d C A x H E X
     generalize gN (aV ⟨a,e,n⟩ b.ses)=s at *
     generalize Bj b ⟨a,e⟩=u at *
     try dsimp only at *
     generalize kT us qs gr a e=q at *
     generalize (decide (oU b.us qs b.gr a=0)&&eL b.us f a e)=mn at *
     obtain⟨s1,s2,s3⟩:=s
     obtain⟨Z,u2,u3⟩:=u
     obtain⟨q1,q2,Y,q4,q5⟩:=q
     try dsimp only at *
     generalize D:(if (!mn||s1 && !decide (s2=f))=true then dx 230 else if s1=true then dx 0 else if Y<=Z then dx 9 else .agg [aI 0,aB true,a8 1,aI f,a8 0,a8 a,ae e,a8 n,aI 0,a8 0,ae 0,a8 0,aI 0,aI 0,a8 0,ae 0,a8 0,aI 0,a8 0,ae 0,ba,aI 0,aI 0,a8 0,ae 0,aB false])=yy
     have hF':=λc=>(hF s1 s2 s3 a e Z u2 u3 q1 q2 Y q4 q5 mn c).trans (by rw[D])
     have U : ∃x3 x4 x5 x6 x7 x8 x9 F x11,yy = .agg [aI x3,aB x4,a8 x5,aI x6,a8 0,a8 x7,ae x8,a8 x9,aI 0,a8 0,ae 0,a8 0,aI 0,aI 0,a8 0,ae 0,a8 0,aI 0,a8 0,ae 0,ba,aI 0,aI 0,a8 F,ae x11,aB false]:=by
      rw[<-D]
      unfold dx
      split
      ·exact⟨230,false,0,0,0,0,0,0,0,rfl⟩
      ·split
       ·exact⟨0,false,0,0,0,0,0,0,0,rfl⟩
       ·split
        ·exact⟨9,false,0,0,0,0,0,0,0,rfl⟩
        ·exact⟨0,true,1,f,a,e,n,0,0,rfl⟩
     obtain⟨x3,x4,x5,x6,x7,x8,x9,F,x11,rfl⟩:=U
     clear hF D
     unfold MO at hO
     refine an rfl (by kernel_rfl) (qh _ _ _ _ _ _ λg=>?_)
     simp[ai, *,nR]
end
end
section
attribute [local simp] aG ay aw aF aE bQ gX aM aA aD bI bH bn aN aj bf fe
def isDone(p:bW × AV):Bool:=decide (p.1.kind=2)&&decide (p.1.code=0)
def lj(l:List (bW × AV)):List (aC × AV):=(l.filter isDone).map λp=>(p.1.op,p.2)
@[simp] theorem jN(l:List (aC × AV)):(cF l).length=l.length:=by simp[cF]
section
variable{l:List (bW × AV)}{d:AV}(b:Sl 24 (bu l) d)(f:l.length<100000)(a : ∀p∈l,Sl 1 (rows p.1.op.l) p.2)
include b f a
theorem TV{Q:AV->aa->Prop} : ∀(s:List (bW × AV)) (k:Nat) (outs:List (aC × AV)) (H:aa) (x3:AV),l.drop k=s->k<=l.length->outs.length<=k->Fr H->Own 17 (cF outs) H x3->(∀q,x3.at?=some q->q.t=32) ->
 (∀H' T,Fr H'->Own 17 (cF (outs++lj s)) H' T->Q T H')->bF env Tryz.f68 0 fH [(4,aI k),(0,d),(3,x3)] H Q:=by
 intro s
 induction s with
 | nil=>
  rintro k outs H x3 hs hk ho hF i ht hQ
  obtain rfl:=drop_nil hs hk
  have S:=hQ H x3 hF (by simpa [lj] using i)
  have j:=eY l
  refine fG _ _ _ _ _ λg=>?_
  clear hQ
  simp[ai, *,ei,b.r]
  all_goals exact S
 | cons p s U=>
  rintro k outs H x3 hs hk ho hF i ht hQ
  obtain⟨m,W,z,C⟩:=drop_cons hs
  have e1:=IntWalk.i64_in ((k:Int)+1) (by omega)
  have y:=C6 C
  have j:=eY l
  have n:=jN outs
  have hlt':(k:Int)<l.length:=by omega
  have B:=a p (W ▸ mq m)
  by_cases E:isDone p=true
  ·have h:=λH' T h1 h2 i=>U (k+1) (outs++[(p.1.op,p.2)]) H' T z (by omega) (by simp;omega) h1 h2 i (λA D J X=>hQ A D J (by rw[show lj (p :: s)=(p.1.op,p.2) :: lj s from by simp[lj,E]];simpa using X))
   rw[show((k+1:Nat):Int)=(k:Int)+1 from by omega,show cF (outs++[(p.1.op,p.2)])=cF outs++[Aw (p.1.op,p.2)] from by simp[cF]]at h
   clear U hQ hs z W C a
   obtain⟨⟨k1,u,⟨a1,⟨a2,a3,a4⟩,a5,⟨⟨⟨a6,Z,F⟩,a9⟩,N⟩,⟨⟨L,O,M⟩,K⟩,⟨P,G⟩,al⟩,c,J,v,w,o⟩,x⟩:=p
   simp only[isDone,aY,decide_eq_true_eq]at E
   obtain⟨rfl,rfl⟩:=E
   simp only at B
   generalize bu l=er at *
   generalize cF outs=eo at *
   generalize outs.length=nh at *
   simp only[Aw]at h
   rcases i with ⟨rfl,i⟩ | ⟨t,rfl,i⟩
   ·subst i
    simp at n
    subst n
    refine fG _ _ _ _ _ λg=>?_
    simp[ai, *,ei,b.r,b.idx,m,j,y,bW.val,B.r]
    refine h _ (.cG ⟨0,32,H.gen 0 32,0⟩ 0 1 none) ?_ (.inr ⟨⟨0,32,H.gen 0 32,0⟩,rfl,?_⟩) (λq V=>by cases V;rfl)
    ·simp(maxDischargeDepth:=12) [ek, *]
    ·simp(maxDischargeDepth:=12) [ek, *]
   ·have R:=ht t rfl
    obtain⟨I,tt,tg,tk⟩:=t
    simp only at R
    subst R
    have f6:nx 17 112 nh true none (some ⟨17,eo,true,false⟩) (some [.agg [a8 a1,a8 a2,ae a3,a8 a4,aI a5,a8 a6,ae Z,a8 F,aI a9,aI N,a8 L,ae O,a8 M,aI K,a8 P,ae G,x]]):=by
     simp;omega
    have l8:(H.get ⟨I,32,tg,tk⟩).isSome=true:=by rw[i];rfl
    refine fG _ _ _ _ _ λg=>?_
    simp[ai, *,ei,b.r,b.idx,m,j,y,bW.val,B.r,hF,l8,i,f6,n,aa.get_put]
    refine h _ (.cG ⟨I,32,H.gen I 32,0⟩ 0 (nh+1) none) ?_ (.inr ⟨⟨I,32,H.gen I 32,0⟩,by simp[n],?_⟩) (λq V=>by cases V;rfl)
    ·simp(maxDischargeDepth:=12) [ek, *]
    ·simp(maxDischargeDepth:=12) [ek, *]
  ·have h:=U (k+1) outs H x3 z (by omega) (by omega) hF i ht (λA D J X=>hQ A D J (by rw[show lj (p :: s)=lj s from by simp[lj,E]];exact X))
   rw[show((k+1:Nat):Int)=(k:Int)+1 from by omega]at h
   clear U hQ hs z W C a
   obtain⟨⟨k1,u,⟨a1,⟨a2,a3,a4⟩,a5,⟨⟨⟨a6,Z,F⟩,a9⟩,N⟩,⟨⟨L,O,M⟩,K⟩,⟨P,G⟩,al⟩,c,J,v,w,o⟩,x⟩:=p
   simp only[isDone,aY,decide_eq_true_eq]at E
   generalize bu l=er at *
   by_cases Y:k1=2
   ·subst Y
    have hc : ¬c=0:=λe=>E ⟨rfl,e⟩
    refine fG _ _ _ _ _ λg=>?_
    simp[ai, *,ei,b.r,b.idx,m,j,y,bW.val,hc]
   ·refine fG _ _ _ _ _ λg=>?_
    simp[ai, *,ei,b.r,b.idx,m,j,y,bW.val,Y]
theorem S3 : ∃y,ak env 68 [d]=some y/\Sl 17 (cF (lj l)) y:=by
 refine zq (fn:=Tryz.f68) (c:=zF) (by kernel_rfl) (by kernel_rfl) (by kernel_rfl) (by kernel_rfl) (by kernel_rfl) ?_
 refine yV _ _ _ λg=>?_
 simp[ai, *,rI]
 refine TV b f a l 0 [] [] ba rfl (by omega) (by simp) Fr.nil (.inl ⟨rfl,rfl⟩) (λq e=>by cases e) (λH' k j h=>?_)
 rw[w9]at h
 have i:=jN (lj l)
 generalize cF (lj l)=ee at *
 rcases h with ⟨rfl,h⟩ | ⟨r,rfl,h⟩
 ·simp[h]
 ·simp[h]
end
end
section
attribute [local simp] aG ay aw aF aE bQ gX aM aA aD bI bH bn aN aj bf fe
attribute [local simp] zE bsO eb
section
variable{k f:AV}{us:List Clear}{qs:List ah}{gr:Int}(e:Sl 3 (bR us) k)(i:Sl 5 (bL qs) f)(d:us.length<1000000)(c:qs.length<1000000){l:List (bW × AV)}{j:AV}(g:Sl 24 (bu l) j)(a : ∀p∈l,tA p)
include e i d c g a
theorem abk{b:eH}(n:oD us qs gr l=some b)(h:mz):0<=(gN (aV h b.ses)).s/\(gN (aV h b.ses)).s<16777216:=by
 have m:=YI n
 rw[(m.ser h).1]
 exact⟨(m.up h).1,(m.up h).2.1⟩
end
end
section
attribute [local simp] aG ay aw aF aE bQ gX aM aA aD bI bH bn aN aj bf fe
@[local simp] theorem zR(g:cX)(k:Nat)(n:Int):ao g k (aR n)=[]:=by cases k<;>rfl
structure JN where
 i:bV
 a:bV
 r:Int
def JN.enc(e:JN):AV := .agg [a8 e.i.h.lv,ae e.i.h.cats,a8 e.i.h.num,aI e.i.n,a8 e.a.h.lv,ae e.a.h.cats,a8 e.a.h.num,aI e.a.n,aR e.r]
def mM(l:List JN):List AV:=l.map JN.enc
@[simp] theorem rD(l:List JN):(mM l).length=l.length:=by simp[mM]
def Db(i:bV):List JN->Nat->Int
 | [],_ => -1
 | e :: l,k=>if e.i=i then (k:Int) else Db i l (k+1)
theorem Jb(i:bV) : ∀(l:List JN)(k:Nat),(0<=Db i l k↔i∈l.map (·.i))
 | [],k=>by simp[Db]
 | e :: l,k=>by
  rw[Db]
  by_cases h:e.i=i
  ·rw[if_pos h];simp[h]
  ·rw[if_neg h,Jb i l (k+1)]
   have : ¬i=e.i:=λe=>h e.symm
   simp[this]
section
variable{E:List JN}{x:AV}(m:Sl 9 (mM E) x)(F:E.length<1000000)
include m F
theorem P0(o:UInt8)(j:UInt32)(f:UInt8)(a:Int){r3:Ref}{H:aa}(Z:H.get r3=some ⟨4,[.agg [a8 o,ae j,a8 f,aI a]],false,false⟩){Q:AV->aa->Prop} : ∀(s:List JN)(k:Nat),E.drop k=s->k<=E.length->(∀y,y=aI (Db (⟨⟨o,j,f⟩,a⟩:bV) s k)->Q y H) ->
 bF env Tryz.f199 0 hY [(5,aI k),(3,.ptr r3 0 0),(0,x)] H Q:=by
 intro s
 induction s with
 | nil=>
  rintro k hs hk hQ
  obtain rfl:=drop_nil hs hk
  have L:=rD E
  have M:=hQ _ rfl
  simp only[Db]at M
  refine oO _ _ _ _ _ λg=>?_
  clear hQ
  simp[ai, *,k5,m.r]
 | cons e s P=>
  rintro k hs hk hQ
  obtain⟨N,W,K,J⟩:=drop_cons hs
  have R:=IntWalk.i64_in ((k:Int)+1) (by omega)
  have L:=rD E
  have O:(k:Int)<E.length:=by omega
  have I:cm (mM E) k 0 4 true=some (.agg [a8 e.i.h.lv,ae e.i.h.cats,a8 e.i.h.num,aI e.i.n]):=by simp[cm,mM,J,JN.enc]
  have q:=λ(h:e.i=(⟨⟨o,j,f⟩,a⟩:bV))=>hQ (aI k) (by rw[Db,if_pos h])
  have t:=λ(h : ¬e.i=(⟨⟨o,j,f⟩,a⟩:bV))=>P (k+1) K (by omega) (λy S=>hQ y (by rw[Db,if_neg h];exact S))
  rw[show((k+1:Nat):Int)=(k:Int)+1 from by omega]at t
  clear P hQ hs K W J
  obtain⟨⟨⟨X,V,T⟩,U⟩,ea,er⟩:=e
  simp only[bV.mk.injEq,mz.mk.injEq]at q t I
  generalize mM E=el at *
  refine oO _ _ _ _ _ λg=>?_
  simp[ai, *,k5,m.r,m.idx,N,L,I,fw,bM]
  refine iV (λh=>?_) (λh=>?_)
  ·exact q (by simpa [and_assoc] using h)
  ·simp[R]
   exact t (by
    intro Y
    have : ¬(X=o/\V=j/\T=f/\U=a):=by simpa [and_assoc] using h
    exact this (by simpa [and_assoc] using Y))
theorem IF(f:UInt8)(h:UInt32)(a:UInt8)(i:Int):ak env 199 [x,.agg [a8 f,ae h,a8 a,aI i]]=some (aI (Db (⟨⟨f,h,a⟩,i⟩:bV) E 0)):=by
 refine an rfl (by kernel_rfl) (xZ _ _ _ _ λg=>?_)
 simp[ai, *,qF,m.r]
 refine P0 m F f h a i (r3:=⟨0,3,0,0⟩) ?_ E 0 rfl (by omega) (λy e=>?_)
 ·simp
 ·subst e;simp
theorem KB(a:UInt8)(f:UInt32)(j:UInt8)(k:Int)(q:UInt8)(t:UInt32):ak env 197 [x,.agg [a8 a,ae f,a8 j,aI k],.agg [a8 q,ae t]]=some (aB (decide ((⟨⟨a,f,j⟩,k⟩:bV)∈E.map (·.i))&&qS ⟨a,f⟩ ⟨q,t⟩)):=by
 have y:=IF m F a f j k
 have H:=RK a f q t
 have o:=Jb (⟨⟨a,f,j⟩,k⟩:bV) E 0
 refine an rfl (by kernel_rfl) (yW _ _ _ _ _ λg=>?_)
 generalize Db (⟨⟨a,f,j⟩,k⟩:bV) E 0=n at *
 by_cases h:0<=n
 ·have G:=o.1 h
  clear o
  simp[ai, *,mT,m.r,y,H,h,G]
 ·have G:=λe=>h (o.2 e)
  rw[decide_eq_false G,yM]
  clear o G
  simp[ai, *,mT,m.r,y,H,h]
end
def ig(s:wN)(a:bV):List Int->Nat->List JN
 | [],_=>[]
 | r :: l,k=>⟨⟨s.f.h,IntKind.i64.wrap (s.f.n+(k:Int))⟩,if k=0 then a else ⟨s.f.h,IntKind.i64.wrap (s.f.n+((k:Int) - 1))⟩,r⟩ :: ig s a l (k+1)
theorem EC(s:wN)(a:bV) : ∀(l:List Int)(k:Nat),(ig s a l k).length=l.length
 | [],k=>rfl
 | r :: l,k=>by simp[ig,EC s a l (k+1)]
section
variable(v:UInt8)(d:UInt32)(u:UInt8)(b:Int)(w:Int)(z:UInt8)(A:UInt32)(B:UInt8)(C:Int){x:AV}{l:List Int}{c:Option Nat}(m:Sl 1 (rows l) x)(G:(l.length:Int)=w)(F:l.length<1000000)
include m G F
theorem Rp{Q:AV->aa->Prop} : ∀(s:List Int)(k:Nat)(a:List JN)(H:aa)(x3:AV),l.drop k=s->k<=l.length->a.length=k->Fr H->Own 9 (mM a) H x3->(∀q,x3.at?=some q->q.t=45) ->
 (∀H' S,Fr H'->Own 9 (mM (a++ig ⟨⟨⟨v,d,u⟩,b⟩,w⟩ ⟨⟨z,A,B⟩,C⟩ s k)) H' S->Q S H') ->
 bF env Tryz.f221 0 jt [(5,aI k),(4,aI 0),(0,.cD 10 [.agg [a8 v,ae d,a8 u,aI b,aI w,a8 z,ae A,a8 B,aI C,x]] c),(3,x3)] H Q:=by
 intro s
 induction s with
 | nil=>
  rintro k a H x3 hs hk ho hF f ht hQ
  obtain rfl:=drop_nil hs hk
  have R:=hQ H x3 hF (by simpa [ig] using f)
  refine p6 _ _ _ _ _ _ λg=>?_
  clear hQ
  simp[ai, *,jy,m.r,G]
  refine p7 _ _ _ _ _ λg=>?_
  simp[ai, *,mg]
  all_goals exact R
 | cons n s Z=>
  rintro k a H x3 hs hk ho hF f ht hQ
  obtain⟨hlt,hg,N,L⟩:=drop_cons hs
  have e1:=IntWalk.i64_in ((k:Int)+1) (by omega)
  have o:(k:Int)<w:=by omega
  have hI:=RM v d u b w z A B C (k:Int) m
  have hB:=NC v d u b w z A B C (k:Int) m (by omega) (by omega)
  have y:cm (rows l) k 0 1 false=some (aR n):=by simp[cm,rows,L,aR,AV.cells]
  have j:=λH' S h1 h2 f=>Z (k+1) (a++[⟨⟨⟨v,d,u⟩,IntKind.i64.wrap (b+(k:Int))⟩,if k=0 then ⟨⟨z,A,B⟩,C⟩ else ⟨⟨v,d,u⟩,IntKind.i64.wrap (b+((k:Int) - 1))⟩,n⟩]) H' S N (by omega) (by simp[ho]) h1 h2 f
   (λU V g1 g2=>hQ U V g1 (by simpa [ig] using g2))
  have i:=rD a
  rw[ho]at i
  rw[show((k+1:Nat):Int)=(k:Int)+1 from by omega]at j
  have J : ∀e:JN,mM (a++[e])=mM a++[e.enc]:=λe=>by simp[mM]
  simp only[J,JN.enc]at j
  have M:(rows l).length=l.length:=by simp
  have hlk:(k:Int)<l.length:=by omega
  generalize K:(if k=0 then (⟨⟨z,A,B⟩,C⟩:bV) else ⟨⟨v,d,u⟩,IntKind.i64.wrap (b+((k:Int) - 1))⟩)=bq at *
  have P:ak env 237 [.agg [a8 v,ae d,a8 u,aI b,aI w,a8 z,ae A,a8 B,aI C,x],aI k]=some (.agg [a8 bq.h.lv,ae bq.h.cats,a8 bq.h.num,aI bq.n]):=by
   rw[hB,<-K]
   by_cases Y:k=0
   ·subst Y;simp
   ·have W : ¬(k:Int)=0:=by omega
    rw[if_neg Y,if_neg W]
  clear Z hQ hs N hg L ho J hB K
  generalize mM a=eo at *
  generalize rows l=rl at *
  have X:(k:Int)<l.length:=by omega
  have hk0:(0:Int)<=k:=by omega
  refine p6 _ _ _ _ _ _ λg=>?_
  rcases f with ⟨rfl,f⟩ | ⟨t,rfl,f⟩
  ·subst f
   clear i
   simp[ai, *,jy,m.r,m.idx,hI,P,y,o,M]
   refine j _ (.cG ⟨0,45,H.gen 0 45,0⟩ 0 1 none) ?_ (.inr ⟨⟨0,45,H.gen 0 45,0⟩,rfl,?_⟩) (λq T=>by cases T;rfl)
   ·simp(maxDischargeDepth:=12) [ek, *]
   ·simp(maxDischargeDepth:=12) [ek, *]
  ·have O:=ht t rfl
   obtain⟨I,tt,tg,tk⟩:=t
   simp only at O
   subst O
   have f6:nx 9 56 k true none (some ⟨9,eo,true,false⟩) (some [.agg [a8 v,ae d,a8 u,aI (IntKind.i64.wrap (b+(k:Int))),a8 bq.h.lv,ae bq.h.cats,a8 bq.h.num,aI bq.n,aR n]]):=by
    simp;omega
   have l8:(H.get ⟨I,45,tg,tk⟩).isSome=true:=by rw[f];rfl
   simp[ai, *,jy,m.r,m.idx,hI,P,y,o,M,hF,l8,f,f6,i,aa.get_put]
   refine j _ (.cG ⟨I,45,H.gen I 45,0⟩ 0 (k+1) none) ?_ (.inr ⟨⟨I,45,H.gen I 45,0⟩,by simp[i],?_⟩) (λq T=>by cases T;rfl)
   ·simp(maxDischargeDepth:=12) [ek, *]
   ·simp(maxDischargeDepth:=12) [ek, *]
theorem Vm : ∃y,ak env 221 [.cD 10 [.agg [a8 v,ae d,a8 u,aI b,aI w,a8 z,ae A,a8 B,aI C,x]] c]=some y/\Sl 9 (mM (ig ⟨⟨⟨v,d,u⟩,b⟩,w⟩ ⟨⟨z,A,B⟩,C⟩ l 0)) y:=by
 refine zq (fn:=Tryz.f221) (c:=Az) (by kernel_rfl) (by kernel_rfl) (by kernel_rfl) (by kernel_rfl) (by kernel_rfl) ?_
 refine zX _ _ _ λg=>?_
 simp[ai, *,s7]
 refine p7 _ _ _ _ _ λg=>?_
 simp[ai, *,mg]
 refine Rp v d u b w z A B C m G F l 0 [] [] ba rfl (by omega) (by simp) Fr.nil (.inl ⟨rfl,rfl⟩) (λq a=>by cases a) (λH' i f h=>?_)
 rw[w9]at h
 have e:=rD (ig ⟨⟨⟨v,d,u⟩,b⟩,w⟩ ⟨⟨z,A,B⟩,C⟩ l 0)
 generalize mM (ig ⟨⟨⟨v,d,u⟩,b⟩,w⟩ ⟨⟨z,A,B⟩,C⟩ l 0)=ee at *
 rcases h with ⟨rfl,h⟩ | ⟨r,rfl,h⟩
 ·simp[h]
 ·simp[h]
end
theorem abC{l:List (aC × AV)}{k:Nat}{p:aC × AV}(h:l[k]?=some p)(j n:Nat)(a:Bool):cm (cF l) k j n a=cm [Aw p] 0 j n a:=by
 simp[cm,cF,h]
def qK(o:aC):List JN:=if o.kind=1 then ig o.s o.a o.l 0 else []
def eW(l:List (aC × AV)):List JN:=l.flatMap λp=>qK p.1
structure aa5 (p:aC × AV):Prop where
 x:Sl 1 (rows p.1.l) p.2
 n:p.1.kind=1->(p.1.l.length:Int)=p.1.s.many/\p.1.l.length<100/\0<p.1.l.length
section
variable{ops:List (aC × AV)}{x0:AV}(m:Sl 17 (cF ops) x0)(F:ops.length<10000)(D : ∀p∈ops,aa5 p)
include m F D
theorem Tu{Q:AV->aa->Prop} : ∀(s:List (aC × AV)) (k:Nat) (outs:List JN) (H:aa) (x3:AV),ops.drop k=s->k<=ops.length->outs.length<=100 * k->Fr H->Own 9 (mM outs) H x3->(∀q,x3.at?=some q->q.t=38) ->
 (∀H' x',Fr H'->Own 9 (mM (outs++eW s)) H' x'->Q x' H') ->
 bF env Tryz.f195 0 fI [(4,aI k),(3,x3),(0,x0)] H Q:=by
 intro s
 induction s with
 | nil=>
  rintro k outs H x3 hs hk ho hF j ht hQ
  obtain rfl:=drop_nil hs hk
  have L:=jN ops
  have hfin:=hQ H x3 hF (by simpa [eW] using j)
  refine iK _ _ _ _ _ λg=>?_
  clear hQ
  simp[ai, *,fL,m.r]
  all_goals exact hfin
 | cons p s ih=>
  rintro k outs H x3 hs hk ho hF j ht hQ
  obtain⟨hlt,hg,J,W⟩:=drop_cons hs
  have e1:=IntWalk.i64_in ((k:Int)+1) (by omega)
  have L:=jN ops
  have N:=rD outs
  have I:(k:Int)<ops.length:=by omega
  have f:=abC W
  have V:=D p (hg ▸ mq hlt)
  by_cases hd:p.1.kind=1
  ·obtain⟨hn1,K,hn3⟩:=V.n hd
   have i:=λH' x' h1 h2 j=>ih (k+1) (outs++ig p.1.s p.1.a p.1.l 0) H' x' J (by omega) (by rw[pH,EC];omega) h1 h2 j (λU X g1 g2=>hQ U X g1 (by rw[show eW (p :: s)=ig p.1.s p.1.a p.1.l 0++eW s from by simp[eW,qK,hd]];simpa using g2))
   have h:(mM (ig p.1.s p.1.a p.1.l 0)).length=p.1.l.length:=by rw[rD,EC]
   have P:mM (ig p.1.s p.1.a p.1.l 0)≠[]:=λe=>by rw[e]at h;simp at h;omega
   rw[show((k+1:Nat):Int)=(k:Int)+1 from by omega,show mM (outs++ig p.1.s p.1.a p.1.l 0)=mM outs++mM (ig p.1.s p.1.a p.1.l 0) from by simp[mM]]at i
   clear ih hQ hs J hg W D
   obtain⟨⟨k1,⟨a2,a3,a4⟩,a5,⟨⟨⟨a6,a7,M⟩,a9⟩,Y⟩,⟨⟨S,Z,T⟩,R⟩,⟨a15,a16⟩,al⟩,x⟩:=p
   subst hd
   obtain⟨y,hA,hy⟩:=Vm a6 a7 M a9 Y S Z T R (c:=some 1) V.x hn1 (Nat.lt_trans K (by decide))
   have o:=V.x
   simp only at i h P o f
   simp only[Aw]at f
   generalize mM (ig ⟨⟨⟨a6,a7,M⟩,a9⟩,Y⟩ ⟨⟨S,Z,T⟩,R⟩ al 0)=en at *
   generalize cF ops=er at *
   generalize mM outs=eo at *
   obtain⟨cy,rfl,hcy⟩:=hy.YU P
   have hbn:en.length * 56<=bn:=by simp only[h,bn];simp only at K;omega
   have hbo:(eo.length+en.length) * 56<=bn:=by simp only[h,N,bn];simp only at K;omega
   rcases j with ⟨rfl,j⟩ | ⟨t,rfl,j⟩
   ·subst j
    clear N hbo
    refine iK _ _ _ _ _ λg=>?_
    simp[ai, *,fL,m.r,m.idx,I,L,f,o.r,hA, -aM, -aN]
    refine⟨by simp only at K;omega,i _ (.cG ⟨0,38,H.gen 0 38,0⟩ 0 al.length none) ?_ (.inr ⟨⟨0,38,H.gen 0 38,0⟩,by simp[h],?_⟩) (λq hq=>by cases hq;rfl)⟩
    ·simp(maxDischargeDepth:=12) [ek, *]
    ·simp(maxDischargeDepth:=12) [ek, *]
   ·have e28:=ht t rfl
    obtain⟨O,tt,tg,tk⟩:=t
    simp only at e28
    subst e28
    refine iK _ _ _ _ _ λg=>?_
    simp[ai, *,fL,m.r,m.idx,I,L,f,o.r,hA, -aM, -aN]
    have hne5 : ¬(⟨0,5,H.gen 0 5,0⟩:Ref)=⟨O,38,tg,tk⟩:=λe=>by cases e
    have hne36 : ¬(⟨0,36,H.gen 0 36,0⟩:Ref)=⟨O,38,tg,tk⟩:=λe=>by cases e
    refine FH (Pf (fz:=false) (by simp) (by simp) _ _ _ _ (hy.K5 _) (es:=eo) ?_ N.symm P hbo) ?_
    ·simp[j]
    ·have l8:(H.get ⟨O,38,tg,tk⟩).isSome=true:=by rw[j];rfl
     simp[hF,l8,j,aa.get_put,e1]
     refine i _ (.cG ⟨O,38,H.gen O 38,0⟩ 0 (eo.length+en.length) none) ?_ (.inr ⟨⟨O,38,H.gen O 38,0⟩,by simp,?_⟩) (λq hq=>by cases hq;rfl)
     ·simp(maxDischargeDepth:=12) [ek, *]
     ·simp(maxDischargeDepth:=12) [ek, *]
  ·have i:=ih (k+1) outs H x3 J (by omega) (by omega) hF j ht (λU X g1 g2=>hQ U X g1 (by rw[show eW (p :: s)=eW s from by simp[eW,qK,hd]];exact g2))
   rw[show((k+1:Nat):Int)=(k:Int)+1 from by omega]at i
   clear ih hQ hs J hg W D
   obtain⟨⟨k1,⟨a2,a3,a4⟩,a5,⟨⟨⟨a6,a7,M⟩,a9⟩,Y⟩,⟨⟨S,Z,T⟩,R⟩,⟨a15,a16⟩,al⟩,x⟩:=p
   simp only at hd
   simp only[Aw]at f
   generalize cF ops=er at *
   refine iK _ _ _ _ _ λg=>?_
   simp[ai, *,fL,m.r,m.idx,I,L,f,hd]
theorem S4 : ∃y,ak env 195 [x0]=some y/\Sl 9 (mM (eW ops)) y:=by
 refine zq (fn:=Tryz.f195) (c:=zG) (by kernel_rfl) (by kernel_rfl) (by kernel_rfl) (by kernel_rfl) (by kernel_rfl) ?_
 refine yX _ _ _ λg=>?_
 simp[ai, *,rJ]
 refine Tu m F D ops 0 [] [] ba rfl (by omega) (by simp) Fr.nil (.inl ⟨rfl,rfl⟩) (λq a=>by cases a) (λH' i f h=>?_)
 rw[w9]at h
 have e:=rD (eW ops)
 generalize mM (eW ops)=ee at *
 rcases h with ⟨rfl,h⟩ | ⟨r,rfl,h⟩
 ·simp[h]
 ·simp[h]
end
end
section
section
variable{us:List Clear}{qs:List ah}{gr:Int}{l:List (bW × AV)}(a:l.length<2048)
include a
end
end
section
attribute [local simp] aG ay aw aF aE bQ gX aM aA aD bI bH bn aN aj bf fe zR
structure B4 (p:aC × AV):Prop where
 x:Sl 1 (rows p.1.l) p.2
 may:lT p.1=true
 rng:qR p.1.l
theorem Eh{o:aC}(h:lT o=true):o.l.length<=64:=by
 have S:=kU h
 have e:=gI S
 simp only[lT,aY,C9]at h
 have a:=h.2.2.2.2
 split at a
 ·simp only[I7,aY,decide_eq_true_eq]at a
  have:=a.2.2.2.1
  omega
 ·split at a
  ·simp only[O5,zI,aY,decide_eq_true_eq]at a
   rw[a.2.2];simp
  ·split at a
   ·simp only[LY,zI,aY,decide_eq_true_eq]at a
    rw[a.1.2];simp
   ·exact absurd a (by decide)
theorem B4.ins{p:aC × AV}(h:B4 p):aa5 p:=by
 refine⟨h.x,λe=>?_⟩
 have T:=Eh h.may
 have f:=gI (kU h.may)
 have h:=h.may
 simp only[lT,aY,C9,e,if_true]at h
 have a:=h.2.2.2.2
 simp only[I7,aY,decide_eq_true_eq]at a
 have:=a.2.2.2.1
 exact⟨this,by omega,by omega⟩
theorem B4.ok{p:aC × AV}(h:B4 p):J8 p:=⟨h.x,by have:=Eh h.may;omega⟩
theorem V9{l:List (aC × AV)}(h : ∀p∈l,B4 p):(eW l).length<=64 * l.length:=by
 induction l with
 | nil=>simp[eW]
 | cons p l a=>
  have f:=a λq e=>h q (iA _ e)
  have hp:=Eh (h p jB).may
  have:(qK p.1).length<=64:=by
   unfold qK
   split
   ·rw[EC];exact hp
   ·simp
  rw[show eW (p :: l)=qK p.1++eW l from by simp[eW],pH,sc]
  omega
def uK(u:List JN)(o:aC)(i:bV):Bool:=decide (i∈u.map (·.i))&&qS ⟨i.h.lv,i.h.cats⟩ ⟨o.h.lv,o.h.cats⟩
def EB(ops:List (aC × AV))(o:aC):Int:=
 if (o.kind=2 /\¬(o.s.f.h.lv=o.h.lv/\o.s.f.h.cats=o.h.cats))\/(o.kind=3/\kZ (opsOf ops) o=false) then 2 else if 2048<=ops.length then 4 else 0
def TI(ops:List (aC × AV))(u:List JN)(o:aC)(v:List bV):Int:=
 if v.any (λi=>decide (i∈u.map (·.i)))=true then 2 else if 8192<(u.length:Int)+v.length then 4 else EB ops o
def N9(ops:List (aC × AV))(u:List JN)(o:aC)(v:List bV):Int:=
 if v.any (λi => !uK u o i)=true then 6 else EB ops o
def Kc(ops:List (aC × AV))(u:List JN)(o:aC)(v:List bV):Int:=
 if o.kind=1 then (if o.a≠rZ/\uK u o o.a=false then 6 else if zh ⟨o.s,o.a,o.l⟩=false then 2 else TI ops u o v) else N9 ops u o v
section
variable{ops:List (aC × AV)}{x0:AV}(O:Sl 17 (cF ops) x0)(T:ops.length<10000)(L : ∀p∈ops,B4 p)
variable{u:List JN}{U:AV}(N:Sl 9 (mM u) U)(P:u.length<1000000)
variable{v:List bV}{W:AV}(M:Sl 4 (mv v) W)(R:v.length<100000)
variable(G:UInt8)(E:UInt8)(F:UInt32)(K:UInt8)(J:Int)(A:UInt8)(B:UInt32)(C:UInt8)(D:Int)(b:Int)(d:UInt8)(c:UInt32)(j:UInt8)(t:Int)(z:UInt8)(w:UInt32){al:List Int}{x:AV}(I:Sl 1 (rows al) x)(S:eJ ⟨⟨⟨A,B,C⟩,D⟩,b⟩=true)
include O T L N P M R I S
theorem Sf{r3:Ref}{H:aa}(h3:H.get r3=some ⟨17,[.agg [a8 G,a8 E,ae F,a8 K,aI J,a8 A,ae B,a8 C,aI D,aI b,a8 d,ae c,a8 j,aI t,a8 z,ae w,x]],false,false⟩){Q:AV->aa->Prop}(k:Nat)(hk:G=1\/k=v.length)(hk':k<=v.length)
 (hQ : ∀y,y=aI (EB ops (⟨G,⟨E,F,K⟩,J,⟨⟨⟨A,B,C⟩,D⟩,b⟩,⟨⟨d,c,j⟩,t⟩,⟨z,w⟩,al⟩:aC))->Q y H) :
 bF env Tryz.f142 0 dB [(8,aI k),(3,.ptr r3 0 0),(6,W),(5,U),(0,x0)] H Q:=by
 have hR:=SX O (λp hp=>(L p hp).ok) (λp hp=>kU (L p hp).may) (by omega) G E F K J A B C D b d c j t z w I S
 have hgo : ∀e:EB ops (⟨G,⟨E,F,K⟩,J,⟨⟨⟨A,B,C⟩,D⟩,b⟩,⟨⟨d,c,j⟩,t⟩,⟨z,w⟩,al⟩:aC)=EB ops (⟨G,⟨E,F,K⟩,J,⟨⟨⟨A,B,C⟩,D⟩,b⟩,⟨⟨d,c,j⟩,t⟩,⟨z,w⟩,al⟩:aC),True:=λ_=>trivial
 clear hgo
 have m:=jN ops
 have l:=zB v
 have f : ∀n,n=EB ops (⟨G,⟨E,F,K⟩,J,⟨⟨⟨A,B,C⟩,D⟩,b⟩,⟨⟨d,c,j⟩,t⟩,⟨z,w⟩,al⟩:aC)->Q (aI n) H:=λn e=>hQ _ (by rw[e])
 clear hQ L
 have q:((k:Int)<v.length)->G=1:=λh=>hk.resolve_right (by omega)
 unfold EB at f
 simp only at f
 generalize kZ (opsOf ops) (⟨G,⟨E,F,K⟩,J,⟨⟨⟨A,B,C⟩,D⟩,b⟩,⟨⟨d,c,j⟩,t⟩,⟨z,w⟩,al⟩:aC)=fb at *
 have hkt:((k:Int)<v.length) \/¬((k:Int)<v.length):=Classical.em _
 refine nZ _ _ _ _ _ _ _ λg=>?_
 by_cases k1:G=1
 ·subst k1
  simp only[show ¬((1:UInt8)=2) from by decide,show ¬((1:UInt8)=3) from by decide,false_and,or_self,if_false]at f
  clear q hk
  rcases hkt with Y | Y
  ·by_cases Z:2048<=ops.length
   ·have i:(2048:Int)<=ops.length:=by omega
    have a:=f 4 (by rw[if_pos Z])
    clear f
    simp[ai, *,aJ,h3,O.r,M.r,N.r,I.r,hR,m,l,Y,i]
    all_goals exact a
   ·have i : ¬(2048:Int)<=ops.length:=by omega
    have a:=f 0 (by rw[if_neg Z])
    clear f
    simp[ai, *,aJ,h3,O.r,M.r,N.r,I.r,hR,m,l,Y,i]
    all_goals exact a
  ·by_cases Z:2048<=ops.length
   ·have i:(2048:Int)<=ops.length:=by omega
    have a:=f 4 (by rw[if_pos Z])
    clear f
    simp[ai, *,aJ,h3,O.r,M.r,N.r,I.r,hR,m,l,Y,i]
    all_goals exact a
   ·have i : ¬(2048:Int)<=ops.length:=by omega
    have a:=f 0 (by rw[if_neg Z])
    clear f
    simp[ai, *,aJ,h3,O.r,M.r,N.r,I.r,hR,m,l,Y,i]
    all_goals exact a
 ·have Y : ¬((k:Int)<v.length):=λh=>k1 (q h)
  clear hkt q hk
  by_cases k2:G=2
  ·subst k2
   simp only[show ¬((2:UInt8)=3) from by decide,false_and,or_false,true_and]at f
   by_cases o:A=E
   ·by_cases hct:B=F
    ·by_cases Z:2048<=ops.length
     ·have i:(2048:Int)<=ops.length:=by omega
      have a:=f 4 (by rw[if_neg (λh=>h ⟨o,hct⟩),if_pos Z])
      clear f
      simp[ai, *,aJ,h3,O.r,M.r,N.r,I.r,hR,m,l,Y,i,o,hct,fw,bM]
      all_goals exact a
     ·have i : ¬(2048:Int)<=ops.length:=by omega
      have a:=f 0 (by rw[if_neg (λh=>h ⟨o,hct⟩),if_neg Z])
      clear f
      simp[ai, *,aJ,h3,O.r,M.r,N.r,I.r,hR,m,l,Y,i,o,hct,fw,bM]
      all_goals exact a
    ·have a:=f 2 (by rw[if_pos (λh=>hct h.2)])
     clear f
     simp[ai, *,aJ,h3,O.r,M.r,N.r,I.r,hR,m,l,Y,o,hct,fw,bM]
     all_goals exact a
   ·have a:=f 2 (by rw[if_pos (λh=>o h.1)])
    clear f
    simp[ai, *,aJ,h3,O.r,M.r,N.r,I.r,hR,m,l,Y,o,fw,bM]
    all_goals exact a
  ·by_cases k3:G=3
   ·subst k3
    simp only[show ¬((3:UInt8)=2) from by decide,false_and,false_or,true_and]at f
    cases fb with
    | false=>
     have a:=f 2 (by simp)
     clear f
     simp[ai, *,aJ,h3,O.r,M.r,N.r,I.r,hR,m,l,Y]
     all_goals exact a
    | true=>
     by_cases Z:2048<=ops.length
     ·have i:(2048:Int)<=ops.length:=by omega
      have a:=f 4 (by simp[Z])
      clear f
      simp[ai, *,aJ,h3,O.r,M.r,N.r,I.r,hR,m,l,Y,i]
      all_goals exact a
     ·have i : ¬(2048:Int)<=ops.length:=by omega
      have a:=f 0 (by simp[Z])
      clear f
      simp[ai, *,aJ,h3,O.r,M.r,N.r,I.r,hR,m,l,Y,i]
      all_goals exact a
   ·simp only[k2,k3,false_and,or_self,if_false]at f
    by_cases Z:2048<=ops.length
    ·have i:(2048:Int)<=ops.length:=by omega
     have a:=f 4 (by rw[if_pos Z])
     clear f
     simp[ai, *,aJ,h3,O.r,M.r,N.r,I.r,hR,m,l,Y,i,k1,k2,k3]
     all_goals exact a
    ·have i : ¬(2048:Int)<=ops.length:=by omega
     have a:=f 0 (by rw[if_neg Z])
     clear f
     simp[ai, *,aJ,h3,O.r,M.r,N.r,I.r,hR,m,l,Y,i,k1,k2,k3]
     all_goals exact a
theorem acN{r3:Ref}{H:aa}(h3:H.get r3=some ⟨17,[.agg [a8 G,a8 E,ae F,a8 K,aI J,a8 A,ae B,a8 C,aI D,aI b,a8 d,ae c,a8 j,aI t,a8 z,ae w,x]],false,false⟩)(k1 : ¬G=1){Q:AV->aa->Prop} : ∀(s:List bV)(k:Nat),v.drop k=s->k<=v.length ->
 (∀y,y=aI (N9 ops u (⟨G,⟨E,F,K⟩,J,⟨⟨⟨A,B,C⟩,D⟩,b⟩,⟨⟨d,c,j⟩,t⟩,⟨z,w⟩,al⟩:aC) s)->Q y H) ->
 bF env Tryz.f142 0 dB [(8,aI k),(3,.ptr r3 0 0),(6,W),(5,U),(0,x0)] H Q:=by
 intro s
 induction s with
 | nil=>
  rintro k hs' hk hQ
  have hk':k=v.length:=by have:=congrArg List.length hs';simp at this;omega
  exact Sf O T L N P M R G E F K J A B C D b d c j t z w I S h3 k (.inr hk') hk (λy e=>hQ y (by rw[e];simp[N9]))
 | cons i s ih=>
  rintro k hs' hk hQ
  obtain⟨hlt,hg,m,hg'⟩:=drop_cons hs'
  have e1:=IntWalk.i64_in ((k:Int)+1) (by omega)
  have q:=KB N P i.h.lv i.h.cats i.h.num i.n E F
  have hRl:=jN ops
  have h6l:=zB v
  have l:(k:Int)<v.length:=by omega
  have Z:cm (mv v) k 0 4 true=some (.agg [a8 i.h.lv,ae i.h.cats,a8 i.h.num,aI i.n]):=by simp[cm,mv,WY,hg']
  have hss:(decide ((⟨⟨i.h.lv,i.h.cats,i.h.num⟩,i.n⟩:bV)∈u.map (·.i))&&qS ⟨i.h.lv,i.h.cats⟩ ⟨E,F⟩)=uK u (⟨G,⟨E,F,K⟩,J,⟨⟨⟨A,B,C⟩,D⟩,b⟩,⟨⟨d,c,j⟩,t⟩,⟨z,w⟩,al⟩:aC) i:=rfl
  rw[hss]at q
  have o:=ih (k+1) m (by omega)
  rw[show((k+1:Nat):Int)=(k:Int)+1 from by omega]at o
  have a:=λ(h:uK u (⟨G,⟨E,F,K⟩,J,⟨⟨⟨A,B,C⟩,D⟩,b⟩,⟨⟨d,c,j⟩,t⟩,⟨z,w⟩,al⟩:aC) i=true)=>o (λy e=>hQ y (by rw[e];simp[N9,h]))
  have Y:=λ(h:uK u (⟨G,⟨E,F,K⟩,J,⟨⟨⟨A,B,C⟩,D⟩,b⟩,⟨⟨d,c,j⟩,t⟩,⟨z,w⟩,al⟩:aC) i=false)=>hQ (aI 6) (by simp[N9,h])
  clear ih o hQ hss hs' m hg hg' L
  generalize uK u (⟨G,⟨E,F,K⟩,J,⟨⟨⟨A,B,C⟩,D⟩,b⟩,⟨⟨d,c,j⟩,t⟩,⟨z,w⟩,al⟩:aC) i=sb at *
  generalize mv v=ej at *
  refine nZ _ _ _ _ _ _ _ λg=>?_
  cases sb with
  | true=>
   have f:=a rfl
   clear a Y
   simp[ai, *,aJ,h3,O.r,M.r,M.idx,N.r,I.r,q,h6l,l,Z,k1]
   all_goals exact f
  | false=>
   have f:=Y rfl
   clear a Y
   simp[ai, *,aJ,h3,O.r,M.r,M.idx,N.r,I.r,q,h6l,l,Z,k1]
   all_goals exact f
theorem ahz{r3:Ref}{H:aa}(h3:H.get r3=some ⟨17,[.agg [a8 G,a8 E,ae F,a8 K,aI J,a8 A,ae B,a8 C,aI D,aI b,a8 d,ae c,a8 j,aI t,a8 z,ae w,x]],false,false⟩)(k1:G=1){Q:AV->aa->Prop} : ∀(s:List bV)(k:Nat),v.drop k=s->k<=v.length ->
 (∀y,y=aI (if s.any (λi=>decide (i∈u.map (·.i)))=true then 2 else if 8192<(u.length:Int)+v.length then 4 else EB ops (⟨G,⟨E,F,K⟩,J,⟨⟨⟨A,B,C⟩,D⟩,b⟩,⟨⟨d,c,j⟩,t⟩,⟨z,w⟩,al⟩:aC))->Q y H) ->
 bF env Tryz.f142 0 gZ [(7,aI k),(6,W),(5,U),(3,.ptr r3 0 0),(0,x0)] H Q:=by
 intro s
 induction s with
 | nil=>
  rintro k hs' hk hQ
  have hk':k=v.length:=by have:=congrArg List.length hs';simp at this;omega
  have o:=λhq=>Sf O T L N P M R G E F K J A B C D b d c j t z w I S h3 0 (.inl k1) (EY _) (Q:=Q) hq
  have hRl:=jN ops
  have f:=zB v
  have h5l:=rD u
  have e1:=IntWalk.i64_in ((u.length:Int)+(v.length:Int)) (by omega)
  have hb:((8192:Int)<(u.length:Int)+v.length) \/¬((8192:Int)<(u.length:Int)+v.length):=Classical.em _
  have Y : ¬((k:Int)<v.length):=by omega
  simp only[List.any_nil,mr,if_false]at hQ
  clear L hk'
  refine oM _ _ _ _ _ _ _ λg=>?_
  rcases hb with hb | hb
  ·have a:=hQ (aI 4) (by rw[if_pos hb])
   clear hQ o
   simp[ai, *,fp,h3,O.r,M.r,N.r,f,h5l,Y,e1,hb]
   all_goals exact a
  ·have a:=o (λy e=>hQ y (by rw[if_neg hb];exact e))
   clear hQ o
   simp[ai, *,fp,h3,O.r,M.r,N.r,f,h5l,Y,e1,hb]
   all_goals exact a
 | cons i s ih=>
  rintro k hs' hk hQ
  obtain⟨hlt,hg,Z,hg'⟩:=drop_cons hs'
  have e1:=IntWalk.i64_in ((k:Int)+1) (by omega)
  have hW:=IF N P i.h.lv i.h.cats i.h.num i.n
  have hi:=Jb i u 0
  have hRl:=jN ops
  have f:=zB v
  have q:(k:Int)<v.length:=by omega
  have hrd:cm (mv v) k 0 4 true=some (.agg [a8 i.h.lv,ae i.h.cats,a8 i.h.num,aI i.n]):=by simp[cm,mv,WY,hg']
  have hss:Db (⟨⟨i.h.lv,i.h.cats,i.h.num⟩,i.n⟩:bV) u 0=Db i u 0:=rfl
  rw[hss]at hW
  have hnx:=ih (k+1) Z (by omega)
  rw[show((k+1:Nat):Int)=(k:Int)+1 from by omega]at hnx
  have l:=λ(h:0<=Db i u 0)=>hQ (aI 2) (by rw[Hq,decide_eq_true (hi.1 h)];simp)
  have hno:=λ(h : ¬0<=Db i u 0)=>hnx (λy e=>hQ y (by rw[e,Hq,decide_eq_false (λm=>h (hi.2 m)),E1]))
  clear ih hnx hQ hss hs' Z hg hg' L hi
  generalize Db i u 0=n at *
  generalize mv v=ej at *
  refine oM _ _ _ _ _ _ _ λg=>?_
  by_cases hn:0<=n
  ·have a:=l hn
   clear l hno
   simp[ai, *,fp,h3,O.r,M.r,M.idx,N.r,I.r,hW,f,q,hrd,hn]
   all_goals exact a
  ·have a:=hno hn
   clear l hno
   simp[ai, *,fp,h3,O.r,M.r,M.idx,N.r,I.r,hW,f,q,hrd,hn]
   all_goals exact a
end
section
variable{ops:List (aC × AV)}{x0:AV}(O:Sl 17 (cF ops) x0)(T:ops.length<10000)(L : ∀p∈ops,B4 p)
variable(G:UInt8)(E:UInt8)(F:UInt32)(K:UInt8)(J:Int)(A:UInt8)(B:UInt32)(C:UInt8)(D:Int)(b:Int)(d:UInt8)(c:UInt32)(j:UInt8)(t:Int)(z:UInt8)(w:UInt32){al:List Int}{x:AV}(I:Sl 1 (rows al) x)(S:eJ ⟨⟨⟨A,B,C⟩,D⟩,b⟩=true)(V:qR al)(X:al.length<100000)
include O T L I S V X
theorem Ql:ak env 142 [x0,.agg [a8 G,a8 E,ae F,a8 K,aI J,a8 A,ae B,a8 C,aI D,aI b,a8 d,ae c,a8 j,aI t,a8 z,ae w,x]]=some (aI (Kc ops (eW ops) (⟨G,⟨E,F,K⟩,J,⟨⟨⟨A,B,C⟩,D⟩,b⟩,⟨⟨d,c,j⟩,t⟩,⟨z,w⟩,al⟩:aC) (fg ⟨⟨⟨A,B,C⟩,D⟩,b⟩ b.toNat 0))):=by
 obtain⟨U,Y,N⟩:=S4 O T (λp hp=>(L p hp).ins)
 have P:(eW ops).length<1000000:=by have:=V9 L;omega
 have Z:=Vh A B C D b S
 have M:=pr 4 (mv (fg ⟨⟨⟨A,B,C⟩,D⟩,b⟩ b.toNat 0))
 have hn:=gI S
 simp only at hn
 have hlen:=Gi ⟨⟨⟨A,B,C⟩,D⟩,b⟩ b.toNat 0
 have R:(fg ⟨⟨⟨A,B,C⟩,D⟩,b⟩ b.toNat 0).length<100000:=by omega
 have q:=Vn A B C D b d c j t I (by omega) V
 have l:=KB N P d c j t E F
 have hss:(decide ((⟨⟨d,c,j⟩,t⟩:bV)∈(eW ops).map (·.i))&&qS ⟨d,c⟩ ⟨E,F⟩)=uK (eW ops) (⟨G,⟨E,F,K⟩,J,⟨⟨⟨A,B,C⟩,D⟩,b⟩,⟨⟨d,c,j⟩,t⟩,⟨z,w⟩,al⟩:aC) ⟨⟨d,c,j⟩,t⟩:=rfl
 rw[hss]at l
 clear hss hlen hn
 generalize fg ⟨⟨⟨A,B,C⟩,D⟩,b⟩ b.toNat 0=v at *
 generalize m8 4 (mv v)=W at *
 have k:=λ(r3:Ref)(H:aa) hB n Q=>ahz O T L N P M R G E F K J A B C D b d c j t z w I S (r3:=r3) (H:=H) hB n (Q:=Q) v 0 rfl (by omega)
 have f:=λ(r3:Ref)(H:aa) hB n Q=>acN O T L N P M R G E F K J A B C D b d c j t z w I S (r3:=r3) (H:=H) hB n (Q:=Q) v 0 rfl (by omega)
 generalize eW ops=u at *
 have hrl:zh (⟨⟨⟨⟨A,B,C⟩,D⟩,b⟩,⟨⟨d,c,j⟩,t⟩,al⟩:Rn)=zh (⟨⟨⟨⟨A,B,C⟩,D⟩,b⟩,⟨⟨d,c,j⟩,t⟩,al⟩:Rn):=rfl
 clear hrl
 generalize hE:Kc ops u (⟨G,⟨E,F,K⟩,J,⟨⟨⟨A,B,C⟩,D⟩,b⟩,⟨⟨d,c,j⟩,t⟩,⟨z,w⟩,al⟩:aC) v=en
 refine an rfl (by kernel_rfl) (xX _ _ _ _ λg=>?_)
 clear L
 by_cases n:G=1
 ·subst n
  have m:(⟨⟨d,c,j⟩,t⟩:bV)=rZ↔(((d=0/\c=0)/\j=0)/\t=0):=by simp[rZ,and_assoc]
  have a:en=if ¬(⟨⟨d,c,j⟩,t⟩:bV)=rZ/\uK u (⟨1,⟨E,F,K⟩,J,⟨⟨⟨A,B,C⟩,D⟩,b⟩,⟨⟨d,c,j⟩,t⟩,⟨z,w⟩,al⟩:aC) ⟨⟨d,c,j⟩,t⟩=false then 6 else if zh (⟨⟨⟨⟨A,B,C⟩,D⟩,b⟩,⟨⟨d,c,j⟩,t⟩,al⟩:Rn)=false then 2 else TI ops u (⟨1,⟨E,F,K⟩,J,⟨⟨⟨A,B,C⟩,D⟩,b⟩,⟨⟨d,c,j⟩,t⟩,⟨z,w⟩,al⟩:aC) v:=hE.symm
  clear hE f
  replace k:=λ(r3:Ref)(H:aa) hB Q=>k r3 H hB rfl Q
  generalize uK u (⟨1,⟨E,F,K⟩,J,⟨⟨⟨A,B,C⟩,D⟩,b⟩,⟨⟨d,c,j⟩,t⟩,⟨z,w⟩,al⟩:aC) ⟨⟨d,c,j⟩,t⟩=sb at *
  generalize zh (⟨⟨⟨⟨A,B,C⟩,D⟩,b⟩,⟨⟨d,c,j⟩,t⟩,al⟩:Rn)=rb at *
  by_cases hz:(((d=0/\c=0)/\j=0)/\t=0)
  ·rw[if_neg (λh=>h.1 (m.2 hz))]at a
   clear m
   obtain⟨⟨⟨rfl,rfl⟩,rfl⟩,rfl⟩:=hz
   cases rb with
   | false=>
    rw[if_pos rfl]at a
    subst a
    simp[ai, *,dA,O.r,I.r,Y,Z,q,N.r,M.r,fw,bM]
   | true=>
    rw[if_neg (by decide)]at a
    unfold TI at a
    simp[ai, *,dA,O.r,I.r,Y,Z,q,N.r,M.r,fw,bM]
    refine k _ _ (by simp) _ (λy e=>?_)
    subst e
    simp[a]
  ·have hzz : ¬(⟨⟨d,c,j⟩,t⟩:bV)=rZ:=λh=>hz (m.1 h)
   clear m
   have o:(!decide (d=0) || !decide (c=0) || !decide (j=0) || !decide (t=0))=true:=by
    rw[Hd]
    simp only[fv,dN,decide_eq_false_iff_not]
    constructor
    ·intro _;trivial
    ·intro _
     by_cases h1:d=0
     ·by_cases h2:c=0
      ·by_cases h3:j=0
       ·exact .inr λh4=>hz ⟨⟨⟨h1,h2⟩,h3⟩,h4⟩
       ·exact .inl (.inr h3)
      ·exact .inl (.inl (.inr h2))
     ·exact .inl (.inl (.inl h1))
   cases sb with
   | false=>
    rw[if_pos ⟨hzz,rfl⟩]at a
    subst a
    simp[ai, *,dA,O.r,I.r,Y,Z,q,N.r,M.r,l,o,fw,bM]
   | true=>
    rw[if_neg (λh=>absurd h.2 (by decide))]at a
    clear hzz
    cases rb with
    | false=>
     rw[if_pos rfl]at a
     subst a
     simp[ai, *,dA,O.r,I.r,Y,Z,q,N.r,M.r,l,o,fw,bM]
    | true=>
     rw[if_neg (by decide)]at a
     unfold TI at a
     simp[ai, *,dA,O.r,I.r,Y,Z,q,N.r,M.r,l,o,fw,bM]
     refine k _ _ (by simp) _ (λy e=>?_)
     subst e
     simp[a]
 ·have a:en=N9 ops u (⟨G,⟨E,F,K⟩,J,⟨⟨⟨A,B,C⟩,D⟩,b⟩,⟨⟨d,c,j⟩,t⟩,⟨z,w⟩,al⟩:aC) v:=by rw[<-hE];unfold Kc;rw[if_neg n]
  clear hE k
  replace f:=λ(r3:Ref)(H:aa) hB Q=>f r3 H hB n Q
  simp[ai, *,dA,O.r,I.r,Y,Z,q,N.r,M.r,n]
  refine f _ _ (by simp) _ (λy e=>?_)
  subst e
  simp[a]
end
end
section
attribute [local simp] aG ay aw aF aE bQ gX aM aA aD bI bH bn aN aj bf fe
def YX(o:aC):List bV:=fg o.s o.s.many.toNat 0
def Kd(l:List (bW × AV))(o:aC):Int:=Kc (lj l) (eW (lj l)) o (YX o)
def F3(l:List (bW × AV))(o:aC):wX:=tV ⟨o.h.lv,o.h.cats⟩ ⟨0,0,0⟩ l
def Iy(l:List (bW × AV))(o:aC):Pq:=gj o.h ⟨false,0,0⟩ l
def Eu(qs:List ah)(l:List (bW × AV))(o:aC):Int:=
 if Kd l o≠0 then Kd l o else if o.kind=1/\(la qs o.h.lv o.h.cats).cells<IntKind.i64.wrap ((F3 l o).cells+o.s.many) then 9 else 0
def BO(us:List Clear)(qs:List ah)(gr:Int)(l:List (bW × AV))(r:bW):Bool:=
 if r.kind=3 then decide (nw (fy us gr l).1 (fy us gr l).2 r.gu=0)
 else if r.kind=1 then !(Iy l r.op).o&&(eL (fy us gr l).1 r.user r.op.h.lv r.op.h.cats&&decide ((F3 l r.op).opens<(la qs r.op.h.lv r.op.h.cats).opens))
 else (Iy l r.op).o&&(eL (fy us gr l).1 (Iy l r.op).u r.op.h.lv r.op.h.cats&&(decide (r.op.serial=IntKind.i64.wrap ((Iy l r.op).s+1))&&(decide ((F3 l r.op).ops<(la qs r.op.h.lv r.op.h.cats).ops)&&decide (r.code=Eu qs l r.op))))
structure AL (p:bW × AV):Prop where
 x:Sl 1 (rows p.1.op.l) p.2
 rng:qR p.1.op.l
 may:ew p.1=true
theorem zj{r:bW}(h:ew r=true)(k:r.kind=2):lT r.op=true:=by
 simp only[ew,k,show ¬((2:UInt8)=1) from by decide,if_false,if_true,aY]at h
 exact h.2.1
theorem TW{l:List (bW × AV)}(h : ∀p∈l,AL p) : ∀p∈lj l,B4 p:=by
 intro p hp
 unfold lj at hp
 obtain⟨q,b,rfl⟩:=vd.1 hp
 obtain⟨b,c⟩:=Hw.1 b
 simp only[isDone,aY,decide_eq_true_eq]at c
 exact⟨(h q b).x,zj (h q b).may c.1,(h q b).rng⟩
theorem O2(l:List (bW × AV)):(lj l).length<=l.length:=by
 unfold lj;rw[uD];exact PO _ _
theorem IW(us:List Clear)(gr:Int)(l:List (bW × AV)):(fy us gr l).1.length=us.length:=by
 induction l generalizing us gr with
 | nil=>rfl
 | cons p l c=>
  rw[fy]
  split
  ·rw[c,Lj]
  ·exact c _ _
section
variable{l:List (bW × AV)}{m:AV}(d:Sl 24 (bu l) m)(A:l.length<10000)(a : ∀p∈l,AL p)
variable{z t:AV}{us:List Clear}{qs:List ah}{gr:Int}(f:Sl 3 (bR us) z)(b:Sl 5 (bL qs) t)(i:qs.length<1000)(j:us.length<1000)
include d A a f b i j
theorem F7(D:UInt8)(o:UInt8)(k:UInt32)(J:UInt8)(I:Int)(E:UInt8)(H:UInt32)(F:UInt8)(G:Int)(c:Int)(w:UInt8)(u:UInt32)(B:UInt8)(q:Int)(C:UInt8)(v:UInt32){x:AV}{al:List Int}(K:Sl 1 (rows al) x)(hs:eJ ⟨⟨⟨E,H,F⟩,G⟩,c⟩=true)(U:qR al)(W:al.length<100000) :
 ak env 74 [.agg [z,t,aI gr],m,.agg [a8 D,a8 o,ae k,a8 J,aI I,a8 E,ae H,a8 F,aI G,aI c,a8 w,ae u,a8 B,aI q,a8 C,ae v,x]]=some (aI (Eu qs l (⟨D,⟨o,k,J⟩,I,⟨⟨⟨E,H,F⟩,G⟩,c⟩,⟨⟨w,u,B⟩,q⟩,⟨C,v⟩,al⟩:aC))):=by
 obtain⟨y,Q,M⟩:=S3 d (by omega) (λp hp=>(a p hp).x)
 have T:=O2 l
 have O:=Ql M (by omega) (TW a) D o k J I E H F G c w u B q C v K hs U W
 have R:=Ai d (by omega) o k
 have S:=LP (gr:=gr) f b (by omega) o k
 have Y:Eu qs l (⟨D,⟨o,k,J⟩,I,⟨⟨⟨E,H,F⟩,G⟩,c⟩,⟨⟨w,u,B⟩,q⟩,⟨C,v⟩,al⟩:aC)=if Kd l (⟨D,⟨o,k,J⟩,I,⟨⟨⟨E,H,F⟩,G⟩,c⟩,⟨⟨w,u,B⟩,q⟩,⟨C,v⟩,al⟩:aC)≠0 then Kd l (⟨D,⟨o,k,J⟩,I,⟨⟨⟨E,H,F⟩,G⟩,c⟩,⟨⟨w,u,B⟩,q⟩,⟨C,v⟩,al⟩:aC) else if D=1/\(la qs o k).cells<IntKind.i64.wrap ((tV ⟨o,k⟩ ⟨0,0,0⟩ l).cells+c) then 9 else 0:=rfl
 have N:Kc (lj l) (eW (lj l)) (⟨D,⟨o,k,J⟩,I,⟨⟨⟨E,H,F⟩,G⟩,c⟩,⟨⟨w,u,B⟩,q⟩,⟨C,v⟩,al⟩:aC) (fg ⟨⟨⟨E,H,F⟩,G⟩,c⟩ c.toNat 0)=Kd l (⟨D,⟨o,k,J⟩,I,⟨⟨⟨E,H,F⟩,G⟩,c⟩,⟨⟨w,u,B⟩,q⟩,⟨C,v⟩,al⟩:aC):=rfl
 rw[N]at O
 rw[Y]
 clear Y N a T
 generalize Kd l (⟨D,⟨o,k,J⟩,I,⟨⟨⟨E,H,F⟩,G⟩,c⟩,⟨⟨w,u,B⟩,q⟩,⟨C,v⟩,al⟩:aC)=e at *
 generalize tV ⟨o,k⟩ ⟨0,0,0⟩ l=ul at *
 generalize la qs o k=qo at *
 obtain⟨u1,u2,u3⟩:=ul
 obtain⟨q1,q2,q3,q4,Z⟩:=qo
 generalize L:(if e≠0 then e else if D=1/\(⟨q1,q2,q3,q4,Z⟩:ah).cells<IntKind.i64.wrap ((⟨u1,u2,u3⟩:wX).cells+c) then 9 else 0)=n
 simp only at L
 refine an rfl (by kernel_rfl) (wQ _ _ _ _ _ λg=>?_)
 by_cases V:e=0
 ·subst V
  rw[if_neg (by simp)]at L
  by_cases X:D=1
  ·subst X
   by_cases P:Z<IntKind.i64.wrap (u3+c)
   ·rw[if_pos ⟨rfl,P⟩]at L
    subst L
    simp[ai, *,fK,d.r,K.r,f.r,b.r,M.r,Q,O,R,S,ah.enc,P]
   ·rw[if_neg (λh=>P h.2)]at L
    subst L
    simp[ai, *,fK,d.r,K.r,f.r,b.r,M.r,Q,O,R,S,ah.enc,P]
  ·rw[if_neg (λh=>X h.1)]at L
   subst L
   simp[ai, *,fK,d.r,K.r,f.r,b.r,M.r,Q,O,R,S,ah.enc,X]
 ·rw[if_pos V]at L
  subst L
  simp[ai, *,fK,d.r,K.r,f.r,b.r,M.r,Q,O,R,S,ah.enc,V]
omit d f b in
theorem Mn : ∀p∈l,p.1.kind=3->0<=p.1.gu:=by
 intro p hp k
 have h:=(a p hp).may
 simp only[ew,k,show ¬((3:UInt8)=1) from by decide,show ¬((3:UInt8)=2) from by decide,if_false,if_true,aY,yn,decide_eq_true_eq]at h
 omega
theorem S2(k:UInt8)(u:Int)(O:UInt8)(h:UInt8)(e:UInt32)(y:UInt8)(K:Int)(N:UInt8)(M:UInt32)(L:UInt8)(P:Int)(I:Int)(J:UInt8)(D:UInt32)(F:UInt8)(H:Int)(G:UInt8)(E:UInt32)(c V:Int)(v:UInt8)(w:UInt32)(o:Bool){x:AV}{al:List Int}(C:Sl 1 (rows al) x)(hrg:qR al)(Z:ew ⟨k,u,(⟨O,⟨h,e,y⟩,K,⟨⟨⟨N,M,L⟩,P⟩,I⟩,⟨⟨J,D,F⟩,H⟩,⟨G,E⟩,al⟩:aC),c,V,v,w,o⟩=true) :
 ak env 86 [.agg [z,t,aI gr],m,.agg [a8 k,aI u,a8 O,a8 h,ae e,a8 y,aI K,a8 N,ae M,a8 L,aI P,aI I,a8 J,ae D,a8 F,aI H,a8 G,ae E,x,aI c,aI V,a8 v,ae w,aB o]]=some (aB (BO us qs gr l ⟨k,u,(⟨O,⟨h,e,y⟩,K,⟨⟨⟨N,M,L⟩,P⟩,I⟩,⟨⟨J,D,F⟩,H⟩,⟨G,E⟩,al⟩:aC),c,V,v,w,o⟩)):=by
 obtain⟨xu',xq',n,q,Q⟩:=IE (gr:=gr) d i (by omega) (Mn A a i j) f b j
 have hnl:(fy us gr l).1.length<1000:=by rw[IW];exact j
 have U:=Ai d (by omega) h e
 have S:=GW d (by omega) h e y
 have T:=LP (gr:=gr) f b (by omega) h e
 generalize hG:BO us qs gr l ⟨k,u,(⟨O,⟨h,e,y⟩,K,⟨⟨⟨N,M,L⟩,P⟩,I⟩,⟨⟨J,D,F⟩,H⟩,⟨G,E⟩,al⟩:aC),c,V,v,w,o⟩=gb
 refine an rfl (by kernel_rfl) (yU _ _ _ _ _ λg=>?_)
 by_cases k3:k=3
 ·subst k3
  have B:gb=decide (nw (fy us gr l).1 (fy us gr l).2 V=0):=hG.symm
  have h0:0<=V:=by
   simp only[ew,show ¬((3:UInt8)=1) from by decide,show ¬((3:UInt8)=2) from by decide,if_false,if_true,aY,yn,decide_eq_true_eq]at Z
   omega
  clear hG Z a
  by_cases hb:nw (fy us gr l).1 (fy us gr l).2 V=0
  ·have hB:=KE n q i hnl V v w o h0 hb
   rw[decide_eq_true hb]at B
   subst B
   clear hb
   have hv:=HQ 5 (bL qs)
   generalize DC 5 (bL qs)=vo at *
   generalize fy us gr l=nf at *
   simp[ai, *,bc,d.r,C.r,f.r,b.r,n.r,q.r,hv.r,Q,hB]
  ·have hB:=KD n q i hnl V v w o hb
   rw[decide_eq_false hb]at B
   subst B
   generalize nw (fy us gr l).1 (fy us gr l).2 V=be at *
   generalize fy us gr l=nf at *
   simp[ai, *,bc,d.r,C.r,f.r,b.r,n.r,q.r,Q,hB,hb]
 ·by_cases k1:k=1
  ·subst k1
   have R:=GX (gr:=(fy us gr l).2) n q (by omega) (by omega) u h e
   have B:gb=(!(gj ⟨h,e,y⟩ ⟨false,0,0⟩ l).o&&(eL (fy us gr l).1 u h e&&decide ((tV ⟨h,e⟩ ⟨0,0,0⟩ l).opens<(la qs h e).opens))):=hG.symm
   clear hG Z a
   generalize eL (fy us gr l).1 u h e=ob at *
   generalize gj ⟨h,e,y⟩ ⟨false,0,0⟩ l=sl at *
   generalize tV ⟨h,e⟩ ⟨0,0,0⟩ l=ul at *
   generalize la qs h e=qo at *
   generalize fy us gr l=nf at *
   obtain⟨u1,u2,u3⟩:=ul
   obtain⟨q1,q2,q3,q4,q5⟩:=qo
   obtain⟨s1,s2,s3⟩:=sl
   simp only at B
   subst B
   cases s1 with
   | true=>simp[ai, *,bc,d.r,C.r,f.r,b.r,n.r,q.r,Q,U,S,T,R,ah.enc]
   | false=>
    cases ob with
    | false=>simp[ai, *,bc,d.r,C.r,f.r,b.r,n.r,q.r,Q,U,S,T,R,ah.enc]
    | true=>simp[ai, *,bc,d.r,C.r,f.r,b.r,n.r,q.r,Q,U,S,T,R,ah.enc]
  ·have k2:k=2:=by
    by_cases k2:k=2
    ·exact k2
    ·simp[ew,k1,k2,k3]at Z
   subst k2
   have X:=zj Z rfl
   have R:=GX (gr:=(fy us gr l).2) n q (by omega) (by omega) (gj ⟨h,e,y⟩ ⟨false,0,0⟩ l).u h e
   have hlo:=Eh X
   have Y:=kU X
   simp only at hlo Y
   have W:=F7 (gr:=gr) d A a f b i j O h e y K N M L P I J D F H G E C Y hrg (by omega)
   have B:gb=((gj ⟨h,e,y⟩ ⟨false,0,0⟩ l).o&&(eL (fy us gr l).1 (gj ⟨h,e,y⟩ ⟨false,0,0⟩ l).u h e&&(decide (K=IntKind.i64.wrap ((gj ⟨h,e,y⟩ ⟨false,0,0⟩ l).s+1))&&(decide ((tV ⟨h,e⟩ ⟨0,0,0⟩ l).ops<(la qs h e).ops)&&decide (c=Eu qs l (⟨O,⟨h,e,y⟩,K,⟨⟨⟨N,M,L⟩,P⟩,I⟩,⟨⟨J,D,F⟩,H⟩,⟨G,E⟩,al⟩:aC)))))):=hG.symm
   clear hG Z a X hlo Y
   generalize Eu qs l (⟨O,⟨h,e,y⟩,K,⟨⟨⟨N,M,L⟩,P⟩,I⟩,⟨⟨J,D,F⟩,H⟩,⟨G,E⟩,al⟩:aC)=jr at *
   generalize eL (fy us gr l).1 (gj ⟨h,e,y⟩ ⟨false,0,0⟩ l).u h e=ob at *
   generalize gj ⟨h,e,y⟩ ⟨false,0,0⟩ l=sl at *
   generalize tV ⟨h,e⟩ ⟨0,0,0⟩ l=ul at *
   generalize la qs h e=qo at *
   generalize fy us gr l=nf at *
   obtain⟨u1,u2,u3⟩:=ul
   obtain⟨q1,q2,q3,q4,q5⟩:=qo
   obtain⟨s1,s2,s3⟩:=sl
   simp only at B R S
   by_cases e1:K=IntKind.i64.wrap (s3+1)
   ·by_cases e2:u2<q4
    ·rw[decide_eq_true e1,decide_eq_true e2]at B
     subst B
     subst e1
     cases s1 with
     | false=>simp[ai, *,bc,d.r,C.r,f.r,b.r,n.r,q.r,Q,U,S,T,R,W,ah.enc]
     | true=>
      cases ob with
      | false=>simp[ai, *,bc,d.r,C.r,f.r,b.r,n.r,q.r,Q,U,S,T,R,W,ah.enc]
      | true=>simp[ai, *,bc,d.r,C.r,f.r,b.r,n.r,q.r,Q,U,S,T,R,W,ah.enc,e2]
    ·rw[decide_eq_true e1,decide_eq_false e2]at B
     subst B
     subst e1
     cases s1 with
     | false=>simp[ai, *,bc,d.r,C.r,f.r,b.r,n.r,q.r,Q,U,S,T,R,W,ah.enc]
     | true=>
      cases ob with
      | false=>simp[ai, *,bc,d.r,C.r,f.r,b.r,n.r,q.r,Q,U,S,T,R,W,ah.enc]
      | true=>simp[ai, *,bc,d.r,C.r,f.r,b.r,n.r,q.r,Q,U,S,T,R,W,ah.enc,e2]
   ·rw[decide_eq_false e1]at B
    subst B
    cases s1 with
    | false=>simp[ai, *,bc,d.r,C.r,f.r,b.r,n.r,q.r,Q,U,S,T,R,W,ah.enc]
    | true=>
     cases ob with
     | false=>simp[ai, *,bc,d.r,C.r,f.r,b.r,n.r,q.r,Q,U,S,T,R,W,ah.enc]
     | true=>simp[ai, *,bc,d.r,C.r,f.r,b.r,n.r,q.r,Q,U,S,T,R,W,ah.enc,e1]
end
end
section
attribute [local simp] aG ay aw aF aE bQ gX aM aA aD bI bH bn aN aj bf fe
structure Gx (p:bW × AV):Prop where
 x:Sl 1 (rows p.1.op.l) p.2
 rng:qR p.1.op.l
 len:p.1.op.l.length<100000
def I2(us:List Clear)(qs:List ah)(gr:Int):List (bW × AV)->List (bW × AV)->Bool
 | _,[]=>true
 | pre,p :: s=>ew p.1&&(BO us qs gr pre p.1&&I2 us qs gr (pre++[p]) s)
def Wo(us:List Clear)(qs:List ah)(gr:Int)(l:List (bW × AV)):Bool:=tY us qs gr&&(decide (l.length<=2048)&&I2 us qs gr [] l)
section
variable{l:List (bW × AV)}{o:AV}(d:Sl 24 (bu l) o)(b : ∀p∈l,Gx p)
variable{v u:AV}{us:List Clear}{qs:List ah}{gr:Int}(i:Sl 3 (bR us) v)(c:Sl 5 (bL qs) u)(j:qs.length<1000)(m:us.length<1000)
include d b i c j m
theorem QS(Z:l.length<10000){r2:Ref}{H:aa}(V:H.get r2=some ⟨3,[.agg [v,u,aI gr]],false,false⟩){Q:AV->aa->Prop} : ∀(s:List (bW × AV)) (k:Nat),l.drop k=s->k<=l.length->(∀p∈l.take k,AL p) ->
 (∀y,y=aB (I2 us qs gr (l.take k) s)->Q y H) ->
 bF env Tryz.f66 0 jq [(5,aI k),(1,o),(2,.ptr r2 0 0)] H Q:=by
 intro s
 induction s with
 | nil=>
  rintro k hs hk S hQ
  obtain rfl:=drop_nil hs hk
  have A:=eY l
  have e:=hQ _ rfl
  simp only[I2]at e
  refine p5 _ _ _ _ _ λg=>?_
  clear hQ S b
  simp[ai, *,gh,d.r]
  all_goals exact e
 | cons p s X=>
  rintro k hs hk hgd hQ
  obtain⟨W,S,M,F⟩:=drop_cons hs
  have Y:=IntWalk.i64_in ((k:Int)+1) (by omega)
  have C:=C6 F
  have A:=eY l
  have z:(k:Int)<l.length:=by omega
  have hp:=b p (S ▸ mq W)
  obtain⟨y,L,R⟩:=Iu (P:=env.P) (t:=26) (by kernel_rfl) H.get d (n:=(k:Int)) (by omega) (by rw[A];omega)
  have N:(bu l).take (k:Int).toNat=bu (l.take k):=by simp[bu,Lg]
  rw[N]at R
  have T:(l.take k).length<10000:=by rw[uG];omega
  have D:l.take (k+1)=l.take k++[p]:=by rw[Ll,F];rfl
  have w:=λ(h:AL p)=>X (k+1) M (by omega) (by
   rw[D]
   intro q c
   rcases oH.1 c with c | c
   ·exact hgd q c
   ·rw[vS]at c;subst c;exact h)
  rw[show((k+1:Nat):Int)=(k:Int)+1 from by omega,D]at w
  clear X hs M S F b N D
  have J:=Vo p.1.kind p.1.user p.1.op.kind p.1.op.h.lv p.1.op.h.cats p.1.op.h.num p.1.op.serial p.1.op.s.f.h.lv p.1.op.s.f.h.cats p.1.op.s.f.h.num p.1.op.s.f.n p.1.op.s.many p.1.op.a.h.lv p.1.op.a.h.cats p.1.op.a.h.num p.1.op.a.n p.1.op.to.lv p.1.op.to.cats p.1.code p.1.gu p.1.gv p.1.gc p.1.gok hp.x hp.len hp.rng
  have I:ew ⟨p.1.kind,p.1.user,⟨p.1.op.kind,⟨p.1.op.h.lv,p.1.op.h.cats,p.1.op.h.num⟩,p.1.op.serial,⟨⟨⟨p.1.op.s.f.h.lv,p.1.op.s.f.h.cats,p.1.op.s.f.h.num⟩,p.1.op.s.f.n⟩,p.1.op.s.many⟩,⟨⟨p.1.op.a.h.lv,p.1.op.a.h.cats,p.1.op.a.h.num⟩,p.1.op.a.n⟩,⟨p.1.op.to.lv,p.1.op.to.cats⟩,p.1.op.l⟩,p.1.code,p.1.gu,p.1.gv,p.1.gc,p.1.gok⟩=ew p.1:=rfl
  rw[I]at J
  rw[I2]at hQ
  refine p5 _ _ _ _ _ λg=>?_
  by_cases E:ew p.1=true
  ·have U:=S2 (gr:=gr) R T hgd i c j m p.1.kind p.1.user p.1.op.kind p.1.op.h.lv p.1.op.h.cats p.1.op.h.num p.1.op.serial p.1.op.s.f.h.lv p.1.op.s.f.h.cats p.1.op.s.f.h.num p.1.op.s.f.n p.1.op.s.many p.1.op.a.h.lv p.1.op.a.h.cats p.1.op.a.h.num p.1.op.a.n p.1.op.to.lv p.1.op.to.cats p.1.code p.1.gu p.1.gv p.1.gc p.1.gok hp.x hp.rng E
   have O:BO us qs gr (l.take k) ⟨p.1.kind,p.1.user,⟨p.1.op.kind,⟨p.1.op.h.lv,p.1.op.h.cats,p.1.op.h.num⟩,p.1.op.serial,⟨⟨⟨p.1.op.s.f.h.lv,p.1.op.s.f.h.cats,p.1.op.s.f.h.num⟩,p.1.op.s.f.n⟩,p.1.op.s.many⟩,⟨⟨p.1.op.a.h.lv,p.1.op.a.h.cats,p.1.op.a.h.num⟩,p.1.op.a.n⟩,⟨p.1.op.to.lv,p.1.op.to.cats⟩,p.1.op.l⟩,p.1.code,p.1.gu,p.1.gv,p.1.gc,p.1.gok⟩=BO us qs gr (l.take k) p.1:=rfl
   rw[O]at U
   have K:AL p:=⟨hp.x,hp.rng,E⟩
   have w:=w K
   rw[E]at J
   rw[E,nX]at hQ
   have B:=hp.x
   clear I O E hgd K hp
   generalize BO us qs gr (l.take k) p.1=gb at *
   generalize p.2=x at *
   generalize p.1=r at *
   generalize bu l=er at *
   cases gb with
   | true=>
    rw[nX]at hQ
    have e:=w hQ
    clear w hQ
    simp[ai, *,gh,d.r,d.idx,z,A,C,bW.val,J,U,B.r,V,L,i.r,c.r,R.r]
    all_goals exact e
   | false=>
    rw[yM]at hQ
    have e:=hQ _ rfl
    clear w hQ
    simp[ai, *,gh,d.r,d.idx,z,A,C,bW.val,J,U,B.r,V,L,i.r,c.r,R.r]
    all_goals exact e
  ·have G:ew p.1=false:=by simpa using E
   rw[G]at J
   rw[G,yM]at hQ
   have e:=hQ _ rfl
   have B:=hp.x
   clear I E G hgd hp hQ w
   generalize p.2=x at *
   generalize p.1=r at *
   generalize bu l=er at *
   simp[ai, *,gh,d.r,d.idx,z,A,C,bW.val,J,B.r,V]
   all_goals exact e
theorem Vk(n:l.length<1000000):ak env 66 [.agg [v,u,aI gr],o]=some (aB (Wo us qs gr l)):=by
 have f:=X9 (gr:=gr) i c (by omega) (by omega)
 have k:=eY l
 refine an rfl (by kernel_rfl) (zV _ _ _ _ λg=>?_)
 unfold Wo
 cases hp:tY us qs gr with
 | false=>
  rw[hp]at f
  simp[ai, *,kD,d.r,i.r,c.r,f]
 | true=>
  rw[hp]at f
  by_cases h:l.length<=2048
  ·have a : ¬(2048:Int)<l.length:=by omega
   rw[decide_eq_true h]
   simp[ai, *,kD,d.r,i.r,c.r,f,a]
   refine QS (gr:=gr) d b i c j m (by omega) (by simp) l 0 rfl (by omega) (by simp) (λy e=>?_)
   subst e
   simp
  ·have a:(2048:Int)<l.length:=by omega
   rw[decide_eq_false h]
   simp[ai, *,kD,d.r,i.r,c.r,f,a]
end
end
section
attribute [local simp] aG ay aw aF aE bQ gX aM aA aD bI bH bn aN aj bf fe
def Wp(us:List Clear)(qs:List ah)(gr:Int)(l:List (bW × AV))(h:mz):Bool × Int:=match oD us qs gr l with
 | none=>(false,8)
 | some b=>if dZ h=true then ((gN (aV h b.ses)).o&&nV b qs (gN (aV h b.ses)).u h.lv h.cats,0) else (false,8)
section
variable{w t:AV}{us:List Clear}{qs:List ah}{gr:Int}(e:Sl 3 (bR us) w)(f:Sl 5 (bL qs) t)(i:us.length<1000000)(c:qs.length<1000000){l:List (bW × AV)}{n:AV}(j:Sl 24 (bu l) n)(a : ∀p∈l,tA p)
include e f i c j a
theorem abr(o:UInt8)(C:UInt32)(D:UInt8):ak env 59 [.agg [w,t,aI gr],n,.agg [a8 o,ae C,a8 D]]=some (.tup [aB (Wp us qs gr l ⟨o,C,D⟩).1,aI (Wp us qs gr l ⟨o,C,D⟩).2]):=by
 obtain⟨y,L,E⟩:=Qh (gr:=gr) e f i c j a o C D
 have P:=yi o C D
 have r3:=e.r
 have r4:=f.r
 have r5:=j.r
 unfold Xm at E
 unfold Wp
 cases d:oD us qs gr l with
 | none=>
  rw[d]at E
  subst E
  clear e f j a d
  dsimp only
  unfold MO at *
  refine an rfl (by kernel_rfl) (sh _ _ _ _ _ λg=>?_)
  simp[ai, *,pF]
 | some b=>
  have H:=L5 e f i c j a d
  rw[d]at E
  dsimp only at E ⊢
  cases J:dZ ⟨o,C,D⟩ with
  | false=>
   rw[J]at E
   simp only[mr,if_false]at E
   subst E
   clear e f j a d
   unfold MO at *
   refine an rfl (by kernel_rfl) (sh _ _ _ _ _ λg=>?_)
   simp[ai, *,pF]
  | true=>
   rw[J,if_pos rfl]at E
   obtain⟨wu,wq,G,F,rfl⟩:=E
   have r1:=G.r
   have r2:=F.r
   rw[if_pos rfl]
   rw[J]at P
   dsimp only
   have K:=λS T Y N ub uc X U Z qb qc qd qe I=>LM G F H c S T Y b.gr N ub uc X U Z qb qc qd qe I o C
   unfold nV
   clear e f j a d G F J
   generalize gN (aV ⟨o,C,D⟩ b.ses)=s at *
   generalize DW b o C=u at *
   try dsimp only at *
   generalize kT us qs gr o C=q at *
   obtain⟨s1,s2,O⟩:=s
   obtain⟨R,V,u3,u4,u5⟩:=u
   obtain⟨q1,q2,M,q4,W⟩:=q
   try dsimp only at *
   have Q:=K s1 s2 O R V u3 u4 u5 q1 q2 M q4 W s2
   clear K
   generalize (decide (oU b.us qs b.gr o=0)&&eL b.us s2 o C)=mn at *
   unfold MO at L
   simp only at L
   cases s1 with
   | false=>
    refine an rfl (by kernel_rfl) (sh _ _ _ _ _ λg=>?_)
    simp[ai, *,pF,bad]
   | true=>
    cases mn with
    | false=>
     refine an rfl (by kernel_rfl) (sh _ _ _ _ _ λg=>?_)
     simp[ai, *,pF,bad]
    | true=>
     refine an rfl (by kernel_rfl) (sh _ _ _ _ _ λg=>?_)
     simp[ai, *,pF,bad]
end
section
variable{us:List Clear}{qs:List ah}{gr:Int}{l x:List (bW × AV)}{b b':eH}{v:iI}(d:oD us qs gr l=some b)(m:oD us qs gr x=some b')(h:Ud v b b')(B:MP x=MP (l.filter (RX v)))(z:b.da.length<=100){k:mz}(A:qS ⟨k.lv,k.cats⟩ v=true)
include d m h B z A
end
end
section
theorem WZ(s:wN)(a:bV)(b:eJ s=true) : ∀(l:List Int)(k:Nat),(k:Int)+l.length<=s.many->(ig s a l k).map (·.i)=(List.range l.length).map λj=>AZ s.f ((k+j:Nat):Int)
 | [],k,_=>rfl
 | r :: l,k,h=>by
  have c:=gI b
  simp only[sc]at h
  rw[ig,uC,WZ s a b l (k+1) (by omega),sc,PT,uC,Le]
  congr 1
  ·show(⟨s.f.h,IntKind.i64.wrap (s.f.n+(k:Int))⟩:bV)=⟨s.f.h,s.f.n+((k+0:Nat):Int)⟩
   rw[IntWalk.i64_in _ (by omega)];rfl
  ·refine Lp λj _=>?_
   show AZ s.f _=AZ s.f _
   congr 1
   simp only[PJ]
   omega
theorem KU(s:wN) : ∀(n k:Nat),fg s n k=(List.range n).map λj=>AZ s.f ((k+j:Nat):Int)
 | 0,k=>rfl
 | n+1,k=>by
  rw[fg,KU s n (k+1),PT,uC,Le]
  congr 1
  refine Lp λj _=>?_
  show AZ s.f _=AZ s.f _
  congr 1
  simp only[PJ]
  omega
theorem Q2(o:aC):YX o=cp o.s:=by
 unfold YX cp
 rw[KU]
 refine Lp λj _=>?_
 rw[vQ]
theorem QL{o:aC}(c:lT o=true)(k:o.kind=1):(qK o).map (·.i)=cp o.s:=by
 have b:=kU c
 have d:=gI b
 have e:(o.l.length:Int)=o.s.many:=by
  have h:=c
  simp only[lT,aY,C9,k,if_true,I7,decide_eq_true_eq]at h
  exact h.2.2.2.2.2.2.2.1
 unfold qK cp
 rw[if_pos k,WZ o.s o.a b o.l 0 (by omega),show o.l.length=o.s.many.toNat by omega]
 refine Lp λj _=>?_
 rw[vQ]
theorem Og(s:wN):(cp s).Nodup:=by
 unfold cp
 refine List.Pairwise.map _ (λa b c h=>c ?_) List.nodup_range
 simp only[AZ,bV.mk.injEq]at h
 omega
theorem Nw{i:bV} : ∀ {ents:List (bV × AV)},aV i ents=none->(gw i (aB true) ents).length=ents.length+1
 | [],_=>rfl
 | p :: ents,h=>by
  unfold aV at h
  split at h
  ·cases h
  ·rename_i a
   unfold gw
   rw[if_neg a,sc,Nw h,sc]
theorem QV{ents:List (bV × AV)}(a:oy ents){i:bV}(h:fP ents i=false):aV i ents=none:=by
 rcases look_ok (P:=λx=>x=aB true) a i with e | ⟨x,e,rfl⟩
 ·exact e
 ·unfold fP at h
  rw[e]at h
  simp[aB]at h
theorem JD : ∀(a:List bV)(ents:List (bV × AV)),oy ents->a.Nodup->(∀i∈a,fP ents i=false)->(vc ents a).length=ents.length+a.length
 | [],ents,_,_,_=>by simp
 | i :: a,ents,c,b,d=>by
  rw[Pw]at b
  rw[Gt,JD a _ (Cc c) b.2 (λj f=>by
   rw[Im,d j (iA _ f),Bool.or_false,decide_eq_false_iff_not]
   intro e;subst e;exact b.1 f),Nw (QV c (d i jB)),sc]
  omega
structure DI (ops:List (aC × AV)) (ents:List (bV × AV)):Prop where
 there : ∀i,fP ents i=decide (i∈(eW ops).map (·.i))
 len:ents.length=(eW ops).length
 right:lV [] (opsOf ops)=true
 bools:oy ents
theorem DI.nil:DI [] []:=⟨λi=>rfl,rfl,rfl,λp hp=>by cases hp⟩
theorem V8 : ∀ {l a:List (aC × AV)},opsOf l=opsOf a->eW l=eW a:=by
 intro l a h
 have : ∀l:List (aC × AV),eW l=(opsOf l).flatMap qK:=λl=>by simp[eW,opsOf,List.flatMap_map]
 rw[this,this,h]
theorem DI.agi{ops:List (aC × AV)}{ents:List (bV × AV)}(h:DI ops ents)(o:aC)(i:bV):wc ents o i=uK (eW ops) o i:=by
 unfold wc uK
 rw[h.there i];rfl
theorem Pj{a:Type}{p q:a->Bool}(h : ∀x,p x=q x)(l:List a):l.any p=l.any q:=by
 have:p=q:=funext h
 rw[this]
theorem DI.err{ops:List (aC × AV)}{ents:List (bV × AV)}(h:DI ops ents)(D:ops.length<=2048){o:aC}(w:lT o=true):wA ops ents o=Kc ops (eW ops) o (YX o):=by
 have F:=gI (kU w)
 rw[Q2]
 have u:(cp o.s).length=o.s.many.toNat:=by simp[cp]
 have z:sI ents o = !(cp o.s).any (λi => !uK (eW ops) o i):=by
  unfold sI
  rw[Pj λi=>by rw[h.agi o i]]
 have A:qV (opsOf ops)=0:=Ax h.right (by simpa [opsOf] using D)
 unfold wA Kc vk
 by_cases j:o.kind=1
 ·rw[if_pos j,if_pos j]
  have k:JK o≠0↔zh ⟨o.s,o.a,o.l⟩=false:=by
   unfold JK
   rw[if_pos w]
   by_cases q:zh ⟨o.s,o.a,o.l⟩=true
   ·rw[if_pos ⟨j,q⟩,q];simp
   ·rw[if_neg (λb=>q b.2)];simp[q]
  have n:(cp o.s).any (fP ents)=(cp o.s).any (λi=>decide (i∈(eW ops).map (·.i))):=Pj h.there _
  have e:gx o.a=decide (o.a=rZ):=by
   rw[Hd,decide_eq_true_iff];exact yI o.a
  have c:EB ops o=if 2048<=ops.length then 4 else 0:=by
   unfold EB
   rw[if_neg]
   rw[j];rintro(⟨h,_⟩ | ⟨h,_⟩)<;>exact absurd h (by decide)
  have E:fT ents o=if o.a≠rZ/\uK (eW ops) o o.a=false then 6 else if zh ⟨o.s,o.a,o.l⟩=false then 2 else if (cp o.s).any (λi=>decide (i∈(eW ops).map (·.i)))=true then 2 else if 8192<((eW ops).length:Int)+(cp o.s).length then 4 else 0:=by
   unfold fT
   rw[h.agi,n,e,h.len,u,show((o.s.many.toNat:Nat):Int)=o.s.many by omega]
   generalize uK (eW ops) o o.a=sb
   generalize (cp o.s).any (λi=>decide (i∈(eW ops).map (·.i)))=ab
   by_cases d:o.a≠rZ/\sb=false
   ·rw[if_pos d,if_pos (by rw[decide_eq_false d.1,d.2];decide)]
   ·have v : ¬((!decide (o.a=rZ) && !sb)=true):=by
     intro b
     rw[aY,dN,dN,decide_eq_false_iff_not]at b
     exact d b
    rw[if_neg d,if_neg v]
    by_cases g:zh ⟨o.s,o.a,o.l⟩=false
    ·have p:JK o≠0\/ab=true:=Or.inl (k.2 g)
     rw[if_pos g,if_pos p]
    ·rw[if_neg g]
     cases ab with
     | true=>
      have p:JK o≠0\/true=true:=Or.inr rfl
      rw[if_pos rfl,if_pos p]
     | false=>
      have p : ¬(JK o≠0\/false=true):=λb=>b.elim (λb=>g (k.1 b)) (by simp)
      rw[if_neg (show ¬(false=true) by decide),if_neg p]
  rw[E]
  unfold TI
  rw[c]
  by_cases d:o.a≠rZ/\uK (eW ops) o o.a=false
  ·simp only[if_pos d];simp
  ·simp only[if_neg d]
   by_cases g:zh ⟨o.s,o.a,o.l⟩=false
   ·simp only[if_pos g];simp
   ·simp only[if_neg g]
    by_cases y:(cp o.s).any (λi=>decide (i∈(eW ops).map (·.i)))=true
    ·simp only[if_pos y];simp
    ·simp only[if_neg y]
     by_cases x:8192<((eW ops).length:Int)+(cp o.s).length
     ·simp only[if_pos x];simp
     ·simp only[if_neg x]
      by_cases e:2048<=ops.length<;>simp[e]
 ·rw[if_neg j,if_neg j]
  unfold N9
  by_cases m:o.kind=2
  ·rw[if_pos m]
   unfold Aj
   rw[z]
   generalize (cp o.s).any (λi => !uK (eW ops) o i)=ab
   have c:EB ops o=if ¬(o.s.f.h.lv=o.h.lv/\o.s.f.h.cats=o.h.cats) then 2 else if 2048<=ops.length then 4 else 0:=by
    unfold EB
    by_cases b:o.s.f.h.lv=o.h.lv/\o.s.f.h.cats=o.h.cats
    ·have B : ¬((o.kind=2 /\¬(o.s.f.h.lv=o.h.lv/\o.s.f.h.cats=o.h.cats))\/(o.kind=3/\kZ (opsOf ops) o=false)):=by
      rintro(⟨_,h⟩ | ⟨h,_⟩)
      ·exact h b
      ·rw[m]at h;exact absurd h (by decide)
     rw[if_neg B,if_neg (show ¬ ¬(o.s.f.h.lv=o.h.lv/\o.s.f.h.cats=o.h.cats) from λh=>h b)]
    ·rw[if_pos (.inl ⟨m,b⟩),if_pos b]
   rw[c]
   cases ab with
   | true=>simp
   | false=>
    by_cases b:o.s.f.h.lv=o.h.lv/\o.s.f.h.cats=o.h.cats
    ·by_cases e:2048<=ops.length<;>simp[b.1,b.2,e]
    ·have C:(decide (o.s.f.h.lv=o.h.lv)&&decide (o.s.f.h.cats=o.h.cats))=false:=by
      rw[<-Bool.decide_and,decide_eq_false_iff_not];exact b
     simp[C,b]
  ·rw[if_neg m]
   have t:o.kind=3:=by
    by_cases t:o.kind=3
    ·exact t
    ·simp[lT,C9,j,m,t]at w
   unfold Ak
   rw[z,A]
   generalize (cp o.s).any (λi => !uK (eW ops) o i)=ab
   unfold EB
   generalize kZ (opsOf ops) o=fb
   simp only[t,show ¬((3:UInt8)=2) from by decide,false_and,false_or,true_and]
   cases ab with
   | true=>simp
   | false=>
    cases fb with
    | false=>simp
    | true=>by_cases e:2048<=ops.length<;>simp[e]
theorem TX{ops:List (aC × AV)}{ents:List (bV × AV)}{o:aC}(a:wA ops ents o=0):vk ops ents o=0:=by
 unfold wA at a
 split at a
 ·cases a
 ·exact a
theorem DI.step{ops:List (aC × AV)}{ents:List (bV × AV)}(h:DI ops ents){p:aC × AV}(l:lT p.1=true)(t:wA ops ents p.1=0):DI (ops++[p]) (zA ents p.1):=by
 have a:eW (ops++[p])=eW ops++qK p.1:=by simp[eW]
 have c:=TX t
 have q:kZ (opsOf ops) p.1=true:=by
  unfold vk at c
  by_cases g:p.1.kind=3
  ·rw[if_neg (by rw[g];decide),if_neg (by rw[g];decide)]at c
   unfold Ak at c
   split at c
   ·cases c
   ·split at c
    ·rename_i f;exact f.2
    ·cases c
  ·unfold kZ
   rw[if_neg g]
 have m:lV [] (opsOf (ops++[p]))=true:=by rw[m9];exact BE h.right l q
 by_cases e:p.1.kind=1
 ·have k:=QL l e
  have b:zA ents p.1=vc ents (cp p.1.s):=by unfold zA;rw[if_pos e]
  have d : ∀i∈cp p.1.s,fP ents i=false:=by
   unfold vk at c
   rw[if_pos e]at c
   unfold fT at c
   split at c
   ·cases c
   ·split at c
    ·cases c
    ·rename_i f
     intro i n
     cases o:fP ents i with
     | false=>rfl
     | true=>exact absurd (Or.inr (HC.2 ⟨i,n,o⟩)) f
  refine⟨λi=>?_,?_,m,?_⟩
  ·rw[b,Ah,h.there i,a,He,k,<-Bool.decide_or]
   refine decide_eq_decide.2 ?_
   rw[oH]
   exact Or.comm
  ·rw[b,JD _ _ h.bools (Og _) d,a,pH,h.len,<-k,uD]
  ·rw[b];exact Gu _ h.bools
 ·have b:zA ents p.1=ents:=by unfold zA;rw[if_neg e]
  have j:qK p.1=[]:=by unfold qK;rw[if_neg e]
  rw[b]
  refine⟨λi=>?_,?_,m,h.bools⟩
  ·rw[a,j,uE];exact h.there i
  ·rw[a,j,uE];exact h.len
theorem Jn{ops a:List (aC × AV)}(h:opsOf ops=opsOf a)(o:aC)(b:List bV):Kc ops (eW ops) o b=Kc a (eW a) o b:=by
 have d:ops.length=a.length:=by have:=congrArg List.length h;simpa [opsOf] using this
 have c:=V8 h
 unfold Kc N9 TI EB
 rw[h,c,d]
end
end Go.Proofs.YtmkmimgokagimaaGreat
set_option maxHeartbeats 4000000
namespace Go.Proofs.YtmkmimgokagimaaGreat
open Go.Ab
section
attribute [local simp] aG ay aw aF aE bQ gX aM aA aD bI bH bn aN aj bf fe
theorem Vi(u:JM)(h:tA (u.r,u.x)):ak env 61 [u.av,u.av]=some (aB true):=by
 have W:=aab h h
 rw[Iz]at W
 have X:=h.1.r
 unfold bW.val at W
 unfold JM.av
 obtain⟨c,w,⟨Z,us,⟨p,⟨A,n,y⟩,t,⟨⟨⟨k,z,m⟩,q⟩,b⟩,⟨⟨f,d,i⟩,a⟩,⟨j,e⟩,al⟩,c',Y,v,w',o⟩,x⟩:=u
 simp only at W X ⊢
 clear h
 refine an rfl (by kernel_rfl) (yS _ _ _ _ λg=>?_)
 cases w<;>simp[ai, *,rG]
section
variable{M:AV}(p:UInt8)(A:UInt8)(n:UInt32)(y:UInt8)(t:Int)(k:UInt8)(z:UInt32)(m:UInt8)(q:Int)(b:Int)(f:UInt8)(d:UInt32)(i:UInt8)(a:Int)(j:UInt8)(e:UInt32){x F:AV}{al C:List Int}(E:Sl 1 (rows al) x){H:aa}{I D P V T:Ref}(L:H.get I=some ⟨17,[.agg [a8 p,a8 A,ae n,a8 y,aI t,a8 k,ae z,a8 m,aI q,aI b,a8 f,ae d,a8 i,aI a,a8 j,ae e,x]],false,false⟩)(J:H.get D=some ⟨17,[.agg [a8 p,a8 A,ae n,a8 y,aI t,a8 k,ae z,a8 m,aI q,aI b,a8 f,ae d,a8 i,aI a,a8 j,ae e,F]],false,false⟩)
 (K:(F=ba/\C=[]) \/∃r fz,F = .cG r 0 C.length none/\H.get r=some ⟨1,rows C,true,fz⟩) (B:C.length=al.length) (G:al.length<1000000) {Q:AV->aa->Prop} (U:Int)
include E L J K B G
end
section
variable{R O:AV}{us:List Clear}{qs:List ah}{gr:Int}(S:Sl 3 (bR us) R)(N:Sl 5 (bL qs) O){l:List (bW × AV)}{M:AV}(E:Sl 24 (bu l) M)
include S N E
end
end
section
theorem Kv : ∀(l:List ah)(n:Int),GL (n - 1) l=GL n l - 1
 | [],n=>rfl
 | q :: l,n=>by
  show GL (n - 1+q.opens+4 * q.ops) l=GL (n+q.opens+4 * q.ops) l - 1
  rw[<-Kv l,show n - 1+q.opens+4 * q.ops=n+q.opens+4 * q.ops - 1 by omega]
theorem Sp{a:Type}{p:a->Bool}{x:a}(c:p x=true) : ∀(l:List a)(n:Nat),l.all p=true->(l.set n x).all p=true
 | [],_,h=>h
 | y :: l,0,h=>by
  rw[Br,aY]at h
  rw[List.set_cons_zero,Br,c,h.2];rfl
 | y :: l,n+1,h=>by
  rw[Br,aY]at h
  rw[List.set_cons_succ,Br,h.1,Sp c l n h.2];rfl
theorem QC{us:List Clear}{qs:List ah}{gr:Int}(h:tY us qs gr=true){n:Nat}{v:UInt8}{c:UInt32}{ok:Bool}(g:o8 v c ok=true)(i:gr≠0):tY (us.set n ⟨v,c,ok⟩) qs (IntKind.i64.wrap (gr - 1))=true:=by
 rw[N7]at h ⊢
 simp only[aY,decide_eq_true_eq]at h
 have a:IntKind.i64.wrap (gr - 1)=gr - 1:=IntWalk.i64_in _ (by omega)
 rw[a,Kv]
 have e:=Sp (p:=λc:Clear=>o8 c.lv c.cats c.ok) (x:=⟨v,c,ok⟩) g us n h.1.1.2
 simp only[aY,decide_eq_true_eq,Lj]
 exact⟨⟨⟨⟨⟨h.1.1.1.1.1,h.1.1.1.1.2⟩,by omega,by omega⟩,e⟩,h.1.2⟩,by omega,h.2.2⟩
theorem Ix(h:mz)(t:Pq)(l:List (bW × AV))(p:bW × AV):gj h t (l++[p])=xi h (gj h t l) p:=by simp[gj]
theorem Ie(v:iI)(t:wX)(l:List (bW × AV))(p:bW × AV):tV v t (l++[p])=xe v (tV v t l) p:=by simp[tV]
theorem IX(us:List Clear)(gr:Int)(l:List (bW × AV))(p:bW × AV):fy us gr (l++[p])=fy (fy us gr l).1 (fy us gr l).2 [p]:=by
 induction l generalizing us gr with
 | nil=>rfl
 | cons q l c=>
  by_cases a:q.1.kind=3/\nw us gr q.1.gu=0
  ·rw[Py,show fy us gr (q :: (l++[p]))=_ from if_pos a,show fy us gr (q :: l)=_ from if_pos a]
   exact c _ _
  ·rw[Py,show fy us gr (q :: (l++[p]))=_ from if_neg a,show fy us gr (q :: l)=_ from if_neg a]
   exact c _ _
theorem FG(l:List (bW × AV))(p:bW × AV):lj (l++[p])=lj l++if isDone p then [(p.1.op,p.2)] else []:=by
 unfold lj
 rw[PD,He]
 congr 1
 rw[Hy]
 split<;>rfl
structure EW (us0:List Clear) (qs:List ah) (gr0:Int) (d:List (bW × AV)) (b:eH):Prop where
 us:b.us=(fy us0 gr0 d).1
 gr:b.gr=(fy us0 gr0 d).2
 pol:tY b.us qs b.gr=true
 ses : ∀h:mz,(gN (aV h b.ses)).o=(gj h ⟨false,0,0⟩ d).o/\(gN (aV h b.ses)).u=(gj h ⟨false,0,0⟩ d).u/\(gN (aV h b.ses)).s=(gj h ⟨false,0,0⟩ d).s
 num : ∀h:mz,0<=(gj h ⟨false,0,0⟩ d).s/\(gj h ⟨false,0,0⟩ d).s<16777216/\((gj h ⟨false,0,0⟩ d).o=false->(gj h ⟨false,0,0⟩ d).s=0)
 use : ∀v:iI,pT (aV v b.used)=tV v ⟨0,0,0⟩ d
 da:opsOf b.da=opsOf (lj d)
 doc : ∃E,ot [] [] b.da=some (b.da,E)/\DI b.da E
theorem EW.nil{us0:List Clear}{qs:List ah}{gr0:Int}(hp:tY us0 qs gr0=true):EW us0 qs gr0 [] (A1 us0 gr0):=
 ⟨rfl,rfl,hp,λh=>⟨rfl,rfl,rfl⟩,λh=>⟨Lc 0,(by decide:(0:Int)<16777216),λ_=>rfl⟩,λv=>rfl,rfl,[],rfl,DI.nil⟩
theorem II{r:bW}(h:ew r=true)(k:r.kind=3):0<=r.gu/\o8 r.gv r.gc r.gok=true/\yn r.gu r.gv r.gc r.gok=true:=by
 simp only[ew,k,show ¬((3:UInt8)=1) from by decide,show ¬((3:UInt8)=2) from by decide,if_false,if_true,aY]at h
 have c:=h.1
 have a:=h.1
 simp only[yn,aY,decide_eq_true_eq]at a
 exact⟨a.1.1,by simpa [o8,Jt] using a.2,c⟩
theorem Ey{h:mz}(a:dZ h=true):h.lv<=15:=by
 simp only[dZ,aY,decide_eq_true_eq]at a
 first | exact a.1 | exact a.1.1
theorem NQ{r:bW}(h:ew r=true)(k:r.kind=1\/r.kind=2):r.op.h.lv<=15:=by
 rcases k with k | k
 ·simp only[ew,k,if_true,aY]at h
  exact Ey h.2.1
 ·have:=zj h k
  simp only[lT,aY]at this
  exact Ey this.1
theorem vH{us:List Clear}{qs:List ah}{gr:Int}{a:UInt8}(hp:tY us qs gr=true)(e:a<=15):oU us qs gr a=0:=by
 have c:Au a=0:=by unfold Au;rw[if_neg (by simpa [UInt8.not_lt] using e)]
 unfold oU
 rw[c,hp];rfl
section
variable{us0:List Clear}{qs:List ah}{gr0:Int}{d:List (bW × AV)}{b:eH}(h:EW us0 qs gr0 d b)(hp:tY us0 qs gr0=true)(f:d.length<=2048)
include h hp f
theorem EW.NU{a:UInt8}(c:UInt32)(e:a<=15):kT us0 qs gr0 a c=la qs a c:=by
 unfold kT
 rw[if_pos (vH hp e)]
theorem EW.verdict{o:aC}(g:lT o=true)(i:o.h.lv<=15):iS us0 qs gr0 b o=Eu qs d o:=by
 obtain⟨E,k,j⟩:=h.doc
 have c:b.da.length<=2048:=by
  have e:=congrArg List.length h.da
  have:=O2 d
  simp only[opsOf,uD]at e
  omega
 have a:nH b.da o=Kd d o:=by
  unfold nH Kd
  rw[k]
  dsimp only
  rw[if_pos g,j.err c g]
  exact Jn h.da o _
 unfold iS Eu F3
 rw[a,h.NU hp f o.h.cats i,h.use]
theorem EW.fits{r:bW}(g:ew r=true):uS us0 qs gr0 b r=BO us0 qs gr0 d r:=by
 unfold uS BO
 by_cases a:r.kind=1
 ·have c:=NQ g (.inl a)
  obtain⟨s1,s2,j⟩:=h.ses r.op.h
  rw[if_pos a,if_neg (by rw[a];decide),if_pos a]
  unfold Gl nV ld lJ Iy F3
  rw[s1,vH h.pol c,h.NU hp f _ c,h.use,h.us]
  rfl
 ·rw[if_neg a,if_neg a]
  by_cases e:r.kind=2
  ·have c:=NQ g (.inr e)
   have k:=zj g e
   obtain⟨s1,s2,j⟩:=h.ses r.op.h
   rw[if_pos e,if_neg (by rw[e];decide)]
   unfold CO nV ld lJ Iy F3
   rw[s1,s2,j,vH h.pol c,h.NU hp f _ c,h.use,h.us,h.verdict hp f k c]
   rfl
  ·have i:r.kind=3:=by
    by_cases i:r.kind=3
    ·exact i
    ·simp[ew,a,e,i]at g
   obtain⟨l,m,hm⟩:=II g i
   rw[if_neg e,if_pos i]
   unfold Gk yx nw
   rw[h.pol,hm,<-h.us,<-h.gr]
   rfl
theorem EW.step{p:bW × AV}(L:ew p.1=true)(q:uS us0 qs gr0 b p.1=true):EW us0 qs gr0 (d++[p]) (Mv b p):=by
 have x:p.1.kind=1\/p.1.kind=2\/p.1.kind=3:=by
  by_cases z:p.1.kind=1
  ·exact .inl z
  ·by_cases w:p.1.kind=2
   ·exact .inr (.inl w)
   ·by_cases C:p.1.kind=3
    ·exact .inr (.inr C)
    ·simp[ew,z,w,C]at L
 unfold uS at q
 unfold Mv
 rcases x with z | w | C
 ·have J : ¬p.1.kind=3:=by rw[z];decide
  have n2 : ¬p.1.kind=2:=by rw[z];decide
  rw[if_pos z]at q ⊢
  have i:fy us0 gr0 (d++[p])=fy us0 gr0 d:=by
   rw[IX]
   exact if_neg (λh=>J h.1)
  have l:lj (d++[p])=lj d:=by
   rw[FG,if_neg (by simp[isDone,n2]),uE]
  have t:(gj p.1.op.h ⟨false,0,0⟩ d).o=false:=by
   simp only[Gl,aY,dN,ld]at q
   rw[<-(h.ses p.1.op.h).1];exact q.1
  have j : ∀g:mz,gj g ⟨false,0,0⟩ (d++[p])=if p.1.op.h=g then ⟨true,p.1.user,(gj g ⟨false,0,0⟩ d).s⟩ else gj g ⟨false,0,0⟩ d:=λg=>by
   rw[Ix]
   unfold xi
   by_cases e:p.1.op.h=g
   ·rw[if_pos e,if_pos e,if_pos z]
   ·rw[if_neg e,if_neg e]
  refine⟨by rw[i];exact h.us,by rw[i];exact h.gr,h.pol,λg=>?_,λg=>?_,λv=>?_,by rw[l];exact h.da,h.doc⟩
  ·rw[j]
   show(gN (aV g (gw p.1.op.h (wO.av ⟨true,p.1.user,0⟩) b.ses))).o=_/\(gN (aV g (gw p.1.op.h (wO.av ⟨true,p.1.user,0⟩) b.ses))).u=_/\(gN (aV g (gw p.1.op.h (wO.av ⟨true,p.1.user,0⟩) b.ses))).s=_
   by_cases e:g=p.1.op.h
   ·subst e
    rw[lY,Cd,if_pos rfl]
    exact⟨rfl,rfl,((h.num p.1.op.h).2.2 t).symm⟩
   ·rw[kK e,if_neg (λm=>e m.symm)]
    exact h.ses g
  ·rw[j]
   obtain⟨O,N,R⟩:=h.num g
   split
   ·exact⟨O,N,λm=>by cases m⟩
   ·exact⟨O,N,R⟩
  ·show pT (aV v (gw ⟨p.1.op.h.lv,p.1.op.h.cats⟩ (wX.av { lJ b p.1.op with opens:=IntKind.i64.wrap ((lJ b p.1.op).opens+1)}) b.used))=_
   rw[Ie]
   unfold xe
   by_cases e:v=⟨p.1.op.h.lv,p.1.op.h.cats⟩
   ·subst e
    rw[lY,GR,if_pos ⟨rfl,rfl⟩,if_pos z]
    unfold lJ
    rw[h.use]
   ·rw[kK e,if_neg (λm=>e (by obtain⟨a,c⟩:=v;rw[m.1,m.2]))]
    exact h.use v
 ·have n1 : ¬p.1.kind=1:=by rw[w];decide
  have J : ¬p.1.kind=3:=by rw[w];decide
  rw[if_neg n1,if_pos w]at q ⊢
  have F:=zj L w
  have I:1<=p.1.op.serial/\p.1.op.serial<16777216:=by
   simp only[lT,aY,decide_eq_true_eq]at F
   exact⟨F.2.1,F.2.2.1⟩
  simp only[CO,aY,decide_eq_true_eq]at q
  obtain⟨S,_,H,_,k⟩:=q
  have i:fy us0 gr0 (d++[p])=fy us0 gr0 d:=by
   rw[IX]
   exact if_neg (λh=>J h.1)
  obtain⟨O,N,R⟩:=h.num p.1.op.h
  have M:(ld b p.1.op).s=(gj p.1.op.h ⟨false,0,0⟩ d).s:=(h.ses p.1.op.h).2.2
  have V:p.1.op.serial=(gj p.1.op.h ⟨false,0,0⟩ d).s+1:=by
   rw[H,M]
   exact IntWalk.i64_in _ (by omega)
  have B:(gj p.1.op.h ⟨false,0,0⟩ d).o=true:=by rw[<-(h.ses p.1.op.h).1];exact S
  have j : ∀g:mz,gj g ⟨false,0,0⟩ (d++[p])=if p.1.op.h=g then ⟨(gj g ⟨false,0,0⟩ d).o,(gj g ⟨false,0,0⟩ d).u,p.1.op.serial⟩ else gj g ⟨false,0,0⟩ d:=λg=>by
   rw[Ix]
   unfold xi
   by_cases e:p.1.op.h=g
   ·subst e
    rw[if_pos rfl,if_pos rfl,if_neg n1,if_pos w,if_pos (by omega)]
   ·rw[if_neg e,if_neg e]
  refine⟨by rw[i];exact h.us,by rw[i];exact h.gr,h.pol,λg=>?_,λg=>?_,λv=>?_,?_,?_⟩
  ·rw[j]
   show(gN (aV g (gw p.1.op.h (wO.av { ld b p.1.op with s:=IntKind.i64.wrap ((ld b p.1.op).s+1)}) b.ses))).o=_/\(gN (aV g (gw p.1.op.h (wO.av { ld b p.1.op with s:=IntKind.i64.wrap ((ld b p.1.op).s+1)}) b.ses))).u=_/\(gN (aV g (gw p.1.op.h (wO.av { ld b p.1.op with s:=IntKind.i64.wrap ((ld b p.1.op).s+1)}) b.ses))).s=_
   by_cases e:g=p.1.op.h
   ·subst e
    rw[lY,Cd,if_pos rfl]
    exact⟨(h.ses p.1.op.h).1,(h.ses p.1.op.h).2.1,H.symm⟩
   ·rw[kK e,if_neg (λm=>e m.symm)]
    exact h.ses g
  ·rw[j]
   by_cases e:p.1.op.h=g
   ·subst e
    rw[if_pos rfl]
    exact⟨by show 0<=p.1.op.serial;omega,I.2,λm=>by simp only at m;rw[B]at m;cases m⟩
   ·rw[if_neg e];exact h.num g
  ·show pT (aV v (gw ⟨p.1.op.h.lv,p.1.op.h.cats⟩ (wX.av (A0 b p.1.op p.1.code)) b.used))=_
   rw[Ie]
   unfold xe
   by_cases e:v=⟨p.1.op.h.lv,p.1.op.h.cats⟩
   ·subst e
    rw[lY,GR,if_pos ⟨rfl,rfl⟩,if_neg n1,if_pos w]
    unfold A0 lJ
    rw[h.use]
   ·rw[kK e,if_neg (λm=>e (by obtain⟨a,c⟩:=v;rw[m.1,m.2]))]
    exact h.use v
  ·rw[FG]
   show opsOf (if p.1.code=0 then b.da++[(p.1.op,tE p.2)] else b.da)=_
   by_cases A:p.1.code=0
   ·rw[if_pos A,if_pos (by simp[isDone,w,A]),m9,m9,h.da]
   ·rw[if_neg A,if_neg (by simp[isDone,A]),uE,h.da]
  ·show ∃E,ot [] [] (if p.1.code=0 then b.da++[(p.1.op,tE p.2)] else b.da)=some ((if p.1.code=0 then b.da++[(p.1.op,tE p.2)] else b.da),E)/\DI (if p.1.code=0 then b.da++[(p.1.op,tE p.2)] else b.da) E
   by_cases A:p.1.code=0
   ·rw[if_pos A]
    obtain⟨E,P,T⟩:=h.doc
    have D:nH b.da p.1.op=0:=by
     rw[A]at k
     unfold iS at k
     by_cases Q:nH b.da p.1.op=0
     ·exact Q
     ·rw[if_pos Q]at k;exact k.symm
    unfold nH at D
    rw[P]at D
    dsimp only at D
    rw[if_pos F]at D
    refine⟨zA E p.1.op,?_,?_⟩
    ·rw[Df,P,fN,if_pos ⟨F,D⟩]
    ·exact T.step (p:=(p.1.op,tE p.2)) F D
   ·rw[if_neg A]
    exact h.doc
 ·have n1 : ¬p.1.kind=1:=by rw[C];decide
  have n2 : ¬p.1.kind=2:=by rw[C];decide
  rw[if_neg n1,if_neg n2]at q ⊢
  obtain⟨W,U,hm⟩:=II L C
  have n:nw b.us b.gr p.1.gu=0:=by
   simp only[Gk,decide_eq_true_eq]at q
   unfold yx at q
   rw[h.pol,hm]at q
   exact q
  have K:b.gr≠0:=by
   intro e
   unfold nw at n
   rw[e]at n
   split at n
   ·cases n
   ·cases n
  have i:fy us0 gr0 (d++[p])=(b.us.set p.1.gu.toNat ⟨p.1.gv,p.1.gc,p.1.gok⟩,IntKind.i64.wrap (b.gr - 1)):=by
   rw[IX,<-h.us,<-h.gr]
   exact if_pos ⟨C,n⟩
  have y : ∀g:mz,gj g ⟨false,0,0⟩ (d++[p])=gj g ⟨false,0,0⟩ d:=λg=>by
   rw[Ix]
   unfold xi
   rw[if_neg n1,if_neg n2,ite_self]
  have G : ∀v:iI,tV v ⟨0,0,0⟩ (d++[p])=tV v ⟨0,0,0⟩ d:=λv=>by
   rw[Ie]
   unfold xe
   rw[if_neg n1,if_neg n2,ite_self]
  have l:lj (d++[p])=lj d:=by
   rw[FG,if_neg (by simp[isDone,n2]),uE]
  exact⟨by rw[i];rfl,by rw[i];rfl,QC h.pol U K,λg=>by rw[y];exact h.ses g,λg=>by rw[y];exact h.num g,λv=>by rw[G];exact h.use v,by rw[l];exact h.da,h.doc⟩
end
theorem Wm{us0:List Clear}{qs:List ah}{gr0:Int}(hp:tY us0 qs gr0=true) : ∀(s d:List (bW × AV)) (b:eH),EW us0 qs gr0 d b->d.length+s.length<=2048->I2 us0 qs gr0 d s=(QN us0 qs gr0 b s).isSome
 | [],d,b,_,_=>rfl
 | p :: s,d,b,h,f=>by
  simp only[sc]at f
  rw[I2,QN]
  by_cases a:ew p.1=true
  ·rw[<-h.fits hp (by omega) a,a,nX]
   by_cases c:uS us0 qs gr0 b p.1=true
   ·rw[c,nX,if_pos ⟨rfl,rfl⟩]
    exact Wm hp s _ _ (h.step hp (by omega) a c) (by simp;omega)
   ·rw[if_neg (λi=>c i.2)]
    have g:uS us0 qs gr0 b p.1=false:=by simpa using c
    rw[g,yM];rfl
  ·rw[if_neg (λi=>a i.1)]
   have e:ew p.1=false:=by simpa using a
   rw[e,yM];rfl
theorem Mc(us:List Clear)(qs:List ah)(gr:Int)(l:List (bW × AV)):Wo us qs gr l=(oD us qs gr l).isSome:=by
 unfold Wo oD
 by_cases hp:tY us qs gr=true
 ·by_cases f:l.length<=2048
  ·rw[hp,decide_eq_true f,if_pos ⟨rfl,f⟩,nX,nX]
   exact Wm hp l [] _ (EW.nil hp) (by simpa using f)
  ·rw[if_neg (λa=>f a.2),decide_eq_false f]
   simp
 ·rw[if_neg (λa=>hp a.1)]
  have c:tY us qs gr=false:=by simpa using hp
  rw[c];rfl
theorem Fk{us:List Clear}{qs:List ah}{gr:Int}{l:List (bW × AV)}{g j i:AV}(n:Sl 24 (bu l) g)(a : ∀p∈l,Gx p)(k:Sl 3 (bR us) j)(m:Sl 5 (bL qs) i)(c:qs.length<1000)(e:us.length<1000)(f:l.length<1000000) :
 ak env 66 [.agg [j,i,aI gr],g]=some (aB (oD us qs gr l).isSome):=by
 rw[<-Mc]
 exact Vk n a k m c e f
end
section
section
variable{f:bW × AV->bW × AV}(a : ∀p,(f p).1=p.1)
include a
theorem Ej(l:List (bW × AV)) : ∀us gr,fy us gr (l.map f)=fy us gr l:=by
 induction l with
 | nil=>intro us gr;rfl
 | cons p l b=>
  intro us gr
  rw[uC,fy,fy,a p,b,b]
theorem D4(h:mz)(l:List (bW × AV))(t:Pq):gj h t (l.map f)=gj h t l:=by
 unfold gj
 rw[List.foldl_map]
 congr 1
 funext t p
 unfold xi
 rw[a p]
theorem DX(v:iI)(l:List (bW × AV))(t:wX):tV v t (l.map f)=tV v t l:=by
 unfold tV
 rw[List.foldl_map]
 congr 1
 funext t p
 unfold xe
 rw[a p]
theorem K6(l:List (bW × AV)):opsOf (lj (l.map f))=opsOf (lj l):=by
 induction l with
 | nil=>rfl
 | cons p l b=>
  have c:isDone (f p)=isDone p:=by unfold isDone;rw[a p]
  unfold lj at b ⊢
  rw[uC,Hy,Hy,c]
  split
  ·simp only[opsOf,uC,a p]at b ⊢
   rw[b]
  ·exact b
theorem TN(us:List Clear)(qs:List ah)(gr:Int)(l:List (bW × AV))(r:bW):BO us qs gr (l.map f) r=BO us qs gr l r:=by
 unfold BO Eu Kd F3 Iy
 rw[Ej a,D4 a,DX a,Jn (K6 a l)]
theorem Oj(us:List Clear)(qs:List ah)(gr:Int) : ∀(s pre:List (bW × AV)),I2 us qs gr (pre.map f) (s.map f)=I2 us qs gr pre s
 | [],pre=>rfl
 | p :: s,pre=>by
  rw[uC,I2,I2,a p,TN a,<-Oj us qs gr s (pre++[p]),He]
  rfl
theorem G2(us:List Clear)(qs:List ah)(gr:Int)(l:List (bW × AV)):(oD us qs gr (l.map f)).isSome=(oD us qs gr l).isSome:=by
 rw[<-Mc,<-Mc]
 unfold Wo
 rw[uD]
 have:=Oj a us qs gr l []
 rw[Lf]at this
 rw[this]
theorem WG(qs:List ah)(l:List (bW × AV))(o:aC):Eu qs (l.map f) o=Eu qs l o:=by
 unfold Eu Kd F3
 rw[DX a,Jn (K6 a l)]
end
theorem Sn{us0:List Clear}{qs:List ah}{gr0:Int}(hp:tY us0 qs gr0=true) : ∀(s pre:List (bW × AV)) (b b':eH),EW us0 qs gr0 pre b->pre.length+s.length<=2048->QN us0 qs gr0 b s=some b'->EW us0 qs gr0 (pre++s) b'
 | [],pre,b,b',h,_,e=>by
  rw[QN]at e
  injection e with e
  subst e
  simpa using h
 | p :: s,pre,b,b',h,d,e=>by
  simp only[sc]at d
  rw[QN]at e
  split at e
  ·rename_i c
   have:=Sn hp s (pre++[p]) _ b' (h.step hp (by omega) c.1 c.2) (by simp;omega) e
   simpa using this
  ·cases e
theorem QO{us:List Clear}{qs:List ah}{gr:Int}{l:List (bW × AV)}{b:eH}(h:oD us qs gr l=some b):tY us qs gr=true/\l.length<=2048:=by
 unfold oD at h
 split at h
 ·assumption
 ·cases h
theorem IV{us:List Clear}{qs:List ah}{gr:Int}{l:List (bW × AV)}{b:eH}(h:oD us qs gr l=some b):EW us qs gr l b:=by
 obtain⟨c,d⟩:=QO h
 unfold oD at h
 rw[if_pos ⟨c,d⟩]at h
 simpa using Sn c l [] _ b (EW.nil c) (by simpa using d) h
end
section
attribute [local simp] aG ay aw aF aE bQ gX aM aA aD bI bH bn aN aj bf fe
def W4(us:List Clear)(qs:List ah)(gr:Int)(l:List (bW × AV))(h:mz)(b:Int):AV:=if (oD us qs gr l).isSome=true/\dZ h=true then o7 h b l else .tup [aI 0,aI 8]
section
variable{f:bW × AV->bW × AV}(q : ∀p,(f p).1=p.1)
include q
theorem Jr(h:mz)(b:Int)(l:List (bW × AV)):o7 h b (l.map f)=o7 h b l:=by
 unfold o7
 have : ∀l:List (bW × AV),(l.map f).find? (Bl h b)=(l.find? (Bl h b)).map f:=by
  intro l
  induction l with
  | nil=>rfl
  | cons p l c=>
   have e:Bl h b (f p)=Bl h b p:=by unfold Bl;rw[q p]
   rw[uC,Hu,Hu,e]
   cases Bl h b p with
   | true=>rfl
   | false=>exact c
 rw[this]
 cases l.find? (Bl h b) with
 | none=>rfl
 | some p=>simp only[Option.map_some,q p]
theorem Zx(us:List Clear)(qs:List ah)(gr:Int)(l:List (bW × AV))(h:mz)(o:Int):wC us qs gr (l.map f) h o=W4 us qs gr l h o:=by
 unfold W4 wC
 have c:=G2 q us qs gr l
 cases k:oD us qs gr (l.map f) with
 | none=>
  rw[k]at c
  dsimp only
  rw[if_neg (λe=>by rw[<-c]at e;cases e.1)]
 | some b=>
  rw[k]at c
  simp only
  by_cases g:dZ h=true
  ·rw[if_pos g,if_pos ⟨c.symm,g⟩,Jr (f:=LF) (λ_=>rfl),Jr q]
  ·rw[if_neg g,if_neg (λe=>g e.2)]
end
section
variable{l:List (bW × AV)}{m:AV}(d:Sl 24 (bu l) m)(a : ∀p∈l,Gx p)
variable{B A:AV}{us:List Clear}{qs:List ah}{gr:Int}(t:Sl 3 (bR us) B)(z:Sl 5 (bL qs) A)(i:qs.length<1000)(j:us.length<1000)(n:l.length<10000)
include d a t z i j n
omit d t z i j n in
theorem IU(c:(oD us qs gr l).isSome=true) : ∀p∈l,AL p:=by
 obtain⟨b,e⟩:=gU.1 c
 exact λp hp=>⟨(a p hp).x,(a p hp).rng,ab4 e p hp⟩
end
section
variable{l:List (bW × AV)}{m:AV}(d:Sl 24 (bu l) m)(n:l.length<100000)
include d n
theorem SB{b1 b3:UInt8}{b2:UInt32}{K:Int}{r4:Ref}{H:aa}(N:H.get r4=some ⟨3,[.agg [a8 b1,ae b2,a8 b3]],false,false⟩){Q:AV->aa->Prop} : ∀(s:List (bW × AV)) (k:Nat),l.drop k=s->k<=l.length ->
 (∀y,y=(match s.find? (Bl ⟨b1,b2,b3⟩ K)with | some p=>AV.tup [aI p.1.code,aB true] | none => .tup [aI 0,aB false])->Q y H) ->
 bF env Tryz.f96 0 iM [(8,aI k),(0,m),(2,aI K),(4,.ptr r4 0 0)] H Q:=by
 intro s
 induction s with
 | nil=>
  rintro k hs hk hQ
  obtain rfl:=drop_nil hs hk
  have b:=hQ _ rfl
  have C:=eY l
  simp only[List.find?_nil]at b
  refine fF _ _ _ _ _ _ λg=>?_
  clear hQ
  simp[ai, *,eg,d.r]
  all_goals exact b
 | cons p s ih=>
  rintro k hs hk hQ
  obtain⟨E,hg,I,L⟩:=drop_cons hs
  have e1:=IntWalk.i64_in ((k:Int)+1) (by omega)
  have D:=C6 L
  have C:=eY l
  have hlt':(k:Int)<l.length:=by omega
  have h:=ih (k+1) I (by omega)
  rw[show((k+1:Nat):Int)=(k:Int)+1 from by omega]at h
  clear ih hs I hg L
  obtain⟨⟨k1,u,⟨a1,⟨J,M,G⟩,V,⟨⟨⟨a6,a7,O⟩,a9⟩,X⟩,⟨⟨T,Y,U⟩,S⟩,⟨Z,P⟩,al⟩,c,g1,v,w,o⟩,x⟩:=p
  have hi:Bl ⟨b1,b2,b3⟩ K (⟨⟨k1,u,⟨a1,⟨J,M,G⟩,V,⟨⟨⟨a6,a7,O⟩,a9⟩,X⟩,⟨⟨T,Y,U⟩,S⟩,⟨Z,P⟩,al⟩,c,g1,v,w,o⟩,x⟩:bW × AV)=(decide (k1=2)&&(decide (J=b1/\M=b2/\G=b3)&&decide (V=K))):=by
   simp[Bl]
  rw[Hu,hi]at hQ
  clear hi
  generalize bu l=er at *
  by_cases R:k1=2
  ·subst R
   by_cases hh:J=b1/\M=b2/\G=b3
   ·obtain⟨rfl,rfl,rfl⟩:=hh
    by_cases F:V=K
    ·subst F
     simp at hQ
     refine fF _ _ _ _ _ _ λg=>?_
     simp[ai, *,eg,d.r,d.idx,E,C,D,bW.val,fw,bM,N]
     all_goals exact hQ
    ·simp[F]at hQ
     have b:=h (λy e=>by subst e;exact hQ)
     clear hQ h
     refine fF _ _ _ _ _ _ λg=>?_
     simp[ai, *,eg,d.r,d.idx,E,C,D,bW.val,fw,bM,N,F]
     all_goals exact b
   ·simp[hh]at hQ
    have b:=h (λy e=>by subst e;exact hQ)
    clear hQ h
    have W:(decide (J=b1)&&decide (M=b2)&&decide (G=b3))=false:=by
     by_cases q1:J=b1<;>by_cases q2:M=b2<;>by_cases q3:G=b3<;>simp[q1,q2,q3]at hh ⊢
    refine fF _ _ _ _ _ _ λg=>?_
    simp[ai, *,eg,d.r,d.idx,E,C,D,bW.val,fw,bM,N,W]
    all_goals exact b
  ·simp[R]at hQ
   have b:=h (λy e=>by subst e;exact hQ)
   clear hQ h
   refine fF _ _ _ _ _ _ λg=>?_
   simp[ai, *,eg,d.r,d.idx,E,C,D,bW.val,fw,bM,N,R]
   all_goals exact b
theorem S1(b1:UInt8)(b2:UInt32)(b3:UInt8)(b:Int):ak env 96 [m,.agg [a8 b1,ae b2,a8 b3],aI b]=some (match l.find? (Bl ⟨b1,b2,b3⟩ b)with | some p => .tup [aI p.1.code,aB true] | none => .tup [aI 0,aB false]):=by
 refine an rfl (by kernel_rfl) (yT _ _ _ _ _ λg=>?_)
 simp[ai, *,rH,d.r]
 refine SB d n (b1:=b1) (b2:=b2) (b3:=b3) (r4:=⟨0,4,0,0⟩) (by simp) l 0 rfl (by omega) (λy e=>?_)
 subst e
 split
 ·simp
 ·simp
end
section
variable{l:List (bW × AV)}{m:AV}(d:Sl 24 (bu l) m)(a : ∀p∈l,Gx p)
variable{B A:AV}{us:List Clear}{qs:List ah}{gr:Int}(t:Sl 3 (bR us) B)(z:Sl 5 (bL qs) A)(i:qs.length<1000)(j:us.length<1000)(n:l.length<10000)
include d a t z i j n
end
end
section
attribute [local simp] aG ay aw aF aE bQ gX aM aA aD bI bH bn aN aj bf fe zR
def F4(p:bW × AV):bW × AV:=(p.1,m8 1 (rows p.1.op.l))
theorem UG(p:bW × AV):(F4 p).1=p.1:=rfl
theorem S6{p:bW × AV}(b:Sl 1 (rows p.1.op.l) p.2)(d:p.1.op.l.length<100000):ak env 55 [p.1.val p.2]=some ((F4 p).1.val (F4 p).2):=by
 obtain⟨⟨k,u,⟨B,⟨G,A,E⟩,D,⟨⟨⟨t,F,z⟩,C⟩,h⟩,⟨⟨m,i,n⟩,f⟩,⟨q,j⟩,l⟩,c,I,v,w,o⟩,x⟩:=p
 simp only at b d
 have J:=IB B G A E D t F z C h m i n f q j b d
 have H:=(pr 1 (rows l)).r
 refine an rfl (by kernel_rfl) (y3 _ _ _ λg=>?_)
 unfold F4 bW.val
 simp only
 generalize m8 1 (rows l)=y at *
 simp[ai, *,rM,b.r]
section
variable{l:List (bW × AV)}{e:AV}(b:Sl 24 (bu l) e)(d:l.length<10000)(a : ∀p∈l,Gx p)
include b d a
end
end
section
attribute [local simp] aG ay aw aF aE bQ gX aM aA aD bI bH bn aN aj bf fe
def IY(us:List Clear)(gr:Int)(l:List (bW × AV))(h:mz):Bool:=(gj h ⟨false,0,0⟩ l).o&&eL (fy us gr l).1 (gj h ⟨false,0,0⟩ l).u h.lv h.cats
def xt(us:List Clear)(qs:List ah)(gr:Int)(l:List (bW × AV))(h:mz)(c:Int):JM:=
 if (gj h ⟨false,0,0⟩ l).o then (if decide ((gj h ⟨false,0,0⟩ l).u=c)&&IY us gr l h then lu 0 else lu 230)
 else if !eL (fy us gr l).1 c h.lv h.cats then lu 230 else if (la qs h.lv h.cats).opens<=(tV ⟨h.lv,h.cats⟩ ⟨0,0,0⟩ l).opens then lu 9 else ⟨0,true,V7 h c,ba⟩
def Ii(h:mz)(c:Int)(l:List (bW × AV)):Int:=match l.find? (Bl h c)with | some p=>p.1.code | none=>0
def F5(us:List Clear)(qs:List ah)(gr:Int)(l:List (bW × AV))(h:mz)(o:aC):JM:=
 if !decide (o.h=h)||decide (-1∈o.l) then lu 8 else if !IY us gr l h then lu 230 else if o.serial<=(gj h ⟨false,0,0⟩ l).s then lu (Ii h o.serial l)
 else if IntKind.i64.wrap ((gj h ⟨false,0,0⟩ l).s+1)<o.serial then lu 231 else if (la qs h.lv h.cats).ops<=(tV ⟨h.lv,h.cats⟩ ⟨0,0,0⟩ l).ops then lu 9 else ⟨Eu qs l o,true,opR o (Eu qs l o),m8 1 (rows o.l)⟩
def AY(us:List Clear)(qs:List ah)(gr:Int)(l:List (bW × AV))(h:mz)(c:Int):JM × Int:=if (oD us qs gr l).isSome=true/\dZ h=true/\0<=c/\c<=255 then (xt us qs gr l h c,0) else (lu 0,8)
def BA(us:List Clear)(qs:List ah)(gr:Int)(l:List (bW × AV))(h:mz)(o:aC):JM × Int:=if (oD us qs gr l).isSome=true/\dZ h=true/\lT o=true then (F5 us qs gr l h o,0) else (lu 0,8)
def Ol(us:List Clear)(qs:List ah)(gr:Int)(l:List (bW × AV))(h:mz):Bool × Int:=if (oD us qs gr l).isSome=true/\dZ h=true then (IY us gr l h,0) else (false,8)
theorem rp(e:Int):ak env 177 [aI e]=some (lu e).av:=by
 rw[fm]
 unfold dx
 refine an rfl (by kernel_rfl) (yR _ _ _ λg=>?_)
 simp[ai, *,rF]
section
variable{l:List (bW × AV)}{m:AV}(b:Sl 24 (bu l) m)(k:l.length<10000)(a : ∀p∈l,AL p)
variable{q n:AV}{us:List Clear}{qs:List ah}{gr:Int}(f:Sl 3 (bR us) q)(i:Sl 5 (bL qs) n)(j:qs.length<1000)(d:us.length<1000)
include b k a f i j d
theorem ID(c:UInt8)(e:UInt32)(h:UInt8):ak env 132 [.agg [q,n,aI gr],m,.agg [a8 c,ae e,a8 h]]=some (aB (IY us gr l ⟨c,e,h⟩)):=by
 obtain⟨x,y,t,o,A⟩:=IE (gr:=gr) b j (by omega) (Mn k a j d) f i d
 have v:=GW b (by omega) c e h
 have z:(fy us gr l).1.length<1000:=by rw[IW];exact d
 have w:=GX (gr:=(fy us gr l).2) t o (by omega) (by omega) (gj ⟨c,e,h⟩ ⟨false,0,0⟩ l).u c e
 unfold IY
 generalize eL (fy us gr l).1 (gj ⟨c,e,h⟩ ⟨false,0,0⟩ l).u c e=ob at *
 generalize gj ⟨c,e,h⟩ ⟨false,0,0⟩ l=sl at *
 generalize fy us gr l=nf at *
 obtain⟨s1,s2,B⟩:=sl
 simp only at w v
 clear a
 refine an rfl (by kernel_rfl) (zS _ _ _ _ _ λg=>?_)
 cases s1 with
 | false=>simp[ai, *,nz,b.r,f.r,i.r,v]
 | true=>simp[ai, *,nz,b.r,f.r,i.r,v,t.r,o.r,A,w]
theorem NB(c:UInt8)(h:UInt32)(t:UInt8)(o:Int):ak env 130 [.agg [q,n,aI gr],m,.agg [a8 c,ae h,a8 t],aI o]=some (xt us qs gr l ⟨c,h,t⟩ o).av:=by
 obtain⟨I,J,u,v,z⟩:=IE (gr:=gr) b j (by omega) (Mn k a j d) f i d
 have w:=GW b (by omega) c h t
 have B:=Ai b (by omega) c h
 have D:=LP (gr:=gr) f i (by omega) c h
 have H:(fy us gr l).1.length<1000:=by rw[IW];exact d
 have A:=GX (gr:=(fy us gr l).2) u v (by omega) (by omega) o c h
 have E:=ID (gr:=gr) b k a f i j d c h t
 have y:=rp 0
 have x:=rp 230
 have C:=rp 9
 rw[fm]at y x C
 unfold xt
 dsimp only
 generalize IY us gr l ⟨c,h,t⟩=nd at *
 generalize eL (fy us gr l).1 o c h=ob at *
 generalize gj ⟨c,h,t⟩ ⟨false,0,0⟩ l=sl at *
 generalize tV ⟨c,h⟩ ⟨0,0,0⟩ l=ul at *
 generalize la qs c h=qo at *
 generalize fy us gr l=nf at *
 obtain⟨s1,s2,K⟩:=sl
 obtain⟨G,L,O⟩:=ul
 obtain⟨q1,q2,F,N,M⟩:=qo
 simp only at w B D ⊢
 unfold dx at y x C
 clear a
 cases s1 with
 | true=>
  rw[if_pos rfl]
  by_cases e:s2=o
  ·subst e
   cases nd with
   | true=>
    rw[if_pos (by simp),fm]
    unfold dx
    refine an rfl (by kernel_rfl) (ed _ _ _ _ _ _ λg=>?_)
    simp[ai, *,df,b.r,f.r,i.r,w,E,y]
   | false=>
    rw[if_neg (by simp),fm]
    unfold dx
    refine an rfl (by kernel_rfl) (ed _ _ _ _ _ _ λg=>?_)
    simp[ai, *,df,b.r,f.r,i.r,w,E,x]
  ·rw[if_neg (by simp[e]),fm]
   unfold dx
   refine an rfl (by kernel_rfl) (ed _ _ _ _ _ _ λg=>?_)
   simp[ai, *,df,b.r,f.r,i.r,w,e,x]
 | false=>
  rw[if_neg (by simp)]
  cases ob with
  | false=>
   rw[if_pos (by simp),fm]
   unfold dx
   refine an rfl (by kernel_rfl) (ed _ _ _ _ _ _ λg=>?_)
   simp[ai, *,df,b.r,f.r,i.r,u.r,v.r,w,z,A,x]
  | true=>
   rw[if_neg (by simp)]
   by_cases e:F<=G
   ·rw[if_pos e,fm]
    unfold dx
    refine an rfl (by kernel_rfl) (ed _ _ _ _ _ _ λg=>?_)
    simp[ai, *,df,b.r,f.r,i.r,u.r,v.r,w,z,A,B,D,ah.enc,e,C]
   ·rw[if_neg e]
    unfold JM.av V7 vP
    refine an rfl (by kernel_rfl) (ed _ _ _ _ _ _ λg=>?_)
    simp[ai, *,df,b.r,f.r,i.r,u.r,v.r,w,z,A,B,D,ah.enc,e]
theorem IC(c:UInt8)(e:UInt32)(h:UInt8)(I:UInt8)(v:UInt8)(t:UInt32)(u:UInt8)(o:Int)(G:UInt8)(F:UInt32)(E:UInt8)(H:Int)(w:Int)(D:UInt8)(y:UInt32)(A:UInt8)(C:Int)(B:UInt8)(z:UInt32){x:AV}{al:List Int}(J:Sl 1 (rows al) x)(W:eJ ⟨⟨⟨G,F,E⟩,H⟩,w⟩=true)(M:qR al)(K:al.length<100000) :
 ak env 131 [.agg [q,n,aI gr],m,.agg [a8 c,ae e,a8 h],.agg [a8 I,a8 v,ae t,a8 u,aI o,a8 G,ae F,a8 E,aI H,aI w,a8 D,ae y,a8 A,aI C,a8 B,ae z,x]]=some (F5 us qs gr l ⟨c,e,h⟩ (⟨I,⟨v,t,u⟩,o,⟨⟨⟨G,F,E⟩,H⟩,w⟩,⟨⟨D,y,A⟩,C⟩,⟨B,z⟩,al⟩:aC)).av:=by
 have hF:=GW b (by omega) c e h
 have hS:=Ai b (by omega) c e
 have hO:=LP (gr:=gr) f i (by omega) c e
 have hW:=ID (gr:=gr) b k a f i j d c e h
 have R:=S1 b (by omega) c e h o
 have hJ:=F7 (gr:=gr) b k a f i j d I v t u o G F E H w D y A C B z J W M K
 have hPl:=Kz I v t u o G F E H w D y A C B z J K
 have hTw:=IB I v t u o G F E H w D y A C B z J K
 have hor:=(pr 1 (rows al)).r
 have c0:=rp 8
 have V:=rp 230
 have c2:=rp 9
 have U:=rp 231
 have Y:=rp (Ii ⟨c,e,h⟩ o l)
 have Q : ∃T,ak env 96 [m,.agg [a8 c,ae e,a8 h],aI o]=some (.tup [aI (Ii ⟨c,e,h⟩ o l),aB T]):=by
  rw[R]
  unfold Ii
  cases l.find? (Bl ⟨c,e,h⟩ o) with
  | none=>exact⟨false,rfl⟩
  | some p=>exact⟨true,rfl⟩
 clear R
 obtain⟨T,R⟩:=Q
 rw[fm]at c0 V c2 U Y
 have N:decide ((⟨v,t,u⟩:mz)=⟨c,e,h⟩)=(decide (v=c)&&(decide (t=e)&&decide (u=h))):=by simp
 unfold F5
 dsimp only
 rw[N]
 generalize Eu qs l (⟨I,⟨v,t,u⟩,o,⟨⟨⟨G,F,E⟩,H⟩,w⟩,⟨⟨D,y,A⟩,C⟩,⟨B,z⟩,al⟩:aC)=jr at *
 generalize Ii ⟨c,e,h⟩ o l=tc at *
 generalize IY us gr l ⟨c,e,h⟩=nd at *
 generalize gj ⟨c,e,h⟩ ⟨false,0,0⟩ l=sl at *
 generalize tV ⟨c,e⟩ ⟨0,0,0⟩ l=ul at *
 generalize la qs c e=qo at *
 generalize decide (-1∈al)=bl at *
 generalize m8 1 (rows al)=ox at *
 obtain⟨s1,s2,S⟩:=sl
 obtain⟨u1,u2,u3⟩:=ul
 obtain⟨q1,q2,O,q4,q5⟩:=qo
 simp only at hF hS hO ⊢
 unfold dx at c0 V c2 U Y
 have hxr:=b.r
 have hur:=f.r
 have hqr:=i.r
 have har:=J.r
 clear a W N b f i J M
 by_cases P:v=c/\t=e/\u=h
 ·obtain⟨rfl,rfl,rfl⟩:=P
  cases bl with
  | true=>
   rw[if_pos (by simp),fm]
   unfold dx
   refine an rfl (by kernel_rfl) (cI _ _ _ _ _ _ λg=>?_)
   simp[ai, *,bZ,fw,bM]
  | false=>
   rw[if_neg (by simp)]
   cases nd with
   | false=>
    rw[if_pos (by simp),fm]
    unfold dx
    refine an rfl (by kernel_rfl) (cI _ _ _ _ _ _ λg=>?_)
    simp[ai, *,bZ,fw,bM]
   | true=>
    rw[if_neg (by simp)]
    by_cases X:o<=S
    ·rw[if_pos X,fm]
     unfold dx
     refine an rfl (by kernel_rfl) (cI _ _ _ _ _ _ λg=>?_)
     simp[ai, *,bZ,fw,bM]
    ·rw[if_neg X]
     by_cases e2:IntKind.i64.wrap (S+1)<o
     ·rw[if_pos e2,fm]
      unfold dx
      refine an rfl (by kernel_rfl) (cI _ _ _ _ _ _ λg=>?_)
      simp[ai, *,bZ,fw,bM]
     ·rw[if_neg e2]
      by_cases Z:q4<=u2
      ·rw[if_pos Z,fm]
       unfold dx
       refine an rfl (by kernel_rfl) (cI _ _ _ _ _ _ λg=>?_)
       simp[ai, *,bZ,fw,bM,ah.enc]
      ·rw[if_neg Z]
       unfold JM.av opR
       refine an rfl (by kernel_rfl) (cI _ _ _ _ _ _ λg=>?_)
       simp[ai, *,bZ,fw,bM,ah.enc]
 ·have hh':(!decide (v=c) || !decide (t=e) || !decide (u=h))=true:=by
   by_cases q1:v=c<;>by_cases q2:t=e<;>by_cases O:u=h<;>simp[q1,q2,O]at P ⊢
  have L:(!(decide (v=c)&&(decide (t=e)&&decide (u=h)))||bl)=true:=by
   by_cases q1:v=c<;>by_cases q2:t=e<;>by_cases O:u=h<;>simp[q1,q2,O]at P ⊢
  rw[if_pos L,fm]
  unfold dx
  clear P L
  refine an rfl (by kernel_rfl) (cI _ _ _ _ _ _ λg=>?_)
  simp[ai, *,bZ,fw,bM]
end
section
variable{l:List (bW × AV)}{m:AV}(b:Sl 24 (bu l) m)(a : ∀p∈l,Gx p)
variable{q n:AV}{us:List Clear}{qs:List ah}{gr:Int}(f:Sl 3 (bR us) q)(i:Sl 5 (bL qs) n)(j:qs.length<1000)(d:us.length<1000)(k:l.length<10000)
include b a f i j d k
theorem Vj(c:UInt8)(e:UInt32)(h:UInt8):ak env 60 [.agg [q,n,aI gr],m,.agg [a8 c,ae e,a8 h]]=some (.tup [aB (Ol us qs gr l ⟨c,e,h⟩).1,aI (Ol us qs gr l ⟨c,e,h⟩).2]):=by
 have t:=Fk (gr:=gr) b a f i j d (by omega)
 have v:=vw c e h
 have o:=IU (us:=us) (qs:=qs) (gr:=gr) a
 have u:=λw=>ID (gr:=gr) b k w f i j d c e h
 unfold Ol
 generalize (oD us qs gr l).isSome=ob at *
 generalize dZ ⟨c,e,h⟩=hb at *
 refine an rfl (by kernel_rfl) (zT _ _ _ _ _ λg=>?_)
 cases ob with
 | false=>simp[ai, *,kC,b.r,f.r,i.r,t]
 | true=>
  cases hb with
  | false=>simp[ai, *,kC,b.r,f.r,i.r,t,v]
  | true=>
   have u:=u (o rfl)
   generalize IY us gr l ⟨c,e,h⟩=nd at *
   clear o a
   simp[ai, *,kC,b.r,f.r,i.r,t,v,u]
theorem S0(h:UInt8)(t:UInt32)(e:UInt8)(c:Int):ak env 57 [.agg [q,n,aI gr],m,.agg [a8 h,ae t,a8 e],aI c]=some (.tup [(AY us qs gr l ⟨h,t,e⟩ c).1.av,aI (AY us qs gr l ⟨h,t,e⟩ c).2]):=by
 have hM:=Fk (gr:=gr) b a f i j d (by omega)
 have hH:=vw h t e
 have u:=IU (us:=us) (qs:=qs) (gr:=gr) a
 have w:=λS=>NB (gr:=gr) b k S f i j d h t e c
 have K:=b.r
 have L:=f.r
 have V:=i.r
 unfold AY
 generalize (oD us qs gr l).isSome=ob at *
 generalize dZ ⟨h,t,e⟩=hb at *
 clear b f i a
 by_cases y:ob=true/\hb=true/\0<=c/\c<=255
 ·obtain⟨rfl,rfl,H,z⟩:=y
  have w:=w (u rfl)
  rw[if_pos ⟨rfl,rfl,H,z⟩]
  dsimp only
  have C:(xt us qs gr l ⟨h,t,e⟩ c).x=ba:=by
   unfold xt
   repeat' split
   all_goals rfl
  generalize xt us qs gr l ⟨h,t,e⟩ c=od at *
  obtain⟨oc,X,⟨ok,Y,⟨R,⟨N,J,U⟩,M,⟨⟨⟨Q,P,O⟩,T⟩,F⟩,⟨⟨I,E,A⟩,D⟩,⟨G,B⟩,W⟩,c',Z,v,w',o⟩,bx⟩:=od
  unfold JM.av at w ⊢
  dsimp only at w C ⊢
  subst C
  clear u
  have n0 : ¬c<0:=by omega
  have n1 : ¬255<c:=by omega
  refine an rfl (by kernel_rfl) (rf _ _ _ _ _ _ λg=>?_)
  simp[ai, *,eZ]
 ·rw[if_neg y]
  dsimp only
  rw[fm]
  unfold dx
  clear u w
  refine an rfl (by kernel_rfl) (rf _ _ _ _ _ _ λg=>?_)
  cases ob with
  | false=>simp[ai, *,eZ]
  | true=>
   cases hb with
   | false=>simp[ai, *,eZ]
   | true=>
    by_cases H:c<0
    ·clear y
     simp[ai, *,eZ]
    ·have z:255<c:=by
      by_cases z:255<c
      ·exact z
      ·exact(y ⟨rfl,rfl,by omega,by omega⟩).elim
     clear y
     simp[ai, *,eZ]
theorem NA(N:UInt8)(O:UInt32)(M:UInt8)(J:UInt8)(L:UInt8)(H:UInt32)(I:UInt8)(K:Int)(F:UInt8)(E:UInt32)(D:UInt8)(G:Int)(t:Int)(C:UInt8)(u:UInt32)(y:UInt8)(B:Int)(A:UInt8)(w:UInt32){x:AV}{al:List Int}(P:Sl 1 (rows al) x)(U:qR al)(V:al.length<100000) :
 ak env 58 [.agg [q,n,aI gr],m,.agg [a8 N,ae O,a8 M],.agg [a8 J,a8 L,ae H,a8 I,aI K,a8 F,ae E,a8 D,aI G,aI t,a8 C,ae u,a8 y,aI B,a8 A,ae w,x]]=some (.tup [(BA us qs gr l ⟨N,O,M⟩ (⟨J,⟨L,H,I⟩,K,⟨⟨⟨F,E,D⟩,G⟩,t⟩,⟨⟨C,u,y⟩,B⟩,⟨A,w⟩,al⟩:aC)).1.av,aI (BA us qs gr l ⟨N,O,M⟩ (⟨J,⟨L,H,I⟩,K,⟨⟨⟨F,E,D⟩,G⟩,t⟩,⟨⟨C,u,y⟩,B⟩,⟨A,w⟩,al⟩:aC)).2]):=by
 have hM:=Fk (gr:=gr) b a f i j d (by omega)
 have hH:=vw N O M
 have hB:=RL J L H I K F E D G t C u y B A w P (by omega) U
 have Q:=IU (us:=us) (qs:=qs) (gr:=gr) a
 have T:=λhg hs=>IC (gr:=gr) b k hg f i j d N O M J L H I K F E D G t C u y B A w P hs U V
 have R:lT (⟨J,⟨L,H,I⟩,K,⟨⟨⟨F,E,D⟩,G⟩,t⟩,⟨⟨C,u,y⟩,B⟩,⟨A,w⟩,al⟩:aC)=true->eJ ⟨⟨⟨F,E,D⟩,G⟩,t⟩=true:=λh=>kU h
 have hxr:=b.r
 have hur:=f.r
 have hqr:=i.r
 have har:=P.r
 unfold BA
 generalize (oD us qs gr l).isSome=ob at *
 generalize dZ ⟨N,O,M⟩=hb at *
 generalize lT (⟨J,⟨L,H,I⟩,K,⟨⟨⟨F,E,D⟩,G⟩,t⟩,⟨⟨C,u,y⟩,B⟩,⟨A,w⟩,al⟩:aC)=pb at *
 clear b f i a P
 by_cases S:ob=true/\hb=true/\pb=true
 ·obtain⟨rfl,rfl,rfl⟩:=S
  have T:=T (Q rfl) (R rfl)
  rw[if_pos ⟨rfl,rfl,rfl⟩]
  dsimp only
  have X : ∃z:AV,(F5 us qs gr l ⟨N,O,M⟩ (⟨J,⟨L,H,I⟩,K,⟨⟨⟨F,E,D⟩,G⟩,t⟩,⟨⟨C,u,y⟩,B⟩,⟨A,w⟩,al⟩:aC)).x=z/\(z=ba \/∃es c,z = .cD 1 es c):=by
   refine⟨_,rfl,?_⟩
   unfold F5
   repeat' split
   all_goals first | exact .inl rfl | skip
   show m8 1 (rows al)=ba\/_
   by_cases e:rows al=[]
   ·rw[e];exact .inl rfl
   ·rw[xp 1 e];exact .inr ⟨_,_,rfl⟩
  obtain⟨z,Y,W⟩:=X
  generalize F5 us qs gr l ⟨N,O,M⟩ (⟨J,⟨L,H,I⟩,K,⟨⟨⟨F,E,D⟩,G⟩,t⟩,⟨⟨C,u,y⟩,B⟩,⟨A,w⟩,al⟩:aC)=od at *
  obtain⟨oc,ow,⟨ok,ou,⟨b_1,⟨b_2,b_3,b_4⟩,b_5,⟨⟨⟨b_6,b_7,b_8⟩,b_9⟩,b_10⟩,⟨⟨b_11,b_12,b_13⟩,Z⟩,⟨b_15,b_16⟩,bl⟩,c',g1,v,w',o⟩,bx⟩:=od
  unfold JM.av at T ⊢
  dsimp only at T Y ⊢
  subst Y
  clear Q R
  rcases W with rfl | ⟨es,c,rfl⟩
  ·refine an rfl (by kernel_rfl) (lA _ _ _ _ _ _ λg=>?_)
   simp[ai, *,ef]
  ·refine an rfl (by kernel_rfl) (lA _ _ _ _ _ _ λg=>?_)
   simp[ai, *,ef]
 ·rw[if_neg S]
  dsimp only
  rw[fm]
  unfold dx
  clear Q T R
  refine an rfl (by kernel_rfl) (lA _ _ _ _ _ _ λg=>?_)
  cases ob with
  | false=>
   clear S
   simp[ai, *,ef]
  | true=>
   cases hb with
   | false=>
    clear S
    simp[ai, *,ef]
   | true=>
    cases pb with
    | false=>
     clear S
     simp[ai, *,ef]
    | true=>exact(S ⟨rfl,rfl,rfl⟩).elim
end
end
section
def JM.Qf(u:JM)(z:AV):JM := { u with x:=if u.write then z else ba}
theorem Dh(e:Int)(z:AV):(lu e).Qf z=lu e:=rfl
section
variable{f:bW × AV->bW × AV}(c : ∀p,(f p).1=p.1)
include c
theorem YC(us:List Clear)(qs:List ah)(gr:Int)(l:List (bW × AV))(h:mz)(d:Int):Oc us qs gr (l.map f) h d=AY us qs gr l h d:=by
 unfold AY Oc
 have k:=G2 c us qs gr l
 cases j:oD us qs gr (l.map f) with
 | none=>
  rw[j]at k
  rw[if_neg (λe=>by rw[<-k]at e;cases e.1)]
 | some b=>
  rw[j]at k
  dsimp only
  by_cases g:dZ h=true/\0<=d/\d<=255
  ·rw[if_pos g,if_pos ⟨k.symm,g.1,g.2.1,g.2.2⟩]
   congr 1
   have i:=IV j
   obtain⟨hp,z⟩:=QO j
   have w:=Ey g.1
   obtain⟨m,t,y⟩:=i.ses h
   have n:=i.use ⟨h.lv,h.cats⟩
   have q:=i.us
   have v:=i.NU hp z h.cats w
   have x:=vH (a:=h.lv) i.pol w
   rw[D4 c]at m t y
   rw[DX c]at n
   rw[Ej c]at q
   unfold RW xt IY nV Bj
   rw[m,t,n,v,x,q]
   clear m t y n q v x i j k g
   generalize (gj h ⟨false,0,0⟩ l).o=so
   generalize (gj h ⟨false,0,0⟩ l).u=su
   generalize (fy us gr l).1=nu
   cases so with
   | false=>cases eL nu d h.lv h.cats<;>simp
   | true=>
    by_cases e:su=d
    ·subst e
     cases eL nu su h.lv h.cats<;>simp
    ·cases eL nu d h.lv h.cats<;>simp[e]
  ·rw[if_neg g,if_neg (λe=>g e.2)]
theorem ab9(us:List Clear)(qs:List ah)(gr:Int)(l:List (bW × AV))(h:mz):Wp us qs gr (l.map f) h=Ol us qs gr l h:=by
 unfold Ol Wp
 have g:=G2 c us qs gr l
 cases i:oD us qs gr (l.map f) with
 | none=>
  rw[i]at g
  rw[if_neg (λe=>by rw[<-g]at e;cases e.1)]
 | some b=>
  rw[i]at g
  dsimp only
  by_cases d:dZ h=true
  ·rw[if_pos d,if_pos ⟨g.symm,d⟩]
   congr 1
   have j:=IV i
   have o:=Ey d
   obtain⟨m,n,t⟩:=j.ses h
   have k:=j.us
   have q:=vH (a:=h.lv) j.pol o
   rw[D4 c]at m n t
   rw[Ej c]at k
   unfold IY nV
   rw[m,n,q,k]
   simp
  ·rw[if_neg d,if_neg (λe=>d e.2)]
theorem P7(h:mz)(a:Int)(l:List (bW × AV)):OL (o7 h a l)=Ii h a l:=by
 unfold o7 Ii
 cases l.find? (Bl h a) with
 | none=>rfl
 | some p=>rfl
theorem abe(us:List Clear)(qs:List ah)(gr:Int)(l:List (bW × AV))(h:mz)(o:aC)(x z:AV):(Fh us qs gr (l.map f) h o x).1.Qf z=(BA us qs gr l h o).1.Qf z/\(Fh us qs gr (l.map f) h o x).2=(BA us qs gr l h o).2:=by
 have g:=Zx c us qs gr l h o.serial
 unfold BA Fh
 have k:=G2 c us qs gr l
 cases j:oD us qs gr (l.map f) with
 | none=>
  rw[j]at k
  rw[if_neg (λe=>by rw[<-k]at e;cases e.1)]
  exact⟨rfl,rfl⟩
 | some b=>
  rw[j]at k
  dsimp only
  by_cases d:dZ h=true/\lT o=true
  ·rw[if_pos d,if_pos ⟨k.symm,d.1,d.2⟩]
   refine⟨?_,rfl⟩
   dsimp only
   have i:=IV j
   obtain⟨hp,w⟩:=QO j
   have n:=Ey d.1
   obtain⟨m,A,t⟩:=i.ses h
   obtain⟨n1,n2,n3⟩:=i.num h
   have q:=i.use ⟨h.lv,h.cats⟩
   have y:=i.us
   have C:=i.NU hp w h.cats n
   have D:=vH (a:=h.lv) i.pol n
   have E:=λj:o.h=h=>i.verdict hp w d.2 (by rw[j];exact n)
   rw[WG c]at E
   rw[D4 c]at m A t n1 n2
   rw[DX c]at q
   rw[Ej c]at y
   unfold W4 at g
   rw[if_pos ⟨k.symm,d.1⟩]at g
   have F:IntKind.i64.wrap ((gj h ⟨false,0,0⟩ l).s+1)=(gj h ⟨false,0,0⟩ l).s+1:=IntWalk.i64_in _ (by omega)
   unfold UT F5 IY nV Bj
   rw[g,P7 c,m,A,t,q,C,D,y,F]
   clear m A t q y C D i j k d g F n1 n2 n3 hp w
   have G:(decide ((0:Int)=0)&&eL (fy us gr l).1 (gj h ⟨false,0,0⟩ l).u h.lv h.cats)=eL (fy us gr l).1 (gj h ⟨false,0,0⟩ l).u h.lv h.cats:=by simp
   have v:(!(gj h ⟨false,0,0⟩ l).o || !eL (fy us gr l).1 (gj h ⟨false,0,0⟩ l).u h.lv h.cats) = !((gj h ⟨false,0,0⟩ l).o&&eL (fy us gr l).1 (gj h ⟨false,0,0⟩ l).u h.lv h.cats):=by
    cases(gj h ⟨false,0,0⟩ l).o<;>simp
   rw[G,v]
   by_cases B:o.h=h
   ·rw[E B]
    split
    ·rfl
    ·split
     ·rfl
     ·split
      ·rfl
      ·split
       ·rfl
       ·split
        ·rfl
        ·rfl
   ·rw[if_pos (by simp[B]),if_pos (by simp[B])]
  ·rw[if_neg d,if_neg (λe=>d e.2)]
   exact⟨rfl,rfl⟩
end
end
section
attribute [local simp] aG ay aw aF aE zt gX aM aA aD bI bH bn aN aj bf fe
attribute [local simp] zE bsO eb
theorem QG(es:List AV):ym 1 es=ba\/(es≠[]/\ym 1 es = .fsl 1 es none):=by
 cases es with
 | nil=>exact .inl rfl
 | cons x es=>exact .inr ⟨by simp,rfl⟩
theorem WE(G:UInt8)(L:UInt8)(F:UInt32)(J:UInt8)(I:Int)(D:UInt8)(K:UInt32)(E:UInt8)(H:Int)(w:Int)(z:UInt8)(x:UInt32)(A:UInt8)(e:Int)(B:UInt8)(y:UInt32){l:List Int}(Q:l.length<1000000):ak bT 108 [.agg [a8 G,a8 L,ae F,a8 J,aI I,a8 D,ae K,a8 E,aI H,aI w,a8 z,ae x,a8 A,aI e,a8 B,ae y,m8 1 (rows l)]]=some (.agg [a8 G,a8 L,ae F,a8 J,aI I,a8 D,ae K,a8 E,aI H,aI w,a8 z,ae x,a8 A,aI e,a8 B,ae y,ym 1 (rows l)]):=by
 have C:=kW (by rfl) (Fi (pr 1 (rows l)) (by omega) (by omega))
 by_cases M:rows l=[]
 ·rw[M]at C ⊢
  have O:m8 1 []=ba:=rfl
  have P:ym 1 []=ba:=rfl
  rw[O]at C ⊢
  rw[P]
  rw[O8]at C
  refine pt (fn:=Tryz.f108) (c:=AA) rfl (by kernel_rfl) (by kernel_rfl) (by kernel_rfl) (by kernel_rfl) ?_;refine DV _ _ _ λg=>?_
  simp[ai, *,AK]
 ·rw[xp 1 M]at C ⊢
  rw[Ap 1 M]
  rw[rE 1 none M]at C
  have N:(rows l).length=l.length:=by simp
  generalize rows l=rw' at *
  refine pt (fn:=Tryz.f108) (c:=AA) rfl (by kernel_rfl) (by kernel_rfl) (by kernel_rfl) (by kernel_rfl) ?_;refine DV _ _ _ λg=>?_
  simp[ai, *,AK]
section
variable{t q:AV}{us h:List Clear}{qs:List ah}{gr:Int}(j:Sl 3 (bR us) t)(k:Sl 5 (bL qs) q)(i:us.length<1000000)(d:qs.length<1000000){l:List (bW × AV)}{o:AV}(m:Sl 24 (bu l) o)(a : ∀p∈l,tA p)
include j k i d m a
theorem ag6(H:UInt8)(M:UInt8)(G:UInt32)(K:UInt8)(J:Int)(E:UInt8)(L:UInt32)(F:UInt8)(I:Int)(y:Int)(B:UInt8)(z:UInt32)(C:UInt8)(w:Int)(D:UInt8)(A:UInt32){al:List Int}(O:al.length<1000000){P:Int}(R:Lw us qs gr l (⟨H,⟨M,G,K⟩,J,⟨⟨⟨E,L,F⟩,I⟩,y⟩,⟨⟨B,z,C⟩,w⟩,⟨D,A⟩,al⟩:aC) = .tup [aI P,aI 0]):ak bT 127 [.iptr 3 [.agg [t,q,aI gr]] 0 0,.iptr 1 [o] 0 0,.iptr 17 [.agg [a8 H,a8 M,ae G,a8 K,aI J,a8 E,ae L,a8 F,aI I,aI y,a8 B,ae z,a8 C,aI w,a8 D,ae A,m8 1 (rows al)]] 0 0] =
 some (.agg [aI P,aB true,a8 2,aI 0,a8 H,a8 M,ae G,a8 K,aI J,a8 E,ae L,a8 F,aI I,aI y,a8 B,ae z,a8 C,aI w,a8 D,ae A,ym 1 (rows al),aI P,aI 0,a8 0,ae 0,aB false]):=by
 have N:=pr 1 (rows al)
 have Q:=SS (gr:=gr) j k i d m a H M G K J E L F I y B z C w D A N O
 rw[R]at Q
 have Q:=kW (by rfl) Q
 have S:=WE H M G K J E L F I y B z C w D A O
 have U:=N.r
 have r1:=j.r
 have r2:=k.r
 have r3:=m.r
 clear a R N j k m
 generalize m8 1 (rows al)=x at *
 rcases QG (rows al)with e | ⟨T,e⟩
 ·rw[e]at S ⊢
  refine pt (fn:=Tryz.f127) (c:=pW) rfl (by kernel_rfl) (by kernel_rfl) (by kernel_rfl) (by kernel_rfl) ?_;refine vi _ _ _ _ _ λg=>?_
  simp[ai, *,pX]
 ·rw[e]at S ⊢
  generalize rows al=er at *
  refine pt (fn:=Tryz.f127) (c:=pW) rfl (by kernel_rfl) (by kernel_rfl) (by kernel_rfl) (by kernel_rfl) ?_;refine vi _ _ _ _ _ λg=>?_
  simp[ai, *,pX]
end
section
variable{t q:AV}{us h:List Clear}{qs:List ah}{gr:Int}(j:Sl 3 (bR us) t)(k:Sl 5 (bL qs) q)(i:us.length<1000000)(d:qs.length<1000000){l:List (bW × AV)}{o:AV}(m:Sl 24 (bu l) o)(a : ∀p∈l,tA p)
 {u v:AV} (f:Sl 3 (bR h) u) (b:Sl 5 (bL qs) v) (n:h.length<1000000)
include j k i d m a f b n
theorem WC(W:Bool)(X Q Y:Int)(ua:UInt8)(ub:UInt32)(uc U ue:Int)(qa:UInt8)(qb:UInt32)(qc T qe:Int)(hss:IntKind.i64.wrap (Q+1)=Q+1)(H:UInt8)(O:UInt32)(P:UInt8)(M:UInt8)(I:UInt8)(F:UInt32)(G:UInt8)(w:Int)(L:UInt8)(K:UInt32)(J:UInt8)(N:Int)(D:Int)(E:UInt8)(y:UInt32)(A:UInt8)(C:Int)(B:UInt8)(z:UInt32){al:List Int}(hal:al.length<1000000){ve:Int}(hv:Lw us qs gr l (⟨M,⟨I,F,G⟩,w,⟨⟨⟨L,K,J⟩,N⟩,D⟩,⟨⟨E,y,A⟩,C⟩,⟨B,z⟩,al⟩:aC) = .tup [aI ve,aI 0])(c:Option Nat):ak bT 113 [.cD 2 [.agg [.fn (.func 120) [] [.iptr 17 [.agg [a8 M,a8 I,ae F,a8 G,aI w,a8 L,ae K,a8 J,aI N,aI D,a8 E,ae y,a8 A,aI C,a8 B,ae z,m8 1 (rows al)]] 0 0,.iptr 3 [.agg [a8 H,ae O,a8 P]] 0 0],.fn (.func 175) [] [.iptr 1 [aI 8] 0 0]],.agg [.fn (.func 122) [] [.iptr 16 [.agg [aB W,aI X,aI Q,u,v,aI Y,a8 ua,ae ub,aI uc,aI U,aI ue,a8 qa,ae qb,aI qc,aI T,aI qe]] 0 0,.iptr 3 [.agg [a8 H,ae O,a8 P]] 0 0],.fn (.func 175) [] [.iptr 1 [aI 230] 0 0]],.agg [.fn (.func 123) [] [.iptr 17 [.agg [a8 M,a8 I,ae F,a8 G,aI w,a8 L,ae K,a8 J,aI N,aI D,a8 E,ae y,a8 A,aI C,a8 B,ae z,m8 1 (rows al)]] 0 0,.iptr 16 [.agg [aB W,aI X,aI Q,u,v,aI Y,a8 ua,ae ub,aI uc,aI U,aI ue,a8 qa,ae qb,aI qc,aI T,aI qe]] 0 0],.fn (.func 124) [] [.iptr 3 [.agg [t,q,aI gr]] 0 0,.iptr 1 [o] 0 0,.iptr 3 [.agg [a8 H,ae O,a8 P]] 0 0,.iptr 17 [.agg [a8 M,a8 I,ae F,a8 G,aI w,a8 L,ae K,a8 J,aI N,aI D,a8 E,ae y,a8 A,aI C,a8 B,ae z,m8 1 (rows al)]] 0 0]],.agg [.fn (.func 125) [] [.iptr 17 [.agg [a8 M,a8 I,ae F,a8 G,aI w,a8 L,ae K,a8 J,aI N,aI D,a8 E,ae y,a8 A,aI C,a8 B,ae z,m8 1 (rows al)]] 0 0,.iptr 16 [.agg [aB W,aI X,aI Q,u,v,aI Y,a8 ua,ae ub,aI uc,aI U,aI ue,a8 qa,ae qb,aI qc,aI T,aI qe]] 0 0],.fn (.func 175) [] [.iptr 1 [aI 231] 0 0]],.agg [.fn (.func 126) [] [.iptr 16 [.agg [aB W,aI X,aI Q,u,v,aI Y,a8 ua,ae ub,aI uc,aI U,aI ue,a8 qa,ae qb,aI qc,aI T,aI qe]] 0 0],.fn (.func 175) [] [.iptr 1 [aI 9] 0 0]],.agg [.fn (.func 118) [] [],.fn (.func 127) [] [.iptr 3 [.agg [t,q,aI gr]] 0 0,.iptr 1 [o] 0 0,.iptr 17 [.agg [a8 M,a8 I,ae F,a8 G,aI w,a8 L,ae K,a8 J,aI N,aI D,a8 E,ae y,a8 A,aI C,a8 B,ae z,m8 1 (rows al)]] 0 0]]] c] =
 some (if !decide ((⟨I,F,G⟩:mz)=⟨H,O,P⟩)||decide (-1∈al) then dx 8 else if !W || !(decide (oU h qs Y H=0)&&eL h X H O) then dx 230 else if w<=Q then dx (OL (wC us qs gr l ⟨H,O,P⟩ w)) else if Q+1<w then dx 231 else if T<=U then dx 9 else .agg [aI ve,aB true,a8 2,aI 0,a8 M,a8 I,ae F,a8 G,aI w,a8 L,ae K,a8 J,aI N,aI D,a8 E,ae y,a8 A,aI C,a8 B,ae z,ym 1 (rows al),aI ve,aI 0,a8 0,ae 0,aB false]):=by
 have R:=pr 1 (rows al)
 have h1:=kW (by rfl) (agq M I F G w L K J N D E y A C B z R hal H O P)
 have h2:=kW (by rfl) (agp f b n d W X Q Y ua ub uc U ue qa qb qc T qe H O P)
 have h3:=kW (by rfl) (ago f b M I F G w L K J N D E y A C B z R W X Q Y ua ub uc U ue qa qb qc T qe)
 have h4:=kW (by rfl) (agn (gr:=gr) j k i d m a H O P M I F G w L K J N D E y A C B z R)
 have Z:=kW (by rfl) (agm f b M I F G w L K J N D E y A C B z R W X Q Y ua ub uc U ue qa qb qc T qe hss)
 have V:=kW (by rfl) (agl f b W X Q Y ua ub uc U ue qa qb qc T qe)
 have S:=ag6 (gr:=gr) j k i d m a M I F G w L K J N D E y A C B z hal hv
 have t1:=kW (by rfl) (we 8)
 have t2:=kW (by rfl) (we 230)
 have t3:=kW (by rfl) (we 231)
 have t4:=kW (by rfl) (we 9)
 have hal':=kW (by rfl) Nz
 have r1:=f.r
 have r2:=b.r
 have r3:=j.r
 have r4:=k.r
 have r5:=m.r
 have r6:=R.r
 clear j k m a f b R hv hss
 generalize (!decide ((⟨I,F,G⟩:mz)=⟨H,O,P⟩)||decide (-1∈al))=b1 at *
 generalize (!W || !(decide (oU h qs Y H=0)&&eL h X H O))=b2 at *
 generalize OL (wC us qs gr l ⟨H,O,P⟩ w)=ce at *
 generalize m8 1 (rows al)=x at *
 rcases QG (rows al)with e | ⟨hne,e⟩
 ·rw[e]at S ⊢
  generalize rows al=er at *
  refine pt (fn:=Tryz.f113) (c:=uh) rfl (by kernel_rfl) (by kernel_rfl) (by kernel_rfl) (by kernel_rfl) ?_;refine zb _ _ _ λg=>?_
  unfold dx at *
  simp[ai, *,ur]
  refine cJ _ _ _ _ _ _ λg=>?_
  cases b1 with
  | true=>
   clear h2 h3 h4 Z V S
   simp[ai, *,aO]
  | false=>
   simp[ai, *,aO]
   refine cJ _ _ _ _ _ _ λg=>?_
   clear h1
   cases b2 with
   | true=>
    clear h3 h4 Z V S
    simp[ai, *,aO]
   | false=>
    simp[ai, *,aO]
    refine cJ _ _ _ _ _ _ λg=>?_
    clear h2
    by_cases e3:w<=Q
    ·clear Z V S
     simp[ai, *,aO]
    ·simp[ai, *,aO]
     refine cJ _ _ _ _ _ _ λg=>?_
     clear h3 h4
     by_cases e4:Q+1<w
     ·clear V S
      simp[ai, *,aO]
     ·simp[ai, *,aO]
      refine cJ _ _ _ _ _ _ λg=>?_
      clear Z
      by_cases e5:T<=U
      ·clear S
       simp[ai, *,aO]
      ·simp[ai, *,aO]
       refine cJ _ _ _ _ _ _ λg=>?_
       clear V
       simp[ai, *,aO]
 ·rw[e]at S ⊢
  generalize rows al=er at *
  refine pt (fn:=Tryz.f113) (c:=uh) rfl (by kernel_rfl) (by kernel_rfl) (by kernel_rfl) (by kernel_rfl) ?_;refine zb _ _ _ λg=>?_
  unfold dx at *
  simp[ai, *,ur]
  refine cJ _ _ _ _ _ _ λg=>?_
  cases b1 with
  | true=>
   clear h2 h3 h4 Z V S
   simp[ai, *,aO]
  | false=>
   simp[ai, *,aO]
   refine cJ _ _ _ _ _ _ λg=>?_
   clear h1
   cases b2 with
   | true=>
    clear h3 h4 Z V S
    simp[ai, *,aO]
   | false=>
    simp[ai, *,aO]
    refine cJ _ _ _ _ _ _ λg=>?_
    clear h2
    by_cases e3:w<=Q
    ·clear Z V S
     simp[ai, *,aO]
    ·simp[ai, *,aO]
     refine cJ _ _ _ _ _ _ λg=>?_
     clear h3 h4
     by_cases e4:Q+1<w
     ·clear V S
      simp[ai, *,aO]
     ·simp[ai, *,aO]
      refine cJ _ _ _ _ _ _ λg=>?_
      clear Z
      by_cases e5:T<=U
      ·clear S
       simp[ai, *,aO]
      ·simp[ai, *,aO]
       refine cJ _ _ _ _ _ _ λg=>?_
       clear V
       simp[ai, *,aO]
end
end
section
attribute [local simp] aG ay aw aF aE zt gX aM aA aD bI bH bn aN aj bf fe
attribute [local simp] zE bsO eb
section
variable{t m:AV}{us:List Clear}{qs:List ah}{gr:Int}(i:Sl 3 (bR us) t)(k:Sl 5 (bL qs) m)(f:us.length<1000000)(d:qs.length<1000000){l:List (bW × AV)}{n:AV}(j:Sl 24 (bu l) n)(a : ∀p∈l,tA p)
include i k f d j a
theorem WD(v:UInt8)(w:UInt32)(J:UInt8)(Q:UInt8)(L:UInt8)(K:UInt32)(I:UInt8)(H:Int)(P:UInt8)(O:UInt32)(N:UInt8)(M:Int)(F:Int)(G:UInt8)(D:UInt32)(E:UInt8)(C:Int)(B:UInt8)(A:UInt32){al:List Int}(hal:al.length<1000000):ak bT 52 [.agg [t,m,aI gr],n,.agg [a8 v,ae w,a8 J],.agg [a8 Q,a8 L,ae K,a8 I,aI H,a8 P,ae O,a8 N,aI M,aI F,a8 G,ae D,a8 E,aI C,a8 B,ae A,m8 1 (rows al)]]=some (.tup [((Fh us qs gr l ⟨v,w,J⟩ (⟨Q,⟨L,K,I⟩,H,⟨⟨⟨P,O,N⟩,M⟩,F⟩,⟨⟨G,D,E⟩,C⟩,⟨B,A⟩,al⟩:aC) ba).1.Qf (ym 1 (rows al))).av,aI (Fh us qs gr l ⟨v,w,J⟩ (⟨Q,⟨L,K,I⟩,H,⟨⟨⟨P,O,N⟩,M⟩,F⟩,⟨⟨G,D,E⟩,C⟩,⟨B,A⟩,al⟩:aC) ba).2]):=by
 have S:=pr 1 (rows al)
 obtain⟨y,hO,V⟩:=Qh (gr:=gr) i k f d j a v w J
 replace hO:=kW (by rfl) hO
 have hC:=kW (by rfl) (mF Q L K I H P O N M F G D E C B A S (by omega))
 have r3:=i.r
 have r4:=k.r
 have r5:=j.r
 have r6:=S.r
 have t1:=kW (by rfl) (C5 8)
 have t2:=kW (by rfl) (C5 230)
 have t3:=kW (by rfl) (C5 231)
 have t4:=kW (by rfl) (C5 9)
 unfold Xm at V
 cases T:oD us qs gr l with
 | none=>
  have U:Fh us qs gr l ⟨v,w,J⟩ (⟨Q,⟨L,K,I⟩,H,⟨⟨⟨P,O,N⟩,M⟩,F⟩,⟨⟨G,D,E⟩,C⟩,⟨B,A⟩,al⟩:aC) ba=(lu 0,8):=by unfold Fh;rw[T]
  rw[U]
  rw[T]at V
  subst V
  clear i k j a T S U
  dsimp only
  rw[Dh,fm]
  unfold dx MO at *
  refine pt (fn:=Tryz.f52) (c:=jO) rfl (by kernel_rfl) (by kernel_rfl) (by kernel_rfl) (by kernel_rfl) ?_;refine lI _ _ _ _ _ _ λg=>?_
  simp[ai, *,jU]
 | some b=>
  have hfew:=L5 i k f d j a T
  have hso:=abk i k f d j a T ⟨v,w,J⟩
  rw[T]at V
  dsimp only at V
  cases hh:dZ ⟨v,w,J⟩ with
  | false=>
   have U:Fh us qs gr l ⟨v,w,J⟩ (⟨Q,⟨L,K,I⟩,H,⟨⟨⟨P,O,N⟩,M⟩,F⟩,⟨⟨G,D,E⟩,C⟩,⟨B,A⟩,al⟩:aC) ba=(lu 0,8):=by unfold Fh;rw[T];dsimp only;rw[if_neg (λh=>by rw[hh]at h;cases h.1)]
   rw[U]
   rw[hh]at V
   simp only[mr,if_false]at V
   subst V
   clear i k j a T S U
   dsimp only
   rw[Dh,fm]
   unfold dx MO at *
   refine pt (fn:=Tryz.f52) (c:=jO) rfl (by kernel_rfl) (by kernel_rfl) (by kernel_rfl) (by kernel_rfl) ?_;refine lI _ _ _ _ _ _ λg=>?_
   simp[ai, *,jU]
  | true=>
   rw[hh,if_pos rfl]at V
   obtain⟨wu,wq,X,W,rfl⟩:=V
   have r1:=X.r
   have r2:=W.r
   cases R:lT (⟨Q,⟨L,K,I⟩,H,⟨⟨⟨P,O,N⟩,M⟩,F⟩,⟨⟨G,D,E⟩,C⟩,⟨B,A⟩,al⟩:aC) with
   | false=>
    have U:Fh us qs gr l ⟨v,w,J⟩ (⟨Q,⟨L,K,I⟩,H,⟨⟨⟨P,O,N⟩,M⟩,F⟩,⟨⟨G,D,E⟩,C⟩,⟨B,A⟩,al⟩:aC) ba=(lu 0,8):=by unfold Fh;rw[T];dsimp only;rw[if_neg (λh=>by rw[R]at h;cases h.2)]
    rw[U]
    rw[R]at hC
    dsimp only
    rw[Dh,fm]
    clear i k j a T X W hh S U R
    unfold dx MO bad at *
    refine pt (fn:=Tryz.f52) (c:=jO) rfl (by kernel_rfl) (by kernel_rfl) (by kernel_rfl) (by kernel_rfl) ?_;refine lI _ _ _ _ _ _ λg=>?_
    simp[ai, *,jU]
   | true=>
    have U:Fh us qs gr l ⟨v,w,J⟩ (⟨Q,⟨L,K,I⟩,H,⟨⟨⟨P,O,N⟩,M⟩,F⟩,⟨⟨G,D,E⟩,C⟩,⟨B,A⟩,al⟩:aC) ba=(UT us qs gr l b ⟨v,w,J⟩ (⟨Q,⟨L,K,I⟩,H,⟨⟨⟨P,O,N⟩,M⟩,F⟩,⟨⟨G,D,E⟩,C⟩,⟨B,A⟩,al⟩:aC) ba,0):=by unfold Fh;rw[T];dsimp only;rw[if_pos ⟨hh,R⟩]
    rw[U]
    rw[R]at hC
    dsimp only
    have hv:Lw us qs gr l (⟨Q,⟨L,K,I⟩,H,⟨⟨⟨P,O,N⟩,M⟩,F⟩,⟨⟨G,D,E⟩,C⟩,⟨B,A⟩,al⟩:aC) = .tup [aI (iS us qs gr b (⟨Q,⟨L,K,I⟩,H,⟨⟨⟨P,O,N⟩,M⟩,F⟩,⟨⟨G,D,E⟩,C⟩,⟨B,A⟩,al⟩:aC)),aI 0]:=by unfold Lw;rw[T];dsimp only;rw[if_pos R]
    have hF:=λso su ss ua ub uc ud ue qa qb qc qd qe (hw:IntKind.i64.wrap (ss+1)=ss+1) c=>WC (gr:=gr) i k f d j a X W hfew so su ss b.gr ua ub uc ud ue qa qb qc qd qe hw v w J Q L K I H P O N M F G D E C B A hal hv c
    have hU:DW b v w=⟨v,w,(Bj b ⟨v,w⟩).opens,(Bj b ⟨v,w⟩).ops,(Bj b ⟨v,w⟩).cells⟩:=rfl
    rw[hU]at hO
    have hav:((UT us qs gr l b ⟨v,w,J⟩ (⟨Q,⟨L,K,I⟩,H,⟨⟨⟨P,O,N⟩,M⟩,F⟩,⟨⟨G,D,E⟩,C⟩,⟨B,A⟩,al⟩:aC) ba).Qf (ym 1 (rows al))).av=if !decide ((⟨L,K,I⟩:mz)=⟨v,w,J⟩)||decide (-1∈al) then dx 8 else if !(gN (aV ⟨v,w,J⟩ b.ses)).o || !(decide (oU b.us qs b.gr v=0)&&eL b.us (gN (aV ⟨v,w,J⟩ b.ses)).u v w) then dx 230 else if H<=(gN (aV ⟨v,w,J⟩ b.ses)).s then dx (OL (wC us qs gr l ⟨v,w,J⟩ H)) else if (gN (aV ⟨v,w,J⟩ b.ses)).s+1<H then dx 231 else if (kT us qs gr v w).ops<=(Bj b ⟨v,w⟩).ops then dx 9 else .agg [aI (iS us qs gr b (⟨Q,⟨L,K,I⟩,H,⟨⟨⟨P,O,N⟩,M⟩,F⟩,⟨⟨G,D,E⟩,C⟩,⟨B,A⟩,al⟩:aC)),aB true,a8 2,aI 0,a8 Q,a8 L,ae K,a8 I,aI H,a8 P,ae O,a8 N,aI M,aI F,a8 G,ae D,a8 E,aI C,a8 B,ae A,ym 1 (rows al),aI (iS us qs gr b (⟨Q,⟨L,K,I⟩,H,⟨⟨⟨P,O,N⟩,M⟩,F⟩,⟨⟨G,D,E⟩,C⟩,⟨B,A⟩,al⟩:aC)),aI 0,a8 0,ae 0,aB false]:=by
     unfold UT nV
     dsimp only
     split
     ·rfl
     ·split
      ·rfl
      ·split
       ·rfl
       ·split
        ·rfl
        ·split
         ·rfl
         ·rfl
    rw[hav]
    have htx:ym 1 (rows al)=ba \/∃es,es≠[]/\ym 1 (rows al)=AV.fsl 1 es none:=by
     rcases QG (rows al)with e | ⟨hne,e⟩
     ·exact .inl e
     ·exact .inr ⟨_,hne,e⟩
    clear i k j a T X W hh S U R hav hU hv
    generalize gN (aV ⟨v,w,J⟩ b.ses)=s at *
    generalize Bj b ⟨v,w⟩=u at *
    try dsimp only at *
    generalize kT us qs gr v w=q at *
    generalize iS us qs gr b (⟨Q,⟨L,K,I⟩,H,⟨⟨⟨P,O,N⟩,M⟩,F⟩,⟨⟨G,D,E⟩,C⟩,⟨B,A⟩,al⟩:aC)=ve at *
    generalize OL (wC us qs gr l ⟨v,w,J⟩ H)=ce at *
    generalize ym 1 (rows al)=tx at *
    generalize m8 1 (rows al)=x at *
    obtain⟨s1,s2,s3⟩:=s
    obtain⟨u1,u2,u3⟩:=u
    obtain⟨q1,q2,q3,q4,q5⟩:=q
    try dsimp only at *
    have hw:IntKind.i64.wrap (s3+1)=s3+1:=IntWalk.i64_in _ (by omega)
    have hF':=hF s1 s2 s3 v w u1 u2 u3 q1 q2 q3 q4 q5 hw
    clear hF hso hw
    generalize (!decide ((⟨L,K,I⟩:mz)=⟨v,w,J⟩)||decide (-1∈al))=b1 at *
    generalize (decide (oU b.us qs b.gr v=0)&&eL b.us s2 v w)=b2 at *
    have hyv : ∃x3 x4 x5 x6 c2 c3 c4 c5 c6 c7 c8 c9 c10 c11 c12 c13 Z c15 c16 Y c1 z,(z=ba \/∃es,es≠[]/\z=AV.fsl 1 es none) /\
     (if b1=true then dx 8 else if (!s1 || !b2)=true then dx 230 else if H<=s3 then dx ce else if s3+1<H then dx 231 else if q4<=u2 then dx 9 else .agg [aI ve,aB true,a8 2,aI 0,a8 Q,a8 L,ae K,a8 I,aI H,a8 P,ae O,a8 N,aI M,aI F,a8 G,ae D,a8 E,aI C,a8 B,ae A,tx,aI ve,aI 0,a8 0,ae 0,aB false]) = .agg [aI x3,aB x4,a8 x5,aI x6,a8 c1,a8 c2,ae c3,a8 c4,aI c5,a8 c6,ae c7,a8 c8,aI c9,aI c10,a8 c11,ae c12,a8 c13,aI Z,a8 c15,ae c16,z,aI Y,aI 0,a8 0,ae 0,aB false]:=by
     have hc : ∀e:Int,dx e = .agg [aI e,aB false,a8 0,aI 0,a8 0,a8 0,ae 0,a8 0,aI 0,a8 0,ae 0,a8 0,aI 0,aI 0,a8 0,ae 0,a8 0,aI 0,a8 0,ae 0,ba,aI 0,aI 0,a8 0,ae 0,aB false]:=λe=>rfl
     have key : ∀e:Int,∃x3 x4 x5 x6 c2 c3 c4 c5 c6 c7 c8 c9 c10 c11 c12 c13 Z c15 c16 Y c1 z,(z=ba \/∃es,es≠[]/\z=AV.fsl 1 es none)/\dx e = .agg [aI x3,aB x4,a8 x5,aI x6,a8 c1,a8 c2,ae c3,a8 c4,aI c5,a8 c6,ae c7,a8 c8,aI c9,aI c10,a8 c11,ae c12,a8 c13,aI Z,a8 c15,ae c16,z,aI Y,aI 0,a8 0,ae 0,aB false]:=λe=>
      ⟨e,false,0,0,0,0,0,0,0,0,0,0,0,0,0,0,0,0,0,0,0,ba,.inl rfl,rfl⟩
     split
     ·exact key 8
     ·split
      ·exact key 230
      ·split
       ·exact key ce
       ·split
        ·exact key 231
        ·split
         ·exact key 9
         ·exact⟨ve,true,2,0,L,K,I,H,P,O,N,M,F,G,D,E,C,B,A,ve,Q,tx,htx,rfl⟩
    obtain⟨x3,x4,x5,x6,c2,c3,c4,c5,c6,c7,c8,c9,c10,c11,c12,c13,Z,c15,c16,Y,c1,z,hz,hyy⟩:=hyv
    rw[hyy]at hF' ⊢
    clear hyy htx
    unfold MO at hO
    have hb0:bad true=0:=rfl
    rcases hz with rfl | ⟨es,hne,rfl⟩
    ·refine pt (fn:=Tryz.f52) (c:=jO) rfl (by kernel_rfl) (by kernel_rfl) (by kernel_rfl) (by kernel_rfl) ?_;refine lI _ _ _ _ _ _ λg=>?_
     simp[ai, *,jU]
    ·refine pt (fn:=Tryz.f52) (c:=jO) rfl (by kernel_rfl) (by kernel_rfl) (by kernel_rfl) (by kernel_rfl) ?_;refine lI _ _ _ _ _ _ λg=>?_
     simp[ai, *,jU]
end
end
section
attribute [local simp] aG ay aw aF aE zt gX aM aA aD bI bH bn aN aj bf fe zR
theorem Rq(es:List Int)(i:Nat)(n:Int):(rows es).set i (aR n)=rows (es.set i n):=by simp[rows,E0]
theorem ZE{es:List Int}{i:Nat}{v:Int}(a:es[i]?=some v)(n:Int):iJ (rows es) i 0 [.v (.int .i32 n)]=some (rows (es.set i n)):=by
 have:(rows es)[i]?=some (aR v):=by simp[rows,a]
 unfold iJ
 rw[this,<-Rq]
 rfl
theorem ZF(o:aC):nF o o=true:=by simp[nF]
structure AT (ob:AV) (ox:AV) (x11 y:AV) (eo:List AV) (r9 r13 rc:Ref) (H:aa):Prop where
 own:H.get r13=some ⟨17,[ob],false,false⟩
 a:H.get r9=some ⟨17,[ox],false,false⟩
 rows:(x11=ba/\y=ba) \/∃t fz,x11 = .cG t 0 eo.length none/\y = .cD 24 eo none/\H.get t=some ⟨24,eo,true,fz⟩/\t≠rc
theorem AT.put{g e x11 y:AV}{eo:List AV}{r9 r13 rc:Ref}{H:aa}(h:AT g e x11 y eo r9 r13 rc H)(k:Option bw)(z:r13≠rc)(v:r9≠rc):AT g e x11 y eo r9 r13 rc (H.put rc k):=by
 obtain⟨i,o,a⟩:=h
 refine⟨?_,?_,?_⟩
 ·rw[aa.get_put,if_neg z];exact i
 ·rw[aa.get_put,if_neg v];exact o
 ·rcases a with a | ⟨t,fz,n,e2,q,c⟩
  ·exact .inl a
  ·exact .inr ⟨t,fz,n,e2,by rw[aa.get_put,if_neg c];exact q,c⟩
section
variable(I:UInt8)(N:UInt8)(G:UInt32)(L:UInt8)(K:Int)(E:UInt8)(M:UInt32)(F:UInt8)(J:Int)(d:Int)(m:UInt8)(f:UInt32)(u:UInt8)(b:Int)(A:UInt8)(j:UInt32){x w:AV}{al:List Int}(O:Sl 1 (rows al) x)(R:Sl 1 (rows al) w)(Y:al.length<100000){l:List (bW × AV)}{U:AV}(P:Sl 24 (bu l) U)
 {x11 y:AV} {eo:List AV} (T:ak env 22 [y,U]=some (aB true)) {r9 r13 r18 rc:Ref} (n1:r13≠rc) (n2:r9≠rc) (n3:r18≠rc) {Q:AV->aa->Prop} (hQ : ∀H',Q (aB true) H')
include O R Y P T n1 n2 n3 hQ
theorem Pl(pc:Int)(pw:Bool)(pk:UInt8)(pu:Int)(p_1:UInt8)(p_2:UInt8)(p_3:UInt32)(p_4:UInt8)(p_5:Int)(p_6:UInt8)(p_7:UInt32)(p_8:UInt8)(p_9:Int)(o:Int)(p_11:UInt8)(h:UInt32)(k:UInt8)(z:Int)(e:UInt8)(p_16:UInt32)(pd pg:Int)(pv:UInt8)(pe:UInt32)(po:Bool){xc:AV} : ∀(n i:Nat)(es:List Int)(H:aa),i+n=es.length->es.length<100000->AT (.agg [a8 I,a8 N,ae G,a8 L,aI K,a8 E,ae M,a8 F,aI J,aI d,a8 m,ae f,a8 u,aI b,a8 A,ae j,w]) (.agg [a8 I,a8 N,ae G,a8 L,aI K,a8 E,ae M,a8 F,aI J,aI d,a8 m,ae f,a8 u,aI b,a8 A,ae j,x]) x11 y eo r9 r13 rc H ->
 H.get r18=some ⟨26,[.agg [aI pc,aB pw,a8 pk,aI pu,a8 p_1,a8 p_2,ae p_3,a8 p_4,aI p_5,a8 p_6,ae p_7,a8 p_8,aI p_9,aI o,a8 p_11,ae h,a8 k,aI z,a8 e,ae p_16,xc,aI pd,aI pg,a8 pv,ae pe,aB po]],false,false⟩ ->
 ((xc=ba/\es=[])\/(xc = .cG rc 0 es.length none/\H.get rc=some ⟨1,rows es,true,false⟩)) ->
 bF bT Tryz.f10 0 eu [(27,aI i),(18,.ptr r18 0 0),(9,.ptr r9 0 0),(13,.ptr r13 0 0),(1,U),(11,x11),(26,aB true)] H Q:=by
 intro n
 induction n with
 | zero=>
  intro i es H hi q hT hp hm
  have hS:=kW (by rfl) (LO I N G L K E M F J d m f u b A j I N G L K E M F J d m f u b A j R O (by omega) (by omega))
  rw[ZF]at hS
  have T:=kW (by rfl) T
  obtain⟨ho,ha,hr⟩:=hT
  have r1:=O.r
  have r2:=R.r
  have r3:=P.r
  have hi':i=es.length:=by omega
  subst hi'
  have c:=hQ H
  clear hi hQ O R P
  refine kR _ _ _ _ _ _ _ _ _ λg=>?_
  rcases hm with ⟨rfl,rfl⟩ | ⟨rfl,S⟩
  ·rcases hr with ⟨rfl,rfl⟩ | ⟨t,fz,rfl,rfl,ht,_⟩
   ·simp[ai, *,cq]
    all_goals exact c
   ·cases fz<;>simp[ai, *,cq]
    all_goals exact c
  ·rcases hr with ⟨rfl,rfl⟩ | ⟨t,fz,rfl,rfl,ht,_⟩
   ·simp[ai, *,cq]
    all_goals exact c
   ·cases fz<;>simp[ai, *,cq]
    all_goals exact c
 | succ n ih=>
  intro i es H hi q hT hp hm
  rcases hm with ⟨rfl,rfl⟩ | ⟨rfl,S⟩
  ·simp at hi
  ·have hlt:i<es.length:=by omega
   obtain⟨v,hv⟩ : ∃v,es[i]?=some v:=⟨es[i],fj hlt⟩
   have hT':=hT.put (some ⟨1,rows (es.set i 7),true,false⟩) n1 n2
   have a:=ih (i+1) (es.set i 7) (H.put rc (some ⟨1,rows (es.set i 7),true,false⟩)) (by simp;omega) (by simpa using q) hT' (by rw[aa.get_put,if_neg n3];exact hp) (.inr ⟨by simp,by simp[aa.get_put]⟩)
   have e1:=IntWalk.i64_in ((i:Int)+1) (by omega)
   rw[show((i+1:Nat):Int)=(i:Int)+1 from by omega]at a
   have hlt':(i:Int)<es.length:=by omega
   have hrs:=ZE hv 7
   have hlen:(rows es).length=es.length:=by simp
   have hlq:(H.get rc).isSome=true:=by rw[S];rfl
   refine kR _ _ _ _ _ _ _ _ _ λg=>?_
   clear hQ hT hT' ih O R P T
   simp[ai, *,cq]
   all_goals exact a
end
section
variable{l:List (bW × AV)}{U:AV}(P:Sl 24 (bu l) U)(hl:l.length<10000)(Z : ∀p∈l,Gx p)
include P hl Z
theorem adh{x3:AV}{b5 b7 b9:bw}{Q:AV->aa->Prop}
 (n : ∀H x11,Fr H->H.get ⟨0,5,0,0⟩=some b5->H.get ⟨0,7,0,0⟩=some b7->H.get ⟨0,9,0,0⟩=some b9->Own 24 (bu (l.map F4)) H x11->(∀q,x11.at?=some q->q.t=50)->bF bT Tryz.f10 0 bS [(12,aI l.length),(1,U),(11,x11),(9,.ptr ⟨0,9,0,0⟩ 0 0),(7,.ptr ⟨0,7,0,0⟩ 0 0),(5,.ptr ⟨0,5,0,0⟩ 0 0),(3,x3)] H Q) :
 ∀(s:List (bW × AV)) (k:Nat) (H:aa) (x11:AV),l.drop k=s->k<=l.length->Fr H->H.get ⟨0,5,0,0⟩=some b5->H.get ⟨0,7,0,0⟩=some b7->H.get ⟨0,9,0,0⟩=some b9->Own 24 (bu ((l.take k).map F4)) H x11->(∀q,x11.at?=some q->q.t=50) ->
 bF bT Tryz.f10 0 bS [(12,aI k),(1,U),(11,x11),(9,.ptr ⟨0,9,0,0⟩ 0 0),(7,.ptr ⟨0,7,0,0⟩ 0 0),(5,.ptr ⟨0,5,0,0⟩ 0 0),(3,x3)] H Q:=by
 intro s
 induction s with
 | nil=>
  rintro k H x11 hs hk hF h5 h7 h9 a ht
  obtain rfl:=drop_nil hs hk
  rw[HA]at a
  exact n H x11 hF h5 h7 h9 a ht
 | cons p s ih=>
  rintro k H x11 hs hk hF h5 h7 h9 a ht
  obtain⟨hlt,hg,hs',z⟩:=drop_cons hs
  have e1:=IntWalk.i64_in ((k:Int)+1) (by omega)
  have v:cm (bu l) k 0 24 true=some (p.1.val p.2):=by rw[C6 z];simp[cm,bW.val]
  have hRl:=eY l
  have h:(k:Int)<l.length:=by omega
  have hp:=Z p (hg ▸ mq hlt)
  have hT:=kW (by rfl) (S6 hp.x hp.len)
  have hta:(l.take (k+1)).map F4=(l.take k).map F4++[F4 p]:=by rw[Ll,z];simp
  have c:=λH' x' h1 h2 h3 h4 h5 h6=>ih (k+1) H' x' hs' (by omega) h1 h2 h3 h4 h5 h6
  rw[show((k+1:Nat):Int)=(k:Int)+1 from by omega,hta,show bu ((l.take k).map F4++[F4 p])=bu ((l.take k).map F4)++[(F4 p).1.val (F4 p).2] from by simp[bu]]at c
  have o:(bu ((l.take k).map F4)).length=k:=by rw[eY,uD,uG];omega
  have hyr:=(pr 1 (rows p.1.op.l)).r
  have hpx:=hp.x
  clear ih hs hs' hg z Z n hta
  unfold F4 at c hT
  simp only at c hT
  have hpr:=hpx.r
  clear hp hlt
  generalize m8 1 (rows p.1.op.l)=y at *
  generalize p.2=x at *
  generalize p.1=r at *
  unfold bW.val at v hT c
  generalize bu l=er at *
  generalize hEo:bu ((l.take k).map F4)=eo at *
  have i:bu (List.map (λp=>(p.1,m8 1 (rows p.1.op.l))) (List.take k l))=eo:=hEo
  rw[i]at c
  clear hEo i
  rcases a with ⟨rfl,a⟩ | ⟨t,rfl,a⟩
  ·subst a
   clear o
   refine gM _ _ _ _ _ _ _ _ _ λg=>?_
   simp[ai, *,bU,P.r,P.idx,h,hRl,v,hT,hyr,hpr]
   refine c _ (.cG ⟨0,50,H.gen 0 50,0⟩ 0 1 none) ?_ ?_ ?_ ?_ (.inr ⟨⟨0,50,H.gen 0 50,0⟩,rfl,?_⟩) (λq S=>by cases S;rfl)
   ·simp(maxDischargeDepth:=12) [ek, *]
   ·simp[h5]
   ·simp[h7]
   ·simp[h9]
   ·simp(maxDischargeDepth:=12) [ek, *]
  ·have e28:=ht t rfl
   obtain⟨td,tt,tg,tk⟩:=t
   simp only at e28
   subst e28
   have f6 : ∀e,nx 24 160 k true none (some ⟨24,eo,true,false⟩) (some [AV.agg e]):=by
    intro e
    simp;omega
   have l8:(H.get ⟨td,50,tg,tk⟩).isSome=true:=by rw[a];rfl
   refine gM _ _ _ _ _ _ _ _ _ λg=>?_
   simp[ai, *,bU,P.r,P.idx,h,hRl,v,hT,hyr,hpr,hF,l8,a,f6,o,aa.get_put]
   refine c _ (.cG ⟨td,50,H.gen td 50,0⟩ 0 (k+1) none) ?_ ?_ ?_ ?_ (.inr ⟨⟨td,50,H.gen td 50,0⟩,by simp[o],?_⟩) (λq S=>by cases S;rfl)
   ·simp(maxDischargeDepth:=12) [ek, *]
   ·simp[h5,aa.get_put]
   ·simp[h7,aa.get_put]
   ·simp[h9,aa.get_put]
   ·simp(maxDischargeDepth:=12) [ek, *]
end
theorem YB(us:List Clear)(qs:List ah)(gr:Int)(l:List (bW × AV))(h:mz)(user:Int):(AY us qs gr l h user).1.x=ba/\(AY us qs gr l h user).1.r.op.l=[]:=by
 unfold AY
 split
 ·dsimp only
  unfold xt
  repeat' split
  all_goals exact⟨rfl,rfl⟩
 ·exact⟨rfl,rfl⟩
theorem abd(us:List Clear)(qs:List ah)(gr:Int)(l:List (bW × AV))(h:mz)(o:aC):((BA us qs gr l h o).1.write=false/\(BA us qs gr l h o).1.x=ba/\(BA us qs gr l h o).1.r.op.l=[]) \/
 ((BA us qs gr l h o).1.write=true/\(BA us qs gr l h o).1.x=m8 1 (rows o.l)/\(BA us qs gr l h o).1.r.op.l=o.l):=by
 unfold BA
 split
 ·dsimp only
  unfold F5
  repeat' split
  all_goals first | exact .inl ⟨rfl,rfl,rfl⟩ | exact .inr ⟨rfl,rfl,rfl⟩
 ·exact .inl ⟨rfl,rfl,rfl⟩
section
variable{X W:AV}{us:List Clear}{qs:List ah}{gr:Int}(V:Sl 3 (bR us) X)(S:Sl 5 (bL qs) W){l:List (bW × AV)}{U:AV}(P:Sl 24 (bu l) U)(C:UInt8)(D:UInt32)(B:UInt8)(user:Int)(I:UInt8)(N:UInt8)(G:UInt32)(L:UInt8)(K:Int)(E:UInt8)(M:UInt32)(F:UInt8)(J:Int)(d:Int)(m:UInt8)(f:UInt32)(u:UInt8)(b:Int)(A:UInt8)(j:UInt32){x w:AV}{al:List Int}(O:Sl 1 (rows al) x)(R:Sl 1 (rows al) w)(Y:al.length<100000)
include V S P O R Y
theorem adg{H:aa}{x11 xs:AV}{eo:List AV}(hF:Fr H)(h5:H.get ⟨0,5,0,0⟩=some ⟨3,[.agg [X,W,aI gr]],false,false⟩)(h7:H.get ⟨0,7,0,0⟩=some ⟨3,[.agg [a8 C,ae D,a8 B]],false,false⟩)(h9:H.get ⟨0,9,0,0⟩=some ⟨17,[.agg [a8 I,a8 N,ae G,a8 L,aI K,a8 E,ae M,a8 F,aI J,aI d,a8 m,ae f,a8 u,aI b,a8 A,ae j,x]],false,false⟩)
 (h11:(x11=ba/\xs=ba) \/∃td tg tk,x11 = .cG ⟨td,50,tg,tk⟩ 0 eo.length none/\xs = .cD 24 eo none/\H.get ⟨td,50,tg,tk⟩=some ⟨24,eo,true,false⟩)
 (T9:ak bT 56 [.agg [a8 I,a8 N,ae G,a8 L,aI K,a8 E,ae M,a8 F,aI J,aI d,a8 m,ae f,a8 u,aI b,a8 A,ae j,x]]=some (.agg [a8 I,a8 N,ae G,a8 L,aI K,a8 E,ae M,a8 F,aI J,aI d,a8 m,ae f,a8 u,aI b,a8 A,ae j,w]))
 (oc:Int) (ow:Bool) (ok:UInt8) (ou:Int) (b_1:UInt8) (b_2:UInt8) (b_3:UInt32) (b_4:UInt8) (b_5:Int) (b_6:UInt8) (b_7:UInt32) (b_8:UInt8) (b_9:Int) (q:Int) (b_11:UInt8) (o:UInt32) (v:UInt8) (t:Int) (b_15:UInt8) (b_16:UInt32) (od og:Int) (ov:UInt8) (oq:UInt32) (oo:Bool) (oe:Int)
 (pO:ak bT 49 [.agg [X,W,aI gr],xs,.agg [a8 C,ae D,a8 B],aI user]=some (.tup [.agg [aI oc,aB ow,a8 ok,aI ou,a8 b_1,a8 b_2,ae b_3,a8 b_4,aI b_5,a8 b_6,ae b_7,a8 b_8,aI b_9,aI q,a8 b_11,ae o,a8 v,aI t,a8 b_15,ae b_16,ba,aI od,aI og,a8 ov,ae oq,aB oo],aI oe]))
 (dO:ak bT 57 [.agg [X,W,aI gr],U,.agg [a8 C,ae D,a8 B],aI user]=some (.tup [.agg [aI oc,aB ow,a8 ok,aI ou,a8 b_1,a8 b_2,ae b_3,a8 b_4,aI b_5,a8 b_6,ae b_7,a8 b_8,aI b_9,aI q,a8 b_11,ae o,a8 v,aI t,a8 b_15,ae b_16,ba,aI od,aI og,a8 ov,ae oq,aB oo],aI oe]))
 (pc:Int) (pw:Bool) (pk:UInt8) (pu:Int) (p_1:UInt8) (p_2:UInt8) (p_3:UInt32) (p_4:UInt8) (p_5:Int) (p_6:UInt8) (p_7:UInt32) (p_8:UInt8) (p_9:Int) (i:Int) (n:UInt8) (e:UInt32) (h:UInt8) (k:Int) (a:UInt8) (c:UInt32) (pd pg:Int) (pv:UInt8) (pe:UInt32) (po:Bool) (se:Int) {z z':AV} {es:List Int} (hes:es.length<100000) (hz:(z=ba/\z'=ba)\/(z = .fsl 1 (rows es) none/\z' = .cD 1 (rows es) none/\rows es≠[]))
 (pS:ak bT 52 [.agg [X,W,aI gr],xs,.agg [a8 C,ae D,a8 B],.agg [a8 I,a8 N,ae G,a8 L,aI K,a8 E,ae M,a8 F,aI J,aI d,a8 m,ae f,a8 u,aI b,a8 A,ae j,w]]=some (.tup [.agg [aI pc,aB pw,a8 pk,aI pu,a8 p_1,a8 p_2,ae p_3,a8 p_4,aI p_5,a8 p_6,ae p_7,a8 p_8,aI p_9,aI i,a8 n,ae e,a8 h,aI k,a8 a,ae c,z,aI pd,aI pg,a8 pv,ae pe,aB po],aI se]))
 (dS:ak bT 58 [.agg [X,W,aI gr],U,.agg [a8 C,ae D,a8 B],.agg [a8 I,a8 N,ae G,a8 L,aI K,a8 E,ae M,a8 F,aI J,aI d,a8 m,ae f,a8 u,aI b,a8 A,ae j,x]]=some (.tup [.agg [aI pc,aB pw,a8 pk,aI pu,a8 p_1,a8 p_2,ae p_3,a8 p_4,aI p_5,a8 p_6,ae p_7,a8 p_8,aI p_9,aI i,a8 n,ae e,a8 h,aI k,a8 a,ae c,z',aI pd,aI pg,a8 pv,ae pe,aB po],aI se]))
 (mb:Bool) (me:Int)
 (pM:ak bT 59 [.agg [X,W,aI gr],xs,.agg [a8 C,ae D,a8 B]]=some (.tup [aB mb,aI me]))
 (dM:ak bT 60 [.agg [X,W,aI gr],U,.agg [a8 C,ae D,a8 B]]=some (.tup [aB mb,aI me]))
 (s1:ak bT 61 [.agg [aI oc,aB ow,a8 ok,aI ou,a8 b_1,a8 b_2,ae b_3,a8 b_4,aI b_5,a8 b_6,ae b_7,a8 b_8,aI b_9,aI q,a8 b_11,ae o,a8 v,aI t,a8 b_15,ae b_16,ba,aI od,aI og,a8 ov,ae oq,aB oo],.agg [aI oc,aB ow,a8 ok,aI ou,a8 b_1,a8 b_2,ae b_3,a8 b_4,aI b_5,a8 b_6,ae b_7,a8 b_8,aI b_9,aI q,a8 b_11,ae o,a8 v,aI t,a8 b_15,ae b_16,ba,aI od,aI og,a8 ov,ae oq,aB oo]]=some (aB true))
 (s2:ak bT 61 [.agg [aI pc,aB pw,a8 pk,aI pu,a8 p_1,a8 p_2,ae p_3,a8 p_4,aI p_5,a8 p_6,ae p_7,a8 p_8,aI p_9,aI i,a8 n,ae e,a8 h,aI k,a8 a,ae c,z',aI pd,aI pg,a8 pv,ae pe,aB po],.agg [aI pc,aB pw,a8 pk,aI pu,a8 p_1,a8 p_2,ae p_3,a8 p_4,aI p_5,a8 p_6,ae p_7,a8 p_8,aI p_9,aI i,a8 n,ae e,a8 h,aI k,a8 a,ae c,z',aI pd,aI pg,a8 pv,ae pe,aB po]]=some (aB true))
 (T:ak env 22 [xs,U]=some (aB true)) {Q:AV->aa->Prop} (hQ : ∀H',Q (aB true) H') :
 bF bT Tryz.f10 0 bS [(12,aI l.length),(1,U),(11,x11),(9,.ptr ⟨0,9,0,0⟩ 0 0),(7,.ptr ⟨0,7,0,0⟩ 0 0),(5,.ptr ⟨0,5,0,0⟩ 0 0),(3,aI user)] H Q:=by
 have hRl:=eY l
 have r1:=P.r
 have r2:=V.r
 have r3:=S.r
 have r4:=O.r
 have r5:=R.r
 have hsp0:=λ(r9 r13 r18:Ref)(n1:r13≠⟨1,0,0,0⟩)(n2:r9≠⟨1,0,0,0⟩)(n3:r18≠⟨1,0,0,0⟩) H'=>Pl I N G L K E M F J d m f u b A j O R Y P (x11:=x11) (y:=xs) (eo:=eo) T (r9:=r9) (r13:=r13) (r18:=r18) (rc:=⟨1,0,0,0⟩) n1 n2 n3 hQ pc pw pk pu p_1 p_2 p_3 p_4 p_5 p_6 p_7 p_8 p_9 i n e h k a c pd pg pv pe po (xc:=ba) 0 0 [] H' rfl (by simp)
 have hsp1:=λ(r9 r13 r18 rc:Ref)(n1:r13≠rc)(n2:r9≠rc)(n3:r18≠rc) H'=>Pl I N G L K E M F J d m f u b A j O R Y P (x11:=x11) (y:=xs) (eo:=eo) T (r9:=r9) (r13:=r13) (r18:=r18) (rc:=rc) n1 n2 n3 hQ pc pw pk pu p_1 p_2 p_3 p_4 p_5 p_6 p_7 p_8 p_9 i n e h k a c pd pg pv pe po (xc := .cG rc 0 es.length none) es.length 0 es H' (by simp) hes
 have hrl:(rows es).length=es.length:=by simp
 clear P V S O R T hQ
 generalize bu l=er at *
 refine gM _ _ _ _ _ _ _ _ _ λg=>?_
 rcases hz with ⟨rfl,rfl⟩ | ⟨rfl,rfl,hne⟩
 ·clear hsp1
  rcases h11 with ⟨rfl,rfl⟩ | ⟨td,tg,tk,rfl,rfl,h11⟩
  ·simp[ai, *,bU]
   refine hsp0 _ _ _ ?_ ?_ ?_ _ ⟨?_,?_,.inl ⟨rfl,rfl⟩⟩ ?_ (.inl ⟨rfl,rfl⟩)
   all_goals simp[aa.get_put, *]
  ·have l8:(H.get ⟨td,50,tg,tk⟩).isSome=true:=by rw[h11];rfl
   simp[ai, *,bU]
   refine hsp0 _ _ _ ?_ ?_ ?_ _ ⟨?_,?_,.inr ⟨_,false,rfl,rfl,?_,?_⟩⟩ ?_ (.inl ⟨rfl,rfl⟩)
   all_goals simp[aa.get_put, *]
 ·clear hsp0
  rcases h11 with ⟨rfl,rfl⟩ | ⟨td,tg,tk,rfl,rfl,h11⟩
  ·simp[ai, *,bU]
   refine hsp1 _ _ _ ⟨0,74,H.gen 0 74,0⟩ ?_ ?_ ?_ _ ⟨?_,?_,.inl ⟨rfl,rfl⟩⟩ ?_ (.inr ⟨rfl,?_⟩)
   all_goals simp[aa.get_put, *]
  ·have l8:(H.get ⟨td,50,tg,tk⟩).isSome=true:=by rw[h11];rfl
   simp[ai, *,bU]
   refine hsp1 _ _ _ ⟨0,74,H.gen 0 74,0⟩ ?_ ?_ ?_ _ ⟨?_,?_,.inr ⟨_,true,rfl,rfl,?_,?_⟩⟩ ?_ (.inr ⟨rfl,?_⟩)
   all_goals simp[aa.get_put, *]
end
section
variable{X W:AV}{us:List Clear}{qs:List ah}{gr:Int}(V:Sl 3 (bR us) X)(S:Sl 5 (bL qs) W){l:List (bW × AV)}{U:AV}(P:Sl 24 (bu l) U)(hl : ∀p∈l,Sl 1 (rows p.1.op.l) p.2/\qR p.1.op.l)
include V S P hl
theorem MH(C:UInt8)(D:UInt32)(B:UInt8)(user:Int)(I:UInt8)(N:UInt8)(G:UInt32)(L:UInt8)(K:Int)(E:UInt8)(M:UInt32)(F:UInt8)(J:Int)(d:Int)(m:UInt8)(f:UInt32)(u:UInt8)(b:Int)(A:UInt8)(j:UInt32){x:AV}{al:List Int}(O:Sl 1 (rows al) x)(hrg:qR al) :
 ak bT 10 [.agg [X,W,aI gr],U,.agg [a8 C,ae D,a8 B],aI user,.agg [a8 I,a8 N,ae G,a8 L,aI K,a8 E,ae M,a8 F,aI J,aI d,a8 m,ae f,a8 u,aI b,a8 A,ae j,x]]=some (aB true):=by
 obtain⟨t,hG,ht⟩:=Vz (gr:=gr) V S P (λp hp=>(hl p hp).1) 25
 have hG:=kW (by rfl) hG
 have har:(rows al).length=al.length:=by simp
 refine pt (fn:=Tryz.f10) (c:=mw) rfl (by kernel_rfl) (by kernel_rfl) (by kernel_rfl) (by kernel_rfl) ?_;refine tw _ _ _ _ _ _ _ λg=>?_
 cases t with
 | true=>
  clear hl ht
  simp[ai, *,fh,P.r,V.r,S.r,O.r,hG]
 | false=>
  obtain⟨q1,q2,q3,q4⟩:=ht rfl
  clear ht
  by_cases o:(300:Int)<al.length
  ·clear hl q4
   simp[ai, *,fh,P.r,V.r,S.r,O.r,hG,o]
  ·have hll:l.length<=25:=by omega
   have a : ∀p∈l,Gx p:=λp hp=>⟨(hl p hp).1,(hl p hp).2,by have:=q4 p (by rw[fe (by omega)];exact hp);omega⟩
   have hokc : ∀p∈l,tA p:=λp hp=>⟨(a p hp).x,by have:=(a p hp).len;omega⟩
   have e : ∀p∈l.map F4,tA p:=by
    intro p hp
    obtain⟨q,S,rfl⟩:=vd.1 hp
    exact⟨pr 1 _,by have:=(a q S).len;simp only[F4];omega⟩
   have T9:=kW (by rfl) (IB I N G L K E M F J d m f u b A j O (by omega))
   have key : ∀xs:AV,Sl 24 (bu (l.map F4)) xs ->
    ak bT 49 [.agg [X,W,aI gr],xs,.agg [a8 C,ae D,a8 B],aI user]=some (.tup [(AY us qs gr l ⟨C,D,B⟩ user).1.av,aI (AY us qs gr l ⟨C,D,B⟩ user).2]) /\
    ak bT 52 [.agg [X,W,aI gr],xs,.agg [a8 C,ae D,a8 B],.agg [a8 I,a8 N,ae G,a8 L,aI K,a8 E,ae M,a8 F,aI J,aI d,a8 m,ae f,a8 u,aI b,a8 A,ae j,m8 1 (rows al)]]=some (.tup [((BA us qs gr l ⟨C,D,B⟩ (⟨I,⟨N,G,L⟩,K,⟨⟨⟨E,M,F⟩,J⟩,d⟩,⟨⟨m,f,u⟩,b⟩,⟨A,j⟩,al⟩:aC)).1.Qf (ym 1 (rows al))).av,aI (BA us qs gr l ⟨C,D,B⟩ (⟨I,⟨N,G,L⟩,K,⟨⟨⟨E,M,F⟩,J⟩,d⟩,⟨⟨m,f,u⟩,b⟩,⟨A,j⟩,al⟩:aC)).2]) /\
    ak bT 59 [.agg [X,W,aI gr],xs,.agg [a8 C,ae D,a8 B]]=some (.tup [aB (Ol us qs gr l ⟨C,D,B⟩).1,aI (Ol us qs gr l ⟨C,D,B⟩).2]) /\
    ak env 22 [xs,U]=some (aB true):=by
    intro xs h
    have pO:=abo (gr:=gr) V S (by omega) (by omega) h e C D B user
    have pS:=WD (gr:=gr) V S (by omega) (by omega) h e C D B I N G L K E M F J d m f u b A j (al:=al) (by omega)
    have pM:=abr (gr:=gr) V S (by omega) (by omega) h e C D B
    rw[YC UG]at pO
    obtain⟨e1,k⟩:=abe UG us qs gr l ⟨C,D,B⟩ (⟨I,⟨N,G,L⟩,K,⟨⟨⟨E,M,F⟩,J⟩,d⟩,⟨⟨m,f,u⟩,b⟩,⟨A,j⟩,al⟩:aC) ba (ym 1 (rows al))
    rw[e1,k]at pS
    rw[ab9 UG]at pM
    refine⟨kW (by rfl) pO,pS,kW (by rfl) pM,?_⟩
    have hS:=SV h P e hokc (by rw[uD];omega)
    have er:MP (l.map F4)=MP l:=by simp[MP,F4]
    rw[er,(Ky _ _).2 rfl]at hS
    exact hS
   have dO:=kW (by rfl) (S0 (gr:=gr) P a V S (by omega) (by omega) (by omega) C D B user)
   have dS:=kW (by rfl) (NA (gr:=gr) P a V S (by omega) (by omega) (by omega) C D B I N G L K E M F J d m f u b A j O hrg (by omega))
   have dM:=kW (by rfl) (Vj (gr:=gr) P a V S (by omega) (by omega) (by omega) C D B)
   obtain⟨ox,ol⟩:=YB us qs gr l ⟨C,D,B⟩ user
   have s1:=kW (by rfl) (Vi (AY us qs gr l ⟨C,D,B⟩ user).1 ⟨by rw[ox,ol];exact .inl ⟨rfl,rfl⟩,by rw[ol];simp⟩)
   have n:=abd us qs gr l ⟨C,D,B⟩ (⟨I,⟨N,G,L⟩,K,⟨⟨⟨E,M,F⟩,J⟩,d⟩,⟨⟨m,f,u⟩,b⟩,⟨A,j⟩,al⟩:aC)
   have s2:=kW (by rfl) (Vi (BA us qs gr l ⟨C,D,B⟩ (⟨I,⟨N,G,L⟩,K,⟨⟨⟨E,M,F⟩,J⟩,d⟩,⟨⟨m,f,u⟩,b⟩,⟨A,j⟩,al⟩:aC)).1 (by
    rcases n with ⟨_,k,e3⟩ | ⟨_,k,e3⟩
    ·exact⟨by rw[k,e3];exact .inl ⟨rfl,rfl⟩,by rw[e3];simp⟩
    ·exact⟨by rw[k,e3];exact pr 1 _,by rw[e3];show al.length<_;omega⟩))
   generalize AY us qs gr l ⟨C,D,B⟩ user=od at *
   generalize BA us qs gr l ⟨C,D,B⟩ (⟨I,⟨N,G,L⟩,K,⟨⟨⟨E,M,F⟩,J⟩,d⟩,⟨⟨m,f,u⟩,b⟩,⟨A,j⟩,al⟩:aC)=sd at *
   generalize Ol us qs gr l ⟨C,D,B⟩=md at *
   obtain⟨⟨oc,ow,⟨ok,ou,⟨b_1,⟨b_2,b_3,b_4⟩,b_5,⟨⟨⟨b_6,b_7,b_8⟩,b_9⟩,b_10⟩,⟨⟨b_11,b_12,b_13⟩,b_14⟩,⟨b_15,b_16⟩,bl⟩,oc',og,ov,oq,oo⟩,ox'⟩,oe⟩:=od
   obtain⟨⟨pc,pw,⟨pk,pu,⟨p_1,⟨p_2,p_3,p_4⟩,p_5,⟨⟨⟨p_6,p_7,p_8⟩,p_9⟩,p_10⟩,⟨⟨p_11,p_12,p_13⟩,p_14⟩,⟨p_15,p_16⟩,pl⟩,pd,pg,pv,pe,po⟩,z'⟩,se⟩:=sd
   obtain⟨mb,me⟩:=md
   unfold JM.Qf at key
   unfold JM.av at key dO dS s1 s2
   dsimp only at key dO dS dM s1 s2 ox ol n
   subst ox ol
   have R:=pr 1 (rows al)
   have hz : ∃es:List Int,es.length<100000/\(((if pw=true then ym 1 (rows al) else ba)=ba/\z'=ba)\/((if pw=true then ym 1 (rows al) else ba) = .fsl 1 (rows es) none/\z' = .cD 1 (rows es) none/\rows es≠[])):=by
    rcases n with ⟨e1,k,e3⟩ | ⟨e1,k,e3⟩
    ·exact⟨[],by simp,.inl ⟨by rw[e1];rfl,k⟩⟩
    ·by_cases he:rows al=[]
     ·exact⟨[],by simp,.inl ⟨by rw[e1,if_pos rfl,he];rfl,by rw[k];show m8 1 (rows al)=_;rw[he];rfl⟩⟩
     ·exact⟨al,by omega,.inr ⟨by rw[e1,if_pos rfl,Ap 1 he],by rw[k];show m8 1 (rows al)=_;rw[xp 1 he],he⟩⟩
   obtain⟨es,hes,hz⟩:=hz
   generalize (if pw=true then ym 1 (rows al) else ba)=z at *
   clear n
   have hgo : ∀H x11,Fr H->H.get ⟨0,5,0,0⟩=some ⟨3,[.agg [X,W,aI gr]],false,false⟩->H.get ⟨0,7,0,0⟩=some ⟨3,[.agg [a8 C,ae D,a8 B]],false,false⟩->H.get ⟨0,9,0,0⟩=some ⟨17,[.agg [a8 I,a8 N,ae G,a8 L,aI K,a8 E,ae M,a8 F,aI J,aI d,a8 m,ae f,a8 u,aI b,a8 A,ae j,x]],false,false⟩->Own 24 (bu (l.map F4)) H x11->(∀q,x11.at?=some q->q.t=50) ->
    bF bT Tryz.f10 0 bS [(12,aI l.length),(1,U),(11,x11),(9,.ptr ⟨0,9,0,0⟩ 0 0),(7,.ptr ⟨0,7,0,0⟩ 0 0),(5,.ptr ⟨0,5,0,0⟩ 0 0),(3,aI user)] H λv H=>handed bT 10 v H (aB true):=by
    intro H x11 hF h5 h7 h9 i htt
    have h : ∃xs eo,Sl 24 (bu (l.map F4)) xs/\((x11=ba/\xs=ba) \/∃td tg tk,x11 = .cG ⟨td,50,tg,tk⟩ 0 eo.length none/\xs = .cD 24 eo none/\H.get ⟨td,50,tg,tk⟩=some ⟨24,eo,true,false⟩):=by
     rcases i with ⟨rfl,i⟩ | ⟨t,rfl,i⟩
     ·exact⟨ba,[],.inl ⟨rfl,i⟩,.inl ⟨rfl,rfl⟩⟩
     ·have e28:=htt t rfl
      obtain⟨td,tt,tg,tk⟩:=t
      simp only at e28
      subst e28
      exact⟨.cD 24 (bu (l.map F4)) none,bu (l.map F4),Sl.mk _ _,.inr ⟨td,tg,tk,rfl,rfl,i⟩⟩
    obtain⟨xs,eo,hsx,h11'⟩:=h
    obtain⟨pO,pS,pM,T⟩:=key xs hsx
    exact adg V S P C D B user I N G L K E M F J d m f u b A j O R (by omega) hF h5 h7 h9 h11' T9 oc ow ok ou b_1 b_2 b_3 b_4 b_5 b_6 b_7 b_8 b_9 b_10 b_11 b_12 b_13 b_14 b_15 b_16 oc' og ov oq oo oe pO dO pc pw pk pu p_1 p_2 p_3 p_4 p_5 p_6 p_7 p_8 p_9 p_10 p_11 p_12 p_13 p_14 p_15 p_16 pd pg pv pe po se hes hz pS dS mb me pM dM s1 s2 T (λH'=>by simp)
   have hlp:=adh P (by omega) a (x3:=aI user) hgo l 0
   clear hgo key dO dS dM s1 s2 T9 a hokc e hl q4 hz
   simp[ai, *,fh,P.r,V.r,S.r,O.r,hG,o]
   refine hlp _ ba rfl (by omega) ?_ ?_ ?_ ?_ (.inl ⟨rfl,by simp[bu]⟩) (λr hr=>by cases hr)
   ·simp(maxDischargeDepth:=12) [ek, *]
   ·simp
   ·simp
   ·simp
end
end
end Go.Proofs.YtmkmimgokagimaaGreat
namespace Go.Proofs.YtmkmimgokagimaaGreat.admitTells
open Go.Ab Go.ChangeShapes Go.WideShapes Go.RowKit
theorem acO:bT.Ok (De bT):=UW (λf args y h=>by
 split at h
 ·cases h
 ·exact TE ahB h) (by kernel_rfl) Zp (λf t h=>by cases h) (λf args H y H' h=>by cases h)
theorem law(xs:List AV)(h:Rs env.P 20 Tryz.f10.params.toList xs):ak bT 10 xs=some (aB true):=by
 rw[show Tryz.f10.params.toList=[25,26,31,3,38] from by kernel_rfl]at h
 obtain⟨x0,xs,rfl,J,h⟩:=zf h
 obtain⟨M,xs,rfl,K,h⟩:=zf h
 obtain⟨S,xs,rfl,I,h⟩:=zf h
 obtain⟨x3,xs,rfl,D,h⟩:=zf h
 obtain⟨R,xs,rfl,L,h⟩:=zf h
 obtain rfl:=UY h
 obtain⟨us,qs,gr,O,N,rfl,hu,E⟩:=abj J
 obtain⟨l,H,G⟩:=U0 K
 obtain⟨T,rfl,z⟩:=I.agg (by simp)
 obtain⟨⟨y,C,A⟩,_,rfl⟩:=LW _ _ z
 obtain⟨user,_,F⟩:=sn (P:=env.P) (t:=3) (by simp) _ _ (D.cell (by simp))
 cases F
 obtain⟨Q,rfl,k⟩:=L.agg (by simp)
 obtain⟨⟨⟨p,⟨B,o,v⟩,u,⟨⟨⟨i,w,m⟩,q⟩,b⟩,⟨⟨e,c,f⟩,a⟩,⟨g,d⟩,al⟩,x⟩,⟨n,j⟩,rfl⟩:=NO _ _ k
 exact MH (gr:=gr) hu E G H y C A user p B o v u i w m q b e c f a g d n j
theorem lifted(e:Os)(a:e.Started)(H:Type)(enc:TypeId × Value->H) :
 ReturnsInHanded {} Tryz.checked e 10 .any (Rows.admitTellsSpec.pre6 enc Tryz.prog Tryz.f10 Rows.admitTellsRow.domain false) (Rows.admitTellsSpec.post enc Tryz.prog Tryz.f10 false true false false):=by
 refine returnsInHanded_of_change (C:=Tryz.checked) own a (by kernel_rfl) Tryz.func10
  (ChangeSpec.witness6 (enc:=enc) (C:=Tryz.checked) false ⟨#[], #[.agg #[.slice none 0 0,.slice none 0 0,.int .i64 0],.slice none 0 0,.agg #[.int .u8 0,.int .u32 0,.int .u8 0],.int .i64 0,.agg #[.int .u8 0,.int .u8 0,.int .u32 0,.int .u8 0,.int .i64 0,.int .u8 0,.int .u32 0,.int .u8 0,.int .i64 0,.int .i64 0,.int .u8 0,.int .u32 0,.int .u8 0,.int .i64 0,.int .u8 0,.int .u32 0,.slice none 0 0]],[]⟩ 8 (by kernel_rfl) (by kernel_rfl) (by kernel_rfl) (by kernel_rfl)) ?_
 intro W c args ds f b d g _ _
 exact J7 (E:=bT) acO kids (slices_full_of Tryz.prog (by kernel_rfl)) (m:=20) (λt i=>of_decide_eq_true (gy.1 (show Tryz.f10.params.toList.all (λt=>decide (t<Tryz.prog.types.size))=true by kernel_rfl) t i)) (by kernel_rfl) rfl
  (λds h=>by match ds,h with | [_,_,_,_,_],_=>rfl) (by kernel_rfl) law W c args ds f b d g
theorem tz:Rows.admitTellsRow.holds Tryz.pinned (OpenSpec.ofChange Rows.admitTellsSpec):=
 OpenClaim.holds_of_wide 10 Tryz.f10 rfl rfl rfl rfl rfl rfl rfl ⟨rfl,rfl,rfl,rfl,rfl⟩ rfl rfl rfl rfl rfl (by kernel_rfl) Tryz.func10 acq
  (of_decide_eq_true (by kernel_rfl)) (by unfold Func.isWrapper;first | (rw[if_pos (by decide +kernel)];kernel_rfl) | (rw[if_neg (by decide +kernel)];exact⟨rfl,rfl⟩))
  (λb a H enc _=>lifted b a H enc)
theorem proved:Rows.AdmitTellsSaid:=
 tz
end Go.Proofs.YtmkmimgokagimaaGreat.admitTells
