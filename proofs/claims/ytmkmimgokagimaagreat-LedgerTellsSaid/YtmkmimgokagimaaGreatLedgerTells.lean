/-
  Policies, sessions and verdicts: what these functions answer. No statement of a seat is proved here.
-/
import Derived.Test.YtmkmimgokagimaaGreatMLeSer
set_option linter.unusedVariables false
set_option linter.unusedSimpArgs false
set_option linter.unusedSectionVars false
set_option linter.unnecessarySimpa false
set_option maxRecDepth 1000000
namespace Go.Proofs.YtmkmimgokagimaaGreat
open Go.Ab
attribute [local simp] aW aJ aH aV aU cr ld bf aQ aT cz cw bI bg aC bH gh
section
variable{xu xq:AV}{us:List Clear}{qs:List ax}{gr:Int}(hu:Sl 3 (bZ us) xu)(hq:Sl 5 (bS qs) xq)(hul:us.length<1000000)(hql:qs.length<1000000){l:List (cH × AV)}{x1:AV}(hx:Sl 24 (bY l) x1)(hall : ∀p∈l,z6 p)
include hu hq hul hql hx hall
theorem Sb(dep:Nat){H:ai}(N:Fr H)(n:Int){fd:FuncId}(S:(env.mode fd == 2)=true){caps:List AV}{f:fZ->yv}
 (E:n=0 ->∀b k rb rs ru G D,nO us qs gr l=some b->bF H k->iM k rb rs ru G D us qs gr b->pd b ->∃w,cg env (dep+1) (.fn fd) ([]++[.ptr rb 0 0]++caps) k=some (.tup [(f b).av,aI 0],w)/\bF k w) :
 ∃y H',cg env dep (.fn 90) [.agg [xu,xq,aI gr],x1,aI n,.fn (.func fd) [] caps] H=some (y,H')/\mF (nO us qs gr l) n (.agg [aB false,aI 0,aI 0]) (λb y _=>y = .tup [(f b).av,aI 0]) y H'/\bF H H':=by
 have I:bN env Tryz.f90 (dep+1) [.code nP] (rL 0 [.agg [xu,xq,aI gr],x1,aI n,.fn (.func fd) [] caps]) H λy H'=>mF (nO us qs gr l) n (.agg [aB false,aI 0,aI 0]) (λb y _=>y = .tup [(f b).av,aI 0]) y H'/\bF H H':=by
  have j : ∀b1 b2:bz,bF H ((⟨dep+1,8,H.gen (dep+1) 8,0⟩,some b2) :: (⟨dep+1,4,H.gen (dep+1) 4,0⟩,some b1) :: H):=λb1 b2=>⟨by simp(maxDischargeDepth:=12) [ai.get_put,aq,aj,Fr.nil,aw,af,ah,ad,ae,ao,ak,aa, *],λq c hq=>by
   have K:(H.get q).isSome=true:=by rw[hq];rfl
   simp[af N K,hq]⟩
  obtain⟨y,k,Q,x⟩:=Ra (gr:=gr) hu hq hul hql hx hall (dep+1) (j ⟨3,[.agg [xu,xq,aI gr]],false,false⟩ ⟨3,[.agg [aB false,aI 0,aI 0]],false,false⟩).fr
  have a : ∀(v:ai)(c:bz),bF H v->v.get ⟨dep+1,8,H.gen (dep+1) 8,0⟩=some c ->∀O,bF H (v.put ⟨dep+1,8,H.gen (dep+1) 8,0⟩ (some O)):=by
   intro v c t P O
   refine⟨t.fr.put _ (by rw[P];rfl),λq d hq=>?_⟩
   have K:(H.get q).isSome=true:=by rw[hq];rfl
   rw[ai.get_put,if_neg (λe=>pZ N K _ _ _ e.symm)]
   exact t.old q d hq
  refine nN _ _ _ _ _ _ _ λg=>?_
  unfold mF
  simp[af,ah,ad,ae,aa, *,ja,hx.r,hu.r,hq.r]
  refine tB (by kernel_rfl) Q ?_
  cases z:nO us qs gr l with
  | none=>
   rw[z]at x
   obtain⟨rfl,m⟩:=x
   have i:=m.old ⟨dep+1,8,H.gen (dep+1) 8,0⟩ _ (by simp;rfl)
   have L:=m.fr
   have h:=a k _ ((j _ _).trans m) i
   clear hx hall a
   simp[i,h]
  | some b=>
   rw[z]at x
   obtain⟨rb,rs,ru,rk,G,D,rfl,A,C⟩:=x
   have m:=A.g
   have i:=m.old ⟨dep+1,8,H.gen (dep+1) 8,0⟩ _ (by simp;rfl)
   have L:=m.fr
   by_cases M:n=0
   ·subst M
    obtain⟨w,J,u⟩:=E rfl b k rb rs ru G D z ((j _ _).trans A.g) A.bk C
    have o:=u.old _ _ i
    have R:=u.fr
    have h:=a w _ (((j _ _).trans m).trans u) o
    clear a
    simp
    refine tB S J ?_
    cases F:f b with
    | mk f1 f2 f3=>
     simp[o,F,yv.av,h]
   ·have h:=a k _ ((j _ _).trans m) i
    clear a
    simp[M,i,h]
 obtain⟨y,H',J,u⟩:=lB (f:=90) (by kernel_rfl) (by kernel_rfl) (by kernel_rfl) (by kernel_rfl) (by kernel_rfl) I
 exact⟨y,H',J,u⟩
def VD(a:List Clear)(qs:List ax)(b:Int)(y:AV)(H:ai):Prop :=∃c f d e,y = .tup [.agg [c,d,aI b],aI 0]/\jL 3 (bZ a) H c f/\jL 5 (bS qs) H d e
theorem Sc(dep:Nat){H:ai}(Q:Fr H){fd:FuncId}(Y:(env.mode fd == 2)=true){caps:List AV}
 (I : ∀b n rb rs ru K G,nO us qs gr l=some b->bF H n->iM n rb rs ru K G us qs gr b->pd b ->∃y u,cg env (dep+1) (.fn fd) ([]++[.ptr rb 0 0]++caps) n=some (y,u)/\VD b.us qs b.gr y u/\bF n u) :
 ∃y H',cg env dep (.fn 87) [.agg [xu,xq,aI gr],x1,aI 0,.fn (.func fd) [] caps] H=some (y,H')/\mF (nO us qs gr l) 0 (.agg [ct,ct,aI 0]) (λb y H=>VD b.us qs b.gr y H) y H'/\bF H H':=by
 have L:bN env Tryz.f87 (dep+1) [.code oC] (rL 0 [.agg [xu,xq,aI gr],x1,aI 0,.fn (.func fd) [] caps]) H λy H'=>mF (nO us qs gr l) 0 (.agg [ct,ct,aI 0]) (λb y H=>VD b.us qs b.gr y H) y H'/\bF H H':=by
  have j : ∀b1 b2:bz,bF H ((⟨dep+1,8,H.gen (dep+1) 8,0⟩,some b2) :: (⟨dep+1,4,H.gen (dep+1) 4,0⟩,some b1) :: H):=λb1 b2=>⟨by simp(maxDischargeDepth:=12) [ai.get_put,aq,aj,Fr.nil,aw,af,ah,ad,ae,ao,ak,aa, *],λq c hq=>by
   have O:(H.get q).isSome=true:=by rw[hq];rfl
   simp[af Q O,hq]⟩
  obtain⟨y,n,S,z⟩:=Ra (gr:=gr) hu hq hul hql hx hall (dep+1) (j ⟨3,[.agg [xu,xq,aI gr]],false,false⟩ ⟨3,[.agg [ct,ct,aI 0]],false,false⟩).fr
  have a : ∀(x:ai)(c:bz),bF H x->x.get ⟨dep+1,8,H.gen (dep+1) 8,0⟩=some c ->∀k,bF H (x.put ⟨dep+1,8,H.gen (dep+1) 8,0⟩ (some k)):=by
   intro x c v R k
   refine⟨v.fr.put _ (by rw[R];rfl),λq d hq=>?_⟩
   have O:(H.get q).isSome=true:=by rw[hq];rfl
   rw[ai.get_put,if_neg (λe=>pZ Q O _ _ _ e.symm)]
   exact v.old q d hq
  refine nU _ _ _ _ _ _ _ λg=>?_
  unfold mF
  simp[af,ah,ad,ae,aa, *,jv,hx.r,hu.r,hq.r]
  refine tB (by kernel_rfl) S ?_
  cases A:nO us qs gr l with
  | none=>
   rw[A]at z
   obtain⟨rfl,o⟩:=z
   have i:=o.old ⟨dep+1,8,H.gen (dep+1) 8,0⟩ _ (by simp;rfl)
   have P:=o.fr
   have h:=a n _ ((j _ _).trans o) i
   clear hx hall a
   simp[i,h]
  | some b=>
   rw[A]at z
   obtain⟨rb,rs,ru,rk,K,G,rfl,C,D⟩:=z
   have o:=C.g
   have i:=o.old ⟨dep+1,8,H.gen (dep+1) 8,0⟩ _ (by simp;rfl)
   have P:=o.fr
   obtain⟨y,u,M,⟨V,X,W,T,rfl,E,F⟩,w⟩:=I b n rb rs ru K G A ((j _ _).trans C.g) C.bk D
   have m:=w.old _ _ i
   have U:=w.fr
   have h:=a u _ (((j _ _).trans o).trans w) m
   have t : ∀k,∀q c,u.get q=some c->c.kH=true->(u.put ⟨dep+1,8,H.gen (dep+1) 8,0⟩ (some k)).get q=some c:=by
    intro k q c hq Z
    rw[ai.get_put,if_neg (λe=>by subst e;rw[m]at hq;injection hq with hq;subst hq;cases Z)]
    exact hq
   have N:=λk=>jL.cr E (t k)
   have J:=λk=>jL.cr F (t k)
   have c3:=E.s.cells
   have c4:=F.s.cells
   clear a t E F hx hall
   simp
   refine tB Y M ?_
   simp[m,h,c3,c4]
   exact⟨V,X,W,T,rfl,N _,J _⟩
 obtain⟨y,H',M,w⟩:=lB (f:=87) (by kernel_rfl) (by kernel_rfl) (by kernel_rfl) (by kernel_rfl) (by kernel_rfl) L
 exact⟨y,H',M,w⟩
theorem Uc(dep:Nat){H:ai}(n:Fr H){rb rs ru:Ref}{e v:AV}{b:fZ}(f:iM H rb rs ru e v us qs gr b) :
 ∃y H',cg env dep (.fn 88) [.ptr rb 0 0] H=some (y,H')/\VD b.us qs b.gr y H'/\bF H H':=by
 refine lB (fn:=Tryz.f88) (c:=B1) (Q:=λy H'=>VD b.us qs b.gr y H'/\bF H H') (by kernel_rfl) (by kernel_rfl) (by kernel_rfl) (by kernel_rfl) (by kernel_rfl) ?_
 refine BP _ _ _ _ λg=>?_
 obtain⟨w,o,x,z,A,t,h,j,i,d,a⟩:=f.box
 have k : ∀b1:bz,bF H ((⟨dep+1,2,H.gen (dep+1) 2,0⟩,some b1) :: H):=λb1=>bF.cons n _ _ _
 have c4:=d.s.cells
 have c5:=a.s.cells
 have c8:e.cells=[e]/\e.one=true:=by obtain⟨_,q⟩:=nm f.eO;exact q.cells
 have c9:=f.one
 have C:(H.get rb).isSome=true:=by rw[h];rfl
 have u:=λb1=>jL.grow d (k b1)
 have m:=λb1=>jL.grow a (k b1)
 clear d a f hx hall
 simp[af,ah,ad,ae,aa, *,vv,j.r,i.r]
 exact⟨x,A,z,t,rfl,u _,m _⟩
theorem S7(dep:Nat){H:ai}(t:Fr H){rb rs ru:Ref}{j x:AV}{b:fZ}(a:iM H rb rs ru j x us qs gr b)(d:pd b){q1:Ref}(m:UInt8)(n:UInt32)(k:UInt8)(q:H.get q1=some ⟨3,[.agg [a8 m,au n,a8 k]],false,false⟩) :
 ∃H',cg env dep (.fn 92) [.ptr rb 0 0,.ptr q1 0 0] H=some (.tup [(qR (bT ⟨m,n,k⟩ b.ses)).av,aI 0],H')/\bF H H':=by
 refine eR (fn:=Tryz.f92) (c:=Bj) (by kernel_rfl) (by kernel_rfl) (by kernel_rfl) (by kernel_rfl) (by kernel_rfl) ?_
 refine Be _ _ _ _ _ λg=>?_
 obtain⟨y,v,L,M,O,I,o,C,z,i,f⟩:=a.box
 have A:=a.ses
 have c4:=i.s.cells
 have c5:=f.s.cells
 have c8:j.cells=[j]/\j.one=true:=by obtain⟨_,w⟩:=nm a.eO;exact w.cells
 have c9:=a.one
 have F:(H.get rb).isSome=true:=by rw[o];rfl
 have N:(H.get q1).isSome=true:=by rw[q];rfl
 have J:(H.get rs).isSome=true:=by rw[A];rfl
 have D:=λ(H':ai)(h:H'.get rs=some (bj (cF z9 b.ses)))=>Gv (g:=H'.get) d.ses h ⟨m,n,k⟩
 have e : ∀b1:bz,bF H ((⟨dep+1,3,H.gen (dep+1) 3,0⟩,some b1) :: H):=λb1=>bF.cons t _ _ _
 generalize qR (bT ⟨m,n,k⟩ b.ses)=u at *
 obtain⟨K,E,G⟩:=u
 clear hx hall a i f d
 simp[af,ah,ad,ae,aa, *,ug,yv.av]
 try exact e _
def N9(us:List Clear)(qs:List ax)(gr:Int)(l:List (cH × AV))(h:sj):AV:=match nO us qs gr l with
 | none => .tup [.agg [aB false,aI 0,aI 0],aI 8]
 | some b=>if gU h=true then .tup [(qR (bT h b.ses)).av,aI 0] else .tup [.agg [aB false,aI 0,aI 0],aI 8]
theorem QU(c:UInt8)(d:UInt32)(a:UInt8):aF env 27 [.agg [xu,xq,aI gr],x1,.agg [a8 c,au d,a8 a]]=some (N9 us qs gr l ⟨c,d,a⟩):=by
 refine aG rfl (by kernel_rfl) (Cq _ _ _ _ _ λg=>?_)
 have j:Fr [(⟨0,6,0,0⟩,some ⟨3,[.agg [aB false,aI 0,aI 0]],false,false⟩),(⟨0,5,0,0⟩,some ⟨3,[.agg [a8 c,au d,a8 a]],false,false⟩),(⟨0,3,0,0⟩,some ⟨3,[.agg [xu,xq,aI gr]],false,false⟩)]:=by simp(maxDischargeDepth:=12) [ai.get_put,aq,aj,Fr.nil,aw,af,ah,ad,ae,ao,ak,aa, *]
 have D:=Bu c d a
 obtain⟨y,w,u,h,i⟩:=Sb (gr:=gr) hu hq hul hql hx hall 0 j (bad (gU ⟨c,d,a⟩)) (fd:=92) (by kernel_rfl) (caps:=[.ptr ⟨0,5,0,0⟩ 0 0])
  (f:=λb=>qR (bT (⟨c,d,a⟩:sj) b.ses)) (λz b w rb rs ru A C m i v n=>S7 (gr:=gr) hu hq hul hql hx hall 1 i.fr v n (q1:=⟨0,5,0,0⟩) c d a (i.old ⟨0,5,0,0⟩ _ (by simp)))
 have t:y=N9 us qs gr l ⟨c,d,a⟩:=by
  unfold mF at h
  unfold N9
  cases m:nO us qs gr l with
  | none=>rw[m]at h;exact h
  | some b=>
   rw[m]at h
   cases q:gU ⟨c,d,a⟩ with
   | true=>simp only[q,bad,if_true]at h ⊢;exact h
   | false=>simp[q,bad]at h ⊢;exact h
 have k : ∃(s:yv) (e:Int),N9 us qs gr l ⟨c,d,a⟩ = .tup [s.av,aI e]:=by
  unfold N9
  split
  ·exact⟨⟨false,0,0⟩,8,rfl⟩
  ·split
   ·exact⟨_,_,rfl⟩
   ·exact⟨⟨false,0,0⟩,8,rfl⟩
 obtain⟨s,e,k⟩:=k
 rw[k]at t ⊢
 subst t
 have o:=i.old ⟨0,6,0,0⟩ _ (by simp;rfl)
 have x:=i.fr
 obtain⟨f1,f2,f3⟩:=s
 clear h k hx hall j i
 simp[af,ah,ad,ae,aa, *,wD,hu.r,hq.r]
 refine tB (by kernel_rfl) u ?_
 simp[yv.av,o]
def WU(us:List Clear)(qs:List ax)(gr:Int)(l:List (cH × AV))(y:AV):Prop:=match nO us qs gr l with
 | none=>y = .tup [.agg [ct,ct,aI 0],aI 8]
 | some b =>∃c a,Sl 3 (bZ b.us) c/\Sl 5 (bS qs) a/\y = .tup [.agg [c,a,aI b.gr],aI 0]
theorem Tr : ∃y,aF env 25 [.agg [xu,xq,aI gr],x1]=some y/\WU us qs gr l y:=by
 refine vg (fn:=Tryz.f25) (c:=Ef) (by kernel_rfl) (by kernel_rfl) (by kernel_rfl) (by kernel_rfl) (by kernel_rfl) ?_
 refine DE _ _ _ _ λg=>?_
 have a:Fr [(⟨0,4,0,0⟩,some ⟨3,[.agg [ct,ct,aI 0]],false,false⟩),(⟨0,2,0,0⟩,some ⟨3,[.agg [xu,xq,aI gr]],false,false⟩)]:=by simp(maxDischargeDepth:=12) [ai.get_put,aq,aj,Fr.nil,aw,af,ah,ad,ae,ao,ak,aa, *]
 obtain⟨y,o,t,h,i⟩:=Sc (gr:=gr) hu hq hul hql hx hall 0 a (fd:=88) (by kernel_rfl) (caps:=[])
  (λb o rb rs ru E G n i u v=>Uc (gr:=gr) hu hq hul hql hx hall 1 i.fr u)
 simp[af,ah,ad,ae,aa, *,yn,hu.r,hq.r]
 refine tB (by kernel_rfl) t ?_
 have f:=i.old ⟨0,4,0,0⟩ _ (by simp;rfl)
 have D:=i.fr
 unfold mF at h
 unfold WU
 cases n:nO us qs gr l with
 | none=>rw[n]at h;subst h;clear i a;simp[f]
 | some b=>
  rw[n]at h
  dsimp only at h ⊢
  rw[if_pos rfl]at h
  obtain⟨H,J,I,F,rfl,k,m⟩:=h
  have c3:=k.s.cells
  have c4:=m.s.cells
  have d : ∀j,∀q c,o.get q=some c->c.kH=true->(o.put ⟨0,4,0,0⟩ (some j)).get q=some c:=by
   intro j q c hq C
   rw[ai.get_put,if_neg (λe=>by subst e;rw[f]at hq;injection hq with hq;subst hq;cases C)]
   exact hq
  have z:=λj=>(jL.cr k (d j)).s.view
  have x:=λj=>(jL.cr m (d j)).s.view
  have w:=k.s.sl
  have A:=m.s.sl
  clear i a d k m hx hall
  simp[f,c3,c4,z,x]
  exact⟨w,A⟩
end
end Go.Proofs.YtmkmimgokagimaaGreat
namespace Go.Proofs.YtmkmimgokagimaaGreat
open Go.Ab
attribute [local simp] aW aJ aH aV aU cr ld bf aQ aT cz cw bI bg aC bH gh
theorem OD{l:List Int}{x:AV}(m:Sl 1 (rows l) x)(O:l.length<100000)(o:UInt8)(A:UInt8)(p:UInt32)(w:UInt8)(v:Int)(u:UInt8)(q:UInt32)(G:UInt8)(t:Int)(j:Int)(f:UInt8)(b:UInt32)(a:UInt8)(d:Int)(c:UInt8)(e:UInt32){r:Ref}{H:ai}(R:H.get r=some ⟨17,[.agg [a8 o,a8 A,au p,a8 w,aI v,a8 u,au q,a8 G,aI t,aI j,a8 f,au b,a8 a,aI d,a8 c,au e,x]],false,false⟩){Q:AV->ai->Prop} :
 ∀(s:List Int)(k:Nat)(i:Int),l.drop k=s->k<=l.length->i=k->(∀y,y=aB (!decide (-1∈s))->Q y H) ->
 bN env Tryz.f155 0 gP [(3,aI i),(1,.ptr r 0 0)] H Q:=by
 intro s
 induction s with
 | nil=>
  rintro k i hs hk rfl hQ
  obtain rfl:=drop_nil hs hk
  refine n7 _ _ _ _ λg=>?_
  have K:=m.r
  simp[af,ah,ad,ae,aa, *,hX]
  all_goals exact hQ _ (by simp)
 | cons n s D=>
  rintro k i hs hk rfl hQ
  obtain⟨L,N,z,J⟩:=drop_cons hs
  refine n7 _ _ _ _ λg=>?_
  have P:=IntWalk.i64_in ((k:Int)+1) (by omega)
  have K:=m.r
  by_cases I:n = -1
  ·have F:=hQ (aB false) (by simp[I])
   clear hQ D
   simp[af,ah,ad,ae,aa, *,hX,m.idx,rows,aR]
   all_goals exact F
  ·have C : ¬ -1=n:=λh=>I h.symm
   have E:=D (k+1) ((k:Int)+1) z (by omega) (by simp) (λy M=>hQ y (by rw[M];simp[C]))
   clear D hQ
   simp[af,ah,ad,ae,aa, *,hX,m.idx,rows,aR]
   all_goals exact E
theorem Q0(j:UInt8)(t:UInt8)(k:UInt32)(q:UInt8)(p:Int)(o:UInt8)(m:UInt32)(u:UInt8)(n:Int)(i:Int)(h:UInt8)(b:UInt32)(a:UInt8)(d:Int)(c:UInt8)(f:UInt32){x:AV}{l:List Int}(v:Sl 1 (rows l) x)(w:l.length<100000):aF env 155 [.agg [a8 j,a8 t,au k,a8 q,aI p,a8 o,au m,a8 u,aI n,aI i,a8 h,au b,a8 a,aI d,a8 c,au f,x]]=some (aB (!decide (-1∈l))):=by
 refine aG rfl (by kernel_rfl) (wN _ _ _ λg=>?_)
 have z:=v.r
 simp[af,ah,ad,ae,aa, *,pR]
 exact OD v w j t k q p o m u n i h b a d c f (by simp) l 0 _ rfl (by omega) rfl (λy e=>by simp[e])
theorem Tk(i:UInt8)(q:UInt8)(j:UInt32)(p:UInt8)(o:Int)(n:UInt8)(k:UInt32)(t:UInt8)(m:Int)(h:Int)(f:UInt8)(b:UInt32)(a:UInt8)(d:Int)(c:UInt8)(e:UInt32){x:AV}{l:List Int}(u:Sl 1 (rows l) x)(y:l.length<100000):aF env 56 [.agg [a8 i,a8 q,au j,a8 p,aI o,a8 n,au k,a8 t,aI m,aI h,a8 f,au b,a8 a,aI d,a8 c,au e,x]]=some (.agg [a8 i,a8 q,au j,a8 p,aI o,a8 n,au k,a8 t,aI m,aI h,a8 f,au b,a8 a,aI d,a8 c,au e,xR 1 (rows l)]):=by
 refine aG rfl (by kernel_rfl) (xE _ _ _ λg=>?_)
 have z:=u.r
 have w:l.length<=35184372088832/\l.length * 4<=140737488355328:=by omega
 by_cases v:rows l=[]
 ·simp[af,ah,ad,ae,aa, *,mC,u.kR,xR]
 ·rw[CL 1 v]
  simp[af,ah,ad,ae,aa, *,mC,u.kR]
theorem Q7(j:UInt8)(v:UInt8)(t:UInt32)(u:UInt8)(p:Int)(o:UInt8)(k:UInt32)(q:UInt8)(n:Int)(i:Int)(f:UInt8)(b:UInt32)(a:UInt8)(d:Int)(c:UInt8)(e:UInt32){x:AV}{l:List Int}(w:Sl 1 (rows l) x)(z:l.length<1000000000):aF env 154 [.agg [a8 j,a8 v,au t,a8 u,aI p,a8 o,au k,a8 q,aI n,aI i,a8 f,au b,a8 a,aI d,a8 c,au e,x]]=some (aB (od { (⟨j,⟨v,t,u⟩,p,⟨⟨⟨o,k,q⟩,n⟩,i⟩,⟨⟨f,b,a⟩,d⟩,⟨c,e⟩,l⟩:aK)with h:=⟨0,0,0⟩} zD)):=by
 have h:=Oe j 0 0 0 p o k q n i f b a d c e 0 0 0 0 0 0 0 0 0 0 0 0 0 0 0 0 w (y:=ct) (m:=[]) (.inl ⟨rfl,rfl⟩) z (by simp)
 refine aG rfl (by kernel_rfl) (xA _ _ _ λg=>?_)
 simp[af,ah,ad,ae,aa, *,qG,w.r]
 rfl
theorem Lr(k:UInt8)(u:Int)(A:UInt8)(z:UInt8)(p:UInt32)(t:UInt8)(G:Int)(F:UInt8)(E:UInt32)(D:UInt8)(C:Int)(j:Int)(f:UInt8)(b:UInt32)(a:UInt8)(e:Int)(d:UInt8)(i:UInt32)(c J:Int)(v:UInt8)(w:UInt32)(o:Bool){x:AV}{l:List Int}(H:Sl 1 (rows l) x)(X:l.length<100000)(Z:p8 l) :
 aF env 85 [.agg [a8 k,aI u,a8 A,a8 z,au p,a8 t,aI G,a8 F,au E,a8 D,aI C,aI j,a8 f,au b,a8 a,aI e,a8 d,au i,x,aI c,aI J,a8 v,au w,aB o]]=some (aB (cT ⟨k,u,(⟨A,⟨z,p,t⟩,G,⟨⟨⟨F,E,D⟩,C⟩,j⟩,⟨⟨f,b,a⟩,e⟩,⟨d,i⟩,l⟩:aK),c,J,v,w,o⟩)):=by
 have L:=Q7 A z p t G F E D C j f b a e d i H (by omega)
 have N:=Wu A z p t G F E D C j f b a e d i H (by omega) Z
 have P:=Q0 A z p t G F E D C j f b a e d i H X
 have R:=Wt J v w o
 have M:=yS z p t
 refine aG rfl (by kernel_rfl) (yE _ _ _ λg=>?_)
 have Q:od { (⟨A,⟨z,p,t⟩,G,⟨⟨⟨F,E,D⟩,C⟩,j⟩,⟨⟨f,b,a⟩,e⟩,⟨d,i⟩,l⟩:aK)with h:=⟨0,0,0⟩} zD=od (⟨A,⟨z,p,t⟩,G,⟨⟨⟨F,E,D⟩,C⟩,j⟩,⟨⟨f,b,a⟩,e⟩,⟨d,i⟩,l⟩:aK) { zD with h:=⟨z,p,t⟩}:=by
  simp[od,zD]
 by_cases k1:k=1
 ·subst k1
  have K:cT ⟨1,u,(⟨A,⟨z,p,t⟩,G,⟨⟨⟨F,E,D⟩,C⟩,j⟩,⟨⟨f,b,a⟩,e⟩,⟨d,i⟩,l⟩:aK),c,J,v,w,o⟩=((decide (0<=u)&&decide (u<=255))&&(gU ⟨z,p,t⟩&&(od { (⟨A,⟨z,p,t⟩,G,⟨⟨⟨F,E,D⟩,C⟩,j⟩,⟨⟨f,b,a⟩,e⟩,⟨d,i⟩,l⟩:aK)with h:=⟨0,0,0⟩} zD&&(decide (c=0)&&(decide (J=0)&&(decide (v=0)&&decide (w=0)&&decide (o=false))))))):=by
   rw[Q];simp[cT,FT,mJ]
  rw[K]
  clear Q K N P R
  generalize od { (⟨A,⟨z,p,t⟩,G,⟨⟨⟨F,E,D⟩,C⟩,j⟩,⟨⟨f,b,a⟩,e⟩,⟨d,i⟩,l⟩:aK)with h:=⟨0,0,0⟩} zD=n at *
  generalize gU ⟨z,p,t⟩=hh at *
  cases n with
  | false=>simp[af,ah,ad,ae,aa, *,bc,H.r,L]
  | true=>
  cases hh with
  | false=>simp[af,ah,ad,ae,aa, *,bc,H.r,L,M]
  | true=>
  by_cases I:0<=u
  ·by_cases V:u<=255
   ·by_cases O:c=0
    ·simp[af,ah,ad,ae,aa, *,bc,H.r,L,M,I,V,O,fJ,bU]
    ·simp[af,ah,ad,ae,aa, *,bc,H.r,L,M,I,V,O]
   ·simp[af,ah,ad,ae,aa, *,bc,H.r,L,M,I,V]
  ·simp[af,ah,ad,ae,aa, *,bc,H.r,L,M,I]
 ·by_cases I:u=0
  ·by_cases k2:k=2
   ·subst k2
    have K:cT ⟨2,u,(⟨A,⟨z,p,t⟩,G,⟨⟨⟨F,E,D⟩,C⟩,j⟩,⟨⟨f,b,a⟩,e⟩,⟨d,i⟩,l⟩:aK),c,J,v,w,o⟩=(m0 (⟨A,⟨z,p,t⟩,G,⟨⟨⟨F,E,D⟩,C⟩,j⟩,⟨⟨f,b,a⟩,e⟩,⟨d,i⟩,l⟩:aK)&&(!decide (-1∈l)&&((decide (0<=c)&&decide (c<65536))&&(decide (J=0)&&(decide (v=0)&&decide (w=0)&&decide (o=false)))))):=by
     have Y : ∀q:aK,od q q=true:=λq=>by simp[od]
     simp only[cT,FT,mJ,Y,I,show ¬((2:UInt8)=1) from by decide,if_false,if_true,decide_true,nx]
     cases m0 (⟨A,⟨z,p,t⟩,G,⟨⟨⟨F,E,D⟩,C⟩,j⟩,⟨⟨f,b,a⟩,e⟩,⟨d,i⟩,l⟩:aK)<;>cases decide (-1∈l)<;>cases decide (0<=c)<;>cases decide (c<65536)<;>simp
    rw[K]
    clear Q K L M R
    generalize m0 (⟨A,⟨z,p,t⟩,G,⟨⟨⟨F,E,D⟩,C⟩,j⟩,⟨⟨f,b,a⟩,e⟩,⟨d,i⟩,l⟩:aK)=n at *
    generalize U:decide (-1∈l)=pl at *
    clear U
    cases n with
    | false=>simp[af,ah,ad,ae,aa, *,bc,H.r,N,I]
    | true=>
    cases pl with
    | true=>simp[af,ah,ad,ae,aa, *,bc,H.r,N,P,I]
    | false=>
    by_cases O:0<=c
    ·by_cases c1:c<65536
     ·simp[af,ah,ad,ae,aa, *,bc,H.r,N,P,I,O,c1,fJ,bU]
     ·simp[af,ah,ad,ae,aa, *,bc,H.r,N,P,I,O,c1]
    ·simp[af,ah,ad,ae,aa, *,bc,H.r,N,P,I,O]
   ·by_cases k3:k=3
    ·subst k3
     have W:wW J v w o=(decide (0<=J)&&decide (J<8)&&oB v w o):=rfl
     have T:=Oe A z p t G F E D C j f b a e d i 0 0 0 0 0 0 0 0 0 0 0 0 0 0 0 0 H (y:=ct) (m:=[]) (.inl ⟨rfl,rfl⟩) (by omega) (by simp)
     have K:cT ⟨3,u,(⟨A,⟨z,p,t⟩,G,⟨⟨⟨F,E,D⟩,C⟩,j⟩,⟨⟨f,b,a⟩,e⟩,⟨d,i⟩,l⟩:aK),c,J,v,w,o⟩=(od (⟨A,⟨z,p,t⟩,G,⟨⟨⟨F,E,D⟩,C⟩,j⟩,⟨⟨f,b,a⟩,e⟩,⟨d,i⟩,l⟩:aK) zD&&(decide (c=0)&&(decide (0<=J)&&decide (J<8)&&oB v w o))):=by
      rw[<-W]
      simp only[cT,FT,mJ,I,show ¬((3:UInt8)=1) from by decide,show ¬((3:UInt8)=2) from by decide,if_false,if_true,decide_true,nx]
      cases wW J v w o<;>cases od (⟨A,⟨z,p,t⟩,G,⟨⟨⟨F,E,D⟩,C⟩,j⟩,⟨⟨f,b,a⟩,e⟩,⟨d,i⟩,l⟩:aK) zD<;>simp
     rw[K]
     have S:od (⟨A,⟨z,p,t⟩,G,⟨⟨⟨F,E,D⟩,C⟩,j⟩,⟨⟨f,b,a⟩,e⟩,⟨d,i⟩,l⟩:aK) ⟨0,⟨0,0,0⟩,0,⟨⟨⟨0,0,0⟩,0⟩,0⟩,⟨⟨0,0,0⟩,0⟩,⟨0,0⟩,[]⟩=od (⟨A,⟨z,p,t⟩,G,⟨⟨⟨F,E,D⟩,C⟩,j⟩,⟨⟨f,b,a⟩,e⟩,⟨d,i⟩,l⟩:aK) zD:=rfl
     rw[S]at T
     clear Q K L M N P W S
     generalize od (⟨A,⟨z,p,t⟩,G,⟨⟨⟨F,E,D⟩,C⟩,j⟩,⟨⟨f,b,a⟩,e⟩,⟨d,i⟩,l⟩:aK) zD=n at *
     generalize (decide (0<=J)&&decide (J<8)&&oB v w o)=m at *
     cases n with
     | false=>simp[af,ah,ad,ae,aa, *,bc,H.r,T,I]
     | true=>
      by_cases O:c=0
      ·simp[af,ah,ad,ae,aa, *,bc,H.r,T,R,I,O]
      ·simp[af,ah,ad,ae,aa, *,bc,H.r,T,I,O]
    ·have K:cT ⟨k,u,(⟨A,⟨z,p,t⟩,G,⟨⟨⟨F,E,D⟩,C⟩,j⟩,⟨⟨f,b,a⟩,e⟩,⟨d,i⟩,l⟩:aK),c,J,v,w,o⟩=false:=by simp[cT,k1,k2,k3]
     rw[K]
     clear Q K L M N P R
     simp[af,ah,ad,ae,aa, *,bc,H.r,I,k1,k2,k3]
  ·have K:cT ⟨k,u,(⟨A,⟨z,p,t⟩,G,⟨⟨⟨F,E,D⟩,C⟩,j⟩,⟨⟨f,b,a⟩,e⟩,⟨d,i⟩,l⟩:aK),c,J,v,w,o⟩=false:=by
    simp only[cT,FT,mJ,k1,if_false]
    by_cases k2:k=2
    ·simp[k2,I]
    ·by_cases k3:k=3<;>simp[k2,k3,I]
   rw[K]
   clear Q K L M N P R
   simp[af,ah,ad,ae,aa, *,bc,H.r,I,k1]
end Go.Proofs.YtmkmimgokagimaaGreat
namespace Go.Proofs.YtmkmimgokagimaaGreat
open Go.Ab
attribute [local simp] aW aJ aH aV aU cr ld bf aQ aT cz cw bI bg aC bH gh
theorem BS{l:List (cH × AV)}{k:Nat}{p:cH × AV}(h:l[k]?=some p)(j n:Nat)(a:Bool):bX (bY l) k j n a=bX [p.1.val p.2] 0 j n a:=by
 simp[bX,bY,h]
def gK(us:List Clear)(gr:Int):List (cH × AV)->List Clear × Int
 | []=>(us,gr)
 | p :: l=>if p.1.kind=3/\mX us gr p.1.gu=0 then gK (us.set p.1.gu.toNat ⟨p.1.gv,p.1.gc,p.1.gok⟩) (IntKind.i64.wrap (gr - 1)) l else gK us gr l
section
variable{qs:List ax}{l:List (cH × AV)}{x1:AV}(hx:Sl 24 (bY l) x1)(hql:qs.length<1000)(hl:l.length<100000)(hgu : ∀p∈l,p.1.kind=3->0<=p.1.gu)
include hx hql hl hgu
theorem Up{r2 r4:Ref}(Z:r2≠r4){Q:AV->ai->Prop} : ∀(s:List (cH × AV)) (k:Nat) (us:List Clear) (gr:Int) (M K:AV) (H:ai),l.drop k=s->k<=l.length->Sl 3 (bZ us) M->Sl 5 (bS qs) K->us.length<1000 ->
 H.get r2=some ⟨3,[.agg [M,K,aI gr]],false,false⟩->(∃a b c,H.get r4=some ⟨3,[.agg [a,b,c]],false,false⟩)->Fr H ->
 (∀H' i f,Sl 3 (bZ (gK us gr s).1) i->Sl 5 (bS qs) f->Q (.agg [i,f,aI (gK us gr s).2]) H') ->
 bN env Tryz.f89 0 fN [(5,aI k),(2,.ptr r2 0 0),(1,x1),(4,.ptr r4 0 0)] H Q:=by
 intro s
 induction s with
 | nil=>
  rintro k us gr M K H hs hk hu hq hul h2 ⟨a,b,c,A⟩ hF hQ
  obtain rfl:=drop_nil hs hk
  have D:=λH'=>hQ H' M K hu hq
  simp only[gK]at D
  refine jc _ _ _ _ _ _ λg=>?_
  have q:=ew l
  clear hQ
  simp[af,ah,ad,ae,aa, *,fS,hx.r,hu.r,hq.r,ai.get_put]
  all_goals exact D _
 | cons p s G=>
  rintro k us gr M K H hs hk hu hq hul h2 A hF hQ
  obtain⟨y,R,j,t⟩:=drop_cons hs
  have e1:=IntWalk.i64_in ((k:Int)+1) (by omega)
  have E:=BS t
  have q:=ew l
  have hlt':(k:Int)<l.length:=by omega
  have X:=hgu p (R ▸ lY y)
  have C:(H.get r2).isSome=true:=by rw[h2];rfl
  by_cases n:p.1.kind=3
  ·by_cases F:mX us gr p.1.gu=0
   ·have J:=IK (gr:=gr) hu hq hql hul p.1.gu p.1.gv p.1.gc p.1.gok (X n) F
    have d:=λH' S U Y=>G (k+1) (us.set p.1.gu.toNat ⟨p.1.gv,p.1.gc,p.1.gok⟩) (IntKind.i64.wrap (gr - 1)) _ _ H' j (by omega) (.inr ⟨none,rfl,by simp⟩) (F2 5 (bS qs)) (by simpa using hul) S U Y (λm i f z P=>by
     have:=hQ m i f
     rw[gK,if_pos ⟨n,F⟩]at this
     exact this z P)
    rw[show((k+1:Nat):Int)=(k:Int)+1 from by omega]at d
    have T:=(F2 5 (bS qs)).r
    clear G hQ hs j R t hgu
    obtain⟨⟨k1,u,⟨a1,⟨a2,a3,a4⟩,a5,⟨⟨⟨a6,a7,N⟩,a9⟩,L⟩,⟨⟨Ni,Nh,I⟩,O⟩,⟨Pt,Ps⟩,al⟩,c,z,v,w,o⟩,x⟩:=p
    simp only at n
    subst n
    simp only at J d F
    generalize bY l=er at *
    generalize Cj 5 (bS qs)=vq at *
    generalize bZ (us.set z.toNat ⟨v,w,o⟩)=ec at *
    refine jc _ _ _ _ _ _ λg=>?_
    simp[af,ah,ad,ae,aa, *,fS,hx.r,hx.idx,y,q,E,cH.val,hu.r,hq.r,T,J,ai.get_put]
    obtain⟨W,V,tc,A⟩:=A
    refine d _ ?_ ⟨W,V,tc,?_⟩ (aw hF C _)
    ·simp[ai.get_put]
    ·rw[ai.get_put,if_neg (λe=>Z e.symm)];exact A
   ·have J:=IJ (gr:=gr) hu hq hql hul p.1.gu p.1.gv p.1.gc p.1.gok F
    have d:=λH' S U Y=>G (k+1) us gr _ _ H' j (by omega) hu hq hul S U Y (λm i f z P=>by
     have:=hQ m i f
     rw[gK,if_neg (λh=>F h.2)]at this
     exact this z P)
    rw[show((k+1:Nat):Int)=(k:Int)+1 from by omega]at d
    clear G hQ hs j R t hgu
    obtain⟨⟨k1,u,⟨a1,⟨a2,a3,a4⟩,a5,⟨⟨⟨a6,a7,N⟩,a9⟩,L⟩,⟨⟨Ni,Nh,I⟩,O⟩,⟨Pt,Ps⟩,al⟩,c,z,v,w,o⟩,x⟩:=p
    simp only at n
    subst n
    simp only at J F
    generalize bY l=er at *
    refine jc _ _ _ _ _ _ λg=>?_
    simp[af,ah,ad,ae,aa, *,fS,hx.r,hx.idx,y,q,E,cH.val,hu.r,hq.r,J,ai.get_put]
    obtain⟨W,V,tc,A⟩:=A
    refine d _ ?_ ⟨W,V,tc,?_⟩ (aw hF C _)
    ·simp[ai.get_put]
    ·rw[ai.get_put,if_neg (λe=>Z e.symm)];exact A
  ·have d:=G (k+1) us gr _ _ H j (by omega) hu hq hul h2 A hF (λm i f z P=>by
    have:=hQ m i f
    rw[gK,if_neg (λh=>n h.1)]at this
    exact this z P)
   rw[show((k+1:Nat):Int)=(k:Int)+1 from by omega]at d
   clear G hQ hs j R t hgu
   obtain⟨⟨k1,u,⟨a1,⟨a2,a3,a4⟩,a5,⟨⟨⟨a6,a7,N⟩,a9⟩,L⟩,⟨⟨Ni,Nh,I⟩,O⟩,⟨Pt,Ps⟩,al⟩,c,z,v,w,o⟩,x⟩:=p
   simp only at n
   generalize bY l=er at *
   refine jc _ _ _ _ _ _ λg=>?_
   simp[af,ah,ad,ae,aa, *,fS,hx.r,hx.idx,y,q,E,cH.val,n]
theorem Lo{us:List Clear}{gr:Int}{e d:AV}(j:Sl 3 (bZ us) e)(k:Sl 5 (bS qs) d)(i:us.length<1000) :
 ∃b a,Sl 3 (bZ (gK us gr l).1) b/\Sl 5 (bS qs) a/\aF env 89 [.agg [e,d,aI gr],x1]=some (.agg [b,a,aI (gK us gr l).2]):=by
 obtain⟨y,h,b,a,o,q,rfl⟩:=vg (fn:=Tryz.f89) (c:=zj) (f:=89) (args:=[.agg [e,d,aI gr],x1]) (E:=env)
  (R:=λy =>∃b a,Sl 3 (bZ (gK us gr l).1) b/\Sl 5 (bS qs) a/\y = .agg [b,a,aI (gK us gr l).2]) (by kernel_rfl) (by kernel_rfl) (by kernel_rfl) (by kernel_rfl) (by kernel_rfl) (by
  refine yz _ _ _ _ λg=>?_
  simp[af,ah,ad,ae,aa, *,rV,j.r,k.r]
  refine Up hx hql hl hgu (r2:=⟨0,2,0,0⟩) (r4:=⟨0,4,0,0⟩) (by simp) l 0 us gr e d _ rfl (by omega) j k i ?_ ⟨ct,ct,aI 0,?_⟩ ?_ (λH' b a m n=>?_)
  ·simp
  ·simp;try rfl
  ·exact by simp(maxDischargeDepth:=12) [ai.get_put,aq,aj,Fr.nil,aw,af,ah,ad,ae,ao,ak,aa, *]
  ·simp[m.r,n.r]
   exact⟨m,n⟩)
 exact⟨b,a,o,q,h⟩
end
end Go.Proofs.YtmkmimgokagimaaGreat
namespace Go.Proofs.YtmkmimgokagimaaGreat
open Go.Ab
attribute [local simp] aW aJ aH aV aU cr ld bf aQ aT cz cw bI bg aC bH gh
structure Nk where
 o:Bool
 u:Int
 s:Int
def vY(h:sj)(t:Nk)(p:cH × AV):Nk:=
 if p.1.op.h=h then (if p.1.kind=1 then ⟨true,p.1.user,t.s⟩ else if p.1.kind=2 then ⟨t.o,t.u,if t.s<p.1.op.serial then p.1.op.serial else t.s⟩ else t) else t
def kO(h:sj)(t:Nk)(l:List (cH × AV)):Nk:=l.foldl (vY h) t
section
variable{l:List (cH × AV)}{x1:AV}(hx:Sl 24 (bY l) x1)(hl:l.length<100000)
include hx hl
theorem RD{b1 b3:UInt8}{b2:UInt32}{r3 r4 r5:Ref}(I:r5≠r4/\r5≠r3/\r4≠r3){Q:AV->ai->Prop} : ∀(s:List (cH × AV)) (k:Nat) (t:Nk) (H:ai),l.drop k=s->k<=l.length ->
 H.get r3=some ⟨3,[.agg [a8 b1,au b2,a8 b3]],false,false⟩->(∃a b c,H.get r4=some ⟨3,[.agg [a,b,c]],false,false⟩)->H.get r5=some ⟨3,[.agg [aB t.o,aI t.u,aI t.s]],false,false⟩ ->
 (∀H' y,y=AV.agg [aB (kO ⟨b1,b2,b3⟩ t s).o,aI (kO ⟨b1,b2,b3⟩ t s).u,aI (kO ⟨b1,b2,b3⟩ t s).s]->Q y H') ->
 bN env Tryz.f94 0 cU [(6,aI k),(5,.ptr r5 0 0),(0,x1),(3,.ptr r3 0 0),(4,.ptr r4 0 0)] H Q:=by
 intro s
 induction s with
 | nil=>
  rintro k t H hs hk h3 ⟨a,b,c,n⟩ h5 hQ
  obtain rfl:=drop_nil hs hk
  have m:=λH'=>hQ H' _ rfl
  simp only[kO,List.foldl_nil]at m
  refine gj _ _ _ _ _ _ _ λg=>?_
  have h:=ew l
  clear hQ
  simp[af,ah,ad,ae,aa, *,eS,hx.r,ai.get_put]
  all_goals exact m _
 | cons p s G=>
  rintro k t H hs hk h3 n h5 hQ
  obtain⟨j,K,C,A⟩:=drop_cons hs
  have V:=IntWalk.i64_in ((k:Int)+1) (by omega)
  have i:=BS A
  have h:=ew l
  have J:(k:Int)<l.length:=by omega
  have d:=λt' (U:t'=vY ⟨b1,b2,b3⟩ t p) H' g3 g4 g5=>G (k+1) t' H' C (by omega) g3 g4 g5 (λF y M=>hQ F y (by rw[M,U];rfl))
  rw[show((k+1:Nat):Int)=(k:Int)+1 from by omega]at d
  clear G hQ hs C K A
  obtain⟨⟨k1,u,⟨a1,⟨a2,a3,a4⟩,a5,⟨⟨⟨a6,a7,S⟩,a9⟩,O⟩,⟨⟨Ni,Nh,N⟩,T⟩,⟨Pt,Ps⟩,Y⟩,c,Z,v,w,o⟩,x⟩:=p
  obtain⟨X,W,tc,n⟩:=n
  obtain⟨t0,t1,t2⟩:=t
  simp only[vY,sj.mk.injEq]at d
  simp only at h5
  have f:(H.get r5).isSome=true:=by rw[h5];rfl
  have P : ¬r3=r5:=λe=>I.2.1 e.symm
  have L : ¬r4=r5:=λe=>I.1 e.symm
  generalize bY l=er at *
  by_cases D:a2=b1/\a3=b2/\a4=b3
  ·obtain⟨rfl,rfl,rfl⟩:=D
   by_cases q:k1=1
   ·subst q
    refine gj _ _ _ _ _ _ _ λg=>?_
    have d:=d ⟨true,u,t2⟩ (by simp)
    simp[af,ah,ad,ae,aa, *,eS,hx.r,hx.idx,j,h,i,cH.val,fJ,bU,ai.get_put,h3,n,h5,f]
   ·by_cases z:k1=2
    ·subst z
     refine gj _ _ _ _ _ _ _ λg=>?_
     have d:=d ⟨t0,t1,if t2<a5 then a5 else t2⟩ (by simp)
     simp[af,ah,ad,ae,aa, *,eS,hx.r,hx.idx,j,h,i,cH.val,fJ,bU,ai.get_put,h3,n,h5,f]
    ·refine gj _ _ _ _ _ _ _ λg=>?_
     have d:=d ⟨t0,t1,t2⟩ (by simp[q,z])
     simp[af,ah,ad,ae,aa, *,eS,hx.r,hx.idx,j,h,i,cH.val,fJ,bU,ai.get_put,h3,n,h5,f,q,z]
  ·refine gj _ _ _ _ _ _ _ λg=>?_
   have d:=d ⟨t0,t1,t2⟩ (by rw[if_neg D])
   have E:(!decide (a2=b1) || !decide (a3=b2) || !decide (a4=b3))=true:=by
    by_cases q1:a2=b1<;>by_cases q2:a3=b2<;>by_cases R:a4=b3<;>simp[q1,q2,R]at D ⊢
   simp[af,ah,ad,ae,aa, *,eS,hx.r,hx.idx,j,h,i,cH.val,fJ,bU,ai.get_put,h3,n,h5,f,E]
theorem PK(b1:UInt8)(b2:UInt32)(b3:UInt8):aF env 94 [x1,.agg [a8 b1,au b2,a8 b3]] =
 some (.agg [aB (kO ⟨b1,b2,b3⟩ ⟨false,0,0⟩ l).o,aI (kO ⟨b1,b2,b3⟩ ⟨false,0,0⟩ l).u,aI (kO ⟨b1,b2,b3⟩ ⟨false,0,0⟩ l).s]):=by
 refine aG rfl (by kernel_rfl) (zX _ _ _ _ λg=>?_)
 simp[af,ah,ad,ae,aa, *,sH,hx.r]
 refine RD hx hl (b1:=b1) (b2:=b2) (b3:=b3) (r3:=⟨0,3,0,0⟩) (r4:=⟨0,4,0,0⟩) (r5:=⟨0,5,0,0⟩) ⟨by simp,by simp,by simp⟩ l 0 ⟨false,0,0⟩ _ rfl (by omega) ?_ ⟨aB false,aI 0,aI 0,?_⟩ ?_ (λH' y e=>?_)
 ·simp
 ·simp
 ·simp
 ·subst e
  simp
end
def vW(b:jy)(t:zw)(p:cH × AV):zw:=
 if p.1.op.h.lv=b.lv/\p.1.op.h.cats=b.cats then (if p.1.kind=1 then { t with opens:=IntKind.i64.wrap (t.opens+1)} else if p.1.kind=2 then { t with ops:=IntKind.i64.wrap (t.ops+1),cells:=if p.1.code=0/\p.1.op.kind=1 then IntKind.i64.wrap (t.cells+p.1.op.s.many) else t.cells} else t) else t
def sR(b:jy)(t:zw)(l:List (cH × AV)):zw:=l.foldl (vW b) t
section
variable{l:List (cH × AV)}{x1:AV}(hx:Sl 24 (bY l) x1)(hl:l.length<100000)
include hx hl
theorem N7{b1:UInt8}{b2:UInt32}{r3 r4 r5:Ref}(M:r5≠r4/\r5≠r3/\r4≠r3){Q:AV->ai->Prop} : ∀(s:List (cH × AV)) (k:Nat) (t:zw) (H:ai),l.drop k=s->k<=l.length ->
 H.get r3=some ⟨2,[.agg [a8 b1,au b2]],false,false⟩->(∃a b c d e,H.get r4=some ⟨5,[.agg [a,b,c,d,e]],false,false⟩)->H.get r5=some ⟨5,[.agg [a8 b1,au b2,aI t.opens,aI t.ops,aI t.cells]],false,false⟩ ->
 (∀H' y,y=AV.agg [a8 b1,au b2,aI (sR ⟨b1,b2⟩ t s).opens,aI (sR ⟨b1,b2⟩ t s).ops,aI (sR ⟨b1,b2⟩ t s).cells]->Q y H') ->
 bN env Tryz.f99 0 bp [(6,aI k),(5,.ptr r5 0 0),(0,x1),(3,.ptr r3 0 0),(4,.ptr r4 0 0)] H Q:=by
 intro s
 induction s with
 | nil=>
  rintro k t H hs hk h3 ⟨a,b,c,d,e,n⟩ h5 hQ
  obtain rfl:=drop_nil hs hk
  have q:=λH'=>hQ H' _ rfl
  simp only[sR,List.foldl_nil]at q
  refine cR _ _ _ _ _ _ _ λg=>?_
  have i:=ew l
  clear hQ
  simp[af,ah,ad,ae,aa, *,cG,hx.r,ai.get_put]
  all_goals exact q _
 | cons p s L=>
  rintro k t H hs hk h3 n h5 hQ
  obtain⟨m,O,D,C⟩:=drop_cons hs
  have X:=IntWalk.i64_in ((k:Int)+1) (by omega)
  have j:=BS C
  have i:=ew l
  have N:(k:Int)<l.length:=by omega
  have f:=λt' (W:t'=vW ⟨b1,b2⟩ t p) H' g3 g4 g5=>L (k+1) t' H' D (by omega) g3 g4 g5 (λK y R=>hQ K y (by rw[R,W];rfl))
  rw[show((k+1:Nat):Int)=(k:Int)+1 from by omega]at f
  clear L hQ hs D O C
  obtain⟨⟨k1,u,⟨a1,⟨a2,a3,a4⟩,a5,⟨⟨⟨a6,a7,U⟩,a9⟩,J⟩,⟨⟨Ni,Nh,S⟩,V⟩,⟨Pt,Ps⟩,al⟩,c,g1,v,w,o⟩,x⟩:=p
  obtain⟨ta,Z,tc,Y,te,n⟩:=n
  obtain⟨t0,t1,t2⟩:=t
  simp only[vW]at f
  simp only at h5
  have h:(H.get r5).isSome=true:=by rw[h5];rfl
  have T : ¬r3=r5:=λe=>M.2.1 e.symm
  have P : ¬r4=r5:=λe=>M.1 e.symm
  generalize bY l=er at *
  by_cases G:a2=b1/\a3=b2
  ·obtain⟨rfl,rfl⟩:=G
   by_cases z:k1=1
   ·subst z
    refine cR _ _ _ _ _ _ _ λg=>?_
    have f:=f ⟨IntKind.i64.wrap (t0+1),t1,t2⟩ (by simp)
    simp[af,ah,ad,ae,aa, *,cG,hx.r,hx.idx,m,i,j,cH.val,fJ,bU,ai.get_put,h3,n,h5,h]
   ·by_cases A:k1=2
    ·subst A
     by_cases E:c=0
     ·by_cases F:a1=1
      ·subst E F
       refine cR _ _ _ _ _ _ _ λg=>?_
       have f:=f ⟨t0,IntKind.i64.wrap (t1+1),IntKind.i64.wrap (t2+J)⟩ (by simp)
       simp[af,ah,ad,ae,aa, *,cG,hx.r,hx.idx,m,i,j,cH.val,fJ,bU,ai.get_put,h3,n,h5,h]
      ·subst E
       refine cR _ _ _ _ _ _ _ λg=>?_
       have f:=f ⟨t0,IntKind.i64.wrap (t1+1),t2⟩ (by simp[F])
       simp[af,ah,ad,ae,aa, *,cG,hx.r,hx.idx,m,i,j,cH.val,fJ,bU,ai.get_put,h3,n,h5,h,F]
     ·skip
      refine cR _ _ _ _ _ _ _ λg=>?_
      have f:=f ⟨t0,IntKind.i64.wrap (t1+1),t2⟩ (by simp[E])
      simp[af,ah,ad,ae,aa, *,cG,hx.r,hx.idx,m,i,j,cH.val,fJ,bU,ai.get_put,h3,n,h5,h,E]
    ·skip
     refine cR _ _ _ _ _ _ _ λg=>?_
     have f:=f ⟨t0,t1,t2⟩ (by simp[z,A])
     simp[af,ah,ad,ae,aa, *,cG,hx.r,hx.idx,m,i,j,cH.val,fJ,bU,ai.get_put,h3,n,h5,h,z,A]
  ·have I:(!decide (a2=b1) || !decide (a3=b2))=true:=by
    by_cases q1:a2=b1<;>by_cases q2:a3=b2<;>simp[q1,q2]at G ⊢
   refine cR _ _ _ _ _ _ _ λg=>?_
   have f:=f ⟨t0,t1,t2⟩ (by rw[if_neg G])
   simp[af,ah,ad,ae,aa, *,cG,hx.r,hx.idx,m,i,j,cH.val,fJ,bU,ai.get_put,h3,n,h5,h,I]
theorem BR(b1:UInt8)(b2:UInt32):aF env 99 [x1,.agg [a8 b1,au b2]] =
 some (.agg [a8 b1,au b2,aI (sR ⟨b1,b2⟩ ⟨0,0,0⟩ l).opens,aI (sR ⟨b1,b2⟩ ⟨0,0,0⟩ l).ops,aI (sR ⟨b1,b2⟩ ⟨0,0,0⟩ l).cells]):=by
 refine aG rfl (by kernel_rfl) (wH _ _ _ _ λg=>?_)
 simp[af,ah,ad,ae,aa, *,pN,hx.r]
 refine N7 hx hl (b1:=b1) (b2:=b2) (r3:=⟨0,3,0,0⟩) (r4:=⟨0,4,0,0⟩) (r5:=⟨0,5,0,0⟩) ⟨by simp,by simp,by simp⟩ l 0 ⟨0,0,0⟩ _ rfl (by omega) ?_ ⟨a8 0,au 0,aI 0,aI 0,aI 0,?_⟩ ?_ (λH' y e=>?_)
 ·simp
 ·simp
 ·simp
 ·subst e
  simp
end
end Go.Proofs.YtmkmimgokagimaaGreat
namespace Go.Proofs.YtmkmimgokagimaaGreat
open Go.Ab
attribute [local simp] aW aJ aH aV aU cr ld bf aQ aT cz cw bI bg aC bH gh
def isDone(p:cH × AV):Bool:=decide (p.1.kind=2)&&decide (p.1.code=0)
def kS(l:List (cH × AV)):List (aK × AV):=(l.filter isDone).map λp=>(p.1.op,p.2)
@[simp] theorem jD(l:List (aK × AV)):(cI l).length=l.length:=by simp[cI]
section
variable{l:List (cH × AV)}{x1:AV}(hx:Sl 24 (bY l) x1)(hl:l.length<100000)(hone : ∀p∈l,Sl 1 (rows p.1.op.l) p.2)
include hx hl hone
theorem R0{Q:AV->ai->Prop} : ∀(s:List (cH × AV)) (k:Nat) (outs:List (aK × AV)) (H:ai) (z:AV),l.drop k=s->k<=l.length->outs.length<=k->Fr H->Own 17 (cI outs) H z->(∀q,z.at?=some q->q.t=32) ->
 (∀H' N,Fr H'->Own 17 (cI (outs++kS s)) H' N->Q N H')->bN env Tryz.f68 0 fu [(4,aI k),(0,x1),(3,z)] H Q:=by
 intro s
 induction s with
 | nil=>
  rintro k outs H z hs hk ho hF b ht hQ
  obtain rfl:=drop_nil hs hk
  have I:=hQ H z hF (by simpa [kS] using b)
  have d:=ew l
  refine fq _ _ _ _ _ λg=>?_
  clear hQ
  simp[af,ah,ad,ae,aa, *,ef,hx.r]
  all_goals exact I
 | cons p s M=>
  rintro k outs H z hs hk ho hF b ht hQ
  obtain⟨f,O,i,y⟩:=drop_cons hs
  have e1:=IntWalk.i64_in ((k:Int)+1) (by omega)
  have h:=BS y
  have d:=ew l
  have j:=jD outs
  have S:(k:Int)<l.length:=by omega
  have n:=hone p (O ▸ lY f)
  by_cases C:isDone p=true
  ·have a:=λH' N Y W b=>M (k+1) (outs++[(p.1.op,p.2)]) H' N i (by omega) (by simp;omega) Y W b (λA m J R=>hQ A m J (by rw[show kS (p :: s)=(p.1.op,p.2) :: kS s from by simp[kS,C]];simpa using R))
   rw[show((k+1:Nat):Int)=(k:Int)+1 from by omega,show cI (outs++[(p.1.op,p.2)])=cI outs++[zh (p.1.op,p.2)] from by simp[cI]]at a
   clear M hQ hs i O y hone
   obtain⟨⟨k1,u,⟨a1,⟨a2,a3,a4⟩,a5,⟨⟨⟨a6,a7,K⟩,a9⟩,G⟩,⟨⟨Ni,Nh,F⟩,L⟩,⟨Pt,Ps⟩,X⟩,c,J,v,w,o⟩,x⟩:=p
   simp only[isDone,bh,decide_eq_true_eq]at C
   obtain⟨rfl,rfl⟩:=C
   simp only at n
   generalize bY l=er at *
   generalize cI outs=eo at *
   generalize outs.length=nh at *
   simp only[zh]at a
   rcases b with ⟨rfl,b⟩ | ⟨t,rfl,b⟩
   ·subst b
    simp at j
    subst j
    refine fq _ _ _ _ _ λg=>?_
    simp[af,ah,ad,ae,aa, *,ef,hx.r,hx.idx,f,d,h,cH.val,n.r]
    refine a _ (.cL ⟨0,32,H.gen 0 32,0⟩ 0 1 none) ?_ (.inr ⟨⟨0,32,H.gen 0 32,0⟩,rfl,?_⟩) (λq P=>by cases P;rfl)
    ·exact by simp(maxDischargeDepth:=12) [ai.get_put,aq,aj,Fr.nil,aw,af,ah,ad,ae,ao,ak,aa, *]
    ·exact by simp(maxDischargeDepth:=12) [ai.get_put,aq,aj,Fr.nil,aw,af,ah,ad,ae,ao,ak,aa, *]
   ·have E:=ht t rfl
    obtain⟨D,tt,Z,U⟩:=t
    simp only at E
    subst E
    have V:mY 17 112 nh true none (some ⟨17,eo,true,false⟩) (some [.agg [a8 a1,a8 a2,au a3,a8 a4,aI a5,a8 a6,au a7,a8 K,aI a9,aI G,a8 Ni,au Nh,a8 F,aI L,a8 Pt,au Ps,x]]):=by
     simp;omega
    have l8:(H.get ⟨D,32,Z,U⟩).isSome=true:=by rw[b];rfl
    refine fq _ _ _ _ _ λg=>?_
    simp[af,ah,ad,ae,aa, *,ef,hx.r,hx.idx,f,d,h,cH.val,n.r,hF,l8,b,V,j,ai.get_put]
    refine a _ (.cL ⟨D,32,H.gen D 32,0⟩ 0 (nh+1) none) ?_ (.inr ⟨⟨D,32,H.gen D 32,0⟩,by simp[j],?_⟩) (λq P=>by cases P;rfl)
    ·exact by simp(maxDischargeDepth:=12) [ai.get_put,aq,aj,Fr.nil,aw,af,ah,ad,ae,ao,ak,aa, *]
    ·exact by simp(maxDischargeDepth:=12) [ai.get_put,aq,aj,Fr.nil,aw,af,ah,ad,ae,ao,ak,aa, *]
  ·have a:=M (k+1) outs H z i (by omega) (by omega) hF b ht (λA m J R=>hQ A m J (by rw[show kS (p :: s)=kS s from by simp[kS,C]];exact R))
   rw[show((k+1:Nat):Int)=(k:Int)+1 from by omega]at a
   clear M hQ hs i O y hone
   obtain⟨⟨k1,u,⟨a1,⟨a2,a3,a4⟩,a5,⟨⟨⟨a6,a7,K⟩,a9⟩,G⟩,⟨⟨Ni,Nh,F⟩,L⟩,⟨Pt,Ps⟩,X⟩,c,J,v,w,o⟩,x⟩:=p
   simp only[isDone,bh,decide_eq_true_eq]at C
   generalize bY l=er at *
   by_cases k2:k1=2
   ·subst k2
    have T : ¬c=0:=λe=>C ⟨rfl,e⟩
    refine fq _ _ _ _ _ λg=>?_
    simp[af,ah,ad,ae,aa, *,ef,hx.r,hx.idx,f,d,h,cH.val,T]
   ·refine fq _ _ _ _ _ λg=>?_
    simp[af,ah,ad,ae,aa, *,ef,hx.r,hx.idx,f,d,h,cH.val,k2]
theorem Q4 : ∃y,aF env 68 [x1]=some y/\Sl 17 (cI (kS l)) y:=by
 refine vg (fn:=Tryz.f68) (c:=ye) (by kernel_rfl) (by kernel_rfl) (by kernel_rfl) (by kernel_rfl) (by kernel_rfl) ?_
 refine xt _ _ _ λg=>?_
 simp[af,ah,ad,ae,aa, *,qD]
 refine R0 hx hl hone l 0 [] [] ct rfl (by omega) (by simp) Fr.nil (.inl ⟨rfl,rfl⟩) (λq b=>by cases b) (λH' e d h=>?_)
 rw[vS]at h
 have a:=jD (kS l)
 generalize cI (kS l)=ee at *
 rcases h with ⟨rfl,h⟩ | ⟨r,rfl,h⟩
 ·simp[h]
 ·simp[h]
end
end Go.Proofs.YtmkmimgokagimaaGreat
namespace Go.Proofs.YtmkmimgokagimaaGreat
open Go.Ab
attribute [local simp] aW aJ aH aV aU cr ld bf aQ aT cz cw bI bg aC bH gh
@[local simp] theorem yx(g:da)(k:Nat)(n:Int):ay g k (aR n)=[]:=by cases k<;>rfl
structure HC where
 i:bV
 a:bV
 r:Int
def HC.enc(e:HC):AV := .agg [a8 e.i.h.lv,au e.i.h.cats,a8 e.i.h.num,aI e.i.n,a8 e.a.h.lv,au e.a.h.cats,a8 e.a.h.num,aI e.a.n,aR e.r]
def mr(l:List HC):List AV:=l.map HC.enc
@[simp] theorem qB(l:List HC):(mr l).length=l.length:=by simp[mr]
def BX(i:bV):List HC->Nat->Int
 | [],_ => -1
 | e :: l,k=>if e.i=i then (k:Int) else BX i l (k+1)
theorem G1(i:bV) : ∀(l:List HC)(k:Nat),(0<=BX i l k↔i∈l.map (·.i))
 | [],k=>by simp[BX]
 | e :: l,k=>by
  rw[BX]
  by_cases h:e.i=i
  ·rw[if_pos h];simp[h]
  ·rw[if_neg h,G1 i l (k+1)]
   have : ¬i=e.i:=λe=>h e.symm
   simp[this]
section
variable{ls:List HC}{x:AV}(hx:Sl 9 (mr ls) x)(hl:ls.length<1000000)
include hx hl
theorem NU(d:UInt8)(b:UInt32)(a:UInt8)(f:Int){r3:Ref}{H:ai}(G:H.get r3=some ⟨4,[.agg [a8 d,au b,a8 a,aI f]],false,false⟩){Q:AV->ai->Prop} : ∀(s:List HC)(k:Nat),ls.drop k=s->k<=ls.length->(∀y,y=aI (BX (⟨⟨d,b,a⟩,f⟩:bV) s k)->Q y H) ->
 bN env Tryz.f199 0 gO [(5,aI k),(3,.ptr r3 0 0),(0,x)] H Q:=by
 intro s
 induction s with
 | nil=>
  rintro k hs hk hQ
  obtain rfl:=drop_nil hs hk
  have q:=qB ls
  have t:=hQ _ rfl
  simp only[BX]at t
  refine nZ _ _ _ _ _ λg=>?_
  clear hQ
  simp[af,ah,ad,ae,aa, *,kJ,hx.r]
 | cons e s A=>
  rintro k hs hk hQ
  obtain⟨w,D,v,o⟩:=drop_cons hs
  have C:=IntWalk.i64_in ((k:Int)+1) (by omega)
  have q:=qB ls
  have z:(k:Int)<ls.length:=by omega
  have u:bX (mr ls) k 0 4 true=some (.agg [a8 e.i.h.lv,au e.i.h.cats,a8 e.i.h.num,aI e.i.n]):=by simp[bX,mr,o,HC.enc]
  have j:=λ(h:e.i=(⟨⟨d,b,a⟩,f⟩:bV))=>hQ (aI k) (by rw[BX,if_pos h])
  have m:=λ(h : ¬e.i=(⟨⟨d,b,a⟩,f⟩:bV))=>A (k+1) v (by omega) (λy F=>hQ y (by rw[BX,if_neg h];exact F))
  rw[show((k+1:Nat):Int)=(k:Int)+1 from by omega]at m
  clear A hQ hs v D o
  obtain⟨⟨⟨a1,a2,a3⟩,a4⟩,J,I⟩:=e
  simp only[bV.mk.injEq,sj.mk.injEq]at j m u
  generalize mr ls=el at *
  refine nZ _ _ _ _ _ λg=>?_
  simp[af,ah,ad,ae,aa, *,kJ,hx.r,hx.idx,w,q,u,fJ,bU]
  refine iK (λh=>?_) (λh=>?_)
  ·exact j (by simpa [and_assoc] using h)
  ·simp[C]
   exact m (by
    intro E
    have : ¬(a1=d/\a2=b/\a3=a/\a4=f):=by simpa [and_assoc] using h
    exact this (by simpa [and_assoc] using E))
theorem Gz(d:UInt8)(b:UInt32)(a:UInt8)(f:Int):aF env 199 [x,.agg [a8 d,au b,a8 a,aI f]]=some (aI (BX (⟨⟨d,b,a⟩,f⟩:bV) ls 0)):=by
 refine aG rfl (by kernel_rfl) (wM _ _ _ _ λg=>?_)
 simp[af,ah,ad,ae,aa, *,pQ,hx.r]
 refine NU hx hl d b a f (r3:=⟨0,3,0,0⟩) ?_ ls 0 rfl (by omega) (λy e=>?_)
 ·simp
 ·subst e;simp
theorem II(b:UInt8)(a:UInt32)(d:UInt8)(f:Int)(k:UInt8)(m:UInt32):aF env 197 [x,.agg [a8 b,au a,a8 d,aI f],.agg [a8 k,au m]]=some (aB (decide ((⟨⟨b,a,d⟩,f⟩:bV)∈ls.map (·.i))&&tU ⟨b,a⟩ ⟨k,m⟩)):=by
 have o:=Gz hx hl b a d f
 have q:=PJ b a k m
 have j:=G1 (⟨⟨b,a,d⟩,f⟩:bV) ls 0
 refine aG rfl (by kernel_rfl) (xw _ _ _ _ _ λg=>?_)
 generalize BX (⟨⟨b,a,d⟩,f⟩:bV) ls 0=n at *
 by_cases h:0<=n
 ·have hm:=j.1 h
  clear j
  simp[af,ah,ad,ae,aa, *,mB,hx.r,o,q,h,hm]
 ·have hm:=λe=>h (j.2 e)
  rw[decide_eq_false hm,xg]
  clear j hm
  simp[af,ah,ad,ae,aa, *,mB,hx.r,o,q,h]
end
def gV(s:vE)(a:bV):List Int->Nat->List HC
 | [],_=>[]
 | r :: l,k=>⟨⟨s.f.h,IntKind.i64.wrap (s.f.n+(k:Int))⟩,if k=0 then a else ⟨s.f.h,IntKind.i64.wrap (s.f.n+((k:Int) - 1))⟩,r⟩ :: gV s a l (k+1)
theorem C6(s:vE)(a:bV) : ∀(l:List Int)(k:Nat),(gV s a l k).length=l.length
 | [],k=>rfl
 | r :: l,k=>by simp[gV,C6 s a l (k+1)]
section
variable(a_1:UInt8)(a_2:UInt32)(a_3:UInt8)(a_4:Int)(a_5:Int)(a_6:UInt8)(a_7:UInt32)(a_8:UInt8)(a_9:Int){x:AV}{l:List Int}{c:Option Nat}(hx:Sl 1 (rows l) x)(hm:(l.length:Int)=a_5)(hl:l.length<1000000)
include hx hm hl
theorem Pq{Q:AV->ai->Prop} : ∀(s:List Int)(k:Nat)(a:List HC)(H:ai)(j:AV),l.drop k=s->k<=l.length->a.length=k->Fr H->Own 9 (mr a) H j->(∀q,j.at?=some q->q.t=45) ->
 (∀H' E,Fr H'->Own 9 (mr (a++gV ⟨⟨⟨a_1,a_2,a_3⟩,a_4⟩,a_5⟩ ⟨⟨a_6,a_7,a_8⟩,a_9⟩ s k)) H' E->Q E H') ->
 bN env Tryz.f221 0 jg [(5,aI k),(4,aI 0),(0,.bW 10 [.agg [a8 a_1,au a_2,a8 a_3,aI a_4,aI a_5,a8 a_6,au a_7,a8 a_8,aI a_9,x]] c),(3,j)] H Q:=by
 intro s
 induction s with
 | nil=>
  rintro k a H j hs hk ho hF b ht hQ
  obtain rfl:=drop_nil hs hk
  have z:=hQ H j hF (by simpa [gV] using b)
  refine ph _ _ _ _ _ _ λg=>?_
  clear hQ
  simp[af,ah,ad,ae,aa, *,jl,hx.r,hm]
  refine pj _ _ _ _ _ λg=>?_
  simp[af,ah,ad,ae,aa, *,lS]
  all_goals exact z
 | cons n s M=>
  rintro k a H j hs hk ho hF b ht hQ
  obtain⟨V,R,C,v⟩:=drop_cons hs
  have e1:=IntWalk.i64_in ((k:Int)+1) (by omega)
  have i:(k:Int)<a_5:=by omega
  have K:=PL a_1 a_2 a_3 a_4 a_5 a_6 a_7 a_8 a_9 (k:Int) hx
  have O:=Lq a_1 a_2 a_3 a_4 a_5 a_6 a_7 a_8 a_9 (k:Int) hx (by omega) (by omega)
  have A:bX (rows l) k 0 1 false=some (aR n):=by simp[bX,rows,v,aR,AV.cells]
  have d:=λH' E S X b=>M (k+1) (a++[⟨⟨⟨a_1,a_2,a_3⟩,IntKind.i64.wrap (a_4+(k:Int))⟩,if k=0 then ⟨⟨a_6,a_7,a_8⟩,a_9⟩ else ⟨⟨a_1,a_2,a_3⟩,IntKind.i64.wrap (a_4+((k:Int) - 1))⟩,n⟩]) H' E C (by omega) (by simp[ho]) S X b
   (λI F W Y=>hQ I F W (by simpa [gV] using Y))
  have f:=qB a
  rw[ho]at f
  rw[show((k+1:Nat):Int)=(k:Int)+1 from by omega]at d
  have o : ∀e:HC,mr (a++[e])=mr a++[e.enc]:=λe=>by simp[mr]
  simp only[o,HC.enc]at d
  have y:(rows l).length=l.length:=by simp
  have hlk:(k:Int)<l.length:=by omega
  generalize D:(if k=0 then (⟨⟨a_6,a_7,a_8⟩,a_9⟩:bV) else ⟨⟨a_1,a_2,a_3⟩,IntKind.i64.wrap (a_4+((k:Int) - 1))⟩)=bq at *
  have w:aF env 237 [.agg [a8 a_1,au a_2,a8 a_3,aI a_4,aI a_5,a8 a_6,au a_7,a8 a_8,aI a_9,x],aI k]=some (.agg [a8 bq.h.lv,au bq.h.cats,a8 bq.h.num,aI bq.n]):=by
   rw[O,<-D]
   by_cases N:k=0
   ·subst N;simp
   ·have G : ¬(k:Int)=0:=by omega
    rw[if_neg N,if_neg G]
  clear M hQ hs C R v ho o O D
  generalize mr a=eo at *
  generalize rows l=rl at *
  have L:(k:Int)<l.length:=by omega
  have P:(0:Int)<=k:=by omega
  refine ph _ _ _ _ _ _ λg=>?_
  rcases b with ⟨rfl,b⟩ | ⟨t,rfl,b⟩
  ·subst b
   clear f
   simp[af,ah,ad,ae,aa, *,jl,hx.r,hx.idx,K,w,A,i,y]
   refine d _ (.cL ⟨0,45,H.gen 0 45,0⟩ 0 1 none) ?_ (.inr ⟨⟨0,45,H.gen 0 45,0⟩,rfl,?_⟩) (λq J=>by cases J;rfl)
   ·exact by simp(maxDischargeDepth:=12) [ai.get_put,aq,aj,Fr.nil,aw,af,ah,ad,ae,ao,ak,aa, *]
   ·exact by simp(maxDischargeDepth:=12) [ai.get_put,aq,aj,Fr.nil,aw,af,ah,ad,ae,ao,ak,aa, *]
  ·have u:=ht t rfl
   obtain⟨m,tt,Z,T⟩:=t
   simp only at u
   subst u
   have U:mY 9 56 k true none (some ⟨9,eo,true,false⟩) (some [.agg [a8 a_1,au a_2,a8 a_3,aI (IntKind.i64.wrap (a_4+(k:Int))),a8 bq.h.lv,au bq.h.cats,a8 bq.h.num,aI bq.n,aR n]]):=by
    simp;omega
   have l8:(H.get ⟨m,45,Z,T⟩).isSome=true:=by rw[b];rfl
   simp[af,ah,ad,ae,aa, *,jl,hx.r,hx.idx,K,w,A,i,y,hF,l8,b,U,f,ai.get_put]
   refine d _ (.cL ⟨m,45,H.gen m 45,0⟩ 0 (k+1) none) ?_ (.inr ⟨⟨m,45,H.gen m 45,0⟩,by simp[f],?_⟩) (λq J=>by cases J;rfl)
   ·exact by simp(maxDischargeDepth:=12) [ai.get_put,aq,aj,Fr.nil,aw,af,ah,ad,ae,ao,ak,aa, *]
   ·exact by simp(maxDischargeDepth:=12) [ai.get_put,aq,aj,Fr.nil,aw,af,ah,ad,ae,ao,ak,aa, *]
theorem Tp : ∃y,aF env 221 [.bW 10 [.agg [a8 a_1,au a_2,a8 a_3,aI a_4,aI a_5,a8 a_6,au a_7,a8 a_8,aI a_9,x]] c]=some y/\Sl 9 (mr (gV ⟨⟨⟨a_1,a_2,a_3⟩,a_4⟩,a_5⟩ ⟨⟨a_6,a_7,a_8⟩,a_9⟩ l 0)) y:=by
 refine vg (fn:=Tryz.f221) (c:=zk) (by kernel_rfl) (by kernel_rfl) (by kernel_rfl) (by kernel_rfl) (by kernel_rfl) ?_
 refine yC _ _ _ λg=>?_
 simp[af,ah,ad,ae,aa, *,rW]
 refine pj _ _ _ _ _ λg=>?_
 simp[af,ah,ad,ae,aa, *,lS]
 refine Pq a_1 a_2 a_3 a_4 a_5 a_6 a_7 a_8 a_9 hx hm hl l 0 [] [] ct rfl (by omega) (by simp) Fr.nil (.inl ⟨rfl,rfl⟩) (λq b=>by cases b) (λH' e d h=>?_)
 rw[vS]at h
 have a:=qB (gV ⟨⟨⟨a_1,a_2,a_3⟩,a_4⟩,a_5⟩ ⟨⟨a_6,a_7,a_8⟩,a_9⟩ l 0)
 generalize mr (gV ⟨⟨⟨a_1,a_2,a_3⟩,a_4⟩,a_5⟩ ⟨⟨a_6,a_7,a_8⟩,a_9⟩ l 0)=ee at *
 rcases h with ⟨rfl,h⟩ | ⟨r,rfl,h⟩
 ·simp[h]
 ·simp[h]
end
theorem Zw{l:List (aK × AV)}{k:Nat}{p:aK × AV}(h:l[k]?=some p)(j n:Nat)(a:Bool):bX (cI l) k j n a=bX [zh p] 0 j n a:=by
 simp[bX,cI,h]
def pX(o:aK):List HC:=if o.kind=1 then gV o.s o.a o.l 0 else []
def eQ(l:List (aK × AV)):List HC:=l.flatMap λp=>pX p.1
structure Y2 (p:aK × AV):Prop where
 x:Sl 1 (rows p.1.l) p.2
 n:p.1.kind=1->(p.1.l.length:Int)=p.1.s.many/\p.1.l.length<100/\0<p.1.l.length
section
variable{ops:List (aK × AV)}{x0:AV}(hx:Sl 17 (cI ops) x0)(hl:ops.length<10000)(hall : ∀p∈ops,Y2 p)
include hx hl hall
theorem RB{Q:AV->ai->Prop} : ∀(s:List (aK × AV)) (k:Nat) (outs:List HC) (H:ai) (E:AV),ops.drop k=s->k<=ops.length->outs.length<=100 * k->Fr H->Own 9 (mr outs) H E->(∀q,E.at?=some q->q.t=38) ->
 (∀H' P,Fr H'->Own 9 (mr (outs++eQ s)) H' P->Q P H') ->
 bN env Tryz.f195 0 fv [(4,aI k),(3,E),(0,x0)] H Q:=by
 intro s
 induction s with
 | nil=>
  rintro k outs H E hs hk ho hF f ht hQ
  obtain rfl:=drop_nil hs hk
  have m:=jD ops
  have N:=hQ H E hF (by simpa [eQ] using f)
  refine iv _ _ _ _ _ λg=>?_
  clear hQ
  simp[af,ah,ad,ae,aa, *,fy,hx.r]
  all_goals exact N
 | cons p s O=>
  rintro k outs H E hs hk ho hF f ht hQ
  obtain⟨X,R,o,C⟩:=drop_cons hs
  have e1:=IntWalk.i64_in ((k:Int)+1) (by omega)
  have m:=jD ops
  have G:=qB outs
  have i:(k:Int)<ops.length:=by omega
  have b:=Zw C
  have A:=hall p (R ▸ lY X)
  by_cases K:p.1.kind=1
  ·obtain⟨S,j,hn3⟩:=A.n K
   have a:=λH' P h1 h2 f=>O (k+1) (outs++gV p.1.s p.1.a p.1.l 0) H' P o (by omega) (by rw[oT,C6];omega) h1 h2 f (λF z Y Z=>hQ F z Y (by rw[show eQ (p :: s)=gV p.1.s p.1.a p.1.l 0++eQ s from by simp[eQ,pX,K]];simpa using Z))
   have d:(mr (gV p.1.s p.1.a p.1.l 0)).length=p.1.l.length:=by rw[qB,C6]
   have w:mr (gV p.1.s p.1.a p.1.l 0)≠[]:=λe=>by rw[e]at d;simp at d;omega
   rw[show((k+1:Nat):Int)=(k:Int)+1 from by omega,show mr (outs++gV p.1.s p.1.a p.1.l 0)=mr outs++mr (gV p.1.s p.1.a p.1.l 0) from by simp[mr]]at a
   clear O hQ hs o R C hall
   obtain⟨⟨k1,⟨a2,a3,a4⟩,a5,⟨⟨⟨a6,a7,I⟩,a9⟩,D⟩,⟨⟨Ni,Nh,v⟩,J⟩,⟨Pt,Ps⟩,U⟩,x⟩:=p
   subst K
   obtain⟨y,hA,hy⟩:=Tp a6 a7 I a9 D Ni Nh v J (c:=some 1) A.x S (Nat.lt_trans j (by decide))
   have h:=A.x
   simp only at a d w h b
   simp only[zh]at b
   generalize mr (gV ⟨⟨⟨a6,a7,I⟩,a9⟩,D⟩ ⟨⟨Ni,Nh,v⟩,J⟩ U 0)=en at *
   generalize cI ops=er at *
   generalize mr outs=eo at *
   obtain⟨cy,rfl,hcy⟩:=hy.Xb w
   have hbn:en.length * 56<=bI:=by simp only[d,bI];simp only at j;omega
   have M:(eo.length+en.length) * 56<=bI:=by simp only[d,G,bI];simp only at j;omega
   rcases f with ⟨rfl,f⟩ | ⟨t,rfl,f⟩
   ·subst f
    clear G M
    refine iv _ _ _ _ _ λg=>?_
    simp[af,ah,ad,ae,aa, *,fy,hx.r,hx.idx,i,m,b,h.r,hA, -bf, -bg]
    refine⟨by simp only at j;omega,a _ (.cL ⟨0,38,H.gen 0 38,0⟩ 0 U.length none) ?_ (.inr ⟨⟨0,38,H.gen 0 38,0⟩,by simp[d],?_⟩) (λq W=>by cases W;rfl)⟩
    ·exact by simp(maxDischargeDepth:=12) [ai.get_put,aq,aj,Fr.nil,aw,af,ah,ad,ae,ao,ak,aa, *]
    ·exact by simp(maxDischargeDepth:=12) [ai.get_put,aq,aj,Fr.nil,aw,af,ah,ad,ae,ao,ak,aa, *]
   ·have L:=ht t rfl
    obtain⟨u,tt,tg,T⟩:=t
    simp only at L
    subst L
    refine iv _ _ _ _ _ λg=>?_
    simp[af,ah,ad,ae,aa, *,fy,hx.r,hx.idx,i,m,b,h.r,hA, -bf, -bg]
    have hne5 : ¬(⟨0,5,H.gen 0 5,0⟩:Ref)=⟨u,38,tg,T⟩:=λe=>by cases e
    have V : ¬(⟨0,36,H.gen 0 36,0⟩:Ref)=⟨u,38,tg,T⟩:=λe=>by cases e
    refine D9 (M8 (fz:=false) (by simp) (by simp) _ _ _ _ (hy.Jd _) (es:=eo) ?_ G.symm w M) ?_
    ·simp[f]
    ·have l8:(H.get ⟨u,38,tg,T⟩).isSome=true:=by rw[f];rfl
     simp[hF,l8,f,ai.get_put,e1]
     refine a _ (.cL ⟨u,38,H.gen u 38,0⟩ 0 (eo.length+en.length) none) ?_ (.inr ⟨⟨u,38,H.gen u 38,0⟩,by simp,?_⟩) (λq W=>by cases W;rfl)
     ·exact by simp(maxDischargeDepth:=12) [ai.get_put,aq,aj,Fr.nil,aw,af,ah,ad,ae,ao,ak,aa, *]
     ·exact by simp(maxDischargeDepth:=12) [ai.get_put,aq,aj,Fr.nil,aw,af,ah,ad,ae,ao,ak,aa, *]
  ·have a:=O (k+1) outs H E o (by omega) (by omega) hF f ht (λF z Y Z=>hQ F z Y (by rw[show eQ (p :: s)=eQ s from by simp[eQ,pX,K]];exact Z))
   rw[show((k+1:Nat):Int)=(k:Int)+1 from by omega]at a
   clear O hQ hs o R C hall
   obtain⟨⟨k1,⟨a2,a3,a4⟩,a5,⟨⟨⟨a6,a7,I⟩,a9⟩,D⟩,⟨⟨Ni,Nh,v⟩,J⟩,⟨Pt,Ps⟩,U⟩,x⟩:=p
   simp only at K
   simp only[zh]at b
   generalize cI ops=er at *
   refine iv _ _ _ _ _ λg=>?_
   simp[af,ah,ad,ae,aa, *,fy,hx.r,hx.idx,i,m,b,K]
theorem Q6 : ∃y,aF env 195 [x0]=some y/\Sl 9 (mr (eQ ops)) y:=by
 refine vg (fn:=Tryz.f195) (c:=yf) (by kernel_rfl) (by kernel_rfl) (by kernel_rfl) (by kernel_rfl) (by kernel_rfl) ?_
 refine xy _ _ _ λg=>?_
 simp[af,ah,ad,ae,aa, *,qE]
 refine RB hx hl hall ops 0 [] [] ct rfl (by omega) (by simp) Fr.nil (.inl ⟨rfl,rfl⟩) (λq b=>by cases b) (λH' e d h=>?_)
 rw[vS]at h
 have a:=qB (eQ ops)
 generalize mr (eQ ops)=ee at *
 rcases h with ⟨rfl,h⟩ | ⟨r,rfl,h⟩
 ·simp[h]
 ·simp[h]
end
end Go.Proofs.YtmkmimgokagimaaGreat
namespace Go.Proofs.YtmkmimgokagimaaGreat
open Go.Ab
attribute [local simp] aW aJ aH aV aU cr ld bf aQ aT cz cw bI bg aC bH gh yx
structure AQ (p:aK × AV):Prop where
 x:Sl 1 (rows p.1.l) p.2
 may:m0 p.1=true
 rng:p8 p.1.l
theorem CN{o:aK}(h:m0 o=true):o.l.length<=64:=by
 have hs:=lz h
 have b:=gz hs
 simp only[m0,bh,BV]at h
 have a:=h.2.2.2.2
 split at a
 ·simp only[GX,bh,decide_eq_true_eq]at a
  have:=a.2.2.2.1
  omega
 ·split at a
  ·simp only[MU,yi,bh,decide_eq_true_eq]at a
   rw[a.2.2];simp
  ·split at a
   ·simp only[J1,yi,bh,decide_eq_true_eq]at a
    rw[a.1.2];simp
   ·exact absurd a (by decide)
theorem AQ.ins{p:aK × AV}(h:AQ p):Y2 p:=by
 refine⟨h.x,λb=>?_⟩
 have hl:=CN h.may
 have c:=gz (lz h.may)
 have h:=h.may
 simp only[m0,bh,BV,b,if_true]at h
 have a:=h.2.2.2.2
 simp only[GX,bh,decide_eq_true_eq]at a
 have:=a.2.2.2.1
 exact⟨this,by omega,by omega⟩
theorem AQ.ok{p:aK × AV}(h:AQ p):HW p:=⟨h.x,by have:=CN h.may;omega⟩
theorem Uj{l:List (aK × AV)}(h : ∀p∈l,AQ p):(eQ l).length<=64 * l.length:=by
 induction l with
 | nil=>simp[eQ]
 | cons p l b=>
  have c:=b λq a=>h q (il _ a)
  have hp:=CN (h p jn).may
  have:(pX p.1).length<=64:=by
   unfold pX
   split
   ·rw[C6];exact hp
   ·simp
  rw[show eQ (p :: l)=pX p.1++eQ l from by simp[eQ],oT,qZ]
  omega
def tC(ones:List HC)(o:aK)(i:bV):Bool:=decide (i∈ones.map (·.i))&&tU ⟨i.h.lv,i.h.cats⟩ ⟨o.h.lv,o.h.cats⟩
def C5(ops:List (aK × AV))(o:aK):Int:=
 if (o.kind=2 /\¬(o.s.f.h.lv=o.h.lv/\o.s.f.h.cats=o.h.cats))\/(o.kind=3/\kI (opsOf ops) o=false) then 2 else if 2048<=ops.length then 4 else 0
def RN(ops:List (aK × AV))(ones:List HC)(o:aK)(ids:List bV):Int:=
 if ids.any (λi=>decide (i∈ones.map (·.i)))=true then 2 else if 8192<(ones.length:Int)+ids.length then 4 else C5 ops o
def LY(ops:List (aK × AV))(ones:List HC)(o:aK)(ids:List bV):Int:=
 if ids.any (λi => !tC ones o i)=true then 6 else C5 ops o
def Ib(ops:List (aK × AV))(ones:List HC)(o:aK)(ids:List bV):Int:=
 if o.kind=1 then (if o.a≠qX/\tC ones o o.a=false then 6 else if xM ⟨o.s,o.a,o.l⟩=false then 2 else RN ops ones o ids) else LY ops ones o ids
section
variable{ops:List (aK × AV)}{x0:AV}(hx:Sl 17 (cI ops) x0)(hl:ops.length<10000)(hall : ∀p∈ops,AQ p)
variable{ones:List HC}{x5:AV}(h5:Sl 9 (mr ones) x5)(hol:ones.length<1000000)
variable{ids:List bV}{x6:AV}(h6:Sl 4 (ma ids) x6)(hil:ids.length<100000)
variable(a_1:UInt8)(a_2:UInt8)(a_3:UInt32)(a_4:UInt8)(a_5:Int)(a_6:UInt8)(a_7:UInt32)(a_8:UInt8)(a_9:Int)(a_10:Int)(a_11:UInt8)(a_12:UInt32)(a_13:UInt8)(a_14:Int)(a_15:UInt8)(a_16:UInt32){al:List Int}{x:AV}(hax:Sl 1 (rows al) x)(hs:eP ⟨⟨⟨a_6,a_7,a_8⟩,a_9⟩,a_10⟩=true)
include hx hl hall h5 hol h6 hil hax hs
theorem Qj{r3:Ref}{H:ai}(o:H.get r3=some ⟨17,[.agg [a8 a_1,a8 a_2,au a_3,a8 a_4,aI a_5,a8 a_6,au a_7,a8 a_8,aI a_9,aI a_10,a8 a_11,au a_12,a8 a_13,aI a_14,a8 a_15,au a_16,x]],false,false⟩){Q:AV->ai->Prop}(k:Nat)(w:a_1=1\/k=ids.length)(A:k<=ids.length)
 (z : ∀y,y=aI (C5 ops (⟨a_1,⟨a_2,a_3,a_4⟩,a_5,⟨⟨⟨a_6,a_7,a_8⟩,a_9⟩,a_10⟩,⟨⟨a_11,a_12,a_13⟩,a_14⟩,⟨a_15,a_16⟩,al⟩:aK))->Q y H) :
 bN env Tryz.f142 0 dw [(8,aI k),(3,.ptr r3 0 0),(6,x6),(5,x5),(0,x0)] H Q:=by
 have q:=QX hx (λp hp=>(hall p hp).ok) (λp hp=>lz (hall p hp).may) (by omega) a_1 a_2 a_3 a_4 a_5 a_6 a_7 a_8 a_9 a_10 a_11 a_12 a_13 a_14 a_15 a_16 hax hs
 have v : ∀e:C5 ops (⟨a_1,⟨a_2,a_3,a_4⟩,a_5,⟨⟨⟨a_6,a_7,a_8⟩,a_9⟩,a_10⟩,⟨⟨a_11,a_12,a_13⟩,a_14⟩,⟨a_15,a_16⟩,al⟩:aK)=C5 ops (⟨a_1,⟨a_2,a_3,a_4⟩,a_5,⟨⟨⟨a_6,a_7,a_8⟩,a_9⟩,a_10⟩,⟨⟨a_11,a_12,a_13⟩,a_14⟩,⟨a_15,a_16⟩,al⟩:aK),True:=λ_=>trivial
 clear v
 have d:=jD ops
 have f:=yc ids
 have b : ∀n,n=C5 ops (⟨a_1,⟨a_2,a_3,a_4⟩,a_5,⟨⟨⟨a_6,a_7,a_8⟩,a_9⟩,a_10⟩,⟨⟨a_11,a_12,a_13⟩,a_14⟩,⟨a_15,a_16⟩,al⟩:aK)->Q (aI n) H:=λn e=>z _ (by rw[e])
 clear z hall
 have i:((k:Int)<ids.length)->a_1=1:=λh=>w.resolve_right (by omega)
 unfold C5 at b
 simp only at b
 generalize kI (opsOf ops) (⟨a_1,⟨a_2,a_3,a_4⟩,a_5,⟨⟨⟨a_6,a_7,a_8⟩,a_9⟩,a_10⟩,⟨⟨a_11,a_12,a_13⟩,a_14⟩,⟨a_15,a_16⟩,al⟩:aK)=fb at *
 have u:((k:Int)<ids.length) \/¬((k:Int)<ids.length):=Classical.em _
 refine nA _ _ _ _ _ _ _ λg=>?_
 by_cases k1:a_1=1
 ·subst k1
  simp only[show ¬((1:UInt8)=2) from by decide,show ¬((1:UInt8)=3) from by decide,false_and,or_self,if_false]at b
  clear i w
  rcases u with l | l
  ·by_cases m:2048<=ops.length
   ·have c:(2048:Int)<=ops.length:=by omega
    have a:=b 4 (by rw[if_pos m])
    clear b
    simp[af,ah,ad,ae,aa, *,aM,o,hx.r,h6.r,h5.r,hax.r,q,d,f,l,c]
    all_goals exact a
   ·have c : ¬(2048:Int)<=ops.length:=by omega
    have a:=b 0 (by rw[if_neg m])
    clear b
    simp[af,ah,ad,ae,aa, *,aM,o,hx.r,h6.r,h5.r,hax.r,q,d,f,l,c]
    all_goals exact a
  ·by_cases m:2048<=ops.length
   ·have c:(2048:Int)<=ops.length:=by omega
    have a:=b 4 (by rw[if_pos m])
    clear b
    simp[af,ah,ad,ae,aa, *,aM,o,hx.r,h6.r,h5.r,hax.r,q,d,f,l,c]
    all_goals exact a
   ·have c : ¬(2048:Int)<=ops.length:=by omega
    have a:=b 0 (by rw[if_neg m])
    clear b
    simp[af,ah,ad,ae,aa, *,aM,o,hx.r,h6.r,h5.r,hax.r,q,d,f,l,c]
    all_goals exact a
 ·have l : ¬((k:Int)<ids.length):=λh=>k1 (i h)
  clear u i w
  by_cases k2:a_1=2
  ·subst k2
   simp only[show ¬((2:UInt8)=3) from by decide,false_and,or_false,true_and]at b
   by_cases j:a_6=a_2
   ·by_cases t:a_7=a_3
    ·by_cases m:2048<=ops.length
     ·have c:(2048:Int)<=ops.length:=by omega
      have a:=b 4 (by rw[if_neg (λh=>h ⟨j,t⟩),if_pos m])
      clear b
      simp[af,ah,ad,ae,aa, *,aM,o,hx.r,h6.r,h5.r,hax.r,q,d,f,l,c,j,t,fJ,bU]
      all_goals exact a
     ·have c : ¬(2048:Int)<=ops.length:=by omega
      have a:=b 0 (by rw[if_neg (λh=>h ⟨j,t⟩),if_neg m])
      clear b
      simp[af,ah,ad,ae,aa, *,aM,o,hx.r,h6.r,h5.r,hax.r,q,d,f,l,c,j,t,fJ,bU]
      all_goals exact a
    ·have a:=b 2 (by rw[if_pos (λh=>t h.2)])
     clear b
     simp[af,ah,ad,ae,aa, *,aM,o,hx.r,h6.r,h5.r,hax.r,q,d,f,l,j,t,fJ,bU]
     all_goals exact a
   ·have a:=b 2 (by rw[if_pos (λh=>j h.1)])
    clear b
    simp[af,ah,ad,ae,aa, *,aM,o,hx.r,h6.r,h5.r,hax.r,q,d,f,l,j,fJ,bU]
    all_goals exact a
  ·by_cases k3:a_1=3
   ·subst k3
    simp only[show ¬((3:UInt8)=2) from by decide,false_and,false_or,true_and]at b
    cases fb with
    | false=>
     have a:=b 2 (by simp)
     clear b
     simp[af,ah,ad,ae,aa, *,aM,o,hx.r,h6.r,h5.r,hax.r,q,d,f,l]
     all_goals exact a
    | true=>
     by_cases m:2048<=ops.length
     ·have c:(2048:Int)<=ops.length:=by omega
      have a:=b 4 (by simp[m])
      clear b
      simp[af,ah,ad,ae,aa, *,aM,o,hx.r,h6.r,h5.r,hax.r,q,d,f,l,c]
      all_goals exact a
     ·have c : ¬(2048:Int)<=ops.length:=by omega
      have a:=b 0 (by simp[m])
      clear b
      simp[af,ah,ad,ae,aa, *,aM,o,hx.r,h6.r,h5.r,hax.r,q,d,f,l,c]
      all_goals exact a
   ·simp only[k2,k3,false_and,or_self,if_false]at b
    by_cases m:2048<=ops.length
    ·have c:(2048:Int)<=ops.length:=by omega
     have a:=b 4 (by rw[if_pos m])
     clear b
     simp[af,ah,ad,ae,aa, *,aM,o,hx.r,h6.r,h5.r,hax.r,q,d,f,l,c,k1,k2,k3]
     all_goals exact a
    ·have c : ¬(2048:Int)<=ops.length:=by omega
     have a:=b 0 (by rw[if_neg m])
     clear b
     simp[af,ah,ad,ae,aa, *,aM,o,hx.r,h6.r,h5.r,hax.r,q,d,f,l,c,k1,k2,k3]
     all_goals exact a
theorem aas{r3:Ref}{H:ai}(v:H.get r3=some ⟨17,[.agg [a8 a_1,a8 a_2,au a_3,a8 a_4,aI a_5,a8 a_6,au a_7,a8 a_8,aI a_9,aI a_10,a8 a_11,au a_12,a8 a_13,aI a_14,a8 a_15,au a_16,x]],false,false⟩)(k1 : ¬a_1=1){Q:AV->ai->Prop} : ∀(s:List bV)(k:Nat),ids.drop k=s->k<=ids.length ->
 (∀y,y=aI (LY ops ones (⟨a_1,⟨a_2,a_3,a_4⟩,a_5,⟨⟨⟨a_6,a_7,a_8⟩,a_9⟩,a_10⟩,⟨⟨a_11,a_12,a_13⟩,a_14⟩,⟨a_15,a_16⟩,al⟩:aK) s)->Q y H) ->
 bN env Tryz.f142 0 dw [(8,aI k),(3,.ptr r3 0 0),(6,x6),(5,x5),(0,x0)] H Q:=by
 intro s
 induction s with
 | nil=>
  rintro k hs' hk hQ
  have u:k=ids.length:=by have:=congrArg List.length hs';simp at this;omega
  exact Qj hx hl hall h5 hol h6 hil a_1 a_2 a_3 a_4 a_5 a_6 a_7 a_8 a_9 a_10 a_11 a_12 a_13 a_14 a_15 a_16 hax hs v k (.inr u) hk (λy e=>hQ y (by rw[e];simp[LY]))
 | cons i s w=>
  rintro k hs' hk hQ
  obtain⟨C,z,d,o⟩:=drop_cons hs'
  have D:=IntWalk.i64_in ((k:Int)+1) (by omega)
  have j:=II h5 hol i.h.lv i.h.cats i.h.num i.n a_2 a_3
  have A:=jD ops
  have t:=yc ids
  have c:(k:Int)<ids.length:=by omega
  have q:bX (ma ids) k 0 4 true=some (.agg [a8 i.h.lv,au i.h.cats,a8 i.h.num,aI i.n]):=by simp[bX,ma,Va,o]
  have m:(decide ((⟨⟨i.h.lv,i.h.cats,i.h.num⟩,i.n⟩:bV)∈ones.map (·.i))&&tU ⟨i.h.lv,i.h.cats⟩ ⟨a_2,a_3⟩)=tC ones (⟨a_1,⟨a_2,a_3,a_4⟩,a_5,⟨⟨⟨a_6,a_7,a_8⟩,a_9⟩,a_10⟩,⟨⟨a_11,a_12,a_13⟩,a_14⟩,⟨a_15,a_16⟩,al⟩:aK) i:=rfl
  rw[m]at j
  have f:=w (k+1) d (by omega)
  rw[show((k+1:Nat):Int)=(k:Int)+1 from by omega]at f
  have b:=λ(h:tC ones (⟨a_1,⟨a_2,a_3,a_4⟩,a_5,⟨⟨⟨a_6,a_7,a_8⟩,a_9⟩,a_10⟩,⟨⟨a_11,a_12,a_13⟩,a_14⟩,⟨a_15,a_16⟩,al⟩:aK) i=true)=>f (λy e=>hQ y (by rw[e];simp[LY,h]))
  have l:=λ(h:tC ones (⟨a_1,⟨a_2,a_3,a_4⟩,a_5,⟨⟨⟨a_6,a_7,a_8⟩,a_9⟩,a_10⟩,⟨⟨a_11,a_12,a_13⟩,a_14⟩,⟨a_15,a_16⟩,al⟩:aK) i=false)=>hQ (aI 6) (by simp[LY,h])
  clear w f hQ m hs' d z o hall
  generalize tC ones (⟨a_1,⟨a_2,a_3,a_4⟩,a_5,⟨⟨⟨a_6,a_7,a_8⟩,a_9⟩,a_10⟩,⟨⟨a_11,a_12,a_13⟩,a_14⟩,⟨a_15,a_16⟩,al⟩:aK) i=sb at *
  generalize ma ids=ej at *
  refine nA _ _ _ _ _ _ _ λg=>?_
  cases sb with
  | true=>
   have a:=b rfl
   clear b l
   simp[af,ah,ad,ae,aa, *,aM,v,hx.r,h6.r,h6.idx,h5.r,hax.r,j,t,c,q,k1]
   all_goals exact a
  | false=>
   have a:=l rfl
   clear b l
   simp[af,ah,ad,ae,aa, *,aM,v,hx.r,h6.r,h6.idx,h5.r,hax.r,j,t,c,q,k1]
   all_goals exact a
theorem aeE{r3:Ref}{H:ai}(w:H.get r3=some ⟨17,[.agg [a8 a_1,a8 a_2,au a_3,a8 a_4,aI a_5,a8 a_6,au a_7,a8 a_8,aI a_9,aI a_10,a8 a_11,au a_12,a8 a_13,aI a_14,a8 a_15,au a_16,x]],false,false⟩)(k1:a_1=1){Q:AV->ai->Prop} : ∀(s:List bV)(k:Nat),ids.drop k=s->k<=ids.length ->
 (∀y,y=aI (if s.any (λi=>decide (i∈ones.map (·.i)))=true then 2 else if 8192<(ones.length:Int)+ids.length then 4 else C5 ops (⟨a_1,⟨a_2,a_3,a_4⟩,a_5,⟨⟨⟨a_6,a_7,a_8⟩,a_9⟩,a_10⟩,⟨⟨a_11,a_12,a_13⟩,a_14⟩,⟨a_15,a_16⟩,al⟩:aK))->Q y H) ->
 bN env Tryz.f142 0 gM [(7,aI k),(6,x6),(5,x5),(3,.ptr r3 0 0),(0,x0)] H Q:=by
 intro s
 induction s with
 | nil=>
  rintro k hs' hk hQ
  have F:k=ids.length:=by have:=congrArg List.length hs';simp at this;omega
  have b:=λL=>Qj hx hl hall h5 hol h6 hil a_1 a_2 a_3 a_4 a_5 a_6 a_7 a_8 a_9 a_10 a_11 a_12 a_13 a_14 a_15 a_16 hax hs w 0 (.inl k1) (Dr _) (Q:=Q) L
  have G:=jD ops
  have d:=yc ids
  have A:=qB ones
  have D:=IntWalk.i64_in ((ones.length:Int)+(ids.length:Int)) (by omega)
  have q:((8192:Int)<(ones.length:Int)+ids.length) \/¬((8192:Int)<(ones.length:Int)+ids.length):=Classical.em _
  have l : ¬((k:Int)<ids.length):=by omega
  simp only[List.any_nil,nz,if_false]at hQ
  clear hall F
  refine nX _ _ _ _ _ _ _ λg=>?_
  rcases q with q | q
  ·have a:=hQ (aI 4) (by rw[if_pos q])
   clear hQ b
   simp[af,ah,ad,ae,aa, *,eY,w,hx.r,h6.r,h5.r,d,A,l,D,q]
   all_goals exact a
  ·have a:=b (λy e=>hQ y (by rw[if_neg q];exact e))
   clear hQ b
   simp[af,ah,ad,ae,aa, *,eY,w,hx.r,h6.r,h5.r,d,A,l,D,q]
   all_goals exact a
 | cons i s J=>
  rintro k hs' hk hQ
  obtain⟨M,K,j,v⟩:=drop_cons hs'
  have D:=IntWalk.i64_in ((k:Int)+1) (by omega)
  have I:=Gz h5 hol i.h.lv i.h.cats i.h.num i.n
  have E:=G1 i ones 0
  have G:=jD ops
  have d:=yc ids
  have f:(k:Int)<ids.length:=by omega
  have z:bX (ma ids) k 0 4 true=some (.agg [a8 i.h.lv,au i.h.cats,a8 i.h.num,aI i.n]):=by simp[bX,ma,Va,v]
  have u:BX (⟨⟨i.h.lv,i.h.cats,i.h.num⟩,i.n⟩:bV) ones 0=BX i ones 0:=rfl
  rw[u]at I
  have o:=J (k+1) j (by omega)
  rw[show((k+1:Nat):Int)=(k:Int)+1 from by omega]at o
  have c:=λ(h:0<=BX i ones 0)=>hQ (aI 2) (by rw[FD,decide_eq_true (E.1 h)];simp)
  have t:=λ(h : ¬0<=BX i ones 0)=>o (λy e=>hQ y (by rw[e,FD,decide_eq_false (λm=>h (E.2 m)),Dt]))
  clear J o hQ u hs' j K v hall E
  generalize BX i ones 0=n at *
  generalize ma ids=ej at *
  refine nX _ _ _ _ _ _ _ λg=>?_
  by_cases C:0<=n
  ·have a:=c C
   clear c t
   simp[af,ah,ad,ae,aa, *,eY,w,hx.r,h6.r,h6.idx,h5.r,hax.r,I,d,f,z,C]
   all_goals exact a
  ·have a:=t C
   clear c t
   simp[af,ah,ad,ae,aa, *,eY,w,hx.r,h6.r,h6.idx,h5.r,hax.r,I,d,f,z,C]
   all_goals exact a
end
section
variable{ops:List (aK × AV)}{x0:AV}(hx:Sl 17 (cI ops) x0)(hl:ops.length<10000)(hall : ∀p∈ops,AQ p)
variable(a_1:UInt8)(a_2:UInt8)(a_3:UInt32)(a_4:UInt8)(a_5:Int)(a_6:UInt8)(a_7:UInt32)(a_8:UInt8)(a_9:Int)(a_10:Int)(a_11:UInt8)(a_12:UInt32)(a_13:UInt8)(a_14:Int)(a_15:UInt8)(a_16:UInt32){al:List Int}{x:AV}(hax:Sl 1 (rows al) x)(hs:eP ⟨⟨⟨a_6,a_7,a_8⟩,a_9⟩,a_10⟩=true)(hrg:p8 al)(hal:al.length<100000)
include hx hl hall hax hs hrg hal
theorem Og:aF env 142 [x0,.agg [a8 a_1,a8 a_2,au a_3,a8 a_4,aI a_5,a8 a_6,au a_7,a8 a_8,aI a_9,aI a_10,a8 a_11,au a_12,a8 a_13,aI a_14,a8 a_15,au a_16,x]]=some (aI (Ib ops (eQ ops) (⟨a_1,⟨a_2,a_3,a_4⟩,a_5,⟨⟨⟨a_6,a_7,a_8⟩,a_9⟩,a_10⟩,⟨⟨a_11,a_12,a_13⟩,a_14⟩,⟨a_15,a_16⟩,al⟩:aK) (eV ⟨⟨⟨a_6,a_7,a_8⟩,a_9⟩,a_10⟩ a_10.toNat 0))):=by
 obtain⟨x5,l,h5⟩:=Q6 hx hl (λp hp=>(hall p hp).ins)
 have hol:(eQ ops).length<1000000:=by have:=Uj hall;omega
 have m:=Tj a_6 a_7 a_8 a_9 a_10 hs
 have h6:=A5 4 (ma (eV ⟨⟨⟨a_6,a_7,a_8⟩,a_9⟩,a_10⟩ a_10.toNat 0))
 have w:=gz hs
 simp only at w
 have q:=EG ⟨⟨⟨a_6,a_7,a_8⟩,a_9⟩,a_10⟩ a_10.toNat 0
 have hil:(eV ⟨⟨⟨a_6,a_7,a_8⟩,a_9⟩,a_10⟩ a_10.toNat 0).length<100000:=by omega
 have k:=Tq a_6 a_7 a_8 a_9 a_10 a_11 a_12 a_13 a_14 hax (by omega) hrg
 have f:=II h5 hol a_11 a_12 a_13 a_14 a_2 a_3
 have n:(decide ((⟨⟨a_11,a_12,a_13⟩,a_14⟩:bV)∈(eQ ops).map (·.i))&&tU ⟨a_11,a_12⟩ ⟨a_2,a_3⟩)=tC (eQ ops) (⟨a_1,⟨a_2,a_3,a_4⟩,a_5,⟨⟨⟨a_6,a_7,a_8⟩,a_9⟩,a_10⟩,⟨⟨a_11,a_12,a_13⟩,a_14⟩,⟨a_15,a_16⟩,al⟩:aK) ⟨⟨a_11,a_12,a_13⟩,a_14⟩:=rfl
 rw[n]at f
 clear n q w
 generalize eV ⟨⟨⟨a_6,a_7,a_8⟩,a_9⟩,a_10⟩ a_10.toNat 0=ids at *
 generalize xR 4 (ma ids)=x6 at *
 have c:=λ(r3:Ref)(H:ai) hB k1 Q=>aeE hx hl hall h5 hol h6 hil a_1 a_2 a_3 a_4 a_5 a_6 a_7 a_8 a_9 a_10 a_11 a_12 a_13 a_14 a_15 a_16 hax hs (r3:=r3) (H:=H) hB k1 (Q:=Q) ids 0 rfl (by omega)
 have b:=λ(r3:Ref)(H:ai) hB k1 Q=>aas hx hl hall h5 hol h6 hil a_1 a_2 a_3 a_4 a_5 a_6 a_7 a_8 a_9 a_10 a_11 a_12 a_13 a_14 a_15 a_16 hax hs (r3:=r3) (H:=H) hB k1 (Q:=Q) ids 0 rfl (by omega)
 generalize eQ ops=ones at *
 have v:xM (⟨⟨⟨⟨a_6,a_7,a_8⟩,a_9⟩,a_10⟩,⟨⟨a_11,a_12,a_13⟩,a_14⟩,al⟩:Rn)=xM (⟨⟨⟨⟨a_6,a_7,a_8⟩,a_9⟩,a_10⟩,⟨⟨a_11,a_12,a_13⟩,a_14⟩,al⟩:Rn):=rfl
 clear v
 generalize t:Ib ops ones (⟨a_1,⟨a_2,a_3,a_4⟩,a_5,⟨⟨⟨a_6,a_7,a_8⟩,a_9⟩,a_10⟩,⟨⟨a_11,a_12,a_13⟩,a_14⟩,⟨a_15,a_16⟩,al⟩:aK) ids=en
 refine aG rfl (by kernel_rfl) (wK _ _ _ _ λg=>?_)
 clear hall
 by_cases k1:a_1=1
 ·subst k1
  have d:(⟨⟨a_11,a_12,a_13⟩,a_14⟩:bV)=qX↔(((a_11=0/\a_12=0)/\a_13=0)/\a_14=0):=by simp[qX,and_assoc]
  have a:en=if ¬(⟨⟨a_11,a_12,a_13⟩,a_14⟩:bV)=qX/\tC ones (⟨1,⟨a_2,a_3,a_4⟩,a_5,⟨⟨⟨a_6,a_7,a_8⟩,a_9⟩,a_10⟩,⟨⟨a_11,a_12,a_13⟩,a_14⟩,⟨a_15,a_16⟩,al⟩:aK) ⟨⟨a_11,a_12,a_13⟩,a_14⟩=false then 6 else if xM (⟨⟨⟨⟨a_6,a_7,a_8⟩,a_9⟩,a_10⟩,⟨⟨a_11,a_12,a_13⟩,a_14⟩,al⟩:Rn)=false then 2 else RN ops ones (⟨1,⟨a_2,a_3,a_4⟩,a_5,⟨⟨⟨a_6,a_7,a_8⟩,a_9⟩,a_10⟩,⟨⟨a_11,a_12,a_13⟩,a_14⟩,⟨a_15,a_16⟩,al⟩:aK) ids:=t.symm
  clear t b
  replace c:=λ(r3:Ref)(H:ai) hB Q=>c r3 H hB rfl Q
  generalize tC ones (⟨1,⟨a_2,a_3,a_4⟩,a_5,⟨⟨⟨a_6,a_7,a_8⟩,a_9⟩,a_10⟩,⟨⟨a_11,a_12,a_13⟩,a_14⟩,⟨a_15,a_16⟩,al⟩:aK) ⟨⟨a_11,a_12,a_13⟩,a_14⟩=sb at *
  generalize xM (⟨⟨⟨⟨a_6,a_7,a_8⟩,a_9⟩,a_10⟩,⟨⟨a_11,a_12,a_13⟩,a_14⟩,al⟩:Rn)=rb at *
  by_cases u:(((a_11=0/\a_12=0)/\a_13=0)/\a_14=0)
  ·rw[if_neg (λh=>h.1 (d.2 u))]at a
   clear d
   obtain⟨⟨⟨rfl,rfl⟩,rfl⟩,rfl⟩:=u
   cases rb with
   | false=>
    rw[if_pos rfl]at a
    subst a
    simp[af,ah,ad,ae,aa, *,dv,hx.r,hax.r,l,m,k,h5.r,h6.r,fJ,bU]
   | true=>
    rw[if_neg (by decide)]at a
    unfold RN at a
    simp[af,ah,ad,ae,aa, *,dv,hx.r,hax.r,l,m,k,h5.r,h6.r,fJ,bU]
    refine c _ _ (by simp) _ (λy e=>?_)
    subst e
    simp[a]
  ·have o : ¬(⟨⟨a_11,a_12,a_13⟩,a_14⟩:bV)=qX:=λh=>u (d.1 h)
   clear d
   have j:(!decide (a_11=0) || !decide (a_12=0) || !decide (a_13=0) || !decide (a_14=0))=true:=by
    rw[Fo]
    simp only[fe,dV,decide_eq_false_iff_not]
    constructor
    ·intro _;trivial
    ·intro _
     by_cases z:a_11=0
     ·by_cases C:a_12=0
      ·by_cases A:a_13=0
       ·exact .inr λD=>u ⟨⟨⟨z,C⟩,A⟩,D⟩
       ·exact .inl (.inr A)
      ·exact .inl (.inl (.inr C))
     ·exact .inl (.inl (.inl z))
   cases sb with
   | false=>
    rw[if_pos ⟨o,rfl⟩]at a
    subst a
    simp[af,ah,ad,ae,aa, *,dv,hx.r,hax.r,l,m,k,h5.r,h6.r,f,j,fJ,bU]
   | true=>
    rw[if_neg (λh=>absurd h.2 (by decide))]at a
    clear o
    cases rb with
    | false=>
     rw[if_pos rfl]at a
     subst a
     simp[af,ah,ad,ae,aa, *,dv,hx.r,hax.r,l,m,k,h5.r,h6.r,f,j,fJ,bU]
    | true=>
     rw[if_neg (by decide)]at a
     unfold RN at a
     simp[af,ah,ad,ae,aa, *,dv,hx.r,hax.r,l,m,k,h5.r,h6.r,f,j,fJ,bU]
     refine c _ _ (by simp) _ (λy e=>?_)
     subst e
     simp[a]
 ·have a:en=LY ops ones (⟨a_1,⟨a_2,a_3,a_4⟩,a_5,⟨⟨⟨a_6,a_7,a_8⟩,a_9⟩,a_10⟩,⟨⟨a_11,a_12,a_13⟩,a_14⟩,⟨a_15,a_16⟩,al⟩:aK) ids:=by rw[<-t];unfold Ib;rw[if_neg k1]
  clear t c
  replace b:=λ(r3:Ref)(H:ai) hB Q=>b r3 H hB k1 Q
  simp[af,ah,ad,ae,aa, *,dv,hx.r,hax.r,l,m,k,h5.r,h6.r,k1]
  refine b _ _ (by simp) _ (λy e=>?_)
  subst e
  simp[a]
end
end Go.Proofs.YtmkmimgokagimaaGreat
namespace Go.Proofs.YtmkmimgokagimaaGreat
open Go.Ab
attribute [local simp] aW aJ aH aV aU cr ld bf aQ aT cz cw bI bg aC bH gh
def Xe(o:aK):List bV:=eV o.s o.s.many.toNat 0
def Kp(l:List (cH × AV))(o:aK):Int:=Ib (kS l) (eQ (kS l)) o (Xe o)
def Gg(l:List (cH × AV))(o:aK):zw:=sR ⟨o.h.lv,o.h.cats⟩ ⟨0,0,0⟩ l
def Gx(l:List (cH × AV))(o:aK):Nk:=kO o.h ⟨false,0,0⟩ l
def Mn(qs:List ax)(l:List (cH × AV))(o:aK):Int:=
 if Kp l o≠0 then Kp l o else if o.kind=1/\(nE qs o.h.lv o.h.cats).cells<IntKind.i64.wrap ((Gg l o).cells+o.s.many) then 9 else 0
def xX(us:List Clear)(qs:List ax)(gr:Int)(l:List (cH × AV))(r:cH):Bool:=
 if r.kind=3 then decide (mX (gK us gr l).1 (gK us gr l).2 r.gu=0)
 else if r.kind=1 then !(Gx l r.op).o&&(pa (gK us gr l).1 r.user r.op.h.lv r.op.h.cats&&decide ((Gg l r.op).opens<(nE qs r.op.h.lv r.op.h.cats).opens))
 else (Gx l r.op).o&&(pa (gK us gr l).1 (Gx l r.op).u r.op.h.lv r.op.h.cats&&(decide (r.op.serial=IntKind.i64.wrap ((Gx l r.op).s+1))&&(decide ((Gg l r.op).ops<(nE qs r.op.h.lv r.op.h.cats).ops)&&decide (r.code=Mn qs l r.op))))
structure Bd (p:cH × AV):Prop where
 x:Sl 1 (rows p.1.op.l) p.2
 rng:p8 p.1.op.l
 may:cT p.1=true
theorem xO{r:cH}(h:cT r=true)(k:r.kind=2):m0 r.op=true:=by
 simp only[cT,k,show ¬((2:UInt8)=1) from by decide,if_false,if_true,bh]at h
 exact h.2.1
theorem R1{l:List (cH × AV)}(h : ∀p∈l,Bd p) : ∀p∈kS l,AQ p:=by
 intro p hp
 unfold kS at hp
 obtain⟨q,hq,rfl⟩:=tY.1 hp
 obtain⟨hq,a⟩:=FI.1 hq
 simp only[isDone,bh,decide_eq_true_eq]at a
 exact⟨(h q hq).x,xO (h q hq).may a.1,(h q hq).rng⟩
theorem MR(l:List (cH × AV)):(kS l).length<=l.length:=by
 unfold kS;rw[so];exact NJ _ _
theorem L5(us:List Clear)(gr:Int)(l:List (cH × AV)):(gK us gr l).1.length=us.length:=by
 induction l generalizing us gr with
 | nil=>rfl
 | cons p l a=>
  rw[gK]
  split
  ·rw[a,Jr]
  ·exact a _ _
section
variable{l:List (cH × AV)}{x1:AV}(hx:Sl 24 (bY l) x1)(hl:l.length<10000)(hall : ∀p∈l,Bd p)
variable{xu xq:AV}{us:List Clear}{qs:List ax}{gr:Int}(hu:Sl 3 (bZ us) xu)(hq:Sl 5 (bS qs) xq)(hql:qs.length<1000)(hul:us.length<1000)
include hx hl hall hu hq hql hul
theorem Lp(o:UInt8)(c:UInt8)(b:UInt32)(z:UInt8)(w:Int)(u:UInt8)(q:UInt32)(v:UInt8)(t:Int)(a:Int)(m:UInt8)(f:UInt32)(d:UInt8)(j:Int)(i:UInt8)(k:UInt32){x:AV}{C:List Int}(A:Sl 1 (rows C) x)(T:eP ⟨⟨⟨u,q,v⟩,t⟩,a⟩=true)(L:p8 C)(M:C.length<100000) :
 aF env 74 [.agg [xu,xq,aI gr],x1,.agg [a8 o,a8 c,au b,a8 z,aI w,a8 u,au q,a8 v,aI t,aI a,a8 m,au f,a8 d,aI j,a8 i,au k,x]]=some (aI (Mn qs l (⟨o,⟨c,b,z⟩,w,⟨⟨⟨u,q,v⟩,t⟩,a⟩,⟨⟨m,f,d⟩,j⟩,⟨i,k⟩,C⟩:aK))):=by
 obtain⟨y,K,F⟩:=Q4 hx (by omega) (λp hp=>(hall p hp).x)
 have N:=MR l
 have E:=Og F (by omega) (R1 hall) o c b z w u q v t a m f d j i k A T L M
 have J:=BR hx (by omega) c b
 have H:=Tm (gr:=gr) hu hq (by omega) c b
 have Q:Mn qs l (⟨o,⟨c,b,z⟩,w,⟨⟨⟨u,q,v⟩,t⟩,a⟩,⟨⟨m,f,d⟩,j⟩,⟨i,k⟩,C⟩:aK)=if Kp l (⟨o,⟨c,b,z⟩,w,⟨⟨⟨u,q,v⟩,t⟩,a⟩,⟨⟨m,f,d⟩,j⟩,⟨i,k⟩,C⟩:aK)≠0 then Kp l (⟨o,⟨c,b,z⟩,w,⟨⟨⟨u,q,v⟩,t⟩,a⟩,⟨⟨m,f,d⟩,j⟩,⟨i,k⟩,C⟩:aK) else if o=1/\(nE qs c b).cells<IntKind.i64.wrap ((sR ⟨c,b⟩ ⟨0,0,0⟩ l).cells+a) then 9 else 0:=rfl
 have G:Ib (kS l) (eQ (kS l)) (⟨o,⟨c,b,z⟩,w,⟨⟨⟨u,q,v⟩,t⟩,a⟩,⟨⟨m,f,d⟩,j⟩,⟨i,k⟩,C⟩:aK) (eV ⟨⟨⟨u,q,v⟩,t⟩,a⟩ a.toNat 0)=Kp l (⟨o,⟨c,b,z⟩,w,⟨⟨⟨u,q,v⟩,t⟩,a⟩,⟨⟨m,f,d⟩,j⟩,⟨i,k⟩,C⟩:aK):=rfl
 rw[G]at E
 rw[Q]
 clear Q G hall N
 generalize Kp l (⟨o,⟨c,b,z⟩,w,⟨⟨⟨u,q,v⟩,t⟩,a⟩,⟨⟨m,f,d⟩,j⟩,⟨i,k⟩,C⟩:aK)=e at *
 generalize sR ⟨c,b⟩ ⟨0,0,0⟩ l=ul at *
 generalize nE qs c b=qo at *
 obtain⟨U,S,P⟩:=ul
 obtain⟨q1,q2,W,V,R⟩:=qo
 generalize D:(if e≠0 then e else if o=1/\(⟨q1,q2,W,V,R⟩:ax).cells<IntKind.i64.wrap ((⟨U,S,P⟩:zw).cells+a) then 9 else 0)=n
 simp only at D
 refine aG rfl (by kernel_rfl) (vG _ _ _ _ _ λg=>?_)
 by_cases O:e=0
 ·subst O
  rw[if_neg (by simp)]at D
  by_cases k1:o=1
  ·subst k1
   by_cases I:R<IntKind.i64.wrap (P+a)
   ·rw[if_pos ⟨rfl,I⟩]at D
    subst D
    simp[af,ah,ad,ae,aa, *,fx,hx.r,A.r,hu.r,hq.r,F.r,K,E,J,H,ax.enc,I]
   ·rw[if_neg (λh=>I h.2)]at D
    subst D
    simp[af,ah,ad,ae,aa, *,fx,hx.r,A.r,hu.r,hq.r,F.r,K,E,J,H,ax.enc,I]
  ·rw[if_neg (λh=>k1 h.1)]at D
   subst D
   simp[af,ah,ad,ae,aa, *,fx,hx.r,A.r,hu.r,hq.r,F.r,K,E,J,H,ax.enc,k1]
 ·rw[if_pos O]at D
  subst D
  simp[af,ah,ad,ae,aa, *,fx,hx.r,A.r,hu.r,hq.r,F.r,K,E,J,H,ax.enc,O]
omit hx hu hq in
theorem Qb : ∀p∈l,p.1.kind=3->0<=p.1.gu:=by
 intro p hp k
 have h:=(hall p hp).may
 simp only[cT,k,show ¬((3:UInt8)=1) from by decide,show ¬((3:UInt8)=2) from by decide,if_false,if_true,bh,wW,decide_eq_true_eq]at h
 omega
theorem IH(k:UInt8)(u:Int)(C:UInt8)(b:UInt8)(a:UInt32)(f:UInt8)(A:Int)(G:UInt8)(F:UInt32)(E:UInt8)(D:Int)(z:Int)(t:UInt8)(m:UInt32)(j:UInt8)(q:Int)(n:UInt8)(y:UInt32)(c M:Int)(v:UInt8)(w:UInt32)(o:Bool){x:AV}{P:List Int}(h:Sl 1 (rows P) x)(Z:p8 P)(U:cT ⟨k,u,(⟨C,⟨b,a,f⟩,A,⟨⟨⟨G,F,E⟩,D⟩,z⟩,⟨⟨t,m,j⟩,q⟩,⟨n,y⟩,P⟩:aK),c,M,v,w,o⟩=true) :
 aF env 86 [.agg [xu,xq,aI gr],x1,.agg [a8 k,aI u,a8 C,a8 b,au a,a8 f,aI A,a8 G,au F,a8 E,aI D,aI z,a8 t,au m,a8 j,aI q,a8 n,au y,x,aI c,aI M,a8 v,au w,aB o]]=some (aB (xX us qs gr l ⟨k,u,(⟨C,⟨b,a,f⟩,A,⟨⟨⟨G,F,E⟩,D⟩,z⟩,⟨⟨t,m,j⟩,q⟩,⟨n,y⟩,P⟩:aK),c,M,v,w,o⟩)):=by
 obtain⟨xu',xq',d,e,I⟩:=Lo (gr:=gr) hx hql (by omega) (Qb hl hall hql hul) hu hq hul
 have W:(gK us gr l).1.length<1000:=by rw[L5];exact hul
 have L:=BR hx (by omega) b a
 have J:=PK hx (by omega) b a f
 have K:=Tm (gr:=gr) hu hq (by omega) b a
 generalize T:xX us qs gr l ⟨k,u,(⟨C,⟨b,a,f⟩,A,⟨⟨⟨G,F,E⟩,D⟩,z⟩,⟨⟨t,m,j⟩,q⟩,⟨n,y⟩,P⟩:aK),c,M,v,w,o⟩=gb
 refine aG rfl (by kernel_rfl) (xn _ _ _ _ _ λg=>?_)
 by_cases k3:k=3
 ·subst k3
  have i:gb=decide (mX (gK us gr l).1 (gK us gr l).2 M=0):=T.symm
  have h0:0<=M:=by
   simp only[cT,show ¬((3:UInt8)=1) from by decide,show ¬((3:UInt8)=2) from by decide,if_false,if_true,bh,wW,decide_eq_true_eq]at U
   omega
  clear T U hall
  by_cases S:mX (gK us gr l).1 (gK us gr l).2 M=0
  ·have Y:=IK d e hql W M v w o h0 S
   rw[decide_eq_true S]at i
   subst i
   clear S
   have hv:=F2 5 (bS qs)
   generalize Cj 5 (bS qs)=vo at *
   generalize gK us gr l=nf at *
   simp[af,ah,ad,ae,aa, *,bm,hx.r,h.r,hu.r,hq.r,d.r,e.r,hv.r,I,Y]
  ·have Y:=IJ d e hql W M v w o S
   rw[decide_eq_false S]at i
   subst i
   generalize mX (gK us gr l).1 (gK us gr l).2 M=be at *
   generalize gK us gr l=nf at *
   simp[af,ah,ad,ae,aa, *,bm,hx.r,h.r,hu.r,hq.r,d.r,e.r,I,Y,S]
 ·by_cases k1:k=1
  ·subst k1
   have H:=PO (gr:=(gK us gr l).2) d e (by omega) (by omega) u b a
   have i:gb=(!(kO ⟨b,a,f⟩ ⟨false,0,0⟩ l).o&&(pa (gK us gr l).1 u b a&&decide ((sR ⟨b,a⟩ ⟨0,0,0⟩ l).opens<(nE qs b a).opens))):=T.symm
   clear T U hall
   generalize pa (gK us gr l).1 u b a=ob at *
   generalize kO ⟨b,a,f⟩ ⟨false,0,0⟩ l=sl at *
   generalize sR ⟨b,a⟩ ⟨0,0,0⟩ l=ul at *
   generalize nE qs b a=qo at *
   generalize gK us gr l=nf at *
   obtain⟨u1,u2,u3⟩:=ul
   obtain⟨q1,q2,q3,q4,q5⟩:=qo
   obtain⟨s1,s2,s3⟩:=sl
   simp only at i
   subst i
   cases s1 with
   | true=>simp[af,ah,ad,ae,aa, *,bm,hx.r,h.r,hu.r,hq.r,d.r,e.r,I,L,J,K,H,ax.enc]
   | false=>
    cases ob with
    | false=>simp[af,ah,ad,ae,aa, *,bm,hx.r,h.r,hu.r,hq.r,d.r,e.r,I,L,J,K,H,ax.enc]
    | true=>simp[af,ah,ad,ae,aa, *,bm,hx.r,h.r,hu.r,hq.r,d.r,e.r,I,L,J,K,H,ax.enc]
  ·have k2:k=2:=by
    by_cases k2:k=2
    ·exact k2
    ·simp[cT,k1,k2,k3]at U
   subst k2
   have O:=xO U rfl
   have H:=PO (gr:=(gK us gr l).2) d e (by omega) (by omega) (kO ⟨b,a,f⟩ ⟨false,0,0⟩ l).u b a
   have V:=CN O
   have Q:=lz O
   simp only at V Q
   have N:=Lp (gr:=gr) hx hl hall hu hq hql hul C b a f A G F E D z t m j q n y h Q Z (by omega)
   have i:gb=((kO ⟨b,a,f⟩ ⟨false,0,0⟩ l).o&&(pa (gK us gr l).1 (kO ⟨b,a,f⟩ ⟨false,0,0⟩ l).u b a&&(decide (A=IntKind.i64.wrap ((kO ⟨b,a,f⟩ ⟨false,0,0⟩ l).s+1))&&(decide ((sR ⟨b,a⟩ ⟨0,0,0⟩ l).ops<(nE qs b a).ops)&&decide (c=Mn qs l (⟨C,⟨b,a,f⟩,A,⟨⟨⟨G,F,E⟩,D⟩,z⟩,⟨⟨t,m,j⟩,q⟩,⟨n,y⟩,P⟩:aK)))))):=T.symm
   clear T U hall O V Q
   generalize Mn qs l (⟨C,⟨b,a,f⟩,A,⟨⟨⟨G,F,E⟩,D⟩,z⟩,⟨⟨t,m,j⟩,q⟩,⟨n,y⟩,P⟩:aK)=jr at *
   generalize pa (gK us gr l).1 (kO ⟨b,a,f⟩ ⟨false,0,0⟩ l).u b a=ob at *
   generalize kO ⟨b,a,f⟩ ⟨false,0,0⟩ l=sl at *
   generalize sR ⟨b,a⟩ ⟨0,0,0⟩ l=ul at *
   generalize nE qs b a=qo at *
   generalize gK us gr l=nf at *
   obtain⟨u1,u2,u3⟩:=ul
   obtain⟨q1,q2,q3,q4,q5⟩:=qo
   obtain⟨s1,s2,s3⟩:=sl
   simp only at i H J
   by_cases R:A=IntKind.i64.wrap (s3+1)
   ·by_cases X:u2<q4
    ·rw[decide_eq_true R,decide_eq_true X]at i
     subst i
     subst R
     cases s1 with
     | false=>simp[af,ah,ad,ae,aa, *,bm,hx.r,h.r,hu.r,hq.r,d.r,e.r,I,L,J,K,H,N,ax.enc]
     | true=>
      cases ob with
      | false=>simp[af,ah,ad,ae,aa, *,bm,hx.r,h.r,hu.r,hq.r,d.r,e.r,I,L,J,K,H,N,ax.enc]
      | true=>simp[af,ah,ad,ae,aa, *,bm,hx.r,h.r,hu.r,hq.r,d.r,e.r,I,L,J,K,H,N,ax.enc,X]
    ·rw[decide_eq_true R,decide_eq_false X]at i
     subst i
     subst R
     cases s1 with
     | false=>simp[af,ah,ad,ae,aa, *,bm,hx.r,h.r,hu.r,hq.r,d.r,e.r,I,L,J,K,H,N,ax.enc]
     | true=>
      cases ob with
      | false=>simp[af,ah,ad,ae,aa, *,bm,hx.r,h.r,hu.r,hq.r,d.r,e.r,I,L,J,K,H,N,ax.enc]
      | true=>simp[af,ah,ad,ae,aa, *,bm,hx.r,h.r,hu.r,hq.r,d.r,e.r,I,L,J,K,H,N,ax.enc,X]
   ·rw[decide_eq_false R]at i
    subst i
    cases s1 with
    | false=>simp[af,ah,ad,ae,aa, *,bm,hx.r,h.r,hu.r,hq.r,d.r,e.r,I,L,J,K,H,N,ax.enc]
    | true=>
     cases ob with
     | false=>simp[af,ah,ad,ae,aa, *,bm,hx.r,h.r,hu.r,hq.r,d.r,e.r,I,L,J,K,H,N,ax.enc]
     | true=>simp[af,ah,ad,ae,aa, *,bm,hx.r,h.r,hu.r,hq.r,d.r,e.r,I,L,J,K,H,N,ax.enc,R]
end
end Go.Proofs.YtmkmimgokagimaaGreat
namespace Go.Proofs.YtmkmimgokagimaaGreat
open Go.Ab
attribute [local simp] aW aJ aH aV aU cr ld bf aQ aT cz cw bI bg aC bH gh
structure Jj (p:cH × AV):Prop where
 x:Sl 1 (rows p.1.op.l) p.2
 rng:p8 p.1.op.l
 len:p.1.op.l.length<100000
def GR(us:List Clear)(qs:List ax)(gr:Int):List (cH × AV)->List (cH × AV)->Bool
 | _,[]=>true
 | pre,p :: s=>cT p.1&&(xX us qs gr pre p.1&&GR us qs gr (pre++[p]) s)
def Uz(us:List Clear)(qs:List ax)(gr:Int)(l:List (cH × AV)):Bool:=tF us qs gr&&(decide (l.length<=2048)&&GR us qs gr [] l)
section
variable{l:List (cH × AV)}{x1:AV}(hx:Sl 24 (bY l) x1)(hall : ∀p∈l,Jj p)
variable{xu xq:AV}{us:List Clear}{qs:List ax}{gr:Int}(hu:Sl 3 (bZ us) xu)(hq:Sl 5 (bS qs) xq)(hql:qs.length<1000)(hul:us.length<1000)
include hx hall hu hq hql hul
theorem OO(N:l.length<10000){r2:Ref}{H:ai}(K:H.get r2=some ⟨3,[.agg [xu,xq,aI gr]],false,false⟩){Q:AV->ai->Prop} : ∀(s:List (cH × AV)) (k:Nat),l.drop k=s->k<=l.length->(∀p∈l.take k,Bd p) ->
 (∀y,y=aB (GR us qs gr (l.take k) s)->Q y H) ->
 bN env Tryz.f66 0 jf [(5,aI k),(1,x1),(2,.ptr r2 0 0)] H Q:=by
 intro s
 induction s with
 | nil=>
  rintro k hs hk E hQ
  obtain rfl:=drop_nil hs hk
  have d:=ew l
  have a:=hQ _ rfl
  simp only[GR]at a
  refine pg _ _ _ _ _ λg=>?_
  clear hQ E hall
  simp[af,ah,ad,ae,aa, *,fT,hx.r]
  all_goals exact a
 | cons p s L=>
  rintro k hs hk hgd hQ
  obtain⟨J,E,z,f⟩:=drop_cons hs
  have M:=IntWalk.i64_in ((k:Int)+1) (by omega)
  have m:=BS f
  have d:=ew l
  have c:(k:Int)<l.length:=by omega
  have hp:=hall p (E ▸ lY J)
  obtain⟨y,A,F⟩:=Gt (P:=env.P) (t:=26) (by kernel_rfl) H.get hx (n:=(k:Int)) (by omega) (by rw[d];omega)
  have D:(bY l).take (k:Int).toNat=bY (l.take k):=by simp[bY,Jo]
  rw[D]at F
  have I:(l.take k).length<10000:=by rw[tv];omega
  have o:l.take (k+1)=l.take k++[p]:=by rw[Jt,f];rfl
  have b:=λ(h:Bd p)=>L (k+1) z (by omega) (by
   rw[o]
   intro q hq
   rcases nR.1 hq with hq | hq
   ·exact hgd q hq
   ·rw[uP]at hq;subst hq;exact h)
  rw[show((k+1:Nat):Int)=(k:Int)+1 from by omega,o]at b
  clear L hs z E f hall D o
  have v:=Lr p.1.kind p.1.user p.1.op.kind p.1.op.h.lv p.1.op.h.cats p.1.op.h.num p.1.op.serial p.1.op.s.f.h.lv p.1.op.s.f.h.cats p.1.op.s.f.h.num p.1.op.s.f.n p.1.op.s.many p.1.op.a.h.lv p.1.op.a.h.cats p.1.op.a.h.num p.1.op.a.n p.1.op.to.lv p.1.op.to.cats p.1.code p.1.gu p.1.gv p.1.gc p.1.gok hp.x hp.len hp.rng
  have i:cT ⟨p.1.kind,p.1.user,⟨p.1.op.kind,⟨p.1.op.h.lv,p.1.op.h.cats,p.1.op.h.num⟩,p.1.op.serial,⟨⟨⟨p.1.op.s.f.h.lv,p.1.op.s.f.h.cats,p.1.op.s.f.h.num⟩,p.1.op.s.f.n⟩,p.1.op.s.many⟩,⟨⟨p.1.op.a.h.lv,p.1.op.a.h.cats,p.1.op.a.h.num⟩,p.1.op.a.n⟩,⟨p.1.op.to.lv,p.1.op.to.cats⟩,p.1.op.l⟩,p.1.code,p.1.gu,p.1.gv,p.1.gc,p.1.gok⟩=cT p.1:=rfl
  rw[i]at v
  rw[GR]at hQ
  refine pg _ _ _ _ _ λg=>?_
  by_cases j:cT p.1=true
  ·have G:=IH (gr:=gr) F I hgd hu hq hql hul p.1.kind p.1.user p.1.op.kind p.1.op.h.lv p.1.op.h.cats p.1.op.h.num p.1.op.serial p.1.op.s.f.h.lv p.1.op.s.f.h.cats p.1.op.s.f.h.num p.1.op.s.f.n p.1.op.s.many p.1.op.a.h.lv p.1.op.a.h.cats p.1.op.a.h.num p.1.op.a.n p.1.op.to.lv p.1.op.to.cats p.1.code p.1.gu p.1.gv p.1.gc p.1.gok hp.x hp.rng j
   have w:xX us qs gr (l.take k) ⟨p.1.kind,p.1.user,⟨p.1.op.kind,⟨p.1.op.h.lv,p.1.op.h.cats,p.1.op.h.num⟩,p.1.op.serial,⟨⟨⟨p.1.op.s.f.h.lv,p.1.op.s.f.h.cats,p.1.op.s.f.h.num⟩,p.1.op.s.f.n⟩,p.1.op.s.many⟩,⟨⟨p.1.op.a.h.lv,p.1.op.a.h.cats,p.1.op.a.h.num⟩,p.1.op.a.n⟩,⟨p.1.op.to.lv,p.1.op.to.cats⟩,p.1.op.l⟩,p.1.code,p.1.gu,p.1.gv,p.1.gc,p.1.gok⟩=xX us qs gr (l.take k) p.1:=rfl
   rw[w]at G
   have C:Bd p:=⟨hp.x,hp.rng,j⟩
   have b:=b C
   rw[j]at v
   rw[j,nx]at hQ
   have e:=hp.x
   clear i w j hgd C hp
   generalize xX us qs gr (l.take k) p.1=gb at *
   generalize p.2=x at *
   generalize p.1=r at *
   generalize bY l=er at *
   cases gb with
   | true=>
    rw[nx]at hQ
    have a:=b hQ
    clear b hQ
    simp[af,ah,ad,ae,aa, *,fT,hx.r,hx.idx,c,d,m,cH.val,v,G,e.r,K,A,hu.r,hq.r,F.r]
    all_goals exact a
   | false=>
    rw[xg]at hQ
    have a:=hQ _ rfl
    clear b hQ
    simp[af,ah,ad,ae,aa, *,fT,hx.r,hx.idx,c,d,m,cH.val,v,G,e.r,K,A,hu.r,hq.r,F.r]
    all_goals exact a
  ·have u:cT p.1=false:=by simpa using j
   rw[u]at v
   rw[u,xg]at hQ
   have a:=hQ _ rfl
   have e:=hp.x
   clear i j u hgd hp hQ b
   generalize p.2=x at *
   generalize p.1=r at *
   generalize bY l=er at *
   simp[af,ah,ad,ae,aa, *,fT,hx.r,hx.idx,c,d,m,cH.val,v,e.r,K]
   all_goals exact a
theorem Tn(f:l.length<1000000):aF env 66 [.agg [xu,xq,aI gr],x1]=some (aB (Uz us qs gr l)):=by
 have b:=Wq (gr:=gr) hu hq (by omega) (by omega)
 have d:=ew l
 refine aG rfl (by kernel_rfl) (yA _ _ _ _ λg=>?_)
 unfold Uz
 cases hp:tF us qs gr with
 | false=>
  rw[hp]at b
  simp[af,ah,ad,ae,aa, *,kj,hx.r,hu.r,hq.r,b]
 | true=>
  rw[hp]at b
  by_cases c:l.length<=2048
  ·have a : ¬(2048:Int)<l.length:=by omega
   rw[decide_eq_true c]
   simp[af,ah,ad,ae,aa, *,kj,hx.r,hu.r,hq.r,b,a]
   refine OO (gr:=gr) hx hall hu hq hql hul (by omega) (by simp) l 0 rfl (by omega) (by simp) (λy e=>?_)
   subst e
   simp
  ·have a:(2048:Int)<l.length:=by omega
   rw[decide_eq_false c]
   simp[af,ah,ad,ae,aa, *,kj,hx.r,hu.r,hq.r,b,a]
end
end Go.Proofs.YtmkmimgokagimaaGreat
namespace Go.Proofs.YtmkmimgokagimaaGreat
open Go.Ab
theorem Vb(s:vE)(a:bV)(b:eP s=true) : ∀(l:List Int)(k:Nat),(k:Int)+l.length<=s.many->(gV s a l k).map (·.i)=(List.range l.length).map λj=>zO s.f ((k+j:Nat):Int)
 | [],k,_=>rfl
 | r :: l,k,h=>by
  have c:=gz b
  simp only[qZ]at h
  rw[gV,tp,Vb s a b l (k+1) (by omega),qZ,NN,tp,Jm]
  congr 1
  ·show(⟨s.f.h,IntKind.i64.wrap (s.f.n+(k:Int))⟩:bV)=⟨s.f.h,s.f.n+((k+0:Nat):Int)⟩
   rw[IntWalk.i64_in _ (by omega)];rfl
  ·refine Jx λj _=>?_
   show zO s.f _=zO s.f _
   congr 1
   simp only[ND]
   omega
theorem I2(s:vE) : ∀(n k:Nat),eV s n k=(List.range n).map λj=>zO s.f ((k+j:Nat):Int)
 | 0,k=>rfl
 | n+1,k=>by
  rw[eV,I2 s n (k+1),NN,tp,Jm]
  congr 1
  refine Jx λj _=>?_
  show zO s.f _=zO s.f _
  congr 1
  simp only[ND]
  omega
theorem OZ(o:aK):Xe o=cB o.s:=by
 unfold Xe cB
 rw[I2]
 refine Jx λj _=>?_
 rw[uN]
theorem OK{o:aK}(b:m0 o=true)(k:o.kind=1):(pX o).map (·.i)=cB o.s:=by
 have c:=lz b
 have e:=gz c
 have d:(o.l.length:Int)=o.s.many:=by
  have h:=b
  simp only[m0,bh,BV,k,if_true,GX,decide_eq_true_eq]at h
  exact h.2.2.2.2.2.2.2.1
 unfold pX cB
 rw[if_pos k,Vb o.s o.a c o.l 0 (by omega),show o.l.length=o.s.many.toNat by omega]
 refine Jx λj _=>?_
 rw[uN]
theorem L7(s:vE):(cB s).Nodup:=by
 unfold cB
 refine List.Pairwise.map _ (λa b c h=>c ?_) List.nodup_range
 simp only[zO,bV.mk.injEq]at h
 omega
theorem Lj{i:bV} : ∀ {ents:List (bV × AV)},bT i ents=none->(jq i (aB true) ents).length=ents.length+1
 | [],_=>rfl
 | p :: ents,h=>by
  unfold bT at h
  split at h
  ·cases h
  ·rename_i a
   unfold jq
   rw[if_neg a,qZ,Lj h,qZ]
theorem OS{ents:List (bV × AV)}(a:nJ ents){i:bV}(h:fC ents i=false):bT i ents=none:=by
 rcases look_ok (P:=λx=>x=aB true) a i with e | ⟨x,e,rfl⟩
 ·exact e
 ·unfold fC at h
  rw[e]at h
  simp[aB]at h
theorem Ht : ∀(a:List bV)(ents:List (bV × AV)),nJ ents->a.Nodup->(∀i∈a,fC ents i=false)->(tX ents a).length=ents.length+a.length
 | [],ents,_,_,_=>by simp
 | i :: a,ents,c,b,d=>by
  rw[Nr]at b
  rw[EO,Ht a _ (AY c) b.2 (λj f=>by
   rw[Gm,d j (il _ f),Bool.or_false,decide_eq_false_iff_not]
   intro e;subst e;exact b.1 f),Lj (OS c (d i jn)),qZ]
  omega
structure DI (ops:List (aK × AV)) (ents:List (bV × AV)):Prop where
 there : ∀i,fC ents i=decide (i∈(eQ ops).map (·.i))
 len:ents.length=(eQ ops).length
 right:lJ [] (opsOf ops)=true
 bools:nJ ents
theorem DI.nil:DI [] []:=⟨λi=>rfl,rfl,rfl,λp hp=>by cases hp⟩
theorem Ui : ∀ {l a:List (aK × AV)},opsOf l=opsOf a->eQ l=eQ a:=by
 intro l a h
 have : ∀l:List (aK × AV),eQ l=(opsOf l).flatMap pX:=λl=>by simp[eQ,opsOf,List.flatMap_map]
 rw[this,this,h]
theorem DI.adA{ops:List (aK × AV)}{ents:List (bV × AV)}(h:DI ops ents)(o:aK)(i:bV):u6 ents o i=tC (eQ ops) o i:=by
 unfold u6 tC
 rw[h.there i];rfl
theorem Nb{α:Type}{p q:α->Bool}(h : ∀x,p x=q x)(l:List α):l.any p=l.any q:=by
 have:p=q:=funext h
 rw[this]
theorem DI.err{ops:List (aK × AV)}{ents:List (bV × AV)}(h:DI ops ents)(t:ops.length<=2048){o:aK}(p:m0 o=true):vm ops ents o=Ib ops (eQ ops) o (Xe o):=by
 have y:=gz (lz p)
 rw[OZ]
 have n:(cB o.s).length=o.s.many.toNat:=by simp[cB]
 have q:rD ents o = !(cB o.s).any (λi => !tC (eQ ops) o i):=by
  unfold rD
  rw[Nb λi=>by rw[h.adA o i]]
 have v:qa (opsOf ops)=0:=zi h.right (by simpa [opsOf] using t)
 unfold vm Ib uf
 by_cases k1:o.kind=1
 ·rw[if_pos k1,if_pos k1]
  have g:HA o≠0↔xM ⟨o.s,o.a,o.l⟩=false:=by
   unfold HA
   rw[if_pos p]
   by_cases k:xM ⟨o.s,o.a,o.l⟩=true
   ·rw[if_pos ⟨k1,k⟩,k];simp
   ·rw[if_neg (λb=>k b.2)];simp[k]
  have e:(cB o.s).any (fC ents)=(cB o.s).any (λi=>decide (i∈(eQ ops).map (·.i))):=Nb h.there _
  have d:gf o.a=decide (o.a=qX):=by
   rw[Fo,decide_eq_true_iff];exact xd o.a
  have c:C5 ops o=if 2048<=ops.length then 4 else 0:=by
   unfold C5
   rw[if_neg]
   rw[k1];rintro(⟨h,_⟩ | ⟨h,_⟩)<;>exact absurd h (by decide)
  have u:fG ents o=if o.a≠qX/\tC (eQ ops) o o.a=false then 6 else if xM ⟨o.s,o.a,o.l⟩=false then 2 else if (cB o.s).any (λi=>decide (i∈(eQ ops).map (·.i)))=true then 2 else if 8192<((eQ ops).length:Int)+(cB o.s).length then 4 else 0:=by
   unfold fG
   rw[h.adA,e,d,h.len,n,show((o.s.many.toNat:Nat):Int)=o.s.many by omega]
   generalize tC (eQ ops) o o.a=sb
   generalize (cB o.s).any (λi=>decide (i∈(eQ ops).map (·.i)))=ab
   by_cases c1:o.a≠qX/\sb=false
   ·rw[if_pos c1,if_pos (by rw[decide_eq_false c1.1,c1.2];decide)]
   ·have m : ¬((!decide (o.a=qX) && !sb)=true):=by
     intro b
     rw[bh,dV,dV,decide_eq_false_iff_not]at b
     exact c1 b
    rw[if_neg c1,if_neg m]
    by_cases c2:xM ⟨o.s,o.a,o.l⟩=false
    ·have j:HA o≠0\/ab=true:=Or.inl (g.2 c2)
     rw[if_pos c2,if_pos j]
    ·rw[if_neg c2]
     cases ab with
     | true=>
      have j:HA o≠0\/true=true:=Or.inr rfl
      rw[if_pos rfl,if_pos j]
     | false=>
      have j : ¬(HA o≠0\/false=true):=λb=>b.elim (λb=>c2 (g.1 b)) (by simp)
      rw[if_neg (show ¬(false=true) by decide),if_neg j]
  rw[u]
  unfold RN
  rw[c]
  by_cases c1:o.a≠qX/\tC (eQ ops) o o.a=false
  ·simp only[if_pos c1];simp
  ·simp only[if_neg c1]
   by_cases c2:xM ⟨o.s,o.a,o.l⟩=false
   ·simp only[if_pos c2];simp
   ·simp only[if_neg c2]
    by_cases c3:(cB o.s).any (λi=>decide (i∈(eQ ops).map (·.i)))=true
    ·simp only[if_pos c3];simp
    ·simp only[if_neg c3]
     by_cases c4:8192<((eQ ops).length:Int)+(cB o.s).length
     ·simp only[if_pos c4];simp
     ·simp only[if_neg c4]
      by_cases d:2048<=ops.length<;>simp[d]
 ·rw[if_neg k1,if_neg k1]
  unfold LY
  by_cases k2:o.kind=2
  ·rw[if_pos k2]
   unfold yT
   rw[q]
   generalize (cB o.s).any (λi => !tC (eQ ops) o i)=ab
   have c:C5 ops o=if ¬(o.s.f.h.lv=o.h.lv/\o.s.f.h.cats=o.h.cats) then 2 else if 2048<=ops.length then 4 else 0:=by
    unfold C5
    by_cases b:o.s.f.h.lv=o.h.lv/\o.s.f.h.cats=o.h.cats
    ·have w : ¬((o.kind=2 /\¬(o.s.f.h.lv=o.h.lv/\o.s.f.h.cats=o.h.cats))\/(o.kind=3/\kI (opsOf ops) o=false)):=by
      rintro(⟨_,h⟩ | ⟨h,_⟩)
      ·exact h b
      ·rw[k2]at h;exact absurd h (by decide)
     rw[if_neg w,if_neg (show ¬ ¬(o.s.f.h.lv=o.h.lv/\o.s.f.h.cats=o.h.cats) from λh=>h b)]
    ·rw[if_pos (.inl ⟨k2,b⟩),if_pos b]
   rw[c]
   cases ab with
   | true=>simp
   | false=>
    by_cases b:o.s.f.h.lv=o.h.lv/\o.s.f.h.cats=o.h.cats
    ·by_cases d:2048<=ops.length<;>simp[b.1,b.2,d]
    ·have x:(decide (o.s.f.h.lv=o.h.lv)&&decide (o.s.f.h.cats=o.h.cats))=false:=by
      rw[<-Bool.decide_and,decide_eq_false_iff_not];exact b
     simp[x,b]
  ·rw[if_neg k2]
   have k3:o.kind=3:=by
    by_cases k3:o.kind=3
    ·exact k3
    ·simp[m0,BV,k1,k2,k3]at p
   unfold yU
   rw[q,v]
   generalize (cB o.s).any (λi => !tC (eQ ops) o i)=ab
   unfold C5
   generalize kI (opsOf ops) o=fb
   simp only[k3,show ¬((3:UInt8)=2) from by decide,false_and,false_or,true_and]
   cases ab with
   | true=>simp
   | false=>
    cases fb with
    | false=>simp
    | true=>by_cases d:2048<=ops.length<;>simp[d]
theorem R3{ops:List (aK × AV)}{ents:List (bV × AV)}{o:aK}(a:vm ops ents o=0):uf ops ents o=0:=by
 unfold vm at a
 split at a
 ·cases a
 ·exact a
theorem DI.step{ops:List (aK × AV)}{ents:List (bV × AV)}(h:DI ops ents){p:aK × AV}(j:m0 p.1=true)(l:vm ops ents p.1=0):DI (ops++[p]) (yb ents p.1):=by
 have a:eQ (ops++[p])=eQ ops++pX p.1:=by simp[eQ]
 have c:=R3 l
 have n:kI (opsOf ops) p.1=true:=by
  unfold uf at c
  by_cases k3:p.1.kind=3
  ·rw[if_neg (by rw[k3];decide),if_neg (by rw[k3];decide)]at c
   unfold yU at c
   split at c
   ·cases c
   ·split at c
    ·rename_i e;exact e.2
    ·cases c
  ·unfold kI
   rw[if_neg k3]
 have k:lJ [] (opsOf (ops++[p]))=true:=by rw[p9];exact Aq h.right j n
 by_cases k1:p.1.kind=1
 ·have g:=OK j k1
  have b:yb ents p.1=tX ents (cB p.1.s):=by unfold yb;rw[if_pos k1]
  have d : ∀i∈cB p.1.s,fC ents i=false:=by
   unfold uf at c
   rw[if_pos k1]at c
   unfold fG at c
   split at c
   ·cases c
   ·split at c
    ·cases c
    ·rename_i e
     intro i m
     cases o:fC ents i with
     | false=>rfl
     | true=>exact absurd (Or.inr (FN.2 ⟨i,m,o⟩)) e
  refine⟨λi=>?_,?_,k,?_⟩
  ·rw[b,yR,h.there i,a,Fp,g,<-Bool.decide_or]
   refine decide_eq_decide.2 ?_
   rw[nR]
   exact Or.comm
  ·rw[b,Ht _ _ h.bools (L7 _) d,a,oT,h.len,<-g,so]
  ·rw[b];exact EP _ h.bools
 ·have b:yb ents p.1=ents:=by unfold yb;rw[if_neg k1]
  have f:pX p.1=[]:=by unfold pX;rw[if_neg k1]
  rw[b]
  refine⟨λi=>?_,?_,k,h.bools⟩
  ·rw[a,f,tq];exact h.there i
  ·rw[a,f,tq];exact h.len
theorem MP{ops a:List (aK × AV)}(h:opsOf ops=opsOf a)(o:aK)(b:List bV):Ib ops (eQ ops) o b=Ib a (eQ a) o b:=by
 have d:ops.length=a.length:=by have:=congrArg List.length h;simpa [opsOf] using this
 have c:=Ui h
 unfold Ib LY RN C5
 rw[h,c,d]
end Go.Proofs.YtmkmimgokagimaaGreat
namespace Go.Proofs.YtmkmimgokagimaaGreat
open Go.Ab
theorem IA : ∀(l:List ax)(n:Int),E1 (n - 1) l=E1 n l - 1
 | [],n=>rfl
 | q :: l,n=>by
  show E1 (n - 1+q.opens+4 * q.ops) l=E1 (n+q.opens+4 * q.ops) l - 1
  rw[<-IA l,show n - 1+q.opens+4 * q.ops=n+q.opens+4 * q.ops - 1 by omega]
theorem Qt{α:Type}{p:α->Bool}{x:α}(a:p x=true) : ∀(l:List α)(n:Nat),l.all p=true->(l.set n x).all p=true
 | [],_,h=>h
 | y :: l,0,h=>by
  rw[Ad,bh]at h
  rw[List.set_cons_zero,Ad,a,h.2];rfl
 | y :: l,n+1,h=>by
  rw[Ad,bh]at h
  rw[List.set_cons_succ,Ad,h.1,Qt a l n h.2];rfl
theorem OC{us:List Clear}{qs:List ax}{gr:Int}(h:tF us qs gr=true){n:Nat}{v:UInt8}{c:UInt32}{ok:Bool}(d:oB v c ok=true)(f:gr≠0):tF (us.set n ⟨v,c,ok⟩) qs (IntKind.i64.wrap (gr - 1))=true:=by
 rw[LW]at h ⊢
 simp only[bh,decide_eq_true_eq]at h
 have a:IntKind.i64.wrap (gr - 1)=gr - 1:=IntWalk.i64_in _ (by omega)
 rw[a,IA]
 have e:=Qt (p:=λc:Clear=>oB c.lv c.cats c.ok) (x:=⟨v,c,ok⟩) d us n h.1.1.2
 simp only[bh,decide_eq_true_eq,Jr]
 exact⟨⟨⟨⟨⟨h.1.1.1.1.1,h.1.1.1.1.2⟩,by omega,by omega⟩,e⟩,h.1.2⟩,by omega,h.2.2⟩
theorem Gw(h:sj)(t:Nk)(l:List (cH × AV))(p:cH × AV):kO h t (l++[p])=vY h (kO h t l) p:=by simp[kO]
theorem Gf(v:jy)(t:zw)(l:List (cH × AV))(p:cH × AV):sR v t (l++[p])=vW v (sR v t l) p:=by simp[sR]
theorem GN(us:List Clear)(gr:Int)(l:List (cH × AV))(p:cH × AV):gK us gr (l++[p])=gK (gK us gr l).1 (gK us gr l).2 [p]:=by
 induction l generalizing us gr with
 | nil=>rfl
 | cons q l c=>
  by_cases a:q.1.kind=3/\mX us gr q.1.gu=0
  ·rw[Nt,show gK us gr (q :: (l++[p]))=_ from if_pos a,show gK us gr (q :: l)=_ from if_pos a]
   exact c _ _
  ·rw[Nt,show gK us gr (q :: (l++[p]))=_ from if_neg a,show gK us gr (q :: l)=_ from if_neg a]
   exact c _ _
theorem D8(l:List (cH × AV))(p:cH × AV):kS (l++[p])=kS l++if isDone p then [(p.1.op,p.2)] else []:=by
 unfold kS
 rw[List.filter_append,Fp]
 congr 1
 rw[FJ]
 split<;>rfl
structure Dp (us0:List Clear) (qs:List ax) (gr0:Int) (pre:List (cH × AV)) (b:fZ):Prop where
 us:b.us=(gK us0 gr0 pre).1
 gr:b.gr=(gK us0 gr0 pre).2
 pol:tF b.us qs b.gr=true
 ses : ∀h:sj,(qR (bT h b.ses)).o=(kO h ⟨false,0,0⟩ pre).o/\(qR (bT h b.ses)).u=(kO h ⟨false,0,0⟩ pre).u/\(qR (bT h b.ses)).s=(kO h ⟨false,0,0⟩ pre).s
 num : ∀h:sj,0<=(kO h ⟨false,0,0⟩ pre).s/\(kO h ⟨false,0,0⟩ pre).s<16777216/\((kO h ⟨false,0,0⟩ pre).o=false->(kO h ⟨false,0,0⟩ pre).s=0)
 use : ∀v:jy,tz (bT v b.used)=sR v ⟨0,0,0⟩ pre
 eO:opsOf b.eO=opsOf (kS pre)
 doc : ∃E,sF [] [] b.eO=some (b.eO,E)/\DI b.eO E
theorem Dp.nil{us0:List Clear}{qs:List ax}{gr0:Int}(hp:tF us0 qs gr0=true):Dp us0 qs gr0 [] (BE us0 gr0):=
 ⟨rfl,rfl,hp,λh=>⟨rfl,rfl,rfl⟩,λh=>⟨Jk 0,(by decide:(0:Int)<16777216),λ_=>rfl⟩,λv=>rfl,rfl,[],rfl,DI.nil⟩
theorem GC{r:cH}(h:cT r=true)(k:r.kind=3):0<=r.gu/\oB r.gv r.gc r.gok=true/\wW r.gu r.gv r.gc r.gok=true:=by
 simp only[cT,k,show ¬((3:UInt8)=1) from by decide,show ¬((3:UInt8)=2) from by decide,if_false,if_true,bh]at h
 have c:=h.1
 have a:=h.1
 simp only[wW,bh,decide_eq_true_eq]at a
 exact⟨a.1.1,by simpa [oB,Hi] using a.2,c⟩
theorem P9{h:sj}(a:gU h=true):h.lv<=15:=by
 simp only[gU,bh,decide_eq_true_eq]at a
 first | exact a.1 | exact a.1.1
theorem LF{r:cH}(h:cT r=true)(k:r.kind=1\/r.kind=2):r.op.h.lv<=15:=by
 rcases k with k | k
 ·simp only[cT,k,if_true,bh]at h
  exact P9 h.2.1
 ·have:=xO h k
  simp only[m0,bh]at this
  exact P9 this.1
theorem DR{us:List Clear}{qs:List ax}{gr:Int}{a:UInt8}(hp:tF us qs gr=true)(d:a<=15):zN us qs gr a=0:=by
 have c:zf a=0:=by unfold zf;rw[if_neg (by simpa [UInt8.not_lt] using d)]
 unfold zN
 rw[c,hp];rfl
section
variable{us0:List Clear}{qs:List ax}{gr0:Int}{pre:List (cH × AV)}{b:fZ}(h:Dp us0 qs gr0 pre b)(hp:tF us0 qs gr0=true)(hl:pre.length<=2048)
include h hp hl
theorem Dp.TO{a:UInt8}(c:UInt32)(d:a<=15):rf us0 qs gr0 a c=nE qs a c:=by
 unfold rf
 rw[if_pos (DR hp d)]
theorem Dp.verdict{o:aK}(d:m0 o=true)(i:o.h.lv<=15):uR us0 qs gr0 b o=Mn qs pre o:=by
 obtain⟨E,g,f⟩:=h.doc
 have c:b.eO.length<=2048:=by
  have e:=congrArg List.length h.eO
  have:=MR pre
  simp only[opsOf,so]at e
  omega
 have a:pI b.eO o=Kp pre o:=by
  unfold pI Kp
  rw[g]
  dsimp only
  rw[if_pos d,f.err c d]
  exact MP h.eO o _
 unfold uR Mn Gg
 rw[a,h.TO hp hl o.h.cats i,h.use]
theorem Dp.fits{r:cH}(c:cT r=true):tL us0 qs gr0 b r=xX us0 qs gr0 pre r:=by
 unfold tL xX
 by_cases k1:r.kind=1
 ·have a:=LF c (.inl k1)
  obtain⟨s1,s2,d⟩:=h.ses r.op.h
  rw[if_pos k1,if_neg (by rw[k1];decide),if_pos k1]
  unfold EI Av nD pt Gx Gg
  rw[s1,DR h.pol a,h.TO hp hl _ a,h.use,h.us]
  rfl
 ·rw[if_neg k1,if_neg k1]
  by_cases k2:r.kind=2
  ·have a:=LF c (.inr k2)
   have e:=xO c k2
   obtain⟨s1,s2,d⟩:=h.ses r.op.h
   rw[if_pos k2,if_neg (by rw[k2];decide)]
   unfold C3 Av nD pt Gx Gg
   rw[s1,s2,d,DR h.pol a,h.TO hp hl _ a,h.use,h.us,h.verdict hp hl e a]
   rfl
  ·have k3:r.kind=3:=by
    by_cases k3:r.kind=3
    ·exact k3
    ·simp[cT,k1,k2,k3]at c
   obtain⟨g,f,hm⟩:=GC c k3
   rw[if_neg k2,if_pos k3]
   unfold EH w6 mX
   rw[h.pol,hm,<-h.us,<-h.gr]
   rfl
theorem Dp.step{p:cH × AV}(I:cT p.1=true)(m:tL us0 qs gr0 b p.1=true):Dp us0 qs gr0 (pre++[p]) (Pd b p):=by
 have q:p.1.kind=1\/p.1.kind=2\/p.1.kind=3:=by
  by_cases k1:p.1.kind=1
  ·exact .inl k1
  ·by_cases k2:p.1.kind=2
   ·exact .inr (.inl k2)
   ·by_cases k3:p.1.kind=3
    ·exact .inr (.inr k3)
    ·simp[cT,k1,k2,k3]at I
 unfold tL at m
 unfold Pd
 rcases q with k1 | k2 | k3
 ·have F : ¬p.1.kind=3:=by rw[k1];decide
  have n2 : ¬p.1.kind=2:=by rw[k1];decide
  rw[if_pos k1]at m ⊢
  have f:gK us0 gr0 (pre++[p])=gK us0 gr0 pre:=by
   rw[GN]
   exact if_neg (λh=>F h.1)
  have k:kS (pre++[p])=kS pre:=by
   rw[D8,if_neg (by simp[isDone,n2]),tq]
  have n:(kO p.1.op.h ⟨false,0,0⟩ pre).o=false:=by
   simp only[EI,bh,dV,nD]at m
   rw[<-(h.ses p.1.op.h).1];exact m.1
  have g : ∀d:sj,kO d ⟨false,0,0⟩ (pre++[p])=if p.1.op.h=d then ⟨true,p.1.user,(kO d ⟨false,0,0⟩ pre).s⟩ else kO d ⟨false,0,0⟩ pre:=λd=>by
   rw[Gw]
   unfold vY
   by_cases e:p.1.op.h=d
   ·rw[if_pos e,if_pos e,if_pos k1]
   ·rw[if_neg e,if_neg e]
  refine⟨by rw[f];exact h.us,by rw[f];exact h.gr,h.pol,λd=>?_,λd=>?_,λv=>?_,by rw[k];exact h.eO,h.doc⟩
  ·rw[g]
   show(qR (bT d (jq p.1.op.h (yv.av ⟨true,p.1.user,0⟩) b.ses))).o=_/\(qR (bT d (jq p.1.op.h (yv.av ⟨true,p.1.user,0⟩) b.ses))).u=_/\(qR (bT d (jq p.1.op.h (yv.av ⟨true,p.1.user,0⟩) b.ses))).s=_
   by_cases e:d=p.1.op.h
   ·subst e
    rw[ot,Cz,if_pos rfl]
    exact⟨rfl,rfl,((h.num p.1.op.h).2.2 n).symm⟩
   ·rw[mL e,if_neg (λj=>e j.symm)]
    exact h.ses d
  ·rw[g]
   obtain⟨J,H,M⟩:=h.num d
   split
   ·exact⟨J,H,λj=>by cases j⟩
   ·exact⟨J,H,M⟩
  ·show tz (bT v (jq ⟨p.1.op.h.lv,p.1.op.h.cats⟩ (zw.av { pt b p.1.op with opens:=IntKind.i64.wrap ((pt b p.1.op).opens+1)}) b.used))=_
   rw[Gf]
   unfold vW
   by_cases e:v=⟨p.1.op.h.lv,p.1.op.h.cats⟩
   ·subst e
    rw[ot,JM,if_pos ⟨rfl,rfl⟩,if_pos k1]
    unfold pt
    rw[h.use]
   ·rw[mL e,if_neg (λj=>e (by obtain⟨a,c⟩:=v;rw[j.1,j.2]))]
    exact h.use v
 ·have n1 : ¬p.1.kind=1:=by rw[k2];decide
  have F : ¬p.1.kind=3:=by rw[k2];decide
  rw[if_neg n1,if_pos k2]at m ⊢
  have z:=xO I k2
  have C:1<=p.1.op.serial/\p.1.op.serial<16777216:=by
   simp only[m0,bh,decide_eq_true_eq]at z
   exact⟨z.2.1,z.2.2.1⟩
  simp only[C3,bh,decide_eq_true_eq]at m
  obtain⟨P,_,D,_,i⟩:=m
  have f:gK us0 gr0 (pre++[p])=gK us0 gr0 pre:=by
   rw[GN]
   exact if_neg (λh=>F h.1)
  obtain⟨J,H,M⟩:=h.num p.1.op.h
  have K:(nD b p.1.op).s=(kO p.1.op.h ⟨false,0,0⟩ pre).s:=(h.ses p.1.op.h).2.2
  have R:p.1.op.serial=(kO p.1.op.h ⟨false,0,0⟩ pre).s+1:=by
   rw[D,K]
   exact IntWalk.i64_in _ (by omega)
  have x:(kO p.1.op.h ⟨false,0,0⟩ pre).o=true:=by rw[<-(h.ses p.1.op.h).1];exact P
  have g : ∀d:sj,kO d ⟨false,0,0⟩ (pre++[p])=if p.1.op.h=d then ⟨(kO d ⟨false,0,0⟩ pre).o,(kO d ⟨false,0,0⟩ pre).u,p.1.op.serial⟩ else kO d ⟨false,0,0⟩ pre:=λd=>by
   rw[Gw]
   unfold vY
   by_cases e:p.1.op.h=d
   ·subst e
    rw[if_pos rfl,if_pos rfl,if_neg n1,if_pos k2,if_pos (by omega)]
   ·rw[if_neg e,if_neg e]
  refine⟨by rw[f];exact h.us,by rw[f];exact h.gr,h.pol,λd=>?_,λd=>?_,λv=>?_,?_,?_⟩
  ·rw[g]
   show(qR (bT d (jq p.1.op.h (yv.av { nD b p.1.op with s:=IntKind.i64.wrap ((nD b p.1.op).s+1)}) b.ses))).o=_/\(qR (bT d (jq p.1.op.h (yv.av { nD b p.1.op with s:=IntKind.i64.wrap ((nD b p.1.op).s+1)}) b.ses))).u=_/\(qR (bT d (jq p.1.op.h (yv.av { nD b p.1.op with s:=IntKind.i64.wrap ((nD b p.1.op).s+1)}) b.ses))).s=_
   by_cases e:d=p.1.op.h
   ·subst e
    rw[ot,Cz,if_pos rfl]
    exact⟨(h.ses p.1.op.h).1,(h.ses p.1.op.h).2.1,D.symm⟩
   ·rw[mL e,if_neg (λj=>e j.symm)]
    exact h.ses d
  ·rw[g]
   by_cases e:p.1.op.h=d
   ·subst e
    rw[if_pos rfl]
    exact⟨by show 0<=p.1.op.serial;omega,C.2,λj=>by simp only at j;rw[x]at j;cases j⟩
   ·rw[if_neg e];exact h.num d
  ·show tz (bT v (jq ⟨p.1.op.h.lv,p.1.op.h.cats⟩ (zw.av (Hd b p.1.op p.1.code)) b.used))=_
   rw[Gf]
   unfold vW
   by_cases e:v=⟨p.1.op.h.lv,p.1.op.h.cats⟩
   ·subst e
    rw[ot,JM,if_pos ⟨rfl,rfl⟩,if_neg n1,if_pos k2]
    unfold Hd pt
    rw[h.use]
   ·rw[mL e,if_neg (λj=>e (by obtain⟨a,c⟩:=v;rw[j.1,j.2]))]
    exact h.use v
  ·rw[D8]
   show opsOf (if p.1.code=0 then b.eO++[(p.1.op,u4 p.2)] else b.eO)=_
   by_cases w:p.1.code=0
   ·rw[if_pos w,if_pos (by simp[isDone,k2,w]),p9,p9,h.eO]
   ·rw[if_neg w,if_neg (by simp[isDone,w]),tq,h.eO]
  ·show ∃E,sF [] [] (if p.1.code=0 then b.eO++[(p.1.op,u4 p.2)] else b.eO)=some ((if p.1.code=0 then b.eO++[(p.1.op,u4 p.2)] else b.eO),E)/\DI (if p.1.code=0 then b.eO++[(p.1.op,u4 p.2)] else b.eO) E
   by_cases w:p.1.code=0
   ·rw[if_pos w]
    obtain⟨E,L,O⟩:=h.doc
    have y:pI b.eO p.1.op=0:=by
     rw[w]at i
     unfold uR at i
     by_cases N:pI b.eO p.1.op=0
     ·exact N
     ·rw[if_pos N]at i;exact i.symm
    unfold pI at y
    rw[L]at y
    dsimp only at y
    rw[if_pos z]at y
    refine⟨yb E p.1.op,?_,?_⟩
    ·rw[Hc,L,fH,if_pos ⟨z,y⟩]
    ·exact O.step (p:=(p.1.op,u4 p.2)) z y
   ·rw[if_neg w]
    exact h.doc
 ·have n1 : ¬p.1.kind=1:=by rw[k3];decide
  have n2 : ¬p.1.kind=2:=by rw[k3];decide
  rw[if_neg n1,if_neg n2]at m ⊢
  obtain⟨S,Q,hm⟩:=GC I k3
  have l:mX b.us b.gr p.1.gu=0:=by
   simp only[EH,decide_eq_true_eq]at m
   unfold w6 at m
   rw[h.pol,hm]at m
   exact m
  have G:b.gr≠0:=by
   intro e
   unfold mX at l
   rw[e]at l
   split at l
   ·cases l
   ·cases l
  have f:gK us0 gr0 (pre++[p])=(b.us.set p.1.gu.toNat ⟨p.1.gv,p.1.gc,p.1.gok⟩,IntKind.i64.wrap (b.gr - 1)):=by
   rw[GN,<-h.us,<-h.gr]
   exact if_pos ⟨k3,l⟩
  have t : ∀d:sj,kO d ⟨false,0,0⟩ (pre++[p])=kO d ⟨false,0,0⟩ pre:=λd=>by
   rw[Gw]
   unfold vY
   rw[if_neg n1,if_neg n2,ite_self]
  have A : ∀v:jy,sR v ⟨0,0,0⟩ (pre++[p])=sR v ⟨0,0,0⟩ pre:=λv=>by
   rw[Gf]
   unfold vW
   rw[if_neg n1,if_neg n2,ite_self]
  have k:kS (pre++[p])=kS pre:=by
   rw[D8,if_neg (by simp[isDone,n2]),tq]
  exact⟨by rw[f];rfl,by rw[f];rfl,OC h.pol Q G,λd=>by rw[t];exact h.ses d,λd=>by rw[t];exact h.num d,λv=>by rw[A];exact h.use v,by rw[k];exact h.eO,h.doc⟩
end
theorem Ux{us0:List Clear}{qs:List ax}{gr0:Int}(hp:tF us0 qs gr0=true) : ∀(s pre:List (cH × AV)) (b:fZ),Dp us0 qs gr0 pre b->pre.length+s.length<=2048->GR us0 qs gr0 pre s=(Un us0 qs gr0 b s).isSome
 | [],pre,b,_,_=>rfl
 | p :: s,pre,b,h,hl=>by
  simp only[qZ]at hl
  rw[GR,Un]
  by_cases a:cT p.1=true
  ·rw[<-h.fits hp (by omega) a,a,nx]
   by_cases c:tL us0 qs gr0 b p.1=true
   ·rw[c,nx,if_pos ⟨rfl,rfl⟩]
    exact Ux hp s _ _ (h.step hp (by omega) a c) (by simp;omega)
   ·rw[if_neg (λe=>c e.2)]
    have d:tL us0 qs gr0 b p.1=false:=by simpa using c
    rw[d,xg];rfl
  ·rw[if_neg (λe=>a e.1)]
   have f:cT p.1=false:=by simpa using a
   rw[f,xg];rfl
theorem Kc(us:List Clear)(qs:List ax)(gr:Int)(l:List (cH × AV)):Uz us qs gr l=(nO us qs gr l).isSome:=by
 unfold Uz nO
 by_cases hp:tF us qs gr=true
 ·by_cases hl:l.length<=2048
  ·rw[hp,decide_eq_true hl,if_pos ⟨rfl,hl⟩,nx,nx]
   exact Ux hp l [] _ (Dp.nil hp) (by simpa using hl)
  ·rw[if_neg (λa=>hl a.2),decide_eq_false hl]
   simp
 ·rw[if_neg (λa=>hp a.1)]
  have c:tF us qs gr=false:=by simpa using hp
  rw[c];rfl
theorem uF{us:List Clear}{qs:List ax}{gr:Int}{l:List (cH × AV)}{f g e:AV}(k:Sl 24 (bY l) f)(a : ∀p∈l,Jj p)(i:Sl 3 (bZ us) g)(j:Sl 5 (bS qs) e)(c:qs.length<1000)(d:us.length<1000)(hl:l.length<1000000) :
 aF env 66 [.agg [g,e,aI gr],f]=some (aB (nO us qs gr l).isSome):=by
 rw[<-Kc]
 exact Tn k a i j c d hl
end Go.Proofs.YtmkmimgokagimaaGreat
namespace Go.Proofs.YtmkmimgokagimaaGreat
open Go.Ab
section
variable{f:cH × AV->cH × AV}(hf : ∀p,(f p).1=p.1)
include hf
theorem L4(l:List (cH × AV)) : ∀us gr,gK us gr (l.map f)=gK us gr l:=by
 induction l with
 | nil=>intro us gr;rfl
 | cons p l a=>
  intro us gr
  rw[tp,gK,gK,hf p,a,a]
theorem Ll(h:sj)(l:List (cH × AV))(t:Nk):kO h t (l.map f)=kO h t l:=by
 unfold kO
 rw[List.foldl_map]
 congr 1
 funext t p
 unfold vY
 rw[hf p]
theorem K6(v:jy)(l:List (cH × AV))(t:zw):sR v t (l.map f)=sR v t l:=by
 unfold sR
 rw[List.foldl_map]
 congr 1
 funext t p
 unfold vW
 rw[hf p]
theorem R2(l:List (cH × AV)):opsOf (kS (l.map f))=opsOf (kS l):=by
 induction l with
 | nil=>rfl
 | cons p l a=>
  have b:isDone (f p)=isDone p:=by unfold isDone;rw[hf p]
  unfold kS at a ⊢
  rw[tp,FJ,FJ,b]
  split
  ·simp only[opsOf,tp,hf p]at a ⊢
   rw[a]
  ·exact a
theorem I6(us:List Clear)(qs:List ax)(gr:Int)(l:List (cH × AV))(r:cH):xX us qs gr (l.map f) r=xX us qs gr l r:=by
 unfold xX Mn Kp Gg Gx
 rw[L4 hf,Ll hf,K6 hf,MP (R2 hf l)]
theorem Mb(us:List Clear)(qs:List ax)(gr:Int) : ∀(s pre:List (cH × AV)),GR us qs gr (pre.map f) (s.map f)=GR us qs gr pre s
 | [],pre=>rfl
 | p :: s,pre=>by
  rw[tp,GR,GR,hf p,I6 hf,<-Mb us qs gr s (pre++[p]),Fp]
  rfl
theorem A7(us:List Clear)(qs:List ax)(gr:Int)(l:List (cH × AV)):(nO us qs gr (l.map f)).isSome=(nO us qs gr l).isSome:=by
 rw[<-Kc,<-Kc]
 unfold Uz
 rw[so]
 have:=Mb hf us qs gr l []
 rw[Jn]at this
 rw[this]
end
theorem Qr{us0:List Clear}{qs:List ax}{gr0:Int}(hp:tF us0 qs gr0=true) : ∀(s pre:List (cH × AV)) (b b':fZ),Dp us0 qs gr0 pre b->pre.length+s.length<=2048->Un us0 qs gr0 b s=some b'->Dp us0 qs gr0 (pre++s) b'
 | [],pre,b,b',h,_,e=>by
  rw[Un]at e
  injection e with e
  subst e
  simpa using h
 | p :: s,pre,b,b',h,c,e=>by
  simp only[qZ]at c
  rw[Un]at e
  split at e
  ·rename_i a
   have:=Qr hp s (pre++[p]) _ b' (h.step hp (by omega) a.1 a.2) (by simp;omega) e
   simpa using this
  ·cases e
theorem Uo{us:List Clear}{qs:List ax}{gr:Int}{l:List (cH × AV)}{b:fZ}(h:nO us qs gr l=some b):tF us qs gr=true/\l.length<=2048:=by
 unfold nO at h
 split at h
 ·assumption
 ·cases h
theorem CP{us:List Clear}{qs:List ax}{gr:Int}{l:List (cH × AV)}{b:fZ}(h:nO us qs gr l=some b):Dp us qs gr l b:=by
 obtain⟨a,c⟩:=Uo h
 unfold nO at h
 rw[if_pos ⟨a,c⟩]at h
 simpa using Qr a l [] _ b (Dp.nil a) (by simpa using c) h
end Go.Proofs.YtmkmimgokagimaaGreat
namespace Go.Proofs.YtmkmimgokagimaaGreat
open Go.Ab
attribute [local simp] aW aJ aH aV aU cr ld bf aQ aT cz cw bI bg aC bH gh
def RX(us:List Clear)(qs:List ax)(gr:Int)(l:List (cH × AV))(r:cH):AV:=if (nO us qs gr l).isSome=true/\cT r=true then .tup [aB (xX us qs gr l r),aI 0] else .tup [aB false,aI 8]
def OB(us:List Clear)(qs:List ax)(gr:Int)(l:List (cH × AV))(y:AV):Prop:=if (nO us qs gr l).isSome=true then ∃b a,Sl 3 (bZ (gK us gr l).1) b/\Sl 5 (bS qs) a/\y = .tup [.agg [b,a,aI (gK us gr l).2],aI 0] else y = .tup [.agg [ct,ct,aI 0],aI 8]
def IC(us:List Clear)(qs:List ax)(gr:Int)(l:List (cH × AV))(h:sj):AV:=if (nO us qs gr l).isSome=true/\gU h=true then .tup [.agg [aB (kO h ⟨false,0,0⟩ l).o,aI (kO h ⟨false,0,0⟩ l).u,aI (kO h ⟨false,0,0⟩ l).s],aI 0] else .tup [.agg [aB false,aI 0,aI 0],aI 8]
def Je(us:List Clear)(qs:List ax)(gr:Int)(l:List (cH × AV))(h:sj)(a:Int):AV:=if (nO us qs gr l).isSome=true/\gU h=true then oA h a l else .tup [aI 0,aI 8]
def Iu(us:List Clear)(qs:List ax)(gr:Int)(l:List (cH × AV))(a:UInt8)(b:UInt32):AV:=if (nO us qs gr l).isSome=true/\a<=15 then .tup [.agg [a8 a,au b,aI (sR ⟨a,b⟩ ⟨0,0,0⟩ l).opens,aI (sR ⟨a,b⟩ ⟨0,0,0⟩ l).ops,aI (sR ⟨a,b⟩ ⟨0,0,0⟩ l).cells],aI 0] else .tup [.agg [a8 0,au 0,aI 0,aI 0,aI 0],aI 8]
section
variable{f:cH × AV->cH × AV}(hf : ∀p,(f p).1=p.1)
include hf
theorem aam(us:List Clear)(qs:List ax)(gr:Int)(l:List (cH × AV))(r:cH):Pa us qs gr (l.map f) r=RX us qs gr l r:=by
 unfold RX Pa
 have h:=A7 hf us qs gr l
 cases c:nO us qs gr (l.map f) with
 | none=>
  rw[c]at h
  rw[if_neg (λe=>by rw[<-h]at e;cases e.1)]
 | some b=>
  rw[c]at h
  obtain⟨d,g⟩:=Uo c
  simp only
  by_cases a:cT r=true
  ·rw[if_pos a,if_pos ⟨h.symm,a⟩,(CP c).fits d g a,I6 hf]
  ·rw[if_neg a,if_neg (λe=>a e.2)]
theorem ZL{us:List Clear}{qs:List ax}{gr:Int}{l:List (cH × AV)}{y:AV}(h:WU us qs gr (l.map f) y):OB us qs gr l y:=by
 unfold WU at h
 unfold OB
 have a:=A7 hf us qs gr l
 cases c:nO us qs gr (l.map f) with
 | none=>
  rw[c]at h a
  rw[if_neg (λe=>by rw[<-a]at e;cases e)]
  exact h
 | some b=>
  rw[c]at h a
  rw[if_pos (show(nO us qs gr l).isSome=true from a.symm)]
  have i:=CP c
  have g:=i.us
  have d:=i.gr
  rw[L4 hf]at g d
  simp only at h
  rw[g,d]at h
  exact h
theorem Zg(us:List Clear)(qs:List ax)(gr:Int)(l:List (cH × AV))(h:sj):N9 us qs gr (l.map f) h=IC us qs gr l h:=by
 unfold IC N9
 have c:=A7 hf us qs gr l
 cases d:nO us qs gr (l.map f) with
 | none=>
  rw[d]at c
  rw[if_neg (λe=>by rw[<-c]at e;cases e.1)]
 | some b=>
  rw[d]at c
  simp only
  by_cases a:gU h=true
  ·rw[if_pos a,if_pos ⟨c.symm,a⟩]
   obtain⟨i,g,j⟩:=(CP d).ses h
   rw[Ll hf]at i g j
   unfold yv.av
   rw[i,g,j]
  ·rw[if_neg a,if_neg (λe=>a e.2)]
theorem Hf(h:sj)(a:Int)(l:List (cH × AV)):oA h a (l.map f)=oA h a l:=by
 unfold oA
 have : ∀l:List (cH × AV),(l.map f).find? (Bh h a)=(l.find? (Bh h a)).map f:=by
  intro l
  induction l with
  | nil=>rfl
  | cons p l b=>
   have e:Bh h a (f p)=Bh h a p:=by unfold Bh;rw[hf p]
   rw[tp,FG,FG,e]
   cases Bh h a p with
   | true=>rfl
   | false=>exact b
 rw[this]
 cases l.find? (Bh h a) with
 | none=>rfl
 | some p=>simp only[Option.map_some,hf p]
theorem XF(us:List Clear)(qs:List ax)(gr:Int)(l:List (cH × AV))(h:sj)(g:Int):Hg us qs gr (l.map f) h g=Je us qs gr l h g:=by
 unfold Je Hg
 have c:=A7 hf us qs gr l
 cases d:nO us qs gr (l.map f) with
 | none=>
  rw[d]at c
  dsimp only
  rw[if_neg (λe=>by rw[<-c]at e;cases e.1)]
 | some b=>
  rw[d]at c
  simp only
  by_cases a:gU h=true
  ·rw[if_pos a,if_pos ⟨c.symm,a⟩,Hf (f:=Ix) (λ_=>rfl),Hf hf]
  ·rw[if_neg a,if_neg (λe=>a e.2)]
theorem V5(us:List Clear)(qs:List ax)(gr:Int)(l:List (cH × AV))(c:UInt8)(h:UInt32):Ge us qs gr (l.map f) c h=Iu us qs gr l c h:=by
 unfold Iu Ge
 have d:=A7 hf us qs gr l
 cases g:nO us qs gr (l.map f) with
 | none=>
  rw[g]at d
  rw[if_neg (λe=>by rw[<-d]at e;cases e.1)]
 | some b=>
  rw[g]at d
  simp only
  by_cases a:c<=15
  ·rw[if_pos a,if_pos ⟨d.symm,a⟩]
   have e:=(CP g).use ⟨c,h⟩
   rw[K6 hf]at e
   unfold K5 ax.enc
   rw[e]
  ·rw[if_neg a,if_neg (λe=>a e.2)]
end
section
variable{l:List (cH × AV)}{x1:AV}(hx:Sl 24 (bY l) x1)(hall : ∀p∈l,Jj p)
variable{xu xq:AV}{us:List Clear}{qs:List ax}{gr:Int}(hu:Sl 3 (bZ us) xu)(hq:Sl 5 (bS qs) xq)(hql:qs.length<1000)(hul:us.length<1000)(hl:l.length<10000)
include hx hall hu hq hql hul hl
theorem Of:aF env 35 [.agg [xu,xq,aI gr],x1]=some (aI (if (nO us qs gr l).isSome then 0 else 8)):=by
 have a:=uF (gr:=gr) hx hall hu hq hql hul (by omega)
 refine aG rfl (by kernel_rfl) (wJ _ _ _ _ λg=>?_)
 generalize (nO us qs gr l).isSome=ob at *
 cases ob with
 | true=>simp[af,ah,ad,ae,aa, *,lR,hx.r,hu.r,hq.r,a]
 | false=>simp[af,ah,ad,ae,aa, *,lR,hx.r,hu.r,hq.r,a]
omit hx hu hq hql hul hl in
theorem L3(c:(nO us qs gr l).isSome=true) : ∀p∈l,Bd p:=by
 obtain⟨b,a⟩:=gI.1 c
 exact λp hp=>⟨(hall p hp).x,(hall p hp).rng,ZU a p hp⟩
theorem Q3(k:UInt8)(u:Int)(m:UInt8)(C:UInt8)(n:UInt32)(A:UInt8)(z:Int)(y:UInt8)(q:UInt32)(D:UInt8)(t:Int)(j:Int)(i:UInt8)(b:UInt32)(a:UInt8)(e:Int)(d:UInt8)(h:UInt32)(c G:Int)(v:UInt8)(w:UInt32)(o:Bool){x:AV}{F:List Int}(E:Sl 1 (rows F) x)(M:F.length<100000)(H:p8 F) :
 aF env 24 [.agg [xu,xq,aI gr],x1,.agg [a8 k,aI u,a8 m,a8 C,au n,a8 A,aI z,a8 y,au q,a8 D,aI t,aI j,a8 i,au b,a8 a,aI e,a8 d,au h,x,aI c,aI G,a8 v,au w,aB o]]=some (RX us qs gr l ⟨k,u,(⟨m,⟨C,n,A⟩,z,⟨⟨⟨y,q,D⟩,t⟩,j⟩,⟨⟨i,b,a⟩,e⟩,⟨d,h⟩,F⟩:aK),c,G,v,w,o⟩):=by
 have L:=uF (gr:=gr) hx hall hu hq hql hul (by omega)
 have J:=Lr k u m C n A z y q D t j i b a e d h c G v w o E M H
 have I:=L3 (us:=us) (qs:=qs) (gr:=gr) hall
 unfold RX
 refine aG rfl (by kernel_rfl) (xp _ _ _ _ _ λg=>?_)
 generalize (nO us qs gr l).isSome=ob at *
 cases ob with
 | false=>simp[af,ah,ad,ae,aa, *,jJ,hx.r,hu.r,hq.r,E.r,L]
 | true=>
  cases K:cT ⟨k,u,(⟨m,⟨C,n,A⟩,z,⟨⟨⟨y,q,D⟩,t⟩,j⟩,⟨⟨i,b,a⟩,e⟩,⟨d,h⟩,F⟩:aK),c,G,v,w,o⟩ with
  | false=>
   rw[K]at J
   simp[af,ah,ad,ae,aa, *,jJ,hx.r,hu.r,hq.r,E.r,L,J]
  | true=>
   rw[K]at J
   have N:=IH (gr:=gr) hx hl (I rfl) hu hq hql hul k u m C n A z y q D t j i b a e d h c G v w o E H K
   generalize xX us qs gr l ⟨k,u,(⟨m,⟨C,n,A⟩,z,⟨⟨⟨y,q,D⟩,t⟩,j⟩,⟨⟨i,b,a⟩,e⟩,⟨d,h⟩,F⟩:aK),c,G,v,w,o⟩=gb at *
   clear K I
   simp[af,ah,ad,ae,aa, *,jJ,hx.r,hu.r,hq.r,E.r,L,J,N]
theorem Ln : ∃y,aF env 26 [.agg [xu,xq,aI gr],x1]=some y/\OB us qs gr l y:=by
 have h:=uF (gr:=gr) hx hall hu hq hql hul (by omega)
 have c:=L3 (us:=us) (qs:=qs) (gr:=gr) hall
 unfold OB
 generalize (nO us qs gr l).isSome=ob at *
 cases ob with
 | false=>
  refine⟨_,?_,by rw[if_neg (by simp)]⟩
  refine aG rfl (by kernel_rfl) (oU _ _ _ _ λg=>?_)
  simp[af,ah,ad,ae,aa, *,kY,hx.r,hu.r,hq.r,h]
 | true=>
  obtain⟨e,d,a,b,i⟩:=Lo (gr:=gr) hx hql (by omega) (Qb hl (c rfl) hql hul) hu hq hul
  refine⟨_,?_,by rw[if_pos rfl];exact⟨e,d,a,b,rfl⟩⟩
  generalize gK us gr l=nf at *
  refine aG rfl (by kernel_rfl) (oU _ _ _ _ λg=>?_)
  simp[af,ah,ad,ae,aa, *,kY,hx.r,hu.r,hq.r,a.r,b.r,h,i]
theorem JU(a:UInt8)(b:UInt32)(c:UInt8):aF env 28 [.agg [xu,xq,aI gr],x1,.agg [a8 a,au b,a8 c]]=some (IC us qs gr l ⟨a,b,c⟩):=by
 have d:=uF (gr:=gr) hx hall hu hq hql hul (by omega)
 have h:=PK hx (by omega) a b c
 have e:=yS a b c
 unfold IC
 refine aG rfl (by kernel_rfl) (uV _ _ _ _ _ λg=>?_)
 generalize (nO us qs gr l).isSome=ob at *
 generalize gU ⟨a,b,c⟩=hb at *
 generalize kO ⟨a,b,c⟩ ⟨false,0,0⟩ l=sl at *
 obtain⟨s1,s2,i⟩:=sl
 cases ob with
 | false=>simp[af,ah,ad,ae,aa, *,gX,hx.r,hu.r,hq.r,d]
 | true=>
  cases hb with
  | false=>simp[af,ah,ad,ae,aa, *,gX,hx.r,hu.r,hq.r,d,e]
  | true=>simp[af,ah,ad,ae,aa, *,gX,hx.r,hu.r,hq.r,d,e,h]
theorem Q1(a:UInt8)(b:UInt32):aF env 32 [.agg [xu,xq,aI gr],x1,.agg [a8 a,au b]]=some (Iu us qs gr l a b):=by
 have c:=uF (gr:=gr) hx hall hu hq hql hul (by omega)
 have e:=BR hx (by omega) a b
 unfold Iu
 refine aG rfl (by kernel_rfl) (xl _ _ _ _ _ λg=>?_)
 generalize (nO us qs gr l).isSome=ob at *
 generalize sR ⟨a,b⟩ ⟨0,0,0⟩ l=sl at *
 obtain⟨s1,s2,h⟩:=sl
 cases ob with
 | false=>simp[af,ah,ad,ae,aa, *,jI,hx.r,hu.r,hq.r,c]
 | true=>
  by_cases d:a<=15
  ·simp[af,ah,ad,ae,aa, *,jI,hx.r,hu.r,hq.r,c,e,d]
  ·simp[af,ah,ad,ae,aa, *,jI,hx.r,hu.r,hq.r,c,d]
end
section
variable{l:List (cH × AV)}{x1:AV}(hx:Sl 24 (bY l) x1)(hl:l.length<100000)
include hx hl
theorem QE{b1 b3:UInt8}{b2:UInt32}{m:Int}{r4:Ref}{H:ai}(t:H.get r4=some ⟨3,[.agg [a8 b1,au b2,a8 b3]],false,false⟩){Q:AV->ai->Prop} : ∀(s:List (cH × AV)) (k:Nat),l.drop k=s->k<=l.length ->
 (∀y,y=(match s.find? (Bh ⟨b1,b2,b3⟩ m)with | some p=>AV.tup [aI p.1.code,aB true] | none => .tup [aI 0,aB false])->Q y H) ->
 bN env Tryz.f96 0 iy [(8,aI k),(0,x1),(2,aI m),(4,.ptr r4 0 0)] H Q:=by
 intro s
 induction s with
 | nil=>
  rintro k hs hk hQ
  obtain rfl:=drop_nil hs hk
  have a:=hQ _ rfl
  have d:=ew l
  simp only[List.find?_nil]at a
  refine fp _ _ _ _ _ _ λg=>?_
  clear hQ
  simp[af,ah,ad,ae,aa, *,ed,hx.r]
  all_goals exact a
 | cons p s G=>
  rintro k hs hk hQ
  obtain⟨i,K,q,n⟩:=drop_cons hs
  have O:=IntWalk.i64_in ((k:Int)+1) (by omega)
  have h:=BS n
  have d:=ew l
  have J:(k:Int)<l.length:=by omega
  have b:=G (k+1) q (by omega)
  rw[show((k+1:Nat):Int)=(k:Int)+1 from by omega]at b
  clear G hs q K n
  obtain⟨⟨k1,u,⟨a1,⟨a2,a3,a4⟩,a5,⟨⟨⟨a6,a7,E⟩,a9⟩,D⟩,⟨⟨Ni,Nh,C⟩,F⟩,⟨Pt,Ps⟩,L⟩,c,N,v,w,o⟩,x⟩:=p
  have I:Bh ⟨b1,b2,b3⟩ m (⟨⟨k1,u,⟨a1,⟨a2,a3,a4⟩,a5,⟨⟨⟨a6,a7,E⟩,a9⟩,D⟩,⟨⟨Ni,Nh,C⟩,F⟩,⟨Pt,Ps⟩,L⟩,c,N,v,w,o⟩,x⟩:cH × AV)=(decide (k1=2)&&(decide (a2=b1/\a3=b2/\a4=b3)&&decide (a5=m))):=by
   simp[Bh]
  rw[FG,I]at hQ
  clear I
  generalize bY l=er at *
  by_cases k2:k1=2
  ·subst k2
   by_cases z:a2=b1/\a3=b2/\a4=b3
   ·obtain⟨rfl,rfl,rfl⟩:=z
    by_cases j:a5=m
    ·subst j
     simp at hQ
     refine fp _ _ _ _ _ _ λg=>?_
     simp[af,ah,ad,ae,aa, *,ed,hx.r,hx.idx,i,d,h,cH.val,fJ,bU,t]
     all_goals exact hQ
    ·simp[j]at hQ
     have a:=b (λy e=>by subst e;exact hQ)
     clear hQ b
     refine fp _ _ _ _ _ _ λg=>?_
     simp[af,ah,ad,ae,aa, *,ed,hx.r,hx.idx,i,d,h,cH.val,fJ,bU,t,j]
     all_goals exact a
   ·simp[z]at hQ
    have a:=b (λy e=>by subst e;exact hQ)
    clear hQ b
    have A:(decide (a2=b1)&&decide (a3=b2)&&decide (a4=b3))=false:=by
     by_cases q1:a2=b1<;>by_cases q2:a3=b2<;>by_cases M:a4=b3<;>simp[q1,q2,M]at z ⊢
    refine fp _ _ _ _ _ _ λg=>?_
    simp[af,ah,ad,ae,aa, *,ed,hx.r,hx.idx,i,d,h,cH.val,fJ,bU,t,A]
    all_goals exact a
  ·simp[k2]at hQ
   have a:=b (λy e=>by subst e;exact hQ)
   clear hQ b
   refine fp _ _ _ _ _ _ λg=>?_
   simp[af,ah,ad,ae,aa, *,ed,hx.r,hx.idx,i,d,h,cH.val,fJ,bU,t,k2]
   all_goals exact a
theorem Q2(b1:UInt8)(b2:UInt32)(b3:UInt8)(a:Int):aF env 96 [x1,.agg [a8 b1,au b2,a8 b3],aI a]=some (match l.find? (Bh ⟨b1,b2,b3⟩ a)with | some p => .tup [aI p.1.code,aB true] | none => .tup [aI 0,aB false]):=by
 refine aG rfl (by kernel_rfl) (xm _ _ _ _ _ λg=>?_)
 simp[af,ah,ad,ae,aa, *,qC,hx.r]
 refine QE hx hl (b1:=b1) (b2:=b2) (b3:=b3) (r4:=⟨0,4,0,0⟩) (by simp) l 0 rfl (by omega) (λy e=>?_)
 subst e
 split
 ·simp
 ·simp
end
section
variable{l:List (cH × AV)}{x1:AV}(hx:Sl 24 (bY l) x1)(hall : ∀p∈l,Jj p)
variable{xu xq:AV}{us:List Clear}{qs:List ax}{gr:Int}(hu:Sl 3 (bZ us) xu)(hq:Sl 5 (bS qs) xq)(hql:qs.length<1000)(hul:us.length<1000)(hl:l.length<10000)
include hx hall hu hq hql hul hl
theorem Q5(a:UInt8)(b:UInt32)(c:UInt8)(d:Int):aF env 30 [.agg [xu,xq,aI gr],x1,.agg [a8 a,au b,a8 c],aI d]=some (Je us qs gr l ⟨a,b,c⟩ d):=by
 have e:=uF (gr:=gr) hx hall hu hq hql hul (by omega)
 have i:=Q2 hx (by omega) a b c d
 have h:=yS a b c
 unfold Je oA
 refine aG rfl (by kernel_rfl) (xv _ _ _ _ _ _ λg=>?_)
 generalize (nO us qs gr l).isSome=ob at *
 generalize gU ⟨a,b,c⟩=hb at *
 generalize l.find? (Bh ⟨a,b,c⟩ d)=fo at *
 cases ob with
 | false=>simp[af,ah,ad,ae,aa, *,gw,hx.r,hu.r,hq.r,e]
 | true=>
  cases hb with
  | false=>simp[af,ah,ad,ae,aa, *,gw,hx.r,hu.r,hq.r,e,h]
  | true=>
   cases fo with
   | none=>simp[af,ah,ad,ae,aa, *,gw,hx.r,hu.r,hq.r,e,h,i]
   | some p=>simp[af,ah,ad,ae,aa, *,gw,hx.r,hu.r,hq.r,e,h,i]
end
end Go.Proofs.YtmkmimgokagimaaGreat
namespace Go.Proofs.YtmkmimgokagimaaGreat
open Go.Ab
attribute [local simp] aW aJ aH aV aU cr ld bf aQ aT cz cw bI bg aC bH gh
section
variable{us:List Clear}{qs:List ax}{xu xq yu yq:AV}{gr:Int}(hu:Sl 3 (bZ us) xu)(hq:Sl 5 (bS qs) xq)(gu:Sl 3 (bZ us) yu)(gq:Sl 5 (bS qs) yq)(hql:qs.length<1000000)(hul:us.length<1000000)
include hu hq gu gq hql hul
theorem TN{r2 r3:Ref}{Q:AV->ai->Prop}{H:ai}(p:H.get r2=some ⟨3,[.agg [xu,xq,aI gr]],false,false⟩)(l:H.get r3=some ⟨3,[.agg [yu,yq,aI gr]],false,false⟩)(m:Q (aB true) H) : ∀(s:List ax)(k:Nat),qs.drop k=s->k<=qs.length->bN env Tryz.f33 0 iz [(6,aI k),(3,.ptr r3 0 0),(2,.ptr r2 0 0)] H Q:=by
 intro s
 induction s with
 | nil=>
  rintro k hs hk
  obtain rfl:=drop_nil hs hk
  have a:(bS qs).length=qs.length:=by simp[bS]
  refine oV _ _ _ _ _ λg=>?_
  simp[af,ah,ad,ae,aa, *,k6,hq.r,p,l,a]
  try exact m
 | cons c s o=>
  rintro k hs hk
  obtain⟨u,q,e,b⟩:=drop_cons hs
  have v:=IntWalk.i64_in ((k:Int)+1) (by omega)
  have i:(k:Int)<qs.length:=by omega
  have h:=o (k+1) e (by omega)
  rw[show((k+1:Nat):Int)=(k:Int)+1 from by omega]at h
  obtain⟨c1,c2,c3,c4,c5⟩:=c
  have d:(bS qs)[k]?=some (.agg [a8 c1,au c2,aI c3,aI c4,aI c5]):=by simp[bS,b,ax.enc]
  have t : ∀j n f,bX (bS qs) k j n f=bX [.agg [a8 c1,au c2,aI c3,aI c4,aI c5]] 0 j n f:=λj n f=>by simp only[bX,d];rfl
  have a:(bS qs).length=qs.length:=by simp[bS]
  clear o hs e q b d m
  generalize bS qs=es at *
  generalize qs.length=n at *
  refine oV _ _ _ _ _ λg=>?_
  simp[af,ah,ad,ae,aa, *,k6,hq.r,gq.r,hq.idx,gq.idx,p,l,a,fJ,bU]
  try exact h
theorem TM{r2 r3:Ref}{Q:AV->ai->Prop}{H:ai}(i:H.get r2=some ⟨3,[.agg [xu,xq,aI gr]],false,false⟩)(h:H.get r3=some ⟨3,[.agg [yu,yq,aI gr]],false,false⟩)(p:Q (aB true) H) : ∀(s:List Clear)(k:Nat),us.drop k=s->k<=us.length->bN env Tryz.f33 0 iA [(5,aI k),(3,.ptr r3 0 0),(2,.ptr r2 0 0)] H Q:=by
 have d:=TN hu hq gu gq hql hul i h p qs 0 rfl (by omega)
 intro s
 induction s with
 | nil=>
  rintro k hs hk
  obtain rfl:=drop_nil hs hk
  have a:(bZ us).length=us.length:=by simp[bZ]
  refine oW _ _ _ _ _ λg=>?_
  simp[af,ah,ad,ae,aa, *,k8,hu.r,i,h,a]
  try exact d
 | cons c s q=>
  rintro k hs hk
  obtain⟨v,t,f,b⟩:=drop_cons hs
  have w:=IntWalk.i64_in ((k:Int)+1) (by omega)
  have o:(k:Int)<us.length:=by omega
  have m:=q (k+1) f (by omega)
  rw[show((k+1:Nat):Int)=(k:Int)+1 from by omega]at m
  obtain⟨c1,c2,c3⟩:=c
  have e:(bZ us)[k]?=some (.agg [a8 c1,au c2,aB c3]):=by simp[bZ,b,Clear.enc]
  have u : ∀j n l,bX (bZ us) k j n l=bX [.agg [a8 c1,au c2,aB c3]] 0 j n l:=λj n l=>by simp only[bX,e];rfl
  have a:(bZ us).length=us.length:=by simp[bZ]
  clear q hs f t b e p d
  generalize bZ us=es at *
  generalize us.length=n at *
  refine oW _ _ _ _ _ λg=>?_
  simp[af,ah,ad,ae,aa, *,k8,hu.r,gu.r,hu.idx,gu.idx,i,h,a,fJ,bU]
  try exact m
theorem Tl:aF env 33 [.agg [xu,xq,aI gr],.agg [yu,yq,aI gr]]=some (aB true):=by
 have a:(bZ us).length=us.length:=by simp[bZ]
 have c:(bS qs).length=qs.length:=by simp[bS]
 have b:=λH (Q:AV->ai->Prop) r2 r3 h2 h3 (d:Q (aB true) H)=>TM hu hq gu gq hql hul (gr:=gr) (r2:=r2) (r3:=r3) h2 h3 d us 0 rfl (by omega)
 refine aG rfl (by kernel_rfl) (xH _ _ _ _ λg=>?_)
 simp[af,ah,ad,ae,aa, *,qJ,hu.r,hq.r,gu.r,gq.r,a,c]
 refine b _ _ _ _ ?_ ?_ ?_
 ·simp
 ·simp
 ·simp
end
end Go.Proofs.YtmkmimgokagimaaGreat
namespace Go.Proofs.YtmkmimgokagimaaGreat
open Go.Ab
attribute [local simp] aW aJ aH aV aU cr ld bf aQ aT cz cw bI bg aC bH gh yx
def E8(p:cH × AV):cH × AV:=(p.1,xR 1 (rows p.1.op.l))
theorem Iy(p:cH × AV):(E8 p).1=p.1:=rfl
theorem Q8{p:cH × AV}(hx:Sl 1 (rows p.1.op.l) p.2)(hl:p.1.op.l.length<100000):aF env 55 [p.1.val p.2]=some ((E8 p).1.val (E8 p).2):=by
 obtain⟨⟨k,u,⟨j,⟨C,m,A⟩,z,⟨⟨⟨t,n,D⟩,q⟩,i⟩,⟨⟨h,b,a⟩,e⟩,⟨d,f⟩,l⟩,c,G,v,w,o⟩,x⟩:=p
 simp only at hx hl
 have E:=Tk j C m A z t n D q i h b a e d f hx hl
 have F:=(A5 1 (rows l)).r
 refine aG rfl (by kernel_rfl) (xB _ _ _ λg=>?_)
 unfold E8 cH.val
 simp only
 generalize xR 1 (rows l)=y at *
 simp[af,ah,ad,ae,aa, *,qH,hx.r]
section
variable{l:List (cH × AV)}{x1:AV}(hx:Sl 24 (bY l) x1)(hl:l.length<10000)(hone : ∀p∈l,Jj p)
include hx hl hone
theorem K9{Q:AV->ai->Prop}(b : ∀H c,Fr H->Own 24 (bY (l.map E8)) H c->Q c H) :
 ∀(s:List (cH × AV)) (k:Nat) (H:ai) (c:AV),l.drop k=s->k<=l.length->Fr H->Own 24 (bY ((l.take k).map E8)) H c->(∀q,c.at?=some q->q.t=18) ->
 bN env Tryz.f14 0 iC [(4,aI k),(0,x1),(3,c)] H Q:=by
 intro s
 induction s with
 | nil=>
  rintro k H c hs hk hF d ht
  obtain rfl:=drop_nil hs hk
  rw[FL]at d
  have A:=b H c hF d
  have j:=ew l
  clear b
  refine kX _ _ _ _ _ λg=>?_
  simp[af,ah,ad,ae,aa, *,iE,hx.r]
  all_goals exact A
 | cons p s K=>
  rintro k H c hs hk hF d ht
  obtain⟨E,J,C,i⟩:=drop_cons hs
  have U:=IntWalk.i64_in ((k:Int)+1) (by omega)
  have m:bX (bY l) k 0 24 true=some (p.1.val p.2):=by rw[BS i];simp[bX,cH.val]
  have j:=ew l
  have h:(k:Int)<l.length:=by omega
  have hp:=hone p (J ▸ lY E)
  have z:=Q8 hp.x hp.len
  have F:(l.take (k+1)).map E8=(l.take k).map E8++[E8 p]:=by rw[Jt,i];simp
  have a:=λH' R L P M=>K (k+1) H' R C (by omega) L P M
  rw[show((k+1:Nat):Int)=(k:Int)+1 from by omega,F,show bY ((l.take k).map E8++[E8 p])=bY ((l.take k).map E8)++[(E8 p).1.val (E8 p).2] from by simp[bY]]at a
  have n:(bY ((l.take k).map E8)).length=k:=by rw[ew,so,tv];omega
  have w:=(A5 1 (rows p.1.op.l)).r
  have G:=hp.x
  clear K hs C J i hone b F
  unfold E8 at a z
  simp only at a z
  have v:=G.r
  clear hp E
  generalize xR 1 (rows p.1.op.l)=y at *
  generalize p.2=x at *
  generalize p.1=r at *
  unfold cH.val at m z a
  generalize bY l=er at *
  generalize D:bY ((l.take k).map E8)=eo at *
  have f:bY (List.map (λp=>(p.1,xR 1 (rows p.1.op.l))) (List.take k l))=eo:=D
  rw[f]at a
  clear D f
  rcases d with ⟨rfl,d⟩ | ⟨t,rfl,d⟩
  ·subst d
   clear n
   refine kX _ _ _ _ _ λg=>?_
   simp[af,ah,ad,ae,aa, *,iE,hx.r,hx.idx,h,j,m,z,w,v]
   refine a _ (.cL ⟨0,18,H.gen 0 18,0⟩ 0 1 none) ?_ (.inr ⟨⟨0,18,H.gen 0 18,0⟩,rfl,?_⟩) (λq I=>by cases I;rfl)
   ·exact by simp(maxDischargeDepth:=12) [ai.get_put,aq,aj,Fr.nil,aw,af,ah,ad,ae,ao,ak,aa, *]
   ·exact by simp(maxDischargeDepth:=12) [ai.get_put,aq,aj,Fr.nil,aw,af,ah,ad,ae,ao,ak,aa, *]
  ·have u:=ht t rfl
   obtain⟨o,tt,S,N⟩:=t
   simp only at u
   subst u
   have O : ∀e,mY 24 160 k true none (some ⟨24,eo,true,false⟩) (some [AV.agg e]):=by
    intro e
    simp;omega
   have T:(H.get ⟨o,18,S,N⟩).isSome=true:=by rw[d];rfl
   refine kX _ _ _ _ _ λg=>?_
   simp[af,ah,ad,ae,aa, *,iE,hx.r,hx.idx,h,j,m,z,w,v,hF,T,d,O,n,ai.get_put]
   refine a _ (.cL ⟨o,18,H.gen o 18,0⟩ 0 (k+1) none) ?_ (.inr ⟨⟨o,18,H.gen o 18,0⟩,by simp[n],?_⟩) (λq I=>by cases I;rfl)
   ·exact by simp(maxDischargeDepth:=12) [ai.get_put,aq,aj,Fr.nil,aw,af,ah,ad,ae,ao,ak,aa, *]
   ·exact by simp(maxDischargeDepth:=12) [ai.get_put,aq,aj,Fr.nil,aw,af,ah,ad,ae,ao,ak,aa, *]
theorem Rc : ∃y,aF env 14 [x1]=some y/\Sl 24 (bY (l.map E8)) y:=by
 refine vg (fn:=Tryz.f14) (c:=yg) (by kernel_rfl) (by kernel_rfl) (by kernel_rfl) (by kernel_rfl) (by kernel_rfl) ?_
 refine xJ _ _ _ λg=>?_
 simp[af,ah,ad,ae,aa, *,qK]
 refine K9 hx hl hone (λH' e d h=>?_) l 0 [] ct rfl (by omega) Fr.nil (.inl ⟨rfl,rfl⟩) (λq b=>by cases b)
 have a:=ew (l.map E8)
 rw[so]at a
 generalize bY (l.map E8)=ee at *
 rcases h with ⟨rfl,h⟩ | ⟨r,rfl,h⟩
 ·simp[h]
 ·simp[h]
end
end Go.Proofs.YtmkmimgokagimaaGreat
namespace Go.Proofs.YtmkmimgokagimaaGreat
open Go.Ab
attribute [local simp] aW aJ aH aV aU cr ld bf aQ aT cz cw bI bg aC bH gh yx
theorem aal(us:List Clear)(qs:List ax)(gr:Int)(l:List (cH × AV))(r:cH) : ∃b e,RX us qs gr l r = .tup [aB b,aI e]:=by
 unfold RX;split<;>exact⟨_,_,rfl⟩
theorem Zf(us:List Clear)(qs:List ax)(gr:Int)(l:List (cH × AV))(h:sj) : ∃o u s e,IC us qs gr l h = .tup [.agg [aB o,aI u,aI s],aI e]:=by
 unfold IC;split<;>exact⟨_,_,_,_,rfl⟩
theorem XE(us:List Clear)(qs:List ax)(gr:Int)(l:List (cH × AV))(h:sj)(a:Int) : ∃c e,Je us qs gr l h a = .tup [aI c,aI e]:=by
 unfold Je oA
 split
 ·split<;>exact⟨_,_,rfl⟩
 ·exact⟨_,_,rfl⟩
theorem V4(us:List Clear)(qs:List ax)(gr:Int)(l:List (cH × AV))(g:UInt8)(h:UInt32) : ∃a b c d f e,Iu us qs gr l g h = .tup [.agg [a8 a,au b,aI c,aI d,aI f],aI e]:=by
 unfold Iu;split<;>exact⟨_,_,_,_,_,_,rfl⟩
theorem ZK{us:List Clear}{qs:List ax}{gr:Int}{l:List (cH × AV)}(f:us.length<1000)(d:qs.length<1000) : ∃b c g e,b.length<1000/\c.length<1000 /\∀y,OB us qs gr l y ->∃j i,Sl 3 (bZ b) j/\Sl 5 (bS c) i/\y = .tup [.agg [j,i,aI g],aI e]:=by
 by_cases h:(nO us qs gr l).isSome=true
 ·refine⟨(gK us gr l).1,qs,(gK us gr l).2,0,by rw[L5];exact f,d,λy a=>?_⟩
  unfold OB at a
  rw[if_pos h]at a
  exact a
 ·refine⟨[],[],0,8,by simp,by simp,λy a=>?_⟩
  unfold OB at a
  rw[if_neg h]at a
  exact⟨ct,ct,.inl ⟨rfl,rfl⟩,.inl ⟨rfl,rfl⟩,a⟩
section
variable{xu xq:AV}{us:List Clear}{qs:List ax}{gr:Int}(hu:Sl 3 (bZ us) xu)(hq:Sl 5 (bS qs) xq){l:List (cH × AV)}{x1:AV}(hx:Sl 24 (bY l) x1)(hl : ∀p∈l,Sl 1 (rows p.1.op.l) p.2/\p8 p.1.op.l)
include hu hq hx hl
theorem OQ(k:UInt8)(u:Int)(E:UInt8)(D:UInt8)(G:UInt32)(J:UInt8)(I:Int)(C:UInt8)(H:UInt32)(z:UInt8)(F:Int)(i:Int)(f:UInt8)(m:UInt32)(j:UInt8)(e:Int)(d:UInt8)(h:UInt32)(c X:Int)(v:UInt8)(w:UInt32)(o:Bool){x:AV}{P:List Int}(n:Sl 1 (rows P) x)(hrg:p8 P)(b1:UInt8)(b2:UInt32)(b3:UInt8)(U:Int)(V:UInt8)(W:UInt32) :
 aF env 4 [.agg [xu,xq,aI gr],x1,.agg [a8 k,aI u,a8 E,a8 D,au G,a8 J,aI I,a8 C,au H,a8 z,aI F,aI i,a8 f,au m,a8 j,aI e,a8 d,au h,x,aI c,aI X,a8 v,au w,aB o],.agg [a8 b1,au b2,a8 b3],aI U,.agg [a8 V,au W]]=some (aB true):=by
 obtain⟨t,hG,ht⟩:=Tz (gr:=gr) hu hq hx (λp hp=>(hl p hp).1) 25
 have har:(rows P).length=P.length:=by simp
 refine aG rfl (by kernel_rfl) (sQ _ _ _ _ _ _ _ _ λg=>?_)
 cases t with
 | true=>
  clear hl ht
  simp[af,ah,ad,ae,aa, *,fl,hx.r,hu.r,hq.r,n.r,hG]
 | false=>
  obtain⟨q1,q2,q3,Y⟩:=ht rfl
  clear ht
  by_cases M:(300:Int)<P.length
  ·clear hl Y
   simp[af,ah,ad,ae,aa, *,fl,hx.r,hu.r,hq.r,n.r,hG,M]
  ·have hll:l.length<=25:=by omega
   have b : ∀p∈l,Jj p:=λp hp=>⟨(hl p hp).1,(hl p hp).2,by have:=Y p (by rw[gh (by omega)];exact hp);omega⟩
   obtain⟨y,hT,A⟩:=Rc hx (by omega) b
   have K : ∀p∈l,z6 p:=λp hp=>⟨(b p hp).x,by have:=(b p hp).len;omega⟩
   have a : ∀p∈l.map E8,z6 p:=by
    intro p hp
    obtain⟨q,hq,rfl⟩:=tY.1 hp
    exact⟨A5 1 _,by have:=(b q hq).len;simp only[E8];omega⟩
   have pF:=Zm (gr:=gr) hu hq (by omega) (by omega) A a k u E D G J I C H z F i f m j e d h c X v w o n (by omega)
   have dF:=Q3 (gr:=gr) hx b hu hq (by omega) (by omega) (by omega) k u E D G J I C H z F i f m j e d h c X v w o n (by omega) hrg
   rw[aam Iy]at pF
   obtain⟨zp,pP,T⟩:=Tr (gr:=gr) hu hq (by omega) (by omega) A a
   obtain⟨zd,dP,bP⟩:=Ln (gr:=gr) hx b hu hq (by omega) (by omega) (by omega)
   have T:=ZL Iy T
   have pS:=QU (gr:=gr) hu hq (by omega) (by omega) A a b1 b2 b3
   have dS:=JU (gr:=gr) hx b hu hq (by omega) (by omega) (by omega) b1 b2 b3
   rw[Zg Iy]at pS
   have Z:=Zn (gr:=gr) hu hq (by omega) (by omega) A a b1 b2 b3 U
   have dC:=Q5 (gr:=gr) hx b hu hq (by omega) (by omega) (by omega) b1 b2 b3 U
   rw[XF Iy]at Z
   have pU:=Zi (gr:=gr) hu hq (by omega) (by omega) A a V W
   have dU:=Q1 (gr:=gr) hx b hu hq (by omega) (by omega) (by omega) V W
   rw[V5 Iy]at pU
   have pK:=Rb (gr:=gr) hu hq (by omega) (by omega) A a
   have dK:=Of (gr:=gr) hx b hu hq (by omega) (by omega) (by omega)
   rw[A7 Iy]at pK
   obtain⟨us',qs',g',e',l1,l2,O⟩:=ZK (us:=us) (qs:=qs) (gr:=gr) (l:=l) (by omega) (by omega)
   obtain⟨wu,wq,Q,S,rfl⟩:=O _ T
   obtain⟨wu',wq',N,L,rfl⟩:=O _ bP
   have hS6:=Tl (gr:=g') Q S N L (by omega) (by omega)
   have R:=QV A hx a K (by rw[so];omega)
   have er:PS (l.map E8)=PS l:=by simp[PS,E8]
   rw[er,(IE _ _).2 rfl]at R
   obtain⟨f1,f2,hf⟩:=aal us qs gr l ⟨k,u,(⟨E,⟨D,G,J⟩,I,⟨⟨⟨C,H,z⟩,F⟩,i⟩,⟨⟨f,m,j⟩,e⟩,⟨d,h⟩,P⟩:aK),c,X,v,w,o⟩
   obtain⟨s1,s2,s3,s4,hs⟩:=Zf us qs gr l ⟨b1,b2,b3⟩
   obtain⟨c1,c2,hc⟩:=XE us qs gr l ⟨b1,b2,b3⟩ U
   obtain⟨d1,d2,d3,d4,d5,d6,hd⟩:=V4 us qs gr l V W
   rw[hf]at pF dF
   rw[hs]at pS dS
   rw[hc]at Z dC
   rw[hd]at pU dU
   generalize (if (nO us qs gr l).isSome=true then (0:Int) else 8)=kk at *
   have hyr:=A.r
   clear hf hs hc hd O T bP b K a hl Y er A
   simp[af,ah,ad,ae,aa, *,fl,hx.r,hu.r,hq.r,n.r,hyr,hG,M,hT,pF,dF,pP,dP,pS,dS,Z,dC,pU,dU,pK,dK,hS6,R,Q.r,S.r,N.r,L.r,fJ,bU]
end
end Go.Proofs.YtmkmimgokagimaaGreat
namespace Go.Proofs.YtmkmimgokagimaaGreat.ledgerTells
open Go.Ab Go.ChangeShapes Go.WideShapes Go.RowKit
theorem law(xs:List AV)(h:Pu env.P 20 Tryz.f4.params.toList xs):aF env 4 xs=some (aB true):=by
 rw[show Tryz.f4.params.toList=[25,26,62,31,3,29] from by kernel_rfl]at h
 obtain⟨x0,xs,rfl,V,h⟩:=uE h
 obtain⟨x1,xs,rfl,R,h⟩:=uE h
 obtain⟨X,xs,rfl,O,h⟩:=uE h
 obtain⟨x3,xs,rfl,L,h⟩:=uE h
 obtain⟨x4,xs,rfl,M,h⟩:=uE h
 obtain⟨W,xs,rfl,K,h⟩:=uE h
 obtain rfl:=S2 h
 obtain⟨us,qs,gr,xu,Y,rfl,hu,T⟩:=Ze V
 obtain⟨l,N,S⟩:=S4 R
 obtain⟨⟨⟨k,u,⟨j,⟨I,z,H⟩,F,⟨⟨⟨E,C,n⟩,m⟩,i⟩,⟨⟨f,b,a⟩,e⟩,⟨d,g⟩,Z⟩,c,U,v,w,o⟩,x⟩,⟨q,y⟩,rfl⟩:=Wk O
 obtain⟨y3,rfl,D⟩:=L.agg (by simp)
 obtain⟨⟨J,G,p⟩,_,rfl⟩:=JZ _ _ D
 obtain⟨serial,_,Q⟩:=ra (P:=env.P) (t:=3) (by simp) _ _ (M.cell (by simp))
 cases Q
 obtain⟨y5,rfl,A⟩:=K.agg (by simp)
 obtain⟨⟨v1,v2⟩,_,rfl⟩:=A4 _ _ A
 exact OQ (gr:=gr) hu T S N k u j I z H F E C n m i f b a e d g c U v w o q y J G p serial v1 v2
theorem lifted(e:Os)(a:e.Started)(H:Type)(enc:TypeId × Value->H) :
 ReturnsInHanded {} Tryz.checked e 4 .any (Rows.ledgerTellsSpec.pre6 enc Tryz.prog Tryz.f4 Rows.ledgerTellsRow.domain false) (Rows.ledgerTellsSpec.post enc Tryz.prog Tryz.f4 false true false false):=by
 refine returnsInHanded_of_change (C:=Tryz.checked) own a (by kernel_rfl) Tryz.func4
  (ChangeSpec.witness6 (enc:=enc) (C:=Tryz.checked) false ⟨#[], #[.agg #[.slice none 0 0,.slice none 0 0,.int .i64 0],.slice none 0 0,.agg #[.int .u8 0,.int .i64 0,.int .u8 0,.int .u8 0,.int .u32 0,.int .u8 0,.int .i64 0,.int .u8 0,.int .u32 0,.int .u8 0,.int .i64 0,.int .i64 0,.int .u8 0,.int .u32 0,.int .u8 0,.int .i64 0,.int .u8 0,.int .u32 0,.slice none 0 0,.int .i64 0,.int .i64 0,.int .u8 0,.int .u32 0,.bool false],.agg #[.int .u8 0,.int .u32 0,.int .u8 0],.int .i64 0,.agg #[.int .u8 0,.int .u32 0]],[]⟩ 8 (by kernel_rfl) (by kernel_rfl) (by kernel_rfl) (by kernel_rfl)) ?_
 intro W c args ds g b d f _ _
 exact HV (E:=env) aeG kids (slices_full_of Tryz.prog (by kernel_rfl)) (m:=20) (λt i=>of_decide_eq_true (gD.1 (show Tryz.f4.params.toList.all (λt=>decide (t<Tryz.prog.types.size))=true by kernel_rfl) t i)) (by kernel_rfl) rfl
  (λds h=>by match ds,h with | [_,_,_,_,_,_],_=>rfl) (by kernel_rfl) law W c args ds g b d f
theorem ur:Rows.ledgerTellsRow.holds Tryz.pinned (OpenSpec.ofChange Rows.ledgerTellsSpec):=
 OpenClaim.holds_of_wide 4 Tryz.f4 rfl rfl rfl rfl rfl rfl rfl ⟨rfl,rfl,rfl,rfl,rfl⟩ rfl rfl rfl rfl rfl (by kernel_rfl) Tryz.func4 Z5
  (of_decide_eq_true (by kernel_rfl)) (by unfold Func.isWrapper;first | (rw[if_pos (by decide +kernel)];kernel_rfl) | (rw[if_neg (by decide +kernel)];exact⟨rfl,rfl⟩))
  (λb a H enc _=>lifted b a H enc)
theorem proved:Rows.LedgerTellsSaid:=
 ur
end Go.Proofs.YtmkmimgokagimaaGreat.ledgerTells
