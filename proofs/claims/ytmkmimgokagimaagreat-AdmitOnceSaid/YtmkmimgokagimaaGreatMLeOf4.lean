/-
  What a log tells: the loop. No statement of a seat is proved here.
-/
import Derived.Test.YtmkmimgokagimaaGreatMLeOf2
import Derived.Test.YtmkmimgokagimaaGreatMLeTwin
set_option linter.unusedVariables false
set_option linter.unusedSimpArgs false
set_option linter.unusedSectionVars false
set_option linter.unnecessarySimpa false
set_option maxRecDepth 100000
namespace Go.Proofs.YtmkmimgokagimaaGreat
open Go.Ab
attribute [local simp] bj aL aF bg bf keep thr bx aT bc da cZ cJ bD aD bM List.take_of_length_le
def oy(us0:List Clear)(qs:List Quota)(gr0:Int)(b:Book)(r:Rcd):Bool:=if r.kind=1 then Fb us0 qs gr0 b r else if r.kind=2 then DS us0 qs gr0 b r else HC qs b r
def doR(b:Book)(p:Rcd × AV):Book:=if p.1.kind=1 then tu b p.1.op p.1.user else if p.1.kind=2 then doOp b p.1.op p.1.code (lQ p.2) else zY b p.1.gu p.1.gv p.1.gc p.1.gok
def ofB(us0:List Clear)(qs:List Quota)(gr0:Int):Book→List (Rcd × AV)→Option Book
 | b,[]=>some b
 | b,p :: l=>if iI p.1=true∧oy us0 qs gr0 b p.1=true then ofB us0 qs gr0 (doR b p) l else none
theorem Iw{l:List Int}{x:AV}(hx:Sl 1 (rows l) x):Sl 1 (rows l) (lQ x):=by
 rcases hx with ⟨rfl,h⟩ | ⟨c,rfl,h⟩
 ·exact .inl ⟨rfl,h⟩
 ·by_cases he:rows l=[]
  ·rw[he];exact .inr ⟨some 0,rfl,by simp⟩
  ·rw[FO 1 c he];exact Sl.mk _ _
def twR(p:Rcd × AV):Rcd × AV:=(p.1,lQ p.2)
theorem GC(b:Book)(p:Rcd × AV):(doR b p).hist.length≤b.hist.length+1:=by
 unfold doR tu doOp zY
 repeat' split
 all_goals simp
theorem S4{b:Book}(h:BookOk b){p:Rcd × AV}(hp:okRc p)(hm:b.hist.length+1<10000):BookOk (doR b p):=by
 have hh:=GC b p
 unfold doR at hh ⊢
 split at hh
 ·rename_i k1
  rw[if_pos k1]
  refine⟨yX (P:=fun x =>∃s:Ses,x=s.av) ⟨_,rfl⟩ h.ses,yX (P:=fun x =>∃s:Use,x=s.av) ⟨_,rfl⟩ h.used,h.hist,by omega,h.few⟩
 ·rename_i k1
  rw[if_neg k1]
  split at hh
  ·rename_i k2
   rw[if_pos k2]
   refine⟨yX (P:=fun x =>∃s:Ses,x=s.av) ⟨_,rfl⟩ h.ses,yX (P:=fun x =>∃s:Use,x=s.av) ⟨_,rfl⟩ h.used,?_,by omega,h.few⟩
   intro q hq
   unfold doOp at hq
   simp only at hq
   split at hq
   ·rcases List.mem_append.1 hq with hq | hq
    ·exact h.hist q hq
    ·rw[List.mem_singleton]at hq
     subst hq
     exact⟨⟨Iw hp.1,by have:=hp.2;simp only;omega⟩,hp.2⟩
   ·exact h.hist q hq
  ·rename_i k2
   rw[if_neg k2]
   exact⟨h.ses,h.used,h.hist,by omega,by show(b.us.set _ _).length<_;rw[List.length_set];exact h.few⟩
def FJ(H0:Heap)(us0:List Clear)(qs:List Quota)(gr0:Int)(recs:List (Rcd × AV))(o:Option Book)(y:AV)(H:Heap):Prop:=match o with
 | none=>y = .tup [.v (.pointer none),aB false]∧Grow H0 H
 | some b =>∃rb rs ru rk xh xr,y = .tup [.ptr rb 0 0,aB true]∧OfX H0 H rb rs ru rk xh xr us0 qs gr0 b recs∧BookOk b
section
variable{l:List (Rcd × AV)}{x26:AV}(hx:Sl 24 (dX l) x26)(hl:l.length≤2048)(hall : ∀p∈l,okRc p){H0:Heap}{Q:AV→Heap→Prop}{dep:Nat}{rb rs ru rk:Ref}{us0:List Clear}{qs:List Quota}{gr0:Int}(hul:us0.length<1000000)(hql:qs.length<1000000)
include hx hl hall hul hql
theorem OQ : ∀(s:List (Rcd × AV)) (k:Nat) (b:Book) (recs:List (Rcd × AV)) (H:Heap) (xh xr:AV),l.drop k=s→k≤l.length→recs=(l.take k).map twR→BookOk b→b.hist.length≤k→OfX H0 H rb rs ru rk xh xr us0 qs gr0 b recs →
 (∀y H',FJ H0 us0 qs gr0 (l.map twR) (ofB us0 qs gr0 b s) y H'→Q y H') →
 GoL env Tryz.f100 (dep+1) fY [(28,aI k),(6,.ptr rb 0 0),(7,.mp rk),(26,x26),(27,aI l.length)] H Q:=by
 intro s
 induction s with
 | nil =>
  rintro k b recs H xh xr hs hk hr hok hm hI hQ
  obtain rfl:=drop_nil hs hk
  rw[List.take_length]at hr
  subst hr
  have hfin:=hQ _ H ⟨rb,rs,ru,rk,xh,xr,rfl,hI,hok⟩
  refine og _ _ _ _ _ _ _ _ fun g=>?_
  clear hQ hI hall
  simp[af,ah,ad,ae,ab, *,mq]
  all_goals exact hfin
 | cons p s ih =>
  rintro k b recs H xh xr hs hk hr hok hm hI hQ
  obtain⟨hlt,hg,hs',hg'⟩:=drop_cons hs
  have hp:=hall p (hg ▸ List.getElem_mem hlt)
  have hok':=S4 hok hp (by omega)
  have hm':=GC b p
  have hrl:recs.length≤10000:=by rw[hr];simp;omega
  have hr':recs++[twR p]=(l.take (k+1)).map twR:=by
   rw[hr,List.take_add_one,hg']
   simp
  have hih:=fun(hd:iI p.1=true∧oy us0 qs gr0 b p.1=true) H' xh' xr' h=>ih (k+1) (doR b p) _ H' xh' xr' hs' (by omega) hr' hok' (by omega) h (fun y H1 hA=>hQ y H1 (by show FJ _ _ _ _ _ (if _ then _ else _) _ _;rw[if_pos hd];exact hA))
  have hno : ¬(iI p.1=true∧oy us0 qs gr0 b p.1=true) →∀H',Grow H0 H'→Q (.tup [.v (.pointer none),aB false]) H':=fun hd H' hG=>hQ _ H' (by show FJ _ _ _ _ _ (if _ then _ else _) _ _;rw[if_neg hd];exact⟨rfl,hG⟩)
  obtain⟨⟨k1,u,⟨a_1,⟨a_2,a_3,a_4⟩,a_5,⟨⟨⟨a_6,a_7,a_8⟩,a_9⟩,a_10⟩,⟨⟨a_11,a_12,a_13⟩,a_14⟩,⟨a_15,a_16⟩,al⟩,c,g1,v,w,o⟩,x⟩:=p
  obtain⟨hax,hal⟩:=hp
  simp only at hax hal
  have hrd:fD (dX l) k 0 24 true=some (.agg [a8 k1,aI u,a8 a_1,a8 a_2,a32 a_3,a8 a_4,aI a_5,a8 a_6,a32 a_7,a8 a_8,aI a_9,aI a_10,a8 a_11,a32 a_12,a8 a_13,aI a_14,a8 a_15,a32 a_16,x,aI c,aI g1,a8 v,a32 w,aB o]):=by simp[dX,hg',Rcd.val]
  have hlt':(k:Int)<l.length:=by omega
  cases his:iI ⟨k1,u,(⟨a_1,⟨a_2,a_3,a_4⟩,a_5,⟨⟨⟨a_6,a_7,a_8⟩,a_9⟩,a_10⟩,⟨⟨a_11,a_12,a_13⟩,a_14⟩,⟨a_15,a_16⟩,al⟩:Opn),c,g1,v,w,o⟩ with
  | false =>
   have hF:=hI.g.fr
   have hC:=tX k1 u a_1 a_2 a_3 a_4 a_5 a_6 a_7 a_8 a_9 a_10 a_11 a_12 a_13 a_14 a_15 a_16 c g1 v w o hax hal
   rw[his]at hC
   have hfin:=fun b1=>hno (by rw[his];simp) _ ((hI.grow (Grow.cons hF (dep+1) 9 b1)).g)
   refine og _ _ _ _ _ _ _ _ fun g=>?_
   clear hno hih ih hQ hI hall his
   simp[af,ah,ad,ae,ab, *,mq,hx.r,hx.idx,hax.r]
   all_goals exact hfin _
  | true =>
   by_cases e1:k1=1
   ·subst e1
    have hf:oy us0 qs gr0 b ⟨1,u,(⟨a_1,⟨a_2,a_3,a_4⟩,a_5,⟨⟨⟨a_6,a_7,a_8⟩,a_9⟩,a_10⟩,⟨⟨a_11,a_12,a_13⟩,a_14⟩,⟨a_15,a_16⟩,al⟩:Opn),c,g1,v,w,o⟩=Fb us0 qs gr0 b ⟨1,u,(⟨a_1,⟨a_2,a_3,a_4⟩,a_5,⟨⟨⟨a_6,a_7,a_8⟩,a_9⟩,a_10⟩,⟨⟨a_11,a_12,a_13⟩,a_14⟩,⟨a_15,a_16⟩,al⟩:Opn),c,g1,v,w,o⟩:=rfl
    refine EO hx (by omega) hlt hI hrl (fi:=145) (fd:=148) (b':=doR b (⟨1,u,(⟨a_1,⟨a_2,a_3,a_4⟩,a_5,⟨⟨⟨a_6,a_7,a_8⟩,a_9⟩,a_10⟩,⟨⟨a_11,a_12,a_13⟩,a_14⟩,⟨a_15,a_16⟩,al⟩:Opn),c,g1,v,w,o⟩,x)) (by kernel_rfl) (by kernel_rfl) 1 u a_1 a_2 a_3 a_4 a_5 a_6 a_7 a_8 a_9 a_10 a_11 a_12 a_13 a_14 a_15 a_16 c g1 v w o hax hal hrd (fun g=>Nk) his (ft:=Fb us0 qs gr0 b ⟨1,u,(⟨a_1,⟨a_2,a_3,a_4⟩,a_5,⟨⟨⟨a_6,a_7,a_8⟩,a_9⟩,a_10⟩,⟨⟨a_11,a_12,a_13⟩,a_14⟩,⟨a_15,a_16⟩,al⟩:Opn),c,g1,v,w,o⟩)
     (fun H' hI'=>Nn (dep+1) hI'.g.fr hI'.bk.at hok hul hql 1 u a_1 a_2 a_3 a_4 a_5 a_6 a_7 a_8 a_9 a_10 a_11 a_12 a_13 a_14 a_15 a_16 c g1 v w o hax) ?_ ?_ ?_
    ·intro _ H' hI'
     obtain⟨H2,e1,e2,e3⟩:=Sz (dep+1) hI'.g.fr hI'.bk hok 1 u a_1 a_2 a_3 a_4 a_5 a_6 a_7 a_8 a_9 a_10 a_11 a_12 a_13 a_14 a_15 a_16 c g1 v w o hax
     exact⟨H2,xh,e1,e2,e3⟩
    ·intro h H' hG
     exact hno (by rw[hf,h];simp) H' hG
    ·intro h H' xh' xr' h'
     exact hih ⟨his,by rw[hf];exact h⟩ H' xh' xr' h'
   ·by_cases e2:k1=2
    ·subst e2
     have hf:oy us0 qs gr0 b ⟨2,u,(⟨a_1,⟨a_2,a_3,a_4⟩,a_5,⟨⟨⟨a_6,a_7,a_8⟩,a_9⟩,a_10⟩,⟨⟨a_11,a_12,a_13⟩,a_14⟩,⟨a_15,a_16⟩,al⟩:Opn),c,g1,v,w,o⟩=DS us0 qs gr0 b ⟨2,u,(⟨a_1,⟨a_2,a_3,a_4⟩,a_5,⟨⟨⟨a_6,a_7,a_8⟩,a_9⟩,a_10⟩,⟨⟨a_11,a_12,a_13⟩,a_14⟩,⟨a_15,a_16⟩,al⟩:Opn),c,g1,v,w,o⟩:=rfl
     refine EO hx (by omega) hlt hI hrl (fi:=149) (fd:=150) (b':=doR b (⟨2,u,(⟨a_1,⟨a_2,a_3,a_4⟩,a_5,⟨⟨⟨a_6,a_7,a_8⟩,a_9⟩,a_10⟩,⟨⟨a_11,a_12,a_13⟩,a_14⟩,⟨a_15,a_16⟩,al⟩:Opn),c,g1,v,w,o⟩,x)) (by kernel_rfl) (by kernel_rfl) 2 u a_1 a_2 a_3 a_4 a_5 a_6 a_7 a_8 a_9 a_10 a_11 a_12 a_13 a_14 a_15 a_16 c g1 v w o hax hal hrd (fun g=>Nj) his (ft:=DS us0 qs gr0 b ⟨2,u,(⟨a_1,⟨a_2,a_3,a_4⟩,a_5,⟨⟨⟨a_6,a_7,a_8⟩,a_9⟩,a_10⟩,⟨⟨a_11,a_12,a_13⟩,a_14⟩,⟨a_15,a_16⟩,al⟩:Opn),c,g1,v,w,o⟩)
      (fun H' hI'=>Nm (dep+1) hI'.g.fr hI'.bk.at hok hul hql 2 u a_1 a_2 a_3 a_4 a_5 a_6 a_7 a_8 a_9 a_10 a_11 a_12 a_13 a_14 a_15 a_16 c g1 v w o hax hal) ?_ ?_ ?_
     ·intro _ H' hI'
      by_cases hc:c=0
      ·subst hc
       exact O1 (dep+1) hI'.g.fr hI'.bk hok 2 u a_1 a_2 a_3 a_4 a_5 a_6 a_7 a_8 a_9 a_10 a_11 a_12 a_13 a_14 a_15 a_16 g1 v w o hax hal
      ·obtain⟨H2,e1,e2,e3⟩:=Sy (dep+1) hI'.g.fr hI'.bk hok 2 u a_1 a_2 a_3 a_4 a_5 a_6 a_7 a_8 a_9 a_10 a_11 a_12 a_13 a_14 a_15 a_16 c g1 v w o hax hc
       have hd:doOp b (⟨a_1,⟨a_2,a_3,a_4⟩,a_5,⟨⟨⟨a_6,a_7,a_8⟩,a_9⟩,a_10⟩,⟨⟨a_11,a_12,a_13⟩,a_14⟩,⟨a_15,a_16⟩,al⟩:Opn) c aNil=doR b (⟨2,u,(⟨a_1,⟨a_2,a_3,a_4⟩,a_5,⟨⟨⟨a_6,a_7,a_8⟩,a_9⟩,a_10⟩,⟨⟨a_11,a_12,a_13⟩,a_14⟩,⟨a_15,a_16⟩,al⟩:Opn),c,g1,v,w,o⟩,x):=by simp[doR,doOp,hc,Kf]
       rw[hd]at e2
       exact⟨H2,xh,e1,e2,e3⟩
     ·intro h H' hG
      exact hno (by rw[hf,h];simp) H' hG
     ·intro h H' xh' xr' h'
      exact hih ⟨his,by rw[hf];exact h⟩ H' xh' xr' h'
    ·have e3:k1=3:=by
      by_cases e3:k1=3
      ·exact e3
      ·simp[iI,e1,e2,e3]at his
     subst e3
     have hf:oy us0 qs gr0 b ⟨3,u,(⟨a_1,⟨a_2,a_3,a_4⟩,a_5,⟨⟨⟨a_6,a_7,a_8⟩,a_9⟩,a_10⟩,⟨⟨a_11,a_12,a_13⟩,a_14⟩,⟨a_15,a_16⟩,al⟩:Opn),c,g1,v,w,o⟩=HC qs b ⟨3,u,(⟨a_1,⟨a_2,a_3,a_4⟩,a_5,⟨⟨⟨a_6,a_7,a_8⟩,a_9⟩,a_10⟩,⟨⟨a_11,a_12,a_13⟩,a_14⟩,⟨a_15,a_16⟩,al⟩:Opn),c,g1,v,w,o⟩:=rfl
     refine EO hx (by omega) hlt hI hrl (fi:=151) (fd:=153) (b':=doR b (⟨3,u,(⟨a_1,⟨a_2,a_3,a_4⟩,a_5,⟨⟨⟨a_6,a_7,a_8⟩,a_9⟩,a_10⟩,⟨⟨a_11,a_12,a_13⟩,a_14⟩,⟨a_15,a_16⟩,al⟩:Opn),c,g1,v,w,o⟩,x)) (by kernel_rfl) (by kernel_rfl) 3 u a_1 a_2 a_3 a_4 a_5 a_6 a_7 a_8 a_9 a_10 a_11 a_12 a_13 a_14 a_15 a_16 c g1 v w o hax hal hrd (fun g=>Ni) his (ft:=HC qs b ⟨3,u,(⟨a_1,⟨a_2,a_3,a_4⟩,a_5,⟨⟨⟨a_6,a_7,a_8⟩,a_9⟩,a_10⟩,⟨⟨a_11,a_12,a_13⟩,a_14⟩,⟨a_15,a_16⟩,al⟩:Opn),c,g1,v,w,o⟩)
      (fun H' hI'=>Nl (dep+1) hI'.g.fr hI'.bk.at hok hul hql 3 u a_1 a_2 a_3 a_4 a_5 a_6 a_7 a_8 a_9 a_10 a_11 a_12 a_13 a_14 a_15 a_16 c g1 v w o hax) ?_ ?_ ?_
     ·intro h H' hI'
      obtain⟨H2,e1,e2,e3⟩:=Sx (dep+1) hI'.g.fr hI'.bk hok 3 u a_1 a_2 a_3 a_4 a_5 a_6 a_7 a_8 a_9 a_10 a_11 a_12 a_13 a_14 a_15 a_16 c g1 v w o hax hql (by simpa [HC] using h)
      exact⟨H2,xh,e1,e2,e3⟩
     ·intro h H' hG
      exact hno (by rw[hf,h];simp) H' hG
     ·intro h H' xh' xr' h'
      exact hih ⟨his,by rw[hf];exact h⟩ H' xh' xr' h'
end
end Go.Proofs.YtmkmimgokagimaaGreat
namespace Go.Proofs.YtmkmimgokagimaaGreat
open Go.Ab
attribute [local simp] bj aL aF bg bf keep thr bx aT bc da cZ cJ bD aD bM List.take_of_length_le
theorem HN{f:FuncId}(hm:(env.mode f == 2)=false)(wk:Bool)(dep:Nat){H:Heap}(r:Ref){args xs:List AV}(hv:args.mapM (view H.get depth)=some xs)(hr:bL H.get args=[]){y:AV}(hy:limf env f xs=some y) :
 jT env wk (limf env) (limt env dep) H r (some (.fn (.func f) [] [])) args=some ((aE r depth y []).1,keyed r 0 (frzB true (aE r depth y []).2) H):=by
 have hm':env.mode f≠2:=by simpa using hm
 have e:([]++args++[]:List AV)=args:=by simp
 unfold jT
 simp only[jF,if_neg hm',e,hv,hy,hr]
 simp[iE,nRes,orW]
section
variable{xu xq:AV}{us:List Clear}{qs:List Quota}{gr:Int}(hu:Sl 3 (eN us) xu)(hq:Sl 5 (eQ qs) xq)(hul:us.length<1000000)(hql:qs.length<1000000)
include hu hq hul hql
theorem Rc(dep d t:Nat){gg:Nat}{H:Heap}(hF:Fr H)(hgg:gg=H.gen d t) : ∃yu yq wu wq H',jT env false (limf env) (limt env dep) H ⟨d,t,gg,0⟩ (some (.fn (.func 160) [] [])) [.agg [xu,xq,aI gr]]=some (.agg [yu,yq,aI gr],H')∧Grow H H'∧jj 3 (eN us) H' yu wu∧jj 5 (eQ qs) H' yq wq:=by
 subst hgg
 have hT:=IP (gr:=gr) hu hq (by omega) (by omega)
 have ou:=pq hu
 have oq:=pq hq
 generalize nZ xu=yu at *
 generalize nZ xq=yq at *
 have hc:=HN (H:=H) (f:=160) (by kernel_rfl) false dep ⟨d,t,H.gen d t,0⟩ (args:=[.agg [xu,xq,aI gr]]) (by simp[hu.r,hq.r]) (by simp[hu.r,hq.r]) hT
 rw[hc]
 have hold : ∀(q:Ref)(c:Blk),H.get q=some c →∀k,(⟨d,t,H.gen d t,k⟩:Ref)≠q:=by
  intro q c hq k
  have lq:(H.get q).isSome=true:=by rw[hq];rfl
  exact mK hF lq _ _ _
 rcases ou with ⟨rfl,h1⟩ | rfl | ⟨rfl,h1⟩<;>rcases oq with ⟨rfl,h2⟩ | rfl | ⟨rfl,h2⟩
 ·simp[aE,frzB,keyed]
  refine⟨aNil,aNil,aNil,aNil,_,⟨⟨by simp,by simp⟩,rfl⟩,⟨?_,fun q c hq=>?_⟩,.inl ⟨rfl,.inl ⟨rfl,h1⟩⟩,.inl ⟨rfl,.inl ⟨rfl,h2⟩⟩⟩
  ·exact by simp(maxDischargeDepth:=12) [Heap.an,au,ak,Fr.nil,az,af,ah,ad,ae,ar,ao,ab, *]
  ·simp[hold q c hq,hq]
 ·simp[aE,frzB,keyed]
  refine⟨aNil,.osl ⟨d,t,H.gen d t,0⟩ 0 (eQ qs).length none,aNil,.isl 5 (eQ qs) none,_,⟨⟨by simp,by simp⟩,rfl⟩,⟨?_,fun q c hq=>?_⟩,.inl ⟨rfl,.inl ⟨rfl,h1⟩⟩,.inr ⟨_,none,rfl,by simp,rfl,Nat.le_refl _⟩⟩
  ·exact by simp(maxDischargeDepth:=12) [Heap.an,au,ak,Fr.nil,az,af,ah,ad,ae,ar,ao,ab, *]
  ·simp[hold q c hq,hq]
 ·simp[aE,frzB,keyed]
  refine⟨aNil,.osl ⟨d,t,H.gen d t,0⟩ 0 0 (some 0),aNil,.isl 5 (eQ qs) (some 0),_,⟨⟨by simp,by simp⟩,rfl⟩,⟨?_,fun q c hq=>?_⟩,.inl ⟨rfl,.inl ⟨rfl,h1⟩⟩,.inr ⟨_,some 0,by rw[h2];rfl,by simp[h2],rfl,by rw[h2];simp⟩⟩
  ·exact by simp(maxDischargeDepth:=12) [Heap.an,au,ak,Fr.nil,az,af,ah,ad,ae,ar,ao,ab, *]
  ·simp[hold q c hq,hq]
 ·simp[aE,frzB,keyed]
  refine⟨.osl ⟨d,t,H.gen d t,0⟩ 0 (eN us).length none,aNil,.isl 3 (eN us) none,aNil,_,⟨⟨by simp,by simp⟩,rfl⟩,⟨?_,fun q c hq=>?_⟩,.inr ⟨_,none,rfl,by simp,rfl,Nat.le_refl _⟩,.inl ⟨rfl,.inl ⟨rfl,h2⟩⟩⟩
  ·exact by simp(maxDischargeDepth:=12) [Heap.an,au,ak,Fr.nil,az,af,ah,ad,ae,ar,ao,ab, *]
  ·simp[hold q c hq,hq]
 ·simp[aE,frzB,keyed]
  refine⟨.osl ⟨d,t,H.gen d t,0⟩ 0 (eN us).length none,.osl ⟨d,t,H.gen d t,1⟩ 0 (eQ qs).length none,.isl 3 (eN us) none,.isl 5 (eQ qs) none,_,⟨⟨by simp,by simp⟩,rfl⟩,⟨?_,fun q c hq=>?_⟩,.inr ⟨_,none,rfl,by simp,rfl,Nat.le_refl _⟩,.inr ⟨_,none,rfl,by simp,rfl,Nat.le_refl _⟩⟩
  ·exact by simp(maxDischargeDepth:=12) [Heap.an,au,ak,Fr.nil,az,af,ah,ad,ae,ar,ao,ab, *]
  ·simp[hold q c hq,hq]
 ·simp[aE,frzB,keyed]
  refine⟨.osl ⟨d,t,H.gen d t,0⟩ 0 (eN us).length none,.osl ⟨d,t,H.gen d t,1⟩ 0 0 (some 0),.isl 3 (eN us) none,.isl 5 (eQ qs) (some 0),_,⟨⟨by simp,by simp⟩,rfl⟩,⟨?_,fun q c hq=>?_⟩,.inr ⟨_,none,rfl,by simp,rfl,Nat.le_refl _⟩,.inr ⟨_,some 0,by rw[h2];rfl,by simp[h2],rfl,by rw[h2];simp⟩⟩
  ·exact by simp(maxDischargeDepth:=12) [Heap.an,au,ak,Fr.nil,az,af,ah,ad,ae,ar,ao,ab, *]
  ·simp[hold q c hq,hq]
 ·simp[aE,frzB,keyed]
  refine⟨.osl ⟨d,t,H.gen d t,0⟩ 0 0 (some 0),aNil,.isl 3 (eN us) (some 0),aNil,_,⟨⟨by simp,by simp⟩,rfl⟩,⟨?_,fun q c hq=>?_⟩,.inr ⟨_,some 0,by rw[h1];rfl,by simp[h1],rfl,by rw[h1];simp⟩,.inl ⟨rfl,.inl ⟨rfl,h2⟩⟩⟩
  ·exact by simp(maxDischargeDepth:=12) [Heap.an,au,ak,Fr.nil,az,af,ah,ad,ae,ar,ao,ab, *]
  ·simp[hold q c hq,hq]
 ·simp[aE,frzB,keyed]
  refine⟨.osl ⟨d,t,H.gen d t,0⟩ 0 0 (some 0),.osl ⟨d,t,H.gen d t,1⟩ 0 (eQ qs).length none,.isl 3 (eN us) (some 0),.isl 5 (eQ qs) none,_,⟨⟨by simp,by simp⟩,rfl⟩,⟨?_,fun q c hq=>?_⟩,.inr ⟨_,some 0,by rw[h1];rfl,by simp[h1],rfl,by rw[h1];simp⟩,.inr ⟨_,none,rfl,by simp,rfl,Nat.le_refl _⟩⟩
  ·exact by simp(maxDischargeDepth:=12) [Heap.an,au,ak,Fr.nil,az,af,ah,ad,ae,ar,ao,ab, *]
  ·simp[hold q c hq,hq]
 ·simp[aE,frzB,keyed]
  refine⟨.osl ⟨d,t,H.gen d t,0⟩ 0 0 (some 0),.osl ⟨d,t,H.gen d t,1⟩ 0 0 (some 0),.isl 3 (eN us) (some 0),.isl 5 (eQ qs) (some 0),_,⟨⟨by simp,by simp⟩,rfl⟩,⟨?_,fun q c hq=>?_⟩,.inr ⟨_,some 0,by rw[h1];rfl,by simp[h1],rfl,by rw[h1];simp⟩,.inr ⟨_,some 0,by rw[h2];rfl,by simp[h2],rfl,by rw[h2];simp⟩⟩
  ·exact by simp(maxDischargeDepth:=12) [Heap.an,au,ak,Fr.nil,az,af,ah,ad,ae,ar,ao,ab, *]
  ·simp[hold q c hq,hq]
def yn(us:List Clear)(gr:Int):Book:=⟨us,gr,[],[],[]⟩
def ofA(us:List Clear)(qs:List Quota)(gr:Int)(l:List (Rcd × AV)):Option Book:=if polB us qs gr=true∧l.length≤2048 then ofB us qs gr (yn us gr) l else none
theorem s_Of{l:List (Rcd × AV)}{x1:AV}(hx:Sl 24 (dX l) x1)(hall : ∀p∈l,okRc p)(dep:Nat){H:Heap}(hF:Fr H) :
 ∃y H',limt env dep (.fn 100) [.agg [xu,xq,aI gr],x1] H=some (y,H')∧FJ H us qs gr (l.map twR) (ofA us qs gr l) y H':=by
 have hgo:GoL env Tryz.f100 (dep+1) [.code rQ] (q0 0 [.agg [xu,xq,aI gr],x1]) H fun y H'=>FJ H us qs gr (l.map twR) (ofA us qs gr l) y H':=by
  have hC:=yw (gr:=gr) hu hq (by omega) (by omega)
  have hg2 : ∀b1:Blk,Grow H ((⟨dep+1,2,H.gen (dep+1) 2,0⟩,some b1) :: H):=fun b1=>Grow.cons hF _ _ _
  refine Dc _ _ _ _ _ fun g=>?_
  have hno : ¬(polB us qs gr=true∧l.length≤2048) →∀H',Grow H H'→FJ H us qs gr (l.map twR) (ofA us qs gr l) (.tup [.v (.pointer none),aB false]) H':=fun hd H' hG=>by
   unfold ofA;rw[if_neg hd];exact⟨rfl,hG⟩
  cases hp:polB us qs gr with
  | false =>
   rw[hp]at hC hno
   have hfin:=fun b1=>hno (by simp) _ (hg2 b1)
   simp[af,ah,ad,ae,ab, *,n9,hx.r,hu.r,hq.r,bad]
   all_goals exact hfin _
  | true =>
   rw[hp]at hC
   by_cases hl:l.length≤2048
   ·have hl' : ¬(2048:Int)<l.length:=by omega
    obtain⟨yu,yq,wu,wq,H3,hT,hG,z1,z2⟩:=Rc (gr:=gr) hu hq hul hql (dep+1) (dep+1) 20 (gg:=H.gen (dep+1) 20) (hg2 ⟨3,[.agg [xu,xq,aI gr]],false,false⟩).fr (by simp)
    have hFr3:=hG.fr
    have hG3:=(hg2 _).trans hG
    have c1:=z1.s.cells
    have c2:=z2.s.cells
    have hkw:=fun H=>JN true (dep+1) H (dep+1) 25
    clear hno
    simp[af,ah,ad,ae,ab, *,n9,hx.r,hu.r,hq.r,bad,hkw]
    have hof:ofA us qs gr l=ofB us qs gr (yn us gr) l:=by unfold ofA;rw[if_pos ⟨hp,hl⟩]
    refine OQ (rb:=⟨dep+1,24,H3.gen (dep+1) 24,0⟩) (rs:=⟨dep+1,21,H3.gen (dep+1) 21,0⟩) (ru:=⟨dep+1,22,H3.gen (dep+1) 22,0⟩) (rk:=⟨dep+1,25,H3.gen (dep+1) 25,0⟩) (gr0:=gr) (dep:=dep) (H0:=H)
     (Q:=fun y H'=>FJ H us qs gr (l.map twR) (ofA us qs gr l) y H') hx hl hall hul hql l 0 (yn us gr) [] _ aNil aNil rfl (by omega) rfl ⟨fun p h=>(by cases h),fun p h=>(by cases h),fun p h=>(by cases h),(by simp[yn]),(by simpa [yn] using hul)⟩ (by simp[yn]) ?_ (fun y H' h=>by rw[hof];exact h)
    have hgg : ∀b1 b2 b3 b4:Blk,Grow H3 ((⟨dep+1,25,H3.gen (dep+1) 25,0⟩,some b4) :: (⟨dep+1,24,H3.gen (dep+1) 24,0⟩,some b3) :: (⟨dep+1,22,H3.gen (dep+1) 22,0⟩,some b2) :: (⟨dep+1,21,H3.gen (dep+1) 21,0⟩,some b1) :: H3):=fun b1 b2 b3 b4=>⟨by simp(maxDischargeDepth:=12) [Heap.an,au,ak,Fr.nil,az,af,ah,ad,ae,ar,ao,ab, *],fun q c hq=>by
     have lq:(H3.get q).isSome=true:=by rw[hq];rfl
     simp[af hFr3 lq,hq]⟩
    have hnn : ∀t,H.get ⟨dep+1,t,H3.gen (dep+1) t,0⟩=none:=fun t=>by
     cases hr:H.get ⟨dep+1,t,H3.gen (dep+1) t,0⟩ with
     | none=>rfl
     | some c=>have:=hG3.old _ _ hr;rw[ar hFr3]at this;cases this
    refine⟨hG3.trans (hgg _ _ _ _),⟨⟨xu,xq,yu,yq,wu,wq,?_,hu,hq,z1.grow (hgg _ _ _ _),z2.grow (hgg _ _ _ _)⟩,?_,?_,.inl ⟨rfl,rfl⟩,⟨rfl,rfl⟩,?_,fun r hr=>(by cases hr)⟩,.inl ⟨rfl,rfl⟩,fun r hr=>(by cases hr),fun r hr=>(by cases hr),?_,⟨rfl,rfl,rfl,rfl⟩,⟨hnn _,hnn _,hnn _⟩⟩
    ·simp[yn]
    ·simp[yn,cX]
    ·simp[yn,cX]
    ·simp[AV.at?]
    ·simp
   ·have hl':(2048:Int)<l.length:=by omega
    have hfin:=fun b1=>hno (by simp[hl]) _ (hg2 b1)
    simp[af,ah,ad,ae,ab, *,n9,hx.r,hu.r,hq.r,bad]
    all_goals exact hfin _
 obtain⟨y,H',h1,h2⟩:=iw (by kernel_rfl) (by kernel_rfl) (by kernel_rfl) (by kernel_rfl) (by kernel_rfl) hgo
 exact⟨y,H',h1,h2⟩
end
end Go.Proofs.YtmkmimgokagimaaGreat
