/-
  What a log tells: the loop. No statement of a seat is proved here.
-/
import Derived.Test.YtmkmimgokagimaaGreatMLeOf2
set_option linter.unusedVariables false
set_option linter.unusedSimpArgs false
set_option linter.unusedSectionVars false
set_option linter.unnecessarySimpa false
set_option maxRecDepth 100000
namespace Go.Proofs.YtmkmimgokagimaaGreat
open Go.Ab
attribute [local simp] bm aP aG bh bg keep thr bF aY bf dw dv cV bG aC cd List.take_of_length_le
def tU(us0:List Clear)(qs:List Quota)(gr0:Int)(b:Book)(r:Rcd):Bool:=if r.kind=1 then EL us0 qs gr0 b r else if r.kind=2 then Ca us0 qs gr0 b r else EK qs b r
def doR(b:Book)(p:Rcd × AV):Book:=if p.1.kind=1 then zl b p.1.op p.1.user else if p.1.kind=2 then doOp b p.1.op p.1.code (tC p.2) else zm b p.1.gu p.1.gv p.1.gc p.1.gok
def ofB(us0:List Clear)(qs:List Quota)(gr0:Int):Book→List (Rcd × AV)→Option Book
 | b,[]=>some b
 | b,p :: l=>if pv p.1=true∧tU us0 qs gr0 b p.1=true then ofB us0 qs gr0 (doR b p) l else none
theorem yh{l:List Int}{x:AV}(hx:Sl 1 (rows l) x):Sl 1 (rows l) (tC x):=by
 rcases hx with ⟨rfl,h⟩ | ⟨c,rfl,h⟩
 ·exact .inl ⟨rfl,h⟩
 ·by_cases he:rows l=[]
  ·rw[he];exact .inr ⟨some 0,rfl,by simp⟩
  ·rw[Fp 1 c he];exact Sl.mk _ _
def twR(p:Rcd × AV):Rcd × AV:=(p.1,tC p.2)
theorem Gd(b:Book)(p:Rcd × AV):(doR b p).hist.length≤b.hist.length+1:=by
 unfold doR zl doOp zm
 repeat' split
 all_goals simp
theorem Sa{b:Book}(h:BookOk b){p:Rcd × AV}(hp:okRc p)(hm:b.hist.length+1<10000):BookOk (doR b p):=by
 have hh:=Gd b p
 unfold doR at hh ⊢
 split at hh
 ·rename_i k1
  rw[if_pos k1]
  refine⟨yi (P:=fun x =>∃s:Ses,x=s.av) ⟨_,rfl⟩ h.ses,yi (P:=fun x =>∃s:Use,x=s.av) ⟨_,rfl⟩ h.used,h.hist,by omega,h.few⟩
 ·rename_i k1
  rw[if_neg k1]
  split at hh
  ·rename_i k2
   rw[if_pos k2]
   refine⟨yi (P:=fun x =>∃s:Ses,x=s.av) ⟨_,rfl⟩ h.ses,yi (P:=fun x =>∃s:Use,x=s.av) ⟨_,rfl⟩ h.used,?_,by omega,h.few⟩
   intro q hq
   unfold doOp at hq
   simp only at hq
   split at hq
   ·rcases List.mem_append.1 hq with hq | hq
    ·exact h.hist q hq
    ·rw[List.mem_singleton]at hq
     subst hq
     exact⟨⟨yh hp.1,by have:=hp.2;simp only;omega⟩,hp.2⟩
   ·exact h.hist q hq
  ·rename_i k2
   rw[if_neg k2]
   exact⟨h.ses,h.used,h.hist,by omega,by show(b.us.set _ _).length<_;rw[List.length_set];exact h.few⟩
def Fj(H0:Heap)(us0:List Clear)(qs:List Quota)(gr0:Int)(recs:List (Rcd × AV))(o:Option Book)(y:AV)(H:Heap):Prop:=match o with
 | none=>y = .tup [.v (.pointer none),aB false]∧Grow H0 H
 | some b =>∃rb rs ru rk xh xr,y = .tup [.ptr rb 0 0,aB true]∧OfX H0 H rb rs ru rk xh xr us0 qs gr0 b recs∧BookOk b
section
variable{l:List (Rcd × AV)}{x26:AV}(hx:Sl 24 (dR l) x26)(hl:l.length≤2048)(hall : ∀p∈l,okRc p){H0:Heap}{Q:AV→Heap→Prop}{dep:Nat}{rb rs ru rk:Ref}{us0:List Clear}{qs:List Quota}{gr0:Int}(hul:us0.length<1000000)(hql:qs.length<1000000)
include hx hl hall hul hql
theorem Oa : ∀(s:List (Rcd × AV)) (k:Nat) (b:Book) (recs:List (Rcd × AV)) (H:Heap) (xh xr:AV),l.drop k=s→k≤l.length→recs=(l.take k).map twR→BookOk b→b.hist.length≤k→OfX H0 H rb rs ru rk xh xr us0 qs gr0 b recs →
 (∀y H',Fj H0 us0 qs gr0 (l.map twR) (ofB us0 qs gr0 b s) y H'→Q y H') →
 GoL env Tryz.f100 (dep+1) gD [(28,aI k),(6,.ptr rb 0 0),(7,.mp rk),(26,x26),(27,aI l.length)] H Q:=by
 intro s
 induction s with
 | nil =>
  rintro k b recs H xh xr hs hk hr hok hm hI hQ
  obtain rfl:=drop_nil hs hk
  rw[List.take_length]at hr
  subst hr
  have hfin:=hQ _ H ⟨rb,rs,ru,rk,xh,xr,rfl,hI,hok⟩
  refine oO _ _ _ _ _ _ _ _ fun g=>?_
  clear hQ hI hall
  simp[af,ah,ad,ae,ab, *,mI]
  all_goals exact hfin
 | cons p s ih =>
  rintro k b recs H xh xr hs hk hr hok hm hI hQ
  obtain⟨hlt,hg,hs',hg'⟩:=drop_cons hs
  have hp:=hall p (hg ▸ List.getElem_mem hlt)
  have hok':=Sa hok hp (by omega)
  have hm':=Gd b p
  have hrl:recs.length≤10000:=by rw[hr];simp;omega
  have hr':recs++[twR p]=(l.take (k+1)).map twR:=by
   rw[hr,List.take_add_one,hg']
   simp
  have hih:=fun(hd:pv p.1=true∧tU us0 qs gr0 b p.1=true) H' xh' xr' h=>ih (k+1) (doR b p) _ H' xh' xr' hs' (by omega) hr' hok' (by omega) h (fun y H1 hA=>hQ y H1 (by show Fj _ _ _ _ _ (if _ then _ else _) _ _;rw[if_pos hd];exact hA))
  have hno : ¬(pv p.1=true∧tU us0 qs gr0 b p.1=true) →∀H',Grow H0 H'→Q (.tup [.v (.pointer none),aB false]) H':=fun hd H' hG=>hQ _ H' (by show Fj _ _ _ _ _ (if _ then _ else _) _ _;rw[if_neg hd];exact⟨rfl,hG⟩)
  obtain⟨⟨k1,u,⟨a_1,⟨a_2,a_3,a_4⟩,a_5,⟨⟨⟨a_6,a_7,a_8⟩,a_9⟩,a_10⟩,⟨⟨a_11,a_12,a_13⟩,a_14⟩,⟨a_15,a_16⟩,al⟩,c,g1,v,w,o⟩,x⟩:=p
  obtain⟨hax,hal⟩:=hp
  simp only at hax hal
  have hrd:dE (dR l) k 0 24 true=some (.agg [a8 k1,aI u,a8 a_1,a8 a_2,a32 a_3,a8 a_4,aI a_5,a8 a_6,a32 a_7,a8 a_8,aI a_9,aI a_10,a8 a_11,a32 a_12,a8 a_13,aI a_14,a8 a_15,a32 a_16,x,aI c,aI g1,a8 v,a32 w,aB o]):=by simp[dR,hg',Rcd.val]
  have hlt':(k:Int)<l.length:=by omega
  cases his:pv ⟨k1,u,(⟨a_1,⟨a_2,a_3,a_4⟩,a_5,⟨⟨⟨a_6,a_7,a_8⟩,a_9⟩,a_10⟩,⟨⟨a_11,a_12,a_13⟩,a_14⟩,⟨a_15,a_16⟩,al⟩:Opn),c,g1,v,w,o⟩ with
  | false =>
   have hF:=hI.g.fr
   have hC:=ym k1 u a_1 a_2 a_3 a_4 a_5 a_6 a_7 a_8 a_9 a_10 a_11 a_12 a_13 a_14 a_15 a_16 c g1 v w o hax hal
   rw[his]at hC
   have hfin:=fun b1=>hno (by rw[his];simp) _ ((hI.grow (Grow.cons hF (dep+1) 9 b1)).g)
   refine oO _ _ _ _ _ _ _ _ fun g=>?_
   clear hno hih ih hQ hI hall his
   simp[af,ah,ad,ae,ab, *,mI,hx.r,hx.idx,hax.r]
   all_goals exact hfin _
  | true =>
   by_cases e1:k1=1
   ·subst e1
    have hf:tU us0 qs gr0 b ⟨1,u,(⟨a_1,⟨a_2,a_3,a_4⟩,a_5,⟨⟨⟨a_6,a_7,a_8⟩,a_9⟩,a_10⟩,⟨⟨a_11,a_12,a_13⟩,a_14⟩,⟨a_15,a_16⟩,al⟩:Opn),c,g1,v,w,o⟩=EL us0 qs gr0 b ⟨1,u,(⟨a_1,⟨a_2,a_3,a_4⟩,a_5,⟨⟨⟨a_6,a_7,a_8⟩,a_9⟩,a_10⟩,⟨⟨a_11,a_12,a_13⟩,a_14⟩,⟨a_15,a_16⟩,al⟩:Opn),c,g1,v,w,o⟩:=rfl
    refine En hx (by omega) hlt hI hrl (fi:=145) (fd:=148) (b':=doR b (⟨1,u,(⟨a_1,⟨a_2,a_3,a_4⟩,a_5,⟨⟨⟨a_6,a_7,a_8⟩,a_9⟩,a_10⟩,⟨⟨a_11,a_12,a_13⟩,a_14⟩,⟨a_15,a_16⟩,al⟩:Opn),c,g1,v,w,o⟩,x)) (by kernel_rfl) (by kernel_rfl) 1 u a_1 a_2 a_3 a_4 a_5 a_6 a_7 a_8 a_9 a_10 a_11 a_12 a_13 a_14 a_15 a_16 c g1 v w o hax hal hrd (fun g=>Rx) his (ft:=EL us0 qs gr0 b ⟨1,u,(⟨a_1,⟨a_2,a_3,a_4⟩,a_5,⟨⟨⟨a_6,a_7,a_8⟩,a_9⟩,a_10⟩,⟨⟨a_11,a_12,a_13⟩,a_14⟩,⟨a_15,a_16⟩,al⟩:Opn),c,g1,v,w,o⟩)
     (fun H' hI'=>RH (dep+1) hI'.g.fr hI'.bk.at hok hul hql 1 u a_1 a_2 a_3 a_4 a_5 a_6 a_7 a_8 a_9 a_10 a_11 a_12 a_13 a_14 a_15 a_16 c g1 v w o hax) ?_ ?_ ?_
    ·intro _ H' hI'
     obtain⟨H2,e1,e2,e3⟩:=RG (dep+1) hI'.g.fr hI'.bk hok 1 u a_1 a_2 a_3 a_4 a_5 a_6 a_7 a_8 a_9 a_10 a_11 a_12 a_13 a_14 a_15 a_16 c g1 v w o hax
     exact⟨H2,xh,e1,e2,e3⟩
    ·intro h H' hG
     exact hno (by rw[hf,h];simp) H' hG
    ·intro h H' xh' xr' h'
     exact hih ⟨his,by rw[hf];exact h⟩ H' xh' xr' h'
   ·by_cases e2:k1=2
    ·subst e2
     have hf:tU us0 qs gr0 b ⟨2,u,(⟨a_1,⟨a_2,a_3,a_4⟩,a_5,⟨⟨⟨a_6,a_7,a_8⟩,a_9⟩,a_10⟩,⟨⟨a_11,a_12,a_13⟩,a_14⟩,⟨a_15,a_16⟩,al⟩:Opn),c,g1,v,w,o⟩=Ca us0 qs gr0 b ⟨2,u,(⟨a_1,⟨a_2,a_3,a_4⟩,a_5,⟨⟨⟨a_6,a_7,a_8⟩,a_9⟩,a_10⟩,⟨⟨a_11,a_12,a_13⟩,a_14⟩,⟨a_15,a_16⟩,al⟩:Opn),c,g1,v,w,o⟩:=rfl
     refine En hx (by omega) hlt hI hrl (fi:=149) (fd:=150) (b':=doR b (⟨2,u,(⟨a_1,⟨a_2,a_3,a_4⟩,a_5,⟨⟨⟨a_6,a_7,a_8⟩,a_9⟩,a_10⟩,⟨⟨a_11,a_12,a_13⟩,a_14⟩,⟨a_15,a_16⟩,al⟩:Opn),c,g1,v,w,o⟩,x)) (by kernel_rfl) (by kernel_rfl) 2 u a_1 a_2 a_3 a_4 a_5 a_6 a_7 a_8 a_9 a_10 a_11 a_12 a_13 a_14 a_15 a_16 c g1 v w o hax hal hrd (fun g=>Rw) his (ft:=Ca us0 qs gr0 b ⟨2,u,(⟨a_1,⟨a_2,a_3,a_4⟩,a_5,⟨⟨⟨a_6,a_7,a_8⟩,a_9⟩,a_10⟩,⟨⟨a_11,a_12,a_13⟩,a_14⟩,⟨a_15,a_16⟩,al⟩:Opn),c,g1,v,w,o⟩)
      (fun H' hI'=>RF (dep+1) hI'.g.fr hI'.bk.at hok hul hql 2 u a_1 a_2 a_3 a_4 a_5 a_6 a_7 a_8 a_9 a_10 a_11 a_12 a_13 a_14 a_15 a_16 c g1 v w o hax hal) ?_ ?_ ?_
     ·intro _ H' hI'
      by_cases hc:c=0
      ·subst hc
       exact Ot (dep+1) hI'.g.fr hI'.bk hok 2 u a_1 a_2 a_3 a_4 a_5 a_6 a_7 a_8 a_9 a_10 a_11 a_12 a_13 a_14 a_15 a_16 g1 v w o hax hal
      ·obtain⟨H2,e1,e2,e3⟩:=RE (dep+1) hI'.g.fr hI'.bk hok 2 u a_1 a_2 a_3 a_4 a_5 a_6 a_7 a_8 a_9 a_10 a_11 a_12 a_13 a_14 a_15 a_16 c g1 v w o hax hc
       have hd:doOp b (⟨a_1,⟨a_2,a_3,a_4⟩,a_5,⟨⟨⟨a_6,a_7,a_8⟩,a_9⟩,a_10⟩,⟨⟨a_11,a_12,a_13⟩,a_14⟩,⟨a_15,a_16⟩,al⟩:Opn) c aNil=doR b (⟨2,u,(⟨a_1,⟨a_2,a_3,a_4⟩,a_5,⟨⟨⟨a_6,a_7,a_8⟩,a_9⟩,a_10⟩,⟨⟨a_11,a_12,a_13⟩,a_14⟩,⟨a_15,a_16⟩,al⟩:Opn),c,g1,v,w,o⟩,x):=by simp[doR,doOp,hc,zk]
       rw[hd]at e2
       exact⟨H2,xh,e1,e2,e3⟩
     ·intro h H' hG
      exact hno (by rw[hf,h];simp) H' hG
     ·intro h H' xh' xr' h'
      exact hih ⟨his,by rw[hf];exact h⟩ H' xh' xr' h'
    ·have e3:k1=3:=by
      by_cases e3:k1=3
      ·exact e3
      ·simp[pv,e1,e2,e3]at his
     subst e3
     have hf:tU us0 qs gr0 b ⟨3,u,(⟨a_1,⟨a_2,a_3,a_4⟩,a_5,⟨⟨⟨a_6,a_7,a_8⟩,a_9⟩,a_10⟩,⟨⟨a_11,a_12,a_13⟩,a_14⟩,⟨a_15,a_16⟩,al⟩:Opn),c,g1,v,w,o⟩=EK qs b ⟨3,u,(⟨a_1,⟨a_2,a_3,a_4⟩,a_5,⟨⟨⟨a_6,a_7,a_8⟩,a_9⟩,a_10⟩,⟨⟨a_11,a_12,a_13⟩,a_14⟩,⟨a_15,a_16⟩,al⟩:Opn),c,g1,v,w,o⟩:=rfl
     refine En hx (by omega) hlt hI hrl (fi:=151) (fd:=153) (b':=doR b (⟨3,u,(⟨a_1,⟨a_2,a_3,a_4⟩,a_5,⟨⟨⟨a_6,a_7,a_8⟩,a_9⟩,a_10⟩,⟨⟨a_11,a_12,a_13⟩,a_14⟩,⟨a_15,a_16⟩,al⟩:Opn),c,g1,v,w,o⟩,x)) (by kernel_rfl) (by kernel_rfl) 3 u a_1 a_2 a_3 a_4 a_5 a_6 a_7 a_8 a_9 a_10 a_11 a_12 a_13 a_14 a_15 a_16 c g1 v w o hax hal hrd (fun g=>Rv) his (ft:=EK qs b ⟨3,u,(⟨a_1,⟨a_2,a_3,a_4⟩,a_5,⟨⟨⟨a_6,a_7,a_8⟩,a_9⟩,a_10⟩,⟨⟨a_11,a_12,a_13⟩,a_14⟩,⟨a_15,a_16⟩,al⟩:Opn),c,g1,v,w,o⟩)
      (fun H' hI'=>RD (dep+1) hI'.g.fr hI'.bk.at hok hul hql 3 u a_1 a_2 a_3 a_4 a_5 a_6 a_7 a_8 a_9 a_10 a_11 a_12 a_13 a_14 a_15 a_16 c g1 v w o hax) ?_ ?_ ?_
     ·intro h H' hI'
      obtain⟨H2,e1,e2,e3⟩:=RC (dep+1) hI'.g.fr hI'.bk hok 3 u a_1 a_2 a_3 a_4 a_5 a_6 a_7 a_8 a_9 a_10 a_11 a_12 a_13 a_14 a_15 a_16 c g1 v w o hax hql (by simpa [EK] using h)
      exact⟨H2,xh,e1,e2,e3⟩
     ·intro h H' hG
      exact hno (by rw[hf,h];simp) H' hG
     ·intro h H' xh' xr' h'
      exact hih ⟨his,by rw[hf];exact h⟩ H' xh' xr' h'
end
end Go.Proofs.YtmkmimgokagimaaGreat
