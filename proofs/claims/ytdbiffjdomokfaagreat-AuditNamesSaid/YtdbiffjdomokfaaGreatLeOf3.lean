/-
  What a log tells: the loop. No statement of a seat is proved here.
-/
import Derived.Test.YtdbiffjdomokfaaGreatMLeOf2
set_option linter.unusedVariables false
set_option linter.unusedSimpArgs false
set_option linter.unusedSectionVars false
set_option linter.unnecessarySimpa false
set_option maxRecDepth 100000
namespace Go.Proofs.YtdbiffjdomokfaaGreat
open Go.Ab
attribute [local simp] bK bw bo bM bL dc kS bU bx bH dJ dI cp bX bh cC List.take_of_length_le
def Dd(us0:List Clear)(qs:List bI)(gr0:Int)(b:iu)(r:mv):Bool:=if r.kind=1 then Ga us0 qs gr0 b r else if r.kind=2 then F9 us0 qs gr0 b r else De qs b r
def Mh(b:iu)(p:mv × AV):iu:=if p.1.kind=1 then vV b p.1.op p.1.user else if p.1.kind=2 then qR b p.1.op p.1.code (wB p.2) else xp b p.1.gu p.1.gv p.1.gc p.1.gok
def Xb(us0:List Clear)(qs:List bI)(gr0:Int):iu→List (mv × AV)→Option iu
 | b,[]=>some b
 | b,p :: l=>if px p.1=true∧Dd us0 qs gr0 b p.1=true then Xb us0 qs gr0 (Mh b p) l else none
theorem zP{l:List Int}{x:AV}(hx:Sl 1 (rows l) x):Sl 1 (rows l) (wB x):=by
 rcases hx with ⟨rfl,h⟩ | ⟨c,rfl,h⟩
 ·exact .inl ⟨rfl,h⟩
 ·by_cases he:rows l=[]
  ·rw[he];exact .inr ⟨some 0,rfl,by simp⟩
  ·rw[ER 1 c he];exact Sl.mk _ _
def vJ(p:mv × AV):mv × AV:=(p.1,wB p.2)
theorem Gg(b:iu)(p:mv × AV):(Mh b p).ib.length≤b.ib.length+1:=by
 unfold Mh vV qR xp
 repeat' split
 all_goals simp
theorem Ro{b:iu}(h:sH b){p:mv × AV}(hp:AK p)(hm:b.ib.length+1<10000):sH (Mh b p):=by
 have hh:=Gg b p
 unfold Mh at hh ⊢
 split at hh
 ·rename_i k1
  rw[if_pos k1]
  refine⟨wF (P:=fun x =>∃s:zT,x=s.av) ⟨_,rfl⟩ h.ses,wF (P:=fun x =>∃s:yS,x=s.av) ⟨_,rfl⟩ h.used,h.ib,by omega,h.few⟩
 ·rename_i k1
  rw[if_neg k1]
  split at hh
  ·rename_i k2
   rw[if_pos k2]
   refine⟨wF (P:=fun x =>∃s:zT,x=s.av) ⟨_,rfl⟩ h.ses,wF (P:=fun x =>∃s:yS,x=s.av) ⟨_,rfl⟩ h.used,?_,by omega,h.few⟩
   intro q hq
   unfold qR at hq
   simp only at hq
   split at hq
   ·rcases List.mem_append.1 hq with hq | hq
    ·exact h.ib q hq
    ·rw[List.mem_singleton]at hq
     subst hq
     exact⟨⟨zP hp.1,by have:=hp.2;simp only;omega⟩,hp.2⟩
   ·exact h.ib q hq
  ·rename_i k2
   rw[if_neg k2]
   exact⟨h.ses,h.used,h.ib,by omega,by show(b.us.set _ _).length<_;rw[List.length_set];exact h.few⟩
def BL(H0:ab)(us0:List Clear)(qs:List bI)(gr0:Int)(recs:List (mv × AV))(o:Option iu)(y:AV)(H:ab):Prop:=match o with
 | none=>y = .tup [.v (.pointer none),aB false]∧cw H0 H
 | some b =>∃rb rs ru rk xh xr,y = .tup [.ptr rb 0 0,aB true]∧IW H0 H rb rs ru rk xh xr us0 qs gr0 b recs∧sH b
section
variable{l:List (mv × AV)}{x26:AV}(hx:Sl 24 (dk l) x26)(hl:l.length≤2048)(hall : ∀p∈l,AK p){H0:ab}{Q:AV→ab→Prop}{dep:Nat}{rb rs ru rk:Ref}{us0:List Clear}{qs:List bI}{gr0:Int}(hul:us0.length<1000000)(hql:qs.length<1000000)
include hx hl hall hul hql
theorem N1 : ∀(s:List (mv × AV)) (k:Nat) (b:iu) (recs:List (mv × AV)) (H:ab) (xh xr:AV),l.drop k=s→k≤l.length→recs=(l.take k).map vJ→sH b→b.ib.length≤k→IW H0 H rb rs ru rk xh xr us0 qs gr0 b recs →
 (∀y H',BL H0 us0 qs gr0 (l.map vJ) (Xb us0 qs gr0 b s) y H'→Q y H') →
 bW env Tryz.f35 (dep+1) ic [(28,aI k),(6,.ptr rb 0 0),(7,.mp rk),(26,x26),(27,aI l.length)] H Q:=by
 intro s
 induction s with
 | nil =>
  rintro k b recs H xh xr hs hk hr hok hm hI hQ
  obtain rfl:=drop_nil hs hk
  rw[List.take_length]at hr
  subst hr
  have hfin:=hQ _ H ⟨rb,rs,ru,rk,xh,xr,rfl,hI,hok⟩
  refine pk _ _ _ _ _ _ _ _ fun g=>?_
  clear hQ hI hall
  simp[ah,ai,ae,af,ad, *,ni]
  all_goals exact hfin
 | cons p s ih =>
  rintro k b recs H xh xr hs hk hr hok hm hI hQ
  obtain⟨hlt,hg,hs',hg'⟩:=drop_cons hs
  have hp:=hall p (hg ▸ List.getElem_mem hlt)
  have hok':=Ro hok hp (by omega)
  have hm':=Gg b p
  have hrl:recs.length≤10000:=by rw[hr];simp;omega
  have hr':recs++[vJ p]=(l.take (k+1)).map vJ:=by
   rw[hr,List.take_add_one,hg']
   simp
  have hih:=fun(hd:px p.1=true∧Dd us0 qs gr0 b p.1=true) H' xh' xr' h=>ih (k+1) (Mh b p) _ H' xh' xr' hs' (by omega) hr' hok' (by omega) h (fun y H1 hA=>hQ y H1 (by show BL _ _ _ _ _ (if _ then _ else _) _ _;rw[if_pos hd];exact hA))
  have hno : ¬(px p.1=true∧Dd us0 qs gr0 b p.1=true) →∀H',cw H0 H'→Q (.tup [.v (.pointer none),aB false]) H':=fun hd H' hG=>hQ _ H' (by show BL _ _ _ _ _ (if _ then _ else _) _ _;rw[if_neg hd];exact⟨rfl,hG⟩)
  obtain⟨⟨k1,u,⟨bg,⟨aP,aO,aT⟩,aW,⟨⟨⟨ba,aZ,bc⟩,bf⟩,au⟩,⟨⟨az,ay,ax⟩,aw⟩,⟨aC,aA⟩,al⟩,c,g1,v,w,o⟩,x⟩:=p
  obtain⟨hax,hal⟩:=hp
  simp only at hax hal
  have hrd:eQ (dk l) k 0 24 true=some (.agg [a8 k1,aI u,a8 bg,a8 aP,aF aO,a8 aT,aI aW,a8 ba,aF aZ,a8 bc,aI bf,aI au,a8 az,aF ay,a8 ax,aI aw,a8 aC,aF aA,x,aI c,aI g1,a8 v,aF w,aB o]):=by simp[dk,hg',mv.val]
  have hlt':(k:Int)<l.length:=by omega
  cases his:px ⟨k1,u,(⟨bg,⟨aP,aO,aT⟩,aW,⟨⟨⟨ba,aZ,bc⟩,bf⟩,au⟩,⟨⟨az,ay,ax⟩,aw⟩,⟨aC,aA⟩,al⟩:bQ),c,g1,v,w,o⟩ with
  | false =>
   have hF:=hI.g.fr
   have hC:=yZ k1 u bg aP aO aT aW ba aZ bc bf au az ay ax aw aC aA c g1 v w o hax hal
   rw[his]at hC
   have hfin:=fun b1=>hno (by rw[his];simp) _ ((hI.grow (cw.cons hF (dep+1) 9 b1)).g)
   refine pk _ _ _ _ _ _ _ _ fun g=>?_
   clear hno hih ih hQ hI hall his
   simp[ah,ai,ae,af,ad, *,ni,hx.r,hx.idx,hax.r]
   all_goals exact hfin _
  | true =>
   by_cases e1:k1=1
   ·subst e1
    have hf:Dd us0 qs gr0 b ⟨1,u,(⟨bg,⟨aP,aO,aT⟩,aW,⟨⟨⟨ba,aZ,bc⟩,bf⟩,au⟩,⟨⟨az,ay,ax⟩,aw⟩,⟨aC,aA⟩,al⟩:bQ),c,g1,v,w,o⟩=Ga us0 qs gr0 b ⟨1,u,(⟨bg,⟨aP,aO,aT⟩,aW,⟨⟨⟨ba,aZ,bc⟩,bf⟩,au⟩,⟨⟨az,ay,ax⟩,aw⟩,⟨aC,aA⟩,al⟩:bQ),c,g1,v,w,o⟩:=rfl
    refine DR hx (by omega) hlt hI hrl (fi:=71) (fd:=74) (b':=Mh b (⟨1,u,(⟨bg,⟨aP,aO,aT⟩,aW,⟨⟨⟨ba,aZ,bc⟩,bf⟩,au⟩,⟨⟨az,ay,ax⟩,aw⟩,⟨aC,aA⟩,al⟩:bQ),c,g1,v,w,o⟩,x)) (by kernel_rfl) (by kernel_rfl) 1 u bg aP aO aT aW ba aZ bc bf au az ay ax aw aC aA c g1 v w o hax hal hrd (fun g=>QL) his (ft:=Ga us0 qs gr0 b ⟨1,u,(⟨bg,⟨aP,aO,aT⟩,aW,⟨⟨⟨ba,aZ,bc⟩,bf⟩,au⟩,⟨⟨az,ay,ax⟩,aw⟩,⟨aC,aA⟩,al⟩:bQ),c,g1,v,w,o⟩)
     (fun H' hI'=>QX (dep+1) hI'.g.fr hI'.bk.at hok hul hql 1 u bg aP aO aT aW ba aZ bc bf au az ay ax aw aC aA c g1 v w o hax) ?_ ?_ ?_
    ·intro _ H' hI'
     obtain⟨H2,e1,e2,e3⟩:=QW (dep+1) hI'.g.fr hI'.bk hok 1 u bg aP aO aT aW ba aZ bc bf au az ay ax aw aC aA c g1 v w o hax
     exact⟨H2,xh,e1,e2,e3⟩
    ·intro h H' hG
     exact hno (by rw[hf,h];simp) H' hG
    ·intro h H' xh' xr' h'
     exact hih ⟨his,by rw[hf];exact h⟩ H' xh' xr' h'
   ·by_cases e2:k1=2
    ·subst e2
     have hf:Dd us0 qs gr0 b ⟨2,u,(⟨bg,⟨aP,aO,aT⟩,aW,⟨⟨⟨ba,aZ,bc⟩,bf⟩,au⟩,⟨⟨az,ay,ax⟩,aw⟩,⟨aC,aA⟩,al⟩:bQ),c,g1,v,w,o⟩=F9 us0 qs gr0 b ⟨2,u,(⟨bg,⟨aP,aO,aT⟩,aW,⟨⟨⟨ba,aZ,bc⟩,bf⟩,au⟩,⟨⟨az,ay,ax⟩,aw⟩,⟨aC,aA⟩,al⟩:bQ),c,g1,v,w,o⟩:=rfl
     refine DR hx (by omega) hlt hI hrl (fi:=75) (fd:=77) (b':=Mh b (⟨2,u,(⟨bg,⟨aP,aO,aT⟩,aW,⟨⟨⟨ba,aZ,bc⟩,bf⟩,au⟩,⟨⟨az,ay,ax⟩,aw⟩,⟨aC,aA⟩,al⟩:bQ),c,g1,v,w,o⟩,x)) (by kernel_rfl) (by kernel_rfl) 2 u bg aP aO aT aW ba aZ bc bf au az ay ax aw aC aA c g1 v w o hax hal hrd (fun g=>QK) his (ft:=F9 us0 qs gr0 b ⟨2,u,(⟨bg,⟨aP,aO,aT⟩,aW,⟨⟨⟨ba,aZ,bc⟩,bf⟩,au⟩,⟨⟨az,ay,ax⟩,aw⟩,⟨aC,aA⟩,al⟩:bQ),c,g1,v,w,o⟩)
      (fun H' hI'=>QV (dep+1) hI'.g.fr hI'.bk.at hok hul hql 2 u bg aP aO aT aW ba aZ bc bf au az ay ax aw aC aA c g1 v w o hax hal) ?_ ?_ ?_
     ·intro _ H' hI'
      by_cases hc:c=0
      ·subst hc
       exact Ob (dep+1) hI'.g.fr hI'.bk hok 2 u bg aP aO aT aW ba aZ bc bf au az ay ax aw aC aA g1 v w o hax hal
      ·obtain⟨H2,e1,e2,e3⟩:=QU (dep+1) hI'.g.fr hI'.bk hok 2 u bg aP aO aT aW ba aZ bc bf au az ay ax aw aC aA c g1 v w o hax hc
       have hd:qR b (⟨bg,⟨aP,aO,aT⟩,aW,⟨⟨⟨ba,aZ,bc⟩,bf⟩,au⟩,⟨⟨az,ay,ax⟩,aw⟩,⟨aC,aA⟩,al⟩:bQ) c dg=Mh b (⟨2,u,(⟨bg,⟨aP,aO,aT⟩,aW,⟨⟨⟨ba,aZ,bc⟩,bf⟩,au⟩,⟨⟨az,ay,ax⟩,aw⟩,⟨aC,aA⟩,al⟩:bQ),c,g1,v,w,o⟩,x):=by simp[Mh,qR,hc,Gf]
       rw[hd]at e2
       exact⟨H2,xh,e1,e2,e3⟩
     ·intro h H' hG
      exact hno (by rw[hf,h];simp) H' hG
     ·intro h H' xh' xr' h'
      exact hih ⟨his,by rw[hf];exact h⟩ H' xh' xr' h'
    ·have e3:k1=3:=by
      by_cases e3:k1=3
      ·exact e3
      ·simp[px,e1,e2,e3]at his
     subst e3
     have hf:Dd us0 qs gr0 b ⟨3,u,(⟨bg,⟨aP,aO,aT⟩,aW,⟨⟨⟨ba,aZ,bc⟩,bf⟩,au⟩,⟨⟨az,ay,ax⟩,aw⟩,⟨aC,aA⟩,al⟩:bQ),c,g1,v,w,o⟩=De qs b ⟨3,u,(⟨bg,⟨aP,aO,aT⟩,aW,⟨⟨⟨ba,aZ,bc⟩,bf⟩,au⟩,⟨⟨az,ay,ax⟩,aw⟩,⟨aC,aA⟩,al⟩:bQ),c,g1,v,w,o⟩:=rfl
     refine DR hx (by omega) hlt hI hrl (fi:=79) (fd:=81) (b':=Mh b (⟨3,u,(⟨bg,⟨aP,aO,aT⟩,aW,⟨⟨⟨ba,aZ,bc⟩,bf⟩,au⟩,⟨⟨az,ay,ax⟩,aw⟩,⟨aC,aA⟩,al⟩:bQ),c,g1,v,w,o⟩,x)) (by kernel_rfl) (by kernel_rfl) 3 u bg aP aO aT aW ba aZ bc bf au az ay ax aw aC aA c g1 v w o hax hal hrd (fun g=>QJ) his (ft:=De qs b ⟨3,u,(⟨bg,⟨aP,aO,aT⟩,aW,⟨⟨⟨ba,aZ,bc⟩,bf⟩,au⟩,⟨⟨az,ay,ax⟩,aw⟩,⟨aC,aA⟩,al⟩:bQ),c,g1,v,w,o⟩)
      (fun H' hI'=>QT (dep+1) hI'.g.fr hI'.bk.at hok hul hql 3 u bg aP aO aT aW ba aZ bc bf au az ay ax aw aC aA c g1 v w o hax) ?_ ?_ ?_
     ·intro h H' hI'
      obtain⟨H2,e1,e2,e3⟩:=QS (dep+1) hI'.g.fr hI'.bk hok 3 u bg aP aO aT aW ba aZ bc bf au az ay ax aw aC aA c g1 v w o hax hql (by simpa [De] using h)
      exact⟨H2,xh,e1,e2,e3⟩
     ·intro h H' hG
      exact hno (by rw[hf,h];simp) H' hG
     ·intro h H' xh' xr' h'
      exact hih ⟨his,by rw[hf];exact h⟩ H' xh' xr' h'
end
end Go.Proofs.YtdbiffjdomokfaaGreat
