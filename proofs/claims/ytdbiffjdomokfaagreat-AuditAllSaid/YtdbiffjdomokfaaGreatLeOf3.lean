/-
  What a log tells: the loop. No statement of a seat is proved here.
-/
import Derived.Test.YtdbiffjdomokfaaGreatMLeOf2
set_option linter.unusedVariables false
set_option linter.unusedSimpArgs false
set_option linter.unusedSectionVars false
set_option linter.unnecessarySimpa false
set_option maxRecDepth 100000
namespace Go.Proofs.YtdbiffjdomokfaaGreat
open Go.Ab
attribute [local simp] bD bq bo bF bE cZ ld bQ bx bA dx dw cg bT aY ct List.take_of_length_le
def Eh(us0:List Clear)(qs:List bz)(gr0:Int)(b:iw)(r:jr):Bool:=if r.kind=1 then Ha us0 qs gr0 b r else if r.kind=2 then G9 us0 qs gr0 b r else Ei qs b r
def N0(b:iw)(p:jr × AV):iw:=if p.1.kind=1 then w9 b p.1.op p.1.user else if p.1.kind=2 then rL b p.1.op p.1.code (xE p.2) else yF b p.1.gu p.1.gv p.1.gc p.1.gok
def UD(us0:List Clear)(qs:List bz)(gr0:Int):iw→List (jr × AV)→Option iw
 | b,[]=>some b
 | b,p :: l=>if lT p.1=true∧Eh us0 qs gr0 b p.1=true then UD us0 qs gr0 (N0 b p) l else none
theorem AS{l:List Int}{x:AV}(hx:Sl 1 (rows l) x):Sl 1 (rows l) (xE x):=by
 rcases hx with ⟨rfl,h⟩ | ⟨c,rfl,h⟩
 ·exact .inl ⟨rfl,h⟩
 ·by_cases he:rows l=[]
  ·rw[he];exact .inr ⟨some 0,rfl,by simp⟩
  ·rw[FP 1 c he];exact Sl.mk _ _
def wQ(p:jr × AV):jr × AV:=(p.1,xE p.2)
theorem Hq(b:iw)(p:jr × AV):(N0 b p).iD.length≤b.iD.length+1:=by
 unfold N0 w9 rL yF
 repeat' split
 all_goals simp
theorem Tp{b:iw}(h:tI b){p:jr × AV}(hp:xW p)(hm:b.iD.length+1<10000):tI (N0 b p):=by
 have hh:=Hq b p
 unfold N0 at hh ⊢
 split at hh
 ·rename_i k1
  rw[if_pos k1]
  refine⟨xJ (P:=fun x =>∃s:AZ,x=s.av) ⟨_,rfl⟩ h.ses,xJ (P:=fun x =>∃s:zU,x=s.av) ⟨_,rfl⟩ h.used,h.iD,by omega,h.few⟩
 ·rename_i k1
  rw[if_neg k1]
  split at hh
  ·rename_i k2
   rw[if_pos k2]
   refine⟨xJ (P:=fun x =>∃s:AZ,x=s.av) ⟨_,rfl⟩ h.ses,xJ (P:=fun x =>∃s:zU,x=s.av) ⟨_,rfl⟩ h.used,?_,by omega,h.few⟩
   intro q hq
   unfold rL at hq
   simp only at hq
   split at hq
   ·rcases List.mem_append.1 hq with hq | hq
    ·exact h.iD q hq
    ·rw[List.mem_singleton]at hq
     subst hq
     exact⟨⟨AS hp.1,by have:=hp.2;simp only;omega⟩,hp.2⟩
   ·exact h.iD q hq
  ·rename_i k2
   rw[if_neg k2]
   exact⟨h.ses,h.used,h.iD,by omega,by show(b.us.set _ _).length<_;rw[List.length_set];exact h.few⟩
def CM(H0:ab)(us0:List Clear)(qs:List bz)(gr0:Int)(recs:List (jr × AV))(o:Option iw)(y:AV)(H:ab):Prop:=match o with
 | none=>y = .tup [.v (.pointer none),aB false]∧cz H0 H
 | some b =>∃rb rs ru rk xh xr,y = .tup [.ptr rb 0 0,aB true]∧Kc H0 H rb rs ru rk xh xr us0 qs gr0 b recs∧tI b
section
variable{l:List (jr × AV)}{x26:AV}(hx:Sl 24 (cI l) x26)(hl:l.length≤2048)(hall : ∀p∈l,xW p){H0:ab}{Q:AV→ab→Prop}{dep:Nat}{rb rs ru rk:Ref}{us0:List Clear}{qs:List bz}{gr0:Int}(hul:us0.length<1000000)(hql:qs.length<1000000)
include hx hl hall hul hql
theorem PV : ∀(s:List (jr × AV)) (k:Nat) (b:iw) (recs:List (jr × AV)) (H:ab) (xh xr:AV),l.drop k=s→k≤l.length→recs=(l.take k).map wQ→tI b→b.iD.length≤k→Kc H0 H rb rs ru rk xh xr us0 qs gr0 b recs →
 (∀y H',CM H0 us0 qs gr0 (l.map wQ) (UD us0 qs gr0 b s) y H'→Q y H') →
 bP env Tryz.f35 (dep+1) iE [(28,aI k),(6,.ptr rb 0 0),(7,.mp rk),(26,x26),(27,aI l.length)] H Q:=by
 intro s
 induction s with
 | nil =>
  rintro k b recs H xh xr hs hk hr hok hm hI hQ
  obtain rfl:=drop_nil hs hk
  rw[List.take_length]at hr
  subst hr
  have hfin:=hQ _ H ⟨rb,rs,ru,rk,xh,xr,rfl,hI,hok⟩
  refine pR _ _ _ _ _ _ _ _ fun g=>?_
  clear hQ hI hall
  simp[ah,ai,ae,af,ad, *,nW]
  all_goals exact hfin
 | cons p s ih =>
  rintro k b recs H xh xr hs hk hr hok hm hI hQ
  obtain⟨hlt,hg,hs',hg'⟩:=drop_cons hs
  have hp:=hall p (hg ▸ List.getElem_mem hlt)
  have hok':=Tp hok hp (by omega)
  have hm':=Hq b p
  have hrl:recs.length≤10000:=by rw[hr];simp;omega
  have hr':recs++[wQ p]=(l.take (k+1)).map wQ:=by
   rw[hr,List.take_add_one,hg']
   simp
  have hih:=fun(hd:lT p.1=true∧Eh us0 qs gr0 b p.1=true) H' xh' xr' h=>ih (k+1) (N0 b p) _ H' xh' xr' hs' (by omega) hr' hok' (by omega) h (fun y H1 hA=>hQ y H1 (by show CM _ _ _ _ _ (if _ then _ else _) _ _;rw[if_pos hd];exact hA))
  have hno : ¬(lT p.1=true∧Eh us0 qs gr0 b p.1=true) →∀H',cz H0 H'→Q (.tup [.v (.pointer none),aB false]) H':=fun hd H' hG=>hQ _ H' (by show CM _ _ _ _ _ (if _ then _ else _) _ _;rw[if_neg hd];exact⟨rfl,hG⟩)
  obtain⟨⟨k1,u,⟨bh,⟨aQ,aP,aT⟩,aX,⟨⟨⟨bc,ba,bf⟩,bg⟩,au⟩,⟨⟨az,ay,ax⟩,aw⟩,⟨aC,aA⟩,al⟩,c,g1,v,w,o⟩,x⟩:=p
  obtain⟨hax,hal⟩:=hp
  simp only at hax hal
  have hrd:dX (cI l) k 0 24 true=some (.agg [a8 k1,aI u,a8 bh,a8 aQ,aF aP,a8 aT,aI aX,a8 bc,aF ba,a8 bf,aI bg,aI au,a8 az,aF ay,a8 ax,aI aw,a8 aC,aF aA,x,aI c,aI g1,a8 v,aF w,aB o]):=by simp[cI,hg',jr.val]
  have hlt':(k:Int)<l.length:=by omega
  cases his:lT ⟨k1,u,(⟨bh,⟨aQ,aP,aT⟩,aX,⟨⟨⟨bc,ba,bf⟩,bg⟩,au⟩,⟨⟨az,ay,ax⟩,aw⟩,⟨aC,aA⟩,al⟩:bR),c,g1,v,w,o⟩ with
  | false =>
   have hF:=hI.g.fr
   have hC:=z3 k1 u bh aQ aP aT aX bc ba bf bg au az ay ax aw aC aA c g1 v w o hax hal
   rw[his]at hC
   have hfin:=fun b1=>hno (by rw[his];simp) _ ((hI.grow (cz.cons hF (dep+1) 9 b1)).g)
   refine pR _ _ _ _ _ _ _ _ fun g=>?_
   clear hno hih ih hQ hI hall his
   simp[ah,ai,ae,af,ad, *,nW,hx.r,hx.idx,hax.r]
   all_goals exact hfin _
  | true =>
   by_cases e1:k1=1
   ·subst e1
    have hf:Eh us0 qs gr0 b ⟨1,u,(⟨bh,⟨aQ,aP,aT⟩,aX,⟨⟨⟨bc,ba,bf⟩,bg⟩,au⟩,⟨⟨az,ay,ax⟩,aw⟩,⟨aC,aA⟩,al⟩:bR),c,g1,v,w,o⟩=Ha us0 qs gr0 b ⟨1,u,(⟨bh,⟨aQ,aP,aT⟩,aX,⟨⟨⟨bc,ba,bf⟩,bg⟩,au⟩,⟨⟨az,ay,ax⟩,aw⟩,⟨aC,aA⟩,al⟩:bR),c,g1,v,w,o⟩:=rfl
    refine ES hx (by omega) hlt hI hrl (fi:=71) (fd:=74) (b':=N0 b (⟨1,u,(⟨bh,⟨aQ,aP,aT⟩,aX,⟨⟨⟨bc,ba,bf⟩,bg⟩,au⟩,⟨⟨az,ay,ax⟩,aw⟩,⟨aC,aA⟩,al⟩:bR),c,g1,v,w,o⟩,x)) (by kernel_rfl) (by kernel_rfl) 1 u bh aQ aP aT aX bc ba bf bg au az ay ax aw aC aA c g1 v w o hax hal hrd (fun g=>SI) his (ft:=Ha us0 qs gr0 b ⟨1,u,(⟨bh,⟨aQ,aP,aT⟩,aX,⟨⟨⟨bc,ba,bf⟩,bg⟩,au⟩,⟨⟨az,ay,ax⟩,aw⟩,⟨aC,aA⟩,al⟩:bR),c,g1,v,w,o⟩)
     (fun H' hI'=>SV (dep+1) hI'.g.fr hI'.bk.at hok hul hql 1 u bh aQ aP aT aX bc ba bf bg au az ay ax aw aC aA c g1 v w o hax) ?_ ?_ ?_
    ·intro _ H' hI'
     obtain⟨H2,e1,e2,e3⟩:=SU (dep+1) hI'.g.fr hI'.bk hok 1 u bh aQ aP aT aX bc ba bf bg au az ay ax aw aC aA c g1 v w o hax
     exact⟨H2,xh,e1,e2,e3⟩
    ·intro h H' hG
     exact hno (by rw[hf,h];simp) H' hG
    ·intro h H' xh' xr' h'
     exact hih ⟨his,by rw[hf];exact h⟩ H' xh' xr' h'
   ·by_cases e2:k1=2
    ·subst e2
     have hf:Eh us0 qs gr0 b ⟨2,u,(⟨bh,⟨aQ,aP,aT⟩,aX,⟨⟨⟨bc,ba,bf⟩,bg⟩,au⟩,⟨⟨az,ay,ax⟩,aw⟩,⟨aC,aA⟩,al⟩:bR),c,g1,v,w,o⟩=G9 us0 qs gr0 b ⟨2,u,(⟨bh,⟨aQ,aP,aT⟩,aX,⟨⟨⟨bc,ba,bf⟩,bg⟩,au⟩,⟨⟨az,ay,ax⟩,aw⟩,⟨aC,aA⟩,al⟩:bR),c,g1,v,w,o⟩:=rfl
     refine ES hx (by omega) hlt hI hrl (fi:=75) (fd:=77) (b':=N0 b (⟨2,u,(⟨bh,⟨aQ,aP,aT⟩,aX,⟨⟨⟨bc,ba,bf⟩,bg⟩,au⟩,⟨⟨az,ay,ax⟩,aw⟩,⟨aC,aA⟩,al⟩:bR),c,g1,v,w,o⟩,x)) (by kernel_rfl) (by kernel_rfl) 2 u bh aQ aP aT aX bc ba bf bg au az ay ax aw aC aA c g1 v w o hax hal hrd (fun g=>SH) his (ft:=G9 us0 qs gr0 b ⟨2,u,(⟨bh,⟨aQ,aP,aT⟩,aX,⟨⟨⟨bc,ba,bf⟩,bg⟩,au⟩,⟨⟨az,ay,ax⟩,aw⟩,⟨aC,aA⟩,al⟩:bR),c,g1,v,w,o⟩)
      (fun H' hI'=>SS (dep+1) hI'.g.fr hI'.bk.at hok hul hql 2 u bh aQ aP aT aX bc ba bf bg au az ay ax aw aC aA c g1 v w o hax hal) ?_ ?_ ?_
     ·intro _ H' hI'
      by_cases hc:c=0
      ·subst hc
       exact P6 (dep+1) hI'.g.fr hI'.bk hok 2 u bh aQ aP aT aX bc ba bf bg au az ay ax aw aC aA g1 v w o hax hal
      ·obtain⟨H2,e1,e2,e3⟩:=SR (dep+1) hI'.g.fr hI'.bk hok 2 u bh aQ aP aT aX bc ba bf bg au az ay ax aw aC aA c g1 v w o hax hc
       have hd:rL b (⟨bh,⟨aQ,aP,aT⟩,aX,⟨⟨⟨bc,ba,bf⟩,bg⟩,au⟩,⟨⟨az,ay,ax⟩,aw⟩,⟨aC,aA⟩,al⟩:bR) c cW=N0 b (⟨2,u,(⟨bh,⟨aQ,aP,aT⟩,aX,⟨⟨⟨bc,ba,bf⟩,bg⟩,au⟩,⟨⟨az,ay,ax⟩,aw⟩,⟨aC,aA⟩,al⟩:bR),c,g1,v,w,o⟩,x):=by simp[N0,rL,hc,Hp]
       rw[hd]at e2
       exact⟨H2,xh,e1,e2,e3⟩
     ·intro h H' hG
      exact hno (by rw[hf,h];simp) H' hG
     ·intro h H' xh' xr' h'
      exact hih ⟨his,by rw[hf];exact h⟩ H' xh' xr' h'
    ·have e3:k1=3:=by
      by_cases e3:k1=3
      ·exact e3
      ·simp[lT,e1,e2,e3]at his
     subst e3
     have hf:Eh us0 qs gr0 b ⟨3,u,(⟨bh,⟨aQ,aP,aT⟩,aX,⟨⟨⟨bc,ba,bf⟩,bg⟩,au⟩,⟨⟨az,ay,ax⟩,aw⟩,⟨aC,aA⟩,al⟩:bR),c,g1,v,w,o⟩=Ei qs b ⟨3,u,(⟨bh,⟨aQ,aP,aT⟩,aX,⟨⟨⟨bc,ba,bf⟩,bg⟩,au⟩,⟨⟨az,ay,ax⟩,aw⟩,⟨aC,aA⟩,al⟩:bR),c,g1,v,w,o⟩:=rfl
     refine ES hx (by omega) hlt hI hrl (fi:=79) (fd:=81) (b':=N0 b (⟨3,u,(⟨bh,⟨aQ,aP,aT⟩,aX,⟨⟨⟨bc,ba,bf⟩,bg⟩,au⟩,⟨⟨az,ay,ax⟩,aw⟩,⟨aC,aA⟩,al⟩:bR),c,g1,v,w,o⟩,x)) (by kernel_rfl) (by kernel_rfl) 3 u bh aQ aP aT aX bc ba bf bg au az ay ax aw aC aA c g1 v w o hax hal hrd (fun g=>SG) his (ft:=Ei qs b ⟨3,u,(⟨bh,⟨aQ,aP,aT⟩,aX,⟨⟨⟨bc,ba,bf⟩,bg⟩,au⟩,⟨⟨az,ay,ax⟩,aw⟩,⟨aC,aA⟩,al⟩:bR),c,g1,v,w,o⟩)
      (fun H' hI'=>SQ (dep+1) hI'.g.fr hI'.bk.at hok hul hql 3 u bh aQ aP aT aX bc ba bf bg au az ay ax aw aC aA c g1 v w o hax) ?_ ?_ ?_
     ·intro h H' hI'
      obtain⟨H2,e1,e2,e3⟩:=SP (dep+1) hI'.g.fr hI'.bk hok 3 u bh aQ aP aT aX bc ba bf bg au az ay ax aw aC aA c g1 v w o hax hql (by simpa [Ei] using h)
      exact⟨H2,xh,e1,e2,e3⟩
     ·intro h H' hG
      exact hno (by rw[hf,h];simp) H' hG
     ·intro h H' xh' xr' h'
      exact hih ⟨his,by rw[hf];exact h⟩ H' xh' xr' h'
end
end Go.Proofs.YtdbiffjdomokfaaGreat
