/-
  How many blocks a record has. No statement of a seat is proved here.
-/
import Derived.Test.YtiidajnodhkidaaGreatRecFns
import Derived.Test.YtiidajnodhkidaaGreatMOpMath
import Derived.Test.YtiidajnodhkidaaGreatMOpSame
set_option linter.unusedVariables false
set_option linter.unusedSimpArgs false
set_option linter.unusedSectionVars false
set_option linter.unnecessarySimpa false
set_option maxRecDepth 100000
namespace Go.Proofs.YtiidajnodhkidaaGreat
open Go.Ab
attribute [local simp] ct bK bO bN keep thr cC bD bP eE eD cN cB aV dk List.take_of_length_le
theorem Jd{r:Rcd}(h:ej r=true):recZ r = .isl 1 (by8 (recB r)) none:=by
 unfold ej at h
 unfold recZ recB
 split at h
 ·rename_i k1
  simp only[Bool.and_eq_true]at h
  rw[if_pos k1,if_pos k1,if_pos h.2.1]
 ·rename_i k1
  rw[if_neg k1,if_neg k1]
  split at h
  ·rename_i k2
   simp only[Bool.and_eq_true]at h
   rw[if_pos k2,if_pos k2,if_pos h.2.1]
  ·rename_i k2
   rw[if_neg k2,if_neg k2]
   split at h
   ·rename_i k3
    simp only[Bool.and_eq_true]at h
    rw[if_pos k3,if_pos h.1]
   ·cases h
theorem AW{r:Rcd}(h:ej r=true):(r.kind=1∧(recB r).length=8)∨(r.kind=2∧(recB r).length=3+yX r.op∧opB r.op=true)∨(r.kind=3∧(recB r).length=8):=by
 unfold ej at h
 unfold recB
 split at h
 ·rename_i k1
  refine .inl ⟨k1,?_⟩
  rw[if_pos k1];simp
 ·rename_i k1
  rw[if_neg k1]
  split at h
  ·rename_i k2
   simp only[Bool.and_eq_true]at h
   refine .inr (.inl ⟨k2,?_,h.2.1⟩)
   rw[if_pos k2]
   simp[sT h.2.1];omega
  ·rename_i k2
   rw[if_neg k2]
   split at h
   ·rename_i k3
    refine .inr (.inr ⟨k3,?_⟩)
    simp[lQ]
   ·cases h
def recN(r:Rcd):Nat:=((recB r).length+118) / 119
theorem m9{r:Rcd}(h:ej r=true):1≤recN r∧recN r≤3∧(r.kind=2∨recN r=1):=by
 unfold recN
 rcases AW h with ⟨k,e⟩ | ⟨k,e,ho⟩ | ⟨k,e⟩
 ·rw[e];simp
 ·rw[e];have:=tB ho;exact⟨by omega,by omega,.inl k⟩
 ·rw[e];simp
theorem zQ(k:UInt8)(u:Int)(a_1:UInt8)(a_2:UInt8)(a_3:UInt32)(a_4:UInt8)(a_5:Int)(a_6:UInt8)(a_7:UInt32)(a_8:UInt8)(a_9:Int)(a_10:Int)(a_11:UInt8)(a_12:UInt32)(a_13:UInt8)(a_14:Int)(a_15:UInt8)(a_16:UInt32)(c g1:Int)(v:UInt8)(w:UInt32)(o:Bool){x:AV}{l:List Int}(hx:Sl 1 (rows l) x)(hl:l.length<2000000) :
 limf env 105 [.agg [a8 k,aI u,a8 a_1,a8 a_2,a32 a_3,a8 a_4,aI a_5,a8 a_6,a32 a_7,a8 a_8,aI a_9,aI a_10,a8 a_11,a32 a_12,a8 a_13,aI a_14,a8 a_15,a32 a_16,x,aI c,aI g1,a8 v,a32 w,aB o]]=some (if ej ⟨k,u,(⟨a_1,⟨a_2,a_3,a_4⟩,a_5,⟨⟨⟨a_6,a_7,a_8⟩,a_9⟩,a_10⟩,⟨⟨a_11,a_12,a_13⟩,a_14⟩,⟨a_15,a_16⟩,l⟩:Opn),c,g1,v,w,o⟩ then .tup [aI (recN ⟨k,u,(⟨a_1,⟨a_2,a_3,a_4⟩,a_5,⟨⟨⟨a_6,a_7,a_8⟩,a_9⟩,a_10⟩,⟨⟨a_11,a_12,a_13⟩,a_14⟩,⟨a_15,a_16⟩,l⟩:Opn),c,g1,v,w,o⟩),aI 0] else .tup [aI 0,aI 8]):=by
 refine aH (fn:=Tryz.f105) (c:=ra) rfl (by kernel_rfl) (by kernel_rfl) (by kernel_rfl) (by kernel_rfl) ?_;refine xd _ _ _ fun g=>?_
 have hB:=zR k u a_1 a_2 a_3 a_4 a_5 a_6 a_7 a_8 a_9 a_10 a_11 a_12 a_13 a_14 a_15 a_16 c g1 v w o hx hl
 have hr:=hx.r
 have hz := @Jd ⟨k,u,(⟨a_1,⟨a_2,a_3,a_4⟩,a_5,⟨⟨⟨a_6,a_7,a_8⟩,a_9⟩,a_10⟩,⟨⟨a_11,a_12,a_13⟩,a_14⟩,⟨a_15,a_16⟩,l⟩:Opn),c,g1,v,w,o⟩
 have hlen := @AW ⟨k,u,(⟨a_1,⟨a_2,a_3,a_4⟩,a_5,⟨⟨⟨a_6,a_7,a_8⟩,a_9⟩,a_10⟩,⟨⟨a_11,a_12,a_13⟩,a_14⟩,⟨a_15,a_16⟩,l⟩:Opn),c,g1,v,w,o⟩
 have hN:recN ⟨k,u,(⟨a_1,⟨a_2,a_3,a_4⟩,a_5,⟨⟨⟨a_6,a_7,a_8⟩,a_9⟩,a_10⟩,⟨⟨a_11,a_12,a_13⟩,a_14⟩,⟨a_15,a_16⟩,l⟩:Opn),c,g1,v,w,o⟩=((recB ⟨k,u,(⟨a_1,⟨a_2,a_3,a_4⟩,a_5,⟨⟨⟨a_6,a_7,a_8⟩,a_9⟩,a_10⟩,⟨⟨a_11,a_12,a_13⟩,a_14⟩,⟨a_15,a_16⟩,l⟩:Opn),c,g1,v,w,o⟩).length+118) / 119:=rfl
 cases hI:ej ⟨k,u,(⟨a_1,⟨a_2,a_3,a_4⟩,a_5,⟨⟨⟨a_6,a_7,a_8⟩,a_9⟩,a_10⟩,⟨⟨a_11,a_12,a_13⟩,a_14⟩,⟨a_15,a_16⟩,l⟩:Opn),c,g1,v,w,o⟩ with
 | false =>
  rw[hI]at hB
  generalize hzz:recZ ⟨k,u,(⟨a_1,⟨a_2,a_3,a_4⟩,a_5,⟨⟨⟨a_6,a_7,a_8⟩,a_9⟩,a_10⟩,⟨⟨a_11,a_12,a_13⟩,a_14⟩,⟨a_15,a_16⟩,l⟩:Opn),c,g1,v,w,o⟩=z at *
  clear hz hlen hN
  have hc:z = .isl 1 [a8 k] (some 1) ∨∃es,z = .isl 1 es none:=by
   rw[←hzz];unfold recZ
   split
   ·exact .inr ⟨_,rfl⟩
   ·split
    ·exact .inr ⟨_,rfl⟩
    ·split
     ·split
      ·exact .inr ⟨_,rfl⟩
      ·exact .inl rfl
     ·exact .inl rfl
  clear hzz
  rcases hc with rfl | ⟨es,rfl⟩<;>simp[af,ah,ad,ae,aa, *,nH]
 | true =>
  rw[hz hI,hI]at hB
  have hb:(recB ⟨k,u,(⟨a_1,⟨a_2,a_3,a_4⟩,a_5,⟨⟨⟨a_6,a_7,a_8⟩,a_9⟩,a_10⟩,⟨⟨a_11,a_12,a_13⟩,a_14⟩,⟨a_15,a_16⟩,l⟩:Opn),c,g1,v,w,o⟩).length≤1000:=by
   rcases hlen hI with ⟨_,e⟩ | ⟨_,e,ho⟩ | ⟨_,e⟩
   ·omega
   ·have:=tB ho;omega
   ·omega
  rw[hN]
  clear hz hlen hN
  generalize recB ⟨k,u,(⟨a_1,⟨a_2,a_3,a_4⟩,a_5,⟨⟨⟨a_6,a_7,a_8⟩,a_9⟩,a_10⟩,⟨⟨a_11,a_12,a_13⟩,a_14⟩,⟨a_15,a_16⟩,l⟩:Opn),c,g1,v,w,o⟩=bs at *
  have w1:=IntWalk.i64_in ((bs.length:Int)+119) (by omega)
  have w2:=IntWalk.i64_in ((bs.length:Int)+119 - 1) (by omega)
  have e1:((bs.length:Int)+119 - 1)=bs.length+118:=by omega
  have hq:=fun t xo yo=>L5 env.P t xo yo .i64 ((bs.length:Int)+118) 119 (by decide)
  have e2:((bs.length:Int)+118).tdiv 119=(((bs.length+118) / 119:Nat):Int):=by
   rw[Int.tdiv_eq_ediv_of_nonneg (by omega)];omega
  rw[e2,IntWalk.i64_in _ (by omega)]at hq
  rw[e1]at w2
  simp[af,ah,ad,ae,aa, *,nH]
end Go.Proofs.YtiidajnodhkidaaGreat
namespace Go.Ab
def lpO(o:Option Blk):Option (Nat × AV):=match o with
 | some ⟨0,[.v (.int .i64 st),inf],_,_⟩=>some (st.toNat,inf)
 | _=>none
theorem nj(H:Heap)(r:Ref):lpAt H r=lpO (H.get r):=rfl
@[simp] theorem tV(st:Nat)(inf:AV):lpO (some (fa st inf))=some (st,inf):=by
 simp[lpO,fa]
theorem M9(inf:AV)(K:AV→Prop)(m:Mk K):bgP (some (0,inf)) K m↔K inf:=by
 constructor
 ·rintro⟨info,e,h⟩
  simp only[Option.some.injEq,Prod.mk.injEq,true_and]at e
  subst e;exact h
 ·intro h;exact⟨inf,rfl,h⟩
attribute [simp] M9
theorem Mt(H:Heap)(r:Ref)(st:Nat)(inf:AV):lpAt (H.put r (some (fa st inf))) r=some (st,inf):=by
 rw[nj,Heap.aj,if_pos rfl,tV]
theorem C9{E:Env}{fn:Func}{dep nt:Nat}{r:Ref}{f:FuncId}{ps:List Tmp}{assign body:Code}{tm:List AV}{args:List AV}{H:Heap}{Q:AV→Heap→Prop}
 (hl:H.get r=some (fa 0 (.lp f nt ps assign body tm))) (hn:fn.ntmps=nt) (hp:args.length=ps.length) (hps:ps.all (· < nt)=true) (ha:codeOk E.ok assign=true) (hb:codeOk E.ok body=true)
 (h:Goes E fn (some r) (dep+1) [.code assign,.beginRound,.code body] (tget (qF tm ps args)) H fun x H'=>x = .v (.int .i64 0) ∧∃info,H'.get r=some (fa 1 info)∧Q (.v (.bool true)) (H'.put r (some (fa 0 info)))) :
 ∃y H',limt E dep (.yld r) args H=some (y,H')∧Q y H':=by
 refine Mx (by rw[nj,hl];exact tV _ _) hn hp hps ha hb ?_
 intro tm' ht
 obtain⟨y,H',⟨rfl,info,h1,hQ⟩,n,hn⟩:=h tm' ht
 exact⟨_,H',⟨0,rfl,info,_,by rw[nj,h1];exact tV _ _,rfl,Mt _ _ _ _,fun _=>hQ,fun h=>absurd h (by decide),by decide⟩,n,hn⟩
theorem wP{s:fM}{l:List (Nat × AV)}(h : ∀p∈l,s p.1=p.2):ofL s l=s:=by
 induction l with
 | nil=>rfl
 | cons p l ih =>
  obtain⟨j,v⟩:=p
  funext i
  show cond (Nat.beq i j) v (ofL s l i)=s i
  rw[ih fun p hp=>h p (List.mem_cons_of_mem _ hp)]
  cases hb:Nat.beq i j with
  | false=>rfl
  | true =>
   have:=Nat.eq_of_beq_eq_true hb
   subst this
   exact(h _ (List.mem_cons_self ..)).symm
@[simp] theorem Oh(r:Ref)(o n:Nat)(c:Option Nat)(y:AV):fN [AV.osl r o n c] 0 0 [y]=some [y]:=id rfl
@[simp] theorem RP(x:Value)(y:AV):fN [AV.v x] 0 0 [y]=some [y]:=id rfl
theorem ta{E:Env}(dep:Nat)(H:Heap)(r q:Ref)(args:List AV):cl E true (limf E) (limt E dep) H r (some (.yld q)) args=limt E dep (.yld q) args H:=by
 simp[cl,kj,nRes,orW,mc]
end Go.Ab
namespace Go.Proofs.YtiidajnodhkidaaGreat
open Go.Ab
attribute [local simp] ct bK bO bN keep thr cC bD bP eE eD cN cB aV dk List.take_of_length_le
def idG(bs:List UInt8):Idd:=if idB (kY bs) then kY bs else pj
def xP(bs:List UInt8)(zero:Bool):Bool := !idB (kY bs) && !(zero&&decide (bs=List.replicate 13 0))
structure Ti (H H':Heap) (r:Ref) (x:AV) (bs:List UInt8) (a:Nat) (b:Bool) (y:AV):Prop where
 val:y = .agg [a8 (idG bs).h.lv,a32 (idG bs).h.cats,a8 (idG bs).h.num,aI (idG bs).n]
 fr:Fr H'
 box:H'.get r=some (tG x a b)
 old : ∀q c,q≠r→H.get q=some c→H'.get q=some c
theorem xh(dep:Nat){H:Heap}{r:Ref}{x:AV}{l:List UInt8}{a:Nat}{b:Bool}(n:Nat){i:Int}{K:AV→Heap→Prop}{m:Mk K}(hi:i=n)(hx:Sl 1 (by8 l) x)(ha:a≤l.length)(hl:l.length<1000000000)(hn:n<1000000)
 (hF:Fr H) (hb:H.get r=some (tG x a b)) (h : ∀y v H',Tk H H' r x l (tkL l a b n) (tkA l a b n) (tkB l a b n) y v→K y H'):doW (limt env dep (.fn 194) [.ptr r 0 0,aI i] H) K m:=by
 subst hi
 obtain⟨y,H',hy,v,hk⟩:=OD dep n hF hx hb ha hl hn
 exact Ds hy (h y v H' hk)
theorem Xd(dep:Nat){H:Heap}{r:Ref}{x:AV}{l:List UInt8}{a:Nat}{b:Bool}(zero:Bool)(hF:Fr H)(hx:Sl 1 (by8 l) x)(hb:H.get r=some (tG x a b))(ha:a≤l.length)(hl:l.length<1000000000) :
 ∃y H',limt env dep (.fn 195) [.ptr r 0 0,aB zero] H=some (y,H')∧Ti H H' r x (tkL l a b 13) (tkA l a b 13) (tkB l a b 13||xP (tkL l a b 13) zero) y:=by
 refine rD (fn:=Tryz.f195) (c:=iQ) (by kernel_rfl) (by kernel_rfl) (by kernel_rfl) (by kernel_rfl) (by kernel_rfl) ?_
 refine mg _ _ _ _ _ fun g=>?_
 have l1:(H.get r).isSome=true:=by rw[hb];rfl
 have hT:=yi (f:=194) (by kernel_rfl)
 simp[af,ah,ad,ae,aa, *,eu,hT, -bK]
 refine xh (dep+1) 13 rfl hx ha hl (by omega) (by simp(maxDischargeDepth:=12) [Heap.aj,aD,ar,Fr.nil,aP,af,ah,ad,ae,aF,aq,aa, *]) (by rw[Heap.gV,if_neg (mo hF l1 _ _ _)];exact hb) fun y v H1 hk=>?_
 obtain⟨hs,fr,hbox,old,spot⟩:=hk
 have hlen:=sP (l:=l) (a:=a) b 13
 have hG:=TG hs.sl hlen
 have hE:limf env 87 [v,.isl 1 [a8 0,a8 0,a8 0,a8 0,a8 0,a8 0,a8 0,a8 0,a8 0,a8 0,a8 0,a8 0,a8 0] none]=some (aB (decide (tkL l a b 13=List.replicate 13 0))):=wK hs.sl (Sl.mk 1 (by8 (List.replicate 13 0)))
 have h1:=old ⟨dep+1,4,H.gen (dep+1) 4,0⟩ ⟨4,[.agg [a8 0,a32 0,a8 0,aI 0]],false,false⟩ (mo hF l1 _ _ _) (by simp)
 have n1:(⟨dep+1,4,H.gen (dep+1) 4,0⟩:Ref)≠r:=mo hF l1 _ _ _
 have n2:=n1.symm
 have l2:(H1.get r).isSome=true:=by rw[hbox];rfl
 have l3:(H1.get ⟨dep+1,4,H.gen (dep+1) 4,0⟩).isSome=true:=by rw[h1];rfl
 unfold tG at hbox
 have hfin : ∀(Hx:Heap)(y:AV)(z:Bool),y = .agg [a8 (idG (tkL l a b 13)).h.lv,a32 (idG (tkL l a b 13)).h.cats,a8 (idG (tkL l a b 13)).h.num,aI (idG (tkL l a b 13)).n]→Fr Hx→Hx.get r=some ⟨3,[.agg [x,aI (tkA l a b 13),aB z]],false,false⟩ →
  (∀q c,q≠r→q≠⟨dep+1,4,H.gen (dep+1) 4,0⟩→H1.get q=some c→Hx.get q=some c)→Ti H Hx r x (tkL l a b 13) (tkA l a b 13) z y:=by
  intro Hx y z hy hFx hbx ho
  refine⟨hy,hFx,hbx,fun q c hq hc=>?_⟩
  have nq:q≠⟨dep+1,4,H.gen (dep+1) 4,0⟩:=fun e=>mo hF (by rw[hc];rfl) _ _ _ e.symm
  exact ho q c hq nq (old q c hq (by rw[Heap.gV,if_neg (fun e=>nq e.symm)];exact hc))
 have e1:idG (tkL l a b 13)=if idB (kY (tkL l a b 13)) then kY (tkL l a b 13) else pj:=rfl
 have e2:xP (tkL l a b 13) zero=(!idB (kY (tkL l a b 13)) && !(zero&&decide (tkL l a b 13=List.replicate 13 0))):=rfl
 generalize tkL l a b 13=bs at *
 generalize tkA l a b 13=a' at *
 generalize tkB l a b 13=b' at *
 clear ha old
 generalize decide (bs=List.replicate 13 0)=dz at *
 generalize hi:kY bs=i at *
 obtain⟨⟨k1,k2,k3⟩,k4⟩:=i
 rcases hs with ⟨rfl,hs⟩ | ⟨q,c,fz,rfl,hq,rfl,hc⟩
 ·have hr:=hs.r
  cases hI:idB ⟨⟨k1,k2,k3⟩,k4⟩<;>cases zero<;>cases b'
  all_goals simp[af,ah,ad,ae,aa, *,eu,pj]
  all_goals
   refine hfin _ _ _ ?_ (by simp(maxDischargeDepth:=12) [Heap.aj,aD,ar,Fr.nil,aP,af,ah,ad,ae,aF,aq,aa, *]) ?_ ?_
   ·simp[e1,hI,pj]
   ·simp[Heap.aj,af,ah, *]
   ·intro q c hq hq1 hc
    have l5:(H1.get q).isSome=true:=by rw[hc];rfl
    have hq':=hq.symm
    have hq1':=hq1.symm
    simp[Heap.aj,af,ah, *]
 ·have l4:(H1.get q).isSome=true:=by rw[hq];rfl
  cases hI:idB ⟨⟨k1,k2,k3⟩,k4⟩<;>cases zero<;>cases b'
  all_goals simp[af,ah,ad,ae,aa, *,eu,pj]
  all_goals
   refine hfin _ _ _ ?_ (by simp(maxDischargeDepth:=12) [Heap.aj,aD,ar,Fr.nil,aP,af,ah,ad,ae,aF,aq,aa, *]) ?_ ?_
   ·simp[e1,hI,pj]
   ·simp[Heap.aj,af,ah, *]
   ·intro q c hq hq1 hc
    have l5:(H1.get q).isSome=true:=by rw[hc];rfl
    have hq':=hq.symm
    have hq1':=hq1.symm
    simp[Heap.aj,af,ah, *]
end Go.Proofs.YtiidajnodhkidaaGreat
