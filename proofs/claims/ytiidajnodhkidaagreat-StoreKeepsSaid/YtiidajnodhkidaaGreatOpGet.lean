/-
  What op.Get answers. No statement of a seat is proved here.
-/
import Derived.Test.YtiidajnodhkidaaGreatRuGet
set_option linter.unusedVariables false
set_option linter.unusedSimpArgs false
set_option linter.unusedSectionVars false
set_option linter.unnecessarySimpa false
set_option maxRecDepth 100000
namespace Go.Proofs.YtiidajnodhkidaaGreat
open Go.Ab
attribute [local simp] ct bK bO bN keep thr cC bD bP eE eD cN cB aV dk List.take_of_length_le
theorem id_w(dep:Nat){H:Heap}{r:Ref}{x:AV}{l:List UInt8}{a:Nat}{b:Bool}(zero:Bool){K:AV→Heap→Prop}{m:Mk K}(hx:Sl 1 (by8 l) x)(ha:a≤l.length)(hl:l.length<1000000000)
 (hF:Fr H) (hb:H.get r=some (tG x a b)) (h : ∀y H',Ti H H' r x (tkL l a b 13) (tkA l a b 13) (tkB l a b 13||xP (tkL l a b 13) zero) y→K y H'):doW (limt env dep (.fn 195) [.ptr r 0 0,.v (.bool zero)] H) K m:=by
 obtain⟨y,H',hy,hk⟩:=Xd dep zero hF hx hb ha hl
 exact Ds hy (h y H' hk)
theorem Tk.pick{H H':Heap}{r:Ref}{x:AV}{l bs:List UInt8}{a:Nat}{b:Bool}{y v:AV}(hk:Tk H H' r x l bs a b y v)(i:Nat){j:Int}(hj:j=i)(hi:i<bs.length) :
 ∃p,ax env.P H'.get 76 (some y) (some (.v (.int .i64 j)))=some (p,[])∧ak env.P H'.get 5 (some p)=some (a8 (bs.getD i 0),[])∧(∀r i j,r.t≠31→p9 p (.ptr r i j)=true)∧(∀r i j,r.t≠31→p9 y (.ptr r i j)=true):=by
 subst hj
 obtain⟨seen,fr,box,old,spot⟩:=hk
 have hg:bs[i]?=some (bs.getD i 0):=by simp[hi]
 have hi2:(i:Int)<bs.length:=by omega
 rcases seen with ⟨rfl,hs⟩ | ⟨q,c,fz,rfl,hq,rfl,hc⟩
 ·obtain⟨cp,rfl,hc⟩:=qE hs (by simp;omega)
  refine⟨.iptr 1 (by8 bs) i 0,?_,?_,fun _ _ _ _=>rfl,fun _ _ _ _=>rfl⟩
  ·simp[hi]
  ·simp[by8,hi]
 ·have h31:=spot q rfl
  refine⟨.ptr q i 0,?_,?_,fun r i j hr=>?_,fun r i j hr=>?_⟩
  ·simp[hq,hi]
  ·simp[by8,hi,hq]
  ·simp;rintro rfl;exact hr h31
  ·simp;rintro rfl;exact hr h31
theorem gps(H:Heap)(r:Ref)(c:Blk):(H.put r (some c)).get r=some c:=by rw[Heap.aj,if_pos rfl]
def hanG(bs:List UInt8):Han:=if iN (nO bs) then nO bs else ⟨0,0,0⟩
theorem Kj{v:AV}{l:List UInt8}(hv:Sl 1 (by8 l) v)(hl:l.length=6):limf env 175 [v]=some (.tup [.agg [a8 (hanG l).lv,a32 (hanG l).cats,a8 (hanG l).num],aI (bad (iN (nO l)))]):=by
 rw[ER hv hl]
 unfold hanG
 cases iN (nO l)<;>rfl
theorem OL(a b c:UInt8):orI (orI ((a.toNat:Int) * 65536) ((b.toNat:Int) * 256)) (c.toNat:Int)=val [a,b,c]:=by
 have ha:=a.toNat_lt
 have hb:=b.toNat_lt
 have hc:=c.toNat_lt
 have e1:=Ex (a:=(a.toNat:Int)) (b:=(b.toNat:Int) * 256) (k:=16) (by omega) (by omega) (by omega) (by omega) (by omega)
 simp only[Nat.reducePow,Int.reducePow]at e1
 rw[e1]
 have e2:=Ex (a:=(a.toNat:Int) * 256+b.toNat) (b:=(c.toNat:Int)) (k:=8) (by omega) (by omega) (by omega) (by omega) (by omega)
 simp only[Nat.reducePow,Int.reducePow]at e2
 have e3:(a.toNat:Int) * 65536+b.toNat * 256=((a.toNat:Int) * 256+b.toNat) * 256:=by omega
 rw[e3,e2]
 simp[val,valF]
 omega
def getZ:AV := .tup [.agg [a8 0,a8 0,a32 0,a8 0,aI 0,a8 0,a32 0,a8 0,aI 0,aI 0,a8 0,a32 0,a8 0,aI 0,a8 0,a32 0,aNil],aI 0,aI 8]
def opnV(o:Opn):List AV:=[a8 o.kind,a8 o.h.lv,a32 o.h.cats,a8 o.h.num,aI o.serial,a8 o.s.f.h.lv,a32 o.s.f.h.cats,a8 o.s.f.h.num,aI o.s.f.n,aI o.s.many,a8 o.a.h.lv,a32 o.a.h.cats,a8 o.a.h.num,aI o.a.n,a8 o.to.lv,a32 o.to.cats]
def mE(l:List UInt8):AV:=if xU l then .tup [.agg (opnV (rawO l)++[runG (rawO l).l]),aI (uT l),aI 0] else getZ
theorem yx{l:List UInt8}(h:24≤l.length→uT l≤l.length→opB (rawO l)=false):mE l=getZ:=by
 unfold mE
 rw[if_neg]
 intro hg
 simp only[xU,Bool.and_eq_true,decide_eq_true_eq]at hg
 rw[h hg.1 hg.2.1]at hg
 exact absurd hg.2.2 (by decide)
theorem lj{l:List UInt8}{a n:Nat}{b:Bool}(h:tkB l a b n=false):b=false∧a+n≤l.length∧tkA l a b n=a+n∧tkL l a b n=(l.drop a).take n:=by
 unfold tkA tkL
 rw[h]
 simp only[tkB,Bool.or_eq_false_iff,decide_eq_false_iff_not]at h
 exact⟨h.1,by omega,rfl,rfl⟩
theorem sO{l:List UInt8}{a n:Nat}(h:a+n≤l.length):tkB l a false n=false∧tkA l a false n=a+n∧tkL l a false n=(l.drop a).take n:=by
 have e:tkB l a false n=false:=by simp only[tkB,Bool.false_or,decide_eq_false_iff_not];omega
 obtain⟨_,_,h1,h2⟩:=lj e
 exact⟨e,h1,h2⟩
theorem z3(l:List UInt8)(n:Nat):((l.drop n).take 1).getD 0 0=(l.drop n).headD 0:=by
 cases l.drop n<;>rfl
theorem Pw{o:Opn}(h:iN o.h=false):opB o=false:=by simp[opB,h]
theorem JC{o:Opn}(h:qp o.s=false):opB o=false:=by simp[opB,h]
theorem Tj{o:Opn}(h:idB o.s.f=false):opB o=false:=JC (by simp[qp,h])
theorem JD{o:Opn}(h:mayB o=false):opB o=false:=by simp[opB,h]
theorem zT(l:List Int):runG l=aNil∨runG l = .isl 1 (rows l) none:=by
 unfold runG;split
 ·exact .inl rfl
 ·exact .inr rfl
theorem O3{l:List UInt8}{x:AV}(hx:Sl 1 (by8 l) x)(hl:l.length<1000000):limf env 176 [x]=some (mE l):=by
 refine aH (fn:=Tryz.f176) (c:=DL) rfl (by kernel_rfl) (by kernel_rfl) (by kernel_rfl) (by kernel_rfl) ?_;refine Ig _ _ _ fun g=>?_
 have hr:=hx.r
 have hT:=yi (f:=194) (by kernel_rfl)
 have hTi:=yi (f:=195) (by kernel_rfl)
 simp[af,ah,ad,ae,aa, *,DN,hT,hTi]
 refine xh 0 (a:=0) (b:=false) 1 rfl hx (Nat.zero_le _) (by omega) (by omega) (by simp(maxDischargeDepth:=12) [Heap.aj,aD,ar,Fr.nil,aP,af,ah,ad,ae,aF,aq,aa, *]) (by simp[tG]) fun y1 v1 H1 hk1=>?_
 obtain⟨p1,hp1,hl1,_⟩:=hk1.pick (j:=0) 0 rfl (by rw[sP];omega)
 have hb1:=hk1.old ⟨0,2,0,0⟩ _ (by decide) rfl
 have hF1:=hk1.fr
 have hr1:=hk1.box
 have ha1:=zL (l:=l) (a:=0) false 1 (Nat.zero_le _)
 clear hk1
 generalize hA1:tkA l 0 false 1=A1 at *
 generalize hB1:tkB l 0 false 1=B1 at *
 generalize hk0:(tkL l 0 false 1).getD 0 0=k at *
 simp[af,ah,ad,ae,aa, *,Heap.aj]
 have s1:(H1.get ⟨0,2,0,0⟩).isSome=true:=by rw[hb1];rfl
 refine xh 0 (a:=A1) (b:=B1) 6 rfl hx ha1 (by omega) (by omega) (by simp(maxDischargeDepth:=12) [Heap.aj,aD,ar,Fr.nil,aP,af,ah,ad,ae,aF,aq,aa, *]) (by simp(maxDischargeDepth:=12) [Heap.aj,aD,ar,Fr.nil,aP,af,ah,ad,ae,aF,aq,aa, *]) fun y2 v2 H2 hk2=>?_
 have hb2:=hk2.old ⟨0,2,0,0⟩ _ (by decide) (gps _ _ _)
 have hG:=Kj hk2.seen.sl (sP _ _)
 have hs2:=hk2.seen.r
 have hF2:=hk2.fr
 have hr2:=hk2.box
 have ha2:=zL (l:=l) B1 6 ha1
 clear hk2 hb1 hr1 hp1 hl1
 generalize hA2:tkA l A1 B1 6=A2 at *
 generalize hB2:tkB l A1 B1 6=B2 at *
 generalize hh2:hanG (tkL l A1 B1 6)=hh at *
 obtain⟨h_1,h_2,h_3⟩:=hh
 have s2:(H2.get ⟨0,2,0,0⟩).isSome=true:=by rw[hb2];rfl
 have s2r:(H2.get ⟨0,17,0,0⟩).isSome=true:=by rw[hr2];rfl
 generalize hf2:bad (iN (nO (tkL l A1 B1 6)))=f at *
 simp[af,ah,ad,ae,aa, *,Heap.aj]
 refine xh 0 (a:=A2) (b:=B2) 3 rfl hx ha2 (by omega) (by omega) (by simp(maxDischargeDepth:=12) [Heap.aj,aD,ar,Fr.nil,aP,af,ah,ad,ae,aF,aq,aa, *]) (by simp(maxDischargeDepth:=12) [Heap.aj,aD,ar,Fr.nil,aP,af,ah,ad,ae,aF,aq,aa, *]) fun y3 v3 H3 hk3=>?_
 have hb3:=hk3.old ⟨0,2,0,0⟩ _ (by decide) (by rw[Heap.gV,if_neg (by simp)];exact hb2)
 have hb8:=hk3.old ⟨0,8,H2.gen 0 8,0⟩ ⟨3,[.agg [a8 h_1,a32 h_2,a8 h_3]],false,false⟩ (by simp) (by simp)
 have hl3:=sP (l:=l) (a:=A2) B2 3
 obtain⟨p30,hp30,hv30,hn30,hny3⟩:=hk3.pick (j:=0) 0 rfl (by omega)
 obtain⟨p31,hp31,hv31,hn31,_⟩:=hk3.pick (j:=1) 1 rfl (by omega)
 obtain⟨p32,hp32,hv32,hn32,_⟩:=hk3.pick (j:=2) 2 rfl (by omega)
 have hF3:=hk3.fr
 have hr3:=hk3.box
 have ha3:=zL (l:=l) B2 3 ha2
 clear hk3 hb2 hr2 hs2 hG
 generalize hA3:tkA l A2 B2 3=A3 at *
 generalize hB3:tkB l A2 B2 3=B3 at *
 have s3:(H3.get ⟨0,2,0,0⟩).isSome=true:=by rw[hb3];rfl
 have s3r:(H3.get ⟨0,17,0,0⟩).isSome=true:=by rw[hr3];rfl
 obtain⟨b30,b31,b32,e3⟩ : ∃a b c,tkL l A2 B2 3=[a,b,c]:=by
  match h:tkL l A2 B2 3,hl3 with
  | [a,b,c],_=>exact⟨a,b,c,rfl⟩
 rw[e3]at hv30 hv31 hv32
 simp only[List.getD_cons_zero,List.getD_cons_succ]at hv30 hv31 hv32
 have w30:IntKind.i64.wrap ((b30.toNat:Int) * 65536)=(b30.toNat:Int) * 65536:=IntWalk.i64_in _ (by have:=b30.toNat_lt;omega)
 have w31:IntKind.i64.wrap ((b31.toNat:Int) * 256)=(b31.toNat:Int) * 256:=IntWalk.i64_in _ (by have:=b31.toNat_lt;omega)
 have wsr:=OL b30 b31 b32
 simp[af,ah,ad,ae,aa, *,Heap.aj,rA]
 refine⟨⟨rfl,rfl,rfl⟩,?_⟩
 refine id_w 0 (a:=A3) (b:=B3) false hx ha3 (by omega) (by simp(maxDischargeDepth:=12) [Heap.aj,aD,ar,Fr.nil,aP,af,ah,ad,ae,aF,aq,aa, *]) (by simp(maxDischargeDepth:=12) [Heap.aj,aD,ar,Fr.nil,aP,af,ah,ad,ae,aF,aq,aa, *]) fun y4 H4 hk4=>?_
 have hb4:=hk4.old ⟨0,2,0,0⟩ _ (by decide) (gps _ _ _)
 have hF4:=hk4.fr
 have hr4:=hk4.box
 have hy4:=hk4.val
 have ha4:=zL (l:=l) B3 13 ha3
 clear hk4 hb3 hr3 hb8 hp30 hp31 hp32 hv30 hv31 hv32 w30 w31 wsr hn30 hn31 hn32 hny3
 subst hy4
 generalize hA4:tkA l A3 B3 13=A4 at *
 generalize hB4:(tkB l A3 B3 13||xP (tkL l A3 B3 13) false)=B4 at *
 generalize hi4:idG (tkL l A3 B3 13)=fi at *
 obtain⟨⟨f_1,f_2,f_3⟩,f_4⟩:=fi
 have s4:(H4.get ⟨0,2,0,0⟩).isSome=true:=by rw[hb4];rfl
 have s4r:(H4.get ⟨0,17,0,0⟩).isSome=true:=by rw[hr4];rfl
 generalize hsr:val [b30,b31,b32]=sr at *
 simp[af,ah,ad,ae,aa, *,Heap.aj]
 refine xh 0 (a:=A4) (b:=B4) 1 rfl hx ha4 (by omega) (by omega) (by simp(maxDischargeDepth:=12) [Heap.aj,aD,ar,Fr.nil,aP,af,ah,ad,ae,aF,aq,aa, *]) (by simp(maxDischargeDepth:=12) [Heap.aj,aD,ar,Fr.nil,aP,af,ah,ad,ae,aF,aq,aa, *]) fun y5 v5 H5 hk5=>?_
 have hb5:=hk5.old ⟨0,2,0,0⟩ _ (by decide) (gps _ _ _)
 obtain⟨p5,hp5,hv5,_⟩:=hk5.pick (j:=0) 0 rfl (by rw[sP];omega)
 have hF5:=hk5.fr
 have hr5:=hk5.box
 have ha5:=zL (l:=l) B4 1 ha4
 clear hk5 hb4 hr4
 generalize hA5:tkA l A4 B4 1=A5 at *
 generalize hB5:tkB l A4 B4 1=B5 at *
 generalize hm5:(tkL l A4 B4 1).getD 0 0=m at *
 have s5:(H5.get ⟨0,2,0,0⟩).isSome=true:=by rw[hb5];rfl
 have s5r:(H5.get ⟨0,17,0,0⟩).isSome=true:=by rw[hr5];rfl
 have hmI:IntKind.i64.wrap (m.toNat:Int)=m.toNat:=IntWalk.i64_in _ (by have:=m.toNat_lt;omega)
 unfold tG at hr5
 clear s1 s2 s2r s3 s3r s4 s4r hF1 hF2 hF3 hF4
 have hnz:=fun n:Int=>show(aI n).at?=none from rfl
 cases B5 with
 | true =>
  have hans:mE l=getZ:=by
   refine yx fun h24 _=>Tj ?_
   obtain⟨c1,c2,c3⟩:=sO (l:=l) (a:=0) (n:=1) (by omega)
   rw[c1]at hB1;rw[c2]at hA1;subst hB1;subst hA1
   obtain⟨c1,c2,c3⟩:=sO (l:=l) (a:=0+1) (n:=6) (by omega)
   rw[c1]at hB2;rw[c2]at hA2;subst hB2;subst hA2
   obtain⟨c1,c2,c3⟩:=sO (l:=l) (a:=0+1+6) (n:=3) (by omega)
   rw[c1]at hB3;rw[c2]at hA3;subst hB3;subst hA3
   obtain⟨c1,c2,c3⟩:=sO (l:=l) (a:=0+1+6+3) (n:=13) (by omega)
   rw[c1,c3]at hB4;rw[c2]at hA4;subst hA4
   cases B4 with
   | true =>
    show idB (kY ((l.drop 10).take 13))=false
    simpa [xP] using hB4
   | false =>
    obtain⟨c1,c2,c3⟩:=sO (l:=l) (a:=0+1+6+3+13) (n:=1) (by omega)
    rw[c1]at hB5;cases hB5
  unfold getZ at hans
  simp[af,ah,ad,ae,aa, *,Heap.aj]
 | false =>
  obtain⟨rfl,t5,u5,d5⟩:=lj hB5
  obtain⟨t4,hid⟩:tkB l A3 B3 13=false∧xP (tkL l A3 B3 13) false=false:=by simpa using hB4
  obtain⟨rfl,q4,u4,d4⟩:=lj t4
  obtain⟨rfl,q3,u3,d3⟩:=lj hB3
  obtain⟨rfl,q2,u2,d2⟩:=lj hB2
  obtain⟨_,q1,u1,d1⟩:=lj hB1
  rw[u1]at hA1;subst hA1
  rw[u2]at hA2;subst hA2
  rw[u3]at hA3;subst hA3
  rw[u4]at hA4;subst hA4
  rw[u5]at hA5;subst hA5
  simp only[Nat.zero_add,Nat.reduceAdd]at *
  have hk:l.headD 0=k:=by rw[←hk0,d1];exact(z3 l 0).symm
  have hm:(l.drop 23).headD 0=m:=by rw[←hm5,d5];exact(z3 l 23).symm
  rw[d2]at hh2 hf2
  rw[d3]at e3
  rw[d4]at hi4 hid
  have hidt:idB (kY ((l.drop 10).take 13))=true:=by simpa [xP] using hid
  rw[idG,if_pos hidt]at hi4
  rw[←e3]at hsr
  clear d1 d2 d3 d4 d5 u1 u2 u3 u4 u5 hB1 hB2 hB3 hB4 hB5 hid t4 hl3 hk0 hm5 q1 q2 q3 q4 ha1 ha2 ha3 ha4 e3
  cases hHB:iN (nO ((l.drop 1).take 6)) with
  | false =>
   have hans:mE l=getZ:=yx fun _ _=>Pw hHB
   rw[hHB]at hf2
   subst hf2
   unfold getZ at hans
   clear hHB hidt hi4 hsr hh2 hk hm
   simp[af,ah,ad,ae,aa, *,Heap.aj,DM]
  | true =>
   rw[hHB]at hf2
   subst hf2
   rw[hanG,if_pos hHB]at hh2
   have hraw:rawO l=⟨k,⟨h_1,h_2,h_3⟩,sr,⟨⟨⟨f_1,f_2,f_3⟩,f_4⟩,(m.toNat:Int)⟩,if k=1 then kY ((l.drop 24).take 13) else pj,if k=3 then ⟨(l.drop 24).headD 0,u32 (val ((l.drop 25).take 4))⟩ else ⟨0,0⟩,
    if k=1 then words ((l.drop 37).take (4 * m.toNat)) else []⟩:=by
    unfold rawO;rw[hk,hm,hh2,hi4,hsr]
   have hsz:uT l=GO k m:=by unfold uT;rw[hk,hm]
   clear hHB hidt hi4 hsr hh2 hk hm
   by_cases h64:64<(m.toNat:Int)
   ·have hans:mE l=getZ:=yx fun _ _=>JC (by rw[hraw];simp only[qp,Bool.and_eq_false_iff,decide_eq_false_iff_not];exact .inr (.inr (.inl (by omega))))
    unfold getZ at hans
    clear hraw hsz
    simp[af,ah,ad,ae,aa, *,Heap.aj,wW]
   ·have h64':m.toNat≤64:=by omega
    by_cases hk1:k=1
    ·subst hk1
     simp[af,ah,ad,ae,aa, *,Heap.aj,wW]
     refine id_w 0 (a:=24) (b:=false) true hx t5 (by omega) (by simp(maxDischargeDepth:=12) [Heap.aj,aD,ar,Fr.nil,aP,af,ah,ad,ae,aF,aq,aa, *]) (by simp[Heap.aj,tG, *]) fun y6 H6 hk6=>?_
     have hb6:=hk6.old ⟨0,2,0,0⟩ _ (by decide) (gps _ _ _)
     have hF6:=hk6.fr
     have hr6:=hk6.box
     have hy6:=hk6.val
     have ha6:=zL (l:=l) false 13 t5
     clear hk6 hb5 hr5 hp5 hv5 s5 s5r hF5
     subst hy6
     generalize hL6:tkL l 24 false 13=L6 at *
     generalize hA6:tkA l 24 false 13=A6 at *
     generalize hB6:(tkB l 24 false 13||xP L6 true)=B6 at *
     generalize hi6:idG L6=ai at *
     obtain⟨⟨a_1,a_2,a_3⟩,a_4⟩:=ai
     have s6:(H6.get ⟨0,2,0,0⟩).isSome=true:=by rw[hb6];rfl
     have s6r:(H6.get ⟨0,17,0,0⟩).isSome=true:=by rw[hr6];rfl
     have w4:IntKind.i64.wrap (4 * (m.toNat:Int))=4 * (m.toNat:Int):=IntWalk.i64_in _ (by omega)
     simp[af,ah,ad,ae,aa, *,Heap.aj]
     refine xh 0 (a:=A6) (b:=B6) (4 * m.toNat) (by simp) hx ha6 (by omega) (by omega) (by simp(maxDischargeDepth:=12) [Heap.aj,aD,ar,Fr.nil,aP,af,ah,ad,ae,aF,aq,aa, *]) (by simp[Heap.aj, *]) fun y7 v7 H7 hk7=>?_
     have hb7:=hk7.old ⟨0,2,0,0⟩ _ (by decide) (gps _ _ _)
     have hl7:=sP (l:=l) (a:=A6) B6 (4 * m.toNat)
     have hF7:=hk7.fr
     have hr7:=hk7.box
     have hs7:=hk7.seen
     have hp7:=hk7.spot
     have hRG:=OZ hk7.seen.sl hl7 h64'
     clear hk7 hb6 hr6 s6 s6r hF6 w4
     unfold tG at hr7
     generalize hL7:tkL l A6 B6 (4 * m.toNat)=L7 at *
     generalize hA7:tkA l A6 B6 (4 * m.toNat)=A7 at *
     generalize hB7:tkB l A6 B6 (4 * m.toNat)=B7 at *
     have s7:(H7.get ⟨0,2,0,0⟩).isSome=true:=by rw[hb7];rfl
     have s7r:(H7.get ⟨0,17,0,0⟩).isSome=true:=by rw[hr7];rfl
     have hsz':uT l=37+4 * m.toNat:=by rw[hsz];rfl
     rw[if_pos rfl,if_neg (by decide),if_pos rfl]at hraw
     have hrv:=zT (words L7)
     cases B7 with
     | true =>
      have hans:mE l=getZ:=yx fun _ hh=>by
       rw[hsz']at hh
       obtain⟨c1,c2,c3⟩:=sO (l:=l) (a:=24) (n:=13) (by omega)
       rw[c1,Bool.false_or]at hB6
       rw[c2]at hA6
       subst hA6
       rw[c3]at hL6
       cases B6 with
       | false =>
        obtain⟨c1,c2,c3⟩:=sO (l:=l) (a:=24+13) (n:=4 * m.toNat) (by omega)
        rw[c1]at hB7;cases hB7
       | true =>
        simp only[xP,Bool.true_and,Bool.and_eq_true,Bool.not_eq_true',decide_eq_false_iff_not]at hB6
        refine JD ?_
        rw[hraw,hL6]
        have hz:=Hv (l:=L6) (by rw[←hL6];simp;omega)
        rw[decide_eq_false hB6.2]at hz
        simp[mayB,insB,hz,hB6.1]
      unfold getZ at hans
      clear hraw hsz hsz' hB6 hB7 hA6 hA7 hL6 hL7 h64' ha6
      by_cases hE:rowE (words L7)=0
      ·rw[if_pos hE]at hRG
       clear hE
       generalize words L7=ws at *
       rcases hs7 with ⟨rfl,hs7⟩ | ⟨q,cq,fz,rfl,hq,rfl,hcq⟩
       ·have hr7':=hs7.r
        rcases hrv with hrv | hrv<;>rw[hrv]at hRG<;>simp[af,ah,ad,ae,aa, *,Heap.aj]
       ·have nq:q≠⟨0,2,0,0⟩:=by intro e;have:=hp7 q rfl;rw[e]at this;cases this
        have nq2:q≠⟨0,17,0,0⟩:=by intro e;have:=hp7 q rfl;rw[e]at this;cases this
        have nq':=nq.symm
        have nq2':=nq2.symm
        rcases hrv with hrv | hrv<;>rw[hrv]at hRG<;>cases fz<;>simp[af,ah,ad,ae,aa, *,Heap.aj]
      ·rw[if_neg hE]at hRG
       clear hE hrv
       generalize words L7=ws at *
       rcases hs7 with ⟨rfl,hs7⟩ | ⟨q,cq,fz,rfl,hq,rfl,hcq⟩
       ·have hr7':=hs7.r
        simp[af,ah,ad,ae,aa, *,Heap.aj]
       ·have nq:q≠⟨0,2,0,0⟩:=by intro e;have:=hp7 q rfl;rw[e]at this;cases this
        have nq2:q≠⟨0,17,0,0⟩:=by intro e;have:=hp7 q rfl;rw[e]at this;cases this
        have nq':=nq.symm
        have nq2':=nq2.symm
        cases fz<;>simp[af,ah,ad,ae,aa, *,Heap.aj]
     | false =>
      obtain⟨rfl,q7,u7,d7⟩:=lj hB7
      obtain⟨t6,hid6⟩:tkB l 24 false 13=false∧xP L6 true=false:=by simpa using hB6
      obtain⟨_,q6,u6,d6⟩:=lj t6
      rw[u6]at hA6
      subst hA6
      rw[u7]at hA7
      subst hA7
      rw[d7]at hL7
      rw[d6]at hL6
      have hans:mE l=if opB (rawO l) then .tup [.agg (opnV (rawO l)++[runG (rawO l).l]),aI (37+4 * m.toNat:Nat),aI 0] else getZ:=by
       unfold mE xU
       rw[hsz']
       have h1:decide (24≤l.length)=true:=by simpa using t5
       have h2:decide (37+4 * m.toNat≤l.length)=true:=by simp only[decide_eq_true_eq];omega
       rw[h1,h2,Bool.true_and,Bool.true_and]
      have hai:kY L6=⟨⟨a_1,a_2,a_3⟩,a_4⟩:=by
       rw[←hi6,idG]
       split
       ·rfl
       ·rename_i hn
        have hn':idB (kY L6)=false:=by simpa using hn
        simp only[xP,hn',Bool.not_false,Bool.true_and,Bool.not_eq_false',decide_eq_true_eq]at hid6
        rw[hid6];rfl
      rw[hL6,hai,hL7]at hraw
      rw[hraw]at hans
      clear hraw hsz hsz' hB6 hB7 hL6 hL7 h64' ha6 hid6 hai d6 d7 u6 u7 t6 hi6
      by_cases hE:rowE (words L7)=0
      ·rw[if_pos hE]at hRG
       have hwl:(words L7).length<2000000:=by have:=(vv _ L7 hl7).2;have:=m.toNat_lt;omega
       have hC:=mZ 1 h_1 h_2 h_3 sr f_1 f_2 f_3 f_4 m.toNat a_1 a_2 a_3 a_4 0 0 (mi (words L7)) hwl
       clear hE hwl
       generalize words L7=ws at *
       cases hO:opB ⟨1,⟨h_1,h_2,h_3⟩,sr,⟨⟨⟨f_1,f_2,f_3⟩,f_4⟩,(m.toNat:Int)⟩,⟨⟨a_1,a_2,a_3⟩,a_4⟩,⟨0,0⟩,ws⟩ with
       | true =>
        simp only[hO,opnV,if_true]at hans
        rcases hrv with hrv | hrv<;>rw[hrv]at hRG hC hans
        all_goals
         rcases hs7 with ⟨rfl,hs7⟩ | ⟨q,cq,fz,rfl,hq,rfl,hcq⟩
         ·have hr7':=hs7.r
          simp[af,ah,ad,ae,aa, *,Heap.aj]
         ·have nq:q≠⟨0,2,0,0⟩:=by intro e;have:=hp7 q rfl;rw[e]at this;cases this
          have nq2:q≠⟨0,17,0,0⟩:=by intro e;have:=hp7 q rfl;rw[e]at this;cases this
          have nq':=nq.symm
          have nq2':=nq2.symm
          cases fz<;>simp[af,ah,ad,ae,aa, *,Heap.aj]
       | false =>
        simp only[hO,getZ]at hans
        rcases hrv with hrv | hrv<;>rw[hrv]at hRG hC
        all_goals
         rcases hs7 with ⟨rfl,hs7⟩ | ⟨q,cq,fz,rfl,hq,rfl,hcq⟩
         ·have hr7':=hs7.r
          simp[af,ah,ad,ae,aa, *,Heap.aj]
         ·have nq:q≠⟨0,2,0,0⟩:=by intro e;have:=hp7 q rfl;rw[e]at this;cases this
          have nq2:q≠⟨0,17,0,0⟩:=by intro e;have:=hp7 q rfl;rw[e]at this;cases this
          have nq':=nq.symm
          have nq2':=nq2.symm
          cases fz<;>simp[af,ah,ad,ae,aa, *,Heap.aj]
      ·rw[if_neg hE]at hRG
       have hz:opB ⟨1,⟨h_1,h_2,h_3⟩,sr,⟨⟨⟨f_1,f_2,f_3⟩,f_4⟩,(m.toNat:Int)⟩,⟨⟨a_1,a_2,a_3⟩,a_4⟩,⟨0,0⟩,words L7⟩=false:=JD (by
        have:rowB (words L7)=false:=by
         rw[Bool.eq_false_iff];intro h;exact hE ((CN _).2 h)
        simp[mayB,insB,this])
       rw[hz,if_neg (by decide)]at hans
       unfold getZ at hans
       clear hrv hz
       generalize words L7=ws at *
       rcases hs7 with ⟨rfl,hs7⟩ | ⟨q,cq,fz,rfl,hq,rfl,hcq⟩
       ·have hr7':=hs7.r
        simp[af,ah,ad,ae,aa, *,Heap.aj]
       ·have nq:q≠⟨0,2,0,0⟩:=by intro e;have:=hp7 q rfl;rw[e]at this;cases this
        have nq2:q≠⟨0,17,0,0⟩:=by intro e;have:=hp7 q rfl;rw[e]at this;cases this
        have nq':=nq.symm
        have nq2':=nq2.symm
        cases fz<;>simp[af,ah,ad,ae,aa, *,Heap.aj]
    ·by_cases hk3:k=3
     ·subst hk3
      simp[af,ah,ad,ae,aa, *,Heap.aj,wW]
      refine xh 0 (a:=24) (b:=false) 5 rfl hx t5 (by omega) (by omega) (by simp(maxDischargeDepth:=12) [Heap.aj,aD,ar,Fr.nil,aP,af,ah,ad,ae,aF,aq,aa, *]) (by simp[Heap.aj,tG, *]) fun y6 v6 H6 hk6=>?_
      have hb6:=hk6.old ⟨0,2,0,0⟩ _ (by decide) (gps _ _ _)
      have hl6:=sP (l:=l) (a:=24) false 5
      obtain⟨c1,c2,c3,c4,c5,e6⟩ : ∃a b c d e,tkL l 24 false 5=[a,b,c,d,e]:=by
       match h:tkL l 24 false 5,hl6 with
       | [a,b,c,d,e],_=>exact⟨a,b,c,d,e,rfl⟩
      have hF6:=hk6.fr
      have hr6:=hk6.box
      have hs6:=hk6.seen
      have hp6:=hk6.spot
      clear hk6 hb5 hr5 hp5 hv5 s5 s5r hF5
      rw[e6]at hs6
      unfold tG at hr6
      have s6:(H6.get ⟨0,2,0,0⟩).isSome=true:=by rw[hb6];rfl
      have s6r:(H6.get ⟨0,17,0,0⟩).isSome=true:=by rw[hr6];rfl
      have hBC:=fun cp=>I1 cp c1 c2 c3 c4 c5
      have hG6:=Kj (v := .isl 1 [a8 c1,a8 c2,a8 c3,a8 c4,a8 c5,a8 0] none) (l:=[c1,c2,c3,c4,c5,0]) (Sl.mk _ _) rfl
      have hho:nO [c1,c2,c3,c4,c5,0]=⟨c1,u32 (val [c2,c3,c4,c5]),0⟩:=rfl
      have hgo:hanG [c1,c2,c3,c4,c5,0]=if c1≤15 then ⟨c1,u32 (val [c2,c3,c4,c5]),0⟩ else ⟨0,0,0⟩:=by
       unfold hanG;rw[hho];simp[iN]
      have hhb:iN ⟨c1,u32 (val [c2,c3,c4,c5]),0⟩=decide (c1≤15):=by simp[iN]
      rw[hho,hhb]at hG6
      have hdr:tkB l 24 false 5=false→(l.drop 24).headD 0=c1∧(l.drop 25).take 4=[c2,c3,c4,c5]∧29≤l.length:=by
       intro hB
       obtain⟨_,q,_,d⟩:=lj hB
       rw[d]at e6
       have:l.drop 25=(l.drop 24).drop 1:=by rw[List.drop_drop]
       rw[this]
       match hd:l.drop 24,e6 with
       | a :: t,e6 =>
        have e7:a :: t.take 4=c1 :: [c2,c3,c4,c5]:=e6
        injection e7 with e8 e9
        exact⟨e8,e9,q⟩
      have hbad:tkB l 24 false 5=true→mE l=getZ:=fun hB=>yx fun _ hh=>by
       rw[hsz]at hh
       have:GO 3 m=29:=rfl
       simp only[tkB,Bool.false_or,decide_eq_true_eq]at hB
       omega
      generalize hB6:tkB l 24 false 5=B6 at *
      have hA6:B6=false→tkA l 24 false 5=29:=fun e=>(lj (hB6.trans e)).2.2.1
      generalize tkA l 24 false 5=A6 at *
      cases B6 with
      | true =>
       have hans:=hbad rfl
       unfold getZ at hans
       clear hraw hsz hdr hbad h64'
       rcases hs6 with ⟨rfl,hs6⟩ | ⟨q,cq,fz,rfl,hq,rfl,hcq⟩
       ·obtain⟨cp,rfl,hcp⟩:=qE hs6 (by simp)
        simp[af,ah,ad,ae,aa, *,Heap.aj,by8]
       ·have nq:q≠⟨0,2,0,0⟩:=by intro e;have:=hp6 q rfl;rw[e]at this;cases this
        have nq2:q≠⟨0,17,0,0⟩:=by intro e;have:=hp6 q rfl;rw[e]at this;cases this
        have nq':=nq.symm
        have nq2':=nq2.symm
        cases fz<;>simp[af,ah,ad,ae,aa, *,Heap.aj,by8]
      | false =>
       obtain⟨d1,d2,d3⟩:=hdr rfl
       obtain rfl:=hA6 rfl
       have hans:mE l=if opB (rawO l) then .tup [.agg (opnV (rawO l)++[runG (rawO l).l]),aI 29,aI 0] else getZ:=by
        have hs24:uT l=29:=by rw[hsz];rfl
        unfold mE xU
        rw[hs24]
        have h1:decide (24≤l.length)=true:=by simpa using t5
        have h2:decide (29≤l.length)=true:=by simpa using d3
        rw[h1,h2,Bool.true_and,Bool.true_and]
        rfl
       rw[d1,d2,if_neg (by decide),if_pos rfl,if_neg (by decide)]at hraw
       rw[hraw]at hans
       clear hraw hsz hdr hbad h64' d1 d2 d3 hA6
       by_cases h15:c1≤15
       ·rw[if_pos h15]at hgo
        rw[hgo,decide_eq_true h15,wW]at hG6
        clear hgo hho hhb h15
        generalize u32 (val [c2,c3,c4,c5])=cc at *
        have hC:=mZ 3 h_1 h_2 h_3 sr f_1 f_2 f_3 f_4 m.toNat 0 0 0 0 c1 cc (l:=[]) (x:=aNil) (.inl ⟨rfl,rfl⟩) (by simp)
        cases hO:opB ⟨3,⟨h_1,h_2,h_3⟩,sr,⟨⟨⟨f_1,f_2,f_3⟩,f_4⟩,(m.toNat:Int)⟩,⟨⟨0,0,0⟩,0⟩,⟨c1,cc⟩,[]⟩ with
        | true =>
         simp only[pj,hO,opnV,runG,if_true]at hans
         rcases hs6 with ⟨rfl,hs6⟩ | ⟨q,cq,fz,rfl,hq,rfl,hcq⟩
         ·obtain⟨cp,rfl,hcp⟩:=qE hs6 (by simp)
          simp[af,ah,ad,ae,aa, *,Heap.aj,by8]
         ·have nq:q≠⟨0,2,0,0⟩:=by intro e;have:=hp6 q rfl;rw[e]at this;cases this
          have nq2:q≠⟨0,17,0,0⟩:=by intro e;have:=hp6 q rfl;rw[e]at this;cases this
          have nq':=nq.symm
          have nq2':=nq2.symm
          cases fz<;>simp[af,ah,ad,ae,aa, *,Heap.aj,by8]
        | false =>
         simp only[pj,hO,getZ]at hans
         rcases hs6 with ⟨rfl,hs6⟩ | ⟨q,cq,fz,rfl,hq,rfl,hcq⟩
         ·obtain⟨cp,rfl,hcp⟩:=qE hs6 (by simp)
          simp[af,ah,ad,ae,aa, *,Heap.aj,by8]
         ·have nq:q≠⟨0,2,0,0⟩:=by intro e;have:=hp6 q rfl;rw[e]at this;cases this
          have nq2:q≠⟨0,17,0,0⟩:=by intro e;have:=hp6 q rfl;rw[e]at this;cases this
          have nq':=nq.symm
          have nq2':=nq2.symm
          cases fz<;>simp[af,ah,ad,ae,aa, *,Heap.aj,by8]
       ·have hz:opB ⟨3,⟨h_1,h_2,h_3⟩,sr,⟨⟨⟨f_1,f_2,f_3⟩,f_4⟩,(m.toNat:Int)⟩,pj,⟨c1,u32 (val [c2,c3,c4,c5])⟩,[]⟩=false:=JD (by simp[mayB,raiB,h15])
        rw[hz,if_neg (by decide)]at hans
        unfold getZ at hans
        rw[if_neg h15]at hgo
        rw[hgo,decide_eq_false h15,DM]at hG6
        clear hgo hho hhb h15 hz
        rcases hs6 with ⟨rfl,hs6⟩ | ⟨q,cq,fz,rfl,hq,rfl,hcq⟩
        ·obtain⟨cp,rfl,hcp⟩:=qE hs6 (by simp)
         simp[af,ah,ad,ae,aa, *,Heap.aj,by8]
        ·have nq:q≠⟨0,2,0,0⟩:=by intro e;have:=hp6 q rfl;rw[e]at this;cases this
         have nq2:q≠⟨0,17,0,0⟩:=by intro e;have:=hp6 q rfl;rw[e]at this;cases this
         have nq':=nq.symm
         have nq2':=nq2.symm
         cases fz<;>simp[af,ah,ad,ae,aa, *,Heap.aj,by8]
     ·have hans:mE l=if opB (rawO l) then .tup [.agg (opnV (rawO l)++[runG (rawO l).l]),aI 24,aI 0] else getZ:=by
       have hs24:uT l=24:=by rw[hsz];unfold GO;rw[if_neg hk1,if_neg hk3]
       unfold mE xU
       rw[hs24]
       have:decide (24≤l.length)=true:=by simpa using t5
       rw[this,Bool.true_and,Bool.true_and]
       rfl
      rw[if_neg hk1,if_neg hk3,if_neg hk1]at hraw
      rw[hraw]at hans
      clear hraw hsz h64'
      have hC:=mZ k h_1 h_2 h_3 sr f_1 f_2 f_3 f_4 m.toNat 0 0 0 0 0 0 (l:=[]) (x:=aNil) (.inl ⟨rfl,rfl⟩) (by simp)
      cases hO:opB ⟨k,⟨h_1,h_2,h_3⟩,sr,⟨⟨⟨f_1,f_2,f_3⟩,f_4⟩,(m.toNat:Int)⟩,⟨⟨0,0,0⟩,0⟩,⟨0,0⟩,[]⟩ with
      | true =>
       simp only[pj,hO,opnV,runG,if_true]at hans
       simp[af,ah,ad,ae,aa, *,Heap.aj]
      | false =>
       simp only[pj,hO,getZ]at hans
       simp[af,ah,ad,ae,aa, *,Heap.aj]
end Go.Proofs.YtiidajnodhkidaaGreat
