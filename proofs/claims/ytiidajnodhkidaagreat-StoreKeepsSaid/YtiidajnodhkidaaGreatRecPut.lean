/-
  Records: what record.Put answers. No statement of a seat is proved here.
-/
import Derived.Test.YtiidajnodhkidaaGreatRecIo
import Derived.Test.YtiidajnodhkidaaGreatMRdFns3
set_option linter.unusedVariables false
set_option linter.unusedSimpArgs false
set_option linter.unusedSectionVars false
set_option linter.unnecessarySimpa false
set_option maxRecDepth 100000
namespace Go.Proofs.YtiidajnodhkidaaGreat
open Go.Ab
attribute [local simp] ct bK bO bN keep thr cC bD bP eE eD cN cB aV dk List.take_of_length_le
@[simp] theorem WX(m:Nat):pcs m []=[]:=by cases m<;>rfl
theorem Ew{r r6 r10 r5 r4:Ref}{tm:List AV}{st nu of:Int}(h0:0≤st)(h1:0≤nu)(t6:tget tm 6 = .ptr r6 0 0)(t10:tget tm 10 = .ptr r10 0 0)(t5:tget tm 5 = .ptr r5 0 0)(t4:tget tm 4 = .ptr r4 0 0)
 {bs:List UInt8} {x:AV} (hx:Sl 1 (by8 bs) x) (hl:bs.length<100000) {Q:AV→Heap→Prop} :
 ∀(m k:Nat)(s:List UInt8)(i:Int)(out:List (List UInt8)) (H:Heap),bs.drop k=s→s.length≤119 * m→k<200000→i=k→out.length≤k →
 PInv r r6 r10 r5 r4 (.lp 0 58 [35] bA bx tm) st nu of H out →
 (∀y H',PInv r r6 r10 r5 r4 (.lp 0 58 [35] bA bx tm) st nu of H' (out++oU st nu of out.length (pcs m s))→Q y H') →
 GoL env Tryz.f145 (0+1) cF [(2,.iptr 1 [aI 119] 0 0),(4,aI i),(1,.iptr 1 [x] 0 0),(0,.yld r)] H Q:=by
 intro m
 have nil : ∀(m k:Nat)(out:List (List UInt8)) (H:Heap),bs.drop k=[] →
  (∀y H',PInv r r6 r10 r5 r4 (.lp 0 58 [35] bA bx tm) st nu of H' (out++oU st nu of out.length (pcs m []))→Q y H')→PInv r r6 r10 r5 r4 (.lp 0 58 [35] bA bx tm) st nu of H out →
  GoL env Tryz.f145 (0+1) cF [(2,.iptr 1 [aI 119] 0 0),(4,aI k),(1,.iptr 1 [x] 0 0),(0,.yld r)] H Q:=by
  intro m k out H hs hQ hI
  have hd:=congrArg List.length hs
  rw[List.length_drop,List.length_nil]at hd
  have hd2 : ¬(k:Int)<bs.length:=by omega
  have hlen:=hx.r
  refine de _ _ _ _ _ _ _ fun g=>?_
  simp[af,ah,ad,ae,aa, *,cG]
  exact hQ _ _ (by simpa [oU] using hI)
 induction m with
 | zero =>
  rintro k s i out H hs hm hk rfl ho hI hQ
  obtain rfl:s=[]:=List.length_eq_zero_iff.1 (by omega)
  exact nil 0 k out H hs hQ hI
 | succ m ih =>
  rintro k s i out H hs hm hk rfl ho hI hQ
  by_cases hse:s=[]
  ·subst hse;exact nil (m+1) k out H hs hQ hI
  have hd:=congrArg List.length hs
  rw[List.length_drop]at hd
  have hpos:0<s.length:=List.length_pos_iff.2 hse
  have hne:0<(by8 bs).length:=by simp;omega
  obtain⟨cp,rfl,hcp⟩:=qE hx hne
  rw[nB]at hcp
  have hs':bs.drop (k+119)=s.drop 119:=by rw[←List.drop_drop,hs]
  have e1:(k:Int)<bs.length:=by omega
  have hpc:pcs (m+1) s=s.take 119 :: pcs m (s.drop 119):=by rw[pcs,if_neg hse]
  rw[hpc]at hQ
  clear nil hpc
  have hb8:(by8 bs).drop k=by8 s:=by rw[wV,hs]
  have w2:=IntWalk.i64_in ((k:Int)+119) (by omega)
  obtain⟨y,H',hy,rfl,hI'⟩:=Js h0 h1 t6 t10 t5 t4 hI (by omega) (s.take 119) (by simp;omega) (some (min 119 s.length)) (by simp)
  have hfin : ∀(y:AV)(H'':Heap),PInv r r6 r10 r5 r4 (.lp 0 58 [35] bA bx tm) st nu of H'' ((out++[rblk st nu of out.length (s.take 119)])++oU st nu of (out++[rblk st nu of out.length (s.take 119)]).length (pcs m (s.drop 119)))→Q y H'':=fun y H'' h=>hQ y H'' (by
   rw[List.append_assoc,List.length_append]at h
   simpa [oU] using h)
  have ih':=ih (k+119) (s.drop 119) ((k:Int)+119) (out++[rblk st nu of out.length (s.take 119)]) H' hs' (by rw[List.length_drop];omega) (by omega) (by simp) (by simp;omega) hI' hfin
  clear ih hQ hfin hI hI'
  by_cases h119:s.length<119
  ·have hmin:min 119 s.length=s.length:=by omega
   have htk:s.take 119=s:=List.take_of_length_le (by omega)
   rw[hmin,htk]at hy
   have c0:k≤bs.length:=by omega
   have c1:(s.length:Int)<119:=by omega
   have w1:IntKind.i64.wrap ((k:Int)+(s.length:Int))=bs.length:=by rw[IntWalk.i64_in _ (by omega)];omega
   have c2:(k:Int)≤bs.length:=by omega
   have c3:(bs.length:Int)≤cp.getD bs.length:=by omega
   refine de _ _ _ _ _ _ _ fun g=>?_
   clear hcp
   simp[af,ah,ad,ae,aa, *,cG,ta]
  ·have hmin:min 119 s.length=119:=by omega
   rw[hmin]at hy
   have c0:k≤bs.length:=by omega
   have c3 : ¬(s.length:Int)<119:=by omega
   have c4:(k:Int)+119≤cp.getD bs.length:=by omega
   have c5:(k:Int)+119≤bs.length:=by omega
   have c6:((k:Int)+119).toNat - k=119:=by omega
   have c7:List.take 119 (by8 s)=by8 (s.take 119):=BX _ _
   have c8:(k:Int)≤k+119:=by omega
   refine de _ _ _ _ _ _ _ fun g=>?_
   clear hcp
   simp[af,ah,ad,ae,aa, *,cG,ta]
theorem Hi{r r6 r10 r5 r4:Ref}{tm:List AV}{st nu of:Int}(h0:0≤st)(h1:0≤nu)(t6:tget tm 6 = .ptr r6 0 0)(t10:tget tm 10 = .ptr r10 0 0)(t5:tget tm 5 = .ptr r5 0 0)(t4:tget tm 4 = .ptr r4 0 0)
 {bs:List UInt8} {x:AV} (hx:Sl 1 (by8 bs) x) (hl:bs.length<100000) {m:Nat} (hm:bs.length≤119 * m) {H:Heap}
 (hI:PInv r r6 r10 r5 r4 (.lp 0 58 [35] bA bx tm) st nu of H []) :
 ∃y H',limt env 0 (.fn 145) [.yld r,.iptr 1 [x] 0 0,.iptr 1 [aI 119] 0 0] H=some (y,H')∧PInv r r6 r10 r5 r4 (.lp 0 58 [35] bA bx tm) st nu of H' (oU st nu of 0 (pcs m bs)):=by
 refine rD (fn:=Tryz.f145) (c:=dX) (by kernel_rfl) (by kernel_rfl) (by kernel_rfl) (by kernel_rfl) (by kernel_rfl) ?_
 refine il _ _ _ _ _ _ fun g=>?_
 simp[af,ah,ad,ae,aa, *,fB]
 exact Ew h0 h1 t6 t10 t5 t4 hx hl m 0 bs _ [] H rfl hm (by omega) rfl (by simp) hI (fun y H' h=>by simpa using h)
theorem SG:ga = .code (.rangeFunc (.tmp 34) #[35] bA bx) :: m8:=by kernel_rfl
theorem GW{bs:List UInt8}{x:AV}(hx:Sl 1 (by8 bs) x):limf env 107 [x,aI 119]=some (.fn (.func 145) [] [.iptr 1 [x] 0 0,.iptr 1 [aI 119] 0 0]):=by
 refine aH (fn:=Tryz.f107) (c:=fQ) rfl (by kernel_rfl) (by kernel_rfl) (by kernel_rfl) (by kernel_rfl) ?_;refine iY _ _ _ _ fun g=>?_
 have hr:=hx.r
 simp[af,ah,ad,ae,aa, *,fR]
def Rcd.val(r:Rcd)(x:AV):AV := .agg [a8 r.kind,aI r.user,a8 r.op.kind,a8 r.op.h.lv,a32 r.op.h.cats,a8 r.op.h.num,aI r.op.serial,a8 r.op.s.f.h.lv,a32 r.op.s.f.h.cats,a8 r.op.s.f.h.num,aI r.op.s.f.n,aI r.op.s.many,
 a8 r.op.a.h.lv,a32 r.op.a.h.cats,a8 r.op.a.h.num,aI r.op.a.n,a8 r.op.to.lv,a32 r.op.to.cats,x,aI r.code,aI r.gu,a8 r.gv,a32 r.gc,aB r.gok]
def dF(r:Rcd)(st nu:Int):List (List UInt8):=oU st nu (recN r) 0 (pcs 3 (recB r))
def Md(r:Rcd)(st nu:Int):AV:=if ej r then (if kZ st nu 0 (recN r) then .tup [.isl 1 (lS (dF r st nu)) none,aI 0] else .tup [aNil,aI 2]) else .tup [aNil,aI 8]
theorem xu{r:Rcd}(h:ej r=true):(recB r).length≤119 * 3∧8≤(recB r).length:=by
 rcases AW h with ⟨_,e⟩ | ⟨_,e,ho⟩ | ⟨_,e⟩
 ·omega
 ·have:=tB ho;omega
 ·omega
theorem LR{st nu of i:Int}{l:List (List UInt8)}(h:l≠[]):oU st nu of i l≠[]:=by
 cases l with
 | nil=>exact absurd rfl h
 | cons a l=>simp[oU]
theorem Ae{r:Rcd}(h:ej r=true)(st nu:Int):dF r st nu≠[]:=by
 refine LR ?_
 have:=(xu h).2
 rw[pcs,if_neg (by intro e;rw[e]at this;simp at this)]
 simp
theorem FN(r:Rcd){x:AV}(hx:Sl 1 (rows r.op.l) x)(hl:r.op.l.length<2000000)(st nu:Int):limf env 70 [r.val x,aI st,aI nu]=some (Md r st nu):=by
 refine aH (fn:=Tryz.f70) (c:=pJ) rfl (by kernel_rfl) (by kernel_rfl) (by kernel_rfl) (by kernel_rfl) ?_;refine AA _ _ _ _ _ fun g=>?_
 obtain⟨k,u,⟨a_1,⟨a_2,a_3,a_4⟩,a_5,⟨⟨⟨a_6,a_7,a_8⟩,a_9⟩,a_10⟩,⟨⟨a_11,a_12,a_13⟩,a_14⟩,⟨a_15,a_16⟩,l⟩,c,g1,v,w,o⟩:=r
 simp only at hx hl
 have hB:=zR k u a_1 a_2 a_3 a_4 a_5 a_6 a_7 a_8 a_9 a_10 a_11 a_12 a_13 a_14 a_15 a_16 c g1 v w o hx hl
 have hC:=zQ k u a_1 a_2 a_3 a_4 a_5 a_6 a_7 a_8 a_9 a_10 a_11 a_12 a_13 a_14 a_15 a_16 c g1 v w o hx hl
 have hr:=hx.r
 unfold Rcd.val Md
 simp only
 have hle := @xu ⟨k,u,(⟨a_1,⟨a_2,a_3,a_4⟩,a_5,⟨⟨⟨a_6,a_7,a_8⟩,a_9⟩,a_10⟩,⟨⟨a_11,a_12,a_13⟩,a_14⟩,⟨a_15,a_16⟩,l⟩:Opn),c,g1,v,w,o⟩
 have hne := @Ae ⟨k,u,(⟨a_1,⟨a_2,a_3,a_4⟩,a_5,⟨⟨⟨a_6,a_7,a_8⟩,a_9⟩,a_10⟩,⟨⟨a_11,a_12,a_13⟩,a_14⟩,⟨a_15,a_16⟩,l⟩:Opn),c,g1,v,w,o⟩
 have hz := @Jd ⟨k,u,(⟨a_1,⟨a_2,a_3,a_4⟩,a_5,⟨⟨⟨a_6,a_7,a_8⟩,a_9⟩,a_10⟩,⟨⟨a_11,a_12,a_13⟩,a_14⟩,⟨a_15,a_16⟩,l⟩:Opn),c,g1,v,w,o⟩
 have hbl:dF ⟨k,u,(⟨a_1,⟨a_2,a_3,a_4⟩,a_5,⟨⟨⟨a_6,a_7,a_8⟩,a_9⟩,a_10⟩,⟨⟨a_11,a_12,a_13⟩,a_14⟩,⟨a_15,a_16⟩,l⟩:Opn),c,g1,v,w,o⟩ st nu=oU st nu (recN ⟨k,u,(⟨a_1,⟨a_2,a_3,a_4⟩,a_5,⟨⟨⟨a_6,a_7,a_8⟩,a_9⟩,a_10⟩,⟨⟨a_11,a_12,a_13⟩,a_14⟩,⟨a_15,a_16⟩,l⟩:Opn),c,g1,v,w,o⟩) 0 (pcs 3 (recB ⟨k,u,(⟨a_1,⟨a_2,a_3,a_4⟩,a_5,⟨⟨⟨a_6,a_7,a_8⟩,a_9⟩,a_10⟩,⟨⟨a_11,a_12,a_13⟩,a_14⟩,⟨a_15,a_16⟩,l⟩:Opn),c,g1,v,w,o⟩)):=rfl
 cases hI:ej ⟨k,u,(⟨a_1,⟨a_2,a_3,a_4⟩,a_5,⟨⟨⟨a_6,a_7,a_8⟩,a_9⟩,a_10⟩,⟨⟨a_11,a_12,a_13⟩,a_14⟩,⟨a_15,a_16⟩,l⟩:Opn),c,g1,v,w,o⟩ with
 | false =>
  rw[hI]at hB
  generalize hzz:recZ ⟨k,u,(⟨a_1,⟨a_2,a_3,a_4⟩,a_5,⟨⟨⟨a_6,a_7,a_8⟩,a_9⟩,a_10⟩,⟨⟨a_11,a_12,a_13⟩,a_14⟩,⟨a_15,a_16⟩,l⟩:Opn),c,g1,v,w,o⟩=z at *
  have hc:z = .isl 1 [a8 k] (some 1) ∨∃es,z = .isl 1 es none:=by
   rw[←hzz];unfold recZ
   split
   ·exact .inr ⟨_,rfl⟩
   ·split
    ·exact .inr ⟨_,rfl⟩
    ·split
     ·split
      ·exact .inr ⟨_,rfl⟩
      ·exact .inl rfl
     ·exact .inl rfl
  clear hzz hz hle hne hbl hC
  rcases hc with rfl | ⟨es,rfl⟩<;>simp[af,ah,ad,ae,aa, *,mS]
 | true =>
  rw[hz hI,hI]at hB
  rw[hI,if_pos rfl]at hC
  have hle:=hle hI
  have hne:=hne hI st nu
  rw[hbl]at hne ⊢
  clear hz hbl
  generalize (recN ⟨k,u,(⟨a_1,⟨a_2,a_3,a_4⟩,a_5,⟨⟨⟨a_6,a_7,a_8⟩,a_9⟩,a_10⟩,⟨⟨a_11,a_12,a_13⟩,a_14⟩,⟨a_15,a_16⟩,l⟩:Opn),c,g1,v,w,o⟩:Int)=N at *
  generalize recB ⟨k,u,(⟨a_1,⟨a_2,a_3,a_4⟩,a_5,⟨⟨⟨a_6,a_7,a_8⟩,a_9⟩,a_10⟩,⟨⟨a_11,a_12,a_13⟩,a_14⟩,⟨a_15,a_16⟩,l⟩:Opn),c,g1,v,w,o⟩=bs at *
  clear hI
  cases hh:kZ st nu 0 N with
  | false =>
   clear hne hle
   simp[af,ah,ad,ae,aa, *,mS]
  | true =>
   have hc:=GW (bs:=bs) (x := .isl 1 (by8 bs) none) (Sl.mk _ _)
   have h0:0≤st∧0≤nu:=by simp[kZ]at hh;omega
   simp[af,ah,ad,ae,aa, *,mS]
   rw[SG]
   refine⟨fun g'=>z7 (gi:=145) (first:=[]) (captured:=[.iptr 1 [.isl 1 (by8 bs) none] 0 0,.iptr 1 [aI 119] 0 0]) rfl ?_⟩
   intro tm ht
   have t6:tget tm 6 = .ptr ⟨0,6,0,0⟩ 0 0:=(ht 6).trans rfl
   have t10:tget tm 10 = .ptr ⟨0,10,0,0⟩ 0 0:=(ht 10).trans rfl
   have t5:tget tm 5 = .ptr ⟨0,5,0,0⟩ 0 0:=(ht 5).trans rfl
   have t4:tget tm 4 = .ptr ⟨0,4,0,0⟩ 0 0:=(ht 4).trans rfl
   rw[show Tryz.f70.ntmps=58 from by kernel_rfl]
   generalize hcell:[AV.agg [a8 k,aI u,a8 a_1,a8 a_2,a32 a_3,a8 a_4,aI a_5,a8 a_6,a32 a_7,a8 a_8,aI a_9,aI a_10,a8 a_11,a32 a_12,a8 a_13,aI a_14,a8 a_15,a32 a_16,x,aI c,aI g1,a8 v,a32 w,aB o]]=cell
   obtain⟨y,H',hy,hm⟩:=Hi (r:=⟨0,58,0,0⟩) (r6:=⟨0,6,0,0⟩) (r10:=⟨0,10,0,0⟩) (r5:=⟨0,5,0,0⟩) (r4:=⟨0,4,0,0⟩) (tm:=tm) (of:=N) h0.1 h0.2 t6 t10 t5 t4 (bs:=bs) (x := .isl 1 (by8 bs) none) (Sl.mk _ _) (by omega) hle.1
    (H:=(⟨0,58,0,0⟩,some (fa 0 (.lp 0 58 [35] bA bx tm))) :: [(⟨0,10,0,0⟩,some ⟨1,[aI N],false,false⟩),(⟨0,6,0,0⟩,some ⟨1,[aNil],false,false⟩),(⟨0,5,0,0⟩,some ⟨1,[aI nu],false,false⟩),(⟨0,4,0,0⟩,some ⟨1,[aI st],false,false⟩),(⟨0,3,0,0⟩,some ⟨24,cell,false,false⟩)])
    ⟨by simp(maxDischargeDepth:=12) [aD,ar,Fr.nil,aP,af,ah,ad,ae,aF,aq,aa, *],by simp,by simp,by simp,by simp,by simp,.inl ⟨by simp,rfl⟩⟩
   refine⟨y,H',0,_,by simpa using hy,by simp only[Heap.pD,Heap.Ki];rw[nj];exact(congrArg lpO hm.mark).trans (tV _ _),.inl ⟨rfl,?_⟩⟩
   have hs:=wP (s:=ofL g' [(34,AV.fn (.func 145) [] [.iptr 1 [.isl 1 (by8 bs) none] 0 0,.iptr 1 [aI 119] 0 0]),(6,AV.ptr ⟨0,6,0,0⟩ 0 0),(10,AV.ptr ⟨0,10,0,0⟩ 0 0),(5,AV.ptr ⟨0,5,0,0⟩ 0 0),(4,AV.ptr ⟨0,4,0,0⟩ 0 0)]) (l:=[(6,AV.ptr ⟨0,6,0,0⟩ 0 0)]) (by
    intro p hp
    simp only[List.mem_cons,List.not_mem_nil,or_false]at hp
    subst hp
    rfl)
   rw[←hs]
   refine(rN _ _ _ fun g=>?_).h _
   obtain⟨fr,mark,⟨n1,_⟩,b10,b5,b4,hbx⟩:=hm
   clear hs hy ht t6 t10 t5 t4 hC hB hc hle hcell b10 b5 b4
   generalize oU st nu N 0 (pcs 3 bs)=ws at *
   rcases hbx with ⟨hb,rfl⟩ | ⟨q,q1,q2,q3,p1,p2,p3,p4,p5,hb,hq,hpos⟩
   ·exact absurd rfl hne
   ·have s1:=p1.symm
    have s2:=p2.symm
    simp[af,ah,ad,ae,aa, *,mG,Heap.aj]
end Go.Proofs.YtiidajnodhkidaaGreat
