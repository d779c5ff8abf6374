/-
  Runes of bytes: what these functions answer. No statement of a seat is proved here.
-/
import Derived.Test.YtiidajnodhkidaaGreatMRdFns3
set_option linter.unusedVariables false
set_option linter.unusedSimpArgs false
set_option linter.unusedSectionVars false
set_option linter.unnecessarySimpa false
set_option maxRecDepth 100000
namespace Go.Proofs.YtiidajnodhkidaaGreat
open Go.Ab
attribute [local simp] ct bK bO bN keep thr cC bD bP eE eD cN cB aV dk List.take_of_length_le
@[simp] theorem Om(g:Get)(k:Nat)(n:Int):aG g k (aR n)=[]:=by cases k<;>rfl
theorem Hb{P:Program}{g:Get}{r:Ref}{src dst:TypeId}(hs:(P.underlying src).isNone=false)(hd:intKind P dst=some .i32)(x:UInt32) :
 aW P g r src dst (some (a32 x))=some (aR (IntKind.i32.wrap x.toNat),[]):=by
 unfold a32;rw[lN P .i32 hs hd];rfl
theorem HY(a b c d:UInt8):(((((a.toUInt32 <<< 24) ||| (b.toUInt32 <<< 16)) ||| (c.toUInt32 <<< 8)) ||| d.toUInt32).toNat:Int)=val [a,b,c,d]:=by
 have ha:=a.toNat_lt
 have hb:=b.toNat_lt
 have hc:=c.toNat_lt
 have hd:=d.toNat_lt
 have e1:(a.toUInt32 <<< 24).toNat=a.toNat * 16777216:=by
  rw[UInt32.toNat_shiftLeft];simp[Nat.shiftLeft_eq];omega
 have e2:(b.toUInt32 <<< 16).toNat=b.toNat * 65536:=by
  rw[UInt32.toNat_shiftLeft];simp[Nat.shiftLeft_eq];omega
 have e3:(c.toUInt32 <<< 8).toNat=c.toNat * 256:=by
  rw[UInt32.toNat_shiftLeft];simp[Nat.shiftLeft_eq];omega
 have e4:d.toUInt32.toNat=d.toNat:=by simp
 have or_add : ∀(x k y:Nat),y<2 ^ k→(x * 2 ^ k) ||| y=x * 2 ^ k+y:=by
  intro x k y h
  rw[Nat.mul_comm,Nat.two_pow_add_eq_or_of_lt h]
 simp only[UInt32.toNat_or,e1,e2,e3,e4]
 have f1:a.toNat * 16777216 ||| b.toNat * 65536=(a.toNat * 256+b.toNat) * 65536:=by
  have:=or_add a.toNat 24 (b.toNat * 65536) (by omega)
  simp only[Nat.reducePow]at this
  rw[this];omega
 have f2:(a.toNat * 256+b.toNat) * 65536 ||| c.toNat * 256=((a.toNat * 256+b.toNat) * 256+c.toNat) * 256:=by
  have:=or_add (a.toNat * 256+b.toNat) 16 (c.toNat * 256) (by omega)
  simp only[Nat.reducePow]at this
  rw[this];omega
 have f3:((a.toNat * 256+b.toNat) * 256+c.toNat) * 256 ||| d.toNat=(((a.toNat * 256+b.toNat) * 256+c.toNat) * 256+d.toNat):=by
  have:=or_add ((a.toNat * 256+b.toNat) * 256+c.toNat) 8 d.toNat (by omega)
  simp only[Nat.reducePow]at this
  rw[this]
 rw[f1,f2,f3]
 simp[val,valF]
 omega
structure GInv (r r2:Ref) (info:AV) (H:Heap) (out:List Int):Prop where
 fr:Fr H
 mark:H.get r=some (fa 0 info)
 n1:r2≠r
 box:(H.get r2=some ⟨1,[aNil],false,false⟩∧out=[]) ∨∃q:Ref,q.d=2∧q.t=43∧q.k=0∧q≠r∧q≠r2∧H.get r2=some ⟨1,[.osl q 0 out.length none],false,false⟩∧H.get q=some ⟨1,rows out,true,false⟩∧0<out.length
theorem Kf{r r2:Ref}{tm:List AV}{H:Heap}{out:List Int}{ps:List Tmp}(hps:ps=[17])(htm:tget tm 2 = .ptr r2 0 0)(hI:GInv r r2 (.lp 0 50 ps dB dA tm) H out)(hlen:out.length<1000000)(a b c d:UInt8)(cp:Option Nat)(hcp:4≤cp.getD 4) :
 ∃y H',limt env 1 (.yld r) [.isl 1 [a8 a,a8 b,a8 c,a8 d] cp] H=some (y,H')∧(y=aB true∧GInv r r2 (.lp 0 50 ps dB dA tm) H' (out++[word a b c d])):=by
 subst hps
 refine C9 (fn:=Tryz.f196) (dep:=1) hI.mark (by kernel_rfl) rfl rfl (by kernel_rfl) (by kernel_rfl) ?_
 rw[←wP (s:=tget (qF tm [17] [.isl 1 [a8 a,a8 b,a8 c,a8 d] cp])) (l:=[(2,.ptr r2 0 0),(17,.isl 1 [a8 a,a8 b,a8 c,a8 d] cp)]) (by
  intro p hp
  simp only[List.mem_cons,List.not_mem_nil,or_false]at hp
  rcases hp with rfl | rfl
  ·show tget (tset tm 17 _) 2=_
   rw[mY]
   simpa using htm
  ·show tget (tset tm 17 _) 17=_
   rw[mY]
   simp)]
 refine(tj r _ _ _ _ fun g=>?_).h _
 obtain⟨fr,mark,n1,box⟩:=hI
 have n1':=n1.symm
 have l1:(H.get r).isSome=true:=by rw[mark];rfl
 have hcv:=fun(g:Get)(r:Ref)=>Hb (P:=env.P) (g:=g) (r:=r) (src:=34) (dst:=21) (by kernel_rfl) (by kernel_rfl) ((((a.toUInt32 <<< 24) ||| (b.toUInt32 <<< 16)) ||| (c.toUInt32 <<< 8)) ||| d.toUInt32)
 rw[HY]at hcv
 have hw:IntKind.i32.wrap (val [a,b,c,d])=word a b c d:=rfl
 rw[hw]at hcv
 clear hw
 rcases box with ⟨hb,rfl⟩ | ⟨q,q1,q2,q3,n2,n3,hb,hq,h0⟩
 ·have l2:(H.get r2).isSome=true:=by rw[hb];rfl
  simp[af,ah,ad,ae,aa, *,kP,nj,Heap.aj]
  refine⟨_,rfl,⟨by simp(maxDischargeDepth:=12) [Heap.aj,aD,ar,Fr.nil,aP,af,ah,ad,ae,aF,aq,aa, *],by simp(maxDischargeDepth:=12) [Heap.aj,aD,ar,Fr.nil,aP,af,ah,ad,ae,aF,aq,aa, *],n1,.inr ⟨⟨2,43,H.gen 2 43,0⟩,rfl,rfl,rfl,by simp(maxDischargeDepth:=12) [Heap.aj,aD,ar,Fr.nil,aP,af,ah,ad,ae,aF,aq,aa, *],by simp(maxDischargeDepth:=12) [Heap.aj,aD,ar,Fr.nil,aP,af,ah,ad,ae,aF,aq,aa, *],by simp(maxDischargeDepth:=12) [Heap.aj,aD,ar,Fr.nil,aP,af,ah,ad,ae,aF,aq,aa, *],?_,by simp⟩⟩⟩
  simp[Heap.aj,rows,af,ah, *]
 ·have l2:(H.get r2).isSome=true:=by rw[hb];rfl
  have l3:(H.get q).isSome=true:=by rw[hq];rfl
  have n2':=n2.symm
  have n3':=n3.symm
  obtain⟨qd,qt,qg,qk⟩:=q
  simp only at q1 q2 q3
  subst q1 q2 q3
  have f1:out.length+1≤17592186044416:=by omega
  have f2:(out.length+1) * 4≤140737488355328:=by omega
  simp[af,ah,ad,ae,aa, *,kP,nj,Heap.aj]
  refine⟨_,rfl,⟨by simp(maxDischargeDepth:=12) [Heap.aj,aD,ar,Fr.nil,aP,af,ah,ad,ae,aF,aq,aa, *],by simp(maxDischargeDepth:=12) [Heap.aj,aD,ar,Fr.nil,aP,af,ah,ad,ae,aF,aq,aa, *],n1,.inr ⟨⟨2,43,H.gen 2 43,0⟩,rfl,rfl,rfl,by simp(maxDischargeDepth:=12) [Heap.aj,aD,ar,Fr.nil,aP,af,ah,ad,ae,aF,aq,aa, *],by simp(maxDischargeDepth:=12) [Heap.aj,aD,ar,Fr.nil,aP,af,ah,ad,ae,aF,aq,aa, *],by simp(maxDischargeDepth:=12) [Heap.aj,aD,ar,Fr.nil,aP,af,ah,ad,ae,aF,aq,aa, *],?_,by simp⟩⟩⟩
  simp[Heap.aj,rows,af,ah, *]
theorem HL{r r2:Ref}{tm:List AV}(htm:tget tm 2 = .ptr r2 0 0){bs:List UInt8}{x:AV}(hx:Sl 1 (by8 bs) x)(hl:bs.length<1000000){Q:AV→Heap→Prop} :
 ∀(m k:Nat)(s:List UInt8)(i:Int)(out:List Int)(H:Heap),bs.drop k=s→s.length=4 * m→k≤bs.length→i=k→out.length≤k →
 GInv r r2 (.lp 0 50 [17] dB dA tm) H out →
 (∀y H',GInv r r2 (.lp 0 50 [17] dB dA tm) H' (out++words s)→Q y H') →
 GoL env Tryz.f145 (0+1) cF [(2,.iptr 1 [aI 4] 0 0),(4,aI i),(1,.iptr 1 [x] 0 0),(0,.yld r)] H Q:=by
 intro m
 induction m with
 | zero =>
  rintro k s i out H hs hm hk rfl ho hI hQ
  obtain rfl:s=[]:=List.length_eq_zero_iff.1 (by omega)
  have hd:=congrArg List.length hs
  rw[List.length_drop,List.length_nil]at hd
  have hd2 : ¬(k:Int)<bs.length:=by omega
  have hlen:=hx.r
  refine de _ _ _ _ _ _ _ fun g=>?_
  simp[af,ah,ad,ae,aa, *,cG]
  exact hQ _ _ (by simpa [words] using hI)
 | succ m ih =>
  rintro k s i out H hs hm hk rfl ho hI hQ
  match s,hm with
  | a :: b :: c :: d :: s,hm =>
  simp only[List.length_cons]at hm
  have hd:=congrArg List.length hs
  rw[List.length_drop]at hd
  simp only[List.length_cons]at hd
  have hne:0<(by8 bs).length:=by simp;omega
  obtain⟨cp,rfl,hcp⟩:=qE hx hne
  have hs':bs.drop (k+4)=s:=by
   rw[←List.drop_drop,hs];rfl
  have e1:(k:Int)<bs.length:=by omega
  have w1:=IntWalk.i64_in ((k:Int)) (by omega)
  have w2:=IntWalk.i64_in ((k:Int)+4) (by omega)
  have e8:(by8 bs).drop k=a8 a :: a8 b :: a8 c :: a8 d :: by8 s:=by
   have:(by8 bs).drop k=by8 (bs.drop k):=by simp[by8]
   rw[this,hs];rfl
  have e9 : ¬(4 * ((m:Int)+1)<4):=by omega
  have e10:((k:Int)+4).toNat - k=4:=by omega
  have e11:(k:Int)≤k+4∧(k:Int)+4≤cp.getD bs.length∧(k:Int)+4≤bs.length:=by
   have:(by8 bs).length=bs.length:=by simp
   rw[this]at hcp
   omega
  obtain⟨y,H',hy,rfl,hI'⟩:=Kf rfl htm hI (by omega) a b c d (some 4) (by simp)
  have hw:words (a :: b :: c :: d :: s)=word a b c d :: words s:=rfl
  rw[hw]at hQ
  clear hw hcp
  refine de _ _ _ _ _ _ _ fun g=>?_
  simp[af,ah,ad,ae,aa, *,cG,ta]
  exact ih (k+4) s ((k:Int)+4) (out++[word a b c d]) H' hs' (by omega) (by omega) (by simp) (by simp;omega) hI' (fun y H' h=>hQ y H' (by simpa using h))
theorem KB{r r2:Ref}{tm:List AV}(htm:tget tm 2 = .ptr r2 0 0){bs:List UInt8}{x:AV}(hx:Sl 1 (by8 bs) x)(hl:bs.length<1000000){m:Nat}(hm:bs.length=4 * m){H:Heap}
 (hI:GInv r r2 (.lp 0 50 [17] dB dA tm) H []) :
 ∃y H',limt env 0 (.fn 145) [.yld r,.iptr 1 [x] 0 0,.iptr 1 [aI 4] 0 0] H=some (y,H')∧GInv r r2 (.lp 0 50 [17] dB dA tm) H' (words bs):=by
 refine rD (fn:=Tryz.f145) (c:=dX) (by kernel_rfl) (by kernel_rfl) (by kernel_rfl) (by kernel_rfl) (by kernel_rfl) ?_
 refine il _ _ _ _ _ _ fun g=>?_
 simp[af,ah,ad,ae,aa, *,fB]
 exact HL htm hx hl m 0 bs _ [] H rfl hm (by omega) rfl (by simp) hI (fun y H' h=>by simpa using h)
theorem SH:gz = .code (.rangeFunc (.tmp 16) #[17] dB dA) :: nU:=by kernel_rfl
theorem Pa{bs:List UInt8}{x:AV}(hx:Sl 1 (by8 bs) x):limf env 107 [x,aI 4]=some (.fn (.func 145) [] [.iptr 1 [x] 0 0,.iptr 1 [aI 4] 0 0]):=by
 refine aH (fn:=Tryz.f107) (c:=fQ) rfl (by kernel_rfl) (by kernel_rfl) (by kernel_rfl) (by kernel_rfl) ?_;refine iY _ _ _ _ fun g=>?_
 have hr:=hx.r
 simp[af,ah,ad,ae,aa, *,fR]
def runG(l:List Int):AV:=if l=[] then aNil else .isl 1 (rows l) none
theorem mi(l:List Int):Sl 1 (rows l) (runG l):=by
 unfold runG
 split
 ·rename_i h;subst h;exact .inl ⟨rfl,rfl⟩
 ·exact .inr ⟨_,rfl,by simp⟩
theorem OZ{bs:List UInt8}{x:AV}(hx:Sl 1 (by8 bs) x){m:Nat}(hm:bs.length=4 * m)(hm64:m≤64) :
 limf env 196 [x]=some (if rowE (words bs)=0 then .tup [runG (words bs),aI 0] else .tup [aNil,aI (rowE (words bs))]):=by
 refine aH (fn:=Tryz.f196) (c:=q5) rfl (by kernel_rfl) (by kernel_rfl) (by kernel_rfl) (by kernel_rfl) ?_;refine Cm _ _ _ fun g=>?_
 have hr:=hx.r
 have hc:=Pa hx
 have e1 : ¬((256:Int)<4 * m):=by omega
 have e2:((4:Int) * m).tmod 4=0:=by rw[Int.tmod_eq_emod_of_nonneg (by omega)];omega
 have hwl:(words bs).length<4611686018427387904:=by have:=(vv m bs hm).2;omega
 have hc2:=xn (mi (words bs)) hwl
 have hrm:=fun t xo yo=>wO env.P t xo yo .i64 (4 * (m:Int)) 4 (by decide)
 simp[af,ah,ad,ae,aa, *,vW]
 rw[SH]
 refine⟨fun g'=>z7 (gi:=145) (first:=[]) (captured:=[.iptr 1 [x] 0 0,.iptr 1 [aI 4] 0 0]) rfl ?_⟩
 intro tm ht
 have e7:tget tm 2 = .ptr ⟨0,2,0,0⟩ 0 0:=(ht 2).trans rfl
 rw[show Tryz.f196.ntmps=50 from by kernel_rfl]
 obtain⟨y,H',hy,hm⟩:=KB (r:=⟨0,50,0,0⟩) (r2:=⟨0,2,0,0⟩) (tm:=tm)
  (H:=(⟨0,50,0,0⟩,some (fa 0 (.lp 0 50 [17] dB dA tm))) :: [(⟨0,2,0,0⟩,some ⟨1,[aNil],false,false⟩)])
  e7 hx (by omega) hm ⟨by simp(maxDischargeDepth:=12) [aD,ar,Fr.nil,aP,af,ah,ad,ae,aF,aq,aa, *],by simp,by decide,.inl ⟨by simp,rfl⟩⟩
 refine⟨y,H',0,_,by simpa using hy,by simp only[Heap.pD,Heap.Ki];rw[nj];exact(congrArg lpO hm.mark).trans (tV _ _),.inl ⟨rfl,?_⟩⟩
 have hs:=wP (s:=ofL g' [(16,AV.fn (.func 145) [] [.iptr 1 [x] 0 0,.iptr 1 [aI 4] 0 0]),(2,AV.ptr ⟨0,2,0,0⟩ 0 0)]) (l:=[(2,AV.ptr ⟨0,2,0,0⟩ 0 0)]) (by
  intro p hp
  simp only[List.mem_cons,List.not_mem_nil,or_false]at hp
  subst hp
  rfl)
 rw[←hs]
 refine(sK _ _ _ fun g=>?_).h _
 have n1:(⟨0,2,0,0⟩:Ref)≠⟨0,50,0,0⟩:=hm.n1
 have hbx:=hm.box
 clear hs hrm e1 e2 hc hr ht
 generalize words bs=ws at *
 rcases hbx with ⟨hb,rfl⟩ | ⟨q,q1,q2,q3,n2,n3,hb,hq,h0⟩
 ·have hz:runG []=aNil:=rfl
  have hE:rowE []=0:=rfl
  rw[hz,hE]at hc2
  simp[af,ah,ad,ae,aa, *,jZ,Heap.aj]
 ·have hz:runG ws = .isl 1 (rows ws) none:=by unfold runG;rw[if_neg (by rintro rfl;simp at h0)]
  rw[hz]at hc2 ⊢
  have n2':=n2.symm
  have n3':=n3.symm
  by_cases hE:rowE ws=0<;>simp[af,ah,ad,ae,aa, *,jZ,Heap.aj]
end Go.Proofs.YtiidajnodhkidaaGreat
