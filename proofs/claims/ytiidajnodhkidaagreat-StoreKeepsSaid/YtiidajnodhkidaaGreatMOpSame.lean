/-
  An operation's bytes, and what bytes tell. No statement of a seat is proved here.
-/
import Derived.Test.YtiidajnodhkidaaGreatMRdFns2
import Derived.Test.YtiidajnodhkidaaGreatOpFns
set_option linter.unusedVariables false
set_option linter.unusedSimpArgs false
set_option linter.unusedSectionVars false
set_option linter.unnecessarySimpa false
set_option maxRecDepth 100000
namespace Go.Proofs.YtiidajnodhkidaaGreat
open Go.Ab
theorem Le{a b:Int}(h:a % 256=b % 256):u8 a=u8 b:=by
 apply UInt8.toNat_inj.1
 have h1:=vt a
 have h2:=vt b
 omega
theorem Nl(n:Int) : ∃j,IntKind.i32.wrap n=n+4294967296 * j ∧ -2147483648≤IntKind.i32.wrap n∧IntKind.i32.wrap n≤2147483647:=by
 rw[IntKind.wrap_i32]
 exact⟨-((n+2147483648) / 4294967296),by omega,by omega,by omega⟩
def word(a b c d:UInt8):Int:=IntKind.i32.wrap (val [a,b,c,d])
def words:List UInt8→List Int
 | a :: b :: c :: d :: l=>word a b c d :: words l
 | _=>[]
theorem KL(n j:Int):be 4 (n+4294967296 * j)=be 4 n:=by
 rw[be_4,be_4,Le (a:=(n+4294967296 * j) / 16777216) (b:=n / 16777216) (by omega),Le (a:=(n+4294967296 * j) / 65536) (b:=n / 65536) (by omega),
  Le (a:=(n+4294967296 * j) / 256) (b:=n / 256) (by omega),Le (a:=n+4294967296 * j) (b:=n) (by omega)]
theorem KK(a b c d:UInt8):be 4 (word a b c d)=[a,b,c,d]:=by
 obtain⟨j,h,_⟩:=Nl (val [a,b,c,d])
 unfold word
 rw[h,KL]
 exact Fo rfl
theorem Gk{P:List UInt8→Prop}(h0:P [])(h4 : ∀a b c d l,P l→P (a :: b :: c :: d :: l)) : ∀(n:Nat)(l:List UInt8),l.length=4 * n→P l:=by
 intro n
 induction n with
 | zero=>intro l h;obtain rfl:l=[]:=List.length_eq_zero_iff.1 (by omega);exact h0
 | succ n ih =>
  intro l h
  match l,h with
  | a :: b :: c :: d :: l,h=>exact h4 a b c d l (ih l (by simp only[List.length_cons]at h;omega))
theorem vv(n:Nat)(l:List UInt8)(h:l.length=4 * n):dW (words l)=l∧(words l).length=n:=by
 constructor
 ·exact Gk (P:=fun l=>dW (words l)=l) rfl (fun a b c d l ih=>by
   show be 4 (word a b c d)++dW (words l)=_
   rw[ih,KK];rfl) n l h
 ·have:=mV (words l)
  rw[Gk (P:=fun l=>dW (words l)=l) rfl (fun a b c d l ih=>by
   show be 4 (word a b c d)++dW (words l)=_
   rw[ih,KK];rfl) n l h]at this
  omega
theorem Oj{n:Int}(h0 : -2147483648≤n)(h1:n≤2147483647):word (u8 (n / 16777216)) (u8 (n / 65536)) (u8 (n / 256)) (u8 n)=n:=by
 obtain⟨j,h,h2,h3⟩:=Nl (val [u8 (n / 16777216),u8 (n / 65536),u8 (n / 256),u8 n])
 unfold word
 rw[←be_4]at *
 have e:val (be 4 n)=n∨val (be 4 n)=n+4294967296:=by
  rcases Int.lt_or_le n 0 with hn | hn
  ·right
   have:=KL n 1
   rw[←this]
   exact rX (by omega) (by omega)
  ·exact .inl (rX hn (by omega))
 omega
theorem Ce(l:List Int)(h : ∀n∈l, -2147483648≤n∧n≤2147483647):words (dW l)=l:=by
 induction l with
 | nil=>rfl
 | cons n l ih =>
  have hn:=h n (List.mem_cons_self ..)
  show words (be 4 n++dW l)=_
  rw[be_4]
  show word _ _ _ _ :: words (dW l)=_
  rw[Oj hn.1 hn.2,ih fun m hm=>h m (List.mem_cons_of_mem _ hm)]
theorem uQ(c:UInt32):u32 (val (be 4 (c.toNat:Int)))=c:=by
 have:=c.toNat_lt
 rw[rX (by omega) (by omega)]
 simp
theorem HV(l:List UInt8)(h:l.length=4):be 4 ((u32 (val l)).toNat:Int)=l:=by
 have hb:=xe l
 rw[h]at hb
 have e:((u32 (val l)).toNat:Int)=val l:=by
  rw[oP];omega
 rw[e]
 exact Fo h
theorem qR(h:Han):nO (eC h)=h:=by
 obtain⟨a,b,c⟩:=h
 have:=uQ b
 rw[be_4]at this
 simp[nO,eC,be_4]
 simpa using this
theorem Df{l:List UInt8}(h:l.length=6):eC (nO l)=l:=by
 obtain⟨a,b,c,d,e,f,rfl⟩:=Nw h
 have:=HV [b,c,d,e] rfl
 simp[nO,eC,this]
theorem vH{i:Idd}(h0:0≤i.n)(h1:i.n<72057594037927936):kY (gB i)=i:=by
 obtain⟨h,n⟩:=i
 have e1:nO (eC h++be 7 n)=h:=by
  have:=qR h
  obtain⟨a,b,c⟩:=h
  simp only[nO,eC,be_4]at *
  simpa using this
 have e2:(eC h++be 7 n).drop 6=be 7 n:=List.drop_left' (z4 h)
 unfold kY gB
 rw[e1,e2,rX h0 (by simpa using h1)]
theorem De{l:List UInt8}(h:l.length=13):gB (kY l)=l:=by
 have e1:nO l=nO (l.take 6):=by
  obtain⟨a,b,c,d,e,f,g,i,j,k,m,n,o,rfl⟩:=xg h
  rfl
 unfold gB kY
 rw[e1,Df (by simp;omega),Fo (by simp;omega),List.take_append_drop]
theorem Hv{l:List UInt8}(h:l.length=13):ma (kY l)=decide (l=List.replicate 13 0):=by
 rw[Bool.eq_iff_iff,qu,decide_eq_true_eq]
 constructor
 ·intro e
  rw[←De h,e]
  rfl
 ·rintro rfl;rfl
def gr(o:Opn):List UInt8:=oA o++(if o.kind=1 then ql o.a++dW o.l else if o.kind=3 then o.to.lv :: be 4 o.to.cats.toNat else [])
def rawO(l:List UInt8):Opn:=⟨l.headD 0,nO ((l.drop 1).take 6),val ((l.drop 7).take 3),⟨kY ((l.drop 10).take 13),(((l.drop 23).headD 0).toNat:Int)⟩,
 if l.headD 0=1 then kY ((l.drop 24).take 13) else pj,if l.headD 0=3 then ⟨(l.drop 24).headD 0,u32 (val ((l.drop 25).take 4))⟩ else ⟨0,0⟩,
 if l.headD 0=1 then words ((l.drop 37).take (4 * ((l.drop 23).headD 0).toNat)) else []⟩
def GO(k m:UInt8):Nat:=if k=1 then 37+4 * m.toNat else if k=3 then 29 else 24
def uT(l:List UInt8):Nat:=GO (l.headD 0) ((l.drop 23).headD 0)
def xU(l:List UInt8):Bool:=decide (24≤l.length)&&(decide (uT l≤l.length)&&opB (rawO l))
def Pv(k:UInt8)(hh ss ff:List UInt8)(m:UInt8)(rest:List UInt8):Opn:=⟨k,nO hh,val ss,⟨kY ff,(m.toNat:Int)⟩,
 if k=1 then kY (rest.take 13) else pj,if k=3 then ⟨rest.headD 0,u32 (val ((rest.drop 1).take 4))⟩ else ⟨0,0⟩,
 if k=1 then words ((rest.drop 13).take (4 * m.toNat)) else []⟩
theorem LS(k:UInt8)(hh ss ff:List UInt8)(m:UInt8)(rest:List UInt8)(h6:hh.length=6)(h3:ss.length=3)(h13:ff.length=13):rawO (k :: (hh++(ss++(ff++(m :: rest)))))=Pv k hh ss ff m rest∧uT (k :: (hh++(ss++(ff++(m :: rest)))))=GO k m:=by
 have d1:(k :: (hh++(ss++(ff++(m :: rest))))).drop 1=hh++(ss++(ff++(m :: rest))):=rfl
 have d7:(k :: (hh++(ss++(ff++(m :: rest))))).drop 7=ss++(ff++(m :: rest)):=by
  show(hh++(ss++(ff++(m :: rest)))).drop 6=_
  exact List.drop_left' h6
 have d10:(k :: (hh++(ss++(ff++(m :: rest))))).drop 10=ff++(m :: rest):=by
  have:(k :: (hh++(ss++(ff++(m :: rest))))).drop 10=((k :: (hh++(ss++(ff++(m :: rest))))).drop 7).drop 3:=by rw[List.drop_drop]
  rw[this,d7]
  exact List.drop_left' h3
 have d23:(k :: (hh++(ss++(ff++(m :: rest))))).drop 23=m :: rest:=by
  have:(k :: (hh++(ss++(ff++(m :: rest))))).drop 23=((k :: (hh++(ss++(ff++(m :: rest))))).drop 10).drop 13:=by rw[List.drop_drop]
  rw[this,d10]
  exact List.drop_left' h13
 have dn : ∀j,(k :: (hh++(ss++(ff++(m :: rest))))).drop (24+j)=rest.drop j:=by
  intro j
  have:(k :: (hh++(ss++(ff++(m :: rest))))).drop (24+j)=((k :: (hh++(ss++(ff++(m :: rest))))).drop 23).drop (1+j):=by rw[List.drop_drop];congr 1;omega
  rw[this,d23,Nat.add_comm]
  rfl
 have d24:=dn 0
 have d25:=dn 1
 have d37:=dn 13
 simp only[Nat.add_zero,List.drop_zero,Nat.reduceAdd]at d24 d25 d37
 constructor
 ·unfold rawO Pv
  rw[d1,d7,d10,d23,d24,d25,d37,List.take_left' h6,List.take_left' h3,List.take_left' h13]
  rfl
 ·unfold uT
  rw[d23]
  rfl
theorem Fg(o:Opn):(oA o).length=24:=by simp[oA]
theorem qM{o:Opn}(h:opB o=true):1≤o.serial∧o.serial<16777216∧(1≤o.s.f.n∧o.s.f.n≤1099511627776)∧1≤o.s.many∧o.s.many≤64 ∧
 ((o.kind=1∧o.to=⟨0,0⟩∧(o.a=pj∨(1≤o.a.n∧o.a.n≤1099511627776))∧(o.l.length:Int)=o.s.many∧rowB o.l=true)∨(o.kind=2∧o.to=⟨0,0⟩∧o.a=pj∧o.l=[])∨(o.kind=3∧o.a=pj∧o.l=[]∧o.to.lv≤15)):=by
 simp only[opB,Bool.and_eq_true,decide_eq_true_eq]at h
 obtain⟨hh,h1,h2,hs,hm⟩:=h
 have hn:=IB hs
 have hi:=J7 (Lp hs)
 refine⟨h1,h2,hi,hn.2.1,hn.2.2.1,?_⟩
 have hz : ∀t:Lab,Ca t=true→t=⟨0,0⟩:=by
  rintro⟨a,b⟩ h;simp[Ca]at h;rw[h.1,h.2]
 unfold mayB at hm
 split at hm
 ·rename_i k1
  simp only[insB,Bool.and_eq_true,Bool.or_eq_true,decide_eq_true_eq]at hm
  refine .inl ⟨k1,hz _ hm.1,?_,hm.2.2.2.1,hm.2.2.2.2⟩
  rcases hm.2.1 with e | e
  ·exact .inl ((qu _).1 e)
  ·exact .inr (J7 e)
 ·split at hm
  ·rename_i k2
   simp only[delB,Fq,Bool.and_eq_true,decide_eq_true_eq]at hm
   exact .inr (.inl ⟨k2,hz _ hm.1,(qu _).1 hm.2.1,hm.2.2⟩)
  ·split at hm
   ·rename_i k3
    simp only[raiB,Fq,Bool.and_eq_true,decide_eq_true_eq]at hm
    exact .inr (.inr ⟨k3,(qu _).1 hm.1.1,hm.1.2,hm.2⟩)
   ·cases hm
def yX(o:Opn):Nat:=if o.kind=1 then 37+4 * o.s.many.toNat else if o.kind=3 then 29 else 24
theorem vm(a:Idd):(ql a).length=13:=by unfold ql;split<;>simp
theorem sT{o:Opn}(h:opB o=true):(gr o).length=yX o:=by
 have hp:=qM h
 unfold gr yX
 rw[List.length_append,Fg]
 rcases hp.2.2.2.2.2 with ⟨k,_,_,hl,_⟩ | ⟨k,_⟩ | ⟨k,_⟩
 ·rw[if_pos k,if_pos k,List.length_append,vm,mV];omega
 ·rw[k];rfl
 ·rw[k];simp
end Go.Proofs.YtiidajnodhkidaaGreat
namespace Go.Proofs.YtiidajnodhkidaaGreat
open Go.Ab
attribute [local simp] ct bK bO bN keep thr cC bD bP eE eD cN cB aV dk List.take_of_length_le
theorem tB{o:Opn}(h:opB o=true):24≤yX o∧yX o≤293:=by
 have hp:=qM h
 unfold yX
 split
 ·omega
 ·split<;>omega
def putA(o:Opn):AV:=if opB o then .tup [.isl 1 (by8 (gr o)) none,aI 0] else .tup [aNil,aI 8]
theorem O2(a_1:UInt8)(a_2:UInt8)(a_3:UInt32)(a_4:UInt8)(a_5:Int)(a_6:UInt8)(a_7:UInt32)(a_8:UInt8)(a_9:Int)(a_10:Int)(a_11:UInt8)(a_12:UInt32)(a_13:UInt8)(a_14:Int)(a_15:UInt8)(a_16:UInt32){x:AV}{l:List Int}(hx:Sl 1 (rows l) x)(hl:l.length<2000000):limf env 82 [.agg [a8 a_1,a8 a_2,a32 a_3,a8 a_4,aI a_5,a8 a_6,a32 a_7,a8 a_8,aI a_9,aI a_10,a8 a_11,a32 a_12,a8 a_13,aI a_14,a8 a_15,a32 a_16,x]]=some (putA (⟨a_1,⟨a_2,a_3,a_4⟩,a_5,⟨⟨⟨a_6,a_7,a_8⟩,a_9⟩,a_10⟩,⟨⟨a_11,a_12,a_13⟩,a_14⟩,⟨a_15,a_16⟩,l⟩:Opn)):=by
 unfold putA
 cases ho:opB (⟨a_1,⟨a_2,a_3,a_4⟩,a_5,⟨⟨⟨a_6,a_7,a_8⟩,a_9⟩,a_10⟩,⟨⟨a_11,a_12,a_13⟩,a_14⟩,⟨a_15,a_16⟩,l⟩:Opn) with
 | false=>rw[LD a_1 a_2 a_3 a_4 a_5 a_6 a_7 a_8 a_9 a_10 a_11 a_12 a_13 a_14 a_15 a_16 hx hl ho];rfl
 | true =>
  have hp:=qM ho
  rw[if_pos rfl]
  unfold gr
  rcases hp.2.2.2.2.2 with ⟨hk,_⟩ | ⟨hk,_⟩ | ⟨hk,_⟩
  ·rw[LH a_1 a_2 a_3 a_4 a_5 a_6 a_7 a_8 a_9 a_10 a_11 a_12 a_13 a_14 a_15 a_16 hx hl ho hk,if_pos hk]
  ·simp only at hk
   rw[LG a_1 a_2 a_3 a_4 a_5 a_6 a_7 a_8 a_9 a_10 a_11 a_12 a_13 a_14 a_15 a_16 hx hl ho hk,if_neg (by simp[hk]),if_neg (by simp[hk]),List.append_nil]
  ·simp only at hk
   rw[LF a_1 a_2 a_3 a_4 a_5 a_6 a_7 a_8 a_9 a_10 a_11 a_12 a_13 a_14 a_15 a_16 hx hl ho hk,if_neg (by simp[hk]),if_pos hk]
end Go.Proofs.YtiidajnodhkidaaGreat
namespace Go.Proofs.YtiidajnodhkidaaGreat
open Go.Ab
attribute [local simp] ct bK bO bN keep thr cC bD bP eE eD cN cB aV dk List.take_of_length_le
def idxR(t:Int):List Int→Nat→Int
 | [],_ => -1
 | a :: l,k=>if t=a then k else idxR t l (k+1)
theorem MK(t:Int)(l:List Int) : ∀k:Nat,(0≤idxR t l k↔t∈l):=by
 induction l with
 | nil=>intro k;simp[idxR]
 | cons a l ih =>
  intro k
  unfold idxR
  by_cases h:t=a
  ·simp[h]
  ·rw[if_neg h,ih];simp[h]
theorem EK{x0:AV}{Q:AV→Heap→Prop}{l:List Int}(hx:Sl 1 (rows l) x0)(hl:l.length<4611686018427387904){t:Int}{H:Heap} :
 ∀(s:List Int)(k:Nat)(i:Int),l.drop k=s→k≤l.length→i=k→(∀y,y=aI (idxR t s k)→Q y H) →
 GoL env Tryz.f160 0 dI [(8,aI i),(0,x0),(1,aR t),(7,aI l.length)] H Q:=by
 intro s
 induction s with
 | nil =>
  rintro k i hs hk rfl hQ
  obtain rfl:=drop_nil hs hk
  refine gR _ _ _ _ _ _ fun g=>?_
  simp[af,ah,ad,ae,aa, *,dK]
  all_goals exact hQ _ rfl
 | cons a s ih =>
  rintro k i hs hk rfl hQ
  obtain⟨hlt,hg,hs',hg'⟩:=drop_cons hs
  refine gR _ _ _ _ _ _ fun g=>?_
  have e3:=IntWalk.i64_in ((k:Int)+1) (by omega)
  by_cases hA:t=a
  ·have e:idxR t (a :: s) k=k:=by unfold idxR;rw[if_pos hA]
   simp[af,ah,ad,ae,aa, *,dK,hx.idx,rows,aR]
   all_goals exact hQ _ (by simp[e])
  ·have e:idxR t (a :: s) k=idxR t s (k+1):=by rw[idxR,if_neg hA]
   have ih':=ih (k+1) ((k:Int)+1) hs' (by omega) (by simp) (fun y ey=>hQ y (by rw[ey,e]))
   clear ih hQ e
   simp[af,ah,ad,ae,aa, *,dK,hx.idx,rows,aR]
   exact ih'
section
variable{x:AV}{l:List Int}(hx:Sl 1 (rows l) x)(hl:l.length<4611686018427387904)
include hx hl
theorem LJ(t:Int):limf env 160 [x,aR t]=some (aI (idxR t l 0)):=by
 refine aH (fn:=Tryz.f160) (c:=fw) rfl (by kernel_rfl) (by kernel_rfl) (by kernel_rfl) (by kernel_rfl) ?_;refine lH _ _ _ _ fun g=>?_
 have h:=hx.len
 simp[af,ah,ad,ae,aa, *,iz]
 exact EK hx hl l 0 _ rfl (by omega) rfl (fun y e=>by simp[e])
theorem Ej(t:Int):limf env 125 [x,aR t]=some (aB (decide (t∈l))):=by
 refine aH (fn:=Tryz.f125) (c:=gH) rfl (by kernel_rfl) (by kernel_rfl) (by kernel_rfl) (by kernel_rfl) ?_;refine kp _ _ _ _ fun g=>?_
 have h:=LJ hx hl t
 have hr:=hx.r
 have e:=MK t l 0
 simp[af,ah,ad,ae,aa, *,gK]
end
theorem IY(a_1:UInt8)(a_2:UInt8)(a_3:UInt32)(a_4:UInt8)(a_5:Int)(a_6:UInt8)(a_7:UInt32)(a_8:UInt8)(a_9:Int)(a_10:Int)(a_11:UInt8)(a_12:UInt32)(a_13:UInt8)(a_14:Int)(a_15:UInt8)(a_16:UInt32){x:AV}{l:List Int}(hx:Sl 1 (rows l) x)(hl:l.length<4611686018427387904):limf env 83 [.agg [a8 a_1,a8 a_2,a32 a_3,a8 a_4,aI a_5,a8 a_6,a32 a_7,a8 a_8,aI a_9,aI a_10,a8 a_11,a32 a_12,a8 a_13,aI a_14,a8 a_15,a32 a_16,x]]=some (aB (!decide (-1∈l))):=by
 refine aH (fn:=Tryz.f83) (c:=yp) rfl (by kernel_rfl) (by kernel_rfl) (by kernel_rfl) (by kernel_rfl) ?_;refine DW _ _ _ fun g=>?_
 have h:=Ej hx hl (-1)
 have hr:=hx.r
 unfold aR at h
 simp[af,ah,ad,ae,aa, *,yz]
def yY(a b:Opn):Bool:=decide (a.kind=b.kind)&&((decide (a.h.lv=b.h.lv)&&decide (a.h.cats=b.h.cats)&&decide (a.h.num=b.h.num))&&(decide (a.serial=b.serial) &&
 ((decide (a.s.f.h.lv=b.s.f.h.lv)&&decide (a.s.f.h.cats=b.s.f.h.cats)&&decide (a.s.f.h.num=b.s.f.h.num)&&decide (a.s.f.n=b.s.f.n)&&decide (a.s.many=b.s.many)) &&
 ((decide (a.a.h.lv=b.a.h.lv)&&decide (a.a.h.cats=b.a.h.cats)&&decide (a.a.h.num=b.a.h.num)&&decide (a.a.n=b.a.n))&&((decide (a.to.lv=b.to.lv)&&decide (a.to.cats=b.to.cats))&&decide (a.l=b.l))))))
theorem LC(a_1:UInt8)(a_2:UInt8)(a_3:UInt32)(a_4:UInt8)(a_5:Int)(a_6:UInt8)(a_7:UInt32)(a_8:UInt8)(a_9:Int)(a_10:Int)(a_11:UInt8)(a_12:UInt32)(a_13:UInt8)(a_14:Int)(a_15:UInt8)(a_16:UInt32)(b_1:UInt8)(b_2:UInt8)(b_3:UInt32)(b_4:UInt8)(b_5:Int)(b_6:UInt8)(b_7:UInt32)(b_8:UInt8)(b_9:Int)(b_10:Int)(b_11:UInt8)(b_12:UInt32)(b_13:UInt8)(b_14:Int)(b_15:UInt8)(b_16:UInt32){x y:AV}{l m:List Int}(hx:Sl 1 (rows l) x)(hy:Sl 1 (rows m) y)(hl:l.length<1000000000):limf env 89 [.agg [a8 a_1,a8 a_2,a32 a_3,a8 a_4,aI a_5,a8 a_6,a32 a_7,a8 a_8,aI a_9,aI a_10,a8 a_11,a32 a_12,a8 a_13,aI a_14,a8 a_15,a32 a_16,x],.agg [a8 b_1,a8 b_2,a32 b_3,a8 b_4,aI b_5,a8 b_6,a32 b_7,a8 b_8,aI b_9,aI b_10,a8 b_11,a32 b_12,a8 b_13,aI b_14,a8 b_15,a32 b_16,y]]=some (aB (yY (⟨a_1,⟨a_2,a_3,a_4⟩,a_5,⟨⟨⟨a_6,a_7,a_8⟩,a_9⟩,a_10⟩,⟨⟨a_11,a_12,a_13⟩,a_14⟩,⟨a_15,a_16⟩,l⟩:Opn) (⟨b_1,⟨b_2,b_3,b_4⟩,b_5,⟨⟨⟨b_6,b_7,b_8⟩,b_9⟩,b_10⟩,⟨⟨b_11,b_12,b_13⟩,b_14⟩,⟨b_15,b_16⟩,m⟩:Opn))):=by
 refine aH (fn:=Tryz.f89) (c:=Ah) rfl (by kernel_rfl) (by kernel_rfl) (by kernel_rfl) (by kernel_rfl) ?_;refine GI _ _ _ _ fun g=>?_
 have hq:=IX hx hy (by omega)
 have hr:=hx.r
 have hr2:=hy.r
 unfold yY
 cases c1:decide (a_1=b_1) with
 | false=>simp[af,ah,ad,ae,aa, *,j8,eqA,eqFs]
 | true =>
 cases c2:(decide (a_2=b_2)&&decide (a_3=b_3)&&decide (a_4=b_4)) with
 | false=>simp[af,ah,ad,ae,aa, *,j8,eqA,eqFs]
 | true =>
 cases c3:decide (a_5=b_5) with
 | false=>simp[af,ah,ad,ae,aa, *,j8,eqA,eqFs]
 | true =>
 cases c4:(decide (a_6=b_6)&&decide (a_7=b_7)&&decide (a_8=b_8)&&decide (a_9=b_9)&&decide (a_10=b_10)) with
 | false=>simp[af,ah,ad,ae,aa, *,j8,eqA,eqFs]
 | true =>
 cases c5:(decide (a_11=b_11)&&decide (a_12=b_12)&&decide (a_13=b_13)&&decide (a_14=b_14)) with
 | false=>simp[af,ah,ad,ae,aa, *,j8,eqA,eqFs]
 | true =>
 cases c6:(decide (a_15=b_15)&&decide (a_16=b_16)) with
 | false=>simp[af,ah,ad,ae,aa, *,j8,eqA,eqFs]
 | true=>simp[af,ah,ad,ae,aa, *,j8,eqA,eqFs]
end Go.Proofs.YtiidajnodhkidaaGreat
