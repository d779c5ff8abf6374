/-
  Handles, ids, spans: what the functions compute. No statement of a seat is proved here.
-/
import Derived.Test.YtiidajnodhkidaaGreatAbsRules
import Derived.Test.YtiidajnodhkidaaGreatStVc1
set_option linter.unusedVariables false
set_option linter.unusedSimpArgs false
namespace Go.Ab
def bad(b:Bool):Int:=if b then 0 else 8
@[simp] theorem VY(b:Bool):bad b=0↔b=true:=by cases b<;>simp[bad]
@[simp] theorem wW:bad true=0:=id rfl
@[simp] theorem DM:bad false=8:=id rfl
structure Han where
 lv:UInt8
 cats:UInt32
 num:UInt8
deriving DecidableEq
structure Idd where
 h:Han
 n:Int
deriving DecidableEq
structure Spn where
 f:Idd
 many:Int
deriving DecidableEq
def iN(h:Han):Bool:=decide (h.lv≤15)&&decide (h.num<8)
def idB(i:Idd):Bool:=iN i.h&&(decide (1≤i.n)&&decide (i.n≤1099511627776))
def qp(s:Spn):Bool:=idB s.f&&(decide (1≤s.many)&&(decide (s.many≤64)&&decide (s.f.n+s.many - 1≤1099511627776)))
theorem J7{i:Idd}(h:idB i=true):1≤i.n∧i.n≤1099511627776:=by
 simp[idB]at h;exact h.2
theorem IB{s:Spn}(h:qp s=true):1≤s.f.n∧1≤s.many∧s.many≤64∧s.f.n+s.many - 1≤1099511627776:=by
 simp[qp]at h
 have:=J7 h.1
 exact⟨this.1,h.2.1,h.2.2.1,h.2.2.2⟩
theorem Lp{s:Spn}(h:qp s=true):idB s.f=true:=by
 simp[qp]at h;exact h.1
def pj:Idd:=⟨⟨0,0,0⟩,0⟩
def aR(n:Int):AV := .v (.int .i32 n)
def rows(l:List Int):List AV:=l.map aR
@[simp] theorem Vg(l:List Int):(rows l).length=l.length:=by simp[rows]
def sQ(n:Int):Bool:=decide (n = -1)||(decide (0≤n)&&decide (n<55296))||(decide (57343<n)&&decide (n≤1114111))
def rowB(l:List Int):Bool:=decide (l.length≤64)&&l.all sQ
def rowE(l:List Int):Int:=if 64<l.length then 4 else if l.all sQ then 0 else 8
@[simp] theorem Vs(n:Int):(aR n).cells=[aR n]:=id rfl
@[simp] theorem Ya(n:Int):(aR n).one=true:=id rfl
@[simp] theorem V3(g:Get)(k:Nat)(n:Int):view g (k+1) (aR n)=some (aR n):=id rfl
theorem CN(l:List Int):rowE l=0↔rowB l=true:=by
 unfold rowE rowB
 by_cases h:64<l.length
 ·simp[h,Nat.not_le.2 h]
 ·have h':l.length≤64:=Nat.not_lt.1 h
  rw[if_neg h]
  cases l.all sQ<;>simp[h']
end Go.Ab
set_option linter.unusedSectionVars false
set_option linter.unnecessarySimpa false
set_option maxRecDepth 100000
namespace Go.Proofs.YtiidajnodhkidaaGreat
open Go.Ab
attribute [local simp] ct bK bO bN keep thr cC bD bP eE eD cN cB aV dk List.take_of_length_le
@[simp] theorem Vd(a:UInt8)(b:UInt32):limf env 155 [.agg [a8 a,a32 b]]=some (aI (bad (decide (a≤15)))):=by
 refine aH (fn:=Tryz.f155) (c:=sn) rfl (by kernel_rfl) (by kernel_rfl) (by kernel_rfl) (by kernel_rfl) ?_;refine yR _ _ _ fun g=>?_
 simp[af,ah,ad,ae,aa, *,sH]
 repeat' ((first | refine td (fun h=>?_) (fun h=>?_) | refine nr (fun h=>?_) (fun h=>?_) | refine nv (fun h=>?_) (fun h=>?_) | refine nn (fun h=>?_) (fun h=>?_) | refine np (fun h=>?_) (fun h=>?_))<;>(try simp only[decide_eq_true_eq,decide_eq_false_iff_not,Bool.not_eq_true',Bool.not_eq_false',Bool.and_eq_true,Bool.or_eq_true]at h)<;>(try simp[af,ah,ad,ae,aa, *]))
 all_goals (try grind [bad])
@[simp] theorem WG(b:Bool):limf env 154 [aB b]=some (aI (bad b)):=by
 refine aH (fn:=Tryz.f154) (c:=vP) rfl (by kernel_rfl) (by kernel_rfl) (by kernel_rfl) (by kernel_rfl) ?_;refine Co _ _ _ fun g=>?_
 cases b<;>simp[af,ah,ad,ae,aa, *,vX,bad]
@[simp] theorem LO(a:UInt8)(b:UInt32)(n:UInt8):limf env 120 [.agg [a8 a,a32 b,a8 n]]=some (aI (bad (iN ⟨a,b,n⟩))):=by
 refine aH (fn:=Tryz.f120) (c:=n9) rfl (by kernel_rfl) (by kernel_rfl) (by kernel_rfl) (by kernel_rfl) ?_;refine tp _ _ _ fun g=>?_
 simp[af,ah,ad,ae,aa, *,oe,iN]
 repeat' ((first | refine td (fun h=>?_) (fun h=>?_) | refine nr (fun h=>?_) (fun h=>?_) | refine nv (fun h=>?_) (fun h=>?_) | refine nn (fun h=>?_) (fun h=>?_) | refine np (fun h=>?_) (fun h=>?_))<;>(try simp only[decide_eq_true_eq,decide_eq_false_iff_not,Bool.not_eq_true',Bool.not_eq_false',Bool.and_eq_true,Bool.or_eq_true]at h)<;>(try simp[af,ah,ad,ae,aa, *]))
@[simp] theorem Ve(a:UInt8)(b:UInt32)(n:UInt8)(k:Int):limf env 158 [.agg [a8 a,a32 b,a8 n,aI k]]=some (aI (bad (idB ⟨⟨a,b,n⟩,k⟩))):=by
 refine aH (fn:=Tryz.f158) (c:=vQ) rfl (by kernel_rfl) (by kernel_rfl) (by kernel_rfl) (by kernel_rfl) ?_;refine Cp _ _ _ fun g=>?_
 simp[af,ah,ad,ae,aa, *,vY,idB]
 repeat' ((first | refine td (fun h=>?_) (fun h=>?_) | refine nr (fun h=>?_) (fun h=>?_) | refine nv (fun h=>?_) (fun h=>?_) | refine nn (fun h=>?_) (fun h=>?_) | refine np (fun h=>?_) (fun h=>?_))<;>(try simp only[decide_eq_true_eq,decide_eq_false_iff_not,Bool.not_eq_true',Bool.not_eq_false',Bool.and_eq_true,Bool.or_eq_true]at h)<;>(try simp[af,ah,ad,ae,aa, *]))
@[simp] theorem Pb(a:UInt8)(b:UInt32)(n:UInt8)(k m:Int):limf env 156 [.agg [a8 a,a32 b,a8 n,aI k,aI m]]=some (aI (bad (qp ⟨⟨⟨a,b,n⟩,k⟩,m⟩))):=by
 refine aH (fn:=Tryz.f156) (c:=qj) rfl (by kernel_rfl) (by kernel_rfl) (by kernel_rfl) (by kernel_rfl) ?_;refine wi _ _ _ fun g=>?_
 cases hb:idB ⟨⟨a,b,n⟩,k⟩ with
 | false=>simp[af,ah,ad,ae,aa, *,iU,qp]
 | true =>
  have hn:=J7 hb
  simp only at hn
  by_cases h1:1≤m
  ·by_cases h2:m≤64
   ·have w1:=IntWalk.i64_in (k+m) (by omega)
    have w2:=IntWalk.i64_in (k+m - 1) (by omega)
    simp[af,ah,ad,ae,aa, *,iU,qp]
   ·simp[af,ah,ad,ae,aa, *,iU,qp]
  ·simp[af,ah,ad,ae,aa, *,iU,qp]
end Go.Proofs.YtiidajnodhkidaaGreat
namespace Go.Proofs.YtiidajnodhkidaaGreat
open Go.Ab
attribute [local simp] ct bK bO bN keep thr cC bD bP eE eD cN cB aV dk List.take_of_length_le
@[simp] theorem Sv(n:Int)(h0:0≤n):limf env 121 [aI n,aI 4]=some (.isl 1 (by8 (be 4 n)) none):=by
 refine aH (fn:=Tryz.f121) (c:=mP) rfl (by kernel_rfl) (by kernel_rfl) (by kernel_rfl) (by kernel_rfl) ?_;refine tn _ _ _ _ fun g=>?_
 have w5:IntKind.i64.wrap (-1) = -1:=rfl
 have w4:IntKind.i64.wrap 0=0:=rfl
 simp[af,ah,ad,ae,aa, *,pS]
 refine dh _ _ _ _ _ fun g=>?_
 simp[af,ah,ad,ae,aa, *,cZ,cS,cO]
 refine dh _ _ _ _ _ fun g=>?_
 simp[af,ah,ad,ae,aa, *,cZ,cS,cO]
 refine dh _ _ _ _ _ fun g=>?_
 simp[af,ah,ad,ae,aa, *,cZ,cS,cO]
 refine dh _ _ _ _ _ fun g=>?_
 simp[af,ah,ad,ae,aa, *,cZ,cS,cO]
 refine dh _ _ _ _ _ fun g=>?_
 simp[af,ah,ad,ae,aa, *,cZ,be_4,by8]
@[simp] theorem IP(n:Int)(h0:0≤n):limf env 121 [aI n,aI 7]=some (.isl 1 (by8 (be 7 n)) none):=by
 refine aH (fn:=Tryz.f121) (c:=mP) rfl (by kernel_rfl) (by kernel_rfl) (by kernel_rfl) (by kernel_rfl) ?_;refine tn _ _ _ _ fun g=>?_
 have w5:IntKind.i64.wrap (-1) = -1:=rfl
 have w4:IntKind.i64.wrap 0=0:=rfl
 simp[af,ah,ad,ae,aa, *,pS]
 refine dh _ _ _ _ _ fun g=>?_
 simp[af,ah,ad,ae,aa, *,cZ,cS,cO]
 refine dh _ _ _ _ _ fun g=>?_
 simp[af,ah,ad,ae,aa, *,cZ,cS,cO]
 refine dh _ _ _ _ _ fun g=>?_
 simp[af,ah,ad,ae,aa, *,cZ,cS,cO]
 refine dh _ _ _ _ _ fun g=>?_
 simp[af,ah,ad,ae,aa, *,cZ,cS,cO]
 refine dh _ _ _ _ _ fun g=>?_
 simp[af,ah,ad,ae,aa, *,cZ,cS,cO]
 refine dh _ _ _ _ _ fun g=>?_
 simp[af,ah,ad,ae,aa, *,cZ,cS,cO]
 refine dh _ _ _ _ _ fun g=>?_
 simp[af,ah,ad,ae,aa, *,cZ,cS,cO]
 refine dh _ _ _ _ _ fun g=>?_
 simp[af,ah,ad,ae,aa, *,cZ,be_7,by8]
theorem Jg{x5:AV}{Q:AV→Heap→Prop}{l:List UInt8}(hx:Sl 1 (by8 l) x5)(hl:l.length≤7) : ∀(s:List UInt8)(k:Nat)(i a:Int)(H:Heap),l.drop k=s→k≤l.length→i=k→0≤a→a<256 ^ k →
 (∀y H',y=aI (valF a s)→Q y H') →
 GoL env Tryz.f202 0 mM [(7,aI i),(2,aI a),(5,x5),(6,aI l.length)] H Q:=by
 intro s
 induction s with
 | nil =>
  rintro k i a H hs hk rfl h0 h1 hQ
  obtain rfl:=drop_nil hs hk
  refine tl _ _ _ _ _ _ fun g=>?_
  simp[af,ah,ad,ae,aa, *,pR]
  exact hQ _ _ rfl
 | cons b s ih =>
  rintro k i a H hs hk rfl h0 h1 hQ
  obtain⟨hlt,hg,hs',hg'⟩:=drop_cons hs
  refine tl _ _ _ _ _ _ fun g=>?_
  have hb:=b.toNat_lt
  have h2:=qK (k:=k) 6 (by omega)
  have e:=Bc h0 (by omega) b
  have e2:=IntWalk.i64_in (a * 256) (by omega)
  have e3:=IntWalk.i64_in ((k:Int)+1) (by omega)
  simp[af,ah,ad,ae,aa, *,pR,rA,hx.idx]
  exact ih (k+1) _ _ _ hs' (by omega) (by simp) (by omega) (by rw[Int.pow_succ];omega) hQ
@[simp] theorem IN{x:AV}{l:List UInt8}(hx:Sl 1 (by8 l) x)(hl:l.length≤7):limf env 202 [x]=some (aI (val l)):=by
 refine aH (fn:=Tryz.f202) (c:=tf) rfl (by kernel_rfl) (by kernel_rfl) (by kernel_rfl) (by kernel_rfl) ?_;refine D4 _ _ _ fun g=>?_
 have h:=hx.len
 simp[af,ah,ad,ae,aa, *,yC]
 exact Jg hx hl l 0 _ _ _ rfl (by omega) rfl (by omega) (by simp) (fun y H' e=>by simp[e,val])
def eC(h:Han):List UInt8:=h.lv :: (be 4 h.cats.toNat++[h.num])
@[simp] theorem z4(h:Han):(eC h).length=6:=by simp[eC]
@[simp] theorem Ei(a:UInt8)(b:UInt32)(n:UInt8):limf env 81 [.agg [a8 a,a32 b,a8 n]]=some (if iN ⟨a,b,n⟩ then .tup [.fsl 1 (by8 (eC ⟨a,b,n⟩)) none,aI 0] else .tup [aNil,aI 8]):=by
 refine aH (fn:=Tryz.f81) (c:=qh) rfl (by kernel_rfl) (by kernel_rfl) (by kernel_rfl) (by kernel_rfl) ?_;refine wg _ _ _ fun g=>?_
 cases h:iN ⟨a,b,n⟩ with
 | true=>simp[af,ah,ad,ae,aa, *,mB,bad,by8,eC]
 | false=>simp[af,ah,ad,ae,aa, *,mB,bad]
def gB(i:Idd):List UInt8:=eC i.h++be 7 i.n
@[simp] theorem RA(i:Idd):(gB i).length=13:=by simp[gB]
@[simp] theorem XS(a:UInt8)(b:UInt32)(n:UInt8)(k:Int):limf env 123 [.agg [a8 a,a32 b,a8 n,aI k]]=some (if idB ⟨⟨a,b,n⟩,k⟩ then .tup [.isl 1 (by8 (gB ⟨⟨a,b,n⟩,k⟩)) none,aI 0] else .tup [aNil,aI 8]):=by
 refine aH (fn:=Tryz.f123) (c:=Ai) rfl (by kernel_rfl) (by kernel_rfl) (by kernel_rfl) (by kernel_rfl) ?_;refine GJ _ _ _ fun g=>?_
 cases h:idB ⟨⟨a,b,n⟩,k⟩ with
 | true =>
  have hn:=J7 h
  have h7:=IP k (by simp only at hn;omega)
  have hh:iN ⟨a,b,n⟩=true:=by simp only[idB,Bool.and_eq_true]at h;exact h.1
  simp only at hn
  simp[af,ah,ad,ae,aa, *,vo,bad,by8,gB]
 | false=>simp[af,ah,ad,ae,aa, *,vo,bad]
theorem OU{c:Option Nat}{a n b1 b2 b3 b4:UInt8}(hc:6≤c.getD 6):limf env 193 [.isl 1 [a8 a,a8 b1,a8 b2,a8 b3,a8 b4,a8 n] c]=some (.agg [a8 a,a32 (u32 (val [b1,b2,b3,b4])),a8 n,aI (bad (iN ⟨a,u32 (val [b1,b2,b3,b4]),n⟩))]):=by
 refine aH (fn:=Tryz.f193) (c:=rf) rfl (by kernel_rfl) (by kernel_rfl) (by kernel_rfl) (by kernel_rfl) ?_;refine vq _ _ _ fun g=>?_
 have hr:=IN (l:=[b1,b2,b3,b4]) (x := .isl 1 [a8 b1,a8 b2,a8 b3,a8 b4] (c.map (· - 1))) (Sl.mkC (Fi hc (by simp))) (by simp)
 have hv:=xe [b1,b2,b3,b4]
 generalize val [b1,b2,b3,b4]=v at *
 simp[af,ah,ad,ae,aa, *,rk]
theorem xp{c:Option Nat}{a n b1 b2 b3 b4:UInt8}(hc:6≤c.getD 6):limf env 175 [.isl 1 [a8 a,a8 b1,a8 b2,a8 b3,a8 b4,a8 n] c] =
 some (if iN ⟨a,u32 (val [b1,b2,b3,b4]),n⟩ then .tup [.agg [a8 a,a32 (u32 (val [b1,b2,b3,b4])),a8 n],aI 0] else .tup [.agg [a8 0,a32 0,a8 0],aI 8]):=by
 refine aH (fn:=Tryz.f175) (c:=qi) rfl (by kernel_rfl) (by kernel_rfl) (by kernel_rfl) (by kernel_rfl) ?_;refine wh _ _ _ fun g=>?_
 have hr:=OU (a:=a) (n:=n) (b1:=b1) (b2:=b2) (b3:=b3) (b4:=b4) hc
 generalize val [b1,b2,b3,b4]=v at *
 cases h:iN ⟨a,u32 v,n⟩<;>simp[af,ah,ad,ae,aa, *,qm,bad]
theorem IQ{c:Option Nat}{a n b1 b2 b3 b4 d1 d2 d3 d4 d5 d6 d7:UInt8}(hc:13≤c.getD 13):limf env 193 [.isl 1 [a8 a,a8 b1,a8 b2,a8 b3,a8 b4,a8 n,a8 d1,a8 d2,a8 d3,a8 d4,a8 d5,a8 d6,a8 d7] c]=some (.agg [a8 a,a32 (u32 (val [b1,b2,b3,b4])),a8 n,aI (bad (iN ⟨a,u32 (val [b1,b2,b3,b4]),n⟩))]):=by
 refine aH (fn:=Tryz.f193) (c:=rf) rfl (by kernel_rfl) (by kernel_rfl) (by kernel_rfl) (by kernel_rfl) ?_;refine vq _ _ _ fun g=>?_
 have hr:=IN (l:=[b1,b2,b3,b4]) (x := .isl 1 [a8 b1,a8 b2,a8 b3,a8 b4] (c.map (· - 1))) (Sl.mkC (Fi hc (by simp))) (by simp)
 have hv:=xe [b1,b2,b3,b4]
 generalize val [b1,b2,b3,b4]=v at *
 simp[af,ah,ad,ae,aa, *,rk]
theorem SC{c:Option Nat}{a n b1 b2 b3 b4 d1 d2 d3 d4 d5 d6 d7:UInt8}(hc:13≤c.getD 13):limf env 203 [.isl 1 [a8 a,a8 b1,a8 b2,a8 b3,a8 b4,a8 n,a8 d1,a8 d2,a8 d3,a8 d4,a8 d5,a8 d6,a8 d7] c] =
 some (if idB ⟨⟨a,u32 (val [b1,b2,b3,b4]),n⟩,val [d1,d2,d3,d4,d5,d6,d7]⟩ then .tup [.agg [a8 a,a32 (u32 (val [b1,b2,b3,b4])),a8 n,aI (val [d1,d2,d3,d4,d5,d6,d7])],aI 0] else .tup [.agg [a8 0,a32 0,a8 0,aI 0],aI 8]):=by
 refine aH (fn:=Tryz.f203) (c:=Aj) rfl (by kernel_rfl) (by kernel_rfl) (by kernel_rfl) (by kernel_rfl) ?_;refine GK _ _ _ fun g=>?_
 have hr:=IQ (a:=a) (n:=n) (b1:=b1) (b2:=b2) (b3:=b3) (b4:=b4) (d1:=d1) (d2:=d2) (d3:=d3) (d4:=d4) (d5:=d5) (d6:=d6) (d7:=d7) hc
 have hs:=IN (l:=[d1,d2,d3,d4,d5,d6,d7]) (x := .isl 1 [a8 d1,a8 d2,a8 d3,a8 d4,a8 d5,a8 d6,a8 d7] (c.map (· - 6))) (Sl.mkC (Fi hc (by simp))) (by simp)
 generalize val [b1,b2,b3,b4]=v at *
 generalize val [d1,d2,d3,d4,d5,d6,d7]=w at *
 cases h:idB ⟨⟨a,u32 v,n⟩,w⟩<;>simp[af,ah,ad,ae,aa, *,An,bad]
end Go.Proofs.YtiidajnodhkidaaGreat
