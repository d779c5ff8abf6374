/-
  Records and their blocks: what is put is got; what is mixed is no record. No statement of a seat is proved here.
-/
import Derived.Test.YtiidajnodhkidaaGreatRecGet
set_option linter.unusedVariables false
set_option linter.unusedSimpArgs false
set_option linter.unusedSectionVars false
set_option linter.unnecessarySimpa false
set_option maxRecDepth 100000
namespace Go.Proofs.YtiidajnodhkidaaGreat
open Go.Ab
theorem Mh{a b:Opn}(h:yY a b=true):a=b:=by
 obtain⟨a_1,⟨a_2,a_3,a_4⟩,a_5,⟨⟨⟨a_6,a_7,a_8⟩,a_9⟩,a_10⟩,⟨⟨a_11,a_12,a_13⟩,a_14⟩,⟨a_15,a_16⟩,al⟩:=a
 obtain⟨b_1,⟨b_2,b_3,b_4⟩,b_5,⟨⟨⟨b_6,b_7,b_8⟩,b_9⟩,b_10⟩,⟨⟨b_11,b_12,b_13⟩,b_14⟩,⟨b_15,b_16⟩,bl⟩:=b
 simp[yY]at h
 simp[h]
theorem wI{a b:Rcd}(h:mh a b=true):a=b:=by
 obtain⟨a1,a2,a3,a4,a5,a6,a7,a8⟩:=a
 obtain⟨b1,b2,b3,b4,b5,b6,b7,b8⟩:=b
 simp only[mh,Bool.and_eq_true,decide_eq_true_eq]at h
 obtain⟨h1,h2,h3,h4,h5,⟨h6,h7⟩,h8⟩:=h
 rw[h1,h2,Mh h3,h4,h5,h6,h7,h8]
theorem GR(a:Rcd):mh a a=true:=by simp[mh,yY]
theorem EP{α:Type}(p:List α)(a d:α)(t:List α){n:Nat}(h:p.length=n):(p++a :: t).getD n d=a:=by subst h;simp[List.getD]
theorem FU{st nu of i:Int}{x:List UInt8}(h:x.length≤119):(rblk st nu of i x).length=128:=by simp[rblk];omega
theorem xQ{st nu ix of:Int}:kZ st nu ix of=true↔1≤st∧st<2147483648∧1≤nu∧nu<16777216∧1≤of∧of≤4∧0≤ix∧ix<of:=by
 simp only[kZ,Bool.and_eq_true,decide_eq_true_eq,and_assoc]
theorem PU{st nu of i:Int}{x:List UInt8}(hx:x.length≤119)(hh:kZ st nu i of=true):hdOf (rblk st nu of i x)=⟨st,nu,i,of⟩∧kD (rblk st nu of i x)=true:=by
 obtain⟨h1,h2,h3,h4,h5,h6,h7,h8⟩:=xQ.1 hh
 have e:hdOf (rblk st nu of i x)=⟨st,nu,i,of⟩:=by
  have e1:(rblk st nu of i x).take 4=be 4 st:=List.take_left' (Ag 4 st)
  have e2:((rblk st nu of i x).drop 4).take 3=be 3 nu:=by
   rw[show(rblk st nu of i x).drop 4=be 3 nu++([u8 i,u8 of]++(x++List.replicate (119 - x.length) 0)) from List.drop_left' (Ag 4 st)]
   exact List.take_left' (Ag 3 nu)
  have e3:(rblk st nu of i x).getD 7 0=u8 i:=by
   have:=EP (be 4 st++be 3 nu) (u8 i) 0 (u8 of :: (x++List.replicate (119 - x.length) 0)) (n:=7) (by simp)
   rw[←this];simp[rblk]
  have e4:(rblk st nu of i x).getD 8 0=u8 of:=by
   have:=EP (be 4 st++(be 3 nu++[u8 i])) (u8 of) 0 (x++List.replicate (119 - x.length) 0) (n:=8) (by simp)
   rw[←this];simp[rblk]
  unfold hdOf
  rw[e1,e2,e3,e4,rX (by omega) (by omega),rX (by omega) (by omega),vt,vt]
  congr 1<;>omega
 refine⟨e,?_⟩
 unfold kD
 rw[e,FU hx]
 simpa using hh
theorem CR(st nu of:Int) : ∀(l:List (List UInt8)) (i:Int) (k:Nat),(oU st nu of i l)[k]?=(l[k]?).map (rblk st nu of (i+k))
 | [],_,_=>rfl
 | x :: l,i,0=>by simp[oU]
 | x :: l,i,k+1=>by
  rw[oU,List.getElem?_cons_succ,List.getElem?_cons_succ,CR st nu of l (i+1) k]
  congr 2
  omega
theorem CS : ∀(m:Nat)(s:List UInt8),∀x∈pcs m s,x.length≤119
 | 0,_,x,h=>by cases h
 | m+1,s,x,h=>by
  rw[pcs]at h
  split at h
  ·cases h
  ·rcases List.mem_cons.1 h with rfl | h
   ·simp;omega
   ·exact CS m _ x h
theorem FY : ∀(m:Nat)(s:List UInt8),s.length≤119 * m→(pcs m s).length=(s.length+118) / 119
 | 0,s,h=>by rw[show s.length=0 by omega];rfl
 | m+1,s,h=>by
  rw[pcs]
  split
  ·rename_i e;rw[e];rfl
  ·rename_i e
   have hp:0<s.length:=List.length_pos_iff.2 e
   rw[List.length_cons,FY m (s.drop 119) (by rw[List.length_drop];omega),List.length_drop]
   omega
theorem Gt(st nu of:Int) : ∀(m:Nat)(s:List UInt8)(i:Int),s.length≤119 * m →∃z,catB (oU st nu of i (pcs m s))=s++List.replicate z 0
 | 0,s,i,h=>⟨0,by rw[show s=[] from List.length_eq_zero_iff.1 (by omega)];rfl⟩
 | m+1,s,i,h=>by
  rw[pcs]
  split
  ·rename_i e;exact⟨0,by rw[e];rfl⟩
  ·rename_i e
   obtain⟨z,hz⟩:=Gt st nu of m (s.drop 119) (i+1) (by rw[List.length_drop];omega)
   have e9:(rblk st nu of i (s.take 119)).drop 9=s.take 119++List.replicate (119 - (s.take 119).length) 0:=by
    have:rblk st nu of i (s.take 119)=(be 4 st++(be 3 nu++[u8 i,u8 of]))++(s.take 119++List.replicate (119 - (s.take 119).length) 0):=by simp[rblk]
    rw[this]
    exact List.drop_left' (by simp)
   have hc:catB (oU st nu of i (s.take 119 :: pcs m (s.drop 119)))=(s.take 119++List.replicate (119 - (s.take 119).length) 0)++(s.drop 119++List.replicate z 0):=by
    rw[←hz,←e9]
    simp[catB,oU]
   rw[hc]
   by_cases h119:s.length≤119
   ·refine⟨119 - s.length+z,?_⟩
    rw[List.take_of_length_le h119,List.drop_of_length_le h119,List.nil_append,List.append_assoc,List.replicate_append_replicate]
   ·refine⟨z,?_⟩
    rw[List.length_take,show 119 - min 119 s.length=0 by omega,List.replicate_zero,List.append_nil,←List.append_assoc,List.take_append_drop]
theorem PY{h:Han}(hb:iN h=true):hanG (eC h)=h:=by
 unfold hanG
 rw[qR,if_pos hb]
theorem F1{r:Rcd}(h:ej r=true)(z:List UInt8):fv (recB r++z)=r:=by
 unfold ej at h
 unfold recB fv
 split at h
 ·rename_i k1
  simp only[Bool.and_eq_true,decide_eq_true_eq]at h
  obtain⟨⟨h1,h2⟩,h3,h4⟩:=h
  have hw:=wI h4
  unfold GF at hw
  rw[if_pos k1]at hw
  rw[if_pos k1,List.cons_append]
  have e0:(r.kind :: (eC r.op.h++[u8 r.user]++z)).getD 0 0=1:=k1
  have e7:(r.kind :: (eC r.op.h++[u8 r.user]++z)).getD 7 0=u8 r.user:=by
   have:=EP (r.kind :: eC r.op.h) (u8 r.user) 0 z (n:=7) (by simp)
   rw[←this];simp
  have e6:((r.kind :: (eC r.op.h++[u8 r.user]++z)).drop 1).take 6=eC r.op.h:=by
   rw[List.drop_one,List.tail_cons,List.append_assoc]
   exact List.take_left' (z4 _)
  rw[if_pos e0,e7,e6,PY h3,vt]
  conv=>rhs;rw[hw]
  rw[show r.user % 256=r.user by omega]
 ·rename_i k1
  split at h
  ·rename_i k2
   simp only[Bool.and_eq_true,decide_eq_true_eq,Bool.not_eq_true']at h
   obtain⟨⟨⟨h0,h1⟩,h2⟩,h3,h4⟩:=h
   have hw:=wI h4
   unfold GF at hw
   rw[if_neg k1,if_pos k2]at hw
   rw[if_neg k1,if_pos k2,List.cons_append]
   have e0:(r.kind :: ([u8 (r.code / 256),u8 r.code]++gr r.op++z)).getD 0 0=2:=k2
   have e3:(r.kind :: ([u8 (r.code / 256),u8 r.code]++gr r.op++z)).drop 3=gr r.op++z:=by simp
   have e2:((r.kind :: ([u8 (r.code / 256),u8 r.code]++gr r.op++z)).drop 1).take 2=be 2 r.code:=by
    simp[be]
   have hr:=Jj h3 z
   have hg:opG (gr r.op++z)=r.op:=by unfold opG;rw[if_pos hr.2.2,hr.1]
   rw[if_neg (by rw[e0];decide),if_pos e0,e3,e2,hg,rX (by omega) (by omega)]
   conv=>rhs;rw[hw]
  ·rename_i k2
   split at h
   ·rename_i k3
    simp only[Bool.and_eq_true]at h
    obtain⟨h1,h4⟩:=h
    have hw:=wI h4
    unfold GF at hw
    rw[if_neg k1,if_neg k2]at hw
    rw[if_neg k1,if_neg k2,List.cons_append]
    have e0:(r.kind :: (lQ r.gu r.gv r.gc r.gok++z)).getD 0 0=3:=k3
    have e7:((r.kind :: (lQ r.gu r.gv r.gc r.gok++z)).drop 1).take 7=lQ r.gu r.gv r.gc r.gok:=by
     rw[List.drop_one,List.tail_cons]
     exact List.take_left' (by simp[lQ])
    rw[if_neg (by rw[e0];decide),if_neg (by rw[e0];decide),if_pos e0,e7]
    have hu:(0≤r.gu∧r.gu<8):=by simp only[mayG,Bool.and_eq_true,decide_eq_true_eq]at h1;exact h1.1
    have g0:((lQ r.gu r.gv r.gc r.gok).getD 0 0).toNat=r.gu:=by
     show((u8 r.gu).toNat:Int)=r.gu
     rw[vt];omega
    have g1:(lQ r.gu r.gv r.gc r.gok).getD 1 0=if r.gok then 1 else 0:=rfl
    have g2:(lQ r.gu r.gv r.gc r.gok).getD 2 0=r.gv:=rfl
    have g3:u32 (val (((lQ r.gu r.gv r.gc r.gok).drop 3).take 4))=r.gc:=by
     rw[show((lQ r.gu r.gv r.gc r.gok).drop 3).take 4=be 4 r.gc.toNat from List.take_of_length_le (by simp[lQ])]
     exact uQ r.gc
    have g4:decide ((if r.gok then (1:UInt8) else 0)=1)=r.gok:=by cases r.gok<;>rfl
    have g5:decide ((if r.gok then (1:UInt8) else 0)≤1)=true:=by cases r.gok<;>rfl
    unfold nY
    rw[g0,g1,g2,g3,g4,g5,h1,Bool.true_and,if_pos rfl]
    conv=>rhs;rw[hw]
    rw[k3]
   ·cases h
theorem fc{r:Rcd}(h:ej r=true)(st nu:Int):(dF r st nu).length=recN r:=by
 unfold dF
 rw[xw,FY 3 _ (xu h).1]
 rfl
theorem j5{r:Rcd}{st nu:Int}(hh:kZ st nu 0 (recN r)=true){i:Nat}{b:List UInt8}(hb:(dF r st nu)[i]?=some b)(hi:i<recN r):hdOf b=⟨st,nu,i,recN r⟩∧kD b=true∧b.length=128:=by
 unfold dF at hb
 rw[CR,Option.map_eq_some_iff]at hb
 obtain⟨x,hx,rfl⟩:=hb
 have hs:=CS 3 _ x (List.mem_of_getElem? hx)
 obtain⟨h1,h2,h3,h4,h5,h6,h7,h8⟩:=xQ.1 hh
 have:=PU (st:=st) (nu:=nu) (of:=recN r) (i:=0+(i:Int)) hs (xQ.2 ⟨h1,h2,h3,h4,h5,h6,by omega,by omega⟩)
 rw[show(0:Int)+i=i by omega]at this
 rw[show(0:Int)+i=i by omega]
 exact⟨this.1,this.2,FU hs⟩
theorem EO{r:Rcd}{st nu:Int}(h:ej r=true)(hh:kZ st nu 0 (recN r)=true):getR (dF r st nu)=some (r,⟨st,nu,0,recN r⟩):=by
 have hn:=Ae h st nu
 obtain⟨z,hz⟩:=Gt st nu (recN r) 3 (recB r) 0 (xu h).1
 have hp:=F1 h (List.replicate z 0)
 obtain⟨b,hb⟩ : ∃b,(dF r st nu)[0]?=some b:=⟨_,List.getElem?_eq_getElem (List.length_pos_iff.2 hn)⟩
 have h1:=m9 h
 have hd:=j5 hh hb (by omega)
 have hhd:(dF r st nu).headD []=b:=by
  cases hl:dF r st nu with
  | nil=>exact absurd hl hn
  | cons a l=>rw[hl]at hb;simpa using hb
 have hc:catB (dF r st nu)=recB r++List.replicate z 0:=hz
 unfold getR wA
 rw[hhd,hd.2.1,hd.1,hc,hp,h]
 have h8:8≤(recB r++List.replicate z 0).length:=by rw[List.length_append];have:=(xu h).2;omega
 simp only[hh,decide_eq_true h8,decide_true,Bool.and_self,if_true]
 rfl
theorem z8{l:List (List UInt8)}{p:Rcd × Hd}(h:getR l=some p) : ∀(i:Nat)(b:List UInt8),l[i]?=some b→hdOf b=⟨p.2.st,p.2.nu,i,l.length⟩:=by
 intro i b hb
 unfold getR at h
 split at h
 ·rename_i hc
  cases h
  simp only[Bool.and_eq_true,wA,decide_eq_true_eq]at hc
  obtain⟨h0,h8,⟨hr,hh⟩,hl⟩:=hc
  have hlen:=fc hr (hdOf (l.headD [])).st (hdOf (l.headD [])).nu
  rw[hl]at hlen
  have hi:=(List.getElem?_eq_some_iff.1 hb).1
  have hb':=hb
  rw[←hl]at hb'
  have:=j5 hh hb' (by omega)
  rw[this.1,hlen]
 ·cases h
section
variable{r:Rcd}{st nu:Int}(h:ej r=true)(hh:kZ st nu 0 (recN r)=true)(h2:2≤recN r)
include h hh h2
end
theorem KH{B:List (List UInt8)}{k:Nat}{b:List UInt8}(h:B[k]?=some b):(lS B)[k]?=some (.isl 1 (by8 b) none):=by simp[lS,h,blkV]
theorem FT{B:List (List UInt8)}{k:Nat}{b:List UInt8}(h:B[k]?=some b):ee (lS B) k 0 1 false=some (.isl 1 (by8 b) none):=by
 unfold ee
 rw[KH h]
 rfl
theorem KC{B:List (List UInt8)}(h : ∀b∈B,b.length=128)(hl:B.length≤4):(catB B).length<100000:=by
 have : ∀B:List (List UInt8),(∀b∈B,b.length=128)→(catB B).length≤128 * B.length:=by
  intro B
  induction B with
  | nil=>intro _;simp[catB]
  | cons b B ih =>
   intro h
   have h1:=ih fun x hx=>h x (List.mem_cons_of_mem _ hx)
   have h2:=h b (List.mem_cons_self ..)
   have e:catB (b :: B)=b.drop 9++catB B:=rfl
   rw[e,List.length_append,List.length_drop,List.length_cons]
   omega
 have:=this B h
 omega
theorem DK{r:Rcd}{st nu:Int}(hI:ej r=true)(hh:kZ st nu 0 (recN r)=true) : ∀b∈dF r st nu,b.length=128:=by
 intro b hb
 obtain⟨i,hi⟩:=List.mem_iff_getElem?.1 hb
 have:=(List.getElem?_eq_some_iff.1 hi).1
 rw[fc hI]at this
 exact(j5 hh hi this).2.2
end Go.Proofs.YtiidajnodhkidaaGreat
