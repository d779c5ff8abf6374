/-
  Records and their blocks: what is put is got; what is mixed is no record. No statement of a seat is proved here.
-/
import Derived.Test.YtiidajnodhkidaaGreatRecGet
import Derived.Test.YtiidajnodhkidaaGreatMIdsFns
set_option linter.unusedVariables false
set_option linter.unusedSimpArgs false
set_option linter.unusedSectionVars false
set_option linter.unnecessarySimpa false
set_option maxRecDepth 100000
namespace Go.Proofs.YtiidajnodhkidaaGreat
open Go.Ab
theorem Mi{a b:Opn}(h:zb a b=true):a=b:=by
 obtain⟨a_1,⟨a_2,a_3,a_4⟩,a_5,⟨⟨⟨a_6,a_7,a_8⟩,a_9⟩,a_10⟩,⟨⟨a_11,a_12,a_13⟩,a_14⟩,⟨a_15,a_16⟩,al⟩:=a
 obtain⟨b_1,⟨b_2,b_3,b_4⟩,b_5,⟨⟨⟨b_6,b_7,b_8⟩,b_9⟩,b_10⟩,⟨⟨b_11,b_12,b_13⟩,b_14⟩,⟨b_15,b_16⟩,bl⟩:=b
 simp[zb]at h
 simp[h]
theorem wJ{a b:Rcd}(h:lZ a b=true):a=b:=by
 obtain⟨a1,a2,a3,a4,a5,a6,a7,a8⟩:=a
 obtain⟨b1,b2,b3,b4,b5,b6,b7,b8⟩:=b
 simp only[lZ,Bool.and_eq_true,decide_eq_true_eq]at h
 obtain⟨h1,h2,h3,h4,h5,⟨h6,h7⟩,h8⟩:=h
 rw[h1,h2,Mi h3,h4,h5,h6,h7,h8]
theorem GN(a:Rcd):lZ a a=true:=by simp[lZ,zb]
theorem EU{α:Type}(p:List α)(a d:α)(t:List α){n:Nat}(h:p.length=n):(p++a :: t).getD n d=a:=by subst h;simp[List.getD]
theorem FQ{st nu of i:Int}{x:List UInt8}(h:x.length≤119):(rblk st nu of i x).length=128:=by simp[rblk];omega
theorem xV{st nu ix of:Int}:kX st nu ix of=true↔1≤st∧st<2147483648∧1≤nu∧nu<16777216∧1≤of∧of≤4∧0≤ix∧ix<of:=by
 simp only[kX,Bool.and_eq_true,decide_eq_true_eq,and_assoc]
theorem P8{st nu of i:Int}{x:List UInt8}(hx:x.length≤119)(hh:kX st nu i of=true):hdOf (rblk st nu of i x)=⟨st,nu,i,of⟩∧kA (rblk st nu of i x)=true:=by
 obtain⟨h1,h2,h3,h4,h5,h6,h7,h8⟩:=xV.1 hh
 have e:hdOf (rblk st nu of i x)=⟨st,nu,i,of⟩:=by
  have e1:(rblk st nu of i x).take 4=be 4 st:=List.take_left' (An 4 st)
  have e2:((rblk st nu of i x).drop 4).take 3=be 3 nu:=by
   rw[show(rblk st nu of i x).drop 4=be 3 nu++([u8 i,u8 of]++(x++List.replicate (119 - x.length) 0)) from List.drop_left' (An 4 st)]
   exact List.take_left' (An 3 nu)
  have e3:(rblk st nu of i x).getD 7 0=u8 i:=by
   have:=EU (be 4 st++be 3 nu) (u8 i) 0 (u8 of :: (x++List.replicate (119 - x.length) 0)) (n:=7) (by simp)
   rw[←this];simp[rblk]
  have e4:(rblk st nu of i x).getD 8 0=u8 of:=by
   have:=EU (be 4 st++(be 3 nu++[u8 i])) (u8 of) 0 (x++List.replicate (119 - x.length) 0) (n:=8) (by simp)
   rw[←this];simp[rblk]
  unfold hdOf
  rw[e1,e2,e3,e4,rS (by omega) (by omega),rS (by omega) (by omega),vu,vu]
  congr 1<;>omega
 refine⟨e,?_⟩
 unfold kA
 rw[e,FQ hx]
 simpa using hh
theorem CU(st nu of:Int) : ∀(l:List (List UInt8)) (i:Int) (k:Nat),(oG st nu of i l)[k]?=(l[k]?).map (rblk st nu of (i+k))
 | [],_,_=>rfl
 | x :: l,i,0=>by simp[oG]
 | x :: l,i,k+1=>by
  rw[oG,List.getElem?_cons_succ,List.getElem?_cons_succ,CU st nu of l (i+1) k]
  congr 2
  omega
theorem CV : ∀(m:Nat)(s:List UInt8),∀x∈pcs m s,x.length≤119
 | 0,_,x,h=>by cases h
 | m+1,s,x,h=>by
  rw[pcs]at h
  split at h
  ·cases h
  ·rcases List.mem_cons.1 h with rfl | h
   ·simp;omega
   ·exact CV m _ x h
theorem FU : ∀(m:Nat)(s:List UInt8),s.length≤119 * m→(pcs m s).length=(s.length+118) / 119
 | 0,s,h=>by rw[show s.length=0 by omega];rfl
 | m+1,s,h=>by
  rw[pcs]
  split
  ·rename_i e;rw[e];rfl
  ·rename_i e
   have hp:0<s.length:=List.length_pos_iff.2 e
   rw[List.length_cons,FU m (s.drop 119) (by rw[List.length_drop];omega),List.length_drop]
   omega
theorem Gn(st nu of:Int) : ∀(m:Nat)(s:List UInt8)(i:Int),s.length≤119 * m →∃z,catB (oG st nu of i (pcs m s))=s++List.replicate z 0
 | 0,s,i,h=>⟨0,by rw[show s=[] from List.length_eq_zero_iff.1 (by omega)];rfl⟩
 | m+1,s,i,h=>by
  rw[pcs]
  split
  ·rename_i e;exact⟨0,by rw[e];rfl⟩
  ·rename_i e
   obtain⟨z,hz⟩:=Gn st nu of m (s.drop 119) (i+1) (by rw[List.length_drop];omega)
   have e9:(rblk st nu of i (s.take 119)).drop 9=s.take 119++List.replicate (119 - (s.take 119).length) 0:=by
    have:rblk st nu of i (s.take 119)=(be 4 st++(be 3 nu++[u8 i,u8 of]))++(s.take 119++List.replicate (119 - (s.take 119).length) 0):=by simp[rblk]
    rw[this]
    exact List.drop_left' (by simp)
   have hc:catB (oG st nu of i (s.take 119 :: pcs m (s.drop 119)))=(s.take 119++List.replicate (119 - (s.take 119).length) 0)++(s.drop 119++List.replicate z 0):=by
    rw[←hz,←e9]
    simp[catB,oG]
   rw[hc]
   by_cases h119:s.length≤119
   ·refine⟨119 - s.length+z,?_⟩
    rw[List.take_of_length_le h119,List.drop_of_length_le h119,List.nil_append,List.append_assoc,List.replicate_append_replicate]
   ·refine⟨z,?_⟩
    rw[List.length_take,show 119 - min 119 s.length=0 by omega,List.replicate_zero,List.append_nil,←List.append_assoc,List.take_append_drop]
theorem Qc{h:Han}(hb:iH h=true):hanG (eu h)=h:=by
 unfold hanG
 rw[qK,if_pos hb]
theorem FY{r:Rcd}(h:eD r=true)(z:List UInt8):fv (recB r++z)=r:=by
 unfold eD at h
 unfold recB fv
 split at h
 ·rename_i k1
  simp only[Bool.and_eq_true,decide_eq_true_eq]at h
  obtain⟨⟨h1,h2⟩,h3,h4⟩:=h
  have hw:=wJ h4
  unfold GA at hw
  rw[if_pos k1]at hw
  rw[if_pos k1,List.cons_append]
  have e0:(r.kind :: (eu r.op.h++[u8 r.user]++z)).getD 0 0=1:=k1
  have e7:(r.kind :: (eu r.op.h++[u8 r.user]++z)).getD 7 0=u8 r.user:=by
   have:=EU (r.kind :: eu r.op.h) (u8 r.user) 0 z (n:=7) (by simp)
   rw[←this];simp
  have e6:((r.kind :: (eu r.op.h++[u8 r.user]++z)).drop 1).take 6=eu r.op.h:=by
   rw[List.drop_one,List.tail_cons,List.append_assoc]
   exact List.take_left' (Ae _)
  rw[if_pos e0,e7,e6,Qc h3,vu]
  conv=>rhs;rw[hw]
  rw[show r.user % 256=r.user by omega]
 ·rename_i k1
  split at h
  ·rename_i k2
   simp only[Bool.and_eq_true,decide_eq_true_eq,Bool.not_eq_true']at h
   obtain⟨⟨⟨h0,h1⟩,h2⟩,h3,h4⟩:=h
   have hw:=wJ h4
   unfold GA at hw
   rw[if_neg k1,if_pos k2]at hw
   rw[if_neg k1,if_pos k2,List.cons_append]
   have e0:(r.kind :: ([u8 (r.code / 256),u8 r.code]++gj r.op++z)).getD 0 0=2:=k2
   have e3:(r.kind :: ([u8 (r.code / 256),u8 r.code]++gj r.op++z)).drop 3=gj r.op++z:=by simp
   have e2:((r.kind :: ([u8 (r.code / 256),u8 r.code]++gj r.op++z)).drop 1).take 2=be 2 r.code:=by
    simp[be]
   have hr:=Jf h3 z
   have hg:opG (gj r.op++z)=r.op:=by unfold opG;rw[if_pos hr.2.2,hr.1]
   rw[if_neg (by rw[e0];decide),if_pos e0,e3,e2,hg,rS (by omega) (by omega)]
   conv=>rhs;rw[hw]
  ·rename_i k2
   split at h
   ·rename_i k3
    simp only[Bool.and_eq_true]at h
    obtain⟨h1,h4⟩:=h
    have hw:=wJ h4
    unfold GA at hw
    rw[if_neg k1,if_neg k2]at hw
    rw[if_neg k1,if_neg k2,List.cons_append]
    have e0:(r.kind :: (lM r.gu r.gv r.gc r.gok++z)).getD 0 0=3:=k3
    have e7:((r.kind :: (lM r.gu r.gv r.gc r.gok++z)).drop 1).take 7=lM r.gu r.gv r.gc r.gok:=by
     rw[List.drop_one,List.tail_cons]
     exact List.take_left' (by simp[lM])
    rw[if_neg (by rw[e0];decide),if_neg (by rw[e0];decide),if_pos e0,e7]
    have hu:(0≤r.gu∧r.gu<8):=by simp only[mayG,Bool.and_eq_true,decide_eq_true_eq]at h1;exact h1.1
    have g0:((lM r.gu r.gv r.gc r.gok).getD 0 0).toNat=r.gu:=by
     show((u8 r.gu).toNat:Int)=r.gu
     rw[vu];omega
    have g1:(lM r.gu r.gv r.gc r.gok).getD 1 0=if r.gok then 1 else 0:=rfl
    have g2:(lM r.gu r.gv r.gc r.gok).getD 2 0=r.gv:=rfl
    have g3:u32 (val (((lM r.gu r.gv r.gc r.gok).drop 3).take 4))=r.gc:=by
     rw[show((lM r.gu r.gv r.gc r.gok).drop 3).take 4=be 4 r.gc.toNat from List.take_of_length_le (by simp[lM])]
     exact uQ r.gc
    have g4:decide ((if r.gok then (1:UInt8) else 0)=1)=r.gok:=by cases r.gok<;>rfl
    have g5:decide ((if r.gok then (1:UInt8) else 0)≤1)=true:=by cases r.gok<;>rfl
    unfold nO
    rw[g0,g1,g2,g3,g4,g5,h1,Bool.true_and,if_pos rfl]
    conv=>rhs;rw[hw]
    rw[k3]
   ·cases h
theorem fD{r:Rcd}(h:eD r=true)(st nu:Int):(dM r st nu).length=recN r:=by
 unfold dM
 rw[xB,FU 3 _ (xz h).1]
 rfl
theorem j2{r:Rcd}{st nu:Int}(hh:kX st nu 0 (recN r)=true){i:Nat}{b:List UInt8}(hb:(dM r st nu)[i]?=some b)(hi:i<recN r):hdOf b=⟨st,nu,i,recN r⟩∧kA b=true∧b.length=128:=by
 unfold dM at hb
 rw[CU,Option.map_eq_some_iff]at hb
 obtain⟨x,hx,rfl⟩:=hb
 have hs:=CV 3 _ x (List.mem_of_getElem? hx)
 obtain⟨h1,h2,h3,h4,h5,h6,h7,h8⟩:=xV.1 hh
 have:=P8 (st:=st) (nu:=nu) (of:=recN r) (i:=0+(i:Int)) hs (xV.2 ⟨h1,h2,h3,h4,h5,h6,by omega,by omega⟩)
 rw[show(0:Int)+i=i by omega]at this
 rw[show(0:Int)+i=i by omega]
 exact⟨this.1,this.2,FQ hs⟩
theorem ET{r:Rcd}{st nu:Int}(h:eD r=true)(hh:kX st nu 0 (recN r)=true):getR (dM r st nu)=some (r,⟨st,nu,0,recN r⟩):=by
 have hn:=Al h st nu
 obtain⟨z,hz⟩:=Gn st nu (recN r) 3 (recB r) 0 (xz h).1
 have hp:=FY h (List.replicate z 0)
 obtain⟨b,hb⟩ : ∃b,(dM r st nu)[0]?=some b:=⟨_,List.getElem?_eq_getElem (List.length_pos_iff.2 hn)⟩
 have h1:=nY h
 have hd:=j2 hh hb (by omega)
 have hhd:(dM r st nu).headD []=b:=by
  cases hl:dM r st nu with
  | nil=>exact absurd hl hn
  | cons a l=>rw[hl]at hb;simpa using hb
 have hc:catB (dM r st nu)=recB r++List.replicate z 0:=hz
 unfold getR yd
 rw[hhd,hd.2.1,hd.1,hc,hp,h]
 have h8:8≤(recB r++List.replicate z 0).length:=by rw[List.length_append];have:=(xz h).2;omega
 simp only[hh,decide_eq_true h8,decide_true,Bool.and_self,if_true]
 rfl
theorem Ah{l:List (List UInt8)}{p:Rcd × Hd}(h:getR l=some p) : ∀(i:Nat)(b:List UInt8),l[i]?=some b→hdOf b=⟨p.2.st,p.2.nu,i,l.length⟩:=by
 intro i b hb
 unfold getR at h
 split at h
 ·rename_i hc
  cases h
  simp only[Bool.and_eq_true,yd,decide_eq_true_eq]at hc
  obtain⟨h0,h8,⟨hr,hh⟩,hl⟩:=hc
  have hlen:=fD hr (hdOf (l.headD [])).st (hdOf (l.headD [])).nu
  rw[hl]at hlen
  have hi:=(List.getElem?_eq_some_iff.1 hb).1
  have hb':=hb
  rw[←hl]at hb'
  have:=j2 hh hb' (by omega)
  rw[this.1,hlen]
 ·cases h
section
variable{r:Rcd}{st nu:Int}(h:eD r=true)(hh:kX st nu 0 (recN r)=true)(h2:2≤recN r)
include h hh h2
end
theorem KG{B:List (List UInt8)}{k:Nat}{b:List UInt8}(h:B[k]?=some b):(lN B)[k]?=some (.isl 1 (by8 b) none):=by simp[lN,h,blkV]
theorem FP{B:List (List UInt8)}{k:Nat}{b:List UInt8}(h:B[k]?=some b):dV (lN B) k 0 1 false=some (.isl 1 (by8 b) none):=by
 unfold dV
 rw[KG h]
 rfl
theorem KB{B:List (List UInt8)}(h : ∀b∈B,b.length=128)(hl:B.length≤4):(catB B).length<100000:=by
 have : ∀B:List (List UInt8),(∀b∈B,b.length=128)→(catB B).length≤128 * B.length:=by
  intro B
  induction B with
  | nil=>intro _;simp[catB]
  | cons b B ih =>
   intro h
   have h1:=ih fun x hx=>h x (List.mem_cons_of_mem _ hx)
   have h2:=h b (List.mem_cons_self ..)
   have e:catB (b :: B)=b.drop 9++catB B:=rfl
   rw[e,List.length_append,List.length_drop,List.length_cons]
   omega
 have:=this B h
 omega
theorem DO{r:Rcd}{st nu:Int}(hI:eD r=true)(hh:kX st nu 0 (recN r)=true) : ∀b∈dM r st nu,b.length=128:=by
 intro b hb
 obtain⟨i,hi⟩:=List.mem_iff_getElem?.1 hb
 have:=(List.getElem?_eq_some_iff.1 hi).1
 rw[fD hI]at this
 exact(j2 hh hi this).2.2
end Go.Proofs.YtiidajnodhkidaaGreat
namespace Go.Proofs.YtiidajnodhkidaaGreat
open Go.Ab
structure Dk where
 l:List Sec
 x:AV
 st:Int
 lf:Int
 dd:Bool
def Dk.val(d:Dk):AV:=dsk d.x d.st d.lf d.dd
structure Dk.Fit (d:Dk):Prop where
 sl:Sl 2 (encS d.l) d.x
 ok : ∀s∈d.l,rO s
 len:d.l.length<500000
def Dk.may(d:Dk):Bool:=dOk d.l d.st d.lf d.dd
def Dk.tw(d:Dk):Dk:=⟨twL d.l,vw (twA d.x d.l),d.st,d.lf,d.dd⟩
def Dk.dead(d:Dk):Bool:=d.dd||decide (d.lf=0)
def Dk.wr(d:Dk)(q:Int)(b:List UInt8):Dk :=
 if d.dead then ⟨twL d.l,vw (twA d.x d.l),d.st,d.lf,true⟩ else ⟨wrR q b d.l,.isl 2 (encS (wrR q b d.l)) none,d.st,if d.lf>0 then d.lf - 1 else d.lf,false⟩
def Dk.rd(d:Dk)(q:Int):List UInt8:=rdR d.l q
def Dk.wrs(d:Dk)(q:Int):List (List UInt8)→Dk
 | []=>d
 | b :: B=>(d.wr q b).wrs (q+1) B
theorem KM : ∀(l:List Sec)(a:Int),a≤6145→ascS a l=true→(l.length:Int)≤6145 - a:=by
 intro l
 induction l with
 | nil=>intro a ha _;simp;omega
 | cons p l ih =>
  intro a ha h
  simp[ascS]at h
  have:=ih p.pos (by omega) h.2
  simp only[List.length_cons]
  omega
theorem sU{d:Dk}(h:d.may=true):ascS (-1) d.l=true:=vh h
theorem PN{d:Dk}(h:d.may=true):d.l.length≤6146:=by
 have:=KM d.l (-1) (by omega) (sU h)
 omega
theorem rT{d:Dk}(h:d.Fit):d.tw.Fit:=⟨Ou h.sl,zT _,by show(twL d.l).length<_;rw[Ik];exact h.len⟩
theorem Ij{d:Dk}:d.tw.may=d.may:=by unfold Dk.may Dk.tw dOk;rw[zS]
theorem GI(d:Dk)(q:Int):d.tw.rd q=d.rd q:=Je _ _
theorem Gv(d:Dk)(q:Int)(b:List UInt8):(d.wr q b).st=d.st:=by unfold Dk.wr;split<;>rfl
theorem Cj{d:Dk}(h:d.may=true){q:Int}(hq:0≤q∧q<6146){b:List UInt8}(hb:b.length=128):(d.wr q b).may=true:=by
 have ha:=sU h
 unfold Dk.may dOk at h ⊢
 unfold Dk.wr
 split
 ·rename_i hdd
  show(ascS (-1) (twL d.l)&&_)=true
  rw[zS,ha]
  unfold Dk.dead at hdd
  unfold dhOk at h ⊢
  rw[ha]at h
  simp only[Bool.or_eq_true,decide_eq_true_eq]at hdd
  rcases hdd with hdd | hdd<;>simp[hdd]at h ⊢ <;> omega
 ·rename_i hdd
  show(ascS (-1) (wrR q b d.l)&&_)=true
  rw[Um q b hq.2 hb d.l (-1) (by omega) ha]
  unfold Dk.dead at hdd
  unfold dhOk at h ⊢
  rw[ha]at h
  simp at h hdd ⊢
  obtain⟨h1,h2⟩:=hdd
  split<;>omega
theorem zP{d:Dk}(h:d.Fit)(hm:d.may=true){q:Int}(hq:0≤q∧q<6146){b:List UInt8}(hb:b.length=128):(d.wr q b).Fit:=by
 have:=PN (Cj hm hq hb)
 refine⟨?_,?_,by omega⟩
 ·unfold Dk.wr
  split
  ·exact Ou h.sl
  ·exact Sl.mk _ _
 ·unfold Dk.wr
  split
  ·exact zT _
  ·exact Wb q b d.l
theorem Gw(d:Dk)(q r:Int)(b:List UInt8):(d.wr q b).rd r=if d.dead=false∧r=q then b else d.rd r:=by
 unfold Dk.wr Dk.rd
 cases d.dead
 ·simp only[Bool.false_eq_true,if_false,true_and]
  exact W6 q r b d.l
 ·simp only[if_true,Bool.true_eq_false,false_and,if_false]
  exact Je _ _
theorem Fz(q:Int)(B:List (List UInt8)) : ∀(d:Dk)(q:Int),(d.wrs q B).st=d.st:=by
 induction B with
 | nil=>intro d q;rfl
 | cons b B ih=>intro d q;show((d.wr q b).wrs (q+1) B).st=_;rw[ih,Gv]
theorem Nn : ∀(B:List (List UInt8)) (d:Dk) (q:Int),d.Fit→d.may=true→0≤q→q+B.length≤6146→(∀b∈B,b.length=128)→(d.wrs q B).Fit∧(d.wrs q B).may=true:=by
 intro B
 induction B with
 | nil=>intro d q h hm _ _ _;exact⟨h,hm⟩
 | cons b B ih =>
  intro d q h hm h0 h1 hb
  simp only[List.length_cons]at h1
  have b1:=hb b (List.mem_cons_self ..)
  exact ih (d.wr q b) (q+1) (zP h hm (by omega) b1) (Cj hm (by omega) b1) (by omega) (by omega) fun x hx=>hb x (List.mem_cons_of_mem _ hx)
def Dk.can(d:Dk)(n:Nat):Nat:=if d.dd then 0 else if d.lf<0 then n else min n d.lf.toNat
theorem FA : ∀(B:List (List UInt8)) (d:Dk) (q r:Int), -1≤d.lf→(d.wrs q B).rd r=if q≤r∧r<q+d.can B.length then B.getD (r - q).toNat [] else d.rd r:=by
 intro B
 induction B with
 | nil=>intro d q r _;rw[if_neg (by unfold Dk.can;simp)];rfl
 | cons b B ih =>
  intro d q r hlf
  show((d.wr q b).wrs (q+1) B).rd r=_
  rw[ih _ _ _ (by unfold Dk.wr;split<;>(try (show _≤d.lf))<;>(try omega);show -1≤(if d.lf>0 then d.lf - 1 else d.lf);split<;>omega),Gw]
  cases hd:d.dead with
  | true =>
   have e1:d.can (B.length+1)=0:=by
    unfold Dk.can;unfold Dk.dead at hd;simp at hd
    rcases hd with h | h
    ·rw[h];rfl
    ·rw[h];simp
   have e2:(d.wr q b).can B.length=0:=by unfold Dk.can Dk.wr;rw[hd];rfl
   rw[List.length_cons,e1,e2,if_neg (by omega),if_neg (by simp),if_neg (by omega)]
  | false =>
   have hdd:d.dd=false ∧¬d.lf=0:=by unfold Dk.dead at hd;simpa using hd
   have e3:d.can (B.length+1)=(d.wr q b).can B.length+1:=by
    unfold Dk.can Dk.wr
    rw[hd]
    simp only[Bool.false_eq_true,if_false,hdd.1]
    by_cases hn:d.lf<0
    ·rw[if_pos hn,if_neg (show ¬d.lf>0 by omega),if_pos hn]
    ·rw[if_neg hn,if_pos (show d.lf>0 by omega),if_neg (show ¬d.lf - 1<0 by omega)]
     omega
   rw[List.length_cons,e3]
   by_cases hq:r=q
   ·subst hq
    rw[if_neg (by omega),if_pos ⟨rfl,rfl⟩,if_pos (by omega)]
    simp
   ·rw[if_neg (show ¬(false=false∧r=q) from fun h=>hq h.2)]
    by_cases h2:q+1≤r∧r<q+1+(d.wr q b).can B.length
    ·rw[if_pos h2,if_pos (by omega)]
     obtain⟨j,hj⟩ : ∃j:Nat,(r - q).toNat=j+1:=⟨(r - q).toNat - 1,by omega⟩
     rw[hj,List.getD_cons_succ,show(r - (q+1)).toNat=j by omega]
    ·rw[if_neg h2,if_neg (by omega)]
theorem Ck(d:Dk)(q:Int)(b:List UInt8):(d.wr q b).lf=if d.dead then d.lf else if d.lf>0 then d.lf - 1 else d.lf:=by
 unfold Dk.wr
 cases d.dead<;>rfl
theorem xc(d:Dk)(q:Int)(b:List UInt8):(d.wr q b).dd=d.dead:=by
 unfold Dk.wr
 cases h:d.dead<;>rfl
theorem Aw : ∀(B:List (List UInt8)) (d:Dk) (q:Int),d.dd=false→0≤d.lf→(d.wrs q B).lf=d.lf - d.can B.length∧(d.wrs q B).dd=decide (d.lf<B.length):=by
 have dead : ∀(B:List (List UInt8)) (d:Dk) (q:Int),d.dd=true→(d.wrs q B).lf=d.lf∧(d.wrs q B).dd=true:=by
  intro B
  induction B with
  | nil=>intro d q h;exact⟨rfl,h⟩
  | cons b B ih =>
   intro d q h
   have hd:d.dead=true:=by unfold Dk.dead;rw[h];rfl
   have:=ih (d.wr q b) (q+1) (by rw[xc,hd])
   rw[Ck,hd]at this
   exact this
 intro B
 induction B with
 | nil=>intro d q h h0;exact⟨by show d.lf=_;unfold Dk.can;rw[h];simp,by show d.dd=_;rw[h];simp;omega⟩
 | cons b B ih =>
  intro d q h h0
  by_cases hz:d.lf=0
  ·have hd:d.dead=true:=by unfold Dk.dead;rw[hz];simp
   have:=dead B (d.wr q b) (q+1) (by rw[xc,hd])
   rw[Ck,hd]at this
   have e:(d.wrs q (b :: B))=(d.wr q b).wrs (q+1) B:=rfl
   rw[e,this.1,this.2]
   unfold Dk.can
   rw[h,hz]
   simp
  ·have hd:d.dead=false:=by unfold Dk.dead;rw[h];simp[hz]
   have hl:(d.wr q b).lf=d.lf - 1:=by rw[Ck,hd];simp;omega
   have h2:=ih (d.wr q b) (q+1) (by rw[xc,hd]) (by omega)
   have e:(d.wrs q (b :: B))=(d.wr q b).wrs (q+1) B:=rfl
   rw[e,h2.1,h2.2,hl]
   have c1:(d.wr q b).can B.length=min B.length (d.lf - 1).toNat:=by unfold Dk.can;rw[xc,hd,hl];simp;intro;omega
   have c2:d.can (b :: B).length=min (B.length+1) d.lf.toNat:=by unfold Dk.can;rw[h,List.length_cons];simp;intro;omega
   rw[c1,c2]
   refine⟨by omega,?_⟩
   rw[List.length_cons,decide_eq_decide]
   omega
theorem w8 : ∀(B:List (List UInt8)) (d:Dk) (q:Int),d.dd=false→d.lf = -1→(d.wrs q B).lf = -1∧(d.wrs q B).dd=false:=by
 intro B
 induction B with
 | nil=>intro d q h h0;exact⟨h0,h⟩
 | cons b B ih =>
  intro d q h h0
  have hd:d.dead=false:=by unfold Dk.dead;rw[h,h0];rfl
  exact ih (d.wr q b) (q+1) (by rw[xc,hd]) (by rw[Ck,hd,h0];rfl)
theorem s_Wr{d:Dk}(h:d.Fit)(hm:d.may=true){q:Int}(hq:0≤q∧q<6146){b:List UInt8}{xb:AV}(hb:Sl 1 (by8 b) xb)(h128:b.length=128) :
 limf env 71 [d.val,aI q,xb]=some (.tup [(d.wr q b).val,aI 0]):=by
 obtain⟨l,x,st,lf,dd⟩:=d
 cases hd:(⟨l,x,st,lf,dd⟩:Dk).dead with
 | true =>
  have hdd:dd=true∨lf=0:=by unfold Dk.dead at hd;simpa using hd
  have:=El (st:=st) (lf:=lf) (dd:=dd) h.sl h.ok h.len hb hm hq h128 hdd
  unfold Dk.wr
  rw[hd]
  exact this
 | false =>
  have hdd:dd=false ∧¬lf=0:=by unfold Dk.dead at hd;simpa using hd
  obtain⟨rfl,h0⟩:=hdd
  have:=IT (st:=st) (lf:=lf) h.sl h.ok h.len hb hm hq h128 h0
  unfold Dk.wr
  rw[hd]
  rw[R4]at this
  exact this
theorem s_Rd{d:Dk}(h:d.Fit)(hm:d.may=true){q:Int}(hq:0≤q∧q<6146):limf env 116 [d.val,aI q]=some (.tup [.isl 1 (by8 (d.rd q)) none,aI 0]):=by
 have:=SK (st:=d.st) (lf:=d.lf) (dd:=d.dd) h.sl h.ok (by have:=h.len;omega) (q:=q)
 rw[if_pos (show dOk d.l d.st d.lf d.dd=true from hm),if_pos hq,S5]at this
 exact this
theorem NK{d:Dk}(hm:d.may=true)(q:Int):(d.rd q).length=128:=by
 have h:=td d.l (-1) (sU hm)
 unfold Dk.rd
 generalize d.l=l at *
 clear hm d
 induction l with
 | nil=>rfl
 | cons p l ih =>
  unfold rdR
  split
  ·exact ih fun s hs=>h s (List.mem_cons_of_mem _ hs)
  ·split
   ·exact h p (List.mem_cons_self ..)
   ·rfl
theorem wK{d:Dk}(h:d.Fit):limf env 45 [d.val]=some (aI (if d.may then 0 else 8)):=Eo (st:=d.st) (lf:=d.lf) (dd:=d.dd) h.sl h.ok (by have:=h.len;omega)
end Go.Proofs.YtiidajnodhkidaaGreat
