/-
  Disks as values: what a disk is behind writes. No statement of a seat is proved here.
-/
import Derived.Test.YtiidajnodhkidaaGreatMDskMath
import Derived.Test.YtiidajnodhkidaaGreatRecMath
set_option linter.unusedVariables false
set_option linter.unusedSimpArgs false
set_option linter.unusedSectionVars false
set_option linter.unnecessarySimpa false
set_option maxRecDepth 100000
namespace Go.Proofs.YtiidajnodhkidaaGreat
open Go.Ab
structure Dk where
 l:List Sec
 x:AV
 st:Int
 lf:Int
 dd:Bool
def Dk.val(d:Dk):AV:=dsk d.x d.st d.lf d.dd
structure Dk.Fit (d:Dk):Prop where
 sl:Sl 2 (encS d.l) d.x
 ok : ∀s∈d.l,oL s
 len:d.l.length<500000
def Dk.may(d:Dk):Bool:=dOk d.l d.st d.lf d.dd
def Dk.tw(d:Dk):Dk:=⟨twL d.l,vw (twA d.x d.l),d.st,d.lf,d.dd⟩
def Dk.dead(d:Dk):Bool:=d.dd||decide (d.lf=0)
def Dk.wr(d:Dk)(q:Int)(b:List UInt8):Dk :=
 if d.dead then ⟨twL d.l,vw (twA d.x d.l),d.st,d.lf,true⟩ else ⟨wrR q b d.l,.isl 2 (encS (wrR q b d.l)) none,d.st,if d.lf>0 then d.lf - 1 else d.lf,false⟩
def Dk.rd(d:Dk)(q:Int):List UInt8:=rdR d.l q
def Dk.wrs(d:Dk)(q:Int):List (List UInt8)→Dk
 | []=>d
 | b :: B=>(d.wr q b).wrs (q+1) B
theorem KN : ∀(l:List Sec)(a:Int),a≤6145→ascS a l=true→(l.length:Int)≤6145 - a:=by
 intro l
 induction l with
 | nil=>intro a ha _;simp;omega
 | cons p l ih =>
  intro a ha h
  simp[ascS]at h
  have:=ih p.pos (by omega) h.2
  simp only[List.length_cons]
  omega
theorem vc{d:Dk}(h:d.may=true):ascS (-1) d.l=true:=vi h
theorem PC{d:Dk}(h:d.may=true):d.l.length≤6146:=by
 have:=KN d.l (-1) (by omega) (vc h)
 omega
theorem tx{d:Dk}(h:d.Fit):d.tw.Fit:=⟨RS h.sl,Cx _,by show(twL d.l).length<_;rw[Ow];exact h.len⟩
theorem Il{d:Dk}:d.tw.may=d.may:=by unfold Dk.may Dk.tw dOk;rw[Cw]
theorem GM(d:Dk)(q:Int):d.tw.rd q=d.rd q:=LQ _ _
theorem Gz(d:Dk)(q:Int)(b:List UInt8):(d.wr q b).st=d.st:=by unfold Dk.wr;split<;>rfl
theorem Cc{d:Dk}(h:d.may=true){q:Int}(hq:0≤q∧q<6146){b:List UInt8}(hb:b.length=128):(d.wr q b).may=true:=by
 have ha:=vc h
 unfold Dk.may dOk at h ⊢
 unfold Dk.wr
 split
 ·rename_i hdd
  show(ascS (-1) (twL d.l)&&_)=true
  rw[Cw,ha]
  unfold Dk.dead at hdd
  unfold dhOk at h ⊢
  rw[ha]at h
  simp only[Bool.or_eq_true,decide_eq_true_eq]at hdd
  rcases hdd with hdd | hdd<;>simp[hdd]at h ⊢ <;> omega
 ·rename_i hdd
  show(ascS (-1) (wrR q b d.l)&&_)=true
  rw[Ud q b hq.2 hb d.l (-1) (by omega) ha]
  unfold Dk.dead at hdd
  unfold dhOk at h ⊢
  rw[ha]at h
  simp at h hdd ⊢
  obtain⟨h1,h2⟩:=hdd
  split<;>omega
theorem zI{d:Dk}(h:d.Fit)(hm:d.may=true){q:Int}(hq:0≤q∧q<6146){b:List UInt8}(hb:b.length=128):(d.wr q b).Fit:=by
 have:=PC (Cc hm hq hb)
 refine⟨?_,?_,by omega⟩
 ·unfold Dk.wr
  split
  ·exact RS h.sl
  ·exact Sl.mk _ _
 ·unfold Dk.wr
  split
  ·exact Cx _
  ·exact V1 q b d.l
theorem GA(d:Dk)(q r:Int)(b:List UInt8):(d.wr q b).rd r=if d.dead=false∧r=q then b else d.rd r:=by
 unfold Dk.wr Dk.rd
 cases d.dead
 ·simp only[Bool.false_eq_true,if_false,true_and]
  exact WR q r b d.l
 ·simp only[if_true,Bool.true_eq_false,false_and,if_false]
  exact LQ _ _
theorem Fx(q:Int)(B:List (List UInt8)) : ∀(d:Dk)(q:Int),(d.wrs q B).st=d.st:=by
 induction B with
 | nil=>intro d q;rfl
 | cons b B ih=>intro d q;show((d.wr q b).wrs (q+1) B).st=_;rw[ih,Gz]
theorem Ni : ∀(B:List (List UInt8)) (d:Dk) (q:Int),d.Fit→d.may=true→0≤q→q+B.length≤6146→(∀b∈B,b.length=128)→(d.wrs q B).Fit∧(d.wrs q B).may=true:=by
 intro B
 induction B with
 | nil=>intro d q h hm _ _ _;exact⟨h,hm⟩
 | cons b B ih =>
  intro d q h hm h0 h1 hb
  simp only[List.length_cons]at h1
  have b1:=hb b (List.mem_cons_self ..)
  exact ih (d.wr q b) (q+1) (zI h hm (by omega) b1) (Cc hm (by omega) b1) (by omega) (by omega) fun x hx=>hb x (List.mem_cons_of_mem _ hx)
def Dk.can(d:Dk)(n:Nat):Nat:=if d.dd then 0 else if d.lf<0 then n else min n d.lf.toNat
theorem Fy : ∀(B:List (List UInt8)) (d:Dk) (q r:Int), -1≤d.lf→(d.wrs q B).rd r=if q≤r∧r<q+d.can B.length then B.getD (r - q).toNat [] else d.rd r:=by
 intro B
 induction B with
 | nil=>intro d q r _;rw[if_neg (by unfold Dk.can;simp)];rfl
 | cons b B ih =>
  intro d q r hlf
  show((d.wr q b).wrs (q+1) B).rd r=_
  rw[ih _ _ _ (by unfold Dk.wr;split<;>(try (show _≤d.lf))<;>(try omega);show -1≤(if d.lf>0 then d.lf - 1 else d.lf);split<;>omega),GA]
  cases hd:d.dead with
  | true =>
   have e1:d.can (B.length+1)=0:=by
    unfold Dk.can;unfold Dk.dead at hd;simp at hd
    rcases hd with h | h
    ·rw[h];rfl
    ·rw[h];simp
   have e2:(d.wr q b).can B.length=0:=by unfold Dk.can Dk.wr;rw[hd];rfl
   rw[List.length_cons,e1,e2,if_neg (by omega),if_neg (by simp),if_neg (by omega)]
  | false =>
   have hdd:d.dd=false ∧¬d.lf=0:=by unfold Dk.dead at hd;simpa using hd
   have e3:d.can (B.length+1)=(d.wr q b).can B.length+1:=by
    unfold Dk.can Dk.wr
    rw[hd]
    simp only[Bool.false_eq_true,if_false,hdd.1]
    by_cases hn:d.lf<0
    ·rw[if_pos hn,if_neg (show ¬d.lf>0 by omega),if_pos hn]
    ·rw[if_neg hn,if_pos (show d.lf>0 by omega),if_neg (show ¬d.lf - 1<0 by omega)]
     omega
   rw[List.length_cons,e3]
   by_cases hq:r=q
   ·subst hq
    rw[if_neg (by omega),if_pos ⟨rfl,rfl⟩,if_pos (by omega)]
    simp
   ·rw[if_neg (show ¬(false=false∧r=q) from fun h=>hq h.2)]
    by_cases h2:q+1≤r∧r<q+1+(d.wr q b).can B.length
    ·rw[if_pos h2,if_pos (by omega)]
     obtain⟨j,hj⟩ : ∃j:Nat,(r - q).toNat=j+1:=⟨(r - q).toNat - 1,by omega⟩
     rw[hj,List.getD_cons_succ,show(r - (q+1)).toNat=j by omega]
    ·rw[if_neg h2,if_neg (by omega)]
theorem Cd(d:Dk)(q:Int)(b:List UInt8):(d.wr q b).lf=if d.dead then d.lf else if d.lf>0 then d.lf - 1 else d.lf:=by
 unfold Dk.wr
 cases d.dead<;>rfl
theorem w6(d:Dk)(q:Int)(b:List UInt8):(d.wr q b).dd=d.dead:=by
 unfold Dk.wr
 cases h:d.dead<;>rfl
theorem Ap : ∀(B:List (List UInt8)) (d:Dk) (q:Int),d.dd=false→0≤d.lf→(d.wrs q B).lf=d.lf - d.can B.length∧(d.wrs q B).dd=decide (d.lf<B.length):=by
 have dead : ∀(B:List (List UInt8)) (d:Dk) (q:Int),d.dd=true→(d.wrs q B).lf=d.lf∧(d.wrs q B).dd=true:=by
  intro B
  induction B with
  | nil=>intro d q h;exact⟨rfl,h⟩
  | cons b B ih =>
   intro d q h
   have hd:d.dead=true:=by unfold Dk.dead;rw[h];rfl
   have:=ih (d.wr q b) (q+1) (by rw[w6,hd])
   rw[Cd,hd]at this
   exact this
 intro B
 induction B with
 | nil=>intro d q h h0;exact⟨by show d.lf=_;unfold Dk.can;rw[h];simp,by show d.dd=_;rw[h];simp;omega⟩
 | cons b B ih =>
  intro d q h h0
  by_cases hz:d.lf=0
  ·have hd:d.dead=true:=by unfold Dk.dead;rw[hz];simp
   have:=dead B (d.wr q b) (q+1) (by rw[w6,hd])
   rw[Cd,hd]at this
   have e:(d.wrs q (b :: B))=(d.wr q b).wrs (q+1) B:=rfl
   rw[e,this.1,this.2]
   unfold Dk.can
   rw[h,hz]
   simp
  ·have hd:d.dead=false:=by unfold Dk.dead;rw[h];simp[hz]
   have hl:(d.wr q b).lf=d.lf - 1:=by rw[Cd,hd];simp;omega
   have h2:=ih (d.wr q b) (q+1) (by rw[w6,hd]) (by omega)
   have e:(d.wrs q (b :: B))=(d.wr q b).wrs (q+1) B:=rfl
   rw[e,h2.1,h2.2,hl]
   have c1:(d.wr q b).can B.length=min B.length (d.lf - 1).toNat:=by unfold Dk.can;rw[w6,hd,hl];simp;intro;omega
   have c2:d.can (b :: B).length=min (B.length+1) d.lf.toNat:=by unfold Dk.can;rw[h,List.length_cons];simp;intro;omega
   rw[c1,c2]
   refine⟨by omega,?_⟩
   rw[List.length_cons,decide_eq_decide]
   omega
theorem uL : ∀(B:List (List UInt8)) (d:Dk) (q:Int),d.dd=false→d.lf = -1→(d.wrs q B).lf = -1∧(d.wrs q B).dd=false:=by
 intro B
 induction B with
 | nil=>intro d q h h0;exact⟨h0,h⟩
 | cons b B ih =>
  intro d q h h0
  have hd:d.dead=false:=by unfold Dk.dead;rw[h,h0];rfl
  exact ih (d.wr q b) (q+1) (by rw[w6,hd]) (by rw[Cd,hd,h0];rfl)
theorem s_Wr{d:Dk}(h:d.Fit)(hm:d.may=true){q:Int}(hq:0≤q∧q<6146){b:List UInt8}{xb:AV}(hb:Sl 1 (by8 b) xb)(h128:b.length=128) :
 limf env 71 [d.val,aI q,xb]=some (.tup [(d.wr q b).val,aI 0]):=by
 obtain⟨l,x,st,lf,dd⟩:=d
 cases hd:(⟨l,x,st,lf,dd⟩:Dk).dead with
 | true =>
  have hdd:dd=true∨lf=0:=by unfold Dk.dead at hd;simpa using hd
  have:=Eg (st:=st) (lf:=lf) (dd:=dd) h.sl h.ok h.len hb hm hq h128 hdd
  unfold Dk.wr
  rw[hd]
  exact this
 | false =>
  have hdd:dd=false ∧¬lf=0:=by unfold Dk.dead at hd;simpa using hd
  obtain⟨rfl,h0⟩:=hdd
  have:=IV (st:=st) (lf:=lf) h.sl h.ok h.len hb hm hq h128 h0
  unfold Dk.wr
  rw[hd]
  rw[RQ]at this
  exact this
theorem s_Rd{d:Dk}(h:d.Fit)(hm:d.may=true){q:Int}(hq:0≤q∧q<6146):limf env 116 [d.val,aI q]=some (.tup [.isl 1 (by8 (d.rd q)) none,aI 0]):=by
 have:=Sx (st:=d.st) (lf:=d.lf) (dd:=d.dd) h.sl h.ok (by have:=h.len;omega) (q:=q)
 rw[if_pos (show dOk d.l d.st d.lf d.dd=true from hm),if_pos hq,SQ]at this
 exact this
theorem NG{d:Dk}(hm:d.may=true)(q:Int):(d.rd q).length=128:=by
 have h:=tg d.l (-1) (vc hm)
 unfold Dk.rd
 generalize d.l=l at *
 clear hm d
 induction l with
 | nil=>rfl
 | cons p l ih =>
  unfold rdR
  split
  ·exact ih fun s hs=>h s (List.mem_cons_of_mem _ hs)
  ·split
   ·exact h p (List.mem_cons_self ..)
   ·rfl
theorem wJ{d:Dk}(h:d.Fit):limf env 45 [d.val]=some (aI (if d.may then 0 else 8)):=Ek (st:=d.st) (lf:=d.lf) (dd:=d.dd) h.sl h.ok (by have:=h.len;omega)
end Go.Proofs.YtiidajnodhkidaaGreat
