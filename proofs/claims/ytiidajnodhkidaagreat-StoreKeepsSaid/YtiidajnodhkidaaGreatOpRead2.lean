/-
  An operation's bytes, there and back. No statement of a seat is proved here.
-/
import Derived.Test.YtiidajnodhkidaaGreatMOpSame
set_option linter.unusedVariables false
set_option linter.unusedSimpArgs false
set_option linter.unusedSectionVars false
set_option linter.unnecessarySimpa false
set_option maxRecDepth 100000
namespace Go.Proofs.YtiidajnodhkidaaGreat
open Go.Ab
theorem Jj{o:Opn}(h:opB o=true)(b:List UInt8):rawO (gr o++b)=o∧uT (gr o++b)=yX o∧xU (gr o++b)=true:=by
 have hp:=qM h
 have hlen:=sT h
 obtain⟨k,hd,sr,⟨f,m⟩,a,to,l⟩:=o
 simp only at hp
 obtain⟨hs0,hs1,⟨hf0,hf1⟩,hm0,hm1,hk⟩:=hp
 have em:((u8 m).toNat:Int)=m:=by rw[vt];omega
 have em':(u8 m).toNat=m.toNat:=by omega
 have hsplit:gr ⟨k,hd,sr,⟨f,m⟩,a,to,l⟩++b=k :: (eC hd++(be 3 sr++(gB f++(u8 m :: ((if k=1 then ql a++dW l else if k=3 then to.lv :: be 4 to.cats.toNat else [])++b))))):=by
  simp[gr,oA]
 obtain⟨e1,e2⟩:=LS k (eC hd) (be 3 sr) (gB f) (u8 m) ((if k=1 then ql a++dW l else if k=3 then to.lv :: be 4 to.cats.toNat else [])++b) (by simp) (by simp) (by simp)
 have hr:rawO (gr ⟨k,hd,sr,⟨f,m⟩,a,to,l⟩++b)=⟨k,hd,sr,⟨f,m⟩,a,to,l⟩:=by
  rw[hsplit,e1]
  unfold Pv
  rw[qR,rX (by omega) (by omega),vH (by omega) (by omega),em,em']
  rcases hk with ⟨rfl,rfl,ha,hl,hrow⟩ | ⟨rfl,rfl,rfl,rfl⟩ | ⟨rfl,rfl,rfl,_⟩
  ·have hl2:(dW l).length=4 * m.toNat:=by rw[mV];omega
   simp only[if_true]
   rw[List.append_assoc,List.take_left' (vm a),List.drop_left' (vm a),List.take_left' hl2,Ce _ (NB hrow).2.2]
   have:kY (ql a)=a:=by
    unfold ql
    rcases ha with rfl | ha
    ·rfl
    ·split
     ·rename_i hz;rw[(qu _).1 hz];rfl
     ·exact vH (by omega) (by omega)
   rw[this]
   rfl
  ·rfl
  ·obtain⟨t,c⟩:=to
   have e3:((t :: be 4 (c.toNat:Int))++b).drop 1=be 4 (c.toNat:Int)++b:=rfl
   have e4:((t :: be 4 (c.toNat:Int))++b).headD 0=t:=rfl
   simp only[show ¬(3:UInt8)=1 by decide,if_false,if_true]
   rw[e3,e4,List.take_left' (Ag _ _),uQ]
 have hz:uT (gr ⟨k,hd,sr,⟨f,m⟩,a,to,l⟩++b)=yX ⟨k,hd,sr,⟨f,m⟩,a,to,l⟩:=by
  rw[hsplit,e2]
  unfold GO yX
  rw[em']
 refine⟨hr,hz,?_⟩
 simp only[xU,Bool.and_eq_true,decide_eq_true_eq]
 rw[hr,hz,List.length_append,hlen]
 exact⟨by unfold yX;split<;>first | omega | (split<;>omega),by omega,h⟩
end Go.Proofs.YtiidajnodhkidaaGreat
