/-
  An operation's bytes, there and back. No statement of a seat is proved here.
-/
import Derived.Test.YtmjkpdknicjjgaaOpRead
set_option linter.unusedVariables false
set_option linter.unusedSimpArgs false
set_option linter.unusedSectionVars false
set_option linter.unnecessarySimpa false
set_option maxRecDepth 100000
namespace Go.Proofs.Ytmjkpdknicjjgaa
open Go.Ab
theorem Ge {o:Opn} (h:opB o=true) (b:List UInt8):rawO (fv o++b)=o∧sA (fv o++b)=wD o∧vt (fv o++b)=true:=by
 have hp:=pv h
 have hlen:=qS h
 obtain ⟨k,hd,sr,⟨f,m⟩,a,to,l⟩:=o
 simp only at hp
 obtain ⟨hs0,hs1,⟨hf0,hf1⟩,hm0,hm1,hk⟩:=hp
 have em:((u8 m).toNat:Int)=m:=by rw [td];omega
 have em':(u8 m).toNat=m.toNat:=by omega
 have hsplit:fv ⟨k,hd,sr,⟨f,m⟩,a,to,l⟩++b=k :: (dA hd++(be 3 sr++(fA f++(u8 m :: ((if k=1 then oU a++c9 l else if k=3 then to.lv :: be 4 to.cats.toNat else [])++b))))):=by
  simp [fv,mY]
 obtain ⟨e1,e2⟩:=IX k (dA hd) (be 3 sr) (fA f) (u8 m) ((if k=1 then oU a++c9 l else if k=3 then to.lv :: be 4 to.cats.toNat else [])++b) (by simp) (by simp) (by simp)
 have hr:rawO (fv ⟨k,hd,sr,⟨f,m⟩,a,to,l⟩++b)=⟨k,hd,sr,⟨f,m⟩,a,to,l⟩:=by
  rw [hsplit,e1]
  unfold LZ
  rw [py,ta (by omega) (by omega),tq (by omega) (by omega),em,em']
  rcases hk with ⟨rfl,rfl,ha,hl,hrow⟩ | ⟨rfl,rfl,rfl,rfl⟩ | ⟨rfl,rfl,rfl,_⟩
  ·have hl2:(c9 l).length=4 * m.toNat:=by rw [lK];omega
   simp only [if_true]
   rw [List.append_assoc,List.take_left' (sX a),List.drop_left' (sX a),List.take_left' hl2,zF _ (Kq hrow).2.2]
   have:j6 (oU a)=a:=by
    unfold oU
    rcases ha with rfl | ha
    ·rfl
    ·split
     ·rename_i hz;rw [(o9 _).1 hz];rfl
     ·exact tq (by omega) (by omega)
   rw [this]
   rfl
  ·rfl
  ·obtain ⟨t,c⟩:=to
   have e3:((t :: be 4 (c.toNat:Int))++b).drop 1=be 4 (c.toNat:Int)++b:=rfl
   have e4:((t :: be 4 (c.toNat:Int))++b).headD 0=t:=rfl
   simp only [show ¬(3:UInt8)=1 by decide,if_false,if_true]
   rw [e3,e4,List.take_left' (xI _ _),sx]
 have hz:sA (fv ⟨k,hd,sr,⟨f,m⟩,a,to,l⟩++b)=wD ⟨k,hd,sr,⟨f,m⟩,a,to,l⟩:=by
  rw [hsplit,e2]
  unfold Eb wD
  rw [em']
 refine ⟨hr,hz,?_⟩
 simp only [vt,Bool.and_eq_true,decide_eq_true_eq]
 rw [hr,hz,List.length_append,hlen]
 exact ⟨by unfold wD;split<;>first | omega | (split<;>omega),by omega,h⟩
end Go.Proofs.Ytmjkpdknicjjgaa
