/-
  An operation's bytes, there and back. No statement of a seat is proved here.
-/
import Derived.Test.YtmjkpdknicjjgaaOpRead
set_option linter.unusedVariables false
set_option linter.unusedSimpArgs false
set_option linter.unusedSectionVars false
set_option linter.unnecessarySimpa false
set_option maxRecDepth 100000
namespace Go.Proofs.Ytmjkpdknicjjgaa
open Go.Ab
theorem Hk {o:Opn} (h:opB o=true) (b:List UInt8):rawO (fv o++b)=o∧ta (fv o++b)=xv o∧wq (fv o++b)=true:=by
 have hp:=qb h
 have hlen:=rB h
 obtain ⟨k,hd,sr,⟨f,m⟩,a,to,l⟩:=o
 simp only at hp
 obtain ⟨hs0,hs1,⟨hf0,hf1⟩,hm0,hm1,hk⟩:=hp
 have em:((u8 m).toNat:Int)=m:=by rw [tJ];omega
 have em':(u8 m).toNat=m.toNat:=by omega
 have hsplit:fv ⟨k,hd,sr,⟨f,m⟩,a,to,l⟩++b=k :: (dC hd++(be 3 sr++(fC f++(u8 m :: ((if k=1 then pI a++de l else if k=3 then to.lv :: be 4 to.cats.toNat else [])++b))))):=by
  simp [fv,nF]
 obtain ⟨e1,e2⟩:=J2 k (dC hd) (be 3 sr) (fC f) (u8 m) ((if k=1 then pI a++de l else if k=3 then to.lv :: be 4 to.cats.toNat else [])++b) (by simp) (by simp) (by simp)
 have hr:rawO (fv ⟨k,hd,sr,⟨f,m⟩,a,to,l⟩++b)=⟨k,hd,sr,⟨f,m⟩,a,to,l⟩:=by
  rw [hsplit,e1]
  unfold Nh
  rw [qh,q5 (by omega) (by omega),tV (by omega) (by omega),em,em']
  rcases hk with ⟨rfl,rfl,ha,hl,hrow⟩ | ⟨rfl,rfl,rfl,rfl⟩ | ⟨rfl,rfl,rfl,_⟩
  ·have hl2:(de l).length=4 * m.toNat:=by rw [mi];omega
   simp only [if_true]
   rw [List.append_assoc,List.take_left' (tE a),List.drop_left' (tE a),List.take_left' hl2,AE _ (LA hrow).2.2]
   have:kq (pI a)=a:=by
    unfold pI
    rcases ha with rfl | ha
    ·rfl
    ·split
     ·rename_i hz;rw [(pN _).1 hz];rfl
     ·exact tV (by omega) (by omega)
   rw [this]
   rfl
  ·rfl
  ·obtain ⟨t,c⟩:=to
   have e3:((t :: be 4 (c.toNat:Int))++b).drop 1=be 4 (c.toNat:Int)++b:=rfl
   have e4:((t :: be 4 (c.toNat:Int))++b).headD 0=t:=rfl
   simp only [show ¬(3:UInt8)=1 by decide,if_false,if_true]
   rw [e3,e4,List.take_left' (yE _ _),s8]
 have hz:ta (fv ⟨k,hd,sr,⟨f,m⟩,a,to,l⟩++b)=xv ⟨k,hd,sr,⟨f,m⟩,a,to,l⟩:=by
  rw [hsplit,e2]
  unfold E8 xv
  rw [em']
 refine ⟨hr,hz,?_⟩
 simp only [wq,Bool.and_eq_true,decide_eq_true_eq]
 rw [hr,hz,List.length_append,hlen]
 exact ⟨by unfold xv;split<;>first | omega | (split<;>omega),by omega,h⟩
end Go.Proofs.Ytmjkpdknicjjgaa
