/-
  An operation's bytes, there and back. No statement of a seat is proved here.
-/
import Derived.Test.YtmjkpdknicjjgaaOpRead
set_option linter.unusedVariables false
set_option linter.unusedSimpArgs false
set_option linter.unusedSectionVars false
set_option linter.unnecessarySimpa false
set_option maxRecDepth 100000
namespace Go.Proofs.Ytmjkpdknicjjgaa
open Go.Ab
theorem GL {o:Opn} (h:opB o=true) (b:List UInt8):rawO (fD o++b)=o∧sR (fD o++b)=w6 o∧vR (fD o++b)=true:=by
 have hp:=pF h
 have hlen:=rk h
 obtain ⟨k,hd,sr,⟨f,m⟩,a,to,l⟩:=o
 simp only at hp
 obtain ⟨hs0,hs1,⟨hf0,hf1⟩,hm0,hm1,hk⟩:=hp
 have em:((u8 m).toNat:Int)=m:=by rw [tx];omega
 have em':(u8 m).toNat=m.toNat:=by omega
 have hsplit:fD ⟨k,hd,sr,⟨f,m⟩,a,to,l⟩++b=k :: (dI hd++(be 3 sr++(fJ f++(u8 m :: ((if k=1 then o8 a++dh l else if k=3 then to.lv :: be 4 to.cats.toNat else [])++b))))):=by
  simp [fD,nm]
 obtain ⟨e1,e2⟩:=JB k (dI hd) (be 3 sr) (fJ f) (u8 m) ((if k=1 then o8 a++dh l else if k=3 then to.lv :: be 4 to.cats.toNat else [])++b) (by simp) (by simp) (by simp)
 have hr:rawO (fD ⟨k,hd,sr,⟨f,m⟩,a,to,l⟩++b)=⟨k,hd,sr,⟨f,m⟩,a,to,l⟩:=by
  rw [hsplit,e1]
  unfold MM
  rw [pI,tv (by omega) (by omega),tJ (by omega) (by omega),em,em']
  rcases hk with ⟨rfl,rfl,ha,hl,hrow⟩ | ⟨rfl,rfl,rfl,rfl⟩ | ⟨rfl,rfl,rfl,_⟩
  ·have hl2:(dh l).length=4 * m.toNat:=by rw [lZ];omega
   simp only [if_true]
   rw [List.append_assoc,List.take_left' (tn a),List.drop_left' (tn a),List.take_left' hl2,z6 _ (Lb hrow).2.2]
   have:kr (o8 a)=a:=by
    unfold o8
    rcases ha with rfl | ha
    ·rfl
    ·split
     ·rename_i hz;rw [(pn _).1 hz];rfl
     ·exact tJ (by omega) (by omega)
   rw [this]
   rfl
  ·rfl
  ·obtain ⟨t,c⟩:=to
   have e3:((t :: be 4 (c.toNat:Int))++b).drop 1=be 4 (c.toNat:Int)++b:=rfl
   have e4:((t :: be 4 (c.toNat:Int))++b).headD 0=t:=rfl
   simp only [show ¬(3:UInt8)=1 by decide,if_false,if_true]
   rw [e3,e4,List.take_left' (yi _ _),sP]
 have hz:sR (fD ⟨k,hd,sr,⟨f,m⟩,a,to,l⟩++b)=w6 ⟨k,hd,sr,⟨f,m⟩,a,to,l⟩:=by
  rw [hsplit,e2]
  unfold EB w6
  rw [em']
 refine ⟨hr,hz,?_⟩
 simp only [vR,Bool.and_eq_true,decide_eq_true_eq]
 rw [hr,hz,List.length_append,hlen]
 exact ⟨by unfold w6;split<;>first | omega | (split<;>omega),by omega,h⟩
end Go.Proofs.Ytmjkpdknicjjgaa
