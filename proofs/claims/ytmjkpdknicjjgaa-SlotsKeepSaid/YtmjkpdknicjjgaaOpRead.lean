/-
  An operation's bytes, and what bytes tell. No statement of a seat is proved here.
-/
import Derived.Test.YtmjkpdknicjjgaaRdFns2
set_option linter.unusedVariables false
set_option linter.unusedSimpArgs false
set_option linter.unusedSectionVars false
set_option linter.unnecessarySimpa false
set_option maxRecDepth 100000
namespace Go.Proofs.Ytmjkpdknicjjgaa
open Go.Ab
theorem JT {a b:Int} (h:a % 256=b % 256):u8 a=u8 b:=by
 apply UInt8.toNat_inj.1
 have h1:=tW a
 have h2:=tW b
 omega
theorem LR (n:Int) : ∃j,IntKind.i32.wrap n=n+4294967296 * j ∧ -2147483648≤IntKind.i32.wrap n∧IntKind.i32.wrap n≤2147483647:=by
 rw [IntKind.wrap_i32]
 exact ⟨-((n+2147483648) / 4294967296),by omega,by omega,by omega⟩
def word (a b c d:UInt8):Int:=IntKind.i32.wrap (val [a,b,c,d])
def words:List UInt8→List Int
 | a :: b :: c :: d :: l=>word a b c d :: words l
 | _=>[]
theorem Jq (n j:Int):be 4 (n+4294967296 * j)=be 4 n:=by
 rw [be_4,be_4,JT (a:=(n+4294967296 * j) / 16777216) (b:=n / 16777216) (by omega),JT (a:=(n+4294967296 * j) / 65536) (b:=n / 65536) (by omega),
  JT (a:=(n+4294967296 * j) / 256) (b:=n / 256) (by omega),JT (a:=n+4294967296 * j) (b:=n) (by omega)]
theorem Jp (a b c d:UInt8):be 4 (word a b c d)=[a,b,c,d]:=by
 obtain ⟨j,h,_⟩:=LR (val [a,b,c,d])
 unfold word
 rw [h,Jq]
 exact Eb rfl
theorem EY {P:List UInt8→Prop} (h0:P []) (h4 : ∀a b c d l,P l→P (a :: b :: c :: d :: l)) : ∀(n:Nat) (l:List UInt8),l.length=4 * n→P l:=by
 intro n
 induction n with
 | zero=>intro l h;obtain rfl:l=[]:=List.length_eq_zero_iff.1 (by omega);exact h0
 | succ n ih =>
  intro l h
  match l,h with
  | a :: b :: c :: d :: l,h=>exact h4 a b c d l (ih l (by simp only [List.length_cons] at h;omega))
theorem tY (n:Nat) (l:List UInt8) (h:l.length=4 * n):de (words l)=l∧(words l).length=n:=by
 constructor
 ·exact EY (P:=fun l=>de (words l)=l) rfl (fun a b c d l ih=>by
   show be 4 (word a b c d)++de (words l)=_
   rw [ih,Jp];rfl) n l h
 ·have:=mo (words l)
  rw [EY (P:=fun l=>de (words l)=l) rfl (fun a b c d l ih=>by
   show be 4 (word a b c d)++de (words l)=_
   rw [ih,Jp];rfl) n l h] at this
  omega
theorem ML {n:Int} (h0 : -2147483648≤n) (h1:n≤2147483647):word (u8 (n / 16777216)) (u8 (n / 65536)) (u8 (n / 256)) (u8 n)=n:=by
 obtain ⟨j,h,h2,h3⟩:=LR (val [u8 (n / 16777216),u8 (n / 65536),u8 (n / 256),u8 n])
 unfold word
 rw [←be_4] at *
 have e:val (be 4 n)=n∨val (be 4 n)=n+4294967296:=by
  rcases Int.lt_or_le n 0 with hn | hn
  ·right
   have:=Jq n 1
   rw [←this]
   exact rh (by omega) (by omega)
  ·exact .inl (rh hn (by omega))
 omega
theorem AQ (l:List Int) (h : ∀n∈l, -2147483648≤n∧n≤2147483647):words (de l)=l:=by
 induction l with
 | nil=>rfl
 | cons n l ih =>
  have hn:=h n (List.mem_cons_self ..)
  show words (be 4 n++de l)=_
  rw [be_4]
  show word _ _ _ _ :: words (de l)=_
  rw [ML hn.1 hn.2,ih fun m hm=>h m (List.mem_cons_of_mem _ hm)]
theorem tl (c:UInt32):u32 (val (be 4 (c.toNat:Int)))=c:=by
 have:=c.toNat_lt
 rw [rh (by omega) (by omega)]
 simp
theorem Gu (l:List UInt8) (h:l.length=4):be 4 ((u32 (val l)).toNat:Int)=l:=by
 have hb:=vL l
 rw [h] at hb
 have e:((u32 (val l)).toNat:Int)=val l:=by
  rw [oe];omega
 rw [e]
 exact Eb h
theorem qp (h:Han):mW (dD h)=h:=by
 obtain ⟨a,b,c⟩:=h
 have:=tl b
 rw [be_4] at this
 simp [mW,dD,be_4]
 simpa using this
theorem B8 {l:List UInt8} (h:l.length=6):dD (mW l)=l:=by
 obtain ⟨a,b,c,d,e,f,rfl⟩:=L3 h
 have:=Gu [b,c,d,e] rfl
 simp [mW,dD,this]
theorem uj {i:Idd} (h0:0≤i.n) (h1:i.n<72057594037927936):kB (fE i)=i:=by
 obtain ⟨h,n⟩:=i
 have e1:mW (dD h++be 7 n)=h:=by
  have:=qp h
  obtain ⟨a,b,c⟩:=h
  simp only [mW,dD,be_4] at *
  simpa using this
 have e2:(dD h++be 7 n).drop 6=be 7 n:=List.drop_left' (yK h)
 unfold kB fE
 rw [e1,e2,rh h0 (by simpa using h1)]
theorem B0 {l:List UInt8} (h:l.length=13):fE (kB l)=l:=by
 have e1:mW l=mW (l.take 6):=by
  obtain ⟨a,b,c,d,e,f,g,i,j,k,m,n,o,rfl⟩:=vP h
  rfl
 unfold fE kB
 rw [e1,B8 (by simp;omega),Eb (by simp;omega),List.take_append_drop]
theorem F5 {l:List UInt8} (h:l.length=13):ly (kB l)=decide (l=List.replicate 13 0):=by
 rw [Bool.eq_iff_iff,pU,decide_eq_true_eq]
 constructor
 ·intro e
  rw [←B0 h,e]
  rfl
 ·rintro rfl;rfl
def fx (o:Opn):List UInt8:=nH o++(if o.kind=1 then pP o.a++de o.l else if o.kind=3 then o.to.lv :: be 4 o.to.cats.toNat else [])
def rawO (l:List UInt8):Opn:=⟨l.headD 0,mW ((l.drop 1).take 6),val ((l.drop 7).take 3),⟨kB ((l.drop 10).take 13),(((l.drop 23).headD 0).toNat:Int)⟩,
 if l.headD 0=1 then kB ((l.drop 24).take 13) else oL,if l.headD 0=3 then ⟨(l.drop 24).headD 0,u32 (val ((l.drop 25).take 4))⟩ else ⟨0,0⟩,
 if l.headD 0=1 then words ((l.drop 37).take (4 * ((l.drop 23).headD 0).toNat)) else []⟩
def Fy (k m:UInt8):Nat:=if k=1 then 37+4 * m.toNat else if k=3 then 29 else 24
def tp (l:List UInt8):Nat:=Fy (l.headD 0) ((l.drop 23).headD 0)
def wF (l:List UInt8):Bool:=decide (24≤l.length)&&(decide (tp l≤l.length)&&opB (rawO l))
def NS (k:UInt8) (hh ss ff:List UInt8) (m:UInt8) (rest:List UInt8):Opn:=⟨k,mW hh,val ss,⟨kB ff,(m.toNat:Int)⟩,
 if k=1 then kB (rest.take 13) else oL,if k=3 then ⟨rest.headD 0,u32 (val ((rest.drop 1).take 4))⟩ else ⟨0,0⟩,
 if k=1 then words ((rest.drop 13).take (4 * m.toNat)) else []⟩
theorem Ky (k:UInt8) (hh ss ff:List UInt8) (m:UInt8) (rest:List UInt8) (h6:hh.length=6) (h3:ss.length=3) (h13:ff.length=13):rawO (k :: (hh++(ss++(ff++(m :: rest)))))=NS k hh ss ff m rest∧tp (k :: (hh++(ss++(ff++(m :: rest)))))=Fy k m:=by
 have d1:(k :: (hh++(ss++(ff++(m :: rest))))).drop 1=hh++(ss++(ff++(m :: rest))):=rfl
 have d7:(k :: (hh++(ss++(ff++(m :: rest))))).drop 7=ss++(ff++(m :: rest)):=by
  show (hh++(ss++(ff++(m :: rest)))).drop 6=_
  exact List.drop_left' h6
 have d10:(k :: (hh++(ss++(ff++(m :: rest))))).drop 10=ff++(m :: rest):=by
  have:(k :: (hh++(ss++(ff++(m :: rest))))).drop 10=((k :: (hh++(ss++(ff++(m :: rest))))).drop 7).drop 3:=by rw [List.drop_drop]
  rw [this,d7]
  exact List.drop_left' h3
 have d23:(k :: (hh++(ss++(ff++(m :: rest))))).drop 23=m :: rest:=by
  have:(k :: (hh++(ss++(ff++(m :: rest))))).drop 23=((k :: (hh++(ss++(ff++(m :: rest))))).drop 10).drop 13:=by rw [List.drop_drop]
  rw [this,d10]
  exact List.drop_left' h13
 have dn : ∀j,(k :: (hh++(ss++(ff++(m :: rest))))).drop (24+j)=rest.drop j:=by
  intro j
  have:(k :: (hh++(ss++(ff++(m :: rest))))).drop (24+j)=((k :: (hh++(ss++(ff++(m :: rest))))).drop 23).drop (1+j):=by rw [List.drop_drop];congr 1;omega
  rw [this,d23,Nat.add_comm]
  rfl
 have d24:=dn 0
 have d25:=dn 1
 have d37:=dn 13
 simp only [Nat.add_zero,List.drop_zero,Nat.reduceAdd] at d24 d25 d37
 constructor
 ·unfold rawO NS
  rw [d1,d7,d10,d23,d24,d25,d37,List.take_left' h6,List.take_left' h3,List.take_left' h13]
  rfl
 ·unfold tp
  rw [d23]
  rfl
theorem D4 (o:Opn):(nH o).length=24:=by simp [nH]
theorem ql {o:Opn} (h:opB o=true):1≤o.serial∧o.serial<16777216∧(1≤o.s.f.n∧o.s.f.n≤1099511627776)∧1≤o.s.many∧o.s.many≤64 ∧
 ((o.kind=1∧o.to=⟨0,0⟩∧(o.a=oL∨(1≤o.a.n∧o.a.n≤1099511627776))∧(o.l.length:Int)=o.s.many∧rowB o.l=true)∨(o.kind=2∧o.to=⟨0,0⟩∧o.a=oL∧o.l=[])∨(o.kind=3∧o.a=oL∧o.l=[]∧o.to.lv≤15)):=by
 simp only [opB,Bool.and_eq_true,decide_eq_true_eq] at h
 obtain ⟨hh,h1,h2,hs,hm⟩:=h
 have hn:=G4 hs
 have hi:=II (J7 hs)
 refine ⟨h1,h2,hi,hn.2.1,hn.2.2.1,?_⟩
 have hz : ∀t:Lab,AN t=true→t=⟨0,0⟩:=by
  rintro ⟨a,b⟩ h;simp [AN] at h;rw [h.1,h.2]
 unfold mayB at hm
 split at hm
 ·rename_i k1
  simp only [insB,Bool.and_eq_true,Bool.or_eq_true,decide_eq_true_eq] at hm
  refine .inl ⟨k1,hz _ hm.1,?_,hm.2.2.2.1,hm.2.2.2.2⟩
  rcases hm.2.1 with e | e
  ·exact .inl ((pU _).1 e)
  ·exact .inr (II e)
 ·split at hm
  ·rename_i k2
   simp only [delB,Ed,Bool.and_eq_true,decide_eq_true_eq] at hm
   exact .inr (.inl ⟨k2,hz _ hm.1,(pU _).1 hm.2.1,hm.2.2⟩)
  ·split at hm
   ·rename_i k3
    simp only [raiB,Ed,Bool.and_eq_true,decide_eq_true_eq] at hm
    exact .inr (.inr ⟨k3,(pU _).1 hm.1.1,hm.1.2,hm.2⟩)
   ·cases hm
def xH (o:Opn):Nat:=if o.kind=1 then 37+4 * o.s.many.toNat else if o.kind=3 then 29 else 24
theorem tQ (a:Idd):(pP a).length=13:=by unfold pP;split<;>simp
theorem rK {o:Opn} (h:opB o=true):(fx o).length=xH o:=by
 have hp:=ql h
 unfold fx xH
 rw [List.length_append,D4]
 rcases hp.2.2.2.2.2 with ⟨k,_,_,hl,_⟩ | ⟨k,_⟩ | ⟨k,_⟩
 ·rw [if_pos k,if_pos k,List.length_append,tQ,mo];omega
 ·rw [k];rfl
 ·rw [k];simp
end Go.Proofs.Ytmjkpdknicjjgaa
