/-
  An operation's bytes, and what bytes tell. No statement of a seat is proved here.
-/
import Derived.Test.YtmjkpdknicjjgaaRdFns2
set_option linter.unusedVariables false
set_option linter.unusedSimpArgs false
set_option linter.unusedSectionVars false
set_option linter.unnecessarySimpa false
set_option maxRecDepth 100000
namespace Go.Proofs.Ytmjkpdknicjjgaa
open Go.Ab
theorem IU {a b:Int} (h:a % 256=b % 256):u8 a=u8 b:=by
 apply UInt8.toNat_inj.1
 have h1:=tx a
 have h2:=tx b
 omega
theorem KT (n:Int) : ∃j,IntKind.i32.wrap n=n+4294967296 * j ∧ -2147483648≤IntKind.i32.wrap n∧IntKind.i32.wrap n≤2147483647:=by
 rw [IntKind.wrap_i32]
 exact ⟨-((n+2147483648) / 4294967296),by omega,by omega,by omega⟩
def word (a b c d:UInt8):Int:=IntKind.i32.wrap (val [a,b,c,d])
def words:List UInt8→List Int
 | a :: b :: c :: d :: l=>word a b c d :: words l
 | _=>[]
theorem Ip (n j:Int):be 4 (n+4294967296 * j)=be 4 n:=by
 rw [be_4,be_4,IU (a:=(n+4294967296 * j) / 16777216) (b:=n / 16777216) (by omega),IU (a:=(n+4294967296 * j) / 65536) (b:=n / 65536) (by omega),
  IU (a:=(n+4294967296 * j) / 256) (b:=n / 256) (by omega),IU (a:=n+4294967296 * j) (b:=n) (by omega)]
theorem Io (a b c d:UInt8):be 4 (word a b c d)=[a,b,c,d]:=by
 obtain ⟨j,h,_⟩:=KT (val [a,b,c,d])
 unfold word
 rw [h,Ip]
 exact Di rfl
theorem D6 {P:List UInt8→Prop} (h0:P []) (h4 : ∀a b c d l,P l→P (a :: b :: c :: d :: l)) : ∀(n:Nat) (l:List UInt8),l.length=4 * n→P l:=by
 intro n
 induction n with
 | zero=>intro l h;obtain rfl:l=[]:=List.length_eq_zero_iff.1 (by omega);exact h0
 | succ n ih =>
  intro l h
  match l,h with
  | a :: b :: c :: d :: l,h=>exact h4 a b c d l (ih l (by simp only [List.length_cons] at h;omega))
theorem tA (n:Nat) (l:List UInt8) (h:l.length=4 * n):dh (words l)=l∧(words l).length=n:=by
 constructor
 ·exact D6 (P:=fun l=>dh (words l)=l) rfl (fun a b c d l ih=>by
   show be 4 (word a b c d)++dh (words l)=_
   rw [ih,Io];rfl) n l h
 ·have:=lZ (words l)
  rw [D6 (P:=fun l=>dh (words l)=l) rfl (fun a b c d l ih=>by
   show be 4 (word a b c d)++dh (words l)=_
   rw [ih,Io];rfl) n l h] at this
  omega
theorem LH {n:Int} (h0 : -2147483648≤n) (h1:n≤2147483647):word (u8 (n / 16777216)) (u8 (n / 65536)) (u8 (n / 256)) (u8 n)=n:=by
 obtain ⟨j,h,h2,h3⟩:=KT (val [u8 (n / 16777216),u8 (n / 65536),u8 (n / 256),u8 n])
 unfold word
 rw [←be_4] at *
 have e:val (be 4 n)=n∨val (be 4 n)=n+4294967296:=by
  rcases Int.lt_or_le n 0 with hn | hn
  ·right
   have:=Ip n 1
   rw [←this]
   exact tv (by omega) (by omega)
  ·exact .inl (tv hn (by omega))
 omega
theorem z6 (l:List Int) (h : ∀n∈l, -2147483648≤n∧n≤2147483647):words (dh l)=l:=by
 induction l with
 | nil=>rfl
 | cons n l ih =>
  have hn:=h n (List.mem_cons_self ..)
  show words (be 4 n++dh l)=_
  rw [be_4]
  show word _ _ _ _ :: words (dh l)=_
  rw [LH hn.1 hn.2,ih fun m hm=>h m (List.mem_cons_of_mem _ hm)]
theorem sP (c:UInt32):u32 (val (be 4 (c.toNat:Int)))=c:=by
 have:=c.toNat_lt
 rw [tv (by omega) (by omega)]
 simp
theorem Fx (l:List UInt8) (h:l.length=4):be 4 ((u32 (val l)).toNat:Int)=l:=by
 have hb:=vf l
 rw [h] at hb
 have e:((u32 (val l)).toNat:Int)=val l:=by
  rw [nL];omega
 rw [e]
 exact Di h
theorem pI (h:Han):mK (dI h)=h:=by
 obtain ⟨a,b,c⟩:=h
 have:=sP b
 rw [be_4] at this
 simp [mK,dI,be_4]
 simpa using this
theorem Bf {l:List UInt8} (h:l.length=6):dI (mK l)=l:=by
 obtain ⟨a,b,c,d,e,f,rfl⟩:=K6 h
 have:=Fx [b,c,d,e] rfl
 simp [mK,dI,this]
theorem tJ {i:Idd} (h0:0≤i.n) (h1:i.n<72057594037927936):kr (fJ i)=i:=by
 obtain ⟨h,n⟩:=i
 have e1:mK (dI h++be 7 n)=h:=by
  have:=pI h
  obtain ⟨a,b,c⟩:=h
  simp only [mK,dI,be_4] at *
  simpa using this
 have e2:(dI h++be 7 n).drop 6=be 7 n:=List.drop_left' (ya h)
 unfold kr fJ
 rw [e1,e2,tv h0 (by simpa using h1)]
theorem Be {l:List UInt8} (h:l.length=13):fJ (kr l)=l:=by
 have e1:mK l=mK (l.take 6):=by
  obtain ⟨a,b,c,d,e,f,g,i,j,k,m,n,o,rfl⟩:=vh h
  rfl
 unfold fJ kr
 rw [e1,Bf (by simp;omega),Di (by simp;omega),List.take_append_drop]
theorem E6 {l:List UInt8} (h:l.length=13):k6 (kr l)=decide (l=List.replicate 13 0):=by
 rw [Bool.eq_iff_iff,pn,decide_eq_true_eq]
 constructor
 ·intro e
  rw [←Be h,e]
  rfl
 ·rintro rfl;rfl
def fD (o:Opn):List UInt8:=nm o++(if o.kind=1 then o8 o.a++dh o.l else if o.kind=3 then o.to.lv :: be 4 o.to.cats.toNat else [])
def rawO (l:List UInt8):Opn:=⟨l.headD 0,mK ((l.drop 1).take 6),val ((l.drop 7).take 3),⟨kr ((l.drop 10).take 13),(((l.drop 23).headD 0).toNat:Int)⟩,
 if l.headD 0=1 then kr ((l.drop 24).take 13) else oc,if l.headD 0=3 then ⟨(l.drop 24).headD 0,u32 (val ((l.drop 25).take 4))⟩ else ⟨0,0⟩,
 if l.headD 0=1 then words ((l.drop 37).take (4 * ((l.drop 23).headD 0).toNat)) else []⟩
def EB (k m:UInt8):Nat:=if k=1 then 37+4 * m.toNat else if k=3 then 29 else 24
def sR (l:List UInt8):Nat:=EB (l.headD 0) ((l.drop 23).headD 0)
def vR (l:List UInt8):Bool:=decide (24≤l.length)&&(decide (sR l≤l.length)&&opB (rawO l))
def MM (k:UInt8) (hh ss ff:List UInt8) (m:UInt8) (rest:List UInt8):Opn:=⟨k,mK hh,val ss,⟨kr ff,(m.toNat:Int)⟩,
 if k=1 then kr (rest.take 13) else oc,if k=3 then ⟨rest.headD 0,u32 (val ((rest.drop 1).take 4))⟩ else ⟨0,0⟩,
 if k=1 then words ((rest.drop 13).take (4 * m.toNat)) else []⟩
theorem JB (k:UInt8) (hh ss ff:List UInt8) (m:UInt8) (rest:List UInt8) (h6:hh.length=6) (h3:ss.length=3) (h13:ff.length=13):rawO (k :: (hh++(ss++(ff++(m :: rest)))))=MM k hh ss ff m rest∧sR (k :: (hh++(ss++(ff++(m :: rest)))))=EB k m:=by
 have d1:(k :: (hh++(ss++(ff++(m :: rest))))).drop 1=hh++(ss++(ff++(m :: rest))):=rfl
 have d7:(k :: (hh++(ss++(ff++(m :: rest))))).drop 7=ss++(ff++(m :: rest)):=by
  show (hh++(ss++(ff++(m :: rest)))).drop 6=_
  exact List.drop_left' h6
 have d10:(k :: (hh++(ss++(ff++(m :: rest))))).drop 10=ff++(m :: rest):=by
  have:(k :: (hh++(ss++(ff++(m :: rest))))).drop 10=((k :: (hh++(ss++(ff++(m :: rest))))).drop 7).drop 3:=by rw [List.drop_drop]
  rw [this,d7]
  exact List.drop_left' h3
 have d23:(k :: (hh++(ss++(ff++(m :: rest))))).drop 23=m :: rest:=by
  have:(k :: (hh++(ss++(ff++(m :: rest))))).drop 23=((k :: (hh++(ss++(ff++(m :: rest))))).drop 10).drop 13:=by rw [List.drop_drop]
  rw [this,d10]
  exact List.drop_left' h13
 have dn : ∀j,(k :: (hh++(ss++(ff++(m :: rest))))).drop (24+j)=rest.drop j:=by
  intro j
  have:(k :: (hh++(ss++(ff++(m :: rest))))).drop (24+j)=((k :: (hh++(ss++(ff++(m :: rest))))).drop 23).drop (1+j):=by rw [List.drop_drop];congr 1;omega
  rw [this,d23,Nat.add_comm]
  rfl
 have d24:=dn 0
 have d25:=dn 1
 have d37:=dn 13
 simp only [Nat.add_zero,List.drop_zero,Nat.reduceAdd] at d24 d25 d37
 constructor
 ·unfold rawO MM
  rw [d1,d7,d10,d23,d24,d25,d37,List.take_left' h6,List.take_left' h3,List.take_left' h13]
  rfl
 ·unfold sR
  rw [d23]
  rfl
theorem Db (o:Opn):(nm o).length=24:=by simp [nm]
theorem pF {o:Opn} (h:opB o=true):1≤o.serial∧o.serial<16777216∧(1≤o.s.f.n∧o.s.f.n≤1099511627776)∧1≤o.s.many∧o.s.many≤64 ∧
 ((o.kind=1∧o.to=⟨0,0⟩∧(o.a=oc∨(1≤o.a.n∧o.a.n≤1099511627776))∧(o.l.length:Int)=o.s.many∧rowB o.l=true)∨(o.kind=2∧o.to=⟨0,0⟩∧o.a=oc∧o.l=[])∨(o.kind=3∧o.a=oc∧o.l=[]∧o.to.lv≤15)):=by
 simp only [opB,Bool.and_eq_true,decide_eq_true_eq] at h
 obtain ⟨hh,h1,h2,hs,hm⟩:=h
 have hn:=F6 hs
 have hi:=HB (Jc hs)
 refine ⟨h1,h2,hi,hn.2.1,hn.2.2.1,?_⟩
 have hz : ∀t:Lab,z4 t=true→t=⟨0,0⟩:=by
  rintro ⟨a,b⟩ h;simp [z4] at h;rw [h.1,h.2]
 unfold mayB at hm
 split at hm
 ·rename_i k1
  simp only [insB,Bool.and_eq_true,Bool.or_eq_true,decide_eq_true_eq] at hm
  refine .inl ⟨k1,hz _ hm.1,?_,hm.2.2.2.1,hm.2.2.2.2⟩
  rcases hm.2.1 with e | e
  ·exact .inl ((pn _).1 e)
  ·exact .inr (HB e)
 ·split at hm
  ·rename_i k2
   simp only [delB,Dl,Bool.and_eq_true,decide_eq_true_eq] at hm
   exact .inr (.inl ⟨k2,hz _ hm.1,(pn _).1 hm.2.1,hm.2.2⟩)
  ·split at hm
   ·rename_i k3
    simp only [raiB,Dl,Bool.and_eq_true,decide_eq_true_eq] at hm
    exact .inr (.inr ⟨k3,(pn _).1 hm.1.1,hm.1.2,hm.2⟩)
   ·cases hm
def w6 (o:Opn):Nat:=if o.kind=1 then 37+4 * o.s.many.toNat else if o.kind=3 then 29 else 24
theorem tn (a:Idd):(o8 a).length=13:=by unfold o8;split<;>simp
theorem rk {o:Opn} (h:opB o=true):(fD o).length=w6 o:=by
 have hp:=pF h
 unfold fD w6
 rw [List.length_append,Db]
 rcases hp.2.2.2.2.2 with ⟨k,_,_,hl,_⟩ | ⟨k,_⟩ | ⟨k,_⟩
 ·rw [if_pos k,if_pos k,List.length_append,tn,lZ];omega
 ·rw [k];rfl
 ·rw [k];simp
end Go.Proofs.Ytmjkpdknicjjgaa
