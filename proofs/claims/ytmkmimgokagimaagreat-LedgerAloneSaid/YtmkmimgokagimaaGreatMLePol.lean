/-
  Handles, ids, spans: what the functions compute. No statement of a seat is proved here.
-/
import Derived.Test.YtmkmimgokagimaaGreatAbsRules
set_option linter.unusedVariables false
set_option linter.unusedSimpArgs false
set_option linter.unusedSectionVars false
set_option linter.unnecessarySimpa false
namespace Go.Ab
def bad(b:Bool):Int:=if b then 0 else 8
@[simp] theorem Um(b:Bool):bad b=0↔b=true:=by cases b<;>simp[bad]
@[simp] theorem Un:bad true=0:=id rfl
@[simp] theorem Sk:bad false=8:=id rfl
structure Han where
 lv:UInt8
 cats:UInt32
 num:UInt8
deriving DecidableEq
structure Idd where
 h:Han
 n:Int
deriving DecidableEq
structure Spn where
 f:Idd
 many:Int
deriving DecidableEq
def mX(h:Han):Bool:=decide (h.lv≤15)&&decide (h.num<8)
def idB(i:Idd):Bool:=mX i.h&&(decide (1≤i.n)&&decide (i.n≤1099511627776))
def lz(s:Spn):Bool:=idB s.f&&(decide (1≤s.many)&&(decide (s.many≤64)&&decide (s.f.n+s.many - 1≤1099511627776)))
theorem Jy{i:Idd}(h:idB i=true):1≤i.n∧i.n≤1099511627776:=by
 simp[idB]at h;exact h.2
theorem kF{s:Spn}(h:lz s=true):1≤s.f.n∧1≤s.many∧s.many≤64∧s.f.n+s.many - 1≤1099511627776:=by
 simp[lz]at h
 have:=Jy h.1
 exact⟨this.1,h.2.1,h.2.2.1,h.2.2.2⟩
theorem KL{s:Spn}(h:lz s=true):idB s.f=true:=by
 simp[lz]at h;exact h.1
def I9(i:Idd)(n:Int):Idd:=⟨i.h,i.n+n⟩
def Cs:Idd:=⟨⟨0,0,0⟩,0⟩
def aR(n:Int):AV := .v (.int .i32 n)
def rows(l:List Int):List AV:=l.map aR
@[simp] theorem Tn(l:List Int):(rows l).length=l.length:=by simp[rows]
@[simp] theorem MC(l:List Int):rows l=[]↔l=[]:=by simp[rows]
def tF(n:Int):Bool:=decide (n = -1)||(decide (0≤n)&&decide (n<55296))||(decide (57343<n)&&decide (n≤1114111))
def rowB(l:List Int):Bool:=decide (l.length≤64)&&l.all tF
def rowE(l:List Int):Int:=if 64<l.length then 4 else if l.all tF then 0 else 8
@[simp] theorem Ut(g:Get)(k:Nat)(n:Int):view g (k+1) (aR n)=some (aR n):=id rfl
structure Rn where
 s:Spn
 a:Idd
 l:List Int
deriving DecidableEq
def runB(r:Rn):Bool:=lz r.s&&((decide (r.a=Cs)||(idB r.a&&decide (r.a.n<r.s.f.n)))&&(decide ((r.l.length:Int)=r.s.many)&&rowB r.l))
theorem CX(l:List Int):rowE l=0↔rowB l=true:=by
 unfold rowE rowB
 by_cases h:64<l.length
 ·simp[h,Nat.not_le.2 h]
 ·have h':l.length≤64:=Nat.not_lt.1 h
  rw[if_neg h]
  cases l.all tF<;>simp[h']
end Go.Ab
namespace Go.Proofs.YtmkmimgokagimaaGreat
open Go.Ab
structure Clear where
 lv:UInt8
 cats:UInt32
 ok:Bool
deriving DecidableEq,Inhabited
structure Quota where
 lv:UInt8
 cats:UInt32
 opens:Int
 ops:Int
 cells:Int
deriving DecidableEq,Inhabited
def Clear.enc(c:Clear):List AV:=[a8 c.lv,a32 c.cats,aB c.ok]
def Quota.enc(q:Quota):List AV:=[a8 q.lv,a32 q.cats,aI q.opens,aI q.ops,aI q.cells]
abbrev eg(l:List Clear):List AV:=l.map fun c => .agg c.enc
abbrev eK(l:List Quota):List AV:=l.map fun q => .agg q.enc
abbrev VU(l:List Bool):List AV:=l.map aB
theorem ndec(a b:Int):(!decide (a<b))=decide (b≤a):=by
 by_cases h:a<b
 ·simp[h,Int.not_le.2 h]
 ·simp[h,Int.not_lt.1 h]
def yS(a:UInt8):Int:=if 15<a then 8 else 0
@[simp] theorem On(a:UInt8):yS a=0↔a≤15:=by
 unfold yS
 split
 ·rename_i h;simp;exact h
 ·rename_i h;simp;exact UInt8.not_lt.1 h
def leqB(a:UInt8)(b:UInt32)(c:UInt8)(d:UInt32):Bool:=decide (a≤c)&&decide (b &&& ~~~d=0)
def Kh(a:UInt8)(b:UInt32)(c:UInt8)(d:UInt32):Bool:=decide (a<c)||(decide (a=c)&&decide (b<d))
def Gg(v:UInt8)(c:UInt32)(ok:Bool):Bool:=decide (v≤15)&&(ok||(decide (v=0)&&decide (c=0)))
def addQ(n:Int)(q:Quota):Int:=IntKind.i64.wrap (n+IntKind.i64.wrap (q.opens+IntKind.i64.wrap (4 * q.ops)))
def sE(n:Int)(l:List Quota):Int:=l.foldl addQ n
def capC(c:Int):Int:=if 4096<(if c<0 then 0 else c) then 4096 else if c<0 then 0 else c
def addC(n:Int)(q:Quota):Int:=IntKind.i64.wrap (n+capC q.cells)
def cellsOf(n:Int)(l:List Quota):Int:=l.foldl addC n
def qOwn(q:Quota):Bool:=decide (yS q.lv=0)&&(decide (0≤q.opens)&&decide (q.opens≤64)&&(decide (0≤q.ops)&&decide (q.ops≤256)&&(decide (0≤q.cells)&&decide (q.cells≤4096))))
def Ei(p q:Quota):Bool:=Kh p.lv p.cats q.lv q.cats
def qRow:Option Quota→List Quota→Bool
 | _,[]=>true
 | p,q :: l=>(qOwn q&&(match p with | none=>true | some p=>Ei p q))&&qRow (some q) l
def polB(us:List Clear)(qs:List Quota)(gr:Int):Bool :=
 decide (us.length≤8)&&decide (qs.length≤8)&&(decide (0≤gr)&&decide (gr≤64))&&us.all (fun c=>Gg c.lv c.cats c.ok)&&qRow none qs&&(decide (sE gr qs≤2048)&&decide (cellsOf 0 (qs.take 8)≤8192))
def Ad(us:List Clear)(qs:List Quota)(gr:Int)(a:UInt8):Int:=if yS a>bad (polB us qs gr) then yS a else bad (polB us qs gr)
def C4(us:List Clear)(user:Int)(a:UInt8)(b:UInt32):Bool :=
 if h:0≤user∧user<us.length then us[user.toNat].ok&&leqB a b us[user.toNat].lv us[user.toNat].cats else false
def B5(a:UInt8)(b:UInt32)(q:Quota):Bool:=decide (q.lv=a)&&decide (q.cats=b)
def N6(a:UInt8)(b:UInt32):Option Quota→Quota
 | some q=>q
 | none=>⟨a,b,0,0,0⟩
@[simp] theorem PK(a:UInt8)(b:UInt32)(q:Quota):N6 a b (some q)=q:=id rfl
@[simp] theorem PL(a:UInt8)(b:UInt32):N6 a b none=⟨a,b,0,0,0⟩:=id rfl
def IJ(qs:List Quota)(a:UInt8)(b:UInt32):Quota:=N6 a b (qs.find? (B5 a b))
end Go.Proofs.YtmkmimgokagimaaGreat
