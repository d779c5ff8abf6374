/-
  Handles, ids, spans: what the functions compute. No statement of a seat is proved here.
-/
import Derived.Test.YtdbiffjdomokfaaGreatAbsRules
set_option linter.unusedVariables false
set_option linter.unusedSimpArgs false
set_option linter.unusedSectionVars false
set_option linter.unnecessarySimpa false
namespace Go.Ab
def bad(b:Bool):Int:=if b then 0 else 8
@[simp] theorem Yv(b:Bool):bad b=0↔b=true:=by cases b<;>simp[bad]
@[simp] theorem Yw:bad true=0:=id rfl
@[simp] theorem VS:bad false=8:=id rfl
structure vU where
 lv:UInt8
 cats:UInt32
 num:UInt8
deriving DecidableEq
structure eE where
 h:vU
 n:Int
deriving DecidableEq
structure Ao where
 f:eE
 many:Int
deriving DecidableEq
def m8(h:vU):Bool:=decide (h.lv≤15)&&decide (h.num<8)
def EP(i:eE):Bool:=m8 i.h&&(decide (1≤i.n)&&decide (i.n≤1099511627776))
def jg(s:Ao):Bool:=EP s.f&&(decide (1≤s.many)&&(decide (s.many≤64)&&decide (s.f.n+s.many - 1≤1099511627776)))
theorem HH{i:eE}(h:EP i=true):1≤i.n∧i.n≤1099511627776:=by
 simp[EP]at h;exact h.2
theorem ko{s:Ao}(h:jg s=true):1≤s.f.n∧1≤s.many∧s.many≤64∧s.f.n+s.many - 1≤1099511627776:=by
 simp[jg]at h
 have:=HH h.1
 exact⟨this.1,h.2.1,h.2.2.1,h.2.2.2⟩
theorem M4{s:Ao}(h:jg s=true):EP s.f=true:=by
 simp[jg]at h;exact h.1
def Hg(i:eE)(n:Int):eE:=⟨i.h,i.n+n⟩
def Au:eE:=⟨⟨0,0,0⟩,0⟩
def aR(n:Int):AV := .v (.int .i32 n)
def rows(l:List Int):List AV:=l.map aR
@[simp] theorem W6(l:List Int):(rows l).length=l.length:=by simp[rows]
@[simp] theorem Qh(l:List Int):rows l=[]↔l=[]:=by simp[rows]
def qj(n:Int):Bool:=decide (n = -1)||(decide (0≤n)&&decide (n<55296))||(decide (57343<n)&&decide (n≤1114111))
def GU(l:List Int):Bool:=decide (l.length≤64)&&l.all qj
def Dz(l:List Int):Int:=if 64<l.length then 4 else if l.all qj then 0 else 8
@[simp] theorem YG(g:dk)(k:Nat)(n:Int):view g (k+1) (aR n)=some (aR n):=id rfl
structure Rn where
 s:Ao
 a:eE
 l:List Int
deriving DecidableEq
def GS(r:Rn):Bool:=jg r.s&&((decide (r.a=Au)||(EP r.a&&decide (r.a.n<r.s.f.n)))&&(decide ((r.l.length:Int)=r.s.many)&&GU r.l))
theorem Ex(l:List Int):Dz l=0↔GU l=true:=by
 unfold Dz GU
 by_cases h:64<l.length
 ·simp[h,Nat.not_le.2 h]
 ·have h':l.length≤64:=Nat.not_lt.1 h
  rw[if_neg h]
  cases l.all qj<;>simp[h']
end Go.Ab
namespace Go.Proofs.YtdbiffjdomokfaaGreat
open Go.Ab
structure Clear where
 lv:UInt8
 cats:UInt32
 ok:Bool
deriving DecidableEq,Inhabited
structure bu where
 lv:UInt8
 cats:UInt32
 opens:Int
 ops:Int
 cells:Int
deriving DecidableEq,Inhabited
def Clear.enc(c:Clear):List AV:=[a8 c.lv,aG c.cats,aB c.ok]
def bu.enc(q:bu):List AV:=[a8 q.lv,aG q.cats,aI q.opens,aI q.ops,aI q.cells]
abbrev eW(l:List Clear):List AV:=l.map fun c => .agg c.enc
abbrev eY(l:List bu):List AV:=l.map fun q => .agg q.enc
abbrev Ye(l:List Bool):List AV:=l.map aB
theorem Xq(a b:Int):(!decide (a<b))=decide (b≤a):=by
 by_cases h:a<b
 ·simp[h,Int.not_le.2 h]
 ·simp[h,Int.not_lt.1 h]
def xA(a:UInt8):Int:=if 15<a then 8 else 0
@[simp] theorem RI(a:UInt8):xA a=0↔a≤15:=by
 unfold xA
 split
 ·rename_i h;simp;exact h
 ·rename_i h;simp;exact UInt8.not_lt.1 h
def Tp(a:UInt8)(b:UInt32)(c:UInt8)(d:UInt32):Bool:=decide (a≤c)&&decide (b &&& ~~~d=0)
def J5(a:UInt8)(b:UInt32)(c:UInt8)(d:UInt32):Bool:=decide (a<c)||(decide (a=c)&&decide (b<d))
def F2(v:UInt8)(c:UInt32)(ok:Bool):Bool:=decide (v≤15)&&(ok||(decide (v=0)&&decide (c=0)))
def abc(n:Int)(q:bu):Int:=IntKind.i64.wrap (n+IntKind.i64.wrap (q.opens+IntKind.i64.wrap (4 * q.ops)))
def sV(n:Int)(l:List bu):Int:=l.foldl abc n
def aaX(c:Int):Int:=if 4096<(if c<0 then 0 else c) then 4096 else if c<0 then 0 else c
def abd(n:Int)(q:bu):Int:=IntKind.i64.wrap (n+aaX q.cells)
def cellsOf(n:Int)(l:List bu):Int:=l.foldl abd n
def Qq(q:bu):Bool:=decide (xA q.lv=0)&&(decide (0≤q.opens)&&decide (q.opens≤64)&&(decide (0≤q.ops)&&decide (q.ops≤256)&&(decide (0≤q.cells)&&decide (q.cells≤4096))))
def Fq(p q:bu):Bool:=J5 p.lv p.cats q.lv q.cats
def LB:Option bu→List bu→Bool
 | _,[]=>true
 | p,q :: l=>(Qq q&&(match p with | none=>true | some p=>Fq p q))&&LB (some q) l
def DI(us:List Clear)(qs:List bu)(gr:Int):Bool :=
 decide (us.length≤8)&&decide (qs.length≤8)&&(decide (0≤gr)&&decide (gr≤64))&&us.all (fun c=>F2 c.lv c.cats c.ok)&&LB none qs&&(decide (sV gr qs≤2048)&&decide (cellsOf 0 (qs.take 8)≤8192))
def wP(us:List Clear)(qs:List bu)(gr:Int)(a:UInt8):Int:=if xA a>bad (DI us qs gr) then xA a else bad (DI us qs gr)
def Ca(us:List Clear)(user:Int)(a:UInt8)(b:UInt32):Bool :=
 if h:0≤user∧user<us.length then us[user.toNat].ok&&Tp a b us[user.toNat].lv us[user.toNat].cats else false
def yU(a:UInt8)(b:UInt32)(q:bu):Bool:=decide (q.lv=a)&&decide (q.cats=b)
def NW(a:UInt8)(b:UInt32):Option bu→bu
 | some q=>q
 | none=>⟨a,b,0,0,0⟩
@[simp] theorem Te(a:UInt8)(b:UInt32)(q:bu):NW a b (some q)=q:=id rfl
@[simp] theorem Tf(a:UInt8)(b:UInt32):NW a b none=⟨a,b,0,0,0⟩:=id rfl
def Kn(qs:List bu)(a:UInt8)(b:UInt32):bu:=NW a b (qs.find? (yU a b))
end Go.Proofs.YtdbiffjdomokfaaGreat
