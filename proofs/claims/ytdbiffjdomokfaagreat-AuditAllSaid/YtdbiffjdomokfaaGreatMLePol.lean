/-
  Handles, ids, spans: what the functions compute. No statement of a seat is proved here.
-/
import Derived.Test.YtdbiffjdomokfaaGreatAbsRules
set_option linter.unusedVariables false
set_option linter.unusedSimpArgs false
set_option linter.unusedSectionVars false
set_option linter.unnecessarySimpa false
namespace Go.Ab
def bad(b:Bool):Int:=if b then 0 else 8
@[simp] theorem XJ(b:Bool):bad b=0↔b=true:=by cases b<;>simp[bad]
@[simp] theorem XK:bad true=0:=id rfl
@[simp] theorem Ve:bad false=8:=id rfl
structure AO where
 lv:UInt8
 cats:UInt32
 num:UInt8
deriving DecidableEq
structure fl where
 h:AO
 n:Int
deriving DecidableEq
structure Aq where
 f:fl
 many:Int
deriving DecidableEq
def lV(h:AO):Bool:=decide (h.lv≤15)&&decide (h.num<8)
def Ed(i:fl):Bool:=lV i.h&&(decide (1≤i.n)&&decide (i.n≤1099511627776))
def je(s:Aq):Bool:=Ed s.f&&(decide (1≤s.many)&&(decide (s.many≤64)&&decide (s.f.n+s.many - 1≤1099511627776)))
theorem G1{i:fl}(h:Ed i=true):1≤i.n∧i.n≤1099511627776:=by
 simp[Ed]at h;exact h.2
theorem lF{s:Aq}(h:je s=true):1≤s.f.n∧1≤s.many∧s.many≤64∧s.f.n+s.many - 1≤1099511627776:=by
 simp[je]at h
 have:=G1 h.1
 exact⟨this.1,h.2.1,h.2.2.1,h.2.2.2⟩
theorem Ma{s:Aq}(h:je s=true):Ed s.f=true:=by
 simp[je]at h;exact h.1
def GA(i:fl)(n:Int):fl:=⟨i.h,i.n+n⟩
def zZ:fl:=⟨⟨0,0,0⟩,0⟩
def aR(n:Int):AV := .v (.int .i32 n)
def rows(l:List Int):List AV:=l.map aR
@[simp] theorem Wp(l:List Int):(rows l).length=l.length:=by simp[rows]
@[simp] theorem Py(l:List Int):rows l=[]↔l=[]:=by simp[rows]
def pW(n:Int):Bool:=decide (n = -1)||(decide (0≤n)&&decide (n<55296))||(decide (57343<n)&&decide (n≤1114111))
def Ge(l:List Int):Bool:=decide (l.length≤64)&&l.all pW
def C4(l:List Int):Int:=if 64<l.length then 4 else if l.all pW then 0 else 8
@[simp] theorem XT(g:de)(k:Nat)(n:Int):view g (k+1) (aR n)=some (aR n):=id rfl
structure Rn where
 s:Aq
 a:fl
 l:List Int
deriving DecidableEq
def Gd(r:Rn):Bool:=je r.s&&((decide (r.a=zZ)||(Ed r.a&&decide (r.a.n<r.s.f.n)))&&(decide ((r.l.length:Int)=r.s.many)&&Ge r.l))
theorem DV(l:List Int):C4 l=0↔Ge l=true:=by
 unfold C4 Ge
 by_cases h:64<l.length
 ·simp[h,Nat.not_le.2 h]
 ·have h':l.length≤64:=Nat.not_lt.1 h
  rw[if_neg h]
  cases l.all pW<;>simp[h']
end Go.Ab
namespace Go.Proofs.YtdbiffjdomokfaaGreat
open Go.Ab
structure Clear where
 lv:UInt8
 cats:UInt32
 ok:Bool
deriving DecidableEq,Inhabited
structure bz where
 lv:UInt8
 cats:UInt32
 opens:Int
 ops:Int
 cells:Int
deriving DecidableEq,Inhabited
def Clear.enc(c:Clear):List AV:=[a8 c.lv,aF c.cats,aB c.ok]
def bz.enc(q:bz):List AV:=[a8 q.lv,aF q.cats,aI q.opens,aI q.ops,aI q.cells]
abbrev eZ(l:List Clear):List AV:=l.map fun c => .agg c.enc
abbrev ff(l:List bz):List AV:=l.map fun q => .agg q.enc
abbrev Xs(l:List Bool):List AV:=l.map aB
theorem WI(a b:Int):(!decide (a<b))=decide (b≤a):=by
 by_cases h:a<b
 ·simp[h,Int.not_le.2 h]
 ·simp[h,Int.not_lt.1 h]
def wW(a:UInt8):Int:=if 15<a then 8 else 0
@[simp] theorem QY(a:UInt8):wW a=0↔a≤15:=by
 unfold wW
 split
 ·rename_i h;simp;exact h
 ·rename_i h;simp;exact UInt8.not_lt.1 h
def SK(a:UInt8)(b:UInt32)(c:UInt8)(d:UInt32):Bool:=decide (a≤c)&&decide (b &&& ~~~d=0)
def Jj(a:UInt8)(b:UInt32)(c:UInt8)(d:UInt32):Bool:=decide (a<c)||(decide (a=c)&&decide (b<d))
def Fm(v:UInt8)(c:UInt32)(ok:Bool):Bool:=decide (v≤15)&&(ok||(decide (v=0)&&decide (c=0)))
def aao(n:Int)(q:bz):Int:=IntKind.i64.wrap (n+IntKind.i64.wrap (q.opens+IntKind.i64.wrap (4 * q.ops)))
def sF(n:Int)(l:List bz):Int:=l.foldl aao n
def Z9(c:Int):Int:=if 4096<(if c<0 then 0 else c) then 4096 else if c<0 then 0 else c
def aap(n:Int)(q:bz):Int:=IntKind.i64.wrap (n+Z9 q.cells)
def cellsOf(n:Int)(l:List bz):Int:=l.foldl aap n
def PH(q:bz):Bool:=decide (wW q.lv=0)&&(decide (0≤q.opens)&&decide (q.opens≤64)&&(decide (0≤q.ops)&&decide (q.ops≤256)&&(decide (0≤q.cells)&&decide (q.cells≤4096))))
def EN(p q:bz):Bool:=Jj p.lv p.cats q.lv q.cats
def KL:Option bz→List bz→Bool
 | _,[]=>true
 | p,q :: l=>(PH q&&(match p with | none=>true | some p=>EN p q))&&KL (some q) l
def EO(us:List Clear)(qs:List bz)(gr:Int):Bool :=
 decide (us.length≤8)&&decide (qs.length≤8)&&(decide (0≤gr)&&decide (gr≤64))&&us.all (fun c=>Fm c.lv c.cats c.ok)&&KL none qs&&(decide (sF gr qs≤2048)&&decide (cellsOf 0 (qs.take 8)≤8192))
def wb(us:List Clear)(qs:List bz)(gr:Int)(a:UInt8):Int:=if wW a>bad (EO us qs gr) then wW a else bad (EO us qs gr)
def BJ(us:List Clear)(user:Int)(a:UInt8)(b:UInt32):Bool :=
 if h:0≤user∧user<us.length then us[user.toNat].ok&&SK a b us[user.toNat].lv us[user.toNat].cats else false
def yw(a:UInt8)(b:UInt32)(q:bz):Bool:=decide (q.lv=a)&&decide (q.cats=b)
def M4(a:UInt8)(b:UInt32):Option bz→bz
 | some q=>q
 | none=>⟨a,b,0,0,0⟩
@[simp] theorem Sy(a:UInt8)(b:UInt32)(q:bz):M4 a b (some q)=q:=id rfl
@[simp] theorem Sz(a:UInt8)(b:UInt32):M4 a b none=⟨a,b,0,0,0⟩:=id rfl
def JB(qs:List bz)(a:UInt8)(b:UInt32):bz:=M4 a b (qs.find? (yw a b))
end Go.Proofs.YtdbiffjdomokfaaGreat
