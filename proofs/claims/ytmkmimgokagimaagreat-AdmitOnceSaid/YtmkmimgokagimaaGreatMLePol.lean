/-
  Handles, ids, spans: what the functions compute. No statement of a seat is proved here.
-/
import Derived.Test.YtmkmimgokagimaaGreatAbsRules
set_option linter.unusedVariables false
set_option linter.unusedSimpArgs false
set_option linter.unusedSectionVars false
set_option linter.unnecessarySimpa false
namespace Go.Ab
def bad(b:Bool):Int:=if b then 0 else 8
@[simp] theorem Vq(b:Bool):bad b=0↔b=true:=by cases b<;>simp[bad]
@[simp] theorem Vr:bad true=0:=id rfl
@[simp] theorem Te:bad false=8:=id rfl
structure Han where
 lv:UInt8
 cats:UInt32
 num:UInt8
deriving DecidableEq
structure Idd where
 h:Han
 n:Int
deriving DecidableEq
structure Spn where
 f:Idd
 many:Int
deriving DecidableEq
def hY(h:Han):Bool:=decide (h.lv≤15)&&decide (h.num<8)
def idB(i:Idd):Bool:=hY i.h&&(decide (1≤i.n)&&decide (i.n≤1099511627776))
def kR(s:Spn):Bool:=idB s.f&&(decide (1≤s.many)&&(decide (s.many≤64)&&decide (s.f.n+s.many - 1≤1099511627776)))
theorem JV{i:Idd}(h:idB i=true):1≤i.n∧i.n≤1099511627776:=by
 simp[idB]at h;exact h.2
theorem lX{s:Spn}(h:kR s=true):1≤s.f.n∧1≤s.many∧s.many≤64∧s.f.n+s.many - 1≤1099511627776:=by
 simp[kR]at h
 have:=JV h.1
 exact⟨this.1,h.2.1,h.2.2.1,h.2.2.2⟩
theorem K0{s:Spn}(h:kR s=true):idB s.f=true:=by
 simp[kR]at h;exact h.1
def Jv(i:Idd)(n:Int):Idd:=⟨i.h,i.n+n⟩
def C2:Idd:=⟨⟨0,0,0⟩,0⟩
def aR(n:Int):AV := .v (.int .i32 n)
def rows(l:List Int):List AV:=l.map aR
@[simp] theorem Uz(l:List Int):(rows l).length=l.length:=by simp[rows]
@[simp] theorem MY(l:List Int):rows l=[]↔l=[]:=by simp[rows]
def tZ(n:Int):Bool:=decide (n = -1)||(decide (0≤n)&&decide (n<55296))||(decide (57343<n)&&decide (n≤1114111))
def rowB(l:List Int):Bool:=decide (l.length≤64)&&l.all tZ
def rowE(l:List Int):Int:=if 64<l.length then 4 else if l.all tZ then 0 else 8
@[simp] theorem Vx(g:Get)(k:Nat)(n:Int):view g (k+1) (aR n)=some (aR n):=id rfl
structure Rn where
 s:Spn
 a:Idd
 l:List Int
deriving DecidableEq
def runB(r:Rn):Bool:=kR r.s&&((decide (r.a=C2)||(idB r.a&&decide (r.a.n<r.s.f.n)))&&(decide ((r.l.length:Int)=r.s.many)&&rowB r.l))
theorem Du(l:List Int):rowE l=0↔rowB l=true:=by
 unfold rowE rowB
 by_cases h:64<l.length
 ·simp[h,Nat.not_le.2 h]
 ·have h':l.length≤64:=Nat.not_lt.1 h
  rw[if_neg h]
  cases l.all tZ<;>simp[h']
end Go.Ab
namespace Go.Proofs.YtmkmimgokagimaaGreat
open Go.Ab
structure Clear where
 lv:UInt8
 cats:UInt32
 ok:Bool
deriving DecidableEq,Inhabited
structure Quota where
 lv:UInt8
 cats:UInt32
 opens:Int
 ops:Int
 cells:Int
deriving DecidableEq,Inhabited
def Clear.enc(c:Clear):List AV:=[a8 c.lv,a32 c.cats,aB c.ok]
def Quota.enc(q:Quota):List AV:=[a8 q.lv,a32 q.cats,aI q.opens,aI q.ops,aI q.cells]
abbrev eN(l:List Clear):List AV:=l.map fun c => .agg c.enc
abbrev eQ(l:List Quota):List AV:=l.map fun q => .agg q.enc
abbrev W8(l:List Bool):List AV:=l.map aB
theorem ndec(a b:Int):(!decide (a<b))=decide (b≤a):=by
 by_cases h:a<b
 ·simp[h,Int.not_le.2 h]
 ·simp[h,Int.not_lt.1 h]
def zJ(a:UInt8):Int:=if 15<a then 8 else 0
@[simp] theorem OZ(a:UInt8):zJ a=0↔a≤15:=by
 unfold zJ
 split
 ·rename_i h;simp;exact h
 ·rename_i h;simp;exact UInt8.not_lt.1 h
def leqB(a:UInt8)(b:UInt32)(c:UInt8)(d:UInt32):Bool:=decide (a≤c)&&decide (b &&& ~~~d=0)
def Kx(a:UInt8)(b:UInt32)(c:UInt8)(d:UInt32):Bool:=decide (a<c)||(decide (a=c)&&decide (b<d))
def GF(v:UInt8)(c:UInt32)(ok:Bool):Bool:=decide (v≤15)&&(ok||(decide (v=0)&&decide (c=0)))
def addQ(n:Int)(q:Quota):Int:=IntKind.i64.wrap (n+IntKind.i64.wrap (q.opens+IntKind.i64.wrap (4 * q.ops)))
def sV(n:Int)(l:List Quota):Int:=l.foldl addQ n
def capC(c:Int):Int:=if 4096<(if c<0 then 0 else c) then 4096 else if c<0 then 0 else c
def addC(n:Int)(q:Quota):Int:=IntKind.i64.wrap (n+capC q.cells)
def cellsOf(n:Int)(l:List Quota):Int:=l.foldl addC n
def qOwn(q:Quota):Bool:=decide (zJ q.lv=0)&&(decide (0≤q.opens)&&decide (q.opens≤64)&&(decide (0≤q.ops)&&decide (q.ops≤256)&&(decide (0≤q.cells)&&decide (q.cells≤4096))))
def EI(p q:Quota):Bool:=Kx p.lv p.cats q.lv q.cats
def qRow:Option Quota→List Quota→Bool
 | _,[]=>true
 | p,q :: l=>(qOwn q&&(match p with | none=>true | some p=>EI p q))&&qRow (some q) l
def polB(us:List Clear)(qs:List Quota)(gr:Int):Bool :=
 decide (us.length≤8)&&decide (qs.length≤8)&&(decide (0≤gr)&&decide (gr≤64))&&us.all (fun c=>GF c.lv c.cats c.ok)&&qRow none qs&&(decide (sV gr qs≤2048)&&decide (cellsOf 0 (qs.take 8)≤8192))
def o5(us:List Clear)(qs:List Quota)(gr:Int)(a:UInt8):Int:=if zJ a>bad (polB us qs gr) then zJ a else bad (polB us qs gr)
def nQ(us:List Clear)(user:Int)(a:UInt8)(b:UInt32):Bool :=
 if h:0≤user∧user<us.length then us[user.toNat].ok&&leqB a b us[user.toNat].lv us[user.toNat].cats else false
def CF(a:UInt8)(b:UInt32)(q:Quota):Bool:=decide (q.lv=a)&&decide (q.cats=b)
def OL(a:UInt8)(b:UInt32):Option Quota→Quota
 | some q=>q
 | none=>⟨a,b,0,0,0⟩
@[simp] theorem Qo(a:UInt8)(b:UInt32)(q:Quota):OL a b (some q)=q:=id rfl
@[simp] theorem Qp(a:UInt8)(b:UInt32):OL a b none=⟨a,b,0,0,0⟩:=id rfl
def I7(qs:List Quota)(a:UInt8)(b:UInt32):Quota:=OL a b (qs.find? (CF a b))
end Go.Proofs.YtmkmimgokagimaaGreat
