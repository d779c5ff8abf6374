/-
  Handles, ids, spans: what the functions compute. No statement of a seat is proved here.
-/
import Derived.Test.YtdbiffjdomokfaaGreatAbsRules
set_option linter.unusedVariables false
set_option linter.unusedSimpArgs false
set_option linter.unusedSectionVars false
set_option linter.unnecessarySimpa false
namespace Go.Ab
def bad(b:Bool):Int:=if b then 0 else 8
@[simp] theorem VW(b:Bool):bad b=0↔b=true:=by cases b<;>simp[bad]
@[simp] theorem VX:bad true=0:=id rfl
@[simp] theorem Tc:bad false=8:=id rfl
structure zU where
 lv:UInt8
 cats:UInt32
 num:UInt8
deriving DecidableEq
structure eY where
 h:zU
 n:Int
deriving DecidableEq
structure zL where
 f:eY
 many:Int
deriving DecidableEq
def mm(h:zU):Bool:=decide (h.lv≤15)&&decide (h.num<8)
def C9(i:eY):Bool:=mm i.h&&(decide (1≤i.n)&&decide (i.n≤1099511627776))
def iO(s:zL):Bool:=C9 s.f&&(decide (1≤s.many)&&(decide (s.many≤64)&&decide (s.f.n+s.many - 1≤1099511627776)))
theorem F1{i:eY}(h:C9 i=true):1≤i.n∧i.n≤1099511627776:=by
 simp[C9]at h;exact h.2
theorem kU{s:zL}(h:iO s=true):1≤s.f.n∧1≤s.many∧s.many≤64∧s.f.n+s.many - 1≤1099511627776:=by
 simp[iO]at h
 have:=F1 h.1
 exact⟨this.1,h.2.1,h.2.2.1,h.2.2.2⟩
theorem KG{s:zL}(h:iO s=true):C9 s.f=true:=by
 simp[iO]at h;exact h.1
def FA(i:eY)(n:Int):eY:=⟨i.h,i.n+n⟩
def yX:eY:=⟨⟨0,0,0⟩,0⟩
def aR(n:Int):AV := .v (.int .i32 n)
def rows(l:List Int):List AV:=l.map aR
@[simp] theorem Uy(l:List Int):(rows l).length=l.length:=by simp[rows]
@[simp] theorem NK(l:List Int):rows l=[]↔l=[]:=by simp[rows]
def pt(n:Int):Bool:=decide (n = -1)||(decide (0≤n)&&decide (n<55296))||(decide (57343<n)&&decide (n≤1114111))
def Fe(l:List Int):Bool:=decide (l.length≤64)&&l.all pt
def B3(l:List Int):Int:=if 64<l.length then 4 else if l.all pt then 0 else 8
@[simp] theorem V6(g:cV)(k:Nat)(n:Int):view g (k+1) (aR n)=some (aR n):=id rfl
structure Rn where
 s:zL
 a:eY
 l:List Int
deriving DecidableEq
def Fc(r:Rn):Bool:=iO r.s&&((decide (r.a=yX)||(C9 r.a&&decide (r.a.n<r.s.f.n)))&&(decide ((r.l.length:Int)=r.s.many)&&Fe r.l))
theorem CS(l:List Int):B3 l=0↔Fe l=true:=by
 unfold B3 Fe
 by_cases h:64<l.length
 ·simp[h,Nat.not_le.2 h]
 ·have h':l.length≤64:=Nat.not_lt.1 h
  rw[if_neg h]
  cases l.all pt<;>simp[h']
end Go.Ab
namespace Go.Proofs.YtdbiffjdomokfaaGreat
open Go.Ab
structure Clear where
 lv:UInt8
 cats:UInt32
 ok:Bool
deriving DecidableEq,Inhabited
structure bI where
 lv:UInt8
 cats:UInt32
 opens:Int
 ops:Int
 cells:Int
deriving DecidableEq,Inhabited
def Clear.enc(c:Clear):List AV:=[a8 c.lv,aF c.cats,aB c.ok]
def bI.enc(q:bI):List AV:=[a8 q.lv,aF q.cats,aI q.opens,aI q.ops,aI q.cells]
abbrev fD(l:List Clear):List AV:=l.map fun c => .agg c.enc
abbrev fQ(l:List bI):List AV:=l.map fun q => .agg q.enc
abbrev VB(l:List Bool):List AV:=l.map aB
theorem UQ(a b:Int):(!decide (a<b))=decide (b≤a):=by
 by_cases h:a<b
 ·simp[h,Int.not_le.2 h]
 ·simp[h,Int.not_lt.1 h]
def vP(a:UInt8):Int:=if 15<a then 8 else 0
@[simp] theorem O4(a:UInt8):vP a=0↔a≤15:=by
 unfold vP
 split
 ·rename_i h;simp;exact h
 ·rename_i h;simp;exact UInt8.not_lt.1 h
def QN(a:UInt8)(b:UInt32)(c:UInt8)(d:UInt32):Bool:=decide (a≤c)&&decide (b &&& ~~~d=0)
def HR(a:UInt8)(b:UInt32)(c:UInt8)(d:UInt32):Bool:=decide (a<c)||(decide (a=c)&&decide (b<d))
def Em(v:UInt8)(c:UInt32)(ok:Bool):Bool:=decide (v≤15)&&(ok||(decide (v=0)&&decide (c=0)))
def YL(n:Int)(q:bI):Int:=IntKind.i64.wrap (n+IntKind.i64.wrap (q.opens+IntKind.i64.wrap (4 * q.ops)))
def rK(n:Int)(l:List bI):Int:=l.foldl YL n
def Yv(c:Int):Int:=if 4096<(if c<0 then 0 else c) then 4096 else if c<0 then 0 else c
def YM(n:Int)(q:bI):Int:=IntKind.i64.wrap (n+Yv q.cells)
def cellsOf(n:Int)(l:List bI):Int:=l.foldl YM n
def NO(q:bI):Bool:=decide (vP q.lv=0)&&(decide (0≤q.opens)&&decide (q.opens≤64)&&(decide (0≤q.ops)&&decide (q.ops≤256)&&(decide (0≤q.cells)&&decide (q.cells≤4096))))
def DN(p q:bI):Bool:=HR p.lv p.cats q.lv q.cats
def Ju:Option bI→List bI→Bool
 | _,[]=>true
 | p,q :: l=>(NO q&&(match p with | none=>true | some p=>DN p q))&&Ju (some q) l
def DO(us:List Clear)(qs:List bI)(gr:Int):Bool :=
 decide (us.length≤8)&&decide (qs.length≤8)&&(decide (0≤gr)&&decide (gr≤64))&&us.all (fun c=>Em c.lv c.cats c.ok)&&Ju none qs&&(decide (rK gr qs≤2048)&&decide (cellsOf 0 (qs.take 8)≤8192))
def u7(us:List Clear)(qs:List bI)(gr:Int)(a:UInt8):Int:=if vP a>bad (DO us qs gr) then vP a else bad (DO us qs gr)
def AJ(us:List Clear)(user:Int)(a:UInt8)(b:UInt32):Bool :=
 if h:0≤user∧user<us.length then us[user.toNat].ok&&QN a b us[user.toNat].lv us[user.toNat].cats else false
def xi(a:UInt8)(b:UInt32)(q:bI):Bool:=decide (q.lv=a)&&decide (q.cats=b)
def Lr(a:UInt8)(b:UInt32):Option bI→bI
 | some q=>q
 | none=>⟨a,b,0,0,0⟩
@[simp] theorem QB(a:UInt8)(b:UInt32)(q:bI):Lr a b (some q)=q:=id rfl
@[simp] theorem QC(a:UInt8)(b:UInt32):Lr a b none=⟨a,b,0,0,0⟩:=id rfl
def Ij(qs:List bI)(a:UInt8)(b:UInt32):bI:=Lr a b (qs.find? (xi a b))
end Go.Proofs.YtdbiffjdomokfaaGreat
