/-
  Handles, ids, spans: what the functions compute. No statement of a seat is proved here.
-/
import Derived.Test.YtmkmimgokagimaaGreatAbsRules
set_option linter.unusedVariables false
set_option linter.unusedSimpArgs false
set_option linter.unusedSectionVars false
set_option linter.unnecessarySimpa false
namespace Go.Ab
def bad(b:Bool):Int:=if b then 0 else 8
@[simp] theorem abL(b:Bool):bad b=0↔b=true:=by cases b<;>simp[bad]
@[simp] theorem abM:bad true=0:=id rfl
@[simp] theorem Y4:bad false=8:=id rfl
structure nY where
 lv:UInt8
 cats:UInt32
 num:UInt8
deriving DecidableEq
structure eJ where
 h:nY
 n:Int
deriving DecidableEq
structure CZ where
 f:eJ
 many:Int
deriving DecidableEq
def fL(h:nY):Bool:=decide (h.lv≤15)&&decide (h.num<8)
def G0(i:eJ):Bool:=fL i.h&&(decide (1≤i.n)&&decide (i.n≤1099511627776))
def jz(s:CZ):Bool:=G0 s.f&&(decide (1≤s.many)&&(decide (s.many≤64)&&decide (s.f.n+s.many - 1≤1099511627776)))
theorem KG{i:eJ}(h:G0 i=true):1≤i.n∧i.n≤1099511627776:=by
 simp[G0]at h;exact h.2
theorem kV{s:CZ}(h:jz s=true):1≤s.f.n∧1≤s.many∧s.many≤64∧s.f.n+s.many - 1≤1099511627776:=by
 simp[jz]at h
 have:=KG h.1
 exact⟨this.1,h.2.1,h.2.2.1,h.2.2.2⟩
theorem P2{s:CZ}(h:jz s=true):G0 s.f=true:=by
 simp[jz]at h;exact h.1
def Kg(i:eJ)(n:Int):eJ:=⟨i.h,i.n+n⟩
def Ar:eJ:=⟨⟨0,0,0⟩,0⟩
def aR(n:Int):AV := .v (.int .i32 n)
def rows(l:List Int):List AV:=l.map aR
@[simp] theorem aar(l:List Int):(rows l).length=l.length:=by simp[rows]
@[simp] theorem S0(l:List Int):rows l=[]↔l=[]:=by simp[rows]
def rO(n:Int):Bool:=decide (n = -1)||(decide (0≤n)&&decide (n<55296))||(decide (57343<n)&&decide (n≤1114111))
def JU(l:List Int):Bool:=decide (l.length≤64)&&l.all rO
def GF(l:List Int):Int:=if 64<l.length then 4 else if l.all rO then 0 else 8
@[simp] theorem abU(g:dy)(k:Nat)(n:Int):view g (k+1) (aR n)=some (aR n):=id rfl
structure Rn where
 s:CZ
 a:eJ
 l:List Int
deriving DecidableEq
def DI(r:Rn):Bool:=jz r.s&&((decide (r.a=Ar)||(G0 r.a&&decide (r.a.n<r.s.f.n)))&&(decide ((r.l.length:Int)=r.s.many)&&JU r.l))
theorem Hv(l:List Int):GF l=0↔JU l=true:=by
 unfold GF JU
 by_cases h:64<l.length
 ·simp[h,Nat.not_le.2 h]
 ·have h':l.length≤64:=Nat.not_lt.1 h
  rw[if_neg h]
  cases l.all rO<;>simp[h']
@[simp] theorem UI(l:List Int)(i n:Nat):eQ (rows l) i 0 n false=(l[i]?).map aR:=by
 unfold eQ rows
 rw[List.getElem?_map]
 cases l[i]?<;>rfl
end Go.Ab
namespace Go.Proofs.YtmkmimgokagimaaGreat
open Go.Ab
structure Clear where
 lv:UInt8
 cats:UInt32
 ok:Bool
deriving DecidableEq,Inhabited
structure bn where
 lv:UInt8
 cats:UInt32
 opens:Int
 ops:Int
 cells:Int
deriving DecidableEq,Inhabited
def Clear.enc(c:Clear):List AV:=[a8 c.lv,aF c.cats,aB c.ok]
def bn.enc(q:bn):List AV:=[a8 q.lv,aF q.cats,aI q.opens,aI q.ops,aI q.cells]
abbrev ed(l:List Clear):List AV:=l.map fun c => .agg c.enc
abbrev ef(l:List bn):List AV:=l.map fun q => .agg q.enc
abbrev abk(l:List Bool):List AV:=l.map aB
theorem aaE(a b:Int):(!decide (a<b))=decide (b≤a):=by
 by_cases h:a<b
 ·simp[h,Int.not_le.2 h]
 ·simp[h,Int.not_lt.1 h]
def Ac(a:UInt8):Int:=if 15<a then 8 else 0
@[simp] theorem UN(a:UInt8):Ac a=0↔a≤15:=by
 unfold Ac
 split
 ·rename_i h;simp;exact h
 ·rename_i h;simp;exact UInt8.not_lt.1 h
def Wr(a:UInt8)(b:UInt32)(c:UInt8)(d:UInt32):Bool:=decide (a≤c)&&decide (b &&& ~~~d=0)
def MR(a:UInt8)(b:UInt32)(c:UInt8)(d:UInt32):Bool:=decide (a<c)||(decide (a=c)&&decide (b<d))
def I7(v:UInt8)(c:UInt32)(ok:Bool):Bool:=decide (v≤15)&&(ok||(decide (v=0)&&decide (c=0)))
def aeu(n:Int)(q:bn):Int:=IntKind.i64.wrap (n+IntKind.i64.wrap (q.opens+IntKind.i64.wrap (4 * q.ops)))
def vM(n:Int)(l:List bn):Int:=l.foldl aeu n
def aeh(c:Int):Int:=if 4096<(if c<0 then 0 else c) then 4096 else if c<0 then 0 else c
def aev(n:Int)(q:bn):Int:=IntKind.i64.wrap (n+aeh q.cells)
def cellsOf(n:Int)(l:List bn):Int:=l.foldl aev n
def S9(q:bn):Bool:=decide (Ac q.lv=0)&&(decide (0≤q.opens)&&decide (q.opens≤64)&&(decide (0≤q.ops)&&decide (q.ops≤256)&&(decide (0≤q.cells)&&decide (q.cells≤4096))))
def Iu(p q:bn):Bool:=MR p.lv p.cats q.lv q.cats
def Oy:Option bn→List bn→Bool
 | _,[]=>true
 | p,q :: l=>(S9 q&&(match p with | none=>true | some p=>Iu p q))&&Oy (some q) l
def GM(us:List Clear)(qs:List bn)(gr:Int):Bool :=
 decide (us.length≤8)&&decide (qs.length≤8)&&(decide (0≤gr)&&decide (gr≤64))&&us.all (fun c=>I7 c.lv c.cats c.ok)&&Oy none qs&&(decide (vM gr qs≤2048)&&decide (cellsOf 0 (qs.take 8)≤8192))
def nv(us:List Clear)(qs:List bn)(gr:Int)(a:UInt8):Int:=if Ac a>bad (GM us qs gr) then Ac a else bad (GM us qs gr)
def nQ(us:List Clear)(user:Int)(a:UInt8)(b:UInt32):Bool :=
 if h:0≤user∧user<us.length then us[user.toNat].ok&&Wr a b us[user.toNat].lv us[user.toNat].cats else false
def Bs(a:UInt8)(b:UInt32)(q:bn):Bool:=decide (q.lv=a)&&decide (q.cats=b)
def QV(a:UInt8)(b:UInt32):Option bn→bn
 | some q=>q
 | none=>⟨a,b,0,0,0⟩
@[simp] theorem Wh(a:UInt8)(b:UInt32)(q:bn):QV a b (some q)=q:=id rfl
@[simp] theorem Wi(a:UInt8)(b:UInt32):QV a b none=⟨a,b,0,0,0⟩:=id rfl
def Nf(qs:List bn)(a:UInt8)(b:UInt32):bn:=QV a b (qs.find? (Bs a b))
end Go.Proofs.YtmkmimgokagimaaGreat
