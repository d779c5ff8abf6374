/-
  Handles, ids, spans: what the functions compute. No statement of a seat is proved here.
-/
import Derived.Test.YtjampffmlnplcaaAbsRules
set_option linter.unusedVariables false
set_option linter.unusedSimpArgs false
namespace Go.Ab
def bad(b:Bool):Int:=if b then 0 else 8
@[simp] theorem Dd(b:Bool):bad b=0↔b=true:=by cases b<;>simp[bad]
@[simp] theorem De:bad true=0:=id rfl
@[simp] theorem Cf:bad false=8:=id rfl
structure Han where
 lv:UInt8
 cats:UInt32
 num:UInt8
deriving DecidableEq
structure Idd where
 h:Han
 n:Int
deriving DecidableEq
structure Spn where
 f:Idd
 many:Int
deriving DecidableEq
def qp(h:Han):Bool:=decide (h.lv≤15)&&decide (h.num<8)
def idB(i:Idd):Bool:=qp i.h&&(decide (1≤i.n)&&decide (i.n≤1099511627776))
def fm(s:Spn):Bool:=idB s.f&&(decide (1≤s.many)&&(decide (s.many≤64)&&decide (s.f.n+s.many - 1≤1099511627776)))
theorem zU{i:Idd}(h:idB i=true):1≤i.n∧i.n≤1099511627776:=by
 simp[idB]at h;exact h.2
theorem dL{s:Spn}(h:fm s=true):1≤s.f.n∧1≤s.many∧s.many≤64∧s.f.n+s.many - 1≤1099511627776:=by
 simp[fm]at h
 have:=zU h.1
 exact⟨this.1,h.2.1,h.2.2.1,h.2.2.2⟩
theorem xc{s:Spn}(h:fm s=true):idB s.f=true:=by
 simp[fm]at h;exact h.1
def rP(i:Idd)(n:Int):Idd:=⟨i.h,i.n+n⟩
def th:Idd:=⟨⟨0,0,0⟩,0⟩
def aR(n:Int):AV := .v (.int .i32 n)
def rows(l:List Int):List AV:=l.map aR
@[simp] theorem xp(l:List Int):(rows l).length=l.length:=by simp[rows]
@[simp] theorem yJ(l:List Int):rows l=[]↔l=[]:=by simp[rows]
def ik(n:Int):Bool:=decide (n = -1)||(decide (0≤n)&&decide (n<55296))||(decide (57343<n)&&decide (n≤1114111))
def rowB(l:List Int):Bool:=decide (l.length≤64)&&l.all ik
def rowE(l:List Int):Int:=if 64<l.length then 4 else if l.all ik then 0 else 8
@[simp] theorem Dh(g:Get)(k:Nat)(n:Int):view g (k+1) (aR n)=some (aR n):=id rfl
structure Rn where
 s:Spn
 a:Idd
 l:List Int
deriving DecidableEq
def runB(r:Rn):Bool:=fm r.s&&((decide (r.a=th)||(idB r.a&&decide (r.a.n<r.s.f.n)))&&(decide ((r.l.length:Int)=r.s.many)&&rowB r.l))
theorem lJ(l:List Int):rowE l=0↔rowB l=true:=by
 unfold rowE rowB
 by_cases h:64<l.length
 ·simp[h,Nat.not_le.2 h]
 ·have h':l.length≤64:=Nat.not_lt.1 h
  rw[if_neg h]
  cases l.all ik<;>simp[h']
theorem fD{l:List Int}(h:0<l.length):rows l≠[]:=by
 intro e;have:=congrArg List.length e;rw[xp,List.length_nil]at this;omega
@[simp] theorem Bo(l:List Int)(n:Nat):(rows l).take n=rows (l.take n):=by simp[rows,List.map_take]
@[simp] theorem Bp(l:List Int)(n:Nat):(rows l).drop n=rows (l.drop n):=by simp[rows,List.map_drop]
@[simp] theorem CI(l m:List Int):rows l++rows m=rows (l++m):=by simp[rows]
@[simp] theorem zD(l:List Int)(i n:Nat):ed (rows l) i 0 n false=(l[i]?).map aR:=by
 unfold ed rows
 rw[List.getElem?_map]
 cases l[i]?<;>rfl
@[simp] theorem zC(z:Nat)(es:List AV)(i j:Nat)(x:AV):mz (.iptr z es i j) x=true:=id rfl
end Go.Ab
