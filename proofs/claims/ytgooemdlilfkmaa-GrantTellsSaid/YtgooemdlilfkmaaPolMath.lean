/-
  Policies as plain data: what may be, and sums. No statement of a seat is proved here.
-/
import Derived.Test.YtgooemdlilfkmaaAbsRules
set_option linter.unusedVariables false
set_option linter.unusedSimpArgs false
namespace Go.Proofs.Ytgooemdlilfkmaa
open Go.Ab
structure Clear where
 lv:UInt8
 cats:UInt32
 ok:Bool
deriving DecidableEq,Inhabited
structure Quota where
 lv:UInt8
 cats:UInt32
 opens:Int
 ops:Int
 cells:Int
deriving DecidableEq,Inhabited
def Clear.enc(c:Clear):List AV:=[a8 c.lv,a32 c.cats,aB c.ok]
def Quota.enc(q:Quota):List AV:=[a8 q.lv,a32 q.cats,aI q.opens,aI q.ops,aI q.cells]
abbrev av(l:List Clear):List AV:=l.map fun c => .agg c.enc
abbrev ay(l:List Quota):List AV:=l.map fun q => .agg q.enc
abbrev CA(l:List Bool):List AV:=l.map aB
theorem lD{α:Type}{c:α}{s l:List α}{k:Nat}(h:k<l.length):(c :: s=l.drop k)=(c=l[k]∧s=l.drop (k+1)):=by
 rw[List.drop_eq_getElem_cons h];simp only[List.cons.injEq]
theorem ndec(a b:Int):(!decide (a<b))=decide (b≤a):=by
 by_cases h:a<b
 ·simp[h,Int.not_le.2 h]
 ·simp[h,Int.not_lt.1 h]
def p6(a:UInt8):Int:=if 15<a then 8 else 0
@[simp] theorem yb(a:UInt8):p6 a=0↔a≤15:=by
 unfold p6
 split
 ·rename_i h;simp;exact h
 ·rename_i h;simp;exact UInt8.not_lt.1 h
def qk(a:UInt8)(b:UInt32)(c:UInt8)(d:UInt32):Bool:=decide (a<c)||(decide (a=c)&&decide (b<d))
def jf(v:UInt8)(c:UInt32)(ok:Bool):Bool:=decide (v≤15)&&(ok||(decide (v=0)&&decide (c=0)))
def addQ(n:Int)(q:Quota):Int:=IntKind.i64.wrap (n+IntKind.i64.wrap (q.opens+IntKind.i64.wrap (4 * q.ops)))
def gG(n:Int)(l:List Quota):Int:=l.foldl addQ n
def capC(c:Int):Int:=if 4096<(if c<0 then 0 else c) then 4096 else if c<0 then 0 else c
def addC(n:Int)(q:Quota):Int:=IntKind.i64.wrap (n+capC q.cells)
def cellsOf(n:Int)(l:List Quota):Int:=l.foldl addC n
def bad(b:Bool):Int:=if b=true then 0 else 8
def qOwn(q:Quota):Bool:=decide (p6 q.lv=0)&&(decide (0≤q.opens)&&decide (q.opens≤64)&&(decide (0≤q.ops)&&decide (q.ops≤256)&&(decide (0≤q.cells)&&decide (q.cells≤4096))))
def mJ(p q:Quota):Bool:=qk p.lv p.cats q.lv q.cats
def qRow:Option Quota→List Quota→Bool
 | _,[]=>true
 | p,q :: l=>(qOwn q&&(match p with | none=>true | some p=>mJ p q))&&qRow (some q) l
def mayB(us:List Clear)(qs:List Quota)(gr:Int):Bool :=
 decide (us.length≤8)&&decide (qs.length≤8)&&(decide (0≤gr)&&decide (gr≤64))&&us.all (fun c=>jf c.lv c.cats c.ok)&&qRow none qs&&(decide (gG gr qs≤2048)&&decide (cellsOf 0 (qs.take 8)≤8192))
def sumQ(n:Int)(l:List Quota):Int:=l.foldl (fun n q=>n+q.opens+4 * q.ops) n
def sumC(n:Int)(l:List Quota):Int:=l.foldl (fun n q=>n+q.cells) n
theorem oF{q:Quota}(h:qOwn q=true):0≤q.opens∧q.opens≤64∧0≤q.ops∧q.ops≤256∧0≤q.cells∧q.cells≤4096:=by
 simp only[qOwn,Bool.and_eq_true,decide_eq_true_eq]at h
 omega
theorem rz : ∀ {l:List Quota} {p:Option Quota},qRow p l=true →∀q∈l,qOwn q=true:=by
 intro l
 induction l with
 | nil=>intro p _ q hq;simp at hq
 | cons x l ih =>
  intro p h q hq
  simp only[qRow,Bool.and_eq_true]at h
  rcases List.mem_cons.1 hq with rfl | hq
  ·exact h.1.1
  ·exact ih h.2 q hq
theorem qj : ∀ {l:List Quota} {n:Int},(∀q∈l,qOwn q=true)→0≤n→n+1088 * l.length≤4611686018427387904→gG n l=sumQ n l∧n≤sumQ n l∧sumQ n l≤n+1088 * l.length:=by
 intro l
 induction l with
 | nil=>intro n _ h0 h1;simp[gG,sumQ]
 | cons q l ih =>
  intro n h h0 h1
  have hq:=oF (h q (List.mem_cons_self ..))
  simp only[List.length_cons]at h1 ⊢
  have e1:IntKind.i64.wrap (4 * q.ops)=4 * q.ops:=IntWalk.i64_in _ (by omega)
  have e2:IntKind.i64.wrap (q.opens+4 * q.ops)=q.opens+4 * q.ops:=IntWalk.i64_in _ (by omega)
  have e3:IntKind.i64.wrap (n+(q.opens+4 * q.ops))=n+q.opens+4 * q.ops:=by rw[IntWalk.i64_in _ (by omega)];omega
  have:=ih (n:=n+q.opens+4 * q.ops) (fun x hx=>h x (List.mem_cons_of_mem _ hx)) (by omega) (by omega)
  simp only[gG,sumQ,List.foldl_cons,addQ,e1,e2,e3]at this ⊢
  omega
theorem q0 : ∀ {l:List Quota} {n:Int},(∀q∈l,qOwn q=true)→0≤n→n+4096 * l.length≤4611686018427387904→cellsOf n l=sumC n l:=by
 intro l
 induction l with
 | nil=>intro n _ h0 h1;rfl
 | cons q l ih =>
  intro n h h0 h1
  have hq:=oF (h q (List.mem_cons_self ..))
  simp only[List.length_cons]at h1
  have e0:capC q.cells=q.cells:=by unfold capC;(repeat rw[if_neg (by omega)])
  have e1:IntKind.i64.wrap (n+q.cells)=n+q.cells:=IntWalk.i64_in _ (by omega)
  have:=ih (n:=n+q.cells) (fun x hx=>h x (List.mem_cons_of_mem _ hx)) (by omega) (by omega)
  simp only[cellsOf,sumC,List.foldl_cons,addC,e0,e1]at this ⊢
  exact this
theorem oR(us:List Clear)(qs:List Quota)(gr:Int):mayB us qs gr=(decide (us.length≤8)&&decide (qs.length≤8)&&(decide (0≤gr)&&decide (gr≤64))&&us.all (fun c=>jf c.lv c.cats c.ok)&&qRow none qs&&(decide (sumQ gr qs≤2048)&&decide (sumC 0 qs≤8192))):=by
 unfold mayB
 by_cases h2:qs.length≤8
 ·by_cases h3:0≤gr∧gr≤64
  ·cases h5:qRow none qs with
   | false=>simp
   | true =>
    have ho:=rz h5
    have e1:=qj (n:=gr) ho h3.1 (by omega)
    have e2:=q0 (n:=0) ho (by omega) (by omega)
    rw[List.take_of_length_le h2,e1.1,e2]
  ·have:(decide (0≤gr)&&decide (gr≤64))=false:=by simp;omega
   simp[this]
 ·simp[h2]
end Go.Proofs.Ytgooemdlilfkmaa
