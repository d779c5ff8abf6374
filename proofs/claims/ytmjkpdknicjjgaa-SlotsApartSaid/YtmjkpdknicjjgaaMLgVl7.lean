/-
  The arguments' data: disks. No statement of a seat is proved here.
-/
import Derived.Test.YtmjkpdknicjjgaaDskFns
import Derived.Test.YtmjkpdknicjjgaaLgTy
import Derived.Test.YtmjkpdknicjjgaaAbsRules
set_option linter.unusedVariables false
set_option linter.unusedSimpArgs false
set_option maxRecDepth 1000000
namespace Go.Proofs.Ytmjkpdknicjjgaa
open Go.Ab Go.ChangeShapes Go.WideShapes Go.RowKit
theorem MB {n:Nat} {x:AV} (h:ShV env.P n 5 x) : ∃v:UInt8,x=a8 v:=by
 obtain ⟨i,hi,e⟩:=Qg (P:=env.P) (t:=5) (by simp) _ _ (h.cell (by simp))
 cases e
 exact ⟨i,rfl⟩
theorem M4:Rep env.P 94 sU (fun s:Sec=>[aI s.pos,s.av]):=by
 intro n xs h
 have h:=Bk (P:=env.P) wx h
 obtain ⟨m,x,r,rfl,h1,y,r',rfl,h2,rfl⟩:=h
 obtain ⟨i,_,rfl⟩:=zI (P:=env.P) (t:=3) (by simp) _ _ h1
 obtain ⟨l,z,rfl,hs⟩:=JD (P:=env.P) (t:=68) (e:=5) (by simp) (by simp) (by simp) (by simp) h2
 exact ⟨⟨i,l,z⟩,hs,rfl⟩
theorem P5 {n:Nat} {x:AV} (h:ShV env.P n 24 x) : ∃(l:List Sec) (y:AV) (st lf:Int) (dd:Bool),(∀s∈l,sU s)∧Sl 2 (encS l) y∧x=dsk y st lf dd:=by
 obtain ⟨y,rfl,h'⟩:=h.agg (by simp)
 have h:=Bk (P:=env.P) Dz h'
 obtain ⟨m,x1,r1,rfl,h1,x2,r2,rfl,h2,x3,r3,rfl,h3,x4,r4,rfl,h4,rfl⟩:=h
 obtain ⟨l,z,hl,rfl,s⟩:=D9 (P:=env.P) D6 D4 Gy M4 h1
 obtain ⟨st,_,rfl⟩:=zI (P:=env.P) (t:=3) (by simp) _ _ h2
 obtain ⟨lf,_,rfl⟩:=zI (P:=env.P) (t:=3) (by simp) _ _ h3
 obtain ⟨b,_,rfl⟩:=JY (P:=env.P) (t:=4) (by simp) _ _ h4
 exact ⟨l,z,st,lf,b,hl,s,rfl⟩
end Go.Proofs.Ytmjkpdknicjjgaa
set_option linter.unusedVariables false
set_option maxRecDepth 1000000
namespace Go.Proofs.Ytmjkpdknicjjgaa
open Go.Ab
theorem K0:env.Ok (BY env):=IG En (by kernel_rfl) Iz (fun f t h=>by cases h) (fun f args H y H' h=>by
 by_cases e:f=42
 ·rw [if_pos e] at h
  rw [e]
  exact ins.Ie args H y H' h
 ·rw [if_neg e] at h;cases h)
end Go.Proofs.Ytmjkpdknicjjgaa
set_option linter.unusedVariables false
set_option linter.unusedSimpArgs false
namespace Go.Ab
def bad (b:Bool):Int:=if b then 0 else 8
@[simp] theorem S8 (b:Bool):bad b=0↔b=true:=by cases b<;>simp [bad]
@[simp] theorem vh:bad true=0:=id rfl
@[simp] theorem Cp:bad false=8:=id rfl
structure Han where
 lv:UInt8
 cats:UInt32
 num:UInt8
deriving DecidableEq
structure Idd where
 h:Han
 n:Int
deriving DecidableEq
structure Spn where
 f:Idd
 many:Int
deriving DecidableEq
def gN (h:Han):Bool:=decide (h.lv≤15)&&decide (h.num<8)
def idB (i:Idd):Bool:=gN i.h&&(decide (1≤i.n)&&decide (i.n≤1099511627776))
def pL (s:Spn):Bool:=idB s.f&&(decide (1≤s.many)&&(decide (s.many≤64)&&decide (s.f.n+s.many - 1≤1099511627776)))
theorem Ih {i:Idd} (h:idB i=true):1≤i.n∧i.n≤1099511627776:=by
 simp [idB] at h;exact h.2
theorem GJ {s:Spn} (h:pL s=true):1≤s.f.n∧1≤s.many∧s.many≤64∧s.f.n+s.many - 1≤1099511627776:=by
 simp [pL] at h
 have:=Ih h.1
 exact ⟨this.1,h.2.1,h.2.2.1,h.2.2.2⟩
theorem JA {s:Spn} (h:pL s=true):idB s.f=true:=by
 simp [pL] at h;exact h.1
def oF:Idd:=⟨⟨0,0,0⟩,0⟩
def aR (n:Int):AV := .v (.int .i32 n)
def rows (l:List Int):List AV:=l.map aR
@[simp] theorem Sr (l:List Int):(rows l).length=l.length:=by simp [rows]
def ry (n:Int):Bool:=decide (n = -1)||(decide (0≤n)&&decide (n<55296))||(decide (57343<n)&&decide (n≤1114111))
def rowB (l:List Int):Bool:=decide (l.length≤64)&&l.all ry
def rowE (l:List Int):Int:=if 64<l.length then 4 else if l.all ry then 0 else 8
@[simp] theorem SE (n:Int):(aR n).cells=[aR n]:=id rfl
@[simp] theorem Vl (n:Int):(aR n).one=true:=id rfl
@[simp] theorem Td (g:Get) (k:Nat) (n:Int):view g (k+1) (aR n)=some (aR n):=id rfl
theorem Bp (l:List Int):rowE l=0↔rowB l=true:=by
 unfold rowE rowB
 by_cases h:64<l.length
 ·simp [h,Nat.not_le.2 h]
 ·have h':l.length≤64:=Nat.not_lt.1 h
  rw [if_neg h]
  cases l.all ry<;>simp [h']
end Go.Ab
set_option linter.unusedVariables false
set_option linter.unusedSimpArgs false
namespace Go.Ab
structure Lab where
 lv:UInt8
 cats:UInt32
deriving DecidableEq
structure Opn where
 kind:UInt8
 h:Han
 serial:Int
 s:Spn
 a:Idd
 to:Lab
 l:List Int
deriving DecidableEq
def k9 (a:Idd):Bool:=decide (a.h.lv=0)&&decide (a.h.cats=0)&&decide (a.h.num=0)&&decide (a.n=0)
def AA (t:Lab):Bool:=decide (t.lv=0)&&decide (t.cats=0)
def JF (a b:Han):Bool:=decide (a.lv=b.lv)&&decide (a.cats=b.cats)&&decide (a.num=b.num)
theorem pN (a:Idd):k9 a=true↔a=oF:=by
 obtain ⟨⟨a,b,c⟩,d⟩:=a
 simp [k9,oF,and_assoc]
def DQ (o:Opn):Bool:=k9 o.a&&decide (o.l=[])
def insB (o:Opn):Bool:=AA o.to&&((k9 o.a||idB o.a)&&(JF o.s.f.h o.h&&(decide ((o.l.length:Int)=o.s.many)&&rowB o.l)))
def delB (o:Opn):Bool:=AA o.to&&DQ o
def raiB (o:Opn):Bool:=DQ o&&decide (o.to.lv≤15)
def mayB (o:Opn):Bool:=if o.kind=1 then insB o else if o.kind=2 then delB o else if o.kind=3 then raiB o else false
def opB (o:Opn):Bool:=gN o.h&&(decide (1≤o.serial)&&(decide (o.serial<16777216)&&(pL o.s&&mayB o)))
theorem zO {P:Program} {t:TypeId} (h1:(tagg P t).isSome=true) (h2:(aV P t).isSome=true) (cs:List AV) (off:Nat):tN P t cs off=Kj cs off ((aV P t).getD 0) ((tagg P t).getD false):=by
 obtain ⟨b,hb⟩:=Option.isSome_iff_exists.1 h1
 obtain ⟨n,hn⟩:=Option.isSome_iff_exists.1 h2
 simp only [tN,hb,hn,Option.getD_some]
 cases b<;>rfl
theorem vS {P:Program} {t:TypeId} (h1:((tarr P t).bind fun p=>aV P p.2).isSome=true) (cs:List AV) (k:UInt8) (hk:k.toNat<((tarr P t).getD (0,0)).1) :
 q9 P t (some (.agg cs)) (some (a8 k))=qVal (tN P ((tarr P t).getD (0,0)).2 cs (k.toNat * (aV P ((tarr P t).getD (0,0)).2).getD 0)):=by
 cases ht:tarr P t with
 | none=>rw [ht] at h1;simp at h1
 | some p =>
  obtain ⟨n,e⟩:=p
  rw [ht] at h1 hk
  simp only [Option.bind_some,Option.getD_some] at h1 hk
  obtain ⟨s,hs⟩:=Option.isSome_iff_exists.1 h1
  unfold q9 a8
  simp only [Option.bind_some,qW,ht,hs,Option.getD_some]
  rw [if_pos (by omega)]
  simp
@[simp] theorem QV (r:Ref) (n:Nat) (f:Fn) (a b:List AV) (bs:List Blk):aZ r n (.fn f a b) bs=(.fn f a b,bs):=by cases n<;>rfl
end Go.Ab
set_option linter.unusedVariables false
set_option linter.unusedSimpArgs false
set_option maxRecDepth 1000000
namespace Go.Ab
def Han.enc (h:Han):List AV:=[a8 h.lv,a32 h.cats,a8 h.num]
def Idd.enc (i:Idd):List AV:=[a8 i.h.lv,a32 i.h.cats,a8 i.h.num,aI i.n]
def Spn.enc (s:Spn):List AV:=[a8 s.f.h.lv,a32 s.f.h.cats,a8 s.f.h.num,aI s.f.n,aI s.many]
end Go.Ab
namespace Go.Proofs.Ytmjkpdknicjjgaa
open Go.Ab Go.ChangeShapes Go.WideShapes Go.RowKit
theorem P4 {n:Nat} {x:AV} (h:ShV env.P n 3 x) : ∃i:Int,(-9223372036854775808≤i∧i≤9223372036854775807)∧x=aI i:=by
 obtain ⟨i,hi,e⟩:=zI (P:=env.P) (t:=3) (by simp) _ _ (h.cell (by simp))
 cases e
 exact ⟨i,hi,rfl⟩
theorem own:ownKnob Try.prog.godebug=none:=by kernel_rfl
theorem kids:Kids Try.prog (· < Try.prog.types.size):=kids_rows (by kernel_rfl) (by kernel_rfl)
end Go.Proofs.Ytmjkpdknicjjgaa
set_option linter.unusedVariables false
set_option maxRecDepth 1000000
namespace Go.Proofs.Ytmjkpdknicjjgaa
open Go.Ab
noncomputable def eJ:Code:=(Try.f8.body).getD .skip
def lD:Nat→Option (List Nat):=fun i=>none
def lG:Nat→Bool:=fun i=>false
def bn (g:Nat→AV) (x0 x1 x2:AV) (H:Heap) (Q:AV→Heap→Prop):Prop :=
 doW (nRes H (⟨0,3,Heap.gen H 0 3,0⟩:Ref) (qBox env.P (⟨0,3,Heap.gen H 0 3,0⟩:Ref) 24 (some x0))) fun v1 H1 =>
 doW (an env true (limf env) (limt env 0) H1 (⟨0,17,Heap.gen H1 0 17,0⟩:Ref) (some (.fn (.func 24) [] [])) []) fun v2 H2 =>
 doQ (ak env.P (Heap.get H2) 24 (some v1)) fun v3 =>
 doW (an env true (limf env) (limt env 0) H2 (⟨0,19,Heap.gen H2 0 19,0⟩:Ref) (some (.fn (.func 26) [] [])) [v3]) fun v4 H3 =>
 gQ v4 false (qVal (some x1)) fun v5 =>
 gQ v4 false (qBin env.P .lss 3 (.tmp 21) (.const (.int .i64 0)) (some v5) (some (.v (.int .i64 0)))) fun v6 =>
 doQ (a9 (some v4) (some (.v (.bool true))) (some v6)) fun v7 =>
 gQ v7 false (qVal (some x1)) fun v8 =>
 gQ v7 false (qBin env.P .geq 3 (.tmp 25) (.const (.int .i64 2048)) (some v8) (some (.v (.int .i64 2048)))) fun v9 =>
 doQ (a9 (some v7) (some (.v (.bool true))) (some v9)) fun v10 =>
 gQ v10 false (qVal (some v2)) fun v11 =>
 gQ v10 false (qUn env.P .not (some v11)) fun v12 =>
 doQ (a9 (some v10) (some (.v (.bool true))) (some v12)) fun v13 =>
 br (some v13) (
 Q v2 H3) (
 doW (nRes H3 (⟨0,33,Heap.gen H3 0 33,0⟩:Ref) (qV env.P (⟨0,33,Heap.gen H3 0 33,0⟩:Ref) 68 (some (.v (.int .i64 128))) (some (.v (.int .i64 128))))) fun v14 H4 =>
 doQ (au env.P (Heap.get H4) 68 (some v14) (some (.v (.int .i64 0)))) fun v15 =>
 doW (aw env.P H4 5 (some v15) (some x2)) fun v16 H5 =>
 doQ (ak env.P (Heap.get H5) 24 (some v1)) fun v17 =>
 doW (an env true (limf env) (limt env 0) H5 (⟨0,41,Heap.gen H5 0 41,0⟩:Ref) (some (.fn (.func 27) [] [])) [v17,x1,v14]) fun v18 H6 =>
 doQ (ao (some v18) 0) fun v19 =>
 doQ (ao (some v18) 1) fun v20 =>
 doW (nRes H6 (⟨0,9,Heap.gen H6 0 9,0⟩:Ref) (bS env.P (⟨0,9,Heap.gen H6 0 9,0⟩:Ref) 24)) fun v21 H7 =>
 doW (aw env.P H7 24 (some v21) (some v19)) fun v22 H8 =>
 doQ (qBin env.P .neq 25 (.tmp 44) (.const (.int .i64 0)) (some v20) (some (.v (.int .i64 0)))) fun v23 =>
 br (some v23) (
 Q v2 H8) (
 doQ (ak env.P (Heap.get H8) 24 (some v1)) fun v24 =>
 doW (an env true (limf env) (limt env 0) H8 (⟨0,49,Heap.gen H8 0 49,0⟩:Ref) (some (.fn (.func 28) [] [])) [v24]) fun v25 H9 =>
 doQ (ao (some v25) 0) fun v26 =>
 doQ (ao (some v25) 1) fun v27 =>
 doQ (ao (some v25) 2) fun v28 =>
 doW (nRes H9 (⟨0,12,Heap.gen H9 0 12,0⟩:Ref) (bS env.P (⟨0,12,Heap.gen H9 0 12,0⟩:Ref) 71)) fun v29 H10 =>
 doW (aw env.P H10 71 (some v29) (some v27)) fun v30 H11 =>
 doQ (ak env.P (Heap.get H11) 24 (some v21)) fun v31 =>
 doW (an env true (limf env) (limt env 0) H11 (⟨0,55,Heap.gen H11 0 55,0⟩:Ref) (some (.fn (.func 28) [] [])) [v31]) fun v32 H12 =>
 doQ (ao (some v32) 0) fun v33 =>
 doQ (ao (some v32) 1) fun v34 =>
 doQ (ao (some v32) 2) fun v35 =>
 doW (nRes H12 (⟨0,15,Heap.gen H12 0 15,0⟩:Ref) (bS env.P (⟨0,15,Heap.gen H12 0 15,0⟩:Ref) 71)) fun v36 H13 =>
 doW (aw env.P H13 71 (some v36) (some v34)) fun v37 H14 =>
 gQ v2 true (qVal (some v28)) fun v38 =>
 gQ v2 true (qVal (some v35)) fun v39 =>
 gQ v2 true (qBin env.P .eql 25 (.tmp 61) (.tmp 62) (some v38) (some v39)) fun v40 =>
 doQ (a9 (some v2) (some v40) (some (.v (.bool false)))) fun v41 =>
 gQ v41 true (ak env.P (Heap.get H14) 71 (some v29)) fun v42 =>
 gQ v41 true (ak env.P (Heap.get H14) 71 (some v36)) fun v43 =>
 gQ v41 true (qBin env.P .eql 71 (.tmp 66) (.tmp 67) (some v42) (some v43)) fun v44 =>
 doQ (a9 (some v41) (some v44) (some (.v (.bool false)))) fun v45 =>
 gQ v45 true (qVal (some v26)) fun v46 =>
 gQ v45 true (qVal (some v33)) fun v47 =>
 gW v45 true H14 (an env true (limf env) (limt env 0) H14 (⟨0,73,Heap.gen H14 0 73,0⟩:Ref) (some (.fn (.func 19) [] [])) [v46,v47]) fun v48 H15 =>
 doQ (a9 (some v45) (some v48) (some (.v (.bool false)))) fun v49 =>
 Q v49 H15))
theorem lh:bn=fun g x0 x1 x2 H Q=>wp env Try.f8 none 0 lD lG Q 500 [.code eJ] (ofL g [(0,x0),(1,x1),(2,x2)]) H:=by kernel_rfl
theorem lz (x0 x1 x2:AV) (H:Heap) (Q:AV→Heap→Prop) (h : ∀g,bn g x0 x1 x2 H Q):GoL env Try.f8 0 [.code eJ] [(0,x0),(1,x1),(2,x2)] H Q:=⟨fun g=>bc (by have h:=h g;rw [lh] at h;exact h)⟩
end Go.Proofs.Ytmjkpdknicjjgaa
set_option linter.unusedVariables false
set_option maxRecDepth 1000000
namespace Go.Proofs.Ytmjkpdknicjjgaa
open Go.Ab
end Go.Proofs.Ytmjkpdknicjjgaa
