/-
  Chains: what the functions compute. No statement of a seat is proved here.
-/
import Derived.Test.YtdbiffjdomokfaaGreatMOpBytes
set_option linter.unusedVariables false
set_option linter.unusedSimpArgs false
namespace Go.Ab
def nP(a b:jz):Bool:=decide (a.lv≤b.lv)&&decide (a.cats &&& ~~~b.cats=0)
def xB(l:List jz):List AV:=l.map fun a => .agg [a8 a.lv,aG a.cats]
@[simp] theorem XH(l:List jz):(xB l).length=l.length:=by simp[xB]
def hasB(s:Ao)(i:eE):Bool:=jg s&&(decide (s.f.h=i.h)&&(decide (s.f.n≤i.n)&&decide (i.n<s.f.n+s.many)))
def JZ(o:bG):jz:=⟨o.h.lv,o.h.cats⟩
def RF(i:eE):jz:=⟨i.h.lv,i.h.cats⟩
def lB(o:bG)(i:eE)(v:jz):Bool:=decide (o.kind=3)&&(hasB o.s i&&nP (JZ o) v)
def xM(out:List jz)(t:jz):List jz:=if t∈out then out else out++[t]
def sJ(out:List jz)(l:List bG)(i:eE)(v:jz):List jz:=l.foldl (fun out o=>if lB o i v then xM out o.to else out) out
def vc(l:List bG)(i:eE)(v:jz):List jz:=sJ [RF i] l i v
def mz(l:List bG)(o:bG):Bool:=if o.kind=3 then nP (JZ o) o.to&&(List.range o.s.many.toNat).all (fun k=>decide (JZ o∈vc l ⟨o.s.f.h,o.s.f.n+(k:Int)⟩ (JZ o))) else true
def kq:List bG→List bG→Bool
 | _,[]=>true
 | l,o :: s=>mT o&&mz l o&&kq (l++[o]) s
def nZ(l:List bG):Int:=if 2048<l.length then 4 else if kq [] l then 0 else 8
def ZH(o:Option bN):Option (Nat × AV):=match o with
 | some ⟨0,[.v (.int .i64 st),inf],_,_⟩=>some (st.toNat,inf)
 | _=>none
theorem rl(H:ab)(r:Ref):tE H r=ZH (H.get r):=rfl
@[simp] theorem yS(st:Nat)(inf:AV):ZH (some (iC st inf))=some (st,inf):=by
 simp[ZH,iC]
theorem OZ(inf:AV)(K:AV→Prop)(m:Mk K):bgP (some (0,inf)) K m↔K inf:=by
 constructor
 ·rintro⟨info,e,h⟩
  simp only[Option.some.injEq,Prod.mk.injEq,true_and]at e
  subst e;exact h
 ·intro h;exact⟨inf,rfl,h⟩
attribute [simp] OZ
theorem Oh(H:ab)(r:Ref)(st:Nat)(inf:AV):tE (H.put r (some (iC st inf))) r=some (st,inf):=by
 rw[rl,ab.get_put,if_pos rfl,yS]
theorem L1{E:Env}{fn:Func}{dep nt:Nat}{r:Ref}{f:FuncId}{ps:List Tmp}{assign body:Code}{tm:List AV}{args:List AV}{H:ab}{Q:AV→ab→Prop}
 (hl:H.get r=some (iC 0 (.lp f nt ps assign body tm))) (hn:fn.ntmps=nt) (hp:args.length=ps.length) (hps:ps.all (· < nt)=true) (ha:codeOk E.ok assign=true) (hb:codeOk E.ok body=true)
 (h:Goes E fn (some r) (dep+1) [.code assign,.beginRound,.code body] (cU (rW tm ps args)) H fun x H'=>x = .v (.int .i64 0) ∧∃info,H'.get r=some (iC 1 info)∧Q (.v (.bool true)) (H'.put r (some (iC 0 info)))) :
 ∃y H',bV E dep (.yld r) args H=some (y,H')∧Q y H':=by
 refine On (by rw[rl,hl];exact yS _ _) hn hp hps ha hb ?_
 intro tm' ht
 obtain⟨y,H',⟨rfl,info,h1,hQ⟩,n,hn⟩:=h tm' ht
 exact⟨_,H',⟨0,rfl,info,_,by rw[rl,h1];exact yS _ _,rfl,Oh _ _ _ _,fun _=>hQ,fun h=>absurd h (by decide),by decide⟩,n,hn⟩
theorem He{s:dK}{l:List (Nat × AV)}(h : ∀p∈l,s p.1=p.2):Kw s l=s:=by
 induction l with
 | nil=>rfl
 | cons p l ih =>
  obtain⟨j,v⟩:=p
  funext i
  show cond (Nat.beq i j) v (Kw s l i)=s i
  rw[ih fun p hp=>h p (List.mem_cons_of_mem _ hp)]
  cases hb:Nat.beq i j with
  | false=>rfl
  | true =>
   have:=Nat.eq_of_beq_eq_true hb
   subst this
   exact(h _ (List.mem_cons_self ..)).symm
@[simp] theorem Rq(r:Ref)(o n:Nat)(c:Option Nat)(y:AV):fb [AV.cM r o n c] 0 0 [y]=some [y]:=id rfl
@[simp] theorem Up(x:Value)(y:AV):fb [AV.v x] 0 0 [y]=some [y]:=id rfl
def FQ(p:bG × AV):AV := .agg [a8 p.1.kind,a8 p.1.h.lv,aG p.1.h.cats,a8 p.1.h.num,aI p.1.serial,a8 p.1.s.f.h.lv,aG p.1.s.f.h.cats,a8 p.1.s.f.h.num,aI p.1.s.f.n,aI p.1.s.many,
 a8 p.1.a.h.lv,aG p.1.a.h.cats,a8 p.1.a.h.num,aI p.1.a.n,a8 p.1.to.lv,aG p.1.to.cats,p.2]
def eV(l:List (bG × AV)):List AV:=l.map FQ
@[simp] theorem sR(l:List (bG × AV)):(eV l).length=l.length:=by simp[eV]
def Jm(p:bG × AV):Prop:=Sl 1 (rows p.1.l) p.2∧p.1.l.length<2000000
def opsOf(l:List (bG × AV)):List bG:=l.map (·.1)
theorem Ip{E:Env}(dep:Nat)(H:ab)(r q:Ref)(args:List AV):bo E true (bj E) (bV E dep) H r (some (.yld q)) args=bV E dep (.yld q) args H:=by
 simp[bo,ik,bm,A3,kJ]
theorem Iy(out:List jz)(t:jz):(xM out t).length≤out.length+1:=by
 unfold xM;split
 ·omega
 ·simp
theorem LV(s:List bG)(i:eE)(v:jz) : ∀out:List jz,(sJ out s i v).length≤out.length+s.length:=by
 induction s with
 | nil=>intro out;simp[sJ]
 | cons o s ih =>
  intro out
  show(sJ (if lB o i v then xM out o.to else out) s i v).length≤_
  have h1:=ih (if lB o i v then xM out o.to else out)
  have h2:(if lB o i v then xM out o.to else out).length≤out.length+1:=by
   split
   ·exact Iy _ _
   ·omega
  simp only[List.length_cons]
  omega
end Go.Ab
