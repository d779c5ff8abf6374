/-
  Chains: what the functions compute. No statement of a seat is proved here.
-/
import Derived.Test.YtdbiffjdomokfaaGreatMOpFns
set_option linter.unusedVariables false
set_option linter.unusedSimpArgs false
namespace Go.Ab
def Ck(a b:nw):Bool:=decide (a.lv≤b.lv)&&decide (a.cats &&& ~~~b.cats=0)
def vQ(l:List nw):List AV:=l.map fun a => .agg [a8 a.lv,aF a.cats]
@[simp] theorem U6(l:List nw):(vQ l).length=l.length:=by simp[vQ]
def hasB(s:zL)(i:eY):Bool:=iO s&&(decide (s.f.h=i.h)&&(decide (s.f.n≤i.n)&&decide (i.n<s.f.n+s.many)))
def Ke(o:bQ):nw:=⟨o.h.lv,o.h.cats⟩
def Yd(i:eY):nw:=⟨i.h.lv,i.h.cats⟩
def nK(o:bQ)(i:eY)(v:nw):Bool:=decide (o.kind=3)&&(hasB o.s i&&Ck (Ke o) v)
def xN(out:List nw)(t:nw):List nw:=if t∈out then out else out++[t]
def wX(out:List nw)(l:List bQ)(i:eY)(v:nw):List nw:=l.foldl (fun out o=>if nK o i v then xN out o.to else out) out
def u9(l:List bQ)(i:eY)(v:nw):List nw:=wX [Yd i] l i v
def sN(l:List bQ)(o:bQ):Bool:=if o.kind=3 then Ck (Ke o) o.to&&(List.range o.s.many.toNat).all (fun k=>decide (Ke o∈u9 l ⟨o.s.f.h,o.s.f.n+(k:Int)⟩ (Ke o))) else true
def vK:List bQ→List bQ→Bool
 | _,[]=>true
 | l,o :: s=>pW o&&sN l o&&vK (l++[o]) s
def qV(l:List bQ):Int:=if 2048<l.length then 4 else if vK [] l then 0 else 8
def Xd(o:Option bJ):Option (Nat × AV):=match o with
 | some ⟨0,[.v (.int .i64 st),inf],_,_⟩=>some (st.toNat,inf)
 | _=>none
theorem ql(H:ab)(r:Ref):sf H r=Xd (H.get r):=rfl
@[simp] theorem xf(st:Nat)(inf:AV):Xd (some (hZ st inf))=some (st,inf):=by
 simp[Xd,hZ]
theorem Mt(inf:AV)(K:AV→Prop)(m:Mk K):Yz (some (0,inf)) K m↔K inf:=by
 constructor
 ·rintro⟨info,e,h⟩
  simp only[Option.some.injEq,Prod.mk.injEq,true_and]at e
  subst e;exact h
 ·intro h;exact⟨inf,rfl,h⟩
attribute [simp] Mt
theorem LN(H:ab)(r:Ref)(st:Nat)(inf:AV):sf (H.put r (some (hZ st inf))) r=some (st,inf):=by
 rw[ql,ab.get_put,if_pos rfl,xf]
theorem JT{E:Env}{fn:Func}{dep nt:Nat}{r:Ref}{f:FuncId}{ps:List Tmp}{assign body:Code}{tm:List AV}{args:List AV}{H:ab}{Q:AV→ab→Prop}
 (hl:H.get r=some (hZ 0 (.lp f nt ps assign body tm))) (hn:fn.ntmps=nt) (hp:args.length=ps.length) (hps:ps.all (· < nt)=true) (ha:codeOk E.ok assign=true) (hb:codeOk E.ok body=true)
 (h:Goes E fn (some r) (dep+1) [.code assign,.beginRound,.code body] (cL (qM tm ps args)) H fun x H'=>x = .v (.int .i64 0) ∧∃info,H'.get r=some (hZ 1 info)∧Q (.v (.bool true)) (H'.put r (some (hZ 0 info)))) :
 ∃y H',bR E dep (.yld r) args H=some (y,H')∧Q y H':=by
 refine LR (by rw[ql,hl];exact xf _ _) hn hp hps ha hb ?_
 intro tm' ht
 obtain⟨y,H',⟨rfl,info,h1,hQ⟩,n,hn⟩:=h tm' ht
 exact⟨_,H',⟨0,rfl,info,_,by rw[ql,h1];exact xf _ _,rfl,LN _ _ _ _,fun _=>hQ,fun h=>absurd h (by decide),by decide⟩,n,hn⟩
theorem Fy{s:dA}{l:List (Nat × AV)}(h : ∀p∈l,s p.1=p.2):It s l=s:=by
 induction l with
 | nil=>rfl
 | cons p l ih =>
  obtain⟨j,v⟩:=p
  funext i
  show cond (Nat.beq i j) v (It s l i)=s i
  rw[ih fun p hp=>h p (List.mem_cons_of_mem _ hp)]
  cases hb:Nat.beq i j with
  | false=>rfl
  | true =>
   have:=Nat.eq_of_beq_eq_true hb
   subst this
   exact(h _ (List.mem_cons_self ..)).symm
@[simp] theorem OO(r:Ref)(o n:Nat)(c:Option Nat)(y:AV):gK [AV.cG r o n c] 0 0 [y]=some [y]:=id rfl
@[simp] theorem RH(x:Value)(y:AV):gK [AV.v x] 0 0 [y]=some [y]:=id rfl
def Ed(p:bQ × AV):AV := .agg [a8 p.1.kind,a8 p.1.h.lv,aF p.1.h.cats,a8 p.1.h.num,aI p.1.serial,a8 p.1.s.f.h.lv,aF p.1.s.f.h.cats,a8 p.1.s.f.h.num,aI p.1.s.f.n,aI p.1.s.many,
 a8 p.1.a.h.lv,aF p.1.a.h.cats,a8 p.1.a.h.num,aI p.1.a.n,a8 p.1.to.lv,aF p.1.to.cats,p.2]
def eJ(l:List (bQ × AV)):List AV:=l.map Ed
@[simp] theorem rG(l:List (bQ × AV)):(eJ l).length=l.length:=by simp[eJ]
def He(p:bQ × AV):Prop:=Sl 1 (rows p.1.l) p.2∧p.1.l.length<2000000
def opsOf(l:List (bQ × AV)):List bQ:=l.map (·.1)
theorem Gq{E:Env}(dep:Nat)(H:ab)(r q:Ref)(args:List AV):bm E true (bj E) (bR E dep) H r (some (.yld q)) args=bR E dep (.yld q) args H:=by
 simp[bm,gR,bn,zw,jU]
theorem Gy(out:List nw)(t:nw):(xN out t).length≤out.length+1:=by
 unfold xN;split
 ·omega
 ·simp
theorem JN(s:List bQ)(i:eY)(v:nw) : ∀out:List nw,(wX out s i v).length≤out.length+s.length:=by
 induction s with
 | nil=>intro out;simp[wX]
 | cons o s ih =>
  intro out
  show(wX (if nK o i v then xN out o.to else out) s i v).length≤_
  have h1:=ih (if nK o i v then xN out o.to else out)
  have h2:(if nK o i v then xN out o.to else out).length≤out.length+1:=by
   split
   ·exact Gy _ _
   ·omega
  simp only[List.length_cons]
  omega
end Go.Ab
