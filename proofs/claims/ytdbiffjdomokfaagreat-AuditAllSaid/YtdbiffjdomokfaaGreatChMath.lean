/-
  Chains: what the functions compute. No statement of a seat is proved here.
-/
import Derived.Test.YtdbiffjdomokfaaGreatMOpFns
set_option linter.unusedVariables false
set_option linter.unusedSimpArgs false
namespace Go.Ab
def zB(a b:mL):Bool:=decide (a.lv≤b.lv)&&decide (a.cats &&& ~~~b.cats=0)
def wX(l:List mL):List AV:=l.map fun a => .agg [a8 a.lv,aF a.cats]
@[simp] theorem WY(l:List mL):(wX l).length=l.length:=by simp[wX]
def hasB(s:Aq)(i:fl):Bool:=je s&&(decide (s.f.h=i.h)&&(decide (s.f.n≤i.n)&&decide (i.n<s.f.n+s.many)))
def Lu(o:bR):mL:=⟨o.h.lv,o.h.cats⟩
def ZT(i:fl):mL:=⟨i.h.lv,i.h.cats⟩
def oy(o:bR)(i:fl)(v:mL):Bool:=decide (o.kind=3)&&(hasB o.s i&&zB (Lu o) v)
def yX(out:List mL)(t:mL):List mL:=if t∈out then out else out++[t]
def yb(out:List mL)(l:List bR)(i:fl)(v:mL):List mL:=l.foldl (fun out o=>if oy o i v then yX out o.to else out) out
def wc(l:List bR)(i:fl)(v:mL):List mL:=yb [ZT i] l i v
def tO(l:List bR)(o:bR):Bool:=if o.kind=3 then zB (Lu o) o.to&&(List.range o.s.many.toNat).all (fun k=>decide (Lu o∈wc l ⟨o.s.f.h,o.s.f.n+(k:Int)⟩ (Lu o))) else true
def wR:List bR→List bR→Bool
 | _,[]=>true
 | l,o :: s=>qy o&&tO l o&&wR (l++[o]) s
def rQ(l:List bR):Int:=if 2048<l.length then 4 else if wR [] l then 0 else 8
def YT(o:Option bM):Option (Nat × AV):=match o with
 | some ⟨0,[.v (.int .i64 st),inf],_,_⟩=>some (st.toNat,inf)
 | _=>none
theorem qR(H:ab)(r:Ref):te H r=YT (H.get r):=rfl
@[simp] theorem yp(st:Nat)(inf:AV):YT (some (iB st inf))=some (st,inf):=by
 simp[YT,iB]
theorem Ob(inf:AV)(K:AV→Prop)(m:Mk K):bgP (some (0,inf)) K m↔K inf:=by
 constructor
 ·rintro⟨info,e,h⟩
  simp only[Option.some.injEq,Prod.mk.injEq,true_and]at e
  subst e;exact h
 ·intro h;exact⟨inf,rfl,h⟩
attribute [simp] Ob
theorem Nu(H:ab)(r:Ref)(st:Nat)(inf:AV):te (H.put r (some (iB st inf))) r=some (st,inf):=by
 rw[qR,ab.get_put,if_pos rfl,yp]
theorem La{E:Env}{fn:Func}{dep nt:Nat}{r:Ref}{f:FuncId}{ps:List Tmp}{assign body:Code}{tm:List AV}{args:List AV}{H:ab}{Q:AV→ab→Prop}
 (hl:H.get r=some (iB 0 (.lp f nt ps assign body tm))) (hn:fn.ntmps=nt) (hp:args.length=ps.length) (hps:ps.all (· < nt)=true) (ha:codeOk E.ok assign=true) (hb:codeOk E.ok body=true)
 (h:Goes E fn (some r) (dep+1) [.code assign,.beginRound,.code body] (cO (rF tm ps args)) H fun x H'=>x = .v (.int .i64 0) ∧∃info,H'.get r=some (iB 1 info)∧Q (.v (.bool true)) (H'.put r (some (iB 0 info)))) :
 ∃y H',bU E dep (.yld r) args H=some (y,H')∧Q y H':=by
 refine Nz (by rw[qR,hl];exact yp _ _) hn hp hps ha hb ?_
 intro tm' ht
 obtain⟨y,H',⟨rfl,info,h1,hQ⟩,n,hn⟩:=h tm' ht
 exact⟨_,H',⟨0,rfl,info,_,by rw[qR,h1];exact yp _ _,rfl,Nu _ _ _ _,fun _=>hQ,fun h=>absurd h (by decide),by decide⟩,n,hn⟩
theorem Gy{s:dH}{l:List (Nat × AV)}(h : ∀p∈l,s p.1=p.2):JK s l=s:=by
 induction l with
 | nil=>rfl
 | cons p l ih =>
  obtain⟨j,v⟩:=p
  funext i
  show cond (Nat.beq i j) v (JK s l i)=s i
  rw[ih fun p hp=>h p (List.mem_cons_of_mem _ hp)]
  cases hb:Nat.beq i j with
  | false=>rfl
  | true =>
   have:=Nat.eq_of_beq_eq_true hb
   subst this
   exact(h _ (List.mem_cons_self ..)).symm
@[simp] theorem QG(r:Ref)(o n:Nat)(c:Option Nat)(y:AV):hX [AV.cH r o n c] 0 0 [y]=some [y]:=id rfl
@[simp] theorem TH(x:Value)(y:AV):hX [AV.v x] 0 0 [y]=some [y]:=id rfl
def Fc(p:bR × AV):AV := .agg [a8 p.1.kind,a8 p.1.h.lv,aF p.1.h.cats,a8 p.1.h.num,aI p.1.serial,a8 p.1.s.f.h.lv,aF p.1.s.f.h.cats,a8 p.1.s.f.h.num,aI p.1.s.f.n,aI p.1.s.many,
 a8 p.1.a.h.lv,aF p.1.a.h.cats,a8 p.1.a.h.num,aI p.1.a.n,a8 p.1.to.lv,aF p.1.to.cats,p.2]
def eU(l:List (bR × AV)):List AV:=l.map Fc
@[simp] theorem sA(l:List (bR × AV)):(eU l).length=l.length:=by simp[eU]
def ID(p:bR × AV):Prop:=Sl 1 (rows p.1.l) p.2∧p.1.l.length<2000000
def opsOf(l:List (bR × AV)):List bR:=l.map (·.1)
theorem HA{E:Env}(dep:Nat)(H:ab)(r q:Ref)(args:List AV):bn E true (bj E) (bU E dep) H r (some (.yld q)) args=bU E dep (.yld q) args H:=by
 simp[bn,ij,bl,AA,kE]
theorem HI(out:List mL)(t:mL):(yX out t).length≤out.length+1:=by
 unfold yX;split
 ·omega
 ·simp
theorem K4(s:List bR)(i:fl)(v:mL) : ∀out:List mL,(yb out s i v).length≤out.length+s.length:=by
 induction s with
 | nil=>intro out;simp[yb]
 | cons o s ih =>
  intro out
  show(yb (if oy o i v then yX out o.to else out) s i v).length≤_
  have h1:=ih (if oy o i v then yX out o.to else out)
  have h2:(if oy o i v then yX out o.to else out).length≤out.length+1:=by
   split
   ·exact HI _ _
   ·omega
  simp only[List.length_cons]
  omega
end Go.Ab
