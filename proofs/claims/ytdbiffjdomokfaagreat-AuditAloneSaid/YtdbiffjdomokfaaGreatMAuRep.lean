/-
  audit.sent: its answer is a closed channel that holds the entries. No statement of a seat is proved here.
-/
import Derived.Test.YtdbiffjdomokfaaGreatMAuSent2
import Derived.Test.YtdbiffjdomokfaaGreatAuTy
import Derived.Test.YtdbiffjdomokfaaGreatMOpBytes
import Derived.Test.YtdbiffjdomokfaaGreatLeTw
import Derived.Test.YtdbiffjdomokfaaGreatMLePol
set_option linter.unusedVariables false
set_option linter.unusedSimpArgs false
set_option linter.unusedSectionVars false
set_option linter.unnecessarySimpa false
set_option maxRecDepth 100000
namespace Go.Proofs.YtdbiffjdomokfaaGreat
open Go.Ab
theorem P0{M:Mem}{ι:Map}{w:World}{H:ab}{args:List AV}{us:List Value}(hS:fh M ι H.get w)(hD:pB ι H)(hv:jC M ι args us){n:Nat}(hlen:args.length≤n) :
 qU M ι ⟨args,H⟩ n { tmps:=us.toArray++Array.replicate (n - us.toArray.size) undef,defers:=[]} w:=by
 have hul:=hv.1
 refine⟨hS,hD,⟨?_⟩,by simp;omega⟩
 intro t
 rw[Ei,Array.getD_eq_getD_getElem?]
 rcases Nat.lt_or_ge t args.length with ht | ht
 ·rw[List.getElem?_eq_getElem ht,Array.getElem?_append_left (by simp;omega),Option.getD_some]
  have hu:us[t]?=some (us[t]'(by omega)):=List.getElem?_eq_getElem _
  simp only[List.getElem?_toArray,hu,Option.getD_some]
  exact hv.2 t _ _ (List.getElem?_eq_getElem ht) hu
 ·rw[List.getElem?_eq_none ht,Array.getElem?_append_right (by simp;omega)]
  have : ∀k:Nat,((Array.replicate (n - us.toArray.size) undef)[k]?).getD undef=undef:=by
   intro k
   rw[Array.getElem?_replicate]
   split<;>rfl
  rw[this]
  exact .v rfl
theorem qw:kF.Ok (Ad kF):=KQ Hk (by kernel_rfl) (by kernel_rfl) (fun f t h=>by cases h) (fun f args H y H' h=>by cases h)
theorem P4{x:AV}{es:List AV}(hx:sD x=some es){l:List (Option AV)}(hl:es.mapM nI=some l){H:ab}(hF:Fr H) :
 bT kF Tryz.f23 (39+1) mM [(3,.ch (eK H)),(0,x)] (keyed (eK H) 0 [gG es.length false []] H) fun y H3 =>
  y = .ch (eK H)∧H3.get (eK H)=some (gG es.length false (l.filterMap id)) ∧∀q b,H.get q=some b→H3.get q=some b:=by
 have h0:H.get (eK H)=none:=ar hF 40 8 0
 have hget:(keyed (eK H) 0 [gG es.length false []] H).get (eK H)=some (gG es.length false []):=by simp[keyed,ab.get,eK]
 have hold : ∀q b,H.get q=some b→(keyed (eK H) 0 [gG es.length false []] H).get q=some b:=by
  intro q b hq
  have h4:(eK H=q)=False:=eq_false fun e=>by subst e;rw[h0]at hq;cases hq
  have h5:(({ eK H with k:=0}:Ref)=q)=False:=h4
  simp[keyed,ab.get,h5,hq]
 refine A0 39 _ _ _ _ fun g=>?_
 unfold sD at hx
 split at hx
 ·rename_i es' c
  obtain⟨hlen,hx⟩:=Option.ite_none_right_eq_some.1 hx
  cases hx
  simp[ah,ai,ae,af,ad, *,pJ]
  exact Ld hlen h0 es 0 0 [] l _ rfl (by omega) rfl (aq hF rfl _) hget (by simp) hold hl (fun H' h1 h2=>⟨rfl,by simpa using h1,h2⟩)
 ·cases hx
  cases hl
  simp[ah,ai,ae,af,ad, *,pJ]
  refine pD 39 _ _ _ _ _ _ fun g=>?_
  simp[ah,ai,ae,af,ad, *,mO]
  exact⟨rfl,hold⟩
 ·cases hx
theorem gZ{f:AV→Option (Option AV)} : ∀ {es:List AV} {l:List (Option AV)} {i:Nat} {o:Option AV},es.mapM f=some l→l[i]?=some o →∃e,es[i]?=some e∧f e=some o:=by
 intro es
 induction es with
 | nil=>intro l i o h hi;cases h;simp at hi
 | cons e es ih =>
  intro l i o h hi
  rw[List.mapM_cons]at h
  cases he:f e with
  | none=>rw[he]at h;cases h
  | some o' =>
  rw[he]at h
  cases hm:es.mapM f with
  | none=>rw[hm]at h;cases h
  | some l' =>
  rw[hm]at h
  cases h
  cases i with
  | zero=>simp at hi;subst hi;exact⟨e,rfl,he⟩
  | succ i=>obtain⟨c,h1,h2⟩:=ih hm (by simpa using hi);exact⟨c,by simpa using h1,h2⟩
theorem Nz{ops:Array Oper}{id:Nat}{s:dK}{H:ab}{K:dK→ab→Prop}(h:Go.Ab.wpOps kF 31 40 false ops ops.toList s H K){tm:List AV}(ht:dX tm s){M:Mem}{ι:Map}{a:Act}{w:World}(hO:qU M ι ⟨tm,H⟩ 31 a w)
 (b:Frame) (hb:b.kind = .normal) (k:List Item) (cs:List Frame) :
 ∃tm' s' H' a' w' M' ι',K s' H'∧dX tm' s'∧qU M' ι' ⟨tm',H'⟩ 31 a' w'∧pA M ι H.get w M' ι' H'.get w'∧a'.defers=a.defers∧Steps Tryz.prog (lone (b.atR a (.code (.region id ops false) :: k)) cs w) (lone (b.atR a' k) cs w'):=by
 obtain⟨s',H',hK,hgo⟩:=Gf h
 obtain⟨tm',ht',n,hn⟩:=hgo tm ht
 obtain⟨a',w',⟨⟨M',ι',h1,h2⟩,h3⟩,h4⟩:=yv (E:=kF) (id:=id) (fun f xs y h=>ri qw (zL qw n) h) (fun f xs H y H' h=>tq qw (zL qw n) h) qw.overs b k cs (hn n (Nat.le_refl _)) hO
 exact⟨tm',s',H',a',w',M',ι',hK,ht',h1,h2,h3,h4 hb⟩
noncomputable def o20:Oper:=Pr[0]!
noncomputable def RG:Oper:=Pr[1]!
theorem Xj:Pr[0]?=some o20:=by kernel_rfl
theorem Xi:Pr[1]?=some RG:=by kernel_rfl
theorem NZ:Pr.size=2:=by kernel_rfl
theorem Ti:RG.op = .defer { callee := .builtin .close,args := #[.tmp 9],argTypes := #[96]}:=by kernel_rfl
theorem QH:RG.dst=none:=by kernel_rfl
theorem LP:RG.guard=none:=by kernel_rfl
theorem N3:RG.type=0:=by kernel_rfl
theorem aaM(pc:FuncId→List AV→Option AV)(tc:sn→List AV→ab→dz)(tm:List AV)(H:ab):evalOp kF pc tc 31 40 false Pr o20 ⟨tm,H⟩=some ⟨tn tm 9 (cU tm 3),H⟩:=by kernel_rfl
theorem P3{args:List AV}{H H':ab}{y:AV}(h:yj args H=some (y,H')):nc Tryz.prog (.fn 23) args H y H':=by
 unfold yj at h
 split at h
 case h_2=>cases h
 rename_i x
 split at h
 case h_2=>cases h
 rename_i es hx
 split at h
 case h_2=>cases h
 rename_i l hl
 cases h
 have hf23:Tryz.prog.funcs[23]?=some Tryz.f23:=by kernel_rfl
 refine⟨⟨Tryz.f23,hf23,by kernel_rfl,by rw[Eo];rfl⟩,?_⟩
 intro M ι w us hS hD hv cs
 have hF:=YE hS hD
 obtain⟨u,rfl⟩ : ∃u,us=[u]:=by
  have:=hv.1
  match us,this with
  | [u],_=>exact⟨u,rfl⟩
 have hu:VR M ι x u:=hv.2 0 x u rfl rfl
 have hnt:Tryz.f23.ntmps=31:=by kernel_rfl
 have hO:=P0 hS hD hv (n:=31) (by simp)
 let b:Frame := { (default:Frame)with fn:=23,kind := .normal,roundOf:=none}
 let body:Code := .seq (.region 0 Vh false) (.seq (.region 1 Tg false) (.seq (.region 2 Pr false) (.seq (.seq (BX KU) (uV KU)) Ub)))
 let a0:Act := { tmps:=[u].toArray++Array.replicate (31 - [u].toArray.size) undef,defers:=[]}
 have henter:Frame.enter Tryz.prog 23 [u].toArray .normal=b.atR a0 [.code body]:=by
  simp only[Frame.enter,hf23,Eo,hnt]
  rfl
 obtain⟨tm1,s1,H1,a1,w1,M1,ι1,hK1,ht1,hO1,hF1,hd1,hs1⟩:=Nz (id:=0) (K:=fun s H1=>s 0=x∧H1=H) (Sy (fun i=>cU [x] i) H _ ⟨rfl,rfl⟩) (fun i=>rfl) hO b rfl [.code (.seq (.region 1 Tg false) (.seq (.region 2 Pr false) (.seq (.seq (BX KU) (uV KU)) Ub)))] cs
 obtain⟨hx0,rfl⟩:=hK1
 have hlen:aJ env.P false H1.get ⟨40,7,H1.gen 40 7,0⟩ .len #[31] [s1 0]=some (aI es.length,[])∧es.length≤1000:=by
  rw[hx0]
  unfold sD at hx
  split at hx
  ·obtain⟨hlen,hx⟩:=Option.ite_none_right_eq_some.1 hx
   cases hx
   exact⟨by simp,hlen⟩
  ·cases hx;exact⟨by simp,by simp⟩
  ·cases hx
 obtain⟨tm2,s2,H2,a2,w2,M2,ι2,hK2,ht2,hO2,hF2,hd2,hs2⟩:=Nz (id:=1) (K:=fun s H2=>s 0=x∧s 3 = .ch (eK H1)∧H2=keyed (eK H1) 0 [gG es.length false []] H1) (Sx s1 H1 _ (by
  refine T8 hlen.1 ?_
  refine pH (v := .ch (eK H1)) (H:=keyed (eK H1) 0 [gG es.length false []] H1) ?_ ⟨hx0,rfl,rfl⟩
  have hb:((BP env.P 96).bind (lA env.P)).map (fun b=>Nat.ble b 1000000)=some true:=by kernel_rfl
  obtain⟨nb,hb,hnb⟩:=Option.map_eq_some_iff.1 hb
  have hnb:=Nat.le_of_ble_eq_true hnb
  simp only[oF,hb]
  rw[if_pos ⟨by omega,by omega,by omega⟩]
  rfl)) ht1 hO1 b rfl [.code (.seq (.region 2 Pr false) (.seq (.seq (BX KU) (uV KU)) Ub))] cs
 obtain⟨h20,h23,rfl⟩:=hK2
 have hpc:=fun f xs y h=>ri qw (zL qw 0) (f:=f) (args:=xs) (y:=y) h
 have htc:=fun f xs H y H' h=>tq qw (zL qw 0) (dep:=40) (t:=f) (args:=xs) (H:=H) (y:=y) (H':=H') h
 obtain⟨a3,w3,⟨⟨M3,ι3,hO3,hF3⟩,hd3⟩,hs3⟩:=yZ (E:=kF) hO2 hpc htc qw.overs (aaM _ _ _ _) Xj b [1] [.code (.seq (.seq (BX KU) (uV KU)) Ub)] cs
 have h9:=hO3.tr.at_ 9
 have e9:cU (tn tm2 9 (cU tm2 3)) 9 = .ch (eK H1):=by rw[lN,if_pos rfl,ht2 3,h23]
 rw[e9]at h9
 generalize hcv:a3.tmps.getD 9 undef=cv at h9
 cases h9 with | @ch _ _ l3 hr3 hz3 =>
 have hd30:a3.defers=[]:=by rw[hd3,hd2,hd1]
 obtain⟨a4,w4,⟨rfl,rfl⟩,hs4⟩:=Ku (P:=Tryz.prog) (K:=fun a' w'=>a' = { a3 with defers:=[sf l3.b #[96] 0 #[false]]}∧w'=w3) Xi (by simp[Region.wanted,LP]) b (by
  refine⟨fun _ _=>trivial,?_⟩
  have hev:a3.eval (.tmp 9) = .chan (some l3.b):=hcv
  have hrun:(Oper.semAt (FW b.roundOf).round a3.eval RG).run Tryz.prog w3 = .ok (.defer (sf l3.b #[96] 0 #[false])) w3:=by
   show(execOp a3.eval RG).run Tryz.prog w3=_
   simp[execOp,Ti,resolve,N3,hev,sf]
  rw[hrun]
  show({ a3 with defers:=sf l3.b #[96] 0 #[false] :: a3.defers}.put RG.dst undef)=_∧w3=w3
  rw[QH,hd30]
  exact⟨rfl,rfl⟩) [] [.code (.seq (.seq (BX KU) (uV KU)) Ub)] cs
 have hO4:qU M3 ι3 ⟨tn tm2 9 (cU tm2 3),keyed (eK H1) 0 [gG es.length false []] H1⟩ 31 { a3 with defers:=[sf l3.b #[96] 0 #[false]]} w4:=⟨hO3.sim,hO3.dom,⟨fun t=>hO3.tr.at_ t⟩,hO3.nt⟩
 have hag:dX (tn tm2 9 (cU tm2 3)) (Kw (fun i=>cU (tn tm2 9 (cU tm2 3)) i) [(3,.ch (eK H1)),(0,x)]):=by
  intro i
  by_cases e3:i=3
  ·subst e3;rw[lN,if_neg (by omega),ht2 3,h23];rfl
  ·by_cases e0:i=0
   ·subst e0;rw[lN,if_neg (by omega),ht2 0,h20];rfl
   ·have b3:Nat.beq i 3=false:=by cases h:Nat.beq i 3 with | false=>rfl | true=>exact absurd (Nat.eq_of_beq_eq_true h) e3
    have b0:Nat.beq i 0=false:=by cases h:Nat.beq i 0 with | false=>rfl | true=>exact absurd (Nat.eq_of_beq_eq_true h) e0
    simp only[Kw,b3,b0,cond_false]
 obtain⟨y,H3,⟨rfl,hget,hold⟩,n,hn⟩:=(P4 hx hl hF).h _ _ hag
 obtain⟨st3,hrun3,hres3,rfl⟩:=hn n (Nat.le_refl _)
 rw[hnt,Kd]at hrun3
 have hok:(mM.all (k5 (Ad kF)))=true:=by kernel_rfl
 rw[Kd]at hok
 obtain⟨a5,w5,todo,ds,⟨M5,ι5,hO5,hF5⟩,hd5,hm5,hs5⟩:=zL qw n none 31 40 _ _ st3 hrun3 (fun i hi=>List.all_eq_true.1 hok i hi) M3 ι3 _ w4 hO4 b cs rfl rfl
 obtain⟨w6,hs6,g1,g2,g3,g4,g5⟩:=FI (P:=Tryz.prog) (fr := { b.atR a5 todo with mode := .returning}) (cs:=cs) (rest:=[sf l3.b #[96] 0 #[false]]) ds w5 rfl hm5.1 (fun D hD=>(hm5.2 D hD).2)
 have hfr : { { b.atR a5 todo with mode := .returning} with defers:=marks ds++[sf l3.b #[96] 0 #[false]]} = { b.atR a5 todo with mode := .returning}:=by rw[←hd5];rfl
 rw[hfr]at hs6
 have hS6:=hO5.sim.other (fun D hD=>(hm5.2 D hD).2) g5
 have hF04:=((hF1.trans hF2).trans hF3)
 have hF5':=hF04.trans hF5
 have hF6:pA M ι H1.get w M5 ι5 st3.hp.get w6:=by
  refine⟨g1.trans hF5'.os,g2.trans hF5'.tape,g3.trans hF5'.output,by rw[g4];exact hF5'.size,fun b0 hb0 hno=>?_,hF5'.mem,hF5'.map,hF5'.live,hF5'.new⟩
  rw[g5 b0 fun hD=>absurd (hm5.2 b0 hD).1 (by have:=hF04.size;omega)]
  exact hF5'.chg b0 hb0 hno
 have hr5:ι5 (eK H1)=some l3:=hF5.map _ _ hr3
 obtain⟨s6,t6,arr,hh6,hsz,hel⟩:=Bq hS6 hr5 (tK hget)
 have hs7:=IV (P:=Tryz.prog) (fr := { { b.atR a5 todo with mode := .returning} with defers:=[sf l3.b #[96] 0 #[false]]}) (cs:=cs) rfl rfl hh6
 have hresv:Tryz.f23.results = #[.tmp 2]:=by kernel_rfl
 have h52:cU st3.tm 2 = .ch (eK H1):=by
  simpa [qm,hresv,iA] using hres3
 have hv2:=hO5.tr.at_ 2
 rw[h52]at hv2
 generalize hcv2:a5.tmps.getD 2 undef=cv2 at hv2
 cases hv2 with | @ch _ _ l5 hr55 hz5 =>
 rw[hr5]at hr55
 cases hr55
 have hfl : ∀e∈l.filterMap id,flat depth e=true:=by
  intro e he
  obtain⟨o,ho,he⟩:=List.mem_filterMap.1 he
  obtain⟨i,hi,hio⟩:=List.getElem_of_mem ho
  obtain⟨c,hc,hf⟩:=gZ hl (by rw[List.getElem?_eq_getElem hi,hio])
  obtain⟨k,x1,x2,x3,x4,x5,x6,x7,x8,x9,x10,x11,x12,x13,x14,x15,x16,x17,x18,x19,x20,x21,x22,x23,_,hfl,_,rfl⟩:=yl hf
  split at he
  ·cases he
  ·cases he;exact hfl
 refine⟨.returned (.chan (some l3.b)),_,({ { b.atR a5 todo with mode := .returning} with defers:=[]}:Frame),⟨_,rfl,Od hS hD rfl rfl hS6 hF6 hO5.dom hr5 hz3 hget hh6 hsz hel hfl hold⟩,?_,rfl,rfl,rfl,rfl,Tryz.f23,hf23,?_⟩
 rotate_left
 ·show(results Tryz.f23 a5.tmps).run Tryz.prog _=_
  rw[Array.getD_eq_getD_getElem?]at hcv2
  simp[results,hresv,hcv2]
 ·show Steps Tryz.prog _ _
  rw[show(#[u]:Array Value)=[u].toArray from rfl,henter]
  refine Steps.trans (.one stepR_seq) (Steps.trans hs1 (Steps.trans (.one stepR_seq) (Steps.trans hs2 (Steps.trans (.one stepR_seq) (Steps.trans (.one stepR_region) ?_)))))
  rw[NZ]
  refine Steps.trans (hs3 rfl) (Steps.trans hs4 (Steps.trans (.one stepR_region_end) (Steps.trans (.one stepR_seq) (Steps.trans (.one stepR_seq) (Steps.trans hs5 (Steps.trans hs6 (.one hs7)))))))
end Go.Proofs.YtdbiffjdomokfaaGreat
set_option maxRecDepth 1000000
namespace Go.Ab
def vU.enc(h:vU):List AV:=[a8 h.lv,aG h.cats,a8 h.num]
def eE.enc(i:eE):List AV:=[a8 i.h.lv,aG i.h.cats,a8 i.h.num,aI i.n]
def Ao.enc(s:Ao):List AV:=[a8 s.f.h.lv,aG s.f.h.cats,a8 s.f.h.num,aI s.f.n,aI s.many]
end Go.Ab
namespace Go.Proofs.YtdbiffjdomokfaaGreat
open Go.Ab Go.ChangeShapes Go.WideShapes Go.RowKit
theorem wh:IE env.P 35 (fun _=>True) (fun p:UInt8 × UInt32=>[a8 p.1,aG p.2]):=by
 intro n xs h
 have h:=jG (P:=env.P) HX h
 obtain⟨m,x,r,rfl,h1,y,r',rfl,h2,rfl⟩:=h
 obtain⟨v,_,rfl⟩:=Km (P:=env.P) (t:=5) (by simp) _ _ h1
 obtain⟨w,_,rfl⟩:=SV (P:=env.P) (t:=33) (by simp) _ _ h2
 exact⟨(v,w),trivial,rfl⟩
theorem Kl:IE env.P 40 (fun _=>True) vU.enc:=by
 intro n xs h
 have h:=jG (P:=env.P) HW h
 obtain⟨m,x,r,rfl,h1,y,r',rfl,h2,rfl⟩:=h
 obtain⟨p,_,rfl⟩:=wh _ _ h1
 obtain⟨w,_,rfl⟩:=Km (P:=env.P) (t:=5) (by simp) _ _ h2
 exact⟨⟨p.1,p.2,w⟩,trivial,rfl⟩
theorem Kk:IE env.P 45 (fun _=>True) eE.enc:=by
 intro n xs h
 have h:=jG (P:=env.P) HV h
 obtain⟨m,x,r,rfl,h1,y,r',rfl,h2,rfl⟩:=h
 obtain⟨p,_,rfl⟩:=Kl _ _ h1
 obtain⟨i,_,rfl⟩:=oZ (P:=env.P) (t:=3) (by simp) _ _ h2
 exact⟨⟨p,i⟩,trivial,rfl⟩
theorem Qk:IE env.P 47 (fun _=>True) Ao.enc:=by
 intro n xs h
 have h:=jG (P:=env.P) HU h
 obtain⟨m,x,r,rfl,h1,y,r',rfl,h2,rfl⟩:=h
 obtain⟨p,_,rfl⟩:=Kk _ _ h1
 obtain⟨i,_,rfl⟩:=oZ (P:=env.P) (t:=3) (by simp) _ _ h2
 exact⟨⟨p,i⟩,trivial,rfl⟩
theorem GG{n:Nat}{xs:List AV}(h:xQ env.P n 48 xs) : ∃(l:List Int) (x:AV),(∀a∈l, -2147483648≤a∧a≤2147483647)∧xs=[x]∧Sl 1 (rows l) x:=by
 obtain⟨l,x,hl,rfl,s⟩:=yg (P:=env.P) MR MQ PY (Qj (by simp)) h
 exact⟨l,x,hl,rfl,s⟩
def Su(p:bG × AV):List AV:=[a8 p.1.kind,a8 p.1.h.lv,aG p.1.h.cats,a8 p.1.h.num,aI p.1.serial,a8 p.1.s.f.h.lv,aG p.1.s.f.h.cats,a8 p.1.s.f.h.num,aI p.1.s.f.n,aI p.1.s.many,
 a8 p.1.a.h.lv,aG p.1.a.h.cats,a8 p.1.a.h.num,aI p.1.a.n,a8 p.1.to.lv,aG p.1.to.cats,p.2]
theorem Qm:IE env.P 50 (fun p:bG × AV=>Sl 1 (rows p.1.l) p.2) Su:=by
 intro n xs h
 have h:=jG (P:=env.P) HT h
 obtain⟨m,x1,r1,rfl,h1,x2,r2,rfl,h2,x3,r3,rfl,h3,x4,r4,rfl,h4,x5,r5,rfl,h5,x6,r6,rfl,h6,x7,r7,rfl,h7,rfl⟩:=h
 obtain⟨k,_,rfl⟩:=Km (P:=env.P) (t:=5) (by simp) _ _ h1
 obtain⟨hh,_,rfl⟩:=Kl _ _ h2
 obtain⟨se,_,rfl⟩:=oZ (P:=env.P) (t:=3) (by simp) _ _ h3
 obtain⟨s,_,rfl⟩:=Qk _ _ h4
 obtain⟨a,_,rfl⟩:=Kk _ _ h5
 obtain⟨t,_,rfl⟩:=wh _ _ h6
 obtain⟨l,y,_,rfl,sl⟩:=GG h7
 exact⟨(⟨k,hh,se,s,a,⟨t.1,t.2⟩,l⟩,y),sl,rfl⟩
theorem M7{n:Nat}{x:AV}(h:Mt env.P n 48 x) : ∃l:List Int,Sl 1 (rows l) x:=by
 obtain⟨l,x',_,e,s⟩:=GG (h.cell (by simp))
 cases e
 exact⟨l,s⟩
theorem own:ownKnob Tryz.prog.godebug=none:=by kernel_rfl
theorem kids:Kids Tryz.prog (· < Tryz.prog.types.size):=kids_rows (by kernel_rfl) (by kernel_rfl)
end Go.Proofs.YtdbiffjdomokfaaGreat
namespace Go.Proofs.YtdbiffjdomokfaaGreat
open Go.Ab Go.ChangeShapes Go.WideShapes Go.RowKit
theorem Yd:env.Ok (Ad env):=KQ Hk (by kernel_rfl) TQ (fun f t h=>by cases h) (fun f args H y H' h=>by
 have h:yi f args H=some (y,H'):=h
 unfold yi at h
 split at h
 ·rename_i e;subst e;exact P3 h
 ·cases h)
theorem Qn:IE env.P 52 (fun _=>True) (fun p:UInt8 × UInt32 × Bool=>[a8 p.1,aG p.2.1,aB p.2.2]):=by
 intro n xs h
 have h:=jG (P:=env.P) AH h
 obtain⟨m,x,r,rfl,h1,y,r',rfl,h2,rfl⟩:=h
 obtain⟨q,_,rfl⟩:=wh _ _ h1
 obtain⟨b,_,rfl⟩:=GW (P:=env.P) (t:=4) (by simp) _ _ h2
 exact⟨(q.1,q.2,b),trivial,rfl⟩
def aaB(p:gA × AV):List AV:=[a8 p.1.kind,aI p.1.user]++(Su (p.1.op,p.2)++[aI p.1.code,aI p.1.gu,a8 p.1.gv,aG p.1.gc,aB p.1.gok])
theorem Ql:IE env.P 56 (fun p:gA × AV=>Sl 1 (rows p.1.op.l) p.2) aaB:=by
 intro n xs h
 have h:=jG (P:=env.P) HR h
 obtain⟨m,x1,r1,rfl,h1,x2,r2,rfl,h2,x3,r3,rfl,h3,x4,r4,rfl,h4,x5,r5,rfl,h5,rfl⟩:=h
 obtain⟨k,_,rfl⟩:=Km (P:=env.P) (t:=5) (by simp) _ _ h1
 obtain⟨u,_,rfl⟩:=oZ (P:=env.P) (t:=3) (by simp) _ _ h2
 obtain⟨q,hq,rfl⟩:=Qm _ _ h3
 obtain⟨c,_,rfl⟩:=oZ (P:=env.P) (t:=23) (by simp) _ _ h4
 have h6:=jG (P:=env.P) HS h5
 obtain⟨m,y1,s1,rfl,i1,y2,s2,rfl,i2,rfl⟩:=h6
 obtain⟨g,_,rfl⟩:=oZ (P:=env.P) (t:=3) (by simp) _ _ i1
 obtain⟨z,_,rfl⟩:=Qn _ _ i2
 exact⟨(⟨k,u,q.1,c,g,z.1,z.2.1,z.2.2⟩,q.2),hq,rfl⟩
theorem P2{n:Nat}{x:AV}(h:Mt env.P n 31 x) : ∃(l:List (gA × AV)),(∀p∈l,Sl 1 (rows p.1.op.l) p.2)∧Sl 24 (bU l) x:=by
 obtain⟨l,z,hl,e,s⟩:=yg (P:=env.P) MS MO PW Ql (h.cell (by simp))
 cases e
 exact⟨l,hl,s⟩
theorem SU:IE env.P 52 (fun _=>True) Clear.enc:=by
 intro n xs h
 have h:=jG (P:=env.P) AH h
 obtain⟨m,x,r,rfl,h1,y,r',rfl,h2,rfl⟩:=h
 obtain⟨p,_,rfl⟩:=wh _ _ h1
 obtain⟨b,_,rfl⟩:=GW (P:=env.P) (t:=4) (by simp) _ _ h2
 exact⟨⟨p.1,p.2,b⟩,trivial,rfl⟩
theorem SS:IE env.P 76 (fun _=>True) bu.enc:=by
 intro n xs h
 have h:=jG (P:=env.P) HQ h
 obtain⟨m,x,r,rfl,h1,y,r',rfl,h2,z,r'',rfl,h3,w,r3,rfl,h4,rfl⟩:=h
 obtain⟨p,_,rfl⟩:=wh _ _ h1
 obtain⟨i,_,rfl⟩:=oZ (P:=env.P) (t:=3) (by simp) _ _ h2
 obtain⟨j,_,rfl⟩:=oZ (P:=env.P) (t:=3) (by simp) _ _ h3
 obtain⟨k,_,rfl⟩:=oZ (P:=env.P) (t:=3) (by simp) _ _ h4
 exact⟨⟨p.1,p.2,i,j,k⟩,trivial,rfl⟩
theorem SL{n:Nat}{x:AV}(h:Mt env.P n 29 x) : ∃(us:List Clear) (qs:List bu) (gr:Int) (xu xq:AV),x = .agg [xu,xq,aI gr]∧Sl 3 (eW us) xu∧Sl 5 (eY qs) xq:=by
 obtain⟨y0,rfl,h0'⟩:=h.agg (by simp)
 have h0:=jG (P:=env.P) HY h0'
 obtain⟨m,u,r,rfl,hu,q,r',rfl,hq,g,r'',rfl,hg,rfl⟩:=h0
 have hu:=yg (P:=env.P) MU MP PX SU hu
 obtain⟨us,xu,_,rfl,su⟩:=hu
 have hq:=yg (P:=env.P) MT MN PV SS hq
 obtain⟨qs,xq,_,rfl,sq⟩:=hq
 obtain⟨gr,_,rfl⟩:=oZ (P:=env.P) (t:=3) (by simp) _ _ hg
 exact⟨us,qs,gr,xu,xq,rfl,su,sq⟩
end Go.Proofs.YtdbiffjdomokfaaGreat
