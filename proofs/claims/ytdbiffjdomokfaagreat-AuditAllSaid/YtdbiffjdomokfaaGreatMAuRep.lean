/-
  audit.sent: its answer is a closed channel that holds the entries. No statement of a seat is proved here.
-/
import Derived.Test.YtdbiffjdomokfaaGreatMAuSent2
import Derived.Test.YtdbiffjdomokfaaGreatAuTy
import Derived.Test.YtdbiffjdomokfaaGreatMOpFns
import Derived.Test.YtdbiffjdomokfaaGreatLeTw
import Derived.Test.YtdbiffjdomokfaaGreatMLePol
set_option linter.unusedVariables false
set_option linter.unusedSimpArgs false
set_option linter.unusedSectionVars false
set_option linter.unnecessarySimpa false
set_option maxRecDepth 100000
namespace Go.Proofs.YtdbiffjdomokfaaGreat
open Go.Ab
theorem Pf{M:Mem}{ι:Map}{w:World}{H:ab}{args:List AV}{us:List Value}(hS:fg M ι H.get w)(hD:pf ι H)(hv:jB M ι args us){n:Nat}(hlen:args.length≤n) :
 qE M ι ⟨args,H⟩ n { tmps:=us.toArray++Array.replicate (n - us.toArray.size) undef,defers:=[]} w:=by
 have hul:=hv.1
 refine⟨hS,hD,⟨?_⟩,by simp;omega⟩
 intro t
 rw[DM,Array.getD_eq_getD_getElem?]
 rcases Nat.lt_or_ge t args.length with ht | ht
 ·rw[List.getElem?_eq_getElem ht,Array.getElem?_append_left (by simp;omega),Option.getD_some]
  have hu:us[t]?=some (us[t]'(by omega)):=List.getElem?_eq_getElem _
  simp only[List.getElem?_toArray,hu,Option.getD_some]
  exact hv.2 t _ _ (List.getElem?_eq_getElem ht) hu
 ·rw[List.getElem?_eq_none ht,Array.getElem?_append_right (by simp;omega)]
  have : ∀k:Nat,((Array.replicate (n - us.toArray.size) undef)[k]?).getD undef=undef:=by
   intro k
   rw[Array.getElem?_replicate]
   split<;>rfl
  rw[this]
  exact .v rfl
theorem p8:kA.Ok (zK kA):=J3 GF (by kernel_rfl) (by kernel_rfl) (fun f t h=>by cases h) (fun f args H y H' h=>by cases h)
theorem Pl{x:AV}{es:List AV}(hx:sc x=some es){l:List (Option AV)}(hl:es.mapM nz=some l){H:ab}(hF:Fr H) :
 bP kA Tryz.f23 (39+1) mI [(3,.ch (eI H)),(0,x)] (keyed (eI H) 0 [gD es.length false []] H) fun y H3 =>
  y = .ch (eI H)∧H3.get (eI H)=some (gD es.length false (l.filterMap id)) ∧∀q b,H.get q=some b→H3.get q=some b:=by
 have h0:H.get (eI H)=none:=ar hF 40 8 0
 have hget:(keyed (eI H) 0 [gD es.length false []] H).get (eI H)=some (gD es.length false []):=by simp[keyed,ab.get,eI]
 have hold : ∀q b,H.get q=some b→(keyed (eI H) 0 [gD es.length false []] H).get q=some b:=by
  intro q b hq
  have h4:(eI H=q)=False:=eq_false fun e=>by subst e;rw[h0]at hq;cases hq
  have h5:(({ eI H with k:=0}:Ref)=q)=False:=h4
  simp[keyed,ab.get,h5,hq]
 refine Ax 39 _ _ _ _ fun g=>?_
 unfold sc at hx
 split at hx
 ·rename_i es' c
  obtain⟨hlen,hx⟩:=Option.ite_none_right_eq_some.1 hx
  cases hx
  simp[ah,ai,ae,af,ad, *,pq]
  exact Kp hlen h0 es 0 0 [] l _ rfl (by omega) rfl (aq hF rfl _) hget (by simp) hold hl (fun H' h1 h2=>⟨rfl,by simpa using h1,h2⟩)
 ·cases hx
  cases hl
  simp[ah,ai,ae,af,ad, *,pq]
  refine ph 39 _ _ _ _ _ _ fun g=>?_
  simp[ah,ai,ae,af,ad, *,mJ]
  exact⟨rfl,hold⟩
 ·cases hx
theorem gU{f:AV→Option (Option AV)} : ∀ {es:List AV} {l:List (Option AV)} {i:Nat} {o:Option AV},es.mapM f=some l→l[i]?=some o →∃e,es[i]?=some e∧f e=some o:=by
 intro es
 induction es with
 | nil=>intro l i o h hi;cases h;simp at hi
 | cons e es ih =>
  intro l i o h hi
  rw[List.mapM_cons]at h
  cases he:f e with
  | none=>rw[he]at h;cases h
  | some o' =>
  rw[he]at h
  cases hm:es.mapM f with
  | none=>rw[hm]at h;cases h
  | some l' =>
  rw[hm]at h
  cases h
  cases i with
  | zero=>simp at hi;subst hi;exact⟨e,rfl,he⟩
  | succ i=>obtain⟨c,h1,h2⟩:=ih hm (by simpa using hi);exact⟨c,by simpa using h1,h2⟩
theorem MF{ops:Array Oper}{id:Nat}{s:dH}{H:ab}{K:dH→ab→Prop}(h:Go.Ab.wpOps kA 31 40 false ops ops.toList s H K){tm:List AV}(ht:dV tm s){M:Mem}{ι:Map}{a:Act}{w:World}(hO:qE M ι ⟨tm,H⟩ 31 a w)
 (b:Frame) (hb:b.kind = .normal) (k:List Item) (cs:List Frame) :
 ∃tm' s' H' a' w' M' ι',K s' H'∧dV tm' s'∧qE M' ι' ⟨tm',H'⟩ 31 a' w'∧pe M ι H.get w M' ι' H'.get w'∧a'.defers=a.defers∧Steps Tryz.prog (lone (b.atR a (.code (.region id ops false) :: k)) cs w) (lone (b.atR a' k) cs w'):=by
 obtain⟨s',H',hK,hgo⟩:=Fz h
 obtain⟨tm',ht',n,hn⟩:=hgo tm ht
 obtain⟨a',w',⟨⟨M',ι',h1,h2⟩,h3⟩,h4⟩:=xQ (E:=kA) (id:=id) (fun f xs y h=>qP p8 (zl p8 n) h) (fun f xs H y H' h=>sW p8 (zl p8 n) h) p8.overs b k cs (hn n (Nat.le_refl _)) hO
 exact⟨tm',s',H',a',w',M',ι',hK,ht',h1,h2,h3,h4 hb⟩
noncomputable def o20:Oper:=OH[0]!
noncomputable def QV:Oper:=OH[1]!
theorem WC:OH[0]?=some o20:=by kernel_rfl
theorem WB:OH[1]?=some QV:=by kernel_rfl
theorem M8:OH.size=2:=by kernel_rfl
theorem SD:QV.op = .defer { callee := .builtin .close,args := #[.tmp 9],argTypes := #[96]}:=by kernel_rfl
theorem PX:QV.dst=none:=by kernel_rfl
theorem KZ:QV.guard=none:=by kernel_rfl
theorem Nf:QV.type=0:=by kernel_rfl
theorem ZZ(pc:FuncId→List AV→Option AV)(tc:rW→List AV→ab→dy)(tm:List AV)(H:ab):evalOp kA pc tc 31 40 false OH o20 ⟨tm,H⟩=some ⟨sU tm 9 (cO tm 3),H⟩:=by kernel_rfl
theorem Pk{args:List AV}{H H':ab}{y:AV}(h:xL args H=some (y,H')):m3 Tryz.prog (.fn 23) args H y H':=by
 unfold xL at h
 split at h
 case h_2=>cases h
 rename_i x
 split at h
 case h_2=>cases h
 rename_i es hx
 split at h
 case h_2=>cases h
 rename_i l hl
 cases h
 have hf23:Tryz.prog.funcs[23]?=some Tryz.f23:=by kernel_rfl
 refine⟨⟨Tryz.f23,hf23,by kernel_rfl,by rw[DR];rfl⟩,?_⟩
 intro M ι w us hS hD hv cs
 have hF:=XR hS hD
 obtain⟨u,rfl⟩ : ∃u,us=[u]:=by
  have:=hv.1
  match us,this with
  | [u],_=>exact⟨u,rfl⟩
 have hu:VR M ι x u:=hv.2 0 x u rfl rfl
 have hnt:Tryz.f23.ntmps=31:=by kernel_rfl
 have hO:=Pf hS hD hv (n:=31) (by simp)
 let b:Frame := { (default:Frame)with fn:=23,kind := .normal,roundOf:=none}
 let body:Code := .seq (.region 0 UC false) (.seq (.region 1 SA false) (.seq (.region 2 OH false) (.seq (.seq (Bu J7) (uA J7)) Tt)))
 let a0:Act := { tmps:=[u].toArray++Array.replicate (31 - [u].toArray.size) undef,defers:=[]}
 have henter:Frame.enter Tryz.prog 23 [u].toArray .normal=b.atR a0 [.code body]:=by
  simp only[Frame.enter,hf23,DR,hnt]
  rfl
 obtain⟨tm1,s1,H1,a1,w1,M1,ι1,hK1,ht1,hO1,hF1,hd1,hs1⟩:=MF (id:=0) (K:=fun s H1=>s 0=x∧H1=H) (RP (fun i=>cO [x] i) H _ ⟨rfl,rfl⟩) (fun i=>rfl) hO b rfl [.code (.seq (.region 1 SA false) (.seq (.region 2 OH false) (.seq (.seq (Bu J7) (uA J7)) Tt)))] cs
 obtain⟨hx0,rfl⟩:=hK1
 have hlen:aK env.P false H1.get ⟨40,7,H1.gen 40 7,0⟩ .len #[31] [s1 0]=some (aI es.length,[])∧es.length≤1000:=by
  rw[hx0]
  unfold sc at hx
  split at hx
  ·obtain⟨hlen,hx⟩:=Option.ite_none_right_eq_some.1 hx
   cases hx
   exact⟨by simp,hlen⟩
  ·cases hx;exact⟨by simp,by simp⟩
  ·cases hx
 obtain⟨tm2,s2,H2,a2,w2,M2,ι2,hK2,ht2,hO2,hF2,hd2,hs2⟩:=MF (id:=1) (K:=fun s H2=>s 0=x∧s 3 = .ch (eI H1)∧H2=keyed (eI H1) 0 [gD es.length false []] H1) (RO s1 H1 _ (by
  refine Tq hlen.1 ?_
  refine qa (v := .ch (eI H1)) (H:=keyed (eI H1) 0 [gD es.length false []] H1) ?_ ⟨hx0,rfl,rfl⟩
  have hb:((Bn env.P 96).bind (lf env.P)).map (fun b=>Nat.ble b 1000000)=some true:=by kernel_rfl
  obtain⟨nb,hb,hnb⟩:=Option.map_eq_some_iff.1 hb
  have hnb:=Nat.le_of_ble_eq_true hnb
  simp only[om,hb]
  rw[if_pos ⟨by omega,by omega,by omega⟩]
  rfl)) ht1 hO1 b rfl [.code (.seq (.region 2 OH false) (.seq (.seq (Bu J7) (uA J7)) Tt))] cs
 obtain⟨h20,h23,rfl⟩:=hK2
 have hpc:=fun f xs y h=>qP p8 (zl p8 0) (f:=f) (args:=xs) (y:=y) h
 have htc:=fun f xs H y H' h=>sW p8 (zl p8 0) (dep:=40) (t:=f) (args:=xs) (H:=H) (y:=y) (H':=H') h
 obtain⟨a3,w3,⟨⟨M3,ι3,hO3,hF3⟩,hd3⟩,hs3⟩:=yC (E:=kA) hO2 hpc htc p8.overs (ZZ _ _ _ _) WC b [1] [.code (.seq (.seq (Bu J7) (uA J7)) Tt)] cs
 have h9:=hO3.tr.at_ 9
 have e9:cO (sU tm2 9 (cO tm2 3)) 9 = .ch (eI H1):=by rw[lE,if_pos rfl,ht2 3,h23]
 rw[e9]at h9
 generalize hcv:a3.tmps.getD 9 undef=cv at h9
 cases h9 with | @ch _ _ l3 hr3 hz3 =>
 have hd30:a3.defers=[]:=by rw[hd3,hd2,hd1]
 obtain⟨a4,w4,⟨rfl,rfl⟩,hs4⟩:=JI (P:=Tryz.prog) (K:=fun a' w'=>a' = { a3 with defers:=[rP l3.b #[96] 0 #[false]]}∧w'=w3) WB (by simp[Region.wanted,KZ]) b (by
  refine⟨fun _ _=>trivial,?_⟩
  have hev:a3.eval (.tmp 9) = .chan (some l3.b):=hcv
  have hrun:(Oper.semAt (FW b.roundOf).round a3.eval QV).run Tryz.prog w3 = .ok (.defer (rP l3.b #[96] 0 #[false])) w3:=by
   show(execOp a3.eval QV).run Tryz.prog w3=_
   simp[execOp,SD,resolve,Nf,hev,rP]
  rw[hrun]
  show({ a3 with defers:=rP l3.b #[96] 0 #[false] :: a3.defers}.put QV.dst undef)=_∧w3=w3
  rw[PX,hd30]
  exact⟨rfl,rfl⟩) [] [.code (.seq (.seq (Bu J7) (uA J7)) Tt)] cs
 have hO4:qE M3 ι3 ⟨sU tm2 9 (cO tm2 3),keyed (eI H1) 0 [gD es.length false []] H1⟩ 31 { a3 with defers:=[rP l3.b #[96] 0 #[false]]} w4:=⟨hO3.sim,hO3.dom,⟨fun t=>hO3.tr.at_ t⟩,hO3.nt⟩
 have hag:dV (sU tm2 9 (cO tm2 3)) (JK (fun i=>cO (sU tm2 9 (cO tm2 3)) i) [(3,.ch (eI H1)),(0,x)]):=by
  intro i
  by_cases e3:i=3
  ·subst e3;rw[lE,if_neg (by omega),ht2 3,h23];rfl
  ·by_cases e0:i=0
   ·subst e0;rw[lE,if_neg (by omega),ht2 0,h20];rfl
   ·have b3:Nat.beq i 3=false:=by cases h:Nat.beq i 3 with | false=>rfl | true=>exact absurd (Nat.eq_of_beq_eq_true h) e3
    have b0:Nat.beq i 0=false:=by cases h:Nat.beq i 0 with | false=>rfl | true=>exact absurd (Nat.eq_of_beq_eq_true h) e0
    simp only[JK,b3,b0,cond_false]
 obtain⟨y,H3,⟨rfl,hget,hold⟩,n,hn⟩:=(Pl hx hl hF).h _ _ hag
 obtain⟨st3,hrun3,hres3,rfl⟩:=hn n (Nat.le_refl _)
 rw[hnt,Jq]at hrun3
 have hok:(mI.all (kT (zK kA)))=true:=by kernel_rfl
 rw[Jq]at hok
 obtain⟨a5,w5,todo,ds,⟨M5,ι5,hO5,hF5⟩,hd5,hm5,hs5⟩:=zl p8 n none 31 40 _ _ st3 hrun3 (fun i hi=>List.all_eq_true.1 hok i hi) M3 ι3 _ w4 hO4 b cs rfl rfl
 obtain⟨w6,hs6,g1,g2,g3,g4,g5⟩:=E4 (P:=Tryz.prog) (fr := { b.atR a5 todo with mode := .returning}) (cs:=cs) (rest:=[rP l3.b #[96] 0 #[false]]) ds w5 rfl hm5.1 (fun D hD=>(hm5.2 D hD).2)
 have hfr : { { b.atR a5 todo with mode := .returning} with defers:=marks ds++[rP l3.b #[96] 0 #[false]]} = { b.atR a5 todo with mode := .returning}:=by rw[←hd5];rfl
 rw[hfr]at hs6
 have hS6:=hO5.sim.other (fun D hD=>(hm5.2 D hD).2) g5
 have hF04:=((hF1.trans hF2).trans hF3)
 have hF5':=hF04.trans hF5
 have hF6:pe M ι H1.get w M5 ι5 st3.hp.get w6:=by
  refine⟨g1.trans hF5'.os,g2.trans hF5'.tape,g3.trans hF5'.output,by rw[g4];exact hF5'.size,fun b0 hb0 hno=>?_,hF5'.mem,hF5'.map,hF5'.live,hF5'.new⟩
  rw[g5 b0 fun hD=>absurd (hm5.2 b0 hD).1 (by have:=hF04.size;omega)]
  exact hF5'.chg b0 hb0 hno
 have hr5:ι5 (eI H1)=some l3:=hF5.map _ _ hr3
 obtain⟨s6,t6,arr,hh6,hsz,hel⟩:=AY hS6 hr5 (tq hget)
 have hs7:=Ib (P:=Tryz.prog) (fr := { { b.atR a5 todo with mode := .returning} with defers:=[rP l3.b #[96] 0 #[false]]}) (cs:=cs) rfl rfl hh6
 have hresv:Tryz.f23.results = #[.tmp 2]:=by kernel_rfl
 have h52:cO st3.tm 2 = .ch (eI H1):=by
  simpa [pY,hresv,iz] using hres3
 have hv2:=hO5.tr.at_ 2
 rw[h52]at hv2
 generalize hcv2:a5.tmps.getD 2 undef=cv2 at hv2
 cases hv2 with | @ch _ _ l5 hr55 hz5 =>
 rw[hr5]at hr55
 cases hr55
 have hfl : ∀e∈l.filterMap id,flat depth e=true:=by
  intro e he
  obtain⟨o,ho,he⟩:=List.mem_filterMap.1 he
  obtain⟨i,hi,hio⟩:=List.getElem_of_mem ho
  obtain⟨c,hc,hf⟩:=gU hl (by rw[List.getElem?_eq_getElem hi,hio])
  obtain⟨k,x1,x2,x3,x4,x5,x6,x7,x8,x9,x10,x11,x12,x13,x14,x15,x16,x17,x18,x19,x20,x21,x22,x23,_,hfl,_,rfl⟩:=xM hf
  split at he
  ·cases he
  ·cases he;exact hfl
 refine⟨.returned (.chan (some l3.b)),_,({ { b.atR a5 todo with mode := .returning} with defers:=[]}:Frame),⟨_,rfl,Nq hS hD rfl rfl hS6 hF6 hO5.dom hr5 hz3 hget hh6 hsz hel hfl hold⟩,?_,rfl,rfl,rfl,rfl,Tryz.f23,hf23,?_⟩
 rotate_left
 ·show(results Tryz.f23 a5.tmps).run Tryz.prog _=_
  rw[Array.getD_eq_getD_getElem?]at hcv2
  simp[results,hresv,hcv2]
 ·show Steps Tryz.prog _ _
  rw[show(#[u]:Array Value)=[u].toArray from rfl,henter]
  refine Steps.trans (.one stepR_seq) (Steps.trans hs1 (Steps.trans (.one stepR_seq) (Steps.trans hs2 (Steps.trans (.one stepR_seq) (Steps.trans (.one stepR_region) ?_)))))
  rw[M8]
  refine Steps.trans (hs3 rfl) (Steps.trans hs4 (Steps.trans (.one stepR_region_end) (Steps.trans (.one stepR_seq) (Steps.trans (.one stepR_seq) (Steps.trans hs5 (Steps.trans hs6 (.one hs7)))))))
end Go.Proofs.YtdbiffjdomokfaaGreat
set_option maxRecDepth 1000000
namespace Go.Ab
def AO.enc(h:AO):List AV:=[a8 h.lv,aF h.cats,a8 h.num]
def fl.enc(i:fl):List AV:=[a8 i.h.lv,aF i.h.cats,a8 i.h.num,aI i.n]
def Aq.enc(s:Aq):List AV:=[a8 s.f.h.lv,aF s.f.h.cats,a8 s.f.h.num,aI s.f.n,aI s.many]
end Go.Ab
namespace Go.Proofs.YtdbiffjdomokfaaGreat
open Go.Ab Go.ChangeShapes Go.WideShapes Go.RowKit
theorem vE:HN env.P 35 (fun _=>True) (fun p:UInt8 × UInt32=>[a8 p.1,aF p.2]):=by
 intro n xs h
 have h:=jF (P:=env.P) Hj h
 obtain⟨m,x,r,rfl,h1,y,r',rfl,h2,rfl⟩:=h
 obtain⟨v,_,rfl⟩:=JA (P:=env.P) (t:=5) (by simp) _ _ h1
 obtain⟨w,_,rfl⟩:=Sd (P:=env.P) (t:=33) (by simp) _ _ h2
 exact⟨(v,w),trivial,rfl⟩
theorem Jz:HN env.P 40 (fun _=>True) AO.enc:=by
 intro n xs h
 have h:=jF (P:=env.P) Hi h
 obtain⟨m,x,r,rfl,h1,y,r',rfl,h2,rfl⟩:=h
 obtain⟨p,_,rfl⟩:=vE _ _ h1
 obtain⟨w,_,rfl⟩:=JA (P:=env.P) (t:=5) (by simp) _ _ h2
 exact⟨⟨p.1,p.2,w⟩,trivial,rfl⟩
theorem Jy:HN env.P 45 (fun _=>True) fl.enc:=by
 intro n xs h
 have h:=jF (P:=env.P) Hh h
 obtain⟨m,x,r,rfl,h1,y,r',rfl,h2,rfl⟩:=h
 obtain⟨p,_,rfl⟩:=Jz _ _ h1
 obtain⟨i,_,rfl⟩:=oN (P:=env.P) (t:=3) (by simp) _ _ h2
 exact⟨⟨p,i⟩,trivial,rfl⟩
theorem PB:HN env.P 47 (fun _=>True) Aq.enc:=by
 intro n xs h
 have h:=jF (P:=env.P) Hg h
 obtain⟨m,x,r,rfl,h1,y,r',rfl,h2,rfl⟩:=h
 obtain⟨p,_,rfl⟩:=Jy _ _ h1
 obtain⟨i,_,rfl⟩:=oN (P:=env.P) (t:=3) (by simp) _ _ h2
 exact⟨⟨p,i⟩,trivial,rfl⟩
theorem Mc{n:Nat}{xs:List AV}(h:xk env.P n 48 xs) : ∃(l:List Int) (x:AV),(∀a∈l, -2147483648≤a∧a≤2147483647)∧xs=[x]∧Sl 1 (rows l) x:=by
 obtain⟨l,x,hl,rfl,s⟩:=xI (P:=env.P) L1 L0 Pd (PA (by simp)) h
 exact⟨l,x,hl,rfl,s⟩
def RJ(p:bR × AV):List AV:=[a8 p.1.kind,a8 p.1.h.lv,aF p.1.h.cats,a8 p.1.h.num,aI p.1.serial,a8 p.1.s.f.h.lv,aF p.1.s.f.h.cats,a8 p.1.s.f.h.num,aI p.1.s.f.n,aI p.1.s.many,
 a8 p.1.a.h.lv,aF p.1.a.h.cats,a8 p.1.a.h.num,aI p.1.a.n,a8 p.1.to.lv,aF p.1.to.cats,p.2]
theorem PD:HN env.P 50 (fun p:bR × AV=>Sl 1 (rows p.1.l) p.2) RJ:=by
 intro n xs h
 have h:=jF (P:=env.P) Hf h
 obtain⟨m,x1,r1,rfl,h1,x2,r2,rfl,h2,x3,r3,rfl,h3,x4,r4,rfl,h4,x5,r5,rfl,h5,x6,r6,rfl,h6,x7,r7,rfl,h7,rfl⟩:=h
 obtain⟨k,_,rfl⟩:=JA (P:=env.P) (t:=5) (by simp) _ _ h1
 obtain⟨hh,_,rfl⟩:=Jz _ _ h2
 obtain⟨se,_,rfl⟩:=oN (P:=env.P) (t:=3) (by simp) _ _ h3
 obtain⟨s,_,rfl⟩:=PB _ _ h4
 obtain⟨a,_,rfl⟩:=Jy _ _ h5
 obtain⟨t,_,rfl⟩:=vE _ _ h6
 obtain⟨l,y,_,rfl,sl⟩:=Mc h7
 exact⟨(⟨k,hh,se,s,a,⟨t.1,t.2⟩,l⟩,y),sl,rfl⟩
theorem own:ownKnob Tryz.prog.godebug=none:=by kernel_rfl
theorem kids:Kids Tryz.prog (· < Tryz.prog.types.size):=kids_rows (by kernel_rfl) (by kernel_rfl)
end Go.Proofs.YtdbiffjdomokfaaGreat
namespace Go.Proofs.YtdbiffjdomokfaaGreat
open Go.Ab Go.ChangeShapes Go.WideShapes Go.RowKit
theorem Xr:env.Ok (zK env):=J3 GF (by kernel_rfl) Tc (fun f t h=>by cases h) (fun f args H y H' h=>by
 have h:xK f args H=some (y,H'):=h
 unfold xK at h
 split at h
 ·rename_i e;subst e;exact Pk h
 ·cases h)
theorem PE:HN env.P 52 (fun _=>True) (fun p:UInt8 × UInt32 × Bool=>[a8 p.1,aF p.2.1,aB p.2.2]):=by
 intro n xs h
 have h:=jF (P:=env.P) Af h
 obtain⟨m,x,r,rfl,h1,y,r',rfl,h2,rfl⟩:=h
 obtain⟨q,_,rfl⟩:=vE _ _ h1
 obtain⟨b,_,rfl⟩:=Gg (P:=env.P) (t:=4) (by simp) _ _ h2
 exact⟨(q.1,q.2,b),trivial,rfl⟩
def ZN(p:jr × AV):List AV:=[a8 p.1.kind,aI p.1.user]++(RJ (p.1.op,p.2)++[aI p.1.code,aI p.1.gu,a8 p.1.gv,aF p.1.gc,aB p.1.gok])
theorem PC:HN env.P 56 (fun p:jr × AV=>Sl 1 (rows p.1.op.l) p.2) ZN:=by
 intro n xs h
 have h:=jF (P:=env.P) Hd h
 obtain⟨m,x1,r1,rfl,h1,x2,r2,rfl,h2,x3,r3,rfl,h3,x4,r4,rfl,h4,x5,r5,rfl,h5,rfl⟩:=h
 obtain⟨k,_,rfl⟩:=JA (P:=env.P) (t:=5) (by simp) _ _ h1
 obtain⟨u,_,rfl⟩:=oN (P:=env.P) (t:=3) (by simp) _ _ h2
 obtain⟨q,hq,rfl⟩:=PD _ _ h3
 obtain⟨c,_,rfl⟩:=oN (P:=env.P) (t:=23) (by simp) _ _ h4
 have h6:=jF (P:=env.P) He h5
 obtain⟨m,y1,s1,rfl,i1,y2,s2,rfl,i2,rfl⟩:=h6
 obtain⟨g,_,rfl⟩:=oN (P:=env.P) (t:=3) (by simp) _ _ i1
 obtain⟨z,_,rfl⟩:=PE _ _ i2
 exact⟨(⟨k,u,q.1,c,g,z.1,z.2.1,z.2.2⟩,q.2),hq,rfl⟩
theorem Ph{n:Nat}{x:AV}(h:LJ env.P n 31 x) : ∃(l:List (jr × AV)),(∀p∈l,Sl 1 (rows p.1.op.l) p.2)∧Sl 24 (cI l) x:=by
 obtain⟨l,z,hl,e,s⟩:=xI (P:=env.P) L2 LY Pb PC (h.cell (by simp))
 cases e
 exact⟨l,hl,s⟩
theorem Sc:HN env.P 52 (fun _=>True) Clear.enc:=by
 intro n xs h
 have h:=jF (P:=env.P) Af h
 obtain⟨m,x,r,rfl,h1,y,r',rfl,h2,rfl⟩:=h
 obtain⟨p,_,rfl⟩:=vE _ _ h1
 obtain⟨b,_,rfl⟩:=Gg (P:=env.P) (t:=4) (by simp) _ _ h2
 exact⟨⟨p.1,p.2,b⟩,trivial,rfl⟩
theorem Sb:HN env.P 76 (fun _=>True) bz.enc:=by
 intro n xs h
 have h:=jF (P:=env.P) Hc h
 obtain⟨m,x,r,rfl,h1,y,r',rfl,h2,z,r'',rfl,h3,w,r3,rfl,h4,rfl⟩:=h
 obtain⟨p,_,rfl⟩:=vE _ _ h1
 obtain⟨i,_,rfl⟩:=oN (P:=env.P) (t:=3) (by simp) _ _ h2
 obtain⟨j,_,rfl⟩:=oN (P:=env.P) (t:=3) (by simp) _ _ h3
 obtain⟨k,_,rfl⟩:=oN (P:=env.P) (t:=3) (by simp) _ _ h4
 exact⟨⟨p.1,p.2,i,j,k⟩,trivial,rfl⟩
theorem R2{n:Nat}{x:AV}(h:LJ env.P n 29 x) : ∃(us:List Clear) (qs:List bz) (gr:Int) (xu xq:AV),x = .agg [xu,xq,aI gr]∧Sl 3 (eZ us) xu∧Sl 5 (ff qs) xq:=by
 obtain⟨y0,rfl,h0'⟩:=h.agg (by simp)
 have h0:=jF (P:=env.P) Hk h0'
 obtain⟨m,u,r,rfl,hu,q,r',rfl,hq,g,r'',rfl,hg,rfl⟩:=h0
 have hu:=xI (P:=env.P) L4 LZ Pc Sc hu
 obtain⟨us,xu,_,rfl,su⟩:=hu
 have hq:=xI (P:=env.P) L3 LX Pa Sb hq
 obtain⟨qs,xq,_,rfl,sq⟩:=hq
 obtain⟨gr,_,rfl⟩:=oN (P:=env.P) (t:=3) (by simp) _ _ hg
 exact⟨us,qs,gr,xu,xq,rfl,su,sq⟩
end Go.Proofs.YtdbiffjdomokfaaGreat
