/-
  audit.sent: what it answers. No statement of a seat is proved here.
-/
import Derived.Test.YtdbiffjdomokfaaGreatMAuVc6
import Derived.Test.YtdbiffjdomokfaaGreatAuTy
import Derived.Test.YtdbiffjdomokfaaGreatMOpFns
import Derived.Test.YtdbiffjdomokfaaGreatLeTw
import Derived.Test.YtdbiffjdomokfaaGreatMLePol
set_option linter.unusedVariables false
set_option linter.unusedSimpArgs false
set_option linter.unusedSectionVars false
set_option linter.unnecessarySimpa false
set_option maxRecDepth 100000
namespace Go.Ab
theorem V4{M:Mem}{ι:Map}{w:World}{H:ab}(hS:eT M ι H.get w)(hD:oK ι H):Fr H:=by
 intro d t g k hg
 cases h:H.get ⟨d,t,g,k⟩ with
 | none=>rfl
 | some b =>
  obtain⟨l,hl,_⟩:=hS.live _ _ h
  have:=hD _ _ hl
  simp only at this
  omega
theorem D4{P:Program}{fr:Frame}{cs:List Frame}{rest:List Deferred} : ∀(ds:List Nat)(w:World),fr.mode = .returning→ds.Nodup→(∀D∈ds,w.heap[D]?=some (.deferred (some []))) →
 ∃w',Steps P (lone { fr with defers:=marks ds++rest} cs w) (lone { fr with defers:=rest} cs w')∧w'.os=w.os∧w'.tape=w.tape∧w'.output=w.output∧w'.heap.size=w.heap.size ∧∀b,b ∉ ds→w'.heap[b]?=w.heap[b]?:=by
 intro ds
 induction ds with
 | nil=>intro w _ _ _;exact⟨w,Steps.refl _ _,rfl,rfl,rfl,rfl,fun _ _=>rfl⟩
 | cons D ds ih =>
  intro w hm hnd hh
  have h1:=run_takeDeferred (P:=P) (hh D (List.mem_cons_self ..))
  have hstep:=step_collected (P:=P) (fr := { fr with defers:=marks (D :: ds)++rest}) (cs:=cs) (w:=w) (d := { target := .collected D,args := #[]}) (r:=D) (ds:=marks ds++rest) (by simp[hm]) rfl rfl h1
  obtain⟨w',h2,h3,h4,h5,h6,h7⟩:=ih (w.putObj D (.deferred none)) hm (List.nodup_cons.1 hnd).2 (fun D' hD'=>by
   rw[World.putObj_heap_other (by intro e;subst e;exact(List.nodup_cons.1 hnd).1 hD')]
   exact hh D' (List.mem_cons_of_mem _ hD'))
  refine⟨w',Steps.trans (.one hstep) (by simpa using h2),h3,h4,h5,by rw[h6];simp,fun b hb=>?_⟩
  rw[h7 b (fun h=>hb (List.mem_cons_of_mem _ h)),World.putObj_heap_other (by intro e;subst e;exact hb (List.mem_cons_self ..))]
def qU(r:Nat)(ats:Array TypeId)(ty:TypeId)(cn:Array Bool):Deferred := { target := .builtin .close ats ty cn,args := #[.chan (some r)]}
theorem GR{P:Program}{fr:Frame}{cs:List Frame}{w:World}{r cap s rc:Nat}{buf:Array Value}{ats:Array TypeId}{ty:TypeId}{cn:Array Bool}{ds:List Deferred}(hm:fr.mode = .returning)
 (hd:fr.defers=qU r ats ty cn :: ds) (hh:w.heap[r]?=some (.chan cap buf false s rc false)) :
 step P (lone fr cs w) = .next (lone { fr with defers:=ds} cs (bS w r (.chan cap buf true s rc false))):=by
 refine step_lone_go ?_
 have h1:=run_close_open (P:=P) ats ty hh
 simp[stepG,unwind,callDeferred,hm,hd,qU,invoke,builtin,h1,bS,Sem.runT_eq,GStep.bare_after]
end Go.Ab
namespace Go.Proofs.YtdbiffjdomokfaaGreat
open Go.Ab
def At:Code→Code
 | .seq a _=>a
 | c=>c
def tu:Code→Code
 | .seq _ b=>b
 | c=>c
def Ls:Code→Array Oper
 | .region _ o _=>o
 | _ => #[]
noncomputable def SB:Array Oper:=Ls (At jc)
noncomputable def QD:Array Oper:=Ls (At (tu jc))
noncomputable def MT:Array Oper:=Ls (At (tu (tu jc)))
noncomputable def IQ:Code:=At (tu (tu (tu jc)))
noncomputable def Rs:Code:=tu (tu (tu (tu jc)))
theorem CN:Tryz.f23.body=some (.seq (.region 0 SB false) (.seq (.region 1 QD false) (.seq (.region 2 MT false) (.seq (.seq (At IQ) (tu IQ)) Rs)))):=by kernel_rfl
theorem HX:lU=[.code (At IQ),.code (tu IQ),.code Rs]:=by kernel_rfl
theorem P0(s:dA)(H:ab)(K:dA→ab→Prop)(h:K (yD s 2 (.v (.chan none))) H):Go.Ab.wpOps jQ 31 40 false SB SB.toList s H K:=by
 have e:Go.Ab.wpOps jQ 31 40 false SB SB.toList s H K=K (yD s 2 (.v (.chan none))) H:=by kernel_rfl
 rw[e];exact h
theorem PZ(s:dA)(H:ab)(K:dA→ab→Prop)(h:Go.Ab.ak (aM env.P false H.get ⟨40,7,H.gen 40 7,0⟩ .len #[31] [s 0]) fun v1 =>
 aN (nE env.P H ⟨40,8,H.gen 40 8,0⟩ 96 (some v1)) fun v2 H1=>K (yD (yD (yD (yD s 6 (s 0)) 7 v1) 8 v2) 3 v2) H1):Go.Ab.wpOps jQ 31 40 false QD QD.toList s H K:=by
 have e:Go.Ab.wpOps jQ 31 40 false QD QD.toList s H K=(ak (aM env.P false H.get ⟨40,7,H.gen 40 7,0⟩ .len #[31] [s 0]) fun v1 =>
  aN (nE env.P H ⟨40,8,H.gen 40 8,0⟩ 96 (some v1)) fun v2 H1=>K (yD (yD (yD (yD s 6 (s 0)) 7 v1) 8 v2) 3 v2) H1):=by kernel_rfl
 rw[e];exact h
end Go.Proofs.YtdbiffjdomokfaaGreat
namespace Go.Proofs.YtdbiffjdomokfaaGreat
open Go.Ab
theorem Nt{M:Mem}{ι:Map}{w:World}{H:ab}{args:List AV}{us:List Value}(hS:eT M ι H.get w)(hD:oK ι H)(hv:kD M ι args us){n:Nat}(hlen:args.length≤n) :
 p5 M ι ⟨args,H⟩ n { tmps:=us.toArray++Array.replicate (n - us.toArray.size) undef,defers:=[]} w:=by
 have hul:=hv.1
 refine⟨hS,hD,⟨?_⟩,by simp;omega⟩
 intro t
 rw[CI,Array.getD_eq_getD_getElem?]
 rcases Nat.lt_or_ge t args.length with ht | ht
 ·rw[List.getElem?_eq_getElem ht,Array.getElem?_append_left (by simp;omega),Option.getD_some]
  have hu:us[t]?=some (us[t]'(by omega)):=List.getElem?_eq_getElem _
  simp only[List.getElem?_toArray,hu,Option.getD_some]
  exact hv.2 t _ _ (List.getElem?_eq_getElem ht) hu
 ·rw[List.getElem?_eq_none ht,Array.getElem?_append_right (by simp;omega)]
  have : ∀k:Nat,((Array.replicate (n - us.toArray.size) undef)[k]?).getD undef=undef:=by
   intro k
   rw[Array.getElem?_replicate]
   split<;>rfl
  rw[this]
  exact .v rfl
theorem pC:jQ.Ok (yI jQ):=IL FD (by kernel_rfl) (by kernel_rfl) (fun f t h=>by cases h) (fun f args H y H' h=>by cases h)
theorem Nx{x:AV}{es:List AV}(hx:rj x=some es){l:List (Option AV)}(hl:es.mapM mR=some l){H:ab}(hF:Fr H) :
 bW jQ Tryz.f23 (39+1) lU [(3,.ch (eu H)),(0,x)] (keyed (eu H) 0 [gf es.length false []] H) fun y H3 =>
  y = .ch (eu H)∧H3.get (eu H)=some (gf es.length false (l.filterMap id)) ∧∀q b,H.get q=some b→H3.get q=some b:=by
 have h0:H.get (eu H)=none:=ar hF 40 8 0
 have hget:(keyed (eu H) 0 [gf es.length false []] H).get (eu H)=some (gf es.length false []):=by simp[keyed,ab.get,eu]
 have hold : ∀q b,H.get q=some b→(keyed (eu H) 0 [gf es.length false []] H).get q=some b:=by
  intro q b hq
  have h4:(eu H=q)=False:=eq_false fun e=>by subst e;rw[h0]at hq;cases hq
  have h5:(({ eu H with k:=0}:Ref)=q)=False:=h4
  simp[keyed,ab.get,h5,hq]
 refine zr 39 _ _ _ _ fun g=>?_
 unfold rj at hx
 split at hx
 ·rename_i es' c
  obtain⟨hlen,hx⟩:=Option.ite_none_right_eq_some.1 hx
  cases hx
  simp[ah,ai,ae,af,ad, *,oR]
  exact I9 hlen h0 es 0 0 [] l _ rfl (by omega) rfl (aq hF rfl _) hget (by simp) hold hl (fun H' h1 h2=>⟨rfl,by simpa using h1,h2⟩)
 ·cases hx
  cases hl
  simp[ah,ai,ae,af,ad, *,oR]
  refine oM 39 _ _ _ _ _ _ fun g=>?_
  simp[ah,ai,ae,af,ad, *,lW]
  exact⟨rfl,hold⟩
 ·cases hx
theorem jk{f:AV→Option (Option AV)} : ∀ {es:List AV} {l:List (Option AV)} {i:Nat} {o:Option AV},es.mapM f=some l→l[i]?=some o →∃e,es[i]?=some e∧f e=some o:=by
 intro es
 induction es with
 | nil=>intro l i o h hi;cases h;simp at hi
 | cons e es ih =>
  intro l i o h hi
  rw[List.mapM_cons]at h
  cases he:f e with
  | none=>rw[he]at h;cases h
  | some o' =>
  rw[he]at h
  cases hm:es.mapM f with
  | none=>rw[hm]at h;cases h
  | some l' =>
  rw[hm]at h
  cases h
  cases i with
  | zero=>simp at hi;subst hi;exact⟨e,rfl,he⟩
  | succ i=>obtain⟨c,h1,h2⟩:=ih hm (by simpa using hi);exact⟨c,by simpa using h1,h2⟩
theorem K7{ops:Array Oper}{id:Nat}{s:dA}{H:ab}{K:dA→ab→Prop}(h:Go.Ab.wpOps jQ 31 40 false ops ops.toList s H K){tm:List AV}(ht:dQ tm s){M:Mem}{ι:Map}{a:Act}{w:World}(hO:p5 M ι ⟨tm,H⟩ 31 a w)
 (b:Frame) (hb:b.kind = .normal) (k:List Item) (cs:List Frame) :
 ∃tm' s' H' a' w' M' ι',K s' H'∧dQ tm' s'∧p5 M' ι' ⟨tm',H'⟩ 31 a' w'∧oJ M ι H.get w M' ι' H'.get w'∧a'.defers=a.defers∧Steps Tryz.prog (lone (b.atR a (.code (.region id ops false) :: k)) cs w) (lone (b.atR a' k) cs w'):=by
 obtain⟨s',H',hK,hgo⟩:=EA h
 obtain⟨tm',ht',n,hn⟩:=hgo tm ht
 obtain⟨a',w',⟨⟨M',ι',h1,h2⟩,h3⟩,h4⟩:=wM (E:=jQ) (id:=id) (fun f xs y h=>qi pC (yh pC n) h) (fun f xs H y H' h=>r5 pC (yh pC n) h) pC.overs b k cs (hn n (Nat.le_refl _)) hO
 exact⟨tm',s',H',a',w',M',ι',hK,ht',h1,h2,h3,h4 hb⟩
noncomputable def YS:Oper:=MT[0]!
noncomputable def O2:Oper:=MT[1]!
theorem UL:MT[0]?=some YS:=by kernel_rfl
theorem UK:MT[1]?=some O2:=by kernel_rfl
theorem Lt:MT.size=2:=by kernel_rfl
theorem QG:O2.op = .defer { callee := .builtin .close,args := #[.tmp 9],argTypes := #[96]}:=by kernel_rfl
theorem N3:O2.dst=none:=by kernel_rfl
theorem JH:O2.guard=none:=by kernel_rfl
theorem Lx:O2.type=0:=by kernel_rfl
theorem Yk(pc:FuncId→List AV→Option AV)(tc:q6→List AV→ab→dq)(tm:List AV)(H:ab):evalOp jQ pc tc 31 40 false MT YS ⟨tm,H⟩=some ⟨rZ tm 9 (cL tm 3),H⟩:=by kernel_rfl
theorem Nw{args:List AV}{H H':ab}{y:AV}(h:wH args H=some (y,H')):mu Tryz.prog (.fn 23) args H y H':=by
 unfold wH at h
 split at h
 case h_2=>cases h
 rename_i x
 split at h
 case h_2=>cases h
 rename_i es hx
 split at h
 case h_2=>cases h
 rename_i l hl
 cases h
 have hf23:Tryz.prog.funcs[23]?=some Tryz.f23:=by kernel_rfl
 refine⟨⟨Tryz.f23,hf23,by kernel_rfl,by rw[CN];rfl⟩,?_⟩
 intro M ι w us hS hD hv cs
 have hF:=V4 hS hD
 obtain⟨u,rfl⟩ : ∃u,us=[u]:=by
  have:=hv.1
  match us,this with
  | [u],_=>exact⟨u,rfl⟩
 have hu:VR M ι x u:=hv.2 0 x u rfl rfl
 have hnt:Tryz.f23.ntmps=31:=by kernel_rfl
 have hO:=Nt hS hD hv (n:=31) (by simp)
 let b:Frame := { (default:Frame)with fn:=23,kind := .normal,roundOf:=none}
 let body:Code := .seq (.region 0 SB false) (.seq (.region 1 QD false) (.seq (.region 2 MT false) (.seq (.seq (At IQ) (tu IQ)) Rs)))
 let a0:Act := { tmps:=[u].toArray++Array.replicate (31 - [u].toArray.size) undef,defers:=[]}
 have henter:Frame.enter Tryz.prog 23 [u].toArray .normal=b.atR a0 [.code body]:=by
  simp only[Frame.enter,hf23,CN,hnt]
  rfl
 obtain⟨tm1,s1,H1,a1,w1,M1,ι1,hK1,ht1,hO1,hF1,hd1,hs1⟩:=K7 (id:=0) (K:=fun s H1=>s 0=x∧H1=H) (P0 (fun i=>cL [x] i) H _ ⟨rfl,rfl⟩) (fun i=>rfl) hO b rfl [.code (.seq (.region 1 QD false) (.seq (.region 2 MT false) (.seq (.seq (At IQ) (tu IQ)) Rs)))] cs
 obtain⟨hx0,rfl⟩:=hK1
 have hlen:aM env.P false H1.get ⟨40,7,H1.gen 40 7,0⟩ .len #[31] [s1 0]=some (aI es.length,[])∧es.length≤1000:=by
  rw[hx0]
  unfold rj at hx
  split at hx
  ·obtain⟨hlen,hx⟩:=Option.ite_none_right_eq_some.1 hx
   cases hx
   exact⟨by simp,hlen⟩
  ·cases hx;exact⟨by simp,by simp⟩
  ·cases hx
 obtain⟨tm2,s2,H2,a2,w2,M2,ι2,hK2,ht2,hO2,hF2,hd2,hs2⟩:=K7 (id:=1) (K:=fun s H2=>s 0=x∧s 3 = .ch (eu H1)∧H2=keyed (eu H1) 0 [gf es.length false []] H1) (PZ s1 H1 _ (by
  refine Rp hlen.1 ?_
  refine pE (v := .ch (eu H1)) (H:=keyed (eu H1) 0 [gf es.length false []] H1) ?_ ⟨hx0,rfl,rfl⟩
  have hb:((Am env.P 96).bind (kH env.P)).map (fun b=>Nat.ble b 1000000)=some true:=by kernel_rfl
  obtain⟨nb,hb,hnb⟩:=Option.map_eq_some_iff.1 hb
  have hnb:=Nat.le_of_ble_eq_true hnb
  simp only[nE,hb]
  rw[if_pos ⟨by omega,by omega,by omega⟩]
  rfl)) ht1 hO1 b rfl [.code (.seq (.region 2 MT false) (.seq (.seq (At IQ) (tu IQ)) Rs))] cs
 obtain⟨h20,h23,rfl⟩:=hK2
 have hpc:=fun f xs y h=>qi pC (yh pC 0) (f:=f) (args:=xs) (y:=y) h
 have htc:=fun f xs H y H' h=>r5 pC (yh pC 0) (dep:=40) (t:=f) (args:=xs) (H:=H) (y:=y) (H':=H') h
 obtain⟨a3,w3,⟨⟨M3,ι3,hO3,hF3⟩,hd3⟩,hs3⟩:=xl (E:=jQ) hO2 hpc htc pC.overs (Yk _ _ _ _) UL b [1] [.code (.seq (.seq (At IQ) (tu IQ)) Rs)] cs
 have h9:=hO3.tr.at_ 9
 have e9:cL (rZ tm2 9 (cL tm2 3)) 9 = .ch (eu H1):=by rw[kT,if_pos rfl,ht2 3,h23]
 rw[e9]at h9
 generalize hcv:a3.tmps.getD 9 undef=cv at h9
 cases h9 with | @ch _ _ l3 hr3 hz3 =>
 have hd30:a3.defers=[]:=by rw[hd3,hd2,hd1]
 obtain⟨a4,w4,⟨rfl,rfl⟩,hs4⟩:=Ir (P:=Tryz.prog) (K:=fun a' w'=>a' = { a3 with defers:=[qU l3.b #[96] 0 #[false]]}∧w'=w3) UK (by simp[Region.wanted,JH]) b (by
  refine⟨fun _ _=>trivial,?_⟩
  have hev:a3.eval (.tmp 9) = .chan (some l3.b):=hcv
  have hrun:(Oper.semAt (FW b.roundOf).round a3.eval O2).run Tryz.prog w3 = .ok (.defer (qU l3.b #[96] 0 #[false])) w3:=by
   show(execOp a3.eval O2).run Tryz.prog w3=_
   simp[execOp,QG,resolve,Lx,hev,qU]
  rw[hrun]
  show({ a3 with defers:=qU l3.b #[96] 0 #[false] :: a3.defers}.put O2.dst undef)=_∧w3=w3
  rw[N3,hd30]
  exact⟨rfl,rfl⟩) [] [.code (.seq (.seq (At IQ) (tu IQ)) Rs)] cs
 have hO4:p5 M3 ι3 ⟨rZ tm2 9 (cL tm2 3),keyed (eu H1) 0 [gf es.length false []] H1⟩ 31 { a3 with defers:=[qU l3.b #[96] 0 #[false]]} w4:=⟨hO3.sim,hO3.dom,⟨fun t=>hO3.tr.at_ t⟩,hO3.nt⟩
 have hag:dQ (rZ tm2 9 (cL tm2 3)) (It (fun i=>cL (rZ tm2 9 (cL tm2 3)) i) [(3,.ch (eu H1)),(0,x)]):=by
  intro i
  by_cases e3:i=3
  ·subst e3;rw[kT,if_neg (by omega),ht2 3,h23];rfl
  ·by_cases e0:i=0
   ·subst e0;rw[kT,if_neg (by omega),ht2 0,h20];rfl
   ·have b3:Nat.beq i 3=false:=by cases h:Nat.beq i 3 with | false=>rfl | true=>exact absurd (Nat.eq_of_beq_eq_true h) e3
    have b0:Nat.beq i 0=false:=by cases h:Nat.beq i 0 with | false=>rfl | true=>exact absurd (Nat.eq_of_beq_eq_true h) e0
    simp only[It,b3,b0,cond_false]
 obtain⟨y,H3,⟨rfl,hget,hold⟩,n,hn⟩:=(Nx hx hl hF).h _ _ hag
 obtain⟨st3,hrun3,hres3,rfl⟩:=hn n (Nat.le_refl _)
 rw[hnt,HX]at hrun3
 have hok:(lU.all (kg (yI jQ)))=true:=by kernel_rfl
 rw[HX]at hok
 obtain⟨a5,w5,todo,ds,⟨M5,ι5,hO5,hF5⟩,hd5,hm5,hs5⟩:=yh pC n none 31 40 _ _ st3 hrun3 (fun i hi=>List.all_eq_true.1 hok i hi) M3 ι3 _ w4 hO4 b cs rfl rfl
 obtain⟨w6,hs6,g1,g2,g3,g4,g5⟩:=D4 (P:=Tryz.prog) (fr := { b.atR a5 todo with mode := .returning}) (cs:=cs) (rest:=[qU l3.b #[96] 0 #[false]]) ds w5 rfl hm5.1 (fun D hD=>(hm5.2 D hD).2)
 have hfr : { { b.atR a5 todo with mode := .returning} with defers:=marks ds++[qU l3.b #[96] 0 #[false]]} = { b.atR a5 todo with mode := .returning}:=by rw[←hd5];rfl
 rw[hfr]at hs6
 have hS6:=hO5.sim.other (fun D hD=>(hm5.2 D hD).2) g5
 have hF04:=((hF1.trans hF2).trans hF3)
 have hF5':=hF04.trans hF5
 have hF6:oJ M ι H1.get w M5 ι5 st3.hp.get w6:=by
  refine⟨g1.trans hF5'.os,g2.trans hF5'.tape,g3.trans hF5'.output,by rw[g4];exact hF5'.size,fun b0 hb0 hno=>?_,hF5'.mem,hF5'.map,hF5'.live,hF5'.new⟩
  rw[g5 b0 fun hD=>absurd (hm5.2 b0 hD).1 (by have:=hF04.size;omega)]
  exact hF5'.chg b0 hb0 hno
 have hr5:ι5 (eu H1)=some l3:=hF5.map _ _ hr3
 obtain⟨s6,t6,arr,hh6,hsz,hel⟩:=zS hS6 hr5 (sk hget)
 have hs7:=GR (P:=Tryz.prog) (fr := { { b.atR a5 todo with mode := .returning} with defers:=[qU l3.b #[96] 0 #[false]]}) (cs:=cs) rfl rfl hh6
 have hresv:Tryz.f23.results = #[.tmp 2]:=by kernel_rfl
 have h52:cL st3.tm 2 = .ch (eu H1):=by
  simpa [pw,hresv,hU] using hres3
 have hv2:=hO5.tr.at_ 2
 rw[h52]at hv2
 generalize hcv2:a5.tmps.getD 2 undef=cv2 at hv2
 cases hv2 with | @ch _ _ l5 hr55 hz5 =>
 rw[hr5]at hr55
 cases hr55
 have hfl : ∀e∈l.filterMap id,flat depth e=true:=by
  intro e he
  obtain⟨o,ho,he⟩:=List.mem_filterMap.1 he
  obtain⟨i,hi,hio⟩:=List.getElem_of_mem ho
  obtain⟨c,hc,hf⟩:=jk hl (by rw[List.getElem?_eq_getElem hi,hio])
  obtain⟨k,x1,x2,x3,x4,x5,x6,x7,x8,x9,x10,x11,x12,x13,x14,x15,x16,x17,x18,x19,x20,x21,x22,x23,_,hfl,_,rfl⟩:=wI hf
  split at he
  ·cases he
  ·cases he;exact hfl
 refine⟨.returned (.chan (some l3.b)),_,({ { b.atR a5 todo with mode := .returning} with defers:=[]}:Frame),⟨_,rfl,LJ hS hD rfl rfl hS6 hF6 hO5.dom hr5 hz3 hget hh6 hsz hel hfl hold⟩,?_,rfl,rfl,rfl,rfl,Tryz.f23,hf23,?_⟩
 rotate_left
 ·show(results Tryz.f23 a5.tmps).run Tryz.prog _=_
  rw[Array.getD_eq_getD_getElem?]at hcv2
  simp[results,hresv,hcv2]
 ·show Steps Tryz.prog _ _
  rw[show(#[u]:Array Value)=[u].toArray from rfl,henter]
  refine Steps.trans (.one stepR_seq) (Steps.trans hs1 (Steps.trans (.one stepR_seq) (Steps.trans hs2 (Steps.trans (.one stepR_seq) (Steps.trans (.one stepR_region) ?_)))))
  rw[Lt]
  refine Steps.trans (hs3 rfl) (Steps.trans hs4 (Steps.trans (.one stepR_region_end) (Steps.trans (.one stepR_seq) (Steps.trans (.one stepR_seq) (Steps.trans hs5 (Steps.trans hs6 (.one hs7)))))))
end Go.Proofs.YtdbiffjdomokfaaGreat
set_option maxRecDepth 1000000
namespace Go.Ab
def zU.enc(h:zU):List AV:=[a8 h.lv,aF h.cats,a8 h.num]
def eY.enc(i:eY):List AV:=[a8 i.h.lv,aF i.h.cats,a8 i.h.num,aI i.n]
def zL.enc(s:zL):List AV:=[a8 s.f.h.lv,aF s.f.h.cats,a8 s.f.h.num,aI s.f.n,aI s.many]
end Go.Ab
namespace Go.Proofs.YtdbiffjdomokfaaGreat
open Go.Ab Go.ChangeShapes Go.WideShapes Go.RowKit
theorem own:ownKnob Tryz.prog.godebug=none:=by kernel_rfl
theorem kids:Kids Tryz.prog (· < Tryz.prog.types.size):=kids_rows (by kernel_rfl) (by kernel_rfl)
end Go.Proofs.YtdbiffjdomokfaaGreat
namespace Go.Proofs.YtdbiffjdomokfaaGreat
open Go.Ab Go.ChangeShapes Go.WideShapes Go.RowKit
theorem VA:env.Ok (yI env):=IL FD (by kernel_rfl) Ra (fun f t h=>by cases h) (fun f args H y H' h=>by
 have h:wG f args H=some (y,H'):=h
 unfold wG at h
 split at h
 ·rename_i e;subst e;exact Nw h
 ·cases h)
end Go.Proofs.YtdbiffjdomokfaaGreat
