/-
  What is granted to a handle that asks: what is answered to an operation. No statement of a seat is proved here.
-/
import Derived.Test.YtmkmimgokagimaaGreatMLeAdm3
import Derived.Test.YtmkmimgokagimaaGreatMLeSame
set_option linter.unusedVariables false
set_option linter.unusedSimpArgs false
set_option linter.unusedSectionVars false
set_option linter.unnecessarySimpa false
set_option maxRecDepth 100000
namespace Go.Proofs.YtmkmimgokagimaaGreat
open Go.Ab
attribute [local simp] bj aL aF bg bf keep thr bx aT bc da cZ cJ bD aD bM List.take_of_length_le
attribute [local simp] Am bsO dz
section
variable{xu xq:AV}{us:List Clear}{qs:List Quota}{gr:Int}(hu:Sl 3 (eN us) xu)(hq:Sl 5 (eQ qs) xq)(hul:us.length<1000000)(hql:qs.length<1000000){l:List (Rcd × AV)}{x1:AV}(hx:Sl 24 (dX l) x1)(hall : ∀p∈l,okRc p)
include hu hq hul hql hx hall
theorem RH{b:Book}(ho:ofA us qs gr l=some b)(h:Han):0≤(sesD (bE h b.ses)).s∧(sesD (bE h b.ses)).s<16777216:=by
 have hI:=Jr ho
 rw[(hI.ser h).1]
 exact⟨(hI.up h).1,(hI.up h).2.1⟩
theorem F0(h_1:UInt8)(h_2:UInt32)(h_3:UInt8)(a_1:UInt8)(a_2:UInt8)(a_3:UInt32)(a_4:UInt8)(a_5:Int)(a_6:UInt8)(a_7:UInt32)(a_8:UInt8)(a_9:Int)(a_10:Int)(a_11:UInt8)(a_12:UInt32)(a_13:UInt8)(a_14:Int)(a_15:UInt8)(a_16:UInt32){x:AV}{al:List Int}(hax:Sl 1 (rows al) x)(hal:al.length<1000000):limf env 52 [.agg [xu,xq,aI gr],x1,.agg [a8 h_1,a32 h_2,a8 h_3],.agg [a8 a_1,a8 a_2,a32 a_3,a8 a_4,aI a_5,a8 a_6,a32 a_7,a8 a_8,aI a_9,aI a_10,a8 a_11,a32 a_12,a8 a_13,aI a_14,a8 a_15,a32 a_16,x]]=some (.tup [(subA us qs gr l ⟨h_1,h_2,h_3⟩ (⟨a_1,⟨a_2,a_3,a_4⟩,a_5,⟨⟨⟨a_6,a_7,a_8⟩,a_9⟩,a_10⟩,⟨⟨a_11,a_12,a_13⟩,a_14⟩,⟨a_15,a_16⟩,al⟩:Opn) x).1.av,aI (subA us qs gr l ⟨h_1,h_2,h_3⟩ (⟨a_1,⟨a_2,a_3,a_4⟩,a_5,⟨⟨⟨a_6,a_7,a_8⟩,a_9⟩,a_10⟩,⟨⟨a_11,a_12,a_13⟩,a_14⟩,⟨a_15,a_16⟩,al⟩:Opn) x).2]):=by
 obtain⟨y,hO,hy⟩:=MT (gr:=gr) hu hq hul hql hx hall h_1 h_2 h_3
 have hC:=iN a_1 a_2 a_3 a_4 a_5 a_6 a_7 a_8 a_9 a_10 a_11 a_12 a_13 a_14 a_15 a_16 hax (by omega)
 have r3:=hu.r
 have r4:=hq.r
 have r5:=hx.r
 have r6:=hax.r
 have t1:=yZ 8
 have t2:=yZ 230
 have t3:=yZ 231
 have t4:=yZ 9
 unfold adOf at hy
 cases ho:ofA us qs gr l with
 | none =>
  have hs:subA us qs gr l ⟨h_1,h_2,h_3⟩ (⟨a_1,⟨a_2,a_3,a_4⟩,a_5,⟨⟨⟨a_6,a_7,a_8⟩,a_9⟩,a_10⟩,⟨⟨a_11,a_12,a_13⟩,a_14⟩,⟨a_15,a_16⟩,al⟩:Opn) x=(oA 0,8):=by unfold subA;rw[ho]
  rw[hs]
  rw[ho]at hy
  subst hy
  clear hu hq hx hall ho hax hs
  dsimp only
  rw[qw]
  unfold b8 stA at *
  refine aw (fn:=Tryz.f52) (c:=gB) rfl (by kernel_rfl) (by kernel_rfl) (by kernel_rfl) (by kernel_rfl) ?_;refine iL _ _ _ _ _ _ fun g=>?_
  simp[af,ah,ad,ae,ab, *,gH]
 | some b =>
  have hfew:=Jt hu hq hul hql hx hall ho
  have hso:=RH hu hq hul hql hx hall ho ⟨h_1,h_2,h_3⟩
  rw[ho]at hy
  dsimp only at hy
  cases hh:hY ⟨h_1,h_2,h_3⟩ with
  | false =>
   have hs:subA us qs gr l ⟨h_1,h_2,h_3⟩ (⟨a_1,⟨a_2,a_3,a_4⟩,a_5,⟨⟨⟨a_6,a_7,a_8⟩,a_9⟩,a_10⟩,⟨⟨a_11,a_12,a_13⟩,a_14⟩,⟨a_15,a_16⟩,al⟩:Opn) x=(oA 0,8):=by unfold subA;rw[ho];dsimp only;rw[if_neg (fun h=>by rw[hh]at h;cases h.1)]
   rw[hs]
   rw[hh]at hy
   simp only[Bool.false_eq_true,if_false]at hy
   subst hy
   clear hu hq hx hall ho hax hs
   dsimp only
   rw[qw]
   unfold b8 stA at *
   refine aw (fn:=Tryz.f52) (c:=gB) rfl (by kernel_rfl) (by kernel_rfl) (by kernel_rfl) (by kernel_rfl) ?_;refine iL _ _ _ _ _ _ fun g=>?_
   simp[af,ah,ad,ae,ab, *,gH]
  | true =>
   rw[hh,if_pos rfl]at hy
   obtain⟨wu,wq,hwu,hwq,rfl⟩:=hy
   have r1:=hwu.r
   have r2:=hwq.r
   cases hop:opB (⟨a_1,⟨a_2,a_3,a_4⟩,a_5,⟨⟨⟨a_6,a_7,a_8⟩,a_9⟩,a_10⟩,⟨⟨a_11,a_12,a_13⟩,a_14⟩,⟨a_15,a_16⟩,al⟩:Opn) with
   | false =>
    have hs:subA us qs gr l ⟨h_1,h_2,h_3⟩ (⟨a_1,⟨a_2,a_3,a_4⟩,a_5,⟨⟨⟨a_6,a_7,a_8⟩,a_9⟩,a_10⟩,⟨⟨a_11,a_12,a_13⟩,a_14⟩,⟨a_15,a_16⟩,al⟩:Opn) x=(oA 0,8):=by unfold subA;rw[ho];dsimp only;rw[if_neg (fun h=>by rw[hop]at h;cases h.2)]
    rw[hs]
    rw[hop]at hC
    dsimp only
    rw[qw]
    clear hu hq hx hall ho hwu hwq hh hax hs hop
    unfold b8 stA bad at *
    refine aw (fn:=Tryz.f52) (c:=gB) rfl (by kernel_rfl) (by kernel_rfl) (by kernel_rfl) (by kernel_rfl) ?_;refine iL _ _ _ _ _ _ fun g=>?_
    simp[af,ah,ad,ae,ab, *,gH]
   | true =>
    have hs:subA us qs gr l ⟨h_1,h_2,h_3⟩ (⟨a_1,⟨a_2,a_3,a_4⟩,a_5,⟨⟨⟨a_6,a_7,a_8⟩,a_9⟩,a_10⟩,⟨⟨a_11,a_12,a_13⟩,a_14⟩,⟨a_15,a_16⟩,al⟩:Opn) x=(subU us qs gr l b ⟨h_1,h_2,h_3⟩ (⟨a_1,⟨a_2,a_3,a_4⟩,a_5,⟨⟨⟨a_6,a_7,a_8⟩,a_9⟩,a_10⟩,⟨⟨a_11,a_12,a_13⟩,a_14⟩,⟨a_15,a_16⟩,al⟩:Opn) x,0):=by unfold subA;rw[ho];dsimp only;rw[if_pos ⟨hh,hop⟩]
    rw[hs]
    rw[hop]at hC
    dsimp only
    have hv:verA us qs gr l (⟨a_1,⟨a_2,a_3,a_4⟩,a_5,⟨⟨⟨a_6,a_7,a_8⟩,a_9⟩,a_10⟩,⟨⟨a_11,a_12,a_13⟩,a_14⟩,⟨a_15,a_16⟩,al⟩:Opn) = .tup [aI (bw us qs gr b (⟨a_1,⟨a_2,a_3,a_4⟩,a_5,⟨⟨⟨a_6,a_7,a_8⟩,a_9⟩,a_10⟩,⟨⟨a_11,a_12,a_13⟩,a_14⟩,⟨a_15,a_16⟩,al⟩:Opn)),aI 0]:=by unfold verA;rw[ho];dsimp only;rw[if_pos hop]
    have hF:=fun so su ss ua ub uc ud ue qa qb qc qd qe (hw:IntKind.i64.wrap (ss+1)=ss+1) c=>K8 (gr:=gr) hu hq hul hql hx hall hwu hwq hfew so su ss b.gr ua ub uc ud ue qa qb qc qd qe hw h_1 h_2 h_3 a_1 a_2 a_3 a_4 a_5 a_6 a_7 a_8 a_9 a_10 a_11 a_12 a_13 a_14 a_15 a_16 hax hal hv c
    have hU:Dh b h_1 h_2=⟨h_1,h_2,(useK b ⟨h_1,h_2⟩).opens,(useK b ⟨h_1,h_2⟩).ops,(useK b ⟨h_1,h_2⟩).cells⟩:=rfl
    rw[hU]at hO
    have hav:(subU us qs gr l b ⟨h_1,h_2,h_3⟩ (⟨a_1,⟨a_2,a_3,a_4⟩,a_5,⟨⟨⟨a_6,a_7,a_8⟩,a_9⟩,a_10⟩,⟨⟨a_11,a_12,a_13⟩,a_14⟩,⟨a_15,a_16⟩,al⟩:Opn) x).av=if !decide ((⟨a_2,a_3,a_4⟩:Han)=⟨h_1,h_2,h_3⟩)||decide (-1∈al) then b8 8 else if !(sesD (bE ⟨h_1,h_2,h_3⟩ b.ses)).o || !(decide (o5 b.us qs b.gr h_1=0)&&nQ b.us (sesD (bE ⟨h_1,h_2,h_3⟩ b.ses)).u h_1 h_2) then b8 230 else if a_5≤(sesD (bE ⟨h_1,h_2,h_3⟩ b.ses)).s then b8 (fstI (ta us qs gr l ⟨h_1,h_2,h_3⟩ a_5)) else if (sesD (bE ⟨h_1,h_2,h_3⟩ b.ses)).s+1<a_5 then b8 231 else if (ir us qs gr h_1 h_2).ops≤(useK b ⟨h_1,h_2⟩).ops then b8 9 else .agg [aI (bw us qs gr b (⟨a_1,⟨a_2,a_3,a_4⟩,a_5,⟨⟨⟨a_6,a_7,a_8⟩,a_9⟩,a_10⟩,⟨⟨a_11,a_12,a_13⟩,a_14⟩,⟨a_15,a_16⟩,al⟩:Opn)),aB true,a8 2,aI 0,a8 a_1,a8 a_2,a32 a_3,a8 a_4,aI a_5,a8 a_6,a32 a_7,a8 a_8,aI a_9,aI a_10,a8 a_11,a32 a_12,a8 a_13,aI a_14,a8 a_15,a32 a_16,lQ x,aI (bw us qs gr b (⟨a_1,⟨a_2,a_3,a_4⟩,a_5,⟨⟨⟨a_6,a_7,a_8⟩,a_9⟩,a_10⟩,⟨⟨a_11,a_12,a_13⟩,a_14⟩,⟨a_15,a_16⟩,al⟩:Opn)),aI 0,a8 0,a32 0,aB false]:=by
     unfold subU kS
     dsimp only
     split
     ·rfl
     ·split
      ·rfl
      ·split
       ·rfl
       ·split
        ·rfl
        ·split
         ·rfl
         ·rfl
    rw[hav]
    obtain⟨yt,hyt,hyts,_⟩:=zb a_1 a_2 a_3 a_4 a_5 a_6 a_7 a_8 a_9 a_10 a_11 a_12 a_13 a_14 a_15 a_16 hax hal
    have htx:lQ x=aNil ∨∃es c,lQ x=AV.isl 1 es c:=by
     rw[←hyt]
     rcases hyts with ⟨rfl,_⟩ | ⟨c,rfl,_⟩
     ·exact .inl rfl
     ·exact .inr ⟨_,_,rfl⟩
    clear hu hq hx hall ho hwu hwq hh hax hs hop hav hU hv hyt hyts
    generalize sesD (bE ⟨h_1,h_2,h_3⟩ b.ses)=s at *
    generalize useK b ⟨h_1,h_2⟩=u at *
    try dsimp only at *
    generalize ir us qs gr h_1 h_2=q at *
    generalize bw us qs gr b (⟨a_1,⟨a_2,a_3,a_4⟩,a_5,⟨⟨⟨a_6,a_7,a_8⟩,a_9⟩,a_10⟩,⟨⟨a_11,a_12,a_13⟩,a_14⟩,⟨a_15,a_16⟩,al⟩:Opn)=ve at *
    generalize fstI (ta us qs gr l ⟨h_1,h_2,h_3⟩ a_5)=ce at *
    generalize lQ x=tx at *
    obtain⟨s1,s2,s3⟩:=s
    obtain⟨u1,u2,u3⟩:=u
    obtain⟨q1,q2,q3,q4,q5⟩:=q
    try dsimp only at *
    have hw:IntKind.i64.wrap (s3+1)=s3+1:=IntWalk.i64_in _ (by omega)
    have hF':=hF s1 s2 s3 h_1 h_2 u1 u2 u3 q1 q2 q3 q4 q5 hw
    clear hF hso hw
    generalize (!decide ((⟨a_2,a_3,a_4⟩:Han)=⟨h_1,h_2,h_3⟩)||decide (-1∈al))=b1 at *
    generalize (decide (o5 b.us qs b.gr h_1=0)&&nQ b.us s2 h_1 h_2)=b2 at *
    have hyv : ∃x3 x4 x5 x6 c2 c3 c4 c5 c6 c7 c8 c9 c10 c11 c12 c13 c14 c15 c16 c17 c1 z,(z=aNil ∨∃es c,z=AV.isl 1 es c) ∧
     (if b1=true then b8 8 else if (!s1 || !b2)=true then b8 230 else if a_5≤s3 then b8 ce else if s3+1<a_5 then b8 231 else if q4≤u2 then b8 9 else .agg [aI ve,aB true,a8 2,aI 0,a8 a_1,a8 a_2,a32 a_3,a8 a_4,aI a_5,a8 a_6,a32 a_7,a8 a_8,aI a_9,aI a_10,a8 a_11,a32 a_12,a8 a_13,aI a_14,a8 a_15,a32 a_16,tx,aI ve,aI 0,a8 0,a32 0,aB false]) = .agg [aI x3,aB x4,a8 x5,aI x6,a8 c1,a8 c2,a32 c3,a8 c4,aI c5,a8 c6,a32 c7,a8 c8,aI c9,aI c10,a8 c11,a32 c12,a8 c13,aI c14,a8 c15,a32 c16,z,aI c17,aI 0,a8 0,a32 0,aB false]:=by
     have hc : ∀e:Int,b8 e = .agg [aI e,aB false,a8 0,aI 0,a8 0,a8 0,a32 0,a8 0,aI 0,a8 0,a32 0,a8 0,aI 0,aI 0,a8 0,a32 0,a8 0,aI 0,a8 0,a32 0,aNil,aI 0,aI 0,a8 0,a32 0,aB false]:=fun e=>rfl
     have key : ∀e:Int,∃x3 x4 x5 x6 c2 c3 c4 c5 c6 c7 c8 c9 c10 c11 c12 c13 c14 c15 c16 c17 c1 z,(z=aNil ∨∃es c,z=AV.isl 1 es c)∧b8 e = .agg [aI x3,aB x4,a8 x5,aI x6,a8 c1,a8 c2,a32 c3,a8 c4,aI c5,a8 c6,a32 c7,a8 c8,aI c9,aI c10,a8 c11,a32 c12,a8 c13,aI c14,a8 c15,a32 c16,z,aI c17,aI 0,a8 0,a32 0,aB false]:=fun e =>
      ⟨e,false,0,0,0,0,0,0,0,0,0,0,0,0,0,0,0,0,0,0,0,aNil,.inl rfl,rfl⟩
     split
     ·exact key 8
     ·split
      ·exact key 230
      ·split
       ·exact key ce
       ·split
        ·exact key 231
        ·split
         ·exact key 9
         ·exact⟨ve,true,2,0,a_2,a_3,a_4,a_5,a_6,a_7,a_8,a_9,a_10,a_11,a_12,a_13,a_14,a_15,a_16,ve,a_1,tx,htx,rfl⟩
    obtain⟨x3,x4,x5,x6,c2,c3,c4,c5,c6,c7,c8,c9,c10,c11,c12,c13,c14,c15,c16,c17,c1,z,hz,hyy⟩:=hyv
    rw[hyy]at hF' ⊢
    clear hyy htx
    unfold stA at hO
    have hb0:bad true=0:=rfl
    rcases hz with rfl | ⟨es,c,rfl⟩
    ·refine aw (fn:=Tryz.f52) (c:=gB) rfl (by kernel_rfl) (by kernel_rfl) (by kernel_rfl) (by kernel_rfl) ?_;refine iL _ _ _ _ _ _ fun g=>?_
     simp[af,ah,ad,ae,ab, *,gH]
    ·refine aw (fn:=Tryz.f52) (c:=gB) rfl (by kernel_rfl) (by kernel_rfl) (by kernel_rfl) (by kernel_rfl) ?_;refine iL _ _ _ _ _ _ fun g=>?_
     simp[af,ah,ad,ae,ab, *,gH]
end
end Go.Proofs.YtmkmimgokagimaaGreat
namespace Go.Proofs.YtmkmimgokagimaaGreat
open Go.Ab
theorem JO(ops:List (Opn × AV))(ents:List (Idd × AV))(o:Opn):0≤zK ops ents o∧zK ops ents o<10:=by
 unfold zK fp wm BA
 repeat' split
 all_goals omega
theorem C9(us:List Clear)(qs:List Quota)(gr:Int)(b:Book)(o:Opn):0≤bw us qs gr b o∧bw us qs gr b o<10:=by
 have hd:0≤nY b.hist o∧nY b.hist o<10:=by
  unfold nY
  split
  ·omega
  ·split
   ·unfold docE
    have:=JO
    split
    ·omega
    ·exact this _ _ _
   ·omega
 unfold bw
 repeat' split
 all_goals omega
theorem G2{h:Han}{user:Int}(hh:hY h=true)(h0:0≤user)(h1:user≤255):iI (mT h user)=true:=by
 unfold iI
 have hw:HW (mT h user)=mT h user:=rfl
 rw[if_pos (show(mT h user).kind=1 from rfl),hw,wi,Bool.and_true]
 simp only[Bool.and_eq_true,decide_eq_true_eq]
 exact⟨⟨h0,h1⟩,hh⟩
theorem OO(o:Opn)(c:Int) : ¬(opR o c).kind=1:=by show ¬((2:UInt8)=1);decide
theorem Lu{o:Opn}{c:Int}(ho:opB o=true)(hp : ¬(-1∈o.l))(h0:0≤c)(h1:c<65536):iI (opR o c)=true:=by
 unfold iI
 have hw:HW (opR o c)=opR o c:=rfl
 rw[if_neg (OO o c),if_pos (show(opR o c).kind=2 from rfl),hw,wi,Bool.and_true]
 simp only[Bool.and_eq_true,decide_eq_true_eq,Bool.not_eq_true',decide_eq_false_iff_not]
 exact⟨⟨⟨hp,h0⟩,h1⟩,ho⟩
section
variable{us:List Clear}{qs:List Quota}{gr:Int}{l:List (Rcd × AV)}(hl:l.length<2048)
include hl
theorem Gf(p:Rcd × AV):ofA us qs gr (l++[p])=(ofA us qs gr l).bind fun b=>if iI p.1=true∧oy us qs gr b p.1=true then some (doR b p) else none:=by
 unfold ofA
 by_cases hp:polB us qs gr=true
 ·rw[if_pos ⟨hp,by simp;omega⟩,if_pos ⟨hp,by omega⟩,EP]
  rfl
 ·rw[if_neg (fun h=>hp h.1),if_neg (fun h=>hp h.1)]
  rfl
theorem He(h:Han)(user:Int):(∃c e,EM us qs gr l h user=(oA c,e)) ∨
 ∃b,ofA us qs gr l=some b∧hY h=true∧EM us qs gr l h user=(⟨0,true,mT h user,aNil⟩,0)∧iI (mT h user)=true∧oy us qs gr b (mT h user)=true∧EM us qs gr (l++[(mT h user,aNil)]) h user=(oA 0,0):=by
 have hsn:=Gf (us:=us) (qs:=qs) (gr:=gr) hl (mT h user,aNil)
 unfold EM
 cases ho:ofA us qs gr l with
 | none=>exact .inl ⟨_,_,rfl⟩
 | some b =>
  dsimp only
  by_cases hc:hY h=true∧0≤user∧user≤255
  ·rw[if_pos hc]
   unfold LQ
   by_cases e1:(!kS b qs user h.lv h.cats||((sesD (bE h b.ses)).o && !decide ((sesD (bE h b.ses)).u=user)))=true
   ·rw[if_pos e1];exact .inl ⟨_,_,rfl⟩
   ·rw[if_neg e1]
    by_cases e2:(sesD (bE h b.ses)).o=true
    ·rw[if_pos e2];exact .inl ⟨_,_,rfl⟩
    ·rw[if_neg e2]
     by_cases e3:(ir us qs gr h.lv h.cats).opens≤(useK b ⟨h.lv,h.cats⟩).opens
     ·rw[if_pos e3];exact .inl ⟨_,_,rfl⟩
     ·rw[if_neg e3]
      right
      have hm:kS b qs user h.lv h.cats=true:=by
       cases hm:kS b qs user h.lv h.cats with
       | true=>rfl
       | false=>rw[hm]at e1;simp at e1
      have hI:=G2 hc.1 hc.2.1 hc.2.2
      have hf:oy us qs gr b (mT h user)=true:=by
       unfold oy Fb
       rw[if_pos (show(mT h user).kind=1 from rfl)]
       simp only[Bool.and_eq_true,decide_eq_true_eq,Bool.not_eq_true']
       have e2':(nG b (mT h user).op).o=false:=by show(sesD (bE h b.ses)).o=false;simpa using e2
       refine⟨e2',hm,?_⟩
       have:(s8 b (mT h user).op).opens=(useK b ⟨h.lv,h.cats⟩).opens:=rfl
       rw[this]
       have e3':(useK b ⟨h.lv,h.cats⟩).opens<(ir us qs gr h.lv h.cats).opens:=by omega
       exact e3'
      refine⟨b,rfl,hc.1,rfl,hI,hf,?_⟩
      rw[hsn,ho,Option.bind_some,if_pos ⟨hI,hf⟩]
      dsimp only
      rw[if_pos hc]
      have hd:doR b (mT h user,aNil)=tu b (mT h user).op user:=by
       unfold doR
       rw[if_pos (show(mT h user,aNil).1.kind=1 from rfl)]
       rfl
      rw[hd]
      have hs:sesD (bE h (tu b (mT h user).op user).ses)=⟨true,user,0⟩:=by
       show sesD (bE h (setK h (Ses.av ⟨true,user,0⟩) b.ses))=_
       rw[pb,yY]
      have hm2:kS (tu b (mT h user).op user) qs user h.lv h.cats=true:=hm
      rw[hs,hm2]
      rw[if_neg (by simp),if_pos rfl]
  ·rw[if_neg hc];exact .inl ⟨_,_,rfl⟩
theorem Io(h:Han)(o:Opn)(x:AV):(subA us qs gr l h o x=(oA 0,8))∨(∃c,subA us qs gr l h o x=(oA c,0)) ∨
 ∃b,ofA us qs gr l=some b∧o.h=h∧subA us qs gr l h o x=(⟨bw us qs gr b o,true,opR o (bw us qs gr b o),lQ x⟩,0)∧iI (opR o (bw us qs gr b o))=true∧oy us qs gr b (opR o (bw us qs gr b o))=true ∧
  ∀z,subA us qs gr (l++[(opR o (bw us qs gr b o),z)]) h o x=(oA (bw us qs gr b o),0):=by
 cases ho:ofA us qs gr l with
 | none=>left;unfold subA;rw[ho]
 | some b =>
  by_cases hc:hY h=true∧opB o=true
  ·have hs0:subA us qs gr l h o x=(subU us qs gr l b h o x,0):=by unfold subA;rw[ho];dsimp only;rw[if_pos hc]
   right
   rw[hs0]
   have hI0:=Jr ho
   have hsb:0≤(sesD (bE h b.ses)).s∧(sesD (bE h b.ses)).s<16777216:=by rw[(hI0.ser h).1];exact⟨(hI0.up h).1,(hI0.up h).2.1⟩
   unfold subU
   by_cases e1:(!decide (o.h=h)||decide (-1∈o.l))=true
   ·rw[if_pos e1];exact .inl ⟨_,rfl⟩
   rw[if_neg e1]
   by_cases e2:(!(sesD (bE h b.ses)).o || !kS b qs (sesD (bE h b.ses)).u h.lv h.cats)=true
   ·rw[if_pos e2];exact .inl ⟨_,rfl⟩
   rw[if_neg e2]
   by_cases e3:o.serial≤(sesD (bE h b.ses)).s
   ·rw[if_pos e3];exact .inl ⟨_,rfl⟩
   rw[if_neg e3]
   by_cases e4:(sesD (bE h b.ses)).s+1<o.serial
   ·rw[if_pos e4];exact .inl ⟨_,rfl⟩
   rw[if_neg e4]
   by_cases e5:(ir us qs gr h.lv h.cats).ops≤(useK b ⟨h.lv,h.cats⟩).ops
   ·rw[if_pos e5];exact .inl ⟨_,rfl⟩
   rw[if_neg e5]
   right
   simp only[Bool.or_eq_true,Bool.not_eq_true',decide_eq_false_iff_not,decide_eq_true_eq,not_or,Decidable.not_not]at e1
   obtain⟨rfl,hpl⟩:=e1
   have hso:(sesD (bE o.h b.ses)).o=true:=by
    cases hso:(sesD (bE o.h b.ses)).o with
    | true=>rfl
    | false=>rw[hso]at e2;simp at e2
   have hm:kS b qs (sesD (bE o.h b.ses)).u o.h.lv o.h.cats=true:=by
    cases hm:kS b qs (sesD (bE o.h b.ses)).u o.h.lv o.h.cats with
    | true=>rfl
    | false=>rw[hm]at e2;simp at e2
   have hser:o.serial=(sesD (bE o.h b.ses)).s+1:=by omega
   have hw:IntKind.i64.wrap ((sesD (bE o.h b.ses)).s+1)=(sesD (bE o.h b.ses)).s+1:=IntWalk.i64_in _ (by omega)
   have hvr:=C9 us qs gr b o
   have hI:=Lu hc.2 hpl hvr.1 (by omega)
   have hf:oy us qs gr b (opR o (bw us qs gr b o))=true:=by
    unfold oy DS
    rw[if_neg (OO o _),if_pos (show(opR o (bw us qs gr b o)).kind=2 from rfl)]
    simp only[Bool.and_eq_true,decide_eq_true_eq]
    refine⟨hso,hm,?_,?_,rfl⟩
    ·show o.serial=IntKind.i64.wrap ((sesD (bE o.h b.ses)).s+1)
     rw[hw];exact hser
    ·show(useK b ⟨o.h.lv,o.h.cats⟩).ops<(ir us qs gr o.h.lv o.h.cats).ops
     omega
   refine⟨b,rfl,rfl,rfl,hI,hf,fun z=>?_⟩
   have hsn:=Gf (us:=us) (qs:=qs) (gr:=gr) hl (opR o (bw us qs gr b o),z)
   rw[ho,Option.bind_some,if_pos ⟨hI,hf⟩]at hsn
   have hd:doR b (opR o (bw us qs gr b o),z)=doOp b o (bw us qs gr b o) (lQ z):=by
    unfold doR
    rw[if_neg (OO o _),if_pos (show(opR o (bw us qs gr b o),z).1.kind=2 from rfl)]
    rfl
   rw[hd]at hsn
   have hs2:sesD (bE o.h (doOp b o (bw us qs gr b o) (lQ z)).ses) = { nG b o with s:=IntKind.i64.wrap ((nG b o).s+1)}:=by
    show sesD (bE o.h (setK o.h (Ses.av { nG b o with s:=IntKind.i64.wrap ((nG b o).s+1)}) b.ses))=_
    rw[pb,yY]
   have hco:=Mp hsn (k:=l.length) (by simp) (by simp[opR])
   have hg:(l++[(opR o (bw us qs gr b o),z)])[l.length]'(by simp)=(opR o (bw us qs gr b o),z):=by simp
   rw[hg]at hco
   have hco':ta us qs gr (l++[(opR o (bw us qs gr b o),z)]) o.h o.serial = .tup [aI (bw us qs gr b o),aI 0]:=hco
   have hsub:subA us qs gr (l++[(opR o (bw us qs gr b o),z)]) o.h o x=(subU us qs gr (l++[(opR o (bw us qs gr b o),z)]) (doOp b o (bw us qs gr b o) (lQ z)) o.h o x,0):=by
    unfold subA;rw[hsn];dsimp only;rw[if_pos hc]
   rw[hsub]
   unfold subU
   rw[hs2,hco']
   have hm2:kS (doOp b o (bw us qs gr b o) (lQ z)) qs (nG b o).u o.h.lv o.h.cats=true:=hm
   have ho2:(nG b o).o=true:=hso
   have hs3:IntKind.i64.wrap ((nG b o).s+1)=o.serial:=by rw[hser];exact hw
   dsimp only
   rw[hm2,ho2,hs3,if_neg (by simp[hpl]),if_neg (by simp),if_pos (Int.le_refl _)]
   rfl
  ·left;unfold subA;rw[ho];dsimp only;rw[if_neg hc]
end
end Go.Proofs.YtmkmimgokagimaaGreat
