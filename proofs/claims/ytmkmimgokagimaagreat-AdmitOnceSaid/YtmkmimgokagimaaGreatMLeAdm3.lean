/-
  What fits counts once: the mathematics. No statement of a seat is proved here.
-/
import Derived.Test.YtmkmimgokagimaaGreatMLeSame
import Derived.Test.YtmkmimgokagimaaGreatMLeOnce3
import Derived.Test.YtmkmimgokagimaaGreatLeAdm2
set_option linter.unusedVariables false
set_option linter.unusedSimpArgs false
set_option linter.unusedSectionVars false
set_option linter.unnecessarySimpa false
set_option maxRecDepth 100000
namespace Go.Proofs.YtmkmimgokagimaaGreat
open Go.Ab
end Go.Proofs.YtmkmimgokagimaaGreat
namespace Go.Proofs.YtmkmimgokagimaaGreat
open Go.Ab
theorem EP(us0:List Clear)(qs:List Quota)(gr0:Int)(l2:List (Rcd × AV)) : ∀(l:List (Rcd × AV)) (b:Book),ofB us0 qs gr0 b (l++l2)=(ofB us0 qs gr0 b l).bind fun b'=>ofB us0 qs gr0 b' l2
 | [],b=>rfl
 | q :: l,b=>by
  simp only[List.cons_append,ofB]
  split
  ·exact EP us0 qs gr0 l2 l _
  ·rfl
def useK(b:Book)(v:Lab):Use:=useD (bE v b.used)
def nk(h:Han)(l:List (Rcd × AV)):Int:=l.foldl (fun s p=>if p.1.kind=2∧p.1.op.h=h then p.1.op.serial else s) 0
theorem DM(h:Han)(l:List (Rcd × AV))(p:Rcd × AV):nk h (l++[p])=if p.1.kind=2∧p.1.op.h=h then p.1.op.serial else nk h l:=by
 simp[nk]
structure Ser (l:List (Rcd × AV)) (b:Book):Prop where
 ser : ∀h:Han,(sesD (bE h b.ses)).s=nk h l∧((sesD (bE h b.ses)).o=false→nk h l=0)
 up : ∀h:Han,0≤nk h l∧nk h l<16777216 ∧∀p∈l,p.1.kind=2→p.1.op.h=h→p.1.op.serial≤nk h l
section
variable{us0:List Clear}{qs:List Quota}{gr0:Int}{l:List (Rcd × AV)}{b:Book}{p:Rcd × AV}(h:Ser l b)(his:iI p.1=true)
include h his
theorem Ser.two(k2:p.1.kind=2)(hf:DS us0 qs gr0 b p.1=true):Ser (l++[p]) (doOp b p.1.op p.1.code (lQ p.2))∧p.1.op.serial=nk p.1.op.h l+1:=by
 simp only[DS,Bool.and_eq_true,decide_eq_true_eq]at hf
 obtain⟨ho,_,hsr,hlt,hcode⟩:=hf
 have hop:opB p.1.op=true:=by
  unfold iI at his
  rw[if_neg (by rw[k2];decide),if_pos k2]at his
  simp only[Bool.and_eq_true]at his
  exact his.2.1
 have hser:1≤p.1.op.serial∧p.1.op.serial<16777216:=by
  simp only[opB,Bool.and_eq_true,decide_eq_true_eq]at hop
  exact⟨hop.2.1,hop.2.2.1⟩
 have hs0:=(h.ser p.1.op.h).1
 have hup:=h.up p.1.op.h
 have hsw:p.1.op.serial=nk p.1.op.h l+1:=by
  rw[hsr]
  show IntKind.i64.wrap ((sesD (bE p.1.op.h b.ses)).s+1)=_
  rw[hs0]
  exact IntWalk.i64_in _ (by omega)
 refine⟨?_,hsw⟩
 have hls : ∀h':Han,nk h' (l++[p])=if h'=p.1.op.h then p.1.op.serial else nk h' l:=fun h'=>by
  rw[DM]
  by_cases e:h'=p.1.op.h
  ·subst e;rw[if_pos ⟨k2,rfl⟩,if_pos rfl]
  ·rw[if_neg (fun hh=>e hh.2.symm),if_neg e]
 refine⟨fun h'=>?_,fun h'=>?_⟩
 ·rw[hls]
  show(sesD (bE h' (setK p.1.op.h (Ses.av { nG b p.1.op with s:=IntKind.i64.wrap ((nG b p.1.op).s+1)}) b.ses))).s=_∧((sesD (bE h' (setK p.1.op.h (Ses.av { nG b p.1.op with s:=IntKind.i64.wrap ((nG b p.1.op).s+1)}) b.ses))).o=false→_)
  by_cases e:h'=p.1.op.h
  ·subst e
   rw[pb,yY,if_pos rfl]
   refine⟨hsr.symm,fun hh=>?_⟩
   simp only at hh
   rw[hh]at ho
   cases ho
  ·rw[ur e,if_neg e]
   exact h.ser h'
 ·rw[hls]
  by_cases e:h'=p.1.op.h
  ·subst e
   rw[if_pos rfl]
   refine⟨by omega,by omega,fun q hq hk he=>?_⟩
   rcases List.mem_append.1 hq with hq | hq
   ·have:=hup.2.2 q hq hk he;omega
   ·rw[List.mem_singleton]at hq;subst hq;exact Int.le_refl _
  ·rw[if_neg e]
   refine⟨(h.up h').1,(h.up h').2.1,fun q hq hk he=>?_⟩
   rcases List.mem_append.1 hq with hq | hq
   ·exact(h.up h').2.2 q hq hk he
   ·rw[List.mem_singleton]at hq;subst hq;exact absurd he.symm e
theorem Ser.step(hf:oy us0 qs gr0 b p.1=true):Ser (l++[p]) (doR b p):=by
 unfold oy at hf
 unfold doR
 have hother:p.1.kind≠2→(∀h',nk h' (l++[p])=nk h' l) ∧∀h':Han,0≤nk h' l∧nk h' l<16777216 ∧∀q∈l++[p],q.1.kind=2→q.1.op.h=h'→q.1.op.serial≤nk h' l:=by
  intro k2
  refine⟨fun h'=>by rw[DM,if_neg (fun hh=>k2 hh.1)],fun h'=>⟨(h.up h').1,(h.up h').2.1,fun q hq hk he=>?_⟩⟩
  rcases List.mem_append.1 hq with hq | hq
  ·exact(h.up h').2.2 q hq hk he
  ·rw[List.mem_singleton]at hq;subst hq;exact absurd hk k2
 by_cases k1:p.1.kind=1
 ·rw[if_pos k1]at hf ⊢
  obtain⟨hls,hup⟩:=hother (by rw[k1];decide)
  simp only[Fb,Bool.and_eq_true,Bool.not_eq_true']at hf
  refine⟨fun h'=>?_,fun h'=>by rw[hls];exact hup h'⟩
  rw[hls]
  show(sesD (bE h' (setK p.1.op.h (Ses.av ⟨true,p.1.user,0⟩) b.ses))).s=nk h' l∧((sesD (bE h' (setK p.1.op.h (Ses.av ⟨true,p.1.user,0⟩) b.ses))).o=false→nk h' l=0)
  by_cases e:h'=p.1.op.h
  ·subst e
   rw[pb,yY]
   exact⟨((h.ser p.1.op.h).2 hf.1).symm,fun h=>by cases h⟩
  ·rw[ur e]
   exact h.ser h'
 ·rw[if_neg k1]at hf ⊢
  by_cases k2:p.1.kind=2
  ·rw[if_pos k2]at hf ⊢
   exact(h.two his k2 hf).1
  ·rw[if_neg k2]
   obtain⟨hls,hup⟩:=hother k2
   exact⟨fun h'=>by rw[hls];exact h.ser h',fun h'=>by rw[hls];exact hup h'⟩
end
theorem Iz{us0:List Clear}{qs:List Quota}{gr0:Int} : ∀(s l:List (Rcd × AV)) (b b':Book),Ser l b→ofB us0 qs gr0 b s=some b'→Ser (l++s) b'
 | [],l,b,b',h,he=>by simp[ofB]at he;subst he;simpa using h
 | p :: s,l,b,b',h,he=>by
  unfold ofB at he
  split at he
  ·rename_i hc
   have:=Iz s (l++[p]) (doR b p) b' (h.step hc.1 hc.2) he
   simpa using this
  ·cases he
theorem ser0(us0:List Clear)(gr0:Int):Ser [] (yn us0 gr0):=⟨fun h=>⟨rfl,fun _=>rfl⟩,fun h=>⟨by simp[nk],by simp[nk],fun p hp=>by cases hp⟩⟩
section
variable{us0:List Clear}{qs:List Quota}{gr0:Int}{l:List (Rcd × AV)}{b:Book}(ho:ofA us0 qs gr0 l=some b)
include ho
theorem Js:polB us0 qs gr0=true∧l.length≤2048∧ofB us0 qs gr0 (yn us0 gr0) l=some b:=by
 unfold ofA at ho
 split at ho
 ·rename_i h;exact⟨h.1,h.2,ho⟩
 ·cases ho
theorem Jr:Ser l b:=by
 obtain⟨h1,_,h3⟩:=Js ho
 have:=Iz l [] _ b (ser0 us0 gr0) h3
 simpa using this
theorem So{k:Nat}(hk:k<l.length):iI (l[k]).1=true∧((l[k]).1.kind=2→(l[k]).1.op.serial=nk (l[k]).1.op.h (l.take k)+1∧(∀p∈l.take k,p.1.kind=2→p.1.op.h=(l[k]).1.op.h→p.1.op.serial≤nk (l[k]).1.op.h (l.take k))):=by
 obtain⟨h1,h2,h3⟩:=Js ho
 have hs:l=l.take k++(l[k] :: l.drop (k+1)):=by rw[←List.drop_eq_getElem_cons hk,List.take_append_drop]
 rw[hs,EP]at h3
 cases e:ofB us0 qs gr0 (yn us0 gr0) (l.take k) with
 | none=>rw[e]at h3;cases h3
 | some b1 =>
  rw[e,Option.bind_some,ofB]at h3
  split at h3
  ·rename_i hc
   have hI:=Iz (l.take k) [] _ b1 (ser0 us0 gr0) e
   rw[List.nil_append]at hI
   refine⟨hc.1,fun k2=>⟨?_,(hI.up (l[k]).1.op.h).2.2⟩⟩
   have hf:=hc.2
   unfold oy at hf
   rw[if_neg (by rw[k2];decide),if_pos k2]at hf
   exact(hI.two hc.1 k2 hf).2
  ·cases h3
end
end Go.Proofs.YtmkmimgokagimaaGreat
namespace Go.Proofs.YtmkmimgokagimaaGreat
open Go.Ab
attribute [local simp] bj aL aF bg bf keep thr bx aT bc da cZ cJ bD aD bM List.take_of_length_le
theorem G3{r:Rcd}(h:iI r=true)(k2:r.kind=2):hY r.op.h=true:=by
 unfold iI at h
 rw[if_neg (by rw[k2];decide),if_pos k2]at h
 simp only[Bool.and_eq_true]at h
 have:=h.2.1
 simp only[opB,Bool.and_eq_true]at this
 exact this.1
theorem Mp{us:List Clear}{qs:List Quota}{gr:Int}{l:List (Rcd × AV)}{b:Book}(ho:ofA us qs gr l=some b){k:Nat}(hk:k<l.length)(k2:(l[k]).1.kind=2) :
 ta us qs gr l (l[k]).1.op.h (l[k]).1.op.serial = .tup [aI (l[k]).1.code,aI 0]:=by
 obtain⟨hI,hs⟩:=So ho hk
 obtain⟨h1,h2⟩:=hs k2
 unfold ta
 rw[ho]
 dsimp only
 rw[if_pos (G3 hI k2)]
 unfold qN
 have hsp:l.map twR=(l.take k).map twR++(twR l[k] :: (l.drop (k+1)).map twR):=by
  rw[←List.map_cons,←List.map_append,←List.drop_eq_getElem_cons hk,List.take_append_drop]
 have hno:((l.take k).map twR).find? (isOp (l[k]).1.op.h (l[k]).1.op.serial)=none:=by
  rw[List.find?_eq_none]
  intro q hq
  obtain⟨p,hp,rfl⟩:=List.mem_map.1 hq
  unfold isOp
  simp only[Bool.and_eq_true,decide_eq_true_eq]
  rintro⟨e1,e2,e3⟩
  have:=h2 p hp e1 e2
  have e3':p.1.op.serial=(l[k]).1.op.serial:=e3
  omega
 have hyes:isOp (l[k]).1.op.h (l[k]).1.op.serial (twR l[k])=true:=by
  unfold isOp
  simp only[Bool.and_eq_true,decide_eq_true_eq]
  exact⟨k2,rfl,rfl⟩
 rw[hsp,List.find?_append,hno,Option.none_or,List.find?_cons,hyes]
 rfl
end Go.Proofs.YtmkmimgokagimaaGreat
namespace Go.Proofs.YtmkmimgokagimaaGreat
open Go.Ab
attribute [local simp] bj aL aF bg bf keep thr bx aT bc da cZ cJ bD aD bM List.take_of_length_le
attribute [local simp] Am bsO dz
structure Rul where
 code:Int
 write:Bool
 r:Rcd
 x:AV
def zRcd:Rcd:=⟨0,0,HU,0,0,0,0,false⟩
def Rul.av(u:Rul):AV := .agg [aI u.code,aB u.write,a8 u.r.kind,aI u.r.user,a8 u.r.op.kind,a8 u.r.op.h.lv,a32 u.r.op.h.cats,a8 u.r.op.h.num,aI u.r.op.serial,a8 u.r.op.s.f.h.lv,a32 u.r.op.s.f.h.cats,a8 u.r.op.s.f.h.num,aI u.r.op.s.f.n,aI u.r.op.s.many,
 a8 u.r.op.a.h.lv,a32 u.r.op.a.h.cats,a8 u.r.op.a.h.num,aI u.r.op.a.n,a8 u.r.op.to.lv,a32 u.r.op.to.cats,u.x,aI u.r.code,aI u.r.gu,a8 u.r.gv,a32 u.r.gc,aB u.r.gok]
def oA(e:Int):Rul:=⟨e,false,zRcd,aNil⟩
theorem qw(e:Int):(oA e).av=b8 e:=rfl
def mT(h:Han)(user:Int):Rcd:=⟨1,user, { HU with h:=h},0,0,0,0,false⟩
def LQ(us:List Clear)(qs:List Quota)(gr:Int)(b:Book)(h:Han)(user:Int):Rul :=
 if !kS b qs user h.lv h.cats||((sesD (bE h b.ses)).o && !decide ((sesD (bE h b.ses)).u=user)) then oA 230 else if (sesD (bE h b.ses)).o then oA 0 else if (ir us qs gr h.lv h.cats).opens≤(useK b ⟨h.lv,h.cats⟩).opens then oA 9 else ⟨0,true,mT h user,aNil⟩
def EM(us:List Clear)(qs:List Quota)(gr:Int)(l:List (Rcd × AV))(h:Han)(user:Int):Rul × Int:=match ofA us qs gr l with
 | none=>(oA 0,8)
 | some b=>if hY h=true∧0≤user∧user≤255 then (LQ us qs gr b h user,0) else (oA 0,8)
def opR(o:Opn)(c:Int):Rcd:=⟨2,0,o,c,0,0,0,false⟩
def subU(us:List Clear)(qs:List Quota)(gr:Int)(l:List (Rcd × AV))(b:Book)(h:Han)(o:Opn)(x:AV):Rul :=
 if !decide (o.h=h)||decide (-1∈o.l) then oA 8 else if !(sesD (bE h b.ses)).o || !kS b qs (sesD (bE h b.ses)).u h.lv h.cats then oA 230 else if o.serial≤(sesD (bE h b.ses)).s then oA (fstI (ta us qs gr l h o.serial))
 else if (sesD (bE h b.ses)).s+1<o.serial then oA 231 else if (ir us qs gr h.lv h.cats).ops≤(useK b ⟨h.lv,h.cats⟩).ops then oA 9 else ⟨bw us qs gr b o,true,opR o (bw us qs gr b o),lQ x⟩
def subA(us:List Clear)(qs:List Quota)(gr:Int)(l:List (Rcd × AV))(h:Han)(o:Opn)(x:AV):Rul × Int:=match ofA us qs gr l with
 | none=>(oA 0,8)
 | some b=>if hY h=true∧opB o=true then (subU us qs gr l b h o x,0) else (oA 0,8)
section
variable{xu xq:AV}{us:List Clear}{qs:List Quota}{gr:Int}(hu:Sl 3 (eN us) xu)(hq:Sl 5 (eQ qs) xq)(hul:us.length<1000000)(hql:qs.length<1000000){l:List (Rcd × AV)}{x1:AV}(hx:Sl 24 (dX l) x1)(hall : ∀p∈l,okRc p)
include hu hq hul hql hx hall
theorem Jt{b:Book}(ho:ofA us qs gr l=some b):b.us.length<1000000:=by
 obtain⟨y,H2,hO,hA⟩:=s_Of (gr:=gr) hu hq hul hql hx hall 0 Fr.nil
 rw[ho]at hA
 obtain⟨rb,rs,ru,rk,xh,xr,rfl,hI,hok⟩:=hA
 exact hok.few
theorem MV(h_1:UInt8)(h_2:UInt32)(h_3:UInt8)(user:Int):limf env 49 [.agg [xu,xq,aI gr],x1,.agg [a8 h_1,a32 h_2,a8 h_3],aI user]=some (.tup [(EM us qs gr l ⟨h_1,h_2,h_3⟩ user).1.av,aI (EM us qs gr l ⟨h_1,h_2,h_3⟩ user).2]):=by
 obtain⟨y,hO,hy⟩:=MT (gr:=gr) hu hq hul hql hx hall h_1 h_2 h_3
 have r3:=hu.r
 have r4:=hq.r
 have r5:=hx.r
 have t1:=yZ 230
 have t2:=yZ 0
 have t3:=yZ 9
 unfold adOf at hy
 unfold EM
 cases ho:ofA us qs gr l with
 | none =>
  rw[ho]at hy
  subst hy
  clear hu hq hx hall ho
  dsimp only
  rw[qw]
  unfold b8 stA at *
  refine aw (fn:=Tryz.f49) (c:=jh) rfl (by kernel_rfl) (by kernel_rfl) (by kernel_rfl) (by kernel_rfl) ?_;refine kM _ _ _ _ _ _ fun g=>?_
  simp[af,ah,ad,ae,ab, *,ji]
 | some b =>
  have hfew:=Jt hu hq hul hql hx hall ho
  rw[ho]at hy
  dsimp only at hy ⊢
  cases hh:hY ⟨h_1,h_2,h_3⟩ with
  | false =>
   rw[hh]at hy
   simp only[Bool.false_eq_true,if_false]at hy
   rw[if_neg (fun h=>by cases h.1)]
   subst hy
   clear hu hq hx hall ho
   dsimp only
   rw[qw]
   unfold b8 stA at *
   refine aw (fn:=Tryz.f49) (c:=jh) rfl (by kernel_rfl) (by kernel_rfl) (by kernel_rfl) (by kernel_rfl) ?_;refine kM _ _ _ _ _ _ fun g=>?_
   simp[af,ah,ad,ae,ab, *,ji]
  | true =>
   rw[hh,if_pos rfl]at hy
   obtain⟨wu,wq,hwu,hwq,rfl⟩:=hy
   have r1:=hwu.r
   have r2:=hwq.r
   by_cases hlo:user<0
   ·rw[if_neg (fun h=>by omega)]
    dsimp only
    rw[qw]
    clear hu hq hx hall ho hwu hwq hh
    unfold b8 stA at *
    refine aw (fn:=Tryz.f49) (c:=jh) rfl (by kernel_rfl) (by kernel_rfl) (by kernel_rfl) (by kernel_rfl) ?_;refine kM _ _ _ _ _ _ fun g=>?_
    simp[af,ah,ad,ae,ab, *,ji]
   ·by_cases hhi:255<user
    ·rw[if_neg (fun h=>by omega)]
     dsimp only
     rw[qw]
     clear hu hq hx hall ho hwu hwq hh
     unfold b8 stA at *
     refine aw (fn:=Tryz.f49) (c:=jh) rfl (by kernel_rfl) (by kernel_rfl) (by kernel_rfl) (by kernel_rfl) ?_;refine kM _ _ _ _ _ _ fun g=>?_
     simp[af,ah,ad,ae,ab, *,ji]
    ·rw[if_pos ⟨rfl,by omega,by omega⟩]
     dsimp only
     have hM:=fun so su ss ua ub uc ud ue qa qb qc qd qe=>IJ hwu hwq hfew hql so su ss b.gr ua ub uc ud ue qa qb qc qd qe user h_1 h_2
     have hF:=fun so su ss ua ub uc ud ue qa qb qc qd qe may c=>K9 hwu hwq so su ss b.gr ua ub uc ud ue qa qb qc qd qe may user h_1 h_2 h_3 c
     have hU:Dh b h_1 h_2=⟨h_1,h_2,(useK b ⟨h_1,h_2⟩).opens,(useK b ⟨h_1,h_2⟩).ops,(useK b ⟨h_1,h_2⟩).cells⟩:=rfl
     have hav:(LQ us qs gr b ⟨h_1,h_2,h_3⟩ user).av=if !kS b qs user h_1 h_2||((sesD (bE ⟨h_1,h_2,h_3⟩ b.ses)).o && !decide ((sesD (bE ⟨h_1,h_2,h_3⟩ b.ses)).u=user)) then b8 230 else if (sesD (bE ⟨h_1,h_2,h_3⟩ b.ses)).o then b8 0 else if (ir us qs gr h_1 h_2).opens≤(useK b ⟨h_1,h_2⟩).opens then b8 9 else .agg [aI 0,aB true,a8 1,aI user,a8 0,a8 h_1,a32 h_2,a8 h_3,aI 0,a8 0,a32 0,a8 0,aI 0,aI 0,a8 0,a32 0,a8 0,aI 0,a8 0,a32 0,aNil,aI 0,aI 0,a8 0,a32 0,aB false]:=by
      unfold LQ
      dsimp only
      split
      ·rfl
      ·split
       ·rfl
       ·split
        ·rfl
        ·rfl
     rw[hav]
     rw[hU]at hO
     unfold kS
     clear hu hq hx hall ho hwu hwq hh hav hU
     generalize sesD (bE ⟨h_1,h_2,h_3⟩ b.ses)=s at *
     generalize useK b ⟨h_1,h_2⟩=u at *
     try dsimp only at *
     generalize ir us qs gr h_1 h_2=q at *
     generalize (decide (o5 b.us qs b.gr h_1=0)&&nQ b.us user h_1 h_2)=mn at *
     obtain⟨s1,s2,s3⟩:=s
     obtain⟨u1,u2,u3⟩:=u
     obtain⟨q1,q2,q3,q4,q5⟩:=q
     try dsimp only at *
     generalize hyy:(if (!mn||s1 && !decide (s2=user))=true then b8 230 else if s1=true then b8 0 else if q3≤u1 then b8 9 else .agg [aI 0,aB true,a8 1,aI user,a8 0,a8 h_1,a32 h_2,a8 h_3,aI 0,a8 0,a32 0,a8 0,aI 0,aI 0,a8 0,a32 0,a8 0,aI 0,a8 0,a32 0,aNil,aI 0,aI 0,a8 0,a32 0,aB false])=yy
     have hF':=fun c=>(hF s1 s2 s3 h_1 h_2 u1 u2 u3 q1 q2 q3 q4 q5 mn c).trans (by rw[hyy])
     have hyv : ∃x3 x4 x5 x6 x7 x8 x9 x10 x11,yy = .agg [aI x3,aB x4,a8 x5,aI x6,a8 0,a8 x7,a32 x8,a8 x9,aI 0,a8 0,a32 0,a8 0,aI 0,aI 0,a8 0,a32 0,a8 0,aI 0,a8 0,a32 0,aNil,aI 0,aI 0,a8 x10,a32 x11,aB false]:=by
      rw[←hyy]
      unfold b8
      split
      ·exact⟨230,false,0,0,0,0,0,0,0,rfl⟩
      ·split
       ·exact⟨0,false,0,0,0,0,0,0,0,rfl⟩
       ·split
        ·exact⟨9,false,0,0,0,0,0,0,0,rfl⟩
        ·exact⟨0,true,1,user,h_1,h_2,h_3,0,0,rfl⟩
     obtain⟨x3,x4,x5,x6,x7,x8,x9,x10,x11,rfl⟩:=hyv
     clear hF hyy
     unfold stA at hO
     refine aw (fn:=Tryz.f49) (c:=jh) rfl (by kernel_rfl) (by kernel_rfl) (by kernel_rfl) (by kernel_rfl) ?_;refine kM _ _ _ _ _ _ fun g=>?_
     simp[af,ah,ad,ae,ab, *,ji]
end
end Go.Proofs.YtmkmimgokagimaaGreat
