/-
  What the library's Insert does to a row of the call's own, whatever room there is. No statement of a seat is proved here.
-/
import Derived.Test.YtiidajnodhkidaaGreatRows
import Derived.Test.YtiidajnodhkidaaGreatAbsIns
set_option linter.unusedVariables false
set_option linter.unusedSimpArgs false
set_option maxRecDepth 1000000
namespace Go.Proofs.YtiidajnodhkidaaGreat.ins
open Go.Ab
noncomputable def env:Env:=E8 Tryz.prog [112] [] [112] (fun _=>false) (fun _=>[]) (fun _=>false) [] (fun _=>true) (fun f=>if f=150 then some 22 else none)
theorem Ko:MQ env [112]=true:=by kernel_rfl
theorem Tg:Ao Tryz.prog 150 22:=⟨Tryz.f150,4,by kernel_rfl,by kernel_rfl,by kernel_rfl,by kernel_rfl,by kernel_rfl⟩
theorem MY:env.Ok (Dr env):=Kv F5 (by kernel_rfl) Ko (fun f t h=>by
 split at h
 ·rename_i e;subst e;cases h;exact Tg
 ·cases h) (fun f args H y H' h=>by cases h)
@[simp] theorem Oz:bm env.P 3=(some 1):=by kernel_rfl
@[simp] theorem Sq:tagg env.P 3=(some false):=by kernel_rfl
@[simp] theorem Ov:fF env.P 3=(some (.v (.int .i64 0))):=by kernel_rfl
@[simp] theorem PL:mK env.P 3=(some 1):=by kernel_rfl
@[simp] theorem PO:isInt env.P 3=true:=by kernel_rfl
@[simp] theorem J2:intKind env.P 3=(some .i64):=by kernel_rfl
@[simp] theorem R0:(env.P.underlying 3).isNone=false:=by kernel_rfl
@[simp] theorem Oy:bm env.P 4=(some 1):=by kernel_rfl
@[simp] theorem Sp:tagg env.P 4=(some false):=by kernel_rfl
@[simp] theorem PK:mK env.P 4=(some 0):=by kernel_rfl
@[simp] theorem MG:isBool env.P 4=true:=by kernel_rfl
@[simp] theorem Ox:bm env.P 5=(some 1):=by kernel_rfl
@[simp] theorem So:tagg env.P 5=(some false):=by kernel_rfl
@[simp] theorem PJ:mK env.P 5=(some 1):=by kernel_rfl
@[simp] theorem J1:intKind env.P 5=(some .u8):=by kernel_rfl
@[simp] theorem RZ:(env.P.underlying 5).isNone=false:=by kernel_rfl
@[simp] theorem Li:bm env.P 22=(some 1):=by kernel_rfl
@[simp] theorem OF:tagg env.P 22=(some false):=by kernel_rfl
@[simp] theorem FI:eA env.P 22=(some 78):=by kernel_rfl
@[simp] theorem OC:tarr env.P 22=none:=by kernel_rfl
@[simp] theorem MD:isStr env.P 22=false:=by kernel_rfl
@[simp] theorem Uh:apT env.P 22=true:=by kernel_rfl
@[simp] theorem QL:elOk env.P 22=true:=by kernel_rfl
@[simp] theorem TZ:elZ env.P 22=2:=by kernel_rfl
@[simp] theorem QN:elBy env.P 22=32:=by kernel_rfl
@[simp] theorem Kx:gq env.P 22=(.agg [(.v (.int .i64 0)),(.v (.slice none 0 0))]):=by kernel_rfl
@[simp] theorem Lh:bm env.P 76=(some 1):=by kernel_rfl
@[simp] theorem OE:tagg env.P 76=(some false):=by kernel_rfl
@[simp] theorem Lk:eA env.P 76=(some 5):=by kernel_rfl
@[simp] theorem OB:tarr env.P 76=none:=by kernel_rfl
@[simp] theorem MC:isStr env.P 76=false:=by kernel_rfl
@[simp] theorem Ug:apT env.P 76=true:=by kernel_rfl
@[simp] theorem QK:elOk env.P 76=true:=by kernel_rfl
@[simp] theorem TY:elZ env.P 76=1:=by kernel_rfl
@[simp] theorem QM:elBy env.P 76=1:=by kernel_rfl
@[simp] theorem Kw:gq env.P 76=(a8 0):=by kernel_rfl
@[simp] theorem MF:dm env.P 76=true:=by kernel_rfl
@[simp] theorem FE:bm env.P 78=(some 2):=by kernel_rfl
@[simp] theorem Iq:tagg env.P 78=(some true):=by kernel_rfl
@[simp] theorem OA:tarr env.P 78=none:=by kernel_rfl
@[simp] theorem Lg:fF env.P 78=(some (.agg [(.v (.int .i64 0)),(.v (.slice none 0 0))])):=by kernel_rfl
@[simp] theorem Ip:kr env.P 78=(some 32):=by kernel_rfl
@[simp] theorem xW:fD env.P 78=(some [3,76]):=by kernel_rfl
@[simp] theorem Jy:fk env.P 78=(some [(0,1),(1,1)]):=by kernel_rfl
@[simp] theorem EU:aJ env.P 78 0=(some (0,1)):=by kernel_rfl
@[simp] theorem ET:aJ env.P 78 1=(some (1,1)):=by kernel_rfl
noncomputable def Oa:Code:=(Tryz.f112.body).getD .skip
def Tp:Nat→Option (List Nat):=fun i=>none
def T4:Nat→Bool:=fun i=>false
def KU(dep:Nat)(g:Nat→AV)(x0 x1 x2:AV)(H:Heap)(Q:AV→Heap→Prop):Prop :=
 doQ (jg env.P (Heap.get H) 22 (some x0) (oi x1) (some none) (some none)) fun v1 =>
 doQ (aw env.P false (Heap.get H) (⟨(dep+1),14,Heap.gen H (dep+1) 14,0⟩:Ref) .len #[22] [x2]) fun v2 =>
 doQ (qBin env.P .eql 3 (.tmp 15) (.const (.int .i64 0)) (some v2) (some (.v (.int .i64 0)))) fun v3 =>
 br (some v3) (
  Q x0 H) (
  doQ (aw env.P false (Heap.get H) (⟨(dep+1),19,Heap.gen H (dep+1) 19,0⟩:Ref) .len #[22] [x0]) fun v4 =>
  doQ (qBin env.P .eql 3 (.tmp 20) (.tmp 21) (some x1) (some v4)) fun v5 =>
  br (some v5) (
   doW (cE env.P true H (⟨(dep+1),25,Heap.gen H (dep+1) 25,0⟩:Ref) (some 22) (some 22) x0 x2) fun v6 H1 =>
   Q v6 H1) (
   doQ (qBin env.P .add 3 (.tmp 26) (.tmp 27) (some v4) (some v2)) fun v6 =>
   doQ (aw env.P false (Heap.get H) (⟨(dep+1),30,Heap.gen H (dep+1) 30,0⟩:Ref) .cap #[22] [x0]) fun v7 =>
   doQ (qBin env.P .gtr 3 (.tmp 28) (.tmp 30) (some v6) (some v7)) fun v8 =>
   br (some v8) (
    doQ (jg env.P (Heap.get H) 22 (some x0) (some none) (oi x1) (some none)) fun v9 =>
    doQ (qBin env.P .add 3 (.tmp 35) (.tmp 36) (some v4) (some v2)) fun v10 =>
    doQ (qBin env.P .sub 3 (.tmp 37) (.tmp 38) (some v10) (some x1)) fun v11 =>
    doW (cE env.P true H (⟨(dep+1),40,Heap.gen H (dep+1) 40,0⟩:Ref) (some 22) (some 3) v9 v11) fun v12 H1 =>
    doQ (jg env.P (Heap.get H1) 22 (some v12) (oi x1) (some none) (some none)) fun v13 =>
    doW (qx env.P H1 (some 22) v13 x2) fun v14 H2 =>
    doQ (qBin env.P .add 3 (.tmp 47) (.tmp 48) (some x1) (some v2)) fun v15 =>
    doQ (cu env.P (Heap.get H2) 22 (some v12) (oi v15) (some none) (some none)) fun v16 =>
    doQ (cu env.P (Heap.get H2) 22 (some x0) (oi x1) (some none) (some none)) fun v17 =>
    doW (qx env.P H2 (some 22) v16 v17) fun v18 H3 =>
    Q v12 H3) (
    doQ (qBin env.P .add 3 (.tmp 57) (.tmp 58) (some v4) (some v2)) fun v9 =>
    doQ (jg env.P (Heap.get H) 22 (some x0) (some none) (oi v9) (some none)) fun v10 =>
    doQ (qBin env.P .add 3 (.tmp 63) (.tmp 64) (some x1) (some v2)) fun v11 =>
    doQ (jg env.P (Heap.get H) 22 (some v10) (oi v11) (some none) (some none)) fun v12 =>
    doQ (Ep env.P (Heap.get H) 22 [x2,v12]) fun v13 =>
    doQ (qUn env.P .not (some v13)) fun v14 =>
    br (some v14) (
     doQ (qBin env.P .add 3 (.tmp 70) (.tmp 71) (some x1) (some v2)) fun v15 =>
     doQ (cu env.P (Heap.get H) 22 (some v10) (oi v15) (some none) (some none)) fun v16 =>
     doQ (cu env.P (Heap.get H) 22 (some v10) (oi x1) (some none) (some none)) fun v17 =>
     doW (qx env.P H (some 22) v16 v17) fun v18 H1 =>
     doQ (jg env.P (Heap.get H1) 22 (some v10) (oi x1) (some none) (some none)) fun v19 =>
     doW (qx env.P H1 (some 22) v19 x2) fun v20 H2 =>
     Q v10 H2) (
     doQ (jg env.P (Heap.get H) 22 (some v10) (oi v4) (some none) (some none)) fun v15 =>
     doW (qx env.P H (some 22) v15 x2) fun v16 H1 =>
     doQ (jg env.P (Heap.get H1) 22 (some v10) (oi x1) (some none) (some none)) fun v17 =>
     doW (cl env true (limf env) (limt env (dep+1)) H1 (⟨(dep+1),93,Heap.gen H1 (dep+1) 93,0⟩:Ref) (some (.fn (.func 151) [] [])) [v17,v2]) fun v18 H2 =>
     Q v10 H2))))
theorem RY(dep:Nat)(x0 x1 x2:AV)(H:Heap)(Q:AV→Heap→Prop)(h : ∀g,KU dep g x0 x1 x2 H Q):GoL env Tryz.f112 (dep+1) [.code Oa] [(0,x0),(1,x1),(2,x2)] H Q:=⟨fun g=>bn (live:=Tp) (cut:=T4) (n:=500) (Eq.mp (by kernel_rfl) (h g))⟩
attribute [local simp] ct jg qx Ep
theorem run(r rv:Ref)(n:Nat)(i:Int)(cv:Option Nat)(b bv:Blk)(v:AV)(z by' c:Nat)(H:Heap)(hok:J6 Tryz.prog 22 H r n i rv b bv v z by')(hc:n≤c)(hX:H.get (insX 40 H r)=none) :
 ∃y' Hc,limt env r.d (.fn 112) [.osl r 0 n (some c),.v (.int .i64 i),.osl rv 0 1 cv] H=some (y',Hc) ∧
  (
   (y' = .osl r 0 (n+1) (some c)∧Hc=H.put r (some { b with es:=kC b.es i.toNat v})) ∨
   (y' = .osl (insX 40 H r) 0 (n+1) none∧Hc=(insX 40 H r,some { b with es:=kC b.es i.toNat v}) :: H)):=by
 obtain⟨h1,h2,h3,h4,h5,h6,h7,h8,h9,h10,h11,h12,h13,h14,h15,h16,h17⟩:=hok
 obtain⟨i,rfl⟩:=Int.eq_ofNat_of_zero_le h15
 refine rD (fn:=Tryz.f112) (c:=Oa) (by kernel_rfl) (by kernel_rfl) (by kernel_rfl) (by kernel_rfl) (by kernel_rfl) ?_
 refine RY _ _ _ _ _ _ fun g=>?_
 obtain⟨bz,es,ba,bf⟩:=b
 obtain⟨bvz,bves,bva,bvf⟩:=bv
 simp only at h5 h6 h7 h8 h9 h12 h14
 have hz:z=2:=by
  have:(eA env.P 22).bind (bm env.P)=some z:=h3
  simpa using this.symm
 have hby:by'=32:=by
  have:(eA env.P 22).bind (kr env.P)=some by':=h4
  simpa using this.symm
 subst hz hby h5 h6 h7 h8 h9 h12
 subst h14
 clear h3 h4 h10 h11 h15
 have hroom:(es.length+1) * 32≤140737488355328:=h17
 have hcap : ∀(c:Nat)(rr:Ref)(g:Get),aw env.P false g rr .cap #[22] [.osl r 0 es.length (some c)]=some (aI c,[]):=fun c rr g=>by
  simp[aw,qCap]
 have hi:i<es.length:=by omega
 have c1 : ¬(i:Int)=es.length:=by omega
 have c2:i≤es.length:=by omega
 have w1:=IntWalk.i64_in ((es.length:Int)+1) (by omega)
 have w2:=IntWalk.i64_in ((es.length:Int)+1 - i) (by omega)
 have w3:=IntWalk.i64_in ((i:Int)+1) (by omega)
 have h13':=h13.symm
 by_cases hfit:es.length+1≤c
 ·have c3 : ¬(c:Int)<(es.length:Int)+1:=by omega
  have c4:(es.length:Int)+1≤c:=by omega
  have c5:(i:Int)+1≤(es.length:Int)+1:=by omega
  have hp:=J3 (es:=es) rfl hi v
  have m1:(es.length+1 - i).min (es.length - i)=es.length - i:=Nat.min_eq_right (by omega)
  have m2:Nat.min 1 (es.length+1 - i)=1:=Nat.min_eq_left (by omega)
  have d1:(0:Int)≤(es.length:Int)+1:=by omega
  have d2:(0:Int)≤(i:Int)+1:=by omega
  have d3:(i:Int)≤(es.length:Int)+1:=by omega
  have d4:i+1≤es.length:=by omega
  have d5:i+(es.length - i)≤es.length:=by omega
  have d6:i≤min (i+1) es.length+(es.length - i+(es.length - (i+1+(es.length - i)))):=by omega
  simp only[List.append_assoc]at hp
  simp[af,ah,ad,ae,aa, *,KU,Pt]
  refine⟨by omega,?_⟩
  have q1:(es.drop i).take (es.length - i)=es.drop i:=List.take_of_length_le (by simp)
  have q2:es.drop (i+1+(es.length - i))=[]:=List.drop_of_length_le (by omega)
  have q3 : ∀l,(es.take (i+1)++l).take i=es.take i:=fun l=>by
   rw[List.take_append_of_le_length (by rw[List.length_take];omega),List.take_take,Nat.min_eq_left (by omega)]
  rw[q1,q2,q3,List.append_nil]
  rfl
 ·have c3:(c:Int)<(es.length:Int)+1:=by omega
  have hg:=J4 (es:=es) rfl hi v (.agg [aI 0,aNil])
  have hap:=Fw (P:=env.P) (t:=22) (t':=3) (by kernel_rfl) (by kernel_rfl) (by kernel_rfl) (H:=H) (r:=⟨r.d+1,40,H.gen (r.d+1) 40,0⟩) (q:=r) (b:=⟨2,es,true,false⟩) h1 (by kernel_rfl) rfl 0 i c (es.length+1 - i) (by simp;omega) (by omega) (by simp[cN];omega) (by omega) (by rw[show elBy env.P 22=32 from by kernel_rfl];simp only[cN];omega)
  rw[show(((es.length+1 - i:Nat)):Int)=(es.length:Int)+1 - i from by omega,show i+(es.length+1 - i)=es.length+1 from by omega,show elZ env.P 22=2 from by kernel_rfl,show gq env.P 22 = .agg [aI 0,aNil] from by kernel_rfl]at hap
  have d0:i≤c:=by omega
  unfold insX at hX
  obtain⟨X,hXe⟩ : ∃X:Ref,X=⟨r.d+1,40,H.gen (r.d+1) 40,0⟩:=⟨_,rfl⟩
  have x1:X≠r:=by rw[hXe];intro e;rw[e,h1]at hX;cases hX
  have x2:X≠rv:=by rw[hXe];intro e;rw[e,h2]at hX;cases hX
  have x3:r≠X:=fun e=>x1 e.symm
  have x4:rv≠X:=fun e=>x2 e.symm
  unfold insX
  simp only[←hXe]at hap hX ⊢
  have m2:Nat.min 1 (es.length+1 - i)=1:=Nat.min_eq_left (by omega)
  have m3:(es.length - i).min (es.length+1 - (i+1))=es.length - i:=Nat.min_eq_left (by omega)
  have m4:(es.length - i).min (es.length - i)=es.length - i:=Nat.min_self _
  have d1:(0:Int)≤(es.length:Int)+1:=by omega
  have d2:(0:Int)≤(i:Int)+1:=by omega
  have d3:(i:Int)≤(es.length:Int)+1:=by omega
  have d5:(i:Int)+1≤(es.length:Int)+1:=by omega
  have d6:i≤es.length:=by omega
  have d7:i≤i+(es.length+1 - i):=by omega
  have d8:(i:Int)≤es.length:=by omega
  simp(maxSteps:=2000000) [af,ah,ad,ae,aa,m2,m3,m4,h1,h2,hX,hap,x1,x2,x3,x4,hcap,c1,c2,c3,w1,w2,w3,hc,hi,d0,d1,d2,d3,d5,d6,d7,d8,KU,←hXe]
  have q1:(es.drop i).take (es.length - i)=es.drop i:=List.take_of_length_le (by simp)
  obtain⟨R,hR⟩ : ∃R,R=List.drop (i+1) (List.take i es++List.replicate (es.length+1 - i) (AV.agg [aI 0,aNil])):=⟨_,rfl⟩
  have hRl:R.length=es.length - i:=by rw[hR];simp;omega
  have q0:(es.take i).length=i:=by rw[List.length_take];omega
  have q2:List.drop (i+1+(es.length - i)) (es.take i++v :: R)=[]:=List.drop_of_length_le (by simp;omega)
  have q3:List.take (i+1) (es.take i++v :: R)=es.take i++[v]:=by
   rw[show es.take i++v :: R=(es.take i++[v])++R from by simp,List.take_append_of_le_length (by simp;omega),List.take_of_length_le (by simp;omega)]
  rw[←hR,q1,q2,q3,List.append_nil]
  simp[kC]
theorem PS(r rv:Ref)(n:Nat)(i:Int)(cv:Option Nat)(b bv:Blk)(v:AV)(z by' c:Nat)(H:Heap)(hok:J6 Tryz.prog 22 H r n i rv b bv v z by')(hc:n≤c)(hX:H.get (insX 40 H r)=none)(hg:r.g<H.gen r.d r.t) :
 ∃y' Hc,oK Tryz.prog (.fn 112) [.osl r 0 n (some c),.v (.int .i64 i),.osl rv 0 1 cv] H y' Hc ∧
  (
   (y' = .osl r 0 (n+1) (some c)∧Hc=H.put r (some { b with es:=kC b.es i.toNat v})) ∨
   (y' = .osl (insX 40 H r) 0 (n+1) none∧Hc=(insX 40 H r,some { b with es:=kC b.es i.toNat v}) :: H)):=by
 obtain⟨y',Hc,h,hf⟩:=run r rv n i cv b bv v z by' c H hok hc hX
 obtain⟨m,hm⟩:=pA.1 h
 exact⟨y',Hc,uS MY (CM MY m) (hm m (Nat.le_refl _)),hf⟩
theorem J5(args:List AV)(H:Heap)(y:AV)(H':Heap)(h:qQ Tryz.prog 22 40 args H=some (y,H')):oK Tryz.prog (.fn 112) args H y H' :=
 Ht ⟨Tryz.f112,by kernel_rfl,by kernel_rfl,by kernel_rfl⟩ (fun r rv n i cv b bv v z by' c h1 h2 h3 h4=>PS r rv n i cv b bv v z by' c H h1 h2 h3 h4) h
end Go.Proofs.YtiidajnodhkidaaGreat.ins
