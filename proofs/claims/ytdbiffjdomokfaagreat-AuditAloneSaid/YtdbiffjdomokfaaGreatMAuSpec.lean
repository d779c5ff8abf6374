/-
  A call that makes one channel and leaves all else as it was. No statement of a seat is proved here.
-/
import Derived.Test.YtdbiffjdomokfaaGreatAbsRules
import Derived.Test.YtdbiffjdomokfaaGreatRows
set_option linter.unusedVariables false
set_option linter.unusedSimpArgs false
set_option linter.unusedSectionVars false
set_option linter.unnecessarySimpa false
namespace Go.Ab
section
variable{P:Program}{M:Mem}{ι:Map}{w:World}
theorem Od{H H3:ab}{M1:Mem}{ι1:Map}{w3:World}{r:Ref}{lr:Loc}{cap s t:Nat}{buf:List AV}{arr:Array Value}(hS:fh M ι H.get w)(hD:pB ι H)(hk0:r.k=0)(hg:r.g=H.gen r.d r.t)
 (hS3:fh M1 ι1 H3.get w3) (hF3:pA M ι H.get w M1 ι1 H3.get w3) (hD3:pB ι1 H3) (hr:ι1 r=some lr) (hz:lr.esz=0) {cl:Bool} {f:Bool} (hb:H3.get r=some ⟨0,.v (.bool false) :: .v (.int .i64 cap) :: .v (.bool cl) :: buf,false,f⟩)
 (hh:w3.heap[lr.b]?=some (.chan cap arr cl s t false)) (hsz:arr.size=buf.length) (hel : ∀(i:Nat) x u,buf[i]?=some x→arr[i]?=some u→VR M1 ι1 x u) (hfl : ∀x∈buf,flat depth x=true)
 (hk : ∀q k,H.get q=some k→H3.get q=some k) :
 qI M ι H w (.ch r) (keyed r 0 [gG cap true buf] H) (.chan (some lr.b)) (bW w3 lr.b (.chan cap arr true s t false)):=by
 have hlt:lr.b<w3.heap.size:=(Array.getElem?_eq_some_iff.1 hh).1
 obtain⟨k1,k2,k3⟩:=pg hS3 hD3 hr hz hb (k':=gG cap true buf) (o' := .chan cap arr true s t false) (.inr (.inr ⟨cap,s,t,true,buf,arr,rfl,rfl,rfl,eI hlt,hsz,hel⟩))
 have hF4:=hF3.trans k2
 have hir:ι r=none:=by
  have:=hD.fresh r.d r.t r.k
  rw[←hg]at this
  exact this
 have hle : ∀q l,ι q=some l→gp ι r lr q=some l:=yb hir
 have hle1 : ∀q l,gp ι r lr q=some l→ι1 q=some l:=by
  intro q l h
  unfold gp at h
  split at h
  ·rename_i e;subst e;cases h;exact hr
  ·exact hF3.map q l h
 have hget:(keyed r 0 [gG cap true buf] H).get=iz H.get r (gG cap true buf):=by rw[ab.ju,mG _ _ hk0]
 have h4 : ∀q k,iz H.get r (gG cap true buf) q=some k→(H3.put r (some (gG cap true buf))).get q=some k:=by
  intro q k h
  rw[ab.get_put]
  unfold iz at h
  split at h
  ·rename_i e;rw[if_pos e];exact h
  ·rename_i e;rw[if_neg e];exact hk q k h
 refine⟨M1,gp ι r lr,.ch (by simp[gp]) hz,?_,?_,?_⟩
 ·rw[hget]
  refine⟨k1.mem,fun q k h=>?_,fun q q' k k' l l' h h' hl hl' e=>k1.inj q q' k k' l l' (h4 q k h) (h4 q' k' h') (hle1 q l hl) (hle1 q' l' hl') e⟩
  by_cases e:q=r
  ·subst e
   have h':=h4 q k h
   rw[ab.get_put,if_pos rfl]at h'
   cases h'
   obtain⟨l2,hl2,hb2⟩:=k1.live q _ (h4 q _ h)
   rw[hr]at hl2;cases hl2
   refine⟨lr,by simp[gp],kU.Mz (.inr (.inr ⟨cap,s,t,true,buf,arr,rfl,rfl,rfl,eI hlt,hsz,fun i x u hx hu=>wy depth x u (hfl x (List.mem_of_getElem? hx)) (hel i x u hx hu)⟩)) hz fun o x hx=>?_⟩
   have:=(hb2.frozen o x hx).2
   simp[gG]at this
  ·have h1:H.get q=some k:=by simpa [iz,e] using h
   obtain⟨l,hl,hb0⟩:=hS.live q k h1
   obtain⟨l2,hl2,hb2⟩:=k1.live q k (h4 q k h)
   have h3:=hF4.map q l hl
   rw[h3]at hl2;cases hl2
   have h5:=hb0.cut hb2 hF4.map
   exact⟨l,hle q l hl,h5.cV (fun _ _ _ h=>h) hle rfl h5.frozen⟩
 ·rw[hget]
  exact⟨hF4.os,hF4.tape,hF4.output,hF4.size,hF4.chg,hF4.mem,hle,fun q k l h hl=>hF4.live q k l (h4 q k h) (hle1 q l hl),hF4.new⟩
 ·intro q l h
  rw[ab.ja]
  unfold gp at h
  split at h
  ·rename_i e
   subst e
   simp
  ·have h2:=hD q l h
   split
   ·rename_i hc
    rw[hc.1,hc.2.1]at h2
    rw[hg];omega
   ·exact h2
end
end Go.Ab
namespace Go.Proofs.YtdbiffjdomokfaaGreat
open Go.Ab
def nI:AV→Option (Option AV)
 | .agg [.v (.int .u8 k),x1,x2,x3,x4,x5,x6,x7,x8,x9,x10,x11,x12,x13,x14,x15,x16,x17,x18,x19,x20,x21,x22,x23]=>if (0≤k∧k<256)∧flat depth (.agg [x3,x4,x5,x6,x19])=true∧[x1,x2,x3,x4,x5,x6,x7,x8,x9,x10,x11,x12,x13,x14,x15,x16,x17,x18,x19,x20,x21,x22,x23].all AV.one=true then some (if k=3 then none else some (.agg [x3,x4,x5,x6,x19])) else none
 | _=>none
def eK(H:ab):Ref:=⟨40,8,H.gen 40 8,0⟩
def sD(x:AV):Option (List AV):=match x with
 | .cw 24 es _=>if es.length≤1000 then some es else none
 | .v (.slice none 0 0)=>some []
 | _=>none
def yj(args:List AV)(H:ab):Option (AV × ab):=match args with
 | [x]=>(match sD x with
  | some es=>(match es.mapM nI with
   | some l=>some (.ch (eK H),keyed (eK H) 0 [gG es.length true (l.filterMap id)] H)
   | none=>none)
  | none=>none)
 | _=>none
def yi(f:FuncId)(args:List AV)(H:ab):Option (AV × ab):=if f=23 then yj args H else none
end Go.Proofs.YtdbiffjdomokfaaGreat
