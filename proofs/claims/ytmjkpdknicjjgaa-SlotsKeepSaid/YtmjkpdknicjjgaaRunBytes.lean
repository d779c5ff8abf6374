/-
  Runes as bytes: what these functions answer. No statement of a seat is proved here.
-/
import Derived.Test.YtmjkpdknicjjgaaRunesFns
import Derived.Test.YtmjkpdknicjjgaaIdBytes
import Derived.Test.YtmjkpdknicjjgaaLgVc3
set_option linter.unusedVariables false
set_option linter.unusedSimpArgs false
set_option linter.unusedSectionVars false
set_option linter.unnecessarySimpa false
set_option maxRecDepth 100000
namespace Go.Proofs.Ytmjkpdknicjjgaa
open Go.Ab
attribute [local simp] cb bC bG bF keep thr cy bB bH eF eE bX cx aO cZ List.take_of_length_le
def de (l:List Int):List UInt8:=l.flatMap fun n=>be 4 n
theorem mo (l:List Int):(de l).length=4 * l.length:=by
 induction l with
 | nil=>rfl
 | cons n l ih=>show (be 4 n++de l).length=_;rw [List.length_append,ih,yR,List.length_cons];omega
theorem Hz {l:List Int} {x13:AV} (hx:Sl 1 (rows l) x13) (hl:l.length<100000) (hR : ∀n∈l, -2147483648≤n∧n≤2147483647) {Q:AV→Heap→Prop} :
 ∀(s:List Int) (k:Nat) (i:Int) (acc:List Int) (x5:AV) (H:Heap),l.drop k=s→k≤l.length→i=k→acc.length=k→Fr H→tU [32] 1 (by8 (de acc)) H x5→(acc=[]→x5=aNil) →
 (∀y H',tU [32] 1 (by8 (de (acc++s))) H' y→(acc++s=[]→y=aNil)→Q (.tup [y,aI 0]) H') →
 GoL env Try.f75 0 iU [(15,aI i),(5,x5),(13,x13),(14,aI l.length)] H Q:=by
 intro s
 induction s with
 | nil =>
  rintro k i acc x5 H hs hk rfl ha hF hO hN hQ
  obtain rfl:=drop_nil hs hk
  refine rf _ _ _ _ _ _ fun g=>?_
  have hQ':=hQ x5 H (by simpa using hO) (by simpa using hN)
  clear hQ hO hN
  simp [af,ah,ad,ae,aa, *,ja,hx.len]
  all_goals exact hQ'
 | cons n s ih =>
  rintro k i acc x5 H hs hk rfl ha hF hO hN hQ
  obtain ⟨hlt,hg,hs',hg'⟩:=drop_cons hs
  have hn:=hR n (by rw [←hg];exact List.getElem_mem _)
  have e3:=IntWalk.i64_in ((k:Int)+1) (by omega)
  refine rf _ _ _ _ _ _ fun g=>?_
  have hrd:ed (rows l) k 0 1 false=some (.v (.int .i32 n)):=by simp [rows,hg',aR]
  have q24:n.fdiv (2 ^ min 24 IntKind.i32.bits)=n / 16777216:=by rw [show (2:Int) ^ min 24 IntKind.i32.bits=16777216 from rfl];exact bU n 16777216
  have q16:n.fdiv (2 ^ min 16 IntKind.i32.bits)=n / 65536:=by rw [show (2:Int) ^ min 16 IntKind.i32.bits=65536 from rfl];exact bU n 65536
  have q8:n.fdiv (2 ^ min 8 IntKind.i32.bits)=n / 256:=by rw [show (2:Int) ^ min 8 IntKind.i32.bits=256 from rfl];exact bU n 256
  have hih:=fun x5' H'=>ih (k+1) ((k:Int)+1) (acc++[n]) x5' H' hs' (by omega) (by simp) (by simp;omega)
  have hQ' : ∀y H',tU [32] 1 (by8 (de ((acc++[n])++s))) H' y→((acc++[n])++s=[]→y=aNil)→Q (.tup [y,aI 0]) H':=fun y H' h hn=>hQ y H' (by simpa using h) (fun e=>by simp at e)
  have hbl:=mo acc
  have hb8:(by8 (de acc)).length=4 * acc.length:=by rw [show (by8 (de acc)).length=(de acc).length from by simp,hbl]
  have hst : ∀(g m:Nat) (H':Heap),m=4 * acc.length+4→H'.get ⟨0,32,g,0⟩=some ⟨1,by8 (de acc)++[a8 (u8 (n / 16777216)),a8 (u8 (n / 65536)),a8 (u8 (n / 256)),a8 (u8 n)],true,false⟩→tU [32] 1 (by8 (de (acc++[n]))) H' (.osl ⟨0,32,g,0⟩ 0 m none):=by
   intro g m H' hm h
   subst hm
   have e:by8 (de (acc++[n]))=by8 (de acc)++[a8 (u8 (n / 16777216)),a8 (u8 (n / 65536)),a8 (u8 (n / 256)),a8 (u8 n)]:=by simp [de,be_4,by8]
   rw [e]
   exact .inr ⟨32,g,by simp,by rw [List.length_append,hb8];rfl,h⟩
  clear hQ hN ih
  rcases hO with ⟨rfl,hz⟩ | ⟨t,gg,ht,rfl,hr⟩
  ·have hz':acc=[]:=by
    have:=congrArg List.length hz
    rw [hb8] at this
    simp only [List.length_nil] at this
    exact List.eq_nil_of_length_eq_zero (by omega)
   subst hz'
   have hst':=hst (H.gen 0 32) 4
   clear hst
   simp [af,ah,ad,ae,aa, *,ja,hx.r,hx.idx,bW,bU]
   exact hih _ _ (by simp (maxDischargeDepth:=12) [Heap.aj,az,ar,Fr.nil,aL,af,ah,ad,ae,aA,aq,aa, *]) (hst' _ rfl (by simp [de])) (fun e=>by simp at e) hQ'
  ·rw [List.mem_singleton] at ht
   subst ht
   have l6:(H.get ⟨0,32,gg,0⟩).isSome=true:=by rw [hr];rfl
   have f4:rY 1 1 (by8 (de acc)).length true none (some ⟨1,by8 (de acc),true,false⟩) (some [a8 (u8 (n / 16777216)),a8 (u8 (n / 65536)),a8 (u8 (n / 256)),a8 (u8 n)]):=by
    rw [bB,hb8];refine ⟨rfl,hb8.symm ▸ rfl,.inr ⟨?_,rfl⟩⟩;simp;omega
   have hst':=fun H'=>hst (H.gen 0 32) ((by8 (de acc)).length+4) H' (by rw [hb8])
   clear hst ha hb8 hbl
   generalize by8 (de acc)=bs at *
   simp [af,ah,ad,ae,aa, *,ja,hx.r,hx.idx,bW,bU]
   exact hih _ _ (by simp (maxDischargeDepth:=12) [Heap.aj,az,ar,Fr.nil,aL,af,ah,ad,ae,aA,aq,aa, *]) (hst' _ (by simp)) (fun e=>by simp at e) hQ'
theorem Nr {l:List Int} {x:AV} (hx:Sl 1 (rows l) x) (hl:l.length<100000) (hR : ∀n∈l, -2147483648≤n∧n≤2147483647):limf env 75 [x]=some (if rowE l=0 then .tup [outI 1 (by8 (de l)),aI 0] else .tup [aNil,aI (rowE l)]):=by
 refine aG (fn:=Try.f75) (c:=ng) rfl (by kernel_rfl) (by kernel_rfl) (by kernel_rfl) (by kernel_rfl) ?_;refine Be _ _ _ fun g=>?_
 have hc:=vT hx (by omega)
 have hn:=hx.len
 by_cases h:rowE l=0
 ·rw [if_pos h]
  rw [h] at hc
  have hloop:=fun H Q=>Hz hx hl hR (H:=H) (Q:=Q) l 0 0 [] aNil rfl (by omega) rfl rfl
  have hfin : ∀y H',tU [32] 1 (by8 (de ([]++l))) H' y→([]++l=[]→y=aNil)→view H'.get 8 (.tup [y,aI 0])=some (.tup [outI 1 (by8 (de l)),aI 0]):=by
   intro y H' ho hnil
   rw [List.nil_append] at ho hnil
   rcases ho with ⟨rfl,hz⟩ | ⟨t,gg,ht,rfl,hr⟩
   ·rw [hz];simp [outI]
   ·have hne:by8 (de l)≠[]:=by
     intro e
     have h1:=congrArg List.length e
     have h2:=mo l
     have h3:(by8 (de l)).length=(de l).length:=by simp
     simp only [List.length_nil] at h1
     have:l=[]:=List.eq_nil_of_length_eq_zero (by omega)
     cases hnil this
    rw [Dq 1 hne]
    generalize by8 (de l)=bs at *
    simp [hr]
  have run:=fun H hF=>hloop H (fun x H=>view H.get 8 x=some (.tup [outI 1 (by8 (de l)),aI 0])) hF (.inl ⟨rfl,rfl⟩) (fun _=>rfl) hfin
  clear hloop hfin h
  generalize outI 1 (by8 (de l))=yo at *
  simp [af,ah,ad,ae,aa, *,nm,hx.r]
  all_goals exact run _ (by simp (maxDischargeDepth:=12) [az,ar,Fr.nil,aL,af,ah,ad,ae,aA,aq,aa, *])
 ·rw [if_neg h]
  simp [af,ah,ad,ae,aa, *,nm,hx.r]
end Go.Proofs.Ytmjkpdknicjjgaa
