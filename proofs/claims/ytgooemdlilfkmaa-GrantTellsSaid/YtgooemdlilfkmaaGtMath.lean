/-
  Several grants: what is left behind them. No statement of a seat is proved here.
-/
import Derived.Test.YtgooemdlilfkmaaGtRun
set_option linter.unusedVariables false
set_option linter.unusedSimpArgs false
set_option linter.unusedSectionVars false
namespace Go.Proofs.Ytgooemdlilfkmaa
open Go.Ab
theorem te(l:List Quota) : ∀n:Int,sumQ (n - 1) l=sumQ n l - 1:=by
 induction l with
 | nil=>intro n;rfl
 | cons q l ih =>
  intro n
  show sumQ (n - 1+q.opens+4 * q.ops) l=sumQ (n+q.opens+4 * q.ops) l - 1
  rw[←ih]
  congr 1
  omega
theorem n6{us:List Clear}{qs:List Quota}{gr:Int}(h:mayB us qs gr=true):us.length≤8∧qs.length≤8∧0≤gr∧gr≤64:=by
 rw[oR]at h
 simp only[Bool.and_eq_true,decide_eq_true_eq]at h
 omega
theorem ju{us:List Clear}{qs:List Quota}{gr user:Int}{v:UInt8}{c:UInt32}{ok:Bool}(h:ch us qs gr user v c ok=0):mayB us qs gr=true∧jf v c ok=true∧0≤user∧user<us.length∧gr≠0:=by
 unfold ch at h
 split at h
 ·rename_i hm
  rw[Bool.and_eq_true]at hm
  obtain⟨hm,hg⟩:=hm
  simp only[mayG,Bool.and_eq_true,decide_eq_true_eq]at hg
  split at h
  ·cases h
  ·split at h
   ·cases h
   ·exact⟨hm,hg.2,hg.1.1,by omega,by assumption⟩
 ·cases h
theorem rn{us:List Clear}{qs:List Quota}{gr user:Int}{v:UInt8}{c:UInt32}{ok:Bool}(h:ch us qs gr user v c ok=0):mayB (us.set user.toNat ⟨v,c,ok⟩) qs (gr - 1)=true∧IntKind.i64.wrap (gr - 1)=gr - 1∧1≤gr:=by
 obtain⟨hm,hc,h0,h1,hg⟩:=ju h
 have hb:=n6 hm
 refine⟨?_,IntWalk.i64_in _ (by omega),by omega⟩
 rw[oR]at hm ⊢
 simp only[Bool.and_eq_true,decide_eq_true_eq,List.all_eq_true,List.length_set]at hm ⊢
 rw[te]
 refine⟨⟨⟨⟨hm.1.1.1.1,by omega,by omega⟩,?_⟩,hm.1.2⟩,by omega,hm.2.2⟩
 intro x hx
 rcases List.mem_or_eq_of_mem_set hx with hx | rfl
 ·exact hm.1.1.2 x hx
 ·exact hc
theorem tC(qs:List Quota)(g:Gr)(l:List Gr)(us:List Clear)(gr:Int):runF qs (g :: l) us gr=if ch us qs gr g.user g.lv g.cats g.ok=0 then (0 :: (runF qs l (us.set g.user.toNat ⟨g.lv,g.cats,g.ok⟩) (IntKind.i64.wrap (gr - 1))).1,(runF qs l (us.set g.user.toNat ⟨g.lv,g.cats,g.ok⟩) (IntKind.i64.wrap (gr - 1))).2) else (ch us qs gr g.user g.lv g.cats g.ok :: (runF qs l us gr).1,(runF qs l us gr).2):=rfl
theorem sb(qs:List Quota)(l:List Gr) : ∀(us:List Clear)(gr:Int),mayB us qs gr=true→(runF qs l us gr).1.length=l.length∧(runF qs l us gr).2.1.length=us.length:=by
 induction l with
 | nil=>intro us gr hm;exact⟨rfl,rfl⟩
 | cons g l ih =>
  intro us gr hm
  rw[tC]
  by_cases he:ch us qs gr g.user g.lv g.cats g.ok=0
  ·obtain⟨h1,h2,h3⟩:=rn he
   rw[if_pos he,h2]
   have:=ih _ _ h1
   simp only[List.length_cons,List.length_set]at this ⊢
   exact⟨by omega,this.2⟩
  ·rw[if_neg he]
   have:=ih _ _ hm
   simp only[List.length_cons]at this ⊢
   exact⟨by omega,this.2⟩
def hH(us:List Clear)(gr user:Int):Int:=if (us.length:Int)≤user then 2 else if gr=0 then 9 else 0
theorem kz{us:List Clear}{qs:List Quota}{gr:Int}(hm:mayB us qs gr=true)(user:Int)(v:UInt8)(c:UInt32)(ok:Bool):ch us qs gr user v c ok=if mayG user v c ok=true then hH us gr user else 8:=by
 unfold ch hH
 rw[hm]
 cases mayG user v c ok<;>rfl
end Go.Proofs.Ytgooemdlilfkmaa
