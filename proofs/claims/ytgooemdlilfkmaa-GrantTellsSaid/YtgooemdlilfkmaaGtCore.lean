/-
  'Rows.GrantTellsSaid': the law's run, by which rows are empty. No conditions.
-/
import Derived.Test.YtgooemdlilfkmaaGtLaw
set_option linter.unusedVariables false
set_option linter.unusedSimpArgs false
set_option linter.unusedSectionVars false
set_option linter.unnecessarySimpa false
set_option maxRecDepth 100000
namespace Go.Proofs.Ytgooemdlilfkmaa
open Go.Ab
attribute [local simp] cA bA gZ own3 m6 cV fB keep thr iv gv gu lI lH eo List.take_of_length_le
theorem lz{xu xq x2 wu wq zu zq zy:AV}  {l:List Gr}{user:Int}{v:UInt8}{c:UInt32}{ok:Bool}{ga gc gr e h:Int}
 (hu:Sl 3 (av ([]:List Clear)) xu) (hq:Sl 5 (ay ([]:List Quota)) xq) (hl:Sl 4 (dH l) x2) (b1:([]:List Clear).length≤100) (b2:([]:List Quota).length≤100)
 (g1 : ¬(300:Int)<l.length) (g3 : ¬(2060:Int)<l.length)
 (hT:limf env 20 [.agg [xu,xq,aI gr]]=some (.agg [aNil,aNil,aI gr]))
 (h34:limf env 34 [.agg [aNil,aNil,aI gr],.agg [aI user,a8 v,a32 c,aB ok]]=some (.tup [.agg [aNil,aNil,aI ga],aI e]))
 (h35:limf env 35 [.agg [xu,xq,aI gr],.agg [aI user,a8 v,a32 c,aB ok]]=some (.tup [.agg [wu,wq,aI ga],aI e]))
 (hwu:Sl 3 (av ([]:List Clear)) wu) (hwq:Sl 5 (ay ([]:List Quota)) wq)
 (hS1:limf env 29 [.agg [aNil,aNil,aI ga],.agg [wu,wq,aI ga]]=some (aB true))
 (h36:limf env 36 [.agg [aNil,aNil,aI gr],x2]=some (.tup [.agg [aNil,aNil,aI gc],aNil,aI h]))
 (h37:limf env 37 [.agg [xu,xq,aI gr],x2]=some (.tup [.agg [zu,zq,aI gc],zy,aI h]))
 (hzu:Sl 3 (av ([]:List Clear)) zu) (hzq:Sl 5 (ay ([]:List Quota)) zq) (hzy:Sl 1 (errs ([]:List Int)) zy)
 (hS2:limf env 29 [.agg [aNil,aNil,aI gc],.agg [zu,zq,aI gc]]=some (aB true)) :
 limf env 8 [.agg [xu,xq,aI gr],.agg [aI user,a8 v,a32 c,aB ok],x2]=some (aB true):=by
 have hG:limf env 18 [.agg [xu,xq,aI gr]]=some (aB false):=by
  rw[cD gr hu hq,show decide ((100:Int)<(([]:List Clear).length:Nat))=false from decide_eq_false (by omega),show decide ((100:Int)<(([]:List Quota).length:Nat))=false from decide_eq_false (by omega)];rfl
 have hc1:=bI user v c ok
 have hc2:=bz user v c ok
 have fin:=fun {ya za yc zc oU oQ x13:AV} {H:Heap} hx hT hA hC=>gt10 (ya:=ya) (za:=za) (yc:=yc) (zc:=zc) (ou:=oU) (oq:=oQ) (ga:=ga) (gc:=gc) (gr:=gr) hu hq (by omega) (by omega) (ua:=([]:List Clear)) (uc:=([]:List Clear)) (by first | omega | (simp;done)) (by first | omega | (simp;done)) (es:=([]:List Int)) (x13:=x13) hzy (by first | omega | (simp;done)) (H:=H) hx hT hA hC (Q:=fun y H=>view H.get 8 y=some (aB true)) (fun y H' e=>by rw[e];rfl) ([]:List Int) 0 0 rfl (by omega) rfl
 have f1:=aw ([]:List Clear)
 have f2:=bg ([]:List Quota)
 have f3:=aw ([]:List Clear)
 have f4:=aw ([]:List Clear)
 have f5 : ∀n,(errs ([]:List Int)).all (flat (n+1))=true:=fun n=>by simp[List.all_eq_true]
 refine aH (fn:=Try.f8) (c:=ao) rfl (by kernel_rfl) (by kernel_rfl) (by kernel_rfl) (by kernel_rfl) ?_;refine ar _ _ _ _ _ fun g=>?_
 generalize bad (mayG user v c ok)=cc at *
 clear b1 b2
 simp[ae,af,ab,ad,aa, *,aq,hu.r,hq.r,hl.r,hwu.r,hwq.r,hzu.r,hzq.r,hzy.r]
 refine fin ?_ ⟨rfl,rfl,rfl,rfl,?_,?_⟩ ?_ ?_
 ·first | exact aA _ _ _ | exact az rfl (by simp(maxDischargeDepth:=12) [Heap.aj,an,ai,Fr.nil,au,ae,af,ab,ad,al,ah,aa, *]) (by simp)
 ·first | exact aA _ _ _ | exact az rfl (by simp(maxDischargeDepth:=12) [Heap.aj,an,ai,Fr.nil,au,ae,af,ab,ad,al,ah,aa, *]) (by simp)
 ·first | exact aA _ _ _ | exact az rfl (by simp(maxDischargeDepth:=12) [Heap.aj,an,ai,Fr.nil,au,ae,af,ab,ad,al,ah,aa, *]) (by simp)
 ·first | exact aR _ _ _ | exact aP rfl (by simp(maxDischargeDepth:=12) [Heap.aj,an,ai,Fr.nil,au,ae,af,ab,ad,al,ah,aa, *]) (by simp)
 ·first | exact aR _ _ _ | exact aP rfl (by simp(maxDischargeDepth:=12) [Heap.aj,an,ai,Fr.nil,au,ae,af,ab,ad,al,ah,aa, *]) (by simp)
theorem po{xu xq x2 wu wq zu zq zy:AV}  {l:List Gr}{user:Int}{v:UInt8}{c:UInt32}{ok:Bool}{ga gc gr e h:Int}
 (hu:Sl 3 (av ([]:List Clear)) xu) (hq:Sl 5 (ay ([]:List Quota)) xq) (hl:Sl 4 (dH l) x2) (b1:([]:List Clear).length≤100) (b2:([]:List Quota).length≤100)
 (g1:(300:Int)<l.length) (g2 : ¬(l.length:Int)≤2048) (g3 : ¬(2060:Int)<l.length)
 (hT:limf env 20 [.agg [xu,xq,aI gr]]=some (.agg [aNil,aNil,aI gr]))
 (h34:limf env 34 [.agg [aNil,aNil,aI gr],.agg [aI user,a8 v,a32 c,aB ok]]=some (.tup [.agg [aNil,aNil,aI ga],aI e]))
 (h35:limf env 35 [.agg [xu,xq,aI gr],.agg [aI user,a8 v,a32 c,aB ok]]=some (.tup [.agg [wu,wq,aI ga],aI e]))
 (hwu:Sl 3 (av ([]:List Clear)) wu) (hwq:Sl 5 (ay ([]:List Quota)) wq)
 (hS1:limf env 29 [.agg [aNil,aNil,aI ga],.agg [wu,wq,aI ga]]=some (aB true))
 (h36:limf env 36 [.agg [aNil,aNil,aI gr],x2]=some (.tup [.agg [aNil,aNil,aI gc],aNil,aI h]))
 (h37:limf env 37 [.agg [xu,xq,aI gr],x2]=some (.tup [.agg [zu,zq,aI gc],zy,aI h]))
 (hzu:Sl 3 (av ([]:List Clear)) zu) (hzq:Sl 5 (ay ([]:List Quota)) zq) (hzy:Sl 1 (errs ([]:List Int)) zy)
 (hS2:limf env 29 [.agg [aNil,aNil,aI gc],.agg [zu,zq,aI gc]]=some (aB true)) :
 limf env 8 [.agg [xu,xq,aI gr],.agg [aI user,a8 v,a32 c,aB ok],x2]=some (aB true):=by
 have hG:limf env 18 [.agg [xu,xq,aI gr]]=some (aB false):=by
  rw[cD gr hu hq,show decide ((100:Int)<(([]:List Clear).length:Nat))=false from decide_eq_false (by omega),show decide ((100:Int)<(([]:List Quota).length:Nat))=false from decide_eq_false (by omega)];rfl
 have hc1:=bI user v c ok
 have hc2:=bz user v c ok
 have fin:=fun {ya za yc zc oU oQ x13:AV} {H:Heap} hx hT hA hC=>gt10 (ya:=ya) (za:=za) (yc:=yc) (zc:=zc) (ou:=oU) (oq:=oQ) (ga:=ga) (gc:=gc) (gr:=gr) hu hq (by omega) (by omega) (ua:=([]:List Clear)) (uc:=([]:List Clear)) (by first | omega | (simp;done)) (by first | omega | (simp;done)) (es:=([]:List Int)) (x13:=x13) hzy (by first | omega | (simp;done)) (H:=H) hx hT hA hC (Q:=fun y H=>view H.get 8 y=some (aB true)) (fun y H' e=>by rw[e];rfl) ([]:List Int) 0 0 rfl (by omega) rfl
 have f1:=aw ([]:List Clear)
 have f2:=bg ([]:List Quota)
 have f3:=aw ([]:List Clear)
 have f4:=aw ([]:List Clear)
 have f5 : ∀n,(errs ([]:List Int)).all (flat (n+1))=true:=fun n=>by simp[List.all_eq_true]
 refine aH (fn:=Try.f8) (c:=ao) rfl (by kernel_rfl) (by kernel_rfl) (by kernel_rfl) (by kernel_rfl) ?_;refine ar _ _ _ _ _ fun g=>?_
 generalize bad (mayG user v c ok)=cc at *
 clear b1 b2
 simp[ae,af,ab,ad,aa, *,aq,hu.r,hq.r,hl.r,hwu.r,hwq.r,hzu.r,hzq.r,hzy.r]
 refine fin ?_ ⟨rfl,rfl,rfl,rfl,?_,?_⟩ ?_ ?_
 ·first | exact aA _ _ _ | exact az rfl (by simp(maxDischargeDepth:=12) [Heap.aj,an,ai,Fr.nil,au,ae,af,ab,ad,al,ah,aa, *]) (by simp)
 ·first | exact aA _ _ _ | exact az rfl (by simp(maxDischargeDepth:=12) [Heap.aj,an,ai,Fr.nil,au,ae,af,ab,ad,al,ah,aa, *]) (by simp)
 ·first | exact aA _ _ _ | exact az rfl (by simp(maxDischargeDepth:=12) [Heap.aj,an,ai,Fr.nil,au,ae,af,ab,ad,al,ah,aa, *]) (by simp)
 ·first | exact aR _ _ _ | exact aP rfl (by simp(maxDischargeDepth:=12) [Heap.aj,an,ai,Fr.nil,au,ae,af,ab,ad,al,ah,aa, *]) (by simp)
 ·first | exact aR _ _ _ | exact aP rfl (by simp(maxDischargeDepth:=12) [Heap.aj,an,ai,Fr.nil,au,ae,af,ab,ad,al,ah,aa, *]) (by simp)
theorem pn{xu xq x2 wu wq zu zq zy:AV}{es:List Int}{l:List Gr}{user:Int}{v:UInt8}{c:UInt32}{ok:Bool}{ga gc gr e h:Int}
 (hu:Sl 3 (av ([]:List Clear)) xu) (hq:Sl 5 (ay ([]:List Quota)) xq) (hl:Sl 4 (dH l) x2) (b1:([]:List Clear).length≤100) (b2:([]:List Quota).length≤100)
 (b6:es.length≤300)
 (g1 : ¬(300:Int)<l.length) (g3 : ¬(2060:Int)<l.length)
 (hT:limf env 20 [.agg [xu,xq,aI gr]]=some (.agg [aNil,aNil,aI gr]))
 (h34:limf env 34 [.agg [aNil,aNil,aI gr],.agg [aI user,a8 v,a32 c,aB ok]]=some (.tup [.agg [aNil,aNil,aI ga],aI e]))
 (h35:limf env 35 [.agg [xu,xq,aI gr],.agg [aI user,a8 v,a32 c,aB ok]]=some (.tup [.agg [wu,wq,aI ga],aI e]))
 (hwu:Sl 3 (av ([]:List Clear)) wu) (hwq:Sl 5 (ay ([]:List Quota)) wq)
 (hS1:limf env 29 [.agg [aNil,aNil,aI ga],.agg [wu,wq,aI ga]]=some (aB true))
 (h36:limf env 36 [.agg [aNil,aNil,aI gr],x2]=some (.tup [.agg [aNil,aNil,aI gc],(.fsl 1 (errs es) none),aI h]))
 (h37:limf env 37 [.agg [xu,xq,aI gr],x2]=some (.tup [.agg [zu,zq,aI gc],zy,aI h]))
 (hzu:Sl 3 (av ([]:List Clear)) zu) (hzq:Sl 5 (ay ([]:List Quota)) zq) (hzy:Sl 1 (errs es) zy)
 (hS2:limf env 29 [.agg [aNil,aNil,aI gc],.agg [zu,zq,aI gc]]=some (aB true)) :
 limf env 8 [.agg [xu,xq,aI gr],.agg [aI user,a8 v,a32 c,aB ok],x2]=some (aB true):=by
 have hG:limf env 18 [.agg [xu,xq,aI gr]]=some (aB false):=by
  rw[cD gr hu hq,show decide ((100:Int)<(([]:List Clear).length:Nat))=false from decide_eq_false (by omega),show decide ((100:Int)<(([]:List Quota).length:Nat))=false from decide_eq_false (by omega)];rfl
 have hc1:=bI user v c ok
 have hc2:=bz user v c ok
 have fin:=fun {ya za yc zc oU oQ x13:AV} {H:Heap} hx hT hA hC=>gt10 (ya:=ya) (za:=za) (yc:=yc) (zc:=zc) (ou:=oU) (oq:=oQ) (ga:=ga) (gc:=gc) (gr:=gr) hu hq (by omega) (by omega) (ua:=([]:List Clear)) (uc:=([]:List Clear)) (by first | omega | (simp;done)) (by first | omega | (simp;done)) (es:=es) (x13:=x13) hzy (by first | omega | (simp;done)) (H:=H) hx hT hA hC (Q:=fun y H=>view H.get 8 y=some (aB true)) (fun y H' e=>by rw[e];rfl) es 0 0 rfl (by omega) rfl
 have f1:=aw ([]:List Clear)
 have f2:=bg ([]:List Quota)
 have f3:=aw ([]:List Clear)
 have f4:=aw ([]:List Clear)
 have f5 : ∀n,(errs es).all (flat (n+1))=true:=fun n=>by simp[List.all_eq_true]
 refine aH (fn:=Try.f8) (c:=ao) rfl (by kernel_rfl) (by kernel_rfl) (by kernel_rfl) (by kernel_rfl) ?_;refine ar _ _ _ _ _ fun g=>?_
 generalize bad (mayG user v c ok)=cc at *
 clear b1 b2   b6
 simp[ae,af,ab,ad,aa, *,aq,hu.r,hq.r,hl.r,hwu.r,hwq.r,hzu.r,hzq.r,hzy.r]
 refine fin ?_ ⟨rfl,rfl,rfl,rfl,?_,?_⟩ ?_ ?_
 ·first | exact aA _ _ _ | exact az rfl (by simp(maxDischargeDepth:=12) [Heap.aj,an,ai,Fr.nil,au,ae,af,ab,ad,al,ah,aa, *]) (by simp)
 ·first | exact aA _ _ _ | exact az rfl (by simp(maxDischargeDepth:=12) [Heap.aj,an,ai,Fr.nil,au,ae,af,ab,ad,al,ah,aa, *]) (by simp)
 ·first | exact aA _ _ _ | exact az rfl (by simp(maxDischargeDepth:=12) [Heap.aj,an,ai,Fr.nil,au,ae,af,ab,ad,al,ah,aa, *]) (by simp)
 ·first | exact aR _ _ _ | exact aP rfl (by simp(maxDischargeDepth:=12) [Heap.aj,an,ai,Fr.nil,au,ae,af,ab,ad,al,ah,aa, *]) (by simp)
 ·first | exact aR _ _ _ | exact aP rfl (by simp(maxDischargeDepth:=12) [Heap.aj,an,ai,Fr.nil,au,ae,af,ab,ad,al,ah,aa, *]) (by simp)
theorem pl{xu xq x2 wu wq zu zq zy:AV}{qs:List Quota}{l:List Gr}{user:Int}{v:UInt8}{c:UInt32}{ok:Bool}{ga gc gr e h:Int}
 (hu:Sl 3 (av ([]:List Clear)) xu) (hq:Sl 5 (ay qs) xq) (hl:Sl 4 (dH l) x2) (b1:([]:List Clear).length≤100) (b2:qs.length≤100)
 (nq:ay qs≠[])
 (g1 : ¬(300:Int)<l.length) (g3 : ¬(2060:Int)<l.length)
 (hT:limf env 20 [.agg [xu,xq,aI gr]]=some (.agg [aNil,(.fsl 5 (ay qs) none),aI gr]))
 (h34:limf env 34 [.agg [aNil,(.isl 5 (ay qs) none),aI gr],.agg [aI user,a8 v,a32 c,aB ok]]=some (.tup [.agg [aNil,aNil,aI ga],aI e]))
 (h35:limf env 35 [.agg [xu,xq,aI gr],.agg [aI user,a8 v,a32 c,aB ok]]=some (.tup [.agg [wu,wq,aI ga],aI e]))
 (hwu:Sl 3 (av ([]:List Clear)) wu) (hwq:Sl 5 (ay ([]:List Quota)) wq)
 (hS1:limf env 29 [.agg [aNil,aNil,aI ga],.agg [wu,wq,aI ga]]=some (aB true))
 (h36:limf env 36 [.agg [aNil,(.isl 5 (ay qs) none),aI gr],x2]=some (.tup [.agg [aNil,aNil,aI gc],aNil,aI h]))
 (h37:limf env 37 [.agg [xu,xq,aI gr],x2]=some (.tup [.agg [zu,zq,aI gc],zy,aI h]))
 (hzu:Sl 3 (av ([]:List Clear)) zu) (hzq:Sl 5 (ay ([]:List Quota)) zq) (hzy:Sl 1 (errs ([]:List Int)) zy)
 (hS2:limf env 29 [.agg [aNil,aNil,aI gc],.agg [zu,zq,aI gc]]=some (aB true)) :
 limf env 8 [.agg [xu,xq,aI gr],.agg [aI user,a8 v,a32 c,aB ok],x2]=some (aB true):=by
 have hG:limf env 18 [.agg [xu,xq,aI gr]]=some (aB false):=by
  rw[cD gr hu hq,show decide ((100:Int)<(([]:List Clear).length:Nat))=false from decide_eq_false (by omega),show decide ((100:Int)<(qs.length:Nat))=false from decide_eq_false (by omega)];rfl
 have hc1:=bI user v c ok
 have hc2:=bz user v c ok
 have fin:=fun {ya za yc zc oU oQ x13:AV} {H:Heap} hx hT hA hC=>gt10 (ya:=ya) (za:=za) (yc:=yc) (zc:=zc) (ou:=oU) (oq:=oQ) (ga:=ga) (gc:=gc) (gr:=gr) hu hq (by omega) (by omega) (ua:=([]:List Clear)) (uc:=([]:List Clear)) (by first | omega | (simp;done)) (by first | omega | (simp;done)) (es:=([]:List Int)) (x13:=x13) hzy (by first | omega | (simp;done)) (H:=H) hx hT hA hC (Q:=fun y H=>view H.get 8 y=some (aB true)) (fun y H' e=>by rw[e];rfl) ([]:List Int) 0 0 rfl (by omega) rfl
 have f1:=aw ([]:List Clear)
 have f2:=bg qs
 have f3:=aw ([]:List Clear)
 have f4:=aw ([]:List Clear)
 have f5 : ∀n,(errs ([]:List Int)).all (flat (n+1))=true:=fun n=>by simp[List.all_eq_true]
 refine aH (fn:=Try.f8) (c:=ao) rfl (by kernel_rfl) (by kernel_rfl) (by kernel_rfl) (by kernel_rfl) ?_;refine ar _ _ _ _ _ fun g=>?_
 generalize bad (mayG user v c ok)=cc at *
 clear b1 b2
 simp[ae,af,ab,ad,aa, *,aq,hu.r,hq.r,hl.r,hwu.r,hwq.r,hzu.r,hzq.r,hzy.r]
 refine fin ?_ ⟨rfl,rfl,rfl,rfl,?_,?_⟩ ?_ ?_
 ·first | exact aA _ _ _ | exact az rfl (by simp(maxDischargeDepth:=12) [Heap.aj,an,ai,Fr.nil,au,ae,af,ab,ad,al,ah,aa, *]) (by simp)
 ·first | exact aA _ _ _ | exact az rfl (by simp(maxDischargeDepth:=12) [Heap.aj,an,ai,Fr.nil,au,ae,af,ab,ad,al,ah,aa, *]) (by simp)
 ·first | exact aA _ _ _ | exact az rfl (by simp(maxDischargeDepth:=12) [Heap.aj,an,ai,Fr.nil,au,ae,af,ab,ad,al,ah,aa, *]) (by simp)
 ·first | exact aR _ _ _ | exact aP rfl (by simp(maxDischargeDepth:=12) [Heap.aj,an,ai,Fr.nil,au,ae,af,ab,ad,al,ah,aa, *]) (by simp)
 ·first | exact aR _ _ _ | exact aP rfl (by simp(maxDischargeDepth:=12) [Heap.aj,an,ai,Fr.nil,au,ae,af,ab,ad,al,ah,aa, *]) (by simp)
theorem pk{xu xq x2 wu wq zu zq zy:AV}{qs:List Quota}{l:List Gr}{user:Int}{v:UInt8}{c:UInt32}{ok:Bool}{ga gc gr e h:Int}
 (hu:Sl 3 (av ([]:List Clear)) xu) (hq:Sl 5 (ay qs) xq) (hl:Sl 4 (dH l) x2) (b1:([]:List Clear).length≤100) (b2:qs.length≤100)
 (nq:ay qs≠[])
 (g1:(300:Int)<l.length) (g2 : ¬(l.length:Int)≤2048) (g3 : ¬(2060:Int)<l.length)
 (hT:limf env 20 [.agg [xu,xq,aI gr]]=some (.agg [aNil,(.fsl 5 (ay qs) none),aI gr]))
 (h34:limf env 34 [.agg [aNil,(.isl 5 (ay qs) none),aI gr],.agg [aI user,a8 v,a32 c,aB ok]]=some (.tup [.agg [aNil,aNil,aI ga],aI e]))
 (h35:limf env 35 [.agg [xu,xq,aI gr],.agg [aI user,a8 v,a32 c,aB ok]]=some (.tup [.agg [wu,wq,aI ga],aI e]))
 (hwu:Sl 3 (av ([]:List Clear)) wu) (hwq:Sl 5 (ay ([]:List Quota)) wq)
 (hS1:limf env 29 [.agg [aNil,aNil,aI ga],.agg [wu,wq,aI ga]]=some (aB true))
 (h36:limf env 36 [.agg [aNil,(.isl 5 (ay qs) none),aI gr],x2]=some (.tup [.agg [aNil,aNil,aI gc],aNil,aI h]))
 (h37:limf env 37 [.agg [xu,xq,aI gr],x2]=some (.tup [.agg [zu,zq,aI gc],zy,aI h]))
 (hzu:Sl 3 (av ([]:List Clear)) zu) (hzq:Sl 5 (ay ([]:List Quota)) zq) (hzy:Sl 1 (errs ([]:List Int)) zy)
 (hS2:limf env 29 [.agg [aNil,aNil,aI gc],.agg [zu,zq,aI gc]]=some (aB true)) :
 limf env 8 [.agg [xu,xq,aI gr],.agg [aI user,a8 v,a32 c,aB ok],x2]=some (aB true):=by
 have hG:limf env 18 [.agg [xu,xq,aI gr]]=some (aB false):=by
  rw[cD gr hu hq,show decide ((100:Int)<(([]:List Clear).length:Nat))=false from decide_eq_false (by omega),show decide ((100:Int)<(qs.length:Nat))=false from decide_eq_false (by omega)];rfl
 have hc1:=bI user v c ok
 have hc2:=bz user v c ok
 have fin:=fun {ya za yc zc oU oQ x13:AV} {H:Heap} hx hT hA hC=>gt10 (ya:=ya) (za:=za) (yc:=yc) (zc:=zc) (ou:=oU) (oq:=oQ) (ga:=ga) (gc:=gc) (gr:=gr) hu hq (by omega) (by omega) (ua:=([]:List Clear)) (uc:=([]:List Clear)) (by first | omega | (simp;done)) (by first | omega | (simp;done)) (es:=([]:List Int)) (x13:=x13) hzy (by first | omega | (simp;done)) (H:=H) hx hT hA hC (Q:=fun y H=>view H.get 8 y=some (aB true)) (fun y H' e=>by rw[e];rfl) ([]:List Int) 0 0 rfl (by omega) rfl
 have f1:=aw ([]:List Clear)
 have f2:=bg qs
 have f3:=aw ([]:List Clear)
 have f4:=aw ([]:List Clear)
 have f5 : ∀n,(errs ([]:List Int)).all (flat (n+1))=true:=fun n=>by simp[List.all_eq_true]
 refine aH (fn:=Try.f8) (c:=ao) rfl (by kernel_rfl) (by kernel_rfl) (by kernel_rfl) (by kernel_rfl) ?_;refine ar _ _ _ _ _ fun g=>?_
 generalize bad (mayG user v c ok)=cc at *
 clear b1 b2
 simp[ae,af,ab,ad,aa, *,aq,hu.r,hq.r,hl.r,hwu.r,hwq.r,hzu.r,hzq.r,hzy.r]
 refine fin ?_ ⟨rfl,rfl,rfl,rfl,?_,?_⟩ ?_ ?_
 ·first | exact aA _ _ _ | exact az rfl (by simp(maxDischargeDepth:=12) [Heap.aj,an,ai,Fr.nil,au,ae,af,ab,ad,al,ah,aa, *]) (by simp)
 ·first | exact aA _ _ _ | exact az rfl (by simp(maxDischargeDepth:=12) [Heap.aj,an,ai,Fr.nil,au,ae,af,ab,ad,al,ah,aa, *]) (by simp)
 ·first | exact aA _ _ _ | exact az rfl (by simp(maxDischargeDepth:=12) [Heap.aj,an,ai,Fr.nil,au,ae,af,ab,ad,al,ah,aa, *]) (by simp)
 ·first | exact aR _ _ _ | exact aP rfl (by simp(maxDischargeDepth:=12) [Heap.aj,an,ai,Fr.nil,au,ae,af,ab,ad,al,ah,aa, *]) (by simp)
 ·first | exact aR _ _ _ | exact aP rfl (by simp(maxDischargeDepth:=12) [Heap.aj,an,ai,Fr.nil,au,ae,af,ab,ad,al,ah,aa, *]) (by simp)
theorem pj{xu xq x2 wu wq zu zq zy:AV}{qs:List Quota}{l:List Gr}{user:Int}{v:UInt8}{c:UInt32}{ok:Bool}{ga gc gr e h:Int}
 (hu:Sl 3 (av ([]:List Clear)) xu) (hq:Sl 5 (ay qs) xq) (hl:Sl 4 (dH l) x2) (b1:([]:List Clear).length≤100) (b2:qs.length≤100)
 (nq:ay qs≠[])
 (g1 : ¬(300:Int)<l.length) (g3 : ¬(2060:Int)<l.length)
 (hT:limf env 20 [.agg [xu,xq,aI gr]]=some (.agg [aNil,(.fsl 5 (ay qs) none),aI gr]))
 (h34:limf env 34 [.agg [aNil,(.isl 5 (ay qs) none),aI gr],.agg [aI user,a8 v,a32 c,aB ok]]=some (.tup [.agg [aNil,aNil,aI ga],aI e]))
 (h35:limf env 35 [.agg [xu,xq,aI gr],.agg [aI user,a8 v,a32 c,aB ok]]=some (.tup [.agg [wu,wq,aI ga],aI e]))
 (hwu:Sl 3 (av ([]:List Clear)) wu) (hwq:Sl 5 (ay ([]:List Quota)) wq)
 (hS1:limf env 29 [.agg [aNil,aNil,aI ga],.agg [wu,wq,aI ga]]=some (aB true))
 (h36:limf env 36 [.agg [aNil,(.isl 5 (ay qs) none),aI gr],x2]=some (.tup [.agg [aNil,(.fsl 5 (ay qs) none),aI gc],aNil,aI h]))
 (h37:limf env 37 [.agg [xu,xq,aI gr],x2]=some (.tup [.agg [zu,zq,aI gc],zy,aI h]))
 (hzu:Sl 3 (av ([]:List Clear)) zu) (hzq:Sl 5 (ay qs) zq) (hzy:Sl 1 (errs ([]:List Int)) zy)
 (hS2:limf env 29 [.agg [aNil,(.isl 5 (ay qs) none),aI gc],.agg [zu,zq,aI gc]]=some (aB true)) :
 limf env 8 [.agg [xu,xq,aI gr],.agg [aI user,a8 v,a32 c,aB ok],x2]=some (aB true):=by
 have hG:limf env 18 [.agg [xu,xq,aI gr]]=some (aB false):=by
  rw[cD gr hu hq,show decide ((100:Int)<(([]:List Clear).length:Nat))=false from decide_eq_false (by omega),show decide ((100:Int)<(qs.length:Nat))=false from decide_eq_false (by omega)];rfl
 have hc1:=bI user v c ok
 have hc2:=bz user v c ok
 have fin:=fun {ya za yc zc oU oQ x13:AV} {H:Heap} hx hT hA hC=>gt10 (ya:=ya) (za:=za) (yc:=yc) (zc:=zc) (ou:=oU) (oq:=oQ) (ga:=ga) (gc:=gc) (gr:=gr) hu hq (by omega) (by omega) (ua:=([]:List Clear)) (uc:=([]:List Clear)) (by first | omega | (simp;done)) (by first | omega | (simp;done)) (es:=([]:List Int)) (x13:=x13) hzy (by first | omega | (simp;done)) (H:=H) hx hT hA hC (Q:=fun y H=>view H.get 8 y=some (aB true)) (fun y H' e=>by rw[e];rfl) ([]:List Int) 0 0 rfl (by omega) rfl
 have f1:=aw ([]:List Clear)
 have f2:=bg qs
 have f3:=aw ([]:List Clear)
 have f4:=aw ([]:List Clear)
 have f5 : ∀n,(errs ([]:List Int)).all (flat (n+1))=true:=fun n=>by simp[List.all_eq_true]
 refine aH (fn:=Try.f8) (c:=ao) rfl (by kernel_rfl) (by kernel_rfl) (by kernel_rfl) (by kernel_rfl) ?_;refine ar _ _ _ _ _ fun g=>?_
 generalize bad (mayG user v c ok)=cc at *
 clear b1 b2
 simp[ae,af,ab,ad,aa, *,aq,hu.r,hq.r,hl.r,hwu.r,hwq.r,hzu.r,hzq.r,hzy.r]
 refine fin ?_ ⟨rfl,rfl,rfl,rfl,?_,?_⟩ ?_ ?_
 ·first | exact aA _ _ _ | exact az rfl (by simp(maxDischargeDepth:=12) [Heap.aj,an,ai,Fr.nil,au,ae,af,ab,ad,al,ah,aa, *]) (by simp)
 ·first | exact aA _ _ _ | exact az rfl (by simp(maxDischargeDepth:=12) [Heap.aj,an,ai,Fr.nil,au,ae,af,ab,ad,al,ah,aa, *]) (by simp)
 ·first | exact aA _ _ _ | exact az rfl (by simp(maxDischargeDepth:=12) [Heap.aj,an,ai,Fr.nil,au,ae,af,ab,ad,al,ah,aa, *]) (by simp)
 ·first | exact aR _ _ _ | exact aP rfl (by simp(maxDischargeDepth:=12) [Heap.aj,an,ai,Fr.nil,au,ae,af,ab,ad,al,ah,aa, *]) (by simp)
 ·first | exact aR _ _ _ | exact aP rfl (by simp(maxDischargeDepth:=12) [Heap.aj,an,ai,Fr.nil,au,ae,af,ab,ad,al,ah,aa, *]) (by simp)
theorem ph{xu xq x2 wu wq zu zq zy:AV}{qs:List Quota}{es:List Int}{l:List Gr}{user:Int}{v:UInt8}{c:UInt32}{ok:Bool}{ga gc gr e h:Int}
 (hu:Sl 3 (av ([]:List Clear)) xu) (hq:Sl 5 (ay qs) xq) (hl:Sl 4 (dH l) x2) (b1:([]:List Clear).length≤100) (b2:qs.length≤100)
 (nq:ay qs≠[])
 (b6:es.length≤300)
 (g1 : ¬(300:Int)<l.length) (g3 : ¬(2060:Int)<l.length)
 (hT:limf env 20 [.agg [xu,xq,aI gr]]=some (.agg [aNil,(.fsl 5 (ay qs) none),aI gr]))
 (h34:limf env 34 [.agg [aNil,(.isl 5 (ay qs) none),aI gr],.agg [aI user,a8 v,a32 c,aB ok]]=some (.tup [.agg [aNil,aNil,aI ga],aI e]))
 (h35:limf env 35 [.agg [xu,xq,aI gr],.agg [aI user,a8 v,a32 c,aB ok]]=some (.tup [.agg [wu,wq,aI ga],aI e]))
 (hwu:Sl 3 (av ([]:List Clear)) wu) (hwq:Sl 5 (ay ([]:List Quota)) wq)
 (hS1:limf env 29 [.agg [aNil,aNil,aI ga],.agg [wu,wq,aI ga]]=some (aB true))
 (h36:limf env 36 [.agg [aNil,(.isl 5 (ay qs) none),aI gr],x2]=some (.tup [.agg [aNil,(.fsl 5 (ay qs) none),aI gc],(.fsl 1 (errs es) none),aI h]))
 (h37:limf env 37 [.agg [xu,xq,aI gr],x2]=some (.tup [.agg [zu,zq,aI gc],zy,aI h]))
 (hzu:Sl 3 (av ([]:List Clear)) zu) (hzq:Sl 5 (ay qs) zq) (hzy:Sl 1 (errs es) zy)
 (hS2:limf env 29 [.agg [aNil,(.isl 5 (ay qs) none),aI gc],.agg [zu,zq,aI gc]]=some (aB true)) :
 limf env 8 [.agg [xu,xq,aI gr],.agg [aI user,a8 v,a32 c,aB ok],x2]=some (aB true):=by
 have hG:limf env 18 [.agg [xu,xq,aI gr]]=some (aB false):=by
  rw[cD gr hu hq,show decide ((100:Int)<(([]:List Clear).length:Nat))=false from decide_eq_false (by omega),show decide ((100:Int)<(qs.length:Nat))=false from decide_eq_false (by omega)];rfl
 have hc1:=bI user v c ok
 have hc2:=bz user v c ok
 have fin:=fun {ya za yc zc oU oQ x13:AV} {H:Heap} hx hT hA hC=>gt10 (ya:=ya) (za:=za) (yc:=yc) (zc:=zc) (ou:=oU) (oq:=oQ) (ga:=ga) (gc:=gc) (gr:=gr) hu hq (by omega) (by omega) (ua:=([]:List Clear)) (uc:=([]:List Clear)) (by first | omega | (simp;done)) (by first | omega | (simp;done)) (es:=es) (x13:=x13) hzy (by first | omega | (simp;done)) (H:=H) hx hT hA hC (Q:=fun y H=>view H.get 8 y=some (aB true)) (fun y H' e=>by rw[e];rfl) es 0 0 rfl (by omega) rfl
 have f1:=aw ([]:List Clear)
 have f2:=bg qs
 have f3:=aw ([]:List Clear)
 have f4:=aw ([]:List Clear)
 have f5 : ∀n,(errs es).all (flat (n+1))=true:=fun n=>by simp[List.all_eq_true]
 refine aH (fn:=Try.f8) (c:=ao) rfl (by kernel_rfl) (by kernel_rfl) (by kernel_rfl) (by kernel_rfl) ?_;refine ar _ _ _ _ _ fun g=>?_
 generalize bad (mayG user v c ok)=cc at *
 clear b1 b2   b6
 simp[ae,af,ab,ad,aa, *,aq,hu.r,hq.r,hl.r,hwu.r,hwq.r,hzu.r,hzq.r,hzy.r]
 refine fin ?_ ⟨rfl,rfl,rfl,rfl,?_,?_⟩ ?_ ?_
 ·first | exact aA _ _ _ | exact az rfl (by simp(maxDischargeDepth:=12) [Heap.aj,an,ai,Fr.nil,au,ae,af,ab,ad,al,ah,aa, *]) (by simp)
 ·first | exact aA _ _ _ | exact az rfl (by simp(maxDischargeDepth:=12) [Heap.aj,an,ai,Fr.nil,au,ae,af,ab,ad,al,ah,aa, *]) (by simp)
 ·first | exact aA _ _ _ | exact az rfl (by simp(maxDischargeDepth:=12) [Heap.aj,an,ai,Fr.nil,au,ae,af,ab,ad,al,ah,aa, *]) (by simp)
 ·first | exact aR _ _ _ | exact aP rfl (by simp(maxDischargeDepth:=12) [Heap.aj,an,ai,Fr.nil,au,ae,af,ab,ad,al,ah,aa, *]) (by simp)
 ·first | exact aR _ _ _ | exact aP rfl (by simp(maxDischargeDepth:=12) [Heap.aj,an,ai,Fr.nil,au,ae,af,ab,ad,al,ah,aa, *]) (by simp)
theorem pg{xu xq x2 wu wq zu zq zy:AV}{us:List Clear}{l:List Gr}{user:Int}{v:UInt8}{c:UInt32}{ok:Bool}{ga gc gr e h:Int}
 (hu:Sl 3 (av us) xu) (hq:Sl 5 (ay ([]:List Quota)) xq) (hl:Sl 4 (dH l) x2) (b1:us.length≤100) (b2:([]:List Quota).length≤100)
 (nu:av us≠[])
 (g1 : ¬(300:Int)<l.length) (g3 : ¬(2060:Int)<l.length)
 (hT:limf env 20 [.agg [xu,xq,aI gr]]=some (.agg [(.fsl 3 (av us) none),aNil,aI gr]))
 (h34:limf env 34 [.agg [(.isl 3 (av us) none),aNil,aI gr],.agg [aI user,a8 v,a32 c,aB ok]]=some (.tup [.agg [aNil,aNil,aI ga],aI e]))
 (h35:limf env 35 [.agg [xu,xq,aI gr],.agg [aI user,a8 v,a32 c,aB ok]]=some (.tup [.agg [wu,wq,aI ga],aI e]))
 (hwu:Sl 3 (av ([]:List Clear)) wu) (hwq:Sl 5 (ay ([]:List Quota)) wq)
 (hS1:limf env 29 [.agg [aNil,aNil,aI ga],.agg [wu,wq,aI ga]]=some (aB true))
 (h36:limf env 36 [.agg [(.isl 3 (av us) none),aNil,aI gr],x2]=some (.tup [.agg [aNil,aNil,aI gc],aNil,aI h]))
 (h37:limf env 37 [.agg [xu,xq,aI gr],x2]=some (.tup [.agg [zu,zq,aI gc],zy,aI h]))
 (hzu:Sl 3 (av ([]:List Clear)) zu) (hzq:Sl 5 (ay ([]:List Quota)) zq) (hzy:Sl 1 (errs ([]:List Int)) zy)
 (hS2:limf env 29 [.agg [aNil,aNil,aI gc],.agg [zu,zq,aI gc]]=some (aB true)) :
 limf env 8 [.agg [xu,xq,aI gr],.agg [aI user,a8 v,a32 c,aB ok],x2]=some (aB true):=by
 have hG:limf env 18 [.agg [xu,xq,aI gr]]=some (aB false):=by
  rw[cD gr hu hq,show decide ((100:Int)<(us.length:Nat))=false from decide_eq_false (by omega),show decide ((100:Int)<(([]:List Quota).length:Nat))=false from decide_eq_false (by omega)];rfl
 have hc1:=bI user v c ok
 have hc2:=bz user v c ok
 have fin:=fun {ya za yc zc oU oQ x13:AV} {H:Heap} hx hT hA hC=>gt10 (ya:=ya) (za:=za) (yc:=yc) (zc:=zc) (ou:=oU) (oq:=oQ) (ga:=ga) (gc:=gc) (gr:=gr) hu hq (by omega) (by omega) (ua:=([]:List Clear)) (uc:=([]:List Clear)) (by first | omega | (simp;done)) (by first | omega | (simp;done)) (es:=([]:List Int)) (x13:=x13) hzy (by first | omega | (simp;done)) (H:=H) hx hT hA hC (Q:=fun y H=>view H.get 8 y=some (aB true)) (fun y H' e=>by rw[e];rfl) ([]:List Int) 0 0 rfl (by omega) rfl
 have f1:=aw us
 have f2:=bg ([]:List Quota)
 have f3:=aw ([]:List Clear)
 have f4:=aw ([]:List Clear)
 have f5 : ∀n,(errs ([]:List Int)).all (flat (n+1))=true:=fun n=>by simp[List.all_eq_true]
 refine aH (fn:=Try.f8) (c:=ao) rfl (by kernel_rfl) (by kernel_rfl) (by kernel_rfl) (by kernel_rfl) ?_;refine ar _ _ _ _ _ fun g=>?_
 generalize bad (mayG user v c ok)=cc at *
 clear b1 b2
 simp[ae,af,ab,ad,aa, *,aq,hu.r,hq.r,hl.r,hwu.r,hwq.r,hzu.r,hzq.r,hzy.r]
 refine fin ?_ ⟨rfl,rfl,rfl,rfl,?_,?_⟩ ?_ ?_
 ·first | exact aA _ _ _ | exact az rfl (by simp(maxDischargeDepth:=12) [Heap.aj,an,ai,Fr.nil,au,ae,af,ab,ad,al,ah,aa, *]) (by simp)
 ·first | exact aA _ _ _ | exact az rfl (by simp(maxDischargeDepth:=12) [Heap.aj,an,ai,Fr.nil,au,ae,af,ab,ad,al,ah,aa, *]) (by simp)
 ·first | exact aA _ _ _ | exact az rfl (by simp(maxDischargeDepth:=12) [Heap.aj,an,ai,Fr.nil,au,ae,af,ab,ad,al,ah,aa, *]) (by simp)
 ·first | exact aR _ _ _ | exact aP rfl (by simp(maxDischargeDepth:=12) [Heap.aj,an,ai,Fr.nil,au,ae,af,ab,ad,al,ah,aa, *]) (by simp)
 ·first | exact aR _ _ _ | exact aP rfl (by simp(maxDischargeDepth:=12) [Heap.aj,an,ai,Fr.nil,au,ae,af,ab,ad,al,ah,aa, *]) (by simp)
theorem pf{xu xq x2 wu wq zu zq zy:AV}{us:List Clear}{l:List Gr}{user:Int}{v:UInt8}{c:UInt32}{ok:Bool}{ga gc gr e h:Int}
 (hu:Sl 3 (av us) xu) (hq:Sl 5 (ay ([]:List Quota)) xq) (hl:Sl 4 (dH l) x2) (b1:us.length≤100) (b2:([]:List Quota).length≤100)
 (nu:av us≠[])
 (g1:(300:Int)<l.length) (g2 : ¬(l.length:Int)≤2048) (g3 : ¬(2060:Int)<l.length)
 (hT:limf env 20 [.agg [xu,xq,aI gr]]=some (.agg [(.fsl 3 (av us) none),aNil,aI gr]))
 (h34:limf env 34 [.agg [(.isl 3 (av us) none),aNil,aI gr],.agg [aI user,a8 v,a32 c,aB ok]]=some (.tup [.agg [aNil,aNil,aI ga],aI e]))
 (h35:limf env 35 [.agg [xu,xq,aI gr],.agg [aI user,a8 v,a32 c,aB ok]]=some (.tup [.agg [wu,wq,aI ga],aI e]))
 (hwu:Sl 3 (av ([]:List Clear)) wu) (hwq:Sl 5 (ay ([]:List Quota)) wq)
 (hS1:limf env 29 [.agg [aNil,aNil,aI ga],.agg [wu,wq,aI ga]]=some (aB true))
 (h36:limf env 36 [.agg [(.isl 3 (av us) none),aNil,aI gr],x2]=some (.tup [.agg [aNil,aNil,aI gc],aNil,aI h]))
 (h37:limf env 37 [.agg [xu,xq,aI gr],x2]=some (.tup [.agg [zu,zq,aI gc],zy,aI h]))
 (hzu:Sl 3 (av ([]:List Clear)) zu) (hzq:Sl 5 (ay ([]:List Quota)) zq) (hzy:Sl 1 (errs ([]:List Int)) zy)
 (hS2:limf env 29 [.agg [aNil,aNil,aI gc],.agg [zu,zq,aI gc]]=some (aB true)) :
 limf env 8 [.agg [xu,xq,aI gr],.agg [aI user,a8 v,a32 c,aB ok],x2]=some (aB true):=by
 have hG:limf env 18 [.agg [xu,xq,aI gr]]=some (aB false):=by
  rw[cD gr hu hq,show decide ((100:Int)<(us.length:Nat))=false from decide_eq_false (by omega),show decide ((100:Int)<(([]:List Quota).length:Nat))=false from decide_eq_false (by omega)];rfl
 have hc1:=bI user v c ok
 have hc2:=bz user v c ok
 have fin:=fun {ya za yc zc oU oQ x13:AV} {H:Heap} hx hT hA hC=>gt10 (ya:=ya) (za:=za) (yc:=yc) (zc:=zc) (ou:=oU) (oq:=oQ) (ga:=ga) (gc:=gc) (gr:=gr) hu hq (by omega) (by omega) (ua:=([]:List Clear)) (uc:=([]:List Clear)) (by first | omega | (simp;done)) (by first | omega | (simp;done)) (es:=([]:List Int)) (x13:=x13) hzy (by first | omega | (simp;done)) (H:=H) hx hT hA hC (Q:=fun y H=>view H.get 8 y=some (aB true)) (fun y H' e=>by rw[e];rfl) ([]:List Int) 0 0 rfl (by omega) rfl
 have f1:=aw us
 have f2:=bg ([]:List Quota)
 have f3:=aw ([]:List Clear)
 have f4:=aw ([]:List Clear)
 have f5 : ∀n,(errs ([]:List Int)).all (flat (n+1))=true:=fun n=>by simp[List.all_eq_true]
 refine aH (fn:=Try.f8) (c:=ao) rfl (by kernel_rfl) (by kernel_rfl) (by kernel_rfl) (by kernel_rfl) ?_;refine ar _ _ _ _ _ fun g=>?_
 generalize bad (mayG user v c ok)=cc at *
 clear b1 b2
 simp[ae,af,ab,ad,aa, *,aq,hu.r,hq.r,hl.r,hwu.r,hwq.r,hzu.r,hzq.r,hzy.r]
 refine fin ?_ ⟨rfl,rfl,rfl,rfl,?_,?_⟩ ?_ ?_
 ·first | exact aA _ _ _ | exact az rfl (by simp(maxDischargeDepth:=12) [Heap.aj,an,ai,Fr.nil,au,ae,af,ab,ad,al,ah,aa, *]) (by simp)
 ·first | exact aA _ _ _ | exact az rfl (by simp(maxDischargeDepth:=12) [Heap.aj,an,ai,Fr.nil,au,ae,af,ab,ad,al,ah,aa, *]) (by simp)
 ·first | exact aA _ _ _ | exact az rfl (by simp(maxDischargeDepth:=12) [Heap.aj,an,ai,Fr.nil,au,ae,af,ab,ad,al,ah,aa, *]) (by simp)
 ·first | exact aR _ _ _ | exact aP rfl (by simp(maxDischargeDepth:=12) [Heap.aj,an,ai,Fr.nil,au,ae,af,ab,ad,al,ah,aa, *]) (by simp)
 ·first | exact aR _ _ _ | exact aP rfl (by simp(maxDischargeDepth:=12) [Heap.aj,an,ai,Fr.nil,au,ae,af,ab,ad,al,ah,aa, *]) (by simp)
theorem pe{xu xq x2 wu wq zu zq zy:AV}{us:List Clear}{uc:List Clear}{l:List Gr}{user:Int}{v:UInt8}{c:UInt32}{ok:Bool}{ga gc gr e h:Int}
 (hu:Sl 3 (av us) xu) (hq:Sl 5 (ay ([]:List Quota)) xq) (hl:Sl 4 (dH l) x2) (b1:us.length≤100) (b2:([]:List Quota).length≤100)
 (nu:av us≠[])
 (nc:av uc≠[])
 (b5:uc.length≤100)
 (g1 : ¬(300:Int)<l.length) (g3 : ¬(2060:Int)<l.length)
 (hT:limf env 20 [.agg [xu,xq,aI gr]]=some (.agg [(.fsl 3 (av us) none),aNil,aI gr]))
 (h34:limf env 34 [.agg [(.isl 3 (av us) none),aNil,aI gr],.agg [aI user,a8 v,a32 c,aB ok]]=some (.tup [.agg [aNil,aNil,aI ga],aI e]))
 (h35:limf env 35 [.agg [xu,xq,aI gr],.agg [aI user,a8 v,a32 c,aB ok]]=some (.tup [.agg [wu,wq,aI ga],aI e]))
 (hwu:Sl 3 (av ([]:List Clear)) wu) (hwq:Sl 5 (ay ([]:List Quota)) wq)
 (hS1:limf env 29 [.agg [aNil,aNil,aI ga],.agg [wu,wq,aI ga]]=some (aB true))
 (h36:limf env 36 [.agg [(.isl 3 (av us) none),aNil,aI gr],x2]=some (.tup [.agg [(.fsl 3 (av uc) none),aNil,aI gc],aNil,aI h]))
 (h37:limf env 37 [.agg [xu,xq,aI gr],x2]=some (.tup [.agg [zu,zq,aI gc],zy,aI h]))
 (hzu:Sl 3 (av uc) zu) (hzq:Sl 5 (ay ([]:List Quota)) zq) (hzy:Sl 1 (errs ([]:List Int)) zy)
 (hS2:limf env 29 [.agg [(.isl 3 (av uc) none),aNil,aI gc],.agg [zu,zq,aI gc]]=some (aB true)) :
 limf env 8 [.agg [xu,xq,aI gr],.agg [aI user,a8 v,a32 c,aB ok],x2]=some (aB true):=by
 have hG:limf env 18 [.agg [xu,xq,aI gr]]=some (aB false):=by
  rw[cD gr hu hq,show decide ((100:Int)<(us.length:Nat))=false from decide_eq_false (by omega),show decide ((100:Int)<(([]:List Quota).length:Nat))=false from decide_eq_false (by omega)];rfl
 have hc1:=bI user v c ok
 have hc2:=bz user v c ok
 have fin:=fun {ya za yc zc oU oQ x13:AV} {H:Heap} hx hT hA hC=>gt10 (ya:=ya) (za:=za) (yc:=yc) (zc:=zc) (ou:=oU) (oq:=oQ) (ga:=ga) (gc:=gc) (gr:=gr) hu hq (by omega) (by omega) (ua:=([]:List Clear)) (uc:=uc) (by first | omega | (simp;done)) (by first | omega | (simp;done)) (es:=([]:List Int)) (x13:=x13) hzy (by first | omega | (simp;done)) (H:=H) hx hT hA hC (Q:=fun y H=>view H.get 8 y=some (aB true)) (fun y H' e=>by rw[e];rfl) ([]:List Int) 0 0 rfl (by omega) rfl
 have f1:=aw us
 have f2:=bg ([]:List Quota)
 have f3:=aw ([]:List Clear)
 have f4:=aw uc
 have f5 : ∀n,(errs ([]:List Int)).all (flat (n+1))=true:=fun n=>by simp[List.all_eq_true]
 refine aH (fn:=Try.f8) (c:=ao) rfl (by kernel_rfl) (by kernel_rfl) (by kernel_rfl) (by kernel_rfl) ?_;refine ar _ _ _ _ _ fun g=>?_
 generalize bad (mayG user v c ok)=cc at *
 clear b1 b2  b5
 simp[ae,af,ab,ad,aa, *,aq,hu.r,hq.r,hl.r,hwu.r,hwq.r,hzu.r,hzq.r,hzy.r]
 refine fin ?_ ⟨rfl,rfl,rfl,rfl,?_,?_⟩ ?_ ?_
 ·first | exact aA _ _ _ | exact az rfl (by simp(maxDischargeDepth:=12) [Heap.aj,an,ai,Fr.nil,au,ae,af,ab,ad,al,ah,aa, *]) (by simp)
 ·first | exact aA _ _ _ | exact az rfl (by simp(maxDischargeDepth:=12) [Heap.aj,an,ai,Fr.nil,au,ae,af,ab,ad,al,ah,aa, *]) (by simp)
 ·first | exact aA _ _ _ | exact az rfl (by simp(maxDischargeDepth:=12) [Heap.aj,an,ai,Fr.nil,au,ae,af,ab,ad,al,ah,aa, *]) (by simp)
 ·first | exact aR _ _ _ | exact aP rfl (by simp(maxDischargeDepth:=12) [Heap.aj,an,ai,Fr.nil,au,ae,af,ab,ad,al,ah,aa, *]) (by simp)
 ·first | exact aR _ _ _ | exact aP rfl (by simp(maxDischargeDepth:=12) [Heap.aj,an,ai,Fr.nil,au,ae,af,ab,ad,al,ah,aa, *]) (by simp)
theorem pd{xu xq x2 wu wq zu zq zy:AV}{us:List Clear}{uc:List Clear}{es:List Int}{l:List Gr}{user:Int}{v:UInt8}{c:UInt32}{ok:Bool}{ga gc gr e h:Int}
 (hu:Sl 3 (av us) xu) (hq:Sl 5 (ay ([]:List Quota)) xq) (hl:Sl 4 (dH l) x2) (b1:us.length≤100) (b2:([]:List Quota).length≤100)
 (nu:av us≠[])
 (nc:av uc≠[])
 (b5:uc.length≤100)
 (b6:es.length≤300)
 (g1 : ¬(300:Int)<l.length) (g3 : ¬(2060:Int)<l.length)
 (hT:limf env 20 [.agg [xu,xq,aI gr]]=some (.agg [(.fsl 3 (av us) none),aNil,aI gr]))
 (h34:limf env 34 [.agg [(.isl 3 (av us) none),aNil,aI gr],.agg [aI user,a8 v,a32 c,aB ok]]=some (.tup [.agg [aNil,aNil,aI ga],aI e]))
 (h35:limf env 35 [.agg [xu,xq,aI gr],.agg [aI user,a8 v,a32 c,aB ok]]=some (.tup [.agg [wu,wq,aI ga],aI e]))
 (hwu:Sl 3 (av ([]:List Clear)) wu) (hwq:Sl 5 (ay ([]:List Quota)) wq)
 (hS1:limf env 29 [.agg [aNil,aNil,aI ga],.agg [wu,wq,aI ga]]=some (aB true))
 (h36:limf env 36 [.agg [(.isl 3 (av us) none),aNil,aI gr],x2]=some (.tup [.agg [(.fsl 3 (av uc) none),aNil,aI gc],(.fsl 1 (errs es) none),aI h]))
 (h37:limf env 37 [.agg [xu,xq,aI gr],x2]=some (.tup [.agg [zu,zq,aI gc],zy,aI h]))
 (hzu:Sl 3 (av uc) zu) (hzq:Sl 5 (ay ([]:List Quota)) zq) (hzy:Sl 1 (errs es) zy)
 (hS2:limf env 29 [.agg [(.isl 3 (av uc) none),aNil,aI gc],.agg [zu,zq,aI gc]]=some (aB true)) :
 limf env 8 [.agg [xu,xq,aI gr],.agg [aI user,a8 v,a32 c,aB ok],x2]=some (aB true):=by
 have hG:limf env 18 [.agg [xu,xq,aI gr]]=some (aB false):=by
  rw[cD gr hu hq,show decide ((100:Int)<(us.length:Nat))=false from decide_eq_false (by omega),show decide ((100:Int)<(([]:List Quota).length:Nat))=false from decide_eq_false (by omega)];rfl
 have hc1:=bI user v c ok
 have hc2:=bz user v c ok
 have fin:=fun {ya za yc zc oU oQ x13:AV} {H:Heap} hx hT hA hC=>gt10 (ya:=ya) (za:=za) (yc:=yc) (zc:=zc) (ou:=oU) (oq:=oQ) (ga:=ga) (gc:=gc) (gr:=gr) hu hq (by omega) (by omega) (ua:=([]:List Clear)) (uc:=uc) (by first | omega | (simp;done)) (by first | omega | (simp;done)) (es:=es) (x13:=x13) hzy (by first | omega | (simp;done)) (H:=H) hx hT hA hC (Q:=fun y H=>view H.get 8 y=some (aB true)) (fun y H' e=>by rw[e];rfl) es 0 0 rfl (by omega) rfl
 have f1:=aw us
 have f2:=bg ([]:List Quota)
 have f3:=aw ([]:List Clear)
 have f4:=aw uc
 have f5 : ∀n,(errs es).all (flat (n+1))=true:=fun n=>by simp[List.all_eq_true]
 refine aH (fn:=Try.f8) (c:=ao) rfl (by kernel_rfl) (by kernel_rfl) (by kernel_rfl) (by kernel_rfl) ?_;refine ar _ _ _ _ _ fun g=>?_
 generalize bad (mayG user v c ok)=cc at *
 clear b1 b2  b5 b6
 simp[ae,af,ab,ad,aa, *,aq,hu.r,hq.r,hl.r,hwu.r,hwq.r,hzu.r,hzq.r,hzy.r]
 refine fin ?_ ⟨rfl,rfl,rfl,rfl,?_,?_⟩ ?_ ?_
 ·first | exact aA _ _ _ | exact az rfl (by simp(maxDischargeDepth:=12) [Heap.aj,an,ai,Fr.nil,au,ae,af,ab,ad,al,ah,aa, *]) (by simp)
 ·first | exact aA _ _ _ | exact az rfl (by simp(maxDischargeDepth:=12) [Heap.aj,an,ai,Fr.nil,au,ae,af,ab,ad,al,ah,aa, *]) (by simp)
 ·first | exact aA _ _ _ | exact az rfl (by simp(maxDischargeDepth:=12) [Heap.aj,an,ai,Fr.nil,au,ae,af,ab,ad,al,ah,aa, *]) (by simp)
 ·first | exact aR _ _ _ | exact aP rfl (by simp(maxDischargeDepth:=12) [Heap.aj,an,ai,Fr.nil,au,ae,af,ab,ad,al,ah,aa, *]) (by simp)
 ·first | exact aR _ _ _ | exact aP rfl (by simp(maxDischargeDepth:=12) [Heap.aj,an,ai,Fr.nil,au,ae,af,ab,ad,al,ah,aa, *]) (by simp)
theorem pb{xu xq x2 wu wq zu zq zy:AV}{us:List Clear}{ua:List Clear}{l:List Gr}{user:Int}{v:UInt8}{c:UInt32}{ok:Bool}{ga gc gr e h:Int}
 (hu:Sl 3 (av us) xu) (hq:Sl 5 (ay ([]:List Quota)) xq) (hl:Sl 4 (dH l) x2) (b1:us.length≤100) (b2:([]:List Quota).length≤100)
 (nu:av us≠[])
 (na:av ua≠[])
 (b4:ua.length≤100)
 (g1 : ¬(300:Int)<l.length) (g3 : ¬(2060:Int)<l.length)
 (hT:limf env 20 [.agg [xu,xq,aI gr]]=some (.agg [(.fsl 3 (av us) none),aNil,aI gr]))
 (h34:limf env 34 [.agg [(.isl 3 (av us) none),aNil,aI gr],.agg [aI user,a8 v,a32 c,aB ok]]=some (.tup [.agg [(.fsl 3 (av ua) none),aNil,aI ga],aI e]))
 (h35:limf env 35 [.agg [xu,xq,aI gr],.agg [aI user,a8 v,a32 c,aB ok]]=some (.tup [.agg [wu,wq,aI ga],aI e]))
 (hwu:Sl 3 (av ua) wu) (hwq:Sl 5 (ay ([]:List Quota)) wq)
 (hS1:limf env 29 [.agg [(.isl 3 (av ua) none),aNil,aI ga],.agg [wu,wq,aI ga]]=some (aB true))
 (h36:limf env 36 [.agg [(.isl 3 (av us) none),aNil,aI gr],x2]=some (.tup [.agg [aNil,aNil,aI gc],aNil,aI h]))
 (h37:limf env 37 [.agg [xu,xq,aI gr],x2]=some (.tup [.agg [zu,zq,aI gc],zy,aI h]))
 (hzu:Sl 3 (av ([]:List Clear)) zu) (hzq:Sl 5 (ay ([]:List Quota)) zq) (hzy:Sl 1 (errs ([]:List Int)) zy)
 (hS2:limf env 29 [.agg [aNil,aNil,aI gc],.agg [zu,zq,aI gc]]=some (aB true)) :
 limf env 8 [.agg [xu,xq,aI gr],.agg [aI user,a8 v,a32 c,aB ok],x2]=some (aB true):=by
 have hG:limf env 18 [.agg [xu,xq,aI gr]]=some (aB false):=by
  rw[cD gr hu hq,show decide ((100:Int)<(us.length:Nat))=false from decide_eq_false (by omega),show decide ((100:Int)<(([]:List Quota).length:Nat))=false from decide_eq_false (by omega)];rfl
 have hc1:=bI user v c ok
 have hc2:=bz user v c ok
 have fin:=fun {ya za yc zc oU oQ x13:AV} {H:Heap} hx hT hA hC=>gt10 (ya:=ya) (za:=za) (yc:=yc) (zc:=zc) (ou:=oU) (oq:=oQ) (ga:=ga) (gc:=gc) (gr:=gr) hu hq (by omega) (by omega) (ua:=ua) (uc:=([]:List Clear)) (by first | omega | (simp;done)) (by first | omega | (simp;done)) (es:=([]:List Int)) (x13:=x13) hzy (by first | omega | (simp;done)) (H:=H) hx hT hA hC (Q:=fun y H=>view H.get 8 y=some (aB true)) (fun y H' e=>by rw[e];rfl) ([]:List Int) 0 0 rfl (by omega) rfl
 have f1:=aw us
 have f2:=bg ([]:List Quota)
 have f3:=aw ua
 have f4:=aw ([]:List Clear)
 have f5 : ∀n,(errs ([]:List Int)).all (flat (n+1))=true:=fun n=>by simp[List.all_eq_true]
 refine aH (fn:=Try.f8) (c:=ao) rfl (by kernel_rfl) (by kernel_rfl) (by kernel_rfl) (by kernel_rfl) ?_;refine ar _ _ _ _ _ fun g=>?_
 generalize bad (mayG user v c ok)=cc at *
 clear b1 b2 b4
 simp[ae,af,ab,ad,aa, *,aq,hu.r,hq.r,hl.r,hwu.r,hwq.r,hzu.r,hzq.r,hzy.r]
 refine fin ?_ ⟨rfl,rfl,rfl,rfl,?_,?_⟩ ?_ ?_
 ·first | exact aA _ _ _ | exact az rfl (by simp(maxDischargeDepth:=12) [Heap.aj,an,ai,Fr.nil,au,ae,af,ab,ad,al,ah,aa, *]) (by simp)
 ·first | exact aA _ _ _ | exact az rfl (by simp(maxDischargeDepth:=12) [Heap.aj,an,ai,Fr.nil,au,ae,af,ab,ad,al,ah,aa, *]) (by simp)
 ·first | exact aA _ _ _ | exact az rfl (by simp(maxDischargeDepth:=12) [Heap.aj,an,ai,Fr.nil,au,ae,af,ab,ad,al,ah,aa, *]) (by simp)
 ·first | exact aR _ _ _ | exact aP rfl (by simp(maxDischargeDepth:=12) [Heap.aj,an,ai,Fr.nil,au,ae,af,ab,ad,al,ah,aa, *]) (by simp)
 ·first | exact aR _ _ _ | exact aP rfl (by simp(maxDischargeDepth:=12) [Heap.aj,an,ai,Fr.nil,au,ae,af,ab,ad,al,ah,aa, *]) (by simp)
theorem pa{xu xq x2 wu wq zu zq zy:AV}{us:List Clear}{ua:List Clear}{l:List Gr}{user:Int}{v:UInt8}{c:UInt32}{ok:Bool}{ga gc gr e h:Int}
 (hu:Sl 3 (av us) xu) (hq:Sl 5 (ay ([]:List Quota)) xq) (hl:Sl 4 (dH l) x2) (b1:us.length≤100) (b2:([]:List Quota).length≤100)
 (nu:av us≠[])
 (na:av ua≠[])
 (b4:ua.length≤100)
 (g1:(300:Int)<l.length) (g2 : ¬(l.length:Int)≤2048) (g3 : ¬(2060:Int)<l.length)
 (hT:limf env 20 [.agg [xu,xq,aI gr]]=some (.agg [(.fsl 3 (av us) none),aNil,aI gr]))
 (h34:limf env 34 [.agg [(.isl 3 (av us) none),aNil,aI gr],.agg [aI user,a8 v,a32 c,aB ok]]=some (.tup [.agg [(.fsl 3 (av ua) none),aNil,aI ga],aI e]))
 (h35:limf env 35 [.agg [xu,xq,aI gr],.agg [aI user,a8 v,a32 c,aB ok]]=some (.tup [.agg [wu,wq,aI ga],aI e]))
 (hwu:Sl 3 (av ua) wu) (hwq:Sl 5 (ay ([]:List Quota)) wq)
 (hS1:limf env 29 [.agg [(.isl 3 (av ua) none),aNil,aI ga],.agg [wu,wq,aI ga]]=some (aB true))
 (h36:limf env 36 [.agg [(.isl 3 (av us) none),aNil,aI gr],x2]=some (.tup [.agg [aNil,aNil,aI gc],aNil,aI h]))
 (h37:limf env 37 [.agg [xu,xq,aI gr],x2]=some (.tup [.agg [zu,zq,aI gc],zy,aI h]))
 (hzu:Sl 3 (av ([]:List Clear)) zu) (hzq:Sl 5 (ay ([]:List Quota)) zq) (hzy:Sl 1 (errs ([]:List Int)) zy)
 (hS2:limf env 29 [.agg [aNil,aNil,aI gc],.agg [zu,zq,aI gc]]=some (aB true)) :
 limf env 8 [.agg [xu,xq,aI gr],.agg [aI user,a8 v,a32 c,aB ok],x2]=some (aB true):=by
 have hG:limf env 18 [.agg [xu,xq,aI gr]]=some (aB false):=by
  rw[cD gr hu hq,show decide ((100:Int)<(us.length:Nat))=false from decide_eq_false (by omega),show decide ((100:Int)<(([]:List Quota).length:Nat))=false from decide_eq_false (by omega)];rfl
 have hc1:=bI user v c ok
 have hc2:=bz user v c ok
 have fin:=fun {ya za yc zc oU oQ x13:AV} {H:Heap} hx hT hA hC=>gt10 (ya:=ya) (za:=za) (yc:=yc) (zc:=zc) (ou:=oU) (oq:=oQ) (ga:=ga) (gc:=gc) (gr:=gr) hu hq (by omega) (by omega) (ua:=ua) (uc:=([]:List Clear)) (by first | omega | (simp;done)) (by first | omega | (simp;done)) (es:=([]:List Int)) (x13:=x13) hzy (by first | omega | (simp;done)) (H:=H) hx hT hA hC (Q:=fun y H=>view H.get 8 y=some (aB true)) (fun y H' e=>by rw[e];rfl) ([]:List Int) 0 0 rfl (by omega) rfl
 have f1:=aw us
 have f2:=bg ([]:List Quota)
 have f3:=aw ua
 have f4:=aw ([]:List Clear)
 have f5 : ∀n,(errs ([]:List Int)).all (flat (n+1))=true:=fun n=>by simp[List.all_eq_true]
 refine aH (fn:=Try.f8) (c:=ao) rfl (by kernel_rfl) (by kernel_rfl) (by kernel_rfl) (by kernel_rfl) ?_;refine ar _ _ _ _ _ fun g=>?_
 generalize bad (mayG user v c ok)=cc at *
 clear b1 b2 b4
 simp[ae,af,ab,ad,aa, *,aq,hu.r,hq.r,hl.r,hwu.r,hwq.r,hzu.r,hzq.r,hzy.r]
 refine fin ?_ ⟨rfl,rfl,rfl,rfl,?_,?_⟩ ?_ ?_
 ·first | exact aA _ _ _ | exact az rfl (by simp(maxDischargeDepth:=12) [Heap.aj,an,ai,Fr.nil,au,ae,af,ab,ad,al,ah,aa, *]) (by simp)
 ·first | exact aA _ _ _ | exact az rfl (by simp(maxDischargeDepth:=12) [Heap.aj,an,ai,Fr.nil,au,ae,af,ab,ad,al,ah,aa, *]) (by simp)
 ·first | exact aA _ _ _ | exact az rfl (by simp(maxDischargeDepth:=12) [Heap.aj,an,ai,Fr.nil,au,ae,af,ab,ad,al,ah,aa, *]) (by simp)
 ·first | exact aR _ _ _ | exact aP rfl (by simp(maxDischargeDepth:=12) [Heap.aj,an,ai,Fr.nil,au,ae,af,ab,ad,al,ah,aa, *]) (by simp)
 ·first | exact aR _ _ _ | exact aP rfl (by simp(maxDischargeDepth:=12) [Heap.aj,an,ai,Fr.nil,au,ae,af,ab,ad,al,ah,aa, *]) (by simp)
theorem o9{xu xq x2 wu wq zu zq zy:AV}{us:List Clear}{ua:List Clear}{uc:List Clear}{l:List Gr}{user:Int}{v:UInt8}{c:UInt32}{ok:Bool}{ga gc gr e h:Int}
 (hu:Sl 3 (av us) xu) (hq:Sl 5 (ay ([]:List Quota)) xq) (hl:Sl 4 (dH l) x2) (b1:us.length≤100) (b2:([]:List Quota).length≤100)
 (nu:av us≠[])
 (na:av ua≠[])
 (nc:av uc≠[])
 (b4:ua.length≤100)
 (b5:uc.length≤100)
 (g1 : ¬(300:Int)<l.length) (g3 : ¬(2060:Int)<l.length)
 (hT:limf env 20 [.agg [xu,xq,aI gr]]=some (.agg [(.fsl 3 (av us) none),aNil,aI gr]))
 (h34:limf env 34 [.agg [(.isl 3 (av us) none),aNil,aI gr],.agg [aI user,a8 v,a32 c,aB ok]]=some (.tup [.agg [(.fsl 3 (av ua) none),aNil,aI ga],aI e]))
 (h35:limf env 35 [.agg [xu,xq,aI gr],.agg [aI user,a8 v,a32 c,aB ok]]=some (.tup [.agg [wu,wq,aI ga],aI e]))
 (hwu:Sl 3 (av ua) wu) (hwq:Sl 5 (ay ([]:List Quota)) wq)
 (hS1:limf env 29 [.agg [(.isl 3 (av ua) none),aNil,aI ga],.agg [wu,wq,aI ga]]=some (aB true))
 (h36:limf env 36 [.agg [(.isl 3 (av us) none),aNil,aI gr],x2]=some (.tup [.agg [(.fsl 3 (av uc) none),aNil,aI gc],aNil,aI h]))
 (h37:limf env 37 [.agg [xu,xq,aI gr],x2]=some (.tup [.agg [zu,zq,aI gc],zy,aI h]))
 (hzu:Sl 3 (av uc) zu) (hzq:Sl 5 (ay ([]:List Quota)) zq) (hzy:Sl 1 (errs ([]:List Int)) zy)
 (hS2:limf env 29 [.agg [(.isl 3 (av uc) none),aNil,aI gc],.agg [zu,zq,aI gc]]=some (aB true)) :
 limf env 8 [.agg [xu,xq,aI gr],.agg [aI user,a8 v,a32 c,aB ok],x2]=some (aB true):=by
 have hG:limf env 18 [.agg [xu,xq,aI gr]]=some (aB false):=by
  rw[cD gr hu hq,show decide ((100:Int)<(us.length:Nat))=false from decide_eq_false (by omega),show decide ((100:Int)<(([]:List Quota).length:Nat))=false from decide_eq_false (by omega)];rfl
 have hc1:=bI user v c ok
 have hc2:=bz user v c ok
 have fin:=fun {ya za yc zc oU oQ x13:AV} {H:Heap} hx hT hA hC=>gt10 (ya:=ya) (za:=za) (yc:=yc) (zc:=zc) (ou:=oU) (oq:=oQ) (ga:=ga) (gc:=gc) (gr:=gr) hu hq (by omega) (by omega) (ua:=ua) (uc:=uc) (by first | omega | (simp;done)) (by first | omega | (simp;done)) (es:=([]:List Int)) (x13:=x13) hzy (by first | omega | (simp;done)) (H:=H) hx hT hA hC (Q:=fun y H=>view H.get 8 y=some (aB true)) (fun y H' e=>by rw[e];rfl) ([]:List Int) 0 0 rfl (by omega) rfl
 have f1:=aw us
 have f2:=bg ([]:List Quota)
 have f3:=aw ua
 have f4:=aw uc
 have f5 : ∀n,(errs ([]:List Int)).all (flat (n+1))=true:=fun n=>by simp[List.all_eq_true]
 refine aH (fn:=Try.f8) (c:=ao) rfl (by kernel_rfl) (by kernel_rfl) (by kernel_rfl) (by kernel_rfl) ?_;refine ar _ _ _ _ _ fun g=>?_
 generalize bad (mayG user v c ok)=cc at *
 clear b1 b2 b4 b5
 simp[ae,af,ab,ad,aa, *,aq,hu.r,hq.r,hl.r,hwu.r,hwq.r,hzu.r,hzq.r,hzy.r]
 refine fin ?_ ⟨rfl,rfl,rfl,rfl,?_,?_⟩ ?_ ?_
 ·first | exact aA _ _ _ | exact az rfl (by simp(maxDischargeDepth:=12) [Heap.aj,an,ai,Fr.nil,au,ae,af,ab,ad,al,ah,aa, *]) (by simp)
 ·first | exact aA _ _ _ | exact az rfl (by simp(maxDischargeDepth:=12) [Heap.aj,an,ai,Fr.nil,au,ae,af,ab,ad,al,ah,aa, *]) (by simp)
 ·first | exact aA _ _ _ | exact az rfl (by simp(maxDischargeDepth:=12) [Heap.aj,an,ai,Fr.nil,au,ae,af,ab,ad,al,ah,aa, *]) (by simp)
 ·first | exact aR _ _ _ | exact aP rfl (by simp(maxDischargeDepth:=12) [Heap.aj,an,ai,Fr.nil,au,ae,af,ab,ad,al,ah,aa, *]) (by simp)
 ·first | exact aR _ _ _ | exact aP rfl (by simp(maxDischargeDepth:=12) [Heap.aj,an,ai,Fr.nil,au,ae,af,ab,ad,al,ah,aa, *]) (by simp)
theorem o7{xu xq x2 wu wq zu zq zy:AV}{us:List Clear}{ua:List Clear}{uc:List Clear}{es:List Int}{l:List Gr}{user:Int}{v:UInt8}{c:UInt32}{ok:Bool}{ga gc gr e h:Int}
 (hu:Sl 3 (av us) xu) (hq:Sl 5 (ay ([]:List Quota)) xq) (hl:Sl 4 (dH l) x2) (b1:us.length≤100) (b2:([]:List Quota).length≤100)
 (nu:av us≠[])
 (na:av ua≠[])
 (nc:av uc≠[])
 (b4:ua.length≤100)
 (b5:uc.length≤100)
 (b6:es.length≤300)
 (g1 : ¬(300:Int)<l.length) (g3 : ¬(2060:Int)<l.length)
 (hT:limf env 20 [.agg [xu,xq,aI gr]]=some (.agg [(.fsl 3 (av us) none),aNil,aI gr]))
 (h34:limf env 34 [.agg [(.isl 3 (av us) none),aNil,aI gr],.agg [aI user,a8 v,a32 c,aB ok]]=some (.tup [.agg [(.fsl 3 (av ua) none),aNil,aI ga],aI e]))
 (h35:limf env 35 [.agg [xu,xq,aI gr],.agg [aI user,a8 v,a32 c,aB ok]]=some (.tup [.agg [wu,wq,aI ga],aI e]))
 (hwu:Sl 3 (av ua) wu) (hwq:Sl 5 (ay ([]:List Quota)) wq)
 (hS1:limf env 29 [.agg [(.isl 3 (av ua) none),aNil,aI ga],.agg [wu,wq,aI ga]]=some (aB true))
 (h36:limf env 36 [.agg [(.isl 3 (av us) none),aNil,aI gr],x2]=some (.tup [.agg [(.fsl 3 (av uc) none),aNil,aI gc],(.fsl 1 (errs es) none),aI h]))
 (h37:limf env 37 [.agg [xu,xq,aI gr],x2]=some (.tup [.agg [zu,zq,aI gc],zy,aI h]))
 (hzu:Sl 3 (av uc) zu) (hzq:Sl 5 (ay ([]:List Quota)) zq) (hzy:Sl 1 (errs es) zy)
 (hS2:limf env 29 [.agg [(.isl 3 (av uc) none),aNil,aI gc],.agg [zu,zq,aI gc]]=some (aB true)) :
 limf env 8 [.agg [xu,xq,aI gr],.agg [aI user,a8 v,a32 c,aB ok],x2]=some (aB true):=by
 have hG:limf env 18 [.agg [xu,xq,aI gr]]=some (aB false):=by
  rw[cD gr hu hq,show decide ((100:Int)<(us.length:Nat))=false from decide_eq_false (by omega),show decide ((100:Int)<(([]:List Quota).length:Nat))=false from decide_eq_false (by omega)];rfl
 have hc1:=bI user v c ok
 have hc2:=bz user v c ok
 have fin:=fun {ya za yc zc oU oQ x13:AV} {H:Heap} hx hT hA hC=>gt10 (ya:=ya) (za:=za) (yc:=yc) (zc:=zc) (ou:=oU) (oq:=oQ) (ga:=ga) (gc:=gc) (gr:=gr) hu hq (by omega) (by omega) (ua:=ua) (uc:=uc) (by first | omega | (simp;done)) (by first | omega | (simp;done)) (es:=es) (x13:=x13) hzy (by first | omega | (simp;done)) (H:=H) hx hT hA hC (Q:=fun y H=>view H.get 8 y=some (aB true)) (fun y H' e=>by rw[e];rfl) es 0 0 rfl (by omega) rfl
 have f1:=aw us
 have f2:=bg ([]:List Quota)
 have f3:=aw ua
 have f4:=aw uc
 have f5 : ∀n,(errs es).all (flat (n+1))=true:=fun n=>by simp[List.all_eq_true]
 refine aH (fn:=Try.f8) (c:=ao) rfl (by kernel_rfl) (by kernel_rfl) (by kernel_rfl) (by kernel_rfl) ?_;refine ar _ _ _ _ _ fun g=>?_
 generalize bad (mayG user v c ok)=cc at *
 clear b1 b2 b4 b5 b6
 simp[ae,af,ab,ad,aa, *,aq,hu.r,hq.r,hl.r,hwu.r,hwq.r,hzu.r,hzq.r,hzy.r]
 refine fin ?_ ⟨rfl,rfl,rfl,rfl,?_,?_⟩ ?_ ?_
 ·first | exact aA _ _ _ | exact az rfl (by simp(maxDischargeDepth:=12) [Heap.aj,an,ai,Fr.nil,au,ae,af,ab,ad,al,ah,aa, *]) (by simp)
 ·first | exact aA _ _ _ | exact az rfl (by simp(maxDischargeDepth:=12) [Heap.aj,an,ai,Fr.nil,au,ae,af,ab,ad,al,ah,aa, *]) (by simp)
 ·first | exact aA _ _ _ | exact az rfl (by simp(maxDischargeDepth:=12) [Heap.aj,an,ai,Fr.nil,au,ae,af,ab,ad,al,ah,aa, *]) (by simp)
 ·first | exact aR _ _ _ | exact aP rfl (by simp(maxDischargeDepth:=12) [Heap.aj,an,ai,Fr.nil,au,ae,af,ab,ad,al,ah,aa, *]) (by simp)
 ·first | exact aR _ _ _ | exact aP rfl (by simp(maxDischargeDepth:=12) [Heap.aj,an,ai,Fr.nil,au,ae,af,ab,ad,al,ah,aa, *]) (by simp)
theorem o6{xu xq x2 wu wq zu zq zy:AV}{us:List Clear}{qs:List Quota}{l:List Gr}{user:Int}{v:UInt8}{c:UInt32}{ok:Bool}{ga gc gr e h:Int}
 (hu:Sl 3 (av us) xu) (hq:Sl 5 (ay qs) xq) (hl:Sl 4 (dH l) x2) (b1:us.length≤100) (b2:qs.length≤100)
 (nu:av us≠[])
 (nq:ay qs≠[])
 (g1 : ¬(300:Int)<l.length) (g3 : ¬(2060:Int)<l.length)
 (hT:limf env 20 [.agg [xu,xq,aI gr]]=some (.agg [(.fsl 3 (av us) none),(.fsl 5 (ay qs) none),aI gr]))
 (h34:limf env 34 [.agg [(.isl 3 (av us) none),(.isl 5 (ay qs) none),aI gr],.agg [aI user,a8 v,a32 c,aB ok]]=some (.tup [.agg [aNil,aNil,aI ga],aI e]))
 (h35:limf env 35 [.agg [xu,xq,aI gr],.agg [aI user,a8 v,a32 c,aB ok]]=some (.tup [.agg [wu,wq,aI ga],aI e]))
 (hwu:Sl 3 (av ([]:List Clear)) wu) (hwq:Sl 5 (ay ([]:List Quota)) wq)
 (hS1:limf env 29 [.agg [aNil,aNil,aI ga],.agg [wu,wq,aI ga]]=some (aB true))
 (h36:limf env 36 [.agg [(.isl 3 (av us) none),(.isl 5 (ay qs) none),aI gr],x2]=some (.tup [.agg [aNil,aNil,aI gc],aNil,aI h]))
 (h37:limf env 37 [.agg [xu,xq,aI gr],x2]=some (.tup [.agg [zu,zq,aI gc],zy,aI h]))
 (hzu:Sl 3 (av ([]:List Clear)) zu) (hzq:Sl 5 (ay ([]:List Quota)) zq) (hzy:Sl 1 (errs ([]:List Int)) zy)
 (hS2:limf env 29 [.agg [aNil,aNil,aI gc],.agg [zu,zq,aI gc]]=some (aB true)) :
 limf env 8 [.agg [xu,xq,aI gr],.agg [aI user,a8 v,a32 c,aB ok],x2]=some (aB true):=by
 have hG:limf env 18 [.agg [xu,xq,aI gr]]=some (aB false):=by
  rw[cD gr hu hq,show decide ((100:Int)<(us.length:Nat))=false from decide_eq_false (by omega),show decide ((100:Int)<(qs.length:Nat))=false from decide_eq_false (by omega)];rfl
 have hc1:=bI user v c ok
 have hc2:=bz user v c ok
 have fin:=fun {ya za yc zc oU oQ x13:AV} {H:Heap} hx hT hA hC=>gt10 (ya:=ya) (za:=za) (yc:=yc) (zc:=zc) (ou:=oU) (oq:=oQ) (ga:=ga) (gc:=gc) (gr:=gr) hu hq (by omega) (by omega) (ua:=([]:List Clear)) (uc:=([]:List Clear)) (by first | omega | (simp;done)) (by first | omega | (simp;done)) (es:=([]:List Int)) (x13:=x13) hzy (by first | omega | (simp;done)) (H:=H) hx hT hA hC (Q:=fun y H=>view H.get 8 y=some (aB true)) (fun y H' e=>by rw[e];rfl) ([]:List Int) 0 0 rfl (by omega) rfl
 have f1:=aw us
 have f2:=bg qs
 have f3:=aw ([]:List Clear)
 have f4:=aw ([]:List Clear)
 have f5 : ∀n,(errs ([]:List Int)).all (flat (n+1))=true:=fun n=>by simp[List.all_eq_true]
 refine aH (fn:=Try.f8) (c:=ao) rfl (by kernel_rfl) (by kernel_rfl) (by kernel_rfl) (by kernel_rfl) ?_;refine ar _ _ _ _ _ fun g=>?_
 generalize bad (mayG user v c ok)=cc at *
 clear b1 b2
 simp[ae,af,ab,ad,aa, *,aq,hu.r,hq.r,hl.r,hwu.r,hwq.r,hzu.r,hzq.r,hzy.r]
 refine fin ?_ ⟨rfl,rfl,rfl,rfl,?_,?_⟩ ?_ ?_
 ·first | exact aA _ _ _ | exact az rfl (by simp(maxDischargeDepth:=12) [Heap.aj,an,ai,Fr.nil,au,ae,af,ab,ad,al,ah,aa, *]) (by simp)
 ·first | exact aA _ _ _ | exact az rfl (by simp(maxDischargeDepth:=12) [Heap.aj,an,ai,Fr.nil,au,ae,af,ab,ad,al,ah,aa, *]) (by simp)
 ·first | exact aA _ _ _ | exact az rfl (by simp(maxDischargeDepth:=12) [Heap.aj,an,ai,Fr.nil,au,ae,af,ab,ad,al,ah,aa, *]) (by simp)
 ·first | exact aR _ _ _ | exact aP rfl (by simp(maxDischargeDepth:=12) [Heap.aj,an,ai,Fr.nil,au,ae,af,ab,ad,al,ah,aa, *]) (by simp)
 ·first | exact aR _ _ _ | exact aP rfl (by simp(maxDischargeDepth:=12) [Heap.aj,an,ai,Fr.nil,au,ae,af,ab,ad,al,ah,aa, *]) (by simp)
theorem o5{xu xq x2 wu wq zu zq zy:AV}{us:List Clear}{qs:List Quota}{l:List Gr}{user:Int}{v:UInt8}{c:UInt32}{ok:Bool}{ga gc gr e h:Int}
 (hu:Sl 3 (av us) xu) (hq:Sl 5 (ay qs) xq) (hl:Sl 4 (dH l) x2) (b1:us.length≤100) (b2:qs.length≤100)
 (nu:av us≠[])
 (nq:ay qs≠[])
 (g1:(300:Int)<l.length) (g2 : ¬(l.length:Int)≤2048) (g3 : ¬(2060:Int)<l.length)
 (hT:limf env 20 [.agg [xu,xq,aI gr]]=some (.agg [(.fsl 3 (av us) none),(.fsl 5 (ay qs) none),aI gr]))
 (h34:limf env 34 [.agg [(.isl 3 (av us) none),(.isl 5 (ay qs) none),aI gr],.agg [aI user,a8 v,a32 c,aB ok]]=some (.tup [.agg [aNil,aNil,aI ga],aI e]))
 (h35:limf env 35 [.agg [xu,xq,aI gr],.agg [aI user,a8 v,a32 c,aB ok]]=some (.tup [.agg [wu,wq,aI ga],aI e]))
 (hwu:Sl 3 (av ([]:List Clear)) wu) (hwq:Sl 5 (ay ([]:List Quota)) wq)
 (hS1:limf env 29 [.agg [aNil,aNil,aI ga],.agg [wu,wq,aI ga]]=some (aB true))
 (h36:limf env 36 [.agg [(.isl 3 (av us) none),(.isl 5 (ay qs) none),aI gr],x2]=some (.tup [.agg [aNil,aNil,aI gc],aNil,aI h]))
 (h37:limf env 37 [.agg [xu,xq,aI gr],x2]=some (.tup [.agg [zu,zq,aI gc],zy,aI h]))
 (hzu:Sl 3 (av ([]:List Clear)) zu) (hzq:Sl 5 (ay ([]:List Quota)) zq) (hzy:Sl 1 (errs ([]:List Int)) zy)
 (hS2:limf env 29 [.agg [aNil,aNil,aI gc],.agg [zu,zq,aI gc]]=some (aB true)) :
 limf env 8 [.agg [xu,xq,aI gr],.agg [aI user,a8 v,a32 c,aB ok],x2]=some (aB true):=by
 have hG:limf env 18 [.agg [xu,xq,aI gr]]=some (aB false):=by
  rw[cD gr hu hq,show decide ((100:Int)<(us.length:Nat))=false from decide_eq_false (by omega),show decide ((100:Int)<(qs.length:Nat))=false from decide_eq_false (by omega)];rfl
 have hc1:=bI user v c ok
 have hc2:=bz user v c ok
 have fin:=fun {ya za yc zc oU oQ x13:AV} {H:Heap} hx hT hA hC=>gt10 (ya:=ya) (za:=za) (yc:=yc) (zc:=zc) (ou:=oU) (oq:=oQ) (ga:=ga) (gc:=gc) (gr:=gr) hu hq (by omega) (by omega) (ua:=([]:List Clear)) (uc:=([]:List Clear)) (by first | omega | (simp;done)) (by first | omega | (simp;done)) (es:=([]:List Int)) (x13:=x13) hzy (by first | omega | (simp;done)) (H:=H) hx hT hA hC (Q:=fun y H=>view H.get 8 y=some (aB true)) (fun y H' e=>by rw[e];rfl) ([]:List Int) 0 0 rfl (by omega) rfl
 have f1:=aw us
 have f2:=bg qs
 have f3:=aw ([]:List Clear)
 have f4:=aw ([]:List Clear)
 have f5 : ∀n,(errs ([]:List Int)).all (flat (n+1))=true:=fun n=>by simp[List.all_eq_true]
 refine aH (fn:=Try.f8) (c:=ao) rfl (by kernel_rfl) (by kernel_rfl) (by kernel_rfl) (by kernel_rfl) ?_;refine ar _ _ _ _ _ fun g=>?_
 generalize bad (mayG user v c ok)=cc at *
 clear b1 b2
 simp[ae,af,ab,ad,aa, *,aq,hu.r,hq.r,hl.r,hwu.r,hwq.r,hzu.r,hzq.r,hzy.r]
 refine fin ?_ ⟨rfl,rfl,rfl,rfl,?_,?_⟩ ?_ ?_
 ·first | exact aA _ _ _ | exact az rfl (by simp(maxDischargeDepth:=12) [Heap.aj,an,ai,Fr.nil,au,ae,af,ab,ad,al,ah,aa, *]) (by simp)
 ·first | exact aA _ _ _ | exact az rfl (by simp(maxDischargeDepth:=12) [Heap.aj,an,ai,Fr.nil,au,ae,af,ab,ad,al,ah,aa, *]) (by simp)
 ·first | exact aA _ _ _ | exact az rfl (by simp(maxDischargeDepth:=12) [Heap.aj,an,ai,Fr.nil,au,ae,af,ab,ad,al,ah,aa, *]) (by simp)
 ·first | exact aR _ _ _ | exact aP rfl (by simp(maxDischargeDepth:=12) [Heap.aj,an,ai,Fr.nil,au,ae,af,ab,ad,al,ah,aa, *]) (by simp)
 ·first | exact aR _ _ _ | exact aP rfl (by simp(maxDischargeDepth:=12) [Heap.aj,an,ai,Fr.nil,au,ae,af,ab,ad,al,ah,aa, *]) (by simp)
theorem o4{xu xq x2 wu wq zu zq zy:AV}{us:List Clear}{uc:List Clear}{qs:List Quota}{l:List Gr}{user:Int}{v:UInt8}{c:UInt32}{ok:Bool}{ga gc gr e h:Int}
 (hu:Sl 3 (av us) xu) (hq:Sl 5 (ay qs) xq) (hl:Sl 4 (dH l) x2) (b1:us.length≤100) (b2:qs.length≤100)
 (nu:av us≠[])
 (nq:ay qs≠[])
 (nc:av uc≠[])
 (b5:uc.length≤100)
 (g1 : ¬(300:Int)<l.length) (g3 : ¬(2060:Int)<l.length)
 (hT:limf env 20 [.agg [xu,xq,aI gr]]=some (.agg [(.fsl 3 (av us) none),(.fsl 5 (ay qs) none),aI gr]))
 (h34:limf env 34 [.agg [(.isl 3 (av us) none),(.isl 5 (ay qs) none),aI gr],.agg [aI user,a8 v,a32 c,aB ok]]=some (.tup [.agg [aNil,aNil,aI ga],aI e]))
 (h35:limf env 35 [.agg [xu,xq,aI gr],.agg [aI user,a8 v,a32 c,aB ok]]=some (.tup [.agg [wu,wq,aI ga],aI e]))
 (hwu:Sl 3 (av ([]:List Clear)) wu) (hwq:Sl 5 (ay ([]:List Quota)) wq)
 (hS1:limf env 29 [.agg [aNil,aNil,aI ga],.agg [wu,wq,aI ga]]=some (aB true))
 (h36:limf env 36 [.agg [(.isl 3 (av us) none),(.isl 5 (ay qs) none),aI gr],x2]=some (.tup [.agg [(.fsl 3 (av uc) none),(.fsl 5 (ay qs) none),aI gc],aNil,aI h]))
 (h37:limf env 37 [.agg [xu,xq,aI gr],x2]=some (.tup [.agg [zu,zq,aI gc],zy,aI h]))
 (hzu:Sl 3 (av uc) zu) (hzq:Sl 5 (ay qs) zq) (hzy:Sl 1 (errs ([]:List Int)) zy)
 (hS2:limf env 29 [.agg [(.isl 3 (av uc) none),(.isl 5 (ay qs) none),aI gc],.agg [zu,zq,aI gc]]=some (aB true)) :
 limf env 8 [.agg [xu,xq,aI gr],.agg [aI user,a8 v,a32 c,aB ok],x2]=some (aB true):=by
 have hG:limf env 18 [.agg [xu,xq,aI gr]]=some (aB false):=by
  rw[cD gr hu hq,show decide ((100:Int)<(us.length:Nat))=false from decide_eq_false (by omega),show decide ((100:Int)<(qs.length:Nat))=false from decide_eq_false (by omega)];rfl
 have hc1:=bI user v c ok
 have hc2:=bz user v c ok
 have fin:=fun {ya za yc zc oU oQ x13:AV} {H:Heap} hx hT hA hC=>gt10 (ya:=ya) (za:=za) (yc:=yc) (zc:=zc) (ou:=oU) (oq:=oQ) (ga:=ga) (gc:=gc) (gr:=gr) hu hq (by omega) (by omega) (ua:=([]:List Clear)) (uc:=uc) (by first | omega | (simp;done)) (by first | omega | (simp;done)) (es:=([]:List Int)) (x13:=x13) hzy (by first | omega | (simp;done)) (H:=H) hx hT hA hC (Q:=fun y H=>view H.get 8 y=some (aB true)) (fun y H' e=>by rw[e];rfl) ([]:List Int) 0 0 rfl (by omega) rfl
 have f1:=aw us
 have f2:=bg qs
 have f3:=aw ([]:List Clear)
 have f4:=aw uc
 have f5 : ∀n,(errs ([]:List Int)).all (flat (n+1))=true:=fun n=>by simp[List.all_eq_true]
 refine aH (fn:=Try.f8) (c:=ao) rfl (by kernel_rfl) (by kernel_rfl) (by kernel_rfl) (by kernel_rfl) ?_;refine ar _ _ _ _ _ fun g=>?_
 generalize bad (mayG user v c ok)=cc at *
 clear b1 b2  b5
 simp[ae,af,ab,ad,aa, *,aq,hu.r,hq.r,hl.r,hwu.r,hwq.r,hzu.r,hzq.r,hzy.r]
 refine fin ?_ ⟨rfl,rfl,rfl,rfl,?_,?_⟩ ?_ ?_
 ·first | exact aA _ _ _ | exact az rfl (by simp(maxDischargeDepth:=12) [Heap.aj,an,ai,Fr.nil,au,ae,af,ab,ad,al,ah,aa, *]) (by simp)
 ·first | exact aA _ _ _ | exact az rfl (by simp(maxDischargeDepth:=12) [Heap.aj,an,ai,Fr.nil,au,ae,af,ab,ad,al,ah,aa, *]) (by simp)
 ·first | exact aA _ _ _ | exact az rfl (by simp(maxDischargeDepth:=12) [Heap.aj,an,ai,Fr.nil,au,ae,af,ab,ad,al,ah,aa, *]) (by simp)
 ·first | exact aR _ _ _ | exact aP rfl (by simp(maxDischargeDepth:=12) [Heap.aj,an,ai,Fr.nil,au,ae,af,ab,ad,al,ah,aa, *]) (by simp)
 ·first | exact aR _ _ _ | exact aP rfl (by simp(maxDischargeDepth:=12) [Heap.aj,an,ai,Fr.nil,au,ae,af,ab,ad,al,ah,aa, *]) (by simp)
theorem o3{xu xq x2 wu wq zu zq zy:AV}{us:List Clear}{uc:List Clear}{qs:List Quota}{es:List Int}{l:List Gr}{user:Int}{v:UInt8}{c:UInt32}{ok:Bool}{ga gc gr e h:Int}
 (hu:Sl 3 (av us) xu) (hq:Sl 5 (ay qs) xq) (hl:Sl 4 (dH l) x2) (b1:us.length≤100) (b2:qs.length≤100)
 (nu:av us≠[])
 (nq:ay qs≠[])
 (nc:av uc≠[])
 (b5:uc.length≤100)
 (b6:es.length≤300)
 (g1 : ¬(300:Int)<l.length) (g3 : ¬(2060:Int)<l.length)
 (hT:limf env 20 [.agg [xu,xq,aI gr]]=some (.agg [(.fsl 3 (av us) none),(.fsl 5 (ay qs) none),aI gr]))
 (h34:limf env 34 [.agg [(.isl 3 (av us) none),(.isl 5 (ay qs) none),aI gr],.agg [aI user,a8 v,a32 c,aB ok]]=some (.tup [.agg [aNil,aNil,aI ga],aI e]))
 (h35:limf env 35 [.agg [xu,xq,aI gr],.agg [aI user,a8 v,a32 c,aB ok]]=some (.tup [.agg [wu,wq,aI ga],aI e]))
 (hwu:Sl 3 (av ([]:List Clear)) wu) (hwq:Sl 5 (ay ([]:List Quota)) wq)
 (hS1:limf env 29 [.agg [aNil,aNil,aI ga],.agg [wu,wq,aI ga]]=some (aB true))
 (h36:limf env 36 [.agg [(.isl 3 (av us) none),(.isl 5 (ay qs) none),aI gr],x2]=some (.tup [.agg [(.fsl 3 (av uc) none),(.fsl 5 (ay qs) none),aI gc],(.fsl 1 (errs es) none),aI h]))
 (h37:limf env 37 [.agg [xu,xq,aI gr],x2]=some (.tup [.agg [zu,zq,aI gc],zy,aI h]))
 (hzu:Sl 3 (av uc) zu) (hzq:Sl 5 (ay qs) zq) (hzy:Sl 1 (errs es) zy)
 (hS2:limf env 29 [.agg [(.isl 3 (av uc) none),(.isl 5 (ay qs) none),aI gc],.agg [zu,zq,aI gc]]=some (aB true)) :
 limf env 8 [.agg [xu,xq,aI gr],.agg [aI user,a8 v,a32 c,aB ok],x2]=some (aB true):=by
 have hG:limf env 18 [.agg [xu,xq,aI gr]]=some (aB false):=by
  rw[cD gr hu hq,show decide ((100:Int)<(us.length:Nat))=false from decide_eq_false (by omega),show decide ((100:Int)<(qs.length:Nat))=false from decide_eq_false (by omega)];rfl
 have hc1:=bI user v c ok
 have hc2:=bz user v c ok
 have fin:=fun {ya za yc zc oU oQ x13:AV} {H:Heap} hx hT hA hC=>gt10 (ya:=ya) (za:=za) (yc:=yc) (zc:=zc) (ou:=oU) (oq:=oQ) (ga:=ga) (gc:=gc) (gr:=gr) hu hq (by omega) (by omega) (ua:=([]:List Clear)) (uc:=uc) (by first | omega | (simp;done)) (by first | omega | (simp;done)) (es:=es) (x13:=x13) hzy (by first | omega | (simp;done)) (H:=H) hx hT hA hC (Q:=fun y H=>view H.get 8 y=some (aB true)) (fun y H' e=>by rw[e];rfl) es 0 0 rfl (by omega) rfl
 have f1:=aw us
 have f2:=bg qs
 have f3:=aw ([]:List Clear)
 have f4:=aw uc
 have f5 : ∀n,(errs es).all (flat (n+1))=true:=fun n=>by simp[List.all_eq_true]
 refine aH (fn:=Try.f8) (c:=ao) rfl (by kernel_rfl) (by kernel_rfl) (by kernel_rfl) (by kernel_rfl) ?_;refine ar _ _ _ _ _ fun g=>?_
 generalize bad (mayG user v c ok)=cc at *
 clear b1 b2  b5 b6
 simp[ae,af,ab,ad,aa, *,aq,hu.r,hq.r,hl.r,hwu.r,hwq.r,hzu.r,hzq.r,hzy.r]
 refine fin ?_ ⟨rfl,rfl,rfl,rfl,?_,?_⟩ ?_ ?_
 ·first | exact aA _ _ _ | exact az rfl (by simp(maxDischargeDepth:=12) [Heap.aj,an,ai,Fr.nil,au,ae,af,ab,ad,al,ah,aa, *]) (by simp)
 ·first | exact aA _ _ _ | exact az rfl (by simp(maxDischargeDepth:=12) [Heap.aj,an,ai,Fr.nil,au,ae,af,ab,ad,al,ah,aa, *]) (by simp)
 ·first | exact aA _ _ _ | exact az rfl (by simp(maxDischargeDepth:=12) [Heap.aj,an,ai,Fr.nil,au,ae,af,ab,ad,al,ah,aa, *]) (by simp)
 ·first | exact aR _ _ _ | exact aP rfl (by simp(maxDischargeDepth:=12) [Heap.aj,an,ai,Fr.nil,au,ae,af,ab,ad,al,ah,aa, *]) (by simp)
 ·first | exact aR _ _ _ | exact aP rfl (by simp(maxDischargeDepth:=12) [Heap.aj,an,ai,Fr.nil,au,ae,af,ab,ad,al,ah,aa, *]) (by simp)
theorem o2{xu xq x2 wu wq zu zq zy:AV}{us:List Clear}{ua:List Clear}{qs:List Quota}{l:List Gr}{user:Int}{v:UInt8}{c:UInt32}{ok:Bool}{ga gc gr e h:Int}
 (hu:Sl 3 (av us) xu) (hq:Sl 5 (ay qs) xq) (hl:Sl 4 (dH l) x2) (b1:us.length≤100) (b2:qs.length≤100)
 (nu:av us≠[])
 (nq:ay qs≠[])
 (na:av ua≠[])
 (b4:ua.length≤100)
 (g1 : ¬(300:Int)<l.length) (g3 : ¬(2060:Int)<l.length)
 (hT:limf env 20 [.agg [xu,xq,aI gr]]=some (.agg [(.fsl 3 (av us) none),(.fsl 5 (ay qs) none),aI gr]))
 (h34:limf env 34 [.agg [(.isl 3 (av us) none),(.isl 5 (ay qs) none),aI gr],.agg [aI user,a8 v,a32 c,aB ok]]=some (.tup [.agg [(.fsl 3 (av ua) none),(.fsl 5 (ay qs) none),aI ga],aI e]))
 (h35:limf env 35 [.agg [xu,xq,aI gr],.agg [aI user,a8 v,a32 c,aB ok]]=some (.tup [.agg [wu,wq,aI ga],aI e]))
 (hwu:Sl 3 (av ua) wu) (hwq:Sl 5 (ay qs) wq)
 (hS1:limf env 29 [.agg [(.isl 3 (av ua) none),(.isl 5 (ay qs) none),aI ga],.agg [wu,wq,aI ga]]=some (aB true))
 (h36:limf env 36 [.agg [(.isl 3 (av us) none),(.isl 5 (ay qs) none),aI gr],x2]=some (.tup [.agg [aNil,aNil,aI gc],aNil,aI h]))
 (h37:limf env 37 [.agg [xu,xq,aI gr],x2]=some (.tup [.agg [zu,zq,aI gc],zy,aI h]))
 (hzu:Sl 3 (av ([]:List Clear)) zu) (hzq:Sl 5 (ay ([]:List Quota)) zq) (hzy:Sl 1 (errs ([]:List Int)) zy)
 (hS2:limf env 29 [.agg [aNil,aNil,aI gc],.agg [zu,zq,aI gc]]=some (aB true)) :
 limf env 8 [.agg [xu,xq,aI gr],.agg [aI user,a8 v,a32 c,aB ok],x2]=some (aB true):=by
 have hG:limf env 18 [.agg [xu,xq,aI gr]]=some (aB false):=by
  rw[cD gr hu hq,show decide ((100:Int)<(us.length:Nat))=false from decide_eq_false (by omega),show decide ((100:Int)<(qs.length:Nat))=false from decide_eq_false (by omega)];rfl
 have hc1:=bI user v c ok
 have hc2:=bz user v c ok
 have fin:=fun {ya za yc zc oU oQ x13:AV} {H:Heap} hx hT hA hC=>gt10 (ya:=ya) (za:=za) (yc:=yc) (zc:=zc) (ou:=oU) (oq:=oQ) (ga:=ga) (gc:=gc) (gr:=gr) hu hq (by omega) (by omega) (ua:=ua) (uc:=([]:List Clear)) (by first | omega | (simp;done)) (by first | omega | (simp;done)) (es:=([]:List Int)) (x13:=x13) hzy (by first | omega | (simp;done)) (H:=H) hx hT hA hC (Q:=fun y H=>view H.get 8 y=some (aB true)) (fun y H' e=>by rw[e];rfl) ([]:List Int) 0 0 rfl (by omega) rfl
 have f1:=aw us
 have f2:=bg qs
 have f3:=aw ua
 have f4:=aw ([]:List Clear)
 have f5 : ∀n,(errs ([]:List Int)).all (flat (n+1))=true:=fun n=>by simp[List.all_eq_true]
 refine aH (fn:=Try.f8) (c:=ao) rfl (by kernel_rfl) (by kernel_rfl) (by kernel_rfl) (by kernel_rfl) ?_;refine ar _ _ _ _ _ fun g=>?_
 generalize bad (mayG user v c ok)=cc at *
 clear b1 b2 b4
 simp[ae,af,ab,ad,aa, *,aq,hu.r,hq.r,hl.r,hwu.r,hwq.r,hzu.r,hzq.r,hzy.r]
 refine fin ?_ ⟨rfl,rfl,rfl,rfl,?_,?_⟩ ?_ ?_
 ·first | exact aA _ _ _ | exact az rfl (by simp(maxDischargeDepth:=12) [Heap.aj,an,ai,Fr.nil,au,ae,af,ab,ad,al,ah,aa, *]) (by simp)
 ·first | exact aA _ _ _ | exact az rfl (by simp(maxDischargeDepth:=12) [Heap.aj,an,ai,Fr.nil,au,ae,af,ab,ad,al,ah,aa, *]) (by simp)
 ·first | exact aA _ _ _ | exact az rfl (by simp(maxDischargeDepth:=12) [Heap.aj,an,ai,Fr.nil,au,ae,af,ab,ad,al,ah,aa, *]) (by simp)
 ·first | exact aR _ _ _ | exact aP rfl (by simp(maxDischargeDepth:=12) [Heap.aj,an,ai,Fr.nil,au,ae,af,ab,ad,al,ah,aa, *]) (by simp)
 ·first | exact aR _ _ _ | exact aP rfl (by simp(maxDischargeDepth:=12) [Heap.aj,an,ai,Fr.nil,au,ae,af,ab,ad,al,ah,aa, *]) (by simp)
theorem o1{xu xq x2 wu wq zu zq zy:AV}{us:List Clear}{ua:List Clear}{qs:List Quota}{l:List Gr}{user:Int}{v:UInt8}{c:UInt32}{ok:Bool}{ga gc gr e h:Int}
 (hu:Sl 3 (av us) xu) (hq:Sl 5 (ay qs) xq) (hl:Sl 4 (dH l) x2) (b1:us.length≤100) (b2:qs.length≤100)
 (nu:av us≠[])
 (nq:ay qs≠[])
 (na:av ua≠[])
 (b4:ua.length≤100)
 (g1:(300:Int)<l.length) (g2 : ¬(l.length:Int)≤2048) (g3 : ¬(2060:Int)<l.length)
 (hT:limf env 20 [.agg [xu,xq,aI gr]]=some (.agg [(.fsl 3 (av us) none),(.fsl 5 (ay qs) none),aI gr]))
 (h34:limf env 34 [.agg [(.isl 3 (av us) none),(.isl 5 (ay qs) none),aI gr],.agg [aI user,a8 v,a32 c,aB ok]]=some (.tup [.agg [(.fsl 3 (av ua) none),(.fsl 5 (ay qs) none),aI ga],aI e]))
 (h35:limf env 35 [.agg [xu,xq,aI gr],.agg [aI user,a8 v,a32 c,aB ok]]=some (.tup [.agg [wu,wq,aI ga],aI e]))
 (hwu:Sl 3 (av ua) wu) (hwq:Sl 5 (ay qs) wq)
 (hS1:limf env 29 [.agg [(.isl 3 (av ua) none),(.isl 5 (ay qs) none),aI ga],.agg [wu,wq,aI ga]]=some (aB true))
 (h36:limf env 36 [.agg [(.isl 3 (av us) none),(.isl 5 (ay qs) none),aI gr],x2]=some (.tup [.agg [aNil,aNil,aI gc],aNil,aI h]))
 (h37:limf env 37 [.agg [xu,xq,aI gr],x2]=some (.tup [.agg [zu,zq,aI gc],zy,aI h]))
 (hzu:Sl 3 (av ([]:List Clear)) zu) (hzq:Sl 5 (ay ([]:List Quota)) zq) (hzy:Sl 1 (errs ([]:List Int)) zy)
 (hS2:limf env 29 [.agg [aNil,aNil,aI gc],.agg [zu,zq,aI gc]]=some (aB true)) :
 limf env 8 [.agg [xu,xq,aI gr],.agg [aI user,a8 v,a32 c,aB ok],x2]=some (aB true):=by
 have hG:limf env 18 [.agg [xu,xq,aI gr]]=some (aB false):=by
  rw[cD gr hu hq,show decide ((100:Int)<(us.length:Nat))=false from decide_eq_false (by omega),show decide ((100:Int)<(qs.length:Nat))=false from decide_eq_false (by omega)];rfl
 have hc1:=bI user v c ok
 have hc2:=bz user v c ok
 have fin:=fun {ya za yc zc oU oQ x13:AV} {H:Heap} hx hT hA hC=>gt10 (ya:=ya) (za:=za) (yc:=yc) (zc:=zc) (ou:=oU) (oq:=oQ) (ga:=ga) (gc:=gc) (gr:=gr) hu hq (by omega) (by omega) (ua:=ua) (uc:=([]:List Clear)) (by first | omega | (simp;done)) (by first | omega | (simp;done)) (es:=([]:List Int)) (x13:=x13) hzy (by first | omega | (simp;done)) (H:=H) hx hT hA hC (Q:=fun y H=>view H.get 8 y=some (aB true)) (fun y H' e=>by rw[e];rfl) ([]:List Int) 0 0 rfl (by omega) rfl
 have f1:=aw us
 have f2:=bg qs
 have f3:=aw ua
 have f4:=aw ([]:List Clear)
 have f5 : ∀n,(errs ([]:List Int)).all (flat (n+1))=true:=fun n=>by simp[List.all_eq_true]
 refine aH (fn:=Try.f8) (c:=ao) rfl (by kernel_rfl) (by kernel_rfl) (by kernel_rfl) (by kernel_rfl) ?_;refine ar _ _ _ _ _ fun g=>?_
 generalize bad (mayG user v c ok)=cc at *
 clear b1 b2 b4
 simp[ae,af,ab,ad,aa, *,aq,hu.r,hq.r,hl.r,hwu.r,hwq.r,hzu.r,hzq.r,hzy.r]
 refine fin ?_ ⟨rfl,rfl,rfl,rfl,?_,?_⟩ ?_ ?_
 ·first | exact aA _ _ _ | exact az rfl (by simp(maxDischargeDepth:=12) [Heap.aj,an,ai,Fr.nil,au,ae,af,ab,ad,al,ah,aa, *]) (by simp)
 ·first | exact aA _ _ _ | exact az rfl (by simp(maxDischargeDepth:=12) [Heap.aj,an,ai,Fr.nil,au,ae,af,ab,ad,al,ah,aa, *]) (by simp)
 ·first | exact aA _ _ _ | exact az rfl (by simp(maxDischargeDepth:=12) [Heap.aj,an,ai,Fr.nil,au,ae,af,ab,ad,al,ah,aa, *]) (by simp)
 ·first | exact aR _ _ _ | exact aP rfl (by simp(maxDischargeDepth:=12) [Heap.aj,an,ai,Fr.nil,au,ae,af,ab,ad,al,ah,aa, *]) (by simp)
 ·first | exact aR _ _ _ | exact aP rfl (by simp(maxDischargeDepth:=12) [Heap.aj,an,ai,Fr.nil,au,ae,af,ab,ad,al,ah,aa, *]) (by simp)
theorem oZ{xu xq x2 wu wq zu zq zy:AV}{us:List Clear}{ua:List Clear}{uc:List Clear}{qs:List Quota}{l:List Gr}{user:Int}{v:UInt8}{c:UInt32}{ok:Bool}{ga gc gr e h:Int}
 (hu:Sl 3 (av us) xu) (hq:Sl 5 (ay qs) xq) (hl:Sl 4 (dH l) x2) (b1:us.length≤100) (b2:qs.length≤100)
 (nu:av us≠[])
 (nq:ay qs≠[])
 (na:av ua≠[])
 (nc:av uc≠[])
 (b4:ua.length≤100)
 (b5:uc.length≤100)
 (g1 : ¬(300:Int)<l.length) (g3 : ¬(2060:Int)<l.length)
 (hT:limf env 20 [.agg [xu,xq,aI gr]]=some (.agg [(.fsl 3 (av us) none),(.fsl 5 (ay qs) none),aI gr]))
 (h34:limf env 34 [.agg [(.isl 3 (av us) none),(.isl 5 (ay qs) none),aI gr],.agg [aI user,a8 v,a32 c,aB ok]]=some (.tup [.agg [(.fsl 3 (av ua) none),(.fsl 5 (ay qs) none),aI ga],aI e]))
 (h35:limf env 35 [.agg [xu,xq,aI gr],.agg [aI user,a8 v,a32 c,aB ok]]=some (.tup [.agg [wu,wq,aI ga],aI e]))
 (hwu:Sl 3 (av ua) wu) (hwq:Sl 5 (ay qs) wq)
 (hS1:limf env 29 [.agg [(.isl 3 (av ua) none),(.isl 5 (ay qs) none),aI ga],.agg [wu,wq,aI ga]]=some (aB true))
 (h36:limf env 36 [.agg [(.isl 3 (av us) none),(.isl 5 (ay qs) none),aI gr],x2]=some (.tup [.agg [(.fsl 3 (av uc) none),(.fsl 5 (ay qs) none),aI gc],aNil,aI h]))
 (h37:limf env 37 [.agg [xu,xq,aI gr],x2]=some (.tup [.agg [zu,zq,aI gc],zy,aI h]))
 (hzu:Sl 3 (av uc) zu) (hzq:Sl 5 (ay qs) zq) (hzy:Sl 1 (errs ([]:List Int)) zy)
 (hS2:limf env 29 [.agg [(.isl 3 (av uc) none),(.isl 5 (ay qs) none),aI gc],.agg [zu,zq,aI gc]]=some (aB true)) :
 limf env 8 [.agg [xu,xq,aI gr],.agg [aI user,a8 v,a32 c,aB ok],x2]=some (aB true):=by
 have hG:limf env 18 [.agg [xu,xq,aI gr]]=some (aB false):=by
  rw[cD gr hu hq,show decide ((100:Int)<(us.length:Nat))=false from decide_eq_false (by omega),show decide ((100:Int)<(qs.length:Nat))=false from decide_eq_false (by omega)];rfl
 have hc1:=bI user v c ok
 have hc2:=bz user v c ok
 have fin:=fun {ya za yc zc oU oQ x13:AV} {H:Heap} hx hT hA hC=>gt10 (ya:=ya) (za:=za) (yc:=yc) (zc:=zc) (ou:=oU) (oq:=oQ) (ga:=ga) (gc:=gc) (gr:=gr) hu hq (by omega) (by omega) (ua:=ua) (uc:=uc) (by first | omega | (simp;done)) (by first | omega | (simp;done)) (es:=([]:List Int)) (x13:=x13) hzy (by first | omega | (simp;done)) (H:=H) hx hT hA hC (Q:=fun y H=>view H.get 8 y=some (aB true)) (fun y H' e=>by rw[e];rfl) ([]:List Int) 0 0 rfl (by omega) rfl
 have f1:=aw us
 have f2:=bg qs
 have f3:=aw ua
 have f4:=aw uc
 have f5 : ∀n,(errs ([]:List Int)).all (flat (n+1))=true:=fun n=>by simp[List.all_eq_true]
 refine aH (fn:=Try.f8) (c:=ao) rfl (by kernel_rfl) (by kernel_rfl) (by kernel_rfl) (by kernel_rfl) ?_;refine ar _ _ _ _ _ fun g=>?_
 generalize bad (mayG user v c ok)=cc at *
 clear b1 b2 b4 b5
 simp[ae,af,ab,ad,aa, *,aq,hu.r,hq.r,hl.r,hwu.r,hwq.r,hzu.r,hzq.r,hzy.r]
 refine fin ?_ ⟨rfl,rfl,rfl,rfl,?_,?_⟩ ?_ ?_
 ·first | exact aA _ _ _ | exact az rfl (by simp(maxDischargeDepth:=12) [Heap.aj,an,ai,Fr.nil,au,ae,af,ab,ad,al,ah,aa, *]) (by simp)
 ·first | exact aA _ _ _ | exact az rfl (by simp(maxDischargeDepth:=12) [Heap.aj,an,ai,Fr.nil,au,ae,af,ab,ad,al,ah,aa, *]) (by simp)
 ·first | exact aA _ _ _ | exact az rfl (by simp(maxDischargeDepth:=12) [Heap.aj,an,ai,Fr.nil,au,ae,af,ab,ad,al,ah,aa, *]) (by simp)
 ·first | exact aR _ _ _ | exact aP rfl (by simp(maxDischargeDepth:=12) [Heap.aj,an,ai,Fr.nil,au,ae,af,ab,ad,al,ah,aa, *]) (by simp)
 ·first | exact aR _ _ _ | exact aP rfl (by simp(maxDischargeDepth:=12) [Heap.aj,an,ai,Fr.nil,au,ae,af,ab,ad,al,ah,aa, *]) (by simp)
theorem oY{xu xq x2 wu wq zu zq zy:AV}{us:List Clear}{ua:List Clear}{uc:List Clear}{qs:List Quota}{es:List Int}{l:List Gr}{user:Int}{v:UInt8}{c:UInt32}{ok:Bool}{ga gc gr e h:Int}
 (hu:Sl 3 (av us) xu) (hq:Sl 5 (ay qs) xq) (hl:Sl 4 (dH l) x2) (b1:us.length≤100) (b2:qs.length≤100)
 (nu:av us≠[])
 (nq:ay qs≠[])
 (na:av ua≠[])
 (nc:av uc≠[])
 (b4:ua.length≤100)
 (b5:uc.length≤100)
 (b6:es.length≤300)
 (g1 : ¬(300:Int)<l.length) (g3 : ¬(2060:Int)<l.length)
 (hT:limf env 20 [.agg [xu,xq,aI gr]]=some (.agg [(.fsl 3 (av us) none),(.fsl 5 (ay qs) none),aI gr]))
 (h34:limf env 34 [.agg [(.isl 3 (av us) none),(.isl 5 (ay qs) none),aI gr],.agg [aI user,a8 v,a32 c,aB ok]]=some (.tup [.agg [(.fsl 3 (av ua) none),(.fsl 5 (ay qs) none),aI ga],aI e]))
 (h35:limf env 35 [.agg [xu,xq,aI gr],.agg [aI user,a8 v,a32 c,aB ok]]=some (.tup [.agg [wu,wq,aI ga],aI e]))
 (hwu:Sl 3 (av ua) wu) (hwq:Sl 5 (ay qs) wq)
 (hS1:limf env 29 [.agg [(.isl 3 (av ua) none),(.isl 5 (ay qs) none),aI ga],.agg [wu,wq,aI ga]]=some (aB true))
 (h36:limf env 36 [.agg [(.isl 3 (av us) none),(.isl 5 (ay qs) none),aI gr],x2]=some (.tup [.agg [(.fsl 3 (av uc) none),(.fsl 5 (ay qs) none),aI gc],(.fsl 1 (errs es) none),aI h]))
 (h37:limf env 37 [.agg [xu,xq,aI gr],x2]=some (.tup [.agg [zu,zq,aI gc],zy,aI h]))
 (hzu:Sl 3 (av uc) zu) (hzq:Sl 5 (ay qs) zq) (hzy:Sl 1 (errs es) zy)
 (hS2:limf env 29 [.agg [(.isl 3 (av uc) none),(.isl 5 (ay qs) none),aI gc],.agg [zu,zq,aI gc]]=some (aB true)) :
 limf env 8 [.agg [xu,xq,aI gr],.agg [aI user,a8 v,a32 c,aB ok],x2]=some (aB true):=by
 have hG:limf env 18 [.agg [xu,xq,aI gr]]=some (aB false):=by
  rw[cD gr hu hq,show decide ((100:Int)<(us.length:Nat))=false from decide_eq_false (by omega),show decide ((100:Int)<(qs.length:Nat))=false from decide_eq_false (by omega)];rfl
 have hc1:=bI user v c ok
 have hc2:=bz user v c ok
 have fin:=fun {ya za yc zc oU oQ x13:AV} {H:Heap} hx hT hA hC=>gt10 (ya:=ya) (za:=za) (yc:=yc) (zc:=zc) (ou:=oU) (oq:=oQ) (ga:=ga) (gc:=gc) (gr:=gr) hu hq (by omega) (by omega) (ua:=ua) (uc:=uc) (by first | omega | (simp;done)) (by first | omega | (simp;done)) (es:=es) (x13:=x13) hzy (by first | omega | (simp;done)) (H:=H) hx hT hA hC (Q:=fun y H=>view H.get 8 y=some (aB true)) (fun y H' e=>by rw[e];rfl) es 0 0 rfl (by omega) rfl
 have f1:=aw us
 have f2:=bg qs
 have f3:=aw ua
 have f4:=aw uc
 have f5 : ∀n,(errs es).all (flat (n+1))=true:=fun n=>by simp[List.all_eq_true]
 refine aH (fn:=Try.f8) (c:=ao) rfl (by kernel_rfl) (by kernel_rfl) (by kernel_rfl) (by kernel_rfl) ?_;refine ar _ _ _ _ _ fun g=>?_
 generalize bad (mayG user v c ok)=cc at *
 clear b1 b2 b4 b5 b6
 simp[ae,af,ab,ad,aa, *,aq,hu.r,hq.r,hl.r,hwu.r,hwq.r,hzu.r,hzq.r,hzy.r]
 refine fin ?_ ⟨rfl,rfl,rfl,rfl,?_,?_⟩ ?_ ?_
 ·first | exact aA _ _ _ | exact az rfl (by simp(maxDischargeDepth:=12) [Heap.aj,an,ai,Fr.nil,au,ae,af,ab,ad,al,ah,aa, *]) (by simp)
 ·first | exact aA _ _ _ | exact az rfl (by simp(maxDischargeDepth:=12) [Heap.aj,an,ai,Fr.nil,au,ae,af,ab,ad,al,ah,aa, *]) (by simp)
 ·first | exact aA _ _ _ | exact az rfl (by simp(maxDischargeDepth:=12) [Heap.aj,an,ai,Fr.nil,au,ae,af,ab,ad,al,ah,aa, *]) (by simp)
 ·first | exact aR _ _ _ | exact aP rfl (by simp(maxDischargeDepth:=12) [Heap.aj,an,ai,Fr.nil,au,ae,af,ab,ad,al,ah,aa, *]) (by simp)
 ·first | exact aR _ _ _ | exact aP rfl (by simp(maxDischargeDepth:=12) [Heap.aj,an,ai,Fr.nil,au,ae,af,ab,ad,al,ah,aa, *]) (by simp)
end Go.Proofs.Ytgooemdlilfkmaa
