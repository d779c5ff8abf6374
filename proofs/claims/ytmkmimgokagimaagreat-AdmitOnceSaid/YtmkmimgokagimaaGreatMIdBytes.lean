/-
  What is to be shown of each function, computed from its code. No statement of a seat is proved here.
-/
import Derived.Test.YtmkmimgokagimaaGreatLeTy
import Derived.Test.YtmkmimgokagimaaGreatLeVc1
import Derived.Test.YtmkmimgokagimaaGreatMLePol
set_option linter.unusedVariables false
set_option linter.unusedSimpArgs false
set_option linter.unusedSectionVars false
set_option linter.unnecessarySimpa false
set_option maxRecDepth 1000000
namespace Go.Proofs.YtmkmimgokagimaaGreat
open Go.Ab
noncomputable def rL:Code:=(Tryz.f82.body).getD .skip
def zt:Nat→Option (List Nat):=fun i=>none
def zZ:Nat→Bool:=fun i=>false
def sf(g:Nat→AV)(x0:AV)(H:Heap)(Q:AV→Heap→Prop):Prop :=
 doW (Zc H 1 62 x0) fun v1 H1 =>
 doQ (Zb H1 62 v1) fun v2 =>
 doQ (Yh 173 0 v2) fun v3 =>
 doW (Za true H1 8 101 [v3]) fun v4 H2 =>
 doQ (Zw v4 0) fun v5 =>
 doQ (Zw v4 1) fun v6 =>
 doQ (Zz v6) fun v7 =>
 br (some v7) (
 Q (.v (.int .i64 8)) H2) (
 Q (.v (.int .i64 0)) H2)
theorem yI(x0:AV)(H:Heap)(Q:AV→Heap→Prop)(h : ∀g,sf g x0 H Q):GoL env Tryz.f82 0 [.code rL] [(0,x0)] H Q:=⟨fun g=>aJ (live:=zt) (cut:=zZ) (n:=500) (Eq.mp (by kernel_rfl) (h g))⟩
noncomputable def oD:Code:=(Tryz.f152.body).getD .skip
def A3:Nat→Option (List Nat):=fun i=>none
def Bm:Nat→Bool:=fun i=>false
def im(g:Nat→AV)(x0 x1:AV)(H:Heap)(Q:AV→Heap→Prop):Prop :=
 doW (Zc H 2 25 x0) fun v1 H1 =>
 doW (Zc H1 3 60 x1) fun v2 H2 =>
 doW (Zg H2 4 25) fun v3 H3 =>
 doQ (Zb H3 25 v1) fun v4 =>
 doW (Za false H3 11 102 [v4]) fun v5 H4 =>
 doQ (Zb H4 60 v2) fun v6 =>
 doW (Za false H4 13 202 [v6]) fun v7 H5 =>
 doQ (Z9 H5 14 42 42 v5 v7) fun v8 =>
 doQ (Ze 42 15 0 v8) fun v9 =>
 br (some v9) (
 doQ (ZS 25) fun v10 =>
 doW (Zl H5 25 v3 v10) fun v11 H6 =>
 doQ (ZV H6 v3 25) fun v12 =>
 Q (.tup [v12,v8]) H6) (
 doQ (Zb H5 25 v1) fun v10 =>
 doQ (Zb H5 60 v2) fun v11 =>
 doW (Za true H5 21 203 [v10,v11]) fun v12 H6 =>
 doQ (om env.P (some v12) 25 true) fun v13 =>
 doQ (Zw v13 0) fun v14 =>
 doQ (Zw v13 1) fun v15 =>
 doW (Zg H6 8 25) fun v16 H7 =>
 doW (Zl H7 25 v16 v14) fun v17 H8 =>
 br (some v15) (
 doQ (Zb H8 25 v16) fun v18 =>
 doW (Zl H8 25 v3 v18) fun v19 H9 =>
 doQ (ZV H9 v3 25) fun v20 =>
 Q (.tup [v20,(.v (.int .i64 0))]) H9) (
 doQ (ZS 25) fun v18 =>
 doQ (om env.P (some v12) 42 false) fun v19 =>
 doW (Zl H8 25 v3 v18) fun v20 H9 =>
 doQ (ZV H9 v3 25) fun v21 =>
 Q (.tup [v21,v19]) H9))
theorem tg(x0 x1:AV)(H:Heap)(Q:AV→Heap→Prop)(h : ∀g,im g x0 x1 H Q):GoL env Tryz.f152 0 [.code oD] [(0,x0),(1,x1)] H Q:=⟨fun g=>aJ (live:=A3) (cut:=Bm) (n:=500) (Eq.mp (by kernel_rfl) (h g))⟩
noncomputable def tB:Code:=(Tryz.f161.body).getD .skip
def AQ:Nat→Option (List Nat):=fun i=>none
def Ba:Nat→Bool:=fun i=>false
def tK(g:Nat→AV)(x0:AV)(H:Heap)(Q:AV→Heap→Prop):Prop :=
 doW (Zc H 1 62 x0) fun v1 H1 =>
 doW (Zg H1 2 62) fun v2 H2 =>
 doQ (Zd 62 v1 2) fun v3 =>
 doQ (Zb H2 38 v3) fun v4 =>
 doW (Za true H2 5 108 [v4]) fun v5 H3 =>
 doQ (Zd 62 v1 2) fun v6 =>
 doW (Zl H3 38 v6 v5) fun v7 H4 =>
 doQ (Zb H4 62 v1) fun v8 =>
 doW (Zl H4 62 v2 v8) fun v9 H5 =>
 doQ (ZV H5 v2 62) fun v10 =>
 Q v10 H5
theorem AA(x0:AV)(H:Heap)(Q:AV→Heap→Prop)(h : ∀g,tK g x0 H Q):GoL env Tryz.f161 0 [.code tB] [(0,x0)] H Q:=⟨fun g=>aJ (live:=AQ) (cut:=Ba) (n:=500) (Eq.mp (by kernel_rfl) (h g))⟩
noncomputable def xH:Code:=(Tryz.f164.body).getD .skip
def DL:Nat→Option (List Nat):=fun i=>none
def D3:Nat→Bool:=fun i=>false
def sw(g:Nat→AV)(x0:AV)(H:Heap)(Q:AV→Heap→Prop):Prop :=
 doW (Zc H 1 60 x0) fun v1 H1 =>
 doQ (Zb H1 60 v1) fun v2 =>
 doW (Za true H1 9 202 [v2]) fun v3 H2 =>
 doQ (Ze 42 10 0 v3) fun v4 =>
 br (some v4) (
 Q (.tup [(.v (.slice none 0 0)),v3]) H2) (
 doQ (Zd 60 v1 1) fun v5 =>
 doQ (Zd 58 v5 1) fun v6 =>
 doQ (Zb H2 4 v6) fun v7 =>
 br (some v7) (
 doQ (Zd 60 v1 1) fun v8 =>
 doQ (Zd 58 v8 0) fun v9 =>
 doQ (Zb H2 29 v9) fun v10 =>
 doQ (Yh 31 0 v10) fun v11 =>
 doW (Za true H2 21 162 [v11]) fun v12 H3 =>
 doQ (Zw v12 0) fun v13 =>
 doQ (Zw v12 1) fun v14 =>
 doQ (Zd 60 v1 0) fun v15 =>
 doQ (Zb H3 3 v15) fun v16 =>
 doQ (Zv H3 26 3 5 v16) fun v17 =>
 doW (gm env.P true false H3 (Ref.mk 0 28 (Heap.gen H3 0 28) 0) 170 2 (some [(0,v17),(1,(a8 1))])) fun v18 H4 =>
 doQ (Zk H4 31 170 v13) fun v19 =>
 doQ (Zx 3 31 1 v19) fun v20 =>
 doQ (ZJ H4 170 v13 v20) fun v21 =>
 doW (Zt H4 34 170 170 v18 v21) fun v22 H5 =>
 Q (.tup [v22,v14]) H5) (
 doQ (Zd 60 v1 1) fun v8 =>
 doQ (Zd 58 v8 0) fun v9 =>
 doQ (Zb H2 29 v9) fun v10 =>
 doQ (Yh 31 0 v10) fun v11 =>
 doW (Za true H2 21 162 [v11]) fun v12 H3 =>
 doQ (Zw v12 0) fun v13 =>
 doQ (Zw v12 1) fun v14 =>
 doQ (Zd 60 v1 0) fun v15 =>
 doQ (Zb H3 3 v15) fun v16 =>
 doQ (Zv H3 26 3 5 v16) fun v17 =>
 doW (gm env.P true false H3 (Ref.mk 0 28 (Heap.gen H3 0 28) 0) 170 2 (some [(0,v17),(1,(a8 0))])) fun v18 H4 =>
 doQ (Zk H4 31 170 v13) fun v19 =>
 doQ (Zx 3 31 1 v19) fun v20 =>
 doQ (ZJ H4 170 v13 v20) fun v21 =>
 doW (Zt H4 34 170 170 v18 v21) fun v22 H5 =>
 Q (.tup [v22,v14]) H5))
theorem Df(x0:AV)(H:Heap)(Q:AV→Heap→Prop)(h : ∀g,sw g x0 H Q):GoL env Tryz.f164 0 [.code xH] [(0,x0)] H Q:=⟨fun g=>aJ (live:=DL) (cut:=D3) (n:=500) (Eq.mp (by kernel_rfl) (h g))⟩
noncomputable def tC:Code:=(Tryz.f165.body).getD .skip
def AR:Nat→Option (List Nat):=fun i=>none
def Bb:Nat→Bool:=fun i=>false
def ik(g:Nat→AV)(x0 x1:AV)(H:Heap)(Q:AV→Heap→Prop):Prop :=
 doW (Zc H 2 62 x0) fun v1 H1 =>
 doW (Zc H1 3 62 x1) fun v2 H2 =>
 doQ (Zd 62 v1 0) fun v3 =>
 doQ (Zb H2 5 v3) fun v4 =>
 doQ (Zd 62 v2 0) fun v5 =>
 doQ (Zb H2 5 v5) fun v6 =>
 doQ (Zm 5 6 8 v4 v6) fun v7 =>
 gQ v7 true (Zd 62 v1 1) fun v8 =>
 gQ v7 true (Zb H2 3 v8) fun v9 =>
 gQ v7 true (Zd 62 v2 1) fun v10 =>
 gQ v7 true (Zb H2 3 v10) fun v11 =>
 gQ v7 true (Zm 3 12 14 v9 v11) fun v12 =>
 doQ (Zf v7 v12) fun v13 =>
 gQ v13 true (Zd 62 v1 2) fun v14 =>
 gQ v13 true (Zb H2 38 v14) fun v15 =>
 gQ v13 true (Zd 62 v2 2) fun v16 =>
 gQ v13 true (Zb H2 38 v16) fun v17 =>
 gW v13 true H2 (Za true H2 22 211 [v15,v17]) fun v18 H3 =>
 doQ (Zf v13 v18) fun v19 =>
 gQ v19 true (Zd 62 v1 3) fun v20 =>
 gQ v19 true (Zb H3 42 v20) fun v21 =>
 gQ v19 true (Zd 62 v2 3) fun v22 =>
 gQ v19 true (Zb H3 42 v22) fun v23 =>
 gQ v19 true (Zm 42 26 28 v21 v23) fun v24 =>
 doQ (Zf v19 v24) fun v25 =>
 gQ v25 true (Zd 62 v1 4) fun v26 =>
 gQ v25 true (Zb H3 60 v26) fun v27 =>
 gQ v25 true (Zd 62 v2 4) fun v28 =>
 gQ v25 true (Zb H3 60 v28) fun v29 =>
 gQ v25 true (Zm 60 33 35 v27 v29) fun v30 =>
 doQ (Zf v25 v30) fun v31 =>
 Q v31 H3
theorem AB(x0 x1:AV)(H:Heap)(Q:AV→Heap→Prop)(h : ∀g,ik g x0 x1 H Q):GoL env Tryz.f165 0 [.code tC] [(0,x0),(1,x1)] H Q:=⟨fun g=>aJ (live:=AR) (cut:=Bb) (n:=500) (Eq.mp (by kernel_rfl) (h g))⟩
noncomputable def tJ:Code:=(Tryz.f202.body).getD .skip
def A2:Nat→Option (List Nat):=fun i=>none
def Bl:Nat→Bool:=fun i=>false
def oK(g:Nat→AV)(x0:AV)(H:Heap)(Q:AV→Heap→Prop):Prop :=
 doW (Zc H 1 60 x0) fun v1 H1 =>
 doQ (Zd 60 v1 1) fun v2 =>
 doQ (Zd 58 v2 1) fun v3 =>
 doQ (Zb H1 4 v3) fun v4 =>
 gQ v4 false (Zd 60 v1 1) fun v5 =>
 gQ v4 false (Zd 58 v5 0) fun v6 =>
 gQ v4 false (Zb H1 29 v6) fun v7 =>
 gW v4 false H1 (Za false H1 11 185 []) fun v8 H2 =>
 gQ v4 false (Zm 29 10 11 v7 v8) fun v9 =>
 doQ (Zo v4 v9) fun v10 =>
 doQ (Zd 60 v1 0) fun v11 =>
 doQ (Zb H2 3 v11) fun v12 =>
 doQ (Zs 3 15 0 v12) fun v13 =>
 gQ v13 false (Zd 60 v1 0) fun v14 =>
 gQ v13 false (Zb H2 3 v14) fun v15 =>
 gQ v13 false (Zq 3 19 8 v15) fun v16 =>
 doQ (Zo v13 v16) fun v17 =>
 gQ v17 false (Zd 60 v1 1) fun v18 =>
 gQ v17 false (Zd 58 v18 0) fun v19 =>
 gQ v17 false (Zb H2 29 v19) fun v20 =>
 gW v17 false H2 (Za true H2 26 76 [v20]) fun v21 H3 =>
 gQ v17 false (Ze 42 26 0 v21) fun v22 =>
 doQ (Zo v17 v22) fun v23 =>
 gQ v23 false (ZI v10) fun v24 =>
 gQ v23 false (Zz v24) fun v25 =>
 doQ (Zo v23 v25) fun v26 =>
 br (some v26) (
 Q (.v (.int .i64 8)) H3) (
 Q (.v (.int .i64 0)) H3)
theorem AJ(x0:AV)(H:Heap)(Q:AV→Heap→Prop)(h : ∀g,oK g x0 H Q):GoL env Tryz.f202 0 [.code tJ] [(0,x0)] H Q:=⟨fun g=>aJ (live:=A2) (cut:=Bl) (n:=500) (Eq.mp (by kernel_rfl) (h g))⟩
noncomputable def ij:Code:=(Tryz.f203.body).getD .skip
def A1:Nat→Option (List Nat):=fun i=>none
def Bk:Nat→Bool:=fun i=>false
def il(g:Nat→AV)(x0 x1:AV)(H:Heap)(Q:AV→Heap→Prop):Prop :=
 doW (Zc H 2 25 x0) fun v1 H1 =>
 doW (Zc H1 3 60 x1) fun v2 H2 =>
 doQ (Zd 60 v2 0) fun v3 =>
 doQ (Zb H2 3 v3) fun v4 =>
 doQ (Zd 25 v1 0) fun v5 =>
 doQ (Zb H2 22 v5) fun v6 =>
 doQ (Zk H2 10 22 v6) fun v7 =>
 doQ (ZO 3 7 10 v4 v7) fun v8 =>
 br (some v8) (
 doQ (o4 env.P 42 (some (AV.v (Value.int IntKind.i64 2)))) fun v9 =>
 Q v9 H2) (
 doQ (Zd 25 v1 2) fun v9 =>
 doQ (Zb H2 3 v9) fun v10 =>
 doQ (Zi 3 15 0 v10) fun v11 =>
 br (some v11) (
 doQ (o4 env.P 42 (some (AV.v (Value.int IntKind.i64 9)))) fun v12 =>
 Q v12 H2) (
 doQ (Zb H2 25 v1) fun v12 =>
 doW (Za true H2 19 160 [v12]) fun v13 H3 =>
 doW (Zl H3 25 v1 v13) fun v14 H4 =>
 doQ (Zd 25 v1 0) fun v15 =>
 doQ (Zb H4 22 v15) fun v16 =>
 doQ (Zd 60 v2 0) fun v17 =>
 doQ (Zb H4 3 v17) fun v18 =>
 doQ (Zd 60 v2 1) fun v19 =>
 doQ (Zb H4 58 v19) fun v20 =>
 doQ (Zu H4 22 v16 v18) fun v21 =>
 doW (Zl H4 58 v21 v20) fun v22 H5 =>
 doQ (Zd 25 v1 2) fun v23 =>
 doQ (Zb H5 3 v23) fun v24 =>
 doQ (Zx 3 28 1 v24) fun v25 =>
 doQ (Zd 25 v1 2) fun v26 =>
 doW (Zl H5 3 v26 v25) fun v27 H6 =>
 doQ (Zb H6 25 v1) fun v28 =>
 doQ (o4 env.P 25 (some v28)) fun v29 =>
 Q v29 H6))
theorem jC(x0 x1:AV)(H:Heap)(Q:AV→Heap→Prop)(h : ∀g,il g x0 x1 H Q):GoL env Tryz.f203 0 [.code ij] [(0,x0),(1,x1)] H Q:=⟨fun g=>aJ (live:=A1) (cut:=Bk) (n:=500) (Eq.mp (by kernel_rfl) (h g))⟩
end Go.Proofs.YtmkmimgokagimaaGreat
set_option maxRecDepth 100000
namespace Go.Proofs.YtmkmimgokagimaaGreat
open Go.Ab
attribute [local simp] bj aL aF bg bf keep thr bx aT bc da cZ cJ bD aD bM List.take_of_length_le
@[simp] theorem Ll(a:UInt8)(b:UInt32):limf env 76 [.agg [a8 a,a32 b]]=some (aI (bad (decide (a≤15)))):=by
 refine aw (fn:=Tryz.f76) (c:=oC) rfl (by kernel_rfl) (by kernel_rfl) (by kernel_rfl) (by kernel_rfl) ?_;refine tf _ _ _ fun g=>?_
 simp[af,ah,ad,ae,ab, *,oJ]
 repeat' ((first | refine nH (fun h=>?_) (fun h=>?_) | refine lu (fun h=>?_) (fun h=>?_) | refine lx (fun h=>?_) (fun h=>?_) | refine lg (fun h=>?_) (fun h=>?_) | refine lj (fun h=>?_) (fun h=>?_))<;>(try simp only[decide_eq_true_eq,decide_eq_false_iff_not,Bool.not_eq_true',Bool.not_eq_false',Bool.and_eq_true,Bool.or_eq_true]at h)<;>(try simp[af,ah,ad,ae,ab, *]))
 all_goals (try grind [bad])
@[simp] theorem Wd(b:Bool):limf env 159 [aB b]=some (aI (bad b)):=by
 refine aw (fn:=Tryz.f159) (c:=xF) rfl (by kernel_rfl) (by kernel_rfl) (by kernel_rfl) (by kernel_rfl) ?_;refine Dd _ _ _ fun g=>?_
 cases b<;>simp[af,ah,ad,ae,ab, *,xK,bad]
@[simp] theorem uS(a:UInt8)(b:UInt32)(n:UInt8):limf env 91 [.agg [a8 a,a32 b,a8 n]]=some (aI (bad (hY ⟨a,b,n⟩))):=by
 refine aw (fn:=Tryz.f91) (c:=n8) rfl (by kernel_rfl) (by kernel_rfl) (by kernel_rfl) (by kernel_rfl) ?_;refine uK _ _ _ fun g=>?_
 simp[af,ah,ad,ae,ab, *,oc,hY]
 repeat' ((first | refine nH (fun h=>?_) (fun h=>?_) | refine lu (fun h=>?_) (fun h=>?_) | refine lx (fun h=>?_) (fun h=>?_) | refine lg (fun h=>?_) (fun h=>?_) | refine lj (fun h=>?_) (fun h=>?_))<;>(try simp only[decide_eq_true_eq,decide_eq_false_iff_not,Bool.not_eq_true',Bool.not_eq_false',Bool.and_eq_true,Bool.or_eq_true]at h)<;>(try simp[af,ah,ad,ae,ab, *]))
@[simp] theorem Uy(a:UInt8)(b:UInt32)(n:UInt8)(k:Int):limf env 182 [.agg [a8 a,a32 b,a8 n,aI k]]=some (aI (bad (idB ⟨⟨a,b,n⟩,k⟩))):=by
 refine aw (fn:=Tryz.f182) (c:=xG) rfl (by kernel_rfl) (by kernel_rfl) (by kernel_rfl) (by kernel_rfl) ?_;refine De _ _ _ fun g=>?_
 simp[af,ah,ad,ae,ab, *,xL,idB]
 repeat' ((first | refine nH (fun h=>?_) (fun h=>?_) | refine lu (fun h=>?_) (fun h=>?_) | refine lx (fun h=>?_) (fun h=>?_) | refine lg (fun h=>?_) (fun h=>?_) | refine lj (fun h=>?_) (fun h=>?_))<;>(try simp only[decide_eq_true_eq,decide_eq_false_iff_not,Bool.not_eq_true',Bool.not_eq_false',Bool.and_eq_true,Bool.or_eq_true]at h)<;>(try simp[af,ah,ad,ae,ab, *]))
@[simp] theorem Ox(a:UInt8)(b:UInt32)(n:UInt8)(k m:Int):limf env 135 [.agg [a8 a,a32 b,a8 n,aI k,aI m]]=some (aI (bad (kR ⟨⟨⟨a,b,n⟩,k⟩,m⟩))):=by
 refine aw (fn:=Tryz.f135) (c:=qT) rfl (by kernel_rfl) (by kernel_rfl) (by kernel_rfl) (by kernel_rfl) ?_;refine xV _ _ _ fun g=>?_
 cases hb:idB ⟨⟨a,b,n⟩,k⟩ with
 | false=>simp[af,ah,ad,ae,ab, *,ib,kR]
 | true =>
  have hn:=JV hb
  simp only at hn
  by_cases h1:1≤m
  ·by_cases h2:m≤64
   ·have w1:=IntWalk.i64_in (k+m) (by omega)
    have w2:=IntWalk.i64_in (k+m - 1) (by omega)
    simp[af,ah,ad,ae,ab, *,ib,kR]
   ·simp[af,ah,ad,ae,ab, *,ib,kR]
  ·simp[af,ah,ad,ae,ab, *,ib,kR]
@[simp] theorem XF(a:UInt8)(b:UInt32)(n:UInt8)(k m:Int):limf env 239 [.agg [a8 a,a32 b,a8 n,aI k],aI m]=some (.agg [a8 a,a32 b,a8 n,aI (IntKind.i64.wrap (k+m))]):=by
 refine aw (fn:=Tryz.f239) (c:=Aq) rfl (by kernel_rfl) (by kernel_rfl) (by kernel_rfl) (by kernel_rfl) ?_;refine El _ _ _ _ fun g=>?_
 simp[af,ah,ad,ae,ab, *,Aw]
def atE(s:Spn)(m:Int):Int:=if kR s then (if m<0∨s.many≤m then 2 else 0) else 8
@[simp] theorem Ws(a:UInt8)(b:UInt32)(n:UInt8)(k m j:Int):limf env 228 [.agg [a8 a,a32 b,a8 n,aI k,aI m],aI j] =
 some (if atE ⟨⟨⟨a,b,n⟩,k⟩,m⟩ j=0 then .tup [.agg [a8 a,a32 b,a8 n,aI (k+j)],aI 0] else .tup [.agg [a8 0,a32 0,a8 0,aI 0],aI (atE ⟨⟨⟨a,b,n⟩,k⟩,m⟩ j)]):=by
 refine aw (fn:=Tryz.f228) (c:=D8) rfl (by kernel_rfl) (by kernel_rfl) (by kernel_rfl) (by kernel_rfl) ?_;refine Ic _ _ _ _ fun g=>?_
 cases hb:kR ⟨⟨⟨a,b,n⟩,k⟩,m⟩ with
 | false=>simp[af,ah,ad,ae,ab, *,sv,atE]
 | true =>
  have hn:=lX hb
  simp only at hn
  by_cases h1:j<0
  ·simp[af,ah,ad,ae,ab, *,sv,atE]
  ·by_cases h2:m≤j
   ·simp[af,ah,ad,ae,ab, *,sv,atE]
   ·have w1:=IntWalk.i64_in (k+j) (by omega)
    simp[af,ah,ad,ae,ab, *,sv,atE]
end Go.Proofs.YtmkmimgokagimaaGreat
namespace Go.Proofs.YtmkmimgokagimaaGreat
open Go.Ab
attribute [local simp] bj aL aF bg bf keep thr bx aT bc da cZ cJ bD aD bM List.take_of_length_le
@[simp] theorem RI(n:Int)(h0:0≤n):limf env 207 [aI n,aI 4]=some (.isl 1 (by8 (be 4 n)) none):=by
 refine aw (fn:=Tryz.f207) (c:=mX) rfl (by kernel_rfl) (by kernel_rfl) (by kernel_rfl) (by kernel_rfl) ?_;refine uJ _ _ _ _ fun g=>?_
 have w5:IntKind.i64.wrap (-1) = -1:=rfl
 have w4:IntKind.i64.wrap 0=0:=rfl
 simp[af,ah,ad,ae,ab, *,qD]
 refine cm _ _ _ _ _ fun g=>?_
 simp[af,ah,ad,ae,ab, *,bV,eY,dM]
 refine cm _ _ _ _ _ fun g=>?_
 simp[af,ah,ad,ae,ab, *,bV,eY,dM]
 refine cm _ _ _ _ _ fun g=>?_
 simp[af,ah,ad,ae,ab, *,bV,eY,dM]
 refine cm _ _ _ _ _ fun g=>?_
 simp[af,ah,ad,ae,ab, *,bV,eY,dM]
 refine cm _ _ _ _ _ fun g=>?_
 simp[af,ah,ad,ae,ab, *,bV,be_4,by8]
@[simp] theorem IF(n:Int)(h0:0≤n):limf env 207 [aI n,aI 7]=some (.isl 1 (by8 (be 7 n)) none):=by
 refine aw (fn:=Tryz.f207) (c:=mX) rfl (by kernel_rfl) (by kernel_rfl) (by kernel_rfl) (by kernel_rfl) ?_;refine uJ _ _ _ _ fun g=>?_
 have w5:IntKind.i64.wrap (-1) = -1:=rfl
 have w4:IntKind.i64.wrap 0=0:=rfl
 simp[af,ah,ad,ae,ab, *,qD]
 refine cm _ _ _ _ _ fun g=>?_
 simp[af,ah,ad,ae,ab, *,bV,eY,dM]
 refine cm _ _ _ _ _ fun g=>?_
 simp[af,ah,ad,ae,ab, *,bV,eY,dM]
 refine cm _ _ _ _ _ fun g=>?_
 simp[af,ah,ad,ae,ab, *,bV,eY,dM]
 refine cm _ _ _ _ _ fun g=>?_
 simp[af,ah,ad,ae,ab, *,bV,eY,dM]
 refine cm _ _ _ _ _ fun g=>?_
 simp[af,ah,ad,ae,ab, *,bV,eY,dM]
 refine cm _ _ _ _ _ fun g=>?_
 simp[af,ah,ad,ae,ab, *,bV,eY,dM]
 refine cm _ _ _ _ _ fun g=>?_
 simp[af,ah,ad,ae,ab, *,bV,eY,dM]
 refine cm _ _ _ _ _ fun g=>?_
 simp[af,ah,ad,ae,ab, *,bV,be_7,by8]
def hZ(h:Han):List UInt8:=h.lv :: (be 4 h.cats.toNat++[h.num])
@[simp] theorem QC(h:Han):(hZ h).length=6:=by simp[hZ]
@[simp] theorem Ew(a:UInt8)(b:UInt32)(n:UInt8):limf env 162 [.agg [a8 a,a32 b,a8 n]]=some (if hY ⟨a,b,n⟩ then .tup [.fsl 1 (by8 (hZ ⟨a,b,n⟩)) none,aI 0] else .tup [aNil,aI 8]):=by
 refine aw (fn:=Tryz.f162) (c:=qS) rfl (by kernel_rfl) (by kernel_rfl) (by kernel_rfl) (by kernel_rfl) ?_;refine xU _ _ _ fun g=>?_
 cases h:hY ⟨a,b,n⟩ with
 | true=>simp[af,ah,ad,ae,ab, *,mP,bad,by8,hZ]
 | false=>simp[af,ah,ad,ae,ab, *,mP,bad]
def iQ(i:Idd):List UInt8:=hZ i.h++be 7 i.n
@[simp] theorem QB(i:Idd):(iQ i).length=13:=by simp[iQ]
@[simp] theorem XK(a:UInt8)(b:UInt32)(n:UInt8)(k:Int):limf env 208 [.agg [a8 a,a32 b,a8 n,aI k]]=some (if idB ⟨⟨a,b,n⟩,k⟩ then .tup [.isl 1 (by8 (iQ ⟨⟨a,b,n⟩,k⟩)) none,aI 0] else .tup [aNil,aI 8]):=by
 refine aw (fn:=Tryz.f208) (c:=BN) rfl (by kernel_rfl) (by kernel_rfl) (by kernel_rfl) (by kernel_rfl) ?_;refine GP _ _ _ fun g=>?_
 cases h:idB ⟨⟨a,b,n⟩,k⟩ with
 | true =>
  have hn:=JV h
  have h7:=IF k (by simp only at hn;omega)
  have hh:hY ⟨a,b,n⟩=true:=by simp only[idB,Bool.and_eq_true]at h;exact h.1
  simp only at hn
  simp[af,ah,ad,ae,ab, *,xg,bad,by8,iQ]
 | false=>simp[af,ah,ad,ae,ab, *,xg,bad]
end Go.Proofs.YtmkmimgokagimaaGreat
