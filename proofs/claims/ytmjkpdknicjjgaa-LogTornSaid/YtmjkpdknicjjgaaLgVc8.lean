/-
  What is to be shown of each function, computed from its code. No statement of a seat is proved here.
-/
import Derived.Test.YtmjkpdknicjjgaaLgTy
set_option linter.unusedVariables false
set_option maxRecDepth 1000000
namespace Go.Proofs.Ytmjkpdknicjjgaa
open Go.Ab
noncomputable def iI:Code:=(Try.f12.body).getD .skip
def qJ:Nat→Option (List Nat):=fun i=>none
def qM:Nat→Bool:=fun i=>false
def iM (g:Nat→AV) (H:Heap) (Q:AV→Heap→Prop):Prop :=
 doW (nRes H (⟨0,0,Heap.gen H 0 0,0⟩:Ref) (cC env.P (⟨0,0,Heap.gen H 0 0,0⟩:Ref) 48)) fun v1 H1 =>
 doW (ao env true (limf env) (limt env 0) H1 (⟨0,1,Heap.gen H1 0 1,0⟩:Ref) (some (.fn (.func 31) [] [])) []) fun v2 H2 =>
 doQ (bG env.P 42 (some [(1,v2)])) fun v3 =>
 doQ (bG env.P 48 (some [(0,(a8 1)),(1,(.v (.int .i64 3))),(2,v3)])) fun v4 =>
 doW (az env.P H2 48 (some v1) (some v4)) fun v5 H3 =>
 doQ (aG env.P H3 v1 48) fun v6 =>
 Q v6 H3
theorem qC:iM=fun g  H Q=>wp env Try.f12 none 0 qJ qM Q 500 [.code iI] (ofL g []) H:=by kernel_rfl
theorem qG (H:Heap) (Q:AV→Heap→Prop) (h : ∀g,iM g  H Q):GoL env Try.f12 0 [.code iI] [] H Q:=⟨fun g=>bn (by have h:=h g;rw [qC] at h;exact h)⟩
noncomputable def iH:Code:=(Try.f13.body).getD .skip
def qI:Nat→Option (List Nat):=fun i=>none
def qL:Nat→Bool:=fun i=>false
def iL (g:Nat→AV) (H:Heap) (Q:AV→Heap→Prop):Prop :=
 doW (nRes H (⟨0,0,Heap.gen H 0 0,0⟩:Ref) (cC env.P (⟨0,0,Heap.gen H 0 0,0⟩:Ref) 48)) fun v1 H1 =>
 doW (ao env false (limf env) (limt env 0) H1 (⟨0,2,Heap.gen H1 0 2,0⟩:Ref) (some (.fn (.func 31) [] [])) []) fun v2 H2 =>
 doW (ao env false (limf env) (limt env 0) H2 (⟨0,3,Heap.gen H2 0 3,0⟩:Ref) (some (.fn (.func 31) [] [])) []) fun v3 H3 =>
 doQ (bG env.P 37 (some [(0,v3),(1,(.v (.int .i64 9)))])) fun v4 =>
 doQ (bG env.P 39 (some [(0,v4),(1,(.v (.int .i64 64)))])) fun v5 =>
 doW (nRes H3 (⟨0,6,Heap.gen H3 0 6,0⟩:Ref) (rj env.P (⟨0,6,Heap.gen H3 0 6,0⟩:Ref) 40 (some (.v (.int .i64 64))) (some (.v (.int .i64 64))))) fun v6 H4 =>
 doQ (bG env.P 42 (some [(0,(a8 1)),(1,v2),(2,(.v (.int .i64 1))),(3,v5),(6,v6)])) fun v7 =>
 doW (nRes H4 (⟨0,1,Heap.gen H4 0 1,0⟩:Ref) (cC env.P (⟨0,1,Heap.gen H4 0 1,0⟩:Ref) 42)) fun v8 H5 =>
 doW (az env.P H5 42 (some v8) (some v7)) fun v9 H6 =>
 doQ (aq env.P (Heap.get H6) 42 (some v8)) fun v10 =>
 doQ (bG env.P 48 (some [(0,(a8 2)),(2,v10)])) fun v11 =>
 doW (az env.P H6 48 (some v1) (some v11)) fun v12 H7 =>
 doQ (aG env.P H7 v1 48) fun v13 =>
 Q v13 H7
theorem qB:iL=fun g  H Q=>wp env Try.f13 none 0 qI qL Q 500 [.code iH] (ofL g []) H:=by kernel_rfl
theorem qF (H:Heap) (Q:AV→Heap→Prop) (h : ∀g,iL g  H Q):GoL env Try.f13 0 [.code iH] [] H Q:=⟨fun g=>bn (by have h:=h g;rw [qB] at h;exact h)⟩
noncomputable def gh:Code:=(Try.f16.body).getD .skip
def nS:Nat→Option (List Nat):=fun i=>none
def n8:Nat→Bool:=fun i=>false
def gk (g:Nat→AV) (H:Heap) (Q:AV→Heap→Prop):Prop :=
 doW (ao env true (limf env) (limt env 0) H (⟨0,7,Heap.gen H 0 7,0⟩:Ref) (some (.fn (.func 10) [] [])) []) fun v1 H1 =>
 doW (ao env true (limf env) (limt env 0) H1 (⟨0,8,Heap.gen H1 0 8,0⟩:Ref) (some (.fn (.func 9) [] [])) [v1,(.v (.int .i64 (-1)))]) fun v2 H2 =>
 doQ (aw (some v2) 0) fun v3 =>
 doQ (aw (some v2) 1) fun v4 =>
 doW (nRes H2 (⟨0,1,Heap.gen H2 0 1,0⟩:Ref) (cC env.P (⟨0,1,Heap.gen H2 0 1,0⟩:Ref) 24)) fun v5 H3 =>
 doW (az env.P H3 24 (some v5) (some v3)) fun v6 H4 =>
 doQ (aq env.P (Heap.get H4) 24 (some v5)) fun v7 =>
 doW (ao env false (limf env) (limt env 0) H4 (⟨0,13,Heap.gen H4 0 13,0⟩:Ref) (some (.fn (.func 12) [] [])) []) fun v8 H5 =>
 doW (ao env false (limf env) (limt env 0) H5 (⟨0,14,Heap.gen H5 0 14,0⟩:Ref) (some (.fn (.func 13) [] [])) []) fun v9 H6 =>
 doW (gb env.P true false H6 (⟨0,15,Heap.gen H6 0 15,0⟩:Ref) 50 2 (some [(0,v8),(1,v9)])) fun v10 H7 =>
 doW (ao env false (limf env) (limt env 0) H7 (⟨0,16,Heap.gen H7 0 16,0⟩:Ref) (some (.fn (.func 11) [] [])) [v7,(.v (.int .i64 0)),(.v (.int .i64 1)),v10]) fun v11 H8 =>
 doQ (aw (some v11) 0) fun v12 =>
 doQ (aw (some v11) 1) fun v13 =>
 doQ (aw (some v11) 2) fun v14 =>
 doW (nRes H8 (⟨0,3,Heap.gen H8 0 3,0⟩:Ref) (cC env.P (⟨0,3,Heap.gen H8 0 3,0⟩:Ref) 24)) fun v15 H9 =>
 doW (az env.P H9 24 (some v15) (some v12)) fun v16 H10 =>
 doQ (qBin env.P .eql 25 (.tmp 20) (.const (.int .i64 0)) (some v4) (some (.v (.int .i64 0)))) fun v17 =>
 gQ v17 true (aq env.P (Heap.get H10) 24 (some v5)) fun v18 =>
 gW v17 true H10 (ao env false (limf env) (limt env 0) H10 (⟨0,24,Heap.gen H10 0 24,0⟩:Ref) (some (.fn (.func 17) [] [])) [v18,(.v (.int .i64 0)),(.v (.slice none 0 0))]) fun v19 H11 =>
 doQ (bj (some v17) (some v19) (some (.v (.bool false)))) fun v20 =>
 gQ v20 true (qVal (some v14)) fun v21 =>
 doQ (bj (some v20) (some v21) (some (.v (.bool false)))) fun v22 =>
 gQ v22 true (qVal (some v13)) fun v23 =>
 gQ v22 true (qBin env.P .eql 3 (.tmp 30) (.const (.int .i64 4)) (some v23) (some (.v (.int .i64 4)))) fun v24 =>
 doQ (bj (some v22) (some v24) (some (.v (.bool false)))) fun v25 =>
 gQ v25 true (aq env.P (Heap.get H11) 24 (some v15)) fun v26 =>
 gW v25 true H11 (ao env false (limf env) (limt env 0) H11 (⟨0,35,Heap.gen H11 0 35,0⟩:Ref) (some (.fn (.func 12) [] [])) []) fun v27 H12 =>
 gW v25 true H12 (ao env false (limf env) (limt env 0) H12 (⟨0,36,Heap.gen H12 0 36,0⟩:Ref) (some (.fn (.func 13) [] [])) []) fun v28 H13 =>
 gW v25 true H13 (gb env.P true false H13 (⟨0,37,Heap.gen H13 0 37,0⟩:Ref) 50 2 (some [(0,v27),(1,v28)])) fun v29 H14 =>
 gW v25 true H14 (ao env false (limf env) (limt env 0) H14 (⟨0,38,Heap.gen H14 0 38,0⟩:Ref) (some (.fn (.func 17) [] [])) [v26,(.v (.int .i64 4)),v29]) fun v30 H15 =>
 doQ (bj (some v25) (some v30) (some (.v (.bool false)))) fun v31 =>
 Q v31 H15
theorem nJ:gk=fun g  H Q=>wp env Try.f16 none 0 nS n8 Q 500 [.code gh] (ofL g []) H:=by kernel_rfl
theorem nK (H:Heap) (Q:AV→Heap→Prop) (h : ∀g,gk g  H Q):GoL env Try.f16 0 [.code gh] [] H Q:=⟨fun g=>bn (by have h:=h g;rw [nJ] at h;exact h)⟩
noncomputable def iG:Code:=(Try.f31.body).getD .skip
def qH:Nat→Option (List Nat):=fun i=>none
def qK:Nat→Bool:=fun i=>false
def iK (g:Nat→AV) (H:Heap) (Q:AV→Heap→Prop):Prop :=
 doW (nRes H (⟨0,0,Heap.gen H 0 0,0⟩:Ref) (cC env.P (⟨0,0,Heap.gen H 0 0,0⟩:Ref) 35)) fun v1 H1 =>
 doQ (bG env.P 33 (some [(0,(a8 1)),(1,(a32 1))])) fun v2 =>
 doQ (bG env.P 35 (some [(0,v2),(1,(a8 2))])) fun v3 =>
 doW (az env.P H1 35 (some v1) (some v3)) fun v4 H2 =>
 doQ (aG env.P H2 v1 35) fun v5 =>
 Q v5 H2
theorem qA:iK=fun g  H Q=>wp env Try.f31 none 0 qH qK Q 500 [.code iG] (ofL g []) H:=by kernel_rfl
theorem qE (H:Heap) (Q:AV→Heap→Prop) (h : ∀g,iK g  H Q):GoL env Try.f31 0 [.code iG] [] H Q:=⟨fun g=>bn (by have h:=h g;rw [qA] at h;exact h)⟩
end Go.Proofs.Ytmjkpdknicjjgaa
