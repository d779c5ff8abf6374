/-
  What is to be shown of each function, computed from its code. No statement of a seat is proved here.
-/
import Derived.Test.YtmjkpdknicjjgaaLgTy
set_option linter.unusedVariables false
set_option maxRecDepth 1000000
namespace Go.Proofs.Ytmjkpdknicjjgaa
open Go.Ab
noncomputable def iw:Code:=(Try.f12.body).getD .skip
def qp:Nat→Option (List Nat):=fun i=>none
def qv:Nat→Bool:=fun i=>false
def iB (g:Nat→AV) (H:Heap) (Q:AV→Heap→Prop):Prop :=
 doW (nRes H (⟨0,0,Heap.gen H 0 0,0⟩:Ref) (cB env.P (⟨0,0,Heap.gen H 0 0,0⟩:Ref) 48)) fun v1 H1 =>
 doW (ak env true (limf env) (limt env 0) H1 (⟨0,1,Heap.gen H1 0 1,0⟩:Ref) (some (.fn (.func 31) [] [])) []) fun v2 H2 =>
 doQ (bG env.P 42 (some [(1,v2)])) fun v3 =>
 doQ (bG env.P 48 (some [(0,(a8 1)),(1,(.v (.int .i64 3))),(2,v3)])) fun v4 =>
 doW (ay env.P H2 48 (some v1) (some v4)) fun v5 H3 =>
 doQ (aG env.P H3 v1 48) fun v6 =>
 Q v6 H3
theorem qh:iB=fun g  H Q=>wp env Try.f12 none 0 qp qv Q 500 [.code iw] (ofL g []) H:=by kernel_rfl
theorem qm (H:Heap) (Q:AV→Heap→Prop) (h : ∀g,iB g  H Q):GoL env Try.f12 0 [.code iw] [] H Q:=⟨fun g=>bt (by have h:=h g;rw [qh] at h;exact h)⟩
noncomputable def iv:Code:=(Try.f13.body).getD .skip
def qo:Nat→Option (List Nat):=fun i=>none
def qu:Nat→Bool:=fun i=>false
def iA (g:Nat→AV) (H:Heap) (Q:AV→Heap→Prop):Prop :=
 doW (nRes H (⟨0,0,Heap.gen H 0 0,0⟩:Ref) (cB env.P (⟨0,0,Heap.gen H 0 0,0⟩:Ref) 48)) fun v1 H1 =>
 doW (ak env false (limf env) (limt env 0) H1 (⟨0,2,Heap.gen H1 0 2,0⟩:Ref) (some (.fn (.func 31) [] [])) []) fun v2 H2 =>
 doW (ak env false (limf env) (limt env 0) H2 (⟨0,3,Heap.gen H2 0 3,0⟩:Ref) (some (.fn (.func 31) [] [])) []) fun v3 H3 =>
 doQ (bG env.P 37 (some [(0,v3),(1,(.v (.int .i64 9)))])) fun v4 =>
 doQ (bG env.P 39 (some [(0,v4),(1,(.v (.int .i64 64)))])) fun v5 =>
 doW (nRes H3 (⟨0,6,Heap.gen H3 0 6,0⟩:Ref) (qR env.P (⟨0,6,Heap.gen H3 0 6,0⟩:Ref) 40 (some (.v (.int .i64 64))) (some (.v (.int .i64 64))))) fun v6 H4 =>
 doQ (bG env.P 42 (some [(0,(a8 1)),(1,v2),(2,(.v (.int .i64 1))),(3,v5),(6,v6)])) fun v7 =>
 doW (nRes H4 (⟨0,1,Heap.gen H4 0 1,0⟩:Ref) (cB env.P (⟨0,1,Heap.gen H4 0 1,0⟩:Ref) 42)) fun v8 H5 =>
 doW (ay env.P H5 42 (some v8) (some v7)) fun v9 H6 =>
 doQ (an env.P (Heap.get H6) 42 (some v8)) fun v10 =>
 doQ (bG env.P 48 (some [(0,(a8 2)),(2,v10)])) fun v11 =>
 doW (ay env.P H6 48 (some v1) (some v11)) fun v12 H7 =>
 doQ (aG env.P H7 v1 48) fun v13 =>
 Q v13 H7
theorem qf:iA=fun g  H Q=>wp env Try.f13 none 0 qo qu Q 500 [.code iv] (ofL g []) H:=by kernel_rfl
theorem ql (H:Heap) (Q:AV→Heap→Prop) (h : ∀g,iA g  H Q):GoL env Try.f13 0 [.code iv] [] H Q:=⟨fun g=>bt (by have h:=h g;rw [qf] at h;exact h)⟩
noncomputable def fS:Code:=(Try.f16.body).getD .skip
def nF:Nat→Option (List Nat):=fun i=>none
def nN:Nat→Bool:=fun i=>false
def fU (g:Nat→AV) (H:Heap) (Q:AV→Heap→Prop):Prop :=
 doW (ak env true (limf env) (limt env 0) H (⟨0,7,Heap.gen H 0 7,0⟩:Ref) (some (.fn (.func 10) [] [])) []) fun v1 H1 =>
 doW (ak env true (limf env) (limt env 0) H1 (⟨0,8,Heap.gen H1 0 8,0⟩:Ref) (some (.fn (.func 9) [] [])) [v1,(.v (.int .i64 (-1)))]) fun v2 H2 =>
 doQ (au (some v2) 0) fun v3 =>
 doQ (au (some v2) 1) fun v4 =>
 doW (nRes H2 (⟨0,1,Heap.gen H2 0 1,0⟩:Ref) (cB env.P (⟨0,1,Heap.gen H2 0 1,0⟩:Ref) 24)) fun v5 H3 =>
 doW (ay env.P H3 24 (some v5) (some v3)) fun v6 H4 =>
 doQ (an env.P (Heap.get H4) 24 (some v5)) fun v7 =>
 doW (ak env false (limf env) (limt env 0) H4 (⟨0,13,Heap.gen H4 0 13,0⟩:Ref) (some (.fn (.func 12) [] [])) []) fun v8 H5 =>
 doW (ak env false (limf env) (limt env 0) H5 (⟨0,14,Heap.gen H5 0 14,0⟩:Ref) (some (.fn (.func 13) [] [])) []) fun v9 H6 =>
 doW (gq env.P true false H6 (⟨0,15,Heap.gen H6 0 15,0⟩:Ref) 50 2 (some [(0,v8),(1,v9)])) fun v10 H7 =>
 doW (ak env false (limf env) (limt env 0) H7 (⟨0,16,Heap.gen H7 0 16,0⟩:Ref) (some (.fn (.func 11) [] [])) [v7,(.v (.int .i64 0)),(.v (.int .i64 1)),v10]) fun v11 H8 =>
 doQ (au (some v11) 0) fun v12 =>
 doQ (au (some v11) 1) fun v13 =>
 doQ (au (some v11) 2) fun v14 =>
 doW (nRes H8 (⟨0,3,Heap.gen H8 0 3,0⟩:Ref) (cB env.P (⟨0,3,Heap.gen H8 0 3,0⟩:Ref) 24)) fun v15 H9 =>
 doW (ay env.P H9 24 (some v15) (some v12)) fun v16 H10 =>
 doQ (qBin env.P .eql 25 (.tmp 20) (.const (.int .i64 0)) (some v4) (some (.v (.int .i64 0)))) fun v17 =>
 gQ v17 true (an env.P (Heap.get H10) 24 (some v5)) fun v18 =>
 gW v17 true H10 (ak env false (limf env) (limt env 0) H10 (⟨0,24,Heap.gen H10 0 24,0⟩:Ref) (some (.fn (.func 17) [] [])) [v18,(.v (.int .i64 0)),(.v (.slice none 0 0))]) fun v19 H11 =>
 doQ (bg (some v17) (some v19) (some (.v (.bool false)))) fun v20 =>
 gQ v20 true (qVal (some v14)) fun v21 =>
 doQ (bg (some v20) (some v21) (some (.v (.bool false)))) fun v22 =>
 gQ v22 true (qVal (some v13)) fun v23 =>
 gQ v22 true (qBin env.P .eql 3 (.tmp 30) (.const (.int .i64 4)) (some v23) (some (.v (.int .i64 4)))) fun v24 =>
 doQ (bg (some v22) (some v24) (some (.v (.bool false)))) fun v25 =>
 gQ v25 true (an env.P (Heap.get H11) 24 (some v15)) fun v26 =>
 gW v25 true H11 (ak env false (limf env) (limt env 0) H11 (⟨0,35,Heap.gen H11 0 35,0⟩:Ref) (some (.fn (.func 12) [] [])) []) fun v27 H12 =>
 gW v25 true H12 (ak env false (limf env) (limt env 0) H12 (⟨0,36,Heap.gen H12 0 36,0⟩:Ref) (some (.fn (.func 13) [] [])) []) fun v28 H13 =>
 gW v25 true H13 (gq env.P true false H13 (⟨0,37,Heap.gen H13 0 37,0⟩:Ref) 50 2 (some [(0,v27),(1,v28)])) fun v29 H14 =>
 gW v25 true H14 (ak env false (limf env) (limt env 0) H14 (⟨0,38,Heap.gen H14 0 38,0⟩:Ref) (some (.fn (.func 17) [] [])) [v26,(.v (.int .i64 4)),v29]) fun v30 H15 =>
 doQ (bg (some v25) (some v30) (some (.v (.bool false)))) fun v31 =>
 Q v31 H15
theorem nv:fU=fun g  H Q=>wp env Try.f16 none 0 nF nN Q 500 [.code fS] (ofL g []) H:=by kernel_rfl
theorem nw (H:Heap) (Q:AV→Heap→Prop) (h : ∀g,fU g  H Q):GoL env Try.f16 0 [.code fS] [] H Q:=⟨fun g=>bt (by have h:=h g;rw [nv] at h;exact h)⟩
noncomputable def iu:Code:=(Try.f31.body).getD .skip
def qn:Nat→Option (List Nat):=fun i=>none
def qq:Nat→Bool:=fun i=>false
def iz (g:Nat→AV) (H:Heap) (Q:AV→Heap→Prop):Prop :=
 doW (nRes H (⟨0,0,Heap.gen H 0 0,0⟩:Ref) (cB env.P (⟨0,0,Heap.gen H 0 0,0⟩:Ref) 35)) fun v1 H1 =>
 doQ (bG env.P 33 (some [(0,(a8 1)),(1,(a32 1))])) fun v2 =>
 doQ (bG env.P 35 (some [(0,v2),(1,(a8 2))])) fun v3 =>
 doW (ay env.P H1 35 (some v1) (some v3)) fun v4 H2 =>
 doQ (aG env.P H2 v1 35) fun v5 =>
 Q v5 H2
theorem qe:iz=fun g  H Q=>wp env Try.f31 none 0 qn qq Q 500 [.code iu] (ofL g []) H:=by kernel_rfl
theorem qj (H:Heap) (Q:AV→Heap→Prop) (h : ∀g,iz g  H Q):GoL env Try.f31 0 [.code iu] [] H Q:=⟨fun g=>bt (by have h:=h g;rw [qe] at h;exact h)⟩
end Go.Proofs.Ytmjkpdknicjjgaa
