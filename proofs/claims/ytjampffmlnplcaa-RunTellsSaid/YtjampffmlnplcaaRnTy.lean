/-
  The facts on the program's types, computed. No statement of a seat is proved here.
-/
import Derived.Test.YtjampffmlnplcaaRows
import Derived.Test.YtjampffmlnplcaaAbsRules
set_option linter.unusedVariables false
set_option maxRecDepth 1000000
namespace Go.Proofs.Ytjampffmlnplcaa
open Go.Ab
def fns:List FuncId:=[6,16,17,18,19,20,23,24,25,26,27,28,29,30,31,32,33,34,72,73,74,75,76,77,78,79,80,81,82,83,84,85,86,87,92,112,113,114,115,116,117,118,119,120,121,122,123,124,125,139,140,141,142,143,144,145,146,147,148,149]
def keep:List FuncId:=[16,17,23,24,31,72,75,81]
def thr:List FuncId:=[17,33]
def memo:List (FuncId × List AV × AV):=[]
noncomputable def env:Env:=mU Try.prog fns keep thr (w9 [(54,24,88889),(56,24,88889)]) (mX [(15,6,6,[(5,4)]),(28,6,6,[(5,4)]),(22,6,6,[(5,4)]),(25,13,6,[(7,4),(30,4)]),(13,7,7,[(5,4)]),(25,7,7,[(5,4)]),(40,12,7,[(5,4),(42,4),(43,4),(45,4),(42,5),(43,5),(45,5)]),(24,15,7,[(30,4),(31,4),(33,4),(30,5),(31,5),(33,5)])]) (Bf [(54,24,88889),(56,24,88889)]) memo
@[simp] noncomputable def Za(b:Bool)(h:Heap)(n:Nat)(n2:Nat)(a:List AV):=cY env b (limf env) (limt env 0) h (Ref.mk 0 n (Heap.gen h 0 n) 0) (some (AV.fn (Fn.func n2) [] [])) a
@[simp] noncomputable def Zb(h:Heap)(n:Nat)(v:AV):=av env.P (Heap.get h) n (some v)
@[simp] noncomputable def Zc(h:Heap)(n:Nat)(n2:Nat)(v:AV):=nRes h (Ref.mk 0 n (Heap.gen h 0 n) 0) (qBox env.P (Ref.mk 0 n (Heap.gen h 0 n) 0) n2 (some v))
@[simp] noncomputable def Zd(h:Heap)(n:Nat)(n2:Nat):=nRes h (Ref.mk 0 n (Heap.gen h 0 n) 0) (ba env.P (Ref.mk 0 n (Heap.gen h 0 n) 0) n2)
@[simp] noncomputable def Ze(v:AV)(v2:AV):=aW (some v) (some v2) (some (AV.v (Value.bool false)))
@[simp] noncomputable def Zf(n:Nat)(v:AV)(n2:Nat):=aa env.P n (some v) n2
@[simp] noncomputable def Zg(h:Heap)(n:Nat)(v:AV)(v2:AV):=aH env.P h n (some v) (some v2)
@[simp] noncomputable def Zh(n:Nat)(n2:Nat)(i:Int)(v:AV):=qBin env.P .neq n (Operand.tmp n2) (Operand.const (Value.int IntKind.i64 i)) (some v) (some (AV.v (Value.int IntKind.i64 i)))
@[simp] noncomputable def Zi(n:Nat)(n2:Nat)(n3:Nat)(v:AV)(v2:AV):=qBin env.P .eql n (Operand.tmp n2) (Operand.tmp n3) (some v) (some v2)
@[simp] noncomputable def Zj(v:AV)(v2:AV):=aW (some v) (some (AV.v (Value.bool true))) (some v2)
@[simp] noncomputable def Zk(n:Nat)(n2:Nat)(i:Int)(v:AV):=qBin env.P .eql n (Operand.tmp n2) (Operand.const (Value.int IntKind.i64 i)) (some v) (some (AV.v (Value.int IntKind.i64 i)))
@[simp] noncomputable def Zl(h:Heap)(n:Nat)(n2:Nat)(v:AV):=aX env.P false (Heap.get h) (Ref.mk 0 n (Heap.gen h 0 n) 0) .len #[n2] [v]
@[simp] noncomputable def Zm(n:Nat)(n2:Nat)(i:Int)(v:AV):=qBin env.P .gtr n (Operand.tmp n2) (Operand.const (Value.int IntKind.i64 i)) (some v) (some (AV.v (Value.int IntKind.i64 i)))
@[simp] noncomputable def Zn(n:Nat)(n2:Nat)(i:Int)(v:AV):=qBin env.P .geq n (Operand.tmp n2) (Operand.const (Value.int IntKind.i64 i)) (some v) (some (AV.v (Value.int IntKind.i64 i)))
@[simp] noncomputable def Zo(n:Nat)(n2:Nat)(i:Int)(v:AV):=qBin env.P .leq n (Operand.tmp n2) (Operand.const (Value.int IntKind.i64 i)) (some v) (some (AV.v (Value.int IntKind.i64 i)))
@[simp] noncomputable def Zp(n:Nat)(n2:Nat)(i:Int)(v:AV):=qBin env.P .lss n (Operand.tmp n2) (Operand.const (Value.int IntKind.i64 i)) (some v) (some (AV.v (Value.int IntKind.i64 i)))
@[simp] noncomputable def Zq(n:Nat)(n2:Nat)(i:Int)(v:AV):=qBin env.P .add n (Operand.tmp n2) (Operand.const (Value.int IntKind.i64 i)) (some v) (some (AV.v (Value.int IntKind.i64 i)))
@[simp] noncomputable def Zr(n:Nat)(n2:Nat)(i:Int)(v:AV):=qBin env.P .sub n (Operand.tmp n2) (Operand.const (Value.int IntKind.i64 i)) (some v) (some (AV.v (Value.int IntKind.i64 i)))
@[simp] noncomputable def Zs(h:Heap)(n:Nat)(v:AV)(v2:AV):=cY env true (limf env) (limt env 0) h (Ref.mk 0 n (Heap.gen h 0 n) 0) (some v) [v2]
@[simp] noncomputable def Zt(n:Nat)(n2:Nat)(n3:Nat)(v:AV)(v2:AV):=qBin env.P .lss n (Operand.tmp n2) (Operand.tmp n3) (some v) (some v2)
@[simp] noncomputable def Zu(n:Nat)(n2:Nat)(n3:Nat)(v:AV)(v2:AV):=qBin env.P .neq n (Operand.tmp n2) (Operand.tmp n3) (some v) (some v2)
@[simp] noncomputable def Zv(h:Heap)(n:Nat)(v:AV)(v2:AV):=aQ env.P (Heap.get h) n (some v) (some v2)
@[simp] noncomputable def Zw(n:Nat)(n2:Nat)(n3:Nat)(v:AV)(v2:AV):=qBin env.P .add n (Operand.tmp n2) (Operand.tmp n3) (some v) (some v2)
@[simp] noncomputable def Zx(n:Nat):=bE env.P n (some [])
@[simp] noncomputable def Zy(v:AV):=qUn env.P .not (some v)
@[simp] noncomputable def Zz(h:Heap)(v:AV)(n:Nat):=aJ env.P h v n
@[simp] noncomputable def ZA(v:AV):=qVal (some v)
@[simp] noncomputable def ZB(v:AV)(n:Nat):=aP (some v) n
@[simp] noncomputable def ZC(h:Heap)(n:Nat)(v:AV):=hZ env false (limf env) (limt env 0) h (Ref.mk 0 n (Heap.gen h 0 n) 0) (some (.fn (.func 24) [] [])) [v]
@[simp] noncomputable def ZD(n:Nat)(n2:Nat)(v:AV):=qBin env.P .neq n (Operand.tmp n2) (.const (.int .i32 (-1))) (some v) (some (.v (.int .i32 (-1))))
@[simp] noncomputable def ZE(h:Heap)(n:Nat)(n2:Nat)(n3:Nat)(v:AV)(v2:AV):=fy env.P true h (Ref.mk 0 n (Heap.gen h 0 n) 0) (some n2) (some n3) v v2
@[simp] noncomputable def ZF(n:Nat)(n2:Nat)(n3:Nat)(v:AV)(v2:AV):=qBin env.P .sub n (Operand.tmp n2) (Operand.tmp n3) (some v) (some v2)
@[simp] noncomputable def ZG(n:Nat)(n2:Nat)(n3:Nat)(v:AV)(v2:AV):=qBin env.P .geq n (Operand.tmp n2) (Operand.tmp n3) (some v) (some v2)
@[simp] noncomputable def ZH(n:Nat)(n2:Nat)(v:AV)(n3:Nat)(v2:AV)(n4:Nat)(v3:AV):=bE env.P n (some [(n2,v),(n3,v2),(n4,v3)])
@[simp] noncomputable def ZI(n:Nat)(n2:Nat)(v:AV)(n3:Nat)(v2:AV):=bE env.P n (some [(n2,v),(n3,v2)])
theorem B0:wo env fns=true:=by kernel_rfl
@[simp] theorem EC{f:FuncId}(h:thr.contains f=false):(env.mode f == 2)=false:=by
 show((if keep.contains f then (if thr.contains f then 3 else 1) else if thr.contains f then 2 else 0) == 2)=false
 rw[h]
 split<;>rfl
@[simp] theorem DV{f:FuncId}(h:thr.contains f=false):(env.mode f == 3)=false:=by
 show((if keep.contains f then (if thr.contains f then 3 else 1) else if thr.contains f then 2 else 0) == 3)=false
 rw[h]
 split<;>rfl
theorem own3{f:FuncId}(h:keep.contains f=true)(h':thr.contains f=true):(env.mode f == 3)=true:=by
 show((if keep.contains f then (if thr.contains f then 3 else 1) else if thr.contains f then 2 else 0) == 3)=true
 rw[h,h'];rfl
theorem DX{f:FuncId}(h:keep.contains f=false):mD (env.mode f)=false:=by
 show mD (if keep.contains f then (if thr.contains f then 3 else 1) else if thr.contains f then 2 else 0)=false
 rw[h]
 cases thr.contains f<;>rfl
@[simp] theorem D3{f:FuncId}(h:keep.contains f=false)(x:AV)(H:Heap)(y:AV):mF env f x H y↔view H.get depth x=some y:=wi (DX h) x H y
theorem DW{f:FuncId}(h:keep.contains f=true):mD (env.mode f)=true:=by
 show mD (if keep.contains f then (if thr.contains f then 3 else 1) else if thr.contains f then 2 else 0)=true
 rw[h]
 cases thr.contains f<;>rfl
@[simp] theorem D2{f:FuncId}(h:keep.contains f=true)(x:AV)(H:Heap)(y:AV):mF env f x H y↔(aA H.get depth x).Nodup∧bH H.get depth x=some y:=r9 (DW h) x H y
@[simp] theorem Dm:aN env.P 3=(some 1):=by kernel_rfl
@[simp] theorem Eu:tagg env.P 3=(some false):=by kernel_rfl
@[simp] theorem D1:kg env.P 3=(some 1):=by kernel_rfl
@[simp] theorem BU:intKind env.P 3=(some .i64):=by kernel_rfl
@[simp] theorem CY:isBool env.P 4=true:=by kernel_rfl
@[simp] theorem Dl:aN env.P 5=(some 1):=by kernel_rfl
@[simp] theorem Et:tagg env.P 5=(some false):=by kernel_rfl
@[simp] theorem D0:kg env.P 5=(some 1):=by kernel_rfl
@[simp] theorem BT:intKind env.P 5=(some .u8):=by kernel_rfl
@[simp] theorem w7:aN env.P 21=(some 1):=by kernel_rfl
@[simp] theorem zg:tagg env.P 21=(some false):=by kernel_rfl
@[simp] theorem AQ:intKind env.P 21=(some .i32):=by kernel_rfl
@[simp] theorem Dj:(env.P.underlying 21).isNone=false:=by kernel_rfl
@[simp] theorem Cy:aN env.P 22=(some 1):=by kernel_rfl
@[simp] theorem CW:kg env.P 22=(some 1):=by kernel_rfl
@[simp] theorem AP:intKind env.P 22=(some .u32):=by kernel_rfl
@[simp] theorem Cx:aN env.P 24=(some 2):=by kernel_rfl
@[simp] theorem Dz:tagg env.P 24=(some true):=by kernel_rfl
@[simp] theorem Ds:tarr env.P 24=none:=by kernel_rfl
@[simp] theorem Cq:eR env.P 24=(some (.agg [(a8 0),(a32 0)])):=by kernel_rfl
@[simp] theorem CV:kg env.P 24=none:=by kernel_rfl
@[simp] theorem Eh:eqTy env.P 24=true:=by kernel_rfl
@[simp] theorem sh:dS env.P 24=(some [5,22]):=by kernel_rfl
@[simp] theorem BI:gv env.P 24=(some [(0,1),(1,1)]):=by kernel_rfl
@[simp] theorem Ah:aU env.P 24 0=(some (0,1)):=by kernel_rfl
@[simp] theorem Cw:aN env.P 26=(some 3):=by kernel_rfl
@[simp] theorem Dy:tagg env.P 26=(some true):=by kernel_rfl
@[simp] theorem CU:kg env.P 26=none:=by kernel_rfl
@[simp] theorem Eg:eqTy env.P 26=true:=by kernel_rfl
@[simp] theorem sg:dS env.P 26=(some [24,5]):=by kernel_rfl
@[simp] theorem Ag:aU env.P 26 0=(some (0,2)):=by kernel_rfl
@[simp] theorem Aa:aU env.P 26 1=(some (2,1)):=by kernel_rfl
@[simp] theorem Cv:aN env.P 28=(some 4):=by kernel_rfl
@[simp] theorem Dx:tagg env.P 28=(some true):=by kernel_rfl
@[simp] theorem Dr:tarr env.P 28=none:=by kernel_rfl
@[simp] theorem Cp:eR env.P 28=(some (.agg [(a8 0),(a32 0),(a8 0),(.v (.int .i64 0))])):=by kernel_rfl
@[simp] theorem CT:kg env.P 28=none:=by kernel_rfl
@[simp] theorem Ef:eqTy env.P 28=true:=by kernel_rfl
@[simp] theorem sf:dS env.P 28=(some [26,3]):=by kernel_rfl
@[simp] theorem BH:gv env.P 28=(some [(0,3),(3,1)]):=by kernel_rfl
@[simp] theorem Af:aU env.P 28 0=(some (0,3)):=by kernel_rfl
@[simp] theorem z9:aU env.P 28 1=(some (3,1)):=by kernel_rfl
@[simp] theorem Cu:aN env.P 30=(some 5):=by kernel_rfl
@[simp] theorem Dw:tagg env.P 30=(some true):=by kernel_rfl
@[simp] theorem Dq:tarr env.P 30=none:=by kernel_rfl
@[simp] theorem Co:eR env.P 30=(some (.agg [(a8 0),(a32 0),(a8 0),(.v (.int .i64 0)),(.v (.int .i64 0))])):=by kernel_rfl
@[simp] theorem CS:kg env.P 30=none:=by kernel_rfl
@[simp] theorem Ee:eqTy env.P 30=true:=by kernel_rfl
@[simp] theorem sd:dS env.P 30=(some [28,3]):=by kernel_rfl
@[simp] theorem BG:gv env.P 30=(some [(0,4),(4,1)]):=by kernel_rfl
@[simp] theorem Ae:aU env.P 30 0=(some (0,4)):=by kernel_rfl
@[simp] theorem z8:aU env.P 30 1=(some (4,1)):=by kernel_rfl
@[simp] theorem Ct:aN env.P 31=(some 1):=by kernel_rfl
@[simp] theorem Dv:tagg env.P 31=(some false):=by kernel_rfl
@[simp] theorem w8:dy env.P 31=(some 21):=by kernel_rfl
@[simp] theorem Dp:tarr env.P 31=none:=by kernel_rfl
@[simp] theorem CX:isStr env.P 31=false:=by kernel_rfl
@[simp] theorem EG:apT env.P 31=true:=by kernel_rfl
@[simp] theorem Ek:elOk env.P 31=true:=by kernel_rfl
@[simp] theorem EF:elZ env.P 31=1:=by kernel_rfl
@[simp] theorem El:elBy env.P 31=4:=by kernel_rfl
@[simp] theorem Ca:oE env.P 31=(.v (.int .i32 0)):=by kernel_rfl
@[simp] theorem Cs:aN env.P 33=(some 10):=by kernel_rfl
@[simp] theorem Du:tagg env.P 33=(some true):=by kernel_rfl
@[simp] theorem Dn:tarr env.P 33=none:=by kernel_rfl
@[simp] theorem Cn:eR env.P 33=(some (.agg [(a8 0),(a32 0),(a8 0),(.v (.int .i64 0)),(.v (.int .i64 0)),(a8 0),(a32 0),(a8 0),(.v (.int .i64 0)),(.v (.slice none 0 0))])):=by kernel_rfl
@[simp] theorem sc:dS env.P 33=(some [30,28,31]):=by kernel_rfl
@[simp] theorem BF:gv env.P 33=(some [(0,5),(5,4),(9,1)]):=by kernel_rfl
@[simp] theorem Ad:aU env.P 33 0=(some (0,5)):=by kernel_rfl
@[simp] theorem z7:aU env.P 33 1=(some (5,4)):=by kernel_rfl
@[simp] theorem z5:aU env.P 33 2=(some (9,1)):=by kernel_rfl
@[simp] theorem Cr:aN env.P 49=(some 17):=by kernel_rfl
@[simp] theorem Dt:tagg env.P 49=(some true):=by kernel_rfl
@[simp] theorem Cm:eR env.P 49=(some (.agg [(a8 0),(a8 0),(a32 0),(a8 0),(.v (.int .i64 0)),(a8 0),(a32 0),(a8 0),(.v (.int .i64 0)),(.v (.int .i64 0)),(a8 0),(a32 0),(a8 0),(.v (.int .i64 0)),(a8 0),(a32 0),(.v (.slice none 0 0))])):=by kernel_rfl
@[simp] theorem sb:dS env.P 49=(some [5,26,3,30,28,24,31]):=by kernel_rfl
@[simp] theorem Ac:aU env.P 49 0=(some (0,1)):=by kernel_rfl
@[simp] theorem z6:aU env.P 49 1=(some (1,3)):=by kernel_rfl
@[simp] theorem z0:aU env.P 49 2=(some (4,1)):=by kernel_rfl
@[simp] theorem zZ:aU env.P 49 3=(some (5,5)):=by kernel_rfl
@[simp] theorem zY:aU env.P 49 4=(some (10,4)):=by kernel_rfl
@[simp] theorem zX:aU env.P 49 5=(some (14,2)):=by kernel_rfl
@[simp] theorem zW:aU env.P 49 6=(some (16,1)):=by kernel_rfl
@[simp] theorem Bd:aN env.P 123=(some 10):=by kernel_rfl
@[simp] theorem CB:tarr env.P 123=none:=by kernel_rfl
@[simp] theorem Ba:eR env.P 123=(some (.agg [(a8 0),(a32 0),(a8 0),(.v (.int .i64 0)),(.v (.int .i64 0)),(a8 0),(a32 0),(a8 0),(.v (.int .i64 0)),(.v (.slice none 0 0))])):=by kernel_rfl
@[simp] theorem AK:gv env.P 123=(some [(0,5),(5,4),(9,1)]):=by kernel_rfl
@[simp] theorem yZ:aU env.P 123 0=(some (0,5)):=by kernel_rfl
@[simp] theorem yY:aU env.P 123 1=(some (5,4)):=by kernel_rfl
@[simp] theorem yX:aU env.P 123 2=(some (9,1)):=by kernel_rfl
@[simp] theorem Bc:aN env.P 130=(some 1):=by kernel_rfl
@[simp] theorem CD:tagg env.P 130=(some false):=by kernel_rfl
@[simp] theorem Be:dy env.P 156=(some 33):=by kernel_rfl
@[simp] theorem CA:tarr env.P 156=none:=by kernel_rfl
@[simp] theorem BS:isStr env.P 156=false:=by kernel_rfl
@[simp] theorem C5:elOk env.P 156=true:=by kernel_rfl
@[simp] theorem Ej:elZ env.P 156=10:=by kernel_rfl
@[simp] theorem A1:oE env.P 156=(.agg [(a8 0),(a32 0),(a8 0),(.v (.int .i64 0)),(.v (.int .i64 0)),(a8 0),(a32 0),(a8 0),(.v (.int .i64 0)),(.v (.slice none 0 0))]):=by kernel_rfl
@[simp] theorem Bb:aN env.P 163=(some 2):=by kernel_rfl
@[simp] theorem CC:tagg env.P 163=(some true):=by kernel_rfl
@[simp] theorem yG:j2 env.P 163 0=(some (0,130)):=by kernel_rfl
@[simp] theorem Cz:tarr env.P 164=(some (4,163)):=by kernel_rfl
end Go.Proofs.Ytjampffmlnplcaa
