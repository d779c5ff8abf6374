/-
  The facts on the program's types, computed. No statement of a seat is proved here.
-/
import Derived.Test.YtgooemdlilfkmaaRows
import Derived.Test.YtgooemdlilfkmaaAbsRules
set_option linter.unusedVariables false
set_option maxRecDepth 1000000
namespace Go.Proofs.Ytgooemdlilfkmaa
open Go.Ab
def fns:List FuncId:=[3,4,5,6,7,8,9,10,11,12,13,14,15,16,17,18,19,20,21,22,23,24,25,26,27,28,29,30,31,32,33,34,35,36,37,38,39,40,41,42,43,44,45,46,47,48,49,50,51,52,53,54,55,56,57,58,59,60,61,62,63,64,65,66,67,68,69,70,71,72,73,74,75,76,77,78,79,80,81,82,83,84]
def keep:List FuncId:=[13,20,26,34,36,41,58,59,66]
def thr:List FuncId:=[34,36,66]
def memo:List (FuncId × List AV × AV):=[]
noncomputable def env:Env:=md Try.prog fns keep thr (vn [(19,13,18),(7,5,66666),(7,6,66666),(19,20,88889)]) (mg [(14,5,3,[(15,2)])]) (zA [(19,13,18),(7,5,66666),(7,6,66666),(19,20,88889)]) memo
@[simp] noncomputable def Za(b:Bool)(h:Heap)(n:Nat)(n2:Nat)(a:List AV):=gy env b (limf env) (limt env 0) h (Ref.mk 0 n (Heap.gen h 0 n) 0) (some (AV.fn (Fn.func n2) [] [])) a
@[simp] noncomputable def Zb(h:Heap)(n:Nat)(v:AV):=aC env.P (Heap.get h) n (some v)
@[simp] noncomputable def Zc(h:Heap)(n:Nat)(n2:Nat)(v:AV):=nRes h (Ref.mk 0 n (Heap.gen h 0 n) 0) (qBox env.P (Ref.mk 0 n (Heap.gen h 0 n) 0) n2 (some v))
@[simp] noncomputable def Zd(h:Heap)(n:Nat)(n2:Nat)(v:AV):=aF env.P false (Heap.get h) (Ref.mk 0 n (Heap.gen h 0 n) 0) .len #[n2] [v]
@[simp] noncomputable def Ze(n:Nat)(n2:Nat)(i:Int)(v:AV):=qBin env.P .add n (Operand.tmp n2) (Operand.const (Value.int IntKind.i64 i)) (some v) (some (AV.v (Value.int IntKind.i64 i)))
@[simp] noncomputable def Zf(h:Heap)(n:Nat)(n2:Nat):=nRes h (Ref.mk 0 n (Heap.gen h 0 n) 0) (cW env.P (Ref.mk 0 n (Heap.gen h 0 n) 0) n2)
@[simp] noncomputable def Zg(n:Nat)(v:AV)(n2:Nat):=ak env.P n (some v) n2
@[simp] noncomputable def Zh(n:Nat)(n2:Nat)(i:Int)(v:AV):=qBin env.P .gtr n (Operand.tmp n2) (Operand.const (Value.int IntKind.i64 i)) (some v) (some (AV.v (Value.int IntKind.i64 i)))
@[simp] noncomputable def Zi(v:AV)(v2:AV):=cG (some v) (some v2) (some (AV.v (Value.bool false)))
@[simp] noncomputable def Zj(n:Nat)(n2:Nat)(n3:Nat)(v:AV)(v2:AV):=qBin env.P .lss n (Operand.tmp n2) (Operand.tmp n3) (some v) (some v2)
@[simp] noncomputable def Zk(n:Nat)(n2:Nat)(i:Int)(v:AV):=qBin env.P .leq n (Operand.tmp n2) (Operand.const (Value.int IntKind.i64 i)) (some v) (some (AV.v (Value.int IntKind.i64 i)))
@[simp] noncomputable def Zl(v:AV)(v2:AV):=cG (some v) (some (AV.v (Value.bool true))) (some v2)
@[simp] noncomputable def Zm(h:Heap)(n:Nat)(v:AV)(v2:AV):=bc env.P h n (some v) (some v2)
@[simp] noncomputable def Zn(h:Heap)(n:Nat)(v:AV)(v2:AV):=aE env.P (Heap.get h) n (some v) (some v2)
@[simp] noncomputable def Zo(n:Nat)(n2:Nat)(i:Int)(v:AV):=qBin env.P .geq n (Operand.tmp n2) (Operand.const (Value.int IntKind.i64 i)) (some v) (some (AV.v (Value.int IntKind.i64 i)))
@[simp] noncomputable def Zp(n:Nat)(n2:Nat)(i:Int)(v:AV):=qBin env.P .eql n (Operand.tmp n2) (Operand.const (Value.int IntKind.i64 i)) (some v) (some (AV.v (Value.int IntKind.i64 i)))
@[simp] noncomputable def Zq(n:Nat)(n2:Nat)(n3:Nat)(v:AV)(v2:AV):=qBin env.P .eql n (Operand.tmp n2) (Operand.tmp n3) (some v) (some v2)
@[simp] noncomputable def Zr(n:Nat)(n2:Nat)(i:Int)(v:AV):=qBin env.P .sub n (Operand.tmp n2) (Operand.const (Value.int IntKind.i64 i)) (some v) (some (AV.v (Value.int IntKind.i64 i)))
@[simp] noncomputable def Zs(n:Nat)(n2:Nat)(i:Int)(v:AV):=qBin env.P .neq n (Operand.tmp n2) (Operand.const (Value.int IntKind.i64 i)) (some v) (some (AV.v (Value.int IntKind.i64 i)))
@[simp] noncomputable def Zt(n:Nat)(n2:Nat)(n3:Nat)(v:AV)(v2:AV):=qBin env.P .add n (Operand.tmp n2) (Operand.tmp n3) (some v) (some v2)
@[simp] noncomputable def Zu(n:Nat)(n2:Nat)(i:Int)(v:AV):=qBin env.P .lss n (Operand.tmp n2) (Operand.const (Value.int IntKind.i64 i)) (some v) (some (AV.v (Value.int IntKind.i64 i)))
@[simp] noncomputable def Zv(h:Heap)(n:Nat)(n2:Nat)(n3:Nat)(v:AV)(v2:AV):=eO env.P true h (Ref.mk 0 n (Heap.gen h 0 n) 0) (some n2) (some n3) v v2
@[simp] noncomputable def Zw(n:Nat)(n2:Nat)(n3:Nat)(v:AV)(v2:AV):=qBin env.P .neq n (Operand.tmp n2) (Operand.tmp n3) (some v) (some v2)
@[simp] noncomputable def Zx(n:Nat)(n2:Nat)(i:Int)(v:AV):=qBin env.P .mul n (Operand.tmp n2) (Operand.const (Value.int IntKind.i64 i)) (some v) (some (AV.v (Value.int IntKind.i64 i)))
@[simp] noncomputable def Zy(n:Nat)(i:Int)(n2:Nat)(v:AV):=qBin env.P .mul n (Operand.const (Value.int IntKind.i64 i)) (Operand.tmp n2) (some (AV.v (Value.int IntKind.i64 i))) (some v)
@[simp] noncomputable def Zz(h:Heap)(n:Nat)(n2:Nat)(n3:Nat)(v:AV):=cE env.P (Heap.get h) (Ref.mk 0 n (Heap.gen h 0 n) 0) n2 n3 (some v)
@[simp] noncomputable def ZA(v:AV):=qUn env.P .not (some v)
@[simp] noncomputable def ZB(v:AV):=qVal (some v)
@[simp] noncomputable def ZC(n:Nat)(n2:Nat)(v:AV):=qBin env.P .eql n (Operand.tmp n2) (.const (.slice none 0 0)) (some v) (some (.v (.slice none 0 0)))
@[simp] noncomputable def ZD(h:Heap)(n:Nat)(n2:Nat)(n3:Nat)(n4:Nat)(v:AV):=mf env.P false true h (Ref.mk 0 n (Heap.gen h 0 n) 0) n2 n3 (some [(n4,v)])
@[simp] noncomputable def ZE(n:Nat):=fa env.P n (some [])
@[simp] noncomputable def ZF(v:AV)(n:Nat):=bJ (some v) n
@[simp] noncomputable def ZG(h:Heap)(v:AV)(n:Nat):=bZ env.P h v n
theorem Ad:uH env fns=true:=by kernel_rfl
@[simp] theorem C4{f:FuncId}(h:thr.contains f=false):(env.mode f == 2)=false:=by
 show((if keep.contains f then (if thr.contains f then 3 else 1) else if thr.contains f then 2 else 0) == 2)=false
 rw[h]
 split<;>rfl
@[simp] theorem B8{f:FuncId}(h:thr.contains f=false):(env.mode f == 3)=false:=by
 show((if keep.contains f then (if thr.contains f then 3 else 1) else if thr.contains f then 2 else 0) == 3)=false
 rw[h]
 split<;>rfl
theorem own3{f:FuncId}(h:keep.contains f=true)(h':thr.contains f=true):(env.mode f == 3)=true:=by
 show((if keep.contains f then (if thr.contains f then 3 else 1) else if thr.contains f then 2 else 0) == 3)=true
 rw[h,h'];rfl
theorem Cc{f:FuncId}(h:keep.contains f=false):lZ (env.mode f)=false:=by
 show lZ (if keep.contains f then (if thr.contains f then 3 else 1) else if thr.contains f then 2 else 0)=false
 rw[h]
 cases thr.contains f<;>rfl
@[simp] theorem yh{f:FuncId}(h:keep.contains f=false)(x:AV)(H:Heap)(y:AV):iq env f x H y↔view H.get depth x=some y:=uD (Cc h) x H y
theorem Cb{f:FuncId}(h:keep.contains f=true):lZ (env.mode f)=true:=by
 show lZ (if keep.contains f then (if thr.contains f then 3 else 1) else if thr.contains f then 2 else 0)=true
 rw[h]
 cases thr.contains f<;>rfl
@[simp] theorem Cl{f:FuncId}(h:keep.contains f=true)(x:AV)(H:Heap)(y:AV):iq env f x H y↔(ax H.get depth x).Nodup∧bC H.get depth x=some y:=dE (Cb h) x H y
@[simp] theorem BC:aX env.P 3=(some 1):=by kernel_rfl
@[simp] theorem CT:tagg env.P 3=(some false):=by kernel_rfl
@[simp] theorem Ch:jY env.P 3=(some 1):=by kernel_rfl
@[simp] theorem z8:intKind env.P 3=(some .i64):=by kernel_rfl
@[simp] theorem BB:aX env.P 4=(some 1):=by kernel_rfl
@[simp] theorem CS:tagg env.P 4=(some false):=by kernel_rfl
@[simp] theorem Cg:jY env.P 4=(some 0):=by kernel_rfl
@[simp] theorem Bj:isBool env.P 4=true:=by kernel_rfl
@[simp] theorem BA:aX env.P 5=(some 1):=by kernel_rfl
@[simp] theorem CR:tagg env.P 5=(some false):=by kernel_rfl
@[simp] theorem Cf:jY env.P 5=(some 1):=by kernel_rfl
@[simp] theorem z7:intKind env.P 5=(some .u8):=by kernel_rfl
@[simp] theorem CP:(env.P.underlying 5).isNone=false:=by kernel_rfl
@[simp] theorem AO:aX env.P 22=(some 1):=by kernel_rfl
@[simp] theorem BQ:tagg env.P 22=(some false):=by kernel_rfl
@[simp] theorem Bd:jY env.P 22=(some 1):=by kernel_rfl
@[simp] theorem y7:intKind env.P 22=(some .u32):=by kernel_rfl
@[simp] theorem By:(env.P.underlying 22).isNone=false:=by kernel_rfl
@[simp] theorem AN:aX env.P 24=(some 2):=by kernel_rfl
@[simp] theorem BP:tagg env.P 24=(some true):=by kernel_rfl
@[simp] theorem BJ:tarr env.P 24=none:=by kernel_rfl
@[simp] theorem AI:fp env.P 24=(some (.agg [(a8 0),(a32 0)])):=by kernel_rfl
@[simp] theorem Bc:jY env.P 24=none:=by kernel_rfl
@[simp] theorem Cy:eqTy env.P 24=true:=by kernel_rfl
@[simp] theorem qX:eQ env.P 24=(some [5,22]):=by kernel_rfl
@[simp] theorem zU:kg env.P 24=(some [(0,1),(1,1)]):=by kernel_rfl
@[simp] theorem yA:bf env.P 24 0=(some (0,1)):=by kernel_rfl
@[simp] theorem yv:bf env.P 24 1=(some (1,1)):=by kernel_rfl
@[simp] theorem vj:aX env.P 26=(some 5):=by kernel_rfl
@[simp] theorem xz:tagg env.P 26=(some true):=by kernel_rfl
@[simp] theorem AH:fp env.P 26=(some (.agg [(a8 0),(a32 0),(.v (.int .i64 0)),(.v (.int .i64 0)),(.v (.int .i64 0))])):=by kernel_rfl
@[simp] theorem Bb:jY env.P 26=none:=by kernel_rfl
@[simp] theorem Cx:eqTy env.P 26=true:=by kernel_rfl
@[simp] theorem qW:eQ env.P 26=(some [24,3,3,3]):=by kernel_rfl
@[simp] theorem yz:bf env.P 26 0=(some (0,2)):=by kernel_rfl
@[simp] theorem yt:bf env.P 26 1=(some (2,1)):=by kernel_rfl
@[simp] theorem ym:bf env.P 26 2=(some (3,1)):=by kernel_rfl
@[simp] theorem yk:bf env.P 26 3=(some (4,1)):=by kernel_rfl
@[simp] theorem AM:aX env.P 27=(some 1):=by kernel_rfl
@[simp] theorem BO:tagg env.P 27=(some false):=by kernel_rfl
@[simp] theorem AL:aX env.P 30=(some 1):=by kernel_rfl
@[simp] theorem BN:tagg env.P 30=(some false):=by kernel_rfl
@[simp] theorem vm:cT env.P 30=(some 39):=by kernel_rfl
@[simp] theorem BI:tarr env.P 30=none:=by kernel_rfl
@[simp] theorem Bi:isStr env.P 30=false:=by kernel_rfl
@[simp] theorem De:apT env.P 30=true:=by kernel_rfl
@[simp] theorem CF:elOk env.P 30=true:=by kernel_rfl
@[simp] theorem Da:elZ env.P 30=3:=by kernel_rfl
@[simp] theorem CJ:elBy env.P 30=12:=by kernel_rfl
@[simp] theorem Ap:lC env.P 30=(.agg [(a8 0),(a32 0),(.v (.bool false))]):=by kernel_rfl
@[simp] theorem AK:aX env.P 31=(some 1):=by kernel_rfl
@[simp] theorem BM:tagg env.P 31=(some false):=by kernel_rfl
@[simp] theorem vl:cT env.P 31=(some 26):=by kernel_rfl
@[simp] theorem BH:tarr env.P 31=none:=by kernel_rfl
@[simp] theorem Bh:isStr env.P 31=false:=by kernel_rfl
@[simp] theorem Dd:apT env.P 31=true:=by kernel_rfl
@[simp] theorem CE:elOk env.P 31=true:=by kernel_rfl
@[simp] theorem C9:elZ env.P 31=5:=by kernel_rfl
@[simp] theorem CI:elBy env.P 31=32:=by kernel_rfl
@[simp] theorem Ao:lC env.P 31=(.agg [(a8 0),(a32 0),(.v (.int .i64 0)),(.v (.int .i64 0)),(.v (.int .i64 0))]):=by kernel_rfl
@[simp] theorem AJ:aX env.P 33=(some 3):=by kernel_rfl
@[simp] theorem BL:tagg env.P 33=(some true):=by kernel_rfl
@[simp] theorem BG:tarr env.P 33=none:=by kernel_rfl
@[simp] theorem AG:fp env.P 33=(some (.agg [(.v (.slice none 0 0)),(.v (.slice none 0 0)),(.v (.int .i64 0))])):=by kernel_rfl
@[simp] theorem qV:eQ env.P 33=(some [30,31,3]):=by kernel_rfl
@[simp] theorem zT:kg env.P 33=(some [(0,1),(1,1),(2,1)]):=by kernel_rfl
@[simp] theorem yy:bf env.P 33 0=(some (0,1)):=by kernel_rfl
@[simp] theorem yr:bf env.P 33 1=(some (1,1)):=by kernel_rfl
@[simp] theorem yl:bf env.P 33 2=(some (2,1)):=by kernel_rfl
@[simp] theorem vi:aX env.P 39=(some 3):=by kernel_rfl
@[simp] theorem xy:tagg env.P 39=(some true):=by kernel_rfl
@[simp] theorem AF:fp env.P 39=(some (.agg [(a8 0),(a32 0),(.v (.bool false))])):=by kernel_rfl
@[simp] theorem Ba:jY env.P 39=none:=by kernel_rfl
@[simp] theorem Cw:eqTy env.P 39=true:=by kernel_rfl
@[simp] theorem qU:eQ env.P 39=(some [24,4]):=by kernel_rfl
@[simp] theorem yx:bf env.P 39 0=(some (0,2)):=by kernel_rfl
@[simp] theorem yp:bf env.P 39 1=(some (2,1)):=by kernel_rfl
@[simp] theorem vh:aX env.P 59=(some 4):=by kernel_rfl
@[simp] theorem xw:tagg env.P 59=(some true):=by kernel_rfl
@[simp] theorem AE:fp env.P 59=(some (.agg [(.v (.int .i64 0)),(a8 0),(a32 0),(.v (.bool false))])):=by kernel_rfl
@[simp] theorem qT:eQ env.P 59=(some [3,39]):=by kernel_rfl
@[simp] theorem yw:bf env.P 59 0=(some (0,1)):=by kernel_rfl
@[simp] theorem yn:bf env.P 59 1=(some (1,3)):=by kernel_rfl
@[simp] theorem BK:tagg env.P 70=(some false):=by kernel_rfl
@[simp] theorem vk:cT env.P 70=(some 59):=by kernel_rfl
@[simp] theorem BF:tarr env.P 70=none:=by kernel_rfl
@[simp] theorem Bg:isStr env.P 70=false:=by kernel_rfl
@[simp] theorem AQ:cT env.P 75=(some 27):=by kernel_rfl
@[simp] theorem BE:tarr env.P 75=none:=by kernel_rfl
@[simp] theorem Bf:isStr env.P 75=false:=by kernel_rfl
@[simp] theorem Dc:apT env.P 75=true:=by kernel_rfl
@[simp] theorem CD:elOk env.P 75=true:=by kernel_rfl
@[simp] theorem C8:elZ env.P 75=1:=by kernel_rfl
@[simp] theorem CH:elBy env.P 75=8:=by kernel_rfl
@[simp] theorem An:lC env.P 75=(.v (.int .i64 0)):=by kernel_rfl
@[simp] theorem AP:cT env.P 78=(some 3):=by kernel_rfl
@[simp] theorem BD:tarr env.P 78=none:=by kernel_rfl
@[simp] theorem Be:isStr env.P 78=false:=by kernel_rfl
@[simp] theorem Db:apT env.P 78=true:=by kernel_rfl
@[simp] theorem CC:elOk env.P 78=true:=by kernel_rfl
@[simp] theorem C7:elZ env.P 78=1:=by kernel_rfl
@[simp] theorem CG:elBy env.P 78=8:=by kernel_rfl
@[simp] theorem Am:lC env.P 78=(.v (.int .i64 0)):=by kernel_rfl
@[simp] theorem zx:cT env.P 114=(some 4):=by kernel_rfl
@[simp] theorem AR:tarr env.P 114=none:=by kernel_rfl
@[simp] theorem z6:isStr env.P 114=false:=by kernel_rfl
@[simp] theorem Bo:elOk env.P 114=true:=by kernel_rfl
@[simp] theorem CB:elZ env.P 114=1:=by kernel_rfl
@[simp] theorem zj:lC env.P 114=(.v (.bool false)):=by kernel_rfl
end Go.Proofs.Ytgooemdlilfkmaa
