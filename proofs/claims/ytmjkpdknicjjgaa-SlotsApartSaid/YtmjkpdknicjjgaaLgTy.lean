/-
  The facts on the program's types, computed. No statement of a seat is proved here.
-/
import Derived.Test.YtmjkpdknicjjgaaRows
import Derived.Test.YtmjkpdknicjjgaaAbsRules
import Derived.Test.YtmjkpdknicjjgaaInsLs
set_option linter.unusedVariables false
set_option maxRecDepth 1000000
namespace Go.Proofs.Ytmjkpdknicjjgaa
open Go.Ab
def fns:List FuncId:=[4,5,7,8,22,23,24,25,26,28,37,38,39,58,9,10,11,12,13,14,15,16,17,18,19,20,21,27,29,30,31,32,33,34,35,36,40,41,42,43,44,45,46,47,48,49,50,51,52,53,54,55,56,57,59,60,61,64,65,66,67,68,69,70,71,72,73,74,75,76,77,78,79,81,82,83,84,85,86,87,88,89,90,91,92,94,95,96,97,98,99,100,101,102,103,104,105,106,107,108,109,110,111,112]
def keep:List FuncId:=[30,44,47,53,65,98]
def thr:List FuncId:=[42,64,95,96]
def memo:List (FuncId × List AV × AV):=[]
noncomputable def env:Env:=DB Try.prog fns keep thr (Jy [(19,13,18),(16,1,77777),(55,1,88888)]) (uU [(49,9,0,[(6,50),(6,54)]),(81,5,9,[(82,8)]),(15,12,0,[(20,23)]),(52,10,0,[(56,58)]),(13,5,4,[(3,2)]),(67,5,4,[(3,2)]),(7,6,0,[(3,5)]),(14,5,3,[(15,2)]),(35,21,0,[(36,52),(37,52),(38,52),(41,52),(42,52),(43,52),(47,52),(48,52),(49,52)]),(145,8,4,[(148,2)])]) (P2 [(19,13,18),(16,1,77777),(55,1,88888)]) memo (fun _=>false) (fun _=>none) (fun f args H=>if f=42 then qf Try.prog 22 40 args H else none)
theorem Iz:KU env fns=true:=by kernel_rfl
@[simp] theorem U6 {f:FuncId} (h:thr.contains f=false):(env.mode f == 2)=false:=by
 show ((if keep.contains f then 1 else if thr.contains f then 2 else 0) == 2)=false
 rw [h]
 split<;>rfl
theorem Ui {f:FuncId} (h:keep.contains f=false):(env.mode f == 1)=false:=by
 show ((if keep.contains f then 1 else if thr.contains f then 2 else 0) == 1)=false
 rw [h]
 cases thr.contains f<;>rfl
@[simp] theorem Uq {f:FuncId} (h:keep.contains f=false) (x:AV) (H:Heap) (y:AV):iq env f x H y↔view H.get depth x=some y:=Il (Ui h) x H y
theorem Uh {f:FuncId} (h:keep.contains f=true):(env.mode f == 1)=true:=by
 show ((if keep.contains f then 1 else if thr.contains f then 2 else 0) == 1)=true
 rw [h];rfl
@[simp] theorem Up {f:FuncId} (h:keep.contains f=true) (x:AV) (H:Heap) (y:AV):iq env f x H y↔(aC H.get depth x).Nodup∧dA H.get depth x=some y:=Dr (Uh h) x H y
@[simp] theorem Mr:aV env.P 3=(some 1):=by kernel_rfl
@[simp] theorem P1:tagg env.P 3=(some false):=by kernel_rfl
@[simp] theorem Mn:eQ env.P 3=(some (.v (.int .i64 0))):=by kernel_rfl
@[simp] theorem Nw:lV env.P 3=(some 1):=by kernel_rfl
@[simp] theorem Nz:isInt env.P 3=true:=by kernel_rfl
@[simp] theorem Ia:intKind env.P 3=(some .i64):=by kernel_rfl
@[simp] theorem PI:(env.P.underlying 3).isNone=false:=by kernel_rfl
@[simp] theorem Mq:aV env.P 4=(some 1):=by kernel_rfl
@[simp] theorem P0:tagg env.P 4=(some false):=by kernel_rfl
@[simp] theorem Nv:lV env.P 4=(some 0):=by kernel_rfl
@[simp] theorem KL:isBool env.P 4=true:=by kernel_rfl
@[simp] theorem Mp:aV env.P 5=(some 1):=by kernel_rfl
@[simp] theorem PZ:tagg env.P 5=(some false):=by kernel_rfl
@[simp] theorem Nu:lV env.P 5=(some 1):=by kernel_rfl
@[simp] theorem HZ:intKind env.P 5=(some .u8):=by kernel_rfl
@[simp] theorem PH:(env.P.underlying 5).isNone=false:=by kernel_rfl
@[simp] theorem Ul:isStr env.P 9=true:=by kernel_rfl
@[simp] theorem R7:aV env.P 21=(some 1):=by kernel_rfl
@[simp] theorem TP:tagg env.P 21=(some false):=by kernel_rfl
@[simp] theorem Tj:(env.P.underlying 21).isNone=false:=by kernel_rfl
@[simp] theorem Jw:aV env.P 22=(some 1):=by kernel_rfl
@[simp] theorem Mx:tagg env.P 22=(some false):=by kernel_rfl
@[simp] theorem D6:dB env.P 22=(some 94):=by kernel_rfl
@[simp] theorem Mu:tarr env.P 22=none:=by kernel_rfl
@[simp] theorem KI:isStr env.P 22=false:=by kernel_rfl
@[simp] theorem Ru:apT env.P 22=true:=by kernel_rfl
@[simp] theorem Ox:elOk env.P 22=true:=by kernel_rfl
@[simp] theorem Rh:elZ env.P 22=2:=by kernel_rfl
@[simp] theorem Oz:elBy env.P 22=32:=by kernel_rfl
@[simp] theorem II:fF env.P 22=(.agg [(.v (.int .i64 0)),(.v (.slice none 0 0))]):=by kernel_rfl
@[simp] theorem R6:aV env.P 24=(some 4):=by kernel_rfl
@[simp] theorem TO:tagg env.P 24=(some true):=by kernel_rfl
@[simp] theorem TB:tarr env.P 24=none:=by kernel_rfl
@[simp] theorem RR:eQ env.P 24=(some (.agg [(.v (.slice none 0 0)),(.v (.int .i64 0)),(.v (.int .i64 0)),(.v (.bool false))])):=by kernel_rfl
@[simp] theorem Dz:fE env.P 24=(some [22,3,3,4]):=by kernel_rfl
@[simp] theorem QI:eS env.P 24=(some [(0,1),(1,1),(2,1),(3,1)]):=by kernel_rfl
@[simp] theorem Of:aF env.P 24 0=(some (0,1)):=by kernel_rfl
@[simp] theorem N4:aF env.P 24 1=(some (1,1)):=by kernel_rfl
@[simp] theorem NU:aF env.P 24 2=(some (2,1)):=by kernel_rfl
@[simp] theorem NR:aF env.P 24 3=(some (3,1)):=by kernel_rfl
@[simp] theorem R5:aV env.P 25=(some 1):=by kernel_rfl
@[simp] theorem TN:tagg env.P 25=(some false):=by kernel_rfl
@[simp] theorem Th:(env.P.underlying 25).isNone=false:=by kernel_rfl
@[simp] theorem R4:aV env.P 31=(some 1):=by kernel_rfl
@[simp] theorem TM:tagg env.P 31=(some false):=by kernel_rfl
@[simp] theorem SM:lV env.P 31=(some 1):=by kernel_rfl
@[simp] theorem Pc:intKind env.P 31=(some .u32):=by kernel_rfl
@[simp] theorem Tg:(env.P.underlying 31).isNone=false:=by kernel_rfl
@[simp] theorem R3:aV env.P 33=(some 2):=by kernel_rfl
@[simp] theorem TL:tagg env.P 33=(some true):=by kernel_rfl
@[simp] theorem TA:tarr env.P 33=none:=by kernel_rfl
@[simp] theorem RQ:eQ env.P 33=(some (.agg [(a8 0),(a32 0)])):=by kernel_rfl
@[simp] theorem SL:lV env.P 33=none:=by kernel_rfl
@[simp] theorem UF:eqTy env.P 33=true:=by kernel_rfl
@[simp] theorem Oo:fE env.P 33=(some [5,31]):=by kernel_rfl
@[simp] theorem QH:eS env.P 33=(some [(0,1),(1,1)]):=by kernel_rfl
@[simp] theorem Oe:aF env.P 33 0=(some (0,1)):=by kernel_rfl
@[simp] theorem N3:aF env.P 33 1=(some (1,1)):=by kernel_rfl
@[simp] theorem R2:aV env.P 35=(some 3):=by kernel_rfl
@[simp] theorem TK:tagg env.P 35=(some true):=by kernel_rfl
@[simp] theorem Tz:tarr env.P 35=none:=by kernel_rfl
@[simp] theorem RP:eQ env.P 35=(some (.agg [(a8 0),(a32 0),(a8 0)])):=by kernel_rfl
@[simp] theorem SK:lV env.P 35=none:=by kernel_rfl
@[simp] theorem UE:eqTy env.P 35=true:=by kernel_rfl
@[simp] theorem On:fE env.P 35=(some [33,5]):=by kernel_rfl
@[simp] theorem QG:eS env.P 35=(some [(0,2),(2,1)]):=by kernel_rfl
@[simp] theorem Od:aF env.P 35 0=(some (0,2)):=by kernel_rfl
@[simp] theorem N2:aF env.P 35 1=(some (2,1)):=by kernel_rfl
@[simp] theorem R1:aV env.P 37=(some 4):=by kernel_rfl
@[simp] theorem TJ:tagg env.P 37=(some true):=by kernel_rfl
@[simp] theorem Ty:tarr env.P 37=none:=by kernel_rfl
@[simp] theorem RO:eQ env.P 37=(some (.agg [(a8 0),(a32 0),(a8 0),(.v (.int .i64 0))])):=by kernel_rfl
@[simp] theorem SJ:lV env.P 37=none:=by kernel_rfl
@[simp] theorem UD:eqTy env.P 37=true:=by kernel_rfl
@[simp] theorem Om:fE env.P 37=(some [35,3]):=by kernel_rfl
@[simp] theorem QF:eS env.P 37=(some [(0,3),(3,1)]):=by kernel_rfl
@[simp] theorem Oc:aF env.P 37 0=(some (0,3)):=by kernel_rfl
@[simp] theorem N1:aF env.P 37 1=(some (3,1)):=by kernel_rfl
@[simp] theorem R0:aV env.P 39=(some 5):=by kernel_rfl
@[simp] theorem TI:tagg env.P 39=(some true):=by kernel_rfl
@[simp] theorem SI:lV env.P 39=none:=by kernel_rfl
@[simp] theorem UC:eqTy env.P 39=true:=by kernel_rfl
@[simp] theorem Ol:fE env.P 39=(some [37,3]):=by kernel_rfl
@[simp] theorem Ob:aF env.P 39 0=(some (0,4)):=by kernel_rfl
@[simp] theorem N0:aF env.P 39 1=(some (4,1)):=by kernel_rfl
@[simp] theorem RZ:aV env.P 40=(some 1):=by kernel_rfl
@[simp] theorem TH:tagg env.P 40=(some false):=by kernel_rfl
@[simp] theorem Sa:dB env.P 40=(some 21):=by kernel_rfl
@[simp] theorem Tx:tarr env.P 40=none:=by kernel_rfl
@[simp] theorem SP:isStr env.P 40=false:=by kernel_rfl
@[simp] theorem RN:eQ env.P 40=(some (.v (.slice none 0 0))):=by kernel_rfl
@[simp] theorem Vk:apT env.P 40=true:=by kernel_rfl
@[simp] theorem UI:elOk env.P 40=true:=by kernel_rfl
@[simp] theorem Vc:elZ env.P 40=1:=by kernel_rfl
@[simp] theorem UL:elBy env.P 40=4:=by kernel_rfl
@[simp] theorem Rf:fF env.P 40=(.v (.int .i32 0)):=by kernel_rfl
@[simp] theorem RY:aV env.P 42=(some 17):=by kernel_rfl
@[simp] theorem TG:tagg env.P 42=(some true):=by kernel_rfl
@[simp] theorem Tw:tarr env.P 42=none:=by kernel_rfl
@[simp] theorem RM:eQ env.P 42=(some (.agg [(a8 0),(a8 0),(a32 0),(a8 0),(.v (.int .i64 0)),(a8 0),(a32 0),(a8 0),(.v (.int .i64 0)),(.v (.int .i64 0)),(a8 0),(a32 0),(a8 0),(.v (.int .i64 0)),(a8 0),(a32 0),(.v (.slice none 0 0))])):=by kernel_rfl
@[simp] theorem QE:eS env.P 42=(some [(0,1),(1,3),(4,1),(5,5),(10,4),(14,2),(16,1)]):=by kernel_rfl
@[simp] theorem Oa:aF env.P 42 0=(some (0,1)):=by kernel_rfl
@[simp] theorem NZ:aF env.P 42 1=(some (1,3)):=by kernel_rfl
@[simp] theorem NT:aF env.P 42 2=(some (4,1)):=by kernel_rfl
@[simp] theorem NQ:aF env.P 42 3=(some (5,5)):=by kernel_rfl
@[simp] theorem NO:aF env.P 42 4=(some (10,4)):=by kernel_rfl
@[simp] theorem NM:aF env.P 42 5=(some (14,2)):=by kernel_rfl
@[simp] theorem NL:aF env.P 42 6=(some (16,1)):=by kernel_rfl
@[simp] theorem RX:aV env.P 44=(some 3):=by kernel_rfl
@[simp] theorem Tv:tarr env.P 44=none:=by kernel_rfl
@[simp] theorem RL:eQ env.P 44=(some (.agg [(a8 0),(a32 0),(.v (.bool false))])):=by kernel_rfl
@[simp] theorem SH:lV env.P 44=none:=by kernel_rfl
@[simp] theorem Oj:fE env.P 44=(some [33,4]):=by kernel_rfl
@[simp] theorem QD:eS env.P 44=(some [(0,2),(2,1)]):=by kernel_rfl
@[simp] theorem N9:aF env.P 44 0=(some (0,2)):=by kernel_rfl
@[simp] theorem NY:aF env.P 44 1=(some (2,1)):=by kernel_rfl
@[simp] theorem RW:aV env.P 46=(some 4):=by kernel_rfl
@[simp] theorem TF:tagg env.P 46=(some true):=by kernel_rfl
@[simp] theorem Tu:tarr env.P 46=none:=by kernel_rfl
@[simp] theorem RK:eQ env.P 46=(some (.agg [(.v (.int .i64 0)),(a8 0),(a32 0),(.v (.bool false))])):=by kernel_rfl
@[simp] theorem SG:lV env.P 46=none:=by kernel_rfl
@[simp] theorem UB:eqTy env.P 46=true:=by kernel_rfl
@[simp] theorem Oi:fE env.P 46=(some [3,44]):=by kernel_rfl
@[simp] theorem QC:eS env.P 46=(some [(0,1),(1,3)]):=by kernel_rfl
@[simp] theorem N8:aF env.P 46 0=(some (0,1)):=by kernel_rfl
@[simp] theorem NX:aF env.P 46 1=(some (1,3)):=by kernel_rfl
@[simp] theorem RV:aV env.P 48=(some 24):=by kernel_rfl
@[simp] theorem TE:tagg env.P 48=(some true):=by kernel_rfl
@[simp] theorem Tt:tarr env.P 48=none:=by kernel_rfl
@[simp] theorem RJ:eQ env.P 48=(some (.agg [(a8 0),(.v (.int .i64 0)),(a8 0),(a8 0),(a32 0),(a8 0),(.v (.int .i64 0)),(a8 0),(a32 0),(a8 0),(.v (.int .i64 0)),(.v (.int .i64 0)),(a8 0),(a32 0),(a8 0),(.v (.int .i64 0)),(a8 0),(a32 0),(.v (.slice none 0 0)),(.v (.int .i64 0)),(.v (.int .i64 0)),(a8 0),(a32 0),(.v (.bool false))])):=by kernel_rfl
@[simp] theorem QB:eS env.P 48=(some [(0,1),(1,1),(2,17),(19,1),(20,4)]):=by kernel_rfl
@[simp] theorem N7:aF env.P 48 0=(some (0,1)):=by kernel_rfl
@[simp] theorem NW:aF env.P 48 1=(some (1,1)):=by kernel_rfl
@[simp] theorem NS:aF env.P 48 2=(some (2,17)):=by kernel_rfl
@[simp] theorem NP:aF env.P 48 3=(some (19,1)):=by kernel_rfl
@[simp] theorem NN:aF env.P 48 4=(some (20,4)):=by kernel_rfl
@[simp] theorem R9:dB env.P 50=(some 48):=by kernel_rfl
@[simp] theorem Ts:tarr env.P 50=none:=by kernel_rfl
@[simp] theorem SO:isStr env.P 50=false:=by kernel_rfl
@[simp] theorem Vj:apT env.P 50=true:=by kernel_rfl
@[simp] theorem UH:elOk env.P 50=true:=by kernel_rfl
@[simp] theorem Vb:elZ env.P 50=24:=by kernel_rfl
@[simp] theorem UK:elBy env.P 50=160:=by kernel_rfl
@[simp] theorem Re:fF env.P 50=(.agg [(a8 0),(.v (.int .i64 0)),(a8 0),(a8 0),(a32 0),(a8 0),(.v (.int .i64 0)),(a8 0),(a32 0),(a8 0),(.v (.int .i64 0)),(.v (.int .i64 0)),(a8 0),(a32 0),(a8 0),(.v (.int .i64 0)),(a8 0),(a32 0),(.v (.slice none 0 0)),(.v (.int .i64 0)),(.v (.int .i64 0)),(a8 0),(a32 0),(.v (.bool false))]):=by kernel_rfl
@[simp] theorem Jv:aV env.P 68=(some 1):=by kernel_rfl
@[simp] theorem Mw:tagg env.P 68=(some false):=by kernel_rfl
@[simp] theorem Jx:dB env.P 68=(some 5):=by kernel_rfl
@[simp] theorem Mt:tarr env.P 68=none:=by kernel_rfl
@[simp] theorem KH:isStr env.P 68=false:=by kernel_rfl
@[simp] theorem Rt:apT env.P 68=true:=by kernel_rfl
@[simp] theorem Ow:elOk env.P 68=true:=by kernel_rfl
@[simp] theorem Rg:elZ env.P 68=1:=by kernel_rfl
@[simp] theorem Oy:elBy env.P 68=1:=by kernel_rfl
@[simp] theorem IH:fF env.P 68=(a8 0):=by kernel_rfl
@[simp] theorem KK:cy env.P 68=true:=by kernel_rfl
@[simp] theorem RU:aV env.P 71=(some 2):=by kernel_rfl
@[simp] theorem TD:tagg env.P 71=(some true):=by kernel_rfl
@[simp] theorem Tr:tarr env.P 71=none:=by kernel_rfl
@[simp] theorem RI:eQ env.P 71=(some (.agg [(.v (.int .i64 0)),(.v (.int .i64 0))])):=by kernel_rfl
@[simp] theorem SF:lV env.P 71=none:=by kernel_rfl
@[simp] theorem UA:eqTy env.P 71=true:=by kernel_rfl
@[simp] theorem Oh:fE env.P 71=(some [3,3]):=by kernel_rfl
@[simp] theorem QA:eS env.P 71=(some [(0,1),(1,1)]):=by kernel_rfl
@[simp] theorem N6:aF env.P 71 0=(some (0,1)):=by kernel_rfl
@[simp] theorem NV:aF env.P 71 1=(some (1,1)):=by kernel_rfl
@[simp] theorem RT:aV env.P 79=(some 1):=by kernel_rfl
@[simp] theorem TC:tagg env.P 79=(some false):=by kernel_rfl
@[simp] theorem R8:dB env.P 79=(some 68):=by kernel_rfl
@[simp] theorem Tq:tarr env.P 79=none:=by kernel_rfl
@[simp] theorem SN:isStr env.P 79=false:=by kernel_rfl
@[simp] theorem RH:eQ env.P 79=(some (.v (.slice none 0 0))):=by kernel_rfl
@[simp] theorem Vi:apT env.P 79=true:=by kernel_rfl
@[simp] theorem UG:elOk env.P 79=true:=by kernel_rfl
@[simp] theorem Va:elZ env.P 79=1:=by kernel_rfl
@[simp] theorem UJ:elBy env.P 79=24:=by kernel_rfl
@[simp] theorem Rd:fF env.P 79=(.v (.slice none 0 0)):=by kernel_rfl
@[simp] theorem RS:aV env.P 87=(some 24):=by kernel_rfl
@[simp] theorem Tp:tarr env.P 87=none:=by kernel_rfl
@[simp] theorem RG:eQ env.P 87=(some (.agg [(a8 0),(.v (.int .i64 0)),(a8 0),(a8 0),(a32 0),(a8 0),(.v (.int .i64 0)),(a8 0),(a32 0),(a8 0),(.v (.int .i64 0)),(.v (.int .i64 0)),(a8 0),(a32 0),(a8 0),(.v (.int .i64 0)),(a8 0),(a32 0),(.v (.slice none 0 0)),(.v (.int .i64 0)),(.v (.int .i64 0)),(a8 0),(a32 0),(.v (.bool false))])):=by kernel_rfl
@[simp] theorem Qz:eS env.P 87=(some [(0,24)]):=by kernel_rfl
@[simp] theorem N5:aF env.P 87 0=(some (0,24)):=by kernel_rfl
@[simp] theorem D4:aV env.P 94=(some 2):=by kernel_rfl
@[simp] theorem Gy:tagg env.P 94=(some true):=by kernel_rfl
@[simp] theorem Ms:tarr env.P 94=none:=by kernel_rfl
@[simp] theorem Ju:eQ env.P 94=(some (.agg [(.v (.int .i64 0)),(.v (.slice none 0 0))])):=by kernel_rfl
@[simp] theorem Gx:jG env.P 94=(some 32):=by kernel_rfl
@[simp] theorem wx:fE env.P 94=(some [3,68]):=by kernel_rfl
@[simp] theorem Hz:eS env.P 94=(some [(0,1),(1,1)]):=by kernel_rfl
@[simp] theorem Dx:aF env.P 94 0=(some (0,1)):=by kernel_rfl
@[simp] theorem Dw:aF env.P 94 1=(some (1,1)):=by kernel_rfl
@[simp] theorem PW:aV env.P 103=(some 4):=by kernel_rfl
@[simp] theorem Sj:tagg env.P 103=(some true):=by kernel_rfl
@[simp] theorem Sf:tarr env.P 103=none:=by kernel_rfl
@[simp] theorem PN:eQ env.P 103=(some (.agg [(.v (.int .i64 0)),(.v (.int .i64 0)),(.v (.int .i64 0)),(.v (.int .i64 0))])):=by kernel_rfl
@[simp] theorem O6:eS env.P 103=(some [(0,1),(1,1),(2,1),(3,1)]):=by kernel_rfl
@[simp] theorem L0:aF env.P 103 0=(some (0,1)):=by kernel_rfl
@[simp] theorem LX:aF env.P 103 1=(some (1,1)):=by kernel_rfl
@[simp] theorem LU:aF env.P 103 2=(some (2,1)):=by kernel_rfl
@[simp] theorem LR:aF env.P 103 3=(some (3,1)):=by kernel_rfl
@[simp] theorem PV:aV env.P 118=(some 1):=by kernel_rfl
@[simp] theorem Si:tagg env.P 118=(some false):=by kernel_rfl
@[simp] theorem NA:intKind env.P 119=(some .u64):=by kernel_rfl
@[simp] theorem RC:(env.P.underlying 119).isNone=false:=by kernel_rfl
@[simp] theorem PU:aV env.P 122=(some 4):=by kernel_rfl
@[simp] theorem PY:dB env.P 122=none:=by kernel_rfl
@[simp] theorem Se:tarr env.P 122=(some (2,71)):=by kernel_rfl
@[simp] theorem PM:eQ env.P 122=(some (.agg [(.v (.int .i64 0)),(.v (.int .i64 0)),(.v (.int .i64 0)),(.v (.int .i64 0))])):=by kernel_rfl
@[simp] theorem PT:aV env.P 153=(some 2):=by kernel_rfl
@[simp] theorem Sh:tagg env.P 153=(some true):=by kernel_rfl
@[simp] theorem Lu:pD env.P 153 0=(some (0,118)):=by kernel_rfl
@[simp] theorem Sd:tarr env.P 154=(some (4,153)):=by kernel_rfl
@[simp] theorem PS:aV env.P 162=(some 4):=by kernel_rfl
@[simp] theorem Sg:tagg env.P 162=(some true):=by kernel_rfl
@[simp] theorem Sc:tarr env.P 162=none:=by kernel_rfl
@[simp] theorem PL:eQ env.P 162=(some (.agg [(a8 0),(a32 0),(a8 0),(.v (.int .i64 0))])):=by kernel_rfl
@[simp] theorem O5:eS env.P 162=(some [(0,3),(3,1)]):=by kernel_rfl
@[simp] theorem Lt:pD env.P 162 0=(some (0,35)):=by kernel_rfl
@[simp] theorem LZ:aF env.P 162 0=(some (0,3)):=by kernel_rfl
@[simp] theorem LW:aF env.P 162 1=(some (3,1)):=by kernel_rfl
@[simp] theorem PR:aV env.P 166=(some 3):=by kernel_rfl
@[simp] theorem Sb:tarr env.P 166=none:=by kernel_rfl
@[simp] theorem PK:eQ env.P 166=(some (.agg [(.v (.slice none 0 0)),(.v (.int .i64 0)),(.v (.bool false))])):=by kernel_rfl
@[simp] theorem O4:eS env.P 166=(some [(0,1),(1,1),(2,1)]):=by kernel_rfl
@[simp] theorem LY:aF env.P 166 0=(some (0,1)):=by kernel_rfl
@[simp] theorem LV:aF env.P 166 1=(some (1,1)):=by kernel_rfl
@[simp] theorem LS:aF env.P 166 2=(some (2,1)):=by kernel_rfl
end Go.Proofs.Ytmjkpdknicjjgaa
