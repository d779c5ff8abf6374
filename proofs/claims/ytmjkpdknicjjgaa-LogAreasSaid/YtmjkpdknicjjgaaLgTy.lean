/-
  The facts on the program's types, computed. No statement of a seat is proved here.
-/
import Derived.Test.YtmjkpdknicjjgaaRows
import Derived.Test.YtmjkpdknicjjgaaAbsRules
import Derived.Test.YtmjkpdknicjjgaaInsLs
set_option linter.unusedVariables false
set_option maxRecDepth 1000000
namespace Go.Proofs.Ytmjkpdknicjjgaa
open Go.Ab
def fns:List FuncId:=[4,5,9,10,11,12,13,14,15,16,17,18,19,20,21,27,29,30,31,32,33,34,35,36,40,41,42,43,44,45,46,47,48,49,50,51,52,53,54,55,56,57,59,60,61,64,65,66,67,68,69,70,71,72,73,74,75,76,77,78,79,81,82,83,84,85,86,87,88,89,90,91,92,94,95,96,97,98,99,100,101,102,103,104,105,106,107,108,109,110,111,112]
def keep:List FuncId:=[30,44,47,53,65,98]
def thr:List FuncId:=[42,64,95,96]
def memo:List (FuncId × List AV × AV):=[]
noncomputable def env:Env:=CG Try.prog fns keep thr (It [(19,13,18),(16,1,77777),(55,1,88888)]) (ud [(49,9,0,[(6,50),(6,54)]),(81,5,9,[(82,8)]),(15,12,0,[(20,23)]),(52,10,0,[(56,58)]),(13,5,4,[(3,2)]),(67,5,4,[(3,2)]),(7,6,0,[(3,5)]),(14,5,3,[(15,2)]),(35,21,0,[(36,52),(37,52),(38,52),(41,52),(42,52),(43,52),(47,52),(48,52),(49,52)]),(145,8,4,[(148,2)])]) (OF [(19,13,18),(16,1,77777),(55,1,88888)]) memo (fun _=>false) (fun _=>none) (fun f args H=>if f=42 then px Try.prog 22 40 args H else none)
theorem Hh:JP env fns=true:=by kernel_rfl
@[simp] theorem TC {f:FuncId} (h:thr.contains f=false):(env.mode f == 2)=false:=by
 show ((if keep.contains f then 1 else if thr.contains f then 2 else 0) == 2)=false
 rw [h]
 split<;>rfl
theorem SN {f:FuncId} (h:keep.contains f=false):(env.mode f == 1)=false:=by
 show ((if keep.contains f then 1 else if thr.contains f then 2 else 0) == 1)=false
 rw [h]
 cases thr.contains f<;>rfl
@[simp] theorem SW {f:FuncId} (h:keep.contains f=false) (x:AV) (H:Heap) (y:AV):iN env f x H y↔view H.get depth x=some y:=G5 (SN h) x H y
theorem SM {f:FuncId} (h:keep.contains f=true):(env.mode f == 1)=true:=by
 show ((if keep.contains f then 1 else if thr.contains f then 2 else 0) == 1)=true
 rw [h];rfl
@[simp] theorem SV {f:FuncId} (h:keep.contains f=true) (x:AV) (H:Heap) (y:AV):iN env f x H y↔(aA H.get depth x).Nodup∧dx H.get depth x=some y:=Cp (SM h) x H y
@[simp] theorem K9:aY env.P 3=(some 1):=by kernel_rfl
@[simp] theorem OE:tagg env.P 3=(some false):=by kernel_rfl
@[simp] theorem K4:eW env.P 3=(some (.v (.int .i64 0))):=by kernel_rfl
@[simp] theorem Mg:l9 env.P 3=(some 1):=by kernel_rfl
@[simp] theorem Mi:isInt env.P 3=true:=by kernel_rfl
@[simp] theorem GX:intKind env.P 3=(some .i64):=by kernel_rfl
@[simp] theorem Ol:(env.P.underlying 3).isNone=false:=by kernel_rfl
@[simp] theorem K8:aY env.P 4=(some 1):=by kernel_rfl
@[simp] theorem OD:tagg env.P 4=(some false):=by kernel_rfl
@[simp] theorem Mf:l9 env.P 4=(some 0):=by kernel_rfl
@[simp] theorem JF:isBool env.P 4=true:=by kernel_rfl
@[simp] theorem K7:aY env.P 5=(some 1):=by kernel_rfl
@[simp] theorem OC:tagg env.P 5=(some false):=by kernel_rfl
@[simp] theorem Me:l9 env.P 5=(some 1):=by kernel_rfl
@[simp] theorem GW:intKind env.P 5=(some .u8):=by kernel_rfl
@[simp] theorem Oj:(env.P.underlying 5).isNone=false:=by kernel_rfl
@[simp] theorem SQ:isStr env.P 9=true:=by kernel_rfl
@[simp] theorem Io:aY env.P 21=(some 1):=by kernel_rfl
@[simp] theorem Li:tagg env.P 21=(some false):=by kernel_rfl
@[simp] theorem NO:intKind env.P 21=(some .i32):=by kernel_rfl
@[simp] theorem RU:(env.P.underlying 21).isNone=false:=by kernel_rfl
@[simp] theorem Im:aY env.P 22=(some 1):=by kernel_rfl
@[simp] theorem Lh:tagg env.P 22=(some false):=by kernel_rfl
@[simp] theorem Is:dH env.P 22=(some 94):=by kernel_rfl
@[simp] theorem Lc:tarr env.P 22=none:=by kernel_rfl
@[simp] theorem JC:isStr env.P 22=false:=by kernel_rfl
@[simp] theorem Qc:apT env.P 22=true:=by kernel_rfl
@[simp] theorem M5:elOk env.P 22=true:=by kernel_rfl
@[simp] theorem PY:elZ env.P 22=2:=by kernel_rfl
@[simp] theorem M7:elBy env.P 22=32:=by kernel_rfl
@[simp] theorem Hp:fC env.P 22=(.agg [(.v (.int .i64 0)),(.v (.slice none 0 0))]):=by kernel_rfl
@[simp] theorem QM:aY env.P 24=(some 4):=by kernel_rfl
@[simp] theorem So:tagg env.P 24=(some true):=by kernel_rfl
@[simp] theorem Sb:tarr env.P 24=none:=by kernel_rfl
@[simp] theorem Qz:eW env.P 24=(some (.agg [(.v (.slice none 0 0)),(.v (.int .i64 0)),(.v (.int .i64 0)),(.v (.bool false))])):=by kernel_rfl
@[simp] theorem Pp:eO env.P 24=(some [(0,1),(1,1),(2,1),(3,1)]):=by kernel_rfl
@[simp] theorem MU:aF env.P 24 0=(some (0,1)):=by kernel_rfl
@[simp] theorem MK:aF env.P 24 1=(some (1,1)):=by kernel_rfl
@[simp] theorem MB:aF env.P 24 2=(some (2,1)):=by kernel_rfl
@[simp] theorem My:aF env.P 24 3=(some (3,1)):=by kernel_rfl
@[simp] theorem QL:aY env.P 25=(some 1):=by kernel_rfl
@[simp] theorem Sn:tagg env.P 25=(some false):=by kernel_rfl
@[simp] theorem NN:intKind env.P 25=(some .i64):=by kernel_rfl
@[simp] theorem RT:(env.P.underlying 25).isNone=false:=by kernel_rfl
@[simp] theorem QK:aY env.P 31=(some 1):=by kernel_rfl
@[simp] theorem Sm:tagg env.P 31=(some false):=by kernel_rfl
@[simp] theorem Rl:l9 env.P 31=(some 1):=by kernel_rfl
@[simp] theorem NM:intKind env.P 31=(some .u32):=by kernel_rfl
@[simp] theorem RS:(env.P.underlying 31).isNone=false:=by kernel_rfl
@[simp] theorem QJ:aY env.P 33=(some 2):=by kernel_rfl
@[simp] theorem Sk:tagg env.P 33=(some true):=by kernel_rfl
@[simp] theorem Sa:tarr env.P 33=none:=by kernel_rfl
@[simp] theorem Qy:eW env.P 33=(some (.agg [(a8 0),(a32 0)])):=by kernel_rfl
@[simp] theorem Rk:l9 env.P 33=none:=by kernel_rfl
@[simp] theorem Ta:eqTy env.P 33=true:=by kernel_rfl
@[simp] theorem CE:gp env.P 33=(some [5,31]):=by kernel_rfl
@[simp] theorem Po:eO env.P 33=(some [(0,1),(1,1)]):=by kernel_rfl
@[simp] theorem MT:aF env.P 33 0=(some (0,1)):=by kernel_rfl
@[simp] theorem MJ:aF env.P 33 1=(some (1,1)):=by kernel_rfl
@[simp] theorem QI:aY env.P 35=(some 3):=by kernel_rfl
@[simp] theorem Sj:tagg env.P 35=(some true):=by kernel_rfl
@[simp] theorem R9:tarr env.P 35=none:=by kernel_rfl
@[simp] theorem Qx:eW env.P 35=(some (.agg [(a8 0),(a32 0),(a8 0)])):=by kernel_rfl
@[simp] theorem Rj:l9 env.P 35=none:=by kernel_rfl
@[simp] theorem S9:eqTy env.P 35=true:=by kernel_rfl
@[simp] theorem CD:gp env.P 35=(some [33,5]):=by kernel_rfl
@[simp] theorem Pn:eO env.P 35=(some [(0,2),(2,1)]):=by kernel_rfl
@[simp] theorem MS:aF env.P 35 0=(some (0,2)):=by kernel_rfl
@[simp] theorem MI:aF env.P 35 1=(some (2,1)):=by kernel_rfl
@[simp] theorem QH:aY env.P 37=(some 4):=by kernel_rfl
@[simp] theorem Si:tagg env.P 37=(some true):=by kernel_rfl
@[simp] theorem R8:tarr env.P 37=none:=by kernel_rfl
@[simp] theorem Qw:eW env.P 37=(some (.agg [(a8 0),(a32 0),(a8 0),(.v (.int .i64 0))])):=by kernel_rfl
@[simp] theorem Ri:l9 env.P 37=none:=by kernel_rfl
@[simp] theorem S8:eqTy env.P 37=true:=by kernel_rfl
@[simp] theorem CC:gp env.P 37=(some [35,3]):=by kernel_rfl
@[simp] theorem Pm:eO env.P 37=(some [(0,3),(3,1)]):=by kernel_rfl
@[simp] theorem MR:aF env.P 37 0=(some (0,3)):=by kernel_rfl
@[simp] theorem MH:aF env.P 37 1=(some (3,1)):=by kernel_rfl
@[simp] theorem QG:aY env.P 39=(some 5):=by kernel_rfl
@[simp] theorem Sh:tagg env.P 39=(some true):=by kernel_rfl
@[simp] theorem R7:tarr env.P 39=none:=by kernel_rfl
@[simp] theorem Qv:eW env.P 39=(some (.agg [(a8 0),(a32 0),(a8 0),(.v (.int .i64 0)),(.v (.int .i64 0))])):=by kernel_rfl
@[simp] theorem Rh:l9 env.P 39=none:=by kernel_rfl
@[simp] theorem S7:eqTy env.P 39=true:=by kernel_rfl
@[simp] theorem CB:gp env.P 39=(some [37,3]):=by kernel_rfl
@[simp] theorem Pl:eO env.P 39=(some [(0,4),(4,1)]):=by kernel_rfl
@[simp] theorem MQ:aF env.P 39 0=(some (0,4)):=by kernel_rfl
@[simp] theorem MG:aF env.P 39 1=(some (4,1)):=by kernel_rfl
@[simp] theorem QF:aY env.P 40=(some 1):=by kernel_rfl
@[simp] theorem Sg:tagg env.P 40=(some false):=by kernel_rfl
@[simp] theorem Ir:dH env.P 40=(some 21):=by kernel_rfl
@[simp] theorem R6:tarr env.P 40=none:=by kernel_rfl
@[simp] theorem Ro:isStr env.P 40=false:=by kernel_rfl
@[simp] theorem Qu:eW env.P 40=(some (.v (.slice none 0 0))):=by kernel_rfl
@[simp] theorem TQ:apT env.P 40=true:=by kernel_rfl
@[simp] theorem Td:elOk env.P 40=true:=by kernel_rfl
@[simp] theorem TI:elZ env.P 40=1:=by kernel_rfl
@[simp] theorem Tg:elBy env.P 40=4:=by kernel_rfl
@[simp] theorem PW:fC env.P 40=(.v (.int .i32 0)):=by kernel_rfl
@[simp] theorem QE:aY env.P 42=(some 17):=by kernel_rfl
@[simp] theorem Sf:tagg env.P 42=(some true):=by kernel_rfl
@[simp] theorem R5:tarr env.P 42=none:=by kernel_rfl
@[simp] theorem Qt:eW env.P 42=(some (.agg [(a8 0),(a8 0),(a32 0),(a8 0),(.v (.int .i64 0)),(a8 0),(a32 0),(a8 0),(.v (.int .i64 0)),(.v (.int .i64 0)),(a8 0),(a32 0),(a8 0),(.v (.int .i64 0)),(a8 0),(a32 0),(.v (.slice none 0 0))])):=by kernel_rfl
@[simp] theorem CA:gp env.P 42=(some [5,35,3,39,37,33,40]):=by kernel_rfl
@[simp] theorem Pk:eO env.P 42=(some [(0,1),(1,3),(4,1),(5,5),(10,4),(14,2),(16,1)]):=by kernel_rfl
@[simp] theorem MP:aF env.P 42 0=(some (0,1)):=by kernel_rfl
@[simp] theorem MF:aF env.P 42 1=(some (1,3)):=by kernel_rfl
@[simp] theorem MA:aF env.P 42 2=(some (4,1)):=by kernel_rfl
@[simp] theorem Mx:aF env.P 42 3=(some (5,5)):=by kernel_rfl
@[simp] theorem Mv:aF env.P 42 4=(some (10,4)):=by kernel_rfl
@[simp] theorem Mt:aF env.P 42 5=(some (14,2)):=by kernel_rfl
@[simp] theorem Ms:aF env.P 42 6=(some (16,1)):=by kernel_rfl
@[simp] theorem QD:aY env.P 44=(some 3):=by kernel_rfl
@[simp] theorem R4:tarr env.P 44=none:=by kernel_rfl
@[simp] theorem Qs:eW env.P 44=(some (.agg [(a8 0),(a32 0),(.v (.bool false))])):=by kernel_rfl
@[simp] theorem Rg:l9 env.P 44=none:=by kernel_rfl
@[simp] theorem Cz:gp env.P 44=(some [33,4]):=by kernel_rfl
@[simp] theorem Pj:eO env.P 44=(some [(0,2),(2,1)]):=by kernel_rfl
@[simp] theorem MO:aF env.P 44 0=(some (0,2)):=by kernel_rfl
@[simp] theorem ME:aF env.P 44 1=(some (2,1)):=by kernel_rfl
@[simp] theorem QC:aY env.P 46=(some 4):=by kernel_rfl
@[simp] theorem Se:tagg env.P 46=(some true):=by kernel_rfl
@[simp] theorem R3:tarr env.P 46=none:=by kernel_rfl
@[simp] theorem Qr:eW env.P 46=(some (.agg [(.v (.int .i64 0)),(a8 0),(a32 0),(.v (.bool false))])):=by kernel_rfl
@[simp] theorem Rf:l9 env.P 46=none:=by kernel_rfl
@[simp] theorem S6:eqTy env.P 46=true:=by kernel_rfl
@[simp] theorem Cy:gp env.P 46=(some [3,44]):=by kernel_rfl
@[simp] theorem Ph:eO env.P 46=(some [(0,1),(1,3)]):=by kernel_rfl
@[simp] theorem MN:aF env.P 46 0=(some (0,1)):=by kernel_rfl
@[simp] theorem MD:aF env.P 46 1=(some (1,3)):=by kernel_rfl
@[simp] theorem Il:aY env.P 48=(some 24):=by kernel_rfl
@[simp] theorem Lg:tagg env.P 48=(some true):=by kernel_rfl
@[simp] theorem R2:tarr env.P 48=none:=by kernel_rfl
@[simp] theorem Qq:eW env.P 48=(some (.agg [(a8 0),(.v (.int .i64 0)),(a8 0),(a8 0),(a32 0),(a8 0),(.v (.int .i64 0)),(a8 0),(a32 0),(a8 0),(.v (.int .i64 0)),(.v (.int .i64 0)),(a8 0),(a32 0),(a8 0),(.v (.int .i64 0)),(a8 0),(a32 0),(.v (.slice none 0 0)),(.v (.int .i64 0)),(.v (.int .i64 0)),(a8 0),(a32 0),(.v (.bool false))])):=by kernel_rfl
@[simp] theorem Cx:gp env.P 48=(some [5,3,42,25,46]):=by kernel_rfl
@[simp] theorem Pg:eO env.P 48=(some [(0,1),(1,1),(2,17),(19,1),(20,4)]):=by kernel_rfl
@[simp] theorem MM:aF env.P 48 0=(some (0,1)):=by kernel_rfl
@[simp] theorem MC:aF env.P 48 1=(some (1,1)):=by kernel_rfl
@[simp] theorem Mz:aF env.P 48 2=(some (2,17)):=by kernel_rfl
@[simp] theorem Mw:aF env.P 48 3=(some (19,1)):=by kernel_rfl
@[simp] theorem Mu:aF env.P 48 4=(some (20,4)):=by kernel_rfl
@[simp] theorem Sd:tagg env.P 50=(some false):=by kernel_rfl
@[simp] theorem Iq:dH env.P 50=(some 48):=by kernel_rfl
@[simp] theorem R1:tarr env.P 50=none:=by kernel_rfl
@[simp] theorem Rn:isStr env.P 50=false:=by kernel_rfl
@[simp] theorem TP:apT env.P 50=true:=by kernel_rfl
@[simp] theorem Tc:elOk env.P 50=true:=by kernel_rfl
@[simp] theorem TH:elZ env.P 50=24:=by kernel_rfl
@[simp] theorem Tf:elBy env.P 50=160:=by kernel_rfl
@[simp] theorem PV:fC env.P 50=(.agg [(a8 0),(.v (.int .i64 0)),(a8 0),(a8 0),(a32 0),(a8 0),(.v (.int .i64 0)),(a8 0),(a32 0),(a8 0),(.v (.int .i64 0)),(.v (.int .i64 0)),(a8 0),(a32 0),(a8 0),(.v (.int .i64 0)),(a8 0),(a32 0),(.v (.slice none 0 0)),(.v (.int .i64 0)),(.v (.int .i64 0)),(a8 0),(a32 0),(.v (.bool false))]):=by kernel_rfl
@[simp] theorem Ik:aY env.P 68=(some 1):=by kernel_rfl
@[simp] theorem Lf:tagg env.P 68=(some false):=by kernel_rfl
@[simp] theorem Ip:dH env.P 68=(some 5):=by kernel_rfl
@[simp] theorem Lb:tarr env.P 68=none:=by kernel_rfl
@[simp] theorem JB:isStr env.P 68=false:=by kernel_rfl
@[simp] theorem Qb:apT env.P 68=true:=by kernel_rfl
@[simp] theorem M4:elOk env.P 68=true:=by kernel_rfl
@[simp] theorem PX:elZ env.P 68=1:=by kernel_rfl
@[simp] theorem M6:elBy env.P 68=1:=by kernel_rfl
@[simp] theorem Ho:fC env.P 68=(a8 0):=by kernel_rfl
@[simp] theorem JE:cm env.P 68=true:=by kernel_rfl
@[simp] theorem QB:aY env.P 79=(some 1):=by kernel_rfl
@[simp] theorem Sc:tagg env.P 79=(some false):=by kernel_rfl
@[simp] theorem QN:dH env.P 79=(some 68):=by kernel_rfl
@[simp] theorem R0:tarr env.P 79=none:=by kernel_rfl
@[simp] theorem Rm:isStr env.P 79=false:=by kernel_rfl
@[simp] theorem Qp:eW env.P 79=(some (.v (.slice none 0 0))):=by kernel_rfl
@[simp] theorem TO:apT env.P 79=true:=by kernel_rfl
@[simp] theorem Tb:elOk env.P 79=true:=by kernel_rfl
@[simp] theorem TG:elZ env.P 79=1:=by kernel_rfl
@[simp] theorem Te:elBy env.P 79=24:=by kernel_rfl
@[simp] theorem PU:fC env.P 79=(.v (.slice none 0 0)):=by kernel_rfl
@[simp] theorem QA:aY env.P 87=(some 24):=by kernel_rfl
@[simp] theorem RZ:tarr env.P 87=none:=by kernel_rfl
@[simp] theorem Qo:eW env.P 87=(some (.agg [(a8 0),(.v (.int .i64 0)),(a8 0),(a8 0),(a32 0),(a8 0),(.v (.int .i64 0)),(a8 0),(a32 0),(a8 0),(.v (.int .i64 0)),(.v (.int .i64 0)),(a8 0),(a32 0),(a8 0),(.v (.int .i64 0)),(a8 0),(a32 0),(.v (.slice none 0 0)),(.v (.int .i64 0)),(.v (.int .i64 0)),(a8 0),(a32 0),(.v (.bool false))])):=by kernel_rfl
@[simp] theorem Pf:eO env.P 87=(some [(0,24)]):=by kernel_rfl
@[simp] theorem ML:aF env.P 87 0=(some (0,24)):=by kernel_rfl
@[simp] theorem Ij:aY env.P 94=(some 2):=by kernel_rfl
@[simp] theorem Le:tagg env.P 94=(some true):=by kernel_rfl
@[simp] theorem La:tarr env.P 94=none:=by kernel_rfl
@[simp] theorem Ii:eW env.P 94=(some (.agg [(.v (.int .i64 0)),(.v (.slice none 0 0))])):=by kernel_rfl
@[simp] theorem Fs:ju env.P 94=(some 32):=by kernel_rfl
@[simp] theorem Gt:eO env.P 94=(some [(0,1),(1,1)]):=by kernel_rfl
@[simp] theorem Cv:aF env.P 94 0=(some (0,1)):=by kernel_rfl
@[simp] theorem Cu:aF env.P 94 1=(some (1,1)):=by kernel_rfl
@[simp] theorem OA:aY env.P 103=(some 4):=by kernel_rfl
@[simp] theorem QV:tagg env.P 103=(some true):=by kernel_rfl
@[simp] theorem QR:tarr env.P 103=none:=by kernel_rfl
@[simp] theorem Oq:eW env.P 103=(some (.agg [(.v (.int .i64 0)),(.v (.int .i64 0)),(.v (.int .i64 0)),(.v (.int .i64 0))])):=by kernel_rfl
@[simp] theorem NG:eO env.P 103=(some [(0,1),(1,1),(2,1),(3,1)]):=by kernel_rfl
@[simp] theorem KN:aF env.P 103 0=(some (0,1)):=by kernel_rfl
@[simp] theorem KK:aF env.P 103 1=(some (1,1)):=by kernel_rfl
@[simp] theorem KH:aF env.P 103 2=(some (2,1)):=by kernel_rfl
@[simp] theorem KF:aF env.P 103 3=(some (3,1)):=by kernel_rfl
@[simp] theorem Oz:aY env.P 118=(some 1):=by kernel_rfl
@[simp] theorem QU:tagg env.P 118=(some false):=by kernel_rfl
@[simp] theorem Mj:intKind env.P 119=(some .u64):=by kernel_rfl
@[simp] theorem Qk:(env.P.underlying 119).isNone=false:=by kernel_rfl
@[simp] theorem Oy:aY env.P 153=(some 2):=by kernel_rfl
@[simp] theorem QT:tagg env.P 153=(some true):=by kernel_rfl
@[simp] theorem Km:oQ env.P 153 0=(some (0,118)):=by kernel_rfl
@[simp] theorem QQ:tarr env.P 154=(some (4,153)):=by kernel_rfl
@[simp] theorem Ox:aY env.P 162=(some 4):=by kernel_rfl
@[simp] theorem QS:tagg env.P 162=(some true):=by kernel_rfl
@[simp] theorem QP:tarr env.P 162=none:=by kernel_rfl
@[simp] theorem Oo:eW env.P 162=(some (.agg [(a8 0),(a32 0),(a8 0),(.v (.int .i64 0))])):=by kernel_rfl
@[simp] theorem NF:eO env.P 162=(some [(0,3),(3,1)]):=by kernel_rfl
@[simp] theorem Kl:oQ env.P 162 0=(some (0,35)):=by kernel_rfl
@[simp] theorem KM:aF env.P 162 0=(some (0,3)):=by kernel_rfl
@[simp] theorem KJ:aF env.P 162 1=(some (3,1)):=by kernel_rfl
@[simp] theorem Ow:aY env.P 166=(some 3):=by kernel_rfl
@[simp] theorem QO:tarr env.P 166=none:=by kernel_rfl
@[simp] theorem On:eW env.P 166=(some (.agg [(.v (.slice none 0 0)),(.v (.int .i64 0)),(.v (.bool false))])):=by kernel_rfl
@[simp] theorem ND:eO env.P 166=(some [(0,1),(1,1),(2,1)]):=by kernel_rfl
@[simp] theorem KL:aF env.P 166 0=(some (0,1)):=by kernel_rfl
@[simp] theorem KI:aF env.P 166 1=(some (1,1)):=by kernel_rfl
@[simp] theorem KG:aF env.P 166 2=(some (2,1)):=by kernel_rfl
end Go.Proofs.Ytmjkpdknicjjgaa
