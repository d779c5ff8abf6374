/-
  The facts on the program's types, computed. No statement of a seat is proved here.
-/
import Derived.Test.YtmjkpdknicjjgaaRows
import Derived.Test.YtmjkpdknicjjgaaAbsRules
import Derived.Test.YtmjkpdknicjjgaaInsLs
set_option linter.unusedVariables false
set_option maxRecDepth 1000000
namespace Go.Proofs.Ytmjkpdknicjjgaa
open Go.Ab
def fns:List FuncId:=[4,5,7,8,22,23,24,25,26,28,37,38,39,58,9,10,11,12,13,14,15,16,17,18,19,20,21,27,29,30,31,32,33,34,35,36,40,41,42,43,44,45,46,47,48,49,50,51,52,53,54,55,56,57,59,60,61,64,65,66,67,68,69,70,71,72,73,74,75,76,77,78,79,81,82,83,84,85,86,87,88,89,90,91,92,94,95,96,97,98,99,100,101,102,103,104,105,106,107,108,109,110,111,112]
def keep:List FuncId:=[30,44,47,53,65,98]
def thr:List FuncId:=[42,64,95,96]
def memo:List (FuncId × List AV × AV):=[]
noncomputable def env:Env:=DW Try.prog fns keep thr (J5 [(19,13,18),(16,1,77777),(55,1,88888)]) (vg [(49,9,0,[(6,50),(6,54)]),(81,5,9,[(82,8)]),(15,12,0,[(20,23)]),(52,10,0,[(56,58)]),(13,5,4,[(3,2)]),(67,5,4,[(3,2)]),(7,6,0,[(3,5)]),(14,5,3,[(15,2)]),(35,21,0,[(36,52),(37,52),(38,52),(41,52),(42,52),(43,52),(47,52),(48,52),(49,52)]),(145,8,4,[(148,2)])]) (Qw [(19,13,18),(16,1,77777),(55,1,88888)]) memo (fun _=>false) (fun _=>none) (fun f args H=>if f=42 then qo Try.prog 22 40 args H else none)
theorem I3:Lq env fns=true:=by kernel_rfl
@[simp] theorem Vw {f:FuncId} (h:thr.contains f=false):(env.mode f == 2)=false:=by
 show ((if keep.contains f then 1 else if thr.contains f then 2 else 0) == 2)=false
 rw [h]
 split<;>rfl
theorem UI {f:FuncId} (h:keep.contains f=false):(env.mode f == 1)=false:=by
 show ((if keep.contains f then 1 else if thr.contains f then 2 else 0) == 1)=false
 rw [h]
 cases thr.contains f<;>rfl
@[simp] theorem UQ {f:FuncId} (h:keep.contains f=false) (x:AV) (H:Heap) (y:AV):ik env f x H y↔view H.get depth x=some y:=IP (UI h) x H y
theorem UH {f:FuncId} (h:keep.contains f=true):(env.mode f == 1)=true:=by
 show ((if keep.contains f then 1 else if thr.contains f then 2 else 0) == 1)=true
 rw [h];rfl
@[simp] theorem UP {f:FuncId} (h:keep.contains f=true) (x:AV) (H:Heap) (y:AV):ik env f x H y↔(aC H.get depth x).Nodup∧dC H.get depth x=some y:=DF (UH h) x H y
@[simp] theorem MY:aV env.P 3=(some 1):=by kernel_rfl
@[simp] theorem Qv:tagg env.P 3=(some false):=by kernel_rfl
@[simp] theorem MV:eR env.P 3=(some (.v (.int .i64 0))):=by kernel_rfl
@[simp] theorem N8:lZ env.P 3=(some 1):=by kernel_rfl
@[simp] theorem Oa:isInt env.P 3=true:=by kernel_rfl
@[simp] theorem ID:intKind env.P 3=(some .i64):=by kernel_rfl
@[simp] theorem Qd:(env.P.underlying 3).isNone=false:=by kernel_rfl
@[simp] theorem MX:aV env.P 4=(some 1):=by kernel_rfl
@[simp] theorem Qu:tagg env.P 4=(some false):=by kernel_rfl
@[simp] theorem N7:lZ env.P 4=(some 0):=by kernel_rfl
@[simp] theorem Lh:isBool env.P 4=true:=by kernel_rfl
@[simp] theorem MW:aV env.P 5=(some 1):=by kernel_rfl
@[simp] theorem Qt:tagg env.P 5=(some false):=by kernel_rfl
@[simp] theorem N6:lZ env.P 5=(some 1):=by kernel_rfl
@[simp] theorem IC:intKind env.P 5=(some .u8):=by kernel_rfl
@[simp] theorem Qc:(env.P.underlying 5).isNone=false:=by kernel_rfl
@[simp] theorem UL:isStr env.P 9=true:=by kernel_rfl
@[simp] theorem J0:aV env.P 21=(some 1):=by kernel_rfl
@[simp] theorem Nb:tagg env.P 21=(some false):=by kernel_rfl
@[simp] theorem PJ:intKind env.P 21=(some .i32):=by kernel_rfl
@[simp] theorem TM:(env.P.underlying 21).isNone=false:=by kernel_rfl
@[simp] theorem JZ:aV env.P 22=(some 1):=by kernel_rfl
@[simp] theorem Na:tagg env.P 22=(some false):=by kernel_rfl
@[simp] theorem J4:dH env.P 22=(some 94):=by kernel_rfl
@[simp] theorem M5:tarr env.P 22=none:=by kernel_rfl
@[simp] theorem Le:isStr env.P 22=false:=by kernel_rfl
@[simp] theorem R0:apT env.P 22=true:=by kernel_rfl
@[simp] theorem O1:elOk env.P 22=true:=by kernel_rfl
@[simp] theorem RN:elZ env.P 22=2:=by kernel_rfl
@[simp] theorem O3:elBy env.P 22=32:=by kernel_rfl
@[simp] theorem Jc:fG env.P 22=(.agg [(.v (.int .i64 0)),(.v (.slice none 0 0))]):=by kernel_rfl
@[simp] theorem SD:aV env.P 24=(some 4):=by kernel_rfl
@[simp] theorem Uk:tagg env.P 24=(some true):=by kernel_rfl
@[simp] theorem T7:tarr env.P 24=none:=by kernel_rfl
@[simp] theorem So:eR env.P 24=(some (.agg [(.v (.slice none 0 0)),(.v (.int .i64 0)),(.v (.int .i64 0)),(.v (.bool false))])):=by kernel_rfl
@[simp] theorem Rc:eU env.P 24=(some [(0,1),(1,1),(2,1),(3,1)]):=by kernel_rfl
@[simp] theorem OT:aF env.P 24 0=(some (0,1)):=by kernel_rfl
@[simp] theorem OI:aF env.P 24 1=(some (1,1)):=by kernel_rfl
@[simp] theorem Oy:aF env.P 24 2=(some (2,1)):=by kernel_rfl
@[simp] theorem Ov:aF env.P 24 3=(some (3,1)):=by kernel_rfl
@[simp] theorem SC:aV env.P 25=(some 1):=by kernel_rfl
@[simp] theorem Uj:tagg env.P 25=(some false):=by kernel_rfl
@[simp] theorem PI:intKind env.P 25=(some .i64):=by kernel_rfl
@[simp] theorem TL:(env.P.underlying 25).isNone=false:=by kernel_rfl
@[simp] theorem SB:aV env.P 31=(some 1):=by kernel_rfl
@[simp] theorem Ui:tagg env.P 31=(some false):=by kernel_rfl
@[simp] theorem Tf:lZ env.P 31=(some 1):=by kernel_rfl
@[simp] theorem PH:intKind env.P 31=(some .u32):=by kernel_rfl
@[simp] theorem TK:(env.P.underlying 31).isNone=false:=by kernel_rfl
@[simp] theorem SA:aV env.P 33=(some 2):=by kernel_rfl
@[simp] theorem Uh:tagg env.P 33=(some true):=by kernel_rfl
@[simp] theorem T6:tarr env.P 33=none:=by kernel_rfl
@[simp] theorem Sn:eR env.P 33=(some (.agg [(a8 0),(a32 0)])):=by kernel_rfl
@[simp] theorem Te:lZ env.P 33=none:=by kernel_rfl
@[simp] theorem U6:eqTy env.P 33=true:=by kernel_rfl
@[simp] theorem DU:fT env.P 33=(some [5,31]):=by kernel_rfl
@[simp] theorem Rb:eU env.P 33=(some [(0,1),(1,1)]):=by kernel_rfl
@[simp] theorem OS:aF env.P 33 0=(some (0,1)):=by kernel_rfl
@[simp] theorem OH:aF env.P 33 1=(some (1,1)):=by kernel_rfl
@[simp] theorem Sz:aV env.P 35=(some 3):=by kernel_rfl
@[simp] theorem Ug:tagg env.P 35=(some true):=by kernel_rfl
@[simp] theorem T5:tarr env.P 35=none:=by kernel_rfl
@[simp] theorem Sm:eR env.P 35=(some (.agg [(a8 0),(a32 0),(a8 0)])):=by kernel_rfl
@[simp] theorem Td:lZ env.P 35=none:=by kernel_rfl
@[simp] theorem U5:eqTy env.P 35=true:=by kernel_rfl
@[simp] theorem DT:fT env.P 35=(some [33,5]):=by kernel_rfl
@[simp] theorem Ra:eU env.P 35=(some [(0,2),(2,1)]):=by kernel_rfl
@[simp] theorem OR:aF env.P 35 0=(some (0,2)):=by kernel_rfl
@[simp] theorem OG:aF env.P 35 1=(some (2,1)):=by kernel_rfl
@[simp] theorem Sy:aV env.P 37=(some 4):=by kernel_rfl
@[simp] theorem Uf:tagg env.P 37=(some true):=by kernel_rfl
@[simp] theorem T4:tarr env.P 37=none:=by kernel_rfl
@[simp] theorem Sk:eR env.P 37=(some (.agg [(a8 0),(a32 0),(a8 0),(.v (.int .i64 0))])):=by kernel_rfl
@[simp] theorem Tc:lZ env.P 37=none:=by kernel_rfl
@[simp] theorem U4:eqTy env.P 37=true:=by kernel_rfl
@[simp] theorem DS:fT env.P 37=(some [35,3]):=by kernel_rfl
@[simp] theorem Q9:eU env.P 37=(some [(0,3),(3,1)]):=by kernel_rfl
@[simp] theorem OQ:aF env.P 37 0=(some (0,3)):=by kernel_rfl
@[simp] theorem OF:aF env.P 37 1=(some (3,1)):=by kernel_rfl
@[simp] theorem Sx:aV env.P 39=(some 5):=by kernel_rfl
@[simp] theorem Ue:tagg env.P 39=(some true):=by kernel_rfl
@[simp] theorem Tb:lZ env.P 39=none:=by kernel_rfl
@[simp] theorem U3:eqTy env.P 39=true:=by kernel_rfl
@[simp] theorem DR:fT env.P 39=(some [37,3]):=by kernel_rfl
@[simp] theorem OP:aF env.P 39 0=(some (0,4)):=by kernel_rfl
@[simp] theorem OE:aF env.P 39 1=(some (4,1)):=by kernel_rfl
@[simp] theorem Sw:aV env.P 40=(some 1):=by kernel_rfl
@[simp] theorem Ud:tagg env.P 40=(some false):=by kernel_rfl
@[simp] theorem J3:dH env.P 40=(some 21):=by kernel_rfl
@[simp] theorem T3:tarr env.P 40=none:=by kernel_rfl
@[simp] theorem Tj:isStr env.P 40=false:=by kernel_rfl
@[simp] theorem Sj:eR env.P 40=(some (.v (.slice none 0 0))):=by kernel_rfl
@[simp] theorem VK:apT env.P 40=true:=by kernel_rfl
@[simp] theorem U9:elOk env.P 40=true:=by kernel_rfl
@[simp] theorem VC:elZ env.P 40=1:=by kernel_rfl
@[simp] theorem Vc:elBy env.P 40=4:=by kernel_rfl
@[simp] theorem RL:fG env.P 40=(.v (.int .i32 0)):=by kernel_rfl
@[simp] theorem Sv:aV env.P 42=(some 17):=by kernel_rfl
@[simp] theorem Uc:tagg env.P 42=(some true):=by kernel_rfl
@[simp] theorem T2:tarr env.P 42=none:=by kernel_rfl
@[simp] theorem Si:eR env.P 42=(some (.agg [(a8 0),(a8 0),(a32 0),(a8 0),(.v (.int .i64 0)),(a8 0),(a32 0),(a8 0),(.v (.int .i64 0)),(.v (.int .i64 0)),(a8 0),(a32 0),(a8 0),(.v (.int .i64 0)),(a8 0),(a32 0),(.v (.slice none 0 0))])):=by kernel_rfl
@[simp] theorem DQ:fT env.P 42=(some [5,35,3,39,37,33,40]):=by kernel_rfl
@[simp] theorem Q8:eU env.P 42=(some [(0,1),(1,3),(4,1),(5,5),(10,4),(14,2),(16,1)]):=by kernel_rfl
@[simp] theorem OO:aF env.P 42 0=(some (0,1)):=by kernel_rfl
@[simp] theorem OD:aF env.P 42 1=(some (1,3)):=by kernel_rfl
@[simp] theorem Ox:aF env.P 42 2=(some (4,1)):=by kernel_rfl
@[simp] theorem Ou:aF env.P 42 3=(some (5,5)):=by kernel_rfl
@[simp] theorem Oq:aF env.P 42 4=(some (10,4)):=by kernel_rfl
@[simp] theorem On:aF env.P 42 5=(some (14,2)):=by kernel_rfl
@[simp] theorem Om:aF env.P 42 6=(some (16,1)):=by kernel_rfl
@[simp] theorem Su:aV env.P 44=(some 3):=by kernel_rfl
@[simp] theorem TZ:tarr env.P 44=none:=by kernel_rfl
@[simp] theorem Sh:eR env.P 44=(some (.agg [(a8 0),(a32 0),(.v (.bool false))])):=by kernel_rfl
@[simp] theorem Ta:lZ env.P 44=none:=by kernel_rfl
@[simp] theorem DP:fT env.P 44=(some [33,4]):=by kernel_rfl
@[simp] theorem Q7:eU env.P 44=(some [(0,2),(2,1)]):=by kernel_rfl
@[simp] theorem ON:aF env.P 44 0=(some (0,2)):=by kernel_rfl
@[simp] theorem OC:aF env.P 44 1=(some (2,1)):=by kernel_rfl
@[simp] theorem Ss:aV env.P 46=(some 4):=by kernel_rfl
@[simp] theorem Ub:tagg env.P 46=(some true):=by kernel_rfl
@[simp] theorem TY:tarr env.P 46=none:=by kernel_rfl
@[simp] theorem Sg:eR env.P 46=(some (.agg [(.v (.int .i64 0)),(a8 0),(a32 0),(.v (.bool false))])):=by kernel_rfl
@[simp] theorem S9:lZ env.P 46=none:=by kernel_rfl
@[simp] theorem U2:eqTy env.P 46=true:=by kernel_rfl
@[simp] theorem DO:fT env.P 46=(some [3,44]):=by kernel_rfl
@[simp] theorem Q6:eU env.P 46=(some [(0,1),(1,3)]):=by kernel_rfl
@[simp] theorem OM:aF env.P 46 0=(some (0,1)):=by kernel_rfl
@[simp] theorem OB:aF env.P 46 1=(some (1,3)):=by kernel_rfl
@[simp] theorem JY:aV env.P 48=(some 24):=by kernel_rfl
@[simp] theorem M9:tagg env.P 48=(some true):=by kernel_rfl
@[simp] theorem TX:tarr env.P 48=none:=by kernel_rfl
@[simp] theorem Sf:eR env.P 48=(some (.agg [(a8 0),(.v (.int .i64 0)),(a8 0),(a8 0),(a32 0),(a8 0),(.v (.int .i64 0)),(a8 0),(a32 0),(a8 0),(.v (.int .i64 0)),(.v (.int .i64 0)),(a8 0),(a32 0),(a8 0),(.v (.int .i64 0)),(a8 0),(a32 0),(.v (.slice none 0 0)),(.v (.int .i64 0)),(.v (.int .i64 0)),(a8 0),(a32 0),(.v (.bool false))])):=by kernel_rfl
@[simp] theorem DN:fT env.P 48=(some [5,3,42,25,46]):=by kernel_rfl
@[simp] theorem Q5:eU env.P 48=(some [(0,1),(1,1),(2,17),(19,1),(20,4)]):=by kernel_rfl
@[simp] theorem OL:aF env.P 48 0=(some (0,1)):=by kernel_rfl
@[simp] theorem OA:aF env.P 48 1=(some (1,1)):=by kernel_rfl
@[simp] theorem Ow:aF env.P 48 2=(some (2,17)):=by kernel_rfl
@[simp] theorem Ot:aF env.P 48 3=(some (19,1)):=by kernel_rfl
@[simp] theorem Oo:aF env.P 48 4=(some (20,4)):=by kernel_rfl
@[simp] theorem Ua:tagg env.P 50=(some false):=by kernel_rfl
@[simp] theorem J2:dH env.P 50=(some 48):=by kernel_rfl
@[simp] theorem TW:tarr env.P 50=none:=by kernel_rfl
@[simp] theorem Th:isStr env.P 50=false:=by kernel_rfl
@[simp] theorem VJ:apT env.P 50=true:=by kernel_rfl
@[simp] theorem U8:elOk env.P 50=true:=by kernel_rfl
@[simp] theorem VB:elZ env.P 50=24:=by kernel_rfl
@[simp] theorem Vb:elBy env.P 50=160:=by kernel_rfl
@[simp] theorem RK:fG env.P 50=(.agg [(a8 0),(.v (.int .i64 0)),(a8 0),(a8 0),(a32 0),(a8 0),(.v (.int .i64 0)),(a8 0),(a32 0),(a8 0),(.v (.int .i64 0)),(.v (.int .i64 0)),(a8 0),(a32 0),(a8 0),(.v (.int .i64 0)),(a8 0),(a32 0),(.v (.slice none 0 0)),(.v (.int .i64 0)),(.v (.int .i64 0)),(a8 0),(a32 0),(.v (.bool false))]):=by kernel_rfl
@[simp] theorem JX:aV env.P 68=(some 1):=by kernel_rfl
@[simp] theorem M8:tagg env.P 68=(some false):=by kernel_rfl
@[simp] theorem J1:dH env.P 68=(some 5):=by kernel_rfl
@[simp] theorem M4:tarr env.P 68=none:=by kernel_rfl
@[simp] theorem Ld:isStr env.P 68=false:=by kernel_rfl
@[simp] theorem RZ:apT env.P 68=true:=by kernel_rfl
@[simp] theorem O0:elOk env.P 68=true:=by kernel_rfl
@[simp] theorem RM:elZ env.P 68=1:=by kernel_rfl
@[simp] theorem O2:elBy env.P 68=1:=by kernel_rfl
@[simp] theorem Jb:fG env.P 68=(a8 0):=by kernel_rfl
@[simp] theorem Lg:cB env.P 68=true:=by kernel_rfl
@[simp] theorem Sr:aV env.P 71=(some 2):=by kernel_rfl
@[simp] theorem T9:tagg env.P 71=(some true):=by kernel_rfl
@[simp] theorem TV:tarr env.P 71=none:=by kernel_rfl
@[simp] theorem Se:eR env.P 71=(some (.agg [(.v (.int .i64 0)),(.v (.int .i64 0))])):=by kernel_rfl
@[simp] theorem S8:lZ env.P 71=none:=by kernel_rfl
@[simp] theorem U1:eqTy env.P 71=true:=by kernel_rfl
@[simp] theorem OV:fT env.P 71=(some [3,3]):=by kernel_rfl
@[simp] theorem Q4:eU env.P 71=(some [(0,1),(1,1)]):=by kernel_rfl
@[simp] theorem OK:aF env.P 71 0=(some (0,1)):=by kernel_rfl
@[simp] theorem Oz:aF env.P 71 1=(some (1,1)):=by kernel_rfl
@[simp] theorem Sq:aV env.P 79=(some 1):=by kernel_rfl
@[simp] theorem T8:tagg env.P 79=(some false):=by kernel_rfl
@[simp] theorem SE:dH env.P 79=(some 68):=by kernel_rfl
@[simp] theorem TU:tarr env.P 79=none:=by kernel_rfl
@[simp] theorem Tg:isStr env.P 79=false:=by kernel_rfl
@[simp] theorem Sd:eR env.P 79=(some (.v (.slice none 0 0))):=by kernel_rfl
@[simp] theorem VI:apT env.P 79=true:=by kernel_rfl
@[simp] theorem U7:elOk env.P 79=true:=by kernel_rfl
@[simp] theorem VA:elZ env.P 79=1:=by kernel_rfl
@[simp] theorem Va:elBy env.P 79=24:=by kernel_rfl
@[simp] theorem RJ:fG env.P 79=(.v (.slice none 0 0)):=by kernel_rfl
@[simp] theorem Sp:aV env.P 87=(some 24):=by kernel_rfl
@[simp] theorem TT:tarr env.P 87=none:=by kernel_rfl
@[simp] theorem Sc:eR env.P 87=(some (.agg [(a8 0),(.v (.int .i64 0)),(a8 0),(a8 0),(a32 0),(a8 0),(.v (.int .i64 0)),(a8 0),(a32 0),(a8 0),(.v (.int .i64 0)),(.v (.int .i64 0)),(a8 0),(a32 0),(a8 0),(.v (.int .i64 0)),(a8 0),(a32 0),(.v (.slice none 0 0)),(.v (.int .i64 0)),(.v (.int .i64 0)),(a8 0),(a32 0),(.v (.bool false))])):=by kernel_rfl
@[simp] theorem Q3:eU env.P 87=(some [(0,24)]):=by kernel_rfl
@[simp] theorem OJ:aF env.P 87 0=(some (0,24)):=by kernel_rfl
@[simp] theorem JW:aV env.P 94=(some 2):=by kernel_rfl
@[simp] theorem M7:tagg env.P 94=(some true):=by kernel_rfl
@[simp] theorem MZ:tarr env.P 94=none:=by kernel_rfl
@[simp] theorem JV:eR env.P 94=(some (.agg [(.v (.int .i64 0)),(.v (.slice none 0 0))])):=by kernel_rfl
@[simp] theorem GU:jI env.P 94=(some 32):=by kernel_rfl
@[simp] theorem HY:eU env.P 94=(some [(0,1),(1,1)]):=by kernel_rfl
@[simp] theorem DL:aF env.P 94 0=(some (0,1)):=by kernel_rfl
@[simp] theorem DK:aF env.P 94 1=(some (1,1)):=by kernel_rfl
@[simp] theorem Qq:aV env.P 103=(some 4):=by kernel_rfl
@[simp] theorem SN:tagg env.P 103=(some true):=by kernel_rfl
@[simp] theorem SJ:tarr env.P 103=none:=by kernel_rfl
@[simp] theorem Qi:eR env.P 103=(some (.agg [(.v (.int .i64 0)),(.v (.int .i64 0)),(.v (.int .i64 0)),(.v (.int .i64 0))])):=by kernel_rfl
@[simp] theorem PB:eU env.P 103=(some [(0,1),(1,1),(2,1),(3,1)]):=by kernel_rfl
@[simp] theorem Mz:aF env.P 103 0=(some (0,1)):=by kernel_rfl
@[simp] theorem Mw:aF env.P 103 1=(some (1,1)):=by kernel_rfl
@[simp] theorem Mt:aF env.P 103 2=(some (2,1)):=by kernel_rfl
@[simp] theorem Mr:aF env.P 103 3=(some (3,1)):=by kernel_rfl
@[simp] theorem Qp:aV env.P 118=(some 1):=by kernel_rfl
@[simp] theorem SM:tagg env.P 118=(some false):=by kernel_rfl
@[simp] theorem Ob:intKind env.P 119=(some .u64):=by kernel_rfl
@[simp] theorem R8:(env.P.underlying 119).isNone=false:=by kernel_rfl
@[simp] theorem Qo:aV env.P 122=(some 4):=by kernel_rfl
@[simp] theorem Qs:dH env.P 122=none:=by kernel_rfl
@[simp] theorem SI:tarr env.P 122=(some (2,71)):=by kernel_rfl
@[simp] theorem Qh:eR env.P 122=(some (.agg [(.v (.int .i64 0)),(.v (.int .i64 0)),(.v (.int .i64 0)),(.v (.int .i64 0))])):=by kernel_rfl
@[simp] theorem Qn:aV env.P 153=(some 2):=by kernel_rfl
@[simp] theorem SL:tagg env.P 153=(some true):=by kernel_rfl
@[simp] theorem L2:pK env.P 153 0=(some (0,118)):=by kernel_rfl
@[simp] theorem SH:tarr env.P 154=(some (4,153)):=by kernel_rfl
@[simp] theorem Qm:aV env.P 162=(some 4):=by kernel_rfl
@[simp] theorem SK:tagg env.P 162=(some true):=by kernel_rfl
@[simp] theorem SG:tarr env.P 162=none:=by kernel_rfl
@[simp] theorem Qg:eR env.P 162=(some (.agg [(a8 0),(a32 0),(a8 0),(.v (.int .i64 0))])):=by kernel_rfl
@[simp] theorem PA:eU env.P 162=(some [(0,3),(3,1)]):=by kernel_rfl
@[simp] theorem L1:pK env.P 162 0=(some (0,35)):=by kernel_rfl
@[simp] theorem My:aF env.P 162 0=(some (0,3)):=by kernel_rfl
@[simp] theorem Mv:aF env.P 162 1=(some (3,1)):=by kernel_rfl
@[simp] theorem Ql:aV env.P 166=(some 3):=by kernel_rfl
@[simp] theorem SF:tarr env.P 166=none:=by kernel_rfl
@[simp] theorem Qf:eR env.P 166=(some (.agg [(.v (.slice none 0 0)),(.v (.int .i64 0)),(.v (.bool false))])):=by kernel_rfl
@[simp] theorem Pz:eU env.P 166=(some [(0,1),(1,1),(2,1)]):=by kernel_rfl
@[simp] theorem Mx:aF env.P 166 0=(some (0,1)):=by kernel_rfl
@[simp] theorem Mu:aF env.P 166 1=(some (1,1)):=by kernel_rfl
@[simp] theorem Ms:aF env.P 166 2=(some (2,1)):=by kernel_rfl
end Go.Proofs.Ytmjkpdknicjjgaa
