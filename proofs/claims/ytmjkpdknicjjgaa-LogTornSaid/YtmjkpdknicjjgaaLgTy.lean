/-
  The facts on the program's types, computed. No statement of a seat is proved here.
-/
import Derived.Test.YtmjkpdknicjjgaaRows
import Derived.Test.YtmjkpdknicjjgaaAbsRules
import Derived.Test.YtmjkpdknicjjgaaInsLs
set_option linter.unusedVariables false
set_option maxRecDepth 1000000
namespace Go.Proofs.Ytmjkpdknicjjgaa
open Go.Ab
def fns:List FuncId:=[4,5,9,10,11,12,13,14,15,16,17,18,19,20,21,27,29,30,31,32,33,34,35,36,40,41,42,43,44,45,46,47,48,49,50,51,52,53,54,55,56,57,59,60,61,64,65,66,67,68,69,70,71,72,73,74,75,76,77,78,79,81,82,83,84,85,86,87,88,89,90,91,92,94,95,96,97,98,99,100,101,102,103,104,105,106,107,108,109,110,111,112]
def keep:List FuncId:=[30,44,47,53,65,98]
def thr:List FuncId:=[42,64,95,96]
def memo:List (FuncId × List AV × AV):=[]
noncomputable def env:Env:=C5 Try.prog fns keep thr (Ja [(19,13,18),(16,1,77777),(55,1,88888)]) (uy [(49,9,0,[(6,50),(6,54)]),(81,5,9,[(82,8)]),(15,12,0,[(20,23)]),(52,10,0,[(56,58)]),(13,5,4,[(3,2)]),(67,5,4,[(3,2)]),(7,6,0,[(3,5)]),(14,5,3,[(15,2)]),(35,21,0,[(36,52),(37,52),(38,52),(41,52),(42,52),(43,52),(47,52),(48,52),(49,52)]),(145,8,4,[(148,2)])]) (Pn [(19,13,18),(16,1,77777),(55,1,88888)]) memo (fun _=>false) (fun _=>none) (fun f args H=>if f=42 then pH Try.prog 22 40 args H else none)
theorem HO:Kv env fns=true:=by kernel_rfl
@[simp] theorem Uk {f:FuncId} (h:thr.contains f=false):(env.mode f == 2)=false:=by
 show ((if keep.contains f then 1 else if thr.contains f then 2 else 0) == 2)=false
 rw [h]
 split<;>rfl
theorem Tu {f:FuncId} (h:keep.contains f=false):(env.mode f == 1)=false:=by
 show ((if keep.contains f then 1 else if thr.contains f then 2 else 0) == 1)=false
 rw [h]
 cases thr.contains f<;>rfl
@[simp] theorem TC {f:FuncId} (h:keep.contains f=false) (x:AV) (H:Heap) (y:AV):iE env f x H y↔view H.get depth x=some y:=HE (Tu h) x H y
theorem Tt {f:FuncId} (h:keep.contains f=true):(env.mode f == 1)=true:=by
 show ((if keep.contains f then 1 else if thr.contains f then 2 else 0) == 1)=true
 rw [h];rfl
@[simp] theorem TB {f:FuncId} (h:keep.contains f=true) (x:AV) (H:Heap) (y:AV):iE env f x H y↔(aD H.get depth x).Nodup∧dG H.get depth x=some y:=CO (Tt h) x H y
@[simp] theorem LV:aZ env.P 3=(some 1):=by kernel_rfl
@[simp] theorem Pm:tagg env.P 3=(some false):=by kernel_rfl
@[simp] theorem LQ:fh env.P 3=(some (.v (.int .i64 0))):=by kernel_rfl
@[simp] theorem M5:mm env.P 3=(some 1):=by kernel_rfl
@[simp] theorem M7:isInt env.P 3=true:=by kernel_rfl
@[simp] theorem Hv:intKind env.P 3=(some .i64):=by kernel_rfl
@[simp] theorem O5:(env.P.underlying 3).isNone=false:=by kernel_rfl
@[simp] theorem LU:aZ env.P 4=(some 1):=by kernel_rfl
@[simp] theorem Pl:tagg env.P 4=(some false):=by kernel_rfl
@[simp] theorem M4:mm env.P 4=(some 0):=by kernel_rfl
@[simp] theorem Kl:isBool env.P 4=true:=by kernel_rfl
@[simp] theorem LS:aZ env.P 5=(some 1):=by kernel_rfl
@[simp] theorem Pk:tagg env.P 5=(some false):=by kernel_rfl
@[simp] theorem MZ:mm env.P 5=(some 1):=by kernel_rfl
@[simp] theorem Hu:intKind env.P 5=(some .u8):=by kernel_rfl
@[simp] theorem O4:(env.P.underlying 5).isNone=false:=by kernel_rfl
@[simp] theorem Tx:isStr env.P 9=true:=by kernel_rfl
@[simp] theorem I1:aZ env.P 21=(some 1):=by kernel_rfl
@[simp] theorem L4:tagg env.P 21=(some false):=by kernel_rfl
@[simp] theorem OA:intKind env.P 21=(some .i32):=by kernel_rfl
@[simp] theorem Sz:(env.P.underlying 21).isNone=false:=by kernel_rfl
@[simp] theorem I0:aZ env.P 22=(some 1):=by kernel_rfl
@[simp] theorem L3:tagg env.P 22=(some false):=by kernel_rfl
@[simp] theorem I9:dZ env.P 22=(some 94):=by kernel_rfl
@[simp] theorem LY:tarr env.P 22=none:=by kernel_rfl
@[simp] theorem Ki:isStr env.P 22=false:=by kernel_rfl
@[simp] theorem QR:apT env.P 22=true:=by kernel_rfl
@[simp] theorem NR:elOk env.P 22=true:=by kernel_rfl
@[simp] theorem QE:elZ env.P 22=2:=by kernel_rfl
@[simp] theorem NT:elBy env.P 22=32:=by kernel_rfl
@[simp] theorem HW:fL env.P 22=(.agg [(.v (.int .i64 0)),(.v (.slice none 0 0))]):=by kernel_rfl
@[simp] theorem Rr:aZ env.P 24=(some 4):=by kernel_rfl
@[simp] theorem S3:tagg env.P 24=(some true):=by kernel_rfl
@[simp] theorem SQ:tarr env.P 24=none:=by kernel_rfl
@[simp] theorem Re:fh env.P 24=(some (.agg [(.v (.slice none 0 0)),(.v (.int .i64 0)),(.v (.int .i64 0)),(.v (.bool false))])):=by kernel_rfl
@[simp] theorem P6:eW env.P 24=(some [(0,1),(1,1),(2,1),(3,1)]):=by kernel_rfl
@[simp] theorem NK:aF env.P 24 0=(some (0,1)):=by kernel_rfl
@[simp] theorem Nz:aF env.P 24 1=(some (1,1)):=by kernel_rfl
@[simp] theorem Nq:aF env.P 24 2=(some (2,1)):=by kernel_rfl
@[simp] theorem Nn:aF env.P 24 3=(some (3,1)):=by kernel_rfl
@[simp] theorem Rq:aZ env.P 25=(some 1):=by kernel_rfl
@[simp] theorem S2:tagg env.P 25=(some false):=by kernel_rfl
@[simp] theorem Oz:intKind env.P 25=(some .i64):=by kernel_rfl
@[simp] theorem Sy:(env.P.underlying 25).isNone=false:=by kernel_rfl
@[simp] theorem Rp:aZ env.P 31=(some 1):=by kernel_rfl
@[simp] theorem S1:tagg env.P 31=(some false):=by kernel_rfl
@[simp] theorem R0:mm env.P 31=(some 1):=by kernel_rfl
@[simp] theorem Oy:intKind env.P 31=(some .u32):=by kernel_rfl
@[simp] theorem Sx:(env.P.underlying 31).isNone=false:=by kernel_rfl
@[simp] theorem Ro:aZ env.P 33=(some 2):=by kernel_rfl
@[simp] theorem S0:tagg env.P 33=(some true):=by kernel_rfl
@[simp] theorem SP:tarr env.P 33=none:=by kernel_rfl
@[simp] theorem Rd:fh env.P 33=(some (.agg [(a8 0),(a32 0)])):=by kernel_rfl
@[simp] theorem RZ:mm env.P 33=none:=by kernel_rfl
@[simp] theorem TQ:eqTy env.P 33=true:=by kernel_rfl
@[simp] theorem C3:gI env.P 33=(some [5,31]):=by kernel_rfl
@[simp] theorem P5:eW env.P 33=(some [(0,1),(1,1)]):=by kernel_rfl
@[simp] theorem NJ:aF env.P 33 0=(some (0,1)):=by kernel_rfl
@[simp] theorem Ny:aF env.P 33 1=(some (1,1)):=by kernel_rfl
@[simp] theorem Rn:aZ env.P 35=(some 3):=by kernel_rfl
@[simp] theorem SZ:tagg env.P 35=(some true):=by kernel_rfl
@[simp] theorem SO:tarr env.P 35=none:=by kernel_rfl
@[simp] theorem Rc:fh env.P 35=(some (.agg [(a8 0),(a32 0),(a8 0)])):=by kernel_rfl
@[simp] theorem RY:mm env.P 35=none:=by kernel_rfl
@[simp] theorem TP:eqTy env.P 35=true:=by kernel_rfl
@[simp] theorem C2:gI env.P 35=(some [33,5]):=by kernel_rfl
@[simp] theorem P4:eW env.P 35=(some [(0,2),(2,1)]):=by kernel_rfl
@[simp] theorem NI:aF env.P 35 0=(some (0,2)):=by kernel_rfl
@[simp] theorem Nx:aF env.P 35 1=(some (2,1)):=by kernel_rfl
@[simp] theorem Rm:aZ env.P 37=(some 4):=by kernel_rfl
@[simp] theorem SY:tagg env.P 37=(some true):=by kernel_rfl
@[simp] theorem SN:tarr env.P 37=none:=by kernel_rfl
@[simp] theorem Rb:fh env.P 37=(some (.agg [(a8 0),(a32 0),(a8 0),(.v (.int .i64 0))])):=by kernel_rfl
@[simp] theorem RX:mm env.P 37=none:=by kernel_rfl
@[simp] theorem TO:eqTy env.P 37=true:=by kernel_rfl
@[simp] theorem C1:gI env.P 37=(some [35,3]):=by kernel_rfl
@[simp] theorem P3:eW env.P 37=(some [(0,3),(3,1)]):=by kernel_rfl
@[simp] theorem NH:aF env.P 37 0=(some (0,3)):=by kernel_rfl
@[simp] theorem Nw:aF env.P 37 1=(some (3,1)):=by kernel_rfl
@[simp] theorem Rl:aZ env.P 39=(some 5):=by kernel_rfl
@[simp] theorem SX:tagg env.P 39=(some true):=by kernel_rfl
@[simp] theorem SM:tarr env.P 39=none:=by kernel_rfl
@[simp] theorem Ra:fh env.P 39=(some (.agg [(a8 0),(a32 0),(a8 0),(.v (.int .i64 0)),(.v (.int .i64 0))])):=by kernel_rfl
@[simp] theorem RW:mm env.P 39=none:=by kernel_rfl
@[simp] theorem TN:eqTy env.P 39=true:=by kernel_rfl
@[simp] theorem C0:gI env.P 39=(some [37,3]):=by kernel_rfl
@[simp] theorem P2:eW env.P 39=(some [(0,4),(4,1)]):=by kernel_rfl
@[simp] theorem NG:aF env.P 39 0=(some (0,4)):=by kernel_rfl
@[simp] theorem Nv:aF env.P 39 1=(some (4,1)):=by kernel_rfl
@[simp] theorem Rk:aZ env.P 40=(some 1):=by kernel_rfl
@[simp] theorem SW:tagg env.P 40=(some false):=by kernel_rfl
@[simp] theorem I8:dZ env.P 40=(some 21):=by kernel_rfl
@[simp] theorem SL:tarr env.P 40=none:=by kernel_rfl
@[simp] theorem R3:isStr env.P 40=false:=by kernel_rfl
@[simp] theorem Q9:fh env.P 40=(some (.v (.slice none 0 0))):=by kernel_rfl
@[simp] theorem Uy:apT env.P 40=true:=by kernel_rfl
@[simp] theorem TV:elOk env.P 40=true:=by kernel_rfl
@[simp] theorem Uq:elZ env.P 40=1:=by kernel_rfl
@[simp] theorem TY:elBy env.P 40=4:=by kernel_rfl
@[simp] theorem QC:fL env.P 40=(.v (.int .i32 0)):=by kernel_rfl
@[simp] theorem Rj:aZ env.P 42=(some 17):=by kernel_rfl
@[simp] theorem SV:tagg env.P 42=(some true):=by kernel_rfl
@[simp] theorem SK:tarr env.P 42=none:=by kernel_rfl
@[simp] theorem Q8:fh env.P 42=(some (.agg [(a8 0),(a8 0),(a32 0),(a8 0),(.v (.int .i64 0)),(a8 0),(a32 0),(a8 0),(.v (.int .i64 0)),(.v (.int .i64 0)),(a8 0),(a32 0),(a8 0),(.v (.int .i64 0)),(a8 0),(a32 0),(.v (.slice none 0 0))])):=by kernel_rfl
@[simp] theorem CZ:gI env.P 42=(some [5,35,3,39,37,33,40]):=by kernel_rfl
@[simp] theorem P1:eW env.P 42=(some [(0,1),(1,3),(4,1),(5,5),(10,4),(14,2),(16,1)]):=by kernel_rfl
@[simp] theorem NF:aF env.P 42 0=(some (0,1)):=by kernel_rfl
@[simp] theorem Nu:aF env.P 42 1=(some (1,3)):=by kernel_rfl
@[simp] theorem Np:aF env.P 42 2=(some (4,1)):=by kernel_rfl
@[simp] theorem Nm:aF env.P 42 3=(some (5,5)):=by kernel_rfl
@[simp] theorem Nk:aF env.P 42 4=(some (10,4)):=by kernel_rfl
@[simp] theorem Ni:aF env.P 42 5=(some (14,2)):=by kernel_rfl
@[simp] theorem Nh:aF env.P 42 6=(some (16,1)):=by kernel_rfl
@[simp] theorem Ri:aZ env.P 44=(some 3):=by kernel_rfl
@[simp] theorem SJ:tarr env.P 44=none:=by kernel_rfl
@[simp] theorem Q7:fh env.P 44=(some (.agg [(a8 0),(a32 0),(.v (.bool false))])):=by kernel_rfl
@[simp] theorem RV:mm env.P 44=none:=by kernel_rfl
@[simp] theorem CY:gI env.P 44=(some [33,4]):=by kernel_rfl
@[simp] theorem P0:eW env.P 44=(some [(0,2),(2,1)]):=by kernel_rfl
@[simp] theorem ND:aF env.P 44 0=(some (0,2)):=by kernel_rfl
@[simp] theorem Nt:aF env.P 44 1=(some (2,1)):=by kernel_rfl
@[simp] theorem Rh:aZ env.P 46=(some 4):=by kernel_rfl
@[simp] theorem SU:tagg env.P 46=(some true):=by kernel_rfl
@[simp] theorem SI:tarr env.P 46=none:=by kernel_rfl
@[simp] theorem Q6:fh env.P 46=(some (.agg [(.v (.int .i64 0)),(a8 0),(a32 0),(.v (.bool false))])):=by kernel_rfl
@[simp] theorem RU:mm env.P 46=none:=by kernel_rfl
@[simp] theorem TM:eqTy env.P 46=true:=by kernel_rfl
@[simp] theorem CX:gI env.P 46=(some [3,44]):=by kernel_rfl
@[simp] theorem PZ:eW env.P 46=(some [(0,1),(1,3)]):=by kernel_rfl
@[simp] theorem NC:aF env.P 46 0=(some (0,1)):=by kernel_rfl
@[simp] theorem Ns:aF env.P 46 1=(some (1,3)):=by kernel_rfl
@[simp] theorem IZ:aZ env.P 48=(some 24):=by kernel_rfl
@[simp] theorem L2:tagg env.P 48=(some true):=by kernel_rfl
@[simp] theorem SH:tarr env.P 48=none:=by kernel_rfl
@[simp] theorem Q5:fh env.P 48=(some (.agg [(a8 0),(.v (.int .i64 0)),(a8 0),(a8 0),(a32 0),(a8 0),(.v (.int .i64 0)),(a8 0),(a32 0),(a8 0),(.v (.int .i64 0)),(.v (.int .i64 0)),(a8 0),(a32 0),(a8 0),(.v (.int .i64 0)),(a8 0),(a32 0),(.v (.slice none 0 0)),(.v (.int .i64 0)),(.v (.int .i64 0)),(a8 0),(a32 0),(.v (.bool false))])):=by kernel_rfl
@[simp] theorem CW:gI env.P 48=(some [5,3,42,25,46]):=by kernel_rfl
@[simp] theorem PY:eW env.P 48=(some [(0,1),(1,1),(2,17),(19,1),(20,4)]):=by kernel_rfl
@[simp] theorem NB:aF env.P 48 0=(some (0,1)):=by kernel_rfl
@[simp] theorem Nr:aF env.P 48 1=(some (1,1)):=by kernel_rfl
@[simp] theorem No:aF env.P 48 2=(some (2,17)):=by kernel_rfl
@[simp] theorem Nl:aF env.P 48 3=(some (19,1)):=by kernel_rfl
@[simp] theorem Nj:aF env.P 48 4=(some (20,4)):=by kernel_rfl
@[simp] theorem SS:tagg env.P 50=(some false):=by kernel_rfl
@[simp] theorem I7:dZ env.P 50=(some 48):=by kernel_rfl
@[simp] theorem SG:tarr env.P 50=none:=by kernel_rfl
@[simp] theorem R2:isStr env.P 50=false:=by kernel_rfl
@[simp] theorem Ux:apT env.P 50=true:=by kernel_rfl
@[simp] theorem TU:elOk env.P 50=true:=by kernel_rfl
@[simp] theorem Up:elZ env.P 50=24:=by kernel_rfl
@[simp] theorem TX:elBy env.P 50=160:=by kernel_rfl
@[simp] theorem QB:fL env.P 50=(.agg [(a8 0),(.v (.int .i64 0)),(a8 0),(a8 0),(a32 0),(a8 0),(.v (.int .i64 0)),(a8 0),(a32 0),(a8 0),(.v (.int .i64 0)),(.v (.int .i64 0)),(a8 0),(a32 0),(a8 0),(.v (.int .i64 0)),(a8 0),(a32 0),(.v (.slice none 0 0)),(.v (.int .i64 0)),(.v (.int .i64 0)),(a8 0),(a32 0),(.v (.bool false))]):=by kernel_rfl
@[simp] theorem IY:aZ env.P 68=(some 1):=by kernel_rfl
@[simp] theorem L1:tagg env.P 68=(some false):=by kernel_rfl
@[simp] theorem I6:dZ env.P 68=(some 5):=by kernel_rfl
@[simp] theorem LX:tarr env.P 68=none:=by kernel_rfl
@[simp] theorem Kh:isStr env.P 68=false:=by kernel_rfl
@[simp] theorem QQ:apT env.P 68=true:=by kernel_rfl
@[simp] theorem NQ:elOk env.P 68=true:=by kernel_rfl
@[simp] theorem QD:elZ env.P 68=1:=by kernel_rfl
@[simp] theorem NS:elBy env.P 68=1:=by kernel_rfl
@[simp] theorem HV:fL env.P 68=(a8 0):=by kernel_rfl
@[simp] theorem Kk:cw env.P 68=true:=by kernel_rfl
@[simp] theorem Rg:aZ env.P 79=(some 1):=by kernel_rfl
@[simp] theorem SR:tagg env.P 79=(some false):=by kernel_rfl
@[simp] theorem Rs:dZ env.P 79=(some 68):=by kernel_rfl
@[simp] theorem SF:tarr env.P 79=none:=by kernel_rfl
@[simp] theorem R1:isStr env.P 79=false:=by kernel_rfl
@[simp] theorem Q4:fh env.P 79=(some (.v (.slice none 0 0))):=by kernel_rfl
@[simp] theorem Uw:apT env.P 79=true:=by kernel_rfl
@[simp] theorem TT:elOk env.P 79=true:=by kernel_rfl
@[simp] theorem Uo:elZ env.P 79=1:=by kernel_rfl
@[simp] theorem TW:elBy env.P 79=24:=by kernel_rfl
@[simp] theorem QA:fL env.P 79=(.v (.slice none 0 0)):=by kernel_rfl
@[simp] theorem Rf:aZ env.P 87=(some 24):=by kernel_rfl
@[simp] theorem SE:tarr env.P 87=none:=by kernel_rfl
@[simp] theorem Q3:fh env.P 87=(some (.agg [(a8 0),(.v (.int .i64 0)),(a8 0),(a8 0),(a32 0),(a8 0),(.v (.int .i64 0)),(a8 0),(a32 0),(a8 0),(.v (.int .i64 0)),(.v (.int .i64 0)),(a8 0),(a32 0),(a8 0),(.v (.int .i64 0)),(a8 0),(a32 0),(.v (.slice none 0 0)),(.v (.int .i64 0)),(.v (.int .i64 0)),(a8 0),(a32 0),(.v (.bool false))])):=by kernel_rfl
@[simp] theorem PX:eW env.P 87=(some [(0,24)]):=by kernel_rfl
@[simp] theorem NA:aF env.P 87 0=(some (0,24)):=by kernel_rfl
@[simp] theorem IX:aZ env.P 94=(some 2):=by kernel_rfl
@[simp] theorem L0:tagg env.P 94=(some true):=by kernel_rfl
@[simp] theorem LW:tarr env.P 94=none:=by kernel_rfl
@[simp] theorem IW:fh env.P 94=(some (.agg [(.v (.int .i64 0)),(.v (.slice none 0 0))])):=by kernel_rfl
@[simp] theorem FV:jH env.P 94=(some 32):=by kernel_rfl
@[simp] theorem G0:eW env.P 94=(some [(0,1),(1,1)]):=by kernel_rfl
@[simp] theorem CU:aF env.P 94 0=(some (0,1)):=by kernel_rfl
@[simp] theorem CT:aF env.P 94 1=(some (1,1)):=by kernel_rfl
@[simp] theorem Pg:aZ env.P 103=(some 4):=by kernel_rfl
@[simp] theorem RA:tagg env.P 103=(some true):=by kernel_rfl
@[simp] theorem Rw:tarr env.P 103=none:=by kernel_rfl
@[simp] theorem O9:fh env.P 103=(some (.agg [(.v (.int .i64 0)),(.v (.int .i64 0)),(.v (.int .i64 0)),(.v (.int .i64 0))])):=by kernel_rfl
@[simp] theorem Oq:eW env.P 103=(some [(0,1),(1,1),(2,1),(3,1)]):=by kernel_rfl
@[simp] theorem Ly:aF env.P 103 0=(some (0,1)):=by kernel_rfl
@[simp] theorem Lv:aF env.P 103 1=(some (1,1)):=by kernel_rfl
@[simp] theorem Ls:aF env.P 103 2=(some (2,1)):=by kernel_rfl
@[simp] theorem Lq:aF env.P 103 3=(some (3,1)):=by kernel_rfl
@[simp] theorem Pf:aZ env.P 118=(some 1):=by kernel_rfl
@[simp] theorem Rz:tagg env.P 118=(some false):=by kernel_rfl
@[simp] theorem M8:intKind env.P 119=(some .u64):=by kernel_rfl
@[simp] theorem QZ:(env.P.underlying 119).isNone=false:=by kernel_rfl
@[simp] theorem Pe:aZ env.P 153=(some 2):=by kernel_rfl
@[simp] theorem Ry:tagg env.P 153=(some true):=by kernel_rfl
@[simp] theorem K5:o4 env.P 153 0=(some (0,118)):=by kernel_rfl
@[simp] theorem Rv:tarr env.P 154=(some (4,153)):=by kernel_rfl
@[simp] theorem Pd:aZ env.P 162=(some 4):=by kernel_rfl
@[simp] theorem Rx:tagg env.P 162=(some true):=by kernel_rfl
@[simp] theorem Ru:tarr env.P 162=none:=by kernel_rfl
@[simp] theorem O8:fh env.P 162=(some (.agg [(a8 0),(a32 0),(a8 0),(.v (.int .i64 0))])):=by kernel_rfl
@[simp] theorem Oo:eW env.P 162=(some [(0,3),(3,1)]):=by kernel_rfl
@[simp] theorem K4:o4 env.P 162 0=(some (0,35)):=by kernel_rfl
@[simp] theorem Lx:aF env.P 162 0=(some (0,3)):=by kernel_rfl
@[simp] theorem Lu:aF env.P 162 1=(some (3,1)):=by kernel_rfl
@[simp] theorem Pc:aZ env.P 166=(some 3):=by kernel_rfl
@[simp] theorem Rt:tarr env.P 166=none:=by kernel_rfl
@[simp] theorem O7:fh env.P 166=(some (.agg [(.v (.slice none 0 0)),(.v (.int .i64 0)),(.v (.bool false))])):=by kernel_rfl
@[simp] theorem On:eW env.P 166=(some [(0,1),(1,1),(2,1)]):=by kernel_rfl
@[simp] theorem Lw:aF env.P 166 0=(some (0,1)):=by kernel_rfl
@[simp] theorem Lt:aF env.P 166 1=(some (1,1)):=by kernel_rfl
@[simp] theorem Lr:aF env.P 166 2=(some (2,1)):=by kernel_rfl
end Go.Proofs.Ytmjkpdknicjjgaa
