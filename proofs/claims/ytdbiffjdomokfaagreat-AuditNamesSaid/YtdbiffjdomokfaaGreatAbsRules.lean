/-
  The arguments of a law: from what is read before the call to data. No statement of a seat is proved here.
  The shapes of the arguments' data, type by type. No statement of a seat is proved here.
  '==' of structs and arrays of bools, numbers and strings: cell by cell. No statement of a seat is proved here.
  More rules for the conditions: slices, strings, calls that answer slices, small slices. No statement of a seat is proved here.
  Boxes, fields, structs in the conditions; branches as ifs; calls as rules. No statement of a seat is proved here.
  Rules that let a simplifier go through calls, boxes and own slices by itself. No statement of a seat is proved here.
  Rules for a simplifier, on: what a call hands out as the caller's own, and what is behind a call. No statement of a seat is proved here.
  Rules for a simplifier, on: appends to data, bytes. No statement of a seat is proved here.
  More rules for the simplifier. No statement of a seat is proved here.
  Numbers as bytes, the highest first. No statement of a seat is proved here.
-/
import Derived.Test.YtdbiffjdomokfaaGreatAbsCond
import Derived.ChangeKeysEq
import Derived.Laws.Strings
set_option linter.unusedVariables false
set_option linter.unusedSimpArgs false
namespace Go.Ab
open Go.ChangeShapes Go.WideShapes Go.RowKit
def Yg(ag:Bool)(xs:List AV):AV:=match ag,xs with
 | false,[x]=>x
 | _,xs => .agg xs
def PY(S:List AV→Prop):Nat→List AV→Prop
 | 0,xs=>xs=[]
 | k+1,xs =>∃a b,xs=a++b∧S a∧PY S k b
def V0(S:TypeId→List AV→Prop):List Field→List AV→Prop
 | [],xs=>xs=[]
 | f :: fs,xs =>∃a b,xs=a++b∧S f.type a∧V0 S fs b
def RF(P:Program):Nat→TypeId→List AV→Prop
 | 0,_,_=>False
 | n+1,t,xs=>match P.underlying t with
  | some .bool =>∃b,xs=[aB b]
  | some (.int k) =>∃i,(k.min≤i∧i≤k.max)∧xs=[.v (.int k i)]
  | some .string =>∃s:ByteArray,xs=[aS s]
  | some (.slice e)=>xs=[dg] ∨∃es:List (List AV),xs=[.cm (P.cellsOf e) (es.map (Yg ((dR P e).getD false))) none] ∧∀x∈es,RF P n e x
  | some (.struct fs)=>V0 (RF P n) fs.toList xs
  | some (.array k e)=>PY (RF P n e) k xs
  | _=>False
def layout(P:Program):List Field→Nat→Option Nat
 | [],o=>some o
 | f :: fs,o=>if f.offset=o then layout P fs (o+P.cellsOf f.type) else none
def plain(P:Program):Nat→TypeId→Bool
 | 0,_=>false
 | n+1,t=>match P.underlying t with
  | some .bool | some (.int _) | some .string=>P.cellsOf t == 1
  | some (.slice e)=>P.cellsOf t == 1&&plain P n e&&decide (0<P.cellsOf e)
  | some (.struct fs)=>fs.toList.all (fun f=>plain P n f.type)&&layout P fs.toList 0 == some (P.cellsOf t)
  | some (.array k e)=>plain P n e&&P.cellsOf t == k * P.cellsOf e
  | _=>false
section
variable{H:Type}{enc:TypeId × Value→H}{P:Program}{w:World}{base:Nat}{spare:Nat→Bool}{held:Bool}
def Td(P:Program)(n:Nat)(t:TypeId)(x:AV):Prop :=
 match dR P t with
 | some true =>∃xs,x = .agg xs∧RF P n t xs
 | _=>RF P n t [x]
end
end Go.Ab
namespace Go.Ab
def isBool(P:Program)(t:TypeId):Bool:=match P.underlying t with | some .bool=>true | _=>false
def jY(P:Program)(t:TypeId):Option (List TypeId):=match P.underlying t with | some (.struct fs)=>some (fs.toList.map (·.type)) | _=>none
theorem Td.cell{P:Program}{n:Nat}{t:TypeId}{x:AV}(ha:dR P t=some false)(h:Td P n t x):RF P n t [x]:=by
 unfold Td at h;rw[ha]at h;exact h
theorem Td.agg{P:Program}{n:Nat}{t:TypeId}{x:AV}(ha:dR P t=some true)(h:Td P n t x) : ∃xs,x = .agg xs∧RF P n t xs:=by
 unfold Td at h;rw[ha]at h;exact h
end Go.Ab
namespace Go.Ab
def rF(P:Program)(d e c:Nat)(xs ys:Array Value):List Nat→Option Bool
 | []=>some true
 | i :: is=>match bu P (part e xs (i * c)),bu P (part e ys (i * c)) with
  | some a,some b=>(match bu P (Op.equalIn d e a b) with
   | some true=>rF P d e c xs ys is
   | some false=>some false
   | none=>none)
  | _,_=>none
theorem Il{P:Program}{t:TypeId}{z:Nat}(h:aU P t=some z):bu P (sizeOf t)=some z:=by
 simp only[aU,Option.map_eq_some_iff]at h
 obtain⟨i,hi,rfl⟩:=h
 simp only[sizeOf,typeInfo,bN]
 show((some P).bind _).bind _=_
 simp only[Option.bind_some,hi]
 rfl
theorem yl{P:Program}(d:Nat){t e:TypeId}{n c:Nat}(xs ys:Array Value)(hu:P.underlying t=some (.array n e))(hi:aU P e=some c) :
 bu P (Op.equalIn (d+1) t (.agg xs) (.agg ys))=rF P d e c xs ys (List.range n):=by
 simp only[Op.equalIn,bN,jF hu,Option.bind_some,Il hi]
 simp only[Std.Legacy.Range.forIn_eq_forIn_range',Std.Legacy.Range.size,Nat.sub_zero,Nat.add_one_sub_one,Nat.div_one,List.range_eq_range']
 generalize List.range' 0 n=is
 induction is with
 | nil=>rfl
 | cons j is ih =>
  simp only[List.forIn_cons,rF,bN]
  cases h1:bu P (part e xs (j * c)) with
  | none=>rfl
  | some a =>
   cases h2:bu P (part e ys (j * c)) with
   | none=>rfl
   | some b =>
    simp only[Option.bind_some]
    cases h3:bu P (Op.equalIn d e a b) with
    | none=>rfl
    | some r =>
     cases r
     ·rfl
     ·simp only[Option.bind_some,Bool.not_true,Bool.false_eq_true,if_false]
      exact ih
def pe(P:Program)(d:Nat)(xs ys:Array Value):List Field→Option Bool
 | []=>some true
 | f :: fs=>match bu P (part f.type xs f.offset),bu P (part f.type ys f.offset) with
  | some a,some b=>(match bu P (Op.equalIn d f.type a b) with
   | some true=>pe P d xs ys fs
   | some false=>some false
   | none=>none)
  | _,_=>none
theorem wR{P:Program}(d:Nat){t:TypeId}{fs:Array Field}(xs ys:Array Value)(hu:P.underlying t=some (.struct fs))(hs:P.stoodInHeld t=false)(hn : ∀f∈fs.toList,(f.name != "_")=true) :
 bu P (Op.equalIn (d+1) t (.agg xs) (.agg ys))=pe P d xs ys fs.toList:=by
 have hp:bu P program=some P:=rfl
 simp only[Op.equalIn,bN,jF hu,Option.bind_some,hp,hs,Bool.false_eq_true,if_false]
 simp only[←Array.forIn_toList]
 generalize fs.toList=is at hn
 induction is with
 | nil=>rfl
 | cons f is ih =>
  have hf:f.name ≠ "_" := by simpa using hn f (List.mem_cons_self ..)
  simp only[List.forIn_cons,pe,bN,hf,ne_eq,not_false_eq_true,if_true]
  have hpu:bu P (pure PUnit.unit:Sem PUnit)=some PUnit.unit:=rfl
  cases h1:bu P (part f.type xs f.offset) with
  | none=>rfl
  | some a =>
   cases h2:bu P (part f.type ys f.offset) with
   | none=>rfl
   | some b =>
    simp only[Option.bind_some]
    cases h3:bu P (Op.equalIn d f.type a b) with
    | none=>rfl
    | some r =>
     cases r
     ·rfl
     ·simp only[Option.bind_some,Bool.not_true,Bool.false_eq_true,if_false]
      exact ih fun g hg=>hn g (List.mem_cons_of_mem _ hg)
def vS:List AV→List AV→Option Bool
 | [.v (.bool a)],[.v (.bool b)]=>some (decide (a=b))
 | [.v (.int k a)],[.v (.int k' b)]=>if k=k' then some (decide (a=b)) else none
 | [.v (.string a)],[.v (.string b)]=>some (a == b)
 | _,_=>none
def fL(S:TypeId→List AV→List AV→Option Bool)(P:Program):List TypeId→List AV→List AV→Option Bool
 | [],_,_=>some true
 | t :: ts,xs,ys=>match aU P t with
  | none=>none
  | some z=>match S t (xs.take z) (ys.take z),fL S P ts (xs.drop z) (ys.drop z) with
   | some a,some b=>some (a&&b)
   | _,_=>none
def Dh(S:List AV→List AV→Option Bool)(z:Nat):Nat→List AV→List AV→Option Bool
 | 0,_,_=>some true
 | k+1,xs,ys=>match S (xs.take z) (ys.take z),Dh S z k (xs.drop z) (ys.drop z) with
  | some a,some b=>some (a&&b)
  | _,_=>none
def lb(P:Program)(t:TypeId):Option Nat:=match P.underlying t with
 | some .bool=>some 0
 | some (.int _)=>some 1
 | some .string=>some 2
 | _=>none
def C7:AV→Nat
 | .v (.bool _)=>0
 | .v (.int _ _)=>1
 | .v (.string _)=>2
 | _=>3
def lC(P:Program):Nat→TypeId→List AV→List AV→Option Bool
 | 0,_,_,_=>none
 | n+1,t,xs,ys=>match lb P t with
  | some l=>(match xs,ys with
   | [x],[y]=>cond (Nat.beq (C7 x) l) (vS [x] [y]) none
   | _,_=>none)
  | none=>match jY P t with
   | some ts=>fL (lC P n) P ts xs ys
   | none=>match gZ P t with
    | some (k,e)=>(match aU P e with
     | some z=>Dh (lC P n e) z k xs ys
     | none=>none)
    | none=>none
def zE(P:Program):Nat→TypeId→Bool
 | 0,_=>false
 | n+1,t=>match P.underlying t with
  | some .bool | some (.int _) | some .string=>dR P t == some false&&aU P t == some 1
  | some (.struct fs)=>fs.toList.all (fun f=>zE P n f.type&&f.name != "_")&&layout P fs.toList 0 == some (P.cellsOf t) && !P.stoodInHeld t
  | some (.array k e)=>zE P n e&&P.cellsOf t == k * P.cellsOf e
  | _=>false
def mQ(xs:List AV):Option (List Value):=xs.mapM CG
theorem uA{xs:List AV}{vs:List Value}(h:mQ xs=some vs)(n:Nat):mQ (xs.take n)=some (vs.take n):=by
 unfold mQ at *
 induction xs generalizing vs n with
 | nil=>simp at h;subst h;simp
 | cons x xs ih =>
  simp only[List.mapM_cons,Option.pure_def,Option.bind_eq_bind,Option.bind_eq_some_iff]at h
  obtain⟨v,hv,vs',hvs,e⟩:=h
  cases e
  cases n with
  | zero=>simp
  | succ n=>simp only[List.take_succ_cons,List.mapM_cons,hv,ih hvs n];rfl
theorem uB{xs:List AV}{vs:List Value}(h:mQ xs=some vs)(n:Nat):mQ (xs.drop n)=some (vs.drop n):=by
 unfold mQ at *
 induction xs generalizing vs n with
 | nil=>simp at h;subst h;simp
 | cons x xs ih =>
  simp only[List.mapM_cons,Option.pure_def,Option.bind_eq_bind,Option.bind_eq_some_iff]at h
  obtain⟨v,hv,vs',hvs,e⟩:=h
  cases e
  cases n with
  | zero=>simp only[List.drop_zero,List.mapM_cons,hv,hvs];rfl
  | succ n=>simp only[List.drop_succ_cons];exact ih hvs n
def qa(P:Program)(t:TypeId)(vs:List Value):Option Value:=match dR P t with
 | some true=>some (.agg vs.toArray)
 | some false=>vs.head?
 | none=>none
theorem zQ{P:Program}{t:TypeId}{z:Nat}(hz:aU P t=some z){vs:List Value}{o:Nat}{v:Value}(hv:qa P t ((vs.drop o).take z)=some v)(h1:dR P t=some false→z=1):bu P (part t vs.toArray o)=some v:=by
 unfold qa at hv
 have hag : ∀b,dR P t=some b→bu P (isAgg t)=some b:=by
  intro b hb
  simp only[dR,Option.map_eq_some_iff]at hb
  obtain⟨dd,hd,rfl⟩:=hb
  simp only[isAgg,bN,jF hd,Option.bind_some]
  cases dd<;>rfl
 unfold part
 split at hv
 ·rename_i ha
  cases hv
  simp only[bN,hag _ ha,Option.bind_some,if_true,Il hz]
  show some _=some _
  congr 2
  apply Array.toList_inj.1
  simp only[Array.toList_extract,List.extract_eq_take_drop,Nat.add_sub_cancel_left]
 ·rename_i ha
  simp only[bN,hag _ ha,Option.bind_some,Bool.false_eq_true,if_false]
  have:vs.toArray[o]?=some v:=by
   rw[h1 ha]at hv
   rw[List.getElem?_toArray]
   cases hd:vs.drop o with
   | nil=>rw[hd]at hv;simp at hv
   | cons u us =>
    rw[hd]at hv
    simp at hv
    subst hv
    have:=congrArg List.head? hd
    simpa [List.head?_drop] using this
  rw[this]
  rfl
 ·cases hv
theorem Mb{P:Program} : ∀(n:Nat)(D:Nat)(t:TypeId)(xs ys:List AV)(us vs:List Value)(b:Bool),zE P n t=true→lC P n t xs ys=some b→mQ xs=some us→mQ ys=some vs→xs.length=P.cellsOf t→ys.length=P.cellsOf t →
 ∃u v,qa P t us=some u∧qa P t vs=some v∧bu P (Op.equalIn (D+n) t u v)=some b:=by
 intro n
 induction n with
 | zero=>intro D t xs ys us vs b h;simp[zE]at h
 | succ n ih =>
  intro D t xs ys us vs b hok h hu hv hlx hly
  unfold zE at hok
  unfold lC at h
  cases hd:P.underlying t with
  | none=>rw[hd]at hok;simp at hok
  | some dd =>
   rw[hd]at hok
   have leaf : ∀l,lb P t=some l→(dR P t == some false&&aU P t == some 1)=true→(l=0∧dd = .bool∨(l=1 ∧∃k,dd = .int k)∨l=2∧dd = .string) →∃u v,qa P t us=some u∧qa P t vs=some v∧bu P (Op.equalIn (D+(n+1)) t u v)=some b:=by
    intro l hl hok hdd
    simp only[Bool.and_eq_true,beq_iff_eq]at hok
    rw[hl]at h
    dsimp only at h
    split at h
    ·rename_i x y
     cases hb:Nat.beq (C7 x) l with
     | false=>rw[hb]at h;cases h
     | true =>
      rw[hb]at h
      replace hb:=Nat.eq_of_beq_eq_true hb
      have e1 : ∃u,us=[u]∧CG x=some u:=by
       unfold mQ at hu;simp only[List.mapM_cons,List.mapM_nil,Option.pure_def,Option.bind_eq_bind,Option.bind_eq_some_iff]at hu
       obtain⟨u,h1,ws,h2,h3⟩:=hu
       cases h2;cases h3;exact⟨u,rfl,h1⟩
      have e2 : ∃u,vs=[u]∧CG y=some u:=by
       unfold mQ at hv;simp only[List.mapM_cons,List.mapM_nil,Option.pure_def,Option.bind_eq_bind,Option.bind_eq_some_iff]at hv
       obtain⟨u,h1,ws,h2,h3⟩:=hv
       cases h2;cases h3;exact⟨u,rfl,h1⟩
      obtain⟨u,rfl,hu1⟩:=e1
      obtain⟨v,rfl,hv1⟩:=e2
      refine⟨u,v,by simp[qa,hok.1],by simp[qa,hok.1],?_⟩
      rw[show D+(n+1)=(D+n)+1 from rfl]
      simp only[cond_true]at h
      unfold vS at h
      simp only[Op.equalIn,bN,jF hd,Option.bind_some]
      split at h
      ·rename_i a c ea ec
       simp only[List.cons.injEq,and_true]at ea ec
       subst ea;subst ec
       simp[CG]at hu1 hv1
       subst hu1;subst hv1
       have hl0:l=0:=hb.symm
       rcases hdd with ⟨_,rfl⟩ | ⟨h1,_⟩ | ⟨h1,_⟩
       ·rw[←h];show some (a == c)=_;congr 1
       ·omega
       ·omega
      ·rename_i k a k' c ea ec
       simp only[List.cons.injEq,and_true]at ea ec
       subst ea;subst ec
       simp[CG]at hu1 hv1
       subst hu1;subst hv1
       have hl0:l=1:=hb.symm
       rcases hdd with ⟨h1,_⟩ | ⟨_,k0,rfl⟩ | ⟨h1,_⟩
       ·omega
       ·split at h
        ·rename_i hk
         subst hk
         rw[←h]
         show bu P (if k=k then pure (a == c) else _)=_
         rw[if_pos rfl]
         show some (a == c)=_
         congr 1
        ·cases h
       ·omega
      ·rename_i a c ea ec
       simp only[List.cons.injEq,and_true]at ea ec
       subst ea;subst ec
       simp[CG]at hu1 hv1
       subst hu1;subst hv1
       have hl0:l=2:=hb.symm
       rcases hdd with ⟨h1,_⟩ | ⟨h1,_⟩ | ⟨_,rfl⟩
       ·omega
       ·omega
       ·rw[←h];rfl
      ·cases h
    ·cases h
   have hlt : ∀l,lb P t=some l→_:=fun l hl=>leaf l hl
   cases dd<;>dsimp only at hok<;>try (simp at hok;done)
   ·exact leaf 0 (by simp[lb,hd]) hok (.inl ⟨rfl,rfl⟩)
   ·rename_i k;exact leaf 1 (by simp[lb,hd]) hok (.inr (.inl ⟨rfl,k,rfl⟩))
   ·exact leaf 2 (by simp[lb,hd]) hok (.inr (.inr ⟨rfl,rfl⟩))
   ·
    rename_i k e
    simp only[Bool.and_eq_true,beq_iff_eq]at hok
    obtain⟨hok,hcell⟩:=hok
    have hl:lb P t=none:=by simp[lb,hd]
    have hf:jY P t=none:=by simp[jY,hd]
    have hta:gZ P t=some (k,e):=by simp[gZ,hd]
    rw[hl,hf,hta]at h
    dsimp only at h
    have hag:dR P t=some true:=by simp[dR,hd]
    cases hz:aU P e with
    | none=>rw[hz]at h;cases h
    | some z =>
     rw[hz]at h
     dsimp only at h
     have hcz:P.cellsOf e=z:=by simp only[aU]at hz;simp[Program.cellsOf,hz]
     have hone:dR P e=some false→z=1:=by
      intro hagf
      cases n with
      | zero=>simp[zE]at hok
      | succ n' =>
       unfold zE at hok
       unfold dR at hagf
       cases huf:P.underlying e with
       | none=>rw[huf]at hok;simp at hok
       | some d2 =>
        rw[huf]at hok hagf
        cases d2<;>simp at hok hagf<;>(have:=hok.2;rw[hz]at this;simpa using this)
     refine⟨.agg us.toArray,.agg vs.toArray,by simp[qa,hag],by simp[qa,hag],?_⟩
     rw[show D+(n+1)=(D+n)+1 from rfl,yl (D+n) _ _ hd hz]
     have : ∀(m i0:Nat)(b:Bool),(i0+m) * z≤xs.length→(i0+m) * z≤ys.length→Dh (lC P n e) z m (xs.drop (i0 * z)) (ys.drop (i0 * z))=some b→rF P (D+n) e z us.toArray vs.toArray (List.range' i0 m)=some b:=by
      intro m
      induction m with
      | zero=>intro i0 b _ _ h;simp[Dh]at h;simp[rF,h]
      | succ m ihm =>
       intro i0 b hx hy h
       simp only[Dh]at h
       have hmul:(i0+(m+1)) * z=i0 * z+z+m * z:=by rw[Nat.add_mul,Nat.succ_mul];omega
       rw[hmul]at hx hy
       cases h1:lC P n e ((xs.drop (i0 * z)).take z) ((ys.drop (i0 * z)).take z) with
       | none=>rw[h1]at h;simp at h
       | some a =>
        rw[h1]at h
        cases h2:Dh (lC P n e) z m ((xs.drop (i0 * z)).drop z) ((ys.drop (i0 * z)).drop z) with
        | none=>rw[h2]at h;simp at h
        | some c =>
         rw[h2]at h
         simp only[Option.some.injEq]at h
         rw[List.drop_drop,List.drop_drop,←Nat.succ_mul]at h2
         obtain⟨u,v,hu1,hv1,heq⟩:=ih D e _ _ _ _ a hok h1 (uA (uB hu (i0 * z)) z) (uA (uB hv (i0 * z)) z)
          (by rw[List.length_take,List.length_drop,hcz];omega) (by rw[List.length_take,List.length_drop,hcz];omega)
         have p1:=zQ hz (o:=i0 * z) hu1 hone
         have p2:=zQ hz (o:=i0 * z) hv1 hone
         simp only[List.range'_succ,rF,p1,p2,heq]
         cases a with
         | false=>simp at h;simp[h]
         | true =>
          simp only[Bool.true_and]at h
          subst h
          exact ihm (i0+1) c (by rw[show i0+1+m=i0+(m+1) by omega,hmul];exact hx) (by rw[show i0+1+m=i0+(m+1) by omega,hmul];exact hy) h2
     rw[List.range_eq_range']
     by_cases hk0:k * z≤xs.length∧k * z≤ys.length
     ·exact this k 0 b (by simpa using hk0.1) (by simpa using hk0.2) (by simpa using h)
     ·exfalso
      rw[hcz]at hcell
      exact hk0 ⟨by omega,by omega⟩
   ·
    rename_i fs
    simp only[Bool.and_eq_true,Bool.not_eq_true',List.all_eq_true,beq_iff_eq]at hok
    obtain⟨⟨hall,hlay⟩,hst⟩:=hok
    have hl:lb P t=none:=by simp[lb,hd]
    have hf:jY P t=some (fs.toList.map (·.type)):=by simp[jY,hd]
    rw[hl,hf]at h
    dsimp only at h
    have hag:dR P t=some true:=by simp[dR,hd]
    refine⟨.agg us.toArray,.agg vs.toArray,by simp[qa,hag],by simp[qa,hag],?_⟩
    rw[show D+(n+1)=(D+n)+1 from rfl,wR (D+n) _ _ hd hst (fun f hf=>(hall f hf).2)]
    have : ∀(l:List Field)(o:Nat)(b:Bool),(∀f∈l,zE P n f.type=true)→layout P l o=some (P.cellsOf t)→fL (lC P n) P (l.map (·.type)) (xs.drop o) (ys.drop o)=some b→o≤P.cellsOf t →
     pe P (D+n) us.toArray vs.toArray l=some b:=by
     intro l
     induction l with
     | nil=>intro o b _ _ h _;simp[fL]at h;simp[pe,h]
     | cons f l ihl =>
      intro o b hal hlay h ho
      unfold layout at hlay
      split at hlay
      ·rename_i hfo
       simp only[List.map_cons,fL]at h
       cases hz:aU P f.type with
       | none=>rw[hz]at h;cases h
       | some z =>
        rw[hz]at h
        dsimp only at h
        have hcz:P.cellsOf f.type=z:=by simp only[aU]at hz;simp[Program.cellsOf,hz]
        rw[hcz]at hlay
        cases h1:lC P n f.type ((xs.drop o).take z) ((ys.drop o).take z) with
        | none=>rw[h1]at h;simp at h
        | some a =>
         rw[h1]at h
         cases h2:fL (lC P n) P (l.map (·.type)) ((xs.drop o).drop z) ((ys.drop o).drop z) with
         | none=>rw[h2]at h;simp at h
         | some c =>
          rw[h2]at h
          simp only[Option.some.injEq]at h
          rw[List.drop_drop,List.drop_drop]at h2
          have hle:o+z≤P.cellsOf t:=by
           have : ∀(l:List Field)(o m:Nat),layout P l o=some m→o≤m:=by
            intro l
            induction l with
            | nil=>intro o m h;simp[layout]at h;omega
            | cons g l ihg =>
             intro o m h
             unfold layout at h
             split at h
             ·have:=ihg _ _ h;omega
             ·cases h
           exact this _ _ _ hlay
          obtain⟨u,v,hu1,hv1,heq⟩:=ih D f.type _ _ _ _ a (hal f (List.mem_cons_self ..)) h1 (uA (uB hu o) z) (uA (uB hv o) z)
           (by rw[List.length_take,List.length_drop,hcz];omega) (by rw[List.length_take,List.length_drop,hcz];omega)
          have hone:dR P f.type=some false→z=1:=by
           intro hagf
           have hk:=hal f (List.mem_cons_self ..)
           cases n with
           | zero=>simp[zE]at hk
           | succ n' =>
            unfold zE at hk
            unfold dR at hagf
            cases huf:P.underlying f.type with
            | none=>rw[huf]at hk;simp at hk
            | some d2 =>
             rw[huf]at hk hagf
             cases d2<;>simp at hk hagf<;>(have:=hk.2;rw[hz]at this;simpa using this)
          have p1:=zQ hz (o:=o) hu1 hone
          have p2:=zQ hz (o:=o) hv1 hone
          simp only[pe,hfo,p1,p2,heq]
          cases a with
          | false=>simp at h;simp[h]
          | true =>
           simp only[Bool.true_and]at h
           subst h
           exact ihl (o+z) c (fun g hg=>hal g (List.mem_cons_of_mem _ hg)) hlay h2 hle
      ·cases hlay
    exact this fs.toList 0 b (fun f hf=>(hall f hf).1) hlay (by simpa using h) (Nat.zero_le _)
def zD(P:Program)(t:TypeId):Bool:=zE P 20 t && !P.eqGuardType P.depth t&&dR P t == some true
theorem Jz{P:Program}{t:TypeId}(h:zD P t=true)(op:BinOp)(ho:op = .eql∨op = .neq)(xo yo:Operand)(xs ys:Array Value) :
 AH P op t xo yo (.agg xs) (.agg ys)=(bu P (Op.equalIn 10000 t (.agg xs) (.agg ys))).map fun b => .bool (if op = .eql then b else !b):=by
 unfold zD at h
 simp only[Bool.and_eq_true,Bool.not_eq_true',beq_iff_eq]at h
 have hp:bu P program=some P:=rfl
 unfold AH
 have hg:bu P (eqGuard op t xo yo (.agg xs) (.agg ys))=some ():=by
  rcases ho with rfl | rfl
  ·simp only[eqGuard,Bool.not_true,Bool.false_eq_true,if_false,bN,hp,Option.bind_some,h.1.2,Bool.not_false,if_true];rfl
  ·simp only[eqGuard,Bool.not_true,Bool.false_eq_true,if_false,bN,hp,Option.bind_some,h.1.2,Bool.not_false,if_true];rfl
 rw[bN,hg,Option.bind_some]
 rcases ho with rfl | rfl
 ·show bu P (do pure (Value.bool (←Op.equal t (.agg xs) (.agg ys))))=_
  rw[bN]
  unfold Op.equal Op.maxDepth
  cases bu P (Op.equalIn 10000 t (.agg xs) (.agg ys))<;>rfl
 ·show bu P (do pure (Value.bool (!(←Op.equal t (.agg xs) (.agg ys)))))=_
  rw[bN]
  unfold Op.equal Op.maxDepth
  cases bu P (Op.equalIn 10000 t (.agg xs) (.agg ys))<;>rfl
theorem AG{P:Program}{t:TypeId}(h:zD P t=true)(op:BinOp)(ho:op = .eql∨op = .neq)(xo yo:Operand){cs ds:List AV}{b:Bool}(hb:lC P 20 t cs ds=some b)(hu:(mQ cs).isSome=true)(hv:(mQ ds).isSome=true)
 (hc:some cs.length=aU P t) (hd:some ds.length=aU P t):aE P op t xo yo (some (.agg cs)) (some (.agg ds))=some (aB (if op = .eql then b else !b),[]):=by
 obtain⟨us,hu⟩:=Option.isSome_iff_exists.1 hu
 obtain⟨vs,hv⟩:=Option.isSome_iff_exists.1 hv
 have h0:=h
 unfold zD at h0
 simp only[Bool.and_eq_true,Bool.not_eq_true',beq_iff_eq]at h0
 have hl : ∀ {n:Nat},some n=aU P t→n=P.cellsOf t:=by
  intro n hn
  unfold aU at hn
  unfold Program.cellsOf
  rw[←hn];rfl
 obtain⟨u,v,e1,e2,heq⟩:=Mb 20 9980 t cs ds us vs b h0.1.1 hb hu hv (hl hc) (hl hd)
 simp only[qa,h0.2,Option.some.injEq]at e1 e2
 subst e1;subst e2
 have hpr:=Jz h op ho xo yo us.toArray vs.toArray
 rw[heq]at hpr
 have t1:fw (.agg cs)=some (.agg us.toArray):=by show(cs.mapM CG).map _=_;rw[show cs.mapM CG=some us from hu];rfl
 have t2:fw (.agg ds)=some (.agg vs.toArray):=by show(ds.mapM CG).map _=_;rw[show ds.mapM CG=some vs from hv];rfl
 simp only[aE,FT,lG,Bool.false_and,Bool.or_self,Bool.false_eq_true,if_false,t1,t2,hpr,Option.map_some,Option.bind_some,hX,scalar,if_true,cJ]
@[simp] theorem NW{P:Program}{t:TypeId}(h:zD P t=true)(xo yo:Operand){cs ds:List AV}(hb:(lC P 20 t cs ds).isSome=true)(hu:(mQ cs).isSome=true)(hv:(mQ ds).isSome=true)
 (hc:some cs.length=aU P t) (hd:some ds.length=aU P t):aE P .eql t xo yo (some (.agg cs)) (some (.agg ds))=some (aB ((lC P 20 t cs ds).getD false),[]):=by
 obtain⟨b,hb⟩:=Option.isSome_iff_exists.1 hb
 rw[AG h .eql (.inl rfl) xo yo hb hu hv hc hd,hb];rfl
@[simp] theorem NU{P:Program}{t:TypeId}(h:zD P t=true)(xo yo:Operand){cs ds:List AV}(hb:(lC P 20 t cs ds).isSome=true)(hu:(mQ cs).isSome=true)(hv:(mQ ds).isSome=true)
 (hc:some cs.length=aU P t) (hd:some ds.length=aU P t):aE P .neq t xo yo (some (.agg cs)) (some (.agg ds))=some (aB (!(lC P 20 t cs ds).getD false),[]):=by
 obtain⟨b,hb⟩:=Option.isSome_iff_exists.1 hb
 rw[AG h .neq (.inr rfl) xo yo hb hu hv hc hd,hb];rfl
@[simp] theorem Tk:mQ []=some []:=id rfl
@[simp] theorem EP(k:IntKind)(n:Int)(l:List AV):mQ (.v (.int k n) :: l)=(mQ l).map (.int k n :: ·):=by
 unfold mQ;simp only[List.mapM_cons,CG];cases l.mapM CG<;>rfl
@[simp] theorem RL(b:Bool)(l:List AV):mQ (.v (.bool b) :: l)=(mQ l).map (.bool b :: ·):=by
 unfold mQ;simp only[List.mapM_cons,CG];cases l.mapM CG<;>rfl
@[simp] theorem XV(b:UInt8)(l:List AV):mQ (a8 b :: l)=(mQ l).map (.int .u8 b.toNat :: ·):=EP _ _ _
@[simp] theorem Wb(b:UInt32)(l:List AV):mQ (aF b :: l)=(mQ l).map (.int .u32 b.toNat :: ·):=EP _ _ _
@[simp] theorem PU(a b:Bool):vS [aB a] [aB b]=some (decide (a=b)):=id rfl
@[simp] theorem Bj(k:IntKind)(a b:Int):vS [.v (.int k a)] [.v (.int k b)]=some (decide (a=b)):=by simp[vS]
@[simp] theorem Vx(a b:UInt8):vS [a8 a] [a8 b]=some (decide (a=b)):=by
 unfold a8;rw[Bj];congr 2;rw[←UInt8.toNat_inj];exact propext (by omega)
@[simp] theorem SV(a b:UInt32):vS [aF a] [aF b]=some (decide (a=b)):=by
 unfold aF;rw[Bj];congr 2;rw[←UInt32.toNat_inj];exact propext (by omega)
@[simp] theorem QO(b:Bool):C7 (aB b)=0:=id rfl
@[simp] theorem SG(k:IntKind)(n:Int):C7 (.v (.int k n))=1:=id rfl
@[simp] theorem Xe(b:UInt8):C7 (a8 b)=1:=id rfl
@[simp] theorem UW(b:UInt32):C7 (aF b)=1:=id rfl
end Go.Ab
namespace Go.Ab
@[simp] theorem AA{P:Program}{t:TypeId}(h:((dU P t).bind (aU P)).isSome=true)(g:cV)(lo hi mx:Option Int) :
 eE P g t (some dg) (some lo) (some hi) (some mx)=(bounds 0 (some 0) lo hi mx).map fun _=>(dg,[]):=by
 simp only[eE,h,if_true]
@[simp] theorem G5{P:Program}{t z:Nat}(h:(dU P t).bind (aU P)=some z)(g:cV)(es:List AV)(c:Option Nat)(lo hi mx:Option Int) :
 eE P g t (some (.cm z es c)) (some lo) (some hi) (some mx)=(bounds es.length c lo hi mx).map fun(l,h,c)=>(.cm z ((es.drop l).take (h - l)) c,[]):=by
 simp only[eE,h,if_true]
theorem EW{P:Program}{t z:Nat}(h:(dU P t).bind (aU P)=some z)(g:cV){es:List AV}{x:AV}(hx:Sl z es x){n:Int}(h0:0≤n)(hn:n≤es.length) :
 ∃y,eE P g t (some x) (some none) (some (some n)) (some none)=some (y,[])∧Sl z (es.take n.toNat) y:=by
 rcases hx with ⟨rfl,rfl⟩ | ⟨c,rfl,hcap⟩
 ·refine⟨dg,?_,.inl ⟨rfl,by simp⟩⟩
  rw[AA (by rw[h];rfl)]
  have:n=0:=by simp at hn;omega
  subst this;rfl
 ·refine⟨.cm z (es.take n.toNat) (c.map (· - 0)),?_,.inr ⟨_,rfl,by cases c with | none=>simp | some k=>simp at hcap ⊢;omega⟩⟩
  rw[G5 h]
  simp only[bounds,Option.getD_none,Option.getD_some,Int.le_refl,true_and,if_pos (show 0≤n∧n≤es.length from⟨h0,hn⟩),Option.map_some]
  simp
def sB(l:List UInt8):AV:=aS ⟨l.toArray⟩
theorem Mq{P:Program}{draw wk:Bool}{H:ab}{r:Ref}{t z by' n:Nat}{ps:List (Nat × AV)}{zz:AV}(hT:Rm P t z by'=true)(hsz:n * z≤16777216)(hv:eH H.get ps=some ps)(hrf:ca H.get (ps.map (·.2))=[])
 (hc:ps.all (fun p=>p.2.cells.length == z&&p.2.cells.all AV.one)=true) (hz:(dU P t).bind (ej P)=some zz) {es:List AV} (hf:fJ (List.replicate n zz) ps=some es) :
 eO P draw wk H r t n (some ps)=if draw then some (.cm z es (some n),H) else some (.cG r 0 n (some n),({ r with k:=0},some ⟨z,es,true,false⟩) :: H):=by
 obtain⟨e,zz',h1,h2,h3,h4,h5,h6,h7,h8⟩:=iU hT
 rw[h1]at hz
 simp only[Option.bind_some,h4,Option.some.injEq]at hz
 subst hz
 have hmk:mkSlice P H.get t n ps=some ⟨z,es,true,false⟩:=by
  simp only[mkSlice,h1,hv,h4,h2]
  rw[if_pos ⟨Nat.pos_of_ne_zero h7,hsz,h5,h6,by simpa using hc⟩,hf]
  rfl
 have hq:fj P draw H.get r t n (some ps)=if draw then some (.cm z es (some n),[]) else some (.cG r 0 n (some n),[⟨z,es,true,false⟩]):=by
  simp only[fj,hrf,gN,List.all_nil,if_true,hmk,Option.map_some]
  cases draw<;>rfl
 unfold eO
 rw[hq]
 cases draw<;>rfl
theorem CF{g:cV}{r:Ref}{z:Nat}{es:List AV}{fz:Bool}(hr:g r=some ⟨z,es,true,fz⟩){n:Nat}(hn:n=es.length)(k:Nat)(c:Option Nat):view g (k+1) (.cG r 0 n c)=some (.cm z es c):=by
 subst hn
 rw[z3 hr,if_pos ⟨rfl,by simp⟩,List.drop_zero,List.take_length]
theorem Own.dc{z:Nat}{es:List AV}{H H':ab}{x s s':AV}(h:Own z es H x)(hp : ∀q b,H.get q=some b→s.at?≠some q→H'.get q=some b∧s'.at?≠some q)(hne : ∀q,x.at?=some q→s.at?≠some q):Own z es H' x ∧∀q,x.at?=some q→s'.at?≠some q:=by
 rcases h with ⟨rfl,rfl⟩ | ⟨r,rfl,hr⟩
 ·exact⟨Ip z H',fun q hq=>by simp[AV.at?]at hq⟩
 ·obtain⟨h1,h2⟩:=hp r _ hr (hne r rfl)
  exact⟨.inr ⟨r,rfl,h1⟩,fun q hq=>by simp only[AV.at?,Option.some.injEq]at hq;subst hq;exact h2⟩
theorem Hn{P:Program}{t:TypeId}(h:isBool P t=true):P.underlying t=some .bool:=by
 unfold isBool at h
 split at h
 ·assumption
 ·cases h
theorem B9{P:Program}{t:TypeId}(h:isBool P t=true)(d:Nat)(a b:Bool):bu P (Op.equalIn (d+1) t (.bool a) (.bool b))=some (a == b):=by
 simp only[Op.equalIn,bN,jF (Hn h),Option.bind_some]
 rfl
theorem Hb{P:Program}{t:TypeId}(h:isBool P t=true)(op:BinOp)(ho:op = .eql∨op = .neq)(xo yo:Operand)(a b:Bool) :
 AH P op t xo yo (.bool a) (.bool b)=some (.bool (if op = .eql then a == b else !(a == b))):=by
 have he:bu P (Op.equal t (.bool a) (.bool b))=some (a == b):=B9 h 9999 a b
 unfold AH
 rcases ho with rfl | rfl
 ·have:bu P (eqGuard .eql t xo yo (.bool a) (.bool b))=some ():=rfl
  rw[bN,this,Option.bind_some]
  show bu P (do pure (Value.bool (←Op.equal t (.bool a) (.bool b))))=_
  rw[bN,he];rfl
 ·have:bu P (eqGuard .neq t xo yo (.bool a) (.bool b))=some ():=rfl
  rw[bN,this,Option.bind_some]
  show bu P (do pure (Value.bool (!(←Op.equal t (.bool a) (.bool b)))))=_
  rw[bN,he];rfl
@[simp] theorem MR{P:Program}{t:TypeId}(h:isBool P t=true)(xo yo:Operand)(a b:Bool):aE P .eql t xo yo (some (aB a)) (some (aB b))=some (aB (a == b),[]):=by
 simp only[aE,FT,lG,fw,Hb h .eql (.inl rfl),Bool.false_and,Bool.or_self,Bool.false_eq_true,if_false,Option.bind_some,hX,scalar,if_true,cJ,Option.map_some]
@[simp] theorem X8(P:Program)(d:Bool)(g:cV)(r:Ref)(ts:Array TypeId)(k:IntKind)(a b:Int):aM P d g r .min ts [.v (.int k a),.v (.int k b)]=some (.v (.int k (if b<a then b else a)),[]):=id rfl
@[simp] theorem X9(P:Program)(d:Bool)(g:cV)(r:Ref)(ts:Array TypeId)(k:IntKind)(a b:Int):aM P d g r .max ts [.v (.int k a),.v (.int k b)]=some (.v (.int k (if b>a then b else a)),[]):=id rfl
theorem Own.cons{z:Nat}{es:List AV}{H:ab}{x:AV}(h:Own z es H x)(hF:Fr H)(d t:Nat)(b:Option bJ):Own z es ((⟨d,t,H.gen d t,0⟩,b) :: H) x:=by
 rcases h with ⟨rfl,rfl⟩ | ⟨r,rfl,hr⟩
 ·exact Ip z _
 ·refine .inr ⟨r,rfl,?_⟩
  rw[ab.oz,if_neg (o3 hF (by rw[hr];rfl) d t 0)]
  exact hr
theorem Own.EW{P:Program}{t z:Nat}(h:(dU P t).bind (aU P)=some z){H:ab}{es:List AV}{x:AV}(hx:Own z es H x){n:Nat}(hn:n≤es.length) :
 ∃y y',eE P H.get t (some x) (some none) (some (some (n:Int))) (some none)=some (y,[])∧Ab.view H.get depth y=some y'∧Sl z (es.take n) y':=by
 rcases hx with ⟨rfl,rfl⟩ | ⟨r,rfl,hr⟩
 ·refine⟨dg,dg,?_,rfl,.inl ⟨rfl,by simp⟩⟩
  rw[AA (by rw[h];rfl)]
  have:n=0:=by simpa using hn
  subst this;rfl
 ·refine⟨.cG r 0 n none,.cm z (es.take n) none,?_,?_,Sl.mk z _⟩
  ·simp only[eE,hr,h,if_true,bounds,Option.getD_none,Option.getD_some,Int.le_refl,true_and]
   rw[if_pos ⟨by omega,by omega⟩]
   simp
  ·rw[bK,z3 hr,if_pos ⟨rfl,by simpa using hn⟩,List.drop_zero]
end Go.Ab
namespace Go.Ab
@[simp] theorem Sn(P:Program)(r:Ref)(e:TypeId){z:AV}(hz:ej P e=some z)(h0:0<(aU P e).getD 0):bV P r e=if some z.cells.length=aU P e∧z.cells.all AV.one=true then some (.ptr r 0 0,[⟨(aU P e).getD 0,[z],false,false⟩]) else none:=by
 unfold bV
 rw[hz]
 cases h:aU P e with
 | none=>simp
 | some n=>rw[h]at h0;simp only[Option.getD_some]at h0;simp[h0]
@[simp] theorem Lg{P:Program}{t f:Nat}(h:0<((aK P t f).getD (0,0)).2)(r:Ref)(i j:Nat):aa P t (some (.ptr r i j)) f=some (.ptr r i (j+((aK P t f).getD (0,0)).1),[]):=by
 unfold aa
 cases hf:aK P t f with
 | none=>rw[hf]at h;simp at h
 | some p=>obtain⟨o,s⟩:=p;rw[hf]at h;simp only[Option.getD_some]at h ⊢;rw[if_pos h]
@[simp] theorem Ko{P:Program}{t f:Nat}(h:0<((aK P t f).getD (0,0)).2)(n:Nat)(es:List AV)(i j:Nat):aa P t (some (.iptr n es i j)) f=some (.iptr n es i (j+((aK P t f).getD (0,0)).1),[]):=by
 unfold aa
 cases hf:aK P t f with
 | none=>rw[hf]at h;simp at h
 | some p=>obtain⟨o,s⟩:=p;rw[hf]at h;simp only[Option.getD_some]at h ⊢;rw[if_pos h]
def Io(cs:List AV)(off n:Nat)(ag:Bool):Option AV:=if ag then (if off+n≤cs.length then some (.agg ((cs.drop off).take n)) else none) else cs[off]?
@[simp] theorem W4(cs:List AV)(off n:Nat):Io cs off n true=if off+n≤cs.length then some (.agg ((cs.drop off).take n)) else none:=id rfl
@[simp] theorem W5(cs:List AV)(off n:Nat):Io cs off n false=cs[off]?:=id rfl
@[simp] theorem Qp{P:Program}{t f:Nat}(h:(((lx P t f).bind fun p=>aU P p.2).isSome&&((lx P t f).bind fun p=>dR P p.2).isSome)=true)(cs:List AV) :
 ke P t (some (.agg cs)) f=cJ (Io cs ((lx P t f).getD (0,0)).1 ((aU P ((lx P t f).getD (0,0)).2).getD 0) ((dR P ((lx P t f).getD (0,0)).2).getD false)):=by
 unfold ke
 cases hf:lx P t f with
 | none=>rw[hf]at h;simp at h
 | some p =>
  obtain⟨o,ft⟩:=p
  rw[hf]at h
  simp only[Option.bind_some,Bool.and_eq_true]at h
  obtain⟨n,hn⟩:=Option.isSome_iff_exists.1 h.1
  obtain⟨b,hb⟩:=Option.isSome_iff_exists.1 h.2
  simp only[Option.getD_some,tB,hn,hb]
  cases b<;>rfl
@[simp] theorem MM(cs:List AV)(new:List AV)(h:new.length=cs.length):gK [AV.agg cs] 0 0 new=some [AV.agg new]:=by
 simp[gK,nD,patch,h]
@[simp low] theorem M8(cs:List AV)(j:Nat)(new:List AV)(h:j+new.length≤cs.length):gK [AV.agg cs] 0 j new=some [AV.agg (patch cs j new)]:=by
 simp[gK,nD,h]
@[simp] theorem UI(cs:List AV)(j:Nat)(new:List AV):patch cs j new=cs.take j++new++cs.drop (j+new.length):=id rfl
@[simp] theorem NN{P:Program}{t:TypeId}(ha:(dR P t).isSome=true)(hn:(aU P t).isSome=true)(H:ab)(r:Ref)(i j:Nat):da P H (.ptr r i j) t=LQ (H.get r) i j ((aU P t).getD 0) ((dR P t).getD false):=by
 obtain⟨a,ha⟩:=Option.isSome_iff_exists.1 ha
 obtain⟨n,hn⟩:=Option.isSome_iff_exists.1 hn
 simp only[da,ha,hn,Option.getD_some]
 rfl
@[simp] theorem MQ{P:Program}{t:TypeId}{z:List AV}(hz:ej P t=some (.agg z))(ht:gZ P t=none)(hp:(fa P t).isSome=true)(vs:List (Nat × AV)) :
 cb P t (some vs)=(jP (fun i=>((fa P t).getD [])[i]?) z vs).map fun cs=>(.agg cs,[]):=by
 obtain⟨ps,hp⟩:=Option.isSome_iff_exists.1 hp
 simp only[cb,hz,ht,hp,Option.getD_some]
@[simp] theorem NQ(vs:List AV)(i:Nat):aH (some (.tup vs)) i=cJ vs[i]?:=id rfl
@[simp] theorem UD(r:Ref)(i j:Nat):jD (some (.ptr r i j))=some (.ptr r i j,[]):=id rfl
@[simp] theorem ab.Og(d t:Nat):ab.gen [] d t=0:=id rfl
@[simp] theorem ab.F6(d t g k:Nat)(b:Option bJ)(H:ab)(d' t':Nat):ab.gen ((⟨d,t,g,k⟩,b) :: H) d' t'=if d=d'∧t=t' then g+1 else ab.gen H d' t':=id rfl
end Go.Ab
namespace Go.Ab
@[simp] theorem FG{α β:Type}(f:α→Option β)(a:α)(l:List α):List.mapM f (a :: l)=(f a).bind fun b=>(List.mapM f l).map (b :: ·):=by
 rw[List.mapM_cons];cases f a<;>cases List.mapM f l<;>rfl
@[simp] theorem Qj{α:Type}(f:α→AV)(l:List α)(i j n:Nat)(ag:Bool):eQ (l.map f) i j n ag=(l[i]?).bind fun a=>eQ [f a] 0 j n ag:=by
 unfold eQ
 rw[List.getElem?_map]
 cases l[i]?<;>rfl
theorem drop_cons{α:Type}{l:List α}{k:Nat}{a:α}{s:List α}(h:l.drop k=a :: s) : ∃hk:k<l.length,l[k]=a∧l.drop (k+1)=s∧l[k]?=some a:=by
 have hk:k<l.length:=by
  have:=congrArg List.length h
  simp at this;omega
 rw[List.drop_eq_getElem_cons hk]at h
 cases h
 exact⟨hk,rfl,rfl,List.getElem?_eq_getElem hk⟩
theorem drop_nil{α:Type}{l:List α}{k:Nat}(h:l.drop k=[])(hk:k≤l.length):k=l.length:=by
 have:=congrArg List.length h
 simp at this;omega
theorem kp{b:Bool}{q:fY}{K:AV→Prop}{m:Mk (q,K)}(h1:b=true→ak q K)(h2:b=false→K AV.undef):gQ (aB b) true q K m:=by
 cases b
 ·exact(Vq q K m).2 (h2 rfl)
 ·exact(Vo q K m).2 (h1 rfl)
theorem kq{b:Bool}{q:fY}{K:AV→Prop}{m:Mk (q,K)}(h1:b=true→K AV.undef)(h2:b=false→ak q K):gQ (aB b) false q K m:=by
 cases b
 ·exact(Vr q K m).2 (h2 rfl)
 ·exact(Vp q K m).2 (h1 rfl)
theorem kn{b:Bool}{H:ab}{q:dq}{K:AV→ab→Prop}{m:Mk (q,K)}(h1:b=true→aN q K)(h2:b=false→K AV.undef H):gW (aB b) true H q K m:=by
 cases b
 ·exact(Vm H q K m).2 (h2 rfl)
 ·exact(Vk H q K m).2 (h1 rfl)
theorem ko{b:Bool}{H:ab}{q:dq}{K:AV→ab→Prop}{m:Mk (q,K)}(h1:b=true→K AV.undef H)(h2:b=false→aN q K):gW (aB b) false H q K m:=by
 cases b
 ·exact(Vn H q K m).2 (h2 rfl)
 ·exact(Vl H q K m).2 (h1 rfl)
theorem ah{H:ab}(hF:Fr H){q:Ref}(h:(H.get q).isSome=true)(d t k:Nat):((⟨d,t,H.gen d t,k⟩:Ref)=q)=False :=
 eq_false (o3 hF h d t k)
theorem ai{H:ab}(hF:Fr H){q:Ref}(h:(H.get q).isSome=true)(d t k:Nat):(q=(⟨d,t,H.gen d t,k⟩:Ref))=False :=
 eq_false fun e=>o3 hF h d t k e.symm
theorem ar{H:ab}(hF:Fr H)(d t k:Nat):H.get ⟨d,t,H.gen d t,k⟩=none:=hF _ _ _ _ (Nat.le_refl _)
theorem aq{H:ab}(hF:Fr H){d t g:Nat}(hg:g=H.gen d t)(b:Option bJ):Fr ((⟨d,t,g,0⟩,b) :: H):=by subst hg;exact hF.cons d t b
theorem aD{H:ab}(hF:Fr H){r:Ref}(hr:(H.get r).isSome=true)(b:Option bJ):Fr (H.put r b):=hF.put b hr
theorem ad{H:ab}{r:Ref}(hr:(H.get r).isSome=true)(b:Option bJ)(d t:Nat):(H.put r b).gen d t=H.gen d t:=ab.jO H r b hr d t
theorem J1{E:Env}{f:FuncId}(hm:tI (E.mode f)=false)(x:AV)(H:ab)(y:AV):handed E f x H y↔view H.get depth x=some y:=by
 unfold handed
 rw[if_neg (by simpa using hm)]
theorem F4{E:Env}{f:FuncId}(hm:tI (E.mode f)=true)(x:AV)(H:ab)(y:AV):handed E f x H y↔(aG H.get depth x).Nodup∧dD H.get depth x=some y:=by
 unfold handed
 rw[if_pos (by simpa using hm)]
def tW(wk:Bool)(H:ab)(r:Ref)(refs:List Ref)(o:Option AV):dq:=match o with
 | some y=>if flat depth y||gN H.get refs then some ((aL r depth y []).1,keyed r 0 (aL r depth y []).2 H)
  else if wk then some ((aL r depth y []).1,keyed r 0 (aL r depth y []).2 (cy H refs)) else none
 | none=>none
noncomputable def Mo(E:Env)(wk:Bool)(H:ab)(r:Ref)(refs:List Ref)(f:FuncId)(o:Option (List AV)):dq:=match o with
 | some xs=>tW wk H r refs (bj E f xs)
 | none=>none
theorem bw{E:Env}(wk:Bool)(dep:Nat)(H:ab)(r:Ref)(f:FuncId)(hm:(E.mode f == 2)=false)(hm3:(E.mode f == 3)=false)(first captured args:List AV) :
 bm E wk (bj E) (bR E dep) H r (some (.fn (.func f) first captured)) args=Mo E wk H r (ca H.get (first++args++captured)) f ((first++args++captured).mapM (view H.get depth)):=by
 have hm':E.mode f≠2:=by simpa using hm
 simp only[bm,gR,jU,if_neg hm',hm3,Bool.false_and,Bool.or_false]
 cases(first++args++captured).mapM (view H.get depth) with
 | none=>cases wk<;>rfl
 | some xs =>
  dsimp only[Mo]
  cases bj E f xs with
  | none=>cases wk<;>rfl
  | some y =>
   dsimp only[tW,Option.map_some]
   cases hc:(flat depth y||gN H.get (ca H.get (first++args++captured))) with
   | true=>rfl
   | false=>cases wk<;>rfl
theorem FX(r:Ref)(n:Nat)(t:TypeId)(x:AV)(bs:List bJ):aL r (n+1) (.ifc t x) bs=(.ifc t (aL r n x bs).1,(aL r n x bs).2):=id rfl
@[simp] theorem Rt(E:Env)(wk:Bool)(H:ab)(r:Ref)(refs:List Ref)(f:FuncId)(xs:List AV):Mo E wk H r refs f (some xs)=tW wk H r refs (bj E f xs):=id rfl
@[simp] theorem Ru(wk:Bool)(H:ab)(r:Ref)(refs:List Ref)(y:AV)(h:flat depth y=true):tW wk H r refs (some y)=some (y,H):=by
 simp only[tW,h,Bool.true_or,if_true]
 rw[qo r depth depth y [] h]
 rfl
theorem bo(wk:Bool)(H:ab)(r:Ref)(y:AV):tW wk H r [] (some y)=some ((aL r depth y []).1,keyed r 0 (aL r depth y []).2 H):=by
 simp only[tW,gN,List.all_nil,Bool.or_true,if_true]
theorem bM(wk:Bool)(H:ab)(r:Ref)(refs:List Ref)(y:AV)(h:gN H.get refs=true):tW wk H r refs (some y)=some ((aL r depth y []).1,keyed r 0 (aL r depth y []).2 H):=by
 simp only[tW,h,Bool.or_true,if_true]
@[simp] theorem Yi(n:Nat)(x:Value):flat (n+1) (.v x)=true:=id rfl
@[simp] theorem Yj(n:Nat)(x:UInt8):flat (n+1) (a8 x)=true:=id rfl
@[simp] theorem Xk(n:Nat)(x:UInt32):flat (n+1) (aF x)=true:=id rfl
@[simp] theorem Vv(n:Nat)(cs:List AV):flat (n+1) (.agg cs)=cs.all (flat n):=id rfl
@[simp] theorem SU(n:Nat)(cs:List AV):flat (n+1) (.tup cs)=cs.all (flat n):=id rfl
@[simp] theorem Vt(n:Nat)(t:TypeId)(x:AV):flat (n+1) (.ifc t x)=flat n x:=id rfl
@[simp] theorem Vu(n z:Nat)(es:List AV)(c:Option Nat):flat (n+1) (.fsl z es c)=false:=id rfl
@[simp] theorem O0(g:cV):ca g []=[]:=id rfl
@[simp] theorem NM(g:cV)(x:AV)(xs:List AV):ca g (x :: xs)=aG g depth x++ca g xs:=id rfl
@[simp] theorem P3(g:cV)(n:Nat)(x:Value):aG g n (.v x)=[]:=by cases n<;>rfl
@[simp] theorem P4(g:cV)(n:Nat)(x:UInt8):aG g n (a8 x)=[]:=by cases n<;>rfl
@[simp] theorem OR(g:cV)(n:Nat)(x:UInt32):aG g n (aF x)=[]:=by cases n<;>rfl
@[simp] theorem Nf(g:cV)(n z:Nat)(es:List AV)(c:Option Nat):aG g n (.cm z es c)=[]:=by cases n<;>rfl
@[simp] theorem MN(g:cV)(n z:Nat)(es:List AV)(i j:Nat):aG g n (.iptr z es i j)=[]:=by cases n<;>rfl
@[simp] theorem Ng(g:cV)(n:Nat)(cs:List AV):aG g (n+1) (.agg cs)=cs.flatMap (aG g n):=id rfl
@[simp] theorem Nb(g:cV)(n:Nat)(cs:List AV):aG g (n+1) (.tup cs)=cs.flatMap (aG g n):=id rfl
@[simp] theorem Nd(g:cV)(n:Nat)(r:Ref)(o l:Nat)(c:Option Nat):aG g (n+1) (.cG r o l c)=[r]:=id rfl
@[simp] theorem OQ(g:cV)(n:Nat)(f:Fn)(a b:List AV):aG g (n+1) (.fn f a b)=a.flatMap (aG g n)++b.flatMap (aG g n):=id rfl
def Ik(g:cV)(n:Nat)(o:Option bJ):List Ref:=match o with
 | some b=>if b.arr then [] else b.es.flatMap (aG g n)
 | none=>[]
@[simp] theorem Nc(g:cV)(n:Nat)(r:Ref)(i j:Nat):aG g (n+1) (.ptr r i j)=r :: Ik g n (g r):=id rfl
@[simp] theorem NX(g:cV)(n:Nat)(b:bJ):Ik g n (some b)=if b.arr then [] else b.es.flatMap (aG g n):=id rfl
def OT(o l:Nat)(c:Option Nat)(b:Option bJ):Option AV:=match b with
 | some b=>if b.arr=true∧o+l≤b.es.length then some (.cm b.esz ((b.es.drop o).take l) c) else none
 | none=>none
@[simp] theorem RJ(g:cV)(n:Nat)(r:Ref)(o l:Nat)(c:Option Nat):view g (n+1) (.cG r o l c)=OT o l c (g r):=id rfl
@[simp] theorem P6(o l:Nat)(c:Option Nat)(b:bJ):OT o l c (some b)=if b.arr=true∧o+l≤b.es.length then some (.cm b.esz ((b.es.drop o).take l) c) else none:=id rfl
def OS(g:cV)(n i j:Nat)(b:Option bJ):Option AV:=match b with
 | some b=>if b.arr then some (.iptr b.esz b.es i j) else (b.es.mapM (view g n)).map fun es => .iptr b.esz es i j
 | none=>none
@[simp] theorem RI(g:cV)(n:Nat)(r:Ref)(i j:Nat):view g (n+1) (.ptr r i j)=OS g n i j (g r):=id rfl
@[simp] theorem P5(g:cV)(n i j:Nat)(b:bJ):OS g n i j (some b)=if b.arr then some (.iptr b.esz b.es i j) else (b.es.mapM (view g n)).map fun es => .iptr b.esz es i j:=id rfl
@[simp] theorem V5(g:cV)(n:Nat)(f:Fn)(a b:List AV):view g (n+1) (.fn f a b)=(a.mapM (view g n)).bind fun a=>(b.mapM (view g n)).map fun b => .fn f a b:=by
 rw[view]
 cases a.mapM (view g n)<;>cases b.mapM (view g n)<;>rfl
@[simp] theorem Vf(r:Ref)(n:Nat)(x:Value)(bs:List bJ):aL r n (.v x) bs=(.v x,bs):=by cases n<;>rfl
@[simp] theorem Vg(r:Ref)(n:Nat)(x:UInt8)(bs:List bJ):aL r n (a8 x) bs=(a8 x,bs):=by cases n<;>rfl
@[simp] theorem SP(r:Ref)(n:Nat)(x:UInt32)(bs:List bJ):aL r n (aF x) bs=(aF x,bs):=by cases n<;>rfl
@[simp] theorem Q1(r:Ref)(n z:Nat)(es:List AV)(c:Option Nat)(bs:List bJ):aL r n (.cm z es c) bs=(.cm z es c,bs):=by cases n<;>rfl
@[simp] theorem Q2(r:Ref)(n z:Nat)(es:List AV)(c:Option Nat)(bs:List bJ)(hz:z≠0):aL r (n+1) (.fsl z es c) bs=(.cG { r with k:=bs.length} 0 es.length c,bs++[⟨z,es,true,false⟩]):=by
 simp only[aL,if_neg hz]
def o4(r:Ref)(n:Nat):List AV→List AV→List bJ→List AV × List bJ
 | [],acc,bs=>(acc,bs)
 | c :: cs,acc,bs=>o4 r n cs (acc++[(aL r n c bs).1]) (aL r n c bs).2
theorem A8(r:Ref)(n:Nat)(cs:List AV) : ∀(acc:List AV)(bs:List bJ),cs.foldl (fun(p:List AV × List bJ) c=>let (y,bs):=aL r n c p.2;(p.1++[y],bs)) (acc,bs)=o4 r n cs acc bs:=by
 induction cs with
 | nil=>intro acc bs;rfl
 | cons c cs ih=>intro acc bs;rw[List.foldl_cons];exact ih _ _
@[simp] theorem Q3(r:Ref)(n:Nat)(cs:List AV)(bs:List bJ):aL r (n+1) (.agg cs) bs=(.agg (o4 r n cs [] bs).1,(o4 r n cs [] bs).2):=by
 rw[←A8];rfl
@[simp] theorem Q0(r:Ref)(n:Nat)(cs:List AV)(bs:List bJ):aL r (n+1) (.tup cs) bs=(.tup (o4 r n cs [] bs).1,(o4 r n cs [] bs).2):=by
 rw[←A8];rfl
@[simp] theorem O5(r:Ref)(n:Nat)(acc:List AV)(bs:List bJ):o4 r n [] acc bs=(acc,bs):=id rfl
@[simp] theorem Oc(r:Ref)(n:Nat)(c:AV)(cs acc:List AV)(bs:List bJ):o4 r n (c :: cs) acc bs=o4 r n cs (acc++[(aL r n c bs).1]) (aL r n c bs).2:=id rfl
@[simp] theorem MV(H:ab):cy H []=H:=id rfl
def IG(H:ab)(r:Ref)(b:Option bJ):ab:=match b with
 | some b=>H.put r (some { b with iQ:=true})
 | none=>H
@[simp] theorem L2(H:ab)(r:Ref)(rs:List Ref):cy H (r :: rs)=cy (IG H r (H.get r)) rs:=by
 show(match H.get r with | some b=>cy (H.put r (some { b with iQ:=true})) rs | none=>cy H rs)=_
 cases H.get r<;>rfl
@[simp] theorem Oh(H:ab)(r:Ref)(b:bJ):IG H r (some b)=H.put r (some { b with iQ:=true}):=id rfl
def IJ(l:Nat)(c:Option Nat)(b:Option bJ):Option AV:=match b with
 | some b=>if b.arr=true∧l≤b.es.length then some (if b.iQ then .cm b.esz (b.es.take l) c else .fsl b.esz (b.es.take l) c) else none
 | none=>none
@[simp] theorem Re(g:cV)(n:Nat)(r:Ref)(l:Nat)(c:Option Nat):dD g (n+1) (.cG r 0 l c)=IJ l c (g r):=id rfl
@[simp] theorem Ow(l:Nat)(c:Option Nat)(b:bJ):IJ l c (some b)=if b.arr=true∧l≤b.es.length then some (if b.iQ then .cm b.esz (b.es.take l) c else .fsl b.esz (b.es.take l) c) else none:=id rfl
@[simp] theorem Vw(g:cV)(n:Nat)(x:Value):dD g (n+1) (.v x)=some (.v x):=id rfl
@[simp] theorem Rf(g:cV)(n:Nat)(cs:List AV):dD g (n+1) (.agg cs)=(cs.mapM (dD g n)).map .agg:=id rfl
@[simp] theorem Rd(g:cV)(n:Nat)(cs:List AV):dD g (n+1) (.tup cs)=(cs.mapM (dD g n)).map .tup:=id rfl
theorem Sl.idx{z:Nat}{es:List AV}{x:AV}(h:Sl z es x){P:Program}{t:TypeId}(ht:(dU P t).bind (aU P)=some z)(g:cV)(kd:IntKind)(k:Int) :
 aQ P g t (some x) (some (.v (.int kd k)))=if 0≤k∧k<es.length then some (.iptr z es k.toNat 0,[]) else none:=by
 rcases h with ⟨rfl,rfl⟩ | ⟨c,rfl,_⟩
 ·obtain⟨e,he,hz⟩:=Gc ht
  rw[if_neg (by simp)]
  simp[aQ,intOf,he]
 ·exact AE ht g es c kd k
theorem Sl.exp{z:Nat}{es:List AV}{x:AV}(h:Sl z es x)(g:cV)(n:Nat):dD g (n+1) x=some x:=by
 rcases h with ⟨rfl,rfl⟩ | ⟨c,rfl,_⟩<;>rfl
theorem Sl.imp'{z:Nat}{es:List AV}{x:AV}(h:Sl z es x)(r:Ref)(n:Nat)(bs:List bJ):aL r n x bs=(x,bs):=by
 rcases h with ⟨rfl,rfl⟩ | ⟨c,rfl,_⟩<;>cases n<;>rfl
theorem Sl.r{z:Nat}{es:List AV}{x:AV}(h:Sl z es x):qn x=some es.length∧(∀g n,Ab.view g (n+1) x=some x)∧(∀g n,aG g n x=[])∧x.cells=[x]∧x.one=true∧(∀g n,dD g (n+1) x=some x)∧(∀r n bs,aL r n x bs=(x,bs)) :=
 ⟨h.len,h.view,h.refs,h.cells.1,h.cells.2,h.exp,h.imp'⟩
@[simp] theorem YO(z:Nat)(es es':List AV)(c:Option Nat):Sl z es (.cm z es' c)↔es=es'∧es.length≤c.getD es.length:=by
 constructor
 ·rintro(⟨e,_⟩ | ⟨c',e,h⟩)
  ·cases e
  ·cases e;exact⟨rfl,h⟩
 ·rintro⟨rfl,h⟩;exact .inr ⟨c,rfl,h⟩
@[simp] theorem YN(z:Nat)(es:List AV):Sl z es dg↔es=[]:=by
 constructor
 ·rintro(⟨_,e⟩ | ⟨c',e,h⟩)
  ·exact e
  ·cases e
 ·rintro rfl;exact .inl ⟨rfl,rfl⟩
@[simp] theorem at_nil:dg.at?=none:=id rfl
@[simp] theorem YE(r:Ref)(o n:Nat)(c:Option Nat):(AV.cG r o n c).at?=some r:=id rfl
theorem My{P:Program}{t t' z by':Nat}(hT:Rm P t z by'=true)(hA:BP P t'=true)(wk:Bool)(H:ab)(r:Ref){new:List AV}{x:AV}(hx:OM H.get z new x)(hn:new≠[])(hb:new.length * by'≤cp) :
 cR P wk H r (some t) (some t') dg x=some (.cG r 0 new.length none,({ r with k:=0},some ⟨z,new,true,false⟩) :: H):=by
 obtain⟨e,zz,h1,h2,h3,h4,h5,h6,h7,h8⟩:=iU hT
 have hnew:=hx.lH hT h1
 unfold BP at hA
 simp only[Bool.and_eq_true,Bool.not_eq_true']at hA
 have hun:(P.underlying t').isNone=false:=by cases h:P.underlying t' with | none=>rw[h]at hA;simp at hA | some d=>rfl
 have hc : ¬((P.underlying t').isNone=true∨isInt P t'≠isNum x):=by
  rw[hun,hA.2,hx.num];simp
 have hd : ¬(z≠z∨z=0∨by'=0∨zz.cells.length≠z):=by simp[h5,h7,h8]
 simp only[cR,gk,Option.bind_some,h1,Option.map_some,Option.getD_some,if_neg hc,h2,h3,h4,hnew,if_neg hd,if_neg hn,if_pos hb]
 rfl
theorem Mx{P:Program}{t t' z by':Nat}(hT:Rm P t z by'=true)(hA:BP P t'=true)(H:ab)(r q:Ref)(n:Nat){new es:List AV}{x:AV}(hx:OM H.get z new x){fz:Bool}(hq:H.get q=some ⟨z,es,true,fz⟩)(hn:n=es.length)(hne:new≠[])(hb:(es.length+new.length) * by'≤cp) :
 cR P true H r (some t) (some t') (.cG q 0 n none) x=some (.cG ⟨q.d,q.t,H.gen q.d q.t,0⟩ 0 (es.length+new.length) none,(⟨q.d,q.t,H.gen q.d q.t,0⟩,some ⟨z,es++new,true,fz⟩) :: H.put q none):=by
 subst hn
 obtain⟨e,zz,h1,h2,h3,h4,h5,h6,h7,h8⟩:=iU hT
 have hnew:=hx.lH hT h1
 unfold BP at hA
 simp only[Bool.and_eq_true,Bool.not_eq_true']at hA
 have hun:(P.underlying t').isNone=false:=by cases h:P.underlying t' with | none=>rw[h]at hA;simp at hA | some d=>rfl
 have hc : ¬((P.underlying t').isNone=true∨isInt P t'≠isNum x):=by
  rw[hun,hA.2,hx.num];simp
 have hd : ¬(z≠z∨z=0∨by'=0∨zz.cells.length≠z):=by simp[h5,h7,h8]
 have hd' : ¬(z≠z∨z=0∨by'=0∨new=[]∨zz.cells.length≠z):=by simp[h5,h7,h8,hne]
 have hqa:gk P H.get r (some t) (some t') (.cG q 0 es.length none) x=none:=by
  simp only[gk,Option.bind_some,h1,Option.map_some,Option.getD_some,if_neg hc,h2,h3,h4,hnew,if_neg hd,hq,if_neg hne]
  simp
 simp only[cR,hqa,C2,Fv]
 simp only[jK,Option.bind_some,h1,Option.map_some,Option.getD_some,if_neg hc,h2,h3,h4,hnew,if_neg hd',hq,hb,and_self,if_true,true_and]
def kO(P:Program)(t:TypeId):Nat:=((dU P t).bind (aU P)).getD 0
def pD(P:Program)(t:TypeId):Nat:=((dU P t).bind (kH P)).getD 0
def ij(P:Program)(t:TypeId):AV:=((dU P t).bind (ej P)).getD AV.undef
def m4(P:Program)(t:TypeId):Bool:=Rm P t (kO P t) (pD P t)
def Oz(z:Nat)(o:Option (Nat × List AV)):Option (List AV):=match o with
 | some (z',es)=>if z'=z then some es else none
 | none=>none
def mq(z:Nat)(g:cV)(x:AV):Option (List AV):=match x with
 | .v (.slice none 0 0)=>some []
 | .v (.int _ _)=>none
 | x=>Oz z (cK g x)
@[simp] theorem SY(z:Nat)(g:cV):mq z g dg=some []:=id rfl
@[simp] theorem SZ(z:Nat)(g:cV)(z':Nat)(es:List AV)(c:Option Nat):mq z g (.cm z' es c)=if z'=z then some es else none:=id rfl
def Rg(z o n:Nat)(b:Option bJ):Option (List AV):=match b with
 | some b=>if (b.arr=true∧o+n≤b.es.length)∧b.esz=z then some ((b.es.drop o).take n) else none
 | none=>none
@[simp] theorem S0(z o n:Nat)(b:bJ):Rg z o n (some b)=if (b.arr=true∧o+n≤b.es.length)∧b.esz=z then some ((b.es.drop o).take n) else none:=id rfl
@[simp] theorem SX(z:Nat)(g:cV)(r:Ref)(o n:Nat)(c:Option Nat):mq z g (.cG r o n c)=Rg z o n (g r):=by
 unfold mq Rg
 simp only[cK]
 cases g r with
 | none=>rfl
 | some b =>
  dsimp only
  by_cases h:b.arr=true∧o+n≤b.es.length
  ·by_cases h2:b.esz=z
   ·rw[if_pos h,if_pos ⟨h,h2⟩];simp[Oz,h2]
   ·rw[if_pos h,if_neg (fun e=>h2 e.2)];simp[Oz,h2]
  ·rw[if_neg h,if_neg (fun e=>h e.1)];rfl
theorem Sl.mq{z:Nat}{es:List AV}{x:AV}(h:Sl z es x)(g:cV):Ab.mq z g x=some es:=by
 rcases h with ⟨rfl,rfl⟩ | ⟨c,rfl,_⟩<;>simp
theorem rH{z:Nat}{g:cV}{x:AV}{new:List AV}(h:mq z g x=some new):OM g z new x:=by
 unfold mq at h
 split at h
 ·cases h;exact .inl ⟨rfl,rfl⟩
 ·cases h
 ·rename_i h1 h2
  unfold Oz at h
  split at h
  ·rename_i z' es he
   split at h
   ·rename_i hz
    cases h;subst hz
    refine .inr ⟨?_,fun e=>?_,he⟩
    ·cases x with
     | v u=>cases u with
      | int k n=>exact(h2 _ _ rfl).elim
      | _=>rfl
     | _=>rfl
    ·exact h1 e
   ·cases h
  ·cases h
def VY(z by':Nat)(H:ab)(r:Ref)(new:Option (List AV)):dq:=match new with
 | some new=>if new=[] then some (dg,H) else if new.length * by'≤cp then some (.cG r 0 new.length none,({ r with k:=0},some ⟨z,new,true,false⟩) :: H) else none
 | none=>none
@[simp] theorem Kh(z by':Nat)(H:ab)(r:Ref)(new:List AV):VY z by' H r (some new)=if new=[] then some (dg,H) else if new.length * by'≤cp then some (.cG r 0 new.length none,({ r with k:=0},some ⟨z,new,true,false⟩) :: H) else none:=id rfl
@[simp] theorem RA{P:Program}{t t':TypeId}(hT:m4 P t=true)(hA:BP P t'=true)(wk:Bool)(H:ab)(r:Ref)(x:AV)(hx:(mq (kO P t) H.get x).isSome=true) :
 cR P wk H r (some t) (some t') dg x=VY (kO P t) (pD P t) H r (mq (kO P t) H.get x):=by
 obtain⟨new,hn⟩:=Option.isSome_iff_exists.1 hx
 rw[hn,Kh]
 have hx:=rH hn
 unfold m4 at hT
 by_cases hne:new=[]
 ·rw[if_pos hne]
  subst hne
  obtain⟨e,zz,h1,h2,h3,h4,h5,h6,h7,h8⟩:=iU hT
  have hnew:=hx.lH hT h1
  unfold BP at hA
  simp only[Bool.and_eq_true,Bool.not_eq_true']at hA
  have hun:(P.underlying t').isNone=false:=by cases h:P.underlying t' with | none=>rw[h]at hA;simp at hA | some d=>rfl
  have hc : ¬((P.underlying t').isNone=true∨isInt P t'≠isNum x):=by rw[hun,hA.2,hx.num];simp
  have hd : ¬(kO P t≠kO P t∨kO P t=0∨pD P t=0∨zz.cells.length≠kO P t):=by simp[h5,h7,h8]
  simp only[cR,gk,Option.bind_some,h1,Option.map_some,Option.getD_some,if_neg hc,h2,h3,h4,hnew,if_neg hd,if_true]
  rfl
 ·rw[if_neg hne]
  split
  ·rename_i hb;exact My hT hA wk H r hx hne hb
  ·rename_i hb
   obtain⟨e,zz,h1,h2,h3,h4,h5,h6,h7,h8⟩:=iU hT
   have hnew:=hx.lH hT h1
   unfold BP at hA
   simp only[Bool.and_eq_true,Bool.not_eq_true']at hA
   have hun:(P.underlying t').isNone=false:=by cases h:P.underlying t' with | none=>rw[h]at hA;simp at hA | some d=>rfl
   have hc : ¬((P.underlying t').isNone=true∨isInt P t'≠isNum x):=by rw[hun,hA.2,hx.num];simp
   have hd : ¬(kO P t≠kO P t∨kO P t=0∨pD P t=0∨zz.cells.length≠kO P t):=by simp[h5,h7,h8]
   have hd' : ¬(kO P t≠kO P t∨kO P t=0∨pD P t=0∨new=[]∨zz.cells.length≠kO P t):=by simp[h5,h7,h8,hne]
   have hqa:gk P H.get r (some t) (some t') dg x=none:=by
    simp only[gk,Option.bind_some,h1,Option.map_some,Option.getD_some,if_neg hc,h2,h3,h4,hnew,if_neg hd,if_neg hne,if_neg hb]
   simp only[cR,hqa,C2]
   cases wk
   ·rfl
   ·simp only[Fv,jK,Option.bind_some,h1,Option.map_some,Option.getD_some,if_neg hc,h2,h3,h4,hnew,if_neg hd']
def XM(draw:Bool)(z:Nat)(zz:AV)(H:ab)(r:Ref)(n:Nat)(ps:List (Nat × AV)):dq:=match fJ (List.replicate n zz) ps with
 | some es=>if draw then some (.cm z es (some n),H) else some (.cG r 0 n (some n),({ r with k:=0},some ⟨z,es,true,false⟩) :: H)
 | none=>none
@[simp] theorem XL{P:Program}{t:TypeId}(hT:m4 P t=true)(draw wk:Bool)(H:ab)(r:Ref)(n:Nat)(ps:List (Nat × AV))(hsz:n * kO P t≤16777216)(hv:eH H.get ps=some ps)(hrf:ca H.get (ps.map (·.2))=[])
 (hc:ps.all (fun p=>p.2.cells.length == kO P t&&p.2.cells.all AV.one)=true) (hf:(fJ (List.replicate n (ij P t)) ps).isSome=true) :
 eO P draw wk H r t n (some ps)=XM draw (kO P t) (ij P t) H r n ps:=by
 obtain⟨es,hf⟩:=Option.isSome_iff_exists.1 hf
 unfold m4 at hT
 obtain⟨e,zz,h1,h2,h3,h4,h5,h6,h7,h8⟩:=iU hT
 have hz:(dU P t).bind (ej P)=some zz:=by rw[h1];exact h4
 have hz':ij P t=zz:=by unfold ij;rw[hz];rfl
 rw[hz']at hf ⊢
 rw[Mq hT hsz hv hrf hc hz hf]
 unfold XM
 rw[hf]
@[simp] theorem MW(es:List AV):fJ es []=some es:=id rfl
@[simp] theorem L7(es:List AV)(i:Nat)(v:AV)(ps:List (Nat × AV)):fJ es ((i,v) :: ps)=if i<es.length then fJ (es.set i v) ps else none:=id rfl
@[simp] theorem VQ(draw:Bool)(z:Nat)(zz:AV)(H:ab)(r:Ref)(n:Nat)(ps:List (Nat × AV)):XM draw z zz H r n ps=(fJ (List.replicate n zz) ps).bind fun es=>if draw then some (.cm z es (some n),H) else some (.cG r 0 n (some n),({ r with k:=0},some ⟨z,es,true,false⟩) :: H):=by
 unfold XM;cases fJ (List.replicate n zz) ps<;>rfl
@[simp] theorem MO(g:cV):eH g []=some []:=id rfl
@[simp] theorem Ky(g:cV)(i:Nat)(x:AV)(ps:List (Nat × AV)):eH g ((i,x) :: ps)=(view g depth x).bind fun y=>(eH g ps).map ((i,y) :: ·):=by
 unfold eH
 rw[FG]
 dsimp only
 cases view g depth x<;>rfl
def Vj(z o n:Nat)(k:Int)(r:Ref)(b:Option bJ):fY:=match b with
 | some b=>if 0≤k∧k<n∧z=b.esz then some (.ptr r (o+k.toNat) 0,[]) else none
 | none=>none
@[simp] theorem SQ(z o n:Nat)(k:Int)(r:Ref)(b:bJ):Vj z o n k r (some b)=if 0≤k∧k<n∧z=b.esz then some (.ptr r (o+k.toNat) 0,[]) else none:=id rfl
@[simp] theorem Kn{P:Program}{t:TypeId}(h:m4 P t=true)(g:cV)(r:Ref)(o n:Nat)(c:Option Nat)(kd:IntKind)(k:Int) :
 aQ P g t (some (.cG r o n c)) (some (.v (.int kd k)))=Vj (kO P t) o n k r (g r):=by
 unfold m4 at h
 obtain⟨e,zz,h1,h2,h3,h4,h5,h6,h7,h8⟩:=iU h
 simp only[aQ,Option.bind_some,intOf,h1,h2]
 cases g r<;>rfl
def GQ(H:ab)(r:Ref)(o:Option bJ)(n i j:Nat)(x:AV):dq:=match o with
 | some ⟨z,es,true,false⟩=>if x.cells.length=n∧x.cells.all AV.one=true then (gK es i j x.cells).map fun es=>(AV.undef,H.put r (some ⟨z,es,true,false⟩)) else none
 | some ⟨z,es,false,false⟩=>if x.cells.length=n∧x.cells.all AV.one=true then (gK es i j x.cells).map fun es=>(AV.undef,H.put r (some ⟨z,es,false,false⟩)) else none
 | _=>none
@[simp] theorem Aq(H:ab)(r:Ref)(z:Nat)(es:List AV)(n i j:Nat)(x:AV):GQ H r (some ⟨z,es,true,false⟩) n i j x=if x.cells.length=n∧x.cells.all AV.one=true then (gK es i j x.cells).map fun es=>(AV.undef,H.put r (some ⟨z,es,true,false⟩)) else none:=id rfl
@[simp] theorem P9(H:ab)(r:Ref)(z:Nat)(es:List AV)(n i j:Nat)(x:AV):GQ H r (some ⟨z,es,false,false⟩) n i j x=if x.cells.length=n∧x.cells.all AV.one=true then (gK es i j x.cells).map fun es=>(AV.undef,H.put r (some ⟨z,es,false,false⟩)) else none:=id rfl
def GU(H:ab)(o:Option bJ)(x:AV):Prop:=match o with
 | some ⟨_,_,false,false⟩=>True
 | some ⟨_,_,true,false⟩=>view H.get depth x=some x∧aG H.get depth x=[]
 | _=>False
@[simp] theorem Qb(H:ab)(z:Nat)(es:List AV)(x:AV):GU H (some ⟨z,es,false,false⟩) x=True:=id rfl
@[simp] theorem Qc(H:ab)(z:Nat)(es:List AV)(x:AV):GU H (some ⟨z,es,true,false⟩) x=(view H.get depth x=some x∧aG H.get depth x=[]):=id rfl
theorem Ks{P:Program}{t:TypeId}(hn:(aU P t).isSome=true)(H:ab)(r:Ref)(i j:Nat)(x:AV)(hf:GU H (H.get r) x) :
 aV P H t (some (.ptr r i j)) (some x)=GQ H r (H.get r) ((aU P t).getD 0) i j x:=by
 obtain⟨n,hn⟩:=Option.isSome_iff_exists.1 hn
 simp only[aV,hn,Option.getD_some]
 cases hr:H.get r with
 | none=>rw[hr]at hf;exact hf.elim
 | some b =>
  rw[hr]at hf
  obtain⟨z,es,arr,iQ⟩:=b
  cases iQ with
  | true=>cases arr<;>exact hf.elim
  | false =>
   cases arr with
   | false=>simp only[and_true,Bool.false_eq_true,if_false];rfl
   | true =>
    obtain⟨h1,h2⟩:=hf
    simp only[and_true,if_true,h1,h2,List.not_mem_nil,if_false,cy]
    by_cases hc:x.cells.length=n∧x.cells.all AV.one=true
    ·rw[if_pos hc,Aq,if_pos hc,if_pos hc.2]
    ·rw[if_neg hc,Aq,if_neg hc]
theorem Ez{α:Type}(f:α→AV)(l:List α)(i j:Nat)(new:List AV):gK (l.map f) i j new=(l[i]?).bind fun a=>(nD (f a) j new).map fun e'=>(l.map f).set i e':=by
 unfold gK
 rw[List.getElem?_map]
 cases l[i]?<;>rfl
@[simp] theorem ML(cs:List AV)(j:Nat)(new:List AV):nD (.agg cs) j new=if j+new.length≤cs.length then some (.agg (patch cs j new)) else none:=id rfl
end Go.Ab
namespace Go.Ab
@[simp] theorem Qo(f:Fn)(a b:List AV):rp f (some a) (some b)=some (.fn f a b,[]):=id rfl
attribute [simp] Ks
@[simp] theorem Rc(place:Nat→Option (Nat × Nat))(cells:List AV):jP place cells []=some cells:=id rfl
def PK(place:Nat→Option (Nat × Nat))(cells:List AV)(v:AV)(rest:List (Nat × AV))(p:Option (Nat × Nat)):Option (List AV):=match p with
 | none=>none
 | some (off,size)=>if v.cells.length=size∧off+size≤cells.length then jP place (patch cells off v.cells) rest else none
@[simp] theorem PL(place:Nat→Option (Nat × Nat))(cells:List AV)(i:Nat)(v:AV)(rest:List (Nat × AV)):jP place cells ((i,v) :: rest)=PK place cells v rest (place i):=id rfl
@[simp] theorem Rb(place:Nat→Option (Nat × Nat))(cells:List AV)(v:AV)(rest:List (Nat × AV))(off size:Nat):PK place cells v rest (some (off,size))=if v.cells.length=size∧off+size≤cells.length then jP place (patch cells off v.cells) rest else none:=id rfl
@[simp] theorem UH(r':Ref)(b':Option bJ)(H:ab)(r:Ref)(b:Option bJ):ab.put ((r',b') :: H) r b=if r'=r then (r,b) :: H else (r',b') :: ab.put H r b:=id rfl
@[simp] theorem Nr{α β:Type}(f:α→β)(l:List α):List.take l.length (l.map f)=l.map f:=List.take_of_length_le (by simp)
def MG(z:Nat)(es:List AV)(y:AV):Prop:=(y=dg∧es=[])∨y = .fsl z es none∨(y = .fsl z [] (some 0)∧es=[])
theorem NY(z:Nat):MG z [] dg := .inl ⟨rfl,rfl⟩
@[simp] theorem V1(z:Nat)(es:List AV):MG z es dg↔es=[]:=by
 constructor
 ·rintro(⟨_,e⟩ | e | ⟨e,_⟩)
  ·exact e
  ·cases e
  ·cases e
 ·rintro rfl;exact NY z
@[simp] theorem V2(z:Nat)(es es':List AV):MG z es (.fsl z es' none)↔es=es':=by
 constructor
 ·rintro(⟨e,_⟩ | e | ⟨e,_⟩)
  ·cases e
  ·cases e;rfl
  ·cases e
 ·rintro rfl;exact .inr (.inl rfl)
@[simp] theorem Te(z:Nat)(es:List AV):MG z es (.fsl z [] (some 0))↔es=[]:=by
 constructor
 ·rintro(⟨e,_⟩ | e | ⟨_,e⟩)
  ·cases e
  ·cases e
  ·exact e
 ·rintro rfl;exact .inr (.inr ⟨rfl,rfl⟩)
theorem Gt{P:Program}{t t':TypeId}(hT:m4 P t=true)(hA:BP P t'=true)(wk:Bool)(H:ab)(r q:Ref)(n k:Nat)(x:AV){es new:List AV}{fz:Bool}(hq:H.get q=some ⟨kO P t,es,true,fz⟩)(hx:mq (kO P t) H.get x=some new)(hn:n=es.length)(hk:new=[]∨((es.length+new.length) * pD P t≤cp∧k<es.length+new.length)) :
 cR P wk H r (some t) (some t') (.cG q 0 n (some k)) x=if new=[] then some (.cG q 0 n (some k),H) else some (.cG r 0 (es.length+new.length) none,({ r with k:=0},some ⟨kO P t,es++new,true,false⟩) :: H):=by
 subst hn
 have hx:=rH hx
 unfold m4 at hT
 obtain⟨e,zz,h1,h2,h3,h4,h5,h6,h7,h8⟩:=iU hT
 have hnew:=hx.lH hT h1
 unfold BP at hA
 simp only[Bool.and_eq_true,Bool.not_eq_true']at hA
 have hun:(P.underlying t').isNone=false:=by cases h:P.underlying t' with | none=>rw[h]at hA;simp at hA | some d=>rfl
 have hc : ¬((P.underlying t').isNone=true∨isInt P t'≠isNum x):=by rw[hun,hA.2,hx.num];simp
 have hd : ¬(kO P t≠kO P t∨kO P t=0∨pD P t=0∨zz.cells.length≠kO P t):=by simp[h5,h7,h8]
 by_cases hne:new=[]
 ·subst hne
  simp only[cR,gk,Option.bind_some,h1,Option.map_some,Option.getD_some,if_neg hc,h2,h3,h4,hnew,if_neg hd,hq,if_true]
  simp
 ·obtain⟨hb,hk⟩:=hk.resolve_left hne
  simp only[cR,gk,Option.bind_some,h1,Option.map_some,Option.getD_some,if_neg hc,h2,h3,h4,hnew,if_neg hd,hq,if_neg hne]
  simp only[ne_eq,not_true_eq_false,Bool.true_eq_false,or_self,if_false,Nat.zero_add,Nat.le_refl,hk,hb,and_self,if_true,List.drop_zero,List.take_length]
  rfl
def lV(z by' n:Nat)(wk:Bool)(c:Option Nat)(b:Option bJ)(new:Option (List AV)):Prop:=match b,new with
 | some ⟨z',es,true,_⟩,some new=>z'=z∧n=es.length∧(new=[]∨((es.length+new.length) * by'≤cp∧match c with | none=>wk=true | some k=>k<es.length+new.length))
 | _,_=>False
theorem bx(z by' n:Nat)(wk:Bool)(z':Nat)(es new:List AV)(fz:Bool):lV z by' n wk none (some ⟨z',es,true,fz⟩) (some new)=(z'=z∧n=es.length∧(new=[]∨((es.length+new.length) * by'≤cp∧wk=true))):=id rfl
theorem bH(z by' n:Nat)(wk:Bool)(k z':Nat)(es new:List AV)(fz:Bool):lV z by' n wk (some k) (some ⟨z',es,true,fz⟩) (some new)=(z'=z∧n=es.length∧(new=[]∨((es.length+new.length) * by'≤cp∧k<es.length+new.length))):=id rfl
def OI(z:Nat)(H:ab)(q r:Ref)(n:Nat)(c:Option Nat)(b:Option bJ)(new:Option (List AV)):dq:=match b,new with
 | some b,some []=>some (.cG q 0 n c,H)
 | some b,some new=>match c with
  | none=>some (.cG ⟨q.d,q.t,H.gen q.d q.t,0⟩ 0 (b.es.length+new.length) none,(⟨q.d,q.t,H.gen q.d q.t,0⟩,some ⟨z,b.es++new,true,b.iQ⟩) :: H.put q none)
  | some _=>some (.cG r 0 (b.es.length+new.length) none,({ r with k:=0},some ⟨z,b.es++new,true,false⟩) :: H)
 | _,_=>none
@[simp] theorem Mz(z:Nat)(H:ab)(q r:Ref)(n:Nat)(c:Option Nat)(b:bJ):OI z H q r n c (some b) (some [])=some (.cG q 0 n c,H):=id rfl
theorem dJ(z:Nat)(H:ab)(q r:Ref)(n:Nat)(b:bJ)(new:List AV)(hn:new≠[]):OI z H q r n none (some b) (some new)=some (.cG ⟨q.d,q.t,H.gen q.d q.t,0⟩ 0 (b.es.length+new.length) none,(⟨q.d,q.t,H.gen q.d q.t,0⟩,some ⟨z,b.es++new,true,b.iQ⟩) :: H.put q none):=by
 cases new with
 | nil=>exact(hn rfl).elim
 | cons _ _=>rfl
theorem dI(z:Nat)(H:ab)(q r:Ref)(n k:Nat)(b:bJ)(new:List AV)(hn:new≠[]):OI z H q r n (some k) (some b) (some new)=some (.cG r 0 (b.es.length+new.length) none,({ r with k:=0},some ⟨z,b.es++new,true,false⟩) :: H):=by
 cases new with
 | nil=>exact(hn rfl).elim
 | cons _ _=>rfl
theorem bU{P:Program}{t t':TypeId}(hT:m4 P t=true)(hA:BP P t'=true)(wk:Bool)(H:ab)(r q:Ref)(n:Nat)(c:Option Nat)(x:AV)(hf:lV (kO P t) (pD P t) n wk c (H.get q) (mq (kO P t) H.get x)) :
 cR P wk H r (some t) (some t') (.cG q 0 n c) x=OI (kO P t) H q r n c (H.get q) (mq (kO P t) H.get x):=by
 cases hq:H.get q with
 | none=>rw[hq]at hf;exact hf.elim
 | some b =>
  obtain⟨z',es,arr,fz⟩:=b
  cases hx:mq (kO P t) H.get x with
  | none=>rw[hq,hx]at hf;cases arr<;>exact hf.elim
  | some new =>
   rw[hq,hx]at hf
   cases arr with
   | false=>exact hf.elim
   | true =>
    obtain⟨rfl,rfl,hf⟩:=hf
    cases c with
    | none =>
     by_cases hn:new=[]
     ·subst hn
      rw[Mz]
      have hx':=rH hx
      unfold m4 at hT
      obtain⟨e,zz,h1,h2,h3,h4,h5,h6,h7,h8⟩:=iU hT
      have hnew:=hx'.lH hT h1
      unfold BP at hA
      simp only[Bool.and_eq_true,Bool.not_eq_true']at hA
      have hun:(P.underlying t').isNone=false:=by cases h:P.underlying t' with | none=>rw[h]at hA;simp at hA | some d=>rfl
      have hc : ¬((P.underlying t').isNone=true∨isInt P t'≠isNum x):=by rw[hun,hA.2,hx'.num];simp
      have hd : ¬(kO P t≠kO P t∨kO P t=0∨pD P t=0∨zz.cells.length≠kO P t):=by simp[h5,h7,h8]
      simp only[cR,gk,Option.bind_some,h1,Option.map_some,Option.getD_some,if_neg hc,h2,h3,h4,hnew,if_neg hd,hq,if_true]
      simp
     ·obtain⟨hb,rfl⟩:=hf.resolve_left hn
      rw[dJ _ _ _ _ _ _ _ hn]
      exact Mx (by exact hT) hA H r q _ (rH hx) hq rfl hn hb
    | some k =>
     rw[Gt hT hA wk H r q _ k x hq hx rfl hf]
     split
     ·rename_i hn;subst hn;rfl
     ·rename_i hn;rw[dI _ _ _ _ _ _ _ _ hn]
theorem Sl.LB{z:Nat}{es:List AV}{x:AV}(h:Sl z es x):x=dg∧es=[] ∨∃c,x = .cm z es c:=by
 rcases h with h | ⟨c,h,_⟩
 ·exact .inl h
 ·exact .inr ⟨c,h⟩
@[simp] theorem NV(P:Program)(t:TypeId)(xo yo:Operand)(h:(dU P t).isSome=true)(z:Nat)(es:List AV)(c:Option Nat):aE P .eql t xo yo (some (.cm z es c)) (some dg)=some (aB false,[]):=by
 unfold dU at h
 split at h
 ·rename_i e he
  simp[aE,FT,lG,he]
 ·cases h
def Vs(b:Option bJ):Bool:=match b with | some b=>b.iQ | none=>false
@[simp] theorem SS(b:bJ):Vs (some b)=b.iQ:=id rfl
@[simp] theorem RD(g:cV):gN g []=true:=id rfl
@[simp] theorem PW(g:cV)(r:Ref)(rs:List Ref):gN g (r :: rs)=(Vs (g r)&&gN g rs):=id rfl
theorem bL(H:ab)(r:Ref)(refs:List Ref)(y:AV)(h1:flat depth y=false)(h2:gN H.get refs=false):tW true H r refs (some y)=some ((aL r depth y []).1,keyed r 0 (aL r depth y []).2 (cy H refs)):=by
 simp only[tW,h1,h2,Bool.or_self,Bool.false_eq_true,if_false,if_true]
def m7:AV→AV
 | .cm z [] _ => .fsl z [] (some 0)
 | .cm z es _ => .fsl z es none
 | x=>x
@[simp] theorem Ml(x:Value):m7 (.v x) = .v x:=id rfl
@[simp] theorem HI(z:Nat)(c:Option Nat):m7 (.cm z [] c) = .fsl z [] (some 0):=id rfl
theorem nR(z:Nat){es:List AV}(c:Option Nat)(h:es≠[]):m7 (.cm z es c) = .fsl z es none:=by
 cases es with
 | nil=>exact(h rfl).elim
 | cons _ _=>rfl
theorem pF{z:Nat}{es:List AV}{x:AV}(h:Sl z es x):MG z es (m7 x):=by
 rcases h with ⟨rfl,rfl⟩ | ⟨c,rfl,_⟩
 ·simp
 ·by_cases he:es=[]
  ·subst he;simp
  ·rw[nR z c he];simp
def gY(z:Nat)(es:List AV)(H:ab)(x y:AV):Prop:=(x=y∧Sl z es y) ∨∃r c fz,x = .cG r 0 es.length c∧H.get r=some ⟨z,es,true,fz⟩∧y = .cm z es c∧es.length≤c.getD es.length
theorem gY.sl{z:Nat}{es:List AV}{H:ab}{x y:AV}(h:gY z es H x y):Sl z es y:=by
 rcases h with ⟨_,h⟩ | ⟨r,c,fz,_,_,rfl,h⟩
 ·exact h
 ·exact .inr ⟨c,rfl,h⟩
theorem gY.view{z:Nat}{es:List AV}{H:ab}{x y:AV}(h:gY z es H x y)(n:Nat):Ab.view H.get (n+1) x=some y:=by
 rcases h with ⟨rfl,h⟩ | ⟨r,c,fz,rfl,hr,rfl,_⟩
 ·exact h.view _ _
 ·rw[CF hr rfl]
theorem gY.len{z:Nat}{es:List AV}{H:ab}{x y:AV}(h:gY z es H x y):qn x=some es.length:=by
 rcases h with ⟨rfl,h⟩ | ⟨r,c,fz,rfl,hr,rfl,_⟩
 ·exact h.len
 ·rfl
theorem gY.cells{z:Nat}{es:List AV}{H:ab}{x y:AV}(h:gY z es H x y):x.cells=[x]∧x.one=true:=by
 rcases h with ⟨rfl,h⟩ | ⟨r,c,fz,rfl,hr,rfl,_⟩
 ·exact h.cells
 ·exact⟨rfl,rfl⟩
theorem gY.put{z:Nat}{es:List AV}{H:ab}{x y:AV}(h:gY z es H x y){q:Ref}(hq:x.at?≠some q)(b:Option bJ):gY z es (H.put q b) x y:=by
 rcases h with h | ⟨r,c,fz,rfl,hr,rfl,hc⟩
 ·exact .inl h
 ·refine .inr ⟨r,c,fz,rfl,?_,rfl,hc⟩
  rw[ab.get_put,if_neg (by rintro rfl;exact hq rfl),hr]
theorem gY.cons{z:Nat}{es:List AV}{H:ab}{x y:AV}(h:gY z es H x y)(hF:Fr H)(d t:Nat)(b:Option bJ):gY z es ((⟨d,t,H.gen d t,0⟩,b) :: H) x y:=by
 rcases h with h | ⟨r,c,fz,rfl,hr,rfl,hc⟩
 ·exact .inl h
 ·refine .inr ⟨r,c,fz,rfl,?_,rfl,hc⟩
  rw[ab.oz,if_neg (o3 hF (by rw[hr];rfl) d t 0),hr]
theorem gY.r{z:Nat}{es:List AV}{H:ab}{x y:AV}(h:gY z es H x y):qn x=some es.length∧(∀n,Ab.view H.get (n+1) x=some y)∧x.cells=[x]∧x.one=true:=⟨h.len,h.view,h.cells⟩
theorem gY.of{z:Nat}{es:List AV}{x:AV}(h:Sl z es x)(H:ab):gY z es H x x := .inl ⟨rfl,h⟩
def Kk(z:Nat)(es:List AV)(H:ab)(x:AV)(r:Ref):Prop:=(x=dg∧es=[]) ∨∃c,x = .cG r 0 es.length c∧H.get r=some ⟨z,es,true,false⟩
theorem Kk.len{z:Nat}{es:List AV}{H:ab}{x:AV}{r:Ref}(h:Kk z es H x r):qn x=some es.length:=by
 rcases h with ⟨rfl,rfl⟩ | ⟨c,rfl,_⟩<;>rfl
theorem Kk.cells{z:Nat}{es:List AV}{H:ab}{x:AV}{r:Ref}(h:Kk z es H x r):x.cells=[x]∧x.one=true:=by
 rcases h with ⟨rfl,rfl⟩ | ⟨c,rfl,_⟩<;>exact⟨rfl,rfl⟩
theorem Kk.cG{z:Nat}{es:List AV}{H:ab}{x:AV}{r:Ref}(h:Kk z es H x r){k:Nat}(hk:k<es.length) : ∃c,x = .cG r 0 es.length c∧H.get r=some ⟨z,es,true,false⟩:=by
 rcases h with ⟨rfl,rfl⟩ | h
 ·simp at hk
 ·exact h
def BK(ts:List Nat)(z:Nat)(es:List AV)(H:ab)(x:AV):Prop:=(x=dg∧es=[]) ∨∃t g,t∈ts∧x = .cG ⟨0,t,g,0⟩ 0 es.length none∧H.get ⟨0,t,g,0⟩=some ⟨z,es,true,false⟩
theorem gY.live{z:Nat}{es:List AV}{H:ab}{x y:AV}(h:gY z es H x y){r:Ref}(hr:x.at?=some r):(H.get r).isSome=true:=by
 rcases h with ⟨rfl,h⟩ | ⟨r',c,fz,rfl,hr',rfl,_⟩
 ·rcases h with ⟨rfl,_⟩ | ⟨c,rfl,_⟩<;>cases hr
 ·cases hr;rw[hr'];rfl
theorem gY.mono{z:Nat}{es:List AV}{H H':ab}{x y:AV}(h:gY z es H x y)(hk : ∀r,x.at?=some r→H'.get r=H.get r):gY z es H' x y:=by
 rcases h with h | ⟨r',c,fz,rfl,hr',rfl,hc⟩
 ·exact .inl h
 ·exact .inr ⟨r',c,fz,rfl,by rw[hk r' rfl,hr'],rfl,hc⟩
theorem ae{H:ab}(hF:Fr H){q:Ref}(h:(H.get q).isSome=true)(d t k:Nat):((⟨d,t,H.gen d t+1,k⟩:Ref)=q)=False :=
 eq_false fun e=>by subst e;rw[hF _ _ _ _ (Nat.le_succ _)]at h;cases h
theorem af{H:ab}(hF:Fr H){q:Ref}(h:(H.get q).isSome=true)(d t k:Nat):(q=(⟨d,t,H.gen d t+1,k⟩:Ref))=False :=
 eq_false fun e=>by subst e;rw[hF _ _ _ _ (Nat.le_succ _)]at h;cases h
theorem ao{H:ab}(hF:Fr H)(d t k:Nat):H.get ⟨d,t,H.gen d t+1,k⟩=none:=hF _ _ _ _ (Nat.le_succ _)
theorem an{H:ab}(hF:Fr H){d t g:Nat}(k:Nat)(hg:g=H.gen d t∨g+1=H.gen d t)(b:Option bJ):Fr ((⟨d,t,g,k⟩,b) :: H):=by
 intro d' t' g' k' h
 rw[ab.F6]at h
 rw[ab.oz]
 by_cases he:d=d'∧t=t'
 ·obtain⟨rfl,rfl⟩:=he
  rw[if_pos ⟨rfl,rfl⟩]at h
  rw[if_neg (by intro e;injection e;omega)]
  exact hF _ _ _ _ (by omega)
 ·rw[if_neg he]at h
  rw[if_neg (by intro e;injection e with e1 e2;exact he ⟨e1,e2⟩)]
  exact hF _ _ _ _ h
end Go.Ab
namespace Go.Ab
def IC(by':Nat)(es:List AV)(k:Nat)(new:Option (List AV)):Prop:=match new with
 | some new=>new=[]∨(k<es.length+new.length∧(es.length+new.length) * by'≤cp)
 | none=>False
theorem bh(by':Nat)(es:List AV)(k:Nat)(new:List AV):IC by' es k (some new)=(new=[]∨(k<es.length+new.length∧(es.length+new.length) * by'≤cp)):=id rfl
def QZ(z:Nat)(H:ab)(r:Ref)(es:List AV)(k:Nat)(new:Option (List AV)):dq:=match new with
 | some []=>some (.cm z es (some k),H)
 | some new=>some (.cG r 0 (es.length+new.length) none,({ r with k:=0},some ⟨z,es++new,true,false⟩) :: H)
 | none=>none
@[simp] theorem LU(z:Nat)(H:ab)(r:Ref)(es:List AV)(k:Nat):QZ z H r es k (some [])=some (.cm z es (some k),H):=id rfl
theorem cC(z:Nat)(H:ab)(r:Ref)(es:List AV)(k:Nat)(new:List AV)(hn:new≠[]):QZ z H r es k (some new)=some (.cG r 0 (es.length+new.length) none,({ r with k:=0},some ⟨z,es++new,true,false⟩) :: H):=by
 cases new with
 | nil=>exact(hn rfl).elim
 | cons _ _=>rfl
theorem bX{P:Program}{t t':TypeId}(hT:m4 P t=true)(hA:BP P t'=true)(wk:Bool)(H:ab)(r:Ref)(z k:Nat)(es:List AV)(x:AV)(hz:z=kO P t)(hf:IC (pD P t) es k (mq (kO P t) H.get x)) :
 cR P wk H r (some t) (some t') (.cm z es (some k)) x=QZ z H r es k (mq (kO P t) H.get x):=by
 subst hz
 cases hx:mq (kO P t) H.get x with
 | none=>rw[hx]at hf;exact hf.elim
 | some new =>
  rw[hx]at hf
  have hx':=rH hx
  unfold m4 at hT
  obtain⟨e,zz,h1,h2,h3,h4,h5,h6,h7,h8⟩:=iU hT
  have hnew:=hx'.lH hT h1
  unfold BP at hA
  simp only[Bool.and_eq_true,Bool.not_eq_true']at hA
  have hun:(P.underlying t').isNone=false:=by cases h:P.underlying t' with | none=>rw[h]at hA;simp at hA | some d=>rfl
  have hc : ¬((P.underlying t').isNone=true∨isInt P t'≠isNum x):=by rw[hun,hA.2,hx'.num];simp
  have hd : ¬(kO P t≠kO P t∨kO P t=0∨pD P t=0∨zz.cells.length≠kO P t):=by simp[h5,h7,h8]
  by_cases hn:new=[]
  ·subst hn
   rw[LU]
   simp only[cR,gk,Option.bind_some,h1,Option.map_some,Option.getD_some,if_neg hc,h2,h3,h4,hnew,if_neg hd,if_neg (show ¬(kO P t≠kO P t) by simp),if_true]
   rfl
  ·obtain⟨hk,hb⟩:=hf.resolve_left hn
   rw[cC _ _ _ _ _ _ hn]
   simp only[cR,gk,Option.bind_some,h1,Option.map_some,Option.getD_some,if_neg hc,h2,h3,h4,hnew,if_neg hd,if_neg (show ¬(kO P t≠kO P t) by simp),if_neg hn,if_pos (show k<es.length+new.length∧(es.length+new.length) * pD P t≤cp from⟨hk,hb⟩)]
   rfl
end Go.Ab
namespace Go.Ab
@[simp] theorem SR(n:Nat)(h:n<9223372036854775808):IntKind.i64.wrap (no_index (OfNat.ofNat n):Int)=OfNat.ofNat n:=by
 show IntKind.i64.wrap (n:Int)=n
 exact IntWalk.i64_in _ (by omega)
@[simp] theorem VT(len:Nat)(cap:Option Nat)(lo hi:Option Int):bounds len cap lo hi none=if 0≤lo.getD 0∧lo.getD 0≤hi.getD len∧hi.getD len≤len then some ((lo.getD 0).toNat,(hi.getD len).toNat,cap.map (· - (lo.getD 0).toNat)) else none:=id rfl
@[simp] theorem Ut(k:Nat):min k IntKind.i64.bits=min k 64:=id rfl
@[simp] theorem VZ(l:List (AV × AV))(st bs:List AV)(H:ab):jS l st bs H↔(l.all fun p=>mS p.1 p.2)=true∧st.all (qL H)=true∧bs.all Yw=true:=Iff.rfl
@[simp] theorem Sc(r:Ref)(i j:Nat)(r':Ref)(i' j':Nat):mS (.ptr r i j) (.ptr r' i' j') = !decide (r=r'):=by
 unfold mS;simp[gj]
@[simp] theorem Sb(v:Value)(x:AV):mS x (.v v)=true:=by
 unfold mS;cases gj x<;>rfl
def GP(o:Option bJ):Bool:=match o with
 | some b => !b.arr
 | none=>false
@[simp] theorem OW(b:bJ):GP (some b) = !b.arr:=id rfl
@[simp] theorem Us(H:ab)(r:Ref)(i j:Nat):qL H (.ptr r i j)=GP (H.get r):=by
 cases h:H.get r<;>simp[qL,GP,h]
end Go.Ab
namespace Go.Ab
def be:Nat→Int→List UInt8
 | 0,_=>[]
 | k+1,n=>be k (n / 256)++[u8 n]
def XT(a:Int)(l:List UInt8):Int:=l.foldl (fun a b=>256 * a+(b.toNat:Int)) a
def val(l:List UInt8):Int:=XT 0 l
@[simp] theorem Mu(k:Nat) : ∀n,(be k n).length=k:=by
 induction k with
 | zero=>intro n;rfl
 | succ k ih=>intro n;simp[be,ih]
@[simp] theorem XO(n:Int):be 0 n=[]:=id rfl
theorem Eu(k:Nat) : ∀n:Int,be (k+1) n=u8 (n / 256 ^ k) :: be k n:=by
 induction k with
 | zero=>intro n;simp[be]
 | succ k ih =>
  intro n
  rw[be,ih,be]
  rw[Int.ediv_ediv_of_nonneg (by omega),Int.pow_succ,Int.mul_comm (256 ^ k)]
  simp
@[simp] theorem Ry(k:Nat)(n:Int):be k n=[]↔k=0:=by
 rw[←List.length_eq_zero_iff,Mu]
theorem HQ(n:Int):be 4 n=[u8 (n / 16777216),u8 (n / 65536),u8 (n / 256),u8 n]:=by
 simp[Eu]
theorem YA(n:Int):be 7 n=[u8 (n / 281474976710656),u8 (n / 1099511627776),u8 (n / 4294967296),u8 (n / 16777216),u8 (n / 65536),u8 (n / 256),u8 n]:=by
 simp[Eu]
theorem eC(n:Int)(k:Nat):n.fdiv (no_index (OfNat.ofNat k))=n / OfNat.ofNat k:=Int.fdiv_eq_ediv_of_nonneg _ (Int.natCast_nonneg k)
def JC(z:Nat):List AV→AV
 | []=>dg
 | es => .cm z es none
theorem Iq(z:Nat){es:List AV}(h:es≠[]):JC z es = .cm z es none:=by
 cases es with
 | nil=>exact(h rfl).elim
 | cons _ _=>rfl
theorem Sl.QY{z:Nat}{es:List AV}{x:AV}(h:Sl z es x)(he:es≠[]) : ∃c,x = .cm z es c∧es.length≤c.getD es.length:=by
 rcases h with ⟨_,rfl⟩ | ⟨c,h,hc⟩
 ·exact(he rfl).elim
 ·exact⟨c,h,hc⟩
def QA(z:Nat)(b:Option bJ)(q:fY):fY:=match b with
 | some b=>if z=b.esz then q else none
 | none=>none
@[simp] theorem SA(z:Nat)(b:bJ)(q:fY):QA z (some b) q=if z=b.esz then q else none:=id rfl
@[simp] theorem Ql{P:Program}{t:TypeId}(h:m4 P t=true)(g:cV)(r:Ref)(o n:Nat)(c:Option Nat)(lo hi mx:Option Int) :
 eE P g t (some (.cG r o n c)) (some lo) (some hi) (some mx)=QA (kO P t) (g r) ((bounds n c lo hi mx).map fun p=>(.cG r (o+p.1) (p.2.1 - p.1) p.2.2,[])):=by
 unfold m4 at h
 obtain⟨e,zz,h1,h2,h3,h4,h5,h6,h7,h8⟩:=iU h
 have hz:(dU P t).bind (aU P)=some (kO P t):=by rw[h1];exact h2
 unfold eE
 dsimp only
 rw[hz]
 cases g r with
 | none=>rfl
 | some b=>simp[QA]
@[simp] theorem Rv(l:List UInt8):gJ l=[]↔l=[]:=by simp[gJ]
end Go.Ab
