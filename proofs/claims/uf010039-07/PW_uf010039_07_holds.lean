import PyProof.Rows.All
import Wide.All
import OpenK.KLine
import KE.KEndW
import PyProof.SliceList
import KE.KItem
import PyProof.Ops
import PyProof.P3Statements
import PyProof.Rows.Chain
import PyProof.StrBlock
import PyProof.StrBlockI
import OpenK.KCell
import PyProof.TupleIter
import PyProof.RangeIter
import PyProof.ListOps
import PyProof.StationsW
import PyProof.DictRoads
import PyProof.DictKinds
import PyProof.DictStraight
import PyProof.P3In
import PyProof.IsRules
import PyProof.Rows.TupMore
import PyProof.Rows.Nodes
import PyProof.NoPylong
import PyProof.IsiPairs
import PyProof.IsiNone
import PyProof.WalkInts
import PyProof.ListCopy
import PyProof.RangeFor
import PyProof.Conv_int_bool
import PyProof.Methods
import PyProof.AutoSeq1
import PyProof.MeetsSeq
import PyProof.DictTruth
import PyProof.IsiSeqPairs
import PyProof.DictUpdate
import PyProof.MeetsDict
import PyProof.MeetsDictList
import PyProof.ListIndexNeg
import PyProof.StrLaws
import PyProof.StrOps
import PyProof.StrCalls2
import PyProof.StrCalls3
import PyProof.ConsumeWalk
import PyProof.Rows.ExtendIn
import PyProof.ListStr
import PyProof.ListRange
import PyProof.TupleOps
import PyProof.IsiHeapPairs
import KE.KTryMore
import PyProof.Rows.Own
import PyProof.ExcBaseAll.ValueError
import PyProof.Rows.TupSub
import PyProof.WalksMore
import PyProof.StrWalks
import PyProof.EnumStmt
import PyProof.CompFree
import PyProof.DictDisplay
import KE.KUnpack
import PyProof.RulesAssignMore
import PyProof.Raises
import PyProof.RulesTry
import PyProof.Rows.TopTwo
import PyProof.Rows.CatchBare
import OpenK.KCall
import PyProof.Rows.TupAssign
import OpenK.KOwn
import PyProof.P3Eq
import PySem.Challenge.RW_uf010039_07
set_option Elab.async false
set_option linter.all false
section
namespace Mine
theorem zZ {n m:Nat} (h:Nat.ble n m=true):n≤m:=Nat.le_of_ble_eq_true h
theorem zT {α:Type} {as bs:List α}:(as++bs).length=as.length+bs.length:=List.length_append
theorem yF {α:Type} {l:List α} {i:Nat} {a:α} (h:l[i]? = some a):a∈l:=List.mem_of_getElem? h
theorem zu {α:Type} {l:List α} {i:Nat} (h:i<l.length):l[i]? = some l[i]:=List.getElem?_eq_getElem h
theorem zY {α β:Type} {o:Option α} {f:α→Option β} {b:β} (h:o.bind f=some b):∃ a,o=some a∧f a=some b:=Option.bind_eq_some_iff.mp h
theorem y9 {α β:Type} {o:Option α} {f:α→β} {b:β} (h:o.map f=some b):∃ a,o=some a∧f a=b:=Option.map_eq_some_iff.mp h
theorem y7 {α:Type} {l:List α} {i:Nat} {a:α} (h:l[i]? = some a):∃ q:i<l.length,l[i]=a:=List.getElem?_eq_some_iff.mp h
theorem yn {α:Type} {a:α} {s t:List α} (h:a∈s++t):a∈s∨a∈t:=List.mem_append.mp h
theorem xg {α:Type} {a b:α} (h:a∈[b]):a=b:=List.mem_singleton.mp h
end Mine
end
section
noncomputable section
namespace Mine
open PySem PySem.W
theorem QB {i n:Nat} (h:i≤n):sliceBounds (some (i:Int)) (some (i:Int)) none n=((i:Int),(i:Int),1):=by
 simp [sliceBounds]
 lia
theorem Xp {M:Model} {A:Around} {E:Value→Shared→Prop} {s:Shared} {l:Addr} {items:Array Value} {n:Nat} {Q:Array Value→Shared→Prop} (hl:IsL s.heap l items n) (h:Q items s):wpAny M A (Builtin.List.listItems (.ref l)) Q E s:=by
 unfold Builtin.List.listItems
 exact wpAny_bind (wpAny_seqItems hl rfl (wpAny_pure h))
theorem zCg {M:Model} {A:Around} {E:Value→Shared→Prop} {s:Shared} {l:Addr} {items:Array Value} {n:Nat} {m:String} {Q:Array Value→Shared→Prop} (hl:IsL s.heap l items n) (h:Q items s):wpAny M A (Builtin.List.listAllItems (.ref l) m) Q E s:=by
 unfold Builtin.List.listAllItems
 refine wpAny_bind (wpAny_typeOf hl.isList.typeIs ?_)
 rw [if_pos (by decide)]
 exact Xp hl h
theorem XO {prog:Program} {w:World} {A:Around} {E:Value→Shared→Prop} {s:Shared} {l sl v:Addr} {items new:Array Value} {n m:Nat} {i:Nat} {t u:Tok} {Q:Unit→Shared→Prop} (hl:IsL s.heap l items n) (hv:IsL s.heap v new m) (hne:l≠v)
  (hs:s.heap.IsSliceOf sl (.int i t) (.int i u) .none) (hi:i≤items.size) (hsz:items.size+new.size≤sizeLine)
  (hQ:Q () { s with heap:=s.heap.update l (Obj.mapSeq fun xs=>xs.extract 0 i++new++xs.extract i xs.size) }):wpAny (model prog w) A (setItem (.ref l) (.ref sl) (.ref v)) Q E s:=by
 have hl':s.heap.IsList l items:=hl.isList
 have hv':s.heap.IsList v new:=hv.isList
 obtain ⟨os,hos,hcs,hds⟩:=id hs
 have hTs:s.TypeIs (.ref sl) "slice" := ⟨os,hos,hcs⟩
 unfold setItem
 try with_reducible refine wpAny_holding ?_
 first | refine wpAny_bind (wpAny_pure ?_) | skip
 refine wpAny_bind (wpAny_sequenceKey hl'.typeIs (by decide) ?_)
 refine wpAny_bind (wpAny_callSpecial?_slot (name:=Str.ofString "__setitem__") hl'.typeIs slot_list_setitem
  (wpAny_call_entry slot_list_setitem hl'.typeIs entry_list_setitem ?_ (args_list_setitem _ _ _)))
 show wpAny _ _ (Builtin.List.listSubscript? (.ref sl) >>= _) _ _ s
 refine wpAny_bind ?_
 unfold Builtin.List.listSubscript?
 refine wpAny_bind (wpAny_specialOf hTs slice_no_index ?_)
 simp only [Option.isNone_none,if_true]
 refine wpAny_pure ?_
 show wpAny _ _ (typeOf (.ref sl) >>= _) _ _ s
 refine wpAny_bind (wpAny_typeOf hTs ?_)
 rw [if_neg (by decide)]
 rw [listSliceParts_eq]
 refine wpAny_bind (wpAny_bind (wpAny_field hos hds (x:=.none) rfl (wpAny_bind (wpAny_listPart (k:=none) .none ?_))))
 rw [if_neg (by decide)]
 refine wpAny_bind (wpAny_field hos hds (x:=.int i t) rfl (wpAny_bind (wpAny_listPart (k:=some (i:Int)) (.int _ _) ?_)))
 refine wpAny_bind (wpAny_field hos hds (x:=.int i u) rfl (wpAny_bind (wpAny_listPart (k:=some (i:Int)) (.int _ _) (wpAny_pure ?_))))
 show wpAny _ _ (ite (Builtin.List.listSameRef (.ref l) (.ref v)=true) _ _) _ _ s
 rw [if_neg (by show ¬ (l == v)=true;simpa using hne)]
 refine wpAny_bind (zCg hv (wpAny_bind (Xp hl ?_)))
 refine wpAny_bind (wpAny_of_eq (sliceIndices_raw (some (i:Int)) (some (i:Int)) none items.size (by simp)) ?_)
 rw [QB hi]
 show wpAny _ _ (ite (((1:Int) == 1)=true) _ _) _ _ s
 rw [if_pos (show ((1:Int) == 1)=true from rfl)]
 refine wpAny_bind (wpAny_rule ?_)
 rw [if_neg (by simp [Builtin.List.listTooLong];exact hsz)]
 refine wpAny_bind (wpAny_updateSeq hl rfl ?_ (by lia) ?_)
 ·exact wpAny_bind (wpAny_letGo (wpAny_pure ⟨.none,rfl,wpAny_pure (by
   simpa using hQ)⟩))
 ·simp;lia
end Mine
end
end
section
set_option genSizeOf false
set_option genInjectivity false
noncomputable section
namespace Mine
open PySem
inductive Bi where
 | len | isinstance | int | bool | str | list | range | min | max | any | all | enumerate | tuple
inductive AV where
 | none | bool (b:Bool) | int (i:Int) | str (s:Str)
 | ref (a:Nat) | tup (xs:List AV) | lst (xs:List AV) | range (a b:Int)
 | fn (x:Str) | cls (x:Str) | bi (b:Bi)
inductive AO where
 | list (xs:List AV)
 | inst (cls:Str) (fs:List (Str×AV))
 | dict (kvs:List (Int×AV))
 | dicS (kvs:List (Str×AV))
noncomputable abbrev Hp:=List AO
noncomputable abbrev AFr:=List (Option AV)
set_option genInjectivity true in
inductive Out (α:Type) where
 | stuck
 | ok (a:α) (h:Hp)
noncomputable def Out.bind {α β:Type} (o:Out α) (k:α→Hp→Out β):Out β:=match o with
 | .stuck=>.stuck
 | .ok a h=>k a h
theorem Out.bind_ok {α β:Type} (a:α) (h:Hp) (k:α→Hp→Out β):(Out.ok a h).bind k=k a h:=rfl
noncomputable def Out.bind0 {α β:Type} (o:Out α) (k:α→Hp→Out β):Out β:=match o with
 | .ok a h=>k a h
 | _=>.stuck
theorem Out.bind0_ok {α β:Type} (a:α) (h:Hp) (k:α→Hp→Out β):(Out.ok a h).bind0 k=k a h:=rfl
theorem Out.bind_stuck {α β:Type} (k:α→Hp→Out β):(Out.stuck:Out α).bind k=.stuck:=rfl
noncomputable def Out.of {α:Type} (o:Option α) (h:Hp):Out α:=match o with
 | some a=>.ok a h
 | none=>.stuck
theorem Out.of_some {α:Type} (a:α) (h:Hp):Out.of (some a) h=.ok a h:=rfl
theorem Out.of_none {α:Type} (h:Hp):Out.of (none:Option α) h=.stuck:=rfl
theorem nos {α:Type} {P:Prop} {t:α} (h:(none:Option α)=some t):P:=by cases h
theorem YZ {α:Type} {P:α→Prop} {o:Option {t:α // P t}} {t:α} (h:o.map (·.1)=some t):P t:=by
 obtain ⟨q,_,rfl⟩:=y9 h
 exact q.2
theorem nob {P:Prop} (h:false=true):P:=by cases h
theorem nok {α:Type} {P:Prop} {a:α} {hp:Hp} (h:(Out.stuck:Out α)=.ok a hp):P:=by cases h
theorem zt {α:Type} {p:Prop} [Decidable p] {x y:α} (e:(if p then some x else none)=some y):p∧x=y:=by
 by_cases h:p
 ·rw [if_pos h] at e;cases e;exact ⟨h,rfl⟩
 ·rw [if_neg h] at e;exact nos e
theorem ZB {α:Type} {p:Prop} [Decidable p] {o:Option α} {y:α} (e:(if p then o else none)=some y):p∧o=some y:=by
 by_cases h:p
 ·rw [if_pos h] at e;exact ⟨h,e⟩
 ·rw [if_neg h] at e;exact nos e
inductive Callee where
 | fn (x:Str)
 | cls (x:Str)
 | meth (c x:Str)
noncomputable abbrev CF:=Callee→List AV→Hp→Out AV
noncomputable abbrev XE:=CF→AFr→Hp→Out AV
noncomputable abbrev XT:=CF→AFr→Hp→Out Bool
noncomputable abbrev XEs:=CF→AFr→Hp→Out (List AV)
inductive AFlow where
 | next
 | ret (v:AV)
inductive OS where
 | stuck
 | ok (fl:AFlow) (fr:AFr) (h:Hp)
noncomputable abbrev XS:=CF→AFr→Hp→OS
noncomputable def Out.bindS {α:Type} (o:Out α) (fr:AFr) (k:α→Hp→OS):OS:=match o with
 | .stuck=>.stuck
 | .ok a h=>k a h
theorem Out.bindS_ok {α:Type} (a:α) (h:Hp) (fr:AFr) (k:α→Hp→OS):(Out.ok a h).bindS fr k=k a h:=rfl
noncomputable def yT {α β:Type} (f:α→Option β):List α→Option (List β)
 | []=>some []
 | x::xs=>(match f x,yT f xs with
  | some y,some ys=>some (y::ys)
  | _,_=>none)
noncomputable def yG:AV→Option Int
 | .int i=>some i
 | _=>none
noncomputable def X7:AV→Option Bool
 | .bool i=>some i
 | _=>none
noncomputable def zCd:AV→Option Bi
 | .bi i=>some i
 | _=>none
noncomputable def yj:AV→Option Str
 | .str i=>some i
 | _=>none
noncomputable def yN:AV→Option Nat
 | .ref i=>some i
 | _=>none
noncomputable def wo:AV→Option (List AV)
 | .tup xs=>some xs
 | _=>none
noncomputable def ze (h:Hp) (a:Nat):Option (List AV):=match h[a]? with
 | some (.list xs)=>some xs
 | _=>none
noncomputable def yl (h:Hp) (a:Nat):Option (List (Int×AV)):=match h[a]? with
 | some (.dict kvs)=>some kvs
 | _=>none
noncomputable def qT (h:Hp) (a:Nat):Option (List (Str×AV)):=match h[a]? with
 | some (.dicS kvs)=>some kvs
 | _=>none
noncomputable def yb {K:Type} [DecidableEq K] (kvs:List (K×AV)) (k:K):Option AV:=(kvs.find? fun kv=>kv.1=k).map (·.2)
noncomputable def xT {K:Type} [DecidableEq K] (kvs:List (K×AV)) (k:K) (v:AV):List (K×AV):=if kvs.any (fun kv=>kv.1=k) then kvs.map (fun kv=>if kv.1=k then (kv.1,v) else kv) else kvs++[(k,v)]
noncomputable def Q2:AV→Option PyData
 | .none=>some .none
 | .bool b=>some (.bool b)
 | .int i=>some (.int i)
 | .str s=>if PyData.strOk s then some (.str s) else none
 | _=>none
noncomputable def toD (hp:Hp):Nat→AV→Option PyData
 | 0,v=>Q2 v
 | n+1,v=>(match yN v with
  | some a=>(match ze hp a with
   | some xs=>(yT (toD hp n) xs).map .list
   | none=>none)
  | none=>(match wo v with
   | some xs=>(yT (toD hp n) xs).map .tuple
   | none=>Q2 v))
noncomputable def aEq (h:Hp) (a b:AV):Option Bool:=(toD h 8 a).bind fun x=>(toD h 8 b).map fun y=>PyData.eqv x y
noncomputable def wD (h:Hp):AV→Option (List AV)
 | .lst xs=>some xs
 | .ref a=>ze h a
 | _=>none
noncomputable def small:Nat:=1048576
noncomputable def okI:Int→Bool
 | .ofNat m=>Nat.ble m 4611686018427387903
 | .negSucc _=>false
theorem yQ {k:Int}:okI k=true↔0≤k∧k<4611686018427387904:=by
 cases k with
 | ofNat m =>
  show Nat.ble m 4611686018427387903=true↔_
  rw [Nat.ble_eq]
  show _↔(0:Int)≤(m:Int)∧(m:Int)<4611686018427387904
  lia
 | negSucc m =>
  have:Int.negSucc m<0:=Int.negSucc_lt_zero m
  exact ⟨fun h=>(by cases h),fun h=>absurd h.1 (by lia)⟩
theorem jG {k:Nat} (h:k≤small):okI (k:Int)=true:=by
 have:k≤1048576:=h
 exact yQ.mpr ⟨by lia,by lia⟩
noncomputable def xv:List AV→Option AV
 | [a]=>some a
 | _=>none
noncomputable def jf:List AV→Option (AV×AV)
 | [a,b]=>some (a,b)
 | _=>none
noncomputable def xV (h:Hp):AV→Option Bool
 | .none=>some false
 | .bool b=>some b
 | .int i=>some (decide (i≠0))
 | _=>none
noncomputable def zEg:Operator→Int→Int→Option Int
 | .Add,i,j=>some (i+j)
 | .Sub,i,j=>some (i - j)
 | .Mult,i,j=>if i.natAbs<2 ^ 63∨j.natAbs<2 ^ 63 then some (i * j) else none
 | .FloorDiv,i,j=>if j≠0∧j.natAbs<1073741824 then some (i.fdiv j) else none
 | .Mod,i,j=>if j=0 then none else some (i.fmod j)
 | _,_,_=>none
noncomputable def J5:Operator→Str→Str→Option AV
 | .Add,x,y=>if x.length+y.length≤small then some (.str (x++y)) else none
 | _,_,_=>none
noncomputable def ofP:Option (AV×Hp)→Out AV
 | some p=>.ok p.1 p.2
 | none=>.stuck
noncomputable def Jy (op:Operator) (a:Nat) (b:AV) (h:Hp):Option (AV×Hp):=match op with
 | .Add=>(ze h a).bind fun xs=>(yN b).bind fun y=>(ze h y).bind fun ys=>if xs.length+ys.length≤small then some (.ref h.length,h++[.list (xs++ys)]) else none
 | .Mult=>(ze h a).bind fun xs=>(xv xs).bind fun x=>(yG b).bind fun k=>if 0≤k∧k≤1048576 then some (.ref h.length,h++[.list (List.replicate k.toNat x)]) else none
 | _=>none
noncomputable def Zy (op:Operator) (a b:AV) (h:Hp):Out AV:=match yN a with
 | some a=>ofP (Jy op a b h)
 | none=>Out.of (match yj a with
  | some x=>(yj b).bind fun y=>J5 op x y
  | none=>(yG a).bind fun i=>(yG b).bind fun j=>(zEg op i j).map AV.int) h
noncomputable def isA (a b:AV):Option Bool:=match b with
 | .none=>(match a with
  | .none=>some true
  | .bool _=>some false
  | .int _=>some false
  | .str _=>some false
  | .ref _=>some false
  | _=>Option.none)
 | .bool y=>(X7 a).map fun x=>x == y
 | _=>Option.none
noncomputable def Yl (h:Hp) (v:AV):Option (List PyData):=(yN v).bind fun a=>(ze h a).bind fun xs=>yT (toD h 7) xs
noncomputable def wV (h:Hp) (l x:AV):Option Nat:=(Yl h l).bind fun ds=>(toD h 8 x).bind fun d=>ds.findIdx? fun y=>PyData.eqv y d
noncomputable def jQ (h:Hp) (l x:AV):Option Nat:=(Yl h l).bind fun ds=>(toD h 8 x).map fun d=>ds.countP fun y=>PyData.eqv y d
noncomputable def inA (h:Hp) (a b:AV):Option Bool:=match yN b with
 | some d=>(match yl h d with
  | some kvs=>(yG a).map fun k=>(yb kvs k).isSome
  | none=>(Yl h b).bind fun ds=>(toD h 8 a).map fun x=>ds.any fun y=>PyData.eqv y x)
 | none=>(yj a).bind fun x=>(yj b).map fun y=>Txt.contains y x
noncomputable def z0x (p:Int→Int→Bool) (a b:AV):Option Bool:=(yG a).bind fun i=>(yG b).map fun j=>p i j
noncomputable def neL (h:Hp) (a b:AV):Option Bool:=(yN a).bind fun x=>(ze h x).bind fun xs=>(yN b).bind fun y=>(ze h y).bind fun ys=>if xs.length=ys.length then none else some true
noncomputable def yZ (op:CmpOp) (a b:AV) (h:Hp):Option Bool:=match op with
 | .Eq=>aEq h a b
 | .NotEq=>(match aEq h a b with
  | some r=>some (!r)
  | none=>neL h a b)
 | .Lt=>z0x (fun i j=>decide (i<j)) a b
 | .LtE=>z0x (fun i j=>decide (i≤j)) a b
 | .Gt=>z0x (fun i j=>decide (j<i)) a b
 | .GtE=>z0x (fun i j=>decide (j≤i)) a b
 | .Is=>isA a b
 | .IsNot=>(isA a b).map (!·)
 | .In=>inA h a b
 | .NotIn=>(inA h a b).map (!·)
noncomputable def zBw (v:AV) (t:Bi):Option Bool:=match t with
 | .int=>(match v with
  | .int _=>some true
  | _=>Option.none)
 | .bool=>(match v with
  | .bool _=>some true
  | .int _=>some false
  | _=>Option.none)
 | .str=>(match v with
  | .str _=>some true
  | _=>Option.none)
 | .tuple=>(wo v).map fun _=>true
 | _=>Option.none
inductive Src where
 | imm (xs:List AV)
 | ref (a:Nat)
 | enum (a:Nat)
noncomputable def xB (a b:Int):List AV:=(List.range (b - a).toNat).map fun (k:Nat)=>.int (a+(k:Int))
noncomputable def yt (s:Str):List AV:=s.cps.toList.map fun c=>.str ⟨#[c]⟩
noncomputable def yk (h:Hp):AV→Option (Src×Nat)
 | .tup xs=>some (.imm xs,xs.length)
 | .range a b=>some (.imm (xB a b),(b - a).toNat)
 | .str s=>some (.imm (yt s),s.length)
 | .ref a=>(match h[a]? with
  | some (.list xs)=>some (.ref a,xs.length)
  | _=>none)
 | _=>none
noncomputable def Src.next? (h:Hp):Src→Nat→Option (Option AV)
 | .imm xs,k=>some xs[k]?
 | .ref a,k=>(match h[a]? with
  | some (.list ys)=>some ys[k]?
  | _=>none)
 | .enum a,k=>(match h[a]? with
  | some (.list ys)=>some ((ys[k]?).map fun x=>.tup [.int k,x])
  | _=>none)
noncomputable def z02 (h:Hp) (v:AV):Option Nat:=match yj v with
 | some x=>some x.length
 | none=>(wD h v).map List.length
noncomputable def q5:List AV→Option (List Bool)
 | []=>some []
 | x::xs=>(X7 x).bind fun b=>(q5 xs).map (b::·)
noncomputable def jh:List AV→Option (List Str)
 | []=>some []
 | x::xs=>(yj x).bind fun b=>(jh xs).map (b::·)
noncomputable def zCt:AV→Option (Int×Int)
 | .range a b=>some (a,b)
 | _=>none
noncomputable def zC4 (h:Hp) (v:AV):Option (List AV):=match yN v with
 | some b=>ze h b
 | none=>(match yj v with
  | some s=>some (yt s)
  | none=>(zCt v).map fun p=>xB p.1 p.2)
noncomputable def biO (b:Bi) (args:List AV) (h:Hp):Option (AV×Hp):=match b with
 | .len=>(xv args).bind fun v=>(z02 h v).map fun n=>(.int (n:Nat),h)
 | .isinstance=>(jf args).bind fun p=>(zCd p.2).bind fun t=>(zBw p.1 t).map fun r=>(.bool r,h)
 | .min=>(jf args).bind fun p=>(yG p.1).bind fun i=>(yG p.2).map fun j=>(.int (if j<i then j else i),h)
 | .max=>(jf args).bind fun p=>(yG p.1).bind fun i=>(yG p.2).map fun j=>(.int (if i<j then j else i),h)
 | .int=>(xv args).bind fun v=>(X7 v).map fun b=>(.int (if b then 1 else 0),h)
 | .range=>(match jf args with
  | some p=>(yG p.1).bind fun a=>(yG p.2).bind fun b=>if a.natAbs<2 ^ 62∧b.natAbs<2 ^ 62 then some (.range a b,h) else none
  | none=>(xv args).bind fun v=>(yG v).bind fun b=>if b.natAbs<2 ^ 62 then some (.range 0 b,h) else none)
 | .list=>(xv args).bind fun v=>(zC4 h v).bind fun xs=>if xs.length≤small then some (.ref h.length,h++[.list xs]) else none
 | .any=>(xv args).bind fun v=>(wD h v).bind fun xs=>(q5 xs).map fun bs=>(.bool (bs.any id),h)
 | .all=>(xv args).bind fun v=>(wD h v).bind fun xs=>(q5 xs).map fun bs=>(.bool (bs.all id),h)
 | _=>none
noncomputable def xI (b:Bi) (args:List AV) (h:Hp):Out AV:=ofP (biO b args h)
inductive Me where
 | append | insert | index | count | remove | join | extend | update
noncomputable def qR (xs:List AV) (k:Nat) (v:AV):List AV:=xs.take k++v::xs.drop k
noncomputable def meO (m:Me) (a:Nat) (xs args:List AV) (h:Hp):Option (AV×Hp):=match m with
 | .append=>(xv args).bind fun v=>if xs.length<small then some (.none,h.set a (.list (xs++[v]))) else none
 | .insert=>(jf args).bind fun p=>(yG p.1).bind fun i=>if xs.length<small∧okI i=true then some (.none,h.set a (.list (qR xs i.toNat p.2))) else none
 | .index=>(xv args).bind fun v=>(wV h (.ref a) v).map fun k=>(.int (k:Nat),h)
 | .count=>(xv args).bind fun v=>(jQ h (.ref a) v).map fun k=>(.int (k:Nat),h)
 | .remove=>(xv args).bind fun v=>(yG v).bind fun i=>(yT yG xs).bind fun is=>(is.findIdx? (· == i)).map fun k=>(.none,h.set a (.list (xs.eraseIdx k)))
 | .extend=>(xv args).bind fun v=>(yN v).bind fun b=>(ze h b).bind fun ys=>if xs.length+ys.length<small then some (.none,h.set a (.list (xs++ys))) else none
 | _=>none
noncomputable def zE8 (m:Me) (sep:Str) (args:List AV) (h:Hp):Option (AV×Hp):=match m with
 | .join=>(xv args).bind fun v=>(wD h v).bind fun xs=>(jh xs).bind fun ss=>if (ss.map (·.length)).sum+ss.length * sep.length≤small then some (.str (Str.join sep ss),h) else none
 | _=>none
noncomputable def yP (m:Me) (o:AV) (args:List AV) (h:Hp):Out AV:=ofP (match yj o with
 | some sep=>zE8 m sep args h
 | none=>(yN o).bind fun a=>(ze h a).bind fun xs=>meO m a xs args h)
noncomputable def meD (m:Me) (a:Nat) (args:List AV) (h:Hp):Option (AV×Hp):=match m with
 | .update=>(xv args).bind fun u=>(yN u).bind fun b=>(qT h a).bind fun kvs=>(qT h b).bind fun more=>if kvs.length+more.length≤100∧a≠b then some (.none,h.set a (.dicS (more.foldl (fun acc kv=>xT acc kv.1 kv.2) kvs))) else none
 | _=>none
noncomputable def qj (h:Hp) (o i:AV):Option AV:=match yj i with
 | some x=>(yN o).bind fun a=>(qT h a).bind fun kvs=>yb kvs x
 | none=>(yG i).bind fun k=>match (yN o).bind (yl h) with
 | some kvs=>yb kvs k
 | none=>if okI k then (match yj o with
 | some s=>(s.cps[k.toNat]?).map fun c=>.str ⟨#[c]⟩
 | none=>(match wo o with
  | some xs=>xs[k.toNat]?
  | none=>(wD h o).bind fun xs=>xs[k.toNat]?)) else (yN o).bind fun a=>(ze h a).bind fun xs=>if xs.length≤small∧0≤(xs.length:Int)+k then xs[((xs.length:Int)+k).toNat]? else none
noncomputable def wH {α:Type} (xs:List α) (l:Nat) (u:Option Nat):List α:=match u with
 | some u=>(xs.take u).drop l
 | none=>xs.drop l
noncomputable def xp:AV→Option (Option Nat)
 | .none=>some none
 | .int k=>if okI k then some (some k.toNat) else none
 | _=>none
noncomputable def zEq (h:Hp) (o l u:AV):Option (AV×Hp):=(xp l).bind fun lo=>(xp u).bind fun hi=>(wD h o).bind fun xs=>if xs.length≤small then some (.ref h.length,h++[.list (wH xs (lo.getD 0) hi)]) else none
noncomputable def z0u (h:Hp) (o l u:AV):Out AV:=ofP (zEq h o l u)
noncomputable def zr:XE:=fun _ _ _=>.stuck
noncomputable def z8 (v:AV):XE:=fun _ _ h=>.ok v h
noncomputable def z6 (i:Nat):XE:=fun _ fr h=>match fr[i]? with
 | some (some v)=>.ok v h
 | _=>.stuck
noncomputable def zA (o:Option AV):XE:=fun _ _ h=>Out.of o h
noncomputable def zV (op:Operator) (l r:XE):XE:=fun cf fr h=>(l cf fr h).bind fun a h₁=>(r cf fr h₁).bind fun b h₂=>Zy op a b h₂
noncomputable def X6 (x:XE):XE:=fun cf fr h=>(x cf fr h).bind fun v h₁=>Out.of ((xV h₁ v).map fun b=>.bool (!b)) h₁
noncomputable def Q9 (x:XE):XE:=fun cf fr h=>(x cf fr h).bind fun v h₁=>Out.of ((yG v).map fun i=>.int (-i)) h₁
noncomputable def evs:List XE→XEs
 | []=>fun _ _ h=>.ok [] h
 | x::xs=>fun cf fr h=>(x cf fr h).bind fun v h₁=>(evs xs cf fr h₁).bind fun vs h₂=>.ok (v::vs) h₂
noncomputable def zX (xs:List XE):XE:=fun cf fr h=>(evs xs cf fr h).bind fun vs h₁=>.ok (.ref h₁.length) (h₁++[.list vs])
noncomputable def xU (xs:List XE):XE:=fun cf fr h=>(evs xs cf fr h).bind fun vs h₁=>.ok (.tup vs) h₁
noncomputable def z0z:XE:=fun _ _ h=>.ok (.ref h.length) (h++[.dict []])
noncomputable def jw (ks:List Str) (xs:List XE):XE:=fun cf fr h=>(evs xs cf fr h).bind0 fun vs h₁=>.ok (.ref h₁.length) (h₁++[.dicS (ks.zip vs)])
noncomputable def wX (op:BoolOp):List XE→XE
 | []=>zr
 | [x]=>x
 | x::rest=>fun cf fr h=>(x cf fr h).bind fun v h₁=>match xV h₁ v with
  | some t=>(match op,t with
   | .And,false=>.ok v h₁
   | .Or,true=>.ok v h₁
   | _,_=>wX op rest cf fr h₁)
  | none=>.stuck
noncomputable def wG (left:AV):List CmpOp→List XE→XT
 | [],_=>fun _ _ _=>.stuck
 | op::ops,rs=>(match rs with
  | []=>fun _ _ _=>.stuck
  | r::rs=>(match ops with
   | []=>(match rs with
    | []=>fun cf fr h=>(r cf fr h).bind fun v h₁=>Out.of (yZ op left v h₁) h₁
    | _::_=>fun _ _ _=>.stuck)
   | _::_=>fun cf fr h=>(r cf fr h).bind fun v h₁=>(match yZ op left v h₁ with
    | none=>.stuck
    | some b=>cond b (wG v ops rs cf fr h₁) (.ok false h₁))))
noncomputable def zR (l:XE) (ops:List CmpOp) (rs:List XE):XT:=fun cf fr h=>(l cf fr h).bind fun v h₁=>wG v ops rs cf fr h₁
noncomputable def qq (l:XE) (ops:List CmpOp) (rs:List XE):XE:=fun cf fr h=>(zR l ops rs cf fr h).bind fun b h₁=>.ok (.bool b) h₁
noncomputable def y6 (x:XE):XT:=fun cf fr h=>(x cf fr h).bind fun v h₁=>Out.of (xV h₁ v) h₁
noncomputable def ym (t:XT):XT:=fun cf fr h=>(t cf fr h).bind fun b h₁=>.ok (!b) h₁
noncomputable def zQ (op:BoolOp):List XT→XT
 | []=>fun _ _ h=>.ok (op == .And) h
 | t::ts=>fun cf fr h=>(t cf fr h).bind fun b h₁=>match op,b with
  | .And,false=>.ok false h₁
  | .Or,true=>.ok true h₁
  | _,_=>zQ op ts cf fr h₁
noncomputable def zG (o:XE) (name:Str):XE:=fun cf fr h=>(o cf fr h).bind fun v h₁=>match v with
 | .ref a=>(match h₁[a]? with
  | some (.inst _ fs)=>Out.of (fs.lookup name) h₁
  | _=>.stuck)
 | _=>.stuck
noncomputable def zF (o i:XE):XE:=fun cf fr h=>(o cf fr h).bind fun v h₁=>(i cf fr h₁).bind fun k h₂=>Out.of (qj h₂ v k) h₂
noncomputable def wn (o l u:XE):XE:=fun cf fr h=>(o cf fr h).bind fun v h₁=>(l cf fr h₁).bind fun a h₂=>(u cf fr h₂).bind fun b h₃=>z0u h₃ v a b
noncomputable def zC (f:XE) (args:List XE):XE:=fun cf fr h=>(f cf fr h).bind fun g h₁=>(evs args cf fr h₁).bind0 fun vs h₂=>match g with
 | .fn x=>cf (.fn x) vs h₂
 | .cls x=>cf (.cls x) vs h₂
 | .bi b=>xI b vs h₂
 | _=>.stuck
noncomputable def zB (o:XE) (name:Str) (me:Option Me) (args:List XE):XE:=fun cf fr h=>(o cf fr h).bind fun v h₁=>match v with
 | .ref a=>(match h₁[a]? with
  | some (.inst c fs)=>(match fs.lookup name with
   | some _=>.stuck
   | none=>(evs args cf fr h₁).bind0 fun vs h₂=>cf (.meth c name) (v::vs) h₂)
  | some (.list _)=>(match me with
   | some m=>(evs args cf fr h₁).bind0 fun vs h₂=>yP m v vs h₂
   | none=>.stuck)
  | some (.dicS _)=>(match me with
   | some m=>(evs args cf fr h₁).bind0 fun vs h₂=>ofP (meD m a vs h₂)
   | none=>.stuck)
  | _=>.stuck)
 | .str _=>(match me with
   | some m=>(evs args cf fr h₁).bind0 fun vs h₂=>yP m v vs h₂
   | none=>.stuck)
 | _=>.stuck
inductive NTgt where
 | one (i:Nat)
 | many (is:List Nat)
noncomputable def xX:List Nat→List AV→AFr→Option AFr
 | [],[],fr=>some fr
 | i::is,v::vs,fr=>if i<fr.length then xX is vs (fr.set i (some v)) else none
 | _,_,_=>none
noncomputable def z1d:AV→Option (List AV)
 | .tup xs=>some xs
 | _=>none
noncomputable def NTgt.bind (t:NTgt) (v:AV) (fr:AFr):Option AFr:=match t with
 | .one i=>xX [i] [v] fr
 | .many is=>(match z1d v with
  | some vs=>xX is vs fr
  | none=>none)
noncomputable def yr (t:NTgt) (test:XT) (elt:XE) (src:Src):Nat→Nat→List AV→CF→AFr→Hp→Out (List AV)
 | 0,_,_=>fun _ _ _=>.stuck
 | f+1,k,acc=>fun cf fr h=>match src.next? h k with
  | none=>.stuck
  | some none=>.ok acc h
  | some (some x)=>(match t.bind x fr with
   | none=>.stuck
   | some fr₁=>(test cf fr₁ h).bind0 fun b h₁ =>
     if b then (elt cf fr₁ h₁).bind0 fun v h₂=>if acc.length<small then yr t test elt src f (k+1) (acc++[v]) cf fr₁ h₂ else .stuck
     else yr t test elt src f (k+1) acc cf fr₁ h₁)
noncomputable def zj (it:XE) (own:Nat) (t:NTgt) (test:XT) (elt:XE):XE:=fun cf fr h=>(it cf fr h).bind fun v h₁ =>
 match yk h₁ v with
 | none=>.stuck
 | some (src,n)=>(yr t test elt src (n+1) 0 [] cf (fr++List.replicate own none) h₁).bind0 fun vs h₂=>.ok (.ref h₂.length) (h₂++[.list vs])
inductive Tgt where
 | names (t:NTgt)
 | attr (o:XE) (name:Str)
 | item (o i:XE)
 | cut (o l u:XE)
 | none
noncomputable def wW (name:Str) (v:AV):List (Str×AV)→List (Str×AV)
 | []=>[(name,v)]
 | p::r=>if p.1 == name then (p.1,v)::r else p::wW name v r
noncomputable def yE:XS:=fun _ _ _=>.stuck
noncomputable def zf (x:XE):XS:=fun cf fr h=>(x cf fr h).bindS fr fun v h₁=>.ok (.ret v) fr h₁
noncomputable def zN (x:XE):XS:=fun cf fr h=>(x cf fr h).bindS fr fun _ h₁=>.ok .next fr h₁
noncomputable def sIf (t:XT) (a b:XS):XS:=fun cf fr h=>(t cf fr h).bindS fr fun c h₁=>if c then a cf fr h₁ else b cf fr h₁
noncomputable def zD:List XS→XS
 | []=>fun _ fr h=>.ok .next fr h
 | s::r=>fun cf fr h=>match s cf fr h with
  | .ok .next fr₁ h₁=>zD r cf fr₁ h₁
  | o=>o
noncomputable def qH (h:Hp) (o i v:AV):Option Hp:=(yN o).bind fun a=>match yj i with
 | some x=>(qT h a).bind fun kvs=>if kvs.length<100 then some (h.set a (.dicS (xT kvs x v))) else none
 | none=>(yG i).bind fun k=>match yl h a with
 | some kvs=>if kvs.length<small then some (h.set a (.dict (xT kvs k v))) else none
 | none=>(ze h a).bind fun xs=>if 0≤k∧k<xs.length∧xs.length≤small then some (h.set a (.list (xs.set k.toNat v))) else none
noncomputable def wL (h:Hp) (o l u v:AV):Option Hp:=(yN o).bind fun a=>(ze h a).bind fun xs=>(yN v).bind fun b=>(ze h b).bind fun ys=>(yG l).bind fun i=>(yG u).bind fun j =>
 if i=j∧0≤i∧i≤xs.length∧a≠b∧xs.length+ys.length≤small then some (h.set a (.list (xs.take i.toNat++ys++xs.drop i.toNat))) else none
noncomputable def z9 (okf:Str→Str→Bool) (t:Tgt) (x:XE):XS:=fun cf fr h=>match t with
 | .names t=>(x cf fr h).bindS fr fun v h₁=>(match t.bind v fr with
  | some fr₁=>.ok .next fr₁ h₁
  | none=>.stuck)
 | .attr o name=>(x cf fr h).bindS fr fun v h₁=>(o cf fr h₁).bindS fr fun ov h₂=>(match ov with
  | .ref a=>(match h₂[a]? with
   | some (.inst c fs)=>if okf c name && decide (fs.length<100) then .ok .next fr (h₂.set a (.inst c (wW name v fs))) else .stuck
   | _=>.stuck)
  | _=>.stuck)
 | .item o i=>(x cf fr h).bindS fr fun v h₁=>(o cf fr h₁).bindS fr fun ov h₂=>(i cf fr h₂).bindS fr fun iv h₃=>(match qH h₃ ov iv v with
  | some h₄=>.ok .next fr h₄
  | none=>.stuck)
 | .cut o l u=>(x cf fr h).bindS fr fun v h₁=>(o cf fr h₁).bindS fr fun ov h₂=>(l cf fr h₂).bindS fr fun lv h₃=>(u cf fr h₃).bindS fr fun uv h₄=>(match wL h₄ ov lv uv v with
  | some h₅=>.ok .next fr h₅
  | none=>.stuck)
 | .none=>.stuck
noncomputable def q7 (t:NTgt) (body:XS) (src:Src):Nat→Nat→XS
 | 0,_=>yE
 | f+1,k=>fun cf fr h=>match src.next? h k with
  | none=>.stuck
  | some none=>.ok .next fr h
  | some (some x)=>(match t.bind x fr with
   | none=>.stuck
   | some fr₁=>(match body cf fr₁ h with
    | .ok .next fr₂ h₂=>q7 t body src f (k+1) cf fr₂ h₂
    | .ok (.ret v) fr₂ h₂=>.ok (.ret v) fr₂ h₂
    | _=>.stuck))
noncomputable def qI (t:NTgt) (it:XE) (enum:Bool) (body:XS):XS:=fun cf fr h=>(it cf fr h).bindS fr fun v h₁ =>
 match yk h₁ v with
 | none=>.stuck
 | some (src,n)=>(match enum with
  | true=>(match src with
   | .ref a=>(match t with
    | .many _=>q7 t body (.enum a) (n+1) 0 cf fr h₁
    | .one _=>.stuck)
   | _=>.stuck)
  | false=>q7 t body src (n+1) 0 cf fr h₁)
structure GTab where
 glob:Str→Option AV
 okf:Str→Str→Bool
structure Sc where
 kind:Str→Option NameKind
 slot:Str→Option Nat
 width:Nat
noncomputable def Jr:Me→Str
 | .append => "append" | .insert => "insert" | .index => "index" | .count => "count" | .remove => "remove" | .join => "join" | .extend => "extend" | .update => "update"
noncomputable def zE0:List (Str×Me):=[Me.append,.insert,.index,.count,.remove,.join,.extend,.update].map fun m=>(Jr m,m)
noncomputable def Z1 (x:Str):Option Me:=zE0.lookup x
theorem qQ {α β:Type} [BEq α] [LawfulBEq α] {x:α} {b:β}:∀ {l:List (α×β)},l.lookup x=some b→(x,b)∈l
 | [],h=>by cases h
 | (y,c)::r,h=>by
  rw [List.lookup_cons] at h
  cases q:(x == y) with
  | true=>rw [q] at h;cases h;rw [eq_of_beq q];exact .head _
  | false=>rw [q] at h;exact .tail _ (qQ h)
theorem jS {name:Str} {m:Me} (h:Z1 name=some m):name=Jr m:=by
 obtain ⟨m',_,e⟩:=List.mem_map.mp (qQ h)
 cases e;rfl
noncomputable def qY:Expr→Bool
 | .Call (.Name _ _) [] [] _=>true
 | _=>false
noncomputable def Sc.isOwn (sc:Sc) (x:Str):Option Nat:=match sc.kind x with
 | some .local | some .cell=>sc.slot x
 | _=>none
noncomputable def wg (sc:Sc):Expr→Option Nat
 | .Name x _=>sc.isOwn x
 | _=>none
noncomputable def qM (sc:Sc):Expr→Option NTgt
 | .Name x _=>(sc.isOwn x).map .one
 | .Tuple es _ _=>(match yT (wg sc) es with
  | some is=>if is.length≤10∧is.Nodup then some (.many is) else none
  | none=>none)
 | _=>none
noncomputable def zx (s:Scope):List Str:=(s.names.filter fun p=>p.2 == .local && p.1 != (".0" : Str)).map (·.1)
noncomputable def jM (x:Str):List Str→Nat→Option Nat
 | [],_=>none
 | y::ys,k=>if y == x then some k else jM x ys (k+1)
noncomputable def Sc.inner (sc:Sc) (s:Scope):Sc where
 kind:=fun x=>match s.names.lookup x with
  | some .free=>if sc.kind x == some .cell then some .cell else some .free
  | o=>o
 slot:=fun x=>match s.names.lookup x with
  | some .local=>jM x (zx s) sc.width
  | some .free=>(match sc.kind x with
   | some .cell | some .free=>sc.slot x
   | _=>none)
  | _=>none
 width:=sc.width+(zx s).length
noncomputable def qV (sc:Sc) (s:Scope):Bool:=s.kind == .function && s.names.all (fun p=>p.2 == .local || (p.2 == .free && (sc.kind p.1 == some .cell || sc.kind p.1 == some .free) && (sc.slot p.1).isSome) || p.2 == .globalImplicit) && (s.names.map (·.1)).Nodup
noncomputable def qE (s:Scope):Expr→Bool
 | .Name x _=>s.names.lookup x == some .local
 | .Tuple es _ _=>es.all fun e=>(match e with
  | .Name x _=>s.names.lookup x == some .local
  | _=>false)
 | _=>false
noncomputable def qN (e:Expr):Bool:=!Nat.beq e.ctorIdx 22
noncomputable def jH (e:Expr):Bool:=!Nat.beq e.ctorIdx 7
noncomputable def zB8 (e:Expr):Option {t:Expr×Str×Pos // e=.Attribute t.1 t.2.1 t.2.2}:=match e with
 | .Attribute o name p=>some ⟨(o,name,p),rfl⟩
 | _=>none
noncomputable def X8 (e:Expr):Option (Expr×Str×Pos):=(zB8 e).map (·.1)
noncomputable def zBe (e:Expr):Option {t:Option Expr×Option Expr×Option Expr×Pos // e=.Slice t.1 t.2.1 t.2.2.1 t.2.2.2}:=match e with
 | .Slice l u st p=>some ⟨(l,u,st,p),rfl⟩
 | _=>none
noncomputable def zCr (t:Option Expr×Option Expr×Option Expr×Pos):Option (Option Expr×Option Expr×Pos):=match t.2.2.1 with
 | none=>some (t.1,t.2.1,t.2.2.2)
 | some _=>none
noncomputable def qW (e:Expr):Option (Option (Option Expr×Option Expr×Pos)):=(zBe e).map fun t=>zCr t.1
noncomputable def Qg (e:Expr):Bool:=Nat.ble 8 e.ctorIdx && Nat.ble e.ctorIdx 10
noncomputable def z0q (G:GTab) (sc:Sc) (x:Str):XE:=if x == ("__debug__" : Str) || x == ("__classdict__" : Str) then zr else (match sc.kind x with
 | some k=>(match k with
  | .globalImplicit=>zA (G.glob x)
  | .globalExplicit=>zr
  | .local=>(match sc.slot x with | some i=>z6 i | none=>zr)
  | .cell=>(match sc.slot x with | some i=>z6 i | none=>zr)
  | .free=>(match sc.slot x with | some i=>z6 i | none=>zr))
 | none=>zr)
noncomputable def z0t:Const→XE
 | .none=>z8 .none
 | .bool b=>z8 (.bool b)
 | .int i=>z8 (.int i)
 | .str s=>if s.length≤small then z8 (.str s) else zr
 | _=>zr
noncomputable def zCv {α:Type}:List α→Option α
 | [a]=>some a
 | _=>none
noncomputable def zAz (e:Expr):Option {t:Str×Pos // e=.Name t.1 t.2}:=match e with
 | .Name x p=>some ⟨(x,p),rfl⟩
 | _=>none
noncomputable def zB0 (e:Expr):Option (Str×Pos):=(zAz e).map (·.1)
noncomputable def zB6 (e:Expr):Option {t:Expr×List Expr×Pos // e=.Call t.1 t.2.1 [] t.2.2}:=match e with
 | .Call f as ks p=>(match ks with
  | []=>some ⟨(f,as,p),rfl⟩
  | _::_=>none)
 | _=>none
noncomputable def zB7 (e:Expr):Option (Expr×List Expr×Pos):=(zB6 e).map (·.1)
noncomputable def z0v (e:Expr):Option {t:Const×Nat×Pos // e=.Constant t.1 t.2.1 t.2.2}:=match e with
 | .Constant c k p=>some ⟨(c,k,p),rfl⟩
 | _=>none
noncomputable def z0w (e:Expr):Option (Const×Nat×Pos):=(z0v e).map (·.1)
noncomputable def zCp:Const→Option Str
 | .str m=>some m
 | _=>none
noncomputable def zEd:Bi→Bool
 | .enumerate=>true
 | _=>false
theorem z23 {α:Type} {l:List α} {a:α} (h:zCv l=some a):l=[a]:=by
 cases l with
 | nil=>exact nos h
 | cons x r=>cases r with
  | nil=>cases h;rfl
  | cons=>exact nos h
theorem Jp {e:Expr} {t:Str×Pos} (h:zB0 e=some t):e=.Name t.1 t.2:=YZ (o:=zAz e) h
theorem z0y {e:Expr} {t:Expr×List Expr×Pos} (h:zB7 e=some t):e=.Call t.1 t.2.1 [] t.2.2:=YZ (o:=zB6 e) h
theorem Wv {e:Expr} {t:Const×Nat×Pos} (h:z0w e=some t):e=.Constant t.1 t.2.1 t.2.2:=YZ (o:=z0v e) h
theorem z1j {c:Const} {m:Str} (h:zCp c=some m):c=.str m:=by
 cases c with
 | str=>cases h;rfl
 | _=>exact nos h
noncomputable def Wi (e:Option Expr):Option Str:=e.bind fun e=>(z0w e).bind fun k=>(zCp k.1).bind fun x=>if x.length≤small then some x else none
mutual
noncomputable def dE (G:GTab):Nat→Sc→Expr→XE
 | 0,_,_=>zr
 | n+1,sc,e=>match e with
  | .Constant c _ _=>z0t c
  | .Name x _=>z0q G sc x
  | .BoolOp op es _=>wX op (es.map (dE G n sc))
  | .BinOp l op r _=>zV op (dE G n sc l) (dE G n sc r)
  | .UnaryOp op x _=>(match op with
   | .Not=>X6 (dE G n sc x)
   | .USub=>Q9 (dE G n sc x)
   | _=>zr)
  | .List es _=>if es.all qN=true∧es.length≤1000 then zX (es.map (dE G n sc)) else zr
  | .Tuple es _ _=>if es.all qN=true∧es.length≤1000 then xU (es.map (dE G n sc)) else zr
  | .Compare l ops rs _=>if lastMarks ops rs=false then qq (dE G n sc l) ops (rs.map (dE G n sc)) else zr
  | .Call f args kws pos=>(match kws with
   | []=>if args.all qN=true∧args.length<30 then (match X8 f with
    | some t=>if qY t.1=false∧(t.2.2.endLine == pos.line)=true then zB (dE G n sc t.1) t.2.1 (Z1 t.2.1) (args.map (dE G n sc)) else zr
    | none=>zC (dE G n sc f) (args.map (dE G n sc))) else zr
   | _::_=>zr)
  | .Dict ks vs _=>(match ks with
   | []=>(match vs with
    | []=>z0z
    | _::_=>zr)
   | _::_=>(match yT Wi ks with
    | some xs=>if xs.Nodup∧xs.length=vs.length∧xs.length≤15 then jw xs (vs.map (dE G n sc)) else zr
    | none=>zr))
  | .Attribute o name _=>if qY o=false then zG (dE G n sc o) name else zr
  | .Subscript o i _=>(match qW i with
   | some q=>(match q with
    | some t=>wn (dE G n sc o) (X1 G n sc t.1) (X1 G n sc t.2.1)
    | none=>zr)
   | none=>zF (dE G n sc o) (dE G n sc i))
  | .ListComp elt gs s _=>(match gs with
   | [g]=>if qV sc s=true∧g.is_async=0∧jH g.iter=true∧qE s g.target=true then (match qM (sc.inner s) g.target with
    | some t=>zj (dE G n sc g.iter) (zx s).length t (zQ .And (g.ifs.map (dT G n (sc.inner s)))) (dE G n (sc.inner s) elt)
    | none=>zr) else zr
   | _=>zr)
  | _=>zr
noncomputable def dT (G:GTab):Nat→Sc→Expr→XT
 | 0,_,_=>fun _ _ _=>.stuck
 | n+1,sc,e=>match e with
  | .UnaryOp op x _=>(match op with
   | .Not=>ym (dT G n sc x)
   | _=>fun _ _ _=>.stuck)
  | .BoolOp op es _=>zQ op (es.map (dT G n sc))
  | .IfExp _ _ _ _=>fun _ _ _=>.stuck
  | .Compare l ops rs _=>if lastMarks ops rs=false then zR (dE G n sc l) ops (rs.map (dE G n sc)) else fun _ _ _=>.stuck
  | e=>y6 (dE G n sc e)
noncomputable def X1 (G:GTab):Nat→Sc→Option Expr→XE
 | 0,_,_=>zr
 | n+1,sc,e=>match e with
  | some e=>dE G n sc e
  | none=>z8 .none
end
noncomputable def xx (sc:Sc) (G:GTab) (e:Expr):Option Expr:=(zB7 e).bind fun c=>(zB0 c.1).bind fun x=>(zCv c.2.1).bind fun a=>(G.glob x.1).bind fun v=>(zCd v).bind fun b =>
 if zEd b=true∧sc.kind x.1=some .globalImplicit∧qN a=true∧(x.1 == ("__debug__" : Str))=false then some a else none
noncomputable def W5 (t e:Expr):Bool:=(Nat.beq t.ctorIdx 25 && Nat.beq e.ctorIdx 25) || Nat.beq t.ctorIdx 24
noncomputable def z0p (sc:Sc) (e:Expr):Tgt:=match qM sc e with
 | some t=>.names t
 | none=>.none
noncomputable def zEo (G:GTab) (n:Nat) (sc:Sc):Expr→Tgt
 | .Name x p=>z0p sc (.Name x p)
 | .Tuple es k p=>z0p sc (.Tuple es k p)
 | .Attribute o name _=>if qY o=false then .attr (dE G n sc o) name else .none
 | .Subscript o i _=>(match qW i with
  | some q=>(match q with
   | some t=>.cut (dE G n sc o) (X1 G n sc t.1) (X1 G n sc t.2.1)
   | none=>.none)
  | none=>.item (dE G n sc o) (dE G n sc i))
 | _=>.none
mutual
noncomputable def dS (G:GTab):Nat→Sc→Stmt→XS
 | 0,_,_=>yE
 | n+1,sc,st=>match st with
  | .Return eo _=>(match eo with
   | some e=>zf (dE G n sc e)
   | none=>zf (z8 .none))
  | .Expr e _=>if Qg e=false then zN (dE G n sc e) else yE
  | .Assign ts e _=>(match ts with
   | [t]=>if W5 t e=false then z9 G.okf (zEo G n sc t) (dE G n sc e) else yE
   | _=>yE)
  | .If t a b _=>sIf (dT G n sc t) (dSs G n sc a) (dSs G n sc b)
  | .For t it b els _=>(match els with
   | []=>(match qM sc t with
    | some t=>(match xx sc G it with
     | some e=>qI t (dE G n sc e) true (dSs G n sc b)
     | none=>if jH it=true then qI t (dE G n sc it) false (dSs G n sc b) else yE)
    | none=>yE)
   | _::_=>yE)
  | _=>yE
noncomputable def dSs (G:GTab):Nat→Sc→List Stmt→XS
 | 0,_,_=>yE
 | n+1,sc,sts=>zD (sts.map (dS G n sc))
end
structure Fn where
 np:Nat
 nl:Nat
 body:XS
inductive What where
 | fn (f:Fn)
 | cls
structure Tab where
 what:Str→Option What
 meth:Str→Str→Option Fn
noncomputable def yf (f:Fn) (cf:CF) (args:List AV) (h:Hp):Out AV :=
 if args.length=f.np then (match f.body cf (args.map some++List.replicate (f.nl - f.np) none) h with
  | .ok (.ret v) _ h'=>.ok v h'
  | .ok .next _ h'=>.ok .none h'
  | .stuck=>.stuck) else .stuck
noncomputable def run (T:Tab):Nat→CF
 | 0=>fun _ _ _=>.stuck
 | n+1=>fun c args h=>match c with
  | .fn x=>(match T.what x with
   | some (.fn f)=>yf f (run T n) args h
   | _=>.stuck)
  | .meth c x=>(match T.meth c x with
   | some f=>yf f (run T n) args h
   | none=>.stuck)
  | .cls x=>(match T.what x with
   | some .cls=>(match T.meth x "__init__" with
    | some f=>(yf f (run T n) (.ref h.length::args) (h++[.inst x []])).bind0 fun v h'=>(match v with
     | .none=>.ok (.ref h.length) h'
     | _=>.stuck)
    | none=>.stuck)
   | _=>.stuck)
end Mine
end
end
section
set_option genSizeOf false
noncomputable section
namespace Mine
open PySem PySem.W
noncomputable abbrev Mu:=List (Addr×Option Addr)
noncomputable def zo (μ:Mu):List Addr:=μ.flatMap fun p=>p.1::p.2.toList
structure Cx where
 K:Frag
 base:Heap
 os:OsState
 w:World
noncomputable def wu:Bi→Value
 | .str=>.type "str" | .any=>.builtin "any" | .all=>.builtin "all" | .enumerate=>.type "enumerate" | .len=>.builtin "len" | .isinstance=>.builtin "isinstance" | .int=>.type "int" | .bool=>.type "bool"  | .list=>.type "list"
 | .range=>.type "range" | .min=>.builtin "min" | .max=>.builtin "max" | .tuple=>.type "tuple"
mutual
inductive VR (X:Cx) (μ:Mu) (h:Heap):AV→Value→Prop
 | none:VR X μ h .none .none
 | bool (b:Bool):VR X μ h (.bool b) (.bool b)
 | int (i:Int) (t:Tok):VR X μ h (.int i) (.int i t)
 | str {x:Str} (t:Tok):x.length≤small→VR X μ h (.str x) (.str x t)
 | ref {a:Nat} {p:Addr×Option Addr}:μ[a]? = some p→VR X μ h (.ref a) (.ref p.1)
 | tup {c:Addr} {items:Array Value} {xs:List AV}:h.IsTuple c items→xs.length≤small→VRs X μ h xs items.toList→VR X μ h (.tup xs) (.ref c)
 | lst {c:Addr} {items:Array Value} {xs:List AV}:X.base.IsList c items→xs.length≤small→VRs X μ h xs items.toList→VR X μ h (.lst xs) (.ref c)
 | range {c:Addr} {a b:Int} {t u v:Tok}:IsRange h c a b 1 t u v→a.natAbs<2 ^ 62→b.natAbs<2 ^ 62→VR X μ h (.range a b) (.ref c)
 | fn {x:Str} {f:Addr}:nsIn X.K mainGlobals x=some (some (.ref f))→VR X μ h (.fn x) (.ref f)
 | cls {x:Str} {f:Addr}:nsIn X.K mainGlobals x=some (some (.ref f))→VR X μ h (.cls x) (.ref f)
 | bi (b:Bi):VR X μ h (.bi b) (wu b)
inductive VRs (X:Cx) (μ:Mu) (h:Heap):List AV→List Value→Prop
 | nil:VRs X μ h [] []
 | cons {x:AV} {v:Value} {xs:List AV} {vs:List Value}:VR X μ h x v→VRs X μ h xs vs→VRs X μ h (x::xs) (v::vs)
end
noncomputable def yS (o:Obj):Prop:=(o.cls=.type "tuple" ∧ ∃ xs n,o.data=.seq xs n)∨(o.cls=.type "range" ∧ ∃ vs,o.data=.fields vs)
section
variable {X:Cx} {μ μ':Mu} {h h':Heap} (hp:μ <+: μ') (hf:∀ b o,h.get? b=some o→yS o→h'.get? b=some o)
include hp hf
theorem VR.mono {x:AV} {v:Value} (r:VR X μ h x v):VR X μ' h' x v :=
 VR.rec (motive_1:=fun x v _=>VR X μ' h' x v) (motive_2:=fun xs vs _=>VRs X μ' h' xs vs) .none .bool .int (fun t z=>.str t z)
  (fun e=>.ref (by
   obtain ⟨r,rfl⟩:=hp
   rw [List.getElem?_append_left (y7 e).1];exact e))
  (fun t z _ q=>.tup (let ⟨o,ho,hc,n,hd⟩:=t;⟨o,hf _ _ ho (.inl ⟨hc,_,n,hd⟩),hc,n,hd⟩) z q) (fun e z _ q=>.lst e z q) (fun e z1 z2=>.range (hf _ _ e (.inr ⟨rfl,_,rfl⟩)) z1 z2) .fn .cls .bi .nil (fun _ _ a b=>.cons a b) r
theorem VRs.mono {xs:List AV} {vs:List Value} (r:VRs X μ h xs vs):VRs X μ' h' xs vs:=by
 induction xs generalizing vs with
 | nil=>cases r;exact .nil
 | cons x xs ih=>cases r with | cons a b=>exact .cons (a.mono hp hf) (ih b)
end
section
variable {X:Cx} {μ:Mu} {h:Heap} {c:Value}
theorem VR.none_ (r:VR X μ h .none c):c=.none:=by cases r;rfl
theorem VR.bool_ {b:Bool} (r:VR X μ h (.bool b) c):c=.bool b:=by cases r;rfl
theorem VR.int_ {i:Int} (r:VR X μ h (.int i) c):∃ t,c=.int i t:=by cases r;exact ⟨_,rfl⟩
theorem VR.str_ {x:Str} (r:VR X μ h (.str x) c):∃ t,c=.str x t∧x.length≤small:=by cases r;exact ⟨_,rfl,by assumption⟩
theorem VR.ref_ {a:Nat} (r:VR X μ h (.ref a) c):∃ p,μ[a]? = some p∧c=.ref p.1:=by cases r;exact ⟨_,by assumption,rfl⟩
theorem VR.tup_ {xs:List AV} (r:VR X μ h (.tup xs) c):∃ a items,c=.ref a∧h.IsTuple a items∧xs.length≤small∧VRs X μ h xs items.toList:=by
 cases r with | tup a b d=>exact ⟨_,_,rfl,a,b,d⟩
theorem VR.lst_ {xs:List AV} (r:VR X μ h (.lst xs) c):∃ a items,c=.ref a∧X.base.IsList a items∧xs.length≤small∧VRs X μ h xs items.toList:=by
 cases r with | lst a b d=>exact ⟨_,_,rfl,a,b,d⟩
theorem VR.range_ {a b:Int} (r:VR X μ h (.range a b) c):∃ e t u v,c=.ref e∧IsRange h e a b 1 t u v∧a.natAbs<2 ^ 62∧b.natAbs<2 ^ 62:=by
 cases r with | range a b d=>exact ⟨_,_,_,_,rfl,a,b,d⟩
theorem VR.fn_ {x:Str} (r:VR X μ h (.fn x) c):∃ f,c=.ref f∧nsIn X.K mainGlobals x=some (some (.ref f)):=by cases r;exact ⟨_,rfl,by assumption⟩
theorem VR.cls_ {x:Str} (r:VR X μ h (.cls x) c):∃ f,c=.ref f∧nsIn X.K mainGlobals x=some (some (.ref f)):=by cases r;exact ⟨_,rfl,by assumption⟩
theorem VR.bi_ {b:Bi} (r:VR X μ h (.bi b) c):c=wu b:=by cases r;rfl
theorem VRs.nil_ {vs:List Value} (r:VRs X μ h [] vs):vs=[]:=by cases r;rfl
theorem VRs.cons_ {x:AV} {xs:List AV} {vs:List Value} (r:VRs X μ h (x::xs) vs):∃ v ws,vs=v::ws∧VR X μ h x v∧VRs X μ h xs ws:=by
 cases r with | cons a b=>exact ⟨_,_,rfl,a,b⟩
end
inductive FsR (X:Cx) (μ:Mu) (h:Heap):List (Str×AV)→List DictEntry→Prop
 | nil:FsR X μ h [] []
 | cons {n:Str} {v:AV} {hs:Int} {t:Tok} {w:Value} {r:List (Str×AV)} {es:List DictEntry}:VR X μ h v w→FsR X μ h r es→FsR X μ h ((n,v)::r) (⟨hs,.str n t,w⟩::es)
theorem FsR.mono {X:Cx} {μ μ':Mu} {h h':Heap} (hp:μ <+: μ') (hf:∀ b o,h.get? b=some o→yS o→h'.get? b=some o) :
  ∀ {fs:List (Str×AV)} {es:List DictEntry},FsR X μ h fs es→FsR X μ' h' fs es
 | _,_,.nil=>.nil
 | _,_,.cons a b=>.cons (a.mono hp hf) (b.mono hp hf)
noncomputable def xt (K:Frag) (C:Addr):Bool:=plainGet K C Str.empty && hasDictIn K C && (findIn K (.ref C) "__setattr__" == some (some (.builtin "object.__setattr__"))) && plainOver K C
noncomputable def wj (K:Frag) (C:Addr) (name:Str):Bool:=findIn K (.ref C) name == some none
inductive PRs {K:Type} (X:Cx) (μ:Mu) (h:Heap):List (K×AV)→List (K×Value)→Prop
 | nil:PRs X μ h [] []
 | cons {k:K} {v:AV} {w:Value} {r:List (K×AV)} {es:List (K×Value)}:VR X μ h v w→PRs X μ h r es→PRs X μ h ((k,v)::r) ((k,w)::es)
theorem PRs.mono {K:Type} {X:Cx} {μ μ':Mu} {h h':Heap} (hp:μ <+: μ') (hf:∀ b o,h.get? b=some o→yS o→h'.get? b=some o) {fs:List (K×AV)} {es:List (K×Value)} (r:PRs X μ h fs es):PRs X μ' h' fs es:=by
 induction r with
 | nil=>exact .nil
 | cons a _ b=>exact .cons (a.mono hp hf) b
section
variable {K:Type} [DecidableEq K] {prog prog':Program} {w w':World} {knd:KeyKind prog w K} {knd':KeyKind prog' w' K} (hi:knd'.is=knd.is) (hh:knd'.hash=knd.hash)
include hi hh
theorem Jh {es:List DictEntry} {kvs:List (K×Value)} (p:Pairs knd es kvs):Pairs knd' es kvs:=by
 induction p with
 | nil=>exact .nil
 | cons a b _ ih=>exact .cons (by rw [hi];exact a) b ih
theorem WP {h:Heap} {c:Addr} {kvs:List (K×Value)} (d:h.DictOf knd c kvs):h.DictOf knd' c kvs :=
 let ⟨o,es,ep,ho,hc,hd,hk,hp,hn⟩:=d
 ⟨o,es,ep,ho,hc,hd,fun e he=>let ⟨k,a,b⟩:=hk e he;⟨k,by rw [hi];exact a,by rw [hh];exact b⟩,Jh hi hh hp,hn⟩
end
inductive OR (X:Cx) (μ:Mu) (h:Heap):AO→Addr×Option Addr→Prop
 | list {c:Addr} {items:Array Value} {n:Nat} {xs:List AV}:IsL h c items n→xs.length≤small→VRs X μ h xs items.toList→OR X μ h (.list xs) (c,none)
 | inst {x dx C:Addr} {cls:Str} {fs:List (Str×AV)} {es:List DictEntry} {n:Nat} {sl:Array (Option Value)} :
   nsIn X.K mainGlobals cls=some (some (.ref C))→h.get? x=some ⟨.ref C,some dx,.plain,sl⟩→h.get? dx=some (dictOf es n)→FsR X μ h fs es →
   xt X.K C=true→(∀ p∈fs,wj X.K C p.1=true)→fs.length≤100→OR X μ h (.inst cls fs) (x,some dx)
 | dict {prog:Program} {w:World} {c:Addr} {kvs:List (Int×AV)} {es:List (Int×Value)}:h.DictOf (intKind prog w) c es→PRs X μ h kvs es→(c == sysModules)=false→kvs.length≤small→OR X μ h (.dict kvs) (c,none)
 | dicS {prog:Program} {c:Addr} {kvs:List (Str×AV)} {es:List (Str×Value)}:h.DictOf (strKind prog X.w) c es→PRs X μ h kvs es→(c == sysModules)=false→kvs.length≤100→OR X μ h (.dicS kvs) (c,none)
noncomputable def ads (p:Addr×Option Addr):List Addr:=p.1::p.2.toList
theorem OR.mono {X:Cx} {μ μ':Mu} {h h':Heap} {o:AO} {p:Addr×Option Addr} (r:OR X μ h o p) (hp:μ <+: μ') (hf:∀ b o,h.get? b=some o→yS o→h'.get? b=some o)
  (hk:∀ b∈ads p,∀ o,h.get? b=some o→h'.get? b=some o):OR X μ' h' o p:=by
 cases r with
 | list l z q =>
  exact .list (hk _ (.head _) _ l) z (q.mono hp hf)
 | inst a b c d e f g=>exact .inst a (hk _ (.head _) _ b) (hk _ (.tail _ (.head _)) _ c) (d.mono hp hf) e f g
 | dict a b c d=>exact .dict (let ⟨o,es,ep,ho,q⟩:=a;⟨o,es,ep,hk _ (.head _) _ ho,q⟩) (b.mono hp hf) c d
 | dicS a b c d=>exact .dicS (let ⟨o,es,ep,ho,q⟩:=a;⟨o,es,ep,hk _ (.head _) _ ho,q⟩) (b.mono hp hf) c d
theorem OR.list_ {X:Cx} {μ:Mu} {h:Heap} {xs:List AV} {p:Addr×Option Addr} (r:OR X μ h (.list xs) p):∃ c items n,p=(c,none)∧IsL h c items n∧xs.length≤small∧VRs X μ h xs items.toList:=by
 cases r with | list a b d=>exact ⟨_,_,_,rfl,a,b,d⟩
theorem OR.inst_ {X:Cx} {μ:Mu} {h:Heap} {cls:Str} {fs:List (Str×AV)} {p:Addr×Option Addr} (r:OR X μ h (.inst cls fs) p):∃ (x dx C:Addr) (es:List DictEntry) (n:Nat) (sl:Array (Option Value)),p=(x,some dx) ∧
   nsIn X.K mainGlobals cls=some (some (.ref C))∧h.get? x=some ⟨.ref C,some dx,.plain,sl⟩∧h.get? dx=some (dictOf es n)∧FsR X μ h fs es∧xt X.K C=true∧(∀ p∈fs,wj X.K C p.1=true)∧fs.length≤100:=by
 cases r with | inst a b d e f g i=>exact ⟨_,_,_,_,_,_,rfl,a,b,d,e,f,g,i⟩
noncomputable def Mut (o:Obj):Prop:=(o.cls=.type "list" ∧ ∃ xs n,o.data=.seq xs n)∨(∃ C,o.cls=.ref C∧o.data=.plain)∨(o.cls=.type "dict")
theorem Mut.notFixed {o:Obj} (m:Mut o):¬ yS o:=by
 rintro (⟨f,_⟩ | ⟨f,_⟩) <;> rcases m with ⟨m,_⟩ | ⟨C,m,_⟩ | m <;> rw [f] at m <;> first | (cases m;done) | (injection m with m;exact absurd m (by decide))
theorem OR.mut {X:Cx} {μ:Mu} {h:Heap} {o:AO} {p:Addr×Option Addr} (r:OR X μ h o p):∀ b∈ads p,∃ o,h.get? b=some o∧Mut o:=by
 cases r with
 | list l z q =>
  intro b hb
  cases hb with
  | head=>exact ⟨_,l,.inl ⟨rfl,_,_,rfl⟩⟩
  | tail _ h=>cases h
 | inst a b' c d e f g =>
  intro b hb
  cases hb with
  | head=>exact ⟨_,b',.inr (.inl ⟨_,rfl,rfl⟩)⟩
  | tail _ h=>cases h with
   | head=>exact ⟨_,c,.inr (.inr rfl)⟩
   | tail _ h=>cases h
 | dict a _ _ _ =>
  intro b hb
  cases hb with
  | head =>
   obtain ⟨o,es,ep,ho,hc,_⟩:=a
   exact ⟨_,ho,.inr (.inr hc.1)⟩
  | tail _ h=>cases h
 | dicS a _ _ _ =>
  intro b hb
  cases hb with
  | head =>
   obtain ⟨o,es,ep,ho,hc,_⟩:=a
   exact ⟨_,ho,.inr (.inr hc.1)⟩
  | tail _ h=>cases h
structure Inv (X:Cx) (μ:Mu) (hp:Hp) (s:Shared):Prop where
 len:μ.length=hp.length
 nodup:(zo μ).Nodup
 above:∀ a∈zo μ,X.base.get? a=none
 rep:∀ (i:Nat) (p:Addr×Option Addr) (o:AO),μ[i]? = some p→hp[i]? = some o→OR X μ s.heap o p
 keep:∀ b o,X.base.get? b=some o→s.heap.get? b=some o
 gens:s.gens=#[]
 os:s.os=X.os
theorem yh {μ:Mu} {b:Addr}:b∈zo μ↔∃ (i:Nat) (p:Addr×Option Addr),μ[i]? = some p∧b∈ads p:=by
 unfold zo ads
 rw [List.mem_flatMap]
 constructor
 ·rintro ⟨p,hp,hb⟩
  obtain ⟨i,hi⟩:=List.getElem?_of_mem hp
  exact ⟨i,p,hi,hb⟩
 ·rintro ⟨i,p,hi,hb⟩
  exact ⟨p,yF hi,hb⟩
theorem qZ:∀ {μ:Mu},(zo μ).Nodup→∀ {i j:Nat} {p q:Addr×Option Addr} {b:Addr},μ[i]? = some p→μ[j]? = some q→b∈ads p→b∈ads q→i=j
 | [],_,_,_,_,_,_,h,_,_,_=>by cases h
 | r::μ,nd,i,j,p,q,b,hi,hj,hp,hq=>by
  have e:zo (r::μ)=ads r++zo μ:=rfl
  rw [e,List.nodup_append] at nd
  obtain ⟨_,n2,n3⟩:=nd
  cases i with
  | zero =>
   cases j with
   | zero=>rfl
   | succ j =>
    cases hi
    exact absurd rfl (n3 b hp b (yh.mpr ⟨j,q,hj,hq⟩))
  | succ i =>
   cases j with
   | zero =>
    cases hj
    exact absurd rfl (n3 b hq b (yh.mpr ⟨i,p,hi,hp⟩))
   | succ j=>exact congrArg _ (qZ n2 (i:=i) (j:=j) hi hj hp hq)
section
variable {X:Cx} {μ μ':Mu} {hp hp':Hp} {s s':Shared}
theorem Inv.obj (I:Inv X μ hp s) {i:Nat} {p:Addr×Option Addr} (h:μ[i]? = some p):∃ o,hp[i]? = some o:=by
 have:=(y7 h).1
 rw [I.len] at this
 exact ⟨hp[i],zu this⟩
theorem Inv.mut (I:Inv X μ hp s) {b:Addr} (h:b∈zo μ):∃ o,s.heap.get? b=some o∧Mut o:=by
 obtain ⟨i,p,hi,hb⟩:=yh.mp h
 obtain ⟨o,ho⟩:=I.obj hi
 exact (I.rep i p o hi ho).mut b hb
theorem Inv.dict_at (I:Inv X μ hp s) {a:Nat} {c:Value} {kvs:List (Int×AV)} (r:VR X μ s.heap (.ref a) c) (e:hp[a]? = some (.dict kvs)) (prog:Program) (w:World) :
  ∃ d es,c=.ref d∧μ[a]? = some (d,none)∧s.heap.DictOf (intKind prog w) d es∧PRs X μ s.heap kvs es∧(d == sysModules)=false∧kvs.length≤small:=by
 obtain ⟨p,hp,rfl⟩:=r.ref_
 have:=I.rep _ _ _ hp e
 cases this with
 | dict a b c d=>exact ⟨_,_,rfl,hp,WP (by rfl) (by rfl) a,b,c,d⟩
theorem Inv.dicS_at (I:Inv X μ hp s) {a:Nat} {c:Value} {kvs:List (Str×AV)} (r:VR X μ s.heap (.ref a) c) (e:hp[a]? = some (.dicS kvs)) (prog:Program) :
  ∃ d es,c=.ref d∧μ[a]? = some (d,none)∧s.heap.DictOf (strKind prog X.w) d es∧PRs X μ s.heap kvs es∧(d == sysModules)=false∧kvs.length≤100:=by
 obtain ⟨p,hp,rfl⟩:=r.ref_
 have:=I.rep _ _ _ hp e
 cases this with
 | dicS a b c d=>exact ⟨_,_,rfl,hp,WP (by rfl) (by rfl) a,b,c,d⟩
theorem Inv.list_at (I:Inv X μ hp s) {a:Nat} {c:Value} {xs:List AV} (r:VR X μ s.heap (.ref a) c) (e:hp[a]? = some (.list xs)) :
  ∃ d items n,c=.ref d∧μ[a]? = some (d,none)∧IsL s.heap d items n∧xs.length≤small∧VRs X μ s.heap xs items.toList:=by
 obtain ⟨p,hp,rfl⟩:=r.ref_
 obtain ⟨d,items,n,rfl,l,z,q⟩:=(I.rep _ _ _ hp e).list_
 exact ⟨d,items,n,rfl,hp,l,z,q⟩
noncomputable def isD (o:Obj):Bool:=match o.data with
 | .dict ..=>true
 | _=>false
noncomputable def Z2 (o:Obj) (x:Option Obj):Prop:=x=some o∨False
theorem Z2.eq {o:Obj} {x:Option Obj} (n:Z2 o x):x=some o:=n.elim id False.elim
theorem Z2.exact {o:Obj} {x:Option Obj} (n:Z2 o x) (_:isD o=false):x=some o:=n.eq
theorem Z2.get {o:Obj} {x:Option Obj} (n:Z2 o x):∃ o',x=some o'∧o'.data=o.data:=⟨o,n.eq,rfl⟩
theorem Z2.trans {o:Obj} {x y:Option Obj} (n:Z2 o x) (m:∀ o',x=some o'→Z2 o' y):Z2 o y:=m o n.eq
theorem yS.notD {o:Obj} (f:yS o):isD o=false:=by
 unfold isD
 rcases f with ⟨_,xs,n,q⟩ | ⟨_,vs,q⟩ <;> rw [q]
theorem Ze {o:Obj} {es:Array DictEntry} {n:Nat} (h:o.data=.dict es n):isD o=true:=by unfold isD;rw [h]
theorem z08 {o o':Obj} (h:o'.data=o.data):isD o'=isD o:=by unfold isD;rw [h]
structure Le (S:Addr→Prop) (μ:Mu) (s:Shared) (μ':Mu) (s':Shared):Prop where
 pre:μ <+: μ'
 fresh:∀ a∈zo μ',a∈zo μ∨s.heap.get? a=none
 exist:∀ b o,s.heap.get? b=some o→∃ o',s'.heap.get? b=some o'
 keep:∀ b o,b∉zo μ→¬ S b→s.heap.get? b=some o→Z2 o (s'.heap.get? b)
noncomputable def noS:Addr→Prop:=fun _=>False
theorem Le.refl {S:Addr→Prop}:Le S μ s μ s:=⟨List.prefix_refl _,fun _ h=>.inl h,fun _ o e=>⟨o,e⟩,fun _ _ _ _ e=>.inl e⟩
theorem Le.trans {S:Addr→Prop} {μ₁ μ₂:Mu} {s₁ s₂:Shared} (a:Le S μ s μ₁ s₁) (b:Le S μ₁ s₁ μ₂ s₂):Le S μ s μ₂ s₂:=by
 refine ⟨a.pre.trans b.pre,fun x hx=>?_,fun x o e=>?_,fun x o n ns e=>?_⟩
 ·rcases b.fresh x hx with h | h
  ·exact a.fresh x h
  ·cases q:s.heap.get? x with
   | none=>exact .inr rfl
   | some o=>obtain ⟨o',e'⟩:=a.exist x o q;rw [h] at e';cases e'
 ·obtain ⟨o',e'⟩:=a.exist x o e
  exact b.exist x o' e'
 ·refine (a.keep x o n ns e).trans fun o' e'=>b.keep x o' (fun h=>?_) ns e'
  rcases a.fresh x h with h | h
  ·exact n h
  ·rw [e] at h;cases h
theorem Le.weak {S S':Addr→Prop} (h:∀ b,S b→S' b) (a:Le S μ s μ' s'):Le S' μ s μ' s':=⟨a.pre,a.fresh,a.exist,fun b o n ns e=>a.keep b o n (fun q=>ns (h b q)) e⟩
theorem Le.drop {S S':Addr→Prop} (a:Le S μ s μ' s') (h:∀ b o,S b→s.heap.get? b=some o→S' b):Le S' μ s μ' s' :=
 ⟨a.pre,a.fresh,a.exist,fun b o n ns e=>a.keep b o n (fun q=>ns (h b o q e)) e⟩
theorem Le.ofKeep {S:Addr→Prop} (h:∀ b o,s.heap.get? b=some o→s'.heap.get? b=some o):Le S μ s μ s':=⟨List.prefix_refl _,fun _ h=>.inl h,fun b o e=>⟨o,h b o e⟩,fun b o _ _ e=>.inl (h b o e)⟩
theorem Le.fixed {S:Addr→Prop} (I:Inv X μ hp s) (hS:∀ b o,S b→s.heap.get? b=some o→¬ yS o) (a:Le S μ s μ' s'):∀ b o,s.heap.get? b=some o→yS o→s'.heap.get? b=some o:=fun b o e f =>
 (a.keep b o (fun h=>by obtain ⟨o',e',m⟩:=I.mut h;rw [e] at e';cases e';exact m.notFixed f) (fun h=>hS b o h e f) e).exact f.notD
theorem VR.le {x:AV} {v:Value} (r:VR X μ s.heap x v) (I:Inv X μ hp s) (a:Le noS μ s μ' s'):VR X μ' s'.heap x v:=r.mono a.pre (a.fixed I fun _ _ h=>h.elim)
theorem VRs.le {x:List AV} {v:List Value} (r:VRs X μ s.heap x v) (I:Inv X μ hp s) (a:Le noS μ s μ' s'):VRs X μ' s'.heap x v:=r.mono a.pre (a.fixed I fun _ _ h=>h.elim)
theorem Inv.grow (I:Inv X μ hp s) {h':Heap} {t:Nat} (hk:∀ b o,s.heap.get? b=some o→h'.get? b=some o):Inv X μ hp { s with heap:=h',toks:=t } where
 len:=I.len
 nodup:=I.nodup
 above:=I.above
 rep i p o a b:=(I.rep i p o a b).mono (List.prefix_refl _) (fun b o e _=>hk b o e) fun b _ o e=>hk b o e
 keep b o e:=hk b o (I.keep b o e)
 gens:=I.gens
 os:=I.os
theorem Inv.tok (I:Inv X μ hp s) (t:Nat):Inv X μ hp { s with toks:=t }:=⟨I.len,I.nodup,I.above,I.rep,I.keep,I.gens,I.os⟩
theorem Le.grow {S:Addr→Prop} {h':Heap} {t:Nat} (hk:∀ b o,s.heap.get? b=some o→h'.get? b=some o):Le S μ s μ { s with heap:=h',toks:=t }:=.ofKeep hk
theorem Le.tok {S:Addr→Prop} (t:Nat):Le S μ s μ { s with toks:=t }:=.ofKeep fun _ _ e=>e
noncomputable def Frs (X:Cx) (l:List Env) (μ:Mu) (h:Heap):Prop:=∀ v∈l,v.scope.kind≠.module∧∃ L o,v.frame=some L∧X.base.get? L=none∧L∉zo μ∧h.get? L=some o∧isD o=true
theorem Frs.mono {l:List Env} {h h':Heap} (f:Frs X l μ h) (m:∀ b o,b∉zo μ→h.get? b=some o→isD o=true→b∉zo μ'∧∃ o',h'.get? b=some o'∧isD o'=true):Frs X l μ' h':=fun v hv=>by
 obtain ⟨k,L,o,e1,e2,e3,e4,e5⟩:=f v hv
 obtain ⟨m1,o',m2,m3⟩:=m L o e3 e4 e5
 exact ⟨k,L,o',e1,e2,m1,m2,m3⟩
theorem Le.out {S:Addr→Prop} (a:Le S μ s μ' s') {b:Addr} {o:Obj} (n:b∉zo μ) (e:s.heap.get? b=some o):b∉zo μ':=fun h=>by
 rcases a.fresh b h with h | h
 ·exact n h
 ·rw [e] at h;cases h
theorem Frs.le {l:List Env} (f:Frs X l μ s.heap) (a:Le noS μ s μ' s'):Frs X l μ' s'.heap:=f.mono fun b o n e d=>by
 obtain ⟨o',e',q⟩:=(a.keep b o n (fun h=>h) e).get
 exact ⟨a.out n e,o',e',(z08 q).trans d⟩
theorem xf (μ ν:Mu):zo (μ++ν)=zo μ++zo ν:=by unfold zo;rw [List.flatMap_append]
theorem Inv.new (I:Inv X μ hp s) {h':Heap} {t:Nat} {p:Addr×Option Addr} {o:AO} (hk:∀ b o,s.heap.get? b=some o→h'.get? b=some o) (hn:∀ b∈ads p,s.heap.get? b=none) (nd:(ads p).Nodup)
  (r:OR X (μ++[p]) h' o p):Inv X (μ++[p]) (hp++[o]) { s with heap:=h',toks:=t }∧Le noS μ s (μ++[p]) { s with heap:=h',toks:=t }:=by
 have ea:zo (μ++[p])=zo μ++ads p:=by rw [xf];simp [zo,ads]
 refine ⟨⟨by simp [I.len],?_,fun a ha=>?_,fun i q x hi hx=>?_,fun b o e=>hk b o (I.keep b o e),I.gens,I.os⟩,⟨List.prefix_append _ _,fun a ha=>?_,fun b o e=>⟨o,hk b o e⟩,fun b o _ _ e=>.inl (hk b o e)⟩⟩
 ·rw [ea,List.nodup_append]
  refine ⟨I.nodup,nd,fun a ha b hb e=>?_⟩
  subst e
  obtain ⟨o,e,_⟩:=I.mut ha
  rw [hn a hb] at e;exact nos e
 ·rw [ea,List.mem_append] at ha
  rcases ha with ha | ha
  ·exact I.above a ha
  ·cases q:X.base.get? a with
   | none=>rfl
   | some o=>have:=I.keep a o q;rw [hn a ha] at this;exact nos this
 ·by_cases hlt:i<μ.length
  ·rw [List.getElem?_append_left hlt] at hi
   rw [List.getElem?_append_left (by rw [← I.len];exact hlt)] at hx
   exact (I.rep i q x hi hx).mono (List.prefix_append _ _) (fun b o e _=>hk b o e) fun b _ o e=>hk b o e
  ·have e1:i=μ.length:=by
    have:=(y7 hi).1
    simp at this;lia
   subst e1
   rw [List.getElem?_append_right (Nat.le_refl _)] at hi
   rw [I.len,List.getElem?_append_right (Nat.le_refl _)] at hx
   simp at hi hx
   subst hi hx
   exact r
 ·rw [ea,List.mem_append] at ha
  rcases ha with ha | ha
  ·exact .inl ha
  ·exact .inr (hn a ha)
theorem Inv.updS (I:Inv X μ hp s) {S:Addr→Prop} (hS:∀ b,S b→b∉zo μ∧X.base.get? b=none) (hF:∀ b o,S b→s.heap.get? b=some o→¬ yS o∧∃ o',s'.heap.get? b=some o') {a:Nat} {p:Addr×Option Addr} {o':AO} (ha:μ[a]? = some p)
  (hk:∀ b o,b∉ads p→¬ S b→s.heap.get? b=some o→s'.heap.get? b=some o) (r:OR X μ s'.heap o' p) (hg:s'.gens=s.gens) (hos:s'.os=s.os):Inv X μ (hp.set a o') s'∧Le S μ s μ s':=by
 have inA:∀ b∈ads p,b∈zo μ:=fun b hb=>yh.mpr ⟨a,p,ha,hb⟩
 have fx:∀ b o,s.heap.get? b=some o→yS o→s'.heap.get? b=some o:=fun b o e f=>hk b o (fun hb=>by
  obtain ⟨o',e',m⟩:=I.mut (inA b hb);rw [e] at e';cases e';exact m.notFixed f) (fun h=>(hF b o h e).1 f) e
 refine ⟨⟨by simp [I.len],I.nodup,I.above,fun i q x hi hx=>?_,fun b o e=>hk b o (fun hb=>?_) (fun h=>?_) (I.keep b o e),hg.trans I.gens,hos.trans I.os⟩,⟨List.prefix_refl _,fun _ h=>.inl h,fun b o e=>?_,fun b o n ns e=>.inl (hk b o (fun hb=>n (inA b hb)) ns e)⟩⟩
 ·by_cases hia:a=i
  ·subst hia
   rw [ha] at hi;cases hi
   rw [List.getElem?_set_self (by rw [← I.len];exact (y7 ha).1)] at hx
   cases hx;exact r
  ·rw [List.getElem?_set_ne hia] at hx
   exact (I.rep i q x hi hx).mono (List.prefix_refl _) fx fun b hb o e=>hk b o (fun hb'=>hia (qZ I.nodup ha hi hb' hb)) (fun h=>(hS b h).1 (yh.mpr ⟨i,q,hi,hb⟩)) e
 ·have:=I.above b (inA b hb);rw [e] at this;cases this
 ·have:=(hS b h).2;rw [e] at this;cases this
 ·by_cases hb:b∈ads p
  ·obtain ⟨o',e',_⟩:=r.mut b hb;exact ⟨o',e'⟩
  ·by_cases h:S b
   ·exact (hF b o h e).2
   ·exact ⟨o,hk b o hb h e⟩
theorem Inv.upd (I:Inv X μ hp s) {h':Heap} {t a:Nat} {p:Addr×Option Addr} {o':AO} (ha:μ[a]? = some p) (hk:∀ b o,b∉ads p→s.heap.get? b=some o→h'.get? b=some o)
  (r:OR X μ h' o' p):Inv X μ (hp.set a o') { s with heap:=h',toks:=t }∧Le noS μ s μ { s with heap:=h',toks:=t } :=
 I.updS (s':={ s with heap:=h',toks:=t }) (S:=noS) (fun _ h=>h.elim) (fun _ _ h=>h.elim) ha (fun b o n _ e=>hk b o n e) r rfl rfl
theorem Inv.own (I:Inv X μ hp s) {S:Addr→Prop} (hS:∀ b,S b→b∉zo μ∧X.base.get? b=none) (hF:∀ b o,S b→s.heap.get? b=some o→¬ yS o∧∃ o',s'.heap.get? b=some o')
  (hk:∀ b o,¬ S b→s.heap.get? b=some o→s'.heap.get? b=some o) (hg:s'.gens=s.gens) (hos:s'.os=s.os):Inv X μ hp s'∧Le S μ s μ s':=by
 have fx:∀ b o,s.heap.get? b=some o→yS o→s'.heap.get? b=some o:=fun b o e f=>hk b o (fun h=>(hF b o h e).1 f) e
 refine ⟨⟨I.len,I.nodup,I.above,fun i q x hi hx=>(I.rep i q x hi hx).mono (List.prefix_refl _) fx fun b hb o e=>hk b o (fun h=>(hS b h).1 (yh.mpr ⟨i,q,hi,hb⟩)) e,fun b o e=>hk b o (fun h=>?_) (I.keep b o e),hg.trans I.gens,hos.trans I.os⟩,
  ⟨List.prefix_refl _,fun _ h=>.inl h,fun b o e=>?_,fun b o _ ns e=>.inl (hk b o ns e)⟩⟩
 ·have:=(hS b h).2;rw [e] at this;cases this
 ·by_cases h:S b
  ·exact (hF b o h e).2
  ·exact ⟨o,hk b o h e⟩
end
theorem Zi {h:Hp} {a:Nat} {kvs:List (Int×AV)} (e:yl h a=some kvs):h[a]? = some (.dict kvs):=by
 unfold yl at e
 cases q:h[a]? with
 | none=>rw [q] at e;exact nos e
 | some o =>
  rw [q] at e
  cases o with
  | dict k=>cases e;rfl
  | _=>exact nos e
theorem jP {h:Hp} {a:Nat} {kvs:List (Str×AV)} (e:qT h a=some kvs):h[a]? = some (.dicS kvs):=by
 unfold qT at e
 cases q:h[a]? with
 | none=>rw [q] at e;exact nos e
 | some o =>
  rw [q] at e
  cases o with
  | dicS k=>cases e;rfl
  | _=>exact nos e
theorem PRs.get {K:Type} [DecidableEq K] {X:Cx} {μ:Mu} {h:Heap} {k:K} {kvs:List (K×AV)} {es:List (K×Value)} (r:PRs X μ h kvs es):(yb kvs k=none∧valueAt es k=none)∨∃ v w,yb kvs k=some v∧valueAt es k=some w∧VR X μ h v w:=by
 induction r with
 | nil=>exact .inl ⟨rfl,rfl⟩
 | @cons k' v w r es a _ ih =>
  by_cases q:k'=k
  ·subst q
   refine .inr ⟨v,w,?_,?_,a⟩
   ·unfold yb;rw [List.find?_cons_of_pos (by simp)];rfl
   ·unfold valueAt;rw [List.find?_cons_of_pos (by simp)];rfl
  ·have e1:yb ((k',v)::r) k=yb r k:=by unfold yb;rw [List.find?_cons_of_neg (by simpa using q)]
   have e2:valueAt ((k',w)::es) k=valueAt es k:=by unfold valueAt;rw [List.find?_cons_of_neg (by simpa using q)]
   rw [e1,e2];exact ih
theorem PRs.len {K:Type} {X:Cx} {μ:Mu} {h:Heap} {kvs:List (K×AV)} {es:List (K×Value)} (r:PRs X μ h kvs es):kvs.length=es.length:=by
 induction r with
 | nil=>rfl
 | cons _ _ ih=>exact congrArg (·+1) ih
theorem PRs.isSome {X:Cx} {μ:Mu} {h:Heap} {k:Int} {kvs:List (Int×AV)} {es:List (Int×Value)} (r:PRs X μ h kvs es):(valueAt es k).isSome=(yb kvs k).isSome:=by
 rcases r.get (k:=k) with ⟨a,b⟩ | ⟨v,w,a,b,_⟩ <;> rw [a,b] <;> rfl
section
variable {X:Cx} {μ:Mu} {h:Heap}
theorem VRs.length {xs:List AV}:∀ {vs:List Value},VRs X μ h xs vs→vs.length=xs.length:=by
 induction xs with
 | nil=>intro vs r;rw [r.nil_];rfl
 | cons x xs ih=>intro vs r;obtain ⟨v,ws,rfl,_,q⟩:=r.cons_;exact congrArg (·+1) (ih q)
theorem VRs.size {xs:List AV} {items:Array Value} (r:VRs X μ h xs items.toList):items.size=xs.length:=r.length
theorem VRs.get {xs:List AV}:∀ {vs:List Value},VRs X μ h xs vs→∀ {k:Nat} {x:AV},xs[k]? = some x→∃ v,vs[k]? = some v∧VR X μ h x v:=by
 induction xs with
 | nil=>intro vs r k x e;exact nos e
 | cons x xs ih =>
  intro vs r k y e
  obtain ⟨v,ws,rfl,a,q⟩:=r.cons_
  cases k with
  | zero=>cases e;exact ⟨_,rfl,a⟩
  | succ k=>exact ih q e
theorem VRs.app {xs:List AV}:∀ {vs:List Value},VRs X μ h xs vs→∀ {ys:List AV} {ws:List Value},VRs X μ h ys ws→VRs X μ h (xs++ys) (vs++ws):=by
 induction xs with
 | nil=>intro vs r ys ws q;rw [r.nil_];exact q
 | cons x xs ih=>intro vs r ys ws q;obtain ⟨v,vs,rfl,a,r⟩:=r.cons_;exact .cons a (ih r q)
theorem VRs.take {xs:List AV}:∀ {vs:List Value},VRs X μ h xs vs→∀ k,VRs X μ h (xs.take k) (vs.take k):=by
 induction xs with
 | nil=>intro vs r k;rw [r.nil_];cases k <;> exact .nil
 | cons x xs ih =>
  intro vs r k
  obtain ⟨v,vs,rfl,a,r⟩:=r.cons_
  cases k with
  | zero=>exact .nil
  | succ k=>exact .cons a (ih r k)
theorem VRs.drop {xs:List AV}:∀ {vs:List Value},VRs X μ h xs vs→∀ k,VRs X μ h (xs.drop k) (vs.drop k):=by
 induction xs with
 | nil=>intro vs r k;rw [r.nil_];cases k <;> exact .nil
 | cons x xs ih =>
  intro vs r k
  obtain ⟨v,vs,rfl,a,q⟩:=r.cons_
  cases k with
  | zero=>exact r
  | succ k=>exact ih q k
theorem VRs.set {x:AV} {v:Value} (hv:VR X μ h x v) {xs:List AV}:∀ {vs:List Value},VRs X μ h xs vs→∀ k,VRs X μ h (xs.set k x) (vs.set k v):=by
 induction xs with
 | nil=>intro vs r k;rw [r.nil_];exact .nil
 | cons y xs ih =>
  intro vs r k
  obtain ⟨u,vs,rfl,a,q⟩:=r.cons_
  cases k with
  | zero=>exact .cons hv q
  | succ k=>exact .cons a (ih q k)
theorem VRs.one {x:AV} {vs:List Value} (r:VRs X μ h [x] vs):∃ v,vs=[v]∧VR X μ h x v:=by
 obtain ⟨v,ws,rfl,a,q⟩:=r.cons_;rw [q.nil_];exact ⟨_,rfl,a⟩
theorem VRs.two {x y:AV} {vs:List Value} (r:VRs X μ h [x,y] vs):∃ v u,vs=[v,u]∧VR X μ h x v∧VR X μ h y u:=by
 obtain ⟨v,ws,rfl,a,q⟩:=r.cons_;obtain ⟨u,rfl,b⟩:=q.one;exact ⟨_,_,rfl,a,b⟩
end
theorem y4 {v:AV} {i:Int} (e:yG v=some i):v=.int i:=by
 cases v with
 | int=>cases e;rfl
 | _=>exact nos e
theorem jd {v:AV} {i:Bool} (e:X7 v=some i):v=.bool i:=by
 cases v with
 | bool=>cases e;rfl
 | _=>exact nos e
theorem z2y {v:AV} {i:Bi} (e:zCd v=some i):v=.bi i:=by
 cases v with
 | bi=>cases e;rfl
 | _=>exact nos e
theorem xJ {v:AV} {i:Str} (e:yj v=some i):v=.str i:=by
 cases v with
 | str=>cases e;rfl
 | _=>exact nos e
theorem yM {v:AV} {i:Nat} (e:yN v=some i):v=.ref i:=by
 cases v with
 | ref=>cases e;rfl
 | _=>exact nos e
theorem ZG {v:AV} {i:List AV} (e:wo v=some i):v=.tup i:=by
 cases v with
 | tup=>cases e;rfl
 | _=>exact nos e
theorem yX {h:Hp} {a:Nat} {xs:List AV} (e:ze h a=some xs):h[a]? = some (.list xs):=by
 unfold ze at e
 cases q:h[a]? with
 | none=>rw [q] at e;exact nos e
 | some o=>rw [q] at e;cases o <;> cases e;rfl
theorem yW {l:List AV} {a:AV} (e:xv l=some a):l=[a]:=by
 cases l with
 | nil=>exact nos e
 | cons x l=>cases l <;> cases e;rfl
theorem wI {l:List AV} {p:AV×AV} (e:jf l=some p):l=[p.1,p.2]:=by
 cases l with
 | nil=>exact nos e
 | cons x l =>
  cases l with
  | nil=>exact nos e
  | cons y l=>cases l <;> cases e;rfl
theorem qP {α β:Type} {f:α→Option β} {x:α} {xs:List α} {zs:List β} (e:yT f (x::xs)=some zs):∃ y ys,f x=some y∧yT f xs=some ys∧zs=y::ys:=by
 have e:(match f x,yT f xs with | some y,some ys=>some (y::ys) | _,_=>none)=some zs:=e
 cases q:f x with
 | none=>rw [q] at e;exact nos e
 | some y =>
  cases q':yT f xs with
  | none=>rw [q,q'] at e;exact nos e
  | some ys=>rw [q,q'] at e;cases e;exact ⟨_,_,rfl,rfl,rfl⟩
structure Room (n:Nat) (A:Around) (l:List Env):Prop where
 frames:A.frames=some l
 depth:A.depth+2 * n+2<recursionLimit
 units:A.units+100 * n+300<cLine
 handled:A.handled=none
noncomputable def PE (X:Cx) (μ:Mu) (s:Shared) (v:AV) (hp':Hp) (Q:Value→Shared→Prop):Prop :=
 ∀ v' μ' s',Le noS μ s μ' s'→Inv X μ' hp' s'→VR X μ' s'.heap v v'→Q v' s'
section
variable {X:Cx} {μ μ':Mu} {hp hp':Hp} {s s':Shared} {Q:Value→Shared→Prop} {v:AV}
theorem PE.le (k:PE X μ s v hp' Q) (a:Le noS μ s μ' s'):PE X μ' s' v hp' Q:=fun v' μ'' s'' b=>k v' μ'' s'' (a.trans b)
theorem PE.here (k:PE X μ s v hp Q) (I:Inv X μ hp s) {v':Value} (r:VR X μ s.heap v v'):Q v' s:=k v' μ s .refl I r
theorem PE.tok (k:PE X μ s v hp Q) (I:Inv X μ hp s) {v':Value} {t:Nat} (r:VR X μ s.heap v v'):Q v' { s with toks:=t }:=k v' μ _ (.tok t) (I.tok t) r
noncomputable def PG {α β:Type} (rel:Mu→Heap→α→β→Prop) (X:Cx) (l:List Env) (μ:Mu) (s:Shared) (o:Out α) (Q:β→Shared→Prop) (E:Value→Shared→Prop):Prop:=match o with
 | .stuck=>False
 | .ok a h=>∀ b μ' s',Le noS μ s μ' s'→Inv X μ' h s'→rel μ' s'.heap a b→Q b s'
theorem PG.le {α β:Type} {rel:Mu→Heap→α→β→Prop} {l:List Env} {o:Out α} {Q:β→Shared→Prop} {E:Value→Shared→Prop} (k:PG rel X l μ s o Q E) (a:Le noS μ s μ' s'):PG rel X l μ' s' o Q E:=by
 cases o with
 | stuck=>exact k
 | ok v h=>exact fun b μ'' s'' L=>k b μ'' s'' (a.trans L)
theorem PG.bind {α β γ δ:Type} {rel:Mu→Heap→α→β→Prop} {rel':Mu→Heap→γ→δ→Prop} {l:List Env} {o:Out α} {f:α→Hp→Out γ} {Q':δ→Shared→Prop} {Q:β→Shared→Prop} {E:Value→Shared→Prop}
  (k:PG rel' X l μ s (o.bind f) Q' E) (h:∀ a b hp' μ' s',Le noS μ s μ' s'→Inv X μ' hp' s'→rel μ' s'.heap a b→PG rel' X l μ' s' (f a hp') Q' E→Q b s'):PG rel X l μ s o Q E:=by
 cases o with
 | stuck=>exact k
 | ok v hp'=>exact fun b μ' s' L I r=>h v b hp' μ' s' L I r (PG.le (o:=f v hp') k L)
theorem PG.bind0 {α β γ δ:Type} {rel:Mu→Heap→α→β→Prop} {rel':Mu→Heap→γ→δ→Prop} {l:List Env} {o:Out α} {f:α→Hp→Out γ} {Q':δ→Shared→Prop} {Q:β→Shared→Prop} {E:Value→Shared→Prop}
  (k:PG rel' X l μ s (o.bind0 f) Q' E) (h:∀ a b hp' μ' s',Le noS μ s μ' s'→Inv X μ' hp' s'→rel μ' s'.heap a b→PG rel' X l μ' s' (f a hp') Q' E→Q b s'):PG rel X l μ s o Q E:=by
 cases o with
 | stuck=>exact k
 | ok v hp'=>exact fun b μ' s' L I r=>h v b hp' μ' s' L I r (PG.le (o:=f v hp') k L)
theorem PG.of {α β:Type} {rel:Mu→Heap→α→β→Prop} {l:List Env} {o:Option α} {hp:Hp} {Q:β→Shared→Prop} {E:Value→Shared→Prop} (k:PG rel X l μ s (Out.of o hp) Q E):∃ a,o=some a∧PG rel X l μ s (.ok a hp) Q E:=by
 cases o with
 | none=>exact k.elim
 | some a=>exact ⟨a,rfl,k⟩
theorem PG.ofP {β:Type} {rel:Mu→Heap→AV→β→Prop} {l:List Env} {o:Option (AV×Hp)} {Q:β→Shared→Prop} {E:Value→Shared→Prop} (k:PG rel X l μ s (Mine.ofP o) Q E):∃ a hp,o=some (a,hp)∧PG rel X l μ s (.ok a hp) Q E:=by
 cases o with
 | none=>exact k.elim
 | some a=>exact ⟨a.1,a.2,rfl,k⟩
noncomputable abbrev PO (X:Cx) (l:List Env) (μ:Mu) (s:Shared) (o:Out AV) (Q:Value→Shared→Prop) (E:Value→Shared→Prop):Prop:=PG (fun μ h=>VR X μ h) X l μ s o Q E
noncomputable def DR (h:Heap) (n:Nat) (c:Value) (d:PyData):Prop:=(∃ as,Reads h c d as)∧d.canLay0=true∧d.depth≤n
noncomputable def DRs (h:Heap) (n:Nat) (cs:List Value) (ds:List PyData):Prop:=(∃ as,ReadsAll h cs ds as)∧PyData.canLayAll0 ds=true∧PyData.depthAll ds≤n
theorem jt {n:Nat} {v:AV} {c:Value} {d:PyData} (e:Q2 v=some d) (r:VR X μ s.heap v c):DR s.heap n c d:=by
 cases v with
 | none=>cases e;rw [r.none_];exact ⟨⟨_,.none⟩,rfl,Nat.zero_le _⟩
 | bool b=>cases e;rw [r.bool_];exact ⟨⟨_,.bool _⟩,rfl,Nat.zero_le _⟩
 | int i=>cases e;obtain ⟨t,rfl⟩:=r.int_;exact ⟨⟨_,.int _ _⟩,rfl,Nat.zero_le _⟩
 | str x =>
  have e:(if PyData.strOk x then some (PyData.str x) else none)=some d:=e
  by_cases h:PyData.strOk x=true
  ·rw [if_pos h] at e;cases e;obtain ⟨t,rfl,_⟩:=r.str_;exact ⟨⟨_,.str _ _⟩,h,Nat.zero_le _⟩
  ·rw [if_neg h] at e;exact nos e
 | _=>exact nos e
theorem j3 {n:Nat} (h:∀ {v:AV} {c:Value} {d:PyData},toD hp n v=some d→VR X μ s.heap v c→DR s.heap n c d) {xs:List AV}:∀ {vs:List Value} {ds:List PyData},yT (toD hp n) xs=some ds→VRs X μ s.heap xs vs→DRs s.heap n vs ds:=by
 induction xs with
 | nil=>intro vs ds e r;cases e;rw [r.nil_];exact ⟨⟨_,.nil⟩,rfl,Nat.zero_le _⟩
 | cons x xs ih =>
  intro vs ds e r
  obtain ⟨y,ys,e1,e2,rfl⟩:=qP e
  obtain ⟨v,ws,rfl,a,q⟩:=r.cons_
  obtain ⟨⟨as,ra⟩,c,dp⟩:=h e1 a
  obtain ⟨⟨bs,rb⟩,c',dp'⟩:=ih e2 q
  exact ⟨⟨_,.cons ra rb⟩,Bool.and_eq_true_iff.mpr ⟨c,c'⟩,Nat.max_le.mpr ⟨dp,dp'⟩⟩
theorem xh (I:Inv X μ hp s) (n:Nat):∀ {v:AV} {c:Value} {d:PyData},toD hp n v=some d→VR X μ s.heap v c→DR s.heap n c d:=by
 induction n with
 | zero=>intro v c d e r;exact jt e r
 | succ n ih =>
  intro v c d e r
  have e:(match yN v with
   | some a=>(match ze hp a with
    | some xs=>(yT (toD hp n) xs).map PyData.list
    | none=>none)
   | none=>(match wo v with
    | some xs=>(yT (toD hp n) xs).map PyData.tuple
    | none=>Q2 v))=some d:=e
  cases q:yN v with
  | none =>
   rw [q] at e
   have e:(match wo v with
    | some xs=>(yT (toD hp n) xs).map PyData.tuple
    | none=>Q2 v)=some d:=e
   cases qt:wo v with
   | none=>rw [qt] at e;exact jt e r
   | some xs =>
    rw [qt] at e
    have:=ZG qt;subst this
    obtain ⟨ds,e',rfl⟩:=y9 e
    obtain ⟨b,items,rfl,⟨o,ho,hc,m,hd⟩,_,rs⟩:=r.tup_
    obtain ⟨⟨as,ra⟩,c,dp⟩:=j3 ih e' rs
    exact ⟨⟨_,.tuple ho hc hd ra⟩,c,Nat.succ_le_succ dp⟩
  | some a =>
   have:=yM q;subst this
   have e:(match ze hp a with
    | some xs=>(yT (toD hp n) xs).map PyData.list
    | none=>none)=some d:=e
   cases ql:ze hp a with
   | none=>rw [ql] at e;exact nos e
   | some xs =>
    rw [ql] at e
    obtain ⟨ds,e',rfl⟩:=y9 e
    obtain ⟨b,items,m,rfl,_,l,_,rs⟩:=I.list_at r (yX ql)
    obtain ⟨⟨as,ra⟩,c,dp⟩:=j3 ih e' rs
    exact ⟨⟨_,.list l rfl rfl ra⟩,c,Nat.succ_le_succ dp⟩
end
section
variable {prog:Program} {X:Cx} {μ:Mu} {hp hp':Hp} {s:Shared} {A:Around} {E:Value→Shared→Prop} {n:Nat} {l:List Env} {Q:Value→Shared→Prop}
theorem Room.units' (R:Room n A l):A.units+200<cLine:=Nat.lt_of_le_of_lt (Nat.le_trans (Nat.add_le_add_left (show 200≤100 * n+300 from Nat.le_add_left_of_le (by decide)) _) (Nat.le_of_eq (Nat.add_assoc _ _ _).symm)) R.units
theorem qd:small=1048576:=rfl
theorem y8 {k:Nat} (h:k≤small):k≤sizeLine:=Nat.le_trans h (by decide)
theorem XM {k:Nat} (h:k≤small):(k:Int)<2 ^ 63:=Int.lt_of_le_of_lt (Int.ofNat_le.mpr h) (by decide)
theorem qe (I:Inv X μ hp s) {v:AV} {c:Value} {xs:List AV} (e:wD hp v=some xs) (r:VR X μ s.heap v c) :
  ∃ a items,c=.ref a∧s.heap.IsList a items∧xs.length≤small∧VRs X μ s.heap xs items.toList:=by
 cases v with
 | lst ys =>
  cases e
  obtain ⟨a,items,rfl,⟨o,ho,q⟩,z,rs⟩:=r.lst_
  exact ⟨_,_,rfl,⟨o,I.keep _ _ ho,q⟩,z,rs⟩
 | ref a =>
  obtain ⟨d,items,m,rfl,_,l,z,rs⟩:=I.list_at r (yX e)
  exact ⟨_,_,rfl,l.isList,z,rs⟩
 | _=>exact nos e
theorem qr {v:AV} {c:Value} {b:Bool} {Q:Bool→Shared→Prop} (e:xV hp v=some b) (I:Inv X μ hp s) (r:VR X μ s.heap v c)
  (k:∀ t,Q b { s with toks:=t }):wpAny (model prog X.w) A (truthy c) Q E s:=by
 cases v with
 | none=>cases e;rw [r.none_];exact PyProof.Rows.truthy_none (k s.toks)
 | bool b=>cases e;rw [r.bool_];exact wpAny_truthy_bool (k s.toks)
 | int i =>
  cases e
  obtain ⟨t,rfl⟩:=r.int_
  refine P.truthy_int ?_
  have q:(i != 0)=decide (i≠0):=by
   by_cases h:i=0
   ·rw [h];rfl
   ·rw [decide_eq_true h];exact bne_iff_ne.mpr h
  rw [q];exact k s.toks
 | _=>exact nos e
theorem YJ {a b:AV} {c d:Value} {r:Bool} (e:isA a b=some r) (ra:VR X μ s.heap a c) (rb:VR X μ s.heap b d):plainIs c d=true∧(c == d)=r:=by
 cases b with
 | none =>
  rw [rb.none_]
  cases a with
  | none=>cases e;rw [ra.none_];exact ⟨rfl,rfl⟩
  | bool x=>cases e;rw [ra.bool_];exact ⟨rfl,rfl⟩
  | int x=>cases e;obtain ⟨t,rfl⟩:=ra.int_;exact ⟨rfl,rfl⟩
  | ref x=>cases e;obtain ⟨t,_,rfl⟩:=ra.ref_;exact ⟨rfl,rfl⟩
  | str x=>cases e;obtain ⟨t,rfl,_⟩:=ra.str_;exact ⟨rfl,rfl⟩
  | _=>exact nos e
 | bool y =>
  rw [rb.bool_]
  obtain ⟨x,hx,rfl⟩:=y9 e
  rw [jd hx] at ra
  rw [ra.bool_]
  exact ⟨rfl,by cases x <;> cases y <;> rfl⟩
 | _=>exact nos e
theorem YY {a b:AV} {c d:Value} {r:Bool} (e:aEq hp a b=some r) (R:Room n A l) (I:Inv X μ hp s) (ra:VR X μ s.heap a c) (rb:VR X μ s.heap b d) :
  ∃ x y as bs,Reads s.heap c x as∧Reads s.heap d y bs∧x.canLay0=true∧y.canLay0=true∧A.units+min x.depth y.depth<cLine∧PyData.eqv x y=r:=by
 obtain ⟨x,hx,e⟩:=zY e
 obtain ⟨y,hy,rfl⟩:=y9 e
 obtain ⟨⟨as,r1⟩,c1,d1⟩:=xh I _ hx ra
 obtain ⟨⟨bs,r2⟩,c2,d2⟩:=xh I _ hy rb
 exact ⟨x,y,as,bs,r1,r2,c1,c2,Nat.lt_of_le_of_lt (Nat.add_le_add_left (Nat.le_trans (Nat.min_le_left _ _) (Nat.le_trans d1 (by decide))) _) R.units',rfl⟩
theorem w4 {p:Int→Int→Bool} {a b:AV} {c d:Value} {r:Bool} (e:z0x p a b=some r) (ra:VR X μ s.heap a c) (rb:VR X μ s.heap b d):∃ i j t u,c=.int i t∧d=.int j u∧p i j=r:=by
 obtain ⟨i,hi,e⟩:=zY e
 obtain ⟨j,hj,rfl⟩:=y9 e
 have:=y4 hi;subst this
 have:=y4 hj;subst this
 obtain ⟨t,rfl⟩:=ra.int_
 obtain ⟨u,rfl⟩:=rb.int_
 exact ⟨_,_,_,_,rfl,rfl,rfl⟩
theorem Xx {a b:AV} {c d:Value} {r neg:Bool} {Q:Value→Shared→Prop} (e:inA hp a b=some r) (R:Room n A l) (I:Inv X μ hp s) (ra:VR X μ s.heap a c) (rb:VR X μ s.heap b d)
  (k:∀ t,Q (.bool (bif neg then !r else r)) { s with toks:=t }):wpAny (model prog X.w) A (compareOp (bif neg then .NotIn else .In) c d) Q E s:=by
 have e:(match yN b with
  | some d=>(match yl hp d with
   | some kvs=>(yG a).map fun k=>(yb kvs k).isSome
   | none=>(Yl hp b).bind fun ds=>(toD hp 8 a).map fun x=>ds.any fun y=>PyData.eqv y x)
  | none=>(yj a).bind fun x=>(yj b).map fun y=>Txt.contains y x)=some r:=e
 cases hb:yN b with
 | some q =>
  rw [hb] at e
  have e:(match yl hp q with
   | some kvs=>(yG a).map fun k=>(yb kvs k).isSome
   | none=>(Yl hp b).bind fun ds=>(toD hp 8 a).map fun x=>ds.any fun y=>PyData.eqv y x)=some r:=e
  cases hd:yl hp q with
  | some kvs =>
   rw [hd] at e
   obtain ⟨i,hi,rfl⟩:=y9 e
   rw [y4 hi] at ra
   rw [yM hb] at rb
   obtain ⟨t,rfl⟩:=ra.int_
   obtain ⟨d',es,rfl,_,m,p,z,_⟩:=I.dict_at rb (Zi hd) prog X.w
   have hk:(intKind prog X.w).is i (.int i t)=true:=by show Value.isInt i (.int i t)=true;simp [Value.isInt]
   rw [← p.isSome] at k
   cases neg with
   | false=>exact wpAny_in_of hk z m.mapOf (k _)
   | true=>exact wpAny_notIn_of hk z m.mapOf (k _)
  | none =>
   rw [hd] at e
   obtain ⟨ds,hy,e⟩:=zY e
   obtain ⟨x,hx,rfl⟩:=y9 e
   obtain ⟨q',h1,hy⟩:=zY hy
   obtain ⟨xs,h2,hy⟩:=zY hy
   have hy:toD hp 8 b=some (.list ds):=by
    show (match yN b with
     | some a=>(match ze hp a with
      | some xs=>(yT (toD hp 7) xs).map PyData.list
      | none=>none)
     | none=>_)=_
    rw [h1]
    show (match ze hp q' with
      | some xs=>(yT (toD hp 7) xs).map PyData.list
      | none=>none)=_
    rw [h2]
    show (yT (toD hp 7) xs).map PyData.list=_
    rw [hy];rfl
   obtain ⟨⟨as,r1⟩,c1,d1⟩:=xh I _ hx ra
   obtain ⟨⟨bs,r2⟩,c2,d2⟩:=xh I _ hy rb
   have hu:A.units+1+min (PyData.depthAll ds) x.depth<cLine :=
    Nat.lt_of_le_of_lt (show A.units+1+min (PyData.depthAll ds) x.depth≤A.units+200 from by
     rw [Nat.add_assoc]
     exact Nat.add_le_add_left (Nat.le_trans (Nat.add_le_add_left (Nat.le_trans (Nat.min_le_right _ _) d1) 1) (by decide)) _) R.units'
   cases neg with
   | false=>exact SeqAt.in_list_reads r2 r1 c2 c1 hu (k s.toks)
   | true=>exact SeqAt.notIn_list_reads r2 r1 c2 c1 hu (k s.toks)
 | none =>
 rw [hb] at e
 obtain ⟨x,hx,e⟩:=zY e
 obtain ⟨y,hy,rfl⟩:=y9 e
 rw [xJ hx] at ra
 rw [xJ hy] at rb
 obtain ⟨t,rfl,_⟩:=ra.str_
 obtain ⟨u,rfl,_⟩:=rb.str_
 cases neg with
 | false=>exact SB.contains (k s.toks)
 | true=>exact SB.notContains (k s.toks)
theorem wk {op:CmpOp} {a b:AV} {c d:Value} {r:Bool} {Q:Value→Shared→Prop} (e:yZ op a b hp=some r) (R:Room n A l) (I:Inv X μ hp s) (ra:VR X μ s.heap a c) (rb:VR X μ s.heap b d)
  (k:∀ t,Q (.bool r) { s with toks:=t }):wpAny (model prog X.w) A (compareOp op c d) Q E s:=by
 have k0:=k s.toks
 cases op with
 | Eq =>
  obtain ⟨x,y,as,bs,r1,r2,c1,c2,d1,rfl⟩:=YY e R I ra rb
  exact SeqAt.compareEq_reads r1 r2 c1 c2 d1 k0
 | NotEq =>
  have e:(match aEq hp a b with
   | some r=>some (!r)
   | none=>neL hp a b)=some r:=e
  cases hq:aEq hp a b with
  | some r' =>
   rw [hq] at e
   cases e
   obtain ⟨x,y,as,bs,r1,r2,c1,c2,d1,rfl⟩:=YY hq R I ra rb
   exact SeqAt.compareNe_reads r1 r2 c1 c2 d1 k0
  | none =>
   rw [hq] at e
   obtain ⟨x,h1,e⟩:=zY e
   obtain ⟨xs,h2,e⟩:=zY e
   obtain ⟨y,h3,e⟩:=zY e
   obtain ⟨ys,h4,e⟩:=zY e
   by_cases hz:xs.length=ys.length
   ·rw [if_pos hz] at e;exact nos e
   ·rw [if_neg hz] at e
    cases e
    rw [yM h1] at ra
    rw [yM h3] at rb
    obtain ⟨d1,i1,n1,rfl,_,l1,_,r1⟩:=I.list_at ra (yX h2)
    obtain ⟨d2,i2,n2,rfl,_,l2,_,r2⟩:=I.list_at rb (yX h4)
    exact SeqAt.RcNeAt.lists_lengths l1.isList l2.isList (by rw [r1.size,r2.size,bne_iff_ne];exact hz) (Nat.lt_of_le_of_lt (Nat.le_add_right _ _) R.units') prog X.w E Q k0
 | Lt=>obtain ⟨i,j,t,u,rfl,rfl,rfl⟩:=w4 e ra rb;exact P.lt_int k0
 | LtE=>obtain ⟨i,j,t,u,rfl,rfl,rfl⟩:=w4 e ra rb;exact P.le_int k0
 | Gt=>obtain ⟨i,j,t,u,rfl,rfl,rfl⟩:=w4 e ra rb;exact P.gt_int k0
 | GtE=>obtain ⟨i,j,t,u,rfl,rfl,rfl⟩:=w4 e ra rb;exact P.ge_int k0
 | Is =>
  obtain ⟨p,q⟩:=YJ e ra rb
  exact wpAny_is_plain p (by rw [q];exact k0)
 | IsNot =>
  obtain ⟨r',e',rfl⟩:=y9 e
  obtain ⟨p,q⟩:=YJ e' ra rb
  exact wpAny_isNot_plain p (by rw [q];exact k0)
 | In=>exact Xx (neg:=false) e R I ra rb k
 | NotIn =>
  obtain ⟨r',e',rfl⟩:=y9 e
  exact Xx (neg:=true) e' R I ra rb k
end
section
variable {prog:Program} {X:Cx} {μ:Mu} {hp hp':Hp} {s:Shared} {A:Around} {E:Value→Shared→Prop} {n:Nat} {l:List Env} {Q:Value→Shared→Prop}
theorem yp (h:Heap):h.get? h.objs.size=none:=by
 cases q:h.get? h.objs.size with
 | none=>rfl
 | some o=>exact absurd (Heap.lt_size q) (Nat.lt_irrefl _)
theorem wm {c:Addr} {b:Addr} (hb:b∈ads (c,none)):b=c:=by
 cases hb with
 | head=>rfl
 | tail _ h=>cases h
theorem qh (μ:Mu) (p:Addr×Option Addr) {k:Nat} (hk:μ.length=k):(μ++[p])[k]? = some p:=by
 subst hk
 rw [List.getElem?_append_right (Nat.le_refl _),Nat.sub_self];rfl
theorem PE.listNew {xs:List AV} (k:PE X μ s (.ref hp.length) (hp++[.list xs]) Q) (I:Inv X μ hp s) {items:Array Value} {t j:Nat} {h':Heap} (z:xs.length≤small)
  (hk:∀ b o,s.heap.get? b=some o→h'.get? b=some o) (hl:h'.get? s.heap.objs.size=some { cls:=.type "list",dict:=none,data:=.seq items j,slots:=#[] }) (r:VRs X μ h' xs items.toList) :
  Q (.ref s.heap.objs.size) { s with heap:=h',toks:=t }:=by
 obtain ⟨I',a⟩:=I.new (t:=t) (p:=(s.heap.objs.size,none)) (o:=.list xs) hk (fun b hb=>by rw [wm hb];exact yp _) (List.nodup_cons.mpr ⟨List.not_mem_nil,List.nodup_nil⟩) (.list (n:=j) hl z (r.mono (List.prefix_append _ _) fun _ _ e _=>e))
 exact k _ _ _ a I' (.ref (qh μ _ I.len))
theorem PE.list {xs:List AV} (k:PE X μ s (.ref hp.length) (hp++[.list xs]) Q) (I:Inv X μ hp s) {items:Array Value} {t j:Nat} (z:xs.length≤small) (r:VRs X μ s.heap xs items.toList) :
  Q (.ref s.heap.objs.size) { s with heap:=s.heap.push { cls:=.type "list",data:=.seq items j },toks:=t } :=
 k.listNew I z (fun b o e=>Heap.get?_push_of_some _ e) (Heap.get?_push_size _ rfl) (r.mono (List.prefix_refl _) fun b o e _=>Heap.get?_push_of_some _ e)
theorem VRs.reps {μ:Mu} {h:Heap} {x:AV} {vs:List Value} (r:VRs X μ h [x] vs):∀ m:Nat,VRs X μ h (List.replicate m x) (List.replicate m vs).flatten
 | 0=>.nil
 | m+1=>by
  obtain ⟨v,rfl,r1⟩:=r.one
  rw [List.replicate_succ,List.replicate_succ]
  exact .cons r1 (VRs.reps (.cons r1 .nil) m)
theorem z13 {i:Int} (h:i.natAbs<2 ^ 63):Builtin.Int.intBits i≤64:=PySem.intBits_le_64 (by lia) (by lia)
theorem Wx {op:Operator} {a b:AV} {c d:Value} (I:Inv X μ hp s) (ra:VR X μ s.heap a c) (rb:VR X μ s.heap b d)
  (k:PO X l μ s (Zy op a b hp) Q E):wpAny (model prog X.w) A (binaryOp op c d) Q E s:=by
 have k:PO X l μ s (match yN a with
  | some a=>Mine.ofP (Jy op a b hp)
  | none=>Out.of (match yj a with
   | some x=>(yj b).bind fun y=>J5 op x y
   | none=>(yG a).bind fun i=>(yG b).bind fun j=>(zEg op i j).map AV.int) hp) Q E:=k
 cases hr:yN a with
 | some x =>
  rw [hr] at k
  obtain ⟨v,hp',e,k⟩:=k.ofP
  have k:PE X μ s v hp' Q:=k
  rw [yM hr] at ra
  cases op with
  | Add =>
   obtain ⟨xs,h2,e⟩:=zY e
   obtain ⟨y,h3,e⟩:=zY e
   obtain ⟨ys,h4,e⟩:=zY e
   obtain ⟨z,e⟩:=zt e
   cases e
   rw [yM h3] at rb
   obtain ⟨d1,it1,m1,rfl,_,l1,_,r1⟩:=I.list_at ra (yX h2)
   obtain ⟨d2,it2,m2,rfl,_,l2,_,r2⟩:=I.list_at rb (yX h4)
   exact P.add_list l1 l2 (k.list I (by rw [zT];exact z) (by rw [Array.toList_append];exact r1.app r2)) (by rw [r1.size,r2.size];exact y8 z)
  | Mult =>
   obtain ⟨xs,h2,e⟩:=zY e
   obtain ⟨x1,h4,e⟩:=zY e
   obtain ⟨i,h3,e⟩:=zY e
   obtain ⟨⟨z1,z2⟩,e⟩:=zt e
   cases e
   rw [y4 h3] at rb
   obtain ⟨t,rfl⟩:=rb.int_
   obtain ⟨d1,it1,m1,rfl,_,l1,_,r1⟩:=I.list_at ra (yX h2)
   rw [yW h4] at r1
   have hsz:it1.size=1:=r1.size
   refine wpAny_binaryOp_repeat_ref (T := "list") (U := "int") (by decide) ⟨_,l1,rfl⟩ (fun s'=>typeIs_int s' i t) noFill_list_mul F.fills_int_mul F.slot_int_rmul repeat_list F.slot_int_index.lookup
    (call_meets F.slot_int_rmul (typeIs_int s i t) F.entry_int_rmul (F.args_int_rmul_2 _ _) (int___rmul___int_list i t _ _ _) ⟨l1,rfl,⟨_,l1,rfl⟩,call_meets F.slot_list_mul ⟨_,l1,rfl⟩ F.entry_list_mul (F.args_list_mul_2 _ _)
     (AutoListH.list___mul___list_int_3 _ _ _ i t (by simp [Builtin.List.listFitsIndex];lia) (by rw [hsz];lia) (by rw [hsz];simp [Builtin.List.listTooLong,sizeLine];lia)) ⟨l1,?_⟩⟩)
   refine k.list I ?_ ?_
   ·rw [List.length_replicate,qd];lia
   ·rw [PyProof.Rows.listMul_foldl_if,List.toList_toArray]
    exact r1.reps _
  | _=>exact nos e
 | none =>
 rw [hr] at k
 obtain ⟨v,e0,k⟩:=k.of
 have k:PE X μ s v hp Q:=k
 cases hs:yj a with
 | some x =>
  rw [hs] at e0
  obtain ⟨y,hy,e1⟩:=zY e0
  clear e0
  rw [xJ hs] at ra
  rw [xJ hy] at rb
  obtain ⟨t,rfl,_⟩:=ra.str_
  obtain ⟨u,rfl,_⟩:=rb.str_
  cases op with
  | Add =>
   obtain ⟨h,rfl⟩:=zt e1
   exact SB.add (fun t' j=>k.tok I (.str _ (by rw [Str.length_append];exact h))) (y8 h)
  | _=>exact nos e1
 | none =>
 rw [hs] at e0
 obtain ⟨i,hi,e2⟩:=zY e0
 clear e0
 obtain ⟨j,hj,e3⟩:=zY e2
 clear e2
 obtain ⟨m,e,rfl⟩:=y9 e3
 clear e3
 rw [y4 hi] at ra
 rw [y4 hj] at rb
 obtain ⟨t,rfl⟩:=ra.int_
 obtain ⟨u,rfl⟩:=rb.int_
 have kk:∀ (u:Tok) (t:Nat),Q (.int m u) { s with toks:=t }:=fun u t=>k.tok I (.int _ _)
 cases op with
 | Add=>cases e;exact P.add_int (kk _ _)
 | Sub=>cases e;exact P.sub_int (kk _ _)
 | Mult =>
  obtain ⟨h,rfl⟩:=zt e
  refine P.mul_int (kk _ _) ?_
  rcases h with h | h
  ·exact .of_left (z13 h)
  ·exact .of_right (z13 h)
 | FloorDiv =>
  obtain ⟨h,rfl⟩:=zt e
  exact PySem.AutoIntOps.floordiv_1 (fun q=>h.1 (by simpa using q)) (by rw [PyProof.noPylong_small h.2];exact Bool.false_ne_true) (kk _ _)
 | Mod =>
  have e:(if j=0 then none else some (i.fmod j))=some m:=e
  by_cases h:j=0
  ·rw [if_pos h] at e;exact nos e
  ·rw [if_neg h] at e;cases e
   exact PySem.AutoIntOps.mod_1 (fun q=>h (by simpa using q)) (kk _ _)
 | _=>exact nos e
noncomputable def zEh (s:Shared) (c:Value):Prop:=∃ T id,s.TypeIs c T∧typeLookup (.type T) "__getitem__" = pure (some (.builtin id))
theorem ZN {k:Int} {len:Nat} (h0:0≤k) (h:k.toNat<len):seqIndex? k len=some k.toNat:=by
 unfold seqIndex?
 have e1:k=((k.toNat:Nat):Int):=by lia
 generalize k.toNat=j at *
 subst e1
 simp
 lia
theorem Wo {o i v:AV} {c d:Value} (e:qj hp o i=some v) (I:Inv X μ hp s) (ro:VR X μ s.heap o c) (ri:VR X μ s.heap i d) (k:PE X μ s v hp Q) :
  zEh s c∧wpAny (model prog X.w) A (getItem c d) Q E s:=by
 have e:(match yj i with
  | some x=>(yN o).bind fun a=>(qT hp a).bind fun kvs=>yb kvs x
  | none=>(yG i).bind fun k=>match (yN o).bind (yl hp) with
   | some kvs=>yb kvs k
   | none=>if okI k then (match yj o with
    | some s=>(s.cps[k.toNat]?).map fun c=>.str ⟨#[c]⟩
    | none=>(match wo o with
     | some xs=>xs[k.toNat]?
     | none=>(wD hp o).bind fun xs=>xs[k.toNat]?)) else (yN o).bind fun a=>(ze hp a).bind fun xs=>if xs.length≤small∧0≤(xs.length:Int)+k then xs[((xs.length:Int)+k).toNat]? else none)=some v:=e
 cases hx:yj i with
 | some x =>
  rw [hx] at e
  obtain ⟨a,ha,e⟩:=zY e
  obtain ⟨kvs,hd,e1⟩:=zY e
  rw [yM ha] at ro
  rw [xJ hx] at ri
  obtain ⟨t,rfl,_⟩:=ri.str_
  obtain ⟨d',es,rfl,_,m,p,_,_⟩:=I.dicS_at ro (jP hd) prog
  rcases p.get (k:=x) with ⟨q,_⟩ | ⟨v',w',q,q2,rv⟩
  ·rw [q] at e1;exact nos e1
  ·rw [q] at e1
   cases e1
   exact ⟨⟨_,_,m.typeIs,slot_dict_getitem.lookup⟩,wpAny_getItem_of (k:=x) (by show Value.isStrOf x (.str x t)=true;exact beq_self_eq_true x) m.mapOf q2 (k.tok I rv)⟩
 | none =>
 rw [hx] at e
 clear hx
 obtain ⟨j,hj,e1⟩:=zY e
 clear e
 rw [y4 hj] at ri
 obtain ⟨t,rfl⟩:=ri.int_
 cases hq:(yN o).bind (yl hp) with
 | some kvs =>
  rw [hq] at e1
  have e1:yb kvs j=some v:=e1
  obtain ⟨a,ha,hd⟩:=zY hq
  rw [yM ha] at ro
  obtain ⟨d',es,rfl,_,m,p,_,_⟩:=I.dict_at ro (Zi hd) prog X.w
  rcases p.get (k:=j) with ⟨q,_⟩ | ⟨v',w',q,q2,rv⟩
  ·rw [q] at e1;exact nos e1
  ·rw [q] at e1
   cases e1
   exact ⟨⟨_,_,m.typeIs,slot_dict_getitem.lookup⟩,wpAny_getItem_of (k:=j) (by show Value.isInt j (.int j t)=true;simp [Value.isInt]) m.mapOf q2 (k.tok I rv)⟩
 | none =>
 rw [hq] at e1
 by_cases h:okI j=true
 case neg =>
  have e1:(if okI j=true then _ else (yN o).bind fun a=>(ze hp a).bind fun xs=>if xs.length≤small∧0≤(xs.length:Int)+j then xs[((xs.length:Int)+j).toNat]? else none)=some v:=e1
  rw [if_neg h] at e1
  obtain ⟨a,ha,e1⟩:=zY e1
  obtain ⟨xs,hx,e1⟩:=zY e1
  obtain ⟨⟨z,z2⟩,e1⟩:=ZB e1
  rw [yM ha] at ro
  obtain ⟨d1,items,m1,rfl,_,l1,_,r⟩:=I.list_at ro (yX hx)
  obtain ⟨x,hx,rx⟩:=r.get e1
  have z:xs.length≤1048576:=z
  have sz:=r.size
  have hlt:=(y7 e1).1
  have hneg:j<0:=by
   rcases Int.lt_or_le j 0 with q | q
   ·exact q
   ·exact absurd (yQ.mpr ⟨q,by lia⟩) h
  refine ⟨⟨_,_,l1.isList.typeIs,list_getitem_lookup⟩,wpAny_getItem_list_neg l1.isList hneg (by lia) (by lia) ?_ (k.here I rx)⟩
  rw [← Array.getElem?_toList,show (j+(items.size:Int)).toNat=((xs.length:Int)+j).toNat by rw [sz,Int.add_comm]]
  exact hx
 rw [if_pos h] at e1
 have e:=e1
 clear e1
 obtain ⟨h0,h1⟩:=yQ.mp h
 cases hs:yj o with
 | some x =>
  rw [hs] at e
  obtain ⟨ch,hc,rfl⟩:=y9 e
  rw [xJ hs] at ro
  obtain ⟨u,rfl,_⟩:=ro.str_
  have hlt:=(Array.getElem?_eq_some_iff.mp hc).1
  have e0:seqIndex? j x.length=some j.toNat:=ZN h0 hlt
  have e2:Txt.charAt x j=some ch:=by unfold Txt.charAt;rw [e0];exact hc
  refine ⟨⟨_,_,typeIs_str _ _ _,F.slot_str_getitem.lookup⟩,SB.getItem (by unfold fitsSsize;simp;lia) (by rw [e2];rfl) ?_⟩
  have e3:Txt.item x j=⟨#[ch]⟩:=by unfold Txt.item;rw [e2];rfl
  rw [e3]
  exact k.tok I (.str _ (by simp [Str.length,small]))
 | none =>
  rw [hs] at e
  have e:(match wo o with
   | some xs=>xs[j.toNat]?
   | none=>(wD hp o).bind fun xs=>xs[j.toNat]?)=some v:=e
  cases ht:wo o with
  | some xs =>
   rw [ht] at e
   rw [ZG ht] at ro
   obtain ⟨a,items,rfl,hT,z,r⟩:=ro.tup_
   obtain ⟨x,hx,rx⟩:=r.get e
   have hlt:j.toNat<items.size:=by rw [← Array.length_toList];exact (y7 hx).1
   obtain ⟨o',ho,hc,m,hd⟩:=hT
   exact ⟨⟨_,_,⟨o',ho,hc⟩,F.slot_tuple_getitem.lookup⟩,PyProof.Rows.getItem_tuple ⟨o',ho,hc,m,hd⟩ (by lia) (by lia) (ZN h0 hlt) (by rw [← Array.getElem?_toList];exact hx) (k.here I rx)⟩
  | none =>
  rw [ht] at e
  obtain ⟨xs,hs,e⟩:=zY e
  obtain ⟨a,items,rfl,l,z,r⟩:=qe I hs ro
  obtain ⟨x,hx,rx⟩:=r.get e
  exact ⟨⟨_,_,l.typeIs,list_getitem_lookup⟩,wpAny_getItem_list l h0 (by lia) (by rw [← Array.getElem?_toList];exact hx) (k.here I rx)⟩
theorem X5 (a n:Nat):max 0 (min (if (a:Int)<0 then (a:Int)+(n:Int) else (a:Int)) (n:Int))=((min a n:Nat):Int):=by
 rw [if_neg (Int.not_lt.mpr (Int.natCast_nonneg a)),Int.max_eq_right (Int.le_min.mpr ⟨Int.natCast_nonneg _,Int.natCast_nonneg _⟩)]
 rcases Nat.le_total a n with h | h
 ·rw [Nat.min_eq_left h,Int.min_eq_left (Int.ofNat_le.mpr h)]
 ·rw [Nat.min_eq_right h,Int.min_eq_right (Int.ofNat_le.mpr h)]
theorem XH {x y n:Nat} (hx:x≤n) (hy:y≤n) (h:x - y=n):(y=0∧x=n)∨n=0:=by lia
theorem Qs {α:Type} (xs:List α) (n:Nat) (hn:xs.length=n) (lo hi:Option Nat) :
  ∃ a b:Nat,sliceBounds (lo.map Int.ofNat) (hi.map Int.ofNat) none n=((a:Int),(b:Int),1)∧(xs.drop a).take (b - a)=wH xs (lo.getD 0) hi∧b≤n∧(b - a=n→(a=0∧b=n)∨n=0):=by
 subst hn
 have dm:∀ a:Nat,xs.drop (min a xs.length)=xs.drop a:=fun a=>by
  rcases Nat.le_total a xs.length with h | h
  ·rw [Nat.min_eq_left h]
  ·rw [Nat.min_eq_right h,List.drop_of_length_le (Nat.le_refl _),List.drop_of_length_le h]
 have tm:∀ b:Nat,xs.take (min b xs.length)=xs.take b:=fun b=>by rw [List.take_eq_take_iff,Nat.min_assoc,Nat.min_self]
 cases lo with
 | none =>
  cases hi with
  | none=>exact ⟨0,xs.length,by simp [sliceBounds],by simp [wH],Nat.le_refl _,fun _=>.inl ⟨rfl,rfl⟩⟩
  | some b=>exact ⟨0,min b xs.length,by simp [sliceBounds];exact X5 b _,by
    show (xs.drop 0).take (min b xs.length - 0)=(xs.take b).drop 0
    rw [List.drop_zero,List.drop_zero,Nat.sub_zero,tm],Nat.min_le_right _ _,fun h=>.inl ⟨rfl,h⟩⟩
 | some a =>
  cases hi with
  | none=>exact ⟨min a xs.length,xs.length,by simp [sliceBounds];exact X5 a _,by
    show (xs.drop (min a xs.length)).take (xs.length - min a xs.length)=xs.drop a
    rw [dm,List.take_of_length_le (by rw [← dm a,List.length_drop];exact Nat.le_refl _)],Nat.le_refl _,fun h=>XH (Nat.le_refl _) (Nat.min_le_right _ _) h⟩
  | some b=>exact ⟨min a xs.length,min b xs.length,by simp [sliceBounds];exact ⟨X5 a _,X5 b _⟩,by
    show (xs.drop (min a xs.length)).take (min b xs.length - min a xs.length)=(xs.take b).drop a
    rw [← List.drop_take,tm]
    rcases Nat.le_total a xs.length with h | h
    ·rw [Nat.min_eq_left h]
    ·rw [Nat.min_eq_right h,List.drop_of_length_le (List.length_take_le' _ _),List.drop_of_length_le (Nat.le_trans (List.length_take_le' _ _) h)],Nat.min_le_right _ _,fun h=>XH (Nat.min_le_right _ _) (Nat.min_le_right _ _) h⟩
theorem Jg (items:Array Value) (lo hi:Option Nat):slicePick items (lo.map Int.ofNat) (hi.map Int.ofNat) none=(wH items.toList (lo.getD 0) hi).toArray:=by
 obtain ⟨a,b,e,q,_⟩:=Qs items.toList items.size (by simp) lo hi
 unfold slicePick
 rw [e]
 simp only [sliceRange_one,pick_run,q]
theorem jx {v:AV} {c:Value} {o:Option Nat} {μ:Mu} {h:Heap} (e:xp v=some o) (r:VR X μ h v c):IsPart c (o.map Int.ofNat):=by
 cases v with
 | none=>cases e;rw [r.none_];exact .none
 | int k =>
  obtain ⟨h,rfl⟩:=zt (show (if okI k then some (some k.toNat) else none)=some o from e)
  obtain ⟨t,rfl⟩:=r.int_
  have:(Option.map Int.ofNat (some k.toNat))=some k:=by show some ((k.toNat:Nat):Int)=_;rw [Int.toNat_of_nonneg (yQ.mp h).1]
  rw [this];exact .int _ _
 | _=>exact nos e
theorem Zl {α:Type} (xs:List α) (a:Nat) (b:Option Nat):(wH xs a b).length≤xs.length:=by
 unfold wH;split <;> simp <;> lia
theorem VRs.cut {μ:Mu} {h:Heap} {xs:List AV} {vs:List Value} (r:VRs X μ h xs vs) (a:Nat) (b:Option Nat):VRs X μ h (wH xs a b) (wH vs a b):=by
 unfold wH;split
 ·exact (r.take _).drop _
 ·exact r.drop _
theorem Wu {o lo' u:AV} {c lv uv:Value} {sl:Addr} (I:Inv X μ hp s) (ro:VR X μ s.heap o c) (rl:VR X μ s.heap lo' lv) (ru:VR X μ s.heap u uv)
  (hs:s.heap.IsSliceOf sl lv uv .none) (k:PO X l μ s (z0u hp o lo' u) Q E):zEh s c∧wpAny (model prog X.w) A (getItem c (.ref sl)) Q E s:=by
 obtain ⟨v,hp',e,k⟩:=k.ofP
 have k:PE X μ s v hp' Q:=k
 obtain ⟨lo,hl,e1⟩:=zY e
 clear e
 obtain ⟨hi,hu,e⟩:=zY e1
 clear e1
 have pl:=jx hl rl
 have pu:=jx hu ru
 obtain ⟨xs,hx,e1⟩:=zY e
 clear e
 obtain ⟨z,e⟩:=zt e1
 cases e
 obtain ⟨a,items,rfl,li,_,r⟩:=qe I hx ro
 refine ⟨⟨_,_,li.typeIs,list_getitem_lookup⟩,wpAny_getItem_list_slice li hs pl pu .none (by simp) ?_ (by rw [r.size];exact y8 z)⟩
 rw [Jg]
 exact k.list I (Nat.le_trans (Zl _ _ _) z) (r.cut _ _)
theorem Wj {v:AV} {t:Bi} {c:Value} {r:Bool} (e:zBw v t=some r) (rv:VR X μ s.heap v c) (k:∀ t,Q (.bool r) { s with toks:=t }) :
  wpAny (model prog X.w) A (call (.builtin "isinstance") [c,wu t]) Q E s:=by
 have k0:=k s.toks
 have k1:=k (s.toks+1)
 cases t with
 | int =>
  cases v with
  | int i=>cases e;obtain ⟨u,rfl⟩:=rv.int_;exact IsiPair.int_int k0
  | _=>exact nos e
 | bool =>
  cases v with
  | bool b=>cases e;rw [rv.bool_];exact IsiPair.bool_bool k0
  | int i=>cases e;obtain ⟨u,rfl⟩:=rv.int_;exact IsiPair.int_bool k1
  | _=>exact nos e
 | str =>
  cases v with
  | str x=>cases e;obtain ⟨u,rfl,_⟩:=rv.str_;exact IsiPair.str_str k0
  | _=>exact nos e
 | tuple =>
  obtain ⟨xs,h1,rfl⟩:=y9 e
  rw [ZG h1] at rv
  obtain ⟨c,items,rfl,hT,_⟩:=rv.tup_
  exact IsiPair.isTuple_tuple hT (fun _ _ e=>e) k0
 | _=>exact nos e
theorem YU {μ:Mu} {h:Heap} {xs:List AV}:∀ {bs:List Bool} {vs:List Value},q5 xs=some bs→VRs X μ h xs vs→vs=bs.map Value.bool:=by
 induction xs with
 | nil=>intro bs vs e r;cases e;exact r.nil_
 | cons x xs ih =>
  intro bs vs e r
  obtain ⟨b,hb,e1⟩:=zY e
  obtain ⟨cs,hc,rfl⟩:=y9 e1
  obtain ⟨v,ws,rfl,a,q⟩:=r.cons_
  rw [jd hb] at a
  rw [a.bool_,ih hc q];rfl
theorem J4 {μ:Mu} {h:Heap} {xs:List AV}:∀ {ss:List Str} {vs:List Value},jh xs=some ss→VRs X μ h xs vs→∃ l:List (Str×Tok),vs=strValues l∧l.map (·.1)=ss:=by
 induction xs with
 | nil=>intro bs vs e r;cases e;exact ⟨[],r.nil_,rfl⟩
 | cons x xs ih =>
  intro bs vs e r
  obtain ⟨b,hb,e1⟩:=zY e
  obtain ⟨cs,hc,rfl⟩:=y9 e1
  obtain ⟨v,ws,rfl,a,q⟩:=r.cons_
  rw [xJ hb] at a
  obtain ⟨t,rfl,_⟩:=a.str_
  obtain ⟨l,rfl,rfl⟩:=ih hc q
  exact ⟨(b,t)::l,rfl,rfl⟩
theorem Y6 (bs:List Bool) (n:Nat) (hn:n=bs.length):(List.range n).all (fun i=>bs.getD i false)=bs.all id:=by
 subst hn
 rw [Bool.eq_iff_iff]
 simp only [List.all_eq_true,List.mem_range,id]
 constructor
 ·intro h b hb
  obtain ⟨i,hi,rfl⟩:=List.getElem_of_mem hb
  have:=h i hi
  simpa [List.getD,zu hi] using this
 ·intro h i hi
  simpa [List.getD,zu hi] using h _ (List.getElem_mem hi)
theorem Y5 (bs:List Bool) (n:Nat) (hn:n=bs.length):(List.range n).any (fun i=>bs.getD i false)=bs.any id:=by
 subst hn
 rw [Bool.eq_iff_iff]
 simp only [List.any_eq_true,List.mem_range,id]
 constructor
 ·rintro ⟨i,hi,h⟩
  exact ⟨bs[i],List.getElem_mem hi,by simpa [List.getD,zu hi] using h⟩
 ·rintro ⟨b,hb,h⟩
  obtain ⟨i,hi,rfl⟩:=List.getElem_of_mem hb
  exact ⟨i,hi,by simpa [List.getD,zu hi] using h⟩
theorem Xk {a:Addr} {items:Array Value} {Q:Value→Shared→Prop} (hh:A.handled=none) (hl:s.heap.IsList a items)
  (k:∀ s₂ it,s₂={ s with heap:=s₂.heap }→(∀ b o,s.heap.get? b=some o→s₂.heap.get? b=some o)→s.heap.get? it=none →
   Walks prog X.w A it [it,a] [it] items.size (fun i v=>items[i]? = some v) (fun i h=>h.IsListIter it a i∧h.IsList a items)→(s₂.heap.IsListIter it a 0∧s₂.heap.IsList a items)→Q (.ref it) s₂) :
  wpAny (model prog X.w) A (pyIter (.ref a)) Q E s:=by
 have hlt:a<s.heap.objs.size:=by obtain ⟨_,e,_⟩:=hl;exact Heap.lt_size e
 refine wpAny_pyIter_list hl (k _ _ rfl (fun b o e=>Heap.get?_push_of_some _ e) ?_ (Walks.list hh _ a (Nat.ne_of_lt hlt) items) ⟨⟨_,Heap.get?_push_size _ rfl,rfl,rfl⟩,hl.push _⟩)
 cases q:s.heap.get? s.heap.objs.size with
 | none=>rfl
 | some o=>exact absurd (Heap.lt_size q) (Nat.lt_irrefl _)
theorem XB {items:Array Value} {bs:List Bool} {i:Nat} {v:Value} {s':Shared} {A:Around} {Q:Bool→Shared→Prop} {E:Value→Shared→Prop} (ev:items.toList=bs.map Value.bool) (hP:items[i]? = some v) (hQ:Q (bs.getD i false) s'):wpAny (model prog X.w) A (truthy v) Q E s':=by
 rw [← Array.getElem?_toList,ev,List.getElem?_map] at hP
 cases hg:bs[i]? with
 | none=>rw [hg] at hP;exact nos hP
 | some b=>rw [hg] at hP;cases hP;rw [List.getD,hg] at hQ;exact wpAny_truthy_bool hQ
theorem ZP (a b:Int):(xB a b).length=(b - a).toNat:=by unfold xB;rw [List.length_map,List.length_range]
theorem wv (a b:Int):Builtin.Range.rangeSize a b 1=((b - a).toNat:Int):=by
 unfold Builtin.Range.rangeSize
 simp
 lia
theorem qf {a:Int} (h:a.natAbs<2 ^ 63):Builtin.Range.rangeFitsLong a=true:=by
 unfold Builtin.Range.rangeFitsLong
 simp
 lia
theorem jl {a b:Int} (h2:a.natAbs<2 ^ 62) (h3:b.natAbs<2 ^ 62):Builtin.Range.small a b 1=true:=by
 unfold Builtin.Range.small
 rw [wv,qf (by lia),qf (by lia),qf (by lia),qf (by lia)]
 simp
 exact .inr (qf (by lia))
theorem z0a {μ:Mu} {h:Heap} {xs:List AV}:∀ {is:List Int} {vs:List Value},yT yG xs=some is→VRs X μ h xs vs→PyProof.Rows.IntsAre vs is:=by
 induction xs with
 | nil=>intro is vs e r;cases e;rw [r.nil_];exact .nil
 | cons x xs ih =>
  intro is vs e r
  obtain ⟨v,ws,rfl,r1,r2⟩:=r.cons_
  obtain ⟨i,js,h1,h2,rfl⟩:=qP e
  rw [y4 h1] at r1
  obtain ⟨t,rfl⟩:=r1.int_
  exact .cons i t (ih h2 r2)
theorem z09 {vs:List Value} {is:List Int} (r:PyProof.Rows.IntsAre vs is):is.length=vs.length:=by
 induction r with
 | nil=>rfl
 | cons n t _ ih=>exact congrArg (·+1) ih
theorem VRs.of_get {μ:Mu} {h:Heap} {xs:List AV}:∀ {vs:List Value},vs.length=xs.length→(∀ (i:Nat) (v:Value),vs[i]? = some v→∃ y,xs[i]? = some y∧VR X μ h y v)→VRs X μ h xs vs:=by
 induction xs with
 | nil =>
  intro vs hl _
  rw [List.length_eq_zero_iff.mp hl];exact .nil
 | cons x xs ih =>
  intro vs hl hg
  cases vs with
  | nil=>cases hl
  | cons v vs =>
   obtain ⟨y,hy,r⟩:=hg 0 v rfl
   cases hy
   exact .cons r (ih (Nat.succ.inj hl) fun i v hv=>hg (i+1) v hv)
theorem Qo (x:Str):(yt x).length=x.cps.size:=by unfold yt;rw [List.length_map,Array.length_toList]
theorem Qp {x:Str} {i c:Nat} (h:x.cps[i]? = some c):(yt x)[i]? = some (.str ⟨#[c]⟩):=by
 unfold yt;rw [List.getElem?_map,Array.getElem?_toList,h];rfl
theorem QR {a b:Int} {i:Nat} (h:i<(b - a).toNat):(xB a b)[i]? = some (.int (a+(i:Int))):=by
 unfold xB;rw [List.getElem?_map,List.getElem?_range h];rfl
theorem z14 {b:Bi} {args:List AV} {args':List Value} (R:Room n A l) (I:Inv X μ hp s) (ra:VRs X μ s.heap args args') (k:PO X l μ s (xI b args hp) Q E) :
  wpAny (model prog X.w) A (call (wu b) args') Q E s:=by
 obtain ⟨v,hp',e,k⟩:=k.ofP
 have k:PE X μ s v hp' Q:=k
 cases b with
 | len =>
  obtain ⟨v,h1,e⟩:=zY e
  obtain ⟨m,h2,e⟩:=y9 e
  cases e
  rw [yW h1] at ra
  obtain ⟨_,rfl,rv⟩:=ra.one
  have h2:(match yj v with | some x=>some x.length | none=>(wD hp v).map List.length)=some m:=h2
  cases hs:yj v with
  | some x =>
   rw [hs] at h2;cases h2
   rw [xJ hs] at rv
   obtain ⟨t,rfl,z⟩:=rv.str_
   exact P.len_str (Int.not_le.mpr (XM z)) (k.tok I (.int _ _))
  | none =>
  rw [hs] at h2
  obtain ⟨xs,hx,rfl⟩:=y9 h2
  obtain ⟨a,items,rfl,l,z,r⟩:=qe I hx rv
  refine Calls.call_len_list l (by rw [r.size];exact XM z) ?_
  rw [r.size];exact k.tok I (.int _ _)
 | «isinstance» =>
  obtain ⟨p,h1,e⟩:=zY e
  obtain ⟨t,h2,e⟩:=zY e
  obtain ⟨m,h3,e⟩:=y9 e
  cases e
  rw [wI h1] at ra
  obtain ⟨_,_,rfl,rv,rt⟩:=ra.two
  rw [z2y h2] at rt
  rw [rt.bi_]
  exact Wj h3 rv fun t=>k.tok I (.bool _)
 | int =>
  obtain ⟨v,h1,e⟩:=zY e
  obtain ⟨m,h2,e⟩:=y9 e
  cases e
  rw [yW h1] at ra
  obtain ⟨_,rfl,rv⟩:=ra.one
  rw [jd h2] at rv
  rw [rv.bool_]
  exact call_int_bool (k.tok I (.int _ _))
 | min =>
  obtain ⟨p,h1,e⟩:=zY e
  obtain ⟨i,h2,e⟩:=zY e
  obtain ⟨j,h3,e⟩:=y9 e
  cases e
  rw [wI h1] at ra
  obtain ⟨_,_,rfl,r1,r2⟩:=ra.two
  rw [y4 h2] at r1
  rw [y4 h3] at r2
  obtain ⟨t,rfl⟩:=r1.int_
  obtain ⟨u,rfl⟩:=r2.int_
  refine min_two_ints R.handled fun h' tk hk=>?_
  have:(if j<i then Value.int j u else Value.int i t)=.int (if j<i then j else i) (if j<i then u else t):=by split <;> rfl
  rw [this]
  exact k _ μ _ (.grow hk) (I.grow hk) (.int _ _)
 | max =>
  obtain ⟨p,h1,e⟩:=zY e
  obtain ⟨i,h2,e⟩:=zY e
  obtain ⟨j,h3,e⟩:=y9 e
  cases e
  rw [wI h1] at ra
  obtain ⟨_,_,rfl,r1,r2⟩:=ra.two
  rw [y4 h2] at r1
  rw [y4 h3] at r2
  obtain ⟨t,rfl⟩:=r1.int_
  obtain ⟨u,rfl⟩:=r2.int_
  refine max_two_ints R.handled fun h' tk hk=>?_
  have:(if j > i then Value.int j u else Value.int i t)=.int (if i<j then j else i) (if j > i then u else t):=by
   show (if i<j then _ else _)=Value.int (if i<j then j else i) (if i<j then u else t)
   split <;> rfl
  rw [this]
  exact k _ μ _ (.grow hk) (I.grow hk) (.int _ _)
 | range =>
  have e:(match jf args with
   | some p=>(yG p.1).bind fun a=>(yG p.2).bind fun b=>if a.natAbs<2 ^ 62∧b.natAbs<2 ^ 62 then some (.range a b,hp) else none
   | none=>(xv args).bind fun v=>(yG v).bind fun b=>if b.natAbs<2 ^ 62 then some (.range 0 b,hp) else none)=some (v,hp'):=e
  cases h0:jf args with
  | some p =>
   rw [h0] at e
   obtain ⟨i,h2,e⟩:=zY e
   obtain ⟨j,h3,e⟩:=zY e
   obtain ⟨h,e⟩:=zt e
   cases e
   rw [wI h0] at ra
   obtain ⟨_,_,rfl,r1,r2⟩:=ra.two
   rw [y4 h2] at r1
   rw [y4 h3] at r2
   obtain ⟨t,rfl⟩:=r1.int_
   obtain ⟨u,rfl⟩:=r2.int_
   exact call_range_2 (k _ μ _ (.grow fun b o e=>Heap.get?_push_of_some _ e) (I.grow fun b o e=>Heap.get?_push_of_some _ e) (.range (IsRange.new ..) h.1 h.2))
  | none =>
  rw [h0] at e
  obtain ⟨v,h1,e⟩:=zY e
  obtain ⟨i,h2,e⟩:=zY e
  obtain ⟨h,e⟩:=zt e
  cases e
  rw [yW h1] at ra
  obtain ⟨_,rfl,rv⟩:=ra.one
  rw [y4 h2] at rv
  obtain ⟨t,rfl⟩:=rv.int_
  exact call_range_1 (k _ μ _ (.grow fun b o e=>Heap.get?_push_of_some _ e) (I.grow fun b o e=>Heap.get?_push_of_some _ e) (.range (IsRange.new ..) (by decide) h))
 | list =>
  obtain ⟨v,h1,e⟩:=zY e
  obtain ⟨xs,h3,e⟩:=zY e
  obtain ⟨z,e⟩:=zt e
  cases e
  rw [yW h1] at ra
  obtain ⟨_,rfl,rv⟩:=ra.one
  cases v with
  | ref a =>
   obtain ⟨d,items,m,rfl,_,l,_,r⟩:=I.list_at rv (yX h3)
   exact call_list_seq _ (.inl rfl) l rfl rfl (fun h' c' hk hg=>k.listNew I z hk hg (r.mono (List.prefix_refl _) fun b o e _=>hk b o e)) (by rw [r.size];exact y8 z)
  | str x =>
   cases h3
   obtain ⟨t,rfl,zs⟩:=rv.str_
   refine call_list_str R.handled x t (fun h' tk acc' c' hk hg ha=>k.listNew I z hk hg (VRs.of_get (by rw [Array.length_toList,ha.1,Qo]) fun i v hv=>?_)) (y8 zs)
   obtain ⟨c,u,h1,rfl⟩:=ha.2 i v (by rw [← Array.getElem?_toList];exact hv)
   exact ⟨_,Qp h1,.str _ (zZ rfl)⟩
  | range a b =>
   cases h3
   obtain ⟨c,t,u,v',rfl,h1,h2,h3⟩:=rv.range_
   have ln:=ZP a b
   refine call_list_range R.handled h1 (jl h2 h3) (wv a b) (Nat.le_trans (by rw [← ln];exact z) (by decide)) fun h' tk acc' c' hk hg ha=>k.listNew I z hk hg (VRs.of_get (by rw [Array.length_toList,ha.1,ln]) fun i v hv=>?_)
   obtain ⟨t,rfl⟩:=ha.2 i v (by rw [← Array.getElem?_toList];exact hv)
   refine ⟨.int (a+(i:Int)),?_,by rw [Int.mul_one];exact .int _ _⟩
   have hi:i<(b - a).toNat:=by rw [← ha.1,← Array.length_toList];exact (y7 hv).1
   exact QR hi
  | _=>exact nos h3
 | tuple=>exact nos e
 | any =>
  obtain ⟨v,h1,e⟩:=zY e
  obtain ⟨xs,hx,e⟩:=zY e
  obtain ⟨bs,hb,e⟩:=y9 e
  cases e
  rw [yW h1] at ra
  obtain ⟨_,rfl,rv⟩:=ra.one
  obtain ⟨a,items,rfl,hl,z,r⟩:=qe I hx rv
  have ev:=YU hb r
  refine call_any_walk (Xk (A:=A.in1) R.handled hl fun s₂ it hs hk hn W st=>⟨_,_,_,_,_,_,fun i=>bs.getD i false,rfl,W,st,fun i v s' Q E hP hQ=>XB ev hP hQ,fun h' tk hk'=>?_⟩)
  rw [Y5 bs _ (by rw [← Array.length_toList,ev,List.length_map])]
  have hk2:∀ b o,s.heap.get? b=some o→h'.get? b=some o:=fun b o e=>hk' b o (fun hm=>by
   rw [xg hm,hn] at e;cases e) (hk b o e)
  rw [hs]
  exact k _ μ _ (.grow hk2) (I.grow hk2) (.bool _)
 | all =>
  obtain ⟨v,h1,e⟩:=zY e
  obtain ⟨xs,hx,e⟩:=zY e
  obtain ⟨bs,hb,e⟩:=y9 e
  cases e
  rw [yW h1] at ra
  obtain ⟨_,rfl,rv⟩:=ra.one
  obtain ⟨a,items,rfl,hl,z,r⟩:=qe I hx rv
  have ev:=YU hb r
  refine call_all_walk (Xk (A:=A.in1) R.handled hl fun s₂ it hs hk hn W st=>⟨_,_,_,_,_,_,fun i=>bs.getD i false,rfl,W,st,fun i v s' Q E hP hQ=>XB ev hP hQ,fun h' tk hk'=>?_⟩)
  rw [Y6 bs _ (by rw [← Array.length_toList,ev,List.length_map])]
  have hk2:∀ b o,s.heap.get? b=some o→h'.get? b=some o:=fun b o e=>hk' b o (fun hm=>by
   rw [xg hm,hn] at e;cases e) (hk b o e)
  rw [hs]
  exact k _ μ _ (.grow hk2) (I.grow hk2) (.bool _)
 | bool=>exact nos e
 | str=>exact nos e
 | enumerate=>exact nos e
noncomputable def Js:Me→String
 | .append => "list.append" | .insert => "list.insert" | .index => "list.index" | .count => "list.count" | .remove => "list.remove" | .join => "str.join" | .extend => "list.extend" | .update => "dict.update"
theorem qc (I:Inv X μ hp s) {a:Nat} {c:Addr} {items:Array Value} {m t:Nat} {f:Array Value→Array Value} {xs:List AV} (ha:μ[a]? = some (c,none)) (hl:IsL s.heap c items m) (z:xs.length≤small)
  (r:VRs X μ s.heap xs (f items).toList) :
  Inv X μ (hp.set a (.list xs)) { s with heap:=s.heap.update c (Obj.mapSeq f),toks:=t }∧Le noS μ s μ { s with heap:=s.heap.update c (Obj.mapSeq f),toks:=t }:=by
 have g:∃ m',(s.heap.update c (Obj.mapSeq f)).get? c=some { cls:=.type "list",dict:=none,data:=.seq (f items) m',slots:=#[] }:=⟨_,Heap.get?_update_self _ hl rfl⟩
 obtain ⟨m',g⟩:=g
 have hk:∀ b o,b∉ads (c,none)→s.heap.get? b=some o→(s.heap.update c (Obj.mapSeq f)).get? b=some o:=fun b o hb e=>(Heap.get?_update_other _ _ (fun h=>hb (by rw [← h];exact .head _))).trans e
 refine I.upd ha hk (.list g z (r.mono (List.prefix_refl _) fun b o e fx=>hk b o (fun hb=>?_) e))
 rw [wm hb,hl] at e
 cases e
 exact Mut.notFixed (.inl ⟨rfl,_,_,rfl⟩) fx
theorem Xv {α:Type} (items:Array α) (y:α) (k:Nat):((items.extract 0 k).push y++items.extract k).toList=items.toList.take k++y::items.toList.drop k:=by
 simp [Array.toList_extract]
 rw [List.take_of_length_le (by simp)]
theorem J3 {α:Type} (ls:List α) (j:Nat):ls.take (min j ls.length)=ls.take j:=by rw [List.take_eq_take_iff];simp
theorem z0i {α:Type} (ls:List α) (j:Nat):ls.drop (min j ls.length)=ls.drop j:=by
 by_cases h:j≤ls.length
 ·rw [Nat.min_eq_left h]
 ·rw [Nat.min_eq_right (by lia),List.drop_of_length_le (Nat.le_refl _),List.drop_of_length_le (by lia)]
theorem W9 (I:Inv X μ hp s) {a:Nat} {items:Array Value} {xs:List AV} {ds:List PyData} (hx:ze hp a=some xs) (e:Yl hp (.ref a)=some ds)
  (r:VRs X μ s.heap xs items.toList):DRs s.heap 7 items.toList ds:=by
 have e:(ze hp a).bind (fun xs=>yT (toD hp 7) xs)=some ds:=e
 rw [hx] at e
 exact j3 (xh I 7) e r
noncomputable def isI (i:Int):Value→Bool
 | .int a _=>a == i
 | _=>false
theorem z2j {vs:List Value} {is:List Int} (r:PyProof.Rows.IntsAre vs is):∀ {m:Nat} {v:Value},vs[m]? = some v→∃ i u,is[m]? = some i∧v=.int i u:=by
 induction r with
 | nil=>intro m v h;exact nos h
 | cons n t _ ih =>
  intro m v h
  cases m with
  | zero=>cases h;exact ⟨n,t,rfl,rfl⟩
  | succ m=>exact ih h
theorem VRs.erase {μ:Mu} {h:Heap} {xs:List AV}:∀ {vs:List Value} (_:VRs X μ h xs vs) (j:Nat),VRs X μ h (xs.eraseIdx j) (vs.eraseIdx j):=by
 induction xs with
 | nil=>intro vs r j;rw [r.nil_];exact .nil
 | cons x xs ih =>
  intro vs r j
  obtain ⟨v,ws,rfl,r1,r2⟩:=r.cons_
  cases j with
  | zero=>exact r2
  | succ j=>exact .cons r1 (ih r2 j)
theorem Xc {m:Me} {o:AV} {args:List AV} {c:Value} {args':List Value} (R:Room n A l) (I:Inv X μ hp s) (ro:VR X μ s.heap o c) (ra:VRs X μ s.heap args args')
  (k:PO X l μ s (yP m o args hp) Q E):wpAny (model prog X.w) A (call (.builtin (Js m)) (c::args')) Q E s:=by
 have hu:=R.units'
 obtain ⟨v,hp',e,k⟩:=k.ofP
 have k:PE X μ s v hp' Q:=k
 cases hs:yj o with
 | some sep =>
  rw [hs] at e
  cases m with
  | join =>
   obtain ⟨y,h2,e⟩:=zY e
   obtain ⟨xs,hx,e⟩:=zY e
   obtain ⟨ss,hss,e⟩:=zY e
   obtain ⟨z,e⟩:=zt e
   cases e
   rw [xJ hs] at ro
   rw [yW h2] at ra
   obtain ⟨y',rfl,ry⟩:=ra.one
   obtain ⟨t,rfl,zs⟩:=ro.str_
   obtain ⟨a,items,rfl,hl,_,r⟩:=qe I hx ry
   obtain ⟨l,q1,q2⟩:=J4 hss r
   have hl':s.heap.IsList a (strValues l).toArray:=by rw [← q1,Array.toArray_toList];exact hl
   refine SC.join hl' q2 ?_ fun t' j=>?_
   ·unfold JoinOk
    have e1:=StrLaws.joinTotal sep ss
    rw [qd] at z
    simp only [Builtin.Str.tooLong,sizeLine]
    rw [e1]
    simp;lia
   ·have e2:Txt.join sep ss=Str.join sep ss:=StrLaws.glued_eq_join sep ss
    rw [e2]
    exact k.tok I (.str _ (Nat.le_trans (StrLaws.join_length_le sep ss) z))
  | _=>exact nos e
 | none =>
 rw [hs] at e
 obtain ⟨a,h1,e⟩:=zY e
 obtain ⟨xs,hx,e⟩:=zY e
 rw [yM h1] at ro
 obtain ⟨d,items,mm,rfl,g1,hl,z0,r⟩:=I.list_at ro (yX hx)
 have l:=r.size
 have cmp:∀ {ds:List PyData} {x:PyData},PyData.depthAll ds≤7→A.units+1+min (PyData.depthAll ds) x.depth<cLine:=fun {ds x} h=>by
  have:min (PyData.depthAll ds) x.depth≤PyData.depthAll ds:=Nat.min_le_left _ _
  lia
 cases m with
 | append =>
  obtain ⟨y,h2,e⟩:=zY e
  obtain ⟨z,e⟩:=zt e
  cases e
  rw [yW h2] at ra
  obtain ⟨y',rfl,ry⟩:=ra.one
  refine call_meets F.slot_list_append ⟨_,hl,rfl⟩ F.entry_list_append (F.args_list_append_2 _ _) (AutoListH.list_append_list_val_0 _ _ _ y' (by rw [l];exact y8 (Nat.le_of_lt z))) ⟨hl,?_⟩
  obtain ⟨I',a'⟩:=qc (t:=s.toks) I g1 hl (f:=fun x=>x.push y') (xs:=xs++[y]) (by rw [zT];exact z) (by rw [Array.toList_push];exact r.app (.cons ry .nil))
  exact k _ μ _ a' I' .none
 | insert =>
  obtain ⟨p,h2,e⟩:=zY e
  obtain ⟨i,h3,e⟩:=zY e
  obtain ⟨⟨z,zz⟩,e⟩:=zt e
  cases e
  rw [wI h2] at ra
  obtain ⟨i',y',rfl,ri,ry⟩:=ra.two
  rw [y4 h3] at ri
  obtain ⟨t,rfl⟩:=ri.int_
  obtain ⟨i0,i1⟩:=yQ.mp zz
  refine call_meets F.slot_list_insert ⟨_,hl,rfl⟩ F.entry_list_insert (F.args_list_insert_3 _ _ _) (AutoListH.list_insert_list_int_val_1 _ _ _ i _ y' (by simp [Builtin.List.listFitsIndex];lia) (by rw [l];exact y8 (Nat.le_of_lt z))) ⟨hl,?_⟩
  obtain ⟨I',a'⟩:=qc (t:=s.toks) I g1 hl (f:=fun xs=>have k:=if i<0 then (i+((xs.size:Nat):Int)).toNat else min i.toNat xs.size;(xs.extract 0 k).push y'++xs.extract k) (xs:=qR xs i.toNat p.2)
   (by rw [qR,zT,List.length_cons,List.length_take,List.length_drop];have z:xs.length<1048576:=z;rw [qd];lia) (by
    dsimp only
    rw [if_neg (by lia),Xv,← Array.length_toList,J3,z0i]
    exact (r.take _).app (.cons ry (r.drop _)))
  exact k _ μ _ a' I' .none
 | index =>
  obtain ⟨y,h2,e⟩:=zY e
  obtain ⟨j,hj,e⟩:=y9 e
  cases e
  rw [yW h2] at ra
  obtain ⟨y',rfl,ry⟩:=ra.one
  obtain ⟨ds,hd,hj⟩:=zY hj
  obtain ⟨x,hy,hj⟩:=zY hj
  obtain ⟨⟨as,ras⟩,c1,d1⟩:=W9 I hx hd r
  obtain ⟨⟨bs,rb⟩,c2,d2⟩:=xh I _ hy ry
  obtain ⟨hk,g2,g3⟩:=List.findIdx?_eq_some_iff_getElem.mp hj
  have hm:=SeqAt.readsAll_map ds _ _ c1 ras
  have len:ds.length=items.size:=by rw [← hm,List.length_map,Array.length_toList]
  have at_:∀ i (hi:i<items.size),ds[i]'(by rw [len];exact hi)=SeqAt.readOf s.heap items[i]:=fun i hi=>by
   have:ds[i]? = some (SeqAt.readOf s.heap items[i]):=by rw [← hm,List.getElem?_map,Array.getElem?_toList,Array.getElem?_eq_getElem hi];rfl
   exact (y7 this).2
  have hjs:j<items.size:=by rw [← len];exact hk
  refine call_meets F.slot_list_index ⟨_,hl,rfl⟩ F.entry_list_index (F.args_list_index_2 _ _)
   (SeqAt.list_indexAt d items mm none #[] y' (fun y=>PyData.eqv (SeqAt.readOf s.heap y) x) j hjs (by have z0:xs.length≤1048576:=z0;lia) ?_ ?_)
   ⟨hl,SeqAt.items_eqAt (A:=A) ras rb c1 c2 (cmp d1),k.tok I (.int _ _)⟩
  ·rw [← at_ j hjs];exact g2
  ·intro i hi hlt;rw [← at_ i hi];simpa using g3 i hlt
 | count =>
  obtain ⟨y,h2,e⟩:=zY e
  obtain ⟨j,hj,e⟩:=y9 e
  cases e
  rw [yW h2] at ra
  obtain ⟨y',rfl,ry⟩:=ra.one
  obtain ⟨ds,hd,hj⟩:=zY hj
  obtain ⟨x,hy,rfl⟩:=y9 hj
  obtain ⟨⟨as,ras⟩,c1,d1⟩:=W9 I hx hd r
  obtain ⟨⟨bs,rb⟩,c2,d2⟩:=xh I _ hy ry
  have hm:=SeqAt.readsAll_map ds _ _ c1 ras
  refine call_meets F.slot_list_count ⟨_,hl,rfl⟩ F.entry_list_count (F.args_list_count_2 _ _)
   (SeqAt.list_countAt d items mm none #[] y' (fun y=>PyData.eqv (SeqAt.readOf s.heap y) x))
   ⟨hl,SeqAt.items_eqAt (A:=A) ras rb c1 c2 (cmp d1),?_⟩
  have:items.toList.countP (fun y=>PyData.eqv (SeqAt.readOf s.heap y) x)=ds.countP fun y=>PyData.eqv y x:=by rw [← hm,List.countP_map];rfl
  rw [this]
  exact k.tok I (.int _ _)
 | extend =>
  obtain ⟨y,h2,e⟩:=zY e
  obtain ⟨b,hb,e⟩:=zY e
  obtain ⟨ys,hy,e⟩:=zY e
  obtain ⟨z,e⟩:=zt e
  cases e
  rw [yW h2] at ra
  obtain ⟨y',rfl,ry⟩:=ra.one
  rw [yM hb] at ry
  obtain ⟨d2,it2,m2,rfl,_,l2,_,r2⟩:=I.list_at ry (yX hy)
  have hz:items.size+it2.size≤sizeLine:=by rw [l,r2.size];exact y8 (Nat.le_of_lt z)
  refine call_meets F.slot_list_extend ⟨_,hl,rfl⟩ F.entry_list_extend (F.args_list_extend_2 _ _) (AutoSeq1.list_extend_list_list_0 d items mm d2 it2 m2 (PyProof.Rows.extend_door hz) (Nat.le_trans (Nat.le_add_right _ _) hz) (Nat.le_succ_of_le hz)) ⟨hl,l2,?_⟩
  obtain ⟨I',a'⟩:=qc (t:=s.toks) I g1 hl (f:=fun x=>x++it2) (xs:=xs++ys) (by rw [zT];exact Nat.le_of_lt z) (by rw [Array.toList_append];exact r.app r2)
  exact k _ μ _ a' I' .none
 | remove =>
  obtain ⟨y,h2,e⟩:=zY e
  obtain ⟨i,h3,e⟩:=zY e
  obtain ⟨is,h4,e⟩:=zY e
  obtain ⟨j,hj,e⟩:=y9 e
  cases e
  rw [yW h2] at ra
  obtain ⟨y',rfl,ry⟩:=ra.one
  rw [y4 h3] at ry
  obtain ⟨t,rfl⟩:=ry.int_
  have hI:=z0a h4 r
  have len:is.length=items.size:=(z09 hI).trans (Array.length_toList)
  obtain ⟨hk,g2,g3⟩:=List.findIdx?_eq_some_iff_getElem.mp hj
  have at_:∀ m (hm:m<items.size) (hm':m<is.length),isI i items[m]=(is[m] == i)∧MeetsSeq.EqGives items[m] (.int i t) (is[m] == i):=fun m hm hm'=>by
   obtain ⟨x,u,q1,q2⟩:=z2j hI (m:=m) (v:=items[m]) (by rw [Array.getElem?_toList,Array.getElem?_eq_getElem hm])
   rw [zu hm'] at q1
   cases q1
   rw [q2]
   exact ⟨rfl,MeetsSeq.EqGives.int _ _ _ _⟩
  refine call_meets F.slot_list_remove ⟨_,hl,rfl⟩ F.entry_list_remove (F.args_list_remove_2 _ _)
   (MeetsSeq.list_remove d items mm (.int i t) (isI i) (fun y hy=>?_) j (by rw [← len];exact hk) ?_ (fun m hm hlt=>?_) (by rw [l];exact y8 z0)) ⟨hl,?_⟩
  ·obtain ⟨m,hm,rfl⟩:=Array.getElem_of_mem hy
   obtain ⟨q1,q2⟩:=at_ m hm (by rw [len];exact hm)
   rw [q1];exact q2
  ·rw [(at_ j (by rw [← len];exact hk) hk).1];exact g2
  ·rw [(at_ m hm (by rw [len];exact hm)).1];simpa using g3 m hlt
  ·obtain ⟨I',a'⟩:=qc (t:=s.toks) I g1 hl (f:=fun x=>x.eraseIdxIfInBounds j) (xs:=xs.eraseIdx j) (Nat.le_trans (List.length_eraseIdx_le _ _) z0) (by rw [Array.toList_eraseIdxIfInBounds];exact r.erase j)
   exact k _ μ _ a' I' .none
 | _=>exact nos e
theorem PRs.any {K:Type} [DecidableEq K] {μ:Mu} {h:Heap} {k:K} {kvs:List (K×AV)} {es:List (K×Value)} (r:PRs X μ h kvs es):kvs.any (fun kv=>kv.1=k)=es.any (fun kv=>kv.1=k):=by
 induction r with
 | nil=>rfl
 | cons _ _ ih=>rw [List.any_cons,List.any_cons,ih]
theorem PRs.put {K:Type} [DecidableEq K] {μ:Mu} {h:Heap} {k:K} {v:AV} {w:Value} (rv:VR X μ h v w) {kvs:List (K×AV)} {es:List (K×Value)} (r:PRs X μ h kvs es):PRs X μ h (xT kvs k v) (stored es k w):=by
 unfold xT stored
 rw [r.any (k:=k)]
 split <;> rename_i hh <;> clear hh
 ·induction r with
  | nil=>exact .nil
  | @cons k' v' w' _ _ a _ ih =>
   rw [List.map_cons,List.map_cons]
   by_cases q:k'=k
   ·rw [if_pos q,if_pos q];exact .cons rv ih
   ·rw [if_neg q,if_neg q];exact .cons a ih
 ·induction r with
  | nil=>exact .cons rv .nil
  | cons a _ ih=>exact .cons a ih
theorem Zj {K:Type} [DecidableEq K] (kvs:List (K×AV)) (k:K) (v:AV):(xT kvs k v).length≤kvs.length+1:=by
 unfold xT
 split
 ·rw [List.length_map];exact Nat.le_succ _
 ·rw [zT];exact Nat.le_refl _
theorem z0r {K:Type} [DecidableEq K] (more:List (K×AV)):∀ kvs:List (K×AV),(more.foldl (fun acc kv=>xT acc kv.1 kv.2) kvs).length≤kvs.length+more.length:=by
 induction more with
 | nil=>intro kvs;exact Nat.le_refl _
 | cons p more ih =>
  intro kvs
  refine Nat.le_trans (ih _) ?_
  rw [List.length_cons,Nat.add_comm more.length 1,← Nat.add_assoc]
  exact Nat.add_le_add_right (Zj _ _ _) _
theorem PRs.mer {K:Type} [DecidableEq K] {μ:Mu} {h:Heap} {more:List (K×AV)} {ws:List (K×Value)} (rm:PRs X μ h more ws):∀ {kvs:List (K×AV)} {es:List (K×Value)},PRs X μ h kvs es →
  PRs X μ h (more.foldl (fun acc kv=>xT acc kv.1 kv.2) kvs) (merged es ws):=by
 induction rm with
 | nil=>intro kvs es r;exact r
 | cons a _ ih=>intro kvs es r;exact ih (r.put a)
theorem Wt {m:Me} {a:Nat} {args:List AV} {c:Value} {args':List Value} (I:Inv X μ hp s) (ro:VR X μ s.heap (.ref a) c) (ra:VRs X μ s.heap args args')
  (k:PO X l μ s (Mine.ofP (meD m a args hp)) Q E):wpAny (model prog X.w) A (call (.builtin (Js m)) (c::args')) Q E s:=by
 obtain ⟨v,hp',e,k⟩:=k.ofP
 have k:PE X μ s v hp' Q:=k
 cases m with
 | update =>
  obtain ⟨u,h1,e⟩:=zY e
  obtain ⟨b,h2,e⟩:=zY e
  obtain ⟨kvs,h3,e⟩:=zY e
  obtain ⟨more,h4,e⟩:=zY e
  obtain ⟨⟨z,ne⟩,e⟩:=zt e
  cases e
  rw [yW h1] at ra
  obtain ⟨u1,rfl,r1⟩:=ra.one
  rw [yM h2] at r1
  obtain ⟨d,es,rfl,g1,m,q,sm,_⟩:=I.dicS_at ro (jP h3) prog
  obtain ⟨d2,es2,rfl,g2,m2,q2,sm2,_⟩:=I.dicS_at r1 (jP h4) prog
  have hne:d≠d2:=fun h=>ne (qZ I.nodup g1 g2 (b:=d) (.head _) (h▸.head _))
  refine call_meetsIn F.slot_dict_update m.typeIs F.entry_dict_update (F.args_dict_update_2 _ _) (meets_dict_update (strKind prog X.w) d d2 hne sm2) ⟨_,_,m,m2,by rw [← q.len,← q2.len];exact Nat.le_trans z (by decide),fun h' hm _ hs=>?_⟩
  have hkp:∀ b' o,b'∉ads (d,none)→s.heap.get? b'=some o→h'.get? b'=some o:=fun b' o hb e=>(hs.2 b' (fun h=>hb (by rw [h];exact .head _))).trans e
  have hfx:∀ b' o,s.heap.get? b'=some o→yS o→h'.get? b'=some o:=fun b' o e fx=>hkp b' o (fun hb=>by
   obtain ⟨o',es',ep,ho,hc,_⟩:=m
   rw [wm hb,ho] at e
   cases e
   exact Mut.notFixed (.inr (.inr hc.1)) fx) e
  obtain ⟨I',a''⟩:=I.upd (h':=h') (t:=s.toks) (o':=.dicS (more.foldl (fun acc kv=>xT acc kv.1 kv.2) kvs)) g1 hkp (.dicS hm ((q2.mer q).mono (List.prefix_refl _) hfx) sm (Nat.le_trans (z0r _ _) z))
  exact k _ μ _ a'' I' .none
 | _=>exact nos e
end
end Mine
end
end
section
noncomputable section
namespace Mine
open PySem PySem.W PySem.Calls
structure EnvR (X:Cx) (l:List Env) (sc:Sc) (env:Env) (fr:AFr) (μ:Mu) (h:Heap):Prop where
 fn:env.scope.kind=.function
 glob:env.globals=mainGlobals
 bltn:env.builtins=builtinsNs
 kind:∀ x,sc.kind x=env.kindOf x
 loc:∃ m,h.Ns env.locals m∧∀ x i v,sc.kind x=some .local→sc.slot x=some i→fr[i]? = some (some v)→∃ v',m x=some v'∧VR X μ h v v'
 cel:∀ x i,(sc.kind x=some .cell∨sc.kind x=some .free)→sc.slot x=some i→∃ c cv,env.cells.lookup x=some c∧h.IsCell c cv∧∀ v,fr[i]? = some (some v)→∃ v',cv=some v'∧VR X μ h v v'
 nloc:env.locals∉zo μ
 bloc:X.base.get? env.locals=none
 ncel:∀ x c,env.cells.lookup x=some c→c∉zo μ∧∃ cv,h.IsCell c cv
 bcel:∀ x c,env.cells.lookup x=some c→X.base.get? c=none
 apart:∀ x y c,env.cells.lookup x=some c→env.cells.lookup y=some c→x=y
 inj:∀ x y i,sc.slot x=some i→sc.slot y=some i→x=y
 wid:fr.length=sc.width
 slt:∀ x i,sc.slot x=some i→i<sc.width
 frs:Frs X l μ h
section
variable {X:Cx} {sc:Sc} {env:Env} {fr:AFr} {μ μ':Mu} {hp hp':Hp} {s s':Shared} {l:List Env}
theorem EnvR.le (V:EnvR X l sc env fr μ s.heap) (I:Inv X μ hp s) (a:Le noS μ s μ' s'):EnvR X l sc env fr μ' s'.heap:=by
 obtain ⟨m,ns,hm⟩:=V.loc
 have kp:∀ b o,b∉zo μ→s.heap.get? b=some o→Z2 o (s'.heap.get? b):=fun b o n e=>a.keep b o n (fun h=>h) e
 have nin:∀ b o,b∉zo μ→s.heap.get? b=some o→b∉zo μ':=fun b o n e h=>by
  rcases a.fresh b h with h | h
  ·exact n h
  ·rw [e] at h;cases h
 have cellK:∀ {c:Addr} {cv:Option Value},c∉zo μ→s.heap.IsCell c cv→s'.heap.IsCell c cv:=fun n h=>by
  obtain ⟨o,ho,r⟩:=h;exact ⟨o,(kp _ o n ho).exact (by unfold isD;rw [r]),r⟩
 refine ⟨V.fn,V.glob,V.bltn,V.kind,⟨m,?_,fun x i v h1 h2 h3=>?_⟩,fun x i h1 h2=>?_,?_,V.bloc,fun x c hc=>?_,V.bcel,V.apart,V.inj,V.wid,V.slt,V.frs.le a⟩
 ·obtain ⟨o,es,ep,ho,hd,r⟩:=ns
  obtain ⟨o',e',q⟩:=(kp _ o V.nloc ho).get
  exact ⟨o',es,ep,e',q.trans hd,r⟩
 ·obtain ⟨v',e,r⟩:=hm x i v h1 h2 h3
  exact ⟨v',e,r.le I a⟩
 ·obtain ⟨c,cv,e1,e2,e3⟩:=V.cel x i h1 h2
  refine ⟨c,cv,e1,cellK (V.ncel x c e1).1 e2,fun v hv=>?_⟩
  obtain ⟨v',q,r⟩:=e3 v hv
  exact ⟨v',q,r.le I a⟩
 ·obtain ⟨o,es,ep,ho,r⟩:=ns
  exact nin _ o V.nloc ho
 ·obtain ⟨n,cv,h⟩:=V.ncel x c hc
  obtain ⟨o,ho,r⟩:=id h
  exact ⟨nin c o n ho,cv,cellK n h⟩
end
structure Gd (X:Cx) (G:GTab):Prop where
 K:X.K.In X.base
 top:∃ mg mb,X.base.Ns mainGlobals mg∧X.base.Ns builtinsNs mb∧∀ x:Str,x ≠ "__name__" → mb x=bootBuiltins x
 lim:X.base.NoLimit
 glob:∀ x v,G.glob x=some v→∃ c,(nsIn X.K mainGlobals x=some (some c)∨(nsIn X.K mainGlobals x=some none∧bootBuiltins x=some c∧x ≠ "__name__"))∧∀ μ h,VR X μ h v c
 okf:∀ c name,G.okf c name=true→∃ C,nsIn X.K mainGlobals c=some (some (.ref C))∧xt X.K C=true∧wj X.K C name=true
section
variable {prog:Program} {X:Cx} {G:GTab} {sc:Sc} {env:Env} {fr:AFr} {μ μ':Mu} {hp hp':Hp} {s s':Shared} {A:Around} {E:Value→Shared→Prop} {n:Nat} {l:List Env} {Q:Value→Shared→Prop}
theorem Inv.kin (I:Inv X μ hp s) (g:X.K.In X.base):X.K.In s.heap:=g.keeps I.keep
theorem WU {x:Str} {pos:Pos} {i:Nat} {v:AV} (hk:sc.kind x=some .local∨sc.kind x=some .cell∨sc.kind x=some .free) (hs:sc.slot x=some i) (hv:fr[i]? = some (some v)) (I:Inv X μ hp s) (V:EnvR X l sc env fr μ s.heap)
  (hd:(x == ("__debug__" : Str))=false) (hc:(x == ("__classdict__" : Str))=false) (k:PE X μ s v hp Q):wpAny (model prog X.w) A (eval (.Name x pos) env) Q E s:=by
 refine wpAny_Name ?_ hd
 have kd:=V.kind x
 rcases hk with h | h | h
 ·obtain ⟨m,ns,hm⟩:=V.loc
  obtain ⟨v',e,r⟩:=hm x i v h hs hv
  exact wpAny_loadName_local V.fn (kd▸h) ns e (k.here I r)
 ·obtain ⟨c,cv,e1,e2,e3⟩:=V.cel x i (.inl h) hs
  obtain ⟨v',rfl,r⟩:=e3 v hv
  exact wpAny_loadName_cell V.fn (kd▸h) e1 e2 (k.here I r)
 ·obtain ⟨c,cv,e1,e2,e3⟩:=V.cel x i (.inr h) hs
  obtain ⟨v',rfl,r⟩:=e3 v hv
  exact wpAny_loadName_free V.fn (kd▸h) e1 e2 (k.here I r) hc
theorem Zg {x:Str} {pos:Pos} {v:AV} (g:Gd X G) (hk:sc.kind x=some .globalImplicit) (hv:G.glob x=some v) (I:Inv X μ hp s) (V:EnvR X l sc env fr μ s.heap) (hd:(x == ("__debug__" : Str))=false)
  (k:PE X μ s v hp Q):wpAny (model prog X.w) A (eval (.Name x pos) env) Q E s:=by
 obtain ⟨c,hc,r⟩:=g.glob x v hv
 obtain ⟨mg,mb,ng,nb,hb⟩:=g.top
 have kd:env.kindOf x=some .globalImplicit:=(V.kind x)▸hk
 rcases hc with e | ⟨e,e2,e3⟩
 ·exact Name_function_global V.fn kd (loadGlobal_global (by rw [V.glob];exact ng.keeps I.keep) (mg_of g.K ng e) (k.here I (r _ _))) hd
 ·exact Name_function_global V.fn kd (loadGlobal_builtin (by rw [V.glob];exact ng.keeps I.keep) (mg_none_of g.K ng e) (by rw [V.bltn];exact nb.keeps I.keep) ((hb x e3).trans e2) (k.here I (r _ _))) hd
theorem VR.handed {μ:Mu} {h:Heap} {v:AV} {c:Value} (r:VR X μ h v c):handedIn c=true:=by
 cases r <;> first | rfl | (rename_i b;cases b <;> first | rfl | decide)
theorem Xr {m name:Str} {tt:Tok} (q:(name == m)=false):(Value.str m tt).isStr name=false:=by show (m == name)=false;rw [beq_eq_false_iff_ne] at q ⊢;exact q.symm
theorem z07 {m name:Str} {tt:Tok} (q:(name == m)=true):(Value.str m tt).isStr name=true:=by show (m == name)=true;rw [beq_iff_eq] at q ⊢;exact q.symm
theorem FsR.miss {μ:Mu} {h:Heap} {name:Str} {fs:List (Str×AV)} {es:List DictEntry} (r:FsR X μ h fs es):fs.lookup name=none→es.find? (·.key.isStr name)=none∧es.any (·.refKey)=false:=by
 induction r with
 | nil=>intro _;exact ⟨rfl,rfl⟩
 | @cons m v hs tt w fs es a r ih =>
  intro e
  rw [List.lookup_cons] at e
  cases q:name == m with
  | true=>rw [q] at e;cases e
  | false =>
   rw [q] at e
   obtain ⟨h1,h2⟩:=ih e
   exact ⟨by rw [List.find?_cons_of_neg (by rw [Xr q];exact Bool.false_ne_true)];exact h1,by rw [List.any_cons,h2];rfl⟩
theorem FsR.find {μ:Mu} {h:Heap} {name:Str} {v:AV} {fs:List (Str×AV)} {es:List DictEntry} (r:FsR X μ h fs es):fs.lookup name=some v→∃ e,es.find? (·.key.isStr name)=some e∧VR X μ h v e.val:=by
 induction r with
 | nil=>intro e;exact nos e
 | @cons m v hs tt w fs es a r ih =>
  intro e
  rw [List.lookup_cons] at e
  cases q:name == m with
  | true =>
   rw [q] at e;cases e
   exact ⟨_,List.find?_cons_of_pos (z07 q),a⟩
  | false =>
   rw [q] at e
   obtain ⟨c,h1,h2⟩:=ih e
   exact ⟨c,by rw [List.find?_cons_of_neg (by rw [Xr q];exact Bool.false_ne_true)];exact h1,h2⟩
theorem FsR.get {μ:Mu} {h:Heap} {name:Str} {v:AV} {fs:List (Str×AV)} {es:List DictEntry} (r:FsR X μ h fs es) (e:fs.lookup name=some v):∃ c,getL name es=some (some c)∧VR X μ h v c:=by
 obtain ⟨c,h1,h2⟩:=r.find e
 exact ⟨c.val,by unfold getL;rw [h1],h2⟩
theorem j9 {K:Frag} {C:Addr} (h:xt K C=true):(findIn K (.ref C) "__getattribute__" = some (some (.builtin "object.__getattribute__"))∧findIn K (.ref C) "__getattr__" = some none)∧hasDictIn K C=true ∧
  findIn K (.ref C) "__setattr__" = some (some (.builtin "object.__setattr__"))∧plainOver K C=true:=by
 unfold xt at h
 simp only [Bool.and_eq_true,beq_iff_eq] at h
 exact ⟨plainGet_of h.1.1.1,h.1.1.2,h.1.2,h.2⟩
theorem wi {h:Heap} {x dx C:Addr} {es:List DictEntry} {n:Nat} {sl:Array (Option Value)} (h1:h.get? x=some ⟨.ref C,some dx,.plain,sl⟩) (h2:h.get? dx=some (dictOf es n)) :
  InstAt h x ⟨.ref C,some dx,.plain,sl⟩ C (some (dictOf es n)):=⟨h1,rfl,rfl,h2⟩
theorem Xi {name:Str} {v:AV} {l:List (Str×AV)}:l.lookup name=some v→∃ p∈l,p.1=name:=by
 induction l with
 | nil=>intro h;exact nos h
 | cons p l ih =>
  intro h
  rw [List.lookup_cons] at h
  cases q:name == p.1 with
  | true=>exact ⟨p,.head _,(beq_iff_eq.mp q).symm⟩
  | false=>rw [q] at h;obtain ⟨p',a,b⟩:=ih h;exact ⟨p',.tail _ a,b⟩
theorem Qu {a:Nat} {name cls:Str} {fs:List (Str×AV)} {v:AV} {c:Value} {ex:Bool} (g:Gd X G) (I:Inv X μ hp s) (r:VR X μ s.heap (.ref a) c) (ho:hp[a]? = some (.inst cls fs)) (hv:fs.lookup name=some v)
  (k:PE X μ s v hp Q):wpAny (model prog X.w) A (getAttr c name ex) Q E s:=by
 obtain ⟨p,h1,rfl⟩:=r.ref_
 obtain ⟨x,dx,C,es,m,sl,rfl,e1,e2,e3,e4,e5,e6,e7⟩:=(I.rep _ _ _ h1 ho).inst_
 obtain ⟨c',g1,g2⟩:=e4.get hv
 obtain ⟨⟨hg,hk⟩,hh,_,_⟩:=j9 e5
 obtain ⟨p,hp,hq⟩:=Xi hv
 have hf:wj X.K C name=true:=by rw [← hq];exact e6 p hp
 exact get_value (I.kin g.K) (wi e2 e3) hg (findObj_own hh (beq_iff_eq.mp hf) rfl (by rw [lookIn_dict];exact g1)) g2.handed (k.tok I g2)
theorem QY {a:Nat} {name cls:Str} {fs:List (Str×AV)} {C f:Addr} {c:Value} {pl:Sem Bool} {Q:Value×List Value→Shared→Prop} (g:Gd X G) (I:Inv X μ hp s) (r:VR X μ s.heap (.ref a) c) (ho:hp[a]? = some (.inst cls fs)) (hv:fs.lookup name=none)
  (hC:nsIn X.K mainGlobals cls=some (some (.ref C))) (hf:findIn X.K (.ref C) name=some (some (.ref f))) (ht:typeIn X.K (.ref f)=some (.type "function")) (k:Q (.ref f,[c]) s):wpAny (model prog X.w) A (getMethod c name pl) Q E s:=by
 obtain ⟨p,h1,rfl⟩:=r.ref_
 obtain ⟨x,dx,C',es,m,sl,rfl,e1,e2,e3,e4,e5,e6,e7⟩:=(I.rep _ _ _ h1 ho).inst_
 rw [hC] at e1;cases e1
 obtain ⟨⟨hg,hk⟩,hh,_,_⟩:=j9 e5
 obtain ⟨m1,m2⟩:=e4.miss hv
 refine method_fn (I.kin g.K) (wi e2 e3) hg hk hf ht ?_ k
 show (lookIn name (dictOf es m)).map _=_
 rw [lookIn_dict]
 unfold getL
 rw [m1,m2];rfl
end
end Mine
end
end
section
noncomputable section
namespace Mine
open PySem PySem.W PySem.Calls PyProof.Rows
noncomputable def QT (h:Heap) (L dx:Addr):List (Addr×Obj):=(List.range h.objs.size).filterMap fun b=>if b=L∨b=dx then none else (h.get? b).map (b,·)
theorem wy {h:Heap} {L dx b:Addr} {o:Obj}:(b,o)∈QT h L dx↔b≠L∧b≠dx∧h.get? b=some o:=by
 unfold QT
 rw [List.mem_filterMap]
 constructor
 ·rintro ⟨c,_,e⟩
  split at e
  ·exact nos e
  ·rename_i h
   simp only [Option.map_eq_some_iff,Prod.mk.injEq] at e
   obtain ⟨o',e,rfl,rfl⟩:=e
   exact ⟨fun q=>h (.inl q),fun q=>h (.inr q),e⟩
 ·rintro ⟨h1,h2,h3⟩
  refine ⟨b,List.mem_range.mpr (Heap.lt_size h3),?_⟩
  rw [if_neg (by simp [h1,h2]),h3];rfl
theorem FsR.put {X:Cx} {μ:Mu} {h:Heap} {name:Str} {v:AV} {v':Value} {hs:Int} {t:Tok} (r:VR X μ h v v') {fs:List (Str×AV)} {es:List DictEntry} (q:FsR X μ h fs es):FsR X μ h (wW name v fs) (putL name hs (.str name t) v' es):=by
 induction q with
 | nil=>exact .cons r .nil
 | @cons m v hs tt w fs es a q ih =>
  have e:(Value.str m tt).isStr name=(m == name):=rfl
  simp only [wW,putL,e]
  by_cases hq:(m == name)=true
  ·rw [if_pos hq,if_pos hq];exact .cons r q
  ·rw [if_neg hq,if_neg hq];exact .cons a ih
theorem FsR.look {X:Cx} {μ:Mu} {h:Heap} {name:Str} {fs:List (Str×AV)} {es:List DictEntry} (r:FsR X μ h fs es):(getL name es).isSome=true:=by
 cases q:fs.lookup name with
 | some v=>obtain ⟨c,e,_⟩:=r.get q;rw [e];rfl
 | none=>obtain ⟨e1,e2⟩:=r.miss q;unfold getL;rw [e1,e2];rfl
theorem FsR.length {X:Cx} {μ:Mu} {h:Heap} {fs:List (Str×AV)} {es:List DictEntry} (r:FsR X μ h fs es):es.length=fs.length:=by
 induction r with
 | nil=>rfl
 | cons _ _ ih=>exact congrArg (·+1) ih
theorem z0e {name:Str} {v:AV} {fs:List (Str×AV)} {p:Str×AV}:p∈wW name v fs→p.1=name∨∃ q∈fs,q.1=p.1:=by
 induction fs with
 | nil=>intro h;rw [xg h];exact .inl rfl
 | cons q fs ih =>
  intro h
  have h:p∈(if (q.1 == name)=true then (q.1,v)::fs else q::wW name v fs):=h
  by_cases hq:(q.1 == name)=true
  ·rw [if_pos hq] at h
   rcases List.mem_cons.mp h with rfl | h
   ·exact .inl (beq_iff_eq.mp hq)
   ·exact .inr ⟨p,.tail _ h,rfl⟩
  ·rw [if_neg hq] at h
   rcases List.mem_cons.mp h with rfl | h
   ·exact .inr ⟨p,.head _,rfl⟩
   ·rcases ih h with h | ⟨q',a,b⟩
    ·exact .inl h
    ·exact .inr ⟨q',.tail _ a,b⟩
theorem jr {name:Str} {v:AV} {fs:List (Str×AV)}:(wW name v fs).length≤fs.length+1:=by
 induction fs with
 | nil=>exact Nat.le_refl _
 | cons q fs ih =>
  show (if (q.1 == name)=true then (q.1,v)::fs else q::wW name v fs).length≤_
  by_cases hq:(q.1 == name)=true
  ·rw [if_pos hq];exact Nat.le_succ _
  ·rw [if_neg hq];exact Nat.succ_le_succ ih
noncomputable def own (env:Env):Addr→Prop:=fun b=>b=env.locals∨∃ x,env.cells.lookup x=some b
section
variable {prog:Program} {X:Cx} {G:GTab} {sc:Sc} {env:Env} {fr:AFr} {μ μ':Mu} {hp hp':Hp} {s s':Shared} {A:Around} {E:Value→Shared→Prop} {n:Nat} {l:List Env}
theorem yV (V:EnvR X l sc env fr μ s.heap):∀ b o,own env b→s.heap.get? b=some o→¬ yS o:=by
 rintro b o (rfl | ⟨x,hx⟩) e f
 ·obtain ⟨m,⟨o',es,ep,ho,hd,_⟩,_⟩:=V.loc
  rw [e] at ho;cases ho
  rcases f with ⟨_,xs,n,q⟩ | ⟨_,vs,q⟩ <;> rw [hd] at q <;> cases q
 ·obtain ⟨_,cv,o',ho,hd⟩:=V.ncel x b hx
  rw [e] at ho;cases ho
  rcases f with ⟨_,xs,n,q⟩ | ⟨_,vs,q⟩ <;> rw [hd] at q <;> cases q
theorem VR.leOwn {x:AV} {v:Value} (r:VR X μ s.heap x v) (I:Inv X μ hp s) (V:EnvR X l sc env fr μ s.heap) (a:Le (own env) μ s μ' s'):VR X μ' s'.heap x v:=r.mono a.pre (a.fixed I (yV V))
theorem EnvR.leLoc {m:Str→Option Value} (V:EnvR X l sc env fr μ s.heap) (I:Inv X μ hp s) (a:Le (fun b=>b=env.locals) μ s μ' s') (h0:s.heap.Ns env.locals m) (h1:s'.heap.Ns env.locals m):EnvR X l sc env fr μ' s'.heap:=by
 obtain ⟨m',ns,hm⟩:=V.loc
 have em:m'=m:=by
  obtain ⟨o,es,ep,ho,hd,_,hf⟩:=ns
  obtain ⟨o',es',ep',ho',hd',_,hf'⟩:=h0
  rw [ho] at ho';cases ho'
  rw [hd] at hd';cases hd'
  funext x;rw [← hf x,← hf' x]
 subst em
 have rl:∀ {x:AV} {v:Value},VR X μ s.heap x v→VR X μ' s'.heap x v:=fun r=>r.leOwn I V (a.weak fun b h=>.inl h)
 have lc:∀ x c,env.cells.lookup x=some c→c≠env.locals:=fun x c h e=>by
  obtain ⟨_,cv,o,ho,hd⟩:=V.ncel x c h
  obtain ⟨o',es,ep,ho',hd',_⟩:=ns
  rw [e,ho'] at ho;cases ho;rw [hd] at hd';cases hd'
 have nin:∀ b o,b∉zo μ→s.heap.get? b=some o→b∉zo μ':=fun b o n e h=>by
  rcases a.fresh b h with h | h
  ·exact n h
  ·rw [e] at h;cases h
 have cellK:∀ {x:Str} {c:Addr} {cv:Option Value},env.cells.lookup x=some c→s.heap.IsCell c cv→s'.heap.IsCell c cv:=fun hx h=>by
  obtain ⟨o,ho,r⟩:=h;exact ⟨o,(a.keep _ o (V.ncel _ _ hx).1 (lc _ _ hx) ho).exact (by unfold isD;rw [r]),r⟩
 refine ⟨V.fn,V.glob,V.bltn,V.kind,⟨m',h1,fun x i v e1 e2 e3=>?_⟩,fun x i e1 e2=>?_,?_,V.bloc,fun x c hc=>?_,V.bcel,V.apart,V.inj,V.wid,V.slt,V.frs.mono fun b o n e d=>⟨a.out n e,?_⟩⟩
 rotate_right
 ·by_cases q:b=env.locals
  ·obtain ⟨o',es,ep,ho,hd,_⟩:=h1
   exact ⟨o',q▸ho,Ze hd⟩
  ·obtain ⟨o',e',q'⟩:=(a.keep b o n q e).get
   exact ⟨o',e',(z08 q').trans d⟩
 ·obtain ⟨v',e,r⟩:=hm x i v e1 e2 e3
  exact ⟨v',e,rl r⟩
 ·obtain ⟨c,cv,q1,q2,q3⟩:=V.cel x i e1 e2
  refine ⟨c,cv,q1,cellK q1 q2,fun v hv=>?_⟩
  obtain ⟨v',q,r⟩:=q3 v hv
  exact ⟨v',q,rl r⟩
 ·obtain ⟨o,es,ep,ho,r⟩:=ns
  exact nin _ o V.nloc ho
 ·obtain ⟨n,cv,h⟩:=V.ncel x c hc
  obtain ⟨o,ho,r⟩:=id h
  exact ⟨nin c o n ho,cv,cellK hc h⟩
theorem Y3 {a:Nat} {name cls:Str} {fs:List (Str×AV)} {v:AV} {c v':Value} {Q:Unit→Shared→Prop} (g:Gd X G) (I:Inv X μ hp s) (V:EnvR X l sc env fr μ s.heap) (r:VR X μ s.heap (.ref a) c)
  (ho:hp[a]? = some (.inst cls fs)) (rv:VR X μ s.heap v v') (hok:G.okf cls name=true) (hlen:fs.length<100)
  (k:∀ s',Le (own env) μ s μ s'→Inv X μ (hp.set a (.inst cls (wW name v fs))) s'→EnvR X l sc env fr μ s'.heap→Q () s'):wpAny (model prog X.w) A (setAttr c name v') Q E s:=by
 obtain ⟨p,h1,rfl⟩:=r.ref_
 obtain ⟨x,dx,C,es,m,sl,rfl,e1,e2,e3,e4,e5,e6,e7⟩:=(I.rep _ _ _ h1 ho).inst_
 obtain ⟨C',c1,c2,c3⟩:=g.okf cls name hok
 rw [e1] at c1;cases c1
 obtain ⟨⟨hg,hk⟩,hh,hset,hp0⟩:=j9 e5
 obtain ⟨mL,nsL,_⟩:=id V.loc
 have hfld:findIn X.K (.ref C) name=some none:=beq_iff_eq.mp c3
 have dxA:dx∈zo μ:=yh.mpr ⟨a,_,h1,.tail _ (.head _)⟩
 have dxL:dx≠env.locals:=fun e=>V.nloc (e▸dxA)
 have F0:Fr ({}:Heap) env.locals s.heap mL:=⟨nsL,fun b o e=>by simp [Heap.get?] at e,Nat.zero_le _⟩
 have N0:News ({}:Heap) env.locals s.heap ([]++(dx,dictOf es m)::QT s.heap env.locals dx):=fun p hp=>by
  rcases List.mem_cons.mp hp with rfl | hp
  ·exact ⟨e3,dxL,rfl⟩
  ·obtain ⟨b,o⟩:=p
   obtain ⟨q1,q2,q3⟩:=wy.mp hp
   exact ⟨q3,q1,rfl⟩
 refine set_plain (I.kin g.K) (wi e2 e3) hset ?_
 refine osa_dict (s:={ s with toks:=s.toks+1 }) (es:=putL name (PyData.keyHash X.w.params name) (.str name (s.toks+1)) v' es) (n:=putN name es m) F0 N0 (I.kin g.K) (wi e2 e3) rfl hp0 (by unfold takerIn;rw [hfld];rfl) hh
  (by rw [lookIn_dict];exact e4.look) (fun p hp=>nomatch hp) (fun p hp=>by obtain ⟨b,o⟩:=p;exact (wy.mp hp).2.1) (by rw [putName_dict]) rfl ?_ fun h' F' N'=>?_
 ·have l:=(e4.put (name:=name) (hs:=PyData.keyHash X.w.params name) (t:=s.toks+1) rv).length
  have l2:=jr (name:=name) (v:=v) (fs:=fs)
  lia
 ·have kp:∀ b o,b≠dx→b≠env.locals→s.heap.get? b=some o→h'.get? b=some o:=fun b o n1 n2 e=>(N' (b,o) (List.mem_cons_of_mem _ (wy.mpr ⟨n2,n1,e⟩))).1
  have hd':=(N' (dx,_) (.head _)).1
  have xA:x∈zo μ:=yh.mpr ⟨a,_,h1,.head _⟩
  have xL:x≠env.locals:=fun e=>V.nloc (e▸xA)
  have xdx:x≠dx:=fun e=>by rw [e,e3] at e2;cases e2
  have oldL:=nsL
  obtain ⟨oL,esL,epL,hoL,hdL,_⟩:=oldL
  have nsL':=F'.ns
  have fx:∀ b o,s.heap.get? b=some o→yS o→h'.get? b=some o:=fun b o e f=>kp b o (fun q=>by
    rw [q,e3] at e;cases e;exact Mut.notFixed (.inr (.inr rfl)) f) (fun q=>yV V b o (.inl q) e f) e
  have R:OR X μ h' (.inst cls (wW name v fs)) (x,some dx):=.inst (n:=putN name es m) e1 (kp x _ xdx xL e2) hd' ((e4.put rv).mono (List.prefix_refl _) fx) e5 (fun p hp=>by
    rcases z0e hp with h | ⟨q,h1,h2⟩
    ·rw [h];exact c3
    ·rw [← h2];exact e6 q h1) (by have:=jr (name:=name) (v:=v) (fs:=fs);lia)
  obtain ⟨I',L'⟩:=I.updS (s':={ s with heap:=h',toks:=s.toks+1+1 }) (S:=fun b=>b=env.locals) (fun b h=>h▸⟨V.nloc,V.bloc⟩)
   (fun b o h e=>⟨fun f=>yV V b o (.inl h) e f,by obtain ⟨o',es',ep',ho',_⟩:=nsL';exact ⟨o',h▸ho'⟩⟩) h1
   (fun b o n1 n2 e=>kp b o (fun q=>n1 (q▸.tail _ (.head _))) n2 e) R rfl rfl
  exact k _ (L'.weak fun b h=>.inl h) I' (V.leLoc I L' nsL nsL')
theorem Yi {o i v:AV} {c d v':Value} {hp'':Hp} {Q:Unit→Shared→Prop} (e:qH hp o i v=some hp'') (I:Inv X μ hp s) (ro:VR X μ s.heap o c) (ri:VR X μ s.heap i d) (rv:VR X μ s.heap v v')
  (k:∀ s',Le noS μ s μ s'→Inv X μ hp'' s'→Q () s'):wpAny (model prog X.w) A (setItem c d v') Q E s:=by
 obtain ⟨a,h1,e⟩:=zY e
 rw [yM h1] at ro
 have e:(match yj i with
  | some x=>(qT hp a).bind fun kvs=>if kvs.length<100 then some (hp.set a (.dicS (xT kvs x v))) else none
  | none=>(yG i).bind fun k=>match yl hp a with
   | some kvs=>if kvs.length<small then some (hp.set a (.dict (xT kvs k v))) else none
   | none=>(ze hp a).bind fun xs=>if 0≤k∧k<xs.length∧xs.length≤small then some (hp.set a (.list (xs.set k.toNat v))) else none)=some hp'':=e
 cases hx:yj i with
 | some x =>
  rw [hx] at e
  obtain ⟨kvs,hq,e⟩:=zY e
  obtain ⟨z,rfl⟩:=zt e
  rw [xJ hx] at ri
  obtain ⟨t,rfl,_⟩:=ri.str_
  obtain ⟨b,es,rfl,g1,m,p,sm,_⟩:=I.dicS_at ro (jP hq) prog
  refine wpAny_setItem_pairs (k:=x) (by show Value.isStrOf x (.str x t)=true;exact beq_self_eq_true x) m (fun h' hm hs=>?_) (by rw [← p.len];exact Nat.le_trans (Nat.le_of_lt z) (by decide))
  have hk:∀ b' o,b'∉ads (b,none)→s.heap.get? b'=some o→h'.get? b'=some o:=fun b' o hb e=>(hs.2 b' (fun h=>hb (by rw [h];exact .head _))).trans e
  obtain ⟨I',a'⟩:=I.upd (h':=h') (t:=s.toks+1) (o':=.dicS (xT kvs x v)) g1 hk (.dicS hm ((p.put rv).mono (List.prefix_refl _) fun b' o e fx=>hk b' o (fun hb=>by
   obtain ⟨o',es',ep,ho,hc,_⟩:=m
   rw [wm hb,ho] at e
   cases e
   exact Mut.notFixed (.inr (.inr hc.1)) fx) e) sm (Nat.le_trans (Zj _ _ _) z))
  exact k _ a' I'
 | none =>
 rw [hx] at e
 obtain ⟨j,h2,e⟩:=zY e
 rw [y4 h2] at ri
 obtain ⟨t,rfl⟩:=ri.int_
 cases hq:yl hp a with
 | some kvs =>
  rw [hq] at e
  have e:(if kvs.length<small then some (hp.set a (.dict (xT kvs j v))) else none)=some hp'':=e
  obtain ⟨z,rfl⟩:=zt e
  obtain ⟨b,es,rfl,g1,m,p,sm,_⟩:=I.dict_at ro (Zi hq) prog X.w
  refine wpAny_setItem_pairs (k:=j) (by show Value.isInt j (.int j t)=true;simp [Value.isInt]) m (fun h' hm hs=>?_) (by rw [← p.len];exact y8 (Nat.le_of_lt z))
  have hk:∀ b' o,b'∉ads (b,none)→s.heap.get? b'=some o→h'.get? b'=some o:=fun b' o hb e=>(hs.2 b' (fun h=>hb (by rw [h];exact .head _))).trans e
  obtain ⟨I',a'⟩:=I.upd (h':=h') (t:=s.toks+1) (o':=.dict (xT kvs j v)) g1 hk (.dict hm ((p.put rv).mono (List.prefix_refl _) fun b' o e fx=>hk b' o (fun hb=>by
   obtain ⟨o',es',ep,ho,hc,_⟩:=m
   rw [wm hb,ho] at e
   cases e
   exact Mut.notFixed (.inr (.inr hc.1)) fx) e) sm (Nat.le_trans (Zj _ _ _) z))
  exact k _ a' I'
 | none =>
 rw [hq] at e
 obtain ⟨xs,h3,e⟩:=zY e
 obtain ⟨h,rfl⟩:=zt e
 obtain ⟨b,items,m,rfl,g1,hl,z,r⟩:=I.list_at ro (yX h3)
 have l:=r.size
 have hz:xs.length≤1048576:=h.2.2
 refine ki_setAt hl h.1 (by lia) (by lia) ?_
 obtain ⟨I',a'⟩:=qc (t:=s.toks) I g1 hl (f:=fun x=>x.setIfInBounds j.toNat v') (xs:=xs.set j.toNat v) (by rw [List.length_set];exact z) (by rw [Array.toList_setIfInBounds];exact r.set rv _)
 exact k _ a' I'
theorem Yj {o lo u v:AV} {c d1 d2 v':Value} {sl:Addr} {hp'':Hp} {Q:Unit→Shared→Prop} (e:wL hp o lo u v=some hp'') (I:Inv X μ hp s) (ro:VR X μ s.heap o c) (rl:VR X μ s.heap lo d1) (ru:VR X μ s.heap u d2) (rv:VR X μ s.heap v v')
  (hs:s.heap.IsSliceOf sl d1 d2 .none) (k:∀ s',Le noS μ s μ s'→Inv X μ hp'' s'→Q () s'):wpAny (model prog X.w) A (setItem c (.ref sl) v') Q E s:=by
 obtain ⟨a,h1,e⟩:=zY e
 obtain ⟨xs,h2,e⟩:=zY e
 obtain ⟨b,h3,e⟩:=zY e
 obtain ⟨ys,h4,e⟩:=zY e
 obtain ⟨i,h5,e⟩:=zY e
 obtain ⟨j,h6,e⟩:=zY e
 obtain ⟨⟨rfl,z1,z2,z3,z4⟩,rfl⟩:=zt e
 rw [yM h1] at ro
 rw [yM h3] at rv
 rw [y4 h5] at rl
 rw [y4 h6] at ru
 obtain ⟨t,rfl⟩:=rl.int_
 obtain ⟨t',rfl⟩:=ru.int_
 obtain ⟨i,rfl⟩:=Int.eq_ofNat_of_zero_le z1
 obtain ⟨c1,it1,m1,rfl,g1,l1,_,r1⟩:=I.list_at ro (yX h2)
 obtain ⟨c2,it2,m2,rfl,g2,l2,_,r2⟩:=I.list_at rv (yX h4)
 have s1:=r1.size
 have hne:c1≠c2:=fun h=>z3 (qZ I.nodup g1 g2 (b:=c1) (.head _) (h▸.head _))
 refine XO l1 l2 hne hs (by rw [s1];exact Int.ofNat_le.mp z2) (by rw [s1,r2.size];exact y8 z4) ?_
 obtain ⟨I',a'⟩:=qc (t:=s.toks) I g1 l1 (f:=fun x=>x.extract 0 i++it2++x.extract i x.size) (xs:=xs.take i++ys++xs.drop i) (by
  rw [List.append_assoc,zT,zT,List.length_take,List.length_drop]
  have:=Int.ofNat_le.mp z2
  lia) (by
  have e1:(it1.extract 0 i++it2++it1.extract i it1.size).toList=it1.toList.take i++it2.toList++it1.toList.drop i:=by
   simp [Array.toList_extract]
   rw [List.take_of_length_le (by simp)]
  rw [e1]
  exact ((r1.take i).app r2).app (r1.drop i))
 exact k _ a' I'
theorem Frs.but {h h':Heap} {c:Addr} (f:Frs X l μ h) (hsb:∀ b,b≠c→h'.get? b=h.get? b) (hc:∀ o,h.get? c=some o→isD o=true→∃ o',h'.get? c=some o'∧isD o'=true):Frs X l μ h':=f.mono fun b o n e d=>by
 refine ⟨n,?_⟩
 by_cases q:b=c
 ·rw [q] at e ⊢;exact hc o e d
 ·exact ⟨o,(hsb b q).trans e,d⟩
noncomputable def Yn (cb:Bool) (env:Env):Addr→Prop:=fun b=>b=env.locals∨(cb=true∧∃ x,env.cells.lookup x=some b)
theorem qL {cb:Bool} {env:Env} {b:Addr} (h:Yn cb env b):own env b:=h.imp id (·.2)
theorem Zw {cb:Bool} {x:Str} {i:Nat} {v:AV} {v':Value} {Q:Unit→Shared→Prop} (I:Inv X μ hp s) (V:EnvR X l sc env fr μ s.heap) (hk:sc.kind x=some .local∨sc.kind x=some .cell) (hcb:sc.kind x=some .cell→cb=true) (hs:sc.slot x=some i) (hi:i<fr.length)
  (rv:VR X μ s.heap v v') (k:∀ s',Le (Yn cb env) μ s μ s'→Inv X μ hp s'→EnvR X l sc env (fr.set i (some v)) μ s'.heap→Q () s'):wpAny (model prog X.w) A (bindName env x v') Q E s:=by
 refine wpAny_bindName ?_
 have kd:=V.kind x
 have other:∀ y j,y≠x→sc.slot y=some j→(fr.set i (some v))[j]? = fr[j]? := fun y j hne hj=>by
  rw [List.getElem?_set_ne];intro h;subst h;exact hne (V.inj y x _ hj hs)
 rcases hk with hk | hk
 ·obtain ⟨m,ns,hm⟩:=V.loc
  refine wpAny_storeName_local (kd▸hk) ns (fun h' hn hsb=>?_) (by rw [V.fn];rfl)
  have nsL':=hn
  obtain ⟨I',L'⟩:=I.own (s':={ s with heap:=h',toks:=s.toks+1 }) (S:=fun b=>b=env.locals) (fun b h=>h▸⟨V.nloc,V.bloc⟩)
    (fun b o h e=>⟨fun f=>yV V b o (.inl h) e f,by obtain ⟨o',es',ep',ho',_⟩:=nsL';exact ⟨o',h▸ho'⟩⟩)
    (fun b o n e=>(hsb.2 b n).trans e) rfl rfl
  have rl:∀ {x:AV} {v:Value},VR X μ s.heap x v→VR X μ h' x v:=fun r=>r.leOwn I V (s':={ s with heap:=h',toks:=s.toks+1 }) (L'.weak fun b h=>.inl h)
  have lc:∀ x c,env.cells.lookup x=some c→c≠env.locals:=fun x c h e=>by
   obtain ⟨_,cv,o,ho,hd⟩:=V.ncel x c h
   obtain ⟨o',es,ep,ho',hd',_⟩:=ns
   rw [e,ho'] at ho;cases ho;rw [hd] at hd';cases hd'
  have cellK:∀ {x:Str} {c:Addr} {cv:Option Value},env.cells.lookup x=some c→s.heap.IsCell c cv→h'.IsCell c cv:=fun hx h=>by
   obtain ⟨o,ho,r⟩:=h;exact ⟨o,(hsb.2 _ (lc _ _ hx)).trans ho,r⟩
  refine k _ (L'.weak fun b h=>.inl h) I' ⟨V.fn,V.glob,V.bltn,V.kind,⟨_,hn,fun y j u e1 e2 e3=>?_⟩,fun y j e1 e2=>?_,V.nloc,V.bloc,fun y c hc=>?_,V.bcel,V.apart,V.inj,by rw [List.length_set];exact V.wid,V.slt,
   V.frs.but (fun b n=>hsb.2 b n) fun o _ _=>by obtain ⟨o',es',ep',ho',hd',_⟩:=nsL';exact ⟨o',ho',Ze hd'⟩⟩
  ·by_cases hy:y=x
   ·subst hy
    rw [hs] at e2;cases e2
    rw [List.getElem?_set_self hi] at e3;cases e3
    exact ⟨v',by simp,rl rv⟩
   ·rw [other y j hy e2] at e3
    obtain ⟨u',q,r⟩:=hm y j u e1 e2 e3
    exact ⟨u',by simp [hy,q],rl r⟩
  ·have hy:y≠x:=fun h=>by subst h;rw [hk] at e1;rcases e1 with h | h <;> cases h
   obtain ⟨c,cv,q1,q2,q3⟩:=V.cel y j e1 e2
   refine ⟨c,cv,q1,cellK q1 q2,fun u hu=>?_⟩
   rw [other y j hy e2] at hu
   obtain ⟨u',q,r⟩:=q3 u hu
   exact ⟨u',q,rl r⟩
  ·obtain ⟨n,cv,h⟩:=V.ncel y c hc
   exact ⟨n,cv,cellK hc h⟩
 ·obtain ⟨c,cv,q1,q2,q3⟩:=V.cel x i (.inl hk) hs
  refine wpAny_storeName_cell V.fn (kd▸hk) q1 q2 fun h' hc' hsb=>?_
  obtain ⟨m,ns,hm⟩:=V.loc
  have hcL:env.locals≠c:=fun e=>by
   obtain ⟨o,ho,hd⟩:=q2
   obtain ⟨o',es,ep,ho',hd',_⟩:=ns
   rw [e,ho] at ho';cases ho';rw [hd] at hd';cases hd'
  obtain ⟨I',L'⟩:=I.own (s':={ s with heap:=h' }) (S:=fun (b:Addr)=>b=c) (fun b (h:b=c)=>by rw [h];exact ⟨(V.ncel x c q1).1,V.bcel x c q1⟩)
    (fun b o (h:b=c) e=>⟨fun f=>yV V b o (.inr ⟨x,by rw [h];exact q1⟩) e f,by obtain ⟨o',ho',_⟩:=hc';exact ⟨o',by rw [h];exact ho'⟩⟩)
    (fun b o n e=>(hsb.2 b n).trans e) rfl rfl
  have W:Le (Yn cb env) μ s μ { s with heap:=h' }:=L'.weak fun b (h:b=c)=>.inr ⟨hcb hk,x,by rw [h];exact q1⟩
  have rl:∀ {x:AV} {v:Value},VR X μ s.heap x v→VR X μ h' x v:=fun r=>r.leOwn I V (s':={ s with heap:=h' }) (W.weak fun _=>qL)
  have cellK:∀ {y:Str} {c':Addr} {cv:Option Value},y≠x→env.cells.lookup y=some c'→s.heap.IsCell c' cv→h'.IsCell c' cv:=fun hy hx h=>by
   obtain ⟨o,ho,r⟩:=h;exact ⟨o,(hsb.2 _ (fun e=>hy (V.apart _ _ c (e▸hx) q1))).trans ho,r⟩
  refine k _ W I' ⟨V.fn,V.glob,V.bltn,V.kind,⟨m,ns.sameBut hsb hcL,fun y j u e1 e2 e3=>?_⟩,fun y j e1 e2=>?_,V.nloc,V.bloc,fun y c' hc=>?_,V.bcel,V.apart,V.inj,by rw [List.length_set];exact V.wid,V.slt,
   V.frs.but (fun b n=>hsb.2 b n) fun o e d=>by obtain ⟨o',ho',hd'⟩:=q2;rw [e] at ho';cases ho';unfold isD at d;rw [hd'] at d;cases d⟩
  ·have hy:y≠x:=fun h=>by subst h;rw [hk] at e1;cases e1
   rw [other y j hy e2] at e3
   obtain ⟨u',q,r⟩:=hm y j u e1 e2 e3
   exact ⟨u',q,rl r⟩
  ·by_cases hy:y=x
   ·subst hy
    rw [hs] at e2;cases e2
    refine ⟨c,some v',q1,hc',fun u hu=>?_⟩
    rw [List.getElem?_set_self hi] at hu;cases hu
    exact ⟨v',rfl,rl rv⟩
   ·obtain ⟨c',cv',p1,p2,p3⟩:=V.cel y j e1 e2
    refine ⟨c',cv',p1,cellK hy p1 p2,fun u hu=>?_⟩
    rw [other y j hy e2] at hu
    obtain ⟨u',q,r⟩:=p3 u hu
    exact ⟨u',q,rl r⟩
  ·by_cases hy:y=x
   ·subst hy;rw [q1] at hc;cases hc;exact ⟨(V.ncel y c q1).1,_,hc'⟩
   ·obtain ⟨n,cv',h⟩:=V.ncel y c' hc
    exact ⟨n,cv',cellK hy hc h⟩
end
end Mine
end
end
section
noncomputable section
namespace Mine
open PySem PySem.W PySem.Calls
noncomputable def z1b (X:Cx):Callee→Addr→Prop
 | .fn x,f=>nsIn X.K mainGlobals x=some (some (.ref f))
 | .cls x,f=>nsIn X.K mainGlobals x=some (some (.ref f))
 | .meth c x,f=>∃ C,nsIn X.K mainGlobals c=some (some (.ref C))∧findIn X.K (.ref C) x=some (some (.ref f))∧typeIn X.K (.ref f)=some (.type "function")
structure SndCF (prog:Program) (X:Cx) (n:Nat) (cf:CF):Prop where
 run:∀ {c:Callee} {args:List AV} {hp:Hp} {A:Around} {l:List Env} {μ:Mu} {s:Shared} {Q:Value→Shared→Prop} {E:Value→Shared→Prop} {f:Addr} {args':List Value},
  Room n A l→Frs X l μ s.heap→Inv X μ hp s→z1b X c f→VRs X μ s.heap args args'→PO X l μ s (cf c args hp) Q E→wpAny (model prog X.w) A (call (.ref f) args') Q E s
 keep:∀ {c:Callee} {args:List AV} {hp:Hp} {f:Addr},cf c args hp≠.stuck→z1b X c f→keepIn X.K (.ref f)=true
 meth:∀ {c x:Str} {args:List AV} {hp:Hp},cf (.meth c x) args hp≠.stuck→∃ f,z1b X (.meth c x) f
noncomputable abbrev PT (X:Cx) (l:List Env) (μ:Mu) (s:Shared) (o:Out Bool) (Q:Bool→Shared→Prop) (E:Value→Shared→Prop):Prop:=PG (fun _ _ a b=>a=b) X l μ s o Q E
noncomputable abbrev PEs (X:Cx) (l:List Env) (μ:Mu) (s:Shared) (o:Out (List AV)) (Q:List Value→Shared→Prop) (E:Value→Shared→Prop):Prop:=PG (fun μ h=>VRs X μ h) X l μ s o Q E
section
variable (prog:Program) (X:Cx) (n:Nat) (cf:CF) (sc:Sc) (env:Env)
noncomputable def zw (t:Sem Value) (x:XE):Prop:=∀ {fr:AFr} {hp:Hp} {A:Around} {l:List Env} {μ:Mu} {s:Shared} {Q:Value→Shared→Prop} {E:Value→Shared→Prop},
  Room n A l→Inv X μ hp s→EnvR X l sc env fr μ s.heap→PO X l μ s (x cf fr hp) Q E→wpAny (model prog X.w) A t Q E s
noncomputable def wY (t:Sem Bool) (x:XT):Prop:=∀ {fr:AFr} {hp:Hp} {A:Around} {l:List Env} {μ:Mu} {s:Shared} {Q:Bool→Shared→Prop} {E:Value→Shared→Prop},
  Room n A l→Inv X μ hp s→EnvR X l sc env fr μ s.heap→PT X l μ s (x cf fr hp) Q E→wpAny (model prog X.w) A t Q E s
inductive SndL:List (Sem Value)→List XE→Prop
 | nil:SndL [] []
 | cons {t:Sem Value} {x:XE} {ts:List (Sem Value)} {xs:List XE}:zw prog X n cf sc env t x→SndL ts xs→SndL (t::ts) (x::xs)
inductive SndTs:List (Sem Bool)→List XT→Prop
 | nil:SndTs [] []
 | cons {t:Sem Bool} {x:XT} {ts:List (Sem Bool)} {xs:List XT}:wY prog X n cf sc env t x→SndTs ts xs→SndTs (t::ts) (x::xs)
end
section
variable {X:Cx} {l:List Env} {μ:Mu} {s:Shared} {hp:Hp} {E:Value→Shared→Prop}
theorem PG.pe {v:AV} {Q:Value→Shared→Prop} (k:PO X l μ s (.ok v hp) Q E):PE X μ s v hp Q:=k
theorem PG.tk {b:Bool} {Q:Bool→Shared→Prop} (k:PT X l μ s (.ok b hp) Q E) (I:Inv X μ hp s) (t:Nat):Q b { s with toks:=t }:=k b μ _ (.tok t) (I.tok t) rfl
theorem PG.ne {α β:Type} {rel:Mu→Heap→α→β→Prop} {o:Out α} {Q:β→Shared→Prop} (k:PG rel X l μ s o Q E):o≠.stuck:=fun h=>by rw [h] at k;exact k
end
section
variable {prog:Program} {X:Cx} {G:GTab} {n:Nat} {cf:CF} {sc:Sc} {env:Env}
theorem Yd {c:Nat} {pos:Pos}:zw prog X n cf sc env (eval (.Constant .none c pos) env) (z8 .none):=fun _ I _ k=>wpAny_pure (k.pe.here I .none)
theorem Ye {b:Bool} {c:Nat} {pos:Pos}:zw prog X n cf sc env (eval (.Constant (.bool b) c pos) env) (z8 (.bool b)):=fun _ I _ k=>wpAny_pure (k.pe.here I (.bool b))
theorem XK {i:Int} {c:Nat} {pos:Pos}:zw prog X n cf sc env (eval (.Constant (.int i) c pos) env) (z8 (.int i)):=fun _ I _ k=>wpAny_mkInt (k.pe.tok I (.int _ _))
theorem jj {x:Str} {c:Nat} {pos:Pos} (z:x.length≤small):zw prog X n cf sc env (eval (.Constant (.str x) c pos) env) (z8 (.str x)):=fun _ I _ k=>wpAny_mkText (k.pe.tok I (.str _ z))
theorem z1v {l r:Expr} {op:Operator} {pos:Pos} {x y:XE} (hl:zw prog X n cf sc env (eval l env) x) (hr:zw prog X n cf sc env (eval r env) y) :
  zw prog X n cf sc env (eval (.BinOp l op r pos) env) (zV op x y):=fun R I V k =>
 wpAny_BinOp (hl R I V (k.bind fun _ _ _ _ _ L1 I1 ra k=>hr R I1 (V.le I L1) (k.bind fun _ _ _ _ _ L2 I2 rb k=>Wx I2 (ra.le I1 L2) rb k)))
theorem z1o {x:Expr} {pos:Pos} {y:XE} (hx:zw prog X n cf sc env (eval x env) y):zw prog X n cf sc env (eval (.UnaryOp .Not x pos) env) (X6 y):=fun R I V k =>
 wpAny_UnaryOp (hx R I V (k.bind fun _ _ _ _ _ L1 I1 ra k=>by
  obtain ⟨v,e,k⟩:=k.of
  obtain ⟨b,e3,rfl⟩:=y9 e
  exact PyProof.Rows.not_of (qr e3 I1 ra fun t=>k.pe.tok I1 (.bool _))))
theorem z1p {x:Expr} {pos:Pos} {y:XE} (hx:zw prog X n cf sc env (eval x env) y):zw prog X n cf sc env (eval (.UnaryOp .USub x pos) env) (Q9 y):=fun R I V k =>
 wpAny_UnaryOp (hx R I V (k.bind fun _ _ _ _ _ L1 I1 ra k=>by
  obtain ⟨v,e,k⟩:=k.of
  obtain ⟨b,e3,rfl⟩:=y9 e
  rw [y4 e3] at ra
  obtain ⟨t,rfl⟩:=ra.int_
  exact P.neg_int (k.pe.tok I1 (.int _ _))))
theorem yx {ts:List (Sem Value)} {xs:List XE} (h:SndL prog X n cf sc env ts xs):∀ {fr:AFr} {hp:Hp} {A:Around} {l:List Env} {μ:Mu} {s:Shared} {Q:List Value→Shared→Prop} {E:Value→Shared→Prop},
  Room n A l→Inv X μ hp s→EnvR X l sc env fr μ s.heap→PEs X l μ s (evs xs cf fr hp) Q E→wpAny (model prog X.w) A (spliced (ts.map fun t=>(false,t))) Q E s:=by
 induction h with
 | nil=>exact fun _ I _ k=>spliced_nil (k [] _ _ .refl I .nil)
 | cons ht hr ih =>
  exact fun R I V k=>spliced_cons (ht R I V (k.bind fun _ _ _ _ _ L1 I1 ra k=>ih R I1 (V.le I L1) (k.bind fun _ _ _ _ _ L2 I2 rs k=>k _ _ _ .refl I2 (.cons (ra.le I1 L2) rs))))
theorem Q6 {γ δ:Type} {rel:Mu→Heap→γ→δ→Prop} {l:List Env} {μ:Mu} {s:Shared} {Q':List Value→Shared→Prop} {Q:δ→Shared→Prop} {E:Value→Shared→Prop} {xs:List XE}:∀ {fr:AFr} {hp:Hp} {f:List AV→Hp→Out γ},PG rel X l μ s ((evs xs cf fr hp).bind f) Q E →
  (∀ vs vs' hp' μ' s',vs.length=xs.length→Le noS μ s μ' s'→Inv X μ' hp' s'→VRs X μ' s'.heap vs vs'→PG rel X l μ' s' (f vs hp') Q E→Q' vs' s')→PEs X l μ s (evs xs cf fr hp) Q' E:=by
 intro fr hp f k h
 have len:∀ {vs:List AV} {hp':Hp},evs xs cf fr hp=.ok vs hp'→vs.length=xs.length:=by
  clear k h
  induction xs generalizing hp with
  | nil=>intro vs hp' e;cases e;rfl
  | cons x xs ih =>
   intro vs hp' e
   have e:(x cf fr hp).bind (fun v h₁=>(evs xs cf fr h₁).bind fun vs h₂=>.ok (v::vs) h₂)=.ok vs hp':=e
   cases q:x cf fr hp with
   | stuck=>rw [q] at e;cases e
   | ok v h₁ =>
    rw [q] at e
    have e:(evs xs cf fr h₁).bind (fun vs h₂=>.ok (v::vs) h₂)=.ok vs hp':=e
    cases q2:evs xs cf fr h₁ with
    | stuck=>rw [q2] at e;cases e
    | ok ws h₂=>rw [q2] at e;cases e;exact congrArg (·+1) (ih q2)
 cases q:evs xs cf fr hp with
 | stuck=>rw [q] at k;exact k
 | ok vs hp'=>rw [q] at k;exact fun b μ' s' L I r=>h vs b hp' μ' s' (len q) L I r (PG.le (o:=f vs hp') k L)
theorem xe (pos:Pos) (ts:List (Sem Value)):backTo pos (ts.map fun t=>(false,t))=ts.map fun t=>(false,t):=by
 unfold backTo
 rw [List.map_map]
 apply List.map_congr_left
 intro t _
 rfl
theorem yd (env:Env):∀ {es:List Expr},es.all qN=true→starEach es env=(evalEach es env).map fun t=>(false,t)
 | [],_=>rfl
 | e::es,h=>by
  rw [List.all_cons,Bool.and_eq_true] at h
  have ih:=yd env (es:=es) h.2
  cases e <;> first | (exact nob h.1) | (exact congrArg (List.cons _) ih)
theorem zB1 {k m:Nat} (h:k=m) (z:m≤1000):k≤small:=by rw [h];exact Nat.le_trans z (by decide)
theorem JC {es:List Expr} {xs:List XE} {pos:Pos} (hs:es.all qN=true) (hl:xs.length≤1000) (h:SndL prog X n cf sc env (evalEach es env) xs):zw prog X n cf sc env (eval (.List es pos) env) (zX xs):=by
 intro fr hp A l μ s Q E R I V k
 refine PyProof.Rows.List_ ?_
 rw [yd env hs,xe]
 refine yx h R I V (Q6 k fun vs vs' h1 μ1 s1 z L1 I1 r k=>?_)
 have z:=zB1 z hl
 refine wpAny_newObj_type (k.pe.list (t:=s1.toks) (j:=0) I1 z (by rw [List.toList_toArray];exact r)) ?_
 show vs'.toArray.size≤sizeLine
 rw [List.size_toArray,r.length];exact y8 z
theorem z1m {es:List Expr} {xs:List XE} {c:Nat} {pos:Pos} (hs:es.all qN=true) (hl:xs.length≤1000) (h:SndL prog X n cf sc env (evalEach es env) xs):zw prog X n cf sc env (eval (.Tuple es c pos) env) (xU xs):=by
 intro fr hp A l μ s Q E R I V k
 refine PyProof.Rows.Tuple_ ?_
 rw [yd env hs,xe]
 refine yx h R I V (Q6 k fun vs vs' h1 μ1 s1 z L1 I1 r k=>?_)
 have z:=zB1 z hl
 refine wpAny_newObj_type (k.pe _ μ1 _ (.grow (t:=s1.toks) fun b o e=>Heap.get?_push_of_some _ e) (I1.grow fun b o e=>Heap.get?_push_of_some _ e)
  (.tup ⟨_,Heap.get?_push_size _ rfl,rfl,_,rfl⟩ z (by rw [List.toList_toArray];exact r.mono (List.prefix_refl _) fun b o e _=>Heap.get?_push_of_some _ e))) ?_
 show vs'.toArray.size≤sizeLine
 rw [List.size_toArray,r.length];exact y8 z
theorem QM {op:BoolOp} {pos:Pos} {ts:List (Sem Value)} {xs:List XE} (h:SndL prog X n cf sc env ts xs):zw prog X n cf sc env (boolOp pos op ts) (wX op xs):=by
 induction h with
 | nil=>exact fun _ _ _ k=>k.elim
 | cons ht hr ih =>
  cases hr with
  | nil=>exact ht
  | cons ht2 hr2 =>
  intro fr hp A l μ s Q E R I V k
  rw [boolOp]
  ·refine wpAny_bind (ht R I V (k.bind fun v v' h1 μ1 s1 L1 I1 r k=>?_))
   cases q:xV h1 v with
   | none=>rw [q] at k;exact k.elim
   | some t =>
    rw [q] at k
    refine wpAny_bind (wpAny_standAt (wpAny_bind (wpAny_holding (qr q I1 r fun tk=>?_))))
    have Lt:Le noS μ1 s1 μ1 { s1 with toks:=tk }:=.tok tk
    cases op <;> cases t
    ·exact wpAny_pure (PE.tok k I1 r)
    ·exact ih R (I1.tok tk) ((V.le I L1).le I1 Lt) (PG.le k Lt)
    ·exact ih R (I1.tok tk) ((V.le I L1).le I1 Lt) (PG.le k Lt)
    ·exact wpAny_pure (PE.tok k I1 r)
  ·intro h;cases h
theorem wM {M:Model} {A:Around} {E:Value→Shared→Prop} {s:Shared} {vs keep:List Value} {Q:Unit→Shared→Prop} (h:Q () s):wpAny M A (release vs keep) Q E s:=fun Γ p hΓ=>by
 unfold release
 rw [Sem.wp_release_go];exact h
theorem Y2 {pos:Pos}:∀ {ops:List CmpOp} {ts:List (Sem Value)} {xs:List XE},SndL prog X n cf sc env ts xs→∀ {left:AV} {fr:AFr} {hp:Hp} {A:Around} {l:List Env} {μ:Mu} {s:Shared} {Q:Bool→Shared→Prop} {E:Value→Shared→Prop} {lv:Value},
  Room n A l→Inv X μ hp s→EnvR X l sc env fr μ s.heap→VR X μ s.heap left lv→PT X l μ s (wG left ops xs cf fr hp) Q E→wpAny (model prog X.w) A (testChain pos lv ops ts) Q E s:=by
 intro ops
 induction ops with
 | nil=>exact fun _ _ _ _ _ _ _ _ _ _ _ _ _ _ _ k=>k.elim
 | cons op ops ih =>
  intro ts xs h left fr hp A l μ s Q E lv R I V rl k
  cases h with
  | nil=>exact k.elim
  | cons ht hr =>
   rename_i t x ts xs
   cases ops with
   | nil =>
    cases hr with
    | cons _ _=>exact k.elim
    | nil =>
    show wpAny _ _ (do let rv ← holding [lv] t;standAt pos;let c ← operate [lv,rv] (compareOp op lv rv);holding [c] (truthy c)) _ _ _
    refine wpAny_bind (wpAny_holding (ht R I V (k.bind fun v v' h1 μ1 s1 L1 I1 r k=>?_)))
    obtain ⟨c,q,k⟩:=k.of
    exact wpAny_bind (wpAny_standAt (wpAny_bind (wpAny_operating (wk q R I1 (rl.le I L1) r fun tk=>wpAny_holding (wpAny_truthy_bool (PG.tk k I1 tk))))))
   | cons op2 ops =>
    show wpAny _ _ (do
       let rv ← holding [lv] t
       standAt pos
       let c ← holding [lv,rv] (compareOp op lv rv)
       release [lv,rv] [c]
       if ← holding [c,rv] (truthy c) then testChain pos rv (op2::ops) ts else pure false) _ _ _
    refine wpAny_bind (wpAny_holding (ht R I V (k.bind fun v v' h1 μ1 s1 L1 I1 r k=>?_)))
    cases q:yZ op left v h1 with
    | none=>rw [q] at k;exact k.elim
    | some c =>
    rw [q] at k
    refine wpAny_bind (wpAny_standAt (wpAny_bind (wpAny_holding (wk q R I1 (rl.le I L1) r fun tk=>?_))))
    refine wpAny_bind (wM (wpAny_bind (wpAny_holding (wpAny_truthy_bool ?_))))
    have Lt:Le noS μ1 s1 μ1 { s1 with toks:=tk }:=.tok tk
    cases c with
    | false=>exact wpAny_pure (PG.tk k I1 tk)
    | true=>exact ih hr R (I1.tok tk) ((V.le I L1).le I1 Lt) (r.le I1 Lt) (PG.le k Lt)
end
section
variable {prog:Program} {X:Cx} {G:GTab} {n:Nat} {cf:CF} {sc:Sc} {env:Env}
theorem jR {pos:Pos}:∀ {ops:List CmpOp} {ts:List (Sem Value)} {xs:List XE},SndL prog X n cf sc env ts xs→∀ {left:AV} {fr:AFr} {hp:Hp} {A:Around} {l:List Env} {μ:Mu} {s:Shared} {Q:Value→Shared→Prop} {E:Value→Shared→Prop} {lv:Value},
  Room n A l→Inv X μ hp s→EnvR X l sc env fr μ s.heap→VR X μ s.heap left lv→PT X l μ s (wG left ops xs cf fr hp) (fun b s'=>Q (.bool b) s') E→wpAny (model prog X.w) A (compareChain pos lv ops ts) Q E s:=by
 intro ops
 induction ops with
 | nil=>exact fun _ _ _ _ _ _ _ _ _ _ _ _ _ _ _ k=>k.elim
 | cons op ops ih =>
  intro ts xs h left fr hp A l μ s Q E lv R I V rl k
  cases h with
  | nil=>exact k.elim
  | cons ht hr =>
   rename_i t x ts xs
   cases ops with
   | nil =>
    cases hr with
    | cons _ _=>exact k.elim
    | nil =>
    show wpAny _ _ (do let rv ← holding [lv] t;standAt pos;operate [lv,rv] (compareOp op lv rv)) _ _ _
    refine wpAny_bind (wpAny_holding (ht R I V (k.bind fun v v' h1 μ1 s1 L1 I1 r k=>?_)))
    obtain ⟨c,q,k⟩:=k.of
    exact wpAny_bind (wpAny_standAt (wpAny_operating (wk q R I1 (rl.le I L1) r fun tk=>PG.tk k I1 tk)))
   | cons op2 ops =>
    show wpAny _ _ (do
       let rv ← holding [lv] t
       standAt pos
       let c ← holding [lv,rv] (compareOp op lv rv)
       release [lv,rv] [c]
       if ← holding [c,rv] (truthy c) then compareChain pos rv (op2::ops) ts else pure c) _ _ _
    refine wpAny_bind (wpAny_holding (ht R I V (k.bind fun v v' h1 μ1 s1 L1 I1 r k=>?_)))
    cases q:yZ op left v h1 with
    | none=>rw [q] at k;exact k.elim
    | some c =>
    rw [q] at k
    refine wpAny_bind (wpAny_standAt (wpAny_bind (wpAny_holding (wk q R I1 (rl.le I L1) r fun tk=>?_))))
    refine wpAny_bind (wM (wpAny_bind (wpAny_holding (wpAny_truthy_bool ?_))))
    have Lt:Le noS μ1 s1 μ1 { s1 with toks:=tk }:=.tok tk
    cases c with
    | false=>exact wpAny_pure (PG.tk k I1 tk)
    | true=>exact ih hr R (I1.tok tk) ((V.le I L1).le I1 Lt) (r.le I1 Lt) (PG.le k Lt)
theorem z1u {l:Expr} {ops:List CmpOp} {rs:List Expr} {pos:Pos} {x:XE} {ys:List XE} (hs:lastMarks ops rs=false) (hl:zw prog X n cf sc env (eval l env) x) (hr:SndL prog X n cf sc env (evalEach rs env) ys) :
  zw prog X n cf sc env (eval (.Compare l ops rs pos) env) (qq x ops ys):=by
 intro fr hp A fl μ s Q E R I V k
 have k:PT X fl μ s (zR x ops ys cf fr hp) (fun b s'=>Q (.bool b) s') E:=PG.bind k fun a b hp' μ' s' L I e k=>by
  cases e;exact PE.here k I (.bool a)
 show wpAny _ _ (do compareChain pos (← eval l env) ops (markedEach ops rs (evalEach rs env))) _ _ _
 rw [PyProof.Rows.markedEach_of_false _ _ _ hs]
 exact wpAny_bind (hl R I V (k.bind fun a a' h1 μ1 s1 L1 I1 r k=>jR hr R I1 (V.le I L1) r k))
theorem JN {l:Expr} {ops:List CmpOp} {rs:List Expr} {pos:Pos} {x:XE} {ys:List XE} {whole:Sem Value} (hs:lastMarks ops rs=false) (hl:zw prog X n cf sc env (eval l env) x) (hr:SndL prog X n cf sc env (evalEach rs env) ys) :
  wY prog X n cf sc env (isTrue (.Compare l ops rs pos) env whole) (zR x ops ys):=by
 intro fr hp A fl μ s Q E R I V k
 show wpAny _ _ (do testChain pos (← eval l env) ops (markedEach ops rs (evalEach rs env))) _ _ _
 rw [PyProof.Rows.markedEach_of_false _ _ _ hs]
 exact wpAny_bind (hl R I V (k.bind fun a a' h1 μ1 s1 L1 I1 r k=>Y2 hr R I1 (V.le I L1) r k))
theorem JL {x:Expr} {pos:Pos} {t:XT} {whole:Sem Value} (h:wY prog X n cf sc env (isTrue x env (eval x env)) t):wY prog X n cf sc env (isTrue (.UnaryOp .Not x pos) env whole) (ym t):=by
 intro fr hp A l μ s Q E R I V k
 show wpAny _ _ (do return !(← isTrue x env (eval x env))) _ _ _
 exact wpAny_bind (h R I V (k.bind fun a b h1 μ1 s1 L1 I1 e k=>wpAny_pure (by cases e;exact k _ μ1 s1 .refl I1 rfl)))
theorem JO {op:BoolOp} {es:List Expr}:∀ {xs:List XT},SndTs prog X n cf sc env (es.map fun e=>isTrue e env (eval e env)) xs→wY prog X n cf sc env (allTrue op es env) (zQ op xs):=by
 induction es with
 | nil =>
  intro xs h
  cases h
  exact fun _ I _ k=>wpAny_pure (k _ _ _ .refl I rfl)
 | cons x es ih =>
  intro xs h
  cases h with
  | cons hx hr =>
  intro fr hp A l μ s Q E R I V k
  show wpAny _ _ (do match op,← isTrue x env (eval x env) with | .And,false=>pure false | .Or,true=>pure true | _,_=>allTrue op es env) _ _ _
  refine wpAny_bind (hx R I V (k.bind fun c c' h1 μ1 s1 L1 I1 e k=>?_))
  cases e
  cases op <;> cases c
  ·exact wpAny_pure (k _ μ1 s1 .refl I1 rfl)
  ·exact ih hr R I1 (V.le I L1) k
  ·exact ih hr R I1 (V.le I L1) k
  ·exact wpAny_pure (k _ μ1 s1 .refl I1 rfl)
theorem JK {e₀:Expr} {x:XE} (he:∀ whole,isTrue e₀ env whole=(do let v ← whole;standAt e₀.pos;holding [v] (truthy v))) (h:zw prog X n cf sc env (eval e₀ env) x):wY prog X n cf sc env (isTrue e₀ env (eval e₀ env)) (y6 x):=by
 intro fr hp A l μ s Q E R I V k
 rw [he]
 refine wpAny_bind (h R I V (k.bind fun a a' h1 μ1 s1 L1 I1 r k=>?_))
 obtain ⟨b,e3,k⟩:=k.of
 exact wpAny_bind (wpAny_standAt (wpAny_holding (qr e3 I1 r fun t=>PG.tk k I1 t)))
theorem q8 {o:Expr} {attr:Str} {env:Env} {t:Sem Value} (h:qY o=false):attributeBase o attr env t=t:=by
 cases o with
 | Call f as ks p =>
  cases f with
  | Name x q =>
   cases as with
   | cons=>rfl
   | nil =>
    cases ks with
    | cons=>rfl
    | nil=>exact nob h.symm
  | _=>rfl
 | _=>rfl
theorem JJ {o:Expr} {name:Str} {pos:Pos} {x:XE} (g:Gd X G) (hs:qY o=false) (h:zw prog X n cf sc env (eval o env) x):zw prog X n cf sc env (eval (.Attribute o name pos) env) (zG x name):=by
 intro fr hp A l μ s Q E R I V k
 show wpAny _ _ (do let o' ← attributeBase o name env (eval o env);standAt pos.atName;let r ← holding [o'] (getAttr o' name true);letTemporaryGo o o' r;pure r) _ _ _
 rw [q8 hs]
 refine wpAny_bind (h R I V (k.bind fun a a' h2 μ1 s1 L1 I1 r k=>wpAny_bind (wpAny_standAt (wpAny_bind (wpAny_holding ?_)))))
 cases a with
 | ref a =>
  have k:PO X l μ1 s1 (match h2[a]? with | some (.inst _ fs)=>Out.of (fs.lookup name) h2 | _=>.stuck) Q E:=k
  cases ho:h2[a]? with
  | none=>rw [ho] at k;exact k.elim
  | some o' =>
   rw [ho] at k
   cases o' with
   | list _=>exact k.elim
   | dict _=>exact k.elim
   | dicS _=>exact k.elim
   | inst c fs =>
   obtain ⟨v,e3,k⟩:=PG.of k
   exact Qu g I1 r ho e3 fun v' μ2 s2 L2 I2 rv=>wpAny_bind (wpAny_letTemporaryGo (wpAny_pure (k v' μ2 s2 L2 I2 rv)))
 | _=>exact k.elim
noncomputable def WF (e:Expr):Bool:=!Nat.beq e.ctorIdx 26
theorem z1r {o i:Expr} {pos:Pos} {x y:XE} (hn:WF i=true) (ho:zw prog X n cf sc env (eval o env) x) (hi:zw prog X n cf sc env (eval i env) y):zw prog X n cf sc env (eval (.Subscript o i pos) env) (zF x y):=by
 intro fr hp A l μ s Q E R I V k
 refine PyProof.Rows.Subscript_ (ho R I V (k.bind fun a a' h1 μ1 s1 L1 I1 ra k=>hi R I1 (V.le I L1) (k.bind fun b b' h2 μ2 s2 L2 I2 rb k=>?_)))
 obtain ⟨v,e3,k⟩:=k.of
 obtain ⟨⟨T,id,hT,hl⟩,hw⟩:=Wo (prog:=prog) (A:=A) (E:=E) e3 I2 (ra.le I1 L2) rb k
 refine PyProof.Rows.tail_any (ops:=[a',b']) hT hl hw ?_
 cases i <;> first | rfl | exact nob hn
theorem W7 {e:Option Expr} {x:XE} (h:∀ e',e=some e'→zw prog X n cf sc env (eval e' env) x) (h0:e=none→x=z8 .none):zw prog X n cf sc env (valueOrNone (evalOpt e env)) x:=by
 cases e with
 | some e'=>exact h e' rfl
 | none =>
  rw [h0 rfl]
  exact fun _ I _ k=>wpAny_pure (k.pe.here I .none)
theorem z1t {o:Expr} {l u:Option Expr} {p pos:Pos} {x y z:XE} (ho:zw prog X n cf sc env (eval o env) x) (hl:zw prog X n cf sc env (valueOrNone (evalOpt l env)) y) (hu:zw prog X n cf sc env (valueOrNone (evalOpt u env)) z) :
  zw prog X n cf sc env (eval (.Subscript o (.Slice l u none p) pos) env) (wn x y z):=by
 intro fr hp A fl μ s Q E R I V k
 refine PyProof.Rows.Subscript_ (ho R I V (k.bind fun a a' h1 μ1 s1 L1 I1 ra k=>?_))
 show wpAny _ _ (do let l' ← valueOrNone (evalOpt l env);let u' ← holding [l'] (valueOrNone (evalOpt u env));let st ← holding [l',u'] (valueOrNone (evalOpt none env));newFields "slice" [l',u',st]) _ _ _
 refine wpAny_bind (hl R I1 (V.le I L1) (k.bind fun b b' h2 μ2 s2 L2 I2 rb k=>wpAny_bind (wpAny_holding (hu R I2 ((V.le I L1).le I1 L2) (k.bind fun c c' h3 μ3 s3 L3 I3 rc k=>wpAny_bind (wpAny_holding (wpAny_pure ?_)))))))
 refine wpAny_newObj_type ?_
 have hk:∀ b o,s3.heap.get? b=some o→(s3.heap.push { cls:=.type "slice",data:=.fields #[b',c',.none] }).get? b=some o:=fun b o e=>Heap.get?_push_of_some _ e
 have L4:Le noS μ3 s3 μ3 { s3 with heap:=s3.heap.push { cls:=.type "slice",data:=.fields #[b',c',.none] } }:=.ofKeep hk
 have I4:Inv X μ3 h3 { s3 with heap:=s3.heap.push { cls:=.type "slice",data:=.fields #[b',c',.none] } }:=I3.grow (t:=s3.toks) hk
 obtain ⟨⟨T,id,hT,hl'⟩,hw⟩:=Wu (prog:=prog) (A:=A) (E:=E) (s:={ s3 with heap:=s3.heap.push { cls:=.type "slice",data:=.fields #[b',c',.none] } }) I4 (((ra.le I1 L2).le I2 L3).le I3 L4) ((rb.le I2 L3).le I3 L4) (rc.le I3 L4)
  (Heap.IsSliceOf.new ..) (PG.le k L4)
 exact PyProof.Rows.tail_any (ops:=[.ref s3.heap.objs.size,a']) hT hl' hw rfl
theorem xd {M:Model} {A:Around} {E:Value→Shared→Prop} {s:Shared} {f:Value} {ts:List (Sem Value)} {Q:Args→Shared→Prop}
  (h:wpAny M A (spliced (ts.map fun t=>(false,t))) (fun vs s'=>Q ⟨vs,[]⟩ s') E s):wpAny M A (evalArgs f true (ts.map fun t=>(false,t)) []) Q E s:=by
 cases ts with
 | cons t ts=>exact evalArgs_plain h
 | nil =>
  unfold evalArgs
  show wpAny M A (spliced [] >>= _) Q E s
  refine wpAny_bind (wpAny_mono h (fun vs s' h'=>?_) fun _ _ x=>x)
  refine wpAny_holding ?_
  exact wpAny_bind (wpAny_pure (wpAny_bind (wpAny_pure (wpAny_pure h'))))
theorem Q8 {K:Frag} {A:Around} {E:Value→Shared→Prop} {s:Shared} {f:Addr} {pos:Pos} {first:List Value} {ts:List (Sem Value)} {Q:Value→Shared→Prop} (hk:keepIn K (.ref f)=true)
  (h:wpAny (model prog X.w) A (spliced (ts.map fun t=>(false,t))) (fun vs s'=>K.In s'.heap∧wpAny (model prog X.w) A (call (.ref f) (first++vs)) Q E s') E s) :
  wpAny (model prog X.w) A (callWith pos (.ref f) first (ts.map fun t=>(false,t)) []) Q E s:=by
 refine callWith_of (P:=K.In) (by simp) (fun h x=>?_) (xd h)
 obtain ⟨k,hk',L⟩:=looks_keep hk x
 exact ⟨k,hk'.elim .inl fun q=>.inr (.inl q),L⟩
theorem jv {A:Around} {E:Value→Shared→Prop} {s:Shared} {b:Bi} {pos:Pos} {ts:List (Sem Value)} {Q:Value→Shared→Prop}
  (h:wpAny (model prog X.w) A (spliced (ts.map fun t=>(false,t))) (fun vs s'=>wpAny (model prog X.w) A (call (wu b) vs) Q E s') E s) :
  wpAny (model prog X.w) A (callWith pos (wu b) [] (ts.map fun t=>(false,t)) []) Q E s:=by
 refine callWith_of (P:=fun _=>True) (by simp) (fun h x=>⟨.machine,.inr (.inl rfl),?_⟩) (xd (wpAny_mono h (fun vs s' z=>⟨trivial,z⟩) fun _ _ z=>z))
 cases b <;> exact Looks.of_pure rfl
theorem WR {f:Expr} {args:List Expr} {pos:Pos} (hf:∀ o name p,f≠.Attribute o name p):eval (.Call f args [] pos) env=(do callWith pos (← eval f env) [] (backTo pos (starEach args env)) (backToKw pos (keywordEach [] env))):=by
 cases f <;> first | rfl | (exact absurd rfl (hf _ _ _))
theorem w8 {f:Addr} {args:List Expr} {pos:Pos} {ys:List XE} {A:Around} {l:List Env} {μ:Mu} {s:Shared} {Q:Value→Shared→Prop} {E:Value→Shared→Prop} {fr:AFr} {hp:Hp} {c:Callee} {first:List Value} {fa:List AV} (g:Gd X G) (hcf:SndCF prog X n cf)
  (hy:SndL prog X n cf sc env (evalEach args env) ys) (R:Room n A l) (I:Inv X μ hp s) (V:EnvR X l sc env fr μ s.heap) (hc:z1b X c f) (rf:VRs X μ s.heap fa first)
  (k:PO X l μ s ((evs ys cf fr hp).bind0 fun vs h₂=>cf c (fa++vs) h₂) Q E):wpAny (model prog X.w) A (callWith pos (.ref f) first ((evalEach args env).map fun t=>(false,t)) []) Q E s:=by
 cases q:evs ys cf fr hp with
 | stuck=>rw [q] at k;exact k.elim
 | ok vs h2 =>
  rw [q] at k
  have k:PO X l μ s (cf c (fa++vs) h2) Q E:=k
  refine Q8 (hcf.keep k.ne hc) (yx hy R I V ?_)
  rw [q]
  exact fun vs' μ2 s2 L2 I2 rs=>⟨I2.kin g.K,hcf.run R (V.frs.le L2) I2 hc ((rf.le I L2).app rs) (PG.le k L2)⟩
theorem JI {f:Expr} {args:List Expr} {pos:Pos} {x:XE} {ys:List XE} (g:Gd X G) (hcf:SndCF prog X n cf) (hf:∀ o name p,f≠.Attribute o name p) (hs:args.all qN=true)
  (hx:zw prog X n cf sc env (eval f env) x) (hy:SndL prog X n cf sc env (evalEach args env) ys):zw prog X n cf sc env (eval (.Call f args [] pos) env) (zC x ys):=by
 intro fr hp A l μ s Q E R I V k
 rw [WR hf,yd env hs,xe]
 refine wpAny_bind (hx R I V (k.bind fun a a' h1 μ1 s1 L1 I1 ra k=>?_))
 show wpAny _ _ (callWith pos a' [] _ []) _ _ _
 cases a with
 | fn x =>
  obtain ⟨f,rfl,q⟩:=ra.fn_
  exact w8 (fa:=[]) g hcf hy R I1 (V.le I L1) (c:=.fn x) q .nil k
 | cls x =>
  obtain ⟨f,rfl,q⟩:=ra.cls_
  exact w8 (fa:=[]) g hcf hy R I1 (V.le I L1) (c:=.cls x) q .nil k
 | bi b =>
  rw [ra.bi_]
  exact jv (yx hy R I1 (V.le I L1) (k.bind0 fun vs vs' h2 μ2 s2 L2 I2 rs k=>z14 R I2 rs k))
 | _=>cases q:evs ys cf fr h1 <;> rw [q] at k <;> exact k.elim
noncomputable def lMe:Me→Bool
 | .append | .insert | .index | .count | .remove | .extend=>true
 | _=>false
noncomputable def dMe:Me→Bool
 | .update=>true
 | _=>false
set_option maxRecDepth 100000 in
theorem z25 {name:Str} {A:Around} {E:Value→Shared→Prop} {s:Shared} {pl:Sem Bool} {Q:Value×List Value→Shared→Prop} (hm:Z1 name=some .join) {x:Str} {t:Tok}
  (h:Q (.builtin (Js .join),[.str x t]) s):wpAny (model prog X.w) A (getMethod (.str x t) name pl) Q E s:=by
 rw [jS hm]
 exact getMethod_builtin (typeIs_str _ _ _) F.plainAttrs_str F.slot_str_join F.type_str_join (fun _ e=>nomatch e) h
set_option maxRecDepth 100000 in
theorem zBs {m:Me} {name:Str} {A:Around} {E:Value→Shared→Prop} {s:Shared} {pl:Sem Bool} {Q:Value×List Value→Shared→Prop} (hm:Z1 name=some m) (hj:lMe m=true) {a:Addr} {items:Array Value} {k:Nat} (hl:IsL s.heap a items k)
  (h:Q (.builtin (Js m),[.ref a]) s):wpAny (model prog X.w) A (getMethod (.ref a) name pl) Q E s:=by
 have hd:∀ b,Value.ref a=.ref b→∃ o,s.heap.get? b=some o∧o.dict=none:=fun b e=>by cases e;exact ⟨_,hl,rfl⟩
 have hT:s.TypeIs (.ref a) "list" := ⟨_,hl,rfl⟩
 rw [jS hm]
 cases m with
 | append=>exact getMethod_builtin hT F.plainAttrs_list F.slot_list_append F.type_list_append hd h
 | insert=>exact getMethod_builtin hT F.plainAttrs_list F.slot_list_insert F.type_list_insert hd h
 | index=>exact getMethod_builtin hT F.plainAttrs_list F.slot_list_index F.type_list_index hd h
 | count=>exact getMethod_builtin hT F.plainAttrs_list F.slot_list_count F.type_list_count hd h
 | remove=>exact getMethod_builtin hT F.plainAttrs_list F.slot_list_remove F.type_list_remove hd h
 | extend=>exact getMethod_builtin hT F.plainAttrs_list F.slot_list_extend F.type_list_extend hd h
 | _=>exact nob hj
set_option maxRecDepth 100000 in
theorem z2r {m:Me} {name:Str} {A:Around} {E:Value→Shared→Prop} {s:Shared} {pl:Sem Bool} {Q:Value×List Value→Shared→Prop} (hm:Z1 name=some m) (hj:dMe m=true) {a:Addr} (hT:s.TypeIs (.ref a) "dict") (hd:∀ b,Value.ref a=.ref b→∃ o,s.heap.get? b=some o∧o.dict=none)
  (h:Q (.builtin (Js m),[.ref a]) s):wpAny (model prog X.w) A (getMethod (.ref a) name pl) Q E s:=by
 rw [jS hm]
 cases m with
 | update=>exact getMethod_builtin hT F.plainAttrs_dict F.slot_dict_update F.type_dict_update hd h
 | _=>exact nob hj
set_option maxRecDepth 100000 in
theorem JB {o:Expr} {name:Str} {apos pos:Pos} {args:List Expr} {x:XE} {ys:List XE} (g:Gd X G) (hcf:SndCF prog X n cf) (hs:qY o=false) (hp0:(apos.endLine == pos.line)=true) (ha:args.all qN=true)
  (hl:args.length<30) (hx:zw prog X n cf sc env (eval o env) x) (hy:SndL prog X n cf sc env (evalEach args env) ys) :
  zw prog X n cf sc env (eval (.Call (.Attribute o name apos) args [] pos) env) (zB x name (Z1 name) ys):=by
 intro fr hp A l μ s Q E R I V k
 show wpAny _ _ (do
  let ov ← attributeBase o name env (eval o env)
  standAt apos.atName
  methodCall o name apos pos env ov (args.length+([]:List Keyword).length) (backTo pos (starEach args env)) (backToKw pos (keywordEach [] env))) _ _ _
 rw [q8 hs,yd env ha,xe]
 have form:methodCallForm (args.length+([]:List Keyword).length) ((evalEach args env).map fun t=>(false,t)) (backToKw pos (keywordEach [] env))=true:=by
  unfold methodCallForm
  have:((evalEach args env).map fun t=>(false,t)).all (fun x=>!x.1)=true:=by simp
  simp only [this,Bool.true_and]
  show (true && decide (args.length+0+0<30))=true
  simp;exact hl
 have start:∀ {ov:Value} {s1:Shared},wpAny (model prog X.w) A (getMethod ov name (do return (← importBound o env).getD true)) (fun p s2=>wpAny (model prog X.w) A (callWith pos p.1 p.2 ((evalEach args env).map fun t=>(false,t)) []) Q E s2) E s1 →
   wpAny (model prog X.w) A (methodCall o name apos pos env ov (args.length+([]:List Keyword).length) ((evalEach args env).map fun t=>(false,t)) (backToKw pos (keywordEach [] env))) Q E s1:=by
  intro ov s1 h
  unfold methodCall
  rw [form]
  refine wpAny_bind (wpAny_holding (wpAny_mono (show wpAny (model prog X.w) A (calleeOf true o env ov name) _ E s1 from h) (fun p s2 h2=>?_) fun _ _ z=>z))
  refine wpAny_bind ?_
  unfold methodCallPos
  rw [if_pos (by simp [hp0])]
  exact wpAny_pure h2
 refine wpAny_bind (hx R I V (k.bind fun a a' h1 μ1 s1 L1 I1 ra k=>wpAny_bind (wpAny_standAt (start ?_))))
 cases a with
 | ref b =>
  have k:PO X l μ1 s1 (match h1[b]? with
   | some (.inst c fs)=>(match fs.lookup name with
    | some _=>Out.stuck
    | none=>(evs ys cf fr h1).bind0 fun vs h₂=>cf (.meth c name) (.ref b::vs) h₂)
   | some (.list _)=>(match Z1 name with
    | some m=>(evs ys cf fr h1).bind0 fun vs h₂=>yP m (.ref b) vs h₂
    | none=>.stuck)
   | some (.dicS _)=>(match Z1 name with
    | some m=>(evs ys cf fr h1).bind0 fun vs h₂=>Mine.ofP (meD m b vs h₂)
    | none=>.stuck)
   | _=>.stuck) Q E:=k
  cases ho:h1[b]? with
  | none=>rw [ho] at k;exact k.elim
  | some o' =>
   rw [ho] at k
   cases o' with
   | inst c fs =>
    dsimp only at k
    cases hno:fs.lookup name with
    | some _=>rw [hno] at k;exact k.elim
    | none =>
    rw [hno] at k
    have k:PO X l μ1 s1 ((evs ys cf fr h1).bind0 fun vs h₂=>cf (.meth c name) (.ref b::vs) h₂) Q E:=k
    cases q:evs ys cf fr h1 with
    | stuck=>rw [q] at k;exact k.elim
    | ok vs h2 =>
     rw [q] at k
     have k:PO X l μ1 s1 (cf (.meth c name) ([.ref b]++vs) h2) Q E:=k
     obtain ⟨f,C,c1,c2,c3⟩:=hcf.meth k.ne
     exact QY g I1 ra ho hno c1 c2 c3 (w8 g hcf hy R I1 (V.le I L1) (c:=.meth c name) ⟨C,c1,c2,c3⟩ (.cons ra .nil) (by rw [q];exact k))
   | dict kvs=>exact k.elim
   | dicS kvs =>
    dsimp only at k
    cases hm:Z1 name with
    | none=>rw [hm] at k;exact k.elim
    | some m =>
    rw [hm] at k
    have hj:dMe m=true:=by
     have k:PO X l μ1 s1 ((evs ys cf fr h1).bind0 fun vs h₂=>Mine.ofP (meD m b vs h₂)) Q E:=k
     cases q:evs ys cf fr h1 with
     | stuck=>rw [q] at k;exact k.elim
     | ok vs h2 =>
      rw [q] at k
      obtain ⟨v',hp',e,_⟩:=PG.ofP (o:=meD m b vs h2) k
      cases m <;> first | rfl | cases e
    obtain ⟨d,es,rfl,g1,md,_,_,_⟩:=I1.dicS_at ra ho prog
    exact z2r hm hj md.typeIs (fun b' e=>by injection e with e;subst e;exact let ⟨o,_,_,ho,hc,_⟩:=md;⟨o,ho,hc.2.1⟩) (callWith_builtin (by simp) (xd (yx hy R I1 (V.le I L1) (PG.bind0 k fun vs vs' h2 μ2 s2 L2 I2 rs k=>Wt I2 (ra.le I1 L2) rs k))))
   | list xs =>
    dsimp only at k
    cases hm:Z1 name with
    | none=>rw [hm] at k;exact k.elim
    | some m =>
    rw [hm] at k
    obtain ⟨d,items,mm,rfl,g1,hl',_,_⟩:=I1.list_at ra ho
    have hj:lMe m=true:=by
     have k:PO X l μ1 s1 ((evs ys cf fr h1).bind0 fun vs h₂=>yP m (.ref b) vs h₂) Q E:=k
     cases q:evs ys cf fr h1 with
     | stuck=>rw [q] at k;exact k.elim
     | ok vs h2 =>
      rw [q] at k
      obtain ⟨v',hp',e,_⟩:=PG.ofP (o:=(yN (.ref b)).bind fun a=>(ze h2 a).bind fun xs=>meO m a xs vs h2) k
      obtain ⟨b',h1',e⟩:=zY e
      obtain ⟨xs',hx',e⟩:=zY e
      cases m <;> first | rfl | cases e
    exact zBs hm hj hl' (callWith_builtin (by simp) (xd (yx hy R I1 (V.le I L1) (PG.bind0 k fun vs vs' h2 μ2 s2 L2 I2 rs k=>Xc R I2 (ra.le I1 L2) rs k))))
 | str x₀ =>
  have k:PO X l μ1 s1 (match Z1 name with
   | some m=>(evs ys cf fr h1).bind0 fun vs h₂=>yP m (.str x₀) vs h₂
   | none=>.stuck) Q E:=k
  cases hm:Z1 name with
  | none=>rw [hm] at k;exact k.elim
  | some m =>
   rw [hm] at k
   have k:PO X l μ1 s1 ((evs ys cf fr h1).bind0 fun vs h₂=>yP m (.str x₀) vs h₂) Q E:=k
   have hj:m=.join:=by
    cases q:evs ys cf fr h1 with
    | stuck=>rw [q] at k;exact k.elim
    | ok vs h2 =>
     rw [q] at k
     cases m with
     | join=>rfl
     | _=>exact k.elim
   subst hj
   obtain ⟨t,rfl,z⟩:=ra.str_
   exact z25 hm (callWith_builtin (by simp) (xd (yx hy R I1 (V.le I L1) (k.bind0 fun vs vs' h2 μ2 s2 L2 I2 rs k=>Xc R I2 (.str t z) rs k))))
 | _=>exact k.elim
end
noncomputable def ZT:List String:=["enumerate", "zip", "dict_itemiterator", "dict_reverseitemiterator", "odict_iterator", "itertools.zip_longest", "itertools.pairwise"]
noncomputable def qD (h:Heap) (b:Addr):Prop:=∃ o T vs,h.get? b=some o∧o.cls=.type T∧o.data=.fields vs∧T ≠ "range"
theorem qD.notFixed {h:Heap} {b:Addr} {o:Obj} (x:qD h b) (e:h.get? b=some o):¬ yS o:=by
 obtain ⟨o',T,vs,ho,hc,hd,hn⟩:=x
 rw [e] at ho;cases ho
 rintro (⟨q,xs,n,q'⟩ | ⟨q,_⟩)
 ·rw [hd] at q';cases q'
 ·rw [hc] at q;cases q;exact hn rfl
structure Its (X:Cx) (h0:Heap) (μ:Mu) (h:Heap) (its:List Addr):Prop where
 new:∀ b∈its,h0.get? b=none
 out:∀ b∈its,b∉zo μ
 base:∀ b∈its,X.base.get? b=none
 obj:∀ b∈its,qD h b
noncomputable def But (its:List Addr) (s s':Shared):Prop:=(∀ b o,b∉its→s.heap.get? b=some o→s'.heap.get? b=some o)∧s'.gens=s.gens∧s'.os=s.os
section
variable {prog:Program} {X:Cx} {G:GTab} {sc:Sc} {env:Env} {fr:AFr} {μ μ' μ₀:Mu} {hp hp':Hp} {s s' s₀:Shared} {its:List Addr} {h0:Heap} {l:List Env}
theorem But.refl:But its s s:=⟨fun _ _ _ e=>e,rfl,rfl⟩
theorem But.trans {s1 s2:Shared} (a:But its s s1) (b:But its s1 s2):But its s s2:=⟨fun x o n e=>b.1 x o n (a.1 x o n e),b.2.1.trans a.2.1,b.2.2.trans a.2.2⟩
theorem Its.fix (T:Its X h0 μ s.heap its) (a:But its s s'):∀ b o,s.heap.get? b=some o→yS o→s'.heap.get? b=some o:=fun b o e f=>a.1 b o (fun h=>(T.obj b h).notFixed e f) e
theorem Its.vrs (T:Its X h0 μ s.heap its) (a:But its s s') {x:List AV} {v:List Value} (r:VRs X μ s.heap x v):VRs X μ s'.heap x v:=r.mono (List.prefix_refl _) (T.fix a)
theorem Its.invR (T:Its X h0 μ s.heap its) (a:But its s s') (I:Inv X μ hp s):Inv X μ hp s' :=
 ⟨I.len,I.nodup,I.above,fun i q x hi hx=>(I.rep i q x hi hx).mono (List.prefix_refl _) (T.fix a) fun b hb o e=>a.1 b o (fun h=>T.out b h (yh.mpr ⟨i,q,hi,hb⟩)) e,
  fun b o e=>a.1 b o (fun h=>by have:=T.base b h;rw [e] at this;cases this) (I.keep b o e),a.2.1.trans I.gens,a.2.2.trans I.os⟩
noncomputable def WS (o:Obj):Prop:=(∃ es n,o.data=.dict es n)∨(∃ v,o.data=.cell v)
theorem wP (V:EnvR X l sc env fr μ s.heap) {b:Addr} {o:Obj} (h:own env b) (e:s.heap.get? b=some o):WS o:=by
 rcases h with rfl | ⟨x,hx⟩
 ·obtain ⟨m,⟨o',es,ep,ho,hd,_⟩,_⟩:=V.loc
  rw [e] at ho;cases ho;exact .inl ⟨_,_,hd⟩
 ·obtain ⟨_,cv,o',ho,hd⟩:=V.ncel x b hx
  rw [e] at ho;cases ho;exact .inr ⟨_,hd⟩
theorem EnvR.but (V:EnvR X l sc env fr μ s.heap) (kp:∀ b o,own env b→s.heap.get? b=some o→s'.heap.get? b=some o) (fx:∀ b o,s.heap.get? b=some o→yS o→s'.heap.get? b=some o) (ff:Frs X l μ s'.heap):EnvR X l sc env fr μ s'.heap:=by
 obtain ⟨m,ns,hm⟩:=V.loc
 have cellK:∀ {x:Str} {c:Addr} {cv:Option Value},env.cells.lookup x=some c→s.heap.IsCell c cv→s'.heap.IsCell c cv:=fun hx h=>by
  obtain ⟨o,ho,r⟩:=h;exact ⟨o,kp _ o (.inr ⟨_,hx⟩) ho,r⟩
 refine ⟨V.fn,V.glob,V.bltn,V.kind,⟨m,?_,fun x i v e1 e2 e3=>?_⟩,fun x i e1 e2=>?_,V.nloc,V.bloc,fun x c hc=>?_,V.bcel,V.apart,V.inj,V.wid,V.slt,ff⟩
 ·obtain ⟨o,es,ep,ho,r⟩:=ns
  exact ⟨o,es,ep,kp _ o (.inl rfl) ho,r⟩
 ·obtain ⟨v',e,r⟩:=hm x i v e1 e2 e3
  exact ⟨v',e,r.mono (List.prefix_refl _) fx⟩
 ·obtain ⟨c,cv,q1,q2,q3⟩:=V.cel x i e1 e2
  refine ⟨c,cv,q1,cellK q1 q2,fun v hv=>?_⟩
  obtain ⟨v',q,r⟩:=q3 v hv
  exact ⟨v',q,r.mono (List.prefix_refl _) fx⟩
 ·obtain ⟨n,cv,h⟩:=V.ncel x c hc
  exact ⟨n,cv,cellK hc h⟩
theorem Its.envR (T:Its X h0 μ s.heap its) (a:But its s s') (V:EnvR X l sc env fr μ s.heap):EnvR X l sc env fr μ s'.heap :=
 V.but (fun b o h e=>a.1 b o (fun q=>by
  obtain ⟨o',Tn,vs,ho,hc,hd,_⟩:=T.obj b q
  rw [e] at ho;cases ho
  rcases wP V h e with ⟨es,n,q⟩ | ⟨v,q⟩ <;> rw [hd] at q <;> cases q) e) (T.fix a) (V.frs.mono fun b o n e d=>⟨n,o,a.1 b o (fun q=>by
  obtain ⟨o',Tn,vs,ho,hc,hd,_⟩:=T.obj b q
  rw [e] at ho;cases ho
  unfold isD at d;rw [hd] at d;cases d) e,d⟩)
theorem Its.leR {S:Addr→Prop} (T:Its X s₀.heap μ s.heap its) (a:But its s s') (L:Le S μ₀ s₀ μ s):Le S μ₀ s₀ μ s':=by
 have nw:∀ b o,s₀.heap.get? b=some o→b∉its:=fun b o e h=>by have:=T.new b h;rw [e] at this;cases this
 refine ⟨L.pre,L.fresh,fun b o e=>?_,fun b o n ns e=>(L.keep b o n ns e).trans fun o' e'=>.inl (a.1 b o' (nw b o e) e')⟩
 obtain ⟨o',e'⟩:=L.exist b o e
 exact ⟨o',a.1 b o' (nw b o e) e'⟩
theorem Its.later {S:Addr→Prop} (T:Its X h0 μ s.heap its) (hS:∀ b o,S b→s.heap.get? b=some o→WS o) (L:Le S μ s μ' s'):Its X h0 μ' s'.heap its∧∀ b∈its,s'.heap.get? b=s.heap.get? b:=by
 have kp:∀ b∈its,∀ o,s.heap.get? b=some o→s'.heap.get? b=some o:=fun b hb o e=>by
  obtain ⟨o',Tn,vs,ho,hc,hd,_⟩:=T.obj b hb
  rw [e] at ho;cases ho
  exact (L.keep b o (T.out b hb) (fun h=>by rcases hS b o h e with ⟨es,n,q⟩ | ⟨v,q⟩ <;> rw [hd] at q <;> cases q) e).exact (by unfold isD;rw [hd])
 refine ⟨⟨T.new,fun b hb h=>?_,T.base,fun b hb=>?_⟩,fun b hb=>?_⟩
 ·rcases L.fresh b h with q | q
  ·exact T.out b hb q
  ·obtain ⟨o,Tn,vs,ho,_⟩:=T.obj b hb;rw [q] at ho;exact nos ho
 ·obtain ⟨o,Tn,vs,ho,r⟩:=T.obj b hb
  exact ⟨o,Tn,vs,kp b hb o ho,r⟩
 ·obtain ⟨o,Tn,vs,ho,r⟩:=T.obj b hb
  rw [ho];exact kp b hb o ho
end
structure Drives (prog:Program) (X:Cx) (target:Expr) (src:Src) (it:Value) (its:List Addr) (St:Nat→Mu→Heap→Prop):Prop where
 frame:∀ k μ μ' h h',St k μ h→μ <+: μ'→(∀ b∈its,∀ o,h.get? b=some o→h'.get? b=some o)→(∀ b o,h.get? b=some o→yS o→h'.get? b=some o) →
  (∀ b o,X.base.get? b=some o→h.get? b=some o∧h'.get? b=some o)→St k μ' h'
 obj:∀ k μ h,St k μ h→∀ b∈its,qD h b
 item:∀ {A:Around} {μ:Mu} {hp:Hp} {s:Shared} {k:Nat} {x:AV} {Q:Option Value→Shared→Prop} {E E':Value→Shared→Prop} {Q':Value→Unit→Shared→Prop},A.handled=none→Inv X μ hp s→(∀ b∈its,b∉zo μ)→St k μ s.heap→src.next? hp k=some (some x) →
  (∀ v s₁,wpAny (model prog X.w) A (letOwnedTupleGo target it v) (Q' v) E' s₁→Q (some v) s₁) →
  (∀ v s',VR X μ s'.heap x v→But its s s'→St (k+1) μ s'.heap→Q' v () s')→wpAny (model prog X.w) A (pyNext it) Q E s
 done:∀ {A:Around} {μ:Mu} {hp:Hp} {s:Shared} {k:Nat} {Q:Option Value→Shared→Prop} {E:Value→Shared→Prop},A.handled=none→Inv X μ hp s→St k μ s.heap→src.next? hp k=some none →
  (∀ s',But its s s'→Q none s')→wpAny (model prog X.w) A (pyNext it) Q E s
 self:∀ {A:Around} {μ:Mu} {s:Shared} {k:Nat} {Q:Value→Shared→Prop} {E:Value→Shared→Prop},A.handled=none→St k μ s.heap→Q it s→wpAny (model prog X.w) A (pyIter it) Q E s
section
variable {prog:Program} {X:Cx} {A:Around} {E:Value→Shared→Prop} {s:Shared}
theorem jm {target:Expr} {r:Addr} {v:Value} {o:Obj} {T:String} {vs:Array Value} {Q:Unit→Shared→Prop} (ho:s.heap.get? r=some o) (hc:o.cls=.type T) (hd:o.data=.fields vs) (hn:ZT.contains T=false)
  (hQ:Q () s):wpAny (model prog X.w) A (letOwnedTupleGo target (.ref r) v) Q E s:=by
 have go:∀ a,wpAny (model prog X.w) A (load r >>= fun o=>match o.cls,o.data with
  | .type n,.fields vs=>if (["enumerate", "zip", "dict_itemiterator", "dict_reverseitemiterator", "odict_iterator", "itertools.zip_longest", "itertools.pairwise"].contains n && vs[0]? == some (rawInt a))=true then do
    rule "for.unpacks-the-owned-tuple"
    updateField r 0 .none
   else pure ()
  | _,_=>pure ()) Q E s:=by
  intro a
  refine wpAny_bind (wpAny_load ho ?_)
  rw [hc,hd]
  show wpAny _ A (if _ then _ else _) Q E s
  rw [if_neg (by
   intro h
   rw [show (["enumerate", "zip", "dict_itemiterator", "dict_reverseitemiterator", "odict_iterator", "itertools.zip_longest", "itertools.pairwise"].contains T)=false from hn,Bool.false_and] at h
   cases h)]
  exact wpAny_pure hQ
 cases target with
 | Tuple=>cases v <;> first | exact go _ | exact wpAny_pure hQ
 | List=>cases v <;> first | exact go _ | exact wpAny_pure hQ
 | _=>exact wpAny_pure hQ
theorem Drives.walks {target:Expr} {it:Addr} {fp:List Addr} {P:Nat→Value→Prop} {St:Nat→Heap→Prop} {xs:List AV} (W:∀ A:Around,A.handled=none→Walks prog X.w A it fp [it] xs.length P St)
  (hobj:∀ k h,St k h→∃ o T vs,h.get? it=some o∧o.cls=.type T∧o.data=.fields vs∧T ≠ "range" ∧ ZT.contains T=false) :
  Drives prog X target (.imm xs) (.ref it) [it] (fun k μ h=>k≤xs.length∧St k h∧(∀ i v,i<xs.length→P i v→∃ x,xs[i]? = some x∧VR X μ h x v)∧(∀ b∈fp,b≠it→(∃ o,X.base.get? b=some o)∨(∃ o,h.get? b=some o∧yS o))) where
 frame:=by
  rintro k μ μ' h h' ⟨hle,a,b,c⟩ hp hk hf hb
  have W0:=W {} rfl
  refine ⟨hle,W0.frame k h h' a fun x hx o e=>?_,fun i v hi hv=>?_,fun x hx hn=>?_⟩
  ·by_cases hn:x=it
   ·exact hk x (hn▸.head _) o e
   ·rcases c x hx hn with ⟨o',h1⟩ | ⟨o',h1,h2⟩
    ·obtain ⟨q1,q2⟩:=hb x o' h1
     rw [e] at q1;cases q1;exact q2
    ·rw [e] at h1;cases h1;exact hf x o e h2
  ·obtain ⟨x,e,r⟩:=b i v hi hv
   exact ⟨x,e,r.mono hp hf⟩
  ·rcases c x hx hn with h1 | ⟨o',h1,h2⟩
   ·exact .inl h1
   ·exact .inr ⟨o',hf x o' h1 h2,h2⟩
 obj:=by
  rintro k μ h ⟨_,a,_,_⟩ b hb
  simp at hb;subst hb
  obtain ⟨o,T,vs,h1,h2,h3,h4,_⟩:=hobj k h a
  exact ⟨o,T,vs,h1,h2,h3,h4⟩
 item:=by
  rintro A μ hp s k x Q E E' Q' hh I hout ⟨hle,a,b,c⟩ hx hQ hQ'
  have hx':xs[k]? = some x:=by injection hx
  refine (W A hh).item k s Q E (y7 hx').1 a fun v h' tk hv st hk=>hQ v _ ?_
  obtain ⟨o,T,vs,h1,h2,h3,h4,h5⟩:=hobj _ _ st
  obtain ⟨o0,T0,vs0,g1,g2,g3,g4,g5⟩:=hobj _ _ a
  have hf:∀ b o,s.heap.get? b=some o→yS o→h'.get? b=some o:=fun b o e f=>hk b o (fun hb=>by
   simp at hb;subst hb
   exact qD.notFixed ⟨o0,T0,vs0,g1,g2,g3,g4⟩ e f) e
  refine jm (s:={ s with heap:=h',toks:=tk }) h1 h2 h3 h5 (hQ' v _ ?_ ⟨fun b o hb e=>hk b o hb e,rfl,rfl⟩ ⟨(y7 hx').1,st,fun i u hi hu=>?_,fun y hy hn=>?_⟩)
  ·obtain ⟨x',e,r⟩:=b k v (y7 hx').1 hv
   rw [hx'] at e;cases e
   exact r.mono (List.prefix_refl _) hf
  ·obtain ⟨x',e,r⟩:=b i u hi hu
   exact ⟨x',e,r.mono (List.prefix_refl _) hf⟩
  ·rcases c y hy hn with q | ⟨o',q1,q2⟩
   ·exact .inl q
   ·exact .inr ⟨o',hf y o' q1 q2,q2⟩
 done:=by
  rintro A μ hp s k Q E hh I ⟨hle,a,b,c⟩ hx hQ
  have hx':xs[k]? = none:=by injection hx
  have:k=xs.length:=Nat.le_antisymm hle (by simpa using hx')
  subst this
  exact (W A hh).done s Q E a fun h' tk hk=>hQ _ ⟨fun b o hb e=>hk b o hb e,rfl,rfl⟩
 self:=by
  rintro A μ s k Q E hh ⟨hle,a,b,c⟩ hQ
  exact (W A hh).self k s Q E a hQ
theorem xw {hp:Hp} {a k:Nat} {o:AO} {r:Option AV} (ho:hp[a]? = some o) (hx:Src.next? hp (.ref a) k=some r):∃ ys,o=.list ys∧ys[k]? = r:=by
 have hx:(match hp[a]? with
  | some (.list ys)=>some ys[k]?
  | _=>none)=some r:=hx
 rw [ho] at hx
 cases o with
 | inst=>exact nos hx
 | dict=>exact nos hx
 | dicS=>exact nos hx
 | list ys=>exact ⟨ys,rfl,Option.some.inj hx⟩
theorem Drives.ref {target:Expr} {it:Addr} {a:Nat}:Drives prog X target (.ref a) (.ref it) [it] (fun k μ h=>∃ p,μ[a]? = some p∧h.IsListIter it p.1 k) where
 frame:=by
  rintro k μ μ' h h' ⟨p,e,r⟩ ⟨t,rfl⟩ hk hf hb
  exact ⟨p,by rw [List.getElem?_append_left (y7 e).1];exact e,r.at fun o e=>hk it (.head _) o e⟩
 obj:=by
  rintro k μ h ⟨p,e,o,ho,hc,hd⟩ b hb
  rw [xg hb]
  exact ⟨o,_,_,ho,hc,hd,by decide⟩
 item:=by
  rintro A μ hp s k x Q E E' Q' hh I hout ⟨p,e,r⟩ hx hQ hQ'
  obtain ⟨ob,hob⟩:=I.obj e
  obtain ⟨ys,rfl,hx'⟩:=xw hob hx
  obtain ⟨c,items,n,rfl,hl,z,rs⟩:=(I.rep _ _ _ e hob).list_
  obtain ⟨v,hv,rv⟩:=rs.get hx'
  refine wpAny_pyNext_list_item r (items:=items) ⟨_,hl,rfl,_,rfl⟩ (x:=v) (by rw [← Array.getElem?_toList];exact hv) fun h' hit' hs'=>hQ _ _ ?_
  obtain ⟨o,ho,hc,hd⟩:=id hit'
  have T:qD s.heap it:=by obtain ⟨o,ho,hc,hd⟩:=r;exact ⟨o,_,_,ho,hc,hd,by decide⟩
  refine jm (s:={ s with heap:=h' }) ho hc hd (by decide) (hQ' _ _ ?_ ⟨fun b o hb e=>hs'.extBut b o (fun h=>hb (h▸.head _)) e,rfl,rfl⟩ ⟨_,e,hit'⟩)
  exact rv.mono (List.prefix_refl _) fun b o e f=>hs'.extBut b o (fun h=>T.notFixed (h▸e) f) e
 done:=by
  rintro A μ hp s k Q E hh I ⟨p,e,r⟩ hx hQ
  obtain ⟨ob,hob⟩:=I.obj e
  obtain ⟨ys,rfl,hx'⟩:=xw hob hx
  obtain ⟨c,items,n,rfl,hl,z,rs⟩:=(I.rep _ _ _ e hob).list_
  exact wpAny_pyNext_list_end hh r (items:=items) ⟨_,hl,rfl,_,rfl⟩ (by rw [Array.getElem?_eq_none_iff,rs.size];exact List.getElem?_eq_none_iff.mp hx') fun h' he'=>hQ _ ⟨fun b o hb e=>he' b o (fun h=>hb (h▸.head _)) e,rfl,rfl⟩
 self:=by
  rintro A μ s k Q E hh ⟨p,e,r⟩ hQ
  exact wpAny_pyIter_listiter r hQ
theorem wf {hp:Hp} {a k:Nat} {o:AO} {r:Option AV} (ho:hp[a]? = some o) (hx:Src.next? hp (.enum a) k=some r):∃ ys,o=.list ys∧((ys[k]?).map fun x=>AV.tup [.int k,x])=r:=by
 have hx:(match hp[a]? with
  | some (.list ys)=>some ((ys[k]?).map fun x=>AV.tup [.int k,x])
  | _=>none)=some r:=hx
 rw [ho] at hx
 cases o with
 | inst=>exact nos hx
 | dict=>exact nos hx
 | dicS=>exact nos hx
 | list ys=>exact ⟨ys,rfl,Option.some.inj hx⟩
theorem Drives.enum {elts:List Expr} {x1:Nat} {pos:Pos} {e it:Addr} {a:Nat} (hne:e≠it):Drives prog X (.Tuple elts x1 pos) (.enum a) (.ref e) [e,it]
  (fun k μ h=>∃ p old,μ[a]? = some p∧h.IsListIter it p.1 k∧IsEnum h e it k old) where
 frame:=by
  rintro k μ μ' h h' ⟨p,old,e,r,q⟩ ⟨t,rfl⟩ hk hf hb
  exact ⟨p,old,by rw [List.getElem?_append_left (y7 e).1];exact e,r.at fun o e=>hk it (by simp) o e,hk _ (by simp) _ q⟩
 obj:=by
  rintro k μ h ⟨p,old,_,⟨o,ho,hc,hd⟩,q⟩ b hb
  simp at hb
  rcases hb with rfl | rfl
  ·exact ⟨_,_,_,q,rfl,rfl,by decide⟩
  ·exact ⟨o,_,_,ho,hc,hd,by decide⟩
 item:=by
  rintro A μ hp s k x Q E E' Q' hh I hout ⟨p,old,e0,r,q⟩ hx hQ hQ'
  obtain ⟨ob,hob⟩:=I.obj e0
  obtain ⟨ys,rfl,hx'⟩:=wf hob hx
  obtain ⟨c,items,n,rfl,hl,z,rs⟩:=(I.rep _ _ _ e0 hob).list_
  obtain ⟨y,hy,rfl⟩:=y9 hx'
  obtain ⟨v,hv,rv⟩:=rs.get hy
  refine wpAny_pyNext_enum_item q r (items:=items) ⟨_,hl,rfl,_,rfl⟩ (x:=v) (by rw [← Array.getElem?_toList];exact hv) hne fun h' heo hit' ht hz hk=>hQ _ _ ?_
  have T:qD s.heap it:=by obtain ⟨o,ho,hc,hd⟩:=r;exact ⟨o,_,_,ho,hc,hd,by decide⟩
  have Te:qD s.heap e:=⟨_,_,_,q,rfl,rfl,by decide⟩
  refine wpAny_letOwnedTupleGo_enum (s:={ s with heap:=h',toks:=s.toks+1 }) heo fun h2 he2 hs2=>hQ' _ _ ?_ ⟨fun b o hb e=>hs2.extBut b o (fun h=>hb (by simp [h])) (hk b o (fun h=>hb (by simp [h])) (fun h=>hb (by simp [h])) e),rfl,rfl⟩ ⟨_,v,e0,hit'.extBut hs2.extBut (Ne.symm hne),he2⟩
  have nT:s.heap.objs.size≠e:=Nat.ne_of_gt (Heap.lt_size q)
  refine .tup (items:=#[.int k s.toks,v]) ⟨_,hs2.extBut _ _ nT ht,rfl,_,rfl⟩ (by rw [qd];simp) (.cons (.int _ _) (.cons ?_ .nil))
  exact rv.mono (List.prefix_refl _) fun b o e f=>hs2.extBut b o (fun h=>Te.notFixed (h▸e) f) (hk b o (fun h=>Te.notFixed (h▸e) f) (fun h=>T.notFixed (h▸e) f) e)
 done:=by
  rintro A μ hp s k Q E hh I ⟨p,old,e0,r,q⟩ hx hQ
  obtain ⟨ob,hob⟩:=I.obj e0
  obtain ⟨ys,rfl,hx'⟩:=wf hob hx
  obtain ⟨c,items,n,rfl,hl,z,rs⟩:=(I.rep _ _ _ e0 hob).list_
  exact wpAny_pyNext_enum_end hh q r (items:=items) ⟨_,hl,rfl,_,rfl⟩ (by rw [Array.getElem?_eq_none_iff,rs.size];exact List.getElem?_eq_none_iff.mp (Option.map_eq_none_iff.mp hx')) fun h' he'=>hQ _ ⟨fun b o hb e=>he' b o (fun h=>hb (by simp [h])) e,rfl,rfl⟩
 self:=by
  rintro A μ s k Q E hh ⟨p,old,e0,r,q⟩ hQ
  exact wpAny_pyIter_enum q hQ
theorem jJ {μ:Mu} {hp:Hp} (I:Inv X μ hp s) {o:Obj} (T:qD (s.heap.push o) s.heap.objs.size):Its X s.heap μ (s.heap.push o) [s.heap.objs.size] where
 new:=fun b hb=>by rw [xg hb];exact yp _
 out:=fun b hb h=>by
  rw [xg hb] at h
  obtain ⟨o',e,_⟩:=I.mut h
  rw [yp] at e;exact nos e
 base:=fun b hb=>by
  rw [xg hb]
  cases e:X.base.get? s.heap.objs.size with
  | none=>rfl
  | some o'=>have:=I.keep _ _ e;rw [yp] at this;exact nos this
 obj:=fun b hb=>by rw [xg hb];exact T
theorem j6 {μ:Mu} {hp:Hp} {v:AV} {c:Value} {src:Src} {n:Nat} {target:Expr} {Q:Value→Shared→Prop} (e:yk hp v=some (src,n)) (I:Inv X μ hp s) (r:VR X μ s.heap v c)
  (hQ:∀ it its St s',Drives prog X target src it its St→Its X s.heap μ s'.heap its→St 0 μ s'.heap→But [] s s'→Q it s'):wpAny (model prog X.w) A (pyIter c) Q E s:=by
 have pk:∀ o,But [] s { s with heap:=s.heap.push o }:=fun o=>⟨fun b ob _ e=>Heap.get?_push_of_some _ e,rfl,rfl⟩
 have ff:∀ (o:Obj) {x:AV} {v:Value},VR X μ s.heap x v→VR X μ (s.heap.push o) x v:=fun o x v r=>r.mono (List.prefix_refl _) fun b ob e _=>Heap.get?_push_of_some _ e
 cases v with
 | ref a =>
  obtain ⟨p,h1,rfl⟩:=r.ref_
  obtain ⟨ob,hob⟩:=I.obj h1
  have e:(match hp[a]? with
   | some (.list xs)=>some (Src.ref a,xs.length)
   | _=>none)=some (src,n):=e
  rw [hob] at e
  cases ob with
  | inst=>exact nos e
  | dict=>exact nos e
  | dicS=>exact nos e
  | list xs =>
   obtain ⟨c,items,n,rfl,hl,z,rs⟩:=(I.rep _ _ _ h1 hob).list_
   cases e
   have hit:(s.heap.push { cls:=.type "list_iterator",data:=.fields #[.ref c,.int 0 0] }).IsListIter s.heap.objs.size c 0:=⟨_,Heap.get?_push_size _ rfl,rfl,rfl⟩
   exact wpAny_pyIter_list ⟨_,hl,rfl,_,rfl⟩ (hQ _ _ _ _ .ref (jJ I ⟨_,_,_,Heap.get?_push_size _ rfl,rfl,rfl,by decide⟩) ⟨_,h1,hit⟩ (pk _))
 | tup xs =>
  obtain ⟨c,items,rfl,ht,z,rs⟩:=r.tup_
  cases e
  have l:=rs.size
  have hne:c≠s.heap.objs.size:=by obtain ⟨o,ho,_⟩:=ht;exact Nat.ne_of_lt (Heap.lt_size ho)
  refine wpAny_pyIter_tuple ht (hQ _ _ _ _ (Drives.walks (target:=target) (xs:=xs) (fun A hh=>l▸Walks.tuple hh s.heap.objs.size c hne items) (fun k h st=>?_)) (jJ I ⟨_,_,_,Heap.get?_push_size _ rfl,rfl,rfl,by decide⟩) ⟨Nat.zero_le _,⟨⟨_,Heap.get?_push_size _ rfl,rfl,rfl⟩,ht.push _⟩,fun i v hi hv=>?_,fun b hb hn=>?_⟩ (pk _))
  ·obtain ⟨⟨o,ho,hc,hd⟩,_⟩:=st
   exact ⟨o,_,_,ho,hc,hd,by decide,by decide⟩
  ·have hlt:i<xs.length:=by rw [← l];exact (Array.getElem?_eq_some_iff.mp hv).1
   obtain ⟨v',e1,e2⟩:=rs.get (zu hlt)
   rw [Array.getElem?_toList,hv] at e1;cases e1
   exact ⟨_,zu hlt,ff _ e2⟩
  ·rcases List.mem_cons.mp hb with rfl | hb
   ·exact absurd rfl hn
   ·rw [xg hb]
    obtain ⟨o,ho,hc,m,hd⟩:=ht
    exact .inr ⟨o,Heap.get?_push_of_some _ ho,.inl ⟨hc,_,_,hd⟩⟩
 | range a b =>
  obtain ⟨c,t,u,v',rfl,h1,h2,h3⟩:=r.range_
  cases e
  have sz:=wv a b
  have hs:=jl h2 h3
  have ln:=ZP a b
  refine wpAny_pyIter_range h1 hs (hQ _ _ _ _ (Drives.walks (target:=target) (xs:=xB a b) (fun A hh=>Walks.range hh s.heap.objs.size a 1 (xB a b).length) (fun k h st=>?_)) (jJ I ⟨_,_,_,Heap.get?_push_size _ rfl,rfl,rfl,by decide⟩) ⟨Nat.zero_le _,?_,fun i v hi hv=>?_,fun b hb hn=>?_⟩ (pk _))
  ·exact ⟨_,_,_,st,rfl,rfl,by decide,by decide⟩
  ·rw [ln,sz]
   have:=Heap.get?_push_size s.heap (o:={ cls:=.type "range_iterator",data:=.fields #[rawInt a,rawInt ((b - a).toNat:Int),rawInt 1] }) rfl
   simpa using this
  ·obtain ⟨t,rfl⟩:=hv
   refine ⟨.int (a+(i:Int)),?_,by simpa using VR.int _ _⟩
   rw [ln] at hi
   simp [xB,hi]
  ·exact absurd (xg hb) hn
 | str x =>
  obtain ⟨t,rfl,z⟩:=r.str_
  cases e
  have ln:(yt x).length=x.cps.size:=by simp [yt]
  have sg:∀ (h:Heap) (i:Nat) (v:Value),SignAt x i v→∃ y,(yt x)[i]? = some y∧VR X μ h y v:=by
   rintro h i v ⟨c,u,h1,rfl⟩
   refine ⟨.str ⟨#[c]⟩,?_,.str _ (by rw [qd];simp [Str.length])⟩
   simp [yt,h1]
  cases ha:x.cps.all (·<128)
  ·refine wpAny_pyIter_wide ha (hQ _ _ _ _ (Drives.walks (target:=target) (xs:=yt x) (fun A hh=>ln▸Walks.strWide hh s.heap.objs.size x t) (fun k h st=>?_)) (jJ I ⟨_,_,_,Heap.get?_push_size _ rfl,rfl,rfl,by decide⟩)
    ⟨Nat.zero_le _,⟨_,Heap.get?_push_size _ rfl,rfl,rfl⟩,fun i v _=>sg _ i v,fun b hb hn=>?_⟩ (pk _))
   ·obtain ⟨o,ho,hc,hd⟩:=st
    exact ⟨o,_,_,ho,hc,hd,by decide,by decide⟩
   ·exact absurd (xg hb) hn
  ·refine wpAny_pyIter_ascii ha (hQ _ _ _ _ (Drives.walks (target:=target) (xs:=yt x) (fun A hh=>ln▸Walks.strAscii hh s.heap.objs.size x t) (fun k h st=>?_)) (jJ I ⟨_,_,_,Heap.get?_push_size _ rfl,rfl,rfl,by decide⟩)
    ⟨Nat.zero_le _,⟨_,Heap.get?_push_size _ rfl,rfl,rfl⟩,fun i v _=>sg _ i v,fun b hb hn=>?_⟩ (pk _))
   ·obtain ⟨o,ho,hc,hd⟩:=st
    exact ⟨o,_,_,ho,hc,hd,by decide,by decide⟩
   ·exact absurd (xg hb) hn
 | _=>exact nos e
end
section
variable {prog:Program} {X:Cx} {A:Around} {E:Value→Shared→Prop} {s s':Shared} {sc:Sc} {env:Env} {fr fr':AFr} {μ μ':Mu} {hp:Hp} {cb:Bool} {l:List Env}
theorem Xs {x:Str} {i:Nat} (h:sc.isOwn x=some i):(sc.kind x=some .local∨sc.kind x=some .cell)∧sc.slot x=some i:=by
 cases q:sc.kind x with
 | none=>unfold Sc.isOwn at h;rw [q] at h;exact nos h
 | some k =>
  unfold Sc.isOwn at h
  rw [q] at h
  cases k with
  | «local» => exact ⟨.inl rfl,h⟩
  | cell=>exact ⟨.inr rfl,h⟩
  | _=>exact nos h
theorem Le.fixOwn (V:EnvR X l sc env fr μ s.heap) (I:Inv X μ hp s) (L:Le (Yn cb env) μ s μ' s'):∀ b o,s.heap.get? b=some o→yS o→s'.heap.get? b=some o :=
 L.fixed I fun b o h e=>yV V b o (qL h) e
theorem Yk {i:Nat} {is:List Nat} {vs:List AV} {fr fr':AFr} (e:xX (i::is) vs fr=some fr'):∃ v ws,vs=v::ws∧i<fr.length∧xX is ws (fr.set i (some v))=some fr':=by
 cases vs with
 | nil=>exact nos e
 | cons v ws =>
  obtain ⟨h,e⟩:=ZB (show (if i<fr.length then xX is ws (fr.set i (some v)) else none)=some fr' from e)
  exact ⟨v,ws,rfl,h,e⟩
theorem jn {e:Expr} {i:Nat} (h:wg sc e=some i):∃ x p,e=.Name x p∧sc.isOwn x=some i:=by
 cases e with
 | Name x p=>exact ⟨x,p,rfl,h⟩
 | _=>exact nos h
theorem XZ {Q:Unit→Shared→Prop} {es:List Expr}:∀ {is:List Nat} {vs:List AV} {vs':List Value} {fr:AFr} {s:Shared},yT (wg sc) es=some is→xX is vs fr=some fr' →
  (∀ x p,Expr.Name x p∈es→sc.kind x=some .cell→cb=true)→Inv X μ hp s→EnvR X l sc env fr μ s.heap→VRs X μ s.heap vs vs' →
  (∀ s',Le (Yn cb env) μ s μ s'→Inv X μ hp s'→EnvR X l sc env fr' μ s'.heap→Q () s')→wpAny (model prog X.w) A (assignInOrder ((assignEach es env).map (·.2)) vs') Q E s:=by
 induction es with
 | nil =>
  intro is vs vs' fr s e1 e2 hc I V r k
  cases e1
  cases vs with
  | cons=>exact nos e2
  | nil =>
  cases e2
  rw [r.nil_]
  show wpAny _ _ (pure ()) _ _ _
  exact wpAny_pure (k s .refl I V)
 | cons e es ih =>
  intro is vs vs' fr s e1 e2 hc I V r k
  obtain ⟨i,is',h1,h2,rfl⟩:=qP e1
  obtain ⟨v,ws,rfl,hi,e3⟩:=Yk e2
  obtain ⟨u,us,rfl,rv,rs⟩:=r.cons_
  obtain ⟨x,p,rfl,ho⟩:=jn h1
  obtain ⟨hk,hs⟩:=Xs ho
  refine PyProof.Rows.assignInOrder_cons (ts:=(assignEach es env).map (·.2)) ?_
  show wpAny _ _ (assign (.Name x p) env _) _ _ _
  rw [PySem.assign_Name]
  refine wpAny_bind (wpAny_standAt (Zw I V hk (hc x p (.head _)) hs hi rv fun s1 L1 I1 V1=>?_))
  exact ih h2 e3 (fun x p h=>hc x p (.tail _ h)) I1 V1 (rs.mono (List.prefix_refl _) (L1.fixOwn V I)) fun s2 L2 I2 V2=>k s2 (L1.trans L2) I2 V2
theorem Y0 {es:List Expr}:∀ {is:List Nat},yT (wg sc) es=some is→(assignEach es env).length=is.length∧(assignEach es env).findIdx? (·.1)=none:=by
 induction es with
 | nil=>intro is h;cases h;exact ⟨rfl,rfl⟩
 | cons e es ih =>
  intro is h
  obtain ⟨i,is',h1,h2,rfl⟩:=qP h
  obtain ⟨x,p,rfl,ho⟩:=jn h1
  obtain ⟨a,b⟩:=ih h2
  refine ⟨congrArg (·+1) a,?_⟩
  show List.findIdx? (·.1) ((false,assign (.Name x p) env)::assignEach es env)=none
  rw [List.findIdx?_cons,b];rfl
theorem QO {is:List Nat}:∀ {vs:List AV} {fr fr':AFr},xX is vs fr=some fr'→is.length=vs.length:=by
 induction is with
 | nil =>
  intro vs fr fr' h
  cases vs with
  | nil=>rfl
  | cons=>exact nos h
 | cons i is ih =>
  intro vs fr fr' h
  obtain ⟨v,ws,rfl,hi,e⟩:=Yk h
  exact congrArg (·+1) (ih e)
theorem qC {target:Expr} {t:NTgt} {v:AV} {v':Value} {Q:Unit→Shared→Prop} (ht:qM sc target=some t) (hb:t.bind v fr=some fr') (hh:A.handled=none)
  (hc:cb=false→∀ x p,(target=.Name x p∨∃ es k q,target=.Tuple es k q∧Expr.Name x p∈es)→sc.kind x=some .local) (I:Inv X μ hp s) (V:EnvR X l sc env fr μ s.heap) (r:VR X μ s.heap v v')
  (k:∀ s',Le (Yn cb env) μ s μ s'→Inv X μ hp s'→EnvR X l sc env fr' μ s'.heap→Q () s'):wpAny (model prog X.w) A (assign target env v') Q E s:=by
 have hc':∀ x p,(target=.Name x p∨∃ es k q,target=.Tuple es k q∧Expr.Name x p∈es)→sc.kind x=some .cell→cb=true:=fun x p h hk=>by
  cases cb with
  | true=>rfl
  | false=>rw [hc rfl x p h] at hk;cases hk
 cases target with
 | Name x p =>
  obtain ⟨i,hi,rfl⟩:=y9 ht
  obtain ⟨hk,hs⟩:=Xs hi
  obtain ⟨u,ws,e,hl,e2⟩:=Yk hb
  cases e
  cases e2
  rw [PySem.assign_Name]
  exact wpAny_bind (wpAny_standAt (Zw I V hk (hc' x p (.inl rfl)) hs hl r k))
 | Tuple es kk p =>
  have ht:(match yT (wg sc) es with
   | some is=>if is.length≤10∧is.Nodup then some (NTgt.many is) else none
   | none=>none)=some t:=ht
  cases hi:yT (wg sc) es with
  | none=>rw [hi] at ht;exact nos ht
  | some is =>
   rw [hi] at ht
   obtain ⟨_,rfl⟩:=zt ht
   cases v with
   | tup xs =>
    have hb:xX is xs fr=some fr':=hb
    obtain ⟨c,items,rfl,h1,z,rs⟩:=r.tup_
    obtain ⟨l1,l2⟩:=Y0 (env:=env) hi
    have l3:=QO hb
    refine wpAny_assign_Tuple hh h1 (by rw [rs.size,l1,l3]) l2 fun h' he=>?_
    have kp:∀ b o,s.heap.get? b=some o→h'.get? b=some o:=fun b o e=>he b o (Nat.ne_of_lt (Heap.lt_size e)) e
    have L0:Le (Yn cb env) μ s μ { s with heap:=h' }:=.ofKeep kp
    exact XZ hi hb (fun x p h=>hc' x p (.inr ⟨_,_,_,rfl,h⟩)) (I.grow (t:=s.toks) kp) (V.le I (.ofKeep kp)) (rs.mono (List.prefix_refl _) fun b o e _=>kp b o e) fun s2 L2 I2 V2=>k s2 (L0.trans L2) I2 V2
   | _=>exact nos hb
 | _=>exact nos ht
end
theorem jA (env:Env):∀ (names:List (Str×NameKind)) (cs:List (Str×Addr)),(∀ p∈names,p.2=.free→∃ c,env.cells.lookup p.1=some c)→(∀ x c,cs.lookup x=some c→env.cells.lookup x=some c) →
  ∃ cl,(forIn names cs fun (p:Str×NameKind) (r:List (Str×Addr))=>if (p.2 == .free)=true then do let a ← cellOf env p.1;pure (ForInStep.yield ((p.1,a)::r)) else pure (ForInStep.yield r):Sem (List (Str×Addr)))=pure cl ∧
   (∀ x c,cl.lookup x=some c→env.cells.lookup x=some c)∧(∀ p∈names,p.2=.free→∃ c,cl.lookup p.1=some c)∧(∀ x,(∃ c,cs.lookup x=some c)→∃ c,cl.lookup x=some c)
 | [],cs,_,h=>⟨cs,by rw [List.forIn_nil],h,fun _ h=>(nomatch h),fun _ h=>h⟩
 | (n,k)::r,cs,h1,h2=>by
  rw [List.forIn_cons]
  by_cases hk:k=.free
  ·subst hk
   obtain ⟨c,hc⟩:=h1 (n,.free) (.head _) rfl
   have hn:∀ x c',List.lookup x ((n,c)::cs)=some c'→env.cells.lookup x=some c':=fun x c' h=>by
    rw [List.lookup_cons] at h
    split at h
    ·rename_i e;cases h;rw [eq_of_beq e];exact hc
    ·exact h2 x c' h
   obtain ⟨cl,e,a,b,d⟩:=jA env r ((n,c)::cs) (fun p hp=>h1 p (.tail _ hp)) hn
   refine ⟨cl,?_,a,fun p hp hf=>?_,fun x ⟨c',hx⟩=>d x ?_⟩
   ·rw [← e]
    have:cellOf env n=pure c:=by unfold cellOf;rw [hc]
    simp [this]
   ·cases hp with
    | head=>exact d n ⟨c,by simp⟩
    | tail _ hp=>exact b p hp hf
   ·rw [List.lookup_cons]
    split
    ·exact ⟨_,rfl⟩
    ·exact ⟨c',hx⟩
  ·obtain ⟨cl,e,a,b,d⟩:=jA env r cs (fun p hp=>h1 p (.tail _ hp)) h2
   refine ⟨cl,?_,a,fun p hp hf=>?_,d⟩
   ·rw [← e]
    have:(k == NameKind.free)=false:=by simpa using hk
    simp [this]
   ·cases hp with
    | head=>exact absurd hf hk
    | tail _ hp=>exact b p hp hf
theorem Zq {scope:Scope} {env:Env} (h:∀ p∈scope.names,p.2=.free→∃ c,env.cells.lookup p.1=some c) :
  ∃ cl,closureFor scope env=pure cl∧(∀ x c,cl.lookup x=some c→env.cells.lookup x=some c)∧(∀ p∈scope.names,p.2=.free→∃ c,cl.lookup p.1=some c):=by
 obtain ⟨cl,e,a,b,_⟩:=jA env scope.names [] h (fun _ _ h=>by cases h)
 refine ⟨cl,?_,a,b⟩
 rw [← bind_pure (pure cl),← e]
 simp only [closureFor]
theorem Za {s:Scope} {env:Env} (he:env.scope.kind=.function) (x:Str):(relabel s env).names.lookup x=(match s.names.lookup x with
  | some .free=>if env.kindOf x == some .cell then some .cell else some .free
  | o=>o):=by
 unfold relabel
 dsimp only
 induction s.names with
 | nil=>rfl
 | cons p r ih =>
  obtain ⟨n,k⟩:=p
  rw [List.map_cons]
  by_cases hx:x=n
  ·subst hx
   cases k <;> by_cases hc:env.kindOf x=some .cell <;> simp [he,hc]
  ·have hb:(x == n)=false:=by simpa using hx
   have e1:List.lookup x ((n,k)::r)=List.lookup x r:=by rw [List.lookup_cons,hb]
   rw [e1,← ih]
   dsimp only
   split
   ·rw [List.lookup_cons,hb]
   ·rw [List.lookup_cons,hb]
theorem Zf {x:Str}:∀ {ys:List Str} {k i:Nat},jM x ys k=some i→k≤i∧i<k+ys.length∧ys[i - k]? = some x
 | [],_,_,h=>by cases h
 | y::ys,k,i,h=>by
  have h:(if (y == x)=true then some k else jM x ys (k+1))=some i:=h
  by_cases e:(y == x)=true
  ·rw [if_pos e] at h
   cases h
   exact ⟨Nat.le_refl _,by simp,by simpa using eq_of_beq e⟩
  ·rw [if_neg e] at h
   obtain ⟨a,b,c⟩:=Zf h
   refine ⟨by lia,by simp;lia,?_⟩
   have:i - k=(i - (k+1))+1:=by lia
   rw [this,List.getElem?_cons_succ];exact c
section
variable {prog:Program} {X:Cx} {A:Around} {E:Value→Shared→Prop} {s s':Shared} {sc:Sc} {env:Env} {fr fr':AFr} {μ μ':Mu} {hp:Hp} {cb:Bool} {l:List Env}
theorem xF {sp:Scope} (h:qV sc sp=true):sp.kind=.function∧(∀ p∈sp.names,p.2=.local∨(p.2=.free∧(sc.kind p.1=some .cell∨sc.kind p.1=some .free)∧∃ i,sc.slot p.1=some i)∨p.2=.globalImplicit)∧(sp.names.map (·.1)).Nodup:=by
 unfold qV at h
 simp only [Bool.and_eq_true,decide_eq_true_eq,List.all_eq_true,Bool.or_eq_true,beq_iff_eq,Option.isSome_iff_exists] at h
 obtain ⟨⟨a,b⟩,c⟩:=h
 refine ⟨a,fun p hp=>?_,c⟩
 rcases b p hp with (h | ⟨⟨h1,h2⟩,h3⟩) | h
 ·exact .inl h
 ·exact .inr (.inl ⟨h1,h2,h3⟩)
 ·exact .inr (.inr h)
theorem ZW {α β:Type} [BEq α] [LawfulBEq α] {x:α} {b:β}:∀ {l:List (α×β)},(l.map (·.1)).Nodup→(x,b)∈l→l.lookup x=some b
 | [],_,h=>by cases h
 | (y,c)::r,nd,h=>by
  rw [List.map_cons,List.nodup_cons] at nd
  rw [List.lookup_cons]
  cases h with
  | head=>simp
  | tail _ h =>
   have:(x == y)=false:=by
    simp only [beq_eq_false_iff_ne,ne_eq]
    rintro rfl
    exact nd.1 (List.mem_map.mpr ⟨_,h,rfl⟩)
   rw [this];exact ZW nd.2 h
theorem Wn {sp:Scope} {cl:List (Str×Addr)} {C:Addr} (ok:qV sc sp=true) (V:EnvR X l sc env fr μ s.heap) (hcl:∀ x c,cl.lookup x=some c→env.cells.lookup x=some c)
  (hcl':∀ p∈sp.names,p.2=.free→∃ c,cl.lookup p.1=some c) (ns:s.heap.Ns C (fun _=>none)) (hC:C∉zo μ) (hB:X.base.get? C=none) :
  EnvR X l (sc.inner sp) (compEnvC sp cl C env) (fr++List.replicate (zx sp).length none) μ s.heap:=by
 obtain ⟨ok1,ok2,ok3⟩:=xF ok
 have kd:∀ x,(sc.inner sp).kind x=(compEnvC sp cl C env).kindOf x:=fun x=>by
  show (match sp.names.lookup x with
   | some .free=>if sc.kind x == some .cell then some .cell else some .free
   | o=>o)=(relabel sp env).names.lookup x
  rw [Za V.fn,V.kind]
 have locK:∀ x,(sc.inner sp).kind x=some .local→sp.names.lookup x=some .local:=fun x h=>by
  have h:(match sp.names.lookup x with
   | some .free=>if sc.kind x == some .cell then some .cell else some .free
   | o=>o)=some .local:=h
  cases q:sp.names.lookup x with
  | none=>rw [q] at h;exact nos h
  | some k =>
   rw [q] at h
   cases k with
   | «local» => rfl
   | free =>
    dsimp only at h
    by_cases z:(sc.kind x == some .cell)=true
    ·rw [if_pos z] at h;cases h
    ·rw [if_neg z] at h;cases h
   | _=>cases h
 have celK:∀ x,((sc.inner sp).kind x=some .cell∨(sc.inner sp).kind x=some .free)→sp.names.lookup x=some .free:=fun x h=>by
  have h:(match sp.names.lookup x with
   | some .free=>if sc.kind x == some .cell then some .cell else some .free
   | o=>o)=some .cell∨(match sp.names.lookup x with
   | some .free=>if sc.kind x == some .cell then some .cell else some .free
   | o=>o)=some .free:=h
  cases q:sp.names.lookup x with
  | none=>rw [q] at h;rcases h with h | h <;> exact nos h
  | some k =>
   cases k with
   | free=>rfl
   | cell=>rcases ok2 _ (qQ q) with h | ⟨h,_⟩ | h <;> cases h
   | _=>rw [q] at h;rcases h with h | h <;> cases h
 have slotL:∀ x i,sp.names.lookup x=some .local→(sc.inner sp).slot x=some i→sc.width≤i∧i<sc.width+(zx sp).length∧(zx sp)[i - sc.width]? = some x:=fun x i e h=>by
  have h:(match sp.names.lookup x with
   | some .local=>jM x (zx sp) sc.width
   | some .free=>(match sc.kind x with
    | some .cell | some .free=>sc.slot x
    | _=>none)
   | _=>none)=some i:=h
  rw [e] at h
  exact Zf h
 have slotF:∀ x i,sp.names.lookup x=some .free→(sc.inner sp).slot x=some i→(sc.kind x=some .cell∨sc.kind x=some .free)∧sc.slot x=some i:=fun x i e h=>by
  have h:(match sp.names.lookup x with
   | some .local=>jM x (zx sp) sc.width
   | some .free=>(match sc.kind x with
    | some .cell | some .free=>sc.slot x
    | _=>none)
   | _=>none)=some i:=h
  rw [e] at h
  dsimp only at h
  cases q:sc.kind x with
  | none=>rw [q] at h;exact nos h
  | some k =>
   rw [q] at h
   cases k with
   | cell=>exact ⟨.inl rfl,h⟩
   | free=>exact ⟨.inr rfl,h⟩
   | _=>exact nos h
 have slotK:∀ x i,(sc.inner sp).slot x=some i→sp.names.lookup x=some .local∨sp.names.lookup x=some .free:=fun x i h=>by
  have h:(match sp.names.lookup x with
   | some .local=>jM x (zx sp) sc.width
   | some .free=>(match sc.kind x with
    | some .cell | some .free=>sc.slot x
    | _=>none)
   | _=>none)=some i:=h
  cases q:sp.names.lookup x with
  | none=>rw [q] at h;exact nos h
  | some k =>
   rw [q] at h
   cases k with
   | «local» => exact .inl rfl
   | free=>exact .inr rfl
   | _=>exact nos h
 refine ⟨ok1,V.glob,V.bltn,kd,⟨_,ns,fun x i v h1 h2 h3=>?_⟩,fun x i h1 h2=>?_,hC,hB,fun x c hc=>V.ncel x c (hcl x c hc),fun x c hc=>V.bcel x c (hcl x c hc),fun x y c h1 h2=>V.apart x y c (hcl _ _ h1) (hcl _ _ h2),fun x y i h1 h2=>?_,?_,fun x i h=>?_,V.frs⟩
 ·obtain ⟨a,b,_⟩:=slotL x i (locK x h1) h2
  rw [List.getElem?_append_right (by rw [V.wid];exact a),List.getElem?_replicate] at h3
  split at h3 <;> cases h3
 ·have hf:=celK x h1
  obtain ⟨k1,k2⟩:=slotF x i hf h2
  obtain ⟨c,cv,q1,q2,q3⟩:=V.cel x i k1 k2
  obtain ⟨c',hc'⟩:=hcl' _ (qQ hf) rfl
  have:=hcl _ _ hc'
  dsimp only at this hc'
  rw [q1] at this;cases this
  refine ⟨c,cv,hc',q2,fun v hv=>q3 v ?_⟩
  rwa [List.getElem?_append_left (by rw [V.wid];exact V.slt x i k2)] at hv
 ·rcases slotK x i h1 with e1 | e1 <;> rcases slotK y i h2 with e2 | e2
  ·obtain ⟨_,_,c1⟩:=slotL x i e1 h1
   obtain ⟨_,_,c2⟩:=slotL y i e2 h2
   rw [c1] at c2;cases c2;rfl
  ·obtain ⟨a1,_⟩:=slotL x i e1 h1
   have:=V.slt y i (slotF y i e2 h2).2
   lia
  ·obtain ⟨a1,_⟩:=slotL y i e2 h2
   have:=V.slt x i (slotF x i e1 h1).2
   lia
  ·exact V.inj x y i (slotF x i e1 h1).2 (slotF y i e2 h2).2
 ·show _=sc.width+(zx sp).length
  rw [zT,List.length_replicate,V.wid]
 ·show i<sc.width+(zx sp).length
  rcases slotK x i h with e | e
  ·exact (slotL x i e h).2.1
  ·have:=V.slt x i (slotF x i e h).2;lia
end
section
variable {prog:Program} {X:Cx} {A:Around} {E:Value→Shared→Prop} {s:Shared}
theorem Ww {elt target iter:Expr} {ifs:List Expr} {scope:Scope} {pos:Pos} {it acc:Value} {env:Env} {R:Result→Shared→Prop} (I:Nat→Shared→Prop)
  (turn:∀ n s,I n s→wpAny (model prog X.w) A (pyNext it) (fun r s₁=>match r with
   | none=>R (.ok .next) s₁
   | some v=>wpAny (model prog X.w) A (letOwnedTupleGo target it v) (fun _ s₀=>wpAny (model prog X.w) A (assign target env v) (fun _ s₂ =>
     wpAny (model prog X.w) A (forIn ifs true fun c r=>if r=true then do let ok ← isTrue c env (eval c env);pure (ForInStep.yield ok) else pure (ForInStep.yield r)) (fun ok s₃=>if ok=true then wpAny (model prog X.w) A (eval elt env) (fun x s₄ =>
      wpAny (model prog X.w) A (call (.builtin "list.append") [acc,x]) (fun _ s₅=>∃ m,m<n∧I m s₅) (notedBy (model prog X.w) A env fun e s'=>R (.error e) s') s₄) (notedBy (model prog X.w) A env fun e s'=>R (.error e) s') s₃
      else ∃ m,m<n∧I m s₃) (notedBy (model prog X.w) A env fun e s'=>R (.error e) s') s₂)
     (notedBy (model prog X.w) A env fun e s'=>R (.error e) s') s₀) (notedBy (model prog X.w) A env fun e s'=>R (.error e) s') s₁) (notedBy (model prog X.w) A env fun e s'=>R (.error e) s') s)
  (n:Nat) (h:I n s):codeAny (model prog X.w) A (.compLoop (.ListComp elt [⟨target,iter,ifs,0⟩] scope pos) 0 it acc env) R s:=by
 refine codeAny_loop rfl I (fun n s hI=>?_) n h
 show wpAny _ A ((compTurn (.ListComp elt [⟨target,iter,ifs,0⟩] scope pos) 0 it acc env).onRaise (fun x=>do noteFrame x env;theTreesLotGoes x)) _ _ s
 refine wpAny_noted ?_
 rw [compTurn_list]
 refine wpAny_bind (wpAny_standAt (wpAny_bind (wpAny_mono (turn n s hI) (fun r s₁ h₁=>?_) fun _ _ h'=>h')))
 cases r with
 | none=>exact wpAny_pure h₁
 | some v =>
  refine wpAny_bind (wpAny_mono h₁ (fun _ s₀ h₀'=>?_) fun _ _ h'=>h')
  refine wpAny_bind (wpAny_mono h₀' (fun _ s₂ h₂=>?_) fun _ _ h'=>h')
  refine wpAny_bind (wpAny_mono h₂ (fun okb s₃ h₃=>?_) fun _ _ h'=>h')
  cases okb with
  | false=>exact wpAny_pure ⟨rfl,h₃⟩
  | true=>exact wpAny_bind (wpAny_bind (wpAny_mono h₃ (fun x s₄ h₄=>wpAny_bind (wpAny_mono h₄ (fun _ s₅ h₅=>wpAny_pure (wpAny_pure ⟨rfl,h₅⟩)) fun _ _ h'=>h')) fun _ _ h'=>h'))
theorem jg {env:Env} {Q:Bool→Shared→Prop} (h:Q false s):∀ (ifs:List Expr),
  wpAny (model prog X.w) A (forIn ifs false fun c r=>if r=true then do let ok ← isTrue c env (eval c env);pure (ForInStep.yield ok) else pure (ForInStep.yield r)) Q E s
 | []=>wpAny_pure h
 | c::r=>by
  rw [List.forIn_cons]
  exact wpAny_bind (wpAny_pure (jg h r))
end
theorem Out.bind0_ok_of {α β:Type} {o:Out α} {k:α→Hp→Out β} {b:β} {h':Hp} (e:o.bind0 k=.ok b h'):∃ a h,o=.ok a h∧k a h=.ok b h':=by
 cases o with
 | ok a h=>exact ⟨a,h,rfl,e⟩
 | _=>exact nok e
section
variable {prog:Program} {X:Cx} {G:GTab} {n:Nat} {cf:CF} {sc:Sc} {env:Env}
theorem PG.okT {l:List Env} {μ:Mu} {s:Shared} {o:Out Bool} {b:Bool} {hp':Hp} {Q:Bool→Shared→Prop} {E:Value→Shared→Prop} (e:o=.ok b hp') (h:∀ μ' s',Le noS μ s μ' s'→Inv X μ' hp' s'→Q b s'):PT X l μ s o Q E:=by
 rw [e];exact fun b' μ' s' L I r=>r▸h μ' s' L I
theorem PG.okE {l:List Env} {μ:Mu} {s:Shared} {o:Out AV} {v:AV} {hp':Hp} {Q:Value→Shared→Prop} {E:Value→Shared→Prop} (e:o=.ok v hp') (h:PE X μ s v hp' Q):PO X l μ s o Q E:=by
 rw [e];exact h
theorem wJ:∀ {ifs:List Expr} {ts:List XT},SndTs prog X n cf sc env (ifs.map fun c=>isTrue c env (eval c env)) ts →
  wY prog X n cf sc env (forIn ifs true fun c r=>if r=true then do let ok ← isTrue c env (eval c env);pure (ForInStep.yield ok) else pure (ForInStep.yield r)) (zQ .And ts)
 | [],ts,h=>by
  cases h
  exact fun _ I _ k=>wpAny_pure (k _ _ _ .refl I rfl)
 | c::ifs,ts,h=>by
  intro R I V k
  cases h with | cons ht h=>?_
  rw [List.forIn_cons]
  refine wpAny_bind (wpAny_bind (ht R I V (k.bind fun b1 b1' h1 μ1 s1 L1 I1 e k=>wpAny_pure ?_)))
  cases e
  cases b1 with
  | false=>exact jg (k _ μ1 s1 .refl I1 rfl) _
  | true=>exact wJ h R I1 (V.le I L1) k
theorem Le.fresh1 {S:Addr→Prop} {μ μ' μ'':Mu} {s s' s'':Shared} (L:Le noS μ s μ' s') (L2:Le S μ' s' μ'' s'') (h:∀ b,S b→s.heap.get? b=none):Le noS μ s μ'' s'' :=
 ((L.weak fun _ h=>h.elim).trans L2).drop fun b o hb e=>by rw [h b hb] at e;exact nos e
theorem Inv.adopt {μ:Mu} {hp:Hp} {s:Shared} (I:Inv X μ hp s) {D:Addr} {o:AO} (hD:D∉zo μ) (hB:X.base.get? D=none) (r:OR X μ s.heap o (D,none)) :
  Inv X (μ++[(D,none)]) (hp++[o]) s:=by
 have ea:zo (μ++[(D,none)])=zo μ++[D]:=by rw [xf];simp [zo]
 have mn:∀ {o:AO} {p:Addr×Option Addr},OR X μ s.heap o p→OR X (μ++[(D,none)]) s.heap o p:=fun r=>r.mono (List.prefix_append _ _) (fun _ _ e _=>e) fun _ _ _ e=>e
 refine ⟨by simp [I.len],?_,fun a ha=>?_,fun i q x hi hx=>?_,I.keep,I.gens,I.os⟩
 ·rw [ea,List.nodup_append]
  refine ⟨I.nodup,by simp,fun a ha b hb e=>?_⟩
  simp at hb;subst hb;subst e;exact hD ha
 ·rw [ea,List.mem_append] at ha
  rcases ha with ha | ha
  ·exact I.above a ha
  ·simp at ha;subst ha;exact hB
 ·by_cases hlt:i<μ.length
  ·rw [List.getElem?_append_left hlt] at hi
   rw [List.getElem?_append_left (by rw [← I.len];exact hlt)] at hx
   exact mn (I.rep i q x hi hx)
  ·have e1:i=μ.length:=by
    have:=(y7 hi).1
    simp at this;lia
   subst e1
   rw [List.getElem?_append_right (Nat.le_refl _)] at hi
   rw [I.len,List.getElem?_append_right (Nat.le_refl _)] at hx
   simp at hi hx
   subst hi hx
   exact mn r
theorem XC {sp:Scope} {target:Expr} (h:qE sp target=true):∀ x p,(target=.Name x p∨∃ es k q,target=.Tuple es k q∧Expr.Name x p∈es)→(sc.inner sp).kind x=some .local:=by
 have go:∀ x,sp.names.lookup x=some .local→(sc.inner sp).kind x=some .local:=fun x e=>by
  show (match sp.names.lookup x with
   | some .free=>if sc.kind x == some .cell then some .cell else some .free
   | o=>o)=some .local
  rw [e]
 rintro x p (rfl | ⟨es,k,q,rfl,hm⟩)
 ·exact go x (eq_of_beq (show (sp.names.lookup x == some .local)=true from h))
 ·exact go x (eq_of_beq (show (sp.names.lookup x == some .local)=true from List.all_eq_true.mp (show (es.all fun e=>(match e with
   | .Name x _=>sp.names.lookup x == some .local
   | _=>false))=true from h) _ hm))
structure CS (X:Cx) (l:List Env) (sc:Sc) (env:Env) (μ₁:Mu) (s₁:Shared) (Dd:Addr) (its:List Addr) (St:Nat→Mu→Heap→Prop) (k:Nat) (acc:List AV) (fr:AFr) (hp:Hp) (μ:Mu) (items:Array Value) (s:Shared):Prop where
 I:Inv X μ hp s
 L:Le noS μ₁ s₁ μ s
 V:EnvR X l sc env fr μ s.heap
 ac:s.heap.PlainList Dd items
 ra:VRs X μ s.heap acc items.toList
 n:Dd∉zo μ
 T:Its X s₁.heap μ s.heap its
 st:St k μ s.heap
section
variable {l:List Env} {μ₁ μ μb:Mu} {s₁ s sb:Shared} {Dd C:Addr} {its:List Addr} {St:Nat→Mu→Heap→Prop} {k:Nat} {acc:List AV} {fr fr₁:AFr} {hp hb:Hp} {items:Array Value} {target:Expr} {src:Src} {it:Value}
theorem CS.itsD (S:CS X l sc env μ₁ s₁ Dd its St k acc fr hp μ items s):Dd∉its:=fun h=>by
 obtain ⟨o,Tn,vs,ho,hc,hd,_⟩:=S.T.obj _ h
 obtain ⟨n',q⟩:=S.ac
 rw [q] at ho;cases ho;cases hd
theorem CS.later (D:Drives prog X target src it its St) (S:CS X l sc env μ₁ s₁ Dd its St k acc fr hp μ items s) (Lb:Le noS μ s μb sb) (Ib:Inv X μb hb sb):CS X l sc env μ₁ s₁ Dd its St k acc fr hb μb items sb:=by
 obtain ⟨Tb,kb⟩:=S.T.later (fun _ _ h _=>h.elim) Lb
 refine ⟨Ib,S.L.trans Lb,S.V.le S.I Lb,(by obtain ⟨n',q⟩:=S.ac;exact ⟨n',(Lb.keep _ _ S.n (fun h=>h) q).exact rfl⟩),S.ra.le S.I Lb,fun h=>?_,Tb,
  D.frame _ μ μb _ _ S.st Lb.pre (fun b hb o q=>(kb b hb).trans q) (Lb.fixed S.I fun _ _ h=>h.elim) fun b o q=>⟨S.I.keep b o q,Ib.keep b o q⟩⟩
 rcases Lb.fresh _ h with h | h
 ·exact S.n h
 ·obtain ⟨n',q⟩:=S.ac;rw [h] at q;cases q
theorem CS.turn (D:Drives prog X target src it its St) (S:CS X l sc env μ₁ s₁ Dd its St k acc fr hp μ items s) (B1:But its s sb) (st1:St (k+1) μ sb.heap) (hDC:Dd≠env.locals) (hC1:s₁.heap.get? env.locals=none) {s2:Shared} (L2:Le (Yn false env) μ sb μ s2) (I2:Inv X μ hp s2) (V2:EnvR X l sc env fr₁ μ s2.heap) :
  CS X l sc env μ₁ s₁ Dd its St (k+1) acc fr₁ hp μ items s2:=by
 have I1:=S.T.invR B1 S.I
 have V1:=S.T.envR B1 S.V
 have T1:Its X s₁.heap μ sb.heap its:=⟨S.T.new,S.T.out,S.T.base,D.obj _ μ _ st1⟩
 have S2:∀ b,Yn false env b→b=env.locals:=fun b h=>by
  rcases h with h | ⟨h,_⟩
  ·exact h
  ·exact nob h
 have fx2:=L2.fixOwn V1 I1
 obtain ⟨T2,k2⟩:=T1.later (fun b o h q=>wP V1 (qL h) q) L2
 refine ⟨I2,(S.T.leR B1 S.L).fresh1 L2 fun b h=>by rw [S2 b h];exact hC1,V2,?_,(S.T.vrs B1 S.ra).mono (List.prefix_refl _) fx2,S.n,T2,
  D.frame _ μ μ sb.heap s2.heap st1 (List.prefix_refl _) (fun b hb o q=>(k2 b hb).trans q) fx2 fun b o q=>⟨I1.keep b o q,I2.keep b o q⟩⟩
 obtain ⟨n',q⟩:=S.ac.at fun o q=>B1.1 _ o S.itsD q
 exact ⟨n',(L2.keep _ _ S.n (fun h=>hDC (S2 _ h)) q).exact rfl⟩
theorem CS.push (D:Drives prog X target src it its St) (S:CS X l sc env μ₁ s₁ Dd its St k acc fr hp μ items s) (hD1:s₁.heap.get? Dd=none) (bD:X.base.get? Dd=none) {u:AV} {u':Value} (ru:VR X μ s.heap u u') {h':Heap} (ac5:h'.PlainList Dd (items.push u')) (hs5:Heap.SameBut Dd s.heap h') :
  CS X l sc env μ₁ s₁ Dd its St k (acc++[u]) fr hp μ (items.push u') { s with heap:=h' }:=by
 have nfx:∀ o,s.heap.get? Dd=some o→¬ yS o:=fun o q f=>by
  obtain ⟨n',q'⟩:=S.ac
  rw [q] at q';cases q'
  rcases f with ⟨q,_⟩ | ⟨q,_⟩ <;> (injection q with q;exact absurd q (by decide))
 have fx5:∀ b o,s.heap.get? b=some o→yS o→h'.get? b=some o:=fun b o q f=>hs5.extBut b o (fun h=>nfx o (h▸q) f) q
 obtain ⟨I5,L5⟩:=S.I.own (s':={ s with heap:=h' }) (S:=fun b=>b=Dd) (fun b h=>h▸⟨S.n,bD⟩) (fun b o h q=>⟨nfx o (h▸q),by obtain ⟨n',q'⟩:=ac5;exact ⟨_,h▸q'⟩⟩)
  (fun b o h q=>hs5.extBut b o h q) rfl rfl
 have itsD4:∀ b∈its,b≠Dd:=fun b hb h=>S.itsD (h▸hb)
 refine ⟨I5,S.L.fresh1 L5 (fun b h=>h▸hD1),S.V.but (s':={ s with heap:=h' }) (fun b o h q=>hs5.extBut b o (fun hb=>by
   obtain ⟨n',q'⟩:=S.ac
   rw [hb,q'] at q;cases q
   rcases wP S.V h (hb▸q') with ⟨es,n,q⟩ | ⟨v,q⟩ <;> cases q) q) fx5 (S.V.frs.mono fun b o n q d=>⟨n,o,hs5.extBut b o (fun hb=>by
   obtain ⟨n',q'⟩:=S.ac
   rw [hb,q'] at q;cases q;cases d) q,d⟩),ac5,?_,S.n,⟨S.T.new,S.T.out,S.T.base,fun b hb=>by
   obtain ⟨o,Tn,vs,ho,rest⟩:=S.T.obj b hb
   exact ⟨o,Tn,vs,hs5.extBut b o (itsD4 b hb) ho,rest⟩⟩,D.frame _ μ μ _ _ S.st (List.prefix_refl _) (fun b hb o q=>hs5.extBut b o (itsD4 b hb) q) fx5 fun b o q=>⟨S.I.keep b o q,I5.keep b o q⟩⟩
 rw [Array.toList_push]
 exact (S.ra.mono (List.prefix_refl _) fx5).app (.cons (ru.mono (List.prefix_refl _) fx5) .nil)
end
theorem YQ {elt target iter:Expr} {ifs:List Expr} {sp:Scope} {pos:Pos} {t:NTgt} {test:XT} {eltx:XE} {cl:List (Str×Addr)} {RR:Value→Addr→Result→Shared→Prop} {A:Around} {l:List Env} {E:Value→Shared→Prop} {s₁ s₂:Shared}
  {μ₁:Mu} {hp₁ hp₂:Hp} {fr:AFr} {vs:List AV} {src:Src} {f:Nat} {it:Value} {its:List Addr} {St:Nat→Mu→Heap→Prop}
  (ok:qV sc sp=true) (ht:qM (sc.inner sp) target=some t) (htl:qE sp target=true)
  (hts:∀ env',wY prog X n cf (sc.inner sp) env' (forIn ifs true fun c r=>if r=true then do let ok ← isTrue c env' (eval c env');pure (ForInStep.yield ok) else pure (ForInStep.yield r)) test)
  (hel:∀ env',zw prog X n cf (sc.inner sp) env' (eval elt env') eltx)
  (hcl:∀ x c,cl.lookup x=some c→env.cells.lookup x=some c) (hcl':∀ p∈sp.names,p.2=.free→∃ c,cl.lookup p.1=some c)
  (e:yr t test eltx src f 0 [] cf (fr++List.replicate (zx sp).length none) hp₁=.ok vs hp₂) (R:Room n A l) (I:Inv X μ₁ hp₁ s₁) (V:EnvR X l sc env fr μ₁ s₁.heap)
  (D:Drives prog X target src it its St) (T:Its X s₁.heap μ₁ s₂.heap its) (st:St 0 μ₁ s₂.heap) (B:But [] s₁ s₂)
  (hRR:∀ D C m μ' s',Inv X (μ'++[(D,none)]) (hp₂++[.list vs]) s'→Le noS μ₁ s₁ (μ'++[(D,none)]) s'→s'.heap.Ns C m→C∉zo (μ'++[(D,none)])→X.base.get? C=none→s₁.heap.get? C=none→μ'.length=hp₂.length→RR (.ref D) C (.ok .next) s') :
  wpAny (model prog X.w) A (newList []) (fun acc s₃=>wpAny (model prog X.w) A (newFunctionEnv sp env.globals cl [] env.qual none .none (some env)) (fun cenv s₄ =>
   codeAny (model prog X.w) A (.compStart (.ListComp elt [⟨target,iter,ifs,0⟩] sp pos) 0 it acc { cenv with scope:=relabel sp env }) (RR acc cenv.locals) s₄) E s₃) E s₂:=by
 obtain ⟨ok1,ok2,ok3⟩:=xF ok
 refine wpAny_newObj_type (wpAny_newFunctionEnv (fun x hx h=>by rcases ok2 x hx with q | ⟨q,_⟩ | q <;> rw [h] at q <;> cases q) (by intro y hy;simp at hy) (fun h₁ hns hsb=>?_) ok1)
 dsimp only at hns hsb ⊢
 generalize hH2:s₂.heap.push { cls:=.type "list",dict:=none,data:=.seq ([]:List Value).toArray }=H2 at hns hsb ⊢
 have hz:H2.objs.size=s₂.heap.objs.size+1:=by rw [← hH2,Heap.size_push]
 generalize hD':s₂.heap.objs.size=Dd at hz ⊢
 generalize hC':H2.objs.size=C at hns hsb hz ⊢
 have fresh₂:∀ b,Dd≤b→s₂.heap.get? b=none:=fun b hb=>by
  cases q:s₂.heap.get? b with
  | none=>rfl
  | some o=>have h1:=Heap.lt_size q;rw [hD'] at h1;exact absurd h1 (Nat.not_lt.mpr hb)
 have fresh₁:∀ b,Dd≤b→s₁.heap.get? b=none:=fun b hb=>by
  cases q:s₁.heap.get? b with
  | none=>rfl
  | some o=>have:=B.1 b o (by simp) q;rw [fresh₂ b hb] at this;exact nos this
 have hDC:Dd≠C:=by rw [hz];exact Nat.ne_of_lt (Nat.lt_succ_self _)
 have hD1:s₁.heap.get? Dd=none:=fresh₁ _ (Nat.le_refl _)
 have hC1:s₁.heap.get? C=none:=fresh₁ _ (by rw [hz];exact Nat.le_succ _)
 have hD2:s₂.heap.get? Dd=none:=fresh₂ _ (Nat.le_refl _)
 have hC2:s₂.heap.get? C=none:=fresh₂ _ (by rw [hz];exact Nat.le_succ _)
 have old:∀ b o,s₂.heap.get? b=some o→h₁.get? b=some o:=fun b o q=>hsb.extBut b o (by rintro rfl;rw [hC2] at q;cases q) (Heap.get?_push_of_some _ (hH2▸Heap.get?_push_of_some _ q))
 have hacc:h₁.PlainList Dd #[]:=⟨_,hsb.extBut _ _ hDC (Heap.get?_push_of_some _ (hH2▸hD'▸Heap.get?_push_size _ rfl))⟩
 have nin:∀ {μ:Mu} {s:Shared} {b:Addr},Le noS μ₁ s₁ μ s→s₁.heap.get? b=none→b∉zo μ₁:=fun L h q=>by
  obtain ⟨o,ho,_⟩:=I.mut q;rw [h] at ho;exact nos ho
 have bas:∀ {b:Addr},s₁.heap.get? b=none→X.base.get? b=none:=fun {b} h=>by
  cases q:X.base.get? b with
  | none=>rfl
  | some o=>have:=I.keep b o q;rw [h] at this;exact nos this
 generalize hs3:({ s₂ with heap:=h₁,toks:=s₂.toks+([]:List (Str×Value)).length }:Shared)=s₃
 have hp3:s₃.heap=h₁:=by rw [← hs3]
 have B3:But [] s₁ s₃:=⟨fun b o n q=>by rw [hp3];exact old b o (B.1 b o n q),by rw [← hs3];exact B.2.1,by rw [← hs3];exact B.2.2⟩
 have K3:∀ b o,s₁.heap.get? b=some o→s₃.heap.get? b=some o:=fun b o q=>B3.1 b o (by simp) q
 have I3:Inv X μ₁ hp₁ s₃:=⟨I.len,I.nodup,I.above,fun i p o a b=>(I.rep i p o a b).mono (List.prefix_refl _) (fun b o e _=>K3 b o e) fun b _ o e=>K3 b o e,fun b o q=>K3 b o (I.keep b o q),B3.2.1.trans I.gens,B3.2.2.trans I.os⟩
 have L3:Le noS μ₁ s₁ μ₁ s₃:=.ofKeep K3
 have V3:EnvR X l sc env fr μ₁ s₃.heap:=V.le I L3
 have VC:EnvR X l (sc.inner sp) (compEnvC sp cl C env) (fr++List.replicate (zx sp).length none) μ₁ s₃.heap :=
  Wn ok V3 hcl hcl' (by rw [hp3];simpa using hns) (nin L3 hC1) (bas hC1)
 have st3:St 0 μ₁ s₃.heap:=D.frame 0 μ₁ μ₁ s₂.heap s₃.heap st (List.prefix_refl _) (fun b _ o q=>by rw [hp3];exact old b o q) (fun b o q _=>by rw [hp3];exact old b o q) (fun b o q=>⟨B.1 b o (by simp) (I.keep b o q),K3 b o (I.keep b o q)⟩)
 have T3:Its X s₁.heap μ₁ s₃.heap its:=⟨T.new,T.out,T.base,D.obj 0 μ₁ _ st3⟩
 have loop:codeAny (model prog X.w) A (.compLoop (.ListComp elt [⟨target,iter,ifs,0⟩] sp pos) 0 it (.ref Dd) (compEnvC sp cl C env)) (RR (.ref Dd) C) s₃:=by
  refine Ww (fun m s=>∃ k acc fr' hp' μ' items,yr t test eltx src m k acc cf fr' hp'=.ok vs hp₂∧acc.length≤small∧CS X l (sc.inner sp) (compEnvC sp cl C env) μ₁ s₁ Dd its St k acc fr' hp' μ' items s) ?_ f
   ⟨0,[],_,hp₁,μ₁,#[],e,Nat.zero_le _,I3,L3,VC,by rw [hp3];exact hacc,.nil,nin L3 hD1,T3,st3⟩
  rintro m s ⟨k,acc,fr',hp',μ',items,e,za,S⟩
  cases m with
  | zero=>exact nok e
  | succ m =>
  have e:(match src.next? hp' k with
   | none=>Out.stuck
   | some none=>.ok acc hp'
   | some (some x)=>(match t.bind x fr' with
    | none=>.stuck
    | some fr₁=>(test cf fr₁ hp').bind0 fun b h₁ =>
      if b then (eltx cf fr₁ h₁).bind0 fun v h₂=>if acc.length<small then yr t test eltx src m (k+1) (acc++[v]) cf fr₁ h₂ else .stuck
      else yr t test eltx src m (k+1) acc cf fr₁ h₁))=.ok vs hp₂:=e
  cases hx:src.next? hp' k with
  | none=>rw [hx] at e;exact nok e
  | some ox =>
  rw [hx] at e
  cases ox with
  | none =>
   cases e
   refine D.done R.handled S.I S.st hx fun s' B'=>?_
   have L':=S.T.leR B' S.L
   obtain ⟨n',hl⟩:=S.ac.at fun o q=>B'.1 _ o S.itsD q
   have I':=(S.T.invR B' S.I).adopt S.n (bas hD1) (.list hl za (S.T.vrs B' S.ra))
   obtain ⟨mm,ns,_⟩:=(S.T.envR B' S.V).loc
   refine hRR Dd C mm μ' s' I' ⟨L'.pre.trans (List.prefix_append _ _),fun a ha=>?_,L'.exist,L'.keep⟩ ns (fun h=>?_) (bas hC1) hC1 S.I.len
   ·rw [xf,List.mem_append] at ha
    rcases ha with ha | ha
    ·exact L'.fresh a ha
    ·rw [xg (show a∈[Dd] from ha)];exact .inr hD1
   ·rw [xf,List.mem_append] at h
    rcases h with h | h
    ·exact S.V.nloc h
    ·exact hDC (xg (show C∈[Dd] from h)).symm
  | some x =>
   dsimp only at e
   cases hb:t.bind x fr' with
   | none=>rw [hb] at e;exact nok e
   | some fr₁ =>
    rw [hb] at e
    obtain ⟨b,h1,e1,e⟩:=Out.bind0_ok_of e
    refine D.item R.handled S.I S.T.out S.st hx (fun v s₁ h=>h) fun v s1 rv B1 st1=>?_
    refine qC (cb:=false) ht hb R.handled (fun _=>XC htl) (S.T.invR B1 S.I) (S.T.envR B1 S.V) rv fun s2 L2 I2 V2=>?_
    have S2:=S.turn D B1 st1 hDC hC1 L2 I2 V2
    refine hts _ R I2 V2 (PG.okT e1 fun μ3 s3 L3 I3=>?_)
    have S3:=S2.later D L3 I3
    cases b with
    | false =>
     rw [if_neg Bool.false_ne_true] at e ⊢
     exact ⟨m,Nat.lt_succ_self _,k+1,acc,fr₁,h1,μ3,items,e,za,S3⟩
    | true =>
     rw [if_pos rfl] at e ⊢
     obtain ⟨u,h2,e2,e⟩:=Out.bind0_ok_of e
     refine hel _ R I3 S3.V (PG.okE e2 fun u' μ4 s4 L4 I4 ru=>?_)
     have S4:=S3.later D L4 I4
     by_cases hlt:acc.length<small
     ·rw [if_pos hlt] at e
      have l4:=S4.ra.length
      rw [Array.length_toList] at l4
      refine wpAny_list_append_plain S4.ac (fun h' ac5 hs5=>?_) (by rw [l4];exact y8 (Nat.le_of_lt hlt))
      exact ⟨m,Nat.lt_succ_self _,k+1,acc++[u],fr₁,h2,μ4,items.push u',e,by rw [zT];exact hlt,S4.push D hD1 (bas hD1) ru ac5 hs5⟩
     ·rw [if_neg hlt] at e;exact nok e
 exact codeAny_compStart_list loop (D.self R.handled st3 loop)
end
inductive FlR (X:Cx) (μ:Mu) (h:Heap):AFlow→Flow→Prop
 | next:FlR X μ h .next .next
 | ret {v:AV} {v':Value}:VR X μ h v v'→FlR X μ h (.ret v) (.ret v')
noncomputable def PS (X:Cx) (l:List Env) (sc:Sc) (env:Env) (μ:Mu) (s:Shared) (o:OS) (Q:Flow→Shared→Prop) (E:Value→Shared→Prop):Prop:=match o with
 | .stuck=>False
 | .ok fl fr' hp'=>∀ fl' μ' s',Le (own env) μ s μ' s'→Inv X μ' hp' s'→EnvR X l sc env fr' μ' s'.heap→FlR X μ' s'.heap fl fl'→Q fl' s'
noncomputable def Hd1 (env:Env) (l:List Env):Prop:=∃ outer,l=env::outer∧env.frame=some env.locals
noncomputable def xM (prog:Program) (X:Cx) (n:Nat) (cf:CF) (sc:Sc) (env:Env) (t:Sem Flow) (x:XS):Prop :=
 ∀ {fr:AFr} {hp:Hp} {A:Around} {l:List Env} {μ:Mu} {s:Shared} {Q:Flow→Shared→Prop} {E:Value→Shared→Prop},
  Hd1 env l→Room n A l→Inv X μ hp s→EnvR X l sc env fr μ s.heap→PS X l sc env μ s (x cf fr hp) Q E→wpAny (model prog X.w) A t Q E s
section
variable {prog:Program} {X:Cx} {G:GTab} {n:Nat} {cf:CF} {sc:Sc} {env:Env} {l:List Env}
theorem PS.le {μ μ':Mu} {s s':Shared} {o:OS} {Q:Flow→Shared→Prop} {E:Value→Shared→Prop} (k:PS X l sc env μ s o Q E) (L:Le (own env) μ s μ' s'):PS X l sc env μ' s' o Q E:=by
 cases o with
 | stuck=>exact k
 | ok fl fr hp=>exact fun fl' μ'' s'' L'=>k fl' μ'' s'' (L.trans L')
theorem Le.own {μ μ':Mu} {s s':Shared} (L:Le noS μ s μ' s'):Le (own env) μ s μ' s':=L.weak fun _ h=>h.elim
theorem Jl {h:Heap} {C:Addr} {m:Str→Option Value} {o:Obj} (ns:h.Ns C m) (e:h.get? C=some o):¬ yS o:=by
 obtain ⟨o',es,ep,ho,hd,_⟩:=ns
 rw [e] at ho;cases ho
 rintro (⟨_,xs,n,q⟩ | ⟨_,vs,q⟩) <;> rw [hd] at q <;> cases q
theorem zEm {μ₁ μ:Mu} {hp:Hp} {s₁ s:Shared} {C:Addr} {m:Str→Option Value} {h':Heap} (I:Inv X μ hp s) (L:Le noS μ₁ s₁ μ s) (ns:s.heap.Ns C m) (nC:C∉zo μ) (bC:X.base.get? C=none) (C1:s₁.heap.get? C=none)
  (hsb:Heap.SameBut C s.heap h'):Inv X μ hp { s with heap:=h' }∧Le noS μ₁ s₁ μ { s with heap:=h' }∧(∀ b o,b≠C→s.heap.get? b=some o→h'.get? b=some o)∧(∀ b o,s.heap.get? b=some o→yS o→h'.get? b=some o):=by
 have kp:∀ b o,b≠C→s.heap.get? b=some o→h'.get? b=some o:=fun b o n e=>hsb.extBut b o n e
 have fx:∀ b o,s.heap.get? b=some o→yS o→h'.get? b=some o:=fun b o e f=>kp b o (fun h=>by subst h;exact Jl ns e f) e
 refine ⟨⟨I.len,I.nodup,I.above,fun i p o a b=>(I.rep i p o a b).mono (List.prefix_refl _) fx fun b hb o e=>kp b o (fun h=>nC (by subst h;exact yh.mpr ⟨i,p,a,hb⟩)) e,
  fun b o e=>kp b o (fun h=>by subst h;rw [bC] at e;cases e) (I.keep b o e),I.gens,I.os⟩,⟨L.pre,L.fresh,fun b o e=>?_,fun b o n ns e=>(L.keep b o n ns e).trans fun o' e'=>.inl (kp b o' (fun h=>by subst h;rw [C1] at e;cases e) e')⟩,kp,fx⟩
 obtain ⟨o',e'⟩:=L.exist b o e
 exact ⟨o',kp b o' (fun h=>by subst h;rw [C1] at e;cases e) e'⟩
theorem qB {e:Expr} (h:jH e=true) (x:Value):foldedSetIterable e env x=pure x:=by
 cases e <;> first | rfl | exact nob h
theorem Zm {sp:Scope} (ok:qV sc sp=true):∀ x∈sp.names,x.2=.local→sp.names.lookup x.1=some .local:=fun x hx h=>by
 obtain ⟨_,_,c⟩:=xF ok
 exact ZW c (by rw [← h];exact hx)
theorem Zn {sp:Scope} {fr:AFr} {μ:Mu} {h:Heap} (ok:qV sc sp=true) (V:EnvR X l sc env fr μ h):∀ p∈sp.names,p.2=.free→∃ c,env.cells.lookup p.1=some c:=fun p hp hf=>by
 obtain ⟨_,b,_⟩:=xF ok
 rcases b p hp with q | ⟨_,q1,i,q2⟩ | q
 ·rw [hf] at q;cases q
 ·obtain ⟨c,cv,e,_⟩:=V.cel p.1 i q1 q2;exact ⟨c,e⟩
 ·rw [hf] at q;cases q
theorem JH {elt target iter:Expr} {ifs:List Expr} {sp:Scope} {pos:Pos} {t:NTgt} {test:XT} {eltx itx:XE} (ok:qV sc sp=true) (ht:qM (sc.inner sp) target=some t) (htl:qE sp target=true) (hset:jH iter=true)
  (hts:∀ env',wY prog X n cf (sc.inner sp) env' (forIn ifs true fun c r=>if r=true then do let ok ← isTrue c env' (eval c env');pure (ForInStep.yield ok) else pure (ForInStep.yield r)) test)
  (hel:∀ env',zw prog X n cf (sc.inner sp) env' (eval elt env') eltx) (hit:zw prog X n cf sc env (eval iter env) itx) :
  zw prog X n cf sc env (eval (.ListComp elt [⟨target,iter,ifs,0⟩] sp pos) env) (zj itx (zx sp).length t test eltx):=by
 intro fr hp A l μ s Q E R I V k
 obtain ⟨cl,c0,c1,c2⟩:=Zq (Zn ok V)
 rw [eval_ListComp]
 refine wpAny_comprehension_free (use:=none) rfl (fun x=>qB hset x) c0 (xF ok).1 (Zm ok) (hit R I V (k.bind fun iv iv' h1 μ1 s1 L1 I1 ri k=>?_))
 cases hsrc:yk h1 iv with
 | none=>rw [hsrc] at k;exact k.elim
 | some sn =>
  obtain ⟨src,nn⟩:=sn
  rw [hsrc] at k
  have k:PO X l μ1 s1 ((yr t test eltx src (nn+1) 0 [] cf (fr++List.replicate (zx sp).length none) h1).bind0 fun vs h₂=>.ok (.ref h₂.length) (h₂++[AO.list vs])) Q E:=k
  cases e2:yr t test eltx src (nn+1) 0 [] cf (fr++List.replicate (zx sp).length none) h1 with
  | stuck=>rw [e2] at k;exact k.elim
  | ok vs h2 =>
  rw [e2] at k
  refine j6 (target:=target) hsrc I1 ri fun it its St s2 D T st B=>?_
  refine YQ (RR:=fun acc C=>compPost (model prog X.w) A E none Q acc C) ok ht htl hts hel c1 c2 e2 R I1 (V.le I L1) D T st B fun Dd C m μ' s' I' L' ns nC bC C1 len=>?_
  refine ⟨m,ns,fun h' hsb=>?_⟩
  obtain ⟨J,M,_,_⟩:=zEm I' L' ns nC bC C1 hsb
  exact k _ _ _ M J (.ref (p:=(Dd,none)) (by rw [← len];simp))
theorem PS.bindS {α β:Type} {rel:Mu→Heap→α→β→Prop} {μ:Mu} {s:Shared} {hp:Hp} {fr:AFr} {o:Out α} {f:α→Hp→OS} {Q':β→Shared→Prop} {Q:Flow→Shared→Prop} {E:Value→Shared→Prop} (k:PS X l sc env μ s (o.bindS fr f) Q E) (I:Inv X μ hp s) (V:EnvR X l sc env fr μ s.heap)
  (h:∀ a b hp' μ' s',Le noS μ s μ' s'→Inv X μ' hp' s'→rel μ' s'.heap a b→PS X l sc env μ' s' (f a hp') Q E→Q' b s'):PG rel X l μ s o Q' E:=by
 cases o with
 | stuck=>exact k
 | ok v hp'=>exact fun b μ' s' L I r=>h v b hp' μ' s' L I r (PS.le (o:=f v hp') k L.own)
theorem Out.bind_bindS {α β:Type} {o:Out α} {f:α→Hp→Out β} {fr:AFr} {g:β→Hp→OS}:(o.bind f).bindS fr g=o.bindS fr fun a h=>(f a h).bindS fr g:=by cases o <;> rfl
theorem jz {elt target iter:Expr} {ifs:List Expr} {sp:Scope} {pos px spos:Pos} {t:NTgt} {test:XT} {eltx itx:XE} {x:Str} {okf:Str→Str→Bool} {t':NTgt} (ok:qV sc sp=true) (ht:qM (sc.inner sp) target=some t) (htl:qE sp target=true) (hset:jH iter=true)
  (hts:∀ env',wY prog X n cf (sc.inner sp) env' (forIn ifs true fun c r=>if r=true then do let ok ← isTrue c env' (eval c env');pure (ForInStep.yield ok) else pure (ForInStep.yield r)) test)
  (hel:∀ env',zw prog X n cf (sc.inner sp) env' (eval elt env') eltx) (hit:zw prog X n cf sc env (eval iter env) itx) (hx:qM sc (.Name x px)=some t')
  (hsw:swapsWith (.ListComp elt [⟨target,iter,ifs,0⟩] sp pos) (some (.Name x px)) spos.line env=pure true) :
  xM prog X n cf sc env (exec (.Assign [.Name x px] (.ListComp elt [⟨target,iter,ifs,0⟩] sp pos) spos) env) (z9 okf (.names t') (zj itx (zx sp).length t test eltx)):=by
 intro fr hp A l μ s Q E _ R I V k
 have k:PS X l sc env μ s ((itx cf fr hp).bindS fr fun v h₁=>((match yk h₁ v with
  | none=>Out.stuck
  | some (src,n)=>(yr t test eltx src (n+1) 0 [] cf (fr++List.replicate (zx sp).length none) h₁).bind0 fun vs h₂=>.ok (AV.ref h₂.length) (h₂++[AO.list vs]))).bindS fr fun v h₁=>match t'.bind v fr with
  | some fr₁=>.ok .next fr₁ h₁
  | none=>.stuck) Q E:=by rw [← Out.bind_bindS];exact k
 obtain ⟨cl,c0,c1,c2⟩:=Zq (Zn ok V)
 rw [exec_Assign_Name_used _ _ _ _ hsw]
 refine wpAny_bind (wpAny_standAt (wpAny_bind ?_))
 show wpAny _ A (do let _ ← comprehension (.ListComp elt [⟨target,iter,ifs,0⟩] sp pos) sp env _ (newList []) false (eval iter env) (some (assign (.Name x px) env))) _ _ s
 refine wpAny_bind (wpAny_mono (wpAny_comprehension_free (use:=some (assign (.Name x px) env)) (Q:=fun _ s'=>Q .next s') rfl (fun x=>qB hset x) c0 (xF ok).1 (Zm ok)
  (hit R I V (k.bindS I V fun iv iv' h1 μ1 s1 L1 I1 ri k=>?_))) (fun _ s' hq=>wpAny_pure (wpAny_pure hq)) fun _ _ e=>e)
 cases hsrc:yk h1 iv with
 | none=>rw [hsrc] at k;exact k.elim
 | some sn =>
  obtain ⟨src,nn⟩:=sn
  rw [hsrc] at k
  have k:PS X l sc env μ1 s1 (((yr t test eltx src (nn+1) 0 [] cf (fr++List.replicate (zx sp).length none) h1).bind0 fun vs h₂=>Out.ok (AV.ref h₂.length) (h₂++[AO.list vs])).bindS fr fun v h₁=>match t'.bind v fr with
   | some fr₁=>.ok .next fr₁ h₁
   | none=>.stuck) Q E:=k
  cases e2:yr t test eltx src (nn+1) 0 [] cf (fr++List.replicate (zx sp).length none) h1 with
  | stuck=>rw [e2] at k;exact k.elim
  | ok vs h2 =>
  rw [e2] at k
  have k:PS X l sc env μ1 s1 (match t'.bind (AV.ref h2.length) fr with
   | some fr₁=>.ok .next fr₁ (h2++[AO.list vs])
   | none=>.stuck) Q E:=k
  cases hb:t'.bind (AV.ref h2.length) fr with
  | none=>rw [hb] at k;exact k.elim
  | some fr₁ =>
  rw [hb] at k
  refine j6 (target:=target) hsrc I1 ri fun it its St s2 D T st B=>?_
  have V1:=V.le I L1
  refine YQ (RR:=fun acc C=>compPost (model prog X.w) A E (some (assign (.Name x px) env)) (fun _ s'=>Q .next s') acc C) ok ht htl hts hel c1 c2 e2 R I1 V1 D T st B fun Dd C m μ' s' I' L' ns nC bC C1 len=>?_
  show wpAny _ A (assign (.Name x px) env (.ref Dd)) _ _ _
  have V':=V1.le I1 L'
  have nown:¬ own env C:=fun h=>by
   rcases h with h | ⟨y,h⟩
   ·obtain ⟨m0,⟨o,es,ep,ho,_⟩,_⟩:=V1.loc
    rw [← h,C1] at ho;exact nos ho
   ·obtain ⟨_,cv,o,ho,_⟩:=V1.ncel y C h
    rw [C1] at ho;exact nos ho
  refine qC (cb:=true) hx hb R.handled (fun h=>by cases h) I' V' (.ref (p:=(Dd,none)) (by rw [← len];simp)) fun s3 L3 I3 V3=>?_
  have nsC:s3.heap.Ns C m:=by
   obtain ⟨o,es,ep,ho,hd,r⟩:=ns
   obtain ⟨o',ho',q⟩:=(L3.keep C o nC (fun h=>nown (qL h)) ho).get
   exact ⟨o',es,ep,ho',q.trans hd,r⟩
  have LL:Le (own env) μ1 s1 (μ'++[(Dd,none)]) s3:=L'.own.trans (L3.weak fun _ h=>qL h)
  refine ⟨m,nsC,fun h' hsb=>?_⟩
  have kp:∀ b o,b≠C→s3.heap.get? b=some o→h'.get? b=some o:=fun b o n e=>hsb.extBut b o n e
  have fx:∀ b o,s3.heap.get? b=some o→yS o→h'.get? b=some o:=fun b o e f=>kp b o (fun h=>by subst h;exact Jl nsC e f) e
  have J:Inv X (μ'++[(Dd,none)]) (h2++[.list vs]) { s3 with heap:=h' }:=⟨I3.len,I3.nodup,I3.above,fun i p o a b=>(I3.rep i p o a b).mono (List.prefix_refl _) fx fun b hb o e=>kp b o (fun h=>nC (by subst h;exact yh.mpr ⟨i,p,a,hb⟩)) e,
   fun b o e=>kp b o (fun h=>by subst h;rw [bC] at e;cases e) (I3.keep b o e),I3.gens,I3.os⟩
  have LM:Le (own env) μ1 s1 (μ'++[(Dd,none)]) { s3 with heap:=h' }:=⟨LL.pre,LL.fresh,fun b o e=>by
   obtain ⟨o',e'⟩:=LL.exist b o e
   exact ⟨o',kp b o' (fun h=>by subst h;rw [C1] at e;cases e) e'⟩,fun b o n ns e=>(LL.keep b o n ns e).trans fun o' e'=>.inl (kp b o' (fun h=>by subst h;rw [C1] at e;cases e) e')⟩
  refine k .next _ _ LM J (V3.but (s':={ s3 with heap:=h' }) (fun b o h e=>kp b o (fun hb=>nown (hb▸h)) e) fx fun v hv=>?_) .next
  obtain ⟨_,L1',o1,f1,_,_,g1,_⟩:=V1.frs v hv
  obtain ⟨k1,L3',o3,f3,b3,n3,g3,d3⟩:=V3.frs v hv
  rw [f1] at f3;cases f3
  exact ⟨k1,L1',o3,f1,b3,n3,kp _ _ (fun h=>by rw [h,C1] at g1;cases g1) g3,d3⟩
end
section
variable {prog:Program} {X:Cx} {G:GTab} {n:Nat} {cf:CF} {sc:Sc} {env:Env}
theorem y5 {t:Sem Value}:zw prog X n cf sc env t zr:=by
 exact fun _ _ _ k=>k.elim
theorem qu {t:Sem Bool}:wY prog X n cf sc env t (fun _ _ _=>.stuck):=by
 exact fun _ _ _ k=>k.elim
theorem xW {f:Nat} (h:∀ e,zw prog X n cf sc env (eval e env) (dE G f sc e)):∀ es:List Expr,SndL prog X n cf sc env (evalEach es env) (es.map (dE G f sc))
 | []=>.nil
 | e::es=>.cons (h e) (xW h es)
theorem wc {f:Nat} (h:∀ e,wY prog X n cf sc env (isTrue e env (eval e env)) (dT G f sc e)):∀ es:List Expr,SndTs prog X n cf sc env (es.map fun e=>isTrue e env (eval e env)) (es.map (dT G f sc))
 | []=>.nil
 | e::es=>.cons (h e) (wc h es)
theorem q9 {t:Sem Value} {c:Prop} [Decidable c] {x:XE} (h:c→zw prog X n cf sc env t x):zw prog X n cf sc env t (if c then x else zr):=by
 by_cases q:c
 ·rw [if_pos q];exact h q
 ·rw [if_neg q];exact y5 (cf:=cf)
theorem JM {t:Sem Bool} {c:Prop} [Decidable c] {x:XT} (h:c→wY prog X n cf sc env t x):wY prog X n cf sc env t (if c then x else fun _ _ _=>.stuck):=by
 by_cases q:c
 ·rw [if_pos q];exact h q
 ·rw [if_neg q];exact qu (cf:=cf)
theorem Yc {x:Str} {pos:Pos} (hk:sc.kind x=some .local∨sc.kind x=some .cell∨sc.kind x=some .free) (hd:(x == ("__debug__" : Str))=false) (hc:(x == ("__classdict__" : Str))=false) :
  zw prog X n cf sc env (eval (.Name x pos) env) (match sc.slot x with | some i=>z6 i | none=>zr):=by
 cases hi:sc.slot x with
 | none=>exact y5 (cf:=cf)
 | some i =>
  intro fr hp A l μ s Q E R I V k
  have k:PO X l μ s (match fr[i]? with | some (some v)=>Out.ok v hp | _=>.stuck) Q E:=k
  cases hu:fr[i]? with
  | none=>rw [hu] at k;exact k.elim
  | some o =>
   rw [hu] at k
   cases o with
   | none=>exact k.elim
   | some u=>exact WU hk hi hu I V hd hc k
theorem JD {x:Str} {pos:Pos} (g:Gd X G) (hk:sc.kind x=some .globalImplicit) (hd:(x == ("__debug__" : Str))=false):zw prog X n cf sc env (eval (.Name x pos) env) (zA (G.glob x)):=by
 intro fr hp A l μ s Q E R I V k
 obtain ⟨v,e1,k⟩:=PG.of k
 exact Zg g hk e1 I V hd k
theorem JA {x:Str} {pos:Pos} (g:Gd X G):zw prog X n cf sc env (eval (.Name x pos) env) (z0q G sc x):=by
 unfold z0q
 by_cases hx:(x == ("__debug__" : Str) || x == ("__classdict__" : Str))=true
 ·rw [if_pos hx];exact y5 (cf:=cf)
 ·rw [if_neg hx]
  have hx:=Bool.eq_false_iff.mpr hx
  have hd:(x == ("__debug__" : Str))=false:=(Bool.or_eq_false_iff.mp hx).1
  have hc:(x == ("__classdict__" : Str))=false:=(Bool.or_eq_false_iff.mp hx).2
  cases hk:sc.kind x with
  | none=>exact y5 (cf:=cf)
  | some k =>
   cases k with
   | globalImplicit=>exact JD g hk hd
   | globalExplicit=>exact y5 (cf:=cf)
   | «local» => exact Yc (.inl hk) hd hc
   | cell=>exact Yc (.inr (.inl hk)) hd hc
   | free=>exact Yc (.inr (.inr hk)) hd hc
theorem Wz {f:Expr} {t:Expr×Str×Pos} (e:X8 f=some t):f=.Attribute t.1 t.2.1 t.2.2:=YZ (o:=zB8 f) e
theorem QG {f:Expr} (e:X8 f=none):∀ o name p,f≠.Attribute o name p:=fun o name p h=>by rw [h] at e;exact nos e.symm
theorem ZM {f:Expr} {t:Option Expr×Option Expr×Pos} (e:qW f=some (some t)):f=.Slice t.1 t.2.1 none t.2.2:=by
 obtain ⟨⟨⟨l,u,st,p⟩,q⟩,_,e⟩:=y9 e
 cases st with
 | none=>cases e;exact q
 | some _=>exact nos e
theorem Yh {f:Expr} (e:qW f=none):WF f=true:=by
 cases f <;> first | rfl | exact nos e.symm
theorem WY {c:Const} {kk:Nat} {pos:Pos}:zw prog X n cf sc env (eval (.Constant c kk pos) env) (z0t c):=by
 cases c with
 | none=>exact Yd (cf:=cf)
 | bool b=>exact Ye (cf:=cf)
 | int i=>exact XK (cf:=cf)
 | str x=>exact q9 fun h=>jj (cf:=cf) h
 | _=>exact y5 (cf:=cf)
theorem Jm (g:Gd X G) {μ:Mu} {hp:Hp} {s:Shared} (I:Inv X μ hp s):(s.heap.objs.size == sysModules)=false:=by
 obtain ⟨mg,mb,⟨o,es,ep,ho,_⟩,_⟩:=g.top
 have:=Heap.lt_size (I.keep _ _ ho)
 exact beq_eq_false_iff_ne.mpr (Nat.ne_of_gt (Nat.lt_of_le_of_lt (by decide) this))
theorem JF (g:Gd X G) {pos:Pos}:zw prog X n cf sc env (eval (.Dict [] [] pos) env) z0z:=by
 intro fr hp A l μ s Q E R I V k
 refine wpAny_Dict_empty ?_
 obtain ⟨I',a⟩:=I.new (h':=s.heap.push { cls:=.type "dict",data:=.dict #[] }) (t:=s.toks) (p:=(s.heap.objs.size,none)) (o:=.dict []) (fun b o e=>Heap.get?_push_of_some _ e) (fun b hb=>by rw [wm hb];exact yp _) (List.nodup_cons.mpr ⟨List.not_mem_nil,List.nodup_nil⟩)
  (.dict (prog:=prog) (w:=X.w) (Heap.DictOf.new _) .nil (Jm g I) (Nat.zero_le _))
 exact k.pe _ _ _ a I' (.ref (qh μ _ I.len))
theorem z2g {e:Option Expr} {x:Str} (h:Wi e=some x):∃ k p,e=some (.Constant (.str x) k p)∧x.length≤small:=by
 obtain ⟨e',h1,h⟩:=zY h
 obtain ⟨k,h2,h⟩:=zY h
 obtain ⟨y,h3,h⟩:=zY h
 obtain ⟨z,rfl⟩:=zt h
 exact ⟨k.2.1,k.2.2,by rw [h1,Wv h2,z1j h3],z⟩
theorem XV {pos:Pos}:∀ {ks:List (Option Expr)} {xs:List Str} {vs:List Expr} {ys:List XE},yT Wi ks=some xs→SndL prog X n cf sc env (evalEach vs env) ys→xs.length=vs.length →
  ∃ pairs,(evalEachOpt ks env).zip ((evalEach vs env).map fun v=>do let x ← v;standAt pos;pure x)=pairs.map (fun (p:Sem Value×Sem Value)=>(some p.1,p.2))∧pairs.length=xs.length ∧
   ∀ {fr:AFr} {hp:Hp} {A:Around} {l:List Env} {μ:Mu} {s:Shared} {Q:List (Value×Value)→Shared→Prop} {E:Value→Shared→Prop},Room n A l→Inv X μ hp s→EnvR X l sc env fr μ s.heap →
    PEs X l μ s (evs ys cf fr hp) (fun ws s'=>∀ vs',Carries (strKind prog X.w) vs' (xs.zip ws)→Q vs' s') E→wpAny (model prog X.w) A (evalPairs pairs) Q E s:=by
 intro ks
 induction ks with
 | nil =>
  intro xs vs ys h hy hl
  cases h
  cases vs with
  | cons=>cases hl
  | nil =>
   cases hy
   exact ⟨[],rfl,rfl,fun R I V k=>evalPairs_nil (k [] _ _ .refl I .nil [] trivial)⟩
 | cons e ks ih =>
  intro xs vs ys h hy hl
  obtain ⟨x,xs',h1,h2,rfl⟩:=qP h
  obtain ⟨kk,p,rfl,z⟩:=z2g h1
  cases vs with
  | nil=>cases hl
  | cons v vs =>
   cases hy with
   | @cons _ y _ ys' hy1 hy =>
   obtain ⟨pairs,q1,q2,q3⟩:=ih h2 hy (Nat.succ.inj hl)
   refine ⟨(eval (.Constant (.str x) kk p) env,do let x ← eval v env;standAt pos;pure x)::pairs,?_,congrArg (·+1) q2,fun R I V k=>?_⟩
   ·show (some (eval (.Constant (.str x) kk p) env),(do let x ← eval v env;standAt pos;pure x))::(evalEachOpt ks env).zip ((evalEach vs env).map fun v=>do let x ← v;standAt pos;pure x)=_
    rw [q1];rfl
   ·refine evalPairs_cons (jj (cf:=cf) z R I V fun kv μ1 s1 L1 I1 rk=>?_)
    obtain ⟨t,rfl,_⟩:=rk.str_
    refine wpAny_bind (hy1 R I1 (V.le I L1) (PG.bind (PG.le k L1) fun a b h1 μ2 s2 L2 I2 r k=>wpAny_bind (wpAny_standAt (wpAny_pure ?_))))
    refine q3 R I2 ((V.le I L1).le I1 L2) (PG.bind k fun as bs h2 μ3 s3 L3 I3 rs k=>fun vs' hc=>?_)
    exact k _ _ _ .refl I3 (.cons (r.le I2 L3) rs) _ ⟨beq_self_eq_true x,rfl,hc⟩
theorem Qy {α β:Type}:∀ {xs:List α} {ws:List β},((xs.zip ws).map (·.1)).Sublist xs
 | [],_=>.slnil
 | _::_,[]=>List.nil_sublist _
 | _::_,_::_=>.cons₂ _ Qy
theorem PRs.zip {μ:Mu} {h:Heap}:∀ {xs:List Str} {vs:List AV} {ws:List Value},VRs X μ h vs ws→PRs X μ h (xs.zip vs) (xs.zip ws)
 | [],_,_,_=>.nil
 | _::_,_,_,.nil=>.nil
 | _::_,_,_,.cons a b=>.cons a (PRs.zip b)
theorem JG (g:Gd X G) {pos:Pos} {ks:List (Option Expr)} {xs:List Str} {vs:List Expr} {ys:List XE} (hk:yT Wi ks=some xs) (h0:ks≠[]) (nd:xs.Nodup) (hl:xs.length=vs.length) (hz:xs.length≤15) (hy:SndL prog X n cf sc env (evalEach vs env) ys) :
  zw prog X n cf sc env (eval (.Dict ks vs pos) env) (jw xs ys):=by
 intro fr hp A l μ s Q E R I V k
 obtain ⟨pairs,q1,q2,q3⟩:=XV (pos:=pos) hk hy hl
 have k:PO X l μ s ((evs ys cf fr hp).bind0 fun vs h₁=>.ok (.ref h₁.length) (h₁++[AO.dicS (xs.zip vs)])) Q E:=k
 have hkp:∀ b o,s.heap.get? b=some o→(s.heap.push { cls:=.type "dict",data:=.dict #[] }).get? b=some o:=fun b o e=>Heap.get?_push_of_some _ e
 have L0:Le noS μ s μ { s with heap:=s.heap.push { cls:=.type "dict",data:=.dict #[] } }:=.ofKeep hkp
 have hD:s.heap.objs.size∉zo μ:=fun h=>by
  obtain ⟨o,e,_⟩:=I.mut h
  rw [yp] at e;exact nos e
 have hB:X.base.get? s.heap.objs.size=none:=by
  cases q:X.base.get? s.heap.objs.size with
  | none=>rfl
  | some o=>have:=I.keep _ _ q;rw [yp] at this;exact nos this
 refine wpAny_Dict_pairs (knd:=strKind prog X.w) q1 (fun h=>?_) (by rw [q2];exact hz) (q3 R (I.grow (t:=s.toks) hkp) (V.le I L0) ?_)
 ·rw [h] at q2
  cases ks with
  | nil=>exact h0 rfl
  | cons=>obtain ⟨x,xs',_,_,rfl⟩:=qP hk;cases q2
 cases q:evs ys cf fr hp with
 | stuck=>rw [q] at k;exact k.elim
 | ok as h1 =>
  rw [q] at k
  have k:PE X μ s (.ref h1.length) (h1++[AO.dicS (xs.zip as)]) Q:=k
  intro ws μ1 s1 L1 I1 rs vs' hc
  have g0:s1.heap.get? s.heap.objs.size=some { cls:=.type "dict",data:=.dict #[] }:=(L1.keep _ _ hD (fun h=>h) (Heap.get?_push_size _ rfl)).eq
  refine ⟨xs.zip ws,hc,⟨_,#[],0,g0,⟨rfl,rfl,rfl⟩,rfl,fun _ he=>by simp at he,.nil,List.nodup_nil⟩,fun h' hm hs=>?_⟩
  have L2:=L0.trans L1
  have hD1:s.heap.objs.size∉zo μ1:=fun h=>(L1.fresh _ h).elim hD fun e=>by rw [Heap.get?_push_size _ rfl] at e;exact nos e.symm
  have kp:∀ b o,b≠s.heap.objs.size→s1.heap.get? b=some o→h'.get? b=some o:=fun b o n e=>(hs.2 b n).trans e
  have fx:∀ b o,s1.heap.get? b=some o→yS o→h'.get? b=some o:=fun b o e f=>kp b o (fun h=>by rw [h,g0] at e;cases e;exact Mut.notFixed (.inr (.inr rfl)) f) e
  obtain ⟨I2,L3⟩:=I1.own (S:=fun b=>b=s.heap.objs.size) (s':={ s1 with heap:=h',toks:=s1.toks+vs'.length }) (fun b h=>h▸⟨hD1,hB⟩) (fun b o h e=>⟨fun f=>by rw [h,g0] at e;cases e;exact Mut.notFixed (.inr (.inr rfl)) f,by
   obtain ⟨o',_,_,ho,_⟩:=hm;exact ⟨o',h▸ho⟩⟩) (fun b o n e=>kp b o n e) rfl rfl
  have L4:Le noS μ s μ1 { s1 with heap:=h',toks:=s1.toks+vs'.length }:=L2.fresh1 L3 fun b h=>h▸yp _
  have nz:((xs.zip ws).map (·.1)).Nodup:=nd.sublist Qy
  rw [merged_nil_of_nodup _ nz] at hm
  have I3:=I2.adopt (o:=.dicS (xs.zip as)) hD1 hB (.dicS hm ((PRs.zip rs).mono (List.prefix_refl _) fx) (Jm g I) (Nat.le_trans (by rw [List.length_zip];exact Nat.min_le_left _ _) (Nat.le_trans hz (by decide))))
  refine k _ _ _ ⟨L4.pre.trans (List.prefix_append _ _),fun a ha=>?_,L4.exist,L4.keep⟩ I3 (.ref (qh μ1 _ I1.len))
  rw [xf,List.mem_append] at ha
  rcases ha with ha | ha
  ·exact L4.fresh a ha
  ·refine .inr ?_
   have:a=s.heap.objs.size:=by simpa [zo] using ha
   rw [this];exact yp _
theorem WQ (g:Gd X G) (hcf:SndCF prog X n cf) (f:Nat):(∀ sc env e,zw prog X n cf sc env (eval e env) (dE G f sc e))∧(∀ sc env e,wY prog X n cf sc env (isTrue e env (eval e env)) (dT G f sc e)) ∧
  (∀ sc env o,zw prog X n cf sc env (valueOrNone (evalOpt o env)) (X1 G f sc o)):=by
 induction f with
 | zero=>exact ⟨fun _ _ _=>y5 (cf:=cf),fun _ _ _=>qu (cf:=cf),fun _ _ _=>y5 (cf:=cf)⟩
 | succ f ih =>
  obtain ⟨hE,hT,hO⟩:=ih
  have tv:∀ sc env e,(∀ whole,isTrue e env whole=(do let v ← whole;standAt e.pos;holding [v] (truthy v)))→wY prog X n cf sc env (isTrue e env (eval e env)) (y6 (dE G f sc e)):=fun sc env e h=>JK h (hE _ _ _)
  refine ⟨fun sc env e=>?_,fun sc env e=>?_,fun sc env o=>?_⟩
  ·cases e with
   | Constant c kk pos=>exact WY
   | Name x pos=>exact JA g
   | BoolOp op es pos=>exact QM (xW (hE _ _) es)
   | BinOp l op r pos=>exact z1v (hE _ _ _) (hE _ _ _)
   | UnaryOp op x pos =>
    cases op with
    | Not=>exact z1o (hE _ _ _)
    | USub=>exact z1p (hE _ _ _)
    | _=>exact y5 (cf:=cf)
   | List es pos=>exact q9 fun h=>JC h.1 (by rw [List.length_map];exact h.2) (xW (hE _ _) es)
   | Tuple es kk pos=>exact q9 fun h=>z1m h.1 (by rw [List.length_map];exact h.2) (xW (hE _ _) es)
   | Compare l ops rs pos=>exact q9 fun h=>z1u h (hE _ _ _) (xW (hE _ _) rs)
   | Call fn args kws pos =>
    cases kws with
    | cons _ _=>exact y5 (cf:=cf)
    | nil =>
     refine q9 fun h=>?_
     cases q:X8 fn with
     | none=>exact JI g hcf (QG q) h.1 (hE _ _ _) (xW (hE _ _) args)
     | some t =>
      rw [Wz q]
      exact q9 fun h2=>JB g hcf h2.1 h2.2 h.1 h.2 (hE _ _ _) (xW (hE _ _) args)
   | Dict ks vs pos =>
    cases ks with
    | cons k0 ks0 =>
     show zw prog X n cf sc env _ (match yT Wi (k0::ks0) with
      | some xs=>if xs.Nodup∧xs.length=vs.length∧xs.length≤15 then jw xs (vs.map (dE G f sc)) else zr
      | none=>zr)
     cases q:yT Wi (k0::ks0) with
     | none=>exact y5 (cf:=cf)
     | some xs=>exact q9 fun h=>JG g q (fun h=>by cases h) h.1 h.2.1 h.2.2 (xW (hE _ _) vs)
    | nil=>cases vs with
     | cons _ _=>exact y5 (cf:=cf)
     | nil=>exact JF (cf:=cf) g
   | Attribute o name pos=>exact q9 fun h=>JJ g h (hE _ _ _)
   | Subscript o i pos =>
    show zw prog X n cf sc env _ (match qW i with
     | some q=>(match q with
      | some t=>wn (dE G f sc o) (X1 G f sc t.1) (X1 G f sc t.2.1)
      | none=>zr)
     | none=>zF (dE G f sc o) (dE G f sc i))
    cases q:qW i with
    | none=>exact z1r (Yh q) (hE _ _ _) (hE _ _ _)
    | some r =>
     cases r with
     | none=>exact y5 (cf:=cf)
     | some t=>rw [ZM q];exact z1t (hE _ _ _) (hO _ _ _) (hO _ _ _)
   | ListComp elt gs sp pos =>
    cases gs with
    | nil=>exact y5 (cf:=cf)
    | cons gg gs =>
     cases gs with
     | cons _ _=>exact y5 (cf:=cf)
     | nil =>
      obtain ⟨target,iter,ifs,as⟩:=gg
      refine q9 fun h=>?_
      have h2:as=0:=h.2.1
      subst h2
      show zw prog X n cf sc env _ (match qM (sc.inner sp) target with
       | some t=>zj (dE G f sc iter) (zx sp).length t (zQ .And (ifs.map (dT G f (sc.inner sp)))) (dE G f (sc.inner sp) elt)
       | none=>zr)
      cases ht:qM (sc.inner sp) target with
      | none=>exact y5 (cf:=cf)
      | some t=>exact JH h.1 ht h.2.2.2 h.2.2.1 (fun env'=>wJ (wc (hT _ _) _)) (fun env'=>hE _ _ _) (hE _ _ _)
   | _=>exact y5 (cf:=cf)
  ·cases e with
   | UnaryOp op x pos =>
    cases op with
    | Not=>exact JL (hT _ _ _)
    | _=>exact qu (cf:=cf)
   | BoolOp op es pos=>exact JO (wc (hT _ _) es)
   | IfExp t a b pos=>exact qu (cf:=cf)
   | Compare l ops rs pos=>exact JM fun h=>JN h (hE _ _ _) (xW (hE _ _) rs)
   | _=>exact tv _ _ _ (fun _=>rfl)
  ·cases o with
   | some e'=>exact W7 (fun e' h=>by cases h;exact hE _ _ _) (fun h=>by cases h)
   | none=>exact W7 (cf:=cf) (fun e' h=>by cases h) (fun _=>rfl)
end
section
variable {prog:Program} {X:Cx} {G:GTab} {n:Nat} {cf:CF} {sc:Sc} {env:Env}
theorem FlR.next_ {μ:Mu} {h:Heap} {fl:Flow} (r:FlR X μ h .next fl):fl=.next:=by cases r;rfl
theorem FlR.ret_ {μ:Mu} {h:Heap} {v:AV} {fl:Flow} (r:FlR X μ h (.ret v) fl):∃ v',fl=.ret v'∧VR X μ h v v':=by cases r with | ret q=>exact ⟨_,rfl,q⟩
theorem yz {t:Sem Flow}:xM prog X n cf sc env t yE:=fun _ _ _ _ k=>k.elim
theorem z1n {e₀:Expr} {pos:Pos} {x:XE} (h:zw prog X n cf sc env (eval e₀ env) x):xM prog X n cf sc env (exec (.Return (some e₀) pos) env) (zf x):=fun _ R I V k =>
 wpAny_Return_some (h R I V (k.bindS I V fun v v' _ μ1 s1 L1 I1 r k=>k _ μ1 s1 .refl I1 (V.le I L1) (.ret r)))
theorem J9 {pos:Pos}:xM prog X n cf sc env (exec (.Return none pos) env) (zf (z8 .none)):=fun _ _ I V k =>
 wpAny_Return_none (k _ _ _ .refl I V (.ret .none))
theorem JE {e₀:Expr} {pos:Pos} {x:XE} (hc:swapsWith e₀ none pos.line env=pure false) (h:zw prog X n cf sc env (eval e₀ env) x):xM prog X n cf sc env (exec (.Expr e₀ pos) env) (zN x):=fun _ R I V k =>
 wpAny_Expr_any (h R I V (k.bindS I V fun v v' _ μ1 s1 L1 I1 r k=>k _ μ1 s1 .refl I1 (V.le I L1) .next)) (by unfold interactive;rw [V.fn];rfl) hc
theorem z1q {t:Expr} {a b:List Stmt} {pos:Pos} {x:XT} {y z:XS} (ht:wY prog X n cf sc env (isTrue t env (eval t env)) x) (ha:xM prog X n cf sc env (execs a env) y) (hb:xM prog X n cf sc env (execs b env) z) :
  xM prog X n cf sc env (exec (.If t a b pos) env) (sIf x y z):=fun T R I V k =>
 wpAny_If (ht R I V (k.bindS I V fun c c' _ μ1 s1 L1 I1 e k=>by
  cases e
  cases c with
  | true=>exact ha T R I1 (V.le I L1) k
  | false=>exact hb T R I1 (V.le I L1) k))
theorem WX {f:Nat} (h:∀ st,xM prog X n cf sc env (exec st env) (dS G f sc st)) (sts:List Stmt):xM prog X n cf sc env (execs sts env) (zD (sts.map (dS G f sc))):=by
 induction sts with
 | nil=>exact fun _ _ I V k=>wpAny_execs_nil (k _ _ _ .refl I V .next)
 | cons st sts ih =>
  intro fr hp A l μ s Q E T R I V k
  have k:PS X l sc env μ s (match dS G f sc st cf fr hp with
   | .ok .next fr₁ h₁=>zD (sts.map (dS G f sc)) cf fr₁ h₁
   | o=>o) Q E:=k
  refine wpAny_execs_cons (h st T R I V ?_)
  cases q:dS G f sc st cf fr hp with
  | stuck=>rw [q] at k;exact k.elim
  | ok fl1 fr1 hp1 =>
   rw [q] at k
   cases fl1 with
   | next=>exact fun fl' μ1 s1 L1 I1 V1 r=>by rw [r.next_];exact ih T R I1 V1 (PS.le k L1)
   | ret v =>
    intro fl' μ1 s1 L1 I1 V1 r
    obtain ⟨v',rfl,rv⟩:=r.ret_
    exact k _ μ1 s1 L1 I1 V1 (.ret rv)
theorem wB {t value:Expr} {pos:Pos} {A:Around} {E:Value→Shared→Prop} {s:Shared} {M:Model} {Q:Flow→Shared→Prop} (ht:qN t=true)
  (hs:swapsWith value (some t) pos.line env=pure false) (hw:swappedStores [t] value env=pure none) (h:wpAny M A (eval value env) (fun v s₁=>wpAny M A (assign t env v) (fun _=>Q .next) E s₁) E s) :
  wpAny M A (exec (.Assign [t] value pos) env) Q E s:=by
 have ea:(assignEach [t] env).map (·.2)=[assign t env]:=by cases t <;> first | rfl | cases ht
 refine wpAny_Assign_stores (wpAny_mono h (fun v s₁ h₁=>?_) fun _ _ x=>x) hs hw
 rw [ea]
 exact h₁
theorem Wb {t:Expr} {is:List Nat} (h:qM sc t=some (.many is)):∃ es k p,t=.Tuple es k p:=by
 cases t with
 | Tuple es k p=>exact ⟨es,k,p,rfl⟩
 | Name x p=>obtain ⟨i,_,e⟩:=y9 (show (sc.isOwn x).map NTgt.one=_ from h);cases e
 | _=>exact nos h
theorem xj {target value:Expr} {pos:Pos} {t:NTgt} {x:XE} {okf:Str→Str→Bool} (ht:qM sc target=some t) (hs:swapsWith value (some target) pos.line env=pure false) (hw:swappedStores [target] value env=pure none)
  (h:zw prog X n cf sc env (eval value env) x):xM prog X n cf sc env (exec (.Assign [target] value pos) env) (z9 okf (.names t) x):=by
 intro fr hp A l μ s Q E T R I V k
 refine wB (by cases target <;> first | rfl | cases ht) hs hw (h R I V (PS.bindS k I V fun a v' h1 μ1 s1 L1 I1 r k=>?_))
 have k:PS X l sc env μ1 s1 (match t.bind a fr with
  | some fr₁=>OS.ok .next fr₁ h1
  | none=>.stuck) Q E:=k
 cases hb:t.bind a fr with
 | none=>rw [hb] at k;exact k.elim
 | some fr₁ =>
  rw [hb] at k
  exact qC (cb:=true) ht hb R.handled (fun h=>by cases h) I1 (V.le I L1) r fun s2 L2 I2 V2=>k _ μ1 s2 (L2.weak fun _ h=>qL h) I2 V2 .next
theorem Z0 {o value:Expr} {name:Str} {p pos:Pos} {x y:XE} (g:Gd X G) (hs:swapsWith value (some (.Attribute o name p)) pos.line env=pure false)
  (h:zw prog X n cf sc env (eval value env) x) (ho:zw prog X n cf sc env (eval o env) y):xM prog X n cf sc env (exec (.Assign [.Attribute o name p] value pos) env) (z9 G.okf (.attr y name) x):=by
 intro fr hp A l μ s Q E T R I V k
 refine wB rfl hs rfl (h R I V (PS.bindS k I V fun a v' h1 μ1 s1 L1 I1 r k=>?_))
 rw [assign_Attribute]
 have V1:=V.le I L1
 refine wpAny_bind (wpAny_holding (ho R I1 V1 (PS.bindS (o:=y cf fr h1) k I1 V1 fun ov ov' h2 μ2 s2 L2 I2 ro k=>wpAny_bind (wpAny_standAt (wpAny_bind (wpAny_holding ?_))))))
 cases ov with
 | ref a₀ =>
  have k:PS X l sc env μ2 s2 (match h2[a₀]? with
   | some (.inst c fs)=>if G.okf c name && decide (fs.length<100) then OS.ok .next fr (h2.set a₀ (.inst c (wW name a fs))) else .stuck
   | _=>.stuck) Q E:=k
  cases ha:h2[a₀]? with
  | none=>rw [ha] at k;exact k.elim
  | some o' =>
   rw [ha] at k
   cases o' with
   | list _=>exact k.elim
   | dict _=>exact k.elim
   | dicS _=>exact k.elim
   | inst c fs =>
    have k:PS X l sc env μ2 s2 (if (G.okf c name && decide (fs.length<100))=true then OS.ok .next fr (h2.set a₀ (.inst c (wW name a fs))) else .stuck) Q E:=k
    by_cases hok:(G.okf c name && decide (fs.length<100))=true
    ·rw [if_pos hok] at k
     obtain ⟨ok1,ok2⟩:=Bool.and_eq_true_iff.mp hok
     exact Y3 g I2 (V1.le I1 L2) ro ha (r.le I1 L2) ok1 (of_decide_eq_true ok2) fun s3 L3 I3 V3=>wM (k _ μ2 s3 L3 I3 V3 .next)
    ·rw [if_neg hok] at k;exact k.elim
 | _=>exact k.elim
theorem jy {o i value:Expr} {p pos:Pos} {x y z:XE} {okf:Str→Str→Bool} (hs:swapsWith value (some (.Subscript o i p)) pos.line env=pure false)
  (h:zw prog X n cf sc env (eval value env) x) (ho:zw prog X n cf sc env (eval o env) y) (hi:zw prog X n cf sc env (eval i env) z):xM prog X n cf sc env (exec (.Assign [.Subscript o i p] value pos) env) (z9 okf (.item y z) x):=by
 intro fr hp A l μ s Q E T R I V k
 refine wB rfl hs rfl (h R I V (PS.bindS k I V fun a v' h1 μ1 s1 L1 I1 r k=>?_))
 rw [assign_Subscript]
 have V1:=V.le I L1
 refine wpAny_bind (wpAny_holding (ho R I1 V1 (PS.bindS (o:=y cf fr h1) k I1 V1 fun ov ov' h2 μ2 s2 L2 I2 ro k=>wpAny_bind (wpAny_holding (hi R I2 (V1.le I1 L2) (k.bindS I2 (V1.le I1 L2) fun iv iv' h3 μ3 s3 L3 I3 ri k=>wpAny_bind (wpAny_standAt (wpAny_bind (wpAny_holding ?_)))))))))
 have k:PS X l sc env μ3 s3 (match qH h3 ov iv a with
  | some h₄=>.ok .next fr h₄
  | none=>.stuck) Q E:=k
 cases hst:qH h3 ov iv a with
 | none=>rw [hst] at k;exact k.elim
 | some h4 =>
  rw [hst] at k
  exact Yi hst I3 (ro.le I2 L3) ri ((r.le I1 L2).le I2 L3) fun s4 L4 I4=>wM (k _ μ3 s4 L4.own I4 (((V1.le I1 L2).le I2 L3).le I3 L4) .next)
theorem ZK {o value:Expr} {lo u:Option Expr} {p q pos:Pos} {x y z v:XE} {okf:Str→Str→Bool} (hs:swapsWith value (some (.Subscript o (.Slice lo u none q) p)) pos.line env=pure false)
  (h:zw prog X n cf sc env (eval value env) x) (ho:zw prog X n cf sc env (eval o env) y) (hl:zw prog X n cf sc env (valueOrNone (evalOpt lo env)) z) (hu:zw prog X n cf sc env (valueOrNone (evalOpt u env)) v) :
  xM prog X n cf sc env (exec (.Assign [.Subscript o (.Slice lo u none q) p] value pos) env) (z9 okf (.cut y z v) x):=by
 intro fr hp A l μ s Q E T R I V k
 refine wB rfl hs rfl (h R I V (PS.bindS k I V fun a v' h1 μ1 s1 L1 I1 r k=>?_))
 rw [assign_Subscript]
 have V1:=V.le I L1
 refine wpAny_bind (wpAny_holding (ho R I1 V1 (PS.bindS (o:=y cf fr h1) k I1 V1 fun ov ov' h2 μ2 s2 L2 I2 ro k=>wpAny_bind (wpAny_holding ?_))))
 have V2:=V1.le I1 L2
 show wpAny _ _ (do let l' ← valueOrNone (evalOpt lo env);let u' ← holding [l'] (valueOrNone (evalOpt u env));let st ← holding [l',u'] (valueOrNone (evalOpt none env));newFields "slice" [l',u',st]) _ _ _
 refine wpAny_bind (hl R I2 V2 (PS.bindS (o:=z cf fr h2) k I2 V2 fun b b' h3 μ3 s3 L3 I3 rb k=>wpAny_bind (wpAny_holding (hu R I3 (V2.le I2 L3) (PS.bindS (o:=v cf fr h3) k I3 (V2.le I2 L3) fun c c' h4 μ4 s4 L4 I4 rc k=>wpAny_bind (wpAny_holding (wpAny_pure ?_)))))))
 refine wpAny_newObj_type ?_
 refine wpAny_bind (wpAny_standAt (wpAny_bind (wpAny_holding ?_)))
 have V4:=(V2.le I2 L3).le I3 L4
 have hk:∀ b o,s4.heap.get? b=some o→(s4.heap.push { cls:=.type "slice",data:=.fields #[b',c',.none] }).get? b=some o:=fun b o e=>Heap.get?_push_of_some _ e
 have L5:Le noS μ4 s4 μ4 { s4 with heap:=s4.heap.push { cls:=.type "slice",data:=.fields #[b',c',.none] } }:=.ofKeep hk
 have I5:Inv X μ4 h4 { s4 with heap:=s4.heap.push { cls:=.type "slice",data:=.fields #[b',c',.none] } }:=I4.grow (t:=s4.toks) hk
 have k:PS X l sc env μ4 s4 (match wL h4 ov b c a with
  | some h₅=>.ok .next fr h₅
  | none=>.stuck) Q E:=k
 cases hst:wL h4 ov b c a with
 | none=>rw [hst] at k;exact k.elim
 | some h5 =>
  rw [hst] at k
  exact Yj hst I5 (((ro.le I2 L3).le I3 L4).le I4 L5) ((rb.le I3 L4).le I4 L5) (rc.le I4 L5) ((((r.le I1 L2).le I2 L3).le I3 L4).le I4 L5) (Heap.IsSliceOf.new ..) fun s6 L6 I6=>wM (k _ μ4 s6 (L5.trans L6).own I6 ((V4.le I4 L5).le I5 L6) .next)
end
section
variable {prog:Program} {X:Cx} {G:GTab} {n:Nat} {cf:CF} {sc:Sc} {env:Env}
theorem Q0 {target:Expr} {body:List Stmt} {t:NTgt} {bx:XS} {A:Around} {l:List Env} {s₁ s₂:Shared} {μ₁:Mu} {hp₁:Hp} {fr₁:AFr} {src:Src} {f:Nat} {it:Value} {its:List Addr} {St:Nat→Mu→Heap→Prop}
  {R':Result→Shared→Prop} {E:Value→Shared→Prop} (ht:qM sc target=some t) (hb:xM prog X n cf sc env (execs body env) bx) (H:Hd1 env l) (R:Room n A l) (I:Inv X μ₁ hp₁ s₁) (V:EnvR X l sc env fr₁ μ₁ s₁.heap)
  (D:Drives prog X target src it its St) (T:Its X s₁.heap μ₁ s₂.heap its) (st:St 0 μ₁ s₂.heap) (B:But [] s₁ s₂)
  (k:PS X l sc env μ₁ s₁ (q7 t bx src f 0 cf fr₁ hp₁) (fun f s'=>R' (.ok f) s') E):codeAny (model prog X.w) A (.forLoop target it body [] env) R' s₂:=by
 have K:∀ b o,s₁.heap.get? b=some o→s₂.heap.get? b=some o:=fun b o q=>B.1 b o (by simp) q
 have I2:Inv X μ₁ hp₁ s₂:=⟨I.len,I.nodup,I.above,fun i p o a b=>(I.rep i p o a b).mono (List.prefix_refl _) (fun b o e _=>K b o e) fun b _ o e=>K b o e,fun b o q=>K b o (I.keep b o q),B.2.1.trans I.gens,B.2.2.trans I.os⟩
 have L2:Le noS μ₁ s₁ μ₁ s₂:=.ofKeep K
 refine codeAny_forLoop_any (fun m s=>∃ k fr hp μ,PS X l sc env μ₁ s₁ (q7 t bx src m k cf fr hp) (fun f s'=>R' (.ok f) s') E∧Inv X μ hp s∧EnvR X l sc env fr μ s.heap∧Le (own env) μ₁ s₁ μ s∧Its X s₁.heap μ s.heap its∧St k μ s.heap) ?_ f ⟨0,fr₁,hp₁,μ₁,k,I2,V.le I L2,L2.own,T,st⟩
 rintro m s ⟨kk,fr,hp,μ,k,I,V,L,T,st⟩
 cases m with
 | zero=>exact k.elim
 | succ m =>
 have k:PS X l sc env μ₁ s₁ (match src.next? hp kk with
  | none=>OS.stuck
  | some none=>.ok .next fr hp
  | some (some x)=>(match t.bind x fr with
   | none=>.stuck
   | some fr₁=>(match bx cf fr₁ hp with
    | .ok .next fr₂ h₂=>q7 t bx src m (kk+1) cf fr₂ h₂
    | .ok (.ret v) fr₂ h₂=>.ok (.ret v) fr₂ h₂
    | _=>.stuck))) (fun f s'=>R' (.ok f) s') E:=k
 cases hx:src.next? hp kk with
 | none=>rw [hx] at k;exact k.elim
 | some ox =>
 rw [hx] at k
 cases ox with
 | none =>
  refine D.done R.handled I st hx fun s' B'=>wpAny_execs_nil ?_
  exact k .next μ s' (T.leR B' L) (T.invR B' I) (T.envR B' V) .next
 | some x =>
  dsimp only at k
  cases hbd:t.bind x fr with
  | none=>rw [hbd] at k;exact k.elim
  | some fra =>
   rw [hbd] at k
   dsimp only at k
   refine D.item R.handled I T.out st hx (fun v s₁ h=>h) fun v s1 rv B1 st1=>?_
   have I1:=T.invR B1 I
   have V1:=T.envR B1 V
   have L1:=T.leR B1 L
   have T1:Its X s₁.heap μ s1.heap its:=⟨T.new,T.out,T.base,D.obj _ μ _ st1⟩
   refine qC (cb:=true) ht hbd R.handled (fun h=>by cases h) I1 V1 rv fun s2 L2 I2 V2=>?_
   have L2o:Le (own env) μ s1 μ s2:=L2.weak fun _ h=>qL h
   obtain ⟨T2,k2⟩:=T1.later (fun b o h q=>wP V1 h q) L2o
   have st2:St (kk+1) μ s2.heap:=D.frame _ μ μ s1.heap s2.heap st1 (List.prefix_refl _) (fun b hb o q=>(k2 b hb).trans q) (L2o.fixed I1 (yV V1)) fun b o q=>⟨I1.keep b o q,I2.keep b o q⟩
   refine hb H R I2 V2 ?_
   cases eb:bx cf fra hp with
   | stuck=>rw [eb] at k;exact k.elim
   | ok fl3 fr3 hp3 =>
    rw [eb] at k
    intro fl4 μ3 s3 L3 I3 V3 r3
    have LL:=(L1.trans L2o).trans L3
    cases fl3 with
    | next =>
     rw [r3.next_]
     obtain ⟨T3,k3⟩:=T2.later (fun b o h q=>wP V2 h q) L3
     exact ⟨m,Nat.lt_succ_self _,kk+1,fr3,hp3,μ3,k,I3,V3,LL,T3,D.frame _ μ μ3 s2.heap s3.heap st2 L3.pre (fun b hb o q=>(k3 b hb).trans q) (L3.fixed I2 (yV V2)) fun b o q=>⟨I2.keep b o q,I3.keep b o q⟩⟩
    | ret u =>
     obtain ⟨u',rfl,ru⟩:=r3.ret_
     exact k _ μ3 s3 LL I3 V3 (.ret ru)
theorem z1s {target iter:Expr} {body:List Stmt} {pos:Pos} {t:NTgt} {bx:XS} {itx:XE} (ht:qM sc target=some t) (hset:jH iter=true) (hit:zw prog X n cf sc env (eval iter env) itx) (hb:xM prog X n cf sc env (execs body env) bx) :
  xM prog X n cf sc env (exec (.For target iter body [] pos) env) (qI t itx false bx):=by
 intro fr hp A l μ s Q E H R I V k
 refine wpAny_For (hit R I V (PS.bindS k I V fun iv iv' h1 μ1 s1 L1 I1 ri k=>?_)) (fun x=>qB hset x)
 cases hsrc:yk h1 iv with
 | none=>rw [hsrc] at k;exact k.elim
 | some sn =>
  obtain ⟨src,nn⟩:=sn
  rw [hsrc] at k
  exact j6 (target:=target) hsrc I1 ri fun it its St s2 D T st B=>Q0 ht hb H R I1 (V.le I L1) D T st B k
theorem ZL {t:Sem Flow} {c:Prop} [Decidable c] {x:XS} (h:c→xM prog X n cf sc env t x):xM prog X n cf sc env t (if c then x else yE):=by
 by_cases q:c
 ·rw [if_pos q];exact h q
 ·rw [if_neg q];exact yz (cf:=cf)
theorem qG {t:Sem Flow} {okf:Str→Str→Bool} {x:XE}:xM prog X n cf sc env t (z9 okf .none x):=by
 exact fun _ _ _ _ k=>k.elim
theorem yy {t:Sem Flow} {okf:Str→Str→Bool} {tg:Tgt}:xM prog X n cf sc env t (z9 okf tg zr):=by
 cases tg <;> exact fun _ _ _ _ k=>k.elim
theorem XG {value:Expr} (h:Qg value=false) (t:Option Expr) (line:Nat):swapsWith value t line env=pure false:=by
 cases value <;> first | rfl | exact nob h.symm
theorem z1i (value:Expr) {o:Expr} {x:Str} {p:Pos} (line:Nat):swapsWith value (some (.Attribute o x p)) line env=pure false:=by cases value <;> rfl
theorem W4 (value:Expr) {o i:Expr} {p:Pos} (line:Nat):swapsWith value (some (.Subscript o i p)) line env=pure false:=by cases value <;> rfl
theorem z1h (value:Expr) {es:List Expr} {k:Nat} {p:Pos} (line:Nat):swapsWith value (some (.Tuple es k p)) line env=pure false:=by cases value <;> rfl
theorem QK {value t:Expr} (ht:W5 t value=false):swappedStores [t] value env=pure none:=by
 cases t with
 | Tuple=>cases value <;> first | rfl | exact nob ht.symm
 | List=>exact nob ht.symm
 | _=>rfl
theorem Wm {it e':Expr} (h:xx sc G it=some e'):∃ x p pos,it=.Call (.Name x p) [e'] [] pos∧sc.kind x=some .globalImplicit∧G.glob x=some (.bi .enumerate)∧qN e'=true∧(x == ("__debug__" : Str))=false:=by
 obtain ⟨c,h1,h⟩:=zY h
 obtain ⟨x,h2,h⟩:=zY h
 obtain ⟨a,h3,h⟩:=zY h
 obtain ⟨v,h4,h⟩:=zY h
 obtain ⟨b,h5,h⟩:=zY h
 obtain ⟨⟨q1,q2,q3,q4⟩,h⟩:=zt h
 cases h
 have hb:b=.enumerate:=by cases b <;> first | rfl | cases q1
 have hv:v=.bi b:=by cases v <;> first | (cases h5;rfl) | cases h5
 exact ⟨x.1,x.2,c.2.2,by rw [z0y h1,Jp h2,z23 h3],q2,by rw [h4,hv,hb],q3,q4⟩
theorem WW {h:Hp} {v:AV} {a n:Nat} (e:yk h v=some (.ref a,n)):∃ xs,v=.ref a∧h[a]? = some (.list xs)∧n=xs.length:=by
 cases v with
 | ref b =>
  have e:(match h[b]? with | some (.list xs)=>some (Src.ref b,xs.length) | _=>none)=some (.ref a,n):=e
  cases q:h[b]? with
  | none=>rw [q] at e;exact nos e
  | some o =>
   rw [q] at e
   cases o with
   | inst=>exact nos e
   | dict=>exact nos e
   | dicS=>exact nos e
   | list xs=>cases e;exact ⟨xs,rfl,q,rfl⟩
 | _=>cases e
theorem Yg {target it e':Expr} {body:List Stmt} {pos:Pos} {t:NTgt} {bx:XS} {itx:XE} (g:Gd X G) (ht:qM sc target=some t) (he:xx sc G it=some e')
  (hit:zw prog X n cf sc env (eval e' env) itx) (hb:xM prog X n cf sc env (execs body env) bx):xM prog X n cf sc env (exec (.For target it body [] pos) env) (qI t itx true bx):=by
 intro fr hp A l μ s Q E H R I V k
 obtain ⟨x,p,cpos,rfl,hk,hg,hstar,hdb⟩:=Wm he
 clear he
 refine wpAny_For ?_ (fun x=>qB rfl x)
 rw [WR (fun o name p h=>by cases h),yd env (by simp [hstar]),xe]
 refine wpAny_bind (Zg g hk hg I V hdb fun b' μ0 s0 L0 I0 r0=>?_)
 rw [r0.bi_]
 show wpAny _ _ (callWith cpos (wu .enumerate) [] ([eval e' env].map fun t=>(false,t)) []) _ _ _
 refine jv ?_
 have V0:=V.le I L0
 refine spliced_cons (hit R I0 V0 (PS.bindS (PS.le k L0.own) I0 V0 fun iv iv' h1 μ1 s1 L1 I1 ri k=>spliced_nil ?_))
 cases hsrc:yk h1 iv with
 | none=>rw [hsrc] at k;exact k.elim
 | some sn =>
 obtain ⟨src,nn⟩:=sn
 rw [hsrc] at k
 cases src with
 | imm=>exact k.elim
 | enum=>exact k.elim
 | ref a =>
 cases t with
 | one=>exact k.elim
 | many is =>
 obtain ⟨xs,rfl,ho,rfl⟩:=WW hsrc
 obtain ⟨es,kk,tp,rfl⟩:=Wb ht
 have V1:=V0.le I0 L1
 obtain ⟨c,items,nn',rfl,hm,hl,z,rr⟩:=I1.list_at ri ho
 refine call_enumerate_1 hl fun h' hE hIt hz hk'=>?_
 refine wpAny_pyIter_enum (s:={ s1 with heap:=h' }) hE ?_
 have fr1:∀ b,s1.heap.objs.size≤b→s1.heap.get? b=none:=fun b hb=>by
  cases q:s1.heap.get? b with
  | none=>rfl
  | some o=>exact absurd (Heap.lt_size q) (Nat.not_lt.mpr hb)
 have hne:s1.heap.objs.size+1≠s1.heap.objs.size:=by lia
 have frI:∀ b∈[s1.heap.objs.size+1,s1.heap.objs.size],s1.heap.get? b=none:=fun b hb=>fr1 b (by
  simp at hb
  rcases hb with rfl | rfl
  ·exact Nat.le_succ _
  ·exact Nat.le_refl _)
 have T:Its X s1.heap μ1 h' [s1.heap.objs.size+1,s1.heap.objs.size]:=by
  refine ⟨frI,fun b hb h=>?_,fun b hb=>?_,(Drives.enum (prog:=prog) (X:=X) (elts:=es) (x1:=kk) (pos:=tp) (a:=a) hne).obj 0 μ1 h' ⟨_,_,hm,hIt,hE⟩⟩
  ·obtain ⟨o,ho,_⟩:=I1.mut h
   rw [frI b hb] at ho;exact nos ho
  ·cases q:X.base.get? b with
   | none=>rfl
   | some o=>have:=I1.keep b o q;rw [frI b hb] at this;exact nos this
 exact Q0 (s₂:={ s1 with heap:=h' }) ht hb H R I1 V1 (Drives.enum hne) T ⟨_,_,hm,hIt,hE⟩ ⟨fun b o _ q=>hk' b o q,rfl,rfl⟩ k
theorem z0o (g:Gd X G) (hcf:SndCF prog X n cf) (f:Nat):(∀ sc env st,xM prog X n cf sc env (exec st env) (dS G f sc st))∧(∀ sc env sts,xM prog X n cf sc env (execs sts env) (dSs G f sc sts)):=by
 induction f with
 | zero=>exact ⟨fun _ _ _=>yz (cf:=cf),fun _ _ _=>yz (cf:=cf)⟩
 | succ f ih =>
  obtain ⟨hS,hSs⟩:=ih
  obtain ⟨hE,hT,hO⟩:=WQ g hcf f
  refine ⟨fun sc env st=>?_,fun sc env sts=>WX (hS _ _) sts⟩
  cases st with
  | Return eo pos =>
   cases eo with
   | some e=>exact z1n (hE _ _ _)
   | none=>exact J9 (cf:=cf)
  | Expr e₀ pos=>exact ZL fun h=>JE (XG h _ _) (hE _ _ _)
  | Assign ts e₀ pos =>
   cases ts with
   | nil=>exact yz (cf:=cf)
   | cons t ts =>
   cases ts with
   | cons _ _=>exact yz (cf:=cf)
   | nil =>
    refine ZL fun hsb=>?_
    have hw:=QK (env:=env) hsb
    cases t with
    | Name x px =>
     show xM prog X n cf sc env _ (z9 G.okf (match qM sc (.Name x px) with | some t=>.names t | none=>.none) (dE G f sc e₀))
     cases ht:qM sc (.Name x px) with
     | none=>exact qG (cf:=cf)
     | some t' =>
      cases hc:Qg e₀ with
      | false=>exact xj ht (XG hc _ _) hw (hE _ _ _)
      | true =>
       cases e₀ with
       | ListComp elt gs sp lp =>
        obtain ⟨b,hb⟩:∃ b,swapsWith (.ListComp elt gs sp lp) (some (.Name x px)) pos.line env=pure b:=⟨_,rfl⟩
        cases b with
        | false=>exact xj ht hb hw (hE _ _ _)
        | true =>
        cases f with
        | zero=>exact yy (cf:=cf)
        | succ f =>
        obtain ⟨hE',hT',hO'⟩:=WQ g hcf f
        cases gs with
        | nil=>exact yy (cf:=cf)
        | cons gg gs =>
        cases gs with
        | cons _ _=>exact yy (cf:=cf)
        | nil =>
         obtain ⟨target,iter,ifs,as⟩:=gg
         show xM prog X n cf sc env _ (z9 G.okf (.names t') (if qV sc sp=true∧as=0∧jH iter=true∧qE sp target=true then (match qM (sc.inner sp) target with
          | some t=>zj (dE G f sc iter) (zx sp).length t (zQ .And (ifs.map (dT G f (sc.inner sp)))) (dE G f (sc.inner sp) elt)
          | none=>zr) else zr))
         by_cases h:qV sc sp=true∧as=0∧jH iter=true∧qE sp target=true
         ·rw [if_pos h]
          have h2:as=0:=h.2.1
          subst h2
          cases ht':qM (sc.inner sp) target with
          | none=>exact yy (cf:=cf)
          | some t =>
           exact jz h.1 ht' h.2.2.2 h.2.2.1 (fun env'=>wJ (wc (hT' _ _) _)) (fun env'=>hE' _ _ _) (hE' _ _ _) ht hb
         ·rw [if_neg h];exact yy (cf:=cf)
       | SetComp=>cases f <;> exact yy (cf:=cf)
       | DictComp=>cases f <;> exact yy (cf:=cf)
       | _=>exact nob hc
    | Attribute o name p =>
     show xM prog X n cf sc env _ (z9 G.okf (if qY o=false then .attr (dE G f sc o) name else .none) (dE G f sc e₀))
     by_cases h:qY o=false
     ·rw [if_pos h];exact Z0 g (z1i e₀ _) (hE _ _ _) (hE _ _ _)
     ·rw [if_neg h];exact qG (cf:=cf)
    | Subscript o i p =>
     show xM prog X n cf sc env _ (z9 G.okf (match qW i with
      | some q=>(match q with
       | some t=>.cut (dE G f sc o) (X1 G f sc t.1) (X1 G f sc t.2.1)
       | none=>.none)
      | none=>.item (dE G f sc o) (dE G f sc i)) (dE G f sc e₀))
     cases q:qW i with
     | some r =>
      cases r with
      | none=>exact qG (cf:=cf)
      | some t=>rw [ZM q];exact ZK (W4 e₀ _) (hE _ _ _) (hE _ _ _) (hO _ _ _) (hO _ _ _)
     | none=>exact jy (W4 e₀ _) (hE _ _ _) (hE _ _ _) (hE _ _ _)
    | Tuple es kk p =>
     show xM prog X n cf sc env _ (z9 G.okf (match qM sc (.Tuple es kk p) with | some t=>.names t | none=>.none) (dE G f sc e₀))
     cases ht:qM sc (.Tuple es kk p) with
     | none=>exact qG (cf:=cf)
     | some t'=>exact xj ht (z1h e₀ _) hw (hE _ _ _)
    | List=>cases hsb
    | _ =>
     show xM prog X n cf sc env _ (z9 G.okf .none (dE G f sc e₀))
     exact qG (cf:=cf)
  | If t a b pos=>exact z1q (hT _ _ _) (hSs _ _ _) (hSs _ _ _)
  | For t it b els pos =>
   cases els with
   | cons _ _=>exact yz (cf:=cf)
   | nil =>
    show xM prog X n cf sc env _ (match qM sc t with
     | some t=>(match xx sc G it with
      | some e=>qI t (dE G f sc e) true (dSs G f sc b)
      | none=>if jH it=true then qI t (dE G f sc it) false (dSs G f sc b) else yE)
     | none=>yE)
    cases ht:qM sc t with
    | none=>exact yz (cf:=cf)
    | some t' =>
     dsimp only
     cases he:xx sc G it with
     | some e=>exact Yg g ht he (hE _ _ _) (hSs _ _ _)
     | none=>exact ZL fun h=>z1s ht h (hE _ _ _) (hSs _ _ _)
  | _=>exact yz (cf:=cf)
end
noncomputable def z2i:Value→Bool
 | .none=>true
 | _=>false
noncomputable def yD (s:Scope) (ps:List Str):List Str:=ps++((s.names.filter fun p=>p.2 == .local || p.2 == .cell).map (·.1)).filter fun x=>!ps.contains x
noncomputable def JY (s:Scope) (ps:List Str):Sc where
 kind:=fun x=>s.names.lookup x
 slot:=fun x=>jM x (yD s ps) 0
 width:=(yD s ps).length
noncomputable def yi (fd:FuncData):List Str:=fd.params.args.map (·.arg)
noncomputable def Yx (K:Frag) (fd:FuncData):Bool :=
 fd.params.posonlyargs.isEmpty && fd.params.kwonlyargs.isEmpty && fd.params.vararg.isNone && fd.params.kwarg.isNone && z2i fd.defaults && fd.closure.isEmpty && codeIn K fd.code fd.qualname && fd.scope.kind == .function &&
 !fd.scope.isCoroutine && !fd.scope.isGenerator && fd.globals == mainGlobals && fd.builtins == builtinsNs && (yi fd).Nodup && (yi fd).all (fun x=>fd.scope.names.lookup x == some .local || fd.scope.names.lookup x == some .cell) &&
 fd.scope.names.all fun p=>p.2 == .local || p.2 == .cell || p.2 == .globalImplicit
noncomputable def zEb:Data→Option FuncData
 | .func fd=>some fd
 | _=>none
noncomputable def zCq:FuncBody→Option (List Stmt)
 | .stmts b=>some b
 | _=>none
theorem z2n {d:Data} {fd:FuncData} (h:zEb d=some fd):d=.func fd:=by
 cases d with
 | func=>cases h;rfl
 | _=>exact nos h
theorem z1k {d:FuncBody} {b:List Stmt} (h:zCq d=some b):d=.stmts b:=by
 cases d with
 | stmts=>cases h;rfl
 | _=>exact nos h
noncomputable def z2o (G:GTab) (fd:FuncData) (body:List Stmt):Fn:=⟨(yi fd).length,(yD fd.scope (yi fd)).length,dSs G 60 (JY fd.scope (yi fd)) body⟩
noncomputable def Q1 (G:GTab) (K:Frag) (f:Addr):Option Fn:=(K.lookup f).bind fun o=>(zEb o.data).bind fun fd=>if Yx K fd=true then (zCq fd.body).map (z2o G fd) else none
theorem WN {G:GTab} {K:Frag} {f:Addr} {F:Fn} (h:Q1 G K f=some F):∃ o fd b,K.lookup f=some o∧o.data=.func fd∧Yx K fd=true∧fd.body=.stmts b∧F=z2o G fd b:=by
 obtain ⟨o,h1,h⟩:=zY h
 obtain ⟨fd,h2,h⟩:=zY h
 obtain ⟨h3,h⟩:=ZB h
 obtain ⟨b,h4,h5⟩:=y9 h
 exact ⟨o,fd,b,h1,z2n h2,h3,z1k h4,h5.symm⟩
theorem Y7:∀ (ps:List Str) (vals:List Value),ps.Nodup→vals.length=ps.length→ps.filterMap (fun n=>((ps.zip vals).lookup n).map (n,·))=ps.zip vals:=by
 intro ps vals nd hl
 have key:∀ (qs:List Str) (us:List Value) (pre:List (Str×Value)),us.length=qs.length→qs.Nodup→(∀ x∈qs,pre.lookup x=none)→qs.filterMap (fun n=>((pre++qs.zip us).lookup n).map (n,·))=qs.zip us:=by
  intro qs
  induction qs with
  | nil=>intro us pre h _ _;cases us <;> simp
  | cons q qs ih =>
   intro us pre h nd hp
   cases us with
   | nil=>cases h
   | cons u us =>
    have e:(pre++(q,u)::qs.zip us).lookup q=some u:=by
     rw [List.lookup_append,hp q (.head _)];simp
    rw [List.zip_cons_cons,List.filterMap_cons,e]
    simp only [Option.map_some]
    congr 1
    have:=ih us (pre++[(q,u)]) (by simpa using h) (List.nodup_cons.mp nd).2 (fun x hx=>by
     rw [List.lookup_append,hp x (.tail _ hx)]
     have:(x == q)=false:=by
      simp only [beq_eq_false_iff_ne,ne_eq];rintro rfl;exact (List.nodup_cons.mp nd).1 hx
     simp [List.lookup_cons,this])
    rw [List.append_assoc] at this
    exact this
 exact key ps vals [] hl nd (fun _ _=>rfl)
theorem wF:∀ {ps:List Str} {vals:List Value},vals.length=ps.length→∀ x∈ps,((ps.zip vals).lookup x).isNone=false
 | [],_,_,x,h=>by cases h
 | p::ps,[],h,_,_=>by cases h
 | p::ps,v::vals,h,x,hx=>by
  rw [List.zip_cons_cons,List.lookup_cons]
  split
  ·rfl
  ·rename_i hq
   cases hx with
   | head=>simp at hq
   | tail _ hx=>exact wF (by simpa using h) x hx
theorem Zx {fd:FuncData} {vals:List Value} (h1:fd.params.posonlyargs=[]) (h2:fd.params.kwonlyargs=[]) (h3:fd.params.vararg=none) (h4:fd.params.kwarg=none) (h5:fd.defaults=.none) (nd:(yi fd).Nodup)
  (hl:vals.length=(yi fd).length):bindArgs fd ⟨vals,[]⟩=pure ((yi fd).zip vals):=by
 have hz:=Y7 (yi fd) vals nd hl
 have hm:(yi fd).filter (fun n=>(((yi fd).zip vals).lookup n).isNone)=[]:=List.filter_eq_nil_iff.mpr fun x hx=>by rw [wF hl x hx];simp
 obtain ⟨nm,q,⟨po,ar,va,ko,kd,kw,df⟩,bd,sc,gl,cl,d,kdf,doc,pm,an,cd,ct,bl⟩:=fd
 dsimp only at h1 h2 h3 h4 h5
 subst h1 h2 h3 h4 h5
 have hm:(ar.map Arg.arg).filter (fun n=>(((ar.map Arg.arg).zip vals).lookup n).isNone)=[]:=hm
 have hz:(ar.map Arg.arg).filterMap (fun n=>(((ar.map Arg.arg).zip vals).lookup n).map (n,·))=(ar.map Arg.arg).zip vals:=hz
 have hl:vals.length=(ar.map Arg.arg).length:=hl
 show _=pure ((ar.map Arg.arg).zip vals)
 refine Eq.trans (b:=ite ((decide (vals.length > (([]:List Str)++ar.map Arg.arg).length) && (none:Option Arg).isNone)=true) _ _) rfl ?_
 refine (if_neg (by rw [hl];simp)).trans ?_
 have e0:List.drop (([]:List Value).length - (([]:List Str)++ar.map Arg.arg).length) ([]:List Value)=[]:=List.drop_nil
 refine Eq.trans (b:=ite ((!(((([]:List Str)++ar.map Arg.arg).take ((([]:List Str)++ar.map Arg.arg).length - (List.drop (([]:List Value).length - (([]:List Str)++ar.map Arg.arg).length) ([]:List Value)).length)).filter (fun n=>(((ar.map Arg.arg).zip vals).lookup n).isNone)).isEmpty)=true) _ _) rfl ?_
 refine (if_neg ?_).trans ?_
 ·rw [e0];show ¬ (!(List.filter _ (List.take (ar.map Arg.arg).length (ar.map Arg.arg))).isEmpty)=true
  rw [List.take_length,hm];simp
 refine Eq.trans (b:=(forIn (m:=Sem) ((List.drop ((([]:List Str)++ar.map Arg.arg).length - (List.drop (([]:List Value).length - (([]:List Str)++ar.map Arg.arg).length) ([]:List Value)).length) (([]:List Str)++ar.map Arg.arg)).zip (List.drop (([]:List Value).length - (([]:List Str)++ar.map Arg.arg).length) ([]:List Value))) ((ar.map Arg.arg).zip vals) _ >>= _)) rfl ?_
 rw [e0,List.zip_nil_right]
 refine Eq.trans (b:=(pure ((ar.map Arg.arg++[]).filterMap (fun n=>(((ar.map Arg.arg).zip vals).lookup n).map (n,·))):Sem _)) rfl ?_
 rw [List.append_nil,hz]
theorem YV {kd:Str→Option NameKind} {x:Str}:∀ {ps:List Str} {vals:List Value} {m:Str→Option Value},x∉ps→bindL kd (ps.zip vals) m x=m x
 | [],vals,m,_=>by simp [bindL]
 | p::ps,[],m,_=>by simp [bindL]
 | p::ps,v::vals,m,h=>by
  rw [List.zip_cons_cons,bindL,YV (fun q=>h (.tail _ q))]
  split
  ·exact if_neg (fun (q:x=p)=>h (q▸.head _))
  ·rfl
theorem QC {kd:Str→Option NameKind} {x:Str} (hk:kd x=some .local):∀ {ps:List Str} {vals:List Value} {m:Str→Option Value} {i:Nat} {v:Value},ps.Nodup→ps[i]? = some x→vals[i]? = some v→bindL kd (ps.zip vals) m x=some v
 | [],_,_,_,_,_,h,_=>by cases h
 | p::ps,[],_,_,_,_,_,h=>by cases h
 | p::ps,u::vals,m,0,v,nd,h1,h2=>by
  cases h1;cases h2
  rw [List.zip_cons_cons,bindL,YV (List.nodup_cons.mp nd).1,if_pos hk];simp
 | p::ps,u::vals,m,i+1,v,nd,h1,h2=>by
  rw [List.zip_cons_cons,bindL]
  exact QC hk (List.nodup_cons.mp nd).2 (i:=i) h1 h2
theorem YW {kd:Str→Option NameKind} {x:Str}:∀ {ps:List Str} {vals:List Value} {m:Str→Option Value},x∉ps→bindC kd (ps.zip vals) m x=m x
 | [],vals,m,_=>by simp [bindC]
 | p::ps,[],m,_=>by simp [bindC]
 | p::ps,v::vals,m,h=>by
  rw [List.zip_cons_cons,bindC,YW (fun q=>h (.tail _ q))]
  split
  ·rfl
  ·exact if_neg (fun (q:x=p)=>h (q▸.head _))
theorem QD {kd:Str→Option NameKind} {x:Str} (hk:kd x≠some .local):∀ {ps:List Str} {vals:List Value} {m:Str→Option Value} {i:Nat} {v:Value},ps.Nodup→ps[i]? = some x→vals[i]? = some v→bindC kd (ps.zip vals) m x=some v
 | [],_,_,_,_,_,h,_=>by cases h
 | p::ps,[],_,_,_,_,_,h=>by cases h
 | p::ps,u::vals,m,0,v,nd,h1,h2=>by
  cases h1;cases h2
  rw [List.zip_cons_cons,bindC,YW (List.nodup_cons.mp nd).1,if_neg hk];simp
 | p::ps,u::vals,m,i+1,v,nd,h1,h2=>by
  rw [List.zip_cons_cons,bindC]
  exact QD hk (List.nodup_cons.mp nd).2 (i:=i) h1 h2
theorem xu {x:Str}:∀ {names:List (Str×NameKind)} {k:Nat} {acc:List (Str×Addr)},((x,NameKind.cell)∈names∨∃ c,acc.lookup x=some c)→∃ c,(cellsFrom k names acc).lookup x=some c
 | [],k,acc,h=>by
  rcases h with h | h
  ·cases h
  ·exact h
 | (n,kd)::r,k,acc,h=>by
  unfold cellsFrom
  split
  ·refine xu ?_
   rcases h with h | ⟨c,h⟩
   ·cases h with
    | head=>exact .inr ⟨k,by simp⟩
    | tail _ h=>exact .inl h
   ·refine .inr ?_
    rw [List.lookup_cons]
    split
    ·exact ⟨_,rfl⟩
    ·exact ⟨c,h⟩
  ·rename_i hk
   refine xu ?_
   rcases h with h | h
   ·cases h with
    | head=>exact absurd rfl hk
    | tail _ h=>exact .inl h
   ·exact .inr h
structure FnGood (K:Frag) (fd:FuncData):Prop where
 p1:fd.params.posonlyargs=[]
 p2:fd.params.kwonlyargs=[]
 p3:fd.params.vararg=none
 p4:fd.params.kwarg=none
 p5:fd.defaults=.none
 clo:fd.closure=[]
 code:codeIn K fd.code fd.qualname=true
 kind:fd.scope.kind=.function
 co:fd.scope.isCoroutine=false
 gen:fd.scope.isGenerator=false
 glob:fd.globals=mainGlobals
 bltn:fd.builtins=builtinsNs
 nd:(yi fd).Nodup
 par:∀ x∈yi fd,fd.scope.names.lookup x=some .local∨fd.scope.names.lookup x=some .cell
 names:∀ p∈fd.scope.names,p.2=.local∨p.2=.cell∨p.2=.globalImplicit
theorem Wp {K:Frag} {fd:FuncData} (h:Yx K fd=true):FnGood K fd:=by
 unfold Yx at h
 simp only [Bool.and_eq_true,List.isEmpty_iff,Option.isNone_iff_eq_none,beq_iff_eq,Bool.not_eq_true',decide_eq_true_eq,List.all_eq_true,Bool.or_eq_true] at h
 obtain ⟨⟨⟨⟨⟨⟨⟨⟨⟨⟨⟨⟨⟨⟨h1,h2⟩,h3⟩,h4⟩,h5⟩,h6⟩,h7⟩,h8⟩,h9⟩,h10⟩,h11⟩,h12⟩,h13⟩,h14⟩,h15⟩:=h
 refine ⟨h1,h2,h3,h4,?_,h6,h7,h8,h9,h10,h11,h12,h13,h14,fun p hp=>?_⟩
 ·cases q:fd.defaults <;> rw [q] at h5 <;> first | rfl | cases h5
 ·rcases h15 p hp with (h | h) | h
  ·exact .inl h
  ·exact .inr (.inl h)
  ·exact .inr (.inr h)
section
variable {prog:Program} {X:Cx} {G:GTab} {n:Nat} {cf:CF} {A:Around} {E:Value→Shared→Prop} {s s':Shared} {μ:Mu} {hp hp':Hp} {Q:Value→Shared→Prop} {l:List Env}
theorem z2q {K:Frag} {fd:FuncData} {f:Addr} {args:List AV} {args':List Value} (H:FnGood K fd) (I:Inv X μ hp s) (ra:VRs X μ s.heap args args') (hl:args.length=(yi fd).length) (F:Frs X l μ s.heap)
  (x:InCallC s (callEnvC fd s.heap.objs.size f).locals (bindL (callEnvC fd s.heap.objs.size f).kindOf ((yi fd).zip args') fun _=>none) (callEnvC fd s.heap.objs.size f).cells
    (bindC (callEnvC fd s.heap.objs.size f).kindOf ((yi fd).zip args') fun _=>none) s') :
  EnvR X (callEnvC fd s.heap.objs.size f::l) (JY fd.scope (yi fd)) (callEnvC fd s.heap.objs.size f) (args.map some++List.replicate ((yD fd.scope (yi fd)).length - (yi fd).length) none) μ s'.heap∧(∀ b,own (callEnvC fd s.heap.objs.size f) b→s.heap.get? b=none) ∧
   Inv X μ hp s'∧Le noS μ s μ s':=by
 obtain ⟨⟨⟨h₁,tk,e₁⟩,ns,kp,fr⟩,cel,ap,ab⟩:=x
 have eL:(callEnvC fd s.heap.objs.size f).locals=s.heap.objs.size:=rfl
 have eC:(callEnvC fd s.heap.objs.size f).cells=cellsFrom (s.heap.objs.size+1) fd.scope.names []:=rfl
 have fresh:∀ b,s.heap.objs.size≤b→s.heap.get? b=none:=fun b hb=>by
  cases q:s.heap.get? b with
  | none=>rfl
  | some o=>exact absurd (Heap.lt_size q) (Nat.not_lt.mpr hb)
 have fown:∀ b,own (callEnvC fd s.heap.objs.size f) b→s.heap.get? b=none:=fun b h=>by
  rcases h with rfl | ⟨x,hx⟩
  ·exact fresh _ (Nat.le_refl _)
  ·exact fresh _ (Nat.le_of_lt (ab x b (mem_of_lookup hx)))
 have nin:∀ b,s.heap.get? b=none→b∉zo μ:=fun b h q=>by
  obtain ⟨o,ho,_⟩:=I.mut q;rw [h] at ho;exact nos ho
 have bas:∀ b,s.heap.get? b=none→X.base.get? b=none:=fun b h=>by
  cases q:X.base.get? b with
  | none=>rfl
  | some o=>have:=I.keep b o q;rw [h] at this;exact nos this
 have I':Inv X μ hp s':=by rw [e₁] at kp ⊢;exact I.grow kp
 have L':Le noS μ s μ s':=.ofKeep kp
 have rl:∀ {x:AV} {v:Value},VR X μ s.heap x v→VR X μ s'.heap x v:=fun r=>r.le I L'
 have lens:=ra.length
 have sl:∀ x i,(JY fd.scope (yi fd)).slot x=some i→i<(yD fd.scope (yi fd)).length∧(yD fd.scope (yi fd))[i]? = some x:=fun x i h=>by
  obtain ⟨_,b,c⟩:=Zf (show jM x (yD fd.scope (yi fd)) 0=some i from h)
  exact ⟨by lia,by simpa using c⟩
 have val:∀ {i:Nat} {v:AV},(args.map some++List.replicate ((yD fd.scope (yi fd)).length - (yi fd).length) none)[i]? = some (some v)→∃ v',args'[i]? = some v'∧VR X μ s.heap v v'∧i<(yi fd).length:=by
  intro i v h
  by_cases hi:i<args.length
  ·rw [List.getElem?_append_left (by simpa using hi),List.getElem?_map] at h
   obtain ⟨a,h1,h2⟩:=y9 h
   cases h2
   obtain ⟨v',e,r⟩:=ra.get h1
   exact ⟨v',e,r,by lia⟩
  ·rw [List.getElem?_append_right (by simpa using hi),List.getElem?_replicate] at h
   split at h <;> cases h
 have nam:∀ {i:Nat} {x:Str},i<(yi fd).length→(yD fd.scope (yi fd))[i]? = some x→(yi fd)[i]? = some x:=by
  intro i x hi h
  unfold yD at h
  rwa [List.getElem?_append_left hi] at h
 refine ⟨⟨H.kind,H.glob,H.bltn,fun x=>rfl,⟨_,ns,fun x i v h1 h2 h3=>?_⟩,fun x i h1 h2=>?_,nin _ (fresh _ (Nat.le_refl _)),bas _ (fresh _ (Nat.le_refl _)),fun x c hc=>⟨nin _ (fown _ (.inr ⟨x,hc⟩)),_,cel x c hc⟩,fun x c hc=>bas _ (fown _ (.inr ⟨x,hc⟩)),
  fun x y c h1 h2=>name_of_addr ap (mem_of_lookup h1) (mem_of_lookup h2),fun x y i h1 h2=>?_,?_,fun x i h=>(sl x i h).1,fun v hv=>?_⟩,fown,I',L'⟩
 rotate_right
 ·cases hv with
  | head =>
   obtain ⟨o,es,ep,ho,hd,_⟩:=ns
   exact ⟨by show fd.scope.kind≠.module;rw [H.kind];decide,_,o,rfl,bas _ (fresh _ (Nat.le_refl _)),nin _ (fresh _ (Nat.le_refl _)),ho,Ze hd⟩
  | tail _ hv=>exact F.le L' v hv
 ·obtain ⟨v',e,r,hi⟩:=val h3
  exact ⟨v',QC (show (callEnvC fd s.heap.objs.size f).kindOf x=some .local from h1) H.nd (nam hi (sl x i h2).2) e,rl r⟩
 ·have hcell:fd.scope.names.lookup x=some .cell:=by
   rcases h1 with h | h
   ·exact h
   ·have:=H.names _ (mem_of_lookup h)
    rcases this with q | q | q <;> cases q
  obtain ⟨c,hc⟩:=xu (k:=s.heap.objs.size+1) (acc:=[]) (.inl (mem_of_lookup hcell))
  refine ⟨c,_,hc,cel x c hc,fun v hv=>?_⟩
  obtain ⟨v',e,r,hi⟩:=val hv
  exact ⟨v',QD (show (callEnvC fd s.heap.objs.size f).kindOf x≠some .local from fun q=>by rw [show (callEnvC fd s.heap.objs.size f).kindOf x=some .cell from hcell] at q;cases q) H.nd (nam hi (sl x i h2).2) e,rl r⟩
 ·have a:=(sl x i h1).2
  have b:=(sl y i h2).2
  rw [a] at b;cases b;rfl
 ·show _=(yD fd.scope (yi fd)).length
  have:(yi fd).length≤(yD fd.scope (yi fd)).length:=by unfold yD;rw [zT];exact Nat.le_add_right _ _
  rw [zT,List.length_map,List.length_replicate,hl];lia
theorem Zh {f:Addr} {F:Fn} {args:List AV} {args':List Value} (g:Gd X G) (hcf:SndCF prog X n cf) (hF:Q1 G X.K f=some F) (hd:A.depth+2 * n+3<recursionLimit) (hu:A.units+100 * n+303<cLine) (hh:A.handled=none) (hfr:A.frames=some l) (Fr:Frs X l μ s.heap)
  (I:Inv X μ hp s) (ra:VRs X μ s.heap args args') {R:Result→Shared→Prop} (k:PO X l μ s (yf F cf args hp) (fun v s'=>R (.ok (.ret v)) s') (fun e s'=>R (.error e) s')):codeAny (model prog X.w) A (.call (.ref f) ⟨args',[]⟩) R s:=by
 obtain ⟨o,fd,body,ho,hdt,hg,hbody,rfl⟩:=WN hF
 have H:=Wp hg
 by_cases hl:args.length=(yi fd).length
 ·rw [show yf (z2o G fd body) cf args hp=_ from if_pos hl] at k
  have lens:=ra.length
  have hbind:=Zx (vals:=args') H.p1 H.p2 H.p3 H.p4 H.p5 H.nd (by lia)
  have hk:∀ y∈(yi fd).zip args',fd.scope.names.lookup y.1=some .local∨(fd.scope.names.lookup y.1=some .cell∧((cellsFrom (s.heap.objs.size+1) fd.scope.names []).lookup y.1).isSome=true):=fun y hy=>by
   rcases H.par y.1 (List.of_mem_zip hy).1 with q | q
   ·exact .inl q
   ·obtain ⟨c,hc⟩:=xu (k:=s.heap.objs.size+1) (acc:=[]) (.inl (mem_of_lookup q))
    exact .inr ⟨q,by rw [hc];rfl⟩
  refine codeAny_call_cells (by lia) (I.kin g.K _ _ ho) hdt (g.lim.keeps I.keep) (codeRec_of (I.kin g.K) H.code) hbody hbind H.clo hk (fun s₁ x=>?_) H.co H.gen H.kind
  obtain ⟨V1,fo,I1,L1⟩:=z2q H I ra hl Fr x
  have R1:Room n (A.deeper (callEnvC fd s.heap.objs.size f)) (callEnvC fd s.heap.objs.size f::l):=⟨Around.frames_deeper hfr,by show A.depth+1+2 * n+2<_;lia,by show A.units+3+100 * n+300<_;lia,hh⟩
  have fin:∀ {μ':Mu} {s':Shared},Le (own (callEnvC fd s.heap.objs.size f)) μ s₁ μ' s'→Le noS μ s μ' s':=fun L=>L1.fresh1 L fo
  refine (z0o g hcf 60).2 _ _ _ ⟨l,rfl,rfl⟩ R1 I1 V1 ?_
  have k:PO X l μ s (match dSs G 60 (JY fd.scope (yi fd)) body cf (args.map some++List.replicate ((yD fd.scope (yi fd)).length - (yi fd).length) none) hp with
   | .ok (.ret v) _ h'=>.ok v h'
   | .ok .next _ h'=>.ok .none h'
   | .stuck=>.stuck) (fun v s'=>R (.ok (.ret v)) s') (fun e s'=>R (.error e) s'):=k
  cases eb:dSs G 60 (JY fd.scope (yi fd)) body cf (args.map some++List.replicate ((yD fd.scope (yi fd)).length - (yi fd).length) none) hp with
  | stuck=>rw [eb] at k;exact k.elim
  | ok fl fr2 hp2 =>
   rw [eb] at k
   intro fl' μ' s' L' I' V' r'
   cases fl with
   | ret u =>
    obtain ⟨u',rfl,ru⟩:=r'.ret_
    exact k _ μ' s' (fin L') I' ru
   | next =>
    rw [r'.next_]
    exact k _ μ' s' (fin L') I' .none
 ·rw [show yf (z2o G fd body) cf args hp=_ from if_neg hl] at k;exact k.elim
end
noncomputable def z16:List (Str×Bi):=[("len",.len),("isinstance",.isinstance),("int",.int),("bool",.bool),("str",.str),("list",.list),("range",.range),("min",.min),("max",.max),("any",.any),("all",.all),("enumerate",.enumerate),("tuple",.tuple)]
theorem z15:∀ p∈z16,bootBuiltins p.1=some (wu p.2)∧p.1 ≠ "__name__" := by
 have h:z16.all (fun p=>bootBuiltins p.1 == some (wu p.2) && p.1 != "__name__")=true:=by decide +kernel
 intro p hp
 have:=List.all_eq_true.mp h p hp
 simp only [Bool.and_eq_true,beq_iff_eq,bne_iff_ne] at this
 exact this
noncomputable def zBf:Value→Option Addr
 | .ref a=>some a
 | _=>none
theorem WC {v:Value} {a:Addr} (h:zBf v=some a):v=.ref a:=by
 cases v with
 | ref=>cases h;rfl
 | _=>exact nos h
noncomputable def nsR (K:Frag) (x:Str):Option Addr:=(nsIn K mainGlobals x).bind fun o=>o.bind zBf
theorem QU {K:Frag} {x:Str} {C:Addr} (h:nsR K x=some C):nsIn K mainGlobals x=some (some (.ref C)):=by
 obtain ⟨o,h1,h⟩:=zY h
 obtain ⟨v,h2,h⟩:=zY h
 rw [h1,h2,WC h]
noncomputable def zC3:Data→Option Bool
 | .func _=>some true
 | .cls _=>some false
 | _=>none
noncomputable def zB2 (K:Frag) (x:Str):Value→Option AV
 | .ref f=>(K.lookup f).bind fun o=>(zC3 o.data).map fun b=>if b=true then .fn x else .cls x
 | .int i _=>some (.int i)
 | .str s _=>if s.length≤small then some (.str s) else none
 | _=>none
noncomputable def Qi (K:Frag) (x:Str):Option AV:=match nsIn K mainGlobals x with
 | some o=>(match o with
  | some v=>zB2 K x v
  | none=>(z16.lookup x).map .bi)
 | none=>none
noncomputable def zCw (K:Frag) (c name:Str):Bool:=match nsR K c with
 | some C=>xt K C && wj K C name
 | none=>false
noncomputable def gOf (K:Frag):GTab:=⟨Qi K,zCw K⟩
noncomputable def yL (K:Frag):Tab where
 what:=fun x=>(nsR K x).bind fun f=>(K.lookup f).bind fun o=>(zC3 o.data).bind fun b=>match b with
  | true=>(Q1 (gOf K) K f).map .fn
  | false=>if (makesIn K f && xt K f)=true then some .cls else none
 meth:=fun c x=>(nsR K c).bind fun C=>(findIn K (.ref C) x).bind fun o=>o.bind fun v=>(zBf v).bind fun f=>if (typeIn K (.ref f) == some (.type "function"))=true then Q1 (gOf K) K f else none
theorem zEa {X:Cx} (hK:X.K.In X.base) (top:∃ mg mb,X.base.Ns mainGlobals mg∧X.base.Ns builtinsNs mb∧∀ x:Str,x ≠ "__name__" → mb x=bootBuiltins x) (lim:X.base.NoLimit):Gd X (gOf X.K) where
 K:=hK
 top:=top
 lim:=lim
 glob:=by
  intro x v h
  have h:Qi X.K x=some v:=h
  unfold Qi at h
  cases hn:nsIn X.K mainGlobals x with
  | none=>rw [hn] at h;exact nos h
  | some o =>
   rw [hn] at h
   cases o with
   | none =>
    obtain ⟨b,hb,rfl⟩:=y9 h
    obtain ⟨q1,q2⟩:=z15 _ (qQ hb)
    exact ⟨wu b,.inr ⟨rfl,q1,q2⟩,fun μ h=>.bi b⟩
   | some c =>
    refine ⟨c,.inl rfl,?_⟩
    have h:zB2 X.K x c=some v:=h
    cases c with
    | int i t=>cases h;exact fun μ h=>.int _ _
    | str y t =>
     obtain ⟨z,rfl⟩:=zt (show (if y.length≤small then some (AV.str y) else none)=some v from h)
     exact fun μ h=>.str _ z
    | ref f =>
     obtain ⟨o,ho,h⟩:=zY (show ((X.K.lookup f).bind fun o=>(zC3 o.data).map fun b=>if b=true then AV.fn x else .cls x)=some v from h)
     obtain ⟨b,hb,rfl⟩:=y9 h
     cases b with
     | true=>exact fun μ h=>.fn hn
     | false=>exact fun μ h=>.cls hn
    | _=>exact nos h
 okf:=by
  intro c name h
  have h:(match nsR X.K c with
   | some C=>xt X.K C && wj X.K C name
   | none=>false)=true:=h
  cases q:nsR X.K c with
  | none=>rw [q] at h;exact nob h
  | some C=>rw [q] at h;exact ⟨C,QU q,Bool.and_eq_true_iff.mp h⟩
theorem YM {G:GTab} {K:Frag} {f:Addr} {F:Fn} (h:Q1 G K f=some F):keepIn K (.ref f)=true:=by
 obtain ⟨⟨oc,od,dd,sl⟩,fd,b,h1,h2,_⟩:=WN h
 cases h2
 unfold keepIn
 dsimp only
 rw [h1]
theorem W1 {K:Frag} {x:Str} {wt:What} (h:(yL K).what x=some wt):∃ f,nsIn K mainGlobals x=some (some (.ref f))∧((∃ F,Q1 (gOf K) K f=some F∧wt=.fn F)∨(makesIn K f=true∧xt K f=true∧wt=.cls)):=by
 obtain ⟨f,h1,h⟩:=zY h
 obtain ⟨o,h2,h⟩:=zY h
 obtain ⟨b,h3,h⟩:=zY h
 refine ⟨f,QU h1,?_⟩
 cases b with
 | true=>obtain ⟨F,h4,rfl⟩:=y9 h;exact .inl ⟨F,h4,rfl⟩
 | false=>obtain ⟨h4,rfl⟩:=zt h;obtain ⟨a,b⟩:=Bool.and_eq_true_iff.mp h4;exact .inr ⟨a,b,rfl⟩
theorem Qz {K:Frag} {x:Str} {f:Addr} {F:Fn} (h:(yL K).what x=some (.fn F)) (hf:nsIn K mainGlobals x=some (some (.ref f))):Q1 (gOf K) K f=some F:=by
 obtain ⟨f',q,⟨F',a,b⟩ | ⟨_,_,b⟩⟩:=W1 h
 ·rw [hf] at q;cases q;cases b;exact a
 ·cases b
theorem XA {K:Frag} {x:Str} {f:Addr} (h:(yL K).what x=some .cls) (hf:nsIn K mainGlobals x=some (some (.ref f))):makesIn K f=true∧xt K f=true:=by
 obtain ⟨f',q,⟨F',a,b⟩ | ⟨a,b,_⟩⟩:=W1 h
 ·cases b
 ·rw [hf] at q;cases q;exact ⟨a,b⟩
theorem Z9 {K:Frag} {c x:Str} {F:Fn} (h:(yL K).meth c x=some F):∃ C f,nsIn K mainGlobals c=some (some (.ref C))∧findIn K (.ref C) x=some (some (.ref f))∧typeIn K (.ref f)=some (.type "function")∧Q1 (gOf K) K f=some F:=by
 obtain ⟨C,h1,h⟩:=zY h
 obtain ⟨o,h2,h⟩:=zY h
 obtain ⟨v,h3,h⟩:=zY h
 obtain ⟨f,h4,h⟩:=zY h
 obtain ⟨h5,h⟩:=ZB h
 exact ⟨C,f,QU h1,by rw [h2,h3,WC h4],eq_of_beq h5,h⟩
theorem QZ {K:Frag} {C:Addr} (h:makesIn K C=true):keepIn K (.ref C)=true:=by
 unfold makesIn at h
 cases ho:K.lookup C with
 | none=>rw [ho] at h;exact nob h
 | some o =>
  rw [ho] at h
  obtain ⟨oc,od,dd,sl⟩:=o
  cases dd with
  | cls cd =>
   have h:=(Bool.and_eq_true_iff.mp (Bool.and_eq_true_iff.mp h).1).2
   unfold keepIn
   dsimp only
   rw [ho]
   exact h
  | _=>exact nob h
theorem Y9 {prog:Program} {X:Cx} (g:Gd X (gOf X.K)):∀ n,SndCF prog X n (run (yL X.K) n)
 | 0=>⟨fun _ _ _ _ _ k=>k.elim,fun h=>absurd rfl h,fun h=>absurd rfl h⟩
 | n+1=>by
  have ih:=Y9 (prog:=prog) g n
  refine ⟨?_,?_,?_⟩
  ·intro c args hp A l μ s Q E f args' R F I hc ra k
   have hd:=R.depth
   have hu:=R.units
   have hh:=R.handled
   cases c with
   | fn x =>
    have k:PO X l μ s (match (yL X.K).what x with
     | some (.fn f)=>yf f (run (yL X.K) n) args hp
     | _=>.stuck) Q E:=k
    cases hF:(yL X.K).what x with
    | none=>rw [hF] at k;exact k.elim
    | some wt =>
    rw [hF] at k
    cases wt with
    | cls=>exact k.elim
    | fn F' =>
     exact wpAny_call (Zh g ih (Qz hF hc) (by lia) (by lia) hh R.frames F I ra k)
   | meth c x =>
    have k:PO X l μ s (match (yL X.K).meth c x with
     | some f=>yf f (run (yL X.K) n) args hp
     | none=>.stuck) Q E:=k
    cases hF:(yL X.K).meth c x with
    | none=>rw [hF] at k;exact k.elim
    | some F' =>
     rw [hF] at k
     obtain ⟨C,f',h1,h2,h3,h4⟩:=Z9 hF
     obtain ⟨C',q1,q2,q3⟩:=hc
     rw [h1] at q1;cases q1
     rw [h2] at q2;cases q2
     exact wpAny_call (Zh g ih h4 (by lia) (by lia) hh R.frames F I ra k)
   | cls x =>
    have k:PO X l μ s (match (yL X.K).what x with
     | some .cls=>(match (yL X.K).meth x "__init__" with
      | some f=>(yf f (run (yL X.K) n) (.ref hp.length::args) (hp++[AO.inst x []])).bind0 fun v h'=>(match v with
       | .none=>.ok (AV.ref hp.length) h'
       | _=>.stuck)
      | none=>.stuck)
     | _=>.stuck) Q E:=k
    cases hw:(yL X.K).what x with
    | none=>rw [hw] at k;exact k.elim
    | some wt =>
    rw [hw] at k
    cases wt with
    | fn _=>exact k.elim
    | cls =>
     dsimp only at k
     cases hF:(yL X.K).meth x "__init__" with
     | none=>rw [hF] at k;exact k.elim
     | some F' =>
      rw [hF] at k
      obtain ⟨C,fI,k1,k2,k3,k4⟩:=Z9 hF
      have hc:nsIn X.K mainGlobals x=some (some (.ref f)):=hc
      rw [hc] at k1;cases k1
      obtain ⟨m1,m2⟩:=XA hw hc
      have KI:=I.kin g.K
      obtain ⟨hh',gg,dd,tt,oo⟩:=s
      refine wpAny_call (make_core (makes_of KI m1) (looks_findIn KI k2) (fun self=>bind_fn KI self k3) (.inl rfl) ?_)
      have kp:∀ b o,hh'.get? b=some o→((hh'.push emptyDict).push (instObj f hh'.objs.size)).get? b=some o:=fun b o e=>Heap.get?_push_of_some _ (Heap.get?_push_of_some _ e)
      have fr:∀ b,hh'.objs.size≤b→hh'.get? b=none:=fun b hb=>by
       cases q:hh'.get? b with
       | none=>rfl
       | some o=>exact absurd (Heap.lt_size q) (Nat.not_lt.mpr hb)
      have gx:((hh'.push emptyDict).push (instObj f hh'.objs.size)).get? (hh'.objs.size+1)=some (instObj f hh'.objs.size):=by
       have:=Heap.get?_push_size (hh'.push emptyDict) (o:=instObj f hh'.objs.size) rfl
       rwa [Heap.size_push] at this
      have gd:((hh'.push emptyDict).push (instObj f hh'.objs.size)).get? hh'.objs.size=some emptyDict:=Heap.get?_push_of_some _ (Heap.get?_push_size _ rfl)
      have hp0:OR X (μ++[(hh'.objs.size+1,some hh'.objs.size)]) ((hh'.push emptyDict).push (instObj f hh'.objs.size)) (.inst x []) (hh'.objs.size+1,some hh'.objs.size) :=
       .inst hc gx (show _=some (dictOf [] 0) from gd) .nil m2 (fun p hp=>by cases hp) (by simp)
      obtain ⟨I1,L1⟩:=I.new (s:=⟨hh',gg,dd,tt,oo⟩) (t:=tt) (h':=(hh'.push emptyDict).push (instObj f hh'.objs.size)) kp (fun b hb=>by
       cases hb with
       | head=>exact fr _ (Nat.le_succ _)
       | tail _ hb=>cases hb with
        | head=>exact fr _ (Nat.le_refl _)
        | tail _ hb=>cases hb) (by simp [ads]) hp0
      have rs:VR X (μ++[(hh'.objs.size+1,some hh'.objs.size)]) ((hh'.push emptyDict).push (instObj f hh'.objs.size)) (.ref hp.length) (.ref (hh'.objs.size+1)):=.ref (p:=(hh'.objs.size+1,some hh'.objs.size)) (by rw [← I.len];simp)
      refine Zh (A:=A.under (.builtin "type.__call__" ⟨.ref f::args',[]⟩)) (s:=⟨(hh'.push emptyDict).push (instObj f hh'.objs.size),gg,dd,tt,oo⟩) g ih k4 ?_ ?_ (show A.handled=none from hh) (show A.frames=_ from R.frames) (F.le L1) I1 (.cons rs (ra.mono (List.prefix_append _ _) fun b o e _=>kp b o e))
       (PG.bind0 (PG.le k L1) fun v v' h1 μ' s' L' I' r' k=>?_)
      ·show A.depth+1+2 * n+3<_;lia
      ·show A.units+1+100 * n+303<_;lia
      ·cases v with
       | none =>
        rw [r'.none_]
        exact ⟨rfl,k _ μ' s' .refl I' (rs.mono L'.pre (L'.fixed I1 fun _ _ h=>h.elim))⟩
       | _=>exact k.elim
  ·intro c args hp f e hc
   cases c with
   | fn x =>
    have e:(match (yL X.K).what x with
     | some (.fn f)=>yf f (run (yL X.K) n) args hp
     | _=>.stuck)≠.stuck:=e
    cases hF:(yL X.K).what x with
    | none=>rw [hF] at e;exact absurd rfl e
    | some wt =>
     rw [hF] at e
     cases wt with
     | cls=>exact absurd rfl e
     | fn F=>exact YM (Qz hF hc)
   | meth c x =>
    have e:(match (yL X.K).meth c x with
     | some f=>yf f (run (yL X.K) n) args hp
     | none=>.stuck)≠.stuck:=e
    cases hF:(yL X.K).meth c x with
    | none=>rw [hF] at e;exact absurd rfl e
    | some F =>
     obtain ⟨C,f',h1,h2,h3,h4⟩:=Z9 hF
     obtain ⟨C',q1,q2,q3⟩:=hc
     rw [h1] at q1;cases q1
     rw [h2] at q2;cases q2
     exact YM h4
   | cls x =>
    have e:(match (yL X.K).what x with
     | some .cls=>(match (yL X.K).meth x "__init__" with
      | some f=>(yf f (run (yL X.K) n) (.ref hp.length::args) (hp++[AO.inst x []])).bind0 fun v h'=>(match v with
       | .none=>.ok (AV.ref hp.length) h'
       | _=>.stuck)
      | none=>.stuck)
     | _=>.stuck)≠.stuck:=e
    cases hw:(yL X.K).what x with
    | none=>rw [hw] at e;exact absurd rfl e
    | some wt =>
     rw [hw] at e
     cases wt with
     | fn _=>exact absurd rfl e
     | cls=>exact QZ (XA hw hc).1
  ·intro c x args hp e
   have e:(match (yL X.K).meth c x with
    | some f=>yf f (run (yL X.K) n) args hp
    | none=>.stuck)≠.stuck:=e
   cases hF:(yL X.K).meth c x with
   | none=>rw [hF] at e;exact absurd rfl e
   | some F =>
    obtain ⟨C,f',h1,h2,h3,h4⟩:=Z9 hF
    exact ⟨f',C,h1,h2,h3⟩
end Mine
end
end
section
noncomputable section
namespace Mine
open PySem PySem.W PySem.Calls PyProof.Rows
theorem Xu {X:Cx} {μ:Mu} {h:Heap}:∀ {vs:List Value} {is:List Int},IntsAre vs is→VRs X μ h (is.map AV.int) vs
 | _,_,.nil=>.nil
 | _,_,.cons n t r=>.cons (.int n t) (Xu r)
theorem Wc {h:Heap} {a:Addr} {m:Str→Option Value} (ns:h.Ns a m) {K:Frag} (hK:K.In h) {x:Str} {r:Option Value} (e:nsIn K a x=some r):m x=r:=by
 obtain ⟨o,es,ep,ho,hd,hk,hm⟩:=ns
 unfold nsIn at e
 cases hl:K.lookup a with
 | none=>rw [hl] at e;exact nos e
 | some o' =>
  have:=hK _ _ hl
  rw [ho] at this;cases this
  rw [hl] at e
  obtain ⟨oc,od,dd,sl⟩:=o
  cases hd
  have hf:nsFind es x=m x:=hm x
  unfold nsFind findBy at hf
  rw [← Array.find?_toList] at hf
  dsimp only at e
  cases hq:es.toList.find? (·.key.isStr x) with
  | some q=>rw [hq] at hf e;cases e;exact hf.symm
  | none =>
   rw [hq] at hf e
   by_cases z:es.toList.any (·.refKey)=true
   ·rw [show (if es.toList.any (·.refKey)=true then (none:Option (Option Value)) else some none)=_ from if_pos z] at e;exact nos e
   ·rw [show (if es.toList.any (·.refKey)=true then (none:Option (Option Value)) else some none)=_ from if_neg z] at e;cases e;exact hf.symm
theorem law_true {prog:Program} {w:World} {K:Frag} {s₁:Shared} {p:Program} {loose:List Str} {mean mean':ExcName→Option Value} {mg mb:Str→Option Value} {c:ClaimW} {cl:Str→Option Addr} {args:List WData} {fa L:Addr} {vs:List Value} {is:List Int} {x:Str}
  (T:Top p loose mean mg mb s₁.heap) (KX:K.In s₁.heap) (hg:s₁.gens=#[]) (hmg:mg x=some (.ref fa)) (fa':Addr) (hfa:nsIn K mainGlobals x=some (some (.ref fa'))) (hL:s₁.heap.IsList L vs.toArray) (hI:IntsAre vs is) (hlen:¬ (63:Int)<is.length)
  (hrun:∃ hp',run (yL K) 20 (.fn x) [.lst (is.map AV.int)] []=.ok (.bool true) hp') (hn:∀ cls,c.raises args cls=false) (hp:c.post args (.bool true) args=true) :
  wpAny (model prog w) callerA (call (.ref fa) [.ref L]) (fun v s'=>GoodWG c cl mean' args s₁ (.ok (.ret v)) s') (fun e s'=>GoodWG c cl mean' args s₁ (.error e) s') s₁:=by
 have e:=Wc T.g KX hfa
 rw [hmg] at e;cases e
 obtain ⟨hp',hrun⟩:=hrun
 let X:Cx:=⟨K,s₁.heap,s₁.os,w⟩
 have g:Gd X (gOf X.K):=zEa KX ⟨mg,mb,T.g,T.b,T.builtins⟩ T.nolimit
 have I:Inv X [] [] s₁:=⟨rfl,by simp [zo],fun a ha=>(nomatch ha),fun i p o h=>(nomatch h),fun b o e=>e,hg,rfl⟩
 have R:Room 20 callerA []:=⟨rfl,by decide,by decide,rfl⟩
 refine (Y9 (prog:=prog) g 20).run R (fun _ h=>nomatch h) I (show z1b X (.fn x) fa from hfa) (.cons (.lst (items:=vs.toArray) hL ?_ ?_) .nil) (PG.okE hrun fun v' μ' s' L' I' r'=>?_)
 ·rw [List.length_map,qd];lia
 ·simpa using Xu hI
 ·rw [r'.bool_]
  exact GoodW.toG ⟨.inl ⟨_,.bool true,[],rfl,hn,.bool true,hp,fun _=>⟨.nil,fun _ h=>by cases h⟩⟩,I'.keep,I'.os,I'.gens⟩
end Mine
end
end
section
namespace Mine
open PySem
section
variable {h:Hp} {v w:AV} {a:Nat} {i j:Int} {b c:Bool} {cf:CF} {fr:AFr}
theorem Yo {α:Type} {o:Option α} {f:α→AV}:ofP (o.map fun x=>(f x,h))=Out.of (o.map f) h:=by cases o <;> rfl
theorem Z8 {p:Prop} [Decidable p] {x:AV} {h':Hp}:ofP (if p then some (x,h') else none)=if p then .ok x h' else .stuck:=by split <;> rfl
theorem Out.of_ite {p:Prop} [Decidable p] {x:AV}:Out.of (if p then some x else none) h=if p then .ok x h else .stuck:=by split <;> rfl
theorem xH:xI .len [v] h=Out.of ((z02 h v).map fun (n:Nat)=>AV.int (n:Int)) h:=Yo
theorem zC9 {t:Bi}:xI .isinstance [v,.bi t] h=Out.of ((zBw v t).map .bool) h:=Yo
theorem zC7:xI .min [.int i,.int j] h=.ok (.int (if j<i then j else i)) h:=rfl
theorem zC8:xI .max [.int i,.int j] h=.ok (.int (if i<j then j else i)) h:=rfl
theorem QF:xI .range [.int i] h=if i.natAbs<2 ^ 62 then .ok (.range 0 i) h else .stuck:=Z8
theorem qg {β:Type} {f:List AV→Option β}:(ze h a).bind f=(match h[a]? with
  | some (.list xs)=>f xs
  | _=>none):=by
 unfold ze
 cases h[a]? with
 | none=>rfl
 | some o=>cases o <;> rfl
theorem z2x:xI .list [.ref a] h=(match h[a]? with
  | some (.list xs)=>if xs.length≤small then .ok (.ref h.length) (h++[.list xs]) else .stuck
  | _=>.stuck):=by
 show ofP ((ze h a).bind fun xs=>if xs.length≤small then some (.ref h.length,h++[.list xs]) else none)=_
 rw [qg]
 cases h[a]? with
 | none=>rfl
 | some o =>
  cases o with
  | list xs=>exact Z8
  | _=>rfl
theorem YF {m:Me} {args:List AV}:yP m (.ref a) args h=(match h[a]? with
  | some (.list xs)=>ofP (meO m a xs args h)
  | _=>.stuck):=by
 show ofP ((ze h a).bind _)=_
 rw [qg]
 cases h[a]? with
 | none=>rfl
 | some o=>cases o <;> rfl
theorem xm:yP .append (.ref a) [v] h=(match h[a]? with
  | some (.list xs)=>if xs.length<small then .ok .none (h.set a (.list (xs++[v]))) else .stuck
  | _=>.stuck):=by
 rw [YF]
 cases h[a]? with
 | none=>rfl
 | some o =>
  cases o with
  | inst c fs=>rfl
  | dict _=>rfl
  | dicS _=>rfl
  | list xs=>exact Z8
theorem We:yP .insert (.ref a) [.int i,v] h=(match h[a]? with
  | some (.list xs)=>if xs.length<small∧okI i=true then .ok .none (h.set a (.list (qR xs i.toNat v))) else .stuck
  | _=>.stuck):=by
 rw [YF]
 cases h[a]? with
 | none=>rfl
 | some o =>
  cases o with
  | inst c fs=>rfl
  | dict _=>rfl
  | dicS _=>rfl
  | list xs=>exact Z8
theorem jI:yP .index (.ref a) [v] h=(match h[a]? with
  | some (.list _)=>(match wV h (.ref a) v with
   | some k=>.ok (.int k) h
   | none=>.stuck)
  | _=>.stuck):=by
 rw [YF]
 cases h[a]? with
 | none=>rfl
 | some o =>
  cases o with
  | inst c fs=>rfl
  | dict _=>rfl
  | dicS _=>rfl
  | list xs =>
   show ofP ((wV h (.ref a) v).map _)=_
   cases wV h (.ref a) v <;> rfl
theorem Jq:yP .count (.ref a) [v] h=(match h[a]? with
  | some (.list _)=>Out.of ((jQ h (.ref a) v).map fun (n:Nat)=>AV.int (n:Int)) h
  | _=>.stuck):=by
 rw [YF]
 cases h[a]? with
 | none=>rfl
 | some o =>
  cases o with
  | inst c fs=>rfl
  | dict _=>rfl
  | dicS _=>rfl
  | list xs=>exact Yo
theorem wA:Zy .Add (.int i) (.int j) h=.ok (.int (i+j)) h:=rfl
theorem ZD:Zy .Sub (.int i) (.int j) h=.ok (.int (i - j)) h:=rfl
theorem ZE:Zy .Mult (.int i) (.int j) h=if i.natAbs<2 ^ 63∨j.natAbs<2 ^ 63 then .ok (.int (i * j)) h else .stuck:=by
 show Out.of ((if i.natAbs<2 ^ 63∨j.natAbs<2 ^ 63 then some (i * j) else none).map AV.int) h=_
 split <;> rfl
theorem QE:Zy .FloorDiv (.int i) (.int j) h=if j≠0∧j.natAbs<1073741824 then .ok (.int (i.fdiv j)) h else .stuck:=by
 show Out.of ((if j≠0∧j.natAbs<1073741824 then some (i.fdiv j) else none).map AV.int) h=_
 split <;> rfl
theorem w9:Zy .Mod (.int i) (.int j) h=if j=0 then .stuck else .ok (.int (i.fmod j)) h:=by
 show Out.of ((if j=0 then none else some (i.fmod j)).map AV.int) h=_
 split <;> rfl
theorem xz:yZ .Eq v w h=aEq h v w:=rfl
theorem jc:yZ .NotEq v w h=(match aEq h v w with | some r=>some (!r) | none=>neL h v w):=rfl
theorem yU:yZ .Lt (.int i) (.int j) h=some (decide (i<j)):=rfl
theorem w3:yZ .LtE (.int i) (.int j) h=some (decide (i≤j)):=rfl
theorem zC6:yZ .GtE (.int i) (.int j) h=some (decide (j≤i)):=rfl
theorem YS {op:CmpOp} {r:XE}:wG v [op] [r] cf fr h=(r cf fr h).bind fun v' h₁=>Out.of (yZ op v v' h₁) h₁:=rfl
theorem YR {op op':CmpOp} {ops:List CmpOp} {r:XE} {rs:List XE}:wG v (op::op'::ops) (r::rs) cf fr h=(r cf fr h).bind fun v' h₁=>(match yZ op v v' h₁ with
  | some true=>wG v' (op'::ops) rs cf fr h₁
  | some false=>.ok false h₁
  | none=>.stuck):=by
 show (r cf fr h).bind _=_
 congr 1
 funext v' h₁
 cases yZ op v v' h₁ with
 | none=>rfl
 | some b=>cases b <;> rfl
theorem z1e:xV h .none=some false:=rfl
theorem z1f:xV h (.bool b)=some b:=rfl
theorem zBc:xV h (.int i)=some (decide (i≠0)):=rfl
theorem z2d {xs:List AV}:z02 h (.lst xs)=some xs.length:=rfl
theorem xE:z02 h (.ref a)=(match h[a]? with
  | some (.list xs)=>some xs.length
  | _=>none):=by
 show (ze h a).map List.length=_
 unfold ze
 cases h[a]? with
 | none=>rfl
 | some o=>cases o <;> rfl
theorem z20 {xs:List AV}:wD h (.lst xs)=some xs:=rfl
theorem z1z:wD h (.ref a)=(match h[a]? with | some (.list xs)=>some xs | _=>none):=rfl
theorem Z3:qH h (.ref a) (.int i) v=(match h[a]? with
  | some (.list xs)=>if 0≤i∧i<xs.length∧xs.length≤small then some (h.set a (.list (xs.set i.toNat v))) else none
  | some (.dict kvs)=>if kvs.length<small then some (h.set a (.dict (xT kvs i v))) else none
  | _=>none):=by
 show (match yl h a with
  | some kvs=>if kvs.length<small then some (h.set a (.dict (xT kvs i v))) else none
  | none=>(ze h a).bind fun xs=>if 0≤i∧i<xs.length∧xs.length≤small then some (h.set a (.list (xs.set i.toNat v))) else none)=_
 unfold yl ze
 cases h[a]? with
 | none=>rfl
 | some o=>cases o <;> rfl
theorem z1w:xX [] [] fr=some fr:=rfl
theorem JV {k:Nat} {ks:List Nat} {vs:List AV}:xX (k::ks) (v::vs) fr=if k<fr.length then xX ks vs (fr.set k (some v)) else none:=rfl
theorem Zt {op:BoolOp} {x y:XE} {r:List XE}:wX op (x::y::r) cf fr h=(x cf fr h).bind fun v h₁=>(match xV h₁ v with
  | some t=>(match op,t with
   | .And,false=>.ok v h₁
   | .Or,true=>.ok v h₁
   | _,_=>wX op (y::r) cf fr h₁)
  | none=>.stuck):=rfl
theorem WM {xs:List AV} (ho:okI i=true):qj h (.lst xs) (.int i)=xs[i.toNat]? := if_pos ho
theorem qA (ho:okI i=true):qj h (.ref a) (.int i)=(match h[a]? with
  | some (.list xs)=>xs[i.toNat]?
  | some (.dict kvs)=>yb kvs i
  | _=>none):=by
 show (match yl h a with
  | some kvs=>yb kvs i
  | none=>if okI i=true then (ze h a).bind (fun xs=>xs[i.toNat]?) else _)=_
 rw [if_pos ho]
 unfold yl ze
 cases h[a]? with
 | none=>rfl
 | some o=>cases o <;> rfl
theorem z2l {s:Str} (ho:okI i=true):qj h (.str s) (.int i)=(s.cps[i.toNat]?).map fun c=>.str ⟨#[c]⟩:=if_pos ho
theorem zC5 {x y:Str}:yZ .In (.str x) (.str y) h=some (Txt.contains y x):=rfl
theorem z2w {x y:Str}:Zy .Add (.str x) (.str y) h=if x.length+y.length≤small then .ok (.str (x++y)) h else .stuck:=Out.of_ite
theorem len_str {x:Str}:z02 h (.str x)=some x.length:=rfl
theorem ZX {sep:Str} {xs:List AV} {ss:List Str} (e:h[a]? = some (.list xs)) (e':jh xs=some ss) (z:(ss.map (·.length)).sum+ss.length * sep.length≤small):yP .join (.str sep) [.ref a] h=.ok (.str (Str.join sep ss)) h:=by
 show ofP ((ze h a).bind fun xs=>(jh xs).bind fun ss=>if (ss.map (·.length)).sum+ss.length * sep.length≤small then some (.str (Str.join sep ss),h) else none)=_
 rw [qg,e]
 show ofP ((jh xs).bind _)=_
 rw [e']
 show ofP (if _ then _ else _)=_
 rw [if_pos z];rfl
theorem zCc {xs:List AV} {bs:List Bool} (e:h[a]? = some (.list xs)) (e':q5 xs=some bs):xI .all [.ref a] h=.ok (.bool (bs.all id)) h:=by
 show ofP ((ze h a).bind fun xs=>(q5 xs).map fun bs=>(AV.bool (bs.all id),h))=_
 rw [qg,e]
 show ofP ((q5 xs).map _)=_
 rw [e'];rfl
theorem zCb {xs:List AV} {bs:List Bool} (e:h[a]? = some (.list xs)) (e':q5 xs=some bs):xI .any [.ref a] h=.ok (.bool (bs.any id)) h:=by
 show ofP ((ze h a).bind fun xs=>(q5 xs).map fun bs=>(AV.bool (bs.any id),h))=_
 rw [qg,e]
 show ofP ((q5 xs).map _)=_
 rw [e'];rfl
theorem YT {α:Type} {f:α→Bool} {l:List α}:q5 (l.map fun x=>AV.bool (f x))=some (l.map f):=by
 induction l with
 | nil=>rfl
 | cons x l ih =>
  show (q5 (l.map fun x=>AV.bool (f x))).map _=_
  rw [ih];rfl
theorem ZJ {α:Type} {f:α→Str} {l:List α}:jh (l.map fun x=>AV.str (f x))=some (l.map f):=by
 induction l with
 | nil=>rfl
 | cons x l ih =>
  show (jh (l.map fun x=>AV.str (f x))).map _=_
  rw [ih];rfl
theorem z2t {xs:List AV} {l u:AV} {lo hi:Option Nat} (e:xp l=some lo) (e':xp u=some hi) (z:xs.length≤small):z0u h (.lst xs) l u=.ok (.ref h.length) (h++[.list (wH xs (lo.getD 0) hi)]):=by
 show ofP ((xp l).bind fun lo=>(xp u).bind fun hi=>if xs.length≤small then some (AV.ref h.length,h++[.list (wH xs (lo.getD 0) hi)]) else none)=_
 rw [e,e']
 show ofP (if _ then _ else _)=_
 rw [if_pos z];rfl
theorem ZC {xs:List AV} {l u:AV} {lo hi:Option Nat} (ea:h[a]? = some (.list xs)) (e:xp l=some lo) (e':xp u=some hi) (z:xs.length≤small):z0u h (.ref a) l u=.ok (.ref h.length) (h++[.list (wH xs (lo.getD 0) hi)]):=by
 show ofP ((xp l).bind fun lo=>(xp u).bind fun hi=>(ze h a).bind fun xs=>if xs.length≤small then some (AV.ref h.length,h++[.list (wH xs (lo.getD 0) hi)]) else none)=_
 rw [e,e']
 show ofP ((ze h a).bind _)=_
 rw [qg,ea]
 show ofP (if _ then _ else _)=_
 rw [if_pos z];rfl
theorem xS (h:okI i=true):xp (.int i)=some (some i.toNat):=if_pos h
theorem Zv:xp .none=some none:=rfl
end
end Mine
end
section
namespace Mine
open PySem
theorem ya {T:Tab} {n:Nat} {x:Str} {F:Fn} {args:List AV} {h:Hp} (e:T.what x=some (.fn F)):run T (n+1) (.fn x) args h=yf F (run T n) args h:=by
 show (match T.what x with | some (.fn f)=>yf f (run T n) args h | _=>.stuck)=_
 rw [e]
theorem zW {T:Tab} {n:Nat} {c x:Str} {F:Fn} {args:List AV} {h:Hp} (e:T.meth c x=some F):run T (n+1) (.meth c x) args h=yf F (run T n) args h:=by
 show (match T.meth c x with | some f=>yf f (run T n) args h | none=>.stuck)=_
 rw [e]
theorem WB {T:Tab} {n:Nat} {x:Str} {F:Fn} {args:List AV} {h:Hp} (e:T.what x=some .cls) (e':T.meth x "__init__" = some F) :
  run T (n+1) (.cls x) args h=(yf F (run T n) (.ref h.length::args) (h++[.inst x []])).bind0 fun v h'=>(match v with | .none=>.ok (.ref h.length) h' | _=>.stuck):=by
 show (match T.what x with
  | some .cls=>(match T.meth x "__init__" with
   | some f=>(yf f (run T n) (.ref h.length::args) (h++[AO.inst x []])).bind0 fun v h'=>(match v with | .none=>.ok (AV.ref h.length) h' | _=>.stuck)
   | none=>.stuck)
  | _=>.stuck)=_
 rw [e,e']
theorem z1g (h:Hp) (n:Nat) (i:Int):toD h n (.int i)=some (.int i):=by cases n <;> rfl
theorem J2 (h:Hp) (n:Nat) (b:Bool):toD h n (.bool b)=some (.bool b):=by cases n <;> rfl
theorem xQ {α β:Type} {f:α→Option β} {x:α} {xs:List α} {y:β} {ys:List β} (e:f x=some y) (e':yT f xs=some ys):yT f (x::xs)=some (y::ys):=by
 show (match f x,yT f xs with | some y,some ys=>some (y::ys) | _,_=>none)=_
 rw [e,e']
theorem jT (h:Hp) (n:Nat) (l:List Int):yT (toD h n) (l.map AV.int)=some (l.map PyData.int):=by
 induction l with
 | nil=>rfl
 | cons i l ih=>exact xQ (z1g h n i) ih
theorem j2 (h:Hp) (n:Nat) (l:List Bool):yT (toD h n) (l.map AV.bool)=some (l.map PyData.bool):=by
 induction l with
 | nil=>rfl
 | cons i l ih=>exact xQ (J2 h n i) ih
theorem ZF {α:Type} [DecidableEq α] (i j:α):(i == j)=decide (i=j):=by
 by_cases h:i=j
 ·rw [decide_eq_true h];exact beq_iff_eq.mpr h
 ·rw [decide_eq_false h];exact beq_eq_false_iff_ne.mpr h
theorem xy {h:Hp} {a:Nat} {xs:List AV} (e:h[a]? = some (.list xs)):ze h a=some xs:=by unfold ze;rw [e]
theorem jB {h:Hp} {v w:AV} {x y:PyData} (e:toD h 8 v=some x) (e':toD h 8 w=some y):aEq h v w=some (PyData.eqv x y):=by
 unfold aEq;rw [e,e'];rfl
theorem xG (h:Hp) (i j:Int):aEq h (.int i) (.int j)=some (decide (i=j)):=(jB (h:=h) (v:=.int i) (w:=.int j) rfl rfl).trans (congrArg some (ZF i j))
theorem jC {h:Hp} {a:Nat} {xs:List AV} (e:h[a]? = some (.list xs)):Yl h (.ref a)=yT (toD h 7) xs:=by
 show (ze h a).bind _=_
 rw [xy e];rfl
theorem jY {h:Hp} {a:Nat} {l:List Int} {i:Int} (e:h[a]? = some (.list (l.map AV.int))):wV h (.ref a) (.int i)=l.findIdx? (· == i):=by
 unfold wV;rw [jC e,jT]
 show (l.map PyData.int).findIdx? (fun y=>PyData.eqv y (.int i))=_
 rw [List.findIdx?_map]
 rfl
theorem X4 {h:Hp} {a:Nat} {l:List Bool} (e:h[a]? = some (.list (l.map AV.bool))):jQ h (.ref a) (.bool true)=some (l.countP id):=by
 unfold jQ;rw [jC e,j2]
 show some ((l.map PyData.bool).countP (fun y=>PyData.eqv y (.bool true)))=_
 rw [List.countP_map]
 have:((fun y=>PyData.eqv y (.bool true)) ∘ PyData.bool)=id:=by funext b;cases b <;> rfl
 rw [this]
theorem zK {α:Type} (g:List α) (x:α) (r:List α):(g++x::r)[g.length]? = some x:=by simp
theorem yH {α:Type} (g l:List α) (k:Nat):(g++l)[g.length+k]? = l[k]? := by
 rw [List.getElem?_append_right (Nat.le_add_right _ _)];simp
theorem zI {α:Type} {g l:List α} {k:Nat} {x:α} (e:g[k]? = some x):(g++l)[k]? = some x:=by
 rw [List.getElem?_append_left (y7 e).1];exact e
theorem qo {t:NTgt} {test:XT} {elt:XE} {src:Src} {f k:Nat} {acc:List AV} {cf:CF} {fr:AFr} {h:Hp}:yr t test elt src (f+1) k acc cf fr h=(match src.next? h k with
  | none=>.stuck
  | some none=>.ok acc h
  | some (some x)=>(match t.bind x fr with
   | none=>.stuck
   | some fr₁=>(test cf fr₁ h).bind0 fun b h₁ =>
     if b then (elt cf fr₁ h₁).bind0 fun v h₂=>if acc.length<small then yr t test elt src f (k+1) (acc++[v]) cf fr₁ h₂ else .stuck
     else yr t test elt src f (k+1) acc cf fr₁ h₁)):=rfl
theorem Zo {α:Type} (g:α→AV) {test:XT} {elt:XE} {cf:CF} {fr:AFr} {i:Nat} (hi:i<fr.length) {h:Hp} {src:Src} {l:List α} {p:α→Bool} {f:α→AV} (hsrc:∀ k,src.next? h k=some ((l.map g)[k]?)) (hsm:l.length<small)
  (ht:∀ fr',fr'.length=fr.length→(∀ j,j≠i→fr'[j]? = fr[j]?)→∀ x∈l,fr'[i]? = some (some (g x))→test cf fr' h=.ok (p x) h)
  (he:∀ fr',fr'.length=fr.length→(∀ j,j≠i→fr'[j]? = fr[j]?)→∀ x∈l,fr'[i]? = some (some (g x))→elt cf fr' h=.ok (f x) h) :
  yr (.one i) test elt src (l.length+1) 0 [] cf fr h=.ok ((l.filter p).map f) h:=by
 have key:∀ (m k:Nat) (acc:List AV) (fr':AFr),k+m=l.length→fr'.length=fr.length→(∀ j,j≠i→fr'[j]? = fr[j]?)→acc.length≤k →
   yr (.one i) test elt src (m+1) k acc cf fr' h=.ok (acc++((l.drop k).filter p).map f) h:=by
  intro m
  induction m with
  | zero =>
   intro k acc fr' hk hl hj ha
   have:(l.map g)[k]? = none:=by simp;lia
   rw [qo,hsrc,this,List.drop_eq_nil_of_le (by lia)]
   show Out.ok acc h=.ok (acc++[]) h
   rw [List.append_nil]
  | succ m ih =>
   intro k acc fr' hk hl hj ha
   have hk':k<l.length:=by lia
   have e1:(l.map g)[k]? = some (g l[k]):=by simp [Out.bind_ok,Out.bind0_ok,Out.bind_stuck,Out.of_some,Out.of_none,Out.bindS_ok,hk']
   have hm:l[k]∈l:=List.getElem_mem hk'
   have hb:NTgt.bind (.one i) (g l[k]) fr'=some (fr'.set i (some (g l[k]))):=by
    simp only [NTgt.bind,JV,z1w];rw [if_pos (by lia)]
   have g1:(fr'.set i (some (g l[k]))).length=fr.length:=by simp [Out.bind_ok,Out.bind0_ok,Out.bind_stuck,Out.of_some,Out.of_none,Out.bindS_ok,hl]
   have g2:∀ j,j≠i→(fr'.set i (some (g l[k])))[j]? = fr[j]? := fun j hne=>by rw [List.getElem?_set_ne (Ne.symm hne)];exact hj j hne
   have g3:(fr'.set i (some (g l[k])))[i]? = some (some (g l[k])):=by rw [List.getElem?_set_self (by lia)]
   rw [List.drop_eq_getElem_cons hk']
   rw [qo,hsrc,e1]
   dsimp only
   rw [hb]
   dsimp only
   rw [ht _ g1 g2 _ hm g3]
   simp only [Out.bind0_ok]
   cases hp:p l[k] with
   | true =>
    rw [if_pos rfl,he _ g1 g2 _ hm g3]
    simp only [Out.bind0_ok]
    rw [if_pos (by lia),ih (k+1) _ _ (by lia) g1 g2 (by simp;lia)]
    simp only [List.filter_cons,hp,if_true,List.map_cons,List.append_assoc,List.singleton_append]
   | false =>
    rw [if_neg (by simp),ih (k+1) _ _ (by lia) g1 g2 (by lia)]
    simp only [List.filter_cons,hp,Bool.false_eq_true,if_false]
 have:=key l.length 0 [] fr (by lia) rfl (fun _ _=>rfl) (Nat.le_refl _)
 simpa using this
theorem yK {α:Type} (g:α→AV) {it:XE} {own i a:Nat} {test:XT} {elt:XE} {cf:CF} {fr:AFr} {h h1:Hp} {l:List α} {p:α→Bool} {f:α→AV} (e1:it cf fr h=.ok (.ref a) h1) (e2:h1[a]? = some (.list (l.map g))) (hi:i<fr.length+own) (hsm:l.length<small)
  (ht:∀ fr',fr'.length=fr.length+own→(∀ j,j≠i→fr'[j]? = (fr++List.replicate own none)[j]?)→∀ x∈l,fr'[i]? = some (some (g x))→test cf fr' h1=.ok (p x) h1)
  (he:∀ fr',fr'.length=fr.length+own→(∀ j,j≠i→fr'[j]? = (fr++List.replicate own none)[j]?)→∀ x∈l,fr'[i]? = some (some (g x))→elt cf fr' h1=.ok (f x) h1) :
  zj it own (.one i) test elt cf fr h=.ok (.ref h1.length) (h1++[.list ((l.filter p).map f)]):=by
 have hl:(fr++List.replicate own (none:Option AV)).length=fr.length+own:=by simp
 have es:yk h1 (.ref a)=some (.ref a,(l.map g).length):=by
  show (match h1[a]? with | some (.list xs)=>some (Src.ref a,xs.length) | _=>none)=_
  rw [e2]
 unfold zj
 rw [e1]
 simp only [Out.bind_ok]
 rw [es]
 dsimp only
 rw [List.length_map,Zo g (fr:=fr++List.replicate own none) (l:=l) (p:=p) (f:=f) (by rw [hl];exact hi) (fun k=>by
  show (match h1[a]? with | some (.list ys)=>some ys[k]? | _=>none)=_
  rw [e2]) hsm (fun fr' a b=>ht fr' (by rw [a,hl]) b) (fun fr' a b=>he fr' (by rw [a,hl]) b)]
 rfl
theorem z5 {i:Nat} {cf:CF} {fr:AFr} {h:Hp} {v:AV} (e:fr[i]? = some (some v)):z6 i cf fr h=.ok v h:=by simp only [z6,e]
theorem qp {α:Type} (g:α→AV) {it:XE} {own i:Nat} {v:AV} {test:XT} {elt:XE} {cf:CF} {fr:AFr} {h h1:Hp} {l:List α} {p:α→Bool} {f:α→AV} (e1:it cf fr h=.ok v h1) (e2:yk h1 v=some (.imm (l.map g),l.length)) (hi:i<fr.length+own) (hsm:l.length<small)
  (ht:∀ fr',fr'.length=fr.length+own→(∀ j,j≠i→fr'[j]? = (fr++List.replicate own none)[j]?)→∀ x∈l,fr'[i]? = some (some (g x))→test cf fr' h1=.ok (p x) h1)
  (he:∀ fr',fr'.length=fr.length+own→(∀ j,j≠i→fr'[j]? = (fr++List.replicate own none)[j]?)→∀ x∈l,fr'[i]? = some (some (g x))→elt cf fr' h1=.ok (f x) h1) :
  zj it own (.one i) test elt cf fr h=.ok (.ref h1.length) (h1++[.list ((l.filter p).map f)]):=by
 have hl:(fr++List.replicate own (none:Option AV)).length=fr.length+own:=by simp
 unfold zj
 rw [e1]
 simp only [Out.bind_ok]
 rw [e2]
 dsimp only
 rw [Zo g (fr:=fr++List.replicate own none) (l:=l) (p:=p) (f:=f) (by rw [hl];exact hi) (fun k=>rfl) hsm (fun fr' a b=>ht fr' (by rw [a,hl]) b) (fun fr' a b=>he fr' (by rw [a,hl]) b)]
 rfl
theorem z7 {s:XS} {r:List XS} {cf:CF} {fr fr1:AFr} {h h1:Hp} (e:s cf fr h=.ok .next fr1 h1):zD (s::r) cf fr h=zD r cf fr1 h1:=by
 show (match s cf fr h with
  | .ok .next fr₁ h₁=>zD r cf fr₁ h₁
  | o=>o)=_
 rw [e]
theorem zL {s:XS} {r:List XS} {cf:CF} {fr fr1:AFr} {h h1:Hp} {v:AV} (e:s cf fr h=.ok (.ret v) fr1 h1):zD (s::r) cf fr h=.ok (.ret v) fr1 h1:=by
 show (match s cf fr h with
  | .ok .next fr₁ h₁=>zD r cf fr₁ h₁
  | o=>o)=_
 rw [e]
theorem zE {cf:CF} {fr:AFr} {h:Hp}:zD [] cf fr h=.ok .next fr h:=rfl
theorem xO {t:NTgt} {body:XS} {src:Src} {cf:CF} {xs:List AV} (P:Nat→AFr→Hp→Prop) (hsrc:∀ k fr h,P k fr h→src.next? h k=some xs[k]?)
  (step:∀ k x fr h,P k fr h→xs[k]? = some x→∃ fr1 fr2 h2,t.bind x fr=some fr1∧body cf fr1 h=.ok .next fr2 h2∧P (k+1) fr2 h2) {fr:AFr} {h:Hp} (p0:P 0 fr h) :
  ∃ fr' h',q7 t body src (xs.length+1) 0 cf fr h=.ok .next fr' h'∧P xs.length fr' h':=by
 have key:∀ (m k:Nat) (fr:AFr) (h:Hp),k+m=xs.length→P k fr h→∃ fr' h',q7 t body src (m+1) k cf fr h=.ok .next fr' h'∧P xs.length fr' h':=by
  intro m
  induction m with
  | zero =>
   intro k fr h hk p
   have:k=xs.length:=hk
   subst this
   refine ⟨fr,h,?_,p⟩
   show (match src.next? h xs.length with
    | none=>OS.stuck
    | some none=>.ok .next fr h
    | some (some x)=>_)=_
   rw [hsrc _ _ _ p,List.getElem?_eq_none (Nat.le_refl _)]
  | succ m ih =>
   intro k fr h hk p
   have hlt:k<xs.length:=by lia
   have hx:=zu hlt
   obtain ⟨fr1,fr2,h2,e1,e2,p2⟩:=step k _ fr h p hx
   obtain ⟨fr',h',e3,p3⟩:=ih (k+1) fr2 h2 (by lia) p2
   refine ⟨fr',h',?_,p3⟩
   show (match src.next? h k with
    | none=>OS.stuck
    | some none=>.ok .next fr h
    | some (some x)=>(match t.bind x fr with
     | none=>.stuck
     | some fr₁=>(match body cf fr₁ h with
      | .ok .next fr₂ h₂=>q7 t body src (m+1) (k+1) cf fr₂ h₂
      | .ok (.ret v) fr₂ h₂=>.ok (.ret v) fr₂ h₂
      | _=>.stuck)))=_
   rw [hsrc _ _ _ p,hx]
   show (match t.bind xs[k] fr with
     | none=>OS.stuck
     | some fr₁=>(match body cf fr₁ h with
      | .ok .next fr₂ h₂=>q7 t body src (m+1) (k+1) cf fr₂ h₂
      | .ok (.ret v) fr₂ h₂=>.ok (.ret v) fr₂ h₂
      | _=>.stuck))=_
   rw [e1]
   show (match body cf fr1 h with
      | .ok .next fr₂ h₂=>q7 t body src (m+1) (k+1) cf fr₂ h₂
      | .ok (.ret v) fr₂ h₂=>.ok (.ret v) fr₂ h₂
      | _=>.stuck)=_
   rw [e2]
   exact e3
 exact key xs.length 0 fr h (Nat.zero_add _) p0
theorem zM {F:Fn} {cf:CF} {args:List AV} {h h':Hp} {fr fr':AFr} {v:AV} (hn:args.length=F.np) (hf:args.map some++List.replicate (F.nl - F.np) none=fr) (e:F.body cf fr h=.ok (.ret v) fr' h'):yf F cf args h=.ok v h':=by
 unfold yf;rw [if_pos hn,hf,e]
theorem yI {F:Fn} {cf:CF} {args:List AV} {h h':Hp} {fr fr':AFr} (hn:args.length=F.np) (hf:args.map some++List.replicate (F.nl - F.np) none=fr) (e:F.body cf fr h=.ok .next fr' h'):yf F cf args h=.ok .none h':=by
 unfold yf;rw [if_pos hn,hf,e]
theorem zi {t:XT} {a b:XS} {cf:CF} {fr:AFr} {h h1:Hp} (e:t cf fr h=.ok true h1):sIf t a b cf fr h=a cf fr h1:=by unfold sIf;rw [e];rfl
theorem zH {t:XT} {a b:XS} {cf:CF} {fr:AFr} {h h1:Hp} (e:t cf fr h=.ok false h1):sIf t a b cf fr h=b cf fr h1:=by unfold sIf;rw [e];rfl
section
variable {cf:CF} {fr:AFr} {h h1 h2 h3:Hp} {x y o i f l u:XE} {xs:List XE} {v w k a' b':AV} {vs:List AV} {a j:Nat} {okf:Str→Str→Bool} {name:Str} {c:Str} {fs:List (Str×AV)} {res:Out AV} {resS:OS}
theorem zm (e:x cf fr h=.ok v h1):zf x cf fr h=.ok (.ret v) fr h1:=by unfold zf;rw [e];rfl
theorem zn (e:x cf fr h=.ok v h1):zN x cf fr h=.ok .next fr h1:=by unfold zN;rw [e];rfl
theorem zU (e:x cf fr h=.ok v h1) (hi:j<fr.length):z9 okf (.names (.one j)) x cf fr h=.ok .next (fr.set j (some v)) h1:=by
 unfold z9
 rw [e]
 show (match NTgt.bind (.one j) v fr with | some fr₁=>OS.ok .next fr₁ h1 | none=>.stuck)=_
 rw [show NTgt.bind (.one j) v fr=some (fr.set j (some v)) from if_pos hi]
theorem Z7 {is:List Nat} {fr1:AFr} (e:x cf fr h=.ok (.tup vs) h1) (hb:xX is vs fr=some fr1):z9 okf (.names (.many is)) x cf fr h=.ok .next fr1 h1:=by
 unfold z9
 rw [e]
 show (match xX is vs fr with | some fr₁=>OS.ok .next fr₁ h1 | none=>.stuck)=_
 rw [hb]
theorem zb (e:o cf fr h=.ok (.ref a) h1) (ha:h1[a]? = some (.inst c fs)) (hl:fs.lookup name=some v):zG o name cf fr h=.ok v h1:=by
 unfold zG
 rw [e]
 show (match h1[a]? with | some (.inst _ fs)=>Out.of (fs.lookup name) h1 | _=>.stuck)=_
 rw [ha]
 show Out.of (fs.lookup name) h1=_
 rw [hl];rfl
theorem zP {me:Option Me} (e:o cf fr h=.ok (.ref a) h1) (ha:h1[a]? = some (.inst c fs)) (hl:fs.lookup name=none) (ev:evs xs cf fr h1=.ok vs h2) (ec:cf (.meth c name) (.ref a::vs) h2=res):zB o name me xs cf fr h=res:=by
 unfold zB
 rw [e]
 show (match h1[a]? with
  | some (.inst c fs)=>(match fs.lookup name with
   | some _=>Out.stuck
   | none=>(evs xs cf fr h1).bind0 fun vs h₂=>cf (.meth c name) (.ref a::vs) h₂)
  | some (.list _)=>(match me with
   | some m=>(evs xs cf fr h1).bind0 fun vs h₂=>yP m (.ref a) vs h₂
   | none=>.stuck)
  | some (.dicS _)=>(match me with
   | some m=>(evs xs cf fr h1).bind0 fun vs h₂=>ofP (meD m a vs h₂)
   | none=>.stuck)
  | _=>.stuck)=_
 rw [ha]
 show (match fs.lookup name with
   | some _=>Out.stuck
   | none=>(evs xs cf fr h1).bind0 fun vs h₂=>cf (.meth c name) (.ref a::vs) h₂)=_
 rw [hl]
 show ((evs xs cf fr h1).bind0 fun vs h₂=>cf (.meth c name) (.ref a::vs) h₂)=_
 rw [ev];exact ec
theorem ww {m:Me} {ys:List AV} (e:o cf fr h=.ok (.ref a) h1) (ha:h1[a]? = some (.list ys)) (ev:evs xs cf fr h1=.ok vs h2) (ec:yP m (.ref a) vs h2=res):zB o name (some m) xs cf fr h=res:=by
 unfold zB
 rw [e]
 show (match h1[a]? with
  | some (.inst c fs)=>(match fs.lookup name with
   | some _=>Out.stuck
   | none=>(evs xs cf fr h1).bind0 fun vs h₂=>cf (.meth c name) (.ref a::vs) h₂)
  | some (.list _)=>(evs xs cf fr h1).bind0 fun vs h₂=>yP m (.ref a) vs h₂
  | some (.dicS _)=>(evs xs cf fr h1).bind0 fun vs h₂=>ofP (meD m a vs h₂)
  | _=>.stuck)=_
 rw [ha]
 show (evs xs cf fr h1).bind0 _=_
 rw [ev];exact ec
theorem zCu {m:Me} {kvs:List (Str×AV)} (e:o cf fr h=.ok (.ref a) h1) (ha:h1[a]? = some (.dicS kvs)) (ev:evs xs cf fr h1=.ok vs h2) (ec:ofP (meD m a vs h2)=res):zB o name (some m) xs cf fr h=res:=by
 unfold zB
 rw [e]
 show (match h1[a]? with
  | some (.inst c fs)=>(match fs.lookup name with
   | some _=>Out.stuck
   | none=>(evs xs cf fr h1).bind0 fun vs h₂=>cf (.meth c name) (.ref a::vs) h₂)
  | some (.list _)=>(evs xs cf fr h1).bind0 fun vs h₂=>yP m (.ref a) vs h₂
  | some (.dicS _)=>(evs xs cf fr h1).bind0 fun vs h₂=>ofP (meD m a vs h₂)
  | _=>.stuck)=_
 rw [ha]
 show (evs xs cf fr h1).bind0 _=_
 rw [ev];exact ec
theorem Jb {m:Me} {s:Str} (e:o cf fr h=.ok (.str s) h1) (ev:evs xs cf fr h1=.ok vs h2) (ec:yP m (.str s) vs h2=res):zB o name (some m) xs cf fr h=res:=by
 unfold zB
 rw [e]
 show (evs xs cf fr h1).bind0 _=_
 rw [ev];exact ec
theorem zp {n:Str} (ev:evs xs cf fr h=.ok vs h2) (ec:cf (.fn n) vs h2=res):zC (zA (some (.fn n))) xs cf fr h=res:=by
 unfold zC
 show (evs xs cf fr h).bind0 _=_
 rw [ev];exact ec
theorem z34 {n:Str} (ev:evs xs cf fr h=.ok vs h2) (ec:cf (.cls n) vs h2=res):zC (zA (some (.cls n))) xs cf fr h=res:=by
 unfold zC
 show (evs xs cf fr h).bind0 _=_
 rw [ev];exact ec
theorem yv {b:Bi} (ev:evs xs cf fr h=.ok vs h2) (ec:xI b vs h2=res):zC (zA (some (.bi b))) xs cf fr h=res:=by
 unfold zC
 show (evs xs cf fr h).bind0 _=_
 rw [ev];exact ec
theorem ev0:evs [] cf fr h=.ok [] h:=rfl
theorem ev1 (e:x cf fr h=.ok v h1) (e':evs xs cf fr h1=.ok vs h2):evs (x::xs) cf fr h=.ok (v::vs) h2:=by
 show Out.bind (x cf fr h) _=_
 rw [e]
 show Out.bind (evs xs cf fr h1) _=_
 rw [e'];rfl
theorem yR {op:Operator} (e:x cf fr h=.ok v h1) (e':y cf fr h1=.ok w h2) (eb:Zy op v w h2=res):zV op x y cf fr h=res:=by
 unfold zV
 rw [e]
 show Out.bind (y cf fr h1) _=_
 rw [e'];exact eb
theorem zv (e:o cf fr h=.ok v h1) (e':i cf fr h1=.ok w h2) (eb:qj h2 v w=some k):zF o i cf fr h=.ok k h2:=by
 unfold zF
 rw [e]
 show Out.bind (i cf fr h1) _=_
 rw [e']
 show Out.of (qj h2 v w) h2=_
 rw [eb];rfl
theorem XU (e:o cf fr h=.ok v h1) (e':l cf fr h1=.ok a' h2) (e'':u cf fr h2=.ok b' h3) (eb:z0u h3 v a' b'=res):wn o l u cf fr h=res:=by
 unfold wn
 rw [e]
 show Out.bind (l cf fr h1) _=_
 rw [e']
 show Out.bind (u cf fr h2) _=_
 rw [e''];exact eb
theorem wO {t:NTgt} {en:Bool} {body:XS} {src:Src} {m:Nat} (e:x cf fr h=.ok v h1) (es:yk h1 v=some (src,m)) (ef:q7 t body src (m+1) 0 cf fr h1=resS):qI t x false body cf fr h=resS:=by
 unfold qI
 rw [e]
 show (match yk h1 v with | none=>OS.stuck | some (src,n)=>q7 t body src (n+1) 0 cf fr h1)=_
 rw [es];exact ef
theorem zBg {is:List Nat} {body:XS} {m:Nat} (e:x cf fr h=.ok v h1) (es:yk h1 v=some (.ref a,m)) (ef:q7 (.many is) body (.enum a) (m+1) 0 cf fr h1=resS):qI (.many is) x true body cf fr h=resS:=by
 unfold qI
 rw [e]
 show (match yk h1 v with | none=>OS.stuck | some (src,n)=>(match src with
   | .ref a=>q7 (.many is) body (.enum a) (n+1) 0 cf fr h1
   | _=>.stuck))=_
 rw [es];exact ef
theorem zy (ev:evs xs cf fr h=.ok vs h1):zX xs cf fr h=.ok (.ref h1.length) (h1++[.list vs]):=by
 unfold zX;rw [ev];rfl
theorem q6 (ev:evs xs cf fr h=.ok vs h1):xU xs cf fr h=.ok (.tup vs) h1:=by
 unfold xU;rw [ev];rfl
theorem yg (e:x cf fr h=.ok v h1) {b:Bool} (eb:xV h1 v=some b):y6 x cf fr h=.ok b h1:=by
 unfold y6;rw [e]
 show Out.of (xV h1 v) h1=_
 rw [eb];rfl
theorem yO {t:XT} {b:Bool} (e:t cf fr h=.ok b h1):ym t cf fr h=.ok (!b) h1:=by
 unfold ym;rw [e];rfl
theorem ZS (e:x cf fr h=.ok v h1) (eo:o cf fr h1=.ok w h2) (ei:i cf fr h2=.ok k h3) {h4:Hp} (es:qH h3 w k v=some h4):z9 okf (.item o i) x cf fr h=.ok .next fr h4:=by
 unfold z9
 rw [e]
 show Out.bindS (o cf fr h1) fr _=_
 rw [eo]
 show Out.bindS (i cf fr h2) fr _=_
 rw [ei]
 show (match qH h3 w k v with | some h₄=>OS.ok .next fr h₄ | none=>.stuck)=_
 rw [es]
theorem zS {op:CmpOp} {b:Bool} (e:x cf fr h=.ok v h1) (e':y cf fr h1=.ok w h2) (eb:yZ op v w h2=some b):zR x [op] [y] cf fr h=.ok b h2:=by
 unfold zR
 rw [e]
 show wG v [op] [y] cf fr h1=_
 rw [YS,e']
 show Out.of (yZ op v w h2) h2=_
 rw [eb];rfl
theorem xP {t:XT} {ts:List XT} {b:Bool} (e:t cf fr h=.ok false h1) (e':zQ .Or ts cf fr h1=.ok b h2):zQ .Or (t::ts) cf fr h=.ok b h2:=by
 show (t cf fr h).bind _=_
 rw [e];exact e'
theorem ZQ {t:XT} {ts:List XT} (e:t cf fr h=.ok true h1):zQ .Or (t::ts) cf fr h=.ok true h1:=by
 show (t cf fr h).bind _=_
 rw [e];rfl
theorem qJ:zQ .Or [] cf fr h=.ok false h:=rfl
theorem xD {t:XT} {ts:List XT} {b:Bool} (e:t cf fr h=.ok true h1) (e':zQ .And ts cf fr h1=.ok b h2):zQ .And (t::ts) cf fr h=.ok b h2:=by
 show (t cf fr h).bind _=_
 rw [e];exact e'
theorem xC {t:XT} {ts:List XT} (e:t cf fr h=.ok false h1):zQ .And (t::ts) cf fr h=.ok false h1:=by
 show (t cf fr h).bind _=_
 rw [e];rfl
theorem qw:zQ .And [] cf fr h=.ok true h:=rfl
end
theorem WE {cf:CF} {fr:AFr} {h h1 h2:Hp} {x y:XE} {zs:List XE} {v w:AV} {op op':CmpOp} {ops:List CmpOp} (e:x cf fr h=.ok v h1) (e':y cf fr h1=.ok w h2) (eb:yZ op v w h2=some false):zR x (op::op'::ops) (y::zs) cf fr h=.ok false h2:=by
 unfold zR
 rw [e]
 show wG v (op::op'::ops) (y::zs) cf fr h1=_
 rw [YR,e']
 show (match yZ op v w h2 with | some true=>_ | some false=>_ | none=>_)=_
 rw [eb]
theorem xq {cf:CF} {fr:AFr} {h h1 h2 h3:Hp} {x y z:XE} {v w u:AV} {b:Bool} {op op':CmpOp} (e:x cf fr h=.ok v h1) (e':y cf fr h1=.ok w h2) (eb:yZ op v w h2=some true) (ez:z cf fr h2=.ok u h3) (ec:yZ op' w u h3=some b):zR x [op,op'] [y,z] cf fr h=.ok b h3:=by
 unfold zR
 rw [e]
 show wG v [op,op'] [y,z] cf fr h1=_
 rw [YR,e']
 show (match yZ op v w h2 with | some true=>wG w [op'] [z] cf fr h2 | some false=>_ | none=>_)=_
 rw [eb]
 show wG w [op'] [z] cf fr h2=_
 rw [YS,ez]
 show Out.of (yZ op' w u h3) h3=_
 rw [ec];rfl
theorem qb {x:Int} {n:Nat} (h0:0≤x) (h1:x<n):x.toNat<n:=(Int.toNat_lt h0).mpr h1
theorem YX {x:Int} {n k:Nat} (h0:0≤x) (h1:x<((n+k:Nat):Int)) (h2:¬ x<n):x.toNat - n<k:=Nat.sub_lt_left_of_lt_add (Int.ofNat_le.mp (by rw [Int.toNat_of_nonneg h0];exact Int.not_lt.mp h2)) ((Int.toNat_lt h0).mpr h1)
theorem Y1 {x:Int} {n:Nat} (h0:0≤x) (h2:¬ x<n):((n+(x.toNat - n):Nat):Int)=x:=by
 rw [Nat.add_sub_cancel' (Int.ofNat_le.mp (by rw [Int.toNat_of_nonneg h0];exact Int.not_lt.mp h2)),Int.toNat_of_nonneg h0]
theorem X9 {x:Int} {n:Nat} (k:Nat) (h:x<n):x<((n+k:Nat):Int):=Int.lt_of_lt_of_le h (Int.ofNat_le.mpr (Nat.le_add_right _ _))
theorem zB9 {i j:Int} {m:Nat} (h0:0≤i) (h1:i<j) (h5:j≤i+5):min j.toNat m - i.toNat≤5:=by
 have h:=Int.toNat_le_toNat h5
 rw [show i+5=i+((5:Nat):Int) from rfl,Int.toNat_add_nat h0 5,Nat.add_comm] at h
 exact Nat.sub_le_of_le_add (Nat.le_trans (Nat.min_le_left _ _) h)
theorem QI {a b m:Nat} (h:a+m<200) (h':b≤m):a+b<200:=Nat.lt_of_le_of_lt (Nat.add_le_add_left h' a) h
end Mine
end
section
namespace Mine.LS
open PySem Mine
set_option maxRecDepth 100000
noncomputable def kBn (okf:Str→Str→Bool):Fn:=⟨1,1,(zD [(zf (wX .And [(zC (zA (some (.bi .isinstance))) [(z6 0),(zA (some (.bi .int)))]),(X6 (zC (zA (some (.bi .isinstance))) [(z6 0),(zA (some (.bi .bool)))]))]))])⟩
noncomputable def kBs (okf:Str→Str→Bool):Fn:=⟨1,1,(zD [(z9 okf (.attr (z6 0) "line") (zX [])),(z9 okf (.attr (z6 0) "flags") (zX []))])⟩
noncomputable def kAq (okf:Str→Str→Bool):Fn:=⟨2,2,(zD [(sIf (zQ .Or [(ym (y6 (zC (zA (some (.fn "is_whole"))) [(z6 1)]))),(ym (zR (z8 (.int 0)) [.LtE,.Lt] [(z6 1),(zC (zA (some (.bi .len))) [(zG (z6 0) "flags")])]))]) (zD [yE]) (zD []))])⟩
noncomputable def kBx (okf:Str→Str→Bool):Fn:=⟨2,4,(zD [(z9 okf (.names (.one 2)) (z8 (.int 0))),(sIf (zR (z6 1) [.IsNot] [(z8 .none)]) (zD [(zN (zB (z6 0) "need_seat" none [(z6 1)])),(z9 okf (.names (.one 2)) (zV .Add (zB (zG (z6 0) "line") "index" (some .index) [(z6 1)]) (z8 (.int 1))))]) (zD [])),(z9 okf (.names (.one 3)) (zC (zA (some (.bi .len))) [(zG (z6 0) "flags")])),(zN (zB (zG (z6 0) "line") "insert" (some .insert) [(z6 2),(z6 3)])),(zN (zB (zG (z6 0) "flags") "append" (some .append) [(z8 (.bool false))])),(zf (z6 3))])⟩
noncomputable def kBt (okf:Str→Str→Bool):Fn:=⟨3,3,(zD [(zN (zB (z6 0) "need_seat" none [(z6 1)])),(z9 okf (.item (zG (z6 0) "flags") (z6 1)) (z6 2))])⟩
noncomputable def kAu (okf:Str→Str→Bool):Fn:=⟨2,2,(zD [(zN (zB (z6 0) "need_seat" none [(z6 1)])),(zf (zF (zG (z6 0) "flags") (z6 1)))])⟩
noncomputable def kAn (okf:Str→Str→Bool):Fn:=⟨1,1,(zD [(zf (zB (zG (z6 0) "flags") "count" (some .count) [(z8 (.bool true))]))])⟩
noncomputable def kBh (okf:Str→Str→Bool):Fn:=⟨2,3,(zD [(zN (zB (z6 0) "need_seat" none [(z6 1)])),(z9 okf (.names (.one 2)) (wn (zG (z6 0) "line") (z8 .none) (zB (zG (z6 0) "line") "index" (some .index) [(z6 1)]))),(zf (zC (zA (some (.bi .len))) [(zj (z6 2) 1 (.one 3) (zQ .And [(y6 (zF (zG (z6 0) "flags") (z6 3)))]) (z6 3))]))])⟩
noncomputable def kBq (okf:Str→Str→Bool):Fn:=⟨2,3,(zD [(z9 okf (.names (.one 2)) (zj (zG (z6 0) "line") 1 (.one 3) (zQ .And [(y6 (zF (zG (z6 0) "flags") (z6 3)))]) (z6 3))),(sIf (zQ .Or [(ym (y6 (zC (zA (some (.fn "is_whole"))) [(z6 1)]))),(ym (zR (z8 (.int 0)) [.LtE,.Lt] [(z6 1),(zC (zA (some (.bi .len))) [(z6 2)])]))]) (zD [yE]) (zD [])),(zf (zF (z6 2) (z6 1)))])⟩
noncomputable def kAt (okf:Str→Str→Bool):Fn:=⟨3,3,(zD [(zN (zB (z6 0) "need_seat" none [(z6 1)])),(zN (zB (z6 0) "need_seat" none [(z6 2)])),(zf (qq (zB (zG (z6 0) "line") "index" (some .index) [(z6 1)]) [.Lt] [(zB (zG (z6 0) "line") "index" (some .index) [(z6 2)])]))])⟩
noncomputable def kBi (okf:Str→Str→Bool):Fn:=⟨1,1,(zD [(zf (zC (zA (some (.bi .list))) [(zG (z6 0) "line")]))])⟩
noncomputable def kB0 (okf:Str→Str→Bool):Fn:=⟨1,1,(zD [(zf (wX .And [(zC (zA (some (.bi .isinstance))) [(z6 0),(zA (some (.bi .str)))]),(zC (zA (some (.bi .all))) [(zj (z6 0) 1 (.one 1) (zQ .And []) (qq (z6 1) [.In] [(zA (some (.str " !\"#$&'()*+,-./0123456789:;<=>?@ABCDEFGHIJKLMNOPQRSTUVWXYZ[\\]^_`abcdefghijklmnopqrstuvwxyz{|}~\n")))]))])]))])⟩
noncomputable def kBb (okf:Str→Str→Bool):Fn:=⟨3,3,(zD [(sIf (ym (y6 (zC (zA (some (.fn "is_text"))) [(z6 1)]))) (zD [yE]) (zD [])),(sIf (zQ .Or [(ym (y6 (zC (zA (some (.fn "is_whole"))) [(z6 2)]))),(ym (zR (z8 (.int 1)) [.LtE,.LtE] [(z6 2),(zA (some (.int 9)))]))]) (zD [yE]) (zD [])),(z9 okf (.attr (z6 0) "hands") (z6 2)),(z9 okf (.attr (z6 0) "row") (zC (zA (some (.cls "Row"))) [])),(z9 okf (.attr (z6 0) "owners") (zX [])),(z9 okf (.attr (z6 0) "letters") (zX [])),(z9 okf (.attr (z6 0) "firsts") (zX [])),(z9 okf (.attr (z6 0) "moved") (zX [])),(z9 okf (.attr (z6 0) "bringers") (zX [])),(z9 okf (.attr (z6 0) "cutters") (zX [])),(z9 okf (.attr (z6 0) "done") (zX [])),(z9 okf (.attr (z6 0) "standing") (zX [])),(z9 okf (.attr (z6 0) "lost") (zX [])),(zN (zB (z6 0) "bring" none [(z6 1),(z8 .none),(z8 .none)]))])⟩
noncomputable def kAz (okf:Str→Str→Bool):Fn:=⟨4,6,(zD [(z9 okf (.names (.one 4)) (zX [])),(qI (.one 5) (z6 1) false (zD [(z9 okf (.names (.one 2)) (zB (zG (z6 0) "row") "add" none [(z6 2)])),(zN (zB (zG (z6 0) "owners") "append" (some .append) [(zC (zA (some (.bi .len))) [(zG (z6 0) "letters")])])),(zN (zB (z6 4) "append" (some .append) [(zC (zA (some (.bi .len))) [(zG (z6 0) "letters")])])),(zN (zB (zG (z6 0) "letters") "append" (some .append) [(z6 5)])),(zN (zB (zG (z6 0) "firsts") "append" (some .append) [(z6 2)])),(zN (zB (zG (z6 0) "moved") "append" (some .append) [(zX [])])),(zN (zB (zG (z6 0) "bringers") "append" (some .append) [(z6 3)])),(zN (zB (zG (z6 0) "cutters") "append" (some .append) [(zX [])])),(zN (zB (zG (z6 0) "row") "take" none [(z6 2),(z8 (.bool true))]))])),(zf (z6 4))])⟩
noncomputable def kAg (okf:Str→Str→Bool):Fn:=⟨2,2,(zD [(sIf (zQ .Or [(ym (y6 (zC (zA (some (.fn "is_whole"))) [(z6 1)]))),(ym (zR (z8 (.int 0)) [.LtE,.Lt] [(z6 1),(zG (z6 0) "hands")]))]) (zD [yE]) (zD []))])⟩
noncomputable def kAi (okf:Str→Str→Bool):Fn:=⟨2,2,(zD [(sIf (zQ .Or [(ym (y6 (zC (zA (some (.fn "is_whole"))) [(z6 1)]))),(ym (zR (z8 (.int 0)) [.LtE,.Lt] [(z6 1),(zC (zA (some (.bi .len))) [(zG (z6 0) "letters")])]))]) (zD [yE]) (zD []))])⟩
noncomputable def kAd (okf:Str→Str→Bool):Fn:=⟨2,2,(zD [(sIf (zQ .Or [(ym (y6 (zC (zA (some (.fn "is_whole"))) [(z6 1)]))),(ym (zR (z8 (.int 0)) [.LtE,.LtE] [(z6 1),(zB (z6 0) "size" none [])]))]) (zD [yE]) (zD []))])⟩
noncomputable def kAb (okf:Str→Str→Bool):Fn:=⟨3,3,(zD [(zN (zB (z6 0) "need_place" none [(z6 1)])),(zN (zB (z6 0) "need_place" none [(z6 2)])),(sIf (zR (z6 1) [.GtE] [(z6 2)]) (zD [yE]) (zD []))])⟩
noncomputable def kAh (okf:Str→Str→Bool):Fn:=⟨2,2,(zD [(sIf (zQ .Or [(ym (y6 (zC (zA (some (.fn "is_whole"))) [(z6 1)]))),(ym (zR (z8 (.int 0)) [.LtE,.Lt] [(z6 1),(zC (zA (some (.bi .len))) [(zG (z6 0) "done")])]))]) (zD [yE]) (zD []))])⟩
noncomputable def kAp (okf:Str→Str→Bool):Fn:=⟨2,5,(zD [(z9 okf (.names (.one 2)) (zF (zG (z6 0) "firsts") (z6 1))),(qI (.many [3,4]) (zF (zG (z6 0) "moved") (z6 1)) false (zD [(sIf (y6 (zF (zG (z6 0) "standing") (z6 3))) (zD [(z9 okf (.names (.one 2)) (z6 4))]) (zD []))])),(zf (z6 2))])⟩
noncomputable def kAk (okf:Str→Str→Bool):Fn:=⟨2,3,(zD [(z9 okf (.names (.one 2)) (zF (zG (z6 0) "bringers") (z6 1))),(sIf (zQ .And [(zR (z6 2) [.IsNot] [(z8 .none)]),(ym (y6 (zF (zG (z6 0) "standing") (z6 2))))]) (zD [(zf (z8 (.bool false)))]) (zD [])),(zf (X6 (zC (zA (some (.bi .any))) [(zj (zF (zG (z6 0) "cutters") (z6 1)) 1 (.one 3) (zQ .And []) (zF (zG (z6 0) "standing") (z6 3)))])))])⟩
noncomputable def kAv (okf:Str→Str→Bool):Fn:=⟨2,5,(zD [(qI (.one 2) (z6 1) false (zD [(zN (zB (zG (z6 0) "row") "take" none [(zF (zG (z6 0) "firsts") (z6 2)),(z8 (.bool false))])),(qI (.many [3,4]) (zF (zG (z6 0) "moved") (z6 2)) false (zD [(zN (zB (zG (z6 0) "row") "take" none [(z6 4),(z8 (.bool false))]))])),(sIf (y6 (zB (z6 0) "is_shown" none [(z6 2)])) (zD [(zN (zB (zG (z6 0) "row") "take" none [(zB (z6 0) "seat_of" none [(z6 2)]),(z8 (.bool true))]))]) (zD []))]))])⟩
noncomputable def kA4 (okf:Str→Str→Bool):Fn:=⟨1,1,(zD [(zf (zB (zG (z6 0) "row") "all_taken" none []))])⟩
noncomputable def kAw (okf:Str→Str→Bool):Fn:=⟨1,1,(zD [(zf (zj (zB (zG (z6 0) "row") "order" none []) 1 (.one 1) (zQ .And [(y6 (zB (zG (z6 0) "row") "is_taken" none [(z6 1)]))]) (zF (zG (z6 0) "owners") (z6 1))))])⟩
noncomputable def kA8 (okf:Str→Str→Bool):Fn:=⟨1,1,(zD [(zf (zB (z8 (.str "")) "join" (some .join) [(zj (zB (z6 0) "shown" none []) 1 (.one 1) (zQ .And []) (zF (zG (z6 0) "letters") (z6 1)))]))])⟩
noncomputable def kA7 (okf:Str→Str→Bool):Fn:=⟨1,1,(zD [(zf (zC (zA (some (.bi .len))) [(zG (z6 0) "letters")]))])⟩
noncomputable def kAo (okf:Str→Str→Bool):Fn:=⟨2,2,(zD [(zf (zF (zG (z6 0) "owners") (zB (zG (z6 0) "row") "find" none [(z6 1)])))])⟩
noncomputable def kAl (okf:Str→Str→Bool):Fn:=⟨2,2,(zD [(zN (zB (z6 0) "need_sign" none [(z6 1)])),(zf (xU [(zB (zG (z6 0) "row") "ahead" none [(zB (z6 0) "seat_of" none [(z6 1)])]),(zB (z6 0) "is_shown" none [(z6 1)])]))])⟩
noncomputable def kAj (okf:Str→Str→Bool):Fn:=⟨3,3,(zD [(zN (zB (z6 0) "need_sign" none [(z6 1)])),(zN (zB (z6 0) "need_sign" none [(z6 2)])),(zf (zB (zG (z6 0) "row") "is_ahead" none [(zB (z6 0) "seat_of" none [(z6 1)]),(zB (z6 0) "seat_of" none [(z6 2)])]))])⟩
noncomputable def kAc (okf:Str→Str→Bool):Fn:=⟨2,2,(zD [(sIf (zR (z6 1) [.Eq] [(z8 (.int 0))]) (zD [(zf (z8 .none))]) (zD [])),(zf (zB (zG (z6 0) "row") "find" none [(zV .Sub (z6 1) (z8 (.int 1)))]))])⟩
noncomputable def kA2 (okf:Str→Str→Bool):Fn:=⟨4,4,(zD [(zN (zB (zG (z6 0) "done") "append" (some .append) [(xU [(z6 1),(z6 2),(z6 3)])])),(zN (zB (z6 0) "seated" none [(z6 3)])),(zf (zV .Sub (zC (zA (some (.bi .len))) [(zG (z6 0) "done")]) (z8 (.int 1))))])⟩
noncomputable def kBd (okf:Str→Str→Bool):Fn:=⟨4,4,(zD [(zN (zB (z6 0) "need_hand" none [(z6 1)])),(zN (zB (z6 0) "need_place" none [(z6 2)])),(sIf (zQ .Or [(ym (y6 (zC (zA (some (.fn "is_text"))) [(z6 3)]))),(zR (z6 3) [.Eq] [(z8 (.str ""))])]) (zD [yE]) (zD [])),(zN (zB (zG (z6 0) "standing") "append" (some .append) [(z8 (.bool true))])),(zf (zB (z6 0) "noted" none [(z6 1),(z8 (.str "put")),(zB (z6 0) "bring" none [(z6 3),(zB (z6 0) "seat_ahead" none [(z6 2)]),(zC (zA (some (.bi .len))) [(zG (z6 0) "done")])])]))])⟩
noncomputable def kBg (okf:Str→Str→Bool):Fn:=⟨4,6,(zD [(zN (zB (z6 0) "need_hand" none [(z6 1)])),(zN (zB (z6 0) "need_stretch" none [(z6 2),(z6 3)])),(z9 okf (.names (.one 4)) (wn (zB (z6 0) "shown" none []) (z6 2) (z6 3))),(zN (zB (zG (z6 0) "standing") "append" (some .append) [(z8 (.bool true))])),(qI (.one 5) (z6 4) false (zD [(zN (zB (zF (zG (z6 0) "cutters") (z6 5)) "append" (some .append) [(zC (zA (some (.bi .len))) [(zG (z6 0) "done")])]))])),(zf (zB (z6 0) "noted" none [(z6 1),(z8 (.str "cut")),(z6 4)]))])⟩
noncomputable def kA3 (okf:Str→Str→Bool):Fn:=⟨5,8,(zD [(zN (zB (z6 0) "need_hand" none [(z6 1)])),(zN (zB (z6 0) "need_stretch" none [(z6 2),(z6 3)])),(zN (zB (z6 0) "need_place" none [(z6 4)])),(sIf (zR (z6 2) [.Lt,.Lt] [(z6 4),(z6 3)]) (zD [yE]) (zD [])),(z9 okf (.names (.one 5)) (wn (zB (z6 0) "shown" none []) (z6 2) (z6 3))),(z9 okf (.names (.one 6)) (zB (z6 0) "seat_ahead" none [(z6 4)])),(zN (zB (zG (z6 0) "standing") "append" (some .append) [(z8 (.bool true))])),(qI (.one 7) (z6 5) false (zD [(z9 okf (.names (.one 6)) (zB (zG (z6 0) "row") "add" none [(z6 6)])),(zN (zB (zG (z6 0) "owners") "append" (some .append) [(z6 7)])),(zN (zB (zF (zG (z6 0) "moved") (z6 7)) "append" (some .append) [(xU [(zC (zA (some (.bi .len))) [(zG (z6 0) "done")]),(z6 6)])]))])),(zf (zB (z6 0) "noted" none [(z6 1),(z8 (.str "move")),(z6 5)]))])⟩
noncomputable def kAr (okf:Str→Str→Bool):Fn:=⟨2,2,(zD [(zN (zB (z6 0) "need_deed" none [(z6 1)])),(zf (zF (zG (z6 0) "standing") (z6 1)))])⟩
noncomputable def kAe (okf:Str→Str→Bool):Fn:=⟨2,2,(zD [(sIf (ym (y6 (zB (z6 0) "stands" none [(z6 1)]))) (zD [yE]) (zD [])),(z9 okf (.item (zG (z6 0) "standing") (z6 1)) (z8 (.bool false))),(zN (zB (zG (z6 0) "lost") "append" (some .append) [(z6 1)])),(zN (zB (z6 0) "seated" none [(zF (zF (zG (z6 0) "done") (z6 1)) (z8 (.int 2)))]))])⟩
noncomputable def kAm (okf:Str→Str→Bool):Fn:=⟨2,2,(zD [(sIf (y6 (zB (z6 0) "stands" none [(z6 1)])) (zD [yE]) (zD [])),(z9 okf (.item (zG (z6 0) "standing") (z6 1)) (z8 (.bool true))),(zN (zB (zG (z6 0) "lost") "remove" (some .remove) [(z6 1)])),(zN (zB (z6 0) "seated" none [(zF (zF (zG (z6 0) "done") (z6 1)) (z8 (.int 2)))]))])⟩
noncomputable def kAa (okf:Str→Str→Bool):Fn:=⟨2,4,(zD [(zN (zB (z6 0) "need_hand" none [(z6 1)])),(z9 okf (.names (.one 2)) (z8 .none)),(qI (.one 3) (zC (zA (some (.bi .range))) [(zC (zA (some (.bi .len))) [(zG (z6 0) "done")])]) false (zD [(sIf (zQ .And [(zR (zF (zF (zG (z6 0) "done") (z6 3)) (z8 (.int 0))) [.Eq] [(z6 1)]),(y6 (zF (zG (z6 0) "standing") (z6 3)))]) (zD [(z9 okf (.names (.one 2)) (z6 3))]) (zD []))])),(zf (z6 2))])⟩
noncomputable def kAf (okf:Str→Str→Bool):Fn:=⟨2,4,(zD [(zN (zB (z6 0) "need_hand" none [(z6 1)])),(z9 okf (.names (.one 2)) (z8 .none)),(qI (.one 3) (zG (z6 0) "lost") false (zD [(sIf (zR (zF (zF (zG (z6 0) "done") (z6 3)) (z8 (.int 0))) [.Eq] [(z6 1)]) (zD [(z9 okf (.names (.one 2)) (z6 3))]) (zD []))])),(zf (z6 2))])⟩
noncomputable def kA0 (okf:Str→Str→Bool):Fn:=⟨2,2,(zD [(sIf (zR (z6 1) [.Lt] [(zC (zA (some (.bi .len))) [(z6 0)])]) (zD [(zf (zF (z6 0) (z6 1)))]) (zD [])),(zf (z8 (.int 0)))])⟩
noncomputable def kBf (okf:Str→Str→Bool):Fn:=⟨2,3,(zD [(z9 okf (.names (.one 2)) (zV .Mod (zV .Add (zV .Add (zV .Mult (z6 0) (z8 (.int 48271))) (zV .Mult (z8 (.int 7919)) (z6 1))) (z8 (.int 12345))) (z8 (.int 2147483647)))),(zf (zV .Mod (zV .Mult (zV .Mod (zV .Mult (z6 2) (z6 2)) (z8 (.int 2147483647))) (z6 2)) (z8 (.int 2147483647))))])⟩
noncomputable def kAx (okf:Str→Str→Bool):Fn:=⟨2,3,(zD [(z9 okf (.names (.one 2)) (z8 (.str " !\"#$&'()*+,-./0123456789:;<=>?@ABCDEFGHIJKLMNOPQRSTUVWXYZ[\\]^_`"))),(z9 okf (.names (.one 2)) (zV .Add (z6 2) (z8 (.str "abcdefghijklmnopqrstuvwxyz{|}~\n")))),(zf (zB (z8 (.str "")) "join" (some .join) [(zj (zC (zA (some (.bi .range))) [(z6 1)]) 1 (.one 3) (zQ .And []) (zF (z6 2) (zV .Mod (zV .FloorDiv (zC (zA (some (.fn "_law_mixed"))) [(z6 0),(z6 3)]) (z8 (.int 8))) (z8 (.int 95)))))]))])⟩
noncomputable def kAy (okf:Str→Str→Bool):Fn:=⟨1,1,(zD [(sIf (zR (zV .Mod (zV .FloorDiv (z6 0) (z8 (.int 13))) (z8 (.int 8))) [.Eq] [(z8 (.int 1))]) (zD [(zf (zV .Add (z8 (.int 30)) (zV .Mod (zV .FloorDiv (z6 0) (z8 (.int 104))) (z8 (.int 31)))))]) (zD [])),(zf (zV .Mod (z6 0) (z8 (.int 13))))])⟩
noncomputable def kBc (okf:Str→Str→Bool):Fn:=⟨2,3,(zD [(z9 okf (.names (.one 2)) (jw ["row", "faces", "came"] [(zj (zC (zA (some (.bi .range))) [(zC (zA (some (.bi .len))) [(z6 0)])]) 1 (.one 3) (zQ .And []) (xU [(z6 3),(z8 .none)])),(zC (zA (some (.bi .list))) [(z6 0)]),(zV .Mult (zX [(z8 .none)]) (zC (zA (some (.bi .len))) [(z6 0)]))])),(zN (zB (z6 2) "update" (some .update) [(jw ["cuts", "deeds", "stays", "hands", "gone"] [(zj (z6 0) 1 (.one 3) (zQ .And []) (zX [])),(zX []),(zX []),(z6 1),(zX [])])])),(zf (z6 2))])⟩
noncomputable def kBo (okf:Str→Str→Bool):Fn:=⟨1,4,(zD [(z9 okf (.names (.one 1)) z0z),(qI (.many [2,3]) (zF (z6 0) (z8 (.str "row"))) false (zD [(sIf (zQ .Or [(zR (z6 3) [.Is] [(z8 .none)]),(y6 (zF (zF (z6 0) (z8 (.str "stays"))) (z6 3)))]) (zD [(sIf (zQ .Or [(zR (z6 2) [.NotIn] [(z6 1)]),(zR (zF (z6 1) (z6 2)) [.Is] [(z8 .none)]),(zQ .And [(zR (z6 3) [.IsNot] [(z8 .none)]),(zR (z6 3) [.Gt] [(zF (z6 1) (z6 2))])])]) (zD [(z9 okf (.item (z6 1) (z6 2)) (z6 3))]) (zD []))]) (zD []))])),(zf (z6 1))])⟩
noncomputable def kAs (okf:Str→Str→Bool):Fn:=⟨2,2,(zD [(sIf (zQ .And [(zR (zF (zF (z6 0) (z8 (.str "came"))) (z6 1)) [.IsNot] [(z8 .none)]),(ym (y6 (zF (zF (z6 0) (z8 (.str "stays"))) (zF (zF (z6 0) (z8 (.str "came"))) (z6 1)))))]) (zD [(zf (z8 (.bool false)))]) (zD [])),(zf (qq (zj (zF (zF (z6 0) (z8 (.str "cuts"))) (z6 1)) 1 (.one 2) (zQ .And [(y6 (zF (zF (z6 0) (z8 (.str "stays"))) (z6 2)))]) (z6 2)) [.Eq] [(zX [])]))])⟩
noncomputable def kBj (okf:Str→Str→Bool):Fn:=⟨1,5,(zD [(z9 okf (.names (.one 1)) (zC (zA (some (.fn "_law_sits"))) [(z6 0)])),(z9 okf (.names (.one 2)) (zX [])),(qI (.many [3,4]) (zF (z6 0) (z8 (.str "row"))) false (zD [(sIf (zQ .And [(zR (zF (z6 1) (z6 3)) [.Eq] [(z6 4)]),(y6 (zC (zA (some (.fn "_law_is_shown"))) [(z6 0),(z6 3)]))]) (zD [(zN (zB (z6 2) "append" (some .append) [(z6 3)]))]) (zD []))])),(zf (z6 2))])⟩
noncomputable def kB5 (okf:Str→Str→Bool):Fn:=⟨2,3,(zD [(sIf (zR (z6 1) [.Eq] [(z8 (.int 0))]) (zD [(zf (z8 (.int 0)))]) (zD [])),(z9 okf (.names (.one 2)) (zF (zC (zA (some (.fn "_law_shown"))) [(z6 0)]) (zV .Sub (z6 1) (z8 (.int 1))))),(zf (zV .Add (zB (zF (z6 0) (z8 (.str "row"))) "index" (some .index) [(xU [(z6 2),(zF (zC (zA (some (.fn "_law_sits"))) [(z6 0)]) (z6 2))])]) (z8 (.int 1))))])⟩
noncomputable def kBm (okf:Str→Str→Bool):Fn:=⟨2,13,(zD [(z9 okf (.names (.many [2,3,4,5,6,7])) (z6 1)),(z9 okf (.names (.one 8)) (zC (zA (some (.bi .len))) [(zF (z6 0) (z8 (.str "deeds")))])),(z9 okf (.names (.one 9)) (zC (zA (some (.fn "_law_shown"))) [(z6 0)])),(z9 okf (.names (.one 10)) (wn (z6 9) (z6 4) (z6 5))),(sIf (zR (z6 3) [.Eq] [(z8 (.str "put"))]) (zD [(z9 okf (.names (.one 11)) (zC (zA (some (.fn "_law_at"))) [(z6 0),(z6 6)])),(z9 okf (.names (.one 10)) (zC (zA (some (.bi .list))) [(zC (zA (some (.bi .range))) [(zC (zA (some (.bi .len))) [(zF (z6 0) (z8 (.str "faces")))]),(zV .Add (zC (zA (some (.bi .len))) [(zF (z6 0) (z8 (.str "faces")))]) (zC (zA (some (.bi .len))) [(z6 7)]))])])),(zN (zB (zF (z6 0) (z8 (.str "faces"))) "extend" (some .extend) [(zC (zA (some (.bi .list))) [(z6 7)])])),(zN (zB (zF (z6 0) (z8 (.str "came"))) "extend" (some .extend) [(zV .Mult (zX [(z6 8)]) (zC (zA (some (.bi .len))) [(z6 7)]))])),(zN (zB (zF (z6 0) (z8 (.str "cuts"))) "extend" (some .extend) [(zj (z6 10) 1 (.one 13) (zQ .And []) (zX []))])),(z9 okf (.cut (zF (z6 0) (z8 (.str "row"))) (z6 11) (z6 11)) (zj (z6 10) 1 (.one 13) (zQ .And []) (xU [(z6 13),(z8 .none)])))]) (zD [(sIf (zR (z6 3) [.Eq] [(z8 (.str "cut"))]) (zD [(qI (.one 12) (z6 10) false (zD [(zN (zB (zF (zF (z6 0) (z8 (.str "cuts"))) (z6 12)) "append" (some .append) [(z6 8)]))]))]) (zD [(z9 okf (.names (.one 11)) (zC (zA (some (.fn "_law_at"))) [(z6 0),(z6 6)])),(z9 okf (.cut (zF (z6 0) (z8 (.str "row"))) (z6 11) (z6 11)) (zj (z6 10) 1 (.one 13) (zQ .And []) (xU [(z6 13),(z6 8)])))]))])),(zN (zB (zF (z6 0) (z8 (.str "deeds"))) "append" (some .append) [(xU [(z6 2),(z6 3),(z6 10)])])),(zN (zB (zF (z6 0) (z8 (.str "stays"))) "append" (some .append) [(z8 (.bool true))])),(zf (z6 8))])⟩
noncomputable def kA1 (okf:Str→Str→Bool):Fn:=⟨3,8,(zD [(z9 okf (.names (.one 3)) (zV .Mod (z6 0) (z6 2))),(z9 okf (.names (.one 4)) (zV .Mod (zV .FloorDiv (z6 0) (z8 (.int 9))) (z8 (.int 8)))),(z9 okf (.names (.one 5)) (zV .Mod (zV .FloorDiv (z6 0) (z8 (.int 72))) (zC (zA (some (.bi .max))) [(z8 (.int 1)),(z6 1)]))),(z9 okf (.names (.one 6)) (zC (zA (some (.bi .min))) [(z6 1),(zV .Add (zV .Add (z6 5) (z8 (.int 1))) (zV .Mod (zV .FloorDiv (z6 0) (z8 (.int 1009))) (z8 (.int 5))))])),(z9 okf (.names (.one 7)) (zV .Mod (zV .FloorDiv (z6 0) (z8 (.int 5003))) (zV .Add (z6 1) (z8 (.int 1))))),(sIf (zQ .Or [(zR (z6 4) [.Lt] [(z8 (.int 3))]),(zR (z6 1) [.Eq] [(z8 (.int 0))])]) (zD [(zf (xU [(z6 3),(z8 (.str "put")),(z8 (.int 0)),(z8 (.int 0)),(z6 7),(zC (zA (some (.fn "_law_text_by"))) [(z6 0),(zV .Add (z8 (.int 1)) (zV .Mod (zV .FloorDiv (z6 0) (z8 (.int 30011))) (z8 (.int 4))))])]))]) (zD [])),(sIf (zR (z6 4) [.Lt] [(z8 (.int 5))]) (zD [(zf (xU [(z6 3),(z8 (.str "cut")),(z6 5),(z6 6),(z8 (.int 0)),(z8 (.str ""))]))]) (zD [])),(sIf (zR (z6 5) [.Lt,.Lt] [(z6 7),(z6 6)]) (zD [(z9 okf (.names (.one 7)) (zF (zX [(z6 5),(z6 6)]) (zV .Mod (zV .FloorDiv (z6 0) (z8 (.int 60013))) (z8 (.int 2)))))]) (zD [])),(zf (xU [(z6 3),(z8 (.str "move")),(z6 5),(z6 6),(z6 7),(z8 (.str ""))]))])⟩
noncomputable def kB1 (okf:Str→Str→Bool):Fn:=⟨2,8,(zD [(z9 okf (.names (.many [2,3,4,5,6,7])) (z6 1)),(sIf (zR (z6 3) [.Eq] [(z8 (.str "put"))]) (zD [(zf (zB (z6 0) "put" none [(z6 2),(z6 6),(z6 7)]))]) (zD [])),(sIf (zR (z6 3) [.Eq] [(z8 (.str "cut"))]) (zD [(zf (zB (z6 0) "cut" none [(z6 2),(z6 4),(z6 5)]))]) (zD [])),(zf (zB (z6 0) "move" none [(z6 2),(z6 4),(z6 5),(z6 6)]))])⟩
noncomputable def kBa (okf:Str→Str→Bool):Fn:=⟨3,3,(zD [(sIf (y6 (zF (zF (z6 1) (z8 (.str "stays"))) (z6 2))) (zD [(zN (zB (z6 0) "take_back" none [(z6 2)])),(z9 okf (.item (z6 1) (z8 (.str "gone"))) (zV .Add (zj (zF (z6 1) (z8 (.str "gone"))) 1 (.one 3) (zQ .And [(zR (z6 3) [.NotEq] [(z6 2)])]) (z6 3)) (zX [(z6 2)])))]) (zD [(zN (zB (z6 0) "do_again" none [(z6 2)]))])),(z9 okf (.item (zF (z6 1) (z8 (.str "stays"))) (z6 2)) (X6 (zF (zF (z6 1) (z8 (.str "stays"))) (z6 2))))])⟩
noncomputable def kBk (okf:Str→Str→Bool):Fn:=⟨2,7,(zD [(z9 okf (.names (.one 2)) (xU [(z6 1),(zF (zC (zA (some (.fn "_law_sits"))) [(z6 0)]) (z6 1))])),(z9 okf (.names (.one 3)) (zB (zF (z6 0) (z8 (.str "row"))) "index" (some .index) [(z6 2)])),(z9 okf (.names (.one 4)) (zC (zA (some (.fn "_law_shown"))) [(z6 0)])),(z9 okf (.names (.one 5)) (zC (zA (some (.fn "_law_sits"))) [(z6 0)])),(z9 okf (.names (.one 6)) (zj (wn (zF (z6 0) (z8 (.str "row"))) (z8 .none) (z6 3)) 1 (.one 7) (zQ .And [(zQ .And [(zR (zF (z6 5) (zF (z6 7) (z8 (.int 0)))) [.Eq] [(zF (z6 7) (z8 (.int 1)))]),(zR (zF (z6 7) (z8 (.int 0))) [.In] [(z6 4)])])]) (z6 7))),(zf (xU [(zC (zA (some (.bi .len))) [(z6 6)]),(qq (z6 1) [.In] [(z6 4)])]))])⟩
noncomputable def kBu (okf:Str→Str→Bool):Fn:=⟨2,4,(zD [(z9 okf (.names (.one 2)) (zj (zC (zA (some (.bi .range))) [(zC (zA (some (.bi .len))) [(zF (z6 0) (z8 (.str "deeds")))])]) 1 (.one 4) (zQ .And [(zQ .And [(zR (zF (zF (zF (z6 0) (z8 (.str "deeds"))) (z6 4)) (z8 (.int 0))) [.Eq] [(z6 1)]),(y6 (zF (zF (z6 0) (z8 (.str "stays"))) (z6 4)))])]) (z6 4))),(z9 okf (.names (.one 3)) (zj (zF (z6 0) (z8 (.str "gone"))) 1 (.one 4) (zQ .And [(zQ .And [(zR (zF (zF (zF (z6 0) (z8 (.str "deeds"))) (z6 4)) (z8 (.int 0))) [.Eq] [(z6 1)]),(ym (y6 (zF (zF (z6 0) (z8 (.str "stays"))) (z6 4))))])]) (z6 4))),(zf (zX [(zF (zV .Add (z6 2) (zX [(z8 .none)])) (zV .Sub (Q9 (z8 (.int 1))) (zC (zA (some (.bi .int))) [(qq (z6 2) [.NotEq] [(zX [])])]))),(zF (zV .Add (zX [(z8 .none)]) (z6 3)) (Q9 (z8 (.int 1))))]))])⟩
noncomputable def kA6 (okf:Str→Str→Bool):Fn:=⟨3,10,(zD [(z9 okf (.names (.one 3)) (zC (zA (some (.fn "_law_shown"))) [(z6 1)])),(sIf (zR (zV .Mod (z6 2) (z8 (.int 3))) [.Eq] [(z8 (.int 1))]) (zD [(sIf (zR (zj (zC (zA (some (.bi .range))) [(zC (zA (some (.bi .len))) [(z6 3)])]) 1 (.one 10) (zQ .And []) (zB (z6 0) "sign_at" none [(z6 10)])) [.NotEq] [(z6 3)]) (zD [(zf (z8 (.bool false)))]) (zD []))]) (zD [])),(sIf (zQ .And [(zR (zV .Mod (z6 2) (z8 (.int 3))) [.Eq] [(z8 (.int 2))]),(zR (zF (z6 1) (z8 (.str "faces"))) [.NotEq] [(zX [])])]) (zD [(z9 okf (.names (.one 4)) (zV .Mod (zV .FloorDiv (z6 2) (z8 (.int 7))) (zC (zA (some (.bi .len))) [(zF (z6 1) (z8 (.str "faces")))]))),(sIf (zR (zB (z6 0) "place_of" none [(z6 4)]) [.NotEq] [(zC (zA (some (.fn "_law_place"))) [(z6 1),(z6 4)])]) (zD [(zf (z8 (.bool false)))]) (zD []))]) (zD [])),(sIf (zQ .Or [(zR (zB (z6 0) "shown" none []) [.NotEq] [(z6 3)]),(zR (zB (z6 0) "text" none []) [.NotEq] [(zB (z8 (.str "")) "join" (some .join) [(zj (z6 3) 1 (.one 10) (zQ .And []) (zF (zF (z6 1) (z8 (.str "faces"))) (z6 10)))])])]) (zD [(zf (z8 (.bool false)))]) (zD [])),(sIf (zR (zj (zC (zA (some (.bi .range))) [(zC (zA (some (.bi .len))) [(zF (z6 1) (z8 (.str "deeds")))])]) 1 (.one 10) (zQ .And []) (zB (z6 0) "stands" none [(z6 10)])) [.NotEq] [(zF (z6 1) (z8 (.str "stays")))]) (zD [(zf (z8 (.bool false)))]) (zD [])),(z9 okf (.names (.one 5)) (zV .Mod (z6 2) (zF (z6 1) (z8 (.str "hands"))))),(sIf (zR (zX [(zB (z6 0) "last_standing" none [(z6 5)]),(zB (z6 0) "last_gone" none [(z6 5)])]) [.NotEq] [(zC (zA (some (.fn "_law_last"))) [(z6 1),(z6 5)])]) (zD [(zf (z8 (.bool false)))]) (zD [])),(sIf (zR (zF (z6 1) (z8 (.str "faces"))) [.Eq] [(zX [])]) (zD [(zf (z8 (.bool true)))]) (zD [])),(z9 okf (.names (.one 6)) (zV .Mod (zV .FloorDiv (z6 2) (z8 (.int 11))) (zC (zA (some (.bi .len))) [(zF (z6 1) (z8 (.str "faces")))]))),(z9 okf (.names (.one 7)) (zV .Mod (zV .FloorDiv (z6 2) (z8 (.int 5003))) (zC (zA (some (.bi .len))) [(zF (z6 1) (z8 (.str "faces")))]))),(sIf (zQ .Or [(zR (zB (z6 0) "place_of" none [(z6 6)]) [.NotEq] [(zC (zA (some (.fn "_law_place"))) [(z6 1),(z6 6)])]),(zR (zB (z6 0) "place_of" none [(z6 7)]) [.NotEq] [(zC (zA (some (.fn "_law_place"))) [(z6 1),(z6 7)])])]) (zD [(zf (z8 (.bool false)))]) (zD [])),(z9 okf (.names (.one 8)) (zC (zA (some (.fn "_law_sits"))) [(z6 1)])),(z9 okf (.names (.one 9)) (qq (zB (zF (z6 1) (z8 (.str "row"))) "index" (some .index) [(xU [(z6 6),(zF (z6 8) (z6 6))])]) [.Lt] [(zB (zF (z6 1) (z8 (.str "row"))) "index" (some .index) [(xU [(z6 7),(zF (z6 8) (z6 7))])])])),(zf (wX .And [(zC (zA (some (.bi .isinstance))) [(zB (z6 0) "is_ahead" none [(z6 6),(z6 7)]),(zA (some (.bi .bool)))]),(qq (zB (z6 0) "is_ahead" none [(z6 6),(z6 7)]) [.Eq] [(z6 9)])]))])⟩
noncomputable def kB7 (okf:Str→Str→Bool):Fn:=⟨1,10,(zD [(z9 okf (.names (.one 1)) (zC (zA (some (.fn "_law_text_by"))) [(zC (zA (some (.fn "_law_cell_at"))) [(z6 0),(z8 (.int 1))]),(zV .Mod (zC (zA (some (.fn "_law_size_by"))) [(zC (zA (some (.fn "_law_cell_at"))) [(z6 0),(z8 (.int 0))])]) (z8 (.int 16)))])),(z9 okf (.names (.one 2)) (zV .Add (z8 (.int 1)) (zV .Mod (zC (zA (some (.fn "_law_cell_at"))) [(z6 0),(z8 (.int 2))]) (z8 (.int 9))))),(z9 okf (.names (.one 3)) (zC (zA (some (.cls "Sheet"))) [(z6 1),(z6 2)])),(z9 okf (.names (.one 4)) (zC (zA (some (.fn "_law_fresh"))) [(z6 1),(z6 2)])),(qI (.many [5,6]) (wn (z6 0) (z8 (.int 3)) (z8 (.int 23))) true (zD [(z9 okf (.names (.one 7)) (zC (zA (some (.fn "_law_mixed"))) [(z6 6),(z6 5)])),(sIf (zQ .And [(zR (zV .Mod (z6 7) (z8 (.int 8))) [.Lt] [(z8 (.int 3))]),(zR (zF (z6 4) (z8 (.str "deeds"))) [.NotEq] [(zX [])])]) (zD [(zN (zC (zA (some (.fn "_law_turned"))) [(z6 3),(z6 4),(zV .Mod (zV .FloorDiv (z6 7) (z8 (.int 8))) (zC (zA (some (.bi .len))) [(zF (z6 4) (z8 (.str "deeds")))]))]))]) (zD [(z9 okf (.names (.one 8)) (zC (zA (some (.fn "_law_deed_by"))) [(zV .FloorDiv (z6 7) (z8 (.int 8))),(zB (z6 3) "size" none []),(z6 2)])),(sIf (zR (zC (zA (some (.fn "_law_do"))) [(z6 3),(z6 8)]) [.NotEq] [(zC (zA (some (.fn "_law_deed"))) [(z6 4),(z6 8)])]) (zD [(zf (z8 (.bool false)))]) (zD []))])),(sIf (ym (y6 (zC (zA (some (.fn "_law_stands"))) [(z6 3),(z6 4),(zC (zA (some (.fn "_law_mixed"))) [(z6 6),(zV .Add (z8 (.int 50)) (z6 5))])]))) (zD [(zf (z8 (.bool false)))]) (zD []))])),(z9 okf (.names (.one 9)) (zj (zC (zA (some (.bi .range))) [(zB (z6 3) "many" none [])]) 1 (.one 10) (zQ .And []) (zB (z6 3) "place_of" none [(z6 10)]))),(sIf (zR (zj (z6 9) 1 (.one 10) (zQ .And [(zQ .Or [(ym (y6 (zC (zA (some (.bi .isinstance))) [(z6 10),(zA (some (.bi .tuple)))]))),(ym (y6 (zC (zA (some (.bi .isinstance))) [(zF (z6 10) (z8 (.int 1))),(zA (some (.bi .bool)))])))])]) (z6 10)) [.NotEq] [(zX [])]) (zD [(zf (z8 (.bool false)))]) (zD [])),(zf (qq (z6 9) [.Eq] [(zj (zC (zA (some (.bi .range))) [(zC (zA (some (.bi .len))) [(zF (z6 4) (z8 (.str "faces")))])]) 1 (.one 10) (zQ .And []) (zC (zA (some (.fn "_law_place"))) [(z6 4),(z6 10)]))]))])⟩
structure TT (T:Tab) (okf:Str→Str→Bool):Prop where
 kB2:okf "Row" "line" = true
 kBz:okf "Row" "flags" = true
 kBv:okf "Sheet" "hands" = true
 kB6:okf "Sheet" "row" = true
 kBp:okf "Sheet" "owners" = true
 kBl:okf "Sheet" "letters" = true
 kBr:okf "Sheet" "firsts" = true
 kBw:okf "Sheet" "moved" = true
 kA5:okf "Sheet" "bringers" = true
 kBe:okf "Sheet" "cutters" = true
 kB4:okf "Sheet" "done" = true
 kA9:okf "Sheet" "standing" = true
 kB3:okf "Sheet" "lost" = true
 row:T.what "Row" = some .cls
 sheet:T.what "Sheet" = some .cls
 kBn:T.what "is_whole" = some (.fn (kBn okf))
 kBs:T.meth "Row" "__init__" = some (kBs okf)
 kAq:T.meth "Row" "need_seat" = some (kAq okf)
 kBx:T.meth "Row" "add" = some (kBx okf)
 kBt:T.meth "Row" "take" = some (kBt okf)
 kAu:T.meth "Row" "is_taken" = some (kAu okf)
 kAn:T.meth "Row" "all_taken" = some (kAn okf)
 kBh:T.meth "Row" "ahead" = some (kBh okf)
 kBq:T.meth "Row" "find" = some (kBq okf)
 kAt:T.meth "Row" "is_ahead" = some (kAt okf)
 kBi:T.meth "Row" "order" = some (kBi okf)
 kB0:T.what "is_text" = some (.fn (kB0 okf))
 kBb:T.meth "Sheet" "__init__" = some (kBb okf)
 kAz:T.meth "Sheet" "bring" = some (kAz okf)
 kAg:T.meth "Sheet" "need_hand" = some (kAg okf)
 kAi:T.meth "Sheet" "need_sign" = some (kAi okf)
 kAd:T.meth "Sheet" "need_place" = some (kAd okf)
 kAb:T.meth "Sheet" "need_stretch" = some (kAb okf)
 kAh:T.meth "Sheet" "need_deed" = some (kAh okf)
 kAp:T.meth "Sheet" "seat_of" = some (kAp okf)
 kAk:T.meth "Sheet" "is_shown" = some (kAk okf)
 kAv:T.meth "Sheet" "seated" = some (kAv okf)
 kA4:T.meth "Sheet" "size" = some (kA4 okf)
 kAw:T.meth "Sheet" "shown" = some (kAw okf)
 kA8:T.meth "Sheet" "text" = some (kA8 okf)
 kA7:T.meth "Sheet" "many" = some (kA7 okf)
 kAo:T.meth "Sheet" "sign_at" = some (kAo okf)
 kAl:T.meth "Sheet" "place_of" = some (kAl okf)
 kAj:T.meth "Sheet" "is_ahead" = some (kAj okf)
 kAc:T.meth "Sheet" "seat_ahead" = some (kAc okf)
 kA2:T.meth "Sheet" "noted" = some (kA2 okf)
 kBd:T.meth "Sheet" "put" = some (kBd okf)
 kBg:T.meth "Sheet" "cut" = some (kBg okf)
 kA3:T.meth "Sheet" "move" = some (kA3 okf)
 kAr:T.meth "Sheet" "stands" = some (kAr okf)
 kAe:T.meth "Sheet" "take_back" = some (kAe okf)
 kAm:T.meth "Sheet" "do_again" = some (kAm okf)
 kAa:T.meth "Sheet" "last_standing" = some (kAa okf)
 kAf:T.meth "Sheet" "last_gone" = some (kAf okf)
 kA0:T.what "_law_cell_at" = some (.fn (kA0 okf))
 kBf:T.what "_law_mixed" = some (.fn (kBf okf))
 kAx:T.what "_law_text_by" = some (.fn (kAx okf))
 kAy:T.what "_law_size_by" = some (.fn (kAy okf))
 kBc:T.what "_law_fresh" = some (.fn (kBc okf))
 kBo:T.what "_law_sits" = some (.fn (kBo okf))
 kAs:T.what "_law_is_shown" = some (.fn (kAs okf))
 kBj:T.what "_law_shown" = some (.fn (kBj okf))
 kB5:T.what "_law_at" = some (.fn (kB5 okf))
 kBm:T.what "_law_deed" = some (.fn (kBm okf))
 kA1:T.what "_law_deed_by" = some (.fn (kA1 okf))
 kB1:T.what "_law_do" = some (.fn (kB1 okf))
 kBa:T.what "_law_turned" = some (.fn (kBa okf))
 kBk:T.what "_law_place" = some (.fn (kBk okf))
 kBu:T.what "_law_last" = some (.fn (kBu okf))
 kA6:T.what "_law_stands" = some (.fn (kA6 okf))
 kB7:T.what "law" = some (.fn (kB7 okf))
noncomputable abbrev fs:List (Str×AV):=[("line",.ref 4),("flags",.ref 5)]
noncomputable abbrev H (o0 o1 o2:AO) (l:List Int) (b:List Bool) (r:Hp):Hp:=o0::o1::o2::.inst "Row" fs::.list (l.map AV.int)::.list (b.map AV.bool)::r
theorem lk1:List.lookup ("line" : Str) fs=some (.ref 4):=rfl
theorem lk2:List.lookup ("flags" : Str) fs=some (.ref 5):=rfl
theorem lk3:List.lookup ("need_seat" : Str) fs=none:=rfl
noncomputable def wU (l:List Int) (k:Nat) (v:Int):List Int:=l.take k++v::l.drop k
theorem z2k (l:List Int) (k:Nat) (v:Int):qR (l.map AV.int) k (.int v)=(wU l k v).map AV.int:=by
 simp [Out.bind_ok,Out.bind0_ok,Out.bind_stuck,Out.of_some,Out.of_none,Out.bindS_ok,qR,wU,List.map_take,List.map_drop]
noncomputable def ZV (c k:Int):Int :=
 let n:=(c * 48271+7919 * k+12345).fmod 2147483647
 ((n * n).fmod 2147483647 * n).fmod 2147483647
noncomputable def fl (b:List Bool) (x:Int):Bool:=b[x.toNat]?.getD false
section
variable {T:Tab} {okf:Str→Str→Bool} (X:TT T okf) {n:Nat} {l:List Int} {b:List Bool} {r:Hp} {o0 o1 o2:AO}
include X
theorem yo {i:Int} {h:Hp}:run T (n+1) (.fn "is_whole") [.int i] h=.ok (.bool true) h:=by
 rw [ya X.kBn]
 rfl
theorem Qx:run T (n+1) (.meth "Row" "all_taken") [.ref 3] (H o0 o1 o2 l b r)=.ok (.int (b.countP id)) (H o0 o1 o2 l b r):=by
 rw [zW X.kAn]
 refine zM (fr:=[some (.ref 3)]) rfl rfl (fr':=[some (.ref 3)]) (zL (zm (ww (a:=5) (ys:=b.map AV.bool) (zb (z5 rfl) rfl lk2) rfl (ev1 rfl ev0) ?_)))
 rw [Jq]
 show Out.of ((jQ (H o0 o1 o2 l b r) (.ref 5) (.bool true)).map _) _=_
 rw [X4 (l:=b) rfl];rfl
theorem zBm (hs:l.length≤small):run T (n+1) (.meth "Row" "order") [.ref 3] (H o0 o1 o2 l b r)=.ok (.ref (r.length+6)) (H o0 o1 o2 l b (r++[.list (l.map AV.int)])):=by
 rw [zW X.kBi]
 refine zM (fr:=[some (.ref 3)]) rfl rfl (fr':=[some (.ref 3)]) (zL (zm (yv (ev1 (zb (z5 rfl) rfl lk1) ev0) ?_)))
 rw [z2x]
 exact if_pos (by rw [List.length_map];exact hs)
theorem z01 {fr:AFr} {cf:CF} (e0:fr[0]? = some (some (.ref 3))):zC (zA (some (.bi .len))) [zG (z6 0) "flags"] cf fr (H o0 o1 o2 l b r)=.ok (.int b.length) (H o0 o1 o2 l b r):=by
 refine yv (ev1 (zb (z5 e0) rfl lk2) ev0) ?_
 rw [xH,xE]
 show Out.ok (AV.int ((b.map AV.bool).length:Nat)) _=_
 rw [List.length_map]
theorem xl {i:Int} (h0:0≤i) (h1:i<b.length):run T (n+2) (.meth "Row" "need_seat") [.ref 3,.int i] (H o0 o1 o2 l b r)=.ok .none (H o0 o1 o2 l b r):=by
 rw [zW X.kAq]
 exact yI (fr:=[some (.ref 3),some (.int i)]) rfl rfl (fr':=[some (.ref 3),some (.int i)]) ((z7 ((zH (xP (yO (b:=true) (yg (v:=.bool true) (zp (ev1 (z5 rfl) ev0) (yo X)) rfl)) (xP (yO (b:=true) (xq rfl (z5 rfl) (by rw [w3,decide_eq_true h0]) (z01 X rfl) (by rw [yU,decide_eq_true h1]))) qJ))).trans zE)).trans zE)
omit X in
theorem QH {cf:CF} {v1:Option AV} {at_:Int} (X:TT T okf) (ha:okI at_=true) (hl:l.length<small) (hb:b.length<small) :
  zD [(z9 okf (.names (.one 3)) (zC (zA (some (.bi .len))) [(zG (z6 0) "flags")])),(zN (zB (zG (z6 0) "line") "insert" (some .insert) [(z6 2),(z6 3)])),(zN (zB (zG (z6 0) "flags") "append" (some .append) [(z8 (.bool false))])),(zf (z6 3))] cf [some (.ref 3),v1,some (.int at_),none] (H o0 o1 o2 l b r) =
   .ok (.ret (.int b.length)) [some (.ref 3),v1,some (.int at_),some (.int b.length)] (H o0 o1 o2 (wU l at_.toNat b.length) (b++[false]) r):=by
 have e1:yP .insert (.ref 4) [.int at_,.int b.length] (H o0 o1 o2 l b r)=.ok .none (H o0 o1 o2 (wU l at_.toNat b.length) b r):=by
  rw [We]
  show (if (l.map AV.int).length<small∧okI at_=true then Out.ok AV.none ((H o0 o1 o2 l b r).set 4 (.list (qR (l.map AV.int) at_.toNat (.int b.length)))) else .stuck)=_
  rw [if_pos ⟨by rw [List.length_map];exact hl,ha⟩,z2k];rfl
 have e2:yP .append (.ref 5) [.bool false] (H o0 o1 o2 (wU l at_.toNat b.length) b r)=.ok .none (H o0 o1 o2 (wU l at_.toNat b.length) (b++[false]) r):=by
  rw [xm]
  show (if (b.map AV.bool).length<small then Out.ok AV.none ((H o0 o1 o2 (wU l at_.toNat b.length) b r).set 5 (.list (b.map AV.bool++[.bool false]))) else .stuck)=_
  rw [if_pos (by rw [List.length_map];exact hb),show b.map AV.bool++[.bool false]=(b++[false]).map AV.bool by rw [List.map_append];rfl];rfl
 exact (z7 (zU (j:=3) (z01 X rfl) (zZ rfl))).trans ((z7 (zn (ww (a:=4) (ys:=l.map AV.int) (zb (z5 rfl) rfl lk1) rfl (ev1 (z5 rfl) (ev1 (z5 rfl) ev0)) e1))).trans ((z7 (zn (ww (a:=5) (ys:=b.map AV.bool) (zb (z5 rfl) rfl lk2) rfl (ev1 rfl ev0) e2))).trans (zL (zm (z5 rfl)))))
theorem z19 (hl:l.length<small) (hb:b.length<small):run T (n+3) (.meth "Row" "add") [.ref 3,.none] (H o0 o1 o2 l b r)=.ok (.int b.length) (H o0 o1 o2 (wU l 0 b.length) (b++[false]) r):=by
 rw [zW X.kBx]
 refine zM (fr:=[some (.ref 3),some .none,none,none]) rfl rfl (fr':=[some (.ref 3),some .none,some (.int 0),some (.int b.length)]) ?_
 unfold kBx
 dsimp only
 rw [z7 (zU (j:=2) (v:=.int 0) rfl (zZ rfl)),z7 ((zH (zS (v:=.none) (w:=.none) (z5 rfl) rfl rfl)).trans zE)]
 exact QH (at_:=0) X rfl hl hb
theorem z18 {i:Int} {k:Nat} (h0:0≤i) (h1:i<b.length) (hk:l.findIdx? (· == i)=some k) (hl:l.length<small) (hb:b.length<small) :
  run T (n+3) (.meth "Row" "add") [.ref 3,.int i] (H o0 o1 o2 l b r)=.ok (.int b.length) (H o0 o1 o2 (wU l (k+1) b.length) (b++[false]) r):=by
 rw [zW X.kBx]
 have hk':k<l.length:=(List.findIdx?_eq_some_iff_getElem.mp hk).1
 have e0:yP .index (.ref 4) [.int i] (H o0 o1 o2 l b r)=.ok (.int k) (H o0 o1 o2 l b r):=by
  rw [jI]
  show (match wV (H o0 o1 o2 l b r) (.ref 4) (.int i) with | some k=>Out.ok (AV.int k) _ | none=>.stuck)=_
  rw [jY (l:=l) rfl,hk]
 have e3:okI ((k:Int)+1)=true:=jG (k:=k+1) (Nat.le_trans hk' (Nat.le_of_lt hl))
 refine zM (fr:=[some (.ref 3),some (.int i),none,none]) rfl rfl (fr':=[some (.ref 3),some (.int i),some (.int ((k:Int)+1)),some (.int b.length)]) ?_
 unfold kBx
 dsimp only
 rw [z7 (zU (j:=2) (v:=.int 0) rfl (zZ rfl)),z7 ((zi (zS (v:=.int i) (w:=.none) (z5 rfl) rfl rfl)).trans ((z7 (zn (zP (a:=3) (z5 rfl) rfl lk3 (ev1 (z5 rfl) ev0) (xl X (n:=n) h0 h1)))).trans ((z7 (zU (j:=2) (v:=.int ((k:Int)+1)) (yR (ww (a:=4) (ys:=l.map AV.int) (zb (z5 rfl) rfl lk1) rfl (ev1 (z5 rfl) ev0) e0) (y:=z8 (.int 1)) rfl wA) (zZ rfl))).trans zE)))]
 exact QH (at_:=(k:Int)+1) X e3 hl hb
theorem z31 {i:Int} {v:Bool} (h0:0≤i) (h1:i<b.length) (hb:b.length≤small):run T (n+3) (.meth "Row" "take") [.ref 3,.int i,.bool v] (H o0 o1 o2 l b r)=.ok .none (H o0 o1 o2 l (b.set i.toNat v) r):=by
 rw [zW X.kBt]
 have e:qH (H o0 o1 o2 l b r) (.ref 5) (.int i) (.bool v)=some (H o0 o1 o2 l (b.set i.toNat v) r):=by
  rw [Z3]
  show (if 0≤i∧i<((b.map AV.bool).length:Nat)∧(b.map AV.bool).length≤small then some ((H o0 o1 o2 l b r).set 5 (.list ((b.map AV.bool).set i.toNat (.bool v)))) else none)=_
  rw [List.length_map,if_pos ⟨h0,h1,hb⟩,← List.map_set];rfl
 exact yI (fr:=[some (.ref 3),some (.int i),some (.bool v)]) rfl rfl (fr':=[some (.ref 3),some (.int i),some (.bool v)]) ((z7 (zn (zP (a:=3) (z5 rfl) rfl lk3 (ev1 (z5 rfl) ev0) (xl X (n:=n) h0 h1)))).trans ((z7 (ZS (z5 rfl) (zb (z5 rfl) rfl lk2) (z5 rfl) e)).trans zE))
theorem Wk {i:Int} (h0:0≤i) (h1:i<b.length) (hb:b.length≤small):run T (n+3) (.meth "Row" "is_taken") [.ref 3,.int i] (H o0 o1 o2 l b r)=.ok (.bool (fl b i)) (H o0 o1 o2 l b r):=by
 rw [zW X.kAu]
 have h2:i.toNat<b.length:=qb h0 h1
 have h3:okI i=true:=by rw [← Int.toNat_of_nonneg h0];exact jG (Nat.le_trans (Nat.le_of_lt h2) hb)
 have e:qj (H o0 o1 o2 l b r) (.ref 5) (.int i)=some (.bool (fl b i)):=by
  rw [qA h3]
  show (b.map AV.bool)[i.toNat]? = _
  unfold fl
  rw [List.getElem?_map,zu h2];rfl
 exact zM (fr:=[some (.ref 3),some (.int i)]) rfl rfl (fr':=[some (.ref 3),some (.int i)]) ((z7 (zn (zP (a:=3) (z5 rfl) rfl lk3 (ev1 (z5 rfl) ev0) (xl X (n:=n) h0 h1)))).trans (zL (zm (zv (zb (z5 rfl) rfl lk2) (z5 rfl) e))))
theorem Zs {is:List Int} {k:Int} {h:Hp} (h0:0≤k) (hs:is.length≤63):run T (n+1) (.fn "_law_cell_at") [.lst (is.map AV.int),.int k] h=.ok (.int (is[k.toNat]?.getD 0)) h:=by
 rw [ya X.kA0]
 have t:=zS (op:=.Lt) (b:=decide (k<is.length)) (z5 (i:=1) (cf:=run T n) (h:=h) (fr:=[some (.lst (is.map AV.int)),some (.int k)]) rfl) (yv (b:=.len) (res:=.ok (.int is.length) h) (ev1 (z5 (i:=0) rfl) ev0) (by rw [xH,z2d,List.length_map];rfl)) yU
 by_cases hk:k<is.length
 ·have h2:=qb h0 hk
  rw [decide_eq_true hk] at t
  have e:qj h (.lst (is.map AV.int)) (.int k)=some (.int (is[k.toNat]?.getD 0)):=by
   rw [WM (by rw [← Int.toNat_of_nonneg h0];exact jG (Nat.le_trans (Nat.le_of_lt h2) (Nat.le_trans hs (by decide)))),List.getElem?_map,zu h2];rfl
  exact zM (fr:=[some (.lst (is.map AV.int)),some (.int k)]) rfl rfl (zL ((zi t).trans (zL (zm (zv (z5 rfl) (z5 rfl) e)))))
 ·rw [decide_eq_false hk] at t
  rw [List.getElem?_eq_none (Int.ofNat_le.mp (by rw [Int.toNat_of_nonneg h0];exact Int.not_lt.mp hk))]
  exact zM (fr:=[some (.lst (is.map AV.int)),some (.int k)]) rfl rfl ((z7 ((zH t).trans zE)).trans (zL (zm rfl)))
theorem QX {c k:Int} {h:Hp}:run T (n+1) (.fn "_law_mixed") [.int c,.int k] h=.ok (.int (ZV c k)) h:=by
 rw [ya X.kBf]
 have a0:∀ z:Int,0≤z.fmod 2147483647∧z.fmod 2147483647<2147483647:=fun z=>⟨Int.fmod_nonneg_of_pos _ (by decide),Int.fmod_lt_of_pos _ (by decide)⟩
 have b1:=a0 (c * 48271+7919 * k+12345)
 have b2:=a0 ((c * 48271+7919 * k+12345).fmod 2147483647 * (c * 48271+7919 * k+12345).fmod 2147483647)
 have c1:((c * 48271+7919 * k+12345).fmod 2147483647).natAbs<9223372036854775808:=by lia
 have c2:(((c * 48271+7919 * k+12345).fmod 2147483647 * (c * 48271+7919 * k+12345).fmod 2147483647).fmod 2147483647).natAbs<9223372036854775808:=by lia
 have e1:zV .Mod (zV .Add (zV .Add (zV .Mult (z6 0) (z8 (.int 48271))) (zV .Mult (z8 (.int 7919)) (z6 1))) (z8 (.int 12345))) (z8 (.int 2147483647)) (run T n) [some (.int c),some (.int k),none] h=.ok (.int ((c * 48271+7919 * k+12345).fmod 2147483647)) h :=
  yR (yR (yR (yR (z5 rfl) rfl (ZE.trans (if_pos (.inr (by decide))))) (yR rfl (z5 rfl) (ZE.trans (if_pos (.inl (by decide))))) wA) rfl wA) rfl (w9.trans (if_neg (by decide)))
 exact zM (fr:=[some (.int c),some (.int k),none]) rfl rfl ((z7 (zU (j:=2) e1 (zZ rfl))).trans (zL (zm (yR (yR (yR (yR (z5 rfl) (z5 rfl) (ZE.trans (if_pos (.inl c1)))) rfl (w9.trans (if_neg (by decide)))) (z5 rfl) (ZE.trans (if_pos (.inl c2)))) rfl (w9.trans (if_neg (by decide)))))))
end
theorem xo {h:Hp} {a:Nat} {b:List Bool} {x:Int} (e:h[a]? = some (.list (b.map AV.bool))) (h0:0≤x) (h1:x<b.length) (hb:b.length≤small):qj h (.ref a) (.int x)=some (.bool (fl b x)):=by
 have h2:x.toNat<b.length:=by lia
 have h3:okI x=true:=by have:b.length≤1048576:=hb;exact yQ.mpr ⟨by lia,by lia⟩
 simp [Out.bind_ok,Out.bind0_ok,Out.bind_stuck,Out.of_some,Out.of_none,Out.bindS_ok,qA,WM,z20,z1z,e,h0,h3,h2,fl]
theorem jL {h:Hp} {a:Nat} {l:List Int} {x:Int} {y:Int} (e:h[a]? = some (.list (l.map AV.int))) (h0:0≤x) (hy:l[x.toNat]? = some y) (hb:l.length≤small):qj h (.ref a) (.int x)=some (.int y):=by
 have h2:x.toNat<l.length:=(y7 hy).1
 have h3:okI x=true:=by have:l.length≤1048576:=hb;exact yQ.mpr ⟨by lia,by lia⟩
 rw [qA h3,e]
 show (l.map AV.int)[x.toNat]? = _
 rw [List.getElem?_map,hy];rfl
section
variable {T:Tab} {okf:Str→Str→Bool} (X:TT T okf) {n:Nat} {l:List Int} {b:List Bool} {r:Hp} {o0 o1 o2:AO}
noncomputable abbrev tk (b:List Bool) (l:List Int):List Int:=l.filter (fl b)
theorem XF {j:Nat} {cf:CF} {fr:AFr} {h:Hp} {x:Int} {b:List Bool} (e0:fr[0]? = some (some (.ref 3))) (ej:fr[j]? = some (some (.int x))) (g0:h[3]? = some (.inst "Row" fs)) (g2:h[5]? = some (.list (b.map AV.bool))) (h0:0≤x) (h1:x<b.length) (hb:b.length≤small) :
  zQ .And [y6 (zF (zG (z6 0) "flags") (z6 j))] cf fr h=.ok (fl b x) h:=by
 simp only [zQ,y6,zF,zG,z5 e0,z5 ej,Out.bind_ok,g0,lk2,Out.of_some,xo g2 h0 h1 hb,z1e,z1f,zBc]
 cases fl b x <;> rfl
end
structure Good (l:List Int) (b:List Bool):Prop where
 perm:l.Perm ((List.range b.length).map fun (k:Nat)=>(k:Int))
 sm:b.length<200
theorem Good.len {l:List Int} {b:List Bool} (G:Good l b):l.length=b.length:=by have:=G.perm.length_eq;simpa using this
theorem Good.rng {l:List Int} {b:List Bool} (G:Good l b):∀ x∈l,0≤x∧x<b.length:=fun x hx=>by
 have:=(G.perm.mem_iff (a:=x)).mp hx
 simp only [List.mem_map,List.mem_range] at this
 obtain ⟨k,hk,rfl⟩:=this
 exact ⟨by lia,by lia⟩
theorem Good.idx {l:List Int} {b:List Bool} (G:Good l b) {i:Int} (h0:0≤i) (h1:i<b.length):∃ k,l.findIdx? (· == i)=some k∧k<l.length:=by
 have:i∈l:=(G.perm.mem_iff (a:=i)).mpr (by
  simp only [List.mem_map,List.mem_range]
  exact ⟨i.toNat,by lia,by lia⟩)
 cases hk:l.findIdx? (· == i) with
 | none =>
  rw [List.findIdx?_eq_none_iff] at hk
  have:=hk i this
  simp at this
 | some k=>exact ⟨k,rfl,(List.findIdx?_eq_some_iff_getElem.mp hk).1⟩
theorem Good.sm' {l:List Int} {b:List Bool} (G:Good l b):l.length<small∧b.length<small:=by
 have:=G.sm;have:=G.len
 exact ⟨by show _<1048576;lia,by show _<1048576;lia⟩
theorem XR:∀ b:List Bool,(((List.range b.length).map fun (k:Nat)=>(k:Int)).filter (fl b)).length=b.countP id:=by
 intro b
 rw [← List.countP_eq_length_filter,List.countP_map]
 have:(fl b ∘ fun (k:Nat)=>(k:Int))=fun k=>b[k]?.getD false:=by funext k;simp [Out.bind_ok,Out.bind0_ok,Out.bind_stuck,Out.of_some,Out.of_none,Out.bindS_ok,fl]
 rw [this]
 clear this
 induction b with
 | nil=>rfl
 | cons x b ih =>
  rw [List.length_cons,List.range_succ_eq_map,List.countP_cons,List.countP_map,List.countP_cons]
  have:((fun k=>(x::b)[k]?.getD false) ∘ Nat.succ)=fun k=>b[k]?.getD false:=by funext k;simp
  rw [this,ih]
  simp
theorem Good.count {l:List Int} {b:List Bool} (G:Good l b):(tk b l).length=b.countP id:=by
 rw [← XR b];exact (G.perm.filter _).length_eq
section
variable {T:Tab} {okf:Str→Str→Bool} (X:TT T okf) {n:Nat} {l:List Int} {b:List Bool} {r:Hp} {o0 o1 o2:AO}
include X
theorem zC0 {p:Int} (G:Good l b):z9 okf (.names (.one 2)) (zj (zG (z6 0) "line") 1 (.one 3) (zQ .And [y6 (zF (zG (z6 0) "flags") (z6 3))]) (z6 3)) (run T (n+2)) [some (.ref 3),some (.int p),none] (H o0 o1 o2 l b r) =
   .ok .next [some (.ref 3),some (.int p),some (.ref (r.length+6))] (H o0 o1 o2 l b (r++[.list ((tk b l).map AV.int)])) :=
 zU (j:=2) (yK AV.int (it:=zG (z6 0) "line") (own:=1) (i:=3) (a:=4) (test:=zQ .And [y6 (zF (zG (z6 0) "flags") (z6 3))]) (elt:=z6 3) (cf:=run T (n+2)) (fr:=[some (.ref 3),some (.int p),none])
  (h:=H o0 o1 o2 l b r) (h1:=H o0 o1 o2 l b r) (l:=l) (p:=fl b) (f:=AV.int) rfl rfl (zZ rfl) G.sm'.1
  (fun fr' a1 a2 x hx a3=>XF (by rw [a2 0 (by decide)];rfl) a3 rfl rfl (G.rng x hx).1 (G.rng x hx).2 (Nat.le_of_lt G.sm'.2))
  (fun fr' a1 a2 x hx a3=>z5 a3)) (zZ rfl)
theorem zC1 {p:Int}:zC (zA (some (.bi .len))) [z6 2] (run T (n+2)) [some (.ref 3),some (.int p),some (.ref (r.length+6))] (H o0 o1 o2 l b (r++[.list ((tk b l).map AV.int)]))=.ok (.int (tk b l).length) (H o0 o1 o2 l b (r++[.list ((tk b l).map AV.int)])) :=
 yv (ev1 (z5 rfl) ev0) (by rw [xH,xE,show (H o0 o1 o2 l b (r++[.list ((tk b l).map AV.int)]))[r.length+6]? = some (.list ((tk b l).map AV.int)) from zK r _ [],← List.length_map AV.int];rfl)
theorem zB4 {p:Int} (hp0:0≤p) (hp1:p<(tk b l).length) (G:Good l b) :
  ∃ g,run T (n+3) (.meth "Row" "find") [.ref 3,.int p] (H o0 o1 o2 l b r)=.ok (.int ((tk b l)[p.toNat]?.getD 0)) (H o0 o1 o2 l b (r++g)):=by
 refine ⟨[.list ((tk b l).map AV.int)],?_⟩
 rw [zW X.kBq]
 have h2:p.toNat<(tk b l).length:=(Int.toNat_lt hp0).mpr hp1
 have h3:okI p=true:=yQ.mpr ⟨hp0,Int.lt_trans hp1 (Int.lt_of_le_of_lt (Int.ofNat_le.mpr (Nat.le_trans (List.length_filter_le _ _) (Nat.le_of_lt (G.len▸G.sm)))) (by decide))⟩
 have hi:qj (H o0 o1 o2 l b (r++[.list ((tk b l).map AV.int)])) (.ref (r.length+6)) (.int p)=some (.int ((tk b l)[p.toNat]?.getD 0)):=by
  rw [qA h3,show (H o0 o1 o2 l b (r++[.list ((tk b l).map AV.int)]))[r.length+6]? = some (.list ((tk b l).map AV.int)) from zK r _ []];show ((tk b l).map AV.int)[p.toNat]? = _;rw [List.getElem?_map,zu h2];rfl
 exact zM (fr:=[some (.ref 3),some (.int p),none]) rfl rfl (fr':=[some (.ref 3),some (.int p),some (.ref (r.length+6))]) ((z7 (zC0 X (n:=n) G)).trans ((z7 ((zH (xP (yO (b:=true) (yg (v:=.bool true) (zp (ev1 (z5 rfl) ev0) (yo X)) rfl)) (xP (yO (b:=true) (xq rfl (z5 rfl) (by rw [w3,decide_eq_true hp0]) (zC1 X (n:=n)) (by rw [yU,decide_eq_true hp1]))) qJ))).trans zE)).trans (zL (zm (zv (z5 rfl) (z5 rfl) hi)))))
end
set_option genInjectivity false
set_option genSizeOf false
structure Sh where
 g0:AO
 g2:AO
 hands:Int
 l:List Int
 b:List Bool
 ow:List Int
 le:List Nat
 fi:List Int
 mv:List Nat
 br:List AV
 cu:List Nat
 dn:List AV
 st:List Bool
 lo:List Int
noncomputable abbrev fS (hands:Int):List (Str×AV):=[("hands",.int hands),("row",.ref 3),("owners",.ref 6),("letters",.ref 7),("firsts",.ref 8),("moved",.ref 9),("bringers",.ref 10),("cutters",.ref 11),("done",.ref 12),("standing",.ref 13),("lost",.ref 14)]
noncomputable abbrev ch (c:Nat):AV:=.str ⟨#[c]⟩
noncomputable abbrev rf (k:Nat):AV:=.ref (k+15)
noncomputable abbrev Sh.tl (S:Sh) (r:Hp):Hp:=.list (S.ow.map AV.int)::.list (S.le.map ch)::.list (S.fi.map AV.int)::.list (S.mv.map rf)::.list S.br::.list (S.cu.map rf)::.list S.dn::.list (S.st.map AV.bool)::.list (S.lo.map AV.int)::r
noncomputable abbrev Sh.hp (S:Sh) (r:Hp):Hp:=H S.g0 (.inst "Sheet" (fS S.hands)) S.g2 S.l S.b (S.tl r)
theorem kS1 {h:Int}:List.lookup ("hands" : Str) (fS h)=some (.int h):=rfl
theorem kS2 {h:Int}:List.lookup ("row" : Str) (fS h)=some (.ref 3):=rfl
theorem kS3 {h:Int}:List.lookup ("owners" : Str) (fS h)=some (.ref 6):=rfl
theorem kS4 {h:Int}:List.lookup ("letters" : Str) (fS h)=some (.ref 7):=rfl
theorem kS5 {h:Int}:List.lookup ("firsts" : Str) (fS h)=some (.ref 8):=rfl
theorem kS6 {h:Int}:List.lookup ("moved" : Str) (fS h)=some (.ref 9):=rfl
theorem kS7 {h:Int}:List.lookup ("bringers" : Str) (fS h)=some (.ref 10):=rfl
theorem kS8 {h:Int}:List.lookup ("cutters" : Str) (fS h)=some (.ref 11):=rfl
theorem kS9 {h:Int}:List.lookup ("done" : Str) (fS h)=some (.ref 12):=rfl
theorem Qf {h:Int}:List.lookup ("standing" : Str) (fS h)=some (.ref 13):=rfl
theorem zBv {h:Int}:List.lookup ("lost" : Str) (fS h)=some (.ref 14):=rfl
theorem xZ {h:Int}:List.lookup ("need_hand" : Str) (fS h)=none:=rfl
theorem xr {h:Int}:List.lookup ("need_place" : Str) (fS h)=none:=rfl
theorem wE {h:Int}:List.lookup ("need_stretch" : Str) (fS h)=none:=rfl
theorem WH {h:Int}:List.lookup ("size" : Str) (fS h)=none:=rfl
theorem Xf {h:Int}:List.lookup ("bring" : Str) (fS h)=none:=rfl
theorem wr {h:Int}:List.lookup ("seat_ahead" : Str) (fS h)=none:=rfl
theorem ZZ {h:Int}:List.lookup ("noted" : Str) (fS h)=none:=rfl
theorem YG {h:Int}:List.lookup ("seated" : Str) (fS h)=none:=rfl
theorem jp {h:Int}:List.lookup ("is_shown" : Str) (fS h)=none:=rfl
theorem qx {h:Int}:List.lookup ("seat_of" : Str) (fS h)=none:=rfl
theorem ZY {h:Int}:List.lookup ("shown" : Str) (fS h)=none:=rfl
theorem zBt {h:Int}:List.lookup ("put" : Str) (fS h)=none:=rfl
theorem zBu {h:Int}:List.lookup ("cut" : Str) (fS h)=none:=rfl
theorem z2a {h:Int}:List.lookup ("move" : Str) (fS h)=none:=rfl
theorem qy {h:Int}:List.lookup ("need_sign" : Str) (fS h)=none:=rfl
theorem Yr {h:Int}:List.lookup ("need_deed" : Str) (fS h)=none:=rfl
theorem jU {h:Int}:List.lookup ("stands" : Str) (fS h)=none:=rfl
theorem Xh:List.lookup ("is_ahead" : Str) fs=none:=rfl
theorem Jw:List.lookup ("ahead" : Str) fs=none:=rfl
theorem Jx:List.lookup ("add" : Str) fs=none:=rfl
theorem WI:List.lookup ("take" : Str) fs=none:=rfl
theorem Xg:List.lookup ("is_taken" : Str) fs=none:=rfl
theorem Yt:List.lookup ("all_taken" : Str) fs=none:=rfl
theorem WJ:List.lookup ("find" : Str) fs=none:=rfl
theorem Jv:List.lookup ("order" : Str) fs=none:=rfl
section
variable {T:Tab} {okf:Str→Str→Bool} (X:TT T okf) {n:Nat} {S:Sh} {r:Hp}
include X
theorem qO {i:Int} (h0:0≤i) (h1:i<S.hands):run T (n+2) (.meth "Sheet" "need_hand") [.ref 1,.int i] (S.hp r)=.ok .none (S.hp r):=by
 rw [zW X.kAg]
 exact yI (fr:=[some (.ref 1),some (.int i)]) rfl rfl (fr':=[some (.ref 1),some (.int i)]) ((z7 ((zH (xP (yO (b:=true) (yg (v:=.bool true) (zp (ev1 (z5 rfl) ev0) (yo X)) rfl)) (xP (yO (b:=true) (xq rfl (z5 rfl) (by rw [w3,decide_eq_true h0]) (zb (z5 rfl) rfl kS1) (by rw [yU,decide_eq_true h1]))) qJ))).trans zE)).trans zE)
theorem z32:run T (n+2) (.meth "Sheet" "size") [.ref 1] (S.hp r)=.ok (.int (S.b.countP id)) (S.hp r):=by
 rw [zW X.kA4]
 exact zM (fr:=[some (.ref 1)]) rfl rfl (fr':=[some (.ref 1)]) (zL (zm (zP (a:=3) (zb (z5 rfl) rfl kS2) rfl Yt ev0 (Qx X (n:=n) (o0:=S.g0) (o1:=.inst "Sheet" (fS S.hands)) (o2:=S.g2) (l:=S.l) (b:=S.b) (r:=S.tl r)))))
theorem qX {i:Int} (h0:0≤i) (h1:i≤S.b.countP id):run T (n+3) (.meth "Sheet" "need_place") [.ref 1,.int i] (S.hp r)=.ok .none (S.hp r):=by
 rw [zW X.kAd]
 exact yI (fr:=[some (.ref 1),some (.int i)]) rfl rfl (fr':=[some (.ref 1),some (.int i)]) ((z7 ((zH (xP (yO (b:=true) (yg (v:=.bool true) (zp (ev1 (z5 rfl) ev0) (yo X)) rfl)) (xP (yO (b:=true) (xq rfl (z5 rfl) (by rw [w3,decide_eq_true h0]) (zP (a:=1) (z5 rfl) rfl WH ev0 (z32 X (n:=n))) (by rw [w3,decide_eq_true h1]))) qJ))).trans zE)).trans zE)
theorem wq {i j:Int} (h0:0≤i) (h1:i<j) (h2:j≤S.b.countP id):run T (n+4) (.meth "Sheet" "need_stretch") [.ref 1,.int i,.int j] (S.hp r)=.ok .none (S.hp r):=by
 rw [zW X.kAb]
 have j0:=Int.le_trans h0 (Int.le_of_lt h1)
 exact yI (fr:=[some (.ref 1),some (.int i),some (.int j)]) rfl rfl (fr':=[some (.ref 1),some (.int i),some (.int j)]) ((z7 (zn (zP (a:=1) (z5 rfl) rfl xr (ev1 (z5 rfl) ev0) (qX X (n:=n) h0 (Int.le_trans (Int.le_of_lt h1) h2))))).trans ((z7 (zn (zP (a:=1) (z5 rfl) rfl xr (ev1 (z5 rfl) ev0) (qX X (n:=n) j0 h2)))).trans ((z7 ((zH (zS (v:=.int i) (w:=.int j) (z5 rfl) (z5 rfl) (by rw [zC6,decide_eq_false (Int.not_le.mpr h1)]))).trans zE)).trans zE)))
theorem Ym:run T (n+1) (.meth "Sheet" "seat_ahead") [.ref 1,.int 0] (S.hp r)=.ok .none (S.hp r):=by
 rw [zW X.kAc]
 have t:=zS (op:=.Eq) (y:=z8 (.int 0)) (w:=.int 0) (b:=true) (z5 (i:=1) (cf:=run T n) (h:=S.hp r) (fr:=[some (.ref 1),some (.int 0)]) rfl) rfl (by rw [xz,xG];rfl)
 refine zM (fr:=[some (.ref 1),some (.int 0)]) rfl rfl (fr':=[some (.ref 1),some (.int 0)]) ?_
 unfold kAc
 dsimp only
 exact zL ((zi t).trans (zL (zm rfl)))
theorem XQ {p:Int} (h0:0<p) (h1:p≤(tk S.b S.l).length) (G:Good S.l S.b) :
  ∃ g,run T (n+4) (.meth "Sheet" "seat_ahead") [.ref 1,.int p] (S.hp r)=.ok (.int ((tk S.b S.l)[(p - 1).toNat]?.getD 0)) (S.hp (r++g)):=by
 obtain ⟨g,e⟩:=zB4 X (n:=n) (l:=S.l) (b:=S.b) (o0:=S.g0) (o1:=.inst "Sheet" (fS S.hands)) (o2:=S.g2) (r:=S.tl r) (p:=p - 1) (Int.sub_nonneg_of_le h0) (Int.lt_of_lt_of_le (Int.sub_one_lt_of_le (Int.le_refl p)) h1) G
 refine ⟨g,?_⟩
 rw [zW X.kAc]
 exact zM (fr:=[some (.ref 1),some (.int p)]) rfl rfl (fr':=[some (.ref 1),some (.int p)]) ((z7 ((zH (zS (v:=.int p) (w:=.int 0) (z5 rfl) rfl (by rw [xz,xG,decide_eq_false (Int.ne_of_gt h0)]))).trans zE)).trans (zL (zm (zP (a:=3) (zb (z5 rfl) rfl kS2) rfl WJ (ev1 (yR (z5 rfl) (y:=z8 (.int 1)) rfl ZD) ev0) e))))
end
noncomputable def Sh.sh (S:Sh):List Int:=(tk S.b S.l).map fun x=>S.ow[x.toNat]?.getD 0
noncomputable def Sh.cs (S:Sh):List Nat:=S.sh.map fun i=>S.le[i.toNat]?.getD 0
noncomputable abbrev tx (t:List Nat):Str:=⟨t.toArray⟩
theorem W6 (a c:List Nat):tx a++tx c=tx (a++c):=by
 show Str.append _ _=_
 unfold Str.append tx
 rw [← List.append_toArray]
theorem j4 (cs:List Nat):Str.join ("" : Str) (cs.map fun c=>(⟨#[c]⟩:Str))=tx cs:=by
 induction cs with
 | nil=>rfl
 | cons c cs ih =>
  cases cs with
  | nil=>rfl
  | cons d cs =>
   show (⟨#[c]⟩:Str)++("" : Str)++Str.join ("" : Str) ((d::cs).map fun c=>(⟨#[c]⟩:Str))=_
   rw [ih]
   show (tx [c]++tx [])++tx (d::cs)=_
   rw [W6,W6];rfl
theorem ZI (cs:List Nat):((cs.map fun c=>(⟨#[c]⟩:Str)).map (·.length)).sum=cs.length:=by
 induction cs with
 | nil=>rfl
 | cons c cs ih=>rw [List.map_cons,List.map_cons,List.sum_cons,ih,List.length_cons,Nat.add_comm];rfl
structure Ok1 (S:Sh):Prop where
 G:Good S.l S.b
 ow:S.ow.length=S.b.length
 own:∀ i∈S.ow,0≤i∧i<S.le.length
 le:S.le.length<200
theorem Ok1.at_ {S:Sh} (K:Ok1 S) {x:Int} (hx:x∈S.l):∃ y,S.ow[x.toNat]? = some y∧0≤y∧y<S.le.length:=by
 obtain ⟨h0,h1⟩:=K.G.rng x hx
 have h2:x.toNat<S.ow.length:=by rw [K.ow];lia
 exact ⟨S.ow[x.toNat],zu h2,K.own _ (List.getElem_mem h2)⟩
theorem Ok1.sh_mem {S:Sh} (K:Ok1 S) {i:Int} (hi:i∈S.sh):0≤i∧i<S.le.length:=by
 obtain ⟨x,hx,rfl⟩:=List.mem_map.mp hi
 obtain ⟨y,e,h⟩:=K.at_ (List.mem_filter.mp hx).1
 rw [e];exact h
section
variable {T:Tab} {okf:Str→Str→Bool} (X:TT T okf) {n:Nat} {S:Sh} {r:Hp}
include X
theorem QN (K:Ok1 S):run T (n+4) (.meth "Sheet" "shown") [.ref 1] (S.hp r)=.ok (.ref (r.length+16)) (S.hp (r++[.list (S.l.map AV.int),.list (S.sh.map AV.int)])):=by
 have lsm:=K.G.sm'
 rw [zW X.kAw]
 have eo:=zBm X (n:=n+2) (l:=S.l) (b:=S.b) (o0:=S.g0) (o1:=.inst "Sheet" (fS S.hands)) (o2:=S.g2) (r:=S.tl r) (Nat.le_of_lt lsm.1)
 have e1:zB (zG (z6 0) "row") "order" none [] (run T (n+3)) [some (.ref 1)] (S.hp r)=.ok (.ref (r.length+15)) (S.hp (r++[.list (S.l.map AV.int)])):=by
  exact zP (a:=3) (zb (z5 rfl) rfl kS2) rfl Jv ev0 eo
 have hg:(S.hp (r++[.list (S.l.map AV.int)]))[r.length+15]? = some (.list (S.l.map AV.int)):=zK r _ []
 have ec:=yK AV.int (own:=1) (i:=1) (test:=zQ .And [y6 (zB (zG (z6 0) "row") "is_taken" none [z6 1])]) (elt:=zF (zG (z6 0) "owners") (z6 1)) (l:=S.l) (p:=fl S.b) (f:=fun x=>AV.int (S.ow[x.toNat]?.getD 0)) e1 hg (by decide) lsm.1
  (fun fr' a1 a2 x hx a3=>by
   have a0:=a2 0 (by decide)
   have z:=Wk X (n:=n) (l:=S.l) (b:=S.b) (o0:=S.g0) (o1:=.inst "Sheet" (fS S.hands)) (o2:=S.g2) (r:=S.tl (r++[.list (S.l.map AV.int)])) (K.G.rng x hx).1 (K.G.rng x hx).2 (Nat.le_of_lt lsm.2)
   have c0:=z5 (cf:=run T (n+3)) (h:=S.hp (r++[.list (S.l.map AV.int)])) (show fr'[0]? = some (some (.ref 1)) from a0)
   have c1:=z5 (cf:=run T (n+3)) (h:=S.hp (r++[.list (S.l.map AV.int)])) a3
   have:zB (zG (z6 0) "row") "is_taken" none [z6 1] (run T (n+3)) fr' (S.hp (r++[.list (S.l.map AV.int)]))=.ok (.bool (fl S.b x)) (S.hp (r++[.list (S.l.map AV.int)])):=by
    exact zP (a:=3) (zb c0 rfl kS2) rfl Xg (ev1 c1 ev0) z
   have t:=yg this rfl
   cases hb:fl S.b x with
   | true=>rw [hb] at t;exact xD t qw
   | false=>rw [hb] at t;exact xC t)
  (fun fr' a1 a2 x hx a3=>by
   have a0:=a2 0 (by decide)
   have c0:=z5 (cf:=run T (n+3)) (h:=S.hp (r++[.list (S.l.map AV.int)])) (show fr'[0]? = some (some (.ref 1)) from a0)
   have c1:=z5 (cf:=run T (n+3)) (h:=S.hp (r++[.list (S.l.map AV.int)])) a3
   obtain ⟨y,hy,_⟩:=K.at_ hx
   have:=jL (h:=S.hp (r++[.list (S.l.map AV.int)])) (a:=6) (l:=S.ow) rfl (K.G.rng x hx).1 hy (by rw [K.ow];exact Nat.le_of_lt lsm.2)
   rw [hy]
   exact zv (zb c0 rfl kS3) c1 this)
 have l1:(S.hp (r++[.list (S.l.map AV.int)])).length=r.length+16:=by
  show (r++[AO.list (S.l.map AV.int)]).length+15=_
  rw [zT];rfl
 have l2:S.hp (r++[.list (S.l.map AV.int)])++[.list ((S.l.filter (fl S.b)).map fun x=>AV.int (S.ow[x.toNat]?.getD 0))]=S.hp (r++[.list (S.l.map AV.int),.list (S.sh.map AV.int)]):=by
  unfold Sh.sh
  rw [List.map_map]
  show S.hp ((r++[.list (S.l.map AV.int)])++[_])=_
  rw [List.append_assoc];rfl
 rw [l1,l2] at ec
 exact zM (fr:=[some (.ref 1)]) rfl rfl (zL (zm ec))
end
theorem xY {α β:Type} (f:α→β) (l:List α) (x:α):l.map f++[f x]=(l++[x]).map f:=by rw [List.map_append];rfl
theorem Z4 {α:Type} (g:List α) (x y:α) (r:List α):(g++x::r).set g.length y=g++y::r:=by simp
noncomputable def At (l:List Int) (b:List Bool) (bh:AV) (i:Nat):Prop:=(bh=.none∧i=0)∨∃ x j,bh=.int x∧0≤x∧x<b.length∧l.findIdx? (· == x)=some j∧i=j+1
theorem At.le {l:List Int} {b:List Bool} {bh:AV} {i:Nat} (h:At l b bh i):i≤l.length:=by
 rcases h with ⟨_,rfl⟩ | ⟨x,j,_,_,_,h,rfl⟩
 ·exact Nat.zero_le _
 ·exact (List.findIdx?_eq_some_iff_getElem.mp h).1
noncomputable def Sh.add (S:Sh) (i:Nat) (c:Nat) (d:AV) (k:Nat):Sh:={ S with l:=wU S.l i S.b.length,b:=S.b++[true],ow:=S.ow++[(S.le.length:Int)],le:=S.le++[c],fi:=S.fi++[(S.b.length:Int)],mv:=S.mv++[k],br:=S.br++[d],cu:=S.cu++[k+1] }
section
variable {cf:CF} {fr:AFr} {h h1:Hp} {e:XE} {v:AV} {a:Nat} {c f:Str} {fs:List (Str×AV)} {ys zs:List AV}
theorem wp (e0:fr[0]? = some (some (.ref 1))) (ho:h[1]? = some (.inst c fs)) (hl:fs.lookup f=some (.ref a)) (ha0:h[a]? = some (.list ys)) (ev:e cf fr h=.ok v h1) (ha:h1[a]? = some (.list ys)) (z:ys.length<small) (hz:ys++[v]=zs) :
  zN (zB (zG (z6 0) f) "append" (some .append) [e]) cf fr h=.ok .next fr (h1.set a (.list zs)):=by
 refine zn (v:=.none) (ww (zb (z5 e0) ho hl) ha0 (ev1 ev ev0) ?_)
 rw [xm,ha]
 show (if ys.length<small then _ else _)=_
 rw [if_pos z,hz]
theorem zBi {j:Nat} (e0:fr[j]? = some (some (.ref a))) (ha0:h[a]? = some (.list ys)) (ev:e cf fr h=.ok v h1) (ha:h1[a]? = some (.list ys)) (z:ys.length<small) (hz:ys++[v]=zs) :
  zN (zB (z6 j) "append" (some .append) [e]) cf fr h=.ok .next fr (h1.set a (.list zs)):=by
 refine zn (v:=.none) (ww (z5 e0) ha0 (ev1 ev ev0) ?_)
 rw [xm,ha]
 show (if ys.length<small then _ else _)=_
 rw [if_pos z,hz]
theorem qa (e0:fr[0]? = some (some (.ref 1))) (ho:h[1]? = some (.inst c fs)) (hl:fs.lookup f=some (.ref a)) (ha0:h[a]? = some (.list ys)) {k:Nat} (hk:ys.length=k):zC (zA (some (.bi .len))) [zG (z6 0) f] cf fr h=.ok (.int k) h:=by
 refine yv (ev1 (zb (z5 e0) ho hl) ev0) ?_
 rw [xH,xE,ha0]
 show Out.ok (AV.int (ys.length:Nat)) h=_
 rw [hk]
end
section
variable {T:Tab} {okf:Str→Str→Bool} (X:TT T okf) {n:Nat} {S:Sh} {r:Hp} {o0 o1 o2:AO}
include X
theorem z1a {l:List Int} {b:List Bool} {bh:AV} {i:Nat} (hA:At l b bh i) (hl:l.length<small) (hb:b.length<small) :
  run T (n+3) (.meth "Row" "add") [.ref 3,bh] (H o0 o1 o2 l b r)=.ok (.int b.length) (H o0 o1 o2 (wU l i b.length) (b++[false]) r):=by
 rcases hA with ⟨rfl,rfl⟩ | ⟨x,j,rfl,h0,h1,hj,rfl⟩
 ·exact z19 X hl hb
 ·exact z18 X h0 h1 hj hl hb
theorem Qr {bh d t:AV} {i c:Nat} {fd:List Int} {g:Hp} (hA:At S.l S.b bh i) (hl:S.l.length<1000) (hb:S.b.length<1000) (ho:S.ow.length<1000) (he:S.le.length<1000) (hf:S.fi.length<1000) (hm:S.mv.length<1000) (hr:S.br.length<1000) (hc:S.cu.length<1000) (hd:fd.length<1000) :
  (zD [(z9 okf (.names (.one 2)) (zB (zG (z6 0) "row") "add" none [(z6 2)])),(zN (zB (zG (z6 0) "owners") "append" (some .append) [(zC (zA (some (.bi .len))) [(zG (z6 0) "letters")])])),(zN (zB (z6 4) "append" (some .append) [(zC (zA (some (.bi .len))) [(zG (z6 0) "letters")])])),(zN (zB (zG (z6 0) "letters") "append" (some .append) [(z6 5)])),(zN (zB (zG (z6 0) "firsts") "append" (some .append) [(z6 2)])),(zN (zB (zG (z6 0) "moved") "append" (some .append) [(zX [])])),(zN (zB (zG (z6 0) "bringers") "append" (some .append) [(z6 3)])),(zN (zB (zG (z6 0) "cutters") "append" (some .append) [(zX [])])),(zN (zB (zG (z6 0) "row") "take" none [(z6 2),(z8 (.bool true))]))])
   (run T (n+3)) [some (.ref 1),some t,some bh,some d,some (.ref (r.length+15)),some (ch c)] (S.hp (r++.list (fd.map AV.int)::g)) =
  .ok .next [some (.ref 1),some t,some (.int S.b.length),some d,some (.ref (r.length+15)),some (ch c)] ((S.add i c d (r.length+1+g.length)).hp (r++.list ((fd++[(S.le.length:Int)]).map AV.int)::(g++[.list [],.list []]))):=by
 have sm:∀ {k:Nat},k<1000→k<small:=fun h=>Nat.lt_trans h (by decide)
 have ea:=z1a X (n:=n) (o0:=S.g0) (o1:=.inst "Sheet" (fS S.hands)) (o2:=S.g2) (r:=S.tl (r++.list (fd.map AV.int)::g)) hA (sm hl) (sm hb)
 rw [z7 (zU (j:=2) (zP (a:=3) (zb (z5 rfl) rfl kS2) rfl Jx (ev1 (z5 rfl) ev0) ea) (zZ rfl))]
 let S1:Sh:={ S with l:=wU S.l i S.b.length,b:=S.b++[false] }
 show zD _ _ [some (.ref 1),some t,some (.int S.b.length),some d,some (.ref (r.length+15)),some (ch c)] (S1.hp (r++.list (fd.map AV.int)::g))=_
 rw [z7 (wp (a:=6) (zs:=(S.ow++[(S.le.length:Int)]).map AV.int) rfl rfl kS3 rfl (qa (a:=7) rfl rfl kS4 rfl (List.length_map _)) rfl (by rw [List.length_map];exact sm ho) (xY AV.int S.ow _))]
 let S2:Sh:={ S1 with ow:=S.ow++[(S.le.length:Int)] }
 show zD _ _ _ (S2.hp (r++.list (fd.map AV.int)::g))=_
 have hfd:(S2.hp (r++.list (fd.map AV.int)::g))[r.length+15]? = some (.list (fd.map AV.int)):=zK r _ g
 rw [z7 (zBi (j:=4) (a:=r.length+15) (zs:=(fd++[(S.le.length:Int)]).map AV.int) rfl hfd (qa (a:=7) rfl rfl kS4 rfl (List.length_map _)) hfd (by rw [List.length_map];exact sm hd) (xY AV.int fd _))]
 show zD _ _ _ (S2.hp ((r++.list (fd.map AV.int)::g).set r.length (.list ((fd++[(S.le.length:Int)]).map AV.int))))=_
 rw [Z4]
 generalize hR:r++.list ((fd++[(S.le.length:Int)]).map AV.int)::g=R
 have lR:R.length=r.length+1+g.length:=by rw [← hR,zT,List.length_cons];lia
 rw [z7 (wp (a:=7) (zs:=(S.le++[c]).map ch) rfl rfl kS4 rfl (z5 rfl) rfl (by rw [List.length_map];exact sm he) (xY ch S.le c))]
 rw [z7 (wp (a:=8) (zs:=(S.fi++[(S.b.length:Int)]).map AV.int) rfl rfl kS5 rfl (z5 rfl) rfl (by rw [List.length_map];exact sm hf) (xY AV.int S.fi _))]
 let S3:Sh:={ S2 with le:=S.le++[c],fi:=S.fi++[(S.b.length:Int)] }
 show zD _ _ _ (S3.hp R)=_
 have l3:(S3.hp R).length=R.length+15:=rfl
 rw [z7 (wp (a:=9) (ys:=S.mv.map rf) (zs:=(S.mv++[R.length]).map rf) rfl rfl kS6 rfl (zy ev0) (show (S3.hp (R++[.list []]))[9]? = _ from rfl) (by rw [List.length_map];exact sm hm) (by rw [l3,List.map_append];rfl))]
 let S4:Sh:={ S3 with mv:=S.mv++[R.length] }
 show zD _ _ _ (S4.hp (R++[.list []]))=_
 rw [z7 (wp (a:=10) (zs:=S.br++[d]) rfl rfl kS7 rfl (z5 rfl) rfl (sm hr) rfl)]
 let S5:Sh:={ S4 with br:=S.br++[d] }
 show zD _ _ _ (S5.hp (R++[.list []]))=_
 have l5:(S5.hp (R++[.list []])).length=R.length+1+15:=by show (R++[AO.list []]).length+15=_;rw [zT];rfl
 rw [z7 (wp (a:=11) (ys:=S.cu.map rf) (zs:=(S.cu++[R.length+1]).map rf) rfl rfl kS8 rfl (zy ev0) (show (S5.hp ((R++[.list []])++[.list []]))[11]? = _ from rfl) (by rw [List.length_map];exact sm hc) (by rw [l5,List.map_append];rfl))]
 let S6:Sh:={ S5 with cu:=S.cu++[R.length+1] }
 show zD _ _ _ (S6.hp ((R++[.list []])++[.list []]))=_
 have et:=z31 X (n:=n) (o0:=S.g0) (o1:=.inst "Sheet" (fS S.hands)) (o2:=S.g2) (l:=wU S.l i S.b.length) (b:=S.b++[false]) (i:=(S.b.length:Int)) (v:=true) (r:=S6.tl ((R++[.list []])++[.list []])) (by lia) (by rw [zT];show (S.b.length:Int)<((S.b.length+1:Nat):Int);lia) (by rw [zT];exact sm hb)
 rw [z7 (zn (zP (a:=3) (zb (z5 rfl) rfl kS2) rfl WI (ev1 (z5 rfl) (ev1 rfl ev0)) et)),zE]
 have eb:(S.b++[false]).set (S.b.length:Int).toNat true=S.b++[true]:=by rw [Int.toNat_natCast];exact Z4 S.b false true []
 have hR2:r++.list ((fd++[(S.le.length:Int)]).map AV.int)::(g++[.list [],.list []])=R++[.list [],.list []]:=by rw [← hR,List.append_assoc];rfl
 rw [eb,List.append_assoc,← lR,hR2]
 rfl
end
noncomputable def zO (a k:Nat):List Int:=(List.range k).map fun j=>((a+j:Nat):Int)
theorem zh (a k:Nat):(zO a k).length=k:=by unfold zO;rw [List.length_map,List.length_range]
theorem xn (a k:Nat):zO a (k+1)=zO a k++[((a+k:Nat):Int)]:=by unfold zO;rw [List.range_succ,List.map_append];rfl
theorem yJ {a k:Nat} {x:Int} (h:x∈zO a k):(a:Int)≤x∧x<(a+k:Nat):=by
 obtain ⟨j,hj,rfl⟩:=List.mem_map.mp h
 have:=List.mem_range.mp hj
 exact ⟨by lia,by lia⟩
theorem Xw {a m c:List Int} {i:Nat} {x:Int} (h:a.length+m.length=i):wU (a++m++c) i x=a++(m++[x])++c:=by
 unfold wU
 have e:(a++m).length=i:=by rw [zT];exact h
 rw [List.take_left' e,List.drop_left' e]
 simp only [List.append_assoc,List.cons_append,List.nil_append]
noncomputable def Sh.adds (S:Sh) (i:Nat) (d:AV) (q:Nat) (cs:List Nat):Sh:={ S with l:=S.l.take i++zO S.b.length cs.length++S.l.drop i,b:=S.b++List.replicate cs.length true,ow:=S.ow++zO S.le.length cs.length,le:=S.le++cs,fi:=S.fi++zO S.b.length cs.length,mv:=S.mv++(List.range cs.length).map (fun j=>q+2 * j),br:=S.br++List.replicate cs.length d,cu:=S.cu++(List.range cs.length).map (fun j=>q+2 * j+1) }
theorem Sh.adds_nil (S:Sh) (i:Nat) (d:AV) (q:Nat):S.adds i d q []=S:=by
 obtain ⟨g0,g2,hands,l,b,ow,le,fi,mv,br,cu,dn,st,lo⟩:=S
 simp [Sh.adds,zO]
theorem Sh.adds_snoc (S:Sh) {i:Nat} (hi:i≤S.l.length) (d:AV) (q:Nat) (cs:List Nat) (c:Nat):(S.adds i d q cs).add (i+cs.length) c d (q+2 * cs.length)=S.adds i d q (cs++[c]):=by
 have e1:(cs++[c]).length=cs.length+1:=by rw [zT];rfl
 have e2:(S.b++List.replicate cs.length true).length=S.b.length+cs.length:=by rw [zT,List.length_replicate]
 have e3:(S.le++cs).length=S.le.length+cs.length:=zT
 unfold Sh.add Sh.adds
 dsimp only
 rw [e1,e2,e3,Xw (by rw [List.length_take,zh];lia),xn,xn,List.replicate_succ',List.replicate_succ',List.range_succ]
 simp only [List.append_assoc,List.map_append,List.map_cons,List.map_nil]
theorem Q3 {a c:List Int} {x:Int} (h:∀ y∈a,y≠x):(a++x::c).findIdx? (· == x)=some a.length:=by
 induction a with
 | nil=>rw [List.nil_append,List.findIdx?_cons,beq_self_eq_true];rfl
 | cons y a ih =>
  rw [List.cons_append,List.findIdx?_cons,ih fun z hz=>h z (.tail _ hz)]
  have:(y == x)=false:=beq_eq_false_iff_ne.mpr (h y (.head _))
  rw [this];rfl
theorem At.next {S:Sh} {i:Nat} {d:AV} {q c:Nat} {cs:List Nat} (hi:i≤S.l.length) (hlt:∀ x∈S.l,x<S.b.length):At (S.adds i d q (cs++[c])).l (S.adds i d q (cs++[c])).b (.int ((S.b.length+cs.length:Nat):Int)) (i+(cs.length+1)):=by
 have e1:(cs++[c]).length=cs.length+1:=by rw [zT];rfl
 refine .inr ⟨_,i+cs.length,rfl,by lia,?_,?_,rfl⟩
 ·show _<(((S.b++List.replicate (cs++[c]).length true).length:Nat):Int)
  rw [zT,List.length_replicate,e1];lia
 ·show (S.l.take i++zO S.b.length (cs++[c]).length++S.l.drop i).findIdx? _=_
  rw [e1,xn,← List.append_assoc,List.append_assoc _ [_]]
  have:(S.l.take i++zO S.b.length cs.length).length=i+cs.length:=by rw [zT,List.length_take,zh];lia
  rw [← this]
  refine Q3 fun y hy=>?_
  rcases yn hy with hy | hy
  ·have:=hlt y (List.mem_of_mem_take hy);lia
  ·have:=(yJ hy).2;lia
theorem z1l (h:Hp) (cs:List Nat):yk h (.str (tx cs))=some (.imm (cs.map ch),cs.length):=rfl
structure Sz (S:Sh) (k:Nat):Prop where
 l:S.l.length≤k
 b:S.b.length≤k
 ow:S.ow.length≤k
 le:S.le.length≤k
 fi:S.fi.length≤k
 mv:S.mv.length≤k
 br:S.br.length≤k
 cu:S.cu.length≤k
theorem Sz.adds {S:Sh} {k:Nat} (z:Sz S k) {i:Nat} {d:AV} {q:Nat} {cs:List Nat}:Sz (S.adds i d q cs) (k+cs.length):=by
 have h:=List.take_append_drop i S.l
 have hl:(S.l.take i).length+(S.l.drop i).length=S.l.length:=by rw [← zT,h]
 refine ⟨?_,?_,?_,?_,?_,?_,?_,?_⟩ <;> show List.length (_++_)≤_ <;> simp only [zT,zh,List.length_replicate,List.length_map,List.length_range]
 ·have:=z.l;lia
 ·exact Nat.add_le_add_right z.b _
 ·exact Nat.add_le_add_right z.ow _
 ·exact Nat.add_le_add_right z.le _
 ·exact Nat.add_le_add_right z.fi _
 ·exact Nat.add_le_add_right z.mv _
 ·exact Nat.add_le_add_right z.br _
 ·exact Nat.add_le_add_right z.cu _
section
variable {T:Tab} {okf:Str→Str→Bool} (X:TT T okf) {n:Nat} {S:Sh} {r:Hp}
include X
theorem z12 {bh d:AV} {i:Nat} {cs:List Nat} (hA:At S.l S.b bh i) (z:Sz S 500) (hlt:∀ x∈S.l,x<S.b.length) (hc:cs.length≤100) :
  run T (n+4) (.meth "Sheet" "bring") [.ref 1,.str (tx cs),bh,d] (S.hp r)=.ok (.ref (r.length+15)) ((S.adds i d (r.length+1) cs).hp (r++.list ((zO S.le.length cs.length).map AV.int)::List.replicate (2 * cs.length) (.list []))):=by
 rw [zW X.kAz]
 have hi:=hA.le
 obtain ⟨fr',h',e,p⟩:=xO (t:=.one 5) (src:=.imm (cs.map ch)) (cf:=run T (n+3)) (xs:=cs.map ch)
  (body:=(zD [(z9 okf (.names (.one 2)) (zB (zG (z6 0) "row") "add" none [(z6 2)])),(zN (zB (zG (z6 0) "owners") "append" (some .append) [(zC (zA (some (.bi .len))) [(zG (z6 0) "letters")])])),(zN (zB (z6 4) "append" (some .append) [(zC (zA (some (.bi .len))) [(zG (z6 0) "letters")])])),(zN (zB (zG (z6 0) "letters") "append" (some .append) [(z6 5)])),(zN (zB (zG (z6 0) "firsts") "append" (some .append) [(z6 2)])),(zN (zB (zG (z6 0) "moved") "append" (some .append) [(zX [])])),(zN (zB (zG (z6 0) "bringers") "append" (some .append) [(z6 3)])),(zN (zB (zG (z6 0) "cutters") "append" (some .append) [(zX [])])),(zN (zB (zG (z6 0) "row") "take" none [(z6 2),(z8 (.bool true))]))]))
  (fun k fr h=>∃ bh' v5,fr=[some (.ref 1),some (.str (tx cs)),some bh',some d,some (.ref (r.length+15)),v5]∧h=(S.adds i d (r.length+1) (cs.take k)).hp (r++.list ((zO S.le.length k).map AV.int)::List.replicate (2 * k) (.list []))∧At (S.adds i d (r.length+1) (cs.take k)).l (S.adds i d (r.length+1) (cs.take k)).b bh' (i+k))
  (fun k fr h _=>rfl)
  (by
   rintro k x fr h ⟨bh',v5,rfl,rfl,hA'⟩ hx
   rw [List.getElem?_map] at hx
   obtain ⟨c,hc',rfl⟩:=y9 hx
   have hk:k<cs.length:=(y7 hc').1
   have lk:(cs.take k).length=k:=by rw [List.length_take];lia
   have z':=z.adds (i:=i) (d:=d) (q:=r.length+1) (cs:=cs.take k)
   rw [lk] at z'
   have lt:∀ {m:Nat},m≤500+k→m<1000:=fun h=>by lia
   have step:=Qr X (n:=n) (S:=S.adds i d (r.length+1) (cs.take k)) (r:=r) (bh:=bh') (d:=d) (t:=.str (tx cs)) (c:=c) (fd:=zO S.le.length k) (g:=List.replicate (2 * k) (.list [])) hA' (lt z'.l) (lt z'.b) (lt z'.ow) (lt z'.le) (lt z'.fi) (lt z'.mv) (lt z'.br) (lt z'.cu) (by rw [zh];lia)
   have e1:cs.take (k+1)=cs.take k++[c]:=by rw [List.take_succ,hc'];rfl
   have e2:(S.adds i d (r.length+1) (cs.take k)).le.length=S.le.length+k:=by show (S.le++cs.take k).length=_;rw [zT,lk]
   have e3:(S.adds i d (r.length+1) (cs.take k)).b.length=S.b.length+k:=by show (S.b++List.replicate (cs.take k).length true).length=_;rw [zT,List.length_replicate,lk]
   have e4:=S.adds_snoc hi d (r.length+1) (cs.take k) c
   rw [lk] at e4
   rw [List.length_replicate,e4,e2,e3,← xn] at step
   refine ⟨_,_,_,rfl,step,.int ((S.b.length+k:Nat):Int),_,rfl,?_,?_⟩
   ·rw [e1]
    have:List.replicate (2 * k) (AO.list [])++[.list [],.list []]=List.replicate (2 * (k+1)) (.list []):=by
     rw [show 2 * (k+1)=2 * k+2 by lia,← List.replicate_append_replicate];rfl
    rw [this]
   ·rw [e1]
    have:=At.next (S:=S) (i:=i) (d:=d) (q:=r.length+1) (c:=c) (cs:=cs.take k) hi hlt
    rw [lk] at this
    exact this) (fr:=[some (.ref 1),some (.str (tx cs)),some bh,some d,some (.ref (r.length+15)),none]) (h:=S.hp (r++[.list []]))
  ⟨bh,none,rfl,by rw [List.take_zero,Sh.adds_nil];rfl,by rw [List.take_zero,Sh.adds_nil];exact hA⟩
 obtain ⟨bh',v5,rfl,rfl,_⟩:=p
 rw [List.length_map] at e
 rw [List.take_length] at e
 refine zM (fr:=[some (.ref 1),some (.str (tx cs)),some bh,some d,none,none]) (fr':=[some (.ref 1),some (.str (tx cs)),some bh',some d,some (.ref (r.length+15)),v5]) rfl rfl ?_
 unfold kAz
 dsimp only
 rw [z7 (zU (j:=4) (zy ev0) (zZ rfl))]
 show zD _ _ [some (.ref 1),some (.str (tx cs)),some bh,some d,some (.ref (r.length+15)),none] (S.hp (r++[.list []]))=_
 have ef:=wO (en:=false) (x:=z6 1) (h:=S.hp (r++[.list []])) (z5 rfl) (z1l (S.hp (r++[.list []])) cs) e
 exact (z7 ef).trans (zL (zm (z5 rfl)))
end
noncomputable abbrev pr (p:Int×Int):AV:=.tup [.int p.1,.int p.2]
structure Dy (S:Sh) (mvs:List (List (Int×Int))) (cus:List (List Int)) (r:Hp):Prop where
 ml:S.mv.length=mvs.length
 cl:S.cu.length=cus.length
 m:∀ (i k:Nat) (ps:List (Int×Int)),S.mv[i]? = some k→mvs[i]? = some ps→r[k]? = some (AO.list (ps.map pr))
 c:∀ (i k:Nat) (ds:List Int),S.cu[i]? = some k→cus[i]? = some ds→r[k]? = some (AO.list (ds.map AV.int))
 nd:(S.mv++S.cu).Nodup
theorem Dy.grow {S:Sh} {mvs:List (List (Int×Int))} {cus:List (List Int)} {r:Hp} (D:Dy S mvs cus r) (g:Hp):Dy S mvs cus (r++g) :=
 ⟨D.ml,D.cl,fun i k ps h1 h2=>zI (D.m i k ps h1 h2),fun i k ds h1 h2=>zI (D.c i k ds h1 h2),D.nd⟩
noncomputable def yB (st:List Bool) (f:Int) (ps:List (Int×Int)):Int:=ps.foldl (fun x p=>if fl st p.1 then p.2 else x) f
theorem jq (st:List Bool) (f:Int) (ps:List (Int×Int)) (p:Int×Int):yB st f (ps++[p])=if fl st p.1 then p.2 else yB st f ps:=by unfold yB;rw [List.foldl_append];rfl
noncomputable def Zu (st:List Bool):AV→Bool
 | .int d=>fl st d
 | _=>true
noncomputable def Sh.cur (S:Sh) (mvs:List (List (Int×Int))) (i:Int):Int:=yB S.st (S.fi[i.toNat]?.getD 0) (mvs[i.toNat]?.getD [])
noncomputable def Sh.shw (S:Sh) (cus:List (List Int)) (i:Int):Bool:=Zu S.st (S.br[i.toNat]?.getD .none) && !(cus[i.toNat]?.getD []).any (fl S.st)
noncomputable def wR (b:List Bool) (xs:List Int):List Bool:=xs.foldl (fun b x=>b.set x.toNat false) b
theorem wQ (xs:List Int):∀ b:List Bool,(wR b xs).length=b.length:=by
 induction xs with
 | nil=>intro b;rfl
 | cons x xs ih=>intro b;exact (ih _).trans List.length_set
noncomputable def jk (S:Sh) (mvs:List (List (Int×Int))) (cus:List (List Int)) (b:List Bool) (i:Int):List Bool :=
 let b1:=wR (b.set (S.fi[i.toNat]?.getD 0).toNat false) ((mvs[i.toNat]?.getD []).map (·.2))
 bif S.shw cus i then b1.set (S.cur mvs i).toNat true else b1
theorem Y8 {S:Sh} {mvs:List (List (Int×Int))} {cus:List (List Int)} (b:List Bool) (i:Int):(jk S mvs cus b i).length=b.length:=by
 unfold jk
 dsimp only
 cases S.shw cus i with
 | true=>show (List.set _ _ _).length=_;rw [List.length_set,wQ,List.length_set]
 | false=>show (wR _ _).length=_;rw [wQ,List.length_set]
noncomputable def ye (S:Sh) (mvs:List (List (Int×Int))) (cus:List (List Int)) (b:List Bool) (is:List Int):List Bool:=is.foldl (jk S mvs cus) b
theorem yw {S:Sh} {mvs:List (List (Int×Int))} {cus:List (List Int)} (is:List Int):∀ b:List Bool,(ye S mvs cus b is).length=b.length:=by
 induction is with
 | nil=>intro b;rfl
 | cons x xs ih=>intro b;exact (ih _).trans (Y8 b x)
structure Sg (S:Sh) (mvs:List (List (Int×Int))) (cus:List (List Int)):Prop where
 fi:S.fi.length=S.le.length
 br:S.br.length=S.le.length
 mv:mvs.length=S.le.length
 cu:cus.length=S.le.length
 fr:∀ x∈S.fi,0≤x∧x<S.b.length
 mr:∀ ps∈mvs,∀ p∈ps,(0≤p.1∧p.1<S.st.length)∧0≤p.2∧p.2<S.b.length
 dr:∀ ds∈cus,∀ d∈ds,0≤d∧d<S.st.length
 bn:∀ v∈S.br,v=.none∨∃ d:Int,v=.int d∧0≤d∧d<S.st.length
 ps:∀ ps∈mvs,ps.length≤S.st.length
 cs:∀ ds∈cus,ds.length≤S.st.length
 sl:S.le.length<200
 st:S.st.length<200
 sb:S.b.length<200
theorem xK {h:Hp} {a:Nat} {xs:List AV} {x:Int} {v:AV} (e:h[a]? = some (.list xs)) (h0:0≤x) (h1:x<1000) (hv:xs[x.toNat]? = some v):qj h (.ref a) (.int x)=some v:=by
 have h3:okI x=true:=yQ.mpr ⟨by lia,by lia⟩
 rw [qA h3,e];exact hv
section
variable {T:Tab} {okf:Str→Str→Bool} (X:TT T okf) {n:Nat} {S:Sh} {r:Hp} {mvs:List (List (Int×Int))} {cus:List (List Int)}
theorem Sg.at_ (K:Sg S mvs cus) (D:Dy S mvs cus r) {i:Int} (h0:0≤i) (h1:i<S.le.length):∃ f ps ds v km kc,S.fi[i.toNat]? = some f∧mvs[i.toNat]? = some ps∧cus[i.toNat]? = some ds∧S.br[i.toNat]? = some v∧S.mv[i.toNat]? = some km∧S.cu[i.toNat]? = some kc ∧
  r[km]? = some (AO.list (ps.map pr))∧r[kc]? = some (AO.list (ds.map AV.int)):=by
 have a1:i.toNat<S.fi.length:=by rw [K.fi];lia
 have a2:i.toNat<mvs.length:=by rw [K.mv];lia
 have a3:i.toNat<cus.length:=by rw [K.cu];lia
 have a4:i.toNat<S.br.length:=by rw [K.br];lia
 have a5:i.toNat<S.mv.length:=by rw [D.ml];exact a2
 have a6:i.toNat<S.cu.length:=by rw [D.cl];exact a3
 have e2:=zu a2
 have e3:=zu a3
 have e5:=zu a5
 have e6:=zu a6
 exact ⟨_,_,_,_,_,_,zu a1,e2,e3,zu a4,e5,e6,D.m _ _ _ e5 e2,D.c _ _ _ e6 e3⟩
theorem J7 (K:Sg S mvs cus) {d:Int} (d0:0≤d) (d1:d<S.st.length):qj (S.hp r) (.ref 13) (.int d)=some (.bool (fl S.st d)):=xo (b:=S.st) rfl d0 d1 (Nat.le_trans (Nat.le_of_lt K.st) (by decide))
include X
theorem jD (K:Sg S mvs cus) (D:Dy S mvs cus r) {i:Int} (h0:0≤i) (h1:i<S.le.length) :
  run T (n+1) (.meth "Sheet" "seat_of") [.ref 1,.int i] (S.hp r)=.ok (.int (S.cur mvs i)) (S.hp r):=by
 unfold Sh.cur
 obtain ⟨f,ps,ds,v,km,kc,e1,e2,e3,e4,e5,e6,e7,e8⟩:=K.at_ D h0 h1
 have hsl:=K.sl
 rw [zW X.kAp,e1,e2]
 obtain ⟨fr',h',e,a,c,rfl,rfl⟩:=xO (t:=.many [3,4]) (src:=.ref (km+15)) (cf:=run T n) (xs:=ps.map pr)
  (body:=zD [(sIf (y6 (zF (zG (z6 0) "standing") (z6 3))) (zD [(z9 okf (.names (.one 2)) (z6 4))]) (zD []))])
  (fun k fr h=>∃ a c,fr=[some (.ref 1),some (.int i),some (.int (yB S.st f (ps.take k))),a,c]∧h=S.hp r)
  (by
   rintro k fr h ⟨a,c,rfl,rfl⟩
   show (match (S.hp r)[km+15]? with | some (.list ys)=>some ys[k]? | _=>none)=_
   rw [show (S.hp r)[km+15]? = _ from e7])
  (by
   rintro k x fr h ⟨a,c,rfl,rfl⟩ hx
   rw [List.getElem?_map] at hx
   obtain ⟨p,hp,rfl⟩:=y9 hx
   obtain ⟨⟨q0,q1⟩,q2,q3⟩:=K.mr ps (yF e2) p (yF hp)
   have tb:=yg (zv (zb (z5 (i:=0) (cf:=run T n) (fr:=[some (.ref 1),some (.int i),some (.int (yB S.st f (ps.take k))),some (.int p.1),some (.int p.2)]) (h:=S.hp r) rfl) rfl Qf) (z5 (i:=3) rfl) (J7 (r:=r) K q0 q1)) rfl
   refine ⟨[some (.ref 1),some (.int i),some (.int (yB S.st f (ps.take k))),some (.int p.1),some (.int p.2)],[some (.ref 1),some (.int i),some (.int (if fl S.st p.1 then p.2 else yB S.st f (ps.take k))),some (.int p.1),some (.int p.2)],S.hp r,rfl,?_,some (.int p.1),some (.int p.2),?_,rfl⟩
   ·refine (z7 ?_).trans zE
    cases hf:fl S.st p.1 with
    | true=>rw [hf] at tb;exact (zi tb).trans ((z7 (zU (j:=2) (z5 rfl) (zZ rfl))).trans zE)
    | false=>rw [hf] at tb;exact (zH tb).trans zE
   ·rw [List.take_succ,hp]
    show _=[_,_,some (AV.int (yB S.st f (ps.take k++[p]))),_,_]
    rw [jq])
  (fr:=[some (.ref 1),some (.int i),some (.int f),none,none]) (h:=S.hp r) ⟨none,none,rfl,rfl⟩
 rw [List.length_map,List.take_length] at *
 have es:yk (S.hp r) (rf km)=some (.ref (km+15),ps.length):=by
  show (match (S.hp r)[km+15]? with | some (.list xs)=>some (Src.ref (km+15),xs.length) | _=>none)=_
  rw [show (S.hp r)[km+15]? = _ from e7]
  show some (_,(ps.map pr).length)=_
  rw [List.length_map]
 refine zM (fr:=[some (.ref 1),some (.int i),none,none,none]) rfl rfl (fr':=[some (.ref 1),some (.int i),some (.int (yB S.st f ps)),a,c]) ?_
 unfold kAp
 dsimp only
 rw [z7 (zU (j:=2) (zv (zb (z5 rfl) rfl kS5) (z5 rfl) (jL (l:=S.fi) rfl h0 e1 (by rw [K.fi];exact Nat.le_trans (Nat.le_of_lt K.sl) (by decide)))) (zZ rfl))]
 have ei:zF (zG (z6 0) "moved") (z6 1) (run T n) [some (.ref 1),some (.int i),some (.int f),none,none] (S.hp r)=.ok (rf km) (S.hp r) :=
  zv (zb (z5 rfl) rfl kS6) (z5 rfl) (xK (xs:=S.mv.map rf) rfl h0 (by lia) (by rw [List.getElem?_map,e5];rfl))
 exact (z7 (wO (en:=false) ei es e)).trans (zL (zm (z5 rfl)))
theorem YI (K:Sg S mvs cus) (D:Dy S mvs cus r) {i:Int} (h0:0≤i) (h1:i<S.le.length) :
  ∃ g,run T (n+1) (.meth "Sheet" "is_shown") [.ref 1,.int i] (S.hp r)=.ok (.bool (S.shw cus i)) (S.hp (r++g)):=by
 obtain ⟨f,ps,ds,v,km,kc,e1,e2,e3,e4,e5,e6,e7,e8⟩:=K.at_ D h0 h1
 have hsl:=K.sl
 rw [zW X.kAk]
 unfold Sh.shw
 rw [e3,e4]
 show ∃ g,_=Out.ok (AV.bool (Zu S.st v && !ds.any (fl S.st))) _
 have en:=z7 (r:=[(sIf (zQ .And [(zR (z6 2) [.IsNot] [(z8 .none)]),(ym (y6 (zF (zG (z6 0) "standing") (z6 2))))]) (zD [(zf (z8 (.bool false)))]) (zD [])),(zf (X6 (zC (zA (some (.bi .any))) [(zj (zF (zG (z6 0) "cutters") (z6 1)) 1 (.one 3) (zQ .And []) (zF (zG (z6 0) "standing") (z6 3)))])))]) (zU (okf:=okf) (j:=2) (fr:=[some (.ref 1),some (.int i),none]) (zv (cf:=run T n) (h:=S.hp r) (zb (z5 (i:=0) rfl) rfl kS7) (z5 (i:=1) rfl) (xK (xs:=S.br) rfl h0 (by lia) e4)) (zZ rfl))
 have et:zQ .And [(zR (z6 2) [.IsNot] [(z8 .none)]),(ym (y6 (zF (zG (z6 0) "standing") (z6 2))))] (run T n) [some (.ref 1),some (.int i),some v] (S.hp r)=.ok (!Zu S.st v) (S.hp r):=by
  rcases K.bn v (yF e4) with rfl | ⟨d,rfl,d0,d1⟩
  ·exact xC (zS (b:=false) (z5 rfl) rfl rfl)
  ·have tb:=yO (yg (zv (zb (z5 (i:=0) (cf:=run T n) (fr:=[some (.ref 1),some (.int i),some (.int d)]) (h:=S.hp r) rfl) rfl Qf) (z5 (i:=2) rfl) (J7 (r:=r) K d0 d1)) rfl)
   refine xD (zS (b:=true) (z5 rfl) rfl rfl) ?_
   show _=Out.ok (!fl S.st d) _
   cases hf:!fl S.st d with
   | true=>rw [hf] at tb;exact xD tb qw
   | false=>rw [hf] at tb;exact xC tb
 cases hb:Zu S.st v with
 | false =>
  rw [hb] at et
  refine ⟨[],?_⟩
  rw [List.append_nil]
  exact zM (fr:=[some (.ref 1),some (.int i),none]) rfl rfl (en.trans (zL ((zi et).trans (zL (zm rfl)))))
 | true =>
  rw [hb] at et
  refine ⟨[.list (ds.map fun d=>AV.bool (fl S.st d))],?_⟩
  have ei:zF (zG (z6 0) "cutters") (z6 1) (run T n) [some (.ref 1),some (.int i),some v] (S.hp r)=.ok (.ref (kc+15)) (S.hp r) :=
   zv (zb (z5 rfl) rfl kS8) (z5 rfl) (xK (xs:=S.cu.map rf) rfl h0 (by lia) (by rw [List.getElem?_map,e6];rfl))
  have hds:=K.cs ds (yF e3)
  have ec:=yK AV.int (own:=1) (i:=3) (test:=zQ .And []) (elt:=zF (zG (z6 0) "standing") (z6 3)) (l:=ds) (p:=fun _=>true) (f:=fun d=>AV.bool (fl S.st d)) ei e8 (by show 3<4;decide) (Nat.lt_trans (Nat.lt_of_le_of_lt hds K.st) (by decide))
   (fun fr' a1 a2 x hx a3=>rfl)
   (fun fr' a1 a2 x hx a3=>by
    have a0:=a2 0 (by decide)
    obtain ⟨q0,q1⟩:=K.dr ds (yF e3) x hx
    exact zv (zb (z5 (show fr'[0]? = some (some (.ref 1)) from a0)) rfl Qf) (z5 a3) (J7 (r:=r) K q0 q1))
  rw [List.filter_eq_self.mpr (fun _ _=>rfl)] at ec
  have hg:(S.hp (r++[.list (ds.map fun d=>AV.bool (fl S.st d))]))[r.length+15]? = some (.list (ds.map fun d=>AV.bool (fl S.st d))):=zK r _ []
  have ea:=zCb hg (YT (f:=fun d=>fl S.st d))
  rw [List.any_map] at ea
  refine zM (fr:=[some (.ref 1),some (.int i),none]) rfl rfl (fr':=[some (.ref 1),some (.int i),some v]) (en.trans ((z7 ((zH et).trans zE)).trans (zL (zm ?_))))
  unfold X6
  rw [yv (ev1 ec ev0) ea]
  rfl
end
theorem Zd {st:List Bool} (ps:List (Int×Int)):∀ f,yB st f ps=f∨∃ p∈ps,yB st f ps=p.2:=by
 induction ps with
 | nil=>intro f;exact .inl rfl
 | cons p ps ih =>
  intro f
  rcases ih (if fl st p.1 then p.2 else f) with h | ⟨q,hq,h⟩
  ·have h:yB st f (p::ps)=if fl st p.1 then p.2 else f:=h
   by_cases hp:fl st p.1=true
   ·rw [if_pos hp] at h;exact .inr ⟨p,.head _,h⟩
   ·rw [if_neg hp] at h;exact .inl h
  ·exact .inr ⟨q,.tail _ hq,h⟩
noncomputable abbrev Sh.wb (S:Sh) (b:List Bool):Sh:={ S with b:=b }
theorem Sg.wb {S:Sh} {mvs:List (List (Int×Int))} {cus:List (List Int)} (K:Sg S mvs cus) {b:List Bool} (h:b.length=S.b.length):Sg (S.wb b) mvs cus :=
 ⟨K.fi,K.br,K.mv,K.cu,fun x hx=>by show 0≤x∧x<b.length;rw [h];exact K.fr x hx,fun ps hp p hq=>by show _∧0≤p.2∧p.2<b.length;rw [h];exact K.mr ps hp p hq,K.dr,K.bn,K.ps,K.cs,K.sl,K.st,by show b.length<200;rw [h];exact K.sb⟩
theorem Dy.wb {S:Sh} {mvs:List (List (Int×Int))} {cus:List (List Int)} {r:Hp} (D:Dy S mvs cus r) (b:List Bool):Dy (S.wb b) mvs cus r:=⟨D.ml,D.cl,D.m,D.c,D.nd⟩
section
variable {T:Tab} {okf:Str→Str→Bool} (X:TT T okf) {n:Nat} {S:Sh} {r:Hp} {mvs:List (List (Int×Int))} {cus:List (List Int)}
include X
theorem QS {fr:AFr} {e1 e2:XE} {x:Int} {v:Bool} {h:Hp} (h0:fr[0]? = some (some (.ref 1))) (hh:h[1]? = some (.inst "Sheet" (fS S.hands))) (ev:evs [e1,e2] (run T (n+3)) fr h=.ok [.int x,.bool v] (S.hp r)) (x0:0≤x) (x1:x<S.b.length) (hb:S.b.length<200) (h3:h[3]? = some (.inst "Row" fs)) :
  zN (zB (zG (z6 0) "row") "take" none [e1,e2]) (run T (n+3)) fr h=.ok .next fr ((S.wb (S.b.set x.toNat v)).hp r) :=
 zn (zP (a:=3) (zb (z5 h0) hh kS2) h3 WI ev (z31 X (n:=n) (o0:=S.g0) (o1:=.inst "Sheet" (fS S.hands)) (o2:=S.g2) (r:=S.tl r) x0 x1 (Nat.le_trans (Nat.le_of_lt hb) (by decide))))
theorem Jj {i:Int} {ps:List (Int×Int)} {km q:Nat} {a3 a4:Option AV} (hp:∀ p∈ps,0≤p.2∧p.2<S.b.length) (hb:S.b.length<200) (e7:r[km]? = some (AO.list (ps.map pr))) :
  ∃ b3 b4,q7 (.many [3,4]) (zD [(zN (zB (zG (z6 0) "row") "take" none [(z6 4),(z8 (.bool false))]))]) (.ref (km+15)) (ps.length+1) 0 (run T (n+3)) [some (.ref 1),some (.ref q),some (.int i),a3,a4] (S.hp r) =
   .ok .next [some (.ref 1),some (.ref q),some (.int i),b3,b4] ((S.wb (wR S.b (ps.map (·.2)))).hp r):=by
 obtain ⟨fr',h',e,b3,b4,rfl,rfl⟩:=xO (t:=.many [3,4]) (src:=.ref (km+15)) (cf:=run T (n+3)) (xs:=ps.map pr)
  (body:=zD [(zN (zB (zG (z6 0) "row") "take" none [(z6 4),(z8 (.bool false))]))])
  (fun k fr h=>∃ b3 b4,fr=[some (.ref 1),some (.ref q),some (.int i),b3,b4]∧h=(S.wb (wR S.b ((ps.take k).map (·.2)))).hp r)
  (by
   rintro k fr h ⟨a,c,rfl,rfl⟩
   show (match r[km]? with | some (.list ys)=>some ys[k]? | _=>none)=_
   rw [e7])
  (by
   rintro k x fr h ⟨a,c,rfl,rfl⟩ hx
   rw [List.getElem?_map] at hx
   obtain ⟨p,hpk,rfl⟩:=y9 hx
   obtain ⟨q2,q3⟩:=hp p (yF hpk)
   have hl:(wR S.b ((ps.take k).map (·.2))).length=S.b.length:=wQ _ _
   refine ⟨[some (.ref 1),some (.ref q),some (.int i),some (.int p.1),some (.int p.2)],_,_,rfl,(z7 (QS X (S:=S.wb (wR S.b ((ps.take k).map (·.2)))) (r:=r) rfl rfl (ev1 (z5 rfl) (ev1 rfl ev0)) q2 (by rw [hl];exact q3) (by rw [hl];exact hb) rfl)).trans zE,_,_,rfl,?_⟩
   rw [List.take_succ,hpk]
   show _=(S.wb (wR S.b ((ps.take k++[p]).map (·.2)))).hp r
   rw [List.map_append]
   show _=(S.wb (List.foldl _ _ (_++_))).hp r
   rw [List.foldl_append]
   rfl)
  (fr:=[some (.ref 1),some (.ref q),some (.int i),a3,a4]) (h:=S.hp r) ⟨a3,a4,rfl,rfl⟩
 rw [List.length_map,List.take_length] at e
 exact ⟨b3,b4,e⟩
theorem WA (K:Sg S mvs cus) (D:Dy S mvs cus r) {is:List Int} {q:Nat} (hq:r[q]? = some (AO.list (is.map AV.int))) (hi:∀ i∈is,0≤i∧i<S.le.length) :
  ∃ g,run T (n+4) (.meth "Sheet" "seated") [.ref 1,.ref (q+15)] (S.hp r)=.ok .none ((S.wb (ye S mvs cus S.b is)).hp (r++g)):=by
 have hsl:=K.sl
 have hsb:=K.sb
 rw [zW X.kAv]
 obtain ⟨fr',h',e,g,b2,b3,b4,rfl,rfl⟩:=xO (t:=.one 2) (src:=.ref (q+15)) (cf:=run T (n+3)) (xs:=is.map AV.int)
  (body:=(zD [(zN (zB (zG (z6 0) "row") "take" none [(zF (zG (z6 0) "firsts") (z6 2)),(z8 (.bool false))])),(qI (.many [3,4]) (zF (zG (z6 0) "moved") (z6 2)) false (zD [(zN (zB (zG (z6 0) "row") "take" none [(z6 4),(z8 (.bool false))]))])),(sIf (y6 (zB (z6 0) "is_shown" none [(z6 2)])) (zD [(zN (zB (zG (z6 0) "row") "take" none [(zB (z6 0) "seat_of" none [(z6 2)]),(z8 (.bool true))]))]) (zD []))]))
  (fun k fr h=>∃ g b2 b3 b4,fr=[some (.ref 1),some (.ref (q+15)),b2,b3,b4]∧h=(S.wb (ye S mvs cus S.b (is.take k))).hp (r++g))
  (by
   rintro k fr h ⟨g,a,c,d,rfl,rfl⟩
   show (match (r++g)[q]? with | some (.list ys)=>some ys[k]? | _=>none)=_
   rw [zI hq])
  (by
   rintro k x fr h ⟨g,a2,a3,a4,rfl,rfl⟩ hx
   rw [List.getElem?_map] at hx
   obtain ⟨i,hik,rfl⟩:=y9 hx
   obtain ⟨i0,i1⟩:=hi i (yF hik)
   generalize hb':ye S mvs cus S.b (is.take k)=b'
   have hl':b'.length=S.b.length:=by rw [← hb'];exact yw _ _
   obtain ⟨f,ps,ds,v,km,kc,e1,e2,e3,e4,e5,e6,e7,e8⟩:=K.at_ (D.grow g) i0 i1
   obtain ⟨f0,f1⟩:=K.fr f (yF e1)
   have hps:∀ p∈ps,0≤p.2∧p.2<S.b.length:=fun p hp=>(K.mr ps (yF e2) p hp).2
   have s1:=QS X (n:=n) (S:=S.wb b') (r:=r++g) (fr:=[some (.ref 1),some (.ref (q+15)),some (.int i),a3,a4]) (e1:=zF (zG (z6 0) "firsts") (z6 2)) (e2:=z8 (.bool false)) (x:=f) (v:=false) (h:=(S.wb b').hp (r++g)) rfl rfl
    (ev1 (zv (zb (z5 rfl) rfl kS5) (z5 rfl) (jL (l:=S.fi) rfl i0 e1 (by rw [K.fi];exact Nat.le_trans (Nat.le_of_lt K.sl) (by decide)))) (ev1 rfl ev0)) f0 (by show f<b'.length;rw [hl'];exact f1) (by show b'.length<200;rw [hl'];exact hsb) rfl
   have hl2:(b'.set f.toNat false).length=S.b.length:=List.length_set.trans hl'
   obtain ⟨b3,b4,lp⟩:=Jj X (n:=n) (S:=S.wb (b'.set f.toNat false)) (r:=r++g) (i:=i) (q:=q+15) (a3:=a3) (a4:=a4) (fun p hp=>by show _∧p.2<(b'.set f.toNat false).length;rw [hl2];exact hps p hp) (by show (b'.set f.toNat false).length<200;rw [hl2];exact hsb) e7
   have ei:zF (zG (z6 0) "moved") (z6 2) (run T (n+3)) [some (.ref 1),some (.ref (q+15)),some (.int i),a3,a4] ((S.wb (b'.set f.toNat false)).hp (r++g))=.ok (rf km) ((S.wb (b'.set f.toNat false)).hp (r++g)) :=
    zv (zb (z5 rfl) rfl kS6) (z5 rfl) (xK (xs:=S.mv.map rf) rfl i0 (by lia) (by rw [List.getElem?_map,e5];rfl))
   have es:yk ((S.wb (b'.set f.toNat false)).hp (r++g)) (rf km)=some (.ref (km+15),ps.length):=by
    show (match (r++g)[km]? with | some (.list xs)=>some (Src.ref (km+15),xs.length) | _=>none)=_
    rw [e7]
    show some (_,(ps.map pr).length)=_
    rw [List.length_map]
   have s2:=wO (en:=false) ei es lp
   generalize hb3:wR (b'.set f.toNat false) (ps.map (·.2))=bb at lp s2
   have hl3:bb.length=S.b.length:=by rw [← hb3];exact (wQ _ _).trans hl2
   obtain ⟨g',sh⟩:=YI X (n:=n+2) (K.wb hl3) ((D.grow g).wb bb) i0 i1
   have st:y6 (zB (z6 0) "is_shown" none [(z6 2)]) (run T (n+3)) [some (.ref 1),some (.ref (q+15)),some (.int i),b3,b4] ((S.wb bb).hp (r++g))=.ok (S.shw cus i) ((S.wb bb).hp ((r++g)++g')) :=
    yg (zP (a:=1) (z5 rfl) rfl jp (ev1 (z5 rfl) ev0) sh) rfl
   have fin:is.take (k+1)=is.take k++[i]:=by rw [List.take_succ,hik];rfl
   have sB:ye S mvs cus S.b (is.take (k+1))=bif S.shw cus i then bb.set (S.cur mvs i).toNat true else bb:=by
    rw [fin]
    show List.foldl _ _ (_++_)=_
    rw [List.foldl_append]
    show jk S mvs cus (ye S mvs cus S.b (is.take k)) i=_
    rw [hb']
    unfold jk
    rw [e1,e2]
    show (bif _ then (wR (b'.set f.toNat false) (ps.map (·.2))).set _ _ else wR (b'.set f.toNat false) (ps.map (·.2)))=_
    rw [hb3]
   refine ⟨[some (.ref 1),some (.ref (q+15)),some (.int i),a3,a4],[some (.ref 1),some (.ref (q+15)),some (.int i),b3,b4],(S.wb (bif S.shw cus i then bb.set (S.cur mvs i).toNat true else bb)).hp ((r++g)++g'),rfl,?_,g++g',_,_,_,rfl,?_⟩
   ·rw [z7 s1,z7 s2]
    cases hc:S.shw cus i with
    | true =>
     rw [hc] at st
     have so:=jD X (n:=n+2) (K.wb hl3) (((D.grow g).grow g').wb bb) i0 i1
     have lo:0≤S.cur mvs i∧S.cur mvs i<S.b.length:=by
      unfold Sh.cur
      rw [e1,e2]
      rcases Zd (st:=S.st) ps f with h | ⟨p,hp,h⟩
      ·show 0≤yB S.st f ps∧yB S.st f ps<S.b.length;rw [h];exact ⟨f0,f1⟩
      ·show 0≤yB S.st f ps∧yB S.st f ps<S.b.length;rw [h];exact hps p hp
     exact (z7 ((zi st).trans ((z7 (QS X (n:=n) (S:=S.wb bb) (r:=(r++g)++g') rfl rfl (ev1 (zP (a:=1) (z5 rfl) rfl qx (ev1 (z5 rfl) ev0) so) (ev1 rfl ev0)) lo.1 (by show _<(bb.length:Int);rw [hl3];exact lo.2) (by show bb.length<200;rw [hl3];exact hsb) rfl)).trans zE))).trans zE
    | false =>
     rw [hc] at st
     exact (z7 ((zH st).trans zE)).trans zE
   ·rw [sB,List.append_assoc])
  (fr:=[some (.ref 1),some (.ref (q+15)),none,none,none]) (h:=S.hp r) ⟨[],none,none,none,rfl,by rw [List.append_nil];rfl⟩
 rw [List.length_map,List.take_length] at e
 refine ⟨g,yI (fr:=[some (.ref 1),some (.ref (q+15)),none,none,none]) rfl rfl (fr':=[some (.ref 1),some (.ref (q+15)),b2,b3,b4]) ?_⟩
 unfold kAv
 dsimp only
 have es:yk (S.hp r) (.ref (q+15))=some (.ref (q+15),is.length):=by
  show (match r[q]? with | some (.list xs)=>some (Src.ref (q+15),xs.length) | _=>none)=_
  rw [hq]
  show some (_,(is.map AV.int).length)=_
  rw [List.length_map]
 exact (z7 (wO (en:=false) (x:=z6 1) (z5 rfl) es e)).trans zE
end
theorem zBh {cf:CF} {fr:AFr} {h h1:Hp} {x y:XE} {res:Out AV} (e:x cf fr h=.ok (.bool true) h1) (e':y cf fr h1=res):wX .And [x,y] cf fr h=res:=by rw [Zt,e];exact e'
noncomputable def LET:Str := " !\"#$&'()*+,-./0123456789:;<=>?@ABCDEFGHIJKLMNOPQRSTUVWXYZ[\\]^_`abcdefghijklmnopqrstuvwxyz{|}~\n"
noncomputable def okT (cs:List Nat):Prop:=∀ c∈cs,c∈LET.cps.toList
theorem z2c:LET.cps.toList.all (fun c=>Txt.contains LET ⟨#[c]⟩ && decide (c<1114112))=true:=by decide +kernel
theorem z00 {c:Nat} (h:c∈LET.cps.toList):Txt.contains LET ⟨#[c]⟩=true∧c<1114112:=by
 have:=List.all_eq_true.mp z2c c h
 exact ⟨(Bool.and_eq_true_iff.mp this).1,of_decide_eq_true (Bool.and_eq_true_iff.mp this).2⟩
theorem kBy {cs:List Nat} (h:okT cs):PyData.strOk (tx cs)=true:=by
 unfold PyData.strOk
 rw [Array.all_eq_true_iff_forall_mem]
 intro x hx
 exact decide_eq_true (z00 (h x (by simpa using hx))).2
section
variable {T:Tab} {okf:Str→Str→Bool} (X:TT T okf) {n:Nat} {S:Sh} {r:Hp} {mvs:List (List (Int×Int))} {cus:List (List Int)}
include X
theorem Xq {cs:List Nat} (h:okT cs) (hl:cs.length≤200) {hp:Hp}:run T (n+1) (.fn "is_text") [.str (tx cs)] hp=.ok (.bool true) (hp++[.list (cs.map fun _=>AV.bool true)]):=by
 rw [ya X.kB0]
 have ec:=qp ch (it:=z6 0) (own:=1) (i:=1) (v:=.str (tx cs)) (test:=zQ .And []) (elt:=qq (z6 1) [.In] [zA (some (.str LET))]) (cf:=run T n) (fr:=[some (.str (tx cs))]) (h:=hp) (h1:=hp) (l:=cs) (p:=fun _=>true) (f:=fun _=>AV.bool true) rfl rfl (zZ rfl) (Nat.lt_of_le_of_lt hl (by decide))
  (fun fr' a1 a2 x hx a3=>rfl)
  (fun fr' a1 a2 x hx a3=>by
   unfold qq
   rw [zS (b:=true) (z5 a3) rfl (by rw [zC5,(z00 (h x hx)).1])]
   rfl)
 rw [List.filter_eq_self.mpr (fun _ _=>rfl)] at ec
 have hg:(hp++[.list (cs.map fun _=>AV.bool true)])[hp.length]? = some (AO.list (cs.map fun _=>AV.bool true)):=zK hp _ []
 have ea:=zCc hg (YT (f:=fun _=>true))
 have hb:(cs.map fun _=>true).all id=true:=List.all_eq_true.mpr fun x hx=>by obtain ⟨_,_,rfl⟩:=List.mem_map.mp hx;rfl
 rw [hb] at ea
 refine zM (fr:=[some (.str (tx cs))]) rfl rfl (fr':=[some (.str (tx cs))]) (zL (zm ?_))
 exact zBh (yv (h2:=hp) (vs:=[.str (tx cs),.bi .str]) (ev1 (z5 rfl) (ev1 rfl ev0)) (zC9 (v:=.str (tx cs)))) (yv (ev1 ec ev0) ea)
theorem QV (K:Sg S mvs cus) (D:Dy S mvs cus r) {is:List Int} {q:Nat} {hd wd:AV} (hq:r[q]? = some (AO.list (is.map AV.int))) (hi:∀ i∈is,0≤i∧i<S.le.length) (hn:S.dn.length<200) :
  ∃ g,run T (n+5) (.meth "Sheet" "noted") [.ref 1,hd,wd,.ref (q+15)] (S.hp r)=.ok (.int S.dn.length) (({ S with b:=ye S mvs cus S.b is,dn:=S.dn++[.tup [hd,wd,.ref (q+15)]] }:Sh).hp (r++g)):=by
 rw [zW X.kA2]
 let S1:Sh:={ S with dn:=S.dn++[.tup [hd,wd,.ref (q+15)]] }
 have K1:Sg S1 mvs cus:=⟨K.fi,K.br,K.mv,K.cu,K.fr,K.mr,K.dr,K.bn,K.ps,K.cs,K.sl,K.st,K.sb⟩
 have D1:Dy S1 mvs cus r:=⟨D.ml,D.cl,D.m,D.c,D.nd⟩
 obtain ⟨g,e⟩:=WA X (n:=n) K1 D1 hq hi
 refine ⟨g,zM (fr:=[some (.ref 1),some hd,some wd,some (.ref (q+15))]) rfl rfl (fr':=[some (.ref 1),some hd,some wd,some (.ref (q+15))]) ?_⟩
 unfold kA2
 dsimp only
 rw [z7 (wp (a:=12) (zs:=S.dn++[.tup [hd,wd,.ref (q+15)]]) rfl rfl kS9 rfl (q6 (ev1 (z5 rfl) (ev1 (z5 rfl) (ev1 (z5 rfl) ev0)))) rfl (Nat.lt_trans hn (by decide)) rfl)]
 show zD _ _ _ (S1.hp r)=_
 rw [z7 (zn (zP (a:=1) (z5 rfl) rfl YG (ev1 (z5 rfl) ev0) e))]
 refine zL (zm (yR (qa (a:=12) (ys:=S.dn++[.tup [hd,wd,.ref (q+15)]]) rfl rfl kS9 rfl (zT)) rfl ?_))
 rw [ZD]
 show Out.ok (AV.int (((S.dn.length+1:Nat):Int) - 1)) _=_
 rw [show ((S.dn.length+1:Nat):Int) - 1=S.dn.length by lia]
 rfl
end
theorem Good.nodup {l:List Int} {b:List Bool} (G:Good l b):l.Nodup:=by
 refine G.perm.nodup_iff.mpr ?_
 rw [List.nodup_iff_pairwise_ne,List.pairwise_map]
 exact List.Pairwise.imp (fun h=>by lia) List.pairwise_lt_range
theorem J6 {l:List Bool}:(l++[true]).length=l.length+1:=zT
theorem ji {l:List Bool}:(l.length:Int)<((l++[true]).length:Nat):=by rw [J6];exact Int.ofNat_lt.mpr (Nat.lt_succ_self _)
noncomputable abbrev Sh.ws (S:Sh) (st:List Bool):Sh:={ S with st:=st }
theorem Sg.ws {S:Sh} {mvs:List (List (Int×Int))} {cus:List (List Int)} (K:Sg S mvs cus) {st:List Bool} (h:S.st.length≤st.length) (hs:st.length<200):Sg (S.ws st) mvs cus :=
 have up:∀ {x:Int},x<S.st.length→x<st.length:=fun q=>Int.lt_of_lt_of_le q (Int.ofNat_le.mpr h)
 ⟨K.fi,K.br,K.mv,K.cu,K.fr,fun ps hp p hq=>⟨⟨(K.mr ps hp p hq).1.1,up (K.mr ps hp p hq).1.2⟩,(K.mr ps hp p hq).2⟩,fun ds hd d hq=>⟨(K.dr ds hd d hq).1,up (K.dr ds hd d hq).2⟩,
  fun v hv=>(K.bn v hv).imp id fun ⟨d,h,a,c⟩=>⟨d,h,a,up c⟩,fun ps hp=>Nat.le_trans (K.ps ps hp) h,fun ps hp=>Nat.le_trans (K.cs ps hp) h,K.sl,hs,K.sb⟩
theorem Sg.adds {S:Sh} {mvs:List (List (Int×Int))} {cus:List (List Int)} (K:Sg S mvs cus) {i q:Nat} {d:Int} {cs:List Nat} (hd:0≤d∧d<S.st.length) (hb:S.b.length+cs.length<200) (he:S.le.length+cs.length<200) :
  Sg (S.adds i (.int d) q cs) (mvs++List.replicate cs.length []) (cus++List.replicate cs.length []):=by
 have lb:(S.adds i (.int d) q cs).b.length=S.b.length+cs.length:=by show (S.b++List.replicate cs.length true).length=_;rw [zT,List.length_replicate]
 have ll:(S.adds i (.int d) q cs).le.length=S.le.length+cs.length:=zT
 refine ⟨?_,?_,?_,?_,fun x hx=>?_,fun ps hp p hq=>?_,fun ds hp p hq=>?_,fun v hv=>?_,fun ps hp=>?_,fun ps hp=>?_,by rw [ll];exact he,K.st,by rw [lb];exact hb⟩
 ·rw [ll];show (S.fi++zO S.b.length cs.length).length=_;rw [zT,zh,K.fi]
 ·rw [ll];show (S.br++List.replicate cs.length _).length=_;rw [zT,List.length_replicate,K.br]
 ·rw [ll,zT,List.length_replicate,K.mv]
 ·rw [ll,zT,List.length_replicate,K.cu]
 ·rw [lb]
  rcases yn hx with h | h
  ·exact ⟨(K.fr x h).1,X9 _ (K.fr x h).2⟩
  ·exact ⟨Int.le_trans (Int.natCast_nonneg _) (yJ h).1,(yJ h).2⟩
 ·rw [lb]
  rcases yn hp with h | h
  ·obtain ⟨a,c,e⟩:=K.mr ps h p hq;exact ⟨a,c,X9 _ e⟩
  ·rw [(List.mem_replicate.mp h).2] at hq;cases hq
 ·rcases yn hp with h | h
  ·exact K.dr ds h p hq
  ·rw [(List.mem_replicate.mp h).2] at hq;cases hq
 ·rcases yn hv with h | h
  ·exact K.bn v h
  ·exact .inr ⟨d,(List.mem_replicate.mp h).2,hd⟩
 ·rcases yn hp with h | h
  ·exact K.ps ps h
  ·rw [(List.mem_replicate.mp h).2];exact Nat.zero_le _
 ·rcases yn hp with h | h
  ·exact K.cs ps h
  ·rw [(List.mem_replicate.mp h).2];exact Nat.zero_le _
theorem jX {α:Type} {p:Prop} [Decidable p] {x y:α} (e:(if p then some x else none)=some y):p∧x=y:=by
 by_cases h:p
 ·rw [if_pos h] at e;exact ⟨h,Option.some.inj e⟩
 ·rw [if_neg h] at e;cases e
theorem jN {α:Type} {a c:List α} {i:Nat} {x:α} (h:(a++c)[i]? = some x):(i<a.length∧a[i]? = some x)∨(a.length≤i∧c[i - a.length]? = some x):=by
 by_cases hi:i<a.length
 ·rw [List.getElem?_append_left hi] at h;exact .inl ⟨hi,h⟩
 ·rw [List.getElem?_append_right (by lia)] at h;exact .inr ⟨by lia,h⟩
theorem Dy.lt {S:Sh} {mvs:List (List (Int×Int))} {cus:List (List Int)} {r:Hp} (D:Dy S mvs cus r):∀ k∈S.mv++S.cu,k<r.length:=by
 intro k hk
 rcases yn hk with h | h
 ·obtain ⟨i,hi,rfl⟩:=List.getElem_of_mem h
  have e:=zu hi
  have h2:i<mvs.length:=by rw [← D.ml];exact hi
  exact (y7 (D.m i _ _ e (zu h2))).1
 ·obtain ⟨i,hi,rfl⟩:=List.getElem_of_mem h
  have e:=zu hi
  have h2:i<cus.length:=by rw [← D.cl];exact hi
  exact (y7 (D.c i _ _ e (zu h2))).1
theorem Dy.adds {S:Sh} {mvs:List (List (Int×Int))} {cus:List (List Int)} {r:Hp} (D:Dy S mvs cus r) {i:Nat} {d:AV} {cs:List Nat} {o:AO} :
  Dy (S.adds i d (r.length+1) cs) (mvs++List.replicate cs.length []) (cus++List.replicate cs.length []) (r++o::List.replicate (2 * cs.length) (.list [])):=by
 have nw:∀ k,k<2 * cs.length→(r++o::List.replicate (2 * cs.length) (AO.list []))[r.length+1+k]? = some (.list []):=fun k hk=>by
  rw [Nat.add_assoc,yH,Nat.add_comm 1 k,List.getElem?_cons_succ,List.getElem?_replicate,if_pos hk]
 refine ⟨?_,?_,fun j k ps h1 h2=>?_,fun j k ds h1 h2=>?_,?_⟩
 ·show (S.mv++_).length=_;rw [zT,zT,List.length_map,List.length_range,List.length_replicate,D.ml]
 ·show (S.cu++_).length=_;rw [zT,zT,List.length_map,List.length_range,List.length_replicate,D.cl]
 ·rcases jN h1 with ⟨a1,a2⟩ | ⟨a1,a2⟩
  ·rw [List.getElem?_append_left (by rw [← D.ml];exact a1)] at h2
   exact zI (D.m j k ps a2 h2)
  ·rw [List.getElem?_append_right (by rw [← D.ml];exact a1),List.getElem?_replicate] at h2
   rw [List.getElem?_map] at a2
   obtain ⟨m,hm,rfl⟩:=y9 a2
   have hlt:=(y7 hm).1
   rw [List.length_range] at hlt
   rw [List.getElem?_range hlt] at hm
   cases hm
   obtain ⟨_,rfl⟩:=jX h2
   exact nw _ (Nat.mul_lt_mul_of_pos_left hlt (by decide))
 ·rcases jN h1 with ⟨a1,a2⟩ | ⟨a1,a2⟩
  ·rw [List.getElem?_append_left (by rw [← D.cl];exact a1)] at h2
   exact zI (D.c j k ds a2 h2)
  ·rw [List.getElem?_append_right (by rw [← D.cl];exact a1),List.getElem?_replicate] at h2
   rw [List.getElem?_map] at a2
   obtain ⟨m,hm,rfl⟩:=y9 a2
   have hlt:=(y7 hm).1
   rw [List.length_range] at hlt
   rw [List.getElem?_range hlt] at hm
   cases hm
   obtain ⟨_,rfl⟩:=jX h2
   rw [Nat.add_assoc (r.length+1)]
   exact nw _ (Nat.lt_of_lt_of_le (Nat.lt_succ_self _) (Nat.mul_le_mul_left 2 hlt))
 ·show ((S.mv++(List.range cs.length).map fun j=>r.length+1+2 * j)++(S.cu++(List.range cs.length).map fun j=>r.length+1+2 * j+1)).Nodup
  have lt:=D.lt
  have nd:=D.nd
  rw [List.nodup_append] at nd ⊢
  obtain ⟨n1,n2,n3⟩:=nd
  have big1:∀ x∈(List.range cs.length).map (fun j=>r.length+1+2 * j),r.length<x∧(x - r.length) % 2=1:=fun x hx=>by
   obtain ⟨j,_,rfl⟩:=List.mem_map.mp hx;lia
  have big2:∀ x∈(List.range cs.length).map (fun j=>r.length+1+2 * j+1),r.length<x∧(x - r.length) % 2=0:=fun x hx=>by
   obtain ⟨j,_,rfl⟩:=List.mem_map.mp hx;lia
  have nr1:((List.range cs.length).map (fun j=>r.length+1+2 * j)).Nodup:=by
   rw [List.nodup_iff_pairwise_ne,List.pairwise_map];exact List.Pairwise.imp (fun h=>Nat.ne_of_lt (by first | exact Nat.add_lt_add_left (Nat.mul_lt_mul_of_pos_left h (by decide)) _ | exact Nat.succ_lt_succ (Nat.add_lt_add_left (Nat.mul_lt_mul_of_pos_left h (by decide)) _))) List.pairwise_lt_range
  have nr2:((List.range cs.length).map (fun j=>r.length+1+2 * j+1)).Nodup:=by
   rw [List.nodup_iff_pairwise_ne,List.pairwise_map];exact List.Pairwise.imp (fun h=>Nat.ne_of_lt (by first | exact Nat.add_lt_add_left (Nat.mul_lt_mul_of_pos_left h (by decide)) _ | exact Nat.succ_lt_succ (Nat.add_lt_add_left (Nat.mul_lt_mul_of_pos_left h (by decide)) _))) List.pairwise_lt_range
  refine ⟨List.nodup_append.mpr ⟨n1,nr1,fun x hx y hy e=>?_⟩,List.nodup_append.mpr ⟨n2,nr2,fun x hx y hy e=>?_⟩,fun x hx y hy e=>?_⟩
  ·exact absurd (e▸lt x (List.mem_append_left _ hx)) (Nat.lt_asymm (big1 y hy).1)
  ·exact absurd (e▸lt x (List.mem_append_right _ hx)) (Nat.lt_asymm (big2 y hy).1)
  ·subst e
   rcases yn hx with hx | hx <;> rcases yn hy with hy | hy
   ·exact n3 x hx x hy rfl
   ·exact absurd (lt x (List.mem_append_left _ hx)) (Nat.lt_asymm (big2 x hy).1)
   ·exact absurd (lt x (List.mem_append_right _ hy)) (Nat.lt_asymm (big1 x hx).1)
   ·exact absurd ((big1 x hx).2.symm.trans (big2 x hy).2) (by decide)
noncomputable def aP (b:List Bool) (l:List Int) (p:Int):Nat:=if p=0 then 0 else l.findIdx (· == (tk b l)[(p - 1).toNat]?.getD 0)+1
section
variable {T:Tab} {okf:Str→Str→Bool} (X:TT T okf) {n:Nat} {S:Sh} {r:Hp} {mvs:List (List (Int×Int))} {cus:List (List Int)}
include X
theorem z17 (G:Good S.l S.b) {p:Int} (h0:0≤p) (h1:p≤(tk S.b S.l).length) :
  ∃ g bh i,run T (n+4) (.meth "Sheet" "seat_ahead") [.ref 1,.int p] (S.hp r)=.ok bh (S.hp (r++g))∧At S.l S.b bh i∧i=aP S.b S.l p:=by
 by_cases hp:p=0
 ·subst hp
  exact ⟨[],.none,0,by rw [List.append_nil];exact Ym X (n:=n+3),.inl ⟨rfl,rfl⟩,rfl⟩
 ·obtain ⟨g,e⟩:=XQ X (n:=n) (r:=r) (p:=p) (by lia) h1 G
  have hk:(p - 1).toNat<(tk S.b S.l).length:=by lia
  have ex:=zu hk
  rw [ex] at e
  have hm:(tk S.b S.l)[(p - 1).toNat]∈S.l:=(List.mem_filter.mp (List.getElem_mem hk)).1
  obtain ⟨x0,x1⟩:=G.rng _ hm
  obtain ⟨j,hj,_⟩:=G.idx x0 x1
  refine ⟨g,_,j+1,e,.inr ⟨_,j,rfl,x0,x1,hj,rfl⟩,?_⟩
  unfold aP
  rw [if_neg hp,ex]
  exact congrArg (·+1) (List.findIdx?_eq_some_iff_findIdx_eq.mp hj).2.symm
end
theorem W3 {h:Hp} {x:Str} (e:PyData.strOk x=true):toD h 8 (.str x)=some (.str x):=by
 show (if PyData.strOk x then some (PyData.str x) else none)=_
 rw [if_pos e]
theorem wC {h:Hp} {x y:Str} (e:PyData.strOk x=true) (e':PyData.strOk y=true):aEq h (.str x) (.str y)=some (x == y):=jB (W3 e) (W3 e')
theorem WV:PyData.strOk ("" : Str)=true:=by decide +kernel
theorem zBa {a c:List Nat} (h:tx a=tx c):a=c:=congrArg (fun s:Str=>s.cps.toList) h
theorem zCm {cs:List Nat} (h:cs≠[]):(tx cs == ("" : Str))=false:=beq_eq_false_iff_ne.mpr fun e=>h (zBa (c:=[]) e)
theorem Ok1.sz {S:Sh} {mvs:List (List (Int×Int))} {cus:List (List Int)} {r:Hp} (O:Ok1 S) (K:Sg S mvs cus) (D:Dy S mvs cus r):Sz S 500:=by
 have h1:=O.G.len
 have h2:=O.G.sm
 have h3:=K.sl
 exact ⟨by lia,by lia,by rw [O.ow];lia,by lia,by rw [K.fi];lia,by rw [D.ml,K.mv];lia,by rw [K.br];lia,by rw [D.cl,K.cu];lia⟩
noncomputable def Kp (S:Sh) (r r':Hp):Prop:=∀ (q:Nat) (o:AO),q∉S.mv→q∉S.cu→r[q]? = some o→r'[q]? = some o
noncomputable abbrev Sh.s1 (S:Sh):Sh:={ S with st:=S.st++[true] }
theorem QP {S:Sh}:S.s1.st.length=S.st.length+1:=J6
section
variable {T:Tab} {okf:Str→Str→Bool} (X:TT T okf) {n:Nat} {S:Sh} {r:Hp} {mvs:List (List (Int×Int))} {cus:List (List Int)}
theorem Sg.st1 (K:Sg S mvs cus) (h:S.s1.st.length<200):Sg S.s1 mvs cus:=K.ws (Nat.le_of_lt (Int.ofNat_lt.mp ji)) h
include X
theorem QL {fr:AFr} (h0:fr[0]? = some (some (.ref 1))) (hs:S.st.length<200):zN (zB (zG (z6 0) "standing") "append" (some .append) [(z8 (.bool true))]) (run T n) fr (S.hp r)=.ok .next fr (S.s1.hp r) :=
 wp (h:=S.hp r) (h1:=S.hp r) (v:=.bool true) (a:=13) (ys:=S.st.map AV.bool) (zs:=(S.st++[true]).map AV.bool) h0 rfl Qf rfl rfl rfl (by rw [List.length_map];exact Nat.lt_trans hs (by decide)) (xY AV.bool S.st true)
theorem zEk (O:Ok1 S) (K:Sg S mvs cus) (D:Dy S mvs cus r) (hst:S.st.length=S.dn.length) {hd p:Int} {cs:List Nat} (d0:0≤hd) (d1:hd<S.hands) (p0:0≤p) (p1:p≤(tk S.b S.l).length) (ok:okT cs) (ne:cs≠[]) (hc:cs.length≤100)
  (hb:S.b.length+cs.length<200) (he:S.le.length+cs.length<200) (hs:S.s1.st.length<200) :
  ∃ r' i q x,i=aP S.b S.l p∧i≤S.l.length ∧
   run T (n+6) (.meth "Sheet" "put") [.ref 1,.int hd,.int p,.str (tx cs)] (S.hp r)=.ok (.int S.dn.length) (({ S.s1.adds i (.int S.dn.length) q cs with b:=ye (S.s1.adds i (.int S.dn.length) q cs) (mvs++List.replicate cs.length []) (cus++List.replicate cs.length []) (S.s1.adds i (.int S.dn.length) q cs).b (zO S.le.length cs.length),dn:=S.dn++[x] }:Sh).hp r') ∧
   Dy (S.s1.adds i (.int S.dn.length) q cs) (mvs++List.replicate cs.length []) (cus++List.replicate cs.length []) r'∧Kp S r r'∧r.length≤q∧∃ q':Nat,q=q'+1∧r.length≤q'∧x=.tup [.int hd,.str "put",.ref (q'+15)]∧r'[q']? = some (.list ((zO S.le.length cs.length).map AV.int)):=by
 have hs0:S.st.length<200:=Nat.lt_trans (Int.ofNat_lt.mp ji) hs
 have p2:p≤S.b.countP id:=by rw [← O.G.count];exact p1
 generalize hr1:r++[.list (cs.map fun _=>AV.bool true)]=r1
 have D1:Dy S.s1 mvs cus r1:=by rw [← hr1];have:=D.grow [.list (cs.map fun _=>AV.bool true)];exact ⟨this.ml,this.cl,this.m,this.c,this.nd⟩
 have O1:Ok1 S.s1:=⟨O.G,O.ow,O.own,O.le⟩
 have K1:=K.st1 hs
 obtain ⟨g,bh,i,ea,hA,t1⟩:=z17 X (n:=n+1) (S:=S.s1) (r:=r1) O.G p0 p1
 have eb:=z12 X (n:=n+1) (S:=S.s1) (r:=r1++g) (bh:=bh) (d:=.int S.dn.length) (i:=i) (cs:=cs) hA (O1.sz K1 D1) (fun x hx=>(O.G.rng x hx).2) hc
 have D2:=(D1.grow g).adds (i:=i) (d:=.int S.dn.length) (cs:=cs) (o:=.list ((zO S.s1.le.length cs.length).map AV.int))
 have K2:=K1.adds (i:=i) (q:=(r1++g).length+1) (d:=S.dn.length) (cs:=cs) ⟨Int.natCast_nonneg _,by rw [← hst];exact ji⟩ hb he
 obtain ⟨g2,en⟩:=QV X (n:=n) (hd:=.int hd) (wd:=.str "put") (q:=(r1++g).length) (is:=zO S.le.length cs.length) K2 D2 (zK _ _ _) (fun j hj=>by
  have:=yJ hj
  show 0≤j∧j<((S.le++cs).length:Int)
  rw [zT];lia) (by show S.dn.length<200;rw [← hst];exact hs0)
 refine ⟨_,i,(r1++g).length+1,.tup [.int hd,.str "put",.ref ((r1++g).length+15)],t1,hA.le,?_,⟨(D2.grow g2).ml,(D2.grow g2).cl,(D2.grow g2).m,(D2.grow g2).c,(D2.grow g2).nd⟩,fun q o _ _ h=>zI (zI (zI (by rw [← hr1];exact zI h))),by rw [← hr1,zT,zT];lia,(r1++g).length,rfl,by rw [← hr1,zT,zT,Nat.add_assoc];exact Nat.le_add_right _ _,rfl,zI (zK _ _ _)⟩
 rw [zW X.kBd]
 refine zM (fr:=[some (.ref 1),some (.int hd),some (.int p),some (.str (tx cs))]) rfl rfl (fr':=[some (.ref 1),some (.int hd),some (.int p),some (.str (tx cs))]) ?_
 unfold kBd
 dsimp only
 rw [z7 (zn (zP (a:=1) (z5 rfl) rfl xZ (ev1 (z5 rfl) ev0) (qO X (n:=n+3) d0 d1)))]
 rw [z7 (zn (zP (a:=1) (z5 rfl) rfl xr (ev1 (z5 rfl) ev0) (qX X (n:=n+2) p0 p2)))]
 have et:zQ .Or [(ym (y6 (zC (zA (some (.fn "is_text"))) [(z6 3)]))),(zR (z6 3) [.Eq] [(z8 (.str ""))])] (run T (n+5)) [some (.ref 1),some (.int hd),some (.int p),some (.str (tx cs))] (S.hp r)=.ok false (S.hp r1):=by
  refine xP (h1:=S.hp r1) (yO (b:=true) (yg (v:=.bool true) (zp (ev1 (z5 rfl) ev0) ((Xq X (n:=n+4) ok (by lia)).trans ?_)) rfl)) (xP (zS (z5 rfl) rfl ?_) qJ)
  ·rw [← hr1];rfl
  ·rw [xz,wC (kBy ok) WV,zCm ne]
 rw [z7 ((zH et).trans zE)]
 rw [z7 (QL X (n:=n+5) rfl hs0)]
 refine zL (zm (zP (a:=1) (z5 rfl) rfl ZZ (ev1 (z5 rfl) (ev1 rfl (ev1 (zP (a:=1) (z5 rfl) rfl Xf (ev1 (z5 rfl) (ev1 (zP (a:=1) (z5 rfl) rfl wr (ev1 (z5 rfl) ev0) ea) (ev1 (qa (a:=12) rfl rfl kS9 rfl rfl) ev0))) eb) ev0))) en))
end
theorem XX {mv cu:List Nat} (nd:(mv++cu).Nodup) {i j k m:Nat} (h1:mv[i]? = some k) (h2:cu[j]? = some m):k≠m:=by
 rw [List.nodup_append] at nd
 exact nd.2.2 k (yF h1) m (yF h2)
theorem YD {l:List Nat} (nd:l.Nodup) {i j k:Nat} (h1:l[i]? = some k) (h2:l[j]? = some k):i=j :=
 (List.getElem?_inj (y7 h1).1 nd).mp (h1.trans h2.symm)
theorem Dy.setC {S:Sh} {mvs:List (List (Int×Int))} {cus:List (List Int)} {r:Hp} (D:Dy S mvs cus r) {i kc:Nat} {ds:List Int} (h:S.cu[i]? = some kc):Dy S mvs (cus.set i ds) (r.set kc (.list (ds.map AV.int))):=by
 have hlt:=D.lt kc (List.mem_append_right _ (yF h))
 have nd2:S.cu.Nodup:=(List.nodup_append.mp D.nd).2.1
 refine ⟨D.ml,by rw [List.length_set];exact D.cl,fun j k ps h1 h2=>?_,fun j k es h1 h2=>?_,D.nd⟩
 ·rw [List.getElem?_set_ne (Ne.symm (XX D.nd h1 h))];exact D.m j k ps h1 h2
 ·by_cases hj:i=j
  ·subst hj
   rw [h] at h1;cases h1
   rw [List.getElem?_set_self (by rw [← D.cl];exact (y7 h).1)] at h2
   cases h2
   exact List.getElem?_set_self hlt
  ·rw [List.getElem?_set_ne hj] at h2
   rw [List.getElem?_set_ne (fun (q:_=k)=>hj (YD nd2 h (by rw [q];exact h1)))]
   exact D.c j k es h1 h2
theorem Dy.setM {S:Sh} {mvs:List (List (Int×Int))} {cus:List (List Int)} {r:Hp} (D:Dy S mvs cus r) {i km:Nat} {ps:List (Int×Int)} (h:S.mv[i]? = some km):Dy S (mvs.set i ps) cus (r.set km (.list (ps.map pr))):=by
 have hlt:=D.lt km (List.mem_append_left _ (yF h))
 have nd2:S.mv.Nodup:=(List.nodup_append.mp D.nd).1
 refine ⟨by rw [List.length_set];exact D.ml,D.cl,fun j k es h1 h2=>?_,fun j k es h1 h2=>?_,D.nd⟩
 ·by_cases hj:i=j
  ·subst hj
   rw [h] at h1;cases h1
   rw [List.getElem?_set_self (by rw [← D.ml];exact (y7 h).1)] at h2
   cases h2
   exact List.getElem?_set_self hlt
  ·rw [List.getElem?_set_ne hj] at h2
   rw [List.getElem?_set_ne (fun (q:_=k)=>hj (YD nd2 h (by rw [q];exact h1)))]
   exact D.m j k es h1 h2
 ·rw [List.getElem?_set_ne (XX D.nd h h1)];exact D.c j k es h1 h2
noncomputable def yC (d:Int) (cus:List (List Int)) (is:List Int):List (List Int):=is.foldl (fun c i=>c.set i.toNat (c[i.toNat]?.getD []++[d])) cus
theorem ju (d:Int) (cus:List (List Int)) (is:List Int) (i:Int):yC d cus (is++[i])=(yC d cus is).set i.toNat ((yC d cus is)[i.toNat]?.getD []++[d]):=by
 unfold yC;rw [List.foldl_append];rfl
theorem j7 (d:Int) (is:List Int):∀ cus:List (List Int),(yC d cus is).length=cus.length:=by
 induction is with
 | nil=>intro c;rfl
 | cons i is ih=>intro c;exact (ih _).trans List.length_set
noncomputable def yA (d:Int):List (List (Int×Int))→Nat→List Int→List (List (Int×Int))
 | mvs,_,[]=>mvs
 | mvs,n,i::is=>yA d (mvs.set i.toNat (mvs[i.toNat]?.getD []++[(d,(n:Int))])) (n+1) is
theorem Xb (d:Int) (is:List Int) (i:Int):∀ (mvs:List (List (Int×Int))) (n:Nat),yA d mvs n (is++[i])=(yA d mvs n is).set i.toNat ((yA d mvs n is)[i.toNat]?.getD []++[(d,((n+is.length:Nat):Int))]):=by
 induction is with
 | nil=>intro mvs n;rfl
 | cons j is ih =>
  intro mvs n
  show yA d _ (n+1) (is++[i])=_
  rw [ih,List.length_cons,show n+1+is.length=n+(is.length+1) by lia]
  rfl
theorem ZU (d:Int) (is:List Int):∀ (mvs:List (List (Int×Int))) (n:Nat),(yA d mvs n is).length=mvs.length:=by
 induction is with
 | nil=>intro c n;rfl
 | cons i is ih=>intro c n;exact (ih _ _).trans List.length_set
theorem Yp {a b:Int} (ha:0≤a) (hb:0≤b) (h:a.toNat=b.toNat):a=b:=by lia
theorem YO {d:Int} {j:Int} (hj:0≤j) {is:List Int}:∀ {cus:List (List Int)},is.Nodup→(∀ i∈is,0≤i∧i<cus.length)→(yC d cus is)[j.toNat]? = if j∈is then (cus[j.toNat]?).map (·++[d]) else cus[j.toNat]? := by
 induction is with
 | nil=>intro cus _ _;rw [if_neg (List.not_mem_nil)];rfl
 | cons i is ih =>
  intro cus nd hr
  obtain ⟨nd1,nd2⟩:=List.nodup_cons.mp nd
  obtain ⟨i0,i1⟩:=hr i (.head _)
  have:=ih (cus:=cus.set i.toNat (cus[i.toNat]?.getD []++[d])) nd2 (fun x hx=>by rw [List.length_set];exact hr x (.tail _ hx))
  show (yC d (cus.set i.toNat (cus[i.toNat]?.getD []++[d])) is)[j.toNat]? = _
  rw [this]
  have lt:i.toNat<cus.length:=by lia
  by_cases h:j=i
  ·subst h
   rw [if_neg nd1,if_pos (.head _),List.getElem?_set_self lt,zu lt];rfl
  ·have ne:i.toNat≠j.toNat:=fun e=>h (Yp i0 hj e).symm
   rw [List.getElem?_set_ne ne]
   by_cases hm:j∈is
   ·rw [if_pos hm,if_pos (.tail _ hm)]
   ·rw [if_neg hm,if_neg (fun q=>by
     rcases List.mem_cons.mp q with q | q
     ·exact h q
     ·exact hm q)]
theorem YE {d:Int} {j:Int} (hj:0≤j) {is:List Int}:∀ {mvs:List (List (Int×Int))} {n:Nat},is.Nodup→(∀ i∈is,0≤i∧i<mvs.length) →
  (j∉is→(yA d mvs n is)[j.toNat]? = mvs[j.toNat]?)∧∀ k,is[k]? = some j→(yA d mvs n is)[j.toNat]? = (mvs[j.toNat]?).map (·++[(d,((n+k:Nat):Int))]):=by
 induction is with
 | nil=>intro mvs n _ _;exact ⟨fun _=>rfl,fun k h=>by cases h⟩
 | cons i is ih =>
  intro mvs n nd hr
  obtain ⟨nd1,nd2⟩:=List.nodup_cons.mp nd
  obtain ⟨i0,i1⟩:=hr i (.head _)
  obtain ⟨a,b⟩:=ih (mvs:=mvs.set i.toNat (mvs[i.toNat]?.getD []++[(d,(n:Int))])) (n:=n+1) nd2 (fun x hx=>by rw [List.length_set];exact hr x (.tail _ hx))
  have lt:i.toNat<mvs.length:=by lia
  refine ⟨fun hn=>?_,fun k hk=>?_⟩
  ·have ne:i.toNat≠j.toNat:=fun e=>hn ((Yp i0 hj e)▸.head _)
   exact (a fun q=>hn (.tail _ q)).trans (List.getElem?_set_ne ne)
  ·cases k with
   | zero =>
    have hk:i=j:=Option.some.inj hk
    subst hk
    rw [show yA d mvs n (i::is)=yA d (mvs.set i.toNat (mvs[i.toNat]?.getD []++[(d,(n:Int))])) (n+1) is from rfl,a nd1,List.getElem?_set_self lt,zu lt]
    rfl
   | succ k =>
    have hk:is[k]? = some j:=hk
    have ne:i.toNat≠j.toNat:=fun e=>nd1 ((Yp i0 hj e)▸yF hk)
    rw [show yA d mvs n (i::is)=yA d (mvs.set i.toNat (mvs[i.toNat]?.getD []++[(d,(n:Int))])) (n+1) is from rfl,b k hk,List.getElem?_set_ne ne,show n+1+k=n+(k+1) by lia]
section
variable {T:Tab} {okf:Str→Str→Bool} (X:TT T okf) {n:Nat} {S:Sh} {r:Hp} {mvs:List (List (Int×Int))} {cus:List (List Int)}
include X
theorem XI (O:Ok1 S) {i j:Int} (h0:0≤i) (h1:i<j) (h2:j≤(tk S.b S.l).length) {fr:AFr} {s a c:Nat} (f0:fr[s]? = some (some (.ref 1))) (fa:fr[a]? = some (some (.int i))) (fc:fr[c]? = some (some (.int j))) :
  wn (zB (z6 s) "shown" none []) (z6 a) (z6 c) (run T (n+4)) fr (S.hp r)=.ok (.ref (r.length+17)) (S.hp (r++[.list (S.l.map AV.int),.list (S.sh.map AV.int),.list (((S.sh.take j.toNat).drop i.toNat).map AV.int)])):=by
 have hl:S.sh.length=(tk S.b S.l).length:=List.length_map _
 have hs:(tk S.b S.l).length<200:=by
  have h1:(tk S.b S.l).length≤S.l.length:=List.length_filter_le (fl S.b) S.l
  have:=O.G.len
  have:=O.G.sm
  lia
 have hg:(S.hp (r++[.list (S.l.map AV.int),.list (S.sh.map AV.int)]))[r.length+16]? = some (.list (S.sh.map AV.int)):=by
  show (r++[.list (S.l.map AV.int),.list (S.sh.map AV.int)])[r.length+1]? = _
  rw [yH];rfl
 refine (XU (zP (a:=1) (z5 f0) rfl ZY ev0 (QN X (n:=n) (r:=r) O)) (z5 fa) (z5 fc) (ZC hg (xS (yQ.mpr ⟨h0,by lia⟩)) (xS (yQ.mpr ⟨by lia,by lia⟩)) (by rw [List.length_map,hl];exact Nat.le_trans (Nat.le_of_lt hs) (by decide)))).trans ?_
 have l1:(S.hp (r++[.list (S.l.map AV.int),.list (S.sh.map AV.int)])).length=r.length+17:=by
  show (r++[AO.list (S.l.map AV.int),.list (S.sh.map AV.int)]).length+15=_
  rw [zT];rfl
 rw [l1]
 show Out.ok _ (S.hp ((r++[.list (S.l.map AV.int),.list (S.sh.map AV.int)])++[.list (((S.sh.map AV.int).take j.toNat).drop i.toNat)]))=_
 rw [List.append_assoc,← List.map_take,← List.map_drop]
 rfl
end
theorem Sg.cut {S:Sh} {mvs:List (List (Int×Int))} {cus:List (List Int)} (K:Sg S mvs cus) (hs:S.s1.st.length<200) {is:List Int} (nd:is.Nodup) (hi:∀ i∈is,0≤i∧i<S.le.length):Sg S.s1 mvs (yC S.st.length cus is):=by
 have K1:=K.st1 hs
 have at_:∀ ds∈yC S.st.length cus is,∃ es∈cus,ds=es∨ds=es++[(S.st.length:Int)]:=fun ds hd=>by
  obtain ⟨j,hj,rfl⟩:=List.getElem_of_mem hd
  have e:=zu hj
  have:=YO (d:=S.st.length) (j:=(j:Int)) (by lia) (cus:=cus) nd (fun i h=>by rw [K.cu];exact hi i h)
  rw [Int.toNat_natCast,e] at this
  have hj2:j<cus.length:=by rw [← j7 S.st.length is cus];exact hj
  rw [zu hj2] at this
  by_cases h:(j:Int)∈is
  ·rw [if_pos h] at this;exact ⟨_,List.getElem_mem hj2,.inr (Option.some.inj this)⟩
  ·rw [if_neg h] at this;exact ⟨_,List.getElem_mem hj2,.inl (Option.some.inj this)⟩
 refine ⟨K.fi,K.br,K.mv,by rw [j7];exact K.cu,K.fr,K1.mr,fun ds hd d h=>?_,K1.bn,K1.ps,fun ds hd=>?_,K.sl,hs,K.sb⟩
 ·obtain ⟨es,he,q | q⟩:=at_ ds hd
  ·rw [q] at h;exact K1.dr es he d h
  ·rw [q] at h
   rcases yn h with h | h
   ·exact K1.dr es he d h
   ·rw [xg h]
    exact ⟨Int.natCast_nonneg _,ji⟩
 ·obtain ⟨es,he,q | q⟩:=at_ ds hd
  ·rw [q];exact K1.cs es he
  ·rw [q,zT];rw [QP];exact Nat.succ_le_succ (K.cs es he)
theorem wS {S:Sh} (O:Ok1 S) {i j:Nat}:∀ x∈(S.sh.take j).drop i,0≤x∧x<S.le.length:=fun x hx=>O.sh_mem (List.mem_of_mem_take (List.mem_of_mem_drop hx))
section
variable {T:Tab} {okf:Str→Str→Bool} (X:TT T okf) {n:Nat} {S:Sh} {r:Hp} {mvs:List (List (Int×Int))} {cus:List (List Int)}
include X
theorem zEp (O:Ok1 S) (K:Sg S mvs cus) (D:Dy S mvs cus r) (hst:S.st.length=S.dn.length) (ndS:S.sh.Nodup) {hd i j:Int} (d0:0≤hd) (d1:hd<S.hands) (h0:0≤i) (h1:i<j) (h2:j≤(tk S.b S.l).length) (hs:S.s1.st.length<200) :
  ∃ r' x,run T (n+6) (.meth "Sheet" "cut") [.ref 1,.int hd,.int i,.int j] (S.hp r)=.ok (.int S.dn.length) (({ S.s1 with b:=ye S.s1 mvs (yC S.st.length cus ((S.sh.take j.toNat).drop i.toNat)) S.b ((S.sh.take j.toNat).drop i.toNat),dn:=S.dn++[x] }:Sh).hp r') ∧
   Dy S.s1 mvs (yC S.st.length cus ((S.sh.take j.toNat).drop i.toNat)) r'∧Kp S r r'∧∃ q':Nat,r.length≤q'∧x=.tup [.int hd,.str "cut",.ref (q'+15)]∧r'[q']? = some (.list (((S.sh.take j.toNat).drop i.toNat).map AV.int)):=by
 have hs0:S.st.length<200:=Nat.lt_trans (Int.ofNat_lt.mp ji) hs
 have p2:j≤S.b.countP id:=by rw [← O.G.count];exact h2
 generalize his:(S.sh.take j.toNat).drop i.toNat=is
 have hi:∀ x∈is,0≤x∧x<S.le.length:=by rw [← his];exact wS O
 have nd:is.Nodup:=by rw [← his];exact (ndS.sublist (List.take_sublist _ _)).sublist (List.drop_sublist _ _)
 have ec:=XI X (s:=0) (n:=n+1) (r:=r) O h0 h1 h2 (fr:=[some (.ref 1),some (.int hd),some (.int i),some (.int j),none,none]) (a:=2) (c:=3) rfl rfl rfl
 rw [his] at ec
 generalize hr1:r++[.list (S.l.map AV.int),.list (S.sh.map AV.int),.list (is.map AV.int)]=r1 at ec
 have hq:r1[r.length+2]? = some (AO.list (is.map AV.int)):=by rw [← hr1,yH];rfl
 have D1:Dy S.s1 mvs cus r1:=by rw [← hr1];have:=D.grow [.list (S.l.map AV.int),.list (S.sh.map AV.int),.list (is.map AV.int)];exact ⟨this.ml,this.cl,this.m,this.c,this.nd⟩
 have lt:=D.lt
 have hsl:=K.sl
 obtain ⟨fr',h',e,r2,w5,rfl,rfl,Dz,hq2,kp⟩:=xO (t:=.one 5) (src:=.ref (r.length+17)) (cf:=run T (n+5)) (xs:=is.map AV.int)
  (body:=(zD [(zN (zB (zF (zG (z6 0) "cutters") (z6 5)) "append" (some .append) [(zC (zA (some (.bi .len))) [(zG (z6 0) "done")])]))]))
  (fun k fr h=>∃ r2 w5,fr=[some (.ref 1),some (.int hd),some (.int i),some (.int j),some (.ref (r.length+17)),w5]∧h=S.s1.hp r2∧Dy S.s1 mvs (yC S.st.length cus (is.take k)) r2∧r2[r.length+2]? = some (AO.list (is.map AV.int))∧Kp S r r2)
  (by
   rintro k fr h ⟨r2,w5,rfl,rfl,_,hq2,_⟩
   show (match r2[r.length+2]? with | some (.list ys)=>some ys[k]? | _=>none)=_
   rw [hq2])
  (by
   rintro k x fr h ⟨r2,w5,rfl,rfl,Dz,hq2,kp⟩ hx
   rw [List.getElem?_map] at hx
   obtain ⟨y,hyk,rfl⟩:=y9 hx
   obtain ⟨y0,y1⟩:=hi y (yF hyk)
   have Kz:=K.cut hs (nd.sublist (List.take_sublist k is)) (fun z hz=>hi z (List.mem_of_mem_take hz))
   obtain ⟨f,ps,ds,v,km,kc,e1,e2,e3,e4,e5,e6,e7,e8⟩:=Kz.at_ Dz y0 y1
   have hkc:kc<r.length:=lt kc (List.mem_append_right _ (yF (show S.cu[y.toNat]? = some kc from e6)))
   have hds:=Kz.cs ds (yF e3)
   have hds:ds.length≤S.s1.st.length:=hds
   have D3:=Dz.setC (ds:=ds++[(S.st.length:Int)]) e6
   refine ⟨[some (.ref 1),some (.int hd),some (.int i),some (.int j),some (.ref (r.length+17)),some (.int y)],_,_,rfl,?_,r2.set kc (.list ((ds++[(S.st.length:Int)]).map AV.int)),some (.int y),rfl,rfl,?_,?_,?_⟩
   ·refine (z7 (fr1:=[some (.ref 1),some (.int hd),some (.int i),some (.int j),some (.ref (r.length+17)),some (.int y)]) (h1:=S.s1.hp (r2.set kc (.list ((ds++[(S.st.length:Int)]).map AV.int)))) (zn (v:=.none) (ww (a:=kc+15) (zv (zb (z5 rfl) rfl kS8) (z5 rfl) (xK (xs:=S.cu.map rf) rfl y0 (by lia) (by rw [List.getElem?_map,show S.cu[y.toNat]? = some kc from e6];rfl))) e8 (ev1 (qa (a:=12) rfl rfl kS9 rfl hst.symm) ev0) ?_))).trans zE
    rw [xm,show (S.s1.hp r2)[kc+15]? = some (.list (ds.map AV.int)) from e8]
    show (if (ds.map AV.int).length<small then _ else _)=_
    rw [if_pos (by rw [List.length_map];exact Nat.lt_of_le_of_lt hds (Nat.lt_trans hs (by decide))),xY]
    rfl
   ·rw [List.take_succ,hyk]
    show Dy S.s1 mvs (yC S.st.length cus (is.take k++[y])) _
    rw [ju,e3]
    exact D3
   ·rw [List.getElem?_set_ne (by lia)];exact hq2
   ·intro q o h1 h2 h3
    rw [List.getElem?_set_ne (fun (e:kc=q)=>h2 (e▸yF (show S.cu[y.toNat]? = some kc from e6)))]
    exact kp q o h1 h2 h3)
  (fr:=[some (.ref 1),some (.int hd),some (.int i),some (.int j),some (.ref (r.length+17)),none]) (h:=S.s1.hp r1) ⟨r1,none,rfl,rfl,D1,hq,fun q o _ _ h=>by rw [← hr1];exact zI h⟩
 rw [List.length_map] at e Dz
 rw [List.take_length] at Dz
 obtain ⟨g2,en⟩:=QV X (n:=n) (hd:=.int hd) (wd:=.str "cut") (q:=r.length+2) (is:=is) (K.cut hs nd hi) Dz hq2 hi (by show S.dn.length<200;rw [← hst];exact hs0)
 have Dg:=Dz.grow g2
 refine ⟨r2++g2,.tup [.int hd,.str "cut",.ref (r.length+17)],?_,Dg,fun q o h1 h2 h3=>zI (kp q o h1 h2 h3),r.length+2,Nat.le_add_right _ _,rfl,zI hq2⟩
 rw [zW X.kBg]
 refine zM (fr:=[some (.ref 1),some (.int hd),some (.int i),some (.int j),none,none]) rfl rfl (fr':=[some (.ref 1),some (.int hd),some (.int i),some (.int j),some (.ref (r.length+17)),w5]) ?_
 unfold kBg
 dsimp only
 rw [z7 (zn (zP (a:=1) (z5 rfl) rfl xZ (ev1 (z5 rfl) ev0) (qO X (n:=n+3) d0 d1)))]
 rw [z7 (zn (zP (a:=1) (z5 rfl) rfl wE (ev1 (z5 rfl) (ev1 (z5 rfl) ev0)) (wq X (n:=n+1) h0 h1 p2)))]
 rw [z7 (zU (j:=4) ec (zZ rfl))]
 show zD _ _ [some (.ref 1),some (.int hd),some (.int i),some (.int j),some (.ref (r.length+17)),none] (S.hp r1)=_
 rw [z7 (QL X (n:=n+5) rfl hs0)]
 have es:yk (S.s1.hp r1) (.ref (r.length+17))=some (.ref (r.length+17),is.length):=by
  show (match r1[r.length+2]? with | some (.list xs)=>some (Src.ref (r.length+17),xs.length) | _=>none)=_
  rw [hq]
  show some (_,(is.map AV.int).length)=_
  rw [List.length_map]
 have ef:=wO (en:=false) (x:=z6 4) (fr:=[some (.ref 1),some (.int hd),some (.int i),some (.int j),some (.ref (r.length+17)),none]) (z5 rfl) es e
 rw [z7 ef]
 exact zL (zm (zP (a:=1) (z5 rfl) rfl ZZ (ev1 (z5 rfl) (ev1 rfl (ev1 (z5 rfl) ev0))) en))
end
noncomputable def Sh.mov (S:Sh) (i:Nat) (is:List Int):Sh:={ S with l:=S.l.take i++zO S.b.length is.length++S.l.drop i,b:=S.b++List.replicate is.length false,ow:=S.ow++is }
theorem Sh.mov_nil (S:Sh) (i:Nat):S.mov i []=S:=by
 obtain ⟨g0,g2,hands,l,b,ow,le,fi,mv,br,cu,dn,st⟩:=S
 simp [Sh.mov,zO]
theorem At.nextM {S:Sh} {i:Nat} {is:List Int} {y:Int} (hi:i≤S.l.length) (hlt:∀ x∈S.l,x<S.b.length):At (S.mov i (is++[y])).l (S.mov i (is++[y])).b (.int ((S.b.length+is.length:Nat):Int)) (i+(is.length+1)):=by
 have e1:(is++[y]).length=is.length+1:=by rw [zT];rfl
 refine .inr ⟨_,i+is.length,rfl,by lia,?_,?_,rfl⟩
 ·show _<(((S.b++List.replicate (is++[y]).length false).length:Nat):Int)
  rw [zT,List.length_replicate,e1];lia
 ·show (S.l.take i++zO S.b.length (is++[y]).length++S.l.drop i).findIdx? _=_
  rw [e1,xn,← List.append_assoc,List.append_assoc _ [_]]
  have:(S.l.take i++zO S.b.length is.length).length=i+is.length:=by rw [zT,List.length_take,zh];lia
  rw [← this]
  refine Q3 fun z hz=>?_
  rcases yn hz with hz | hz
  ·have:=hlt z (List.mem_of_mem_take hz);lia
  ·have:=(yJ hz).2;lia
theorem Ja {α:Type} (k:Nat) (x:α):List.replicate k x++[x]=List.replicate (k+1) x:=List.replicate_succ'.symm
theorem Sg.mov {S:Sh} {mvs:List (List (Int×Int))} {cus:List (List Int)} (K:Sg S mvs cus) (hs:S.s1.st.length<200) {is:List Int} {i:Nat} (nd:is.Nodup) (hi:∀ i∈is,0≤i∧i<S.le.length) (hb:S.b.length+is.length<200):Sg (S.s1.mov i is) (yA S.st.length mvs S.b.length is) cus:=by
 have K1:=K.st1 hs
 have lb:(S.s1.mov i is).b.length=S.b.length+is.length:=by show (S.b++List.replicate is.length false).length=_;rw [zT,List.length_replicate]
 have at_:∀ ds∈yA S.st.length mvs S.b.length is,∃ es∈mvs,ds=es∨∃ k,k<is.length∧ds=es++[((S.st.length:Int),((S.b.length+k:Nat):Int))]:=fun ds hd=>by
  obtain ⟨j,hj,rfl⟩:=List.getElem_of_mem hd
  have e:=zu hj
  obtain ⟨m1,m2⟩:=YE (d:=S.st.length) (j:=(j:Int)) (by lia) (mvs:=mvs) (n:=S.b.length) nd (fun i h=>by rw [K.mv];exact hi i h)
  rw [Int.toNat_natCast,e] at m1 m2
  have hj2:j<mvs.length:=by rw [← ZU S.st.length is mvs S.b.length];exact hj
  rw [zu hj2] at m1 m2
  by_cases h:(j:Int)∈is
  ·obtain ⟨k,hk,hk2⟩:=List.getElem_of_mem h
   exact ⟨_,List.getElem_mem hj2,.inr ⟨k,hk,Option.some.inj (m2 k (by rw [zu hk,hk2]))⟩⟩
  ·exact ⟨_,List.getElem_mem hj2,.inl (Option.some.inj (m1 h))⟩
 refine ⟨K.fi,K.br,by rw [ZU];exact K.mv,K.cu,fun x hx=>by rw [lb];exact ⟨(K.fr x hx).1,X9 _ (K.fr x hx).2⟩,fun ps hp p h=>?_,K1.dr,K1.bn,fun ds hd=>?_,K1.cs,K.sl,hs,by rw [lb];exact hb⟩
 ·rw [lb]
  obtain ⟨es,he,q | ⟨k,hk,q⟩⟩:=at_ ps hp
  ·rw [q] at h;obtain ⟨a,c,d⟩:=K1.mr es he p h;exact ⟨a,c,X9 _ d⟩
  ·rw [q] at h
   rcases yn h with h | h
   ·obtain ⟨a,c,d⟩:=K1.mr es he p h;exact ⟨a,c,X9 _ d⟩
   ·rw [xg h]
    exact ⟨⟨Int.natCast_nonneg _,ji⟩,Int.natCast_nonneg _,Int.ofNat_lt.mpr (Nat.add_lt_add_left hk _)⟩
 ·obtain ⟨es,he,q | ⟨k,hk,q⟩⟩:=at_ ds hd
  ·rw [q];exact K1.ps es he
  ·rw [q,zT];show _≤S.s1.st.length;rw [QP];exact Nat.succ_le_succ (K.ps es he)
section
variable {T:Tab} {okf:Str→Str→Bool} (X:TT T okf) {n:Nat} {S:Sh} {r:Hp} {mvs:List (List (Int×Int))} {cus:List (List Int)}
include X
theorem zDy (O:Ok1 S) (K:Sg S mvs cus) (D:Dy S mvs cus r) (hst:S.st.length=S.dn.length) (ndS:S.sh.Nodup) {hd i j p:Int} (d0:0≤hd) (d1:hd<S.hands) (h0:0≤i) (h1:i<j) (h2:j≤(tk S.b S.l).length) (p0:0≤p) (p1:p≤(tk S.b S.l).length) (hp:¬ (i<p∧p<j)) (hs:S.s1.st.length<200) (hb:S.b.length+10<200) (h5:j≤i+5) :
  ∃ r' x at_,at_=aP S.b S.l p∧at_≤S.l.length ∧
   run T (n+6) (.meth "Sheet" "move") [.ref 1,.int hd,.int i,.int j,.int p] (S.hp r)=.ok (.int S.dn.length) (({ S.s1.mov at_ ((S.sh.take j.toNat).drop i.toNat) with b:=ye S.s1 (yA S.st.length mvs S.b.length ((S.sh.take j.toNat).drop i.toNat)) cus (S.s1.mov at_ ((S.sh.take j.toNat).drop i.toNat)).b ((S.sh.take j.toNat).drop i.toNat),dn:=S.dn++[x] }:Sh).hp r') ∧
   Dy S.s1 (yA S.st.length mvs S.b.length ((S.sh.take j.toNat).drop i.toNat)) cus r'∧Kp S r r'∧∃ q':Nat,r.length≤q'∧x=.tup [.int hd,.str "move",.ref (q'+15)]∧r'[q']? = some (.list (((S.sh.take j.toNat).drop i.toNat).map AV.int)):=by
 have hs0:S.st.length<200:=Nat.lt_trans (Int.ofNat_lt.mp ji) hs
 have p2:j≤S.b.countP id:=by rw [← O.G.count];exact h2
 have p3:p≤S.b.countP id:=by rw [← O.G.count];exact p1
 have lis:((S.sh.take j.toNat).drop i.toNat).length≤5:=by rw [List.length_drop,List.length_take];exact zB9 h0 h1 h5
 generalize his:(S.sh.take j.toNat).drop i.toNat=is at lis
 have hi:∀ x∈is,0≤x∧x<S.le.length:=by rw [← his];exact wS O
 have nd:is.Nodup:=by rw [← his];exact (ndS.sublist (List.take_sublist _ _)).sublist (List.drop_sublist _ _)
 have ec:=XI X (s:=0) (n:=n+1) (r:=r) O h0 h1 h2 (fr:=[some (.ref 1),some (.int hd),some (.int i),some (.int j),some (.int p),none,none,none]) (a:=2) (c:=3) rfl rfl rfl
 rw [his] at ec
 generalize hr1:r++[.list (S.l.map AV.int),.list (S.sh.map AV.int),.list (is.map AV.int)]=r1 at ec
 have hq:r1[r.length+2]? = some (AO.list (is.map AV.int)):=by rw [← hr1,yH];rfl
 have D1:Dy S.s1 mvs cus r1:=by rw [← hr1];have:=D.grow [.list (S.l.map AV.int),.list (S.sh.map AV.int),.list (is.map AV.int)];exact ⟨this.ml,this.cl,this.m,this.c,this.nd⟩
 obtain ⟨g,bh,at_,ea,hA,t1⟩:=z17 X (n:=n+1) (S:=S) (r:=r1) O.G p0 p1
 have lt:=D.lt
 have hsl:=K.sl
 have hle:=O.G.len
 have hsm:=O.G.sm
 have haL:=hA.le
 have sm2:∀ {k:Nat},k<200→k<small:=fun h=>Nat.lt_trans h (by decide)
 obtain ⟨fr',h',e,r2,w6,w7,rfl,rfl,Dz,hq2,_,kp⟩:=xO (t:=.one 7) (src:=.ref (r.length+17)) (cf:=run T (n+5)) (xs:=is.map AV.int)
  (body:=(zD [(z9 okf (.names (.one 6)) (zB (zG (z6 0) "row") "add" none [(z6 6)])),(zN (zB (zG (z6 0) "owners") "append" (some .append) [(z6 7)])),(zN (zB (zF (zG (z6 0) "moved") (z6 7)) "append" (some .append) [(xU [(zC (zA (some (.bi .len))) [(zG (z6 0) "done")]),(z6 6)])]))]))
  (fun k fr h=>∃ r2 w6 w7,fr=[some (.ref 1),some (.int hd),some (.int i),some (.int j),some (.int p),some (.ref (r.length+17)),some w6,w7]∧h=(S.s1.mov at_ (is.take k)).hp r2∧Dy S.s1 (yA S.st.length mvs S.b.length (is.take k)) cus r2∧r2[r.length+2]? = some (AO.list (is.map AV.int))∧At (S.s1.mov at_ (is.take k)).l (S.s1.mov at_ (is.take k)).b w6 (at_+k)∧Kp S r r2)
  (by
   rintro k fr h ⟨r2,w6,w7,rfl,rfl,_,hq2,_,_⟩
   show (match r2[r.length+2]? with | some (.list ys)=>some ys[k]? | _=>none)=_
   rw [hq2])
  (by
   rintro k x fr h ⟨r2,w6,w7,rfl,rfl,Dz,hq2,hAk,kp⟩ hx
   rw [List.getElem?_map] at hx
   obtain ⟨y,hyk,rfl⟩:=y9 hx
   obtain ⟨y0,y1⟩:=hi y (yF hyk)
   have hk:k<is.length:=(y7 hyk).1
   have lk:(is.take k).length=k:=by rw [List.length_take];exact Nat.min_eq_left (Nat.le_of_lt hk)
   have hbk:S.b.length+k<200:=QI hb (Nat.le_trans (Nat.le_of_lt hk) (Nat.le_trans lis (by decide)))
   have Kz:=K.mov (i:=at_) hs (nd.sublist (List.take_sublist k is)) (fun z hz=>hi z (List.mem_of_mem_take hz)) (by rw [lk];exact hbk)
   have Dz':Dy (S.s1.mov at_ (is.take k)) (yA S.st.length mvs S.b.length (is.take k)) cus r2:=⟨Dz.ml,Dz.cl,Dz.m,Dz.c,Dz.nd⟩
   obtain ⟨f,ps,ds,v,km,kc,e1,e2,e3,e4,e5,e6,e7,e8⟩:=Kz.at_ Dz' y0 y1
   have hkm:km<r.length:=lt km (List.mem_append_left _ (yF (show S.mv[y.toNat]? = some km from e5)))
   have hps:ps.length≤S.s1.st.length:=Kz.ps ps (yF e2)
   have lb:(S.s1.mov at_ (is.take k)).b.length=S.b.length+k:=by show (S.b++List.replicate (is.take k).length false).length=_;rw [zT,List.length_replicate,lk]
   have ll:(S.s1.mov at_ (is.take k)).l.length=S.l.length+k:=by
    show (S.l.take at_++zO S.b.length (is.take k).length++S.l.drop at_).length=_
    rw [zT,zT,zh,lk,List.length_take,List.length_drop,Nat.min_eq_left haL,Nat.add_right_comm,Nat.add_sub_cancel' haL]
   have lo:(S.ow++is.take k).length=S.b.length+k:=by rw [zT,lk,O.ow]
   have D3:=Dz.setM (ps:=ps++[((S.st.length:Int),((S.b.length+k:Nat):Int))]) (show S.s1.mv[y.toNat]? = some km from e5)
   have e1k:is.take (k+1)=is.take k++[y]:=by rw [List.take_succ,hyk];rfl
   have eadd:=z1a X (n:=n+2) (o0:=(S.s1.mov at_ (is.take k)).g0) (o1:=.inst "Sheet" (fS (S.s1.mov at_ (is.take k)).hands)) (o2:=(S.s1.mov at_ (is.take k)).g2) (r:=(S.s1.mov at_ (is.take k)).tl r2) hAk (by rw [ll,hle];exact sm2 hbk) (by rw [lb];exact sm2 hbk)
   have eL:wU (S.s1.mov at_ (is.take k)).l (at_+k) ((S.b.length+k:Nat):Int)=(S.s1.mov at_ (is.take (k+1))).l:=by
    show wU (S.l.take at_++zO S.b.length (is.take k).length++S.l.drop at_) _ _=S.l.take at_++zO S.b.length (is.take (k+1)).length++S.l.drop at_
    rw [Xw (by rw [List.length_take,zh,lk,Nat.min_eq_left haL]),e1k,zT,lk]
    show _=S.l.take at_++zO S.b.length (k+1)++S.l.drop at_
    rw [xn]
   have eB:(S.s1.mov at_ (is.take k)).b++[false]=(S.s1.mov at_ (is.take (k+1))).b:=by
    show S.b++List.replicate (is.take k).length false++[false]=S.b++List.replicate (is.take (k+1)).length false
    rw [e1k,zT,List.append_assoc,Ja];rfl
   rw [lb,eL,eB] at eadd
   let S2:Sh:={ S.s1.mov at_ (is.take k) with l:=(S.s1.mov at_ (is.take (k+1))).l,b:=(S.s1.mov at_ (is.take (k+1))).b }
   have eO:(S.ow++is.take k).map AV.int++[AV.int y]=(S.s1.mov at_ (is.take (k+1))).ow.map AV.int:=by
    show _=(S.ow++is.take (k+1)).map AV.int
    rw [xY,e1k,List.append_assoc]
   have eS:{ S2 with ow:=(S.s1.mov at_ (is.take (k+1))).ow }=S.s1.mov at_ (is.take (k+1)):=rfl
   refine ⟨[some (.ref 1),some (.int hd),some (.int i),some (.int j),some (.int p),some (.ref (r.length+17)),some w6,some (.int y)],[some (.ref 1),some (.int hd),some (.int i),some (.int j),some (.int p),some (.ref (r.length+17)),some (.int ((S.b.length+k:Nat):Int)),some (.int y)],(S.s1.mov at_ (is.take (k+1))).hp (r2.set km (.list ((ps++[((S.st.length:Int),((S.b.length+k:Nat):Int))]).map pr))),rfl,?_,r2.set km (.list ((ps++[((S.st.length:Int),((S.b.length+k:Nat):Int))]).map pr)),_,_,rfl,rfl,?_,?_,?_,?_⟩
   ·rw [z7 (zU (j:=6) (zP (a:=3) (zb (z5 rfl) rfl kS2) rfl Jx (ev1 (z5 rfl) ev0) eadd) (zZ rfl))]
    show zD _ _ [some (.ref 1),some (.int hd),some (.int i),some (.int j),some (.int p),some (.ref (r.length+17)),some (.int ((S.b.length+k:Nat):Int)),some (.int y)] (S2.hp r2)=_
    rw [z7 (wp (a:=6) (zs:=(S.s1.mov at_ (is.take (k+1))).ow.map AV.int) rfl rfl kS3 rfl (z5 rfl) rfl (by rw [List.length_map];show (S.ow++is.take k).length<small;rw [lo];exact sm2 hbk) eO)]
    show zD _ _ _ ((S.s1.mov at_ (is.take (k+1))).hp r2)=_
    refine (z7 (zn (v:=.none) (ww (a:=km+15) (zv (zb (z5 rfl) rfl kS6) (z5 rfl) (xK (xs:=S.mv.map rf) rfl y0 (by lia) (by rw [List.getElem?_map,show S.mv[y.toNat]? = some km from e5];rfl))) e7 (ev1 (q6 (ev1 (qa (a:=12) rfl rfl kS9 rfl hst.symm) (ev1 (z5 rfl) ev0))) ev0) ?_))).trans zE
    rw [xm,show ((S.s1.mov at_ (is.take (k+1))).hp r2)[km+15]? = some (.list (ps.map pr)) from e7]
    show (if (ps.map pr).length<small then _ else _)=_
    rw [if_pos (by rw [List.length_map];exact Nat.lt_of_le_of_lt hps (sm2 hs)),show (AV.tup [.int (S.st.length:Nat),.int ((S.b.length+k:Nat):Int)])=pr ((S.st.length:Int),((S.b.length+k:Nat):Int)) from rfl,xY]
    rfl
   ·rw [e1k,Xb,e2,lk]
    exact D3
   ·rw [List.getElem?_set_ne (Nat.ne_of_lt (Nat.lt_of_lt_of_le hkm (Nat.le_add_right _ _)))];exact hq2
   ·rw [e1k]
    have:=At.nextM (S:=S.s1) (i:=at_) (is:=is.take k) (y:=y) haL (fun x hx=>(O.G.rng x hx).2)
    rw [lk] at this
    exact this
   ·intro q o h1 h2 h3
    rw [List.getElem?_set_ne (fun (e:km=q)=>h1 (e▸yF (show S.mv[y.toNat]? = some km from e5)))]
    exact kp q o h1 h2 h3)
  (fr:=[some (.ref 1),some (.int hd),some (.int i),some (.int j),some (.int p),some (.ref (r.length+17)),some bh,none]) (h:=S.s1.hp (r1++g)) ⟨r1++g,bh,none,rfl,by rw [List.take_zero,Sh.mov_nil],by rw [List.take_zero];exact D1.grow g,zI hq,by rw [List.take_zero,Sh.mov_nil];exact hA,fun q o _ _ h=>by rw [← hr1];exact zI (zI h)⟩
 rw [List.length_map] at e Dz
 rw [List.take_length] at e Dz
 have Dz':Dy (S.s1.mov at_ is) (yA S.st.length mvs S.b.length is) cus r2:=⟨Dz.ml,Dz.cl,Dz.m,Dz.c,Dz.nd⟩
 obtain ⟨g2,en⟩:=QV X (n:=n) (hd:=.int hd) (wd:=.str "move") (q:=r.length+2) (is:=is) (K.mov (i:=at_) hs nd hi (QI hb (Nat.le_trans lis (by decide)))) Dz' hq2 hi (by show S.dn.length<200;rw [← hst];exact hs0)
 refine ⟨r2++g2,.tup [.int hd,.str "move",.ref (r.length+17)],at_,t1,haL,?_,Dz.grow g2,fun q o h1 h2 h3=>zI (kp q o h1 h2 h3),r.length+2,Nat.le_add_right _ _,rfl,zI hq2⟩
 rw [zW X.kA3]
 refine zM (fr:=[some (.ref 1),some (.int hd),some (.int i),some (.int j),some (.int p),none,none,none]) rfl rfl (fr':=[some (.ref 1),some (.int hd),some (.int i),some (.int j),some (.int p),some (.ref (r.length+17)),some w6,w7]) ?_
 unfold kA3
 dsimp only
 rw [z7 (zn (zP (a:=1) (z5 rfl) rfl xZ (ev1 (z5 rfl) ev0) (qO X (n:=n+3) d0 d1)))]
 rw [z7 (zn (zP (a:=1) (z5 rfl) rfl wE (ev1 (z5 rfl) (ev1 (z5 rfl) ev0)) (wq X (n:=n+1) h0 h1 p2)))]
 rw [z7 (zn (zP (a:=1) (z5 rfl) rfl xr (ev1 (z5 rfl) ev0) (qX X (n:=n+2) p0 p3)))]
 have et:zR (z6 2) [.Lt,.Lt] [(z6 4),(z6 3)] (run T (n+5)) [some (.ref 1),some (.int hd),some (.int i),some (.int j),some (.int p),none,none,none] (S.hp r)=.ok false (S.hp r):=by
  by_cases hip:i<p
  ·exact xq (z5 rfl) (z5 rfl) (by rw [yU,decide_eq_true hip]) (z5 rfl) (by rw [yU,decide_eq_false fun q=>hp ⟨hip,q⟩])
  ·exact WE (z5 rfl) (z5 rfl) (by rw [yU,decide_eq_false hip])
 rw [z7 ((zH et).trans zE)]
 rw [z7 (zU (j:=5) ec (zZ rfl))]
 rw [z7 (zU (j:=6) (zP (a:=1) (z5 rfl) rfl wr (ev1 (z5 rfl) ev0) ea) (zZ rfl))]
 show zD _ _ [some (.ref 1),some (.int hd),some (.int i),some (.int j),some (.int p),some (.ref (r.length+17)),some bh,none] (S.hp (r1++g))=_
 rw [z7 (QL X (n:=n+5) rfl (hs0))]
 have es:yk (S.s1.hp (r1++g)) (.ref (r.length+17))=some (.ref (r.length+17),is.length):=by
  show (match (r1++g)[r.length+2]? with | some (.list xs)=>some (Src.ref (r.length+17),xs.length) | _=>none)=_
  rw [zI hq]
  show some (_,(is.map AV.int).length)=_
  rw [List.length_map]
 have ef:=wO (en:=false) (x:=z6 5) (fr:=[some (.ref 1),some (.int hd),some (.int i),some (.int j),some (.int p),some (.ref (r.length+17)),some bh,none]) (z5 rfl) es e
 rw [z7 ef]
 exact zL (zm (zP (a:=1) (z5 rfl) rfl ZZ (ev1 (z5 rfl) (ev1 rfl (ev1 (z5 rfl) ev0))) en))
end
theorem Qk {b:List Bool} {x y:Int} {v:Bool} (hx:0≤x) (hy:0≤y) (hl:y<b.length):fl (b.set y.toNat v) x=if x=y then v else fl b x:=by
 unfold fl
 by_cases h:x=y
 ·subst h
  rw [if_pos rfl,List.getElem?_set_self (by lia)];rfl
 ·rw [if_neg h,List.getElem?_set_ne (fun e=>h (Yp hx hy e.symm))]
theorem zBz {x:Int} (hx:0≤x) {xs:List Int}:∀ {b:List Bool},(∀ y∈xs,0≤y∧y<b.length)→fl (wR b xs) x=if x∈xs then false else fl b x:=by
 induction xs with
 | nil=>intro b _;rw [if_neg List.not_mem_nil];rfl
 | cons y xs ih =>
  intro b hr
  obtain ⟨y0,y1⟩:=hr y (.head _)
  show fl (wR (b.set y.toNat false) xs) x=_
  rw [ih fun z hz=>by rw [List.length_set];exact hr z (.tail _ hz),Qk hx y0 y1]
  by_cases h1:x∈xs
  ·rw [if_pos h1,if_pos (.tail _ h1)]
  ·rw [if_neg h1]
   by_cases h2:x=y
   ·rw [if_pos h2,if_pos (h2▸.head _)]
   ·rw [if_neg h2,if_neg fun q=>by
     rcases List.mem_cons.mp q with q | q
     ·exact h2 q
     ·exact h1 q]
noncomputable def gI (l:List Int) (x:Int):Int:=l[x.toNat]?.getD 0
noncomputable def gM (l:List (List (Int×Int))) (x:Int):List (Int×Int):=l[x.toNat]?.getD []
noncomputable def inS (fi:List Int) (mvs:List (List (Int×Int))) (x i:Int):Prop:=x=gI fi i∨∃ p∈gM mvs i,p.2=x
noncomputable def gC (l:List (List Int)) (x:Int):List Int:=l[x.toNat]?.getD []
theorem X3 {S:Sh} {mvs:List (List (Int×Int))} {i:Int}:inS S.fi mvs (S.cur mvs i) i:=(Zd (st:=S.st) (gM mvs i) (gI S.fi i)).imp id fun ⟨p,hp,h⟩=>⟨p,hp,h.symm⟩
noncomputable def Sh.tgt (S:Sh) (mvs:List (List (Int×Int))) (cus:List (List Int)) (x:Int):Bool:=S.shw cus (gI S.ow x) && decide (x=S.cur mvs (gI S.ow x))
structure Own (S:Sh) (mvs:List (List (Int×Int))):Prop where
 seats:∀ (x:Int),0≤x→x<S.b.length→inS S.fi mvs x (gI S.ow x)
 back:∀ (i:Int),0≤i→i<S.le.length→∀ (x:Int),inS S.fi mvs x i→gI S.ow x=i∧0≤x∧x<S.b.length
theorem JX {S:Sh} {mvs:List (List (Int×Int))} (W:Own S mvs) {cus:List (List Int)} {b:List Bool} (hb:b.length=S.b.length) {x i:Int} (x0:0≤x) (x1:x<S.b.length) (i0:0≤i) (i1:i<S.le.length) :
  fl (jk S mvs cus b i) x=if gI S.ow x=i then S.tgt mvs cus x else fl b x:=by
 have f:=W.back i i0 i1 _ (.inl rfl)
 have c:=W.back i i0 i1 _ X3
 have hb1:(b.set (gI S.fi i).toNat false).length=S.b.length:=List.length_set.trans hb
 have off:fl (wR (b.set (gI S.fi i).toNat false) ((gM mvs i).map (·.2))) x=if gI S.ow x=i then false else fl b x:=by
  rw [zBz x0 (fun y hy=>by
   obtain ⟨p,hp,rfl⟩:=List.mem_map.mp hy
   rw [hb1];exact (W.back i i0 i1 _ (.inr ⟨p,hp,rfl⟩)).2),Qk x0 f.2.1 (by rw [hb];exact f.2.2)]
  by_cases h:gI S.ow x=i
  ·rw [if_pos h]
   rcases h▸W.seats x x0 x1 with q | ⟨p,hp,q⟩
   ·rw [if_pos q]
    split <;> rfl
   ·rw [if_pos (List.mem_map.mpr ⟨p,hp,q⟩)]
  ·rw [if_neg h,if_neg fun q=>by
    obtain ⟨p,hp,q⟩:=List.mem_map.mp q
    exact h (W.back i i0 i1 x (.inr ⟨p,hp,q⟩)).1,if_neg fun q=>h (W.back i i0 i1 x (.inl q)).1]
 have e:jk S mvs cus b i=bif S.shw cus i then (wR (b.set (gI S.fi i).toNat false) ((gM mvs i).map (·.2))).set (S.cur mvs i).toNat true else wR (b.set (gI S.fi i).toNat false) ((gM mvs i).map (·.2)):=rfl
 rw [e]
 unfold Sh.tgt
 cases hc:S.shw cus i with
 | true =>
  show fl (List.set _ _ _) x=_
  rw [Qk x0 c.2.1 (by rw [wQ,hb1];exact c.2.2),off]
  by_cases h:gI S.ow x=i
  ·rw [if_pos h,if_pos h,h,hc,Bool.true_and]
   by_cases q:x=S.cur mvs i
   ·rw [if_pos q,decide_eq_true q]
   ·rw [if_neg q,decide_eq_false q]
  ·rw [if_neg h,if_neg h,if_neg (fun (q:x=S.cur mvs i)=>h (by rw [q];exact c.1))]
 | false =>
  show fl (wR _ _) x=_
  rw [off]
  by_cases h:gI S.ow x=i
  ·rw [if_pos h,if_pos h,h,hc,Bool.false_and]
  ·rw [if_neg h,if_neg h]
theorem JW {S:Sh} {mvs:List (List (Int×Int))} (W:Own S mvs) {cus:List (List Int)} {x:Int} (x0:0≤x) (x1:x<S.b.length) {is:List Int}:∀ {b:List Bool},b.length=S.b.length→(∀ i∈is,0≤i∧i<S.le.length) →
  fl (ye S mvs cus b is) x=if gI S.ow x∈is then S.tgt mvs cus x else fl b x:=by
 induction is with
 | nil=>intro b _ _;rw [if_neg List.not_mem_nil];rfl
 | cons i is ih =>
  intro b hb hi
  obtain ⟨i0,i1⟩:=hi i (.head _)
  show fl (ye S mvs cus (jk S mvs cus b i) is) x=_
  rw [ih ((Y8 b i).trans hb) fun j hj=>hi j (.tail _ hj),JX W hb x0 x1 i0 i1]
  by_cases h1:gI S.ow x∈is
  ·rw [if_pos h1,if_pos (.tail _ h1)]
  ·rw [if_neg h1]
   by_cases h2:gI S.ow x=i
   ·rw [if_pos h2,if_pos (h2▸.head _)]
   ·rw [if_neg h2,if_neg fun q=>by
     rcases List.mem_cons.mp q with q | q
     ·exact h2 q
     ·exact h1 q]
structure Iw (S:Sh) (mvs:List (List (Int×Int))) (cus:List (List Int)) (sg:List (List Int)):Prop where
 O:Ok1 S
 K:Sg S mvs cus
 W:Own S mvs
 st:S.st.length=S.dn.length
 sl:sg.length=S.dn.length
 sr:∀ us∈sg,∀ i∈us,0≤i∧i<S.le.length
 dc:∀ i:Int,0≤i→i<S.le.length→∀ d∈gC cus i,i∈gC sg d
 dm:∀ i:Int,0≤i→i<S.le.length→∀ p∈gM mvs i,i∈gC sg p.1
 db:∀ i d:Int,0≤i→i<S.le.length→S.br[i.toNat]? = some (.int d)→i∈gC sg d
structure Iv (S:Sh) (mvs:List (List (Int×Int))) (cus:List (List Int)) (sg:List (List Int)):Prop where
 I:Iw S mvs cus sg
 flag:∀ (x:Int),0≤x→x<S.b.length→fl S.b x=S.tgt mvs cus x
section
variable {S:Sh} {mvs:List (List (Int×Int))} {cus sg:List (List Int)}
theorem Iw.wb (I:Iw S mvs cus sg) {b:List Bool} (h:b.length=S.b.length):Iw (S.wb b) mvs cus sg :=
 ⟨⟨⟨by show S.l.Perm ((List.range b.length).map _);rw [h];exact I.O.G.perm,by show b.length<200;rw [h];exact I.O.G.sm⟩,I.O.ow.trans h.symm,I.O.own,I.O.le⟩,I.K.wb h,
  ⟨fun x x0 x1=>I.W.seats x x0 (by rw [← h];exact x1),fun i i0 i1 x hx=>by show _∧0≤x∧x<(b.length:Int);rw [h];exact I.W.back i i0 i1 x hx⟩,I.st,I.sl,I.sr,I.dc,I.dm,I.db⟩
theorem Iw.seat (I:Iw S mvs cus sg) {is:List Int} (hi:∀ i∈is,0≤i∧i<S.le.length) (hf:∀ x:Int,0≤x→x<S.b.length→gI S.ow x∉is→fl S.b x=S.tgt mvs cus x):Iv (S.wb (ye S mvs cus S.b is)) mvs cus sg:=by
 have hl:(ye S mvs cus S.b is).length=S.b.length:=yw _ _
 refine ⟨I.wb hl,fun x x0 x1=>?_⟩
 have x1:x<S.b.length:=by rw [← hl];exact x1
 refine (JW I.W x0 x1 rfl hi).trans ?_
 by_cases h:gI S.ow x∈is
 ·rw [if_pos h];rfl
 ·rw [if_neg h];exact hf x x0 x1 h
variable (V:Iv S mvs cus sg)
include V
theorem Iv.tk_mem {x:Int} (h:x∈tk S.b S.l):(0≤x∧x<S.b.length)∧S.shw cus (gI S.ow x)=true∧x=S.cur mvs (gI S.ow x):=by
 obtain ⟨h1,h2⟩:=List.mem_filter.mp h
 obtain ⟨x0,x1⟩:=V.I.O.G.rng x h1
 rw [V.flag x x0 x1] at h2
 obtain ⟨a,c⟩:=Bool.and_eq_true_iff.mp h2
 exact ⟨⟨x0,x1⟩,a,of_decide_eq_true c⟩
theorem Iv.sh_nodup:S.sh.Nodup:=by
 show ((tk S.b S.l).map fun x=>gI S.ow x).Nodup
 have nd:(tk S.b S.l).Nodup:=V.I.O.G.nodup.filter _
 rw [List.nodup_iff_pairwise_ne,List.pairwise_map]
 refine List.Pairwise.imp_of_mem (fun {x y} hx hy hne e=>hne ?_) (List.nodup_iff_pairwise_ne.mp nd)
 have a:=(V.tk_mem hx).2.2
 have c:=(V.tk_mem hy).2.2
 rw [a,c,e]
end
section
variable {S:Sh} {mvs:List (List (Int×Int))} {cus sg:List (List Int)}
theorem Iw.own_at (I:Iw S mvs cus sg) {x:Int} (x0:0≤x) (x1:x<S.b.length):0≤gI S.ow x∧gI S.ow x<S.le.length:=by
 have h2:x.toNat<S.ow.length:=by rw [I.O.ow];exact qb x0 x1
 unfold gI
 rw [zu h2]
 exact I.O.own _ (List.getElem_mem h2)
theorem Yu {st st':List Bool} {ps:List (Int×Int)}:∀ {f:Int},(∀ p∈ps,fl st p.1=fl st' p.1)→yB st f ps=yB st' f ps:=by
 induction ps with
 | nil=>intro f _;rfl
 | cons p ps ih =>
  intro f h
  show yB st (if fl st p.1 then p.2 else f) ps=yB st' (if fl st' p.1 then p.2 else f) ps
  rw [h p (.head _)]
  exact ih fun q hq=>h q (.tail _ hq)
theorem wZ {S':Sh} {mvs':List (List (Int×Int))} {cus':List (List Int)} {x i:Int} (e0:gI S.ow x=i) (e1:gI S'.ow x=i) (ef:gI S'.fi i=gI S.fi i) (em:gM mvs' i=gM mvs i) (ec:gC cus' i=gC cus i) (eb:S'.br[i.toNat]? = S.br[i.toNat]?)
  (hc:∀ d∈gC cus i,fl S.st d=fl S'.st d) (hm:∀ p∈gM mvs i,fl S.st p.1=fl S'.st p.1) (hb:∀ d,S.br[i.toNat]? = some (.int d)→fl S.st d=fl S'.st d):S.tgt mvs cus x=S'.tgt mvs' cus' x:=by
 have c1:S.cur mvs i=S'.cur mvs' i:=by
  show yB S.st (gI S.fi i) (gM mvs i)=yB S'.st (gI S'.fi i) (gM mvs' i)
  rw [ef,em];exact Yu hm
 have c2:S.shw cus i=S'.shw cus' i:=by
  show (Zu S.st (S.br[i.toNat]?.getD .none) && !(gC cus i).any (fl S.st))=(Zu S'.st (S'.br[i.toNat]?.getD .none) && !(gC cus' i).any (fl S'.st))
  have a1:(gC cus i).any (fl S.st)=(gC cus i).any (fl S'.st):=by
   rw [Bool.eq_iff_iff,List.any_eq_true,List.any_eq_true]
   exact ⟨fun ⟨d,h,e⟩=>⟨d,h,by rw [← hc d h];exact e⟩,fun ⟨d,h,e⟩=>⟨d,h,by rw [hc d h];exact e⟩⟩
  rw [ec,eb,a1]
  congr 1
  cases h:S.br[i.toNat]? with
  | none=>rfl
  | some v =>
   cases v with
   | int d=>exact hb d h
   | _=>rfl
 unfold Sh.tgt
 rw [e0,e1,c1,c2]
theorem jO {st:List Bool} {d:Int} (h0:0≤d) (h1:d<st.length):fl st d=fl (st++[true]) d:=by
 unfold fl;rw [List.getElem?_append_left (qb h0 h1)]
end
theorem wT {a k j:Nat} (h:j<k):(zO a k)[j]? = some ((a+j:Nat):Int):=by
 unfold zO
 rw [List.getElem?_map,List.getElem?_range h];rfl
theorem xN {l m:List Int} {x:Int} (h0:0≤x) (h1:x<l.length):gI (l++m) x=gI l x:=by
 unfold gI;rw [List.getElem?_append_left (qb h0 h1)]
theorem xa {l m:List Int} {x v:Int} {j:Nat} (h0:x=((l.length+j:Nat):Int)) (h1:m[j]? = some v):gI (l++m) x=v:=by
 unfold gI
 rw [h0,Int.toNat_natCast,List.getElem?_append_right (Nat.le_add_right _ _),Nat.add_sub_cancel_left,h1];rfl
theorem w2 {mvs:List (List (Int×Int))} {k:Nat} {i:Int}:gM (mvs++List.replicate k []) i=gM mvs i:=by
 unfold gM
 by_cases h:i.toNat<mvs.length
 ·rw [List.getElem?_append_left h]
 ·rw [List.getElem?_append_right (by lia),List.getElem?_eq_none (l:=mvs) (by lia),List.getElem?_replicate]
  split <;> rfl
theorem Xz {l:List Int} {b b':List Bool} (G:Good l b) {i k:Nat} (h:b'.length=b.length+k) (hs:b'.length<200):Good (l.take i++zO b.length k++l.drop i) b':=by
 refine ⟨?_,hs⟩
 have e:(List.range b'.length).map (fun (k:Nat)=>(k:Int))=(List.range b.length).map (fun (k:Nat)=>(k:Int))++zO b.length k:=by
  rw [h,List.range_add,List.map_append,List.map_map];rfl
 rw [e]
 have p1:(l.take i++zO b.length k++l.drop i).Perm (l++zO b.length k):=by
  rw [List.append_assoc]
  conv=>rhs;rw [← List.take_append_drop i l,List.append_assoc]
  exact List.Perm.append_left _ List.perm_append_comm
 exact p1.trans (G.perm.append_right _)
theorem Jt {l m:List Int} {k n:Nat} (hl:l.length=n) (hm:m.length=k):(zO n k).map (fun x=>gI (l++m) x)=m:=by
 apply List.ext_getElem?
 intro j
 rw [List.getElem?_map]
 by_cases h:j<k
 ·rw [wT h]
  have:=zu (l:=m) (i:=j) (by lia)
  rw [this]
  exact congrArg some (xa (j:=j) (by rw [hl]) this)
 ·rw [List.getElem?_eq_none (by rw [zh];lia),List.getElem?_eq_none (by lia)];rfl
theorem Qj {cus:List (List Int)} {k:Nat} {i:Int}:gC (cus++List.replicate k []) i=gC cus i:=by
 unfold gC
 by_cases h:i.toNat<cus.length
 ·rw [List.getElem?_append_left h]
 ·rw [List.getElem?_append_right (Nat.not_lt.mp h),List.getElem?_eq_none (l:=cus) (Nat.not_lt.mp h),List.getElem?_replicate]
  split <;> rfl
theorem xb {sg:List (List Int)} {us:List Int} {i d:Int} (h:i∈gC sg d):i∈gC (sg++[us]) d:=by
 unfold gC at h ⊢
 cases e:sg[d.toNat]? with
 | none=>rw [e] at h;cases h
 | some vs=>rw [e] at h;rw [List.getElem?_append_left (y7 e).1,e];exact h
theorem Yw {sg:List (List Int)} {us:List Int} {n:Nat} (h:sg.length=n):gC (sg++[us]) (n:Int)=us:=by
 unfold gC;rw [Int.toNat_natCast,← h,List.getElem?_append_right (Nat.le_refl _),Nat.sub_self];rfl
theorem z0d {l:List (List Int)} {i d:Int} (h:d∈gC l i):i.toNat<l.length:=by
 unfold gC at h
 cases e:l[i.toNat]? with
 | none=>rw [e] at h;cases h
 | some vs=>exact (y7 e).1
theorem YL {l:List (List (Int×Int))} {i:Int} {p:Int×Int} (h:p∈gM l i):i.toNat<l.length:=by
 unfold gM at h
 cases e:l[i.toNat]? with
 | none=>rw [e] at h;cases h
 | some vs=>exact (y7 e).1
noncomputable abbrev Sh.sd (S:Sh) (x:AV):Sh:={ S with st:=S.st++[true],dn:=S.dn++[x] }
theorem Sg.sd {S:Sh} {mvs:List (List (Int×Int))} {cus:List (List Int)} (K:Sg S mvs cus) (h:S.s1.st.length<200) (x:AV):Sg (S.sd x) mvs cus :=
 have K:=K.st1 h
 ⟨K.fi,K.br,K.mv,K.cu,K.fr,K.mr,K.dr,K.bn,K.ps,K.cs,K.sl,K.st,K.sb⟩
section
variable {S:Sh} {mvs:List (List (Int×Int))} {cus sg:List (List Int)} (I:Iw S mvs cus sg) {i q:Nat} {x:AV} {d:AV} {cs:List Nat}
include I
theorem Iw.put_own:Own ((S.sd x).adds i d q cs) (mvs++List.replicate cs.length []):=by
 have lb:((S.sd x).adds i d q cs).b.length=S.b.length+cs.length:=by show (S.b++List.replicate cs.length true).length=_;rw [zT,List.length_replicate]
 have ll:((S.sd x).adds i d q cs).le.length=S.le.length+cs.length:=zT
 have hf:=I.K.fi
 have ho:=I.O.ow
 have new:∀ j,j<cs.length→gI (S.ow++zO S.le.length cs.length) ((S.b.length+j:Nat):Int)=((S.le.length+j:Nat):Int)∧gI (S.fi++zO S.b.length cs.length) ((S.le.length+j:Nat):Int)=((S.b.length+j:Nat):Int):=fun j hj =>
  ⟨xa (by rw [ho]) (wT hj),xa (by rw [hf]) (wT hj)⟩
 refine ⟨fun x x0 x1=>?_,fun s s0 s1 x hx=>?_⟩
 ·rw [lb] at x1
  show inS (S.fi++zO S.b.length cs.length) _ x (gI (S.ow++zO S.le.length cs.length) x)
  by_cases h:x<S.b.length
  ·obtain ⟨a,c⟩:=I.own_at x0 h
   rw [xN x0 (by rw [ho];exact h)]
   unfold inS
   rw [xN a (by rw [hf];exact c),w2]
   exact I.W.seats x x0 h
  ·obtain ⟨e1,e2⟩:=new (x.toNat - S.b.length) (YX x0 x1 h)
   have ex:((S.b.length+(x.toNat - S.b.length):Nat):Int)=x:=Y1 x0 h
   rw [ex] at e1 e2
   rw [e1]
   exact .inl e2.symm
 ·rw [ll] at s1
  rw [lb]
  show gI (S.ow++zO S.le.length cs.length) x=s∧_
  have hx':x=gI (S.fi++zO S.b.length cs.length) s∨∃ p∈gM (mvs++List.replicate cs.length []) s,p.2=x:=hx
  rw [w2] at hx'
  by_cases h:s<S.le.length
  ·rw [xN s0 (by rw [hf];exact h)] at hx'
   obtain ⟨a,c,e⟩:=I.W.back s s0 h x hx'
   rw [xN c (by rw [ho];exact e)]
   exact ⟨a,c,X9 _ e⟩
  ·obtain ⟨e1,e2⟩:=new (s.toNat - S.le.length) (YX s0 s1 h)
   have es:((S.le.length+(s.toNat - S.le.length):Nat):Int)=s:=Y1 s0 h
   rw [es] at e1 e2
   rw [e2] at hx'
   have hm:gM mvs s=[]:=by
    unfold gM
    rw [List.getElem?_eq_none (by rw [I.K.mv];lia)];rfl
   rw [hm] at hx'
   rcases hx' with hx' | ⟨p,hp,_⟩
   ·subst hx'
    exact ⟨e1,Int.natCast_nonneg _,Int.ofNat_lt.mpr (Nat.add_lt_add_left (YX s0 s1 h) _)⟩
   ·cases hp
theorem Iw.fls {j:Int}:(∀ d∈gC cus j,fl S.st d=fl (S.st++[true]) d)∧(∀ p∈gM mvs j,fl S.st p.1=fl (S.st++[true]) p.1)∧∀ d,S.br[j.toNat]? = some (.int d)→fl S.st d=fl (S.st++[true]) d:=by
 refine ⟨fun d hd=>?_,fun p hp=>?_,fun d hd=>?_⟩
 ·have e:=zu (z0d hd)
  obtain ⟨q0,q1⟩:=I.K.dr _ (yF e) d (by unfold gC at hd;rw [e] at hd;exact hd)
  exact jO q0 q1
 ·have e:=zu (YL hp)
  obtain ⟨⟨q0,q1⟩,_⟩:=I.K.mr _ (yF e) p (by unfold gM at hp;rw [e] at hp;exact hp)
  exact jO q0 q1
 ·rcases I.K.bn _ (yF hd) with q | ⟨d',q,q0,q1⟩
  ·cases q
  ·cases q;exact jO q0 q1
theorem Iw.put_new {y:Int} (y0:0≤y) (h:¬ y<S.b.length) (y1:y<((S.b.length+cs.length:Nat):Int)):gI (S.ow++zO S.le.length cs.length) y∈zO S.le.length cs.length:=by
 have hj:=YX y0 y1 h
 rw [xa (j:=y.toNat - S.b.length) (by rw [I.O.ow];exact (Y1 y0 h).symm) (wT hj)]
 exact List.mem_map.mpr ⟨_,List.mem_range.mpr hj,rfl⟩
theorem Iw.put (hs:S.s1.st.length<200) (hb:S.b.length+cs.length<200) (he:S.le.length+cs.length<200) :
  Iw ((S.sd x).adds i (.int S.dn.length) q cs) (mvs++List.replicate cs.length []) (cus++List.replicate cs.length []) (sg++[zO S.le.length cs.length]):=by
 have hst:=I.st
 have K2:=(I.K.sd hs x).adds (i:=i) (q:=q) (d:=S.dn.length) (cs:=cs) ⟨Int.natCast_nonneg _,by rw [← hst];exact ji⟩ hb he
 have lb:((S.sd x).adds i (.int S.dn.length) q cs).b.length=S.b.length+cs.length:=by show (S.b++List.replicate cs.length true).length=_;rw [zT,List.length_replicate]
 have ll:((S.sd x).adds i (.int S.dn.length) q cs).le.length=S.le.length+cs.length:=zT
 have ls:sg.length=S.dn.length:=I.sl
 refine ⟨⟨Xz I.O.G lb (by rw [lb];exact hb),?_,?_,K2.sl⟩,K2,I.put_own,?_,?_,fun us hu j hj=>?_,fun j j0 j1 d hd=>?_,fun j j0 j1 p hp=>?_,fun j d j0 j1 hd=>?_⟩
 ·rw [lb];show (S.ow++zO S.le.length cs.length).length=_
  rw [zT,zh,I.O.ow]
 ·intro j hj
  rw [ll]
  rcases yn (show j∈S.ow++zO S.le.length cs.length from hj) with hj | hj
  ·exact ⟨(I.O.own j hj).1,X9 _ (I.O.own j hj).2⟩
  ·exact ⟨Int.le_trans (Int.natCast_nonneg _) (yJ hj).1,(yJ hj).2⟩
 ·show (S.st++[true]).length=(S.dn++[x]).length
  rw [zT,zT,hst];rfl
 ·show (sg++[_]).length=(S.dn++[x]).length
  rw [zT,zT,ls];rfl
 ·rw [ll]
  rcases yn hu with hu | hu
  ·exact ⟨(I.sr us hu j hj).1,X9 _ (I.sr us hu j hj).2⟩
  ·rw [xg hu] at hj
   exact ⟨Int.le_trans (Int.natCast_nonneg _) (yJ hj).1,(yJ hj).2⟩
 ·rw [Qj] at hd
  exact xb (I.dc j j0 ((Int.toNat_lt j0).mp (I.K.cu▸z0d hd)) d hd)
 ·rw [w2] at hp
  exact xb (I.dm j j0 ((Int.toNat_lt j0).mp (I.K.mv▸YL hp)) p hp)
 ·have hd:(S.br++List.replicate cs.length (AV.int S.dn.length))[j.toNat]? = some (.int d):=hd
  rcases jN hd with ⟨a,c⟩ | ⟨a,c⟩
  ·exact xb (I.db j d j0 ((Int.toNat_lt j0).mp (I.K.br▸a)) c)
  ·rw [I.K.br] at a c
   rw [List.getElem?_replicate] at c
   obtain ⟨h1,h2⟩:=jX c
   cases h2
   rw [Yw ls]
   exact List.mem_map.mpr ⟨_,List.mem_range.mpr h1,Y1 j0 (fun q=>absurd (qb j0 q) (Nat.not_lt.mpr a))⟩
omit I
theorem Iv.put (V:Iv S mvs cus sg) (hs:S.s1.st.length<200) (hb:S.b.length+cs.length<200) (he:S.le.length+cs.length<200) :
  Iv ({ S.s1.adds i (.int S.dn.length) q cs with b:=ye (S.s1.adds i (.int S.dn.length) q cs) (mvs++List.replicate cs.length []) (cus++List.replicate cs.length []) (S.s1.adds i (.int S.dn.length) q cs).b (zO S.le.length cs.length),dn:=S.dn++[x] }:Sh) (mvs++List.replicate cs.length []) (cus++List.replicate cs.length []) (sg++[zO S.le.length cs.length]):=by
 have I:=V.I
 have I2:=I.put (i:=i) (q:=q) (x:=x) (cs:=cs) hs hb he
 have lb:((S.sd x).adds i (.int S.dn.length) q cs).b.length=S.b.length+cs.length:=by show (S.b++List.replicate cs.length true).length=_;rw [zT,List.length_replicate]
 refine I2.seat (is:=zO S.le.length cs.length) (fun j hj=>I2.sr _ (List.mem_append_right _ (List.mem_singleton.mpr rfl)) j hj) fun y y0 y1 hn=>?_
 by_cases h:y<S.b.length
 ·obtain ⟨a,c⟩:=I.own_at y0 h
  have e:fl (S.b++List.replicate cs.length true) y=fl S.b y:=by unfold fl;rw [List.getElem?_append_left (qb y0 h)]
  refine (e.trans (V.flag y y0 h)).trans ?_
  refine wZ rfl (xN y0 (by rw [I.O.ow];exact h)) (xN a (by rw [I.K.fi];exact c)) w2 Qj (List.getElem?_append_left (by rw [I.K.br];exact qb a c)) I.fls.1 I.fls.2.1 I.fls.2.2
 ·exact absurd (I.put_new y0 h (by rw [← lb];exact y1)) hn
end
section
variable {S:Sh} {mvs:List (List (Int×Int))} {cus sg:List (List Int)} {is:List Int} {x:AV}
theorem Iw.cut_at (I:Iw S mvs cus sg) (nd:is.Nodup) (hi:∀ i∈is,0≤i∧i<S.le.length) {j:Int} (j0:0≤j):gC (yC S.st.length cus is) j=if j∈is then gC cus j++[(S.st.length:Int)] else gC cus j:=by
 unfold gC
 rw [YO (d:=S.st.length) j0 nd (fun i h=>by rw [I.K.cu];exact hi i h)]
 by_cases h:j∈is
 ·rw [if_pos h,if_pos h,zu (l:=cus) (i:=j.toNat) (by rw [I.K.cu];exact qb (hi j h).1 (hi j h).2)];rfl
 ·rw [if_neg h,if_neg h]
theorem Iw.cut (I:Iw S mvs cus sg) (nd:is.Nodup) (hi:∀ i∈is,0≤i∧i<S.le.length) (hs:S.s1.st.length<200):Iw (S.sd x) mvs (yC S.st.length cus is) (sg++[is]):=by
 have K:=I.K.cut hs nd hi
 have ls:sg.length=S.st.length:=I.sl.trans I.st.symm
 refine ⟨⟨I.O.G,I.O.ow,I.O.own,I.O.le⟩,⟨K.fi,K.br,K.mv,K.cu,K.fr,K.mr,K.dr,K.bn,K.ps,K.cs,K.sl,K.st,K.sb⟩,⟨I.W.seats,I.W.back⟩,?_,?_,fun us hu j hj=>?_,fun j j0 j1 d hd=>?_,fun j j0 j1 p hp=>xb (I.dm j j0 j1 p hp),fun j d j0 j1 hd=>xb (I.db j d j0 j1 hd)⟩
 ·show (S.st++[true]).length=(S.dn++[x]).length
  rw [zT,zT,I.st];rfl
 ·show (sg++[_]).length=(S.dn++[x]).length
  rw [zT,zT,I.sl];rfl
 ·rcases yn hu with hu | hu
  ·exact I.sr us hu j hj
  ·rw [xg hu] at hj;exact hi j hj
 ·rw [I.cut_at nd hi j0] at hd
  by_cases h:j∈is
  ·rw [if_pos h] at hd
   rcases yn hd with hd | hd
   ·exact xb (I.dc j j0 j1 d hd)
   ·rw [xg hd,Yw ls];exact h
  ·rw [if_neg h] at hd;exact xb (I.dc j j0 j1 d hd)
theorem Iv.cut (V:Iv S mvs cus sg) (nd:is.Nodup) (hi:∀ i∈is,0≤i∧i<S.le.length) (hs:S.s1.st.length<200) :
  Iv ({ S.s1 with b:=ye S.s1 mvs (yC S.st.length cus is) S.b is,dn:=S.dn++[x] }:Sh) mvs (yC S.st.length cus is) (sg++[is]):=by
 have I:=V.I
 refine (I.cut (x:=x) nd hi hs).seat (is:=is) hi fun y y0 y1 hn=>(V.flag y y0 y1).trans ?_
 exact wZ rfl rfl rfl rfl ((I.cut_at nd hi (I.own_at y0 y1).1).trans (if_neg hn)) rfl I.fls.1 I.fls.2.1 I.fls.2.2
end
section
variable {S:Sh} {mvs:List (List (Int×Int))} {cus sg:List (List Int)} (I:Iw S mvs cus sg) {a:Nat} {is:List Int} {x:AV}
include I
theorem Iw.mv_at (nd:is.Nodup) (hi:∀ i∈is,0≤i∧i<S.le.length) {s:Int} (s0:0≤s) :
  (s∉is→gM (yA S.st.length mvs S.b.length is) s=gM mvs s)∧∀ k:Nat,is[k]? = some s→gM (yA S.st.length mvs S.b.length is) s=gM mvs s++[((S.st.length:Int),((S.b.length+k:Nat):Int))]:=by
 obtain ⟨m1,m2⟩:=YE (d:=S.st.length) (j:=s) s0 (mvs:=mvs) (n:=S.b.length) nd (fun z hz=>by rw [I.K.mv];exact hi z hz)
 refine ⟨fun h=>?_,fun k h=>?_⟩
 ·unfold gM;rw [m1 h]
 ·have hs:=hi s (yF h)
  have e:=zu (l:=mvs) (i:=s.toNat) (by rw [I.K.mv];lia)
  unfold gM
  rw [m2 k h,e];rfl
theorem Iw.mov_own (nd:is.Nodup) (hi:∀ i∈is,0≤i∧i<S.le.length):Own ((S.sd x).mov a is) (yA S.st.length mvs S.b.length is):=by
 have lb:((S.sd x).mov a is).b.length=S.b.length+is.length:=by show (S.b++List.replicate is.length false).length=_;rw [zT,List.length_replicate]
 have ho:=I.O.ow
 refine ⟨fun x x0 x1=>?_,fun s s0 s1 x hx=>?_⟩
 ·rw [lb] at x1
  show inS S.fi _ x (gI (S.ow++is) x)
  by_cases h:x<S.b.length
  ·obtain ⟨a0,c⟩:=I.own_at x0 h
   rw [xN x0 (by rw [ho];exact h)]
   rcases I.W.seats x x0 h with e | ⟨p,hp,e⟩
   ·exact .inl e
   ·refine .inr ⟨p,?_,e⟩
    by_cases q:gI S.ow x∈is
    ·obtain ⟨k,hk⟩:=List.getElem?_of_mem q
     rw [(I.mv_at nd hi a0).2 k hk]
     exact List.mem_append_left _ hp
    ·rw [(I.mv_at nd hi a0).1 q];exact hp
  ·have hk:x.toNat - S.b.length<is.length:=YX x0 x1 h
   have e:=zu hk
   rw [xa (l:=S.ow) (m:=is) (x:=x) (j:=x.toNat - S.b.length) (by rw [ho];exact (Y1 x0 h).symm) e]
   refine .inr ⟨((S.st.length:Int),((S.b.length+(x.toNat - S.b.length):Nat):Int)),?_,?_⟩
   ·rw [(I.mv_at nd hi (hi _ (List.getElem_mem hk)).1).2 _ e]
    exact List.mem_append_right _ (.head _)
   ·show ((S.b.length+(x.toNat - S.b.length):Nat):Int)=x
    exact Y1 x0 h
 ·have s1:s<S.le.length:=s1
  rw [lb]
  show gI (S.ow++is) x=s∧_
  have old:inS S.fi mvs x s→gI (S.ow++is) x=s∧0≤x∧x<((S.b.length+is.length:Nat):Int):=fun hx=>by
   obtain ⟨a0,c,e⟩:=I.W.back s s0 s1 x hx
   rw [xN c (by rw [ho];exact e)]
   exact ⟨a0,c,X9 _ e⟩
  rcases hx with e | ⟨p,hp,e⟩
  ·exact old (.inl e)
  ·by_cases q:s∈is
   ·obtain ⟨k,hk⟩:=List.getElem?_of_mem q
    have hl:=(y7 hk).1
    rw [(I.mv_at nd hi s0).2 k hk] at hp
    rcases yn hp with hp | hp
    ·exact old (.inr ⟨p,hp,e⟩)
    ·rw [List.mem_singleton] at hp
     subst hp
     have e:((S.b.length+k:Nat):Int)=x:=e
     subst e
     exact ⟨xa (j:=k) (by rw [ho]) hk,Int.natCast_nonneg _,Int.ofNat_lt.mpr (Nat.add_lt_add_left hl _)⟩
   ·rw [(I.mv_at nd hi s0).1 q] at hp
    exact old (.inr ⟨p,hp,e⟩)
theorem Iw.mov (nd:is.Nodup) (hi:∀ i∈is,0≤i∧i<S.le.length) (hs:S.s1.st.length<200) (hb:S.b.length+is.length<200):Iw ((S.sd x).mov a is) (yA S.st.length mvs S.b.length is) cus (sg++[is]):=by
 have K:=I.K.mov (i:=a) hs nd hi hb
 have ls:sg.length=S.st.length:=I.sl.trans I.st.symm
 have lb:((S.sd x).mov a is).b.length=S.b.length+is.length:=by show (S.b++List.replicate is.length false).length=_;rw [zT,List.length_replicate]
 refine ⟨⟨Xz I.O.G lb (by rw [lb];exact hb),?_,?_,I.O.le⟩,⟨K.fi,K.br,K.mv,K.cu,K.fr,K.mr,K.dr,K.bn,K.ps,K.cs,K.sl,K.st,K.sb⟩,I.mov_own nd hi,?_,?_,fun us hu j hj=>?_,fun j j0 j1 d hd=>xb (I.dc j j0 j1 d hd),fun j j0 j1 p hp=>?_,fun j d j0 j1 hd=>xb (I.db j d j0 j1 hd)⟩
 ·rw [lb];show (S.ow++is).length=_
  rw [zT,I.O.ow]
 ·intro j hj
  rcases yn (show j∈S.ow++is from hj) with hj | hj
  ·exact I.O.own j hj
  ·exact hi j hj
 ·show (S.st++[true]).length=(S.dn++[x]).length
  rw [zT,zT,I.st];rfl
 ·show (sg++[_]).length=(S.dn++[x]).length
  rw [zT,zT,I.sl];rfl
 ·rcases yn hu with hu | hu
  ·exact I.sr us hu j hj
  ·rw [xg hu] at hj;exact hi j hj
 ·by_cases h:j∈is
  ·obtain ⟨k,hk⟩:=List.getElem?_of_mem h
   rw [(I.mv_at nd hi j0).2 k hk] at hp
   rcases yn hp with hp | hp
   ·exact xb (I.dm j j0 j1 p hp)
   ·rw [xg hp];show j∈gC _ (S.st.length:Int);rw [Yw ls];exact h
  ·rw [(I.mv_at nd hi j0).1 h] at hp;exact xb (I.dm j j0 j1 p hp)
omit I
theorem Iv.mov (V:Iv S mvs cus sg) (nd:is.Nodup) (hi:∀ i∈is,0≤i∧i<S.le.length) (hs:S.s1.st.length<200) (hb:S.b.length+is.length<200) :
  Iv ({ S.s1.mov a is with b:=ye S.s1 (yA S.st.length mvs S.b.length is) cus (S.s1.mov a is).b is,dn:=S.dn++[x] }:Sh) (yA S.st.length mvs S.b.length is) cus (sg++[is]):=by
 have I:=V.I
 have lb:((S.sd x).mov a is).b.length=S.b.length+is.length:=by show (S.b++List.replicate is.length false).length=_;rw [zT,List.length_replicate]
 refine (I.mov (x:=x) (a:=a) nd hi hs hb).seat (is:=is) hi fun y y0 y1 hn=>?_
 by_cases h:y<S.b.length
 ·have e:fl (S.b++List.replicate is.length false) y=fl S.b y:=by unfold fl;rw [List.getElem?_append_left (qb y0 h)]
  have eo:gI (S.ow++is) y=gI S.ow y:=xN y0 (by rw [I.O.ow];exact h)
  have hn:gI (S.ow++is) y∉is:=hn
  rw [eo] at hn
  exact (e.trans (V.flag y y0 h)).trans (wZ rfl eo rfl ((I.mv_at nd hi (I.own_at y0 h).1).1 hn) rfl rfl I.fls.1 I.fls.2.1 I.fls.2.2)
 ·have hk:=YX y0 (by rw [← lb];exact y1) h
  have e:=zu hk
  refine absurd ?_ hn
  show gI (S.ow++is) y∈is
  rw [xa (j:=y.toNat - S.b.length) (by rw [I.O.ow];exact (Y1 y0 h).symm) e]
  exact List.getElem_mem hk
end
theorem Yq {h:Int}:List.lookup ("take_back" : Str) (fS h)=none:=rfl
theorem Xe {h:Int}:List.lookup ("do_again" : Str) (fS h)=none:=rfl
theorem Ju (l:List Int):yT yG (l.map AV.int)=some l:=by
 induction l with
 | nil=>rfl
 | cons x l ih=>exact xQ rfl ih
theorem Wr {α β:Type} (f:α→β) (l:List α):∀ k,(l.map f).eraseIdx k=(l.eraseIdx k).map f:=by
 induction l with
 | nil=>intro k;rfl
 | cons x l ih =>
  intro k
  cases k with
  | zero=>rfl
  | succ k=>exact congrArg (f x::·) (ih k)
theorem Wd {h:Hp} {a k:Nat} {l:List Int} {i:Int} (e:h[a]? = some (.list (l.map AV.int))) (hk:l.findIdx? (· == i)=some k):yP .remove (.ref a) [.int i] h=.ok .none (h.set a (.list ((l.eraseIdx k).map AV.int))):=by
 rw [YF,e]
 show ofP ((yT yG (l.map AV.int)).bind fun is=>(is.findIdx? (· == i)).map fun k=>(AV.none,h.set a (.list ((l.map AV.int).eraseIdx k))))=_
 rw [Ju]
 show ofP ((l.findIdx? (· == i)).map fun k=>(AV.none,h.set a (.list ((l.map AV.int).eraseIdx k))))=_
 rw [hk,← Wr];rfl
section
variable {T:Tab} {okf:Str→Str→Bool} (X:TT T okf) {n:Nat} {S:Sh} {r:Hp} {mvs:List (List (Int×Int))} {cus sg:List (List Int)}
include X
theorem QW {i:Int} (h0:0≤i) (h1:i<S.dn.length):run T (n+2) (.meth "Sheet" "need_deed") [.ref 1,.int i] (S.hp r)=.ok .none (S.hp r):=by
 rw [zW X.kAh]
 exact yI (fr:=[some (.ref 1),some (.int i)]) rfl rfl (fr':=[some (.ref 1),some (.int i)]) ((z7 ((zH (xP (yO (b:=true) (yg (v:=.bool true) (zp (ev1 (z5 rfl) ev0) (yo X)) rfl)) (xP (yO (b:=true) (xq rfl (z5 rfl) (by rw [w3,decide_eq_true h0]) (qa (a:=12) rfl rfl kS9 rfl rfl) (by rw [yU,decide_eq_true h1]))) qJ))).trans zE)).trans zE)
theorem Yb {i:Int} (h0:0≤i) (h1:i<S.dn.length) (hst:S.st.length=S.dn.length) (hs:S.st.length<200):run T (n+3) (.meth "Sheet" "stands") [.ref 1,.int i] (S.hp r)=.ok (.bool (fl S.st i)) (S.hp r):=by
 rw [zW X.kAr]
 exact zM (fr:=[some (.ref 1),some (.int i)]) rfl rfl (fr':=[some (.ref 1),some (.int i)]) ((z7 (zn (zP (a:=1) (z5 rfl) rfl Yr (ev1 (z5 rfl) ev0) (QW X (n:=n) h0 h1)))).trans (zL (zm (zv (zb (z5 rfl) rfl Qf) (z5 rfl) (xo (b:=S.st) rfl h0 (by rw [hst];exact h1) (Nat.le_trans (Nat.le_of_lt hs) (by decide)))))))
noncomputable abbrev Sh.wl (S:Sh) (st:List Bool) (lo:List Int):Sh:={ S with st:=st,lo:=lo }
theorem JT {fr:AFr} {d:Nat} {v:Bool} (f0:fr[0]? = some (some (.ref 1))) (f1:fr[1]? = some (some (.int d))) (hd:d<S.st.length) (hs:S.st.length<200):z9 okf (.item (zG (z6 0) "standing") (z6 1)) (z8 (.bool v)) (run T n) fr (S.hp r)=.ok .next fr ((S.ws (S.st.set d v)).hp r):=by
 refine ZS (v:=.bool v) rfl (zb (z5 f0) rfl Qf) (z5 f1) ?_
 rw [Z3]
 show (if 0≤(d:Int)∧(d:Int)<((S.st.map AV.bool).length:Nat)∧(S.st.map AV.bool).length≤small then some ((S.hp r).set 13 (.list ((S.st.map AV.bool).set (d:Int).toNat (.bool v)))) else none)=_
 rw [List.length_map,if_pos ⟨Int.natCast_nonneg _,Int.ofNat_lt.mpr hd,Nat.le_trans (Nat.le_of_lt hs) (by decide)⟩,Int.toNat_natCast,← List.map_set]
 rfl
theorem WD {fr:AFr} {d q:Nat} {us:List Int} {hw wd:AV} (K:Sg S mvs cus) (D:Dy S mvs cus r) (f0:fr[0]? = some (some (.ref 1))) (f1:fr[1]? = some (some (.int d))) (hx:S.dn[d]? = some (.tup [hw,wd,.ref (q+15)])) (hd:S.dn.length<200) (hq:r[q]? = some (.list (us.map AV.int))) (hu:∀ i∈us,0≤i∧i<S.le.length) :
  ∃ g,zN (zB (z6 0) "seated" none [(zF (zF (zG (z6 0) "done") (z6 1)) (z8 (.int 2)))]) (run T (n+4)) fr (S.hp r)=.ok .next fr ((S.wb (ye S mvs cus S.b us)).hp (r++g)):=by
 obtain ⟨g,e⟩:=WA X (n:=n) K D hq hu
 have hl:=(y7 hx).1
 exact ⟨g,zn (zP (a:=1) (z5 f0) rfl YG (ev1 (zv (zv (zb (z5 f0) rfl kS9) (z5 f1) (xK (xs:=S.dn) rfl (Int.natCast_nonneg _) (Int.lt_trans (Int.ofNat_lt.mpr (Nat.lt_trans hl hd)) (by decide)) hx)) rfl rfl) ev0) e)⟩
theorem QJ (I:Iw S mvs cus sg) (D:Dy S mvs cus r) {d q:Nat} {us:List Int} {hw wd:AV} (hst:fl S.st d=true) (hx:S.dn[d]? = some (.tup [hw,wd,.ref (q+15)])) (hq:r[q]? = some (.list (us.map AV.int))) (hu:∀ i∈us,0≤i∧i<S.le.length) (hlo:S.lo.length<200) :
  ∃ g,run T (n+5) (.meth "Sheet" "take_back") [.ref 1,.int d] (S.hp r)=.ok .none (((S.wl (S.st.set d false) (S.lo++[(d:Int)])).wb (ye (S.wl (S.st.set d false) (S.lo++[(d:Int)])) mvs cus S.b us)).hp (r++g)):=by
 have hl:=(y7 hx).1
 have hn:S.dn.length<200:=I.st▸I.K.st
 have Kw:=I.K.ws (st:=S.st.set d false) (by rw [List.length_set];exact Nat.le_refl _) (by rw [List.length_set];exact I.K.st)
 obtain ⟨g,e⟩:=WD X (n:=n) (S:=S.wl (S.st.set d false) (S.lo++[(d:Int)])) (r:=r) (fr:=[some (.ref 1),some (.int d)]) ⟨Kw.fi,Kw.br,Kw.mv,Kw.cu,Kw.fr,Kw.mr,Kw.dr,Kw.bn,Kw.ps,Kw.cs,Kw.sl,Kw.st,Kw.sb⟩ ⟨D.ml,D.cl,D.m,D.c,D.nd⟩ rfl rfl hx hn hq hu
 refine ⟨g,?_⟩
 rw [zW X.kAe]
 refine yI (fr:=[some (.ref 1),some (.int d)]) rfl rfl (fr':=[some (.ref 1),some (.int d)]) ?_
 have st:=yO (yg (zP (me:=none) (a:=1) (z5 (i:=0) (cf:=run T (n+4)) (fr:=[some (.ref 1),some (.int d)]) (h:=S.hp r) rfl) rfl jU (ev1 (z5 (i:=1) rfl) ev0) (Yb X (n:=n+1) (i:=(d:Int)) (Int.natCast_nonneg _) (Int.ofNat_lt.mpr hl) I.st I.K.st)) rfl)
 rw [hst] at st
 exact (z7 ((zH st).trans zE)).trans ((z7 (JT X rfl rfl (by rw [I.st];exact hl) I.K.st)).trans ((z7 (wp (h:=(S.ws (S.st.set d false)).hp r) (h1:=(S.ws (S.st.set d false)).hp r) (v:=.int d) (a:=14) (ys:=S.lo.map AV.int) (zs:=(S.lo++[(d:Int)]).map AV.int) rfl rfl zBv rfl (z5 rfl) rfl (by rw [List.length_map];exact Nat.lt_trans hlo (by decide)) (xY AV.int S.lo _))).trans ((z7 e).trans zE)))
theorem Ws (I:Iw S mvs cus sg) (D:Dy S mvs cus r) {d q k:Nat} {us:List Int} {hw wd:AV} (hst:fl S.st d=false) (hx:S.dn[d]? = some (.tup [hw,wd,.ref (q+15)])) (hq:r[q]? = some (.list (us.map AV.int))) (hu:∀ i∈us,0≤i∧i<S.le.length) (hk:S.lo.findIdx? (· == (d:Int))=some k) :
  ∃ g,run T (n+5) (.meth "Sheet" "do_again") [.ref 1,.int d] (S.hp r)=.ok .none (((S.wl (S.st.set d true) (S.lo.eraseIdx k)).wb (ye (S.wl (S.st.set d true) (S.lo.eraseIdx k)) mvs cus S.b us)).hp (r++g)):=by
 have hl:=(y7 hx).1
 have hn:S.dn.length<200:=I.st▸I.K.st
 have Kw:=I.K.ws (st:=S.st.set d true) (by rw [List.length_set];exact Nat.le_refl _) (by rw [List.length_set];exact I.K.st)
 obtain ⟨g,e⟩:=WD X (n:=n) (S:=S.wl (S.st.set d true) (S.lo.eraseIdx k)) (r:=r) (fr:=[some (.ref 1),some (.int d)]) ⟨Kw.fi,Kw.br,Kw.mv,Kw.cu,Kw.fr,Kw.mr,Kw.dr,Kw.bn,Kw.ps,Kw.cs,Kw.sl,Kw.st,Kw.sb⟩ ⟨D.ml,D.cl,D.m,D.c,D.nd⟩ rfl rfl hx hn hq hu
 refine ⟨g,?_⟩
 rw [zW X.kAm]
 refine yI (fr:=[some (.ref 1),some (.int d)]) rfl rfl (fr':=[some (.ref 1),some (.int d)]) ?_
 have st:=yg (zP (me:=none) (a:=1) (z5 (i:=0) (cf:=run T (n+4)) (fr:=[some (.ref 1),some (.int d)]) (h:=S.hp r) rfl) rfl jU (ev1 (z5 (i:=1) rfl) ev0) (Yb X (n:=n+1) (i:=(d:Int)) (Int.natCast_nonneg _) (Int.ofNat_lt.mpr hl) I.st I.K.st)) rfl
 rw [hst] at st
 exact (z7 ((zH st).trans zE)).trans ((z7 (JT X rfl rfl (by rw [I.st];exact hl) I.K.st)).trans ((z7 (zn (v:=.none) (ww (a:=14) (ys:=S.lo.map AV.int) (zb (z5 rfl) rfl zBv) rfl (ev1 (z5 rfl) ev0) (Wd (l:=S.lo) rfl hk)))).trans ((z7 e).trans zE)))
end
section
variable {S:Sh} {mvs:List (List (Int×Int))} {cus sg:List (List Int)}
theorem qm {st:List Bool} {d:Nat} {e:Int} {v:Bool} (e0:0≤e) (h:e≠d):fl st e=fl (st.set d v) e:=by
 unfold fl
 rw [List.getElem?_set_ne fun q=>h (by rw [q,Int.toNat_of_nonneg e0])]
theorem Iw.flip (I:Iw S mvs cus sg) {st:List Bool} {lo:List Int} (h:st.length=S.st.length):Iw (S.wl st lo) mvs cus sg :=
 have Kw:=I.K.ws (st:=st) (by rw [h];exact Nat.le_refl _) (by rw [h];exact I.K.st)
 ⟨⟨I.O.G,I.O.ow,I.O.own,I.O.le⟩,⟨Kw.fi,Kw.br,Kw.mv,Kw.cu,Kw.fr,Kw.mr,Kw.dr,Kw.bn,Kw.ps,Kw.cs,Kw.sl,Kw.st,Kw.sb⟩,⟨I.W.seats,I.W.back⟩,h.trans I.st,I.sl,I.sr,I.dc,I.dm,I.db⟩
theorem Iv.flip (V:Iv S mvs cus sg) {d:Nat} {v:Bool} {lo:List Int} {us:List Int} (hs:sg[d]? = some us):Iv ((S.wl (S.st.set d v) lo).wb (ye (S.wl (S.st.set d v) lo) mvs cus S.b us)) mvs cus sg:=by
 have I:=V.I
 have hu:gC sg (d:Int)=us:=by unfold gC;rw [Int.toNat_natCast,hs];rfl
 refine (I.flip (st:=S.st.set d v) (lo:=lo) List.length_set).seat (is:=us) (I.sr us (yF hs)) fun x x0 x1 hn=>(V.flag x x0 x1).trans ?_
 obtain ⟨a,c⟩:=I.own_at x0 x1
 have ne:∀ e:Int,gI S.ow x∈gC sg e→e≠(d:Int):=fun e h q=>hn (by rw [← hu,← q];exact h)
 refine wZ (S:=S) (S':=S.wl (S.st.set d v) lo) rfl rfl rfl rfl rfl rfl (fun e he=>?_) (fun p hp=>?_) (fun e he=>?_)
 ·have q:=zu (z0d he)
  exact qm (I.K.dr _ (yF q) e (by unfold gC at he;rw [q] at he;exact he)).1 (ne e (I.dc _ a c e he))
 ·have q:=zu (YL hp)
  exact qm (I.K.mr _ (yF q) p (by unfold gM at hp;rw [q] at hp;exact hp)).1.1 (ne p.1 (I.dm _ a c p hp))
 ·rcases I.K.bn _ (yF he) with q | ⟨d',q,q0,_⟩
  ·cases q
  ·cases q;exact qm q0 (ne _ (I.db _ _ a c he))
end
theorem jo {h:Int}:List.lookup ("place_of" : Str) (fS h)=none:=rfl
section
variable {T:Tab} {okf:Str→Str→Bool} (X:TT T okf) {n:Nat} {l:List Int} {b:List Bool} {r:Hp} {o0 o1 o2:AO}
include X
theorem QQ {x:Int} {j:Nat} (x0:0≤x) (x1:x<b.length) (hj:l.findIdx? (· == x)=some j) (G:Good l b) :
  ∃ g,run T (n+3) (.meth "Row" "ahead") [.ref 3,.int x] (H o0 o1 o2 l b r)=.ok (.int (tk b (l.take j)).length) (H o0 o1 o2 l b (r++g)):=by
 have hjl:=(List.findIdx?_eq_some_iff_getElem.mp hj).1
 have lsm:=G.sm'
 have ll:l.length≤small:=Nat.le_of_lt lsm.1
 refine ⟨[.list ((l.take j).map AV.int),.list ((tk b (l.take j)).map AV.int)],?_⟩
 rw [zW X.kBh]
 have ei:zB (zG (z6 0) "line") "index" (some .index) [(z6 1)] (run T (n+2)) [some (.ref 3),some (.int x),none] (H o0 o1 o2 l b r)=.ok (.int j) (H o0 o1 o2 l b r):=by
  refine ww (zb (z5 rfl) rfl lk1) (ys:=l.map AV.int) rfl (ev1 (z5 rfl) ev0) ?_
  rw [jI]
  show (match wV (H o0 o1 o2 l b r) (.ref 4) (.int x) with | some k=>Out.ok (AV.int k) _ | none=>.stuck)=_
  rw [jY (l:=l) rfl,hj]
 have hjs:okI (j:Int)=true:=jG (Nat.le_trans (Nat.le_of_lt hjl) ll)
 have ecut:wn (zG (z6 0) "line") (z8 .none) (zB (zG (z6 0) "line") "index" (some .index) [(z6 1)]) (run T (n+2)) [some (.ref 3),some (.int x),none] (H o0 o1 o2 l b r)=.ok (.ref (r.length+6)) (H o0 o1 o2 l b (r++[.list ((l.take j).map AV.int)])):=by
  refine (XU (zb (z5 rfl) rfl lk1) rfl ei (ZC (xs:=l.map AV.int) rfl Zv (xS hjs) (by rw [List.length_map];exact ll))).trans ?_
  have:wH (l.map AV.int) 0 (some (j:Int).toNat)=(l.take j).map AV.int:=by
   show ((l.map AV.int).take (j:Int).toNat).drop 0=_
   rw [List.drop_zero,Int.toNat_natCast,List.map_take]
  rw [show (none:Option Nat).getD 0=0 from rfl,this];rfl
 have hg0:(H o0 o1 o2 l b (r++[.list ((l.take j).map AV.int)]))[r.length+6]? = some (.list ((l.take j).map AV.int)):=by
  show (r++[AO.list ((l.take j).map AV.int)])[r.length]? = _
  exact zK r _ []
 have ec:=yK AV.int (it:=z6 2) (own:=1) (i:=3) (a:=r.length+6) (test:=zQ .And [y6 (zF (zG (z6 0) "flags") (z6 3))]) (elt:=z6 3) (cf:=run T (n+2)) (fr:=[some (.ref 3),some (.int x),some (.ref (r.length+6))])
  (h:=H o0 o1 o2 l b (r++[.list ((l.take j).map AV.int)])) (h1:=H o0 o1 o2 l b (r++[.list ((l.take j).map AV.int)])) (l:=l.take j) (p:=fl b) (f:=AV.int) rfl hg0 (zZ rfl) (Nat.lt_of_le_of_lt (List.length_take_le' _ _) lsm.1)
  (fun fr' a1 a2 y hy a3=>XF (by rw [a2 0 (by decide)];rfl) a3 rfl rfl (G.rng y (List.mem_of_mem_take hy)).1 (G.rng y (List.mem_of_mem_take hy)).2 (Nat.le_of_lt lsm.2))
  (fun fr' a1 a2 y hy a3=>z5 a3)
 have l1:(H o0 o1 o2 l b (r++[.list ((l.take j).map AV.int)])).length=r.length+7:=by
  show (r++[AO.list ((l.take j).map AV.int)]).length+6=_
  rw [zT];rfl
 have l2:H o0 o1 o2 l b (r++[.list ((l.take j).map AV.int)])++[.list (((l.take j).filter (fl b)).map AV.int)]=H o0 o1 o2 l b (r++[.list ((l.take j).map AV.int),.list ((tk b (l.take j)).map AV.int)]):=by
  show H o0 o1 o2 l b ((r++[.list ((l.take j).map AV.int)])++[_])=_
  rw [List.append_assoc];rfl
 rw [l1,l2] at ec
 refine zM (fr:=[some (.ref 3),some (.int x),none]) rfl rfl (fr':=[some (.ref 3),some (.int x),some (.ref (r.length+6))]) ?_
 unfold kBh
 dsimp only
 rw [z7 (zn (zP (a:=3) (z5 rfl) rfl lk3 (ev1 (z5 rfl) ev0) (xl X (n:=n) x0 x1)))]
 rw [z7 (zU (j:=2) ecut (zZ rfl))]
 refine zL (zm (yv (ev1 ec ev0) ?_))
 have hg:(H o0 o1 o2 l b (r++[.list ((l.take j).map AV.int),.list ((tk b (l.take j)).map AV.int)]))[r.length+7]? = some (.list ((tk b (l.take j)).map AV.int)):=by
  show (r++[AO.list ((l.take j).map AV.int),.list ((tk b (l.take j)).map AV.int)])[r.length+1]? = _
  rw [yH];rfl
 rw [xH,xE,hg]
 show Out.ok (AV.int (((tk b (l.take j)).map AV.int).length:Nat)) _=_
 rw [List.length_map]
end
section
variable {T:Tab} {okf:Str→Str→Bool} (X:TT T okf) {n:Nat} {S:Sh} {r:Hp} {mvs:List (List (Int×Int))} {cus sg:List (List Int)}
include X
theorem zEl {fr:AFr} {cf:CF} (e0:fr[0]? = some (some (.ref 1))):zC (zA (some (.bi .len))) [zG (z6 0) "letters"] cf fr (S.hp r)=.ok (.int S.le.length) (S.hp r):=qa (a:=7) (ys:=S.le.map ch) e0 rfl kS4 rfl (List.length_map _)
theorem wz {i:Int} (h0:0≤i) (h1:i<S.le.length):run T (n+2) (.meth "Sheet" "need_sign") [.ref 1,.int i] (S.hp r)=.ok .none (S.hp r):=by
 rw [zW X.kAi]
 exact yI (fr:=[some (.ref 1),some (.int i)]) rfl rfl (fr':=[some (.ref 1),some (.int i)]) ((z7 ((zH (xP (yO (b:=true) (yg (v:=.bool true) (zp (ev1 (z5 rfl) ev0) (yo X)) rfl)) (xP (yO (b:=true) (xq rfl (z5 rfl) (by rw [w3,decide_eq_true h0]) (zEl X rfl) (by rw [yU,decide_eq_true h1]))) qJ))).trans zE)).trans zE)
theorem X2 (I:Iw S mvs cus sg) {i:Int} (h0:0≤i) (h1:i<S.le.length):gI S.ow (S.cur mvs i)=i∧0≤S.cur mvs i∧S.cur mvs i<S.b.length:=I.W.back i h0 h1 _ X3
theorem Wa (I:Iw S mvs cus sg) (D:Dy S mvs cus r) {i:Int} (h0:0≤i) (h1:i<S.le.length) {j:Nat} (hj:S.l.findIdx? (· == S.cur mvs i)=some j) :
  ∃ g,run T (n+4) (.meth "Sheet" "place_of") [.ref 1,.int i] (S.hp r)=.ok (.tup [.int (tk S.b (S.l.take j)).length,.bool (S.shw cus i)]) (S.hp (r++g)):=by
 obtain ⟨_,c0,c1⟩:=X2 X I h0 h1
 have es:=jD X (n:=n+2) I.K D h0 h1
 obtain ⟨g1,ea⟩:=QQ X (n:=n) (o0:=S.g0) (o1:=.inst "Sheet" (fS S.hands)) (o2:=S.g2) (r:=S.tl r) c0 c1 hj I.O.G
 have ea':run T (n+3) (.meth "Row" "ahead") [.ref 3,.int (S.cur mvs i)] (S.hp r)=.ok (.int (tk S.b (S.l.take j)).length) (S.hp (r++g1)):=ea
 obtain ⟨g2,ei⟩:=YI X (n:=n+2) I.K (D.grow g1) h0 h1
 refine ⟨g1++g2,?_⟩
 rw [zW X.kAl,← List.append_assoc]
 exact zM (fr:=[some (.ref 1),some (.int i)]) rfl rfl (fr':=[some (.ref 1),some (.int i)]) ((z7 (zn (zP (a:=1) (z5 rfl) rfl qy (ev1 (z5 rfl) ev0) (wz X (n:=n+1) h0 h1)))).trans (zL (zm (q6 (ev1 (zP (a:=3) (zb (z5 rfl) rfl kS2) rfl Jw (ev1 (zP (a:=1) (z5 rfl) rfl qx (ev1 (z5 rfl) ev0) es) ev0) ea') (ev1 (zP (a:=1) (z5 rfl) rfl jp (ev1 (z5 rfl) ev0) ei) ev0))))))
end
set_option genInjectivity false
set_option genSizeOf false
theorem jW:((" !\"#$&'()*+,-./0123456789:;<=>?@ABCDEFGHIJKLMNOPQRSTUVWXYZ[\\]^_`" : Str)++("abcdefghijklmnopqrstuvwxyz{|}~\n" : Str))=LET∧LET.cps.toList.length=95∧(" !\"#$&'()*+,-./0123456789:;<=>?@ABCDEFGHIJKLMNOPQRSTUVWXYZ[\\]^_`" : Str).length+("abcdefghijklmnopqrstuvwxyz{|}~\n" : Str).length≤95:=by decide +kernel
theorem zEc (z:Int):0≤z.fmod 95∧z.fmod 95<95:=⟨Int.fmod_nonneg_of_pos _ (by decide),Int.fmod_lt_of_pos _ (by decide)⟩
theorem WT (z:Int):∃ c,LET.cps[(z.fmod 95).toNat]? = some c∧c∈LET.cps.toList:=by
 have h:=zEc z
 have hl:(z.fmod 95).toNat<LET.cps.toList.length:=by rw [jW.2.1];lia
 refine ⟨LET.cps.toList[(z.fmod 95).toNat],?_,List.getElem_mem hl⟩
 rw [← Array.getElem?_toList]
 exact zu hl
theorem qK {cf:CF} {fr:AFr} {h h1:Hp} {x:XE} {z d:Int} (e:x cf fr h=.ok (.int z) h1) (hd:0<d∧d<1073741824):zV .FloorDiv x (z8 (.int d)) cf fr h=.ok (.int (z.fdiv d)) h1:=yR e rfl (by rw [QE,if_pos ⟨by lia,by lia⟩])
theorem ZR {cf:CF} {fr:AFr} {h h1 h2:Hp} {x y:XE} {z d:Int} (e:x cf fr h=.ok (.int z) h1) (e':y cf fr h1=.ok (.int d) h2) (hd:0<d):zV .Mod x y cf fr h=.ok (.int (z.fmod d)) h2:=yR e e' (by rw [w9,if_neg (by lia)])
theorem wN {cf:CF} {fr:AFr} {h h1:Hp} {x:XE} {z d:Int} (e:x cf fr h=.ok (.int z) h1) (hd:0<d):zV .Mod x (z8 (.int d)) cf fr h=.ok (.int (z.fmod d)) h1:=ZR e rfl hd
theorem YB {cf:CF} {fr:AFr} {h h1 h2:Hp} {x y:XE} {a c:Int} (e:x cf fr h=.ok (.int a) h1) (e':y cf fr h1=.ok (.int c) h2):zV .Add x y cf fr h=.ok (.int (a+c)) h2:=yR e e' wA
section
variable {T:Tab} {okf:Str→Str→Bool} (X:TT T okf) {n:Nat}
include X
theorem XD {c m:Int} {h:Hp} (m0:0≤m) (m1:m≤100):∃ cs o,run T (n+2) (.fn "_law_text_by") [.int c,.int m] h=.ok (.str (tx cs)) (h++[o])∧okT cs∧(cs.length:Int)=m:=by
 rw [ya X.kAx]
 let F:Nat→Nat:=fun k=>LET.cps[(((ZV c (0+(k:Int))).fdiv 8).fmod 95).toNat]?.getD 0
 let l:List Nat:=List.range (m - 0).toNat
 have hl:l.length=(m - 0).toNat:=List.length_range
 have er:(zC (zA (some (.bi .range))) [(z6 1)]) (run T (n+1)) [some (.int c),some (.int m),some (.str LET)] h=.ok (.range 0 m) h:=by
  refine yv (ev1 (z5 rfl) ev0) ?_
  rw [QF,if_pos (by lia)]
 have ec:=qp (fun k:Nat=>AV.int (0+(k:Int))) (own:=1) (i:=3) (test:=zQ .And []) (elt:=(zF (z6 2) (zV .Mod (zV .FloorDiv (zC (zA (some (.fn "_law_mixed"))) [(z6 0),(z6 3)]) (z8 (.int 8))) (z8 (.int 95))))) (l:=l) (p:=fun _=>true) (f:=fun k=>ch (F k)) er (by show some (Src.imm (xB 0 m),(m - 0).toNat)=_;rw [hl];rfl) (zZ rfl) (by rw [hl];show _<1048576;lia)
  (fun fr' a1 a2 x hx a3=>rfl)
  (fun fr' a1 a2 x hx a3=>by
   have a0:fr'[0]? = some (some (.int c)):=a2 0 (by decide)
   have a4:fr'[2]? = some (some (.str LET)):=a2 2 (by decide)
   have:=zEc ((ZV c (0+(x:Int))).fdiv 8)
   refine zv (z5 a4) (wN (qK (zp (ev1 (z5 a0) (ev1 (z5 a3) ev0)) (QX X)) ⟨by decide,by decide⟩) (by decide)) ?_
   obtain ⟨v,hv,_⟩:=WT ((ZV c (0+(x:Int))).fdiv 8)
   rw [z2l (yQ.mpr ⟨by lia,by lia⟩)]
   show _=some (ch (LET.cps[_]?.getD 0))
   rw [hv];rfl)
 rw [List.filter_eq_self.mpr (fun _ _=>rfl)] at ec
 have e2:l.map (fun k=>ch (F k))=(l.map F).map (fun c=>AV.str ⟨#[c]⟩):=by rw [List.map_map];rfl
 have hg:(h++[AO.list (l.map fun k=>ch (F k))])[h.length]? = some (AO.list ((l.map F).map (fun c=>AV.str ⟨#[c]⟩))):=by rw [← e2];exact zK _ _ []
 have ej:=ZX (sep := "") hg ZJ (by
  rw [ZI,List.length_map,List.length_map,hl]
  show _+_ * 0≤1048576
  lia)
 rw [j4] at ej
 refine ⟨l.map F,.list (l.map fun k=>ch (F k)),?_,fun v hv=>?_,by rw [List.length_map,hl];lia⟩
 ·refine zM (fr:=[some (.int c),some (.int m),none]) rfl rfl (fr':=[some (.int c),some (.int m),some (.str LET)]) ?_
  unfold kAx
  dsimp only
  rw [z7 (zU (j:=2) rfl (zZ rfl))]
  rw [z7 (zU (j:=2) (v:=.str LET) (yR (z5 rfl) rfl (by rw [z2w,if_pos (Nat.le_trans jW.2.2 (by decide)),jW.1])) (zZ rfl))]
  exact zL (zm (Jb rfl (ev1 ec ev0) ej))
 ·obtain ⟨k,_,rfl⟩:=List.mem_map.mp hv
  obtain ⟨u,hu,hm⟩:=WT ((ZV c (0+(k:Int))).fdiv 8)
  show LET.cps[_]?.getD 0∈_
  rw [hu];exact hm
end
inductive Deed where
 | put (p:Int) (cs:List Nat)
 | cut (i j:Int)
 | mov (i j p:Int)
noncomputable def Deed.av (hd:Int):Deed→AV
 | .put p cs=>.tup [.int hd,.str "put",.int 0,.int 0,.int p,.str (tx cs)]
 | .cut i j=>.tup [.int hd,.str "cut",.int i,.int j,.int 0,.str ""]
 | .mov i j p=>.tup [.int hd,.str "move",.int i,.int j,.int p,.str ""]
noncomputable def Deed.ok (m:Int):Deed→Prop
 | .put p cs=>0≤p∧p≤m∧okT cs∧cs≠[]∧cs.length≤4
 | .cut i j=>0≤i∧i<j∧j≤m
 | .mov i j p=>0≤i∧i<j∧j≤m∧j≤i+5∧0≤p∧p≤m∧¬ (i<p∧p<j)
theorem wok:PyData.strOk ("put" : Str)=true∧PyData.strOk ("cut" : Str)=true∧PyData.strOk ("move" : Str)=true:=by decide +kernel
theorem weq:(("put" : Str) == ("put" : Str))=true∧(("cut" : Str) == ("put" : Str))=false∧(("cut" : Str) == ("cut" : Str))=true∧(("move" : Str) == ("put" : Str))=false∧(("move" : Str) == ("cut" : Str))=false:=by decide +kernel
section
variable {h:Hp}
theorem zCh:yZ .Eq (.str "put") (.str "put") h=some true:=(wC wok.1 wok.1).trans (congrArg some weq.1)
theorem zCk:yZ .Eq (.str "cut") (.str "put") h=some false:=(wC wok.2.1 wok.1).trans (congrArg some weq.2.1)
theorem zCl:yZ .Eq (.str "cut") (.str "cut") h=some true:=(wC wok.2.1 wok.2.1).trans (congrArg some weq.2.2.1)
theorem zCi:yZ .Eq (.str "move") (.str "put") h=some false:=(wC wok.2.2 wok.1).trans (congrArg some weq.2.2.2.1)
theorem zCj:yZ .Eq (.str "move") (.str "cut") h=some false:=(wC wok.2.2 wok.2.1).trans (congrArg some weq.2.2.2.2)
end
theorem fmr (z:Int) {d:Int} (h:0<d):0≤z.fmod d∧z.fmod d<d:=⟨Int.fmod_nonneg_of_pos _ h,Int.fmod_lt_of_pos _ h⟩
theorem zDw {m:Int} (h:¬ m=0) (h':0≤m):(if (1:Int)<m then m else 1)=m:=by split <;> lia
theorem zEe {bg x m:Int} (b1:bg<m) (x0:0≤x) (x1:x<5):bg<(if bg+1+x<m then bg+1+x else m)∧(if bg+1+x<m then bg+1+x else m)≤m∧(if bg+1+x<m then bg+1+x else m)≤bg+5:=by split <;> lia
theorem zDx {bg en p m:Int} (b0:0≤bg) (e1:bg<en) (e2:en≤m) (h:p=bg∨p=en):0≤p∧p≤m∧¬ (bg<p∧p<en):=by
 rcases h with rfl | rfl
 ·exact ⟨b0,Int.le_of_lt (Int.lt_of_lt_of_le e1 e2),fun h=>Int.lt_irrefl _ h.1⟩
 ·exact ⟨Int.le_of_lt (Int.lt_of_le_of_lt b0 e1),e2,fun h=>Int.lt_irrefl _ h.2⟩
theorem zBr {m:Int}:0<(if (1:Int)<m then m else 1):=by split <;> lia
theorem z30 {x:Int} (h:0≤x∧x<4):0≤1+x∧1+x≤100:=by lia
theorem Je {c:Nat} {x:Int} (hl:(c:Int)=1+x) (h:0≤x∧x<4):0<c∧c≤4:=by lia
theorem zBb {x:Int} (h:0≤x∧x<2):x=0∨x=1:=by lia
section
variable {T:Tab} {okf:Str→Str→Bool} (X:TT T okf) {n:Nat}
include X
theorem z0m {z hands:Int} {m:Nat} {h:Hp} (hm:m≤200) (hh:0<hands):∃ hd d g,run T (n+3) (.fn "_law_deed_by") [.int z,.int m,.int hands] h=.ok (Deed.av hd d) (h++g)∧0≤hd∧hd<hands∧d.ok m:=by
 rw [ya X.kA1]
 let hd:=z.fmod hands
 let kd:=(z.fdiv 9).fmod 8
 let mx:Int:=if (1:Int)<m then m else 1
 have mx0:0<mx:=zBr
 let bg:=(z.fdiv 72).fmod mx
 let e0:=bg+1+(z.fdiv 1009).fmod 5
 let en:Int:=if e0<m then e0 else m
 let pl:=(z.fdiv 5003).fmod (m+1)
 have r1:=fmr z hh
 have r2:=fmr (z.fdiv 72) mx0
 have r3:=fmr (z.fdiv 1009) (show (0:Int)<5 by decide)
 have r4:=fmr (z.fdiv 5003) (Int.lt_add_one_of_le (Int.natCast_nonneg m))
 have hF:∀ {v:AV} {h':Hp},(∃ fr',(zD [(sIf (zQ .Or [(zR (z6 4) [.Lt] [(z8 (.int 3))]),(zR (z6 1) [.Eq] [(z8 (.int 0))])]) (zD [(zf (xU [(z6 3),(z8 (.str "put")),(z8 (.int 0)),(z8 (.int 0)),(z6 7),(zC (zA (some (.fn "_law_text_by"))) [(z6 0),(zV .Add (z8 (.int 1)) (zV .Mod (zV .FloorDiv (z6 0) (z8 (.int 30011))) (z8 (.int 4))))])]))]) (zD [])),(sIf (zR (z6 4) [.Lt] [(z8 (.int 5))]) (zD [(zf (xU [(z6 3),(z8 (.str "cut")),(z6 5),(z6 6),(z8 (.int 0)),(z8 (.str ""))]))]) (zD [])),(sIf (zR (z6 5) [.Lt,.Lt] [(z6 7),(z6 6)]) (zD [(z9 okf (.names (.one 7)) (zF (zX [(z6 5),(z6 6)]) (zV .Mod (zV .FloorDiv (z6 0) (z8 (.int 60013))) (z8 (.int 2)))))]) (zD [])),(zf (xU [(z6 3),(z8 (.str "move")),(z6 5),(z6 6),(z6 7),(z8 (.str ""))]))]) (run T (n+2)) [some (.int z),some (.int m),some (.int hands),some (.int hd),some (.int kd),some (.int bg),some (.int en),some (.int pl)] h=.ok (.ret v) fr' h')→yf (kA1 okf) (run T (n+2)) [.int z,.int m,.int hands] h=.ok v h':=by
  rintro v h' ⟨fr',e⟩
  refine zM (fr:=[some (.int z),some (.int m),some (.int hands),none,none,none,none,none]) rfl rfl (fr':=fr') ?_
  unfold kA1
  dsimp only
  rw [z7 (zU (j:=3) (ZR (z5 rfl) (z5 rfl) hh) (zZ rfl))]
  rw [z7 (zU (j:=4) (wN (qK (z5 rfl) ⟨by decide,by decide⟩) (by decide)) (zZ rfl))]
  rw [z7 (zU (j:=5) (ZR (d:=mx) (qK (z5 rfl) ⟨by decide,by decide⟩) (yv (ev1 rfl (ev1 (z5 rfl) ev0)) zC8) mx0) (zZ rfl))]
  rw [z7 (zU (j:=6) (v:=.int en) (yv (ev1 (z5 rfl) (ev1 (YB (YB (z5 rfl) rfl) (wN (qK (z5 rfl) ⟨by decide,by decide⟩) (by decide))) ev0)) zC7) (zZ rfl))]
  rw [z7 (zU (j:=7) (ZR (d:=m+1) (qK (z5 rfl) ⟨by decide,by decide⟩) (YB (z5 rfl) rfl) (Int.lt_add_one_of_le (Int.natCast_nonneg m))) (zZ rfl))]
  exact e
 by_cases hk:kd<3∨(m:Int)=0
 ·have r5:=fmr (z.fdiv 30011) (show (0:Int)<4 by decide)
  obtain ⟨cs,o,et,ok,hl⟩:=XD X (n:=n) (c:=z) (m:=1+(z.fdiv 30011).fmod 4) (h:=h) (z30 r5).1 (z30 r5).2
  refine ⟨hd,.put pl cs,[o],hF ⟨_,zL ((zi (h1:=h) ?_).trans (zL (zm (q6 (ev1 (z5 rfl) (ev1 rfl (ev1 rfl (ev1 rfl (ev1 (z5 rfl) (ev1 (zp (ev1 (z5 rfl) (ev1 (YB rfl (wN (qK (z5 rfl) ⟨by decide,by decide⟩) (by decide))) ev0)) et) ev0)))))))))) ⟩,r1.1,r1.2,r4.1,Int.le_of_lt_add_one r4.2,ok,fun q=>absurd (Je hl r5).1 (by rw [q];exact Nat.lt_irrefl _),(Je hl r5).2⟩
  by_cases h3:kd<3
  ·exact ZQ (zS (z5 rfl) rfl (by rw [yU,decide_eq_true h3]))
  ·exact xP (zS (z5 rfl) rfl (by rw [yU,decide_eq_false h3])) (ZQ (zS (z5 rfl) rfl (by rw [xz,xG,decide_eq_true (hk.resolve_left h3)])))
 ·have k3:¬ kd<3:=fun q=>hk (.inl q)
  have m0:¬ (m:Int)=0:=fun q=>hk (.inr q)
  have hmx:mx=m:=by exact zDw m0 (Int.natCast_nonneg _)
  have b0:0≤bg:=r2.1
  have b1:bg<m:=by rw [← hmx];exact r2.2
  have e1:bg<en∧en≤m∧en≤bg+5:=zEe b1 r3.1 r3.2
  have p0:0≤pl:=r4.1
  have p1:pl≤m:=Int.le_of_lt_add_one r4.2
  have s1:zQ .Or [(zR (z6 4) [.Lt] [(z8 (.int 3))]),(zR (z6 1) [.Eq] [(z8 (.int 0))])] (run T (n+2)) [some (.int z),some (.int m),some (.int hands),some (.int hd),some (.int kd),some (.int bg),some (.int en),some (.int pl)] h=.ok false h :=
   xP (zS (z5 rfl) rfl (by rw [yU,decide_eq_false k3])) (xP (zS (z5 rfl) rfl (by rw [xz,xG,decide_eq_false m0])) qJ)
  by_cases k5:kd<5
  ·refine ⟨hd,.cut bg en,[],hF ⟨[some (.int z),some (.int m),some (.int hands),some (.int hd),some (.int kd),some (.int bg),some (.int en),some (.int pl)],?_⟩,r1.1,r1.2,b0,e1.1,e1.2.1⟩
   rw [z7 ((zH s1).trans zE),List.append_nil]
   exact zL ((zi (zS (z5 rfl) rfl (by rw [yU,decide_eq_true k5]))).trans (zL (zm (q6 (ev1 (z5 rfl) (ev1 rfl (ev1 (z5 rfl) (ev1 (z5 rfl) (ev1 rfl (ev1 rfl ev0))))))))))
  ·have s2:zR (z6 4) [.Lt] [(z8 (.int 5))] (run T (n+2)) [some (.int z),some (.int m),some (.int hands),some (.int hd),some (.int kd),some (.int bg),some (.int en),some (.int pl)] h=.ok false h:=zS (z5 rfl) rfl (by rw [yU,decide_eq_false k5])
   by_cases hb:bg<pl∧pl<en
   ·have r6:=fmr (z.fdiv 60013) (show (0:Int)<2 by decide)
    obtain ⟨p',ep,hp'⟩:∃ p':Int,qj (h++[.list [.int bg,.int en]]) (.ref h.length) (.int ((z.fdiv 60013).fmod 2))=some (.int p')∧(p'=bg∨p'=en):=by
     have hg:(h++[AO.list [.int bg,.int en]])[h.length]? = some (.list [.int bg,.int en]):=zK _ _ []
     rcases zBb r6 with q | q
     ·refine ⟨bg,?_,.inl rfl⟩
      rw [q,qA rfl,hg];rfl
     ·refine ⟨en,?_,.inr rfl⟩
      rw [q,qA rfl,hg];rfl
    refine ⟨hd,.mov bg en p',[.list [.int bg,.int en]],hF ⟨[some (.int z),some (.int m),some (.int hands),some (.int hd),some (.int kd),some (.int bg),some (.int en),some (.int p')],?_⟩,r1.1,r1.2,b0,e1.1,e1.2.1,e1.2.2,zDx b0 e1.1 e1.2.1 hp'⟩
    rw [z7 ((zH s1).trans zE),z7 ((zH s2).trans zE)]
    rw [z7 ((zi (xq (z5 rfl) (z5 rfl) (by rw [yU,decide_eq_true hb.1]) (z5 rfl) (by rw [yU,decide_eq_true hb.2]))).trans ((z7 (zU (j:=7) (zv (zy (ev1 (z5 rfl) (ev1 (z5 rfl) ev0))) (wN (qK (z5 rfl) ⟨by decide,by decide⟩) (by decide)) ep) (zZ rfl))).trans zE))]
    exact zL (zm (q6 (ev1 (z5 rfl) (ev1 rfl (ev1 (z5 rfl) (ev1 (z5 rfl) (ev1 (z5 rfl) (ev1 rfl ev0))))))))
   ·have s3:zR (z6 5) [.Lt,.Lt] [(z6 7),(z6 6)] (run T (n+2)) [some (.int z),some (.int m),some (.int hands),some (.int hd),some (.int kd),some (.int bg),some (.int en),some (.int pl)] h=.ok false h:=by
     by_cases q:bg<pl
     ·exact xq (z5 rfl) (z5 rfl) (by rw [yU,decide_eq_true q]) (z5 rfl) (by rw [yU,decide_eq_false fun w=>hb ⟨q,w⟩])
     ·exact WE (z5 rfl) (z5 rfl) (by rw [yU,decide_eq_false q])
    refine ⟨hd,.mov bg en pl,[],hF ⟨[some (.int z),some (.int m),some (.int hands),some (.int hd),some (.int kd),some (.int bg),some (.int en),some (.int pl)],?_⟩,r1.1,r1.2,b0,e1.1,e1.2.1,e1.2.2,p0,p1,hb⟩
    rw [z7 ((zH s1).trans zE),z7 ((zH s2).trans zE),z7 ((zH s3).trans zE),List.append_nil]
    exact zL (zm (q6 (ev1 (z5 rfl) (ev1 rfl (ev1 (z5 rfl) (ev1 (z5 rfl) (ev1 (z5 rfl) (ev1 rfl ev0))))))))
end
theorem xk {cf:CF} {fr:AFr} {h h1 h2:Hp} {x o:XE} {v:AV} {a:Nat} {c name:Str} {okf:Str→Str→Bool} {fs fs':List (Str×AV)} (e:x cf fr h=.ok v h1) (eo:o cf fr h1=.ok (.ref a) h2) (ha:h2[a]? = some (.inst c fs)) (hok:okf c name=true) (hl:fs.length<100) (hf:wW name v fs=fs'):z9 okf (.attr o name) x cf fr h=.ok .next fr (h2.set a (.inst c fs')):=by
 unfold z9
 rw [e]
 show Out.bindS (o cf fr h1) fr _=_
 rw [eo]
 show (match h2[a]? with
   | some (.inst c fs)=>if okf c name && decide (fs.length<100) then OS.ok .next fr (h2.set a (.inst c (wW name v fs))) else .stuck
   | _=>.stuck)=_
 rw [ha]
 show (if okf c name && decide (fs.length<100) then OS.ok .next fr (h2.set a (.inst c (wW name v fs))) else .stuck)=_
 rw [hok,decide_eq_true hl,hf];rfl
noncomputable abbrev sh0 (g0 g2:AO) (hands:Int):Sh:=⟨g0,g2,hands,[],[],[],[],[],[],[],[],[],[],[]⟩
noncomputable abbrev sh1 (g0 g2:AO) (hands:Int) (cs:List Nat):Sh:=⟨g0,g2,hands,zO 0 cs.length,List.replicate cs.length true,zO 0 cs.length,cs,zO 0 cs.length,(List.range cs.length).map (fun j=>1+2 * j),List.replicate cs.length .none,(List.range cs.length).map (fun j=>1+2 * j+1),[],[],[]⟩
theorem JS (g0 g2:AO) (hands:Int) (cs:List Nat):(sh0 g0 g2 hands).adds 0 .none 1 cs=sh1 g0 g2 hands cs:=by
 simp [Sh.adds]
theorem jK {k:Nat} {x:Int} (x0:0≤x) (x1:x<k):gI (zO 0 k) x=x:=by
 unfold gI
 rw [wT (show x.toNat<k by lia)]
 show ((0+x.toNat:Nat):Int)=x
 lia
theorem jZ {k:Nat} {x:Int}:gM (List.replicate k []) x=[]:=w2 (mvs:=[]) (k:=k) (i:=x)
theorem Z6 {α:Type} {k:Nat} {l:List α} (h:l∈List.replicate k ([]:List α)):l=[]:=List.eq_of_mem_replicate h
theorem z0c {k:Nat} {x:Int}:gC (List.replicate k []) x=[]:=Qj (cus:=[]) (k:=k) (i:=x)
theorem iv1 (g0 g2:AO) (hands:Int) {cs:List Nat} (hc:cs.length<200):Iv (sh1 g0 g2 hands cs) (List.replicate cs.length []) (List.replicate cs.length []) []∧(sh1 g0 g2 hands cs).sh=zO 0 cs.length:=by
 have lb:(sh1 g0 g2 hands cs).b.length=cs.length:=List.length_replicate
 have fb:∀ (x:Int),0≤x→x<cs.length→fl (sh1 g0 g2 hands cs).b x=true:=fun x x0 x1=>by
  unfold fl
  show (List.replicate cs.length true)[x.toNat]?.getD false=true
  rw [List.getElem?_replicate,if_pos (by lia)];rfl
 refine ⟨⟨⟨⟨⟨?_,by rw [lb];exact hc⟩,?_,fun i hi=>?_,hc⟩,⟨zh _ _,List.length_replicate,List.length_replicate,List.length_replicate,fun i hi=>?_,fun ps hp p hq=>?_,fun ps hp p hq=>?_,fun v hv=>?_,fun ps hp=>?_,fun ps hp=>?_,hc,zZ rfl,by rw [lb];exact hc⟩,⟨fun x x0 x1=>?_,fun i i0 i1 x hx=>?_⟩,rfl,rfl,fun us hu=>(by cases hu),fun i i0 i1 d hd=>(by rw [z0c] at hd;cases hd),fun i i0 i1 p hp=>(by rw [jZ] at hp;cases hp),fun i d i0 i1 hd=>(by have:=List.eq_of_mem_replicate (yF hd);cases this)⟩,fun x x0 x1=>?_⟩,?_⟩
 ·rw [lb]
  show (zO 0 cs.length).Perm _
  unfold zO
  simp only [Nat.zero_add]
  exact List.Perm.refl _
 ·rw [lb];exact zh _ _
 ·have:=yJ hi
  show 0≤i∧i<(cs.length:Int)
  lia
 ·have:=yJ hi
  rw [lb];lia
 ·rw [Z6 hp] at hq;cases hq
 ·rw [Z6 hp] at hq;cases hq
 ·exact .inl (List.eq_of_mem_replicate hv)
 ·rw [Z6 hp];exact Nat.zero_le _
 ·rw [Z6 hp];exact Nat.zero_le _
 ·rw [lb] at x1
  show inS (zO 0 cs.length) _ x (gI (zO 0 cs.length) x)
  rw [jK x0 x1]
  exact .inl (jK x0 x1).symm
 ·have i1:i<cs.length:=i1
  rw [lb]
  have hx:x=gI (zO 0 cs.length) i∨∃ p∈gM (List.replicate cs.length []) i,p.2=x:=hx
  rw [jZ,jK i0 i1] at hx
  rcases hx with rfl | ⟨p,hp,_⟩
  ·exact ⟨jK i0 i1,i0,i1⟩
  ·cases hp
 ·rw [lb] at x1
  rw [fb x x0 x1]
  unfold Sh.tgt
  have e1:gI (zO 0 cs.length) x=x:=jK x0 x1
  have e2:(sh1 g0 g2 hands cs).shw (List.replicate cs.length []) x=true:=by
   unfold Sh.shw
   show (Zu [] ((List.replicate cs.length AV.none)[x.toNat]?.getD .none) && !(gC (List.replicate cs.length []) x).any _)=true
   rw [z0c,List.getElem?_replicate,if_pos (qb x0 x1)];rfl
  have e3:(sh1 g0 g2 hands cs).cur (List.replicate cs.length []) x=x:=by
   show yB [] (gI (zO 0 cs.length) x) (gM (List.replicate cs.length []) x)=x
   rw [jZ,e1];rfl
  show true=((sh1 g0 g2 hands cs).shw (List.replicate cs.length []) (gI (zO 0 cs.length) x) && decide (x=(sh1 g0 g2 hands cs).cur (List.replicate cs.length []) (gI (zO 0 cs.length) x)))
  rw [e1,e2,e3,decide_eq_true rfl];rfl
 ·show ((zO 0 cs.length).filter (fl (sh1 g0 g2 hands cs).b)).map (fun x=>gI (zO 0 cs.length) x)=_
  rw [List.filter_eq_self.mpr fun x hx=>by have:=yJ hx;exact fb x (by lia) (by lia)]
  have:=Jt (l:=[]) (m:=zO 0 cs.length) (k:=cs.length) (n:=0) rfl (zh _ _)
  rw [List.nil_append] at this
  exact this
noncomputable abbrev rF1 (k:Nat):List (Str×AV):=[("line",.ref (k+1))]
noncomputable abbrev rF2 (k:Nat):List (Str×AV):=[("line",.ref (k+1)),("flags",.ref (k+2))]
section
variable {T:Tab} {okf:Str→Str→Bool} (X:TT T okf) {n:Nat}
include X
theorem JZ {h:Hp}:run T (n+1) (.cls "Row") [] h=.ok (.ref h.length) (h++[.inst "Row" (rF2 h.length),.list [],.list []]):=by
 rw [WB X.row X.kBs]
 have e:yf (kBs okf) (run T n) [.ref h.length] (h++[.inst "Row" []])=.ok .none (h++[.inst "Row" (rF2 h.length),.list [],.list []]):=by
  refine yI (fr:=[some (.ref h.length)]) rfl rfl (fr':=[some (.ref h.length)]) ?_
  unfold kBs
  dsimp only
  refine (z7 (xk (a:=h.length) (zy ev0) (z5 rfl) (show ((h++[AO.inst "Row" []])++[AO.list []])[h.length]? = some (.inst "Row" []) by rw [List.append_assoc];exact zK _ _ _) X.kB2 (zZ rfl) (show wW "line" (AV.ref (h++[AO.inst "Row" []]).length) []=rF1 h.length by rw [zT];rfl))).trans ?_
  have e1:((h++[AO.inst "Row" []])++[AO.list []]).set h.length (.inst "Row" (rF1 h.length))=h++[.inst "Row" (rF1 h.length),.list []]:=by rw [List.append_assoc];exact Z4 _ _ _ _
  rw [e1]
  refine (z7 (xk (a:=h.length) (zy ev0) (z5 rfl) (show ((h++[AO.inst "Row" (rF1 h.length),.list []])++[AO.list []])[h.length]? = some (.inst "Row" (rF1 h.length)) by rw [List.append_assoc];exact zK _ _ _) X.kBz (zZ rfl) (show wW "flags" (AV.ref (h++[AO.inst "Row" (rF1 h.length),.list []]).length) (rF1 h.length)=rF2 h.length by rw [zT];rfl))).trans ?_
  have e2:((h++[AO.inst "Row" (rF1 h.length),.list []])++[AO.list []]).set h.length (.inst "Row" (rF2 h.length))=h++[.inst "Row" (rF2 h.length),.list [],.list []]:=by rw [List.append_assoc];exact Z4 _ _ _ _
  rw [e2]
  exact zE
 rw [e];rfl
theorem zE9 {g0:AO} {cs:List Nat} {hands:Int} (ok:okT cs) (hc:cs.length≤60) (h1:1≤hands) (h9:hands≤9):∃ g2 r,run T (n+5) (.cls "Sheet") [.str (tx cs),.int hands] [g0]=.ok (.ref 1) ((sh1 g0 g2 hands cs).hp r)∧Dy (sh1 g0 g2 hands cs) (List.replicate cs.length []) (List.replicate cs.length []) r:=by
 refine ⟨.list (cs.map fun _=>AV.bool true),.list ((zO 0 cs.length).map AV.int)::List.replicate (2 * cs.length) (.list []),?_,?_⟩
 ·rw [WB X.sheet X.kBb]
  generalize hg2:AO.list (cs.map fun _=>AV.bool true)=g2
  have e:yf (kBb okf) (run T (n+4)) [.ref 1,.str (tx cs),.int hands] ([g0]++[.inst "Sheet" []])=.ok .none ((sh1 g0 g2 hands cs).hp (.list ((zO 0 cs.length).map AV.int)::List.replicate (2 * cs.length) (.list []))):=by
   refine yI (fr:=[some (.ref 1),some (.str (tx cs)),some (.int hands)]) rfl rfl (fr':=[some (.ref 1),some (.str (tx cs)),some (.int hands)]) ?_
   unfold kBb
   dsimp only
   show zD _ _ _ [g0,.inst "Sheet" []]=_
   have et:=Xq X (n:=n+3) ok (by lia) (hp:=[g0,.inst "Sheet" []])
   rw [hg2] at et
   have et':run T (n+4) (.fn "is_text") [.str (tx cs)] [g0,.inst "Sheet" []]=.ok (.bool true) [g0,.inst "Sheet" [],g2]:=et
   refine (z7 ((zH (yO (b:=true) (yg (v:=.bool true) (zp (ev1 (z5 rfl) ev0) et') rfl))).trans zE)).trans ?_
   refine (z7 ((zH (xP (yO (b:=true) (yg (v:=.bool true) (zp (ev1 (z5 rfl) ev0) (yo X (n:=n+3))) rfl)) (xP (yO (b:=true) (xq rfl (z5 rfl) (by rw [w3,decide_eq_true h1]) rfl (by rw [w3,decide_eq_true h9]))) qJ))).trans zE)).trans ?_
   refine (z7 (xk (a:=1) (fs':=[("hands",.int hands)]) (z5 rfl) (z5 rfl) rfl X.kBv (zZ rfl) rfl)).trans ?_
   show zD _ _ _ [g0,.inst "Sheet" [("hands",.int hands)],g2]=_
   refine (z7 (xk (a:=1) (fs':=[("hands",.int hands),("row",.ref 3)]) (z34 ev0 (JZ X (n:=n+3))) (z5 rfl) rfl X.kB6 (zZ rfl) rfl)).trans ?_
   show zD _ _ _ [g0,.inst "Sheet" [("hands",.int hands),("row",.ref 3)],g2,.inst "Row" fs,.list [],.list []]=_
   refine (z7 (xk (a:=1) (fs':=[("hands",.int hands),("row",.ref 3),("owners",.ref 6)]) (zy (h1:=[g0,.inst "Sheet" [("hands",.int hands),("row",.ref 3)],g2,.inst "Row" fs,.list [],.list []]) ev0) (z5 rfl) rfl X.kBp (zZ rfl) rfl)).trans ?_
   show zD _ _ _ [g0,.inst "Sheet" [("hands",.int hands),("row",.ref 3),("owners",.ref 6)],g2,.inst "Row" fs,.list [],.list [],.list []]=_
   refine (z7 (xk (a:=1) (fs':=[("hands",.int hands),("row",.ref 3),("owners",.ref 6),("letters",.ref 7)]) (zy (h1:=[g0,.inst "Sheet" [("hands",.int hands),("row",.ref 3),("owners",.ref 6)],g2,.inst "Row" fs,.list [],.list [],.list []]) ev0) (z5 rfl) rfl X.kBl (zZ rfl) rfl)).trans ?_
   show zD _ _ _ [g0,.inst "Sheet" [("hands",.int hands),("row",.ref 3),("owners",.ref 6),("letters",.ref 7)],g2,.inst "Row" fs,.list [],.list [],.list [],.list []]=_
   refine (z7 (xk (a:=1) (fs':=[("hands",.int hands),("row",.ref 3),("owners",.ref 6),("letters",.ref 7),("firsts",.ref 8)]) (zy (h1:=[g0,.inst "Sheet" [("hands",.int hands),("row",.ref 3),("owners",.ref 6),("letters",.ref 7)],g2,.inst "Row" fs,.list [],.list [],.list [],.list []]) ev0) (z5 rfl) rfl X.kBr (zZ rfl) rfl)).trans ?_
   show zD _ _ _ [g0,.inst "Sheet" [("hands",.int hands),("row",.ref 3),("owners",.ref 6),("letters",.ref 7),("firsts",.ref 8)],g2,.inst "Row" fs,.list [],.list [],.list [],.list [],.list []]=_
   refine (z7 (xk (a:=1) (fs':=[("hands",.int hands),("row",.ref 3),("owners",.ref 6),("letters",.ref 7),("firsts",.ref 8),("moved",.ref 9)]) (zy (h1:=[g0,.inst "Sheet" [("hands",.int hands),("row",.ref 3),("owners",.ref 6),("letters",.ref 7),("firsts",.ref 8)],g2,.inst "Row" fs,.list [],.list [],.list [],.list [],.list []]) ev0) (z5 rfl) rfl X.kBw (zZ rfl) rfl)).trans ?_
   show zD _ _ _ [g0,.inst "Sheet" [("hands",.int hands),("row",.ref 3),("owners",.ref 6),("letters",.ref 7),("firsts",.ref 8),("moved",.ref 9)],g2,.inst "Row" fs,.list [],.list [],.list [],.list [],.list [],.list []]=_
   refine (z7 (xk (a:=1) (fs':=[("hands",.int hands),("row",.ref 3),("owners",.ref 6),("letters",.ref 7),("firsts",.ref 8),("moved",.ref 9),("bringers",.ref 10)]) (zy (h1:=[g0,.inst "Sheet" [("hands",.int hands),("row",.ref 3),("owners",.ref 6),("letters",.ref 7),("firsts",.ref 8),("moved",.ref 9)],g2,.inst "Row" fs,.list [],.list [],.list [],.list [],.list [],.list []]) ev0) (z5 rfl) rfl X.kA5 (zZ rfl) rfl)).trans ?_
   show zD _ _ _ [g0,.inst "Sheet" [("hands",.int hands),("row",.ref 3),("owners",.ref 6),("letters",.ref 7),("firsts",.ref 8),("moved",.ref 9),("bringers",.ref 10)],g2,.inst "Row" fs,.list [],.list [],.list [],.list [],.list [],.list [],.list []]=_
   refine (z7 (xk (a:=1) (fs':=[("hands",.int hands),("row",.ref 3),("owners",.ref 6),("letters",.ref 7),("firsts",.ref 8),("moved",.ref 9),("bringers",.ref 10),("cutters",.ref 11)]) (zy (h1:=[g0,.inst "Sheet" [("hands",.int hands),("row",.ref 3),("owners",.ref 6),("letters",.ref 7),("firsts",.ref 8),("moved",.ref 9),("bringers",.ref 10)],g2,.inst "Row" fs,.list [],.list [],.list [],.list [],.list [],.list [],.list []]) ev0) (z5 rfl) rfl X.kBe (zZ rfl) rfl)).trans ?_
   show zD _ _ _ [g0,.inst "Sheet" [("hands",.int hands),("row",.ref 3),("owners",.ref 6),("letters",.ref 7),("firsts",.ref 8),("moved",.ref 9),("bringers",.ref 10),("cutters",.ref 11)],g2,.inst "Row" fs,.list [],.list [],.list [],.list [],.list [],.list [],.list [],.list []]=_
   refine (z7 (xk (a:=1) (fs':=[("hands",.int hands),("row",.ref 3),("owners",.ref 6),("letters",.ref 7),("firsts",.ref 8),("moved",.ref 9),("bringers",.ref 10),("cutters",.ref 11),("done",.ref 12)]) (zy (h1:=[g0,.inst "Sheet" [("hands",.int hands),("row",.ref 3),("owners",.ref 6),("letters",.ref 7),("firsts",.ref 8),("moved",.ref 9),("bringers",.ref 10),("cutters",.ref 11)],g2,.inst "Row" fs,.list [],.list [],.list [],.list [],.list [],.list [],.list [],.list []]) ev0) (z5 rfl) rfl X.kB4 (zZ rfl) rfl)).trans ?_
   show zD _ _ _ [g0,.inst "Sheet" [("hands",.int hands),("row",.ref 3),("owners",.ref 6),("letters",.ref 7),("firsts",.ref 8),("moved",.ref 9),("bringers",.ref 10),("cutters",.ref 11),("done",.ref 12)],g2,.inst "Row" fs,.list [],.list [],.list [],.list [],.list [],.list [],.list [],.list [],.list []]=_
   refine (z7 (xk (a:=1) (fs':=[("hands",.int hands),("row",.ref 3),("owners",.ref 6),("letters",.ref 7),("firsts",.ref 8),("moved",.ref 9),("bringers",.ref 10),("cutters",.ref 11),("done",.ref 12),("standing",.ref 13)]) (zy (h1:=[g0,.inst "Sheet" [("hands",.int hands),("row",.ref 3),("owners",.ref 6),("letters",.ref 7),("firsts",.ref 8),("moved",.ref 9),("bringers",.ref 10),("cutters",.ref 11),("done",.ref 12)],g2,.inst "Row" fs,.list [],.list [],.list [],.list [],.list [],.list [],.list [],.list [],.list []]) ev0) (z5 rfl) rfl X.kA9 (zZ rfl) rfl)).trans ?_
   show zD _ _ _ [g0,.inst "Sheet" [("hands",.int hands),("row",.ref 3),("owners",.ref 6),("letters",.ref 7),("firsts",.ref 8),("moved",.ref 9),("bringers",.ref 10),("cutters",.ref 11),("done",.ref 12),("standing",.ref 13)],g2,.inst "Row" fs,.list [],.list [],.list [],.list [],.list [],.list [],.list [],.list [],.list [],.list []]=_
   refine (z7 (xk (a:=1) (fs':=[("hands",.int hands),("row",.ref 3),("owners",.ref 6),("letters",.ref 7),("firsts",.ref 8),("moved",.ref 9),("bringers",.ref 10),("cutters",.ref 11),("done",.ref 12),("standing",.ref 13),("lost",.ref 14)]) (zy (h1:=[g0,.inst "Sheet" [("hands",.int hands),("row",.ref 3),("owners",.ref 6),("letters",.ref 7),("firsts",.ref 8),("moved",.ref 9),("bringers",.ref 10),("cutters",.ref 11),("done",.ref 12),("standing",.ref 13)],g2,.inst "Row" fs,.list [],.list [],.list [],.list [],.list [],.list [],.list [],.list [],.list [],.list []]) ev0) (z5 rfl) rfl X.kB3 (zZ rfl) rfl)).trans ?_
   show zD _ _ _ [g0,.inst "Sheet" [("hands",.int hands),("row",.ref 3),("owners",.ref 6),("letters",.ref 7),("firsts",.ref 8),("moved",.ref 9),("bringers",.ref 10),("cutters",.ref 11),("done",.ref 12),("standing",.ref 13),("lost",.ref 14)],g2,.inst "Row" fs,.list [],.list [],.list [],.list [],.list [],.list [],.list [],.list [],.list [],.list [],.list []]=_
   have eb:=z12 X (n:=n) (S:=sh0 g0 g2 hands) (r:=[]) (bh:=.none) (d:=.none) (i:=0) (cs:=cs) (.inl ⟨rfl,rfl⟩) ⟨Nat.zero_le _,Nat.zero_le _,Nat.zero_le _,Nat.zero_le _,Nat.zero_le _,Nat.zero_le _,Nat.zero_le _,Nat.zero_le _⟩ (fun x hx=>by cases hx) (by lia)
   have eq:(sh0 g0 g2 hands).adds 0 .none (([]:Hp).length+1) cs=sh1 g0 g2 hands cs:=JS g0 g2 hands cs
   rw [eq] at eb
   refine (z7 (zn (zP (a:=1) (z5 rfl) rfl Xf (ev1 (z5 rfl) (ev1 rfl (ev1 rfl ev0))) eb))).trans ?_
   exact zE
  show Out.bind0 (yf (kBb okf) (run T (n+4)) [.ref 1,.str (tx cs),.int hands] ([g0]++[.inst "Sheet" []])) _=_
  rw [e];rfl
 ·have D0:Dy (sh0 g0 (.list (cs.map fun _=>AV.bool true)) hands) [] [] []:=⟨rfl,rfl,(fun i k ps h1 _=>by cases h1),(fun i k ps h1 _=>by cases h1),List.nodup_nil⟩
  have:=D0.adds (i:=0) (d:=.none) (cs:=cs) (o:=.list ((zO 0 cs.length).map AV.int))
  rw [show (([]:Hp).length+1)=1 from rfl,JS,List.nil_append,List.nil_append,List.nil_append] at this
  exact this
end
noncomputable def pos (l:List Int) (x:Int):Nat:=l.findIdx (· == x)
theorem jE {l:List Int} {x:Int} (h:x∈l):l.findIdx? (· == x)=some (pos l x):=by
 rw [List.findIdx?_eq_some_iff_findIdx_eq]
 exact ⟨List.findIdx_lt_length_of_exists ⟨x,h,beq_self_eq_true x⟩,rfl⟩
theorem zBk {l:List Int} {x:Int} (h:x∈l):pos l x<l.length:=List.findIdx_lt_length_of_exists ⟨x,h,beq_self_eq_true x⟩
theorem zEi {l:List Int} {x:Int} (h:x∈l):l[pos l x]? = some x:=by
 have hl:=zBk h
 rw [zu hl]
 exact congrArg some (beq_iff_eq.mp (List.findIdx_getElem (p:=(· == x)) (w:=hl)))
section
variable {S:Sh} {mvs:List (List (Int×Int))} {cus sg:List (List Int)}
theorem Iw.cur_mem (I:Iw S mvs cus sg) {i:Int} (h0:0≤i) (h1:i<S.le.length):S.cur mvs i∈S.l∧gI S.ow (S.cur mvs i)=i:=by
 obtain ⟨a,b,c⟩:=I.W.back i h0 h1 _ X3
 refine ⟨(I.O.G.perm.mem_iff).mpr (List.mem_map.mpr ⟨(S.cur mvs i).toNat,List.mem_range.mpr (qb b c),Int.toNat_of_nonneg b⟩),a⟩
noncomputable def Sh.at_ (S:Sh) (mvs:List (List (Int×Int))) (i:Int):Nat:=pos S.l (S.cur mvs i)
noncomputable def Sh.pl (S:Sh) (mvs:List (List (Int×Int))) (i:Int):Nat:=(tk S.b (S.l.take (S.at_ mvs i))).length
end
noncomputable def Kps (S:Sh) (r:Hp) (S':Sh) (r':Hp):Prop:=∀ (q:Nat) (o:AO),q∉S.mv→q∉S.cu→r[q]? = some o→r'[q]? = some o∧q∉S'.mv∧q∉S'.cu
theorem Kps.trans {S S' S'':Sh} {r r' r'':Hp} (a:Kps S r S' r') (b:Kps S' r' S'' r''):Kps S r S'' r'':=fun q o h1 h2 h3=>let ⟨c,d,e⟩:=a q o h1 h2 h3;b q o d e c
noncomputable def Dn (S:Sh) (sg:List (List Int)) (P:List Nat) (r:Hp):Prop:=∀ (d:Nat) (us:List Int),sg[d]? = some us→∃ (hd:Int) (w:Str) (q:Nat),S.dn[d]? = some (.tup [.int hd,.str w,.ref (q+15)])∧r[q]? = some (.list (us.map AV.int))∧q∉S.mv∧q∉S.cu∧q∉P
theorem J8 {α:Type} {l:List α} {x y:α} {d:Nat} (h:(l++[x])[d]? = some y):l[d]? = some y∨(d=l.length∧x=y):=by
 rcases jN h with ⟨_,c⟩ | ⟨a,c⟩
 ·exact .inl c
 ·right
  cases e:d - l.length with
  | zero=>rw [e] at c;exact ⟨Nat.le_antisymm (Nat.sub_eq_zero_iff_le.mp e) a,Option.some.inj c⟩
  | succ k=>rw [e] at c;cases c
theorem Dn.step {S S':Sh} {sg:List (List Int)} {P:List Nat} {r r':Hp} (N:Dn S sg P r) (K:Kps S r S' r') {us:List Int} {w:Str} {hd:Int} {q:Nat} (e:S'.dn=S.dn++[.tup [.int hd,.str w,.ref (q+15)]]) (hq:r'[q]? = some (.list (us.map AV.int))) (q1:q∉S'.mv) (q2:q∉S'.cu) (q3:q∉P) (h1:sg.length=S.dn.length):Dn S' (sg++[us]) P r':=by
 intro d vs h
 rcases J8 h with h | ⟨rfl,rfl⟩
 ·obtain ⟨hd',w',q',b,c,d1,d2,d3⟩:=N d vs h
  obtain ⟨c',e1,e2⟩:=K q' _ d1 d2 c
  exact ⟨hd',w',q',by rw [e];exact zI b,c',e1,e2,d3⟩
 ·exact ⟨hd,w,q,by rw [e,h1];exact zK _ _ [],hq,q1,q2,q3⟩
structure Bs (hands:Int) (c k:Nat) (P:List Nat) (S:Sh) (mvs:List (List (Int×Int))) (cus sg:List (List Int)) (r:Hp):Prop where
 V:Iv S mvs cus sg
 D:Dy S mvs cus r
 N:Dn S sg P r
 p:∀ q∈P,q<r.length∧q∉S.mv∧q∉S.cu
 hd:S.hands=hands
 bb:S.b.length≤c+5 * k
 bl:S.le.length≤c+4 * k
 bn:S.dn.length≤k
 al:∀ d:Nat,d<S.dn.length→fl S.st d=false→(d:Int)∈S.lo
 lz:S.lo.length≤k
theorem z2z {st:List Bool} {lo:List Int} {m m':Nat} (h:st.length=m) (hm:m'=m+1) (al:∀ d:Nat,d<m→fl st d=false→(d:Int)∈lo):∀ d:Nat,d<m'→fl (st++[true]) d=false→(d:Int)∈lo:=fun d hd q=>by
 by_cases e:d<m
 ·exact al d e (by rw [jO (Int.natCast_nonneg _) (Int.ofNat_lt.mpr (h▸e))];exact q)
 ·have e:d=st.length:=by rw [h];exact Nat.le_antisymm (Nat.le_of_lt_succ (by rw [hm] at hd;exact hd)) (Nat.not_lt.mp e)
  subst e
  unfold fl at q
  rw [Int.toNat_natCast,List.getElem?_append_right (Nat.le_refl _),Nat.sub_self] at q
  cases q
theorem Ok1.tkl {S:Sh} (O:Ok1 S):S.sh.length=(tk S.b S.l).length∧S.sh.length<200:=by
 have h1:S.sh.length=(tk S.b S.l).length:=List.length_map _
 have h2:(tk S.b S.l).length≤S.l.length:=List.length_filter_le (fl S.b) S.l
 refine ⟨h1,?_⟩
 rw [h1]
 exact Nat.lt_of_le_of_lt h2 (O.G.len▸O.G.sm)
theorem Dy.ge {S:Sh} {mvs:List (List (Int×Int))} {cus:List (List Int)} {r:Hp} (D:Dy S mvs cus r) {q:Nat} (h:r.length≤q):q∉S.mv∧q∉S.cu :=
 ⟨fun m=>absurd (D.lt q (List.mem_append_left _ m)) (Nat.not_lt.mpr h),fun m=>absurd (D.lt q (List.mem_append_right _ m)) (Nat.not_lt.mpr h)⟩
theorem Kps.p {S S':Sh} {r r':Hp} {P:List Nat} (K:Kps S r S' r') (p:∀ q∈P,q<r.length∧q∉S.mv∧q∉S.cu):∀ q∈P,q<r'.length∧q∉S'.mv∧q∉S'.cu:=fun q h=>by
 obtain ⟨p1,p2,p3⟩:=p q h
 obtain ⟨a,b⟩:=K q _ p2 p3 (zu p1)
 exact ⟨(y7 a).1,b⟩
theorem Zz {a c m k:Nat} (h:a≤c+m * k):a≤c+m * (k+1):=Nat.le_trans h (Nat.add_le_add_left (Nat.mul_le_mul_left m (Nat.le_succ k)) c)
theorem Qt {a c m k j:Nat} (h:a≤c+m * k) (h':j≤m):a+j≤c+m * (k+1):=by rw [Nat.mul_succ,← Nat.add_assoc];exact Nat.add_le_add h h'
noncomputable def Dd (hd:Int) (S:Sh) (mvs:List (List (Int×Int))) (cus:List (List Int)) (S':Sh) (mvs':List (List (Int×Int))) (cus':List (List Int)):Deed→Prop
 | .put p ts=>S'.l=S.l.take (aP S.b S.l p)++zO S.b.length ts.length++S.l.drop (aP S.b S.l p)∧S'.b.length=S.b.length+ts.length∧S'.ow=S.ow++zO S.le.length ts.length∧S'.le=S.le++ts∧S'.fi=S.fi++zO S.b.length ts.length∧S'.br=S.br++List.replicate ts.length (.int S.dn.length) ∧
   mvs'=mvs++List.replicate ts.length []∧cus'=cus++List.replicate ts.length []
 | .cut i j=>S'.l=S.l∧S'.b.length=S.b.length∧S'.ow=S.ow∧S'.le=S.le∧S'.fi=S.fi∧S'.br=S.br∧mvs'=mvs∧cus'=yC S.st.length cus ((S.sh.take j.toNat).drop i.toNat)
 | .mov i j p=>S'.l=S.l.take (aP S.b S.l p)++zO S.b.length ((S.sh.take j.toNat).drop i.toNat).length++S.l.drop (aP S.b S.l p)∧S'.b.length=S.b.length+((S.sh.take j.toNat).drop i.toNat).length∧S'.ow=S.ow++(S.sh.take j.toNat).drop i.toNat∧S'.le=S.le∧S'.fi=S.fi∧S'.br=S.br ∧
   mvs'=yA S.st.length mvs S.b.length ((S.sh.take j.toNat).drop i.toNat)∧cus'=cus
noncomputable def Nt (hd:Int) (S S':Sh):Prop:=S'.st=S.st++[true]∧S'.lo=S.lo∧∃ t,S'.dn=S.dn++[.tup (.int hd::t)]
section
variable {T:Tab} {okf:Str→Str→Bool} (X:TT T okf) {n:Nat} {S:Sh} {r:Hp} {mvs:List (List (Int×Int))} {cus sg:List (List Int)} {P:List Nat} {hands:Int} {c k:Nat}
include X
theorem do_ (A:Bs hands c k P S mvs cus sg r) (hk:c+5 * k<190) {hd:Int} {d:Deed} (d0:0≤hd) (d1:hd<hands) (ok:d.ok S.sh.length) :
  ∃ S' mvs' cus' sg' r',run T (n+7) (.fn "_law_do") [.ref 1,d.av hd] (S.hp r)=.ok (.int S.dn.length) (Sh.hp S' r')∧Bs hands c (k+1) P S' mvs' cus' sg' r'∧Kps S r S' r'∧Nt hd S S'∧Dd hd S mvs cus S' mvs' cus' d:=by
 have I:=A.V.I
 obtain ⟨l1,l3⟩:=I.O.tkl
 have d1:hd<S.hands:=by rw [A.hd];exact d1
 have bb:=A.bb
 have bl:=A.bl
 have bn:=A.bn
 have k4:c+4 * k≤c+5 * k:=Nat.add_le_add_left (Nat.mul_le_mul_right k (by decide)) c
 have hs:S.s1.st.length<200:=by
  rw [QP,I.st]
  exact Nat.lt_of_le_of_lt (Nat.succ_le_succ (Nat.le_trans bn (Nat.le_trans (Nat.le_mul_of_pos_left k (by decide)) (Nat.le_add_left _ _)))) (Nat.lt_of_lt_of_le (Nat.succ_lt_succ hk) (by decide))
 have hb:S.b.length+10<200:=Nat.add_lt_add_right (Nat.lt_of_le_of_lt bb hk) 10
 have he:S.le.length+4<200:=Nat.lt_of_lt_of_le (Nat.add_lt_add_right (Nat.lt_of_le_of_lt (Nat.le_trans bl k4) hk) 4) (by decide)
 have np:∀ {q:Nat},r.length≤q→q∉P:=fun h m=>absurd (A.p _ m).1 (Nat.not_lt.mpr h)
 have dnl:∀ x:AV,(S.dn++[x]).length≤k+1:=fun x=>by rw [zT];exact Nat.succ_le_succ bn
 have als:∀ x:AV,∀ d:Nat,d<(S.dn++[x]).length→fl (S.st++[true]) d=false→(d:Int)∈S.lo:=fun x=>z2z I.st (by rw [zT];rfl) A.al
 have lzs:=Nat.le_succ_of_le A.lz
 rw [ya X.kB1]
 cases d with
 | put p ts =>
  obtain ⟨p0,p1,okt,ne,c4⟩:=ok
  have hb':=QI hb (Nat.le_trans c4 (by decide))
  have he':=QI he c4
  obtain ⟨r',i,q,x,hi,_,e,D',kp,hq,q',eq',lq',rfl,hq'⟩:=zEk X (n:=n) I.O I.K A.D I.st d0 d1 p0 (by rw [← l1];exact p1) okt ne (Nat.le_trans c4 (by decide)) hb' he' hs
  have mem:∀ {q':Nat} {f:Nat→Nat} {l:List Nat},q'∈l++(List.range ts.length).map f→(∀ j,q'≠f j)→q'∈l:=fun hm hf=>by
   rcases yn hm with hm | hm
   ·exact hm
   ·obtain ⟨k,_,hk⟩:=List.mem_map.mp hm
    exact absurd hk.symm (hf k)
  have K:Kps S r ({ S.s1.adds i (.int S.dn.length) q ts with b:=ye (S.s1.adds i (.int S.dn.length) q ts) (mvs++List.replicate ts.length []) (cus++List.replicate ts.length []) (S.s1.adds i (.int S.dn.length) q ts).b (zO S.le.length ts.length),dn:=S.dn++[.tup [.int hd,.str "put",.ref (q'+15)]] }:Sh) r':=by
   intro q' o a c h
   have hl:=(y7 h).1
   refine ⟨kp q' o a c h,fun hm=>a (mem hm fun j e=>?_),fun hm=>c (mem hm fun j e=>?_)⟩
   ·exact absurd hl (Nat.not_lt.mpr (e▸Nat.le_trans hq (Nat.le_add_right _ _)))
   ·exact absurd hl (Nat.not_lt.mpr (e▸Nat.le_trans hq (Nat.le_trans (Nat.le_add_right _ _) (Nat.le_succ _))))
  have lB:(ye (S.s1.adds i (.int S.dn.length) q ts) (mvs++List.replicate ts.length []) (cus++List.replicate ts.length []) (S.s1.adds i (.int S.dn.length) q ts).b (zO S.le.length ts.length)).length=S.b.length+ts.length:=by
   rw [yw]
   show (S.b++List.replicate ts.length true).length=_
   rw [zT,List.length_replicate]
  refine ⟨_,_,_,_,r',?_,⟨A.V.put hs hb' he',⟨D'.ml,D'.cl,D'.m,D'.c,D'.nd⟩,A.N.step K rfl hq' (fun hm=>(A.D.ge lq').1 (mem hm fun j e=>?_)) (fun hm=>(A.D.ge lq').2 (mem hm fun j e=>?_)) (np lq') I.sl,K.p A.p,A.hd,?_,?_,dnl _,als _,lzs⟩,K,⟨rfl,rfl,_,rfl⟩,?_⟩
  ·refine zM (fr:=[some (.ref 1),some (Deed.av hd (.put p ts)),none,none,none,none,none,none]) rfl rfl (fr':=[some (.ref 1),some (Deed.av hd (.put p ts)),some (.int hd),some (.str "put"),some (.int 0),some (.int 0),some (.int p),some (.str (tx ts))]) ?_
   unfold kB1
   dsimp only
   refine (z7 (Z7 (z5 rfl) rfl)).trans ?_
   exact zL ((zi (zS (z5 rfl) rfl zCh)).trans (zL (zm (zP (a:=1) (z5 rfl) rfl zBt (ev1 (z5 rfl) (ev1 (z5 rfl) (ev1 (z5 rfl) ev0))) e))))
  ·lia
  ·lia
  ·rw [lB];exact Qt bb (Nat.le_trans c4 (by decide))
  ·show (S.le++ts).length≤_
   rw [zT];exact Qt bl c4
  ·subst hi;exact ⟨rfl,lB,rfl,rfl,rfl,rfl,rfl,rfl⟩
 | cut i j =>
  obtain ⟨i0,i1,j1⟩:=ok
  obtain ⟨r',x,e,D',kp,q',lq',rfl,hq'⟩:=zEp X (n:=n) I.O I.K A.D I.st A.V.sh_nodup d0 d1 i0 i1 (by rw [← l1];exact j1) hs
  have nd:((S.sh.take j.toNat).drop i.toNat).Nodup:=(A.V.sh_nodup.sublist (List.take_sublist _ _)).sublist (List.drop_sublist _ _)
  have hi:=wS I.O (i:=i.toNat) (j:=j.toNat)
  have K:Kps S r ({ S.s1 with b:=ye S.s1 mvs (yC S.st.length cus ((S.sh.take j.toNat).drop i.toNat)) S.b ((S.sh.take j.toNat).drop i.toNat),dn:=S.dn++[.tup [.int hd,.str "cut",.ref (q'+15)]] }:Sh) r':=fun q o a c h=>⟨kp q o a c h,a,c⟩
  refine ⟨_,_,_,_,r',?_,⟨A.V.cut nd hi hs,⟨D'.ml,D'.cl,D'.m,D'.c,D'.nd⟩,A.N.step K rfl hq' (A.D.ge lq').1 (A.D.ge lq').2 (np lq') I.sl,K.p A.p,A.hd,?_,Zz bl,dnl _,als _,lzs⟩,K,⟨rfl,rfl,_,rfl⟩,rfl,yw _ _,rfl,rfl,rfl,rfl,rfl,rfl⟩
  ·refine zM (fr:=[some (.ref 1),some (Deed.av hd (.cut i j)),none,none,none,none,none,none]) rfl rfl (fr':=[some (.ref 1),some (Deed.av hd (.cut i j)),some (.int hd),some (.str "cut"),some (.int i),some (.int j),some (.int 0),some (.str "")]) ?_
   unfold kB1
   dsimp only
   refine (z7 (Z7 (z5 rfl) rfl)).trans ?_
   refine (z7 ((zH (zS (z5 rfl) rfl zCk)).trans zE)).trans ?_
   exact zL ((zi (zS (z5 rfl) rfl zCl)).trans (zL (zm (zP (a:=1) (z5 rfl) rfl zBu (ev1 (z5 rfl) (ev1 (z5 rfl) (ev1 (z5 rfl) ev0))) e))))
  ·show (ye _ _ _ _ _).length≤_
   rw [yw];exact Zz bb
 | mov i j p =>
  obtain ⟨i0,i1,j1,j5,p0,p1,hp⟩:=ok
  obtain ⟨r',x,at_,ha,_,e,D',kp,q',lq',rfl,hq'⟩:=zDy X (n:=n) I.O I.K A.D I.st A.V.sh_nodup d0 d1 i0 i1 (by rw [← l1];exact j1) p0 (by rw [← l1];exact p1) hp hs hb j5
  have nd:((S.sh.take j.toNat).drop i.toNat).Nodup:=(A.V.sh_nodup.sublist (List.take_sublist _ _)).sublist (List.drop_sublist _ _)
  have hi:=wS I.O (i:=i.toNat) (j:=j.toNat)
  have l5:((S.sh.take j.toNat).drop i.toNat).length≤5:=by rw [List.length_drop,List.length_take];exact zB9 i0 i1 j5
  have lB:(ye S.s1 (yA S.st.length mvs S.b.length ((S.sh.take j.toNat).drop i.toNat)) cus (S.s1.mov at_ ((S.sh.take j.toNat).drop i.toNat)).b ((S.sh.take j.toNat).drop i.toNat)).length=S.b.length+((S.sh.take j.toNat).drop i.toNat).length:=by
   rw [yw]
   show (S.b++List.replicate _ false).length=_
   rw [zT,List.length_replicate]
  have K:Kps S r ({ S.s1.mov at_ ((S.sh.take j.toNat).drop i.toNat) with b:=ye S.s1 (yA S.st.length mvs S.b.length ((S.sh.take j.toNat).drop i.toNat)) cus (S.s1.mov at_ ((S.sh.take j.toNat).drop i.toNat)).b ((S.sh.take j.toNat).drop i.toNat),dn:=S.dn++[.tup [.int hd,.str "move",.ref (q'+15)]] }:Sh) r':=fun q o a c h=>⟨kp q o a c h,a,c⟩
  refine ⟨_,_,_,_,r',?_,⟨A.V.mov nd hi hs (QI hb (Nat.le_trans l5 (by decide))),⟨D'.ml,D'.cl,D'.m,D'.c,D'.nd⟩,A.N.step K rfl hq' (A.D.ge lq').1 (A.D.ge lq').2 (np lq') I.sl,K.p A.p,A.hd,?_,Zz bl,dnl _,als _,lzs⟩,K,⟨rfl,rfl,_,rfl⟩,by subst ha;exact ⟨rfl,lB,rfl,rfl,rfl,rfl,rfl,rfl⟩⟩
  ·refine zM (fr:=[some (.ref 1),some (Deed.av hd (.mov i j p)),none,none,none,none,none,none]) rfl rfl (fr':=[some (.ref 1),some (Deed.av hd (.mov i j p)),some (.int hd),some (.str "move"),some (.int i),some (.int j),some (.int p),some (.str "")]) ?_
   unfold kB1
   dsimp only
   refine (z7 (Z7 (z5 rfl) rfl)).trans ?_
   refine (z7 ((zH (zS (z5 rfl) rfl zCi)).trans zE)).trans ?_
   refine (z7 ((zH (zS (z5 rfl) rfl zCj)).trans zE)).trans ?_
   exact zL (zm (zP (a:=1) (z5 rfl) rfl z2a (ev1 (z5 rfl) (ev1 (z5 rfl) (ev1 (z5 rfl) (ev1 (z5 rfl) ev0)))) e))
  ·rw [lB];exact Qt bb l5
end
noncomputable def Tn (d:Nat) (S S':Sh):Prop:=∃ lo b,S'=(S.wl (S.st.set d (!fl S.st d)) lo).wb b∧b.length=S.b.length∧(fl S.st d=true→lo=S.lo++[(d:Int)])∧(fl S.st d=false→∃ j,S.lo.findIdx? (· == (d:Int))=some j∧lo=S.lo.eraseIdx j)
theorem Yy {st:List Bool} {d:Nat} {v:Bool} (h:d<st.length):fl (st.set d v) d=v:=by
 unfold fl;rw [Int.toNat_natCast,List.getElem?_set_self h];rfl
section
variable {S:Sh} {r:Hp} {mvs:List (List (Int×Int))} {cus sg:List (List Int)} {P:List Nat} {hands:Int} {c k:Nat}
theorem Bs.up (A:Bs hands c k P S mvs cus sg r):Bs hands c (k+1) P S mvs cus sg r:=⟨A.V,A.D,A.N,A.p,A.hd,Zz A.bb,Zz A.bl,Nat.le_succ_of_le A.bn,A.al,Nat.le_succ_of_le A.lz⟩
theorem Bs.grow (A:Bs hands c k P S mvs cus sg r) (g:Hp) {P':List Nat} (hP:∀ q∈P',q∈P∨(r.length≤q∧q<(r++g).length)):Bs hands c k P' S mvs cus sg (r++g):=by
 refine ⟨A.V,A.D.grow g,fun d us h=>?_,fun q hq=>?_,A.hd,A.bb,A.bl,A.bn,A.al,A.lz⟩
 ·obtain ⟨hd',w,q,b,c,e1,e2,e3⟩:=A.N d us h
  refine ⟨hd',w,q,b,zI c,e1,e2,fun m=>?_⟩
  rcases hP q m with m | m
  ·exact e3 m
  ·exact absurd (y7 c).1 (Nat.not_lt.mpr m.1)
 ·rcases hP q hq with m | m
  ·obtain ⟨p1,p2⟩:=A.p q m
   exact ⟨by rw [zT];exact Nat.lt_of_lt_of_le p1 (Nat.le_add_right _ _),p2⟩
  ·exact ⟨m.2,A.D.ge m.1⟩
theorem Xo {st:List Bool} {lo:List Int} {b:List Bool} {g:Hp}:Kps S r ((S.wl st lo).wb b) (r++g):=fun q o a c h=>⟨zI h,a,c⟩
theorem Wq {l:List Int} {j:Nat} {x d:Int} (hj:l.findIdx? (· == d)=some j) (hx:x∈l) (ne:x≠d):x∈l.eraseIdx j:=by
 obtain ⟨i,hi⟩:=List.getElem?_of_mem hx
 refine List.mem_eraseIdx_iff_getElem?.mpr ⟨i,fun e=>?_,hi⟩
 subst e
 have h:=List.findIdx?_eq_some_iff_getElem.mp hj
 rw [zu h.1] at hi
 cases hi
 exact ne (beq_iff_eq.mp h.2.1)
theorem Bs.at_ (A:Bs hands c k P S mvs cus sg r) {d:Nat} (h:d<S.dn.length):∃ us hd w q,sg[d]? = some us∧S.dn[d]? = some (.tup [.int hd,.str w,.ref (q+15)])∧r[q]? = some (.list (us.map AV.int))∧∀ i∈us,0≤i∧i<S.le.length:=by
 have e:=zu (l:=sg) (i:=d) (by rw [A.V.I.sl];exact h)
 obtain ⟨hd,w,q,a,b,_⟩:=A.N d _ e
 exact ⟨_,hd,w,q,e,a,b,A.V.I.sr _ (yF e)⟩
theorem Bs.flip (A:Bs hands c k P S mvs cus sg r) {st:List Bool} {lo:List Int} {b:List Bool} {g:Hp} (V:Iv ((S.wl st lo).wb b) mvs cus sg) (hb:b.length=S.b.length) (al:∀ d:Nat,d<S.dn.length→fl st d=false→(d:Int)∈lo) (lz:lo.length≤k+1):Bs hands c (k+1) P ((S.wl st lo).wb b) mvs cus sg (r++g):=by
 have B:=A.up.grow g (P':=P) fun q h=>.inl h
 exact ⟨V,⟨B.D.ml,B.D.cl,B.D.m,B.D.c,B.D.nd⟩,B.N,B.p,B.hd,by show b.length≤_;rw [hb];exact B.bb,B.bl,B.bn,al,lz⟩
variable {T:Tab} {okf:Str→Str→Bool} (X:TT T okf) {n:Nat}
include X
theorem zCn (A:Bs hands c k P S mvs cus sg r) (hk:k<200) {d:Nat} (hd:d<S.dn.length) :
  ∃ S' r',(fl S.st d=true→run T (n+5) (.meth "Sheet" "take_back") [.ref 1,.int d] (S.hp r)=.ok .none (Sh.hp S' r'))∧(fl S.st d=false→run T (n+5) (.meth "Sheet" "do_again") [.ref 1,.int d] (S.hp r)=.ok .none (Sh.hp S' r')) ∧
   Bs hands c (k+1) P S' mvs cus sg r'∧Kps S r S' r'∧Tn d S S':=by
 obtain ⟨us,hd',w,q,e1,e3,e4,e5⟩:=A.at_ hd
 have hl:d<S.st.length:=by rw [A.V.I.st];exact hd
 cases hv:fl S.st d with
 | true =>
  obtain ⟨g,e⟩:=QJ X (n:=n) A.V.I A.D hv e3 e4 e5 (Nat.lt_of_le_of_lt A.lz hk)
  refine ⟨_,_,fun _=>e,fun h=>(nomatch h),A.flip (A.V.flip e1) (yw _ _) (fun x x1 x2=>?_) (by rw [zT];exact Nat.succ_le_succ A.lz),Xo,?tn⟩
  case tn=>exact ⟨_,_,by rw [hv];rfl,yw _ _,fun _=>rfl,fun h=>by rw [hv] at h;cases h⟩
  by_cases q:x=d
  ·subst q;exact List.mem_append_right _ (.head _)
  ·refine List.mem_append_left _ (A.al x x1 ?_)
   rw [← x2];exact qm (Int.natCast_nonneg _) fun e=>q (Int.ofNat.inj e)
 | false =>
  have hm:=A.al d hd hv
  obtain ⟨j,hj⟩:∃ j,S.lo.findIdx? (· == (d:Int))=some j:=⟨_,jE hm⟩
  obtain ⟨g,e⟩:=Ws X (n:=n) A.V.I A.D hv e3 e4 e5 hj
  refine ⟨_,_,fun h=>(nomatch h),fun _=>e,A.flip (A.V.flip e1) (yw _ _) (fun x x1 x2=>?_) (Nat.le_trans (List.length_eraseIdx_le _ _) (Nat.le_succ_of_le A.lz)),Xo,?tn⟩
  case tn=>exact ⟨_,_,by rw [hv];rfl,yw _ _,(fun h=>by rw [hv] at h;exact nob h),fun _=>⟨j,hj,rfl⟩⟩
  by_cases q:x=d
  ·subst q;rw [Yy hl] at x2;cases x2
  ·refine Wq hj (A.al x x1 ?_) fun e=>q (Int.ofNat.inj e)
   rw [← x2];exact qm (Int.natCast_nonneg _) fun e=>q (Int.ofNat.inj e)
end
set_option genInjectivity false
set_option genSizeOf false
section
variable {cf:CF} {fr:AFr} {h h1 h2 h3 h4 h5:Hp} {x y l u o:XE} {v w a b c:AV} {okf:Str→Str→Bool}
theorem wx {op:CmpOp} {c:Bool} (e:x cf fr h=.ok v h1) (e':y cf fr h1=.ok w h2) (eb:yZ op v w h2=some c):qq x [op] [y] cf fr h=.ok (.bool c) h2:=by
 unfold qq;rw [zS e e' eb];rfl
theorem Jd (e:x cf fr h=.ok v h1) (eo:o cf fr h1=.ok w h2) (el:l cf fr h2=.ok a h3) (eu:u cf fr h3=.ok b h4) (es:wL h4 w a b v=some h5):z9 okf (.cut o l u) x cf fr h=.ok .next fr h5:=by
 show (x cf fr h).bindS fr _=_
 rw [e]
 show (o cf fr h1).bindS fr _=_
 rw [eo]
 show (l cf fr h2).bindS fr _=_
 rw [el]
 show (u cf fr h3).bindS fr _=_
 rw [eu]
 show (match wL h4 w a b v with
  | some h₅=>OS.ok .next fr h₅
  | none=>.stuck)=_
 rw [es]
theorem Jc {ks:List Str} {xs:List XE} {vs:List AV} (e:evs xs cf fr h=.ok vs h1):jw ks xs cf fr h=.ok (.ref h1.length) (h1++[.dicS (ks.zip vs)]):=by
 show (evs xs cf fr h).bind0 _=_
 rw [e];rfl
theorem z33 {i:Int} (e:x cf fr h=.ok (.int i) h1):Q9 x cf fr h=.ok (.int (-i)) h1:=by
 show (x cf fr h).bind _=_
 rw [e];rfl
end
theorem xR {K:Type} [DecidableEq K] {a i:K} {u:AV} {kvs:List (K×AV)}:yb ((a,u)::kvs) i=if a=i then some u else yb kvs i:=by
 unfold yb
 by_cases h:a=i
 ·rw [if_pos h,List.find?_cons_of_pos (p:=fun kv:K×AV=>decide (kv.1=i)) (decide_eq_true h)];rfl
 ·rw [if_neg h,List.find?_cons_of_neg (p:=fun kv:K×AV=>decide (kv.1=i)) (by show ¬ decide (a=i)=true;rw [decide_eq_false h];exact Bool.false_ne_true)]
section
variable {h:Hp} {a:Nat} {kvs:List (Int×AV)} {i j:Int} {u v:AV}
theorem z0n (e:h[a]? = some (.dict kvs)):yl h a=some kvs:=by unfold yl;rw [e]
theorem qi (e:h[a]? = some (.dict kvs)):qj h (.ref a) (.int i)=yb kvs i:=by
 show (match yl h a with
  | some kvs=>yb kvs i
  | none=>_)=_
 rw [z0n e]
theorem JU (e:h[a]? = some (.dict kvs)) (z:kvs.length<small):qH h (.ref a) (.int i) v=some (h.set a (.dict (xT kvs i v))):=by
 rw [Z3,e];exact if_pos z
theorem Zp (e:h[a]? = some (.dict kvs)):yZ .NotIn (.int i) (.ref a) h=some (!(yb kvs i).isSome):=by
 show (match yl h a with
  | some kvs=>some (yb kvs i).isSome
  | none=>_).map (!·)=_
 rw [z0n e];rfl
theorem X0 {kv:List (Str×AV)} (e:h[a]? = some (.dicS kv)):qT h a=some kv:=by unfold qT;rw [e]
theorem z2m {kv:List (Str×AV)} {x:Str} (e:h[a]? = some (.dicS kv)) (e':yb kv x=some v):qj h (.ref a) (.str x)=some v:=by
 show (qT h a).bind (fun kvs=>yb kvs x)=_
 rw [X0 e];exact e'
theorem z1x {kv:List (Str×AV)} {x:Str} (e:h[a]? = some (.dicS kv)) (z:kv.length<100):qH h (.ref a) (.str x) v=some (h.set a (.dicS (xT kv x v))):=by
 show (qT h a).bind (fun kvs=>if kvs.length<100 then some (h.set a (.dicS (xT kvs x v))) else none)=_
 rw [X0 e];exact if_pos z
theorem z1c {b:Nat} {kv more:List (Str×AV)} (e:h[a]? = some (.dicS kv)) (e':h[b]? = some (.dicS more)) (z:kv.length+more.length≤100) (ne:a≠b):ofP (meD .update a [.ref b] h)=.ok .none (h.set a (.dicS (more.foldl (fun acc kv=>xT acc kv.1 kv.2) kv))):=by
 show ofP ((qT h a).bind fun kvs=>(qT h b).bind fun more=>if kvs.length+more.length≤100∧a≠b then some (AV.none,h.set a (.dicS (more.foldl (fun acc kv=>xT acc kv.1 kv.2) kvs))) else none)=_
 rw [X0 e]
 show ofP ((qT h b).bind _)=_
 rw [X0 e']
 show ofP (if _ then _ else _)=_
 rw [if_pos ⟨z,ne⟩];rfl
theorem je {b:Nat} {xs ys:List AV} (e:h[a]? = some (.list xs)) (e':h[b]? = some (.list ys)) (z:xs.length+ys.length≤small):Zy .Add (.ref a) (.ref b) h=.ok (.ref h.length) (h++[.list (xs++ys)]):=by
 show ofP ((ze h a).bind fun xs=>(ze h b).bind fun ys=>if xs.length+ys.length≤small then some (AV.ref h.length,h++[.list (xs++ys)]) else none)=_
 rw [xy e]
 show ofP ((ze h b).bind _)=_
 rw [xy e']
 show ofP (if _ then _ else _)=_
 rw [if_pos z];rfl
theorem Xa {k:Int} (e:h[a]? = some (.list [v])) (k0:0≤k) (k1:k≤1048576):Zy .Mult (.ref a) (.int k) h=.ok (.ref h.length) (h++[.list (List.replicate k.toNat v)]):=by
 show ofP ((ze h a).bind fun xs=>(xv xs).bind fun x=>if 0≤k∧k≤1048576 then some (AV.ref h.length,h++[.list (List.replicate k.toNat x)]) else none)=_
 rw [xy e]
 show ofP (if _ then _ else _)=_
 rw [if_pos ⟨k0,k1⟩];rfl
theorem Xj {x:Str} (z:(yt x).length≤small):xI .list [.str x] h=.ok (.ref h.length) (h++[.list (yt x)]):=by
 show ofP (if (yt x).length≤small then _ else _)=_
 rw [if_pos z];rfl
theorem Qb (z:(xB i j).length≤small):xI .list [.range i j] h=.ok (.ref h.length) (h++[.list (xB i j)]):=by
 show ofP (if (xB i j).length≤small then _ else _)=_
 rw [if_pos z];rfl
theorem Wy (z:i.natAbs<2 ^ 62∧j.natAbs<2 ^ 62):xI .range [.int i,.int j] h=.ok (.range i j) h:=by
 show ofP (if i.natAbs<2 ^ 62∧j.natAbs<2 ^ 62 then _ else _)=_
 rw [if_pos z];rfl
theorem zCa {b:Bool}:xI .int [.bool b] h=.ok (.int (if b then 1 else 0)) h:=rfl
theorem Yv {xs:List AV} {k:Nat} (e:h[a]? = some (.list xs)) (z:xs.length≤small) (hk:k<xs.length) (hv:xs[xs.length - 1 - k]? = some v):qj h (.ref a) (.int (-(k:Int) - 1))=some v:=by
 have ng:¬ okI (-(k:Int) - 1)=true:=fun q=>by have:=(yQ.mp q).1;lia
 show (match yl h a with
  | some kvs=>yb kvs (-(k:Int) - 1)
  | none=>if okI (-(k:Int) - 1)=true then _ else (ze h a).bind fun xs=>if xs.length≤small∧0≤(xs.length:Int)+(-(k:Int) - 1) then xs[((xs.length:Int)+(-(k:Int) - 1)).toNat]? else none)=_
 rw [show yl h a=none from by unfold yl;rw [e]]
 dsimp only
 rw [if_neg ng,xy e]
 show (if xs.length≤small∧0≤(xs.length:Int)+(-(k:Int) - 1) then xs[((xs.length:Int)+(-(k:Int) - 1)).toNat]? else none)=_
 rw [if_pos ⟨z,by lia⟩,show ((xs.length:Int)+(-(k:Int) - 1)).toNat=xs.length - 1 - k by lia]
 exact hv
theorem WL {is:List Int} (e:h[a]? = some (.list (is.map AV.int))):yZ .In (.int i) (.ref a) h=some (decide (i∈is)):=by
 show (match yl h a with
  | some kvs=>(yG (.int i)).map fun k=>(yb kvs k).isSome
  | none=>(Yl h (.ref a)).bind fun ds=>(toD h 8 (.int i)).map fun x=>ds.any fun y=>PyData.eqv y x)=_
 rw [show yl h a=none from by unfold yl;rw [e]]
 dsimp only
 rw [jC e,jT]
 show some ((is.map PyData.int).any fun y=>PyData.eqv y (.int i))=_
 refine congrArg some ?_
 clear e
 induction is with
 | nil=>rfl
 | cons x is ih =>
  rw [List.map_cons,List.any_cons,ih]
  show ((x == i) || decide (i∈is))=decide (i∈x::is)
  rw [ZF,← Bool.decide_or]
  exact decide_eq_decide.mpr ⟨fun h=>h.elim (fun e=>e▸.head _) (.tail _),fun h=>by cases h with | head=>exact .inl rfl | tail _ h=>exact .inr h⟩
theorem z1y {b k:Nat} {xs ys:List AV} (e:h[a]? = some (.list xs)) (e':h[b]? = some (.list ys)) (ne:a≠b) (hk:k≤xs.length) (z:xs.length+ys.length≤small):wL h (.ref a) (.int k) (.int k) (.ref b)=some (h.set a (.list (xs.take k++ys++xs.drop k))):=by
 show (ze h a).bind (fun xs=>(ze h b).bind fun ys=>if (k:Int)=k∧0≤(k:Int)∧(k:Int)≤xs.length∧a≠b∧xs.length+ys.length≤small then some (h.set a (.list (xs.take (k:Int).toNat++ys++xs.drop (k:Int).toNat))) else none)=_
 rw [xy e]
 show (ze h b).bind _=_
 rw [xy e']
 exact if_pos ⟨rfl,Int.natCast_nonneg _,Int.ofNat_le.mpr hk,ne,z⟩
theorem z0g {b:Nat} {xs ys:List AV} (e:h[a]? = some (.list xs)) (e':h[b]? = some (.list ys)) (z:xs.length+ys.length<small):yP .extend (.ref a) [.ref b] h=.ok .none (h.set a (.list (xs++ys))):=by
 rw [YF,e]
 show ofP ((ze h b).bind fun ys=>if xs.length+ys.length<small then some (AV.none,h.set a (.list (xs++ys))) else none)=_
 rw [xy e']
 show ofP (if _ then _ else _)=_
 rw [if_pos z];rfl
end
section
variable {T:Tab} {okf:Str→Str→Bool} (X:TT T okf) {n:Nat} {l:List Int} {b:List Bool} {r:Hp} {o0 o1 o2:AO}
include X
theorem YA {fr:AFr} {k:Nat} {x:Int} (f0:fr[0]? = some (some (.ref 3))) (fk:fr[k]? = some (some (.int x))) (hx:x∈l):zB (zG (z6 0) "line") "index" (some .index) [(z6 k)] (run T n) fr (H o0 o1 o2 l b r)=.ok (.int (pos l x:Nat)) (H o0 o1 o2 l b r):=by
 refine ww (zb (z5 f0) rfl lk1) (ys:=l.map AV.int) rfl (ev1 (z5 fk) ev0) ?_
 rw [jI]
 show (match wV (H o0 o1 o2 l b r) (.ref 4) (.int x) with | some k=>Out.ok (AV.int k) _ | none=>.stuck)=_
 rw [jY (l:=l) rfl,jE hx]
theorem Y4 {x y:Int} (x0:0≤x) (x1:x<b.length) (y0:0≤y) (y1:y<b.length) (hx:x∈l) (hy:y∈l) :
  run T (n+3) (.meth "Row" "is_ahead") [.ref 3,.int x,.int y] (H o0 o1 o2 l b r)=.ok (.bool (decide (pos l x<pos l y))) (H o0 o1 o2 l b r):=by
 rw [zW X.kAt]
 exact zM (fr:=[some (.ref 3),some (.int x),some (.int y)]) rfl rfl (fr':=[some (.ref 3),some (.int x),some (.int y)])
  ((z7 (zn (zP (a:=3) (z5 rfl) rfl lk3 (ev1 (z5 rfl) ev0) (xl X (n:=n) x0 x1)))).trans ((z7 (zn (zP (a:=3) (z5 rfl) rfl lk3 (ev1 (z5 rfl) ev0) (xl X (n:=n) y0 y1)))).trans
   (zL (zm (wx (YA X rfl rfl hx) (YA X rfl rfl hy) (by rw [yU];exact congrArg some (decide_eq_decide.mpr Int.ofNat_lt)))))))
end
theorem Xd {h:Int}:List.lookup ("is_ahead" : Str) (fS h)=none:=rfl
noncomputable def Sh.Pv (S:Sh) (mvs:List (List (Int×Int))) (cus:List (List Int)) (i:Int):AV:=.tup [.int (S.pl mvs i:Nat),.bool (S.shw cus i)]
section
variable {T:Tab} {okf:Str→Str→Bool} (X:TT T okf) {n:Nat} {S:Sh} {r:Hp} {mvs:List (List (Int×Int))} {cus sg:List (List Int)}
include X
theorem Jf (I:Iw S mvs cus sg) (D:Dy S mvs cus r) {i:Int} (h0:0≤i) (h1:i<S.le.length):∃ g,run T (n+4) (.meth "Sheet" "place_of") [.ref 1,.int i] (S.hp r)=.ok (S.Pv mvs cus i) (S.hp (r++g)) :=
 Wa X I D h0 h1 (jE (I.cur_mem h0 h1).1)
theorem Wl (I:Iw S mvs cus sg) (D:Dy S mvs cus r) {i j:Int} (i0:0≤i) (i1:i<S.le.length) (j0:0≤j) (j1:j<S.le.length) :
  run T (n+4) (.meth "Sheet" "is_ahead") [.ref 1,.int i,.int j] (S.hp r)=.ok (.bool (decide (S.at_ mvs i<S.at_ mvs j))) (S.hp r):=by
 obtain ⟨_,a0,a1⟩:=X2 X I i0 i1
 obtain ⟨_,b0,b1⟩:=X2 X I j0 j1
 have e:run T (n+3) (.meth "Row" "is_ahead") [.ref 3,.int (S.cur mvs i),.int (S.cur mvs j)] (S.hp r)=.ok (.bool (decide (S.at_ mvs i<S.at_ mvs j))) (S.hp r) :=
  Y4 X (n:=n) (o0:=S.g0) (o1:=.inst "Sheet" (fS S.hands)) (o2:=S.g2) (r:=S.tl r) a0 a1 b0 b1 (I.cur_mem i0 i1).1 (I.cur_mem j0 j1).1
 rw [zW X.kAj]
 exact zM (fr:=[some (.ref 1),some (.int i),some (.int j)]) rfl rfl (fr':=[some (.ref 1),some (.int i),some (.int j)])
  ((z7 (zn (zP (a:=1) (z5 rfl) rfl qy (ev1 (z5 rfl) ev0) (wz X (n:=n+1) i0 i1)))).trans ((z7 (zn (zP (a:=1) (z5 rfl) rfl qy (ev1 (z5 rfl) ev0) (wz X (n:=n+1) j0 j1)))).trans
   (zL (zm (zP (a:=3) (zb (z5 rfl) rfl kS2) rfl Xh (ev1 (zP (a:=1) (z5 rfl) rfl qx (ev1 (z5 rfl) ev0) (jD X (n:=n+2) I.K D i0 i1)) (ev1 (zP (a:=1) (z5 rfl) rfl qx (ev1 (z5 rfl) ev0) (jD X (n:=n+2) I.K D j0 j1)) ev0)) e)))))
end
theorem wa {h:Hp} {a:Nat} {xs:List AV} (e:h[a]? = some (.list xs)):yk h (.ref a)=some (.ref a,xs.length):=by
 show (match h[a]? with | some (.list xs)=>some (Src.ref a,xs.length) | _=>none)=_
 rw [e]
theorem xw {h:Hp} {a k:Nat} {xs:List AV} (e:h[a]? = some (.list xs)):(Src.ref a).next? h k=some xs[k]? := by
 show (match h[a]? with | some (.list ys)=>some ys[k]? | _=>none)=_
 rw [e]
theorem Qh {h:Hp} {a:Nat} {xs:List AV} {i:Int} {v:AV} (e:h[a]? = some (.list xs)) (o:okI i=true) (hv:xs[i.toNat]? = some v):qj h (.ref a) (.int i)=some v:=by
 rw [qA o,e];exact hv
theorem qF {t:XT} {cf:CF} {fr:AFr} {h h1:Hp} {b:Bool} (e:t cf fr h=.ok b h1):zQ .And [t] cf fr h=.ok b h1:=by
 cases b with
 | true=>exact xD e qw
 | false=>exact xC e
theorem yc {h:Hp} {n a:Nat} {xs:List AV} {ds:List PyData} (e:h[a]? = some (.list xs)) (e':yT (toD h n) xs=some ds):toD h (n+1) (.ref a)=some (.list ds):=by
 show (match ze h a with
   | some xs=>(yT (toD h n) xs).map PyData.list
   | none=>none)=_
 rw [xy e]
 show (yT (toD h n) xs).map PyData.list=_
 rw [e'];rfl
theorem ZH {h:Hp} {n a:Nat} {l:List Int} (e:h[a]? = some (.list (l.map AV.int))):toD h (n+1) (.ref a)=some (.list (l.map PyData.int)):=yc e (jT h n l)
theorem z03 (l:List Int):PyData.canLayAll0 (l.map PyData.int)=true:=by
 induction l with
 | nil=>rfl
 | cons x l ih=>rw [List.map_cons,PyData.canLayAll0,ih];rfl
theorem Qm {h:Hp} {v w:AV} {d:PyData} (e:toD h 8 v=some d) (e':toD h 8 w=some d) (c:d.canLay0=true):yZ .Eq v w h=some true∧yZ .NotEq v w h=some false:=by
 refine ⟨?_,?_⟩
 ·rw [xz,jB e e',SeqAt.eqv_refl d c]
 ·rw [jc,jB e e',SeqAt.eqv_refl d c];rfl
theorem WG {h:Hp} {a b:Nat} {l:List Int} (e:h[a]? = some (.list (l.map AV.int))) (e':h[b]? = some (.list (l.map AV.int))):yZ .NotEq (.ref a) (.ref b) h=some false:=(Qm (ZH e) (ZH e') (z03 l)).2
theorem zDu {h:Hp} {S:Sh} {mvs:List (List (Int×Int))} {cus:List (List Int)} {i:Int}:yZ .NotEq (S.Pv mvs cus i) (S.Pv mvs cus i) h=some false:=(Qm (d:=.tuple [.int (S.pl mvs i:Nat),.bool (S.shw cus i)]) rfl rfl rfl).2
theorem zBp {h:Hp} {i:Int}:yZ .NotEq (.int i) (.int i) h=some false:=(Qm (d:=.int i) rfl rfl rfl).2
set_option genInjectivity false
set_option genSizeOf false
noncomputable abbrev En:=Int×Option Int
noncomputable def oA:Option Int→AV
 | none=>.none
 | some d=>.int d
noncomputable abbrev eA (e:En):AV:=.tup [.int e.1,oA e.2]
noncomputable def dAt (mvs:List (List (Int×Int))) (i x:Int):Option Int:=((gM mvs i).find? fun p=>p.2 == x).map (·.1)
noncomputable def ent (ow:List Int) (mvs:List (List (Int×Int))) (x:Int):En:=(gI ow x,dAt mvs (gI ow x) x)
noncomputable def stO (st:List Bool):Option Int→Bool
 | none=>true
 | some d=>fl st d
noncomputable def z11 (st:List Bool) (i:Int) (b:Option (Option Int)) (e:En):Option (Option Int) :=
 if e.1=i∧stO st e.2=true then (match b with
  | some (some x)=>(match e.2 with
   | some d=>if x<d then some (some d) else b
   | none=>b)
  | _=>some e.2) else b
noncomputable def bst (st:List Bool) (es:List En) (i:Int):Option (Option Int):=es.foldl (z11 st i) none
theorem QA (st:List Bool) (es:List En) (e:En) (i:Int):bst st (es++[e]) i=z11 st i (bst st es i) e:=by unfold bst;rw [List.foldl_append];rfl
structure BstOk (st:List Bool) (es:List En) (i:Int) (b:Option (Option Int)):Prop where
 h1:(i,none)∈es→b≠none
 h2:∀ d,b=some (some d)→(i,some d)∈es∧fl st d=true
 h3:∀ d,(i,some d)∈es→fl st d=true→∃ d',b=some (some d')∧d≤d'
theorem XJ {α:Type} {P:List α→Prop} (h0:P []) (h1:∀ l x,P l→P (l++[x])) (l:List α):P l:=by
 have:∀ l:List α,P l.reverse:=fun l=>by
  induction l with
  | nil=>exact h0
  | cons x l ih=>rw [List.reverse_cons];exact h1 _ _ ih
 have:=this l.reverse
 rwa [List.reverse_reverse] at this
theorem Qq (st:List Bool) (i:Int) (es:List En):BstOk st es i (bst st es i):=by
 refine XJ (P:=fun es=>BstOk st es i (bst st es i)) ⟨fun h=>absurd h List.not_mem_nil,fun d h=>(nomatch h),fun d h=>absurd h List.not_mem_nil⟩ (fun es e ih=>?_) es
 rw [QA]
 unfold z11
 by_cases c:e.1=i∧stO st e.2=true
 ·rw [if_pos c]
  obtain ⟨j,m⟩:=e
  obtain ⟨rfl,c2⟩:=c
  cases hb:bst st es j with
  | none =>
   rw [hb] at ih
   refine ⟨fun _ h=>(nomatch h),fun d h=>?_,fun d hd hs=>?_⟩
   ·cases h;exact ⟨List.mem_append_right _ (.head _),c2⟩
   ·rcases yn hd with hd | hd
    ·obtain ⟨_,h,_⟩:=ih.h3 d hd hs;cases h
    ·cases hd with
     | head=>exact ⟨d,rfl,Int.le_refl _⟩
     | tail _ h=>cases h
  | some b =>
   rw [hb] at ih
   cases b with
   | none =>
    refine ⟨fun _ h=>(nomatch h),fun d h=>?_,fun d hd hs=>?_⟩
    ·cases h;exact ⟨List.mem_append_right _ (.head _),c2⟩
    ·rcases yn hd with hd | hd
     ·obtain ⟨_,h,_⟩:=ih.h3 d hd hs;cases h
     ·cases hd with
      | head=>exact ⟨d,rfl,Int.le_refl _⟩
      | tail _ h=>cases h
   | some x =>
    cases m with
    | none =>
     refine ⟨fun _ h=>(nomatch h),fun d h=>⟨List.mem_append_left _ (ih.h2 d h).1,(ih.h2 d h).2⟩,fun d hd hs=>?_⟩
     rcases yn hd with hd | hd
     ·exact ih.h3 d hd hs
     ·cases hd with
      | tail _ h=>cases h
    | some d0 =>
     dsimp only
     by_cases q:x<d0
     ·rw [if_pos q]
      refine ⟨fun _ h=>(nomatch h),fun d h=>?_,fun d hd hs=>?_⟩
      ·cases h;exact ⟨List.mem_append_right _ (.head _),c2⟩
      ·rcases yn hd with hd | hd
       ·obtain ⟨d',h,l⟩:=ih.h3 d hd hs
        cases h
        exact ⟨d0,rfl,Int.le_trans l (Int.le_of_lt q)⟩
       ·cases hd with
        | head=>exact ⟨d0,rfl,Int.le_refl _⟩
        | tail _ h=>cases h
     ·rw [if_neg q]
      refine ⟨fun _ h=>(nomatch h),fun d h=>⟨List.mem_append_left _ (ih.h2 d h).1,(ih.h2 d h).2⟩,fun d hd hs=>?_⟩
      rcases yn hd with hd | hd
      ·exact ih.h3 d hd hs
      ·cases hd with
       | head=>exact ⟨x,rfl,Int.not_lt.mp q⟩
       | tail _ h=>cases h
 ·rw [if_neg c]
  refine ⟨fun h=>?_,fun d h=>⟨List.mem_append_left _ (ih.h2 d h).1,(ih.h2 d h).2⟩,fun d hd hs=>?_⟩
  ·rcases yn h with h | h
   ·exact ih.h1 h
   ·cases h with
    | head=>exact absurd ⟨rfl,rfl⟩ c
    | tail _ h=>cases h
  ·rcases yn hd with hd | hd
   ·exact ih.h3 d hd hs
   ·cases hd with
    | head=>exact absurd ⟨rfl,hs⟩ c
    | tail _ h=>cases h
structure Mw (S:Sh) (mvs:List (List (Int×Int))):Prop where
 asc:∀ i,((gM mvs i).map (·.1)).Pairwise (·<·)
 nd:∀ i:Int,0≤i→i<S.le.length→(gI S.fi i::(gM mvs i).map (·.2)).Nodup
theorem z04 {st:List Bool} {f:Int} {ps:List (Int×Int)}:(ps.map (·.1)).Pairwise (·<·)→(yB st f ps=f∧∀ p∈ps,fl st p.1=false)∨∃ p∈ps,yB st f ps=p.2∧fl st p.1=true∧∀ q∈ps,fl st q.1=true→q.1≤p.1:=by
 refine XJ (P:=fun ps=>(ps.map (·.1)).Pairwise (·<·)→(yB st f ps=f∧∀ p∈ps,fl st p.1=false)∨∃ p∈ps,yB st f ps=p.2∧fl st p.1=true∧∀ q∈ps,fl st q.1=true→q.1≤p.1) (fun _=>.inl ⟨rfl,fun p h=>by cases h⟩) (fun ps p ih hp=>?_) ps
 rw [List.map_append,List.pairwise_append] at hp
 rw [jq]
 cases hs:fl st p.1 with
 | true =>
  rw [if_pos rfl]
  refine .inr ⟨p,List.mem_append_right _ (.head _),rfl,hs,fun q hq _=>?_⟩
  rcases yn hq with hq | hq
  ·exact Int.le_of_lt (hp.2.2 _ (List.mem_map.mpr ⟨q,hq,rfl⟩) _ (.head _))
  ·cases hq with
   | head=>exact Int.le_refl _
   | tail _ h=>cases h
 | false =>
  rw [if_neg Bool.false_ne_true]
  rcases ih hp.1 with ⟨a,b⟩ | ⟨q,a,b,c,d⟩
  ·refine .inl ⟨a,fun q hq=>?_⟩
   rcases yn hq with hq | hq
   ·exact b q hq
   ·cases hq with
    | head=>exact hs
    | tail _ h=>cases h
  ·refine .inr ⟨q,List.mem_append_left _ a,b,c,fun q' hq hs'=>?_⟩
   rcases yn hq with hq | hq
   ·exact d q' hq hs'
   ·cases hq with
    | head=>rw [hs] at hs';cases hs'
    | tail _ h=>cases h
section
variable {S:Sh} {mvs:List (List (Int×Int))} {cus sg:List (List Int)}
theorem qn {i x d:Int} (h:dAt mvs i x=some d):(d,x)∈gM mvs i:=by
 obtain ⟨p,hp,rfl⟩:=y9 h
 have h2:=List.find?_some hp
 rw [beq_iff_eq] at h2
 rw [← h2];exact List.mem_of_find?_eq_some hp
theorem Zk {i x:Int} (h:dAt mvs i x=none):∀ p∈gM mvs i,p.2≠x:=fun p hp e=>by
 have:=List.find?_eq_none.mp (Option.map_eq_none_iff.mp h) p hp
 exact this (beq_iff_eq.mpr e)
theorem Mw.at_first (W:Mw S mvs) {i:Int} (i0:0≤i) (i1:i<S.le.length):dAt mvs i (gI S.fi i)=none:=by
 cases h:dAt mvs i (gI S.fi i) with
 | none=>rfl
 | some d=>exact absurd (List.mem_map.mpr ⟨_,qn h,rfl⟩) (List.nodup_cons.mp (W.nd i i0 i1)).1
theorem Jo {α β:Type} {f:α→β} {l:List α} (nd:(l.map f).Nodup) {x y:α} (hx:x∈l) (hy:y∈l) (e:f x=f y):x=y:=by
 induction l with
 | nil=>cases hx
 | cons z l ih =>
  rw [List.map_cons,List.nodup_cons] at nd
  cases hx with
  | head=>cases hy with
   | head=>rfl
   | tail _ hy=>exact absurd (List.mem_map.mpr ⟨_,hy,e.symm⟩) nd.1
  | tail _ hx=>cases hy with
   | head=>exact absurd (List.mem_map.mpr ⟨_,hx,e⟩) nd.1
   | tail _ hy=>exact ih nd.2 hx hy
theorem Mw.at_mem (W:Mw S mvs) {i:Int} (i0:0≤i) (i1:i<S.le.length) {p:Int×Int} (hp:p∈gM mvs i):dAt mvs i p.2=some p.1:=by
 cases h:dAt mvs i p.2 with
 | none=>exact absurd rfl (Zk h p hp)
 | some d =>
  have:=Jo (f:=Prod.snd) (List.nodup_cons.mp (W.nd i i0 i1)).2 (qn h) hp rfl
  rw [← this]
theorem zCe {l:List Int} (h:l.Pairwise (·<·)):l.Nodup:=h.imp fun h=>Int.ne_of_lt h
theorem Mw.inj (W:Mw S mvs) {i x y:Int} (i0:0≤i) (i1:i<S.le.length) (hx:inS S.fi mvs x i) (hy:inS S.fi mvs y i) (e:dAt mvs i x=dAt mvs i y):x=y:=by
 cases h:dAt mvs i x with
 | none =>
  have n1:=Zk h
  have n2:=Zk (e.symm.trans h)
  rcases hx with hx | ⟨p,hp,hx⟩
  ·rcases hy with hy | ⟨p,hp,hy⟩
   ·rw [hx,hy]
   ·exact absurd hy (n2 p hp)
  ·exact absurd hx (n1 p hp)
 | some d =>
  have:=Jo (f:=Prod.fst) (zCe (W.asc i)) (qn h) (qn (e.symm.trans h)) rfl
  exact congrArg Prod.snd this
theorem Iw.seat_own (I:Iw S mvs cus sg) {x:Int} (hx:x∈S.l):0≤gI S.ow x∧gI S.ow x<S.le.length∧inS S.fi mvs x (gI S.ow x):=by
 obtain ⟨x0,x1⟩:=I.O.G.rng x hx
 have h:=I.W.seats x x0 x1
 have m:gI S.ow x∈S.ow:=by
  have:x.toNat<S.ow.length:=by rw [I.O.ow];exact qb x0 x1
  unfold gI;rw [zu this];exact List.getElem_mem _
 obtain ⟨a,b⟩:=I.O.own _ m
 exact ⟨a,b,h⟩
noncomputable def Sh.rowOf (S:Sh) (mvs:List (List (Int×Int))):List En:=S.l.map (ent S.ow mvs)
theorem Mw.ent_inj (W:Mw S mvs) (I:Iw S mvs cus sg) {x y:Int} (hx:x∈S.l) (hy:y∈S.l) (e:ent S.ow mvs x=ent S.ow mvs y):x=y:=by
 obtain ⟨a0,a1,a2⟩:=I.seat_own hx
 obtain ⟨b0,b1,b2⟩:=I.seat_own hy
 have e1:gI S.ow x=gI S.ow y:=congrArg Prod.fst e
 have e2:dAt mvs (gI S.ow x) x=dAt mvs (gI S.ow y) y:=congrArg Prod.snd e
 rw [← e1] at e2 b2
 exact W.inj a0 a1 a2 b2 e2
theorem Iw.ent_cur (I:Iw S mvs cus sg) {i:Int} (i0:0≤i) (i1:i<S.le.length):ent S.ow mvs (S.cur mvs i)=(i,dAt mvs i (S.cur mvs i)):=by
 unfold ent;rw [(I.cur_mem i0 i1).2]
theorem Mw.bst_cur (W:Mw S mvs) (I:Iw S mvs cus sg) {i:Int} (i0:0≤i) (i1:i<S.le.length):bst S.st (S.rowOf mvs) i=some (dAt mvs i (S.cur mvs i)):=by
 have B:=Qq S.st i (S.rowOf mvs)
 have mem:∀ {x:Int},inS S.fi mvs x i→(i,dAt mvs i x)∈S.rowOf mvs:=fun {x} hx=>by
  obtain ⟨a,b,c⟩:=I.W.back i i0 i1 x hx
  refine List.mem_map.mpr ⟨x,(I.O.G.perm.mem_iff).mpr (List.mem_map.mpr ⟨x.toNat,List.mem_range.mpr (qb b c),Int.toNat_of_nonneg b⟩),?_⟩
  unfold ent;rw [a]
 have back:∀ {d:Int},(i,some d)∈S.rowOf mvs→∃ x,(d,x)∈gM mvs i:=fun {d} h=>by
  obtain ⟨x,hx,e⟩:=List.mem_map.mp h
  have e1:gI S.ow x=i:=congrArg Prod.fst e
  have e2:dAt mvs (gI S.ow x) x=some d:=congrArg Prod.snd e
  rw [e1] at e2
  exact ⟨x,qn e2⟩
 have hb:=B.h1 (by have:=mem (.inl rfl);rwa [W.at_first i0 i1] at this)
 cases hq:bst S.st (S.rowOf mvs) i with
 | none=>exact absurd hq hb
 | some m =>
  rw [hq] at B
  refine congrArg some ?_
  rcases z04 (st:=S.st) (f:=gI S.fi i) (W.asc i) with ⟨a,b⟩ | ⟨p,a,b,c,d⟩
  ·rw [show S.cur mvs i=gI S.fi i from a,W.at_first i0 i1]
   cases m with
   | none=>rfl
   | some d =>
    obtain ⟨h1,h2⟩:=B.h2 d rfl
    obtain ⟨x,hx⟩:=back h1
    have:=b _ hx
    rw [h2] at this;cases this
  ·rw [show S.cur mvs i=p.2 from b,W.at_mem i0 i1 a]
   have h3:=mem (.inr ⟨p,a,rfl⟩)
   rw [W.at_mem i0 i1 a] at h3
   obtain ⟨d',e,l⟩:=B.h3 _ h3 c
   cases e
   obtain ⟨h1,h2⟩:=B.h2 d' rfl
   obtain ⟨x,hx⟩:=back h1
   exact congrArg some (Int.le_antisymm (d _ hx h2) l)
theorem Mw.is_cur (W:Mw S mvs) (I:Iw S mvs cus sg) {x:Int} (hx:x∈S.l):(bst S.st (S.rowOf mvs) (ent S.ow mvs x).1=some (ent S.ow mvs x).2)↔x=S.cur mvs (gI S.ow x):=by
 obtain ⟨a0,a1,a2⟩:=I.seat_own hx
 show bst S.st (S.rowOf mvs) (gI S.ow x)=some (dAt mvs (gI S.ow x) x)↔_
 rw [W.bst_cur I a0 a1]
 refine ⟨fun h=>?_,fun h=>by rw [← h]⟩
 exact W.inj a0 a1 a2 X3 (Option.some.inj h).symm
end
noncomputable def shM (st:List Bool) (ca:List AV) (cus:List (List Int)) (i:Int):Bool:=Zu st (ca[i.toNat]?.getD .none) && !(cus[i.toNat]?.getD []).any (fl st)
noncomputable def isE (st:List Bool) (es:List En) (ca:List AV) (cus:List (List Int)) (e:En):Bool:=decide (bst st es e.1=some e.2) && shM st ca cus e.1
noncomputable def mSh (st:List Bool) (es:List En) (ca:List AV) (cus:List (List Int)):List Int:=(es.filter (isE st es ca cus)).map (·.1)
section
variable {S:Sh} {mvs:List (List (Int×Int))} {cus sg:List (List Int)}
theorem Mw.isE_fl (W:Mw S mvs) (V:Iv S mvs cus sg) {x:Int} (hx:x∈S.l):isE S.st (S.rowOf mvs) S.br cus (ent S.ow mvs x)=fl S.b x:=by
 obtain ⟨x0,x1⟩:=V.I.O.G.rng x hx
 rw [V.flag x x0 x1]
 unfold isE Sh.tgt
 rw [decide_eq_decide.mpr (W.is_cur V.I hx),Bool.and_comm]
 rfl
theorem Q4 {α β:Type} {f:α→β} {p:β→Bool} {q:α→Bool} {l:List α} (h:∀ x∈l,p (f x)=q x):(l.map f).filter p=(l.filter q).map f:=by
 rw [List.filter_map]
 refine congrArg (List.map f) (List.filter_congr fun x hx=>h x hx)
theorem Mw.mSh_eq (W:Mw S mvs) (V:Iv S mvs cus sg):mSh S.st (S.rowOf mvs) S.br cus=S.sh:=by
 have h:=Q4 (f:=ent S.ow mvs) (p:=isE S.st (S.rowOf mvs) S.br cus) (q:=fl S.b) fun x hx=>W.isE_fl V hx
 show ((S.rowOf mvs).filter (isE S.st (S.rowOf mvs) S.br cus)).map (·.1)=_
 rw [show (S.rowOf mvs).filter (isE S.st (S.rowOf mvs) S.br cus)=_ from h,List.map_map]
 rfl
theorem z0f {α β:Type} [BEq α] [LawfulBEq α] {f:α→β} [DecidableEq β] {l:List α} {x:α} (hi:∀ y∈l,f y=f x→y=x):(l.map f).findIdx? (fun y=>decide (y=f x))=l.findIdx? (· == x):=by
 induction l with
 | nil=>rfl
 | cons y l ih =>
  rw [List.map_cons,List.findIdx?_cons,List.findIdx?_cons,ih fun z hz=>hi z (.tail _ hz)]
  by_cases q:y=x
  ·subst q;simp
  ·have:¬ f y=f x:=fun e=>q (hi y (.head _) e)
   simp [q,this]
end
set_option genInjectivity false
set_option genSizeOf false
theorem z0s {kvs:List (Int×AV)} {k i:Int} {v:AV}:yb (xT kvs k v) i=if k=i then some v else yb kvs i:=by
 unfold xT
 by_cases h:kvs.any (fun kv=>kv.1=k)=true
 ·rw [if_pos h]
  by_cases q:k=i
  ·subst q
   rw [if_pos rfl]
   induction kvs with
   | nil=>cases h
   | cons p kvs ih =>
    rw [List.map_cons]
    by_cases e:p.1=k
    ·rw [if_pos e,xR (a:=p.1) (u:=v),if_pos e]
    ·rw [if_neg e,xR (a:=p.1) (u:=p.2),if_neg e]
     refine ih ?_
     rw [List.any_cons,decide_eq_false e,Bool.false_or] at h
     exact h
  ·rw [if_neg q]
   clear h
   induction kvs with
   | nil=>rfl
   | cons p kvs ih =>
    rw [List.map_cons,xR (a:=p.1) (u:=p.2),← ih]
    by_cases e:p.1=k
    ·rw [if_pos e,xR (a:=p.1) (u:=v),if_neg fun x=>q (e▸x),if_neg fun x=>q (e▸x)]
    ·rw [if_neg e,xR (a:=p.1) (u:=p.2)]
 ·rw [if_neg h]
  induction kvs with
  | nil=>exact xR
  | cons p kvs ih =>
   rw [List.any_cons,Bool.or_eq_true] at h
   have h1:¬ p.1=k:=fun e=>h (.inl (decide_eq_true e))
   rw [List.cons_append,xR (a:=p.1) (u:=p.2),xR (a:=p.1) (u:=p.2),ih fun e=>h (.inr e)]
   by_cases q:p.1=i
   ·rw [if_pos q,if_pos q,if_neg fun e=>h1 (q.trans e.symm)]
   ·rw [if_neg q,if_neg q]
theorem z2s {kvs:List (Int×AV)} {k:Int} {v:AV}:(xT kvs k v).length≤kvs.length+1:=by
 unfold xT
 split
 ·rw [List.length_map];exact Nat.le_succ _
 ·rw [zT];exact Nat.le_refl _
structure Md where
 es:List En
 ca:List AV
 cus:List (List Int)
 st:List Bool
 le:List Nat
 dd:List AV
 gn:List Int
structure Ad where
 a0:Nat
 a1:Nat
 a2:Nat
 a3:Nat
 a4:Nat
 a5:Nat
 a6:Nat
 a8:Nat
 cs:List Nat
noncomputable abbrev Ad.kv (A:Ad) (hn:Int):List (Str×AV):=[("row",rf A.a1),("faces",rf A.a2),("came",rf A.a3),("cuts",rf A.a4),("deeds",rf A.a5),("stays",rf A.a6),("hands",.int hn),("gone",rf A.a8)]
structure Mo (hn:Int) (M:Md) (A:Ad) (r:Hp):Prop where
 e0:r[A.a0]? = some (.dicS (A.kv hn))
 e1:r[A.a1]? = some (.list (M.es.map eA))
 e2:r[A.a2]? = some (.list (M.le.map ch))
 e3:r[A.a3]? = some (.list M.ca)
 e4:r[A.a4]? = some (.list (A.cs.map rf))
 e5:r[A.a5]? = some (.list M.dd)
 e6:r[A.a6]? = some (.list (M.st.map AV.bool))
 e8:r[A.a8]? = some (.list (M.gn.map AV.int))
 ec:∀ (i k:Nat) (ds:List Int),A.cs[i]? = some k→M.cus[i]? = some ds→r[k]? = some (.list (ds.map AV.int))
 cl:A.cs.length=M.cus.length
theorem Mo.grow {hn:Int} {M:Md} {A:Ad} {r:Hp} (m:Mo hn M A r) (g:Hp):Mo hn M A (r++g) :=
 ⟨zI m.e0,zI m.e1,zI m.e2,zI m.e3,zI m.e4,zI m.e5,zI m.e6,zI m.e8,fun i k ds a b=>zI (m.ec i k ds a b),m.cl⟩
structure Mk (M:Md):Prop where
 er:∀ e∈M.es,0≤e.1∧e.1<M.le.length
 ed:∀ e∈M.es,∀ d,e.2=some d→0≤d∧d<M.st.length
 fi:∀ i:Int,0≤i→i<M.le.length→(i,none)∈M.es
 br:∀ v∈M.ca,v=.none∨∃ d,v=.int d∧0≤d∧d<M.st.length
 cr:∀ ds∈M.cus,ds.length<200∧∀ d∈ds,0≤d∧d<M.st.length
 cl:M.cus.length=M.le.length
 al:M.ca.length=M.le.length
 z1:M.es.length<200
 z2:M.st.length<200
 z3:M.le.length<200
theorem YH {A:Ad} {hn:Int}:yb (A.kv hn) ("row" : Str)=some (rf A.a1):=rfl
theorem w0 {A:Ad} {hn:Int}:yb (A.kv hn) ("faces" : Str)=some (rf A.a2):=rfl
theorem z06 {A:Ad} {hn:Int}:yb (A.kv hn) ("came" : Str)=some (rf A.a3):=rfl
theorem Qe {A:Ad} {hn:Int}:yb (A.kv hn) ("cuts" : Str)=some (rf A.a4):=rfl
theorem w1 {A:Ad} {hn:Int}:yb (A.kv hn) ("deeds" : Str)=some (rf A.a5):=rfl
theorem wh {A:Ad} {hn:Int}:yb (A.kv hn) ("stays" : Str)=some (rf A.a6):=rfl
theorem z2h {A:Ad} {hn:Int}:yb (A.kv hn) ("hands" : Str)=some (.int hn):=rfl
theorem z05 {A:Ad} {hn:Int}:yb (A.kv hn) ("gone" : Str)=some (rf A.a8):=rfl
section
variable {hn:Int} {M:Md} {A:Ad} {r:Hp} {S:Sh} {cf:CF} {fr:AFr} {j:Nat}
theorem Mo.get (m:Mo hn M A r) {x:Str} {v:AV} (f:fr[j]? = some (some (rf A.a0))) (k:yb (A.kv hn) x=some v):zF (z6 j) (z8 (.str x)) cf fr (S.hp r)=.ok v (S.hp r) :=
 zv (z5 f) rfl (z2m (show (S.hp r)[A.a0+15]? = _ from m.e0) k)
theorem Mo.stay (m:Mo hn M A r) (k:Mk M) {y:XE} {d:Int} (f:fr[j]? = some (some (rf A.a0))) (ey:y cf fr (S.hp r)=.ok (.int d) (S.hp r)) (d0:0≤d) (d1:d<M.st.length):zF (zF (z6 j) (z8 (.str "stays"))) y cf fr (S.hp r)=.ok (.bool (fl M.st d)) (S.hp r) :=
 zv (m.get f wh) ey (xo (show (S.hp r)[A.a6+15]? = _ from m.e6) d0 d1 (Nat.le_trans (Nat.le_of_lt k.z2) (by decide)))
end
noncomputable def btr (b:Option (Option Int)) (m:Option Int):Bool:=match b with
 | some (some x)=>(match m with
  | some d=>decide (x<d)
  | none=>false)
 | _=>true
theorem z2v {st:List Bool} {i:Int} {b:Option (Option Int)} {e:En}:z11 st i b e=if e.1=i∧(stO st e.2 && btr b e.2)=true then some e.2 else b:=by
 unfold z11
 by_cases c:e.1=i∧stO st e.2=true
 ·rw [if_pos c,c.2,Bool.true_and]
  cases b with
  | none=>rw [if_pos ⟨c.1,rfl⟩]
  | some b=>cases b with
   | none=>rw [if_pos ⟨c.1,rfl⟩]
   | some x =>
    cases h:e.2 with
    | none=>rw [if_neg fun q=>nob q.2]
    | some d =>
     have hb:btr (some (some x)) (some d)=decide (x<d):=rfl
     rw [hb]
     show (if x<d then some (some d) else some (some x))=_
     by_cases q:x<d
     ·rw [if_pos q,if_pos ⟨c.1,decide_eq_true q⟩]
     ·rw [if_neg q,if_neg fun z=>q (of_decide_eq_true z.2)]
 ·rw [if_neg c,if_neg fun q=>c ⟨q.1,(Bool.and_eq_true_iff.mp q.2).1⟩]
section
variable {T:Tab} {okf:Str→Str→Bool} (X:TT T okf) {n:Nat} {hn:Int} {M:Md} {A:Ad} {r:Hp} {S:Sh}
include X
theorem W8 (m:Mo hn M A r) (k:Mk M):∃ kvs,run T (n+1) (.fn "_law_sits") [rf A.a0] (S.hp r)=.ok (rf r.length) (S.hp (r++[.dict kvs]))∧∀ i,yb kvs i=(bst M.st M.es i).map oA:=by
 rw [ya X.kBo]
 obtain ⟨fr',h',e,kvs,v2,v3,rfl,rfl,_,hk⟩:=xO (t:=.many [2,3]) (src:=.ref (A.a1+15)) (cf:=run T n) (xs:=M.es.map eA)
  (body:=(zD [(sIf (zQ .Or [(zR (z6 3) [.Is] [(z8 .none)]),(y6 (zF (zF (z6 0) (z8 (.str "stays"))) (z6 3)))]) (zD [(sIf (zQ .Or [(zR (z6 2) [.NotIn] [(z6 1)]),(zR (zF (z6 1) (z6 2)) [.Is] [(z8 .none)]),(zQ .And [(zR (z6 3) [.IsNot] [(z8 .none)]),(zR (z6 3) [.Gt] [(zF (z6 1) (z6 2))])])]) (zD [(z9 okf (.item (z6 1) (z6 2)) (z6 3))]) (zD []))]) (zD []))]))
  (fun k fr h=>∃ kvs v2 v3,fr=[some (rf A.a0),some (rf r.length),v2,v3]∧h=S.hp (r++[.dict kvs])∧kvs.length≤k∧∀ i,yb kvs i=(bst M.st (M.es.take k) i).map oA)
  (fun k fr h p=>by
   obtain ⟨kvs,v2,v3,rfl,rfl,_⟩:=p
   exact xw (show (S.hp (r++[.dict kvs]))[A.a1+15]? = _ from zI m.e1))
  (fun j x fr h p hx=>by
   obtain ⟨kvs,v2,v3,rfl,rfl,zl,hk⟩:=p
   rw [List.getElem?_map] at hx
   obtain ⟨e,he,rfl⟩:=y9 hx
   have hj:=(y7 he).1
   have hm:=yF he
   have tk1:M.es.take (j+1)=M.es.take j++[e]:=by rw [List.take_succ,he];rfl
   have m':=m.grow [.dict kvs]
   have hd:(S.hp (r++[.dict kvs]))[r.length+15]? = some (.dict kvs):=zK r _ []
   have zk:kvs.length<small:=Nat.lt_of_le_of_lt zl (Nat.lt_trans hj (Nat.lt_trans k.z1 (by decide)))
   have t1:zQ .Or [(zR (z6 3) [.Is] [(z8 .none)]),(y6 (zF (zF (z6 0) (z8 (.str "stays"))) (z6 3)))] (run T n) [some (rf A.a0),some (rf r.length),some (.int e.1),some (oA e.2)] (S.hp (r++[.dict kvs]))=.ok (stO M.st e.2) (S.hp (r++[.dict kvs])):=by
    cases hq:e.2 with
    | none=>exact ZQ (zS (z5 rfl) rfl rfl)
    | some d =>
     obtain ⟨d0,d1⟩:=k.ed e hm d hq
     refine xP (zS (z5 rfl) rfl rfl) ?_
     have:=yg (m'.stay (j:=0) k rfl (z5 (i:=3) (fr:=[some (rf A.a0),some (rf r.length),some (.int e.1),some (oA (some d))]) (v:=.int d) rfl) d0 d1 (cf:=run T n) (S:=S)) (b:=fl M.st d) rfl
     show zQ .Or [_] _ _ _=.ok (fl M.st d) _
     cases hf:fl M.st d with
     | true=>rw [hf] at this;exact ZQ this
     | false=>rw [hf] at this;exact xP this qJ
   have t2:zQ .Or [(zR (z6 2) [.NotIn] [(z6 1)]),(zR (zF (z6 1) (z6 2)) [.Is] [(z8 .none)]),(zQ .And [(zR (z6 3) [.IsNot] [(z8 .none)]),(zR (z6 3) [.Gt] [(zF (z6 1) (z6 2))])])] (run T n) [some (rf A.a0),some (rf r.length),some (.int e.1),some (oA e.2)] (S.hp (r++[.dict kvs]))=.ok (btr (bst M.st (M.es.take j) e.1) e.2) (S.hp (r++[.dict kvs])):=by
    have h1:=hk e.1
    cases hb:bst M.st (M.es.take j) e.1 with
    | none =>
     rw [hb] at h1
     exact ZQ (zS (z5 rfl) (z5 rfl) (by rw [Zp hd,h1];rfl))
    | some b =>
     rw [hb] at h1
     have h1:yb kvs e.1=some (oA b):=h1
     have ei:zF (z6 1) (z6 2) (run T n) [some (rf A.a0),some (rf r.length),some (.int e.1),some (oA e.2)] (S.hp (r++[.dict kvs]))=.ok (oA b) (S.hp (r++[.dict kvs])):=zv (z5 rfl) (z5 rfl) (by rw [qi hd,h1])
     refine xP (zS (z5 rfl) (z5 rfl) (by rw [Zp hd,h1];rfl)) ?_
     cases b with
     | none=>exact ZQ (zS ei rfl rfl)
     | some x =>
      refine xP (zS ei rfl rfl) ?_
      cases hq:e.2 with
      | none=>rw [hq] at ei;exact xP (xC (zS (z5 rfl) rfl rfl)) qJ
      | some d =>
       rw [hq] at ei
       have ec:=zS (op:=.Gt) (b:=decide (x<d)) (z5 (i:=3) (cf:=run T n) (h:=S.hp (r++[.dict kvs])) (fr:=[some (rf A.a0),some (rf r.length),some (.int e.1),some (oA (some d))]) (v:=.int d) rfl) ei rfl
       show zQ .Or [_] _ _ _=.ok (decide (x<d)) _
       cases hc:decide (x<d) with
       | true=>rw [hc] at ec;exact ZQ (xD (zS (z5 rfl) rfl rfl) (xD ec qw))
       | false=>rw [hc] at ec;exact xP (xD (zS (z5 rfl) rfl rfl) (xC ec)) qJ
   have nx:∀ i,bst M.st (M.es.take (j+1)) i=if e.1=i∧(stO M.st e.2 && btr (bst M.st (M.es.take j) e.1) e.2)=true then some e.2 else bst M.st (M.es.take j) i:=fun i=>by
    rw [tk1,QA,z2v]
    by_cases q:e.1=i
    ·rw [q]
    ·rw [if_neg fun z=>q z.1,if_neg fun z=>q z.1]
   refine ⟨[some (rf A.a0),some (rf r.length),some (.int e.1),some (oA e.2)],[some (rf A.a0),some (rf r.length),some (.int e.1),some (oA e.2)],?_⟩
   have stay0:∀ h:Hp,h=S.hp (r++[.dict kvs])→(stO M.st e.2 && btr (bst M.st (M.es.take j) e.1) e.2)=false→∃ kvs' v2 v3,([some (rf A.a0),some (rf r.length),some (.int e.1),some (oA e.2)]:AFr)=[some (rf A.a0),some (rf r.length),v2,v3]∧h=S.hp (r++[.dict kvs'])∧kvs'.length≤j+1∧∀ i,yb kvs' i=(bst M.st (M.es.take (j+1)) i).map oA:=fun h e1 q =>
    ⟨kvs,_,_,rfl,e1,Nat.le_succ_of_le zl,fun i=>by rw [nx,if_neg fun z=>by rw [q] at z;exact nob z.2];exact hk i⟩
   cases c1:stO M.st e.2 with
   | false =>
    rw [c1] at t1
    exact ⟨S.hp (r++[.dict kvs]),rfl,(z7 ((zH t1).trans zE)).trans zE,stay0 _ rfl (by rw [c1];rfl)⟩
   | true =>
    rw [c1] at t1
    cases c2:btr (bst M.st (M.es.take j) e.1) e.2 with
    | false =>
     rw [c2] at t2
     exact ⟨S.hp (r++[.dict kvs]),rfl,(z7 ((zi t1).trans ((z7 ((zH t2).trans zE)).trans zE))).trans zE,stay0 _ rfl (by rw [c1,c2];rfl)⟩
    | true =>
     rw [c2] at t2
     refine ⟨S.hp (r++[.dict (xT kvs e.1 (oA e.2))]),rfl,(z7 ((zi t1).trans ((z7 ((zi t2).trans ((z7 (ZS (z5 rfl) (z5 rfl) (z5 rfl) ?_)).trans zE))).trans zE))).trans zE,xT kvs e.1 (oA e.2),_,_,rfl,rfl,Nat.le_trans z2s (Nat.succ_le_succ zl),fun i=>?_⟩
     ·refine (JU hd zk).trans (congrArg some ?_)
      show S.hp ((r++[AO.dict kvs]).set r.length _)=_
      rw [List.set_append_right _ _ (Nat.le_refl _),Nat.sub_self];rfl
     ·rw [z0s,nx]
      by_cases q:e.1=i
      ·rw [if_pos q,if_pos ⟨q,by rw [c1,c2];rfl⟩];rfl
      ·rw [if_neg q,if_neg fun z=>q z.1];exact hk i)
  (fr:=[some (rf A.a0),some (rf r.length),none,none]) (h:=S.hp (r++[.dict []])) ⟨[],none,none,rfl,rfl,Nat.zero_le _,fun i=>rfl⟩
 rw [List.length_map] at hk
 refine ⟨kvs,?_,fun i=>by rw [hk,List.take_length]⟩
 refine zM (fr:=[some (rf A.a0),none,none,none]) rfl rfl (fr':=[some (rf A.a0),some (rf r.length),v2,v3]) ?_
 unfold kBo
 dsimp only
 refine (z7 (zU (v:=rf r.length) (h1:=S.hp (r++[.dict []])) rfl (zZ rfl))).trans ((z7 (wO (en:=false) ((m.grow [.dict []]).get (S:=S) rfl YH) (wa (show (S.hp (r++[.dict []]))[A.a1+15]? = _ from zI m.e1)) e)).trans (zL (zm (z5 rfl))))
end
set_option genInjectivity false
set_option genSizeOf false
theorem zB5 {a b:Option Int} {h:Hp}:yZ .Eq (oA a) (oA b) h=some (decide (a=b)):=by
 cases a with
 | none=>cases b <;> rfl
 | some x=>cases b with
  | none=>rfl
  | some y =>
   refine (xG h x y).trans (congrArg some (decide_eq_decide.mpr ⟨fun e=>by rw [e],fun e=>?_⟩))
   injection e
theorem z0h {h:Hp} {a b:Nat} {l:List Int} (e:h[a]? = some (.list (l.map AV.int))) (e':h[b]? = some (.list [])):yZ .Eq (.ref a) (.ref b) h=some l.isEmpty:=by
 rw [xz,jB (ZH e) (yc (ds:=[]) e' rfl)]
 cases l <;> rfl
theorem Qw {α:Type} {p:α→Bool} {l:List α}:(l.filter p).isEmpty=!l.any p:=by
 induction l with
 | nil=>rfl
 | cons x l ih =>
  rw [List.filter_cons,List.any_cons]
  cases p x with
  | true=>rfl
  | false=>rw [if_neg Bool.false_ne_true,ih,Bool.false_or]
theorem qS {α:Type} {p:α→Bool} {l:List α}:(l.filter p).length≤l.length:=List.length_filter_le _ _
section
variable {T:Tab} {okf:Str→Str→Bool} (X:TT T okf) {n:Nat} {hn:Int} {M:Md} {A:Ad} {r:Hp} {S:Sh}
include X
theorem z28 (m:Mo hn M A r) (k:Mk M) {i:Int} (i0:0≤i) (i1:i<M.le.length):∃ g,run T (n+1) (.fn "_law_is_shown") [rf A.a0,.int i] (S.hp r)=.ok (.bool (shM M.st M.ca M.cus i)) (S.hp (r++g)):=by
 rw [ya X.kAs]
 have hi:=qb i0 i1
 have oi:okI i=true:=yQ.mpr ⟨i0,by have:=k.z3;lia⟩
 have hc:i.toNat<M.ca.length:=by rw [k.al];exact hi
 have hu:i.toNat<M.cus.length:=by rw [k.cl];exact hi
 have hs:i.toNat<A.cs.length:=by rw [m.cl];exact hu
 obtain ⟨ds,hds⟩:∃ ds,M.cus[i.toNat]? = some ds:=⟨_,zu hu⟩
 obtain ⟨q,hq⟩:∃ q,A.cs[i.toNat]? = some q:=⟨_,zu hs⟩
 obtain ⟨v,hv⟩:∃ v,M.ca[i.toNat]? = some v:=⟨_,zu hc⟩
 have hl:=m.ec _ _ _ hq hds
 obtain ⟨dz,dr⟩:=k.cr ds (yF hds)
 have ev:zF (zF (z6 0) (z8 (.str "came"))) (z6 1) (run T n) [some (rf A.a0),some (.int i)] (S.hp r)=.ok v (S.hp r) :=
  zv (m.get rfl z06) (z5 rfl) (Qh (show (S.hp r)[A.a3+15]? = _ from m.e3) oi hv)
 have e2:shM M.st M.ca M.cus i=(Zu M.st v && !ds.any (fl M.st)):=by unfold shM;rw [hv,hds];rfl
 rw [e2]
 have er:zj (zF (zF (z6 0) (z8 (.str "cuts"))) (z6 1)) 1 (.one 2) (zQ .And [(y6 (zF (zF (z6 0) (z8 (.str "stays"))) (z6 2)))]) (z6 2) (run T n) [some (rf A.a0),some (.int i)] (S.hp r)=.ok (rf r.length) (S.hp (r++[.list ((ds.filter (fl M.st)).map AV.int)])) :=
  yK AV.int (i:=2) (a:=q+15) (p:=fl M.st) (f:=AV.int) (l:=ds) (zv (m.get rfl Qe) (z5 rfl) (Qh (show (S.hp r)[A.a4+15]? = _ from m.e4) oi (by rw [List.getElem?_map,hq];rfl))) (show (S.hp r)[q+15]? = _ from hl) (zZ rfl) (Nat.lt_trans dz (by decide))
   (fun fr' _ a2 x hx a3=>qF (yg (m.stay (j:=0) k ((a2 0 (by decide)).trans rfl) (z5 a3) (dr x hx).1 (dr x hx).2) rfl)) (fun fr' _ _ x hx a3=>z5 a3)
 have ef:zf (qq (zj (zF (zF (z6 0) (z8 (.str "cuts"))) (z6 1)) 1 (.one 2) (zQ .And [(y6 (zF (zF (z6 0) (z8 (.str "stays"))) (z6 2)))]) (z6 2)) [.Eq] [(zX [])]) (run T n) [some (rf A.a0),some (.int i)] (S.hp r)=.ok (.ret (.bool (!ds.any (fl M.st)))) [some (rf A.a0),some (.int i)] (S.hp (r++[.list ((ds.filter (fl M.st)).map AV.int)]++[.list []])):=by
  refine zm (wx er (zy ev0) ?_)
  rw [← Qw]
  exact z0h (l:=ds.filter (fl M.st)) (zI (zK r _ [])) (by show (S.hp (r++[_]++[_]))[(r++[_]).length+15]? = _;exact zK _ _ [])
 have et:(Zu M.st v=true∧zQ .And [(zR (zF (zF (z6 0) (z8 (.str "came"))) (z6 1)) [.IsNot] [(z8 .none)]),(ym (y6 (zF (zF (z6 0) (z8 (.str "stays"))) (zF (zF (z6 0) (z8 (.str "came"))) (z6 1)))))] (run T n) [some (rf A.a0),some (.int i)] (S.hp r)=.ok false (S.hp r)) ∨
   (Zu M.st v=false∧zQ .And [(zR (zF (zF (z6 0) (z8 (.str "came"))) (z6 1)) [.IsNot] [(z8 .none)]),(ym (y6 (zF (zF (z6 0) (z8 (.str "stays"))) (zF (zF (z6 0) (z8 (.str "came"))) (z6 1)))))] (run T n) [some (rf A.a0),some (.int i)] (S.hp r)=.ok true (S.hp r)):=by
  rcases k.br v (yF hv) with rfl | ⟨d,rfl,d0,d1⟩
  ·exact .inl ⟨rfl,xC (zS ev rfl rfl)⟩
  ·have e3:=yO (yg (m.stay (j:=0) (S:=S) k rfl ev d0 d1) (b:=fl M.st d) rfl)
   show (fl M.st d=true∧_)∨(fl M.st d=false∧_)
   cases hf:fl M.st d with
   | true=>rw [hf] at e3;exact .inl ⟨rfl,xD (zS ev rfl rfl) (xC e3)⟩
   | false=>rw [hf] at e3;exact .inr ⟨rfl,xD (zS ev rfl rfl) (xD e3 qw)⟩
 rcases et with ⟨b,et⟩ | ⟨b,et⟩
 ·rw [b,Bool.true_and]
  refine ⟨[.list ((ds.filter (fl M.st)).map AV.int)]++[.list []],zM (fr:=[some (rf A.a0),some (.int i)]) rfl rfl (fr':=[some (rf A.a0),some (.int i)]) ?_⟩
  rw [← List.append_assoc]
  exact (z7 ((zH et).trans zE)).trans (zL ef)
 ·rw [b,Bool.false_and]
  refine ⟨[],zM (fr:=[some (rf A.a0),some (.int i)]) rfl rfl (fr':=[some (rf A.a0),some (.int i)]) ?_⟩
  rw [List.append_nil]
  exact zL ((zi et).trans (zL (zm rfl)))
theorem Mk.bst_some {M:Md} (k:Mk M) {i:Int} (i0:0≤i) (i1:i<M.le.length):∃ b,bst M.st M.es i=some b:=by
 have:=(Qq M.st i M.es).h1 (k.fi i i0 i1)
 cases h:bst M.st M.es i with
 | none=>exact absurd h this
 | some b=>exact ⟨b,rfl⟩
theorem qz (m:Mo hn M A r) (k:Mk M):∃ g,run T (n+2) (.fn "_law_shown") [rf A.a0] (S.hp r)=.ok (rf (r.length+1)) (S.hp (r++g))∧(r++g)[r.length+1]? = some (.list ((mSh M.st M.es M.ca M.cus).map AV.int)):=by
 obtain ⟨kvs,es,hk⟩:=W8 X (n:=n) (S:=S) m k
 rw [ya X.kBj]
 have pad:∀ (l:List AV) (g:Hp),r++AO.dict kvs::.list l::g=r++([AO.dict kvs]++[.list l]++g):=fun l g=>rfl
 obtain ⟨fr',h',e,g,v3,v4,rfl,rfl⟩:=xO (t:=.many [3,4]) (src:=.ref (A.a1+15)) (cf:=run T (n+1)) (xs:=M.es.map eA)
  (body:=(zD [(sIf (zQ .And [(zR (zF (z6 1) (z6 3)) [.Eq] [(z6 4)]),(y6 (zC (zA (some (.fn "_law_is_shown"))) [(z6 0),(z6 3)]))]) (zD [(zN (zB (z6 2) "append" (some .append) [(z6 3)]))]) (zD []))]))
  (fun j fr h=>∃ g v3 v4,fr=[some (rf A.a0),some (rf r.length),some (rf (r.length+1)),v3,v4]∧h=S.hp (r++.dict kvs::.list ((((M.es.take j).filter (isE M.st M.es M.ca M.cus)).map (·.1)).map AV.int)::g))
  (fun j fr h p=>by
   obtain ⟨g,v3,v4,rfl,rfl⟩:=p
   exact xw (show (S.hp (r++_))[A.a1+15]? = _ from zI m.e1))
  (fun j x fr h p hx=>by
   obtain ⟨g,v3,v4,rfl,rfl⟩:=p
   rw [List.getElem?_map] at hx
   obtain ⟨e,he,rfl⟩:=y9 hx
   have hj:=(y7 he).1
   have hm:=yF he
   have tk1:M.es.take (j+1)=M.es.take j++[e]:=by rw [List.take_succ,he];rfl
   obtain ⟨i0,i1⟩:=k.er e hm
   obtain ⟨b,hb⟩:=k.bst_some X i0 i1
   generalize hacc:((M.es.take j).filter (isE M.st M.es M.ca M.cus)).map (·.1)=acc
   have la:acc.length≤j:=by rw [← hacc,List.length_map];exact Nat.le_trans qS (by rw [List.length_take];exact Nat.min_le_left _ _)
   have m':=m.grow (.dict kvs::.list (acc.map AV.int)::g)
   have g0:(S.hp (r++.dict kvs::.list (acc.map AV.int)::g))[r.length+15]? = some (.dict kvs):=zK r _ _
   have g1:(r++.dict kvs::.list (acc.map AV.int)::g)[r.length+1]? = some (.list (acc.map AV.int)):=yH r _ 1
   have e1:zR (zF (z6 1) (z6 3)) [.Eq] [(z6 4)] (run T (n+1)) [some (rf A.a0),some (rf r.length),some (rf (r.length+1)),some (.int e.1),some (oA e.2)] (S.hp (r++.dict kvs::.list (acc.map AV.int)::g))=.ok (decide (b=e.2)) (S.hp (r++.dict kvs::.list (acc.map AV.int)::g)) :=
    zS (v:=oA b) (zv (z5 rfl) (z5 rfl) (by rw [qi g0,hk,hb];rfl)) (z5 rfl) zB5
   have hE:isE M.st M.es M.ca M.cus e=(decide (b=e.2) && shM M.st M.ca M.cus e.1):=by
    unfold isE
    rw [hb]
    refine congrArg (· && _) (decide_eq_decide.mpr ⟨fun h=>Option.some.inj h,fun h=>by rw [h]⟩)
   refine ⟨[some (rf A.a0),some (rf r.length),some (rf (r.length+1)),some (.int e.1),some (oA e.2)],[some (rf A.a0),some (rf r.length),some (rf (r.length+1)),some (.int e.1),some (oA e.2)],?_⟩
   rw [tk1,List.filter_append,List.map_append,hacc]
   cases c1:decide (b=e.2) with
   | false =>
    rw [c1] at e1 hE
    refine ⟨_,rfl,(z7 ((zH (xC e1)).trans zE)).trans zE,g,_,_,rfl,?_⟩
    rw [List.filter_cons,if_neg (by rw [hE];exact Bool.false_ne_true),List.filter_nil,List.map_nil,List.append_nil]
   | true =>
    rw [c1,Bool.true_and] at hE
    rw [c1] at e1
    obtain ⟨g',es'⟩:=z28 X (n:=n) (S:=S) m' k i0 i1
    have e2:=yg (b:=shM M.st M.ca M.cus e.1) (zp (ev1 (z5 (i:=0) (fr:=[some (rf A.a0),some (rf r.length),some (rf (r.length+1)),some (.int e.1),some (oA e.2)]) rfl) (ev1 (z5 (i:=3) rfl) ev0)) es') rfl
    have ap:r++.dict kvs::.list (acc.map AV.int)::g++g'=r++.dict kvs::.list (acc.map AV.int)::(g++g'):=by simp
    rw [ap] at e2
    cases c2:shM M.st M.ca M.cus e.1 with
    | false =>
     rw [c2] at e2 hE
     refine ⟨_,rfl,(z7 ((zH (xD e1 (xC e2))).trans zE)).trans zE,g++g',_,_,rfl,?_⟩
     rw [List.filter_cons,if_neg (by rw [hE];exact Bool.false_ne_true),List.filter_nil,List.map_nil,List.append_nil]
    | true =>
     rw [c2] at e2 hE
     refine ⟨_,rfl,(z7 ((zi (xD e1 (xD e2 qw))).trans ((z7 (zn (v:=.none) (ww (a:=r.length+1+15) (ys:=acc.map AV.int) (z5 rfl) (yH r _ 1) (ev1 (z5 rfl) ev0) ?_))).trans zE))).trans zE,g++g',_,_,rfl,rfl⟩
     ·rw [xm,show (S.hp (r++.dict kvs::.list (acc.map AV.int)::(g++g')))[r.length+1+15]? = some (.list (acc.map AV.int)) from yH r _ 1]
      show (if (acc.map AV.int).length<small then Out.ok AV.none (S.hp ((r++.dict kvs::.list (acc.map AV.int)::(g++g')).set (r.length+1) (.list (acc.map AV.int++[AV.int e.1])))) else .stuck)=_
      rw [if_pos (by rw [List.length_map];exact Nat.lt_of_le_of_lt la (Nat.lt_trans hj (Nat.lt_trans k.z1 (by decide)))),List.set_append_right _ _ (Nat.le_succ _),show r.length.succ - r.length=1 by lia]
      rw [List.filter_cons,if_pos (by rw [hE]),List.filter_nil,List.map_append]
      rfl)
  (fr:=[some (rf A.a0),some (rf r.length),some (rf (r.length+1)),none,none]) (h:=S.hp (r++.dict kvs::.list []::[])) ⟨[],none,none,rfl,rfl⟩
 rw [List.length_map,List.take_length] at e
 have eM:((M.es.map eA).length)=M.es.length:=List.length_map _
 refine ⟨.dict kvs::.list ((mSh M.st M.es M.ca M.cus).map AV.int)::g,?_,yH r _ 1⟩
 refine zM (fr:=[some (rf A.a0),none,none,none,none]) rfl rfl (fr':=[some (rf A.a0),some (rf r.length),some (rf (r.length+1)),v3,v4]) ?_
 unfold kBj
 dsimp only
 refine (z7 (zU (zp (ev1 (z5 rfl) ev0) es) (zZ rfl))).trans ?_
 refine (z7 (zU (v:=rf (r.length+1)) (h1:=S.hp (r++.dict kvs::.list []::[])) ((zy ev0).trans ?_) (zZ rfl))).trans ?_
 ·show Out.ok (rf ((r++[AO.dict kvs]).length)) (S.hp (r++[.dict kvs]++[.list []]))=_
  rw [zT,List.append_assoc];rfl
 refine (z7 (wO (en:=false) (m:=M.es.length) ((m.grow _).get (S:=S) rfl YH) (by rw [← eM];exact wa (show (S.hp (r++_))[A.a1+15]? = _ from zI m.e1)) e)).trans (zL (zm (z5 rfl)))
end
set_option genInjectivity false
set_option genSizeOf false
noncomputable def oD:Option Int→PyData
 | none=>.none
 | some d=>.int d
noncomputable def eD (e:En):PyData:=.tuple [.int e.1,oD e.2]
theorem J1 {h:Hp} {n:Nat} (e:En):toD h (n+1) (eA e)=some (eD e):=by
 obtain ⟨i,o⟩:=e
 cases o with
 | none=>cases n <;> rfl
 | some d=>cases n <;> rfl
theorem z27 {h:Hp} (es:List En):yT (toD h 7) (es.map eA)=some (es.map eD):=by
 induction es with
 | nil=>rfl
 | cons e es ih=>exact xQ (J1 e) ih
theorem zC2 (a b:En):PyData.eqv (eD a) (eD b)=decide (a=b):=by
 obtain ⟨i,o⟩:=a
 obtain ⟨j,q⟩:=b
 show ((i == j) && (PyData.eqv (oD o) (oD q) && true))=_
 rw [Bool.and_true,ZF]
 have e:PyData.eqv (oD o) (oD q)=decide (o=q):=by
  cases o with
  | none=>cases q <;> rfl
  | some x=>cases q with
   | none=>rfl
   | some y =>
    show (x == y)=_
    rw [ZF]
    exact decide_eq_decide.mpr ⟨fun e=>by rw [e],fun e=>by injection e⟩
 rw [e,← Bool.decide_and]
 exact decide_eq_decide.mpr ⟨fun ⟨a,b⟩=>by rw [a,b],fun e=>by injection e with a b;exact ⟨a,b⟩⟩
theorem zBx {h:Hp} {a:Nat} {es:List En} {e:En} (he:h[a]? = some (.list (es.map eA))):wV h (.ref a) (eA e)=es.findIdx? (fun x=>decide (x=e)):=by
 show (Yl h (.ref a)).bind (fun ds=>(toD h 8 (eA e)).bind fun d=>ds.findIdx? fun y=>PyData.eqv y d)=_
 rw [jC he,z27,J1]
 show (es.map eD).findIdx? (fun y=>PyData.eqv y (eD e))=_
 rw [List.findIdx?_map]
 refine congrArg (fun f=>es.findIdx? f) (funext fun x=>zC2 x e)
noncomputable def Qn (es:List En) (e:En):Nat:=es.findIdx (fun x=>decide (x=e))
theorem YN {es:List En} {e:En} (h:e∈es):es.findIdx? (fun x=>decide (x=e))=some (Qn es e):=by
 rw [List.findIdx?_eq_some_iff_findIdx_eq]
 exact ⟨List.findIdx_lt_length_of_exists ⟨e,h,decide_eq_true rfl⟩,rfl⟩
theorem WO {es:List En} {e:En} (h:e∈es):Qn es e<es.length:=List.findIdx_lt_length_of_exists ⟨e,h,decide_eq_true rfl⟩
noncomputable def Md.be (M:Md) (i:Int):Option Int:=(bst M.st M.es i).getD none
theorem Mk.be_mem {M:Md} (k:Mk M) {i:Int} (i0:0≤i) (i1:i<M.le.length):bst M.st M.es i=some (M.be i)∧(i,M.be i)∈M.es:=by
 have B:=Qq M.st i M.es
 have f:=k.fi i i0 i1
 unfold Md.be
 cases h:bst M.st M.es i with
 | none=>exact absurd h (B.h1 f)
 | some b =>
  refine ⟨rfl,?_⟩
  cases b with
  | none=>exact f
  | some d=>exact (B.h2 d h).1
noncomputable abbrev Md.sh (M:Md):List Int:=mSh M.st M.es M.ca M.cus
theorem Mk.sh_rng {M:Md} (k:Mk M) {i:Int} (h:i∈M.sh):0≤i∧i<M.le.length:=by
 obtain ⟨e,he,rfl⟩:=List.mem_map.mp h
 exact k.er e (List.mem_filter.mp he).1
theorem Mk.sh_len {M:Md} (k:Mk M):M.sh.length<200:=by
 show (List.map _ _).length<_
 rw [List.length_map];exact Nat.lt_of_le_of_lt qS k.z1
noncomputable def Md.at_ (M:Md) (i:Int):Nat:=Qn M.es (i,M.be i)
noncomputable def Md.ap (M:Md) (p:Int):Nat:=if p=0 then 0 else M.at_ (M.sh[(p - 1).toNat]?.getD 0)+1
noncomputable def Md.pv (M:Md) (i:Int):AV:=.tup [.int (((M.es.take (M.at_ i)).filter fun e=>decide (bst M.st M.es e.1=some e.2) && decide (e.1∈M.sh)).length:Nat),.bool (decide (i∈M.sh))]
section
variable {T:Tab} {okf:Str→Str→Bool} (X:TT T okf) {n:Nat} {hn:Int} {M:Md} {A:Ad} {r:Hp} {S:Sh} {fr:AFr} {cf:CF}
theorem Z5 (m:Mo hn M A r) {j:Nat} {x:XE} {e:En} {r0:Hp} (f:fr[j]? = some (some (rf A.a0))) (m0:Mo hn M A r0) (ex:x cf fr (S.hp r0)=.ok (eA e) (S.hp r)) (he:e∈M.es):zB (zF (z6 j) (z8 (.str "row"))) "index" (some .index) [x] cf fr (S.hp r0)=.ok (.int (Qn M.es e:Nat)) (S.hp r):=by
 refine ww (a:=A.a1+15) (ys:=M.es.map eA) (m0.get f YH) (show (S.hp r0)[A.a1+15]? = _ from m0.e1) (ev1 ex ev0) ?_
 rw [jI,show (S.hp r)[A.a1+15]? = _ from m.e1]
 show (match wV (S.hp r) (.ref (A.a1+15)) (eA e) with | some k=>Out.ok (AV.int k) _ | none=>.stuck)=_
 rw [zBx (show (S.hp r)[A.a1+15]? = _ from m.e1),YN he]
include X
theorem JQ (m:Mo hn M A r) (k:Mk M) {j l:Nat} {i:Int} (f:fr[j]? = some (some (rf A.a0))) (fl:fr[l]? = some (some (.int i))) (i0:0≤i) (i1:i<M.le.length):∃ g,zF (zC (zA (some (.fn "_law_sits"))) [(z6 j)]) (z6 l) (run T (n+1)) fr (S.hp r)=.ok (oA (M.be i)) (S.hp (r++g)):=by
 obtain ⟨kvs,e,hk⟩:=W8 X (n:=n) (S:=S) m k
 refine ⟨[.dict kvs],zv (zp (ev1 (z5 f) ev0) e) (z5 fl) ?_⟩
 rw [qi (show (S.hp (r++[.dict kvs]))[r.length+15]? = _ from zK r _ []),hk,(k.be_mem i0 i1).1];rfl
theorem WK (m:Mo hn M A r) (k:Mk M) {p:Int} (p0:0≤p) (p1:p≤M.sh.length):∃ g,run T (n+3) (.fn "_law_at") [rf A.a0,.int p] (S.hp r)=.ok (.int (M.ap p:Nat)) (S.hp (r++g)):=by
 rw [ya X.kB5]
 by_cases h:p=0
 ·subst h
  refine ⟨[],?_⟩
  rw [List.append_nil,show M.ap 0=0 from if_pos rfl]
  refine zM (fr:=[some (rf A.a0),some (.int 0),none]) rfl rfl (fr':=[some (rf A.a0),some (.int 0),none]) ?_
  unfold kB5
  dsimp only
  exact zL ((zi (zS (op:=.Eq) (b:=true) (v:=.int 0) (w:=.int 0) (z5 rfl) rfl (xG _ 0 0))).trans (zL (zm rfl)))
 ·obtain ⟨g,e,hg⟩:=qz X (n:=n) (S:=S) m k
  have hlt:(p - 1).toNat<M.sh.length:=by lia
  obtain ⟨i,hi⟩:∃ i,M.sh[(p - 1).toNat]? = some i:=⟨_,zu hlt⟩
  obtain ⟨i0,i1⟩:=k.sh_rng (yF hi)
  have m1:=m.grow g
  obtain ⟨g2,es⟩:=JQ X (n:=n+1) (S:=S) (fr:=[some (rf A.a0),some (.int p),some (.int i)]) (j:=0) (l:=2) m1 k rfl rfl i0 i1
  refine ⟨g++g2,?_⟩
  have ea:M.ap p=M.at_ i+1:=by unfold Md.ap;rw [if_neg h,hi];rfl
  rw [ea,← List.append_assoc]
  refine zM (fr:=[some (rf A.a0),some (.int p),none]) rfl rfl (fr':=[some (rf A.a0),some (.int p),some (.int i)]) ?_
  unfold kB5
  dsimp only
  refine (z7 ((zH (zS (z5 rfl) rfl (by rw [xz,xG,decide_eq_false h]))).trans zE)).trans ?_
  refine (z7 (zU (zv (v:=rf (r.length+1)) (w:=.int (p - 1)) (k:=.int i) (zp (ev1 (z5 rfl) ev0) e) (yR (z5 rfl) rfl ZD) (jL (l:=M.sh) hg (by lia) hi (Nat.le_trans (Nat.le_of_lt k.sh_len) (by decide)))) (zZ rfl))).trans ?_
  exact zL (zm (yR (Z5 (e:=(i,M.be i)) (m1.grow g2) rfl m1 (q6 (ev1 (z5 rfl) (ev1 es ev0))) (k.be_mem i0 i1).2) rfl wA))
theorem Zb (m:Mo hn M A r) (k:Mk M) {i:Int} (i0:0≤i) (i1:i<M.le.length):∃ g,run T (n+3) (.fn "_law_place") [rf A.a0,.int i] (S.hp r)=.ok (M.pv i) (S.hp (r++g)):=by
 rw [ya X.kBk]
 obtain ⟨g1,e1⟩:=JQ X (n:=n+1) (S:=S) (fr:=[some (rf A.a0),some (.int i),none,none,none,none,none]) (j:=0) (l:=1) m k rfl rfl i0 i1
 have m1:=m.grow g1
 generalize hr1:r++g1=r1 at *
 obtain ⟨g2,e2,hs⟩:=qz X (n:=n) (S:=S) m1 k
 have m2:=m1.grow g2
 obtain ⟨kvs,e3,hk⟩:=W8 X (n:=n+1) (S:=S) m2 k
 have m3:=m2.grow [.dict kvs]
 have hs2:=zI (l:=[AO.dict kvs]) hs
 have hd:(r1++g2++[AO.dict kvs])[(r1++g2).length]? = some (.dict kvs):=zK _ _ []
 generalize hr2:r1++g2=r2 at *
 generalize hr3:r2++[AO.dict kvs]=r3 at *
 obtain ⟨b1,b2⟩:=k.be_mem i0 i1
 have hat:M.at_ i≤small:=Nat.le_trans (Nat.le_of_lt (Nat.lt_trans (WO b2) k.z1)) (by decide)
 have el:(M.es.map eA).length≤small:=by rw [List.length_map];exact Nat.le_trans (Nat.le_of_lt k.z1) (by decide)
 have ec:wH (M.es.map eA) 0 (some (M.at_ i:Int).toNat)=(M.es.take (M.at_ i)).map eA:=by
  show ((M.es.map eA).take (M.at_ i:Int).toNat).drop 0=_
  rw [List.drop_zero,Int.toNat_natCast,List.map_take]
 have hcut:(S.hp (r3++[.list ((M.es.take (M.at_ i)).map eA)]))[r3.length+15]? = some (.list ((M.es.take (M.at_ i)).map eA)):=zK r3 _ []
 have m4:=m3.grow [.list ((M.es.take (M.at_ i)).map eA)]
 have hd4:(S.hp (r3++[.list ((M.es.take (M.at_ i)).map eA)]))[r2.length+15]? = some (.dict kvs):=zI hd
 have hs4:(S.hp (r3++[.list ((M.es.take (M.at_ i)).map eA)]))[r1.length+1+15]? = some (.list (M.sh.map AV.int)):=zI hs2
 have ecut:wn (zF (z6 0) (z8 (.str "row"))) (z8 .none) (z6 3) (run T (n+2)) [some (rf A.a0),some (.int i),some (eA (i,M.be i)),some (.int (M.at_ i:Nat)),some (rf (r1.length+1)),some (rf r2.length),none] (S.hp r3)=.ok (rf r3.length) (S.hp (r3++[.list ((M.es.take (M.at_ i)).map eA)])):=by
  refine (XU (m3.get rfl YH) rfl (z5 rfl) (ZC (show (S.hp r3)[A.a1+15]? = _ from m3.e1) Zv (xS (jG hat)) el)).trans ?_
  rw [show (none:Option Nat).getD 0=0 from rfl,ec];rfl
 have ecomp:=yK eA (own:=1) (i:=7) (test:=zQ .And [(zQ .And [(zR (zF (z6 5) (zF (z6 7) (z8 (.int 0)))) [.Eq] [(zF (z6 7) (z8 (.int 1)))]),(zR (zF (z6 7) (z8 (.int 0))) [.In] [(z6 4)])])]) (elt:=z6 7) (l:=M.es.take (M.at_ i)) (p:=fun e=>decide (bst M.st M.es e.1=some e.2) && decide (e.1∈M.sh)) (f:=eA) ecut hcut (zZ rfl)
  (Nat.lt_of_le_of_lt (by rw [List.length_take];exact Nat.min_le_right _ _) (Nat.lt_trans k.z1 (by decide)))
  (fun fr' _ a2 e he a3=>by
   have he:=List.mem_of_mem_take he
   obtain ⟨c0,c1⟩:=k.er e he
   obtain ⟨q1,q2⟩:=k.be_mem c0 c1
   have x0:zF (z6 7) (z8 (.int 0)) (run T (n+2)) fr' (S.hp (r3++[.list ((M.es.take (M.at_ i)).map eA)]))=.ok (.int e.1) (S.hp (r3++[.list ((M.es.take (M.at_ i)).map eA)])):=zv (z5 a3) rfl rfl
   have x1:zF (z6 7) (z8 (.int 1)) (run T (n+2)) fr' (S.hp (r3++[.list ((M.es.take (M.at_ i)).map eA)]))=.ok (oA e.2) (S.hp (r3++[.list ((M.es.take (M.at_ i)).map eA)])):=zv (z5 a3) rfl rfl
   have y0:=zS (op:=.Eq) (b:=decide (M.be e.1=e.2)) (zv (v:=rf r2.length) (w:=.int e.1) (k:=oA (M.be e.1)) (z5 ((a2 5 (by decide)).trans rfl)) x0 (by rw [qi hd4,hk,q1];rfl)) x1 zB5
   have y1:=zS (op:=.In) (b:=decide (e.1∈M.sh)) x0 (z5 (v:=rf (r1.length+1)) ((a2 4 (by decide)).trans rfl)) (WL hs4)
   refine qF ?_
   rw [q1,decide_eq_decide.mpr (show some (M.be e.1)=some e.2↔M.be e.1=e.2 from ⟨fun h=>Option.some.inj h,fun h=>by rw [h]⟩)]
   cases h1:decide (M.be e.1=e.2) with
   | false=>rw [h1] at y0;exact xC y0
   | true=>rw [h1] at y0;exact xD y0 (qF y1))
  (fun fr' _ _ e _ a3=>z5 a3)
 have e0:M.pv i=.tup [.int (((M.es.take (M.at_ i)).filter fun e=>decide (bst M.st M.es e.1=some e.2) && decide (e.1∈M.sh)).length:Nat),.bool (decide (i∈M.sh))]:=rfl
 generalize hl:(M.es.take (M.at_ i)).filter (fun e=>decide (bst M.st M.es e.1=some e.2) && decide (e.1∈M.sh))=fl' at *
 refine ⟨g1++(g2++[.dict kvs]++[.list ((M.es.take (M.at_ i)).map eA)]++[.list (fl'.map eA)]),?_⟩
 have ea:r++(g1++(g2++[.dict kvs]++[.list ((M.es.take (M.at_ i)).map eA)]++[.list (fl'.map eA)]))=r3++[.list ((M.es.take (M.at_ i)).map eA)]++[.list (fl'.map eA)]:=by
  rw [← hr3,← hr2,← hr1];simp only [List.append_assoc]
 rw [ea,e0]
 refine zM (fr:=[some (rf A.a0),some (.int i),none,none,none,none,none]) rfl rfl (fr':=[some (rf A.a0),some (.int i),some (eA (i,M.be i)),some (.int (M.at_ i:Nat)),some (rf (r1.length+1)),some (rf r2.length),some (rf (r3++[AO.list ((M.es.take (M.at_ i)).map eA)]).length)]) ?_
 unfold kBk
 dsimp only
 refine (z7 (zU (v:=eA (i,M.be i)) (q6 (ev1 (z5 rfl) (ev1 e1 ev0))) (zZ rfl))).trans ?_
 refine (z7 (zU (Z5 (e:=(i,M.be i)) m1 rfl m1 (z5 rfl) b2) (zZ rfl))).trans ?_
 refine (z7 (zU (zp (ev1 (z5 rfl) ev0) e2) (zZ rfl))).trans ?_
 refine (z7 (zU (zp (ev1 (z5 rfl) ev0) e3) (zZ rfl))).trans ?_
 refine (z7 (zU ecomp (zZ rfl))).trans ?_
 refine zL (zm (q6 (ev1 (v:=.int (fl'.length:Nat)) (yv (ev1 (z5 rfl) ev0) ?_) (ev1 (wx (z5 rfl) (z5 rfl) (WL (zI hs4))) ev0))))
 rw [xH,xE,zK]
 show Out.ok (AV.int ((fl'.map eA).length:Nat)) _=_
 rw [List.length_map]
end
set_option genInjectivity false
set_option genSizeOf false
noncomputable abbrev Ad.P (A:Ad):List Nat:=[A.a0,A.a1,A.a2,A.a3,A.a4,A.a5,A.a6,A.a8]++A.cs
theorem zq {P:List Nat} (nd:P.Nodup) {i j a b:Nat} (hi:P[i]? = some a) (hj:P[j]? = some b) (ij:i≠j):a≠b:=fun e=>by
 subst e
 obtain ⟨h1,e1⟩:=y7 hi
 obtain ⟨h2,e2⟩:=y7 hj
 have pw:=List.pairwise_iff_getElem.mp nd
 rcases Nat.lt_or_gt_of_ne ij with h | h
 ·exact pw i j h1 h2 h (e1.trans e2.symm)
 ·exact pw j i h2 h1 h (e2.trans e1.symm)
theorem qU {A:Ad} (nd:A.P.Nodup) {i j a b:Nat} (hi:A.P[i]? = some a) (h8:i<8) (hj:A.cs[j]? = some b):a≠b:=zq nd hi (j:=8+j) (by
 show ([A.a0,A.a1,A.a2,A.a3,A.a4,A.a5,A.a6,A.a8]++A.cs)[8+j]? = _
 exact (yH [A.a0,A.a1,A.a2,A.a3,A.a4,A.a5,A.a6,A.a8] A.cs j).trans hj) (Nat.ne_of_lt (Nat.lt_of_lt_of_le h8 (Nat.le_add_right _ _)))
noncomputable def Kq (P:List Nat) (r r':Hp):Prop:=r.length≤r'.length∧∀ (q:Nat) (o:AO),q∉P→r[q]? = some o→r'[q]? = some o
theorem Kq.refl {P:List Nat} {r:Hp}:Kq P r r:=⟨Nat.le_refl _,fun _ _ _ h=>h⟩
theorem Kq.grow {P:List Nat} {r r':Hp} (k:Kq P r r') (g:Hp):Kq P r (r'++g):=⟨Nat.le_trans k.1 (by rw [zT];exact Nat.le_add_right _ _),fun q o a b=>zI (k.2 q o a b)⟩
theorem Kq.set {P:List Nat} {r r':Hp} (k:Kq P r r') {a:Nat} (ha:a∈P) (o:AO):Kq P r (r'.set a o):=⟨by rw [List.length_set];exact k.1,fun q o' n h=>by
 rw [List.getElem?_set_ne (fun (e:a=q)=>n (e▸ha))];exact k.2 q o' n h⟩
theorem Bs.kq {hands:Int} {c k:Nat} {P P':List Nat} {S:Sh} {mvs:List (List (Int×Int))} {cus sg:List (List Int)} {r r':Hp} (A:Bs hands c k P S mvs cus sg r) (K:Kq P r r') (hP:∀ q∈P',q∈P∨(r.length≤q∧q<r'.length)):Bs hands c k P' S mvs cus sg r':=by
 have D:=A.D
 have nm:∀ q,q∈P→q∉S.mv∧q∉S.cu:=fun q h=>(A.p q h).2
 refine ⟨A.V,⟨D.ml,D.cl,fun i k ps h1 h2=>K.2 k _ (fun h=>(nm k h).1 (yF h1)) (D.m i k ps h1 h2),fun i k ds h1 h2=>K.2 k _ (fun h=>(nm k h).2 (yF h1)) (D.c i k ds h1 h2),D.nd⟩,fun d us h=>?_,fun q hq=>?_,A.hd,A.bb,A.bl,A.bn,A.al,A.lz⟩
 ·obtain ⟨hd',w,q,b,c,e1,e2,e3⟩:=A.N d us h
  refine ⟨hd',w,q,b,K.2 q _ e3 c,e1,e2,fun m=>?_⟩
  rcases hP q m with m | m
  ·exact e3 m
  ·exact absurd (y7 c).1 (Nat.not_lt.mpr m.1)
 ·rcases hP q hq with m | m
  ·obtain ⟨p1,p2⟩:=A.p q m
   exact ⟨Nat.lt_of_lt_of_le p1 K.1,p2⟩
  ·exact ⟨m.2,D.ge m.1⟩
section
variable {hn:Int} {M:Md} {A:Ad} {r:Hp}
theorem wK {r:Hp} {a:Nat} {o o':AO} (h:r[a]? = some o'):(r.set a o)[a]? = some o:=List.getElem?_set_self (y7 h).1
theorem zJ {r:Hp} {a b:Nat} {o o':AO} (ne:a≠b) (h:r[b]? = some o'):(r.set a o)[b]? = some o':=(List.getElem?_set_ne ne).trans h
theorem Mo.s1 (m:Mo hn M A r) (nd:A.P.Nodup) (v:List En):Mo hn { M with es:=v } A (r.set A.a1 (.list (v.map eA))) :=
 ⟨zJ (zq nd (i:=1) (j:=0) rfl rfl (by decide)) m.e0,wK m.e1,zJ (zq nd (i:=1) (j:=2) rfl rfl (by decide)) m.e2,zJ (zq nd (i:=1) (j:=3) rfl rfl (by decide)) m.e3,zJ (zq nd (i:=1) (j:=4) rfl rfl (by decide)) m.e4,zJ (zq nd (i:=1) (j:=5) rfl rfl (by decide)) m.e5,zJ (zq nd (i:=1) (j:=6) rfl rfl (by decide)) m.e6,zJ (zq nd (i:=1) (j:=7) rfl rfl (by decide)) m.e8,fun i k ds a b=>zJ (qU nd (i:=1) rfl (by decide) a) (m.ec i k ds a b),m.cl⟩
theorem Mo.s2 (m:Mo hn M A r) (nd:A.P.Nodup) (v:List Nat):Mo hn { M with le:=v } A (r.set A.a2 (.list (v.map ch))) :=
 ⟨zJ (zq nd (i:=2) (j:=0) rfl rfl (by decide)) m.e0,zJ (zq nd (i:=2) (j:=1) rfl rfl (by decide)) m.e1,wK m.e2,zJ (zq nd (i:=2) (j:=3) rfl rfl (by decide)) m.e3,zJ (zq nd (i:=2) (j:=4) rfl rfl (by decide)) m.e4,zJ (zq nd (i:=2) (j:=5) rfl rfl (by decide)) m.e5,zJ (zq nd (i:=2) (j:=6) rfl rfl (by decide)) m.e6,zJ (zq nd (i:=2) (j:=7) rfl rfl (by decide)) m.e8,fun i k ds a b=>zJ (qU nd (i:=2) rfl (by decide) a) (m.ec i k ds a b),m.cl⟩
theorem Mo.s3 (m:Mo hn M A r) (nd:A.P.Nodup) (v:List AV):Mo hn { M with ca:=v } A (r.set A.a3 (.list (v))) :=
 ⟨zJ (zq nd (i:=3) (j:=0) rfl rfl (by decide)) m.e0,zJ (zq nd (i:=3) (j:=1) rfl rfl (by decide)) m.e1,zJ (zq nd (i:=3) (j:=2) rfl rfl (by decide)) m.e2,wK m.e3,zJ (zq nd (i:=3) (j:=4) rfl rfl (by decide)) m.e4,zJ (zq nd (i:=3) (j:=5) rfl rfl (by decide)) m.e5,zJ (zq nd (i:=3) (j:=6) rfl rfl (by decide)) m.e6,zJ (zq nd (i:=3) (j:=7) rfl rfl (by decide)) m.e8,fun i k ds a b=>zJ (qU nd (i:=3) rfl (by decide) a) (m.ec i k ds a b),m.cl⟩
theorem Mo.s5 (m:Mo hn M A r) (nd:A.P.Nodup) (v:List AV):Mo hn { M with dd:=v } A (r.set A.a5 (.list (v))) :=
 ⟨zJ (zq nd (i:=5) (j:=0) rfl rfl (by decide)) m.e0,zJ (zq nd (i:=5) (j:=1) rfl rfl (by decide)) m.e1,zJ (zq nd (i:=5) (j:=2) rfl rfl (by decide)) m.e2,zJ (zq nd (i:=5) (j:=3) rfl rfl (by decide)) m.e3,zJ (zq nd (i:=5) (j:=4) rfl rfl (by decide)) m.e4,wK m.e5,zJ (zq nd (i:=5) (j:=6) rfl rfl (by decide)) m.e6,zJ (zq nd (i:=5) (j:=7) rfl rfl (by decide)) m.e8,fun i k ds a b=>zJ (qU nd (i:=5) rfl (by decide) a) (m.ec i k ds a b),m.cl⟩
theorem Mo.s6 (m:Mo hn M A r) (nd:A.P.Nodup) (v:List Bool):Mo hn { M with st:=v } A (r.set A.a6 (.list (v.map AV.bool))) :=
 ⟨zJ (zq nd (i:=6) (j:=0) rfl rfl (by decide)) m.e0,zJ (zq nd (i:=6) (j:=1) rfl rfl (by decide)) m.e1,zJ (zq nd (i:=6) (j:=2) rfl rfl (by decide)) m.e2,zJ (zq nd (i:=6) (j:=3) rfl rfl (by decide)) m.e3,zJ (zq nd (i:=6) (j:=4) rfl rfl (by decide)) m.e4,zJ (zq nd (i:=6) (j:=5) rfl rfl (by decide)) m.e5,wK m.e6,zJ (zq nd (i:=6) (j:=7) rfl rfl (by decide)) m.e8,fun i k ds a b=>zJ (qU nd (i:=6) rfl (by decide) a) (m.ec i k ds a b),m.cl⟩
theorem Mo.s4 (m:Mo hn M A r) (nd:A.P.Nodup) {cs':List Nat} (hc:∀ k∈cs',k≠A.a4∧r[k]? = some (.list [])):Mo hn { M with cus:=M.cus++List.replicate cs'.length [] } { A with cs:=A.cs++cs' } (r.set A.a4 (.list ((A.cs++cs').map rf))):=by
 refine ⟨zJ (zq nd (i:=4) (j:=0) rfl rfl (by decide)) m.e0,zJ (zq nd (i:=4) (j:=1) rfl rfl (by decide)) m.e1,zJ (zq nd (i:=4) (j:=2) rfl rfl (by decide)) m.e2,zJ (zq nd (i:=4) (j:=3) rfl rfl (by decide)) m.e3,wK m.e4,zJ (zq nd (i:=4) (j:=5) rfl rfl (by decide)) m.e5,zJ (zq nd (i:=4) (j:=6) rfl rfl (by decide)) m.e6,zJ (zq nd (i:=4) (j:=7) rfl rfl (by decide)) m.e8,fun i k ds a b=>?_,by rw [zT,zT,List.length_replicate,m.cl]⟩
 have a:(A.cs++cs')[i]? = some k:=a
 have b:(M.cus++List.replicate cs'.length [])[i]? = some ds:=b
 by_cases h:i<A.cs.length
 ·rw [List.getElem?_append_left h] at a
  rw [List.getElem?_append_left (m.cl▸h)] at b
  exact zJ (qU nd (i:=4) rfl (by decide) a) (m.ec i k ds a b)
 ·rw [List.getElem?_append_right (Nat.not_lt.mp h)] at a
  rw [List.getElem?_append_right (m.cl▸Nat.not_lt.mp h)] at b
  obtain ⟨n1,n2⟩:=hc k (yF a)
  have:ds=[]:=List.eq_of_mem_replicate (yF b)
  rw [this]
  exact zJ (fun e=>n1 e.symm) n2
theorem Mo.sc (m:Mo hn M A r) (nd:A.P.Nodup) {i q:Nat} (hq:A.cs[i]? = some q) (v:List Int):Mo hn { M with cus:=M.cus.set i v } A (r.set q (.list (v.map AV.int))):=by
 have hi:i<M.cus.length:=m.cl▸(y7 hq).1
 refine ⟨zJ (fun e=>qU nd (i:=0) rfl (by decide) hq e.symm) m.e0,zJ (fun e=>qU nd (i:=1) rfl (by decide) hq e.symm) m.e1,zJ (fun e=>qU nd (i:=2) rfl (by decide) hq e.symm) m.e2,zJ (fun e=>qU nd (i:=3) rfl (by decide) hq e.symm) m.e3,zJ (fun e=>qU nd (i:=4) rfl (by decide) hq e.symm) m.e4,zJ (fun e=>qU nd (i:=5) rfl (by decide) hq e.symm) m.e5,zJ (fun e=>qU nd (i:=6) rfl (by decide) hq e.symm) m.e6,zJ (fun e=>qU nd (i:=7) rfl (by decide) hq e.symm) m.e8,fun j k ds a b=>?_,by rw [List.length_set];exact m.cl⟩
 have b:(M.cus.set i v)[j]? = some ds:=b
 by_cases h:i=j
 ·subst h
  rw [List.getElem?_set_self hi] at b
  cases b
  rw [hq] at a;cases a
  exact wK (m.ec i q _ hq (zu hi))
 ·rw [List.getElem?_set_ne h] at b
  have ne:q≠k:=fun e=>by
   subst e
   have nd2:A.cs.Nodup:=(List.nodup_append.mp nd).2.1
   exact zq nd2 hq a h rfl
  exact zJ ne (m.ec j k ds a b)
theorem Mo.s8 (m:Mo hn M A r) (nd:A.P.Nodup) {q:Nat} {v:List Int} (n0:A.a0≠q) (h8:r[q]? = some (.list (v.map AV.int))):Mo hn { M with gn:=v } { A with a8:=q } (r.set A.a0 (.dicS (Ad.kv { A with a8:=q } hn))) :=
 ⟨wK m.e0,zJ (zq nd (i:=0) (j:=1) rfl rfl (by decide)) m.e1,zJ (zq nd (i:=0) (j:=2) rfl rfl (by decide)) m.e2,zJ (zq nd (i:=0) (j:=3) rfl rfl (by decide)) m.e3,zJ (zq nd (i:=0) (j:=4) rfl rfl (by decide)) m.e4,zJ (zq nd (i:=0) (j:=5) rfl rfl (by decide)) m.e5,zJ (zq nd (i:=0) (j:=6) rfl rfl (by decide)) m.e6,zJ n0 h8,fun i k ds a b=>zJ (qU nd (i:=0) rfl (by decide) a) (m.ec i k ds a b),m.cl⟩
end
theorem zEf {S:Sh} {r:Hp} {src:Src} {xs:List AV} {cf:CF} {i:Nat} (hs:∀ k G,src.next? (S.hp (r++G)) k=some xs[k]?) (z:xs.length<small):∀ (m k:Nat) (fr:AFr),k+m=xs.length→i<fr.length →
  yr (.one i) (zQ .And []) (zX []) src (m+1) k ((List.range k).map fun j=>rf (r.length+j)) cf fr (S.hp (r++List.replicate k (.list [])))=.ok ((List.range xs.length).map fun j=>rf (r.length+j)) (S.hp (r++List.replicate xs.length (.list []))):=by
 intro m
 induction m with
 | zero =>
  intro k fr hk hi
  have hk:k=xs.length:=hk
  subst hk
  rw [qo,hs,List.getElem?_eq_none (Nat.le_refl _)]
 | succ m ih =>
  intro k fr hk hi
  have hlt:k<xs.length:=by lia
  rw [qo,hs,zu hlt]
  dsimp only
  rw [show NTgt.bind (.one i) xs[k] fr=some (fr.set i (some xs[k])) from if_pos hi]
  dsimp only
  rw [show zQ .And [] cf (fr.set i (some xs[k])) (S.hp (r++List.replicate k (.list [])))=.ok true _ from rfl,Out.bind0_ok,if_pos rfl,zy ev0]
  rw [Out.bind0_ok,if_pos (by rw [List.length_map,List.length_range];exact Nat.lt_trans hlt z)]
  have e1:((List.range k).map fun j=>rf (r.length+j))++[AV.ref (S.hp (r++List.replicate k (.list []))).length]=(List.range (k+1)).map fun j=>rf (r.length+j):=by
   rw [List.range_succ,List.map_append]
   have:(S.hp (r++List.replicate k (.list []))).length=r.length+k+15:=by
    show (r++List.replicate k (AO.list [])).length+15=_
    rw [zT,List.length_replicate]
   rw [this];rfl
  have e2:S.hp (r++List.replicate k (.list []))++[AO.list []]=S.hp (r++List.replicate (k+1) (.list [])):=by
   show S.hp (r++List.replicate k (.list [])++[AO.list []])=_
   rw [List.append_assoc,← List.replicate_succ']
  rw [e1,e2]
  exact ih (k+1) _ (by lia) (by rw [List.length_set];exact hi)
theorem z10 {S:Sh} {r:Hp} {it:XE} {v:AV} {src:Src} {xs:List AV} {cf:CF} {fr:AFr} {h:Hp} {i:Nat} (e:it cf fr h=.ok v (S.hp r)) (es:yk (S.hp r) v=some (src,xs.length)) (hs:∀ k G,src.next? (S.hp (r++G)) k=some xs[k]?) (z:xs.length<small) (hi:i<(fr++List.replicate 1 none).length) :
  zj it 1 (.one i) (zQ .And []) (zX []) cf fr h=.ok (rf (r.length+xs.length)) (S.hp (r++List.replicate xs.length (.list [])++[.list ((List.range xs.length).map fun j=>rf (r.length+j))])):=by
 unfold zj
 rw [e,Out.bind_ok,es]
 dsimp only
 have:=zEf (S:=S) (r:=r) (cf:=cf) (i:=i) hs z xs.length 0 (fr++List.replicate 1 none) (Nat.zero_add _) hi
 rw [show (List.range 0).map (fun j=>rf (r.length+j))=[] from rfl,show r++List.replicate 0 (AO.list [])=r from List.append_nil r] at this
 rw [this,Out.bind0_ok]
 have:(S.hp (r++List.replicate xs.length (.list []))).length=r.length+xs.length+15:=by
  show (r++List.replicate xs.length (AO.list [])).length+15=_
  rw [zT,List.length_replicate]
 rw [this];rfl
set_option genInjectivity false
set_option genSizeOf false
section
variable {cf:CF} {fr:AFr} {S:Sh} {r r0:Hp} {ox x:XE} {v:AV} {a b:Nat} {xs xs0 ys:List AV} {okf:Str→Str→Bool}
theorem Qv (eo:ox cf fr (S.hp r0)=.ok (rf a) (S.hp r0)) (h0:r0[a]? = some (.list xs0)) (ex:x cf fr (S.hp r0)=.ok v (S.hp r)) (h:r[a]? = some (.list xs)) (z:xs.length<small):zN (zB ox "append" (some .append) [x]) cf fr (S.hp r0)=.ok .next fr (S.hp (r.set a (.list (xs++[v])))):=by
 refine zn (v:=.none) (ww (a:=a+15) eo (show (S.hp r0)[a+15]? = _ from h0) (ev1 ex ev0) ?_)
 rw [xm,show (S.hp r)[a+15]? = _ from h]
 show (if xs.length<small then Out.ok AV.none (S.hp (r.set a (.list (xs++[v])))) else .stuck)=_
 rw [if_pos z]
theorem Ql (eo:ox cf fr (S.hp r0)=.ok (rf a) (S.hp r0)) (h0:r0[a]? = some (.list xs0)) (ex:x cf fr (S.hp r0)=.ok (rf b) (S.hp r)) (h:r[a]? = some (.list xs)) (hb:r[b]? = some (.list ys)) (z:xs.length+ys.length<small) {r':Hp} (er:r.set a (.list (xs++ys))=r'):zN (zB ox "extend" (some .extend) [x]) cf fr (S.hp r0)=.ok .next fr (S.hp r'):=by
 subst er
 exact zn (v:=.none) (ww (a:=a+15) eo (show (S.hp r0)[a+15]? = _ from h0) (ev1 ex ev0) (z0g (show (S.hp r)[a+15]? = _ from h) (show (S.hp r)[b+15]? = _ from hb) z))
end
section
variable {hn:Int} {M:Md} {A:Ad} {r:Hp} {S:Sh} {cf:CF} {fr:AFr} {okf:Str→Str→Bool}
theorem ja (m:Mo hn M A r) (nd:A.P.Nodup) {hd:AV} {w:AV} {num sg:AV} (f0:fr[0]? = some (some (rf A.a0))) (f2:fr[2]? = some (some hd)) (f3:fr[3]? = some (some w)) (f8:fr[8]? = some (some num)) (f10:fr[10]? = some (some sg)) (z1:M.dd.length<small) (z2:M.st.length<small) :
  zD [(zN (zB (zF (z6 0) (z8 (.str "deeds"))) "append" (some .append) [(xU [(z6 2),(z6 3),(z6 10)])])),(zN (zB (zF (z6 0) (z8 (.str "stays"))) "append" (some .append) [(z8 (.bool true))])),(zf (z6 8))] cf fr (S.hp r)=.ok (.ret num) fr (S.hp ((r.set A.a5 (.list (M.dd++[.tup [hd,w,sg]]))).set A.a6 (.list ((M.st++[true]).map AV.bool)))) ∧
   Mo hn { M with dd:=M.dd++[.tup [hd,w,sg]],st:=M.st++[true] } A ((r.set A.a5 (.list (M.dd++[.tup [hd,w,sg]]))).set A.a6 (.list ((M.st++[true]).map AV.bool))):=by
 have m1:=m.s5 nd (M.dd++[.tup [hd,w,sg]])
 refine ⟨(z7 (Qv (m.get f0 w1) m.e5 (q6 (ev1 (z5 f2) (ev1 (z5 f3) (ev1 (z5 f10) ev0)))) m.e5 z1)).trans ((z7 ((Qv (m1.get f0 wh) m1.e6 rfl m1.e6 (by rw [List.length_map];exact z2)).trans ?_)).trans (zL (zm (z5 f8)))),m1.s6 nd (M.st++[true])⟩
 rw [List.map_append];rfl
end
theorem Mo.inP {hn:Int} {M:Md} {A:Ad} {r:Hp} (m:Mo hn M A r):∀ x∈A.P,x<r.length:=fun x hx=>by
 rcases yn hx with h | h
 ·rcases List.mem_cons.mp h with rfl | h
  ·exact (y7 m.e0).1
  rcases List.mem_cons.mp h with rfl | h
  ·exact (y7 m.e1).1
  rcases List.mem_cons.mp h with rfl | h
  ·exact (y7 m.e2).1
  rcases List.mem_cons.mp h with rfl | h
  ·exact (y7 m.e3).1
  rcases List.mem_cons.mp h with rfl | h
  ·exact (y7 m.e4).1
  rcases List.mem_cons.mp h with rfl | h
  ·exact (y7 m.e5).1
  rcases List.mem_cons.mp h with rfl | h
  ·exact (y7 m.e6).1
  rcases List.mem_cons.mp h with rfl | h
  ·exact (y7 m.e8).1
  cases h
 ·obtain ⟨l,hl⟩:=List.getElem?_of_mem h
  have l2:l<M.cus.length:=m.cl▸(y7 hl).1
  exact (y7 (m.ec l x _ hl (zu l2))).1
theorem Mk.ap_le {M:Md} (k:Mk M) {p:Int} (p0:0≤p) (p1:p≤M.sh.length):M.ap p≤M.es.length:=by
 unfold Md.ap
 by_cases h:p=0
 ·rw [if_pos h];exact Nat.zero_le _
 ·rw [if_neg h]
  have hlt:(p - 1).toNat<M.sh.length:=by lia
  obtain ⟨x,hx⟩:∃ x,M.sh[(p - 1).toNat]? = some x:=⟨_,zu hlt⟩
  rw [hx]
  obtain ⟨x0,x1⟩:=k.sh_rng (yF hx)
  exact WO (k.be_mem x0 x1).2
theorem XN {S:Sh} {r:Hp} {a b k:Nat} {xs ys:List AV} (e:r[a]? = some (.list xs)) (e':r[b]? = some (.list ys)) (ne:a≠b) (hk:k≤xs.length) (z:xs.length+ys.length≤small):wL (S.hp r) (rf a) (.int k) (.int k) (rf b)=some (S.hp (r.set a (.list (xs.take k++ys++xs.drop k)))) :=
 z1y (h:=S.hp r) (a:=a+15) (b:=b+15) e e' (fun h=>ne (Nat.add_right_cancel h)) hk z
theorem Kq.of_grow {P:List Nat} {r g:Hp}:Kq P r (r++g):=Kq.refl.grow g
theorem Kq.trans {P:List Nat} {r r' r'':Hp} (a:Kq P r r') (b:Kq P r' r''):Kq P r r'':=⟨Nat.le_trans a.1 b.1,fun q o n h=>b.2 q o n (a.2 q o n h)⟩
section
variable {T:Tab} {okf:Str→Str→Bool} (X:TT T okf) {n:Nat} {hn:Int} {M:Md} {A:Ad} {r:Hp} {S:Sh}
noncomputable abbrev Md.cut (M:Md) (i j:Int):List Int:=(M.sh.take j.toNat).drop i.toNat
include X
theorem jb (m:Mo hn M A r) (k:Mk M) {hd:Int} {w:Str} {i j p:Int} {t:Str} (i0:0≤i) (j0:0≤j) (i1:i≤1000) (j1:j≤1000) :
  ∃ g q q',(r++g)[q]? = some (.list ((M.cut i j).map AV.int))∧r.length≤q ∧
   ∀ {rest:List XS} {res:OS},(zD rest (run T (n+3)) [some (rf A.a0),some (.tup [.int hd,.str w,.int i,.int j,.int p,.str t]),some (.int hd),some (.str w),some (.int i),some (.int j),some (.int p),some (.str t),some (.int M.dd.length),some (rf q'),some (rf q),none,none] (S.hp (r++g))=res →
   zD ((z9 okf (.names (.many [2,3,4,5,6,7])) (z6 1))::(z9 okf (.names (.one 8)) (zC (zA (some (.bi .len))) [(zF (z6 0) (z8 (.str "deeds")))]))::(z9 okf (.names (.one 9)) (zC (zA (some (.fn "_law_shown"))) [(z6 0)]))::(z9 okf (.names (.one 10)) (wn (z6 9) (z6 4) (z6 5)))::rest)
    (run T (n+3)) [some (rf A.a0),some (.tup [.int hd,.str w,.int i,.int j,.int p,.str t]),none,none,none,none,none,none,none,none,none,none,none] (S.hp r)=res):=by
 obtain ⟨g,e,hg⟩:=qz X (n:=n+1) (S:=S) m k
 refine ⟨g++[AO.list ((M.cut i j).map AV.int)],(r++g).length,r.length+1,by rw [← List.append_assoc];exact zK _ _ [],by rw [zT];exact Nat.le_add_right _ _,fun {rest res} h=>?_⟩
 have oi:okI i=true:=yQ.mpr ⟨i0,by lia⟩
 have oj:okI j=true:=yQ.mpr ⟨j0,by lia⟩
 refine (z7 (Z7 (z5 rfl) rfl)).trans ((z7 (zU (v:=.int M.dd.length) (h1:=S.hp r) (yv (ev1 (m.get rfl w1) ev0) ?_) (zZ rfl))).trans ((z7 (zU (zp (ev1 (z5 rfl) ev0) e) (zZ rfl))).trans
  ((z7 (zU (v:=rf (r++g).length) (h1:=S.hp (r++(g++[AO.list ((M.cut i j).map AV.int)]))) ((XU (z5 rfl) (z5 rfl) (z5 rfl) (ZC (show (S.hp (r++g))[r.length+1+15]? = _ from hg) (xS oi) (xS oj) (by rw [List.length_map];exact Nat.le_trans (Nat.le_of_lt k.sh_len) (by decide)))).trans ?_) (zZ rfl))).trans h)))
 ·rw [xH,xE,show (S.hp r)[A.a5+15]? = _ from m.e5];rfl
 ·rw [← List.append_assoc]
  show Out.ok (rf (r++g).length) (S.hp (r++g++[.list (wH (M.sh.map AV.int) i.toNat (some j.toNat))]))=_
  rw [show wH (M.sh.map AV.int) i.toNat (some j.toNat)=(M.cut i j).map AV.int from by
   show ((M.sh.map AV.int).take j.toNat).drop i.toNat=_
   rw [← List.map_take,← List.map_drop]]
theorem z0k (m:Mo hn M A r) (nd:A.P.Nodup) (k:Mk M) {hd i j p:Int} (i0:0≤i) (j0:0≤j) (i1:i≤1000) (j1:j≤1000) (p0:0≤p) (p1:p≤M.sh.length) (zd:M.dd.length<200) :
  ∃ r' t,run T (n+4) (.fn "_law_deed") [rf A.a0,Deed.av hd (.mov i j p)] (S.hp r)=.ok (.int M.dd.length) (S.hp r')∧Kq A.P r r' ∧
   Mo hn { M with es:=M.es.take (M.ap p)++(M.cut i j).map (fun x=>(x,some (M.dd.length:Int)))++M.es.drop (M.ap p),dd:=M.dd++[.tup (.int hd::t)],st:=M.st++[true] } A r':=by
 rw [ya X.kBm]
 obtain ⟨g,q,q',hq,lq,head⟩:=jb X (n:=n) (S:=S) (w := "move") (t := "") (p:=p) (hd:=hd) (okf:=okf) m k i0 j0 i1 j1
 have m1:=m.grow g
 obtain ⟨g2,ea⟩:=WK X (n:=n) (S:=S) m1 k p0 p1
 have m2:=m1.grow g2
 have hq2:=zI (l:=g2) hq
 have K2:Kq A.P r (r++g++g2):=Kq.of_grow.grow g2
 have lq2:r.length≤q:=lq
 generalize r++g++g2=r2 at *
 have zc:(M.cut i j).length<200:=Nat.lt_of_le_of_lt (by rw [List.length_drop,List.length_take];lia) k.sh_len
 have hap:=k.ap_le p0 p1
 have ec:zj (z6 10) 1 (.one 13) (zQ .And []) (xU [(z6 13),(z6 8)]) (run T (n+3)) [some (rf A.a0),some (Deed.av hd (.mov i j p)),some (.int hd),some (.str "move"),some (.int i),some (.int j),some (.int p),some (.str ""),some (.int M.dd.length),some (rf q'),some (rf q),some (.int (M.ap p:Nat)),none] (S.hp r2)=.ok (rf r2.length) (S.hp (r2++[.list (((M.cut i j).map (fun x=>(x,some (M.dd.length:Int)))).map eA)])):=by
  refine (yK AV.int (i:=13) (a:=q+15) (l:=M.cut i j) (p:=fun _=>true) (f:=fun x=>eA (x,some (M.dd.length:Int))) (z5 rfl) (show (S.hp r2)[q+15]? = _ from hq2) (zZ rfl) (Nat.lt_trans zc (by decide)) (fun _ _ _ _ _ _=>rfl)
   (fun fr' _ a2 x _ a3=>q6 (ev1 (z5 a3) (ev1 (z5 (v:=.int M.dd.length) ((a2 8 (by decide)).trans rfl)) ev0)))).trans ?_
  rw [List.filter_eq_self.mpr fun _ _=>rfl,List.map_map];rfl
 have m3:=m2.grow [.list (((M.cut i j).map (fun x=>(x,some (M.dd.length:Int)))).map eA)]
 have l1:=(y7 m2.e1).1
 have es:=XN (S:=S) (k:=M.ap p) m3.e1 (zK r2 _ []) (Nat.ne_of_lt l1) (by rw [List.length_map];exact hap) (by rw [List.length_map,List.length_map,List.length_map];have:=k.z1;show _≤1048576;lia)
 have m4:=m3.s1 nd (M.es.take (M.ap p)++(M.cut i j).map (fun x=>(x,some (M.dd.length:Int)))++M.es.drop (M.ap p))
 obtain ⟨et,m5⟩:=ja (S:=S) (cf:=run T (n+3)) (fr:=[some (rf A.a0),some (Deed.av hd (.mov i j p)),some (.int hd),some (.str "move"),some (.int i),some (.int j),some (.int p),some (.str ""),some (.int M.dd.length),some (rf q'),some (rf q),some (.int (M.ap p:Nat)),none]) m4 nd rfl rfl rfl rfl rfl (Nat.lt_trans zd (by decide)) (Nat.lt_trans k.z2 (by decide))
 refine ⟨_,_,zM (fr:=[some (rf A.a0),some (Deed.av hd (.mov i j p)),none,none,none,none,none,none,none,none,none,none,none]) rfl rfl (fr':=[some (rf A.a0),some (Deed.av hd (.mov i j p)),some (.int hd),some (.str "move"),some (.int i),some (.int j),some (.int p),some (.str ""),some (.int M.dd.length),some (rf q'),some (rf q),some (.int (M.ap p:Nat)),none]) ?_,?_,m5⟩
 ·unfold kBm
  dsimp only
  refine head ?_
  refine (z7 ((zH (zS (z5 rfl) rfl zCi)).trans ((z7 ((zH (zS (z5 rfl) rfl zCj)).trans ((z7 (zU (zp (ev1 (z5 rfl) (ev1 (z5 rfl) ev0)) ea) (zZ rfl))).trans ((z7 ((Jd ec (m3.get rfl YH) (z5 rfl) (z5 rfl) es).trans ?_)).trans zE)))).trans zE))).trans et
  show OS.ok .next _ (S.hp ((r2++_).set A.a1 _))=_
  rw [← List.map_take,← List.map_drop,← List.map_append,← List.map_append]
 ·exact ((K2.grow _).set (.tail _ (.head _)) _ |>.set (.tail _ (.tail _ (.tail _ (.tail _ (.tail _ (.head _)))))) _).set (.tail _ (.tail _ (.tail _ (.tail _ (.tail _ (.tail _ (.head _))))))) _
omit X in
theorem z2u {M:Md} (k:Mk M) {i j:Int}:(M.cut i j).length<200:=Nat.lt_of_le_of_lt (by rw [List.length_drop,List.length_take];lia) k.sh_len
theorem z0l (m:Mo hn M A r) (nd:A.P.Nodup) (k:Mk M) {hd i j:Int} (i0:0≤i) (j0:0≤j) (i1:i≤1000) (j1:j≤1000) (zd:M.dd.length<200) :
  ∃ r' t,run T (n+4) (.fn "_law_deed") [rf A.a0,Deed.av hd (.cut i j)] (S.hp r)=.ok (.int M.dd.length) (S.hp r')∧Kq A.P r r' ∧
   Mo hn { M with cus:=yC M.dd.length M.cus (M.cut i j),dd:=M.dd++[.tup (.int hd::t)],st:=M.st++[true] } A r':=by
 rw [ya X.kBm]
 obtain ⟨g,q,q',hq,lq,head⟩:=jb X (n:=n) (S:=S) (w := "cut") (t := "") (p:=0) (hd:=hd) (okf:=okf) m k i0 j0 i1 j1
 have m1:=m.grow g
 have K1:Kq A.P r (r++g):=Kq.of_grow
 have inP:=m.inP
 have nq:q∉A.P:=fun h=>absurd (inP q h) (Nat.not_lt.mpr lq)
 generalize r++g=r1 at *
 have zc:=z2u k (i:=i) (j:=j)
 have rg:∀ x∈M.cut i j,0≤x∧x<M.le.length:=fun x hx=>k.sh_rng (List.mem_of_mem_take (List.mem_of_mem_drop hx))
 generalize hc:M.cut i j=is at *
 obtain ⟨fr',h',e,r2,v12,rfl,rfl,m2,K2,h2,_⟩:=xO (t:=.one 12) (src:=.ref (q+15)) (cf:=run T (n+3)) (xs:=is.map AV.int)
  (body:=(zD [(zN (zB (zF (zF (z6 0) (z8 (.str "cuts"))) (z6 12)) "append" (some .append) [(z6 8)]))]))
  (fun l fr h=>∃ r2 v12,fr=[some (rf A.a0),some (Deed.av hd (.cut i j)),some (.int hd),some (.str "cut"),some (.int i),some (.int j),some (.int 0),some (.str ""),some (.int M.dd.length),some (rf q'),some (rf q),none,v12]∧h=S.hp r2∧Mo hn { M with cus:=yC M.dd.length M.cus (is.take l) } A r2∧Kq A.P r r2∧r2[q]? = some (.list (is.map AV.int))∧∀ ds∈yC M.dd.length M.cus (is.take l),ds.length<200+l)
  (fun l fr h p=>by
   obtain ⟨r2,v12,rfl,rfl,_,_,hq2,_⟩:=p
   exact xw (show (S.hp r2)[q+15]? = _ from hq2))
  (fun l x fr h p hx=>by
   obtain ⟨r2,v12,rfl,rfl,m2,K2,hq2,zl⟩:=p
   rw [List.getElem?_map] at hx
   obtain ⟨y,hy,rfl⟩:=y9 hx
   have hl:=(y7 hy).1
   obtain ⟨y0,y1⟩:=rg y (yF hy)
   have tk1:is.take (l+1)=is.take l++[y]:=by rw [List.take_succ,hy];rfl
   have ly:y.toNat<(yC M.dd.length M.cus (is.take l)).length:=by rw [j7,k.cl];exact qb y0 y1
   have lc:y.toNat<A.cs.length:=by rw [m2.cl];exact ly
   obtain ⟨qs,hqs⟩:∃ qs,A.cs[y.toNat]? = some qs:=⟨_,zu lc⟩
   obtain ⟨ds,hds⟩:∃ ds,(yC M.dd.length M.cus (is.take l))[y.toNat]? = some ds:=⟨_,zu ly⟩
   have hl2:=m2.ec _ _ _ hqs hds
   have zd2:=zl ds (yF hds)
   have oy:okI y=true:=yQ.mpr ⟨y0,by have:=k.z3;lia⟩
   have ec:yC M.dd.length M.cus (is.take (l+1))=(yC M.dd.length M.cus (is.take l)).set y.toNat (ds++[(M.dd.length:Int)]):=by rw [tk1,ju,hds];rfl
   refine ⟨_,_,_,rfl,(z7 ((Qv (S:=S) (r:=r2) (r0:=r2) (a:=qs) (xs0:=ds.map AV.int) (xs:=ds.map AV.int) (v:=.int M.dd.length) (zv (m2.get rfl Qe) (z5 rfl) (Qh (show (S.hp r2)[A.a4+15]? = _ from m2.e4) oy (by rw [List.getElem?_map,hqs];rfl))) hl2 (z5 rfl) hl2 (by rw [List.length_map];show _<1048576;lia)).trans rfl)).trans zE,r2.set qs (.list ((ds++[(M.dd.length:Int)]).map AV.int)),_,rfl,?_,?_,K2.set (List.mem_append_right _ (yF hqs)) _,zJ (fun e=>nq (e▸List.mem_append_right _ (yF hqs))) hq2,?_⟩
   ·rw [List.map_append];rfl
   ·rw [ec];exact m2.sc nd hqs _
   ·intro ds' hd'
    rw [ec] at hd'
    rcases List.mem_or_eq_of_mem_set hd' with h | h
    ·exact Nat.lt_succ_of_lt (zl _ h)
    ·rw [h,zT];exact Nat.succ_lt_succ zd2)
  (fr:=[some (rf A.a0),some (Deed.av hd (.cut i j)),some (.int hd),some (.str "cut"),some (.int i),some (.int j),some (.int 0),some (.str ""),some (.int M.dd.length),some (rf q'),some (rf q),none,none]) (h:=S.hp r1) ⟨r1,none,rfl,rfl,m1,K1,hq,fun ds h=>(k.cr ds h).1⟩
 rw [List.length_map,List.take_length] at m2
 obtain ⟨et,m5⟩:=ja (S:=S) (cf:=run T (n+3)) (fr:=[some (rf A.a0),some (Deed.av hd (.cut i j)),some (.int hd),some (.str "cut"),some (.int i),some (.int j),some (.int 0),some (.str ""),some (.int M.dd.length),some (rf q'),some (rf q),none,v12]) m2 nd rfl rfl rfl rfl rfl (Nat.lt_trans zd (by decide)) (Nat.lt_trans k.z2 (by decide))
 refine ⟨_,_,zM (fr:=[some (rf A.a0),some (Deed.av hd (.cut i j)),none,none,none,none,none,none,none,none,none,none,none]) rfl rfl (fr':=[some (rf A.a0),some (Deed.av hd (.cut i j)),some (.int hd),some (.str "cut"),some (.int i),some (.int j),some (.int 0),some (.str ""),some (.int M.dd.length),some (rf q'),some (rf q),none,v12]) ?_,?_,m5⟩
 ·unfold kBm
  dsimp only
  refine head ?_
  exact (z7 ((zH (zS (z5 rfl) rfl zCk)).trans ((z7 ((zi (zS (z5 rfl) rfl zCl)).trans ((z7 (wO (en:=false) (z5 rfl) (wa (show (S.hp r1)[q+15]? = _ from hq)) e)).trans zE))).trans zE))).trans et
 ·exact (K2.set (.tail _ (.tail _ (.tail _ (.tail _ (.tail _ (.head _)))))) _).set (.tail _ (.tail _ (.tail _ (.tail _ (.tail _ (.tail _ (.head _))))))) _
end
set_option genInjectivity false
set_option genSizeOf false
theorem ZO {a k:Nat}:xB (a:Int) ((a:Int)+(k:Int))=(zO a k).map AV.int:=by
 unfold xB zO
 rw [show ((a:Int)+(k:Int) - (a:Int)).toNat=k by lia,List.map_map]
 refine List.map_congr_left fun j _=>?_
 show AV.int ((a:Int)+(j:Int))=AV.int ((a+j:Nat):Int)
 rw [Int.natCast_add]
theorem Zr {ts:List Nat}:yt (tx ts)=ts.map ch:=rfl
theorem z24 {A:Ad} {r:Hp} {c:Nat} (nd:A.P.Nodup) (lt:∀ x∈A.P,x<r.length):(({ A with cs:=A.cs++(List.range c).map fun j=>r.length+j }:Ad).P).Nodup:=by
 show ([A.a0,A.a1,A.a2,A.a3,A.a4,A.a5,A.a6,A.a8]++(A.cs++(List.range c).map fun j=>r.length+j)).Nodup
 rw [← List.append_assoc]
 refine List.nodup_append.mpr ⟨nd,?_,fun x hx y hy e=>?_⟩
 ·rw [List.nodup_iff_pairwise_ne,List.pairwise_map]
  exact List.Pairwise.imp (fun h=>Nat.ne_of_lt (Nat.add_lt_add_left h _)) List.pairwise_lt_range
 ·obtain ⟨j,_,rfl⟩:=List.mem_map.mp hy
  exact absurd (lt x hx) (Nat.not_lt.mpr (e▸Nat.le_add_right _ _))
section
variable {T:Tab} {okf:Str→Str→Bool} (X:TT T okf) {n:Nat} {hn:Int} {M:Md} {A:Ad} {r:Hp} {S:Sh}
include X
theorem z0j (m:Mo hn M A r) (nd:A.P.Nodup) (k:Mk M) {hd p:Int} {ts:List Nat} (p0:0≤p) (p1:p≤M.sh.length) (zd:M.dd.length<200) (z4:ts.length≤4) :
  ∃ r' t cs',run T (n+4) (.fn "_law_deed") [rf A.a0,Deed.av hd (.put p ts)] (S.hp r)=.ok (.int M.dd.length) (S.hp r')∧Kq A.P r r'∧({ A with cs:=A.cs++cs' }:Ad).P.Nodup∧(∀ x∈cs',r.length≤x∧x<r'.length) ∧
   Mo hn { M with es:=M.es.take (M.ap p)++(zO M.le.length ts.length).map (fun x=>(x,none))++M.es.drop (M.ap p),ca:=M.ca++List.replicate ts.length (.int M.dd.length),cus:=M.cus++List.replicate ts.length [],le:=M.le++ts,dd:=M.dd++[.tup (.int hd::t)],st:=M.st++[true] } { A with cs:=A.cs++cs' } r':=by
 rw [ya X.kBm]
 obtain ⟨g,q,q',_,_,head⟩:=jb X (n:=n) (S:=S) (w := "put") (t:=tx ts) (p:=p) (hd:=hd) (okf:=okf) (i:=0) (j:=0) m k (Int.le_refl _) (Int.le_refl _) (by decide) (by decide)
 have m1:=m.grow g
 obtain ⟨g2,ea⟩:=WK X (n:=n) (S:=S) m1 k p0 p1
 have m2:=m1.grow g2
 have K2:Kq A.P r (r++g++g2):=Kq.of_grow.grow g2
 have hap:=k.ap_le p0 p1
 have z3:=k.z3
 have z1:=k.z1
 generalize r++g++g2=r2 at *
 generalize hc:ts.length=c at *
 have li:=zh M.le.length c
 have m3:=m2.grow [AO.list ((zO M.le.length c).map AV.int)]
 have K3:=K2.grow [AO.list ((zO M.le.length c).map AV.int)]
 have h3:(r2++[AO.list ((zO M.le.length c).map AV.int)])[r2.length]? = some (AO.list ((zO M.le.length c).map AV.int)):=zK r2 _ []
 have p3:=m3.inP
 have lenF:∀ {fr:AFr} {r':Hp} {M':Md} {A':Ad},Mo hn M' A' r'→fr[0]? = some (some (rf A'.a0))→zC (zA (some (.bi .len))) [(zF (z6 0) (z8 (.str "faces")))] (run T (n+3)) fr (S.hp r')=.ok (AV.int M'.le.length) (S.hp r'):=fun m' f=>by
  refine yv (ev1 (m'.get f w0) ev0) ?_
  rw [xH,xE,show (S.hp _)[_+15]? = _ from m'.e2]
  show Out.ok (AV.int ((List.map ch _).length:Nat)) _=_
  rw [List.length_map]
 have lenT:∀ {fr:AFr} {h:Hp},fr[7]? = some (some (.str (tx ts)))→zC (zA (some (.bi .len))) [(z6 7)] (run T (n+3)) fr h=.ok (AV.int c) h:=fun f=>by
  refine yv (ev1 (z5 f) ev0) ?_
  rw [xH,len_str,← hc];rfl
 have q2:r2.length∉A.P:=fun h=>absurd (m2.inP _ h) (Nat.lt_irrefl _)
 generalize hr3:r2++[AO.list ((zO M.le.length c).map AV.int)]=r3 at *
 have m4:=m3.grow [AO.list (ts.map ch)]
 have m5:=m4.s2 nd (M.le++ts)
 have K5:=(K3.grow [AO.list (ts.map ch)]).set (a:=A.a2) (.tail _ (.tail _ (.head _))) (AO.list ((M.le++ts).map ch))
 have h5:((r3++[AO.list (ts.map ch)]).set A.a2 (AO.list ((M.le++ts).map ch)))[r2.length]? = some (AO.list ((zO M.le.length c).map AV.int)):=zJ (fun e=>q2 (e▸.tail _ (.tail _ (.head _)))) (zI h3)
 generalize hr5:(r3++[AO.list (ts.map ch)]).set A.a2 (AO.list ((M.le++ts).map ch))=r5 at *
 have m6:=(m5.grow [AO.list [AV.int M.dd.length]]).grow [AO.list (List.replicate c (AV.int M.dd.length))]
 have m7:=m6.s3 nd (M.ca++List.replicate c (AV.int M.dd.length))
 have K7:=((K5.grow [AO.list [AV.int M.dd.length]]).grow [AO.list (List.replicate c (AV.int M.dd.length))]).set (a:=A.a3) (.tail _ (.tail _ (.tail _ (.head _)))) (AO.list (M.ca++List.replicate c (AV.int M.dd.length)))
 have h7:((r5++[AO.list [AV.int M.dd.length]]++[AO.list (List.replicate c (AV.int M.dd.length))]).set A.a3 (AO.list (M.ca++List.replicate c (AV.int M.dd.length))))[r2.length]? = some (AO.list ((zO M.le.length c).map AV.int)):=zJ (fun e=>q2 (e▸.tail _ (.tail _ (.tail _ (.head _))))) (zI (zI h5))
 generalize hr7:(r5++[AO.list [AV.int M.dd.length]]++[AO.list (List.replicate c (AV.int M.dd.length))]).set A.a3 (AO.list (M.ca++List.replicate c (AV.int M.dd.length)))=r7 at *
 have m8:=(m7.grow (List.replicate c (AO.list []))).grow [AO.list ((List.range c).map fun j=>rf (r7.length+j))]
 have K8:=(K7.grow (List.replicate c (AO.list []))).grow [AO.list ((List.range c).map fun j=>rf (r7.length+j))]
 have hcs:∀ x∈(List.range c).map (fun j=>r7.length+j),x≠A.a4∧(r7++List.replicate c (AO.list [])++[AO.list ((List.range c).map fun j=>rf (r7.length+j))])[x]? = some (AO.list []):=fun x hx=>by
  obtain ⟨j,hj,rfl⟩:=List.mem_map.mp hx
  refine ⟨fun e=>absurd (m7.inP A.a4 (.tail _ (.tail _ (.tail _ (.tail _ (.head _)))))) (Nat.not_lt.mpr (e▸Nat.le_add_right _ _)),zI ?_⟩
  rw [yH,List.getElem?_replicate,if_pos (List.mem_range.mp hj)]
 have m9:=m8.s4 nd hcs
 have nd9:=z24 (c:=c) nd m7.inP
 have K9:=K8.set (a:=A.a4) (.tail _ (.tail _ (.tail _ (.tail _ (.head _))))) (AO.list ((A.cs++(List.range c).map fun j=>r7.length+j).map rf))
 have h9:((r7++List.replicate c (AO.list [])++[AO.list ((List.range c).map fun j=>rf (r7.length+j))]).set A.a4 (AO.list ((A.cs++(List.range c).map fun j=>r7.length+j).map rf)))[r2.length]? = some (AO.list ((zO M.le.length c).map AV.int)):=zJ (fun e=>q2 (e▸.tail _ (.tail _ (.tail _ (.tail _ (.head _)))))) (zI (zI h7))
 have l9:r7.length+c+1=((r7++List.replicate c (AO.list [])++[AO.list ((List.range c).map fun j=>rf (r7.length+j))]).set A.a4 (AO.list ((A.cs++(List.range c).map fun j=>r7.length+j).map rf))).length:=by
  rw [List.length_set,zT,zT,List.length_replicate];rfl
 have lr7:=K7.1
 rw [List.length_map,List.length_range] at m9
 generalize hA:({ A with cs:=A.cs++(List.range c).map fun j=>r7.length+j }:Ad)=A' at *
 have ha0:A'.a0=A.a0:=by rw [← hA]
 have ha1:A'.a1=A.a1:=by rw [← hA]
 generalize hr9:(r7++List.replicate c (AO.list [])++[AO.list ((List.range c).map fun j=>rf (r7.length+j))]).set A.a4 (AO.list ((A.cs++(List.range c).map fun j=>r7.length+j).map rf))=r9 at *
 have m10:=m9.grow [AO.list (((zO M.le.length c).map fun x=>((x,none):En)).map eA)]
 have es:=XN (S:=S) (k:=M.ap p) m10.e1 (zK r9 _ []) (Nat.ne_of_lt (y7 m9.e1).1) (by rw [List.length_map];exact hap) (by rw [List.length_map,List.length_map,List.length_map,li];show M.es.length+c≤1048576;lia)
 have m11:=m10.s1 nd9 (M.es.take (M.ap p)++(zO M.le.length c).map (fun x=>(x,none))++M.es.drop (M.ap p))
 obtain ⟨et,m12⟩:=ja (S:=S) (cf:=run T (n+3)) (fr:=[some (rf A.a0),some (Deed.av hd (.put p ts)),some (.int hd),some (.str "put"),some (.int 0),some (.int 0),some (.int p),some (.str (tx ts)),some (.int M.dd.length),some (rf q'),some (rf r2.length),some (.int (M.ap p:Nat)),none]) m11 nd9 (by rw [ha0];rfl) rfl rfl rfl rfl (Nat.lt_trans zd (by decide)) (Nat.lt_trans k.z2 (by decide))
 subst hA
 refine ⟨_,_,_,zM (fr:=[some (rf A.a0),some (Deed.av hd (.put p ts)),none,none,none,none,none,none,none,none,none,none,none]) rfl rfl (fr':=[some (rf A.a0),some (Deed.av hd (.put p ts)),some (.int hd),some (.str "put"),some (.int 0),some (.int 0),some (.int p),some (.str (tx ts)),some (.int M.dd.length),some (rf q'),some (rf r2.length),some (.int (M.ap p:Nat)),none]) ?_,?_,nd9,?_,m12⟩
 ·unfold kBm
  dsimp only
  refine head ?_
  refine (z7 ((zi (zS (z5 rfl) rfl zCh)).trans ?_)).trans et
  refine (z7 (zU (zp (ev1 (z5 rfl) (ev1 (z5 rfl) ev0)) ea) (zZ rfl))).trans ?_
  refine (z7 (zU (v:=rf r2.length) (h1:=S.hp r3) (yv (vs:=[.range M.le.length (M.le.length+c)]) (ev1 (yv (ev1 (lenF m2 rfl) (ev1 (yR (lenF m2 rfl) (lenT rfl) wA) ev0)) (Wy ⟨by lia,by lia⟩)) ev0) ((Qb (by rw [ZO,List.length_map,li];show _≤1048576;lia)).trans ?_)) (zZ rfl))).trans ?_
  ·rw [ZO,← hr3];rfl
  refine (z7 (Ql (S:=S) (r0:=r3) (r:=r3++[AO.list (ts.map ch)]) (a:=A.a2) (b:=r3.length) (xs:=M.le.map ch) (xs0:=M.le.map ch) (ys:=ts.map ch) (m3.get rfl w0) m3.e2 (yv (ev1 (z5 rfl) ev0) ((Xj (by rw [Zr,List.length_map];show _≤1048576;lia)).trans rfl)) m4.e2 (zK r3 _ []) (by rw [List.length_map,List.length_map];show _<1048576;lia) (r':=r5) (by rw [← List.map_append];exact hr5))).trans ?_
  refine (z7 (Ql (S:=S) (r0:=r5) (r:=r5++[AO.list [AV.int M.dd.length]]++[AO.list (List.replicate c (AV.int M.dd.length))]) (a:=A.a3) (b:=(r5++[AO.list [AV.int M.dd.length]]).length) (xs:=M.ca) (xs0:=M.ca) (ys:=List.replicate c (AV.int M.dd.length)) (m5.get rfl z06) m5.e3 (yR (zy (ev1 (z5 rfl) ev0)) (lenT rfl) ((Xa (h:=S.hp (r5++[AO.list [AV.int M.dd.length]])) (a:=(S.hp r5).length) (zK r5 _ []) (Int.natCast_nonneg _) (by lia)).trans ?_)) m6.e3 (zK _ _ []) (by rw [List.length_replicate,k.al];show _<1048576;lia) (r':=r7) hr7)).trans ?_
  ·rw [Int.toNat_natCast];rfl
  have esrc:yk (S.hp r7) (rf r2.length)=some (.ref (r2.length+15),((zO M.le.length c).map AV.int).length):=wa (show (S.hp r7)[r2.length+15]? = _ from h7)
  have ecomp:=z10 (S:=S) (r:=r7) (it:=z6 10) (v:=rf r2.length) (src:=.ref (r2.length+15)) (xs:=(zO M.le.length c).map AV.int) (cf:=run T (n+3)) (i:=13) (fr:=[some (rf A.a0),some (Deed.av hd (.put p ts)),some (.int hd),some (.str "put"),some (.int 0),some (.int 0),some (.int p),some (.str (tx ts)),some (.int M.dd.length),some (rf q'),some (rf r2.length),some (.int (M.ap p:Nat)),none]) (z5 rfl) esrc (fun k' G=>xw (show (S.hp (r7++G))[r2.length+15]? = _ from zI h7)) (by rw [List.length_map,li];show _<1048576;lia) (zZ rfl)
  rw [List.length_map,li] at ecomp
  refine (z7 (Ql (S:=S) (r0:=r7) (a:=A.a4) (b:=r7.length+c) (xs:=A.cs.map rf) (xs0:=A.cs.map rf) (ys:=(List.range c).map fun j=>rf (r7.length+j)) (m7.get rfl Qe) m7.e4 ecomp m8.e4 ?_ ?_ (r':=r9) ?_)).trans ?_
  ·have:=zK (r7++List.replicate c (AO.list [])) (AO.list ((List.range c).map fun j=>rf (r7.length+j))) []
   rw [zT,List.length_replicate] at this
   exact this
  ·rw [List.length_map,List.length_map,List.length_range,m.cl,k.cl];show _<1048576;lia
  ·rw [← hr9,List.map_append,List.map_map];rfl
  have ec:zj (z6 10) 1 (.one 13) (zQ .And []) (xU [(z6 13),(z8 .none)]) (run T (n+3)) [some (rf A.a0),some (Deed.av hd (.put p ts)),some (.int hd),some (.str "put"),some (.int 0),some (.int 0),some (.int p),some (.str (tx ts)),some (.int M.dd.length),some (rf q'),some (rf r2.length),some (.int (M.ap p:Nat)),none] (S.hp r9)=.ok (rf r9.length) (S.hp (r9++[AO.list (((zO M.le.length c).map fun x=>((x,none):En)).map eA)])):=by
   refine (yK AV.int (i:=13) (a:=r2.length+15) (l:=zO M.le.length c) (p:=fun _=>true) (f:=fun x=>eA (x,none)) (z5 rfl) (show (S.hp r9)[r2.length+15]? = _ from h9) (zZ rfl) (by rw [li];show _<1048576;lia) (fun _ _ _ _ _ _=>rfl)
    (fun fr' _ a2 x _ a3=>q6 (ev1 (z5 a3) (ev1 rfl ev0)))).trans ?_
   rw [List.filter_eq_self.mpr fun _ _=>rfl,List.map_map];rfl
  refine (z7 ((Jd ec (m10.get rfl YH) (z5 rfl) (z5 rfl) es).trans ?_)).trans zE
  rw [← List.map_take,← List.map_drop,← List.map_append,← List.map_append]
 ·exact ((K9.grow _).set (.tail _ (.head _)) _ |>.set (.tail _ (.tail _ (.tail _ (.tail _ (.tail _ (.head _)))))) _).set (.tail _ (.tail _ (.tail _ (.tail _ (.tail _ (.tail _ (.head _))))))) _
 ·intro x hx
  obtain ⟨j,hj,rfl⟩:=List.mem_map.mp hx
  have hj:=List.mem_range.mp hj
  rw [List.length_set,List.length_set,List.length_set,zT,← l9]
  exact ⟨Nat.le_trans lr7 (Nat.le_add_right _ _),by show _<_+1;lia⟩
end
set_option genInjectivity false
set_option genSizeOf false
structure Rl (S:Sh) (mvs:List (List (Int×Int))) (cus:List (List Int)) (M:Md):Prop where
 es:M.es=S.rowOf mvs
 ca:M.ca=S.br
 cu:M.cus=cus
 st:M.st=S.st
 le:M.le=S.le
 dl:M.dd.length=S.dn.length
 hs:∀ d:Nat,d<S.dn.length→∃ h t t',M.dd[d]? = some (.tup (.int h::t))∧S.dn[d]? = some (.tup (.int h::t'))
 gn:S.lo=M.gn.filter fun d=>!fl S.st d
 gd:M.gn.Nodup
 gr:∀ d∈M.gn,0≤d∧d<S.dn.length
 W:Mw S mvs
section
variable {S:Sh} {mvs:List (List (Int×Int))} {cus sg:List (List Int)} {M:Md}
theorem Rl.mk_ (R:Rl S mvs cus M) (V:Iv S mvs cus sg):Mk M:=by
 have I:=V.I
 have ent_mem:∀ e∈M.es,∃ x∈S.l,e=ent S.ow mvs x:=fun e he=>by
  rw [R.es] at he
  obtain ⟨x,hx,rfl⟩:=List.mem_map.mp he
  exact ⟨x,hx,rfl⟩
 refine ⟨fun e he=>?_,fun e he d hd=>?_,fun i i0 i1=>?_,?_,fun ds hd=>?_,by rw [R.cu,R.le];exact I.K.cu,by rw [R.ca,R.le];exact I.K.br,?_,by rw [R.st];exact I.K.st,by rw [R.le];exact I.O.le⟩
 ·obtain ⟨x,hx,rfl⟩:=ent_mem e he
  obtain ⟨a,b,_⟩:=I.seat_own hx
  rw [R.le];exact ⟨a,b⟩
 ·obtain ⟨x,hx,rfl⟩:=ent_mem e he
  have h:=qn hd
  rw [R.st]
  have hl:=YL h
  have:gM mvs (gI S.ow x)∈mvs:=by unfold gM;rw [zu hl];exact List.getElem_mem _
  exact (I.K.mr _ this _ h).1
 ·rw [R.le] at i1
  rw [R.es]
  obtain ⟨a,b,c⟩:=I.W.back i i0 i1 _ (.inl rfl)
  refine List.mem_map.mpr ⟨gI S.fi i,(I.O.G.perm.mem_iff).mpr (List.mem_map.mpr ⟨(gI S.fi i).toNat,List.mem_range.mpr (qb b c),Int.toNat_of_nonneg b⟩),?_⟩
  unfold ent;rw [a,R.W.at_first i0 i1]
 ·rw [R.ca,R.st];exact I.K.bn
 ·rw [R.cu] at hd
  rw [R.st]
  exact ⟨Nat.lt_of_le_of_lt (I.K.cs ds hd) I.K.st,I.K.dr ds hd⟩
 ·rw [R.es];unfold Sh.rowOf;rw [List.length_map,I.O.G.len];exact I.O.G.sm
theorem Rl.sh (R:Rl S mvs cus M) (V:Iv S mvs cus sg):M.sh=S.sh:=by
 show mSh M.st M.es M.ca M.cus=_
 rw [R.st,R.es,R.ca,R.cu];exact R.W.mSh_eq V
theorem Rl.be (R:Rl S mvs cus M) (V:Iv S mvs cus sg) {i:Int} (i0:0≤i) (i1:i<S.le.length):M.be i=dAt mvs i (S.cur mvs i):=by
 unfold Md.be;rw [R.st,R.es,R.W.bst_cur V.I i0 i1];rfl
theorem Rl.at_ (R:Rl S mvs cus M) (V:Iv S mvs cus sg) {i:Int} (i0:0≤i) (i1:i<S.le.length):M.at_ i=S.at_ mvs i:=by
 obtain ⟨a,b⟩:=V.I.cur_mem i0 i1
 have e:(i,M.be i)=ent S.ow mvs (S.cur mvs i):=by rw [R.be V i0 i1,V.I.ent_cur i0 i1]
 have h:=z0f (f:=ent S.ow mvs) (l:=S.l) (x:=S.cur mvs i) fun y hy h=>R.W.ent_inj V.I hy a h
 have m:ent S.ow mvs (S.cur mvs i)∈M.es:=by rw [R.es];exact List.mem_map.mpr ⟨_,a,rfl⟩
 show Qn M.es (i,M.be i)=pos S.l (S.cur mvs i)
 rw [e]
 have h1:=YN m
 rw [R.es] at h1 ⊢
 rw [show (S.rowOf mvs).findIdx? (fun x=>decide (x=ent S.ow mvs (S.cur mvs i)))=_ from h,jE a] at h1
 exact (Option.some.inj h1).symm
theorem Rl.ap (R:Rl S mvs cus M) (V:Iv S mvs cus sg) {p:Int} (p0:0≤p) (p1:p≤S.sh.length):M.ap p=aP S.b S.l p:=by
 unfold Md.ap aP
 by_cases h:p=0
 ·rw [if_pos h,if_pos h]
 ·rw [if_neg h,if_neg h,R.sh V]
  have lt:(p - 1).toNat<(tk S.b S.l).length:=by have:=V.I.O.tkl.1;lia
  obtain ⟨x,hx⟩:∃ x,(tk S.b S.l)[(p - 1).toNat]? = some x:=⟨_,zu lt⟩
  have hs:S.sh[(p - 1).toNat]? = some (gI S.ow x):=by
   show ((tk S.b S.l).map (gI S.ow))[(p - 1).toNat]? = _
   rw [List.getElem?_map,hx];rfl
  obtain ⟨_,_,hc⟩:=V.tk_mem (yF hx)
  have hl:=(List.mem_filter.mp (yF hx)).1
  obtain ⟨a0,a1,_⟩:=V.I.seat_own hl
  rw [hs,hx]
  show M.at_ (gI S.ow x)+1=S.l.findIdx (· == x)+1
  rw [R.at_ V a0 a1]
  show pos S.l (S.cur mvs (gI S.ow x))+1=_
  rw [← hc];rfl
theorem Iv.sh_iff (V:Iv S mvs cus sg) {i:Int} (i0:0≤i) (i1:i<S.le.length):i∈S.sh↔S.shw cus i=true:=by
 constructor
 ·intro h
  obtain ⟨x,hx,rfl⟩:=List.mem_map.mp h
  exact (V.tk_mem hx).2.1
 ·intro h
  obtain ⟨a,b⟩:=V.I.cur_mem i0 i1
  obtain ⟨x0,x1⟩:=V.I.O.G.rng _ a
  refine List.mem_map.mpr ⟨S.cur mvs i,List.mem_filter.mpr ⟨a,?_⟩,b⟩
  rw [V.flag _ x0 x1]
  show (S.shw cus (gI S.ow (S.cur mvs i)) && decide (S.cur mvs i=S.cur mvs (gI S.ow (S.cur mvs i))))=true
  rw [b,h,decide_eq_true rfl];rfl
theorem Rl.pv (R:Rl S mvs cus M) (V:Iv S mvs cus sg) {i:Int} (i0:0≤i) (i1:i<S.le.length):M.pv i=S.Pv mvs cus i:=by
 unfold Md.pv Sh.Pv
 rw [R.at_ V i0 i1,R.sh V,R.st]
 have e1:decide (i∈S.sh)=S.shw cus i:=by
  cases h:S.shw cus i with
  | true=>exact decide_eq_true ((V.sh_iff i0 i1).mpr h)
  | false=>exact decide_eq_false fun q=>by rw [(V.sh_iff i0 i1).mp q] at h;cases h
 have e2:((M.es.take (S.at_ mvs i)).filter fun e=>decide (bst S.st M.es e.1=some e.2) && decide (e.1∈S.sh)).length=S.pl mvs i:=by
  rw [R.es]
  unfold Sh.rowOf
  rw [← List.map_take,Q4 (q:=fl S.b) fun x hx=>?_,List.length_map]
  ·rfl
  ·have hx:=List.mem_of_mem_take hx
   obtain ⟨x0,x1⟩:=V.I.O.G.rng x hx
   obtain ⟨a0,a1,_⟩:=V.I.seat_own hx
   rw [V.flag x x0 x1]
   show (decide (bst S.st (S.rowOf mvs) (ent S.ow mvs x).1=some (ent S.ow mvs x).2) && decide (gI S.ow x∈S.sh))=(S.shw cus (gI S.ow x) && decide (x=S.cur mvs (gI S.ow x)))
   rw [decide_eq_decide.mpr (R.W.is_cur V.I hx),Bool.and_comm]
   congr 1
   cases h:S.shw cus (gI S.ow x) with
   | true=>exact decide_eq_true ((V.sh_iff a0 a1).mpr h)
   | false=>exact decide_eq_false fun q=>by rw [(V.sh_iff a0 a1).mp q] at h;cases h
 rw [e1,e2]
end
set_option genInjectivity false
set_option genSizeOf false
noncomputable def Md.nxt (M:Md) (hd:Int) (t:List AV):Deed→Md
 | .put p ts=>{ M with es:=M.es.take (M.ap p)++(zO M.le.length ts.length).map (fun x=>(x,none))++M.es.drop (M.ap p),ca:=M.ca++List.replicate ts.length (.int M.dd.length),cus:=M.cus++List.replicate ts.length [],le:=M.le++ts,dd:=M.dd++[.tup (.int hd::t)],st:=M.st++[true] }
 | .cut i j=>{ M with cus:=yC M.dd.length M.cus (M.cut i j),dd:=M.dd++[.tup (.int hd::t)],st:=M.st++[true] }
 | .mov i j p=>{ M with es:=M.es.take (M.ap p)++(M.cut i j).map (fun x=>(x,some (M.dd.length:Int)))++M.es.drop (M.ap p),dd:=M.dd++[.tup (.int hd::t)],st:=M.st++[true] }
section
variable {T:Tab} {okf:Str→Str→Bool} (X:TT T okf) {n:Nat} {hn:Int} {M:Md} {A:Ad} {r:Hp} {S:Sh}
include X
theorem Wh (m:Mo hn M A r) (nd:A.P.Nodup) (k:Mk M) {hd:Int} {d:Deed} (ok:d.ok M.sh.length) (zd:M.dd.length<200):∃ r' t cs',run T (n+4) (.fn "_law_deed") [rf A.a0,d.av hd] (S.hp r)=.ok (.int M.dd.length) (S.hp r')∧Kq A.P r r'∧({ A with cs:=A.cs++cs' }:Ad).P.Nodup∧(∀ x∈cs',r.length≤x∧x<r'.length) ∧
   Mo hn (M.nxt hd t d) { A with cs:=A.cs++cs' } r':=by
 have e0:({ A with cs:=A.cs++[] }:Ad)=A:=by rw [List.append_nil]
 have z:=k.sh_len
 cases d with
 | put p ts =>
  obtain ⟨p0,p1,_,_,c4⟩:=ok
  exact z0j X m nd k p0 p1 zd c4
 | cut i j =>
  obtain ⟨i0,i1,j1⟩:=ok
  obtain ⟨r',t,a,b,c⟩:=z0l X (n:=n) (S:=S) (hd:=hd) (i:=i) (j:=j) m nd k i0 (by lia) (by lia) (by lia) zd
  exact ⟨r',t,[],a,b,by rw [e0];exact nd,fun x h=>absurd h List.not_mem_nil,by rw [e0];exact c⟩
 | mov i j p =>
  obtain ⟨i0,i1,j1,j5,p0,p1,_⟩:=ok
  obtain ⟨r',t,a,b,c⟩:=z0k X (n:=n) (S:=S) (hd:=hd) (i:=i) (j:=j) (p:=p) m nd k i0 (by lia) (by lia) (by lia) p0 p1 zd
  exact ⟨r',t,[],a,b,by rw [e0];exact nd,fun x h=>absurd h List.not_mem_nil,by rw [e0];exact c⟩
end
section
variable {S S':Sh} {mvs mvs':List (List (Int×Int))} {cus cus' sg:List (List Int)} {M:Md} {hd:Int} {t:List AV}
theorem Rl.hs_ (R:Rl S mvs cus M) {t':List AV} (e:S'.dn=S.dn++[.tup (.int hd::t')]):(M.dd++[AV.tup (.int hd::t)]).length=S'.dn.length∧∀ d:Nat,d<S'.dn.length→∃ h t0 t1,(M.dd++[AV.tup (.int hd::t)])[d]? = some (.tup (.int h::t0))∧S'.dn[d]? = some (.tup (.int h::t1)):=by
 rw [e]
 refine ⟨by rw [zT,zT,R.dl];rfl,fun d h=>?_⟩
 rw [zT] at h
 by_cases q:d<S.dn.length
 ·obtain ⟨h',t0,t1,a,b⟩:=R.hs d q
  exact ⟨h',t0,t1,zI a,zI b⟩
 ·have:d=S.dn.length:=by have h:d<S.dn.length+1:=h;lia
  subst this
  refine ⟨hd,t,t',?_,zK _ _ []⟩
  rw [← R.dl];exact zK _ _ []
theorem Rl.gn_ (R:Rl S mvs cus M) (V:Iv S mvs cus sg) (N:Nt hd S S'):S'.lo=(M.gn.filter fun d=>!fl S'.st d)∧∀ d∈M.gn,0≤d∧d<S'.dn.length:=by
 obtain ⟨e1,e2,t',e3⟩:=N
 refine ⟨?_,fun d h=>?_⟩
 ·rw [e2,R.gn,e1]
  refine List.filter_congr fun d h=>?_
  obtain ⟨d0,d1⟩:=R.gr d h
  rw [jO d0 (by rw [V.I.st];exact d1)]
 ·obtain ⟨d0,d1⟩:=R.gr d h
  refine ⟨d0,?_⟩
  rw [e3,zT];exact Int.lt_of_lt_of_le d1 (Int.ofNat_le.mpr (Nat.le_add_right _ _))
theorem z0b (K:Sg S mvs cus) {i:Int} (h:¬ i.toNat<S.le.length):gM mvs i=[]:=by
 unfold gM;rw [List.getElem?_eq_none (by rw [K.mv];exact Nat.not_lt.mp h)];rfl
theorem z26 {α β:Type} {f:α→β} {l m:List α} {a:Nat}:(l.take a++m++l.drop a).map f=(l.map f).take a++m.map f++(l.map f).drop a:=by
 rw [List.map_append,List.map_append,List.map_take,List.map_drop]
theorem YK {α β:Type} {f g:α→β} {l m:List α} {n:List β} {a:Nat} (h:∀ x∈l,f x=g x) (hm:m.map f=n):(l.take a++m++l.drop a).map f=(l.map g).take a++n++(l.map g).drop a:=by
 rw [z26,hm,List.map_congr_left h]
theorem Rl.put (R:Rl S mvs cus M) (V:Iv S mvs cus sg) {p:Int} {ts:List Nat} (p0:0≤p) (p1:p≤S.sh.length) (N:Nt hd S S') (D:Dd hd S mvs cus S' mvs' cus' (.put p ts)):Rl S' mvs' cus' (M.nxt hd t (.put p ts)):=by
 obtain ⟨d1,d2,d3,d4,d5,d6,d7,d8⟩:=D
 have I:=V.I
 obtain ⟨n1,n2,t',n3⟩:=id N
 obtain ⟨g1,g2⟩:=R.gn_ V N
 obtain ⟨h1,h2⟩:=R.hs_ (t:=t) n3
 refine ⟨?_,?_,?_,?_,?_,h1,h2,g1,R.gd,g2,⟨fun i=>?_,fun i i0 i1=>?_⟩⟩
 ·show M.es.take (M.ap p)++(zO M.le.length ts.length).map (fun x=>(x,none))++M.es.drop (M.ap p)=_
  unfold Sh.rowOf
  rw [d1,R.ap V p0 p1,R.es,R.le]
  refine (YK (g:=ent S.ow mvs) (fun x hx=>?_) ?_).symm
  ·obtain ⟨x0,x1⟩:=I.O.G.rng x hx
   unfold ent dAt
   rw [d3,xN x0 (by rw [I.O.ow];exact x1),d7,w2]
  ·unfold zO
   rw [List.map_map,List.map_map]
   refine List.map_congr_left fun j hj=>?_
   have hj:=List.mem_range.mp hj
   have ho:gI S'.ow ((S.b.length+j:Nat):Int)=((S.le.length+j:Nat):Int):=by
    rw [d3]
    refine xa (j:=j) (by rw [I.O.ow]) ?_
    unfold zO
    rw [List.getElem?_map,List.getElem?_range hj];rfl
   show ent S'.ow mvs' ((S.b.length+j:Nat):Int)=(((S.le.length+j:Nat):Int),none)
   unfold ent dAt
   rw [ho,d7,w2,z0b I.K (by lia)];rfl
 ·show M.ca++List.replicate ts.length (.int M.dd.length)=_
  rw [d6,R.ca,R.dl]
 ·show M.cus++List.replicate ts.length []=_
  rw [d8,R.cu]
 ·show M.st++[true]=_
  rw [n1,R.st]
 ·show M.le++ts=_
  rw [d4,R.le]
 ·rw [d7,w2];exact R.W.asc i
 ·rw [d7,w2]
  by_cases q:i<S.le.length
  ·rw [d5,xN i0 (by rw [I.K.fi];exact q)]
   exact R.W.nd i i0 q
  ·rw [z0b I.K (by lia)]
   exact List.nodup_cons.mpr ⟨List.not_mem_nil,List.nodup_nil⟩
theorem Rl.cut (R:Rl S mvs cus M) (V:Iv S mvs cus sg) {i j:Int} (N:Nt hd S S') (D:Dd hd S mvs cus S' mvs' cus' (.cut i j)):Rl S' mvs' cus' (M.nxt hd t (.cut i j)):=by
 obtain ⟨d1,d2,d3,d4,d5,d6,d7,d8⟩:=D
 obtain ⟨n1,n2,t',n3⟩:=id N
 obtain ⟨g1,g2⟩:=R.gn_ V N
 obtain ⟨h1,h2⟩:=R.hs_ (t:=t) n3
 refine ⟨?_,by rw [d6];exact R.ca,?_,?_,by rw [d4];exact R.le,h1,h2,g1,R.gd,g2,⟨fun i=>by rw [d7];exact R.W.asc i,fun i i0 i1=>?_⟩⟩
 ·show M.es=_
  unfold Sh.rowOf
  rw [d1,d3,d7];exact R.es
 ·show yC M.dd.length M.cus ((M.sh.take j.toNat).drop i.toNat)=_
  rw [d8,R.sh V,R.cu,R.dl,V.I.st]
 ·show M.st++[true]=_
  rw [n1,R.st]
 ·rw [d7,d5];exact R.W.nd i i0 (by rw [← d4];exact i1)
theorem Rl.mov (R:Rl S mvs cus M) (V:Iv S mvs cus sg) {i j p:Int} (p0:0≤p) (p1:p≤S.sh.length) (N:Nt hd S S') (D:Dd hd S mvs cus S' mvs' cus' (.mov i j p)):Rl S' mvs' cus' (M.nxt hd t (.mov i j p)):=by
 obtain ⟨d1,d2,d3,d4,d5,d6,d7,d8⟩:=D
 have I:=V.I
 obtain ⟨n1,n2,t',n3⟩:=id N
 obtain ⟨g1,g2⟩:=R.gn_ V N
 obtain ⟨h1,h2⟩:=R.hs_ (t:=t) n3
 have hcut:M.cut i j=(S.sh.take j.toNat).drop i.toNat:=by show (M.sh.take _).drop _=_;rw [R.sh V]
 have nd:((S.sh.take j.toNat).drop i.toNat).Nodup:=(V.sh_nodup.sublist (List.take_sublist _ _)).sublist (List.drop_sublist _ _)
 have hi:=wS I.O (i:=i.toNat) (j:=j.toNat)
 generalize (S.sh.take j.toNat).drop i.toNat=is at *
 have mv:=fun {s:Int} (s0:0≤s)=>I.mv_at nd hi s0
 have W':Mw S' mvs':=by
  refine ⟨fun s=>?_,fun s s0 s1=>?_⟩
  ·by_cases s0:0≤s
   ·rw [d7]
    by_cases h:s∈is
    ·obtain ⟨k,hk⟩:=List.getElem?_of_mem h
     rw [(mv s0).2 k hk,List.map_append,List.pairwise_append]
     refine ⟨R.W.asc s,List.pairwise_singleton _ _,fun x hx y hy=>?_⟩
     obtain ⟨q,hq,rfl⟩:=List.mem_map.mp hx
     have hl:=YL hq
     have:gM mvs s∈mvs:=by unfold gM;rw [zu hl];exact List.getElem_mem _
     rw [xg hy]
     exact (I.K.mr _ this q hq).1.2
    ·rw [(mv s0).1 h];exact R.W.asc s
   ·have e:s.toNat=(0:Int).toNat:=by lia
    have:gM mvs' s=gM mvs' 0:=by unfold gM;rw [e]
    rw [this,d7]
    by_cases h:(0:Int)∈is
    ·obtain ⟨k,hk⟩:=List.getElem?_of_mem h
     rw [(mv (Int.le_refl 0)).2 k hk,List.map_append,List.pairwise_append]
     refine ⟨R.W.asc 0,List.pairwise_singleton _ _,fun x hx y hy=>?_⟩
     obtain ⟨q,hq,rfl⟩:=List.mem_map.mp hx
     have hl:=YL hq
     have:gM mvs 0∈mvs:=by unfold gM;rw [zu hl];exact List.getElem_mem _
     rw [xg hy]
     exact (I.K.mr _ this q hq).1.2
    ·rw [(mv (Int.le_refl 0)).1 h];exact R.W.asc 0
  ·rw [d4] at s1
   rw [d7,d5]
   by_cases h:s∈is
   ·obtain ⟨k,hk⟩:=List.getElem?_of_mem h
    rw [(mv s0).2 k hk,List.map_append,← List.cons_append,List.nodup_append]
    refine ⟨R.W.nd s s0 s1,List.nodup_cons.mpr ⟨List.not_mem_nil,List.nodup_nil⟩,fun x hx y hy e=>?_⟩
    rw [xg hy] at e
    have hx':inS S.fi mvs x s:=by
     rcases List.mem_cons.mp hx with h | h
     ·exact .inl h
     ·obtain ⟨q,hq,rfl⟩:=List.mem_map.mp h;exact .inr ⟨q,hq,rfl⟩
    obtain ⟨_,_,c⟩:=I.W.back s s0 s1 x hx'
    rw [e] at c
    have c:((S.b.length+k:Nat):Int)<S.b.length:=c
    lia
   ·rw [(mv s0).1 h];exact R.W.nd s s0 s1
 refine ⟨?_,by rw [d6];exact R.ca,by rw [d8];exact R.cu,?_,by rw [d4];exact R.le,h1,h2,g1,R.gd,g2,W'⟩
 ·show M.es.take (M.ap p)++(M.cut i j).map (fun x=>(x,some (M.dd.length:Int)))++M.es.drop (M.ap p)=_
  unfold Sh.rowOf
  rw [d1,R.ap V p0 p1,R.es,hcut,R.dl,← I.st]
  refine (YK (g:=ent S.ow mvs) (fun x hx=>?_) ?_).symm
  ·obtain ⟨x0,x1⟩:=I.O.G.rng x hx
   obtain ⟨a0,a1,a2⟩:=I.seat_own hx
   have ho:gI S'.ow x=gI S.ow x:=by rw [d3,xN x0 (by rw [I.O.ow];exact x1)]
   unfold ent
   rw [ho]
   refine congrArg (Prod.mk (gI S.ow x)) ?_
   unfold dAt
   rw [d7]
   by_cases h:gI S.ow x∈is
   ·obtain ⟨k,hk⟩:=List.getElem?_of_mem h
    rw [(mv a0).2 k hk,List.find?_append]
    cases q:(gM mvs (gI S.ow x)).find? fun p=>p.2 == x with
    | some u=>rfl
    | none =>
     rw [Option.none_or,List.find?_cons_of_neg (by
      show ¬ (((S.b.length+k:Nat):Int) == x)=true
      rw [beq_iff_eq];lia)];rfl
   ·rw [(mv a0).1 h]
  ·unfold zO
   rw [List.map_map]
   refine List.ext_getElem? fun l=>?_
   rw [List.getElem?_map,List.getElem?_map]
   by_cases hl:l<is.length
   ·rw [List.getElem?_range hl,zu hl]
    have hk:is[l]? = some is[l]:=zu hl
    obtain ⟨s0,s1⟩:=hi _ (List.getElem_mem hl)
    have ho:gI S'.ow ((S.b.length+l:Nat):Int)=is[l]:=by
     rw [d3];exact xa (j:=l) (by rw [I.O.ow]) hk
    show some (ent S'.ow mvs' ((S.b.length+l:Nat):Int))=some (is[l],some (S.st.length:Int))
    unfold ent
    rw [ho]
    have hm:((S.st.length:Int),((S.b.length+l:Nat):Int))∈gM mvs' is[l]:=by rw [d7,(mv s0).2 l hk];exact List.mem_append_right _ (.head _)
    rw [W'.at_mem s0 (by rw [d4];exact s1) hm]
   ·rw [List.getElem?_eq_none (by rw [List.length_range];exact Nat.not_lt.mp hl),List.getElem?_eq_none (Nat.not_lt.mp hl)];rfl
 ·show M.st++[true]=_
  rw [n1,R.st]
theorem Yz {d:Int} {l:List Int}:∀ {j:Nat},l.Nodup→l.findIdx? (· == d)=some j→l.eraseIdx j=l.filter fun x=>!decide (x=d):=by
 induction l with
 | nil=>intro j _ h;cases h
 | cons y l ih =>
  intro j nl hj
  rw [List.findIdx?_cons] at hj
  obtain ⟨ny,nl⟩:=List.nodup_cons.mp nl
  by_cases q:y=d
  ·subst q
   rw [if_pos (beq_self_eq_true _)] at hj
   cases hj
   rw [List.filter_cons,if_neg (by rw [decide_eq_true rfl];exact Bool.false_ne_true),List.filter_eq_self.mpr fun x hx=>by rw [decide_eq_false (p:=x=y) fun e=>ny (e▸hx)];rfl];rfl
  ·rw [if_neg (by rw [beq_iff_eq];exact q)] at hj
   obtain ⟨k,hk,rfl⟩:=y9 hj
   rw [List.filter_cons,if_pos (by rw [decide_eq_false q];rfl)]
   show y::l.eraseIdx k=_
   rw [ih nl hk]
theorem Rl.step (R:Rl S mvs cus M) (V:Iv S mvs cus sg) {d:Deed} (ok:d.ok S.sh.length) (N:Nt hd S S') (D:Dd hd S mvs cus S' mvs' cus' d):Rl S' mvs' cus' (M.nxt hd t d):=by
 cases d with
 | put p ts=>exact R.put V ok.1 ok.2.1 N D
 | cut i j=>exact R.cut V N D
 | mov i j p=>exact R.mov V ok.2.2.2.2.1 ok.2.2.2.2.2.1 N D
theorem Rl.turn (R:Rl S mvs cus M) (V:Iv S mvs cus sg) {d:Nat} (hd:d<S.dn.length) (N:Tn d S S'):Rl S' mvs cus { M with st:=M.st.set d (!fl M.st d),gn:=if fl M.st d then (M.gn.filter fun x=>!decide (x=(d:Int)))++[(d:Int)] else M.gn }:=by
 obtain ⟨lo,b,rfl,hb,h1,h2⟩:=N
 have hl:d<S.st.length:=by rw [V.I.st];exact hd
 rw [R.st]
 have off:∀ x:Int,0≤x→x≠d→fl (S.st.set d (!fl S.st d)) x=fl S.st x:=fun x x0 ne=>(qm x0 ne).symm
 refine ⟨?_,R.ca,R.cu,rfl,R.le,R.dl,R.hs,?_,?_,?_,⟨R.W.asc,R.W.nd⟩⟩
 ·exact R.es
 ·show lo=_
  cases hf:fl S.st d with
  | true =>
   rw [h1 hf,R.gn,if_pos rfl,List.filter_append]
   have e1:([(d:Int)].filter fun x=>!fl (S.st.set d (!true)) x)=[(d:Int)]:=by
    rw [List.filter_cons,Yy hl];rfl
   show _=_++([(d:Int)].filter fun x=>!fl (S.st.set d (!true)) x)
   rw [e1,List.filter_filter]
   refine congrArg (·++_) (List.filter_congr fun x hx=>?_)
   obtain ⟨x0,_⟩:=R.gr x hx
   by_cases q:x=d
   ·subst q;rw [hf,decide_eq_true rfl];simp
   ·show _=(!fl (S.st.set d (!true)) x && !decide (x=(d:Int)))
    have:=off x x0 q
    rw [hf] at this
    rw [this,decide_eq_false q];simp
  | false =>
   obtain ⟨j,hj,rfl⟩:=h2 hf
   rw [if_neg Bool.false_ne_true]
   show S.lo.eraseIdx j=M.gn.filter fun x=>!fl (S.st.set d (!false)) x
   have nl:S.lo.Nodup:=by rw [R.gn];exact R.gd.sublist List.filter_sublist
   have e1:=Yz nl hj
   rw [e1,R.gn,List.filter_filter]
   refine List.filter_congr fun x hx=>?_
   obtain ⟨x0,_⟩:=R.gr x hx
   by_cases q:x=d
   ·subst q
    show (!decide _ && _)=!fl (S.st.set d true) d
    rw [Yy hl,decide_eq_true rfl];rfl
   ·have:=off x x0 q
    rw [hf] at this
    show (!decide _ && _)=!fl (S.st.set d (!false)) x
    rw [this,decide_eq_false q];rfl
 ·cases hf:fl S.st d with
  | true =>
   rw [if_pos rfl]
   refine List.nodup_append.mpr ⟨R.gd.sublist List.filter_sublist,List.nodup_cons.mpr ⟨List.not_mem_nil,List.nodup_nil⟩,fun x hx y hy e=>?_⟩
   have:=(List.mem_filter.mp hx).2
   rw [e,xg hy,decide_eq_true rfl] at this
   cases this
  | false=>rw [if_neg Bool.false_ne_true];exact R.gd
 ·intro x hx
  cases hf:fl S.st d with
  | true =>
   rw [hf,if_pos rfl] at hx
   rcases yn hx with h | h
   ·exact R.gr x (List.mem_filter.mp h).1
   ·rw [xg h];exact ⟨Int.natCast_nonneg _,Int.ofNat_lt.mpr hd⟩
  | false=>rw [hf,if_neg Bool.false_ne_true] at hx;exact R.gr x hx
end
set_option genInjectivity false
set_option genSizeOf false
theorem Qa {h:Int}:List.lookup ("sign_at" : Str) (fS h)=none:=rfl
theorem z29 {h:Int}:List.lookup ("text" : Str) (fS h)=none:=rfl
theorem z2b {h:Int}:List.lookup ("many" : Str) (fS h)=none:=rfl
theorem jV {h:Int}:List.lookup ("last_standing" : Str) (fS h)=none:=rfl
theorem Ys {h:Int}:List.lookup ("last_gone" : Str) (fS h)=none:=rfl
section
variable {T:Tab} {okf:Str→Str→Bool} (X:TT T okf) {n:Nat} {S:Sh} {r:Hp} {mvs:List (List (Int×Int))} {cus sg:List (List Int)}
include X
theorem JR (I:Iw S mvs cus sg) {p:Nat} {x:Int} (hx:(tk S.b S.l)[p]? = some x):∃ g,run T (n+4) (.meth "Sheet" "sign_at") [.ref 1,.int p] (S.hp r)=.ok (.int (gI S.ow x)) (S.hp (r++g)):=by
 have hl:=(y7 hx).1
 obtain ⟨x0,x1⟩:=I.O.G.rng x (List.mem_filter.mp (yF hx)).1
 obtain ⟨g,e⟩:=zB4 X (n:=n) (l:=S.l) (b:=S.b) (o0:=S.g0) (o1:=.inst "Sheet" (fS S.hands)) (o2:=S.g2) (r:=S.tl r) (p:=p) (Int.natCast_nonneg _) (Int.ofNat_lt.mpr hl) I.O.G
 rw [Int.toNat_natCast,hx] at e
 have e':run T (n+3) (.meth "Row" "find") [.ref 3,.int p] (S.hp r)=.ok (.int x) (S.hp (r++g)):=e
 refine ⟨g,?_⟩
 rw [zW X.kAo]
 have ho:x.toNat<S.ow.length:=by rw [I.O.ow];lia
 refine zM (fr:=[some (.ref 1),some (.int p)]) rfl rfl (fr':=[some (.ref 1),some (.int p)]) (zL (zm (zv (zb (z5 rfl) rfl kS3) (zP (a:=3) (zb (z5 rfl) rfl kS2) rfl WJ (ev1 (z5 rfl) ev0) e') (jL (l:=S.ow) rfl x0 ?_ ?_))))
 ·unfold gI;rw [zu ho];rfl
 ·rw [I.O.ow];exact Nat.le_of_lt I.O.G.sm'.2
theorem zCo (K:Ok1 S):∃ g,run T (n+5) (.meth "Sheet" "text") [.ref 1] (S.hp r)=.ok (.str (tx S.cs)) (S.hp (r++g)):=by
 have lsm:=K.G.sm'
 have hsl:S.sh.length<200:=by
  unfold Sh.sh
  rw [List.length_map]
  have h1:(tk S.b S.l).length≤S.l.length:=List.length_filter_le (fl S.b) S.l
  have:=K.G.len
  have:=K.G.sm
  lia
 refine ⟨[.list (S.l.map AV.int),.list (S.sh.map AV.int),.list (S.cs.map ch)],?_⟩
 rw [zW X.kA8]
 have es:=QN X (n:=n) (r:=r) K
 have e1:zB (z6 0) "shown" none [] (run T (n+4)) [some (.ref 1)] (S.hp r)=.ok (.ref (r.length+16)) (S.hp (r++[.list (S.l.map AV.int),.list (S.sh.map AV.int)])):=by
  unfold zB z6
  simp only [Out.bind_ok,List.getElem?_cons_zero,List.getElem?_cons_succ,ZY,evs]
  exact es
 have hg:(S.hp (r++[.list (S.l.map AV.int),.list (S.sh.map AV.int)]))[r.length+16]? = some (.list (S.sh.map AV.int)):=by
  show (r++[.list (S.l.map AV.int),.list (S.sh.map AV.int)])[r.length+1]? = _
  rw [yH];rfl
 have ec:=yK AV.int (own:=1) (i:=1) (test:=zQ .And []) (elt:=zF (zG (z6 0) "letters") (z6 1)) (l:=S.sh) (p:=fun _=>true) (f:=fun x=>ch (S.le[x.toNat]?.getD 0)) e1 hg (zZ rfl) (by show _<1048576;lia)
  (fun fr' a1 a2 x hx a3=>rfl)
  (fun fr' a1 a2 x hx a3=>by
   have a0:=a2 0 (by decide)
   have c0:=z5 (cf:=run T (n+4)) (h:=S.hp (r++[.list (S.l.map AV.int),.list (S.sh.map AV.int)])) (show fr'[0]? = some (some (.ref 1)) from a0)
   have c1:=z5 (cf:=run T (n+4)) (h:=S.hp (r++[.list (S.l.map AV.int),.list (S.sh.map AV.int)])) a3
   obtain ⟨y0,y1⟩:=K.sh_mem hx
   have h2:x.toNat<S.le.length:=by lia
   have h3:okI x=true:=by have:=K.le;exact yQ.mpr ⟨by lia,by lia⟩
   unfold zF zG
   rw [c0]
   simp only [Out.bind_ok,List.getElem?_cons_zero,List.getElem?_cons_succ,kS4,Out.of_some,c1,qA,h3,if_true,List.getElem?_map,zu h2,Option.map_some,Option.getD_some])
 rw [List.filter_eq_self.mpr (fun _ _=>rfl)] at ec
 have l1:(S.hp (r++[.list (S.l.map AV.int),.list (S.sh.map AV.int)])).length=r.length+17:=by
  show (r++[AO.list (S.l.map AV.int),.list (S.sh.map AV.int)]).length+15=_
  rw [zT];rfl
 have l2:S.hp (r++[.list (S.l.map AV.int),.list (S.sh.map AV.int)])++[.list (S.sh.map fun x=>ch (S.le[x.toNat]?.getD 0))]=S.hp (r++[.list (S.l.map AV.int),.list (S.sh.map AV.int),.list (S.cs.map ch)]):=by
  unfold Sh.cs
  rw [List.map_map]
  show S.hp ((r++[.list (S.l.map AV.int),.list (S.sh.map AV.int)])++[_])=_
  rw [List.append_assoc];rfl
 rw [l1,l2] at ec
 have hg2:(S.hp (r++[.list (S.l.map AV.int),.list (S.sh.map AV.int),.list (S.cs.map ch)]))[r.length+17]? = some (.list (S.cs.map fun c=>AV.str ⟨#[c]⟩)):=by
  show (r++[.list (S.l.map AV.int),.list (S.sh.map AV.int),.list (S.cs.map ch)])[r.length+2]? = _
  rw [yH];rfl
 have ej:=ZX (sep := "") hg2 ZJ (by
  rw [ZI]
  have:S.cs.length=S.sh.length:=List.length_map _
  show _+_ * 0≤1048576
  lia)
 rw [j4] at ej
 exact zM (fr:=[some (.ref 1)]) rfl rfl (zL (zm (Jb (h1:=S.hp r) rfl (ev1 ec ev0) ej)))
theorem zE1:run T (n+1) (.meth "Sheet" "many") [.ref 1] (S.hp r)=.ok (.int S.le.length) (S.hp r):=by
 rw [zW X.kA7]
 exact zM (fr:=[some (.ref 1)]) rfl rfl (fr':=[some (.ref 1)]) (zL (r:=[]) (zm (qa (cf:=run T n) (fr:=[some (.ref 1)]) (h:=S.hp r) (a:=7) (ys:=S.le.map ch) rfl rfl kS4 rfl (List.length_map _))))
end
theorem zCf {t1 t2:XT} {cf:CF} {fr:AFr} {h:Hp} {b1 b2:Bool} (e1:t1 cf fr h=.ok b1 h) (e2:t2 cf fr h=.ok b2 h):zQ .And [t1,t2] cf fr h=.ok (b1 && b2) h:=by
 cases b1 with
 | false=>exact xC e1
 | true =>
  cases b2 with
  | false=>exact xD e1 (xC e2)
  | true=>exact xD e1 (xD e2 qw)
noncomputable abbrev rgL (m:Nat):List AV:=(List.range m).map fun (k:Nat)=>AV.int (k:Int)
theorem xi {h:Hp} (m:Nat):yk h (.range 0 (m:Int))=some (.imm (rgL m),m):=by
 show some (Src.imm (xB 0 (m:Int)),((m:Int) - 0).toNat)=_
 unfold xB
 rw [Int.sub_zero,Int.toNat_natCast]
 simp only [Int.zero_add]
theorem yu {h:Hp} {m:Nat} (hm:m<1000):xI .range [.int (m:Int)] h=.ok (.range 0 (m:Int)) h:=by
 rw [QF,if_pos (by rw [Int.natAbs_natCast];exact Nat.lt_trans hm (by decide))]
theorem WZ {m k:Nat} {x:AV} (h:(rgL m)[k]? = some x):k<m∧x=.int (k:Int):=by
 rw [List.getElem?_map] at h
 obtain ⟨y,hy,rfl⟩:=y9 h
 have hl:=(y7 hy).1
 rw [List.length_range] at hl
 rw [List.getElem?_range hl] at hy
 cases hy
 exact ⟨hl,rfl⟩
theorem z21 (m:Nat):(rgL m).length=m:=by rw [List.length_map,List.length_range]
noncomputable def yY (l:List Int):AV:=match l.getLast? with
 | some x=>.int x
 | none=>.none
theorem Qd (l:List Int) (x:Int):yY (l++[x])=.int x:=by unfold yY;rw [List.getLast?_concat]
theorem Xn (p:Int→Bool) (l:List Int) (x:Int):yY ((l++[x]).filter p)=if p x=true then .int x else yY (l.filter p):=by
 rw [List.filter_append]
 cases h:p x with
 | true=>rw [show [x].filter p=[x] by rw [List.filter_cons,h];rfl,Qd];rfl
 | false=>rw [show [x].filter p=[] by rw [List.filter_cons,h];rfl,List.append_nil];rfl
theorem zB3 {l:List Int} {d:Nat} {x:Int} (h:l[d]? = some x):gI l (d:Int)=x:=by unfold gI;rw [Int.toNat_natCast,h];rfl
noncomputable def stP (os:List Int) (st:List Bool) (hd:Int) (d:Int):Bool:=decide (gI os d=hd) && fl st d
noncomputable def Jk (os:List Int) (hd:Int) (d:Int):Bool:=decide (gI os d=hd)
noncomputable def hdV:AV→Int
 | .tup (.int h::_)=>h
 | _=>0
noncomputable abbrev Sh.os (S:Sh):List Int:=S.dn.map hdV
section
variable {S:Sh} {mvs:List (List (Int×Int))} {cus sg:List (List Int)} {M:Md}
theorem Rl.os_ (R:Rl S mvs cus M) {d:Nat} (h:d<S.dn.length):∃ hd t t',M.dd[d]? = some (.tup (.int hd::t))∧S.dn[d]? = some (.tup (.int hd::t'))∧gI S.os d=hd:=by
 obtain ⟨hd,t,t',a,b⟩:=R.hs d h
 exact ⟨hd,t,t',a,b,zB3 (by rw [List.getElem?_map,b];rfl)⟩
end
section
variable {T:Tab} {okf:Str→Str→Bool} (X:TT T okf) {n:Nat} {S:Sh} {r:Hp} {mvs:List (List (Int×Int))} {cus sg:List (List Int)} {M:Md} {A:Ad} {hn:Int}
theorem Xy {h:Hp} {x:Int} {t:List AV}:qj h (.tup (.int x::t)) (.int 0)=some (.int x):=rfl
theorem XW (R:Rl S mvs cus M) (V:Iv S mvs cus sg) {cf:CF} {fr:AFr} {d:Nat} {hd:Int} (f0:fr[0]? = some (some (.ref 1))) (f1:fr[1]? = some (some (.int hd))) (f3:fr[3]? = some (some (.int d))) (h:d<S.dn.length) :
  zR (zF (zF (zG (z6 0) "done") (z6 3)) (z8 (.int 0))) [.Eq] [(z6 1)] cf fr (S.hp r)=.ok (decide (gI S.os d=hd)) (S.hp r):=by
 obtain ⟨hd',t,t',_,e3,e2⟩:=R.os_ h
 have hz:S.dn.length<200:=V.I.st▸V.I.K.st
 rw [e2]
 exact zS (zv (zv (zb (z5 f0) rfl kS9) (z5 f3) (xK (xs:=S.dn) rfl (Int.natCast_nonneg _) (Int.lt_trans (Int.ofNat_lt.mpr (Nat.lt_trans h hz)) (by decide)) e3)) (w:=.int 0) rfl Xy) (z5 f1) (by rw [xz,xG])
include X
theorem Zc (R:Rl S mvs cus M) (V:Iv S mvs cus sg) {hd:Int} (d0:0≤hd) (d1:hd<S.hands) :
  run T (n+3) (.meth "Sheet" "last_standing") [.ref 1,.int hd] (S.hp r)=.ok (yY ((zO 0 S.dn.length).filter (stP S.os S.st hd))) (S.hp r):=by
 rw [zW X.kAa]
 have hl:S.dn.length<200:=V.I.st▸V.I.K.st
 obtain ⟨fr',h',e,v3,rfl,rfl⟩:=xO (t:=.one 3) (src:=.imm (rgL S.dn.length)) (cf:=run T (n+2)) (xs:=rgL S.dn.length)
  (body:=(zD [(sIf (zQ .And [(zR (zF (zF (zG (z6 0) "done") (z6 3)) (z8 (.int 0))) [.Eq] [(z6 1)]),(y6 (zF (zG (z6 0) "standing") (z6 3)))]) (zD [(z9 okf (.names (.one 2)) (z6 3))]) (zD []))]))
  (fun m fr h=>∃ v3,fr=[some (.ref 1),some (.int hd),some (yY ((zO 0 m).filter (stP S.os S.st hd))),v3]∧h=S.hp r)
  (fun m fr h _=>rfl)
  (by
   rintro m x fr h ⟨v3,rfl,rfl⟩ hx
   obtain ⟨hm,rfl⟩:=WZ hx
   have t1:=XW (r:=r) R V (cf:=run T (n+2)) (fr:=[some (.ref 1),some (.int hd),some (yY ((zO 0 m).filter (stP S.os S.st hd))),some (.int m)]) rfl rfl rfl hm
   have t2:=yg (b:=fl S.st m) (zv (zb (cf:=run T (n+2)) (h:=S.hp r) (fr:=[some (.ref 1),some (.int hd),some (yY ((zO 0 m).filter (stP S.os S.st hd))),some (.int m)]) (z5 (i:=0) rfl) rfl Qf) (z5 (i:=3) rfl) (xo (b:=S.st) rfl (Int.natCast_nonneg m) (by rw [V.I.st];exact Int.ofNat_lt.mpr hm) (Nat.le_trans (Nat.le_of_lt V.I.K.st) (by decide)))) rfl
   have t:=zCf t1 t2
   rw [xn,Nat.zero_add,Xn,show stP S.os S.st hd (m:Int)=(decide (gI S.os m=hd) && fl S.st m) from rfl]
   cases hb:(decide (gI S.os m=hd) && fl S.st m) with
   | true =>
    rw [hb] at t
    exact ⟨_,_,_,rfl,(z7 ((zi t).trans ((z7 (zU (z5 rfl) (zZ rfl))).trans zE))).trans zE,_,rfl,rfl⟩
   | false =>
    rw [hb] at t
    exact ⟨_,_,_,rfl,(z7 ((zH t).trans zE)).trans zE,_,rfl,rfl⟩)
  (fr:=[some (.ref 1),some (.int hd),some .none,none]) (h:=S.hp r) ⟨none,rfl,rfl⟩
 rw [z21] at e
 exact zM (fr:=[some (.ref 1),some (.int hd),none,none]) rfl rfl ((z7 (zn (zP (a:=1) (z5 rfl) rfl xZ (ev1 (z5 rfl) ev0) (qO X (n:=n) d0 d1)))).trans ((z7 (zU (v:=.none) rfl (zZ rfl))).trans ((z7 (wO (en:=false) (yv (ev1 (qa (a:=12) (ys:=S.dn) rfl rfl kS9 rfl rfl) ev0) (yu (Nat.lt_trans hl (by decide)))) (xi _) e)).trans (zL (zm (z5 rfl))))))
theorem Qc (R:Rl S mvs cus M) (V:Iv S mvs cus sg) {hd:Int} (d0:0≤hd) (d1:hd<S.hands) (hlo:∀ d∈S.lo,0≤d∧d<S.dn.length) :
  run T (n+3) (.meth "Sheet" "last_gone") [.ref 1,.int hd] (S.hp r)=.ok (yY (S.lo.filter (Jk S.os hd))) (S.hp r):=by
 rw [zW X.kAf]
 obtain ⟨fr',h',e,v3,rfl,rfl⟩:=xO (t:=.one 3) (src:=.ref 14) (cf:=run T (n+2)) (xs:=S.lo.map AV.int)
  (body:=(zD [(sIf (zR (zF (zF (zG (z6 0) "done") (z6 3)) (z8 (.int 0))) [.Eq] [(z6 1)]) (zD [(z9 okf (.names (.one 2)) (z6 3))]) (zD []))]))
  (fun m fr h=>∃ v3,fr=[some (.ref 1),some (.int hd),some (yY ((S.lo.take m).filter (Jk S.os hd))),v3]∧h=S.hp r)
  (fun m fr h hp=>by obtain ⟨_,_,rfl⟩:=hp;exact xw rfl)
  (by
   rintro m x fr h ⟨v3,rfl,rfl⟩ hx
   rw [List.getElem?_map] at hx
   obtain ⟨y,hy,rfl⟩:=y9 hx
   obtain ⟨y0,y1⟩:=hlo y (yF hy)
   obtain ⟨d,rfl⟩:=Int.eq_ofNat_of_zero_le y0
   have t:=XW (r:=r) R V (cf:=run T (n+2)) (hd:=hd) (fr:=[some (.ref 1),some (.int hd),some (yY ((S.lo.take m).filter (Jk S.os hd))),some (.int d)]) rfl rfl rfl (Int.ofNat_lt.mp y1)
   rw [List.take_succ,hy]
   rw [show S.lo.take m++(some (d:Int)).toList=S.lo.take m++[(d:Int)] from rfl,Xn,show Jk S.os hd (d:Int)=decide (gI S.os d=hd) from rfl]
   cases hb:decide (gI S.os d=hd) with
   | true =>
    rw [hb] at t
    exact ⟨_,_,_,rfl,(z7 ((zi t).trans ((z7 (zU (z5 rfl) (zZ rfl))).trans zE))).trans zE,_,rfl,rfl⟩
   | false =>
    rw [hb] at t
    exact ⟨_,_,_,rfl,(z7 ((zH t).trans zE)).trans zE,_,rfl,rfl⟩)
  (fr:=[some (.ref 1),some (.int hd),some .none,none]) (h:=S.hp r) ⟨none,rfl,rfl⟩
 rw [show S.lo.take (S.lo.map AV.int).length=S.lo by rw [List.length_map,List.take_length]] at e
 exact zM (fr:=[some (.ref 1),some (.int hd),none,none]) rfl rfl ((z7 (zn (zP (a:=1) (z5 rfl) rfl xZ (ev1 (z5 rfl) ev0) (qO X (n:=n) d0 d1)))).trans ((z7 (zU (v:=.none) rfl (zZ rfl))).trans ((z7 (wO (en:=false) (zb (z5 rfl) rfl zBv) (wa (xs:=S.lo.map AV.int) rfl) e)).trans (zL (zm (z5 rfl))))))
theorem YC (R:Rl S mvs cus M) (m:Mo hn M A r) {fr:AFr} {cf:CF} {S0:Sh} {d:Nat} {hd:Int} (hz:S.dn.length<200) (f0:fr[0]? = some (some (rf A.a0))) (f1:fr[1]? = some (some (.int hd))) (f4:fr[4]? = some (some (.int d))) (h:d<S.dn.length) :
  zR (zF (zF (zF (z6 0) (z8 (.str "deeds"))) (z6 4)) (z8 (.int 0))) [.Eq] [(z6 1)] cf fr (S0.hp r)=.ok (decide (gI S.os d=hd)) (S0.hp r):=by
 obtain ⟨hd',t,t',e3,_,e2⟩:=R.os_ h
 rw [e2]
 exact zS (zv (zv (m.get f0 w1) (z5 f4) (xK (xs:=M.dd) (show (S0.hp r)[A.a5+15]? = _ from m.e5) (Int.natCast_nonneg _) (Int.lt_trans (Int.ofNat_lt.mpr (Nat.lt_trans h hz)) (by decide)) e3)) (w:=.int 0) rfl Xy) (z5 f1) (by rw [xz,xG])
end
set_option genInjectivity false
set_option genSizeOf false
theorem we {n:Nat}:rgL n=(zO 0 n).map AV.int:=by
 unfold zO
 rw [List.map_map]
 refine List.map_congr_left fun j _=>?_
 show AV.int (j:Int)=AV.int ((0+j:Nat):Int)
 rw [Nat.zero_add]
theorem ZA (l:List Int):yY l=oA l.getLast? := by unfold yY;cases l.getLast? <;> rfl
theorem qh? {l:List Int} (h:l≠[]):(l.map AV.int)[l.length - 1]? = some (yY l):=by
 rw [List.getElem?_map]
 unfold yY
 rw [List.getLast?_eq_getElem?]
 have hl:l.length - 1<l.length:=Nat.sub_lt (List.length_pos_iff.mpr h) (by decide)
 rw [zu hl];rfl
theorem zBo {h:Hp} {a b:Nat} {l:List Int} (e:h[a]? = some (.list (l.map AV.int))) (e':h[b]? = some (.list [])):yZ .NotEq (.ref a) (.ref b) h=some (!l.isEmpty):=by
 have:=z0h e e'
 rw [xz] at this
 rw [jc,this]
theorem Mo.keep {hn:Int} {M:Md} {A:Ad} {r r':Hp} (m:Mo hn M A r) (h:∀ q∈A.P,∀ o,r[q]? = some o→r'[q]? = some o):Mo hn M A r' :=
 ⟨h _ (.head _) _ m.e0,h _ (.tail _ (.head _)) _ m.e1,h _ (.tail _ (.tail _ (.head _))) _ m.e2,h _ (.tail _ (.tail _ (.tail _ (.head _)))) _ m.e3,h _ (.tail _ (.tail _ (.tail _ (.tail _ (.head _))))) _ m.e4,h _ (.tail _ (.tail _ (.tail _ (.tail _ (.tail _ (.head _)))))) _ m.e5,h _ (.tail _ (.tail _ (.tail _ (.tail _ (.tail _ (.tail _ (.head _))))))) _ m.e6,h _ (.tail _ (.tail _ (.tail _ (.tail _ (.tail _ (.tail _ (.tail _ (.head _)))))))) _ m.e8,
  fun i k ds a b=>h k (List.mem_append_right _ (yF a)) _ (m.ec i k ds a b),m.cl⟩
noncomputable def gnP (os:List Int) (st:List Bool) (hd:Int) (d:Int):Bool:=decide (gI os d=hd) && !fl st d
section
variable {T:Tab} {okf:Str→Str→Bool} (X:TT T okf) {n:Nat} {S S0:Sh} {r:Hp} {mvs:List (List (Int×Int))} {cus sg:List (List Int)} {M:Md} {A:Ad} {hn:Int}
include X
theorem Wg (R:Rl S mvs cus M) (V:Iv S mvs cus sg) (m:Mo hn M A r) {hd:Int}:∃ g q,run T (n+1) (.fn "_law_last") [rf A.a0,.int hd] (S0.hp r)=.ok (rf q) (S0.hp (r++g))∧(r++g)[q]? = some (.list [yY ((zO 0 S.dn.length).filter (stP S.os S.st hd)),yY (M.gn.filter (gnP S.os S.st hd))]):=by
 rw [ya X.kBu]
 have k:=R.mk_ V
 have hz:S.dn.length<200:=V.I.st▸V.I.K.st
 have stl:M.st.length=S.dn.length:=by rw [R.st];exact V.I.st
 have dl:=R.dl
 have gl:M.gn.length<200:=by
  have h1:=List.Nodup.length_le_of_subset (l₁:=M.gn) (l₂:=zO 0 S.dn.length) R.gd fun x hx=>by
   obtain ⟨x0,x1⟩:=R.gr x hx
   exact List.mem_map.mpr ⟨x.toNat,List.mem_range.mpr (qb x0 x1),by show ((0+x.toNat:Nat):Int)=x;lia⟩
  rw [zh] at h1;lia
 have lenD:∀ {fr:AFr},fr[0]? = some (some (rf A.a0))→zC (zA (some (.bi .len))) [(zF (z6 0) (z8 (.str "deeds")))] (run T n) fr (S0.hp r)=.ok (.int S.dn.length) (S0.hp r):=fun f=>by
  refine yv (ev1 (m.get f w1) ev0) ?_
  rw [xH,xE,show (S0.hp r)[A.a5+15]? = _ from m.e5,← dl];rfl
 have sy:∀ {fr:AFr} {r':Hp} {d:Nat},Mo hn M A r'→fr[0]? = some (some (rf A.a0))→fr[4]? = some (some (.int d))→d<S.dn.length→zF (zF (z6 0) (z8 (.str "stays"))) (z6 4) (run T n) fr (S0.hp r')=.ok (.bool (fl S.st d)) (S0.hp r'):=fun {fr r' d} m' f f4 h=>by
  have:=m'.stay (S:=S0) (cf:=run T n) (j:=0) k f (z5 f4) (Int.natCast_nonneg d) (by rw [stl];exact Int.ofNat_lt.mpr h)
  rwa [R.st] at this
 have e1:=qp AV.int (own:=1) (i:=4) (test:=zQ .And [(zQ .And [(zR (zF (zF (zF (z6 0) (z8 (.str "deeds"))) (z6 4)) (z8 (.int 0))) [.Eq] [(z6 1)]),(y6 (zF (zF (z6 0) (z8 (.str "stays"))) (z6 4)))])]) (elt:=z6 4) (cf:=run T n) (fr:=[some (rf A.a0),some (.int hd),none,none]) (l:=zO 0 S.dn.length) (p:=stP S.os S.st hd) (f:=AV.int)
  (yv (ev1 (lenD (fr:=[some (rf A.a0),some (.int hd),none,none]) rfl) ev0) (yu (Nat.lt_trans hz (by decide)))) (by rw [zh,← we];exact xi _) (zZ rfl) (by rw [zh];exact Nat.lt_trans hz (by decide))
  (fun fr' _ a2 x hx a3=>by
   obtain ⟨x0,x1⟩:=yJ hx
   obtain ⟨d,rfl⟩:=Int.eq_ofNat_of_zero_le (Int.le_trans (Int.natCast_nonneg _) x0)
   have hd':d<S.dn.length:=by lia
   exact qF (zCf (YC X R m hz ((a2 0 (by decide)).trans rfl) ((a2 1 (by decide)).trans rfl) a3 hd') (yg (sy m ((a2 0 (by decide)).trans rfl) a3 hd') rfl)))
  (fun fr' _ _ x _ a3=>z5 a3)
 generalize hs:(zO 0 S.dn.length).filter (stP S.os S.st hd)=so at *
 have zs:so.length<200:=by rw [← hs];exact Nat.lt_of_le_of_lt qS (by rw [zh];exact hz)
 have m1:=m.grow [.list (so.map AV.int)]
 have e2:=yK AV.int (own:=1) (i:=4) (test:=zQ .And [(zQ .And [(zR (zF (zF (zF (z6 0) (z8 (.str "deeds"))) (z6 4)) (z8 (.int 0))) [.Eq] [(z6 1)]),(ym (y6 (zF (zF (z6 0) (z8 (.str "stays"))) (z6 4))))])]) (elt:=z6 4) (cf:=run T n) (fr:=[some (rf A.a0),some (.int hd),some (rf r.length),none]) (l:=M.gn) (p:=gnP S.os S.st hd) (f:=AV.int)
  (m1.get (S:=S0) (j:=0) rfl z05) (show (S0.hp _)[A.a8+15]? = _ from m1.e8) (zZ rfl) (Nat.lt_trans gl (by decide))
  (fun fr' _ a2 x hx a3=>by
   obtain ⟨x0,x1⟩:=R.gr x hx
   obtain ⟨d,rfl⟩:=Int.eq_ofNat_of_zero_le x0
   have hd':d<S.dn.length:=by lia
   exact qF (zCf (YC X R m1 hz ((a2 0 (by decide)).trans rfl) ((a2 1 (by decide)).trans rfl) a3 hd') (yO (yg (sy m1 ((a2 0 (by decide)).trans rfl) a3 hd') rfl))))
  (fun fr' _ _ x _ a3=>z5 a3)
 generalize hg:M.gn.filter (gnP S.os S.st hd)=go at *
 have zg:go.length<200:=by rw [← hg];exact Nat.lt_of_le_of_lt qS gl
 have q0:(r++[AO.list (so.map AV.int)]++[.list (go.map AV.int)])[r.length]? = some (.list (so.map AV.int)):=zI (zK _ _ [])
 have q1:(r++[AO.list (so.map AV.int)]++[.list (go.map AV.int)])[(r++[AO.list (so.map AV.int)]).length]? = some (.list (go.map AV.int)):=zK _ _ []
 have l1:(r++[AO.list (so.map AV.int)]).length=r.length+1:=by rw [zT];rfl
 rw [l1] at q1
 generalize hr2:r++[AO.list (so.map AV.int)]++[.list (go.map AV.int)]=r2 at *
 let F:AFr:=[some (rf A.a0),some (.int hd),some (rf r.length),some (rf (r.length+1))]
 have e3:zV .Add (z6 2) (zX [(z8 .none)]) (run T n) F (S0.hp r2)=.ok (rf (r2++[AO.list [.none]]).length) (S0.hp (r2++[AO.list [.none]]++[.list (so.map AV.int++[.none])])) :=
  yR (z5 rfl) (zy (ev1 rfl ev0)) (je (h:=S0.hp (r2++[AO.list [.none]])) (a:=r.length+15) (b:=r2.length+15) (zI q0) (zK r2 _ []) (by rw [List.length_map];show _≤1048576;show so.length+1≤_;lia))
 generalize hr3:r2++[AO.list [.none]]=r3 at *
 have q3:(r3++[AO.list (so.map AV.int++[.none])])[r3.length]? = some (.list (so.map AV.int++[.none])):=zK _ _ []
 have q03:(r3++[AO.list (so.map AV.int++[.none])])[r.length]? = some (.list (so.map AV.int)):=by rw [← hr3];exact zI (zI q0)
 have q13:(r3++[AO.list (so.map AV.int++[.none])])[r.length+1]? = some (.list (go.map AV.int)):=by rw [← hr3];exact zI (zI q1)
 generalize hr4:r3++[AO.list (so.map AV.int++[.none])]=r4 at *
 have e4:zV .Sub (Q9 (z8 (.int 1))) (zC (zA (some (.bi .int))) [(qq (z6 2) [.NotEq] [(zX [])])]) (run T n) F (S0.hp r4)=.ok (.int (-1 - (if !so.isEmpty then 1 else 0))) (S0.hp (r4++[AO.list []])) :=
  yR (z33 rfl) (yv (ev1 (wx (z5 rfl) (zy ev0) (zBo (h:=S0.hp (r4++[AO.list []])) (a:=r.length+15) (b:=r4.length+15) (zI q03) (zK r4 _ []))) ev0) zCa) ZD
 have e5:zF (zV .Add (z6 2) (zX [(z8 .none)])) (zV .Sub (Q9 (z8 (.int 1))) (zC (zA (some (.bi .int))) [(qq (z6 2) [.NotEq] [(zX [])])])) (run T n) F (S0.hp r2)=.ok (yY so) (S0.hp (r4++[AO.list []])):=by
  refine zv e3 e4 ?_
  have hq:(S0.hp (r4++[AO.list []]))[r3.length+15]? = some (.list (so.map AV.int++[.none])):=zI q3
  have ll:(so.map AV.int++[AV.none]).length=so.length+1:=by rw [zT,List.length_map];rfl
  cases hso:so with
  | nil=>rw [hso] at hq;exact Yv (k:=0) hq (by decide) (by decide) rfl
  | cons y ys =>
   rw [← hso]
   have hne:so≠[]:=by rw [hso];exact List.cons_ne_nil _ _
   have hpos:0<so.length:=List.length_pos_iff.mpr hne
   have hem:so.isEmpty=false:=by rw [hso];rfl
   rw [hem]
   refine Yv (k:=1) hq (by rw [ll];show _≤1048576;lia) (by rw [ll];lia) ?_
   rw [ll,show so.length+1 - 1 - 1=so.length - 1 by lia,List.getElem?_append_left (by rw [List.length_map];lia)]
   exact qh? hne
 have q15:(r4++[AO.list []])[r.length+1]? = some (.list (go.map AV.int)):=zI q13
 generalize hr5:r4++[AO.list []]=r5 at *
 have e6:zV .Add (zX [(z8 .none)]) (z6 3) (run T n) F (S0.hp r5)=.ok (rf (r5++[AO.list [.none]]).length) (S0.hp (r5++[AO.list [.none]]++[.list ([.none]++go.map AV.int)])) :=
  yR (zy (ev1 rfl ev0)) (z5 rfl) (je (h:=S0.hp (r5++[AO.list [.none]])) (a:=r5.length+15) (b:=r.length+1+15) (zK r5 _ []) (zI q15) (by rw [List.length_map];show 1+go.length≤1048576;lia))
 have e7:zF (zV .Add (zX [(z8 .none)]) (z6 3)) (Q9 (z8 (.int 1))) (run T n) F (S0.hp r5)=.ok (yY go) (S0.hp (r5++[AO.list [.none]]++[.list ([.none]++go.map AV.int)])):=by
  refine zv e6 (z33 rfl) ?_
  have hq:(S0.hp (r5++[AO.list [.none]]++[.list ([.none]++go.map AV.int)]))[(r5++[AO.list [AV.none]]).length+15]? = some (.list ([.none]++go.map AV.int)):=zK (r5++[AO.list [.none]]) _ []
  have ll:([AV.none]++go.map AV.int).length=go.length+1:=by rw [zT,List.length_map,Nat.add_comm];rfl
  refine Yv (k:=0) hq (by rw [ll];show _≤1048576;lia) (by rw [ll];lia) ?_
  rw [ll]
  cases hgo:go with
  | nil=>rfl
  | cons y ys =>
   rw [← hgo]
   have hne:go≠[]:=by rw [hgo];exact List.cons_ne_nil _ _
   have hpos:0<go.length:=List.length_pos_iff.mpr hne
   rw [List.getElem?_append_right (by show 1≤_;lia)]
   show (go.map AV.int)[go.length+1 - 1 - 0 - 1]? = _
   rw [show go.length+1 - 1 - 0 - 1=go.length - 1 by lia]
   exact qh? hne
 generalize hr6:r5++[AO.list [.none]]++[AO.list ([.none]++go.map AV.int)]=r6 at *
 have er:∃ g,r6=r++g:=⟨[.list (so.map AV.int)]++[.list (go.map AV.int)]++[.list [.none]]++[.list (so.map AV.int++[.none])]++[.list []]++[.list [.none]]++[.list ([.none]++go.map AV.int)],by
  rw [← hr6,← hr5,← hr4,← hr3,← hr2];simp only [List.append_assoc]⟩
 obtain ⟨g,er⟩:=er
 refine ⟨g++[.list [yY so,yY go]],r6.length,?_,by rw [← List.append_assoc,← er];exact zK _ _ []⟩
 rw [← List.append_assoc,← er]
 refine zM (fr:=[some (rf A.a0),some (.int hd),none,none]) rfl rfl (fr':=F) ?_
 unfold kBu
 dsimp only
 refine (z7 (zU e1 (zZ rfl))).trans ((z7 (zU (v:=rf (r.length+1)) (h1:=S0.hp r2) (e2.trans ?_) (zZ rfl))).trans (zL (zm (zy (ev1 e5 (ev1 e7 ev0))))))
 rw [← hr2]
 show Out.ok (rf (r++[AO.list (so.map AV.int)]).length) _=_
 rw [l1];rfl
end
set_option genInjectivity false
set_option genSizeOf false
noncomputable def Kz (S:Sh) (A:Ad) (r:Hp) (S':Sh) (A':Ad) (r':Hp):Prop:=∀ (q:Nat) (o:AO),q∉S.mv→q∉S.cu→q∉A.P→r[q]? = some o→r'[q]? = some o∧q∉S'.mv∧q∉S'.cu∧q∉A'.P
theorem Kz.of {S S':Sh} {A A':Ad} {r r1 r':Hp} (K:Kps S r S' r1) (K':Kq A.P r1 r') (h:∀ q∈A'.P,q∈A.P∨(r1.length≤q∧q<r'.length)):Kz S A r S' A' r':=fun q o a b c e=>by
 obtain ⟨e1,e2,e3⟩:=K q o a b e
 refine ⟨K'.2 q o c e1,e2,e3,fun m=>?_⟩
 rcases h q m with m | m
 ·exact c m
 ·exact absurd (y7 e1).1 (Nat.not_lt.mpr m.1)
theorem zDv {A:Ad} (nd:A.P.Nodup) {q:Nat} (hq:q∉A.P):({ A with a8:=q }:Ad).P.Nodup:=by
 have nd:([A.a0,A.a1,A.a2,A.a3,A.a4,A.a5,A.a6]++([A.a8]++A.cs)).Nodup:=nd
 have hq:q∉[A.a0,A.a1,A.a2,A.a3,A.a4,A.a5,A.a6]++([A.a8]++A.cs):=hq
 show ([A.a0,A.a1,A.a2,A.a3,A.a4,A.a5,A.a6]++([q]++A.cs)).Nodup
 generalize [A.a0,A.a1,A.a2,A.a3,A.a4,A.a5,A.a6]=l at *
 obtain ⟨n1,n2,n3⟩:=List.nodup_append.mp nd
 have n2:=(List.nodup_cons.mp n2).2
 refine List.nodup_append.mpr ⟨n1,List.nodup_cons.mpr ⟨fun h=>hq (List.mem_append_right _ (.tail _ h)),n2⟩,fun x hx y hy e=>?_⟩
 rcases List.mem_cons.mp hy with rfl | hy
 ·exact hq (List.mem_append_left _ (e▸hx))
 ·exact n3 x hx y (.tail _ hy) e
theorem zBq {h:Hp} {x y:Int}:yZ .NotEq (.int x) (.int y) h=some (!decide (x=y)):=by rw [jc,xG]
theorem z2f {A:Ad} {hn:Int} {q:Nat}:xT (A.kv hn) ("gone" : Str) (rf q)=Ad.kv { A with a8:=q } hn:=rfl
theorem Mo.set_gone {hn:Int} {M:Md} {A:Ad} {r:Hp} {S:Sh} {q:Nat} (m:Mo hn M A r):qH (S.hp r) (rf A.a0) (.str "gone") (rf q)=some (S.hp (r.set A.a0 (.dicS (Ad.kv { A with a8:=q } hn)))) :=
 (z1x (h:=S.hp r) (a:=A.a0+15) (kv:=A.kv hn) m.e0 (zZ rfl)).trans (by rw [z2f];rfl)
section
variable {T:Tab} {okf:Str→Str→Bool} (X:TT T okf) {n:Nat} {S:Sh} {r:Hp} {mvs:List (List (Int×Int))} {cus sg:List (List Int)} {M:Md} {A:Ad} {hn:Int} {hands:Int} {c k:Nat}
omit X in
theorem Bs.mo {S':Sh} {r':Hp} (B:Bs hands c k A.P S mvs cus sg r) (m:Mo hn M A r) (K:Kps S r S' r'):Mo hn M A r':=m.keep fun q hq o h=>(K q o (B.p q hq).2.1 (B.p q hq).2.2 h).1
include X
theorem W2 (m:Mo hn M A r) (nd:A.P.Nodup) (z:M.st.length<200) {d:Nat} (hd:d<M.st.length) {fr:AFr} (f1:fr[1]? = some (some (rf A.a0))) (f2:fr[2]? = some (some (.int d))) :
  z9 okf (.item (zF (z6 1) (z8 (.str "stays"))) (z6 2)) (X6 (zF (zF (z6 1) (z8 (.str "stays"))) (z6 2))) (run T n) fr (S.hp r)=.ok .next fr (S.hp (r.set A.a6 (.list ((M.st.set d (!fl M.st d)).map AV.bool)))):=by
 have e1:zF (zF (z6 1) (z8 (.str "stays"))) (z6 2) (run T n) fr (S.hp r)=.ok (.bool (fl M.st d)) (S.hp r):=zv (m.get f1 wh) (z5 f2) (xo (show (S.hp r)[A.a6+15]? = _ from m.e6) (Int.natCast_nonneg _) (Int.ofNat_lt.mpr hd) (Nat.le_trans (Nat.le_of_lt z) (by decide)))
 refine ZS (v:=.bool (!fl M.st d)) (h1:=S.hp r) ?_ (m.get f1 wh) (z5 f2) ?_
 ·unfold X6;rw [e1];rfl
 ·rw [Z3,show (S.hp r)[A.a6+15]? = _ from m.e6]
  show (if 0≤(d:Int)∧(d:Int)<((M.st.map AV.bool).length:Nat)∧(M.st.map AV.bool).length≤small then some (S.hp (r.set A.a6 (.list ((M.st.map AV.bool).set (d:Int).toNat (.bool (!fl M.st d)))))) else none)=_
  rw [if_pos ⟨Int.natCast_nonneg _,by rw [List.length_map];exact Int.ofNat_lt.mpr hd,by rw [List.length_map];exact Nat.le_trans (Nat.le_of_lt z) (by decide)⟩,Int.toNat_natCast,List.map_set]
theorem Xl (B:Bs hands c k A.P S mvs cus sg r) (R:Rl S mvs cus M) (m:Mo hn M A r) (nd:A.P.Nodup) (hk:k<200) {d:Nat} (hd:d<S.dn.length) :
  ∃ S' M' A' r',run T (n+6) (.fn "_law_turned") [.ref 1,rf A.a0,.int d] (S.hp r)=.ok .none (Sh.hp S' r')∧Bs hands c (k+1) A'.P S' mvs cus sg r'∧Rl S' mvs cus M'∧Mo hn M' A' r'∧A'.P.Nodup∧A'.a0=A.a0∧S'.le=S.le∧Kz S A r S' A' r':=by
 have V:=B.V
 have kk:=R.mk_ V
 obtain ⟨S',r1,et,ef,B1,K,N⟩:=zCn X (n:=n) B hk hd
 have m1:=B.mo m K
 have hle:S'.le=S.le:=by obtain ⟨_,_,rfl,_⟩:=id N;rfl
 have R':=R.turn V hd N
 have hl:d<M.st.length:=by rw [R.st,V.I.st];exact hd
 have z:=kk.z2
 have hs:zF (zF (z6 1) (z8 (.str "stays"))) (z6 2) (run T (n+5)) [some (.ref 1),some (rf A.a0),some (.int d)] (S.hp r)=.ok (.bool (fl M.st d)) (S.hp r):=zv (m.get rfl wh) (z5 rfl) (xo (show (S.hp r)[A.a6+15]? = _ from m.e6) (Int.natCast_nonneg _) (Int.ofNat_lt.mpr hl) (Nat.le_trans (Nat.le_of_lt z) (by decide)))
 rw [ya X.kBa]
 cases hf:fl M.st d with
 | true =>
  rw [hf] at hs R'
  rw [if_pos rfl] at R'
  have e:=et (by rw [← R.st];exact hf)
  have gl:M.gn.length<1000:=by
   have h1:=List.Nodup.length_le_of_subset (l₁:=M.gn) (l₂:=zO 0 S.dn.length) R.gd fun x hx=>by
    obtain ⟨x0,x1⟩:=R.gr x hx
    exact List.mem_map.mpr ⟨x.toNat,List.mem_range.mpr (qb x0 x1),by show ((0+x.toNat:Nat):Int)=x;lia⟩
   rw [zh] at h1
   have:S.dn.length<200:=V.I.st▸V.I.K.st
   lia
  have e1:=yK AV.int (own:=1) (i:=3) (test:=zQ .And [(zR (z6 3) [.NotEq] [(z6 2)])]) (elt:=z6 3) (cf:=run T (n+5)) (fr:=[some (.ref 1),some (rf A.a0),some (.int d)]) (l:=M.gn) (p:=fun x=>!decide (x=(d:Int))) (f:=AV.int)
   (m1.get (S:=S') (j:=1) rfl z05) (show (S'.hp _)[A.a8+15]? = _ from m1.e8) (zZ rfl) (Nat.lt_trans gl (by decide))
   (fun fr' _ a2 x hx a3=>qF (zS (z5 a3) (z5 (v:=.int d) ((a2 2 (by decide)).trans rfl)) zBq)) (fun fr' _ _ x _ a3=>z5 a3)
  generalize hfl:M.gn.filter (fun x=>!decide (x=(d:Int)))=fl' at *
  have lf:fl'.length<1000:=by rw [← hfl];exact Nat.lt_of_le_of_lt qS gl
  have q1:(r1++[AO.list (fl'.map AV.int)])[r1.length]? = some (.list (fl'.map AV.int)):=zK _ _ []
  have m2:=(m1.grow [AO.list (fl'.map AV.int)]).grow [AO.list [AV.int d]]
  have K2:Kq A.P r1 (r1++[AO.list (fl'.map AV.int)]++[AO.list [AV.int d]]):=Kq.of_grow.grow _
  generalize hr2:r1++[AO.list (fl'.map AV.int)]=r2 at *
  have ea:zV .Add (zj (zF (z6 1) (z8 (.str "gone"))) 1 (.one 3) (zQ .And [(zR (z6 3) [.NotEq] [(z6 2)])]) (z6 3)) (zX [(z6 2)]) (run T (n+5)) [some (.ref 1),some (rf A.a0),some (.int d)] (S'.hp r1)=.ok (rf (r2++[AO.list [AV.int d]]).length) (S'.hp (r2++[AO.list [AV.int d]]++[AO.list ((fl'++[(d:Int)]).map AV.int)])):=by
   refine (yR (v:=rf r1.length) (h1:=S'.hp r2) (e1.trans (by rw [← hr2];rfl)) (zy (ev1 (z5 rfl) ev0)) (je (h:=S'.hp (r2++[AO.list [AV.int d]])) (a:=r1.length+15) (b:=r2.length+15) (zI q1) (zK r2 _ []) (by rw [List.length_map];show fl'.length+1≤1048576;lia))).trans ?_
   rw [List.map_append];rfl
  generalize hr3:r2++[AO.list [AV.int d]]=r3 at *
  have m4:=m2.grow [AO.list ((fl'++[(d:Int)]).map AV.int)]
  have q4:(r3++[AO.list ((fl'++[(d:Int)]).map AV.int)])[r3.length]? = some (.list ((fl'++[(d:Int)]).map AV.int)):=zK _ _ []
  have nq:r3.length∉A.P:=fun h=>absurd (m2.inP _ h) (Nat.lt_irrefl _)
  have m5:=m4.s8 (q:=r3.length) nd (fun (h:A.a0=r3.length)=>nq (by rw [← h];exact .head _)) q4
  have nd5:=zDv nd nq
  have m6:=m5.s6 nd5 (M.st.set d (!true))
  have K6:=((K2.grow [AO.list ((fl'++[(d:Int)]).map AV.int)]).set (a:=A.a0) (.head _) (.dicS (Ad.kv { A with a8:=r3.length } hn))).set (a:=A.a6) (.tail _ (.tail _ (.tail _ (.tail _ (.tail _ (.tail _ (.head _))))))) (.list ((M.st.set d (!true)).map AV.bool))
  have es:=W2 X (n:=n+5) (S:=S') (okf:=okf) m5 nd5 z hl (fr:=[some (.ref 1),some (rf A.a0),some (.int d)]) rfl rfl
  have hP:∀ q∈({ A with a8:=r3.length }:Ad).P,q∈A.P∨(r1.length≤q∧q<(((r3++[AO.list ((fl'++[(d:Int)]).map AV.int)]).set A.a0 (.dicS (Ad.kv { A with a8:=r3.length } hn))).set A.a6 (.list ((M.st.set d (!true)).map AV.bool))).length):=by
   intro q hq
   have hq:q∈[A.a0,A.a1,A.a2,A.a3,A.a4,A.a5,A.a6]++([r3.length]++A.cs):=hq
   rcases yn hq with h | h
   ·exact .inl (show q∈[A.a0,A.a1,A.a2,A.a3,A.a4,A.a5,A.a6]++([A.a8]++A.cs) from List.mem_append_left _ h)
   ·rcases yn h with h | h
    ·rw [xg h]
     refine .inr ⟨K2.1,?_⟩
     rw [List.length_set,List.length_set,zT];exact Nat.lt_succ_self _
    ·exact .inl (show q∈[A.a0,A.a1,A.a2,A.a3,A.a4,A.a5,A.a6]++([A.a8]++A.cs) from List.mem_append_right _ (List.mem_append_right _ h))
  refine ⟨S',_,{ A with a8:=r3.length },_,yI (fr:=[some (.ref 1),some (rf A.a0),some (.int d)]) rfl rfl (fr':=[some (.ref 1),some (rf A.a0),some (.int d)]) ?_,B1.kq K6 hP,R',m6,nd5,rfl,hle,Kz.of K K6 hP⟩
  ·unfold kBa
   dsimp only
   refine (z7 ((zi (yg hs rfl)).trans ((z7 (zn (zP (a:=1) (z5 rfl) rfl Yq (ev1 (z5 rfl) ev0) e))).trans ((z7 (ZS ea (z5 rfl) rfl (m4.set_gone (S:=S')))).trans zE)))).trans ((z7 (es.trans ?_)).trans zE)
   show OS.ok .next _ (S'.hp (List.set _ A.a6 (.list ((M.st.set d (!fl M.st d)).map AV.bool))))=_
   rw [hf]
 | false =>
  rw [hf] at hs R'
  rw [if_neg Bool.false_ne_true] at R'
  have e:=ef (by rw [← R.st];exact hf)
  have m6:=m1.s6 nd (M.st.set d (!false))
  have K6:Kq A.P r1 (r1.set A.a6 (.list ((M.st.set d (!false)).map AV.bool))):=Kq.refl.set (.tail _ (.tail _ (.tail _ (.tail _ (.tail _ (.tail _ (.head _))))))) _
  have es:=W2 X (n:=n+5) (S:=S') (okf:=okf) m1 nd z hl (fr:=[some (.ref 1),some (rf A.a0),some (.int d)]) rfl rfl
  refine ⟨S',_,A,_,yI (fr:=[some (.ref 1),some (rf A.a0),some (.int d)]) rfl rfl (fr':=[some (.ref 1),some (rf A.a0),some (.int d)]) ?_,B1.kq K6 fun q h=>.inl h,R',m6,nd,rfl,hle,Kz.of K K6 fun q h=>.inl h⟩
  unfold kBa
  dsimp only
  refine (z7 ((zH (yg hs rfl)).trans ((z7 (zn (zP (a:=1) (z5 rfl) rfl Xe (ev1 (z5 rfl) ev0) e))).trans zE))).trans ((z7 (es.trans ?_)).trans zE)
  rw [hf]
end
set_option genInjectivity false
set_option genSizeOf false
theorem j8 {α:Type} (gv:α→AV) {S:Sh} {cf:CF} {it:XE} {own i:Nat} {v:AV} {src:Src} {test:XT} {elt:XE} {fr:AFr} {h r:Hp} {l:List α} {p:α→Bool} {f:α→AV}
  (e1:it cf fr h=.ok v (S.hp r)) (es:yk (S.hp r) v=some (src,l.length)) (e2:∀ k G,src.next? (S.hp (r++G)) k=some ((l.map gv)[k]?)) (hi:i<(fr++List.replicate own none).length) (hsm:l.length<small)
  (ht:∀ x∈l,∀ G,∃ g,test cf ((fr++List.replicate own none).set i (some (gv x))) (S.hp (r++G))=.ok (p x) (S.hp (r++G++g)))
  (he:∀ x∈l,p x=true→∀ G,∃ g,elt cf ((fr++List.replicate own none).set i (some (gv x))) (S.hp (r++G))=.ok (f x) (S.hp (r++G++g))) :
  ∃ G,zj it own (.one i) test elt cf fr h=.ok (.ref ((r++G).length+15)) (S.hp (r++G++[.list ((l.filter p).map f)])):=by
 have key:∀ (m k:Nat) (acc:List AV) (fr':AFr) (G:Hp),k+m=l.length→i<fr'.length→(∀ v,fr'.set i v=(fr++List.replicate own none).set i v)→acc.length≤k →
   ∃ G',yr (.one i) test elt src (m+1) k acc cf fr' (S.hp (r++G))=.ok (acc++((l.drop k).filter p).map f) (S.hp (r++G')):=by
  intro m
  induction m with
  | zero =>
   intro k acc fr' G hk hl hs ha
   have hk:k=l.length:=hk
   refine ⟨G,?_⟩
   show (match src.next? (S.hp (r++G)) k with
    | none=>Out.stuck
    | some none=>.ok acc (S.hp (r++G))
    | some (some x)=>_)=_
   rw [e2 k G,List.getElem?_eq_none (by rw [List.length_map];exact Nat.le_of_eq hk.symm),List.drop_eq_nil_of_le (Nat.le_of_eq hk.symm)]
   show Out.ok acc _=.ok (acc++[]) _
   rw [List.append_nil]
  | succ m ih =>
   intro k acc fr' G hk hl hs ha
   have hk':k<l.length:=by rw [← hk];exact Nat.lt_add_of_pos_right (Nat.succ_pos m)
   have hm:l[k]∈l:=List.getElem_mem hk'
   have ek:k+1+m=l.length:=by rw [← hk,Nat.add_assoc,Nat.add_comm 1 m]
   obtain ⟨g1,q1⟩:=ht _ hm G
   rw [← hs] at q1
   have hb:NTgt.bind (.one i) (gv l[k]) fr'=some (fr'.set i (some (gv l[k]))):=if_pos hl
   have g2:i<(fr'.set i (some (gv l[k]))).length:=by rw [List.length_set];exact hl
   have g3:∀ v,(fr'.set i (some (gv l[k]))).set i v=(fr++List.replicate own none).set i v:=fun v=>by rw [List.set_set];exact hs v
   rw [List.drop_eq_getElem_cons hk',List.filter_cons]
   rw [qo,e2 k G,List.getElem?_map,zu hk']
   dsimp only [Option.map]
   rw [hb]
   dsimp only
   rw [q1,Out.bind0_ok]
   cases hp:p l[k] with
   | true =>
    obtain ⟨g4,q2⟩:=he _ hm hp (G++g1)
    rw [← hs,← List.append_assoc] at q2
    rw [if_pos rfl,q2,Out.bind0_ok,if_pos (Nat.lt_of_le_of_lt ha (Nat.lt_trans hk' hsm))]
    obtain ⟨G',q3⟩:=ih (k+1) (acc++[f l[k]]) _ (G++g1++g4) ek g2 g3 (by rw [zT];exact Nat.succ_le_succ ha)
    rw [← List.append_assoc,← List.append_assoc] at q3
    exact ⟨G',by rw [q3,List.append_assoc];rfl⟩
   | false =>
    rw [if_neg Bool.false_ne_true]
    obtain ⟨G',q3⟩:=ih (k+1) acc _ (G++g1) ek g2 g3 (Nat.le_succ_of_le ha)
    rw [← List.append_assoc] at q3
    exact ⟨G',q3⟩
 obtain ⟨G,e⟩:=key l.length 0 [] (fr++List.replicate own none) [] (Nat.zero_add _) hi (fun _=>rfl) (Nat.le_refl _)
 rw [List.append_nil] at e
 refine ⟨G,?_⟩
 unfold zj
 rw [e1,Out.bind_ok,es]
 dsimp only
 rw [e]
 rfl
theorem qk {α:Type} (l:List α):l.filter (fun _=>true)=l:=List.filter_eq_self.mpr fun _ _=>rfl
structure Lk (hn:Int) (S:Sh) (mvs:List (List (Int×Int))) (cus:List (List Int)) (M:Md) (A:Ad) (q:Nat) (r:Hp):Prop where
 m:Mo hn M A r
 D:Dy S mvs cus r
 q:r[q]? = some (.list (S.sh.map AV.int))
theorem Lk.grow {hn:Int} {S:Sh} {mvs:List (List (Int×Int))} {cus:List (List Int)} {M:Md} {A:Ad} {q:Nat} {r:Hp} (L:Lk hn S mvs cus M A q r) (g:Hp):Lk hn S mvs cus M A q (r++g):=⟨L.m.grow g,L.D.grow g,zI L.q⟩
theorem z2p {st:List Bool}:(zO 0 st.length).map (fun d=>AV.bool (fl st d))=st.map AV.bool:=by
 unfold zO
 rw [List.map_map]
 refine List.ext_getElem? fun l=>?_
 rw [List.getElem?_map,List.getElem?_map]
 by_cases h:l<st.length
 ·rw [List.getElem?_range h,zu h]
  show some (AV.bool (fl st ((0+l:Nat):Int)))=_
  rw [Nat.zero_add]
  unfold fl
  rw [Int.toNat_natCast,zu h];rfl
 ·rw [List.getElem?_eq_none (by rw [List.length_range];exact Nat.not_lt.mp h),List.getElem?_eq_none (Nat.not_lt.mp h)];rfl
theorem Wf (l:List Bool):PyData.canLayAll0 (l.map PyData.bool)=true:=by
 induction l with
 | nil=>rfl
 | cons x l ih=>rw [List.map_cons,PyData.canLayAll0,ih];rfl
theorem Jn {h:Hp} {a b:Nat} {l:List Bool} (e:h[a]? = some (.list (l.map AV.bool))) (e':h[b]? = some (.list (l.map AV.bool))):yZ .NotEq (.ref a) (.ref b) h=some false:=(Qm (yc e (j2 h 7 l)) (yc e' (j2 h 7 l)) (Wf l)).2
theorem J0 {h:Hp} {n:Nat} {o:Option Int}:toD h n (oA o)=some (oD o):=by cases o <;> cases n <;> rfl
theorem zBn {h:Hp} {a b:Nat} {x y:Option Int} (e:h[a]? = some (.list [oA x,oA y])) (e':h[b]? = some (.list [oA x,oA y])):yZ .NotEq (.ref a) (.ref b) h=some false:=by
 have q:yT (toD h 7) [oA x,oA y]=some [oD x,oD y]:=xQ J0 (xQ J0 rfl)
 refine (Qm (yc e q) (yc e' q) ?_).2
 cases x <;> cases y <;> rfl
theorem Q7 {h:Hp} {a b:Nat} {l:List Nat} (ok:okT l) (e:h[a]? = some (.list (l.map ch))) (e':h[b]? = some (.list [])):yZ .Eq (.ref a) (.ref b) h=some l.isEmpty∧yZ .NotEq (.ref a) (.ref b) h=some (!l.isEmpty):=by
 have key:∃ ds,yT (toD h 7) (l.map ch)=some ds∧ds.isEmpty=l.isEmpty:=by
  clear e e'
  induction l with
  | nil=>exact ⟨[],rfl,rfl⟩
  | cons c l ih =>
   obtain ⟨ds,hd,_⟩:=ih fun x hx=>ok x (.tail _ hx)
   have hs:PyData.strOk (tx [c])=true:=kBy (cs:=[c]) fun x hx=>by rw [xg hx];exact ok c (.head _)
   exact ⟨.str (tx [c])::ds,xQ (by show (if PyData.strOk (tx [c]) then some (PyData.str (tx [c])) else none)=_;rw [if_pos hs]) hd,rfl⟩
 obtain ⟨ds,hd,hl⟩:=key
 have e1:aEq h (.ref a) (.ref b)=some l.isEmpty:=by
  rw [jB (yc e hd) (yc (ds:=[]) e' rfl),← hl]
  cases ds <;> rfl
 exact ⟨e1,by rw [jc,e1]⟩
section
variable {T:Tab} {okf:Str→Str→Bool} (X:TT T okf) {n:Nat} {S:Sh} {r:Hp} {mvs:List (List (Int×Int))} {cus sg:List (List Int)} {M:Md} {A:Ad} {hn:Int} {q:Nat} {fr:AFr}
include X
theorem zE5 (V:Iv S mvs cus sg) (L:Lk hn S mvs cus M A q r) (f0:fr[0]? = some (some (.ref 1))) (f3:fr[3]? = some (some (rf q))) (fl:fr.length=10):∃ g,zR (zj (zC (zA (some (.bi .range))) [(zC (zA (some (.bi .len))) [(z6 3)])]) 1 (.one 10) (zQ .And []) (zB (z6 0) "sign_at" none [(z6 10)])) [.NotEq] [(z6 3)] (run T (n+4)) fr (S.hp r)=.ok false (S.hp (r++g)):=by
 have hsl:=V.I.O.tkl.2
 have e0:zC (zA (some (.bi .range))) [(zC (zA (some (.bi .len))) [(z6 3)])] (run T (n+4)) fr (S.hp r)=.ok (.range 0 S.sh.length) (S.hp r):=by
  refine yv (ev1 (v:=.int S.sh.length) (yv (ev1 (z5 f3) ev0) ?_) ev0) (yu (Nat.lt_trans hsl (by decide)))
  rw [xH,xE,show (S.hp r)[q+15]? = _ from L.q]
  show Out.ok (AV.int ((S.sh.map AV.int).length:Nat)) _=_
  rw [List.length_map]
 have lf:(fr++List.replicate 1 none).length=11:=by rw [zT,fl];rfl
 obtain ⟨G,e⟩:=j8 AV.int (S:=S) (own:=1) (i:=10) (cf:=run T (n+4)) (fr:=fr) (l:=zO 0 S.sh.length) (test:=zQ .And []) (elt:=zB (z6 0) "sign_at" none [(z6 10)]) (p:=fun _=>true) (f:=fun x=>AV.int (S.sh[x.toNat]?.getD 0)) e0 (by rw [zh];exact xi _) (fun k G=>by show some (rgL S.sh.length)[k]? = _;rw [we]) (by rw [lf];decide) (by rw [zh];exact Nat.lt_trans hsl (by decide))
  (fun x _ G=>⟨[],by rw [List.append_nil];rfl⟩)
  (fun x hx _ G=>by
   obtain ⟨x0,x1⟩:=yJ hx
   obtain ⟨d,rfl⟩:=Int.eq_ofNat_of_zero_le (Int.le_trans (Int.natCast_nonneg _) x0)
   have hd:d<(tk S.b S.l).length:=by rw [← V.I.O.tkl.1];lia
   obtain ⟨y,hy⟩:∃ y,(tk S.b S.l)[d]? = some y:=⟨_,zu hd⟩
   obtain ⟨g,e⟩:=JR X (n:=n) (r:=r++G) V.I hy
   refine ⟨g,zP (a:=1) (z5 ?_) rfl Qa (ev1 (z5 ?_) ev0) (e.trans ?_)⟩
   ·rw [List.getElem?_set_ne (by decide),List.getElem?_append_left (by rw [fl];decide)];exact f0
   ·exact List.getElem?_set_self (by rw [lf];decide)
   ·have:S.sh[d]? = some (gI S.ow y):=by
     show ((tk S.b S.l).map _)[d]? = _
     rw [List.getElem?_map,hy];rfl
    show _=Out.ok (AV.int (S.sh[(d:Int).toNat]?.getD 0)) _
    rw [Int.toNat_natCast,this];rfl)
 rw [qk] at e
 have el:(zO 0 S.sh.length).map (fun x=>AV.int (S.sh[x.toNat]?.getD 0))=S.sh.map AV.int:=by
  unfold zO
  rw [List.map_map]
  refine List.ext_getElem? fun l=>?_
  rw [List.getElem?_map,List.getElem?_map]
  by_cases h:l<S.sh.length
  ·rw [List.getElem?_range h,zu h]
   show some (AV.int (S.sh[((0+l:Nat):Int).toNat]?.getD 0))=_
   rw [Nat.zero_add,Int.toNat_natCast,zu h];rfl
  ·rw [List.getElem?_eq_none (by rw [List.length_range];exact Nat.not_lt.mp h),List.getElem?_eq_none (Nat.not_lt.mp h)];rfl
 rw [el] at e
 refine ⟨G++[.list (S.sh.map AV.int)],?_⟩
 rw [← List.append_assoc]
 exact zS e (z5 f3) (WG (h:=S.hp (r++G++[.list (S.sh.map AV.int)])) (zK (r++G) _ []) (zI (zI L.q)))
theorem Jz (R:Rl S mvs cus M) (V:Iv S mvs cus sg) (L:Lk hn S mvs cus M A q r) {j:Nat} {i:Int} (f0:fr[0]? = some (some (.ref 1))) (f1:fr[1]? = some (some (rf A.a0))) (fj:fr[j]? = some (some (.int i))) (i0:0≤i) (i1:i<S.le.length):∃ g,zR (zB (z6 0) "place_of" none [(z6 j)]) [.NotEq] [(zC (zA (some (.fn "_law_place"))) [(z6 1),(z6 j)])] (run T (n+4)) fr (S.hp r)=.ok false (S.hp (r++g)):=by
 obtain ⟨g,e⟩:=Jf X (n:=n) V.I L.D i0 i1
 obtain ⟨g',e'⟩:=Zb X (n:=n+1) (S:=S) (L.m.grow g) (R.mk_ V) i0 (by rw [R.le];exact i1)
 rw [R.pv V i0 i1] at e'
 refine ⟨g++g',?_⟩
 rw [← List.append_assoc]
 exact zS (zP (a:=1) (z5 f0) rfl jo (ev1 (z5 fj) ev0) e) (zp (ev1 (z5 f1) (ev1 (z5 fj) ev0)) e') zDu
theorem zE4 (R:Rl S mvs cus M) (V:Iv S mvs cus sg) (ok:okT S.le) (L:Lk hn S mvs cus M A q r) (f0:fr[0]? = some (some (.ref 1))) (f1:fr[1]? = some (some (rf A.a0))) (f3:fr[3]? = some (some (rf q))) (fl:fr.length=10):∃ g,zQ .Or [(zR (zB (z6 0) "shown" none []) [.NotEq] [(z6 3)]),(zR (zB (z6 0) "text" none []) [.NotEq] [(zB (z8 (.str "")) "join" (some .join) [(zj (z6 3) 1 (.one 10) (zQ .And []) (zF (zF (z6 1) (z8 (.str "faces"))) (z6 10)))])])] (run T (n+5)) fr (S.hp r)=.ok false (S.hp (r++g)):=by
 have hsl:=V.I.O.tkl.2
 have es:=QN X (n:=n+1) (r:=r) V.I.O
 have L1:=L.grow [.list (S.l.map AV.int),.list (S.sh.map AV.int)]
 obtain ⟨g,et⟩:=zCo X (n:=n) (r:=r++[.list (S.l.map AV.int),.list (S.sh.map AV.int)]) V.I.O
 have hq:(r++[AO.list (S.l.map AV.int),.list (S.sh.map AV.int)])[r.length+1]? = some (.list (S.sh.map AV.int)):=yH r _ 1
 have L2:=L1.grow g
 have a1:zR (zB (z6 0) "shown" none []) [.NotEq] [(z6 3)] (run T (n+5)) fr (S.hp r)=.ok false (S.hp (r++[AO.list (S.l.map AV.int),.list (S.sh.map AV.int)])) :=
  zS (zP (a:=1) (z5 f0) rfl ZY ev0 es) (z5 f3) (WG (h:=S.hp _) (show (S.hp _)[r.length+1+15]? = _ from hq) (show (S.hp _)[q+15]? = _ from L1.q))
 generalize hr1:r++[AO.list (S.l.map AV.int),.list (S.sh.map AV.int)]=r1 at *
 have lf:(fr++List.replicate 1 none).length=11:=by rw [zT,fl];rfl
 have ec:=yK AV.int (own:=1) (i:=10) (test:=zQ .And []) (elt:=zF (zF (z6 1) (z8 (.str "faces"))) (z6 10)) (cf:=run T (n+5)) (fr:=fr) (l:=S.sh) (p:=fun _=>true) (f:=fun x=>ch (S.le[x.toNat]?.getD 0)) (z5 f3) (show (S.hp (r1++g))[q+15]? = _ from L2.q) (by rw [fl];decide) (Nat.lt_trans hsl (by decide))
  (fun fr' a1 a2 x hx a3=>rfl)
  (fun fr' a1 a2 x hx a3=>by
   obtain ⟨y0,y1⟩:=V.I.O.sh_mem hx
   have h2:=qb y0 y1
   have g1:fr'[1]? = some (some (rf A.a0)):=by rw [a2 1 (by decide),List.getElem?_append_left (by rw [fl];decide)];exact f1
   have hf:(S.hp (r1++g))[A.a2+15]? = some (.list (S.le.map ch)):=by rw [← R.le];exact L2.m.e2
   exact zv (L2.m.get g1 w0) (z5 a3) (xK hf y0 (Int.lt_trans (Int.lt_of_lt_of_le y1 (Int.ofNat_le.mpr (Nat.le_of_lt V.I.O.le))) (by decide)) (by rw [List.getElem?_map,zu h2];rfl)))
 rw [qk] at ec
 have ecs:S.sh.map (fun x=>ch (S.le[x.toNat]?.getD 0))=S.cs.map ch:=by unfold Sh.cs;rw [List.map_map];rfl
 rw [ecs] at ec
 have okc:okT S.cs:=fun c hc=>by
  obtain ⟨i,hi,rfl⟩:=List.mem_map.mp hc
  obtain ⟨y0,y1⟩:=V.I.O.sh_mem hi
  rw [zu (qb y0 y1)];exact ok _ (List.getElem_mem _)
 have lc:S.cs.length=S.sh.length:=List.length_map _
 have hgj:(S.hp (r1++g++[AO.list (S.cs.map ch)]))[(r1++g).length+15]? = some (.list (S.cs.map fun c=>AV.str ⟨#[c]⟩)):=zK (r1++g) _ []
 have ej:=ZX (sep := "") hgj ZJ (by rw [ZI];show _+_ * 0≤1048576;lia)
 rw [j4] at ej
 have a2:zR (zB (z6 0) "text" none []) [.NotEq] [(zB (z8 (.str "")) "join" (some .join) [(zj (z6 3) 1 (.one 10) (zQ .And []) (zF (zF (z6 1) (z8 (.str "faces"))) (z6 10)))])] (run T (n+5)) fr (S.hp r1)=.ok false (S.hp (r1++g++[AO.list (S.cs.map ch)])) :=
  zS (zP (a:=1) (z5 f0) rfl z29 ev0 et) (Jb (h1:=S.hp (r1++g)) rfl (ev1 ec ev0) ej) (by rw [jc,wC (kBy okc) (kBy okc),beq_self_eq_true];rfl)
 refine ⟨[AO.list (S.l.map AV.int),.list (S.sh.map AV.int)]++g++[.list (S.cs.map ch)],?_⟩
 rw [← List.append_assoc,← List.append_assoc,hr1]
 exact xP a1 (xP a2 qJ)
theorem zE3 (R:Rl S mvs cus M) (V:Iv S mvs cus sg) (L:Lk hn S mvs cus M A q r) (f0:fr[0]? = some (some (.ref 1))) (f1:fr[1]? = some (some (rf A.a0))) (fl':fr.length=10):∃ g,zR (zj (zC (zA (some (.bi .range))) [(zC (zA (some (.bi .len))) [(zF (z6 1) (z8 (.str "deeds")))])]) 1 (.one 10) (zQ .And []) (zB (z6 0) "stands" none [(z6 10)])) [.NotEq] [(zF (z6 1) (z8 (.str "stays")))] (run T (n+3)) fr (S.hp r)=.ok false (S.hp (r++g)):=by
 have hz:S.dn.length<200:=V.I.st▸V.I.K.st
 have e0:zC (zA (some (.bi .range))) [(zC (zA (some (.bi .len))) [(zF (z6 1) (z8 (.str "deeds")))])] (run T (n+3)) fr (S.hp r)=.ok (.range 0 S.dn.length) (S.hp r):=by
  refine yv (ev1 (v:=.int S.dn.length) (yv (ev1 (L.m.get f1 w1) ev0) ?_) ev0) (yu (Nat.lt_trans hz (by decide)))
  rw [xH,xE,show (S.hp r)[A.a5+15]? = _ from L.m.e5,← R.dl];rfl
 have e:=qp AV.int (own:=1) (i:=10) (cf:=run T (n+3)) (fr:=fr) (l:=zO 0 S.dn.length) (test:=zQ .And []) (elt:=zB (z6 0) "stands" none [(z6 10)]) (p:=fun _=>true) (f:=fun d=>AV.bool (fl S.st d)) e0 (by rw [zh,← we];exact xi _) (by rw [fl'];decide) (by rw [zh];exact Nat.lt_trans hz (by decide))
  (fun _ _ _ _ _ _=>rfl)
  (fun fr' _ a2 x hx a3=>by
   obtain ⟨x0,x1⟩:=yJ hx
   have g0:fr'[0]? = some (some (.ref 1)):=by rw [a2 0 (by decide),List.getElem?_append_left (by rw [fl'];decide)];exact f0
   exact zP (a:=1) (z5 g0) rfl jU (ev1 (z5 a3) ev0) (Yb X (n:=n) (Int.le_trans (Int.natCast_nonneg _) x0) (by lia) V.I.st V.I.K.st))
 rw [qk] at e
 have el:(zO 0 S.dn.length).map (fun d=>AV.bool (fl S.st d))=S.st.map AV.bool:=by rw [← V.I.st];exact z2p
 rw [el] at e
 refine ⟨[.list (S.st.map AV.bool)],zS e ((L.m.grow _).get f1 wh) (Jn (h:=S.hp (r++[.list (S.st.map AV.bool)])) (l:=S.st) (zK r _ []) ?_)⟩
 have:=(L.m.grow [.list (S.st.map AV.bool)]).e6
 rw [R.st] at this
 exact this
theorem zE2 (R:Rl S mvs cus M) (V:Iv S mvs cus sg) (L:Lk hn S mvs cus M A q r) {hd:Int} (h0:0≤hd) (h1:hd<S.hands) (f0:fr[0]? = some (some (.ref 1))) (f1:fr[1]? = some (some (rf A.a0))) (f5:fr[5]? = some (some (.int hd))):∃ g,zR (zX [(zB (z6 0) "last_standing" none [(z6 5)]),(zB (z6 0) "last_gone" none [(z6 5)])]) [.NotEq] [(zC (zA (some (.fn "_law_last"))) [(z6 1),(z6 5)])] (run T (n+3)) fr (S.hp r)=.ok false (S.hp (r++g)):=by
 have hlo:∀ d∈S.lo,0≤d∧d<S.dn.length:=fun d h=>by rw [R.gn] at h;exact R.gr d (List.mem_filter.mp h).1
 have e1:=Zc X (n:=n) (r:=r) R V h0 h1
 have e2:=Qc X (n:=n) (r:=r) R V h0 h1 hlo
 have eg:S.lo.filter (Jk S.os hd)=M.gn.filter (gnP S.os S.st hd):=by
  rw [R.gn,List.filter_filter];rfl
 rw [eg] at e2
 generalize hs:(zO 0 S.dn.length).filter (stP S.os S.st hd)=so at *
 generalize hg:M.gn.filter (gnP S.os S.st hd)=go at *
 have el:=zy (cf:=run T (n+3)) (fr:=fr) (ev1 (zP (me:=none) (a:=1) (z5 f0) rfl jV (ev1 (z5 f5) ev0) e1) (ev1 (zP (me:=none) (a:=1) (z5 f0) rfl Ys (ev1 (z5 f5) ev0) e2) ev0))
 obtain ⟨g,q',e3,hq⟩:=Wg X (n:=n+2) (S0:=S) R V (L.m.grow [.list [yY so,yY go]]) (hd:=hd)
 rw [hs,hg] at hq
 have hq:(r++[AO.list [yY so,yY go]]++g)[q']? = some (.list [oA so.getLast?,oA go.getLast?]):=by rw [hq,ZA,ZA]
 refine ⟨[.list [yY so,yY go]]++g,?_⟩
 rw [← List.append_assoc]
 refine zS el (zp (ev1 (z5 f1) (ev1 (z5 f5) ev0)) e3) (zBn (h:=S.hp (r++[.list [yY so,yY go]]++g)) (x:=so.getLast?) (y:=go.getLast?) ?_ hq)
 rw [← ZA,← ZA]
 exact zI (zK r _ [])
end
set_option genInjectivity false
set_option genSizeOf false
theorem z22 {cf:CF} {fr:AFr} {h h1 h2:Hp} {x y:XE} {v:AV} (ex:x cf fr h=.ok (.bool true) h1) (ey:y cf fr h1=.ok v h2):wX .And [x,y] cf fr h=.ok v h2:=by
 rw [Zt,ex];exact ey
section
variable {T:Tab} {okf:Str→Str→Bool} (X:TT T okf) {n:Nat} {S:Sh} {r:Hp} {mvs:List (List (Int×Int))} {cus sg:List (List Int)} {M:Md} {A:Ad} {hn:Int} {q:Nat} {fr:AFr} {cf:CF}
theorem zDz {z k:Int} {h:Hp} (f2:fr[2]? = some (some (.int z))) (hk:k≠0):zV .Mod (z6 2) (z8 (.int k)) cf fr h=.ok (.int (z.fmod k)) h:=yR (z5 f2) rfl (w9.trans (if_neg hk))
theorem zE6 (R:Rl S mvs cus M) (m:Mo hn M A r) (f1:fr[1]? = some (some (rf A.a0))):zC (zA (some (.bi .len))) [(zF (z6 1) (z8 (.str "faces")))] cf fr (S.hp r)=.ok (.int S.le.length) (S.hp r):=by
 refine yv (ev1 (m.get f1 w0) ev0) ?_
 rw [xH,xE,show (S.hp r)[A.a2+15]? = _ from m.e2,R.le]
 show Out.ok (AV.int ((S.le.map ch).length:Nat)) _=_
 rw [List.length_map]
theorem zBl (R:Rl S mvs cus M) (m:Mo hn M A r) {z k:Int} (f1:fr[1]? = some (some (rf A.a0))) (f2:fr[2]? = some (some (.int z))) (hk:k≠0∧k.natAbs<1073741824) (hl:0<S.le.length):zV .Mod (zV .FloorDiv (z6 2) (z8 (.int k))) (zC (zA (some (.bi .len))) [(zF (z6 1) (z8 (.str "faces")))]) cf fr (S.hp r)=.ok (.int ((z.fdiv k).fmod S.le.length)) (S.hp r) :=
 yR (yR (z5 f2) rfl (QE.trans (if_pos hk))) (zE6 R m f1) (w9.trans (if_neg (by lia)))
theorem jF {z k:Int} (hl:0<S.le.length):0≤(z.fdiv k).fmod S.le.length∧(z.fdiv k).fmod S.le.length<S.le.length:=⟨Int.fmod_nonneg_of_pos _ (by lia),Int.fmod_lt_of_pos _ (by lia)⟩
theorem Q5 (R:Rl S mvs cus M) (m:Mo hn M A r):r[A.a2]? = some (.list (S.le.map ch)):=by rw [← R.le];exact m.e2
include X
theorem zBd (R:Rl S mvs cus M) (V:Iv S mvs cus sg) (ok:okT S.le) (L:Lk hn S mvs cus M A q r) {z:Int} {t:List (Option AV)} (hf:fr=some (.ref 1)::some (rf A.a0)::some (.int z)::some (rf q)::none::t):∃ v g,sIf (zQ .And [(zR (zV .Mod (z6 2) (z8 (.int 3))) [.Eq] [(z8 (.int 2))]),(zR (zF (z6 1) (z8 (.str "faces"))) [.NotEq] [(zX [])])]) (zD [(z9 okf (.names (.one 4)) (zV .Mod (zV .FloorDiv (z6 2) (z8 (.int 7))) (zC (zA (some (.bi .len))) [(zF (z6 1) (z8 (.str "faces")))]))),(sIf (zR (zB (z6 0) "place_of" none [(z6 4)]) [.NotEq] [(zC (zA (some (.fn "_law_place"))) [(z6 1),(z6 4)])]) (zD [(zf (z8 (.bool false)))]) (zD []))]) (zD []) (run T (n+4)) fr (S.hp r)=.ok .next (some (.ref 1)::some (rf A.a0)::some (.int z)::some (rf q)::v::t) (S.hp (r++g)):=by
 subst hf
 have e1:zR (zV .Mod (z6 2) (z8 (.int 3))) [.Eq] [(z8 (.int 2))] (run T (n+4)) (some (.ref 1)::some (rf A.a0)::some (.int z)::some (rf q)::none::t) (S.hp r)=.ok (decide (z.fmod 3=2)) (S.hp r):=zS (zDz rfl (by decide)) rfl (xG _ _ _)
 cases h1:decide (z.fmod 3=2) with
 | false=>rw [h1] at e1;exact ⟨none,[],by rw [List.append_nil];exact (zH (xC e1)).trans zE⟩
 | true =>
  rw [h1] at e1
  have e2:zR (zF (z6 1) (z8 (.str "faces"))) [.NotEq] [(zX [])] (run T (n+4)) (some (.ref 1)::some (rf A.a0)::some (.int z)::some (rf q)::none::t) (S.hp r)=.ok (!S.le.isEmpty) (S.hp (r++[.list []])) :=
   zS (L.m.get rfl w0) (zy ev0) (Q7 (h:=S.hp (r++[AO.list []])) (a:=A.a2+15) (b:=r.length+15) ok (zI (Q5 R L.m)) (zK r _ [])).2
  cases h2:S.le.isEmpty with
  | true=>rw [h2] at e2;exact ⟨none,[.list []],(zH (xD e1 (xC e2))).trans zE⟩
  | false =>
   rw [h2] at e2
   have hl:0<S.le.length:=by cases hq:S.le with | nil=>rw [hq] at h2;cases h2 | cons=>exact Nat.succ_pos _
   have L1:=L.grow [.list []]
   obtain ⟨g,e3⟩:=Jz X (n:=n) R V L1 (j:=4) (i:=(z.fdiv 7).fmod S.le.length) (fr:=some (.ref 1)::some (rf A.a0)::some (.int z)::some (rf q)::some (.int ((z.fdiv 7).fmod S.le.length))::t) rfl rfl rfl (jF hl).1 (jF hl).2
   refine ⟨some (.int ((z.fdiv 7).fmod S.le.length)),[.list []]++g,?_⟩
   rw [← List.append_assoc]
   exact (zi (xD e1 (xD e2 qw))).trans ((z7 (zU (zBl R L1.m rfl rfl ⟨by decide,by decide⟩ hl) (zZ rfl))).trans ((z7 ((zH e3).trans zE)).trans zE))
theorem Xm (R:Rl S mvs cus M) (V:Iv S mvs cus sg) (ok:okT S.le) (m:Mo hn M A r) (D:Dy S mvs cus r) (hh:hn=S.hands) (h1:1≤hn) {z:Int}:∃ g,run T (n+6) (.fn "_law_stands") [.ref 1,rf A.a0,.int z] (S.hp r)=.ok (.bool true) (S.hp (r++g)):=by
 rw [ya X.kA6]
 have kk:=R.mk_ V
 obtain ⟨g1,e1,hq⟩:=qz X (n:=n+3) (S:=S) m kk
 rw [show mSh M.st M.es M.ca M.cus=S.sh from R.sh V] at hq
 have L1:Lk hn S mvs cus M A (r.length+1) (r++g1):=⟨m.grow g1,D.grow g1,hq⟩
 have E:∀ r':Hp,(∃ g,r'=r++g)→∀ g,∃ g',r'++g=r++g':=fun r' h g=>by obtain ⟨g0,rfl⟩:=h;exact ⟨g0++g,List.append_assoc _ _ _⟩
 have x1:∃ g,r++g1=r++g:=⟨g1,rfl⟩
 generalize r++g1=r1 at *
 generalize r.length+1=q at *
 have st1:∃ g,sIf (zR (zV .Mod (z6 2) (z8 (.int 3))) [.Eq] [(z8 (.int 1))]) (zD [(sIf (zR (zj (zC (zA (some (.bi .range))) [(zC (zA (some (.bi .len))) [(z6 3)])]) 1 (.one 10) (zQ .And []) (zB (z6 0) "sign_at" none [(z6 10)])) [.NotEq] [(z6 3)]) (zD [(zf (z8 (.bool false)))]) (zD []))]) (zD []) (run T (n+5)) [some (.ref 1),some (rf A.a0),some (.int z),some (rf q),none,none,none,none,none,none] (S.hp r1)=.ok .next [some (.ref 1),some (rf A.a0),some (.int z),some (rf q),none,none,none,none,none,none] (S.hp (r1++g)):=by
  have e:zR (zV .Mod (z6 2) (z8 (.int 3))) [.Eq] [(z8 (.int 1))] (run T (n+5)) [some (.ref 1),some (rf A.a0),some (.int z),some (rf q),none,none,none,none,none,none] (S.hp r1)=.ok (decide (z.fmod 3=1)) (S.hp r1):=zS (zDz rfl (by decide)) rfl (xG _ _ _)
  cases h:decide (z.fmod 3=1) with
  | false=>rw [h] at e;exact ⟨[],by rw [List.append_nil];exact (zH e).trans zE⟩
  | true =>
   rw [h] at e
   obtain ⟨g,e2⟩:=zE5 X (n:=n+1) (fr:=[some (.ref 1),some (rf A.a0),some (.int z),some (rf q),none,none,none,none,none,none]) V L1 rfl rfl rfl
   exact ⟨g,(zi e).trans ((z7 ((zH e2).trans zE)).trans zE)⟩
 obtain ⟨g2,s1⟩:=st1
 have L2:=L1.grow g2
 have x2:=E r1 x1 g2
 generalize r1++g2=r2 at *
 obtain ⟨v4,g3,s2⟩:=zBd X (n:=n+1) (okf:=okf) R V ok L2 (z:=z) (t:=[none,none,none,none,none]) rfl
 have L3:=L2.grow g3
 have x3:=E r2 x2 g3
 generalize r2++g3=r3 at *
 obtain ⟨g4,s3⟩:=zE4 X (n:=n) (fr:=[some (.ref 1),some (rf A.a0),some (.int z),some (rf q),v4,none,none,none,none,none]) R V ok L3 rfl rfl rfl rfl
 have L4:=L3.grow g4
 have x4:=E r3 x3 g4
 generalize r3++g4=r4 at *
 obtain ⟨g5,s4⟩:=zE3 X (n:=n+2) (fr:=[some (.ref 1),some (rf A.a0),some (.int z),some (rf q),v4,none,none,none,none,none]) R V L4 rfl rfl rfl
 have L5:=L4.grow g5
 have x5:=E r4 x4 g5
 generalize r4++g5=r5 at *
 have hm:0≤z.fmod hn∧z.fmod hn<hn:=⟨Int.fmod_nonneg_of_pos _ (by lia),Int.fmod_lt_of_pos _ (by lia)⟩
 obtain ⟨g6,s5⟩:=zE2 X (n:=n+2) (fr:=[some (.ref 1),some (rf A.a0),some (.int z),some (rf q),v4,some (.int (z.fmod hn)),none,none,none,none]) R V L5 hm.1 (by rw [← hh];exact hm.2) rfl rfl rfl
 have L6:=L5.grow g6
 have x6:=E r5 x5 g6
 generalize r5++g6=r6 at *
 have e6:zR (zF (z6 1) (z8 (.str "faces"))) [.Eq] [(zX [])] (run T (n+5)) [some (.ref 1),some (rf A.a0),some (.int z),some (rf q),v4,some (.int (z.fmod hn)),none,none,none,none] (S.hp r6)=.ok S.le.isEmpty (S.hp (r6++[.list []])) :=
  zS (L6.m.get rfl w0) (zy ev0) (Q7 (h:=S.hp (r6++[AO.list []])) (a:=A.a2+15) (b:=r6.length+15) ok (zI (Q5 R L6.m)) (zK r6 _ [])).1
 have L7:=L6.grow [.list []]
 have x7:=E r6 x6 [.list []]
 generalize r6++[AO.list []]=r7 at *
 have pre:∀ {res:OS},zD [(sIf (zR (zF (z6 1) (z8 (.str "faces"))) [.Eq] [(zX [])]) (zD [(zf (z8 (.bool true)))]) (zD [])),(z9 okf (.names (.one 6)) (zV .Mod (zV .FloorDiv (z6 2) (z8 (.int 11))) (zC (zA (some (.bi .len))) [(zF (z6 1) (z8 (.str "faces")))]))),(z9 okf (.names (.one 7)) (zV .Mod (zV .FloorDiv (z6 2) (z8 (.int 5003))) (zC (zA (some (.bi .len))) [(zF (z6 1) (z8 (.str "faces")))]))),(sIf (zQ .Or [(zR (zB (z6 0) "place_of" none [(z6 6)]) [.NotEq] [(zC (zA (some (.fn "_law_place"))) [(z6 1),(z6 6)])]),(zR (zB (z6 0) "place_of" none [(z6 7)]) [.NotEq] [(zC (zA (some (.fn "_law_place"))) [(z6 1),(z6 7)])])]) (zD [(zf (z8 (.bool false)))]) (zD [])),(z9 okf (.names (.one 8)) (zC (zA (some (.fn "_law_sits"))) [(z6 1)])),(z9 okf (.names (.one 9)) (qq (zB (zF (z6 1) (z8 (.str "row"))) "index" (some .index) [(xU [(z6 6),(zF (z6 8) (z6 6))])]) [.Lt] [(zB (zF (z6 1) (z8 (.str "row"))) "index" (some .index) [(xU [(z6 7),(zF (z6 8) (z6 7))])])])),(zf (wX .And [(zC (zA (some (.bi .isinstance))) [(zB (z6 0) "is_ahead" none [(z6 6),(z6 7)]),(zA (some (.bi .bool)))]),(qq (zB (z6 0) "is_ahead" none [(z6 6),(z6 7)]) [.Eq] [(z6 9)])]))] (run T (n+5)) [some (.ref 1),some (rf A.a0),some (.int z),some (rf q),v4,some (.int (z.fmod hn)),none,none,none,none] (S.hp r6)=res →
   (kA6 okf).body (run T (n+5)) [some (.ref 1),some (rf A.a0),some (.int z),none,none,none,none,none,none,none] (S.hp r)=res:=fun h=>by
  unfold kA6
  dsimp only
  exact (z7 (zU (zp (ev1 (z5 rfl) ev0) e1) (zZ rfl))).trans ((z7 s1).trans ((z7 s2).trans ((z7 ((zH s3).trans zE)).trans ((z7 ((zH s4).trans zE)).trans ((z7 (zU (yR (z5 rfl) (L5.m.get rfl z2h) (w9.trans (if_neg (by lia)))) (zZ rfl))).trans ((z7 ((zH s5).trans zE)).trans h))))))
 cases hem:S.le.isEmpty with
 | true =>
  rw [hem] at e6
  obtain ⟨g,rfl⟩:=x7
  exact ⟨g,zM rfl rfl (pre (zL ((zi e6).trans (zL (zm rfl)))))⟩
 | false =>
  rw [hem] at e6
  have hl:0<S.le.length:=by cases hq:S.le with | nil=>rw [hq] at hem;cases hem | cons=>exact Nat.succ_pos _
  obtain ⟨i0,i1⟩:=jF (S:=S) (z:=z) (k:=11) hl
  obtain ⟨j0,j1⟩:=jF (S:=S) (z:=z) (k:=5003) hl
  have p6:=zBl (fr:=[some (.ref 1),some (rf A.a0),some (.int z),some (rf q),v4,some (.int (z.fmod hn)),none,none,none,none]) (cf:=run T (n+5)) (z:=z) (k:=11) R L7.m rfl rfl ⟨by decide,by decide⟩ hl
  generalize hi:(z.fdiv 11).fmod S.le.length=i at *
  have p7:=zBl (fr:=[some (.ref 1),some (rf A.a0),some (.int z),some (rf q),v4,some (.int (z.fmod hn)),some (.int i),none,none,none]) (cf:=run T (n+5)) (z:=z) (k:=5003) R L7.m rfl rfl ⟨by decide,by decide⟩ hl
  generalize hj:(z.fdiv 5003).fmod S.le.length=j at *
  obtain ⟨g8,s7⟩:=Jz X (n:=n+1) (j:=6) (i:=i) (fr:=[some (.ref 1),some (rf A.a0),some (.int z),some (rf q),v4,some (.int (z.fmod hn)),some (.int i),some (.int j),none,none]) R V L7 rfl rfl rfl i0 i1
  have L8:=L7.grow g8
  have x8:=E r7 x7 g8
  generalize r7++g8=r8 at *
  obtain ⟨g9,s8⟩:=Jz X (n:=n+1) (j:=7) (i:=j) (fr:=[some (.ref 1),some (rf A.a0),some (.int z),some (rf q),v4,some (.int (z.fmod hn)),some (.int i),some (.int j),none,none]) R V L8 rfl rfl rfl j0 j1
  have L9:=L8.grow g9
  have x9:=E r8 x8 g9
  generalize r8++g9=r9 at *
  obtain ⟨kvs,s9,hk⟩:=W8 X (n:=n+4) (S:=S) L9.m kk
  have L10:=L9.grow [.dict kvs]
  have x10:=E r9 x9 [.dict kvs]
  have hd:(r9++[AO.dict kvs])[r9.length]? = some (.dict kvs):=zK _ _ []
  generalize r9++[AO.dict kvs]=r10 at *
  obtain ⟨b1,b2⟩:=kk.be_mem (i:=i) i0 (by rw [R.le];exact i1)
  obtain ⟨c1,c2⟩:=kk.be_mem (i:=j) j0 (by rw [R.le];exact j1)
  have F:([some (.ref 1),some (rf A.a0),some (.int z),some (rf q),v4,some (.int (z.fmod hn)),some (.int i),some (.int j),some (rf r9.length),none]:AFr).length=10:=rfl
  have ei:zF (z6 8) (z6 6) (run T (n+5)) [some (.ref 1),some (rf A.a0),some (.int z),some (rf q),v4,some (.int (z.fmod hn)),some (.int i),some (.int j),some (rf r9.length),none] (S.hp r10)=.ok (oA (M.be i)) (S.hp r10):=zv (z5 rfl) (z5 rfl) (by rw [qi (show (S.hp r10)[r9.length+15]? = _ from hd),hk,b1];rfl)
  have ej:zF (z6 8) (z6 7) (run T (n+5)) [some (.ref 1),some (rf A.a0),some (.int z),some (rf q),v4,some (.int (z.fmod hn)),some (.int i),some (.int j),some (rf r9.length),none] (S.hp r10)=.ok (oA (M.be j)) (S.hp r10):=zv (z5 rfl) (z5 rfl) (by rw [qi (show (S.hp r10)[r9.length+15]? = _ from hd),hk,c1];rfl)
  have hdue:(decide (((Qn M.es (i,M.be i):Nat):Int)<((Qn M.es (j,M.be j):Nat):Int)))=decide (S.at_ mvs i<S.at_ mvs j):=by
   rw [← R.at_ V i0 i1,← R.at_ V j0 j1]
   exact decide_eq_decide.mpr Int.ofNat_lt
  have due:=wx (op:=.Lt) (c:=decide (S.at_ mvs i<S.at_ mvs j)) (Z5 (e:=(i,M.be i)) (j:=1) L10.m rfl L10.m (q6 (ev1 (z5 (i:=6) rfl) (ev1 ei ev0))) b2) (Z5 (e:=(j,M.be j)) (j:=1) L10.m rfl L10.m (q6 (ev1 (z5 (i:=7) rfl) (ev1 ej ev0))) c2) (by rw [yU,hdue])
  have ah:=Wl X (n:=n+1) (r:=r10) V.I L10.D i0 i1 j0 j1
  have am:zB (z6 0) "is_ahead" none [(z6 6),(z6 7)] (run T (n+5)) [some (.ref 1),some (rf A.a0),some (.int z),some (rf q),v4,some (.int (z.fmod hn)),some (.int i),some (.int j),some (rf r9.length),some (.bool (decide (S.at_ mvs i<S.at_ mvs j)))] (S.hp r10)=.ok (.bool (decide (S.at_ mvs i<S.at_ mvs j))) (S.hp r10):=zP (a:=1) (z5 rfl) rfl Xd (ev1 (z5 rfl) (ev1 (z5 rfl) ev0)) ah
  obtain ⟨g,rfl⟩:=x10
  refine ⟨g,zM rfl rfl (pre ((z7 ((zH e6).trans zE)).trans ((z7 (zU p6 (zZ rfl))).trans ((z7 (zU p7 (zZ rfl))).trans ((z7 ((zH (xP s7 (xP s8 qJ))).trans zE)).trans ((z7 (zU (zp (ev1 (z5 rfl) ev0) s9) (zZ rfl))).trans ((z7 (zU due (zZ rfl))).trans (zL (zm (v:=.bool true) ?_)))))))))⟩
  exact z22 (yv (b:=.isinstance) (vs:=[.bool (decide (S.at_ mvs i<S.at_ mvs j)),.bi .bool]) (ev1 am (ev1 (x:=zA (some (.bi .bool))) (v:=.bi .bool) rfl ev0)) rfl) (wx am (z5 rfl) (Qm (d:=.bool (decide (S.at_ mvs i<S.at_ mvs j))) rfl rfl rfl).1)
end
set_option genInjectivity false
set_option genSizeOf false
structure L7 (hn:Int) (k yq:Nat) (ys:List Int) (S:Sh) (mvs:List (List (Int×Int))) (cus sg:List (List Int)) (M:Md) (A:Ad) (r:Hp):Prop where
 B:Bs hn 60 k A.P S mvs cus sg r
 R:Rl S mvs cus M
 m:Mo hn M A r
 nd:A.P.Nodup
 ok:okT S.le
 y:r[yq]? = some (.list (ys.map AV.int))
 y1:yq∉S.mv
 y2:yq∉S.cu
 y3:yq∉A.P
section
variable {hn:Int} {k yq:Nat} {ys:List Int} {S:Sh} {mvs:List (List (Int×Int))} {cus sg:List (List Int)} {M:Md} {A:Ad} {r:Hp}
theorem L7.grow (L:L7 hn k yq ys S mvs cus sg M A r) (g:Hp):L7 hn k yq ys S mvs cus sg M A (r++g):=⟨L.B.grow g fun q h=>.inl h,L.R,L.m.grow g,L.nd,L.ok,zI L.y,L.y1,L.y2,L.y3⟩
theorem XY {h:Hp} {a b:Nat} {xs:List AV} (e:h[a]? = some (.list xs)) (e':h[b]? = some (.list [])):yZ .NotEq (.ref a) (.ref b) h=some (!xs.isEmpty):=by
 rw [jc]
 cases hx:xs with
 | nil=>rw [hx] at e;rw [jB (yc (ds:=[]) e rfl) (yc (ds:=[]) e' rfl)];rfl
 | cons x l =>
  rw [hx] at e
  cases hq:aEq h (.ref a) (.ref b) with
  | none =>
   show neL h (.ref a) (.ref b)=some true
   show (ze h a).bind (fun xs=>(ze h b).bind fun ys=>if xs.length=ys.length then none else some true)=_
   rw [xy e]
   show (ze h b).bind _=_
   rw [xy e'];rfl
  | some c =>
   obtain ⟨d1,h1,hq⟩:=zY hq
   obtain ⟨d2,h2,rfl⟩:=y9 hq
   rw [yc (ds:=[]) e' rfl] at h2
   cases h2
   have h1:(match ze h a with
    | some xs=>(yT (toD h 7) xs).map PyData.list
    | none=>none)=some d1:=h1
   rw [xy e] at h1
   obtain ⟨ds,hd,rfl⟩:=y9 h1
   obtain ⟨y,zs,_,_,rfl⟩:=qP hd
   rfl
variable {T:Tab} {okf:Str→Str→Bool} (X:TT T okf) {n:Nat}
include X
theorem z2e (L:L7 hn k yq ys S mvs cus sg M A r) (hk:k<200) {d:Nat} (hd:d<S.dn.length) :
  ∃ S' M' A' r',run T (n+6) (.fn "_law_turned") [.ref 1,rf A.a0,.int d] (S.hp r)=.ok .none (Sh.hp S' r')∧L7 hn (k+1) yq ys S' mvs cus sg M' A' r'∧A'.a0=A.a0:=by
 obtain ⟨S',M',A',r',e,B,R,m,nd,a0,le,K⟩:=Xl X (n:=n) L.B L.R L.m L.nd hk hd
 obtain ⟨k1,k2,k3,k4⟩:=K yq _ L.y1 L.y2 L.y3 L.y
 exact ⟨S',M',A',r',e,⟨B,R,m,nd,by rw [le];exact L.ok,k1,k2,k3,k4⟩,a0⟩
theorem zE7 (L:L7 hn k yq ys S mvs cus sg M A r) (hk:60+5 * k<190) {hd:Int} {d:Deed} (d0:0≤hd) (d1:hd<hn) (ok:d.ok S.sh.length) {fr:AFr} (f3:fr[3]? = some (some (.ref 1))) (f4:fr[4]? = some (some (rf A.a0))) (f8:fr[8]? = some (some (d.av hd))) :
  ∃ S' mvs' cus' sg' M' A' r',zR (zC (zA (some (.fn "_law_do"))) [(z6 3),(z6 8)]) [.NotEq] [(zC (zA (some (.fn "_law_deed"))) [(z6 4),(z6 8)])] (run T (n+7)) fr (S.hp r)=.ok false (Sh.hp S' r')∧L7 hn (k+1) yq ys S' mvs' cus' sg' M' A' r'∧A'.a0=A.a0:=by
 have V:=L.B.V
 have kk:=L.R.mk_ V
 obtain ⟨S',mvs',cus',sg',r1,e,B1,K,N,D⟩:=do_ X (n:=n) L.B hk d0 d1 ok
 have m1:=L.B.mo L.m K
 have zd:M.dd.length<200:=by rw [L.R.dl];exact V.I.st▸V.I.K.st
 obtain ⟨r',t,cs',e2,K2,nd2,hc,m2⟩:=Wh X (n:=n+3) (S:=S') (hd:=hd) (d:=d) m1 L.nd kk (by rw [L.R.sh V];exact ok) zd
 have R':=L.R.step (t:=t) V ok N D
 have hP:∀ q∈({ A with cs:=A.cs++cs' }:Ad).P,q∈A.P∨(r1.length≤q∧q<r'.length):=fun q hq=>by
  have hq:q∈[A.a0,A.a1,A.a2,A.a3,A.a4,A.a5,A.a6,A.a8]++(A.cs++cs'):=hq
  rw [← List.append_assoc] at hq
  rcases yn hq with h | h
  ·exact .inl h
  ·exact .inr (hc q h)
 obtain ⟨k1,k2,k3,k4⟩:=(Kz.of (A':={ A with cs:=A.cs++cs' }) K K2 hP) yq _ L.y1 L.y2 L.y3 L.y
 have okl:okT S'.le:=by
  cases d with
  | put p ts=>obtain ⟨_,_,_,h,_⟩:=D;rw [h];exact fun c hc=>(yn hc).elim (L.ok c) (ok.2.2.1 c)
  | cut i j=>obtain ⟨_,_,_,h,_⟩:=D;rw [h];exact L.ok
  | mov i j p=>obtain ⟨_,_,_,h,_⟩:=D;rw [h];exact L.ok
 refine ⟨S',mvs',cus',sg',_,{ A with cs:=A.cs++cs' },r',?_,⟨B1.kq K2 hP,R',m2,nd2,okl,k1,k2,k3,k4⟩,rfl⟩
 refine zS (zp (ev1 (z5 f3) (ev1 (z5 f8) ev0)) e) (zp (ev1 (z5 f4) (ev1 (z5 f8) ev0)) e2) ?_
 rw [L.R.dl];exact zBp
noncomputable abbrev s7 (okf:Str→Str→Bool):XS:=(zD [(z9 okf (.names (.one 7)) (zC (zA (some (.fn "_law_mixed"))) [(z6 6),(z6 5)])),(sIf (zQ .And [(zR (zV .Mod (z6 7) (z8 (.int 8))) [.Lt] [(z8 (.int 3))]),(zR (zF (z6 4) (z8 (.str "deeds"))) [.NotEq] [(zX [])])]) (zD [(zN (zC (zA (some (.fn "_law_turned"))) [(z6 3),(z6 4),(zV .Mod (zV .FloorDiv (z6 7) (z8 (.int 8))) (zC (zA (some (.bi .len))) [(zF (z6 4) (z8 (.str "deeds")))]))]))]) (zD [(z9 okf (.names (.one 8)) (zC (zA (some (.fn "_law_deed_by"))) [(zV .FloorDiv (z6 7) (z8 (.int 8))),(zB (z6 3) "size" none []),(z6 2)])),(sIf (zR (zC (zA (some (.fn "_law_do"))) [(z6 3),(z6 8)]) [.NotEq] [(zC (zA (some (.fn "_law_deed"))) [(z6 4),(z6 8)])]) (zD [(zf (z8 (.bool false)))]) (zD []))])),(sIf (ym (y6 (zC (zA (some (.fn "_law_stands"))) [(z6 3),(z6 4),(zC (zA (some (.fn "_law_mixed"))) [(z6 6),(zV .Add (z8 (.int 50)) (z6 5))])]))) (zD [(zf (z8 (.bool false)))]) (zD []))])
inductive St7 (sc v1:AV) (hn:Int) (a0 yq:Nat) (ys:List Int):Nat→AFr→Hp→Prop
 | mk {k:Nat} {v5 v6 v7 v8:Option AV} {S:Sh} {mvs:List (List (Int×Int))} {cus sg:List (List Int)} {M:Md} {A:Ad} {r:Hp} (L:L7 hn k yq ys S mvs cus sg M A r) (ea:A.a0=a0):St7 sc v1 hn a0 yq ys k [some sc,some v1,some (.int hn),some (.ref 1),some (rf a0),v5,v6,v7,v8,none] (S.hp r)
theorem zCs (L:L7 hn k yq ys S mvs cus sg M A r) (hk:k≤20) (h1:1≤hn) {sc v1:AV} {y:Int} {v7 v8:Option AV} :
  ∃ fr2 h2,s7 okf (run T (n+8)) [some sc,some v1,some (.int hn),some (.ref 1),some (rf A.a0),some (.int k),some (.int y),v7,v8,none] (S.hp r)=.ok .next fr2 h2∧St7 sc v1 hn A.a0 yq ys (k+1) fr2 h2:=by
 have V:=L.B.V
 have hz:S.dn.length<200:=V.I.st▸V.I.K.st
 generalize hnum:ZV y k=num
 have y1:zC (zA (some (.fn "_law_mixed"))) [(z6 6),(z6 5)] (run T (n+8)) [some sc,some v1,some (.int hn),some (.ref 1),some (rf A.a0),some (.int k),some (.int y),v7,v8,none] (S.hp r)=.ok (.int num) (S.hp r):=by
  rw [← hnum];exact zp (ev1 (z5 rfl) (ev1 (z5 rfl) ev0)) (QX X (n:=n+7))
 have t1:zR (zV .Mod (z6 7) (z8 (.int 8))) [.Lt] [(z8 (.int 3))] (run T (n+8)) [some sc,some v1,some (.int hn),some (.ref 1),some (rf A.a0),some (.int k),some (.int y),some (.int num),v8,none] (S.hp r)=.ok (decide (num.fmod 8<3)) (S.hp r):=zS (wN (d:=8) (z5 rfl) (by decide)) rfl yU
 have fin:∀ {S':Sh} {mvs':List (List (Int×Int))} {cus' sg':List (List Int)} {M':Md} {A':Ad} {r':Hp} {u8:Option AV},L7 hn (k+1) yq ys S' mvs' cus' sg' M' A' r'→A'.a0=A.a0 →
   ∃ h2,sIf (ym (y6 (zC (zA (some (.fn "_law_stands"))) [(z6 3),(z6 4),(zC (zA (some (.fn "_law_mixed"))) [(z6 6),(zV .Add (z8 (.int 50)) (z6 5))])]))) (zD [(zf (z8 (.bool false)))]) (zD []) (run T (n+8)) [some sc,some v1,some (.int hn),some (.ref 1),some (rf A.a0),some (.int k),some (.int y),some (.int num),u8,none] (S'.hp r')=.ok .next [some sc,some v1,some (.int hn),some (.ref 1),some (rf A.a0),some (.int k),some (.int y),some (.int num),u8,none] h2∧St7 sc v1 hn A.a0 yq ys (k+1) [some sc,some v1,some (.int hn),some (.ref 1),some (rf A.a0),some (.int k),some (.int y),some (.int num),u8,none] h2:=by
  intro S' mvs' cus' sg' M' A' r' u8 L' ea
  obtain ⟨g,e⟩:=Xm X (n:=n+2) L'.R L'.B.V L'.ok L'.m L'.B.D L'.B.hd.symm h1 (z:=ZV y (50+(k:Int)))
  rw [ea] at e
  exact ⟨_,(zH (yO (b:=true) (yg (zp (ev1 (z5 rfl) (ev1 (z5 rfl) (ev1 (zp (ev1 (z5 rfl) (ev1 (yR rfl (z5 rfl) wA) ev0)) (QX X (n:=n+7))) ev0))) e) rfl))).trans zE,.mk (L'.grow g) ea⟩
 have doit:∀ {g:Hp},∃ fr2 h2,(zD [(z9 okf (.names (.one 8)) (zC (zA (some (.fn "_law_deed_by"))) [(zV .FloorDiv (z6 7) (z8 (.int 8))),(zB (z6 3) "size" none []),(z6 2)])),(sIf (zR (zC (zA (some (.fn "_law_do"))) [(z6 3),(z6 8)]) [.NotEq] [(zC (zA (some (.fn "_law_deed"))) [(z6 4),(z6 8)])]) (zD [(zf (z8 (.bool false)))]) (zD []))]) (run T (n+8)) [some sc,some v1,some (.int hn),some (.ref 1),some (rf A.a0),some (.int k),some (.int y),some (.int num),v8,none] (S.hp (r++g))=.ok .next fr2 h2∧∃ (S':Sh) (mvs':List (List (Int×Int))) (cus' sg':List (List Int)) (M':Md) (A':Ad) (r':Hp) (u8:Option AV),fr2=[some sc,some v1,some (.int hn),some (.ref 1),some (rf A.a0),some (.int k),some (.int y),some (.int num),u8,none]∧h2=S'.hp r'∧L7 hn (k+1) yq ys S' mvs' cus' sg' M' A' r'∧A'.a0=A.a0:=by
  intro g
  have Lg:=L.grow g
  have tl:=V.I.O.tkl
  have ct:S.b.countP id=S.sh.length:=by rw [tl.1,V.I.O.G.count]
  obtain ⟨hd,d,g2,ed,d0,d1,dok⟩:=z0m X (n:=n+5) (z:=num.fdiv 8) (hands:=hn) (m:=S.b.countP id) (h:=S.hp (r++g)) (by rw [ct];exact Nat.le_of_lt tl.2) (Int.lt_of_lt_of_le (by decide) h1)
  rw [ct] at dok
  have Lg2:=Lg.grow g2
  obtain ⟨S',mvs',cus',sg',M',A',r',e,L',ea⟩:=zE7 X (n:=n+1) (fr:=[some sc,some v1,some (.int hn),some (.ref 1),some (rf A.a0),some (.int k),some (.int y),some (.int num),some (d.av hd),none]) Lg2 (by lia) d0 d1 dok rfl rfl rfl
  exact ⟨_,_,(z7 (zU (zp (ev1 (qK (d:=8) (z5 rfl) (by decide)) (ev1 (zP (a:=1) (z5 rfl) rfl WH ev0 (z32 X (n:=n+6))) (ev1 (z5 rfl) ev0))) ed) (zZ rfl))).trans ((z7 ((zH e).trans zE)).trans zE),S',mvs',cus',sg',M',A',r',_,rfl,rfl,L',ea⟩
 have both:∃ fr2 h2,sIf (zQ .And [(zR (zV .Mod (z6 7) (z8 (.int 8))) [.Lt] [(z8 (.int 3))]),(zR (zF (z6 4) (z8 (.str "deeds"))) [.NotEq] [(zX [])])]) (zD [(zN (zC (zA (some (.fn "_law_turned"))) [(z6 3),(z6 4),(zV .Mod (zV .FloorDiv (z6 7) (z8 (.int 8))) (zC (zA (some (.bi .len))) [(zF (z6 4) (z8 (.str "deeds")))]))]))]) (zD [(z9 okf (.names (.one 8)) (zC (zA (some (.fn "_law_deed_by"))) [(zV .FloorDiv (z6 7) (z8 (.int 8))),(zB (z6 3) "size" none []),(z6 2)])),(sIf (zR (zC (zA (some (.fn "_law_do"))) [(z6 3),(z6 8)]) [.NotEq] [(zC (zA (some (.fn "_law_deed"))) [(z6 4),(z6 8)])]) (zD [(zf (z8 (.bool false)))]) (zD []))]) (run T (n+8)) [some sc,some v1,some (.int hn),some (.ref 1),some (rf A.a0),some (.int k),some (.int y),some (.int num),v8,none] (S.hp r)=.ok .next fr2 h2∧∃ (S':Sh) (mvs':List (List (Int×Int))) (cus' sg':List (List Int)) (M':Md) (A':Ad) (r':Hp) (u8:Option AV),fr2=[some sc,some v1,some (.int hn),some (.ref 1),some (rf A.a0),some (.int k),some (.int y),some (.int num),u8,none]∧h2=S'.hp r'∧L7 hn (k+1) yq ys S' mvs' cus' sg' M' A' r'∧A'.a0=A.a0:=by
  cases b1:decide (num.fmod 8<3) with
  | false =>
   rw [b1] at t1
   obtain ⟨fr2,h2,e,q⟩:=doit (g:=[])
   rw [List.append_nil] at e
   exact ⟨fr2,h2,(zH (xC t1)).trans e,q⟩
  | true =>
   rw [b1] at t1
   have t2:zR (zF (z6 4) (z8 (.str "deeds"))) [.NotEq] [(zX [])] (run T (n+8)) [some sc,some v1,some (.int hn),some (.ref 1),some (rf A.a0),some (.int k),some (.int y),some (.int num),v8,none] (S.hp r)=.ok (!M.dd.isEmpty) (S.hp (r++[.list []])) :=
    zS (L.m.get rfl w1) (zy ev0) (XY (h:=S.hp (r++[AO.list []])) (a:=A.a5+15) (b:=r.length+15) (zI L.m.e5) (zK r _ []))
   cases b2:M.dd.isEmpty with
   | true =>
    rw [b2] at t2
    obtain ⟨fr2,h2,e,q⟩:=doit (g:=[.list []])
    exact ⟨fr2,h2,(zH (xD t1 (xC t2))).trans e,q⟩
   | false =>
    rw [b2] at t2
    have hl:0<S.dn.length:=by rw [← L.R.dl];cases hq:M.dd with | nil=>rw [hq] at b2;cases b2 | cons=>exact Nat.succ_pos _
    have L1:=L.grow [.list []]
    have hc:(0:Int)<(S.dn.length:Int):=by lia
    have f0:=Int.fmod_nonneg_of_pos (num.fdiv 8) hc
    have f1:=Int.fmod_lt_of_pos (num.fdiv 8) hc
    obtain ⟨d,hd⟩:=Int.eq_ofNat_of_zero_le f0
    have hd1:d<S.dn.length:=by lia
    obtain ⟨S',M',A',r',e,L',ea⟩:=z2e X (n:=n+2) L1 (by lia) hd1
    have ln:zC (zA (some (.bi .len))) [(zF (z6 4) (z8 (.str "deeds")))] (run T (n+8)) [some sc,some v1,some (.int hn),some (.ref 1),some (rf A.a0),some (.int k),some (.int y),some (.int num),v8,none] (S.hp (r++[.list []]))=.ok (.int S.dn.length) (S.hp (r++[.list []])):=by
     refine yv (ev1 (L1.m.get rfl w1) ev0) ?_
     rw [xH,xE,show (S.hp (r++[.list []]))[A.a5+15]? = _ from L1.m.e5,← L.R.dl];rfl
    have ed:zV .Mod (zV .FloorDiv (z6 7) (z8 (.int 8))) (zC (zA (some (.bi .len))) [(zF (z6 4) (z8 (.str "deeds")))]) (run T (n+8)) [some sc,some v1,some (.int hn),some (.ref 1),some (rf A.a0),some (.int k),some (.int y),some (.int num),v8,none] (S.hp (r++[.list []]))=.ok (.int d) (S.hp (r++[.list []])):=by
     rw [← show (num.fdiv 8).fmod (S.dn.length:Int)=(d:Int) from hd]
     exact ZR (qK (d:=8) (z5 rfl) (by decide)) ln hc
    exact ⟨_,_,(zi (xD t1 (xD t2 qw))).trans ((z7 (zn (zp (ev1 (z5 rfl) (ev1 (z5 rfl) (ev1 ed ev0))) e))).trans zE),S',mvs,cus,sg,M',A',r',_,rfl,rfl,L',ea⟩
 obtain ⟨fr2,h2,e,S',mvs',cus',sg',M',A',r',u8,rfl,rfl,L',ea⟩:=both
 obtain ⟨h3,e3,st⟩:=fin (u8:=u8) L' ea
 exact ⟨_,h3,(z7 (zU (j:=7) y1 (zZ rfl))).trans ((z7 e).trans ((z7 e3).trans zE)),st⟩
end
set_option genInjectivity false
set_option genSizeOf false
noncomputable def Md0 (cs:List Nat):Md:=⟨(zO 0 cs.length).map fun x=>(x,none),List.replicate cs.length .none,List.replicate cs.length [],[],cs,[],[]⟩
noncomputable def Ad0 (l c:Nat):Ad:=⟨l+4,l,l+1,l+3,l+(5+c),l+(6+c),l+(7+c),l+(8+c),(List.range c).map fun j=>l+5+j⟩
theorem nd0 (l c:Nat):(Ad0 l c).P.Nodup:=by
 refine List.nodup_append.mpr ⟨?_,?_,fun x hx y hy e=>?_⟩
 ·simp [Ad0,List.nodup_cons];lia
 ·show ((List.range c).map fun j=>l+5+j).Nodup
  rw [List.nodup_iff_pairwise_ne,List.pairwise_map]
  exact List.Pairwise.imp (fun h=>Nat.ne_of_lt (Nat.add_lt_add_left h _)) List.pairwise_lt_range
 ·obtain ⟨j,hj,rfl⟩:=List.mem_map.mp hy
  have hj:=List.mem_range.mp hj
  simp [Ad0] at hx
  lia
theorem Ji {l c q:Nat} (h:q∈(Ad0 l c).P):l≤q∧q<l+(10+c):=by
 rcases yn h with h | h
 ·simp [Ad0] at h;lia
 ·obtain ⟨j,hj,rfl⟩:=List.mem_map.mp h
  have hj:=List.mem_range.mp hj
  lia
section
variable {T:Tab} {okf:Str→Str→Bool} (X:TT T okf) {n:Nat} {S:Sh} {r:Hp} {hn:Int} {cs:List Nat}
include X
theorem zBy (hc:cs.length<100):∃ g,g.length=10+cs.length∧run T (n+1) (.fn "_law_fresh") [.str (tx cs),.int hn] (S.hp r)=.ok (rf (r.length+4)) (S.hp (r++g))∧Mo hn (Md0 cs) (Ad0 r.length cs.length) (r++g):=by
 rw [ya X.kBc]
 generalize hcl:cs.length=c at *
 have li:=zh 0 c
 have lenT:∀ {fr:AFr} {h:Hp},fr[0]? = some (some (.str (tx cs)))→zC (zA (some (.bi .len))) [(z6 0)] (run T n) fr h=.ok (.int c) h:=fun f=>by
  refine yv (ev1 (z5 f) ev0) ?_
  rw [xH,len_str,← hcl];rfl
 let x0:AO:=.list (((zO 0 c).map fun x=>((x,none):En)).map eA)
 let x1:AO:=.list (cs.map ch)
 let x2:AO:=.list [.none]
 let x3:AO:=.list (List.replicate c .none)
 let d1:List (Str×AV):=[("row",rf r.length),("faces",rf (r.length+1)),("came",rf (r.length+3))]
 let F0:AFr:=[some (.str (tx cs)),some (.int hn),none]
 let F1:AFr:=[some (.str (tx cs)),some (.int hn),some (rf (r.length+4))]
 have e1:zj (zC (zA (some (.bi .range))) [(zC (zA (some (.bi .len))) [(z6 0)])]) 1 (.one 3) (zQ .And []) (xU [(z6 3),(z8 .none)]) (run T n) F0 (S.hp r)=.ok (rf r.length) (S.hp (r++[x0])):=by
  refine (qp AV.int (own:=1) (i:=3) (l:=zO 0 c) (p:=fun _=>true) (f:=fun x=>eA (x,none)) (yv (ev1 (lenT rfl) ev0) (yu (Nat.lt_trans hc (by decide)))) (by rw [li,← we];exact xi _) (zZ rfl) (by rw [li];exact Nat.lt_trans hc (by decide)) (fun _ _ _ _ _ _=>rfl) (fun fr' _ _ x _ a3=>q6 (ev1 (z5 a3) (ev1 rfl ev0)))).trans ?_
  rw [qk]
  show Out.ok _ (S.hp (r++[AO.list ((zO 0 c).map fun x=>eA (x,none))]))=Out.ok _ (S.hp (r++[AO.list (((zO 0 c).map fun x=>((x,none):En)).map eA)]))
  rw [List.map_map];rfl
 have l1:(r++[x0]).length=r.length+1:=by rw [zT];rfl
 have l2:(r++[x0]++[x1]).length=r.length+2:=by rw [zT,l1];rfl
 have l3:(r++[x0]++[x1]++[x2]).length=r.length+3:=by rw [zT,l2];rfl
 have l4:(r++[x0]++[x1]++[x2]++[x3]).length=r.length+4:=by rw [zT,l3];rfl
 have e2:zC (zA (some (.bi .list))) [(z6 0)] (run T n) F0 (S.hp (r++[x0]))=.ok (rf (r.length+1)) (S.hp (r++[x0]++[x1])):=by
  refine (yv (ev1 (z5 rfl) ev0) (Xj (by rw [Zr,List.length_map,hcl];show _≤1048576;lia))).trans ?_
  rw [← l1];rfl
 have e3:zV .Mult (zX [(z8 .none)]) (zC (zA (some (.bi .len))) [(z6 0)]) (run T n) F0 (S.hp (r++[x0]++[x1]))=.ok (rf (r.length+3)) (S.hp (r++[x0]++[x1]++[x2]++[x3])):=by
  refine (yR (zy (ev1 rfl ev0)) (lenT rfl) (Xa (h:=S.hp (r++[x0]++[x1]++[x2])) (a:=(r++[x0]++[x1]).length+15) (v:=.none) (zK (r++[x0]++[x1]) _ []) (Int.natCast_nonneg _) (by lia))).trans ?_
  rw [Int.toNat_natCast,← l3];rfl
 have e4:jw ["row", "faces", "came"] [(zj (zC (zA (some (.bi .range))) [(zC (zA (some (.bi .len))) [(z6 0)])]) 1 (.one 3) (zQ .And []) (xU [(z6 3),(z8 .none)])),(zC (zA (some (.bi .list))) [(z6 0)]),(zV .Mult (zX [(z8 .none)]) (zC (zA (some (.bi .len))) [(z6 0)]))] (run T n) F0 (S.hp r)=.ok (rf (r.length+4)) (S.hp (r++[x0]++[x1]++[x2]++[x3]++[.dicS d1])):=by
  refine (Jc (ev1 e1 (ev1 e2 (ev1 e3 ev0)))).trans ?_
  rw [← l4];rfl
 have er5:r++[x0]++[x1]++[x2]++[x3]++[AO.dicS d1]=r++[x0,x1,x2,x3,.dicS d1]:=by simp only [List.append_assoc];rfl
 rw [er5] at e4
 have l5:(r++[x0,x1,x2,x3,AO.dicS d1]).length=r.length+5:=by rw [zT];rfl
 have g5:(r++[x0,x1,x2,x3,AO.dicS d1])[r.length+4]? = some (.dicS d1):=yH r _ 4
 generalize hr5:r++[x0,x1,x2,x3,AO.dicS d1]=r5 at *
 let xc:AO:=.list ((List.range c).map fun j=>rf (r5.length+j))
 have e5:zj (z6 0) 1 (.one 3) (zQ .And []) (zX []) (run T n) F1 (S.hp r5)=.ok (rf (r5.length+c)) (S.hp (r5++List.replicate c (.list [])++[xc])):=by
  have hx:(yt (tx cs)).length=c:=by rw [Zr,List.length_map,hcl]
  have:=z10 (S:=S) (r:=r5) (it:=z6 0) (v:=.str (tx cs)) (src:=.imm (yt (tx cs))) (xs:=yt (tx cs)) (cf:=run T n) (fr:=F1) (i:=3) (z5 rfl) (by rw [hx,← hcl];rfl) (fun _ _=>rfl) (by rw [hx];show _<1048576;lia) (zZ rfl)
  rw [hx] at this;exact this
 have lc:(r5++List.replicate c (AO.list [])++[xc]).length=r5.length+(c+1):=by rw [zT,zT,List.length_replicate,Nat.add_assoc];rfl
 let d2:List (Str×AV):=[("cuts",rf (r5.length+c)),("deeds",rf (r5.length+(c+1))),("stays",rf (r5.length+(c+2))),("hands",.int hn),("gone",rf (r5.length+(c+3)))]
 have e6:jw ["cuts", "deeds", "stays", "hands", "gone"] [(zj (z6 0) 1 (.one 3) (zQ .And []) (zX [])),(zX []),(zX []),(z6 1),(zX [])] (run T n) F1 (S.hp r5)=.ok (rf (r5.length+(c+4))) (S.hp (r5++(List.replicate c (.list [])++[xc,.list [],.list [],.list [],.dicS d2]))):=by
  have m1:(r5++List.replicate c (AO.list [])++[xc]++[AO.list []]).length=r5.length+(c+2):=by rw [zT,lc];rfl
  have m2:(r5++List.replicate c (AO.list [])++[xc]++[AO.list []]++[AO.list []]).length=r5.length+(c+3):=by rw [zT,m1];rfl
  have m3:(r5++List.replicate c (AO.list [])++[xc]++[AO.list []]++[AO.list []]++[AO.list []]).length=r5.length+(c+4):=by rw [zT,m2];rfl
  have a1:zX [] (run T n) F1 (S.hp (r5++List.replicate c (AO.list [])++[xc]))=.ok (rf (r5.length+(c+1))) (S.hp (r5++List.replicate c (AO.list [])++[xc]++[AO.list []])):=by rw [← lc];exact zy ev0
  have a2:zX [] (run T n) F1 (S.hp (r5++List.replicate c (AO.list [])++[xc]++[AO.list []]))=.ok (rf (r5.length+(c+2))) (S.hp (r5++List.replicate c (AO.list [])++[xc]++[AO.list []]++[AO.list []])):=by rw [← m1];exact zy ev0
  have a3:zX [] (run T n) F1 (S.hp (r5++List.replicate c (AO.list [])++[xc]++[AO.list []]++[AO.list []]))=.ok (rf (r5.length+(c+3))) (S.hp (r5++List.replicate c (AO.list [])++[xc]++[AO.list []]++[AO.list []]++[AO.list []])):=by rw [← m2];exact zy ev0
  refine (Jc (ev1 e5 (ev1 a1 (ev1 a2 (ev1 (z5 (i:=1) rfl) (ev1 a3 ev0)))))).trans ?_
  rw [show r5++(List.replicate c (AO.list [])++[xc,AO.list [],.list [],.list [],.dicS d2])=r5++List.replicate c (AO.list [])++[xc]++[AO.list []]++[AO.list []]++[AO.list []]++[.dicS d2] from by simp only [List.append_assoc];rfl,← m3];rfl
 let post:Hp:=List.replicate c (.list [])++[xc,.list [],.list [],.list [],.dicS d2]
 have lp:post.length=c+5:=by show (List.replicate c (AO.list [])++_).length=_;rw [zT,List.length_replicate];rfl
 have gp:∀ {j:Nat} {x:AO},[xc,AO.list [],.list [],.list [],.dicS d2][j]? = some x→post[c+j]? = some x:=fun {j x} h=>by
  have:=yH (List.replicate c (AO.list [])) [xc,AO.list [],.list [],.list [],.dicS d2] j
  rw [List.length_replicate] at this
  exact this.trans h
 have g7:(r5++post)[r5.length+(c+4)]? = some (.dicS d2):=(yH r5 post (c+4)).trans (gp rfl)
 have eu:=z1c (h:=S.hp (r5++post)) (a:=r.length+4+15) (b:=r5.length+(c+4)+15) (kv:=d1) (more:=d2) (zI g5) g7 (zZ rfl) (by lia)
 have ekv:d2.foldl (fun acc kv=>xT acc kv.1 kv.2) d1=(Ad0 r.length c).kv hn:=by
  show Ad.kv ⟨r.length+4,r.length,r.length+1,r.length+3,r5.length+c,r5.length+(c+1),r5.length+(c+2),r5.length+(c+3),[]⟩ hn=Ad.kv (Ad0 r.length c) hn
  unfold Ad.kv Ad0
  rw [show r5.length+c=r.length+(5+c) by lia,show r5.length+(c+1)=r.length+(6+c) by lia,show r5.length+(c+2)=r.length+(7+c) by lia,show r5.length+(c+3)=r.length+(8+c) by lia]
 rw [ekv] at eu
 have eset:(r5++post).set (r.length+4) (.dicS ((Ad0 r.length c).kv hn))=r++([x0,x1,x2,x3,.dicS ((Ad0 r.length c).kv hn)]++post):=by
  rw [← hr5,List.append_assoc,List.set_append_right _ _ (Nat.le_add_right _ _),Nat.add_sub_cancel_left];rfl
 have lo:∀ {j:Nat} {x:AO},[x0,x1,x2,x3,AO.dicS ((Ad0 r.length c).kv hn)][j]? = some x→(r++([x0,x1,x2,x3,.dicS ((Ad0 r.length c).kv hn)]++post))[r.length+j]? = some x:=fun {j x} h=>(yH r _ j).trans (zI h)
 have hi:∀ {j:Nat} {x:AO},post[j]? = some x→(r++([x0,x1,x2,x3,.dicS ((Ad0 r.length c).kv hn)]++post))[r.length+(5+j)]? = some x:=fun {j x} h=>(yH r _ (5+j)).trans ((yH [x0,x1,x2,x3,AO.dicS ((Ad0 r.length c).kv hn)] post j).trans h)
 refine ⟨[x0,x1,x2,x3,.dicS ((Ad0 r.length c).kv hn)]++post,by rw [zT,lp];show 5+(c+5)=_;lia,?_,?_⟩
 ·refine zM (fr:=F0) rfl rfl (fr':=F1) ?_
  unfold kBc
  dsimp only
  refine (z7 (zU e4 (zZ rfl))).trans ((z7 (zn (v:=.none) (h1:=S.hp (r++([x0,x1,x2,x3,.dicS ((Ad0 r.length c).kv hn)]++post))) (zCu (a:=r.length+4+15) (kvs:=d1) (z5 rfl) (show (S.hp r5)[r.length+4+15]? = _ from g5) (ev1 e6 ev0) (eu.trans ?_)))).trans (zL (zm (z5 rfl))))
  rw [← eset];rfl
 ·have q0:(Md0 cs).es.map eA=((zO 0 c).map fun x=>((x,none):En)).map eA:=by unfold Md0;rw [hcl]
  refine ⟨lo rfl,?_,lo (j:=1) rfl,?_,?_,?_,?_,?_,fun i k ds h1 h2=>?_,?_⟩
  ·rw [q0];exact lo (j:=0) rfl
  ·show _=some (AO.list (List.replicate cs.length .none));rw [hcl];exact lo (j:=3) rfl
  ·have:=hi (gp (j:=0) rfl)
   rw [show r.length+(5+(c+0))=r.length+(5+c) by lia] at this
   refine this.trans (congrArg (fun x=>some (AO.list x)) ?_)
   show (List.range c).map _=((List.range c).map fun j=>r.length+5+j).map rf
   rw [List.map_map]
   refine List.map_congr_left fun j _=>?_
   show rf (r5.length+j)=rf (r.length+5+j)
   rw [l5]
  ·have:=hi (gp (j:=1) rfl);rw [show r.length+(5+(c+1))=r.length+(6+c) by lia] at this;exact this
  ·have:=hi (gp (j:=2) rfl);rw [show r.length+(5+(c+2))=r.length+(7+c) by lia] at this;exact this
  ·have:=hi (gp (j:=3) rfl);rw [show r.length+(5+(c+3))=r.length+(8+c) by lia] at this;exact this
  ·have h1:((List.range c).map fun j=>r.length+5+j)[i]? = some k:=h1
   have h2:(List.replicate cs.length ([]:List Int))[i]? = some ds:=h2
   rw [List.getElem?_map] at h1
   obtain ⟨j,hj,rfl⟩:=y9 h1
   have hi':=(y7 hj).1
   rw [List.length_range] at hi'
   rw [List.getElem?_range hi'] at hj
   cases hj
   have:ds=[]:=List.eq_of_mem_replicate (yF h2)
   rw [this]
   have hp:post[i]? = some (.list []):=zI (by rw [List.getElem?_replicate,if_pos hi'])
   have:=hi hp
   rw [show r.length+(5+i)=r.length+5+i by lia] at this
   exact this
  ·show ((List.range c).map _).length=(List.replicate cs.length ([]:List Int)).length
   rw [List.length_map,List.length_range,List.length_replicate,hcl]
end
set_option genInjectivity false
set_option genSizeOf false
theorem wf {h:Hp} {a k:Nat} {ys:List Int} (e:h[a]? = some (.list (ys.map AV.int))):(Src.enum a).next? h k=some ((ys.mapIdx fun i y=>AV.tup [.int (i:Int),.int y])[k]?):=by
 show (match h[a]? with | some (.list zs)=>some ((zs[k]?).map fun x=>AV.tup [.int k,x]) | _=>none)=_
 rw [e]
 show some (((ys.map AV.int)[k]?).map fun x=>AV.tup [.int k,x])=_
 rw [List.getElem?_map,List.getElem?_mapIdx,Option.map_map];rfl
theorem rl1 (g0 g2:AO) (hands:Int) {cs:List Nat}:Rl (sh1 g0 g2 hands cs) (List.replicate cs.length []) (List.replicate cs.length []) (Md0 cs):=by
 refine ⟨?_,rfl,rfl,rfl,rfl,rfl,fun d h=>(nomatch h),rfl,List.nodup_nil,fun d h=>(nomatch h),⟨fun i=>?_,fun i _ _=>?_⟩⟩
 ·show (zO 0 cs.length).map (fun x=>((x,none):En))=(zO 0 cs.length).map (ent (zO 0 cs.length) (List.replicate cs.length []))
  refine List.map_congr_left fun x hx=>?_
  unfold ent dAt
  rw [jZ]
  show (x,none)=(gI (zO 0 cs.length) x,none)
  obtain ⟨j,hj,rfl⟩:=List.mem_map.mp hx
  have hj:=List.mem_range.mp hj
  refine congrArg (fun y=>(y,(none:Option Int))) (zB3 (d:=0+j) ?_).symm
  unfold zO
  rw [List.getElem?_map,Nat.zero_add,List.getElem?_range hj]
  show some (((0+j:Nat):Int))=_
  rw [Nat.zero_add]
 ·rw [jZ];exact .nil
 ·rw [jZ];exact List.nodup_cons.mpr ⟨List.not_mem_nil,List.nodup_nil⟩
theorem zBj {S:Sh} {mvs:List (List (Int×Int))} {cus:List (List Int)} {l:List Int} {h:Hp}:∃ ds,yT (toD h 7) (l.map fun i=>S.Pv mvs cus i)=some ds∧PyData.canLayAll0 ds=true:=by
 refine ⟨l.map fun i=>PyData.tuple [.int (S.pl mvs i:Nat),.bool (S.shw cus i)],?_,?_⟩
 ·induction l with
  | nil=>rfl
  | cons x l ih=>exact xQ rfl ih
 ·induction l with
  | nil=>rfl
  | cons x l ih=>rw [List.map_cons,PyData.canLayAll0,ih];rfl
section
variable {T:Tab} {okf:Str→Str→Bool} (X:TT T okf) {n:Nat}
include X
theorem JP {c:Int} {h:Hp}:∃ v,run T (n+1) (.fn "_law_size_by") [.int c] h=.ok (.int v) h:=by
 rw [ya X.kAy]
 have t:=zS (op:=.Eq) (y:=z8 (.int 1)) (w:=.int 1) (b:=decide ((c.fdiv 13).fmod 8=1)) (wN (d:=8) (qK (d:=13) (z5 (i:=0) (cf:=run T n) (h:=h) (fr:=[some (.int c)]) rfl) (by decide)) (by decide)) rfl (by rw [xz,xG])
 cases hb:decide ((c.fdiv 13).fmod 8=1) with
 | true =>
  rw [hb] at t
  exact ⟨_,zM (fr:=[some (.int c)]) rfl rfl (zL ((zi t).trans (zL (zm (YB (x:=z8 (.int 30)) rfl (wN (d:=31) (qK (d:=104) (z5 rfl) (by decide)) (by decide)))))))⟩
 | false =>
  rw [hb] at t
  exact ⟨_,zM (fr:=[some (.int c)]) rfl rfl ((z7 ((zH t).trans zE)).trans (zL (zm (wN (d:=13) (z5 rfl) (by decide)))))⟩
theorem zEn {hn:Int} {k yq:Nat} {ys:List Int} {S:Sh} {mvs:List (List (Int×Int))} {cus sg:List (List Int)} {M:Md} {A:Ad} {r:Hp} (L:L7 hn k yq ys S mvs cus sg M A r) {sc v1:AV} {v5 v6 v7 v8:Option AV} :
  ∃ fr' h',zD [(z9 okf (.names (.one 9)) (zj (zC (zA (some (.bi .range))) [(zB (z6 3) "many" none [])]) 1 (.one 10) (zQ .And []) (zB (z6 3) "place_of" none [(z6 10)]))),(sIf (zR (zj (z6 9) 1 (.one 10) (zQ .And [(zQ .Or [(ym (y6 (zC (zA (some (.bi .isinstance))) [(z6 10),(zA (some (.bi .tuple)))]))),(ym (y6 (zC (zA (some (.bi .isinstance))) [(zF (z6 10) (z8 (.int 1))),(zA (some (.bi .bool)))])))])]) (z6 10)) [.NotEq] [(zX [])]) (zD [(zf (z8 (.bool false)))]) (zD [])),(zf (qq (z6 9) [.Eq] [(zj (zC (zA (some (.bi .range))) [(zC (zA (some (.bi .len))) [(zF (z6 4) (z8 (.str "faces")))])]) 1 (.one 10) (zQ .And []) (zC (zA (some (.fn "_law_place"))) [(z6 4),(z6 10)]))]))] (run T (n+8)) [some sc,some v1,some (.int hn),some (.ref 1),some (rf A.a0),v5,v6,v7,v8,none] (S.hp r)=.ok (.ret (.bool true)) fr' h':=by
 have V:=L.B.V
 have kk:=L.R.mk_ V
 have hz:=V.I.O.le
 have rg:∀ x∈zO 0 S.le.length,0≤x∧x<S.le.length:=fun x hx=>by obtain ⟨a,b⟩:=yJ hx;exact ⟨by lia,by lia⟩
 obtain ⟨G,e1⟩:=j8 AV.int (S:=S) (own:=1) (i:=10) (cf:=run T (n+8)) (fr:=[some sc,some v1,some (.int hn),some (.ref 1),some (rf A.a0),v5,v6,v7,v8,none]) (l:=zO 0 S.le.length) (test:=zQ .And []) (elt:=zB (z6 3) "place_of" none [(z6 10)]) (p:=fun _=>true) (f:=fun i=>S.Pv mvs cus i)
  (yv (ev1 (zP (me:=none) (a:=1) (z5 (i:=3) rfl) rfl z2b ev0 (zE1 X (n:=n+7) (S:=S) (r:=r))) ev0) (yu (Nat.lt_trans hz (by decide)))) (by rw [zh];exact xi _) (fun k G=>by show some (rgL S.le.length)[k]? = _;rw [we]) (zZ rfl) (by rw [zh];exact Nat.lt_trans hz (by decide))
  (fun x _ G=>⟨[],by rw [List.append_nil];rfl⟩)
  (fun x hx _ G=>by
   obtain ⟨g,e⟩:=Jf X (n:=n+4) V.I (L.B.D.grow G) (rg x hx).1 (rg x hx).2
   exact ⟨g,zP (a:=1) (z5 rfl) rfl jo (ev1 (z5 rfl) ev0) e⟩)
 rw [qk] at e1
 have L1:=L.grow G
 generalize r++G=r1 at *
 have q1:(r1++[AO.list ((zO 0 S.le.length).map fun i=>S.Pv mvs cus i)])[r1.length]? = some (.list ((zO 0 S.le.length).map fun i=>S.Pv mvs cus i)):=zK _ _ []
 have L2:=L1.grow [AO.list ((zO 0 S.le.length).map fun i=>S.Pv mvs cus i)]
 generalize r1++[AO.list ((zO 0 S.le.length).map fun i=>S.Pv mvs cus i)]=r2 at *
 have e2:=yK (fun i=>S.Pv mvs cus i) (own:=1) (i:=10) (cf:=run T (n+8)) (fr:=[some sc,some v1,some (.int hn),some (.ref 1),some (rf A.a0),v5,v6,v7,v8,some (rf r1.length)]) (l:=zO 0 S.le.length) (test:=zQ .And [(zQ .Or [(ym (y6 (zC (zA (some (.bi .isinstance))) [(z6 10),(zA (some (.bi .tuple)))]))),(ym (y6 (zC (zA (some (.bi .isinstance))) [(zF (z6 10) (z8 (.int 1))),(zA (some (.bi .bool)))])))])]) (elt:=z6 10) (p:=fun _=>false) (f:=fun i=>S.Pv mvs cus i) (h:=S.hp r2) (z5 (i:=9) rfl) (show (S.hp r2)[r1.length+15]? = _ from q1) (zZ rfl) (by rw [zh];exact Nat.lt_trans hz (by decide))
  (fun fr' _ _ x _ a3=>qF (xP (yO (b:=true) (yg (v:=.bool true) (yv (b:=.isinstance) (vs:=[S.Pv mvs cus x,.bi .tuple]) (ev1 (z5 a3) (ev1 (x:=zA (some (.bi .tuple))) (v:=.bi .tuple) rfl ev0)) rfl) rfl)) (xP (yO (b:=true) (yg (v:=.bool true) (yv (b:=.isinstance) (vs:=[.bool (S.shw cus x),.bi .bool]) (ev1 (zv (z5 a3) (w:=.int 1) rfl rfl) (ev1 (x:=zA (some (.bi .bool))) (v:=.bi .bool) rfl ev0)) rfl) rfl)) qJ)))
  (fun fr' _ _ x _ a3=>z5 a3)
 rw [List.filter_eq_nil_iff.mpr fun _ _=>Bool.false_ne_true] at e2
 have L3:=(L2.grow [AO.list []]).grow [AO.list []]
 have t2:=zS (op:=.NotEq) (b:=false) e2 (zy (cf:=run T (n+8)) (fr:=[some sc,some v1,some (.int hn),some (.ref 1),some (rf A.a0),v5,v6,v7,v8,some (rf r1.length)]) ev0) (XY (h:=S.hp (r2++[AO.list []]++[AO.list []])) (a:=r2.length+15) (b:=(r2++[AO.list []]).length+15) (xs:=[]) (zI (zK r2 _ [])) (zK _ _ []))
 have t2:_=Out.ok false (S.hp (r2++[AO.list []]++[AO.list []])):=t2
 have q3:(r2++[AO.list []]++[AO.list []])[r1.length]? = some (.list ((zO 0 S.le.length).map fun i=>S.Pv mvs cus i)):=zI (zI q1)
 generalize hr3:r2++[AO.list []]++[AO.list []]=r3 at *
 obtain ⟨G3,e3⟩:=j8 AV.int (S:=S) (own:=1) (i:=10) (cf:=run T (n+8)) (fr:=[some sc,some v1,some (.int hn),some (.ref 1),some (rf A.a0),v5,v6,v7,v8,some (rf r1.length)]) (h:=S.hp r3) (l:=zO 0 S.le.length) (test:=zQ .And []) (elt:=zC (zA (some (.fn "_law_place"))) [(z6 4),(z6 10)]) (p:=fun _=>true) (f:=fun i=>S.Pv mvs cus i) (r:=r3)
  (yv (b:=.range) (ev1 (v:=.int S.le.length) (h1:=S.hp r3) (yv (b:=.len) (ev1 (L3.m.get (S:=S) (j:=4) rfl w0) ev0) (by
   rw [xH,xE,show (S.hp r3)[A.a2+15]? = _ from L3.m.e2,L.R.le]
   show Out.ok (AV.int ((S.le.map ch).length:Nat)) _=_
   rw [List.length_map])) ev0) (yu (Nat.lt_trans hz (by decide)))) (by rw [zh];exact xi _) (fun k G=>by show some (rgL S.le.length)[k]? = _;rw [we]) (zZ rfl) (by rw [zh];exact Nat.lt_trans hz (by decide))
  (fun x _ G=>⟨[],by rw [List.append_nil];rfl⟩)
  (fun x hx _ G=>by
   obtain ⟨g,e⟩:=Zb X (n:=n+5) (S:=S) (L3.m.grow G) kk (rg x hx).1 (by rw [L.R.le];exact (rg x hx).2)
   rw [L.R.pv V (rg x hx).1 (rg x hx).2] at e
   exact ⟨g,zp (ev1 (z5 rfl) (ev1 (z5 rfl) ev0)) e⟩)
 rw [qk] at e3
 obtain ⟨ds,hd,hl⟩:=zBj (S:=S) (mvs:=mvs) (cus:=cus) (l:=zO 0 S.le.length) (h:=S.hp (r3++G3++[AO.list ((zO 0 S.le.length).map fun i=>S.Pv mvs cus i)]))
 refine ⟨_,_,(z7 (zU e1 (zZ rfl))).trans ((z7 ((zH t2).trans zE)).trans (zL (zm (wx (z5 rfl) e3 (Qm (d:=.list ds) (yc (show (S.hp _)[r1.length+15]? = _ from zI (zI q3)) hd) (yc (show (S.hp _)[(r3++G3).length+15]? = _ from zK (r3++G3) _ []) hd) hl).1))))⟩
theorem law_ {is:List Int} (hs:is.length≤63):∃ h',run T (n+9) (.fn "law") [.lst (is.map AV.int)] []=.ok (.bool true) h':=by
 rw [ya X.kB7]
 have c0:=fun h=>Zs X (n:=n+7) (is:=is) (k:=0) (h:=h) (by decide) hs
 have c1:=fun h=>Zs X (n:=n+7) (is:=is) (k:=1) (h:=h) (by decide) hs
 have c2:=fun h=>Zs X (n:=n+7) (is:=is) (k:=2) (h:=h) (by decide) hs
 obtain ⟨sz,es⟩:=JP X (n:=n+7) (c:=is[(0:Int).toNat]?.getD 0) (h:=[])
 have m16:=fmr sz (d:=16) (by decide)
 obtain ⟨cs,o,et,ok,lc⟩:=XD X (n:=n+6) (c:=is[(1:Int).toNat]?.getD 0) (m:=sz.fmod 16) (h:=[]) m16.1 (Int.le_trans (Int.le_of_lt m16.2) (by decide))
 have hc:cs.length≤60:=by lia
 have h9:=fmr (is[(2:Int).toNat]?.getD 0) (d:=9) (by decide)
 generalize hhn:1+(is[(2:Int).toNat]?.getD 0).fmod 9=hn
 have hh1:1≤hn∧hn≤9:=by lia
 obtain ⟨g2,r,ei,D⟩:=zE9 X (n:=n+3) (g0:=o) (hands:=hn) ok hc hh1.1 hh1.2
 obtain ⟨V,_⟩:=iv1 o g2 hn (cs:=cs) (Nat.lt_of_le_of_lt hc (by decide))
 have R:=rl1 o g2 hn (cs:=cs)
 have hh:(sh1 o g2 hn cs).hands=hn:=rfl
 have hnil:(sh1 o g2 hn cs).dn=[]∧(sh1 o g2 hn cs).lo=[]:=⟨rfl,rfl⟩
 have hbl:(sh1 o g2 hn cs).b.length=cs.length∧(sh1 o g2 hn cs).le=cs:=⟨List.length_replicate,rfl⟩
 generalize hS:sh1 o g2 hn cs=S at ei D V hh hnil hbl R
 generalize (List.replicate cs.length ([]:List (Int×Int)))=mvs0 at D V R
 generalize (List.replicate cs.length ([]:List Int))=cus0 at D V R
 generalize hys:(is.take 23).drop 3=ys
 have ly:ys.length≤20:=by rw [← hys,List.length_drop,List.length_take];lia
 have A0:Bs hn 60 0 [] S mvs0 cus0 [] r:=⟨V,D,fun d us h=>(nomatch h),fun q h=>(nomatch h),hh,by rw [hbl.1];exact hc,by rw [hbl.2];exact hc,by rw [hnil.1];exact Nat.le_refl _,fun d h=>(by rw [hnil.1] at h;cases h),by rw [hnil.2];exact Nat.le_refl _⟩
 obtain ⟨g,lg,ef0,m0⟩:=zBy X (n:=n+7) (S:=S) (r:=r) (hn:=hn) (cs:=cs) (by lia)
 have B1:Bs hn 60 0 (Ad0 r.length cs.length).P S mvs0 cus0 [] (r++g):=A0.grow g fun q h=>.inr (by obtain ⟨a,b⟩:=Ji h;rw [zT,lg];exact ⟨a,b⟩)
 have lr:(r++g).length=r.length+(10+cs.length):=by rw [zT,lg]
 have L0:L7 hn 0 (r++g).length ys S mvs0 cus0 [] (Md0 cs) (Ad0 r.length cs.length) (r++g++[AO.list (ys.map AV.int)]) :=
  ⟨B1.grow _ fun q h=>.inl h,R,m0.grow _,nd0 _ _,by rw [hbl.2];exact ok,zK _ _ [],(D.ge (by rw [lr];exact Nat.le_add_right _ _)).1,(D.ge (by rw [lr];exact Nat.le_add_right _ _)).2,fun h=>by have:=(Ji h).2;lia⟩
 obtain ⟨fr',h',ef,st⟩:=xO (t:=.many [5,6]) (src:=.enum ((r++g).length+15)) (cf:=run T (n+8)) (xs:=ys.mapIdx fun i y=>AV.tup [.int (i:Int),.int y]) (body:=s7 okf) (St7 (.lst (is.map AV.int)) (.str (tx cs)) hn (r.length+4) (r++g).length ys)
  (fun k fr h st=>by
   cases st with
   | mk L=>exact wf (show (Sh.hp _ _)[(r++g).length+15]? = _ from L.y))
  (fun k x fr h st hx=>by
   rw [List.getElem?_mapIdx] at hx
   obtain ⟨y,hy,rfl⟩:=y9 hx
   cases st with
   | @mk v5 v6 v7 v8 S mvs cus sg M A r' L ea =>
    obtain ⟨fr2,h2,e,st⟩:=zCs X (n:=n) (okf:=okf) (y:=y) (sc:=.lst (is.map AV.int)) (v1:=.str (tx cs)) (v7:=v7) (v8:=v8) L (Nat.le_of_lt (Nat.lt_of_lt_of_le (y7 hy).1 ly)) hh1.1
    rw [ea] at e st
    exact ⟨_,fr2,h2,rfl,e,st⟩)
  (.mk (v5:=none) (v6:=none) (v7:=none) (v8:=none) L0 rfl)
 rw [List.length_mapIdx] at ef
 have ecut:wn (z6 0) (z8 (.int 3)) (z8 (.int 23)) (run T (n+8)) [some (.lst (is.map AV.int)),some (.str (tx cs)),some (.int hn),some (.ref 1),some (rf (r.length+4)),none,none,none,none,none] (S.hp (r++g))=.ok (rf (r++g).length) (S.hp (r++g++[AO.list (ys.map AV.int)])):=by
  refine (XU (z5 rfl) rfl rfl (z2t (xS (show okI 3=true from rfl)) (xS (show okI 23=true from rfl)) (by rw [List.length_map];exact Nat.le_trans hs (by decide)))).trans ?_
  have e1:ys.map AV.int=wH (is.map AV.int) 3 (some 23):=by
   rw [← hys]
   show ((is.take 23).drop 3).map AV.int=((is.map AV.int).take 23).drop 3
   rw [List.map_drop,List.map_take]
  rw [e1];rfl
 have hsx:=wa (show (S.hp (r++g++[AO.list (ys.map AV.int)]))[(r++g).length+15]? = some (.list (ys.map AV.int)) from L0.y)
 rw [List.length_map] at hsx
 have s2:=zU (okf:=okf) (j:=2) (cf:=run T (n+8)) (h:=[o]) (fr:=[some (.lst (is.map AV.int)),some (.str (tx cs)),none,none,none,none,none,none,none,none]) (YB (x:=z8 (.int 1)) rfl (wN (d:=9) (zp (n := "_law_cell_at") (ev1 (z5 (i:=0) rfl) (ev1 (x:=z8 (.int 2)) rfl ev0)) (c2 [o])) (by decide))) (zZ rfl)
 rw [hhn] at s2
 cases st with
 | mk L ea =>
  obtain ⟨fr2,h2,ee⟩:=zEn X (n:=n) (okf:=okf) (sc:=.lst (is.map AV.int)) (v1:=.str (tx cs)) L
  rw [ea] at ee
  refine ⟨h2,zM (fr:=[some (.lst (is.map AV.int)),none,none,none,none,none,none,none,none,none]) rfl rfl (fr':=fr2) ?_⟩
  ·unfold kB7
   dsimp only
   exact (z7 (zU (j:=1) (zp (ev1 (zp (ev1 (z5 rfl) (ev1 rfl ev0)) (c1 [])) (ev1 (wN (zp (ev1 (zp (ev1 (z5 rfl) (ev1 rfl ev0)) (c0 [])) ev0) es) (by decide)) ev0)) et) (zZ rfl))).trans ((z7 s2).trans ((z7 (zU (j:=3) (z34 (ev1 (z5 rfl) (ev1 (z5 rfl) ev0)) ei) (zZ rfl))).trans ((z7 (zU (j:=4) (zp (ev1 (z5 rfl) (ev1 (z5 rfl) ev0)) ef0) (zZ rfl))).trans ((z7 (zBg ecut hsx ef)).trans ee))))
end
end Mine.LS
end
section
noncomputable section
open PySem PySem.W PyProof.Rows
set_option maxRecDepth 1000000
set_option maxHeartbeats 8000000
namespace Mine.Hd
noncomputable abbrev prog:Program:=PySem.Challenge.rw_uf010039_07.prog
noncomputable def dk (P:Params) (x:Str) (t:Tok) (v:Value):DictEntry:=⟨PyData.keyHash P x,.str x t,v⟩
noncomputable def zEj (j:Option Nat):Stmt→Option Stmt
 | .ClassDef _ _ _ b _ _ _ _ _ _ _=>j.bind fun j=>b[j]?
 | s=>some s
noncomputable def st (i:Nat) (j:Option Nat):Option Stmt:=(prog.main.body[i]?).bind (zEj j)
noncomputable def mkF (s:Option Stmt) (q:Str) (g:Addr) (cl:List (Str×Addr)) (d kd doc pm:Value) (an:Option Addr) (cd ct:Value) (bl:Addr):FuncData:=match s with
 | some (.FunctionDef n a b _ _ _ sc _ _ _)=>⟨n,q,a,.stmts b,sc,g,cl,d,kd,doc,pm,an,cd,ct,bl⟩
 | _=>default
noncomputable def tu (xs:List Value):Obj:=⟨.type "tuple",none,.seq (Array.mk xs) 0,Array.mk []⟩
noncomputable def fi (xs:List Value):Obj:=⟨.none,none,.fields (Array.mk xs),Array.mk []⟩
noncomputable def co (xs:List Value):Obj:=⟨.type "code",none,.fields (Array.mk xs),Array.mk []⟩
noncomputable def fu (f:FuncData):Obj:=⟨.type "function",none,.func f,Array.mk []⟩
noncomputable def f0 (f:FuncData):Obj:=⟨.none,none,.func f,Array.mk []⟩
noncomputable def j (z:Int):Value:=.int z 0
noncomputable def o_3 (P:Params):Obj:=⟨(.type "dict"),none,(.dict (List.toArray [dk P "__name__" 165 (.str "law_uf010039_07" 725),dk P "__doc__" 166 .none,dk P "__package__" 167 .none,dk P "__loader__" 168 (.builtin "__main__.__loader__#opaque"),dk P "__spec__" 169 .none,dk P "__annotations__" 170 (.ref 6),dk P "__builtins__" 171 (.ref 4),dk P "__file__" 173 (.str "/claim/cut.py" 172),dk P "__cached__" 174 .none,dk P "_wall" 193 (.ref 21),dk P "StickError" 213 (.ref 31),dk P "BadText" 229 (.ref 44),dk P "NoPlace" 245 (.ref 56),dk P "NoSeat" 261 (.ref 68),dk P "NoHand" 277 (.ref 80),dk P "NoDeed" 293 (.ref 92),dk P "is_whole" 302 (.ref 101),dk P "Row" 408 (.ref 184),dk P "LETTERS" 412 (.str " !\"#$&'()*+,-./0123456789:;<=>?@ABCDEFGHIJKLMNOPQRSTUVWXYZ[\\]^_`abcdefghijklmnopqrstuvwxyz{|}~\n" 411),dk P "MOST_HANDS" 414 (.int (9) 413),dk P "is_text" 420 (.ref 193),dk P "Sheet" 724 (.ref 414),dk P "_law_cell_at" 734 (.ref 425),dk P "_law_whole" 741 (.ref 432),dk P "_law_mixed" 750 (.ref 439),dk P "_law_text_by" 756 (.ref 444),dk P "_law_size_by" 763 (.ref 451),dk P "_law_fresh" 769 (.ref 456),dk P "_law_sits" 779 (.ref 463),dk P "_law_is_shown" 785 (.ref 468),dk P "_law_shown" 796 (.ref 475),dk P "_law_at" 805 (.ref 482),dk P "_law_deed" 811 (.ref 487),dk P "_law_deed_by" 825 (.ref 494),dk P "_law_do" 839 (.ref 501),dk P "_law_turned" 845 (.ref 506),dk P "_law_place" 851 (.ref 511),dk P "_law_last" 857 (.ref 516),dk P "_law_stands" 863 (.ref 521),dk P "law" 869 (.ref 526)]) 40),(Array.mk [])⟩
noncomputable def zDt:=tu []
noncomputable def zDs:=tu [(.str "k" 190)]
noncomputable def zDr:=tu []
noncomputable def zDq:=co [(.str "_wall" 187),(.str "_wall" 188),(.str "/claim/cut.py" 189),j 1,j 1,j 0,j 0,j 3,(.ref 15),(.bool true),j 181,(.ref 16),.none,(.ref 17),(.ref 18),(.ref 19),j 191,j 1,(.str "/claim/cut.py" 192)]
noncomputable def zDp:=fu (mkF (st 0 none) "_wall" 3 [] .none .none .none (.str "__main__" 164) none (.ref 20) .none 0)
noncomputable def zDo:=tu [(.type "ValueError")]
noncomputable def zDn:=tu []
noncomputable def zDm (P:Params):Obj:=⟨(.type "dict"),none,(.dict (List.toArray [dk P "__module__" 203 (.str "stickmarks.errors" 194),dk P "__firstlineno__" 207 (.int (5) 206),dk P "__static_attributes__" 208 (.ref 29),dk P "__weakref__" 210 (.ref 32),dk P "__doc__" 211 .none]) 3),(Array.mk [])⟩
noncomputable def zDl:Obj:=⟨(.type "type"),none,(.cls ⟨"StickError",[(.type "ValueError")],[(.ref 31),(.type "ValueError"),(.type "Exception"),(.type "BaseException"),(.type "object")],30, "StickError",true,[],[(.ref 44),(.ref 56),(.ref 68),(.ref 80),(.ref 92)],false,none,false⟩),(Array.mk [some (.ref 22),none,some (.str "StickError" 196),some (.str "StickError" 204),some (.builtin "ValueError.__new__"),some (.bool true)])⟩
noncomputable def zDk:Obj:=⟨(.type "getset_descriptor"),none,(.fields (Array.mk [(.str "__weakref__" 209),(.ref 31),(.builtin "ExceptionGroup.__weakref__"),.none])),(Array.mk [])⟩
noncomputable def zDj:=tu [(.ref 31)]
noncomputable def zDi:=tu []
noncomputable def zDh (P:Params):Obj:=⟨(.type "dict"),none,(.dict (List.toArray [dk P "__module__" 221 (.str "stickmarks.errors" 194),dk P "__firstlineno__" 225 (.int (7) 224),dk P "__static_attributes__" 226 (.ref 42),dk P "__doc__" 227 .none]) 2),(Array.mk [])⟩
noncomputable def zDg:Obj:=⟨(.type "type"),none,(.cls ⟨"BadText",[(.ref 31)],[(.ref 44),(.ref 31),(.type "ValueError"),(.type "Exception"),(.type "BaseException"),(.type "object")],43, "BadText",true,[],[],false,none,false⟩),(Array.mk [some (.ref 35),none,some (.str "BadText" 214),some (.str "BadText" 222),some (.builtin "ValueError.__new__"),some (.bool true)])⟩
noncomputable def zDf:=tu [(.ref 31)]
noncomputable def zDe:=tu []
noncomputable def zDd (P:Params):Obj:=⟨(.type "dict"),none,(.dict (List.toArray [dk P "__module__" 237 (.str "stickmarks.errors" 194),dk P "__firstlineno__" 241 (.int (9) 240),dk P "__static_attributes__" 242 (.ref 54),dk P "__doc__" 243 .none]) 2),(Array.mk [])⟩
noncomputable def zDc:Obj:=⟨(.type "type"),none,(.cls ⟨"NoPlace",[(.ref 31)],[(.ref 56),(.ref 31),(.type "ValueError"),(.type "Exception"),(.type "BaseException"),(.type "object")],55, "NoPlace",true,[],[],false,none,false⟩),(Array.mk [some (.ref 47),none,some (.str "NoPlace" 230),some (.str "NoPlace" 238),some (.builtin "ValueError.__new__"),some (.bool true)])⟩
noncomputable def zDb:=tu [(.ref 31)]
noncomputable def zDa:=tu []
noncomputable def zD9 (P:Params):Obj:=⟨(.type "dict"),none,(.dict (List.toArray [dk P "__module__" 253 (.str "stickmarks.errors" 194),dk P "__firstlineno__" 257 (.int (11) 256),dk P "__static_attributes__" 258 (.ref 66),dk P "__doc__" 259 .none]) 2),(Array.mk [])⟩
noncomputable def zD8:Obj:=⟨(.type "type"),none,(.cls ⟨"NoSeat",[(.ref 31)],[(.ref 68),(.ref 31),(.type "ValueError"),(.type "Exception"),(.type "BaseException"),(.type "object")],67, "NoSeat",true,[],[],false,none,false⟩),(Array.mk [some (.ref 59),none,some (.str "NoSeat" 246),some (.str "NoSeat" 254),some (.builtin "ValueError.__new__"),some (.bool true)])⟩
noncomputable def zD7:=tu [(.ref 31)]
noncomputable def zD6:=tu []
noncomputable def zD5 (P:Params):Obj:=⟨(.type "dict"),none,(.dict (List.toArray [dk P "__module__" 269 (.str "stickmarks.errors" 194),dk P "__firstlineno__" 273 (.int (13) 272),dk P "__static_attributes__" 274 (.ref 78),dk P "__doc__" 275 .none]) 2),(Array.mk [])⟩
noncomputable def zD4:Obj:=⟨(.type "type"),none,(.cls ⟨"NoHand",[(.ref 31)],[(.ref 80),(.ref 31),(.type "ValueError"),(.type "Exception"),(.type "BaseException"),(.type "object")],79, "NoHand",true,[],[],false,none,false⟩),(Array.mk [some (.ref 71),none,some (.str "NoHand" 262),some (.str "NoHand" 270),some (.builtin "ValueError.__new__"),some (.bool true)])⟩
noncomputable def zD3:=tu [(.ref 31)]
noncomputable def zD2:=tu []
noncomputable def zD1 (P:Params):Obj:=⟨(.type "dict"),none,(.dict (List.toArray [dk P "__module__" 285 (.str "stickmarks.errors" 194),dk P "__firstlineno__" 289 (.int (15) 288),dk P "__static_attributes__" 290 (.ref 90),dk P "__doc__" 291 .none]) 2),(Array.mk [])⟩
noncomputable def zD0:Obj:=⟨(.type "type"),none,(.cls ⟨"NoDeed",[(.ref 31)],[(.ref 92),(.ref 31),(.type "ValueError"),(.type "Exception"),(.type "BaseException"),(.type "object")],91, "NoDeed",true,[],[],false,none,false⟩),(Array.mk [some (.ref 83),none,some (.str "NoDeed" 278),some (.str "NoDeed" 286),some (.builtin "ValueError.__new__"),some (.bool true)])⟩
noncomputable def zCz:=tu []
noncomputable def zCy:=tu [(.str "thing" 299)]
noncomputable def zCx:=tu []
noncomputable def zAy:=co [(.str "is_whole" 296),(.str "is_whole" 297),(.str "/claim/cut.py" 298),j 18,j 1,j 0,j 0,j 3,(.ref 95),(.bool true),j 181,(.ref 96),.none,(.ref 97),(.ref 98),(.ref 99),j 300,j 18,(.str "/claim/cut.py" 301)]
noncomputable def zAx:=fu (mkF (st 9 none) "is_whole" 3 [] .none .none .none (.str "stickmarks.seats" 294) none (.ref 100) .none 0)
noncomputable def zAw:=tu []
noncomputable def zAv:=tu [(.str "self" 318)]
noncomputable def zAu:=tu []
noncomputable def zAt:=co [(.str "__init__" 315),(.str "Row.__init__" 316),(.str "/claim/cut.py" 317),j 22,j 1,j 0,j 0,j 3,(.ref 109),(.bool true),j 181,(.ref 110),.none,(.ref 111),(.ref 112),(.ref 113),j 319,j 22,(.str "/claim/cut.py" 320)]
noncomputable def zAs:=fu (mkF (st 10 (some 0)) "Row.__init__" 3 [] .none .none .none (.str "stickmarks.seats" 294) none (.ref 114) .none 0)
noncomputable def zAr:=tu []
noncomputable def zAq:=tu [(.str "self" 325),(.str "seat" 326)]
noncomputable def zAp:=tu []
noncomputable def zAo:=co [(.str "need_seat" 322),(.str "Row.need_seat" 323),(.str "/claim/cut.py" 324),j 26,j 2,j 0,j 0,j 3,(.ref 116),(.bool true),j 181,(.ref 117),.none,(.ref 118),(.ref 119),(.ref 120),j 327,j 26,(.str "/claim/cut.py" 328)]
noncomputable def zAn:=fu (mkF (st 10 (some 1)) "Row.need_seat" 3 [] .none .none .none (.str "stickmarks.seats" 294) none (.ref 121) .none 0)
noncomputable def zAm:=tu []
noncomputable def zAl:=tu [(.str "self" 333),(.str "behind" 334),(.str "at" 335),(.str "seat" 336)]
noncomputable def zAk:=tu []
noncomputable def zAj:=co [(.str "add" 330),(.str "Row.add" 331),(.str "/claim/cut.py" 332),j 30,j 2,j 0,j 0,j 3,(.ref 123),(.bool true),j 181,(.ref 124),.none,(.ref 125),(.ref 126),(.ref 127),j 337,j 30,(.str "/claim/cut.py" 338)]
noncomputable def zAi:=fu (mkF (st 10 (some 2)) "Row.add" 3 [] .none .none .none (.str "stickmarks.seats" 294) none (.ref 128) .none 0)
noncomputable def zAh:=tu []
noncomputable def zAg:=tu [(.str "self" 343),(.str "seat" 344),(.str "is_taken" 345)]
noncomputable def zAf:=tu []
noncomputable def zAe:=co [(.str "take" 340),(.str "Row.take" 341),(.str "/claim/cut.py" 342),j 40,j 3,j 0,j 0,j 3,(.ref 130),(.bool true),j 181,(.ref 131),.none,(.ref 132),(.ref 133),(.ref 134),j 346,j 40,(.str "/claim/cut.py" 347)]
noncomputable def zAd:=fu (mkF (st 10 (some 3)) "Row.take" 3 [] .none .none .none (.str "stickmarks.seats" 294) none (.ref 135) .none 0)
noncomputable def zAc:=tu []
noncomputable def zAb:=tu [(.str "self" 352),(.str "seat" 353)]
noncomputable def zAa:=tu []
noncomputable def zA9:=co [(.str "is_taken" 349),(.str "Row.is_taken" 350),(.str "/claim/cut.py" 351),j 44,j 2,j 0,j 0,j 3,(.ref 137),(.bool true),j 181,(.ref 138),.none,(.ref 139),(.ref 140),(.ref 141),j 354,j 44,(.str "/claim/cut.py" 355)]
noncomputable def zA8:=fu (mkF (st 10 (some 4)) "Row.is_taken" 3 [] .none .none .none (.str "stickmarks.seats" 294) none (.ref 142) .none 0)
noncomputable def zA7:=tu []
noncomputable def zA6:=tu [(.str "self" 360)]
noncomputable def zA5:=tu []
noncomputable def zA4:=co [(.str "many" 357),(.str "Row.many" 358),(.str "/claim/cut.py" 359),j 48,j 1,j 0,j 0,j 3,(.ref 144),(.bool true),j 181,(.ref 145),.none,(.ref 146),(.ref 147),(.ref 148),j 361,j 48,(.str "/claim/cut.py" 362)]
noncomputable def zA3:=fu (mkF (st 10 (some 5)) "Row.many" 3 [] .none .none .none (.str "stickmarks.seats" 294) none (.ref 149) .none 0)
noncomputable def zA2:=tu []
noncomputable def zA1:=tu [(.str "self" 367)]
noncomputable def zA0:=tu []
noncomputable def z9z:=co [(.str "all_taken" 364),(.str "Row.all_taken" 365),(.str "/claim/cut.py" 366),j 51,j 1,j 0,j 0,j 3,(.ref 151),(.bool true),j 181,(.ref 152),.none,(.ref 153),(.ref 154),(.ref 155),j 368,j 51,(.str "/claim/cut.py" 369)]
noncomputable def z9y:=fu (mkF (st 10 (some 6)) "Row.all_taken" 3 [] .none .none .none (.str "stickmarks.seats" 294) none (.ref 156) .none 0)
noncomputable def z9x:=tu []
noncomputable def z9w:=co [(.str "ahead" 371),(.str "Row.ahead" 372),(.str "/claim/cut.py" 373),j 54,j 2,j 0,j 0,j 3,(.ref 158),(.bool true),j 181,(.ref 159),.none,.none,.none,(.ref 160),j 374,j 54,(.str "/claim/cut.py" 375)]
noncomputable def z9v:=fu (mkF (st 10 (some 7)) "Row.ahead" 3 [] .none .none .none (.str "stickmarks.seats" 294) none (.ref 161) .none 0)
noncomputable def z9u:=tu []
noncomputable def z9t:=co [(.str "find" 377),(.str "Row.find" 378),(.str "/claim/cut.py" 379),j 59,j 2,j 0,j 0,j 3,(.ref 163),(.bool true),j 181,(.ref 164),.none,.none,.none,(.ref 165),j 380,j 59,(.str "/claim/cut.py" 381)]
noncomputable def z9s:=fu (mkF (st 10 (some 8)) "Row.find" 3 [] .none .none .none (.str "stickmarks.seats" 294) none (.ref 166) .none 0)
noncomputable def z9r:=tu []
noncomputable def z9q:=tu [(.str "self" 386),(.str "one" 387),(.str "other" 388)]
noncomputable def z9p:=tu []
noncomputable def z9o:=co [(.str "is_ahead" 383),(.str "Row.is_ahead" 384),(.str "/claim/cut.py" 385),j 65,j 3,j 0,j 0,j 3,(.ref 168),(.bool true),j 181,(.ref 169),.none,(.ref 170),(.ref 171),(.ref 172),j 389,j 65,(.str "/claim/cut.py" 390)]
noncomputable def z9n:=fu (mkF (st 10 (some 9)) "Row.is_ahead" 3 [] .none .none .none (.str "stickmarks.seats" 294) none (.ref 173) .none 0)
noncomputable def z9m:=tu []
noncomputable def z9l:=tu [(.str "self" 395)]
noncomputable def z9k:=tu []
noncomputable def z9j:=co [(.str "order" 392),(.str "Row.order" 393),(.str "/claim/cut.py" 394),j 70,j 1,j 0,j 0,j 3,(.ref 175),(.bool true),j 181,(.ref 176),.none,(.ref 177),(.ref 178),(.ref 179),j 396,j 70,(.str "/claim/cut.py" 397)]
noncomputable def z9i:=fu (mkF (st 10 (some 10)) "Row.order" 3 [] .none .none .none (.str "stickmarks.seats" 294) none (.ref 180) .none 0)
noncomputable def z9h:=tu [(.str "flags" 399),(.str "line" 400)]
noncomputable def z9g (P:Params):Obj:=⟨(.type "dict"),none,(.dict (List.toArray [dk P "__module__" 310 (.str "stickmarks.seats" 294),dk P "__firstlineno__" 314 (.int (20) 313),dk P "__init__" 321 (.ref 115),dk P "need_seat" 329 (.ref 122),dk P "add" 339 (.ref 129),dk P "take" 348 (.ref 136),dk P "is_taken" 356 (.ref 143),dk P "many" 363 (.ref 150),dk P "all_taken" 370 (.ref 157),dk P "ahead" 376 (.ref 162),dk P "find" 382 (.ref 167),dk P "is_ahead" 391 (.ref 174),dk P "order" 398 (.ref 181),dk P "__static_attributes__" 401 (.ref 182),dk P "__dict__" 403 (.ref 185),dk P "__weakref__" 405 (.ref 186),dk P "__doc__" 406 .none]) 4),(Array.mk [])⟩
noncomputable def z9f:Obj:=⟨(.type "type"),none,(.cls ⟨"Row",[(.type "object")],[(.ref 184),(.type "object")],183, "Row",true,[],[],false,none,false⟩),(Array.mk [none,none,some (.str "Row" 303),some (.str "Row" 311),some (.builtin "object.__new__"),some (.bool true)])⟩
noncomputable def z9e:Obj:=⟨(.type "getset_descriptor"),none,(.fields (Array.mk [(.str "__dict__" 402),(.ref 184),(.builtin "function.__dict__"),(.builtin "function.__dict__#set")])),(Array.mk [])⟩
noncomputable def z9d:Obj:=⟨(.type "getset_descriptor"),none,(.fields (Array.mk [(.str "__weakref__" 404),(.ref 184),(.builtin "ExceptionGroup.__weakref__"),.none])),(Array.mk [])⟩
noncomputable def z9c:=tu []
noncomputable def z9b:=co [(.str "is_text" 415),(.str "is_text" 416),(.str "/claim/cut.py" 417),j 75,j 1,j 0,j 0,j 3,(.ref 189),(.bool true),j 181,(.ref 190),.none,.none,.none,(.ref 191),j 418,j 75,(.str "/claim/cut.py" 419)]
noncomputable def z9a:=fu (mkF (st 14 none) "is_text" 3 [] .none .none .none (.str "stickmarks.sheet" 409) none (.ref 192) .none 0)
noncomputable def z99:=tu []
noncomputable def z98:=tu [(.str "self" 436),(.str "text" 437),(.str "hands" 438)]
noncomputable def z97:=tu []
noncomputable def z96:=co [(.str "__init__" 433),(.str "Sheet.__init__" 434),(.str "/claim/cut.py" 435),j 79,j 3,j 0,j 0,j 3,(.ref 201),(.bool true),j 181,(.ref 202),.none,(.ref 203),(.ref 204),(.ref 205),j 439,j 79,(.str "/claim/cut.py" 440)]
noncomputable def z95:=fu (mkF (st 15 (some 0)) "Sheet.__init__" 3 [] .none .none .none (.str "stickmarks.sheet" 409) none (.ref 206) .none 0)
noncomputable def z94:=tu []
noncomputable def z93:=tu [(.str "self" 445),(.str "text" 446),(.str "behind" 447),(.str "deed" 448),(.str "found" 449),(.str "letter" 450)]
noncomputable def z92:=tu []
noncomputable def z91:=co [(.str "bring" 442),(.str "Sheet.bring" 443),(.str "/claim/cut.py" 444),j 97,j 4,j 0,j 0,j 3,(.ref 208),(.bool true),j 181,(.ref 209),.none,(.ref 210),(.ref 211),(.ref 212),j 451,j 97,(.str "/claim/cut.py" 452)]
noncomputable def z90:=fu (mkF (st 15 (some 1)) "Sheet.bring" 3 [] .none .none .none (.str "stickmarks.sheet" 409) none (.ref 213) .none 0)
noncomputable def z8z:=tu []
noncomputable def z8y:=tu [(.str "self" 457),(.str "hand" 458)]
noncomputable def z8x:=tu []
noncomputable def z8w:=co [(.str "need_hand" 454),(.str "Sheet.need_hand" 455),(.str "/claim/cut.py" 456),j 111,j 2,j 0,j 0,j 3,(.ref 215),(.bool true),j 181,(.ref 216),.none,(.ref 217),(.ref 218),(.ref 219),j 459,j 111,(.str "/claim/cut.py" 460)]
noncomputable def z8v:=fu (mkF (st 15 (some 2)) "Sheet.need_hand" 3 [] .none .none .none (.str "stickmarks.sheet" 409) none (.ref 220) .none 0)
noncomputable def z8u:=tu []
noncomputable def z8t:=tu [(.str "self" 465),(.str "sign" 466)]
noncomputable def z8s:=tu []
noncomputable def z8r:=co [(.str "need_sign" 462),(.str "Sheet.need_sign" 463),(.str "/claim/cut.py" 464),j 115,j 2,j 0,j 0,j 3,(.ref 222),(.bool true),j 181,(.ref 223),.none,(.ref 224),(.ref 225),(.ref 226),j 467,j 115,(.str "/claim/cut.py" 468)]
noncomputable def z8q:=fu (mkF (st 15 (some 3)) "Sheet.need_sign" 3 [] .none .none .none (.str "stickmarks.sheet" 409) none (.ref 227) .none 0)
noncomputable def z8p:=tu []
noncomputable def z8o:=tu [(.str "self" 473),(.str "place" 474)]
noncomputable def z8n:=tu []
noncomputable def z8m:=co [(.str "need_place" 470),(.str "Sheet.need_place" 471),(.str "/claim/cut.py" 472),j 119,j 2,j 0,j 0,j 3,(.ref 229),(.bool true),j 181,(.ref 230),.none,(.ref 231),(.ref 232),(.ref 233),j 475,j 119,(.str "/claim/cut.py" 476)]
noncomputable def z8l:=fu (mkF (st 15 (some 4)) "Sheet.need_place" 3 [] .none .none .none (.str "stickmarks.sheet" 409) none (.ref 234) .none 0)
noncomputable def z8k:=tu []
noncomputable def z8j:=tu [(.str "self" 481),(.str "begin" 482),(.str "end" 483)]
noncomputable def z8i:=tu []
noncomputable def z8h:=co [(.str "need_stretch" 478),(.str "Sheet.need_stretch" 479),(.str "/claim/cut.py" 480),j 123,j 3,j 0,j 0,j 3,(.ref 236),(.bool true),j 181,(.ref 237),.none,(.ref 238),(.ref 239),(.ref 240),j 484,j 123,(.str "/claim/cut.py" 485)]
noncomputable def z8g:=fu (mkF (st 15 (some 5)) "Sheet.need_stretch" 3 [] .none .none .none (.str "stickmarks.sheet" 409) none (.ref 241) .none 0)
noncomputable def z8f:=tu []
noncomputable def z8e:=tu [(.str "self" 490),(.str "number" 491)]
noncomputable def z8d:=tu []
noncomputable def z8c:=co [(.str "need_deed" 487),(.str "Sheet.need_deed" 488),(.str "/claim/cut.py" 489),j 129,j 2,j 0,j 0,j 3,(.ref 243),(.bool true),j 181,(.ref 244),.none,(.ref 245),(.ref 246),(.ref 247),j 492,j 129,(.str "/claim/cut.py" 493)]
noncomputable def z8b:=fu (mkF (st 15 (some 6)) "Sheet.need_deed" 3 [] .none .none .none (.str "stickmarks.sheet" 409) none (.ref 248) .none 0)
noncomputable def z8a:=tu []
noncomputable def z89:=tu [(.str "self" 498),(.str "sign" 499),(.str "seat" 500),(.str "deed" 501),(.str "other" 502)]
noncomputable def z88:=tu []
noncomputable def z87:=co [(.str "seat_of" 495),(.str "Sheet.seat_of" 496),(.str "/claim/cut.py" 497),j 133,j 2,j 0,j 0,j 3,(.ref 250),(.bool true),j 181,(.ref 251),.none,(.ref 252),(.ref 253),(.ref 254),j 503,j 133,(.str "/claim/cut.py" 504)]
noncomputable def z86:=fu (mkF (st 15 (some 7)) "Sheet.seat_of" 3 [] .none .none .none (.str "stickmarks.sheet" 409) none (.ref 255) .none 0)
noncomputable def z85:=tu []
noncomputable def z84:=co [(.str "is_shown" 506),(.str "Sheet.is_shown" 507),(.str "/claim/cut.py" 508),j 140,j 2,j 0,j 0,j 3,(.ref 257),(.bool true),j 181,(.ref 258),.none,.none,.none,(.ref 259),j 509,j 140,(.str "/claim/cut.py" 510)]
noncomputable def z83:=fu (mkF (st 15 (some 8)) "Sheet.is_shown" 3 [] .none .none .none (.str "stickmarks.sheet" 409) none (.ref 260) .none 0)
noncomputable def z82:=tu []
noncomputable def z81:=tu [(.str "self" 515),(.str "signs" 516),(.str "sign" 517),(.str "deed" 518),(.str "seat" 519)]
noncomputable def z80:=tu []
noncomputable def z7z:=co [(.str "seated" 512),(.str "Sheet.seated" 513),(.str "/claim/cut.py" 514),j 146,j 2,j 0,j 0,j 3,(.ref 262),(.bool true),j 181,(.ref 263),.none,(.ref 264),(.ref 265),(.ref 266),j 520,j 146,(.str "/claim/cut.py" 521)]
noncomputable def z7y:=fu (mkF (st 15 (some 9)) "Sheet.seated" 3 [] .none .none .none (.str "stickmarks.sheet" 409) none (.ref 267) .none 0)
noncomputable def z7x:=tu []
noncomputable def z7w:=tu [(.str "self" 526)]
noncomputable def z7v:=tu []
noncomputable def z7u:=co [(.str "size" 523),(.str "Sheet.size" 524),(.str "/claim/cut.py" 525),j 154,j 1,j 0,j 0,j 3,(.ref 269),(.bool true),j 181,(.ref 270),.none,(.ref 271),(.ref 272),(.ref 273),j 527,j 154,(.str "/claim/cut.py" 528)]
noncomputable def z7t:=fu (mkF (st 15 (some 10)) "Sheet.size" 3 [] .none .none .none (.str "stickmarks.sheet" 409) none (.ref 274) .none 0)
noncomputable def z7s:=tu []
noncomputable def z7r:=co [(.str "shown" 530),(.str "Sheet.shown" 531),(.str "/claim/cut.py" 532),j 157,j 1,j 0,j 0,j 3,(.ref 276),(.bool true),j 181,(.ref 277),.none,.none,.none,(.ref 278),j 533,j 157,(.str "/claim/cut.py" 534)]
noncomputable def z7q:=fu (mkF (st 15 (some 11)) "Sheet.shown" 3 [] .none .none .none (.str "stickmarks.sheet" 409) none (.ref 279) .none 0)
noncomputable def z7p:=tu []
noncomputable def z7o:=co [(.str "text" 536),(.str "Sheet.text" 537),(.str "/claim/cut.py" 538),j 160,j 1,j 0,j 0,j 3,(.ref 281),(.bool true),j 181,(.ref 282),.none,.none,.none,(.ref 283),j 539,j 160,(.str "/claim/cut.py" 540)]
noncomputable def z7n:=fu (mkF (st 15 (some 12)) "Sheet.text" 3 [] .none .none .none (.str "stickmarks.sheet" 409) none (.ref 284) .none 0)
noncomputable def z7m:=tu []
noncomputable def z7l:=tu [(.str "self" 545)]
noncomputable def z7k:=tu []
noncomputable def z7j:=co [(.str "many" 542),(.str "Sheet.many" 543),(.str "/claim/cut.py" 544),j 163,j 1,j 0,j 0,j 3,(.ref 286),(.bool true),j 181,(.ref 287),.none,(.ref 288),(.ref 289),(.ref 290),j 546,j 163,(.str "/claim/cut.py" 547)]
noncomputable def z7i:=fu (mkF (st 15 (some 13)) "Sheet.many" 3 [] .none .none .none (.str "stickmarks.sheet" 409) none (.ref 291) .none 0)
noncomputable def z7h:=tu []
noncomputable def z7g:=tu [(.str "self" 552),(.str "sign" 553)]
noncomputable def z7f:=tu []
noncomputable def z7e:=co [(.str "letter" 549),(.str "Sheet.letter" 550),(.str "/claim/cut.py" 551),j 166,j 2,j 0,j 0,j 3,(.ref 293),(.bool true),j 181,(.ref 294),.none,(.ref 295),(.ref 296),(.ref 297),j 554,j 166,(.str "/claim/cut.py" 555)]
noncomputable def z7d:=fu (mkF (st 15 (some 14)) "Sheet.letter" 3 [] .none .none .none (.str "stickmarks.sheet" 409) none (.ref 298) .none 0)
noncomputable def z7c:=tu []
noncomputable def z7b:=tu [(.str "self" 560),(.str "place" 561)]
noncomputable def z7a:=tu []
noncomputable def z79:=co [(.str "sign_at" 557),(.str "Sheet.sign_at" 558),(.str "/claim/cut.py" 559),j 170,j 2,j 0,j 0,j 3,(.ref 300),(.bool true),j 181,(.ref 301),.none,(.ref 302),(.ref 303),(.ref 304),j 562,j 170,(.str "/claim/cut.py" 563)]
noncomputable def z78:=fu (mkF (st 15 (some 15)) "Sheet.sign_at" 3 [] .none .none .none (.str "stickmarks.sheet" 409) none (.ref 305) .none 0)
noncomputable def z77:=tu []
noncomputable def z76:=tu [(.str "self" 568),(.str "sign" 569)]
noncomputable def z75:=tu []
noncomputable def z74:=co [(.str "place_of" 565),(.str "Sheet.place_of" 566),(.str "/claim/cut.py" 567),j 173,j 2,j 0,j 0,j 3,(.ref 307),(.bool true),j 181,(.ref 308),.none,(.ref 309),(.ref 310),(.ref 311),j 570,j 173,(.str "/claim/cut.py" 571)]
noncomputable def z73:=fu (mkF (st 15 (some 16)) "Sheet.place_of" 3 [] .none .none .none (.str "stickmarks.sheet" 409) none (.ref 312) .none 0)
noncomputable def z72:=tu []
noncomputable def z71:=tu [(.str "self" 576),(.str "one" 577),(.str "other" 578)]
noncomputable def z70:=tu []
noncomputable def z6z:=co [(.str "is_ahead" 573),(.str "Sheet.is_ahead" 574),(.str "/claim/cut.py" 575),j 177,j 3,j 0,j 0,j 3,(.ref 314),(.bool true),j 181,(.ref 315),.none,(.ref 316),(.ref 317),(.ref 318),j 579,j 177,(.str "/claim/cut.py" 580)]
noncomputable def z6y:=fu (mkF (st 15 (some 17)) "Sheet.is_ahead" 3 [] .none .none .none (.str "stickmarks.sheet" 409) none (.ref 319) .none 0)
noncomputable def z6x:=tu []
noncomputable def z6w:=tu [(.str "self" 585),(.str "sign" 586)]
noncomputable def z6v:=tu []
noncomputable def z6u:=co [(.str "rank_of" 582),(.str "Sheet.rank_of" 583),(.str "/claim/cut.py" 584),j 182,j 2,j 0,j 0,j 3,(.ref 321),(.bool true),j 181,(.ref 322),.none,(.ref 323),(.ref 324),(.ref 325),j 587,j 182,(.str "/claim/cut.py" 588)]
noncomputable def z6t:=fu (mkF (st 15 (some 18)) "Sheet.rank_of" 3 [] .none .none .none (.str "stickmarks.sheet" 409) none (.ref 326) .none 0)
noncomputable def z6s:=tu []
noncomputable def z6r:=tu [(.str "self" 593),(.str "place" 594)]
noncomputable def z6q:=tu []
noncomputable def z6p:=co [(.str "seat_ahead" 590),(.str "Sheet.seat_ahead" 591),(.str "/claim/cut.py" 592),j 185,j 2,j 0,j 0,j 3,(.ref 328),(.bool true),j 181,(.ref 329),.none,(.ref 330),(.ref 331),(.ref 332),j 595,j 185,(.str "/claim/cut.py" 596)]
noncomputable def z6o:=fu (mkF (st 15 (some 19)) "Sheet.seat_ahead" 3 [] .none .none .none (.str "stickmarks.sheet" 409) none (.ref 333) .none 0)
noncomputable def z6n:=tu []
noncomputable def z6m:=tu [(.str "self" 601),(.str "hand" 602),(.str "word" 603),(.str "signs" 604)]
noncomputable def z6l:=tu []
noncomputable def z6k:=co [(.str "noted" 598),(.str "Sheet.noted" 599),(.str "/claim/cut.py" 600),j 190,j 4,j 0,j 0,j 3,(.ref 335),(.bool true),j 181,(.ref 336),.none,(.ref 337),(.ref 338),(.ref 339),j 605,j 190,(.str "/claim/cut.py" 606)]
noncomputable def z6j:=fu (mkF (st 15 (some 20)) "Sheet.noted" 3 [] .none .none .none (.str "stickmarks.sheet" 409) none (.ref 340) .none 0)
noncomputable def z6i:=tu []
noncomputable def z6h:=tu [(.str "self" 611),(.str "hand" 612),(.str "place" 613),(.str "text" 614)]
noncomputable def z6g:=tu []
noncomputable def z6f:=co [(.str "put" 608),(.str "Sheet.put" 609),(.str "/claim/cut.py" 610),j 195,j 4,j 0,j 0,j 3,(.ref 342),(.bool true),j 181,(.ref 343),.none,(.ref 344),(.ref 345),(.ref 346),j 615,j 195,(.str "/claim/cut.py" 616)]
noncomputable def z6e:=fu (mkF (st 15 (some 21)) "Sheet.put" 3 [] .none .none .none (.str "stickmarks.sheet" 409) none (.ref 347) .none 0)
noncomputable def z6d:=tu []
noncomputable def z6c:=tu [(.str "self" 621),(.str "hand" 622),(.str "begin" 623),(.str "end" 624),(.str "signs" 625),(.str "sign" 626)]
noncomputable def z6b:=tu []
noncomputable def z6a:=co [(.str "cut" 618),(.str "Sheet.cut" 619),(.str "/claim/cut.py" 620),j 203,j 4,j 0,j 0,j 3,(.ref 349),(.bool true),j 181,(.ref 350),.none,(.ref 351),(.ref 352),(.ref 353),j 627,j 203,(.str "/claim/cut.py" 628)]
noncomputable def z69:=fu (mkF (st 15 (some 22)) "Sheet.cut" 3 [] .none .none .none (.str "stickmarks.sheet" 409) none (.ref 354) .none 0)
noncomputable def z68:=tu []
noncomputable def z67:=tu [(.str "self" 633),(.str "hand" 634),(.str "begin" 635),(.str "end" 636),(.str "place" 637),(.str "signs" 638),(.str "behind" 639),(.str "sign" 640)]
noncomputable def z66:=tu []
noncomputable def z65:=co [(.str "move" 630),(.str "Sheet.move" 631),(.str "/claim/cut.py" 632),j 212,j 5,j 0,j 0,j 3,(.ref 356),(.bool true),j 181,(.ref 357),.none,(.ref 358),(.ref 359),(.ref 360),j 641,j 212,(.str "/claim/cut.py" 642)]
noncomputable def z64:=fu (mkF (st 15 (some 23)) "Sheet.move" 3 [] .none .none .none (.str "stickmarks.sheet" 409) none (.ref 361) .none 0)
noncomputable def z63:=tu []
noncomputable def z62:=tu [(.str "self" 647)]
noncomputable def z61:=tu []
noncomputable def z60:=co [(.str "deeds" 644),(.str "Sheet.deeds" 645),(.str "/claim/cut.py" 646),j 227,j 1,j 0,j 0,j 3,(.ref 363),(.bool true),j 181,(.ref 364),.none,(.ref 365),(.ref 366),(.ref 367),j 648,j 227,(.str "/claim/cut.py" 649)]
noncomputable def z5z:=fu (mkF (st 15 (some 24)) "Sheet.deeds" 3 [] .none .none .none (.str "stickmarks.sheet" 409) none (.ref 368) .none 0)
noncomputable def z5y:=tu []
noncomputable def z5x:=tu [(.str "self" 654),(.str "number" 655),(.str "hand" 656),(.str "word" 657),(.str "signs" 658)]
noncomputable def z5w:=tu []
noncomputable def z5v:=co [(.str "deed" 651),(.str "Sheet.deed" 652),(.str "/claim/cut.py" 653),j 230,j 2,j 0,j 0,j 3,(.ref 370),(.bool true),j 181,(.ref 371),.none,(.ref 372),(.ref 373),(.ref 374),j 659,j 230,(.str "/claim/cut.py" 660)]
noncomputable def z5u:=fu (mkF (st 15 (some 25)) "Sheet.deed" 3 [] .none .none .none (.str "stickmarks.sheet" 409) none (.ref 375) .none 0)
noncomputable def z5t:=tu []
noncomputable def z5s:=tu [(.str "self" 665),(.str "number" 666)]
noncomputable def z5r:=tu []
noncomputable def z5q:=co [(.str "stands" 662),(.str "Sheet.stands" 663),(.str "/claim/cut.py" 664),j 235,j 2,j 0,j 0,j 3,(.ref 377),(.bool true),j 181,(.ref 378),.none,(.ref 379),(.ref 380),(.ref 381),j 667,j 235,(.str "/claim/cut.py" 668)]
noncomputable def z5p:=fu (mkF (st 15 (some 26)) "Sheet.stands" 3 [] .none .none .none (.str "stickmarks.sheet" 409) none (.ref 382) .none 0)
noncomputable def z5o:=tu []
noncomputable def z5n:=tu [(.str "self" 673),(.str "number" 674)]
noncomputable def z5m:=tu []
noncomputable def z5l:=co [(.str "take_back" 670),(.str "Sheet.take_back" 671),(.str "/claim/cut.py" 672),j 239,j 2,j 0,j 0,j 3,(.ref 384),(.bool true),j 181,(.ref 385),.none,(.ref 386),(.ref 387),(.ref 388),j 675,j 239,(.str "/claim/cut.py" 676)]
noncomputable def z5k:=fu (mkF (st 15 (some 27)) "Sheet.take_back" 3 [] .none .none .none (.str "stickmarks.sheet" 409) none (.ref 389) .none 0)
noncomputable def z5j:=tu []
noncomputable def z5i:=tu [(.str "self" 681),(.str "number" 682)]
noncomputable def z5h:=tu []
noncomputable def z5g:=co [(.str "do_again" 678),(.str "Sheet.do_again" 679),(.str "/claim/cut.py" 680),j 246,j 2,j 0,j 0,j 3,(.ref 391),(.bool true),j 181,(.ref 392),.none,(.ref 393),(.ref 394),(.ref 395),j 683,j 246,(.str "/claim/cut.py" 684)]
noncomputable def z5f:=fu (mkF (st 15 (some 28)) "Sheet.do_again" 3 [] .none .none .none (.str "stickmarks.sheet" 409) none (.ref 396) .none 0)
noncomputable def z5e:=tu []
noncomputable def z5d:=tu [(.str "self" 689),(.str "hand" 690),(.str "found" 691),(.str "number" 692)]
noncomputable def z5c:=tu []
noncomputable def z5b:=co [(.str "last_standing" 686),(.str "Sheet.last_standing" 687),(.str "/claim/cut.py" 688),j 253,j 2,j 0,j 0,j 3,(.ref 398),(.bool true),j 181,(.ref 399),.none,(.ref 400),(.ref 401),(.ref 402),j 693,j 253,(.str "/claim/cut.py" 694)]
noncomputable def z5a:=fu (mkF (st 15 (some 29)) "Sheet.last_standing" 3 [] .none .none .none (.str "stickmarks.sheet" 409) none (.ref 403) .none 0)
noncomputable def z59:=tu []
noncomputable def z58:=tu [(.str "self" 699),(.str "hand" 700),(.str "found" 701),(.str "number" 702)]
noncomputable def z57:=tu []
noncomputable def z56:=co [(.str "last_gone" 696),(.str "Sheet.last_gone" 697),(.str "/claim/cut.py" 698),j 261,j 2,j 0,j 0,j 3,(.ref 405),(.bool true),j 181,(.ref 406),.none,(.ref 407),(.ref 408),(.ref 409),j 703,j 261,(.str "/claim/cut.py" 704)]
noncomputable def z55:=fu (mkF (st 15 (some 30)) "Sheet.last_gone" 3 [] .none .none .none (.str "stickmarks.sheet" 409) none (.ref 410) .none 0)
noncomputable def z54:=tu [(.str "bringers" 706),(.str "cutters" 707),(.str "done" 708),(.str "firsts" 709),(.str "hands" 710),(.str "letters" 711),(.str "lost" 712),(.str "moved" 713),(.str "owners" 714),(.str "row" 715),(.str "standing" 716)]
noncomputable def z53 (P:Params):Obj:=⟨(.type "dict"),none,(.dict (List.toArray [dk P "__module__" 428 (.str "stickmarks.sheet" 409),dk P "__firstlineno__" 432 (.int (77) 431),dk P "__init__" 441 (.ref 207),dk P "bring" 453 (.ref 214),dk P "need_hand" 461 (.ref 221),dk P "need_sign" 469 (.ref 228),dk P "need_place" 477 (.ref 235),dk P "need_stretch" 486 (.ref 242),dk P "need_deed" 494 (.ref 249),dk P "seat_of" 505 (.ref 256),dk P "is_shown" 511 (.ref 261),dk P "seated" 522 (.ref 268),dk P "size" 529 (.ref 275),dk P "shown" 535 (.ref 280),dk P "text" 541 (.ref 285),dk P "many" 548 (.ref 292),dk P "letter" 556 (.ref 299),dk P "sign_at" 564 (.ref 306),dk P "place_of" 572 (.ref 313),dk P "is_ahead" 581 (.ref 320),dk P "rank_of" 589 (.ref 327),dk P "seat_ahead" 597 (.ref 334),dk P "noted" 607 (.ref 341),dk P "put" 617 (.ref 348),dk P "cut" 629 (.ref 355),dk P "move" 643 (.ref 362),dk P "deeds" 650 (.ref 369),dk P "deed" 661 (.ref 376),dk P "stands" 669 (.ref 383),dk P "take_back" 677 (.ref 390),dk P "do_again" 685 (.ref 397),dk P "last_standing" 695 (.ref 404),dk P "last_gone" 705 (.ref 411),dk P "__static_attributes__" 717 (.ref 412),dk P "__dict__" 719 (.ref 415),dk P "__weakref__" 721 (.ref 416),dk P "__doc__" 722 .none]) 4),(Array.mk [])⟩
noncomputable def z52:Obj:=⟨(.type "type"),none,(.cls ⟨"Sheet",[(.type "object")],[(.ref 414),(.type "object")],413, "Sheet",true,[],[],false,none,false⟩),(Array.mk [none,none,some (.str "Sheet" 421),some (.str "Sheet" 429),some (.builtin "object.__new__"),some (.bool true)])⟩
noncomputable def z51:Obj:=⟨(.type "getset_descriptor"),none,(.fields (Array.mk [(.str "__dict__" 718),(.ref 414),(.builtin "function.__dict__"),(.builtin "function.__dict__#set")])),(Array.mk [])⟩
noncomputable def z50:Obj:=⟨(.type "getset_descriptor"),none,(.fields (Array.mk [(.str "__weakref__" 720),(.ref 414),(.builtin "ExceptionGroup.__weakref__"),.none])),(Array.mk [])⟩
noncomputable def z4z:=tu []
noncomputable def z4y:=tu [(.str "_law_script" 730),(.str "_law_k" 731)]
noncomputable def z4x:=tu []
noncomputable def z4w:=co [(.str "_law_cell_at" 727),(.str "_law_cell_at" 728),(.str "/claim/cut.py" 729),j 269,j 2,j 0,j 0,j 3,(.ref 419),(.bool true),j 181,(.ref 420),.none,(.ref 421),(.ref 422),(.ref 423),j 732,j 269,(.str "/claim/cut.py" 733)]
noncomputable def z4v:=fu (mkF (st 17 none) "_law_cell_at" 3 [] .none .none .none (.str "law_uf010039_07" 725) none (.ref 424) .none 0)
noncomputable def z4u:=tu []
noncomputable def z4t:=tu [(.str "_law_cell" 745),(.str "_law_k" 746),(.str "_law_number" 747)]
noncomputable def z4s:=tu []
noncomputable def z4r:=co [(.str "_law_mixed" 742),(.str "_law_mixed" 743),(.str "/claim/cut.py" 744),j 275,j 2,j 0,j 0,j 3,(.ref 433),(.bool true),j 181,(.ref 434),.none,(.ref 435),(.ref 436),(.ref 437),j 748,j 275,(.str "/claim/cut.py" 749)]
noncomputable def z4q:=fu (mkF (st 19 none) "_law_mixed" 3 [] .none .none .none (.str "law_uf010039_07" 725) none (.ref 438) .none 0)
noncomputable def z4p:=tu []
noncomputable def z4o:=co [(.str "_law_text_by" 751),(.str "_law_text_by" 752),(.str "/claim/cut.py" 753),j 278,j 2,j 0,j 0,j 3,(.ref 440),(.bool true),j 181,(.ref 441),.none,.none,.none,(.ref 442),j 754,j 278,(.str "/claim/cut.py" 755)]
noncomputable def z4n:=fu (mkF (st 20 none) "_law_text_by" 3 [] .none .none .none (.str "law_uf010039_07" 725) none (.ref 443) .none 0)
noncomputable def z4m:=tu []
noncomputable def z4l:=tu [(.str "_law_cell" 760)]
noncomputable def z4k:=tu []
noncomputable def z4j:=co [(.str "_law_size_by" 757),(.str "_law_size_by" 758),(.str "/claim/cut.py" 759),j 282,j 1,j 0,j 0,j 3,(.ref 445),(.bool true),j 181,(.ref 446),.none,(.ref 447),(.ref 448),(.ref 449),j 761,j 282,(.str "/claim/cut.py" 762)]
noncomputable def z4i:=fu (mkF (st 21 none) "_law_size_by" 3 [] .none .none .none (.str "law_uf010039_07" 725) none (.ref 450) .none 0)
noncomputable def z4h:=tu []
noncomputable def z4g:=co [(.str "_law_fresh" 764),(.str "_law_fresh" 765),(.str "/claim/cut.py" 766),j 286,j 2,j 0,j 0,j 3,(.ref 452),(.bool true),j 181,(.ref 453),.none,.none,.none,(.ref 454),j 767,j 286,(.str "/claim/cut.py" 768)]
noncomputable def z4f:=fu (mkF (st 22 none) "_law_fresh" 3 [] .none .none .none (.str "law_uf010039_07" 725) none (.ref 455) .none 0)
noncomputable def z4e:=tu []
noncomputable def z4d:=tu [(.str "_law_state" 773),(.str "_law_best" 774),(.str "_law_sign" 775),(.str "_law_deed_here" 776)]
noncomputable def z4c:=tu []
noncomputable def z4b:=co [(.str "_law_sits" 770),(.str "_law_sits" 771),(.str "/claim/cut.py" 772),j 290,j 1,j 0,j 0,j 3,(.ref 457),(.bool true),j 181,(.ref 458),.none,(.ref 459),(.ref 460),(.ref 461),j 777,j 290,(.str "/claim/cut.py" 778)]
noncomputable def z4a:=fu (mkF (st 23 none) "_law_sits" 3 [] .none .none .none (.str "law_uf010039_07" 725) none (.ref 462) .none 0)
noncomputable def z49:=tu []
noncomputable def z48:=co [(.str "_law_is_shown" 780),(.str "_law_is_shown" 781),(.str "/claim/cut.py" 782),j 297,j 2,j 0,j 0,j 3,(.ref 464),(.bool true),j 181,(.ref 465),.none,.none,.none,(.ref 466),j 783,j 297,(.str "/claim/cut.py" 784)]
noncomputable def z47:=fu (mkF (st 24 none) "_law_is_shown" 3 [] .none .none .none (.str "law_uf010039_07" 725) none (.ref 467) .none 0)
noncomputable def z46:=tu []
noncomputable def z45:=tu [(.str "_law_state" 789),(.str "_law_best" 790),(.str "_law_found" 791),(.str "_law_sign" 792),(.str "_law_deed_here" 793)]
noncomputable def z44:=tu []
noncomputable def z43:=co [(.str "_law_shown" 786),(.str "_law_shown" 787),(.str "/claim/cut.py" 788),j 301,j 1,j 0,j 0,j 3,(.ref 469),(.bool true),j 181,(.ref 470),.none,(.ref 471),(.ref 472),(.ref 473),j 794,j 301,(.str "/claim/cut.py" 795)]
noncomputable def z42:=fu (mkF (st 25 none) "_law_shown" 3 [] .none .none .none (.str "law_uf010039_07" 725) none (.ref 474) .none 0)
noncomputable def z41:=tu []
noncomputable def z40:=tu [(.str "_law_state" 800),(.str "_law_place_here" 801),(.str "_law_sign" 802)]
noncomputable def z3z:=tu []
noncomputable def z3y:=co [(.str "_law_at" 797),(.str "_law_at" 798),(.str "/claim/cut.py" 799),j 308,j 2,j 0,j 0,j 3,(.ref 476),(.bool true),j 181,(.ref 477),.none,(.ref 478),(.ref 479),(.ref 480),j 803,j 308,(.str "/claim/cut.py" 804)]
noncomputable def z3x:=fu (mkF (st 26 none) "_law_at" 3 [] .none .none .none (.str "law_uf010039_07" 725) none (.ref 481) .none 0)
noncomputable def z3w:=tu []
noncomputable def z3v:=co [(.str "_law_deed" 806),(.str "_law_deed" 807),(.str "/claim/cut.py" 808),j 313,j 2,j 0,j 0,j 3,(.ref 483),(.bool true),j 181,(.ref 484),.none,.none,.none,(.ref 485),j 809,j 313,(.str "/claim/cut.py" 810)]
noncomputable def z3u:=fu (mkF (st 27 none) "_law_deed" 3 [] .none .none .none (.str "law_uf010039_07" 725) none (.ref 486) .none 0)
noncomputable def z3t:=tu []
noncomputable def z3s:=tu [(.str "_law_number" 815),(.str "_law_size" 816),(.str "_law_hands" 817),(.str "_law_hand" 818),(.str "_law_kind" 819),(.str "_law_begin" 820),(.str "_law_end" 821),(.str "_law_place_here" 822)]
noncomputable def z3r:=tu []
noncomputable def z3q:=co [(.str "_law_deed_by" 812),(.str "_law_deed_by" 813),(.str "/claim/cut.py" 814),j 334,j 3,j 0,j 0,j 3,(.ref 488),(.bool true),j 181,(.ref 489),.none,(.ref 490),(.ref 491),(.ref 492),j 823,j 334,(.str "/claim/cut.py" 824)]
noncomputable def z3p:=fu (mkF (st 28 none) "_law_deed_by" 3 [] .none .none .none (.str "law_uf010039_07" 725) none (.ref 493) .none 0)
noncomputable def z3o:=tu []
noncomputable def z3n:=tu [(.str "_law_sheet" 829),(.str "_law_deed_here" 830),(.str "_law_hand" 831),(.str "_law_word" 832),(.str "_law_begin" 833),(.str "_law_end" 834),(.str "_law_place_here" 835),(.str "_law_text" 836)]
noncomputable def z3m:=tu []
noncomputable def z3l:=co [(.str "_law_do" 826),(.str "_law_do" 827),(.str "/claim/cut.py" 828),j 347,j 2,j 0,j 0,j 3,(.ref 495),(.bool true),j 181,(.ref 496),.none,(.ref 497),(.ref 498),(.ref 499),j 837,j 347,(.str "/claim/cut.py" 838)]
noncomputable def z3k:=fu (mkF (st 29 none) "_law_do" 3 [] .none .none .none (.str "law_uf010039_07" 725) none (.ref 500) .none 0)
noncomputable def z3j:=tu []
noncomputable def z3i:=co [(.str "_law_turned" 840),(.str "_law_turned" 841),(.str "/claim/cut.py" 842),j 354,j 3,j 0,j 0,j 3,(.ref 502),(.bool true),j 181,(.ref 503),.none,.none,.none,(.ref 504),j 843,j 354,(.str "/claim/cut.py" 844)]
noncomputable def z3h:=fu (mkF (st 30 none) "_law_turned" 3 [] .none .none .none (.str "law_uf010039_07" 725) none (.ref 505) .none 0)
noncomputable def z3g:=tu []
noncomputable def z3f:=co [(.str "_law_place" 846),(.str "_law_place" 847),(.str "/claim/cut.py" 848),j 361,j 2,j 0,j 0,j 3,(.ref 507),(.bool true),j 181,(.ref 508),.none,.none,.none,(.ref 509),j 849,j 361,(.str "/claim/cut.py" 850)]
noncomputable def z3e:=fu (mkF (st 31 none) "_law_place" 3 [] .none .none .none (.str "law_uf010039_07" 725) none (.ref 510) .none 0)
noncomputable def z3d:=tu []
noncomputable def z3c:=co [(.str "_law_last" 852),(.str "_law_last" 853),(.str "/claim/cut.py" 854),j 368,j 2,j 0,j 0,j 3,(.ref 512),(.bool true),j 181,(.ref 513),.none,.none,.none,(.ref 514),j 855,j 368,(.str "/claim/cut.py" 856)]
noncomputable def z3b:=fu (mkF (st 32 none) "_law_last" 3 [] .none .none .none (.str "law_uf010039_07" 725) none (.ref 515) .none 0)
noncomputable def z3a:=tu []
noncomputable def z39:=co [(.str "_law_stands" 858),(.str "_law_stands" 859),(.str "/claim/cut.py" 860),j 372,j 3,j 0,j 0,j 3,(.ref 517),(.bool true),j 181,(.ref 518),.none,.none,.none,(.ref 519),j 861,j 372,(.str "/claim/cut.py" 862)]
noncomputable def z38:=fu (mkF (st 33 none) "_law_stands" 3 [] .none .none .none (.str "law_uf010039_07" 725) none (.ref 520) .none 0)
noncomputable def z37:=tu []
noncomputable def z36:=co [(.str "law" 864),(.str "law" 865),(.str "/claim/cut.py" 866),j 397,j 1,j 0,j 0,j 3,(.ref 522),(.bool true),j 181,(.ref 523),.none,.none,.none,(.ref 524),j 867,j 397,(.str "/claim/cut.py" 868)]
noncomputable def z35:=fu (mkF (st 34 none) "law" 3 [] .none .none .none (.str "law_uf010039_07" 725) none (.ref 525) .none 0)
noncomputable def H1 (P:Params):Heap:=⟨⟨[boot_o_0 P,boot_o_1 P,boot_o_2 P,o_3 P,boot_o_4 P,boot_o_5 P,boot_o_6 P,boot_o_7 P,boot_o_8 P,boot_o_9 P,boot_o_10 P,tu [],fi [j 1,j 0,(.ref 20),j 5,j 0,(.ref 27),j 7,j 0,(.ref 40),j 9,j 0,(.ref 52),j 11,j 0,(.ref 64),j 13,j 0,(.ref 76),j 15,j 0,(.ref 88),j 18,j 0,(.ref 100),j 20,j 0,(.ref 107),j 75,j 0,(.ref 192),j 77,j 0,(.ref 199),j 269,j 0,(.ref 424),j 273,j 0,(.ref 431),j 275,j 0,(.ref 438),j 278,j 0,(.ref 443),j 282,j 0,(.ref 450),j 286,j 0,(.ref 455),j 290,j 0,(.ref 462),j 297,j 0,(.ref 467),j 301,j 0,(.ref 474),j 308,j 0,(.ref 481),j 313,j 0,(.ref 486),j 334,j 0,(.ref 493),j 347,j 0,(.ref 500),j 354,j 0,(.ref 505),j 361,j 0,(.ref 510),j 368,j 0,(.ref 515),j 372,j 0,(.ref 520),j 397,j 0,(.ref 525)],co [(.str "<module>" 182),(.str "<module>" 183),(.str "/claim/cut.py" 184),j 1,j 0,j 0,j 0,j 0,(.ref 11),(.bool false),j 181,(.ref 12),.none,.none,.none,.none,j 185,j 1,(.str "/claim/cut.py" 186)],⟨(.type "frame"),none,.plain,(Array.mk [some (.ref 13),some (.ref 3),some (.ref 3),none,some (.str "__main__" 164),none,some (.ref 0)])⟩,zDt,fi [],zDs,zDr,f0 (mkF (st 0 none) "_wall" 0 [] .none .none .none .none none .none .none 0),zDq,zDp,zDo,⟨(.type "builtin_function_or_method"),none,(.fields (Array.mk [(.builtin "type.__prepare__"),(.type "type")])),(Array.mk [])⟩,⟨(.type "dict"),none,(.dict (List.toArray [dk P "__module__" 203 (.str "stickmarks.errors" 194),dk P "__qualname__" 205 (.str "StickError" 204),dk P "__firstlineno__" 207 (.int (5) 206),dk P "__static_attributes__" 208 (.ref 29)]) 4),(Array.mk [])⟩,tu [],fi [],co [(.str "StickError" 198),(.str "StickError" 199),(.str "/claim/cut.py" 200),j 5,j 0,j 0,j 0,j 0,(.ref 25),(.bool false),j 181,(.ref 26),.none,.none,.none,.none,j 201,j 5,(.str "/claim/cut.py" 202)],⟨(.type "frame"),none,.plain,(Array.mk [some (.ref 27),some (.ref 3),some (.ref 24),none,some (.str "stickmarks.errors" 194),none,some (.ref 0)])⟩,zDn,zDm P,zDl,zDk,⟨(.type "super"),none,(.fields (Array.mk [(.ref 31),(.ref 31),(.ref 31)])),(Array.mk [])⟩,⟨(.type "builtin_function_or_method"),none,(.fields (Array.mk [(.builtin "object.__init_subclass__"),(.ref 31)])),(Array.mk [])⟩,zDj,⟨(.type "builtin_function_or_method"),none,(.fields (Array.mk [(.builtin "type.__prepare__"),(.type "type")])),(Array.mk [])⟩,⟨(.type "dict"),none,(.dict (List.toArray [dk P "__module__" 221 (.str "stickmarks.errors" 194),dk P "__qualname__" 223 (.str "BadText" 222),dk P "__firstlineno__" 225 (.int (7) 224),dk P "__static_attributes__" 226 (.ref 42)]) 4),(Array.mk [])⟩,tu [],fi [],co [(.str "BadText" 216),(.str "BadText" 217),(.str "/claim/cut.py" 218),j 7,j 0,j 0,j 0,j 0,(.ref 38),(.bool false),j 181,(.ref 39),.none,.none,.none,.none,j 219,j 7,(.str "/claim/cut.py" 220)],⟨(.type "frame"),none,.plain,(Array.mk [some (.ref 40),some (.ref 3),some (.ref 37),none,some (.str "stickmarks.errors" 194),none,some (.ref 0)])⟩,zDi,zDh P,zDg,⟨(.type "super"),none,(.fields (Array.mk [(.ref 44),(.ref 44),(.ref 44)])),(Array.mk [])⟩,⟨(.type "builtin_function_or_method"),none,(.fields (Array.mk [(.builtin "object.__init_subclass__"),(.ref 44)])),(Array.mk [])⟩,zDf,⟨(.type "builtin_function_or_method"),none,(.fields (Array.mk [(.builtin "type.__prepare__"),(.type "type")])),(Array.mk [])⟩,⟨(.type "dict"),none,(.dict (List.toArray [dk P "__module__" 237 (.str "stickmarks.errors" 194),dk P "__qualname__" 239 (.str "NoPlace" 238),dk P "__firstlineno__" 241 (.int (9) 240),dk P "__static_attributes__" 242 (.ref 54)]) 4),(Array.mk [])⟩,tu [],fi [],co [(.str "NoPlace" 232),(.str "NoPlace" 233),(.str "/claim/cut.py" 234),j 9,j 0,j 0,j 0,j 0,(.ref 50),(.bool false),j 181,(.ref 51),.none,.none,.none,.none,j 235,j 9,(.str "/claim/cut.py" 236)],⟨(.type "frame"),none,.plain,(Array.mk [some (.ref 52),some (.ref 3),some (.ref 49),none,some (.str "stickmarks.errors" 194),none,some (.ref 0)])⟩,zDe,zDd P,zDc,⟨(.type "super"),none,(.fields (Array.mk [(.ref 56),(.ref 56),(.ref 56)])),(Array.mk [])⟩,⟨(.type "builtin_function_or_method"),none,(.fields (Array.mk [(.builtin "object.__init_subclass__"),(.ref 56)])),(Array.mk [])⟩,zDb,⟨(.type "builtin_function_or_method"),none,(.fields (Array.mk [(.builtin "type.__prepare__"),(.type "type")])),(Array.mk [])⟩,⟨(.type "dict"),none,(.dict (List.toArray [dk P "__module__" 253 (.str "stickmarks.errors" 194),dk P "__qualname__" 255 (.str "NoSeat" 254),dk P "__firstlineno__" 257 (.int (11) 256),dk P "__static_attributes__" 258 (.ref 66)]) 4),(Array.mk [])⟩,tu [],fi [],co [(.str "NoSeat" 248),(.str "NoSeat" 249),(.str "/claim/cut.py" 250),j 11,j 0,j 0,j 0,j 0,(.ref 62),(.bool false),j 181,(.ref 63),.none,.none,.none,.none,j 251,j 11,(.str "/claim/cut.py" 252)],⟨(.type "frame"),none,.plain,(Array.mk [some (.ref 64),some (.ref 3),some (.ref 61),none,some (.str "stickmarks.errors" 194),none,some (.ref 0)])⟩,zDa,zD9 P,zD8,⟨(.type "super"),none,(.fields (Array.mk [(.ref 68),(.ref 68),(.ref 68)])),(Array.mk [])⟩,⟨(.type "builtin_function_or_method"),none,(.fields (Array.mk [(.builtin "object.__init_subclass__"),(.ref 68)])),(Array.mk [])⟩,zD7,⟨(.type "builtin_function_or_method"),none,(.fields (Array.mk [(.builtin "type.__prepare__"),(.type "type")])),(Array.mk [])⟩,⟨(.type "dict"),none,(.dict (List.toArray [dk P "__module__" 269 (.str "stickmarks.errors" 194),dk P "__qualname__" 271 (.str "NoHand" 270),dk P "__firstlineno__" 273 (.int (13) 272),dk P "__static_attributes__" 274 (.ref 78)]) 4),(Array.mk [])⟩,tu [],fi [],co [(.str "NoHand" 264),(.str "NoHand" 265),(.str "/claim/cut.py" 266),j 13,j 0,j 0,j 0,j 0,(.ref 74),(.bool false),j 181,(.ref 75),.none,.none,.none,.none,j 267,j 13,(.str "/claim/cut.py" 268)],⟨(.type "frame"),none,.plain,(Array.mk [some (.ref 76),some (.ref 3),some (.ref 73),none,some (.str "stickmarks.errors" 194),none,some (.ref 0)])⟩,zD6,zD5 P,zD4,⟨(.type "super"),none,(.fields (Array.mk [(.ref 80),(.ref 80),(.ref 80)])),(Array.mk [])⟩,⟨(.type "builtin_function_or_method"),none,(.fields (Array.mk [(.builtin "object.__init_subclass__"),(.ref 80)])),(Array.mk [])⟩,zD3,⟨(.type "builtin_function_or_method"),none,(.fields (Array.mk [(.builtin "type.__prepare__"),(.type "type")])),(Array.mk [])⟩,⟨(.type "dict"),none,(.dict (List.toArray [dk P "__module__" 285 (.str "stickmarks.errors" 194),dk P "__qualname__" 287 (.str "NoDeed" 286),dk P "__firstlineno__" 289 (.int (15) 288),dk P "__static_attributes__" 290 (.ref 90)]) 4),(Array.mk [])⟩,tu [],fi [],co [(.str "NoDeed" 280),(.str "NoDeed" 281),(.str "/claim/cut.py" 282),j 15,j 0,j 0,j 0,j 0,(.ref 86),(.bool false),j 181,(.ref 87),.none,.none,.none,.none,j 283,j 15,(.str "/claim/cut.py" 284)],⟨(.type "frame"),none,.plain,(Array.mk [some (.ref 88),some (.ref 3),some (.ref 85),none,some (.str "stickmarks.errors" 194),none,some (.ref 0)])⟩,zD2,zD1 P,zD0,⟨(.type "super"),none,(.fields (Array.mk [(.ref 92),(.ref 92),(.ref 92)])),(Array.mk [])⟩,⟨(.type "builtin_function_or_method"),none,(.fields (Array.mk [(.builtin "object.__init_subclass__"),(.ref 92)])),(Array.mk [])⟩,zCz,fi [],zCy,zCx,f0 (mkF (st 9 none) "is_whole" 0 [] .none .none .none .none none .none .none 0),zAy,zAx,tu [],⟨(.type "builtin_function_or_method"),none,(.fields (Array.mk [(.builtin "type.__prepare__"),(.type "type")])),(Array.mk [])⟩,⟨(.type "dict"),none,(.dict (List.toArray [dk P "__module__" 310 (.str "stickmarks.seats" 294),dk P "__qualname__" 312 (.str "Row" 311),dk P "__firstlineno__" 314 (.int (20) 313),dk P "__init__" 321 (.ref 115),dk P "need_seat" 329 (.ref 122),dk P "add" 339 (.ref 129),dk P "take" 348 (.ref 136),dk P "is_taken" 356 (.ref 143),dk P "many" 363 (.ref 150),dk P "all_taken" 370 (.ref 157),dk P "ahead" 376 (.ref 162),dk P "find" 382 (.ref 167),dk P "is_ahead" 391 (.ref 174),dk P "order" 398 (.ref 181),dk P "__static_attributes__" 401 (.ref 182)]) 15),(Array.mk [])⟩,tu [],fi [j 22,j 4,(.ref 114),j 26,j 4,(.ref 121),j 30,j 4,(.ref 128),j 40,j 4,(.ref 135),j 44,j 4,(.ref 142),j 48,j 4,(.ref 149),j 51,j 4,(.ref 156),j 54,j 4,(.ref 161),j 59,j 4,(.ref 166),j 65,j 4,(.ref 173),j 70,j 4,(.ref 180)],co [(.str "Row" 305),(.str "Row" 306),(.str "/claim/cut.py" 307),j 20,j 0,j 0,j 0,j 0,(.ref 105),(.bool false),j 181,(.ref 106),.none,.none,.none,.none,j 308,j 20,(.str "/claim/cut.py" 309)],⟨(.type "frame"),none,.plain,(Array.mk [some (.ref 107),some (.ref 3),some (.ref 104),none,some (.str "stickmarks.seats" 294),none,some (.ref 0)])⟩,zAw,fi [],zAv,zAu,f0 (mkF (st 10 (some 0)) "Row.__init__" 0 [] .none .none .none .none none .none .none 0),zAt,zAs,zAr,fi [],zAq,zAp,f0 (mkF (st 10 (some 1)) "Row.need_seat" 0 [] .none .none .none .none none .none .none 0),zAo,zAn,zAm,fi [],zAl,zAk,f0 (mkF (st 10 (some 2)) "Row.add" 0 [] .none .none .none .none none .none .none 0),zAj,zAi,zAh,fi [],zAg,zAf,f0 (mkF (st 10 (some 3)) "Row.take" 0 [] .none .none .none .none none .none .none 0),zAe,zAd,zAc,fi [],zAb,zAa,f0 (mkF (st 10 (some 4)) "Row.is_taken" 0 [] .none .none .none .none none .none .none 0),zA9,zA8,zA7,fi [],zA6,zA5,f0 (mkF (st 10 (some 5)) "Row.many" 0 [] .none .none .none .none none .none .none 0),zA4,zA3,zA2,fi [],zA1,zA0,f0 (mkF (st 10 (some 6)) "Row.all_taken" 0 [] .none .none .none .none none .none .none 0),z9z,z9y,z9x,fi [],f0 (mkF (st 10 (some 7)) "Row.ahead" 0 [] .none .none .none .none none .none .none 0),z9w,z9v,z9u,fi [],f0 (mkF (st 10 (some 8)) "Row.find" 0 [] .none .none .none .none none .none .none 0),z9t,z9s,z9r,fi [],z9q,z9p,f0 (mkF (st 10 (some 9)) "Row.is_ahead" 0 [] .none .none .none .none none .none .none 0),z9o,z9n,z9m,fi [],z9l,z9k,f0 (mkF (st 10 (some 10)) "Row.order" 0 [] .none .none .none .none none .none .none 0),z9j,z9i,z9h,z9g P,z9f,z9e,z9d,⟨(.type "super"),none,(.fields (Array.mk [(.ref 184),(.ref 184),(.ref 184)])),(Array.mk [])⟩,⟨(.type "builtin_function_or_method"),none,(.fields (Array.mk [(.builtin "object.__init_subclass__"),(.ref 184)])),(Array.mk [])⟩,z9c,fi [],f0 (mkF (st 14 none) "is_text" 0 [] .none .none .none .none none .none .none 0),z9b,z9a,tu [],⟨(.type "builtin_function_or_method"),none,(.fields (Array.mk [(.builtin "type.__prepare__"),(.type "type")])),(Array.mk [])⟩,⟨(.type "dict"),none,(.dict (List.toArray [dk P "__module__" 428 (.str "stickmarks.sheet" 409),dk P "__qualname__" 430 (.str "Sheet" 429),dk P "__firstlineno__" 432 (.int (77) 431),dk P "__init__" 441 (.ref 207),dk P "bring" 453 (.ref 214),dk P "need_hand" 461 (.ref 221),dk P "need_sign" 469 (.ref 228),dk P "need_place" 477 (.ref 235),dk P "need_stretch" 486 (.ref 242),dk P "need_deed" 494 (.ref 249),dk P "seat_of" 505 (.ref 256),dk P "is_shown" 511 (.ref 261),dk P "seated" 522 (.ref 268),dk P "size" 529 (.ref 275),dk P "shown" 535 (.ref 280),dk P "text" 541 (.ref 285),dk P "many" 548 (.ref 292),dk P "letter" 556 (.ref 299),dk P "sign_at" 564 (.ref 306),dk P "place_of" 572 (.ref 313),dk P "is_ahead" 581 (.ref 320),dk P "rank_of" 589 (.ref 327),dk P "seat_ahead" 597 (.ref 334),dk P "noted" 607 (.ref 341),dk P "put" 617 (.ref 348),dk P "cut" 629 (.ref 355),dk P "move" 643 (.ref 362),dk P "deeds" 650 (.ref 369),dk P "deed" 661 (.ref 376),dk P "stands" 669 (.ref 383),dk P "take_back" 677 (.ref 390),dk P "do_again" 685 (.ref 397),dk P "last_standing" 695 (.ref 404),dk P "last_gone" 705 (.ref 411),dk P "__static_attributes__" 717 (.ref 412)]) 35),(Array.mk [])⟩,tu [],fi [j 79,j 4,(.ref 206),j 97,j 4,(.ref 213),j 111,j 4,(.ref 220),j 115,j 4,(.ref 227),j 119,j 4,(.ref 234),j 123,j 4,(.ref 241),j 129,j 4,(.ref 248),j 133,j 4,(.ref 255),j 140,j 4,(.ref 260),j 146,j 4,(.ref 267),j 154,j 4,(.ref 274),j 157,j 4,(.ref 279),j 160,j 4,(.ref 284),j 163,j 4,(.ref 291),j 166,j 4,(.ref 298),j 170,j 4,(.ref 305),j 173,j 4,(.ref 312),j 177,j 4,(.ref 319),j 182,j 4,(.ref 326),j 185,j 4,(.ref 333),j 190,j 4,(.ref 340),j 195,j 4,(.ref 347),j 203,j 4,(.ref 354),j 212,j 4,(.ref 361),j 227,j 4,(.ref 368),j 230,j 4,(.ref 375),j 235,j 4,(.ref 382),j 239,j 4,(.ref 389),j 246,j 4,(.ref 396),j 253,j 4,(.ref 403),j 261,j 4,(.ref 410)],co [(.str "Sheet" 423),(.str "Sheet" 424),(.str "/claim/cut.py" 425),j 77,j 0,j 0,j 0,j 0,(.ref 197),(.bool false),j 181,(.ref 198),.none,.none,.none,.none,j 426,j 77,(.str "/claim/cut.py" 427)],⟨(.type "frame"),none,.plain,(Array.mk [some (.ref 199),some (.ref 3),some (.ref 196),none,some (.str "stickmarks.sheet" 409),none,some (.ref 0)])⟩,z99,fi [],z98,z97,f0 (mkF (st 15 (some 0)) "Sheet.__init__" 0 [] .none .none .none .none none .none .none 0),z96,z95,z94,fi [],z93,z92,f0 (mkF (st 15 (some 1)) "Sheet.bring" 0 [] .none .none .none .none none .none .none 0),z91,z90,z8z,fi [],z8y,z8x,f0 (mkF (st 15 (some 2)) "Sheet.need_hand" 0 [] .none .none .none .none none .none .none 0),z8w,z8v,z8u,fi [],z8t,z8s,f0 (mkF (st 15 (some 3)) "Sheet.need_sign" 0 [] .none .none .none .none none .none .none 0),z8r,z8q,z8p,fi [],z8o,z8n,f0 (mkF (st 15 (some 4)) "Sheet.need_place" 0 [] .none .none .none .none none .none .none 0),z8m,z8l,z8k,fi [],z8j,z8i,f0 (mkF (st 15 (some 5)) "Sheet.need_stretch" 0 [] .none .none .none .none none .none .none 0),z8h,z8g,z8f,fi [],z8e,z8d,f0 (mkF (st 15 (some 6)) "Sheet.need_deed" 0 [] .none .none .none .none none .none .none 0),z8c,z8b,z8a,fi [],z89,z88,f0 (mkF (st 15 (some 7)) "Sheet.seat_of" 0 [] .none .none .none .none none .none .none 0),z87,z86,z85,fi [],f0 (mkF (st 15 (some 8)) "Sheet.is_shown" 0 [] .none .none .none .none none .none .none 0),z84,z83,z82,fi [],z81,z80,f0 (mkF (st 15 (some 9)) "Sheet.seated" 0 [] .none .none .none .none none .none .none 0),z7z,z7y,z7x,fi [],z7w,z7v,f0 (mkF (st 15 (some 10)) "Sheet.size" 0 [] .none .none .none .none none .none .none 0),z7u,z7t,z7s,fi [],f0 (mkF (st 15 (some 11)) "Sheet.shown" 0 [] .none .none .none .none none .none .none 0),z7r,z7q,z7p,fi [],f0 (mkF (st 15 (some 12)) "Sheet.text" 0 [] .none .none .none .none none .none .none 0),z7o,z7n,z7m,fi [],z7l,z7k,f0 (mkF (st 15 (some 13)) "Sheet.many" 0 [] .none .none .none .none none .none .none 0),z7j,z7i,z7h,fi [],z7g,z7f,f0 (mkF (st 15 (some 14)) "Sheet.letter" 0 [] .none .none .none .none none .none .none 0),z7e,z7d,z7c,fi [],z7b,z7a,f0 (mkF (st 15 (some 15)) "Sheet.sign_at" 0 [] .none .none .none .none none .none .none 0),z79,z78,z77,fi [],z76,z75,f0 (mkF (st 15 (some 16)) "Sheet.place_of" 0 [] .none .none .none .none none .none .none 0),z74,z73,z72,fi [],z71,z70,f0 (mkF (st 15 (some 17)) "Sheet.is_ahead" 0 [] .none .none .none .none none .none .none 0),z6z,z6y,z6x,fi [],z6w,z6v,f0 (mkF (st 15 (some 18)) "Sheet.rank_of" 0 [] .none .none .none .none none .none .none 0),z6u,z6t,z6s,fi [],z6r,z6q,f0 (mkF (st 15 (some 19)) "Sheet.seat_ahead" 0 [] .none .none .none .none none .none .none 0),z6p,z6o,z6n,fi [],z6m,z6l,f0 (mkF (st 15 (some 20)) "Sheet.noted" 0 [] .none .none .none .none none .none .none 0),z6k,z6j,z6i,fi [],z6h,z6g,f0 (mkF (st 15 (some 21)) "Sheet.put" 0 [] .none .none .none .none none .none .none 0),z6f,z6e,z6d,fi [],z6c,z6b,f0 (mkF (st 15 (some 22)) "Sheet.cut" 0 [] .none .none .none .none none .none .none 0),z6a,z69,z68,fi [],z67,z66,f0 (mkF (st 15 (some 23)) "Sheet.move" 0 [] .none .none .none .none none .none .none 0),z65,z64,z63,fi [],z62,z61,f0 (mkF (st 15 (some 24)) "Sheet.deeds" 0 [] .none .none .none .none none .none .none 0),z60,z5z,z5y,fi [],z5x,z5w,f0 (mkF (st 15 (some 25)) "Sheet.deed" 0 [] .none .none .none .none none .none .none 0),z5v,z5u,z5t,fi [],z5s,z5r,f0 (mkF (st 15 (some 26)) "Sheet.stands" 0 [] .none .none .none .none none .none .none 0),z5q,z5p,z5o,fi [],z5n,z5m,f0 (mkF (st 15 (some 27)) "Sheet.take_back" 0 [] .none .none .none .none none .none .none 0),z5l,z5k,z5j,fi [],z5i,z5h,f0 (mkF (st 15 (some 28)) "Sheet.do_again" 0 [] .none .none .none .none none .none .none 0),z5g,z5f,z5e,fi [],z5d,z5c,f0 (mkF (st 15 (some 29)) "Sheet.last_standing" 0 [] .none .none .none .none none .none .none 0),z5b,z5a,z59,fi [],z58,z57,f0 (mkF (st 15 (some 30)) "Sheet.last_gone" 0 [] .none .none .none .none none .none .none 0),z56,z55,z54,z53 P,z52,z51,z50,⟨(.type "super"),none,(.fields (Array.mk [(.ref 414),(.ref 414),(.ref 414)])),(Array.mk [])⟩,⟨(.type "builtin_function_or_method"),none,(.fields (Array.mk [(.builtin "object.__init_subclass__"),(.ref 414)])),(Array.mk [])⟩,z4z,fi [],z4y,z4x,f0 (mkF (st 17 none) "_law_cell_at" 0 [] .none .none .none .none none .none .none 0),z4w,z4v,tu [],fi [],tu [(.str "_law_found" 738)],tu [],f0 (mkF (st 18 none) "_law_whole" 0 [] .none .none .none .none none .none .none 0),co [(.str "_law_whole" 735),(.str "_law_whole" 736),(.str "/claim/cut.py" 737),j 273,j 1,j 0,j 0,j 3,(.ref 426),(.bool true),j 181,(.ref 427),.none,(.ref 428),(.ref 429),(.ref 430),j 739,j 273,(.str "/claim/cut.py" 740)],fu (mkF (st 18 none) "_law_whole" 3 [] .none .none .none (.str "law_uf010039_07" 725) none (.ref 431) .none 0),z4u,fi [],z4t,z4s,f0 (mkF (st 19 none) "_law_mixed" 0 [] .none .none .none .none none .none .none 0),z4r,z4q,z4p,fi [],f0 (mkF (st 20 none) "_law_text_by" 0 [] .none .none .none .none none .none .none 0),z4o,z4n,z4m,fi [],z4l,z4k,f0 (mkF (st 21 none) "_law_size_by" 0 [] .none .none .none .none none .none .none 0),z4j,z4i,z4h,fi [],f0 (mkF (st 22 none) "_law_fresh" 0 [] .none .none .none .none none .none .none 0),z4g,z4f,z4e,fi [],z4d,z4c,f0 (mkF (st 23 none) "_law_sits" 0 [] .none .none .none .none none .none .none 0),z4b,z4a,z49,fi [],f0 (mkF (st 24 none) "_law_is_shown" 0 [] .none .none .none .none none .none .none 0),z48,z47,z46,fi [],z45,z44,f0 (mkF (st 25 none) "_law_shown" 0 [] .none .none .none .none none .none .none 0),z43,z42,z41,fi [],z40,z3z,f0 (mkF (st 26 none) "_law_at" 0 [] .none .none .none .none none .none .none 0),z3y,z3x,z3w,fi [],f0 (mkF (st 27 none) "_law_deed" 0 [] .none .none .none .none none .none .none 0),z3v,z3u,z3t,fi [],z3s,z3r,f0 (mkF (st 28 none) "_law_deed_by" 0 [] .none .none .none .none none .none .none 0),z3q,z3p,z3o,fi [],z3n,z3m,f0 (mkF (st 29 none) "_law_do" 0 [] .none .none .none .none none .none .none 0),z3l,z3k,z3j,fi [],f0 (mkF (st 30 none) "_law_turned" 0 [] .none .none .none .none none .none .none 0),z3i,z3h,z3g,fi [],f0 (mkF (st 31 none) "_law_place" 0 [] .none .none .none .none none .none .none 0),z3f,z3e,z3d,fi [],f0 (mkF (st 32 none) "_law_last" 0 [] .none .none .none .none none .none .none 0),z3c,z3b,z3a,fi [],f0 (mkF (st 33 none) "_law_stands" 0 [] .none .none .none .none none .none .none 0),z39,z38,z37,fi [],f0 (mkF (st 34 none) "law" 0 [] .none .none .none .none none .none .none 0),z36,z35]⟩,{}⟩
noncomputable def K (P:Params):Frag:=[(2,boot_o_2 P),(3,o_3 P),(15,zDt),(17,zDs),(18,zDr),(20,zDq),(21,zDp),(22,zDo),(29,zDn),(30,zDm P),(31,zDl),(32,zDk),(35,zDj),(42,zDi),(43,zDh P),(44,zDg),(47,zDf),(54,zDe),(55,zDd P),(56,zDc),(59,zDb),(66,zDa),(67,zD9 P),(68,zD8),(71,zD7),(78,zD6),(79,zD5 P),(80,zD4),(83,zD3),(90,zD2),(91,zD1 P),(92,zD0),(95,zCz),(97,zCy),(98,zCx),(100,zAy),(101,zAx),(109,zAw),(111,zAv),(112,zAu),(114,zAt),(115,zAs),(116,zAr),(118,zAq),(119,zAp),(121,zAo),(122,zAn),(123,zAm),(125,zAl),(126,zAk),(128,zAj),(129,zAi),(130,zAh),(132,zAg),(133,zAf),(135,zAe),(136,zAd),(137,zAc),(139,zAb),(140,zAa),(142,zA9),(143,zA8),(144,zA7),(146,zA6),(147,zA5),(149,zA4),(150,zA3),(151,zA2),(153,zA1),(154,zA0),(156,z9z),(157,z9y),(158,z9x),(161,z9w),(162,z9v),(163,z9u),(166,z9t),(167,z9s),(168,z9r),(170,z9q),(171,z9p),(173,z9o),(174,z9n),(175,z9m),(177,z9l),(178,z9k),(180,z9j),(181,z9i),(182,z9h),(183,z9g P),(184,z9f),(185,z9e),(186,z9d),(189,z9c),(192,z9b),(193,z9a),(201,z99),(203,z98),(204,z97),(206,z96),(207,z95),(208,z94),(210,z93),(211,z92),(213,z91),(214,z90),(215,z8z),(217,z8y),(218,z8x),(220,z8w),(221,z8v),(222,z8u),(224,z8t),(225,z8s),(227,z8r),(228,z8q),(229,z8p),(231,z8o),(232,z8n),(234,z8m),(235,z8l),(236,z8k),(238,z8j),(239,z8i),(241,z8h),(242,z8g),(243,z8f),(245,z8e),(246,z8d),(248,z8c),(249,z8b),(250,z8a),(252,z89),(253,z88),(255,z87),(256,z86),(257,z85),(260,z84),(261,z83),(262,z82),(264,z81),(265,z80),(267,z7z),(268,z7y),(269,z7x),(271,z7w),(272,z7v),(274,z7u),(275,z7t),(276,z7s),(279,z7r),(280,z7q),(281,z7p),(284,z7o),(285,z7n),(286,z7m),(288,z7l),(289,z7k),(291,z7j),(292,z7i),(293,z7h),(295,z7g),(296,z7f),(298,z7e),(299,z7d),(300,z7c),(302,z7b),(303,z7a),(305,z79),(306,z78),(307,z77),(309,z76),(310,z75),(312,z74),(313,z73),(314,z72),(316,z71),(317,z70),(319,z6z),(320,z6y),(321,z6x),(323,z6w),(324,z6v),(326,z6u),(327,z6t),(328,z6s),(330,z6r),(331,z6q),(333,z6p),(334,z6o),(335,z6n),(337,z6m),(338,z6l),(340,z6k),(341,z6j),(342,z6i),(344,z6h),(345,z6g),(347,z6f),(348,z6e),(349,z6d),(351,z6c),(352,z6b),(354,z6a),(355,z69),(356,z68),(358,z67),(359,z66),(361,z65),(362,z64),(363,z63),(365,z62),(366,z61),(368,z60),(369,z5z),(370,z5y),(372,z5x),(373,z5w),(375,z5v),(376,z5u),(377,z5t),(379,z5s),(380,z5r),(382,z5q),(383,z5p),(384,z5o),(386,z5n),(387,z5m),(389,z5l),(390,z5k),(391,z5j),(393,z5i),(394,z5h),(396,z5g),(397,z5f),(398,z5e),(400,z5d),(401,z5c),(403,z5b),(404,z5a),(405,z59),(407,z58),(408,z57),(410,z56),(411,z55),(412,z54),(413,z53 P),(414,z52),(415,z51),(416,z50),(419,z4z),(421,z4y),(422,z4x),(424,z4w),(425,z4v),(433,z4u),(435,z4t),(436,z4s),(438,z4r),(439,z4q),(440,z4p),(443,z4o),(444,z4n),(445,z4m),(447,z4l),(448,z4k),(450,z4j),(451,z4i),(452,z4h),(455,z4g),(456,z4f),(457,z4e),(459,z4d),(460,z4c),(462,z4b),(463,z4a),(464,z49),(467,z48),(468,z47),(469,z46),(471,z45),(472,z44),(474,z43),(475,z42),(476,z41),(478,z40),(479,z3z),(481,z3y),(482,z3x),(483,z3w),(486,z3v),(487,z3u),(488,z3t),(490,z3s),(491,z3r),(493,z3q),(494,z3p),(495,z3o),(497,z3n),(498,z3m),(500,z3l),(501,z3k),(502,z3j),(505,z3i),(506,z3h),(507,z3g),(510,z3f),(511,z3e),(512,z3d),(515,z3c),(516,z3b),(517,z3a),(520,z39),(521,z38),(522,z37),(525,z36),(526,z35)]
noncomputable def as:List Addr:=[2,3,15,17,18,20,21,22,29,30,31,32,35,42,43,44,47,54,55,56,59,66,67,68,71,78,79,80,83,90,91,92,95,97,98,100,101,109,111,112,114,115,116,118,119,121,122,123,125,126,128,129,130,132,133,135,136,137,139,140,142,143,144,146,147,149,150,151,153,154,156,157,158,161,162,163,166,167,168,170,171,173,174,175,177,178,180,181,182,183,184,185,186,189,192,193,201,203,204,206,207,208,210,211,213,214,215,217,218,220,221,222,224,225,227,228,229,231,232,234,235,236,238,239,241,242,243,245,246,248,249,250,252,253,255,256,257,260,261,262,264,265,267,268,269,271,272,274,275,276,279,280,281,284,285,286,288,289,291,292,293,295,296,298,299,300,302,303,305,306,307,309,310,312,313,314,316,317,319,320,321,323,324,326,327,328,330,331,333,334,335,337,338,340,341,342,344,345,347,348,349,351,352,354,355,356,358,359,361,362,363,365,366,368,369,370,372,373,375,376,377,379,380,382,383,384,386,387,389,390,391,393,394,396,397,398,400,401,403,404,405,407,408,410,411,412,413,414,415,416,419,421,422,424,425,433,435,436,438,439,440,443,444,445,447,448,450,451,452,455,456,457,459,460,462,463,464,467,468,469,471,472,474,475,476,478,479,481,482,483,486,487,488,490,491,493,494,495,497,498,500,501,502,505,506,507,510,511,512,515,516,517,520,521,522,525,526]
end Mine.Hd
end
section
open PySem PySem.W PyProof.Rows
set_option maxRecDepth 1000000
set_option maxHeartbeats 8000000
namespace Mine.Hd
noncomputable abbrev bdE:List Stmt:=behindTheImports prog
noncomputable abbrev evE:Env:={scope:=prog.main.scope,locals:=mainNs,globals:=mainNs,cells:=[],code:=.ref 13,frame:=some 14}
noncomputable abbrev cdE:Code:=.body bdE evE
noncomputable def trE (l:List Obj):BT:=(l.foldl (fun p o=>(p.1.ins p.2 o,p.2+1)) (BT.nil,0)).1
noncomputable abbrev SaE (w:World) (os:OsState):SharedT:=⟨trE ((((H1 w.params).objs.toList.take 15).set 3 (boot_o_3 w.params)).set 12 ⟨.none,none,.fields ⟨[]⟩,⟨[]⟩⟩),15,{},⟨[]⟩,{},187,os⟩
noncomputable abbrev SbE (w:World) (os:OsState):SharedT:=⟨trE (H1 w.params).objs.toList,527,{},⟨[]⟩,{},870,os⟩
theorem rn1 (w:World) (os:OsState):topGo treeTable prog w 11 (some (.ref 6)) 12 ⟨boot_heap w.params,Array.mk [],boot_drawn,boot_toks,os⟩ (topStub prog)=some ((SaE w os).abs,⟨denote treeTable cdE,cdE,default,[topFrame default]⟩):=by
  rw [PySem.W.Fast.te15667345088766844465,PySem.W.Fast.te14364793385576792824,PySem.W.Fast.te11892475500146522536]
  kernel_rfl
theorem rn2 (w:World) (os:OsState):segRun treeTable prog w 11 (some (.ref 6)) 1 1 (SaE w os).abs (blockOf bdE evE cdE default [topFrame default])=some (.next,(SaE w os).abs,cdE,default):=rfl
theorem rn3 (w:World) (os:OsState):segRunT treeTable prog w 11 (some (.ref 6)) 1 3657 (SaE w os) ⟨(execs bdE evE).wrap doneF deadEnd id id,cdE,default,[topFrame default]⟩=some (.next,SbE w os,cdE,⟨397,0,415,110⟩):=by
  rw [PySem.W.Fast.te10110043849684766642,PySem.W.Fast.te14364793385576792824,PySem.W.Fast.te12563942051412417395]
  kernel_rfl
theorem rn4 (w:World) (os:OsState):topRun treeTable prog w 11 (some (.ref 6)) 3768 (SbE w os).abs (restOf [] evE cdE ⟨397,0,415,110⟩ [topFrame default])=some ⟨H1 w.params,Array.mk [],{},870,os⟩:=by kernel_rfl
theorem run (w:World) (os:OsState):topRun treeTable prog w 11 (some (.ref 6)) 7438 ⟨boot_heap w.params,Array.mk [],boot_drawn,boot_toks,os⟩ (topStub prog)=some ⟨H1 w.params,Array.mk [],{},870,os⟩:=
  go_top (N:=7426) (rn1 w os) (piece_block (n:=1) (N:=7425) (rn2 w os) (List.append_nil bdE▸piece_app (n:=3657) (N:=3768) (segRun_of (rn3 w os)) (rn4 w os)))
end Mine.Hd
end
section
open PySem PySem.W PyProof.Rows
set_option maxRecDepth 1000000
set_option maxHeartbeats 8000000
noncomputable section
namespace Mine.Hd
theorem ws:OpenLaw.wellSaid PySem.Challenge.rw_uf010039_07=true:=by
 rw [PySem.W.Fast.te9446332074065402090]
 kernel_rfl
theorem opn (w:World):(fencedOpening treeTable prog w 7438).map (fun s=>(s.heap,s.gens,s.drawn,s.toks))=some (boot_heap w.params,Array.mk [],boot_drawn,boot_toks):=boot_open (p:=prog) (N:=7438) (by kernel_rfl) (by decide) (fun s=>rfl) w
theorem siz (w:World):((boot_heap w.params).isNs mainGlobals && (Array.mk []:Array GenState).size == 0,(boot_heap w.params).objs.size,(boot_heap w.params).nsMap mainGlobals "__annotations__")=(true,11,some (.ref 6)):=by kernel_rfl
noncomputable abbrev qv:Program:=view prog [0,2,3,4,5,6,7,9,10,12,13,14,15,17,18,19,20,21,22,23,24,25,26,27,28,29,30,31,32,33,34]
noncomputable abbrev Xt (s:Shared):Bool:=xlAt qv [] s && recOk (RowW.records (OpenRow.toRowW (OpenLaw.row PySem.Challenge.rw_uf010039_07))) s
theorem asK (P:Params):as=(K P).map (·.1):=by kernel_rfl
noncomputable abbrev hk:Hook:=kHook K as asK
noncomputable abbrev S1 (w:World) (os:OsState):Shared:=⟨H1 w.params,Array.mk [],{},870,os⟩
theorem lk1 (w:World) (os:OsState):(staticsOk (importedModules prog.main.body) (boot_heap w.params) (H1 w.params) && namesBound prog (H1 w.params) && gensDone (S1 w os) && laidKept (boot_heap w.params) (H1 w.params))=true:=by kernel_rfl
theorem lk3 (w:World) (os:OsState):hk.obs (S1 w os)=hk.val w:=by kernel_rfl
end Mine.Hd
end
section
open PySem PySem.W PyProof.Rows
set_option maxRecDepth 1000000
set_option maxHeartbeats 8000000
noncomputable section
namespace Mine.Hd
theorem lk2 (w:World) (os:OsState):openSeen qv [] (importedModules prog.main.body) Xt true (S1 w os)=openGood qv []:=by
 rw [PySem.W.Fast.te4187177175401517315]
 kernel_rfl
end Mine.Hd
end
section
open PySem PySem.W PyProof.Rows
set_option maxRecDepth 1000000
set_option maxHeartbeats 8000000
namespace Mine
theorem tt (P:Params):LS.TT (yL (Hd.K P)) (gOf (Hd.K P)).okf where
 kB2:=by kernel_rfl
 kBz:=by kernel_rfl
 kBv:=by kernel_rfl
 kB6:=by kernel_rfl
 kBp:=by kernel_rfl
 kBl:=by kernel_rfl
 kBr:=by kernel_rfl
 kBw:=by kernel_rfl
 kA5:=by kernel_rfl
 kBe:=by kernel_rfl
 kB4:=by kernel_rfl
 kA9:=by kernel_rfl
 kB3:=by kernel_rfl
 row:=by kernel_rfl
 sheet:=by kernel_rfl
 kBn:=by kernel_rfl
 kBs:=by kernel_rfl
 kAq:=by kernel_rfl
 kBx:=by kernel_rfl
 kBt:=by kernel_rfl
 kAu:=by kernel_rfl
 kAn:=by kernel_rfl
 kBh:=by kernel_rfl
 kBq:=by kernel_rfl
 kAt:=by kernel_rfl
 kBi:=by kernel_rfl
 kB0:=by kernel_rfl
 kBb:=by kernel_rfl
 kAz:=by kernel_rfl
 kAg:=by kernel_rfl
 kAi:=by kernel_rfl
 kAd:=by kernel_rfl
 kAb:=by kernel_rfl
 kAh:=by kernel_rfl
 kAp:=by kernel_rfl
 kAk:=by kernel_rfl
 kAv:=by kernel_rfl
 kA4:=by kernel_rfl
 kAw:=by kernel_rfl
 kA8:=by kernel_rfl
 kA7:=by kernel_rfl
 kAo:=by kernel_rfl
 kAl:=by kernel_rfl
 kAj:=by kernel_rfl
 kAc:=by kernel_rfl
 kA2:=by kernel_rfl
 kBd:=by kernel_rfl
 kBg:=by kernel_rfl
 kA3:=by kernel_rfl
 kAr:=by kernel_rfl
 kAe:=by kernel_rfl
 kAm:=by kernel_rfl
 kAa:=by kernel_rfl
 kAf:=by kernel_rfl
 kA0:=by kernel_rfl
 kBf:=by kernel_rfl
 kAx:=by kernel_rfl
 kAy:=by kernel_rfl
 kBc:=by kernel_rfl
 kBo:=by kernel_rfl
 kAs:=by kernel_rfl
 kBj:=by kernel_rfl
 kB5:=by kernel_rfl
 kBm:=by kernel_rfl
 kA1:=by kernel_rfl
 kB1:=by kernel_rfl
 kBa:=by kernel_rfl
 kBk:=by kernel_rfl
 kBu:=by kernel_rfl
 kA6:=by kernel_rfl
 kB7:=by kernel_rfl
namespace Hd
theorem left:LeftO prog qv [] Xt hk.obs hk.val 7438:=LeftO.of_pieces (H₀:=boot_heap) (H₁:=H1) (gs₀:=Array.mk []) (gs₁:=Array.mk []) (d₀:=boot_drawn) (d₁:={}) (k₀:=boot_toks) (k₁:=870) (m₀:=11) (ann:=some (.ref 6)) (M:=7438) opn siz run (by decide)
 (fun w=>funext fun os=>Prod.ext (lk1 w os) (Prod.ext (lk2 w os) (lk3 w os)))
end Hd
end Mine
end
open PySem PySem.W PyProof.Rows
set_option maxRecDepth 1000000 in
set_option maxHeartbeats 8000000 in
theorem PySem.Challenge.cw_uf010039_07_holds : PySem.Challenge.rw_uf010039_07.Holds := by
  w_on
  refine holds_law Mine.Hd.ws fun said => ?_
  refine holds_open (q := Mine.Hd.qv) (loose := []) (Xt := Mine.Hd.Xt) (XP := XL Mine.Hd.qv []) (Yf := Mine.Hd.hk.obs) (Ya := Mine.Hd.hk.val) (YP := Mine.Hd.hk.says) (N := 7438) Mine.Hd.left Mine.Hd.hk.of Mine.Hd.hk.keeps (fun s e => xl_of s (Bool.and_eq_true_iff.mp e).1) XL.keeps (by rfl) (by rfl) (by rfl) (fun s e => recFacts_of (Bool.and_eq_true_iff.mp e).2) (by rfl) (by assumption) (by decide +kernel) ⟨rfl, rfl, rfl, rfl, rfl, by decide +kernel⟩ ?hw ?hc
  case hw => w_witness2
  intro w s₀ s₁ mg mb G Y fa o pm cd doc dV kV ho hd hcd hD hmg hg args vals as hpre hlay hrd hwl hlo
  have KX := kIn_of Y
  clear Y
  refine Ground.open G ?_
  intro T B D TE TW
  clear ho hd hcd hD B D TE TW G
  wrow_args hpre hlay hrd hwl hlo
  rename IntsAre _ _ => hI
  rename Heap.IsList _ _ _ => hL
  rename ¬ _ < _ => hlen
  refine Mine.law_true T KX hg hmg 526 (by kernel_rfl) hL hI hlen (Mine.LS.law_ (n := 11) (Mine.tt _) (by lia)) (raisesW_false ?_) ?_
  · wrow_none_raised
  · kc_post
