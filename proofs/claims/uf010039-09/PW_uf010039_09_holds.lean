import PyProof.Rows.All
import Wide.All
import OpenK.KLine
import KE.KEndW
import KE.KDictSum
import KE.KEqDict
import PyProof.Rows.SortWalk
import KE.KSortTup
import PyProof.P3Statements
import PyProof.Rows.Chain
import PyProof.StrBlock
import PyProof.StrBlockI
import OpenK.KCell
import PyProof.TupleIter
import PyProof.RangeIter
import PyProof.ListOps
import PyProof.StationsW
import PyProof.DictRoads
import PyProof.DictKinds
import PyProof.P3In
import PyProof.IsRules
import PyProof.Rows.TupMore
import PyProof.Rows.Nodes
import PyProof.NoPylong
import PyProof.SliceList
import PyProof.IsiPairs
import PyProof.IsiNone
import PyProof.WalkInts
import PyProof.ListCopy
import PyProof.RangeFor
import PyProof.Conv_int_bool
import PyProof.Methods
import PyProof.AutoSeq1
import PyProof.MeetsSeq
import PyProof.DictTruth
import PyProof.IsiSeqPairs
import PyProof.MeetsDict
import PyProof.MeetsDictList
import PyProof.ListIndexNeg
import PyProof.StrLaws
import PyProof.StrOps
import PyProof.StrCalls2
import PyProof.StrCalls3
import PyProof.ConsumeWalk
import PyProof.Rows.ExtendIn
import PyProof.ListStr
import PyProof.ListRange
import PyProof.TupleOps
import PyProof.IsiHeapPairs
import KE.KTryMore
import PyProof.Rows.Own
import PyProof.ExcBaseAll.ValueError
import KE.KItem
import PyProof.Rows.TupSub
import PyProof.WalksMore
import PyProof.StrWalks
import PyProof.EnumStmt
import PyProof.CompFree
import KE.KUnpack
import PyProof.RulesAssignMore
import PyProof.Raises
import PyProof.RulesTry
import PyProof.Rows.TopTwo
import PyProof.Rows.CatchBare
import OpenK.KCall
import PyProof.Rows.TupAssign
import OpenK.KOwn
import PyProof.P3Eq
import PySem.Challenge.RW_uf010039_09
set_option Elab.async false
set_option linter.all false
section
namespace Mine
theorem zc {n m:Nat} (h:Nat.ble n m=true):n≤m:=Nat.le_of_ble_eq_true h
theorem zU {α:Type} {as bs:List α}:(as++bs).length=as.length+bs.length:=List.length_append
theorem yM {α:Type} {l:List α} {i:Nat} {a:α} (h:l[i]? = some a):a∈l:=List.mem_of_getElem? h
theorem y6 {α:Type} {l:List α} {i:Nat} (h:i<l.length):l[i]? = some l[i]:=List.getElem?_eq_getElem h
theorem zS {α β:Type} {o:Option α} {f:α→Option β} {b:β} (h:o.bind f=some b):∃ a,o=some a∧f a=some b:=Option.bind_eq_some_iff.mp h
theorem yC {α β:Type} {o:Option α} {f:α→β} {b:β} (h:o.map f=some b):∃ a,o=some a∧f a=b:=Option.map_eq_some_iff.mp h
theorem yL {α:Type} {l:List α} {i:Nat} {a:α} (h:l[i]? = some a):∃ q:i<l.length,l[i]=a:=List.getElem?_eq_some_iff.mp h
theorem xN {α:Type} {a:α} {s t:List α} (h:a∈s++t):a∈s∨a∈t:=List.mem_append.mp h
theorem xE {α:Type} {a b:α} (h:a∈[b]):a=b:=List.mem_singleton.mp h
end Mine
end
section
namespace Mine
open PySem PySem.W PySem.Calls PyProof.Rows
section
variable {prog:Program} {w:World} {A:Around} {E:Value→Shared→Prop} {s:Shared}
theorem jB:∀ {kvs:List (Int×Value)} {vs:List Value},vs.length=kvs.length→(∀ (j:Nat) v,vs[j]? = some v→∃ k x,kvs[j]? = some (k,x)∧(intKind prog w).is k v=true)→IntsAre vs (kvs.map (·.1)):=by
 intro kvs
 induction kvs with
 | nil=>intro vs hl _;rw [List.length_eq_zero_iff.mp hl];exact .nil
 | cons p kvs ih =>
  intro vs hl h
  cases vs with
  | nil=>cases hl
  | cons v vs =>
   obtain ⟨k,x,e,hk⟩:=h 0 v rfl
   cases e
   obtain ⟨t,rfl⟩:∃ t,v=.int k t:=by
    have hk':Value.isInt k v=true:=hk
    cases v with
    | int i t=>exact ⟨t,by rw [show i=k from by simpa [Value.isInt] using hk']⟩
    | _=>exact absurd hk' Bool.false_ne_true
   exact .cons k t (ih (Nat.succ.inj hl) fun j v e=>h (j+1) v e)
theorem J1 {d:Addr} {kvs:List (Int×Value)} {Q:Value→Shared→Prop} (hd:(d == sysModules)=false) (hm:s.heap.DictOf (intKind prog w) d kvs) (hh:A.handled=none) (hn:kvs.length≤sizeLine)
  (h:∀ h' tk vs n,(∀ b o,s.heap.get? b=some o→h'.get? b=some o)→h'.get? s.heap.objs.size=some { cls:=.type "list",dict:=none,data:=.seq vs n,slots:=#[] }→IntsAre vs.toList (kvs.map (·.1))→Q (.ref s.heap.objs.size) { s with heap:=h',toks:=tk }) :
  wpAny (model prog w) A (call (.type "list") [.ref d]) Q E s:=by
 obtain ⟨ep,hat⟩:=hm.dictAt
 refine kdl_call (kdl_dict (knd:=intKind prog w) (kvs:=kvs) (ep:=ep) hd) hh hat hn fun h' tk acc c hk hS hacc=>?_
 exact h h' tk acc c hk hS (jB (prog:=prog) (w:=w) (by rw [Array.length_toList];exact hacc.1) fun j v e=>hacc.2 j v (by rw [← Array.getElem?_toList];exact e))
theorem Xl {d:Addr} {kvs:List (Int×Value)} {Q:Value→Shared→Prop} (hd:(d == sysModules)=false) (hm:s.heap.DictOf (intKind prog w) d kvs) (hh:A.handled=none) (h64:kvs.length<64)
  (h:∀ D h' tk (vs:Array Value) n ns,(∀ b o,s.heap.get? b=some o→h'.get? b=some o)→s.heap.get? D=none→h'.get? D=some (seqObj "list" vs n)→IntsAre vs.toList ns→ns.Perm (kvs.map (·.1))→ns.Pairwise (·≤·)→Q (.ref D) { s with heap:=h',toks:=tk }) :
  wpAny (model prog w) A (call (.builtin "sorted") [.ref d]) Q E s:=by
 obtain ⟨ep,hat⟩:=hm.dictAt
 have hn:kvs.length≤sizeLine:=Nat.le_trans (Nat.le_of_lt h64) (by decide)
 refine call_function_entry kind_sorted plain_sorted entry_sorted (args_sorted1 _) ?_
 unfold Builtin.«sorted»
 refine wpAny_bind (m:=checkCount "sorted" 1 1 _) (wpAny_pure ?_)
 refine wpAny_bind (kdu_collect (A:=A.in1) (kdl_dict (knd:=intKind prog w) (kvs:=kvs) (ep:=ep) hd) hh hat hn fun h' tk acc hk hacc=>?_)
 have hl:acc.toList.length=kvs.length:=by rw [Array.length_toList];exact hacc.1
 have hI:IntsAre acc.toList (kvs.map (·.1)):=jB (prog:=prog) (w:=w) hl fun j v e=>hacc.2 j v (by rw [← Array.getElem?_toList];exact e)
 refine wpAny_bind (wpAny_newList ?_ (by rw [hl];exact hn))
 have hoL:(h'.push (seqObj "list" acc.toList.toArray 0)).get? h'.objs.size=some (seqObj "list" acc.toList.toArray 0):=Heap.get?_push_size _ rfl
 refine wpAny_bind (wpAny_holding (wpAny_call_entry slot_list_sort ⟨_,hoL,rfl⟩ entry_list_sort (list_sort_tree hoL hI (by rw [hl];exact h64) fun out ns' a1 a2 a3=>⟨_,rfl,?_⟩) (args_list_sort _)))
 have keep:∀ b o,s.heap.get? b=some o→(sortedHeap (h'.push (seqObj "list" acc.toList.toArray 0)) h'.objs.size acc.toList out).get? b=some o:=fun b o e=>by
  have hb:=hk b o e
  have hlt:=Heap.lt_size hb
  rw [sortedHeap_old (Nat.ne_of_lt hlt) (by rw [Heap.size_push];exact Nat.lt_succ_of_lt hlt)]
  exact Heap.get?_push_of_some _ hb
 obtain ⟨n,hn'⟩:=sortedHeap_at (out:=out) hoL
 refine wpAny_pure ⟨_,rfl,h h'.objs.size _ tk out n ns' keep ?_ hn' a1 a2 a3⟩
 cases q:s.heap.get? h'.objs.size with
 | none=>rfl
 | some o=>exact absurd (Heap.lt_size (hk _ _ q)) (Nat.lt_irrefl _)
theorem z3d {a b:Addr} {ka:List (Int×Value)} {Q:Value→Shared→Prop} (ha:(a == sysModules)=false) (hb:(b == sysModules)=false) (da:s.heap.DictOf (intKind prog w) a ka) (db:s.heap.DictOf (intKind prog w) b []) (hu:A.units<cLine)
  (h:Q (.bool (!ka.isEmpty)) s):wpAny (model prog w) A (compareOp .NotEq (.ref a) (.ref b)) Q E s:=by
 refine keq_ne (r:=true) ha hb da db hu (fun q=>?_) ?_
 ·rw [List.length_eq_zero_iff.mp q];exact .nil
 ·cases ka with
  | nil=>exact h
  | cons=>exact h
end
end Mine
end
section
namespace Mine
open PySem PySem.W PyProof.Rows
section
variable {cmp:Nat→Nat→(Bool→Shared→Prop)→Shared→Prop} {s:Shared} {c:Nat→Int} {N:Nat} {p:Array Nat}
noncomputable def Xd (cmp:Nat→Nat→(Bool→Shared→Prop)→Shared→Prop) (c:Nat→Int) (N:Nat) (s:Shared):Prop:=∀ i j C,i<N→j<N→C (decide (c i<c j)) s→cmp i j C s
noncomputable def ky (c:Nat→Int) (p:Array Nat) (k:Nat):Int:=c (p.getD k 0)
structure Od (c:Nat→Int) (N:Nat) (p:Array Nat):Prop where
 perm:p.toList.Perm (List.range N)
 inj:∀ i j,i<N→j<N→c i=c j→i=j
theorem Od.size (o:Od c N p):p.size=N:=by
 have:=o.perm.length_eq
 rw [List.length_range,Array.length_toList] at this
 exact this
theorem Od.of (o:Od c N p) {q:Array Nat} (h:q.Perm p):Od c N q:=⟨(Array.perm_iff_toList_perm.mp h).trans o.perm,o.inj⟩
theorem Od.at (o:Od c N p) {k:Nat} (h:k<N):∃ x,p.toList[k]? = some x∧p.getD k 0=x∧x<N:=by
 have h1:k<p.size:=o.size▸h
 refine ⟨p[k],?_,?_,?_⟩
 ·rw [Array.getElem?_toList,Array.getElem?_eq_getElem h1]
 ·rw [Array.getD_eq_getD_getElem?,Array.getElem?_eq_getElem h1];rfl
 ·exact List.mem_range.mp (o.perm.mem_iff.mp (Array.mem_toList_iff.mpr (Array.getElem_mem h1)))
theorem Od.lt (o:Od c N p) {k:Nat} (h:k<N):p.getD k 0<N:=by
 obtain ⟨x,_,e,h⟩:=o.at h
 rw [e];exact h
theorem Od.ne (o:Od c N p) {i j:Nat} (hi:i<N) (hj:j<N) (h:i≠j):ky c p i≠ky c p j:=fun e=>by
 obtain ⟨x,a1,a2,a3⟩:=o.at hi
 obtain ⟨y,b1,b2,b3⟩:=o.at hj
 have e:c (p.getD i 0)=c (p.getD j 0):=e
 rw [a2,b2] at e
 have e:=o.inj _ _ a3 b3 e
 subst e
 have nd:p.toList.Nodup:=o.perm.nodup_iff.mpr List.nodup_range
 exact h ((List.getElem?_inj (by rw [Array.length_toList,o.size];exact hi) nd).mp (a1.trans b1.symm))
noncomputable def Sr (c:Nat→Int) (p:Array Nat) (k:Nat):Prop:=∀ i j,i<j→j<k→ky c p i<ky c p j
noncomputable def Dr (c:Nat→Int) (p:Array Nat) (k:Nat):Prop:=∀ i j,i<j→j<k→ky c p j<ky c p i
theorem Sr.ext {n:Nat} (h:Sr c p n) (h1:1≤n) (h2:ky c p (n - 1)<ky c p n):Sr c p (n+1):=fun i j a b=>by
 by_cases e:j=n
 ·subst e
  by_cases e:i=j - 1
  ·subst e;exact h2
  ·exact Int.lt_trans (h i (j - 1) (by lia) (by lia)) h2
 ·exact h i j a (by lia)
theorem Dr.ext {n:Nat} (h:Dr c p n) (h1:1≤n) (h2:ky c p n<ky c p (n - 1)):Dr c p (n+1):=fun i j a b=>by
 by_cases e:j=n
 ·subst e
  by_cases e:i=j - 1
  ·subst e;exact h2
  ·exact Int.lt_trans h2 (h i (j - 1) (by lia) (by lia))
 ·exact h i j a (by lia)
theorem ji {α:Type} {i j:Nat} {k:Bool→KasT α} {G:α→Shared→Prop} (A:Xd cmp c N s) (hi:i<N) (hj:j<N) (h:c i<c j) (q:(k true).kasWp cmp G s):(KasT.ask i j k).kasWp cmp G s :=
 A i j _ hi hj (by rw [decide_eq_true h];exact q)
theorem WO {α:Type} {i j:Nat} {k:Bool→KasT α} {G:α→Shared→Prop} (A:Xd cmp c N s) (hi:i<N) (hj:j<N) (h:¬ c i<c j) (q:(k false).kasWp cmp G s):(KasT.ask i j k).kasWp cmp G s :=
 A i j _ hi hj (by rw [decide_eq_false h];exact q)
theorem zGu (A:Xd cmp c N s) (o:Od c N p) {G:Nat→Shared→Prop}:∀ f n,1≤n→n+f=N→Sr c p n→(∀ m,n≤m→m≤N→Sr c p m→(m=N∨ky c p m<ky c p (m - 1))→G m s)→(kas_asc p f n).kasWp cmp G s:=by
 intro f
 induction f with
 | zero=>exact fun n _ h2 h3 g=>g n (Nat.le_refl _) (Nat.le_of_eq h2) h3 (.inl h2)
 | succ f ih =>
  intro n h1 h2 h3 g
  by_cases h:ky c p n<ky c p (n - 1)
  ·exact ji A (o.lt (by lia)) (o.lt (by lia)) h (g n (Nat.le_refl _) (by lia) h3 (.inr h))
  ·refine WO A (o.lt (by lia)) (o.lt (by lia)) h ?_
   have:=o.ne (i:=n) (j:=n - 1) (by lia) (by lia) (by lia)
   exact ih (n+1) (by lia) (by lia) (h3.ext h1 (by lia)) fun m a=>g m (by lia)
theorem zGl (A:Xd cmp c N s) (o:Od c N p) {G:Array Nat×Nat×Nat→Shared→Prop}:∀ f n,1≤n→n+f=N→Dr c p n→(∀ m,n≤m→m≤N→Dr c p m→G (p,m,0) s)→(kas_desc f p n 0).kasWp cmp G s:=by
 intro f
 induction f with
 | zero=>exact fun n _ h2 h3 g=>g n (Nat.le_refl _) (Nat.le_of_eq h2) h3
 | succ f ih =>
  intro n h1 h2 h3 g
  by_cases h:ky c p n<ky c p (n - 1)
  ·exact ji A (o.lt (by lia)) (o.lt (by lia)) h (ih (n+1) (by lia) (by lia) (h3.ext h1 h) fun m a=>g m (by lia))
  ·refine WO A (o.lt (by lia)) (o.lt (by lia)) h ?_
   have:=o.ne (i:=n) (j:=n - 1) (by lia) (by lia) (by lia)
   exact ji A (o.lt (by lia)) (o.lt (by lia)) (show ky c p (n - 1)<ky c p n by lia) (g n (Nat.le_refl _) (by lia) h3)
theorem z0y {n:Nat} (h:n≤p.size) (k:Nat):ky c (kas_rev p 0 n) k=if k<n then ky c p (n - 1 - k) else ky c p k:=by
 unfold ky kas_rev
 rw [Array.getD_eq_getD_getElem?,getElem?_mirror_all h]
 by_cases q:k<n
 ·rw [if_pos ⟨Nat.zero_le _,q⟩,if_pos q,Nat.zero_add,← Array.getD_eq_getD_getElem?]
 ·rw [if_neg fun x=>q x.2,if_neg q,← Array.getD_eq_getD_getElem?]
theorem Dr.rev {n:Nat} (d:Dr c p n) (h:n≤p.size):Sr c (kas_rev p 0 n) n:=fun i j a b=>by
 rw [z0y h,z0y h,if_pos (Nat.lt_trans a b),if_pos b]
 exact d _ _ (Nat.sub_lt_sub_left (Nat.lt_of_lt_of_le a (Nat.le_sub_one_of_lt b)) a) (Nat.lt_of_le_of_lt (Nat.sub_le _ _) (Nat.sub_lt (Nat.lt_of_le_of_lt (Nat.zero_le _) b) Nat.one_pos))
theorem zDu (A:Xd cmp c N s) (o:Od c N p) {n:Nat} {G:Nat×Array Nat→Shared→Prop} (h1:1≤n) (h2:n≤N) (d:Dr c p n) (g:∀ m q,Od c N q→1≤m→m≤N→Sr c q m→G (m,q) s):(kas_tail3 n N p).kasWp cmp G s:=by
 unfold kas_tail3
 rw [KasT.kasWp_bind]
 have o':Od c N (kas_rev p 0 n):=o.of (mirror_perm _ _ _ _)
 exact zGu A o' (N - n) n h1 (by lia) (d.rev (o.size.symm▸h2)) fun m a b q _=>g m _ o' (by lia) b q
theorem zEi (A:Xd cmp c N s) (o:Od c N p) {G:Nat×Array Nat→Shared→Prop} (h1:1≤N) (g:∀ m q,Od c N q→1≤m→m≤N→Sr c q m→G (m,q) s):(kas_count N p).kasWp cmp G s:=by
 unfold kas_count
 rw [KasT.kasWp_bind]
 refine zGu A o (N - 1) 1 (Nat.le_refl _) (by lia) (fun i j a b=>absurd b (by lia)) fun n a b q z=>?_
 by_cases e:n=N
 ·rw [if_pos (beq_iff_eq.mpr e)]
  exact g n p o a b q
 rw [if_neg fun x=>e (beq_iff_eq.mp x)]
 by_cases e1:n > 1
 ·rw [if_pos e1]
  exact ji A (o.lt (by lia)) (o.lt (by lia)) (q 0 (n - 1) (by lia) (by lia)) (g n p o a b q)
 ·rw [if_neg e1]
  have e2:n=1:=by lia
  subst e2
  have z:=z.resolve_left e
  unfold kas_descPart
  rw [KasT.kasWp_bind]
  refine zGl A o (N - 2) 2 (by lia) (by lia) (fun i j x y=>?_) fun m x y d=>?_
  ·have:j=1:=by lia
   subst this
   have:i=0:=by lia
   subst this
   exact z
  ·exact zDu A o (n:=m) (by lia) y d g
theorem zF6 {k f l r:Nat}:kas_place p k (f+1) l r=if l≥r then .ret l else .ask (p.getD k 0) (p.getD ((l+r) / 2) 0) fun c=>if c=true then kas_place p k f l ((l+r) / 2) else kas_place p k f ((l+r) / 2+1) r:=rfl
theorem Zd (A:Xd cmp c N s) (o:Od c N p) {k:Nat} {G:Nat→Shared→Prop} (hk:k<N) (g:∀ l,l≤k→(∀ i,i<l→ky c p i<ky c p k)→(∀ i,l≤i→i<k→ky c p k<ky c p i)→G l s):∀ f l r,l≤r→r≤k→r≤l+f→(∀ i,i<l→ky c p i<ky c p k)→(∀ i,r≤i→i<k→ky c p k<ky c p i)→Sr c p k→(kas_place p k f l r).kasWp cmp G s:=by
 intro f
 induction f with
 | zero=>exact fun l r a b d x y _=>g l (by lia) x fun i q=>y i (by lia)
 | succ f ih =>
  intro l r a b d x y z
  rw [zF6]
  by_cases e:l≥r
  ·rw [if_pos e]
   exact g l (by lia) x fun i q=>y i (by lia)
  rw [if_neg e]
  have m1:l≤(l+r) / 2:=by lia
  have m2:(l+r) / 2<r:=by lia
  have m3:(l+r) / 2≤l+f:=by lia
  revert m1 m2 m3
  generalize (l+r) / 2=m
  intro m1 m2 m3
  by_cases h:ky c p k<ky c p m
  ·refine ji A (o.lt hk) (o.lt (by lia)) h (ih l m m1 (by lia) m3 x (fun i q w=>?_) z)
   by_cases e:i=m
   ·subst e;exact h
   ·exact Int.lt_trans h (z m i (by lia) w)
  ·refine WO A (o.lt hk) (o.lt (by lia)) h (ih (m+1) r m2 b (by lia) (fun i q=>?_) y z)
   have:=o.ne (i:=k) (j:=m) hk (by lia) (by lia)
   have h2:ky c p m<ky c p k:=by lia
   by_cases e:i=m
   ·subst e;exact h2
   ·exact Int.lt_trans (z i m (by lia) (by lia)) h2
theorem z0z {k l:Nat} (h:k<p.size) (hl:l≤k) (i:Nat):ky c (bubble p k (k - l)) i=if i=l then ky c p k else if l<i∧i≤k then ky c p (i - 1) else ky c p i:=by
 have e:k - (k - l)=l:=Nat.sub_sub_self hl
 unfold ky
 rw [Array.getD_eq_getD_getElem?,getElem?_bubble h _ (Nat.sub_le _ _),e]
 by_cases q:i=l
 ·rw [if_pos q,if_pos q,← Array.getD_eq_getD_getElem?]
 rw [if_neg q,if_neg q]
 by_cases q:l<i∧i≤k
 ·rw [if_pos q,if_pos q,← Array.getD_eq_getD_getElem?]
 ·rw [if_neg q,if_neg q,← Array.getD_eq_getD_getElem?]
theorem Sr.bub {k l:Nat} (z:Sr c p k) (h:k<p.size) (hl:l≤k) (x:∀ i,i<l→ky c p i<ky c p k) (y:∀ i,l≤i→i<k→ky c p k<ky c p i):Sr c (bubble p k (k - l)) (k+1):=fun i j a b=>by
 rw [z0z h hl,z0z h hl]
 have bk:=Nat.le_of_lt_succ b
 have j0:j - 1<k:=Nat.lt_of_lt_of_le (Nat.sub_lt (Nat.lt_of_le_of_lt (Nat.zero_le _) a) Nat.one_pos) bk
 by_cases e1:i=l
 ·subst e1
  rw [if_pos rfl,if_neg (Nat.ne_of_gt a),if_pos ⟨a,bk⟩]
  exact y _ (Nat.le_sub_one_of_lt a) j0
 rw [if_neg e1]
 by_cases e2:l<i
 ·rw [if_pos ⟨e2,Nat.le_trans (Nat.le_of_lt a) bk⟩,if_neg (Nat.ne_of_gt (Nat.lt_trans e2 a)),if_pos ⟨Nat.lt_trans e2 a,bk⟩]
  exact z _ _ (Nat.sub_lt_sub_right (Nat.succ_le_of_lt (Nat.lt_of_le_of_lt (Nat.zero_le _) e2)) a) j0
 have il:i<l:=Nat.lt_of_le_of_ne (Nat.not_lt.mp e2) e1
 rw [if_neg fun q=>e2 q.1]
 by_cases e3:j=l
 ·rw [if_pos e3];exact x i il
 rw [if_neg e3]
 by_cases e4:l<j
 ·rw [if_pos ⟨e4,bk⟩];exact z _ _ (Nat.lt_of_lt_of_le il (Nat.le_sub_one_of_lt e4)) j0
 ·rw [if_neg fun q=>e4 q.1];exact z _ _ a (Nat.lt_of_lt_of_le (Nat.lt_of_le_of_ne (Nat.not_lt.mp e4) e3) hl)
theorem zHe (A:Xd cmp c N s) {G:Array Nat→Shared→Prop} (g:∀ q,Od c N q→Sr c q N→G q s):∀ f p k,Od c N p→k+f=N→Sr c p k→(kas_bin f p k).kasWp cmp G s:=by
 intro f
 induction f with
 | zero =>
  intro p k o h z
  have h:k=N:=h
  subst h
  exact g p o z
 | succ f ih =>
  intro p k o h z
  show ((kas_place p k k 0 k).bind fun l=>kas_bin f (bubble p k (k - l)) (k+1)).kasWp cmp G s
  rw [KasT.kasWp_bind]
  exact Zd A o (by lia) (fun l a x y=>ih _ (k+1) (o.of (bubble_perm _ _ _)) (by lia) (z.bub (by rw [o.size];lia) a x y)) k 0 k (Nat.zero_le _) (Nat.le_refl _) (by lia) (fun i q=>absurd q (Nat.not_lt_zero _)) (fun i a b=>absurd a (by lia)) z
theorem zEz (A:Xd cmp c N s) (inj:∀ i j,i<N→j<N→c i=c j→i=j) {G:Array Nat→Shared→Prop} (h1:1≤N) (g:∀ q,Od c N q→Sr c q N→G q s):(kas_sort N).kasWp cmp G s:=by
 unfold kas_sort
 rw [KasT.kasWp_bind]
 refine zEi A ⟨.refl _,inj⟩ h1 fun m q o a b z=>?_
 by_cases e:m<N
 ·rw [if_pos e,Nat.max_eq_left a]
  exact zHe A g _ _ _ o (by lia) z
 ·rw [if_neg e]
  have e:m=N:=by lia
  subst e
  exact g q o z
end
end Mine
end
section
namespace Mine
open PySem PySem.W PySem.Calls PyProof.Rows
section
variable {prog:Program} {w:World} {A:Around} {E:Value→Shared→Prop} {s:Shared}
noncomputable def z48 (h:Heap) (v:Value) (q:Int×Int):Prop:=∃ a o n t u,v=.ref a∧h.get? a=some o∧o.cls=.type "tuple" ∧ o.data=.seq #[.int q.1 t,.int q.2 u] n
noncomputable def code (q:Int×Int):Int:=q.1 * 1048576+q.2
noncomputable abbrev jk (q:Int×Int):Prop:=0≤q.2∧q.2<1048576
structure Prs (h:Heap) (vs:List Value) (qs:List (Int×Int)):Prop where
 len:vs.length=qs.length
 at_:∀ i,i<vs.length→z48 h (vs.getD i .none) (qs.getD i (0,0))
theorem zE9 {x y:Value} {p q:Int×Int} {Q:Bool→Shared→Prop} (hx:z48 s.heap x p) (hy:z48 s.heap y q) (zp:jk p) (zq:jk q) (h:Q (decide (code p<code q)) s):wpAny (model prog w) A (keyLt' (tuples' true) x y) Q E s:=by
 obtain ⟨a,o,n,t,u,rfl,ha,_,da⟩:=hx
 obtain ⟨b,r,m,t',u',rfl,hb,_,db⟩:=hy
 obtain ⟨p1,p2⟩:=p
 obtain ⟨q1,q2⟩:=q
 have z1:0≤p2∧p2<1048576:=zp
 have z2:0≤q2∧q2<1048576:=zq
 have h:Q (decide (p1 * 1048576+p2<q1 * 1048576+q2)) s:=h
 refine kat_lt ha da hb db (kat_cons (wpAny_eqBool_int ?_))
 by_cases e:p1=q1
 ·subst e
  rw [show (p1 == p1)=true from beq_self_eq_true _]
  refine kat_yes (kat_cons (wpAny_eqBool_int ?_))
  by_cases e:p2=q2
  ·subst e
   rw [show (p2 == p2)=true from beq_self_eq_true _]
   refine kat_yes (kat_nil ?_)
   rw [decide_eq_false (Int.lt_irrefl _)] at h
   exact h
  ·rw [show (p2 == q2)=false from beq_eq_false_iff_ne.mpr e]
   refine kat_no (kat_one _ _ (wpAny_lt_int ?_))
   rw [show decide (p1 * 1048576+p2<p1 * 1048576+q2)=decide (p2<q2) from decide_eq_decide.mpr (by lia)] at h
   exact h
 ·rw [show (p1 == q1)=false from beq_eq_false_iff_ne.mpr e]
  refine kat_no (oneLt_int ?_)
  rw [show decide (p1 * 1048576+p2<q1 * 1048576+q2)=decide (p1<q1) from decide_eq_decide.mpr (by lia)] at h
  exact h
theorem Prs.keeps {h h':Heap} {vs:List Value} {qs:List (Int×Int)} (r:Prs h vs qs) (hk:∀ b o,o.cls=.type "tuple" → h.get? b=some o→h'.get? b=some o):Prs h' vs qs :=
 ⟨r.len,fun i hi=>let ⟨a,o,n,t,u,e,ho,hc,hd⟩:=r.at_ i hi;⟨a,o,n,t,u,e,hk _ _ hc ho,hc,hd⟩⟩
theorem Prs.tail {h:Heap} {v:Value} {vs:List Value} {q:Int×Int} {qs:List (Int×Int)} (r:Prs h (v::vs) (q::qs)):Prs h vs qs :=
 ⟨Nat.succ.inj r.len,fun i hi=>r.at_ (i+1) (Nat.succ_lt_succ hi)⟩
theorem Prs.tups {h:Heap}:∀ {vs:List Value} {qs:List (Int×Int)},Prs h vs qs→∃ fs:List Value,KatTups h vs fs∧fs.length=vs.length∧∀ v∈fs,∃ i t,v=.int i t:=by
 intro vs
 induction vs with
 | nil=>exact fun _=>⟨[],.nil,rfl,fun v h=>absurd h List.not_mem_nil⟩
 | cons v vs ih =>
  intro qs r
  cases qs with
  | nil=>exact absurd r.len (Nat.succ_ne_zero _)
  | cons q qs =>
   obtain ⟨fs,k,l,f⟩:=ih r.tail
   obtain ⟨a,o,n,t,u,e,ho,hc,hd⟩:=r.at_ 0 (Nat.succ_pos _)
   have e:v=.ref a:=e
   subst e
   exact ⟨.int q.1 t::fs,.cons ho hc hd rfl k,congrArg (·+1) l,fun v hv=>(List.mem_cons.mp hv).elim (fun e=>⟨_,_,e⟩) (f v)⟩
theorem z11 {vs:List Value} {qs:List (Int×Int)} {Q:SortKind→Shared→Prop} (r:Prs s.heap vs qs) (h2:2≤vs.length) (h:Q (tuples' true) s):wpAny (model prog w) A (keyKind' vs.toArray) Q E s:=by
 obtain ⟨fs,k,l,f⟩:=r.tups
 exact kat_kind (T:=.type "int") k (by lia) (fun v hv=>by obtain ⟨i,t,rfl⟩:=f v hv;exact .of_pure rfl) rfl h
theorem jE {α:Type} (d:α) (l:List α):(List.range l.length).map (fun i=>l.getD i d)=l:=by
 refine List.ext_getElem (by simp) fun i h1 h2=>?_
 simp [h2]
theorem JZ (qs:List (Int×Int)):(qs.mergeSort fun x y=>decide (code x≤code y)).Pairwise fun x y=>code x≤code y :=
 (List.pairwise_mergeSort (le:=fun x y=>decide (code x≤code y)) (fun a b c h1 h2=>decide_eq_true (Int.le_trans (of_decide_eq_true h1) (of_decide_eq_true h2))) (fun a b=>Bool.or_eq_true_iff.mpr ((Int.le_total (code a) (code b)).imp decide_eq_true decide_eq_true)) qs).imp of_decide_eq_true
theorem ZO {α:Type} {d:α} {l:List α} {i:Nat} (h:i<l.length):l.getD i d=l[i]:=by simp [h]
noncomputable def byP {α:Type} (d:α) (l:List α) (p:List Nat):List α:=p.map fun i=>l.getD i d
theorem YH {a:Addr} {vs:List Value} {qs:List (Int×Int)} {n:Nat} {P:PySem.Fin→Shared→Prop} (ho:s.heap.get? a=some (seqObj "list" vs.toArray n)) (r:Prs s.heap vs qs) (ok:∀ q∈qs,jk q) (nd:(qs.map code).Nodup) (h64:vs.length<64)
  (h:∀ p:List Nat,p.Perm (List.range vs.length)→(byP (0,0) qs p).Pairwise (fun x y=>code x<code y)→P (.done (.ret .none)) { s with heap:=sortedHeap s.heap a vs (byP Value.none vs p).toArray }) :
  wpAny (model prog w) A (Builtin.«list.sort» ⟨[.ref a],[]⟩) P E s:=by
 rw [list_sort_plain]
 have ha:a<s.heap.objs.size:=Heap.lt_size ho
 have hz:vs.length≤sizeLine:=Nat.le_trans (Nat.le_of_lt h64) (by rw [sizeLine_eq];lia)
 refine wpAny_bind (listItems_at ho rfl ?_)
 refine wpAny_bind (listUpdate_at ho rfl ?_ (by rw [List.size_toArray];exact hz) (Nat.zero_le _))
 obtain ⟨e1,ho1⟩:∃ e1,(s.heap.update a (Obj.mapSeq fun _=>(#[]:Array Value))).get? a=some (seqObj "list" #[] e1):=⟨_,get?_update_seq ho (fun _=>#[])⟩
 refine wpAny_bind (seqEpoch_at ho1 rfl ?_)
 refine wpAny_bind (wpAny_newTuple ?_ hz)
 refine wpAny_bind (wpAny_newList ?_ (Nat.zero_le _))
 refine wpAny_holding ?_
 have hk6:∀ b o,b≠a→s.heap.get? b=some o→(((s.heap.update a (Obj.mapSeq fun _=>(#[]:Array Value))).push (seqObj "tuple" vs.toArray 0)).push (seqObj "list" #[] 0)).get? b=some o:=fun b o hb e =>
  Heap.get?_push_of_some _ (Heap.get?_push_of_some _ (by rw [Heap.get?_update_ne _ _ _ _ hb];exact e))
 have ho6:(((s.heap.update a (Obj.mapSeq fun _=>(#[]:Array Value))).push (seqObj "tuple" vs.toArray 0)).push (seqObj "list" #[] 0)).get? a=some (seqObj "list" #[] e1) :=
  Heap.get?_push_of_some _ (Heap.get?_push_of_some _ ho1)
 have r6:Prs (((s.heap.update a (Obj.mapSeq fun _=>(#[]:Array Value))).push (seqObj "tuple" vs.toArray 0)).push (seqObj "list" #[] 0)) vs qs:=r.keeps fun b o hc e=>hk6 b o (fun q=>by
  subst q;rw [ho] at e;cases e;injection hc with h;exact absurd h (by decide)) e
 show wpAny (model prog w) A _ P E { s with heap:=((s.heap.update a (Obj.mapSeq fun _=>(#[]:Array Value))).push (seqObj "tuple" vs.toArray 0)).push (seqObj "list" #[] 0) }
 have fin:∀ (p:List Nat),p.length=vs.length→P (.done (.ret .none)) { s with heap:=sortedHeap s.heap a vs (byP Value.none vs p).toArray }→wpAny (model prog w) A (do
   let touched:=(← seqEpoch a) != e1
   Builtin.List.listUpdate (.ref a) fun _=>(byP Value.none vs p).toArray
   if touched then rule "list.sort.modified";raiseError "ValueError" "list modified during sort"
   ret .none) P E { s with heap:=((s.heap.update a (Obj.mapSeq fun _=>(#[]:Array Value))).push (seqObj "tuple" vs.toArray 0)).push (seqObj "list" #[] 0) }:=fun p hp k=>by
  refine wpAny_bind (seqEpoch_at ho6 rfl ?_)
  refine wpAny_bind (listUpdate_at ho6 rfl ?_ (Nat.zero_le _) (by rw [List.size_toArray];show (byP Value.none vs p).length≤_;unfold byP;rw [List.length_map,hp];exact Nat.le_succ_of_le hz))
  simp only [bne_self_eq_false,Bool.false_eq_true,if_false]
  exact wpAny_pure k
 dsimp only
 by_cases h2:vs.toArray.size<2
 ·rw [if_pos h2,if_pos h2]
  refine wpAny_bind (wpAny_pure ?_)
  rw [StateT.run_pure]
  refine wpAny_bind (wpAny_pure ?_)
  have e:((vs.toArray.zip vs.toArray).map (·.2))=(byP Value.none vs (List.range vs.length)).toArray:=by
   unfold byP;rw [jE];apply Array.toList_inj.mp;rw [Array.toList_map,Array.toList_zip];exact List.map_snd_zip (Nat.le_refl _)
  have k:=fin (List.range vs.length) List.length_range (h _ (.refl _) (by
   unfold byP;rw [r.len,jE]
   rw [List.size_toArray,r.len] at h2
   cases qs with
   | nil=>exact .nil
   | cons q qs=>cases qs with
    | nil=>exact List.pairwise_singleton _ _
    | cons=>exact absurd h2 (by simp)))
  rw [← e] at k
  exact k
 ·rw [if_neg h2,if_neg h2]
  rw [List.size_toArray] at h2
  refine wpAny_bind (z11 r6 (by lia) ?_)
  refine wpAny_bind (wpAny_mono (kat_run (κ:=tuples' true) (ks:=vs) (vs:=vs) (Q:=fun st' s'=>∃ p:Array Nat,s'={ s with heap:=((s.heap.update a (Obj.mapSeq fun _=>(#[]:Array Value))).push (seqObj "tuple" vs.toArray 0)).push (seqObj "list" #[] 0) }∧arrOf st'=p.map (kas_item (vs.toArray.zip vs.toArray))∧failedOf st'=none∧Od (fun i=>code (qs.getD i (0,0))) vs.length p∧Sr (fun i=>code (qs.getD i (0,0))) p vs.length)
   (G:=fun p s'=>s'={ s with heap:=((s.heap.update a (Obj.mapSeq fun _=>(#[]:Array Value))).push (seqObj "tuple" vs.toArray 0)).push (seqObj "list" #[] 0) }∧Od (fun i=>code (qs.getD i (0,0))) vs.length p∧Sr (fun i=>code (qs.getD i (0,0))) p vs.length) rfl (by lia) h64 (fun p st' s' _ a2 a3 a4=>⟨p,a4.1,a2,a3,a4.2⟩)
   (zEz (fun i j C hi hj q=>?_) (fun i j hi hj e=>?_) (by lia) fun q o z=>⟨rfl,o,z⟩)) ?_ fun _ _ e=>e)
  ·exact zE9 (r6.at_ i hi) (r6.at_ j hj) (ok _ (by rw [ZO (r.len▸hi)];exact List.getElem_mem _)) (ok _ (by rw [ZO (r.len▸hj)];exact List.getElem_mem _)) q
  ·rw [r.len] at hi hj
   rw [ZO hi,ZO hj] at e
   have l1:i<(qs.map code).length:=by rw [List.length_map];exact hi
   exact (List.getElem?_inj l1 nd).mp (by rw [List.getElem?_map,List.getElem?_map,y6 hi,y6 hj];exact congrArg some e)
  rintro ⟨⟨⟩,st'⟩ s' ⟨p,rfl,har,hf,o,z⟩
  dsimp only
  rw [kat_snds rfl har,hf]
  refine fin p.toList (by rw [Array.length_toList,o.size]) (h _ o.perm ?_)
  unfold byP
  rw [List.pairwise_map,List.pairwise_iff_getElem]
  intro i j hi hj hij
  rw [Array.length_toList,o.size] at hi hj
  have:=z i j hij hj
  unfold ky at this
  rw [Array.getD_eq_getD_getElem?,Array.getD_eq_getD_getElem?,Array.getElem?_eq_getElem (o.size▸hi),Array.getElem?_eq_getElem (o.size▸hj)] at this
  simpa using this
theorem Qo {l:Addr} {vs:List Value} {qs:List (Int×Int)} {Q:Value→Shared→Prop} (hl:s.heap.IsList l vs.toArray) (r:Prs s.heap vs qs) (ok:∀ q∈qs,jk q) (nd:(qs.map code).Nodup) (h64:vs.length<64)
  (h:∀ p:List Nat,p.Perm (List.range vs.length)→(byP (0,0) qs p).Pairwise (fun x y=>code x<code y)→Q (.ref (s.heap.objs.size+1)) { s with heap:=sortedAll s.heap vs (byP Value.none vs p).toArray }) :
  wpAny (model prog w) A (call (.builtin "sorted") [.ref l]) Q E s:=by
 have hz:vs.length≤sizeLine:=Nat.le_trans (Nat.le_of_lt h64) (by rw [sizeLine_eq];lia)
 refine call_function_entry kind_sorted plain_sorted entry_sorted (args_sorted1 _) ?_
 unfold Builtin.«sorted»
 refine wpAny_bind (m:=checkCount "sorted" 1 1 _) (wpAny_pure ?_)
 refine wpAny_bind (collect_list hl ?_ hz)
 refine wpAny_bind (wpAny_newList ?_ hz)
 have hsz:((s.heap.push (seqObj "list" #[] 0)).update s.heap.objs.size (Obj.mapSeq (·++vs.toArray))).objs.size=s.heap.objs.size+1:=by
  rw [Heap.size_update,size_push']
 have hoL:(((s.heap.push (seqObj "list" #[] 0)).update s.heap.objs.size (Obj.mapSeq (·++vs.toArray))).push (seqObj "list" vs.toArray 0)).get? (s.heap.objs.size+1)=some (seqObj "list" vs.toArray 0):=by
  rw [← hsz];exact Heap.get?_push_size _ rfl
 have keep:∀ b o,s.heap.get? b=some o→(((s.heap.push (seqObj "list" #[] 0)).update s.heap.objs.size (Obj.mapSeq (·++vs.toArray))).push (seqObj "list" vs.toArray 0)).get? b=some o:=fun b o q =>
  Heap.get?_push_of_some _ (by rw [Heap.get?_update_ne _ _ _ _ (Nat.ne_of_lt (Heap.lt_size q))];exact Heap.get?_push_of_some _ q)
 show wpAny _ _ _ _ _ { s with heap:=((s.heap.push (seqObj "list" #[] 0)).update s.heap.objs.size (Obj.mapSeq (·++vs.toArray))).push (seqObj "list" vs.toArray 0) }
 rw [hsz]
 refine wpAny_bind (wpAny_holding (wpAny_call_entry slot_list_sort ⟨_,hoL,rfl⟩ entry_list_sort (YH hoL (r.keeps fun b o _ e=>keep b o e) ok nd h64 fun p a1 a2=>⟨_,rfl,?_⟩) (args_list_sort _)))
 exact wpAny_pure ⟨_,rfl,h p a1 a2⟩
end
end Mine
end
section
set_option genSizeOf false
set_option genInjectivity false
noncomputable section
namespace Mine
open PySem
inductive Bi where
 | len | isinstance | int | bool | str | list | range | min | max | any | all | enumerate | sorted | tuple
inductive AV where
 | none | bool (b:Bool) | int (i:Int) | str (s:Str)
 | ref (a:Nat) | tup (xs:List AV) | lst (xs:List AV) | range (a b:Int)
 | fn (x:Str) | cls (x:Str) | bi (b:Bi)
inductive AO where
 | list (xs:List AV)
 | inst (cls:Str) (fs:List (Str×AV))
 | dict (kvs:List (Int×AV))
noncomputable abbrev Hp:=List AO
noncomputable abbrev AFr:=List (Option AV)
set_option genInjectivity true in
inductive Out (α:Type) where
 | stuck
 | ok (a:α) (h:Hp)
 | exc (c:Str) (h:Hp)
noncomputable def Out.bind {α β:Type} (o:Out α) (k:α→Hp→Out β):Out β:=match o with
 | .stuck=>.stuck
 | .ok a h=>k a h
 | .exc c h=>.exc c h
theorem Out.bind_ok {α β:Type} (a:α) (h:Hp) (k:α→Hp→Out β):(Out.ok a h).bind k=k a h:=rfl
noncomputable def Out.bind0 {α β:Type} (o:Out α) (k:α→Hp→Out β):Out β:=match o with
 | .ok a h=>k a h
 | _=>.stuck
theorem Out.bind0_ok {α β:Type} (a:α) (h:Hp) (k:α→Hp→Out β):(Out.ok a h).bind0 k=k a h:=rfl
theorem Out.bind_stuck {α β:Type} (k:α→Hp→Out β):(Out.stuck:Out α).bind k=.stuck:=rfl
noncomputable def Out.of {α:Type} (o:Option α) (h:Hp):Out α:=match o with
 | some a=>.ok a h
 | none=>.stuck
theorem Out.of_some {α:Type} (a:α) (h:Hp):Out.of (some a) h=.ok a h:=rfl
theorem Out.of_none {α:Type} (h:Hp):Out.of (none:Option α) h=.stuck:=rfl
theorem nos {α:Type} {P:Prop} {t:α} (h:(none:Option α)=some t):P:=by cases h
theorem wJ {α:Type} {P:α→Prop} {o:Option {t:α // P t}} {t:α} (h:o.map (·.1)=some t):P t:=by
 obtain ⟨q,_,rfl⟩:=yC h
 exact q.2
theorem nob {P:Prop} (h:false=true):P:=by cases h
theorem nok {α:Type} {P:Prop} {a:α} {hp:Hp} (h:(Out.stuck:Out α)=.ok a hp):P:=by cases h
theorem zb {α:Type} {p:Prop} [Decidable p] {x y:α} (e:(if p then some x else none)=some y):p∧x=y:=by
 by_cases h:p
 ·rw [if_pos h] at e;cases e;exact ⟨h,rfl⟩
 ·rw [if_neg h] at e;exact nos e
theorem XK {α:Type} {p:Prop} [Decidable p] {o:Option α} {y:α} (e:(if p then o else none)=some y):p∧o=some y:=by
 by_cases h:p
 ·rw [if_pos h] at e;exact ⟨h,e⟩
 ·rw [if_neg h] at e;exact nos e
inductive Callee where
 | fn (x:Str)
 | cls (x:Str)
 | meth (c x:Str)
 | has (c x:Str)
noncomputable abbrev CF:=Callee→List AV→Hp→Out AV
noncomputable abbrev XE:=CF→AFr→Hp→Out AV
noncomputable abbrev XT:=CF→AFr→Hp→Out Bool
noncomputable abbrev XEs:=CF→AFr→Hp→Out (List AV)
inductive AFlow where
 | next
 | ret (v:AV)
inductive OS where
 | stuck
 | ok (fl:AFlow) (fr:AFr) (h:Hp)
 | exc (new:Bool) (c:Str) (fr:AFr) (h:Hp)
noncomputable abbrev XS:=CF→AFr→Hp→OS
noncomputable def Out.bindS {α:Type} (o:Out α) (fr:AFr) (k:α→Hp→OS):OS:=match o with
 | .stuck=>.stuck
 | .ok a h=>k a h
 | .exc c h=>.exc false c fr h
theorem Out.bindS_ok {α:Type} (a:α) (h:Hp) (fr:AFr) (k:α→Hp→OS):(Out.ok a h).bindS fr k=k a h:=rfl
noncomputable def yI {α β:Type} (f:α→Option β):List α→Option (List β)
 | []=>some []
 | x::xs=>(match f x,yI f xs with
  | some y,some ys=>some (y::ys)
  | _,_=>none)
noncomputable def y8:AV→Option Int
 | .int i=>some i
 | _=>none
noncomputable def WL:AV→Option Bool
 | .bool i=>some i
 | _=>none
noncomputable def zEs:AV→Option Bi
 | .bi i=>some i
 | _=>none
noncomputable def xV:AV→Option Str
 | .str i=>some i
 | _=>none
noncomputable def yi:AV→Option Nat
 | .ref i=>some i
 | _=>none
noncomputable def j6:AV→Option (List AV)
 | .tup xs=>some xs
 | _=>none
noncomputable def zi (h:Hp) (a:Nat):Option (List AV):=match h[a]? with
 | some (.list xs)=>some xs
 | _=>none
noncomputable def zw (h:Hp) (a:Nat):Option (List (Int×AV)):=match h[a]? with
 | some (.dict kvs)=>some kvs
 | _=>none
noncomputable def yp {K:Type} [DecidableEq K] (kvs:List (K×AV)) (k:K):Option AV:=(kvs.find? fun kv=>kv.1=k).map (·.2)
noncomputable def jr (kvs:List (Int×AV)) (k:Int) (v:AV):List (Int×AV):=if kvs.any (fun kv=>kv.1=k) then kvs.map (fun kv=>if kv.1=k then (kv.1,v) else kv) else kvs++[(k,v)]
noncomputable def QT:AV→Option PyData
 | .none=>some .none
 | .bool b=>some (.bool b)
 | .int i=>some (.int i)
 | .str s=>if PyData.strOk s then some (.str s) else none
 | _=>none
noncomputable def toD (hp:Hp):Nat→AV→Option PyData
 | 0,v=>QT v
 | n+1,v=>(match yi v with
  | some a=>(match zi hp a with
   | some xs=>(yI (toD hp n) xs).map .list
   | none=>none)
  | none=>(match j6 v with
   | some xs=>(yI (toD hp n) xs).map .tuple
   | none=>QT v))
noncomputable def aEq (h:Hp) (a b:AV):Option Bool:=(toD h 8 a).bind fun x=>(toD h 8 b).map fun y=>PyData.eqv x y
noncomputable def wM (h:Hp):AV→Option (List AV)
 | .lst xs=>some xs
 | .ref a=>zi h a
 | _=>none
noncomputable def small:Nat:=1048576
noncomputable def okI:Int→Bool
 | .ofNat m=>Nat.ble m 4611686018427387903
 | .negSucc _=>false
theorem x6 {k:Int}:okI k=true↔0≤k∧k<4611686018427387904:=by
 cases k with
 | ofNat m =>
  show Nat.ble m 4611686018427387903=true↔_
  rw [Nat.ble_eq]
  show _↔(0:Int)≤(m:Int)∧(m:Int)<4611686018427387904
  lia
 | negSucc m =>
  have:Int.negSucc m<0:=Int.negSucc_lt_zero m
  exact ⟨fun h=>(by cases h),fun h=>absurd h.1 (by lia)⟩
theorem wm {k:Nat} (h:k≤small):okI (k:Int)=true:=by
 have:k≤1048576:=h
 exact x6.mpr ⟨by lia,by lia⟩
noncomputable def xK (h:Hp):AV→Option Bool
 | .none=>some false
 | .bool b=>some b
 | .int i=>some (decide (i≠0))
 | _=>none
noncomputable def zGr:Operator→Int→Int→Option Int
 | .Add,i,j=>some (i+j)
 | .Sub,i,j=>some (i - j)
 | .Mult,i,j=>if i.natAbs<2 ^ 63∨j.natAbs<2 ^ 63 then some (i * j) else none
 | .FloorDiv,i,j=>if j≠0∧j.natAbs<1073741824 then some (i.fdiv j) else none
 | .Mod,i,j=>if j=0 then none else some (i.fmod j)
 | _,_,_=>none
noncomputable def JV:Operator→Str→Str→Option AV
 | .Add,x,y=>if x.length+y.length≤small then some (.str (x++y)) else none
 | _,_,_=>none
noncomputable def ofP:Option (AV×Hp)→Out AV
 | some p=>.ok p.1 p.2
 | none=>.stuck
noncomputable def XY (op:Operator) (a b:AV) (h:Hp):Out AV:=Out.of (match xV a with
  | some x=>(xV b).bind fun y=>JV op x y
  | none=>(y8 a).bind fun i=>(y8 b).bind fun j=>(zGr op i j).map AV.int) h
noncomputable def isA (a b:AV):Option Bool:=match b with
 | .none=>(match a with
  | .none=>some true
  | .bool _=>some false
  | .int _=>some false
  | .str _=>some false
  | .ref _=>some false
  | _=>Option.none)
 | .bool y=>(WL a).map fun x=>x == y
 | _=>Option.none
noncomputable def z33 (h:Hp) (v:AV):Option (List PyData):=(yi v).bind fun a=>(zi h a).bind fun xs=>yI (toD h 7) xs
noncomputable def jC (h:Hp) (l x:AV):Option Nat:=(z33 h l).bind fun ds=>(toD h 8 x).bind fun d=>ds.findIdx? fun y=>PyData.eqv y d
noncomputable def jf (h:Hp) (l x:AV):Option Nat:=(z33 h l).bind fun ds=>(toD h 8 x).map fun d=>ds.countP fun y=>PyData.eqv y d
noncomputable def inA (h:Hp) (a b:AV):Option Bool:=match yi b with
 | some d=>(y8 a).bind fun k=>(zw h d).map fun kvs=>(yp kvs k).isSome
 | none=>(xV a).bind fun x=>(xV b).map fun y=>Txt.contains y x
noncomputable def z1s (p:Int→Int→Bool) (a b:AV):Option Bool:=(y8 a).bind fun i=>(y8 b).map fun j=>p i j
noncomputable def neD (h:Hp) (a b:AV):Option Bool:=(yi a).bind fun x=>(zw h x).bind fun kvs=>(yi b).bind fun y=>(zw h y).bind fun k2=>if k2.isEmpty=true then some (!kvs.isEmpty) else none
noncomputable def yl (op:CmpOp) (a b:AV) (h:Hp):Option Bool:=match op with
 | .Eq=>aEq h a b
 | .NotEq=>(match neD h a b with
  | some r=>some r
  | none=>(aEq h a b).map (!·))
 | .Lt=>z1s (fun i j=>decide (i<j)) a b
 | .LtE=>z1s (fun i j=>decide (i≤j)) a b
 | .Gt=>z1s (fun i j=>decide (j<i)) a b
 | .GtE=>z1s (fun i j=>decide (j≤i)) a b
 | .Is=>isA a b
 | .IsNot=>(isA a b).map (!·)
 | .In=>inA h a b
 | .NotIn=>(inA h a b).map (!·)
noncomputable def zEa (v:AV) (t:Bi):Option Bool:=match t with
 | .int=>(match v with
  | .int _=>some true
  | _=>Option.none)
 | .bool=>(match v with
  | .bool _=>some true
  | .int _=>some false
  | _=>Option.none)
 | .str=>(match v with
  | .str _=>some true
  | _=>Option.none)
 | .tuple=>(j6 v).map fun _=>true
 | _=>Option.none
inductive Src where
 | imm (xs:List AV)
 | ref (a:Nat)
 | enum (a:Nat)
noncomputable def qp (a b:Int):List AV:=(List.range (b - a).toNat).map fun (k:Nat)=>.int (a+(k:Int))
noncomputable def jM (s:Str):List AV:=s.cps.toList.map fun c=>.str ⟨#[c]⟩
noncomputable def xC (h:Hp):AV→Option (Src×Nat)
 | .tup xs=>some (.imm xs,xs.length)
 | .range a b=>some (.imm (qp a b),(b - a).toNat)
 | .str s=>some (.imm (jM s),s.length)
 | .ref a=>(match h[a]? with
  | some (.list xs)=>some (.ref a,xs.length)
  | _=>none)
 | _=>none
noncomputable def Src.next? (h:Hp):Src→Nat→Option (Option AV)
 | .imm xs,k=>some xs[k]?
 | .ref a,k=>(match h[a]? with
  | some (.list ys)=>some ys[k]?
  | _=>none)
 | .enum a,k=>(match h[a]? with
  | some (.list ys)=>some ((ys[k]?).map fun x=>.tup [.int k,x])
  | _=>none)
noncomputable def z0x (h:Hp) (v:AV):Option Nat:=match (yi v).bind (zw h) with
 | some kvs=>some kvs.length
 | none=>(match xV v with
  | some x=>some x.length
  | none=>(wM h v).map List.length)
noncomputable def qU:List AV→Option AV
 | [a]=>some a
 | _=>none
noncomputable def YK:List AV→Option (AV×AV)
 | [a,b]=>some (a,b)
 | _=>none
noncomputable def xp:List AV→Option (List Bool)
 | []=>some []
 | x::xs=>(WL x).bind fun b=>(xp xs).map (b::·)
noncomputable def jx:List AV→Option (List Str)
 | []=>some []
 | x::xs=>(xV x).bind fun b=>(jx xs).map (b::·)
noncomputable abbrev prV (q:Int×Int):AV:=.tup [.int q.1,.int q.2]
noncomputable def Qw (v:AV):Option (Int×Int):=(j6 v).bind fun xs=>(YK xs).bind fun p=>(y8 p.1).bind fun i=>(y8 p.2).map fun j=>(i,j)
noncomputable def biO (b:Bi) (args:List AV) (h:Hp):Option (AV×Hp):=match b with
 | .len=>(qU args).bind fun v=>(z0x h v).map fun n=>(.int (n:Nat),h)
 | .isinstance=>(YK args).bind fun p=>(zEs p.2).bind fun t=>(zEa p.1 t).map fun r=>(.bool r,h)
 | .min=>(YK args).bind fun p=>(y8 p.1).bind fun i=>(y8 p.2).map fun j=>(.int (if j<i then j else i),h)
 | .max=>(YK args).bind fun p=>(y8 p.1).bind fun i=>(y8 p.2).map fun j=>(.int (if i<j then j else i),h)
 | .range=>(qU args).bind fun v=>(y8 v).bind fun b=>if b.natAbs<2 ^ 62 then some (.range 0 b,h) else none
 | .list=>(qU args).bind fun v=>(yi v).bind fun b=>(match zw h b with
  | some kvs=>some (.ref h.length,h++[.list (kvs.map fun p=>.int p.1)])
  | none=>(zi h b).bind fun xs=>if xs.length≤small then some (.ref h.length,h++[.list xs]) else none)
 | .sorted=>(qU args).bind fun v=>(yi v).bind fun b=>(match zw h b with
  | some kvs=>if kvs.length<64∧(kvs.map (·.1)).Pairwise (·≤·) then some (.ref h.length,h++[.list (kvs.map fun p=>.int p.1)]) else none
  | none=>(zi h b).bind fun xs=>(match yI y8 xs with
   | some is=>if is.length<64∧is.Pairwise (·≤·) then some (.ref h.length,h++[.list (is.map AV.int)]) else none
   | none=>(yI Qw xs).bind fun qs=>if qs.length<64∧(∀ q∈qs,jk q)∧(qs.map code).Nodup then some (.ref h.length,h++[.list ((qs.mergeSort fun x y=>decide (code x≤code y)).map prV)]) else none))
 | .any=>(qU args).bind fun v=>(wM h v).bind fun xs=>(xp xs).map fun bs=>(.bool (bs.any id),h)
 | .all=>(qU args).bind fun v=>(wM h v).bind fun xs=>(xp xs).map fun bs=>(.bool (bs.all id),h)
 | _=>none
noncomputable def yu (b:Bi) (args:List AV) (h:Hp):Out AV:=ofP (biO b args h)
inductive Me where
 | append | insert | index | count | remove | join | pop | extend | clear
noncomputable def xk (xs:List AV) (k:Nat) (v:AV):List AV:=xs.take k++v::xs.drop k
noncomputable def meO (m:Me) (a:Nat) (xs args:List AV) (h:Hp):Option (AV×Hp):=match m with
 | .append=>(qU args).bind fun v=>if xs.length<small then some (.none,h.set a (.list (xs++[v]))) else none
 | .insert=>(YK args).bind fun p=>(y8 p.1).bind fun i=>if xs.length<small∧okI i=true then some (.none,h.set a (.list (xk xs i.toNat p.2))) else none
 | .index=>(qU args).bind fun v=>(jC h (.ref a) v).map fun k=>(.int (k:Nat),h)
 | .count=>(qU args).bind fun v=>(jf h (.ref a) v).map fun k=>(.int (k:Nat),h)
 | .remove=>(qU args).bind fun v=>(y8 v).bind fun i=>(yI y8 xs).bind fun is=>(is.findIdx? (· == i)).map fun k=>(.none,h.set a (.list (xs.eraseIdx k)))
 | .extend=>(qU args).bind fun v=>(yi v).bind fun b=>(zi h b).bind fun ys=>if xs.length+ys.length<small then some (.none,h.set a (.list (xs++ys))) else none
 | .clear=>if args.isEmpty=true then some (.none,h.set a (.list [])) else none
 | _=>none
noncomputable def zGa (m:Me) (sep:Str) (args:List AV) (h:Hp):Option (AV×Hp):=match m with
 | .join=>(qU args).bind fun v=>(wM h v).bind fun xs=>(jx xs).bind fun ss=>if (ss.map (·.length)).sum+ss.length * sep.length≤small then some (.str (Str.join sep ss),h) else none
 | _=>none
noncomputable def yN (m:Me) (o:AV) (args:List AV) (h:Hp):Out AV:=ofP (match xV o with
 | some sep=>zGa m sep args h
 | none=>(yi o).bind fun a=>(zi h a).bind fun xs=>meO m a xs args h)
noncomputable def meD (m:Me) (a:Nat) (args:List AV) (h:Hp):Option (AV×Hp):=match m with
 | .pop=>(qU args).bind fun u=>(y8 u).bind fun k=>(zw h a).bind fun kvs=>(yp kvs k).map fun v=>(v,h.set a (.dict (kvs.filter fun x=>!decide (x.1=k))))
 | _=>none
noncomputable def wF (h:Hp) (o i:AV):Option AV:=(y8 i).bind fun k=>match (yi o).bind (zw h) with
 | some kvs=>yp kvs k
 | none=>if okI k then (match xV o with
 | some s=>(s.cps[k.toNat]?).map fun c=>.str ⟨#[c]⟩
 | none=>(match j6 o with
  | some xs=>xs[k.toNat]?
  | none=>(wM h o).bind fun xs=>xs[k.toNat]?)) else none
noncomputable def j4 {α:Type} (xs:List α) (l:Nat) (u:Option Nat):List α:=match u with
 | some u=>(xs.take u).drop l
 | none=>xs.drop l
noncomputable def xc:AV→Option (Option Nat)
 | .none=>some none
 | .int k=>if okI k then some (some k.toNat) else none
 | _=>none
noncomputable def zHd (h:Hp) (o l u:AV):Option (AV×Hp):=(xc l).bind fun lo=>(xc u).bind fun hi=>(wM h o).bind fun xs=>if xs.length≤small then some (.ref h.length,h++[.list (j4 xs (lo.getD 0) hi)]) else none
noncomputable def z1q (h:Hp) (o l u:AV):Out AV:=ofP (zHd h o l u)
noncomputable def zn:XE:=fun _ _ _=>.stuck
noncomputable def z7 (v:AV):XE:=fun _ _ h=>.ok v h
noncomputable def z5 (i:Nat):XE:=fun _ fr h=>match fr[i]? with
 | some (some v)=>.ok v h
 | _=>.stuck
noncomputable def zB (o:Option AV):XE:=fun _ _ h=>Out.of o h
noncomputable def zM (op:Operator) (l r:XE):XE:=fun cf fr h=>(l cf fr h).bind fun a h₁=>(r cf fr h₁).bind fun b h₂=>XY op a b h₂
noncomputable def WF (x:XE):XE:=fun cf fr h=>(x cf fr h).bind fun v h₁=>Out.of ((xK h₁ v).map fun b=>.bool (!b)) h₁
noncomputable def zEm (x:XE):XE:=fun cf fr h=>(x cf fr h).bind fun v h₁=>Out.of ((y8 v).map fun i=>.int (-i)) h₁
noncomputable def evs:List XE→XEs
 | []=>fun _ _ h=>.ok [] h
 | x::xs=>fun cf fr h=>(x cf fr h).bind fun v h₁=>(evs xs cf fr h₁).bind fun vs h₂=>.ok (v::vs) h₂
noncomputable def zm (xs:List XE):XE:=fun cf fr h=>(evs xs cf fr h).bind fun vs h₁=>.ok (.ref h₁.length) (h₁++[.list vs])
noncomputable def yt (xs:List XE):XE:=fun cf fr h=>(evs xs cf fr h).bind fun vs h₁=>.ok (.tup vs) h₁
noncomputable def Yt:List AV→Option (AV×AV×AV)
 | [a,b,c]=>some (a,b,c)
 | _=>none
noncomputable def zF1 (h:Hp) (o:AV):Option (AV×Hp):=(yi o).bind fun a=>(zi h a).bind fun xs=>(Yt xs).map fun t=>(.ref h.length,h++[.list [t.2.2,t.2.1,t.1]])
noncomputable def Qa (o:XE):XE:=fun cf fr h=>(o cf fr h).bind0 fun v h₁=>ofP (zF1 h₁ v)
noncomputable def xn:XE:=fun _ _ h=>.ok (.ref h.length) (h++[.dict []])
noncomputable def wf (op:BoolOp):List XE→XE
 | []=>zn
 | [x]=>x
 | x::rest=>fun cf fr h=>(x cf fr h).bind fun v h₁=>match xK h₁ v with
  | some t=>(match op,t with
   | .And,false=>.ok v h₁
   | .Or,true=>.ok v h₁
   | _,_=>wf op rest cf fr h₁)
  | none=>.stuck
noncomputable def wD (left:AV):List CmpOp→List XE→XT
 | [],_=>fun _ _ _=>.stuck
 | op::ops,rs=>(match rs with
  | []=>fun _ _ _=>.stuck
  | r::rs=>(match ops with
   | []=>(match rs with
    | []=>fun cf fr h=>(r cf fr h).bind fun v h₁=>Out.of (yl op left v h₁) h₁
    | _::_=>fun _ _ _=>.stuck)
   | _::_=>fun cf fr h=>(r cf fr h).bind fun v h₁=>(match yl op left v h₁ with
    | none=>.stuck
    | some b=>cond b (wD v ops rs cf fr h₁) (.ok false h₁))))
noncomputable def zQ (l:XE) (ops:List CmpOp) (rs:List XE):XT:=fun cf fr h=>(l cf fr h).bind fun v h₁=>wD v ops rs cf fr h₁
noncomputable def ju (l:XE) (ops:List CmpOp) (rs:List XE):XE:=fun cf fr h=>(zQ l ops rs cf fr h).bind fun b h₁=>.ok (.bool b) h₁
noncomputable def zy (x:XE):XT:=fun cf fr h=>(x cf fr h).bind fun v h₁=>Out.of (xK h₁ v) h₁
noncomputable def yP (t:XT):XT:=fun cf fr h=>(t cf fr h).bind fun b h₁=>.ok (!b) h₁
noncomputable def zT (op:BoolOp):List XT→XT
 | []=>fun _ _ h=>.ok (op == .And) h
 | t::ts=>fun cf fr h=>(t cf fr h).bind fun b h₁=>match op,b with
  | .And,false=>.ok false h₁
  | .Or,true=>.ok true h₁
  | _,_=>zT op ts cf fr h₁
noncomputable def zE (o:XE) (name:Str):XE:=fun cf fr h=>(o cf fr h).bind fun v h₁=>match v with
 | .ref a=>(match h₁[a]? with
  | some (.inst _ fs)=>Out.of (fs.lookup name) h₁
  | _=>.stuck)
 | _=>.stuck
noncomputable def zK (o i:XE):XE:=fun cf fr h=>(o cf fr h).bind fun v h₁=>(i cf fr h₁).bind fun k h₂=>Out.of (wF h₂ v k) h₂
noncomputable def ZF (o l u:XE):XE:=fun cf fr h=>(o cf fr h).bind fun v h₁=>(l cf fr h₁).bind fun a h₂=>(u cf fr h₂).bind fun b h₃=>z1q h₃ v a b
noncomputable def zD (f:XE) (args:List XE):XE:=fun cf fr h=>(f cf fr h).bind fun g h₁=>(evs args cf fr h₁).bind0 fun vs h₂=>match g with
 | .fn x=>cf (.fn x) vs h₂
 | .cls x=>cf (.cls x) vs h₂
 | .bi b=>yu b vs h₂
 | _=>.stuck
noncomputable def wU (cf:CF) (c name:Str) (v:AV) (o:Out (List AV)):Out AV:=match o with
 | .stuck=>.stuck
 | .ok vs h=>cf (.meth c name) (v::vs) h
 | .exc c' h=>(match cf (.has c name) [] h with
  | .ok _ _=>.exc c' h
  | _=>.stuck)
noncomputable def z8 (o:XE) (name:Str) (me:Option Me) (args:List XE):XE:=fun cf fr h=>(o cf fr h).bind fun v h₁=>match v with
 | .ref a=>(match h₁[a]? with
  | some (.inst c fs)=>(match fs.lookup name with
   | some _=>.stuck
   | none=>wU cf c name v (evs args cf fr h₁))
  | some (.list _)=>(match me with
   | some m=>(evs args cf fr h₁).bind0 fun vs h₂=>yN m v vs h₂
   | none=>.stuck)
  | some (.dict _)=>(match me with
   | some m=>(evs args cf fr h₁).bind0 fun vs h₂=>ofP (meD m a vs h₂)
   | none=>.stuck)
  | none=>.stuck)
 | .str _=>(match me with
   | some m=>(evs args cf fr h₁).bind0 fun vs h₂=>yN m v vs h₂
   | none=>.stuck)
 | _=>.stuck
inductive NTgt where
 | one (i:Nat)
 | many (is:List Nat)
noncomputable def yx:List Nat→List AV→AFr→Option AFr
 | [],[],fr=>some fr
 | i::is,v::vs,fr=>if i<fr.length then yx is vs (fr.set i (some v)) else none
 | _,_,_=>none
noncomputable def z27:AV→Option (List AV)
 | .tup xs=>some xs
 | _=>none
noncomputable def NTgt.bind (t:NTgt) (v:AV) (fr:AFr):Option AFr:=match t with
 | .one i=>yx [i] [v] fr
 | .many is=>(match z27 v with
  | some vs=>yx is vs fr
  | none=>none)
noncomputable def yJ (t:NTgt) (test:XT) (elt:XE) (src:Src):Nat→Nat→List AV→CF→AFr→Hp→Out (List AV)
 | 0,_,_=>fun _ _ _=>.stuck
 | f+1,k,acc=>fun cf fr h=>match src.next? h k with
  | none=>.stuck
  | some none=>.ok acc h
  | some (some x)=>(match t.bind x fr with
   | none=>.stuck
   | some fr₁=>(test cf fr₁ h).bind0 fun b h₁ =>
     if b then (elt cf fr₁ h₁).bind0 fun v h₂=>if acc.length<small then yJ t test elt src f (k+1) (acc++[v]) cf fr₁ h₂ else .stuck
     else yJ t test elt src f (k+1) acc cf fr₁ h₁)
noncomputable def yE (it:XE) (own:Nat) (t:NTgt) (test:XT) (elt:XE):XE:=fun cf fr h=>(it cf fr h).bind fun v h₁ =>
 match xC h₁ v with
 | none=>.stuck
 | some (src,n)=>(yJ t test elt src (n+1) 0 [] cf (fr++List.replicate own none) h₁).bind0 fun vs h₂=>.ok (.ref h₂.length) (h₂++[.list vs])
inductive Tgt where
 | names (t:NTgt)
 | attr (o:XE) (name:Str)
 | item (o i:XE)
 | none
noncomputable def wc (name:Str) (v:AV):List (Str×AV)→List (Str×AV)
 | []=>[(name,v)]
 | p::r=>if p.1 == name then (p.1,v)::r else p::wc name v r
noncomputable def yG:XS:=fun _ _ _=>.stuck
noncomputable def zW (x:XE):XS:=fun cf fr h=>(x cf fr h).bindS fr fun v h₁=>.ok (.ret v) fr h₁
noncomputable def zI (x:XE):XS:=fun cf fr h=>(x cf fr h).bindS fr fun _ h₁=>.ok .next fr h₁
noncomputable def sIf (t:XT) (a b:XS):XS:=fun cf fr h=>(t cf fr h).bindS fr fun c h₁=>if c then a cf fr h₁ else b cf fr h₁
noncomputable def zA:List XS→XS
 | []=>fun _ fr h=>.ok .next fr h
 | s::r=>fun cf fr h=>match s cf fr h with
  | .ok .next fr₁ h₁=>zA r cf fr₁ h₁
  | o=>o
noncomputable def qF (h:Hp) (o i v:AV):Option Hp:=(yi o).bind fun a=>(y8 i).bind fun k=>match zw h a with
 | some kvs=>if kvs.length<small then some (h.set a (.dict (jr kvs k v))) else none
 | none=>(zi h a).bind fun xs=>if 0≤k∧k<xs.length∧xs.length≤small then some (h.set a (.list (xs.set k.toNat v))) else none
noncomputable def z9 (okf:Str→Str→Bool) (t:Tgt) (x:XE):XS:=fun cf fr h=>match t with
 | .names t=>(x cf fr h).bindS fr fun v h₁=>(match t.bind v fr with
  | some fr₁=>.ok .next fr₁ h₁
  | none=>.stuck)
 | .attr o name=>(x cf fr h).bindS fr fun v h₁=>(o cf fr h₁).bindS fr fun ov h₂=>(match ov with
  | .ref a=>(match h₂[a]? with
   | some (.inst c fs)=>if okf c name && decide (fs.length<100) then .ok .next fr (h₂.set a (.inst c (wc name v fs))) else .stuck
   | _=>.stuck)
  | _=>.stuck)
 | .item o i=>(x cf fr h).bindS fr fun v h₁=>(o cf fr h₁).bindS fr fun ov h₂=>(i cf fr h₂).bindS fr fun iv h₃=>(match qF h₃ ov iv v with
  | some h₄=>.ok .next fr h₄
  | none=>.stuck)
 | .none=>.stuck
noncomputable def Y4 (h:Hp) (t:NTgt) (v:AV) (fr:AFr):Option AFr:=match t with
 | .one i=>NTgt.bind (.one i) v fr
 | .many is=>(match yi v with
  | some a=>(zi h a).bind fun xs=>yx is xs fr
  | none=>NTgt.bind (.many is) v fr)
noncomputable def xm (t:NTgt) (body:XS) (src:Src):Nat→Nat→XS
 | 0,_=>yG
 | f+1,k=>fun cf fr h=>match src.next? h k with
  | none=>.stuck
  | some none=>.ok .next fr h
  | some (some x)=>(match Y4 h t x fr with
   | none=>.stuck
   | some fr₁=>(match body cf fr₁ h with
    | .ok .next fr₂ h₂=>xm t body src f (k+1) cf fr₂ h₂
    | .ok (.ret v) fr₂ h₂=>.ok (.ret v) fr₂ h₂
    | _=>.stuck))
noncomputable def xo (t:NTgt) (it:XE) (enum:Bool) (body:XS):XS:=fun cf fr h=>(it cf fr h).bindS fr fun v h₁ =>
 match xC h₁ v with
 | none=>.stuck
 | some (src,n)=>(match enum with
  | true=>(match src with
   | .ref a=>(match t with
    | .many _=>xm t body (.enum a) (n+1) 0 cf fr h₁
    | .one _=>.stuck)
   | _=>.stuck)
  | false=>xm t body src (n+1) 0 cf fr h₁)
noncomputable def yv (t:XT) (body:XS):Nat→XS
 | 0=>yG
 | f+1=>fun cf fr h=>match t cf fr h with
  | .ok b h₁=>(match b with
   | true=>(match body cf fr h₁ with
    | .ok .next fr₂ h₂=>yv t body f cf fr₂ h₂
    | .ok (.ret v) fr₂ h₂=>.ok (.ret v) fr₂ h₂
    | _=>.stuck)
   | false=>.ok .next fr h₁)
  | _=>.stuck
noncomputable def yy (c:Str):XS:=fun _ fr h=>.exc true c fr h
inductive HV where
 | int (k:Int)
 | slot (j:Nat)
noncomputable def HV.of (v:HV) (fr:AFr):Option AV:=match v with
 | .int k=>some (.int k)
 | .slot j=>(fr[j]?).join
inductive HB where
 | set (i:Nat) (v:HV)
 | tst (a v:HV)
noncomputable def HB.run (b:HB) (fr:AFr) (h:Hp):OS:=match b with
 | .set i v=>if i<fr.length then (match v.of fr with
  | some u=>.ok .next (fr.set i (some u)) h
  | none=>.stuck) else .stuck
 | .tst a v=>(match (a.of fr).bind y8 with
  | none=>.stuck
  | some i=>(match (v.of fr).bind y8 with
   | none=>.stuck
   | some j=>if i=j then .ok (.ret (.bool false)) fr h else .ok .next fr h))
noncomputable def W9 (c:Str) (fr:AFr) (h:Hp):List (Str×HB)→OS
 | []=>.stuck
 | p::r=>if c=p.1 then p.2.run fr h else W9 c fr h r
noncomputable def YD (b:XS) (ps:List (Str×HB)):XS:=fun cf fr h=>match b cf fr h with
 | .stuck=>.stuck
 | .ok fl fr' h'=>.ok fl fr' h'
 | .exc nw c' fr' h'=>(match nw with
  | true=>.stuck
  | false=>W9 c' fr' h' ps)
structure GTab where
 glob:Str→Option AV
 okf:Str→Str→Bool
 exc:Str→Bool
 exq:Str→Str→Bool
structure Sc where
 kind:Str→Option NameKind
 slot:Str→Option Nat
 width:Nat
noncomputable def z0o:Me→Str
 | .append => "append" | .insert => "insert" | .index => "index" | .count => "count" | .remove => "remove" | .join => "join" | .pop => "pop" | .extend => "extend" | .clear => "clear"
noncomputable def zG7:List (Str×Me):=[Me.append,.insert,.index,.count,.remove,.join,.pop,.extend,.clear].map fun m=>(z0o m,m)
noncomputable def ZE (x:Str):Option Me:=zG7.lookup x
theorem qK {α β:Type} [BEq α] [LawfulBEq α] {x:α} {b:β}:∀ {l:List (α×β)},l.lookup x=some b→(x,b)∈l
 | [],h=>by cases h
 | (y,c)::r,h=>by
  rw [List.lookup_cons] at h
  cases q:(x == y) with
  | true=>rw [q] at h;cases h;rw [eq_of_beq q];exact .head _
  | false=>rw [q] at h;exact .tail _ (qK h)
theorem jl {name:Str} {m:Me} (h:ZE name=some m):name=z0o m:=by
 obtain ⟨m',_,e⟩:=List.mem_map.mp (qK h)
 cases e;rfl
noncomputable def qZ:Expr→Bool
 | .Call (.Name _ _) [] [] _=>true
 | _=>false
noncomputable def Sc.isOwn (sc:Sc) (x:Str):Option Nat:=match sc.kind x with
 | some .local | some .cell=>sc.slot x
 | _=>none
noncomputable def qW (sc:Sc):Expr→Option Nat
 | .Name x _=>sc.isOwn x
 | _=>none
noncomputable def xu (sc:Sc):Expr→Option NTgt
 | .Name x _=>(sc.isOwn x).map .one
 | .Tuple es _ _=>(match yI (qW sc) es with
  | some is=>if is.length≤10∧is.Nodup then some (.many is) else none
  | none=>none)
 | _=>none
noncomputable def zr (s:Scope):List Str:=(s.names.filter fun p=>p.2 == .local && p.1 != (".0" : Str)).map (·.1)
noncomputable def jc (x:Str):List Str→Nat→Option Nat
 | [],_=>none
 | y::ys,k=>if y == x then some k else jc x ys (k+1)
noncomputable def Sc.inner (sc:Sc) (s:Scope):Sc where
 kind:=fun x=>match s.names.lookup x with
  | some .free=>if sc.kind x == some .cell then some .cell else some .free
  | o=>o
 slot:=fun x=>match s.names.lookup x with
  | some .local=>jc x (zr s) sc.width
  | some .free=>(match sc.kind x with
   | some .cell | some .free=>sc.slot x
   | _=>none)
  | _=>none
 width:=sc.width+(zr s).length
noncomputable def qO (sc:Sc) (s:Scope):Bool:=s.kind == .function && s.names.all (fun p=>p.2 == .local || (p.2 == .free && (sc.kind p.1 == some .cell || sc.kind p.1 == some .free) && (sc.slot p.1).isSome) || p.2 == .globalImplicit) && (s.names.map (·.1)).Nodup
noncomputable def qD (s:Scope):Expr→Bool
 | .Name x _=>s.names.lookup x == some .local
 | .Tuple es _ _=>es.all fun e=>(match e with
  | .Name x _=>s.names.lookup x == some .local
  | _=>false)
 | _=>false
noncomputable def qI (e:Expr):Bool:=!Nat.beq e.ctorIdx 22
noncomputable def jT (e:Expr):Bool:=!Nat.beq e.ctorIdx 7
noncomputable def zDn (e:Expr):Option {t:Expr×Str×Pos // e=.Attribute t.1 t.2.1 t.2.2}:=match e with
 | .Attribute o name p=>some ⟨(o,name,p),rfl⟩
 | _=>none
noncomputable def Xa (e:Expr):Option (Expr×Str×Pos):=(zDn e).map (·.1)
noncomputable def Jp (e:Expr):Option {t:Option Expr×Option Expr×Option Expr×Pos // e=.Slice t.1 t.2.1 t.2.2.1 t.2.2.2}:=match e with
 | .Slice l u st p=>some ⟨(l,u,st,p),rfl⟩
 | _=>none
noncomputable def zEy (t:Option Expr×Option Expr×Option Expr×Pos):Option (Option Expr×Option Expr×Pos):=match t.2.2.1 with
 | none=>some (t.1,t.2.1,t.2.2.2)
 | some _=>none
noncomputable def qP (e:Expr):Option (Option (Option Expr×Option Expr×Pos)):=(Jp e).map fun t=>zEy t.1
noncomputable def XM (e:Expr):Bool:=Nat.ble 8 e.ctorIdx && Nat.ble e.ctorIdx 10
noncomputable def z1o (G:GTab) (sc:Sc) (x:Str):XE:=if x == ("__debug__" : Str) || x == ("__classdict__" : Str) then zn else (match sc.kind x with
 | some k=>(match k with
  | .globalImplicit=>zB (G.glob x)
  | .globalExplicit=>zn
  | .local=>(match sc.slot x with | some i=>z5 i | none=>zn)
  | .cell=>(match sc.slot x with | some i=>z5 i | none=>zn)
  | .free=>(match sc.slot x with | some i=>z5 i | none=>zn))
 | none=>zn)
noncomputable def z1p:Const→XE
 | .none=>z7 .none
 | .bool b=>z7 (.bool b)
 | .int i=>z7 (.int i)
 | .str s=>if s.length≤small then z7 (.str s) else zn
 | _=>zn
noncomputable def Xw {α:Type}:List α→Option α
 | [a]=>some a
 | _=>none
noncomputable def zDi (e:Expr):Option {t:Str×Pos // e=.Name t.1 t.2}:=match e with
 | .Name x p=>some ⟨(x,p),rfl⟩
 | _=>none
noncomputable def Zi (e:Expr):Option (Str×Pos):=(zDi e).map (·.1)
noncomputable def zDm (e:Expr):Option {t:Expr×List Expr×Pos // e=.Call t.1 t.2.1 [] t.2.2}:=match e with
 | .Call f as ks p=>(match ks with
  | []=>some ⟨(f,as,p),rfl⟩
  | _::_=>none)
 | _=>none
noncomputable def z1t (e:Expr):Option (Expr×List Expr×Pos):=(zDm e).map (·.1)
noncomputable def z1r (e:Expr):Option {t:Const×Nat×Pos // e=.Constant t.1 t.2.1 t.2.2}:=match e with
 | .Constant c k p=>some ⟨(c,k,p),rfl⟩
 | _=>none
noncomputable def jJ (e:Expr):Option (Const×Nat×Pos):=(z1r e).map (·.1)
noncomputable def unS (e:Expr):Option {t:UnaryOp×Expr×Pos // e=.UnaryOp t.1 t.2.1 t.2.2}:=match e with
 | .UnaryOp op x p=>some ⟨(op,x,p),rfl⟩
 | _=>none
noncomputable def zEb:UnaryOp→Bool
 | .USub=>true
 | _=>false
noncomputable def z3p:Const→Option Int
 | .int i=>some i
 | _=>none
theorem Wh {c:Const} {i:Int} (h:z3p c=some i):c=.int i:=by
 cases c with
 | int=>cases h;rfl
 | _=>exact nos h
noncomputable def zH5 (e:Expr):Option (Nat×Pos×Pos×Pos):=(Jp e).bind fun t=>t.1.2.2.1.bind fun s=>(unS s).bind fun u=>(jJ u.1.2.1).bind fun k=>(z3p k.1).bind fun i =>
 if t.1.1.isNone=true∧t.1.2.1.isNone=true∧zEb u.1.1=true∧i=1 then some (k.2.1,k.2.2,u.1.2.2,t.1.2.2.2) else none
noncomputable def z03 (e:Expr):Bool:=(zH5 e).isSome
noncomputable def zEw:Const→Option Str
 | .str m=>some m
 | _=>none
noncomputable def zGi:Bi→Bool
 | .enumerate=>true
 | _=>false
theorem qu {α:Type} {l:List α} {a:α} (h:Xw l=some a):l=[a]:=by
 cases l with
 | nil=>exact nos h
 | cons x r=>cases r with
  | nil=>cases h;rfl
  | cons=>exact nos h
theorem wT {e:Expr} {t:Str×Pos} (h:Zi e=some t):e=.Name t.1 t.2:=wJ (o:=zDi e) h
theorem QZ {e:Expr} {t:Expr×List Expr×Pos} (h:z1t e=some t):e=.Call t.1 t.2.1 [] t.2.2:=wJ (o:=zDm e) h
theorem ww {e:Expr} {t:Const×Nat×Pos} (h:jJ e=some t):e=.Constant t.1 t.2.1 t.2.2:=wJ (o:=z1r e) h
theorem z2g {c:Const} {m:Str} (h:zEw c=some m):c=.str m:=by
 cases c with
 | str=>cases h;rfl
 | _=>exact nos h
mutual
noncomputable def dE (G:GTab):Nat→Sc→Expr→XE
 | 0,_,_=>zn
 | n+1,sc,e=>match e with
  | .Constant c _ _=>z1p c
  | .Name x _=>z1o G sc x
  | .BoolOp op es _=>wf op (es.map (dE G n sc))
  | .BinOp l op r _=>zM op (dE G n sc l) (dE G n sc r)
  | .UnaryOp op x _=>(match op with
   | .Not=>WF (dE G n sc x)
   | .USub=>zEm (dE G n sc x)
   | _=>zn)
  | .List es _=>if es.all qI=true∧es.length≤1000 then zm (es.map (dE G n sc)) else zn
  | .Tuple es _ _=>if es.all qI=true∧es.length≤1000 then yt (es.map (dE G n sc)) else zn
  | .Compare l ops rs _=>if lastMarks ops rs=false then ju (dE G n sc l) ops (rs.map (dE G n sc)) else zn
  | .Call f args kws pos=>(match kws with
   | []=>if args.all qI=true∧args.length<30 then (match Xa f with
    | some t=>if qZ t.1=false∧(t.2.2.endLine == pos.line)=true then z8 (dE G n sc t.1) t.2.1 (ZE t.2.1) (args.map (dE G n sc)) else zn
    | none=>zD (dE G n sc f) (args.map (dE G n sc))) else zn
   | _::_=>zn)
  | .Dict ks vs _=>(match ks with
   | []=>(match vs with
    | []=>xn
    | _::_=>zn)
   | _::_=>zn)
  | .Attribute o name _=>if qZ o=false then zE (dE G n sc o) name else zn
  | .Subscript o i _=>(match qP i with
   | some q=>(match q with
    | some t=>ZF (dE G n sc o) (z1m G n sc t.1) (z1m G n sc t.2.1)
    | none=>if z03 i=true then Qa (dE G n sc o) else zn)
   | none=>zK (dE G n sc o) (dE G n sc i))
  | .ListComp elt gs s _=>(match gs with
   | [g]=>if qO sc s=true∧g.is_async=0∧jT g.iter=true∧qD s g.target=true then (match xu (sc.inner s) g.target with
    | some t=>yE (dE G n sc g.iter) (zr s).length t (zT .And (g.ifs.map (dT G n (sc.inner s)))) (dE G n (sc.inner s) elt)
    | none=>zn) else zn
   | _=>zn)
  | _=>zn
noncomputable def dT (G:GTab):Nat→Sc→Expr→XT
 | 0,_,_=>fun _ _ _=>.stuck
 | n+1,sc,e=>match e with
  | .UnaryOp op x _=>(match op with
   | .Not=>yP (dT G n sc x)
   | _=>fun _ _ _=>.stuck)
  | .BoolOp op es _=>zT op (es.map (dT G n sc))
  | .IfExp _ _ _ _=>fun _ _ _=>.stuck
  | .Compare l ops rs _=>if lastMarks ops rs=false then zQ (dE G n sc l) ops (rs.map (dE G n sc)) else fun _ _ _=>.stuck
  | e=>zy (dE G n sc e)
noncomputable def z1m (G:GTab):Nat→Sc→Option Expr→XE
 | 0,_,_=>zn
 | n+1,sc,e=>match e with
  | some e=>dE G n sc e
  | none=>z7 .none
end
noncomputable def xj (sc:Sc) (G:GTab) (e:Expr):Option Expr:=(z1t e).bind fun c=>(Zi c.1).bind fun x=>(Xw c.2.1).bind fun a=>(G.glob x.1).bind fun v=>(zEs v).bind fun b =>
 if zGi b=true∧sc.kind x.1=some .globalImplicit∧qI a=true∧(x.1 == ("__debug__" : Str))=false then some a else none
noncomputable def Yu (t e:Expr):Bool:=(Nat.beq t.ctorIdx 25 && Nat.beq e.ctorIdx 25) || Nat.beq t.ctorIdx 24
noncomputable def z1n (sc:Sc) (e:Expr):Tgt:=match xu sc e with
 | some t=>.names t
 | none=>.none
noncomputable def zHb (G:GTab) (n:Nat) (sc:Sc):Expr→Tgt
 | .Name x p=>z1n sc (.Name x p)
 | .Tuple es k p=>z1n sc (.Tuple es k p)
 | .Attribute o name _=>if qZ o=false then .attr (dE G n sc o) name else .none
 | .Subscript o i _=>(match qP i with
  | some _=>.none
  | none=>.item (dE G n sc o) (dE G n sc i))
 | _=>.none
noncomputable def ZI (e:Expr):Option (Str×Str):=(z1t e).bind fun c=>(Zi c.1).bind fun x=>(Xw c.2.1).bind fun a=>(jJ a).bind fun k=>(zEw k.1).map fun m=>(x.1,m)
noncomputable def zGs (s:Stmt):Option {t:List Expr×Expr×Pos // s=.Assign t.1 t.2.1 t.2.2}:=match s with
 | .Assign ts e p=>some ⟨(ts,e,p),rfl⟩
 | _=>none
noncomputable def zGt (s:Stmt):Option (List Expr×Expr×Pos):=(zGs s).map (·.1)
theorem z46 {s:Stmt} {t:List Expr×Expr×Pos} (h:zGt s=some t):s=.Assign t.1 t.2.1 t.2.2:=wJ (o:=zGs s) h
noncomputable def JN (sc:Sc) (e:Expr):Option HV:=match jJ e with
 | some k=>(z3p k.1).map .int
 | none=>(Zi e).bind fun x=>(sc.isOwn x.1).bind fun j=>if (x.1 == ("__debug__" : Str))=false∧(x.1 == ("__classdict__" : Str))=false then some (.slot j) else none
noncomputable def Z5:ExceptHandler→Option Expr×Option Str×List Stmt×Pos
 | .ExceptHandler t n b p=>(t,n,b,p)
theorem z19 (h:ExceptHandler):h=.ExceptHandler (Z5 h).1 (Z5 h).2.1 (Z5 h).2.2.1 (Z5 h).2.2.2:=by cases h;rfl
noncomputable def pwq (exq:Str→Str→Bool):List (Str×HB)→Bool
 | []=>true
 | p::r=>r.all (fun q=>exq q.1 p.1) && pwq exq r
noncomputable def zEt (sc:Sc) (s:Stmt):Option HB:=(zGt s).bind fun a=>(Xw a.1).bind fun y=>(Zi y).bind fun y=>(sc.isOwn y.1).bind fun i=>(JN sc a.2.1).map fun v=>.set i v
noncomputable def ifT (s:Stmt):Option {t:Expr×List Stmt×List Stmt×Pos // s=.If t.1 t.2.1 t.2.2.1 t.2.2.2}:=match s with
 | .If t a b p=>some ⟨(t,a,b,p),rfl⟩
 | _=>none
noncomputable def ifS (s:Stmt):Option (Expr×List Stmt×List Stmt×Pos):=(ifT s).map (·.1)
noncomputable def zGm (e:Expr):Option {t:Expr×List CmpOp×List Expr×Pos // e=.Compare t.1 t.2.1 t.2.2.1 t.2.2.2}:=match e with
 | .Compare l ops rs p=>some ⟨(l,ops,rs,p),rfl⟩
 | _=>none
noncomputable def zGn (e:Expr):Option (Expr×List CmpOp×List Expr×Pos):=(zGm e).map (·.1)
noncomputable def zF2 (s:Stmt):Option {t:Expr×Pos // s=.Return (some t.1) t.2}:=match s with
 | .Return eo q=>(match eo with
  | some e=>some ⟨(e,q),rfl⟩
  | none=>none)
 | _=>none
noncomputable def zF3 (s:Stmt):Option (Expr×Pos):=(zF2 s).map (·.1)
noncomputable def z15:CmpOp→Bool
 | .Eq=>true
 | _=>false
noncomputable def zGb:Const→Bool
 | .bool b=>!b
 | _=>false
noncomputable def zDr (sc:Sc) (s:Stmt):Option HB:=(ifS s).bind fun t=>(zGn t.1).bind fun c=>(Xw c.2.1).bind fun op=>(Xw c.2.2.1).bind fun r=>(Xw t.2.1).bind fun q=>(zF3 q).bind fun e=>(jJ e.1).bind fun k=>(JN sc c.1).bind fun a=>(JN sc r).bind fun v =>
 if t.2.2.1.isEmpty=true∧z15 op=true∧zGb k.1=true then some (.tst a v) else none
noncomputable def z1v (sc:Sc) (s:Stmt):Option HB:=match zEt sc s with
 | some b=>some b
 | none=>zDr sc s
noncomputable def qi (G:GTab) (sc:Sc) (h:ExceptHandler):Option (Str×HB):=(Z5 h).1.bind fun t=>(Zi t).bind fun x=>(Xw (Z5 h).2.2.1).bind fun s=>(z1v sc s).bind fun b=>if (Z5 h).2.1.isNone=true∧G.exc x.1=true∧sc.kind x.1=some .globalImplicit∧(x.1 == ("__debug__" : Str))=false then some (x.1,b) else none
mutual
noncomputable def dS (G:GTab):Nat→Sc→Stmt→XS
 | 0,_,_=>yG
 | n+1,sc,st=>match st with
  | .Return eo _=>(match eo with
   | some e=>zW (dE G n sc e)
   | none=>zW (z7 .none))
  | .Expr e _=>if XM e=false then zI (dE G n sc e) else yG
  | .Assign ts e _=>(match ts with
   | [t]=>if Yu t e=false then z9 G.okf (zHb G n sc t) (dE G n sc e) else yG
   | _=>yG)
  | .Raise e c _=>(match c with
   | some _=>yG
   | none=>(match e.bind ZI with
    | some p=>if G.exc p.1=true∧sc.kind p.1=some .globalImplicit∧(p.1 == ("__debug__" : Str))=false∧p.2.length≤small then yy p.1 else yG
    | none=>yG))
  | .Try b hs el fi _=>(match el with
   | _::_=>yG
   | []=>(match fi with
    | _::_=>yG
    | []=>(match yI (qi G sc) hs with
     | some ps=>if pwq G.exq ps=true∧ps.isEmpty=false then YD (dSs G n sc b) ps else yG
     | none=>yG)))
  | .If t a b _=>sIf (dT G n sc t) (dSs G n sc a) (dSs G n sc b)
  | .While t b els _=>(match els with
   | []=>yv (dT G n sc t) (dSs G n sc b) 300
   | _::_=>yG)
  | .For t it b els _=>(match els with
   | []=>(match xu sc t with
    | some t=>(match xj sc G it with
     | some e=>xo t (dE G n sc e) true (dSs G n sc b)
     | none=>if jT it=true then xo t (dE G n sc it) false (dSs G n sc b) else yG)
    | none=>yG)
   | _::_=>yG)
  | _=>yG
noncomputable def dSs (G:GTab):Nat→Sc→List Stmt→XS
 | 0,_,_=>yG
 | n+1,sc,sts=>zA (sts.map (dS G n sc))
end
structure Fn where
 np:Nat
 nl:Nat
 body:XS
inductive What where
 | fn (f:Fn)
 | cls
structure Tab where
 what:Str→Option What
 meth:Str→Str→Option Fn
noncomputable def yR (f:Fn) (cf:CF) (args:List AV) (h:Hp):Out AV :=
 if args.length=f.np then (match f.body cf (args.map some++List.replicate (f.nl - f.np) none) h with
  | .ok (.ret v) _ h'=>.ok v h'
  | .ok .next _ h'=>.ok .none h'
  | .exc _ c _ h'=>.exc c h'
  | .stuck=>.stuck) else .stuck
noncomputable def run (T:Tab):Nat→CF
 | 0=>fun _ _ _=>.stuck
 | n+1=>fun c args h=>match c with
  | .fn x=>(match T.what x with
   | some (.fn f)=>yR f (run T n) args h
   | _=>.stuck)
  | .meth c x=>(match T.meth c x with
   | some f=>yR f (run T n) args h
   | none=>.stuck)
  | .has c x=>(match T.meth c x with
   | some _=>.ok .none h
   | none=>.stuck)
  | .cls x=>(match T.what x with
   | some .cls=>(match T.meth x "__init__" with
    | some f=>(yR f (run T n) (.ref h.length::args) (h++[.inst x []])).bind0 fun v h'=>(match v with
     | .none=>.ok (.ref h.length) h'
     | _=>.stuck)
    | none=>.stuck)
   | _=>.stuck)
end Mine
end
end
section
set_option genSizeOf false
noncomputable section
namespace Mine
open PySem PySem.W
noncomputable abbrev Mu:=List (Addr×Option Addr)
noncomputable def ze (μ:Mu):List Addr:=μ.flatMap fun p=>p.1::p.2.toList
structure Cx where
 K:Frag
 base:Heap
 os:OsState
noncomputable def jD:Bi→Value
 | .str=>.type "str" | .any=>.builtin "any" | .all=>.builtin "all" | .enumerate=>.type "enumerate" | .len=>.builtin "len" | .isinstance=>.builtin "isinstance" | .int=>.type "int" | .bool=>.type "bool"  | .list=>.type "list"
 | .range=>.type "range" | .min=>.builtin "min" | .max=>.builtin "max" | .sorted=>.builtin "sorted" | .tuple=>.type "tuple"
mutual
inductive VR (X:Cx) (μ:Mu) (h:Heap):AV→Value→Prop
 | none:VR X μ h .none .none
 | bool (b:Bool):VR X μ h (.bool b) (.bool b)
 | int (i:Int) (t:Tok):VR X μ h (.int i) (.int i t)
 | str {x:Str} (t:Tok):x.length≤small→VR X μ h (.str x) (.str x t)
 | ref {a:Nat} {p:Addr×Option Addr}:μ[a]? = some p→VR X μ h (.ref a) (.ref p.1)
 | tup {c:Addr} {items:Array Value} {xs:List AV}:h.IsTuple c items→xs.length≤small→VRs X μ h xs items.toList→VR X μ h (.tup xs) (.ref c)
 | lst {c:Addr} {items:Array Value} {xs:List AV}:X.base.IsList c items→xs.length≤small→VRs X μ h xs items.toList→VR X μ h (.lst xs) (.ref c)
 | range {c:Addr} {a b:Int} {t u v:Tok}:IsRange h c a b 1 t u v→a.natAbs<2 ^ 62→b.natAbs<2 ^ 62→VR X μ h (.range a b) (.ref c)
 | fn {x:Str} {f:Addr}:nsIn X.K mainGlobals x=some (some (.ref f))→VR X μ h (.fn x) (.ref f)
 | cls {x:Str} {f:Addr}:nsIn X.K mainGlobals x=some (some (.ref f))→VR X μ h (.cls x) (.ref f)
 | bi (b:Bi):VR X μ h (.bi b) (jD b)
inductive VRs (X:Cx) (μ:Mu) (h:Heap):List AV→List Value→Prop
 | nil:VRs X μ h [] []
 | cons {x:AV} {v:Value} {xs:List AV} {vs:List Value}:VR X μ h x v→VRs X μ h xs vs→VRs X μ h (x::xs) (v::vs)
end
noncomputable def yW (o:Obj):Prop:=(o.cls=.type "tuple" ∧ ∃ xs n,o.data=.seq xs n)∨(o.cls=.type "range" ∧ ∃ vs,o.data=.fields vs)
section
variable {X:Cx} {μ μ':Mu} {h h':Heap} (hp:μ <+: μ') (hf:∀ b o,h.get? b=some o→yW o→h'.get? b=some o)
include hp hf
theorem VR.mono {x:AV} {v:Value} (r:VR X μ h x v):VR X μ' h' x v :=
 VR.rec (motive_1:=fun x v _=>VR X μ' h' x v) (motive_2:=fun xs vs _=>VRs X μ' h' xs vs) .none .bool .int (fun t z=>.str t z)
  (fun e=>.ref (by
   obtain ⟨r,rfl⟩:=hp
   rw [List.getElem?_append_left (yL e).1];exact e))
  (fun t z _ q=>.tup (let ⟨o,ho,hc,n,hd⟩:=t;⟨o,hf _ _ ho (.inl ⟨hc,_,n,hd⟩),hc,n,hd⟩) z q) (fun e z _ q=>.lst e z q) (fun e z1 z2=>.range (hf _ _ e (.inr ⟨rfl,_,rfl⟩)) z1 z2) .fn .cls .bi .nil (fun _ _ a b=>.cons a b) r
theorem VRs.mono {xs:List AV} {vs:List Value} (r:VRs X μ h xs vs):VRs X μ' h' xs vs:=by
 induction xs generalizing vs with
 | nil=>cases r;exact .nil
 | cons x xs ih=>cases r with | cons a b=>exact .cons (a.mono hp hf) (ih b)
end
section
variable {X:Cx} {μ:Mu} {h:Heap} {c:Value}
theorem VR.none_ (r:VR X μ h .none c):c=.none:=by cases r;rfl
theorem VR.bool_ {b:Bool} (r:VR X μ h (.bool b) c):c=.bool b:=by cases r;rfl
theorem VR.int_ {i:Int} (r:VR X μ h (.int i) c):∃ t,c=.int i t:=by cases r;exact ⟨_,rfl⟩
theorem VR.str_ {x:Str} (r:VR X μ h (.str x) c):∃ t,c=.str x t∧x.length≤small:=by cases r;exact ⟨_,rfl,by assumption⟩
theorem VR.ref_ {a:Nat} (r:VR X μ h (.ref a) c):∃ p,μ[a]? = some p∧c=.ref p.1:=by cases r;exact ⟨_,by assumption,rfl⟩
theorem VR.tup_ {xs:List AV} (r:VR X μ h (.tup xs) c):∃ a items,c=.ref a∧h.IsTuple a items∧xs.length≤small∧VRs X μ h xs items.toList:=by
 cases r with | tup a b d=>exact ⟨_,_,rfl,a,b,d⟩
theorem VR.lst_ {xs:List AV} (r:VR X μ h (.lst xs) c):∃ a items,c=.ref a∧X.base.IsList a items∧xs.length≤small∧VRs X μ h xs items.toList:=by
 cases r with | lst a b d=>exact ⟨_,_,rfl,a,b,d⟩
theorem VR.range_ {a b:Int} (r:VR X μ h (.range a b) c):∃ e t u v,c=.ref e∧IsRange h e a b 1 t u v∧a.natAbs<2 ^ 62∧b.natAbs<2 ^ 62:=by
 cases r with | range a b d=>exact ⟨_,_,_,_,rfl,a,b,d⟩
theorem VR.fn_ {x:Str} (r:VR X μ h (.fn x) c):∃ f,c=.ref f∧nsIn X.K mainGlobals x=some (some (.ref f)):=by cases r;exact ⟨_,rfl,by assumption⟩
theorem VR.cls_ {x:Str} (r:VR X μ h (.cls x) c):∃ f,c=.ref f∧nsIn X.K mainGlobals x=some (some (.ref f)):=by cases r;exact ⟨_,rfl,by assumption⟩
theorem VR.bi_ {b:Bi} (r:VR X μ h (.bi b) c):c=jD b:=by cases r;rfl
theorem VRs.nil_ {vs:List Value} (r:VRs X μ h [] vs):vs=[]:=by cases r;rfl
theorem VRs.cons_ {x:AV} {xs:List AV} {vs:List Value} (r:VRs X μ h (x::xs) vs):∃ v ws,vs=v::ws∧VR X μ h x v∧VRs X μ h xs ws:=by
 cases r with | cons a b=>exact ⟨_,_,rfl,a,b⟩
end
inductive FsR (X:Cx) (μ:Mu) (h:Heap):List (Str×AV)→List DictEntry→Prop
 | nil:FsR X μ h [] []
 | cons {n:Str} {v:AV} {hs:Int} {t:Tok} {w:Value} {r:List (Str×AV)} {es:List DictEntry}:VR X μ h v w→FsR X μ h r es→FsR X μ h ((n,v)::r) (⟨hs,.str n t,w⟩::es)
theorem FsR.mono {X:Cx} {μ μ':Mu} {h h':Heap} (hp:μ <+: μ') (hf:∀ b o,h.get? b=some o→yW o→h'.get? b=some o) :
  ∀ {fs:List (Str×AV)} {es:List DictEntry},FsR X μ h fs es→FsR X μ' h' fs es
 | _,_,.nil=>.nil
 | _,_,.cons a b=>.cons (a.mono hp hf) (b.mono hp hf)
noncomputable def xe (K:Frag) (C:Addr):Bool:=plainGet K C Str.empty && hasDictIn K C && (findIn K (.ref C) "__setattr__" == some (some (.builtin "object.__setattr__"))) && plainOver K C
noncomputable def wv (K:Frag) (C:Addr) (name:Str):Bool:=findIn K (.ref C) name == some none
inductive PRs (X:Cx) (μ:Mu) (h:Heap):List (Int×AV)→List (Int×Value)→Prop
 | nil:PRs X μ h [] []
 | cons {k:Int} {v:AV} {w:Value} {r:List (Int×AV)} {es:List (Int×Value)}:VR X μ h v w→PRs X μ h r es→PRs X μ h ((k,v)::r) ((k,w)::es)
theorem PRs.mono {X:Cx} {μ μ':Mu} {h h':Heap} (hp:μ <+: μ') (hf:∀ b o,h.get? b=some o→yW o→h'.get? b=some o) {fs:List (Int×AV)} {es:List (Int×Value)} (r:PRs X μ h fs es):PRs X μ' h' fs es:=by
 induction r with
 | nil=>exact .nil
 | cons a _ b=>exact .cons (a.mono hp hf) b
theorem z0e {prog prog':Program} {w w':World} {es:List DictEntry} {kvs:List (Int×Value)} (p:Pairs (intKind prog w) es kvs):Pairs (intKind prog' w') es kvs:=by
 induction p with
 | nil=>exact .nil
 | cons a b _ ih=>exact .cons a b ih
theorem z3y {prog prog':Program} {w w':World} {h:Heap} {c:Addr} {kvs:List (Int×Value)} (d:h.DictOf (intKind prog w) c kvs):h.DictOf (intKind prog' w') c kvs :=
 let ⟨o,es,ep,ho,hc,hd,hk,hp,hn⟩:=d
 ⟨o,es,ep,ho,hc,hd,hk,z0e hp,hn⟩
inductive OR (X:Cx) (μ:Mu) (h:Heap):AO→Addr×Option Addr→Prop
 | list {c:Addr} {items:Array Value} {n:Nat} {xs:List AV}:IsL h c items n→xs.length≤small→VRs X μ h xs items.toList→OR X μ h (.list xs) (c,none)
 | inst {x dx C:Addr} {cls:Str} {fs:List (Str×AV)} {es:List DictEntry} {n:Nat} {sl:Array (Option Value)} :
   nsIn X.K mainGlobals cls=some (some (.ref C))→h.get? x=some ⟨.ref C,some dx,.plain,sl⟩→h.get? dx=some (dictOf es n)→FsR X μ h fs es →
   xe X.K C=true→(∀ p∈fs,wv X.K C p.1=true)→fs.length≤100→OR X μ h (.inst cls fs) (x,some dx)
 | dict {prog:Program} {w:World} {c:Addr} {kvs:List (Int×AV)} {es:List (Int×Value)}:h.DictOf (intKind prog w) c es→PRs X μ h kvs es→(c == sysModules)=false→kvs.length≤small→OR X μ h (.dict kvs) (c,none)
noncomputable def ads (p:Addr×Option Addr):List Addr:=p.1::p.2.toList
theorem OR.mono {X:Cx} {μ μ':Mu} {h h':Heap} {o:AO} {p:Addr×Option Addr} (r:OR X μ h o p) (hp:μ <+: μ') (hf:∀ b o,h.get? b=some o→yW o→h'.get? b=some o)
  (hk:∀ b∈ads p,∀ o,h.get? b=some o→h'.get? b=some o):OR X μ' h' o p:=by
 cases r with
 | list l z q =>
  exact .list (hk _ (.head _) _ l) z (q.mono hp hf)
 | inst a b c d e f g=>exact .inst a (hk _ (.head _) _ b) (hk _ (.tail _ (.head _)) _ c) (d.mono hp hf) e f g
 | dict a b c d=>exact .dict (let ⟨o,es,ep,ho,q⟩:=a;⟨o,es,ep,hk _ (.head _) _ ho,q⟩) (b.mono hp hf) c d
theorem OR.list_ {X:Cx} {μ:Mu} {h:Heap} {xs:List AV} {p:Addr×Option Addr} (r:OR X μ h (.list xs) p):∃ c items n,p=(c,none)∧IsL h c items n∧xs.length≤small∧VRs X μ h xs items.toList:=by
 cases r with | list a b d=>exact ⟨_,_,_,rfl,a,b,d⟩
theorem OR.inst_ {X:Cx} {μ:Mu} {h:Heap} {cls:Str} {fs:List (Str×AV)} {p:Addr×Option Addr} (r:OR X μ h (.inst cls fs) p):∃ (x dx C:Addr) (es:List DictEntry) (n:Nat) (sl:Array (Option Value)),p=(x,some dx) ∧
   nsIn X.K mainGlobals cls=some (some (.ref C))∧h.get? x=some ⟨.ref C,some dx,.plain,sl⟩∧h.get? dx=some (dictOf es n)∧FsR X μ h fs es∧xe X.K C=true∧(∀ p∈fs,wv X.K C p.1=true)∧fs.length≤100:=by
 cases r with | inst a b d e f g i=>exact ⟨_,_,_,_,_,_,rfl,a,b,d,e,f,g,i⟩
noncomputable def Mut (o:Obj):Prop:=(o.cls=.type "list" ∧ ∃ xs n,o.data=.seq xs n)∨(∃ C,o.cls=.ref C∧o.data=.plain)∨(o.cls=.type "dict")
theorem Mut.notFixed {o:Obj} (m:Mut o):¬ yW o:=by
 rintro (⟨f,_⟩ | ⟨f,_⟩) <;> rcases m with ⟨m,_⟩ | ⟨C,m,_⟩ | m <;> rw [f] at m <;> first | (cases m;done) | (injection m with m;exact absurd m (by decide))
theorem OR.mut {X:Cx} {μ:Mu} {h:Heap} {o:AO} {p:Addr×Option Addr} (r:OR X μ h o p):∀ b∈ads p,∃ o,h.get? b=some o∧Mut o:=by
 cases r with
 | list l z q =>
  intro b hb
  cases hb with
  | head=>exact ⟨_,l,.inl ⟨rfl,_,_,rfl⟩⟩
  | tail _ h=>cases h
 | inst a b' c d e f g =>
  intro b hb
  cases hb with
  | head=>exact ⟨_,b',.inr (.inl ⟨_,rfl,rfl⟩)⟩
  | tail _ h=>cases h with
   | head=>exact ⟨_,c,.inr (.inr rfl)⟩
   | tail _ h=>cases h
 | dict a _ _ _ =>
  intro b hb
  cases hb with
  | head =>
   obtain ⟨o,es,ep,ho,hc,_⟩:=a
   exact ⟨_,ho,.inr (.inr hc.1)⟩
  | tail _ h=>cases h
structure Inv (X:Cx) (μ:Mu) (hp:Hp) (s:Shared):Prop where
 len:μ.length=hp.length
 nodup:(ze μ).Nodup
 above:∀ a∈ze μ,X.base.get? a=none
 rep:∀ (i:Nat) (p:Addr×Option Addr) (o:AO),μ[i]? = some p→hp[i]? = some o→OR X μ s.heap o p
 keep:∀ b o,X.base.get? b=some o→s.heap.get? b=some o
 gens:s.gens=#[]
 os:s.os=X.os
theorem yU {μ:Mu} {b:Addr}:b∈ze μ↔∃ (i:Nat) (p:Addr×Option Addr),μ[i]? = some p∧b∈ads p:=by
 unfold ze ads
 rw [List.mem_flatMap]
 constructor
 ·rintro ⟨p,hp,hb⟩
  obtain ⟨i,hi⟩:=List.getElem?_of_mem hp
  exact ⟨i,p,hi,hb⟩
 ·rintro ⟨i,p,hi,hb⟩
  exact ⟨p,yM hi,hb⟩
theorem ZA:∀ {μ:Mu},(ze μ).Nodup→∀ {i j:Nat} {p q:Addr×Option Addr} {b:Addr},μ[i]? = some p→μ[j]? = some q→b∈ads p→b∈ads q→i=j
 | [],_,_,_,_,_,_,h,_,_,_=>by cases h
 | r::μ,nd,i,j,p,q,b,hi,hj,hp,hq=>by
  have e:ze (r::μ)=ads r++ze μ:=rfl
  rw [e,List.nodup_append] at nd
  obtain ⟨_,n2,n3⟩:=nd
  cases i with
  | zero =>
   cases j with
   | zero=>rfl
   | succ j =>
    cases hi
    exact absurd rfl (n3 b hp b (yU.mpr ⟨j,q,hj,hq⟩))
  | succ i =>
   cases j with
   | zero =>
    cases hj
    exact absurd rfl (n3 b hq b (yU.mpr ⟨i,p,hi,hp⟩))
   | succ j=>exact congrArg _ (ZA n2 (i:=i) (j:=j) hi hj hp hq)
section
variable {X:Cx} {μ μ':Mu} {hp hp':Hp} {s s':Shared}
theorem Inv.obj (I:Inv X μ hp s) {i:Nat} {p:Addr×Option Addr} (h:μ[i]? = some p):∃ o,hp[i]? = some o:=by
 have:=(yL h).1
 rw [I.len] at this
 exact ⟨hp[i],y6 this⟩
theorem Inv.mut (I:Inv X μ hp s) {b:Addr} (h:b∈ze μ):∃ o,s.heap.get? b=some o∧Mut o:=by
 obtain ⟨i,p,hi,hb⟩:=yU.mp h
 obtain ⟨o,ho⟩:=I.obj hi
 exact (I.rep i p o hi ho).mut b hb
theorem Inv.dict_at (I:Inv X μ hp s) {a:Nat} {c:Value} {kvs:List (Int×AV)} (r:VR X μ s.heap (.ref a) c) (e:hp[a]? = some (.dict kvs)) (prog:Program) (w:World) :
  ∃ d es,c=.ref d∧μ[a]? = some (d,none)∧s.heap.DictOf (intKind prog w) d es∧PRs X μ s.heap kvs es∧(d == sysModules)=false∧kvs.length≤small:=by
 obtain ⟨p,hp,rfl⟩:=r.ref_
 have:=I.rep _ _ _ hp e
 cases this with
 | dict a b c d=>exact ⟨_,_,rfl,hp,z3y a,b,c,d⟩
theorem Inv.list_at (I:Inv X μ hp s) {a:Nat} {c:Value} {xs:List AV} (r:VR X μ s.heap (.ref a) c) (e:hp[a]? = some (.list xs)) :
  ∃ d items n,c=.ref d∧μ[a]? = some (d,none)∧IsL s.heap d items n∧xs.length≤small∧VRs X μ s.heap xs items.toList:=by
 obtain ⟨p,hp,rfl⟩:=r.ref_
 obtain ⟨d,items,n,rfl,l,z,q⟩:=(I.rep _ _ _ hp e).list_
 exact ⟨d,items,n,rfl,hp,l,z,q⟩
noncomputable def isD (o:Obj):Bool:=match o.data with
 | .dict ..=>true
 | _=>false
noncomputable def YA (o:Obj) (x:Option Obj):Prop:=x=some o∨(isD o=true∧∃ sl,x=some { o with slots:=sl })
theorem YA.exact {o:Obj} {x:Option Obj} (n:YA o x) (h:isD o=false):x=some o:=by
 rcases n with e | ⟨e,_⟩
 ·exact e
 ·rw [h] at e;exact nob e
theorem YA.get {o:Obj} {x:Option Obj} (n:YA o x):∃ o',x=some o'∧o'.data=o.data:=by
 rcases n with e | ⟨_,sl,e⟩
 ·exact ⟨o,e,rfl⟩
 ·exact ⟨_,e,rfl⟩
theorem YA.trans {o:Obj} {x y:Option Obj} (n:YA o x) (m:∀ o',x=some o'→YA o' y):YA o y:=by
 rcases n with e | ⟨d,sl,e⟩
 ·exact m o e
 ·rcases m _ e with q | ⟨_,sl',q⟩
  ·exact .inr ⟨d,sl,q⟩
  ·exact .inr ⟨d,sl',q⟩
theorem yW.notD {o:Obj} (f:yW o):isD o=false:=by
 unfold isD
 rcases f with ⟨_,xs,n,q⟩ | ⟨_,vs,q⟩ <;> rw [q]
theorem Zr {o:Obj} {es:Array DictEntry} {n:Nat} (h:o.data=.dict es n):isD o=true:=by unfold isD;rw [h]
theorem z16 {o o':Obj} (h:o'.data=o.data):isD o'=isD o:=by unfold isD;rw [h]
structure Le (S:Addr→Prop) (μ:Mu) (s:Shared) (μ':Mu) (s':Shared):Prop where
 pre:μ <+: μ'
 fresh:∀ a∈ze μ',a∈ze μ∨s.heap.get? a=none
 exist:∀ b o,s.heap.get? b=some o→∃ o',s'.heap.get? b=some o'
 keep:∀ b o,b∉ze μ→¬ S b→s.heap.get? b=some o→YA o (s'.heap.get? b)
noncomputable def noS:Addr→Prop:=fun _=>False
theorem Le.refl {S:Addr→Prop}:Le S μ s μ s:=⟨List.prefix_refl _,fun _ h=>.inl h,fun _ o e=>⟨o,e⟩,fun _ _ _ _ e=>.inl e⟩
theorem Le.trans {S:Addr→Prop} {μ₁ μ₂:Mu} {s₁ s₂:Shared} (a:Le S μ s μ₁ s₁) (b:Le S μ₁ s₁ μ₂ s₂):Le S μ s μ₂ s₂:=by
 refine ⟨a.pre.trans b.pre,fun x hx=>?_,fun x o e=>?_,fun x o n ns e=>?_⟩
 ·rcases b.fresh x hx with h | h
  ·exact a.fresh x h
  ·cases q:s.heap.get? x with
   | none=>exact .inr rfl
   | some o=>obtain ⟨o',e'⟩:=a.exist x o q;rw [h] at e';cases e'
 ·obtain ⟨o',e'⟩:=a.exist x o e
  exact b.exist x o' e'
 ·refine (a.keep x o n ns e).trans fun o' e'=>b.keep x o' (fun h=>?_) ns e'
  rcases a.fresh x h with h | h
  ·exact n h
  ·rw [e] at h;cases h
theorem Le.weak {S S':Addr→Prop} (h:∀ b,S b→S' b) (a:Le S μ s μ' s'):Le S' μ s μ' s':=⟨a.pre,a.fresh,a.exist,fun b o n ns e=>a.keep b o n (fun q=>ns (h b q)) e⟩
theorem Le.drop {S S':Addr→Prop} (a:Le S μ s μ' s') (h:∀ b o,S b→s.heap.get? b=some o→S' b):Le S' μ s μ' s' :=
 ⟨a.pre,a.fresh,a.exist,fun b o n ns e=>a.keep b o n (fun q=>ns (h b o q e)) e⟩
theorem Le.ofKeep {S:Addr→Prop} (h:∀ b o,s.heap.get? b=some o→s'.heap.get? b=some o):Le S μ s μ s':=⟨List.prefix_refl _,fun _ h=>.inl h,fun b o e=>⟨o,h b o e⟩,fun b o _ _ e=>.inl (h b o e)⟩
theorem Le.fixed {S:Addr→Prop} (I:Inv X μ hp s) (hS:∀ b o,S b→s.heap.get? b=some o→¬ yW o) (a:Le S μ s μ' s'):∀ b o,s.heap.get? b=some o→yW o→s'.heap.get? b=some o:=fun b o e f =>
 (a.keep b o (fun h=>by obtain ⟨o',e',m⟩:=I.mut h;rw [e] at e';cases e';exact m.notFixed f) (fun h=>hS b o h e f) e).exact f.notD
theorem VR.le {x:AV} {v:Value} (r:VR X μ s.heap x v) (I:Inv X μ hp s) (a:Le noS μ s μ' s'):VR X μ' s'.heap x v:=r.mono a.pre (a.fixed I fun _ _ h=>h.elim)
theorem VRs.le {x:List AV} {v:List Value} (r:VRs X μ s.heap x v) (I:Inv X μ hp s) (a:Le noS μ s μ' s'):VRs X μ' s'.heap x v:=r.mono a.pre (a.fixed I fun _ _ h=>h.elim)
theorem Inv.grow (I:Inv X μ hp s) {h':Heap} {t:Nat} (hk:∀ b o,s.heap.get? b=some o→h'.get? b=some o):Inv X μ hp { s with heap:=h',toks:=t } where
 len:=I.len
 nodup:=I.nodup
 above:=I.above
 rep i p o a b:=(I.rep i p o a b).mono (List.prefix_refl _) (fun b o e _=>hk b o e) fun b _ o e=>hk b o e
 keep b o e:=hk b o (I.keep b o e)
 gens:=I.gens
 os:=I.os
theorem Inv.tok (I:Inv X μ hp s) (t:Nat):Inv X μ hp { s with toks:=t }:=⟨I.len,I.nodup,I.above,I.rep,I.keep,I.gens,I.os⟩
theorem Le.grow {S:Addr→Prop} {h':Heap} {t:Nat} (hk:∀ b o,s.heap.get? b=some o→h'.get? b=some o):Le S μ s μ { s with heap:=h',toks:=t }:=.ofKeep hk
theorem Le.tok {S:Addr→Prop} (t:Nat):Le S μ s μ { s with toks:=t }:=.ofKeep fun _ _ e=>e
noncomputable def Frs (X:Cx) (l:List Env) (μ:Mu) (h:Heap):Prop:=∀ v∈l,v.scope.kind≠.module∧∃ L o,v.frame=some L∧X.base.get? L=none∧L∉ze μ∧h.get? L=some o∧isD o=true
theorem Frs.mono {l:List Env} {h h':Heap} (f:Frs X l μ h) (m:∀ b o,b∉ze μ→h.get? b=some o→isD o=true→b∉ze μ'∧∃ o',h'.get? b=some o'∧isD o'=true):Frs X l μ' h':=fun v hv=>by
 obtain ⟨k,L,o,e1,e2,e3,e4,e5⟩:=f v hv
 obtain ⟨m1,o',m2,m3⟩:=m L o e3 e4 e5
 exact ⟨k,L,o',e1,e2,m1,m2,m3⟩
theorem Le.out {S:Addr→Prop} (a:Le S μ s μ' s') {b:Addr} {o:Obj} (n:b∉ze μ) (e:s.heap.get? b=some o):b∉ze μ':=fun h=>by
 rcases a.fresh b h with h | h
 ·exact n h
 ·rw [e] at h;cases h
theorem Frs.le {l:List Env} (f:Frs X l μ s.heap) (a:Le noS μ s μ' s'):Frs X l μ' s'.heap:=f.mono fun b o n e d=>by
 obtain ⟨o',e',q⟩:=(a.keep b o n (fun h=>h) e).get
 exact ⟨a.out n e,o',e',(z16 q).trans d⟩
theorem xz (μ ν:Mu):ze (μ++ν)=ze μ++ze ν:=by unfold ze;rw [List.flatMap_append]
theorem Inv.new (I:Inv X μ hp s) {h':Heap} {t:Nat} {p:Addr×Option Addr} {o:AO} (hk:∀ b o,s.heap.get? b=some o→h'.get? b=some o) (hn:∀ b∈ads p,s.heap.get? b=none) (nd:(ads p).Nodup)
  (r:OR X (μ++[p]) h' o p):Inv X (μ++[p]) (hp++[o]) { s with heap:=h',toks:=t }∧Le noS μ s (μ++[p]) { s with heap:=h',toks:=t }:=by
 have ea:ze (μ++[p])=ze μ++ads p:=by rw [xz];simp [ze,ads]
 refine ⟨⟨by simp [I.len],?_,fun a ha=>?_,fun i q x hi hx=>?_,fun b o e=>hk b o (I.keep b o e),I.gens,I.os⟩,⟨List.prefix_append _ _,fun a ha=>?_,fun b o e=>⟨o,hk b o e⟩,fun b o _ _ e=>.inl (hk b o e)⟩⟩
 ·rw [ea,List.nodup_append]
  refine ⟨I.nodup,nd,fun a ha b hb e=>?_⟩
  subst e
  obtain ⟨o,e,_⟩:=I.mut ha
  rw [hn a hb] at e;exact nos e
 ·rw [ea,List.mem_append] at ha
  rcases ha with ha | ha
  ·exact I.above a ha
  ·cases q:X.base.get? a with
   | none=>rfl
   | some o=>have:=I.keep a o q;rw [hn a ha] at this;exact nos this
 ·by_cases hlt:i<μ.length
  ·rw [List.getElem?_append_left hlt] at hi
   rw [List.getElem?_append_left (by rw [← I.len];exact hlt)] at hx
   exact (I.rep i q x hi hx).mono (List.prefix_append _ _) (fun b o e _=>hk b o e) fun b _ o e=>hk b o e
  ·have e1:i=μ.length:=by
    have:=(yL hi).1
    simp at this;lia
   subst e1
   rw [List.getElem?_append_right (Nat.le_refl _)] at hi
   rw [I.len,List.getElem?_append_right (Nat.le_refl _)] at hx
   simp at hi hx
   subst hi hx
   exact r
 ·rw [ea,List.mem_append] at ha
  rcases ha with ha | ha
  ·exact .inl ha
  ·exact .inr (hn a ha)
theorem Inv.updS (I:Inv X μ hp s) {S:Addr→Prop} (hS:∀ b,S b→b∉ze μ∧X.base.get? b=none) (hF:∀ b o,S b→s.heap.get? b=some o→¬ yW o∧∃ o',s'.heap.get? b=some o') {a:Nat} {p:Addr×Option Addr} {o':AO} (ha:μ[a]? = some p)
  (hk:∀ b o,b∉ads p→¬ S b→s.heap.get? b=some o→s'.heap.get? b=some o) (r:OR X μ s'.heap o' p) (hg:s'.gens=s.gens) (hos:s'.os=s.os):Inv X μ (hp.set a o') s'∧Le S μ s μ s':=by
 have inA:∀ b∈ads p,b∈ze μ:=fun b hb=>yU.mpr ⟨a,p,ha,hb⟩
 have fx:∀ b o,s.heap.get? b=some o→yW o→s'.heap.get? b=some o:=fun b o e f=>hk b o (fun hb=>by
  obtain ⟨o',e',m⟩:=I.mut (inA b hb);rw [e] at e';cases e';exact m.notFixed f) (fun h=>(hF b o h e).1 f) e
 refine ⟨⟨by simp [I.len],I.nodup,I.above,fun i q x hi hx=>?_,fun b o e=>hk b o (fun hb=>?_) (fun h=>?_) (I.keep b o e),hg.trans I.gens,hos.trans I.os⟩,⟨List.prefix_refl _,fun _ h=>.inl h,fun b o e=>?_,fun b o n ns e=>.inl (hk b o (fun hb=>n (inA b hb)) ns e)⟩⟩
 ·by_cases hia:a=i
  ·subst hia
   rw [ha] at hi;cases hi
   rw [List.getElem?_set_self (by rw [← I.len];exact (yL ha).1)] at hx
   cases hx;exact r
  ·rw [List.getElem?_set_ne hia] at hx
   exact (I.rep i q x hi hx).mono (List.prefix_refl _) fx fun b hb o e=>hk b o (fun hb'=>hia (ZA I.nodup ha hi hb' hb)) (fun h=>(hS b h).1 (yU.mpr ⟨i,q,hi,hb⟩)) e
 ·have:=I.above b (inA b hb);rw [e] at this;cases this
 ·have:=(hS b h).2;rw [e] at this;cases this
 ·by_cases hb:b∈ads p
  ·obtain ⟨o',e',_⟩:=r.mut b hb;exact ⟨o',e'⟩
  ·by_cases h:S b
   ·exact (hF b o h e).2
   ·exact ⟨o,hk b o hb h e⟩
theorem Inv.upd (I:Inv X μ hp s) {h':Heap} {t a:Nat} {p:Addr×Option Addr} {o':AO} (ha:μ[a]? = some p) (hk:∀ b o,b∉ads p→s.heap.get? b=some o→h'.get? b=some o)
  (r:OR X μ h' o' p):Inv X μ (hp.set a o') { s with heap:=h',toks:=t }∧Le noS μ s μ { s with heap:=h',toks:=t } :=
 I.updS (s':={ s with heap:=h',toks:=t }) (S:=noS) (fun _ h=>h.elim) (fun _ _ h=>h.elim) ha (fun b o n _ e=>hk b o n e) r rfl rfl
theorem Inv.own (I:Inv X μ hp s) {S:Addr→Prop} (hS:∀ b,S b→b∉ze μ∧X.base.get? b=none) (hF:∀ b o,S b→s.heap.get? b=some o→¬ yW o∧∃ o',s'.heap.get? b=some o')
  (hk:∀ b o,¬ S b→s.heap.get? b=some o→s'.heap.get? b=some o) (hg:s'.gens=s.gens) (hos:s'.os=s.os):Inv X μ hp s'∧Le S μ s μ s':=by
 have fx:∀ b o,s.heap.get? b=some o→yW o→s'.heap.get? b=some o:=fun b o e f=>hk b o (fun h=>(hF b o h e).1 f) e
 refine ⟨⟨I.len,I.nodup,I.above,fun i q x hi hx=>(I.rep i q x hi hx).mono (List.prefix_refl _) fx fun b hb o e=>hk b o (fun h=>(hS b h).1 (yU.mpr ⟨i,q,hi,hb⟩)) e,fun b o e=>hk b o (fun h=>?_) (I.keep b o e),hg.trans I.gens,hos.trans I.os⟩,
  ⟨List.prefix_refl _,fun _ h=>.inl h,fun b o e=>?_,fun b o _ ns e=>.inl (hk b o ns e)⟩⟩
 ·have:=(hS b h).2;rw [e] at this;cases this
 ·by_cases h:S b
  ·exact (hF b o h e).2
  ·exact ⟨o,hk b o h e⟩
end
theorem xR {h:Hp} {a:Nat} {kvs:List (Int×AV)} (e:zw h a=some kvs):h[a]? = some (.dict kvs):=by
 unfold zw at e
 cases q:h[a]? with
 | none=>rw [q] at e;exact nos e
 | some o =>
  rw [q] at e
  cases o with
  | dict k=>cases e;rfl
  | _=>exact nos e
theorem PRs.get {X:Cx} {μ:Mu} {h:Heap} {k:Int} {kvs:List (Int×AV)} {es:List (Int×Value)} (r:PRs X μ h kvs es):(yp kvs k=none∧valueAt es k=none)∨∃ v w,yp kvs k=some v∧valueAt es k=some w∧VR X μ h v w:=by
 induction r with
 | nil=>exact .inl ⟨rfl,rfl⟩
 | @cons k' v w r es a _ ih =>
  by_cases q:k'=k
  ·subst q
   refine .inr ⟨v,w,?_,?_,a⟩
   ·unfold yp;rw [List.find?_cons_of_pos (by simp)];rfl
   ·unfold valueAt;rw [List.find?_cons_of_pos (by simp)];rfl
  ·have e1:yp ((k',v)::r) k=yp r k:=by unfold yp;rw [List.find?_cons_of_neg (by simpa using q)]
   have e2:valueAt ((k',w)::es) k=valueAt es k:=by unfold valueAt;rw [List.find?_cons_of_neg (by simpa using q)]
   rw [e1,e2];exact ih
theorem PRs.len {X:Cx} {μ:Mu} {h:Heap} {kvs:List (Int×AV)} {es:List (Int×Value)} (r:PRs X μ h kvs es):kvs.length=es.length:=by
 induction r with
 | nil=>rfl
 | cons _ _ ih=>exact congrArg (·+1) ih
theorem PRs.keys {X:Cx} {μ:Mu} {h:Heap} {kvs:List (Int×AV)} {es:List (Int×Value)} (r:PRs X μ h kvs es):es.map (·.1)=kvs.map (·.1):=by
 induction r with
 | nil=>rfl
 | cons _ _ ih=>rw [List.map_cons,List.map_cons,ih]
theorem PRs.isSome {X:Cx} {μ:Mu} {h:Heap} {k:Int} {kvs:List (Int×AV)} {es:List (Int×Value)} (r:PRs X μ h kvs es):(valueAt es k).isSome=(yp kvs k).isSome:=by
 rcases r.get (k:=k) with ⟨a,b⟩ | ⟨v,w,a,b,_⟩ <;> rw [a,b] <;> rfl
section
variable {X:Cx} {μ:Mu} {h:Heap}
theorem VRs.length {xs:List AV}:∀ {vs:List Value},VRs X μ h xs vs→vs.length=xs.length:=by
 induction xs with
 | nil=>intro vs r;rw [r.nil_];rfl
 | cons x xs ih=>intro vs r;obtain ⟨v,ws,rfl,_,q⟩:=r.cons_;exact congrArg (·+1) (ih q)
theorem VRs.size {xs:List AV} {items:Array Value} (r:VRs X μ h xs items.toList):items.size=xs.length:=r.length
theorem VRs.get {xs:List AV}:∀ {vs:List Value},VRs X μ h xs vs→∀ {k:Nat} {x:AV},xs[k]? = some x→∃ v,vs[k]? = some v∧VR X μ h x v:=by
 induction xs with
 | nil=>intro vs r k x e;exact nos e
 | cons x xs ih =>
  intro vs r k y e
  obtain ⟨v,ws,rfl,a,q⟩:=r.cons_
  cases k with
  | zero=>cases e;exact ⟨_,rfl,a⟩
  | succ k=>exact ih q e
theorem VRs.app {xs:List AV}:∀ {vs:List Value},VRs X μ h xs vs→∀ {ys:List AV} {ws:List Value},VRs X μ h ys ws→VRs X μ h (xs++ys) (vs++ws):=by
 induction xs with
 | nil=>intro vs r ys ws q;rw [r.nil_];exact q
 | cons x xs ih=>intro vs r ys ws q;obtain ⟨v,vs,rfl,a,r⟩:=r.cons_;exact .cons a (ih r q)
theorem VRs.take {xs:List AV}:∀ {vs:List Value},VRs X μ h xs vs→∀ k,VRs X μ h (xs.take k) (vs.take k):=by
 induction xs with
 | nil=>intro vs r k;rw [r.nil_];cases k <;> exact .nil
 | cons x xs ih =>
  intro vs r k
  obtain ⟨v,vs,rfl,a,r⟩:=r.cons_
  cases k with
  | zero=>exact .nil
  | succ k=>exact .cons a (ih r k)
theorem VRs.drop {xs:List AV}:∀ {vs:List Value},VRs X μ h xs vs→∀ k,VRs X μ h (xs.drop k) (vs.drop k):=by
 induction xs with
 | nil=>intro vs r k;rw [r.nil_];cases k <;> exact .nil
 | cons x xs ih =>
  intro vs r k
  obtain ⟨v,vs,rfl,a,q⟩:=r.cons_
  cases k with
  | zero=>exact r
  | succ k=>exact ih q k
theorem VRs.set {x:AV} {v:Value} (hv:VR X μ h x v) {xs:List AV}:∀ {vs:List Value},VRs X μ h xs vs→∀ k,VRs X μ h (xs.set k x) (vs.set k v):=by
 induction xs with
 | nil=>intro vs r k;rw [r.nil_];exact .nil
 | cons y xs ih =>
  intro vs r k
  obtain ⟨u,vs,rfl,a,q⟩:=r.cons_
  cases k with
  | zero=>exact .cons hv q
  | succ k=>exact .cons a (ih q k)
theorem VRs.one {x:AV} {vs:List Value} (r:VRs X μ h [x] vs):∃ v,vs=[v]∧VR X μ h x v:=by
 obtain ⟨v,ws,rfl,a,q⟩:=r.cons_;rw [q.nil_];exact ⟨_,rfl,a⟩
theorem VRs.two {x y:AV} {vs:List Value} (r:VRs X μ h [x,y] vs):∃ v u,vs=[v,u]∧VR X μ h x v∧VR X μ h y u:=by
 obtain ⟨v,ws,rfl,a,q⟩:=r.cons_;obtain ⟨u,rfl,b⟩:=q.one;exact ⟨_,_,rfl,a,b⟩
end
theorem zv {v:AV} {i:Int} (e:y8 v=some i):v=.int i:=by
 cases v with
 | int=>cases e;rfl
 | _=>exact nos e
theorem Yl {v:AV} {i:Bool} (e:WL v=some i):v=.bool i:=by
 cases v with
 | bool=>cases e;rfl
 | _=>exact nos e
theorem z44 {v:AV} {i:Bi} (e:zEs v=some i):v=.bi i:=by
 cases v with
 | bi=>cases e;rfl
 | _=>exact nos e
theorem xg {v:AV} {i:Str} (e:xV v=some i):v=.str i:=by
 cases v with
 | str=>cases e;rfl
 | _=>exact nos e
theorem yc {v:AV} {i:Nat} (e:yi v=some i):v=.ref i:=by
 cases v with
 | ref=>cases e;rfl
 | _=>exact nos e
theorem jP {v:AV} {i:List AV} (e:j6 v=some i):v=.tup i:=by
 cases v with
 | tup=>cases e;rfl
 | _=>exact nos e
theorem xP {h:Hp} {a:Nat} {xs:List AV} (e:zi h a=some xs):h[a]? = some (.list xs):=by
 unfold zi at e
 cases q:h[a]? with
 | none=>rw [q] at e;exact nos e
 | some o=>rw [q] at e;cases o <;> cases e;rfl
theorem yd {l:List AV} {a:AV} (e:qU l=some a):l=[a]:=by
 cases l with
 | nil=>exact nos e
 | cons x l=>cases l <;> cases e;rfl
theorem wH {l:List AV} {p:AV×AV} (e:YK l=some p):l=[p.1,p.2]:=by
 cases l with
 | nil=>exact nos e
 | cons x l =>
  cases l with
  | nil=>exact nos e
  | cons y l=>cases l <;> cases e;rfl
theorem qh {α β:Type} {f:α→Option β} {x:α} {xs:List α} {zs:List β} (e:yI f (x::xs)=some zs):∃ y ys,f x=some y∧yI f xs=some ys∧zs=y::ys:=by
 have e:(match f x,yI f xs with | some y,some ys=>some (y::ys) | _,_=>none)=some zs:=e
 cases q:f x with
 | none=>rw [q] at e;exact nos e
 | some y =>
  cases q':yI f xs with
  | none=>rw [q,q'] at e;exact nos e
  | some ys=>rw [q,q'] at e;cases e;exact ⟨_,_,rfl,rfl,rfl⟩
structure Room (n:Nat) (A:Around) (l:List Env):Prop where
 frames:A.frames=some l
 depth:A.depth+2 * n+2<recursionLimit
 units:A.units+100 * n+300<cLine
 handled:A.handled=none
noncomputable def PE (X:Cx) (μ:Mu) (s:Shared) (v:AV) (hp':Hp) (Q:Value→Shared→Prop):Prop :=
 ∀ v' μ' s',Le noS μ s μ' s'→Inv X μ' hp' s'→VR X μ' s'.heap v v'→Q v' s'
section
variable {X:Cx} {μ μ':Mu} {hp hp':Hp} {s s':Shared} {Q:Value→Shared→Prop} {v:AV}
theorem PE.le (k:PE X μ s v hp' Q) (a:Le noS μ s μ' s'):PE X μ' s' v hp' Q:=fun v' μ'' s'' b=>k v' μ'' s'' (a.trans b)
theorem PE.here (k:PE X μ s v hp Q) (I:Inv X μ hp s) {v':Value} (r:VR X μ s.heap v v'):Q v' s:=k v' μ s .refl I r
theorem PE.tok (k:PE X μ s v hp Q) (I:Inv X μ hp s) {v':Value} {t:Nat} (r:VR X μ s.heap v v'):Q v' { s with toks:=t }:=k v' μ _ (.tok t) (I.tok t) r
noncomputable def PC (X:Cx) (l:List Env) (μ:Mu) (s:Shared) (c:Str) (hp':Hp) (E:Value→Shared→Prop):Prop :=
 ∀ e μ' s' B C a0,nsIn X.K mainGlobals c=some (some (.ref C))→Heap.FlyingW B l e (.ref C) a0 s'.heap →
  (∀ h6 t,B.StaysIn h6→s'.heap.UpToSlots h6→Le noS μ s μ' { s' with heap:=h6,toks:=t }∧Inv X μ' hp' { s' with heap:=h6,toks:=t })→E (.ref e) s'
theorem PC.le {l:List Env} {c:Str} {E:Value→Shared→Prop} (k:PC X l μ s c hp' E) (a:Le noS μ s μ' s'):PC X l μ' s' c hp' E:=fun e μ'' s'' B C a0 h1 h2 h3 =>
 k e μ'' s'' B C a0 h1 h2 fun h6 t g1 g2=>⟨a.trans (h3 h6 t g1 g2).1,(h3 h6 t g1 g2).2⟩
noncomputable def PG {α β:Type} (rel:Mu→Heap→α→β→Prop) (X:Cx) (l:List Env) (μ:Mu) (s:Shared) (o:Out α) (Q:β→Shared→Prop) (E:Value→Shared→Prop):Prop:=match o with
 | .stuck=>False
 | .ok a h=>∀ b μ' s',Le noS μ s μ' s'→Inv X μ' h s'→rel μ' s'.heap a b→Q b s'
 | .exc c h=>PC X l μ s c h E
theorem PG.le {α β:Type} {rel:Mu→Heap→α→β→Prop} {l:List Env} {o:Out α} {Q:β→Shared→Prop} {E:Value→Shared→Prop} (k:PG rel X l μ s o Q E) (a:Le noS μ s μ' s'):PG rel X l μ' s' o Q E:=by
 cases o with
 | stuck=>exact k
 | ok v h=>exact fun b μ'' s'' L=>k b μ'' s'' (a.trans L)
 | exc c h=>exact PC.le k a
theorem PG.bind {α β γ δ:Type} {rel:Mu→Heap→α→β→Prop} {rel':Mu→Heap→γ→δ→Prop} {l:List Env} {o:Out α} {f:α→Hp→Out γ} {Q':δ→Shared→Prop} {Q:β→Shared→Prop} {E:Value→Shared→Prop}
  (k:PG rel' X l μ s (o.bind f) Q' E) (h:∀ a b hp' μ' s',Le noS μ s μ' s'→Inv X μ' hp' s'→rel μ' s'.heap a b→PG rel' X l μ' s' (f a hp') Q' E→Q b s'):PG rel X l μ s o Q E:=by
 cases o with
 | stuck=>exact k
 | ok v hp'=>exact fun b μ' s' L I r=>h v b hp' μ' s' L I r (PG.le (o:=f v hp') k L)
 | exc c hp'=>exact k
theorem PG.bind0 {α β γ δ:Type} {rel:Mu→Heap→α→β→Prop} {rel':Mu→Heap→γ→δ→Prop} {l:List Env} {o:Out α} {f:α→Hp→Out γ} {Q':δ→Shared→Prop} {Q:β→Shared→Prop} {E:Value→Shared→Prop}
  (k:PG rel' X l μ s (o.bind0 f) Q' E) (h:∀ a b hp' μ' s',Le noS μ s μ' s'→Inv X μ' hp' s'→rel μ' s'.heap a b→PG rel' X l μ' s' (f a hp') Q' E→Q b s'):PG rel X l μ s o Q E:=by
 cases o with
 | stuck=>exact k
 | ok v hp'=>exact fun b μ' s' L I r=>h v b hp' μ' s' L I r (PG.le (o:=f v hp') k L)
 | exc c hp'=>exact k.elim
theorem PG.of {α β:Type} {rel:Mu→Heap→α→β→Prop} {l:List Env} {o:Option α} {hp:Hp} {Q:β→Shared→Prop} {E:Value→Shared→Prop} (k:PG rel X l μ s (Out.of o hp) Q E):∃ a,o=some a∧PG rel X l μ s (.ok a hp) Q E:=by
 cases o with
 | none=>exact k.elim
 | some a=>exact ⟨a,rfl,k⟩
theorem PG.ofP {β:Type} {rel:Mu→Heap→AV→β→Prop} {l:List Env} {o:Option (AV×Hp)} {Q:β→Shared→Prop} {E:Value→Shared→Prop} (k:PG rel X l μ s (Mine.ofP o) Q E):∃ a hp,o=some (a,hp)∧PG rel X l μ s (.ok a hp) Q E:=by
 cases o with
 | none=>exact k.elim
 | some a=>exact ⟨a.1,a.2,rfl,k⟩
noncomputable abbrev PO (X:Cx) (l:List Env) (μ:Mu) (s:Shared) (o:Out AV) (Q:Value→Shared→Prop) (E:Value→Shared→Prop):Prop:=PG (fun μ h=>VR X μ h) X l μ s o Q E
noncomputable def DR (h:Heap) (n:Nat) (c:Value) (d:PyData):Prop:=(∃ as,Reads h c d as)∧d.canLay0=true∧d.depth≤n
noncomputable def DRs (h:Heap) (n:Nat) (cs:List Value) (ds:List PyData):Prop:=(∃ as,ReadsAll h cs ds as)∧PyData.canLayAll0 ds=true∧PyData.depthAll ds≤n
theorem Z7 {n:Nat} {v:AV} {c:Value} {d:PyData} (e:QT v=some d) (r:VR X μ s.heap v c):DR s.heap n c d:=by
 cases v with
 | none=>cases e;rw [r.none_];exact ⟨⟨_,.none⟩,rfl,Nat.zero_le _⟩
 | bool b=>cases e;rw [r.bool_];exact ⟨⟨_,.bool _⟩,rfl,Nat.zero_le _⟩
 | int i=>cases e;obtain ⟨t,rfl⟩:=r.int_;exact ⟨⟨_,.int _ _⟩,rfl,Nat.zero_le _⟩
 | str x =>
  have e:(if PyData.strOk x then some (PyData.str x) else none)=some d:=e
  by_cases h:PyData.strOk x=true
  ·rw [if_pos h] at e;cases e;obtain ⟨t,rfl,_⟩:=r.str_;exact ⟨⟨_,.str _ _⟩,h,Nat.zero_le _⟩
  ·rw [if_neg h] at e;exact nos e
 | _=>exact nos e
theorem jH {n:Nat} (h:∀ {v:AV} {c:Value} {d:PyData},toD hp n v=some d→VR X μ s.heap v c→DR s.heap n c d) {xs:List AV}:∀ {vs:List Value} {ds:List PyData},yI (toD hp n) xs=some ds→VRs X μ s.heap xs vs→DRs s.heap n vs ds:=by
 induction xs with
 | nil=>intro vs ds e r;cases e;rw [r.nil_];exact ⟨⟨_,.nil⟩,rfl,Nat.zero_le _⟩
 | cons x xs ih =>
  intro vs ds e r
  obtain ⟨y,ys,e1,e2,rfl⟩:=qh e
  obtain ⟨v,ws,rfl,a,q⟩:=r.cons_
  obtain ⟨⟨as,ra⟩,c,dp⟩:=h e1 a
  obtain ⟨⟨bs,rb⟩,c',dp'⟩:=ih e2 q
  exact ⟨⟨_,.cons ra rb⟩,Bool.and_eq_true_iff.mpr ⟨c,c'⟩,Nat.max_le.mpr ⟨dp,dp'⟩⟩
theorem qe (I:Inv X μ hp s) (n:Nat):∀ {v:AV} {c:Value} {d:PyData},toD hp n v=some d→VR X μ s.heap v c→DR s.heap n c d:=by
 induction n with
 | zero=>intro v c d e r;exact Z7 e r
 | succ n ih =>
  intro v c d e r
  have e:(match yi v with
   | some a=>(match zi hp a with
    | some xs=>(yI (toD hp n) xs).map PyData.list
    | none=>none)
   | none=>(match j6 v with
    | some xs=>(yI (toD hp n) xs).map PyData.tuple
    | none=>QT v))=some d:=e
  cases q:yi v with
  | none =>
   rw [q] at e
   have e:(match j6 v with
    | some xs=>(yI (toD hp n) xs).map PyData.tuple
    | none=>QT v)=some d:=e
   cases qt:j6 v with
   | none=>rw [qt] at e;exact Z7 e r
   | some xs =>
    rw [qt] at e
    have:=jP qt;subst this
    obtain ⟨ds,e',rfl⟩:=yC e
    obtain ⟨b,items,rfl,⟨o,ho,hc,m,hd⟩,_,rs⟩:=r.tup_
    obtain ⟨⟨as,ra⟩,c,dp⟩:=jH ih e' rs
    exact ⟨⟨_,.tuple ho hc hd ra⟩,c,Nat.succ_le_succ dp⟩
  | some a =>
   have:=yc q;subst this
   have e:(match zi hp a with
    | some xs=>(yI (toD hp n) xs).map PyData.list
    | none=>none)=some d:=e
   cases ql:zi hp a with
   | none=>rw [ql] at e;exact nos e
   | some xs =>
    rw [ql] at e
    obtain ⟨ds,e',rfl⟩:=yC e
    obtain ⟨b,items,m,rfl,_,l,_,rs⟩:=I.list_at r (xP ql)
    obtain ⟨⟨as,ra⟩,c,dp⟩:=jH ih e' rs
    exact ⟨⟨_,.list l rfl rfl ra⟩,c,Nat.succ_le_succ dp⟩
end
section
variable {prog:Program} {w:World} {X:Cx} {μ:Mu} {hp hp':Hp} {s:Shared} {A:Around} {E:Value→Shared→Prop} {n:Nat} {l:List Env} {Q:Value→Shared→Prop}
theorem Room.units' (R:Room n A l):A.units+200<cLine:=Nat.lt_of_le_of_lt (Nat.le_trans (Nat.add_le_add_left (show 200≤100 * n+300 from Nat.le_add_left_of_le (by decide)) _) (Nat.le_of_eq (Nat.add_assoc _ _ _).symm)) R.units
theorem wL:small=1048576:=rfl
theorem y9 {k:Nat} (h:k≤small):k≤sizeLine:=Nat.le_trans h (by decide)
theorem ZW {k:Nat} (h:k≤small):(k:Int)<2 ^ 63:=Int.lt_of_le_of_lt (Int.ofNat_le.mpr h) (by decide)
theorem qf (I:Inv X μ hp s) {v:AV} {c:Value} {xs:List AV} (e:wM hp v=some xs) (r:VR X μ s.heap v c) :
  ∃ a items,c=.ref a∧s.heap.IsList a items∧xs.length≤small∧VRs X μ s.heap xs items.toList:=by
 cases v with
 | lst ys =>
  cases e
  obtain ⟨a,items,rfl,⟨o,ho,q⟩,z,rs⟩:=r.lst_
  exact ⟨_,_,rfl,⟨o,I.keep _ _ ho,q⟩,z,rs⟩
 | ref a =>
  obtain ⟨d,items,m,rfl,_,l,z,rs⟩:=I.list_at r (xP e)
  exact ⟨_,_,rfl,l.isList,z,rs⟩
 | _=>exact nos e
theorem qm {v:AV} {c:Value} {b:Bool} {Q:Bool→Shared→Prop} (e:xK hp v=some b) (I:Inv X μ hp s) (r:VR X μ s.heap v c)
  (k:∀ t,Q b { s with toks:=t }):wpAny (model prog w) A (truthy c) Q E s:=by
 cases v with
 | none=>cases e;rw [r.none_];exact PyProof.Rows.truthy_none (k s.toks)
 | bool b=>cases e;rw [r.bool_];exact wpAny_truthy_bool (k s.toks)
 | int i =>
  cases e
  obtain ⟨t,rfl⟩:=r.int_
  refine P.truthy_int ?_
  have q:(i != 0)=decide (i≠0):=by
   by_cases h:i=0
   ·rw [h];rfl
   ·rw [decide_eq_true h];exact bne_iff_ne.mpr h
  rw [q];exact k s.toks
 | _=>exact nos e
theorem YY {a b:AV} {c d:Value} {r:Bool} (e:isA a b=some r) (ra:VR X μ s.heap a c) (rb:VR X μ s.heap b d):plainIs c d=true∧(c == d)=r:=by
 cases b with
 | none =>
  rw [rb.none_]
  cases a with
  | none=>cases e;rw [ra.none_];exact ⟨rfl,rfl⟩
  | bool x=>cases e;rw [ra.bool_];exact ⟨rfl,rfl⟩
  | int x=>cases e;obtain ⟨t,rfl⟩:=ra.int_;exact ⟨rfl,rfl⟩
  | ref x=>cases e;obtain ⟨t,_,rfl⟩:=ra.ref_;exact ⟨rfl,rfl⟩
  | str x=>cases e;obtain ⟨t,rfl,_⟩:=ra.str_;exact ⟨rfl,rfl⟩
  | _=>exact nos e
 | bool y =>
  rw [rb.bool_]
  obtain ⟨x,hx,rfl⟩:=yC e
  rw [Yl hx] at ra
  rw [ra.bool_]
  exact ⟨rfl,by cases x <;> cases y <;> rfl⟩
 | _=>exact nos e
theorem Yp {a b:AV} {c d:Value} {r:Bool} (e:aEq hp a b=some r) (R:Room n A l) (I:Inv X μ hp s) (ra:VR X μ s.heap a c) (rb:VR X μ s.heap b d) :
  ∃ x y as bs,Reads s.heap c x as∧Reads s.heap d y bs∧x.canLay0=true∧y.canLay0=true∧A.units+min x.depth y.depth<cLine∧PyData.eqv x y=r:=by
 obtain ⟨x,hx,e⟩:=zS e
 obtain ⟨y,hy,rfl⟩:=yC e
 obtain ⟨⟨as,r1⟩,c1,d1⟩:=qe I _ hx ra
 obtain ⟨⟨bs,r2⟩,c2,d2⟩:=qe I _ hy rb
 exact ⟨x,y,as,bs,r1,r2,c1,c2,Nat.lt_of_le_of_lt (Nat.add_le_add_left (Nat.le_trans (Nat.min_le_left _ _) (Nat.le_trans d1 (by decide))) _) R.units',rfl⟩
theorem qz {p:Int→Int→Bool} {a b:AV} {c d:Value} {r:Bool} (e:z1s p a b=some r) (ra:VR X μ s.heap a c) (rb:VR X μ s.heap b d):∃ i j t u,c=.int i t∧d=.int j u∧p i j=r:=by
 obtain ⟨i,hi,e⟩:=zS e
 obtain ⟨j,hj,rfl⟩:=yC e
 have:=zv hi;subst this
 have:=zv hj;subst this
 obtain ⟨t,rfl⟩:=ra.int_
 obtain ⟨u,rfl⟩:=rb.int_
 exact ⟨_,_,_,_,rfl,rfl,rfl⟩
theorem QP {a b:AV} {c d:Value} {r neg:Bool} {Q:Value→Shared→Prop} (e:inA hp a b=some r) (I:Inv X μ hp s) (ra:VR X μ s.heap a c) (rb:VR X μ s.heap b d)
  (k:∀ t,Q (.bool (bif neg then !r else r)) { s with toks:=t }):wpAny (model prog w) A (compareOp (bif neg then .NotIn else .In) c d) Q E s:=by
 have e:(match yi b with
  | some d=>(y8 a).bind fun k=>(zw hp d).map fun kvs=>(yp kvs k).isSome
  | none=>(xV a).bind fun x=>(xV b).map fun y=>Txt.contains y x)=some r:=e
 cases hb:yi b with
 | some q =>
  rw [hb] at e
  obtain ⟨i,hi,e⟩:=zS e
  obtain ⟨kvs,h2,rfl⟩:=yC e
  rw [zv hi] at ra
  rw [yc hb] at rb
  obtain ⟨t,rfl⟩:=ra.int_
  obtain ⟨d',es,rfl,_,m,p,z,_⟩:=I.dict_at rb (xR h2) prog w
  have hk:(intKind prog w).is i (.int i t)=true:=by show Value.isInt i (.int i t)=true;simp [Value.isInt]
  rw [← p.isSome] at k
  cases neg with
  | false=>exact wpAny_in_of hk z m.mapOf (k _)
  | true=>exact wpAny_notIn_of hk z m.mapOf (k _)
 | none =>
 rw [hb] at e
 obtain ⟨x,hx,e⟩:=zS e
 obtain ⟨y,hy,rfl⟩:=yC e
 rw [xg hx] at ra
 rw [xg hy] at rb
 obtain ⟨t,rfl,_⟩:=ra.str_
 obtain ⟨u,rfl,_⟩:=rb.str_
 cases neg with
 | false=>exact SB.contains (k s.toks)
 | true=>exact SB.notContains (k s.toks)
theorem wx {op:CmpOp} {a b:AV} {c d:Value} {r:Bool} {Q:Value→Shared→Prop} (e:yl op a b hp=some r) (R:Room n A l) (I:Inv X μ hp s) (ra:VR X μ s.heap a c) (rb:VR X μ s.heap b d)
  (k:∀ t,Q (.bool r) { s with toks:=t }):wpAny (model prog w) A (compareOp op c d) Q E s:=by
 have k0:=k s.toks
 cases op with
 | Eq =>
  obtain ⟨x,y,as,bs,r1,r2,c1,c2,d1,rfl⟩:=Yp e R I ra rb
  exact SeqAt.compareEq_reads r1 r2 c1 c2 d1 k0
 | NotEq =>
  have e:(match neD hp a b with
   | some r=>some r
   | none=>(aEq hp a b).map (!·))=some r:=e
  cases hq:neD hp a b with
  | some r' =>
   rw [hq] at e
   cases e
   obtain ⟨x,h1,hq⟩:=zS hq
   obtain ⟨kvs,h2,hq⟩:=zS hq
   obtain ⟨y,h3,hq⟩:=zS hq
   obtain ⟨k2,h4,hq⟩:=zS hq
   obtain ⟨h5,rfl⟩:=zb hq
   rw [yc h1] at ra
   rw [yc h3] at rb
   obtain ⟨d1,es,rfl,_,m1,p1,z1,_⟩:=I.dict_at ra (xR h2) prog w
   obtain ⟨d2,es2,rfl,_,m2,p2,z2,_⟩:=I.dict_at rb (xR h4) prog w
   cases k2 with
   | cons=>exact nob h5
   | nil =>
   cases p2
   refine z3d z1 z2 m1 m2 (Nat.lt_of_le_of_lt (Nat.le_add_right _ _) R.units') ?_
   rw [show es.isEmpty=kvs.isEmpty from by cases p1 <;> rfl]
   exact k s.toks
  | none =>
  rw [hq] at e
  obtain ⟨r',e',rfl⟩:=yC e
  obtain ⟨x,y,as,bs,r1,r2,c1,c2,d1,rfl⟩:=Yp e' R I ra rb
  exact SeqAt.compareNe_reads r1 r2 c1 c2 d1 k0
 | Lt=>obtain ⟨i,j,t,u,rfl,rfl,rfl⟩:=qz e ra rb;exact P.lt_int k0
 | LtE=>obtain ⟨i,j,t,u,rfl,rfl,rfl⟩:=qz e ra rb;exact P.le_int k0
 | Gt=>obtain ⟨i,j,t,u,rfl,rfl,rfl⟩:=qz e ra rb;exact P.gt_int k0
 | GtE=>obtain ⟨i,j,t,u,rfl,rfl,rfl⟩:=qz e ra rb;exact P.ge_int k0
 | Is =>
  obtain ⟨p,q⟩:=YY e ra rb
  exact wpAny_is_plain p (by rw [q];exact k0)
 | IsNot =>
  obtain ⟨r',e',rfl⟩:=yC e
  obtain ⟨p,q⟩:=YY e' ra rb
  exact wpAny_isNot_plain p (by rw [q];exact k0)
 | In=>exact QP (neg:=false) e I ra rb k
 | NotIn =>
  obtain ⟨r',e',rfl⟩:=yC e
  exact QP (neg:=true) e' I ra rb k
end
section
variable {prog:Program} {w:World} {X:Cx} {μ:Mu} {hp hp':Hp} {s:Shared} {A:Around} {E:Value→Shared→Prop} {n:Nat} {l:List Env} {Q:Value→Shared→Prop}
theorem qN (h:Heap):h.get? h.objs.size=none:=by
 cases q:h.get? h.objs.size with
 | none=>rfl
 | some o=>exact absurd (Heap.lt_size q) (Nat.lt_irrefl _)
theorem wA {c:Addr} {b:Addr} (hb:b∈ads (c,none)):b=c:=by
 cases hb with
 | head=>rfl
 | tail _ h=>cases h
theorem wX (μ:Mu) (p:Addr×Option Addr) {k:Nat} (hk:μ.length=k):(μ++[p])[k]? = some p:=by
 subst hk
 rw [List.getElem?_append_right (Nat.le_refl _),Nat.sub_self];rfl
theorem PE.listNew {xs:List AV} (k:PE X μ s (.ref hp.length) (hp++[.list xs]) Q) (I:Inv X μ hp s) {items:Array Value} {t j:Nat} {h':Heap} (z:xs.length≤small)
  (hk:∀ b o,s.heap.get? b=some o→h'.get? b=some o) (hl:h'.get? s.heap.objs.size=some { cls:=.type "list",dict:=none,data:=.seq items j,slots:=#[] }) (r:VRs X μ h' xs items.toList) :
  Q (.ref s.heap.objs.size) { s with heap:=h',toks:=t }:=by
 obtain ⟨I',a⟩:=I.new (t:=t) (p:=(s.heap.objs.size,none)) (o:=.list xs) hk (fun b hb=>by rw [wA hb];exact qN _) (List.nodup_cons.mpr ⟨List.not_mem_nil,List.nodup_nil⟩) (.list (n:=j) hl z (r.mono (List.prefix_append _ _) fun _ _ e _=>e))
 exact k _ _ _ a I' (.ref (wX μ _ I.len))
theorem PE.list {xs:List AV} (k:PE X μ s (.ref hp.length) (hp++[.list xs]) Q) (I:Inv X μ hp s) {items:Array Value} {t j:Nat} (z:xs.length≤small) (r:VRs X μ s.heap xs items.toList) :
  Q (.ref s.heap.objs.size) { s with heap:=s.heap.push { cls:=.type "list",data:=.seq items j },toks:=t } :=
 k.listNew I z (fun b o e=>Heap.get?_push_of_some _ e) (Heap.get?_push_size _ rfl) (r.mono (List.prefix_refl _) fun b o e _=>Heap.get?_push_of_some _ e)
theorem z1w {i:Int} (h:i.natAbs<2 ^ 63):Builtin.Int.intBits i≤64:=PySem.intBits_le_64 (by lia) (by lia)
theorem JK {op:Operator} {a b:AV} {c d:Value} (I:Inv X μ hp s) (ra:VR X μ s.heap a c) (rb:VR X μ s.heap b d)
  (k:PO X l μ s (XY op a b hp) Q E):wpAny (model prog w) A (binaryOp op c d) Q E s:=by
 have k:PO X l μ s (Out.of (match xV a with
   | some x=>(xV b).bind fun y=>JV op x y
   | none=>(y8 a).bind fun i=>(y8 b).bind fun j=>(zGr op i j).map AV.int) hp) Q E:=k
 obtain ⟨v,e0,k⟩:=k.of
 have k:PE X μ s v hp Q:=k
 cases hs:xV a with
 | some x =>
  rw [hs] at e0
  obtain ⟨y,hy,e1⟩:=zS e0
  clear e0
  rw [xg hs] at ra
  rw [xg hy] at rb
  obtain ⟨t,rfl,_⟩:=ra.str_
  obtain ⟨u,rfl,_⟩:=rb.str_
  cases op with
  | Add =>
   obtain ⟨h,rfl⟩:=zb e1
   exact SB.add (fun t' j=>k.tok I (.str _ (by rw [Str.length_append];exact h))) (y9 h)
  | _=>exact nos e1
 | none =>
 rw [hs] at e0
 obtain ⟨i,hi,e2⟩:=zS e0
 clear e0
 obtain ⟨j,hj,e3⟩:=zS e2
 clear e2
 obtain ⟨m,e,rfl⟩:=yC e3
 clear e3
 rw [zv hi] at ra
 rw [zv hj] at rb
 obtain ⟨t,rfl⟩:=ra.int_
 obtain ⟨u,rfl⟩:=rb.int_
 have kk:∀ (u:Tok) (t:Nat),Q (.int m u) { s with toks:=t }:=fun u t=>k.tok I (.int _ _)
 cases op with
 | Add=>cases e;exact P.add_int (kk _ _)
 | Sub=>cases e;exact P.sub_int (kk _ _)
 | Mult =>
  obtain ⟨h,rfl⟩:=zb e
  refine P.mul_int (kk _ _) ?_
  rcases h with h | h
  ·exact .of_left (z1w h)
  ·exact .of_right (z1w h)
 | FloorDiv =>
  obtain ⟨h,rfl⟩:=zb e
  exact PySem.AutoIntOps.floordiv_1 (fun q=>h.1 (by simpa using q)) (by rw [PyProof.noPylong_small h.2];exact Bool.false_ne_true) (kk _ _)
 | Mod =>
  have e:(if j=0 then none else some (i.fmod j))=some m:=e
  by_cases h:j=0
  ·rw [if_pos h] at e;exact nos e
  ·rw [if_neg h] at e;cases e
   exact PySem.AutoIntOps.mod_1 (fun q=>h (by simpa using q)) (kk _ _)
 | _=>exact nos e
noncomputable def zGw (s:Shared) (c:Value):Prop:=∃ T id,s.TypeIs c T∧typeLookup (.type T) "__getitem__" = pure (some (.builtin id))
theorem ZZ {k:Int} {len:Nat} (h0:0≤k) (h:k.toNat<len):seqIndex? k len=some k.toNat:=by
 unfold seqIndex?
 have e1:k=((k.toNat:Nat):Int):=by lia
 generalize k.toNat=j at *
 subst e1
 simp
 lia
theorem J8 {o i v:AV} {c d:Value} (e:wF hp o i=some v) (I:Inv X μ hp s) (ro:VR X μ s.heap o c) (ri:VR X μ s.heap i d) (k:PE X μ s v hp Q) :
  zGw s c∧wpAny (model prog w) A (getItem c d) Q E s:=by
 obtain ⟨j,hj,e1⟩:=zS e
 clear e
 rw [zv hj] at ri
 obtain ⟨t,rfl⟩:=ri.int_
 cases hq:(yi o).bind (zw hp) with
 | some kvs =>
  rw [hq] at e1
  have e1:yp kvs j=some v:=e1
  obtain ⟨a,ha,hd⟩:=zS hq
  rw [yc ha] at ro
  obtain ⟨d',es,rfl,_,m,p,_,_⟩:=I.dict_at ro (xR hd) prog w
  rcases p.get (k:=j) with ⟨q,_⟩ | ⟨v',w',q,q2,rv⟩
  ·rw [q] at e1;exact nos e1
  ·rw [q] at e1
   cases e1
   exact ⟨⟨_,_,m.typeIs,slot_dict_getitem.lookup⟩,wpAny_getItem_of (k:=j) (by show Value.isInt j (.int j t)=true;simp [Value.isInt]) m.mapOf q2 (k.tok I rv)⟩
 | none =>
 rw [hq] at e1
 by_cases h:okI j=true
 case neg =>
  have e1:(if okI j=true then _ else none)=some v:=e1
  rw [if_neg h] at e1
  cases e1
 rw [if_pos h] at e1
 have e:=e1
 clear e1
 obtain ⟨h0,h1⟩:=x6.mp h
 cases hs:xV o with
 | some x =>
  rw [hs] at e
  obtain ⟨ch,hc,rfl⟩:=yC e
  rw [xg hs] at ro
  obtain ⟨u,rfl,_⟩:=ro.str_
  have hlt:=(Array.getElem?_eq_some_iff.mp hc).1
  have e0:seqIndex? j x.length=some j.toNat:=ZZ h0 hlt
  have e2:Txt.charAt x j=some ch:=by unfold Txt.charAt;rw [e0];exact hc
  refine ⟨⟨_,_,typeIs_str _ _ _,F.slot_str_getitem.lookup⟩,SB.getItem (by unfold fitsSsize;simp;lia) (by rw [e2];rfl) ?_⟩
  have e3:Txt.item x j=⟨#[ch]⟩:=by unfold Txt.item;rw [e2];rfl
  rw [e3]
  exact k.tok I (.str _ (by simp [Str.length,small]))
 | none =>
  rw [hs] at e
  have e:(match j6 o with
   | some xs=>xs[j.toNat]?
   | none=>(wM hp o).bind fun xs=>xs[j.toNat]?)=some v:=e
  cases ht:j6 o with
  | some xs =>
   rw [ht] at e
   rw [jP ht] at ro
   obtain ⟨a,items,rfl,hT,z,r⟩:=ro.tup_
   obtain ⟨x,hx,rx⟩:=r.get e
   have hlt:j.toNat<items.size:=by rw [← Array.length_toList];exact (yL hx).1
   obtain ⟨o',ho,hc,m,hd⟩:=hT
   exact ⟨⟨_,_,⟨o',ho,hc⟩,F.slot_tuple_getitem.lookup⟩,PyProof.Rows.getItem_tuple ⟨o',ho,hc,m,hd⟩ (by lia) (by lia) (ZZ h0 hlt) (by rw [← Array.getElem?_toList];exact hx) (k.here I rx)⟩
  | none =>
  rw [ht] at e
  obtain ⟨xs,hs,e⟩:=zS e
  obtain ⟨a,items,rfl,l,z,r⟩:=qf I hs ro
  obtain ⟨x,hx,rx⟩:=r.get e
  exact ⟨⟨_,_,l.typeIs,list_getitem_lookup⟩,wpAny_getItem_list l h0 (by lia) (by rw [← Array.getElem?_toList];exact hx) (k.here I rx)⟩
theorem XX (a n:Nat):max 0 (min (if (a:Int)<0 then (a:Int)+(n:Int) else (a:Int)) (n:Int))=((min a n:Nat):Int):=by
 rw [if_neg (Int.not_lt.mpr (Int.natCast_nonneg a)),Int.max_eq_right (Int.le_min.mpr ⟨Int.natCast_nonneg _,Int.natCast_nonneg _⟩)]
 rcases Nat.le_total a n with h | h
 ·rw [Nat.min_eq_left h,Int.min_eq_left (Int.ofNat_le.mpr h)]
 ·rw [Nat.min_eq_right h,Int.min_eq_right (Int.ofNat_le.mpr h)]
theorem Xj {x y n:Nat} (hx:x≤n) (hy:y≤n) (h:x - y=n):(y=0∧x=n)∨n=0:=by lia
theorem WJ {α:Type} (xs:List α) (n:Nat) (hn:xs.length=n) (lo hi:Option Nat) :
  ∃ a b:Nat,sliceBounds (lo.map Int.ofNat) (hi.map Int.ofNat) none n=((a:Int),(b:Int),1)∧(xs.drop a).take (b - a)=j4 xs (lo.getD 0) hi∧b≤n∧(b - a=n→(a=0∧b=n)∨n=0):=by
 subst hn
 have dm:∀ a:Nat,xs.drop (min a xs.length)=xs.drop a:=fun a=>by
  rcases Nat.le_total a xs.length with h | h
  ·rw [Nat.min_eq_left h]
  ·rw [Nat.min_eq_right h,List.drop_of_length_le (Nat.le_refl _),List.drop_of_length_le h]
 have tm:∀ b:Nat,xs.take (min b xs.length)=xs.take b:=fun b=>by rw [List.take_eq_take_iff,Nat.min_assoc,Nat.min_self]
 cases lo with
 | none =>
  cases hi with
  | none=>exact ⟨0,xs.length,by simp [sliceBounds],by simp [j4],Nat.le_refl _,fun _=>.inl ⟨rfl,rfl⟩⟩
  | some b=>exact ⟨0,min b xs.length,by simp [sliceBounds];exact XX b _,by
    show (xs.drop 0).take (min b xs.length - 0)=(xs.take b).drop 0
    rw [List.drop_zero,List.drop_zero,Nat.sub_zero,tm],Nat.min_le_right _ _,fun h=>.inl ⟨rfl,h⟩⟩
 | some a =>
  cases hi with
  | none=>exact ⟨min a xs.length,xs.length,by simp [sliceBounds];exact XX a _,by
    show (xs.drop (min a xs.length)).take (xs.length - min a xs.length)=xs.drop a
    rw [dm,List.take_of_length_le (by rw [← dm a,List.length_drop];exact Nat.le_refl _)],Nat.le_refl _,fun h=>Xj (Nat.le_refl _) (Nat.min_le_right _ _) h⟩
  | some b=>exact ⟨min a xs.length,min b xs.length,by simp [sliceBounds];exact ⟨XX a _,XX b _⟩,by
    show (xs.drop (min a xs.length)).take (min b xs.length - min a xs.length)=(xs.take b).drop a
    rw [← List.drop_take,tm]
    rcases Nat.le_total a xs.length with h | h
    ·rw [Nat.min_eq_left h]
    ·rw [Nat.min_eq_right h,List.drop_of_length_le (List.length_take_le' _ _),List.drop_of_length_le (Nat.le_trans (List.length_take_le' _ _) h)],Nat.min_le_right _ _,fun h=>Xj (Nat.min_le_right _ _) (Nat.min_le_right _ _) h⟩
theorem z0d (items:Array Value) (lo hi:Option Nat):slicePick items (lo.map Int.ofNat) (hi.map Int.ofNat) none=(j4 items.toList (lo.getD 0) hi).toArray:=by
 obtain ⟨a,b,e,q,_⟩:=WJ items.toList items.size (by simp) lo hi
 unfold slicePick
 rw [e]
 simp only [sliceRange_one,pick_run,q]
theorem Z9 {v:AV} {c:Value} {o:Option Nat} {μ:Mu} {h:Heap} (e:xc v=some o) (r:VR X μ h v c):IsPart c (o.map Int.ofNat):=by
 cases v with
 | none=>cases e;rw [r.none_];exact .none
 | int k =>
  obtain ⟨h,rfl⟩:=zb (show (if okI k then some (some k.toNat) else none)=some o from e)
  obtain ⟨t,rfl⟩:=r.int_
  have:(Option.map Int.ofNat (some k.toNat))=some k:=by show some ((k.toNat:Nat):Int)=_;rw [Int.toNat_of_nonneg (x6.mp h).1]
  rw [this];exact .int _ _
 | _=>exact nos e
theorem Zx {α:Type} (xs:List α) (a:Nat) (b:Option Nat):(j4 xs a b).length≤xs.length:=by
 unfold j4;split <;> simp <;> lia
theorem VRs.cut {μ:Mu} {h:Heap} {xs:List AV} {vs:List Value} (r:VRs X μ h xs vs) (a:Nat) (b:Option Nat):VRs X μ h (j4 xs a b) (j4 vs a b):=by
 unfold j4;split
 ·exact (r.take _).drop _
 ·exact r.drop _
theorem JG {o lo' u:AV} {c lv uv:Value} {sl:Addr} (I:Inv X μ hp s) (ro:VR X μ s.heap o c) (rl:VR X μ s.heap lo' lv) (ru:VR X μ s.heap u uv)
  (hs:s.heap.IsSliceOf sl lv uv .none) (k:PO X l μ s (z1q hp o lo' u) Q E):zGw s c∧wpAny (model prog w) A (getItem c (.ref sl)) Q E s:=by
 obtain ⟨v,hp',e,k⟩:=k.ofP
 have k:PE X μ s v hp' Q:=k
 obtain ⟨lo,hl,e1⟩:=zS e
 clear e
 obtain ⟨hi,hu,e⟩:=zS e1
 clear e1
 have pl:=Z9 hl rl
 have pu:=Z9 hu ru
 obtain ⟨xs,hx,e1⟩:=zS e
 clear e
 obtain ⟨z,e⟩:=zb e1
 cases e
 obtain ⟨a,items,rfl,li,_,r⟩:=qf I hx ro
 refine ⟨⟨_,_,li.typeIs,list_getitem_lookup⟩,wpAny_getItem_list_slice li hs pl pu .none (by simp) ?_ (by rw [r.size];exact y9 z)⟩
 rw [z0d]
 exact k.list I (Nat.le_trans (Zx _ _ _) z) (r.cut _ _)
theorem J3 {v:AV} {t:Bi} {c:Value} {r:Bool} (e:zEa v t=some r) (rv:VR X μ s.heap v c) (k:∀ t,Q (.bool r) { s with toks:=t }) :
  wpAny (model prog w) A (call (.builtin "isinstance") [c,jD t]) Q E s:=by
 have k0:=k s.toks
 have k1:=k (s.toks+1)
 cases t with
 | int =>
  cases v with
  | int i=>cases e;obtain ⟨u,rfl⟩:=rv.int_;exact IsiPair.int_int k0
  | _=>exact nos e
 | bool =>
  cases v with
  | bool b=>cases e;rw [rv.bool_];exact IsiPair.bool_bool k0
  | int i=>cases e;obtain ⟨u,rfl⟩:=rv.int_;exact IsiPair.int_bool k1
  | _=>exact nos e
 | str =>
  cases v with
  | str x=>cases e;obtain ⟨u,rfl,_⟩:=rv.str_;exact IsiPair.str_str k0
  | _=>exact nos e
 | tuple =>
  obtain ⟨xs,h1,rfl⟩:=yC e
  rw [jP h1] at rv
  obtain ⟨c,items,rfl,hT,_⟩:=rv.tup_
  exact IsiPair.isTuple_tuple hT (fun _ _ e=>e) k0
 | _=>exact nos e
theorem Yk {μ:Mu} {h:Heap} {xs:List AV}:∀ {bs:List Bool} {vs:List Value},xp xs=some bs→VRs X μ h xs vs→vs=bs.map Value.bool:=by
 induction xs with
 | nil=>intro bs vs e r;cases e;exact r.nil_
 | cons x xs ih =>
  intro bs vs e r
  obtain ⟨b,hb,e1⟩:=zS e
  obtain ⟨cs,hc,rfl⟩:=yC e1
  obtain ⟨v,ws,rfl,a,q⟩:=r.cons_
  rw [Yl hb] at a
  rw [a.bool_,ih hc q];rfl
theorem JU {μ:Mu} {h:Heap} {xs:List AV}:∀ {ss:List Str} {vs:List Value},jx xs=some ss→VRs X μ h xs vs→∃ l:List (Str×Tok),vs=strValues l∧l.map (·.1)=ss:=by
 induction xs with
 | nil=>intro bs vs e r;cases e;exact ⟨[],r.nil_,rfl⟩
 | cons x xs ih =>
  intro bs vs e r
  obtain ⟨b,hb,e1⟩:=zS e
  obtain ⟨cs,hc,rfl⟩:=yC e1
  obtain ⟨v,ws,rfl,a,q⟩:=r.cons_
  rw [xg hb] at a
  obtain ⟨t,rfl,_⟩:=a.str_
  obtain ⟨l,rfl,rfl⟩:=ih hc q
  exact ⟨(b,t)::l,rfl,rfl⟩
theorem YG (bs:List Bool) (n:Nat) (hn:n=bs.length):(List.range n).all (fun i=>bs.getD i false)=bs.all id:=by
 subst hn
 rw [Bool.eq_iff_iff]
 simp only [List.all_eq_true,List.mem_range,id]
 constructor
 ·intro h b hb
  obtain ⟨i,hi,rfl⟩:=List.getElem_of_mem hb
  have:=h i hi
  simpa [List.getD,y6 hi] using this
 ·intro h i hi
  simpa [List.getD,y6 hi] using h _ (List.getElem_mem hi)
theorem YF (bs:List Bool) (n:Nat) (hn:n=bs.length):(List.range n).any (fun i=>bs.getD i false)=bs.any id:=by
 subst hn
 rw [Bool.eq_iff_iff]
 simp only [List.any_eq_true,List.mem_range,id]
 constructor
 ·rintro ⟨i,hi,h⟩
  exact ⟨bs[i],List.getElem_mem hi,by simpa [List.getD,y6 hi] using h⟩
 ·rintro ⟨b,hb,h⟩
  obtain ⟨i,hi,rfl⟩:=List.getElem_of_mem hb
  exact ⟨i,hi,by simpa [List.getD,y6 hi] using h⟩
theorem QE {a:Addr} {items:Array Value} {Q:Value→Shared→Prop} (hh:A.handled=none) (hl:s.heap.IsList a items)
  (k:∀ s₂ it,s₂={ s with heap:=s₂.heap }→(∀ b o,s.heap.get? b=some o→s₂.heap.get? b=some o)→s.heap.get? it=none →
   Walks prog w A it [it,a] [it] items.size (fun i v=>items[i]? = some v) (fun i h=>h.IsListIter it a i∧h.IsList a items)→(s₂.heap.IsListIter it a 0∧s₂.heap.IsList a items)→Q (.ref it) s₂) :
  wpAny (model prog w) A (pyIter (.ref a)) Q E s:=by
 have hlt:a<s.heap.objs.size:=by obtain ⟨_,e,_⟩:=hl;exact Heap.lt_size e
 refine wpAny_pyIter_list hl (k _ _ rfl (fun b o e=>Heap.get?_push_of_some _ e) ?_ (Walks.list hh _ a (Nat.ne_of_lt hlt) items) ⟨⟨_,Heap.get?_push_size _ rfl,rfl,rfl⟩,hl.push _⟩)
 cases q:s.heap.get? s.heap.objs.size with
 | none=>rfl
 | some o=>exact absurd (Heap.lt_size q) (Nat.lt_irrefl _)
theorem Xf {items:Array Value} {bs:List Bool} {i:Nat} {v:Value} {s':Shared} {A:Around} {Q:Bool→Shared→Prop} {E:Value→Shared→Prop} (ev:items.toList=bs.map Value.bool) (hP:items[i]? = some v) (hQ:Q (bs.getD i false) s'):wpAny (model prog w) A (truthy v) Q E s':=by
 rw [← Array.getElem?_toList,ev,List.getElem?_map] at hP
 cases hg:bs[i]? with
 | none=>rw [hg] at hP;exact nos hP
 | some b=>rw [hg] at hP;cases hP;rw [List.getD,hg] at hQ;exact wpAny_truthy_bool hQ
theorem Qt (a b:Int):(qp a b).length=(b - a).toNat:=by unfold qp;rw [List.length_map,List.length_range]
theorem Za (a b:Int):Builtin.Range.rangeSize a b 1=((b - a).toNat:Int):=by
 unfold Builtin.Range.rangeSize
 simp
 lia
theorem qg {a:Int} (h:a.natAbs<2 ^ 63):Builtin.Range.rangeFitsLong a=true:=by
 unfold Builtin.Range.rangeFitsLong
 simp
 lia
theorem Xs {a b:Int} (h2:a.natAbs<2 ^ 62) (h3:b.natAbs<2 ^ 62):Builtin.Range.small a b 1=true:=by
 unfold Builtin.Range.small
 rw [Za,qg (by lia),qg (by lia),qg (by lia),qg (by lia)]
 simp
 exact .inr (qg (by lia))
theorem QM {μ:Mu} {h:Heap} {xs:List AV}:∀ {is:List Int} {vs:List Value},yI y8 xs=some is→VRs X μ h xs vs→PyProof.Rows.IntsAre vs is:=by
 induction xs with
 | nil=>intro is vs e r;cases e;rw [r.nil_];exact .nil
 | cons x xs ih =>
  intro is vs e r
  obtain ⟨v,ws,rfl,r1,r2⟩:=r.cons_
  obtain ⟨i,js,h1,h2,rfl⟩:=qh e
  rw [zv h1] at r1
  obtain ⟨t,rfl⟩:=r1.int_
  exact .cons i t (ih h2 r2)
theorem Y8 {μ:Mu} {h:Heap} {is:List Int} {vs:List Value} (r:PyProof.Rows.IntsAre vs is):VRs X μ h (is.map AV.int) vs:=by
 induction r with
 | nil=>exact .nil
 | cons n t _ ih=>exact .cons (.int n t) ih
theorem QL {vs:List Value} {is:List Int} (r:PyProof.Rows.IntsAre vs is):is.length=vs.length:=by
 induction r with
 | nil=>rfl
 | cons n t _ ih=>exact congrArg (·+1) ih
theorem z39 {v:AV} {q:Int×Int} (h:Qw v=some q):v=prV q:=by
 obtain ⟨xs,h1,h⟩:=zS h
 obtain ⟨p,h2,h⟩:=zS h
 obtain ⟨i,h3,h⟩:=zS h
 obtain ⟨j,h4,rfl⟩:=yC h
 rw [jP h1,wH h2,zv h3,zv h4]
theorem zE3 {xs:List AV}:∀ {qs:List (Int×Int)},yI Qw xs=some qs→xs=qs.map prV:=by
 induction xs with
 | nil=>intro qs h;cases h;rfl
 | cons x xs ih =>
  intro qs h
  obtain ⟨q,ys,h1,h2,rfl⟩:=qh h
  rw [z39 h1,ih h2];rfl
theorem z3l {μ:Mu} {h:Heap} {q:Int×Int} {v:Value} (r:VR X μ h (prV q) v):z48 h v q:=by
 obtain ⟨a,items,rfl,⟨o,ho,hc,n,hd⟩,_,rs⟩:=VR.tup_ r
 obtain ⟨v,u,e,r1,r2⟩:=rs.two
 obtain ⟨t1,rfl⟩:=r1.int_
 obtain ⟨t2,rfl⟩:=r2.int_
 exact ⟨a,o,n,t1,t2,rfl,ho,hc,by rw [hd,show items=#[.int q.1 t1,.int q.2 t2] from Array.toList_inj.mp e]⟩
theorem z38 {μ:Mu} {h:Heap} {qs:List (Int×Int)}:∀ {vs:List Value},VRs X μ h (qs.map prV) vs→Prs h vs qs:=by
 induction qs with
 | nil=>intro vs r;rw [r.nil_];exact ⟨rfl,fun i hi=>absurd hi (Nat.not_lt_zero _)⟩
 | cons q qs ih =>
  intro vs r
  obtain ⟨v,ws,rfl,rv,rs⟩:=VRs.cons_ r
  exact ⟨congrArg (·+1) (ih rs).len,fun i hi=>by
   cases i with
   | zero=>exact z3l rv
   | succ i=>exact (ih rs).at_ i (Nat.lt_of_succ_lt_succ hi)⟩
theorem VRs.byP {μ:Mu} {h:Heap} {xs:List AV} {vs:List Value} (r:VRs X μ h xs vs) (d:AV) (p:List Nat) (hp:∀ i∈p,i<xs.length):VRs X μ h (Mine.byP d xs p) (Mine.byP .none vs p):=by
 induction p with
 | nil=>exact .nil
 | cons i p ih =>
  have hi:=hp i (.head _)
  obtain ⟨v,e,rv⟩:=r.get (y6 hi)
  refine .cons (?_:VR X μ h (xs.getD i d) (vs.getD i .none)) (ih fun j hj=>hp j (.tail _ hj))
  rw [List.getD_eq_getElem?_getD,List.getD_eq_getElem?_getD,y6 hi,e]
  exact rv
theorem z42 {α β:Type} (f:α→β) (d:α) (l:List α) (p:List Nat):(byP d l p).map f=byP (f d) (l.map f) p:=by
 unfold byP
 rw [List.map_map]
 refine List.map_congr_left fun i _=>?_
 show f (l.getD i d)=(l.map f).getD i (f d)
 rw [List.getD_eq_getElem?_getD,List.getD_eq_getElem?_getD,List.getElem?_map]
 cases l[i]? <;> rfl
theorem z2m {qs:List (Int×Int)} {p:List Nat} (ok:∀ q∈qs,jk q) (a1:p.Perm (List.range qs.length)) (a2:(byP (0,0) qs p).Pairwise fun x y=>code x<code y):byP (0,0) qs p=qs.mergeSort fun x y=>decide (code x≤code y):=by
 have e:(byP (0,0) qs p).Perm qs:=by
  have:=a1.map fun i=>qs.getD i (0,0)
  rw [jE] at this
  exact this
 have e2:=List.mergeSort_perm qs fun x y=>decide (code x≤code y)
 refine List.Perm.eq_of_pairwise (le:=fun x y=>code x≤code y) (fun a b ha hb h1 h2=>?_) (a2.imp Int.le_of_lt) (JZ qs) (e.trans e2.symm)
 have o1:0≤a.2∧a.2<1048576:=ok a (e.mem_iff.mp ha)
 have o2:0≤b.2∧b.2<1048576:=ok b (e2.mem_iff.mp hb)
 have h1:a.1 * 1048576+a.2≤b.1 * 1048576+b.2:=h1
 have h2:b.1 * 1048576+b.2≤a.1 * 1048576+a.2:=h2
 exact Prod.ext (by lia) (by lia)
theorem z1x {b:Bi} {args:List AV} {args':List Value} (R:Room n A l) (I:Inv X μ hp s) (ra:VRs X μ s.heap args args') (k:PO X l μ s (yu b args hp) Q E) :
  wpAny (model prog w) A (call (jD b) args') Q E s:=by
 obtain ⟨v,hp',e,k⟩:=k.ofP
 have k:PE X μ s v hp' Q:=k
 cases b with
 | len =>
  obtain ⟨v,h1,e⟩:=zS e
  obtain ⟨m,h2,e⟩:=yC e
  cases e
  rw [yd h1] at ra
  obtain ⟨_,rfl,rv⟩:=ra.one
  have h2:(match (yi v).bind (zw hp) with
   | some kvs=>some kvs.length
   | none=>(match xV v with | some x=>some x.length | none=>(wM hp v).map List.length))=some m:=h2
  cases hq:(yi v).bind (zw hp) with
  | some kvs =>
   rw [hq] at h2;cases h2
   obtain ⟨a,ha,hd⟩:=zS hq
   rw [yc ha] at rv
   obtain ⟨d',es,rfl,_,m,p,z,zl⟩:=I.dict_at rv (xR hd) prog w
   refine call_len_dict z m (by rw [← p.len];exact ZW zl) ?_
   rw [← p.len];exact k.tok I (.int _ _)
  | none =>
  rw [hq] at h2
  dsimp only at h2
  cases hs:xV v with
  | some x =>
   rw [hs] at h2;cases h2
   rw [xg hs] at rv
   obtain ⟨t,rfl,z⟩:=rv.str_
   exact P.len_str (Int.not_le.mpr (ZW z)) (k.tok I (.int _ _))
  | none =>
  rw [hs] at h2
  obtain ⟨xs,hx,rfl⟩:=yC h2
  obtain ⟨a,items,rfl,l,z,r⟩:=qf I hx rv
  refine Calls.call_len_list l (by rw [r.size];exact ZW z) ?_
  rw [r.size];exact k.tok I (.int _ _)
 | «isinstance» =>
  obtain ⟨p,h1,e⟩:=zS e
  obtain ⟨t,h2,e⟩:=zS e
  obtain ⟨m,h3,e⟩:=yC e
  cases e
  rw [wH h1] at ra
  obtain ⟨_,_,rfl,rv,rt⟩:=ra.two
  rw [z44 h2] at rt
  rw [rt.bi_]
  exact J3 h3 rv fun t=>k.tok I (.bool _)
 | int=>exact nos e
 | min =>
  obtain ⟨p,h1,e⟩:=zS e
  obtain ⟨i,h2,e⟩:=zS e
  obtain ⟨j,h3,e⟩:=yC e
  cases e
  rw [wH h1] at ra
  obtain ⟨_,_,rfl,r1,r2⟩:=ra.two
  rw [zv h2] at r1
  rw [zv h3] at r2
  obtain ⟨t,rfl⟩:=r1.int_
  obtain ⟨u,rfl⟩:=r2.int_
  refine min_two_ints R.handled fun h' tk hk=>?_
  have:(if j<i then Value.int j u else Value.int i t)=.int (if j<i then j else i) (if j<i then u else t):=by split <;> rfl
  rw [this]
  exact k _ μ _ (.grow hk) (I.grow hk) (.int _ _)
 | max =>
  obtain ⟨p,h1,e⟩:=zS e
  obtain ⟨i,h2,e⟩:=zS e
  obtain ⟨j,h3,e⟩:=yC e
  cases e
  rw [wH h1] at ra
  obtain ⟨_,_,rfl,r1,r2⟩:=ra.two
  rw [zv h2] at r1
  rw [zv h3] at r2
  obtain ⟨t,rfl⟩:=r1.int_
  obtain ⟨u,rfl⟩:=r2.int_
  refine max_two_ints R.handled fun h' tk hk=>?_
  have:(if j > i then Value.int j u else Value.int i t)=.int (if i<j then j else i) (if j > i then u else t):=by
   show (if i<j then _ else _)=Value.int (if i<j then j else i) (if i<j then u else t)
   split <;> rfl
  rw [this]
  exact k _ μ _ (.grow hk) (I.grow hk) (.int _ _)
 | range =>
  obtain ⟨v,h1,e⟩:=zS e
  obtain ⟨i,h2,e⟩:=zS e
  obtain ⟨h,e⟩:=zb e
  cases e
  rw [yd h1] at ra
  obtain ⟨_,rfl,rv⟩:=ra.one
  rw [zv h2] at rv
  obtain ⟨t,rfl⟩:=rv.int_
  exact call_range_1 (k _ μ _ (.grow fun b o e=>Heap.get?_push_of_some _ e) (I.grow fun b o e=>Heap.get?_push_of_some _ e) (.range (IsRange.new ..) (by decide) h))
 | list =>
  obtain ⟨v,h1,e⟩:=zS e
  obtain ⟨a,h2,e⟩:=zS e
  rw [yd h1] at ra
  obtain ⟨_,rfl,rv⟩:=ra.one
  rw [yc h2] at rv
  cases hd:zw hp a with
  | some kvs =>
   rw [hd] at e
   cases e
   obtain ⟨d',es,rfl,_,m,p,z,zl⟩:=I.dict_at rv (xR hd) prog w
   refine J1 z m R.handled (by rw [← p.len];exact y9 zl) fun h' tk vs n hk hg hi=>k.listNew I (by rw [List.length_map];exact zl) hk hg ?_
   rw [p.keys] at hi
   have:=Y8 (X:=X) (μ:=μ) (h:=h') hi
   rw [List.map_map] at this
   exact this
  | none =>
  rw [hd] at e
  obtain ⟨xs,h3,e⟩:=zS e
  obtain ⟨z,e⟩:=zb e
  cases e
  obtain ⟨d,items,m,rfl,_,l,_,r⟩:=I.list_at rv (xP h3)
  exact call_list_seq _ (.inl rfl) l rfl rfl (fun h' c' hk hg=>k.listNew I z hk hg (r.mono (List.prefix_refl _) fun b o e _=>hk b o e)) (by rw [r.size];exact y9 z)
 | sorted =>
  obtain ⟨v,h1,e⟩:=zS e
  obtain ⟨a,h2,e⟩:=zS e
  rw [yd h1] at ra
  obtain ⟨_,rfl,rv⟩:=ra.one
  rw [yc h2] at rv
  cases hd:zw hp a with
  | some kvs =>
   rw [hd] at e
   obtain ⟨⟨z1,z2⟩,e⟩:=zb e
   cases e
   obtain ⟨d',es,rfl,_,m,p,z,zl⟩:=I.dict_at rv (xR hd) prog w
   refine Xl z m R.handled (by rw [← p.len];exact z1) fun D h' tk vs n ns hk hn hg hi hp1 hp2=>?_
   rw [p.keys] at hp1
   have e1:=List.Perm.eq_of_pairwise (fun a b _ _ h1 h2=>Int.le_antisymm h1 h2) hp2 z2 hp1
   subst e1
   have:=Y8 (X:=X) (μ:=μ++[(D,none)]) (h:=h') hi
   rw [List.map_map] at this
   obtain ⟨I',a⟩:=I.new (h':=h') (t:=tk) (p:=(D,none)) (o:=.list (kvs.map fun (p:Int×AV)=>AV.int p.1)) hk (fun b hb=>by rw [wA hb];exact hn) (List.nodup_cons.mpr ⟨List.not_mem_nil,List.nodup_nil⟩) (.list (n:=n) hg (by rw [List.length_map];exact zl) this)
   exact k _ _ _ a I' (.ref (wX μ _ I.len))
  | none =>
  rw [hd] at e
  obtain ⟨xs,h3,e⟩:=zS e
  obtain ⟨d,items,m,rfl,_,l,_,r⟩:=I.list_at rv (xP h3)
  have fr1:∀ b∈ads (s.heap.objs.size+1,none),s.heap.get? b=none:=fun b hb=>by
   rw [wA hb]
   cases q:s.heap.get? (s.heap.objs.size+1) with
   | none=>rfl
   | some o=>exact absurd (Heap.lt_size q) (Nat.not_lt.mpr (Nat.le_succ _))
  have e:(match yI y8 xs with
   | some is=>if is.length<64∧is.Pairwise (·≤·) then some (AV.ref hp.length,hp++[AO.list (is.map AV.int)]) else none
   | none=>(yI Qw xs).bind fun qs=>if qs.length<64∧(∀ q∈qs,jk q)∧(qs.map code).Nodup then some (.ref hp.length,hp++[.list ((qs.mergeSort fun x y=>decide (code x≤code y)).map prV)]) else none)=some _:=e
  cases h4:yI y8 xs with
  | none =>
   rw [h4] at e
   obtain ⟨qs,h5,e⟩:=zS e
   obtain ⟨⟨z1,z2,z3⟩,e⟩:=zb e
   cases e
   rw [zE3 h5] at r
   have pr:=z38 r
   refine Qo (vs:=items.toList) (by rw [Array.toArray_toList];exact ⟨_,l,rfl,m,rfl⟩) pr z2 z3 (by rw [pr.len];exact z1) fun p a1 a2=>?_
   obtain ⟨j,hj⟩:=PyProof.Rows.sortedAll_at s.heap items.toList (byP Value.none items.toList p).toArray
   have le:((qs.mergeSort fun x y=>decide (code x≤code y)).map prV).length≤small:=by rw [List.length_map,List.length_mergeSort];exact Nat.le_trans (Nat.le_of_lt z1) (by decide)
   obtain ⟨I',a⟩:=I.new (h':=PyProof.Rows.sortedAll s.heap items.toList (byP Value.none items.toList p).toArray) (t:=s.toks) (p:=(s.heap.objs.size+1,none)) (o:=.list ((qs.mergeSort fun x y=>decide (code x≤code y)).map prV)) (fun _ _=>PyProof.Rows.sortedAll_old) fr1 (List.nodup_cons.mpr ⟨List.not_mem_nil,List.nodup_nil⟩) (.list (n:=j) hj le (by
    rw [← z2m z2 (pr.len▸a1) a2,z42]
    exact (r.byP _ p fun i hi=>by rw [List.length_map,← pr.len];exact List.mem_range.mp (a1.mem_iff.mp hi)).mono (List.prefix_append _ _) fun b o e _=>PyProof.Rows.sortedAll_old e))
   exact k _ _ _ a I' (.ref (wX μ _ I.len))
  | some is =>
  rw [h4] at e
  obtain ⟨⟨z1,z2⟩,e⟩:=zb e
  cases e
  have hi:=QM h4 r
  refine PyProof.Rows.sorted_ints (vs:=items.toList) (by rw [Array.toArray_toList];exact ⟨_,l,rfl,m,rfl⟩) hi (by rw [← QL hi];exact z1) fun out ns' a1 a2 a3=>?_
  have e1:=List.Perm.eq_of_pairwise (fun a b _ _ h1 h2=>Int.le_antisymm h1 h2) a3 z2 a2
  subst e1
  obtain ⟨j,hj⟩:=PyProof.Rows.sortedAll_at s.heap items.toList out
  obtain ⟨I',a⟩:=I.new (h':=PyProof.Rows.sortedAll s.heap items.toList out) (t:=s.toks) (p:=(s.heap.objs.size+1,none)) (o:=.list (ns'.map AV.int)) (fun _ _=>PyProof.Rows.sortedAll_old) fr1 (List.nodup_cons.mpr ⟨List.not_mem_nil,List.nodup_nil⟩) (.list (n:=j) hj (by rw [List.length_map];exact Nat.le_trans (Nat.le_of_lt z1) (by decide)) (Y8 a1))
  exact k _ _ _ a I' (.ref (wX μ _ I.len))
 | tuple=>exact nos e
 | any =>
  obtain ⟨v,h1,e⟩:=zS e
  obtain ⟨xs,hx,e⟩:=zS e
  obtain ⟨bs,hb,e⟩:=yC e
  cases e
  rw [yd h1] at ra
  obtain ⟨_,rfl,rv⟩:=ra.one
  obtain ⟨a,items,rfl,hl,z,r⟩:=qf I hx rv
  have ev:=Yk hb r
  refine call_any_walk (QE (A:=A.in1) R.handled hl fun s₂ it hs hk hn W st=>⟨_,_,_,_,_,_,fun i=>bs.getD i false,rfl,W,st,fun i v s' Q E hP hQ=>Xf ev hP hQ,fun h' tk hk'=>?_⟩)
  rw [YF bs _ (by rw [← Array.length_toList,ev,List.length_map])]
  have hk2:∀ b o,s.heap.get? b=some o→h'.get? b=some o:=fun b o e=>hk' b o (fun hm=>by
   rw [xE hm,hn] at e;cases e) (hk b o e)
  rw [hs]
  exact k _ μ _ (.grow hk2) (I.grow hk2) (.bool _)
 | all =>
  obtain ⟨v,h1,e⟩:=zS e
  obtain ⟨xs,hx,e⟩:=zS e
  obtain ⟨bs,hb,e⟩:=yC e
  cases e
  rw [yd h1] at ra
  obtain ⟨_,rfl,rv⟩:=ra.one
  obtain ⟨a,items,rfl,hl,z,r⟩:=qf I hx rv
  have ev:=Yk hb r
  refine call_all_walk (QE (A:=A.in1) R.handled hl fun s₂ it hs hk hn W st=>⟨_,_,_,_,_,_,fun i=>bs.getD i false,rfl,W,st,fun i v s' Q E hP hQ=>Xf ev hP hQ,fun h' tk hk'=>?_⟩)
  rw [YG bs _ (by rw [← Array.length_toList,ev,List.length_map])]
  have hk2:∀ b o,s.heap.get? b=some o→h'.get? b=some o:=fun b o e=>hk' b o (fun hm=>by
   rw [xE hm,hn] at e;cases e) (hk b o e)
  rw [hs]
  exact k _ μ _ (.grow hk2) (I.grow hk2) (.bool _)
 | bool=>exact nos e
 | str=>exact nos e
 | enumerate=>exact nos e
noncomputable def z0p:Me→String
 | .append => "list.append" | .insert => "list.insert" | .index => "list.index" | .count => "list.count" | .remove => "list.remove" | .join => "str.join" | .pop => "dict.pop" | .extend => "list.extend" | .clear => "list.clear"
theorem qd (I:Inv X μ hp s) {a:Nat} {c:Addr} {items:Array Value} {m t:Nat} {f:Array Value→Array Value} {xs:List AV} (ha:μ[a]? = some (c,none)) (hl:IsL s.heap c items m) (z:xs.length≤small)
  (r:VRs X μ s.heap xs (f items).toList) :
  Inv X μ (hp.set a (.list xs)) { s with heap:=s.heap.update c (Obj.mapSeq f),toks:=t }∧Le noS μ s μ { s with heap:=s.heap.update c (Obj.mapSeq f),toks:=t }:=by
 have g:∃ m',(s.heap.update c (Obj.mapSeq f)).get? c=some { cls:=.type "list",dict:=none,data:=.seq (f items) m',slots:=#[] }:=⟨_,Heap.get?_update_self _ hl rfl⟩
 obtain ⟨m',g⟩:=g
 have hk:∀ b o,b∉ads (c,none)→s.heap.get? b=some o→(s.heap.update c (Obj.mapSeq f)).get? b=some o:=fun b o hb e=>(Heap.get?_update_other _ _ (fun h=>hb (by rw [← h];exact .head _))).trans e
 refine I.upd ha hk (.list g z (r.mono (List.prefix_refl _) fun b o e fx=>hk b o (fun hb=>?_) e))
 rw [wA hb,hl] at e
 cases e
 exact Mut.notFixed (.inl ⟨rfl,_,_,rfl⟩) fx
theorem QN {α:Type} (items:Array α) (y:α) (k:Nat):((items.extract 0 k).push y++items.extract k).toList=items.toList.take k++y::items.toList.drop k:=by
 simp [Array.toList_extract]
 rw [List.take_of_length_le (by simp)]
theorem JR {α:Type} (ls:List α) (j:Nat):ls.take (min j ls.length)=ls.take j:=by rw [List.take_eq_take_iff];simp
theorem z1h {α:Type} (ls:List α) (j:Nat):ls.drop (min j ls.length)=ls.drop j:=by
 by_cases h:j≤ls.length
 ·rw [Nat.min_eq_left h]
 ·rw [Nat.min_eq_right (by lia),List.drop_of_length_le (Nat.le_refl _),List.drop_of_length_le (by lia)]
theorem WW (I:Inv X μ hp s) {a:Nat} {items:Array Value} {xs:List AV} {ds:List PyData} (hx:zi hp a=some xs) (e:z33 hp (.ref a)=some ds)
  (r:VRs X μ s.heap xs items.toList):DRs s.heap 7 items.toList ds:=by
 have e:(zi hp a).bind (fun xs=>yI (toD hp 7) xs)=some ds:=e
 rw [hx] at e
 exact jH (qe I 7) e r
noncomputable def isI (i:Int):Value→Bool
 | .int a _=>a == i
 | _=>false
theorem z3o {vs:List Value} {is:List Int} (r:PyProof.Rows.IntsAre vs is):∀ {m:Nat} {v:Value},vs[m]? = some v→∃ i u,is[m]? = some i∧v=.int i u:=by
 induction r with
 | nil=>intro m v h;exact nos h
 | cons n t _ ih =>
  intro m v h
  cases m with
  | zero=>cases h;exact ⟨n,t,rfl,rfl⟩
  | succ m=>exact ih h
theorem VRs.erase {μ:Mu} {h:Heap} {xs:List AV}:∀ {vs:List Value} (_:VRs X μ h xs vs) (j:Nat),VRs X μ h (xs.eraseIdx j) (vs.eraseIdx j):=by
 induction xs with
 | nil=>intro vs r j;rw [r.nil_];exact .nil
 | cons x xs ih =>
  intro vs r j
  obtain ⟨v,ws,rfl,r1,r2⟩:=r.cons_
  cases j with
  | zero=>exact r2
  | succ j=>exact .cons r1 (ih r2 j)
theorem Q1 {m:Me} {o:AV} {args:List AV} {c:Value} {args':List Value} (R:Room n A l) (I:Inv X μ hp s) (ro:VR X μ s.heap o c) (ra:VRs X μ s.heap args args')
  (k:PO X l μ s (yN m o args hp) Q E):wpAny (model prog w) A (call (.builtin (z0p m)) (c::args')) Q E s:=by
 have hu:=R.units'
 obtain ⟨v,hp',e,k⟩:=k.ofP
 have k:PE X μ s v hp' Q:=k
 cases hs:xV o with
 | some sep =>
  rw [hs] at e
  cases m with
  | join =>
   obtain ⟨y,h2,e⟩:=zS e
   obtain ⟨xs,hx,e⟩:=zS e
   obtain ⟨ss,hss,e⟩:=zS e
   obtain ⟨z,e⟩:=zb e
   cases e
   rw [xg hs] at ro
   rw [yd h2] at ra
   obtain ⟨y',rfl,ry⟩:=ra.one
   obtain ⟨t,rfl,zs⟩:=ro.str_
   obtain ⟨a,items,rfl,hl,_,r⟩:=qf I hx ry
   obtain ⟨l,q1,q2⟩:=JU hss r
   have hl':s.heap.IsList a (strValues l).toArray:=by rw [← q1,Array.toArray_toList];exact hl
   refine SC.join hl' q2 ?_ fun t' j=>?_
   ·unfold JoinOk
    have e1:=StrLaws.joinTotal sep ss
    rw [wL] at z
    simp only [Builtin.Str.tooLong,sizeLine]
    rw [e1]
    simp;lia
   ·have e2:Txt.join sep ss=Str.join sep ss:=StrLaws.glued_eq_join sep ss
    rw [e2]
    exact k.tok I (.str _ (Nat.le_trans (StrLaws.join_length_le sep ss) z))
  | _=>exact nos e
 | none =>
 rw [hs] at e
 obtain ⟨a,h1,e⟩:=zS e
 obtain ⟨xs,hx,e⟩:=zS e
 rw [yc h1] at ro
 obtain ⟨d,items,mm,rfl,g1,hl,z0,r⟩:=I.list_at ro (xP hx)
 have l:=r.size
 have cmp:∀ {ds:List PyData} {x:PyData},PyData.depthAll ds≤7→A.units+1+min (PyData.depthAll ds) x.depth<cLine:=fun {ds x} h=>by
  have:min (PyData.depthAll ds) x.depth≤PyData.depthAll ds:=Nat.min_le_left _ _
  lia
 cases m with
 | append =>
  obtain ⟨y,h2,e⟩:=zS e
  obtain ⟨z,e⟩:=zb e
  cases e
  rw [yd h2] at ra
  obtain ⟨y',rfl,ry⟩:=ra.one
  refine call_meets F.slot_list_append ⟨_,hl,rfl⟩ F.entry_list_append (F.args_list_append_2 _ _) (AutoListH.list_append_list_val_0 _ _ _ y' (by rw [l];exact y9 (Nat.le_of_lt z))) ⟨hl,?_⟩
  obtain ⟨I',a'⟩:=qd (t:=s.toks) I g1 hl (f:=fun x=>x.push y') (xs:=xs++[y]) (by rw [zU];exact z) (by rw [Array.toList_push];exact r.app (.cons ry .nil))
  exact k _ μ _ a' I' .none
 | insert =>
  obtain ⟨p,h2,e⟩:=zS e
  obtain ⟨i,h3,e⟩:=zS e
  obtain ⟨⟨z,zz⟩,e⟩:=zb e
  cases e
  rw [wH h2] at ra
  obtain ⟨i',y',rfl,ri,ry⟩:=ra.two
  rw [zv h3] at ri
  obtain ⟨t,rfl⟩:=ri.int_
  obtain ⟨i0,i1⟩:=x6.mp zz
  refine call_meets F.slot_list_insert ⟨_,hl,rfl⟩ F.entry_list_insert (F.args_list_insert_3 _ _ _) (AutoListH.list_insert_list_int_val_1 _ _ _ i _ y' (by simp [Builtin.List.listFitsIndex];lia) (by rw [l];exact y9 (Nat.le_of_lt z))) ⟨hl,?_⟩
  obtain ⟨I',a'⟩:=qd (t:=s.toks) I g1 hl (f:=fun xs=>have k:=if i<0 then (i+((xs.size:Nat):Int)).toNat else min i.toNat xs.size;(xs.extract 0 k).push y'++xs.extract k) (xs:=xk xs i.toNat p.2)
   (by rw [xk,zU,List.length_cons,List.length_take,List.length_drop];have z:xs.length<1048576:=z;rw [wL];lia) (by
    dsimp only
    rw [if_neg (by lia),QN,← Array.length_toList,JR,z1h]
    exact (r.take _).app (.cons ry (r.drop _)))
  exact k _ μ _ a' I' .none
 | index =>
  obtain ⟨y,h2,e⟩:=zS e
  obtain ⟨j,hj,e⟩:=yC e
  cases e
  rw [yd h2] at ra
  obtain ⟨y',rfl,ry⟩:=ra.one
  obtain ⟨ds,hd,hj⟩:=zS hj
  obtain ⟨x,hy,hj⟩:=zS hj
  obtain ⟨⟨as,ras⟩,c1,d1⟩:=WW I hx hd r
  obtain ⟨⟨bs,rb⟩,c2,d2⟩:=qe I _ hy ry
  obtain ⟨hk,g2,g3⟩:=List.findIdx?_eq_some_iff_getElem.mp hj
  have hm:=SeqAt.readsAll_map ds _ _ c1 ras
  have len:ds.length=items.size:=by rw [← hm,List.length_map,Array.length_toList]
  have at_:∀ i (hi:i<items.size),ds[i]'(by rw [len];exact hi)=SeqAt.readOf s.heap items[i]:=fun i hi=>by
   have:ds[i]? = some (SeqAt.readOf s.heap items[i]):=by rw [← hm,List.getElem?_map,Array.getElem?_toList,Array.getElem?_eq_getElem hi];rfl
   exact (yL this).2
  have hjs:j<items.size:=by rw [← len];exact hk
  refine call_meets F.slot_list_index ⟨_,hl,rfl⟩ F.entry_list_index (F.args_list_index_2 _ _)
   (SeqAt.list_indexAt d items mm none #[] y' (fun y=>PyData.eqv (SeqAt.readOf s.heap y) x) j hjs (by have z0:xs.length≤1048576:=z0;lia) ?_ ?_)
   ⟨hl,SeqAt.items_eqAt (A:=A) ras rb c1 c2 (cmp d1),k.tok I (.int _ _)⟩
  ·rw [← at_ j hjs];exact g2
  ·intro i hi hlt;rw [← at_ i hi];simpa using g3 i hlt
 | count =>
  obtain ⟨y,h2,e⟩:=zS e
  obtain ⟨j,hj,e⟩:=yC e
  cases e
  rw [yd h2] at ra
  obtain ⟨y',rfl,ry⟩:=ra.one
  obtain ⟨ds,hd,hj⟩:=zS hj
  obtain ⟨x,hy,rfl⟩:=yC hj
  obtain ⟨⟨as,ras⟩,c1,d1⟩:=WW I hx hd r
  obtain ⟨⟨bs,rb⟩,c2,d2⟩:=qe I _ hy ry
  have hm:=SeqAt.readsAll_map ds _ _ c1 ras
  refine call_meets F.slot_list_count ⟨_,hl,rfl⟩ F.entry_list_count (F.args_list_count_2 _ _)
   (SeqAt.list_countAt d items mm none #[] y' (fun y=>PyData.eqv (SeqAt.readOf s.heap y) x))
   ⟨hl,SeqAt.items_eqAt (A:=A) ras rb c1 c2 (cmp d1),?_⟩
  have:items.toList.countP (fun y=>PyData.eqv (SeqAt.readOf s.heap y) x)=ds.countP fun y=>PyData.eqv y x:=by rw [← hm,List.countP_map];rfl
  rw [this]
  exact k.tok I (.int _ _)
 | extend =>
  obtain ⟨y,h2,e⟩:=zS e
  obtain ⟨b,hb,e⟩:=zS e
  obtain ⟨ys,hy,e⟩:=zS e
  obtain ⟨z,e⟩:=zb e
  cases e
  rw [yd h2] at ra
  obtain ⟨y',rfl,ry⟩:=ra.one
  rw [yc hb] at ry
  obtain ⟨d2,it2,m2,rfl,_,l2,_,r2⟩:=I.list_at ry (xP hy)
  have hz:items.size+it2.size≤sizeLine:=by rw [l,r2.size];exact y9 (Nat.le_of_lt z)
  refine call_meets F.slot_list_extend ⟨_,hl,rfl⟩ F.entry_list_extend (F.args_list_extend_2 _ _) (AutoSeq1.list_extend_list_list_0 d items mm d2 it2 m2 (PyProof.Rows.extend_door hz) (Nat.le_trans (Nat.le_add_right _ _) hz) (Nat.le_succ_of_le hz)) ⟨hl,l2,?_⟩
  obtain ⟨I',a'⟩:=qd (t:=s.toks) I g1 hl (f:=fun x=>x++it2) (xs:=xs++ys) (by rw [zU];exact Nat.le_of_lt z) (by rw [Array.toList_append];exact r.app r2)
  exact k _ μ _ a' I' .none
 | clear =>
  obtain ⟨z,e⟩:=zb e
  cases e
  obtain rfl:args'=[]:=by
   cases args with
   | nil=>exact ra.nil_
   | cons _ _=>exact nob z
  refine call_meets F.slot_list_clear ⟨_,hl,rfl⟩ F.entry_list_clear (F.args_list_clear_1 _) (AutoSeq1.list_clear_list_0 d items mm (by rw [l];exact y9 z0)) ⟨hl,?_⟩
  obtain ⟨I',a'⟩:=qd (t:=s.toks) I g1 hl (f:=fun _=>#[]) (xs:=[]) (Nat.zero_le _) .nil
  exact k _ μ _ a' I' .none
 | remove =>
  obtain ⟨y,h2,e⟩:=zS e
  obtain ⟨i,h3,e⟩:=zS e
  obtain ⟨is,h4,e⟩:=zS e
  obtain ⟨j,hj,e⟩:=yC e
  cases e
  rw [yd h2] at ra
  obtain ⟨y',rfl,ry⟩:=ra.one
  rw [zv h3] at ry
  obtain ⟨t,rfl⟩:=ry.int_
  have hI:=QM h4 r
  have len:is.length=items.size:=(QL hI).trans (Array.length_toList)
  obtain ⟨hk,g2,g3⟩:=List.findIdx?_eq_some_iff_getElem.mp hj
  have at_:∀ m (hm:m<items.size) (hm':m<is.length),isI i items[m]=(is[m] == i)∧MeetsSeq.EqGives items[m] (.int i t) (is[m] == i):=fun m hm hm'=>by
   obtain ⟨x,u,q1,q2⟩:=z3o hI (m:=m) (v:=items[m]) (by rw [Array.getElem?_toList,Array.getElem?_eq_getElem hm])
   rw [y6 hm'] at q1
   cases q1
   rw [q2]
   exact ⟨rfl,MeetsSeq.EqGives.int _ _ _ _⟩
  refine call_meets F.slot_list_remove ⟨_,hl,rfl⟩ F.entry_list_remove (F.args_list_remove_2 _ _)
   (MeetsSeq.list_remove d items mm (.int i t) (isI i) (fun y hy=>?_) j (by rw [← len];exact hk) ?_ (fun m hm hlt=>?_) (by rw [l];exact y9 z0)) ⟨hl,?_⟩
  ·obtain ⟨m,hm,rfl⟩:=Array.getElem_of_mem hy
   obtain ⟨q1,q2⟩:=at_ m hm (by rw [len];exact hm)
   rw [q1];exact q2
  ·rw [(at_ j (by rw [← len];exact hk) hk).1];exact g2
  ·rw [(at_ m hm (by rw [len];exact hm)).1];simpa using g3 m hlt
  ·obtain ⟨I',a'⟩:=qd (t:=s.toks) I g1 hl (f:=fun x=>x.eraseIdxIfInBounds j) (xs:=xs.eraseIdx j) (Nat.le_trans (List.length_eraseIdx_le _ _) z0) (by rw [Array.toList_eraseIdxIfInBounds];exact r.erase j)
   exact k _ μ _ a' I' .none
 | _=>exact nos e
theorem PRs.wo {μ:Mu} {h:Heap} {kvs:List (Int×AV)} {es:List (Int×Value)} {k:Int} (r:PRs X μ h kvs es):PRs X μ h (kvs.filter fun x=>!decide (x.1=k)) (without es k):=by
 unfold without
 induction r with
 | nil=>exact .nil
 | @cons k' v w r es a _ ih =>
  rw [List.filter_cons,List.filter_cons]
  by_cases q:k'=k
  ·rw [if_neg (by simp [q]),if_neg (by simp [q])];exact ih
  ·rw [if_pos (by simp [q]),if_pos (by simp [q])];exact .cons a ih
theorem JE {m:Me} {a:Nat} {args:List AV} {c:Value} {args':List Value} (I:Inv X μ hp s) (ro:VR X μ s.heap (.ref a) c) (ra:VRs X μ s.heap args args')
  (k:PO X l μ s (Mine.ofP (meD m a args hp)) Q E):wpAny (model prog w) A (call (.builtin (z0p m)) (c::args')) Q E s:=by
 obtain ⟨v,hp',e,k⟩:=k.ofP
 have k:PE X μ s v hp' Q:=k
 cases m with
 | pop =>
  obtain ⟨u,h1,e⟩:=zS e
  obtain ⟨i,h2,e⟩:=zS e
  obtain ⟨kvs,h3,e⟩:=zS e
  obtain ⟨v0,h4,e⟩:=yC e
  cases e
  rw [yd h1] at ra
  obtain ⟨u1,rfl,r1⟩:=ra.one
  rw [zv h2] at r1
  obtain ⟨t,rfl⟩:=r1.int_
  obtain ⟨d,es,rfl,g1,m,q,z,zl⟩:=I.dict_at ro (xR h3) prog w
  rcases q.get (k:=i) with ⟨q1,q2⟩ | ⟨v,w',q1,q2,rv⟩
  ·rw [q1] at h4;exact nos h4
  ·rw [q1] at h4;cases h4
   refine call_meetsIn F.slot_dict_pop m.typeIs F.entry_dict_pop (F.args_dict_pop_2 _ _) (meets_dict_pop_there (knd:=intKind prog w) (k:=i) (d:=d) (by show Value.isInt i (.int i t)=true;simp [Value.isInt]) [] (.inl rfl) rfl) ⟨_,w',m,by rw [← q.len];exact y9 zl,q2,fun h' hm hs=>?_⟩
   have hkp:∀ b' o,b'∉ads (d,none)→s.heap.get? b'=some o→h'.get? b'=some o:=fun b' o hb e=>(hs.2 b' (fun h=>hb (by rw [h];exact .head _))).trans e
   have hfx:∀ b' o,s.heap.get? b'=some o→yW o→h'.get? b'=some o:=fun b' o e fx=>hkp b' o (fun hb=>by
    obtain ⟨o',es',ep,ho,hc,_⟩:=m
    rw [wA hb,ho] at e
    cases e
    exact Mut.notFixed (.inr (.inr hc.1)) fx) e
   obtain ⟨I',a''⟩:=I.upd (h':=h') (t:=s.toks+1) (o':=.dict (kvs.filter fun x=>!decide (x.1=i))) g1 hkp (.dict hm (q.wo.mono (List.prefix_refl _) hfx) z (Nat.le_trans (List.length_filter_le _ _) zl))
   exact k _ μ _ a'' I' (rv.mono (List.prefix_refl _) hfx)
 | _=>exact nos e
theorem Qk {xs:List AV} {t:AV×AV×AV} (h:Yt xs=some t):xs=[t.1,t.2.1,t.2.2]:=by
 cases xs with
 | nil=>exact nos h
 | cons a xs=>cases xs with
  | nil=>exact nos h
  | cons b xs=>cases xs with
   | nil=>exact nos h
   | cons c xs=>cases xs with
    | nil=>cases h;rfl
    | cons=>exact nos h
theorem Ww {a:AV} {c:Value} {sl:Addr} (I:Inv X μ hp s) (ra:VR X μ s.heap a c) {t:Tok} (hs:s.heap.IsSliceOf sl .none .none (.int (-1) t)) (k:PO X l μ s (Mine.ofP (zF1 hp a)) Q E) :
  s.TypeIs c "list" ∧ wpAny (model prog w) A (getItem c (.ref sl)) Q E s:=by
 obtain ⟨v,hp',e,k⟩:=k.ofP
 have k:PE X μ s v hp' Q:=k
 obtain ⟨a0,h1,e⟩:=zS e
 obtain ⟨xs,h2,e⟩:=zS e
 obtain ⟨t,h3,e⟩:=yC e
 cases e
 rw [yc h1] at ra
 obtain ⟨d,items,m,rfl,_,li,_,r⟩:=I.list_at ra (xP h2)
 rw [Qk h3] at r
 obtain ⟨v1,ws,e1,r1,r⟩:=r.cons_
 obtain ⟨v2,v3,rfl,r2,r3⟩:=r.two
 have e1:items=#[v1,v2,v3]:=Array.toList_inj.mp e1
 subst e1
 exact ⟨⟨_,li,rfl⟩,wpAny_getItem_list_slice (lo:=none) (hi:=none) (st:=some (-1)) ⟨_,li,rfl,_,rfl⟩ hs .none .none (.int _ _) (by decide) (k.list (t:=s.toks) (j:=0) I (zc rfl) (by rw [show slicePick #[v1,v2,v3] none none (some (-1))=#[v3,v2,v1] from by kernel_rfl];exact .cons r3 (.cons r2 (.cons r1 .nil)))) (by show 3≤_;rw [sizeLine_eq];decide)⟩
end
end Mine
end
end
section
noncomputable section
namespace Mine
open PySem PySem.W PySem.Calls
structure EnvR (X:Cx) (l:List Env) (sc:Sc) (env:Env) (fr:AFr) (μ:Mu) (h:Heap):Prop where
 fn:env.scope.kind=.function
 glob:env.globals=mainGlobals
 bltn:env.builtins=builtinsNs
 kind:∀ x,sc.kind x=env.kindOf x
 loc:∃ m,h.Ns env.locals m∧∀ x i v,sc.kind x=some .local→sc.slot x=some i→fr[i]? = some (some v)→∃ v',m x=some v'∧VR X μ h v v'
 cel:∀ x i,(sc.kind x=some .cell∨sc.kind x=some .free)→sc.slot x=some i→∃ c cv,env.cells.lookup x=some c∧h.IsCell c cv∧∀ v,fr[i]? = some (some v)→∃ v',cv=some v'∧VR X μ h v v'
 nloc:env.locals∉ze μ
 bloc:X.base.get? env.locals=none
 ncel:∀ x c,env.cells.lookup x=some c→c∉ze μ∧∃ cv,h.IsCell c cv
 bcel:∀ x c,env.cells.lookup x=some c→X.base.get? c=none
 apart:∀ x y c,env.cells.lookup x=some c→env.cells.lookup y=some c→x=y
 inj:∀ x y i,sc.slot x=some i→sc.slot y=some i→x=y
 wid:fr.length=sc.width
 slt:∀ x i,sc.slot x=some i→i<sc.width
 frs:Frs X l μ h
section
variable {X:Cx} {sc:Sc} {env:Env} {fr:AFr} {μ μ':Mu} {hp hp':Hp} {s s':Shared} {l:List Env}
theorem EnvR.le (V:EnvR X l sc env fr μ s.heap) (I:Inv X μ hp s) (a:Le noS μ s μ' s'):EnvR X l sc env fr μ' s'.heap:=by
 obtain ⟨m,ns,hm⟩:=V.loc
 have kp:∀ b o,b∉ze μ→s.heap.get? b=some o→YA o (s'.heap.get? b):=fun b o n e=>a.keep b o n (fun h=>h) e
 have nin:∀ b o,b∉ze μ→s.heap.get? b=some o→b∉ze μ':=fun b o n e h=>by
  rcases a.fresh b h with h | h
  ·exact n h
  ·rw [e] at h;cases h
 have cellK:∀ {c:Addr} {cv:Option Value},c∉ze μ→s.heap.IsCell c cv→s'.heap.IsCell c cv:=fun n h=>by
  obtain ⟨o,ho,r⟩:=h;exact ⟨o,(kp _ o n ho).exact (by unfold isD;rw [r]),r⟩
 refine ⟨V.fn,V.glob,V.bltn,V.kind,⟨m,?_,fun x i v h1 h2 h3=>?_⟩,fun x i h1 h2=>?_,?_,V.bloc,fun x c hc=>?_,V.bcel,V.apart,V.inj,V.wid,V.slt,V.frs.le a⟩
 ·obtain ⟨o,es,ep,ho,hd,r⟩:=ns
  obtain ⟨o',e',q⟩:=(kp _ o V.nloc ho).get
  exact ⟨o',es,ep,e',q.trans hd,r⟩
 ·obtain ⟨v',e,r⟩:=hm x i v h1 h2 h3
  exact ⟨v',e,r.le I a⟩
 ·obtain ⟨c,cv,e1,e2,e3⟩:=V.cel x i h1 h2
  refine ⟨c,cv,e1,cellK (V.ncel x c e1).1 e2,fun v hv=>?_⟩
  obtain ⟨v',q,r⟩:=e3 v hv
  exact ⟨v',q,r.le I a⟩
 ·obtain ⟨o,es,ep,ho,r⟩:=ns
  exact nin _ o V.nloc ho
 ·obtain ⟨n,cv,h⟩:=V.ncel x c hc
  obtain ⟨o,ho,r⟩:=id h
  exact ⟨nin c o n ho,cv,cellK n h⟩
end
structure Gd (X:Cx) (G:GTab):Prop where
 K:X.K.In X.base
 top:∃ mg mb,X.base.Ns mainGlobals mg∧X.base.Ns builtinsNs mb∧∀ x:Str,x ≠ "__name__" → mb x=bootBuiltins x
 lim:X.base.NoLimit
 glob:∀ x v,G.glob x=some v→∃ c,(nsIn X.K mainGlobals x=some (some c)∨(nsIn X.K mainGlobals x=some none∧bootBuiltins x=some c∧x ≠ "__name__"))∧∀ μ h,VR X μ h v c
 exc:∀ x,G.exc x=true→∃ C mg,nsIn X.K mainGlobals x=some (some (.ref C))∧PyProof.Rows.OwnCls x C [.type "ValueError",.type "Exception",.type "BaseException",.type "object"] "ValueError.__new__" mg X.base
 exq:∀ x y,G.exq x y=true→∃ C D,nsIn X.K mainGlobals x=some (some (.ref C))∧nsIn X.K mainGlobals y=some (some (.ref D))∧exmOne X.K (.ref C) (.ref D)=some false
 okf:∀ c name,G.okf c name=true→∃ C,nsIn X.K mainGlobals c=some (some (.ref C))∧xe X.K C=true∧wv X.K C name=true
section
variable {prog:Program} {w:World} {X:Cx} {G:GTab} {sc:Sc} {env:Env} {fr:AFr} {μ μ':Mu} {hp hp':Hp} {s s':Shared} {A:Around} {E:Value→Shared→Prop} {n:Nat} {l:List Env} {Q:Value→Shared→Prop}
theorem Inv.kin (I:Inv X μ hp s) (g:X.K.In X.base):X.K.In s.heap:=g.keeps I.keep
theorem YJ {x:Str} {pos:Pos} {i:Nat} {v:AV} (hk:sc.kind x=some .local∨sc.kind x=some .cell∨sc.kind x=some .free) (hs:sc.slot x=some i) (hv:fr[i]? = some (some v)) (I:Inv X μ hp s) (V:EnvR X l sc env fr μ s.heap)
  (hd:(x == ("__debug__" : Str))=false) (hc:(x == ("__classdict__" : Str))=false) (k:PE X μ s v hp Q):wpAny (model prog w) A (eval (.Name x pos) env) Q E s:=by
 refine wpAny_Name ?_ hd
 have kd:=V.kind x
 rcases hk with h | h | h
 ·obtain ⟨m,ns,hm⟩:=V.loc
  obtain ⟨v',e,r⟩:=hm x i v h hs hv
  exact wpAny_loadName_local V.fn (kd▸h) ns e (k.here I r)
 ·obtain ⟨c,cv,e1,e2,e3⟩:=V.cel x i (.inl h) hs
  obtain ⟨v',rfl,r⟩:=e3 v hv
  exact wpAny_loadName_cell V.fn (kd▸h) e1 e2 (k.here I r)
 ·obtain ⟨c,cv,e1,e2,e3⟩:=V.cel x i (.inr h) hs
  obtain ⟨v',rfl,r⟩:=e3 v hv
  exact wpAny_loadName_free V.fn (kd▸h) e1 e2 (k.here I r) hc
theorem Zu {x:Str} {pos:Pos} {v:AV} (g:Gd X G) (hk:sc.kind x=some .globalImplicit) (hv:G.glob x=some v) (I:Inv X μ hp s) (V:EnvR X l sc env fr μ s.heap) (hd:(x == ("__debug__" : Str))=false)
  (k:PE X μ s v hp Q):wpAny (model prog w) A (eval (.Name x pos) env) Q E s:=by
 obtain ⟨c,hc,r⟩:=g.glob x v hv
 obtain ⟨mg,mb,ng,nb,hb⟩:=g.top
 have kd:env.kindOf x=some .globalImplicit:=(V.kind x)▸hk
 rcases hc with e | ⟨e,e2,e3⟩
 ·exact Name_function_global V.fn kd (loadGlobal_global (by rw [V.glob];exact ng.keeps I.keep) (mg_of g.K ng e) (k.here I (r _ _))) hd
 ·exact Name_function_global V.fn kd (loadGlobal_builtin (by rw [V.glob];exact ng.keeps I.keep) (mg_none_of g.K ng e) (by rw [V.bltn];exact nb.keeps I.keep) ((hb x e3).trans e2) (k.here I (r _ _))) hd
theorem VR.handed {μ:Mu} {h:Heap} {v:AV} {c:Value} (r:VR X μ h v c):handedIn c=true:=by
 cases r <;> first | rfl | (rename_i b;cases b <;> first | rfl | decide)
theorem QJ {m name:Str} {tt:Tok} (q:(name == m)=false):(Value.str m tt).isStr name=false:=by show (m == name)=false;rw [beq_eq_false_iff_ne] at q ⊢;exact q.symm
theorem z14 {m name:Str} {tt:Tok} (q:(name == m)=true):(Value.str m tt).isStr name=true:=by show (m == name)=true;rw [beq_iff_eq] at q ⊢;exact q.symm
theorem FsR.miss {μ:Mu} {h:Heap} {name:Str} {fs:List (Str×AV)} {es:List DictEntry} (r:FsR X μ h fs es):fs.lookup name=none→es.find? (·.key.isStr name)=none∧es.any (·.refKey)=false:=by
 induction r with
 | nil=>intro _;exact ⟨rfl,rfl⟩
 | @cons m v hs tt w fs es a r ih =>
  intro e
  rw [List.lookup_cons] at e
  cases q:name == m with
  | true=>rw [q] at e;cases e
  | false =>
   rw [q] at e
   obtain ⟨h1,h2⟩:=ih e
   exact ⟨by rw [List.find?_cons_of_neg (by rw [QJ q];exact Bool.false_ne_true)];exact h1,by rw [List.any_cons,h2];rfl⟩
theorem FsR.find {μ:Mu} {h:Heap} {name:Str} {v:AV} {fs:List (Str×AV)} {es:List DictEntry} (r:FsR X μ h fs es):fs.lookup name=some v→∃ e,es.find? (·.key.isStr name)=some e∧VR X μ h v e.val:=by
 induction r with
 | nil=>intro e;exact nos e
 | @cons m v hs tt w fs es a r ih =>
  intro e
  rw [List.lookup_cons] at e
  cases q:name == m with
  | true =>
   rw [q] at e;cases e
   exact ⟨_,List.find?_cons_of_pos (z14 q),a⟩
  | false =>
   rw [q] at e
   obtain ⟨c,h1,h2⟩:=ih e
   exact ⟨c,by rw [List.find?_cons_of_neg (by rw [QJ q];exact Bool.false_ne_true)];exact h1,h2⟩
theorem FsR.get {μ:Mu} {h:Heap} {name:Str} {v:AV} {fs:List (Str×AV)} {es:List DictEntry} (r:FsR X μ h fs es) (e:fs.lookup name=some v):∃ c,getL name es=some (some c)∧VR X μ h v c:=by
 obtain ⟨c,h1,h2⟩:=r.find e
 exact ⟨c.val,by unfold getL;rw [h1],h2⟩
theorem jK {K:Frag} {C:Addr} (h:xe K C=true):(findIn K (.ref C) "__getattribute__" = some (some (.builtin "object.__getattribute__"))∧findIn K (.ref C) "__getattr__" = some none)∧hasDictIn K C=true ∧
  findIn K (.ref C) "__setattr__" = some (some (.builtin "object.__setattr__"))∧plainOver K C=true:=by
 unfold xe at h
 simp only [Bool.and_eq_true,beq_iff_eq] at h
 exact ⟨plainGet_of h.1.1.1,h.1.1.2,h.1.2,h.2⟩
theorem wr {h:Heap} {x dx C:Addr} {es:List DictEntry} {n:Nat} {sl:Array (Option Value)} (h1:h.get? x=some ⟨.ref C,some dx,.plain,sl⟩) (h2:h.get? dx=some (dictOf es n)) :
  InstAt h x ⟨.ref C,some dx,.plain,sl⟩ C (some (dictOf es n)):=⟨h1,rfl,rfl,h2⟩
theorem QD {name:Str} {v:AV} {l:List (Str×AV)}:l.lookup name=some v→∃ p∈l,p.1=name:=by
 induction l with
 | nil=>intro h;exact nos h
 | cons p l ih =>
  intro h
  rw [List.lookup_cons] at h
  cases q:name == p.1 with
  | true=>exact ⟨p,.head _,(beq_iff_eq.mp q).symm⟩
  | false=>rw [q] at h;obtain ⟨p',a,b⟩:=ih h;exact ⟨p',.tail _ a,b⟩
theorem WN {a:Nat} {name cls:Str} {fs:List (Str×AV)} {v:AV} {c:Value} {ex:Bool} (g:Gd X G) (I:Inv X μ hp s) (r:VR X μ s.heap (.ref a) c) (ho:hp[a]? = some (.inst cls fs)) (hv:fs.lookup name=some v)
  (k:PE X μ s v hp Q):wpAny (model prog w) A (getAttr c name ex) Q E s:=by
 obtain ⟨p,h1,rfl⟩:=r.ref_
 obtain ⟨x,dx,C,es,m,sl,rfl,e1,e2,e3,e4,e5,e6,e7⟩:=(I.rep _ _ _ h1 ho).inst_
 obtain ⟨c',g1,g2⟩:=e4.get hv
 obtain ⟨⟨hg,hk⟩,hh,_,_⟩:=jK e5
 obtain ⟨p,hp,hq⟩:=QD hv
 have hf:wv X.K C name=true:=by rw [← hq];exact e6 p hp
 exact get_value (I.kin g.K) (wr e2 e3) hg (findObj_own hh (beq_iff_eq.mp hf) rfl (by rw [lookIn_dict];exact g1)) g2.handed (k.tok I g2)
theorem Zk {a:Nat} {name cls:Str} {fs:List (Str×AV)} {C f:Addr} {c:Value} {pl:Sem Bool} {Q:Value×List Value→Shared→Prop} (g:Gd X G) (I:Inv X μ hp s) (r:VR X μ s.heap (.ref a) c) (ho:hp[a]? = some (.inst cls fs)) (hv:fs.lookup name=none)
  (hC:nsIn X.K mainGlobals cls=some (some (.ref C))) (hf:findIn X.K (.ref C) name=some (some (.ref f))) (ht:typeIn X.K (.ref f)=some (.type "function")) (k:Q (.ref f,[c]) s):wpAny (model prog w) A (getMethod c name pl) Q E s:=by
 obtain ⟨p,h1,rfl⟩:=r.ref_
 obtain ⟨x,dx,C',es,m,sl,rfl,e1,e2,e3,e4,e5,e6,e7⟩:=(I.rep _ _ _ h1 ho).inst_
 rw [hC] at e1;cases e1
 obtain ⟨⟨hg,hk⟩,hh,_,_⟩:=jK e5
 obtain ⟨m1,m2⟩:=e4.miss hv
 refine method_fn (I.kin g.K) (wr e2 e3) hg hk hf ht ?_ k
 show (lookIn name (dictOf es m)).map _=_
 rw [lookIn_dict]
 unfold getL
 rw [m1,m2];rfl
end
end Mine
end
end
section
noncomputable section
namespace Mine
open PySem PySem.W PySem.Calls PyProof.Rows
noncomputable def Qx (h:Heap) (L dx:Addr):List (Addr×Obj):=(List.range h.objs.size).filterMap fun b=>if b=L∨b=dx then none else (h.get? b).map (b,·)
theorem jF {h:Heap} {L dx b:Addr} {o:Obj}:(b,o)∈Qx h L dx↔b≠L∧b≠dx∧h.get? b=some o:=by
 unfold Qx
 rw [List.mem_filterMap]
 constructor
 ·rintro ⟨c,_,e⟩
  split at e
  ·exact nos e
  ·rename_i h
   simp only [Option.map_eq_some_iff,Prod.mk.injEq] at e
   obtain ⟨o',e,rfl,rfl⟩:=e
   exact ⟨fun q=>h (.inl q),fun q=>h (.inr q),e⟩
 ·rintro ⟨h1,h2,h3⟩
  refine ⟨b,List.mem_range.mpr (Heap.lt_size h3),?_⟩
  rw [if_neg (by simp [h1,h2]),h3];rfl
theorem FsR.put {X:Cx} {μ:Mu} {h:Heap} {name:Str} {v:AV} {v':Value} {hs:Int} {t:Tok} (r:VR X μ h v v') {fs:List (Str×AV)} {es:List DictEntry} (q:FsR X μ h fs es):FsR X μ h (wc name v fs) (putL name hs (.str name t) v' es):=by
 induction q with
 | nil=>exact .cons r .nil
 | @cons m v hs tt w fs es a q ih =>
  have e:(Value.str m tt).isStr name=(m == name):=rfl
  simp only [wc,putL,e]
  by_cases hq:(m == name)=true
  ·rw [if_pos hq,if_pos hq];exact .cons r q
  ·rw [if_neg hq,if_neg hq];exact .cons a ih
theorem FsR.look {X:Cx} {μ:Mu} {h:Heap} {name:Str} {fs:List (Str×AV)} {es:List DictEntry} (r:FsR X μ h fs es):(getL name es).isSome=true:=by
 cases q:fs.lookup name with
 | some v=>obtain ⟨c,e,_⟩:=r.get q;rw [e];rfl
 | none=>obtain ⟨e1,e2⟩:=r.miss q;unfold getL;rw [e1,e2];rfl
theorem FsR.length {X:Cx} {μ:Mu} {h:Heap} {fs:List (Str×AV)} {es:List DictEntry} (r:FsR X μ h fs es):es.length=fs.length:=by
 induction r with
 | nil=>rfl
 | cons _ _ ih=>exact congrArg (·+1) ih
theorem z1e {name:Str} {v:AV} {fs:List (Str×AV)} {p:Str×AV}:p∈wc name v fs→p.1=name∨∃ q∈fs,q.1=p.1:=by
 induction fs with
 | nil=>intro h;rw [xE h];exact .inl rfl
 | cons q fs ih =>
  intro h
  have h:p∈(if (q.1 == name)=true then (q.1,v)::fs else q::wc name v fs):=h
  by_cases hq:(q.1 == name)=true
  ·rw [if_pos hq] at h
   rcases List.mem_cons.mp h with rfl | h
   ·exact .inl (beq_iff_eq.mp hq)
   ·exact .inr ⟨p,.tail _ h,rfl⟩
  ·rw [if_neg hq] at h
   rcases List.mem_cons.mp h with rfl | h
   ·exact .inr ⟨p,.head _,rfl⟩
   ·rcases ih h with h | ⟨q',a,b⟩
    ·exact .inl h
    ·exact .inr ⟨q',.tail _ a,b⟩
theorem Z6 {name:Str} {v:AV} {fs:List (Str×AV)}:(wc name v fs).length≤fs.length+1:=by
 induction fs with
 | nil=>exact Nat.le_refl _
 | cons q fs ih =>
  show (if (q.1 == name)=true then (q.1,v)::fs else q::wc name v fs).length≤_
  by_cases hq:(q.1 == name)=true
  ·rw [if_pos hq];exact Nat.le_succ _
  ·rw [if_neg hq];exact Nat.succ_le_succ ih
noncomputable def own (env:Env):Addr→Prop:=fun b=>b=env.locals∨∃ x,env.cells.lookup x=some b
section
variable {prog:Program} {w:World} {X:Cx} {G:GTab} {sc:Sc} {env:Env} {fr:AFr} {μ μ':Mu} {hp hp':Hp} {s s':Shared} {A:Around} {E:Value→Shared→Prop} {n:Nat} {l:List Env}
theorem yV (V:EnvR X l sc env fr μ s.heap):∀ b o,own env b→s.heap.get? b=some o→¬ yW o:=by
 rintro b o (rfl | ⟨x,hx⟩) e f
 ·obtain ⟨m,⟨o',es,ep,ho,hd,_⟩,_⟩:=V.loc
  rw [e] at ho;cases ho
  rcases f with ⟨_,xs,n,q⟩ | ⟨_,vs,q⟩ <;> rw [hd] at q <;> cases q
 ·obtain ⟨_,cv,o',ho,hd⟩:=V.ncel x b hx
  rw [e] at ho;cases ho
  rcases f with ⟨_,xs,n,q⟩ | ⟨_,vs,q⟩ <;> rw [hd] at q <;> cases q
theorem VR.leOwn {x:AV} {v:Value} (r:VR X μ s.heap x v) (I:Inv X μ hp s) (V:EnvR X l sc env fr μ s.heap) (a:Le (own env) μ s μ' s'):VR X μ' s'.heap x v:=r.mono a.pre (a.fixed I (yV V))
theorem EnvR.leLoc {m:Str→Option Value} (V:EnvR X l sc env fr μ s.heap) (I:Inv X μ hp s) (a:Le (fun b=>b=env.locals) μ s μ' s') (h0:s.heap.Ns env.locals m) (h1:s'.heap.Ns env.locals m):EnvR X l sc env fr μ' s'.heap:=by
 obtain ⟨m',ns,hm⟩:=V.loc
 have em:m'=m:=by
  obtain ⟨o,es,ep,ho,hd,_,hf⟩:=ns
  obtain ⟨o',es',ep',ho',hd',_,hf'⟩:=h0
  rw [ho] at ho';cases ho'
  rw [hd] at hd';cases hd'
  funext x;rw [← hf x,← hf' x]
 subst em
 have rl:∀ {x:AV} {v:Value},VR X μ s.heap x v→VR X μ' s'.heap x v:=fun r=>r.leOwn I V (a.weak fun b h=>.inl h)
 have lc:∀ x c,env.cells.lookup x=some c→c≠env.locals:=fun x c h e=>by
  obtain ⟨_,cv,o,ho,hd⟩:=V.ncel x c h
  obtain ⟨o',es,ep,ho',hd',_⟩:=ns
  rw [e,ho'] at ho;cases ho;rw [hd] at hd';cases hd'
 have nin:∀ b o,b∉ze μ→s.heap.get? b=some o→b∉ze μ':=fun b o n e h=>by
  rcases a.fresh b h with h | h
  ·exact n h
  ·rw [e] at h;cases h
 have cellK:∀ {x:Str} {c:Addr} {cv:Option Value},env.cells.lookup x=some c→s.heap.IsCell c cv→s'.heap.IsCell c cv:=fun hx h=>by
  obtain ⟨o,ho,r⟩:=h;exact ⟨o,(a.keep _ o (V.ncel _ _ hx).1 (lc _ _ hx) ho).exact (by unfold isD;rw [r]),r⟩
 refine ⟨V.fn,V.glob,V.bltn,V.kind,⟨m',h1,fun x i v e1 e2 e3=>?_⟩,fun x i e1 e2=>?_,?_,V.bloc,fun x c hc=>?_,V.bcel,V.apart,V.inj,V.wid,V.slt,V.frs.mono fun b o n e d=>⟨a.out n e,?_⟩⟩
 rotate_right
 ·by_cases q:b=env.locals
  ·obtain ⟨o',es,ep,ho,hd,_⟩:=h1
   exact ⟨o',q▸ho,Zr hd⟩
  ·obtain ⟨o',e',q'⟩:=(a.keep b o n q e).get
   exact ⟨o',e',(z16 q').trans d⟩
 ·obtain ⟨v',e,r⟩:=hm x i v e1 e2 e3
  exact ⟨v',e,rl r⟩
 ·obtain ⟨c,cv,q1,q2,q3⟩:=V.cel x i e1 e2
  refine ⟨c,cv,q1,cellK q1 q2,fun v hv=>?_⟩
  obtain ⟨v',q,r⟩:=q3 v hv
  exact ⟨v',q,rl r⟩
 ·obtain ⟨o,es,ep,ho,r⟩:=ns
  exact nin _ o V.nloc ho
 ·obtain ⟨n,cv,h⟩:=V.ncel x c hc
  obtain ⟨o,ho,r⟩:=id h
  exact ⟨nin c o n ho,cv,cellK hc h⟩
theorem YC {a:Nat} {name cls:Str} {fs:List (Str×AV)} {v:AV} {c v':Value} {Q:Unit→Shared→Prop} (g:Gd X G) (I:Inv X μ hp s) (V:EnvR X l sc env fr μ s.heap) (r:VR X μ s.heap (.ref a) c)
  (ho:hp[a]? = some (.inst cls fs)) (rv:VR X μ s.heap v v') (hok:G.okf cls name=true) (hlen:fs.length<100)
  (k:∀ s',Le (own env) μ s μ s'→Inv X μ (hp.set a (.inst cls (wc name v fs))) s'→EnvR X l sc env fr μ s'.heap→Q () s'):wpAny (model prog w) A (setAttr c name v') Q E s:=by
 obtain ⟨p,h1,rfl⟩:=r.ref_
 obtain ⟨x,dx,C,es,m,sl,rfl,e1,e2,e3,e4,e5,e6,e7⟩:=(I.rep _ _ _ h1 ho).inst_
 obtain ⟨C',c1,c2,c3⟩:=g.okf cls name hok
 rw [e1] at c1;cases c1
 obtain ⟨⟨hg,hk⟩,hh,hset,hp0⟩:=jK e5
 obtain ⟨mL,nsL,_⟩:=id V.loc
 have hfld:findIn X.K (.ref C) name=some none:=beq_iff_eq.mp c3
 have dxA:dx∈ze μ:=yU.mpr ⟨a,_,h1,.tail _ (.head _)⟩
 have dxL:dx≠env.locals:=fun e=>V.nloc (e▸dxA)
 have F0:Fr ({}:Heap) env.locals s.heap mL:=⟨nsL,fun b o e=>by simp [Heap.get?] at e,Nat.zero_le _⟩
 have N0:News ({}:Heap) env.locals s.heap ([]++(dx,dictOf es m)::Qx s.heap env.locals dx):=fun p hp=>by
  rcases List.mem_cons.mp hp with rfl | hp
  ·exact ⟨e3,dxL,rfl⟩
  ·obtain ⟨b,o⟩:=p
   obtain ⟨q1,q2,q3⟩:=jF.mp hp
   exact ⟨q3,q1,rfl⟩
 refine set_plain (I.kin g.K) (wr e2 e3) hset ?_
 refine osa_dict (s:={ s with toks:=s.toks+1 }) (es:=putL name (PyData.keyHash w.params name) (.str name (s.toks+1)) v' es) (n:=putN name es m) F0 N0 (I.kin g.K) (wr e2 e3) rfl hp0 (by unfold takerIn;rw [hfld];rfl) hh
  (by rw [lookIn_dict];exact e4.look) (fun p hp=>nomatch hp) (fun p hp=>by obtain ⟨b,o⟩:=p;exact (jF.mp hp).2.1) (by rw [putName_dict]) rfl ?_ fun h' F' N'=>?_
 ·have l:=(e4.put (name:=name) (hs:=PyData.keyHash w.params name) (t:=s.toks+1) rv).length
  have l2:=Z6 (name:=name) (v:=v) (fs:=fs)
  lia
 ·have kp:∀ b o,b≠dx→b≠env.locals→s.heap.get? b=some o→h'.get? b=some o:=fun b o n1 n2 e=>(N' (b,o) (List.mem_cons_of_mem _ (jF.mpr ⟨n2,n1,e⟩))).1
  have hd':=(N' (dx,_) (.head _)).1
  have xA:x∈ze μ:=yU.mpr ⟨a,_,h1,.head _⟩
  have xL:x≠env.locals:=fun e=>V.nloc (e▸xA)
  have xdx:x≠dx:=fun e=>by rw [e,e3] at e2;cases e2
  have oldL:=nsL
  obtain ⟨oL,esL,epL,hoL,hdL,_⟩:=oldL
  have nsL':=F'.ns
  have fx:∀ b o,s.heap.get? b=some o→yW o→h'.get? b=some o:=fun b o e f=>kp b o (fun q=>by
    rw [q,e3] at e;cases e;exact Mut.notFixed (.inr (.inr rfl)) f) (fun q=>yV V b o (.inl q) e f) e
  have R:OR X μ h' (.inst cls (wc name v fs)) (x,some dx):=.inst (n:=putN name es m) e1 (kp x _ xdx xL e2) hd' ((e4.put rv).mono (List.prefix_refl _) fx) e5 (fun p hp=>by
    rcases z1e hp with h | ⟨q,h1,h2⟩
    ·rw [h];exact c3
    ·rw [← h2];exact e6 q h1) (by have:=Z6 (name:=name) (v:=v) (fs:=fs);lia)
  obtain ⟨I',L'⟩:=I.updS (s':={ s with heap:=h',toks:=s.toks+1+1 }) (S:=fun b=>b=env.locals) (fun b h=>h▸⟨V.nloc,V.bloc⟩)
   (fun b o h e=>⟨fun f=>yV V b o (.inl h) e f,by obtain ⟨o',es',ep',ho',_⟩:=nsL';exact ⟨o',h▸ho'⟩⟩) h1
   (fun b o n1 n2 e=>kp b o (fun q=>n1 (q▸.tail _ (.head _))) n2 e) R rfl rfl
  exact k _ (L'.weak fun b h=>.inl h) I' (V.leLoc I L' nsL nsL')
theorem PRs.any {μ:Mu} {h:Heap} {k:Int} {kvs:List (Int×AV)} {es:List (Int×Value)} (r:PRs X μ h kvs es):kvs.any (fun kv=>kv.1=k)=es.any (fun kv=>kv.1=k):=by
 induction r with
 | nil=>rfl
 | cons _ _ ih=>rw [List.any_cons,List.any_cons,ih]
theorem PRs.put {μ:Mu} {h:Heap} {k:Int} {v:AV} {w:Value} (rv:VR X μ h v w) {kvs:List (Int×AV)} {es:List (Int×Value)} (r:PRs X μ h kvs es):PRs X μ h (jr kvs k v) (stored es k w):=by
 unfold jr stored
 rw [r.any (k:=k)]
 split <;> rename_i hh <;> clear hh
 ·induction r with
  | nil=>exact .nil
  | @cons k' v' w' _ _ a _ ih =>
   rw [List.map_cons,List.map_cons]
   by_cases q:k'=k
   ·rw [if_pos q,if_pos q];exact .cons rv ih
   ·rw [if_neg q,if_neg q];exact .cons a ih
 ·induction r with
  | nil=>exact .cons rv .nil
  | cons a _ ih=>exact .cons a ih
theorem z1k (kvs:List (Int×AV)) (k:Int) (v:AV):(jr kvs k v).length≤kvs.length+1:=by
 unfold jr
 split
 ·rw [List.length_map];exact Nat.le_succ _
 ·rw [zU];exact Nat.le_refl _
theorem X2 {o i v:AV} {c d v':Value} {hp'':Hp} {Q:Unit→Shared→Prop} (e:qF hp o i v=some hp'') (I:Inv X μ hp s) (ro:VR X μ s.heap o c) (ri:VR X μ s.heap i d) (rv:VR X μ s.heap v v')
  (k:∀ s',Le noS μ s μ s'→Inv X μ hp'' s'→Q () s'):wpAny (model prog w) A (setItem c d v') Q E s:=by
 obtain ⟨a,h1,e⟩:=zS e
 obtain ⟨j,h2,e⟩:=zS e
 rw [yc h1] at ro
 rw [zv h2] at ri
 obtain ⟨t,rfl⟩:=ri.int_
 cases hq:zw hp a with
 | some kvs =>
  rw [hq] at e
  have e:(if kvs.length<small then some (hp.set a (.dict (jr kvs j v))) else none)=some hp'':=e
  obtain ⟨z,rfl⟩:=zb e
  obtain ⟨b,es,rfl,g1,m,p,sm,_⟩:=I.dict_at ro (xR hq) prog w
  refine wpAny_setItem_pairs (k:=j) (by show Value.isInt j (.int j t)=true;simp [Value.isInt]) m (fun h' hm hs=>?_) (by rw [← p.len];exact y9 (Nat.le_of_lt z))
  have hk:∀ b' o,b'∉ads (b,none)→s.heap.get? b'=some o→h'.get? b'=some o:=fun b' o hb e=>(hs.2 b' (fun h=>hb (by rw [h];exact .head _))).trans e
  obtain ⟨I',a'⟩:=I.upd (h':=h') (t:=s.toks+1) (o':=.dict (jr kvs j v)) g1 hk (.dict hm ((p.put rv).mono (List.prefix_refl _) fun b' o e fx=>hk b' o (fun hb=>by
   obtain ⟨o',es',ep,ho,hc,_⟩:=m
   rw [wA hb,ho] at e
   cases e
   exact Mut.notFixed (.inr (.inr hc.1)) fx) e) sm (Nat.le_trans (z1k _ _ _) z))
  exact k _ a' I'
 | none =>
 rw [hq] at e
 obtain ⟨xs,h3,e⟩:=zS e
 obtain ⟨h,rfl⟩:=zb e
 obtain ⟨b,items,m,rfl,g1,hl,z,r⟩:=I.list_at ro (xP h3)
 have l:=r.size
 have hz:xs.length≤1048576:=h.2.2
 refine ki_setAt hl h.1 (by lia) (by lia) ?_
 obtain ⟨I',a'⟩:=qd (t:=s.toks) I g1 hl (f:=fun x=>x.setIfInBounds j.toNat v') (xs:=xs.set j.toNat v) (by rw [List.length_set];exact z) (by rw [Array.toList_setIfInBounds];exact r.set rv _)
 exact k _ a' I'
theorem Frs.but {h h':Heap} {c:Addr} (f:Frs X l μ h) (hsb:∀ b,b≠c→h'.get? b=h.get? b) (hc:∀ o,h.get? c=some o→isD o=true→∃ o',h'.get? c=some o'∧isD o'=true):Frs X l μ h':=f.mono fun b o n e d=>by
 refine ⟨n,?_⟩
 by_cases q:b=c
 ·rw [q] at e ⊢;exact hc o e d
 ·exact ⟨o,(hsb b q).trans e,d⟩
noncomputable def Zf (cb:Bool) (env:Env):Addr→Prop:=fun b=>b=env.locals∨(cb=true∧∃ x,env.cells.lookup x=some b)
theorem xi {cb:Bool} {env:Env} {b:Addr} (h:Zf cb env b):own env b:=h.imp id (·.2)
theorem jN {cb:Bool} {x:Str} {i:Nat} {v:AV} {v':Value} {Q:Unit→Shared→Prop} (I:Inv X μ hp s) (V:EnvR X l sc env fr μ s.heap) (hk:sc.kind x=some .local∨sc.kind x=some .cell) (hcb:sc.kind x=some .cell→cb=true) (hs:sc.slot x=some i) (hi:i<fr.length)
  (rv:VR X μ s.heap v v') (k:∀ s',Le (Zf cb env) μ s μ s'→Inv X μ hp s'→EnvR X l sc env (fr.set i (some v)) μ s'.heap→Q () s'):wpAny (model prog w) A (bindName env x v') Q E s:=by
 refine wpAny_bindName ?_
 have kd:=V.kind x
 have other:∀ y j,y≠x→sc.slot y=some j→(fr.set i (some v))[j]? = fr[j]? := fun y j hne hj=>by
  rw [List.getElem?_set_ne];intro h;subst h;exact hne (V.inj y x _ hj hs)
 rcases hk with hk | hk
 ·obtain ⟨m,ns,hm⟩:=V.loc
  refine wpAny_storeName_local (kd▸hk) ns (fun h' hn hsb=>?_) (by rw [V.fn];rfl)
  have nsL':=hn
  obtain ⟨I',L'⟩:=I.own (s':={ s with heap:=h',toks:=s.toks+1 }) (S:=fun b=>b=env.locals) (fun b h=>h▸⟨V.nloc,V.bloc⟩)
    (fun b o h e=>⟨fun f=>yV V b o (.inl h) e f,by obtain ⟨o',es',ep',ho',_⟩:=nsL';exact ⟨o',h▸ho'⟩⟩)
    (fun b o n e=>(hsb.2 b n).trans e) rfl rfl
  have rl:∀ {x:AV} {v:Value},VR X μ s.heap x v→VR X μ h' x v:=fun r=>r.leOwn I V (s':={ s with heap:=h',toks:=s.toks+1 }) (L'.weak fun b h=>.inl h)
  have lc:∀ x c,env.cells.lookup x=some c→c≠env.locals:=fun x c h e=>by
   obtain ⟨_,cv,o,ho,hd⟩:=V.ncel x c h
   obtain ⟨o',es,ep,ho',hd',_⟩:=ns
   rw [e,ho'] at ho;cases ho;rw [hd] at hd';cases hd'
  have cellK:∀ {x:Str} {c:Addr} {cv:Option Value},env.cells.lookup x=some c→s.heap.IsCell c cv→h'.IsCell c cv:=fun hx h=>by
   obtain ⟨o,ho,r⟩:=h;exact ⟨o,(hsb.2 _ (lc _ _ hx)).trans ho,r⟩
  refine k _ (L'.weak fun b h=>.inl h) I' ⟨V.fn,V.glob,V.bltn,V.kind,⟨_,hn,fun y j u e1 e2 e3=>?_⟩,fun y j e1 e2=>?_,V.nloc,V.bloc,fun y c hc=>?_,V.bcel,V.apart,V.inj,by rw [List.length_set];exact V.wid,V.slt,
   V.frs.but (fun b n=>hsb.2 b n) fun o _ _=>by obtain ⟨o',es',ep',ho',hd',_⟩:=nsL';exact ⟨o',ho',Zr hd'⟩⟩
  ·by_cases hy:y=x
   ·subst hy
    rw [hs] at e2;cases e2
    rw [List.getElem?_set_self hi] at e3;cases e3
    exact ⟨v',by simp,rl rv⟩
   ·rw [other y j hy e2] at e3
    obtain ⟨u',q,r⟩:=hm y j u e1 e2 e3
    exact ⟨u',by simp [hy,q],rl r⟩
  ·have hy:y≠x:=fun h=>by subst h;rw [hk] at e1;rcases e1 with h | h <;> cases h
   obtain ⟨c,cv,q1,q2,q3⟩:=V.cel y j e1 e2
   refine ⟨c,cv,q1,cellK q1 q2,fun u hu=>?_⟩
   rw [other y j hy e2] at hu
   obtain ⟨u',q,r⟩:=q3 u hu
   exact ⟨u',q,rl r⟩
  ·obtain ⟨n,cv,h⟩:=V.ncel y c hc
   exact ⟨n,cv,cellK hc h⟩
 ·obtain ⟨c,cv,q1,q2,q3⟩:=V.cel x i (.inl hk) hs
  refine wpAny_storeName_cell V.fn (kd▸hk) q1 q2 fun h' hc' hsb=>?_
  obtain ⟨m,ns,hm⟩:=V.loc
  have hcL:env.locals≠c:=fun e=>by
   obtain ⟨o,ho,hd⟩:=q2
   obtain ⟨o',es,ep,ho',hd',_⟩:=ns
   rw [e,ho] at ho';cases ho';rw [hd] at hd';cases hd'
  obtain ⟨I',L'⟩:=I.own (s':={ s with heap:=h' }) (S:=fun (b:Addr)=>b=c) (fun b (h:b=c)=>by rw [h];exact ⟨(V.ncel x c q1).1,V.bcel x c q1⟩)
    (fun b o (h:b=c) e=>⟨fun f=>yV V b o (.inr ⟨x,by rw [h];exact q1⟩) e f,by obtain ⟨o',ho',_⟩:=hc';exact ⟨o',by rw [h];exact ho'⟩⟩)
    (fun b o n e=>(hsb.2 b n).trans e) rfl rfl
  have W:Le (Zf cb env) μ s μ { s with heap:=h' }:=L'.weak fun b (h:b=c)=>.inr ⟨hcb hk,x,by rw [h];exact q1⟩
  have rl:∀ {x:AV} {v:Value},VR X μ s.heap x v→VR X μ h' x v:=fun r=>r.leOwn I V (s':={ s with heap:=h' }) (W.weak fun _=>xi)
  have cellK:∀ {y:Str} {c':Addr} {cv:Option Value},y≠x→env.cells.lookup y=some c'→s.heap.IsCell c' cv→h'.IsCell c' cv:=fun hy hx h=>by
   obtain ⟨o,ho,r⟩:=h;exact ⟨o,(hsb.2 _ (fun e=>hy (V.apart _ _ c (e▸hx) q1))).trans ho,r⟩
  refine k _ W I' ⟨V.fn,V.glob,V.bltn,V.kind,⟨m,ns.sameBut hsb hcL,fun y j u e1 e2 e3=>?_⟩,fun y j e1 e2=>?_,V.nloc,V.bloc,fun y c' hc=>?_,V.bcel,V.apart,V.inj,by rw [List.length_set];exact V.wid,V.slt,
   V.frs.but (fun b n=>hsb.2 b n) fun o e d=>by obtain ⟨o',ho',hd'⟩:=q2;rw [e] at ho';cases ho';unfold isD at d;rw [hd'] at d;cases d⟩
  ·have hy:y≠x:=fun h=>by subst h;rw [hk] at e1;cases e1
   rw [other y j hy e2] at e3
   obtain ⟨u',q,r⟩:=hm y j u e1 e2 e3
   exact ⟨u',q,rl r⟩
  ·by_cases hy:y=x
   ·subst hy
    rw [hs] at e2;cases e2
    refine ⟨c,some v',q1,hc',fun u hu=>?_⟩
    rw [List.getElem?_set_self hi] at hu;cases hu
    exact ⟨v',rfl,rl rv⟩
   ·obtain ⟨c',cv',p1,p2,p3⟩:=V.cel y j e1 e2
    refine ⟨c',cv',p1,cellK hy p1 p2,fun u hu=>?_⟩
    rw [other y j hy e2] at hu
    obtain ⟨u',q,r⟩:=p3 u hu
    exact ⟨u',q,rl r⟩
  ·by_cases hy:y=x
   ·subst hy;rw [q1] at hc;cases hc;exact ⟨(V.ncel y c q1).1,_,hc'⟩
   ·obtain ⟨n,cv',h⟩:=V.ncel y c' hc
    exact ⟨n,cv',cellK hy hc h⟩
end
end Mine
end
end
section
noncomputable section
namespace Mine
open PySem PySem.W PySem.Calls
noncomputable def JM (X:Cx):Callee→Addr→Prop
 | .fn x,f=>nsIn X.K mainGlobals x=some (some (.ref f))
 | .cls x,f=>nsIn X.K mainGlobals x=some (some (.ref f))
 | .has _ _,_=>False
 | .meth c x,f=>∃ C,nsIn X.K mainGlobals c=some (some (.ref C))∧findIn X.K (.ref C) x=some (some (.ref f))∧typeIn X.K (.ref f)=some (.type "function")
structure SndCF (prog:Program) (w:World) (X:Cx) (n:Nat) (cf:CF):Prop where
 run:∀ {c:Callee} {args:List AV} {hp:Hp} {A:Around} {l:List Env} {μ:Mu} {s:Shared} {Q:Value→Shared→Prop} {E:Value→Shared→Prop} {f:Addr} {args':List Value},
  Room n A l→Frs X l μ s.heap→Inv X μ hp s→JM X c f→VRs X μ s.heap args args'→PO X l μ s (cf c args hp) Q E→wpAny (model prog w) A (call (.ref f) args') Q E s
 keep:∀ {c:Callee} {args:List AV} {hp:Hp} {f:Addr},cf c args hp≠.stuck→JM X c f→keepIn X.K (.ref f)=true
 meth:∀ {c x:Str} {args:List AV} {hp:Hp},cf (.meth c x) args hp≠.stuck→∃ f,JM X (.meth c x) f
 has:∀ {c x:Str} {args:List AV} {hp:Hp},cf (.has c x) args hp≠.stuck→∃ f,JM X (.meth c x) f
noncomputable abbrev PT (X:Cx) (l:List Env) (μ:Mu) (s:Shared) (o:Out Bool) (Q:Bool→Shared→Prop) (E:Value→Shared→Prop):Prop:=PG (fun _ _ a b=>a=b) X l μ s o Q E
noncomputable abbrev PEs (X:Cx) (l:List Env) (μ:Mu) (s:Shared) (o:Out (List AV)) (Q:List Value→Shared→Prop) (E:Value→Shared→Prop):Prop:=PG (fun μ h=>VRs X μ h) X l μ s o Q E
section
variable (prog:Program) (w:World) (X:Cx) (n:Nat) (cf:CF) (sc:Sc) (env:Env)
noncomputable def zx (t:Sem Value) (x:XE):Prop:=∀ {fr:AFr} {hp:Hp} {A:Around} {l:List Env} {μ:Mu} {s:Shared} {Q:Value→Shared→Prop} {E:Value→Shared→Prop},
  Room n A l→Inv X μ hp s→EnvR X l sc env fr μ s.heap→PO X l μ s (x cf fr hp) Q E→wpAny (model prog w) A t Q E s
noncomputable def wG (t:Sem Bool) (x:XT):Prop:=∀ {fr:AFr} {hp:Hp} {A:Around} {l:List Env} {μ:Mu} {s:Shared} {Q:Bool→Shared→Prop} {E:Value→Shared→Prop},
  Room n A l→Inv X μ hp s→EnvR X l sc env fr μ s.heap→PT X l μ s (x cf fr hp) Q E→wpAny (model prog w) A t Q E s
inductive SndL:List (Sem Value)→List XE→Prop
 | nil:SndL [] []
 | cons {t:Sem Value} {x:XE} {ts:List (Sem Value)} {xs:List XE}:zx prog w X n cf sc env t x→SndL ts xs→SndL (t::ts) (x::xs)
inductive SndTs:List (Sem Bool)→List XT→Prop
 | nil:SndTs [] []
 | cons {t:Sem Bool} {x:XT} {ts:List (Sem Bool)} {xs:List XT}:wG prog w X n cf sc env t x→SndTs ts xs→SndTs (t::ts) (x::xs)
end
section
variable {X:Cx} {l:List Env} {μ:Mu} {s:Shared} {hp:Hp} {E:Value→Shared→Prop}
theorem PG.pe {v:AV} {Q:Value→Shared→Prop} (k:PO X l μ s (.ok v hp) Q E):PE X μ s v hp Q:=k
theorem PG.tk {b:Bool} {Q:Bool→Shared→Prop} (k:PT X l μ s (.ok b hp) Q E) (I:Inv X μ hp s) (t:Nat):Q b { s with toks:=t }:=k b μ _ (.tok t) (I.tok t) rfl
theorem PG.ne {α β:Type} {rel:Mu→Heap→α→β→Prop} {o:Out α} {Q:β→Shared→Prop} (k:PG rel X l μ s o Q E):o≠.stuck:=fun h=>by rw [h] at k;exact k
end
section
variable {prog:Program} {w:World} {X:Cx} {G:GTab} {n:Nat} {cf:CF} {sc:Sc} {env:Env}
theorem Yy {c:Nat} {pos:Pos}:zx prog w X n cf sc env (eval (.Constant .none c pos) env) (z7 .none):=fun _ I _ k=>wpAny_pure (k.pe.here I .none)
theorem Yz {b:Bool} {c:Nat} {pos:Pos}:zx prog w X n cf sc env (eval (.Constant (.bool b) c pos) env) (z7 (.bool b)):=fun _ I _ k=>wpAny_pure (k.pe.here I (.bool b))
theorem Xn {i:Int} {c:Nat} {pos:Pos}:zx prog w X n cf sc env (eval (.Constant (.int i) c pos) env) (z7 (.int i)):=fun _ I _ k=>wpAny_mkInt (k.pe.tok I (.int _ _))
theorem Xm {x:Str} {c:Nat} {pos:Pos} (z:x.length≤small):zx prog w X n cf sc env (eval (.Constant (.str x) c pos) env) (z7 (.str x)):=fun _ I _ k=>wpAny_mkText (k.pe.tok I (.str _ z))
theorem z2y {l r:Expr} {op:Operator} {pos:Pos} {x y:XE} (hl:zx prog w X n cf sc env (eval l env) x) (hr:zx prog w X n cf sc env (eval r env) y) :
  zx prog w X n cf sc env (eval (.BinOp l op r pos) env) (zM op x y):=fun R I V k =>
 wpAny_BinOp (hl R I V (k.bind fun _ _ _ _ _ L1 I1 ra k=>hr R I1 (V.le I L1) (k.bind fun _ _ _ _ _ L2 I2 rb k=>JK I2 (ra.le I1 L2) rb k)))
theorem z2r {x:Expr} {pos:Pos} {y:XE} (hx:zx prog w X n cf sc env (eval x env) y):zx prog w X n cf sc env (eval (.UnaryOp .Not x pos) env) (WF y):=fun R I V k =>
 wpAny_UnaryOp (hx R I V (k.bind fun _ _ _ _ _ L1 I1 ra k=>by
  obtain ⟨v,e,k⟩:=k.of
  obtain ⟨b,e3,rfl⟩:=yC e
  exact PyProof.Rows.not_of (qm e3 I1 ra fun t=>k.pe.tok I1 (.bool _))))
theorem z2s {x:Expr} {pos:Pos} {y:XE} (hx:zx prog w X n cf sc env (eval x env) y):zx prog w X n cf sc env (eval (.UnaryOp .USub x pos) env) (zEm y):=fun R I V k =>
 wpAny_UnaryOp (hx R I V (k.bind fun _ _ _ _ _ L1 I1 ra k=>by
  obtain ⟨v,e,k⟩:=k.of
  obtain ⟨b,e3,rfl⟩:=yC e
  rw [zv e3] at ra
  obtain ⟨t,rfl⟩:=ra.int_
  exact P.neg_int (k.pe.tok I1 (.int _ _))))
theorem yh {ts:List (Sem Value)} {xs:List XE} (h:SndL prog w X n cf sc env ts xs):∀ {fr:AFr} {hp:Hp} {A:Around} {l:List Env} {μ:Mu} {s:Shared} {Q:List Value→Shared→Prop} {E:Value→Shared→Prop},
  Room n A l→Inv X μ hp s→EnvR X l sc env fr μ s.heap→PEs X l μ s (evs xs cf fr hp) Q E→wpAny (model prog w) A (spliced (ts.map fun t=>(false,t))) Q E s:=by
 induction h with
 | nil=>exact fun _ I _ k=>spliced_nil (k [] _ _ .refl I .nil)
 | cons ht hr ih =>
  exact fun R I V k=>spliced_cons (ht R I V (k.bind fun _ _ _ _ _ L1 I1 ra k=>ih R I1 (V.le I L1) (k.bind fun _ _ _ _ _ L2 I2 rs k=>k _ _ _ .refl I2 (.cons (ra.le I1 L2) rs))))
theorem QV {γ δ:Type} {rel:Mu→Heap→γ→δ→Prop} {l:List Env} {μ:Mu} {s:Shared} {Q':List Value→Shared→Prop} {Q:δ→Shared→Prop} {E:Value→Shared→Prop} {xs:List XE}:∀ {fr:AFr} {hp:Hp} {f:List AV→Hp→Out γ},PG rel X l μ s ((evs xs cf fr hp).bind f) Q E →
  (∀ vs vs' hp' μ' s',vs.length=xs.length→Le noS μ s μ' s'→Inv X μ' hp' s'→VRs X μ' s'.heap vs vs'→PG rel X l μ' s' (f vs hp') Q E→Q' vs' s')→PEs X l μ s (evs xs cf fr hp) Q' E:=by
 intro fr hp f k h
 have len:∀ {vs:List AV} {hp':Hp},evs xs cf fr hp=.ok vs hp'→vs.length=xs.length:=by
  clear k h
  induction xs generalizing hp with
  | nil=>intro vs hp' e;cases e;rfl
  | cons x xs ih =>
   intro vs hp' e
   have e:(x cf fr hp).bind (fun v h₁=>(evs xs cf fr h₁).bind fun vs h₂=>.ok (v::vs) h₂)=.ok vs hp':=e
   cases q:x cf fr hp with
   | stuck=>rw [q] at e;cases e
   | exc c h=>rw [q] at e;cases e
   | ok v h₁ =>
    rw [q] at e
    have e:(evs xs cf fr h₁).bind (fun vs h₂=>.ok (v::vs) h₂)=.ok vs hp':=e
    cases q2:evs xs cf fr h₁ with
    | stuck=>rw [q2] at e;cases e
    | exc c h=>rw [q2] at e;cases e
    | ok ws h₂=>rw [q2] at e;cases e;exact congrArg (·+1) (ih q2)
 cases q:evs xs cf fr hp with
 | stuck=>rw [q] at k;exact k
 | exc c h'=>rw [q] at k;exact k
 | ok vs hp'=>rw [q] at k;exact fun b μ' s' L I r=>h vs b hp' μ' s' (len q) L I r (PG.le (o:=f vs hp') k L)
theorem xT (pos:Pos) (ts:List (Sem Value)):backTo pos (ts.map fun t=>(false,t))=ts.map fun t=>(false,t):=by
 unfold backTo
 rw [List.map_map]
 apply List.map_congr_left
 intro t _
 rfl
theorem ya (env:Env):∀ {es:List Expr},es.all qI=true→starEach es env=(evalEach es env).map fun t=>(false,t)
 | [],_=>rfl
 | e::es,h=>by
  rw [List.all_cons,Bool.and_eq_true] at h
  have ih:=ya env (es:=es) h.2
  cases e <;> first | (exact nob h.1) | (exact congrArg (List.cons _) ih)
theorem zDj {k m:Nat} (h:k=m) (z:m≤1000):k≤small:=by rw [h];exact Nat.le_trans z (by decide)
theorem Jd {es:List Expr} {xs:List XE} {pos:Pos} (hs:es.all qI=true) (hl:xs.length≤1000) (h:SndL prog w X n cf sc env (evalEach es env) xs):zx prog w X n cf sc env (eval (.List es pos) env) (zm xs):=by
 intro fr hp A l μ s Q E R I V k
 refine PyProof.Rows.List_ ?_
 rw [ya env hs,xT]
 refine yh h R I V (QV k fun vs vs' h1 μ1 s1 z L1 I1 r k=>?_)
 have z:=zDj z hl
 refine wpAny_newObj_type (k.pe.list (t:=s1.toks) (j:=0) I1 z (by rw [List.toList_toArray];exact r)) ?_
 show vs'.toArray.size≤sizeLine
 rw [List.size_toArray,r.length];exact y9 z
theorem z2n {es:List Expr} {xs:List XE} {c:Nat} {pos:Pos} (hs:es.all qI=true) (hl:xs.length≤1000) (h:SndL prog w X n cf sc env (evalEach es env) xs):zx prog w X n cf sc env (eval (.Tuple es c pos) env) (yt xs):=by
 intro fr hp A l μ s Q E R I V k
 refine PyProof.Rows.Tuple_ ?_
 rw [ya env hs,xT]
 refine yh h R I V (QV k fun vs vs' h1 μ1 s1 z L1 I1 r k=>?_)
 have z:=zDj z hl
 refine wpAny_newObj_type (k.pe _ μ1 _ (.grow (t:=s1.toks) fun b o e=>Heap.get?_push_of_some _ e) (I1.grow fun b o e=>Heap.get?_push_of_some _ e)
  (.tup ⟨_,Heap.get?_push_size _ rfl,rfl,_,rfl⟩ z (by rw [List.toList_toArray];exact r.mono (List.prefix_refl _) fun b o e _=>Heap.get?_push_of_some _ e))) ?_
 show vs'.toArray.size≤sizeLine
 rw [List.size_toArray,r.length];exact y9 z
theorem Qp {op:BoolOp} {pos:Pos} {ts:List (Sem Value)} {xs:List XE} (h:SndL prog w X n cf sc env ts xs):zx prog w X n cf sc env (boolOp pos op ts) (wf op xs):=by
 induction h with
 | nil=>exact fun _ _ _ k=>k.elim
 | cons ht hr ih =>
  cases hr with
  | nil=>exact ht
  | cons ht2 hr2 =>
  intro fr hp A l μ s Q E R I V k
  rw [boolOp]
  ·refine wpAny_bind (ht R I V (k.bind fun v v' h1 μ1 s1 L1 I1 r k=>?_))
   cases q:xK h1 v with
   | none=>rw [q] at k;exact k.elim
   | some t =>
    rw [q] at k
    refine wpAny_bind (wpAny_standAt (wpAny_bind (wpAny_holding (qm q I1 r fun tk=>?_))))
    have Lt:Le noS μ1 s1 μ1 { s1 with toks:=tk }:=.tok tk
    cases op <;> cases t
    ·exact wpAny_pure (PE.tok k I1 r)
    ·exact ih R (I1.tok tk) ((V.le I L1).le I1 Lt) (PG.le k Lt)
    ·exact ih R (I1.tok tk) ((V.le I L1).le I1 Lt) (PG.le k Lt)
    ·exact wpAny_pure (PE.tok k I1 r)
  ·intro h;cases h
theorem jR {M:Model} {A:Around} {E:Value→Shared→Prop} {s:Shared} {vs keep:List Value} {Q:Unit→Shared→Prop} (h:Q () s):wpAny M A (release vs keep) Q E s:=fun Γ p hΓ=>by
 unfold release
 rw [Sem.wp_release_go];exact h
theorem YB {pos:Pos}:∀ {ops:List CmpOp} {ts:List (Sem Value)} {xs:List XE},SndL prog w X n cf sc env ts xs→∀ {left:AV} {fr:AFr} {hp:Hp} {A:Around} {l:List Env} {μ:Mu} {s:Shared} {Q:Bool→Shared→Prop} {E:Value→Shared→Prop} {lv:Value},
  Room n A l→Inv X μ hp s→EnvR X l sc env fr μ s.heap→VR X μ s.heap left lv→PT X l μ s (wD left ops xs cf fr hp) Q E→wpAny (model prog w) A (testChain pos lv ops ts) Q E s:=by
 intro ops
 induction ops with
 | nil=>exact fun _ _ _ _ _ _ _ _ _ _ _ _ _ _ _ k=>k.elim
 | cons op ops ih =>
  intro ts xs h left fr hp A l μ s Q E lv R I V rl k
  cases h with
  | nil=>exact k.elim
  | cons ht hr =>
   rename_i t x ts xs
   cases ops with
   | nil =>
    cases hr with
    | cons _ _=>exact k.elim
    | nil =>
    show wpAny _ _ (do let rv ← holding [lv] t;standAt pos;let c ← operate [lv,rv] (compareOp op lv rv);holding [c] (truthy c)) _ _ _
    refine wpAny_bind (wpAny_holding (ht R I V (k.bind fun v v' h1 μ1 s1 L1 I1 r k=>?_)))
    obtain ⟨c,q,k⟩:=k.of
    exact wpAny_bind (wpAny_standAt (wpAny_bind (wpAny_operating (wx q R I1 (rl.le I L1) r fun tk=>wpAny_holding (wpAny_truthy_bool (PG.tk k I1 tk))))))
   | cons op2 ops =>
    show wpAny _ _ (do
       let rv ← holding [lv] t
       standAt pos
       let c ← holding [lv,rv] (compareOp op lv rv)
       release [lv,rv] [c]
       if ← holding [c,rv] (truthy c) then testChain pos rv (op2::ops) ts else pure false) _ _ _
    refine wpAny_bind (wpAny_holding (ht R I V (k.bind fun v v' h1 μ1 s1 L1 I1 r k=>?_)))
    cases q:yl op left v h1 with
    | none=>rw [q] at k;exact k.elim
    | some c =>
    rw [q] at k
    refine wpAny_bind (wpAny_standAt (wpAny_bind (wpAny_holding (wx q R I1 (rl.le I L1) r fun tk=>?_))))
    refine wpAny_bind (jR (wpAny_bind (wpAny_holding (wpAny_truthy_bool ?_))))
    have Lt:Le noS μ1 s1 μ1 { s1 with toks:=tk }:=.tok tk
    cases c with
    | false=>exact wpAny_pure (PG.tk k I1 tk)
    | true=>exact ih hr R (I1.tok tk) ((V.le I L1).le I1 Lt) (r.le I1 Lt) (PG.le k Lt)
end
section
variable {prog:Program} {w:World} {X:Cx} {G:GTab} {n:Nat} {cf:CF} {sc:Sc} {env:Env}
theorem jj {pos:Pos}:∀ {ops:List CmpOp} {ts:List (Sem Value)} {xs:List XE},SndL prog w X n cf sc env ts xs→∀ {left:AV} {fr:AFr} {hp:Hp} {A:Around} {l:List Env} {μ:Mu} {s:Shared} {Q:Value→Shared→Prop} {E:Value→Shared→Prop} {lv:Value},
  Room n A l→Inv X μ hp s→EnvR X l sc env fr μ s.heap→VR X μ s.heap left lv→PT X l μ s (wD left ops xs cf fr hp) (fun b s'=>Q (.bool b) s') E→wpAny (model prog w) A (compareChain pos lv ops ts) Q E s:=by
 intro ops
 induction ops with
 | nil=>exact fun _ _ _ _ _ _ _ _ _ _ _ _ _ _ _ k=>k.elim
 | cons op ops ih =>
  intro ts xs h left fr hp A l μ s Q E lv R I V rl k
  cases h with
  | nil=>exact k.elim
  | cons ht hr =>
   rename_i t x ts xs
   cases ops with
   | nil =>
    cases hr with
    | cons _ _=>exact k.elim
    | nil =>
    show wpAny _ _ (do let rv ← holding [lv] t;standAt pos;operate [lv,rv] (compareOp op lv rv)) _ _ _
    refine wpAny_bind (wpAny_holding (ht R I V (k.bind fun v v' h1 μ1 s1 L1 I1 r k=>?_)))
    obtain ⟨c,q,k⟩:=k.of
    exact wpAny_bind (wpAny_standAt (wpAny_operating (wx q R I1 (rl.le I L1) r fun tk=>PG.tk k I1 tk)))
   | cons op2 ops =>
    show wpAny _ _ (do
       let rv ← holding [lv] t
       standAt pos
       let c ← holding [lv,rv] (compareOp op lv rv)
       release [lv,rv] [c]
       if ← holding [c,rv] (truthy c) then compareChain pos rv (op2::ops) ts else pure c) _ _ _
    refine wpAny_bind (wpAny_holding (ht R I V (k.bind fun v v' h1 μ1 s1 L1 I1 r k=>?_)))
    cases q:yl op left v h1 with
    | none=>rw [q] at k;exact k.elim
    | some c =>
    rw [q] at k
    refine wpAny_bind (wpAny_standAt (wpAny_bind (wpAny_holding (wx q R I1 (rl.le I L1) r fun tk=>?_))))
    refine wpAny_bind (jR (wpAny_bind (wpAny_holding (wpAny_truthy_bool ?_))))
    have Lt:Le noS μ1 s1 μ1 { s1 with toks:=tk }:=.tok tk
    cases c with
    | false=>exact wpAny_pure (PG.tk k I1 tk)
    | true=>exact ih hr R (I1.tok tk) ((V.le I L1).le I1 Lt) (r.le I1 Lt) (PG.le k Lt)
theorem z2x {l:Expr} {ops:List CmpOp} {rs:List Expr} {pos:Pos} {x:XE} {ys:List XE} (hs:lastMarks ops rs=false) (hl:zx prog w X n cf sc env (eval l env) x) (hr:SndL prog w X n cf sc env (evalEach rs env) ys) :
  zx prog w X n cf sc env (eval (.Compare l ops rs pos) env) (ju x ops ys):=by
 intro fr hp A fl μ s Q E R I V k
 have k:PT X fl μ s (zQ x ops ys cf fr hp) (fun b s'=>Q (.bool b) s') E:=PG.bind k fun a b hp' μ' s' L I e k=>by
  cases e;exact PE.here k I (.bool a)
 show wpAny _ _ (do compareChain pos (← eval l env) ops (markedEach ops rs (evalEach rs env))) _ _ _
 rw [PyProof.Rows.markedEach_of_false _ _ _ hs]
 exact wpAny_bind (hl R I V (k.bind fun a a' h1 μ1 s1 L1 I1 r k=>jj hr R I1 (V.le I L1) r k))
theorem Jn {l:Expr} {ops:List CmpOp} {rs:List Expr} {pos:Pos} {x:XE} {ys:List XE} {whole:Sem Value} (hs:lastMarks ops rs=false) (hl:zx prog w X n cf sc env (eval l env) x) (hr:SndL prog w X n cf sc env (evalEach rs env) ys) :
  wG prog w X n cf sc env (isTrue (.Compare l ops rs pos) env whole) (zQ x ops ys):=by
 intro fr hp A fl μ s Q E R I V k
 show wpAny _ _ (do testChain pos (← eval l env) ops (markedEach ops rs (evalEach rs env))) _ _ _
 rw [PyProof.Rows.markedEach_of_false _ _ _ hs]
 exact wpAny_bind (hl R I V (k.bind fun a a' h1 μ1 s1 L1 I1 r k=>YB hr R I1 (V.le I L1) r k))
theorem Jl {x:Expr} {pos:Pos} {t:XT} {whole:Sem Value} (h:wG prog w X n cf sc env (isTrue x env (eval x env)) t):wG prog w X n cf sc env (isTrue (.UnaryOp .Not x pos) env whole) (yP t):=by
 intro fr hp A l μ s Q E R I V k
 show wpAny _ _ (do return !(← isTrue x env (eval x env))) _ _ _
 exact wpAny_bind (h R I V (k.bind fun a b h1 μ1 s1 L1 I1 e k=>wpAny_pure (by cases e;exact k _ μ1 s1 .refl I1 rfl)))
theorem Jo {op:BoolOp} {es:List Expr}:∀ {xs:List XT},SndTs prog w X n cf sc env (es.map fun e=>isTrue e env (eval e env)) xs→wG prog w X n cf sc env (allTrue op es env) (zT op xs):=by
 induction es with
 | nil =>
  intro xs h
  cases h
  exact fun _ I _ k=>wpAny_pure (k _ _ _ .refl I rfl)
 | cons x es ih =>
  intro xs h
  cases h with
  | cons hx hr =>
  intro fr hp A l μ s Q E R I V k
  show wpAny _ _ (do match op,← isTrue x env (eval x env) with | .And,false=>pure false | .Or,true=>pure true | _,_=>allTrue op es env) _ _ _
  refine wpAny_bind (hx R I V (k.bind fun c c' h1 μ1 s1 L1 I1 e k=>?_))
  cases e
  cases op <;> cases c
  ·exact wpAny_pure (k _ μ1 s1 .refl I1 rfl)
  ·exact ih hr R I1 (V.le I L1) k
  ·exact ih hr R I1 (V.le I L1) k
  ·exact wpAny_pure (k _ μ1 s1 .refl I1 rfl)
theorem Jk {e₀:Expr} {x:XE} (he:∀ whole,isTrue e₀ env whole=(do let v ← whole;standAt e₀.pos;holding [v] (truthy v))) (h:zx prog w X n cf sc env (eval e₀ env) x):wG prog w X n cf sc env (isTrue e₀ env (eval e₀ env)) (zy x):=by
 intro fr hp A l μ s Q E R I V k
 rw [he]
 refine wpAny_bind (h R I V (k.bind fun a a' h1 μ1 s1 L1 I1 r k=>?_))
 obtain ⟨b,e3,k⟩:=k.of
 exact wpAny_bind (wpAny_standAt (wpAny_holding (qm e3 I1 r fun t=>PG.tk k I1 t)))
theorem xq {o:Expr} {attr:Str} {env:Env} {t:Sem Value} (h:qZ o=false):attributeBase o attr env t=t:=by
 cases o with
 | Call f as ks p =>
  cases f with
  | Name x q =>
   cases as with
   | cons=>rfl
   | nil =>
    cases ks with
    | cons=>rfl
    | nil=>exact nob h.symm
  | _=>rfl
 | _=>rfl
theorem Jj {o:Expr} {name:Str} {pos:Pos} {x:XE} (g:Gd X G) (hs:qZ o=false) (h:zx prog w X n cf sc env (eval o env) x):zx prog w X n cf sc env (eval (.Attribute o name pos) env) (zE x name):=by
 intro fr hp A l μ s Q E R I V k
 show wpAny _ _ (do let o' ← attributeBase o name env (eval o env);standAt pos.atName;let r ← holding [o'] (getAttr o' name true);letTemporaryGo o o' r;pure r) _ _ _
 rw [xq hs]
 refine wpAny_bind (h R I V (k.bind fun a a' h2 μ1 s1 L1 I1 r k=>wpAny_bind (wpAny_standAt (wpAny_bind (wpAny_holding ?_)))))
 cases a with
 | ref a =>
  have k:PO X l μ1 s1 (match h2[a]? with | some (.inst _ fs)=>Out.of (fs.lookup name) h2 | _=>.stuck) Q E:=k
  cases ho:h2[a]? with
  | none=>rw [ho] at k;exact k.elim
  | some o' =>
   rw [ho] at k
   cases o' with
   | list _=>exact k.elim
   | dict _=>exact k.elim
   | inst c fs =>
   obtain ⟨v,e3,k⟩:=PG.of k
   exact WN g I1 r ho e3 fun v' μ2 s2 L2 I2 rv=>wpAny_bind (wpAny_letTemporaryGo (wpAny_pure (k v' μ2 s2 L2 I2 rv)))
 | _=>exact k.elim
noncomputable def Wb (e:Expr):Bool:=!Nat.beq e.ctorIdx 26
theorem z2u {o i:Expr} {pos:Pos} {x y:XE} (hn:Wb i=true) (ho:zx prog w X n cf sc env (eval o env) x) (hi:zx prog w X n cf sc env (eval i env) y):zx prog w X n cf sc env (eval (.Subscript o i pos) env) (zK x y):=by
 intro fr hp A l μ s Q E R I V k
 refine PyProof.Rows.Subscript_ (ho R I V (k.bind fun a a' h1 μ1 s1 L1 I1 ra k=>hi R I1 (V.le I L1) (k.bind fun b b' h2 μ2 s2 L2 I2 rb k=>?_)))
 obtain ⟨v,e3,k⟩:=k.of
 obtain ⟨⟨T,id,hT,hl⟩,hw⟩:=J8 (prog:=prog) (w:=w) (A:=A) (E:=E) e3 I2 (ra.le I1 L2) rb k
 refine PyProof.Rows.tail_any (ops:=[a',b']) hT hl hw ?_
 cases i <;> first | rfl | exact nob hn
theorem WU {e:Option Expr} {x:XE} (h:∀ e',e=some e'→zx prog w X n cf sc env (eval e' env) x) (h0:e=none→x=z7 .none):zx prog w X n cf sc env (valueOrNone (evalOpt e env)) x:=by
 cases e with
 | some e'=>exact h e' rfl
 | none =>
  rw [h0 rfl]
  exact fun _ I _ k=>wpAny_pure (k.pe.here I .none)
theorem z2w {o:Expr} {l u:Option Expr} {p pos:Pos} {x y z:XE} (ho:zx prog w X n cf sc env (eval o env) x) (hl:zx prog w X n cf sc env (valueOrNone (evalOpt l env)) y) (hu:zx prog w X n cf sc env (valueOrNone (evalOpt u env)) z) :
  zx prog w X n cf sc env (eval (.Subscript o (.Slice l u none p) pos) env) (ZF x y z):=by
 intro fr hp A fl μ s Q E R I V k
 refine PyProof.Rows.Subscript_ (ho R I V (k.bind fun a a' h1 μ1 s1 L1 I1 ra k=>?_))
 show wpAny _ _ (do let l' ← valueOrNone (evalOpt l env);let u' ← holding [l'] (valueOrNone (evalOpt u env));let st ← holding [l',u'] (valueOrNone (evalOpt none env));newFields "slice" [l',u',st]) _ _ _
 refine wpAny_bind (hl R I1 (V.le I L1) (k.bind fun b b' h2 μ2 s2 L2 I2 rb k=>wpAny_bind (wpAny_holding (hu R I2 ((V.le I L1).le I1 L2) (k.bind fun c c' h3 μ3 s3 L3 I3 rc k=>wpAny_bind (wpAny_holding (wpAny_pure ?_)))))))
 refine wpAny_newObj_type ?_
 have hk:∀ b o,s3.heap.get? b=some o→(s3.heap.push { cls:=.type "slice",data:=.fields #[b',c',.none] }).get? b=some o:=fun b o e=>Heap.get?_push_of_some _ e
 have L4:Le noS μ3 s3 μ3 { s3 with heap:=s3.heap.push { cls:=.type "slice",data:=.fields #[b',c',.none] } }:=.ofKeep hk
 have I4:Inv X μ3 h3 { s3 with heap:=s3.heap.push { cls:=.type "slice",data:=.fields #[b',c',.none] } }:=I3.grow (t:=s3.toks) hk
 obtain ⟨⟨T,id,hT,hl'⟩,hw⟩:=JG (prog:=prog) (w:=w) (A:=A) (E:=E) (s:={ s3 with heap:=s3.heap.push { cls:=.type "slice",data:=.fields #[b',c',.none] } }) I4 (((ra.le I1 L2).le I2 L3).le I3 L4) ((rb.le I2 L3).le I3 L4) (rc.le I3 L4)
  (Heap.IsSliceOf.new ..) (PG.le k L4)
 exact PyProof.Rows.tail_any (ops:=[.ref s3.heap.objs.size,a']) hT hl' hw rfl
theorem z02 {e:Expr} (h:z03 e=true):∃ k p q r,e=.Slice none none (some (.UnaryOp .USub (.Constant (.int 1) k p) q)) r:=by
 obtain ⟨w,h⟩:=Option.isSome_iff_exists.mp h
 obtain ⟨⟨t,et⟩,_,h⟩:=zS h
 obtain ⟨s,es,h⟩:=zS h
 obtain ⟨⟨u,eu⟩,_,h⟩:=zS h
 obtain ⟨k,ek,h⟩:=zS h
 obtain ⟨i,ei,h⟩:=zS h
 obtain ⟨⟨c1,c2,c3,rfl⟩,_⟩:=zb h
 have c3:u.1=.USub:=by
  revert c3
  cases u.1 <;> intro c3 <;> first | rfl | exact nob c3
 exact ⟨k.2.1,k.2.2,u.2.2,t.2.2.2,by rw [et,Option.isNone_iff_eq_none.mp c1,Option.isNone_iff_eq_none.mp c2,es,eu,c3,ww ek,Wh ei]⟩
theorem z2p {o:Expr} {k0:Nat} {p q r pos:Pos} {x:XE} (ho:zx prog w X n cf sc env (eval o env) x):zx prog w X n cf sc env (eval (.Subscript o (.Slice none none (some (.UnaryOp .USub (.Constant (.int 1) k0 p) q)) r) pos) env) (Qa x):=by
 intro fr hp A fl μ s Q E R I V k
 refine PyProof.Rows.Subscript_ (ho R I V (PG.bind0 k fun a a' h1 μ1 s1 L1 I1 ra k=>?_))
 refine wpAny_Slice ?_
 rw [evalPart_none]
 refine wpAny_pure (wpAny_pure ?_)
 rw [evalPart_some]
 refine wpAny_UnaryOp (wpAny_mkInt (P.neg_int ?_))
 have hk:∀ t b o,s1.heap.get? b=some o→(s1.heap.push { cls:=.type "slice",data:=.fields #[.none,.none,.int (-1) t] }).get? b=some o:=fun t b o e=>Heap.get?_push_of_some _ e
 have L2:∀ t tk,Le noS μ1 s1 μ1 { s1 with heap:=s1.heap.push { cls:=.type "slice",data:=.fields #[.none,.none,.int (-1) t] },toks:=tk }:=fun t tk=>.grow (hk t)
 obtain ⟨hT,hw⟩:=Ww (prog:=prog) (w:=w) (A:=A) (E:=E) (I1.grow (hk _)) (ra.le I1 (L2 _ _)) (Heap.IsSliceOf.new ..) (PG.le k (L2 _ _))
 exact PyProof.Rows.tail_any (ops:=[a',.ref s1.heap.objs.size]) hT slot_list_getitem.lookup hw rfl
theorem yk {M:Model} {A:Around} {E:Value→Shared→Prop} {s:Shared} {f:Value} {ts:List (Sem Value)} {Q:Args→Shared→Prop}
  (h:wpAny M A (spliced (ts.map fun t=>(false,t))) (fun vs s'=>Q ⟨vs,[]⟩ s') E s):wpAny M A (evalArgs f true (ts.map fun t=>(false,t)) []) Q E s:=by
 cases ts with
 | cons t ts=>exact evalArgs_plain h
 | nil =>
  unfold evalArgs
  show wpAny M A (spliced [] >>= _) Q E s
  refine wpAny_bind (wpAny_mono h (fun vs s' h'=>?_) fun _ _ x=>x)
  refine wpAny_holding ?_
  exact wpAny_bind (wpAny_pure (wpAny_bind (wpAny_pure (wpAny_pure h'))))
theorem QY {K:Frag} {A:Around} {E:Value→Shared→Prop} {s:Shared} {f:Addr} {pos:Pos} {first:List Value} {ts:List (Sem Value)} {Q:Value→Shared→Prop} (hk:keepIn K (.ref f)=true)
  (h:wpAny (model prog w) A (spliced (ts.map fun t=>(false,t))) (fun vs s'=>K.In s'.heap∧wpAny (model prog w) A (call (.ref f) (first++vs)) Q E s') E s) :
  wpAny (model prog w) A (callWith pos (.ref f) first (ts.map fun t=>(false,t)) []) Q E s:=by
 refine callWith_of (P:=K.In) (by simp) (fun h x=>?_) (yk h)
 obtain ⟨k,hk',L⟩:=looks_keep hk x
 exact ⟨k,hk'.elim .inl fun q=>.inr (.inl q),L⟩
theorem Z8 {A:Around} {E:Value→Shared→Prop} {s:Shared} {b:Bi} {pos:Pos} {ts:List (Sem Value)} {Q:Value→Shared→Prop}
  (h:wpAny (model prog w) A (spliced (ts.map fun t=>(false,t))) (fun vs s'=>wpAny (model prog w) A (call (jD b) vs) Q E s') E s) :
  wpAny (model prog w) A (callWith pos (jD b) [] (ts.map fun t=>(false,t)) []) Q E s:=by
 refine callWith_of (P:=fun _=>True) (by simp) (fun h x=>⟨.machine,.inr (.inl rfl),?_⟩) (yk (wpAny_mono h (fun vs s' z=>⟨trivial,z⟩) fun _ _ z=>z))
 cases b <;> exact Looks.of_pure rfl
theorem Wm {f:Expr} {args:List Expr} {pos:Pos} (hf:∀ o name p,f≠.Attribute o name p):eval (.Call f args [] pos) env=(do callWith pos (← eval f env) [] (backTo pos (starEach args env)) (backToKw pos (keywordEach [] env))):=by
 cases f <;> first | rfl | (exact absurd rfl (hf _ _ _))
theorem w0 {f:Addr} {args:List Expr} {pos:Pos} {ys:List XE} {A:Around} {l:List Env} {μ:Mu} {s:Shared} {Q:Value→Shared→Prop} {E:Value→Shared→Prop} {fr:AFr} {hp:Hp} {c:Callee} {first:List Value} {fa:List AV} (g:Gd X G) (hcf:SndCF prog w X n cf)
  (hy:SndL prog w X n cf sc env (evalEach args env) ys) (R:Room n A l) (I:Inv X μ hp s) (V:EnvR X l sc env fr μ s.heap) (hc:JM X c f) (rf:VRs X μ s.heap fa first)
  (k:PO X l μ s ((evs ys cf fr hp).bind0 fun vs h₂=>cf c (fa++vs) h₂) Q E):wpAny (model prog w) A (callWith pos (.ref f) first ((evalEach args env).map fun t=>(false,t)) []) Q E s:=by
 cases q:evs ys cf fr hp with
 | stuck=>rw [q] at k;exact k.elim
 | exc=>rw [q] at k;exact k.elim
 | ok vs h2 =>
  rw [q] at k
  have k:PO X l μ s (cf c (fa++vs) h2) Q E:=k
  refine QY (hcf.keep k.ne hc) (yh hy R I V ?_)
  rw [q]
  exact fun vs' μ2 s2 L2 I2 rs=>⟨I2.kin g.K,hcf.run R (V.frs.le L2) I2 hc ((rf.le I L2).app rs) (PG.le k L2)⟩
theorem Ji {f:Expr} {args:List Expr} {pos:Pos} {x:XE} {ys:List XE} (g:Gd X G) (hcf:SndCF prog w X n cf) (hf:∀ o name p,f≠.Attribute o name p) (hs:args.all qI=true)
  (hx:zx prog w X n cf sc env (eval f env) x) (hy:SndL prog w X n cf sc env (evalEach args env) ys):zx prog w X n cf sc env (eval (.Call f args [] pos) env) (zD x ys):=by
 intro fr hp A l μ s Q E R I V k
 rw [Wm hf,ya env hs,xT]
 refine wpAny_bind (hx R I V (k.bind fun a a' h1 μ1 s1 L1 I1 ra k=>?_))
 show wpAny _ _ (callWith pos a' [] _ []) _ _ _
 cases a with
 | fn x =>
  obtain ⟨f,rfl,q⟩:=ra.fn_
  exact w0 (fa:=[]) g hcf hy R I1 (V.le I L1) (c:=.fn x) q .nil k
 | cls x =>
  obtain ⟨f,rfl,q⟩:=ra.cls_
  exact w0 (fa:=[]) g hcf hy R I1 (V.le I L1) (c:=.cls x) q .nil k
 | bi b =>
  rw [ra.bi_]
  exact Z8 (yh hy R I1 (V.le I L1) (k.bind0 fun vs vs' h2 μ2 s2 L2 I2 rs k=>z1x R I2 rs k))
 | _=>cases q:evs ys cf fr h1 <;> rw [q] at k <;> exact k.elim
noncomputable def lMe:Me→Bool
 | .append | .insert | .index | .count | .remove | .extend | .clear=>true
 | _=>false
noncomputable def dMe:Me→Bool
 | .pop=>true
 | _=>false
set_option maxRecDepth 100000 in
theorem z3e {name:Str} {A:Around} {E:Value→Shared→Prop} {s:Shared} {pl:Sem Bool} {Q:Value×List Value→Shared→Prop} (hm:ZE name=some .join) {x:Str} {t:Tok}
  (h:Q (.builtin (z0p .join),[.str x t]) s):wpAny (model prog w) A (getMethod (.str x t) name pl) Q E s:=by
 rw [jl hm]
 exact getMethod_builtin (typeIs_str _ _ _) F.plainAttrs_str F.slot_str_join F.type_str_join (fun _ e=>nomatch e) h
set_option maxRecDepth 100000 in
theorem zE6 {m:Me} {name:Str} {A:Around} {E:Value→Shared→Prop} {s:Shared} {pl:Sem Bool} {Q:Value×List Value→Shared→Prop} (hm:ZE name=some m) (hj:lMe m=true) {a:Addr} {items:Array Value} {k:Nat} (hl:IsL s.heap a items k)
  (h:Q (.builtin (z0p m),[.ref a]) s):wpAny (model prog w) A (getMethod (.ref a) name pl) Q E s:=by
 have hd:∀ b,Value.ref a=.ref b→∃ o,s.heap.get? b=some o∧o.dict=none:=fun b e=>by cases e;exact ⟨_,hl,rfl⟩
 have hT:s.TypeIs (.ref a) "list" := ⟨_,hl,rfl⟩
 rw [jl hm]
 cases m with
 | append=>exact getMethod_builtin hT F.plainAttrs_list F.slot_list_append F.type_list_append hd h
 | insert=>exact getMethod_builtin hT F.plainAttrs_list F.slot_list_insert F.type_list_insert hd h
 | index=>exact getMethod_builtin hT F.plainAttrs_list F.slot_list_index F.type_list_index hd h
 | count=>exact getMethod_builtin hT F.plainAttrs_list F.slot_list_count F.type_list_count hd h
 | remove=>exact getMethod_builtin hT F.plainAttrs_list F.slot_list_remove F.type_list_remove hd h
 | extend=>exact getMethod_builtin hT F.plainAttrs_list F.slot_list_extend F.type_list_extend hd h
 | clear=>exact getMethod_builtin hT F.plainAttrs_list F.slot_list_clear F.type_list_clear hd h
 | _=>exact nob hj
set_option maxRecDepth 100000 in
theorem z3x {m:Me} {name:Str} {A:Around} {E:Value→Shared→Prop} {s:Shared} {pl:Sem Bool} {Q:Value×List Value→Shared→Prop} (hm:ZE name=some m) (hj:dMe m=true) {a:Addr} (hT:s.TypeIs (.ref a) "dict") (hd:∀ b,Value.ref a=.ref b→∃ o,s.heap.get? b=some o∧o.dict=none)
  (h:Q (.builtin (z0p m),[.ref a]) s):wpAny (model prog w) A (getMethod (.ref a) name pl) Q E s:=by
 rw [jl hm]
 cases m with
 | pop=>exact getMethod_builtin hT F.plainAttrs_dict F.slot_dict_pop F.type_dict_pop hd h
 | _=>exact nob hj
set_option maxRecDepth 100000 in
theorem Jc {o:Expr} {name:Str} {apos pos:Pos} {args:List Expr} {x:XE} {ys:List XE} (g:Gd X G) (hcf:SndCF prog w X n cf) (hs:qZ o=false) (hp0:(apos.endLine == pos.line)=true) (ha:args.all qI=true)
  (hl:args.length<30) (hx:zx prog w X n cf sc env (eval o env) x) (hy:SndL prog w X n cf sc env (evalEach args env) ys) :
  zx prog w X n cf sc env (eval (.Call (.Attribute o name apos) args [] pos) env) (z8 x name (ZE name) ys):=by
 intro fr hp A l μ s Q E R I V k
 show wpAny _ _ (do
  let ov ← attributeBase o name env (eval o env)
  standAt apos.atName
  methodCall o name apos pos env ov (args.length+([]:List Keyword).length) (backTo pos (starEach args env)) (backToKw pos (keywordEach [] env))) _ _ _
 rw [xq hs,ya env ha,xT]
 have form:methodCallForm (args.length+([]:List Keyword).length) ((evalEach args env).map fun t=>(false,t)) (backToKw pos (keywordEach [] env))=true:=by
  unfold methodCallForm
  have:((evalEach args env).map fun t=>(false,t)).all (fun x=>!x.1)=true:=by simp
  simp only [this,Bool.true_and]
  show (true && decide (args.length+0+0<30))=true
  simp;exact hl
 have start:∀ {ov:Value} {s1:Shared},wpAny (model prog w) A (getMethod ov name (do return (← importBound o env).getD true)) (fun p s2=>wpAny (model prog w) A (callWith pos p.1 p.2 ((evalEach args env).map fun t=>(false,t)) []) Q E s2) E s1 →
   wpAny (model prog w) A (methodCall o name apos pos env ov (args.length+([]:List Keyword).length) ((evalEach args env).map fun t=>(false,t)) (backToKw pos (keywordEach [] env))) Q E s1:=by
  intro ov s1 h
  unfold methodCall
  rw [form]
  refine wpAny_bind (wpAny_holding (wpAny_mono (show wpAny (model prog w) A (calleeOf true o env ov name) _ E s1 from h) (fun p s2 h2=>?_) fun _ _ z=>z))
  refine wpAny_bind ?_
  unfold methodCallPos
  rw [if_pos (by simp [hp0])]
  exact wpAny_pure h2
 refine wpAny_bind (hx R I V (k.bind fun a a' h1 μ1 s1 L1 I1 ra k=>wpAny_bind (wpAny_standAt (start ?_))))
 cases a with
 | ref b =>
  have k:PO X l μ1 s1 (match h1[b]? with
   | some (.inst c fs)=>(match fs.lookup name with
    | some _=>Out.stuck
    | none=>wU cf c name (.ref b) (evs ys cf fr h1))
   | some (.list _)=>(match ZE name with
    | some m=>(evs ys cf fr h1).bind0 fun vs h₂=>yN m (.ref b) vs h₂
    | none=>.stuck)
   | some (.dict _)=>(match ZE name with
    | some m=>(evs ys cf fr h1).bind0 fun vs h₂=>Mine.ofP (meD m b vs h₂)
    | none=>.stuck)
   | none=>.stuck) Q E:=k
  cases ho:h1[b]? with
  | none=>rw [ho] at k;exact k.elim
  | some o' =>
   rw [ho] at k
   cases o' with
   | inst c fs =>
    dsimp only at k
    cases hno:fs.lookup name with
    | some _=>rw [hno] at k;exact k.elim
    | none =>
    rw [hno] at k
    have k:PO X l μ1 s1 (wU cf c name (.ref b) (evs ys cf fr h1)) Q E:=k
    cases q:evs ys cf fr h1 with
    | stuck=>rw [q] at k;exact k.elim
    | ok vs h2 =>
     rw [q] at k
     have k:PO X l μ1 s1 (cf (.meth c name) ([.ref b]++vs) h2) Q E:=k
     obtain ⟨f,C,c1,c2,c3⟩:=hcf.meth k.ne
     exact Zk g I1 ra ho hno c1 c2 c3 (w0 g hcf hy R I1 (V.le I L1) (c:=.meth c name) ⟨C,c1,c2,c3⟩ (.cons ra .nil) (by rw [q];exact k))
    | exc c' h2 =>
     rw [q] at k
     have k:PO X l μ1 s1 (match cf (.has c name) [] h2 with
      | .ok _ _=>.exc c' h2
      | _=>.stuck) Q E:=k
     cases e:cf (.has c name) [] h2 with
     | stuck=>rw [e] at k;exact k.elim
     | exc=>rw [e] at k;exact k.elim
     | ok =>
      rw [e] at k
      obtain ⟨f,C,c1,c2,c3⟩:=hcf.has (fun q=>by rw [e] at q;cases q)
      exact Zk g I1 ra ho hno c1 c2 c3 (callWith_of (P:=fun _=>False) (by simp) (fun _ h=>h.elim) (yk (yh hy R I1 (V.le I L1) (by rw [q];exact k))))
   | dict kvs =>
    dsimp only at k
    cases hm:ZE name with
    | none=>rw [hm] at k;exact k.elim
    | some m =>
    rw [hm] at k
    have hj:dMe m=true:=by
     have k:PO X l μ1 s1 ((evs ys cf fr h1).bind0 fun vs h₂=>Mine.ofP (meD m b vs h₂)) Q E:=k
     cases q:evs ys cf fr h1 with
     | stuck=>rw [q] at k;exact k.elim
     | exc=>rw [q] at k;exact k.elim
     | ok vs h2 =>
      rw [q] at k
      obtain ⟨v',hp',e,_⟩:=PG.ofP (o:=meD m b vs h2) k
      cases m <;> first | rfl | cases e
    obtain ⟨d,es,rfl,g1,md,_,_,_⟩:=I1.dict_at ra ho prog w
    exact z3x hm hj md.typeIs (fun b' e=>by injection e with e;subst e;exact let ⟨o,_,_,ho,hc,_⟩:=md;⟨o,ho,hc.2.1⟩) (callWith_builtin (by simp) (yk (yh hy R I1 (V.le I L1) (PG.bind0 k fun vs vs' h2 μ2 s2 L2 I2 rs k=>JE I2 (ra.le I1 L2) rs k))))
   | list xs =>
    dsimp only at k
    cases hm:ZE name with
    | none=>rw [hm] at k;exact k.elim
    | some m =>
    rw [hm] at k
    obtain ⟨d,items,mm,rfl,g1,hl',_,_⟩:=I1.list_at ra ho
    have hj:lMe m=true:=by
     have k:PO X l μ1 s1 ((evs ys cf fr h1).bind0 fun vs h₂=>yN m (.ref b) vs h₂) Q E:=k
     cases q:evs ys cf fr h1 with
     | stuck=>rw [q] at k;exact k.elim
     | exc=>rw [q] at k;exact k.elim
     | ok vs h2 =>
      rw [q] at k
      obtain ⟨v',hp',e,_⟩:=PG.ofP (o:=(yi (.ref b)).bind fun a=>(zi h2 a).bind fun xs=>meO m a xs vs h2) k
      obtain ⟨b',h1',e⟩:=zS e
      obtain ⟨xs',hx',e⟩:=zS e
      cases m <;> first | rfl | cases e
    exact zE6 hm hj hl' (callWith_builtin (by simp) (yk (yh hy R I1 (V.le I L1) (PG.bind0 k fun vs vs' h2 μ2 s2 L2 I2 rs k=>Q1 R I2 (ra.le I1 L2) rs k))))
 | str x₀ =>
  have k:PO X l μ1 s1 (match ZE name with
   | some m=>(evs ys cf fr h1).bind0 fun vs h₂=>yN m (.str x₀) vs h₂
   | none=>.stuck) Q E:=k
  cases hm:ZE name with
  | none=>rw [hm] at k;exact k.elim
  | some m =>
   rw [hm] at k
   have k:PO X l μ1 s1 ((evs ys cf fr h1).bind0 fun vs h₂=>yN m (.str x₀) vs h₂) Q E:=k
   have hj:m=.join:=by
    cases q:evs ys cf fr h1 with
    | stuck=>rw [q] at k;exact k.elim
    | exc=>rw [q] at k;exact k.elim
    | ok vs h2 =>
     rw [q] at k
     cases m with
     | join=>rfl
     | _=>exact k.elim
   subst hj
   obtain ⟨t,rfl,z⟩:=ra.str_
   exact z3e hm (callWith_builtin (by simp) (yk (yh hy R I1 (V.le I L1) (k.bind0 fun vs vs' h2 μ2 s2 L2 I2 rs k=>Q1 R I2 (.str t z) rs k))))
 | _=>exact k.elim
end
noncomputable def Ze:List String:=["enumerate", "zip", "dict_itemiterator", "dict_reverseitemiterator", "odict_iterator", "itertools.zip_longest", "itertools.pairwise"]
noncomputable def q5 (h:Heap) (b:Addr):Prop:=∃ o T vs,h.get? b=some o∧o.cls=.type T∧o.data=.fields vs∧T ≠ "range"
theorem q5.notFixed {h:Heap} {b:Addr} {o:Obj} (x:q5 h b) (e:h.get? b=some o):¬ yW o:=by
 obtain ⟨o',T,vs,ho,hc,hd,hn⟩:=x
 rw [e] at ho;cases ho
 rintro (⟨q,xs,n,q'⟩ | ⟨q,_⟩)
 ·rw [hd] at q';cases q'
 ·rw [hc] at q;cases q;exact hn rfl
structure Its (X:Cx) (h0:Heap) (μ:Mu) (h:Heap) (its:List Addr):Prop where
 new:∀ b∈its,h0.get? b=none
 out:∀ b∈its,b∉ze μ
 base:∀ b∈its,X.base.get? b=none
 obj:∀ b∈its,q5 h b
noncomputable def But (its:List Addr) (s s':Shared):Prop:=(∀ b o,b∉its→s.heap.get? b=some o→s'.heap.get? b=some o)∧s'.gens=s.gens∧s'.os=s.os
section
variable {prog:Program} {w:World} {X:Cx} {G:GTab} {sc:Sc} {env:Env} {fr:AFr} {μ μ' μ₀:Mu} {hp hp':Hp} {s s' s₀:Shared} {its:List Addr} {h0:Heap} {l:List Env}
theorem But.refl:But its s s:=⟨fun _ _ _ e=>e,rfl,rfl⟩
theorem But.trans {s1 s2:Shared} (a:But its s s1) (b:But its s1 s2):But its s s2:=⟨fun x o n e=>b.1 x o n (a.1 x o n e),b.2.1.trans a.2.1,b.2.2.trans a.2.2⟩
theorem Its.fix (T:Its X h0 μ s.heap its) (a:But its s s'):∀ b o,s.heap.get? b=some o→yW o→s'.heap.get? b=some o:=fun b o e f=>a.1 b o (fun h=>(T.obj b h).notFixed e f) e
theorem Its.vrs (T:Its X h0 μ s.heap its) (a:But its s s') {x:List AV} {v:List Value} (r:VRs X μ s.heap x v):VRs X μ s'.heap x v:=r.mono (List.prefix_refl _) (T.fix a)
theorem Its.invR (T:Its X h0 μ s.heap its) (a:But its s s') (I:Inv X μ hp s):Inv X μ hp s' :=
 ⟨I.len,I.nodup,I.above,fun i q x hi hx=>(I.rep i q x hi hx).mono (List.prefix_refl _) (T.fix a) fun b hb o e=>a.1 b o (fun h=>T.out b h (yU.mpr ⟨i,q,hi,hb⟩)) e,
  fun b o e=>a.1 b o (fun h=>by have:=T.base b h;rw [e] at this;cases this) (I.keep b o e),a.2.1.trans I.gens,a.2.2.trans I.os⟩
noncomputable def Wn (o:Obj):Prop:=(∃ es n,o.data=.dict es n)∨(∃ v,o.data=.cell v)
theorem wP (V:EnvR X l sc env fr μ s.heap) {b:Addr} {o:Obj} (h:own env b) (e:s.heap.get? b=some o):Wn o:=by
 rcases h with rfl | ⟨x,hx⟩
 ·obtain ⟨m,⟨o',es,ep,ho,hd,_⟩,_⟩:=V.loc
  rw [e] at ho;cases ho;exact .inl ⟨_,_,hd⟩
 ·obtain ⟨_,cv,o',ho,hd⟩:=V.ncel x b hx
  rw [e] at ho;cases ho;exact .inr ⟨_,hd⟩
theorem EnvR.but (V:EnvR X l sc env fr μ s.heap) (kp:∀ b o,own env b→s.heap.get? b=some o→s'.heap.get? b=some o) (fx:∀ b o,s.heap.get? b=some o→yW o→s'.heap.get? b=some o) (ff:Frs X l μ s'.heap):EnvR X l sc env fr μ s'.heap:=by
 obtain ⟨m,ns,hm⟩:=V.loc
 have cellK:∀ {x:Str} {c:Addr} {cv:Option Value},env.cells.lookup x=some c→s.heap.IsCell c cv→s'.heap.IsCell c cv:=fun hx h=>by
  obtain ⟨o,ho,r⟩:=h;exact ⟨o,kp _ o (.inr ⟨_,hx⟩) ho,r⟩
 refine ⟨V.fn,V.glob,V.bltn,V.kind,⟨m,?_,fun x i v e1 e2 e3=>?_⟩,fun x i e1 e2=>?_,V.nloc,V.bloc,fun x c hc=>?_,V.bcel,V.apart,V.inj,V.wid,V.slt,ff⟩
 ·obtain ⟨o,es,ep,ho,r⟩:=ns
  exact ⟨o,es,ep,kp _ o (.inl rfl) ho,r⟩
 ·obtain ⟨v',e,r⟩:=hm x i v e1 e2 e3
  exact ⟨v',e,r.mono (List.prefix_refl _) fx⟩
 ·obtain ⟨c,cv,q1,q2,q3⟩:=V.cel x i e1 e2
  refine ⟨c,cv,q1,cellK q1 q2,fun v hv=>?_⟩
  obtain ⟨v',q,r⟩:=q3 v hv
  exact ⟨v',q,r.mono (List.prefix_refl _) fx⟩
 ·obtain ⟨n,cv,h⟩:=V.ncel x c hc
  exact ⟨n,cv,cellK hc h⟩
theorem Its.envR (T:Its X h0 μ s.heap its) (a:But its s s') (V:EnvR X l sc env fr μ s.heap):EnvR X l sc env fr μ s'.heap :=
 V.but (fun b o h e=>a.1 b o (fun q=>by
  obtain ⟨o',Tn,vs,ho,hc,hd,_⟩:=T.obj b q
  rw [e] at ho;cases ho
  rcases wP V h e with ⟨es,n,q⟩ | ⟨v,q⟩ <;> rw [hd] at q <;> cases q) e) (T.fix a) (V.frs.mono fun b o n e d=>⟨n,o,a.1 b o (fun q=>by
  obtain ⟨o',Tn,vs,ho,hc,hd,_⟩:=T.obj b q
  rw [e] at ho;cases ho
  unfold isD at d;rw [hd] at d;cases d) e,d⟩)
theorem Its.leR {S:Addr→Prop} (T:Its X s₀.heap μ s.heap its) (a:But its s s') (L:Le S μ₀ s₀ μ s):Le S μ₀ s₀ μ s':=by
 have nw:∀ b o,s₀.heap.get? b=some o→b∉its:=fun b o e h=>by have:=T.new b h;rw [e] at this;cases this
 refine ⟨L.pre,L.fresh,fun b o e=>?_,fun b o n ns e=>(L.keep b o n ns e).trans fun o' e'=>.inl (a.1 b o' (nw b o e) e')⟩
 obtain ⟨o',e'⟩:=L.exist b o e
 exact ⟨o',a.1 b o' (nw b o e) e'⟩
theorem Its.later {S:Addr→Prop} (T:Its X h0 μ s.heap its) (hS:∀ b o,S b→s.heap.get? b=some o→Wn o) (L:Le S μ s μ' s'):Its X h0 μ' s'.heap its∧∀ b∈its,s'.heap.get? b=s.heap.get? b:=by
 have kp:∀ b∈its,∀ o,s.heap.get? b=some o→s'.heap.get? b=some o:=fun b hb o e=>by
  obtain ⟨o',Tn,vs,ho,hc,hd,_⟩:=T.obj b hb
  rw [e] at ho;cases ho
  exact (L.keep b o (T.out b hb) (fun h=>by rcases hS b o h e with ⟨es,n,q⟩ | ⟨v,q⟩ <;> rw [hd] at q <;> cases q) e).exact (by unfold isD;rw [hd])
 refine ⟨⟨T.new,fun b hb h=>?_,T.base,fun b hb=>?_⟩,fun b hb=>?_⟩
 ·rcases L.fresh b h with q | q
  ·exact T.out b hb q
  ·obtain ⟨o,Tn,vs,ho,_⟩:=T.obj b hb;rw [q] at ho;exact nos ho
 ·obtain ⟨o,Tn,vs,ho,r⟩:=T.obj b hb
  exact ⟨o,Tn,vs,kp b hb o ho,r⟩
 ·obtain ⟨o,Tn,vs,ho,r⟩:=T.obj b hb
  rw [ho];exact kp b hb o ho
end
structure Drives (prog:Program) (w:World) (X:Cx) (target:Expr) (src:Src) (it:Value) (its:List Addr) (St:Nat→Mu→Heap→Prop):Prop where
 frame:∀ k μ μ' h h',St k μ h→μ <+: μ'→(∀ b∈its,∀ o,h.get? b=some o→h'.get? b=some o)→(∀ b o,h.get? b=some o→yW o→h'.get? b=some o) →
  (∀ b o,X.base.get? b=some o→h.get? b=some o∧h'.get? b=some o)→St k μ' h'
 obj:∀ k μ h,St k μ h→∀ b∈its,q5 h b
 item:∀ {A:Around} {μ:Mu} {hp:Hp} {s:Shared} {k:Nat} {x:AV} {Q:Option Value→Shared→Prop} {E E':Value→Shared→Prop} {Q':Value→Unit→Shared→Prop},A.handled=none→Inv X μ hp s→(∀ b∈its,b∉ze μ)→St k μ s.heap→src.next? hp k=some (some x) →
  (∀ v s₁,wpAny (model prog w) A (letOwnedTupleGo target it v) (Q' v) E' s₁→Q (some v) s₁) →
  (∀ v s',VR X μ s'.heap x v→But its s s'→St (k+1) μ s'.heap→Q' v () s')→wpAny (model prog w) A (pyNext it) Q E s
 done:∀ {A:Around} {μ:Mu} {hp:Hp} {s:Shared} {k:Nat} {Q:Option Value→Shared→Prop} {E:Value→Shared→Prop},A.handled=none→Inv X μ hp s→St k μ s.heap→src.next? hp k=some none →
  (∀ s',But its s s'→Q none s')→wpAny (model prog w) A (pyNext it) Q E s
 self:∀ {A:Around} {μ:Mu} {s:Shared} {k:Nat} {Q:Value→Shared→Prop} {E:Value→Shared→Prop},A.handled=none→St k μ s.heap→Q it s→wpAny (model prog w) A (pyIter it) Q E s
section
variable {prog:Program} {w:World} {X:Cx} {A:Around} {E:Value→Shared→Prop} {s:Shared}
theorem Z0 {target:Expr} {r:Addr} {v:Value} {o:Obj} {T:String} {vs:Array Value} {Q:Unit→Shared→Prop} (ho:s.heap.get? r=some o) (hc:o.cls=.type T) (hd:o.data=.fields vs) (hn:Ze.contains T=false)
  (hQ:Q () s):wpAny (model prog w) A (letOwnedTupleGo target (.ref r) v) Q E s:=by
 have go:∀ a,wpAny (model prog w) A (load r >>= fun o=>match o.cls,o.data with
  | .type n,.fields vs=>if (["enumerate", "zip", "dict_itemiterator", "dict_reverseitemiterator", "odict_iterator", "itertools.zip_longest", "itertools.pairwise"].contains n && vs[0]? == some (rawInt a))=true then do
    rule "for.unpacks-the-owned-tuple"
    updateField r 0 .none
   else pure ()
  | _,_=>pure ()) Q E s:=by
  intro a
  refine wpAny_bind (wpAny_load ho ?_)
  rw [hc,hd]
  show wpAny _ A (if _ then _ else _) Q E s
  rw [if_neg (by
   intro h
   rw [show (["enumerate", "zip", "dict_itemiterator", "dict_reverseitemiterator", "odict_iterator", "itertools.zip_longest", "itertools.pairwise"].contains T)=false from hn,Bool.false_and] at h
   cases h)]
  exact wpAny_pure hQ
 cases target with
 | Tuple=>cases v <;> first | exact go _ | exact wpAny_pure hQ
 | List=>cases v <;> first | exact go _ | exact wpAny_pure hQ
 | _=>exact wpAny_pure hQ
theorem Drives.walks {target:Expr} {it:Addr} {fp:List Addr} {P:Nat→Value→Prop} {St:Nat→Heap→Prop} {xs:List AV} (W:∀ A:Around,A.handled=none→Walks prog w A it fp [it] xs.length P St)
  (hobj:∀ k h,St k h→∃ o T vs,h.get? it=some o∧o.cls=.type T∧o.data=.fields vs∧T ≠ "range" ∧ Ze.contains T=false) :
  Drives prog w X target (.imm xs) (.ref it) [it] (fun k μ h=>k≤xs.length∧St k h∧(∀ i v,i<xs.length→P i v→∃ x,xs[i]? = some x∧VR X μ h x v)∧(∀ b∈fp,b≠it→(∃ o,X.base.get? b=some o)∨(∃ o,h.get? b=some o∧yW o))) where
 frame:=by
  rintro k μ μ' h h' ⟨hle,a,b,c⟩ hp hk hf hb
  have W0:=W {} rfl
  refine ⟨hle,W0.frame k h h' a fun x hx o e=>?_,fun i v hi hv=>?_,fun x hx hn=>?_⟩
  ·by_cases hn:x=it
   ·exact hk x (hn▸.head _) o e
   ·rcases c x hx hn with ⟨o',h1⟩ | ⟨o',h1,h2⟩
    ·obtain ⟨q1,q2⟩:=hb x o' h1
     rw [e] at q1;cases q1;exact q2
    ·rw [e] at h1;cases h1;exact hf x o e h2
  ·obtain ⟨x,e,r⟩:=b i v hi hv
   exact ⟨x,e,r.mono hp hf⟩
  ·rcases c x hx hn with h1 | ⟨o',h1,h2⟩
   ·exact .inl h1
   ·exact .inr ⟨o',hf x o' h1 h2,h2⟩
 obj:=by
  rintro k μ h ⟨_,a,_,_⟩ b hb
  simp at hb;subst hb
  obtain ⟨o,T,vs,h1,h2,h3,h4,_⟩:=hobj k h a
  exact ⟨o,T,vs,h1,h2,h3,h4⟩
 item:=by
  rintro A μ hp s k x Q E E' Q' hh I hout ⟨hle,a,b,c⟩ hx hQ hQ'
  have hx':xs[k]? = some x:=by injection hx
  refine (W A hh).item k s Q E (yL hx').1 a fun v h' tk hv st hk=>hQ v _ ?_
  obtain ⟨o,T,vs,h1,h2,h3,h4,h5⟩:=hobj _ _ st
  obtain ⟨o0,T0,vs0,g1,g2,g3,g4,g5⟩:=hobj _ _ a
  have hf:∀ b o,s.heap.get? b=some o→yW o→h'.get? b=some o:=fun b o e f=>hk b o (fun hb=>by
   simp at hb;subst hb
   exact q5.notFixed ⟨o0,T0,vs0,g1,g2,g3,g4⟩ e f) e
  refine Z0 (s:={ s with heap:=h',toks:=tk }) h1 h2 h3 h5 (hQ' v _ ?_ ⟨fun b o hb e=>hk b o hb e,rfl,rfl⟩ ⟨(yL hx').1,st,fun i u hi hu=>?_,fun y hy hn=>?_⟩)
  ·obtain ⟨x',e,r⟩:=b k v (yL hx').1 hv
   rw [hx'] at e;cases e
   exact r.mono (List.prefix_refl _) hf
  ·obtain ⟨x',e,r⟩:=b i u hi hu
   exact ⟨x',e,r.mono (List.prefix_refl _) hf⟩
  ·rcases c y hy hn with q | ⟨o',q1,q2⟩
   ·exact .inl q
   ·exact .inr ⟨o',hf y o' q1 q2,q2⟩
 done:=by
  rintro A μ hp s k Q E hh I ⟨hle,a,b,c⟩ hx hQ
  have hx':xs[k]? = none:=by injection hx
  have:k=xs.length:=Nat.le_antisymm hle (by simpa using hx')
  subst this
  exact (W A hh).done s Q E a fun h' tk hk=>hQ _ ⟨fun b o hb e=>hk b o hb e,rfl,rfl⟩
 self:=by
  rintro A μ s k Q E hh ⟨hle,a,b,c⟩ hQ
  exact (W A hh).self k s Q E a hQ
theorem ym {hp:Hp} {a k:Nat} {o:AO} {r:Option AV} (ho:hp[a]? = some o) (hx:Src.next? hp (.ref a) k=some r):∃ ys,o=.list ys∧ys[k]? = r:=by
 have hx:(match hp[a]? with
  | some (.list ys)=>some ys[k]?
  | _=>none)=some r:=hx
 rw [ho] at hx
 cases o with
 | inst=>exact nos hx
 | dict=>exact nos hx
 | list ys=>exact ⟨ys,rfl,Option.some.inj hx⟩
theorem Drives.ref {target:Expr} {it:Addr} {a:Nat}:Drives prog w X target (.ref a) (.ref it) [it] (fun k μ h=>∃ p,μ[a]? = some p∧h.IsListIter it p.1 k) where
 frame:=by
  rintro k μ μ' h h' ⟨p,e,r⟩ ⟨t,rfl⟩ hk hf hb
  exact ⟨p,by rw [List.getElem?_append_left (yL e).1];exact e,r.at fun o e=>hk it (.head _) o e⟩
 obj:=by
  rintro k μ h ⟨p,e,o,ho,hc,hd⟩ b hb
  rw [xE hb]
  exact ⟨o,_,_,ho,hc,hd,by decide⟩
 item:=by
  rintro A μ hp s k x Q E E' Q' hh I hout ⟨p,e,r⟩ hx hQ hQ'
  obtain ⟨ob,hob⟩:=I.obj e
  obtain ⟨ys,rfl,hx'⟩:=ym hob hx
  obtain ⟨c,items,n,rfl,hl,z,rs⟩:=(I.rep _ _ _ e hob).list_
  obtain ⟨v,hv,rv⟩:=rs.get hx'
  refine wpAny_pyNext_list_item r (items:=items) ⟨_,hl,rfl,_,rfl⟩ (x:=v) (by rw [← Array.getElem?_toList];exact hv) fun h' hit' hs'=>hQ _ _ ?_
  obtain ⟨o,ho,hc,hd⟩:=id hit'
  have T:q5 s.heap it:=by obtain ⟨o,ho,hc,hd⟩:=r;exact ⟨o,_,_,ho,hc,hd,by decide⟩
  refine Z0 (s:={ s with heap:=h' }) ho hc hd (by decide) (hQ' _ _ ?_ ⟨fun b o hb e=>hs'.extBut b o (fun h=>hb (h▸.head _)) e,rfl,rfl⟩ ⟨_,e,hit'⟩)
  exact rv.mono (List.prefix_refl _) fun b o e f=>hs'.extBut b o (fun h=>T.notFixed (h▸e) f) e
 done:=by
  rintro A μ hp s k Q E hh I ⟨p,e,r⟩ hx hQ
  obtain ⟨ob,hob⟩:=I.obj e
  obtain ⟨ys,rfl,hx'⟩:=ym hob hx
  obtain ⟨c,items,n,rfl,hl,z,rs⟩:=(I.rep _ _ _ e hob).list_
  exact wpAny_pyNext_list_end hh r (items:=items) ⟨_,hl,rfl,_,rfl⟩ (by rw [Array.getElem?_eq_none_iff,rs.size];exact List.getElem?_eq_none_iff.mp hx') fun h' he'=>hQ _ ⟨fun b o hb e=>he' b o (fun h=>hb (h▸.head _)) e,rfl,rfl⟩
 self:=by
  rintro A μ s k Q E hh ⟨p,e,r⟩ hQ
  exact wpAny_pyIter_listiter r hQ
theorem wn {hp:Hp} {a k:Nat} {o:AO} {r:Option AV} (ho:hp[a]? = some o) (hx:Src.next? hp (.enum a) k=some r):∃ ys,o=.list ys∧((ys[k]?).map fun x=>AV.tup [.int k,x])=r:=by
 have hx:(match hp[a]? with
  | some (.list ys)=>some ((ys[k]?).map fun x=>AV.tup [.int k,x])
  | _=>none)=some r:=hx
 rw [ho] at hx
 cases o with
 | inst=>exact nos hx
 | dict=>exact nos hx
 | list ys=>exact ⟨ys,rfl,Option.some.inj hx⟩
theorem Drives.enum {elts:List Expr} {x1:Nat} {pos:Pos} {e it:Addr} {a:Nat} (hne:e≠it):Drives prog w X (.Tuple elts x1 pos) (.enum a) (.ref e) [e,it]
  (fun k μ h=>∃ p old,μ[a]? = some p∧h.IsListIter it p.1 k∧IsEnum h e it k old) where
 frame:=by
  rintro k μ μ' h h' ⟨p,old,e,r,q⟩ ⟨t,rfl⟩ hk hf hb
  exact ⟨p,old,by rw [List.getElem?_append_left (yL e).1];exact e,r.at fun o e=>hk it (by simp) o e,hk _ (by simp) _ q⟩
 obj:=by
  rintro k μ h ⟨p,old,_,⟨o,ho,hc,hd⟩,q⟩ b hb
  simp at hb
  rcases hb with rfl | rfl
  ·exact ⟨_,_,_,q,rfl,rfl,by decide⟩
  ·exact ⟨o,_,_,ho,hc,hd,by decide⟩
 item:=by
  rintro A μ hp s k x Q E E' Q' hh I hout ⟨p,old,e0,r,q⟩ hx hQ hQ'
  obtain ⟨ob,hob⟩:=I.obj e0
  obtain ⟨ys,rfl,hx'⟩:=wn hob hx
  obtain ⟨c,items,n,rfl,hl,z,rs⟩:=(I.rep _ _ _ e0 hob).list_
  obtain ⟨y,hy,rfl⟩:=yC hx'
  obtain ⟨v,hv,rv⟩:=rs.get hy
  refine wpAny_pyNext_enum_item q r (items:=items) ⟨_,hl,rfl,_,rfl⟩ (x:=v) (by rw [← Array.getElem?_toList];exact hv) hne fun h' heo hit' ht hz hk=>hQ _ _ ?_
  have T:q5 s.heap it:=by obtain ⟨o,ho,hc,hd⟩:=r;exact ⟨o,_,_,ho,hc,hd,by decide⟩
  have Te:q5 s.heap e:=⟨_,_,_,q,rfl,rfl,by decide⟩
  refine wpAny_letOwnedTupleGo_enum (s:={ s with heap:=h',toks:=s.toks+1 }) heo fun h2 he2 hs2=>hQ' _ _ ?_ ⟨fun b o hb e=>hs2.extBut b o (fun h=>hb (by simp [h])) (hk b o (fun h=>hb (by simp [h])) (fun h=>hb (by simp [h])) e),rfl,rfl⟩ ⟨_,v,e0,hit'.extBut hs2.extBut (Ne.symm hne),he2⟩
  have nT:s.heap.objs.size≠e:=Nat.ne_of_gt (Heap.lt_size q)
  refine .tup (items:=#[.int k s.toks,v]) ⟨_,hs2.extBut _ _ nT ht,rfl,_,rfl⟩ (by rw [wL];simp) (.cons (.int _ _) (.cons ?_ .nil))
  exact rv.mono (List.prefix_refl _) fun b o e f=>hs2.extBut b o (fun h=>Te.notFixed (h▸e) f) (hk b o (fun h=>Te.notFixed (h▸e) f) (fun h=>T.notFixed (h▸e) f) e)
 done:=by
  rintro A μ hp s k Q E hh I ⟨p,old,e0,r,q⟩ hx hQ
  obtain ⟨ob,hob⟩:=I.obj e0
  obtain ⟨ys,rfl,hx'⟩:=wn hob hx
  obtain ⟨c,items,n,rfl,hl,z,rs⟩:=(I.rep _ _ _ e0 hob).list_
  exact wpAny_pyNext_enum_end hh q r (items:=items) ⟨_,hl,rfl,_,rfl⟩ (by rw [Array.getElem?_eq_none_iff,rs.size];exact List.getElem?_eq_none_iff.mp (Option.map_eq_none_iff.mp hx')) fun h' he'=>hQ _ ⟨fun b o hb e=>he' b o (fun h=>hb (by simp [h])) e,rfl,rfl⟩
 self:=by
  rintro A μ s k Q E hh ⟨p,old,e0,r,q⟩ hQ
  exact wpAny_pyIter_enum q hQ
theorem jY {μ:Mu} {hp:Hp} (I:Inv X μ hp s) {o:Obj} (T:q5 (s.heap.push o) s.heap.objs.size):Its X s.heap μ (s.heap.push o) [s.heap.objs.size] where
 new:=fun b hb=>by rw [xE hb];exact qN _
 out:=fun b hb h=>by
  rw [xE hb] at h
  obtain ⟨o',e,_⟩:=I.mut h
  rw [qN] at e;exact nos e
 base:=fun b hb=>by
  rw [xE hb]
  cases e:X.base.get? s.heap.objs.size with
  | none=>rfl
  | some o'=>have:=I.keep _ _ e;rw [qN] at this;exact nos this
 obj:=fun b hb=>by rw [xE hb];exact T
theorem jI {μ:Mu} {hp:Hp} {v:AV} {c:Value} {src:Src} {n:Nat} {target:Expr} {Q:Value→Shared→Prop} (e:xC hp v=some (src,n)) (I:Inv X μ hp s) (r:VR X μ s.heap v c)
  (hQ:∀ it its St s',Drives prog w X target src it its St→Its X s.heap μ s'.heap its→St 0 μ s'.heap→But [] s s'→Q it s'):wpAny (model prog w) A (pyIter c) Q E s:=by
 have pk:∀ o,But [] s { s with heap:=s.heap.push o }:=fun o=>⟨fun b ob _ e=>Heap.get?_push_of_some _ e,rfl,rfl⟩
 have ff:∀ (o:Obj) {x:AV} {v:Value},VR X μ s.heap x v→VR X μ (s.heap.push o) x v:=fun o x v r=>r.mono (List.prefix_refl _) fun b ob e _=>Heap.get?_push_of_some _ e
 cases v with
 | ref a =>
  obtain ⟨p,h1,rfl⟩:=r.ref_
  obtain ⟨ob,hob⟩:=I.obj h1
  have e:(match hp[a]? with
   | some (.list xs)=>some (Src.ref a,xs.length)
   | _=>none)=some (src,n):=e
  rw [hob] at e
  cases ob with
  | inst=>exact nos e
  | dict=>exact nos e
  | list xs =>
   obtain ⟨c,items,n,rfl,hl,z,rs⟩:=(I.rep _ _ _ h1 hob).list_
   cases e
   have hit:(s.heap.push { cls:=.type "list_iterator",data:=.fields #[.ref c,.int 0 0] }).IsListIter s.heap.objs.size c 0:=⟨_,Heap.get?_push_size _ rfl,rfl,rfl⟩
   exact wpAny_pyIter_list ⟨_,hl,rfl,_,rfl⟩ (hQ _ _ _ _ .ref (jY I ⟨_,_,_,Heap.get?_push_size _ rfl,rfl,rfl,by decide⟩) ⟨_,h1,hit⟩ (pk _))
 | tup xs =>
  obtain ⟨c,items,rfl,ht,z,rs⟩:=r.tup_
  cases e
  have l:=rs.size
  have hne:c≠s.heap.objs.size:=by obtain ⟨o,ho,_⟩:=ht;exact Nat.ne_of_lt (Heap.lt_size ho)
  refine wpAny_pyIter_tuple ht (hQ _ _ _ _ (Drives.walks (target:=target) (xs:=xs) (fun A hh=>l▸Walks.tuple hh s.heap.objs.size c hne items) (fun k h st=>?_)) (jY I ⟨_,_,_,Heap.get?_push_size _ rfl,rfl,rfl,by decide⟩) ⟨Nat.zero_le _,⟨⟨_,Heap.get?_push_size _ rfl,rfl,rfl⟩,ht.push _⟩,fun i v hi hv=>?_,fun b hb hn=>?_⟩ (pk _))
  ·obtain ⟨⟨o,ho,hc,hd⟩,_⟩:=st
   exact ⟨o,_,_,ho,hc,hd,by decide,by decide⟩
  ·have hlt:i<xs.length:=by rw [← l];exact (Array.getElem?_eq_some_iff.mp hv).1
   obtain ⟨v',e1,e2⟩:=rs.get (y6 hlt)
   rw [Array.getElem?_toList,hv] at e1;cases e1
   exact ⟨_,y6 hlt,ff _ e2⟩
  ·rcases List.mem_cons.mp hb with rfl | hb
   ·exact absurd rfl hn
   ·rw [xE hb]
    obtain ⟨o,ho,hc,m,hd⟩:=ht
    exact .inr ⟨o,Heap.get?_push_of_some _ ho,.inl ⟨hc,_,_,hd⟩⟩
 | range a b =>
  obtain ⟨c,t,u,v',rfl,h1,h2,h3⟩:=r.range_
  cases e
  have sz:=Za a b
  have hs:=Xs h2 h3
  have ln:=Qt a b
  refine wpAny_pyIter_range h1 hs (hQ _ _ _ _ (Drives.walks (target:=target) (xs:=qp a b) (fun A hh=>Walks.range hh s.heap.objs.size a 1 (qp a b).length) (fun k h st=>?_)) (jY I ⟨_,_,_,Heap.get?_push_size _ rfl,rfl,rfl,by decide⟩) ⟨Nat.zero_le _,?_,fun i v hi hv=>?_,fun b hb hn=>?_⟩ (pk _))
  ·exact ⟨_,_,_,st,rfl,rfl,by decide,by decide⟩
  ·rw [ln,sz]
   have:=Heap.get?_push_size s.heap (o:={ cls:=.type "range_iterator",data:=.fields #[rawInt a,rawInt ((b - a).toNat:Int),rawInt 1] }) rfl
   simpa using this
  ·obtain ⟨t,rfl⟩:=hv
   refine ⟨.int (a+(i:Int)),?_,by simpa using VR.int _ _⟩
   rw [ln] at hi
   simp [qp,hi]
  ·exact absurd (xE hb) hn
 | str x =>
  obtain ⟨t,rfl,z⟩:=r.str_
  cases e
  have ln:(jM x).length=x.cps.size:=by simp [jM]
  have sg:∀ (h:Heap) (i:Nat) (v:Value),SignAt x i v→∃ y,(jM x)[i]? = some y∧VR X μ h y v:=by
   rintro h i v ⟨c,u,h1,rfl⟩
   refine ⟨.str ⟨#[c]⟩,?_,.str _ (by rw [wL];simp [Str.length])⟩
   simp [jM,h1]
  cases ha:x.cps.all (·<128)
  ·refine wpAny_pyIter_wide ha (hQ _ _ _ _ (Drives.walks (target:=target) (xs:=jM x) (fun A hh=>ln▸Walks.strWide hh s.heap.objs.size x t) (fun k h st=>?_)) (jY I ⟨_,_,_,Heap.get?_push_size _ rfl,rfl,rfl,by decide⟩)
    ⟨Nat.zero_le _,⟨_,Heap.get?_push_size _ rfl,rfl,rfl⟩,fun i v _=>sg _ i v,fun b hb hn=>?_⟩ (pk _))
   ·obtain ⟨o,ho,hc,hd⟩:=st
    exact ⟨o,_,_,ho,hc,hd,by decide,by decide⟩
   ·exact absurd (xE hb) hn
  ·refine wpAny_pyIter_ascii ha (hQ _ _ _ _ (Drives.walks (target:=target) (xs:=jM x) (fun A hh=>ln▸Walks.strAscii hh s.heap.objs.size x t) (fun k h st=>?_)) (jY I ⟨_,_,_,Heap.get?_push_size _ rfl,rfl,rfl,by decide⟩)
    ⟨Nat.zero_le _,⟨_,Heap.get?_push_size _ rfl,rfl,rfl⟩,fun i v _=>sg _ i v,fun b hb hn=>?_⟩ (pk _))
   ·obtain ⟨o,ho,hc,hd⟩:=st
    exact ⟨o,_,_,ho,hc,hd,by decide,by decide⟩
   ·exact absurd (xE hb) hn
 | _=>exact nos e
end
section
variable {prog:Program} {w:World} {X:Cx} {A:Around} {E:Value→Shared→Prop} {s s':Shared} {sc:Sc} {env:Env} {fr fr':AFr} {μ μ':Mu} {hp:Hp} {cb:Bool} {l:List Env}
theorem ja {x:Str} {i:Nat} (h:sc.isOwn x=some i):(sc.kind x=some .local∨sc.kind x=some .cell)∧sc.slot x=some i:=by
 cases q:sc.kind x with
 | none=>unfold Sc.isOwn at h;rw [q] at h;exact nos h
 | some k =>
  unfold Sc.isOwn at h
  rw [q] at h
  cases k with
  | «local» => exact ⟨.inl rfl,h⟩
  | cell=>exact ⟨.inr rfl,h⟩
  | _=>exact nos h
theorem Le.fixOwn (V:EnvR X l sc env fr μ s.heap) (I:Inv X μ hp s) (L:Le (Zf cb env) μ s μ' s'):∀ b o,s.heap.get? b=some o→yW o→s'.heap.get? b=some o :=
 L.fixed I fun b o h e=>yV V b o (xi h) e
theorem X3 {i:Nat} {is:List Nat} {vs:List AV} {fr fr':AFr} (e:yx (i::is) vs fr=some fr'):∃ v ws,vs=v::ws∧i<fr.length∧yx is ws (fr.set i (some v))=some fr':=by
 cases vs with
 | nil=>exact nos e
 | cons v ws =>
  obtain ⟨h,e⟩:=XK (show (if i<fr.length then yx is ws (fr.set i (some v)) else none)=some fr' from e)
  exact ⟨v,ws,rfl,h,e⟩
theorem Z3 {e:Expr} {i:Nat} (h:qW sc e=some i):∃ x p,e=.Name x p∧sc.isOwn x=some i:=by
 cases e with
 | Name x p=>exact ⟨x,p,rfl,h⟩
 | _=>exact nos h
theorem Z2 {Q:Unit→Shared→Prop} {es:List Expr}:∀ {is:List Nat} {vs:List AV} {vs':List Value} {fr:AFr} {s:Shared},yI (qW sc) es=some is→yx is vs fr=some fr' →
  (∀ x p,Expr.Name x p∈es→sc.kind x=some .cell→cb=true)→Inv X μ hp s→EnvR X l sc env fr μ s.heap→VRs X μ s.heap vs vs' →
  (∀ s',Le (Zf cb env) μ s μ s'→Inv X μ hp s'→EnvR X l sc env fr' μ s'.heap→Q () s')→wpAny (model prog w) A (assignInOrder ((assignEach es env).map (·.2)) vs') Q E s:=by
 induction es with
 | nil =>
  intro is vs vs' fr s e1 e2 hc I V r k
  cases e1
  cases vs with
  | cons=>exact nos e2
  | nil =>
  cases e2
  rw [r.nil_]
  show wpAny _ _ (pure ()) _ _ _
  exact wpAny_pure (k s .refl I V)
 | cons e es ih =>
  intro is vs vs' fr s e1 e2 hc I V r k
  obtain ⟨i,is',h1,h2,rfl⟩:=qh e1
  obtain ⟨v,ws,rfl,hi,e3⟩:=X3 e2
  obtain ⟨u,us,rfl,rv,rs⟩:=r.cons_
  obtain ⟨x,p,rfl,ho⟩:=Z3 h1
  obtain ⟨hk,hs⟩:=ja ho
  refine PyProof.Rows.assignInOrder_cons (ts:=(assignEach es env).map (·.2)) ?_
  show wpAny _ _ (assign (.Name x p) env _) _ _ _
  rw [PySem.assign_Name]
  refine wpAny_bind (wpAny_standAt (jN I V hk (hc x p (.head _)) hs hi rv fun s1 L1 I1 V1=>?_))
  exact ih h2 e3 (fun x p h=>hc x p (.tail _ h)) I1 V1 (rs.mono (List.prefix_refl _) (L1.fixOwn V I)) fun s2 L2 I2 V2=>k s2 (L1.trans L2) I2 V2
theorem wg {es:List Expr}:∀ {is:List Nat},yI (qW sc) es=some is→(assignEach es env).length=is.length∧(assignEach es env).findIdx? (·.1)=none:=by
 induction es with
 | nil=>intro is h;cases h;exact ⟨rfl,rfl⟩
 | cons e es ih =>
  intro is h
  obtain ⟨i,is',h1,h2,rfl⟩:=qh h
  obtain ⟨x,p,rfl,ho⟩:=Z3 h1
  obtain ⟨a,b⟩:=ih h2
  refine ⟨congrArg (·+1) a,?_⟩
  show List.findIdx? (·.1) ((false,assign (.Name x p) env)::assignEach es env)=none
  rw [List.findIdx?_cons,b];rfl
theorem ZY {is:List Nat}:∀ {vs:List AV} {fr fr':AFr},yx is vs fr=some fr'→is.length=vs.length:=by
 induction is with
 | nil =>
  intro vs fr fr' h
  cases vs with
  | nil=>rfl
  | cons=>exact nos h
 | cons i is ih =>
  intro vs fr fr' h
  obtain ⟨v,ws,rfl,hi,e⟩:=X3 h
  exact congrArg (·+1) (ih e)
theorem xU {target:Expr} {t:NTgt} {v:AV} {v':Value} {Q:Unit→Shared→Prop} (ht:xu sc target=some t) (hb:t.bind v fr=some fr') (hh:A.handled=none)
  (hc:cb=false→∀ x p,(target=.Name x p∨∃ es k q,target=.Tuple es k q∧Expr.Name x p∈es)→sc.kind x=some .local) (I:Inv X μ hp s) (V:EnvR X l sc env fr μ s.heap) (r:VR X μ s.heap v v')
  (k:∀ s',Le (Zf cb env) μ s μ s'→Inv X μ hp s'→EnvR X l sc env fr' μ s'.heap→Q () s'):wpAny (model prog w) A (assign target env v') Q E s:=by
 have hc':∀ x p,(target=.Name x p∨∃ es k q,target=.Tuple es k q∧Expr.Name x p∈es)→sc.kind x=some .cell→cb=true:=fun x p h hk=>by
  cases cb with
  | true=>rfl
  | false=>rw [hc rfl x p h] at hk;cases hk
 cases target with
 | Name x p =>
  obtain ⟨i,hi,rfl⟩:=yC ht
  obtain ⟨hk,hs⟩:=ja hi
  obtain ⟨u,ws,e,hl,e2⟩:=X3 hb
  cases e
  cases e2
  rw [PySem.assign_Name]
  exact wpAny_bind (wpAny_standAt (jN I V hk (hc' x p (.inl rfl)) hs hl r k))
 | Tuple es kk p =>
  have ht:(match yI (qW sc) es with
   | some is=>if is.length≤10∧is.Nodup then some (NTgt.many is) else none
   | none=>none)=some t:=ht
  cases hi:yI (qW sc) es with
  | none=>rw [hi] at ht;exact nos ht
  | some is =>
   rw [hi] at ht
   obtain ⟨_,rfl⟩:=zb ht
   cases v with
   | tup xs =>
    have hb:yx is xs fr=some fr':=hb
    obtain ⟨c,items,rfl,h1,z,rs⟩:=r.tup_
    obtain ⟨l1,l2⟩:=wg (env:=env) hi
    have l3:=ZY hb
    refine wpAny_assign_Tuple hh h1 (by rw [rs.size,l1,l3]) l2 fun h' he=>?_
    have kp:∀ b o,s.heap.get? b=some o→h'.get? b=some o:=fun b o e=>he b o (Nat.ne_of_lt (Heap.lt_size e)) e
    have L0:Le (Zf cb env) μ s μ { s with heap:=h' }:=.ofKeep kp
    exact Z2 hi hb (fun x p h=>hc' x p (.inr ⟨_,_,_,rfl,h⟩)) (I.grow (t:=s.toks) kp) (V.le I (.ofKeep kp)) (rs.mono (List.prefix_refl _) fun b o e _=>kp b o e) fun s2 L2 I2 V2=>k s2 (L0.trans L2) I2 V2
   | _=>exact nos hb
 | _=>exact nos ht
end
theorem jL (env:Env):∀ (names:List (Str×NameKind)) (cs:List (Str×Addr)),(∀ p∈names,p.2=.free→∃ c,env.cells.lookup p.1=some c)→(∀ x c,cs.lookup x=some c→env.cells.lookup x=some c) →
  ∃ cl,(forIn names cs fun (p:Str×NameKind) (r:List (Str×Addr))=>if (p.2 == .free)=true then do let a ← cellOf env p.1;pure (ForInStep.yield ((p.1,a)::r)) else pure (ForInStep.yield r):Sem (List (Str×Addr)))=pure cl ∧
   (∀ x c,cl.lookup x=some c→env.cells.lookup x=some c)∧(∀ p∈names,p.2=.free→∃ c,cl.lookup p.1=some c)∧(∀ x,(∃ c,cs.lookup x=some c)→∃ c,cl.lookup x=some c)
 | [],cs,_,h=>⟨cs,by rw [List.forIn_nil],h,fun _ h=>(nomatch h),fun _ h=>h⟩
 | (n,k)::r,cs,h1,h2=>by
  rw [List.forIn_cons]
  by_cases hk:k=.free
  ·subst hk
   obtain ⟨c,hc⟩:=h1 (n,.free) (.head _) rfl
   have hn:∀ x c',List.lookup x ((n,c)::cs)=some c'→env.cells.lookup x=some c':=fun x c' h=>by
    rw [List.lookup_cons] at h
    split at h
    ·rename_i e;cases h;rw [eq_of_beq e];exact hc
    ·exact h2 x c' h
   obtain ⟨cl,e,a,b,d⟩:=jL env r ((n,c)::cs) (fun p hp=>h1 p (.tail _ hp)) hn
   refine ⟨cl,?_,a,fun p hp hf=>?_,fun x ⟨c',hx⟩=>d x ?_⟩
   ·rw [← e]
    have:cellOf env n=pure c:=by unfold cellOf;rw [hc]
    simp [this]
   ·cases hp with
    | head=>exact d n ⟨c,by simp⟩
    | tail _ hp=>exact b p hp hf
   ·rw [List.lookup_cons]
    split
    ·exact ⟨_,rfl⟩
    ·exact ⟨c',hx⟩
  ·obtain ⟨cl,e,a,b,d⟩:=jL env r cs (fun p hp=>h1 p (.tail _ hp)) h2
   refine ⟨cl,?_,a,fun p hp hf=>?_,d⟩
   ·rw [← e]
    have:(k == NameKind.free)=false:=by simpa using hk
    simp [this]
   ·cases hp with
    | head=>exact absurd hf hk
    | tail _ hp=>exact b p hp hf
theorem Y3 {scope:Scope} {env:Env} (h:∀ p∈scope.names,p.2=.free→∃ c,env.cells.lookup p.1=some c) :
  ∃ cl,closureFor scope env=pure cl∧(∀ x c,cl.lookup x=some c→env.cells.lookup x=some c)∧(∀ p∈scope.names,p.2=.free→∃ c,cl.lookup p.1=some c):=by
 obtain ⟨cl,e,a,b,_⟩:=jL env scope.names [] h (fun _ _ h=>by cases h)
 refine ⟨cl,?_,a,b⟩
 rw [← bind_pure (pure cl),← e]
 simp only [closureFor]
theorem Zp {s:Scope} {env:Env} (he:env.scope.kind=.function) (x:Str):(relabel s env).names.lookup x=(match s.names.lookup x with
  | some .free=>if env.kindOf x == some .cell then some .cell else some .free
  | o=>o):=by
 unfold relabel
 dsimp only
 induction s.names with
 | nil=>rfl
 | cons p r ih =>
  obtain ⟨n,k⟩:=p
  rw [List.map_cons]
  by_cases hx:x=n
  ·subst hx
   cases k <;> by_cases hc:env.kindOf x=some .cell <;> simp [he,hc]
  ·have hb:(x == n)=false:=by simpa using hx
   have e1:List.lookup x ((n,k)::r)=List.lookup x r:=by rw [List.lookup_cons,hb]
   rw [e1,← ih]
   dsimp only
   split
   ·rw [List.lookup_cons,hb]
   ·rw [List.lookup_cons,hb]
theorem Zs {x:Str}:∀ {ys:List Str} {k i:Nat},jc x ys k=some i→k≤i∧i<k+ys.length∧ys[i - k]? = some x
 | [],_,_,h=>by cases h
 | y::ys,k,i,h=>by
  have h:(if (y == x)=true then some k else jc x ys (k+1))=some i:=h
  by_cases e:(y == x)=true
  ·rw [if_pos e] at h
   cases h
   exact ⟨Nat.le_refl _,by simp,by simpa using eq_of_beq e⟩
  ·rw [if_neg e] at h
   obtain ⟨a,b,c⟩:=Zs h
   refine ⟨by lia,by simp;lia,?_⟩
   have:i - k=(i - (k+1))+1:=by lia
   rw [this,List.getElem?_cons_succ];exact c
section
variable {prog:Program} {w:World} {X:Cx} {A:Around} {E:Value→Shared→Prop} {s s':Shared} {sc:Sc} {env:Env} {fr fr':AFr} {μ μ':Mu} {hp:Hp} {cb:Bool} {l:List Env}
theorem xB {sp:Scope} (h:qO sc sp=true):sp.kind=.function∧(∀ p∈sp.names,p.2=.local∨(p.2=.free∧(sc.kind p.1=some .cell∨sc.kind p.1=some .free)∧∃ i,sc.slot p.1=some i)∨p.2=.globalImplicit)∧(sp.names.map (·.1)).Nodup:=by
 unfold qO at h
 simp only [Bool.and_eq_true,decide_eq_true_eq,List.all_eq_true,Bool.or_eq_true,beq_iff_eq,Option.isSome_iff_exists] at h
 obtain ⟨⟨a,b⟩,c⟩:=h
 refine ⟨a,fun p hp=>?_,c⟩
 rcases b p hp with (h | ⟨⟨h1,h2⟩,h3⟩) | h
 ·exact .inl h
 ·exact .inr (.inl ⟨h1,h2,h3⟩)
 ·exact .inr (.inr h)
theorem Zl {α β:Type} [BEq α] [LawfulBEq α] {x:α} {b:β}:∀ {l:List (α×β)},(l.map (·.1)).Nodup→(x,b)∈l→l.lookup x=some b
 | [],_,h=>by cases h
 | (y,c)::r,nd,h=>by
  rw [List.map_cons,List.nodup_cons] at nd
  rw [List.lookup_cons]
  cases h with
  | head=>simp
  | tail _ h =>
   have:(x == y)=false:=by
    simp only [beq_eq_false_iff_ne,ne_eq]
    rintro rfl
    exact nd.1 (List.mem_map.mpr ⟨_,h,rfl⟩)
   rw [this];exact Zl nd.2 h
theorem J7 {sp:Scope} {cl:List (Str×Addr)} {C:Addr} (ok:qO sc sp=true) (V:EnvR X l sc env fr μ s.heap) (hcl:∀ x c,cl.lookup x=some c→env.cells.lookup x=some c)
  (hcl':∀ p∈sp.names,p.2=.free→∃ c,cl.lookup p.1=some c) (ns:s.heap.Ns C (fun _=>none)) (hC:C∉ze μ) (hB:X.base.get? C=none) :
  EnvR X l (sc.inner sp) (compEnvC sp cl C env) (fr++List.replicate (zr sp).length none) μ s.heap:=by
 obtain ⟨ok1,ok2,ok3⟩:=xB ok
 have kd:∀ x,(sc.inner sp).kind x=(compEnvC sp cl C env).kindOf x:=fun x=>by
  show (match sp.names.lookup x with
   | some .free=>if sc.kind x == some .cell then some .cell else some .free
   | o=>o)=(relabel sp env).names.lookup x
  rw [Zp V.fn,V.kind]
 have locK:∀ x,(sc.inner sp).kind x=some .local→sp.names.lookup x=some .local:=fun x h=>by
  have h:(match sp.names.lookup x with
   | some .free=>if sc.kind x == some .cell then some .cell else some .free
   | o=>o)=some .local:=h
  cases q:sp.names.lookup x with
  | none=>rw [q] at h;exact nos h
  | some k =>
   rw [q] at h
   cases k with
   | «local» => rfl
   | free =>
    dsimp only at h
    by_cases z:(sc.kind x == some .cell)=true
    ·rw [if_pos z] at h;cases h
    ·rw [if_neg z] at h;cases h
   | _=>cases h
 have celK:∀ x,((sc.inner sp).kind x=some .cell∨(sc.inner sp).kind x=some .free)→sp.names.lookup x=some .free:=fun x h=>by
  have h:(match sp.names.lookup x with
   | some .free=>if sc.kind x == some .cell then some .cell else some .free
   | o=>o)=some .cell∨(match sp.names.lookup x with
   | some .free=>if sc.kind x == some .cell then some .cell else some .free
   | o=>o)=some .free:=h
  cases q:sp.names.lookup x with
  | none=>rw [q] at h;rcases h with h | h <;> exact nos h
  | some k =>
   cases k with
   | free=>rfl
   | cell=>rcases ok2 _ (qK q) with h | ⟨h,_⟩ | h <;> cases h
   | _=>rw [q] at h;rcases h with h | h <;> cases h
 have slotL:∀ x i,sp.names.lookup x=some .local→(sc.inner sp).slot x=some i→sc.width≤i∧i<sc.width+(zr sp).length∧(zr sp)[i - sc.width]? = some x:=fun x i e h=>by
  have h:(match sp.names.lookup x with
   | some .local=>jc x (zr sp) sc.width
   | some .free=>(match sc.kind x with
    | some .cell | some .free=>sc.slot x
    | _=>none)
   | _=>none)=some i:=h
  rw [e] at h
  exact Zs h
 have slotF:∀ x i,sp.names.lookup x=some .free→(sc.inner sp).slot x=some i→(sc.kind x=some .cell∨sc.kind x=some .free)∧sc.slot x=some i:=fun x i e h=>by
  have h:(match sp.names.lookup x with
   | some .local=>jc x (zr sp) sc.width
   | some .free=>(match sc.kind x with
    | some .cell | some .free=>sc.slot x
    | _=>none)
   | _=>none)=some i:=h
  rw [e] at h
  dsimp only at h
  cases q:sc.kind x with
  | none=>rw [q] at h;exact nos h
  | some k =>
   rw [q] at h
   cases k with
   | cell=>exact ⟨.inl rfl,h⟩
   | free=>exact ⟨.inr rfl,h⟩
   | _=>exact nos h
 have slotK:∀ x i,(sc.inner sp).slot x=some i→sp.names.lookup x=some .local∨sp.names.lookup x=some .free:=fun x i h=>by
  have h:(match sp.names.lookup x with
   | some .local=>jc x (zr sp) sc.width
   | some .free=>(match sc.kind x with
    | some .cell | some .free=>sc.slot x
    | _=>none)
   | _=>none)=some i:=h
  cases q:sp.names.lookup x with
  | none=>rw [q] at h;exact nos h
  | some k =>
   rw [q] at h
   cases k with
   | «local» => exact .inl rfl
   | free=>exact .inr rfl
   | _=>exact nos h
 refine ⟨ok1,V.glob,V.bltn,kd,⟨_,ns,fun x i v h1 h2 h3=>?_⟩,fun x i h1 h2=>?_,hC,hB,fun x c hc=>V.ncel x c (hcl x c hc),fun x c hc=>V.bcel x c (hcl x c hc),fun x y c h1 h2=>V.apart x y c (hcl _ _ h1) (hcl _ _ h2),fun x y i h1 h2=>?_,?_,fun x i h=>?_,V.frs⟩
 ·obtain ⟨a,b,_⟩:=slotL x i (locK x h1) h2
  rw [List.getElem?_append_right (by rw [V.wid];exact a),List.getElem?_replicate] at h3
  split at h3 <;> cases h3
 ·have hf:=celK x h1
  obtain ⟨k1,k2⟩:=slotF x i hf h2
  obtain ⟨c,cv,q1,q2,q3⟩:=V.cel x i k1 k2
  obtain ⟨c',hc'⟩:=hcl' _ (qK hf) rfl
  have:=hcl _ _ hc'
  dsimp only at this hc'
  rw [q1] at this;cases this
  refine ⟨c,cv,hc',q2,fun v hv=>q3 v ?_⟩
  rwa [List.getElem?_append_left (by rw [V.wid];exact V.slt x i k2)] at hv
 ·rcases slotK x i h1 with e1 | e1 <;> rcases slotK y i h2 with e2 | e2
  ·obtain ⟨_,_,c1⟩:=slotL x i e1 h1
   obtain ⟨_,_,c2⟩:=slotL y i e2 h2
   rw [c1] at c2;cases c2;rfl
  ·obtain ⟨a1,_⟩:=slotL x i e1 h1
   have:=V.slt y i (slotF y i e2 h2).2
   lia
  ·obtain ⟨a1,_⟩:=slotL y i e2 h2
   have:=V.slt x i (slotF x i e1 h1).2
   lia
  ·exact V.inj x y i (slotF x i e1 h1).2 (slotF y i e2 h2).2
 ·show _=sc.width+(zr sp).length
  rw [zU,List.length_replicate,V.wid]
 ·show i<sc.width+(zr sp).length
  rcases slotK x i h with e | e
  ·exact (slotL x i e h).2.1
  ·have:=V.slt x i (slotF x i e h).2;lia
end
section
variable {prog:Program} {w:World} {A:Around} {E:Value→Shared→Prop} {s:Shared}
theorem JI {elt target iter:Expr} {ifs:List Expr} {scope:Scope} {pos:Pos} {it acc:Value} {env:Env} {R:Result→Shared→Prop} (I:Nat→Shared→Prop)
  (turn:∀ n s,I n s→wpAny (model prog w) A (pyNext it) (fun r s₁=>match r with
   | none=>R (.ok .next) s₁
   | some v=>wpAny (model prog w) A (letOwnedTupleGo target it v) (fun _ s₀=>wpAny (model prog w) A (assign target env v) (fun _ s₂ =>
     wpAny (model prog w) A (forIn ifs true fun c r=>if r=true then do let ok ← isTrue c env (eval c env);pure (ForInStep.yield ok) else pure (ForInStep.yield r)) (fun ok s₃=>if ok=true then wpAny (model prog w) A (eval elt env) (fun x s₄ =>
      wpAny (model prog w) A (call (.builtin "list.append") [acc,x]) (fun _ s₅=>∃ m,m<n∧I m s₅) (notedBy (model prog w) A env fun e s'=>R (.error e) s') s₄) (notedBy (model prog w) A env fun e s'=>R (.error e) s') s₃
      else ∃ m,m<n∧I m s₃) (notedBy (model prog w) A env fun e s'=>R (.error e) s') s₂)
     (notedBy (model prog w) A env fun e s'=>R (.error e) s') s₀) (notedBy (model prog w) A env fun e s'=>R (.error e) s') s₁) (notedBy (model prog w) A env fun e s'=>R (.error e) s') s)
  (n:Nat) (h:I n s):codeAny (model prog w) A (.compLoop (.ListComp elt [⟨target,iter,ifs,0⟩] scope pos) 0 it acc env) R s:=by
 refine codeAny_loop rfl I (fun n s hI=>?_) n h
 show wpAny _ A ((compTurn (.ListComp elt [⟨target,iter,ifs,0⟩] scope pos) 0 it acc env).onRaise (fun x=>do noteFrame x env;theTreesLotGoes x)) _ _ s
 refine wpAny_noted ?_
 rw [compTurn_list]
 refine wpAny_bind (wpAny_standAt (wpAny_bind (wpAny_mono (turn n s hI) (fun r s₁ h₁=>?_) fun _ _ h'=>h')))
 cases r with
 | none=>exact wpAny_pure h₁
 | some v =>
  refine wpAny_bind (wpAny_mono h₁ (fun _ s₀ h₀'=>?_) fun _ _ h'=>h')
  refine wpAny_bind (wpAny_mono h₀' (fun _ s₂ h₂=>?_) fun _ _ h'=>h')
  refine wpAny_bind (wpAny_mono h₂ (fun okb s₃ h₃=>?_) fun _ _ h'=>h')
  cases okb with
  | false=>exact wpAny_pure ⟨rfl,h₃⟩
  | true=>exact wpAny_bind (wpAny_bind (wpAny_mono h₃ (fun x s₄ h₄=>wpAny_bind (wpAny_mono h₄ (fun _ s₅ h₅=>wpAny_pure (wpAny_pure ⟨rfl,h₅⟩)) fun _ _ h'=>h')) fun _ _ h'=>h'))
theorem jw {env:Env} {Q:Bool→Shared→Prop} (h:Q false s):∀ (ifs:List Expr),
  wpAny (model prog w) A (forIn ifs false fun c r=>if r=true then do let ok ← isTrue c env (eval c env);pure (ForInStep.yield ok) else pure (ForInStep.yield r)) Q E s
 | []=>wpAny_pure h
 | c::r=>by
  rw [List.forIn_cons]
  exact wpAny_bind (wpAny_pure (jw h r))
end
theorem Out.bind0_ok_of {α β:Type} {o:Out α} {k:α→Hp→Out β} {b:β} {h':Hp} (e:o.bind0 k=.ok b h'):∃ a h,o=.ok a h∧k a h=.ok b h':=by
 cases o with
 | ok a h=>exact ⟨a,h,rfl,e⟩
 | _=>exact nok e
section
variable {prog:Program} {w:World} {X:Cx} {G:GTab} {n:Nat} {cf:CF} {sc:Sc} {env:Env}
theorem PG.okT {l:List Env} {μ:Mu} {s:Shared} {o:Out Bool} {b:Bool} {hp':Hp} {Q:Bool→Shared→Prop} {E:Value→Shared→Prop} (e:o=.ok b hp') (h:∀ μ' s',Le noS μ s μ' s'→Inv X μ' hp' s'→Q b s'):PT X l μ s o Q E:=by
 rw [e];exact fun b' μ' s' L I r=>r▸h μ' s' L I
theorem PG.okE {l:List Env} {μ:Mu} {s:Shared} {o:Out AV} {v:AV} {hp':Hp} {Q:Value→Shared→Prop} {E:Value→Shared→Prop} (e:o=.ok v hp') (h:PE X μ s v hp' Q):PO X l μ s o Q E:=by
 rw [e];exact h
theorem wI:∀ {ifs:List Expr} {ts:List XT},SndTs prog w X n cf sc env (ifs.map fun c=>isTrue c env (eval c env)) ts →
  wG prog w X n cf sc env (forIn ifs true fun c r=>if r=true then do let ok ← isTrue c env (eval c env);pure (ForInStep.yield ok) else pure (ForInStep.yield r)) (zT .And ts)
 | [],ts,h=>by
  cases h
  exact fun _ I _ k=>wpAny_pure (k _ _ _ .refl I rfl)
 | c::ifs,ts,h=>by
  intro R I V k
  cases h with | cons ht h=>?_
  rw [List.forIn_cons]
  refine wpAny_bind (wpAny_bind (ht R I V (k.bind fun b1 b1' h1 μ1 s1 L1 I1 e k=>wpAny_pure ?_)))
  cases e
  cases b1 with
  | false=>exact jw (k _ μ1 s1 .refl I1 rfl) _
  | true=>exact wI h R I1 (V.le I L1) k
theorem Le.fresh1 {S:Addr→Prop} {μ μ' μ'':Mu} {s s' s'':Shared} (L:Le noS μ s μ' s') (L2:Le S μ' s' μ'' s'') (h:∀ b,S b→s.heap.get? b=none):Le noS μ s μ'' s'' :=
 ((L.weak fun _ h=>h.elim).trans L2).drop fun b o hb e=>by rw [h b hb] at e;exact nos e
theorem Inv.adopt {μ:Mu} {hp:Hp} {s:Shared} (I:Inv X μ hp s) {D:Addr} {items:Array Value} {m:Nat} {xs:List AV} (hD:D∉ze μ) (hB:X.base.get? D=none) (hl:IsL s.heap D items m) (z:xs.length≤small) (r:VRs X μ s.heap xs items.toList) :
  Inv X (μ++[(D,none)]) (hp++[.list xs]) s:=by
 have ea:ze (μ++[(D,none)])=ze μ++[D]:=by rw [xz];simp [ze]
 have mn:∀ {o:AO} {p:Addr×Option Addr},OR X μ s.heap o p→OR X (μ++[(D,none)]) s.heap o p:=fun r=>r.mono (List.prefix_append _ _) (fun _ _ e _=>e) fun _ _ _ e=>e
 refine ⟨by simp [I.len],?_,fun a ha=>?_,fun i q x hi hx=>?_,I.keep,I.gens,I.os⟩
 ·rw [ea,List.nodup_append]
  refine ⟨I.nodup,by simp,fun a ha b hb e=>?_⟩
  simp at hb;subst hb;subst e;exact hD ha
 ·rw [ea,List.mem_append] at ha
  rcases ha with ha | ha
  ·exact I.above a ha
  ·simp at ha;subst ha;exact hB
 ·by_cases hlt:i<μ.length
  ·rw [List.getElem?_append_left hlt] at hi
   rw [List.getElem?_append_left (by rw [← I.len];exact hlt)] at hx
   exact mn (I.rep i q x hi hx)
  ·have e1:i=μ.length:=by
    have:=(yL hi).1
    simp at this;lia
   subst e1
   rw [List.getElem?_append_right (Nat.le_refl _)] at hi
   rw [I.len,List.getElem?_append_right (Nat.le_refl _)] at hx
   simp at hi hx
   subst hi hx
   exact .list hl z (r.mono (List.prefix_append _ _) fun _ _ e _=>e)
theorem Xg {sp:Scope} {target:Expr} (h:qD sp target=true):∀ x p,(target=.Name x p∨∃ es k q,target=.Tuple es k q∧Expr.Name x p∈es)→(sc.inner sp).kind x=some .local:=by
 have go:∀ x,sp.names.lookup x=some .local→(sc.inner sp).kind x=some .local:=fun x e=>by
  show (match sp.names.lookup x with
   | some .free=>if sc.kind x == some .cell then some .cell else some .free
   | o=>o)=some .local
  rw [e]
 rintro x p (rfl | ⟨es,k,q,rfl,hm⟩)
 ·exact go x (eq_of_beq (show (sp.names.lookup x == some .local)=true from h))
 ·exact go x (eq_of_beq (show (sp.names.lookup x == some .local)=true from List.all_eq_true.mp (show (es.all fun e=>(match e with
   | .Name x _=>sp.names.lookup x == some .local
   | _=>false))=true from h) _ hm))
structure CS (X:Cx) (l:List Env) (sc:Sc) (env:Env) (μ₁:Mu) (s₁:Shared) (Dd:Addr) (its:List Addr) (St:Nat→Mu→Heap→Prop) (k:Nat) (acc:List AV) (fr:AFr) (hp:Hp) (μ:Mu) (items:Array Value) (s:Shared):Prop where
 I:Inv X μ hp s
 L:Le noS μ₁ s₁ μ s
 V:EnvR X l sc env fr μ s.heap
 ac:s.heap.PlainList Dd items
 ra:VRs X μ s.heap acc items.toList
 n:Dd∉ze μ
 T:Its X s₁.heap μ s.heap its
 st:St k μ s.heap
section
variable {l:List Env} {μ₁ μ μb:Mu} {s₁ s sb:Shared} {Dd C:Addr} {its:List Addr} {St:Nat→Mu→Heap→Prop} {k:Nat} {acc:List AV} {fr fr₁:AFr} {hp hb:Hp} {items:Array Value} {target:Expr} {src:Src} {it:Value}
theorem CS.itsD (S:CS X l sc env μ₁ s₁ Dd its St k acc fr hp μ items s):Dd∉its:=fun h=>by
 obtain ⟨o,Tn,vs,ho,hc,hd,_⟩:=S.T.obj _ h
 obtain ⟨n',q⟩:=S.ac
 rw [q] at ho;cases ho;cases hd
theorem CS.later (D:Drives prog w X target src it its St) (S:CS X l sc env μ₁ s₁ Dd its St k acc fr hp μ items s) (Lb:Le noS μ s μb sb) (Ib:Inv X μb hb sb):CS X l sc env μ₁ s₁ Dd its St k acc fr hb μb items sb:=by
 obtain ⟨Tb,kb⟩:=S.T.later (fun _ _ h _=>h.elim) Lb
 refine ⟨Ib,S.L.trans Lb,S.V.le S.I Lb,(by obtain ⟨n',q⟩:=S.ac;exact ⟨n',(Lb.keep _ _ S.n (fun h=>h) q).exact rfl⟩),S.ra.le S.I Lb,fun h=>?_,Tb,
  D.frame _ μ μb _ _ S.st Lb.pre (fun b hb o q=>(kb b hb).trans q) (Lb.fixed S.I fun _ _ h=>h.elim) fun b o q=>⟨S.I.keep b o q,Ib.keep b o q⟩⟩
 rcases Lb.fresh _ h with h | h
 ·exact S.n h
 ·obtain ⟨n',q⟩:=S.ac;rw [h] at q;cases q
theorem CS.turn (D:Drives prog w X target src it its St) (S:CS X l sc env μ₁ s₁ Dd its St k acc fr hp μ items s) (B1:But its s sb) (st1:St (k+1) μ sb.heap) (hDC:Dd≠env.locals) (hC1:s₁.heap.get? env.locals=none) {s2:Shared} (L2:Le (Zf false env) μ sb μ s2) (I2:Inv X μ hp s2) (V2:EnvR X l sc env fr₁ μ s2.heap) :
  CS X l sc env μ₁ s₁ Dd its St (k+1) acc fr₁ hp μ items s2:=by
 have I1:=S.T.invR B1 S.I
 have V1:=S.T.envR B1 S.V
 have T1:Its X s₁.heap μ sb.heap its:=⟨S.T.new,S.T.out,S.T.base,D.obj _ μ _ st1⟩
 have S2:∀ b,Zf false env b→b=env.locals:=fun b h=>by
  rcases h with h | ⟨h,_⟩
  ·exact h
  ·exact nob h
 have fx2:=L2.fixOwn V1 I1
 obtain ⟨T2,k2⟩:=T1.later (fun b o h q=>wP V1 (xi h) q) L2
 refine ⟨I2,(S.T.leR B1 S.L).fresh1 L2 fun b h=>by rw [S2 b h];exact hC1,V2,?_,(S.T.vrs B1 S.ra).mono (List.prefix_refl _) fx2,S.n,T2,
  D.frame _ μ μ sb.heap s2.heap st1 (List.prefix_refl _) (fun b hb o q=>(k2 b hb).trans q) fx2 fun b o q=>⟨I1.keep b o q,I2.keep b o q⟩⟩
 obtain ⟨n',q⟩:=S.ac.at fun o q=>B1.1 _ o S.itsD q
 exact ⟨n',(L2.keep _ _ S.n (fun h=>hDC (S2 _ h)) q).exact rfl⟩
theorem CS.push (D:Drives prog w X target src it its St) (S:CS X l sc env μ₁ s₁ Dd its St k acc fr hp μ items s) (hD1:s₁.heap.get? Dd=none) (bD:X.base.get? Dd=none) {u:AV} {u':Value} (ru:VR X μ s.heap u u') {h':Heap} (ac5:h'.PlainList Dd (items.push u')) (hs5:Heap.SameBut Dd s.heap h') :
  CS X l sc env μ₁ s₁ Dd its St k (acc++[u]) fr hp μ (items.push u') { s with heap:=h' }:=by
 have nfx:∀ o,s.heap.get? Dd=some o→¬ yW o:=fun o q f=>by
  obtain ⟨n',q'⟩:=S.ac
  rw [q] at q';cases q'
  rcases f with ⟨q,_⟩ | ⟨q,_⟩ <;> (injection q with q;exact absurd q (by decide))
 have fx5:∀ b o,s.heap.get? b=some o→yW o→h'.get? b=some o:=fun b o q f=>hs5.extBut b o (fun h=>nfx o (h▸q) f) q
 obtain ⟨I5,L5⟩:=S.I.own (s':={ s with heap:=h' }) (S:=fun b=>b=Dd) (fun b h=>h▸⟨S.n,bD⟩) (fun b o h q=>⟨nfx o (h▸q),by obtain ⟨n',q'⟩:=ac5;exact ⟨_,h▸q'⟩⟩)
  (fun b o h q=>hs5.extBut b o h q) rfl rfl
 have itsD4:∀ b∈its,b≠Dd:=fun b hb h=>S.itsD (h▸hb)
 refine ⟨I5,S.L.fresh1 L5 (fun b h=>h▸hD1),S.V.but (s':={ s with heap:=h' }) (fun b o h q=>hs5.extBut b o (fun hb=>by
   obtain ⟨n',q'⟩:=S.ac
   rw [hb,q'] at q;cases q
   rcases wP S.V h (hb▸q') with ⟨es,n,q⟩ | ⟨v,q⟩ <;> cases q) q) fx5 (S.V.frs.mono fun b o n q d=>⟨n,o,hs5.extBut b o (fun hb=>by
   obtain ⟨n',q'⟩:=S.ac
   rw [hb,q'] at q;cases q;cases d) q,d⟩),ac5,?_,S.n,⟨S.T.new,S.T.out,S.T.base,fun b hb=>by
   obtain ⟨o,Tn,vs,ho,rest⟩:=S.T.obj b hb
   exact ⟨o,Tn,vs,hs5.extBut b o (itsD4 b hb) ho,rest⟩⟩,D.frame _ μ μ _ _ S.st (List.prefix_refl _) (fun b hb o q=>hs5.extBut b o (itsD4 b hb) q) fx5 fun b o q=>⟨S.I.keep b o q,I5.keep b o q⟩⟩
 rw [Array.toList_push]
 exact (S.ra.mono (List.prefix_refl _) fx5).app (.cons (ru.mono (List.prefix_refl _) fx5) .nil)
end
theorem Yd {elt target iter:Expr} {ifs:List Expr} {sp:Scope} {pos:Pos} {t:NTgt} {test:XT} {eltx:XE} {cl:List (Str×Addr)} {RR:Value→Addr→Result→Shared→Prop} {A:Around} {l:List Env} {E:Value→Shared→Prop} {s₁ s₂:Shared}
  {μ₁:Mu} {hp₁ hp₂:Hp} {fr:AFr} {vs:List AV} {src:Src} {f:Nat} {it:Value} {its:List Addr} {St:Nat→Mu→Heap→Prop}
  (ok:qO sc sp=true) (ht:xu (sc.inner sp) target=some t) (htl:qD sp target=true)
  (hts:∀ env',wG prog w X n cf (sc.inner sp) env' (forIn ifs true fun c r=>if r=true then do let ok ← isTrue c env' (eval c env');pure (ForInStep.yield ok) else pure (ForInStep.yield r)) test)
  (hel:∀ env',zx prog w X n cf (sc.inner sp) env' (eval elt env') eltx)
  (hcl:∀ x c,cl.lookup x=some c→env.cells.lookup x=some c) (hcl':∀ p∈sp.names,p.2=.free→∃ c,cl.lookup p.1=some c)
  (e:yJ t test eltx src f 0 [] cf (fr++List.replicate (zr sp).length none) hp₁=.ok vs hp₂) (R:Room n A l) (I:Inv X μ₁ hp₁ s₁) (V:EnvR X l sc env fr μ₁ s₁.heap)
  (D:Drives prog w X target src it its St) (T:Its X s₁.heap μ₁ s₂.heap its) (st:St 0 μ₁ s₂.heap) (B:But [] s₁ s₂)
  (hRR:∀ D C m μ' s',Inv X (μ'++[(D,none)]) (hp₂++[.list vs]) s'→Le noS μ₁ s₁ (μ'++[(D,none)]) s'→s'.heap.Ns C m→C∉ze (μ'++[(D,none)])→X.base.get? C=none→s₁.heap.get? C=none→μ'.length=hp₂.length→RR (.ref D) C (.ok .next) s') :
  wpAny (model prog w) A (newList []) (fun acc s₃=>wpAny (model prog w) A (newFunctionEnv sp env.globals cl [] env.qual none .none (some env)) (fun cenv s₄ =>
   codeAny (model prog w) A (.compStart (.ListComp elt [⟨target,iter,ifs,0⟩] sp pos) 0 it acc { cenv with scope:=relabel sp env }) (RR acc cenv.locals) s₄) E s₃) E s₂:=by
 obtain ⟨ok1,ok2,ok3⟩:=xB ok
 refine wpAny_newObj_type (wpAny_newFunctionEnv (fun x hx h=>by rcases ok2 x hx with q | ⟨q,_⟩ | q <;> rw [h] at q <;> cases q) (by intro y hy;simp at hy) (fun h₁ hns hsb=>?_) ok1)
 dsimp only at hns hsb ⊢
 generalize hH2:s₂.heap.push { cls:=.type "list",dict:=none,data:=.seq ([]:List Value).toArray }=H2 at hns hsb ⊢
 have hz:H2.objs.size=s₂.heap.objs.size+1:=by rw [← hH2,Heap.size_push]
 generalize hD':s₂.heap.objs.size=Dd at hz ⊢
 generalize hC':H2.objs.size=C at hns hsb hz ⊢
 have fresh₂:∀ b,Dd≤b→s₂.heap.get? b=none:=fun b hb=>by
  cases q:s₂.heap.get? b with
  | none=>rfl
  | some o=>have h1:=Heap.lt_size q;rw [hD'] at h1;exact absurd h1 (Nat.not_lt.mpr hb)
 have fresh₁:∀ b,Dd≤b→s₁.heap.get? b=none:=fun b hb=>by
  cases q:s₁.heap.get? b with
  | none=>rfl
  | some o=>have:=B.1 b o (by simp) q;rw [fresh₂ b hb] at this;exact nos this
 have hDC:Dd≠C:=by rw [hz];exact Nat.ne_of_lt (Nat.lt_succ_self _)
 have hD1:s₁.heap.get? Dd=none:=fresh₁ _ (Nat.le_refl _)
 have hC1:s₁.heap.get? C=none:=fresh₁ _ (by rw [hz];exact Nat.le_succ _)
 have hD2:s₂.heap.get? Dd=none:=fresh₂ _ (Nat.le_refl _)
 have hC2:s₂.heap.get? C=none:=fresh₂ _ (by rw [hz];exact Nat.le_succ _)
 have old:∀ b o,s₂.heap.get? b=some o→h₁.get? b=some o:=fun b o q=>hsb.extBut b o (by rintro rfl;rw [hC2] at q;cases q) (Heap.get?_push_of_some _ (hH2▸Heap.get?_push_of_some _ q))
 have hacc:h₁.PlainList Dd #[]:=⟨_,hsb.extBut _ _ hDC (Heap.get?_push_of_some _ (hH2▸hD'▸Heap.get?_push_size _ rfl))⟩
 have nin:∀ {μ:Mu} {s:Shared} {b:Addr},Le noS μ₁ s₁ μ s→s₁.heap.get? b=none→b∉ze μ₁:=fun L h q=>by
  obtain ⟨o,ho,_⟩:=I.mut q;rw [h] at ho;exact nos ho
 have bas:∀ {b:Addr},s₁.heap.get? b=none→X.base.get? b=none:=fun {b} h=>by
  cases q:X.base.get? b with
  | none=>rfl
  | some o=>have:=I.keep b o q;rw [h] at this;exact nos this
 generalize hs3:({ s₂ with heap:=h₁,toks:=s₂.toks+([]:List (Str×Value)).length }:Shared)=s₃
 have hp3:s₃.heap=h₁:=by rw [← hs3]
 have B3:But [] s₁ s₃:=⟨fun b o n q=>by rw [hp3];exact old b o (B.1 b o n q),by rw [← hs3];exact B.2.1,by rw [← hs3];exact B.2.2⟩
 have K3:∀ b o,s₁.heap.get? b=some o→s₃.heap.get? b=some o:=fun b o q=>B3.1 b o (by simp) q
 have I3:Inv X μ₁ hp₁ s₃:=⟨I.len,I.nodup,I.above,fun i p o a b=>(I.rep i p o a b).mono (List.prefix_refl _) (fun b o e _=>K3 b o e) fun b _ o e=>K3 b o e,fun b o q=>K3 b o (I.keep b o q),B3.2.1.trans I.gens,B3.2.2.trans I.os⟩
 have L3:Le noS μ₁ s₁ μ₁ s₃:=.ofKeep K3
 have V3:EnvR X l sc env fr μ₁ s₃.heap:=V.le I L3
 have VC:EnvR X l (sc.inner sp) (compEnvC sp cl C env) (fr++List.replicate (zr sp).length none) μ₁ s₃.heap :=
  J7 ok V3 hcl hcl' (by rw [hp3];simpa using hns) (nin L3 hC1) (bas hC1)
 have st3:St 0 μ₁ s₃.heap:=D.frame 0 μ₁ μ₁ s₂.heap s₃.heap st (List.prefix_refl _) (fun b _ o q=>by rw [hp3];exact old b o q) (fun b o q _=>by rw [hp3];exact old b o q) (fun b o q=>⟨B.1 b o (by simp) (I.keep b o q),K3 b o (I.keep b o q)⟩)
 have T3:Its X s₁.heap μ₁ s₃.heap its:=⟨T.new,T.out,T.base,D.obj 0 μ₁ _ st3⟩
 have loop:codeAny (model prog w) A (.compLoop (.ListComp elt [⟨target,iter,ifs,0⟩] sp pos) 0 it (.ref Dd) (compEnvC sp cl C env)) (RR (.ref Dd) C) s₃:=by
  refine JI (fun m s=>∃ k acc fr' hp' μ' items,yJ t test eltx src m k acc cf fr' hp'=.ok vs hp₂∧acc.length≤small∧CS X l (sc.inner sp) (compEnvC sp cl C env) μ₁ s₁ Dd its St k acc fr' hp' μ' items s) ?_ f
   ⟨0,[],_,hp₁,μ₁,#[],e,Nat.zero_le _,I3,L3,VC,by rw [hp3];exact hacc,.nil,nin L3 hD1,T3,st3⟩
  rintro m s ⟨k,acc,fr',hp',μ',items,e,za,S⟩
  cases m with
  | zero=>exact nok e
  | succ m =>
  have e:(match src.next? hp' k with
   | none=>Out.stuck
   | some none=>.ok acc hp'
   | some (some x)=>(match t.bind x fr' with
    | none=>.stuck
    | some fr₁=>(test cf fr₁ hp').bind0 fun b h₁ =>
      if b then (eltx cf fr₁ h₁).bind0 fun v h₂=>if acc.length<small then yJ t test eltx src m (k+1) (acc++[v]) cf fr₁ h₂ else .stuck
      else yJ t test eltx src m (k+1) acc cf fr₁ h₁))=.ok vs hp₂:=e
  cases hx:src.next? hp' k with
  | none=>rw [hx] at e;exact nok e
  | some ox =>
  rw [hx] at e
  cases ox with
  | none =>
   cases e
   refine D.done R.handled S.I S.st hx fun s' B'=>?_
   have L':=S.T.leR B' S.L
   obtain ⟨n',hl⟩:=S.ac.at fun o q=>B'.1 _ o S.itsD q
   have I':=(S.T.invR B' S.I).adopt S.n (bas hD1) hl za (S.T.vrs B' S.ra)
   obtain ⟨mm,ns,_⟩:=(S.T.envR B' S.V).loc
   refine hRR Dd C mm μ' s' I' ⟨L'.pre.trans (List.prefix_append _ _),fun a ha=>?_,L'.exist,L'.keep⟩ ns (fun h=>?_) (bas hC1) hC1 S.I.len
   ·rw [xz,List.mem_append] at ha
    rcases ha with ha | ha
    ·exact L'.fresh a ha
    ·rw [xE (show a∈[Dd] from ha)];exact .inr hD1
   ·rw [xz,List.mem_append] at h
    rcases h with h | h
    ·exact S.V.nloc h
    ·exact hDC (xE (show C∈[Dd] from h)).symm
  | some x =>
   dsimp only at e
   cases hb:t.bind x fr' with
   | none=>rw [hb] at e;exact nok e
   | some fr₁ =>
    rw [hb] at e
    obtain ⟨b,h1,e1,e⟩:=Out.bind0_ok_of e
    refine D.item R.handled S.I S.T.out S.st hx (fun v s₁ h=>h) fun v s1 rv B1 st1=>?_
    refine xU (cb:=false) ht hb R.handled (fun _=>Xg htl) (S.T.invR B1 S.I) (S.T.envR B1 S.V) rv fun s2 L2 I2 V2=>?_
    have S2:=S.turn D B1 st1 hDC hC1 L2 I2 V2
    refine hts _ R I2 V2 (PG.okT e1 fun μ3 s3 L3 I3=>?_)
    have S3:=S2.later D L3 I3
    cases b with
    | false =>
     rw [if_neg Bool.false_ne_true] at e ⊢
     exact ⟨m,Nat.lt_succ_self _,k+1,acc,fr₁,h1,μ3,items,e,za,S3⟩
    | true =>
     rw [if_pos rfl] at e ⊢
     obtain ⟨u,h2,e2,e⟩:=Out.bind0_ok_of e
     refine hel _ R I3 S3.V (PG.okE e2 fun u' μ4 s4 L4 I4 ru=>?_)
     have S4:=S3.later D L4 I4
     by_cases hlt:acc.length<small
     ·rw [if_pos hlt] at e
      have l4:=S4.ra.length
      rw [Array.length_toList] at l4
      refine wpAny_list_append_plain S4.ac (fun h' ac5 hs5=>?_) (by rw [l4];exact y9 (Nat.le_of_lt hlt))
      exact ⟨m,Nat.lt_succ_self _,k+1,acc++[u],fr₁,h2,μ4,items.push u',e,by rw [zU];exact hlt,S4.push D hD1 (bas hD1) ru ac5 hs5⟩
     ·rw [if_neg hlt] at e;exact nok e
 exact codeAny_compStart_list loop (D.self R.handled st3 loop)
end
inductive FlR (X:Cx) (μ:Mu) (h:Heap):AFlow→Flow→Prop
 | next:FlR X μ h .next .next
 | ret {v:AV} {v':Value}:VR X μ h v v'→FlR X μ h (.ret v) (.ret v')
noncomputable def Fly (nw:Bool) (B:Heap) (l:List Env) (e C:Addr) (h:Heap):Prop:=match nw with
 | false=>∃ a0,Heap.FlyingW B l e (.ref C) a0 h
 | true=>∃ h0 args,Heap.MadeExcOf h0 h e (.ref C) args∧B.StaysIn h0∧h0.FunFrames B l
noncomputable def PX (X:Cx) (l:List Env) (sc:Sc) (env:Env) (μ:Mu) (s:Shared) (nw:Bool) (c:Str) (fr':AFr) (hp':Hp) (E:Value→Shared→Prop):Prop :=
 ∀ e μ' s' B C,nsIn X.K mainGlobals c=some (some (.ref C))→Fly nw B l e C s'.heap →
  (∀ h6 t,B.StaysIn h6→s'.heap.UpToSlots h6→Le (own env) μ s μ' { s' with heap:=h6,toks:=t }∧Inv X μ' hp' { s' with heap:=h6,toks:=t }∧EnvR X l sc env fr' μ' h6)→E (.ref e) s'
noncomputable def PS (X:Cx) (l:List Env) (sc:Sc) (env:Env) (μ:Mu) (s:Shared) (o:OS) (Q:Flow→Shared→Prop) (E:Value→Shared→Prop):Prop:=match o with
 | .stuck=>False
 | .ok fl fr' hp'=>∀ fl' μ' s',Le (own env) μ s μ' s'→Inv X μ' hp' s'→EnvR X l sc env fr' μ' s'.heap→FlR X μ' s'.heap fl fl'→Q fl' s'
 | .exc nw c fr' hp'=>PX X l sc env μ s nw c fr' hp' E
noncomputable def Hd1 (env:Env) (l:List Env):Prop:=∃ outer,l=env::outer∧env.frame=some env.locals
noncomputable def yo (prog:Program) (w:World) (X:Cx) (n:Nat) (cf:CF) (sc:Sc) (env:Env) (t:Sem Flow) (x:XS):Prop :=
 ∀ {fr:AFr} {hp:Hp} {A:Around} {l:List Env} {μ:Mu} {s:Shared} {Q:Flow→Shared→Prop} {E:Value→Shared→Prop},
  Hd1 env l→Room n A l→Inv X μ hp s→EnvR X l sc env fr μ s.heap→PS X l sc env μ s (x cf fr hp) Q E→wpAny (model prog w) A t Q E s
section
variable {prog:Program} {w:World} {X:Cx} {G:GTab} {n:Nat} {cf:CF} {sc:Sc} {env:Env} {l:List Env}
theorem PS.le {μ μ':Mu} {s s':Shared} {o:OS} {Q:Flow→Shared→Prop} {E:Value→Shared→Prop} (k:PS X l sc env μ s o Q E) (L:Le (own env) μ s μ' s'):PS X l sc env μ' s' o Q E:=by
 cases o with
 | stuck=>exact k
 | ok fl fr hp=>exact fun fl' μ'' s'' L'=>k fl' μ'' s'' (L.trans L')
 | exc nw c fr hp=>exact fun e μ'' s'' B C h1 h2 h3=>k e μ'' s'' B C h1 h2 fun h6 t g1 g2=>⟨L.trans (h3 h6 t g1 g2).1,(h3 h6 t g1 g2).2⟩
theorem Le.own {μ μ':Mu} {s s':Shared} (L:Le noS μ s μ' s'):Le (own env) μ s μ' s':=L.weak fun _ h=>h.elim
theorem z0i {h:Heap} {C:Addr} {m:Str→Option Value} {o:Obj} (ns:h.Ns C m) (e:h.get? C=some o):¬ yW o:=by
 obtain ⟨o',es,ep,ho,hd,_⟩:=ns
 rw [e] at ho;cases ho
 rintro (⟨_,xs,n,q⟩ | ⟨_,vs,q⟩) <;> rw [hd] at q <;> cases q
theorem zH9 {μ₁ μ:Mu} {hp:Hp} {s₁ s:Shared} {C:Addr} {m:Str→Option Value} {h':Heap} (I:Inv X μ hp s) (L:Le noS μ₁ s₁ μ s) (ns:s.heap.Ns C m) (nC:C∉ze μ) (bC:X.base.get? C=none) (C1:s₁.heap.get? C=none)
  (hsb:Heap.SameBut C s.heap h'):Inv X μ hp { s with heap:=h' }∧Le noS μ₁ s₁ μ { s with heap:=h' }∧(∀ b o,b≠C→s.heap.get? b=some o→h'.get? b=some o)∧(∀ b o,s.heap.get? b=some o→yW o→h'.get? b=some o):=by
 have kp:∀ b o,b≠C→s.heap.get? b=some o→h'.get? b=some o:=fun b o n e=>hsb.extBut b o n e
 have fx:∀ b o,s.heap.get? b=some o→yW o→h'.get? b=some o:=fun b o e f=>kp b o (fun h=>by subst h;exact z0i ns e f) e
 refine ⟨⟨I.len,I.nodup,I.above,fun i p o a b=>(I.rep i p o a b).mono (List.prefix_refl _) fx fun b hb o e=>kp b o (fun h=>nC (by subst h;exact yU.mpr ⟨i,p,a,hb⟩)) e,
  fun b o e=>kp b o (fun h=>by subst h;rw [bC] at e;cases e) (I.keep b o e),I.gens,I.os⟩,⟨L.pre,L.fresh,fun b o e=>?_,fun b o n ns e=>(L.keep b o n ns e).trans fun o' e'=>.inl (kp b o' (fun h=>by subst h;rw [C1] at e;cases e) e')⟩,kp,fx⟩
 obtain ⟨o',e'⟩:=L.exist b o e
 exact ⟨o',kp b o' (fun h=>by subst h;rw [C1] at e;cases e) e'⟩
theorem xy {e:Expr} (h:jT e=true) (x:Value):foldedSetIterable e env x=pure x:=by
 cases e <;> first | rfl | exact nob h
theorem Zz {sp:Scope} (ok:qO sc sp=true):∀ x∈sp.names,x.2=.local→sp.names.lookup x.1=some .local:=fun x hx h=>by
 obtain ⟨_,_,c⟩:=xB ok
 exact Zl c (by rw [← h];exact hx)
theorem Y0 {sp:Scope} {fr:AFr} {μ:Mu} {h:Heap} (ok:qO sc sp=true) (V:EnvR X l sc env fr μ h):∀ p∈sp.names,p.2=.free→∃ c,env.cells.lookup p.1=some c:=fun p hp hf=>by
 obtain ⟨_,b,_⟩:=xB ok
 rcases b p hp with q | ⟨_,q1,i,q2⟩ | q
 ·rw [hf] at q;cases q
 ·obtain ⟨c,cv,e,_⟩:=V.cel p.1 i q1 q2;exact ⟨c,e⟩
 ·rw [hf] at q;cases q
theorem Jh {elt target iter:Expr} {ifs:List Expr} {sp:Scope} {pos:Pos} {t:NTgt} {test:XT} {eltx itx:XE} (ok:qO sc sp=true) (ht:xu (sc.inner sp) target=some t) (htl:qD sp target=true) (hset:jT iter=true)
  (hts:∀ env',wG prog w X n cf (sc.inner sp) env' (forIn ifs true fun c r=>if r=true then do let ok ← isTrue c env' (eval c env');pure (ForInStep.yield ok) else pure (ForInStep.yield r)) test)
  (hel:∀ env',zx prog w X n cf (sc.inner sp) env' (eval elt env') eltx) (hit:zx prog w X n cf sc env (eval iter env) itx) :
  zx prog w X n cf sc env (eval (.ListComp elt [⟨target,iter,ifs,0⟩] sp pos) env) (yE itx (zr sp).length t test eltx):=by
 intro fr hp A l μ s Q E R I V k
 obtain ⟨cl,c0,c1,c2⟩:=Y3 (Y0 ok V)
 rw [eval_ListComp]
 refine wpAny_comprehension_free (use:=none) rfl (fun x=>xy hset x) c0 (xB ok).1 (Zz ok) (hit R I V (k.bind fun iv iv' h1 μ1 s1 L1 I1 ri k=>?_))
 cases hsrc:xC h1 iv with
 | none=>rw [hsrc] at k;exact k.elim
 | some sn =>
  obtain ⟨src,nn⟩:=sn
  rw [hsrc] at k
  have k:PO X l μ1 s1 ((yJ t test eltx src (nn+1) 0 [] cf (fr++List.replicate (zr sp).length none) h1).bind0 fun vs h₂=>.ok (.ref h₂.length) (h₂++[AO.list vs])) Q E:=k
  cases e2:yJ t test eltx src (nn+1) 0 [] cf (fr++List.replicate (zr sp).length none) h1 with
  | stuck=>rw [e2] at k;exact k.elim
  | exc=>rw [e2] at k;exact k.elim
  | ok vs h2 =>
  rw [e2] at k
  refine jI (target:=target) hsrc I1 ri fun it its St s2 D T st B=>?_
  refine Yd (RR:=fun acc C=>compPost (model prog w) A E none Q acc C) ok ht htl hts hel c1 c2 e2 R I1 (V.le I L1) D T st B fun Dd C m μ' s' I' L' ns nC bC C1 len=>?_
  refine ⟨m,ns,fun h' hsb=>?_⟩
  obtain ⟨J,M,_,_⟩:=zH9 I' L' ns nC bC C1 hsb
  exact k _ _ _ M J (.ref (p:=(Dd,none)) (by rw [← len];simp))
theorem PS.bindS {α β:Type} {rel:Mu→Heap→α→β→Prop} {μ:Mu} {s:Shared} {hp:Hp} {fr:AFr} {o:Out α} {f:α→Hp→OS} {Q':β→Shared→Prop} {Q:Flow→Shared→Prop} {E:Value→Shared→Prop} (k:PS X l sc env μ s (o.bindS fr f) Q E) (I:Inv X μ hp s) (V:EnvR X l sc env fr μ s.heap)
  (h:∀ a b hp' μ' s',Le noS μ s μ' s'→Inv X μ' hp' s'→rel μ' s'.heap a b→PS X l sc env μ' s' (f a hp') Q E→Q' b s'):PG rel X l μ s o Q' E:=by
 cases o with
 | stuck=>exact k
 | ok v hp'=>exact fun b μ' s' L I r=>h v b hp' μ' s' L I r (PS.le (o:=f v hp') k L.own)
 | exc c hp'=>exact fun e μ' s' B C a0 h1 h2 h3=>k e μ' s' B C h1 ⟨a0,h2⟩ fun h6 t g1 g2=>⟨(h3 h6 t g1 g2).1.own,(h3 h6 t g1 g2).2,V.le I (h3 h6 t g1 g2).1⟩
theorem Out.bind_bindS {α β:Type} {o:Out α} {f:α→Hp→Out β} {fr:AFr} {g:β→Hp→OS}:(o.bind f).bindS fr g=o.bindS fr fun a h=>(f a h).bindS fr g:=by cases o <;> rfl
theorem ZC {elt target iter:Expr} {ifs:List Expr} {sp:Scope} {pos px spos:Pos} {t:NTgt} {test:XT} {eltx itx:XE} {x:Str} {okf:Str→Str→Bool} {t':NTgt} (ok:qO sc sp=true) (ht:xu (sc.inner sp) target=some t) (htl:qD sp target=true) (hset:jT iter=true)
  (hts:∀ env',wG prog w X n cf (sc.inner sp) env' (forIn ifs true fun c r=>if r=true then do let ok ← isTrue c env' (eval c env');pure (ForInStep.yield ok) else pure (ForInStep.yield r)) test)
  (hel:∀ env',zx prog w X n cf (sc.inner sp) env' (eval elt env') eltx) (hit:zx prog w X n cf sc env (eval iter env) itx) (hx:xu sc (.Name x px)=some t')
  (hsw:swapsWith (.ListComp elt [⟨target,iter,ifs,0⟩] sp pos) (some (.Name x px)) spos.line env=pure true) :
  yo prog w X n cf sc env (exec (.Assign [.Name x px] (.ListComp elt [⟨target,iter,ifs,0⟩] sp pos) spos) env) (z9 okf (.names t') (yE itx (zr sp).length t test eltx)):=by
 intro fr hp A l μ s Q E _ R I V k
 have k:PS X l sc env μ s ((itx cf fr hp).bindS fr fun v h₁=>((match xC h₁ v with
  | none=>Out.stuck
  | some (src,n)=>(yJ t test eltx src (n+1) 0 [] cf (fr++List.replicate (zr sp).length none) h₁).bind0 fun vs h₂=>.ok (AV.ref h₂.length) (h₂++[AO.list vs]))).bindS fr fun v h₁=>match t'.bind v fr with
  | some fr₁=>.ok .next fr₁ h₁
  | none=>.stuck) Q E:=by rw [← Out.bind_bindS];exact k
 obtain ⟨cl,c0,c1,c2⟩:=Y3 (Y0 ok V)
 rw [exec_Assign_Name_used _ _ _ _ hsw]
 refine wpAny_bind (wpAny_standAt (wpAny_bind ?_))
 show wpAny _ A (do let _ ← comprehension (.ListComp elt [⟨target,iter,ifs,0⟩] sp pos) sp env _ (newList []) false (eval iter env) (some (assign (.Name x px) env))) _ _ s
 refine wpAny_bind (wpAny_mono (wpAny_comprehension_free (use:=some (assign (.Name x px) env)) (Q:=fun _ s'=>Q .next s') rfl (fun x=>xy hset x) c0 (xB ok).1 (Zz ok)
  (hit R I V (k.bindS I V fun iv iv' h1 μ1 s1 L1 I1 ri k=>?_))) (fun _ s' hq=>wpAny_pure (wpAny_pure hq)) fun _ _ e=>e)
 cases hsrc:xC h1 iv with
 | none=>rw [hsrc] at k;exact k.elim
 | some sn =>
  obtain ⟨src,nn⟩:=sn
  rw [hsrc] at k
  have k:PS X l sc env μ1 s1 (((yJ t test eltx src (nn+1) 0 [] cf (fr++List.replicate (zr sp).length none) h1).bind0 fun vs h₂=>Out.ok (AV.ref h₂.length) (h₂++[AO.list vs])).bindS fr fun v h₁=>match t'.bind v fr with
   | some fr₁=>.ok .next fr₁ h₁
   | none=>.stuck) Q E:=k
  cases e2:yJ t test eltx src (nn+1) 0 [] cf (fr++List.replicate (zr sp).length none) h1 with
  | stuck=>rw [e2] at k;exact k.elim
  | exc=>rw [e2] at k;exact k.elim
  | ok vs h2 =>
  rw [e2] at k
  have k:PS X l sc env μ1 s1 (match t'.bind (AV.ref h2.length) fr with
   | some fr₁=>.ok .next fr₁ (h2++[AO.list vs])
   | none=>.stuck) Q E:=k
  cases hb:t'.bind (AV.ref h2.length) fr with
  | none=>rw [hb] at k;exact k.elim
  | some fr₁ =>
  rw [hb] at k
  refine jI (target:=target) hsrc I1 ri fun it its St s2 D T st B=>?_
  have V1:=V.le I L1
  refine Yd (RR:=fun acc C=>compPost (model prog w) A E (some (assign (.Name x px) env)) (fun _ s'=>Q .next s') acc C) ok ht htl hts hel c1 c2 e2 R I1 V1 D T st B fun Dd C m μ' s' I' L' ns nC bC C1 len=>?_
  show wpAny _ A (assign (.Name x px) env (.ref Dd)) _ _ _
  have V':=V1.le I1 L'
  have nown:¬ own env C:=fun h=>by
   rcases h with h | ⟨y,h⟩
   ·obtain ⟨m0,⟨o,es,ep,ho,_⟩,_⟩:=V1.loc
    rw [← h,C1] at ho;exact nos ho
   ·obtain ⟨_,cv,o,ho,_⟩:=V1.ncel y C h
    rw [C1] at ho;exact nos ho
  refine xU (cb:=true) hx hb R.handled (fun h=>by cases h) I' V' (.ref (p:=(Dd,none)) (by rw [← len];simp)) fun s3 L3 I3 V3=>?_
  have nsC:s3.heap.Ns C m:=by
   obtain ⟨o,es,ep,ho,hd,r⟩:=ns
   obtain ⟨o',ho',q⟩:=(L3.keep C o nC (fun h=>nown (xi h)) ho).get
   exact ⟨o',es,ep,ho',q.trans hd,r⟩
  have LL:Le (own env) μ1 s1 (μ'++[(Dd,none)]) s3:=L'.own.trans (L3.weak fun _ h=>xi h)
  refine ⟨m,nsC,fun h' hsb=>?_⟩
  have kp:∀ b o,b≠C→s3.heap.get? b=some o→h'.get? b=some o:=fun b o n e=>hsb.extBut b o n e
  have fx:∀ b o,s3.heap.get? b=some o→yW o→h'.get? b=some o:=fun b o e f=>kp b o (fun h=>by subst h;exact z0i nsC e f) e
  have J:Inv X (μ'++[(Dd,none)]) (h2++[.list vs]) { s3 with heap:=h' }:=⟨I3.len,I3.nodup,I3.above,fun i p o a b=>(I3.rep i p o a b).mono (List.prefix_refl _) fx fun b hb o e=>kp b o (fun h=>nC (by subst h;exact yU.mpr ⟨i,p,a,hb⟩)) e,
   fun b o e=>kp b o (fun h=>by subst h;rw [bC] at e;cases e) (I3.keep b o e),I3.gens,I3.os⟩
  have LM:Le (own env) μ1 s1 (μ'++[(Dd,none)]) { s3 with heap:=h' }:=⟨LL.pre,LL.fresh,fun b o e=>by
   obtain ⟨o',e'⟩:=LL.exist b o e
   exact ⟨o',kp b o' (fun h=>by subst h;rw [C1] at e;cases e) e'⟩,fun b o n ns e=>(LL.keep b o n ns e).trans fun o' e'=>.inl (kp b o' (fun h=>by subst h;rw [C1] at e;cases e) e')⟩
  refine k .next _ _ LM J (V3.but (s':={ s3 with heap:=h' }) (fun b o h e=>kp b o (fun hb=>nown (hb▸h)) e) fx fun v hv=>?_) .next
  obtain ⟨_,L1',o1,f1,_,_,g1,_⟩:=V1.frs v hv
  obtain ⟨k1,L3',o3,f3,b3,n3,g3,d3⟩:=V3.frs v hv
  rw [f1] at f3;cases f3
  exact ⟨k1,L1',o3,f1,b3,n3,kp _ _ (fun h=>by rw [h,C1] at g1;cases g1) g3,d3⟩
end
section
variable {prog:Program} {w:World} {X:Cx} {G:GTab} {n:Nat} {cf:CF} {sc:Sc} {env:Env}
theorem yB {t:Sem Value}:zx prog w X n cf sc env t zn:=by
 exact fun _ _ _ k=>k.elim
theorem qo {t:Sem Bool}:wG prog w X n cf sc env t (fun _ _ _=>.stuck):=by
 exact fun _ _ _ k=>k.elim
theorem xh {f:Nat} (h:∀ e,zx prog w X n cf sc env (eval e env) (dE G f sc e)):∀ es:List Expr,SndL prog w X n cf sc env (evalEach es env) (es.map (dE G f sc))
 | []=>.nil
 | e::es=>.cons (h e) (xh h es)
theorem wj {f:Nat} (h:∀ e,wG prog w X n cf sc env (isTrue e env (eval e env)) (dT G f sc e)):∀ es:List Expr,SndTs prog w X n cf sc env (es.map fun e=>isTrue e env (eval e env)) (es.map (dT G f sc))
 | []=>.nil
 | e::es=>.cons (h e) (wj h es)
theorem xr {t:Sem Value} {c:Prop} [Decidable c] {x:XE} (h:c→zx prog w X n cf sc env t x):zx prog w X n cf sc env t (if c then x else zn):=by
 by_cases q:c
 ·rw [if_pos q];exact h q
 ·rw [if_neg q];exact yB (cf:=cf)
theorem Jm {t:Sem Bool} {c:Prop} [Decidable c] {x:XT} (h:c→wG prog w X n cf sc env t x):wG prog w X n cf sc env t (if c then x else fun _ _ _=>.stuck):=by
 by_cases q:c
 ·rw [if_pos q];exact h q
 ·rw [if_neg q];exact qo (cf:=cf)
theorem Yx {x:Str} {pos:Pos} (hk:sc.kind x=some .local∨sc.kind x=some .cell∨sc.kind x=some .free) (hd:(x == ("__debug__" : Str))=false) (hc:(x == ("__classdict__" : Str))=false) :
  zx prog w X n cf sc env (eval (.Name x pos) env) (match sc.slot x with | some i=>z5 i | none=>zn):=by
 cases hi:sc.slot x with
 | none=>exact yB (cf:=cf)
 | some i =>
  intro fr hp A l μ s Q E R I V k
  have k:PO X l μ s (match fr[i]? with | some (some v)=>Out.ok v hp | _=>.stuck) Q E:=k
  cases hu:fr[i]? with
  | none=>rw [hu] at k;exact k.elim
  | some o =>
   rw [hu] at k
   cases o with
   | none=>exact k.elim
   | some u=>exact YJ hk hi hu I V hd hc k
theorem Je {x:Str} {pos:Pos} (g:Gd X G) (hk:sc.kind x=some .globalImplicit) (hd:(x == ("__debug__" : Str))=false):zx prog w X n cf sc env (eval (.Name x pos) env) (zB (G.glob x)):=by
 intro fr hp A l μ s Q E R I V k
 obtain ⟨v,e1,k⟩:=PG.of k
 exact Zu g hk e1 I V hd k
theorem Jb {x:Str} {pos:Pos} (g:Gd X G):zx prog w X n cf sc env (eval (.Name x pos) env) (z1o G sc x):=by
 unfold z1o
 by_cases hx:(x == ("__debug__" : Str) || x == ("__classdict__" : Str))=true
 ·rw [if_pos hx];exact yB (cf:=cf)
 ·rw [if_neg hx]
  have hx:=Bool.eq_false_iff.mpr hx
  have hd:(x == ("__debug__" : Str))=false:=(Bool.or_eq_false_iff.mp hx).1
  have hc:(x == ("__classdict__" : Str))=false:=(Bool.or_eq_false_iff.mp hx).2
  cases hk:sc.kind x with
  | none=>exact yB (cf:=cf)
  | some k =>
   cases k with
   | globalImplicit=>exact Je g hk hd
   | globalExplicit=>exact yB (cf:=cf)
   | «local» => exact Yx (.inl hk) hd hc
   | cell=>exact Yx (.inr (.inl hk)) hd hc
   | free=>exact Yx (.inr (.inr hk)) hd hc
theorem JL {f:Expr} {t:Expr×Str×Pos} (e:Xa f=some t):f=.Attribute t.1 t.2.1 t.2.2:=wJ (o:=zDn f) e
theorem Qf {f:Expr} (e:Xa f=none):∀ o name p,f≠.Attribute o name p:=fun o name p h=>by rw [h] at e;exact nos e.symm
theorem Qq {f:Expr} {t:Option Expr×Option Expr×Pos} (e:qP f=some (some t)):f=.Slice t.1 t.2.1 none t.2.2:=by
 obtain ⟨⟨⟨l,u,st,p⟩,q⟩,_,e⟩:=yC e
 cases st with
 | none=>cases e;exact q
 | some _=>exact nos e
theorem X1 {f:Expr} (e:qP f=none):Wb f=true:=by
 cases f <;> first | rfl | exact nos e.symm
theorem Wv {c:Const} {kk:Nat} {pos:Pos}:zx prog w X n cf sc env (eval (.Constant c kk pos) env) (z1p c):=by
 cases c with
 | none=>exact Yy (cf:=cf)
 | bool b=>exact Yz (cf:=cf)
 | int i=>exact Xn (cf:=cf)
 | str x=>exact xr fun h=>Xm (cf:=cf) h
 | _=>exact yB (cf:=cf)
theorem Jg (g:Gd X G) {pos:Pos}:zx prog w X n cf sc env (eval (.Dict [] [] pos) env) xn:=by
 intro fr hp A l μ s Q E R I V k
 refine wpAny_Dict_empty ?_
 have hm:(s.heap.objs.size == sysModules)=false:=by
  obtain ⟨mg,mb,⟨o,es,ep,ho,_⟩,_⟩:=g.top
  have:=Heap.lt_size (I.keep _ _ ho)
  exact beq_eq_false_iff_ne.mpr (Nat.ne_of_gt (Nat.lt_of_le_of_lt (by decide) this))
 obtain ⟨I',a⟩:=I.new (h':=s.heap.push { cls:=.type "dict",data:=.dict #[] }) (t:=s.toks) (p:=(s.heap.objs.size,none)) (o:=.dict []) (fun b o e=>Heap.get?_push_of_some _ e) (fun b hb=>by rw [wA hb];exact qN _) (List.nodup_cons.mpr ⟨List.not_mem_nil,List.nodup_nil⟩)
  (.dict (prog:=prog) (w:=w) (Heap.DictOf.new _) .nil hm (Nat.zero_le _))
 exact k.pe _ _ _ a I' (.ref (wX μ _ I.len))
theorem Wk (g:Gd X G) (hcf:SndCF prog w X n cf) (f:Nat):(∀ sc env e,zx prog w X n cf sc env (eval e env) (dE G f sc e))∧(∀ sc env e,wG prog w X n cf sc env (isTrue e env (eval e env)) (dT G f sc e)) ∧
  (∀ sc env o,zx prog w X n cf sc env (valueOrNone (evalOpt o env)) (z1m G f sc o)):=by
 induction f with
 | zero=>exact ⟨fun _ _ _=>yB (cf:=cf),fun _ _ _=>qo (cf:=cf),fun _ _ _=>yB (cf:=cf)⟩
 | succ f ih =>
  obtain ⟨hE,hT,hO⟩:=ih
  have tv:∀ sc env e,(∀ whole,isTrue e env whole=(do let v ← whole;standAt e.pos;holding [v] (truthy v)))→wG prog w X n cf sc env (isTrue e env (eval e env)) (zy (dE G f sc e)):=fun sc env e h=>Jk h (hE _ _ _)
  refine ⟨fun sc env e=>?_,fun sc env e=>?_,fun sc env o=>?_⟩
  ·cases e with
   | Constant c kk pos=>exact Wv
   | Name x pos=>exact Jb g
   | BoolOp op es pos=>exact Qp (xh (hE _ _) es)
   | BinOp l op r pos=>exact z2y (hE _ _ _) (hE _ _ _)
   | UnaryOp op x pos =>
    cases op with
    | Not=>exact z2r (hE _ _ _)
    | USub=>exact z2s (hE _ _ _)
    | _=>exact yB (cf:=cf)
   | List es pos=>exact xr fun h=>Jd h.1 (by rw [List.length_map];exact h.2) (xh (hE _ _) es)
   | Tuple es kk pos=>exact xr fun h=>z2n h.1 (by rw [List.length_map];exact h.2) (xh (hE _ _) es)
   | Compare l ops rs pos=>exact xr fun h=>z2x h (hE _ _ _) (xh (hE _ _) rs)
   | Call fn args kws pos =>
    cases kws with
    | cons _ _=>exact yB (cf:=cf)
    | nil =>
     refine xr fun h=>?_
     cases q:Xa fn with
     | none=>exact Ji g hcf (Qf q) h.1 (hE _ _ _) (xh (hE _ _) args)
     | some t =>
      rw [JL q]
      exact xr fun h2=>Jc g hcf h2.1 h2.2 h.1 h.2 (hE _ _ _) (xh (hE _ _) args)
   | Dict ks vs pos =>
    cases ks with
    | cons _ _=>exact yB (cf:=cf)
    | nil=>cases vs with
     | cons _ _=>exact yB (cf:=cf)
     | nil=>exact Jg (cf:=cf) g
   | Attribute o name pos=>exact xr fun h=>Jj g h (hE _ _ _)
   | Subscript o i pos =>
    show zx prog w X n cf sc env _ (match qP i with
     | some q=>(match q with
      | some t=>ZF (dE G f sc o) (z1m G f sc t.1) (z1m G f sc t.2.1)
      | none=>if z03 i=true then Qa (dE G f sc o) else zn)
     | none=>zK (dE G f sc o) (dE G f sc i))
    cases q:qP i with
    | none=>exact z2u (X1 q) (hE _ _ _) (hE _ _ _)
    | some r =>
     cases r with
     | none =>
      refine xr fun h=>?_
      obtain ⟨k0,p,q,r,rfl⟩:=z02 h
      exact z2p (hE _ _ _)
     | some t=>rw [Qq q];exact z2w (hE _ _ _) (hO _ _ _) (hO _ _ _)
   | ListComp elt gs sp pos =>
    cases gs with
    | nil=>exact yB (cf:=cf)
    | cons gg gs =>
     cases gs with
     | cons _ _=>exact yB (cf:=cf)
     | nil =>
      obtain ⟨target,iter,ifs,as⟩:=gg
      refine xr fun h=>?_
      have h2:as=0:=h.2.1
      subst h2
      show zx prog w X n cf sc env _ (match xu (sc.inner sp) target with
       | some t=>yE (dE G f sc iter) (zr sp).length t (zT .And (ifs.map (dT G f (sc.inner sp)))) (dE G f (sc.inner sp) elt)
       | none=>zn)
      cases ht:xu (sc.inner sp) target with
      | none=>exact yB (cf:=cf)
      | some t=>exact Jh h.1 ht h.2.2.2 h.2.2.1 (fun env'=>wI (wj (hT _ _) _)) (fun env'=>hE _ _ _) (hE _ _ _)
   | _=>exact yB (cf:=cf)
  ·cases e with
   | UnaryOp op x pos =>
    cases op with
    | Not=>exact Jl (hT _ _ _)
    | _=>exact qo (cf:=cf)
   | BoolOp op es pos=>exact Jo (wj (hT _ _) es)
   | IfExp t a b pos=>exact qo (cf:=cf)
   | Compare l ops rs pos=>exact Jm fun h=>Jn h (hE _ _ _) (xh (hE _ _) rs)
   | _=>exact tv _ _ _ (fun _=>rfl)
  ·cases o with
   | some e'=>exact WU (fun e' h=>by cases h;exact hE _ _ _) (fun h=>by cases h)
   | none=>exact WU (cf:=cf) (fun e' h=>by cases h) (fun _=>rfl)
end
section
variable {prog:Program} {w:World} {X:Cx} {G:GTab} {n:Nat} {cf:CF} {sc:Sc} {env:Env}
theorem FlR.next_ {μ:Mu} {h:Heap} {fl:Flow} (r:FlR X μ h .next fl):fl=.next:=by cases r;rfl
theorem FlR.ret_ {μ:Mu} {h:Heap} {v:AV} {fl:Flow} (r:FlR X μ h (.ret v) fl):∃ v',fl=.ret v'∧VR X μ h v v':=by cases r with | ret q=>exact ⟨_,rfl,q⟩
theorem y3 {t:Sem Flow}:yo prog w X n cf sc env t yG:=fun _ _ _ _ k=>k.elim
theorem z2q {e₀:Expr} {pos:Pos} {x:XE} (h:zx prog w X n cf sc env (eval e₀ env) x):yo prog w X n cf sc env (exec (.Return (some e₀) pos) env) (zW x):=fun _ R I V k =>
 wpAny_Return_some (h R I V (k.bindS I V fun v v' _ μ1 s1 L1 I1 r k=>k _ μ1 s1 .refl I1 (V.le I L1) (.ret r)))
theorem Ja {pos:Pos}:yo prog w X n cf sc env (exec (.Return none pos) env) (zW (z7 .none)):=fun _ _ I V k =>
 wpAny_Return_none (k _ _ _ .refl I V (.ret .none))
theorem Jf {e₀:Expr} {pos:Pos} {x:XE} (hc:swapsWith e₀ none pos.line env=pure false) (h:zx prog w X n cf sc env (eval e₀ env) x):yo prog w X n cf sc env (exec (.Expr e₀ pos) env) (zI x):=fun _ R I V k =>
 wpAny_Expr_any (h R I V (k.bindS I V fun v v' _ μ1 s1 L1 I1 r k=>k _ μ1 s1 .refl I1 (V.le I L1) .next)) (by unfold interactive;rw [V.fn];rfl) hc
theorem z2t {t:Expr} {a b:List Stmt} {pos:Pos} {x:XT} {y z:XS} (ht:wG prog w X n cf sc env (isTrue t env (eval t env)) x) (ha:yo prog w X n cf sc env (execs a env) y) (hb:yo prog w X n cf sc env (execs b env) z) :
  yo prog w X n cf sc env (exec (.If t a b pos) env) (sIf x y z):=fun T R I V k =>
 wpAny_If (ht R I V (k.bindS I V fun c c' _ μ1 s1 L1 I1 e k=>by
  cases e
  cases c with
  | true=>exact ha T R I1 (V.le I L1) k
  | false=>exact hb T R I1 (V.le I L1) k))
theorem Wu {f:Nat} (h:∀ st,yo prog w X n cf sc env (exec st env) (dS G f sc st)) (sts:List Stmt):yo prog w X n cf sc env (execs sts env) (zA (sts.map (dS G f sc))):=by
 induction sts with
 | nil=>exact fun _ _ I V k=>wpAny_execs_nil (k _ _ _ .refl I V .next)
 | cons st sts ih =>
  intro fr hp A l μ s Q E T R I V k
  have k:PS X l sc env μ s (match dS G f sc st cf fr hp with
   | .ok .next fr₁ h₁=>zA (sts.map (dS G f sc)) cf fr₁ h₁
   | o=>o) Q E:=k
  refine wpAny_execs_cons (h st T R I V ?_)
  cases q:dS G f sc st cf fr hp with
  | stuck=>rw [q] at k;exact k.elim
  | exc nw c fr1 hp1=>rw [q] at k;exact k
  | ok fl1 fr1 hp1 =>
   rw [q] at k
   cases fl1 with
   | next=>exact fun fl' μ1 s1 L1 I1 V1 r=>by rw [r.next_];exact ih T R I1 V1 (PS.le k L1)
   | ret v =>
    intro fl' μ1 s1 L1 I1 V1 r
    obtain ⟨v',rfl,rv⟩:=r.ret_
    exact k _ μ1 s1 L1 I1 V1 (.ret rv)
theorem w9 {t value:Expr} {pos:Pos} {A:Around} {E:Value→Shared→Prop} {s:Shared} {M:Model} {Q:Flow→Shared→Prop} (ht:qI t=true)
  (hs:swapsWith value (some t) pos.line env=pure false) (hw:swappedStores [t] value env=pure none) (h:wpAny M A (eval value env) (fun v s₁=>wpAny M A (assign t env v) (fun _=>Q .next) E s₁) E s) :
  wpAny M A (exec (.Assign [t] value pos) env) Q E s:=by
 have ea:(assignEach [t] env).map (·.2)=[assign t env]:=by cases t <;> first | rfl | cases ht
 refine wpAny_Assign_stores (wpAny_mono h (fun v s₁ h₁=>?_) fun _ _ x=>x) hs hw
 rw [ea]
 exact h₁
theorem YQ {t:Expr} {is:List Nat} (h:xu sc t=some (.many is)):∃ es k p,t=.Tuple es k p:=by
 cases t with
 | Tuple es k p=>exact ⟨es,k,p,rfl⟩
 | Name x p=>obtain ⟨i,_,e⟩:=yC (show (sc.isOwn x).map NTgt.one=_ from h);cases e
 | _=>exact nos h
theorem Qg {elts:List Expr} {x1:Nat} {pos:Pos} {c:Addr} {items:Array Value} {A:Around} {E:Value→Shared→Prop} {s:Shared} {Q:Unit→Shared→Prop} (hh:A.handled=none) (hl:s.heap.IsList c items)
  (hn:(assignEach elts env).length=items.size) (hstar:(assignEach elts env).findIdx? (·.1)=none)
  (h:∀ h',Heap.ExtBut s.heap.objs.size s.heap h'→wpAny (model prog w) A (assignInOrder ((assignEach elts env).map (·.2)) items.toList) Q E { s with heap:=h' }) :
  wpAny (model prog w) A (assign (.Tuple elts x1 pos) env (.ref c)) Q E s:=by
 rw [arm_assign_Tuple]
 refine wpAny_bind (wpAny_standAt ?_)
 unfold unpack
 rw [hstar,hn]
 exact wpAny_bind (wpAny_holding (kun_itemsOf hh hl h))
theorem Qc {target:Expr} {t:NTgt} {v:AV} {v':Value} {A:Around} {E:Value→Shared→Prop} {s:Shared} {l:List Env} {μ:Mu} {hp:Hp} {fr fr':AFr} {Q:Unit→Shared→Prop} (ht:xu sc target=some t) (hb:Y4 hp t v fr=some fr') (hh:A.handled=none) (I:Inv X μ hp s) (V:EnvR X l sc env fr μ s.heap) (r:VR X μ s.heap v v')
  (k:∀ s',Le (Zf true env) μ s μ s'→Inv X μ hp s'→EnvR X l sc env fr' μ s'.heap→Q () s'):wpAny (model prog w) A (assign target env v') Q E s:=by
 cases t with
 | one i=>exact xU (cb:=true) ht hb hh (fun h=>by cases h) I V r k
 | many is =>
  cases hr:yi v with
  | none =>
   have hb:(match yi v with | some a=>(zi hp a).bind fun xs=>yx is xs fr | none=>NTgt.bind (.many is) v fr)=some fr':=hb
   rw [hr] at hb
   exact xU (cb:=true) ht hb hh (fun h=>by cases h) I V r k
  | some a =>
   have hb:(match yi v with | some a=>(zi hp a).bind fun xs=>yx is xs fr | none=>NTgt.bind (.many is) v fr)=some fr':=hb
   rw [hr] at hb
   obtain ⟨xs,hx,hb⟩:=zS hb
   rw [yc hr] at r
   obtain ⟨c,items,m,rfl,_,hl,z,rs⟩:=I.list_at r (xP hx)
   obtain ⟨es,kk,tp,rfl⟩:=YQ ht
   have ht:(match yI (qW sc) es with
    | some is=>if is.length≤10∧is.Nodup then some (NTgt.many is) else none
    | none=>none)=some (.many is):=ht
   cases hi:yI (qW sc) es with
   | none=>rw [hi] at ht;exact nos ht
   | some is' =>
    rw [hi] at ht
    obtain ⟨_,e⟩:=zb ht
    cases e
    obtain ⟨l1,l2⟩:=wg (env:=env) hi
    have l3:=ZY hb
    refine Qg hh ⟨_,hl,rfl,_,rfl⟩ (by rw [rs.size,l1,l3]) l2 fun h' he=>?_
    have kp:∀ b o,s.heap.get? b=some o→h'.get? b=some o:=fun b o e=>he b o (Nat.ne_of_lt (Heap.lt_size e)) e
    have L0:Le (Zf true env) μ s μ { s with heap:=h' }:=.ofKeep kp
    exact Z2 hi hb (fun _ _ _ _=>rfl) (I.grow (t:=s.toks) kp) (V.le I (.ofKeep kp)) (rs.mono (List.prefix_refl _) fun b o e _=>kp b o e) fun s2 L2 I2 V2=>k s2 (L0.trans L2) I2 V2
theorem xW {target value:Expr} {pos:Pos} {t:NTgt} {x:XE} {okf:Str→Str→Bool} (ht:xu sc target=some t) (hs:swapsWith value (some target) pos.line env=pure false) (hw:swappedStores [target] value env=pure none)
  (h:zx prog w X n cf sc env (eval value env) x):yo prog w X n cf sc env (exec (.Assign [target] value pos) env) (z9 okf (.names t) x):=by
 intro fr hp A l μ s Q E T R I V k
 refine w9 (by cases target <;> first | rfl | cases ht) hs hw (h R I V (PS.bindS k I V fun a v' h1 μ1 s1 L1 I1 r k=>?_))
 have k:PS X l sc env μ1 s1 (match t.bind a fr with
  | some fr₁=>OS.ok .next fr₁ h1
  | none=>.stuck) Q E:=k
 cases hb:t.bind a fr with
 | none=>rw [hb] at k;exact k.elim
 | some fr₁ =>
  rw [hb] at k
  exact xU (cb:=true) ht hb R.handled (fun h=>by cases h) I1 (V.le I L1) r fun s2 L2 I2 V2=>k _ μ1 s2 (L2.weak fun _ h=>xi h) I2 V2 .next
theorem ZD {o value:Expr} {name:Str} {p pos:Pos} {x y:XE} (g:Gd X G) (hs:swapsWith value (some (.Attribute o name p)) pos.line env=pure false)
  (h:zx prog w X n cf sc env (eval value env) x) (ho:zx prog w X n cf sc env (eval o env) y):yo prog w X n cf sc env (exec (.Assign [.Attribute o name p] value pos) env) (z9 G.okf (.attr y name) x):=by
 intro fr hp A l μ s Q E T R I V k
 refine w9 rfl hs rfl (h R I V (PS.bindS k I V fun a v' h1 μ1 s1 L1 I1 r k=>?_))
 rw [assign_Attribute]
 have V1:=V.le I L1
 refine wpAny_bind (wpAny_holding (ho R I1 V1 (PS.bindS (o:=y cf fr h1) k I1 V1 fun ov ov' h2 μ2 s2 L2 I2 ro k=>wpAny_bind (wpAny_standAt (wpAny_bind (wpAny_holding ?_))))))
 cases ov with
 | ref a₀ =>
  have k:PS X l sc env μ2 s2 (match h2[a₀]? with
   | some (.inst c fs)=>if G.okf c name && decide (fs.length<100) then OS.ok .next fr (h2.set a₀ (.inst c (wc name a fs))) else .stuck
   | _=>.stuck) Q E:=k
  cases ha:h2[a₀]? with
  | none=>rw [ha] at k;exact k.elim
  | some o' =>
   rw [ha] at k
   cases o' with
   | list _=>exact k.elim
   | dict _=>exact k.elim
   | inst c fs =>
    have k:PS X l sc env μ2 s2 (if (G.okf c name && decide (fs.length<100))=true then OS.ok .next fr (h2.set a₀ (.inst c (wc name a fs))) else .stuck) Q E:=k
    by_cases hok:(G.okf c name && decide (fs.length<100))=true
    ·rw [if_pos hok] at k
     obtain ⟨ok1,ok2⟩:=Bool.and_eq_true_iff.mp hok
     exact YC g I2 (V1.le I1 L2) ro ha (r.le I1 L2) ok1 (of_decide_eq_true ok2) fun s3 L3 I3 V3=>jR (k _ μ2 s3 L3 I3 V3 .next)
    ·rw [if_neg hok] at k;exact k.elim
 | _=>exact k.elim
theorem ZB {o i value:Expr} {p pos:Pos} {x y z:XE} {okf:Str→Str→Bool} (hs:swapsWith value (some (.Subscript o i p)) pos.line env=pure false)
  (h:zx prog w X n cf sc env (eval value env) x) (ho:zx prog w X n cf sc env (eval o env) y) (hi:zx prog w X n cf sc env (eval i env) z):yo prog w X n cf sc env (exec (.Assign [.Subscript o i p] value pos) env) (z9 okf (.item y z) x):=by
 intro fr hp A l μ s Q E T R I V k
 refine w9 rfl hs rfl (h R I V (PS.bindS k I V fun a v' h1 μ1 s1 L1 I1 r k=>?_))
 rw [assign_Subscript]
 have V1:=V.le I L1
 refine wpAny_bind (wpAny_holding (ho R I1 V1 (PS.bindS (o:=y cf fr h1) k I1 V1 fun ov ov' h2 μ2 s2 L2 I2 ro k=>wpAny_bind (wpAny_holding (hi R I2 (V1.le I1 L2) (k.bindS I2 (V1.le I1 L2) fun iv iv' h3 μ3 s3 L3 I3 ri k=>wpAny_bind (wpAny_standAt (wpAny_bind (wpAny_holding ?_)))))))))
 have k:PS X l sc env μ3 s3 (match qF h3 ov iv a with
  | some h₄=>.ok .next fr h₄
  | none=>.stuck) Q E:=k
 cases hst:qF h3 ov iv a with
 | none=>rw [hst] at k;exact k.elim
 | some h4 =>
  rw [hst] at k
  exact X2 hst I3 (ro.le I2 L3) ri ((r.le I1 L2).le I2 L3) fun s4 L4 I4=>jR (k _ μ3 s4 L4.own I4 (((V1.le I1 L2).le I2 L3).le I3 L4) .next)
end
end Mine
end
end
section
noncomputable section
namespace Mine
open PySem PySem.W PySem.Calls PyProof.Rows
section
variable {X:Cx} {μ:Mu} {hp:Hp} {s:Shared} {l:List Env}
noncomputable abbrev frA (l:List Env):List Addr:=l.filterMap (·.frame)
theorem Frs.at {h:Heap} (F:Frs X l μ h) {b:Addr} (m:b∈frA l):X.base.get? b=none∧b∉ze μ∧∃ o,h.get? b=some o∧isD o=true:=by
 obtain ⟨v,hv,e⟩:=List.mem_filterMap.mp m
 obtain ⟨_,L,o,f1,f2,f3,f4,f5⟩:=F v hv
 rw [e] at f1;cases f1
 exact ⟨f2,f3,o,f4,f5⟩
theorem Frs.funs {h:Heap}:∀ {l:List Env},Frs X l μ h→∀ as,(∀ b∈frA l,b∈as)→h.FunFrames (hideAll h as) l
 | [],_,_,_=>trivial
 | v::r,F,as,hin=>by
  obtain ⟨k,L,o,f1,f2,f3,f4,f5⟩:=F v (.head _)
  refine ⟨k,⟨L,o,f1,hideAll_none _ (hin L (List.mem_filterMap.mpr ⟨v,.head _,f1⟩)),f4,fun vs q=>?_⟩,Frs.funs (fun v' hv=>F v' (.tail _ hv)) as fun b hb=>hin b ?_⟩
  ·unfold isD at f5;rw [q] at f5;exact nob f5
  ·obtain ⟨v',hv,e⟩:=List.mem_filterMap.mp hb
   exact List.mem_filterMap.mpr ⟨v',.tail _ hv,e⟩
theorem zDz (F:Frs X l μ s.heap) (I:Inv X μ hp s) {h6:Heap} {t:Nat} (hB:(hideAll s.heap (frA l)).StaysIn h6) (hU:s.heap.UpToSlots h6) :
  Le noS μ s μ { s with heap:=h6,toks:=t }∧Inv X μ hp { s with heap:=h6,toks:=t }:=by
 have kp:∀ b o,s.heap.get? b=some o→b∉frA l→h6.get? b=some o:=fun b o e n=>hB b o (hideAll_get _ e n)
 have near:∀ b o,s.heap.get? b=some o→YA o (h6.get? b):=fun b o e=>by
  by_cases m:b∈frA l
  ·obtain ⟨_,_,o',e',d⟩:=F.at m
   rw [e] at e';cases e'
   exact .inr ⟨d,hU b o e fun vs q=>by unfold isD at d;rw [q] at d;cases d⟩
  ·exact .inl (kp b o e m)
 refine ⟨⟨List.prefix_refl _,fun _ h=>.inl h,fun b o e=>(near b o e).get.imp fun _ h=>h.1,fun b o _ _ e=>near b o e⟩,⟨I.len,I.nodup,I.above,fun i p o a b =>
  (I.rep i p o a b).mono (List.prefix_refl _) (fun b o e f=>(near b o e).exact f.notD) fun b hb o e=>kp b o e fun m=>(F.at m).2.1 (yU.mpr ⟨i,p,a,hb⟩),fun b o e=>kp b o (I.keep b o e) fun m=>?_,I.gens,I.os⟩⟩
 have:=(F.at m).1
 rw [e] at this;cases this
end
section
variable {prog:Program} {w:World} {X:Cx} {G:GTab} {n:Nat} {cf:CF} {sc:Sc} {env:Env}
theorem wS {x:Str} {pos:Pos} {A:Around} {l:List Env} {μ:Mu} {hp:Hp} {s:Shared} {fr:AFr} {c:Value} {Q:Value→Shared→Prop} {E:Value→Shared→Prop} (g:Gd X G) (hk:sc.kind x=some .globalImplicit) (e:nsIn X.K mainGlobals x=some (some c)) (I:Inv X μ hp s) (V:EnvR X l sc env fr μ s.heap)
  (hd:(x == ("__debug__" : Str))=false) (h:Q c s):wpAny (model prog w) A (eval (.Name x pos) env) Q E s:=by
 obtain ⟨mg,mb,ng,nb,hb⟩:=g.top
 exact Name_function_global V.fn ((V.kind x)▸hk) (loadGlobal_global (by rw [V.glob];exact ng.keeps I.keep) (mg_of g.K ng e) h) hd
theorem Wt {x m:Str} {np ap cpos pos:Pos} {cn:Nat} (g:Gd X G) (hx:G.exc x=true) (hk:sc.kind x=some .globalImplicit) (hd:(x == ("__debug__" : Str))=false) (z:m.length≤small) :
  yo prog w X n cf sc env (exec (.Raise (some (.Call (.Name x np) [.Constant (.str m) cn ap] [] cpos)) none pos) env) (yy x):=by
 intro fr hp A l μ s Q E T R I V k
 obtain ⟨C,mg,hC,O⟩:=g.exc x hx
 obtain ⟨tl,N,nm,q,bs,hdct,sn,sub,ab,col,dd,k0,k1,k2,k3,k5,mN,hCo,hN,hni,TL⟩:=(O.keeps I.keep).obj
 refine wpAny_Raise_call_subT (C:=C) (nm:=nm) (q:=q) (N:=N) (bs:=bs) (bm:=tl) (hdct:=hdct) (sn:=sn) (sub:=sub) (ab:=ab) (col:=col) (dd:=dd) (k0:=k0) (k1:=k1) (k2:=k2) (k3:=k3) (k5:=k5)
  PySem.F.excBase_ValueError (mN:=mN) (TL.hasType PySem.F.excBase_ValueError.hasBase) R.handled rfl hni (wS g hk hC I V hd ⟨rfl,?_⟩)
 refine yk (ts:=[eval (.Constant (.str m) cn ap) env]) (spliced_cons (wpAny_mkText (spliced_nil ⟨rfl,(show 1≤sizeLine by decide),hCo,hN,TL,fun h' e hx=>?_⟩)))
 have st:(hideAll s.heap (frA l)).StaysIn s.heap:=fun b o q=>of_hideAll _ q
 refine k e μ _ (hideAll s.heap (frA l)) C hC ⟨s.heap,_,hx,st,V.frs.funs _ fun _ h=>h⟩ fun h6 t g1 g2=>?_
 obtain ⟨L6,I6⟩:=zDz (t:=t) V.frs I g1 ((Heap.UpToSlots.of_keeps hx.keeps).trans g2)
 exact ⟨L6.own,I6,V.le I L6⟩
end
end Mine
end
end
section
noncomputable section
namespace Mine
open PySem PySem.W PySem.Calls
section
variable {prog:Program} {w:World} {X:Cx} {G:GTab} {n:Nat} {cf:CF} {sc:Sc} {env:Env}
theorem QR {target:Expr} {body:List Stmt} {t:NTgt} {bx:XS} {A:Around} {l:List Env} {s₁ s₂:Shared} {μ₁:Mu} {hp₁:Hp} {fr₁:AFr} {src:Src} {f:Nat} {it:Value} {its:List Addr} {St:Nat→Mu→Heap→Prop}
  {R':Result→Shared→Prop} {E:Value→Shared→Prop} (ht:xu sc target=some t) (hb:yo prog w X n cf sc env (execs body env) bx) (H:Hd1 env l) (R:Room n A l) (I:Inv X μ₁ hp₁ s₁) (V:EnvR X l sc env fr₁ μ₁ s₁.heap)
  (D:Drives prog w X target src it its St) (T:Its X s₁.heap μ₁ s₂.heap its) (st:St 0 μ₁ s₂.heap) (B:But [] s₁ s₂)
  (k:PS X l sc env μ₁ s₁ (xm t bx src f 0 cf fr₁ hp₁) (fun f s'=>R' (.ok f) s') E):codeAny (model prog w) A (.forLoop target it body [] env) R' s₂:=by
 have K:∀ b o,s₁.heap.get? b=some o→s₂.heap.get? b=some o:=fun b o q=>B.1 b o (by simp) q
 have I2:Inv X μ₁ hp₁ s₂:=⟨I.len,I.nodup,I.above,fun i p o a b=>(I.rep i p o a b).mono (List.prefix_refl _) (fun b o e _=>K b o e) fun b _ o e=>K b o e,fun b o q=>K b o (I.keep b o q),B.2.1.trans I.gens,B.2.2.trans I.os⟩
 have L2:Le noS μ₁ s₁ μ₁ s₂:=.ofKeep K
 refine codeAny_forLoop_any (fun m s=>∃ k fr hp μ,PS X l sc env μ₁ s₁ (xm t bx src m k cf fr hp) (fun f s'=>R' (.ok f) s') E∧Inv X μ hp s∧EnvR X l sc env fr μ s.heap∧Le (own env) μ₁ s₁ μ s∧Its X s₁.heap μ s.heap its∧St k μ s.heap) ?_ f ⟨0,fr₁,hp₁,μ₁,k,I2,V.le I L2,L2.own,T,st⟩
 rintro m s ⟨kk,fr,hp,μ,k,I,V,L,T,st⟩
 cases m with
 | zero=>exact k.elim
 | succ m =>
 have k:PS X l sc env μ₁ s₁ (match src.next? hp kk with
  | none=>OS.stuck
  | some none=>.ok .next fr hp
  | some (some x)=>(match Y4 hp t x fr with
   | none=>.stuck
   | some fr₁=>(match bx cf fr₁ hp with
    | .ok .next fr₂ h₂=>xm t bx src m (kk+1) cf fr₂ h₂
    | .ok (.ret v) fr₂ h₂=>.ok (.ret v) fr₂ h₂
    | _=>.stuck))) (fun f s'=>R' (.ok f) s') E:=k
 cases hx:src.next? hp kk with
 | none=>rw [hx] at k;exact k.elim
 | some ox =>
 rw [hx] at k
 cases ox with
 | none =>
  refine D.done R.handled I st hx fun s' B'=>wpAny_execs_nil ?_
  exact k .next μ s' (T.leR B' L) (T.invR B' I) (T.envR B' V) .next
 | some x =>
  dsimp only at k
  cases hbd:Y4 hp t x fr with
  | none=>rw [hbd] at k;exact k.elim
  | some fra =>
   rw [hbd] at k
   dsimp only at k
   refine D.item R.handled I T.out st hx (fun v s₁ h=>h) fun v s1 rv B1 st1=>?_
   have I1:=T.invR B1 I
   have V1:=T.envR B1 V
   have L1:=T.leR B1 L
   have T1:Its X s₁.heap μ s1.heap its:=⟨T.new,T.out,T.base,D.obj _ μ _ st1⟩
   refine Qc ht hbd R.handled I1 V1 rv fun s2 L2 I2 V2=>?_
   have L2o:Le (own env) μ s1 μ s2:=L2.weak fun _ h=>xi h
   obtain ⟨T2,k2⟩:=T1.later (fun b o h q=>wP V1 h q) L2o
   have st2:St (kk+1) μ s2.heap:=D.frame _ μ μ s1.heap s2.heap st1 (List.prefix_refl _) (fun b hb o q=>(k2 b hb).trans q) (L2o.fixed I1 (yV V1)) fun b o q=>⟨I1.keep b o q,I2.keep b o q⟩
   refine hb H R I2 V2 ?_
   cases eb:bx cf fra hp with
   | stuck=>rw [eb] at k;exact k.elim
   | exc nw c fr3 hp3=>rw [eb] at k;exact k.elim
   | ok fl3 fr3 hp3 =>
    rw [eb] at k
    intro fl4 μ3 s3 L3 I3 V3 r3
    have LL:=(L1.trans L2o).trans L3
    cases fl3 with
    | next =>
     rw [r3.next_]
     obtain ⟨T3,k3⟩:=T2.later (fun b o h q=>wP V2 h q) L3
     exact ⟨m,Nat.lt_succ_self _,kk+1,fr3,hp3,μ3,k,I3,V3,LL,T3,D.frame _ μ μ3 s2.heap s3.heap st2 L3.pre (fun b hb o q=>(k3 b hb).trans q) (L3.fixed I2 (yV V2)) fun b o q=>⟨I2.keep b o q,I3.keep b o q⟩⟩
    | ret u =>
     obtain ⟨u',rfl,ru⟩:=r3.ret_
     exact k _ μ3 s3 LL I3 V3 (.ret ru)
theorem z2v {target iter:Expr} {body:List Stmt} {pos:Pos} {t:NTgt} {bx:XS} {itx:XE} (ht:xu sc target=some t) (hset:jT iter=true) (hit:zx prog w X n cf sc env (eval iter env) itx) (hb:yo prog w X n cf sc env (execs body env) bx) :
  yo prog w X n cf sc env (exec (.For target iter body [] pos) env) (xo t itx false bx):=by
 intro fr hp A l μ s Q E H R I V k
 refine wpAny_For (hit R I V (PS.bindS k I V fun iv iv' h1 μ1 s1 L1 I1 ri k=>?_)) (fun x=>xy hset x)
 cases hsrc:xC h1 iv with
 | none=>rw [hsrc] at k;exact k.elim
 | some sn =>
  obtain ⟨src,nn⟩:=sn
  rw [hsrc] at k
  exact jI (target:=target) hsrc I1 ri fun it its St s2 D T st B=>QR ht hb H R I1 (V.le I L1) D T st B k
theorem Ws {t:Expr} {b:List Stmt} {pos:Pos} {x:XT} {y:XS} {m:Nat} (ht:wG prog w X n cf sc env (isTrue t env (eval t env)) x) (hb:yo prog w X n cf sc env (execs b env) y):yo prog w X n cf sc env (exec (.While t b [] pos) env) (yv x y m):=by
 intro fr hp A l μ s Q E H R I V k
 refine wpAny_While (codeAny_whileLoop (fun m s'=>∃ fr' hp' μ',PS X l sc env μ s (yv x y m cf fr' hp') Q E∧Inv X μ' hp' s'∧EnvR X l sc env fr' μ' s'.heap∧Le (own env) μ s μ' s') ?_ m ⟨fr,hp,μ,k,I,V,.refl⟩)
 rintro m s1 ⟨fr1,hp1,μ1,k,I1,V1,L1⟩
 cases m with
 | zero=>exact k.elim
 | succ m =>
 have k:PS X l sc env μ s (match x cf fr1 hp1 with
  | .ok b h₁=>(match b with
   | true=>(match y cf fr1 h₁ with
    | .ok .next fr₂ h₂=>yv x y m cf fr₂ h₂
    | .ok (.ret v) fr₂ h₂=>.ok (.ret v) fr₂ h₂
    | _=>.stuck)
   | false=>OS.ok .next fr1 h₁)
  | _=>.stuck) Q E:=k
 refine ht R I1 V1 ?_
 cases ex:x cf fr1 hp1 with
 | stuck=>rw [ex] at k;exact k.elim
 | exc=>rw [ex] at k;exact k.elim
 | ok b h2 =>
  rw [ex] at k
  intro b' μ2 s2 L2 I2 eb
  cases eb
  have V2:=V1.le I1 L2
  have L12:=L1.trans L2.own
  cases b with
  | false=>exact wpAny_execs_nil (k .next μ2 s2 L12 I2 V2 .next)
  | true =>
   refine hb H R I2 V2 ?_
   dsimp only at k
   cases ey:y cf fr1 h2 with
   | stuck=>rw [ey] at k;exact k.elim
   | exc=>rw [ey] at k;exact k.elim
   | ok fl fr3 hp3 =>
    rw [ey] at k
    intro fl' μ3 s3 L3 I3 V3 r3
    cases fl with
    | next=>rw [r3.next_];exact ⟨m,Nat.lt_succ_self _,fr3,hp3,μ3,k,I3,V3,L12.trans L3⟩
    | ret u =>
     obtain ⟨u',rfl,ru⟩:=r3.ret_
     exact k _ μ3 s3 (L12.trans L3) I3 V3 (.ret ru)
theorem wK {t:Sem Flow} {c:Prop} [Decidable c] {x:XS} (h:c→yo prog w X n cf sc env t x):yo prog w X n cf sc env t (if c then x else yG):=by
 by_cases q:c
 ·rw [if_pos q];exact h q
 ·rw [if_neg q];exact y3 (cf:=cf)
theorem qE {t:Sem Flow} {okf:Str→Str→Bool} {x:XE}:yo prog w X n cf sc env t (z9 okf .none x):=by
 exact fun _ _ _ _ k=>k.elim
theorem yw {t:Sem Flow} {okf:Str→Str→Bool} {tg:Tgt}:yo prog w X n cf sc env t (z9 okf tg zn):=by
 cases tg <;> exact fun _ _ _ _ k=>k.elim
theorem ZT {value:Expr} (h:XM value=false) (t:Option Expr) (line:Nat):swapsWith value t line env=pure false:=by
 cases value <;> first | rfl | exact nob h.symm
theorem z2f (value:Expr) {o:Expr} {x:Str} {p:Pos} (line:Nat):swapsWith value (some (.Attribute o x p)) line env=pure false:=by cases value <;> rfl
theorem z2e (value:Expr) {o i:Expr} {p:Pos} (line:Nat):swapsWith value (some (.Subscript o i p)) line env=pure false:=by cases value <;> rfl
theorem z2d (value:Expr) {es:List Expr} {k:Nat} {p:Pos} (line:Nat):swapsWith value (some (.Tuple es k p)) line env=pure false:=by cases value <;> rfl
theorem ZU {value t:Expr} (ht:Yu t value=false):swappedStores [t] value env=pure none:=by
 cases t with
 | Tuple=>cases value <;> first | rfl | exact nob ht.symm
 | List=>exact nob ht.symm
 | _=>rfl
theorem J6 {it e':Expr} (h:xj sc G it=some e'):∃ x p pos,it=.Call (.Name x p) [e'] [] pos∧sc.kind x=some .globalImplicit∧G.glob x=some (.bi .enumerate)∧qI e'=true∧(x == ("__debug__" : Str))=false:=by
 obtain ⟨c,h1,h⟩:=zS h
 obtain ⟨x,h2,h⟩:=zS h
 obtain ⟨a,h3,h⟩:=zS h
 obtain ⟨v,h4,h⟩:=zS h
 obtain ⟨b,h5,h⟩:=zS h
 obtain ⟨⟨q1,q2,q3,q4⟩,h⟩:=zb h
 cases h
 have hb:b=.enumerate:=by cases b <;> first | rfl | cases q1
 have hv:v=.bi b:=by cases v <;> first | (cases h5;rfl) | cases h5
 exact ⟨x.1,x.2,c.2.2,by rw [QZ h1,wT h2,qu h3],q2,by rw [h4,hv,hb],q3,q4⟩
theorem Wr {h:Hp} {v:AV} {a n:Nat} (e:xC h v=some (.ref a,n)):∃ xs,v=.ref a∧h[a]? = some (.list xs)∧n=xs.length:=by
 cases v with
 | ref b =>
  have e:(match h[b]? with | some (.list xs)=>some (Src.ref b,xs.length) | _=>none)=some (.ref a,n):=e
  cases q:h[b]? with
  | none=>rw [q] at e;exact nos e
  | some o =>
   rw [q] at e
   cases o with
   | inst=>exact nos e
   | dict=>exact nos e
   | list xs=>cases e;exact ⟨xs,rfl,q,rfl⟩
 | _=>cases e
theorem X0 {target it e':Expr} {body:List Stmt} {pos:Pos} {t:NTgt} {bx:XS} {itx:XE} (g:Gd X G) (ht:xu sc target=some t) (he:xj sc G it=some e')
  (hit:zx prog w X n cf sc env (eval e' env) itx) (hb:yo prog w X n cf sc env (execs body env) bx):yo prog w X n cf sc env (exec (.For target it body [] pos) env) (xo t itx true bx):=by
 intro fr hp A l μ s Q E H R I V k
 obtain ⟨x,p,cpos,rfl,hk,hg,hstar,hdb⟩:=J6 he
 clear he
 refine wpAny_For ?_ (fun x=>xy rfl x)
 rw [Wm (fun o name p h=>by cases h),ya env (by simp [hstar]),xT]
 refine wpAny_bind (Zu g hk hg I V hdb fun b' μ0 s0 L0 I0 r0=>?_)
 rw [r0.bi_]
 show wpAny _ _ (callWith cpos (jD .enumerate) [] ([eval e' env].map fun t=>(false,t)) []) _ _ _
 refine Z8 ?_
 have V0:=V.le I L0
 refine spliced_cons (hit R I0 V0 (PS.bindS (PS.le k L0.own) I0 V0 fun iv iv' h1 μ1 s1 L1 I1 ri k=>spliced_nil ?_))
 cases hsrc:xC h1 iv with
 | none=>rw [hsrc] at k;exact k.elim
 | some sn =>
 obtain ⟨src,nn⟩:=sn
 rw [hsrc] at k
 cases src with
 | imm=>exact k.elim
 | enum=>exact k.elim
 | ref a =>
 cases t with
 | one=>exact k.elim
 | many is =>
 obtain ⟨xs,rfl,ho,rfl⟩:=Wr hsrc
 obtain ⟨es,kk,tp,rfl⟩:=YQ ht
 have V1:=V0.le I0 L1
 obtain ⟨c,items,nn',rfl,hm,hl,z,rr⟩:=I1.list_at ri ho
 refine call_enumerate_1 hl fun h' hE hIt hz hk'=>?_
 refine wpAny_pyIter_enum (s:={ s1 with heap:=h' }) hE ?_
 have fr1:∀ b,s1.heap.objs.size≤b→s1.heap.get? b=none:=fun b hb=>by
  cases q:s1.heap.get? b with
  | none=>rfl
  | some o=>exact absurd (Heap.lt_size q) (Nat.not_lt.mpr hb)
 have hne:s1.heap.objs.size+1≠s1.heap.objs.size:=by lia
 have frI:∀ b∈[s1.heap.objs.size+1,s1.heap.objs.size],s1.heap.get? b=none:=fun b hb=>fr1 b (by
  simp at hb
  rcases hb with rfl | rfl
  ·exact Nat.le_succ _
  ·exact Nat.le_refl _)
 have T:Its X s1.heap μ1 h' [s1.heap.objs.size+1,s1.heap.objs.size]:=by
  refine ⟨frI,fun b hb h=>?_,fun b hb=>?_,(Drives.enum (prog:=prog) (w:=w) (X:=X) (elts:=es) (x1:=kk) (pos:=tp) (a:=a) hne).obj 0 μ1 h' ⟨_,_,hm,hIt,hE⟩⟩
  ·obtain ⟨o,ho,_⟩:=I1.mut h
   rw [frI b hb] at ho;exact nos ho
  ·cases q:X.base.get? b with
   | none=>rfl
   | some o=>have:=I1.keep b o q;rw [frI b hb] at this;exact nos this
 exact QR (s₂:={ s1 with heap:=h' }) ht hb H R I1 V1 (Drives.enum hne) T ⟨_,_,hm,hIt,hE⟩ ⟨fun b o _ q=>hk' b o q,rfl,rfl⟩ k
theorem Qu {e:Expr} {p:Str×Str} (h:ZI e=some p):∃ np k0 ap cp,e=.Call (.Name p.1 np) [.Constant (.str p.2) k0 ap] [] cp:=by
 obtain ⟨c,h1,h⟩:=zS h
 obtain ⟨x,h2,h⟩:=zS h
 obtain ⟨a,h3,h⟩:=zS h
 obtain ⟨k,h4,h⟩:=zS h
 obtain ⟨m,h5,rfl⟩:=yC h
 exact ⟨x.2,k.2.1,k.2.2,c.2.2,by rw [QZ h1,wT h2,qu h3,ww h4,z2g h5]⟩
theorem Yq {e:Expr} {v:HV} (h:JN sc e=some v):(∃ i k p,e=.Constant (.int i) k p∧v=.int i)∨(∃ z p j,e=.Name z p∧sc.isOwn z=some j∧v=.slot j∧(z == ("__debug__" : Str))=false∧(z == ("__classdict__" : Str))=false):=by
 have h:(match jJ e with
  | some k=>(z3p k.1).map HV.int
  | none=>(Zi e).bind fun x=>(sc.isOwn x.1).bind fun j=>if (x.1 == ("__debug__" : Str))=false∧(x.1 == ("__classdict__" : Str))=false then some (.slot j) else none)=some v:=h
 cases q:jJ e with
 | some k =>
  rw [q] at h
  obtain ⟨i,h1,rfl⟩:=yC h
  exact .inl ⟨i,k.2.1,k.2.2,by rw [ww q,Wh h1],rfl⟩
 | none =>
  rw [q] at h
  obtain ⟨x,h1,h⟩:=zS h
  obtain ⟨j,h2,h⟩:=zS h
  obtain ⟨h3,rfl⟩:=zb h
  exact .inr ⟨x.1,x.2,j,wT h1,h2,rfl,h3⟩
theorem zEd {s:Stmt} {t:Expr×List Stmt×List Stmt×Pos} (h:ifS s=some t):s=.If t.1 t.2.1 t.2.2.1 t.2.2.2:=wJ (o:=ifT s) h
theorem z41 {e:Expr} {t:Expr×List CmpOp×List Expr×Pos} (h:zGn e=some t):e=.Compare t.1 t.2.1 t.2.2.1 t.2.2.2:=wJ (o:=zGm e) h
theorem z35 {s:Stmt} {t:Expr×Pos} (h:zF3 s=some t):s=.Return (some t.1) t.2:=wJ (o:=zF2 s) h
theorem z3n {o:CmpOp} (h:z15 o=true):o=.Eq:=by
 cases o with
 | Eq=>rfl
 | _=>exact nob h
theorem zEc {c:Const} (h:zGb c=true):c=.bool false:=by
 cases c with
 | bool b=>cases b with
  | false=>rfl
  | true=>exact nob h
 | _=>exact nob h
theorem Zt {e:Expr} {v:HV} {u:AV} {A:Around} {l:List Env} {μ:Mu} {s:Shared} {fr:AFr} {hp:Hp} {Q:Value→Shared→Prop} {E:Value→Shared→Prop} (hv:JN sc e=some v) (hu:v.of fr=some u) (I:Inv X μ hp s) (V:EnvR X l sc env fr μ s.heap) (k:PE X μ s u hp Q):wpAny (model prog w) A (eval e env) Q E s:=by
 rcases Yq hv with ⟨j,kk,p,rfl,rfl⟩ | ⟨z,p,j,rfl,hz,rfl,z1,z2⟩
 ·cases hu
  exact wpAny_mkInt (k _ μ _ (.tok _) (I.tok _) (.int _ _))
 ·have hu:(fr[j]?).join=some u:=hu
  obtain ⟨kz,sz⟩:=ja hz
  cases hf:fr[j]? with
  | none=>rw [hf] at hu;exact nos hu
  | some o =>
   rw [hf] at hu
   have hu:o=some u:=hu
   subst hu
   exact YJ (kz.imp id .inl) sz hf I V z1 z2 k
theorem z18 {st:Stmt} {b:HB} {A:Around} {l:List Env} {μ:Mu} {s:Shared} {fr:AFr} {hp:Hp} {Q:Flow→Shared→Prop} {E:Value→Shared→Prop} (h:z1v sc st=some b) (I:Inv X μ hp s) (V:EnvR X l sc env fr μ s.heap) (k:PS X l sc env μ s (b.run fr hp) Q E) {E':Value→Shared→Prop}:wpAny (model prog w) A (execs [st] env) Q E' s:=by
 have h:(match zEt sc st with
  | some b=>some b
  | none=>zDr sc st)=some b:=h
 cases ha:zEt sc st with
 | some b' =>
  rw [ha] at h
  cases h
  obtain ⟨a,h1,h⟩:=zS ha
  obtain ⟨y,h2,h⟩:=zS h
  obtain ⟨y',h3,h⟩:=zS h
  obtain ⟨i,h4,h⟩:=zS h
  obtain ⟨v,h5,rfl⟩:=yC h
  have k:PS X l sc env μ s (if i<fr.length then (match v.of fr with
   | some u=>.ok .next (fr.set i (some u)) hp
   | none=>.stuck) else .stuck) Q E:=k
  by_cases hi:i<fr.length
  rotate_left
  ·rw [if_neg hi] at k;exact k.elim
  rw [if_pos hi] at k
  cases hu:v.of fr with
  | none=>rw [hu] at k;exact k.elim
  | some u =>
  rw [hu] at k
  obtain ⟨hky,hsy⟩:=ja h4
  rw [z46 h1,qu h2,wT h3]
  have hc:XM a.2.1=false∧Yu (.Name y'.1 y'.2) a.2.1=false:=by
   rcases Yq h5 with ⟨j,kk,p,e,_⟩ | ⟨z,p,j,e,_⟩ <;> rw [e] <;> exact ⟨rfl,rfl⟩
  refine wpAny_execs_cons (w9 rfl (ZT hc.1 _ _) (ZU hc.2) (Zt h5 hu I V fun u' μ7 s7 L7 I7 ru=>?_))
  rw [PySem.assign_Name]
  exact wpAny_bind (wpAny_standAt (jN (cb:=true) I7 (V.le I L7) hky (fun _=>rfl) hsy hi ru fun s8 L8 I8 V8=>wpAny_execs_nil (k .next _ s8 (L7.own.trans (L8.weak fun _ h=>xi h)) I8 V8 .next)))
 | none =>
  rw [ha] at h
  obtain ⟨t,h1,h⟩:=zS (show zDr sc st=some b from h)
  obtain ⟨c,h2,h⟩:=zS h
  obtain ⟨op,h3,h⟩:=zS h
  obtain ⟨r,h4,h⟩:=zS h
  obtain ⟨q,h5,h⟩:=zS h
  obtain ⟨e,h6,h⟩:=zS h
  obtain ⟨kk,h7,h⟩:=zS h
  obtain ⟨a,h8,h⟩:=zS h
  obtain ⟨v,h9,h⟩:=zS h
  obtain ⟨⟨c1,c2,c3⟩,rfl⟩:=zb h
  have k:PS X l sc env μ s (match (a.of fr).bind y8 with
   | none=>.stuck
   | some i=>(match (v.of fr).bind y8 with
    | none=>.stuck
    | some j=>if i=j then .ok (.ret (.bool false)) fr hp else .ok .next fr hp)) Q E:=k
  cases ea:(a.of fr).bind y8 with
  | none=>rw [ea] at k;exact k.elim
  | some i =>
  rw [ea] at k
  dsimp only at k
  cases ev:(v.of fr).bind y8 with
  | none=>rw [ev] at k;exact k.elim
  | some j =>
  rw [ev] at k
  dsimp only at k
  obtain ⟨ua,ga,ea⟩:=zS ea
  obtain ⟨uv,gv,ev⟩:=zS ev
  rw [zv ea] at ga
  rw [zv ev] at gv
  have hm:behindInMarks .Eq r=false:=by
   rcases Yq h9 with ⟨j,kk,p,e,_⟩ | ⟨z,p,j,e,_⟩ <;> rw [e] <;> rfl
  rw [zEd h1,z41 h2,qu h3,qu h4,z3n c2,List.isEmpty_iff.mp c1,qu h5,z35 h6,ww h7,zEc c3]
  refine wpAny_execs_cons (wpAny_If (wpAny_isTrue_Compare1 (Zt h8 ga I V fun a' μ1 s1 L1 I1 r1=>Zt h9 gv I1 (V.le I L1) fun b' μ2 s2 L2 I2 r2=>?_) hm))
  obtain ⟨t1,rfl⟩:=r1.int_
  obtain ⟨t2,rfl⟩:=r2.int_
  have V2:=(V.le I L1).le I1 L2
  have L12:Le (own env) μ s μ2 s2:=L1.own.trans L2.own
  refine wpAny_eq_int (wpAny_truthy_bool ?_)
  by_cases hij:i=j
  ·rw [if_pos hij] at k
   rw [beq_iff_eq.mpr hij]
   exact wpAny_execs_cons (wpAny_Return_some (wpAny_pure (k _ μ2 s2 L12 I2 V2 (.ret (.bool _)))))
  ·rw [if_neg hij] at k
   rw [beq_eq_false_iff_ne.mpr hij]
   exact wpAny_execs_nil (wpAny_execs_nil (k _ μ2 s2 L12 I2 V2 .next))
theorem XN {h:ExceptHandler} {p:Str×HB} (e:qi G sc h=some p):∃ np st hp,h=.ExceptHandler (some (.Name p.1 np)) none [st] hp∧z1v sc st=some p.2∧G.exc p.1=true∧sc.kind p.1=some .globalImplicit∧(p.1 == ("__debug__" : Str))=false:=by
 obtain ⟨t,h2,e⟩:=zS e
 obtain ⟨x,h3,e⟩:=zS e
 obtain ⟨s,h4,e⟩:=zS e
 obtain ⟨b,h5,e⟩:=zS e
 obtain ⟨⟨c1,c2⟩,rfl⟩:=zb e
 exact ⟨x.2,s,(Z5 h).2.2.2,by conv=>lhs;rw [z19 h,h2,Option.isNone_iff_eq_none.mp c1,wT h3,qu h4],h5,c2⟩
theorem z1a {c:Str} {fr:AFr} {h:Hp} {ps:List (Str×HB)} (e:W9 c fr h ps≠.stuck):∃ q∈ps,q.1=c:=by
 induction ps with
 | nil=>exact absurd rfl e
 | cons p r ih =>
  by_cases hc:c=p.1
  ·exact ⟨p,.head _,hc.symm⟩
  ·obtain ⟨q,hq,e⟩:=ih (fun q=>e ((if_neg hc).trans q))
   exact ⟨q,.tail _ hq,e⟩
theorem z2o {b:List Stmt} {bx:XS} {hs:List ExceptHandler} {ps:List (Str×HB)} {pos:Pos} (g:Gd X G) (hm:yI (qi G sc) hs=some ps) (hw:pwq G.exq ps=true) (hne:ps.isEmpty=false)
  (hb:yo prog w X n cf sc env (execs b env) bx):yo prog w X n cf sc env (exec (.Try b hs [] [] pos) env) (YD bx ps):=by
 intro fr hp A l μ s Q E T R I V k
 cases hs with
 | nil=>cases hm;exact nob hne.symm
 | cons h0 hs =>
 replace k:PS X l sc env μ s (match bx cf fr hp with
  | .stuck=>.stuck
  | .ok fl fr' h'=>.ok fl fr' h'
  | .exc nw c' fr' h'=>(match nw with
   | true=>.stuck
   | false=>W9 c' fr' h' ps)) Q E:=k
 refine wpAny_Try_except (hb T R I V ?_)
 cases q:bx cf fr hp with
 | stuck=>rw [q] at k;exact k.elim
 | ok fl fr' h' =>
  rw [q] at k
  intro fl' μ' s' L' I' V' r
  cases fl with
  | next=>rw [r.next_];exact wpAny_execs_nil (k .next μ' s' L' I' V' .next)
  | ret u =>
   obtain ⟨u',rfl,ru⟩:=r.ret_
   exact k _ μ' s' L' I' V' (.ret ru)
 | exc nw c' fr' h' =>
  rw [q] at k
  cases nw with
  | true=>exact k.elim
  | false =>
  replace k:PS X l sc env μ s (W9 c' fr' h' ps) Q E:=k
  rintro e μ' s' B C hC ⟨a0,hfl⟩ cl
  obtain ⟨outer,rfl,hf⟩:=T
  refine wpAny_looks_onW R.frames hf hfl fun h₄ hheld hsm₄=>wpAny_landsW hheld fun h₅ hfl₅ hsm₅=>?_
  have U5:=hsm₄.trans hsm₅
  obtain ⟨_,I5,V5⟩:=cl h₅ s'.toks hfl₅.1 U5
  obtain ⟨ob,hob,hobc⟩:=hfl₅.there
  clear hne
  revert hm;revert hw;revert k
  generalize h0::hs=hl
  intro k hw hm
  induction hl generalizing ps with
  | nil=>cases hm;exact k.elim
  | cons h1 hl ih =>
   obtain ⟨p,ps',e1,e2,rfl⟩:=qh hm
   obtain ⟨np,st,hpos,rfl,hst,hx,hk,hd⟩:=XN e1
   have k2:PS X (env::outer) sc env μ s (if c'=p.1 then p.2.run fr' h' else W9 c' fr' h' ps') Q E:=k
   clear k
   obtain ⟨w1,w2⟩:=Bool.and_eq_true_iff.mp (show (ps'.all (fun q=>G.exq q.1 p.1) && pwq G.exq ps')=true from hw)
   by_cases hc:c'=p.1
   ·rw [if_pos hc] at k2
    subst hc
    obtain ⟨C',mg,hC',O⟩:=g.exc p.1 hx
    rw [hC] at hC';cases hC'
    obtain ⟨tl,N,nm,q,bs,hdct,sn,sub,ab,col,dd,k0,k1,k2',k3,k5,mN,hCo,hN,hni,TL⟩:=(O.keeps I5.keep).obj
    refine wpAny_handleBy_cons (codeAny_handlers_test (wS g hk hC I5 V5 hd ?_)) (by intro q;cases q)
    refine wpAny_excMatches_sub_self hCo hob hobc (TL.hasType PySem.F.excBase_ValueError.hasBase) (codeAny_handlers_suite ?_)
    refine PyProof.Rows.lands_againW hfl₅ fun h₆ hfl₆ hsm₆=>?_
    obtain ⟨L6,I6,V6⟩:=cl h₆ s'.toks hfl₆.1 (U5.trans hsm₆)
    exact z18 hst I6 V6 (PS.le k2 L6)
   ·rw [if_neg hc] at k2
    obtain ⟨q1,hq,hq1⟩:=z1a (fun e=>by rw [e] at k2;exact k2)
    subst hq1
    obtain ⟨C',D,hC',hD,hm⟩:=g.exq _ _ (List.all_eq_true.mp w1 q1 hq)
    rw [hC] at hC';cases hC'
    refine wpAny_handleBy_cons (codeAny_handlers_test (wS g hk hD I5 V5 hd ?_)) (by intro q;cases q)
    refine Looks.here (exm_one (I5.kin g.K) (hobc▸(Looks.ld hob).andThen .now) hm) ?_
    exact ih k2 w2 e2
theorem z1l (g:Gd X G) (hcf:SndCF prog w X n cf) (f:Nat):(∀ sc env st,yo prog w X n cf sc env (exec st env) (dS G f sc st))∧(∀ sc env sts,yo prog w X n cf sc env (execs sts env) (dSs G f sc sts)):=by
 induction f with
 | zero=>exact ⟨fun _ _ _=>y3 (cf:=cf),fun _ _ _=>y3 (cf:=cf)⟩
 | succ f ih =>
  obtain ⟨hS,hSs⟩:=ih
  obtain ⟨hE,hT,hO⟩:=Wk g hcf f
  refine ⟨fun sc env st=>?_,fun sc env sts=>Wu (hS _ _) sts⟩
  cases st with
  | Return eo pos =>
   cases eo with
   | some e=>exact z2q (hE _ _ _)
   | none=>exact Ja (cf:=cf)
  | Expr e₀ pos=>exact wK fun h=>Jf (ZT h _ _) (hE _ _ _)
  | Assign ts e₀ pos =>
   cases ts with
   | nil=>exact y3 (cf:=cf)
   | cons t ts =>
   cases ts with
   | cons _ _=>exact y3 (cf:=cf)
   | nil =>
    refine wK fun hsb=>?_
    have hw:=ZU (env:=env) hsb
    cases t with
    | Name x px =>
     show yo prog w X n cf sc env _ (z9 G.okf (match xu sc (.Name x px) with | some t=>.names t | none=>.none) (dE G f sc e₀))
     cases ht:xu sc (.Name x px) with
     | none=>exact qE (cf:=cf)
     | some t' =>
      cases hc:XM e₀ with
      | false=>exact xW ht (ZT hc _ _) hw (hE _ _ _)
      | true =>
       cases e₀ with
       | ListComp elt gs sp lp =>
        obtain ⟨b,hb⟩:∃ b,swapsWith (.ListComp elt gs sp lp) (some (.Name x px)) pos.line env=pure b:=⟨_,rfl⟩
        cases b with
        | false=>exact xW ht hb hw (hE _ _ _)
        | true =>
        cases f with
        | zero=>exact yw (cf:=cf)
        | succ f =>
        obtain ⟨hE',hT',hO'⟩:=Wk g hcf f
        cases gs with
        | nil=>exact yw (cf:=cf)
        | cons gg gs =>
        cases gs with
        | cons _ _=>exact yw (cf:=cf)
        | nil =>
         obtain ⟨target,iter,ifs,as⟩:=gg
         show yo prog w X n cf sc env _ (z9 G.okf (.names t') (if qO sc sp=true∧as=0∧jT iter=true∧qD sp target=true then (match xu (sc.inner sp) target with
          | some t=>yE (dE G f sc iter) (zr sp).length t (zT .And (ifs.map (dT G f (sc.inner sp)))) (dE G f (sc.inner sp) elt)
          | none=>zn) else zn))
         by_cases h:qO sc sp=true∧as=0∧jT iter=true∧qD sp target=true
         ·rw [if_pos h]
          have h2:as=0:=h.2.1
          subst h2
          cases ht':xu (sc.inner sp) target with
          | none=>exact yw (cf:=cf)
          | some t =>
           exact ZC h.1 ht' h.2.2.2 h.2.2.1 (fun env'=>wI (wj (hT' _ _) _)) (fun env'=>hE' _ _ _) (hE' _ _ _) ht hb
         ·rw [if_neg h];exact yw (cf:=cf)
       | SetComp=>cases f <;> exact yw (cf:=cf)
       | DictComp=>cases f <;> exact yw (cf:=cf)
       | _=>exact nob hc
    | Attribute o name p =>
     show yo prog w X n cf sc env _ (z9 G.okf (if qZ o=false then .attr (dE G f sc o) name else .none) (dE G f sc e₀))
     by_cases h:qZ o=false
     ·rw [if_pos h];exact ZD g (z2f e₀ _) (hE _ _ _) (hE _ _ _)
     ·rw [if_neg h];exact qE (cf:=cf)
    | Subscript o i p =>
     show yo prog w X n cf sc env _ (z9 G.okf (match qP i with | some _=>.none | none=>.item (dE G f sc o) (dE G f sc i)) (dE G f sc e₀))
     cases qP i with
     | some _=>exact qE (cf:=cf)
     | none=>exact ZB (z2e e₀ _) (hE _ _ _) (hE _ _ _) (hE _ _ _)
    | Tuple es kk p =>
     show yo prog w X n cf sc env _ (z9 G.okf (match xu sc (.Tuple es kk p) with | some t=>.names t | none=>.none) (dE G f sc e₀))
     cases ht:xu sc (.Tuple es kk p) with
     | none=>exact qE (cf:=cf)
     | some t'=>exact xW ht (z2d e₀ _) hw (hE _ _ _)
    | List=>cases hsb
    | _ =>
     show yo prog w X n cf sc env _ (z9 G.okf .none (dE G f sc e₀))
     exact qE (cf:=cf)
  | Raise eo co pos =>
   cases co with
   | some _=>exact y3 (cf:=cf)
   | none =>
   cases eo with
   | none=>exact y3 (cf:=cf)
   | some e₀ =>
    show yo prog w X n cf sc env _ (match ZI e₀ with
     | some p=>if G.exc p.1=true∧sc.kind p.1=some .globalImplicit∧(p.1 == ("__debug__" : Str))=false∧p.2.length≤small then yy p.1 else yG
     | none=>yG)
    cases q:ZI e₀ with
    | none=>exact y3 (cf:=cf)
    | some p =>
     obtain ⟨np,k0,ap,cp,rfl⟩:=Qu q
     exact wK fun h=>Wt (cf:=cf) g h.1 h.2.1 h.2.2.1 h.2.2.2
  | Try b hs el fi pos =>
   cases el with
   | cons _ _=>exact y3 (cf:=cf)
   | nil =>
   cases fi with
   | cons _ _=>exact y3 (cf:=cf)
   | nil =>
    show yo prog w X n cf sc env _ (match yI (qi G sc) hs with
     | some ps=>if pwq G.exq ps=true∧ps.isEmpty=false then YD (dSs G f sc b) ps else yG
     | none=>yG)
    cases q:yI (qi G sc) hs with
    | none=>exact y3 (cf:=cf)
    | some ps=>exact wK fun h=>z2o g q h.1 h.2 (hSs _ _ _)
  | If t a b pos=>exact z2t (hT _ _ _) (hSs _ _ _) (hSs _ _ _)
  | While t b els pos =>
   cases els with
   | nil=>exact Ws (hT _ _ _) (hSs _ _ _)
   | cons _ _=>exact y3 (cf:=cf)
  | For t it b els pos =>
   cases els with
   | cons _ _=>exact y3 (cf:=cf)
   | nil =>
    show yo prog w X n cf sc env _ (match xu sc t with
     | some t=>(match xj sc G it with
      | some e=>xo t (dE G f sc e) true (dSs G f sc b)
      | none=>if jT it=true then xo t (dE G f sc it) false (dSs G f sc b) else yG)
     | none=>yG)
    cases ht:xu sc t with
    | none=>exact y3 (cf:=cf)
    | some t' =>
     dsimp only
     cases he:xj sc G it with
     | some e=>exact X0 g ht he (hE _ _ _) (hSs _ _ _)
     | none=>exact wK fun h=>z2v ht h (hE _ _ _) (hSs _ _ _)
  | _=>exact y3 (cf:=cf)
end
noncomputable def z3m:Value→Bool
 | .none=>true
 | _=>false
noncomputable def yF (s:Scope) (ps:List Str):List Str:=ps++((s.names.filter fun p=>p.2 == .local || p.2 == .cell).map (·.1)).filter fun x=>!ps.contains x
noncomputable def Jy (s:Scope) (ps:List Str):Sc where
 kind:=fun x=>s.names.lookup x
 slot:=fun x=>jc x (yF s ps) 0
 width:=(yF s ps).length
noncomputable def yg (fd:FuncData):List Str:=fd.params.args.map (·.arg)
noncomputable def XQ (K:Frag) (fd:FuncData):Bool :=
 fd.params.posonlyargs.isEmpty && fd.params.kwonlyargs.isEmpty && fd.params.vararg.isNone && fd.params.kwarg.isNone && z3m fd.defaults && fd.closure.isEmpty && codeIn K fd.code fd.qualname && fd.scope.kind == .function &&
 !fd.scope.isCoroutine && !fd.scope.isGenerator && fd.globals == mainGlobals && fd.builtins == builtinsNs && (yg fd).Nodup && (yg fd).all (fun x=>fd.scope.names.lookup x == some .local || fd.scope.names.lookup x == some .cell) &&
 fd.scope.names.all fun p=>p.2 == .local || p.2 == .cell || p.2 == .globalImplicit
noncomputable def zGe:Data→Option FuncData
 | .func fd=>some fd
 | _=>none
noncomputable def zEx:FuncBody→Option (List Stmt)
 | .stmts b=>some b
 | _=>none
theorem z3t {d:Data} {fd:FuncData} (h:zGe d=some fd):d=.func fd:=by
 cases d with
 | func=>cases h;rfl
 | _=>exact nos h
theorem z2h {d:FuncBody} {b:List Stmt} (h:zEx d=some b):d=.stmts b:=by
 cases d with
 | stmts=>cases h;rfl
 | _=>exact nos h
noncomputable def z3u (G:GTab) (fd:FuncData) (body:List Stmt):Fn:=⟨(yg fd).length,(yF fd.scope (yg fd)).length,dSs G 60 (Jy fd.scope (yg fd)) body⟩
noncomputable def QS (G:GTab) (K:Frag) (f:Addr):Option Fn:=(K.lookup f).bind fun o=>(zGe o.data).bind fun fd=>if XQ K fd=true then (zEx fd.body).map (z3u G fd) else none
theorem Wj {G:GTab} {K:Frag} {f:Addr} {F:Fn} (h:QS G K f=some F):∃ o fd b,K.lookup f=some o∧o.data=.func fd∧XQ K fd=true∧fd.body=.stmts b∧F=z3u G fd b:=by
 obtain ⟨o,h1,h⟩:=zS h
 obtain ⟨fd,h2,h⟩:=zS h
 obtain ⟨h3,h⟩:=XK h
 obtain ⟨b,h4,h5⟩:=yC h
 exact ⟨o,fd,b,h1,z3t h2,h3,z2h h4,h5.symm⟩
theorem YI:∀ (ps:List Str) (vals:List Value),ps.Nodup→vals.length=ps.length→ps.filterMap (fun n=>((ps.zip vals).lookup n).map (n,·))=ps.zip vals:=by
 intro ps vals nd hl
 have key:∀ (qs:List Str) (us:List Value) (pre:List (Str×Value)),us.length=qs.length→qs.Nodup→(∀ x∈qs,pre.lookup x=none)→qs.filterMap (fun n=>((pre++qs.zip us).lookup n).map (n,·))=qs.zip us:=by
  intro qs
  induction qs with
  | nil=>intro us pre h _ _;cases us <;> simp
  | cons q qs ih =>
   intro us pre h nd hp
   cases us with
   | nil=>cases h
   | cons u us =>
    have e:(pre++(q,u)::qs.zip us).lookup q=some u:=by
     rw [List.lookup_append,hp q (.head _)];simp
    rw [List.zip_cons_cons,List.filterMap_cons,e]
    simp only [Option.map_some]
    congr 1
    have:=ih us (pre++[(q,u)]) (by simpa using h) (List.nodup_cons.mp nd).2 (fun x hx=>by
     rw [List.lookup_append,hp x (.tail _ hx)]
     have:(x == q)=false:=by
      simp only [beq_eq_false_iff_ne,ne_eq];rintro rfl;exact (List.nodup_cons.mp nd).1 hx
     simp [List.lookup_cons,this])
    rw [List.append_assoc] at this
    exact this
 exact key ps vals [] hl nd (fun _ _=>rfl)
theorem wC:∀ {ps:List Str} {vals:List Value},vals.length=ps.length→∀ x∈ps,((ps.zip vals).lookup x).isNone=false
 | [],_,_,x,h=>by cases h
 | p::ps,[],h,_,_=>by cases h
 | p::ps,v::vals,h,x,hx=>by
  rw [List.zip_cons_cons,List.lookup_cons]
  split
  ·rfl
  ·rename_i hq
   cases hx with
   | head=>simp at hq
   | tail _ hx=>exact wC (by simpa using h) x hx
theorem Y5 {fd:FuncData} {vals:List Value} (h1:fd.params.posonlyargs=[]) (h2:fd.params.kwonlyargs=[]) (h3:fd.params.vararg=none) (h4:fd.params.kwarg=none) (h5:fd.defaults=.none) (nd:(yg fd).Nodup)
  (hl:vals.length=(yg fd).length):bindArgs fd ⟨vals,[]⟩=pure ((yg fd).zip vals):=by
 have hz:=YI (yg fd) vals nd hl
 have hm:(yg fd).filter (fun n=>(((yg fd).zip vals).lookup n).isNone)=[]:=List.filter_eq_nil_iff.mpr fun x hx=>by rw [wC hl x hx];simp
 obtain ⟨nm,q,⟨po,ar,va,ko,kd,kw,df⟩,bd,sc,gl,cl,d,kdf,doc,pm,an,cd,ct,bl⟩:=fd
 dsimp only at h1 h2 h3 h4 h5
 subst h1 h2 h3 h4 h5
 have hm:(ar.map Arg.arg).filter (fun n=>(((ar.map Arg.arg).zip vals).lookup n).isNone)=[]:=hm
 have hz:(ar.map Arg.arg).filterMap (fun n=>(((ar.map Arg.arg).zip vals).lookup n).map (n,·))=(ar.map Arg.arg).zip vals:=hz
 have hl:vals.length=(ar.map Arg.arg).length:=hl
 show _=pure ((ar.map Arg.arg).zip vals)
 refine Eq.trans (b:=ite ((decide (vals.length > (([]:List Str)++ar.map Arg.arg).length) && (none:Option Arg).isNone)=true) _ _) rfl ?_
 refine (if_neg (by rw [hl];simp)).trans ?_
 have e0:List.drop (([]:List Value).length - (([]:List Str)++ar.map Arg.arg).length) ([]:List Value)=[]:=List.drop_nil
 refine Eq.trans (b:=ite ((!(((([]:List Str)++ar.map Arg.arg).take ((([]:List Str)++ar.map Arg.arg).length - (List.drop (([]:List Value).length - (([]:List Str)++ar.map Arg.arg).length) ([]:List Value)).length)).filter (fun n=>(((ar.map Arg.arg).zip vals).lookup n).isNone)).isEmpty)=true) _ _) rfl ?_
 refine (if_neg ?_).trans ?_
 ·rw [e0];show ¬ (!(List.filter _ (List.take (ar.map Arg.arg).length (ar.map Arg.arg))).isEmpty)=true
  rw [List.take_length,hm];simp
 refine Eq.trans (b:=(forIn (m:=Sem) ((List.drop ((([]:List Str)++ar.map Arg.arg).length - (List.drop (([]:List Value).length - (([]:List Str)++ar.map Arg.arg).length) ([]:List Value)).length) (([]:List Str)++ar.map Arg.arg)).zip (List.drop (([]:List Value).length - (([]:List Str)++ar.map Arg.arg).length) ([]:List Value))) ((ar.map Arg.arg).zip vals) _ >>= _)) rfl ?_
 rw [e0,List.zip_nil_right]
 refine Eq.trans (b:=(pure ((ar.map Arg.arg++[]).filterMap (fun n=>(((ar.map Arg.arg).zip vals).lookup n).map (n,·))):Sem _)) rfl ?_
 rw [List.append_nil,hz]
theorem Ym {kd:Str→Option NameKind} {x:Str}:∀ {ps:List Str} {vals:List Value} {m:Str→Option Value},x∉ps→bindL kd (ps.zip vals) m x=m x
 | [],vals,m,_=>by simp [bindL]
 | p::ps,[],m,_=>by simp [bindL]
 | p::ps,v::vals,m,h=>by
  rw [List.zip_cons_cons,bindL,Ym (fun q=>h (.tail _ q))]
  split
  ·exact if_neg (fun (q:x=p)=>h (q▸.head _))
  ·rfl
theorem Qb {kd:Str→Option NameKind} {x:Str} (hk:kd x=some .local):∀ {ps:List Str} {vals:List Value} {m:Str→Option Value} {i:Nat} {v:Value},ps.Nodup→ps[i]? = some x→vals[i]? = some v→bindL kd (ps.zip vals) m x=some v
 | [],_,_,_,_,_,h,_=>by cases h
 | p::ps,[],_,_,_,_,_,h=>by cases h
 | p::ps,u::vals,m,0,v,nd,h1,h2=>by
  cases h1;cases h2
  rw [List.zip_cons_cons,bindL,Ym (List.nodup_cons.mp nd).1,if_pos hk];simp
 | p::ps,u::vals,m,i+1,v,nd,h1,h2=>by
  rw [List.zip_cons_cons,bindL]
  exact Qb hk (List.nodup_cons.mp nd).2 (i:=i) h1 h2
theorem Yn {kd:Str→Option NameKind} {x:Str}:∀ {ps:List Str} {vals:List Value} {m:Str→Option Value},x∉ps→bindC kd (ps.zip vals) m x=m x
 | [],vals,m,_=>by simp [bindC]
 | p::ps,[],m,_=>by simp [bindC]
 | p::ps,v::vals,m,h=>by
  rw [List.zip_cons_cons,bindC,Yn (fun q=>h (.tail _ q))]
  split
  ·rfl
  ·exact if_neg (fun (q:x=p)=>h (q▸.head _))
theorem Qd {kd:Str→Option NameKind} {x:Str} (hk:kd x≠some .local):∀ {ps:List Str} {vals:List Value} {m:Str→Option Value} {i:Nat} {v:Value},ps.Nodup→ps[i]? = some x→vals[i]? = some v→bindC kd (ps.zip vals) m x=some v
 | [],_,_,_,_,_,h,_=>by cases h
 | p::ps,[],_,_,_,_,_,h=>by cases h
 | p::ps,u::vals,m,0,v,nd,h1,h2=>by
  cases h1;cases h2
  rw [List.zip_cons_cons,bindC,Yn (List.nodup_cons.mp nd).1,if_neg hk];simp
 | p::ps,u::vals,m,i+1,v,nd,h1,h2=>by
  rw [List.zip_cons_cons,bindC]
  exact Qd hk (List.nodup_cons.mp nd).2 (i:=i) h1 h2
theorem xf {x:Str}:∀ {names:List (Str×NameKind)} {k:Nat} {acc:List (Str×Addr)},((x,NameKind.cell)∈names∨∃ c,acc.lookup x=some c)→∃ c,(cellsFrom k names acc).lookup x=some c
 | [],k,acc,h=>by
  rcases h with h | h
  ·cases h
  ·exact h
 | (n,kd)::r,k,acc,h=>by
  unfold cellsFrom
  split
  ·refine xf ?_
   rcases h with h | ⟨c,h⟩
   ·cases h with
    | head=>exact .inr ⟨k,by simp⟩
    | tail _ h=>exact .inl h
   ·refine .inr ?_
    rw [List.lookup_cons]
    split
    ·exact ⟨_,rfl⟩
    ·exact ⟨c,h⟩
  ·rename_i hk
   refine xf ?_
   rcases h with h | h
   ·cases h with
    | head=>exact absurd rfl hk
    | tail _ h=>exact .inl h
   ·exact .inr h
structure FnGood (K:Frag) (fd:FuncData):Prop where
 p1:fd.params.posonlyargs=[]
 p2:fd.params.kwonlyargs=[]
 p3:fd.params.vararg=none
 p4:fd.params.kwarg=none
 p5:fd.defaults=.none
 clo:fd.closure=[]
 code:codeIn K fd.code fd.qualname=true
 kind:fd.scope.kind=.function
 co:fd.scope.isCoroutine=false
 gen:fd.scope.isGenerator=false
 glob:fd.globals=mainGlobals
 bltn:fd.builtins=builtinsNs
 nd:(yg fd).Nodup
 par:∀ x∈yg fd,fd.scope.names.lookup x=some .local∨fd.scope.names.lookup x=some .cell
 names:∀ p∈fd.scope.names,p.2=.local∨p.2=.cell∨p.2=.globalImplicit
theorem J9 {K:Frag} {fd:FuncData} (h:XQ K fd=true):FnGood K fd:=by
 unfold XQ at h
 simp only [Bool.and_eq_true,List.isEmpty_iff,Option.isNone_iff_eq_none,beq_iff_eq,Bool.not_eq_true',decide_eq_true_eq,List.all_eq_true,Bool.or_eq_true] at h
 obtain ⟨⟨⟨⟨⟨⟨⟨⟨⟨⟨⟨⟨⟨⟨h1,h2⟩,h3⟩,h4⟩,h5⟩,h6⟩,h7⟩,h8⟩,h9⟩,h10⟩,h11⟩,h12⟩,h13⟩,h14⟩,h15⟩:=h
 refine ⟨h1,h2,h3,h4,?_,h6,h7,h8,h9,h10,h11,h12,h13,h14,fun p hp=>?_⟩
 ·cases q:fd.defaults <;> rw [q] at h5 <;> first | rfl | cases h5
 ·rcases h15 p hp with (h | h) | h
  ·exact .inl h
  ·exact .inr (.inl h)
  ·exact .inr (.inr h)
section
variable {prog:Program} {w:World} {X:Cx} {G:GTab} {n:Nat} {cf:CF} {A:Around} {E:Value→Shared→Prop} {s s':Shared} {μ:Mu} {hp hp':Hp} {Q:Value→Shared→Prop} {l:List Env}
theorem z3w {K:Frag} {fd:FuncData} {f:Addr} {args:List AV} {args':List Value} (H:FnGood K fd) (I:Inv X μ hp s) (ra:VRs X μ s.heap args args') (hl:args.length=(yg fd).length) (F:Frs X l μ s.heap)
  (x:InCallC s (callEnvC fd s.heap.objs.size f).locals (bindL (callEnvC fd s.heap.objs.size f).kindOf ((yg fd).zip args') fun _=>none) (callEnvC fd s.heap.objs.size f).cells
    (bindC (callEnvC fd s.heap.objs.size f).kindOf ((yg fd).zip args') fun _=>none) s') :
  EnvR X (callEnvC fd s.heap.objs.size f::l) (Jy fd.scope (yg fd)) (callEnvC fd s.heap.objs.size f) (args.map some++List.replicate ((yF fd.scope (yg fd)).length - (yg fd).length) none) μ s'.heap∧(∀ b,own (callEnvC fd s.heap.objs.size f) b→s.heap.get? b=none) ∧
   Inv X μ hp s'∧Le noS μ s μ s':=by
 obtain ⟨⟨⟨h₁,tk,e₁⟩,ns,kp,fr⟩,cel,ap,ab⟩:=x
 have eL:(callEnvC fd s.heap.objs.size f).locals=s.heap.objs.size:=rfl
 have eC:(callEnvC fd s.heap.objs.size f).cells=cellsFrom (s.heap.objs.size+1) fd.scope.names []:=rfl
 have fresh:∀ b,s.heap.objs.size≤b→s.heap.get? b=none:=fun b hb=>by
  cases q:s.heap.get? b with
  | none=>rfl
  | some o=>exact absurd (Heap.lt_size q) (Nat.not_lt.mpr hb)
 have fown:∀ b,own (callEnvC fd s.heap.objs.size f) b→s.heap.get? b=none:=fun b h=>by
  rcases h with rfl | ⟨x,hx⟩
  ·exact fresh _ (Nat.le_refl _)
  ·exact fresh _ (Nat.le_of_lt (ab x b (mem_of_lookup hx)))
 have nin:∀ b,s.heap.get? b=none→b∉ze μ:=fun b h q=>by
  obtain ⟨o,ho,_⟩:=I.mut q;rw [h] at ho;exact nos ho
 have bas:∀ b,s.heap.get? b=none→X.base.get? b=none:=fun b h=>by
  cases q:X.base.get? b with
  | none=>rfl
  | some o=>have:=I.keep b o q;rw [h] at this;exact nos this
 have I':Inv X μ hp s':=by rw [e₁] at kp ⊢;exact I.grow kp
 have L':Le noS μ s μ s':=.ofKeep kp
 have rl:∀ {x:AV} {v:Value},VR X μ s.heap x v→VR X μ s'.heap x v:=fun r=>r.le I L'
 have lens:=ra.length
 have sl:∀ x i,(Jy fd.scope (yg fd)).slot x=some i→i<(yF fd.scope (yg fd)).length∧(yF fd.scope (yg fd))[i]? = some x:=fun x i h=>by
  obtain ⟨_,b,c⟩:=Zs (show jc x (yF fd.scope (yg fd)) 0=some i from h)
  exact ⟨by lia,by simpa using c⟩
 have val:∀ {i:Nat} {v:AV},(args.map some++List.replicate ((yF fd.scope (yg fd)).length - (yg fd).length) none)[i]? = some (some v)→∃ v',args'[i]? = some v'∧VR X μ s.heap v v'∧i<(yg fd).length:=by
  intro i v h
  by_cases hi:i<args.length
  ·rw [List.getElem?_append_left (by simpa using hi),List.getElem?_map] at h
   obtain ⟨a,h1,h2⟩:=yC h
   cases h2
   obtain ⟨v',e,r⟩:=ra.get h1
   exact ⟨v',e,r,by lia⟩
  ·rw [List.getElem?_append_right (by simpa using hi),List.getElem?_replicate] at h
   split at h <;> cases h
 have nam:∀ {i:Nat} {x:Str},i<(yg fd).length→(yF fd.scope (yg fd))[i]? = some x→(yg fd)[i]? = some x:=by
  intro i x hi h
  unfold yF at h
  rwa [List.getElem?_append_left hi] at h
 refine ⟨⟨H.kind,H.glob,H.bltn,fun x=>rfl,⟨_,ns,fun x i v h1 h2 h3=>?_⟩,fun x i h1 h2=>?_,nin _ (fresh _ (Nat.le_refl _)),bas _ (fresh _ (Nat.le_refl _)),fun x c hc=>⟨nin _ (fown _ (.inr ⟨x,hc⟩)),_,cel x c hc⟩,fun x c hc=>bas _ (fown _ (.inr ⟨x,hc⟩)),
  fun x y c h1 h2=>name_of_addr ap (mem_of_lookup h1) (mem_of_lookup h2),fun x y i h1 h2=>?_,?_,fun x i h=>(sl x i h).1,fun v hv=>?_⟩,fown,I',L'⟩
 rotate_right
 ·cases hv with
  | head =>
   obtain ⟨o,es,ep,ho,hd,_⟩:=ns
   exact ⟨by show fd.scope.kind≠.module;rw [H.kind];decide,_,o,rfl,bas _ (fresh _ (Nat.le_refl _)),nin _ (fresh _ (Nat.le_refl _)),ho,Zr hd⟩
  | tail _ hv=>exact F.le L' v hv
 ·obtain ⟨v',e,r,hi⟩:=val h3
  exact ⟨v',Qb (show (callEnvC fd s.heap.objs.size f).kindOf x=some .local from h1) H.nd (nam hi (sl x i h2).2) e,rl r⟩
 ·have hcell:fd.scope.names.lookup x=some .cell:=by
   rcases h1 with h | h
   ·exact h
   ·have:=H.names _ (mem_of_lookup h)
    rcases this with q | q | q <;> cases q
  obtain ⟨c,hc⟩:=xf (k:=s.heap.objs.size+1) (acc:=[]) (.inl (mem_of_lookup hcell))
  refine ⟨c,_,hc,cel x c hc,fun v hv=>?_⟩
  obtain ⟨v',e,r,hi⟩:=val hv
  exact ⟨v',Qd (show (callEnvC fd s.heap.objs.size f).kindOf x≠some .local from fun q=>by rw [show (callEnvC fd s.heap.objs.size f).kindOf x=some .cell from hcell] at q;cases q) H.nd (nam hi (sl x i h2).2) e,rl r⟩
 ·have a:=(sl x i h1).2
  have b:=(sl y i h2).2
  rw [a] at b;cases b;rfl
 ·show _=(yF fd.scope (yg fd)).length
  have:(yg fd).length≤(yF fd.scope (yg fd)).length:=by unfold yF;rw [zU];exact Nat.le_add_right _ _
  rw [zU,List.length_map,List.length_replicate,hl];lia
theorem Zw {f:Addr} {F:Fn} {args:List AV} {args':List Value} (g:Gd X G) (hcf:SndCF prog w X n cf) (hF:QS G X.K f=some F) (hd:A.depth+2 * n+3<recursionLimit) (hu:A.units+100 * n+303<cLine) (hh:A.handled=none) (hfr:A.frames=some l) (Fr:Frs X l μ s.heap)
  (I:Inv X μ hp s) (ra:VRs X μ s.heap args args') {R:Result→Shared→Prop} (k:PO X l μ s (yR F cf args hp) (fun v s'=>R (.ok (.ret v)) s') (fun e s'=>R (.error e) s')):codeAny (model prog w) A (.call (.ref f) ⟨args',[]⟩) R s:=by
 obtain ⟨o,fd,body,ho,hdt,hg,hbody,rfl⟩:=Wj hF
 have H:=J9 hg
 by_cases hl:args.length=(yg fd).length
 ·rw [show yR (z3u G fd body) cf args hp=_ from if_pos hl] at k
  have lens:=ra.length
  have hbind:=Y5 (vals:=args') H.p1 H.p2 H.p3 H.p4 H.p5 H.nd (by lia)
  have hk:∀ y∈(yg fd).zip args',fd.scope.names.lookup y.1=some .local∨(fd.scope.names.lookup y.1=some .cell∧((cellsFrom (s.heap.objs.size+1) fd.scope.names []).lookup y.1).isSome=true):=fun y hy=>by
   rcases H.par y.1 (List.of_mem_zip hy).1 with q | q
   ·exact .inl q
   ·obtain ⟨c,hc⟩:=xf (k:=s.heap.objs.size+1) (acc:=[]) (.inl (mem_of_lookup q))
    exact .inr ⟨q,by rw [hc];rfl⟩
  refine codeAny_call_cells (by lia) (I.kin g.K _ _ ho) hdt (g.lim.keeps I.keep) (codeRec_of (I.kin g.K) H.code) hbody hbind H.clo hk (fun s₁ x=>?_) H.co H.gen H.kind
  obtain ⟨V1,fo,I1,L1⟩:=z3w H I ra hl Fr x
  have R1:Room n (A.deeper (callEnvC fd s.heap.objs.size f)) (callEnvC fd s.heap.objs.size f::l):=⟨Around.frames_deeper hfr,by show A.depth+1+2 * n+2<_;lia,by show A.units+3+100 * n+300<_;lia,hh⟩
  have fin:∀ {μ':Mu} {s':Shared},Le (own (callEnvC fd s.heap.objs.size f)) μ s₁ μ' s'→Le noS μ s μ' s':=fun L=>L1.fresh1 L fo
  refine (z1l g hcf 60).2 _ _ _ ⟨l,rfl,rfl⟩ R1 I1 V1 ?_
  have k:PO X l μ s (match dSs G 60 (Jy fd.scope (yg fd)) body cf (args.map some++List.replicate ((yF fd.scope (yg fd)).length - (yg fd).length) none) hp with
   | .ok (.ret v) _ h'=>.ok v h'
   | .ok .next _ h'=>.ok .none h'
   | .exc _ c _ h'=>.exc c h'
   | .stuck=>.stuck) (fun v s'=>R (.ok (.ret v)) s') (fun e s'=>R (.error e) s'):=k
  cases eb:dSs G 60 (Jy fd.scope (yg fd)) body cf (args.map some++List.replicate ((yF fd.scope (yg fd)).length - (yg fd).length) none) hp with
  | stuck=>rw [eb] at k;exact k.elim
  | ok fl fr2 hp2 =>
   rw [eb] at k
   intro fl' μ' s' L' I' V' r'
   cases fl with
   | ret u =>
    obtain ⟨u',rfl,ru⟩:=r'.ret_
    exact k _ μ' s' (fin L') I' ru
   | next =>
    rw [r'.next_]
    exact k _ μ' s' (fin L') I' .none
  | exc nw c fr2 hp2 =>
   rw [eb] at k
   have k:PC X l μ s c hp2 (fun e s'=>R (.error e) s'):=k
   intro e μ' s' B C hC hfl cl
   have out:∀ {h':Heap} {a0:Value},Heap.FlyingW B l e (.ref C) a0 h'→s'.heap.UpToSlots h'→R (.error (.ref e)) { s' with heap:=h' }:=fun hfl' U =>
    k e μ' _ B C _ hC hfl' fun h6 t g1 g2=>⟨fin (cl h6 t g1 (U.trans g2)).1,(cl h6 t g1 (U.trans g2)).2.1⟩
   cases nw with
   | false =>
    obtain ⟨a0,hfl⟩:=hfl
    exact wpAny_leaves_onW R1.frames rfl hfl fun h' x1 x2=>out x1 x2
   | true =>
    obtain ⟨h0,as,hm,hB,hf⟩:=hfl
    exact wpAny_leaves_madeW R1.frames rfl hB hf hm fun h' t x1 _ _ x2=>out x1 x2
 ·rw [show yR (z3u G fd body) cf args hp=_ from if_neg hl] at k;exact k.elim
end
noncomputable def z22:List (Str×Bi):=[("len",.len),("isinstance",.isinstance),("int",.int),("bool",.bool),("str",.str),("list",.list),("range",.range),("min",.min),("max",.max),("any",.any),("all",.all),("enumerate",.enumerate),("sorted",.sorted),("tuple",.tuple)]
theorem z21:∀ p∈z22,bootBuiltins p.1=some (jD p.2)∧p.1 ≠ "__name__" := by
 have h:z22.all (fun p=>bootBuiltins p.1 == some (jD p.2) && p.1 != "__name__")=true:=by decide +kernel
 intro p hp
 have:=List.all_eq_true.mp h p hp
 simp only [Bool.and_eq_true,beq_iff_eq,bne_iff_ne] at this
 exact this
noncomputable def zE0:Value→Option Addr
 | .ref a=>some a
 | _=>none
theorem WY {v:Value} {a:Addr} (h:zE0 v=some a):v=.ref a:=by
 cases v with
 | ref=>cases h;rfl
 | _=>exact nos h
noncomputable def nsR (K:Frag) (x:Str):Option Addr:=(nsIn K mainGlobals x).bind fun o=>o.bind zE0
theorem jG {K:Frag} {x:Str} {C:Addr} (h:nsR K x=some C):nsIn K mainGlobals x=some (some (.ref C)):=by
 obtain ⟨o,h1,h⟩:=zS h
 obtain ⟨v,h2,h⟩:=zS h
 rw [h1,h2,WY h]
noncomputable def zEh:Data→Option Bool
 | .func _=>some true
 | .cls _=>some false
 | _=>none
noncomputable def zDk (K:Frag) (x:Str):Value→Option AV
 | .ref f=>(K.lookup f).bind fun o=>(zEh o.data).map fun b=>if b=true then .fn x else .cls x
 | .int i _=>some (.int i)
 | .str s _=>if s.length≤small then some (.str s) else none
 | _=>none
noncomputable def WA (K:Frag) (x:Str):Option AV:=match nsIn K mainGlobals x with
 | some o=>(match o with
  | some v=>zDk K x v
  | none=>(z22.lookup x).map .bi)
 | none=>none
noncomputable def zF7 (K:Frag) (c name:Str):Bool:=match nsR K c with
 | some C=>xe K C && wv K C name
 | none=>false
noncomputable def zGh (K:Frag) (x:Str):Bool:=match nsR K x with
 | some C=>excIn K C [.type "ValueError",.type "Exception",.type "BaseException",.type "object"] "ValueError.__new__"
 | none=>false
noncomputable def zGg (K:Frag) (x y:Str):Bool:=((nsR K x).bind fun C=>(nsR K y).bind fun D=>exmOne K (.ref C) (.ref D)) == some false
noncomputable def gOf (K:Frag):GTab:=⟨WA K,zF7 K,zGh K,zGg K⟩
noncomputable def yO (K:Frag):Tab where
 what:=fun x=>(nsR K x).bind fun f=>(K.lookup f).bind fun o=>(zEh o.data).bind fun b=>match b with
  | true=>(QS (gOf K) K f).map .fn
  | false=>if (makesIn K f && xe K f)=true then some .cls else none
 meth:=fun c x=>(nsR K c).bind fun C=>(findIn K (.ref C) x).bind fun o=>o.bind fun v=>(zE0 v).bind fun f=>if (typeIn K (.ref f) == some (.type "function"))=true then QS (gOf K) K f else none
theorem zGd {X:Cx} (hK:X.K.In X.base) (top:∃ mg mb,X.base.Ns mainGlobals mg∧X.base.Ns builtinsNs mb∧∀ x:Str,x ≠ "__name__" → mb x=bootBuiltins x) (lim:X.base.NoLimit)
  (ex:∀ x C,nsIn X.K mainGlobals x=some (some (.ref C))→excIn X.K C [.type "ValueError",.type "Exception",.type "BaseException",.type "object"] "ValueError.__new__" = true→∃ mg,PyProof.Rows.OwnCls x C [.type "ValueError",.type "Exception",.type "BaseException",.type "object"] "ValueError.__new__" mg X.base):Gd X (gOf X.K) where
 K:=hK
 top:=top
 lim:=lim
 glob:=by
  intro x v h
  have h:WA X.K x=some v:=h
  unfold WA at h
  cases hn:nsIn X.K mainGlobals x with
  | none=>rw [hn] at h;exact nos h
  | some o =>
   rw [hn] at h
   cases o with
   | none =>
    obtain ⟨b,hb,rfl⟩:=yC h
    obtain ⟨q1,q2⟩:=z21 _ (qK hb)
    exact ⟨jD b,.inr ⟨rfl,q1,q2⟩,fun μ h=>.bi b⟩
   | some c =>
    refine ⟨c,.inl rfl,?_⟩
    have h:zDk X.K x c=some v:=h
    cases c with
    | int i t=>cases h;exact fun μ h=>.int _ _
    | str y t =>
     obtain ⟨z,rfl⟩:=zb (show (if y.length≤small then some (AV.str y) else none)=some v from h)
     exact fun μ h=>.str _ z
    | ref f =>
     obtain ⟨o,ho,h⟩:=zS (show ((X.K.lookup f).bind fun o=>(zEh o.data).map fun b=>if b=true then AV.fn x else .cls x)=some v from h)
     obtain ⟨b,hb,rfl⟩:=yC h
     cases b with
     | true=>exact fun μ h=>.fn hn
     | false=>exact fun μ h=>.cls hn
    | _=>exact nos h
 exc:=by
  intro x h
  have h:(match nsR X.K x with
   | some C=>excIn X.K C [.type "ValueError",.type "Exception",.type "BaseException",.type "object"] "ValueError.__new__"
   | none=>false)=true:=h
  cases q:nsR X.K x with
  | none=>rw [q] at h;exact nob h
  | some C =>
   rw [q] at h
   obtain ⟨mg,O⟩:=ex x C (jG q) h
   exact ⟨C,mg,jG q,O⟩
 exq:=by
  intro x y h
  obtain ⟨C,h1,h⟩:=zS (beq_iff_eq.mp (show (((nsR X.K x).bind fun C=>(nsR X.K y).bind fun D=>exmOne X.K (.ref C) (.ref D)) == some false)=true from h))
  obtain ⟨D,h2,h⟩:=zS h
  exact ⟨C,D,jG h1,jG h2,h⟩
 okf:=by
  intro c name h
  have h:(match nsR X.K c with
   | some C=>xe X.K C && wv X.K C name
   | none=>false)=true:=h
  cases q:nsR X.K c with
  | none=>rw [q] at h;exact nob h
  | some C=>rw [q] at h;exact ⟨C,jG q,Bool.and_eq_true_iff.mp h⟩
theorem YZ {G:GTab} {K:Frag} {f:Addr} {F:Fn} (h:QS G K f=some F):keepIn K (.ref f)=true:=by
 obtain ⟨⟨oc,od,dd,sl⟩,fd,b,h1,h2,_⟩:=Wj h
 cases h2
 unfold keepIn
 dsimp only
 rw [h1]
theorem WR {K:Frag} {x:Str} {wt:What} (h:(yO K).what x=some wt):∃ f,nsIn K mainGlobals x=some (some (.ref f))∧((∃ F,QS (gOf K) K f=some F∧wt=.fn F)∨(makesIn K f=true∧xe K f=true∧wt=.cls)):=by
 obtain ⟨f,h1,h⟩:=zS h
 obtain ⟨o,h2,h⟩:=zS h
 obtain ⟨b,h3,h⟩:=zS h
 refine ⟨f,jG h1,?_⟩
 cases b with
 | true=>obtain ⟨F,h4,rfl⟩:=yC h;exact .inl ⟨F,h4,rfl⟩
 | false=>obtain ⟨h4,rfl⟩:=zb h;obtain ⟨a,b⟩:=Bool.and_eq_true_iff.mp h4;exact .inr ⟨a,b,rfl⟩
theorem WQ {K:Frag} {x:Str} {f:Addr} {F:Fn} (h:(yO K).what x=some (.fn F)) (hf:nsIn K mainGlobals x=some (some (.ref f))):QS (gOf K) K f=some F:=by
 obtain ⟨f',q,⟨F',a,b⟩ | ⟨_,_,b⟩⟩:=WR h
 ·rw [hf] at q;cases q;cases b;exact a
 ·cases b
theorem Xe {K:Frag} {x:Str} {f:Addr} (h:(yO K).what x=some .cls) (hf:nsIn K mainGlobals x=some (some (.ref f))):makesIn K f=true∧xe K f=true:=by
 obtain ⟨f',q,⟨F',a,b⟩ | ⟨a,b,_⟩⟩:=WR h
 ·cases b
 ·rw [hf] at q;cases q;exact ⟨a,b⟩
theorem jU {K:Frag} {c x:Str} {F:Fn} (h:(yO K).meth c x=some F):∃ C f,nsIn K mainGlobals c=some (some (.ref C))∧findIn K (.ref C) x=some (some (.ref f))∧typeIn K (.ref f)=some (.type "function")∧QS (gOf K) K f=some F:=by
 obtain ⟨C,h1,h⟩:=zS h
 obtain ⟨o,h2,h⟩:=zS h
 obtain ⟨v,h3,h⟩:=zS h
 obtain ⟨f,h4,h⟩:=zS h
 obtain ⟨h5,h⟩:=XK h
 exact ⟨C,f,jG h1,by rw [h2,h3,WY h4],eq_of_beq h5,h⟩
theorem W4 {K:Frag} {C:Addr} (h:makesIn K C=true):keepIn K (.ref C)=true:=by
 unfold makesIn at h
 cases ho:K.lookup C with
 | none=>rw [ho] at h;exact nob h
 | some o =>
  rw [ho] at h
  obtain ⟨oc,od,dd,sl⟩:=o
  cases dd with
  | cls cd =>
   have h:=(Bool.and_eq_true_iff.mp (Bool.and_eq_true_iff.mp h).1).2
   unfold keepIn
   dsimp only
   rw [ho]
   exact h
  | _=>exact nob h
theorem YM {prog:Program} {w:World} {X:Cx} (g:Gd X (gOf X.K)):∀ n,SndCF prog w X n (run (yO X.K) n)
 | 0=>⟨fun _ _ _ _ _ k=>k.elim,fun h=>absurd rfl h,fun h=>absurd rfl h,fun h=>absurd rfl h⟩
 | n+1=>by
  have ih:=YM (prog:=prog) (w:=w) g n
  refine ⟨?_,?_,?_,?_⟩
  ·intro c args hp A l μ s Q E f args' R F I hc ra k
   have hd:=R.depth
   have hu:=R.units
   have hh:=R.handled
   cases c with
   | fn x =>
    have k:PO X l μ s (match (yO X.K).what x with
     | some (.fn f)=>yR f (run (yO X.K) n) args hp
     | _=>.stuck) Q E:=k
    cases hF:(yO X.K).what x with
    | none=>rw [hF] at k;exact k.elim
    | some wt =>
    rw [hF] at k
    cases wt with
    | cls=>exact k.elim
    | fn F' =>
     exact wpAny_call (Zw g ih (WQ hF hc) (by lia) (by lia) hh R.frames F I ra k)
   | meth c x =>
    have k:PO X l μ s (match (yO X.K).meth c x with
     | some f=>yR f (run (yO X.K) n) args hp
     | none=>.stuck) Q E:=k
    cases hF:(yO X.K).meth c x with
    | none=>rw [hF] at k;exact k.elim
    | some F' =>
     rw [hF] at k
     obtain ⟨C,f',h1,h2,h3,h4⟩:=jU hF
     obtain ⟨C',q1,q2,q3⟩:=hc
     rw [h1] at q1;cases q1
     rw [h2] at q2;cases q2
     exact wpAny_call (Zw g ih h4 (by lia) (by lia) hh R.frames F I ra k)
   | has=>exact hc.elim
   | cls x =>
    have k:PO X l μ s (match (yO X.K).what x with
     | some .cls=>(match (yO X.K).meth x "__init__" with
      | some f=>(yR f (run (yO X.K) n) (.ref hp.length::args) (hp++[AO.inst x []])).bind0 fun v h'=>(match v with
       | .none=>.ok (AV.ref hp.length) h'
       | _=>.stuck)
      | none=>.stuck)
     | _=>.stuck) Q E:=k
    cases hw:(yO X.K).what x with
    | none=>rw [hw] at k;exact k.elim
    | some wt =>
    rw [hw] at k
    cases wt with
    | fn _=>exact k.elim
    | cls =>
     dsimp only at k
     cases hF:(yO X.K).meth x "__init__" with
     | none=>rw [hF] at k;exact k.elim
     | some F' =>
      rw [hF] at k
      obtain ⟨C,fI,k1,k2,k3,k4⟩:=jU hF
      have hc:nsIn X.K mainGlobals x=some (some (.ref f)):=hc
      rw [hc] at k1;cases k1
      obtain ⟨m1,m2⟩:=Xe hw hc
      have KI:=I.kin g.K
      obtain ⟨hh',gg,dd,tt,oo⟩:=s
      refine wpAny_call (make_core (makes_of KI m1) (looks_findIn KI k2) (fun self=>bind_fn KI self k3) (.inl rfl) ?_)
      have kp:∀ b o,hh'.get? b=some o→((hh'.push emptyDict).push (instObj f hh'.objs.size)).get? b=some o:=fun b o e=>Heap.get?_push_of_some _ (Heap.get?_push_of_some _ e)
      have fr:∀ b,hh'.objs.size≤b→hh'.get? b=none:=fun b hb=>by
       cases q:hh'.get? b with
       | none=>rfl
       | some o=>exact absurd (Heap.lt_size q) (Nat.not_lt.mpr hb)
      have gx:((hh'.push emptyDict).push (instObj f hh'.objs.size)).get? (hh'.objs.size+1)=some (instObj f hh'.objs.size):=by
       have:=Heap.get?_push_size (hh'.push emptyDict) (o:=instObj f hh'.objs.size) rfl
       rwa [Heap.size_push] at this
      have gd:((hh'.push emptyDict).push (instObj f hh'.objs.size)).get? hh'.objs.size=some emptyDict:=Heap.get?_push_of_some _ (Heap.get?_push_size _ rfl)
      have hp0:OR X (μ++[(hh'.objs.size+1,some hh'.objs.size)]) ((hh'.push emptyDict).push (instObj f hh'.objs.size)) (.inst x []) (hh'.objs.size+1,some hh'.objs.size) :=
       .inst hc gx (show _=some (dictOf [] 0) from gd) .nil m2 (fun p hp=>by cases hp) (by simp)
      obtain ⟨I1,L1⟩:=I.new (s:=⟨hh',gg,dd,tt,oo⟩) (t:=tt) (h':=(hh'.push emptyDict).push (instObj f hh'.objs.size)) kp (fun b hb=>by
       cases hb with
       | head=>exact fr _ (Nat.le_succ _)
       | tail _ hb=>cases hb with
        | head=>exact fr _ (Nat.le_refl _)
        | tail _ hb=>cases hb) (by simp [ads]) hp0
      have rs:VR X (μ++[(hh'.objs.size+1,some hh'.objs.size)]) ((hh'.push emptyDict).push (instObj f hh'.objs.size)) (.ref hp.length) (.ref (hh'.objs.size+1)):=.ref (p:=(hh'.objs.size+1,some hh'.objs.size)) (by rw [← I.len];simp)
      refine Zw (A:=A.under (.builtin "type.__call__" ⟨.ref f::args',[]⟩)) (s:=⟨(hh'.push emptyDict).push (instObj f hh'.objs.size),gg,dd,tt,oo⟩) g ih k4 ?_ ?_ (show A.handled=none from hh) (show A.frames=_ from R.frames) (F.le L1) I1 (.cons rs (ra.mono (List.prefix_append _ _) fun b o e _=>kp b o e))
       (PG.bind0 (PG.le k L1) fun v v' h1 μ' s' L' I' r' k=>?_)
      ·show A.depth+1+2 * n+3<_;lia
      ·show A.units+1+100 * n+303<_;lia
      ·cases v with
       | none =>
        rw [r'.none_]
        exact ⟨rfl,k _ μ' s' .refl I' (rs.mono L'.pre (L'.fixed I1 fun _ _ h=>h.elim))⟩
       | _=>exact k.elim
  ·intro c args hp f e hc
   cases c with
   | fn x =>
    have e:(match (yO X.K).what x with
     | some (.fn f)=>yR f (run (yO X.K) n) args hp
     | _=>.stuck)≠.stuck:=e
    cases hF:(yO X.K).what x with
    | none=>rw [hF] at e;exact absurd rfl e
    | some wt =>
     rw [hF] at e
     cases wt with
     | cls=>exact absurd rfl e
     | fn F=>exact YZ (WQ hF hc)
   | meth c x =>
    have e:(match (yO X.K).meth c x with
     | some f=>yR f (run (yO X.K) n) args hp
     | none=>.stuck)≠.stuck:=e
    cases hF:(yO X.K).meth c x with
    | none=>rw [hF] at e;exact absurd rfl e
    | some F =>
     obtain ⟨C,f',h1,h2,h3,h4⟩:=jU hF
     obtain ⟨C',q1,q2,q3⟩:=hc
     rw [h1] at q1;cases q1
     rw [h2] at q2;cases q2
     exact YZ h4
   | has=>exact hc.elim
   | cls x =>
    have e:(match (yO X.K).what x with
     | some .cls=>(match (yO X.K).meth x "__init__" with
      | some f=>(yR f (run (yO X.K) n) (.ref hp.length::args) (hp++[AO.inst x []])).bind0 fun v h'=>(match v with
       | .none=>.ok (AV.ref hp.length) h'
       | _=>.stuck)
      | none=>.stuck)
     | _=>.stuck)≠.stuck:=e
    cases hw:(yO X.K).what x with
    | none=>rw [hw] at e;exact absurd rfl e
    | some wt =>
     rw [hw] at e
     cases wt with
     | fn _=>exact absurd rfl e
     | cls=>exact W4 (Xe hw hc).1
  ·intro c x args hp e
   have e:(match (yO X.K).meth c x with
    | some f=>yR f (run (yO X.K) n) args hp
    | none=>.stuck)≠.stuck:=e
   cases hF:(yO X.K).meth c x with
   | none=>rw [hF] at e;exact absurd rfl e
   | some F =>
    obtain ⟨C,f',h1,h2,h3,h4⟩:=jU hF
    exact ⟨f',C,h1,h2,h3⟩
  ·intro c x args hp e
   have e:(match (yO X.K).meth c x with
    | some _=>Out.ok AV.none hp
    | none=>.stuck)≠.stuck:=e
   cases hF:(yO X.K).meth c x with
   | none=>rw [hF] at e;exact absurd rfl e
   | some F =>
    obtain ⟨C,f',h1,h2,h3,h4⟩:=jU hF
    exact ⟨f',C,h1,h2,h3⟩
end Mine
end
end
section
noncomputable section
namespace Mine
open PySem PySem.W PySem.Calls PyProof.Rows
theorem QK {X:Cx} {μ:Mu} {h:Heap}:∀ {vs:List Value} {is:List Int},IntsAre vs is→VRs X μ h (is.map AV.int) vs
 | _,_,.nil=>.nil
 | _,_,.cons n t r=>.cons (.int n t) (QK r)
theorem Wy {h:Heap} {a:Addr} {m:Str→Option Value} (ns:h.Ns a m) {K:Frag} (hK:K.In h) {x:Str} {r:Option Value} (e:nsIn K a x=some r):m x=r:=by
 obtain ⟨o,es,ep,ho,hd,hk,hm⟩:=ns
 unfold nsIn at e
 cases hl:K.lookup a with
 | none=>rw [hl] at e;exact nos e
 | some o' =>
  have:=hK _ _ hl
  rw [ho] at this;cases this
  rw [hl] at e
  obtain ⟨oc,od,dd,sl⟩:=o
  cases hd
  have hf:nsFind es x=m x:=hm x
  unfold nsFind findBy at hf
  rw [← Array.find?_toList] at hf
  dsimp only at e
  cases hq:es.toList.find? (·.key.isStr x) with
  | some q=>rw [hq] at hf e;cases e;exact hf.symm
  | none =>
   rw [hq] at hf e
   by_cases z:es.toList.any (·.refKey)=true
   ·rw [show (if es.toList.any (·.refKey)=true then (none:Option (Option Value)) else some none)=_ from if_pos z] at e;exact nos e
   ·rw [show (if es.toList.any (·.refKey)=true then (none:Option (Option Value)) else some none)=_ from if_neg z] at e;cases e;exact hf.symm
theorem law_true {prog:Program} {w:World} {K:Frag} {s₁:Shared} {p:Program} {loose:List Str} {mean mean':ExcName→Option Value} {mg mb:Str→Option Value} {c:ClaimW} {cl:Str→Option Addr} {args:List WData} {fa L:Addr} {vs:List Value} {is:List Int} {x:Str}
  (T:Top p loose mean mg mb s₁.heap) (KX:K.In s₁.heap) (hg:s₁.gens=#[]) (hmg:mg x=some (.ref fa)) (fa':Addr) (hfa:nsIn K mainGlobals x=some (some (.ref fa'))) (hL:s₁.heap.IsList L vs.toArray) (hI:IntsAre vs is) (hlen:¬ (63:Int)<is.length)
  (hrun:∃ hp',run (yO K) 20 (.fn x) [.lst (is.map AV.int)] []=.ok (.bool true) hp') (hn:∀ cls,c.raises args cls=false) (hp:c.post args (.bool true) args=true) :
  wpAny (model prog w) callerA (call (.ref fa) [.ref L]) (fun v s'=>GoodWG c cl mean' args s₁ (.ok (.ret v)) s') (fun e s'=>GoodWG c cl mean' args s₁ (.error e) s') s₁:=by
 have e:=Wy T.g KX hfa
 rw [hmg] at e;cases e
 obtain ⟨hp',hrun⟩:=hrun
 let X:Cx:=⟨K,s₁.heap,s₁.os⟩
 have g:Gd X (gOf X.K):=zGd KX ⟨mg,mb,T.g,T.b,T.builtins⟩ T.nolimit fun x C h1 h2=>⟨mg,own_of_in KX (topRead_of T) h1 h2⟩
 have I:Inv X [] [] s₁:=⟨rfl,by simp [ze],fun a ha=>(nomatch ha),fun i p o h=>(nomatch h),fun b o e=>e,hg,rfl⟩
 have R:Room 20 callerA []:=⟨rfl,by decide,by decide,rfl⟩
 refine (YM (prog:=prog) (w:=w) g 20).run R (fun _ h=>nomatch h) I (show JM X (.fn x) fa from hfa) (.cons (.lst (items:=vs.toArray) hL ?_ ?_) .nil) (PG.okE hrun fun v' μ' s' L' I' r'=>?_)
 ·rw [List.length_map,wL];lia
 ·simpa using QK hI
 ·rw [r'.bool_]
  exact GoodW.toG ⟨.inl ⟨_,.bool true,[],rfl,hn,.bool true,hp,fun _=>⟨.nil,fun _ h=>by cases h⟩⟩,I'.keep,I'.os,I'.gens⟩
end Mine
end
end
section
namespace Mine
open PySem
section
variable {h:Hp} {v w:AV} {a:Nat} {i j:Int} {b c:Bool} {cf:CF} {fr:AFr}
theorem XA {α:Type} {o:Option α} {f:α→AV}:ofP (o.map fun x=>(f x,h))=Out.of (o.map f) h:=by cases o <;> rfl
theorem XB {p:Prop} [Decidable p] {x:AV} {h':Hp}:ofP (if p then some (x,h') else none)=if p then .ok x h' else .stuck:=by split <;> rfl
theorem Out.of_ite {p:Prop} [Decidable p] {x:AV}:Out.of (if p then some x else none) h=if p then .ok x h else .stuck:=by split <;> rfl
theorem w8:yu .len [v] h=Out.of ((z0x h v).map fun (n:Nat)=>AV.int (n:Int)) h:=XA
theorem zEp {t:Bi}:yu .isinstance [v,.bi t] h=Out.of ((zEa v t).map .bool) h:=XA
theorem zEn:yu .min [.int i,.int j] h=.ok (.int (if j<i then j else i)) h:=rfl
theorem zEo:yu .max [.int i,.int j] h=.ok (.int (if i<j then j else i)) h:=rfl
theorem z1z:yu .range [.int i] h=if i.natAbs<2 ^ 62 then .ok (.range 0 i) h else .stuck:=XB
theorem wV {β:Type} {f:List AV→Option β}:(zi h a).bind f=(match h[a]? with
  | some (.list xs)=>f xs
  | _=>none):=by
 unfold zi
 cases h[a]? with
 | none=>rfl
 | some o=>cases o <;> rfl
theorem XZ:yu .list [.ref a] h=(match h[a]? with
  | some (.list xs)=>if xs.length≤small then .ok (.ref h.length) (h++[.list xs]) else .stuck
  | some (.dict kvs)=>.ok (.ref h.length) (h++[.list (kvs.map fun p=>.int p.1)])
  | _=>.stuck):=by
 show ofP (match zw h a with
  | some kvs=>some (.ref h.length,h++[AO.list (kvs.map fun p=>.int p.1)])
  | none=>(zi h a).bind fun xs=>if xs.length≤small then some (.ref h.length,h++[.list xs]) else none)=_
 unfold zw zi
 cases h[a]? with
 | none=>rfl
 | some o =>
  cases o with
  | list xs=>show ofP (if xs.length≤small then _ else _)=_;by_cases z:xs.length≤small <;> simp only [z,if_true,if_false] <;> rfl
  | _=>rfl
theorem Q2 {m:Me} {args:List AV}:yN m (.ref a) args h=(match h[a]? with
  | some (.list xs)=>ofP (meO m a xs args h)
  | _=>.stuck):=by
 show ofP ((zi h a).bind _)=_
 rw [wV]
 cases h[a]? with
 | none=>rfl
 | some o=>cases o <;> rfl
theorem q6:yN .append (.ref a) [v] h=(match h[a]? with
  | some (.list xs)=>if xs.length<small then .ok .none (h.set a (.list (xs++[v]))) else .stuck
  | _=>.stuck):=by
 rw [Q2]
 cases h[a]? with
 | none=>rfl
 | some o =>
  cases o with
  | inst c fs=>rfl
  | dict _=>rfl
  | list xs=>exact XB
theorem YU:yN .insert (.ref a) [.int i,v] h=(match h[a]? with
  | some (.list xs)=>if xs.length<small∧okI i=true then .ok .none (h.set a (.list (xk xs i.toNat v))) else .stuck
  | _=>.stuck):=by
 rw [Q2]
 cases h[a]? with
 | none=>rfl
 | some o =>
  cases o with
  | inst c fs=>rfl
  | dict _=>rfl
  | list xs=>exact XB
theorem jV:yN .index (.ref a) [v] h=(match h[a]? with
  | some (.list _)=>(match jC h (.ref a) v with
   | some k=>.ok (.int k) h
   | none=>.stuck)
  | _=>.stuck):=by
 rw [Q2]
 cases h[a]? with
 | none=>rfl
 | some o =>
  cases o with
  | inst c fs=>rfl
  | dict _=>rfl
  | list xs =>
   show ofP ((jC h (.ref a) v).map _)=_
   cases jC h (.ref a) v <;> rfl
theorem z0m:yN .count (.ref a) [v] h=(match h[a]? with
  | some (.list _)=>Out.of ((jf h (.ref a) v).map fun (n:Nat)=>AV.int (n:Int)) h
  | _=>.stuck):=by
 rw [Q2]
 cases h[a]? with
 | none=>rfl
 | some o =>
  cases o with
  | inst c fs=>rfl
  | dict _=>rfl
  | list xs=>exact XA
theorem w4:XY .Add (.int i) (.int j) h=.ok (.int (i+j)) h:=rfl
theorem ZQ:XY .Sub (.int i) (.int j) h=.ok (.int (i - j)) h:=rfl
theorem ZR:XY .Mult (.int i) (.int j) h=if i.natAbs<2 ^ 63∨j.natAbs<2 ^ 63 then .ok (.int (i * j)) h else .stuck:=by
 show Out.of ((if i.natAbs<2 ^ 63∨j.natAbs<2 ^ 63 then some (i * j) else none).map AV.int) h=_
 split <;> rfl
theorem qk:XY .FloorDiv (.int i) (.int j) h=if j≠0∧j.natAbs<1073741824 then .ok (.int (i.fdiv j)) h else .stuck:=by
 show Out.of ((if j≠0∧j.natAbs<1073741824 then some (i.fdiv j) else none).map AV.int) h=_
 split <;> rfl
theorem yY:XY .Mod (.int i) (.int j) h=if j=0 then .stuck else .ok (.int (i.fmod j)) h:=by
 show Out.of ((if j=0 then none else some (i.fmod j)).map AV.int) h=_
 split <;> rfl
theorem yr:yl .Eq v w h=aEq h v w:=rfl
theorem zEj (hn:neD h v w=none):yl .NotEq v w h=(aEq h v w).map (!·):=by
 show (match neD h v w with
  | some r=>some r
  | none=>(aEq h v w).map (!·))=_
 rw [hn]
theorem yS:yl .Lt (.int i) (.int j) h=some (decide (i<j)):=rfl
theorem xb:yl .LtE (.int i) (.int j) h=some (decide (i≤j)):=rfl
theorem XW:yl .Gt (.int i) (.int j) h=some (decide (j<i)):=rfl
theorem zEl:yl .GtE (.int i) (.int j) h=some (decide (j≤i)):=rfl
theorem Yg {op:CmpOp} {r:XE}:wD v [op] [r] cf fr h=(r cf fr h).bind fun v' h₁=>Out.of (yl op v v' h₁) h₁:=rfl
theorem Ye {op op':CmpOp} {ops:List CmpOp} {r:XE} {rs:List XE}:wD v (op::op'::ops) (r::rs) cf fr h=(r cf fr h).bind fun v' h₁=>(match yl op v v' h₁ with
  | some true=>wD v' (op'::ops) rs cf fr h₁
  | some false=>.ok false h₁
  | none=>.stuck):=by
 show (r cf fr h).bind _=_
 congr 1
 funext v' h₁
 cases yl op v v' h₁ with
 | none=>rfl
 | some b=>cases b <;> rfl
theorem z29:xK h .none=some false:=rfl
theorem z2a:xK h (.bool b)=some b:=rfl
theorem zDs:xK h (.int i)=some (decide (i≠0)):=rfl
theorem z3i {xs:List AV}:z0x h (.lst xs)=some xs.length:=rfl
theorem qY:z0x h (.ref a)=(match h[a]? with
  | some (.list xs)=>some xs.length
  | some (.dict kvs)=>some kvs.length
  | _=>none):=by
 show (match zw h a with
  | some kvs=>some kvs.length
  | none=>(zi h a).map List.length)=_
 unfold zw zi
 cases h[a]? with
 | none=>rfl
 | some o=>cases o <;> rfl
theorem z31 {xs:List AV}:wM h (.lst xs)=some xs:=rfl
theorem z30:wM h (.ref a)=(match h[a]? with | some (.list xs)=>some xs | _=>none):=rfl
theorem ZG:qF h (.ref a) (.int i) v=(match h[a]? with
  | some (.list xs)=>if 0≤i∧i<xs.length∧xs.length≤small then some (h.set a (.list (xs.set i.toNat v))) else none
  | some (.dict kvs)=>if kvs.length<small then some (h.set a (.dict (jr kvs i v))) else none
  | _=>none):=by
 show (match zw h a with
  | some kvs=>if kvs.length<small then some (h.set a (.dict (jr kvs i v))) else none
  | none=>(zi h a).bind fun xs=>if 0≤i∧i<xs.length∧xs.length≤small then some (h.set a (.list (xs.set i.toNat v))) else none)=_
 unfold zw zi
 cases h[a]? with
 | none=>rfl
 | some o=>cases o <;> rfl
theorem z2z:yx [] [] fr=some fr:=rfl
theorem Jv {k:Nat} {ks:List Nat} {vs:List AV}:yx (k::ks) (v::vs) fr=if k<fr.length then yx ks vs (fr.set k (some v)) else none:=rfl
theorem WG {op:BoolOp} {x y:XE} {r:List XE}:wf op (x::y::r) cf fr h=(x cf fr h).bind fun v h₁=>(match xK h₁ v with
  | some t=>(match op,t with
   | .And,false=>.ok v h₁
   | .Or,true=>.ok v h₁
   | _,_=>wf op (y::r) cf fr h₁)
  | none=>.stuck):=rfl
theorem Wi {xs:List AV} (ho:okI i=true):wF h (.lst xs) (.int i)=xs[i.toNat]? := if_pos ho
theorem qa (ho:okI i=true):wF h (.ref a) (.int i)=(match h[a]? with
  | some (.list xs)=>xs[i.toNat]?
  | some (.dict kvs)=>yp kvs i
  | _=>none):=by
 show (match zw h a with
  | some kvs=>yp kvs i
  | none=>if okI i=true then (zi h a).bind (fun xs=>xs[i.toNat]?) else none)=_
 rw [if_pos ho]
 unfold zw zi
 cases h[a]? with
 | none=>rfl
 | some o=>cases o <;> rfl
theorem z3s {s:Str} (ho:okI i=true):wF h (.str s) (.int i)=(s.cps[i.toNat]?).map fun c=>.str ⟨#[c]⟩:=if_pos ho
theorem zEk {x y:Str}:yl .In (.str x) (.str y) h=some (Txt.contains y x):=rfl
theorem z43 {x y:Str}:XY .Add (.str x) (.str y) h=if x.length+y.length≤small then .ok (.str (x++y)) h else .stuck:=Out.of_ite
theorem len_str {x:Str}:z0x h (.str x)=some x.length:=rfl
theorem z0l {sep:Str} {xs:List AV} {ss:List Str} (e:h[a]? = some (.list xs)) (e':jx xs=some ss) (z:(ss.map (·.length)).sum+ss.length * sep.length≤small):yN .join (.str sep) [.ref a] h=.ok (.str (Str.join sep ss)) h:=by
 show ofP ((zi h a).bind fun xs=>(jx xs).bind fun ss=>if (ss.map (·.length)).sum+ss.length * sep.length≤small then some (.str (Str.join sep ss),h) else none)=_
 rw [wV,e]
 show ofP ((jx xs).bind _)=_
 rw [e']
 show ofP (if _ then _ else _)=_
 rw [if_pos z];rfl
theorem zEr {xs:List AV} {bs:List Bool} (e:h[a]? = some (.list xs)) (e':xp xs=some bs):yu .all [.ref a] h=.ok (.bool (bs.all id)) h:=by
 show ofP ((zi h a).bind fun xs=>(xp xs).map fun bs=>(AV.bool (bs.all id),h))=_
 rw [wV,e]
 show ofP ((xp xs).map _)=_
 rw [e'];rfl
theorem zEq {xs:List AV} {bs:List Bool} (e:h[a]? = some (.list xs)) (e':xp xs=some bs):yu .any [.ref a] h=.ok (.bool (bs.any id)) h:=by
 show ofP ((zi h a).bind fun xs=>(xp xs).map fun bs=>(AV.bool (bs.any id),h))=_
 rw [wV,e]
 show ofP ((xp xs).map _)=_
 rw [e'];rfl
theorem Yj {α:Type} {f:α→Bool} {l:List α}:xp (l.map fun x=>AV.bool (f x))=some (l.map f):=by
 induction l with
 | nil=>rfl
 | cons x l ih =>
  show (xp (l.map fun x=>AV.bool (f x))).map _=_
  rw [ih];rfl
theorem JT {α:Type} {f:α→Str} {l:List α}:jx (l.map fun x=>AV.str (f x))=some (l.map f):=by
 induction l with
 | nil=>rfl
 | cons x l ih =>
  show (jx (l.map fun x=>AV.str (f x))).map _=_
  rw [ih];rfl
theorem z3z {xs:List AV} {l u:AV} {lo hi:Option Nat} (e:xc l=some lo) (e':xc u=some hi) (z:xs.length≤small):z1q h (.lst xs) l u=.ok (.ref h.length) (h++[.list (j4 xs (lo.getD 0) hi)]):=by
 show ofP ((xc l).bind fun lo=>(xc u).bind fun hi=>if xs.length≤small then some (AV.ref h.length,h++[.list (j4 xs (lo.getD 0) hi)]) else none)=_
 rw [e,e']
 show ofP (if _ then _ else _)=_
 rw [if_pos z];rfl
theorem Wl {xs:List AV} {l u:AV} {lo hi:Option Nat} (ea:h[a]? = some (.list xs)) (e:xc l=some lo) (e':xc u=some hi) (z:xs.length≤small):z1q h (.ref a) l u=.ok (.ref h.length) (h++[.list (j4 xs (lo.getD 0) hi)]):=by
 show ofP ((xc l).bind fun lo=>(xc u).bind fun hi=>(zi h a).bind fun xs=>if xs.length≤small then some (AV.ref h.length,h++[.list (j4 xs (lo.getD 0) hi)]) else none)=_
 rw [e,e']
 show ofP ((zi h a).bind _)=_
 rw [wV,ea]
 show ofP (if _ then _ else _)=_
 rw [if_pos z];rfl
theorem qj (h:okI i=true):xc (.int i)=some (some i.toNat):=if_pos h
theorem WK:xc .none=some none:=rfl
end
end Mine
end
section
namespace Mine
open PySem
theorem xH {T:Tab} {n:Nat} {x:Str} {F:Fn} {args:List AV} {h:Hp} (e:T.what x=some (.fn F)):run T (n+1) (.fn x) args h=yR F (run T n) args h:=by
 show (match T.what x with | some (.fn f)=>yR f (run T n) args h | _=>.stuck)=_
 rw [e]
theorem zJ {T:Tab} {n:Nat} {c x:Str} {F:Fn} {args:List AV} {h:Hp} (e:T.meth c x=some F):run T (n+1) (.meth c x) args h=yR F (run T n) args h:=by
 show (match T.meth c x with | some f=>yR f (run T n) args h | none=>.stuck)=_
 rw [e]
theorem X5 {T:Tab} {n:Nat} {x:Str} {F:Fn} {args:List AV} {h:Hp} (e:T.what x=some .cls) (e':T.meth x "__init__" = some F) :
  run T (n+1) (.cls x) args h=(yR F (run T n) (.ref h.length::args) (h++[.inst x []])).bind0 fun v h'=>(match v with | .none=>.ok (.ref h.length) h' | _=>.stuck):=by
 show (match T.what x with
  | some .cls=>(match T.meth x "__init__" with
   | some f=>(yR f (run T n) (.ref h.length::args) (h++[AO.inst x []])).bind0 fun v h'=>(match v with | .none=>.ok (AV.ref h.length) h' | _=>.stuck)
   | none=>.stuck)
  | _=>.stuck)=_
 rw [e,e']
theorem z2c (h:Hp) (n:Nat) (i:Int):toD h n (.int i)=some (.int i):=by cases n <;> rfl
theorem JP (h:Hp) (n:Nat) (b:Bool):toD h n (.bool b)=some (.bool b):=by cases n <;> rfl
theorem xJ {α β:Type} {f:α→Option β} {x:α} {xs:List α} {y:β} {ys:List β} (e:f x=some y) (e':yI f xs=some ys):yI f (x::xs)=some (y::ys):=by
 show (match f x,yI f xs with | some y,some ys=>some (y::ys) | _,_=>none)=_
 rw [e,e']
theorem YV (h:Hp) (n:Nat) (l:List Int):yI (toD h n) (l.map AV.int)=some (l.map PyData.int):=by
 induction l with
 | nil=>rfl
 | cons i l ih=>exact xJ (z2c h n i) ih
theorem W3 (h:Hp) (n:Nat) (l:List Bool):yI (toD h n) (l.map AV.bool)=some (l.map PyData.bool):=by
 induction l with
 | nil=>rfl
 | cons i l ih=>exact xJ (JP h n i) ih
theorem z45 {α:Type} [DecidableEq α] (i j:α):(i == j)=decide (i=j):=by
 by_cases h:i=j
 ·rw [decide_eq_true h];exact beq_iff_eq.mpr h
 ·rw [decide_eq_false h];exact beq_eq_false_iff_ne.mpr h
theorem qb {h:Hp} {a:Nat} {xs:List AV} (e:h[a]? = some (.list xs)):zi h a=some xs:=by unfold zi;rw [e]
theorem zGx {h:Hp} {a:Nat} {xs:List AV} {ds:List PyData} (e:h[a]? = some (.list xs)) (e':yI (toD h 7) xs=some ds):toD h 8 (.ref a)=some (.list ds):=by
 show (match zi h a with | some xs=>(yI (toD h 7) xs).map PyData.list | none=>none)=_
 rw [qb e]
 exact congrArg (Option.map PyData.list) e'
theorem Xc {h:Hp} {v w:AV} {x y:PyData} (e:toD h 8 v=some x) (e':toD h 8 w=some y):aEq h v w=some (PyData.eqv x y):=by
 unfold aEq;rw [e,e'];rfl
theorem yZ (h:Hp) (i j:Int):aEq h (.int i) (.int j)=some (decide (i=j)):=(Xc (h:=h) (v:=.int i) (w:=.int j) rfl rfl).trans (congrArg some (z45 i j))
theorem Xq {h:Hp} {a:Nat} {xs:List AV} (e:h[a]? = some (.list xs)):z33 h (.ref a)=yI (toD h 7) xs:=by
 show (zi h a).bind _=_
 rw [qb e];rfl
theorem wu {h:Hp} {a:Nat} {l:List Int} {i:Int} (e:h[a]? = some (.list (l.map AV.int))):jC h (.ref a) (.int i)=l.findIdx? (· == i):=by
 unfold jC;rw [Xq e,YV]
 show (l.map PyData.int).findIdx? (fun y=>PyData.eqv y (.int i))=_
 rw [List.findIdx?_map]
 rfl
theorem XV {h:Hp} {a:Nat} {l:List Bool} (e:h[a]? = some (.list (l.map AV.bool))):jf h (.ref a) (.bool true)=some (l.countP id):=by
 unfold jf;rw [Xq e,W3]
 show some ((l.map PyData.bool).countP (fun y=>PyData.eqv y (.bool true)))=_
 rw [List.countP_map]
 have:((fun y=>PyData.eqv y (.bool true)) ∘ PyData.bool)=id:=by funext b;cases b <;> rfl
 rw [this]
theorem zP {α:Type} (g:List α) (x:α) (r:List α):(g++x::r)[g.length]? = some x:=by simp
theorem x9 {α:Type} (g l:List α) (k:Nat):(g++l)[g.length+k]? = l[k]? := by
 rw [List.getElem?_append_right (Nat.le_add_right _ _)];simp
theorem zC {α:Type} {g l:List α} {k:Nat} {x:α} (e:g[k]? = some x):(g++l)[k]? = some x:=by
 rw [List.getElem?_append_left (yL e).1];exact e
theorem jt {t:NTgt} {test:XT} {elt:XE} {src:Src} {f k:Nat} {acc:List AV} {cf:CF} {fr:AFr} {h:Hp}:yJ t test elt src (f+1) k acc cf fr h=(match src.next? h k with
  | none=>.stuck
  | some none=>.ok acc h
  | some (some x)=>(match t.bind x fr with
   | none=>.stuck
   | some fr₁=>(test cf fr₁ h).bind0 fun b h₁ =>
     if b then (elt cf fr₁ h₁).bind0 fun v h₂=>if acc.length<small then yJ t test elt src f (k+1) (acc++[v]) cf fr₁ h₂ else .stuck
     else yJ t test elt src f (k+1) acc cf fr₁ h₁)):=rfl
theorem Y1 {α:Type} (g:α→AV) {test:XT} {elt:XE} {cf:CF} {fr:AFr} {i:Nat} (hi:i<fr.length) {h:Hp} {src:Src} {l:List α} {p:α→Bool} {f:α→AV} (hsrc:∀ k,src.next? h k=some ((l.map g)[k]?)) (hsm:l.length<small)
  (ht:∀ fr',fr'.length=fr.length→(∀ j,j≠i→fr'[j]? = fr[j]?)→∀ x∈l,fr'[i]? = some (some (g x))→test cf fr' h=.ok (p x) h)
  (he:∀ fr',fr'.length=fr.length→(∀ j,j≠i→fr'[j]? = fr[j]?)→∀ x∈l,fr'[i]? = some (some (g x))→elt cf fr' h=.ok (f x) h) :
  yJ (.one i) test elt src (l.length+1) 0 [] cf fr h=.ok ((l.filter p).map f) h:=by
 have key:∀ (m k:Nat) (acc:List AV) (fr':AFr),k+m=l.length→fr'.length=fr.length→(∀ j,j≠i→fr'[j]? = fr[j]?)→acc.length≤k →
   yJ (.one i) test elt src (m+1) k acc cf fr' h=.ok (acc++((l.drop k).filter p).map f) h:=by
  intro m
  induction m with
  | zero =>
   intro k acc fr' hk hl hj ha
   have:(l.map g)[k]? = none:=by simp;lia
   rw [jt,hsrc,this,List.drop_eq_nil_of_le (by lia)]
   show Out.ok acc h=.ok (acc++[]) h
   rw [List.append_nil]
  | succ m ih =>
   intro k acc fr' hk hl hj ha
   have hk':k<l.length:=by lia
   have e1:(l.map g)[k]? = some (g l[k]):=by simp [Out.bind_ok,Out.bind0_ok,Out.bind_stuck,Out.of_some,Out.of_none,Out.bindS_ok,hk']
   have hm:l[k]∈l:=List.getElem_mem hk'
   have hb:NTgt.bind (.one i) (g l[k]) fr'=some (fr'.set i (some (g l[k]))):=by
    simp only [NTgt.bind,Jv,z2z];rw [if_pos (by lia)]
   have g1:(fr'.set i (some (g l[k]))).length=fr.length:=by simp [Out.bind_ok,Out.bind0_ok,Out.bind_stuck,Out.of_some,Out.of_none,Out.bindS_ok,hl]
   have g2:∀ j,j≠i→(fr'.set i (some (g l[k])))[j]? = fr[j]? := fun j hne=>by rw [List.getElem?_set_ne (Ne.symm hne)];exact hj j hne
   have g3:(fr'.set i (some (g l[k])))[i]? = some (some (g l[k])):=by rw [List.getElem?_set_self (by lia)]
   rw [List.drop_eq_getElem_cons hk']
   rw [jt,hsrc,e1]
   dsimp only
   rw [hb]
   dsimp only
   rw [ht _ g1 g2 _ hm g3]
   simp only [Out.bind0_ok]
   cases hp:p l[k] with
   | true =>
    rw [if_pos rfl,he _ g1 g2 _ hm g3]
    simp only [Out.bind0_ok]
    rw [if_pos (by lia),ih (k+1) _ _ (by lia) g1 g2 (by simp;lia)]
    simp only [List.filter_cons,hp,if_true,List.map_cons,List.append_assoc,List.singleton_append]
   | false =>
    rw [if_neg (by simp),ih (k+1) _ _ (by lia) g1 g2 (by lia)]
    simp only [List.filter_cons,hp,Bool.false_eq_true,if_false]
 have:=key l.length 0 [] fr (by lia) rfl (fun _ _=>rfl) (Nat.le_refl _)
 simpa using this
theorem wy {α:Type} (g:α→AV) {it:XE} {own i a:Nat} {test:XT} {elt:XE} {cf:CF} {fr:AFr} {h h1:Hp} {l:List α} {p:α→Bool} {f:α→AV} (e1:it cf fr h=.ok (.ref a) h1) (e2:h1[a]? = some (.list (l.map g))) (hi:i<fr.length+own) (hsm:l.length<small)
  (ht:∀ fr',fr'.length=fr.length+own→(∀ j,j≠i→fr'[j]? = (fr++List.replicate own none)[j]?)→∀ x∈l,fr'[i]? = some (some (g x))→test cf fr' h1=.ok (p x) h1)
  (he:∀ fr',fr'.length=fr.length+own→(∀ j,j≠i→fr'[j]? = (fr++List.replicate own none)[j]?)→∀ x∈l,fr'[i]? = some (some (g x))→elt cf fr' h1=.ok (f x) h1) :
  yE it own (.one i) test elt cf fr h=.ok (.ref h1.length) (h1++[.list ((l.filter p).map f)]):=by
 have hl:(fr++List.replicate own (none:Option AV)).length=fr.length+own:=by simp
 have es:xC h1 (.ref a)=some (.ref a,(l.map g).length):=by
  show (match h1[a]? with | some (.list xs)=>some (Src.ref a,xs.length) | _=>none)=_
  rw [e2]
 unfold yE
 rw [e1]
 simp only [Out.bind_ok]
 rw [es]
 dsimp only
 rw [List.length_map,Y1 g (fr:=fr++List.replicate own none) (l:=l) (p:=p) (f:=f) (by rw [hl];exact hi) (fun k=>by
  show (match h1[a]? with | some (.list ys)=>some ys[k]? | _=>none)=_
  rw [e2]) hsm (fun fr' a b=>ht fr' (by rw [a,hl]) b) (fun fr' a b=>he fr' (by rw [a,hl]) b)]
 rfl
theorem z4 {i:Nat} {cf:CF} {fr:AFr} {h:Hp} {v:AV} (e:fr[i]? = some (some v)):z5 i cf fr h=.ok v h:=by simp only [z5,e]
theorem Yi {α:Type} (g:α→AV) {it:XE} {own i:Nat} {v:AV} {test:XT} {elt:XE} {cf:CF} {fr:AFr} {h h1:Hp} {l:List α} {p:α→Bool} {f:α→AV} (e1:it cf fr h=.ok v h1) (e2:xC h1 v=some (.imm (l.map g),l.length)) (hi:i<fr.length+own) (hsm:l.length<small)
  (ht:∀ fr',fr'.length=fr.length+own→(∀ j,j≠i→fr'[j]? = (fr++List.replicate own none)[j]?)→∀ x∈l,fr'[i]? = some (some (g x))→test cf fr' h1=.ok (p x) h1)
  (he:∀ fr',fr'.length=fr.length+own→(∀ j,j≠i→fr'[j]? = (fr++List.replicate own none)[j]?)→∀ x∈l,fr'[i]? = some (some (g x))→elt cf fr' h1=.ok (f x) h1) :
  yE it own (.one i) test elt cf fr h=.ok (.ref h1.length) (h1++[.list ((l.filter p).map f)]):=by
 have hl:(fr++List.replicate own (none:Option AV)).length=fr.length+own:=by simp
 unfold yE
 rw [e1]
 simp only [Out.bind_ok]
 rw [e2]
 dsimp only
 rw [Y1 g (fr:=fr++List.replicate own none) (l:=l) (p:=p) (f:=f) (by rw [hl];exact hi) (fun k=>rfl) hsm (fun fr' a b=>ht fr' (by rw [a,hl]) b) (fun fr' a b=>he fr' (by rw [a,hl]) b)]
 rfl
theorem z6 {s:XS} {r:List XS} {cf:CF} {fr fr1:AFr} {h h1:Hp} (e:s cf fr h=.ok .next fr1 h1):zA (s::r) cf fr h=zA r cf fr1 h1:=by
 show (match s cf fr h with
  | .ok .next fr₁ h₁=>zA r cf fr₁ h₁
  | o=>o)=_
 rw [e]
theorem zL {s:XS} {r:List XS} {cf:CF} {fr fr1:AFr} {h h1:Hp} {v:AV} (e:s cf fr h=.ok (.ret v) fr1 h1):zA (s::r) cf fr h=.ok (.ret v) fr1 h1:=by
 show (match s cf fr h with
  | .ok .next fr₁ h₁=>zA r cf fr₁ h₁
  | o=>o)=_
 rw [e]
theorem zF {cf:CF} {fr:AFr} {h:Hp}:zA [] cf fr h=.ok .next fr h:=rfl
theorem xG {t:NTgt} {body:XS} {src:Src} {cf:CF} {xs:List AV} (P:Nat→AFr→Hp→Prop) (hsrc:∀ k fr h,P k fr h→src.next? h k=some xs[k]?)
  (step:∀ k x fr h,P k fr h→xs[k]? = some x→∃ fr1 fr2 h2,Y4 h t x fr=some fr1∧body cf fr1 h=.ok .next fr2 h2∧P (k+1) fr2 h2) {fr:AFr} {h:Hp} (p0:P 0 fr h) :
  ∃ fr' h',xm t body src (xs.length+1) 0 cf fr h=.ok .next fr' h'∧P xs.length fr' h':=by
 have key:∀ (m k:Nat) (fr:AFr) (h:Hp),k+m=xs.length→P k fr h→∃ fr' h',xm t body src (m+1) k cf fr h=.ok .next fr' h'∧P xs.length fr' h':=by
  intro m
  induction m with
  | zero =>
   intro k fr h hk p
   have:k=xs.length:=hk
   subst this
   refine ⟨fr,h,?_,p⟩
   show (match src.next? h xs.length with
    | none=>OS.stuck
    | some none=>.ok .next fr h
    | some (some x)=>_)=_
   rw [hsrc _ _ _ p,List.getElem?_eq_none (Nat.le_refl _)]
  | succ m ih =>
   intro k fr h hk p
   have hlt:k<xs.length:=by lia
   have hx:=y6 hlt
   obtain ⟨fr1,fr2,h2,e1,e2,p2⟩:=step k _ fr h p hx
   obtain ⟨fr',h',e3,p3⟩:=ih (k+1) fr2 h2 (by lia) p2
   refine ⟨fr',h',?_,p3⟩
   show (match src.next? h k with
    | none=>OS.stuck
    | some none=>.ok .next fr h
    | some (some x)=>(match Y4 h t x fr with
     | none=>.stuck
     | some fr₁=>(match body cf fr₁ h with
      | .ok .next fr₂ h₂=>xm t body src (m+1) (k+1) cf fr₂ h₂
      | .ok (.ret v) fr₂ h₂=>.ok (.ret v) fr₂ h₂
      | _=>.stuck)))=_
   rw [hsrc _ _ _ p,hx]
   show (match Y4 h t xs[k] fr with
     | none=>OS.stuck
     | some fr₁=>(match body cf fr₁ h with
      | .ok .next fr₂ h₂=>xm t body src (m+1) (k+1) cf fr₂ h₂
      | .ok (.ret v) fr₂ h₂=>.ok (.ret v) fr₂ h₂
      | _=>.stuck))=_
   rw [e1]
   show (match body cf fr1 h with
      | .ok .next fr₂ h₂=>xm t body src (m+1) (k+1) cf fr₂ h₂
      | .ok (.ret v) fr₂ h₂=>.ok (.ret v) fr₂ h₂
      | _=>.stuck)=_
   rw [e2]
   exact e3
 exact key xs.length 0 fr h (Nat.zero_add _) p0
theorem zN {F:Fn} {cf:CF} {args:List AV} {h h':Hp} {fr fr':AFr} {v:AV} (hn:args.length=F.np) (hf:args.map some++List.replicate (F.nl - F.np) none=fr) (e:F.body cf fr h=.ok (.ret v) fr' h'):yR F cf args h=.ok v h':=by
 unfold yR;rw [if_pos hn,hf,e]
theorem y7 {F:Fn} {cf:CF} {args:List AV} {h h':Hp} {fr fr':AFr} (hn:args.length=F.np) (hf:args.map some++List.replicate (F.nl - F.np) none=fr) (e:F.body cf fr h=.ok .next fr' h'):yR F cf args h=.ok .none h':=by
 unfold yR;rw [if_pos hn,hf,e]
theorem zg {t:XT} {a b:XS} {cf:CF} {fr:AFr} {h h1:Hp} (e:t cf fr h=.ok true h1):sIf t a b cf fr h=a cf fr h1:=by unfold sIf;rw [e];rfl
theorem zH {t:XT} {a b:XS} {cf:CF} {fr:AFr} {h h1:Hp} (e:t cf fr h=.ok false h1):sIf t a b cf fr h=b cf fr h1:=by unfold sIf;rw [e];rfl
section
variable {cf:CF} {fr:AFr} {h h1 h2 h3:Hp} {x y o i f l u:XE} {xs:List XE} {v w k a' b':AV} {vs:List AV} {a j:Nat} {okf:Str→Str→Bool} {name:Str} {c:Str} {fs:List (Str×AV)} {res:Out AV} {resS:OS}
theorem zd (e:x cf fr h=.ok v h1):zW x cf fr h=.ok (.ret v) fr h1:=by unfold zW;rw [e];rfl
theorem zY (e:x cf fr h=.ok v h1):zI x cf fr h=.ok .next fr h1:=by unfold zI;rw [e];rfl
theorem zX (e:x cf fr h=.ok v h1) (hi:j<fr.length):z9 okf (.names (.one j)) x cf fr h=.ok .next (fr.set j (some v)) h1:=by
 unfold z9
 rw [e]
 show (match NTgt.bind (.one j) v fr with | some fr₁=>OS.ok .next fr₁ h1 | none=>.stuck)=_
 rw [show NTgt.bind (.one j) v fr=some (fr.set j (some v)) from if_pos hi]
theorem X6 {is:List Nat} {fr1:AFr} (e:x cf fr h=.ok (.tup vs) h1) (hb:yx is vs fr=some fr1):z9 okf (.names (.many is)) x cf fr h=.ok .next fr1 h1:=by
 unfold z9
 rw [e]
 show (match yx is vs fr with | some fr₁=>OS.ok .next fr₁ h1 | none=>.stuck)=_
 rw [hb]
theorem zO (e:o cf fr h=.ok (.ref a) h1) (ha:h1[a]? = some (.inst c fs)) (hl:fs.lookup name=some v):zE o name cf fr h=.ok v h1:=by
 unfold zE
 rw [e]
 show (match h1[a]? with | some (.inst _ fs)=>Out.of (fs.lookup name) h1 | _=>.stuck)=_
 rw [ha]
 show Out.of (fs.lookup name) h1=_
 rw [hl];rfl
theorem zG {me:Option Me} (e:o cf fr h=.ok (.ref a) h1) (ha:h1[a]? = some (.inst c fs)) (hl:fs.lookup name=none) (ev:evs xs cf fr h1=.ok vs h2) (ec:cf (.meth c name) (.ref a::vs) h2=res):z8 o name me xs cf fr h=res:=by
 unfold z8
 rw [e]
 show (match h1[a]? with
  | some (.inst c fs)=>(match fs.lookup name with
   | some _=>Out.stuck
   | none=>wU cf c name (.ref a) (evs xs cf fr h1))
  | some (.list _)=>(match me with
   | some m=>(evs xs cf fr h1).bind0 fun vs h₂=>yN m (.ref a) vs h₂
   | none=>.stuck)
  | some (.dict _)=>(match me with
   | some m=>(evs xs cf fr h1).bind0 fun vs h₂=>ofP (meD m a vs h₂)
   | none=>.stuck)
  | none=>.stuck)=_
 rw [ha]
 show (match fs.lookup name with
   | some _=>Out.stuck
   | none=>wU cf c name (.ref a) (evs xs cf fr h1))=_
 rw [hl]
 show wU cf c name (.ref a) (evs xs cf fr h1)=_
 rw [ev];exact ec
theorem z37 {me:Option Me} (e:o cf fr h=.ok (.ref a) h1) (ha:h1[a]? = some (.inst c fs)) (hl:fs.lookup name=none) {c':Str} {u:AV} {h3:Hp} (ev:evs xs cf fr h1=.exc c' h2) (ec:cf (.has c name) [] h2=.ok u h3):z8 o name me xs cf fr h=.exc c' h2:=by
 unfold z8
 rw [e]
 show (match h1[a]? with
  | some (.inst c fs)=>(match fs.lookup name with
   | some _=>Out.stuck
   | none=>wU cf c name (.ref a) (evs xs cf fr h1))
  | some (.list _)=>(match me with
   | some m=>(evs xs cf fr h1).bind0 fun vs h₂=>yN m (.ref a) vs h₂
   | none=>.stuck)
  | some (.dict _)=>(match me with
   | some m=>(evs xs cf fr h1).bind0 fun vs h₂=>ofP (meD m a vs h₂)
   | none=>.stuck)
  | none=>.stuck)=_
 rw [ha]
 show (match fs.lookup name with
   | some _=>Out.stuck
   | none=>wU cf c name (.ref a) (evs xs cf fr h1))=_
 rw [hl]
 show wU cf c name (.ref a) (evs xs cf fr h1)=_
 rw [ev]
 show (match cf (.has c name) [] h2 with
  | .ok _ _=>Out.exc c' h2
  | _=>.stuck)=_
 rw [ec]
theorem j3 {m:Me} {ys:List AV} (e:o cf fr h=.ok (.ref a) h1) (ha:h1[a]? = some (.list ys)) (ev:evs xs cf fr h1=.ok vs h2) (ec:yN m (.ref a) vs h2=res):z8 o name (some m) xs cf fr h=res:=by
 unfold z8
 rw [e]
 show (match h1[a]? with
  | some (.inst c fs)=>(match fs.lookup name with
   | some _=>Out.stuck
   | none=>wU cf c name (.ref a) (evs xs cf fr h1))
  | some (.list _)=>(evs xs cf fr h1).bind0 fun vs h₂=>yN m (.ref a) vs h₂
  | some (.dict _)=>(evs xs cf fr h1).bind0 fun vs h₂=>ofP (meD m a vs h₂)
  | none=>.stuck)=_
 rw [ha]
 show (evs xs cf fr h1).bind0 _=_
 rw [ev];exact ec
theorem z4e {m:Me} {kvs:List (Int×AV)} (e:o cf fr h=.ok (.ref a) h1) (ha:h1[a]? = some (.dict kvs)) (ev:evs xs cf fr h1=.ok vs h2) (ec:ofP (meD m a vs h2)=res):z8 o name (some m) xs cf fr h=res:=by
 unfold z8
 rw [e]
 show (match h1[a]? with
  | some (.inst c fs)=>(match fs.lookup name with
   | some _=>Out.stuck
   | none=>wU cf c name (.ref a) (evs xs cf fr h1))
  | some (.list _)=>(evs xs cf fr h1).bind0 fun vs h₂=>yN m (.ref a) vs h₂
  | some (.dict _)=>(evs xs cf fr h1).bind0 fun vs h₂=>ofP (meD m a vs h₂)
  | none=>.stuck)=_
 rw [ha]
 show (evs xs cf fr h1).bind0 _=_
 rw [ev];exact ec
theorem zF5 {m:Me} {s:Str} (e:o cf fr h=.ok (.str s) h1) (ev:evs xs cf fr h1=.ok vs h2) (ec:yN m (.str s) vs h2=res):z8 o name (some m) xs cf fr h=res:=by
 unfold z8
 rw [e]
 show (evs xs cf fr h1).bind0 _=_
 rw [ev];exact ec
theorem zu {n:Str} (ev:evs xs cf fr h=.ok vs h2) (ec:cf (.fn n) vs h2=res):zD (zB (some (.fn n))) xs cf fr h=res:=by
 unfold zD
 show (evs xs cf fr h).bind0 _=_
 rw [ev];exact ec
theorem z09 {n:Str} (ev:evs xs cf fr h=.ok vs h2) (ec:cf (.cls n) vs h2=res):zD (zB (some (.cls n))) xs cf fr h=res:=by
 unfold zD
 show (evs xs cf fr h).bind0 _=_
 rw [ev];exact ec
theorem xM {b:Bi} (ev:evs xs cf fr h=.ok vs h2) (ec:yu b vs h2=res):zD (zB (some (.bi b))) xs cf fr h=res:=by
 unfold zD
 show (evs xs cf fr h).bind0 _=_
 rw [ev];exact ec
theorem ev0:evs [] cf fr h=.ok [] h:=rfl
theorem ev1 (e:x cf fr h=.ok v h1) (e':evs xs cf fr h1=.ok vs h2):evs (x::xs) cf fr h=.ok (v::vs) h2:=by
 show Out.bind (x cf fr h) _=_
 rw [e]
 show Out.bind (evs xs cf fr h1) _=_
 rw [e'];rfl
theorem yD {op:Operator} (e:x cf fr h=.ok v h1) (e':y cf fr h1=.ok w h2) (eb:XY op v w h2=res):zM op x y cf fr h=res:=by
 unfold zM
 rw [e]
 show Out.bind (y cf fr h1) _=_
 rw [e'];exact eb
theorem zZ (e:o cf fr h=.ok v h1) (e':i cf fr h1=.ok w h2) (eb:wF h2 v w=some k):zK o i cf fr h=.ok k h2:=by
 unfold zK
 rw [e]
 show Out.bind (i cf fr h1) _=_
 rw [e']
 show Out.of (wF h2 v w) h2=_
 rw [eb];rfl
theorem z08 (e:o cf fr h=.ok v h1) (e':l cf fr h1=.ok a' h2) (e'':u cf fr h2=.ok b' h3) (eb:z1q h3 v a' b'=res):ZF o l u cf fr h=res:=by
 unfold ZF
 rw [e]
 show Out.bind (l cf fr h1) _=_
 rw [e']
 show Out.bind (u cf fr h2) _=_
 rw [e''];exact eb
theorem wO {t:NTgt} {en:Bool} {body:XS} {src:Src} {m:Nat} (e:x cf fr h=.ok v h1) (es:xC h1 v=some (src,m)) (ef:xm t body src (m+1) 0 cf fr h1=resS):xo t x false body cf fr h=resS:=by
 unfold xo
 rw [e]
 show (match xC h1 v with | none=>OS.stuck | some (src,n)=>xm t body src (n+1) 0 cf fr h1)=_
 rw [es];exact ef
theorem zE2 {is:List Nat} {body:XS} {m:Nat} (e:x cf fr h=.ok v h1) (es:xC h1 v=some (.ref a,m)) (ef:xm (.many is) body (.enum a) (m+1) 0 cf fr h1=resS):xo (.many is) x true body cf fr h=resS:=by
 unfold xo
 rw [e]
 show (match xC h1 v with | none=>OS.stuck | some (src,n)=>(match src with
   | .ref a=>xm (.many is) body (.enum a) (n+1) 0 cf fr h1
   | _=>.stuck))=_
 rw [es];exact ef
theorem yX (ev:evs xs cf fr h=.ok vs h1):zm xs cf fr h=.ok (.ref h1.length) (h1++[.list vs]):=by
 unfold zm;rw [ev];rfl
theorem qH (ev:evs xs cf fr h=.ok vs h1):yt xs cf fr h=.ok (.tup vs) h1:=by
 unfold yt;rw [ev];rfl
theorem yT (e:x cf fr h=.ok v h1) {b:Bool} (eb:xK h1 v=some b):zy x cf fr h=.ok b h1:=by
 unfold zy;rw [e]
 show Out.of (xK h1 v) h1=_
 rw [eb];rfl
theorem zt {t:XT} {b:Bool} (e:t cf fr h=.ok b h1):yP t cf fr h=.ok (!b) h1:=by
 unfold yP;rw [e];rfl
theorem Zb (e:x cf fr h=.ok v h1) (eo:o cf fr h1=.ok w h2) (ei:i cf fr h2=.ok k h3) {h4:Hp} (es:qF h3 w k v=some h4):z9 okf (.item o i) x cf fr h=.ok .next fr h4:=by
 unfold z9
 rw [e]
 show Out.bindS (o cf fr h1) fr _=_
 rw [eo]
 show Out.bindS (i cf fr h2) fr _=_
 rw [ei]
 show (match qF h3 w k v with | some h₄=>OS.ok .next fr h₄ | none=>.stuck)=_
 rw [es]
theorem zV {op:CmpOp} {b:Bool} (e:x cf fr h=.ok v h1) (e':y cf fr h1=.ok w h2) (eb:yl op v w h2=some b):zQ x [op] [y] cf fr h=.ok b h2:=by
 unfold zQ
 rw [e]
 show wD v [op] [y] cf fr h1=_
 rw [Yg,e']
 show Out.of (yl op v w h2) h2=_
 rw [eb];rfl
theorem xD {t:XT} {ts:List XT} {b:Bool} (e:t cf fr h=.ok false h1) (e':zT .Or ts cf fr h1=.ok b h2):zT .Or (t::ts) cf fr h=.ok b h2:=by
 show (t cf fr h).bind _=_
 rw [e];exact e'
theorem Xv {t:XT} {ts:List XT} (e:t cf fr h=.ok true h1):zT .Or (t::ts) cf fr h=.ok true h1:=by
 show (t cf fr h).bind _=_
 rw [e];rfl
theorem qR:zT .Or [] cf fr h=.ok false h:=rfl
theorem qT {t:XT} {ts:List XT} {b:Bool} (e:t cf fr h=.ok true h1) (e':zT .And ts cf fr h1=.ok b h2):zT .And (t::ts) cf fr h=.ok b h2:=by
 show (t cf fr h).bind _=_
 rw [e];exact e'
theorem xI {t:XT} {ts:List XT} (e:t cf fr h=.ok false h1):zT .And (t::ts) cf fr h=.ok false h1:=by
 show (t cf fr h).bind _=_
 rw [e];rfl
theorem Zc:zT .And [] cf fr h=.ok true h:=rfl
end
theorem ZJ {cf:CF} {fr:AFr} {h h1 h2:Hp} {x y:XE} {zs:List XE} {v w:AV} {op op':CmpOp} {ops:List CmpOp} (e:x cf fr h=.ok v h1) (e':y cf fr h1=.ok w h2) (eb:yl op v w h2=some false):zQ x (op::op'::ops) (y::zs) cf fr h=.ok false h2:=by
 unfold zQ
 rw [e]
 show wD v (op::op'::ops) (y::zs) cf fr h1=_
 rw [Ye,e']
 show (match yl op v w h2 with | some true=>_ | some false=>_ | none=>_)=_
 rw [eb]
theorem xF {cf:CF} {fr:AFr} {h h1 h2 h3:Hp} {x y z:XE} {v w u:AV} {b:Bool} {op op':CmpOp} (e:x cf fr h=.ok v h1) (e':y cf fr h1=.ok w h2) (eb:yl op v w h2=some true) (ez:z cf fr h2=.ok u h3) (ec:yl op' w u h3=some b):zQ x [op,op'] [y,z] cf fr h=.ok b h3:=by
 unfold zQ
 rw [e]
 show wD v [op,op'] [y,z] cf fr h1=_
 rw [Ye,e']
 show (match yl op v w h2 with | some true=>wD w [op'] [z] cf fr h2 | some false=>_ | none=>_)=_
 rw [eb]
 show wD w [op'] [z] cf fr h2=_
 rw [Yg,ez]
 show Out.of (yl op' w u h3) h3=_
 rw [ec];rfl
theorem jO {x:Int} {n:Nat} (h0:0≤x) (h1:x<n):x.toNat<n:=(Int.toNat_lt h0).mpr h1
theorem Yo {x:Int} {n k:Nat} (h0:0≤x) (h1:x<((n+k:Nat):Int)) (h2:¬ x<n):x.toNat - n<k:=Nat.sub_lt_left_of_lt_add (Int.ofNat_le.mp (by rw [Int.toNat_of_nonneg h0];exact Int.not_lt.mp h2)) ((Int.toNat_lt h0).mpr h1)
theorem Y9 {x:Int} {n:Nat} (h0:0≤x) (h2:¬ x<n):((n+(x.toNat - n):Nat):Int)=x:=by
 rw [Nat.add_sub_cancel' (Int.ofNat_le.mp (by rw [Int.toNat_of_nonneg h0];exact Int.not_lt.mp h2)),Int.toNat_of_nonneg h0]
theorem Xb {x:Int} {n:Nat} (k:Nat) (h:x<n):x<((n+k:Nat):Int):=Int.lt_of_lt_of_le h (Int.ofNat_le.mpr (Nat.le_add_right _ _))
theorem zDo {i j:Int} {m:Nat} (h0:0≤i) (h1:i<j) (h5:j≤i+5):min j.toNat m - i.toNat≤5:=by
 have h:=Int.toNat_le_toNat h5
 rw [show i+5=i+((5:Nat):Int) from rfl,Int.toNat_add_nat h0 5,Nat.add_comm] at h
 exact Nat.sub_le_of_le_add (Nat.le_trans (Nat.min_le_left _ _) h)
theorem Qi {a b m:Nat} (h:a+m<200) (h':b≤m):a+b<200:=Nat.lt_of_le_of_lt (Nat.add_le_add_left h' a) h
end Mine
end
section
namespace Mine.LS
open PySem Mine
set_option maxRecDepth 100000
noncomputable def kBy (okf:Str→Str→Bool):Fn:=⟨1,1,(zA [(zW (wf .And [(zD (zB (some (.bi .isinstance))) [(z5 0),(zB (some (.bi .int)))]),(WF (zD (zB (some (.bi .isinstance))) [(z5 0),(zB (some (.bi .bool)))]))]))])⟩
noncomputable def kBv (okf:Str→Str→Bool):Fn:=⟨1,1,(zA [(z9 okf (.attr (z5 0) "line") (zm [])),(z9 okf (.attr (z5 0) "flags") (zm []))])⟩
noncomputable def kAn (okf:Str→Str→Bool):Fn:=⟨2,2,(zA [(sIf (zT .Or [(yP (zy (zD (zB (some (.fn "is_whole"))) [(z5 1)]))),(yP (zQ (z7 (.int 0)) [.LtE,.Lt] [(z5 1),(zD (zB (some (.bi .len))) [(zE (z5 0) "flags")])]))]) (zA [(yy "NoSeat")]) (zA []))])⟩
noncomputable def kB3 (okf:Str→Str→Bool):Fn:=⟨2,4,(zA [(z9 okf (.names (.one 2)) (z7 (.int 0))),(sIf (zQ (z5 1) [.IsNot] [(z7 .none)]) (zA [(zI (z8 (z5 0) "need_seat" none [(z5 1)])),(z9 okf (.names (.one 2)) (zM .Add (z8 (zE (z5 0) "line") "index" (some .index) [(z5 1)]) (z7 (.int 1))))]) (zA [])),(z9 okf (.names (.one 3)) (zD (zB (some (.bi .len))) [(zE (z5 0) "flags")])),(zI (z8 (zE (z5 0) "line") "insert" (some .insert) [(z5 2),(z5 3)])),(zI (z8 (zE (z5 0) "flags") "append" (some .append) [(z7 (.bool false))])),(zW (z5 3))])⟩
noncomputable def kBx (okf:Str→Str→Bool):Fn:=⟨3,3,(zA [(zI (z8 (z5 0) "need_seat" none [(z5 1)])),(z9 okf (.item (zE (z5 0) "flags") (z5 1)) (z5 2))])⟩
noncomputable def kAw (okf:Str→Str→Bool):Fn:=⟨2,2,(zA [(zI (z8 (z5 0) "need_seat" none [(z5 1)])),(zW (zK (zE (z5 0) "flags") (z5 1)))])⟩
noncomputable def kAs (okf:Str→Str→Bool):Fn:=⟨1,1,(zA [(zW (z8 (zE (z5 0) "flags") "count" (some .count) [(z7 (.bool true))]))])⟩
noncomputable def kBp (okf:Str→Str→Bool):Fn:=⟨2,3,(zA [(zI (z8 (z5 0) "need_seat" none [(z5 1)])),(z9 okf (.names (.one 2)) (ZF (zE (z5 0) "line") (z7 .none) (z8 (zE (z5 0) "line") "index" (some .index) [(z5 1)]))),(zW (zD (zB (some (.bi .len))) [(yE (z5 2) 1 (.one 3) (zT .And [(zy (zK (zE (z5 0) "flags") (z5 3)))]) (z5 3))]))])⟩
noncomputable def kBs (okf:Str→Str→Bool):Fn:=⟨2,3,(zA [(z9 okf (.names (.one 2)) (yE (zE (z5 0) "line") 1 (.one 3) (zT .And [(zy (zK (zE (z5 0) "flags") (z5 3)))]) (z5 3))),(sIf (zT .Or [(yP (zy (zD (zB (some (.fn "is_whole"))) [(z5 1)]))),(yP (zQ (z7 (.int 0)) [.LtE,.Lt] [(z5 1),(zD (zB (some (.bi .len))) [(z5 2)])]))]) (zA [(yy "NoPlace")]) (zA [])),(zW (zK (z5 2) (z5 1)))])⟩
noncomputable def kAv (okf:Str→Str→Bool):Fn:=⟨3,3,(zA [(zI (z8 (z5 0) "need_seat" none [(z5 1)])),(zI (z8 (z5 0) "need_seat" none [(z5 2)])),(zW (ju (z8 (zE (z5 0) "line") "index" (some .index) [(z5 1)]) [.Lt] [(z8 (zE (z5 0) "line") "index" (some .index) [(z5 2)])]))])⟩
noncomputable def kBq (okf:Str→Str→Bool):Fn:=⟨1,1,(zA [(zW (zD (zB (some (.bi .list))) [(zE (z5 0) "line")]))])⟩
noncomputable def kBg (okf:Str→Str→Bool):Fn:=⟨2,2,(zA [(z9 okf (.attr (z5 0) "sheet") (z5 1)),(z9 okf (.attr (z5 0) "kept") xn),(z9 okf (.attr (z5 0) "coming") (z7 (.int 0)))])⟩
noncomputable def kAd (okf:Str→Str→Bool):Fn:=⟨2,2,(zA [(sIf (zT .Or [(yP (zy (zD (zB (some (.fn "is_whole"))) [(z5 1)]))),(zQ (z5 1) [.NotIn] [(zE (z5 0) "kept")])]) (zA [(yy "NoMark")]) (zA []))])⟩
noncomputable def kAx (okf:Str→Str→Bool):Fn:=⟨3,5,(zA [(zI (z8 (zE (z5 0) "sheet") "need_hand" none [(z5 1)])),(z9 okf (.names (.one 3)) (z8 (zE (z5 0) "sheet") "sign_at" none [(z5 2)])),(z9 okf (.names (.one 4)) (zE (z5 0) "coming")),(z9 okf (.attr (z5 0) "coming") (zM .Add (z5 4) (z7 (.int 1)))),(z9 okf (.item (zE (z5 0) "kept") (z5 4)) (yt [(z5 1),(z5 3)])),(zW (z5 4))])⟩
noncomputable def kBc (okf:Str→Str→Bool):Fn:=⟨2,2,(zA [(zI (z8 (z5 0) "need_mark" none [(z5 1)])),(zI (z8 (zE (z5 0) "kept") "pop" (some .pop) [(z5 1)]))])⟩
noncomputable def kBa (okf:Str→Str→Bool):Fn:=⟨2,2,(zA [(zI (z8 (z5 0) "need_mark" none [(z5 1)])),(zW (zK (zK (zE (z5 0) "kept") (z5 1)) (z7 (.int 1))))])⟩
noncomputable def kBh (okf:Str→Str→Bool):Fn:=⟨2,2,(zA [(zW (z8 (zE (z5 0) "sheet") "place_of" none [(z8 (z5 0) "sign" none [(z5 1)])]))])⟩
noncomputable def kAo (okf:Str→Str→Bool):Fn:=⟨1,1,(zA [(zW (zD (zB (some (.bi .sorted))) [(zE (z5 0) "kept")]))])⟩
noncomputable def kBu (okf:Str→Str→Bool):Fn:=⟨2,2,(zA [(zI (z8 (zE (z5 0) "sheet") "need_hand" none [(z5 1)])),(zW (yE (zD (zB (some (.bi .sorted))) [(zE (z5 0) "kept")]) 1 (.one 2) (zT .And [(zQ (zK (zK (zE (z5 0) "kept") (z5 2)) (z7 (.int 0))) [.Eq] [(z5 1)])]) (z5 2)))])⟩
noncomputable def kA5 (okf:Str→Str→Bool):Fn:=⟨1,2,(zA [(z9 okf (.names (.one 1)) (yE (zD (zB (some (.bi .sorted))) [(zE (z5 0) "kept")]) 1 (.one 2) (zT .And []) (yt [(z8 (zE (z5 0) "sheet") "rank_of" none [(zK (zK (zE (z5 0) "kept") (z5 2)) (z7 (.int 1)))]),(z5 2)]))),(zW (yE (zD (zB (some (.bi .sorted))) [(z5 1)]) 1 (.one 2) (zT .And []) (zK (z5 2) (z7 (.int 1)))))])⟩
noncomputable def kB4 (okf:Str→Str→Bool):Fn:=⟨1,1,(zA [(zW (wf .And [(zD (zB (some (.bi .isinstance))) [(z5 0),(zB (some (.bi .str)))]),(zD (zB (some (.bi .all))) [(yE (z5 0) 1 (.one 1) (zT .And []) (ju (z5 1) [.In] [(zB (some (.str " !\"#$&'()*+,-./0123456789:;<=>?@ABCDEFGHIJKLMNOPQRSTUVWXYZ[\\]^_`abcdefghijklmnopqrstuvwxyz{|}~\n")))]))])]))])⟩
noncomputable def kBf (okf:Str→Str→Bool):Fn:=⟨3,3,(zA [(sIf (yP (zy (zD (zB (some (.fn "is_text"))) [(z5 1)]))) (zA [(yy "BadText")]) (zA [])),(sIf (zT .Or [(yP (zy (zD (zB (some (.fn "is_whole"))) [(z5 2)]))),(yP (zQ (z7 (.int 1)) [.LtE,.LtE] [(z5 2),(zB (some (.int 9)))]))]) (zA [(yy "NoHand")]) (zA [])),(z9 okf (.attr (z5 0) "hands") (z5 2)),(z9 okf (.attr (z5 0) "row") (zD (zB (some (.cls "Row"))) [])),(z9 okf (.attr (z5 0) "owners") (zm [])),(z9 okf (.attr (z5 0) "letters") (zm [])),(z9 okf (.attr (z5 0) "firsts") (zm [])),(z9 okf (.attr (z5 0) "moved") (zm [])),(z9 okf (.attr (z5 0) "bringers") (zm [])),(z9 okf (.attr (z5 0) "cutters") (zm [])),(z9 okf (.attr (z5 0) "done") (zm [])),(z9 okf (.attr (z5 0) "standing") (zm [])),(z9 okf (.attr (z5 0) "lost") (zm [])),(zI (z8 (z5 0) "bring" none [(z5 1),(z7 .none),(z7 .none)]))])⟩
noncomputable def kA3 (okf:Str→Str→Bool):Fn:=⟨4,6,(zA [(z9 okf (.names (.one 4)) (zm [])),(xo (.one 5) (z5 1) false (zA [(z9 okf (.names (.one 2)) (z8 (zE (z5 0) "row") "add" none [(z5 2)])),(zI (z8 (zE (z5 0) "owners") "append" (some .append) [(zD (zB (some (.bi .len))) [(zE (z5 0) "letters")])])),(zI (z8 (z5 4) "append" (some .append) [(zD (zB (some (.bi .len))) [(zE (z5 0) "letters")])])),(zI (z8 (zE (z5 0) "letters") "append" (some .append) [(z5 5)])),(zI (z8 (zE (z5 0) "firsts") "append" (some .append) [(z5 2)])),(zI (z8 (zE (z5 0) "moved") "append" (some .append) [(zm [])])),(zI (z8 (zE (z5 0) "bringers") "append" (some .append) [(z5 3)])),(zI (z8 (zE (z5 0) "cutters") "append" (some .append) [(zm [])])),(zI (z8 (zE (z5 0) "row") "take" none [(z5 2),(z7 (.bool true))]))])),(zW (z5 4))])⟩
noncomputable def kAg (okf:Str→Str→Bool):Fn:=⟨2,2,(zA [(sIf (zT .Or [(yP (zy (zD (zB (some (.fn "is_whole"))) [(z5 1)]))),(yP (zQ (z7 (.int 0)) [.LtE,.Lt] [(z5 1),(zE (z5 0) "hands")]))]) (zA [(yy "NoHand")]) (zA []))])⟩
noncomputable def kAe (okf:Str→Str→Bool):Fn:=⟨2,2,(zA [(sIf (zT .Or [(yP (zy (zD (zB (some (.fn "is_whole"))) [(z5 1)]))),(yP (zQ (z7 (.int 0)) [.LtE,.Lt] [(z5 1),(zD (zB (some (.bi .len))) [(zE (z5 0) "letters")])]))]) (zA [(yy "NoSeat")]) (zA []))])⟩
noncomputable def kAb (okf:Str→Str→Bool):Fn:=⟨2,2,(zA [(sIf (zT .Or [(yP (zy (zD (zB (some (.fn "is_whole"))) [(z5 1)]))),(yP (zQ (z7 (.int 0)) [.LtE,.LtE] [(z5 1),(z8 (z5 0) "size" none [])]))]) (zA [(yy "NoPlace")]) (zA []))])⟩
noncomputable def kAa (okf:Str→Str→Bool):Fn:=⟨3,3,(zA [(zI (z8 (z5 0) "need_place" none [(z5 1)])),(zI (z8 (z5 0) "need_place" none [(z5 2)])),(sIf (zQ (z5 1) [.GtE] [(z5 2)]) (zA [(yy "NoPlace")]) (zA []))])⟩
noncomputable def kAf (okf:Str→Str→Bool):Fn:=⟨2,2,(zA [(sIf (zT .Or [(yP (zy (zD (zB (some (.fn "is_whole"))) [(z5 1)]))),(yP (zQ (z7 (.int 0)) [.LtE,.Lt] [(z5 1),(zD (zB (some (.bi .len))) [(zE (z5 0) "done")])]))]) (zA [(yy "NoDeed")]) (zA []))])⟩
noncomputable def kAr (okf:Str→Str→Bool):Fn:=⟨2,5,(zA [(z9 okf (.names (.one 2)) (zK (zE (z5 0) "firsts") (z5 1))),(xo (.many [3,4]) (zK (zE (z5 0) "moved") (z5 1)) false (zA [(sIf (zy (zK (zE (z5 0) "standing") (z5 3))) (zA [(z9 okf (.names (.one 2)) (z5 4))]) (zA []))])),(zW (z5 2))])⟩
noncomputable def kAk (okf:Str→Str→Bool):Fn:=⟨2,3,(zA [(z9 okf (.names (.one 2)) (zK (zE (z5 0) "bringers") (z5 1))),(sIf (zT .And [(zQ (z5 2) [.IsNot] [(z7 .none)]),(yP (zy (zK (zE (z5 0) "standing") (z5 2))))]) (zA [(zW (z7 (.bool false)))]) (zA [])),(zW (WF (zD (zB (some (.bi .any))) [(yE (zK (zE (z5 0) "cutters") (z5 1)) 1 (.one 3) (zT .And []) (zK (zE (z5 0) "standing") (z5 3)))])))])⟩
noncomputable def kAt (okf:Str→Str→Bool):Fn:=⟨2,5,(zA [(xo (.one 2) (z5 1) false (zA [(zI (z8 (zE (z5 0) "row") "take" none [(zK (zE (z5 0) "firsts") (z5 2)),(z7 (.bool false))])),(xo (.many [3,4]) (zK (zE (z5 0) "moved") (z5 2)) false (zA [(zI (z8 (zE (z5 0) "row") "take" none [(z5 4),(z7 (.bool false))]))])),(sIf (zy (z8 (z5 0) "is_shown" none [(z5 2)])) (zA [(zI (z8 (zE (z5 0) "row") "take" none [(z8 (z5 0) "seat_of" none [(z5 2)]),(z7 (.bool true))]))]) (zA []))]))])⟩
noncomputable def kA9 (okf:Str→Str→Bool):Fn:=⟨1,1,(zA [(zW (z8 (zE (z5 0) "row") "all_taken" none []))])⟩
noncomputable def kA1 (okf:Str→Str→Bool):Fn:=⟨1,1,(zA [(zW (yE (z8 (zE (z5 0) "row") "order" none []) 1 (.one 1) (zT .And [(zy (z8 (zE (z5 0) "row") "is_taken" none [(z5 1)]))]) (zK (zE (z5 0) "owners") (z5 1))))])⟩
noncomputable def kAm (okf:Str→Str→Bool):Fn:=⟨2,2,(zA [(zW (zK (zE (z5 0) "owners") (z8 (zE (z5 0) "row") "find" none [(z5 1)])))])⟩
noncomputable def kAl (okf:Str→Str→Bool):Fn:=⟨2,2,(zA [(zI (z8 (z5 0) "need_sign" none [(z5 1)])),(zW (yt [(z8 (zE (z5 0) "row") "ahead" none [(z8 (z5 0) "seat_of" none [(z5 1)])]),(z8 (z5 0) "is_shown" none [(z5 1)])]))])⟩
noncomputable def kAi (okf:Str→Str→Bool):Fn:=⟨3,3,(zA [(zI (z8 (z5 0) "need_sign" none [(z5 1)])),(zI (z8 (z5 0) "need_sign" none [(z5 2)])),(zW (z8 (zE (z5 0) "row") "is_ahead" none [(z8 (z5 0) "seat_of" none [(z5 1)]),(z8 (z5 0) "seat_of" none [(z5 2)])]))])⟩
noncomputable def kAp (okf:Str→Str→Bool):Fn:=⟨2,2,(zA [(zI (z8 (z5 0) "need_sign" none [(z5 1)])),(zW (z8 (z8 (zE (z5 0) "row") "order" none []) "index" (some .index) [(z8 (z5 0) "seat_of" none [(z5 1)])]))])⟩
noncomputable def kAc (okf:Str→Str→Bool):Fn:=⟨2,2,(zA [(sIf (zQ (z5 1) [.Eq] [(z7 (.int 0))]) (zA [(zW (z7 .none))]) (zA [])),(zW (z8 (zE (z5 0) "row") "find" none [(zM .Sub (z5 1) (z7 (.int 1)))]))])⟩
noncomputable def kA2 (okf:Str→Str→Bool):Fn:=⟨4,4,(zA [(zI (z8 (zE (z5 0) "done") "append" (some .append) [(yt [(z5 1),(z5 2),(z5 3)])])),(zI (z8 (z5 0) "seated" none [(z5 3)])),(zW (zM .Sub (zD (zB (some (.bi .len))) [(zE (z5 0) "done")]) (z7 (.int 1))))])⟩
noncomputable def kBm (okf:Str→Str→Bool):Fn:=⟨4,4,(zA [(zI (z8 (z5 0) "need_hand" none [(z5 1)])),(zI (z8 (z5 0) "need_place" none [(z5 2)])),(sIf (zT .Or [(yP (zy (zD (zB (some (.fn "is_text"))) [(z5 3)]))),(zQ (z5 3) [.Eq] [(z7 (.str ""))])]) (zA [(yy "BadText")]) (zA [])),(zI (z8 (zE (z5 0) "standing") "append" (some .append) [(z7 (.bool true))])),(zW (z8 (z5 0) "noted" none [(z5 1),(z7 (.str "put")),(z8 (z5 0) "bring" none [(z5 3),(z8 (z5 0) "seat_ahead" none [(z5 2)]),(zD (zB (some (.bi .len))) [(zE (z5 0) "done")])])]))])⟩
noncomputable def kBr (okf:Str→Str→Bool):Fn:=⟨4,6,(zA [(zI (z8 (z5 0) "need_hand" none [(z5 1)])),(zI (z8 (z5 0) "need_stretch" none [(z5 2),(z5 3)])),(z9 okf (.names (.one 4)) (ZF (z8 (z5 0) "shown" none []) (z5 2) (z5 3))),(zI (z8 (zE (z5 0) "standing") "append" (some .append) [(z7 (.bool true))])),(xo (.one 5) (z5 4) false (zA [(zI (z8 (zK (zE (z5 0) "cutters") (z5 5)) "append" (some .append) [(zD (zB (some (.bi .len))) [(zE (z5 0) "done")])]))])),(zW (z8 (z5 0) "noted" none [(z5 1),(z7 (.str "cut")),(z5 4)]))])⟩
noncomputable def kBb (okf:Str→Str→Bool):Fn:=⟨5,8,(zA [(zI (z8 (z5 0) "need_hand" none [(z5 1)])),(zI (z8 (z5 0) "need_stretch" none [(z5 2),(z5 3)])),(zI (z8 (z5 0) "need_place" none [(z5 4)])),(sIf (zQ (z5 2) [.Lt,.Lt] [(z5 4),(z5 3)]) (zA [(yy "NoPlace")]) (zA [])),(z9 okf (.names (.one 5)) (ZF (z8 (z5 0) "shown" none []) (z5 2) (z5 3))),(z9 okf (.names (.one 6)) (z8 (z5 0) "seat_ahead" none [(z5 4)])),(zI (z8 (zE (z5 0) "standing") "append" (some .append) [(z7 (.bool true))])),(xo (.one 7) (z5 5) false (zA [(z9 okf (.names (.one 6)) (z8 (zE (z5 0) "row") "add" none [(z5 6)])),(zI (z8 (zE (z5 0) "owners") "append" (some .append) [(z5 7)])),(zI (z8 (zK (zE (z5 0) "moved") (z5 7)) "append" (some .append) [(yt [(zD (zB (some (.bi .len))) [(zE (z5 0) "done")]),(z5 6)])]))])),(zW (z8 (z5 0) "noted" none [(z5 1),(z7 (.str "move")),(z5 5)]))])⟩
noncomputable def kA7 (okf:Str→Str→Bool):Fn:=⟨1,1,(zA [(zW (zD (zB (some (.bi .len))) [(zE (z5 0) "done")]))])⟩
noncomputable def kAu (okf:Str→Str→Bool):Fn:=⟨2,2,(zA [(zI (z8 (z5 0) "need_deed" none [(z5 1)])),(zW (zK (zE (z5 0) "standing") (z5 1)))])⟩
noncomputable def kAh (okf:Str→Str→Bool):Fn:=⟨2,2,(zA [(sIf (yP (zy (z8 (z5 0) "stands" none [(z5 1)]))) (zA [(yy "NoDeed")]) (zA [])),(z9 okf (.item (zE (z5 0) "standing") (z5 1)) (z7 (.bool false))),(zI (z8 (zE (z5 0) "lost") "append" (some .append) [(z5 1)])),(zI (z8 (z5 0) "seated" none [(zK (zK (zE (z5 0) "done") (z5 1)) (z7 (.int 2)))]))])⟩
noncomputable def kAj (okf:Str→Str→Bool):Fn:=⟨2,2,(zA [(sIf (zy (z8 (z5 0) "stands" none [(z5 1)])) (zA [(yy "NoDeed")]) (zA [])),(z9 okf (.item (zE (z5 0) "standing") (z5 1)) (z7 (.bool true))),(zI (z8 (zE (z5 0) "lost") "remove" (some .remove) [(z5 1)])),(zI (z8 (z5 0) "seated" none [(zK (zK (zE (z5 0) "done") (z5 1)) (z7 (.int 2)))]))])⟩
noncomputable def kAy (okf:Str→Str→Bool):Fn:=⟨2,2,(zA [(sIf (zQ (z5 1) [.Lt] [(zD (zB (some (.bi .len))) [(z5 0)])]) (zA [(zW (zK (z5 0) (z5 1)))]) (zA [])),(zW (z7 (.int 0)))])⟩
noncomputable def kBn (okf:Str→Str→Bool):Fn:=⟨1,1,(zA [(zW (wf .And [(zD (zB (some (.bi .isinstance))) [(z5 0),(zB (some (.bi .int)))]),(WF (zD (zB (some (.bi .isinstance))) [(z5 0),(zB (some (.bi .bool)))]))]))])⟩
noncomputable def kBk (okf:Str→Str→Bool):Fn:=⟨2,3,(zA [(z9 okf (.names (.one 2)) (zM .Mod (zM .Add (zM .Add (zM .Mult (z5 0) (z7 (.int 48271))) (zM .Mult (z7 (.int 7919)) (z5 1))) (z7 (.int 12345))) (z7 (.int 2147483647)))),(zW (zM .Mod (zM .Mult (zM .Mod (zM .Mult (z5 2) (z5 2)) (z7 (.int 2147483647))) (z5 2)) (z7 (.int 2147483647))))])⟩
noncomputable def kAz (okf:Str→Str→Bool):Fn:=⟨2,3,(zA [(z9 okf (.names (.one 2)) (z7 (.str " !\"#$&'()*+,-./0123456789:;<=>?@ABCDEFGHIJKLMNOPQRSTUVWXYZ[\\]^_`"))),(z9 okf (.names (.one 2)) (zM .Add (z5 2) (z7 (.str "abcdefghijklmnopqrstuvwxyz{|}~\n")))),(zW (z8 (z7 (.str "")) "join" (some .join) [(yE (zD (zB (some (.bi .range))) [(z5 1)]) 1 (.one 3) (zT .And []) (zK (z5 2) (zM .Mod (zM .FloorDiv (zD (zB (some (.fn "_law_mixed"))) [(z5 0),(z5 3)]) (z7 (.int 8))) (z7 (.int 95)))))]))])⟩
noncomputable def kA0 (okf:Str→Str→Bool):Fn:=⟨1,1,(zA [(sIf (zQ (zM .Mod (zM .FloorDiv (z5 0) (z7 (.int 13))) (z7 (.int 8))) [.Eq] [(z7 (.int 1))]) (zA [(zW (zM .Add (z7 (.int 30)) (zM .Mod (zM .FloorDiv (z5 0) (z7 (.int 104))) (z7 (.int 31)))))]) (zA [])),(zW (zM .Mod (z5 0) (z7 (.int 13))))])⟩
noncomputable def kA4 (okf:Str→Str→Bool):Fn:=⟨3,8,(zA [(z9 okf (.names (.one 3)) (zM .Mod (z5 0) (z5 2))),(z9 okf (.names (.one 4)) (zM .Mod (zM .FloorDiv (z5 0) (z7 (.int 9))) (z7 (.int 8)))),(z9 okf (.names (.one 5)) (zM .Mod (zM .FloorDiv (z5 0) (z7 (.int 72))) (zD (zB (some (.bi .max))) [(z7 (.int 1)),(z5 1)]))),(z9 okf (.names (.one 6)) (zD (zB (some (.bi .min))) [(z5 1),(zM .Add (zM .Add (z5 5) (z7 (.int 1))) (zM .Mod (zM .FloorDiv (z5 0) (z7 (.int 1009))) (z7 (.int 5))))])),(z9 okf (.names (.one 7)) (zM .Mod (zM .FloorDiv (z5 0) (z7 (.int 5003))) (zM .Add (z5 1) (z7 (.int 1))))),(sIf (zT .Or [(zQ (z5 4) [.Lt] [(z7 (.int 3))]),(zQ (z5 1) [.Eq] [(z7 (.int 0))])]) (zA [(zW (yt [(z5 3),(z7 (.str "put")),(z7 (.int 0)),(z7 (.int 0)),(z5 7),(zD (zB (some (.fn "_law_text_by"))) [(z5 0),(zM .Add (z7 (.int 1)) (zM .Mod (zM .FloorDiv (z5 0) (z7 (.int 30011))) (z7 (.int 4))))])]))]) (zA [])),(sIf (zQ (z5 4) [.Lt] [(z7 (.int 5))]) (zA [(zW (yt [(z5 3),(z7 (.str "cut")),(z5 5),(z5 6),(z7 (.int 0)),(z7 (.str ""))]))]) (zA [])),(sIf (zQ (z5 5) [.Lt,.Lt] [(z5 7),(z5 6)]) (zA [(z9 okf (.names (.one 7)) (zK (zm [(z5 5),(z5 6)]) (zM .Mod (zM .FloorDiv (z5 0) (z7 (.int 60013))) (z7 (.int 2)))))]) (zA [])),(zW (yt [(z5 3),(z7 (.str "move")),(z5 5),(z5 6),(z5 7),(z7 (.str ""))]))])⟩
noncomputable def kB9 (okf:Str→Str→Bool):Fn:=⟨2,8,(zA [(z9 okf (.names (.many [2,3,4,5,6,7])) (z5 1)),(sIf (zQ (z5 3) [.Eq] [(z7 (.str "put"))]) (zA [(zW (z8 (z5 0) "put" none [(z5 2),(z5 6),(z5 7)]))]) (zA [])),(sIf (zQ (z5 3) [.Eq] [(z7 (.str "cut"))]) (zA [(zW (z8 (z5 0) "cut" none [(z5 2),(z5 4),(z5 5)]))]) (zA [])),(zW (z8 (z5 0) "move" none [(z5 2),(z5 4),(z5 5),(z5 6)]))])⟩
noncomputable def kBl (okf:Str→Str→Bool):Fn:=⟨2,5,(zA [(z9 okf (.names (.one 2)) (zm [])),(xo (.one 3) (zD (zB (some (.bi .sorted))) [(zD (zB (some (.bi .list))) [(z5 1)])]) false (zA [(z9 okf (.names (.one 4)) (zD (zB (some (.bi .len))) [(z5 2)])),(yv (zT .And [(zQ (z5 4) [.Gt] [(z7 (.int 0))]),(zy (z8 (z5 0) "is_ahead" none [(zK (zK (z5 1) (z5 3)) (z7 (.int 1))),(zK (zK (z5 1) (zK (z5 2) (zM .Sub (z5 4) (z7 (.int 1))))) (z7 (.int 1)))]))]) (zA [(z9 okf (.names (.one 4)) (zM .Sub (z5 4) (z7 (.int 1))))]) 300),(zI (z8 (z5 2) "insert" (some .insert) [(z5 4),(z5 3)]))])),(zW (z5 2))])⟩
noncomputable def kBd (okf:Str→Str→Bool):Fn:=⟨5,10,(zA [(z9 okf (.names (.one 5)) (zD (zB (some (.bi .sorted))) [(zD (zB (some (.bi .list))) [(z5 2)])])),(sIf (zQ (zM .Mod (z5 3) (z7 (.int 2))) [.Eq] [(z7 (.int 0))]) (zA [(z9 okf (.names (.one 7)) (yE (z5 5) 1 (.one 10) (zT .And []) (z8 (z5 0) "place_of" none [(zK (zK (z5 2) (z5 10)) (z7 (.int 1)))]))),(sIf (zQ (yE (z5 5) 1 (.one 10) (zT .And []) (z8 (z5 1) "told" none [(z5 10)])) [.NotEq] [(z5 7)]) (zA [(zW (z7 (.bool false)))]) (zA []))]) (zA [])),(z9 okf (.names (.one 8)) (Qa (zm [(z8 (z5 1) "order" none []),(z8 (z5 1) "of" none [(z5 3)]),(z8 (z5 1) "numbers" none [])]))),(sIf (zQ (zM .Mod (zD (zB (some (.bi .len))) [(z5 4)]) (z7 (.int 2))) [.Eq] [(z7 (.int 0))]) (zA [(z9 okf (.names (.one 8)) (zm [(z8 (z5 1) "numbers" none []),(z8 (z5 1) "of" none [(z5 3)]),(z8 (z5 1) "order" none [])]))]) (zA [])),(sIf (zQ (z5 8) [.NotEq] [(zm [(z5 5),(yE (z5 5) 1 (.one 10) (zT .And [(zQ (zK (zK (z5 2) (z5 10)) (z7 (.int 0))) [.Eq] [(z5 3)])]) (z5 10)),(zD (zB (some (.fn "_law_order"))) [(z5 0),(z5 2)])])]) (zA [(zW (z7 (.bool false)))]) (zA [])),(xo (.one 6) (z5 5) false (zA [(sIf (zT .Or [(yP (zy (zD (zB (some (.fn "_law_whole"))) [(z8 (z5 1) "sign" none [(z5 6)])]))),(zQ (z8 (z5 1) "sign" none [(z5 6)]) [.NotEq] [(zK (zK (z5 2) (z5 6)) (z7 (.int 1)))])]) (zA [(zW (z7 (.bool false)))]) (zA [])),(z9 okf (.names (.one 9)) (z8 (z5 1) "told" none [(z5 6)])),(sIf (zT .Or [(yP (zy (zD (zB (some (.bi .isinstance))) [(z5 9),(zB (some (.bi .tuple)))]))),(yP (zy (zD (zB (some (.fn "_law_whole"))) [(zK (z5 9) (z7 (.int 0)))]))),(yP (zy (zD (zB (some (.bi .isinstance))) [(zK (z5 9) (z7 (.int 1))),(zB (some (.bi .bool)))])))]) (zA [(zW (z7 (.bool false)))]) (zA [])),(sIf (zQ (z5 9) [.NotEq] [(z8 (z5 0) "place_of" none [(zK (zK (z5 2) (z5 6)) (z7 (.int 1)))])]) (zA [(zW (z7 (.bool false)))]) (zA [])),(sIf (zT .And [(zy (zK (z5 9) (z7 (.int 1)))),(zQ (z8 (z5 0) "sign_at" none [(zK (z5 9) (z7 (.int 0)))]) [.NotEq] [(zK (zK (z5 2) (z5 6)) (z7 (.int 1)))])]) (zA [(zW (z7 (.bool false)))]) (zA []))])),(zI (z8 (z5 4) "extend" (some .extend) [(yE (z5 8) 1 (.one 10) (zT .And []) (yt [(z5 10),(zD (zB (some (.bi .list))) [(z5 10)])]))])),(zI (z8 (z8 (z5 1) "order" none []) "clear" (some .clear) [])),(zI (z8 (z8 (z5 1) "numbers" none []) "append" (some .append) [(z7 (.int 0))])),(zW (wf .And [(ju (z8 (z5 1) "order" none []) [.Eq] [(zK (z5 8) (z7 (.int 2)))]),(ju (z8 (z5 1) "numbers" none []) [.Eq] [(zK (z5 8) (z7 (.int 0)))])]))])⟩
noncomputable def kA6 (okf:Str→Str→Bool):Fn:=⟨2,3,(zA [(xo (.one 2) (zD (zB (some (.bi .range))) [(z7 (.int 3))]) false (zA [(YD (zA [(sIf (zQ (z5 2) [.Eq] [(z7 (.int 0))]) (zA [(zI (z8 (z5 0) "told" none [(z5 1)]))]) (zA [(sIf (zQ (z5 2) [.Eq] [(z7 (.int 1))]) (zA [(zI (z8 (z5 0) "sign" none [(z5 1)]))]) (zA [(zI (z8 (z5 0) "drop" none [(z5 1)]))]))])),(zW (z7 (.bool false)))]) [("NoMark",(.set 2 (.int 3)))])])),(zW (z7 (.bool true)))])⟩
noncomputable def kAq (okf:Str→Str→Bool):Fn:=⟨3,5,(zA [(xo (.many [3,4]) (yt [(yt [(z7 (.int 0)),(z5 1)]),(yt [(z5 2),(z7 (.int 0))]),(yt [(z7 (.int 0)),(zEm (z7 (.int 1)))])]) false (zA [(YD (zA [(zI (z8 (z5 0) "stick" none [(z5 3),(z5 4)])),(zW (z7 (.bool false)))]) [("NoPlace",(.tst (.slot 3) (.slot 2))),("NoHand",(.tst (.slot 3) (.int 0)))])])),(zW (z7 (.bool true)))])⟩
noncomputable def kBe (okf:Str→Str→Bool):Fn:=⟨2,2,(zA [(sIf (zy (z8 (z5 0) "stands" none [(z5 1)])) (zA [(zI (z8 (z5 0) "take_back" none [(z5 1)]))]) (zA [(zI (z8 (z5 0) "do_again" none [(z5 1)]))]))])⟩
noncomputable def kCd (okf:Str→Str→Bool):Fn:=⟨1,18,(zA [(z9 okf (.names (.one 1)) (zD (zB (some (.fn "_law_text_by"))) [(zD (zB (some (.fn "_law_cell_at"))) [(z5 0),(z7 (.int 1))]),(zM .Mod (zD (zB (some (.fn "_law_size_by"))) [(zD (zB (some (.fn "_law_cell_at"))) [(z5 0),(z7 (.int 0))])]) (z7 (.int 20)))])),(z9 okf (.names (.one 2)) (zM .Add (z7 (.int 1)) (zM .Mod (zD (zB (some (.fn "_law_cell_at"))) [(z5 0),(z7 (.int 2))]) (z7 (.int 9))))),(z9 okf (.names (.one 3)) (zD (zB (some (.cls "Sheet"))) [(z5 1),(z5 2)])),(z9 okf (.names (.one 4)) (zm [(zm [(zD (zB (some (.cls "Marks"))) [(z5 3)]),xn,(z7 (.int 0))])])),(z9 okf (.names (.one 5)) (zm [])),(xo (.many [6,7]) (ZF (z5 0) (z7 (.int 3)) (z7 (.int 23))) true (zA [(z9 okf (.names (.one 8)) (zD (zB (some (.fn "_law_mixed"))) [(z5 7),(z5 6)])),(z9 okf (.names (.one 9)) (zM .FloorDiv (z5 8) (z7 (.int 8)))),(sIf (zQ (z5 6) [.Eq] [(zM .Add (z7 (.int 4)) (zM .Mod (zD (zB (some (.fn "_law_cell_at"))) [(z5 0),(z7 (.int 0))]) (z7 (.int 4))))]) (zA [(zI (z8 (z5 4) "append" (some .append) [(zm [(zD (zB (some (.cls "Marks"))) [(z5 3)]),xn,(z7 (.int 0))])]))]) (zA [])),(z9 okf (.names (.one 10)) (zK (z5 4) (zM .Mod (zM .FloorDiv (z5 9) (z7 (.int 3))) (zD (zB (some (.bi .len))) [(z5 4)])))),(z9 okf (.names (.one 11)) (zK (z5 10) (z7 (.int 1)))),(sIf (zT .And [(zQ (zM .Mod (z5 8) (z7 (.int 8))) [.Lt] [(z7 (.int 2))]),(zQ (z8 (z5 3) "deeds" none []) [.Gt] [(z7 (.int 0))])]) (zA [(zI (zD (zB (some (.fn "_law_turned"))) [(z5 3),(zM .Mod (z5 9) (z8 (z5 3) "deeds" none []))]))]) (zA [(sIf (zT .And [(zQ (zM .Mod (z5 8) (z7 (.int 8))) [.Lt] [(z7 (.int 5))]),(zQ (z5 11) [.NotEq] [xn]),(zQ (zM .Mod (z5 9) (z7 (.int 5))) [.Eq] [(z7 (.int 1))])]) (zA [(z9 okf (.names (.one 12)) (zK (zD (zB (some (.bi .sorted))) [(zD (zB (some (.bi .list))) [(z5 11)])]) (zM .Mod (zM .FloorDiv (z5 9) (z7 (.int 5))) (zD (zB (some (.bi .len))) [(z5 11)])))),(zI (z8 (z5 11) "pop" (some .pop) [(z5 12)])),(sIf (zT .Or [(zQ (z8 (zK (z5 10) (z7 (.int 0))) "drop" none [(z5 12)]) [.IsNot] [(z7 .none)]),(yP (zy (zD (zB (some (.fn "_law_is_gone"))) [(zK (z5 10) (z7 (.int 0))),(z5 12)])))]) (zA [(zW (z7 (.bool false)))]) (zA []))]) (zA [(sIf (zT .And [(zQ (zM .Mod (z5 8) (z7 (.int 8))) [.Lt] [(z7 (.int 5))]),(zQ (z8 (z5 3) "size" none []) [.Gt] [(z7 (.int 0))])]) (zA [(z9 okf (.names (.one 13)) (zM .Mod (zM .FloorDiv (z5 9) (z7 (.int 5))) (z8 (z5 3) "size" none []))),(z9 okf (.item (z5 11) (zK (z5 10) (z7 (.int 2)))) (yt [(zM .Mod (z5 9) (z5 2)),(z8 (z5 3) "sign_at" none [(z5 13)])])),(z9 okf (.names (.one 14)) (z8 (zK (z5 10) (z7 (.int 0))) "stick" none [(zM .Mod (z5 9) (z5 2)),(z5 13)])),(sIf (zT .Or [(yP (zy (zD (zB (some (.fn "_law_whole"))) [(z5 14)]))),(zQ (z5 14) [.NotEq] [(zK (z5 10) (z7 (.int 2)))])]) (zA [(zW (z7 (.bool false)))]) (zA [])),(z9 okf (.item (z5 10) (z7 (.int 2))) (zM .Add (zK (z5 10) (z7 (.int 2))) (z7 (.int 1))))]) (zA [(zI (zD (zB (some (.fn "_law_do"))) [(z5 3),(zD (zB (some (.fn "_law_deed_by"))) [(z5 9),(z8 (z5 3) "size" none []),(z5 2)])]))]))]))])),(sIf (zT .And [(zQ (zM .Mod (z5 9) (z7 (.int 3))) [.Eq] [(z7 (.int 1))]),(yP (zy (zD (zB (some (.fn "_law_not_stuck"))) [(zK (z5 10) (z7 (.int 0))),(z8 (z5 3) "size" none []),(z5 2)])))]) (zA [(zW (z7 (.bool false)))]) (zA [])),(xo (.many [15,16,17]) (z5 4) false (zA [(sIf (yP (zy (zD (zB (some (.fn "_law_stands"))) [(z5 3),(z5 15),(z5 16),(zM .Mod (zM .FloorDiv (z5 9) (z7 (.int 7))) (z5 2)),(z5 5)]))) (zA [(zW (z7 (.bool false)))]) (zA []))]))])),(zW (ju (yE (z5 5) 2 (.many [18,19]) (zT .And [(zQ (z5 18) [.NotEq] [(z5 19)])]) (z5 18)) [.Eq] [(zm [])]))])⟩
structure TT (T:Tab) (okf:Str→Str→Bool):Prop where
 kCa:okf "Row" "line" = true
 kB1:okf "Row" "flags" = true
 kB2:okf "Sheet" "hands" = true
 kCc:okf "Sheet" "row" = true
 kBz:okf "Sheet" "owners" = true
 kBo:okf "Sheet" "letters" = true
 kBt:okf "Sheet" "firsts" = true
 kB0:okf "Sheet" "moved" = true
 kA8:okf "Sheet" "bringers" = true
 kBj:okf "Sheet" "cutters" = true
 kB8:okf "Sheet" "done" = true
 kBi:okf "Sheet" "standing" = true
 kCb:okf "Sheet" "lost" = true
 kB6:okf "Marks" "sheet" = true
 kB7:okf "Marks" "kept" = true
 kBw:okf "Marks" "coming" = true
 marks:T.what "Marks" = some .cls
 row:T.what "Row" = some .cls
 sheet:T.what "Sheet" = some .cls
 kBy:T.what "is_whole" = some (.fn (kBy okf))
 kBv:T.meth "Row" "__init__" = some (kBv okf)
 kAn:T.meth "Row" "need_seat" = some (kAn okf)
 kB3:T.meth "Row" "add" = some (kB3 okf)
 kBx:T.meth "Row" "take" = some (kBx okf)
 kAw:T.meth "Row" "is_taken" = some (kAw okf)
 kAs:T.meth "Row" "all_taken" = some (kAs okf)
 kBp:T.meth "Row" "ahead" = some (kBp okf)
 kBs:T.meth "Row" "find" = some (kBs okf)
 kAv:T.meth "Row" "is_ahead" = some (kAv okf)
 kBq:T.meth "Row" "order" = some (kBq okf)
 kBg:T.meth "Marks" "__init__" = some (kBg okf)
 kAd:T.meth "Marks" "need_mark" = some (kAd okf)
 kAx:T.meth "Marks" "stick" = some (kAx okf)
 kBc:T.meth "Marks" "drop" = some (kBc okf)
 kBa:T.meth "Marks" "sign" = some (kBa okf)
 kBh:T.meth "Marks" "told" = some (kBh okf)
 kAo:T.meth "Marks" "numbers" = some (kAo okf)
 kBu:T.meth "Marks" "of" = some (kBu okf)
 kA5:T.meth "Marks" "order" = some (kA5 okf)
 kB4:T.what "is_text" = some (.fn (kB4 okf))
 kBf:T.meth "Sheet" "__init__" = some (kBf okf)
 kA3:T.meth "Sheet" "bring" = some (kA3 okf)
 kAg:T.meth "Sheet" "need_hand" = some (kAg okf)
 kAe:T.meth "Sheet" "need_sign" = some (kAe okf)
 kAb:T.meth "Sheet" "need_place" = some (kAb okf)
 kAa:T.meth "Sheet" "need_stretch" = some (kAa okf)
 kAf:T.meth "Sheet" "need_deed" = some (kAf okf)
 kAr:T.meth "Sheet" "seat_of" = some (kAr okf)
 kAk:T.meth "Sheet" "is_shown" = some (kAk okf)
 kAt:T.meth "Sheet" "seated" = some (kAt okf)
 kA9:T.meth "Sheet" "size" = some (kA9 okf)
 kA1:T.meth "Sheet" "shown" = some (kA1 okf)
 kAm:T.meth "Sheet" "sign_at" = some (kAm okf)
 kAl:T.meth "Sheet" "place_of" = some (kAl okf)
 kAi:T.meth "Sheet" "is_ahead" = some (kAi okf)
 kAp:T.meth "Sheet" "rank_of" = some (kAp okf)
 kAc:T.meth "Sheet" "seat_ahead" = some (kAc okf)
 kA2:T.meth "Sheet" "noted" = some (kA2 okf)
 kBm:T.meth "Sheet" "put" = some (kBm okf)
 kBr:T.meth "Sheet" "cut" = some (kBr okf)
 kBb:T.meth "Sheet" "move" = some (kBb okf)
 kA7:T.meth "Sheet" "deeds" = some (kA7 okf)
 kAu:T.meth "Sheet" "stands" = some (kAu okf)
 kAh:T.meth "Sheet" "take_back" = some (kAh okf)
 kAj:T.meth "Sheet" "do_again" = some (kAj okf)
 kAy:T.what "_law_cell_at" = some (.fn (kAy okf))
 kBn:T.what "_law_whole" = some (.fn (kBn okf))
 kBk:T.what "_law_mixed" = some (.fn (kBk okf))
 kAz:T.what "_law_text_by" = some (.fn (kAz okf))
 kA0:T.what "_law_size_by" = some (.fn (kA0 okf))
 kA4:T.what "_law_deed_by" = some (.fn (kA4 okf))
 kB9:T.what "_law_do" = some (.fn (kB9 okf))
 kBl:T.what "_law_order" = some (.fn (kBl okf))
 kBd:T.what "_law_stands" = some (.fn (kBd okf))
 kA6:T.what "_law_is_gone" = some (.fn (kA6 okf))
 kAq:T.what "_law_not_stuck" = some (.fn (kAq okf))
 kBe:T.what "_law_turned" = some (.fn (kBe okf))
 kCd:T.what "law" = some (.fn (kCd okf))
noncomputable abbrev fs:List (Str×AV):=[("line",.ref 4),("flags",.ref 5)]
noncomputable abbrev H (o0 o1 o2:AO) (l:List Int) (b:List Bool) (r:Hp):Hp:=o0::o1::o2::.inst "Row" fs::.list (l.map AV.int)::.list (b.map AV.bool)::r
theorem lk1:List.lookup ("line" : Str) fs=some (.ref 4):=rfl
theorem lk2:List.lookup ("flags" : Str) fs=some (.ref 5):=rfl
theorem lk3:List.lookup ("need_seat" : Str) fs=none:=rfl
noncomputable def wa (l:List Int) (k:Nat) (v:Int):List Int:=l.take k++v::l.drop k
theorem z3r (l:List Int) (k:Nat) (v:Int):xk (l.map AV.int) k (.int v)=(wa l k v).map AV.int:=by
 simp [Out.bind_ok,Out.bind0_ok,Out.bind_stuck,Out.of_some,Out.of_none,Out.bindS_ok,xk,wa,List.map_take,List.map_drop]
noncomputable def YT (c k:Int):Int :=
 let n:=(c * 48271+7919 * k+12345).fmod 2147483647
 ((n * n).fmod 2147483647 * n).fmod 2147483647
noncomputable def fl (b:List Bool) (x:Int):Bool:=b[x.toNat]?.getD false
section
variable {T:Tab} {okf:Str→Str→Bool} (X:TT T okf) {n:Nat} {l:List Int} {b:List Bool} {r:Hp} {o0 o1 o2:AO}
include X
theorem yA {i:Int} {h:Hp}:run T (n+1) (.fn "is_whole") [.int i] h=.ok (.bool true) h:=by
 rw [xH X.kBy]
 rfl
theorem WP:run T (n+1) (.meth "Row" "all_taken") [.ref 3] (H o0 o1 o2 l b r)=.ok (.int (b.countP id)) (H o0 o1 o2 l b r):=by
 rw [zJ X.kAs]
 refine zN (fr:=[some (.ref 3)]) rfl rfl (fr':=[some (.ref 3)]) (zL (zd (j3 (a:=5) (ys:=b.map AV.bool) (zO (z4 rfl) rfl lk2) rfl (ev1 rfl ev0) ?_)))
 rw [z0m]
 show Out.of ((jf (H o0 o1 o2 l b r) (.ref 5) (.bool true)).map _) _=_
 rw [XV (l:=b) rfl];rfl
theorem z0f (hs:l.length≤small):run T (n+1) (.meth "Row" "order") [.ref 3] (H o0 o1 o2 l b r)=.ok (.ref (r.length+6)) (H o0 o1 o2 l b (r++[.list (l.map AV.int)])):=by
 rw [zJ X.kBq]
 refine zN (fr:=[some (.ref 3)]) rfl rfl (fr':=[some (.ref 3)]) (zL (zd (xM (ev1 (zO (z4 rfl) rfl lk1) ev0) ?_)))
 rw [XZ]
 exact if_pos (by rw [List.length_map];exact hs)
theorem z0w {fr:AFr} {cf:CF} (e0:fr[0]? = some (some (.ref 3))):zD (zB (some (.bi .len))) [zE (z5 0) "flags"] cf fr (H o0 o1 o2 l b r)=.ok (.int b.length) (H o0 o1 o2 l b r):=by
 refine xM (ev1 (zO (z4 e0) rfl lk2) ev0) ?_
 rw [w8,qY]
 show Out.ok (AV.int ((b.map AV.bool).length:Nat)) _=_
 rw [List.length_map]
theorem xY {i:Int} (h0:0≤i) (h1:i<b.length):run T (n+2) (.meth "Row" "need_seat") [.ref 3,.int i] (H o0 o1 o2 l b r)=.ok .none (H o0 o1 o2 l b r):=by
 rw [zJ X.kAn]
 exact y7 (fr:=[some (.ref 3),some (.int i)]) rfl rfl (fr':=[some (.ref 3),some (.int i)]) ((z6 ((zH (xD (zt (b:=true) (yT (v:=.bool true) (zu (ev1 (z4 rfl) ev0) (yA X)) rfl)) (xD (zt (b:=true) (xF rfl (z4 rfl) (by rw [xb,decide_eq_true h0]) (z0w X rfl) (by rw [yS,decide_eq_true h1]))) qR))).trans zF)).trans zF)
omit X in
theorem Qh {cf:CF} {v1:Option AV} {at_:Int} (X:TT T okf) (ha:okI at_=true) (hl:l.length<small) (hb:b.length<small) :
  zA [(z9 okf (.names (.one 3)) (zD (zB (some (.bi .len))) [(zE (z5 0) "flags")])),(zI (z8 (zE (z5 0) "line") "insert" (some .insert) [(z5 2),(z5 3)])),(zI (z8 (zE (z5 0) "flags") "append" (some .append) [(z7 (.bool false))])),(zW (z5 3))] cf [some (.ref 3),v1,some (.int at_),none] (H o0 o1 o2 l b r) =
   .ok (.ret (.int b.length)) [some (.ref 3),v1,some (.int at_),some (.int b.length)] (H o0 o1 o2 (wa l at_.toNat b.length) (b++[false]) r):=by
 have e1:yN .insert (.ref 4) [.int at_,.int b.length] (H o0 o1 o2 l b r)=.ok .none (H o0 o1 o2 (wa l at_.toNat b.length) b r):=by
  rw [YU]
  show (if (l.map AV.int).length<small∧okI at_=true then Out.ok AV.none ((H o0 o1 o2 l b r).set 4 (.list (xk (l.map AV.int) at_.toNat (.int b.length)))) else .stuck)=_
  rw [if_pos ⟨by rw [List.length_map];exact hl,ha⟩,z3r];rfl
 have e2:yN .append (.ref 5) [.bool false] (H o0 o1 o2 (wa l at_.toNat b.length) b r)=.ok .none (H o0 o1 o2 (wa l at_.toNat b.length) (b++[false]) r):=by
  rw [q6]
  show (if (b.map AV.bool).length<small then Out.ok AV.none ((H o0 o1 o2 (wa l at_.toNat b.length) b r).set 5 (.list (b.map AV.bool++[.bool false]))) else .stuck)=_
  rw [if_pos (by rw [List.length_map];exact hb),show b.map AV.bool++[.bool false]=(b++[false]).map AV.bool by rw [List.map_append];rfl];rfl
 exact (z6 (zX (j:=3) (z0w X rfl) (zc rfl))).trans ((z6 (zY (j3 (a:=4) (ys:=l.map AV.int) (zO (z4 rfl) rfl lk1) rfl (ev1 (z4 rfl) (ev1 (z4 rfl) ev0)) e1))).trans ((z6 (zY (j3 (a:=5) (ys:=b.map AV.bool) (zO (z4 rfl) rfl lk2) rfl (ev1 rfl ev0) e2))).trans (zL (zd (z4 rfl)))))
theorem z25 (hl:l.length<small) (hb:b.length<small):run T (n+3) (.meth "Row" "add") [.ref 3,.none] (H o0 o1 o2 l b r)=.ok (.int b.length) (H o0 o1 o2 (wa l 0 b.length) (b++[false]) r):=by
 rw [zJ X.kB3]
 refine zN (fr:=[some (.ref 3),some .none,none,none]) rfl rfl (fr':=[some (.ref 3),some .none,some (.int 0),some (.int b.length)]) ?_
 unfold kB3
 dsimp only
 rw [z6 (zX (j:=2) (v:=.int 0) rfl (zc rfl)),z6 ((zH (zV (v:=.none) (w:=.none) (z4 rfl) rfl rfl)).trans zF)]
 exact Qh (at_:=0) X rfl hl hb
theorem z24 {i:Int} {k:Nat} (h0:0≤i) (h1:i<b.length) (hk:l.findIdx? (· == i)=some k) (hl:l.length<small) (hb:b.length<small) :
  run T (n+3) (.meth "Row" "add") [.ref 3,.int i] (H o0 o1 o2 l b r)=.ok (.int b.length) (H o0 o1 o2 (wa l (k+1) b.length) (b++[false]) r):=by
 rw [zJ X.kB3]
 have hk':k<l.length:=(List.findIdx?_eq_some_iff_getElem.mp hk).1
 have e0:yN .index (.ref 4) [.int i] (H o0 o1 o2 l b r)=.ok (.int k) (H o0 o1 o2 l b r):=by
  rw [jV]
  show (match jC (H o0 o1 o2 l b r) (.ref 4) (.int i) with | some k=>Out.ok (AV.int k) _ | none=>.stuck)=_
  rw [wu (l:=l) rfl,hk]
 have e3:okI ((k:Int)+1)=true:=wm (k:=k+1) (Nat.le_trans hk' (Nat.le_of_lt hl))
 refine zN (fr:=[some (.ref 3),some (.int i),none,none]) rfl rfl (fr':=[some (.ref 3),some (.int i),some (.int ((k:Int)+1)),some (.int b.length)]) ?_
 unfold kB3
 dsimp only
 rw [z6 (zX (j:=2) (v:=.int 0) rfl (zc rfl)),z6 ((zg (zV (v:=.int i) (w:=.none) (z4 rfl) rfl rfl)).trans ((z6 (zY (zG (a:=3) (z4 rfl) rfl lk3 (ev1 (z4 rfl) ev0) (xY X (n:=n) h0 h1)))).trans ((z6 (zX (j:=2) (v:=.int ((k:Int)+1)) (yD (j3 (a:=4) (ys:=l.map AV.int) (zO (z4 rfl) rfl lk1) rfl (ev1 (z4 rfl) ev0) e0) (y:=z7 (.int 1)) rfl w4) (zc rfl))).trans zF)))]
 exact Qh (at_:=(k:Int)+1) X e3 hl hb
theorem z4c {i:Int} {v:Bool} (h0:0≤i) (h1:i<b.length) (hb:b.length≤small):run T (n+3) (.meth "Row" "take") [.ref 3,.int i,.bool v] (H o0 o1 o2 l b r)=.ok .none (H o0 o1 o2 l (b.set i.toNat v) r):=by
 rw [zJ X.kBx]
 have e:qF (H o0 o1 o2 l b r) (.ref 5) (.int i) (.bool v)=some (H o0 o1 o2 l (b.set i.toNat v) r):=by
  rw [ZG]
  show (if 0≤i∧i<((b.map AV.bool).length:Nat)∧(b.map AV.bool).length≤small then some ((H o0 o1 o2 l b r).set 5 (.list ((b.map AV.bool).set i.toNat (.bool v)))) else none)=_
  rw [List.length_map,if_pos ⟨h0,h1,hb⟩,← List.map_set];rfl
 exact y7 (fr:=[some (.ref 3),some (.int i),some (.bool v)]) rfl rfl (fr':=[some (.ref 3),some (.int i),some (.bool v)]) ((z6 (zY (zG (a:=3) (z4 rfl) rfl lk3 (ev1 (z4 rfl) ev0) (xY X (n:=n) h0 h1)))).trans ((z6 (Zb (z4 rfl) (zO (z4 rfl) rfl lk2) (z4 rfl) e)).trans zF))
theorem J4 {i:Int} (h0:0≤i) (h1:i<b.length) (hb:b.length≤small):run T (n+3) (.meth "Row" "is_taken") [.ref 3,.int i] (H o0 o1 o2 l b r)=.ok (.bool (fl b i)) (H o0 o1 o2 l b r):=by
 rw [zJ X.kAw]
 have h2:i.toNat<b.length:=jO h0 h1
 have h3:okI i=true:=by rw [← Int.toNat_of_nonneg h0];exact wm (Nat.le_trans (Nat.le_of_lt h2) hb)
 have e:wF (H o0 o1 o2 l b r) (.ref 5) (.int i)=some (.bool (fl b i)):=by
  rw [qa h3]
  show (b.map AV.bool)[i.toNat]? = _
  unfold fl
  rw [List.getElem?_map,y6 h2];rfl
 exact zN (fr:=[some (.ref 3),some (.int i)]) rfl rfl (fr':=[some (.ref 3),some (.int i)]) ((z6 (zY (zG (a:=3) (z4 rfl) rfl lk3 (ev1 (z4 rfl) ev0) (xY X (n:=n) h0 h1)))).trans (zL (zd (zZ (zO (z4 rfl) rfl lk2) (z4 rfl) e))))
theorem jg {is:List Int} {k:Int} {h:Hp} (h0:0≤k) (hs:is.length≤63):run T (n+1) (.fn "_law_cell_at") [.lst (is.map AV.int),.int k] h=.ok (.int (is[k.toNat]?.getD 0)) h:=by
 rw [xH X.kAy]
 have t:=zV (op:=.Lt) (b:=decide (k<is.length)) (z4 (i:=1) (cf:=run T n) (h:=h) (fr:=[some (.lst (is.map AV.int)),some (.int k)]) rfl) (xM (b:=.len) (res:=.ok (.int is.length) h) (ev1 (z4 (i:=0) rfl) ev0) (by rw [w8,z3i,List.length_map];rfl)) yS
 by_cases hk:k<is.length
 ·have h2:=jO h0 hk
  rw [decide_eq_true hk] at t
  have e:wF h (.lst (is.map AV.int)) (.int k)=some (.int (is[k.toNat]?.getD 0)):=by
   rw [Wi (by rw [← Int.toNat_of_nonneg h0];exact wm (Nat.le_trans (Nat.le_of_lt h2) (Nat.le_trans hs (by decide)))),List.getElem?_map,y6 h2];rfl
  exact zN (fr:=[some (.lst (is.map AV.int)),some (.int k)]) rfl rfl (zL ((zg t).trans (zL (zd (zZ (z4 rfl) (z4 rfl) e)))))
 ·rw [decide_eq_false hk] at t
  rw [List.getElem?_eq_none (Int.ofNat_le.mp (by rw [Int.toNat_of_nonneg h0];exact Int.not_lt.mp hk))]
  exact zN (fr:=[some (.lst (is.map AV.int)),some (.int k)]) rfl rfl ((z6 ((zH t).trans zF)).trans (zL (zd rfl)))
theorem z0k {c k:Int} {h:Hp}:run T (n+1) (.fn "_law_mixed") [.int c,.int k] h=.ok (.int (YT c k)) h:=by
 rw [xH X.kBk]
 have a0:∀ z:Int,0≤z.fmod 2147483647∧z.fmod 2147483647<2147483647:=fun z=>⟨Int.fmod_nonneg_of_pos _ (by decide),Int.fmod_lt_of_pos _ (by decide)⟩
 have b1:=a0 (c * 48271+7919 * k+12345)
 have b2:=a0 ((c * 48271+7919 * k+12345).fmod 2147483647 * (c * 48271+7919 * k+12345).fmod 2147483647)
 have c1:((c * 48271+7919 * k+12345).fmod 2147483647).natAbs<9223372036854775808:=by lia
 have c2:(((c * 48271+7919 * k+12345).fmod 2147483647 * (c * 48271+7919 * k+12345).fmod 2147483647).fmod 2147483647).natAbs<9223372036854775808:=by lia
 have e1:zM .Mod (zM .Add (zM .Add (zM .Mult (z5 0) (z7 (.int 48271))) (zM .Mult (z7 (.int 7919)) (z5 1))) (z7 (.int 12345))) (z7 (.int 2147483647)) (run T n) [some (.int c),some (.int k),none] h=.ok (.int ((c * 48271+7919 * k+12345).fmod 2147483647)) h :=
  yD (yD (yD (yD (z4 rfl) rfl (ZR.trans (if_pos (.inr (by decide))))) (yD rfl (z4 rfl) (ZR.trans (if_pos (.inl (by decide))))) w4) rfl w4) rfl (yY.trans (if_neg (by decide)))
 exact zN (fr:=[some (.int c),some (.int k),none]) rfl rfl ((z6 (zX (j:=2) e1 (zc rfl))).trans (zL (zd (yD (yD (yD (yD (z4 rfl) (z4 rfl) (ZR.trans (if_pos (.inl c1)))) rfl (yY.trans (if_neg (by decide)))) (z4 rfl) (ZR.trans (if_pos (.inl c2)))) rfl (yY.trans (if_neg (by decide)))))))
end
theorem jp {h:Hp} {a:Nat} {b:List Bool} {x:Int} (e:h[a]? = some (.list (b.map AV.bool))) (h0:0≤x) (h1:x<b.length) (hb:b.length≤small):wF h (.ref a) (.int x)=some (.bool (fl b x)):=by
 have h2:x.toNat<b.length:=by lia
 have h3:okI x=true:=by have:b.length≤1048576:=hb;exact x6.mpr ⟨by lia,by lia⟩
 simp [Out.bind_ok,Out.bind0_ok,Out.bind_stuck,Out.of_some,Out.of_none,Out.bindS_ok,qa,Wi,z31,z30,e,h0,h3,h2,fl]
theorem ZN {h:Hp} {a:Nat} {l:List Int} {x:Int} {y:Int} (e:h[a]? = some (.list (l.map AV.int))) (h0:0≤x) (hy:l[x.toNat]? = some y) (hb:l.length≤small):wF h (.ref a) (.int x)=some (.int y):=by
 have h2:x.toNat<l.length:=(yL hy).1
 have h3:okI x=true:=by have:l.length≤1048576:=hb;exact x6.mpr ⟨by lia,by lia⟩
 rw [qa h3,e]
 show (l.map AV.int)[x.toNat]? = _
 rw [List.getElem?_map,hy];rfl
section
variable {T:Tab} {okf:Str→Str→Bool} (X:TT T okf) {n:Nat} {l:List Int} {b:List Bool} {r:Hp} {o0 o1 o2:AO}
noncomputable abbrev tk (b:List Bool) (l:List Int):List Int:=l.filter (fl b)
theorem Xi {j:Nat} {cf:CF} {fr:AFr} {h:Hp} {x:Int} {b:List Bool} (e0:fr[0]? = some (some (.ref 3))) (ej:fr[j]? = some (some (.int x))) (g0:h[3]? = some (.inst "Row" fs)) (g2:h[5]? = some (.list (b.map AV.bool))) (h0:0≤x) (h1:x<b.length) (hb:b.length≤small) :
  zT .And [zy (zK (zE (z5 0) "flags") (z5 j))] cf fr h=.ok (fl b x) h:=by
 simp only [zT,zy,zK,zE,z4 e0,z4 ej,Out.bind_ok,g0,lk2,Out.of_some,jp g2 h0 h1 hb,z29,z2a,zDs]
 cases fl b x <;> rfl
end
structure Good (l:List Int) (b:List Bool):Prop where
 perm:l.Perm ((List.range b.length).map fun (k:Nat)=>(k:Int))
 sm:b.length<200
theorem Good.len {l:List Int} {b:List Bool} (G:Good l b):l.length=b.length:=by have:=G.perm.length_eq;simpa using this
theorem Good.rng {l:List Int} {b:List Bool} (G:Good l b):∀ x∈l,0≤x∧x<b.length:=fun x hx=>by
 have:=(G.perm.mem_iff (a:=x)).mp hx
 simp only [List.mem_map,List.mem_range] at this
 obtain ⟨k,hk,rfl⟩:=this
 exact ⟨by lia,by lia⟩
theorem Good.idx {l:List Int} {b:List Bool} (G:Good l b) {i:Int} (h0:0≤i) (h1:i<b.length):∃ k,l.findIdx? (· == i)=some k∧k<l.length:=by
 have:i∈l:=(G.perm.mem_iff (a:=i)).mpr (by
  simp only [List.mem_map,List.mem_range]
  exact ⟨i.toNat,by lia,by lia⟩)
 cases hk:l.findIdx? (· == i) with
 | none =>
  rw [List.findIdx?_eq_none_iff] at hk
  have:=hk i this
  simp at this
 | some k=>exact ⟨k,rfl,(List.findIdx?_eq_some_iff_getElem.mp hk).1⟩
theorem Good.sm' {l:List Int} {b:List Bool} (G:Good l b):l.length<small∧b.length<small:=by
 have:=G.sm;have:=G.len
 exact ⟨by show _<1048576;lia,by show _<1048576;lia⟩
theorem Xu:∀ b:List Bool,(((List.range b.length).map fun (k:Nat)=>(k:Int)).filter (fl b)).length=b.countP id:=by
 intro b
 rw [← List.countP_eq_length_filter,List.countP_map]
 have:(fl b ∘ fun (k:Nat)=>(k:Int))=fun k=>b[k]?.getD false:=by funext k;simp [Out.bind_ok,Out.bind0_ok,Out.bind_stuck,Out.of_some,Out.of_none,Out.bindS_ok,fl]
 rw [this]
 clear this
 induction b with
 | nil=>rfl
 | cons x b ih =>
  rw [List.length_cons,List.range_succ_eq_map,List.countP_cons,List.countP_map,List.countP_cons]
  have:((fun k=>(x::b)[k]?.getD false) ∘ Nat.succ)=fun k=>b[k]?.getD false:=by funext k;simp
  rw [this,ih]
  simp
theorem Good.count {l:List Int} {b:List Bool} (G:Good l b):(tk b l).length=b.countP id:=by
 rw [← Xu b];exact (G.perm.filter _).length_eq
section
variable {T:Tab} {okf:Str→Str→Bool} (X:TT T okf) {n:Nat} {l:List Int} {b:List Bool} {r:Hp} {o0 o1 o2:AO}
include X
theorem z1f {p:Int} (G:Good l b):z9 okf (.names (.one 2)) (yE (zE (z5 0) "line") 1 (.one 3) (zT .And [zy (zK (zE (z5 0) "flags") (z5 3))]) (z5 3)) (run T (n+2)) [some (.ref 3),some (.int p),none] (H o0 o1 o2 l b r) =
   .ok .next [some (.ref 3),some (.int p),some (.ref (r.length+6))] (H o0 o1 o2 l b (r++[.list ((tk b l).map AV.int)])) :=
 zX (j:=2) (wy AV.int (it:=zE (z5 0) "line") (own:=1) (i:=3) (a:=4) (test:=zT .And [zy (zK (zE (z5 0) "flags") (z5 3))]) (elt:=z5 3) (cf:=run T (n+2)) (fr:=[some (.ref 3),some (.int p),none])
  (h:=H o0 o1 o2 l b r) (h1:=H o0 o1 o2 l b r) (l:=l) (p:=fl b) (f:=AV.int) rfl rfl (zc rfl) G.sm'.1
  (fun fr' a1 a2 x hx a3=>Xi (by rw [a2 0 (by decide)];rfl) a3 rfl rfl (G.rng x hx).1 (G.rng x hx).2 (Nat.le_of_lt G.sm'.2))
  (fun fr' a1 a2 x hx a3=>z4 a3)) (zc rfl)
theorem z1g {p:Int}:zD (zB (some (.bi .len))) [z5 2] (run T (n+2)) [some (.ref 3),some (.int p),some (.ref (r.length+6))] (H o0 o1 o2 l b (r++[.list ((tk b l).map AV.int)]))=.ok (.int (tk b l).length) (H o0 o1 o2 l b (r++[.list ((tk b l).map AV.int)])) :=
 xM (ev1 (z4 rfl) ev0) (by rw [w8,qY,show (H o0 o1 o2 l b (r++[.list ((tk b l).map AV.int)]))[r.length+6]? = some (.list ((tk b l).map AV.int)) from zP r _ [],← List.length_map AV.int];rfl)
theorem zDl {p:Int} (hp0:0≤p) (hp1:p<(tk b l).length) (G:Good l b) :
  ∃ g,run T (n+3) (.meth "Row" "find") [.ref 3,.int p] (H o0 o1 o2 l b r)=.ok (.int ((tk b l)[p.toNat]?.getD 0)) (H o0 o1 o2 l b (r++g)):=by
 refine ⟨[.list ((tk b l).map AV.int)],?_⟩
 rw [zJ X.kBs]
 have h2:p.toNat<(tk b l).length:=(Int.toNat_lt hp0).mpr hp1
 have h3:okI p=true:=x6.mpr ⟨hp0,Int.lt_trans hp1 (Int.lt_of_le_of_lt (Int.ofNat_le.mpr (Nat.le_trans (List.length_filter_le _ _) (Nat.le_of_lt (G.len▸G.sm)))) (by decide))⟩
 have hi:wF (H o0 o1 o2 l b (r++[.list ((tk b l).map AV.int)])) (.ref (r.length+6)) (.int p)=some (.int ((tk b l)[p.toNat]?.getD 0)):=by
  rw [qa h3,show (H o0 o1 o2 l b (r++[.list ((tk b l).map AV.int)]))[r.length+6]? = some (.list ((tk b l).map AV.int)) from zP r _ []];show ((tk b l).map AV.int)[p.toNat]? = _;rw [List.getElem?_map,y6 h2];rfl
 exact zN (fr:=[some (.ref 3),some (.int p),none]) rfl rfl (fr':=[some (.ref 3),some (.int p),some (.ref (r.length+6))]) ((z6 (z1f X (n:=n) G)).trans ((z6 ((zH (xD (zt (b:=true) (yT (v:=.bool true) (zu (ev1 (z4 rfl) ev0) (yA X)) rfl)) (xD (zt (b:=true) (xF rfl (z4 rfl) (by rw [xb,decide_eq_true hp0]) (z1g X (n:=n)) (by rw [yS,decide_eq_true hp1]))) qR))).trans zF)).trans (zL (zd (zZ (z4 rfl) (z4 rfl) hi)))))
end
set_option genInjectivity false
set_option genSizeOf false
structure Sh where
 g0:AO
 g2:AO
 hands:Int
 l:List Int
 b:List Bool
 ow:List Int
 le:List Nat
 fi:List Int
 mv:List Nat
 br:List AV
 cu:List Nat
 dn:List AV
 st:List Bool
 lo:List Int
noncomputable abbrev fS (hands:Int):List (Str×AV):=[("hands",.int hands),("row",.ref 3),("owners",.ref 6),("letters",.ref 7),("firsts",.ref 8),("moved",.ref 9),("bringers",.ref 10),("cutters",.ref 11),("done",.ref 12),("standing",.ref 13),("lost",.ref 14)]
noncomputable abbrev ch (c:Nat):AV:=.str ⟨#[c]⟩
noncomputable abbrev rf (k:Nat):AV:=.ref (k+15)
noncomputable abbrev Sh.tl (S:Sh) (r:Hp):Hp:=.list (S.ow.map AV.int)::.list (S.le.map ch)::.list (S.fi.map AV.int)::.list (S.mv.map rf)::.list S.br::.list (S.cu.map rf)::.list S.dn::.list (S.st.map AV.bool)::.list (S.lo.map AV.int)::r
noncomputable abbrev Sh.hp (S:Sh) (r:Hp):Hp:=H S.g0 (.inst "Sheet" (fS S.hands)) S.g2 S.l S.b (S.tl r)
theorem kS1 {h:Int}:List.lookup ("hands" : Str) (fS h)=some (.int h):=rfl
theorem kS2 {h:Int}:List.lookup ("row" : Str) (fS h)=some (.ref 3):=rfl
theorem kS3 {h:Int}:List.lookup ("owners" : Str) (fS h)=some (.ref 6):=rfl
theorem kS4 {h:Int}:List.lookup ("letters" : Str) (fS h)=some (.ref 7):=rfl
theorem kS5 {h:Int}:List.lookup ("firsts" : Str) (fS h)=some (.ref 8):=rfl
theorem kS6 {h:Int}:List.lookup ("moved" : Str) (fS h)=some (.ref 9):=rfl
theorem kS7 {h:Int}:List.lookup ("bringers" : Str) (fS h)=some (.ref 10):=rfl
theorem kS8 {h:Int}:List.lookup ("cutters" : Str) (fS h)=some (.ref 11):=rfl
theorem kS9 {h:Int}:List.lookup ("done" : Str) (fS h)=some (.ref 12):=rfl
theorem J2 {h:Int}:List.lookup ("standing" : Str) (fS h)=some (.ref 13):=rfl
theorem zG9 {h:Int}:List.lookup ("lost" : Str) (fS h)=some (.ref 14):=rfl
theorem yj {h:Int}:List.lookup ("need_hand" : Str) (fS h)=none:=rfl
theorem xd {h:Int}:List.lookup ("need_place" : Str) (fS h)=none:=rfl
theorem wB {h:Int}:List.lookup ("need_stretch" : Str) (fS h)=none:=rfl
theorem jX {h:Int}:List.lookup ("size" : Str) (fS h)=none:=rfl
theorem Q9 {h:Int}:List.lookup ("bring" : Str) (fS h)=none:=rfl
theorem jA {h:Int}:List.lookup ("seat_ahead" : Str) (fS h)=none:=rfl
theorem Zo {h:Int}:List.lookup ("noted" : Str) (fS h)=none:=rfl
theorem YW {h:Int}:List.lookup ("seated" : Str) (fS h)=none:=rfl
theorem Z4 {h:Int}:List.lookup ("is_shown" : Str) (fS h)=none:=rfl
theorem qJ {h:Int}:List.lookup ("seat_of" : Str) (fS h)=none:=rfl
theorem z0r {h:Int}:List.lookup ("shown" : Str) (fS h)=none:=rfl
theorem Q8 {h:Int}:List.lookup ("deeds" : Str) (fS h)=none:=rfl
theorem zE7 {h:Int}:List.lookup ("put" : Str) (fS h)=none:=rfl
theorem zE8 {h:Int}:List.lookup ("cut" : Str) (fS h)=none:=rfl
theorem z3g {h:Int}:List.lookup ("move" : Str) (fS h)=none:=rfl
theorem xv {h:Int}:List.lookup ("need_sign" : Str) (fS h)=none:=rfl
theorem XG {h:Int}:List.lookup ("need_deed" : Str) (fS h)=none:=rfl
theorem jm {h:Int}:List.lookup ("stands" : Str) (fS h)=none:=rfl
theorem QC:List.lookup ("is_ahead" : Str) fs=none:=rfl
theorem z0s:List.lookup ("ahead" : Str) fs=none:=rfl
theorem z0t:List.lookup ("add" : Str) fs=none:=rfl
theorem Wf:List.lookup ("take" : Str) fs=none:=rfl
theorem QB:List.lookup ("is_taken" : Str) fs=none:=rfl
theorem XI:List.lookup ("all_taken" : Str) fs=none:=rfl
theorem XH:List.lookup ("find" : Str) fs=none:=rfl
theorem QA:List.lookup ("order" : Str) fs=none:=rfl
section
variable {T:Tab} {okf:Str→Str→Bool} (X:TT T okf) {n:Nat} {S:Sh} {r:Hp}
include X
theorem xZ {i:Int} (h0:0≤i) (h1:i<S.hands):run T (n+2) (.meth "Sheet" "need_hand") [.ref 1,.int i] (S.hp r)=.ok .none (S.hp r):=by
 rw [zJ X.kAg]
 exact y7 (fr:=[some (.ref 1),some (.int i)]) rfl rfl (fr':=[some (.ref 1),some (.int i)]) ((z6 ((zH (xD (zt (b:=true) (yT (v:=.bool true) (zu (ev1 (z4 rfl) ev0) (yA X)) rfl)) (xD (zt (b:=true) (xF rfl (z4 rfl) (by rw [xb,decide_eq_true h0]) (zO (z4 rfl) rfl kS1) (by rw [yS,decide_eq_true h1]))) qR))).trans zF)).trans zF)
theorem Xo:run T (n+2) (.meth "Sheet" "size") [.ref 1] (S.hp r)=.ok (.int (S.b.countP id)) (S.hp r):=by
 rw [zJ X.kA9]
 exact zN (fr:=[some (.ref 1)]) rfl rfl (fr':=[some (.ref 1)]) (zL (zd (zG (a:=3) (zO (z4 rfl) rfl kS2) rfl XI ev0 (WP X (n:=n) (o0:=S.g0) (o1:=.inst "Sheet" (fS S.hands)) (o2:=S.g2) (l:=S.l) (b:=S.b) (r:=S.tl r)))))
theorem qV {i:Int} (h0:0≤i) (h1:i≤S.b.countP id):run T (n+3) (.meth "Sheet" "need_place") [.ref 1,.int i] (S.hp r)=.ok .none (S.hp r):=by
 rw [zJ X.kAb]
 exact y7 (fr:=[some (.ref 1),some (.int i)]) rfl rfl (fr':=[some (.ref 1),some (.int i)]) ((z6 ((zH (xD (zt (b:=true) (yT (v:=.bool true) (zu (ev1 (z4 rfl) ev0) (yA X)) rfl)) (xD (zt (b:=true) (xF rfl (z4 rfl) (by rw [xb,decide_eq_true h0]) (zG (a:=1) (z4 rfl) rfl jX ev0 (Xo X (n:=n))) (by rw [xb,decide_eq_true h1]))) qR))).trans zF)).trans zF)
theorem j9 {i j:Int} (h0:0≤i) (h1:i<j) (h2:j≤S.b.countP id):run T (n+4) (.meth "Sheet" "need_stretch") [.ref 1,.int i,.int j] (S.hp r)=.ok .none (S.hp r):=by
 rw [zJ X.kAa]
 have j0:=Int.le_trans h0 (Int.le_of_lt h1)
 exact y7 (fr:=[some (.ref 1),some (.int i),some (.int j)]) rfl rfl (fr':=[some (.ref 1),some (.int i),some (.int j)]) ((z6 (zY (zG (a:=1) (z4 rfl) rfl xd (ev1 (z4 rfl) ev0) (qV X (n:=n) h0 (Int.le_trans (Int.le_of_lt h1) h2))))).trans ((z6 (zY (zG (a:=1) (z4 rfl) rfl xd (ev1 (z4 rfl) ev0) (qV X (n:=n) j0 h2)))).trans ((z6 ((zH (zV (v:=.int i) (w:=.int j) (z4 rfl) (z4 rfl) (by rw [zEl,decide_eq_false (Int.not_le.mpr h1)]))).trans zF)).trans zF)))
theorem X4:run T (n+1) (.meth "Sheet" "seat_ahead") [.ref 1,.int 0] (S.hp r)=.ok .none (S.hp r):=by
 rw [zJ X.kAc]
 have t:=zV (op:=.Eq) (y:=z7 (.int 0)) (w:=.int 0) (b:=true) (z4 (i:=1) (cf:=run T n) (h:=S.hp r) (fr:=[some (.ref 1),some (.int 0)]) rfl) rfl (by rw [yr,yZ];rfl)
 refine zN (fr:=[some (.ref 1),some (.int 0)]) rfl rfl (fr':=[some (.ref 1),some (.int 0)]) ?_
 unfold kAc
 dsimp only
 exact zL ((zg t).trans (zL (zd rfl)))
theorem Xr {p:Int} (h0:0<p) (h1:p≤(tk S.b S.l).length) (G:Good S.l S.b) :
  ∃ g,run T (n+4) (.meth "Sheet" "seat_ahead") [.ref 1,.int p] (S.hp r)=.ok (.int ((tk S.b S.l)[(p - 1).toNat]?.getD 0)) (S.hp (r++g)):=by
 obtain ⟨g,e⟩:=zDl X (n:=n) (l:=S.l) (b:=S.b) (o0:=S.g0) (o1:=.inst "Sheet" (fS S.hands)) (o2:=S.g2) (r:=S.tl r) (p:=p - 1) (Int.sub_nonneg_of_le h0) (Int.lt_of_lt_of_le (Int.sub_one_lt_of_le (Int.le_refl p)) h1) G
 refine ⟨g,?_⟩
 rw [zJ X.kAc]
 exact zN (fr:=[some (.ref 1),some (.int p)]) rfl rfl (fr':=[some (.ref 1),some (.int p)]) ((z6 ((zH (zV (v:=.int p) (w:=.int 0) (z4 rfl) rfl (by rw [yr,yZ,decide_eq_false (Int.ne_of_gt h0)]))).trans zF)).trans (zL (zd (zG (a:=3) (zO (z4 rfl) rfl kS2) rfl XH (ev1 (yD (z4 rfl) (y:=z7 (.int 1)) rfl ZQ) ev0) e))))
end
noncomputable def Sh.sh (S:Sh):List Int:=(tk S.b S.l).map fun x=>S.ow[x.toNat]?.getD 0
noncomputable def Sh.cs (S:Sh):List Nat:=S.sh.map fun i=>S.le[i.toNat]?.getD 0
noncomputable abbrev tx (t:List Nat):Str:=⟨t.toArray⟩
theorem WT (a c:List Nat):tx a++tx c=tx (a++c):=by
 show Str.append _ _=_
 unfold Str.append tx
 rw [← List.append_toArray]
theorem W8 (cs:List Nat):Str.join ("" : Str) (cs.map fun c=>(⟨#[c]⟩:Str))=tx cs:=by
 induction cs with
 | nil=>rfl
 | cons c cs ih =>
  cases cs with
  | nil=>rfl
  | cons d cs =>
   show (⟨#[c]⟩:Str)++("" : Str)++Str.join ("" : Str) ((d::cs).map fun c=>(⟨#[c]⟩:Str))=_
   rw [ih]
   show (tx [c]++tx [])++tx (d::cs)=_
   rw [WT,WT];rfl
theorem JS (cs:List Nat):((cs.map fun c=>(⟨#[c]⟩:Str)).map (·.length)).sum=cs.length:=by
 induction cs with
 | nil=>rfl
 | cons c cs ih=>rw [List.map_cons,List.map_cons,List.sum_cons,ih,List.length_cons,Nat.add_comm];rfl
structure Ok1 (S:Sh):Prop where
 G:Good S.l S.b
 ow:S.ow.length=S.b.length
 own:∀ i∈S.ow,0≤i∧i<S.le.length
 le:S.le.length<200
theorem Ok1.at_ {S:Sh} (K:Ok1 S) {x:Int} (hx:x∈S.l):∃ y,S.ow[x.toNat]? = some y∧0≤y∧y<S.le.length:=by
 obtain ⟨h0,h1⟩:=K.G.rng x hx
 have h2:x.toNat<S.ow.length:=by rw [K.ow];lia
 exact ⟨S.ow[x.toNat],y6 h2,K.own _ (List.getElem_mem h2)⟩
theorem Ok1.sh_mem {S:Sh} (K:Ok1 S) {i:Int} (hi:i∈S.sh):0≤i∧i<S.le.length:=by
 obtain ⟨x,hx,rfl⟩:=List.mem_map.mp hi
 obtain ⟨y,e,h⟩:=K.at_ (List.mem_filter.mp hx).1
 rw [e];exact h
section
variable {T:Tab} {okf:Str→Str→Bool} (X:TT T okf) {n:Nat} {S:Sh} {r:Hp}
include X
theorem zDy (K:Ok1 S):run T (n+4) (.meth "Sheet" "shown") [.ref 1] (S.hp r)=.ok (.ref (r.length+16)) (S.hp (r++[.list (S.l.map AV.int),.list (S.sh.map AV.int)])):=by
 have lsm:=K.G.sm'
 rw [zJ X.kA1]
 have eo:=z0f X (n:=n+2) (l:=S.l) (b:=S.b) (o0:=S.g0) (o1:=.inst "Sheet" (fS S.hands)) (o2:=S.g2) (r:=S.tl r) (Nat.le_of_lt lsm.1)
 have e1:z8 (zE (z5 0) "row") "order" none [] (run T (n+3)) [some (.ref 1)] (S.hp r)=.ok (.ref (r.length+15)) (S.hp (r++[.list (S.l.map AV.int)])):=by
  exact zG (a:=3) (zO (z4 rfl) rfl kS2) rfl QA ev0 eo
 have hg:(S.hp (r++[.list (S.l.map AV.int)]))[r.length+15]? = some (.list (S.l.map AV.int)):=zP r _ []
 have ec:=wy AV.int (own:=1) (i:=1) (test:=zT .And [zy (z8 (zE (z5 0) "row") "is_taken" none [z5 1])]) (elt:=zK (zE (z5 0) "owners") (z5 1)) (l:=S.l) (p:=fl S.b) (f:=fun x=>AV.int (S.ow[x.toNat]?.getD 0)) e1 hg (by decide) lsm.1
  (fun fr' a1 a2 x hx a3=>by
   have a0:=a2 0 (by decide)
   have z:=J4 X (n:=n) (l:=S.l) (b:=S.b) (o0:=S.g0) (o1:=.inst "Sheet" (fS S.hands)) (o2:=S.g2) (r:=S.tl (r++[.list (S.l.map AV.int)])) (K.G.rng x hx).1 (K.G.rng x hx).2 (Nat.le_of_lt lsm.2)
   have c0:=z4 (cf:=run T (n+3)) (h:=S.hp (r++[.list (S.l.map AV.int)])) (show fr'[0]? = some (some (.ref 1)) from a0)
   have c1:=z4 (cf:=run T (n+3)) (h:=S.hp (r++[.list (S.l.map AV.int)])) a3
   have:z8 (zE (z5 0) "row") "is_taken" none [z5 1] (run T (n+3)) fr' (S.hp (r++[.list (S.l.map AV.int)]))=.ok (.bool (fl S.b x)) (S.hp (r++[.list (S.l.map AV.int)])):=by
    exact zG (a:=3) (zO c0 rfl kS2) rfl QB (ev1 c1 ev0) z
   have t:=yT this rfl
   cases hb:fl S.b x with
   | true=>rw [hb] at t;exact qT t Zc
   | false=>rw [hb] at t;exact xI t)
  (fun fr' a1 a2 x hx a3=>by
   have a0:=a2 0 (by decide)
   have c0:=z4 (cf:=run T (n+3)) (h:=S.hp (r++[.list (S.l.map AV.int)])) (show fr'[0]? = some (some (.ref 1)) from a0)
   have c1:=z4 (cf:=run T (n+3)) (h:=S.hp (r++[.list (S.l.map AV.int)])) a3
   obtain ⟨y,hy,_⟩:=K.at_ hx
   have:=ZN (h:=S.hp (r++[.list (S.l.map AV.int)])) (a:=6) (l:=S.ow) rfl (K.G.rng x hx).1 hy (by rw [K.ow];exact Nat.le_of_lt lsm.2)
   rw [hy]
   exact zZ (zO c0 rfl kS3) c1 this)
 have l1:(S.hp (r++[.list (S.l.map AV.int)])).length=r.length+16:=by
  show (r++[AO.list (S.l.map AV.int)]).length+15=_
  rw [zU];rfl
 have l2:S.hp (r++[.list (S.l.map AV.int)])++[.list ((S.l.filter (fl S.b)).map fun x=>AV.int (S.ow[x.toNat]?.getD 0))]=S.hp (r++[.list (S.l.map AV.int),.list (S.sh.map AV.int)]):=by
  unfold Sh.sh
  rw [List.map_map]
  show S.hp ((r++[.list (S.l.map AV.int)])++[_])=_
  rw [List.append_assoc];rfl
 rw [l1,l2] at ec
 exact zN (fr:=[some (.ref 1)]) rfl rfl (zL (zd ec))
end
theorem xO {α β:Type} (f:α→β) (l:List α) (x:α):l.map f++[f x]=(l++[x]).map f:=by rw [List.map_append];rfl
theorem qQ {α:Type} (g:List α) (x y:α) (r:List α):(g++x::r).set g.length y=g++y::r:=by simp
noncomputable def At (l:List Int) (b:List Bool) (bh:AV) (i:Nat):Prop:=(bh=.none∧i=0)∨∃ x j,bh=.int x∧0≤x∧x<b.length∧l.findIdx? (· == x)=some j∧i=j+1
theorem At.le {l:List Int} {b:List Bool} {bh:AV} {i:Nat} (h:At l b bh i):i≤l.length:=by
 rcases h with ⟨_,rfl⟩ | ⟨x,j,_,_,_,h,rfl⟩
 ·exact Nat.zero_le _
 ·exact (List.findIdx?_eq_some_iff_getElem.mp h).1
noncomputable def Sh.add (S:Sh) (i:Nat) (c:Nat) (d:AV) (k:Nat):Sh:={ S with l:=wa S.l i S.b.length,b:=S.b++[true],ow:=S.ow++[(S.le.length:Int)],le:=S.le++[c],fi:=S.fi++[(S.b.length:Int)],mv:=S.mv++[k],br:=S.br++[d],cu:=S.cu++[k+1] }
section
variable {cf:CF} {fr:AFr} {h h1:Hp} {e:XE} {v:AV} {a:Nat} {c f:Str} {fs:List (Str×AV)} {ys zs:List AV}
theorem j8 (e0:fr[0]? = some (some (.ref 1))) (ho:h[1]? = some (.inst c fs)) (hl:fs.lookup f=some (.ref a)) (ha0:h[a]? = some (.list ys)) (ev:e cf fr h=.ok v h1) (ha:h1[a]? = some (.list ys)) (z:ys.length<small) (hz:ys++[v]=zs) :
  zI (z8 (zE (z5 0) f) "append" (some .append) [e]) cf fr h=.ok .next fr (h1.set a (.list zs)):=by
 refine zY (v:=.none) (j3 (zO (z4 e0) ho hl) ha0 (ev1 ev ev0) ?_)
 rw [q6,ha]
 show (if ys.length<small then _ else _)=_
 rw [if_pos z,hz]
theorem z0b {j:Nat} (e0:fr[j]? = some (some (.ref a))) (ha0:h[a]? = some (.list ys)) (ev:e cf fr h=.ok v h1) (ha:h1[a]? = some (.list ys)) (z:ys.length<small) (hz:ys++[v]=zs) :
  zI (z8 (z5 j) "append" (some .append) [e]) cf fr h=.ok .next fr (h1.set a (.list zs)):=by
 refine zY (v:=.none) (j3 (z4 e0) ha0 (ev1 ev ev0) ?_)
 rw [q6,ha]
 show (if ys.length<small then _ else _)=_
 rw [if_pos z,hz]
theorem qq (e0:fr[0]? = some (some (.ref 1))) (ho:h[1]? = some (.inst c fs)) (hl:fs.lookup f=some (.ref a)) (ha0:h[a]? = some (.list ys)) {k:Nat} (hk:ys.length=k):zD (zB (some (.bi .len))) [zE (z5 0) f] cf fr h=.ok (.int k) h:=by
 refine xM (ev1 (zO (z4 e0) ho hl) ev0) ?_
 rw [w8,qY,ha0]
 show Out.ok (AV.int (ys.length:Nat)) h=_
 rw [hk]
end
section
variable {T:Tab} {okf:Str→Str→Bool} (X:TT T okf) {n:Nat} {S:Sh} {r:Hp} {o0 o1 o2:AO}
include X
theorem z26 {l:List Int} {b:List Bool} {bh:AV} {i:Nat} (hA:At l b bh i) (hl:l.length<small) (hb:b.length<small) :
  run T (n+3) (.meth "Row" "add") [.ref 3,bh] (H o0 o1 o2 l b r)=.ok (.int b.length) (H o0 o1 o2 (wa l i b.length) (b++[false]) r):=by
 rcases hA with ⟨rfl,rfl⟩ | ⟨x,j,rfl,h0,h1,hj,rfl⟩
 ·exact z25 X hl hb
 ·exact z24 X h0 h1 hj hl hb
theorem WH {bh d t:AV} {i c:Nat} {fd:List Int} {g:Hp} (hA:At S.l S.b bh i) (hl:S.l.length<1000) (hb:S.b.length<1000) (ho:S.ow.length<1000) (he:S.le.length<1000) (hf:S.fi.length<1000) (hm:S.mv.length<1000) (hr:S.br.length<1000) (hc:S.cu.length<1000) (hd:fd.length<1000) :
  (zA [(z9 okf (.names (.one 2)) (z8 (zE (z5 0) "row") "add" none [(z5 2)])),(zI (z8 (zE (z5 0) "owners") "append" (some .append) [(zD (zB (some (.bi .len))) [(zE (z5 0) "letters")])])),(zI (z8 (z5 4) "append" (some .append) [(zD (zB (some (.bi .len))) [(zE (z5 0) "letters")])])),(zI (z8 (zE (z5 0) "letters") "append" (some .append) [(z5 5)])),(zI (z8 (zE (z5 0) "firsts") "append" (some .append) [(z5 2)])),(zI (z8 (zE (z5 0) "moved") "append" (some .append) [(zm [])])),(zI (z8 (zE (z5 0) "bringers") "append" (some .append) [(z5 3)])),(zI (z8 (zE (z5 0) "cutters") "append" (some .append) [(zm [])])),(zI (z8 (zE (z5 0) "row") "take" none [(z5 2),(z7 (.bool true))]))])
   (run T (n+3)) [some (.ref 1),some t,some bh,some d,some (.ref (r.length+15)),some (ch c)] (S.hp (r++.list (fd.map AV.int)::g)) =
  .ok .next [some (.ref 1),some t,some (.int S.b.length),some d,some (.ref (r.length+15)),some (ch c)] ((S.add i c d (r.length+1+g.length)).hp (r++.list ((fd++[(S.le.length:Int)]).map AV.int)::(g++[.list [],.list []]))):=by
 have sm:∀ {k:Nat},k<1000→k<small:=fun h=>Nat.lt_trans h (by decide)
 have ea:=z26 X (n:=n) (o0:=S.g0) (o1:=.inst "Sheet" (fS S.hands)) (o2:=S.g2) (r:=S.tl (r++.list (fd.map AV.int)::g)) hA (sm hl) (sm hb)
 rw [z6 (zX (j:=2) (zG (a:=3) (zO (z4 rfl) rfl kS2) rfl z0t (ev1 (z4 rfl) ev0) ea) (zc rfl))]
 let S1:Sh:={ S with l:=wa S.l i S.b.length,b:=S.b++[false] }
 show zA _ _ [some (.ref 1),some t,some (.int S.b.length),some d,some (.ref (r.length+15)),some (ch c)] (S1.hp (r++.list (fd.map AV.int)::g))=_
 rw [z6 (j8 (a:=6) (zs:=(S.ow++[(S.le.length:Int)]).map AV.int) rfl rfl kS3 rfl (qq (a:=7) rfl rfl kS4 rfl (List.length_map _)) rfl (by rw [List.length_map];exact sm ho) (xO AV.int S.ow _))]
 let S2:Sh:={ S1 with ow:=S.ow++[(S.le.length:Int)] }
 show zA _ _ _ (S2.hp (r++.list (fd.map AV.int)::g))=_
 have hfd:(S2.hp (r++.list (fd.map AV.int)::g))[r.length+15]? = some (.list (fd.map AV.int)):=zP r _ g
 rw [z6 (z0b (j:=4) (a:=r.length+15) (zs:=(fd++[(S.le.length:Int)]).map AV.int) rfl hfd (qq (a:=7) rfl rfl kS4 rfl (List.length_map _)) hfd (by rw [List.length_map];exact sm hd) (xO AV.int fd _))]
 show zA _ _ _ (S2.hp ((r++.list (fd.map AV.int)::g).set r.length (.list ((fd++[(S.le.length:Int)]).map AV.int))))=_
 rw [qQ]
 generalize hR:r++.list ((fd++[(S.le.length:Int)]).map AV.int)::g=R
 have lR:R.length=r.length+1+g.length:=by rw [← hR,zU,List.length_cons];lia
 rw [z6 (j8 (a:=7) (zs:=(S.le++[c]).map ch) rfl rfl kS4 rfl (z4 rfl) rfl (by rw [List.length_map];exact sm he) (xO ch S.le c))]
 rw [z6 (j8 (a:=8) (zs:=(S.fi++[(S.b.length:Int)]).map AV.int) rfl rfl kS5 rfl (z4 rfl) rfl (by rw [List.length_map];exact sm hf) (xO AV.int S.fi _))]
 let S3:Sh:={ S2 with le:=S.le++[c],fi:=S.fi++[(S.b.length:Int)] }
 show zA _ _ _ (S3.hp R)=_
 have l3:(S3.hp R).length=R.length+15:=rfl
 rw [z6 (j8 (a:=9) (ys:=S.mv.map rf) (zs:=(S.mv++[R.length]).map rf) rfl rfl kS6 rfl (yX ev0) (show (S3.hp (R++[.list []]))[9]? = _ from rfl) (by rw [List.length_map];exact sm hm) (by rw [l3,List.map_append];rfl))]
 let S4:Sh:={ S3 with mv:=S.mv++[R.length] }
 show zA _ _ _ (S4.hp (R++[.list []]))=_
 rw [z6 (j8 (a:=10) (zs:=S.br++[d]) rfl rfl kS7 rfl (z4 rfl) rfl (sm hr) rfl)]
 let S5:Sh:={ S4 with br:=S.br++[d] }
 show zA _ _ _ (S5.hp (R++[.list []]))=_
 have l5:(S5.hp (R++[.list []])).length=R.length+1+15:=by show (R++[AO.list []]).length+15=_;rw [zU];rfl
 rw [z6 (j8 (a:=11) (ys:=S.cu.map rf) (zs:=(S.cu++[R.length+1]).map rf) rfl rfl kS8 rfl (yX ev0) (show (S5.hp ((R++[.list []])++[.list []]))[11]? = _ from rfl) (by rw [List.length_map];exact sm hc) (by rw [l5,List.map_append];rfl))]
 let S6:Sh:={ S5 with cu:=S.cu++[R.length+1] }
 show zA _ _ _ (S6.hp ((R++[.list []])++[.list []]))=_
 have et:=z4c X (n:=n) (o0:=S.g0) (o1:=.inst "Sheet" (fS S.hands)) (o2:=S.g2) (l:=wa S.l i S.b.length) (b:=S.b++[false]) (i:=(S.b.length:Int)) (v:=true) (r:=S6.tl ((R++[.list []])++[.list []])) (by lia) (by rw [zU];show (S.b.length:Int)<((S.b.length+1:Nat):Int);lia) (by rw [zU];exact sm hb)
 rw [z6 (zY (zG (a:=3) (zO (z4 rfl) rfl kS2) rfl Wf (ev1 (z4 rfl) (ev1 rfl ev0)) et)),zF]
 have eb:(S.b++[false]).set (S.b.length:Int).toNat true=S.b++[true]:=by rw [Int.toNat_natCast];exact qQ S.b false true []
 have hR2:r++.list ((fd++[(S.le.length:Int)]).map AV.int)::(g++[.list [],.list []])=R++[.list [],.list []]:=by rw [← hR,List.append_assoc];rfl
 rw [eb,List.append_assoc,← lR,hR2]
 rfl
end
noncomputable def zj (a k:Nat):List Int:=(List.range k).map fun j=>((a+j:Nat):Int)
theorem yf (a k:Nat):(zj a k).length=k:=by unfold zj;rw [List.length_map,List.length_range]
theorem q8 (a k:Nat):zj a (k+1)=zj a k++[((a+k:Nat):Int)]:=by unfold zj;rw [List.range_succ,List.map_append];rfl
theorem yn {a k:Nat} {x:Int} (h:x∈zj a k):(a:Int)≤x∧x<(a+k:Nat):=by
 obtain ⟨j,hj,rfl⟩:=List.mem_map.mp h
 have:=List.mem_range.mp hj
 exact ⟨by lia,by lia⟩
theorem QO {a m c:List Int} {i:Nat} {x:Int} (h:a.length+m.length=i):wa (a++m++c) i x=a++(m++[x])++c:=by
 unfold wa
 have e:(a++m).length=i:=by rw [zU];exact h
 rw [List.take_left' e,List.drop_left' e]
 simp only [List.append_assoc,List.cons_append,List.nil_append]
noncomputable def Sh.adds (S:Sh) (i:Nat) (d:AV) (q:Nat) (cs:List Nat):Sh:={ S with l:=S.l.take i++zj S.b.length cs.length++S.l.drop i,b:=S.b++List.replicate cs.length true,ow:=S.ow++zj S.le.length cs.length,le:=S.le++cs,fi:=S.fi++zj S.b.length cs.length,mv:=S.mv++(List.range cs.length).map (fun j=>q+2 * j),br:=S.br++List.replicate cs.length d,cu:=S.cu++(List.range cs.length).map (fun j=>q+2 * j+1) }
theorem Sh.adds_nil (S:Sh) (i:Nat) (d:AV) (q:Nat):S.adds i d q []=S:=by
 obtain ⟨g0,g2,hands,l,b,ow,le,fi,mv,br,cu,dn,st,lo⟩:=S
 simp [Sh.adds,zj]
theorem Sh.adds_snoc (S:Sh) {i:Nat} (hi:i≤S.l.length) (d:AV) (q:Nat) (cs:List Nat) (c:Nat):(S.adds i d q cs).add (i+cs.length) c d (q+2 * cs.length)=S.adds i d q (cs++[c]):=by
 have e1:(cs++[c]).length=cs.length+1:=by rw [zU];rfl
 have e2:(S.b++List.replicate cs.length true).length=S.b.length+cs.length:=by rw [zU,List.length_replicate]
 have e3:(S.le++cs).length=S.le.length+cs.length:=zU
 unfold Sh.add Sh.adds
 dsimp only
 rw [e1,e2,e3,QO (by rw [List.length_take,yf];lia),q8,q8,List.replicate_succ',List.replicate_succ',List.range_succ]
 simp only [List.append_assoc,List.map_append,List.map_cons,List.map_nil]
theorem QU {a c:List Int} {x:Int} (h:∀ y∈a,y≠x):(a++x::c).findIdx? (· == x)=some a.length:=by
 induction a with
 | nil=>rw [List.nil_append,List.findIdx?_cons,beq_self_eq_true];rfl
 | cons y a ih =>
  rw [List.cons_append,List.findIdx?_cons,ih fun z hz=>h z (.tail _ hz)]
  have:(y == x)=false:=beq_eq_false_iff_ne.mpr (h y (.head _))
  rw [this];rfl
theorem At.next {S:Sh} {i:Nat} {d:AV} {q c:Nat} {cs:List Nat} (hi:i≤S.l.length) (hlt:∀ x∈S.l,x<S.b.length):At (S.adds i d q (cs++[c])).l (S.adds i d q (cs++[c])).b (.int ((S.b.length+cs.length:Nat):Int)) (i+(cs.length+1)):=by
 have e1:(cs++[c]).length=cs.length+1:=by rw [zU];rfl
 refine .inr ⟨_,i+cs.length,rfl,by lia,?_,?_,rfl⟩
 ·show _<(((S.b++List.replicate (cs++[c]).length true).length:Nat):Int)
  rw [zU,List.length_replicate,e1];lia
 ·show (S.l.take i++zj S.b.length (cs++[c]).length++S.l.drop i).findIdx? _=_
  rw [e1,q8,← List.append_assoc,List.append_assoc _ [_]]
  have:(S.l.take i++zj S.b.length cs.length).length=i+cs.length:=by rw [zU,List.length_take,yf];lia
  rw [← this]
  refine QU fun y hy=>?_
  rcases xN hy with hy | hy
  ·have:=hlt y (List.mem_of_mem_take hy);lia
  ·have:=(yn hy).2;lia
theorem z2l (h:Hp) (cs:List Nat):xC h (.str (tx cs))=some (.imm (cs.map ch),cs.length):=rfl
structure Sz (S:Sh) (k:Nat):Prop where
 l:S.l.length≤k
 b:S.b.length≤k
 ow:S.ow.length≤k
 le:S.le.length≤k
 fi:S.fi.length≤k
 mv:S.mv.length≤k
 br:S.br.length≤k
 cu:S.cu.length≤k
theorem Sz.adds {S:Sh} {k:Nat} (z:Sz S k) {i:Nat} {d:AV} {q:Nat} {cs:List Nat}:Sz (S.adds i d q cs) (k+cs.length):=by
 have h:=List.take_append_drop i S.l
 have hl:(S.l.take i).length+(S.l.drop i).length=S.l.length:=by rw [← zU,h]
 refine ⟨?_,?_,?_,?_,?_,?_,?_,?_⟩ <;> show List.length (_++_)≤_ <;> simp only [zU,yf,List.length_replicate,List.length_map,List.length_range]
 ·have:=z.l;lia
 ·exact Nat.add_le_add_right z.b _
 ·exact Nat.add_le_add_right z.ow _
 ·exact Nat.add_le_add_right z.le _
 ·exact Nat.add_le_add_right z.fi _
 ·exact Nat.add_le_add_right z.mv _
 ·exact Nat.add_le_add_right z.br _
 ·exact Nat.add_le_add_right z.cu _
section
variable {T:Tab} {okf:Str→Str→Bool} (X:TT T okf) {n:Nat} {S:Sh} {r:Hp}
include X
theorem z1u {bh d:AV} {i:Nat} {cs:List Nat} (hA:At S.l S.b bh i) (z:Sz S 500) (hlt:∀ x∈S.l,x<S.b.length) (hc:cs.length≤100) :
  run T (n+4) (.meth "Sheet" "bring") [.ref 1,.str (tx cs),bh,d] (S.hp r)=.ok (.ref (r.length+15)) ((S.adds i d (r.length+1) cs).hp (r++.list ((zj S.le.length cs.length).map AV.int)::List.replicate (2 * cs.length) (.list []))):=by
 rw [zJ X.kA3]
 have hi:=hA.le
 obtain ⟨fr',h',e,p⟩:=xG (t:=.one 5) (src:=.imm (cs.map ch)) (cf:=run T (n+3)) (xs:=cs.map ch)
  (body:=(zA [(z9 okf (.names (.one 2)) (z8 (zE (z5 0) "row") "add" none [(z5 2)])),(zI (z8 (zE (z5 0) "owners") "append" (some .append) [(zD (zB (some (.bi .len))) [(zE (z5 0) "letters")])])),(zI (z8 (z5 4) "append" (some .append) [(zD (zB (some (.bi .len))) [(zE (z5 0) "letters")])])),(zI (z8 (zE (z5 0) "letters") "append" (some .append) [(z5 5)])),(zI (z8 (zE (z5 0) "firsts") "append" (some .append) [(z5 2)])),(zI (z8 (zE (z5 0) "moved") "append" (some .append) [(zm [])])),(zI (z8 (zE (z5 0) "bringers") "append" (some .append) [(z5 3)])),(zI (z8 (zE (z5 0) "cutters") "append" (some .append) [(zm [])])),(zI (z8 (zE (z5 0) "row") "take" none [(z5 2),(z7 (.bool true))]))]))
  (fun k fr h=>∃ bh' v5,fr=[some (.ref 1),some (.str (tx cs)),some bh',some d,some (.ref (r.length+15)),v5]∧h=(S.adds i d (r.length+1) (cs.take k)).hp (r++.list ((zj S.le.length k).map AV.int)::List.replicate (2 * k) (.list []))∧At (S.adds i d (r.length+1) (cs.take k)).l (S.adds i d (r.length+1) (cs.take k)).b bh' (i+k))
  (fun k fr h _=>rfl)
  (by
   rintro k x fr h ⟨bh',v5,rfl,rfl,hA'⟩ hx
   rw [List.getElem?_map] at hx
   obtain ⟨c,hc',rfl⟩:=yC hx
   have hk:k<cs.length:=(yL hc').1
   have lk:(cs.take k).length=k:=by rw [List.length_take];lia
   have z':=z.adds (i:=i) (d:=d) (q:=r.length+1) (cs:=cs.take k)
   rw [lk] at z'
   have lt:∀ {m:Nat},m≤500+k→m<1000:=fun h=>by lia
   have step:=WH X (n:=n) (S:=S.adds i d (r.length+1) (cs.take k)) (r:=r) (bh:=bh') (d:=d) (t:=.str (tx cs)) (c:=c) (fd:=zj S.le.length k) (g:=List.replicate (2 * k) (.list [])) hA' (lt z'.l) (lt z'.b) (lt z'.ow) (lt z'.le) (lt z'.fi) (lt z'.mv) (lt z'.br) (lt z'.cu) (by rw [yf];lia)
   have e1:cs.take (k+1)=cs.take k++[c]:=by rw [List.take_succ,hc'];rfl
   have e2:(S.adds i d (r.length+1) (cs.take k)).le.length=S.le.length+k:=by show (S.le++cs.take k).length=_;rw [zU,lk]
   have e3:(S.adds i d (r.length+1) (cs.take k)).b.length=S.b.length+k:=by show (S.b++List.replicate (cs.take k).length true).length=_;rw [zU,List.length_replicate,lk]
   have e4:=S.adds_snoc hi d (r.length+1) (cs.take k) c
   rw [lk] at e4
   rw [List.length_replicate,e4,e2,e3,← q8] at step
   refine ⟨_,_,_,rfl,step,.int ((S.b.length+k:Nat):Int),_,rfl,?_,?_⟩
   ·rw [e1]
    have:List.replicate (2 * k) (AO.list [])++[.list [],.list []]=List.replicate (2 * (k+1)) (.list []):=by
     rw [show 2 * (k+1)=2 * k+2 by lia,← List.replicate_append_replicate];rfl
    rw [this]
   ·rw [e1]
    have:=At.next (S:=S) (i:=i) (d:=d) (q:=r.length+1) (c:=c) (cs:=cs.take k) hi hlt
    rw [lk] at this
    exact this) (fr:=[some (.ref 1),some (.str (tx cs)),some bh,some d,some (.ref (r.length+15)),none]) (h:=S.hp (r++[.list []]))
  ⟨bh,none,rfl,by rw [List.take_zero,Sh.adds_nil];rfl,by rw [List.take_zero,Sh.adds_nil];exact hA⟩
 obtain ⟨bh',v5,rfl,rfl,_⟩:=p
 rw [List.length_map] at e
 rw [List.take_length] at e
 refine zN (fr:=[some (.ref 1),some (.str (tx cs)),some bh,some d,none,none]) (fr':=[some (.ref 1),some (.str (tx cs)),some bh',some d,some (.ref (r.length+15)),v5]) rfl rfl ?_
 unfold kA3
 dsimp only
 rw [z6 (zX (j:=4) (yX ev0) (zc rfl))]
 show zA _ _ [some (.ref 1),some (.str (tx cs)),some bh,some d,some (.ref (r.length+15)),none] (S.hp (r++[.list []]))=_
 have ef:=wO (en:=false) (x:=z5 1) (h:=S.hp (r++[.list []])) (z4 rfl) (z2l (S.hp (r++[.list []])) cs) e
 exact (z6 ef).trans (zL (zd (z4 rfl)))
end
noncomputable abbrev pr (p:Int×Int):AV:=.tup [.int p.1,.int p.2]
structure Dy (S:Sh) (mvs:List (List (Int×Int))) (cus:List (List Int)) (r:Hp):Prop where
 ml:S.mv.length=mvs.length
 cl:S.cu.length=cus.length
 m:∀ (i k:Nat) (ps:List (Int×Int)),S.mv[i]? = some k→mvs[i]? = some ps→r[k]? = some (AO.list (ps.map pr))
 c:∀ (i k:Nat) (ds:List Int),S.cu[i]? = some k→cus[i]? = some ds→r[k]? = some (AO.list (ds.map AV.int))
 nd:(S.mv++S.cu).Nodup
theorem Dy.grow {S:Sh} {mvs:List (List (Int×Int))} {cus:List (List Int)} {r:Hp} (D:Dy S mvs cus r) (g:Hp):Dy S mvs cus (r++g) :=
 ⟨D.ml,D.cl,fun i k ps h1 h2=>zC (D.m i k ps h1 h2),fun i k ds h1 h2=>zC (D.c i k ds h1 h2),D.nd⟩
noncomputable def yQ (st:List Bool) (f:Int) (ps:List (Int×Int)):Int:=ps.foldl (fun x p=>if fl st p.1 then p.2 else x) f
theorem QG (st:List Bool) (f:Int) (ps:List (Int×Int)) (p:Int×Int):yQ st f (ps++[p])=if fl st p.1 then p.2 else yQ st f ps:=by unfold yQ;rw [List.foldl_append];rfl
noncomputable def WI (st:List Bool):AV→Bool
 | .int d=>fl st d
 | _=>true
noncomputable def Sh.cur (S:Sh) (mvs:List (List (Int×Int))) (i:Int):Int:=yQ S.st (S.fi[i.toNat]?.getD 0) (mvs[i.toNat]?.getD [])
noncomputable def Sh.shw (S:Sh) (cus:List (List Int)) (i:Int):Bool:=WI S.st (S.br[i.toNat]?.getD .none) && !(cus[i.toNat]?.getD []).any (fl S.st)
noncomputable def wR (b:List Bool) (xs:List Int):List Bool:=xs.foldl (fun b x=>b.set x.toNat false) b
theorem wQ (xs:List Int):∀ b:List Bool,(wR b xs).length=b.length:=by
 induction xs with
 | nil=>intro b;rfl
 | cons x xs ih=>intro b;exact (ih _).trans List.length_set
noncomputable def jz (S:Sh) (mvs:List (List (Int×Int))) (cus:List (List Int)) (b:List Bool) (i:Int):List Bool :=
 let b1:=wR (b.set (S.fi[i.toNat]?.getD 0).toNat false) ((mvs[i.toNat]?.getD []).map (·.2))
 bif S.shw cus i then b1.set (S.cur mvs i).toNat true else b1
theorem YL {S:Sh} {mvs:List (List (Int×Int))} {cus:List (List Int)} (b:List Bool) (i:Int):(jz S mvs cus b i).length=b.length:=by
 unfold jz
 dsimp only
 cases S.shw cus i with
 | true=>show (List.set _ _ _).length=_;rw [List.length_set,wQ,List.length_set]
 | false=>show (wR _ _).length=_;rw [wQ,List.length_set]
noncomputable def yb (S:Sh) (mvs:List (List (Int×Int))) (cus:List (List Int)) (b:List Bool) (is:List Int):List Bool:=is.foldl (jz S mvs cus) b
theorem xX {S:Sh} {mvs:List (List (Int×Int))} {cus:List (List Int)} (is:List Int):∀ b:List Bool,(yb S mvs cus b is).length=b.length:=by
 induction is with
 | nil=>intro b;rfl
 | cons x xs ih=>intro b;exact (ih _).trans (YL b x)
structure Sg (S:Sh) (mvs:List (List (Int×Int))) (cus:List (List Int)):Prop where
 fi:S.fi.length=S.le.length
 br:S.br.length=S.le.length
 mv:mvs.length=S.le.length
 cu:cus.length=S.le.length
 fr:∀ x∈S.fi,0≤x∧x<S.b.length
 mr:∀ ps∈mvs,∀ p∈ps,(0≤p.1∧p.1<S.st.length)∧0≤p.2∧p.2<S.b.length
 dr:∀ ds∈cus,∀ d∈ds,0≤d∧d<S.st.length
 bn:∀ v∈S.br,v=.none∨∃ d:Int,v=.int d∧0≤d∧d<S.st.length
 ps:∀ ps∈mvs,ps.length≤S.st.length
 cs:∀ ds∈cus,ds.length≤S.st.length
 sl:S.le.length<200
 st:S.st.length<200
 sb:S.b.length<200
theorem qL {h:Hp} {a:Nat} {xs:List AV} {x:Int} {v:AV} (e:h[a]? = some (.list xs)) (h0:0≤x) (h1:x<1000) (hv:xs[x.toNat]? = some v):wF h (.ref a) (.int x)=some v:=by
 have h3:okI x=true:=x6.mpr ⟨by lia,by lia⟩
 rw [qa h3,e];exact hv
section
variable {T:Tab} {okf:Str→Str→Bool} (X:TT T okf) {n:Nat} {S:Sh} {r:Hp} {mvs:List (List (Int×Int))} {cus:List (List Int)}
theorem Sg.at_ (K:Sg S mvs cus) (D:Dy S mvs cus r) {i:Int} (h0:0≤i) (h1:i<S.le.length):∃ f ps ds v km kc,S.fi[i.toNat]? = some f∧mvs[i.toNat]? = some ps∧cus[i.toNat]? = some ds∧S.br[i.toNat]? = some v∧S.mv[i.toNat]? = some km∧S.cu[i.toNat]? = some kc ∧
  r[km]? = some (AO.list (ps.map pr))∧r[kc]? = some (AO.list (ds.map AV.int)):=by
 have a1:i.toNat<S.fi.length:=by rw [K.fi];lia
 have a2:i.toNat<mvs.length:=by rw [K.mv];lia
 have a3:i.toNat<cus.length:=by rw [K.cu];lia
 have a4:i.toNat<S.br.length:=by rw [K.br];lia
 have a5:i.toNat<S.mv.length:=by rw [D.ml];exact a2
 have a6:i.toNat<S.cu.length:=by rw [D.cl];exact a3
 have e2:=y6 a2
 have e3:=y6 a3
 have e5:=y6 a5
 have e6:=y6 a6
 exact ⟨_,_,_,_,_,_,y6 a1,e2,e3,y6 a4,e5,e6,D.m _ _ _ e5 e2,D.c _ _ _ e6 e3⟩
theorem JY (K:Sg S mvs cus) {d:Int} (d0:0≤d) (d1:d<S.st.length):wF (S.hp r) (.ref 13) (.int d)=some (.bool (fl S.st d)):=jp (b:=S.st) rfl d0 d1 (Nat.le_trans (Nat.le_of_lt K.st) (by decide))
include X
theorem wN (K:Sg S mvs cus) (D:Dy S mvs cus r) {i:Int} (h0:0≤i) (h1:i<S.le.length) :
  run T (n+1) (.meth "Sheet" "seat_of") [.ref 1,.int i] (S.hp r)=.ok (.int (S.cur mvs i)) (S.hp r):=by
 unfold Sh.cur
 obtain ⟨f,ps,ds,v,km,kc,e1,e2,e3,e4,e5,e6,e7,e8⟩:=K.at_ D h0 h1
 have hsl:=K.sl
 rw [zJ X.kAr,e1,e2]
 obtain ⟨fr',h',e,a,c,rfl,rfl⟩:=xG (t:=.many [3,4]) (src:=.ref (km+15)) (cf:=run T n) (xs:=ps.map pr)
  (body:=zA [(sIf (zy (zK (zE (z5 0) "standing") (z5 3))) (zA [(z9 okf (.names (.one 2)) (z5 4))]) (zA []))])
  (fun k fr h=>∃ a c,fr=[some (.ref 1),some (.int i),some (.int (yQ S.st f (ps.take k))),a,c]∧h=S.hp r)
  (by
   rintro k fr h ⟨a,c,rfl,rfl⟩
   show (match (S.hp r)[km+15]? with | some (.list ys)=>some ys[k]? | _=>none)=_
   rw [show (S.hp r)[km+15]? = _ from e7])
  (by
   rintro k x fr h ⟨a,c,rfl,rfl⟩ hx
   rw [List.getElem?_map] at hx
   obtain ⟨p,hp,rfl⟩:=yC hx
   obtain ⟨⟨q0,q1⟩,q2,q3⟩:=K.mr ps (yM e2) p (yM hp)
   have tb:=yT (zZ (zO (z4 (i:=0) (cf:=run T n) (fr:=[some (.ref 1),some (.int i),some (.int (yQ S.st f (ps.take k))),some (.int p.1),some (.int p.2)]) (h:=S.hp r) rfl) rfl J2) (z4 (i:=3) rfl) (JY (r:=r) K q0 q1)) rfl
   refine ⟨[some (.ref 1),some (.int i),some (.int (yQ S.st f (ps.take k))),some (.int p.1),some (.int p.2)],[some (.ref 1),some (.int i),some (.int (if fl S.st p.1 then p.2 else yQ S.st f (ps.take k))),some (.int p.1),some (.int p.2)],S.hp r,rfl,?_,some (.int p.1),some (.int p.2),?_,rfl⟩
   ·refine (z6 ?_).trans zF
    cases hf:fl S.st p.1 with
    | true=>rw [hf] at tb;exact (zg tb).trans ((z6 (zX (j:=2) (z4 rfl) (zc rfl))).trans zF)
    | false=>rw [hf] at tb;exact (zH tb).trans zF
   ·rw [List.take_succ,hp]
    show _=[_,_,some (AV.int (yQ S.st f (ps.take k++[p]))),_,_]
    rw [QG])
  (fr:=[some (.ref 1),some (.int i),some (.int f),none,none]) (h:=S.hp r) ⟨none,none,rfl,rfl⟩
 rw [List.length_map,List.take_length] at *
 have es:xC (S.hp r) (rf km)=some (.ref (km+15),ps.length):=by
  show (match (S.hp r)[km+15]? with | some (.list xs)=>some (Src.ref (km+15),xs.length) | _=>none)=_
  rw [show (S.hp r)[km+15]? = _ from e7]
  show some (_,(ps.map pr).length)=_
  rw [List.length_map]
 refine zN (fr:=[some (.ref 1),some (.int i),none,none,none]) rfl rfl (fr':=[some (.ref 1),some (.int i),some (.int (yQ S.st f ps)),a,c]) ?_
 unfold kAr
 dsimp only
 rw [z6 (zX (j:=2) (zZ (zO (z4 rfl) rfl kS5) (z4 rfl) (ZN (l:=S.fi) rfl h0 e1 (by rw [K.fi];exact Nat.le_trans (Nat.le_of_lt K.sl) (by decide)))) (zc rfl))]
 have ei:zK (zE (z5 0) "moved") (z5 1) (run T n) [some (.ref 1),some (.int i),some (.int f),none,none] (S.hp r)=.ok (rf km) (S.hp r) :=
  zZ (zO (z4 rfl) rfl kS6) (z4 rfl) (qL (xs:=S.mv.map rf) rfl h0 (by lia) (by rw [List.getElem?_map,e5];rfl))
 exact (z6 (wO (en:=false) ei es e)).trans (zL (zd (z4 rfl)))
theorem YX (K:Sg S mvs cus) (D:Dy S mvs cus r) {i:Int} (h0:0≤i) (h1:i<S.le.length) :
  ∃ g,run T (n+1) (.meth "Sheet" "is_shown") [.ref 1,.int i] (S.hp r)=.ok (.bool (S.shw cus i)) (S.hp (r++g)):=by
 obtain ⟨f,ps,ds,v,km,kc,e1,e2,e3,e4,e5,e6,e7,e8⟩:=K.at_ D h0 h1
 have hsl:=K.sl
 rw [zJ X.kAk]
 unfold Sh.shw
 rw [e3,e4]
 show ∃ g,_=Out.ok (AV.bool (WI S.st v && !ds.any (fl S.st))) _
 have en:=z6 (r:=[(sIf (zT .And [(zQ (z5 2) [.IsNot] [(z7 .none)]),(yP (zy (zK (zE (z5 0) "standing") (z5 2))))]) (zA [(zW (z7 (.bool false)))]) (zA [])),(zW (WF (zD (zB (some (.bi .any))) [(yE (zK (zE (z5 0) "cutters") (z5 1)) 1 (.one 3) (zT .And []) (zK (zE (z5 0) "standing") (z5 3)))])))]) (zX (okf:=okf) (j:=2) (fr:=[some (.ref 1),some (.int i),none]) (zZ (cf:=run T n) (h:=S.hp r) (zO (z4 (i:=0) rfl) rfl kS7) (z4 (i:=1) rfl) (qL (xs:=S.br) rfl h0 (by lia) e4)) (zc rfl))
 have et:zT .And [(zQ (z5 2) [.IsNot] [(z7 .none)]),(yP (zy (zK (zE (z5 0) "standing") (z5 2))))] (run T n) [some (.ref 1),some (.int i),some v] (S.hp r)=.ok (!WI S.st v) (S.hp r):=by
  rcases K.bn v (yM e4) with rfl | ⟨d,rfl,d0,d1⟩
  ·exact xI (zV (b:=false) (z4 rfl) rfl rfl)
  ·have tb:=zt (yT (zZ (zO (z4 (i:=0) (cf:=run T n) (fr:=[some (.ref 1),some (.int i),some (.int d)]) (h:=S.hp r) rfl) rfl J2) (z4 (i:=2) rfl) (JY (r:=r) K d0 d1)) rfl)
   refine qT (zV (b:=true) (z4 rfl) rfl rfl) ?_
   show _=Out.ok (!fl S.st d) _
   cases hf:!fl S.st d with
   | true=>rw [hf] at tb;exact qT tb Zc
   | false=>rw [hf] at tb;exact xI tb
 cases hb:WI S.st v with
 | false =>
  rw [hb] at et
  refine ⟨[],?_⟩
  rw [List.append_nil]
  exact zN (fr:=[some (.ref 1),some (.int i),none]) rfl rfl (en.trans (zL ((zg et).trans (zL (zd rfl)))))
 | true =>
  rw [hb] at et
  refine ⟨[.list (ds.map fun d=>AV.bool (fl S.st d))],?_⟩
  have ei:zK (zE (z5 0) "cutters") (z5 1) (run T n) [some (.ref 1),some (.int i),some v] (S.hp r)=.ok (.ref (kc+15)) (S.hp r) :=
   zZ (zO (z4 rfl) rfl kS8) (z4 rfl) (qL (xs:=S.cu.map rf) rfl h0 (by lia) (by rw [List.getElem?_map,e6];rfl))
  have hds:=K.cs ds (yM e3)
  have ec:=wy AV.int (own:=1) (i:=3) (test:=zT .And []) (elt:=zK (zE (z5 0) "standing") (z5 3)) (l:=ds) (p:=fun _=>true) (f:=fun d=>AV.bool (fl S.st d)) ei e8 (by show 3<4;decide) (Nat.lt_trans (Nat.lt_of_le_of_lt hds K.st) (by decide))
   (fun fr' a1 a2 x hx a3=>rfl)
   (fun fr' a1 a2 x hx a3=>by
    have a0:=a2 0 (by decide)
    obtain ⟨q0,q1⟩:=K.dr ds (yM e3) x hx
    exact zZ (zO (z4 (show fr'[0]? = some (some (.ref 1)) from a0)) rfl J2) (z4 a3) (JY (r:=r) K q0 q1))
  rw [List.filter_eq_self.mpr (fun _ _=>rfl)] at ec
  have hg:(S.hp (r++[.list (ds.map fun d=>AV.bool (fl S.st d))]))[r.length+15]? = some (.list (ds.map fun d=>AV.bool (fl S.st d))):=zP r _ []
  have ea:=zEq hg (Yj (f:=fun d=>fl S.st d))
  rw [List.any_map] at ea
  refine zN (fr:=[some (.ref 1),some (.int i),none]) rfl rfl (fr':=[some (.ref 1),some (.int i),some v]) (en.trans ((z6 ((zH et).trans zF)).trans (zL (zd ?_))))
  unfold WF
  rw [xM (ev1 ec ev0) ea]
  rfl
end
theorem Zq {st:List Bool} (ps:List (Int×Int)):∀ f,yQ st f ps=f∨∃ p∈ps,yQ st f ps=p.2:=by
 induction ps with
 | nil=>intro f;exact .inl rfl
 | cons p ps ih =>
  intro f
  rcases ih (if fl st p.1 then p.2 else f) with h | ⟨q,hq,h⟩
  ·have h:yQ st f (p::ps)=if fl st p.1 then p.2 else f:=h
   by_cases hp:fl st p.1=true
   ·rw [if_pos hp] at h;exact .inr ⟨p,.head _,h⟩
   ·rw [if_neg hp] at h;exact .inl h
  ·exact .inr ⟨q,.tail _ hq,h⟩
noncomputable abbrev Sh.wb (S:Sh) (b:List Bool):Sh:={ S with b:=b }
theorem Sg.wb {S:Sh} {mvs:List (List (Int×Int))} {cus:List (List Int)} (K:Sg S mvs cus) {b:List Bool} (h:b.length=S.b.length):Sg (S.wb b) mvs cus :=
 ⟨K.fi,K.br,K.mv,K.cu,fun x hx=>by show 0≤x∧x<b.length;rw [h];exact K.fr x hx,fun ps hp p hq=>by show _∧0≤p.2∧p.2<b.length;rw [h];exact K.mr ps hp p hq,K.dr,K.bn,K.ps,K.cs,K.sl,K.st,by show b.length<200;rw [h];exact K.sb⟩
theorem Dy.wb {S:Sh} {mvs:List (List (Int×Int))} {cus:List (List Int)} {r:Hp} (D:Dy S mvs cus r) (b:List Bool):Dy (S.wb b) mvs cus r:=⟨D.ml,D.cl,D.m,D.c,D.nd⟩
section
variable {T:Tab} {okf:Str→Str→Bool} (X:TT T okf) {n:Nat} {S:Sh} {r:Hp} {mvs:List (List (Int×Int))} {cus:List (List Int)}
include X
theorem Qv {fr:AFr} {e1 e2:XE} {x:Int} {v:Bool} {h:Hp} (h0:fr[0]? = some (some (.ref 1))) (hh:h[1]? = some (.inst "Sheet" (fS S.hands))) (ev:evs [e1,e2] (run T (n+3)) fr h=.ok [.int x,.bool v] (S.hp r)) (x0:0≤x) (x1:x<S.b.length) (hb:S.b.length<200) (h3:h[3]? = some (.inst "Row" fs)) :
  zI (z8 (zE (z5 0) "row") "take" none [e1,e2]) (run T (n+3)) fr h=.ok .next fr ((S.wb (S.b.set x.toNat v)).hp r) :=
 zY (zG (a:=3) (zO (z4 h0) hh kS2) h3 Wf ev (z4c X (n:=n) (o0:=S.g0) (o1:=.inst "Sheet" (fS S.hands)) (o2:=S.g2) (r:=S.tl r) x0 x1 (Nat.le_trans (Nat.le_of_lt hb) (by decide))))
theorem z0h {i:Int} {ps:List (Int×Int)} {km q:Nat} {a3 a4:Option AV} (hp:∀ p∈ps,0≤p.2∧p.2<S.b.length) (hb:S.b.length<200) (e7:r[km]? = some (AO.list (ps.map pr))) :
  ∃ b3 b4,xm (.many [3,4]) (zA [(zI (z8 (zE (z5 0) "row") "take" none [(z5 4),(z7 (.bool false))]))]) (.ref (km+15)) (ps.length+1) 0 (run T (n+3)) [some (.ref 1),some (.ref q),some (.int i),a3,a4] (S.hp r) =
   .ok .next [some (.ref 1),some (.ref q),some (.int i),b3,b4] ((S.wb (wR S.b (ps.map (·.2)))).hp r):=by
 obtain ⟨fr',h',e,b3,b4,rfl,rfl⟩:=xG (t:=.many [3,4]) (src:=.ref (km+15)) (cf:=run T (n+3)) (xs:=ps.map pr)
  (body:=zA [(zI (z8 (zE (z5 0) "row") "take" none [(z5 4),(z7 (.bool false))]))])
  (fun k fr h=>∃ b3 b4,fr=[some (.ref 1),some (.ref q),some (.int i),b3,b4]∧h=(S.wb (wR S.b ((ps.take k).map (·.2)))).hp r)
  (by
   rintro k fr h ⟨a,c,rfl,rfl⟩
   show (match r[km]? with | some (.list ys)=>some ys[k]? | _=>none)=_
   rw [e7])
  (by
   rintro k x fr h ⟨a,c,rfl,rfl⟩ hx
   rw [List.getElem?_map] at hx
   obtain ⟨p,hpk,rfl⟩:=yC hx
   obtain ⟨q2,q3⟩:=hp p (yM hpk)
   have hl:(wR S.b ((ps.take k).map (·.2))).length=S.b.length:=wQ _ _
   refine ⟨[some (.ref 1),some (.ref q),some (.int i),some (.int p.1),some (.int p.2)],_,_,rfl,(z6 (Qv X (S:=S.wb (wR S.b ((ps.take k).map (·.2)))) (r:=r) rfl rfl (ev1 (z4 rfl) (ev1 rfl ev0)) q2 (by rw [hl];exact q3) (by rw [hl];exact hb) rfl)).trans zF,_,_,rfl,?_⟩
   rw [List.take_succ,hpk]
   show _=(S.wb (wR S.b ((ps.take k++[p]).map (·.2)))).hp r
   rw [List.map_append]
   show _=(S.wb (List.foldl _ _ (_++_))).hp r
   rw [List.foldl_append]
   rfl)
  (fr:=[some (.ref 1),some (.ref q),some (.int i),a3,a4]) (h:=S.hp r) ⟨a3,a4,rfl,rfl⟩
 rw [List.length_map,List.take_length] at e
 exact ⟨b3,b4,e⟩
theorem WX (K:Sg S mvs cus) (D:Dy S mvs cus r) {is:List Int} {q:Nat} (hq:r[q]? = some (AO.list (is.map AV.int))) (hi:∀ i∈is,0≤i∧i<S.le.length) :
  ∃ g,run T (n+4) (.meth "Sheet" "seated") [.ref 1,.ref (q+15)] (S.hp r)=.ok .none ((S.wb (yb S mvs cus S.b is)).hp (r++g)):=by
 have hsl:=K.sl
 have hsb:=K.sb
 rw [zJ X.kAt]
 obtain ⟨fr',h',e,g,b2,b3,b4,rfl,rfl⟩:=xG (t:=.one 2) (src:=.ref (q+15)) (cf:=run T (n+3)) (xs:=is.map AV.int)
  (body:=(zA [(zI (z8 (zE (z5 0) "row") "take" none [(zK (zE (z5 0) "firsts") (z5 2)),(z7 (.bool false))])),(xo (.many [3,4]) (zK (zE (z5 0) "moved") (z5 2)) false (zA [(zI (z8 (zE (z5 0) "row") "take" none [(z5 4),(z7 (.bool false))]))])),(sIf (zy (z8 (z5 0) "is_shown" none [(z5 2)])) (zA [(zI (z8 (zE (z5 0) "row") "take" none [(z8 (z5 0) "seat_of" none [(z5 2)]),(z7 (.bool true))]))]) (zA []))]))
  (fun k fr h=>∃ g b2 b3 b4,fr=[some (.ref 1),some (.ref (q+15)),b2,b3,b4]∧h=(S.wb (yb S mvs cus S.b (is.take k))).hp (r++g))
  (by
   rintro k fr h ⟨g,a,c,d,rfl,rfl⟩
   show (match (r++g)[q]? with | some (.list ys)=>some ys[k]? | _=>none)=_
   rw [zC hq])
  (by
   rintro k x fr h ⟨g,a2,a3,a4,rfl,rfl⟩ hx
   rw [List.getElem?_map] at hx
   obtain ⟨i,hik,rfl⟩:=yC hx
   obtain ⟨i0,i1⟩:=hi i (yM hik)
   generalize hb':yb S mvs cus S.b (is.take k)=b'
   have hl':b'.length=S.b.length:=by rw [← hb'];exact xX _ _
   obtain ⟨f,ps,ds,v,km,kc,e1,e2,e3,e4,e5,e6,e7,e8⟩:=K.at_ (D.grow g) i0 i1
   obtain ⟨f0,f1⟩:=K.fr f (yM e1)
   have hps:∀ p∈ps,0≤p.2∧p.2<S.b.length:=fun p hp=>(K.mr ps (yM e2) p hp).2
   have s1:=Qv X (n:=n) (S:=S.wb b') (r:=r++g) (fr:=[some (.ref 1),some (.ref (q+15)),some (.int i),a3,a4]) (e1:=zK (zE (z5 0) "firsts") (z5 2)) (e2:=z7 (.bool false)) (x:=f) (v:=false) (h:=(S.wb b').hp (r++g)) rfl rfl
    (ev1 (zZ (zO (z4 rfl) rfl kS5) (z4 rfl) (ZN (l:=S.fi) rfl i0 e1 (by rw [K.fi];exact Nat.le_trans (Nat.le_of_lt K.sl) (by decide)))) (ev1 rfl ev0)) f0 (by show f<b'.length;rw [hl'];exact f1) (by show b'.length<200;rw [hl'];exact hsb) rfl
   have hl2:(b'.set f.toNat false).length=S.b.length:=List.length_set.trans hl'
   obtain ⟨b3,b4,lp⟩:=z0h X (n:=n) (S:=S.wb (b'.set f.toNat false)) (r:=r++g) (i:=i) (q:=q+15) (a3:=a3) (a4:=a4) (fun p hp=>by show _∧p.2<(b'.set f.toNat false).length;rw [hl2];exact hps p hp) (by show (b'.set f.toNat false).length<200;rw [hl2];exact hsb) e7
   have ei:zK (zE (z5 0) "moved") (z5 2) (run T (n+3)) [some (.ref 1),some (.ref (q+15)),some (.int i),a3,a4] ((S.wb (b'.set f.toNat false)).hp (r++g))=.ok (rf km) ((S.wb (b'.set f.toNat false)).hp (r++g)) :=
    zZ (zO (z4 rfl) rfl kS6) (z4 rfl) (qL (xs:=S.mv.map rf) rfl i0 (by lia) (by rw [List.getElem?_map,e5];rfl))
   have es:xC ((S.wb (b'.set f.toNat false)).hp (r++g)) (rf km)=some (.ref (km+15),ps.length):=by
    show (match (r++g)[km]? with | some (.list xs)=>some (Src.ref (km+15),xs.length) | _=>none)=_
    rw [e7]
    show some (_,(ps.map pr).length)=_
    rw [List.length_map]
   have s2:=wO (en:=false) ei es lp
   generalize hb3:wR (b'.set f.toNat false) (ps.map (·.2))=bb at lp s2
   have hl3:bb.length=S.b.length:=by rw [← hb3];exact (wQ _ _).trans hl2
   obtain ⟨g',sh⟩:=YX X (n:=n+2) (K.wb hl3) ((D.grow g).wb bb) i0 i1
   have st:zy (z8 (z5 0) "is_shown" none [(z5 2)]) (run T (n+3)) [some (.ref 1),some (.ref (q+15)),some (.int i),b3,b4] ((S.wb bb).hp (r++g))=.ok (S.shw cus i) ((S.wb bb).hp ((r++g)++g')) :=
    yT (zG (a:=1) (z4 rfl) rfl Z4 (ev1 (z4 rfl) ev0) sh) rfl
   have fin:is.take (k+1)=is.take k++[i]:=by rw [List.take_succ,hik];rfl
   have sB:yb S mvs cus S.b (is.take (k+1))=bif S.shw cus i then bb.set (S.cur mvs i).toNat true else bb:=by
    rw [fin]
    show List.foldl _ _ (_++_)=_
    rw [List.foldl_append]
    show jz S mvs cus (yb S mvs cus S.b (is.take k)) i=_
    rw [hb']
    unfold jz
    rw [e1,e2]
    show (bif _ then (wR (b'.set f.toNat false) (ps.map (·.2))).set _ _ else wR (b'.set f.toNat false) (ps.map (·.2)))=_
    rw [hb3]
   refine ⟨[some (.ref 1),some (.ref (q+15)),some (.int i),a3,a4],[some (.ref 1),some (.ref (q+15)),some (.int i),b3,b4],(S.wb (bif S.shw cus i then bb.set (S.cur mvs i).toNat true else bb)).hp ((r++g)++g'),rfl,?_,g++g',_,_,_,rfl,?_⟩
   ·rw [z6 s1,z6 s2]
    cases hc:S.shw cus i with
    | true =>
     rw [hc] at st
     have so:=wN X (n:=n+2) (K.wb hl3) (((D.grow g).grow g').wb bb) i0 i1
     have lo:0≤S.cur mvs i∧S.cur mvs i<S.b.length:=by
      unfold Sh.cur
      rw [e1,e2]
      rcases Zq (st:=S.st) ps f with h | ⟨p,hp,h⟩
      ·show 0≤yQ S.st f ps∧yQ S.st f ps<S.b.length;rw [h];exact ⟨f0,f1⟩
      ·show 0≤yQ S.st f ps∧yQ S.st f ps<S.b.length;rw [h];exact hps p hp
     exact (z6 ((zg st).trans ((z6 (Qv X (n:=n) (S:=S.wb bb) (r:=(r++g)++g') rfl rfl (ev1 (zG (a:=1) (z4 rfl) rfl qJ (ev1 (z4 rfl) ev0) so) (ev1 rfl ev0)) lo.1 (by show _<(bb.length:Int);rw [hl3];exact lo.2) (by show bb.length<200;rw [hl3];exact hsb) rfl)).trans zF))).trans zF
    | false =>
     rw [hc] at st
     exact (z6 ((zH st).trans zF)).trans zF
   ·rw [sB,List.append_assoc])
  (fr:=[some (.ref 1),some (.ref (q+15)),none,none,none]) (h:=S.hp r) ⟨[],none,none,none,rfl,by rw [List.append_nil];rfl⟩
 rw [List.length_map,List.take_length] at e
 refine ⟨g,y7 (fr:=[some (.ref 1),some (.ref (q+15)),none,none,none]) rfl rfl (fr':=[some (.ref 1),some (.ref (q+15)),b2,b3,b4]) ?_⟩
 unfold kAt
 dsimp only
 have es:xC (S.hp r) (.ref (q+15))=some (.ref (q+15),is.length):=by
  show (match r[q]? with | some (.list xs)=>some (Src.ref (q+15),xs.length) | _=>none)=_
  rw [hq]
  show some (_,(is.map AV.int).length)=_
  rw [List.length_map]
 exact (z6 (wO (en:=false) (x:=z5 1) (z4 rfl) es e)).trans zF
end
theorem z0a {cf:CF} {fr:AFr} {h h1:Hp} {x y:XE} {res:Out AV} (e:x cf fr h=.ok (.bool true) h1) (e':y cf fr h1=res):wf .And [x,y] cf fr h=res:=by rw [WG,e];exact e'
noncomputable def LET:Str := " !\"#$&'()*+,-./0123456789:;<=>?@ABCDEFGHIJKLMNOPQRSTUVWXYZ[\\]^_`abcdefghijklmnopqrstuvwxyz{|}~\n"
noncomputable def okT (cs:List Nat):Prop:=∀ c∈cs,c∈LET.cps.toList
theorem z3h:LET.cps.toList.all (fun c=>Txt.contains LET ⟨#[c]⟩ && decide (c<1114112))=true:=by decide +kernel
theorem z0v {c:Nat} (h:c∈LET.cps.toList):Txt.contains LET ⟨#[c]⟩=true∧c<1114112:=by
 have:=List.all_eq_true.mp z3h c h
 exact ⟨(Bool.and_eq_true_iff.mp this).1,of_decide_eq_true (Bool.and_eq_true_iff.mp this).2⟩
theorem kB5 {cs:List Nat} (h:okT cs):PyData.strOk (tx cs)=true:=by
 unfold PyData.strOk
 rw [Array.all_eq_true_iff_forall_mem]
 intro x hx
 exact decide_eq_true (z0v (h x (by simpa using hx))).2
section
variable {T:Tab} {okf:Str→Str→Bool} (X:TT T okf) {n:Nat} {S:Sh} {r:Hp} {mvs:List (List (Int×Int))} {cus:List (List Int)}
include X
theorem QI {cs:List Nat} (h:okT cs) (hl:cs.length≤200) {hp:Hp}:run T (n+1) (.fn "is_text") [.str (tx cs)] hp=.ok (.bool true) (hp++[.list (cs.map fun _=>AV.bool true)]):=by
 rw [xH X.kB4]
 have ec:=Yi ch (it:=z5 0) (own:=1) (i:=1) (v:=.str (tx cs)) (test:=zT .And []) (elt:=ju (z5 1) [.In] [zB (some (.str LET))]) (cf:=run T n) (fr:=[some (.str (tx cs))]) (h:=hp) (h1:=hp) (l:=cs) (p:=fun _=>true) (f:=fun _=>AV.bool true) rfl rfl (zc rfl) (Nat.lt_of_le_of_lt hl (by decide))
  (fun fr' a1 a2 x hx a3=>rfl)
  (fun fr' a1 a2 x hx a3=>by
   unfold ju
   rw [zV (b:=true) (z4 a3) rfl (by rw [zEk,(z0v (h x hx)).1])]
   rfl)
 rw [List.filter_eq_self.mpr (fun _ _=>rfl)] at ec
 have hg:(hp++[.list (cs.map fun _=>AV.bool true)])[hp.length]? = some (AO.list (cs.map fun _=>AV.bool true)):=zP hp _ []
 have ea:=zEr hg (Yj (f:=fun _=>true))
 have hb:(cs.map fun _=>true).all id=true:=List.all_eq_true.mpr fun x hx=>by obtain ⟨_,_,rfl⟩:=List.mem_map.mp hx;rfl
 rw [hb] at ea
 refine zN (fr:=[some (.str (tx cs))]) rfl rfl (fr':=[some (.str (tx cs))]) (zL (zd ?_))
 exact z0a (xM (h2:=hp) (vs:=[.str (tx cs),.bi .str]) (ev1 (z4 rfl) (ev1 rfl ev0)) (zEp (v:=.str (tx cs)))) (xM (ev1 ec ev0) ea)
theorem Qy (K:Sg S mvs cus) (D:Dy S mvs cus r) {is:List Int} {q:Nat} {hd wd:AV} (hq:r[q]? = some (AO.list (is.map AV.int))) (hi:∀ i∈is,0≤i∧i<S.le.length) (hn:S.dn.length<200) :
  ∃ g,run T (n+5) (.meth "Sheet" "noted") [.ref 1,hd,wd,.ref (q+15)] (S.hp r)=.ok (.int S.dn.length) (({ S with b:=yb S mvs cus S.b is,dn:=S.dn++[.tup [hd,wd,.ref (q+15)]] }:Sh).hp (r++g)):=by
 rw [zJ X.kA2]
 let S1:Sh:={ S with dn:=S.dn++[.tup [hd,wd,.ref (q+15)]] }
 have K1:Sg S1 mvs cus:=⟨K.fi,K.br,K.mv,K.cu,K.fr,K.mr,K.dr,K.bn,K.ps,K.cs,K.sl,K.st,K.sb⟩
 have D1:Dy S1 mvs cus r:=⟨D.ml,D.cl,D.m,D.c,D.nd⟩
 obtain ⟨g,e⟩:=WX X (n:=n) K1 D1 hq hi
 refine ⟨g,zN (fr:=[some (.ref 1),some hd,some wd,some (.ref (q+15))]) rfl rfl (fr':=[some (.ref 1),some hd,some wd,some (.ref (q+15))]) ?_⟩
 unfold kA2
 dsimp only
 rw [z6 (j8 (a:=12) (zs:=S.dn++[.tup [hd,wd,.ref (q+15)]]) rfl rfl kS9 rfl (qH (ev1 (z4 rfl) (ev1 (z4 rfl) (ev1 (z4 rfl) ev0)))) rfl (Nat.lt_trans hn (by decide)) rfl)]
 show zA _ _ _ (S1.hp r)=_
 rw [z6 (zY (zG (a:=1) (z4 rfl) rfl YW (ev1 (z4 rfl) ev0) e))]
 refine zL (zd (yD (qq (a:=12) (ys:=S.dn++[.tup [hd,wd,.ref (q+15)]]) rfl rfl kS9 rfl (zU)) rfl ?_))
 rw [ZQ]
 show Out.ok (AV.int (((S.dn.length+1:Nat):Int) - 1)) _=_
 rw [show ((S.dn.length+1:Nat):Int) - 1=S.dn.length by lia]
 rfl
end
theorem Qn {l:List Int} {x:Int} {j:Nat} (h:l.findIdx? (· == x)=some j):l=l.take j++x::l.drop (j+1):=by
 obtain ⟨hj,h1,_⟩:=List.findIdx?_eq_some_iff_getElem.mp h
 have:l[j]=x:=by simpa using h1
 conv=>lhs;rw [← List.take_append_drop j l,List.drop_eq_getElem_cons hj,this]
theorem Yw {l:List Int} (nd:l.Nodup) {f:Int→Bool} {k j:Nat} {x:Int} (hx:(l.filter f)[k]? = some x) (hj:l.findIdx? (· == x)=some j) :
  (l.take (j+1)).filter f=(l.filter f).take (k+1)∧(l.drop (j+1)).filter f=(l.filter f).drop (k+1):=by
 have hs:=Qn hj
 have hjl:=(List.findIdx?_eq_some_iff_getElem.mp hj).1
 have fx:f x=true:=(List.mem_filter.mp (yM hx)).2
 have ht:l.take (j+1)=l.take j++[x]:=by
  rw [List.take_succ,y6 hjl]
  have:l[j]=x:=by simpa using (List.findIdx?_eq_some_iff_getElem.mp hj).2.1
  rw [this];rfl
 have e:l.filter f=(l.take j).filter f++x::(l.drop (j+1)).filter f:=by
  conv=>lhs;rw [hs]
  rw [List.filter_append,List.filter_cons,if_pos fx]
 have hk:((l.take j).filter f).length=k:=by
  have nd2:(l.filter f).Nodup:=nd.filter f
  have h1:(l.filter f)[((l.take j).filter f).length]? = some x:=by rw [e];exact zP _ _ _
  have lt1:=(yL h1).1
  have lt2:=(yL hx).1
  exact (List.getElem?_inj lt1 nd2).mp (h1.trans hx.symm)
 have lt:((l.take j).filter f++[x]).length=k+1:=by rw [zU,hk];rfl
 constructor
 ·rw [ht,List.filter_append,e,List.filter_cons,if_pos fx,List.filter_nil]
  conv=>rhs;rw [show (l.take j).filter f++x::(l.drop (j+1)).filter f=((l.take j).filter f++[x])++(l.drop (j+1)).filter f by rw [List.append_assoc];rfl]
  rw [List.take_left' lt]
 ·rw [e,show (l.take j).filter f++x::(l.drop (j+1)).filter f=((l.take j).filter f++[x])++(l.drop (j+1)).filter f by rw [List.append_assoc];rfl,List.drop_left' lt]
theorem Good.nodup {l:List Int} {b:List Bool} (G:Good l b):l.Nodup:=by
 refine G.perm.nodup_iff.mpr ?_
 rw [List.nodup_iff_pairwise_ne,List.pairwise_map]
 exact List.Pairwise.imp (fun h=>by lia) List.pairwise_lt_range
theorem JX {l:List Bool}:(l++[true]).length=l.length+1:=zU
theorem jy {l:List Bool}:(l.length:Int)<((l++[true]).length:Nat):=by rw [JX];exact Int.ofNat_lt.mpr (Nat.lt_succ_self _)
noncomputable abbrev Sh.ws (S:Sh) (st:List Bool):Sh:={ S with st:=st }
theorem Sg.ws {S:Sh} {mvs:List (List (Int×Int))} {cus:List (List Int)} (K:Sg S mvs cus) {st:List Bool} (h:S.st.length≤st.length) (hs:st.length<200):Sg (S.ws st) mvs cus :=
 have up:∀ {x:Int},x<S.st.length→x<st.length:=fun q=>Int.lt_of_lt_of_le q (Int.ofNat_le.mpr h)
 ⟨K.fi,K.br,K.mv,K.cu,K.fr,fun ps hp p hq=>⟨⟨(K.mr ps hp p hq).1.1,up (K.mr ps hp p hq).1.2⟩,(K.mr ps hp p hq).2⟩,fun ds hd d hq=>⟨(K.dr ds hd d hq).1,up (K.dr ds hd d hq).2⟩,
  fun v hv=>(K.bn v hv).imp id fun ⟨d,h,a,c⟩=>⟨d,h,a,up c⟩,fun ps hp=>Nat.le_trans (K.ps ps hp) h,fun ps hp=>Nat.le_trans (K.cs ps hp) h,K.sl,hs,K.sb⟩
theorem Sg.adds {S:Sh} {mvs:List (List (Int×Int))} {cus:List (List Int)} (K:Sg S mvs cus) {i q:Nat} {d:Int} {cs:List Nat} (hd:0≤d∧d<S.st.length) (hb:S.b.length+cs.length<200) (he:S.le.length+cs.length<200) :
  Sg (S.adds i (.int d) q cs) (mvs++List.replicate cs.length []) (cus++List.replicate cs.length []):=by
 have lb:(S.adds i (.int d) q cs).b.length=S.b.length+cs.length:=by show (S.b++List.replicate cs.length true).length=_;rw [zU,List.length_replicate]
 have ll:(S.adds i (.int d) q cs).le.length=S.le.length+cs.length:=zU
 refine ⟨?_,?_,?_,?_,fun x hx=>?_,fun ps hp p hq=>?_,fun ds hp p hq=>?_,fun v hv=>?_,fun ps hp=>?_,fun ps hp=>?_,by rw [ll];exact he,K.st,by rw [lb];exact hb⟩
 ·rw [ll];show (S.fi++zj S.b.length cs.length).length=_;rw [zU,yf,K.fi]
 ·rw [ll];show (S.br++List.replicate cs.length _).length=_;rw [zU,List.length_replicate,K.br]
 ·rw [ll,zU,List.length_replicate,K.mv]
 ·rw [ll,zU,List.length_replicate,K.cu]
 ·rw [lb]
  rcases xN hx with h | h
  ·exact ⟨(K.fr x h).1,Xb _ (K.fr x h).2⟩
  ·exact ⟨Int.le_trans (Int.natCast_nonneg _) (yn h).1,(yn h).2⟩
 ·rw [lb]
  rcases xN hp with h | h
  ·obtain ⟨a,c,e⟩:=K.mr ps h p hq;exact ⟨a,c,Xb _ e⟩
  ·rw [(List.mem_replicate.mp h).2] at hq;cases hq
 ·rcases xN hp with h | h
  ·exact K.dr ds h p hq
  ·rw [(List.mem_replicate.mp h).2] at hq;cases hq
 ·rcases xN hv with h | h
  ·exact K.bn v h
  ·exact .inr ⟨d,(List.mem_replicate.mp h).2,hd⟩
 ·rcases xN hp with h | h
  ·exact K.ps ps h
  ·rw [(List.mem_replicate.mp h).2];exact Nat.zero_le _
 ·rcases xN hp with h | h
  ·exact K.cs ps h
  ·rw [(List.mem_replicate.mp h).2];exact Nat.zero_le _
theorem jo {α:Type} {p:Prop} [Decidable p] {x y:α} (e:(if p then some x else none)=some y):p∧x=y:=by
 by_cases h:p
 ·rw [if_pos h] at e;exact ⟨h,Option.some.inj e⟩
 ·rw [if_neg h] at e;cases e
theorem jd {α:Type} {a c:List α} {i:Nat} {x:α} (h:(a++c)[i]? = some x):(i<a.length∧a[i]? = some x)∨(a.length≤i∧c[i - a.length]? = some x):=by
 by_cases hi:i<a.length
 ·rw [List.getElem?_append_left hi] at h;exact .inl ⟨hi,h⟩
 ·rw [List.getElem?_append_right (by lia)] at h;exact .inr ⟨by lia,h⟩
theorem Dy.lt {S:Sh} {mvs:List (List (Int×Int))} {cus:List (List Int)} {r:Hp} (D:Dy S mvs cus r):∀ k∈S.mv++S.cu,k<r.length:=by
 intro k hk
 rcases xN hk with h | h
 ·obtain ⟨i,hi,rfl⟩:=List.getElem_of_mem h
  have e:=y6 hi
  have h2:i<mvs.length:=by rw [← D.ml];exact hi
  exact (yL (D.m i _ _ e (y6 h2))).1
 ·obtain ⟨i,hi,rfl⟩:=List.getElem_of_mem h
  have e:=y6 hi
  have h2:i<cus.length:=by rw [← D.cl];exact hi
  exact (yL (D.c i _ _ e (y6 h2))).1
theorem Dy.adds {S:Sh} {mvs:List (List (Int×Int))} {cus:List (List Int)} {r:Hp} (D:Dy S mvs cus r) {i:Nat} {d:AV} {cs:List Nat} {o:AO} :
  Dy (S.adds i d (r.length+1) cs) (mvs++List.replicate cs.length []) (cus++List.replicate cs.length []) (r++o::List.replicate (2 * cs.length) (.list [])):=by
 have nw:∀ k,k<2 * cs.length→(r++o::List.replicate (2 * cs.length) (AO.list []))[r.length+1+k]? = some (.list []):=fun k hk=>by
  rw [Nat.add_assoc,x9,Nat.add_comm 1 k,List.getElem?_cons_succ,List.getElem?_replicate,if_pos hk]
 refine ⟨?_,?_,fun j k ps h1 h2=>?_,fun j k ds h1 h2=>?_,?_⟩
 ·show (S.mv++_).length=_;rw [zU,zU,List.length_map,List.length_range,List.length_replicate,D.ml]
 ·show (S.cu++_).length=_;rw [zU,zU,List.length_map,List.length_range,List.length_replicate,D.cl]
 ·rcases jd h1 with ⟨a1,a2⟩ | ⟨a1,a2⟩
  ·rw [List.getElem?_append_left (by rw [← D.ml];exact a1)] at h2
   exact zC (D.m j k ps a2 h2)
  ·rw [List.getElem?_append_right (by rw [← D.ml];exact a1),List.getElem?_replicate] at h2
   rw [List.getElem?_map] at a2
   obtain ⟨m,hm,rfl⟩:=yC a2
   have hlt:=(yL hm).1
   rw [List.length_range] at hlt
   rw [List.getElem?_range hlt] at hm
   cases hm
   obtain ⟨_,rfl⟩:=jo h2
   exact nw _ (Nat.mul_lt_mul_of_pos_left hlt (by decide))
 ·rcases jd h1 with ⟨a1,a2⟩ | ⟨a1,a2⟩
  ·rw [List.getElem?_append_left (by rw [← D.cl];exact a1)] at h2
   exact zC (D.c j k ds a2 h2)
  ·rw [List.getElem?_append_right (by rw [← D.cl];exact a1),List.getElem?_replicate] at h2
   rw [List.getElem?_map] at a2
   obtain ⟨m,hm,rfl⟩:=yC a2
   have hlt:=(yL hm).1
   rw [List.length_range] at hlt
   rw [List.getElem?_range hlt] at hm
   cases hm
   obtain ⟨_,rfl⟩:=jo h2
   rw [Nat.add_assoc (r.length+1)]
   exact nw _ (Nat.lt_of_lt_of_le (Nat.lt_succ_self _) (Nat.mul_le_mul_left 2 hlt))
 ·show ((S.mv++(List.range cs.length).map fun j=>r.length+1+2 * j)++(S.cu++(List.range cs.length).map fun j=>r.length+1+2 * j+1)).Nodup
  have lt:=D.lt
  have nd:=D.nd
  rw [List.nodup_append] at nd ⊢
  obtain ⟨n1,n2,n3⟩:=nd
  have big1:∀ x∈(List.range cs.length).map (fun j=>r.length+1+2 * j),r.length<x∧(x - r.length) % 2=1:=fun x hx=>by
   obtain ⟨j,_,rfl⟩:=List.mem_map.mp hx;lia
  have big2:∀ x∈(List.range cs.length).map (fun j=>r.length+1+2 * j+1),r.length<x∧(x - r.length) % 2=0:=fun x hx=>by
   obtain ⟨j,_,rfl⟩:=List.mem_map.mp hx;lia
  have nr1:((List.range cs.length).map (fun j=>r.length+1+2 * j)).Nodup:=by
   rw [List.nodup_iff_pairwise_ne,List.pairwise_map];exact List.Pairwise.imp (fun h=>Nat.ne_of_lt (by first | exact Nat.add_lt_add_left (Nat.mul_lt_mul_of_pos_left h (by decide)) _ | exact Nat.succ_lt_succ (Nat.add_lt_add_left (Nat.mul_lt_mul_of_pos_left h (by decide)) _))) List.pairwise_lt_range
  have nr2:((List.range cs.length).map (fun j=>r.length+1+2 * j+1)).Nodup:=by
   rw [List.nodup_iff_pairwise_ne,List.pairwise_map];exact List.Pairwise.imp (fun h=>Nat.ne_of_lt (by first | exact Nat.add_lt_add_left (Nat.mul_lt_mul_of_pos_left h (by decide)) _ | exact Nat.succ_lt_succ (Nat.add_lt_add_left (Nat.mul_lt_mul_of_pos_left h (by decide)) _))) List.pairwise_lt_range
  refine ⟨List.nodup_append.mpr ⟨n1,nr1,fun x hx y hy e=>?_⟩,List.nodup_append.mpr ⟨n2,nr2,fun x hx y hy e=>?_⟩,fun x hx y hy e=>?_⟩
  ·exact absurd (e▸lt x (List.mem_append_left _ hx)) (Nat.lt_asymm (big1 y hy).1)
  ·exact absurd (e▸lt x (List.mem_append_right _ hx)) (Nat.lt_asymm (big2 y hy).1)
  ·subst e
   rcases xN hx with hx | hx <;> rcases xN hy with hy | hy
   ·exact n3 x hx x hy rfl
   ·exact absurd (lt x (List.mem_append_left _ hx)) (Nat.lt_asymm (big2 x hy).1)
   ·exact absurd (lt x (List.mem_append_right _ hy)) (Nat.lt_asymm (big1 x hx).1)
   ·exact absurd ((big1 x hx).2.symm.trans (big2 x hy).2) (by decide)
section
variable {T:Tab} {okf:Str→Str→Bool} (X:TT T okf) {n:Nat} {S:Sh} {r:Hp} {mvs:List (List (Int×Int))} {cus:List (List Int)}
include X
theorem z23 (G:Good S.l S.b) {p:Int} (h0:0≤p) (h1:p≤(tk S.b S.l).length) :
  ∃ g bh i,run T (n+4) (.meth "Sheet" "seat_ahead") [.ref 1,.int p] (S.hp r)=.ok bh (S.hp (r++g))∧At S.l S.b bh i∧tk S.b (S.l.take i)=(tk S.b S.l).take p.toNat∧tk S.b (S.l.drop i)=(tk S.b S.l).drop p.toNat:=by
 by_cases hp:p=0
 ·subst hp
  exact ⟨[],.none,0,by rw [List.append_nil];exact X4 X (n:=n+3),.inl ⟨rfl,rfl⟩,rfl,rfl⟩
 ·obtain ⟨g,e⟩:=Xr X (n:=n) (r:=r) (p:=p) (by lia) h1 G
  have hk:(p - 1).toNat<(tk S.b S.l).length:=by lia
  have ex:=y6 hk
  rw [ex] at e
  have hm:(tk S.b S.l)[(p - 1).toNat]∈S.l:=(List.mem_filter.mp (List.getElem_mem hk)).1
  obtain ⟨x0,x1⟩:=G.rng _ hm
  obtain ⟨j,hj,_⟩:=G.idx x0 x1
  obtain ⟨s1,s2⟩:=Yw G.nodup ex hj
  rw [show (p - 1).toNat+1=p.toNat by lia] at s1 s2
  exact ⟨g,_,j+1,e,.inr ⟨_,j,rfl,x0,x1,hj,rfl⟩,s1,s2⟩
end
theorem WS {h:Hp} {x:Str} (e:PyData.strOk x=true):toD h 8 (.str x)=some (.str x):=by
 show (if PyData.strOk x then some (PyData.str x) else none)=_
 rw [if_pos e]
theorem wz {h:Hp} {x y:Str} (e:PyData.strOk x=true) (e':PyData.strOk y=true):aEq h (.str x) (.str y)=some (x == y):=Xc (WS e) (WS e')
theorem Wq:PyData.strOk ("" : Str)=true:=by decide +kernel
theorem zDp {a c:List Nat} (h:tx a=tx c):a=c:=congrArg (fun s:Str=>s.cps.toList) h
theorem zEu {cs:List Nat} (h:cs≠[]):(tx cs == ("" : Str))=false:=beq_eq_false_iff_ne.mpr fun e=>h (zDp (c:=[]) e)
theorem Ok1.sz {S:Sh} {mvs:List (List (Int×Int))} {cus:List (List Int)} {r:Hp} (O:Ok1 S) (K:Sg S mvs cus) (D:Dy S mvs cus r):Sz S 500:=by
 have h1:=O.G.len
 have h2:=O.G.sm
 have h3:=K.sl
 exact ⟨by lia,by lia,by rw [O.ow];lia,by lia,by rw [K.fi];lia,by rw [D.ml,K.mv];lia,by rw [K.br];lia,by rw [D.cl,K.cu];lia⟩
noncomputable def Kp (S:Sh) (r r':Hp):Prop:=∀ (q:Nat) (o:AO),q∉S.mv→q∉S.cu→r[q]? = some o→r'[q]? = some o
noncomputable abbrev Sh.s1 (S:Sh):Sh:={ S with st:=S.st++[true] }
theorem Qr {S:Sh}:S.s1.st.length=S.st.length+1:=JX
section
variable {T:Tab} {okf:Str→Str→Bool} (X:TT T okf) {n:Nat} {S:Sh} {r:Hp} {mvs:List (List (Int×Int))} {cus:List (List Int)}
theorem Sg.st1 (K:Sg S mvs cus) (h:S.s1.st.length<200):Sg S.s1 mvs cus:=K.ws (Nat.le_of_lt (Int.ofNat_lt.mp jy)) h
include X
theorem Qm {fr:AFr} (h0:fr[0]? = some (some (.ref 1))) (hs:S.st.length<200):zI (z8 (zE (z5 0) "standing") "append" (some .append) [(z7 (.bool true))]) (run T n) fr (S.hp r)=.ok .next fr (S.s1.hp r) :=
 j8 (h:=S.hp r) (h1:=S.hp r) (v:=.bool true) (a:=13) (ys:=S.st.map AV.bool) (zs:=(S.st++[true]).map AV.bool) h0 rfl J2 rfl rfl rfl (by rw [List.length_map];exact Nat.lt_trans hs (by decide)) (xO AV.bool S.st true)
theorem zH6 (O:Ok1 S) (K:Sg S mvs cus) (D:Dy S mvs cus r) (hst:S.st.length=S.dn.length) {hd p:Int} {cs:List Nat} (d0:0≤hd) (d1:hd<S.hands) (p0:0≤p) (p1:p≤(tk S.b S.l).length) (ok:okT cs) (ne:cs≠[]) (hc:cs.length≤100)
  (hb:S.b.length+cs.length<200) (he:S.le.length+cs.length<200) (hs:S.s1.st.length<200) :
  ∃ r' i q x,tk S.b (S.l.take i)=(tk S.b S.l).take p.toNat∧tk S.b (S.l.drop i)=(tk S.b S.l).drop p.toNat∧i≤S.l.length ∧
   run T (n+6) (.meth "Sheet" "put") [.ref 1,.int hd,.int p,.str (tx cs)] (S.hp r)=.ok (.int S.dn.length) (({ S.s1.adds i (.int S.dn.length) q cs with b:=yb (S.s1.adds i (.int S.dn.length) q cs) (mvs++List.replicate cs.length []) (cus++List.replicate cs.length []) (S.s1.adds i (.int S.dn.length) q cs).b (zj S.le.length cs.length),dn:=S.dn++[x] }:Sh).hp r') ∧
   Dy (S.s1.adds i (.int S.dn.length) q cs) (mvs++List.replicate cs.length []) (cus++List.replicate cs.length []) r'∧Kp S r r'∧r.length≤q∧∃ q':Nat,q=q'+1∧r.length≤q'∧x=.tup [.int hd,.str "put",.ref (q'+15)]∧r'[q']? = some (.list ((zj S.le.length cs.length).map AV.int)):=by
 have hs0:S.st.length<200:=Nat.lt_trans (Int.ofNat_lt.mp jy) hs
 have p2:p≤S.b.countP id:=by rw [← O.G.count];exact p1
 generalize hr1:r++[.list (cs.map fun _=>AV.bool true)]=r1
 have D1:Dy S.s1 mvs cus r1:=by rw [← hr1];have:=D.grow [.list (cs.map fun _=>AV.bool true)];exact ⟨this.ml,this.cl,this.m,this.c,this.nd⟩
 have O1:Ok1 S.s1:=⟨O.G,O.ow,O.own,O.le⟩
 have K1:=K.st1 hs
 obtain ⟨g,bh,i,ea,hA,t1,t2⟩:=z23 X (n:=n+1) (S:=S.s1) (r:=r1) O.G p0 p1
 have eb:=z1u X (n:=n+1) (S:=S.s1) (r:=r1++g) (bh:=bh) (d:=.int S.dn.length) (i:=i) (cs:=cs) hA (O1.sz K1 D1) (fun x hx=>(O.G.rng x hx).2) hc
 have D2:=(D1.grow g).adds (i:=i) (d:=.int S.dn.length) (cs:=cs) (o:=.list ((zj S.s1.le.length cs.length).map AV.int))
 have K2:=K1.adds (i:=i) (q:=(r1++g).length+1) (d:=S.dn.length) (cs:=cs) ⟨Int.natCast_nonneg _,by rw [← hst];exact jy⟩ hb he
 obtain ⟨g2,en⟩:=Qy X (n:=n) (hd:=.int hd) (wd:=.str "put") (q:=(r1++g).length) (is:=zj S.le.length cs.length) K2 D2 (zP _ _ _) (fun j hj=>by
  have:=yn hj
  show 0≤j∧j<((S.le++cs).length:Int)
  rw [zU];lia) (by show S.dn.length<200;rw [← hst];exact hs0)
 refine ⟨_,i,(r1++g).length+1,.tup [.int hd,.str "put",.ref ((r1++g).length+15)],t1,t2,hA.le,?_,⟨(D2.grow g2).ml,(D2.grow g2).cl,(D2.grow g2).m,(D2.grow g2).c,(D2.grow g2).nd⟩,fun q o _ _ h=>zC (zC (zC (by rw [← hr1];exact zC h))),by rw [← hr1,zU,zU];lia,(r1++g).length,rfl,by rw [← hr1,zU,zU,Nat.add_assoc];exact Nat.le_add_right _ _,rfl,zC (zP _ _ _)⟩
 rw [zJ X.kBm]
 refine zN (fr:=[some (.ref 1),some (.int hd),some (.int p),some (.str (tx cs))]) rfl rfl (fr':=[some (.ref 1),some (.int hd),some (.int p),some (.str (tx cs))]) ?_
 unfold kBm
 dsimp only
 rw [z6 (zY (zG (a:=1) (z4 rfl) rfl yj (ev1 (z4 rfl) ev0) (xZ X (n:=n+3) d0 d1)))]
 rw [z6 (zY (zG (a:=1) (z4 rfl) rfl xd (ev1 (z4 rfl) ev0) (qV X (n:=n+2) p0 p2)))]
 have et:zT .Or [(yP (zy (zD (zB (some (.fn "is_text"))) [(z5 3)]))),(zQ (z5 3) [.Eq] [(z7 (.str ""))])] (run T (n+5)) [some (.ref 1),some (.int hd),some (.int p),some (.str (tx cs))] (S.hp r)=.ok false (S.hp r1):=by
  refine xD (h1:=S.hp r1) (zt (b:=true) (yT (v:=.bool true) (zu (ev1 (z4 rfl) ev0) ((QI X (n:=n+4) ok (by lia)).trans ?_)) rfl)) (xD (zV (z4 rfl) rfl ?_) qR)
  ·rw [← hr1];rfl
  ·rw [yr,wz (kB5 ok) Wq,zEu ne]
 rw [z6 ((zH et).trans zF)]
 rw [z6 (Qm X (n:=n+5) rfl hs0)]
 refine zL (zd (zG (a:=1) (z4 rfl) rfl Zo (ev1 (z4 rfl) (ev1 rfl (ev1 (zG (a:=1) (z4 rfl) rfl Q9 (ev1 (z4 rfl) (ev1 (zG (a:=1) (z4 rfl) rfl jA (ev1 (z4 rfl) ev0) ea) (ev1 (qq (a:=12) rfl rfl kS9 rfl rfl) ev0))) eb) ev0))) en))
end
theorem Xy {mv cu:List Nat} (nd:(mv++cu).Nodup) {i j k m:Nat} (h1:mv[i]? = some k) (h2:cu[j]? = some m):k≠m:=by
 rw [List.nodup_append] at nd
 exact nd.2.2 k (yM h1) m (yM h2)
theorem YR {l:List Nat} (nd:l.Nodup) {i j k:Nat} (h1:l[i]? = some k) (h2:l[j]? = some k):i=j :=
 (List.getElem?_inj (yL h1).1 nd).mp (h1.trans h2.symm)
theorem Dy.setC {S:Sh} {mvs:List (List (Int×Int))} {cus:List (List Int)} {r:Hp} (D:Dy S mvs cus r) {i kc:Nat} {ds:List Int} (h:S.cu[i]? = some kc):Dy S mvs (cus.set i ds) (r.set kc (.list (ds.map AV.int))):=by
 have hlt:=D.lt kc (List.mem_append_right _ (yM h))
 have nd2:S.cu.Nodup:=(List.nodup_append.mp D.nd).2.1
 refine ⟨D.ml,by rw [List.length_set];exact D.cl,fun j k ps h1 h2=>?_,fun j k es h1 h2=>?_,D.nd⟩
 ·rw [List.getElem?_set_ne (Ne.symm (Xy D.nd h1 h))];exact D.m j k ps h1 h2
 ·by_cases hj:i=j
  ·subst hj
   rw [h] at h1;cases h1
   rw [List.getElem?_set_self (by rw [← D.cl];exact (yL h).1)] at h2
   cases h2
   exact List.getElem?_set_self hlt
  ·rw [List.getElem?_set_ne hj] at h2
   rw [List.getElem?_set_ne (fun (q:_=k)=>hj (YR nd2 h (by rw [q];exact h1)))]
   exact D.c j k es h1 h2
theorem Dy.setM {S:Sh} {mvs:List (List (Int×Int))} {cus:List (List Int)} {r:Hp} (D:Dy S mvs cus r) {i km:Nat} {ps:List (Int×Int)} (h:S.mv[i]? = some km):Dy S (mvs.set i ps) cus (r.set km (.list (ps.map pr))):=by
 have hlt:=D.lt km (List.mem_append_left _ (yM h))
 have nd2:S.mv.Nodup:=(List.nodup_append.mp D.nd).1
 refine ⟨by rw [List.length_set];exact D.ml,D.cl,fun j k es h1 h2=>?_,fun j k es h1 h2=>?_,D.nd⟩
 ·by_cases hj:i=j
  ·subst hj
   rw [h] at h1;cases h1
   rw [List.getElem?_set_self (by rw [← D.ml];exact (yL h).1)] at h2
   cases h2
   exact List.getElem?_set_self hlt
  ·rw [List.getElem?_set_ne hj] at h2
   rw [List.getElem?_set_ne (fun (q:_=k)=>hj (YR nd2 h (by rw [q];exact h1)))]
   exact D.m j k es h1 h2
 ·rw [List.getElem?_set_ne (Xy D.nd h h1)];exact D.c j k es h1 h2
noncomputable def yq (d:Int) (cus:List (List Int)) (is:List Int):List (List Int):=is.foldl (fun c i=>c.set i.toNat (c[i.toNat]?.getD []++[d])) cus
theorem QW (d:Int) (cus:List (List Int)) (is:List Int) (i:Int):yq d cus (is++[i])=(yq d cus is).set i.toNat ((yq d cus is)[i.toNat]?.getD []++[d]):=by
 unfold yq;rw [List.foldl_append];rfl
theorem Zy (d:Int) (is:List Int):∀ cus:List (List Int),(yq d cus is).length=cus.length:=by
 induction is with
 | nil=>intro c;rfl
 | cons i is ih=>intro c;exact (ih _).trans List.length_set
noncomputable def yH (d:Int):List (List (Int×Int))→Nat→List Int→List (List (Int×Int))
 | mvs,_,[]=>mvs
 | mvs,n,i::is=>yH d (mvs.set i.toNat (mvs[i.toNat]?.getD []++[(d,(n:Int))])) (n+1) is
theorem Q0 (d:Int) (is:List Int) (i:Int):∀ (mvs:List (List (Int×Int))) (n:Nat),yH d mvs n (is++[i])=(yH d mvs n is).set i.toNat ((yH d mvs n is)[i.toNat]?.getD []++[(d,((n+is.length:Nat):Int))]):=by
 induction is with
 | nil=>intro mvs n;rfl
 | cons j is ih =>
  intro mvs n
  show yH d _ (n+1) (is++[i])=_
  rw [ih,List.length_cons,show n+1+is.length=n+(is.length+1) by lia]
  rfl
theorem Zj (d:Int) (is:List Int):∀ (mvs:List (List (Int×Int))) (n:Nat),(yH d mvs n is).length=mvs.length:=by
 induction is with
 | nil=>intro c n;rfl
 | cons i is ih=>intro c n;exact (ih _ _).trans List.length_set
theorem XC {a b:Int} (ha:0≤a) (hb:0≤b) (h:a.toNat=b.toNat):a=b:=by lia
theorem Yc {d:Int} {j:Int} (hj:0≤j) {is:List Int}:∀ {cus:List (List Int)},is.Nodup→(∀ i∈is,0≤i∧i<cus.length)→(yq d cus is)[j.toNat]? = if j∈is then (cus[j.toNat]?).map (·++[d]) else cus[j.toNat]? := by
 induction is with
 | nil=>intro cus _ _;rw [if_neg (List.not_mem_nil)];rfl
 | cons i is ih =>
  intro cus nd hr
  obtain ⟨nd1,nd2⟩:=List.nodup_cons.mp nd
  obtain ⟨i0,i1⟩:=hr i (.head _)
  have:=ih (cus:=cus.set i.toNat (cus[i.toNat]?.getD []++[d])) nd2 (fun x hx=>by rw [List.length_set];exact hr x (.tail _ hx))
  show (yq d (cus.set i.toNat (cus[i.toNat]?.getD []++[d])) is)[j.toNat]? = _
  rw [this]
  have lt:i.toNat<cus.length:=by lia
  by_cases h:j=i
  ·subst h
   rw [if_neg nd1,if_pos (.head _),List.getElem?_set_self lt,y6 lt];rfl
  ·have ne:i.toNat≠j.toNat:=fun e=>h (XC i0 hj e).symm
   rw [List.getElem?_set_ne ne]
   by_cases hm:j∈is
   ·rw [if_pos hm,if_pos (.tail _ hm)]
   ·rw [if_neg hm,if_neg (fun q=>by
     rcases List.mem_cons.mp q with q | q
     ·exact h q
     ·exact hm q)]
theorem YS {d:Int} {j:Int} (hj:0≤j) {is:List Int}:∀ {mvs:List (List (Int×Int))} {n:Nat},is.Nodup→(∀ i∈is,0≤i∧i<mvs.length) →
  (j∉is→(yH d mvs n is)[j.toNat]? = mvs[j.toNat]?)∧∀ k,is[k]? = some j→(yH d mvs n is)[j.toNat]? = (mvs[j.toNat]?).map (·++[(d,((n+k:Nat):Int))]):=by
 induction is with
 | nil=>intro mvs n _ _;exact ⟨fun _=>rfl,fun k h=>by cases h⟩
 | cons i is ih =>
  intro mvs n nd hr
  obtain ⟨nd1,nd2⟩:=List.nodup_cons.mp nd
  obtain ⟨i0,i1⟩:=hr i (.head _)
  obtain ⟨a,b⟩:=ih (mvs:=mvs.set i.toNat (mvs[i.toNat]?.getD []++[(d,(n:Int))])) (n:=n+1) nd2 (fun x hx=>by rw [List.length_set];exact hr x (.tail _ hx))
  have lt:i.toNat<mvs.length:=by lia
  refine ⟨fun hn=>?_,fun k hk=>?_⟩
  ·have ne:i.toNat≠j.toNat:=fun e=>hn ((XC i0 hj e)▸.head _)
   exact (a fun q=>hn (.tail _ q)).trans (List.getElem?_set_ne ne)
  ·cases k with
   | zero =>
    have hk:i=j:=Option.some.inj hk
    subst hk
    rw [show yH d mvs n (i::is)=yH d (mvs.set i.toNat (mvs[i.toNat]?.getD []++[(d,(n:Int))])) (n+1) is from rfl,a nd1,List.getElem?_set_self lt,y6 lt]
    rfl
   | succ k =>
    have hk:is[k]? = some j:=hk
    have ne:i.toNat≠j.toNat:=fun e=>nd1 ((XC i0 hj e)▸yM hk)
    rw [show yH d mvs n (i::is)=yH d (mvs.set i.toNat (mvs[i.toNat]?.getD []++[(d,(n:Int))])) (n+1) is from rfl,b k hk,List.getElem?_set_ne ne,show n+1+k=n+(k+1) by lia]
section
variable {T:Tab} {okf:Str→Str→Bool} (X:TT T okf) {n:Nat} {S:Sh} {r:Hp} {mvs:List (List (Int×Int))} {cus:List (List Int)}
include X
theorem Xk (O:Ok1 S) {i j:Int} (h0:0≤i) (h1:i<j) (h2:j≤(tk S.b S.l).length) {fr:AFr} {s a c:Nat} (f0:fr[s]? = some (some (.ref 1))) (fa:fr[a]? = some (some (.int i))) (fc:fr[c]? = some (some (.int j))) :
  ZF (z8 (z5 s) "shown" none []) (z5 a) (z5 c) (run T (n+4)) fr (S.hp r)=.ok (.ref (r.length+17)) (S.hp (r++[.list (S.l.map AV.int),.list (S.sh.map AV.int),.list (((S.sh.take j.toNat).drop i.toNat).map AV.int)])):=by
 have hl:S.sh.length=(tk S.b S.l).length:=List.length_map _
 have hs:(tk S.b S.l).length<200:=by
  have h1:(tk S.b S.l).length≤S.l.length:=List.length_filter_le (fl S.b) S.l
  have:=O.G.len
  have:=O.G.sm
  lia
 have hg:(S.hp (r++[.list (S.l.map AV.int),.list (S.sh.map AV.int)]))[r.length+16]? = some (.list (S.sh.map AV.int)):=by
  show (r++[.list (S.l.map AV.int),.list (S.sh.map AV.int)])[r.length+1]? = _
  rw [x9];rfl
 refine (z08 (zG (a:=1) (z4 f0) rfl z0r ev0 (zDy X (n:=n) (r:=r) O)) (z4 fa) (z4 fc) (Wl hg (qj (x6.mpr ⟨h0,by lia⟩)) (qj (x6.mpr ⟨by lia,by lia⟩)) (by rw [List.length_map,hl];exact Nat.le_trans (Nat.le_of_lt hs) (by decide)))).trans ?_
 have l1:(S.hp (r++[.list (S.l.map AV.int),.list (S.sh.map AV.int)])).length=r.length+17:=by
  show (r++[AO.list (S.l.map AV.int),.list (S.sh.map AV.int)]).length+15=_
  rw [zU];rfl
 rw [l1]
 show Out.ok _ (S.hp ((r++[.list (S.l.map AV.int),.list (S.sh.map AV.int)])++[.list (((S.sh.map AV.int).take j.toNat).drop i.toNat)]))=_
 rw [List.append_assoc,← List.map_take,← List.map_drop]
 rfl
end
theorem Sg.cut {S:Sh} {mvs:List (List (Int×Int))} {cus:List (List Int)} (K:Sg S mvs cus) (hs:S.s1.st.length<200) {is:List Int} (nd:is.Nodup) (hi:∀ i∈is,0≤i∧i<S.le.length):Sg S.s1 mvs (yq S.st.length cus is):=by
 have K1:=K.st1 hs
 have at_:∀ ds∈yq S.st.length cus is,∃ es∈cus,ds=es∨ds=es++[(S.st.length:Int)]:=fun ds hd=>by
  obtain ⟨j,hj,rfl⟩:=List.getElem_of_mem hd
  have e:=y6 hj
  have:=Yc (d:=S.st.length) (j:=(j:Int)) (by lia) (cus:=cus) nd (fun i h=>by rw [K.cu];exact hi i h)
  rw [Int.toNat_natCast,e] at this
  have hj2:j<cus.length:=by rw [← Zy S.st.length is cus];exact hj
  rw [y6 hj2] at this
  by_cases h:(j:Int)∈is
  ·rw [if_pos h] at this;exact ⟨_,List.getElem_mem hj2,.inr (Option.some.inj this)⟩
  ·rw [if_neg h] at this;exact ⟨_,List.getElem_mem hj2,.inl (Option.some.inj this)⟩
 refine ⟨K.fi,K.br,K.mv,by rw [Zy];exact K.cu,K.fr,K1.mr,fun ds hd d h=>?_,K1.bn,K1.ps,fun ds hd=>?_,K.sl,hs,K.sb⟩
 ·obtain ⟨es,he,q | q⟩:=at_ ds hd
  ·rw [q] at h;exact K1.dr es he d h
  ·rw [q] at h
   rcases xN h with h | h
   ·exact K1.dr es he d h
   ·rw [xE h]
    exact ⟨Int.natCast_nonneg _,jy⟩
 ·obtain ⟨es,he,q | q⟩:=at_ ds hd
  ·rw [q];exact K1.cs es he
  ·rw [q,zU];rw [Qr];exact Nat.succ_le_succ (K.cs es he)
theorem jZ {S:Sh} (O:Ok1 S) {i j:Nat}:∀ x∈(S.sh.take j).drop i,0≤x∧x<S.le.length:=fun x hx=>O.sh_mem (List.mem_of_mem_take (List.mem_of_mem_drop hx))
section
variable {T:Tab} {okf:Str→Str→Bool} (X:TT T okf) {n:Nat} {S:Sh} {r:Hp} {mvs:List (List (Int×Int))} {cus:List (List Int)}
include X
theorem zHc (O:Ok1 S) (K:Sg S mvs cus) (D:Dy S mvs cus r) (hst:S.st.length=S.dn.length) (ndS:S.sh.Nodup) {hd i j:Int} (d0:0≤hd) (d1:hd<S.hands) (h0:0≤i) (h1:i<j) (h2:j≤(tk S.b S.l).length) (hs:S.s1.st.length<200) :
  ∃ r' x,run T (n+6) (.meth "Sheet" "cut") [.ref 1,.int hd,.int i,.int j] (S.hp r)=.ok (.int S.dn.length) (({ S.s1 with b:=yb S.s1 mvs (yq S.st.length cus ((S.sh.take j.toNat).drop i.toNat)) S.b ((S.sh.take j.toNat).drop i.toNat),dn:=S.dn++[x] }:Sh).hp r') ∧
   Dy S.s1 mvs (yq S.st.length cus ((S.sh.take j.toNat).drop i.toNat)) r'∧Kp S r r'∧∃ q':Nat,r.length≤q'∧x=.tup [.int hd,.str "cut",.ref (q'+15)]∧r'[q']? = some (.list (((S.sh.take j.toNat).drop i.toNat).map AV.int)):=by
 have hs0:S.st.length<200:=Nat.lt_trans (Int.ofNat_lt.mp jy) hs
 have p2:j≤S.b.countP id:=by rw [← O.G.count];exact h2
 generalize his:(S.sh.take j.toNat).drop i.toNat=is
 have hi:∀ x∈is,0≤x∧x<S.le.length:=by rw [← his];exact jZ O
 have nd:is.Nodup:=by rw [← his];exact (ndS.sublist (List.take_sublist _ _)).sublist (List.drop_sublist _ _)
 have ec:=Xk X (s:=0) (n:=n+1) (r:=r) O h0 h1 h2 (fr:=[some (.ref 1),some (.int hd),some (.int i),some (.int j),none,none]) (a:=2) (c:=3) rfl rfl rfl
 rw [his] at ec
 generalize hr1:r++[.list (S.l.map AV.int),.list (S.sh.map AV.int),.list (is.map AV.int)]=r1 at ec
 have hq:r1[r.length+2]? = some (AO.list (is.map AV.int)):=by rw [← hr1,x9];rfl
 have D1:Dy S.s1 mvs cus r1:=by rw [← hr1];have:=D.grow [.list (S.l.map AV.int),.list (S.sh.map AV.int),.list (is.map AV.int)];exact ⟨this.ml,this.cl,this.m,this.c,this.nd⟩
 have lt:=D.lt
 have hsl:=K.sl
 obtain ⟨fr',h',e,r2,w5,rfl,rfl,Dz,hq2,kp⟩:=xG (t:=.one 5) (src:=.ref (r.length+17)) (cf:=run T (n+5)) (xs:=is.map AV.int)
  (body:=(zA [(zI (z8 (zK (zE (z5 0) "cutters") (z5 5)) "append" (some .append) [(zD (zB (some (.bi .len))) [(zE (z5 0) "done")])]))]))
  (fun k fr h=>∃ r2 w5,fr=[some (.ref 1),some (.int hd),some (.int i),some (.int j),some (.ref (r.length+17)),w5]∧h=S.s1.hp r2∧Dy S.s1 mvs (yq S.st.length cus (is.take k)) r2∧r2[r.length+2]? = some (AO.list (is.map AV.int))∧Kp S r r2)
  (by
   rintro k fr h ⟨r2,w5,rfl,rfl,_,hq2,_⟩
   show (match r2[r.length+2]? with | some (.list ys)=>some ys[k]? | _=>none)=_
   rw [hq2])
  (by
   rintro k x fr h ⟨r2,w5,rfl,rfl,Dz,hq2,kp⟩ hx
   rw [List.getElem?_map] at hx
   obtain ⟨y,hyk,rfl⟩:=yC hx
   obtain ⟨y0,y1⟩:=hi y (yM hyk)
   have Kz:=K.cut hs (nd.sublist (List.take_sublist k is)) (fun z hz=>hi z (List.mem_of_mem_take hz))
   obtain ⟨f,ps,ds,v,km,kc,e1,e2,e3,e4,e5,e6,e7,e8⟩:=Kz.at_ Dz y0 y1
   have hkc:kc<r.length:=lt kc (List.mem_append_right _ (yM (show S.cu[y.toNat]? = some kc from e6)))
   have hds:=Kz.cs ds (yM e3)
   have hds:ds.length≤S.s1.st.length:=hds
   have D3:=Dz.setC (ds:=ds++[(S.st.length:Int)]) e6
   refine ⟨[some (.ref 1),some (.int hd),some (.int i),some (.int j),some (.ref (r.length+17)),some (.int y)],_,_,rfl,?_,r2.set kc (.list ((ds++[(S.st.length:Int)]).map AV.int)),some (.int y),rfl,rfl,?_,?_,?_⟩
   ·refine (z6 (fr1:=[some (.ref 1),some (.int hd),some (.int i),some (.int j),some (.ref (r.length+17)),some (.int y)]) (h1:=S.s1.hp (r2.set kc (.list ((ds++[(S.st.length:Int)]).map AV.int)))) (zY (v:=.none) (j3 (a:=kc+15) (zZ (zO (z4 rfl) rfl kS8) (z4 rfl) (qL (xs:=S.cu.map rf) rfl y0 (by lia) (by rw [List.getElem?_map,show S.cu[y.toNat]? = some kc from e6];rfl))) e8 (ev1 (qq (a:=12) rfl rfl kS9 rfl hst.symm) ev0) ?_))).trans zF
    rw [q6,show (S.s1.hp r2)[kc+15]? = some (.list (ds.map AV.int)) from e8]
    show (if (ds.map AV.int).length<small then _ else _)=_
    rw [if_pos (by rw [List.length_map];exact Nat.lt_of_le_of_lt hds (Nat.lt_trans hs (by decide))),xO]
    rfl
   ·rw [List.take_succ,hyk]
    show Dy S.s1 mvs (yq S.st.length cus (is.take k++[y])) _
    rw [QW,e3]
    exact D3
   ·rw [List.getElem?_set_ne (by lia)];exact hq2
   ·intro q o h1 h2 h3
    rw [List.getElem?_set_ne (fun (e:kc=q)=>h2 (e▸yM (show S.cu[y.toNat]? = some kc from e6)))]
    exact kp q o h1 h2 h3)
  (fr:=[some (.ref 1),some (.int hd),some (.int i),some (.int j),some (.ref (r.length+17)),none]) (h:=S.s1.hp r1) ⟨r1,none,rfl,rfl,D1,hq,fun q o _ _ h=>by rw [← hr1];exact zC h⟩
 rw [List.length_map] at e Dz
 rw [List.take_length] at Dz
 obtain ⟨g2,en⟩:=Qy X (n:=n) (hd:=.int hd) (wd:=.str "cut") (q:=r.length+2) (is:=is) (K.cut hs nd hi) Dz hq2 hi (by show S.dn.length<200;rw [← hst];exact hs0)
 have Dg:=Dz.grow g2
 refine ⟨r2++g2,.tup [.int hd,.str "cut",.ref (r.length+17)],?_,Dg,fun q o h1 h2 h3=>zC (kp q o h1 h2 h3),r.length+2,Nat.le_add_right _ _,rfl,zC hq2⟩
 rw [zJ X.kBr]
 refine zN (fr:=[some (.ref 1),some (.int hd),some (.int i),some (.int j),none,none]) rfl rfl (fr':=[some (.ref 1),some (.int hd),some (.int i),some (.int j),some (.ref (r.length+17)),w5]) ?_
 unfold kBr
 dsimp only
 rw [z6 (zY (zG (a:=1) (z4 rfl) rfl yj (ev1 (z4 rfl) ev0) (xZ X (n:=n+3) d0 d1)))]
 rw [z6 (zY (zG (a:=1) (z4 rfl) rfl wB (ev1 (z4 rfl) (ev1 (z4 rfl) ev0)) (j9 X (n:=n+1) h0 h1 p2)))]
 rw [z6 (zX (j:=4) ec (zc rfl))]
 show zA _ _ [some (.ref 1),some (.int hd),some (.int i),some (.int j),some (.ref (r.length+17)),none] (S.hp r1)=_
 rw [z6 (Qm X (n:=n+5) rfl hs0)]
 have es:xC (S.s1.hp r1) (.ref (r.length+17))=some (.ref (r.length+17),is.length):=by
  show (match r1[r.length+2]? with | some (.list xs)=>some (Src.ref (r.length+17),xs.length) | _=>none)=_
  rw [hq]
  show some (_,(is.map AV.int).length)=_
  rw [List.length_map]
 have ef:=wO (en:=false) (x:=z5 4) (fr:=[some (.ref 1),some (.int hd),some (.int i),some (.int j),some (.ref (r.length+17)),none]) (z4 rfl) es e
 rw [z6 ef]
 exact zL (zd (zG (a:=1) (z4 rfl) rfl Zo (ev1 (z4 rfl) (ev1 rfl (ev1 (z4 rfl) ev0))) en))
end
noncomputable def Sh.mov (S:Sh) (i:Nat) (is:List Int):Sh:={ S with l:=S.l.take i++zj S.b.length is.length++S.l.drop i,b:=S.b++List.replicate is.length false,ow:=S.ow++is }
theorem Sh.mov_nil (S:Sh) (i:Nat):S.mov i []=S:=by
 obtain ⟨g0,g2,hands,l,b,ow,le,fi,mv,br,cu,dn,st⟩:=S
 simp [Sh.mov,zj]
theorem At.nextM {S:Sh} {i:Nat} {is:List Int} {y:Int} (hi:i≤S.l.length) (hlt:∀ x∈S.l,x<S.b.length):At (S.mov i (is++[y])).l (S.mov i (is++[y])).b (.int ((S.b.length+is.length:Nat):Int)) (i+(is.length+1)):=by
 have e1:(is++[y]).length=is.length+1:=by rw [zU];rfl
 refine .inr ⟨_,i+is.length,rfl,by lia,?_,?_,rfl⟩
 ·show _<(((S.b++List.replicate (is++[y]).length false).length:Nat):Int)
  rw [zU,List.length_replicate,e1];lia
 ·show (S.l.take i++zj S.b.length (is++[y]).length++S.l.drop i).findIdx? _=_
  rw [e1,q8,← List.append_assoc,List.append_assoc _ [_]]
  have:(S.l.take i++zj S.b.length is.length).length=i+is.length:=by rw [zU,List.length_take,yf];lia
  rw [← this]
  refine QU fun z hz=>?_
  rcases xN hz with hz | hz
  ·have:=hlt z (List.mem_of_mem_take hz);lia
  ·have:=(yn hz).2;lia
theorem z04 {α:Type} (k:Nat) (x:α):List.replicate k x++[x]=List.replicate (k+1) x:=List.replicate_succ'.symm
theorem Sg.mov {S:Sh} {mvs:List (List (Int×Int))} {cus:List (List Int)} (K:Sg S mvs cus) (hs:S.s1.st.length<200) {is:List Int} {i:Nat} (nd:is.Nodup) (hi:∀ i∈is,0≤i∧i<S.le.length) (hb:S.b.length+is.length<200):Sg (S.s1.mov i is) (yH S.st.length mvs S.b.length is) cus:=by
 have K1:=K.st1 hs
 have lb:(S.s1.mov i is).b.length=S.b.length+is.length:=by show (S.b++List.replicate is.length false).length=_;rw [zU,List.length_replicate]
 have at_:∀ ds∈yH S.st.length mvs S.b.length is,∃ es∈mvs,ds=es∨∃ k,k<is.length∧ds=es++[((S.st.length:Int),((S.b.length+k:Nat):Int))]:=fun ds hd=>by
  obtain ⟨j,hj,rfl⟩:=List.getElem_of_mem hd
  have e:=y6 hj
  obtain ⟨m1,m2⟩:=YS (d:=S.st.length) (j:=(j:Int)) (by lia) (mvs:=mvs) (n:=S.b.length) nd (fun i h=>by rw [K.mv];exact hi i h)
  rw [Int.toNat_natCast,e] at m1 m2
  have hj2:j<mvs.length:=by rw [← Zj S.st.length is mvs S.b.length];exact hj
  rw [y6 hj2] at m1 m2
  by_cases h:(j:Int)∈is
  ·obtain ⟨k,hk,hk2⟩:=List.getElem_of_mem h
   exact ⟨_,List.getElem_mem hj2,.inr ⟨k,hk,Option.some.inj (m2 k (by rw [y6 hk,hk2]))⟩⟩
  ·exact ⟨_,List.getElem_mem hj2,.inl (Option.some.inj (m1 h))⟩
 refine ⟨K.fi,K.br,by rw [Zj];exact K.mv,K.cu,fun x hx=>by rw [lb];exact ⟨(K.fr x hx).1,Xb _ (K.fr x hx).2⟩,fun ps hp p h=>?_,K1.dr,K1.bn,fun ds hd=>?_,K1.cs,K.sl,hs,by rw [lb];exact hb⟩
 ·rw [lb]
  obtain ⟨es,he,q | ⟨k,hk,q⟩⟩:=at_ ps hp
  ·rw [q] at h;obtain ⟨a,c,d⟩:=K1.mr es he p h;exact ⟨a,c,Xb _ d⟩
  ·rw [q] at h
   rcases xN h with h | h
   ·obtain ⟨a,c,d⟩:=K1.mr es he p h;exact ⟨a,c,Xb _ d⟩
   ·rw [xE h]
    exact ⟨⟨Int.natCast_nonneg _,jy⟩,Int.natCast_nonneg _,Int.ofNat_lt.mpr (Nat.add_lt_add_left hk _)⟩
 ·obtain ⟨es,he,q | ⟨k,hk,q⟩⟩:=at_ ds hd
  ·rw [q];exact K1.ps es he
  ·rw [q,zU];show _≤S.s1.st.length;rw [Qr];exact Nat.succ_le_succ (K.ps es he)
section
variable {T:Tab} {okf:Str→Str→Bool} (X:TT T okf) {n:Nat} {S:Sh} {r:Hp} {mvs:List (List (Int×Int))} {cus:List (List Int)}
include X
theorem zG6 (O:Ok1 S) (K:Sg S mvs cus) (D:Dy S mvs cus r) (hst:S.st.length=S.dn.length) (ndS:S.sh.Nodup) {hd i j p:Int} (d0:0≤hd) (d1:hd<S.hands) (h0:0≤i) (h1:i<j) (h2:j≤(tk S.b S.l).length) (p0:0≤p) (p1:p≤(tk S.b S.l).length) (hp:¬ (i<p∧p<j)) (hs:S.s1.st.length<200) (hb:S.b.length+10<200) (h5:j≤i+5) :
  ∃ r' x at_,tk S.b (S.l.take at_)=(tk S.b S.l).take p.toNat∧tk S.b (S.l.drop at_)=(tk S.b S.l).drop p.toNat∧at_≤S.l.length ∧
   run T (n+6) (.meth "Sheet" "move") [.ref 1,.int hd,.int i,.int j,.int p] (S.hp r)=.ok (.int S.dn.length) (({ S.s1.mov at_ ((S.sh.take j.toNat).drop i.toNat) with b:=yb S.s1 (yH S.st.length mvs S.b.length ((S.sh.take j.toNat).drop i.toNat)) cus (S.s1.mov at_ ((S.sh.take j.toNat).drop i.toNat)).b ((S.sh.take j.toNat).drop i.toNat),dn:=S.dn++[x] }:Sh).hp r') ∧
   Dy S.s1 (yH S.st.length mvs S.b.length ((S.sh.take j.toNat).drop i.toNat)) cus r'∧Kp S r r'∧∃ q':Nat,r.length≤q'∧x=.tup [.int hd,.str "move",.ref (q'+15)]∧r'[q']? = some (.list (((S.sh.take j.toNat).drop i.toNat).map AV.int)):=by
 have hs0:S.st.length<200:=Nat.lt_trans (Int.ofNat_lt.mp jy) hs
 have p2:j≤S.b.countP id:=by rw [← O.G.count];exact h2
 have p3:p≤S.b.countP id:=by rw [← O.G.count];exact p1
 have lis:((S.sh.take j.toNat).drop i.toNat).length≤5:=by rw [List.length_drop,List.length_take];exact zDo h0 h1 h5
 generalize his:(S.sh.take j.toNat).drop i.toNat=is at lis
 have hi:∀ x∈is,0≤x∧x<S.le.length:=by rw [← his];exact jZ O
 have nd:is.Nodup:=by rw [← his];exact (ndS.sublist (List.take_sublist _ _)).sublist (List.drop_sublist _ _)
 have ec:=Xk X (s:=0) (n:=n+1) (r:=r) O h0 h1 h2 (fr:=[some (.ref 1),some (.int hd),some (.int i),some (.int j),some (.int p),none,none,none]) (a:=2) (c:=3) rfl rfl rfl
 rw [his] at ec
 generalize hr1:r++[.list (S.l.map AV.int),.list (S.sh.map AV.int),.list (is.map AV.int)]=r1 at ec
 have hq:r1[r.length+2]? = some (AO.list (is.map AV.int)):=by rw [← hr1,x9];rfl
 have D1:Dy S.s1 mvs cus r1:=by rw [← hr1];have:=D.grow [.list (S.l.map AV.int),.list (S.sh.map AV.int),.list (is.map AV.int)];exact ⟨this.ml,this.cl,this.m,this.c,this.nd⟩
 obtain ⟨g,bh,at_,ea,hA,t1,t2⟩:=z23 X (n:=n+1) (S:=S) (r:=r1) O.G p0 p1
 have lt:=D.lt
 have hsl:=K.sl
 have hle:=O.G.len
 have hsm:=O.G.sm
 have haL:=hA.le
 have sm2:∀ {k:Nat},k<200→k<small:=fun h=>Nat.lt_trans h (by decide)
 obtain ⟨fr',h',e,r2,w6,w7,rfl,rfl,Dz,hq2,_,kp⟩:=xG (t:=.one 7) (src:=.ref (r.length+17)) (cf:=run T (n+5)) (xs:=is.map AV.int)
  (body:=(zA [(z9 okf (.names (.one 6)) (z8 (zE (z5 0) "row") "add" none [(z5 6)])),(zI (z8 (zE (z5 0) "owners") "append" (some .append) [(z5 7)])),(zI (z8 (zK (zE (z5 0) "moved") (z5 7)) "append" (some .append) [(yt [(zD (zB (some (.bi .len))) [(zE (z5 0) "done")]),(z5 6)])]))]))
  (fun k fr h=>∃ r2 w6 w7,fr=[some (.ref 1),some (.int hd),some (.int i),some (.int j),some (.int p),some (.ref (r.length+17)),some w6,w7]∧h=(S.s1.mov at_ (is.take k)).hp r2∧Dy S.s1 (yH S.st.length mvs S.b.length (is.take k)) cus r2∧r2[r.length+2]? = some (AO.list (is.map AV.int))∧At (S.s1.mov at_ (is.take k)).l (S.s1.mov at_ (is.take k)).b w6 (at_+k)∧Kp S r r2)
  (by
   rintro k fr h ⟨r2,w6,w7,rfl,rfl,_,hq2,_,_⟩
   show (match r2[r.length+2]? with | some (.list ys)=>some ys[k]? | _=>none)=_
   rw [hq2])
  (by
   rintro k x fr h ⟨r2,w6,w7,rfl,rfl,Dz,hq2,hAk,kp⟩ hx
   rw [List.getElem?_map] at hx
   obtain ⟨y,hyk,rfl⟩:=yC hx
   obtain ⟨y0,y1⟩:=hi y (yM hyk)
   have hk:k<is.length:=(yL hyk).1
   have lk:(is.take k).length=k:=by rw [List.length_take];exact Nat.min_eq_left (Nat.le_of_lt hk)
   have hbk:S.b.length+k<200:=Qi hb (Nat.le_trans (Nat.le_of_lt hk) (Nat.le_trans lis (by decide)))
   have Kz:=K.mov (i:=at_) hs (nd.sublist (List.take_sublist k is)) (fun z hz=>hi z (List.mem_of_mem_take hz)) (by rw [lk];exact hbk)
   have Dz':Dy (S.s1.mov at_ (is.take k)) (yH S.st.length mvs S.b.length (is.take k)) cus r2:=⟨Dz.ml,Dz.cl,Dz.m,Dz.c,Dz.nd⟩
   obtain ⟨f,ps,ds,v,km,kc,e1,e2,e3,e4,e5,e6,e7,e8⟩:=Kz.at_ Dz' y0 y1
   have hkm:km<r.length:=lt km (List.mem_append_left _ (yM (show S.mv[y.toNat]? = some km from e5)))
   have hps:ps.length≤S.s1.st.length:=Kz.ps ps (yM e2)
   have lb:(S.s1.mov at_ (is.take k)).b.length=S.b.length+k:=by show (S.b++List.replicate (is.take k).length false).length=_;rw [zU,List.length_replicate,lk]
   have ll:(S.s1.mov at_ (is.take k)).l.length=S.l.length+k:=by
    show (S.l.take at_++zj S.b.length (is.take k).length++S.l.drop at_).length=_
    rw [zU,zU,yf,lk,List.length_take,List.length_drop,Nat.min_eq_left haL,Nat.add_right_comm,Nat.add_sub_cancel' haL]
   have lo:(S.ow++is.take k).length=S.b.length+k:=by rw [zU,lk,O.ow]
   have D3:=Dz.setM (ps:=ps++[((S.st.length:Int),((S.b.length+k:Nat):Int))]) (show S.s1.mv[y.toNat]? = some km from e5)
   have e1k:is.take (k+1)=is.take k++[y]:=by rw [List.take_succ,hyk];rfl
   have eadd:=z26 X (n:=n+2) (o0:=(S.s1.mov at_ (is.take k)).g0) (o1:=.inst "Sheet" (fS (S.s1.mov at_ (is.take k)).hands)) (o2:=(S.s1.mov at_ (is.take k)).g2) (r:=(S.s1.mov at_ (is.take k)).tl r2) hAk (by rw [ll,hle];exact sm2 hbk) (by rw [lb];exact sm2 hbk)
   have eL:wa (S.s1.mov at_ (is.take k)).l (at_+k) ((S.b.length+k:Nat):Int)=(S.s1.mov at_ (is.take (k+1))).l:=by
    show wa (S.l.take at_++zj S.b.length (is.take k).length++S.l.drop at_) _ _=S.l.take at_++zj S.b.length (is.take (k+1)).length++S.l.drop at_
    rw [QO (by rw [List.length_take,yf,lk,Nat.min_eq_left haL]),e1k,zU,lk]
    show _=S.l.take at_++zj S.b.length (k+1)++S.l.drop at_
    rw [q8]
   have eB:(S.s1.mov at_ (is.take k)).b++[false]=(S.s1.mov at_ (is.take (k+1))).b:=by
    show S.b++List.replicate (is.take k).length false++[false]=S.b++List.replicate (is.take (k+1)).length false
    rw [e1k,zU,List.append_assoc,z04];rfl
   rw [lb,eL,eB] at eadd
   let S2:Sh:={ S.s1.mov at_ (is.take k) with l:=(S.s1.mov at_ (is.take (k+1))).l,b:=(S.s1.mov at_ (is.take (k+1))).b }
   have eO:(S.ow++is.take k).map AV.int++[AV.int y]=(S.s1.mov at_ (is.take (k+1))).ow.map AV.int:=by
    show _=(S.ow++is.take (k+1)).map AV.int
    rw [xO,e1k,List.append_assoc]
   have eS:{ S2 with ow:=(S.s1.mov at_ (is.take (k+1))).ow }=S.s1.mov at_ (is.take (k+1)):=rfl
   refine ⟨[some (.ref 1),some (.int hd),some (.int i),some (.int j),some (.int p),some (.ref (r.length+17)),some w6,some (.int y)],[some (.ref 1),some (.int hd),some (.int i),some (.int j),some (.int p),some (.ref (r.length+17)),some (.int ((S.b.length+k:Nat):Int)),some (.int y)],(S.s1.mov at_ (is.take (k+1))).hp (r2.set km (.list ((ps++[((S.st.length:Int),((S.b.length+k:Nat):Int))]).map pr))),rfl,?_,r2.set km (.list ((ps++[((S.st.length:Int),((S.b.length+k:Nat):Int))]).map pr)),_,_,rfl,rfl,?_,?_,?_,?_⟩
   ·rw [z6 (zX (j:=6) (zG (a:=3) (zO (z4 rfl) rfl kS2) rfl z0t (ev1 (z4 rfl) ev0) eadd) (zc rfl))]
    show zA _ _ [some (.ref 1),some (.int hd),some (.int i),some (.int j),some (.int p),some (.ref (r.length+17)),some (.int ((S.b.length+k:Nat):Int)),some (.int y)] (S2.hp r2)=_
    rw [z6 (j8 (a:=6) (zs:=(S.s1.mov at_ (is.take (k+1))).ow.map AV.int) rfl rfl kS3 rfl (z4 rfl) rfl (by rw [List.length_map];show (S.ow++is.take k).length<small;rw [lo];exact sm2 hbk) eO)]
    show zA _ _ _ ((S.s1.mov at_ (is.take (k+1))).hp r2)=_
    refine (z6 (zY (v:=.none) (j3 (a:=km+15) (zZ (zO (z4 rfl) rfl kS6) (z4 rfl) (qL (xs:=S.mv.map rf) rfl y0 (by lia) (by rw [List.getElem?_map,show S.mv[y.toNat]? = some km from e5];rfl))) e7 (ev1 (qH (ev1 (qq (a:=12) rfl rfl kS9 rfl hst.symm) (ev1 (z4 rfl) ev0))) ev0) ?_))).trans zF
    rw [q6,show ((S.s1.mov at_ (is.take (k+1))).hp r2)[km+15]? = some (.list (ps.map pr)) from e7]
    show (if (ps.map pr).length<small then _ else _)=_
    rw [if_pos (by rw [List.length_map];exact Nat.lt_of_le_of_lt hps (sm2 hs)),show (AV.tup [.int (S.st.length:Nat),.int ((S.b.length+k:Nat):Int)])=pr ((S.st.length:Int),((S.b.length+k:Nat):Int)) from rfl,xO]
    rfl
   ·rw [e1k,Q0,e2,lk]
    exact D3
   ·rw [List.getElem?_set_ne (Nat.ne_of_lt (Nat.lt_of_lt_of_le hkm (Nat.le_add_right _ _)))];exact hq2
   ·rw [e1k]
    have:=At.nextM (S:=S.s1) (i:=at_) (is:=is.take k) (y:=y) haL (fun x hx=>(O.G.rng x hx).2)
    rw [lk] at this
    exact this
   ·intro q o h1 h2 h3
    rw [List.getElem?_set_ne (fun (e:km=q)=>h1 (e▸yM (show S.mv[y.toNat]? = some km from e5)))]
    exact kp q o h1 h2 h3)
  (fr:=[some (.ref 1),some (.int hd),some (.int i),some (.int j),some (.int p),some (.ref (r.length+17)),some bh,none]) (h:=S.s1.hp (r1++g)) ⟨r1++g,bh,none,rfl,by rw [List.take_zero,Sh.mov_nil],by rw [List.take_zero];exact D1.grow g,zC hq,by rw [List.take_zero,Sh.mov_nil];exact hA,fun q o _ _ h=>by rw [← hr1];exact zC (zC h)⟩
 rw [List.length_map] at e Dz
 rw [List.take_length] at e Dz
 have Dz':Dy (S.s1.mov at_ is) (yH S.st.length mvs S.b.length is) cus r2:=⟨Dz.ml,Dz.cl,Dz.m,Dz.c,Dz.nd⟩
 obtain ⟨g2,en⟩:=Qy X (n:=n) (hd:=.int hd) (wd:=.str "move") (q:=r.length+2) (is:=is) (K.mov (i:=at_) hs nd hi (Qi hb (Nat.le_trans lis (by decide)))) Dz' hq2 hi (by show S.dn.length<200;rw [← hst];exact hs0)
 refine ⟨r2++g2,.tup [.int hd,.str "move",.ref (r.length+17)],at_,t1,t2,haL,?_,Dz.grow g2,fun q o h1 h2 h3=>zC (kp q o h1 h2 h3),r.length+2,Nat.le_add_right _ _,rfl,zC hq2⟩
 rw [zJ X.kBb]
 refine zN (fr:=[some (.ref 1),some (.int hd),some (.int i),some (.int j),some (.int p),none,none,none]) rfl rfl (fr':=[some (.ref 1),some (.int hd),some (.int i),some (.int j),some (.int p),some (.ref (r.length+17)),some w6,w7]) ?_
 unfold kBb
 dsimp only
 rw [z6 (zY (zG (a:=1) (z4 rfl) rfl yj (ev1 (z4 rfl) ev0) (xZ X (n:=n+3) d0 d1)))]
 rw [z6 (zY (zG (a:=1) (z4 rfl) rfl wB (ev1 (z4 rfl) (ev1 (z4 rfl) ev0)) (j9 X (n:=n+1) h0 h1 p2)))]
 rw [z6 (zY (zG (a:=1) (z4 rfl) rfl xd (ev1 (z4 rfl) ev0) (qV X (n:=n+2) p0 p3)))]
 have et:zQ (z5 2) [.Lt,.Lt] [(z5 4),(z5 3)] (run T (n+5)) [some (.ref 1),some (.int hd),some (.int i),some (.int j),some (.int p),none,none,none] (S.hp r)=.ok false (S.hp r):=by
  by_cases hip:i<p
  ·exact xF (z4 rfl) (z4 rfl) (by rw [yS,decide_eq_true hip]) (z4 rfl) (by rw [yS,decide_eq_false fun q=>hp ⟨hip,q⟩])
  ·exact ZJ (z4 rfl) (z4 rfl) (by rw [yS,decide_eq_false hip])
 rw [z6 ((zH et).trans zF)]
 rw [z6 (zX (j:=5) ec (zc rfl))]
 rw [z6 (zX (j:=6) (zG (a:=1) (z4 rfl) rfl jA (ev1 (z4 rfl) ev0) ea) (zc rfl))]
 show zA _ _ [some (.ref 1),some (.int hd),some (.int i),some (.int j),some (.int p),some (.ref (r.length+17)),some bh,none] (S.hp (r1++g))=_
 rw [z6 (Qm X (n:=n+5) rfl (hs0))]
 have es:xC (S.s1.hp (r1++g)) (.ref (r.length+17))=some (.ref (r.length+17),is.length):=by
  show (match (r1++g)[r.length+2]? with | some (.list xs)=>some (Src.ref (r.length+17),xs.length) | _=>none)=_
  rw [zC hq]
  show some (_,(is.map AV.int).length)=_
  rw [List.length_map]
 have ef:=wO (en:=false) (x:=z5 5) (fr:=[some (.ref 1),some (.int hd),some (.int i),some (.int j),some (.int p),some (.ref (r.length+17)),some bh,none]) (z4 rfl) es e
 rw [z6 ef]
 exact zL (zd (zG (a:=1) (z4 rfl) rfl Zo (ev1 (z4 rfl) (ev1 rfl (ev1 (z4 rfl) ev0))) en))
end
theorem WD {b:List Bool} {x y:Int} {v:Bool} (hx:0≤x) (hy:0≤y) (hl:y<b.length):fl (b.set y.toNat v) x=if x=y then v else fl b x:=by
 unfold fl
 by_cases h:x=y
 ·subst h
  rw [if_pos rfl,List.getElem?_set_self (by lia)];rfl
 ·rw [if_neg h,List.getElem?_set_ne (fun e=>h (XC hx hy e.symm))]
theorem zEe {x:Int} (hx:0≤x) {xs:List Int}:∀ {b:List Bool},(∀ y∈xs,0≤y∧y<b.length)→fl (wR b xs) x=if x∈xs then false else fl b x:=by
 induction xs with
 | nil=>intro b _;rw [if_neg List.not_mem_nil];rfl
 | cons y xs ih =>
  intro b hr
  obtain ⟨y0,y1⟩:=hr y (.head _)
  show fl (wR (b.set y.toNat false) xs) x=_
  rw [ih fun z hz=>by rw [List.length_set];exact hr z (.tail _ hz),WD hx y0 y1]
  by_cases h1:x∈xs
  ·rw [if_pos h1,if_pos (.tail _ h1)]
  ·rw [if_neg h1]
   by_cases h2:x=y
   ·rw [if_pos h2,if_pos (h2▸.head _)]
   ·rw [if_neg h2,if_neg fun q=>by
     rcases List.mem_cons.mp q with q | q
     ·exact h2 q
     ·exact h1 q]
noncomputable def gI (l:List Int) (x:Int):Int:=l[x.toNat]?.getD 0
noncomputable def gM (l:List (List (Int×Int))) (x:Int):List (Int×Int):=l[x.toNat]?.getD []
noncomputable def inS (fi:List Int) (mvs:List (List (Int×Int))) (x i:Int):Prop:=x=gI fi i∨∃ p∈gM mvs i,p.2=x
noncomputable def gC (l:List (List Int)) (x:Int):List Int:=l[x.toNat]?.getD []
theorem WE {S:Sh} {mvs:List (List (Int×Int))} {i:Int}:inS S.fi mvs (S.cur mvs i) i:=(Zq (st:=S.st) (gM mvs i) (gI S.fi i)).imp id fun ⟨p,hp,h⟩=>⟨p,hp,h.symm⟩
noncomputable def Sh.tgt (S:Sh) (mvs:List (List (Int×Int))) (cus:List (List Int)) (x:Int):Bool:=S.shw cus (gI S.ow x) && decide (x=S.cur mvs (gI S.ow x))
structure Own (S:Sh) (mvs:List (List (Int×Int))):Prop where
 seats:∀ (x:Int),0≤x→x<S.b.length→inS S.fi mvs x (gI S.ow x)
 back:∀ (i:Int),0≤i→i<S.le.length→∀ (x:Int),inS S.fi mvs x i→gI S.ow x=i∧0≤x∧x<S.b.length
theorem Jx {S:Sh} {mvs:List (List (Int×Int))} (W:Own S mvs) {cus:List (List Int)} {b:List Bool} (hb:b.length=S.b.length) {x i:Int} (x0:0≤x) (x1:x<S.b.length) (i0:0≤i) (i1:i<S.le.length) :
  fl (jz S mvs cus b i) x=if gI S.ow x=i then S.tgt mvs cus x else fl b x:=by
 have f:=W.back i i0 i1 _ (.inl rfl)
 have c:=W.back i i0 i1 _ WE
 have hb1:(b.set (gI S.fi i).toNat false).length=S.b.length:=List.length_set.trans hb
 have off:fl (wR (b.set (gI S.fi i).toNat false) ((gM mvs i).map (·.2))) x=if gI S.ow x=i then false else fl b x:=by
  rw [zEe x0 (fun y hy=>by
   obtain ⟨p,hp,rfl⟩:=List.mem_map.mp hy
   rw [hb1];exact (W.back i i0 i1 _ (.inr ⟨p,hp,rfl⟩)).2),WD x0 f.2.1 (by rw [hb];exact f.2.2)]
  by_cases h:gI S.ow x=i
  ·rw [if_pos h]
   rcases h▸W.seats x x0 x1 with q | ⟨p,hp,q⟩
   ·rw [if_pos q]
    split <;> rfl
   ·rw [if_pos (List.mem_map.mpr ⟨p,hp,q⟩)]
  ·rw [if_neg h,if_neg fun q=>by
    obtain ⟨p,hp,q⟩:=List.mem_map.mp q
    exact h (W.back i i0 i1 x (.inr ⟨p,hp,q⟩)).1,if_neg fun q=>h (W.back i i0 i1 x (.inl q)).1]
 have e:jz S mvs cus b i=bif S.shw cus i then (wR (b.set (gI S.fi i).toNat false) ((gM mvs i).map (·.2))).set (S.cur mvs i).toNat true else wR (b.set (gI S.fi i).toNat false) ((gM mvs i).map (·.2)):=rfl
 rw [e]
 unfold Sh.tgt
 cases hc:S.shw cus i with
 | true =>
  show fl (List.set _ _ _) x=_
  rw [WD x0 c.2.1 (by rw [wQ,hb1];exact c.2.2),off]
  by_cases h:gI S.ow x=i
  ·rw [if_pos h,if_pos h,h,hc,Bool.true_and]
   by_cases q:x=S.cur mvs i
   ·rw [if_pos q,decide_eq_true q]
   ·rw [if_neg q,decide_eq_false q]
  ·rw [if_neg h,if_neg h,if_neg (fun (q:x=S.cur mvs i)=>h (by rw [q];exact c.1))]
 | false =>
  show fl (wR _ _) x=_
  rw [off]
  by_cases h:gI S.ow x=i
  ·rw [if_pos h,if_pos h,h,hc,Bool.false_and]
  ·rw [if_neg h,if_neg h]
theorem Jw {S:Sh} {mvs:List (List (Int×Int))} (W:Own S mvs) {cus:List (List Int)} {x:Int} (x0:0≤x) (x1:x<S.b.length) {is:List Int}:∀ {b:List Bool},b.length=S.b.length→(∀ i∈is,0≤i∧i<S.le.length) →
  fl (yb S mvs cus b is) x=if gI S.ow x∈is then S.tgt mvs cus x else fl b x:=by
 induction is with
 | nil=>intro b _ _;rw [if_neg List.not_mem_nil];rfl
 | cons i is ih =>
  intro b hb hi
  obtain ⟨i0,i1⟩:=hi i (.head _)
  show fl (yb S mvs cus (jz S mvs cus b i) is) x=_
  rw [ih ((YL b i).trans hb) fun j hj=>hi j (.tail _ hj),Jx W hb x0 x1 i0 i1]
  by_cases h1:gI S.ow x∈is
  ·rw [if_pos h1,if_pos (.tail _ h1)]
  ·rw [if_neg h1]
   by_cases h2:gI S.ow x=i
   ·rw [if_pos h2,if_pos (h2▸.head _)]
   ·rw [if_neg h2,if_neg fun q=>by
     rcases List.mem_cons.mp q with q | q
     ·exact h2 q
     ·exact h1 q]
structure Iw (S:Sh) (mvs:List (List (Int×Int))) (cus:List (List Int)) (sg:List (List Int)):Prop where
 O:Ok1 S
 K:Sg S mvs cus
 W:Own S mvs
 st:S.st.length=S.dn.length
 sl:sg.length=S.dn.length
 sr:∀ us∈sg,∀ i∈us,0≤i∧i<S.le.length
 dc:∀ i:Int,0≤i→i<S.le.length→∀ d∈gC cus i,i∈gC sg d
 dm:∀ i:Int,0≤i→i<S.le.length→∀ p∈gM mvs i,i∈gC sg p.1
 db:∀ i d:Int,0≤i→i<S.le.length→S.br[i.toNat]? = some (.int d)→i∈gC sg d
structure Iv (S:Sh) (mvs:List (List (Int×Int))) (cus:List (List Int)) (sg:List (List Int)):Prop where
 I:Iw S mvs cus sg
 flag:∀ (x:Int),0≤x→x<S.b.length→fl S.b x=S.tgt mvs cus x
section
variable {S:Sh} {mvs:List (List (Int×Int))} {cus sg:List (List Int)}
theorem Iw.wb (I:Iw S mvs cus sg) {b:List Bool} (h:b.length=S.b.length):Iw (S.wb b) mvs cus sg :=
 ⟨⟨⟨by show S.l.Perm ((List.range b.length).map _);rw [h];exact I.O.G.perm,by show b.length<200;rw [h];exact I.O.G.sm⟩,I.O.ow.trans h.symm,I.O.own,I.O.le⟩,I.K.wb h,
  ⟨fun x x0 x1=>I.W.seats x x0 (by rw [← h];exact x1),fun i i0 i1 x hx=>by show _∧0≤x∧x<(b.length:Int);rw [h];exact I.W.back i i0 i1 x hx⟩,I.st,I.sl,I.sr,I.dc,I.dm,I.db⟩
theorem Iw.seat (I:Iw S mvs cus sg) {is:List Int} (hi:∀ i∈is,0≤i∧i<S.le.length) (hf:∀ x:Int,0≤x→x<S.b.length→gI S.ow x∉is→fl S.b x=S.tgt mvs cus x):Iv (S.wb (yb S mvs cus S.b is)) mvs cus sg:=by
 have hl:(yb S mvs cus S.b is).length=S.b.length:=xX _ _
 refine ⟨I.wb hl,fun x x0 x1=>?_⟩
 have x1:x<S.b.length:=by rw [← hl];exact x1
 refine (Jw I.W x0 x1 rfl hi).trans ?_
 by_cases h:gI S.ow x∈is
 ·rw [if_pos h];rfl
 ·rw [if_neg h];exact hf x x0 x1 h
variable (V:Iv S mvs cus sg)
include V
theorem Iv.tk_mem {x:Int} (h:x∈tk S.b S.l):(0≤x∧x<S.b.length)∧S.shw cus (gI S.ow x)=true∧x=S.cur mvs (gI S.ow x):=by
 obtain ⟨h1,h2⟩:=List.mem_filter.mp h
 obtain ⟨x0,x1⟩:=V.I.O.G.rng x h1
 rw [V.flag x x0 x1] at h2
 obtain ⟨a,c⟩:=Bool.and_eq_true_iff.mp h2
 exact ⟨⟨x0,x1⟩,a,of_decide_eq_true c⟩
theorem Iv.sh_nodup:S.sh.Nodup:=by
 show ((tk S.b S.l).map fun x=>gI S.ow x).Nodup
 have nd:(tk S.b S.l).Nodup:=V.I.O.G.nodup.filter _
 rw [List.nodup_iff_pairwise_ne,List.pairwise_map]
 refine List.Pairwise.imp_of_mem (fun {x y} hx hy hne e=>hne ?_) (List.nodup_iff_pairwise_ne.mp nd)
 have a:=(V.tk_mem hx).2.2
 have c:=(V.tk_mem hy).2.2
 rw [a,c,e]
end
section
variable {S:Sh} {mvs:List (List (Int×Int))} {cus sg:List (List Int)}
theorem Iw.own_at (I:Iw S mvs cus sg) {x:Int} (x0:0≤x) (x1:x<S.b.length):0≤gI S.ow x∧gI S.ow x<S.le.length:=by
 have h2:x.toNat<S.ow.length:=by rw [I.O.ow];exact jO x0 x1
 unfold gI
 rw [y6 h2]
 exact I.O.own _ (List.getElem_mem h2)
theorem XJ {st st':List Bool} {ps:List (Int×Int)}:∀ {f:Int},(∀ p∈ps,fl st p.1=fl st' p.1)→yQ st f ps=yQ st' f ps:=by
 induction ps with
 | nil=>intro f _;rfl
 | cons p ps ih =>
  intro f h
  show yQ st (if fl st p.1 then p.2 else f) ps=yQ st' (if fl st' p.1 then p.2 else f) ps
  rw [h p (.head _)]
  exact ih fun q hq=>h q (.tail _ hq)
theorem wi {S':Sh} {mvs':List (List (Int×Int))} {cus':List (List Int)} {x i:Int} (e0:gI S.ow x=i) (e1:gI S'.ow x=i) (ef:gI S'.fi i=gI S.fi i) (em:gM mvs' i=gM mvs i) (ec:gC cus' i=gC cus i) (eb:S'.br[i.toNat]? = S.br[i.toNat]?)
  (hc:∀ d∈gC cus i,fl S.st d=fl S'.st d) (hm:∀ p∈gM mvs i,fl S.st p.1=fl S'.st p.1) (hb:∀ d,S.br[i.toNat]? = some (.int d)→fl S.st d=fl S'.st d):S.tgt mvs cus x=S'.tgt mvs' cus' x:=by
 have c1:S.cur mvs i=S'.cur mvs' i:=by
  show yQ S.st (gI S.fi i) (gM mvs i)=yQ S'.st (gI S'.fi i) (gM mvs' i)
  rw [ef,em];exact XJ hm
 have c2:S.shw cus i=S'.shw cus' i:=by
  show (WI S.st (S.br[i.toNat]?.getD .none) && !(gC cus i).any (fl S.st))=(WI S'.st (S'.br[i.toNat]?.getD .none) && !(gC cus' i).any (fl S'.st))
  have a1:(gC cus i).any (fl S.st)=(gC cus i).any (fl S'.st):=by
   rw [Bool.eq_iff_iff,List.any_eq_true,List.any_eq_true]
   exact ⟨fun ⟨d,h,e⟩=>⟨d,h,by rw [← hc d h];exact e⟩,fun ⟨d,h,e⟩=>⟨d,h,by rw [hc d h];exact e⟩⟩
  rw [ec,eb,a1]
  congr 1
  cases h:S.br[i.toNat]? with
  | none=>rfl
  | some v =>
   cases v with
   | int d=>exact hb d h
   | _=>rfl
 unfold Sh.tgt
 rw [e0,e1,c1,c2]
theorem ZP {st:List Bool} {d:Int} (h0:0≤d) (h1:d<st.length):fl st d=fl (st++[true]) d:=by
 unfold fl;rw [List.getElem?_append_left (jO h0 h1)]
end
theorem wZ {a k j:Nat} (h:j<k):(zj a k)[j]? = some ((a+j:Nat):Int):=by
 unfold zj
 rw [List.getElem?_map,List.getElem?_range h];rfl
theorem xx {l m:List Int} {x:Int} (h0:0≤x) (h1:x<l.length):gI (l++m) x=gI l x:=by
 unfold gI;rw [List.getElem?_append_left (jO h0 h1)]
theorem qM {l m:List Int} {x v:Int} {j:Nat} (h0:x=((l.length+j:Nat):Int)) (h1:m[j]? = some v):gI (l++m) x=v:=by
 unfold gI
 rw [h0,Int.toNat_natCast,List.getElem?_append_right (Nat.le_add_right _ _),Nat.add_sub_cancel_left,h1];rfl
theorem Zv {mvs:List (List (Int×Int))} {k:Nat} {i:Int}:gM (mvs++List.replicate k []) i=gM mvs i:=by
 unfold gM
 by_cases h:i.toNat<mvs.length
 ·rw [List.getElem?_append_left h]
 ·rw [List.getElem?_append_right (by lia),List.getElem?_eq_none (l:=mvs) (by lia),List.getElem?_replicate]
  split <;> rfl
theorem QQ {l:List Int} {b b':List Bool} (G:Good l b) {i k:Nat} (h:b'.length=b.length+k) (hs:b'.length<200):Good (l.take i++zj b.length k++l.drop i) b':=by
 refine ⟨?_,hs⟩
 have e:(List.range b'.length).map (fun (k:Nat)=>(k:Int))=(List.range b.length).map (fun (k:Nat)=>(k:Int))++zj b.length k:=by
  rw [h,List.range_add,List.map_append,List.map_map];rfl
 rw [e]
 have p1:(l.take i++zj b.length k++l.drop i).Perm (l++zj b.length k):=by
  rw [List.append_assoc]
  conv=>rhs;rw [← List.take_append_drop i l,List.append_assoc]
  exact List.Perm.append_left _ List.perm_append_comm
 exact p1.trans (G.perm.append_right _)
theorem z0q {l m:List Int} {k n:Nat} (hl:l.length=n) (hm:m.length=k):(zj n k).map (fun x=>gI (l++m) x)=m:=by
 apply List.ext_getElem?
 intro j
 rw [List.getElem?_map]
 by_cases h:j<k
 ·rw [wZ h]
  have:=y6 (l:=m) (i:=j) (by lia)
  rw [this]
  exact congrArg some (qM (j:=j) (by rw [hl]) this)
 ·rw [List.getElem?_eq_none (by rw [yf];lia),List.getElem?_eq_none (by lia)];rfl
theorem WC {cus:List (List Int)} {k:Nat} {i:Int}:gC (cus++List.replicate k []) i=gC cus i:=by
 unfold gC
 by_cases h:i.toNat<cus.length
 ·rw [List.getElem?_append_left h]
 ·rw [List.getElem?_append_right (Nat.not_lt.mp h),List.getElem?_eq_none (l:=cus) (Nat.not_lt.mp h),List.getElem?_replicate]
  split <;> rfl
theorem xQ {sg:List (List Int)} {us:List Int} {i d:Int} (h:i∈gC sg d):i∈gC (sg++[us]) d:=by
 unfold gC at h ⊢
 cases e:sg[d.toNat]? with
 | none=>rw [e] at h;cases h
 | some vs=>rw [e] at h;rw [List.getElem?_append_left (yL e).1,e];exact h
theorem XO {sg:List (List Int)} {us:List Int} {n:Nat} (h:sg.length=n):gC (sg++[us]) (n:Int)=us:=by
 unfold gC;rw [Int.toNat_natCast,← h,List.getElem?_append_right (Nat.le_refl _),Nat.sub_self];rfl
theorem z1d {l:List (List Int)} {i d:Int} (h:d∈gC l i):i.toNat<l.length:=by
 unfold gC at h
 cases e:l[i.toNat]? with
 | none=>rw [e] at h;cases h
 | some vs=>exact (yL e).1
theorem z1b {l:List (List (Int×Int))} {i:Int} {p:Int×Int} (h:p∈gM l i):i.toNat<l.length:=by
 unfold gM at h
 cases e:l[i.toNat]? with
 | none=>rw [e] at h;cases h
 | some vs=>exact (yL e).1
noncomputable abbrev Sh.sd (S:Sh) (x:AV):Sh:={ S with st:=S.st++[true],dn:=S.dn++[x] }
theorem Sg.sd {S:Sh} {mvs:List (List (Int×Int))} {cus:List (List Int)} (K:Sg S mvs cus) (h:S.s1.st.length<200) (x:AV):Sg (S.sd x) mvs cus :=
 have K:=K.st1 h
 ⟨K.fi,K.br,K.mv,K.cu,K.fr,K.mr,K.dr,K.bn,K.ps,K.cs,K.sl,K.st,K.sb⟩
section
variable {S:Sh} {mvs:List (List (Int×Int))} {cus sg:List (List Int)} (I:Iw S mvs cus sg) {i q:Nat} {x:AV} {d:AV} {cs:List Nat}
include I
theorem Iw.put_own:Own ((S.sd x).adds i d q cs) (mvs++List.replicate cs.length []):=by
 have lb:((S.sd x).adds i d q cs).b.length=S.b.length+cs.length:=by show (S.b++List.replicate cs.length true).length=_;rw [zU,List.length_replicate]
 have ll:((S.sd x).adds i d q cs).le.length=S.le.length+cs.length:=zU
 have hf:=I.K.fi
 have ho:=I.O.ow
 have new:∀ j,j<cs.length→gI (S.ow++zj S.le.length cs.length) ((S.b.length+j:Nat):Int)=((S.le.length+j:Nat):Int)∧gI (S.fi++zj S.b.length cs.length) ((S.le.length+j:Nat):Int)=((S.b.length+j:Nat):Int):=fun j hj =>
  ⟨qM (by rw [ho]) (wZ hj),qM (by rw [hf]) (wZ hj)⟩
 refine ⟨fun x x0 x1=>?_,fun s s0 s1 x hx=>?_⟩
 ·rw [lb] at x1
  show inS (S.fi++zj S.b.length cs.length) _ x (gI (S.ow++zj S.le.length cs.length) x)
  by_cases h:x<S.b.length
  ·obtain ⟨a,c⟩:=I.own_at x0 h
   rw [xx x0 (by rw [ho];exact h)]
   unfold inS
   rw [xx a (by rw [hf];exact c),Zv]
   exact I.W.seats x x0 h
  ·obtain ⟨e1,e2⟩:=new (x.toNat - S.b.length) (Yo x0 x1 h)
   have ex:((S.b.length+(x.toNat - S.b.length):Nat):Int)=x:=Y9 x0 h
   rw [ex] at e1 e2
   rw [e1]
   exact .inl e2.symm
 ·rw [ll] at s1
  rw [lb]
  show gI (S.ow++zj S.le.length cs.length) x=s∧_
  have hx':x=gI (S.fi++zj S.b.length cs.length) s∨∃ p∈gM (mvs++List.replicate cs.length []) s,p.2=x:=hx
  rw [Zv] at hx'
  by_cases h:s<S.le.length
  ·rw [xx s0 (by rw [hf];exact h)] at hx'
   obtain ⟨a,c,e⟩:=I.W.back s s0 h x hx'
   rw [xx c (by rw [ho];exact e)]
   exact ⟨a,c,Xb _ e⟩
  ·obtain ⟨e1,e2⟩:=new (s.toNat - S.le.length) (Yo s0 s1 h)
   have es:((S.le.length+(s.toNat - S.le.length):Nat):Int)=s:=Y9 s0 h
   rw [es] at e1 e2
   rw [e2] at hx'
   have hm:gM mvs s=[]:=by
    unfold gM
    rw [List.getElem?_eq_none (by rw [I.K.mv];lia)];rfl
   rw [hm] at hx'
   rcases hx' with hx' | ⟨p,hp,_⟩
   ·subst hx'
    exact ⟨e1,Int.natCast_nonneg _,Int.ofNat_lt.mpr (Nat.add_lt_add_left (Yo s0 s1 h) _)⟩
   ·cases hp
theorem Iw.fls {j:Int}:(∀ d∈gC cus j,fl S.st d=fl (S.st++[true]) d)∧(∀ p∈gM mvs j,fl S.st p.1=fl (S.st++[true]) p.1)∧∀ d,S.br[j.toNat]? = some (.int d)→fl S.st d=fl (S.st++[true]) d:=by
 refine ⟨fun d hd=>?_,fun p hp=>?_,fun d hd=>?_⟩
 ·have e:=y6 (z1d hd)
  obtain ⟨q0,q1⟩:=I.K.dr _ (yM e) d (by unfold gC at hd;rw [e] at hd;exact hd)
  exact ZP q0 q1
 ·have e:=y6 (z1b hp)
  obtain ⟨⟨q0,q1⟩,_⟩:=I.K.mr _ (yM e) p (by unfold gM at hp;rw [e] at hp;exact hp)
  exact ZP q0 q1
 ·rcases I.K.bn _ (yM hd) with q | ⟨d',q,q0,q1⟩
  ·cases q
  ·cases q;exact ZP q0 q1
theorem Iw.put_new {y:Int} (y0:0≤y) (h:¬ y<S.b.length) (y1:y<((S.b.length+cs.length:Nat):Int)):gI (S.ow++zj S.le.length cs.length) y∈zj S.le.length cs.length:=by
 have hj:=Yo y0 y1 h
 rw [qM (j:=y.toNat - S.b.length) (by rw [I.O.ow];exact (Y9 y0 h).symm) (wZ hj)]
 exact List.mem_map.mpr ⟨_,List.mem_range.mpr hj,rfl⟩
theorem Iw.put (hs:S.s1.st.length<200) (hb:S.b.length+cs.length<200) (he:S.le.length+cs.length<200) :
  Iw ((S.sd x).adds i (.int S.dn.length) q cs) (mvs++List.replicate cs.length []) (cus++List.replicate cs.length []) (sg++[zj S.le.length cs.length]):=by
 have hst:=I.st
 have K2:=(I.K.sd hs x).adds (i:=i) (q:=q) (d:=S.dn.length) (cs:=cs) ⟨Int.natCast_nonneg _,by rw [← hst];exact jy⟩ hb he
 have lb:((S.sd x).adds i (.int S.dn.length) q cs).b.length=S.b.length+cs.length:=by show (S.b++List.replicate cs.length true).length=_;rw [zU,List.length_replicate]
 have ll:((S.sd x).adds i (.int S.dn.length) q cs).le.length=S.le.length+cs.length:=zU
 have ls:sg.length=S.dn.length:=I.sl
 refine ⟨⟨QQ I.O.G lb (by rw [lb];exact hb),?_,?_,K2.sl⟩,K2,I.put_own,?_,?_,fun us hu j hj=>?_,fun j j0 j1 d hd=>?_,fun j j0 j1 p hp=>?_,fun j d j0 j1 hd=>?_⟩
 ·rw [lb];show (S.ow++zj S.le.length cs.length).length=_
  rw [zU,yf,I.O.ow]
 ·intro j hj
  rw [ll]
  rcases xN (show j∈S.ow++zj S.le.length cs.length from hj) with hj | hj
  ·exact ⟨(I.O.own j hj).1,Xb _ (I.O.own j hj).2⟩
  ·exact ⟨Int.le_trans (Int.natCast_nonneg _) (yn hj).1,(yn hj).2⟩
 ·show (S.st++[true]).length=(S.dn++[x]).length
  rw [zU,zU,hst];rfl
 ·show (sg++[_]).length=(S.dn++[x]).length
  rw [zU,zU,ls];rfl
 ·rw [ll]
  rcases xN hu with hu | hu
  ·exact ⟨(I.sr us hu j hj).1,Xb _ (I.sr us hu j hj).2⟩
  ·rw [xE hu] at hj
   exact ⟨Int.le_trans (Int.natCast_nonneg _) (yn hj).1,(yn hj).2⟩
 ·rw [WC] at hd
  exact xQ (I.dc j j0 ((Int.toNat_lt j0).mp (I.K.cu▸z1d hd)) d hd)
 ·rw [Zv] at hp
  exact xQ (I.dm j j0 ((Int.toNat_lt j0).mp (I.K.mv▸z1b hp)) p hp)
 ·have hd:(S.br++List.replicate cs.length (AV.int S.dn.length))[j.toNat]? = some (.int d):=hd
  rcases jd hd with ⟨a,c⟩ | ⟨a,c⟩
  ·exact xQ (I.db j d j0 ((Int.toNat_lt j0).mp (I.K.br▸a)) c)
  ·rw [I.K.br] at a c
   rw [List.getElem?_replicate] at c
   obtain ⟨h1,h2⟩:=jo c
   cases h2
   rw [XO ls]
   exact List.mem_map.mpr ⟨_,List.mem_range.mpr h1,Y9 j0 (fun q=>absurd (jO j0 q) (Nat.not_lt.mpr a))⟩
omit I
theorem Iv.put (V:Iv S mvs cus sg) (hs:S.s1.st.length<200) (hb:S.b.length+cs.length<200) (he:S.le.length+cs.length<200) :
  Iv ({ S.s1.adds i (.int S.dn.length) q cs with b:=yb (S.s1.adds i (.int S.dn.length) q cs) (mvs++List.replicate cs.length []) (cus++List.replicate cs.length []) (S.s1.adds i (.int S.dn.length) q cs).b (zj S.le.length cs.length),dn:=S.dn++[x] }:Sh) (mvs++List.replicate cs.length []) (cus++List.replicate cs.length []) (sg++[zj S.le.length cs.length]):=by
 have I:=V.I
 have I2:=I.put (i:=i) (q:=q) (x:=x) (cs:=cs) hs hb he
 have lb:((S.sd x).adds i (.int S.dn.length) q cs).b.length=S.b.length+cs.length:=by show (S.b++List.replicate cs.length true).length=_;rw [zU,List.length_replicate]
 refine I2.seat (is:=zj S.le.length cs.length) (fun j hj=>I2.sr _ (List.mem_append_right _ (List.mem_singleton.mpr rfl)) j hj) fun y y0 y1 hn=>?_
 by_cases h:y<S.b.length
 ·obtain ⟨a,c⟩:=I.own_at y0 h
  have e:fl (S.b++List.replicate cs.length true) y=fl S.b y:=by unfold fl;rw [List.getElem?_append_left (jO y0 h)]
  refine (e.trans (V.flag y y0 h)).trans ?_
  refine wi rfl (xx y0 (by rw [I.O.ow];exact h)) (xx a (by rw [I.K.fi];exact c)) Zv WC (List.getElem?_append_left (by rw [I.K.br];exact jO a c)) I.fls.1 I.fls.2.1 I.fls.2.2
 ·exact absurd (I.put_new y0 h (by rw [← lb];exact y1)) hn
end
section
variable {S:Sh} {mvs:List (List (Int×Int))} {cus sg:List (List Int)} {is:List Int} {x:AV}
theorem Iw.cut_at (I:Iw S mvs cus sg) (nd:is.Nodup) (hi:∀ i∈is,0≤i∧i<S.le.length) {j:Int} (j0:0≤j):gC (yq S.st.length cus is) j=if j∈is then gC cus j++[(S.st.length:Int)] else gC cus j:=by
 unfold gC
 rw [Yc (d:=S.st.length) j0 nd (fun i h=>by rw [I.K.cu];exact hi i h)]
 by_cases h:j∈is
 ·rw [if_pos h,if_pos h,y6 (l:=cus) (i:=j.toNat) (by rw [I.K.cu];exact jO (hi j h).1 (hi j h).2)];rfl
 ·rw [if_neg h,if_neg h]
theorem Iw.cut (I:Iw S mvs cus sg) (nd:is.Nodup) (hi:∀ i∈is,0≤i∧i<S.le.length) (hs:S.s1.st.length<200):Iw (S.sd x) mvs (yq S.st.length cus is) (sg++[is]):=by
 have K:=I.K.cut hs nd hi
 have ls:sg.length=S.st.length:=I.sl.trans I.st.symm
 refine ⟨⟨I.O.G,I.O.ow,I.O.own,I.O.le⟩,⟨K.fi,K.br,K.mv,K.cu,K.fr,K.mr,K.dr,K.bn,K.ps,K.cs,K.sl,K.st,K.sb⟩,⟨I.W.seats,I.W.back⟩,?_,?_,fun us hu j hj=>?_,fun j j0 j1 d hd=>?_,fun j j0 j1 p hp=>xQ (I.dm j j0 j1 p hp),fun j d j0 j1 hd=>xQ (I.db j d j0 j1 hd)⟩
 ·show (S.st++[true]).length=(S.dn++[x]).length
  rw [zU,zU,I.st];rfl
 ·show (sg++[_]).length=(S.dn++[x]).length
  rw [zU,zU,I.sl];rfl
 ·rcases xN hu with hu | hu
  ·exact I.sr us hu j hj
  ·rw [xE hu] at hj;exact hi j hj
 ·rw [I.cut_at nd hi j0] at hd
  by_cases h:j∈is
  ·rw [if_pos h] at hd
   rcases xN hd with hd | hd
   ·exact xQ (I.dc j j0 j1 d hd)
   ·rw [xE hd,XO ls];exact h
  ·rw [if_neg h] at hd;exact xQ (I.dc j j0 j1 d hd)
theorem Iv.cut (V:Iv S mvs cus sg) (nd:is.Nodup) (hi:∀ i∈is,0≤i∧i<S.le.length) (hs:S.s1.st.length<200) :
  Iv ({ S.s1 with b:=yb S.s1 mvs (yq S.st.length cus is) S.b is,dn:=S.dn++[x] }:Sh) mvs (yq S.st.length cus is) (sg++[is]):=by
 have I:=V.I
 refine (I.cut (x:=x) nd hi hs).seat (is:=is) hi fun y y0 y1 hn=>(V.flag y y0 y1).trans ?_
 exact wi rfl rfl rfl rfl ((I.cut_at nd hi (I.own_at y0 y1).1).trans (if_neg hn)) rfl I.fls.1 I.fls.2.1 I.fls.2.2
end
section
variable {S:Sh} {mvs:List (List (Int×Int))} {cus sg:List (List Int)} (I:Iw S mvs cus sg) {a:Nat} {is:List Int} {x:AV}
include I
theorem Iw.mv_at (nd:is.Nodup) (hi:∀ i∈is,0≤i∧i<S.le.length) {s:Int} (s0:0≤s) :
  (s∉is→gM (yH S.st.length mvs S.b.length is) s=gM mvs s)∧∀ k:Nat,is[k]? = some s→gM (yH S.st.length mvs S.b.length is) s=gM mvs s++[((S.st.length:Int),((S.b.length+k:Nat):Int))]:=by
 obtain ⟨m1,m2⟩:=YS (d:=S.st.length) (j:=s) s0 (mvs:=mvs) (n:=S.b.length) nd (fun z hz=>by rw [I.K.mv];exact hi z hz)
 refine ⟨fun h=>?_,fun k h=>?_⟩
 ·unfold gM;rw [m1 h]
 ·have hs:=hi s (yM h)
  have e:=y6 (l:=mvs) (i:=s.toNat) (by rw [I.K.mv];lia)
  unfold gM
  rw [m2 k h,e];rfl
theorem Iw.mov_own (nd:is.Nodup) (hi:∀ i∈is,0≤i∧i<S.le.length):Own ((S.sd x).mov a is) (yH S.st.length mvs S.b.length is):=by
 have lb:((S.sd x).mov a is).b.length=S.b.length+is.length:=by show (S.b++List.replicate is.length false).length=_;rw [zU,List.length_replicate]
 have ho:=I.O.ow
 refine ⟨fun x x0 x1=>?_,fun s s0 s1 x hx=>?_⟩
 ·rw [lb] at x1
  show inS S.fi _ x (gI (S.ow++is) x)
  by_cases h:x<S.b.length
  ·obtain ⟨a0,c⟩:=I.own_at x0 h
   rw [xx x0 (by rw [ho];exact h)]
   rcases I.W.seats x x0 h with e | ⟨p,hp,e⟩
   ·exact .inl e
   ·refine .inr ⟨p,?_,e⟩
    by_cases q:gI S.ow x∈is
    ·obtain ⟨k,hk⟩:=List.getElem?_of_mem q
     rw [(I.mv_at nd hi a0).2 k hk]
     exact List.mem_append_left _ hp
    ·rw [(I.mv_at nd hi a0).1 q];exact hp
  ·have hk:x.toNat - S.b.length<is.length:=Yo x0 x1 h
   have e:=y6 hk
   rw [qM (l:=S.ow) (m:=is) (x:=x) (j:=x.toNat - S.b.length) (by rw [ho];exact (Y9 x0 h).symm) e]
   refine .inr ⟨((S.st.length:Int),((S.b.length+(x.toNat - S.b.length):Nat):Int)),?_,?_⟩
   ·rw [(I.mv_at nd hi (hi _ (List.getElem_mem hk)).1).2 _ e]
    exact List.mem_append_right _ (.head _)
   ·show ((S.b.length+(x.toNat - S.b.length):Nat):Int)=x
    exact Y9 x0 h
 ·have s1:s<S.le.length:=s1
  rw [lb]
  show gI (S.ow++is) x=s∧_
  have old:inS S.fi mvs x s→gI (S.ow++is) x=s∧0≤x∧x<((S.b.length+is.length:Nat):Int):=fun hx=>by
   obtain ⟨a0,c,e⟩:=I.W.back s s0 s1 x hx
   rw [xx c (by rw [ho];exact e)]
   exact ⟨a0,c,Xb _ e⟩
  rcases hx with e | ⟨p,hp,e⟩
  ·exact old (.inl e)
  ·by_cases q:s∈is
   ·obtain ⟨k,hk⟩:=List.getElem?_of_mem q
    have hl:=(yL hk).1
    rw [(I.mv_at nd hi s0).2 k hk] at hp
    rcases xN hp with hp | hp
    ·exact old (.inr ⟨p,hp,e⟩)
    ·rw [List.mem_singleton] at hp
     subst hp
     have e:((S.b.length+k:Nat):Int)=x:=e
     subst e
     exact ⟨qM (j:=k) (by rw [ho]) hk,Int.natCast_nonneg _,Int.ofNat_lt.mpr (Nat.add_lt_add_left hl _)⟩
   ·rw [(I.mv_at nd hi s0).1 q] at hp
    exact old (.inr ⟨p,hp,e⟩)
theorem Iw.mov (nd:is.Nodup) (hi:∀ i∈is,0≤i∧i<S.le.length) (hs:S.s1.st.length<200) (hb:S.b.length+is.length<200):Iw ((S.sd x).mov a is) (yH S.st.length mvs S.b.length is) cus (sg++[is]):=by
 have K:=I.K.mov (i:=a) hs nd hi hb
 have ls:sg.length=S.st.length:=I.sl.trans I.st.symm
 have lb:((S.sd x).mov a is).b.length=S.b.length+is.length:=by show (S.b++List.replicate is.length false).length=_;rw [zU,List.length_replicate]
 refine ⟨⟨QQ I.O.G lb (by rw [lb];exact hb),?_,?_,I.O.le⟩,⟨K.fi,K.br,K.mv,K.cu,K.fr,K.mr,K.dr,K.bn,K.ps,K.cs,K.sl,K.st,K.sb⟩,I.mov_own nd hi,?_,?_,fun us hu j hj=>?_,fun j j0 j1 d hd=>xQ (I.dc j j0 j1 d hd),fun j j0 j1 p hp=>?_,fun j d j0 j1 hd=>xQ (I.db j d j0 j1 hd)⟩
 ·rw [lb];show (S.ow++is).length=_
  rw [zU,I.O.ow]
 ·intro j hj
  rcases xN (show j∈S.ow++is from hj) with hj | hj
  ·exact I.O.own j hj
  ·exact hi j hj
 ·show (S.st++[true]).length=(S.dn++[x]).length
  rw [zU,zU,I.st];rfl
 ·show (sg++[_]).length=(S.dn++[x]).length
  rw [zU,zU,I.sl];rfl
 ·rcases xN hu with hu | hu
  ·exact I.sr us hu j hj
  ·rw [xE hu] at hj;exact hi j hj
 ·by_cases h:j∈is
  ·obtain ⟨k,hk⟩:=List.getElem?_of_mem h
   rw [(I.mv_at nd hi j0).2 k hk] at hp
   rcases xN hp with hp | hp
   ·exact xQ (I.dm j j0 j1 p hp)
   ·rw [xE hp];show j∈gC _ (S.st.length:Int);rw [XO ls];exact h
  ·rw [(I.mv_at nd hi j0).1 h] at hp;exact xQ (I.dm j j0 j1 p hp)
omit I
theorem Iv.mov (V:Iv S mvs cus sg) (nd:is.Nodup) (hi:∀ i∈is,0≤i∧i<S.le.length) (hs:S.s1.st.length<200) (hb:S.b.length+is.length<200) :
  Iv ({ S.s1.mov a is with b:=yb S.s1 (yH S.st.length mvs S.b.length is) cus (S.s1.mov a is).b is,dn:=S.dn++[x] }:Sh) (yH S.st.length mvs S.b.length is) cus (sg++[is]):=by
 have I:=V.I
 have lb:((S.sd x).mov a is).b.length=S.b.length+is.length:=by show (S.b++List.replicate is.length false).length=_;rw [zU,List.length_replicate]
 refine (I.mov (x:=x) (a:=a) nd hi hs hb).seat (is:=is) hi fun y y0 y1 hn=>?_
 by_cases h:y<S.b.length
 ·have e:fl (S.b++List.replicate is.length false) y=fl S.b y:=by unfold fl;rw [List.getElem?_append_left (jO y0 h)]
  have eo:gI (S.ow++is) y=gI S.ow y:=xx y0 (by rw [I.O.ow];exact h)
  have hn:gI (S.ow++is) y∉is:=hn
  rw [eo] at hn
  exact (e.trans (V.flag y y0 h)).trans (wi rfl eo rfl ((I.mv_at nd hi (I.own_at y0 h).1).1 hn) rfl rfl I.fls.1 I.fls.2.1 I.fls.2.2)
 ·have hk:=Yo y0 (by rw [← lb];exact y1) h
  have e:=y6 hk
  refine absurd ?_ hn
  show gI (S.ow++is) y∈is
  rw [qM (j:=y.toNat - S.b.length) (by rw [I.O.ow];exact (Y9 y0 h).symm) e]
  exact List.getElem_mem hk
end
theorem XF {h:Int}:List.lookup ("take_back" : Str) (fS h)=none:=rfl
theorem Q7 {h:Int}:List.lookup ("do_again" : Str) (fS h)=none:=rfl
theorem Q3 (l:List Int):yI y8 (l.map AV.int)=some l:=by
 induction l with
 | nil=>rfl
 | cons x l ih=>exact xJ rfl ih
theorem JB {α β:Type} (f:α→β) (l:List α):∀ k,(l.map f).eraseIdx k=(l.eraseIdx k).map f:=by
 induction l with
 | nil=>intro k;rfl
 | cons x l ih =>
  intro k
  cases k with
  | zero=>rfl
  | succ k=>exact congrArg (f x::·) (ih k)
theorem Wz {h:Hp} {a k:Nat} {l:List Int} {i:Int} (e:h[a]? = some (.list (l.map AV.int))) (hk:l.findIdx? (· == i)=some k):yN .remove (.ref a) [.int i] h=.ok .none (h.set a (.list ((l.eraseIdx k).map AV.int))):=by
 rw [Q2,e]
 show ofP ((yI y8 (l.map AV.int)).bind fun is=>(is.findIdx? (· == i)).map fun k=>(AV.none,h.set a (.list ((l.map AV.int).eraseIdx k))))=_
 rw [Q3]
 show ofP ((l.findIdx? (· == i)).map fun k=>(AV.none,h.set a (.list ((l.map AV.int).eraseIdx k))))=_
 rw [hk,← JB];rfl
section
variable {T:Tab} {okf:Str→Str→Bool} (X:TT T okf) {n:Nat} {S:Sh} {r:Hp} {mvs:List (List (Int×Int))} {cus sg:List (List Int)}
include X
theorem W1 {i:Int} (h0:0≤i) (h1:i<S.dn.length):run T (n+2) (.meth "Sheet" "need_deed") [.ref 1,.int i] (S.hp r)=.ok .none (S.hp r):=by
 rw [zJ X.kAf]
 exact y7 (fr:=[some (.ref 1),some (.int i)]) rfl rfl (fr':=[some (.ref 1),some (.int i)]) ((z6 ((zH (xD (zt (b:=true) (yT (v:=.bool true) (zu (ev1 (z4 rfl) ev0) (yA X)) rfl)) (xD (zt (b:=true) (xF rfl (z4 rfl) (by rw [xb,decide_eq_true h0]) (qq (a:=12) rfl rfl kS9 rfl rfl) (by rw [yS,decide_eq_true h1]))) qR))).trans zF)).trans zF)
theorem z1i:run T (n+1) (.meth "Sheet" "deeds") [.ref 1] (S.hp r)=.ok (.int S.dn.length) (S.hp r):=by
 rw [zJ X.kA7]
 exact zN (fr:=[some (.ref 1)]) rfl rfl (fr':=[some (.ref 1)]) (zL (r:=[]) (zd (qq (cf:=run T n) (fr:=[some (.ref 1)]) (h:=S.hp r) (a:=12) (ys:=S.dn) rfl rfl kS9 rfl rfl)))
theorem Yv {i:Int} (h0:0≤i) (h1:i<S.dn.length) (hst:S.st.length=S.dn.length) (hs:S.st.length<200):run T (n+3) (.meth "Sheet" "stands") [.ref 1,.int i] (S.hp r)=.ok (.bool (fl S.st i)) (S.hp r):=by
 rw [zJ X.kAu]
 exact zN (fr:=[some (.ref 1),some (.int i)]) rfl rfl (fr':=[some (.ref 1),some (.int i)]) ((z6 (zY (zG (a:=1) (z4 rfl) rfl XG (ev1 (z4 rfl) ev0) (W1 X (n:=n) h0 h1)))).trans (zL (zd (zZ (zO (z4 rfl) rfl J2) (z4 rfl) (jp (b:=S.st) rfl h0 (by rw [hst];exact h1) (Nat.le_trans (Nat.le_of_lt hs) (by decide)))))))
noncomputable abbrev Sh.wl (S:Sh) (st:List Bool) (lo:List Int):Sh:={ S with st:=st,lo:=lo }
theorem Jt {fr:AFr} {d:Nat} {v:Bool} (f0:fr[0]? = some (some (.ref 1))) (f1:fr[1]? = some (some (.int d))) (hd:d<S.st.length) (hs:S.st.length<200):z9 okf (.item (zE (z5 0) "standing") (z5 1)) (z7 (.bool v)) (run T n) fr (S.hp r)=.ok .next fr ((S.ws (S.st.set d v)).hp r):=by
 refine Zb (v:=.bool v) rfl (zO (z4 f0) rfl J2) (z4 f1) ?_
 rw [ZG]
 show (if 0≤(d:Int)∧(d:Int)<((S.st.map AV.bool).length:Nat)∧(S.st.map AV.bool).length≤small then some ((S.hp r).set 13 (.list ((S.st.map AV.bool).set (d:Int).toNat (.bool v)))) else none)=_
 rw [List.length_map,if_pos ⟨Int.natCast_nonneg _,Int.ofNat_lt.mpr hd,Nat.le_trans (Nat.le_of_lt hs) (by decide)⟩,Int.toNat_natCast,← List.map_set]
 rfl
theorem WZ {fr:AFr} {d q:Nat} {us:List Int} {hw wd:AV} (K:Sg S mvs cus) (D:Dy S mvs cus r) (f0:fr[0]? = some (some (.ref 1))) (f1:fr[1]? = some (some (.int d))) (hx:S.dn[d]? = some (.tup [hw,wd,.ref (q+15)])) (hd:S.dn.length<200) (hq:r[q]? = some (.list (us.map AV.int))) (hu:∀ i∈us,0≤i∧i<S.le.length) :
  ∃ g,zI (z8 (z5 0) "seated" none [(zK (zK (zE (z5 0) "done") (z5 1)) (z7 (.int 2)))]) (run T (n+4)) fr (S.hp r)=.ok .next fr ((S.wb (yb S mvs cus S.b us)).hp (r++g)):=by
 obtain ⟨g,e⟩:=WX X (n:=n) K D hq hu
 have hl:=(yL hx).1
 exact ⟨g,zY (zG (a:=1) (z4 f0) rfl YW (ev1 (zZ (zZ (zO (z4 f0) rfl kS9) (z4 f1) (qL (xs:=S.dn) rfl (Int.natCast_nonneg _) (Int.lt_trans (Int.ofNat_lt.mpr (Nat.lt_trans hl hd)) (by decide)) hx)) rfl rfl) ev0) e)⟩
theorem Ql (I:Iw S mvs cus sg) (D:Dy S mvs cus r) {d q:Nat} {us:List Int} {hw wd:AV} (hst:fl S.st d=true) (hx:S.dn[d]? = some (.tup [hw,wd,.ref (q+15)])) (hq:r[q]? = some (.list (us.map AV.int))) (hu:∀ i∈us,0≤i∧i<S.le.length) (hlo:S.lo.length<200) :
  ∃ g,run T (n+5) (.meth "Sheet" "take_back") [.ref 1,.int d] (S.hp r)=.ok .none (((S.wl (S.st.set d false) (S.lo++[(d:Int)])).wb (yb (S.wl (S.st.set d false) (S.lo++[(d:Int)])) mvs cus S.b us)).hp (r++g)):=by
 have hl:=(yL hx).1
 have hn:S.dn.length<200:=I.st▸I.K.st
 have Kw:=I.K.ws (st:=S.st.set d false) (by rw [List.length_set];exact Nat.le_refl _) (by rw [List.length_set];exact I.K.st)
 obtain ⟨g,e⟩:=WZ X (n:=n) (S:=S.wl (S.st.set d false) (S.lo++[(d:Int)])) (r:=r) (fr:=[some (.ref 1),some (.int d)]) ⟨Kw.fi,Kw.br,Kw.mv,Kw.cu,Kw.fr,Kw.mr,Kw.dr,Kw.bn,Kw.ps,Kw.cs,Kw.sl,Kw.st,Kw.sb⟩ ⟨D.ml,D.cl,D.m,D.c,D.nd⟩ rfl rfl hx hn hq hu
 refine ⟨g,?_⟩
 rw [zJ X.kAh]
 refine y7 (fr:=[some (.ref 1),some (.int d)]) rfl rfl (fr':=[some (.ref 1),some (.int d)]) ?_
 have st:=zt (yT (zG (me:=none) (a:=1) (z4 (i:=0) (cf:=run T (n+4)) (fr:=[some (.ref 1),some (.int d)]) (h:=S.hp r) rfl) rfl jm (ev1 (z4 (i:=1) rfl) ev0) (Yv X (n:=n+1) (i:=(d:Int)) (Int.natCast_nonneg _) (Int.ofNat_lt.mpr hl) I.st I.K.st)) rfl)
 rw [hst] at st
 exact (z6 ((zH st).trans zF)).trans ((z6 (Jt X rfl rfl (by rw [I.st];exact hl) I.K.st)).trans ((z6 (j8 (h:=(S.ws (S.st.set d false)).hp r) (h1:=(S.ws (S.st.set d false)).hp r) (v:=.int d) (a:=14) (ys:=S.lo.map AV.int) (zs:=(S.lo++[(d:Int)]).map AV.int) rfl rfl zG9 rfl (z4 rfl) rfl (by rw [List.length_map];exact Nat.lt_trans hlo (by decide)) (xO AV.int S.lo _))).trans ((z6 e).trans zF)))
theorem JD (I:Iw S mvs cus sg) (D:Dy S mvs cus r) {d q k:Nat} {us:List Int} {hw wd:AV} (hst:fl S.st d=false) (hx:S.dn[d]? = some (.tup [hw,wd,.ref (q+15)])) (hq:r[q]? = some (.list (us.map AV.int))) (hu:∀ i∈us,0≤i∧i<S.le.length) (hk:S.lo.findIdx? (· == (d:Int))=some k) :
  ∃ g,run T (n+5) (.meth "Sheet" "do_again") [.ref 1,.int d] (S.hp r)=.ok .none (((S.wl (S.st.set d true) (S.lo.eraseIdx k)).wb (yb (S.wl (S.st.set d true) (S.lo.eraseIdx k)) mvs cus S.b us)).hp (r++g)):=by
 have hl:=(yL hx).1
 have hn:S.dn.length<200:=I.st▸I.K.st
 have Kw:=I.K.ws (st:=S.st.set d true) (by rw [List.length_set];exact Nat.le_refl _) (by rw [List.length_set];exact I.K.st)
 obtain ⟨g,e⟩:=WZ X (n:=n) (S:=S.wl (S.st.set d true) (S.lo.eraseIdx k)) (r:=r) (fr:=[some (.ref 1),some (.int d)]) ⟨Kw.fi,Kw.br,Kw.mv,Kw.cu,Kw.fr,Kw.mr,Kw.dr,Kw.bn,Kw.ps,Kw.cs,Kw.sl,Kw.st,Kw.sb⟩ ⟨D.ml,D.cl,D.m,D.c,D.nd⟩ rfl rfl hx hn hq hu
 refine ⟨g,?_⟩
 rw [zJ X.kAj]
 refine y7 (fr:=[some (.ref 1),some (.int d)]) rfl rfl (fr':=[some (.ref 1),some (.int d)]) ?_
 have st:=yT (zG (me:=none) (a:=1) (z4 (i:=0) (cf:=run T (n+4)) (fr:=[some (.ref 1),some (.int d)]) (h:=S.hp r) rfl) rfl jm (ev1 (z4 (i:=1) rfl) ev0) (Yv X (n:=n+1) (i:=(d:Int)) (Int.natCast_nonneg _) (Int.ofNat_lt.mpr hl) I.st I.K.st)) rfl
 rw [hst] at st
 exact (z6 ((zH st).trans zF)).trans ((z6 (Jt X rfl rfl (by rw [I.st];exact hl) I.K.st)).trans ((z6 (zY (v:=.none) (j3 (a:=14) (ys:=S.lo.map AV.int) (zO (z4 rfl) rfl zG9) rfl (ev1 (z4 rfl) ev0) (Wz (l:=S.lo) rfl hk)))).trans ((z6 e).trans zF)))
end
section
variable {S:Sh} {mvs:List (List (Int×Int))} {cus sg:List (List Int)}
theorem we {st:List Bool} {d:Nat} {e:Int} {v:Bool} (e0:0≤e) (h:e≠d):fl st e=fl (st.set d v) e:=by
 unfold fl
 rw [List.getElem?_set_ne fun q=>h (by rw [q,Int.toNat_of_nonneg e0])]
theorem Iw.flip (I:Iw S mvs cus sg) {st:List Bool} {lo:List Int} (h:st.length=S.st.length):Iw (S.wl st lo) mvs cus sg :=
 have Kw:=I.K.ws (st:=st) (by rw [h];exact Nat.le_refl _) (by rw [h];exact I.K.st)
 ⟨⟨I.O.G,I.O.ow,I.O.own,I.O.le⟩,⟨Kw.fi,Kw.br,Kw.mv,Kw.cu,Kw.fr,Kw.mr,Kw.dr,Kw.bn,Kw.ps,Kw.cs,Kw.sl,Kw.st,Kw.sb⟩,⟨I.W.seats,I.W.back⟩,h.trans I.st,I.sl,I.sr,I.dc,I.dm,I.db⟩
theorem Iv.flip (V:Iv S mvs cus sg) {d:Nat} {v:Bool} {lo:List Int} {us:List Int} (hs:sg[d]? = some us):Iv ((S.wl (S.st.set d v) lo).wb (yb (S.wl (S.st.set d v) lo) mvs cus S.b us)) mvs cus sg:=by
 have I:=V.I
 have hu:gC sg (d:Int)=us:=by unfold gC;rw [Int.toNat_natCast,hs];rfl
 refine (I.flip (st:=S.st.set d v) (lo:=lo) List.length_set).seat (is:=us) (I.sr us (yM hs)) fun x x0 x1 hn=>(V.flag x x0 x1).trans ?_
 obtain ⟨a,c⟩:=I.own_at x0 x1
 have ne:∀ e:Int,gI S.ow x∈gC sg e→e≠(d:Int):=fun e h q=>hn (by rw [← hu,← q];exact h)
 refine wi (S:=S) (S':=S.wl (S.st.set d v) lo) rfl rfl rfl rfl rfl rfl (fun e he=>?_) (fun p hp=>?_) (fun e he=>?_)
 ·have q:=y6 (z1d he)
  exact we (I.K.dr _ (yM q) e (by unfold gC at he;rw [q] at he;exact he)).1 (ne e (I.dc _ a c e he))
 ·have q:=y6 (z1b hp)
  exact we (I.K.mr _ (yM q) p (by unfold gM at hp;rw [q] at hp;exact hp)).1.1 (ne p.1 (I.dm _ a c p hp))
 ·rcases I.K.bn _ (yM he) with q | ⟨d',q,q0,_⟩
  ·cases q
  ·cases q;exact we q0 (ne _ (I.db _ _ a c he))
end
theorem qX {h:Int}:List.lookup ("place_of" : Str) (fS h)=none:=rfl
section
variable {T:Tab} {okf:Str→Str→Bool} (X:TT T okf) {n:Nat} {l:List Int} {b:List Bool} {r:Hp} {o0 o1 o2:AO}
include X
theorem Qs {x:Int} {j:Nat} (x0:0≤x) (x1:x<b.length) (hj:l.findIdx? (· == x)=some j) (G:Good l b) :
  ∃ g,run T (n+3) (.meth "Row" "ahead") [.ref 3,.int x] (H o0 o1 o2 l b r)=.ok (.int (tk b (l.take j)).length) (H o0 o1 o2 l b (r++g)):=by
 have hjl:=(List.findIdx?_eq_some_iff_getElem.mp hj).1
 have lsm:=G.sm'
 have ll:l.length≤small:=Nat.le_of_lt lsm.1
 refine ⟨[.list ((l.take j).map AV.int),.list ((tk b (l.take j)).map AV.int)],?_⟩
 rw [zJ X.kBp]
 have ei:z8 (zE (z5 0) "line") "index" (some .index) [(z5 1)] (run T (n+2)) [some (.ref 3),some (.int x),none] (H o0 o1 o2 l b r)=.ok (.int j) (H o0 o1 o2 l b r):=by
  refine j3 (zO (z4 rfl) rfl lk1) (ys:=l.map AV.int) rfl (ev1 (z4 rfl) ev0) ?_
  rw [jV]
  show (match jC (H o0 o1 o2 l b r) (.ref 4) (.int x) with | some k=>Out.ok (AV.int k) _ | none=>.stuck)=_
  rw [wu (l:=l) rfl,hj]
 have hjs:okI (j:Int)=true:=wm (Nat.le_trans (Nat.le_of_lt hjl) ll)
 have ecut:ZF (zE (z5 0) "line") (z7 .none) (z8 (zE (z5 0) "line") "index" (some .index) [(z5 1)]) (run T (n+2)) [some (.ref 3),some (.int x),none] (H o0 o1 o2 l b r)=.ok (.ref (r.length+6)) (H o0 o1 o2 l b (r++[.list ((l.take j).map AV.int)])):=by
  refine (z08 (zO (z4 rfl) rfl lk1) rfl ei (Wl (xs:=l.map AV.int) rfl WK (qj hjs) (by rw [List.length_map];exact ll))).trans ?_
  have:j4 (l.map AV.int) 0 (some (j:Int).toNat)=(l.take j).map AV.int:=by
   show ((l.map AV.int).take (j:Int).toNat).drop 0=_
   rw [List.drop_zero,Int.toNat_natCast,List.map_take]
  rw [show (none:Option Nat).getD 0=0 from rfl,this];rfl
 have hg0:(H o0 o1 o2 l b (r++[.list ((l.take j).map AV.int)]))[r.length+6]? = some (.list ((l.take j).map AV.int)):=by
  show (r++[AO.list ((l.take j).map AV.int)])[r.length]? = _
  exact zP r _ []
 have ec:=wy AV.int (it:=z5 2) (own:=1) (i:=3) (a:=r.length+6) (test:=zT .And [zy (zK (zE (z5 0) "flags") (z5 3))]) (elt:=z5 3) (cf:=run T (n+2)) (fr:=[some (.ref 3),some (.int x),some (.ref (r.length+6))])
  (h:=H o0 o1 o2 l b (r++[.list ((l.take j).map AV.int)])) (h1:=H o0 o1 o2 l b (r++[.list ((l.take j).map AV.int)])) (l:=l.take j) (p:=fl b) (f:=AV.int) rfl hg0 (zc rfl) (Nat.lt_of_le_of_lt (List.length_take_le' _ _) lsm.1)
  (fun fr' a1 a2 y hy a3=>Xi (by rw [a2 0 (by decide)];rfl) a3 rfl rfl (G.rng y (List.mem_of_mem_take hy)).1 (G.rng y (List.mem_of_mem_take hy)).2 (Nat.le_of_lt lsm.2))
  (fun fr' a1 a2 y hy a3=>z4 a3)
 have l1:(H o0 o1 o2 l b (r++[.list ((l.take j).map AV.int)])).length=r.length+7:=by
  show (r++[AO.list ((l.take j).map AV.int)]).length+6=_
  rw [zU];rfl
 have l2:H o0 o1 o2 l b (r++[.list ((l.take j).map AV.int)])++[.list (((l.take j).filter (fl b)).map AV.int)]=H o0 o1 o2 l b (r++[.list ((l.take j).map AV.int),.list ((tk b (l.take j)).map AV.int)]):=by
  show H o0 o1 o2 l b ((r++[.list ((l.take j).map AV.int)])++[_])=_
  rw [List.append_assoc];rfl
 rw [l1,l2] at ec
 refine zN (fr:=[some (.ref 3),some (.int x),none]) rfl rfl (fr':=[some (.ref 3),some (.int x),some (.ref (r.length+6))]) ?_
 unfold kBp
 dsimp only
 rw [z6 (zY (zG (a:=3) (z4 rfl) rfl lk3 (ev1 (z4 rfl) ev0) (xY X (n:=n) x0 x1)))]
 rw [z6 (zX (j:=2) ecut (zc rfl))]
 refine zL (zd (xM (ev1 ec ev0) ?_))
 have hg:(H o0 o1 o2 l b (r++[.list ((l.take j).map AV.int),.list ((tk b (l.take j)).map AV.int)]))[r.length+7]? = some (.list ((tk b (l.take j)).map AV.int)):=by
  show (r++[AO.list ((l.take j).map AV.int),.list ((tk b (l.take j)).map AV.int)])[r.length+1]? = _
  rw [x9];rfl
 rw [w8,qY,hg]
 show Out.ok (AV.int (((tk b (l.take j)).map AV.int).length:Nat)) _=_
 rw [List.length_map]
end
section
variable {T:Tab} {okf:Str→Str→Bool} (X:TT T okf) {n:Nat} {S:Sh} {r:Hp} {mvs:List (List (Int×Int))} {cus sg:List (List Int)}
include X
theorem zH8 {fr:AFr} {cf:CF} (e0:fr[0]? = some (some (.ref 1))):zD (zB (some (.bi .len))) [zE (z5 0) "letters"] cf fr (S.hp r)=.ok (.int S.le.length) (S.hp r):=qq (a:=7) (ys:=S.le.map ch) e0 rfl kS4 rfl (List.length_map _)
theorem qw {i:Int} (h0:0≤i) (h1:i<S.le.length):run T (n+2) (.meth "Sheet" "need_sign") [.ref 1,.int i] (S.hp r)=.ok .none (S.hp r):=by
 rw [zJ X.kAe]
 exact y7 (fr:=[some (.ref 1),some (.int i)]) rfl rfl (fr':=[some (.ref 1),some (.int i)]) ((z6 ((zH (xD (zt (b:=true) (yT (v:=.bool true) (zu (ev1 (z4 rfl) ev0) (yA X)) rfl)) (xD (zt (b:=true) (xF rfl (z4 rfl) (by rw [xb,decide_eq_true h0]) (zH8 X rfl) (by rw [yS,decide_eq_true h1]))) qR))).trans zF)).trans zF)
theorem XU (I:Iw S mvs cus sg) {i:Int} (h0:0≤i) (h1:i<S.le.length):gI S.ow (S.cur mvs i)=i∧0≤S.cur mvs i∧S.cur mvs i<S.b.length:=I.W.back i h0 h1 _ WE
theorem Wx (I:Iw S mvs cus sg) (D:Dy S mvs cus r) {i:Int} (h0:0≤i) (h1:i<S.le.length) {j:Nat} (hj:S.l.findIdx? (· == S.cur mvs i)=some j) :
  ∃ g,run T (n+4) (.meth "Sheet" "place_of") [.ref 1,.int i] (S.hp r)=.ok (.tup [.int (tk S.b (S.l.take j)).length,.bool (S.shw cus i)]) (S.hp (r++g)):=by
 obtain ⟨_,c0,c1⟩:=XU X I h0 h1
 have es:=wN X (n:=n+2) I.K D h0 h1
 obtain ⟨g1,ea⟩:=Qs X (n:=n) (o0:=S.g0) (o1:=.inst "Sheet" (fS S.hands)) (o2:=S.g2) (r:=S.tl r) c0 c1 hj I.O.G
 have ea':run T (n+3) (.meth "Row" "ahead") [.ref 3,.int (S.cur mvs i)] (S.hp r)=.ok (.int (tk S.b (S.l.take j)).length) (S.hp (r++g1)):=ea
 obtain ⟨g2,ei⟩:=YX X (n:=n+2) I.K (D.grow g1) h0 h1
 refine ⟨g1++g2,?_⟩
 rw [zJ X.kAl,← List.append_assoc]
 exact zN (fr:=[some (.ref 1),some (.int i)]) rfl rfl (fr':=[some (.ref 1),some (.int i)]) ((z6 (zY (zG (a:=1) (z4 rfl) rfl xv (ev1 (z4 rfl) ev0) (qw X (n:=n+1) h0 h1)))).trans (zL (zd (qH (ev1 (zG (a:=3) (zO (z4 rfl) rfl kS2) rfl z0s (ev1 (zG (a:=1) (z4 rfl) rfl qJ (ev1 (z4 rfl) ev0) es) ev0) ea') (ev1 (zG (a:=1) (z4 rfl) rfl Z4 (ev1 (z4 rfl) ev0) ei) ev0))))))
end
set_option genInjectivity false
set_option genSizeOf false
theorem jn:((" !\"#$&'()*+,-./0123456789:;<=>?@ABCDEFGHIJKLMNOPQRSTUVWXYZ[\\]^_`" : Str)++("abcdefghijklmnopqrstuvwxyz{|}~\n" : Str))=LET∧LET.cps.toList.length=95∧(" !\"#$&'()*+,-./0123456789:;<=>?@ABCDEFGHIJKLMNOPQRSTUVWXYZ[\\]^_`" : Str).length+("abcdefghijklmnopqrstuvwxyz{|}~\n" : Str).length≤95:=by decide +kernel
theorem zGf (z:Int):0≤z.fmod 95∧z.fmod 95<95:=⟨Int.fmod_nonneg_of_pos _ (by decide),Int.fmod_lt_of_pos _ (by decide)⟩
theorem Wo (z:Int):∃ c,LET.cps[(z.fmod 95).toNat]? = some c∧c∈LET.cps.toList:=by
 have h:=zGf z
 have hl:(z.fmod 95).toNat<LET.cps.toList.length:=by rw [jn.2.1];lia
 refine ⟨LET.cps.toList[(z.fmod 95).toNat],?_,List.getElem_mem hl⟩
 rw [← Array.getElem?_toList]
 exact y6 hl
theorem qr {cf:CF} {fr:AFr} {h h1:Hp} {x:XE} {z d:Int} (e:x cf fr h=.ok (.int z) h1) (hd:0<d∧d<1073741824):zM .FloorDiv x (z7 (.int d)) cf fr h=.ok (.int (z.fdiv d)) h1:=yD e rfl (by rw [qk,if_pos ⟨by lia,by lia⟩])
theorem X7 {cf:CF} {fr:AFr} {h h1 h2:Hp} {x y:XE} {z d:Int} (e:x cf fr h=.ok (.int z) h1) (e':y cf fr h1=.ok (.int d) h2) (hd:0<d):zM .Mod x y cf fr h=.ok (.int (z.fmod d)) h2:=yD e e' (by rw [yY,if_neg (by lia)])
theorem j7 {cf:CF} {fr:AFr} {h h1:Hp} {x:XE} {z d:Int} (e:x cf fr h=.ok (.int z) h1) (hd:0<d):zM .Mod x (z7 (.int d)) cf fr h=.ok (.int (z.fmod d)) h1:=X7 e rfl hd
theorem YO {cf:CF} {fr:AFr} {h h1 h2:Hp} {x y:XE} {a c:Int} (e:x cf fr h=.ok (.int a) h1) (e':y cf fr h1=.ok (.int c) h2):zM .Add x y cf fr h=.ok (.int (a+c)) h2:=yD e e' w4
section
variable {T:Tab} {okf:Str→Str→Bool} (X:TT T okf) {n:Nat}
include X
theorem Xh {c m:Int} {h:Hp} (m0:0≤m) (m1:m≤100):∃ cs o,run T (n+2) (.fn "_law_text_by") [.int c,.int m] h=.ok (.str (tx cs)) (h++[o])∧okT cs∧(cs.length:Int)=m:=by
 rw [xH X.kAz]
 let F:Nat→Nat:=fun k=>LET.cps[(((YT c (0+(k:Int))).fdiv 8).fmod 95).toNat]?.getD 0
 let l:List Nat:=List.range (m - 0).toNat
 have hl:l.length=(m - 0).toNat:=List.length_range
 have er:(zD (zB (some (.bi .range))) [(z5 1)]) (run T (n+1)) [some (.int c),some (.int m),some (.str LET)] h=.ok (.range 0 m) h:=by
  refine xM (ev1 (z4 rfl) ev0) ?_
  rw [z1z,if_pos (by lia)]
 have ec:=Yi (fun k:Nat=>AV.int (0+(k:Int))) (own:=1) (i:=3) (test:=zT .And []) (elt:=(zK (z5 2) (zM .Mod (zM .FloorDiv (zD (zB (some (.fn "_law_mixed"))) [(z5 0),(z5 3)]) (z7 (.int 8))) (z7 (.int 95))))) (l:=l) (p:=fun _=>true) (f:=fun k=>ch (F k)) er (by show some (Src.imm (qp 0 m),(m - 0).toNat)=_;rw [hl];rfl) (zc rfl) (by rw [hl];show _<1048576;lia)
  (fun fr' a1 a2 x hx a3=>rfl)
  (fun fr' a1 a2 x hx a3=>by
   have a0:fr'[0]? = some (some (.int c)):=a2 0 (by decide)
   have a4:fr'[2]? = some (some (.str LET)):=a2 2 (by decide)
   have:=zGf ((YT c (0+(x:Int))).fdiv 8)
   refine zZ (z4 a4) (j7 (qr (zu (ev1 (z4 a0) (ev1 (z4 a3) ev0)) (z0k X)) ⟨by decide,by decide⟩) (by decide)) ?_
   obtain ⟨v,hv,_⟩:=Wo ((YT c (0+(x:Int))).fdiv 8)
   rw [z3s (x6.mpr ⟨by lia,by lia⟩)]
   show _=some (ch (LET.cps[_]?.getD 0))
   rw [hv];rfl)
 rw [List.filter_eq_self.mpr (fun _ _=>rfl)] at ec
 have e2:l.map (fun k=>ch (F k))=(l.map F).map (fun c=>AV.str ⟨#[c]⟩):=by rw [List.map_map];rfl
 have hg:(h++[AO.list (l.map fun k=>ch (F k))])[h.length]? = some (AO.list ((l.map F).map (fun c=>AV.str ⟨#[c]⟩))):=by rw [← e2];exact zP _ _ []
 have ej:=z0l (sep := "") hg JT (by
  rw [JS,List.length_map,List.length_map,hl]
  show _+_ * 0≤1048576
  lia)
 rw [W8] at ej
 refine ⟨l.map F,.list (l.map fun k=>ch (F k)),?_,fun v hv=>?_,by rw [List.length_map,hl];lia⟩
 ·refine zN (fr:=[some (.int c),some (.int m),none]) rfl rfl (fr':=[some (.int c),some (.int m),some (.str LET)]) ?_
  unfold kAz
  dsimp only
  rw [z6 (zX (j:=2) rfl (zc rfl))]
  rw [z6 (zX (j:=2) (v:=.str LET) (yD (z4 rfl) rfl (by rw [z43,if_pos (Nat.le_trans jn.2.2 (by decide)),jn.1])) (zc rfl))]
  exact zL (zd (zF5 rfl (ev1 ec ev0) ej))
 ·obtain ⟨k,_,rfl⟩:=List.mem_map.mp hv
  obtain ⟨u,hu,hm⟩:=Wo ((YT c (0+(k:Int))).fdiv 8)
  show LET.cps[_]?.getD 0∈_
  rw [hu];exact hm
end
inductive Deed where
 | put (p:Int) (cs:List Nat)
 | cut (i j:Int)
 | mov (i j p:Int)
noncomputable def Deed.av (hd:Int):Deed→AV
 | .put p cs=>.tup [.int hd,.str "put",.int 0,.int 0,.int p,.str (tx cs)]
 | .cut i j=>.tup [.int hd,.str "cut",.int i,.int j,.int 0,.str ""]
 | .mov i j p=>.tup [.int hd,.str "move",.int i,.int j,.int p,.str ""]
noncomputable def Deed.ok (m:Int):Deed→Prop
 | .put p cs=>0≤p∧p≤m∧okT cs∧cs≠[]∧cs.length≤4
 | .cut i j=>0≤i∧i<j∧j≤m
 | .mov i j p=>0≤i∧i<j∧j≤m∧j≤i+5∧0≤p∧p≤m∧¬ (i<p∧p<j)
theorem wok:PyData.strOk ("put" : Str)=true∧PyData.strOk ("cut" : Str)=true∧PyData.strOk ("move" : Str)=true:=by decide +kernel
theorem weq:(("put" : Str) == ("put" : Str))=true∧(("cut" : Str) == ("put" : Str))=false∧(("cut" : Str) == ("cut" : Str))=true∧(("move" : Str) == ("put" : Str))=false∧(("move" : Str) == ("cut" : Str))=false:=by decide +kernel
section
variable {h:Hp}
theorem zGy:yl .Eq (.str "put") (.str "put") h=some true:=(wz wok.1 wok.1).trans (congrArg some weq.1)
theorem zH1:yl .Eq (.str "cut") (.str "put") h=some false:=(wz wok.2.1 wok.1).trans (congrArg some weq.2.1)
theorem zH2:yl .Eq (.str "cut") (.str "cut") h=some true:=(wz wok.2.1 wok.2.1).trans (congrArg some weq.2.2.1)
theorem zGz:yl .Eq (.str "move") (.str "put") h=some false:=(wz wok.2.2 wok.1).trans (congrArg some weq.2.2.2.1)
theorem zH0:yl .Eq (.str "move") (.str "cut") h=some false:=(wz wok.2.2 wok.2.1).trans (congrArg some weq.2.2.2.2)
end
theorem fmr (z:Int) {d:Int} (h:0<d):0≤z.fmod d∧z.fmod d<d:=⟨Int.fmod_nonneg_of_pos _ h,Int.fmod_lt_of_pos _ h⟩
theorem zG4 {m:Int} (h:¬ m=0) (h':0≤m):(if (1:Int)<m then m else 1)=m:=by split <;> lia
theorem zGj {bg x m:Int} (b1:bg<m) (x0:0≤x) (x1:x<5):bg<(if bg+1+x<m then bg+1+x else m)∧(if bg+1+x<m then bg+1+x else m)≤m∧(if bg+1+x<m then bg+1+x else m)≤bg+5:=by split <;> lia
theorem zG5 {bg en p m:Int} (b0:0≤bg) (e1:bg<en) (e2:en≤m) (h:p=bg∨p=en):0≤p∧p≤m∧¬ (bg<p∧p<en):=by
 rcases h with rfl | rfl
 ·exact ⟨b0,Int.le_of_lt (Int.lt_of_lt_of_le e1 e2),fun h=>Int.lt_irrefl _ h.1⟩
 ·exact ⟨Int.le_of_lt (Int.lt_of_le_of_lt b0 e1),e2,fun h=>Int.lt_irrefl _ h.2⟩
theorem zE5 {m:Int}:0<(if (1:Int)<m then m else 1):=by split <;> lia
theorem z4b {x:Int} (h:0≤x∧x<4):0≤1+x∧1+x≤100:=by lia
theorem z0c {c:Nat} {x:Int} (hl:(c:Int)=1+x) (h:0≤x∧x<4):0<c∧c≤4:=by lia
theorem zDq {x:Int} (h:0≤x∧x<2):x=0∨x=1:=by lia
section
variable {T:Tab} {okf:Str→Str→Bool} (X:TT T okf) {n:Nat}
include X
theorem z1j {z hands:Int} {m:Nat} {h:Hp} (hm:m≤200) (hh:0<hands):∃ hd d g,run T (n+3) (.fn "_law_deed_by") [.int z,.int m,.int hands] h=.ok (Deed.av hd d) (h++g)∧0≤hd∧hd<hands∧d.ok m:=by
 rw [xH X.kA4]
 let hd:=z.fmod hands
 let kd:=(z.fdiv 9).fmod 8
 let mx:Int:=if (1:Int)<m then m else 1
 have mx0:0<mx:=zE5
 let bg:=(z.fdiv 72).fmod mx
 let e0:=bg+1+(z.fdiv 1009).fmod 5
 let en:Int:=if e0<m then e0 else m
 let pl:=(z.fdiv 5003).fmod (m+1)
 have r1:=fmr z hh
 have r2:=fmr (z.fdiv 72) mx0
 have r3:=fmr (z.fdiv 1009) (show (0:Int)<5 by decide)
 have r4:=fmr (z.fdiv 5003) (Int.lt_add_one_of_le (Int.natCast_nonneg m))
 have hF:∀ {v:AV} {h':Hp},(∃ fr',(zA [(sIf (zT .Or [(zQ (z5 4) [.Lt] [(z7 (.int 3))]),(zQ (z5 1) [.Eq] [(z7 (.int 0))])]) (zA [(zW (yt [(z5 3),(z7 (.str "put")),(z7 (.int 0)),(z7 (.int 0)),(z5 7),(zD (zB (some (.fn "_law_text_by"))) [(z5 0),(zM .Add (z7 (.int 1)) (zM .Mod (zM .FloorDiv (z5 0) (z7 (.int 30011))) (z7 (.int 4))))])]))]) (zA [])),(sIf (zQ (z5 4) [.Lt] [(z7 (.int 5))]) (zA [(zW (yt [(z5 3),(z7 (.str "cut")),(z5 5),(z5 6),(z7 (.int 0)),(z7 (.str ""))]))]) (zA [])),(sIf (zQ (z5 5) [.Lt,.Lt] [(z5 7),(z5 6)]) (zA [(z9 okf (.names (.one 7)) (zK (zm [(z5 5),(z5 6)]) (zM .Mod (zM .FloorDiv (z5 0) (z7 (.int 60013))) (z7 (.int 2)))))]) (zA [])),(zW (yt [(z5 3),(z7 (.str "move")),(z5 5),(z5 6),(z5 7),(z7 (.str ""))]))]) (run T (n+2)) [some (.int z),some (.int m),some (.int hands),some (.int hd),some (.int kd),some (.int bg),some (.int en),some (.int pl)] h=.ok (.ret v) fr' h')→yR (kA4 okf) (run T (n+2)) [.int z,.int m,.int hands] h=.ok v h':=by
  rintro v h' ⟨fr',e⟩
  refine zN (fr:=[some (.int z),some (.int m),some (.int hands),none,none,none,none,none]) rfl rfl (fr':=fr') ?_
  unfold kA4
  dsimp only
  rw [z6 (zX (j:=3) (X7 (z4 rfl) (z4 rfl) hh) (zc rfl))]
  rw [z6 (zX (j:=4) (j7 (qr (z4 rfl) ⟨by decide,by decide⟩) (by decide)) (zc rfl))]
  rw [z6 (zX (j:=5) (X7 (d:=mx) (qr (z4 rfl) ⟨by decide,by decide⟩) (xM (ev1 rfl (ev1 (z4 rfl) ev0)) zEo) mx0) (zc rfl))]
  rw [z6 (zX (j:=6) (v:=.int en) (xM (ev1 (z4 rfl) (ev1 (YO (YO (z4 rfl) rfl) (j7 (qr (z4 rfl) ⟨by decide,by decide⟩) (by decide))) ev0)) zEn) (zc rfl))]
  rw [z6 (zX (j:=7) (X7 (d:=m+1) (qr (z4 rfl) ⟨by decide,by decide⟩) (YO (z4 rfl) rfl) (Int.lt_add_one_of_le (Int.natCast_nonneg m))) (zc rfl))]
  exact e
 by_cases hk:kd<3∨(m:Int)=0
 ·have r5:=fmr (z.fdiv 30011) (show (0:Int)<4 by decide)
  obtain ⟨cs,o,et,ok,hl⟩:=Xh X (n:=n) (c:=z) (m:=1+(z.fdiv 30011).fmod 4) (h:=h) (z4b r5).1 (z4b r5).2
  refine ⟨hd,.put pl cs,[o],hF ⟨_,zL ((zg (h1:=h) ?_).trans (zL (zd (qH (ev1 (z4 rfl) (ev1 rfl (ev1 rfl (ev1 rfl (ev1 (z4 rfl) (ev1 (zu (ev1 (z4 rfl) (ev1 (YO rfl (j7 (qr (z4 rfl) ⟨by decide,by decide⟩) (by decide))) ev0)) et) ev0)))))))))) ⟩,r1.1,r1.2,r4.1,Int.le_of_lt_add_one r4.2,ok,fun q=>absurd (z0c hl r5).1 (by rw [q];exact Nat.lt_irrefl _),(z0c hl r5).2⟩
  by_cases h3:kd<3
  ·exact Xv (zV (z4 rfl) rfl (by rw [yS,decide_eq_true h3]))
  ·exact xD (zV (z4 rfl) rfl (by rw [yS,decide_eq_false h3])) (Xv (zV (z4 rfl) rfl (by rw [yr,yZ,decide_eq_true (hk.resolve_left h3)])))
 ·have k3:¬ kd<3:=fun q=>hk (.inl q)
  have m0:¬ (m:Int)=0:=fun q=>hk (.inr q)
  have hmx:mx=m:=by exact zG4 m0 (Int.natCast_nonneg _)
  have b0:0≤bg:=r2.1
  have b1:bg<m:=by rw [← hmx];exact r2.2
  have e1:bg<en∧en≤m∧en≤bg+5:=zGj b1 r3.1 r3.2
  have p0:0≤pl:=r4.1
  have p1:pl≤m:=Int.le_of_lt_add_one r4.2
  have s1:zT .Or [(zQ (z5 4) [.Lt] [(z7 (.int 3))]),(zQ (z5 1) [.Eq] [(z7 (.int 0))])] (run T (n+2)) [some (.int z),some (.int m),some (.int hands),some (.int hd),some (.int kd),some (.int bg),some (.int en),some (.int pl)] h=.ok false h :=
   xD (zV (z4 rfl) rfl (by rw [yS,decide_eq_false k3])) (xD (zV (z4 rfl) rfl (by rw [yr,yZ,decide_eq_false m0])) qR)
  by_cases k5:kd<5
  ·refine ⟨hd,.cut bg en,[],hF ⟨[some (.int z),some (.int m),some (.int hands),some (.int hd),some (.int kd),some (.int bg),some (.int en),some (.int pl)],?_⟩,r1.1,r1.2,b0,e1.1,e1.2.1⟩
   rw [z6 ((zH s1).trans zF),List.append_nil]
   exact zL ((zg (zV (z4 rfl) rfl (by rw [yS,decide_eq_true k5]))).trans (zL (zd (qH (ev1 (z4 rfl) (ev1 rfl (ev1 (z4 rfl) (ev1 (z4 rfl) (ev1 rfl (ev1 rfl ev0))))))))))
  ·have s2:zQ (z5 4) [.Lt] [(z7 (.int 5))] (run T (n+2)) [some (.int z),some (.int m),some (.int hands),some (.int hd),some (.int kd),some (.int bg),some (.int en),some (.int pl)] h=.ok false h:=zV (z4 rfl) rfl (by rw [yS,decide_eq_false k5])
   by_cases hb:bg<pl∧pl<en
   ·have r6:=fmr (z.fdiv 60013) (show (0:Int)<2 by decide)
    obtain ⟨p',ep,hp'⟩:∃ p':Int,wF (h++[.list [.int bg,.int en]]) (.ref h.length) (.int ((z.fdiv 60013).fmod 2))=some (.int p')∧(p'=bg∨p'=en):=by
     have hg:(h++[AO.list [.int bg,.int en]])[h.length]? = some (.list [.int bg,.int en]):=zP _ _ []
     rcases zDq r6 with q | q
     ·refine ⟨bg,?_,.inl rfl⟩
      rw [q,qa rfl,hg];rfl
     ·refine ⟨en,?_,.inr rfl⟩
      rw [q,qa rfl,hg];rfl
    refine ⟨hd,.mov bg en p',[.list [.int bg,.int en]],hF ⟨[some (.int z),some (.int m),some (.int hands),some (.int hd),some (.int kd),some (.int bg),some (.int en),some (.int p')],?_⟩,r1.1,r1.2,b0,e1.1,e1.2.1,e1.2.2,zG5 b0 e1.1 e1.2.1 hp'⟩
    rw [z6 ((zH s1).trans zF),z6 ((zH s2).trans zF)]
    rw [z6 ((zg (xF (z4 rfl) (z4 rfl) (by rw [yS,decide_eq_true hb.1]) (z4 rfl) (by rw [yS,decide_eq_true hb.2]))).trans ((z6 (zX (j:=7) (zZ (yX (ev1 (z4 rfl) (ev1 (z4 rfl) ev0))) (j7 (qr (z4 rfl) ⟨by decide,by decide⟩) (by decide)) ep) (zc rfl))).trans zF))]
    exact zL (zd (qH (ev1 (z4 rfl) (ev1 rfl (ev1 (z4 rfl) (ev1 (z4 rfl) (ev1 (z4 rfl) (ev1 rfl ev0))))))))
   ·have s3:zQ (z5 5) [.Lt,.Lt] [(z5 7),(z5 6)] (run T (n+2)) [some (.int z),some (.int m),some (.int hands),some (.int hd),some (.int kd),some (.int bg),some (.int en),some (.int pl)] h=.ok false h:=by
     by_cases q:bg<pl
     ·exact xF (z4 rfl) (z4 rfl) (by rw [yS,decide_eq_true q]) (z4 rfl) (by rw [yS,decide_eq_false fun w=>hb ⟨q,w⟩])
     ·exact ZJ (z4 rfl) (z4 rfl) (by rw [yS,decide_eq_false q])
    refine ⟨hd,.mov bg en pl,[],hF ⟨[some (.int z),some (.int m),some (.int hands),some (.int hd),some (.int kd),some (.int bg),some (.int en),some (.int pl)],?_⟩,r1.1,r1.2,b0,e1.1,e1.2.1,e1.2.2,p0,p1,hb⟩
    rw [z6 ((zH s1).trans zF),z6 ((zH s2).trans zF),z6 ((zH s3).trans zF),List.append_nil]
    exact zL (zd (qH (ev1 (z4 rfl) (ev1 rfl (ev1 (z4 rfl) (ev1 (z4 rfl) (ev1 (z4 rfl) (ev1 rfl ev0))))))))
end
theorem yz {cf:CF} {fr:AFr} {h h1 h2:Hp} {x o:XE} {v:AV} {a:Nat} {c name:Str} {okf:Str→Str→Bool} {fs fs':List (Str×AV)} (e:x cf fr h=.ok v h1) (eo:o cf fr h1=.ok (.ref a) h2) (ha:h2[a]? = some (.inst c fs)) (hok:okf c name=true) (hl:fs.length<100) (hf:wc name v fs=fs'):z9 okf (.attr o name) x cf fr h=.ok .next fr (h2.set a (.inst c fs')):=by
 unfold z9
 rw [e]
 show Out.bindS (o cf fr h1) fr _=_
 rw [eo]
 show (match h2[a]? with
   | some (.inst c fs)=>if okf c name && decide (fs.length<100) then OS.ok .next fr (h2.set a (.inst c (wc name v fs))) else .stuck
   | _=>.stuck)=_
 rw [ha]
 show (if okf c name && decide (fs.length<100) then OS.ok .next fr (h2.set a (.inst c (wc name v fs))) else .stuck)=_
 rw [hok,decide_eq_true hl,hf];rfl
noncomputable abbrev sh0 (g0 g2:AO) (hands:Int):Sh:=⟨g0,g2,hands,[],[],[],[],[],[],[],[],[],[],[]⟩
noncomputable abbrev sh1 (g0 g2:AO) (hands:Int) (cs:List Nat):Sh:=⟨g0,g2,hands,zj 0 cs.length,List.replicate cs.length true,zj 0 cs.length,cs,zj 0 cs.length,(List.range cs.length).map (fun j=>1+2 * j),List.replicate cs.length .none,(List.range cs.length).map (fun j=>1+2 * j+1),[],[],[]⟩
theorem Js (g0 g2:AO) (hands:Int) (cs:List Nat):(sh0 g0 g2 hands).adds 0 .none 1 cs=sh1 g0 g2 hands cs:=by
 simp [Sh.adds]
theorem jb {k:Nat} {x:Int} (x0:0≤x) (x1:x<k):gI (zj 0 k) x=x:=by
 unfold gI
 rw [wZ (show x.toNat<k by lia)]
 show ((0+x.toNat:Nat):Int)=x
 lia
theorem WB {k:Nat} {x:Int}:gM (List.replicate k []) x=[]:=Zv (mvs:=[]) (k:=k) (i:=x)
theorem ZH {α:Type} {k:Nat} {l:List α} (h:l∈List.replicate k ([]:List α)):l=[]:=List.eq_of_mem_replicate h
theorem z1c {k:Nat} {x:Int}:gC (List.replicate k []) x=[]:=WC (cus:=[]) (k:=k) (i:=x)
theorem iv1 (g0 g2:AO) (hands:Int) {cs:List Nat} (hc:cs.length<200):Iv (sh1 g0 g2 hands cs) (List.replicate cs.length []) (List.replicate cs.length []) []∧(sh1 g0 g2 hands cs).sh=zj 0 cs.length:=by
 have lb:(sh1 g0 g2 hands cs).b.length=cs.length:=List.length_replicate
 have fb:∀ (x:Int),0≤x→x<cs.length→fl (sh1 g0 g2 hands cs).b x=true:=fun x x0 x1=>by
  unfold fl
  show (List.replicate cs.length true)[x.toNat]?.getD false=true
  rw [List.getElem?_replicate,if_pos (by lia)];rfl
 refine ⟨⟨⟨⟨⟨?_,by rw [lb];exact hc⟩,?_,fun i hi=>?_,hc⟩,⟨yf _ _,List.length_replicate,List.length_replicate,List.length_replicate,fun i hi=>?_,fun ps hp p hq=>?_,fun ps hp p hq=>?_,fun v hv=>?_,fun ps hp=>?_,fun ps hp=>?_,hc,zc rfl,by rw [lb];exact hc⟩,⟨fun x x0 x1=>?_,fun i i0 i1 x hx=>?_⟩,rfl,rfl,fun us hu=>(by cases hu),fun i i0 i1 d hd=>(by rw [z1c] at hd;cases hd),fun i i0 i1 p hp=>(by rw [WB] at hp;cases hp),fun i d i0 i1 hd=>(by have:=List.eq_of_mem_replicate (yM hd);cases this)⟩,fun x x0 x1=>?_⟩,?_⟩
 ·rw [lb]
  show (zj 0 cs.length).Perm _
  unfold zj
  simp only [Nat.zero_add]
  exact List.Perm.refl _
 ·rw [lb];exact yf _ _
 ·have:=yn hi
  show 0≤i∧i<(cs.length:Int)
  lia
 ·have:=yn hi
  rw [lb];lia
 ·rw [ZH hp] at hq;cases hq
 ·rw [ZH hp] at hq;cases hq
 ·exact .inl (List.eq_of_mem_replicate hv)
 ·rw [ZH hp];exact Nat.zero_le _
 ·rw [ZH hp];exact Nat.zero_le _
 ·rw [lb] at x1
  show inS (zj 0 cs.length) _ x (gI (zj 0 cs.length) x)
  rw [jb x0 x1]
  exact .inl (jb x0 x1).symm
 ·have i1:i<cs.length:=i1
  rw [lb]
  have hx:x=gI (zj 0 cs.length) i∨∃ p∈gM (List.replicate cs.length []) i,p.2=x:=hx
  rw [WB,jb i0 i1] at hx
  rcases hx with rfl | ⟨p,hp,_⟩
  ·exact ⟨jb i0 i1,i0,i1⟩
  ·cases hp
 ·rw [lb] at x1
  rw [fb x x0 x1]
  unfold Sh.tgt
  have e1:gI (zj 0 cs.length) x=x:=jb x0 x1
  have e2:(sh1 g0 g2 hands cs).shw (List.replicate cs.length []) x=true:=by
   unfold Sh.shw
   show (WI [] ((List.replicate cs.length AV.none)[x.toNat]?.getD .none) && !(gC (List.replicate cs.length []) x).any _)=true
   rw [z1c,List.getElem?_replicate,if_pos (jO x0 x1)];rfl
  have e3:(sh1 g0 g2 hands cs).cur (List.replicate cs.length []) x=x:=by
   show yQ [] (gI (zj 0 cs.length) x) (gM (List.replicate cs.length []) x)=x
   rw [WB,e1];rfl
  show true=((sh1 g0 g2 hands cs).shw (List.replicate cs.length []) (gI (zj 0 cs.length) x) && decide (x=(sh1 g0 g2 hands cs).cur (List.replicate cs.length []) (gI (zj 0 cs.length) x)))
  rw [e1,e2,e3,decide_eq_true rfl];rfl
 ·show ((zj 0 cs.length).filter (fl (sh1 g0 g2 hands cs).b)).map (fun x=>gI (zj 0 cs.length) x)=_
  rw [List.filter_eq_self.mpr fun x hx=>by have:=yn hx;exact fb x (by lia) (by lia)]
  have:=z0q (l:=[]) (m:=zj 0 cs.length) (k:=cs.length) (n:=0) rfl (yf _ _)
  rw [List.nil_append] at this
  exact this
noncomputable abbrev rF1 (k:Nat):List (Str×AV):=[("line",.ref (k+1))]
noncomputable abbrev rF2 (k:Nat):List (Str×AV):=[("line",.ref (k+1)),("flags",.ref (k+2))]
section
variable {T:Tab} {okf:Str→Str→Bool} (X:TT T okf) {n:Nat}
include X
theorem z00 {h:Hp}:run T (n+1) (.cls "Row") [] h=.ok (.ref h.length) (h++[.inst "Row" (rF2 h.length),.list [],.list []]):=by
 rw [X5 X.row X.kBv]
 have e:yR (kBv okf) (run T n) [.ref h.length] (h++[.inst "Row" []])=.ok .none (h++[.inst "Row" (rF2 h.length),.list [],.list []]):=by
  refine y7 (fr:=[some (.ref h.length)]) rfl rfl (fr':=[some (.ref h.length)]) ?_
  unfold kBv
  dsimp only
  refine (z6 (yz (a:=h.length) (yX ev0) (z4 rfl) (show ((h++[AO.inst "Row" []])++[AO.list []])[h.length]? = some (.inst "Row" []) by rw [List.append_assoc];exact zP _ _ _) X.kCa (zc rfl) (show wc "line" (AV.ref (h++[AO.inst "Row" []]).length) []=rF1 h.length by rw [zU];rfl))).trans ?_
  have e1:((h++[AO.inst "Row" []])++[AO.list []]).set h.length (.inst "Row" (rF1 h.length))=h++[.inst "Row" (rF1 h.length),.list []]:=by rw [List.append_assoc];exact qQ _ _ _ _
  rw [e1]
  refine (z6 (yz (a:=h.length) (yX ev0) (z4 rfl) (show ((h++[AO.inst "Row" (rF1 h.length),.list []])++[AO.list []])[h.length]? = some (.inst "Row" (rF1 h.length)) by rw [List.append_assoc];exact zP _ _ _) X.kB1 (zc rfl) (show wc "flags" (AV.ref (h++[AO.inst "Row" (rF1 h.length),.list []]).length) (rF1 h.length)=rF2 h.length by rw [zU];rfl))).trans ?_
  have e2:((h++[AO.inst "Row" (rF1 h.length),.list []])++[AO.list []]).set h.length (.inst "Row" (rF2 h.length))=h++[.inst "Row" (rF2 h.length),.list [],.list []]:=by rw [List.append_assoc];exact qQ _ _ _ _
  rw [e2]
  exact zF
 rw [e];rfl
theorem zGc {g0:AO} {cs:List Nat} {hands:Int} (ok:okT cs) (hc:cs.length≤60) (h1:1≤hands) (h9:hands≤9):∃ g2 r,run T (n+5) (.cls "Sheet") [.str (tx cs),.int hands] [g0]=.ok (.ref 1) ((sh1 g0 g2 hands cs).hp r)∧Dy (sh1 g0 g2 hands cs) (List.replicate cs.length []) (List.replicate cs.length []) r:=by
 refine ⟨.list (cs.map fun _=>AV.bool true),.list ((zj 0 cs.length).map AV.int)::List.replicate (2 * cs.length) (.list []),?_,?_⟩
 ·rw [X5 X.sheet X.kBf]
  generalize hg2:AO.list (cs.map fun _=>AV.bool true)=g2
  have e:yR (kBf okf) (run T (n+4)) [.ref 1,.str (tx cs),.int hands] ([g0]++[.inst "Sheet" []])=.ok .none ((sh1 g0 g2 hands cs).hp (.list ((zj 0 cs.length).map AV.int)::List.replicate (2 * cs.length) (.list []))):=by
   refine y7 (fr:=[some (.ref 1),some (.str (tx cs)),some (.int hands)]) rfl rfl (fr':=[some (.ref 1),some (.str (tx cs)),some (.int hands)]) ?_
   unfold kBf
   dsimp only
   show zA _ _ _ [g0,.inst "Sheet" []]=_
   have et:=QI X (n:=n+3) ok (by lia) (hp:=[g0,.inst "Sheet" []])
   rw [hg2] at et
   have et':run T (n+4) (.fn "is_text") [.str (tx cs)] [g0,.inst "Sheet" []]=.ok (.bool true) [g0,.inst "Sheet" [],g2]:=et
   refine (z6 ((zH (zt (b:=true) (yT (v:=.bool true) (zu (ev1 (z4 rfl) ev0) et') rfl))).trans zF)).trans ?_
   refine (z6 ((zH (xD (zt (b:=true) (yT (v:=.bool true) (zu (ev1 (z4 rfl) ev0) (yA X (n:=n+3))) rfl)) (xD (zt (b:=true) (xF rfl (z4 rfl) (by rw [xb,decide_eq_true h1]) rfl (by rw [xb,decide_eq_true h9]))) qR))).trans zF)).trans ?_
   refine (z6 (yz (a:=1) (fs':=[("hands",.int hands)]) (z4 rfl) (z4 rfl) rfl X.kB2 (zc rfl) rfl)).trans ?_
   show zA _ _ _ [g0,.inst "Sheet" [("hands",.int hands)],g2]=_
   refine (z6 (yz (a:=1) (fs':=[("hands",.int hands),("row",.ref 3)]) (z09 ev0 (z00 X (n:=n+3))) (z4 rfl) rfl X.kCc (zc rfl) rfl)).trans ?_
   show zA _ _ _ [g0,.inst "Sheet" [("hands",.int hands),("row",.ref 3)],g2,.inst "Row" fs,.list [],.list []]=_
   refine (z6 (yz (a:=1) (fs':=[("hands",.int hands),("row",.ref 3),("owners",.ref 6)]) (yX (h1:=[g0,.inst "Sheet" [("hands",.int hands),("row",.ref 3)],g2,.inst "Row" fs,.list [],.list []]) ev0) (z4 rfl) rfl X.kBz (zc rfl) rfl)).trans ?_
   show zA _ _ _ [g0,.inst "Sheet" [("hands",.int hands),("row",.ref 3),("owners",.ref 6)],g2,.inst "Row" fs,.list [],.list [],.list []]=_
   refine (z6 (yz (a:=1) (fs':=[("hands",.int hands),("row",.ref 3),("owners",.ref 6),("letters",.ref 7)]) (yX (h1:=[g0,.inst "Sheet" [("hands",.int hands),("row",.ref 3),("owners",.ref 6)],g2,.inst "Row" fs,.list [],.list [],.list []]) ev0) (z4 rfl) rfl X.kBo (zc rfl) rfl)).trans ?_
   show zA _ _ _ [g0,.inst "Sheet" [("hands",.int hands),("row",.ref 3),("owners",.ref 6),("letters",.ref 7)],g2,.inst "Row" fs,.list [],.list [],.list [],.list []]=_
   refine (z6 (yz (a:=1) (fs':=[("hands",.int hands),("row",.ref 3),("owners",.ref 6),("letters",.ref 7),("firsts",.ref 8)]) (yX (h1:=[g0,.inst "Sheet" [("hands",.int hands),("row",.ref 3),("owners",.ref 6),("letters",.ref 7)],g2,.inst "Row" fs,.list [],.list [],.list [],.list []]) ev0) (z4 rfl) rfl X.kBt (zc rfl) rfl)).trans ?_
   show zA _ _ _ [g0,.inst "Sheet" [("hands",.int hands),("row",.ref 3),("owners",.ref 6),("letters",.ref 7),("firsts",.ref 8)],g2,.inst "Row" fs,.list [],.list [],.list [],.list [],.list []]=_
   refine (z6 (yz (a:=1) (fs':=[("hands",.int hands),("row",.ref 3),("owners",.ref 6),("letters",.ref 7),("firsts",.ref 8),("moved",.ref 9)]) (yX (h1:=[g0,.inst "Sheet" [("hands",.int hands),("row",.ref 3),("owners",.ref 6),("letters",.ref 7),("firsts",.ref 8)],g2,.inst "Row" fs,.list [],.list [],.list [],.list [],.list []]) ev0) (z4 rfl) rfl X.kB0 (zc rfl) rfl)).trans ?_
   show zA _ _ _ [g0,.inst "Sheet" [("hands",.int hands),("row",.ref 3),("owners",.ref 6),("letters",.ref 7),("firsts",.ref 8),("moved",.ref 9)],g2,.inst "Row" fs,.list [],.list [],.list [],.list [],.list [],.list []]=_
   refine (z6 (yz (a:=1) (fs':=[("hands",.int hands),("row",.ref 3),("owners",.ref 6),("letters",.ref 7),("firsts",.ref 8),("moved",.ref 9),("bringers",.ref 10)]) (yX (h1:=[g0,.inst "Sheet" [("hands",.int hands),("row",.ref 3),("owners",.ref 6),("letters",.ref 7),("firsts",.ref 8),("moved",.ref 9)],g2,.inst "Row" fs,.list [],.list [],.list [],.list [],.list [],.list []]) ev0) (z4 rfl) rfl X.kA8 (zc rfl) rfl)).trans ?_
   show zA _ _ _ [g0,.inst "Sheet" [("hands",.int hands),("row",.ref 3),("owners",.ref 6),("letters",.ref 7),("firsts",.ref 8),("moved",.ref 9),("bringers",.ref 10)],g2,.inst "Row" fs,.list [],.list [],.list [],.list [],.list [],.list [],.list []]=_
   refine (z6 (yz (a:=1) (fs':=[("hands",.int hands),("row",.ref 3),("owners",.ref 6),("letters",.ref 7),("firsts",.ref 8),("moved",.ref 9),("bringers",.ref 10),("cutters",.ref 11)]) (yX (h1:=[g0,.inst "Sheet" [("hands",.int hands),("row",.ref 3),("owners",.ref 6),("letters",.ref 7),("firsts",.ref 8),("moved",.ref 9),("bringers",.ref 10)],g2,.inst "Row" fs,.list [],.list [],.list [],.list [],.list [],.list [],.list []]) ev0) (z4 rfl) rfl X.kBj (zc rfl) rfl)).trans ?_
   show zA _ _ _ [g0,.inst "Sheet" [("hands",.int hands),("row",.ref 3),("owners",.ref 6),("letters",.ref 7),("firsts",.ref 8),("moved",.ref 9),("bringers",.ref 10),("cutters",.ref 11)],g2,.inst "Row" fs,.list [],.list [],.list [],.list [],.list [],.list [],.list [],.list []]=_
   refine (z6 (yz (a:=1) (fs':=[("hands",.int hands),("row",.ref 3),("owners",.ref 6),("letters",.ref 7),("firsts",.ref 8),("moved",.ref 9),("bringers",.ref 10),("cutters",.ref 11),("done",.ref 12)]) (yX (h1:=[g0,.inst "Sheet" [("hands",.int hands),("row",.ref 3),("owners",.ref 6),("letters",.ref 7),("firsts",.ref 8),("moved",.ref 9),("bringers",.ref 10),("cutters",.ref 11)],g2,.inst "Row" fs,.list [],.list [],.list [],.list [],.list [],.list [],.list [],.list []]) ev0) (z4 rfl) rfl X.kB8 (zc rfl) rfl)).trans ?_
   show zA _ _ _ [g0,.inst "Sheet" [("hands",.int hands),("row",.ref 3),("owners",.ref 6),("letters",.ref 7),("firsts",.ref 8),("moved",.ref 9),("bringers",.ref 10),("cutters",.ref 11),("done",.ref 12)],g2,.inst "Row" fs,.list [],.list [],.list [],.list [],.list [],.list [],.list [],.list [],.list []]=_
   refine (z6 (yz (a:=1) (fs':=[("hands",.int hands),("row",.ref 3),("owners",.ref 6),("letters",.ref 7),("firsts",.ref 8),("moved",.ref 9),("bringers",.ref 10),("cutters",.ref 11),("done",.ref 12),("standing",.ref 13)]) (yX (h1:=[g0,.inst "Sheet" [("hands",.int hands),("row",.ref 3),("owners",.ref 6),("letters",.ref 7),("firsts",.ref 8),("moved",.ref 9),("bringers",.ref 10),("cutters",.ref 11),("done",.ref 12)],g2,.inst "Row" fs,.list [],.list [],.list [],.list [],.list [],.list [],.list [],.list [],.list []]) ev0) (z4 rfl) rfl X.kBi (zc rfl) rfl)).trans ?_
   show zA _ _ _ [g0,.inst "Sheet" [("hands",.int hands),("row",.ref 3),("owners",.ref 6),("letters",.ref 7),("firsts",.ref 8),("moved",.ref 9),("bringers",.ref 10),("cutters",.ref 11),("done",.ref 12),("standing",.ref 13)],g2,.inst "Row" fs,.list [],.list [],.list [],.list [],.list [],.list [],.list [],.list [],.list [],.list []]=_
   refine (z6 (yz (a:=1) (fs':=[("hands",.int hands),("row",.ref 3),("owners",.ref 6),("letters",.ref 7),("firsts",.ref 8),("moved",.ref 9),("bringers",.ref 10),("cutters",.ref 11),("done",.ref 12),("standing",.ref 13),("lost",.ref 14)]) (yX (h1:=[g0,.inst "Sheet" [("hands",.int hands),("row",.ref 3),("owners",.ref 6),("letters",.ref 7),("firsts",.ref 8),("moved",.ref 9),("bringers",.ref 10),("cutters",.ref 11),("done",.ref 12),("standing",.ref 13)],g2,.inst "Row" fs,.list [],.list [],.list [],.list [],.list [],.list [],.list [],.list [],.list [],.list []]) ev0) (z4 rfl) rfl X.kCb (zc rfl) rfl)).trans ?_
   show zA _ _ _ [g0,.inst "Sheet" [("hands",.int hands),("row",.ref 3),("owners",.ref 6),("letters",.ref 7),("firsts",.ref 8),("moved",.ref 9),("bringers",.ref 10),("cutters",.ref 11),("done",.ref 12),("standing",.ref 13),("lost",.ref 14)],g2,.inst "Row" fs,.list [],.list [],.list [],.list [],.list [],.list [],.list [],.list [],.list [],.list [],.list []]=_
   have eb:=z1u X (n:=n) (S:=sh0 g0 g2 hands) (r:=[]) (bh:=.none) (d:=.none) (i:=0) (cs:=cs) (.inl ⟨rfl,rfl⟩) ⟨Nat.zero_le _,Nat.zero_le _,Nat.zero_le _,Nat.zero_le _,Nat.zero_le _,Nat.zero_le _,Nat.zero_le _,Nat.zero_le _⟩ (fun x hx=>by cases hx) (by lia)
   have eq:(sh0 g0 g2 hands).adds 0 .none (([]:Hp).length+1) cs=sh1 g0 g2 hands cs:=Js g0 g2 hands cs
   rw [eq] at eb
   refine (z6 (zY (zG (a:=1) (z4 rfl) rfl Q9 (ev1 (z4 rfl) (ev1 rfl (ev1 rfl ev0))) eb))).trans ?_
   exact zF
  show Out.bind0 (yR (kBf okf) (run T (n+4)) [.ref 1,.str (tx cs),.int hands] ([g0]++[.inst "Sheet" []])) _=_
  rw [e];rfl
 ·have D0:Dy (sh0 g0 (.list (cs.map fun _=>AV.bool true)) hands) [] [] []:=⟨rfl,rfl,(fun i k ps h1 _=>by cases h1),(fun i k ps h1 _=>by cases h1),List.nodup_nil⟩
  have:=D0.adds (i:=0) (d:=.none) (cs:=cs) (o:=.list ((zj 0 cs.length).map AV.int))
  rw [show (([]:Hp).length+1)=1 from rfl,Js,List.nil_append,List.nil_append,List.nil_append] at this
  exact this
end
noncomputable def pos (l:List Int) (x:Int):Nat:=l.findIdx (· == x)
theorem jS {l:List Int} {x:Int} (h:x∈l):l.findIdx? (· == x)=some (pos l x):=by
 rw [List.findIdx?_eq_some_iff_findIdx_eq]
 exact ⟨List.findIdx_lt_length_of_exists ⟨x,h,beq_self_eq_true x⟩,rfl⟩
theorem X9 {l:List Int} {x:Int} (h:x∈l):pos l x<l.length:=List.findIdx_lt_length_of_exists ⟨x,h,beq_self_eq_true x⟩
theorem ZK {l:List Int} {x:Int} (h:x∈l):l[pos l x]? = some x:=by
 have hl:=X9 h
 rw [y6 hl]
 exact congrArg some (beq_iff_eq.mp (List.findIdx_getElem (p:=(· == x)) (w:=hl)))
theorem z3a {l:List Int} {x y:Int} (hx:x∈l) (hy:y∈l) (e:pos l x=pos l y):x=y:=by
 have a:=ZK hx
 rw [e,ZK hy] at a
 exact (Option.some.inj a).symm
section
variable {S:Sh} {mvs:List (List (Int×Int))} {cus sg:List (List Int)}
theorem Iw.cur_mem (I:Iw S mvs cus sg) {i:Int} (h0:0≤i) (h1:i<S.le.length):S.cur mvs i∈S.l∧gI S.ow (S.cur mvs i)=i:=by
 obtain ⟨a,b,c⟩:=I.W.back i h0 h1 _ WE
 refine ⟨(I.O.G.perm.mem_iff).mpr (List.mem_map.mpr ⟨(S.cur mvs i).toNat,List.mem_range.mpr (jO b c),Int.toNat_of_nonneg b⟩),a⟩
noncomputable def Sh.at_ (S:Sh) (mvs:List (List (Int×Int))) (i:Int):Nat:=pos S.l (S.cur mvs i)
theorem Iw.at_inj (I:Iw S mvs cus sg) {i j:Int} (i0:0≤i) (i1:i<S.le.length) (j0:0≤j) (j1:j<S.le.length) (e:S.at_ mvs i=S.at_ mvs j):i=j:=by
 obtain ⟨a,b⟩:=I.cur_mem i0 i1
 obtain ⟨c,d⟩:=I.cur_mem j0 j1
 rw [← b,← d,z3a a c e]
noncomputable def Sh.pl (S:Sh) (mvs:List (List (Int×Int))) (i:Int):Nat:=(tk S.b (S.l.take (S.at_ mvs i))).length
theorem Iv.up (V:Iv S mvs cus sg) {i:Int} (i0:0≤i) (i1:i<S.le.length):S.pl mvs i+(if S.shw cus i then 1 else 0)≤(tk S.b (S.l.take (S.at_ mvs i+1))).length:=by
 obtain ⟨a,b⟩:=V.I.cur_mem i0 i1
 have hg:=ZK a
 have hl:=X9 a
 have hp:S.l.take (S.at_ mvs i)++[S.cur mvs i]=S.l.take (S.at_ mvs i+1):=by
  rw [List.take_succ];show _=_++(S.l[pos S.l (S.cur mvs i)]?).toList;rw [hg];rfl
 rw [← hp]
 show (tk S.b (S.l.take (S.at_ mvs i))).length+_≤(List.filter (fl S.b) (S.l.take (S.at_ mvs i)++[S.cur mvs i])).length
 rw [List.filter_append,zU]
 refine Nat.add_le_add_left ?_ _
 cases hc:S.shw cus i with
 | false=>exact Nat.zero_le _
 | true =>
  obtain ⟨x0,x1⟩:=V.I.O.G.rng _ a
  have ht:fl S.b (S.cur mvs i)=true:=by
   rw [V.flag _ x0 x1]
   show (S.shw cus (gI S.ow (S.cur mvs i)) && decide (S.cur mvs i=S.cur mvs (gI S.ow (S.cur mvs i))))=true
   rw [b,hc,decide_eq_true rfl];rfl
  rw [List.filter_cons,ht];exact Nat.le_refl _
end
noncomputable def Kps (S:Sh) (r:Hp) (S':Sh) (r':Hp):Prop:=∀ (q:Nat) (o:AO),q∉S.mv→q∉S.cu→r[q]? = some o→r'[q]? = some o∧q∉S'.mv∧q∉S'.cu
theorem Kps.trans {S S' S'':Sh} {r r' r'':Hp} (a:Kps S r S' r') (b:Kps S' r' S'' r''):Kps S r S'' r'':=fun q o h1 h2 h3=>let ⟨c,d,e⟩:=a q o h1 h2 h3;b q o d e c
noncomputable def Dn (S:Sh) (sg:List (List Int)) (P:List Nat) (r:Hp):Prop:=∀ (d:Nat) (us:List Int),sg[d]? = some us→∃ (hd:Int) (w:Str) (q:Nat),S.dn[d]? = some (.tup [.int hd,.str w,.ref (q+15)])∧r[q]? = some (.list (us.map AV.int))∧q∉S.mv∧q∉S.cu∧q∉P
theorem ZV {α:Type} {l:List α} {x y:α} {d:Nat} (h:(l++[x])[d]? = some y):l[d]? = some y∨(d=l.length∧x=y):=by
 rcases jd h with ⟨_,c⟩ | ⟨a,c⟩
 ·exact .inl c
 ·right
  cases e:d - l.length with
  | zero=>rw [e] at c;exact ⟨Nat.le_antisymm (Nat.sub_eq_zero_iff_le.mp e) a,Option.some.inj c⟩
  | succ k=>rw [e] at c;cases c
theorem Dn.step {S S':Sh} {sg:List (List Int)} {P:List Nat} {r r':Hp} (N:Dn S sg P r) (K:Kps S r S' r') {us:List Int} {w:Str} {hd:Int} {q:Nat} (e:S'.dn=S.dn++[.tup [.int hd,.str w,.ref (q+15)]]) (hq:r'[q]? = some (.list (us.map AV.int))) (q1:q∉S'.mv) (q2:q∉S'.cu) (q3:q∉P) (h1:sg.length=S.dn.length):Dn S' (sg++[us]) P r':=by
 intro d vs h
 rcases ZV h with h | ⟨rfl,rfl⟩
 ·obtain ⟨hd',w',q',b,c,d1,d2,d3⟩:=N d vs h
  obtain ⟨c',e1,e2⟩:=K q' _ d1 d2 c
  exact ⟨hd',w',q',by rw [e];exact zC b,c',e1,e2,d3⟩
 ·exact ⟨hd,w,q,by rw [e,h1];exact zP _ _ [],hq,q1,q2,q3⟩
structure Bs (hands:Int) (c k:Nat) (P:List Nat) (S:Sh) (mvs:List (List (Int×Int))) (cus sg:List (List Int)) (r:Hp):Prop where
 V:Iv S mvs cus sg
 D:Dy S mvs cus r
 N:Dn S sg P r
 p:∀ q∈P,q<r.length∧q∉S.mv∧q∉S.cu
 hd:S.hands=hands
 bb:S.b.length≤c+5 * k
 bl:S.le.length≤c+4 * k
 bn:S.dn.length≤k
 al:∀ d:Nat,d<S.dn.length→fl S.st d=false→(d:Int)∈S.lo
 lz:S.lo.length≤k
theorem z47 {st:List Bool} {lo:List Int} {m m':Nat} (h:st.length=m) (hm:m'=m+1) (al:∀ d:Nat,d<m→fl st d=false→(d:Int)∈lo):∀ d:Nat,d<m'→fl (st++[true]) d=false→(d:Int)∈lo:=fun d hd q=>by
 by_cases e:d<m
 ·exact al d e (by rw [ZP (Int.natCast_nonneg _) (Int.ofNat_lt.mpr (h▸e))];exact q)
 ·have e:d=st.length:=by rw [h];exact Nat.le_antisymm (Nat.le_of_lt_succ (by rw [hm] at hd;exact hd)) (Nat.not_lt.mp e)
  subst e
  unfold fl at q
  rw [Int.toNat_natCast,List.getElem?_append_right (Nat.le_refl _),Nat.sub_self] at q
  cases q
theorem Ok1.tkl {S:Sh} (O:Ok1 S):S.sh.length=(tk S.b S.l).length∧S.sh.length<200:=by
 have h1:S.sh.length=(tk S.b S.l).length:=List.length_map _
 have h2:(tk S.b S.l).length≤S.l.length:=List.length_filter_le (fl S.b) S.l
 refine ⟨h1,?_⟩
 rw [h1]
 exact Nat.lt_of_le_of_lt h2 (O.G.len▸O.G.sm)
theorem Dy.ge {S:Sh} {mvs:List (List (Int×Int))} {cus:List (List Int)} {r:Hp} (D:Dy S mvs cus r) {q:Nat} (h:r.length≤q):q∉S.mv∧q∉S.cu :=
 ⟨fun m=>absurd (D.lt q (List.mem_append_left _ m)) (Nat.not_lt.mpr h),fun m=>absurd (D.lt q (List.mem_append_right _ m)) (Nat.not_lt.mpr h)⟩
theorem Kps.p {S S':Sh} {r r':Hp} {P:List Nat} (K:Kps S r S' r') (p:∀ q∈P,q<r.length∧q∉S.mv∧q∉S.cu):∀ q∈P,q<r'.length∧q∉S'.mv∧q∉S'.cu:=fun q h=>by
 obtain ⟨p1,p2,p3⟩:=p q h
 obtain ⟨a,b⟩:=K q _ p2 p3 (y6 p1)
 exact ⟨(yL a).1,b⟩
theorem Y7 {a c m k:Nat} (h:a≤c+m * k):a≤c+m * (k+1):=Nat.le_trans h (Nat.add_le_add_left (Nat.mul_le_mul_left m (Nat.le_succ k)) c)
theorem WM {a c m k j:Nat} (h:a≤c+m * k) (h':j≤m):a+j≤c+m * (k+1):=by rw [Nat.mul_succ,← Nat.add_assoc];exact Nat.add_le_add h h'
section
variable {T:Tab} {okf:Str→Str→Bool} (X:TT T okf) {n:Nat} {S:Sh} {r:Hp} {mvs:List (List (Int×Int))} {cus sg:List (List Int)} {P:List Nat} {hands:Int} {c k:Nat}
include X
theorem do_ (A:Bs hands c k P S mvs cus sg r) (hk:c+5 * k<190) {hd:Int} {d:Deed} (d0:0≤hd) (d1:hd<hands) (ok:d.ok S.sh.length) :
  ∃ S' mvs' cus' sg' r',run T (n+7) (.fn "_law_do") [.ref 1,d.av hd] (S.hp r)=.ok (.int S.dn.length) (Sh.hp S' r')∧Bs hands c (k+1) P S' mvs' cus' sg' r'∧Kps S r S' r'∧S.le.length≤S'.le.length:=by
 have I:=A.V.I
 obtain ⟨l1,l3⟩:=I.O.tkl
 have d1:hd<S.hands:=by rw [A.hd];exact d1
 have bb:=A.bb
 have bl:=A.bl
 have bn:=A.bn
 have k4:c+4 * k≤c+5 * k:=Nat.add_le_add_left (Nat.mul_le_mul_right k (by decide)) c
 have hs:S.s1.st.length<200:=by
  rw [Qr,I.st]
  exact Nat.lt_of_le_of_lt (Nat.succ_le_succ (Nat.le_trans bn (Nat.le_trans (Nat.le_mul_of_pos_left k (by decide)) (Nat.le_add_left _ _)))) (Nat.lt_of_lt_of_le (Nat.succ_lt_succ hk) (by decide))
 have hb:S.b.length+10<200:=Nat.add_lt_add_right (Nat.lt_of_le_of_lt bb hk) 10
 have he:S.le.length+4<200:=Nat.lt_of_lt_of_le (Nat.add_lt_add_right (Nat.lt_of_le_of_lt (Nat.le_trans bl k4) hk) 4) (by decide)
 have np:∀ {q:Nat},r.length≤q→q∉P:=fun h m=>absurd (A.p _ m).1 (Nat.not_lt.mpr h)
 have dnl:∀ x:AV,(S.dn++[x]).length≤k+1:=fun x=>by rw [zU];exact Nat.succ_le_succ bn
 have als:∀ x:AV,∀ d:Nat,d<(S.dn++[x]).length→fl (S.st++[true]) d=false→(d:Int)∈S.lo:=fun x=>z47 I.st (by rw [zU];rfl) A.al
 have lzs:=Nat.le_succ_of_le A.lz
 rw [xH X.kB9]
 cases d with
 | put p ts =>
  obtain ⟨p0,p1,okt,ne,c4⟩:=ok
  have hb':=Qi hb (Nat.le_trans c4 (by decide))
  have he':=Qi he c4
  obtain ⟨r',i,q,x,_,_,_,e,D',kp,hq,q',eq',lq',rfl,hq'⟩:=zH6 X (n:=n) I.O I.K A.D I.st d0 d1 p0 (by rw [← l1];exact p1) okt ne (Nat.le_trans c4 (by decide)) hb' he' hs
  have mem:∀ {q':Nat} {f:Nat→Nat} {l:List Nat},q'∈l++(List.range ts.length).map f→(∀ j,q'≠f j)→q'∈l:=fun hm hf=>by
   rcases xN hm with hm | hm
   ·exact hm
   ·obtain ⟨k,_,hk⟩:=List.mem_map.mp hm
    exact absurd hk.symm (hf k)
  have K:Kps S r ({ S.s1.adds i (.int S.dn.length) q ts with b:=yb (S.s1.adds i (.int S.dn.length) q ts) (mvs++List.replicate ts.length []) (cus++List.replicate ts.length []) (S.s1.adds i (.int S.dn.length) q ts).b (zj S.le.length ts.length),dn:=S.dn++[.tup [.int hd,.str "put",.ref (q'+15)]] }:Sh) r':=by
   intro q' o a c h
   have hl:=(yL h).1
   refine ⟨kp q' o a c h,fun hm=>a (mem hm fun j e=>?_),fun hm=>c (mem hm fun j e=>?_)⟩
   ·exact absurd hl (Nat.not_lt.mpr (e▸Nat.le_trans hq (Nat.le_add_right _ _)))
   ·exact absurd hl (Nat.not_lt.mpr (e▸Nat.le_trans hq (Nat.le_trans (Nat.le_add_right _ _) (Nat.le_succ _))))
  have lB:(yb (S.s1.adds i (.int S.dn.length) q ts) (mvs++List.replicate ts.length []) (cus++List.replicate ts.length []) (S.s1.adds i (.int S.dn.length) q ts).b (zj S.le.length ts.length)).length=S.b.length+ts.length:=by
   rw [xX]
   show (S.b++List.replicate ts.length true).length=_
   rw [zU,List.length_replicate]
  refine ⟨_,_,_,_,r',?_,⟨A.V.put hs hb' he',⟨D'.ml,D'.cl,D'.m,D'.c,D'.nd⟩,A.N.step K rfl hq' (fun hm=>(A.D.ge lq').1 (mem hm fun j e=>?_)) (fun hm=>(A.D.ge lq').2 (mem hm fun j e=>?_)) (np lq') I.sl,K.p A.p,A.hd,?_,?_,dnl _,als _,lzs⟩,K,?_⟩
  ·refine zN (fr:=[some (.ref 1),some (Deed.av hd (.put p ts)),none,none,none,none,none,none]) rfl rfl (fr':=[some (.ref 1),some (Deed.av hd (.put p ts)),some (.int hd),some (.str "put"),some (.int 0),some (.int 0),some (.int p),some (.str (tx ts))]) ?_
   unfold kB9
   dsimp only
   refine (z6 (X6 (z4 rfl) rfl)).trans ?_
   exact zL ((zg (zV (z4 rfl) rfl zGy)).trans (zL (zd (zG (a:=1) (z4 rfl) rfl zE7 (ev1 (z4 rfl) (ev1 (z4 rfl) (ev1 (z4 rfl) ev0))) e))))
  ·lia
  ·lia
  ·rw [lB];exact WM bb (Nat.le_trans c4 (by decide))
  ·show (S.le++ts).length≤_
   rw [zU];exact WM bl c4
  ·show S.le.length≤(S.le++ts).length
   rw [zU];exact Nat.le_add_right _ _
 | cut i j =>
  obtain ⟨i0,i1,j1⟩:=ok
  obtain ⟨r',x,e,D',kp,q',lq',rfl,hq'⟩:=zHc X (n:=n) I.O I.K A.D I.st A.V.sh_nodup d0 d1 i0 i1 (by rw [← l1];exact j1) hs
  have nd:((S.sh.take j.toNat).drop i.toNat).Nodup:=(A.V.sh_nodup.sublist (List.take_sublist _ _)).sublist (List.drop_sublist _ _)
  have hi:=jZ I.O (i:=i.toNat) (j:=j.toNat)
  have K:Kps S r ({ S.s1 with b:=yb S.s1 mvs (yq S.st.length cus ((S.sh.take j.toNat).drop i.toNat)) S.b ((S.sh.take j.toNat).drop i.toNat),dn:=S.dn++[.tup [.int hd,.str "cut",.ref (q'+15)]] }:Sh) r':=fun q o a c h=>⟨kp q o a c h,a,c⟩
  refine ⟨_,_,_,_,r',?_,⟨A.V.cut nd hi hs,⟨D'.ml,D'.cl,D'.m,D'.c,D'.nd⟩,A.N.step K rfl hq' (A.D.ge lq').1 (A.D.ge lq').2 (np lq') I.sl,K.p A.p,A.hd,?_,Y7 bl,dnl _,als _,lzs⟩,K,Nat.le_refl _⟩
  ·refine zN (fr:=[some (.ref 1),some (Deed.av hd (.cut i j)),none,none,none,none,none,none]) rfl rfl (fr':=[some (.ref 1),some (Deed.av hd (.cut i j)),some (.int hd),some (.str "cut"),some (.int i),some (.int j),some (.int 0),some (.str "")]) ?_
   unfold kB9
   dsimp only
   refine (z6 (X6 (z4 rfl) rfl)).trans ?_
   refine (z6 ((zH (zV (z4 rfl) rfl zH1)).trans zF)).trans ?_
   exact zL ((zg (zV (z4 rfl) rfl zH2)).trans (zL (zd (zG (a:=1) (z4 rfl) rfl zE8 (ev1 (z4 rfl) (ev1 (z4 rfl) (ev1 (z4 rfl) ev0))) e))))
  ·show (yb _ _ _ _ _).length≤_
   rw [xX];exact Y7 bb
 | mov i j p =>
  obtain ⟨i0,i1,j1,j5,p0,p1,hp⟩:=ok
  obtain ⟨r',x,at_,_,_,_,e,D',kp,q',lq',rfl,hq'⟩:=zG6 X (n:=n) I.O I.K A.D I.st A.V.sh_nodup d0 d1 i0 i1 (by rw [← l1];exact j1) p0 (by rw [← l1];exact p1) hp hs hb j5
  have nd:((S.sh.take j.toNat).drop i.toNat).Nodup:=(A.V.sh_nodup.sublist (List.take_sublist _ _)).sublist (List.drop_sublist _ _)
  have hi:=jZ I.O (i:=i.toNat) (j:=j.toNat)
  have l5:((S.sh.take j.toNat).drop i.toNat).length≤5:=by rw [List.length_drop,List.length_take];exact zDo i0 i1 j5
  have lB:(yb S.s1 (yH S.st.length mvs S.b.length ((S.sh.take j.toNat).drop i.toNat)) cus (S.s1.mov at_ ((S.sh.take j.toNat).drop i.toNat)).b ((S.sh.take j.toNat).drop i.toNat)).length=S.b.length+((S.sh.take j.toNat).drop i.toNat).length:=by
   rw [xX]
   show (S.b++List.replicate _ false).length=_
   rw [zU,List.length_replicate]
  have K:Kps S r ({ S.s1.mov at_ ((S.sh.take j.toNat).drop i.toNat) with b:=yb S.s1 (yH S.st.length mvs S.b.length ((S.sh.take j.toNat).drop i.toNat)) cus (S.s1.mov at_ ((S.sh.take j.toNat).drop i.toNat)).b ((S.sh.take j.toNat).drop i.toNat),dn:=S.dn++[.tup [.int hd,.str "move",.ref (q'+15)]] }:Sh) r':=fun q o a c h=>⟨kp q o a c h,a,c⟩
  refine ⟨_,_,_,_,r',?_,⟨A.V.mov nd hi hs (Qi hb (Nat.le_trans l5 (by decide))),⟨D'.ml,D'.cl,D'.m,D'.c,D'.nd⟩,A.N.step K rfl hq' (A.D.ge lq').1 (A.D.ge lq').2 (np lq') I.sl,K.p A.p,A.hd,?_,Y7 bl,dnl _,als _,lzs⟩,K,Nat.le_refl _⟩
  ·refine zN (fr:=[some (.ref 1),some (Deed.av hd (.mov i j p)),none,none,none,none,none,none]) rfl rfl (fr':=[some (.ref 1),some (Deed.av hd (.mov i j p)),some (.int hd),some (.str "move"),some (.int i),some (.int j),some (.int p),some (.str "")]) ?_
   unfold kB9
   dsimp only
   refine (z6 (X6 (z4 rfl) rfl)).trans ?_
   refine (z6 ((zH (zV (z4 rfl) rfl zGz)).trans zF)).trans ?_
   refine (z6 ((zH (zV (z4 rfl) rfl zH0)).trans zF)).trans ?_
   exact zL (zd (zG (a:=1) (z4 rfl) rfl z3g (ev1 (z4 rfl) (ev1 (z4 rfl) (ev1 (z4 rfl) (ev1 (z4 rfl) ev0)))) e))
  ·rw [lB];exact WM bb l5
end
theorem z3v {st:List Bool} {d:Nat} {v:Bool} (h:d<st.length):fl (st.set d v) d=v:=by
 unfold fl;rw [Int.toNat_natCast,List.getElem?_set_self h];rfl
section
variable {S:Sh} {r:Hp} {mvs:List (List (Int×Int))} {cus sg:List (List Int)} {P:List Nat} {hands:Int} {c k:Nat}
theorem Bs.up (A:Bs hands c k P S mvs cus sg r):Bs hands c (k+1) P S mvs cus sg r:=⟨A.V,A.D,A.N,A.p,A.hd,Y7 A.bb,Y7 A.bl,Nat.le_succ_of_le A.bn,A.al,Nat.le_succ_of_le A.lz⟩
theorem Bs.grow (A:Bs hands c k P S mvs cus sg r) (g:Hp) {P':List Nat} (hP:∀ q∈P',q∈P∨(r.length≤q∧q<(r++g).length)):Bs hands c k P' S mvs cus sg (r++g):=by
 refine ⟨A.V,A.D.grow g,fun d us h=>?_,fun q hq=>?_,A.hd,A.bb,A.bl,A.bn,A.al,A.lz⟩
 ·obtain ⟨hd',w,q,b,c,e1,e2,e3⟩:=A.N d us h
  refine ⟨hd',w,q,b,zC c,e1,e2,fun m=>?_⟩
  rcases hP q m with m | m
  ·exact e3 m
  ·exact absurd (yL c).1 (Nat.not_lt.mpr m.1)
 ·rcases hP q hq with m | m
  ·obtain ⟨p1,p2⟩:=A.p q m
   exact ⟨by rw [zU];exact Nat.lt_of_lt_of_le p1 (Nat.le_add_right _ _),p2⟩
  ·exact ⟨m.2,A.D.ge m.1⟩
theorem Bs.set (A:Bs hands c k P S mvs cus sg r) {j:Nat} (hj:j∈P) (o:AO):Bs hands c k P S mvs cus sg (r.set j o):=by
 obtain ⟨_,j1,j2⟩:=A.p j hj
 have D:=A.D
 refine ⟨A.V,⟨D.ml,D.cl,fun i k ps h1 h2=>?_,fun i k ds h1 h2=>?_,D.nd⟩,fun d us h=>?_,fun q hq=>?_,A.hd,A.bb,A.bl,A.bn,A.al,A.lz⟩
 ·rw [List.getElem?_set_ne (fun (e:j=k)=>j1 (e▸yM h1))];exact D.m i k ps h1 h2
 ·rw [List.getElem?_set_ne (fun (e:j=k)=>j2 (e▸yM h1))];exact D.c i k ds h1 h2
 ·obtain ⟨hd',w,q,b,c,e1,e2,e3⟩:=A.N d us h
  exact ⟨hd',w,q,b,by rw [List.getElem?_set_ne (fun (e:j=q)=>e3 (e▸hj))];exact c,e1,e2,e3⟩
 ·rw [List.length_set];exact A.p q hq
theorem QH {st:List Bool} {lo:List Int} {b:List Bool} {g:Hp}:Kps S r ((S.wl st lo).wb b) (r++g):=fun q o a c h=>⟨zC h,a,c⟩
theorem JA {l:List Int} {j:Nat} {x d:Int} (hj:l.findIdx? (· == d)=some j) (hx:x∈l) (ne:x≠d):x∈l.eraseIdx j:=by
 obtain ⟨i,hi⟩:=List.getElem?_of_mem hx
 refine List.mem_eraseIdx_iff_getElem?.mpr ⟨i,fun e=>?_,hi⟩
 subst e
 have h:=List.findIdx?_eq_some_iff_getElem.mp hj
 rw [y6 h.1] at hi
 cases hi
 exact ne (beq_iff_eq.mp h.2.1)
theorem Bs.at_ (A:Bs hands c k P S mvs cus sg r) {d:Nat} (h:d<S.dn.length):∃ us hd w q,sg[d]? = some us∧S.dn[d]? = some (.tup [.int hd,.str w,.ref (q+15)])∧r[q]? = some (.list (us.map AV.int))∧∀ i∈us,0≤i∧i<S.le.length:=by
 have e:=y6 (l:=sg) (i:=d) (by rw [A.V.I.sl];exact h)
 obtain ⟨hd,w,q,a,b,_⟩:=A.N d _ e
 exact ⟨_,hd,w,q,e,a,b,A.V.I.sr _ (yM e)⟩
theorem Bs.flip (A:Bs hands c k P S mvs cus sg r) {st:List Bool} {lo:List Int} {b:List Bool} {g:Hp} (V:Iv ((S.wl st lo).wb b) mvs cus sg) (hb:b.length=S.b.length) (al:∀ d:Nat,d<S.dn.length→fl st d=false→(d:Int)∈lo) (lz:lo.length≤k+1):Bs hands c (k+1) P ((S.wl st lo).wb b) mvs cus sg (r++g):=by
 have B:=A.up.grow g (P':=P) fun q h=>.inl h
 exact ⟨V,⟨B.D.ml,B.D.cl,B.D.m,B.D.c,B.D.nd⟩,B.N,B.p,B.hd,by show b.length≤_;rw [hb];exact B.bb,B.bl,B.bn,al,lz⟩
variable {T:Tab} {okf:Str→Str→Bool} (X:TT T okf) {n:Nat}
include X
theorem zEv (A:Bs hands c k P S mvs cus sg r) (hk:k<200) {d:Nat} (hd:d<S.dn.length) :
  ∃ S' r',(fl S.st d=true→run T (n+5) (.meth "Sheet" "take_back") [.ref 1,.int d] (S.hp r)=.ok .none (Sh.hp S' r'))∧(fl S.st d=false→run T (n+5) (.meth "Sheet" "do_again") [.ref 1,.int d] (S.hp r)=.ok .none (Sh.hp S' r')) ∧
   Bs hands c (k+1) P S' mvs cus sg r'∧Kps S r S' r'∧S'.le.length=S.le.length:=by
 obtain ⟨us,hd',w,q,e1,e3,e4,e5⟩:=A.at_ hd
 have hl:d<S.st.length:=by rw [A.V.I.st];exact hd
 cases hv:fl S.st d with
 | true =>
  obtain ⟨g,e⟩:=Ql X (n:=n) A.V.I A.D hv e3 e4 e5 (Nat.lt_of_le_of_lt A.lz hk)
  refine ⟨_,_,fun _=>e,fun h=>(nomatch h),A.flip (A.V.flip e1) (xX _ _) (fun x x1 x2=>?_) (by rw [zU];exact Nat.succ_le_succ A.lz),QH,rfl⟩
  by_cases q:x=d
  ·subst q;exact List.mem_append_right _ (.head _)
  ·refine List.mem_append_left _ (A.al x x1 ?_)
   rw [← x2];exact we (Int.natCast_nonneg _) fun e=>q (Int.ofNat.inj e)
 | false =>
  have hm:=A.al d hd hv
  obtain ⟨j,hj⟩:∃ j,S.lo.findIdx? (· == (d:Int))=some j:=⟨_,jS hm⟩
  obtain ⟨g,e⟩:=JD X (n:=n) A.V.I A.D hv e3 e4 e5 hj
  refine ⟨_,_,fun h=>(nomatch h),fun _=>e,A.flip (A.V.flip e1) (xX _ _) (fun x x1 x2=>?_) (Nat.le_trans (List.length_eraseIdx_le _ _) (Nat.le_succ_of_le A.lz)),QH,rfl⟩
  by_cases q:x=d
  ·subst q;rw [z3v hl] at x2;cases x2
  ·refine JA hj (A.al x x1 ?_) fun e=>q (Int.ofNat.inj e)
   rw [← x2];exact we (Int.natCast_nonneg _) fun e=>q (Int.ofNat.inj e)
end
section
variable {cf:CF} {fr fr1:AFr} {h h1 h2:Hp} {x y:XE} {v w:AV} {s:XS} {rs:List XS} {b:XS} {nw:Bool} {c:Str}
theorem X8 {op:CmpOp} {c:Bool} (e:x cf fr h=.ok v h1) (e':y cf fr h1=.ok w h2) (eb:yl op v w h2=some c):ju x [op] [y] cf fr h=.ok (.bool c) h2:=by
 unfold ju;rw [zV e e' eb];rfl
theorem xS {F:Fn} {args:List AV} (hn:args.length=F.np) (hf:args.map some++List.replicate (F.nl - F.np) none=fr) (e:F.body cf fr h=.exc nw c fr1 h1):yR F cf args h=.exc c h1:=by
 unfold yR;rw [if_pos hn,hf,e]
theorem yK (e:s cf fr h=.exc nw c fr1 h1):zA (s::rs) cf fr h=.exc nw c fr1 h1:=by
 show (match s cf fr h with
  | .ok .next fr₁ h₁=>zA rs cf fr₁ h₁
  | o=>o)=_
 rw [e]
theorem qS (e:x cf fr h=.exc c h1):zI x cf fr h=.exc false c fr h1:=by unfold zI;rw [e];rfl
theorem Yr {ps:List (Str×HB)} {o:OS} (e:b cf fr h=.exc false c fr1 h1) (hr:W9 c fr1 h1 ps=o):YD b ps cf fr h=o:=by
 unfold YD;rw [e];exact hr
theorem z06 (e:x cf fr h=.exc c h1):zW x cf fr h=.exc false c fr h1:=by unfold zW;rw [e];rfl
theorem zHa {xs:List XE} (e:x cf fr h=.exc c h1):evs (x::xs) cf fr h=.exc c h1:=by
 show (x cf fr h).bind _=_
 rw [e];rfl
theorem z34 {T:Tab} {n:Nat} {c x:Str} {F:Fn} {args:List AV} (e:T.meth c x=some F):run T (n+1) (.has c x) args h=.ok .none h:=by
 show (match T.meth c x with
  | some _=>Out.ok AV.none h
  | none=>.stuck)=_
 rw [e]
theorem Qj {t:XT} {fr2:AFr} {f:Nat} (e:t cf fr h=.ok true h1) (eb:b cf fr h1=.ok .next fr2 h2):yv t b (f+1) cf fr h=yv t b f cf fr2 h2:=by
 show (match t cf fr h with
  | .ok b' h₁=>(match b' with
   | true=>(match b cf fr h₁ with
    | .ok .next fr₂ h₂=>yv t b f cf fr₂ h₂
    | .ok (.ret v) fr₂ h₂=>.ok (.ret v) fr₂ h₂
    | _=>.stuck)
   | false=>OS.ok .next fr h₁)
  | _=>.stuck)=_
 rw [e]
 show (match b cf fr h1 with
  | .ok .next fr₂ h₂=>yv t b f cf fr₂ h₂
  | .ok (.ret v) fr₂ h₂=>.ok (.ret v) fr₂ h₂
  | _=>.stuck)=_
 rw [eb]
theorem jv {t:XT} {f:Nat} (e:t cf fr h=.ok false h1):yv t b (f+1) cf fr h=.ok .next fr h1:=by
 show (match t cf fr h with
  | .ok b' h₁=>(match b' with
   | true=>(match b cf fr h₁ with
    | .ok .next fr₂ h₂=>yv t b f cf fr₂ h₂
    | .ok (.ret v) fr₂ h₂=>.ok (.ret v) fr₂ h₂
    | _=>.stuck)
   | false=>OS.ok .next fr h₁)
  | _=>.stuck)=_
 rw [e]
theorem zF4 {a:Nat} {u v w:AV} (e:x cf fr h=.ok (.ref a) h1) (ha:h1[a]? = some (.list [u,v,w])):Qa x cf fr h=.ok (.ref h1.length) (h1++[.list [w,v,u]]):=by
 unfold Qa
 rw [e]
 show ofP ((zi h1 a).bind fun xs=>(Yt xs).map fun t=>(.ref h1.length,h1++[.list [t.2.2,t.2.1,t.1]]))=_
 rw [qb ha];rfl
end
theorem Yb {K:Type} [DecidableEq K] {a i:K} {u:AV} {kvs:List (K×AV)}:yp ((a,u)::kvs) i=if a=i then some u else yp kvs i:=by
 unfold yp
 by_cases h:a=i
 ·rw [if_pos h,List.find?_cons_of_pos (p:=fun kv:K×AV=>decide (kv.1=i)) (decide_eq_true h)];rfl
 ·rw [if_neg h,List.find?_cons_of_neg (p:=fun kv:K×AV=>decide (kv.1=i)) (by show ¬ decide (a=i)=true;rw [decide_eq_false h];exact Bool.false_ne_true)]
theorem JF {k:Int} {kvs:List (Int×AV)} (h:kvs.any (fun kv=>kv.1=k)=false):yp kvs k=none:=by
 induction kvs with
 | nil=>rfl
 | cons p kvs ih =>
  rw [List.any_cons,Bool.or_eq_false_iff] at h
  rw [Yb (a:=p.1) (u:=p.2),if_neg (of_decide_eq_false h.1)]
  exact ih h.2
section
variable {h:Hp} {a:Nat} {kvs:List (Int×AV)} {i j:Int} {u v:AV}
theorem jq (e:h[a]? = some (.dict kvs)):zw h a=some kvs:=by unfold zw;rw [e]
theorem xl (e:h[a]? = some (.dict kvs)):wF h (.ref a) (.int i)=yp kvs i:=by
 show (match zw h a with
  | some kvs=>yp kvs i
  | none=>_)=_
 rw [jq e]
theorem Xp (e:h[a]? = some (.dict kvs)) (z:kvs.length<small):qF h (.ref a) (.int i) v=some (h.set a (.dict (jr kvs i v))):=by
 rw [ZG,e];exact if_pos z
theorem Y2 (e:h[a]? = some (.dict kvs)):yl .NotIn (.int i) (.ref a) h=some (!(yp kvs i).isSome):=by
 show ((zw h a).map (fun kvs=>(yp kvs i).isSome)).map (!·)=_
 rw [jq e];rfl
theorem Wd (e:h[a]? = some (.dict kvs)) (e':yp kvs i=some u):ofP (meD .pop a [.int i] h)=.ok u (h.set a (.dict (kvs.filter fun x=>!decide (x.1=i)))):=by
 show ofP ((zw h a).bind fun kvs=>(yp kvs i).map fun v=>(v,h.set a (.dict (kvs.filter fun x=>!decide (x.1=i)))))=_
 rw [jq e]
 show ofP ((yp kvs i).map _)=_
 rw [e'];rfl
theorem Y6 (e:h[a]? = some (.dict kvs)):yu .list [.ref a] h=.ok (.ref h.length) (h++[.list (kvs.map fun p=>.int p.1)]):=by
 rw [XZ,e]
theorem Qe (e:h[a]? = some (.dict kvs)) (z:kvs.length<64) (z':(kvs.map (·.1)).Pairwise (·≤·)):yu .sorted [.ref a] h=.ok (.ref h.length) (h++[.list (kvs.map fun p=>.int p.1)]):=by
 show ofP (match zw h a with
  | some kvs=>if kvs.length<64∧(kvs.map (·.1)).Pairwise (·≤·) then some (.ref h.length,h++[.list (kvs.map fun p=>.int p.1)]) else none
  | none=>_)=_
 rw [jq e]
 show ofP (if _ then _ else _)=_
 rw [if_pos ⟨z,z'⟩];rfl
theorem jh {is:List Int} (e:h[a]? = some (.list (is.map AV.int))) (z:is.length<64) (z':is.Pairwise (·≤·)):yu .sorted [.ref a] h=.ok (.ref h.length) (h++[.list (is.map AV.int)]):=by
 show ofP (match zw h a with
  | some _=>_
  | none=>(zi h a).bind fun xs=>(match yI y8 xs with
   | some is=>if is.length<64∧is.Pairwise (·≤·) then some (AV.ref h.length,h++[.list (is.map AV.int)]) else none
   | none=>_))=_
 rw [show zw h a=none from by unfold zw;rw [e],qb e]
 show ofP (match yI y8 (is.map AV.int) with
   | some is=>if is.length<64∧is.Pairwise (·≤·) then some (AV.ref h.length,h++[.list (is.map AV.int)]) else none
   | none=>_)=_
 rw [Q3]
 show ofP (if _ then _ else _)=_
 rw [if_pos ⟨z,z'⟩];rfl
theorem z3f (qs:List (Int×Int)):yI Qw (qs.map prV)=some qs:=by
 induction qs with
 | nil=>rfl
 | cons q qs ih=>exact xJ (y:=q) rfl ih
noncomputable abbrev srt (qs:List (Int×Int)):List (Int×Int):=qs.mergeSort fun x y=>decide (code x≤code y)
theorem z1y {qs:List (Int×Int)} (e:h[a]? = some (.list (qs.map prV))) (z:qs.length<64) (ok:∀ q∈qs,jk q) (nd:(qs.map code).Nodup):yu .sorted [.ref a] h=.ok (.ref h.length) (h++[.list ((srt qs).map prV)]):=by
 cases hq:qs with
 | nil=>rw [hq] at e;rw [show srt []=[] from List.mergeSort_nil];exact jh (is:=[]) e (by decide) .nil
 | cons q qs' =>
 show ofP (match zw h a with
  | some _=>_
  | none=>(zi h a).bind fun xs=>(match yI y8 xs with
   | some is=>_
   | none=>(yI Qw xs).bind fun qs=>if qs.length<64∧(∀ q∈qs,jk q)∧(qs.map code).Nodup then some (.ref h.length,h++[.list ((srt qs).map prV)]) else none))=_
 rw [show zw h a=none from by unfold zw;rw [e],qb e]
 show ofP (match yI y8 (qs.map prV) with
   | some is=>_
   | none=>(yI Qw (qs.map prV)).bind fun qs=>if qs.length<64∧(∀ q∈qs,jk q)∧(qs.map code).Nodup then some (.ref h.length,h++[.list ((srt qs).map prV)]) else none)=_
 rw [show yI y8 (qs.map prV)=none from by rw [hq];rfl,z3f]
 show ofP (if _ then _ else _)=_
 rw [if_pos ⟨z,ok,nd⟩,hq];rfl
end
section
variable {T:Tab} {okf:Str→Str→Bool} (X:TT T okf) {n:Nat} {l:List Int} {b:List Bool} {r:Hp} {o0 o1 o2:AO}
include X
theorem YN {fr:AFr} {k:Nat} {x:Int} (f0:fr[0]? = some (some (.ref 3))) (fk:fr[k]? = some (some (.int x))) (hx:x∈l):z8 (zE (z5 0) "line") "index" (some .index) [(z5 k)] (run T n) fr (H o0 o1 o2 l b r)=.ok (.int (pos l x:Nat)) (H o0 o1 o2 l b r):=by
 refine j3 (zO (z4 f0) rfl lk1) (ys:=l.map AV.int) rfl (ev1 (z4 fk) ev0) ?_
 rw [jV]
 show (match jC (H o0 o1 o2 l b r) (.ref 4) (.int x) with | some k=>Out.ok (AV.int k) _ | none=>.stuck)=_
 rw [wu (l:=l) rfl,jS hx]
theorem YE {x y:Int} (x0:0≤x) (x1:x<b.length) (y0:0≤y) (y1:y<b.length) (hx:x∈l) (hy:y∈l) :
  run T (n+3) (.meth "Row" "is_ahead") [.ref 3,.int x,.int y] (H o0 o1 o2 l b r)=.ok (.bool (decide (pos l x<pos l y))) (H o0 o1 o2 l b r):=by
 rw [zJ X.kAv]
 exact zN (fr:=[some (.ref 3),some (.int x),some (.int y)]) rfl rfl (fr':=[some (.ref 3),some (.int x),some (.int y)])
  ((z6 (zY (zG (a:=3) (z4 rfl) rfl lk3 (ev1 (z4 rfl) ev0) (xY X (n:=n) x0 x1)))).trans ((z6 (zY (zG (a:=3) (z4 rfl) rfl lk3 (ev1 (z4 rfl) ev0) (xY X (n:=n) y0 y1)))).trans
   (zL (zd (X8 (YN X rfl rfl hx) (YN X rfl rfl hy) (by rw [yS];exact congrArg some (decide_eq_decide.mpr Int.ofNat_lt)))))))
end
theorem Q6 {h:Int}:List.lookup ("is_ahead" : Str) (fS h)=none:=rfl
noncomputable def Sh.Pv (S:Sh) (mvs:List (List (Int×Int))) (cus:List (List Int)) (i:Int):AV:=.tup [.int (S.pl mvs i:Nat),.bool (S.shw cus i)]
section
variable {T:Tab} {okf:Str→Str→Bool} (X:TT T okf) {n:Nat} {S:Sh} {r:Hp} {mvs:List (List (Int×Int))} {cus sg:List (List Int)}
include X
theorem Zd (I:Iw S mvs cus sg) (D:Dy S mvs cus r) {i:Int} (h0:0≤i) (h1:i<S.le.length):∃ g,run T (n+4) (.meth "Sheet" "place_of") [.ref 1,.int i] (S.hp r)=.ok (S.Pv mvs cus i) (S.hp (r++g)) :=
 Wx X I D h0 h1 (jS (I.cur_mem h0 h1).1)
theorem J5 (I:Iw S mvs cus sg) (D:Dy S mvs cus r) {i j:Int} (i0:0≤i) (i1:i<S.le.length) (j0:0≤j) (j1:j<S.le.length) :
  run T (n+4) (.meth "Sheet" "is_ahead") [.ref 1,.int i,.int j] (S.hp r)=.ok (.bool (decide (S.at_ mvs i<S.at_ mvs j))) (S.hp r):=by
 obtain ⟨_,a0,a1⟩:=XU X I i0 i1
 obtain ⟨_,b0,b1⟩:=XU X I j0 j1
 have e:run T (n+3) (.meth "Row" "is_ahead") [.ref 3,.int (S.cur mvs i),.int (S.cur mvs j)] (S.hp r)=.ok (.bool (decide (S.at_ mvs i<S.at_ mvs j))) (S.hp r) :=
  YE X (n:=n) (o0:=S.g0) (o1:=.inst "Sheet" (fS S.hands)) (o2:=S.g2) (r:=S.tl r) a0 a1 b0 b1 (I.cur_mem i0 i1).1 (I.cur_mem j0 j1).1
 rw [zJ X.kAi]
 exact zN (fr:=[some (.ref 1),some (.int i),some (.int j)]) rfl rfl (fr':=[some (.ref 1),some (.int i),some (.int j)])
  ((z6 (zY (zG (a:=1) (z4 rfl) rfl xv (ev1 (z4 rfl) ev0) (qw X (n:=n+1) i0 i1)))).trans ((z6 (zY (zG (a:=1) (z4 rfl) rfl xv (ev1 (z4 rfl) ev0) (qw X (n:=n+1) j0 j1)))).trans
   (zL (zd (zG (a:=3) (zO (z4 rfl) rfl kS2) rfl QC (ev1 (zG (a:=1) (z4 rfl) rfl qJ (ev1 (z4 rfl) ev0) (wN X (n:=n+2) I.K D i0 i1)) (ev1 (zG (a:=1) (z4 rfl) rfl qJ (ev1 (z4 rfl) ev0) (wN X (n:=n+2) I.K D j0 j1)) ev0)) e)))))
end
set_option genInjectivity false
set_option genSizeOf false
noncomputable abbrev fT (kq:Nat) (m:Int):List (Str×AV):=[("sheet",.ref 1),("kept",.ref (kq+15)),("coming",.int m)]
section
variable {kq:Nat} {m:Int}
theorem kT1:List.lookup ("sheet" : Str) (fT kq m)=some (.ref 1):=rfl
theorem kT2:List.lookup ("kept" : Str) (fT kq m)=some (.ref (kq+15)):=rfl
theorem kT3:List.lookup ("coming" : Str) (fT kq m)=some (.int m):=rfl
theorem ZM:List.lookup ("need_mark" : Str) (fT kq m)=none:=rfl
theorem XD:List.lookup ("told" : Str) (fT kq m)=none:=rfl
theorem jW:List.lookup ("sign" : Str) (fT kq m)=none:=rfl
theorem We:List.lookup ("drop" : Str) (fT kq m)=none:=rfl
theorem Zm:List.lookup ("stick" : Str) (fT kq m)=none:=rfl
theorem Zn:List.lookup ("numbers" : Str) (fT kq m)=none:=rfl
theorem zG8:List.lookup ("of" : Str) (fT kq m)=none:=rfl
theorem Q5:List.lookup ("order" : Str) (fT kq m)=none:=rfl
end
theorem qx {h:Int}:List.lookup ("sign_at" : Str) (fS h)=none:=rfl
theorem W5 {h:Int}:List.lookup ("rank_of" : Str) (fS h)=none:=rfl
structure Th (r:Hp) (tq kq:Nat) (m:Int) (kvs:List (Int×AV)):Prop where
 t:r[tq]? = some (.inst "Marks" (fT kq m))
 k:r[kq]? = some (.dict kvs)
theorem Th.grow {r:Hp} {tq kq:Nat} {m:Int} {kvs:List (Int×AV)} (H:Th r tq kq m kvs) (g:Hp):Th (r++g) tq kq m kvs:=⟨zC H.t,zC H.k⟩
theorem Th.T {r:Hp} {tq kq:Nat} {m:Int} {kvs:List (Int×AV)} (H:Th r tq kq m kvs) (S:Sh):(S.hp r)[tq+15]? = some (.inst "Marks" (fT kq m)):=H.t
theorem Th.K {r:Hp} {tq kq:Nat} {m:Int} {kvs:List (Int×AV)} (H:Th r tq kq m kvs) (S:Sh):(S.hp r)[kq+15]? = some (.dict kvs):=H.k
noncomputable def Rg (m:Nat) (p:Int×Int):Prop:=0≤p.2∧p.2<m
noncomputable abbrev Es:=List (Int×Int×Int)
noncomputable def kvO (es:Es):List (Int×AV):=es.map fun e=>(e.1,prV e.2)
noncomputable def ksO (es:Es):List Int:=es.map (·.1)
theorem wY (es:Es):((kvO es).map fun p=>AV.int p.1)=(ksO es).map AV.int:=by unfold kvO ksO;rw [List.map_map,List.map_map];rfl
theorem Wg (es:Es):(kvO es).map (·.1)=ksO es:=by unfold kvO ksO;rw [List.map_map];rfl
theorem qy (es:Es):(ksO es).length=es.length:=List.length_map _
theorem xw {es:Es} (nd:(ksO es).Pairwise (·<·)) {e:Int×Int×Int} (h:e∈es):yp (kvO es) e.1=some (prV e.2):=by
 induction es with
 | nil=>cases h
 | cons a es ih =>
  obtain ⟨n1,n2⟩:=List.pairwise_cons.mp (show (a.1::ksO es).Pairwise (·<·) from nd)
  show yp ((a.1,prV a.2)::kvO es) e.1=_
  rw [Yb]
  rcases List.mem_cons.mp h with rfl | h
  ·exact if_pos rfl
  ·rw [if_neg (Int.ne_of_lt (n1 e.1 (List.mem_map.mpr ⟨e,h,rfl⟩)))];exact ih n2 h
section
variable {T:Tab} {okf:Str→Str→Bool} (X:TT T okf) {n:Nat} {S:Sh} {r:Hp} {mvs:List (List (Int×Int))} {cus sg:List (List Int)} {tq kq:Nat} {m:Int} {kvs:List (Int×AV)}
include X
theorem ZX (I:Iw S mvs cus sg) {p:Int} (h0:0≤p) (h1:p<S.sh.length):∃ g,run T (n+4) (.meth "Sheet" "sign_at") [.ref 1,.int p] (S.hp r)=.ok (.int (S.sh[p.toNat]?.getD 0)) (S.hp (r++g)):=by
 have hl:p.toNat<(tk S.b S.l).length:=by rw [← I.O.tkl.1];exact jO h0 h1
 have hx:=y6 hl
 obtain ⟨x0,x1⟩:=I.O.G.rng _ (List.mem_filter.mp (List.getElem_mem hl)).1
 obtain ⟨g,e⟩:=zDl X (n:=n) (l:=S.l) (b:=S.b) (o0:=S.g0) (o1:=.inst "Sheet" (fS S.hands)) (o2:=S.g2) (r:=S.tl r) (p:=p) h0 (by rw [← I.O.tkl.1];exact h1) I.O.G
 rw [hx] at e
 have e':run T (n+3) (.meth "Row" "find") [.ref 3,.int p] (S.hp r)=.ok (.int (tk S.b S.l)[p.toNat]) (S.hp (r++g)):=e
 refine ⟨g,?_⟩
 rw [zJ X.kAm]
 obtain ⟨y,hy,_⟩:=I.O.at_ (List.mem_filter.mp (List.getElem_mem hl)).1
 have e2:S.sh[p.toNat]?.getD 0=y:=by unfold Sh.sh;rw [List.getElem?_map,hx];show S.ow[_]?.getD 0=y;rw [hy];rfl
 rw [e2]
 exact zN (fr:=[some (.ref 1),some (.int p)]) rfl rfl (fr':=[some (.ref 1),some (.int p)]) (zL (zd (zZ (zO (z4 rfl) rfl kS3) (zG (a:=3) (zO (z4 rfl) rfl kS2) rfl XH (ev1 (z4 rfl) ev0) e') (ZN (l:=S.ow) rfl x0 hy (by rw [I.O.ow];exact Nat.le_of_lt I.O.G.sm'.2)))))
theorem z05 (I:Iw S mvs cus sg) (D:Dy S mvs cus r) {i:Int} (h0:0≤i) (h1:i<S.le.length):∃ g,run T (n+4) (.meth "Sheet" "rank_of") [.ref 1,.int i] (S.hp r)=.ok (.int (S.at_ mvs i:Nat)) (S.hp (r++g)):=by
 refine ⟨[.list (S.l.map AV.int)],?_⟩
 rw [zJ X.kAp]
 have eo:run T (n+3) (.meth "Row" "order") [.ref 3] (S.hp r)=.ok (.ref (r.length+15)) (S.hp (r++[.list (S.l.map AV.int)])):=z0f X (n:=n+2) (l:=S.l) (b:=S.b) (o0:=S.g0) (o1:=.inst "Sheet" (fS S.hands)) (o2:=S.g2) (r:=S.tl r) (Nat.le_of_lt I.O.G.sm'.1)
 have hq:(S.hp (r++[.list (S.l.map AV.int)]))[r.length+15]? = some (.list (S.l.map AV.int)):=zP _ _ []
 refine zN (fr:=[some (.ref 1),some (.int i)]) rfl rfl (fr':=[some (.ref 1),some (.int i)]) ((z6 (zY (zG (a:=1) (z4 rfl) rfl xv (ev1 (z4 rfl) ev0) (qw X (n:=n+1) h0 h1)))).trans (zL (zd (j3 (zG (a:=3) (zO (z4 rfl) rfl kS2) rfl QA ev0 eo) hq (ev1 (zG (a:=1) (z4 rfl) rfl qJ (ev1 (z4 rfl) ev0) (wN X (n:=n+2) I.K (D.grow _) h0 h1)) ev0) ?_))))
 rw [jV,hq]
 show (match jC (S.hp (r++[.list (S.l.map AV.int)])) (.ref (r.length+15)) (.int (S.cur mvs i)) with | some k=>Out.ok (AV.int k) _ | none=>.stuck)=_
 rw [wu hq,jS (I.cur_mem h0 h1).1];rfl
theorem Zg (H:Th r tq kq m kvs) {i:Int} {u:AV} (h:yp kvs i=some u):run T (n+2) (.meth "Marks" "need_mark") [.ref (tq+15),.int i] (S.hp r)=.ok .none (S.hp r):=by
 rw [zJ X.kAd]
 exact y7 (fr:=[some (.ref (tq+15)),some (.int i)]) rfl rfl (fr':=[some (.ref (tq+15)),some (.int i)]) ((z6 ((zH (xD (zt (b:=true) (yT (v:=.bool true) (zu (ev1 (z4 rfl) ev0) (yA X)) rfl)) (xD (zV (z4 rfl) (zO (z4 rfl) (H.T S) kT2) (by rw [Y2 (H.K S),h];rfl)) qR))).trans zF)).trans zF)
theorem Z1 (H:Th r tq kq m kvs) {i:Int} (h:yp kvs i=none):run T (n+2) (.meth "Marks" "need_mark") [.ref (tq+15),.int i] (S.hp r)=.exc "NoMark" (S.hp r):=by
 rw [zJ X.kAd]
 exact xS (fr:=[some (.ref (tq+15)),some (.int i)]) rfl rfl (yK ((zg (xD (zt (b:=true) (yT (v:=.bool true) (zu (ev1 (z4 rfl) ev0) (yA X)) rfl)) (Xv (zV (z4 rfl) (zO (z4 rfl) (H.T S) kT2) (by rw [Y2 (H.K S),h];rfl))))).trans (yK rfl)))
theorem Jr (H:Th r tq kq m kvs) {i:Int} (h:yp kvs i=none):run T (n+3) (.meth "Marks" "sign") [.ref (tq+15),.int i] (S.hp r)=.exc "NoMark" (S.hp r):=by
 rw [zJ X.kBa]
 exact xS (fr:=[some (.ref (tq+15)),some (.int i)]) rfl rfl (yK (qS (zG (z4 rfl) (H.T S) ZM (ev1 (z4 rfl) ev0) (Z1 X (n:=n) H h))))
theorem z4d (H:Th r tq kq m kvs) {i:Int} {p:Int×Int} (h:yp kvs i=some (prV p)):run T (n+3) (.meth "Marks" "sign") [.ref (tq+15),.int i] (S.hp r)=.ok (.int p.2) (S.hp r):=by
 rw [zJ X.kBa]
 exact zN (fr:=[some (.ref (tq+15)),some (.int i)]) rfl rfl (fr':=[some (.ref (tq+15)),some (.int i)]) ((z6 (zY (zG (z4 rfl) (H.T S) ZM (ev1 (z4 rfl) ev0) (Zg X (n:=n) H h)))).trans (zL (zd (zZ (zZ (zO (z4 rfl) (H.T S) kT2) (z4 rfl) (by rw [xl (h:=S.hp r) (H.K S)];exact h)) rfl rfl))))
theorem zDt (H:Th r tq kq m kvs) {i:Int} (h:yp kvs i=none):run T (n+4) (.meth "Marks" "told") [.ref (tq+15),.int i] (S.hp r)=.exc "NoMark" (S.hp r):=by
 rw [zJ X.kBh]
 exact xS (fr:=[some (.ref (tq+15)),some (.int i)]) rfl rfl (yK (z06 (z37 (a:=1) (zO (z4 rfl) (H.T S) kT1) rfl qX (zHa (zG (z4 rfl) (H.T S) jW (ev1 (z4 rfl) ev0) (Jr X (n:=n) H h))) (z34 X.kAl))))
theorem zEg (H:Th r tq kq m kvs) {i:Int} (h:yp kvs i=none):run T (n+3) (.meth "Marks" "drop") [.ref (tq+15),.int i] (S.hp r)=.exc "NoMark" (S.hp r):=by
 rw [zJ X.kBc]
 exact xS (fr:=[some (.ref (tq+15)),some (.int i)]) rfl rfl (yK (qS (zG (z4 rfl) (H.T S) ZM (ev1 (z4 rfl) ev0) (Z1 X (n:=n) H h))))
theorem zGk (H:Th r tq kq m kvs) {i:Int} {u:AV} (h:yp kvs i=some u):run T (n+3) (.meth "Marks" "drop") [.ref (tq+15),.int i] (S.hp r)=.ok .none (S.hp (r.set kq (.dict (kvs.filter fun x=>!decide (x.1=i))))):=by
 rw [zJ X.kBc]
 exact y7 (fr:=[some (.ref (tq+15)),some (.int i)]) rfl rfl (fr':=[some (.ref (tq+15)),some (.int i)]) ((z6 (zY (zG (z4 rfl) (H.T S) ZM (ev1 (z4 rfl) ev0) (Zg X (n:=n) H h)))).trans ((z6 (zY (z4e (zO (z4 rfl) (H.T S) kT2) (H.K S) (ev1 (z4 rfl) ev0) (Wd (h:=S.hp r) (H.K S) h)))).trans zF))
theorem z4a (I:Iw S mvs cus sg) (D:Dy S mvs cus r) (H:Th r tq kq m kvs) {i:Int} {p:Int×Int} (h:yp kvs i=some (prV p)) (rg:Rg S.le.length p):∃ g,run T (n+5) (.meth "Marks" "told") [.ref (tq+15),.int i] (S.hp r)=.ok (S.Pv mvs cus p.2) (S.hp (r++g)):=by
 obtain ⟨g,e⟩:=Zd X (n:=n) I D rg.1 rg.2
 refine ⟨g,?_⟩
 rw [zJ X.kBh]
 exact zN (fr:=[some (.ref (tq+15)),some (.int i)]) rfl rfl (fr':=[some (.ref (tq+15)),some (.int i)]) (zL (zd (zG (a:=1) (zO (z4 rfl) (H.T S) kT1) rfl qX (ev1 (zG (z4 rfl) (H.T S) jW (ev1 (z4 rfl) ev0) (z4d X (n:=n+1) H h)) ev0) e)))
end
section
variable {T:Tab} {okf:Str→Str→Bool} (X:TT T okf) {n:Nat} {S:Sh} {r:Hp} {tq kq:Nat} {m:Int} {es:Es}
include X
theorem Xx (H:Th r tq kq m (kvO es)) (nd:(ksO es).Pairwise (·<·)) (z:es.length<64):run T (n+1) (.meth "Marks" "numbers") [.ref (tq+15)] (S.hp r)=.ok (.ref (r.length+15)) (S.hp (r++[.list ((ksO es).map AV.int)])):=by
 rw [zJ X.kAo]
 have e:=Qe (h:=S.hp r) (H.K S) (by unfold kvO;rw [List.length_map];exact z) (by rw [Wg];exact nd.imp Int.le_of_lt)
 rw [wY] at e
 exact zN (fr:=[some (.ref (tq+15))]) rfl rfl (fr':=[some (.ref (tq+15))]) (zL (zd (xM (ev1 (zO (z4 rfl) (H.T S) kT2) ev0) e)))
end
theorem qn {h:Hp} {a:Nat} {xs:List AV} (e:h[a]? = some (.list xs)):xC h (.ref a)=some (.ref a,xs.length):=by
 show (match h[a]? with | some (.list xs)=>some (Src.ref a,xs.length) | _=>none)=_
 rw [e]
theorem ym {h:Hp} {a k:Nat} {xs:List AV} (e:h[a]? = some (.list xs)):(Src.ref a).next? h k=some xs[k]? := by
 show (match h[a]? with | some (.list ys)=>some ys[k]? | _=>none)=_
 rw [e]
theorem xa {h:Hp} {a:Nat} {xs:List AV} {i:Int} {v:AV} (e:h[a]? = some (.list xs)) (o:okI i=true) (hv:xs[i.toNat]? = some v):wF h (.ref a) (.int i)=some v:=by
 rw [qa o,e];exact hv
theorem ZS {t:XT} {cf:CF} {fr:AFr} {h h1:Hp} {b:Bool} (e:t cf fr h=.ok b h1):zT .And [t] cf fr h=.ok b h1:=by
 cases b with
 | true=>exact qT e Zc
 | false=>exact xI e
theorem q9 {α:Type} (gv:α→AV) {S:Sh} {cf:CF} {it:XE} {own i a:Nat} {test:XT} {elt:XE} {fr:AFr} {h r:Hp} {l:List α} {p:α→Bool} {f:α→AV}
  (e1:it cf fr h=.ok (.ref (a+15)) (S.hp r)) (e2:r[a]? = some (.list (l.map gv))) (hi:i<(fr++List.replicate own none).length) (hsm:l.length<small)
  (ht:∀ x∈l,∀ G,∃ g,test cf ((fr++List.replicate own none).set i (some (gv x))) (S.hp (r++G))=.ok (p x) (S.hp (r++G++g)))
  (he:∀ x∈l,p x=true→∀ G,∃ g,elt cf ((fr++List.replicate own none).set i (some (gv x))) (S.hp (r++G))=.ok (f x) (S.hp (r++G++g))) :
  ∃ G,yE it own (.one i) test elt cf fr h=.ok (.ref ((r++G).length+15)) (S.hp (r++G++[.list ((l.filter p).map f)])):=by
 have key:∀ (m k:Nat) (acc:List AV) (fr':AFr) (G:Hp),k+m=l.length→i<fr'.length→(∀ v,fr'.set i v=(fr++List.replicate own none).set i v)→acc.length≤k →
   ∃ G',yJ (.one i) test elt (.ref (a+15)) (m+1) k acc cf fr' (S.hp (r++G))=.ok (acc++((l.drop k).filter p).map f) (S.hp (r++G')):=by
  intro m
  induction m with
  | zero =>
   intro k acc fr' G hk hl hs ha
   have hk:k=l.length:=hk
   refine ⟨G,?_⟩
   show (match (Src.ref (a+15)).next? (S.hp (r++G)) k with
    | none=>Out.stuck
    | some none=>.ok acc (S.hp (r++G))
    | some (some x)=>_)=_
   rw [ym (show (S.hp (r++G))[a+15]? = _ from zC e2),List.getElem?_eq_none (by rw [List.length_map];exact Nat.le_of_eq hk.symm),List.drop_eq_nil_of_le (Nat.le_of_eq hk.symm)]
   show Out.ok acc _=.ok (acc++[]) _
   rw [List.append_nil]
  | succ m ih =>
   intro k acc fr' G hk hl hs ha
   have hk':k<l.length:=by rw [← hk];exact Nat.lt_add_of_pos_right (Nat.succ_pos m)
   have hm:l[k]∈l:=List.getElem_mem hk'
   have ek:k+1+m=l.length:=by rw [← hk,Nat.add_assoc,Nat.add_comm 1 m]
   obtain ⟨g1,q1⟩:=ht _ hm G
   rw [← hs] at q1
   have hb:NTgt.bind (.one i) (gv l[k]) fr'=some (fr'.set i (some (gv l[k]))):=if_pos hl
   have g2:i<(fr'.set i (some (gv l[k]))).length:=by rw [List.length_set];exact hl
   have g3:∀ v,(fr'.set i (some (gv l[k]))).set i v=(fr++List.replicate own none).set i v:=fun v=>by rw [List.set_set];exact hs v
   rw [List.drop_eq_getElem_cons hk',List.filter_cons]
   rw [jt,ym (show (S.hp (r++G))[a+15]? = _ from zC e2),List.getElem?_map,y6 hk']
   dsimp only [Option.map]
   rw [hb]
   dsimp only
   rw [q1,Out.bind0_ok]
   cases hp:p l[k] with
   | true =>
    obtain ⟨g4,q2⟩:=he _ hm hp (G++g1)
    rw [← hs,← List.append_assoc] at q2
    rw [if_pos rfl,q2,Out.bind0_ok,if_pos (Nat.lt_of_le_of_lt ha (Nat.lt_trans hk' hsm))]
    obtain ⟨G',q3⟩:=ih (k+1) (acc++[f l[k]]) _ (G++g1++g4) ek g2 g3 (by rw [zU];exact Nat.succ_le_succ ha)
    rw [← List.append_assoc,← List.append_assoc] at q3
    exact ⟨G',by rw [q3,List.append_assoc];rfl⟩
   | false =>
    rw [if_neg Bool.false_ne_true]
    obtain ⟨G',q3⟩:=ih (k+1) acc _ (G++g1) ek g2 g3 (Nat.le_succ_of_le ha)
    rw [← List.append_assoc] at q3
    exact ⟨G',q3⟩
 obtain ⟨G,e⟩:=key l.length 0 [] (fr++List.replicate own none) [] (Nat.zero_add _) hi (fun _=>rfl) (Nat.le_refl _)
 rw [List.append_nil] at e
 refine ⟨G,?_⟩
 unfold yE
 rw [e1,Out.bind_ok,qn (show (S.hp r)[a+15]? = _ from e2)]
 dsimp only
 rw [List.length_map,e]
 rfl
theorem wp (es:Es):(ksO es).map AV.int=es.map fun e=>AV.int e.1:=List.map_map
theorem ZL {cf:CF} {fr:AFr} {h:Hp}:zT .And [] cf fr h=.ok true h:=rfl
theorem je {α:Type} (l:List α):l.filter (fun _=>true)=l:=List.filter_eq_self.mpr fun _ _=>rfl
noncomputable def Sh.rk (S:Sh) (mvs:List (List (Int×Int))) (e:Int×Int×Int):Int×Int:=((S.at_ mvs e.2.2:Nat),e.1)
noncomputable def Sh.ord (S:Sh) (mvs:List (List (Int×Int))) (es:Es):List Int:=(srt (es.map (S.rk mvs))).map (·.2)
noncomputable def wh (es:Es):Prop:=∀ e∈es,0≤e.1∧e.1<1048576
theorem z01 {S:Sh} {mvs:List (List (Int×Int))} {es:Es} (hs:wh es):∀ q∈es.map (S.rk mvs),jk q:=fun q h=>by
 obtain ⟨e,he,rfl⟩:=List.mem_map.mp h
 exact hs e he
theorem QX {p q:Int×Int} (hp:jk p) (hq:jk q) (h:code p=code q):p.2=q.2:=by
 have h:p.1 * 1048576+p.2=q.1 * 1048576+q.2:=h
 have h1:0≤p.2∧p.2<1048576:=hp
 have h2:0≤q.2∧q.2<1048576:=hq
 lia
theorem zF0 {S:Sh} {mvs:List (List (Int×Int))} {es:Es} (hs:wh es) (nd:(ksO es).Pairwise (·<·)):((es.map (S.rk mvs)).map code).Nodup:=by
 have nd:(es.map fun (e:Int×Int×Int)=>e.1).Pairwise (·<·):=nd
 rw [List.pairwise_map] at nd
 rw [List.map_map]
 show List.Pairwise _ _
 rw [List.pairwise_map]
 refine List.Pairwise.imp_of_mem (fun {a b} ha hb h e=>?_) nd
 exact Int.ne_of_lt h (QX (p:=S.rk mvs a) (q:=S.rk mvs b) (hs a ha) (hs b hb) e)
section
variable {T:Tab} {okf:Str→Str→Bool} (X:TT T okf) {n:Nat} {S:Sh} {r:Hp} {mvs:List (List (Int×Int))} {cus sg:List (List Int)} {tq kq:Nat} {m:Int} {es:Es}
include X
theorem z07 (H:Th r tq kq m (kvO es)) (nd:(ksO es).Pairwise (·<·)) (z:es.length<64) {fr:AFr} (f0:fr[0]? = some (some (.ref (tq+15)))):zD (zB (some (.bi .sorted))) [(zE (z5 0) "kept")] (run T n) fr (S.hp r)=.ok (.ref (r.length+15)) (S.hp (r++[.list ((ksO es).map AV.int)])):=by
 have e:=Qe (h:=S.hp r) (H.K S) (by unfold kvO;rw [List.length_map];exact z) (by rw [Wg];exact nd.imp Int.le_of_lt)
 rw [wY] at e
 exact xM (ev1 (zO (z4 f0) (H.T S) kT2) ev0) e
theorem of_ (H:Th r tq kq m (kvO es)) (nd:(ksO es).Pairwise (·<·)) (z:es.length<64) {hd:Int} (h0:0≤hd) (h1:hd<S.hands):∃ G,run T (n+3) (.meth "Marks" "of") [.ref (tq+15),.int hd] (S.hp r)=.ok (.ref ((r++G).length+15)) (S.hp (r++G++[.list ((ksO (es.filter fun e=>decide (e.2.1=hd))).map AV.int)])):=by
 obtain ⟨G,e⟩:=q9 (S:=S) (fun e:Int×Int×Int=>AV.int e.1) (r:=r++[.list ((ksO es).map AV.int)]) (l:=es) (p:=fun e=>decide (e.2.1=hd)) (f:=fun e=>AV.int e.1) (own:=1) (i:=2) (test:=zT .And [(zQ (zK (zK (zE (z5 0) "kept") (z5 2)) (z7 (.int 0))) [.Eq] [(z5 1)])]) (elt:=z5 2) (cf:=run T (n+2)) (fr:=[some (.ref (tq+15)),some (.int hd)])
  (z07 X H nd z rfl) (by rw [wp];exact zP _ _ []) (zc rfl) (Nat.lt_trans z (by decide))
  (fun e he G=>⟨[],by
   rw [List.append_nil]
   have t:=zV (op:=.Eq) (y:=z5 1) (w:=.int hd) (b:=decide (e.2.1=hd)) (zZ (i:=z7 (.int 0)) (zZ (zO (o:=z5 0) (cf:=run T (n+2)) (fr:=[some (.ref (tq+15)),some (.int hd),some (.int e.1)]) (z4 rfl) (((H.grow [.list ((ksO es).map AV.int)]).grow G).T S) kT2) (i:=z5 2) (z4 rfl) (by rw [xl (((H.grow [.list ((ksO es).map AV.int)]).grow G).K S)];exact xw nd he)) rfl rfl) (z4 rfl) (by rw [yr,yZ])
   exact ZS t⟩)
  (fun e _ _ G=>⟨[],by rw [List.append_nil];exact z4 rfl⟩)
 refine ⟨[.list ((ksO es).map AV.int)]++G,?_⟩
 rw [zJ X.kBu,← List.append_assoc]
 refine zN (fr:=[some (.ref (tq+15)),some (.int hd)]) rfl rfl (fr':=[some (.ref (tq+15)),some (.int hd)]) ((z6 (zY (zG (a:=1) (zO (z4 rfl) (H.T S) kT1) rfl yj (ev1 (z4 rfl) ev0) (xZ X (n:=n) h0 h1)))).trans (zL (zd ?_)))
 rw [e,wp (es.filter fun e=>decide (e.2.1=hd))]
theorem Q4 (I:Iw S mvs cus sg) (D:Dy S mvs cus r) (H:Th r tq kq m (kvO es)) (nd:(ksO es).Pairwise (·<·)) (z:es.length<64) (hs:wh es) (rg:∀ e∈es,Rg S.le.length e.2):∃ G,run T (n+5) (.meth "Marks" "order") [.ref (tq+15)] (S.hp r)=.ok (.ref ((r++G).length+15)) (S.hp (r++G++[.list ((S.ord mvs es).map AV.int)])):=by
 obtain ⟨G,e⟩:=q9 (S:=S) (fun e:Int×Int×Int=>AV.int e.1) (r:=r++[.list ((ksO es).map AV.int)]) (l:=es) (p:=fun _=>true) (f:=fun e=>prV (S.rk mvs e)) (own:=1) (i:=2) (test:=zT .And []) (elt:=yt [(z8 (zE (z5 0) "sheet") "rank_of" none [(zK (zK (zE (z5 0) "kept") (z5 2)) (z7 (.int 1)))]),(z5 2)]) (cf:=run T (n+4)) (fr:=[some (.ref (tq+15)),none])
  (z07 X H nd z rfl) (by rw [wp];exact zP _ _ []) (zc rfl) (Nat.lt_trans z (by decide))
  (fun e he G=>⟨[],by rw [List.append_nil];exact ZL⟩)
  (fun e he _ G=>by
   obtain ⟨g,q⟩:=z05 X (n:=n) I ((D.grow [.list ((ksO es).map AV.int)]).grow G) (rg e he).1 (rg e he).2
   have H':=(H.grow [.list ((ksO es).map AV.int)]).grow G
   exact ⟨g,qH (ev1 (zG (a:=1) (zO (z4 rfl) (H'.T S) kT1) rfl W5 (ev1 (zZ (zZ (zO (z4 rfl) (H'.T S) kT2) (z4 rfl) (by rw [xl (H'.K S)];exact xw nd he)) rfl rfl) ev0) q) (ev1 (z4 rfl) ev0))⟩)
 rw [je] at e
 generalize hG:[AO.list ((ksO es).map AV.int)]++G=G1
 rw [List.append_assoc r,hG] at e
 have hq:(S.hp (r++G1++[.list (es.map fun e=>prV (S.rk mvs e))]))[(r++G1).length+15]? = some (.list ((es.map (S.rk mvs)).map prV)):=by rw [List.map_map];exact zP _ _ []
 have e2:=z1y hq (by rw [List.length_map];exact z) (z01 hs) (zF0 hs nd)
 generalize hP:AO.list (es.map fun e=>prV (S.rk mvs e))=P at e e2 hq
 obtain ⟨G2,e3⟩:=q9 (S:=S) prV (r:=r++G1++[P]++[.list ((srt (es.map (S.rk mvs))).map prV)]) (a:=(r++G1++[P]).length) (l:=srt (es.map (S.rk mvs))) (p:=fun _=>true) (f:=fun q=>AV.int q.2) (own:=1) (i:=2) (test:=zT .And []) (elt:=zK (z5 2) (z7 (.int 1))) (cf:=run T (n+4)) (fr:=[some (.ref (tq+15)),some (.ref ((r++G1).length+15))])
  (xM (ev1 (z4 (i:=1) (h:=S.hp (r++G1++[P])) rfl) ev0) e2) (zP _ _ []) (zc rfl) (by rw [List.length_mergeSort,List.length_map];exact Nat.lt_trans z (by decide))
  (fun e he G=>⟨[],by rw [List.append_nil];exact ZL⟩)
  (fun e he _ G=>⟨[],by rw [List.append_nil];exact zZ (z4 rfl) rfl rfl⟩)
 rw [je] at e3
 refine ⟨G1++[P]++[.list ((srt (es.map (S.rk mvs))).map prV)]++G2,?_⟩
 rw [zJ X.kA5]
 refine zN (fr:=[some (.ref (tq+15)),none]) rfl rfl (fr':=[some (.ref (tq+15)),some (.ref ((r++G1).length+15))]) ((z6 (zX (j:=1) e (zc rfl))).trans (zL (zd ?_)))
 unfold Sh.ord
 rw [List.map_map,← List.append_assoc,← List.append_assoc,← List.append_assoc]
 exact e3
end
section
variable {S:Sh} {mvs:List (List (Int×Int))}
noncomputable abbrev Sh.rn (S:Sh) (mvs:List (List (Int×Int))) (e:Int×Int×Int):Nat:=S.at_ mvs e.2.2
noncomputable abbrev Sh.cd (S:Sh) (mvs:List (List (Int×Int))) (e:Int×Int×Int):Int:=code (S.rk mvs e)
theorem Yh (e:Int×Int×Int):S.cd mvs e=(S.rn mvs e:Int) * 1048576+e.1:=rfl
theorem zGp {a b:Int×Int×Int} (ha:0≤a.1∧a.1<1048576) (hb:0≤b.1∧b.1<1048576) (h:S.rn mvs a<S.rn mvs b):S.cd mvs a<S.cd mvs b:=by
 rw [Yh,Yh];lia
theorem zGq {a b:Int×Int×Int} (h:S.rn mvs a≤S.rn mvs b) (h':a.1<b.1):S.cd mvs a<S.cd mvs b:=by
 rw [Yh,Yh];lia
theorem zGo {a b:Int×Int×Int} (ha:0≤a.1∧a.1<1048576) (hb:0≤b.1∧b.1<1048576) (h:S.cd mvs a<S.cd mvs b):S.rn mvs a≤S.rn mvs b:=by
 rw [Yh,Yh] at h;lia
theorem z3q {ls:Es} {x:Int×Int×Int} {p:Nat} (pw:ls.Pairwise fun a b=>S.cd mvs a<S.cd mvs b) (lt:∀ a∈ls,a.1<x.1) (sx:0≤x.1∧x.1<1048576) (sm:wh ls) (hp:p≤ls.length) (h1:∀ e∈ls.drop p,S.rn mvs x<S.rn mvs e) (h2:∀ q e,p=q+1→ls[q]? = some e→¬ S.rn mvs x<S.rn mvs e) :
  (ls.take p++x::ls.drop p).Pairwise fun a b=>S.cd mvs a<S.cd mvs b:=by
 have pw':=pw
 rw [← List.take_append_drop p ls,List.pairwise_append] at pw'
 obtain ⟨p1,p2,p3⟩:=pw'
 have inT:∀ {a},a∈ls.take p→a∈ls:=fun h=>List.mem_of_mem_take h
 rw [List.pairwise_append,List.pairwise_cons]
 refine ⟨p1,⟨fun b hb=>zGp sx (sm b (List.mem_of_mem_drop hb)) (h1 b hb),p2⟩,fun a ha b hb=>?_⟩
 rcases List.mem_cons.mp hb with rfl | hb
 ·refine zGq ?_ (lt a (inT ha))
  cases p with
  | zero=>rw [List.take_zero] at ha;exact absurd ha List.not_mem_nil
  | succ q =>
   rw [List.take_succ] at ha p1
   cases hq:ls[q]? with
   | none =>
    exact absurd hp (Nat.not_le.mpr (Nat.lt_succ_of_le (List.getElem?_eq_none_iff.mp hq)))
   | some e =>
    rw [hq] at ha p1
    have le:=Nat.not_lt.mp (h2 q e rfl hq)
    rcases xN ha with h | h
    ·exact Nat.le_trans (zGo (sm a (List.mem_of_mem_take h)) (sm e (yM hq)) ((List.pairwise_append.mp p1).2.2 a h e (.head _))) le
    ·rw [xE h];exact le
 ·exact p3 a ha b hb
theorem z0g {es ls:Es} (sm:wh es) (pm:ls.Perm es) (pw:ls.Pairwise fun a b=>S.cd mvs a<S.cd mvs b):ksO ls=S.ord mvs es:=by
 have e:ls.map (S.rk mvs)=srt (es.map (S.rk mvs)):=by
  refine List.Perm.eq_of_pairwise (le:=fun x y=>code x≤code y) (fun a b ha hb h1 h2=>?_) (by rw [List.pairwise_map];exact pw.imp Int.le_of_lt) (JZ _) ((pm.map _).trans (List.mergeSort_perm _ _).symm)
  have o1:=z01 sm a ((pm.map (S.rk mvs)).mem_iff.mp ha)
  have o2:=z01 sm b ((List.mergeSort_perm _ _).mem_iff.mp hb)
  have h:code a=code b:=Int.le_antisymm h1 h2
  have h3:=QX o1 o2 h
  have h:a.1 * 1048576+a.2=b.1 * 1048576+b.2:=h
  exact Prod.ext (by lia) h3
 unfold Sh.ord
 rw [← e,List.map_map];rfl
end
noncomputable abbrev oB (okf:Str→Str→Bool):XS:=(zA [(z9 okf (.names (.one 4)) (zM .Sub (z5 4) (z7 (.int 1))))])
noncomputable abbrev oT:XT:=(zT .And [(zQ (z5 4) [.Gt] [(z7 (.int 0))]),(zy (z8 (z5 0) "is_ahead" none [(zK (zK (z5 1) (z5 3)) (z7 (.int 1))),(zK (zK (z5 1) (zK (z5 2) (zM .Sub (z5 4) (z7 (.int 1))))) (z7 (.int 1)))]))])
noncomputable abbrev FO (dq fq:Nat) (v3 v4:Option AV):AFr:=[some (.ref 1),some (.ref (dq+15)),some (.ref (fq+15)),v3,v4]
section
variable {T:Tab} {okf:Str→Str→Bool} (X:TT T okf) {n:Nat} {S:Sh} {r:Hp} {mvs:List (List (Int×Int))} {cus sg:List (List Int)} {dq fq:Nat} {es ls:Es} {x:Int×Int×Int}
include X
theorem z3b (I:Iw S mvs cus sg) (D:Dy S mvs cus r) (hd:r[dq]? = some (.dict (kvO es))) (hf:r[fq]? = some (.list ((ksO ls).map AV.int))) (nd:(ksO es).Pairwise (·<·)) (rg:∀ e∈es,Rg S.le.length e.2) (hx:x∈es) (hl:∀ e∈ls,e∈es) (z:ls.length<64) {f:Nat} :
  ∀ at_,at_≤ls.length→(∀ e∈ls.drop at_,S.rn mvs x<S.rn mvs e)→∃ p,p≤at_∧yv oT (oB okf) (at_+1+f) (run T (n+4)) (FO dq fq (some (.int x.1)) (some (.int (at_:Nat)))) (S.hp r)=.ok .next (FO dq fq (some (.int x.1)) (some (.int (p:Nat)))) (S.hp r)∧(∀ e∈ls.drop p,S.rn mvs x<S.rn mvs e)∧∀ q e,p=q+1→ls[q]? = some e→¬ S.rn mvs x<S.rn mvs e:=by
 intro at_
 induction at_ generalizing f with
 | zero =>
  intro _ h
  refine ⟨0,Nat.le_refl _,?_,h,fun q e h=>by cases h⟩
  rw [Nat.add_comm (0+1) f]
  exact jv (xI (zV (z4 rfl) rfl (by rw [XW];rfl)))
 | succ k ih =>
  intro hk h
  have e0:=y6 (Nat.lt_of_succ_le hk)
  generalize ls[k]=y at e0
  have hy:=hl y (yM e0)
  have ea:=J5 X (n:=n) I D (rg x hx).1 (rg x hx).2 (rg y hy).1 (rg y hy).2
  have eb:((k+1:Nat):Int) - 1=(k:Int):=by lia
  have ei:zK (z5 2) (zM .Sub (z5 4) (z7 (.int 1))) (run T (n+4)) (FO dq fq (some (.int x.1)) (some (.int ((k+1:Nat):Int)))) (S.hp r)=.ok (.int y.1) (S.hp r):=by
   refine zZ (z4 rfl) (yD (z4 rfl) rfl ZQ) ?_
   rw [eb]
   refine xa (show (S.hp r)[fq+15]? = _ from hf) (wm (Nat.le_trans (Nat.le_of_lt (Nat.lt_of_lt_of_le (Nat.lt_of_succ_le hk) (Nat.le_of_lt z))) (by decide))) ?_
   rw [Int.toNat_natCast,List.getElem?_map]
   unfold ksO
   rw [List.getElem?_map,e0];rfl
  have et:=qT (zV (op:=.Gt) (b:=true) (z4 (i:=4) (cf:=run T (n+4)) (h:=S.hp r) (fr:=FO dq fq (some (.int x.1)) (some (.int ((k+1:Nat):Int)))) rfl) (y:=z7 (.int 0)) rfl (by rw [XW];exact congrArg some (decide_eq_true (Int.ofNat_lt.mpr (Nat.succ_pos k))))) (ZS (yT (v:=.bool (decide (S.rn mvs x<S.rn mvs y))) (zG (me:=none) (a:=1) (z4 (i:=0) rfl) rfl Q6 (ev1 (zZ (i:=z7 (.int 1)) (zZ (z4 (i:=1) rfl) (z4 (i:=3) rfl) (by rw [xl (show (S.hp r)[dq+15]? = _ from hd)];exact xw nd hx)) rfl rfl) (ev1 (zZ (i:=z7 (.int 1)) (zZ (z4 (i:=1) rfl) ei (by rw [xl (show (S.hp r)[dq+15]? = _ from hd)];exact xw nd hy)) rfl rfl) ev0)) ea) rfl))
  by_cases q:S.rn mvs x<S.rn mvs y
  ·rw [decide_eq_true q] at et
   obtain ⟨p,p1,p2,p3⟩:=ih (f:=f) (Nat.le_of_succ_le hk) (fun e he=>by
    have hd:ls.drop k=y::ls.drop (k+1):=by rw [List.drop_eq_getElem_cons (Nat.lt_of_succ_le hk)];rw [y6 (Nat.lt_of_succ_le hk)] at e0;rw [Option.some.inj e0]
    rw [hd] at he
    rcases List.mem_cons.mp he with rfl | he
    ·exact q
    ·exact h e he)
   refine ⟨p,Nat.le_succ_of_le p1,?_,p3⟩
   rw [← p2,show k+1+1+f=(k+1+f)+1 from Nat.add_right_comm _ _ _]
   refine Qj et ?_
   have s:=zX (okf:=okf) (j:=4) (yD (op:=.Sub) (z4 (i:=4) (cf:=run T (n+4)) (h:=S.hp r) (fr:=FO dq fq (some (.int x.1)) (some (.int ((k+1:Nat):Int)))) rfl) (y:=z7 (.int 1)) rfl ZQ) (zc rfl)
   rw [eb] at s
   exact (z6 s).trans zF
  ·rw [decide_eq_false q] at et
   refine ⟨k+1,Nat.le_refl _,?_,h,fun q' e hq he=>?_⟩
   ·rw [show k+1+1+f=(k+1+f)+1 from Nat.add_right_comm _ _ _]
    exact jv et
   ·cases hq
    rw [e0] at he;cases he
    exact q
theorem W6 (I:Iw S mvs cus sg) (D:Dy S mvs cus r) (hd:r[dq]? = some (.dict (kvO es))) (nd:(ksO es).Pairwise (·<·)) (z:es.length<64) (sm:wh es) (rg:∀ e∈es,Rg S.le.length e.2) :
  ∃ G,run T (n+5) (.fn "_law_order") [.ref 1,.ref (dq+15)] (S.hp r)=.ok (.ref (r.length+15)) (S.hp (r++G))∧(r++G)[r.length]? = some (.list ((S.ord mvs es).map AV.int)):=by
 generalize hK:AO.list ((ksO es).map AV.int)=K
 have a1:=Y6 (show (S.hp (r++[.list []]))[dq+15]? = _ from zC hd)
 rw [wY,hK] at a1
 have a2:=jh (h:=S.hp (r++[.list []]++[K])) (a:=(r++[AO.list []]).length+15) (is:=ksO es) (by rw [hK];exact zP _ _ []) (by rw [qy];exact z) (nd.imp Int.le_of_lt)
 rw [hK] at a2
 have ndp:∀ k e,es[k]? = some e→∀ a∈es.take k,a.1<e.1:=fun k e he a ha=>by
  have nd':(es.map fun (e:Int×Int×Int)=>e.1).Pairwise (·<·):=nd
  rw [List.pairwise_map,← List.take_append_drop k es,List.pairwise_append] at nd'
  refine nd'.2.2 a ha e ?_
  obtain ⟨hk,e1⟩:=yL he
  rw [List.drop_eq_getElem_cons hk,e1];exact .head _
 obtain ⟨fr',h',e,v3,v4,ls,rfl,rfl,pm,pw⟩:=xG (t:=.one 3) (src:=.ref (r.length+2+15)) (cf:=run T (n+4)) (xs:=(ksO es).map AV.int) (body:=(zA [(z9 okf (.names (.one 4)) (zD (zB (some (.bi .len))) [(z5 2)])),(yv oT (oB okf) 300),(zI (z8 (z5 2) "insert" (some .insert) [(z5 4),(z5 3)]))]))
  (fun k fr h=>∃ v3 v4 ls,fr=FO dq r.length v3 v4∧h=S.hp (r++.list ((ksO ls).map AV.int)::[K,K])∧ls.Perm (es.take k)∧ls.Pairwise fun a b=>S.cd mvs a<S.cd mvs b)
  (by
   rintro k fr h ⟨v3,v4,ls,rfl,rfl,_⟩
   exact ym (show (S.hp (r++.list ((ksO ls).map AV.int)::[K,K]))[r.length+2+15]? = _ from by rw [hK];exact x9 r _ 2))
  (by
   rintro k x fr h ⟨v3,v4,ls,rfl,rfl,pm,pw⟩ hx
   unfold ksO at hx
   rw [List.getElem?_map,List.getElem?_map] at hx
   obtain ⟨w,hw,rfl⟩:=yC hx
   obtain ⟨e,he,rfl⟩:=yC hw
   have hm:=yM he
   have hl:∀ a∈ls,a∈es:=fun a ha=>List.mem_of_mem_take (pm.mem_iff.mp ha)
   have zl:ls.length<64:=Nat.lt_of_le_of_lt (by rw [pm.length_eq];exact List.length_take_le' _ _) z
   have hf:(r++AO.list ((ksO ls).map AV.int)::[K,K])[r.length]? = some (.list ((ksO ls).map AV.int)):=zP _ _ _
   obtain ⟨p,p1,p2,p3,p4⟩:=z3b X (n:=n) (okf:=okf) (f:=300 - (ls.length+1)) I (D.grow _) (zC hd) hf nd rg hm hl zl ls.length (Nat.le_refl _) (fun a ha=>by rw [List.drop_length] at ha;exact absurd ha List.not_mem_nil)
   rw [Nat.add_sub_cancel' (Nat.le_trans (Nat.succ_le_of_lt zl) (by decide))] at p2
   refine ⟨_,FO dq r.length (some (.int e.1)) (some (.int (p:Nat))),S.hp (r++.list ((ksO (ls.take p++e::ls.drop p)).map AV.int)::[K,K]),rfl,?_,_,_,_,rfl,rfl,?_,z3q pw (fun a ha=>ndp k e he a (pm.mem_iff.mp ha)) (sm e hm) (fun a ha=>sm a (hl a ha)) p1 p3 p4⟩
   ·have s1:z9 okf (.names (.one 4)) (zD (zB (some (.bi .len))) [(z5 2)]) (run T (n+4)) (FO dq r.length (some (.int e.1)) v4) (S.hp (r++.list ((ksO ls).map AV.int)::[K,K]))=.ok .next (FO dq r.length (some (.int e.1)) (some (.int (ls.length:Nat)))) (S.hp (r++.list ((ksO ls).map AV.int)::[K,K])):=by
     refine zX (j:=4) (xM (ev1 (z4 rfl) ev0) ?_) (zc rfl)
     rw [w8,qY,show (S.hp (r++.list ((ksO ls).map AV.int)::[K,K]))[r.length+15]? = _ from hf]
     show Out.ok (AV.int (((ksO ls).map AV.int).length:Nat)) _=_
     rw [List.length_map,qy]
    have s3:zI (z8 (z5 2) "insert" (some .insert) [(z5 4),(z5 3)]) (run T (n+4)) (FO dq r.length (some (.int e.1)) (some (.int (p:Nat)))) (S.hp (r++.list ((ksO ls).map AV.int)::[K,K]))=.ok .next (FO dq r.length (some (.int e.1)) (some (.int (p:Nat)))) (S.hp (r++.list ((ksO (ls.take p++e::ls.drop p)).map AV.int)::[K,K])):=by
     refine zY (v:=.none) (j3 (z4 rfl) (show (S.hp (r++.list ((ksO ls).map AV.int)::[K,K]))[r.length+15]? = _ from hf) (ev1 (z4 rfl) (ev1 (z4 rfl) ev0)) ?_)
     rw [YU,show (S.hp (r++.list ((ksO ls).map AV.int)::[K,K]))[r.length+15]? = _ from hf]
     show (if _ then _ else _)=_
     rw [if_pos ⟨by rw [List.length_map,qy];exact Nat.lt_trans zl (by decide),wm (Nat.le_trans p1 (Nat.le_trans (Nat.le_of_lt zl) (by decide)))⟩]
     show Out.ok AV.none (S.hp ((r++.list ((ksO ls).map AV.int)::[K,K]).set r.length _))=_
     rw [qQ,Int.toNat_natCast]
     unfold xk ksO
     rw [List.map_append,List.map_append,List.map_take,List.map_take,List.map_cons,List.map_cons,List.map_drop,List.map_drop]
    exact (z6 s1).trans ((z6 p2).trans ((z6 s3).trans zF))
   ·obtain ⟨hk,e1⟩:=yL he
    rw [List.take_succ,he]
    refine (List.perm_middle.trans ?_).trans (List.perm_append_singleton _ _).symm
    rw [List.take_append_drop]
    exact pm.cons e)
  (fr:=FO dq r.length none none) (h:=S.hp (r++.list []::[K,K])) ⟨none,none,[],rfl,rfl,.refl _,.nil⟩
 rw [List.length_map,qy,List.take_length] at pm
 refine ⟨.list ((ksO ls).map AV.int)::[K,K],?_,by rw [z0g sm pm pw];exact zP _ _ _⟩
 rw [xH X.kBl]
 have x1:zD (zB (some (.bi .sorted))) [(zD (zB (some (.bi .list))) [(z5 1)])] (run T (n+4)) (FO dq r.length none none) (S.hp (r++[.list []]))=.ok (.ref (r.length+2+15)) (S.hp (r++.list []::[K,K])):=by
  refine (xM (ev1 (xM (ev1 (z4 rfl) ev0) a1) ev0) a2).trans ?_
  show Out.ok (AV.ref ((r++[AO.list []]++[K]).length+15)) (S.hp (r++[AO.list []]++[K]++[K]))=_
  rw [List.append_assoc,List.append_assoc,List.append_assoc,zU];rfl
 have hq:=qn (show (S.hp (r++.list []::[K,K]))[r.length+2+15]? = some (.list ((ksO es).map AV.int)) from by rw [hK];exact x9 r _ 2)
 have s0:z9 okf (.names (.one 2)) (zm []) (run T (n+4)) [some (.ref 1),some (.ref (dq+15)),none,none,none] (S.hp r)=.ok .next (FO dq r.length none none) (S.hp (r++[.list []])):=zX (j:=2) (yX ev0) (zc rfl)
 exact zN (fr:=[some (.ref 1),some (.ref (dq+15)),none,none,none]) rfl rfl (fr':=FO dq r.length v3 v4) ((z6 s0).trans ((z6 (wO (en:=false) x1 hq e)).trans (zL (zd (z4 rfl)))))
end
theorem zR {α:Type} {l:List α} {i j:Nat} {x:α} {o:Option α} (h:i≠j) (e:l[j]? = o):(l.set i x)[j]? = o:=by rw [List.getElem?_set_ne h];exact e
section
variable {cf:CF} {fr:AFr} {h h1 h2:Hp} {x y:XE} {v:AV} {c:Str} {okf:Str→Str→Bool} {j:Nat}
theorem z36 (e:x cf fr h=.exc c h1):z9 okf (.names (.one j)) x cf fr h=.exc false c fr h1:=by
 show (x cf fr h).bindS fr _=_
 rw [e];rfl
theorem zE1 (e:x cf fr h=.ok v h1) (e':y cf fr h1=.exc c h2):zK x y cf fr h=.exc c h2:=by
 unfold zK
 rw [e,Out.bind_ok,e'];rfl
end
section
variable {T:Tab} {okf:Str→Str→Bool} (X:TT T okf) {n:Nat} {l:List Int} {b:List Bool} {r:Hp} {o0 o1 o2:AO}
include X
theorem zEf {p:Int} (hp:¬ (0≤p∧p<(tk b l).length)) (G:Good l b):∃ g,run T (n+3) (.meth "Row" "find") [.ref 3,.int p] (H o0 o1 o2 l b r)=.exc "NoPlace" (H o0 o1 o2 l b (r++g)):=by
 refine ⟨[.list ((tk b l).map AV.int)],?_⟩
 rw [zJ X.kBs]
 have t:zQ (z7 (.int 0)) [.LtE,.Lt] [(z5 1),(zD (zB (some (.bi .len))) [(z5 2)])] (run T (n+2)) [some (.ref 3),some (.int p),some (.ref (r.length+6))] (H o0 o1 o2 l b (r++[.list ((tk b l).map AV.int)]))=.ok false (H o0 o1 o2 l b (r++[.list ((tk b l).map AV.int)])):=by
  by_cases q:0≤p
  ·exact xF rfl (z4 rfl) (by rw [xb,decide_eq_true q]) (z1g X (n:=n)) (by rw [yS,decide_eq_false fun q'=>hp ⟨q,q'⟩])
  ·exact ZJ rfl (z4 rfl) (by rw [xb,decide_eq_false q])
 exact xS (fr:=[some (.ref 3),some (.int p),none]) rfl rfl ((z6 (z1f X (n:=n) G)).trans (yK ((zg (xD (zt (b:=true) (yT (v:=.bool true) (zu (ev1 (z4 rfl) ev0) (yA X)) rfl)) (Xv (zt t)))).trans (yK rfl))))
end
noncomputable abbrev Sh.sgn (S:Sh) (p:Int):Int:=S.sh[p.toNat]?.getD 0
section
variable {T:Tab} {okf:Str→Str→Bool} (X:TT T okf) {n:Nat} {S:Sh} {r:Hp} {mvs:List (List (Int×Int))} {cus sg:List (List Int)} {tq kq:Nat} {m:Int} {kvs:List (Int×AV)}
include X
theorem Xz {i:Int} (h:¬ (0≤i∧i<S.hands)):run T (n+2) (.meth "Sheet" "need_hand") [.ref 1,.int i] (S.hp r)=.exc "NoHand" (S.hp r):=by
 rw [zJ X.kAg]
 have t:zQ (z7 (.int 0)) [.LtE,.Lt] [(z5 1),(zE (z5 0) "hands")] (run T (n+1)) [some (.ref 1),some (.int i)] (S.hp r)=.ok false (S.hp r):=by
  by_cases q:0≤i
  ·exact xF rfl (z4 rfl) (by rw [xb,decide_eq_true q]) (zO (z4 rfl) rfl kS1) (by rw [yS,decide_eq_false fun q'=>h ⟨q,q'⟩])
  ·exact ZJ rfl (z4 rfl) (by rw [xb,decide_eq_false q])
 exact xS (fr:=[some (.ref 1),some (.int i)]) rfl rfl (yK ((zg (xD (zt (b:=true) (yT (v:=.bool true) (zu (ev1 (z4 rfl) ev0) (yA X)) rfl)) (Xv (zt t)))).trans (yK rfl)))
theorem z2j (H:Th r tq kq m kvs) {i j:Int} (h:¬ (0≤i∧i<S.hands)):run T (n+3) (.meth "Marks" "stick") [.ref (tq+15),.int i,.int j] (S.hp r)=.exc "NoHand" (S.hp r):=by
 rw [zJ X.kAx]
 exact xS (fr:=[some (.ref (tq+15)),some (.int i),some (.int j),none,none]) rfl rfl (yK (qS (zG (a:=1) (zO (z4 rfl) (H.T S) kT1) rfl yj (ev1 (z4 rfl) ev0) (Xz X (n:=n) h))))
theorem z2i (I:Iw S mvs cus sg) (H:Th r tq kq m kvs) {i j:Int} (h0:0≤i) (h1:i<S.hands) (h:¬ (0≤j∧j<S.sh.length)):∃ g,run T (n+5) (.meth "Marks" "stick") [.ref (tq+15),.int i,.int j] (S.hp r)=.exc "NoPlace" (S.hp (r++g)):=by
 obtain ⟨g,e⟩:=zEf X (n:=n) (l:=S.l) (b:=S.b) (o0:=S.g0) (o1:=.inst "Sheet" (fS S.hands)) (o2:=S.g2) (r:=S.tl r) (p:=j) (by rw [← I.O.tkl.1];exact h) I.O.G
 have e':run T (n+3) (.meth "Row" "find") [.ref 3,.int j] (S.hp r)=.exc "NoPlace" (S.hp (r++g)):=e
 have e2:run T (n+4) (.meth "Sheet" "sign_at") [.ref 1,.int j] (S.hp r)=.exc "NoPlace" (S.hp (r++g)):=by
  rw [zJ X.kAm]
  exact xS (fr:=[some (.ref 1),some (.int j)]) rfl rfl (yK (z06 (zE1 (zO (z4 rfl) rfl kS3) (zG (a:=3) (zO (z4 rfl) rfl kS2) rfl XH (ev1 (z4 rfl) ev0) e'))))
 refine ⟨g,?_⟩
 rw [zJ X.kAx]
 exact xS (fr:=[some (.ref (tq+15)),some (.int i),some (.int j),none,none]) rfl rfl ((z6 (zY (zG (a:=1) (zO (z4 rfl) (H.T S) kT1) rfl yj (ev1 (z4 rfl) ev0) (xZ X (n:=n+2) h0 h1)))).trans (yK (z36 (zG (a:=1) (zO (z4 rfl) (H.T S) kT1) rfl qx (ev1 (z4 rfl) ev0) e2))))
theorem Qz (I:Iw S mvs cus sg) (H:Th r tq kq m kvs) (hh:0<S.hands):∃ G,run T (n+6) (.fn "_law_not_stuck") [.ref (tq+15),.int (S.b.countP id:Nat),.int S.hands] (S.hp r)=.ok (.bool true) (S.hp (r++G)):=by
 have lc:(S.sh.length:Int)=(S.b.countP id:Nat):=by rw [I.O.tkl.1,I.O.G.count]
 generalize hc:S.b.countP id=c at lc
 rw [xH X.kAq]
 obtain ⟨fr',h',e,v3,v4,G,rfl,rfl⟩:=xG (t:=.many [3,4]) (src:=.imm [prV (0,(c:Int)),prV (S.hands,0),prV (0,-1)]) (cf:=run T (n+5)) (xs:=[prV (0,(c:Int)),prV (S.hands,0),prV (0,-1)])
  (body:=(zA [(YD (zA [(zI (z8 (z5 0) "stick" none [(z5 3),(z5 4)])),(zW (z7 (.bool false)))]) [("NoPlace",(.tst (.slot 3) (.slot 2))),("NoHand",(.tst (.slot 3) (.int 0)))])]))
  (fun k fr h=>∃ v3 v4 G,fr=[some (.ref (tq+15)),some (.int (c:Nat)),some (.int S.hands),v3,v4]∧h=S.hp (r++G))
  (fun _ _ _ _=>rfl)
  (by
   rintro k x fr h ⟨v3,v4,G,rfl,rfl⟩ hx
   have pl:∀ j:Int,¬ (0≤j∧j<S.sh.length)→∃ g,zA [(YD (zA [(zI (z8 (z5 0) "stick" none [(z5 3),(z5 4)])),(zW (z7 (.bool false)))]) [("NoPlace",(.tst (.slot 3) (.slot 2))),("NoHand",(.tst (.slot 3) (.int 0)))])] (run T (n+5)) [some (.ref (tq+15)),some (.int (c:Nat)),some (.int S.hands),some (.int 0),some (.int j)] (S.hp (r++G))=.ok .next [some (.ref (tq+15)),some (.int (c:Nat)),some (.int S.hands),some (.int 0),some (.int j)] (S.hp (r++(G++g))):=fun j hj=>by
    obtain ⟨g,q⟩:=z2i X (n:=n) I (H.grow G) (Int.le_refl 0) hh hj
    refine ⟨g,(z6 (Yr (yK (qS (zG (z4 rfl) ((H.grow G).T S) Zm (ev1 (z4 rfl) (ev1 (z4 rfl) ev0)) q))) ?_)).trans zF⟩
    show (if (0:Int)=S.hands then _ else _)=_
    rw [if_neg (Int.ne_of_lt hh),List.append_assoc]
   rcases List.mem_cons.mp (yM hx) with rfl | hx
   ·obtain ⟨g,q⟩:=pl c (fun h=>absurd h.2 (by rw [lc];exact Int.lt_irrefl _))
    exact ⟨_,_,_,rfl,q,_,_,_,rfl,rfl⟩
   rcases List.mem_cons.mp hx with rfl | hx
   ·refine ⟨[some (.ref (tq+15)),some (.int (c:Nat)),some (.int S.hands),some (.int S.hands),some (.int 0)],[some (.ref (tq+15)),some (.int (c:Nat)),some (.int S.hands),some (.int S.hands),some (.int 0)],S.hp (r++G),rfl,(z6 (Yr (yK (qS (zG (z4 rfl) ((H.grow G).T S) Zm (ev1 (z4 rfl) (ev1 (z4 rfl) ev0)) (z2j X (n:=n+2) (H.grow G) fun h=>absurd h.2 (Int.lt_irrefl _))))) ?_)).trans zF,_,_,G,rfl,rfl⟩
    show (if S.hands=0 then _ else _)=_
    rw [if_neg (Int.ne_of_gt hh)]
   ·rw [xE hx]
    obtain ⟨g,q⟩:=pl (-1) (fun h=>absurd h.1 (by decide))
    exact ⟨_,_,_,rfl,q,_,_,_,rfl,rfl⟩)
  (fr:=[some (.ref (tq+15)),some (.int (c:Nat)),some (.int S.hands),none,none]) (h:=S.hp r) ⟨none,none,[],rfl,by rw [List.append_nil]⟩
 exact ⟨G,zN (fr:=[some (.ref (tq+15)),some (.int (c:Nat)),some (.int S.hands),none,none]) rfl rfl ((z6 (wO (en:=false) (qH (ev1 (qH (ev1 rfl (ev1 (z4 rfl) ev0))) (ev1 (qH (ev1 (z4 rfl) (ev1 rfl ev0))) (ev1 (qH (ev1 rfl (ev1 rfl ev0))) ev0)))) rfl e)).trans (zL (zd rfl)))⟩
theorem z13 (H:Th r tq kq m kvs) {i:Int} (hg:yp kvs i=none):run T (n+5) (.fn "_law_is_gone") [.ref (tq+15),.int i] (S.hp r)=.ok (.bool true) (S.hp r):=by
 rw [xH X.kA6]
 obtain ⟨fr',h',e,v,rfl,rfl⟩:=xG (t:=.one 2) (src:=.imm (qp 0 3)) (cf:=run T (n+4)) (xs:=qp 0 3)
  (body:=(zA [(YD (zA [(sIf (zQ (z5 2) [.Eq] [(z7 (.int 0))]) (zA [(zI (z8 (z5 0) "told" none [(z5 1)]))]) (zA [(sIf (zQ (z5 2) [.Eq] [(z7 (.int 1))]) (zA [(zI (z8 (z5 0) "sign" none [(z5 1)]))]) (zA [(zI (z8 (z5 0) "drop" none [(z5 1)]))]))])),(zW (z7 (.bool false)))]) [("NoMark",(.set 2 (.int 3)))])]))
  (fun k fr h=>∃ v,fr=[some (.ref (tq+15)),some (.int i),v]∧h=S.hp r)
  (fun _ _ _ _=>rfl)
  (by
   rintro k x fr h ⟨v,rfl,rfl⟩ hx
   obtain ⟨j,_,rfl⟩:=List.mem_map.mp (yM hx)
   refine ⟨[some (.ref (tq+15)),some (.int i),some (.int (0+(j:Int)))],[some (.ref (tq+15)),some (.int i),some (.int 3)],S.hp r,rfl,(z6 (Yr (c := "NoMark") (fr1:=[some (.ref (tq+15)),some (.int i),some (.int (0+(j:Int)))]) (yK ?_) rfl)).trans zF,_,rfl,rfl⟩
   by_cases q:(0+(j:Int))=0
   ·exact (zg (zV (z4 rfl) rfl (by rw [yr,yZ,decide_eq_true q]))).trans (yK (qS (zG (z4 rfl) (H.T S) XD (ev1 (z4 rfl) ev0) (zDt X (n:=n) H hg))))
   ·refine (zH (zV (z4 rfl) rfl (by rw [yr,yZ,decide_eq_false q]))).trans (yK ?_)
    by_cases q:(0+(j:Int))=1
    ·exact (zg (zV (z4 rfl) rfl (by rw [yr,yZ,decide_eq_true q]))).trans (yK (qS (zG (z4 rfl) (H.T S) jW (ev1 (z4 rfl) ev0) (Jr X (n:=n+1) H hg))))
    ·exact (zH (zV (z4 rfl) rfl (by rw [yr,yZ,decide_eq_false q]))).trans (yK (qS (zG (z4 rfl) (H.T S) We (ev1 (z4 rfl) ev0) (zEg X (n:=n+1) H hg)))))
  (fr:=[some (.ref (tq+15)),some (.int i),none]) (h:=S.hp r) ⟨none,rfl,rfl⟩
 exact zN (fr:=[some (.ref (tq+15)),some (.int i),none]) rfl rfl ((z6 (wO (en:=false) (xM (ev1 rfl ev0) (res:=.ok (.range 0 3) (S.hp r)) rfl) rfl e)).trans (zL (zd rfl)))
end
section
variable {T:Tab} {okf:Str→Str→Bool} (X:TT T okf) {n:Nat} {S:Sh} {r:Hp} {mvs:List (List (Int×Int))} {cus sg:List (List Int)} {P:List Nat} {hands:Int} {c k:Nat} {tq kq:Nat} {m:Int} {kvs:List (Int×AV)}
include X
theorem zDv (A:Bs hands c k P S mvs cus sg r) (H:Th r tq kq m kvs) (ht:tq∈P) (ne:tq≠kq) (z:kvs.length<small) {i j:Int} (i0:0≤i) (i1:i<S.hands) (j0:0≤j) (j1:j<S.sh.length) :
  ∃ g,run T (n+5) (.meth "Marks" "stick") [.ref (tq+15),.int i,.int j] (S.hp r)=.ok (.int m) (S.hp (((r++g).set tq (.inst "Marks" (fT kq (m+1)))).set kq (.dict (jr kvs m (prV (i,S.sgn j)))))):=by
 obtain ⟨g,e1⟩:=ZX X (n:=n) (r:=r) A.V.I j0 j1
 have tl:tq<(r++g).length:=by rw [zU];exact Nat.lt_of_lt_of_le (A.p tq ht).1 (Nat.le_add_right _ _)
 have H1:=H.grow g
 have H':Th ((r++g).set tq (.inst "Marks" (fT kq (m+1)))) tq kq (m+1) kvs:=⟨List.getElem?_set_self tl,zR ne H1.k⟩
 refine ⟨g,?_⟩
 rw [zJ X.kAx]
 refine zN (fr:=[some (.ref (tq+15)),some (.int i),some (.int j),none,none]) rfl rfl (fr':=[some (.ref (tq+15)),some (.int i),some (.int j),some (.int (S.sgn j)),some (.int m)]) ?_
 unfold kAx
 dsimp only
 rw [z6 (zY (zG (a:=1) (zO (z4 rfl) (H.T S) kT1) rfl yj (ev1 (z4 rfl) ev0) (xZ X (n:=n+2) i0 i1)))]
 rw [z6 (zX (j:=3) (zG (a:=1) (zO (z4 rfl) (H.T S) kT1) rfl qx (ev1 (z4 rfl) ev0) e1) (zc rfl))]
 rw [z6 (zX (j:=4) (zO (z4 rfl) (H1.T S) kT3) (zc rfl))]
 rw [z6 (yz (a:=tq+15) (fs':=fT kq (m+1)) (yD (z4 rfl) rfl w4) (z4 rfl) (H1.T S) X.kBw (zc rfl) rfl)]
 show zA _ _ _ (S.hp ((r++g).set tq (.inst "Marks" (fT kq (m+1)))))=_
 rw [z6 (Zb (qH (ev1 (z4 rfl) (ev1 (z4 rfl) ev0))) (zO (z4 rfl) (H'.T S) kT2) (z4 rfl) (Xp (H'.K S) z))]
 exact zL (zd (z4 rfl))
theorem z28 (A:Bs hands c k P S mvs cus sg r) (hk:k<200) {d:Nat} (hd:d<S.dn.length) (hs:S.st.length<200) :
  ∃ S' r',run T (n+6) (.fn "_law_turned") [.ref 1,.int d] (S.hp r)=.ok .none (Sh.hp S' r')∧Bs hands c (k+1) P S' mvs cus sg r'∧Kps S r S' r'∧S'.le.length=S.le.length:=by
 obtain ⟨S',r',e1,e2,B,K,l⟩:=zEv X (n:=n) A hk hd
 refine ⟨S',r',?_,B,K,l⟩
 rw [xH X.kBe]
 have es:=Yv X (n:=n+2) (S:=S) (r:=r) (i:=(d:Int)) (Int.natCast_nonneg _) (Int.ofNat_lt.mpr hd) A.V.I.st hs
 have et:=yT (zG (me:=none) (a:=1) (z4 (i:=0) (cf:=run T (n+5)) (fr:=[some (.ref 1),some (.int d)]) (h:=S.hp r) rfl) rfl jm (ev1 (z4 (i:=1) rfl) ev0) es) rfl
 cases hv:fl S.st d with
 | true =>
  rw [hv] at et
  exact y7 (fr:=[some (.ref 1),some (.int d)]) rfl rfl (fr':=[some (.ref 1),some (.int d)]) ((z6 ((zg et).trans ((z6 (zY (zG (a:=1) (z4 rfl) rfl XF (ev1 (z4 rfl) ev0) (e1 hv)))).trans zF))).trans zF)
 | false =>
  rw [hv] at et
  exact y7 (fr:=[some (.ref 1),some (.int d)]) rfl rfl (fr':=[some (.ref 1),some (.int d)]) ((z6 ((zH et).trans ((z6 (zY (zG (a:=1) (z4 rfl) rfl Q7 (ev1 (z4 rfl) ev0) (e2 hv)))).trans zF))).trans zF)
end
set_option genInjectivity false
set_option genSizeOf false
theorem jQ {h:Hp} {n a:Nat} {xs:List AV} {ds:List PyData} (e:h[a]? = some (.list xs)) (e':yI (toD h n) xs=some ds):toD h (n+1) (.ref a)=some (.list ds):=by
 show (match zi h a with
   | some xs=>(yI (toD h n) xs).map PyData.list
   | none=>none)=_
 rw [qb e]
 show (yI (toD h n) xs).map PyData.list=_
 rw [e'];rfl
theorem qB {h:Hp} {n a:Nat} {l:List Int} (e:h[a]? = some (.list (l.map AV.int))):toD h (n+1) (.ref a)=some (.list (l.map PyData.int)):=jQ e (YV h n l)
theorem wW (l:List Int):PyData.canLayAll0 (l.map PyData.int)=true:=by
 induction l with
 | nil=>rfl
 | cons x l ih=>rw [List.map_cons,PyData.canLayAll0,ih];rfl
theorem JC {h:Hp} {v w:AV} {d:PyData} (e:toD h 8 v=some d) (e':toD h 8 w=some d) (c:d.canLay0=true):yl .Eq v w h=some true∧(neD h v w=none→yl .NotEq v w h=some false):=by
 refine ⟨?_,fun hn=>?_⟩
 ·rw [yr,Xc e e',SeqAt.eqv_refl d c]
 ·rw [zEj hn,Xc e e',SeqAt.eqv_refl d c];rfl
theorem Zh {h:Hp} {a:Nat} {xs:List AV} {w:AV} (e:h[a]? = some (.list xs)):neD h (.ref a) w=none:=by
 show (zw h a).bind _=none
 rw [show zw h a=none from by unfold zw;rw [e]];rfl
theorem XR {h:Hp} {a b:Nat} {l:List Int} (e:h[a]? = some (.list (l.map AV.int))) (e':h[b]? = some (.list (l.map AV.int))):yl .Eq (.ref a) (.ref b) h=some true:=(JC (qB e) (qB e') (wW l)).1
theorem z3c {h:Hp} {a b:Nat} {l:List Int} (e:h[a]? = some (.list (l.map AV.int))) (e':h[b]? = some (.list (l.map AV.int))):yl .NotEq (.ref a) (.ref b) h=some false:=(JC (qB e) (qB e') (wW l)).2 (Zh e)
theorem zG3 {h:Hp} {S:Sh} {mvs:List (List (Int×Int))} {cus:List (List Int)} {i:Int}:yl .NotEq (S.Pv mvs cus i) (S.Pv mvs cus i) h=some false:=(JC (d:=.tuple [.int (S.pl mvs i:Nat),.bool (S.shw cus i)]) rfl rfl rfl).2 rfl
theorem W2 {h:Hp} {i:Int}:yl .NotEq (.int i) (.int i) h=some false:=(JC (d:=.int i) rfl rfl rfl).2 rfl
theorem zE4 {h:Hp} {S:Sh} {mvs:List (List (Int×Int))} {cus:List (List Int)} {a b:Nat} {es:Es} (e:h[a]? = some (.list (es.map fun e=>S.Pv mvs cus e.2.2))) (e':h[b]? = some (.list (es.map fun e=>S.Pv mvs cus e.2.2))):yl .NotEq (.ref a) (.ref b) h=some false:=by
 have q:yI (toD h 7) (es.map fun e=>S.Pv mvs cus e.2.2)=some (es.map fun e=>PyData.tuple [.int (S.pl mvs e.2.2:Nat),.bool (S.shw cus e.2.2)]):=by
  clear e e'
  induction es with
  | nil=>rfl
  | cons x es ih=>exact xJ rfl ih
 refine (JC (jQ e q) (jQ e' q) ?_).2 (Zh e)
 show PyData.canLayAll0 _=true
 clear e e' q
 induction es with
 | nil=>rfl
 | cons x es ih=>rw [List.map_cons,PyData.canLayAll0,ih];rfl
theorem Iv.sgn_pl {S:Sh} {mvs:List (List (Int×Int))} {cus sg:List (List Int)} (V:Iv S mvs cus sg) {i:Int} (i0:0≤i) (i1:i<S.le.length) (hc:S.shw cus i=true):S.sh[S.pl mvs i]? = some i:=by
 obtain ⟨a,b⟩:=V.I.cur_mem i0 i1
 obtain ⟨x0,x1⟩:=V.I.O.G.rng _ a
 have ht:fl S.b (S.cur mvs i)=true:=by
  rw [V.flag _ x0 x1]
  show (S.shw cus (gI S.ow (S.cur mvs i)) && decide (S.cur mvs i=S.cur mvs (gI S.ow (S.cur mvs i))))=true
  rw [b,hc,decide_eq_true rfl];rfl
 have hd:S.l.drop (S.at_ mvs i)=S.cur mvs i::S.l.drop (S.at_ mvs i+1):=by
  have hg:=ZK a
  rw [y6 (X9 a)] at hg
  show S.l.drop (pos S.l (S.cur mvs i))=_
  rw [List.drop_eq_getElem_cons (X9 a),Option.some.inj hg];rfl
 have e:tk S.b S.l=tk S.b (S.l.take (S.at_ mvs i))++S.cur mvs i::tk S.b (S.l.drop (S.at_ mvs i+1)):=by
  conv=>lhs;rw [← List.take_append_drop (S.at_ mvs i) S.l,hd]
  show List.filter _ (_++_::_)=_
  rw [List.filter_append,List.filter_cons,if_pos ht]
 unfold Sh.sh
 rw [List.getElem?_map,e]
 show ((_++_::_)[(tk S.b (S.l.take (S.at_ mvs i))).length]?).map _=_
 rw [zP]
 exact congrArg some b
noncomputable def wE (S:Sh) (b:Nat) (r:Hp) (o:Out AV) (l:List Int):Prop:=∃ G a,o=.ok (.ref (a+15)) (S.hp (r++G))∧b≤a∧(r++G)[a]? = some (.list (l.map AV.int))
theorem wE.of {S:Sh} {b:Nat} {r G:Hp} {o:Out AV} {l:List Int} (h:o=.ok (.ref ((r++G).length+15)) (S.hp (r++G++[.list (l.map AV.int)]))) (hb:b≤r.length):wE S b r o l :=
 ⟨G++[.list (l.map AV.int)],(r++G).length,by rw [h,List.append_assoc],Nat.le_trans hb (by rw [zU];exact Nat.le_add_right _ _),by rw [← List.append_assoc];exact zP _ _ []⟩
theorem x8 {b:Nat} {r:Hp} (G:Hp) (h:b≤r.length):b≤(r++G).length:=Nat.le_trans h (by rw [zU];exact Nat.le_add_right _ _)
structure Tr (b:Nat) (R:Hp) (aq ax ay az:Nat) (k f o:List Int):Prop where
 q:R[aq]? = some (.list [.ref (ax+15),.ref (ay+15),.ref (az+15)])
 le:b≤aq∧b≤ax∧b≤ay∧b≤az
 x:R[ax]? = some (.list (k.map AV.int))
 y:R[ay]? = some (.list (f.map AV.int))
 z:R[az]? = some (.list (o.map AV.int))
theorem Tr.grow {b:Nat} {R:Hp} {q x y z:Nat} {k f o:List Int} (t:Tr b R q x y z k f o) (g:Hp):Tr b (R++g) q x y z k f o:=⟨zC t.q,t.le,zC t.x,zC t.y,zC t.z⟩
theorem z0u {S:Sh} {b:Nat} {r:Hp} {cf:CF} {fr:AFr} {x y z:XE} {k f o:List Int} (hb:b≤r.length) (hx:∀ G,wE S b (r++G) (x cf fr (S.hp (r++G))) k) (hy:∀ G,wE S b (r++G) (y cf fr (S.hp (r++G))) f) (hz:∀ G,wE S b (r++G) (z cf fr (S.hp (r++G))) o) :
  ∃ G q x' y' z',zm [x,y,z] cf fr (S.hp r)=.ok (.ref (q+15)) (S.hp (r++G))∧Tr b (r++G) q x' y' z' k f o:=by
 have h1:=hx []
 rw [List.append_nil] at h1
 obtain ⟨G1,x',e1,l1,p1⟩:=h1
 obtain ⟨G2,y',e2,l2,p2⟩:=hy G1
 rw [List.append_assoc] at e2 p2
 obtain ⟨G3,z',e3,l3,p3⟩:=hz (G1++G2)
 have eq:r++(G1++G2++G3++[AO.list [.ref (x'+15),.ref (y'+15),.ref (z'+15)]])=r++(G1++G2)++G3++[.list [.ref (x'+15),.ref (y'+15),.ref (z'+15)]]:=by simp only [List.append_assoc]
 refine ⟨G1++G2++G3++[.list [.ref (x'+15),.ref (y'+15),.ref (z'+15)]],(r++(G1++G2)++G3).length,x',y',z',?_,?_⟩
 ·rw [eq];exact yX (ev1 e1 (ev1 e2 (ev1 e3 ev0)))
 ·rw [eq]
  exact ⟨zP _ _ [],⟨x8 _ (x8 _ hb),l1,l2,l3⟩,zC (zC (by rw [← List.append_assoc];exact zC p1)),zC (zC p2),zC p3⟩
theorem Tr.ne {S:Sh} {b b':Nat} {R:Hp} {q x y z q' x' y' z':Nat} {k f o:List Int} (t:Tr b R q x y z k f o) (u:Tr b' R q' x' y' z' k f o):yl .NotEq (.ref (q+15)) (.ref (q'+15)) (S.hp R)=some false:=by
 have h:∀ {b q x y z:Nat},Tr b R q x y z k f o→toD (S.hp R) 8 (.ref (q+15))=some (.list [.list (k.map PyData.int),.list (f.map PyData.int),.list (o.map PyData.int)]):=fun t =>
  jQ (show (S.hp R)[_+15]? = _ from t.q) (xJ (qB (show (S.hp R)[_+15]? = _ from t.x)) (xJ (qB (show (S.hp R)[_+15]? = _ from t.y)) (xJ (qB (show (S.hp R)[_+15]? = _ from t.z)) rfl)))
 refine (JC (h t) (h u) ?_).2 (Zh (show (S.hp R)[q+15]? = _ from t.q))
 show (PyData.canLayAll0 (k.map PyData.int) && (PyData.canLayAll0 (f.map PyData.int) && (PyData.canLayAll0 (o.map PyData.int) && true)))=true
 rw [wW,wW,wW];rfl
section
variable {T:Tab} {okf:Str→Str→Bool} (X:TT T okf) {n:Nat}
include X
theorem qc {i:Int} {h:Hp}:run T (n+1) (.fn "_law_whole") [.int i] h=.ok (.bool true) h:=by
 rw [xH X.kBn]
 rfl
end
noncomputable abbrev FS (tq dq hq:Nat) (p:Int) (v5 v6 v7 v8 v9:Option AV):AFr:=[some (.ref 1),some (.ref (tq+15)),some (.ref (dq+15)),some (.int p),some (.ref (hq+15)),v5,v8,v6,v7,v9]
noncomputable abbrev lB (okf:Str→Str→Bool):XS:=(zA [(sIf (zT .Or [(yP (zy (zD (zB (some (.fn "_law_whole"))) [(z8 (z5 1) "sign" none [(z5 6)])]))),(zQ (z8 (z5 1) "sign" none [(z5 6)]) [.NotEq] [(zK (zK (z5 2) (z5 6)) (z7 (.int 1)))])]) (zA [(zW (z7 (.bool false)))]) (zA [])),(z9 okf (.names (.one 9)) (z8 (z5 1) "told" none [(z5 6)])),(sIf (zT .Or [(yP (zy (zD (zB (some (.bi .isinstance))) [(z5 9),(zB (some (.bi .tuple)))]))),(yP (zy (zD (zB (some (.fn "_law_whole"))) [(zK (z5 9) (z7 (.int 0)))]))),(yP (zy (zD (zB (some (.bi .isinstance))) [(zK (z5 9) (z7 (.int 1))),(zB (some (.bi .bool)))])))]) (zA [(zW (z7 (.bool false)))]) (zA [])),(sIf (zQ (z5 9) [.NotEq] [(z8 (z5 0) "place_of" none [(zK (zK (z5 2) (z5 6)) (z7 (.int 1)))])]) (zA [(zW (z7 (.bool false)))]) (zA [])),(sIf (zT .And [(zy (zK (z5 9) (z7 (.int 1)))),(zQ (z8 (z5 0) "sign_at" none [(zK (z5 9) (z7 (.int 0)))]) [.NotEq] [(zK (zK (z5 2) (z5 6)) (z7 (.int 1)))])]) (zA [(zW (z7 (.bool false)))]) (zA []))])
theorem z3k {xs:List AV} {h:Hp}:yu .isinstance [.tup xs,.bi .tuple] h=.ok (.bool true) h:=rfl
theorem z12 {b:Bool} {h:Hp}:yu .isinstance [.bool b,.bi .bool] h=.ok (.bool true) h:=rfl
section
variable {T:Tab} {okf:Str→Str→Bool} (X:TT T okf) {n:Nat} {S:Sh} {r:Hp} {mvs:List (List (Int×Int))} {cus sg:List (List Int)} {tq kq dq hq:Nat} {m:Int} {es:Es} {hs:List AV}
include X
theorem Wp (V:Iv S mvs cus sg) (D:Dy S mvs cus r) (H:Th r tq kq m (kvO es)) (hd:r[dq]? = some (.dict (kvO es))) (nd:(ksO es).Pairwise (·<·)) (rg:∀ e∈es,Rg S.le.length e.2) {rq:Nat} (hr:r[rq]? = some (.list ((ksO es).map AV.int))) {p:Int} {v5 v6 v7 v8 v9:Option AV} :
  ∃ u8 u9 g,xm (.one 6) (lB okf) (.ref (rq+15)) (((ksO es).map AV.int).length+1) 0 (run T (n+6)) (FS tq dq hq p v5 v6 v7 v8 v9) (S.hp r)=.ok .next (FS tq dq hq p v5 v6 v7 u8 u9) (S.hp (r++g)):=by
 obtain ⟨fr',h',e,u8,u9,g,rfl,rfl⟩:=xG (t:=.one 6) (src:=.ref (rq+15)) (cf:=run T (n+6)) (xs:=(ksO es).map AV.int) (body:=lB okf)
  (fun k fr h=>∃ u8 u9 g,fr=FS tq dq hq p v5 v6 v7 u8 u9∧h=S.hp (r++g))
  (by
   rintro k fr h ⟨u8,u9,g,rfl,rfl⟩
   exact ym (show (S.hp (r++g))[rq+15]? = _ from zC hr))
  (by
   rintro k x fr h ⟨u8,u9,g,rfl,rfl⟩ hx
   unfold ksO at hx
   rw [List.getElem?_map,List.getElem?_map] at hx
   obtain ⟨w,hw,rfl⟩:=yC hx
   obtain ⟨e,he,rfl⟩:=yC hw
   have hm:=yM he
   obtain ⟨i0,i1⟩:=rg e hm
   have hk:=xw nd hm
   have hdg:∀ G:Hp,wF (S.hp (r++g++G)) (.ref (dq+15)) (.int e.1)=some (prV e.2):=fun G=>by rw [xl (show (S.hp (r++g++G))[dq+15]? = _ from zC (zC hd))];exact hk
   have hd0:=hdg []
   rw [List.append_nil] at hd0
   have e0:=z4d X (n:=n+3) (S:=S) (H.grow g) hk
   obtain ⟨g1,e1⟩:=z4a X (n:=n+1) V.I (D.grow g) (H.grow g) hk (rg e hm)
   obtain ⟨g2,e2⟩:=Zd X (n:=n+2) V.I ((D.grow g).grow g1) i0 i1
   have last:∃ g3,sIf (zT .And [(zy (zK (z5 9) (z7 (.int 1)))),(zQ (z8 (z5 0) "sign_at" none [(zK (z5 9) (z7 (.int 0)))]) [.NotEq] [(zK (zK (z5 2) (z5 6)) (z7 (.int 1)))])]) (zA [(zW (z7 (.bool false)))]) (zA []) (run T (n+6)) (FS tq dq hq p v5 v6 v7 (some (.int e.1)) (some (S.Pv mvs cus e.2.2))) (S.hp (r++g++g1++g2))=.ok .next (FS tq dq hq p v5 v6 v7 (some (.int e.1)) (some (S.Pv mvs cus e.2.2))) (S.hp (r++g++g1++g2++g3)):=by
    have t1:=yT (b:=S.shw cus e.2.2) (zZ (k:=.bool (S.shw cus e.2.2)) (z4 (i:=9) (cf:=run T (n+6)) (h:=S.hp (r++g++g1++g2)) (fr:=FS tq dq hq p v5 v6 v7 (some (.int e.1)) (some (S.Pv mvs cus e.2.2))) rfl) (i:=z7 (.int 1)) rfl rfl) rfl
    cases hc:S.shw cus e.2.2 with
    | false =>
     rw [hc] at t1
     exact ⟨[],by rw [List.append_nil];exact (zH (xI t1)).trans zF⟩
    | true =>
     rw [hc] at t1
     have es:=V.sgn_pl i0 i1 hc
     obtain ⟨g3,e3⟩:=ZX X (n:=n+2) (r:=r++g++g1++g2) V.I (p:=(S.pl mvs e.2.2:Nat)) (Int.natCast_nonneg _) (Int.ofNat_lt.mpr (yL es).1)
     rw [Int.toNat_natCast,es,Option.getD_some] at e3
     have hd3:=hdg (g1++g2++g3)
     rw [← List.append_assoc,← List.append_assoc] at hd3
     exact ⟨g3,(zH (qT t1 (xI (zV (zG (a:=1) (z4 rfl) rfl qx (ev1 (zZ (z4 rfl) rfl rfl) ev0) e3) (zZ (zZ (z4 rfl) (z4 rfl) hd3) rfl rfl) W2)))).trans zF⟩
   obtain ⟨g3,e3⟩:=last
   have hd2:=hdg (g1++g2)
   rw [← List.append_assoc] at hd2
   refine ⟨_,FS tq dq hq p v5 v6 v7 (some (.int e.1)) (some (S.Pv mvs cus e.2.2)),S.hp (r++g++g1++g2++g3),rfl,?_,_,_,g++g1++g2++g3,rfl,by rw [List.append_assoc,List.append_assoc,List.append_assoc,List.append_assoc,List.append_assoc]⟩
   refine (z6 ((zH (xD (zt (b:=true) (yT (v:=.bool true) (zu (ev1 (zG (z4 rfl) ((H.grow g).T S) jW (ev1 (z4 rfl) ev0) e0) ev0) (qc X)) rfl)) (xD (zV (zG (z4 rfl) ((H.grow g).T S) jW (ev1 (z4 rfl) ev0) e0) (zZ (zZ (z4 rfl) (z4 rfl) hd0) rfl rfl) W2) qR))).trans zF)).trans ?_
   refine (z6 (zX (j:=9) (zG (z4 rfl) ((H.grow g).T S) XD (ev1 (z4 rfl) ev0) e1) (zc rfl))).trans ?_
   refine (z6 ((zH (xD (zt (b:=true) (yT (v:=.bool true) (xM (ev1 (z4 rfl) (ev1 rfl ev0)) z3k) rfl)) (xD (zt (b:=true) (yT (v:=.bool true) (zu (ev1 (zZ (z4 rfl) rfl rfl) ev0) (qc X)) rfl)) (xD (zt (b:=true) (yT (v:=.bool true) (xM (ev1 (zZ (z4 rfl) rfl rfl) (ev1 rfl ev0)) z12) rfl)) qR)))).trans zF)).trans ?_
   exact (z6 ((zH (zV (z4 rfl) (zG (a:=1) (z4 rfl) rfl qX (ev1 (zZ (zZ (z4 rfl) (z4 rfl) (hdg g1)) rfl rfl) ev0) e2) zG3)).trans zF)).trans ((z6 e3).trans zF))
  (fr:=FS tq dq hq p v5 v6 v7 v8 v9) (h:=S.hp r) ⟨v8,v9,[],rfl,by rw [List.append_nil]⟩
 exact ⟨u8,u9,g,e⟩
end
noncomputable abbrev sP (okf:Str→Str→Bool):XS:=(sIf (zQ (zM .Mod (z5 3) (z7 (.int 2))) [.Eq] [(z7 (.int 0))]) (zA [(z9 okf (.names (.one 7)) (yE (z5 5) 1 (.one 10) (zT .And []) (z8 (z5 0) "place_of" none [(zK (zK (z5 2) (z5 10)) (z7 (.int 1)))]))),(sIf (zQ (yE (z5 5) 1 (.one 10) (zT .And []) (z8 (z5 1) "told" none [(z5 10)])) [.NotEq] [(z5 7)]) (zA [(zW (z7 (.bool false)))]) (zA []))]) (zA []))
noncomputable abbrev sH (okf:Str→Str→Bool):XS:=(sIf (zQ (zM .Mod (zD (zB (some (.bi .len))) [(z5 4)]) (z7 (.int 2))) [.Eq] [(z7 (.int 0))]) (zA [(z9 okf (.names (.one 8)) (zm [(z8 (z5 1) "numbers" none []),(z8 (z5 1) "of" none [(z5 3)]),(z8 (z5 1) "order" none [])]))]) (zA []))
section
variable {T:Tab} {okf:Str→Str→Bool} (X:TT T okf) {n:Nat} {S:Sh} {r:Hp} {mvs:List (List (Int×Int))} {cus sg:List (List Int)} {tq kq dq hq:Nat} {m:Int} {es:Es} {hs:List AV}
include X
theorem JW (V:Iv S mvs cus sg) (D:Dy S mvs cus r) (H:Th r tq kq m (kvO es)) (hd:r[dq]? = some (.dict (kvO es))) (nd:(ksO es).Pairwise (·<·)) (z:es.length<64) (rg:∀ e∈es,Rg S.le.length e.2) {rq:Nat} (hr:r[rq]? = some (.list ((ksO es).map AV.int))) {p:Int} {v6 v7 v8 v9:Option AV} :
  ∃ u6 G,sP okf (run T (n+6)) (FS tq dq hq p (some (.ref (rq+15))) v6 v7 v8 v9) (S.hp r)=.ok .next (FS tq dq hq p (some (.ref (rq+15))) u6 v7 v8 v9) (S.hp (r++G)):=by
 have t1:=zV (op:=.Eq) (b:=decide (p.fmod 2=0)) (yD (op:=.Mod) (z4 (i:=3) (cf:=run T (n+6)) (fr:=FS tq dq hq p (some (.ref (rq+15))) v6 v7 v8 v9) (h:=S.hp r) rfl) (y:=z7 (.int 2)) rfl (yY.trans (if_neg (by decide)))) (y:=z7 (.int 0)) rfl (by rw [yr,yZ])
 cases hb:decide (p.fmod 2=0) with
 | false=>rw [hb] at t1;exact ⟨v6,[],by rw [List.append_nil];exact (zH t1).trans zF⟩
 | true =>
 rw [hb] at t1
 have hk:=wp es
 obtain ⟨G1,e1⟩:=q9 (S:=S) (fun e:Int×Int×Int=>AV.int e.1) (r:=r) (a:=rq) (l:=es) (p:=fun _=>true) (f:=fun e=>S.Pv mvs cus e.2.2) (own:=1) (i:=10) (test:=zT .And []) (elt:=z8 (z5 0) "place_of" none [(zK (zK (z5 2) (z5 10)) (z7 (.int 1)))]) (it:=z5 5) (cf:=run T (n+6)) (h:=S.hp r) (fr:=FS tq dq hq p (some (.ref (rq+15))) v6 v7 v8 v9)
  rfl (by rw [← hk];exact hr) (zc rfl) (Nat.lt_trans z (by decide))
  (fun e he G=>⟨[],by rw [List.append_nil];exact ZL⟩)
  (fun e he _ G=>by
   obtain ⟨g,q⟩:=Zd X (n:=n+2) V.I (D.grow G) (rg e he).1 (rg e he).2
   exact ⟨g,zG (a:=1) (z4 rfl) rfl qX (ev1 (zZ (zZ (z4 rfl) (z4 rfl) (by rw [xl (show (S.hp (r++G))[dq+15]? = _ from zC hd)];exact xw nd he)) rfl rfl) ev0) q⟩)
 rw [je] at e1
 generalize hR:r++G1++[AO.list (es.map fun e=>S.Pv mvs cus e.2.2)]=R at e1
 have hp1:R[(r++G1).length]? = some (.list (es.map fun e=>S.Pv mvs cus e.2.2)):=by rw [← hR];exact zP _ _ []
 have eR:R=r++(G1++[AO.list (es.map fun e=>S.Pv mvs cus e.2.2)]):=by rw [← hR,List.append_assoc]
 have DR:Dy S mvs cus R:=by rw [eR];exact D.grow _
 have HR:Th R tq kq m (kvO es):=by rw [eR];exact H.grow _
 have rR:R[rq]? = some (.list ((ksO es).map AV.int)):=by rw [eR];exact zC hr
 generalize (r++G1).length=uq at e1 hp1
 obtain ⟨G2,e2⟩:=q9 (S:=S) (fun e:Int×Int×Int=>AV.int e.1) (r:=R) (a:=rq) (l:=es) (p:=fun _=>true) (f:=fun e=>S.Pv mvs cus e.2.2) (own:=1) (i:=10) (test:=zT .And []) (elt:=z8 (z5 1) "told" none [(z5 10)]) (it:=z5 5) (cf:=run T (n+6)) (h:=S.hp R) (fr:=FS tq dq hq p (some (.ref (rq+15))) (some (.ref (uq+15))) v7 v8 v9)
  rfl (by rw [← hk];exact rR) (zc rfl) (Nat.lt_trans z (by decide))
  (fun e he G=>⟨[],by rw [List.append_nil];exact ZL⟩)
  (fun e he _ G=>by
   obtain ⟨g,q⟩:=z4a X (n:=n+1) V.I (DR.grow G) (HR.grow G) (xw nd he) (rg e he)
   exact ⟨g,zG (z4 rfl) ((HR.grow G).T S) XD (ev1 (z4 rfl) ev0) q⟩)
 rw [je] at e2
 refine ⟨some (.ref (uq+15)),G1++[.list (es.map fun e=>S.Pv mvs cus e.2.2)]++G2++[.list (es.map fun e=>S.Pv mvs cus e.2.2)],(zg t1).trans ((z6 (zX (j:=7) e1 (zc rfl))).trans ((z6 ((zH (zV e2 (z4 rfl) (zE4 (show (S.hp (R++G2++[.list (es.map fun e=>S.Pv mvs cus e.2.2)]))[(R++G2).length+15]? = _ from zP _ _ []) (show (S.hp (R++G2++[.list (es.map fun e=>S.Pv mvs cus e.2.2)]))[uq+15]? = _ from zC (zC hp1))))).trans zF)).trans ?_))⟩
 rw [eR]
 simp only [List.append_assoc]
 exact zF
theorem z2k (V:Iv S mvs cus sg) (D:Dy S mvs cus r) (H:Th r tq kq m (kvO es)) (hh:r[hq]? = some (.list hs)) (nd:(ksO es).Pairwise (·<·)) (z:es.length<64) (sm:wh es) (rg:∀ e∈es,Rg S.le.length e.2) {p:Int} (p0:0≤p) (p1:p<S.hands) {b:Nat} (hb:b≤r.length) {v5 v6 v8 v9:Option AV} :
  ∃ q x y z' G,zA [(z9 okf (.names (.one 8)) (Qa (zm [(z8 (z5 1) "order" none []),(z8 (z5 1) "of" none [(z5 3)]),(z8 (z5 1) "numbers" none [])]))),sH okf] (run T (n+6)) (FS tq dq hq p v5 v6 none v8 v9) (S.hp r)=.ok .next (FS tq dq hq p v5 v6 (some (.ref (q+15))) v8 v9) (S.hp (r++G))∧Tr b (r++G) q x y z' (ksO es) (ksO (es.filter fun e=>decide (e.2.1=p))) (S.ord mvs es):=by
 have gN:∀ (v7:Option AV) (R:Hp),b≤R.length→Th R tq kq m (kvO es)→wE S b R (z8 (z5 1) "numbers" none [] (run T (n+6)) (FS tq dq hq p v5 v6 v7 v8 v9) (S.hp R)) (ksO es):=fun v7 R hb H=>wE.of (G:=[]) (by rw [List.append_nil];exact zG (z4 rfl) (H.T S) Zn ev0 (Xx X (n:=n+5) H nd z)) hb
 have gF:∀ (v7:Option AV) (R:Hp),b≤R.length→Th R tq kq m (kvO es)→wE S b R (z8 (z5 1) "of" none [(z5 3)] (run T (n+6)) (FS tq dq hq p v5 v6 v7 v8 v9) (S.hp R)) (ksO (es.filter fun e=>decide (e.2.1=p))):=fun v7 R hb H=>by
  obtain ⟨G,e⟩:=of_ X (n:=n+3) (S:=S) H nd z p0 p1
  exact .of (zG (z4 rfl) (H.T S) zG8 (ev1 (z4 rfl) ev0) e) hb
 have gO:∀ (v7:Option AV) (R:Hp),b≤R.length→Th R tq kq m (kvO es)→Dy S mvs cus R→wE S b R (z8 (z5 1) "order" none [] (run T (n+6)) (FS tq dq hq p v5 v6 v7 v8 v9) (S.hp R)) (S.ord mvs es):=fun v7 R hb H D=>by
  obtain ⟨G,e⟩:=Q4 X (n:=n+1) V.I D H nd z sm rg
  exact .of (zG (z4 rfl) (H.T S) Q5 ev0 e) hb
 obtain ⟨G1,q,x,y,w,e1,t1⟩:=z0u (S:=S) (cf:=run T (n+6)) (fr:=FS tq dq hq p v5 v6 none v8 v9) hb (fun G=>gO none _ (x8 G hb) (H.grow G) (D.grow G)) (fun G=>gF none _ (x8 G hb) (H.grow G)) (fun G=>gN none _ (x8 G hb) (H.grow G))
 have e2:=zF4 e1 (show (S.hp (r++G1))[q+15]? = _ from t1.q)
 have e2:Qa (zm [(z8 (z5 1) "order" none []),(z8 (z5 1) "of" none [(z5 3)]),(z8 (z5 1) "numbers" none [])]) (run T (n+6)) (FS tq dq hq p v5 v6 none v8 v9) (S.hp r)=.ok (.ref ((r++G1).length+15)) (S.hp (r++G1++[.list [.ref (w+15),.ref (y+15),.ref (x+15)]])):=e2
 have t2:Tr b (r++G1++[.list [.ref (w+15),.ref (y+15),.ref (x+15)]]) (r++G1).length w y x (ksO es) (ksO (es.filter fun e=>decide (e.2.1=p))) (S.ord mvs es):=⟨zP _ _ [],⟨x8 _ hb,t1.le.2.2.2,t1.le.2.2.1,t1.le.2.1⟩,zC t1.z,zC t1.y,zC t1.x⟩
 rw [List.append_assoc] at e2 t2
 generalize G1++[AO.list [.ref (w+15),.ref (y+15),.ref (x+15)]]=G2 at e2 t2
 generalize (r++G1).length=q2 at e2 t2
 have t:=zV (op:=.Eq) (b:=decide ((hs.length:Int).fmod 2=0)) (yD (op:=.Mod) (xM (b:=.len) (res:=.ok (.int (hs.length:Nat)) (S.hp (r++G2))) (ev1 (z4 (i:=4) (cf:=run T (n+6)) (fr:=FS tq dq hq p v5 v6 (some (.ref (q2+15))) v8 v9) (h:=S.hp (r++G2)) rfl) ev0) (by rw [w8,qY,show (S.hp (r++G2))[hq+15]? = _ from zC hh];rfl)) (y:=z7 (.int 2)) rfl (yY.trans (if_neg (by decide)))) (y:=z7 (.int 0)) rfl (by rw [yr,yZ])
 cases hc:decide ((hs.length:Int).fmod 2=0) with
 | false =>
  rw [hc] at t
  exact ⟨q2,w,y,x,G2,(z6 (zX (j:=8) e2 (zc rfl))).trans ((z6 ((zH t).trans zF)).trans zF),t2⟩
 | true =>
  rw [hc] at t
  have hb2:=x8 G2 hb
  obtain ⟨G3,q',x',y',w',e3,t3⟩:=z0u (S:=S) (r:=r++G2) (cf:=run T (n+6)) (fr:=FS tq dq hq p v5 v6 (some (.ref (q2+15))) v8 v9) hb2 (fun G=>gN _ _ (x8 G hb2) ((H.grow G2).grow G)) (fun G=>gF _ _ (x8 G hb2) ((H.grow G2).grow G)) (fun G=>gO _ _ (x8 G hb2) ((H.grow G2).grow G) ((D.grow G2).grow G))
  rw [List.append_assoc] at e3 t3
  exact ⟨q',x',y',w',G2++G3,(z6 (zX (j:=8) e2 (zc rfl))).trans ((z6 ((zg t).trans ((z6 (zX (j:=8) e3 (zc rfl))).trans zF))).trans zF),t3⟩
end
noncomputable abbrev sC:XS:=(sIf (zQ (z5 8) [.NotEq] [(zm [(z5 5),(yE (z5 5) 1 (.one 10) (zT .And [(zQ (zK (zK (z5 2) (z5 10)) (z7 (.int 0))) [.Eq] [(z5 3)])]) (z5 10)),(zD (zB (some (.fn "_law_order"))) [(z5 0),(z5 2)])])]) (zA [(zW (z7 (.bool false)))]) (zA []))
section
variable {T:Tab} {okf:Str→Str→Bool} (X:TT T okf) {n:Nat} {S:Sh} {r:Hp} {mvs:List (List (Int×Int))} {cus sg:List (List Int)} {tq kq dq hq:Nat} {m:Int} {es:Es} {hs:List AV}
include X
theorem zDx (V:Iv S mvs cus sg) (D:Dy S mvs cus r) (hd:r[dq]? = some (.dict (kvO es))) (nd:(ksO es).Pairwise (·<·)) (z:es.length<64) (sm:wh es) (rg:∀ e∈es,Rg S.le.length e.2) {p:Int} {rq:Nat} (hr:r[rq]? = some (.list ((ksO es).map AV.int))) {b q x y w:Nat} (t:Tr b r q x y w (ksO es) (ksO (es.filter fun e=>decide (e.2.1=p))) (S.ord mvs es)) {v6 v8 v9:Option AV} :
  ∃ G,sC (run T (n+6)) (FS tq dq hq p (some (.ref (rq+15))) v6 (some (.ref (q+15))) v8 v9) (S.hp r)=.ok .next (FS tq dq hq p (some (.ref (rq+15))) v6 (some (.ref (q+15))) v8 v9) (S.hp (r++G)):=by
 obtain ⟨G,q',x',y',w',e,u⟩:=z0u (S:=S) (b:=0) (k:=ksO es) (f:=ksO (es.filter fun e=>decide (e.2.1=p))) (o:=S.ord mvs es) (cf:=run T (n+6)) (fr:=FS tq dq hq p (some (.ref (rq+15))) v6 (some (.ref (q+15))) v8 v9) (x:=z5 5) (y:=yE (z5 5) 1 (.one 10) (zT .And [(zQ (zK (zK (z5 2) (z5 10)) (z7 (.int 0))) [.Eq] [(z5 3)])]) (z5 10)) (z:=zD (zB (some (.fn "_law_order"))) [(z5 0),(z5 2)]) (r:=r) (Nat.zero_le _)
  (fun G=>⟨[],rq,by rw [List.append_nil];rfl,Nat.zero_le _,by rw [List.append_nil];exact zC hr⟩)
  (fun G=>by
   obtain ⟨g,e⟩:=q9 (S:=S) (fun e:Int×Int×Int=>AV.int e.1) (r:=r++G) (a:=rq) (l:=es) (p:=fun e=>decide (e.2.1=p)) (f:=fun e=>AV.int e.1) (own:=1) (i:=10) (test:=zT .And [(zQ (zK (zK (z5 2) (z5 10)) (z7 (.int 0))) [.Eq] [(z5 3)])]) (elt:=z5 10) (it:=z5 5) (cf:=run T (n+6)) (h:=S.hp (r++G)) (fr:=FS tq dq hq p (some (.ref (rq+15))) v6 (some (.ref (q+15))) v8 v9)
    rfl (by rw [← wp];exact zC hr) (zc rfl) (Nat.lt_trans z (by decide))
    (fun e he G'=>⟨[],by
     rw [List.append_nil]
     exact ZS (zV (zZ (zZ (z4 rfl) (z4 rfl) (by rw [xl (show (S.hp (r++G++G'))[dq+15]? = _ from zC (zC hd))];exact xw nd he)) rfl rfl) (z4 rfl) (by rw [yr,yZ]))⟩)
    (fun e _ _ G'=>⟨[],by rw [List.append_nil];exact z4 rfl⟩)
   refine .of (G:=g) ?_ (Nat.zero_le _)
   rw [e,wp (es.filter fun e=>decide (e.2.1=p))])
  (fun G=>by
   obtain ⟨g,e,hg⟩:=W6 X (n:=n+1) V.I (D.grow G) (zC hd) nd z sm rg
   exact ⟨g,(r++G).length,zu (ev1 (z4 rfl) (ev1 (z4 rfl) ev0)) e,Nat.zero_le _,hg⟩)
 exact ⟨G,(zH (zV (z4 rfl) e ((t.grow G).ne u))).trans zF⟩
end
theorem J0 {h:Hp} {a b:Nat} {xs ys:List AV} (e:h[a]? = some (.list xs)) (e':h[b]? = some (.list ys)) (z:xs.length+ys.length<small):yN .extend (.ref a) [.ref b] h=.ok .none (h.set a (.list (xs++ys))):=by
 show ofP ((zi h a).bind fun xs=>meO .extend a xs [.ref b] h)=_
 rw [qb e]
 show ofP ((zi h b).bind fun ys=>if xs.length+ys.length<small then some (.none,h.set a (.list (xs++ys))) else none)=_
 rw [qb e']
 show ofP (if _ then _ else _)=_
 rw [if_pos z];rfl
theorem z0n {h:Hp} {a:Nat} {xs:List AV} (e:h[a]? = some (.list xs)):yN .clear (.ref a) [] h=.ok .none (h.set a (.list [])):=by
 show ofP ((zi h a).bind fun xs=>meO .clear a xs [] h)=_
 rw [qb e];rfl
theorem z20 {h:Hp} {a:Nat} {xs:List AV} (e:h[a]? = some (.list xs)) (z:xs.length≤small):yu .list [.ref a] h=.ok (.ref h.length) (h++[.list xs]):=by
 rw [XZ,e];exact if_pos z
noncomputable abbrev Cp:=List (Nat×List Int)
noncomputable def cpO (as:Cp):Hp:=as.map fun a=>.list (a.2.map AV.int)
noncomputable def tpO (k:Nat) (as:Cp):List AV:=(List.range as.length).zipWith (fun i a=>AV.tup [.ref (a.1+15),.ref (k+i+15)]) as
theorem z40 (as:Cp):(cpO as).length=as.length:=List.length_map _
theorem JO (k:Nat) (as:Cp) (a:Nat×List Int):tpO k (as++[a])=tpO k as++[.tup [.ref (a.1+15),.ref (k+as.length+15)]]:=by
 unfold tpO
 rw [zU]
 show (List.range (as.length+1)).zipWith _ _=_
 rw [List.range_succ,List.zipWith_append (by rw [List.length_range])]
 rfl
theorem Ys (k:Nat) (as:Cp):(tpO k as).length=as.length:=by unfold tpO;rw [List.length_zipWith,List.length_range,Nat.min_self]
theorem JJ {S:Sh} {r:Hp} {cf:CF} {lq:Nat} {as:Cp} {a0 a1 a2 a3 a4 a5 a6 a7 a9:Option AV} (hl:r[lq]? = some (.list (as.map fun a=>.ref (a.1+15)))) (ha:∀ a∈as,r[a.1]? = some (.list (a.2.map AV.int))∧a.2.length<64) (z:as.length<small) :
  yE (z5 8) 1 (.one 10) (zT .And []) (yt [(z5 10),(zD (zB (some (.bi .list))) [(z5 10)])]) cf [a0,a1,a2,a3,a4,a5,a6,a7,some (.ref (lq+15)),a9] (S.hp r)=.ok (.ref ((r++cpO as).length+15)) (S.hp (r++cpO as++[.list (tpO r.length as)])):=by
 have key:∀ (m:Nat) (bs cs:Cp) (v:Option AV),as=bs++cs→cs.length=m→yJ (.one 10) (zT .And []) (yt [(z5 10),(zD (zB (some (.bi .list))) [(z5 10)])]) (.ref (lq+15)) (m+1) bs.length (tpO r.length bs) cf [a0,a1,a2,a3,a4,a5,a6,a7,some (.ref (lq+15)),a9,v] (S.hp (r++cpO bs))=.ok (tpO r.length as) (S.hp (r++cpO as)):=by
  intro m
  induction m with
  | zero =>
   intro bs cs v e hc
   have:=List.length_eq_zero_iff.mp hc
   subst this
   rw [List.append_nil] at e
   subst e
   show (match (Src.ref (lq+15)).next? (S.hp (r++cpO as)) as.length with
    | none=>Out.stuck
    | some none=>.ok (tpO r.length as) (S.hp (r++cpO as))
    | some (some x)=>_)=_
   rw [ym (show (S.hp (r++cpO as))[lq+15]? = _ from zC hl),List.getElem?_eq_none (by rw [List.length_map];exact Nat.le_refl _)]
  | succ m ih =>
   intro bs cs v e hc
   cases cs with
   | nil=>cases hc
   | cons a cs =>
    have hx:(as.map fun a=>AV.ref (a.1+15))[bs.length]? = some (.ref (a.1+15)):=by
     rw [List.getElem?_map,e,zP];rfl
    obtain ⟨h1,h2⟩:=ha a (by rw [e];exact List.mem_append_right _ (.head _))
    have hb:=ih (bs++[a]) cs (some (.ref (a.1+15))) (by rw [e,List.append_assoc];rfl) (Nat.succ.inj hc)
    have hq:(S.hp (r++cpO bs))[a.1+15]? = some (.list (a.2.map AV.int)):=zC h1
    have e1:yt [(z5 10),(zD (zB (some (.bi .list))) [(z5 10)])] cf [a0,a1,a2,a3,a4,a5,a6,a7,some (.ref (lq+15)),a9,some (.ref (a.1+15))] (S.hp (r++cpO bs))=.ok (.tup [.ref (a.1+15),.ref ((r++cpO bs).length+15)]) (S.hp (r++cpO bs++[.list (a.2.map AV.int)])) :=
     qH (ev1 (z4 rfl) (ev1 (xM (ev1 (z4 rfl) ev0) (z20 hq (by rw [List.length_map];exact Nat.le_trans (Nat.le_of_lt h2) (by decide)))) ev0))
    show (match (Src.ref (lq+15)).next? (S.hp (r++cpO bs)) bs.length with
     | none=>Out.stuck
     | some none=>_
     | some (some x)=>(match NTgt.bind (.one 10) x [a0,a1,a2,a3,a4,a5,a6,a7,some (.ref (lq+15)),a9,v] with
      | none=>.stuck
      | some fr₁=>(zT .And [] cf fr₁ (S.hp (r++cpO bs))).bind0 fun b h₁ =>
        if b then (yt [(z5 10),(zD (zB (some (.bi .list))) [(z5 10)])] cf fr₁ h₁).bind0 fun v h₂=>if (tpO r.length bs).length<small then yJ (.one 10) (zT .And []) (yt [(z5 10),(zD (zB (some (.bi .list))) [(z5 10)])]) (.ref (lq+15)) (m+1) (bs.length+1) (tpO r.length bs++[v]) cf fr₁ h₂ else .stuck
        else yJ (.one 10) (zT .And []) (yt [(z5 10),(zD (zB (some (.bi .list))) [(z5 10)])]) (.ref (lq+15)) (m+1) (bs.length+1) (tpO r.length bs) cf fr₁ h₁))=_
    rw [ym (show (S.hp (r++cpO bs))[lq+15]? = _ from zC hl),hx]
    show (yt [(z5 10),(zD (zB (some (.bi .list))) [(z5 10)])] cf [a0,a1,a2,a3,a4,a5,a6,a7,some (.ref (lq+15)),a9,some (.ref (a.1+15))] (S.hp (r++cpO bs))).bind0 (fun v h₂=>if (tpO r.length bs).length<small then yJ (.one 10) (zT .And []) (yt [(z5 10),(zD (zB (some (.bi .list))) [(z5 10)])]) (.ref (lq+15)) (m+1) (bs.length+1) (tpO r.length bs++[v]) cf [a0,a1,a2,a3,a4,a5,a6,a7,some (.ref (lq+15)),a9,some (.ref (a.1+15))] h₂ else .stuck)=_
    rw [e1,Out.bind0_ok,if_pos (by rw [Ys];exact Nat.lt_of_le_of_lt (by rw [e,zU];exact Nat.le_add_right _ _) z)]
    rw [JO,zU] at hb
    rw [List.append_assoc,show cpO bs++[AO.list (a.2.map AV.int)]=cpO (bs++[a]) from (by unfold cpO;rw [List.map_append];rfl),zU,z40]
    exact hb
 have e:=key as.length [] as none rfl rfl
 unfold yE
 rw [show z5 8 cf [a0,a1,a2,a3,a4,a5,a6,a7,some (.ref (lq+15)),a9] (S.hp r)=.ok (.ref (lq+15)) (S.hp r) from rfl,Out.bind_ok,qn (show (S.hp r)[lq+15]? = _ from hl)]
 dsimp only
 rw [show cpO []=[] from rfl,List.append_nil] at e
 rw [List.length_map,show ([a0,a1,a2,a3,a4,a5,a6,a7,some (AV.ref (lq+15)),a9]++List.replicate 1 none:AFr)=[a0,a1,a2,a3,a4,a5,a6,a7,some (.ref (lq+15)),a9,none] from rfl,show (yJ (.one 10) (zT .And []) (yt [(z5 10),(zD (zB (some (.bi .list))) [(z5 10)])]) (.ref (lq+15)) (as.length+1) 0 [] cf [a0,a1,a2,a3,a4,a5,a6,a7,some (.ref (lq+15)),a9,none] (S.hp r))=_ from e]
 rfl
theorem z2b {k:Nat} {as:Cp} {v:AV} (h:v∈tpO k as):∃ i a,as[i]? = some a∧v=.tup [.ref (a.1+15),.ref (k+i+15)]:=by
 obtain ⟨i,hi⟩:=List.getElem?_of_mem h
 have hl:=(yL hi).1
 rw [Ys] at hl
 unfold tpO at hi
 rw [List.getElem?_zipWith,List.getElem?_range hl,y6 hl] at hi
 cases hi
 exact ⟨i,_,y6 hl,rfl⟩
theorem Ju {r g:Hp} {q:Nat} {o:AO} (h:q<r.length):(r++g).set q o=r.set q o++g:=List.set_append_left _ _ h
theorem WV {r g:Hp} {q:Nat} {o:AO} (h:r.length≤q):∃ g',(r++g).set q o=r++g':=⟨g.set (q - r.length) o,by rw [List.set_append_right _ _ h]⟩
section
variable {T:Tab} {okf:Str→Str→Bool} (X:TT T okf) {n:Nat} {S:Sh} {r:Hp} {mvs:List (List (Int×Int))} {cus sg:List (List Int)} {tq kq dq hq:Nat} {m:Int} {es:Es} {hs:List AV}
include X
theorem z17 (V:Iv S mvs cus sg) (D:Dy S mvs cus r) (H:Th r tq kq m (kvO es)) (hm:hq∉S.mv) (hc:hq∉S.cu) (hh:r[hq]? = some (.list hs)) (ne1:hq≠tq) (ne2:hq≠kq) (nd:(ksO es).Pairwise (·<·)) (z:es.length<64) (sm:wh es) (rg:∀ e∈es,Rg S.le.length e.2) (zh:hs.length+3<small) {p:Int} {G:Hp} {q x y w:Nat} {fl:List Int} (zf:fl.length<64) (t:Tr r.length (r++G) q x y w (ksO es) fl (S.ord mvs es)) {v5 v6 v8 v9:Option AV} :
  ∃ G' ts,zA [(zI (z8 (z5 4) "extend" (some .extend) [(yE (z5 8) 1 (.one 10) (zT .And []) (yt [(z5 10),(zD (zB (some (.bi .list))) [(z5 10)])]))])),(zI (z8 (z8 (z5 1) "order" none []) "clear" (some .clear) [])),(zI (z8 (z8 (z5 1) "numbers" none []) "append" (some .append) [(z7 (.int 0))])),(zW (wf .And [(ju (z8 (z5 1) "order" none []) [.Eq] [(zK (z5 8) (z7 (.int 2)))]),(ju (z8 (z5 1) "numbers" none []) [.Eq] [(zK (z5 8) (z7 (.int 0)))])]))] (run T (n+6)) (FS tq dq hq p v5 v6 (some (.ref (q+15))) v8 v9) (S.hp (r++G))=.ok (.ret (.bool true)) (FS tq dq hq p v5 v6 (some (.ref (q+15))) v8 v9) (S.hp (r.set hq (.list (hs++ts))++G'))∧ts.length≤3 ∧
   ∀ v∈ts,∃ a b xs,v=.tup [.ref (a+15),.ref (b+15)]∧r.length≤a∧r.length≤b∧(r.set hq (.list (hs++ts))++G')[a]? = some (.list ((xs:List Int).map AV.int))∧(r.set hq (.list (hs++ts))++G')[b]? = some (.list (xs.map AV.int)):=by
 have hlt:=(yL hh).1
 have zk:(ksO es).length<64:=by rw [qy];exact z
 have zo:(S.ord mvs es).length<64:=by unfold Sh.ord;rw [List.length_map,List.length_mergeSort,List.length_map];exact z
 generalize has:[(x,ksO es),(y,fl),(w,S.ord mvs es)]=as
 have hl:(r++G)[q]? = some (.list (as.map fun a=>AV.ref (a.1+15))):=by rw [← has];exact t.q
 have la:as.length=3:=by rw [← has];rfl
 have ha:∀ a∈as,r.length≤a.1∧(r++G)[a.1]? = some (.list (a.2.map AV.int))∧a.2.length<64:=fun a h=>by
  rw [← has] at h
  rcases List.mem_cons.mp h with rfl | h
  ·exact ⟨t.le.2.1,t.x,zk⟩
  rcases List.mem_cons.mp h with rfl | h
  ·exact ⟨t.le.2.2.1,t.y,zf⟩
  ·rw [xE h];exact ⟨t.le.2.2.2,t.z,zo⟩
 generalize hts:tpO (r++G).length as=ts
 have lts:ts.length=3:=by rw [← hts,Ys];exact la
 have ec:=JJ (S:=S) (r:=r++G) (cf:=run T (n+6)) (lq:=q) (as:=as) (a0:=some (.ref 1)) (a1:=some (.ref (tq+15))) (a2:=some (.ref (dq+15))) (a3:=some (.int p)) (a4:=some (.ref (hq+15))) (a5:=v5) (a6:=v8) (a7:=v6) (a9:=v9) hl (fun a h=>(ha a h).2) (by rw [la];exact Nat.lt_of_lt_of_le (show 3<4 by decide) (by decide))
 rw [hts] at ec
 generalize hC:cpO as=C at ec
 have ex:=J0 (h:=S.hp (r++G++C++[.list ts])) (a:=hq+15) (b:=(r++G++C).length+15) (xs:=hs) (ys:=ts) (zC (zC (zC hh))) (zP _ _ []) (by rw [lts];exact zh)
 have es1:(r++G++C++[AO.list ts]).set hq (.list (hs++ts))=r.set hq (.list (hs++ts))++(G++C++[.list ts]):=by
  rw [List.append_assoc r,List.append_assoc r];exact Ju hlt
 have D':Dy S mvs cus (r.set hq (.list (hs++ts))):=⟨D.ml,D.cl,fun i k ps h1 h2=>by rw [List.getElem?_set_ne (fun (e:hq=k)=>hm (e▸yM h1))];exact D.m i k ps h1 h2,fun i k ds h1 h2=>by rw [List.getElem?_set_ne (fun (e:hq=k)=>hc (e▸yM h1))];exact D.c i k ds h1 h2,D.nd⟩
 have H':Th (r.set hq (.list (hs++ts))) tq kq m (kvO es):=⟨zR ne1 H.t,zR ne2 H.k⟩
 have up:∀ {i:Nat} {o:AO},r.length≤i→(r++G++C)[i]? = some o→(r.set hq (.list (hs++ts))++(G++C++[.list ts]))[i]? = some o:=fun l h=>by
  rw [← es1];exact zR (Nat.ne_of_lt (Nat.lt_of_lt_of_le hlt l)) (zC h)
 generalize hr':r.set hq (.list (hs++ts))=r' at es1 D' H' up
 generalize hG:G++C++[AO.list ts]=G7 at es1 up
 have gN:∀ g:Hp,wE S (r'++G7).length (r'++G7++g) (z8 (z5 1) "numbers" none [] (run T (n+6)) (FS tq dq hq p v5 v6 (some (.ref (q+15))) v8 v9) (S.hp (r'++G7++g))) (ksO es):=fun g=>wE.of (G:=[]) (by rw [List.append_nil];exact zG (z4 rfl) (((H'.grow G7).grow g).T S) Zn ev0 (Xx X (n:=n+5) ((H'.grow G7).grow g) nd z)) (x8 _ (Nat.le_refl _))
 have gO:∀ g:Hp,wE S (r'++G7).length (r'++G7++g) (z8 (z5 1) "order" none [] (run T (n+6)) (FS tq dq hq p v5 v6 (some (.ref (q+15))) v8 v9) (S.hp (r'++G7++g))) (S.ord mvs es):=fun g=>by
  obtain ⟨G,e⟩:=Q4 X (n:=n+1) V.I ((D'.grow G7).grow g) ((H'.grow G7).grow g) nd z sm rg
  exact .of (zG (z4 rfl) (((H'.grow G7).grow g).T S) Q5 ev0 e) (x8 _ (Nat.le_refl _))
 have c1:=gO []
 rw [List.append_nil] at c1
 obtain ⟨g1,a1,e1,l1,p1⟩:=c1
 obtain ⟨g1',s1⟩:=WV (r:=r'++G7) (g:=g1) (o:=AO.list []) l1
 obtain ⟨g2,a2,e2,l2,p2⟩:=gN g1'
 obtain ⟨g2',s2⟩:=WV (r:=r'++G7) (g:=g1'++g2) (o:=AO.list ((ksO es).map AV.int++[.int 0])) l2
 obtain ⟨g3,a3,e3,l3,p3⟩:=gO g2'
 obtain ⟨g4,a4,e4,l4,p4⟩:=gN (g2'++g3)
 rw [← List.append_assoc] at e4 p4
 have q7:(r'++G7)[q]? = some (.list [.ref (x+15),.ref (y+15),.ref (w+15)]):=up t.le.1 (zC t.q)
 have x7:(r'++G7)[x]? = some (.list ((ksO es).map AV.int)):=up t.le.2.1 (zC t.x)
 have w7:(r'++G7)[w]? = some (.list ((S.ord mvs es).map AV.int)):=up t.le.2.2.2 (zC t.z)
 refine ⟨G7++g2'++g3++g4,ts,?_,Nat.le_of_eq lts,fun v hv=>?_⟩
 ·have k1:(zI (z8 (z5 4) "extend" (some .extend) [(yE (z5 8) 1 (.one 10) (zT .And []) (yt [(z5 10),(zD (zB (some (.bi .list))) [(z5 10)])]))])) (run T (n+6)) (FS tq dq hq p v5 v6 (some (.ref (q+15))) v8 v9) (S.hp (r++G))=.ok .next (FS tq dq hq p v5 v6 (some (.ref (q+15))) v8 v9) (S.hp (r'++G7)):=by
   refine zY (v:=.none) (j3 (a:=hq+15) (z4 rfl) (show (S.hp (r++G))[hq+15]? = _ from zC hh) (ev1 ec ev0) ?_)
   rw [ex,← es1];rfl
  have k2:(zI (z8 (z8 (z5 1) "order" none []) "clear" (some .clear) [])) (run T (n+6)) (FS tq dq hq p v5 v6 (some (.ref (q+15))) v8 v9) (S.hp (r'++G7))=.ok .next (FS tq dq hq p v5 v6 (some (.ref (q+15))) v8 v9) (S.hp (r'++G7++g1')):=by
   refine zY (v:=.none) (j3 e1 (show (S.hp (r'++G7++g1))[a1+15]? = _ from p1) ev0 ?_)
   rw [z0n (show (S.hp (r'++G7++g1))[a1+15]? = _ from p1),← s1];rfl
  have k3:(zI (z8 (z8 (z5 1) "numbers" none []) "append" (some .append) [(z7 (.int 0))])) (run T (n+6)) (FS tq dq hq p v5 v6 (some (.ref (q+15))) v8 v9) (S.hp (r'++G7++g1'))=.ok .next (FS tq dq hq p v5 v6 (some (.ref (q+15))) v8 v9) (S.hp (r'++G7++g2')):=by
   refine zY (v:=.none) (j3 e2 (show (S.hp (r'++G7++g1'++g2))[a2+15]? = _ from p2) (ev1 rfl ev0) ?_)
   rw [q6,show (S.hp (r'++G7++g1'++g2))[a2+15]? = _ from p2]
   show (if _ then _ else _)=_
   rw [if_pos (by rw [List.length_map];exact Nat.lt_trans zk (by decide)),← s2,← List.append_assoc];rfl
  rw [hr',← List.append_assoc,← List.append_assoc,← List.append_assoc]
  exact (z6 k1).trans ((z6 k2).trans ((z6 k3).trans (zL (zd (z0a (X8 e3 (zZ (z4 rfl) rfl (xa (show (S.hp (r'++G7++g2'++g3))[q+15]? = _ from zC (zC q7)) rfl rfl)) (XR (show (S.hp (r'++G7++g2'++g3))[a3+15]? = _ from p3) (show (S.hp (r'++G7++g2'++g3))[w+15]? = _ from zC (zC w7)))) (X8 e4 (zZ (z4 rfl) rfl (xa (show (S.hp (r'++G7++g2'++g3++g4))[q+15]? = _ from zC (zC (zC q7))) rfl rfl)) (XR (show (S.hp (r'++G7++g2'++g3++g4))[a4+15]? = _ from p4) (show (S.hp (r'++G7++g2'++g3++g4))[x+15]? = _ from zC (zC (zC x7))))))))))
 ·rw [← hts] at hv
  obtain ⟨i,a,hi,rfl⟩:=z2b hv
  obtain ⟨h1,h2,_⟩:=ha a (yM hi)
  have hb:(r++G++C)[(r++G).length+i]? = some (.list (a.2.map AV.int)):=by
   rw [x9,← hC];unfold cpO;rw [List.getElem?_map,hi];rfl
  have lb:r.length≤(r++G).length+i:=by rw [zU,Nat.add_assoc];exact Nat.le_add_right _ _
  rw [hr',← List.append_assoc,← List.append_assoc,← List.append_assoc]
  exact ⟨a.1,(r++G).length+i,a.2,rfl,h1,lb,zC (zC (zC (up h1 (zC h2)))),zC (zC (zC (up lb hb)))⟩
end
theorem z32 {s1 s2:XS} {rs:List XS} {cf:CF} {fr fr1:AFr} {h h1:Hp} (e:zA [s1,s2] cf fr h=.ok .next fr1 h1):zA (s1::s2::rs) cf fr h=zA rs cf fr1 h1:=by
 cases q:s1 cf fr h with
 | stuck=>rw [show zA [s1,s2] cf fr h=.stuck from by simp only [zA,q]] at e;cases e
 | exc nw c fr' h'=>rw [yK q] at e;cases e
 | ok fl fr' h' =>
  cases fl with
  | ret v=>rw [zL q] at e;cases e
  | next =>
   rw [z6 q] at e ⊢
   cases q2:s2 cf fr' h' with
   | stuck=>rw [show zA [s2] cf fr' h'=.stuck from by simp only [zA,q2]] at e;cases e
   | exc nw c fr' h'=>rw [yK q2] at e;cases e
   | ok fl fr2 h2 =>
    cases fl with
    | ret v=>rw [zL q2] at e;cases e
    | next=>rw [z6 q2] at e ⊢;cases e;rfl
section
variable {T:Tab} {okf:Str→Str→Bool} (X:TT T okf) {n:Nat} {S:Sh} {r:Hp} {mvs:List (List (Int×Int))} {cus sg:List (List Int)} {tq kq dq hq:Nat} {m:Int} {es:Es} {hs:List AV}
include X
theorem QF (V:Iv S mvs cus sg) (D:Dy S mvs cus r) (H:Th r tq kq m (kvO es)) (hd:r[dq]? = some (.dict (kvO es))) (hm:hq∉S.mv) (hc:hq∉S.cu) (hh:r[hq]? = some (.list hs)) (ne1:hq≠tq) (ne2:hq≠kq) (nd:(ksO es).Pairwise (·<·)) (z:es.length<64) (sm:wh es) (rg:∀ e∈es,Rg S.le.length e.2) (zh:hs.length+3<small) {p:Int} (p0:0≤p) (p1:p<S.hands) :
  ∃ G ts,run T (n+7) (.fn "_law_stands") [.ref 1,.ref (tq+15),.ref (dq+15),.int p,.ref (hq+15)] (S.hp r)=.ok (.bool true) (S.hp (r.set hq (.list (hs++ts))++G))∧ts.length≤3 ∧
   ∀ v∈ts,∃ a b xs,v=.tup [.ref (a+15),.ref (b+15)]∧r.length≤a∧r.length≤b∧(r.set hq (.list (hs++ts))++G)[a]? = some (.list ((xs:List Int).map AV.int))∧(r.set hq (.list (hs++ts))++G)[b]? = some (.list (xs.map AV.int)):=by
 generalize hK:AO.list ((ksO es).map AV.int)=K
 have a1:=Y6 (show (S.hp r)[dq+15]? = _ from hd)
 rw [wY,hK] at a1
 have a2:=jh (h:=S.hp (r++[K])) (a:=r.length+15) (is:=ksO es) (by rw [hK];exact zP _ _ []) (by rw [qy];exact z) (nd.imp Int.le_of_lt)
 rw [hK] at a2
 have hr:(r++([K]++[K]))[(r++[K]).length]? = some (.list ((ksO es).map AV.int)):=by rw [← List.append_assoc,hK];exact zP _ _ []
 have e1:zD (zB (some (.bi .sorted))) [(zD (zB (some (.bi .list))) [(z5 2)])] (run T (n+6)) (FS tq dq hq p none none none none none) (S.hp r)=.ok (.ref ((r++[K]).length+15)) (S.hp (r++([K]++[K]))):=by
  rw [← List.append_assoc]
  exact xM (ev1 (xM (ev1 (z4 rfl) ev0) a1) ev0) a2
 generalize (r++[K]).length=rq at hr e1
 generalize [K]++[K]=G1 at hr e1
 obtain ⟨u6,g2,e2⟩:=JW X (n:=n) (okf:=okf) V (D.grow G1) (H.grow G1) (zC hd) nd z rg hr (hq:=hq) (p:=p) (v6:=none) (v7:=none) (v8:=none) (v9:=none)
 rw [List.append_assoc] at e2
 have hr:=zC (l:=g2) hr
 rw [List.append_assoc] at hr
 generalize G1++g2=G2 at e2 hr
 obtain ⟨q,x,y,w,g3,e3,t⟩:=z2k X (n:=n) (okf:=okf) V (D.grow G2) (H.grow G2) (zC hh) nd z sm rg p0 p1 (x8 G2 (Nat.le_refl r.length)) (dq:=dq) (v5:=some (.ref (rq+15))) (v6:=u6) (v8:=none) (v9:=none)
 have hr:=zC (l:=g3) hr
 rw [List.append_assoc] at e3 t hr
 generalize G2++g3=G3 at e3 t hr
 obtain ⟨g4,e4⟩:=zDx X (n:=n) (tq:=tq) (hq:=hq) V (D.grow G3) (zC hd) nd z sm rg hr t (v6:=u6) (v8:=none) (v9:=none)
 have hr:=zC (l:=g4) hr
 have t:=t.grow g4
 rw [List.append_assoc] at e4 t hr
 generalize G3++g4=G4 at e4 t hr
 obtain ⟨u8,u9,g5,e5⟩:=Wp X (n:=n) (okf:=okf) V (D.grow G4) (H.grow G4) (zC hd) nd rg hr (hq:=hq) (p:=p) (v5:=some (.ref (rq+15))) (v6:=u6) (v7:=some (.ref (q+15))) (v8:=none) (v9:=none)
 have t5:=t.grow g5
 rw [List.append_assoc] at e5 t5
 obtain ⟨G,ts,e7,lt,ht⟩:=z17 X (n:=n) (dq:=dq) V D H hm hc hh ne1 ne2 nd z sm rg zh (p:=p) (Nat.lt_of_le_of_lt (by rw [qy];exact List.length_filter_le _ _) z) t5 (v5:=some (.ref (rq+15))) (v6:=u6) (v8:=u8) (v9:=u9)
 refine ⟨G,ts,?_,lt,ht⟩
 rw [xH X.kBd]
 refine zN (fr:=FS tq dq hq p none none none none none) rfl rfl (fr':=FS tq dq hq p (some (.ref (rq+15))) u6 (some (.ref (q+15))) u8 u9) ?_
 refine (z6 (zX (j:=5) e1 (zc rfl))).trans ((z6 e2).trans ((z32 e3).trans ((z6 e4).trans ((z6 (wO (en:=false) (z4 rfl) (qn (show (S.hp (r++G4))[rq+15]? = _ from hr)) e5)).trans e7))))
end
set_option genInjectivity false
set_option genSizeOf false
structure Ad where
 tq:Nat
 kq:Nat
 dq:Nat
 wq:Nat
noncomputable abbrev Ad.all (a:Ad):List Nat:=[a.tq,a.kq,a.dq,a.wq]
structure Ro (le k:Nat) (r:Hp) (a:Ad) (m:Nat) (es:Es):Prop where
 H:Th r a.tq a.kq m (kvO es)
 d:r[a.dq]? = some (.dict (kvO es))
 w:r[a.wq]? = some (.list [.ref (a.tq+15),.ref (a.dq+15),.int m])
 nd:(ksO es).Pairwise (·<·)
 lt:∀ e∈es,e.1<m
 z:es.length≤k
 rg:∀ e∈es,Rg le e.2
 sm:(∀ e∈es,0≤e.1)∧m≤k
theorem Rg.up {m m':Nat} {p:Int×Int} (h:Rg m p) (l:m≤m'):Rg m' p:=⟨h.1,Int.lt_of_lt_of_le h.2 (Int.ofNat_le.mpr l)⟩
theorem Ro.small {le k:Nat} {r:Hp} {a:Ad} {m:Nat} {es:Es} (R:Ro le k r a m es) (hk:k≤30):wh es:=fun e he=>⟨R.sm.1 e he,Int.lt_trans (R.lt e he) (Int.lt_of_le_of_lt (Int.ofNat_le.mpr (Nat.le_trans R.sm.2 hk)) (by decide))⟩
theorem Ro.keep {le le' k k':Nat} {r r':Hp} {a:Ad} {m:Nat} {es:Es} (R:Ro le k r a m es) (hk:∀ q∈a.all,∀ o,r[q]? = some o→r'[q]? = some o) (l:le≤le') (lk:k≤k'):Ro le' k' r' a m es :=
 ⟨⟨hk _ (.head _) _ R.H.t,hk _ (.tail _ (.head _)) _ R.H.k⟩,hk _ (.tail _ (.tail _ (.head _))) _ R.d,hk _ (.tail _ (.tail _ (.tail _ (.head _)))) _ R.w,R.nd,R.lt,Nat.le_trans R.z lk,fun e he=>(R.rg e he).up l,R.sm.1,Nat.le_trans R.sm.2 lk⟩
noncomputable def prv (pq hq:Nat) (ad:List Ad):List Nat:=pq::hq::ad.flatMap Ad.all
theorem xt {pq hq:Nat} {ad:List Ad} {a:Ad} {j q:Nat} (h:ad[j]? = some a) (hq':q∈a.all):q∈prv pq hq ad:=.tail _ (.tail _ (List.mem_flatMap.mpr ⟨a,yM h,hq'⟩))
noncomputable def z49 (S:Sh) (P:List Nat) (r:Hp) (hs:List AV):Prop:=∀ v∈hs,∃ a b xs,v=.tup [.ref (a+15),.ref (b+15)]∧(r[a]? = some (.list ((xs:List Int).map AV.int))∧a∉S.mv∧a∉S.cu∧a∉P)∧(r[b]? = some (.list (xs.map AV.int))∧b∉S.mv∧b∉S.cu∧b∉P)
theorem z49.keep {S S':Sh} {P:List Nat} {r r':Hp} {hs:List AV} (h:z49 S P r hs) (k:∀ q o,q∉S.mv→q∉S.cu→q∉P→r[q]? = some o→r'[q]? = some o∧q∉S'.mv∧q∉S'.cu):z49 S' P r' hs:=fun v hv=>by
 obtain ⟨a,b,xs,e,⟨a1,a2,a3,a4⟩,b1,b2,b3,b4⟩:=h v hv
 obtain ⟨c1,c2,c3⟩:=k a _ a2 a3 a4 a1
 obtain ⟨d1,d2,d3⟩:=k b _ b2 b3 b4 b1
 exact ⟨a,b,xs,e,⟨c1,c2,c3,a4⟩,d1,d2,d3,b4⟩
structure L10 (hands:Int) (k pq hq:Nat) (ad:List Ad) (cs:List (Nat×Es)) (ye:Nat×List Int) (hs:List AV) (S:Sh) (mvs:List (List (Int×Int))) (cus sg:List (List Int)) (r:Hp):Prop where
 A:Bs hands 60 k (prv pq hq ad) S mvs cus sg r
 nd:(prv pq hq ad).Nodup
 p:r[pq]? = some (.list (ad.map fun a=>.ref (a.wq+15)))
 h:r[hq]? = some (.list hs)
 ro:∀ (j:Nat) (a:Ad) (m:Nat) (es:Es),ad[j]? = some a→cs[j]? = some (m,es)→Ro S.le.length k r a m es
 ln:cs.length=ad.length
 hd:z49 S (prv pq hq ad) r hs
 l2:ad.length≤2
 y:r[ye.1]? = some (.list (ye.2.map AV.int))∧ye.1∉S.mv∧ye.1∉S.cu∧ye.1∉prv pq hq ad
section
variable {hands:Int} {k k' pq hq:Nat} {ad:List Ad} {cs:List (Nat×Es)} {ye:Nat×List Int} {hs:List AV} {S S':Sh} {mvs mvs':List (List (Int×Int))} {cus sg cus' sg':List (List Int)} {r r':Hp}
theorem L10.keep (L:L10 hands k pq hq ad cs ye hs S mvs cus sg r) (A:Bs hands 60 k' (prv pq hq ad) S' mvs' cus' sg' r') (lk:k≤k') (l:S.le.length≤S'.le.length) (kp:∀ q o,q∉S.mv→q∉S.cu→r[q]? = some o→r'[q]? = some o∧q∉S'.mv∧q∉S'.cu):L10 hands k' pq hq ad cs ye hs S' mvs' cus' sg' r':=by
 have up:∀ q∈prv pq hq ad,∀ o,r[q]? = some o→r'[q]? = some o:=fun q m o h=>(kp q o (L.A.p q m).2.1 (L.A.p q m).2.2 h).1
 exact ⟨A,L.nd,up _ (.head _) _ L.p,up _ (.tail _ (.head _)) _ L.h,fun j a m es h1 h2=>(L.ro j a m es h1 h2).keep (fun q hq'=>up q (xt h1 hq')) l lk,L.ln,L.hd.keep fun q o a b _ d=>kp q o a b d,L.l2,let c:=kp _ _ L.y.2.1 L.y.2.2.1 L.y.1;⟨c.1,c.2.1,c.2.2,L.y.2.2.2⟩⟩
theorem L10.grow (L:L10 hands k pq hq ad cs ye hs S mvs cus sg r) (g:Hp):L10 hands k pq hq ad cs ye hs S mvs cus sg (r++g):=L.keep (L.A.grow g fun q h=>.inl h) (Nat.le_refl _) (Nat.le_refl _) fun q o a b h=>⟨zC h,a,b⟩
theorem L10.next (L:L10 hands k pq hq ad cs ye hs S mvs cus sg r) (A:Bs hands 60 (k+1) (prv pq hq ad) S' mvs' cus' sg' r') (K:Kps S r S' r') (l:S.le.length≤S'.le.length):L10 hands (k+1) pq hq ad cs ye hs S' mvs' cus' sg' r':=L.keep A (Nat.le_succ _) l K
theorem L10.up (L:L10 hands k pq hq ad cs ye hs S mvs cus sg r):L10 hands (k+1) pq hq ad cs ye hs S mvs cus sg r:=L.keep L.A.up (Nat.le_succ _) (Nat.le_refl _) fun q o a b h=>⟨h,a,b⟩
theorem L10.row (L:L10 hands k pq hq ad cs ye hs S mvs cus sg r) {j:Nat} {a:Ad} {m:Nat} {es:Es} (ha:ad[j]? = some a) (A:Bs hands 60 k' (prv pq hq ad) S mvs cus sg r') (lk:k≤k') (kp:∀ q o,q∉a.all→r[q]? = some o→r'[q]? = some o) (R:Ro S.le.length k' r' a m es):L10 hands k' pq hq ad (cs.set j (m,es)) ye hs S mvs cus sg r':=by
 have nd:=L.nd
 obtain ⟨n1,nd1⟩:=List.nodup_cons.mp nd
 obtain ⟨n2,nd2⟩:=List.nodup_cons.mp nd1
 have inA:∀ q∈a.all,q∈ad.flatMap Ad.all:=fun q h=>List.mem_flatMap.mpr ⟨a,yM ha,h⟩
 refine ⟨A,nd,kp _ _ (fun h=>n1 (.tail _ (inA _ h))) L.p,kp _ _ (fun h=>n2 (inA _ h)) L.h,fun i b m' es' h1 h2=>?_,by rw [List.length_set];exact L.ln,L.hd.keep fun q o q1 q2 q3 h=>⟨kp q o (fun m=>q3 (xt ha m)) h,q1,q2⟩,L.l2,kp _ _ (fun m=>L.y.2.2.2 (xt ha m)) L.y.1,L.y.2⟩
 by_cases q:j=i
 ·subst q
  rw [ha] at h1;cases h1
  rw [List.getElem?_set_self (by rw [L.ln];exact (yL ha).1)] at h2
  cases h2
  exact R
 ·rw [List.getElem?_set_ne q] at h2
  refine (L.ro i b m' es' h1 h2).keep (fun x hx o h=>kp x o (fun hm=>?_) h) (Nat.le_refl _) lk
  have pw:=(List.pairwise_flatMap.mp nd2).2
  rcases Nat.lt_or_gt_of_ne q with lt | lt
  ·obtain ⟨x1,y1⟩:=yL ha
   obtain ⟨x2,y2⟩:=yL h1
   have:=List.pairwise_iff_getElem.mp pw j i x1 x2 lt
   rw [y1,y2] at this
   exact this x hm x hx rfl
  ·obtain ⟨x1,y1⟩:=yL ha
   obtain ⟨x2,y2⟩:=yL h1
   have:=List.pairwise_iff_getElem.mp pw i j x2 x1 lt
   rw [y1,y2] at this
   exact this x hx x hm rfl
theorem L10.held (L:L10 hands k pq hq ad cs ye hs S mvs cus sg r) {ts:List AV} {G:Hp} (ht:∀ v∈ts,∃ a b xs,v=.tup [.ref (a+15),.ref (b+15)]∧r.length≤a∧r.length≤b∧(r.set hq (.list (hs++ts))++G)[a]? = some (.list ((xs:List Int).map AV.int))∧(r.set hq (.list (hs++ts))++G)[b]? = some (.list (xs.map AV.int))) :
  L10 hands k pq hq ad cs ye (hs++ts) S mvs cus sg (r.set hq (.list (hs++ts))++G):=by
 have hm:hq∈prv pq hq ad:=.tail _ (.head _)
 obtain ⟨n1,nd1⟩:=List.nodup_cons.mp L.nd
 obtain ⟨n2,_⟩:=List.nodup_cons.mp nd1
 have A:=(L.A.set hm (.list (hs++ts))).grow G (P':=prv pq hq ad) fun q h=>.inl h
 have kp:∀ q o,hq≠q→r[q]? = some o→(r.set hq (.list (hs++ts))++G)[q]? = some o:=fun q o n h=>zC (zR n h)
 have new:∀ {q:Nat},r.length≤q→q∉S.mv∧q∉S.cu∧q∉prv pq hq ad:=fun l=>⟨(L.A.D.ge l).1,(L.A.D.ge l).2,fun m=>absurd (L.A.p _ m).1 (Nat.not_lt.mpr l)⟩
 refine ⟨A,L.nd,kp _ _ (fun e=>n1 (e▸.head _)) L.p,zC (List.getElem?_set_self (L.A.p _ hm).1),fun j a m es h1 h2=>(L.ro j a m es h1 h2).keep (fun q hq' o h=>kp q o (fun e=>n2 (e▸List.mem_flatMap.mpr ⟨a,yM h1,hq'⟩)) h) (Nat.le_refl _) (Nat.le_refl _),L.ln,fun v hv=>?_,L.l2,kp _ _ (fun e=>L.y.2.2.2 (e▸hm)) L.y.1,L.y.2⟩
 rcases xN hv with hv | hv
 ·exact L.hd.keep (S':=S) (fun q o q1 q2 q3 h=>⟨kp q o (fun e=>q3 (e▸hm)) h,q1,q2⟩) v hv
 ·obtain ⟨a,b,xs,e,l1,l2,e1,e2⟩:=ht v hv
  exact ⟨a,b,xs,e,⟨e1,new l1⟩,e2,new l2⟩
end
noncomputable abbrev adN (l:Nat):Ad:=⟨l,l+1,l+2,l+3⟩
noncomputable abbrev qG (l:Nat):Hp:=[AO.inst "Marks" (fT (l+1) 0),AO.dict [],AO.dict [],.list [.ref (l+15),.ref (l+2+15),.int 0]]
section
variable {T:Tab} {okf:Str→Str→Bool} (X:TT T okf) {n:Nat} {S:Sh} {r:Hp}
include X
theorem JQ:run T (n+1) (.cls "Marks") [.ref 1] (S.hp r)=.ok (.ref (r.length+15)) (S.hp (r++[AO.inst "Marks" (fT (r.length+1) 0),AO.dict []])):=by
 rw [X5 X.marks X.kBg]
 have e:yR (kBg okf) (run T n) [.ref (r.length+15),.ref 1] (S.hp (r++[AO.inst "Marks" []]))=.ok .none (S.hp (r++[AO.inst "Marks" (fT (r.length+1) 0),AO.dict []])):=by
  refine y7 (fr:=[some (.ref (r.length+15)),some (.ref 1)]) rfl rfl (fr':=[some (.ref (r.length+15)),some (.ref 1)]) ?_
  have l1:∀ o:AO,(r++[o]).length=r.length+1:=fun o=>by rw [zU];rfl
  have s1:z9 okf (.attr (z5 0) "sheet") (z5 1) (run T n) [some (.ref (r.length+15)),some (.ref 1)] (S.hp (r++[AO.inst "Marks" []]))=.ok .next [some (.ref (r.length+15)),some (.ref 1)] (S.hp (r++[AO.inst "Marks" [("sheet",.ref 1)]])):=by
   rw [yz (a:=r.length+15) (fs:=[]) (fs':=[("sheet",.ref 1)]) (z4 rfl) (z4 rfl) (show (S.hp (r++[AO.inst "Marks" []]))[r.length+15]? = _ from zP _ _ []) X.kB6 (zc rfl) rfl]
   show OS.ok .next _ (S.hp ((r++[AO.inst "Marks" []]).set r.length _))=_
   rw [qQ]
  have s2:z9 okf (.attr (z5 0) "kept") xn (run T n) [some (.ref (r.length+15)),some (.ref 1)] (S.hp (r++[AO.inst "Marks" [("sheet",.ref 1)]]))=.ok .next [some (.ref (r.length+15)),some (.ref 1)] (S.hp (r++[AO.inst "Marks" [("sheet",.ref 1),("kept",.ref (r.length+1+15))],AO.dict []])):=by
   rw [yz (a:=r.length+15) (v:=.ref ((r++[AO.inst "Marks" [("sheet",.ref 1)]]).length+15)) (h1:=S.hp (r++[AO.inst "Marks" [("sheet",.ref 1)]]++[AO.dict []])) (fs:=[("sheet",.ref 1)]) (fs':=[("sheet",.ref 1),("kept",.ref (r.length+1+15))]) rfl (z4 rfl) (show (S.hp (r++[AO.inst "Marks" [("sheet",.ref 1)]]++[AO.dict []]))[r.length+15]? = _ from zC (zP _ _ [])) X.kB7 (zc rfl) (by rw [l1];rfl)]
   show OS.ok .next _ (S.hp ((r++[AO.inst "Marks" [("sheet",.ref 1)]]++[AO.dict []]).set r.length _))=_
   rw [List.append_assoc]
   show OS.ok .next _ (S.hp ((r++AO.inst "Marks" [("sheet",.ref 1)]::[AO.dict []]).set r.length _))=_
   rw [qQ]
  have s3:z9 okf (.attr (z5 0) "coming") (z7 (.int 0)) (run T n) [some (.ref (r.length+15)),some (.ref 1)] (S.hp (r++[AO.inst "Marks" [("sheet",.ref 1),("kept",.ref (r.length+1+15))],AO.dict []]))=.ok .next [some (.ref (r.length+15)),some (.ref 1)] (S.hp (r++[AO.inst "Marks" (fT (r.length+1) 0),AO.dict []])):=by
   rw [yz (a:=r.length+15) (v:=.int 0) (fs:=[("sheet",.ref 1),("kept",.ref (r.length+1+15))]) (fs':=fT (r.length+1) 0) rfl (z4 rfl) (show (S.hp (r++[AO.inst "Marks" [("sheet",.ref 1),("kept",.ref (r.length+1+15))],AO.dict []]))[r.length+15]? = _ from zP _ _ _) X.kBw (zc rfl) rfl]
   show OS.ok .next _ (S.hp ((r++[AO.inst "Marks" [("sheet",.ref 1),("kept",.ref (r.length+1+15))],AO.dict []]).set r.length _))=_
   rw [qQ]
  exact (z6 s1).trans ((z6 s2).trans ((z6 s3).trans zF))
 show Out.bind0 (yR (kBg okf) (run T n) [.ref (r.length+15),.ref 1] (S.hp (r++[AO.inst "Marks" []]))) _=_
 rw [e];rfl
theorem Wc {fr:AFr} (f3:fr[3]? = some (some (.ref 1))):zm [(zD (zB (some (.cls "Marks"))) [(z5 3)]),xn,(z7 (.int 0))] (run T (n+1)) fr (S.hp r)=.ok (.ref (r.length+3+15)) (S.hp (r++qG r.length)):=by
 have e:=yX (ev1 (z09 (cf:=run T (n+1)) (ev1 (z4 f3) ev0) (JQ X (n:=n) (S:=S) (r:=r))) (ev1 (x:=xn) (cf:=run T (n+1)) (fr:=fr) (v:=.ref ((r++[AO.inst "Marks" (fT (r.length+1) 0),AO.dict []]).length+15)) (h1:=S.hp (r++[AO.inst "Marks" (fT (r.length+1) 0),AO.dict []]++[AO.dict []])) rfl (ev1 (x:=z7 (.int 0)) rfl ev0)))
 have l2:(r++[AO.inst "Marks" (fT (r.length+1) 0),AO.dict []]).length=r.length+2:=by rw [zU];rfl
 have l3:(S.hp (r++[AO.inst "Marks" (fT (r.length+1) 0),AO.dict []]++[AO.dict []])).length=r.length+3+15:=by
  show (r++[AO.inst "Marks" (fT (r.length+1) 0),AO.dict []]++[AO.dict []]).length+15=_
  rw [zU,l2];rfl
 rw [l2,l3] at e
 rw [e]
 show Out.ok _ (S.hp (r++[AO.inst "Marks" (fT (r.length+1) 0),AO.dict []]++[AO.dict []]++[_]))=_
 rw [List.append_assoc,List.append_assoc];rfl
end
section
variable {hands:Int} {k pq hq:Nat} {ad:List Ad} {cs:List (Nat×Es)} {ye:Nat×List Int} {hs:List AV} {S:Sh} {mvs:List (List (Int×Int))} {cus sg:List (List Int)} {r:Hp}
theorem Ro.new (le k:Nat) (r:Hp):Ro le k (r++qG r.length) (adN r.length) 0 [] :=
 ⟨⟨zP _ _ _,x9 _ _ 1⟩,x9 _ _ 2,x9 _ _ 3,List.Pairwise.nil,fun _ h=>(nomatch h),Nat.zero_le _,fun _ h=>(nomatch h),fun _ h=>(nomatch h),Nat.zero_le _⟩
theorem L10.add (L:L10 hands k pq hq ad cs ye hs S mvs cus sg r) (l1:ad.length≤1):L10 hands k pq hq (ad++[adN r.length]) (cs++[(0,[])]) ye hs S mvs cus sg ((r++qG r.length).set pq (.list (ad.map (fun a=>AV.ref (a.wq+15))++[.ref (r.length+3+15)]))):=by
 have old:∀ q∈prv pq hq ad,q<r.length:=fun q h=>(L.A.p q h).1
 have eP:prv pq hq (ad++[adN r.length])=prv pq hq ad++(adN r.length).all:=by unfold prv;rw [List.flatMap_append];rfl
 have newQ:∀ q∈(adN r.length).all,r.length≤q∧q<(r++qG r.length).length:=fun q h=>by
  have l4:(r++qG r.length).length=r.length+4:=by rw [zU];rfl
  rw [l4]
  rcases List.mem_cons.mp h with rfl | h
  ·exact ⟨Nat.le_refl _,Nat.lt_add_of_pos_right (by decide)⟩
  rcases List.mem_cons.mp h with rfl | h
  ·exact ⟨Nat.le_add_right _ _,Nat.add_lt_add_left (by decide) _⟩
  rcases List.mem_cons.mp h with rfl | h
  ·exact ⟨Nat.le_add_right _ _,Nat.add_lt_add_left (by decide) _⟩
  ·rw [xE h];exact ⟨Nat.le_add_right _ _,Nat.add_lt_add_left (by decide) _⟩
 have hp:pq∈prv pq hq ad:=.head _
 have nep:∀ {q:Nat},r.length≤q→pq≠q:=fun l=>Nat.ne_of_lt (Nat.lt_of_lt_of_le (old pq hp) l)
 have A:=(L.A.grow (qG r.length) (P':=prv pq hq (ad++[adN r.length])) fun q h=>by
  rw [eP] at h
  rcases xN h with h | h
  ·exact .inl h
  ·exact .inr (newQ q h)).set (j:=pq) (.head _) (.list (ad.map (fun a=>AV.ref (a.wq+15))++[.ref (r.length+3+15)]))
 obtain ⟨n1,nd1⟩:=List.nodup_cons.mp L.nd
 have kp:∀ q o,pq≠q→r[q]? = some o→((r++qG r.length).set pq (.list (ad.map (fun a=>AV.ref (a.wq+15))++[.ref (r.length+3+15)])))[q]? = some o:=fun q o n h=>zR n (zC h)
 have np:∀ {q:Nat} {o:AO},r[q]? = some o→q∉prv pq hq ad→q∉prv pq hq (ad++[adN r.length]):=fun h n hm=>by
  rw [eP] at hm
  rcases xN hm with hm | hm
  ·exact n hm
  ·exact absurd (yL h).1 (Nat.not_lt.mpr (newQ _ hm).1)
 refine ⟨A,?_,?_,kp _ _ (fun e=>n1 (e▸.head _)) L.h,fun j a m es h1 h2=>?_,by rw [zU,zU,L.ln];rfl,?_,by rw [zU];exact Nat.succ_le_succ l1,kp _ _ (fun e=>L.y.2.2.2 (e▸hp)) L.y.1,L.y.2.1,L.y.2.2.1,np L.y.1 L.y.2.2.2⟩
 ·rw [eP,List.nodup_append]
  refine ⟨L.nd,?_,fun x hx y hy e=>absurd (old x hx) (Nat.not_lt.mpr (e▸(newQ y hy).1))⟩
  have d:∀ {i j:Nat},i<j→r.length+i≠r.length+j:=fun h=>Nat.ne_of_lt (Nat.add_lt_add_left h _)
  refine List.nodup_cons.mpr ⟨fun h=>?_,List.nodup_cons.mpr ⟨fun h=>?_,List.nodup_cons.mpr ⟨fun h=>?_,List.nodup_cons.mpr ⟨List.not_mem_nil,List.nodup_nil⟩⟩⟩⟩
  ·rcases List.mem_cons.mp h with h | h
   ·exact d (i:=0) (j:=1) (by decide) h
   rcases List.mem_cons.mp h with h | h
   ·exact d (i:=0) (j:=2) (by decide) h
   ·exact d (i:=0) (j:=3) (by decide) (xE h)
  ·rcases List.mem_cons.mp h with h | h
   ·exact d (i:=1) (j:=2) (by decide) h
   ·exact d (i:=1) (j:=3) (by decide) (xE h)
  ·exact d (i:=2) (j:=3) (by decide) (xE h)
 ·rw [List.getElem?_set_self (by rw [zU];exact Nat.lt_of_lt_of_le (old pq hp) (Nat.le_add_right _ _)),List.map_append];rfl
 ·by_cases q:j<ad.length
  ·rw [List.getElem?_append_left q] at h1
   rw [List.getElem?_append_left (by rw [L.ln];exact q)] at h2
   exact (L.ro j a m es h1 h2).keep (fun x hx o h=>kp x o (fun e=>n1 (e▸.tail _ (List.mem_flatMap.mpr ⟨a,yM h1,hx⟩))) h) (Nat.le_refl _) (Nat.le_refl _)
  ·rcases ZV h1 with h1 | ⟨h1,rfl⟩
   ·exact absurd (yL h1).1 q
   ·rcases ZV h2 with h2 | ⟨_,h2⟩
    ·exact absurd (by rw [← L.ln];exact (yL h2).1) q
    ·cases h2
     exact (Ro.new _ _ _).keep (fun x hx o h=>zR (nep (newQ x hx).1) h) (Nat.le_refl _) (Nat.le_refl _)
 ·intro v hv
  obtain ⟨a,b,xs,e,⟨a1,a2,a3,a4⟩,b1,b2,b3,b4⟩:=L.hd v hv
  exact ⟨a,b,xs,e,⟨kp _ _ (fun e=>a4 (e▸hp)) a1,a2,a3,np a1 a4⟩,kp _ _ (fun e=>b4 (e▸hp)) b1,b2,b3,np b1 b4⟩
end
noncomputable abbrev F10 (sc v1:AV) (hn:Int) (pq hq:Nat) (v6 v7 v8 v9 v10 v11 v12 v13 v14 v15 v16 v17:Option AV):AFr:=[some sc,some v1,some (.int hn),some (.ref 1),some (.ref (pq+15)),some (.ref (hq+15)),v6,v7,v8,v9,v10,v11,v12,v13,v14,v15,v16,v17]
theorem W7 {es:Es} {i:Int}:(kvO es).filter (fun x=>!decide (x.1=i))=kvO (es.filter fun e=>!decide (e.1=i)):=by
 unfold kvO;rw [List.filter_map];rfl
theorem z10 {es:Es} {i:Int} (h:∀ e∈es,e.1≠i):yp (kvO es) i=none:=JF (by
 rw [List.any_eq_false]
 intro x hx
 obtain ⟨e,he,rfl⟩:=List.mem_map.mp hx
 rw [decide_eq_true_iff];exact h e he)
theorem z3j {es:Es} {m:Nat} {p:Int×Int} (lt:∀ e∈es,e.1<m):jr (kvO es) m (prV p)=kvO (es++[((m:Int),p)]):=by
 unfold jr
 rw [if_neg]
 ·unfold kvO;rw [List.map_append];rfl
 ·rw [Bool.not_eq_true,List.any_eq_false]
  intro x hx
  obtain ⟨e,he,rfl⟩:=List.mem_map.mp hx
  rw [decide_eq_true_iff];exact Int.ne_of_lt (lt e he)
theorem z0j {h:Hp} {a b:Nat} {kvs:List (Int×AV)} (e:h[a]? = some (.dict kvs)) (e':h[b]? = some (.dict [])):yl .NotEq (.ref a) (.ref b) h=some (!kvs.isEmpty):=by
 have q:neD h (.ref a) (.ref b)=some (!kvs.isEmpty):=by
  show (zw h a).bind (fun kvs=>(zw h b).bind fun k2=>if k2.isEmpty=true then some (!kvs.isEmpty) else none)=_
  rw [jq e,jq e'];rfl
 show (match neD h (.ref a) (.ref b) with
  | some r=>some r
  | none=>_)=_
 rw [q]
section
variable {T:Tab} {okf:Str→Str→Bool} (X:TT T okf) {n:Nat} {hands:Int} {k pq hq:Nat} {ad:List Ad} {cs:List (Nat×Es)} {ye:Nat×List Int} {hs:List AV} {S:Sh} {mvs:List (List (Int×Int))} {cus sg:List (List Int)} {r:Hp} {sc v1:AV} {num mo:Int} {v6 v7 v8 v12 v13 v14 v15 v16 v17:Option AV} {j:Nat} {a:Ad} {m:Nat} {es:Es}
include X
theorem brA (L:L10 hands k pq hq ad cs ye hs S mvs cus sg r) (hk:k<190) (d0:S.dn.length≠0) {v10 v11:Option AV} :
  ∃ S' r',zA [(zI (zD (zB (some (.fn "_law_turned"))) [(z5 3),(zM .Mod (z5 9) (z8 (z5 3) "deeds" none []))]))] (run T (n+6)) (F10 sc v1 hands pq hq v6 v7 v8 (some (.int mo)) v10 v11 v12 v13 v14 v15 v16 v17) (S.hp r)=.ok .next (F10 sc v1 hands pq hq v6 v7 v8 (some (.int mo)) v10 v11 v12 v13 v14 v15 v16 v17) (Sh.hp S' r')∧L10 hands (k+1) pq hq ad cs ye hs S' mvs cus sg r':=by
 have c0:(0:Int)<(S.dn.length:Nat):=Int.ofNat_lt.mpr (Nat.pos_of_ne_zero d0)
 have f0:=Int.fmod_nonneg_of_pos mo c0
 have f1:=Int.fmod_lt_of_pos mo c0
 obtain ⟨S',r',e,B,K,l⟩:=z28 X (n:=n) L.A (Nat.lt_trans hk (by decide)) (d:=(mo.fmod S.dn.length).toNat) ((Int.toNat_lt f0).mpr f1) (by rw [L.A.V.I.st];exact Nat.lt_of_le_of_lt L.A.bn (Nat.lt_trans hk (by decide)))
 rw [Int.toNat_of_nonneg f0] at e
 refine ⟨S',r',(z6 (zY (zu (ev1 (z4 rfl) (ev1 (yD (z4 rfl) (zG (a:=1) (z4 rfl) rfl Q8 ev0 (z1i X (n:=n+5))) (yY.trans (if_neg fun q=>d0 (Int.ofNat.inj q)))) ev0)) e))).trans zF,L.next B K (Nat.le_of_eq l.symm)⟩
theorem brB (L:L10 hands k pq hq ad cs ye hs S mvs cus sg r) (hk:k<60) (ha:ad[j]? = some a) (hc:cs[j]? = some (m,es)) (hne:es≠[]) :
  ∃ i es' r',zA [(z9 okf (.names (.one 12)) (zK (zD (zB (some (.bi .sorted))) [(zD (zB (some (.bi .list))) [(z5 11)])]) (zM .Mod (zM .FloorDiv (z5 9) (z7 (.int 5))) (zD (zB (some (.bi .len))) [(z5 11)])))),
   (zI (z8 (z5 11) "pop" (some .pop) [(z5 12)])),
   (sIf (zT .Or [(zQ (z8 (zK (z5 10) (z7 (.int 0))) "drop" none [(z5 12)]) [.IsNot] [(z7 .none)]),(yP (zy (zD (zB (some (.fn "_law_is_gone"))) [(zK (z5 10) (z7 (.int 0))),(z5 12)])))]) (zA [(zW (z7 (.bool false)))]) (zA []))] (run T (n+6)) (F10 sc v1 hands pq hq v6 v7 v8 (some (.int mo)) (some (.ref (a.wq+15))) (some (.ref (a.dq+15))) v12 v13 v14 v15 v16 v17) (S.hp r)=.ok .next (F10 sc v1 hands pq hq v6 v7 v8 (some (.int mo)) (some (.ref (a.wq+15))) (some (.ref (a.dq+15))) (some (.int i)) v13 v14 v15 v16 v17) (S.hp r')∧L10 hands (k+1) pq hq ad (cs.set j (m,es')) ye hs S mvs cus sg r':=by
 have R:=L.ro j a m es ha hc
 have z64:es.length<64:=Nat.lt_of_le_of_lt R.z (Nat.lt_trans hk (by decide))
 have le0:es.length≠0:=fun h=>hne (List.length_eq_zero_iff.mp h)
 have c0:(0:Int)<(es.length:Nat):=Int.ofNat_lt.mpr (Nat.pos_of_ne_zero le0)
 have f0:=Int.fmod_nonneg_of_pos (mo.fdiv 5) c0
 have f1:=Int.fmod_lt_of_pos (mo.fdiv 5) c0
 have lk:(ksO es).length=es.length:=by unfold ksO;rw [List.length_map]
 have hi:((mo.fdiv 5).fmod es.length).toNat<es.length:=(Int.toNat_lt f0).mpr f1
 generalize hx:(mo.fdiv 5).fmod es.length=x at f0 f1 hi
 have he:=List.getElem_mem hi
 generalize hel:es[x.toNat]=e0 at he
 have hk0:(ksO es)[x.toNat]? = some e0.1:=by unfold ksO;rw [List.getElem?_map,y6 hi,hel];rfl
 have nd4:a.all.Nodup:=(List.pairwise_flatMap.mp (List.nodup_cons.mp (List.nodup_cons.mp L.nd).2).2).1 a (yM ha)
 obtain ⟨t1,nd3⟩:=List.nodup_cons.mp nd4
 obtain ⟨t2,nd2⟩:=List.nodup_cons.mp nd3
 obtain ⟨t3,_⟩:=List.nodup_cons.mp nd2
 have dt:a.dq≠a.tq:=fun e=>t1 (e▸.tail _ (.head _))
 have kt:a.kq≠a.tq:=fun e=>t1 (e▸.head _)
 have dk:a.dq≠a.kq:=fun e=>t2 (e▸.head _)
 have kw:a.kq≠a.wq:=fun e=>t2 (e▸.tail _ (.head _))
 have dw:a.dq≠a.wq:=fun e=>t3 (e▸.head _)
 generalize hK:AO.list ((ksO es).map AV.int)=K
 have a1:=Y6 (show (S.hp r)[a.dq+15]? = _ from R.d)
 rw [wY,hK] at a1
 have a2:=jh (h:=S.hp (r++[K])) (a:=r.length+15) (is:=ksO es) (by rw [hK];exact zP _ _ []) (by rw [lk];exact z64) (R.nd.imp Int.le_of_lt)
 rw [hK] at a2
 have L1:=(L.grow [K]).grow [K]
 have R1:=L1.ro j a m es ha hc
 have hq1:(S.hp (r++[K]++[K]))[(r++[K]).length+15]? = some (.list ((ksO es).map AV.int)):=by rw [hK];exact zP _ _ []
 have eln:zD (zB (some (.bi .len))) [(z5 11)] (run T (n+6)) (F10 sc v1 hands pq hq v6 v7 v8 (some (.int mo)) (some (.ref (a.wq+15))) (some (.ref (a.dq+15))) v12 v13 v14 v15 v16 v17) (S.hp (r++[K]++[K]))=.ok (.int (es.length:Nat)) (S.hp (r++[K]++[K])):=by
  refine xM (ev1 (z4 rfl) ev0) ?_
  rw [w8,qY,show (S.hp (r++[K]++[K]))[a.dq+15]? = _ from R1.d]
  show Out.ok (AV.int ((kvO es).length:Nat)) _=_
  unfold kvO;rw [List.length_map]
 have e1:=zZ (xM (ev1 (xM (ev1 (z4 (i:=11) (cf:=run T (n+6)) (fr:=F10 sc v1 hands pq hq v6 v7 v8 (some (.int mo)) (some (.ref (a.wq+15))) (some (.ref (a.dq+15))) v12 v13 v14 v15 v16 v17) (h:=S.hp r) rfl) ev0) a1) ev0) a2) (yD (op:=.Mod) (yD (op:=.FloorDiv) (z4 (i:=9) rfl) (y:=z7 (.int 5)) rfl (qk.trans (if_pos (by decide)))) eln (yY.trans (if_neg fun q=>le0 (Int.ofNat.inj q)))) (xa (v:=.int e0.1) hq1 (by rw [hx];exact x6.mpr ⟨f0,Int.lt_trans f1 (by have:=z64;lia)⟩) (by rw [hx,List.getElem?_map,hk0];rfl))
 have hg:=xw R.nd he
 generalize hes:es.filter (fun e=>!decide (e.1=e0.1))=es'
 have ef:(kvO es).filter (fun x=>!decide (x.1=e0.1))=kvO es':=by rw [W7,hes]
 have p1:=Wd (show (S.hp (r++[K]++[K]))[a.dq+15]? = _ from R1.d) hg
 rw [ef] at p1
 have ld:=(yL R1.d).1
 have lkq:=(yL R1.H.k).1
 have H2:Th ((r++[K]++[K]).set a.dq (.dict (kvO es'))) a.tq a.kq m (kvO es):=⟨zR dt R1.H.t,zR dk R1.H.k⟩
 have w2:((r++[K]++[K]).set a.dq (.dict (kvO es')))[a.wq]? = some (.list [.ref (a.tq+15),.ref (a.dq+15),.int m]):=zR dw R1.w
 have e2:=zGk X (n:=n+3) (S:=S) H2 hg
 rw [ef] at e2
 have H3:Th (((r++[K]++[K]).set a.dq (.dict (kvO es'))).set a.kq (.dict (kvO es'))) a.tq a.kq m (kvO es'):=⟨zR kt H2.t,List.getElem?_set_self (by rw [List.length_set];exact lkq)⟩
 have w3:(((r++[K]++[K]).set a.dq (.dict (kvO es'))).set a.kq (.dict (kvO es')))[a.wq]? = some (.list [.ref (a.tq+15),.ref (a.dq+15),.int m]):=zR kw w2
 have sub:∀ e∈es',e∈es∧e.1≠e0.1:=fun e h=>by
  rw [← hes] at h
  obtain ⟨h1,h2⟩:=List.mem_filter.mp h
  exact ⟨h1,fun q=>by rw [decide_eq_true q] at h2;exact nob h2⟩
 have e3:=z13 X (n:=n+1) (S:=S) H3 (i:=e0.1) (z10 fun e h=>(sub e h).2)
 refine ⟨e0.1,es',((r++[K]++[K]).set a.dq (.dict (kvO es'))).set a.kq (.dict (kvO es')),?_,?_⟩
 ·refine (z6 (zX (j:=12) e1 (zc rfl))).trans ((z6 (zY (z4e (z4 rfl) (show (S.hp (r++[K]++[K]))[a.dq+15]? = _ from R1.d) (ev1 (z4 rfl) ev0) p1))).trans ((z6 ((zH (xD (zV (v:=.none) (w:=.none) (zG (zZ (z4 rfl) rfl (xa (show (S.hp ((r++[K]++[K]).set a.dq (.dict (kvO es'))))[a.wq+15]? = _ from w2) rfl rfl)) (show (S.hp ((r++[K]++[K]).set a.dq (.dict (kvO es'))))[a.tq+15]? = _ from H2.t) We (ev1 (z4 rfl) ev0) e2) rfl rfl) (xD (zt (b:=true) (yT (v:=.bool true) (zu (ev1 (zZ (z4 rfl) rfl (xa (show (S.hp (((r++[K]++[K]).set a.dq (.dict (kvO es'))).set a.kq (.dict (kvO es'))))[a.wq+15]? = _ from w3) rfl rfl)) (ev1 (z4 rfl) ev0)) e3) rfl)) qR))).trans zF)).trans zF))
 ·refine L1.row ha ((L1.A.up.set (xt ha (.tail _ (.tail _ (.head _)))) _).set (xt ha (.tail _ (.head _))) _) (Nat.le_succ _) (fun q o hq' h=>zR (fun e=>hq' (e▸.tail _ (.head _))) (zR (fun e=>hq' (e▸.tail _ (.tail _ (.head _)))) h)) ⟨H3,zR (Ne.symm dk) (List.getElem?_set_self ld),w3,?_,fun e h=>R.lt e (sub e h).1,?_,fun e h=>R.rg e (sub e h).1,fun e h=>R.sm.1 e (sub e h).1,Nat.le_succ_of_le R.sm.2⟩
  ·have:=R.nd
   unfold ksO at this ⊢
   rw [← hes]
   exact List.Pairwise.sublist ((List.filter_sublist).map _) this
  ·rw [← hes];exact Nat.le_trans (List.length_filter_le _ _) (Nat.le_succ_of_le R.z)
end
theorem Ok1.sgn {S:Sh} (O:Ok1 S) {p:Int} (h0:0≤p) (h1:p<S.sh.length):0≤S.sgn p∧S.sgn p<S.le.length:=by
 have hl:=jO h0 h1
 unfold Sh.sgn
 rw [y6 hl]
 exact O.sh_mem (List.getElem_mem hl)
theorem Ad.ne {a:Ad} (h:a.all.Nodup):a.kq≠a.tq∧a.dq≠a.tq∧a.wq≠a.tq∧a.dq≠a.kq∧a.wq≠a.kq∧a.wq≠a.dq:=by
 obtain ⟨t1,nd3⟩:=List.nodup_cons.mp h
 obtain ⟨t2,nd2⟩:=List.nodup_cons.mp nd3
 obtain ⟨t3,_⟩:=List.nodup_cons.mp nd2
 exact ⟨fun e=>t1 (e▸.head _),fun e=>t1 (e▸.tail _ (.head _)),fun e=>t1 (e▸.tail _ (.tail _ (.head _))),fun e=>t2 (e▸.head _),fun e=>t2 (e▸.tail _ (.head _)),fun e=>t3 (e▸.head _)⟩
section
variable {T:Tab} {okf:Str→Str→Bool} (X:TT T okf) {n:Nat} {hands:Int} {k pq hq:Nat} {ad:List Ad} {cs:List (Nat×Es)} {ye:Nat×List Int} {hs:List AV} {S:Sh} {mvs:List (List (Int×Int))} {cus sg:List (List Int)} {r:Hp} {sc v1:AV} {mo:Int} {v6 v7 v8 v12 v13 v14 v15 v16 v17:Option AV} {j:Nat} {a:Ad} {m:Nat} {es:Es}
include X
theorem brC (L:L10 hands k pq hq ad cs ye hs S mvs cus sg r) (hk:k<60) (hn:0<hands) (ha:ad[j]? = some a) (hc:cs[j]? = some (m,es)) (s0:S.b.countP id≠0) :
  ∃ u13 u14 m' es' r',zA [(z9 okf (.names (.one 13)) (zM .Mod (zM .FloorDiv (z5 9) (z7 (.int 5))) (z8 (z5 3) "size" none []))),(z9 okf (.item (z5 11) (zK (z5 10) (z7 (.int 2)))) (yt [(zM .Mod (z5 9) (z5 2)),(z8 (z5 3) "sign_at" none [(z5 13)])])),(z9 okf (.names (.one 14)) (z8 (zK (z5 10) (z7 (.int 0))) "stick" none [(zM .Mod (z5 9) (z5 2)),(z5 13)])),(sIf (zT .Or [(yP (zy (zD (zB (some (.fn "_law_whole"))) [(z5 14)]))),(zQ (z5 14) [.NotEq] [(zK (z5 10) (z7 (.int 2)))])]) (zA [(zW (z7 (.bool false)))]) (zA [])),(z9 okf (.item (z5 10) (z7 (.int 2))) (zM .Add (zK (z5 10) (z7 (.int 2))) (z7 (.int 1))))] (run T (n+6)) (F10 sc v1 hands pq hq v6 v7 v8 (some (.int mo)) (some (.ref (a.wq+15))) (some (.ref (a.dq+15))) v12 v13 v14 v15 v16 v17) (S.hp r)=.ok .next (F10 sc v1 hands pq hq v6 v7 v8 (some (.int mo)) (some (.ref (a.wq+15))) (some (.ref (a.dq+15))) v12 u13 u14 v15 v16 v17) (S.hp r')∧L10 hands (k+1) pq hq ad (cs.set j (m',es')) ye hs S mvs cus sg r':=by
 have R:=L.ro j a m es ha hc
 have I:=L.A.V.I
 have lc:(S.sh.length:Int)=(S.b.countP id:Nat):=by rw [I.O.tkl.1,I.O.G.count]
 have c0:(0:Int)<(S.b.countP id:Nat):=Int.ofNat_lt.mpr (Nat.pos_of_ne_zero s0)
 have f0:=Int.fmod_nonneg_of_pos (mo.fdiv 5) c0
 have f1:=Int.fmod_lt_of_pos (mo.fdiv 5) c0
 generalize hb:(mo.fdiv 5).fmod (S.b.countP id:Nat)=b at f0 f1
 have g0:=Int.fmod_nonneg_of_pos mo hn
 have g1:=Int.fmod_lt_of_pos mo hn
 generalize he:mo.fmod hands=e at g0 g1
 rw [← L.A.hd] at g1
 have f1:b<S.sh.length:=by rw [lc];exact f1
 obtain ⟨h1,x1⟩:=ZX X (n:=n+2) (r:=r) I f0 f1
 have L1:=L.grow h1
 have R1:=L1.ro j a m es ha hc
 have nd4:a.all.Nodup:=(List.pairwise_flatMap.mp (List.nodup_cons.mp (List.nodup_cons.mp L.nd).2).2).1 a (yM ha)
 obtain ⟨kt,dt,wt,dk,wk,wd⟩:=Ad.ne nd4
 have mt:a.tq∈prv pq hq ad:=xt ha (.head _)
 have mk:a.kq∈prv pq hq ad:=xt ha (.tail _ (.head _))
 have md:a.dq∈prv pq hq ad:=xt ha (.tail _ (.tail _ (.head _)))
 have mw:a.wq∈prv pq hq ad:=xt ha (.tail _ (.tail _ (.tail _ (.head _))))
 have ld:=(yL R1.d).1
 have zk:(kvO es).length<small:=by unfold kvO;rw [List.length_map];exact Nat.lt_trans (Nat.lt_of_le_of_lt R.z hk) (by decide)
 have ea:=z3j (p:=(e,S.sgn b)) R.lt
 generalize hes:es++[((m:Int),e,S.sgn b)]=es' at ea
 have st:=Xp (h:=S.hp (r++h1)) (a:=a.dq+15) (i:=(m:Int)) (v:=prV (e,S.sgn b)) R1.d zk
 rw [ea] at st
 have A2:=L1.A.set md (.dict (kvO es'))
 have H2:Th ((r++h1).set a.dq (.dict (kvO es'))) a.tq a.kq m (kvO es):=⟨zR dt R1.H.t,zR dk R1.H.k⟩
 have w2:((r++h1).set a.dq (.dict (kvO es')))[a.wq]? = some (.list [.ref (a.tq+15),.ref (a.dq+15),.int m]):=zR (Ne.symm wd) R1.w
 have d2:((r++h1).set a.dq (.dict (kvO es')))[a.dq]? = some (.dict (kvO es')):=List.getElem?_set_self ld
 obtain ⟨h3,x3⟩:=zDv X (n:=n+1) A2 H2 mt (Ne.symm kt) zk g0 g1 f0 f1
 rw [ea] at x3
 have kp2:∀ q o,q∉a.all→(r++h1)[q]? = some o→((r++h1).set a.dq (.dict (kvO es')))[q]? = some o:=fun q o hq' h=>zR (fun e=>hq' (e▸.tail _ (.tail _ (.head _)))) h
 have st':qF (S.hp (r++h1)) (.ref (a.dq+15)) (.int m) (prV (e,S.sgn b))=some (S.hp ((r++h1).set a.dq (.dict (kvO es')))):=st
 generalize (r++h1).set a.dq (.dict (kvO es'))=r2 at A2 H2 w2 d2 x3 st' kp2
 have A3:=((A2.grow h3 (P':=prv pq hq ad) fun q h=>.inl h).set mt (.inst "Marks" (fT a.kq ((m:Int)+1)))).set mk (.dict (kvO es'))
 have lt2:=((A2.grow h3 (P':=prv pq hq ad) fun q h=>.inl h).p _ mt).1
 have lk2:=(((A2.grow h3 (P':=prv pq hq ad) fun q h=>.inl h).set mt (.inst "Marks" (fT a.kq ((m:Int)+1)))).p _ mk).1
 have H3:Th (((r2++h3).set a.tq (.inst "Marks" (fT a.kq ((m:Int)+1)))).set a.kq (.dict (kvO es'))) a.tq a.kq ((m:Int)+1) (kvO es'):=⟨zR kt (List.getElem?_set_self lt2),List.getElem?_set_self lk2⟩
 have w3:(((r2++h3).set a.tq (.inst "Marks" (fT a.kq ((m:Int)+1)))).set a.kq (.dict (kvO es')))[a.wq]? = some (.list [.ref (a.tq+15),.ref (a.dq+15),.int m]):=zR (Ne.symm wk) (zR (Ne.symm wt) (zC w2))
 have d3:(((r2++h3).set a.tq (.inst "Marks" (fT a.kq ((m:Int)+1)))).set a.kq (.dict (kvO es')))[a.dq]? = some (.dict (kvO es')):=zR (Ne.symm dk) (zR (Ne.symm dt) (zC d2))
 have kp3:∀ q o,q∉a.all→r2[q]? = some o→(((r2++h3).set a.tq (.inst "Marks" (fT a.kq ((m:Int)+1)))).set a.kq (.dict (kvO es')))[q]? = some o:=fun q o hq' h=>zR (fun e=>hq' (e▸.tail _ (.head _))) (zR (fun e=>hq' (e▸.head _)) (zC h))
 generalize ((r2++h3).set a.tq (.inst "Marks" (fT a.kq ((m:Int)+1)))).set a.kq (.dict (kvO es'))=r3 at A3 H3 w3 d3 kp3 x3
 have lw3:=(A3.p _ mw).1
 have st4:qF (S.hp r3) (.ref (a.wq+15)) (.int 2) (.int ((m:Int)+1))=some (S.hp (r3.set a.wq (.list [.ref (a.tq+15),.ref (a.dq+15),.int ((m:Int)+1)]))):=by
  rw [ZG,show (S.hp r3)[a.wq+15]? = _ from w3]
  exact if_pos ⟨by decide,show (2:Int)<3 by decide,Nat.le_trans (show 3≤4 by decide) (by decide)⟩
 refine ⟨some (.int b),some (.int m),m+1,es',r3.set a.wq (.list [.ref (a.tq+15),.ref (a.dq+15),.int ((m:Int)+1)]),?_,?_⟩
 ·have y1:zM .Mod (zM .FloorDiv (z5 9) (z7 (.int 5))) (z8 (z5 3) "size" none []) (run T (n+6)) (F10 sc v1 hands pq hq v6 v7 v8 (some (.int mo)) (some (.ref (a.wq+15))) (some (.ref (a.dq+15))) v12 v13 v14 v15 v16 v17) (S.hp r)=.ok (.int b) (S.hp r):=by
   rw [← hb]
   exact yD (yD (z4 rfl) rfl (qk.trans (if_pos (by decide)))) (zG (a:=1) (z4 rfl) rfl jX ev0 (Xo X (n:=n+4))) (yY.trans (if_neg fun q=>s0 (Int.ofNat.inj q)))
  have y2:∀ R:Hp,zM .Mod (z5 9) (z5 2) (run T (n+6)) (F10 sc v1 hands pq hq v6 v7 v8 (some (.int mo)) (some (.ref (a.wq+15))) (some (.ref (a.dq+15))) v12 (some (.int b)) v14 v15 v16 v17) (S.hp R)=.ok (.int e) (S.hp R):=fun R=>by
   rw [← he]
   exact yD (z4 rfl) (z4 rfl) (yY.trans (if_neg (Int.ne_of_gt hn)))
  refine (z6 (zX (j:=13) y1 (zc rfl))).trans ((z6 (Zb (qH (ev1 (y2 r) (ev1 (zG (a:=1) (z4 rfl) rfl qx (ev1 (z4 rfl) ev0) x1) ev0))) (z4 rfl) (zZ (z4 rfl) rfl (xa (show (S.hp (r++h1))[a.wq+15]? = _ from R1.w) rfl rfl)) st')).trans ((z6 (zX (j:=14) (zG (zZ (z4 rfl) rfl (xa (show (S.hp r2)[a.wq+15]? = _ from w2) rfl rfl)) (show (S.hp r2)[a.tq+15]? = _ from H2.t) Zm (ev1 (y2 r2) (ev1 (z4 rfl) ev0)) x3) (zc rfl))).trans ((z6 ((zH (xD (zt (b:=true) (yT (v:=.bool true) (zu (ev1 (z4 rfl) ev0) (qc X)) rfl)) (xD (zV (z4 rfl) (zZ (z4 rfl) rfl (xa (show (S.hp r3)[a.wq+15]? = _ from w3) rfl rfl)) W2) qR))).trans zF)).trans ((z6 (Zb (yD (zZ (z4 rfl) rfl (xa (show (S.hp r3)[a.wq+15]? = _ from w3) rfl rfl)) rfl w4) (z4 rfl) rfl st4)).trans zF))))
 ·refine L1.row ha (A3.set mw _).up (Nat.le_succ _) (fun q o hq' h=>zR (fun e=>hq' (e▸.tail _ (.tail _ (.tail _ (.head _))))) (kp3 q o hq' (kp2 q o hq' h))) ⟨⟨zR wt H3.t,zR wk H3.k⟩,zR wd d3,List.getElem?_set_self lw3,?_,fun x hx=>?_,?_,fun x hx=>?_,fun x hx=>?_,Nat.succ_le_succ R.sm.2⟩
  ·rw [← hes]
   unfold ksO
   rw [List.map_append,List.pairwise_append]
   refine ⟨R.nd,List.pairwise_singleton _ _,fun x hx y hy=>?_⟩
   obtain ⟨e',he',rfl⟩:=List.mem_map.mp hx
   rw [xE hy]
   exact R.lt e' he'
  ·rw [← hes] at hx
   rcases xN hx with hx | hx
   ·exact Int.lt_trans (R.lt x hx) (Int.ofNat_lt.mpr (Nat.lt_succ_self m))
   ·rw [xE hx];exact Int.ofNat_lt.mpr (Nat.lt_succ_self m)
  ·rw [← hes,zU];exact Nat.succ_le_succ R.z
  ·rw [← hes] at hx
   rcases xN hx with hx | hx
   ·exact R.rg x hx
   ·rw [xE hx]
    exact I.O.sgn f0 f1
  ·rw [← hes] at hx
   rcases xN hx with hx | hx
   ·exact R.sm.1 x hx
   ·rw [xE hx];exact Int.natCast_nonneg m
end
noncomputable abbrev b10 (okf:Str→Str→Bool):XS:=(sIf (zT .And [(zQ (zM .Mod (z5 8) (z7 (.int 8))) [.Lt] [(z7 (.int 2))]),(zQ (z8 (z5 3) "deeds" none []) [.Gt] [(z7 (.int 0))])]) (zA [(zI (zD (zB (some (.fn "_law_turned"))) [(z5 3),(zM .Mod (z5 9) (z8 (z5 3) "deeds" none []))]))]) (zA [(sIf (zT .And [(zQ (zM .Mod (z5 8) (z7 (.int 8))) [.Lt] [(z7 (.int 5))]),(zQ (z5 11) [.NotEq] [xn]),(zQ (zM .Mod (z5 9) (z7 (.int 5))) [.Eq] [(z7 (.int 1))])]) (zA [(z9 okf (.names (.one 12)) (zK (zD (zB (some (.bi .sorted))) [(zD (zB (some (.bi .list))) [(z5 11)])]) (zM .Mod (zM .FloorDiv (z5 9) (z7 (.int 5))) (zD (zB (some (.bi .len))) [(z5 11)])))),(zI (z8 (z5 11) "pop" (some .pop) [(z5 12)])),(sIf (zT .Or [(zQ (z8 (zK (z5 10) (z7 (.int 0))) "drop" none [(z5 12)]) [.IsNot] [(z7 .none)]),(yP (zy (zD (zB (some (.fn "_law_is_gone"))) [(zK (z5 10) (z7 (.int 0))),(z5 12)])))]) (zA [(zW (z7 (.bool false)))]) (zA []))]) (zA [(sIf (zT .And [(zQ (zM .Mod (z5 8) (z7 (.int 8))) [.Lt] [(z7 (.int 5))]),(zQ (z8 (z5 3) "size" none []) [.Gt] [(z7 (.int 0))])]) (zA [(z9 okf (.names (.one 13)) (zM .Mod (zM .FloorDiv (z5 9) (z7 (.int 5))) (z8 (z5 3) "size" none []))),(z9 okf (.item (z5 11) (zK (z5 10) (z7 (.int 2)))) (yt [(zM .Mod (z5 9) (z5 2)),(z8 (z5 3) "sign_at" none [(z5 13)])])),(z9 okf (.names (.one 14)) (z8 (zK (z5 10) (z7 (.int 0))) "stick" none [(zM .Mod (z5 9) (z5 2)),(z5 13)])),(sIf (zT .Or [(yP (zy (zD (zB (some (.fn "_law_whole"))) [(z5 14)]))),(zQ (z5 14) [.NotEq] [(zK (z5 10) (z7 (.int 2)))])]) (zA [(zW (z7 (.bool false)))]) (zA [])),(z9 okf (.item (z5 10) (z7 (.int 2))) (zM .Add (zK (z5 10) (z7 (.int 2))) (z7 (.int 1))))]) (zA [(zI (zD (zB (some (.fn "_law_do"))) [(z5 3),(zD (zB (some (.fn "_law_deed_by"))) [(z5 9),(z8 (z5 3) "size" none []),(z5 2)])]))]))]))]))
noncomputable abbrev n10:XS:=(sIf (zT .And [(zQ (zM .Mod (z5 9) (z7 (.int 3))) [.Eq] [(z7 (.int 1))]),(yP (zy (zD (zB (some (.fn "_law_not_stuck"))) [(zK (z5 10) (z7 (.int 0))),(z8 (z5 3) "size" none []),(z5 2)])))]) (zA [(zW (z7 (.bool false)))]) (zA []))
noncomputable abbrev w10:XS:=(xo (.many [15,16,17]) (z5 4) false (zA [(sIf (yP (zy (zD (zB (some (.fn "_law_stands"))) [(z5 3),(z5 15),(z5 16),(zM .Mod (zM .FloorDiv (z5 9) (z7 (.int 7))) (z5 2)),(z5 5)]))) (zA [(zW (z7 (.bool false)))]) (zA []))]))
theorem zGv {t1 t2:XT} {cf:CF} {fr:AFr} {h:Hp} {b1 b2:Bool} (e1:t1 cf fr h=.ok b1 h) (e2:t2 cf fr h=.ok b2 h):zT .And [t1,t2] cf fr h=.ok (b1 && b2) h:=by
 cases b1 with
 | false=>exact xI e1
 | true =>
  cases b2 with
  | false=>exact qT e1 (xI e2)
  | true=>exact qT e1 (qT e2 Zc)
section
variable {T:Tab} {okf:Str→Str→Bool} (X:TT T okf) {n:Nat} {hands:Int} {k pq hq:Nat} {ad:List Ad} {cs:List (Nat×Es)} {ye:Nat×List Int} {hs:List AV} {S:Sh} {mvs:List (List (Int×Int))} {cus sg:List (List Int)} {r:Hp} {sc v1:AV} {num mo:Int} {v6 v7 v12 v13 v14 v15 v16 v17:Option AV} {j:Nat} {a:Ad} {m:Nat} {es:Es}
include X
theorem brD (L:L10 hands k pq hq ad cs ye hs S mvs cus sg r) (hk:k≤25) (h1:0<hands) {v8 v10 v11:Option AV} :
  ∃ S' mvs' cus' sg' r',zA [(zI (zD (zB (some (.fn "_law_do"))) [(z5 3),(zD (zB (some (.fn "_law_deed_by"))) [(z5 9),(z8 (z5 3) "size" none []),(z5 2)])]))] (run T (n+8)) (F10 sc v1 hands pq hq v6 v7 v8 (some (.int mo)) v10 v11 v12 v13 v14 v15 v16 v17) (S.hp r)=.ok .next (F10 sc v1 hands pq hq v6 v7 v8 (some (.int mo)) v10 v11 v12 v13 v14 v15 v16 v17) (Sh.hp S' r')∧L10 hands (k+1) pq hq ad cs ye hs S' mvs' cus' sg' r':=by
 obtain ⟨l1,l3⟩:=L.A.V.I.O.tkl
 have lc:S.b.countP id=S.sh.length:=by rw [l1,L.A.V.I.O.G.count]
 obtain ⟨hd,d,g,ed,d0,d1,ok⟩:=z1j X (n:=n+5) (z:=mo) (hands:=hands) (m:=S.sh.length) (h:=S.hp r) (Nat.le_of_lt l3) h1
 have ed':run T (n+8) (.fn "_law_deed_by") [.int mo,.int (S.b.countP id:Nat),.int hands] (S.hp r)=.ok (Deed.av hd d) (S.hp (r++g)):=by rw [lc];exact ed
 have L1:=L.grow g
 obtain ⟨S',mvs',cus',sg',r',e,B,K,l⟩:=do_ X (n:=n+1) L1.A (Nat.lt_of_le_of_lt (Nat.add_le_add_left (Nat.mul_le_mul_left 5 hk) 60) (by decide)) d0 d1 ok
 exact ⟨S',mvs',cus',sg',r',(z6 (zY (zu (ev1 (z4 rfl) (ev1 (zu (ev1 (z4 rfl) (ev1 (zG (a:=1) (z4 rfl) rfl jX ev0 (Xo X (n:=n+6))) (ev1 (z4 rfl) ev0))) ed') ev0)) e))).trans zF,L1.next B K l⟩
theorem br (L:L10 hands k pq hq ad cs ye hs S mvs cus sg r) (hk:k≤25) (h1:0<hands) (ha:ad[j]? = some a) (hc:cs[j]? = some (m,es)) :
  ∃ cs' S' mvs' cus' sg' r' u12 u13 u14,b10 okf (run T (n+8)) (F10 sc v1 hands pq hq v6 v7 (some (.int num)) (some (.int mo)) (some (.ref (a.wq+15))) (some (.ref (a.dq+15))) v12 v13 v14 v15 v16 v17) (S.hp r)=.ok .next (F10 sc v1 hands pq hq v6 v7 (some (.int num)) (some (.int mo)) (some (.ref (a.wq+15))) (some (.ref (a.dq+15))) u12 u13 u14 v15 v16 v17) (Sh.hp S' r')∧L10 hands (k+1) pq hq ad cs' ye hs S' mvs' cus' sg' r':=by
 have k60:k<60:=Nat.lt_of_le_of_lt hk (by decide)
 have R:=L.ro j a m es ha hc
 have n8:∀ (c:Int) (r:Hp),zQ (zM .Mod (z5 8) (z7 (.int 8))) [.Lt] [(z7 (.int c))] (run T (n+8)) (F10 sc v1 hands pq hq v6 v7 (some (.int num)) (some (.int mo)) (some (.ref (a.wq+15))) (some (.ref (a.dq+15))) v12 v13 v14 v15 v16 v17) (S.hp r)=.ok (decide (num.fmod 8<c)) (S.hp r):=fun c r=>zV (yD (z4 rfl) rfl (yY.trans (if_neg (by decide)))) rfl yS
 have tA:=zGv (n8 2 r) (zV (op:=.Gt) (b:=decide ((0:Int)<(S.dn.length:Nat))) (zG (me:=none) (a:=1) (z4 (i:=3) (cf:=run T (n+8)) (fr:=F10 sc v1 hands pq hq v6 v7 (some (.int num)) (some (.int mo)) (some (.ref (a.wq+15))) (some (.ref (a.dq+15))) v12 v13 v14 v15 v16 v17) (h:=S.hp r) rfl) rfl Q8 ev0 (z1i X (n:=n+7))) (y:=z7 (.int 0)) rfl XW)
 cases qA:decide (num.fmod 8<2) && decide ((0:Int)<(S.dn.length:Nat)) with
 | true =>
  rw [qA] at tA
  obtain ⟨S',r',e,L'⟩:=brA X (n:=n+2) L (Nat.lt_trans k60 (by decide)) (fun h=>by rw [h] at qA;exact nob ((Bool.and_eq_true_iff.mp qA).2▸rfl)) (sc:=sc) (v1:=v1) (mo:=mo) (v6:=v6) (v7:=v7) (v8:=some (.int num)) (v10:=some (.ref (a.wq+15))) (v11:=some (.ref (a.dq+15))) (v12:=v12) (v13:=v13) (v14:=v14) (v15:=v15) (v16:=v16) (v17:=v17)
  exact ⟨cs,S',mvs,cus,sg,r',v12,v13,v14,(zg tA).trans e,L'⟩
 | false =>
 rw [qA] at tA
 have tB:∃ g b,zT .And [(zQ (zM .Mod (z5 8) (z7 (.int 8))) [.Lt] [(z7 (.int 5))]),(zQ (z5 11) [.NotEq] [xn]),(zQ (zM .Mod (z5 9) (z7 (.int 5))) [.Eq] [(z7 (.int 1))])] (run T (n+8)) (F10 sc v1 hands pq hq v6 v7 (some (.int num)) (some (.int mo)) (some (.ref (a.wq+15))) (some (.ref (a.dq+15))) v12 v13 v14 v15 v16 v17) (S.hp r)=.ok b (S.hp (r++g))∧(b=true→es≠[]):=by
  have t1:=n8 5 r
  cases q1:decide (num.fmod 8<5) with
  | false=>rw [q1] at t1;exact ⟨[],false,by rw [List.append_nil];exact xI t1,fun h=>nob h⟩
  | true =>
   rw [q1] at t1
   have t2:zQ (z5 11) [.NotEq] [xn] (run T (n+8)) (F10 sc v1 hands pq hq v6 v7 (some (.int num)) (some (.int mo)) (some (.ref (a.wq+15))) (some (.ref (a.dq+15))) v12 v13 v14 v15 v16 v17) (S.hp r)=.ok (!(kvO es).isEmpty) (S.hp (r++[.dict []])) :=
    zV (v:=.ref (a.dq+15)) (w:=.ref (r.length+15)) (h2:=S.hp (r++[.dict []])) (z4 rfl) rfl (z0j (show (S.hp (r++[.dict []]))[a.dq+15]? = _ from zC R.d) (show (S.hp (r++[.dict []]))[r.length+15]? = _ from zP _ _ []))
   cases hes:es with
   | nil=>rw [hes] at t2;exact ⟨[.dict []],false,qT t1 (xI t2),fun h=>nob h⟩
   | cons x xs =>
    rw [hes] at t2
    have t3:zQ (zM .Mod (z5 9) (z7 (.int 5))) [.Eq] [(z7 (.int 1))] (run T (n+8)) (F10 sc v1 hands pq hq v6 v7 (some (.int num)) (some (.int mo)) (some (.ref (a.wq+15))) (some (.ref (a.dq+15))) v12 v13 v14 v15 v16 v17) (S.hp (r++[.dict []]))=.ok (decide (mo.fmod 5=1)) (S.hp (r++[.dict []])):=zV (yD (z4 rfl) rfl (yY.trans (if_neg (by decide)))) rfl (by rw [yr,yZ])
    refine ⟨[.dict []],decide (mo.fmod 5=1),qT t1 (qT t2 ?_),fun _ h=>by cases h⟩
    cases q3:decide (mo.fmod 5=1) with
    | false=>rw [q3] at t3;exact xI t3
    | true=>rw [q3] at t3;exact qT t3 Zc
 obtain ⟨g,bB,tB,hB⟩:=tB
 have L1:=L.grow g
 cases bB with
 | true =>
  obtain ⟨i,es',r',e,L'⟩:=brB X (n:=n+2) (okf:=okf) L1 k60 ha hc (hB rfl) (sc:=sc) (v1:=v1) (mo:=mo) (v6:=v6) (v7:=v7) (v8:=some (.int num)) (v12:=v12) (v13:=v13) (v14:=v14) (v15:=v15) (v16:=v16) (v17:=v17)
  exact ⟨_,S,mvs,cus,sg,r',_,v13,v14,(zH tA).trans ((z6 ((zg tB).trans e)).trans zF),L'⟩
 | false =>
 have tC:=zGv (n8 5 (r++g)) (zV (op:=.Gt) (b:=decide ((0:Int)<(S.b.countP id:Nat))) (zG (me:=none) (a:=1) (z4 (i:=3) (cf:=run T (n+8)) (fr:=F10 sc v1 hands pq hq v6 v7 (some (.int num)) (some (.int mo)) (some (.ref (a.wq+15))) (some (.ref (a.dq+15))) v12 v13 v14 v15 v16 v17) (h:=S.hp (r++g)) rfl) rfl jX ev0 (Xo X (n:=n+6))) (y:=z7 (.int 0)) rfl XW)
 cases qC:decide (num.fmod 8<5) && decide ((0:Int)<(S.b.countP id:Nat)) with
 | true =>
  rw [qC] at tC
  obtain ⟨u13,u14,m',es',r',e,L'⟩:=brC X (n:=n+2) (okf:=okf) L1 k60 h1 ha hc (fun h=>by rw [h] at qC;exact nob ((Bool.and_eq_true_iff.mp qC).2▸rfl)) (sc:=sc) (v1:=v1) (mo:=mo) (v6:=v6) (v7:=v7) (v8:=some (.int num)) (v12:=v12) (v13:=v13) (v14:=v14) (v15:=v15) (v16:=v16) (v17:=v17)
  exact ⟨_,S,mvs,cus,sg,r',v12,u13,u14,(zH tA).trans ((z6 ((zH tB).trans ((z6 ((zg tC).trans e)).trans zF))).trans zF),L'⟩
 | false =>
  rw [qC] at tC
  obtain ⟨S',mvs',cus',sg',r',e,L'⟩:=brD X (n:=n) L1 hk h1 (sc:=sc) (v1:=v1) (mo:=mo) (v6:=v6) (v7:=v7) (v8:=some (.int num)) (v10:=some (.ref (a.wq+15))) (v11:=some (.ref (a.dq+15))) (v12:=v12) (v13:=v13) (v14:=v14) (v15:=v15) (v16:=v16) (v17:=v17)
  exact ⟨cs,S',mvs',cus',sg',r',v12,v13,v14,(zH tA).trans ((z6 ((zH tB).trans ((z6 ((zH tC).trans e)).trans zF))).trans zF),L'⟩
end
section
variable {T:Tab} {okf:Str→Str→Bool} (X:TT T okf) {n:Nat} {hands:Int} {k pq hq:Nat} {ad:List Ad} {cs:List (Nat×Es)} {ye:Nat×List Int} {hs:List AV} {S:Sh} {mvs:List (List (Int×Int))} {cus sg:List (List Int)} {r:Hp} {sc v1:AV} {mo:Int} {v6 v7 v8 v12 v13 v14 v15 v16 v17:Option AV} {j:Nat} {a:Ad}
theorem L10.at_ (L:L10 hands k pq hq ad cs ye hs S mvs cus sg r) (ha:ad[j]? = some a):∃ m es,cs[j]? = some (m,es)∧Ro S.le.length k r a m es:=by
 have hl:j<cs.length:=by rw [L.ln];exact (yL ha).1
 have e:=y6 hl
 exact ⟨_,_,e,L.ro j a _ _ ha e⟩
include X
theorem zH7 (L:L10 hands k pq hq ad cs ye hs S mvs cus sg r) (hn:0<hands) (ha:ad[j]? = some a) {v11:Option AV} :
  ∃ G,n10 (run T (n+8)) (F10 sc v1 hands pq hq v6 v7 v8 (some (.int mo)) (some (.ref (a.wq+15))) v11 v12 v13 v14 v15 v16 v17) (S.hp r)=.ok .next (F10 sc v1 hands pq hq v6 v7 v8 (some (.int mo)) (some (.ref (a.wq+15))) v11 v12 v13 v14 v15 v16 v17) (S.hp (r++G)):=by
 obtain ⟨m,es,_,R⟩:=L.at_ ha
 have t1:(zQ (zM .Mod (z5 9) (z7 (.int 3))) [.Eq] [(z7 (.int 1))]) (run T (n+8)) (F10 sc v1 hands pq hq v6 v7 v8 (some (.int mo)) (some (.ref (a.wq+15))) v11 v12 v13 v14 v15 v16 v17) (S.hp r)=.ok (decide (mo.fmod 3=1)) (S.hp r):=zV (yD (z4 rfl) rfl (yY.trans (if_neg (by decide)))) rfl (by rw [yr,yZ])
 obtain ⟨G,q⟩:=Qz X (n:=n+2) L.A.V.I R.H (by rw [L.A.hd];exact hn)
 rw [L.A.hd] at q
 cases hb:decide (mo.fmod 3=1) with
 | false=>rw [hb] at t1;exact ⟨[],by rw [List.append_nil];exact (zH (xI t1)).trans zF⟩
 | true =>
  rw [hb] at t1
  exact ⟨G,(zH (qT t1 (xI (zt (b:=true) (yT (v:=.bool true) (zu (ev1 (zZ (z4 rfl) rfl (xa (show (S.hp r)[a.wq+15]? = _ from R.w) rfl rfl)) (ev1 (zG (a:=1) (z4 rfl) rfl jX ev0 (Xo X (n:=n+6))) (ev1 (z4 rfl) ev0))) q) rfl))))).trans zF⟩
theorem zH3 (L:L10 hands k pq hq ad cs ye hs S mvs cus sg r) (hk:k≤30) (hn:0<hands) (zh:hs.length+12<small) {v10 v11:Option AV} :
  ∃ u15 u16 u17 hs' r',w10 (run T (n+8)) (F10 sc v1 hands pq hq v6 v7 v8 (some (.int mo)) v10 v11 v12 v13 v14 v15 v16 v17) (S.hp r)=.ok .next (F10 sc v1 hands pq hq v6 v7 v8 (some (.int mo)) v10 v11 v12 v13 v14 u15 u16 u17) (S.hp r')∧L10 hands k pq hq ad cs ye hs' S mvs cus sg r'∧hs'.length≤hs.length+6:=by
 obtain ⟨fr',h',e,u15,u16,u17,hs',r',rfl,rfl,L',l'⟩:=xG (t:=.many [15,16,17]) (src:=.ref (pq+15)) (cf:=run T (n+8)) (xs:=ad.map fun a=>AV.ref (a.wq+15))
  (body:=(zA [(sIf (yP (zy (zD (zB (some (.fn "_law_stands"))) [(z5 3),(z5 15),(z5 16),(zM .Mod (zM .FloorDiv (z5 9) (z7 (.int 7))) (z5 2)),(z5 5)]))) (zA [(zW (z7 (.bool false)))]) (zA []))]))
  (fun i fr h=>∃ u15 u16 u17 hs' r',fr=F10 sc v1 hands pq hq v6 v7 v8 (some (.int mo)) v10 v11 v12 v13 v14 u15 u16 u17∧h=S.hp r'∧L10 hands k pq hq ad cs ye hs' S mvs cus sg r'∧hs'.length≤hs.length+3 * i)
  (by
   rintro i fr h ⟨u15,u16,u17,hs',r',rfl,rfl,L,_⟩
   exact ym (show (S.hp r')[pq+15]? = _ from L.p))
  (by
   rintro i x fr h ⟨u15,u16,u17,hs',r',rfl,rfl,L,l⟩ hx
   rw [List.getElem?_map] at hx
   obtain ⟨a,ha,rfl⟩:=yC hx
   obtain ⟨m,es,_,R⟩:=L.at_ ha
   have hi:=(yL ha).1
   have i2:i<2:=Nat.lt_of_lt_of_le hi L.l2
   obtain ⟨_,nd1⟩:=List.nodup_cons.mp L.nd
   obtain ⟨n2,_⟩:=List.nodup_cons.mp nd1
   have inA:∀ q∈a.all,hq≠q:=fun q h e=>n2 (e▸List.mem_flatMap.mpr ⟨a,yM ha,h⟩)
   obtain ⟨G,ts,es1,lt,ht⟩:=QF X (n:=n+1) L.A.V L.A.D R.H R.d (L.A.p hq (.tail _ (.head _))).2.1 (L.A.p hq (.tail _ (.head _))).2.2 L.h (inA _ (.head _)) (inA _ (.tail _ (.head _))) R.nd (Nat.lt_of_le_of_lt R.z (Nat.lt_of_le_of_lt hk (by decide))) (R.small hk) R.rg (Nat.lt_of_le_of_lt (Nat.add_le_add_right (Nat.le_trans l (Nat.add_le_add_left (Nat.mul_le_mul_left 3 (Nat.le_of_lt i2)) _)) 3) (Nat.lt_of_le_of_lt (by lia) zh)) (p:=(mo.fdiv 7).fmod hands) (Int.fmod_nonneg_of_pos _ hn) (by rw [L.A.hd];exact Int.fmod_lt_of_pos _ hn)
   refine ⟨F10 sc v1 hands pq hq v6 v7 v8 (some (.int mo)) v10 v11 v12 v13 v14 (some (.ref (a.tq+15))) (some (.ref (a.dq+15))) (some (.int m)),_,_,?_,(z6 ((zH (zt (b:=true) (yT (v:=.bool true) (zu (ev1 (z4 rfl) (ev1 (z4 rfl) (ev1 (z4 rfl) (ev1 (yD (yD (z4 rfl) rfl (qk.trans (if_pos (by decide)))) (z4 rfl) (yY.trans (if_neg (Int.ne_of_gt hn)))) (ev1 (z4 rfl) ev0))))) es1) rfl))).trans zF)).trans zF,_,_,_,_,_,rfl,rfl,L.held ht,?_⟩
   ·show (zi (S.hp r') (a.wq+15)).bind _=_
    rw [qb (show (S.hp r')[a.wq+15]? = _ from R.w)];rfl
   ·rw [zU]
    exact Nat.le_trans (Nat.add_le_add l lt) (Nat.le_of_eq (by rw [Nat.mul_succ,Nat.add_assoc])))
  (fr:=F10 sc v1 hands pq hq v6 v7 v8 (some (.int mo)) v10 v11 v12 v13 v14 v15 v16 v17) (h:=S.hp r) ⟨v15,v16,v17,hs,r,rfl,rfl,L,Nat.le_add_right _ _⟩
 refine ⟨u15,u16,u17,hs',r',wO (en:=false) (z4 rfl) (qn (show (S.hp r)[pq+15]? = _ from L.p)) e,L',Nat.le_trans l' (Nat.add_le_add_left ?_ _)⟩
 rw [List.length_map]
 exact Nat.mul_le_mul_left 3 L.l2
end
noncomputable abbrev s10 (okf:Str→Str→Bool):XS:=(zA [(z9 okf (.names (.one 8)) (zD (zB (some (.fn "_law_mixed"))) [(z5 7),(z5 6)])),(z9 okf (.names (.one 9)) (zM .FloorDiv (z5 8) (z7 (.int 8)))),(sIf (zQ (z5 6) [.Eq] [(zM .Add (z7 (.int 4)) (zM .Mod (zD (zB (some (.fn "_law_cell_at"))) [(z5 0),(z7 (.int 0))]) (z7 (.int 4))))]) (zA [(zI (z8 (z5 4) "append" (some .append) [(zm [(zD (zB (some (.cls "Marks"))) [(z5 3)]),xn,(z7 (.int 0))])]))]) (zA [])),(z9 okf (.names (.one 10)) (zK (z5 4) (zM .Mod (zM .FloorDiv (z5 9) (z7 (.int 3))) (zD (zB (some (.bi .len))) [(z5 4)])))),(z9 okf (.names (.one 11)) (zK (z5 10) (z7 (.int 1)))),(sIf (zT .And [(zQ (zM .Mod (z5 8) (z7 (.int 8))) [.Lt] [(z7 (.int 2))]),(zQ (z8 (z5 3) "deeds" none []) [.Gt] [(z7 (.int 0))])]) (zA [(zI (zD (zB (some (.fn "_law_turned"))) [(z5 3),(zM .Mod (z5 9) (z8 (z5 3) "deeds" none []))]))]) (zA [(sIf (zT .And [(zQ (zM .Mod (z5 8) (z7 (.int 8))) [.Lt] [(z7 (.int 5))]),(zQ (z5 11) [.NotEq] [xn]),(zQ (zM .Mod (z5 9) (z7 (.int 5))) [.Eq] [(z7 (.int 1))])]) (zA [(z9 okf (.names (.one 12)) (zK (zD (zB (some (.bi .sorted))) [(zD (zB (some (.bi .list))) [(z5 11)])]) (zM .Mod (zM .FloorDiv (z5 9) (z7 (.int 5))) (zD (zB (some (.bi .len))) [(z5 11)])))),(zI (z8 (z5 11) "pop" (some .pop) [(z5 12)])),(sIf (zT .Or [(zQ (z8 (zK (z5 10) (z7 (.int 0))) "drop" none [(z5 12)]) [.IsNot] [(z7 .none)]),(yP (zy (zD (zB (some (.fn "_law_is_gone"))) [(zK (z5 10) (z7 (.int 0))),(z5 12)])))]) (zA [(zW (z7 (.bool false)))]) (zA []))]) (zA [(sIf (zT .And [(zQ (zM .Mod (z5 8) (z7 (.int 8))) [.Lt] [(z7 (.int 5))]),(zQ (z8 (z5 3) "size" none []) [.Gt] [(z7 (.int 0))])]) (zA [(z9 okf (.names (.one 13)) (zM .Mod (zM .FloorDiv (z5 9) (z7 (.int 5))) (z8 (z5 3) "size" none []))),(z9 okf (.item (z5 11) (zK (z5 10) (z7 (.int 2)))) (yt [(zM .Mod (z5 9) (z5 2)),(z8 (z5 3) "sign_at" none [(z5 13)])])),(z9 okf (.names (.one 14)) (z8 (zK (z5 10) (z7 (.int 0))) "stick" none [(zM .Mod (z5 9) (z5 2)),(z5 13)])),(sIf (zT .Or [(yP (zy (zD (zB (some (.fn "_law_whole"))) [(z5 14)]))),(zQ (z5 14) [.NotEq] [(zK (z5 10) (z7 (.int 2)))])]) (zA [(zW (z7 (.bool false)))]) (zA [])),(z9 okf (.item (z5 10) (z7 (.int 2))) (zM .Add (zK (z5 10) (z7 (.int 2))) (z7 (.int 1))))]) (zA [(zI (zD (zB (some (.fn "_law_do"))) [(z5 3),(zD (zB (some (.fn "_law_deed_by"))) [(z5 9),(z8 (z5 3) "size" none []),(z5 2)])]))]))]))])),(sIf (zT .And [(zQ (zM .Mod (z5 9) (z7 (.int 3))) [.Eq] [(z7 (.int 1))]),(yP (zy (zD (zB (some (.fn "_law_not_stuck"))) [(zK (z5 10) (z7 (.int 0))),(z8 (z5 3) "size" none []),(z5 2)])))]) (zA [(zW (z7 (.bool false)))]) (zA [])),(xo (.many [15,16,17]) (z5 4) false (zA [(sIf (yP (zy (zD (zB (some (.fn "_law_stands"))) [(z5 3),(z5 15),(z5 16),(zM .Mod (zM .FloorDiv (z5 9) (z7 (.int 7))) (z5 2)),(z5 5)]))) (zA [(zW (z7 (.bool false)))]) (zA []))]))])
inductive St (is:List Int) (v1:AV) (hn:Int) (pq hq:Nat) (ye:Nat×List Int):Nat→AFr→Hp→Prop
 | mk {k:Nat} {v6 v7 v8 v9 v10 v11 v12 v13 v14 v15 v16 v17:Option AV} {ad:List Ad} {cs:List (Nat×Es)} {hs:List AV} {S:Sh} {mvs:List (List (Int×Int))} {cus sg:List (List Int)} {r:Hp} (L:L10 hn k pq hq ad cs ye hs S mvs cus sg r) (l0:0<ad.length) (lim:(k:Int)≤4+(is[(0:Int).toNat]?.getD 0).fmod 4→ad.length≤1) (zh:hs.length≤6 * k) :
  St is v1 hn pq hq ye k (F10 (.lst (is.map AV.int)) v1 hn pq hq v6 v7 v8 v9 v10 v11 v12 v13 v14 v15 v16 v17) (S.hp r)
section
variable {T:Tab} {okf:Str→Str→Bool} (X:TT T okf) {n:Nat} {hands:Int} {k pq hq:Nat} {ad:List Ad} {cs:List (Nat×Es)} {ye:Nat×List Int} {hs:List AV} {S:Sh} {mvs:List (List (Int×Int))} {cus sg:List (List Int)} {r:Hp} {is:List Int} {v1:AV} {y k0:Int} {v8 v9 v10 v11 v12 v13 v14 v15 v16 v17:Option AV}
include X
theorem Jz (L:L10 hands k pq hq ad cs ye hs S mvs cus sg r) (hs63:is.length≤63) (l0:0<ad.length) (hk0:k0=4+(is[(0:Int).toNat]?.getD 0).fmod 4) (lim:(k:Int)≤k0→ad.length≤1) {num mo:Int} :
  ∃ ad' cs' r',sIf (zQ (z5 6) [.Eq] [(zM .Add (z7 (.int 4)) (zM .Mod (zD (zB (some (.fn "_law_cell_at"))) [(z5 0),(z7 (.int 0))]) (z7 (.int 4))))]) (zA [(zI (z8 (z5 4) "append" (some .append) [(zm [(zD (zB (some (.cls "Marks"))) [(z5 3)]),xn,(z7 (.int 0))])]))]) (zA []) (run T (n+8)) (F10 (.lst (is.map AV.int)) v1 hands pq hq (some (.int k)) (some (.int y)) (some (.int num)) (some (.int mo)) v10 v11 v12 v13 v14 v15 v16 v17) (S.hp r)=.ok .next (F10 (.lst (is.map AV.int)) v1 hands pq hq (some (.int k)) (some (.int y)) (some (.int num)) (some (.int mo)) v10 v11 v12 v13 v14 v15 v16 v17) (S.hp r')∧L10 hands k pq hq ad' cs' ye hs S mvs cus sg r'∧0<ad'.length∧(((k+1:Nat):Int)≤k0→ad'.length≤1):=by
 have t:zQ (z5 6) [.Eq] [(zM .Add (z7 (.int 4)) (zM .Mod (zD (zB (some (.fn "_law_cell_at"))) [(z5 0),(z7 (.int 0))]) (z7 (.int 4))))] (run T (n+8)) (F10 (.lst (is.map AV.int)) v1 hands pq hq (some (.int k)) (some (.int y)) (some (.int num)) (some (.int mo)) v10 v11 v12 v13 v14 v15 v16 v17) (S.hp r)=.ok (decide ((k:Int)=k0)) (S.hp r):=by
  rw [hk0]
  exact zV (z4 rfl) (yD rfl (yD (zu (ev1 (z4 rfl) (ev1 rfl ev0)) (jg X (n:=n+7) (is:=is) (k:=0) (by decide) hs63)) rfl (yY.trans (if_neg (by decide)))) w4) (by rw [yr,yZ])
 by_cases q:(k:Int)=k0
 ·rw [decide_eq_true q] at t
  have l1:=lim (Int.le_of_eq q)
  have s:=z0b (cf:=run T (n+8)) (fr:=F10 (.lst (is.map AV.int)) v1 hands pq hq (some (.int k)) (some (.int y)) (some (.int num)) (some (.int mo)) v10 v11 v12 v13 v14 v15 v16 v17) (j:=4) (a:=pq+15) (e:=zm [(zD (zB (some (.cls "Marks"))) [(z5 3)]),xn,(z7 (.int 0))]) rfl (show (S.hp r)[pq+15]? = _ from L.p) (Wc X (n:=n+7) rfl) (show (S.hp (r++qG r.length))[pq+15]? = _ from zC L.p) (by rw [List.length_map];exact Nat.lt_of_le_of_lt l1 (by decide)) rfl
  refine ⟨_,_,_,(zg t).trans ((z6 s).trans zF),L.add l1,by rw [zU];exact Nat.lt_of_lt_of_le l0 (Nat.le_add_right _ _),fun h=>absurd h (Int.not_le.mpr ?_)⟩
  rw [← q];exact Int.ofNat_lt.mpr (Nat.lt_succ_self k)
 ·rw [decide_eq_false q] at t
  exact ⟨ad,cs,r,(zH t).trans zF,L,l0,fun h=>lim (Int.le_trans (Int.ofNat_le.mpr (Nat.le_succ k)) h)⟩
theorem zDw (L:L10 hands k pq hq ad cs ye hs S mvs cus sg r) (hk:k≤24) (h1:0<hands) (hs63:is.length≤63) (l0:0<ad.length) (lim:(k:Int)≤4+(is[(0:Int).toNat]?.getD 0).fmod 4→ad.length≤1) (zh:hs.length≤6 * k) :
  ∃ fr2 h2,s10 okf (run T (n+8)) (F10 (.lst (is.map AV.int)) v1 hands pq hq (some (.int k)) (some (.int y)) v8 v9 v10 v11 v12 v13 v14 v15 v16 v17) (S.hp r)=.ok .next fr2 h2∧St is v1 hands pq hq ye (k+1) fr2 h2:=by
 generalize hnum:YT y k=num
 obtain ⟨ad1,cs1,r1,e3,L1,l1,lim1⟩:=Jz X (n:=n) (v1:=v1) (y:=y) (v10:=v10) (v11:=v11) (v12:=v12) (v13:=v13) (v14:=v14) (v15:=v15) (v16:=v16) (v17:=v17) L hs63 l0 rfl lim (num:=num) (mo:=num.fdiv 8)
 generalize hmo:num.fdiv 8=mo at e3
 have c0:(0:Int)<(ad1.length:Nat):=Int.ofNat_lt.mpr l1
 have f0:=Int.fmod_nonneg_of_pos (mo.fdiv 3) c0
 have f1:=Int.fmod_lt_of_pos (mo.fdiv 3) c0
 generalize hx:(mo.fdiv 3).fmod (ad1.length:Nat)=x at f0 f1
 have hi:x.toNat<ad1.length:=jO f0 f1
 have ha:=y6 hi
 generalize ad1[x.toNat]=a at ha
 obtain ⟨m,es,hc,R⟩:=L1.at_ ha
 obtain ⟨cs2,S2,mvs2,cus2,sg2,r2,u12,u13,u14,e6,L2⟩:=br X (n:=n) (okf:=okf) L1 (Nat.le_succ_of_le hk) h1 ha hc (sc:=.lst (is.map AV.int)) (v1:=v1) (num:=num) (mo:=mo) (v6:=some (.int k)) (v7:=some (.int y)) (v12:=v12) (v13:=v13) (v14:=v14) (v15:=v15) (v16:=v16) (v17:=v17)
 obtain ⟨g7,e7⟩:=zH7 X (n:=n) L2 h1 ha (sc:=.lst (is.map AV.int)) (v1:=v1) (mo:=mo) (v6:=some (.int k)) (v7:=some (.int y)) (v8:=some (.int num)) (v11:=some (.ref (a.dq+15))) (v12:=u12) (v13:=u13) (v14:=u14) (v15:=v15) (v16:=v16) (v17:=v17)
 have L2:=L2.grow g7
 obtain ⟨u15,u16,u17,hs',r3,e8,L3,l3⟩:=zH3 X (n:=n) L2 (Nat.le_trans (Nat.succ_le_succ hk) (by decide)) h1 (Nat.lt_of_le_of_lt (Nat.add_le_add_right (Nat.le_trans zh (Nat.mul_le_mul_left 6 hk)) 12) (by decide)) (sc:=.lst (is.map AV.int)) (v1:=v1) (mo:=mo) (v6:=some (.int k)) (v7:=some (.int y)) (v8:=some (.int num)) (v10:=some (.ref (a.wq+15))) (v11:=some (.ref (a.dq+15))) (v12:=u12) (v13:=u13) (v14:=u14) (v15:=v15) (v16:=v16) (v17:=v17)
 have y1:zD (zB (some (.fn "_law_mixed"))) [(z5 7),(z5 6)] (run T (n+8)) (F10 (.lst (is.map AV.int)) v1 hands pq hq (some (.int k)) (some (.int y)) v8 v9 v10 v11 v12 v13 v14 v15 v16 v17) (S.hp r)=.ok (.int num) (S.hp r):=by
  rw [← hnum];exact zu (ev1 (z4 rfl) (ev1 (z4 rfl) ev0)) (z0k X (n:=n+7))
 have y2:zM .FloorDiv (z5 8) (z7 (.int 8)) (run T (n+8)) (F10 (.lst (is.map AV.int)) v1 hands pq hq (some (.int k)) (some (.int y)) (some (.int num)) v9 v10 v11 v12 v13 v14 v15 v16 v17) (S.hp r)=.ok (.int mo) (S.hp r):=by
  rw [← hmo];exact yD (z4 rfl) rfl (qk.trans (if_pos (by decide)))
 have y4:zK (z5 4) (zM .Mod (zM .FloorDiv (z5 9) (z7 (.int 3))) (zD (zB (some (.bi .len))) [(z5 4)])) (run T (n+8)) (F10 (.lst (is.map AV.int)) v1 hands pq hq (some (.int k)) (some (.int y)) (some (.int num)) (some (.int mo)) v10 v11 v12 v13 v14 v15 v16 v17) (S.hp r1)=.ok (.ref (a.wq+15)) (S.hp r1):=by
  refine zZ (z4 rfl) (yD (yD (z4 rfl) rfl (qk.trans (if_pos (by decide)))) (xM (ev1 (z4 rfl) ev0) (res:=.ok (.int (ad1.length:Nat)) (S.hp r1)) ?_) (yY.trans (if_neg fun q=>Nat.ne_of_gt l1 (Int.ofNat.inj q)))) ?_
  ·rw [w8,qY,show (S.hp r1)[pq+15]? = _ from L1.p]
   show Out.ok (AV.int ((ad1.map _).length:Nat)) _=_
   rw [List.length_map]
  ·rw [hx]
   exact xa (show (S.hp r1)[pq+15]? = _ from L1.p) (x6.mpr ⟨f0,Int.lt_trans f1 (Int.lt_of_le_of_lt (Int.ofNat_le.mpr L1.l2) (by decide))⟩) (by rw [List.getElem?_map,ha];rfl)
 have y5:zK (z5 10) (z7 (.int 1)) (run T (n+8)) (F10 (.lst (is.map AV.int)) v1 hands pq hq (some (.int k)) (some (.int y)) (some (.int num)) (some (.int mo)) (some (.ref (a.wq+15))) v11 v12 v13 v14 v15 v16 v17) (S.hp r1)=.ok (.ref (a.dq+15)) (S.hp r1):=zZ (z4 rfl) rfl (xa (show (S.hp r1)[a.wq+15]? = _ from R.w) rfl rfl)
 refine ⟨F10 (.lst (is.map AV.int)) v1 hands pq hq (some (.int k)) (some (.int y)) (some (.int num)) (some (.int mo)) (some (.ref (a.wq+15))) (some (.ref (a.dq+15))) u12 u13 u14 u15 u16 u17,S2.hp r3,?_,.mk L3 l1 lim1 (Nat.le_trans l3 (by rw [Nat.mul_succ];exact Nat.add_le_add_right zh 6))⟩
 exact (z6 (zX (j:=8) y1 (zc rfl))).trans ((z6 (zX (j:=9) y2 (zc rfl))).trans ((z6 e3).trans ((z6 (zX (j:=10) y4 (zc rfl))).trans ((z6 (zX (j:=11) y5 (zc rfl))).trans ((z6 e6).trans ((z6 e7).trans ((z6 e8).trans zF)))))))
end
theorem JH {S:Sh} {r:Hp} {cf:CF} {hq:Nat} {hs:List AV} {sc v1:AV} {hn:Int} {pq:Nat} {v6 v7 v8 v9 v10 v11 v12 v13 v14 v15 v16 v17:Option AV} (hl:r[hq]? = some (.list hs)) (ha:∀ v∈hs,∃ a b xs,v=.tup [.ref (a+15),.ref (b+15)]∧r[a]? = some (.list ((xs:List Int).map AV.int))∧r[b]? = some (.list (xs.map AV.int))) :
  yE (z5 5) 2 (.many [18,19]) (zT .And [(zQ (z5 18) [.NotEq] [(z5 19)])]) (z5 18) cf (F10 sc v1 hn pq hq v6 v7 v8 v9 v10 v11 v12 v13 v14 v15 v16 v17) (S.hp r)=.ok (.ref (r.length+15)) (S.hp (r++[.list []])):=by
 have key:∀ (m k:Nat) (w1 w2:Option AV),k+m=hs.length→yJ (.many [18,19]) (zT .And [(zQ (z5 18) [.NotEq] [(z5 19)])]) (z5 18) (.ref (hq+15)) (m+1) k [] cf (F10 sc v1 hn pq hq v6 v7 v8 v9 v10 v11 v12 v13 v14 v15 v16 v17++[w1,w2]) (S.hp r)=.ok [] (S.hp r):=by
  intro m
  induction m with
  | zero =>
   intro k w1 w2 e
   show (match (Src.ref (hq+15)).next? (S.hp r) k with
    | none=>Out.stuck
    | some none=>.ok [] (S.hp r)
    | some (some x)=>_)=_
   rw [ym (show (S.hp r)[hq+15]? = _ from hl),List.getElem?_eq_none (show hs.length≤k from Nat.le_of_eq e.symm)]
  | succ m ih =>
   intro k w1 w2 e
   have hk:k<hs.length:=by rw [← e];exact Nat.lt_add_of_pos_right (Nat.succ_pos m)
   have hx:=y6 hk
   obtain ⟨a,b,xs,ev,h1,h2⟩:=ha _ (List.getElem_mem hk)
   rw [ev] at hx
   have ht:zT .And [(zQ (z5 18) [.NotEq] [(z5 19)])] cf (F10 sc v1 hn pq hq v6 v7 v8 v9 v10 v11 v12 v13 v14 v15 v16 v17++[some (.ref (a+15)),some (.ref (b+15))]) (S.hp r)=.ok false (S.hp r):=xI (zV (z4 rfl) (z4 rfl) (z3c (show (S.hp r)[a+15]? = _ from h1) (show (S.hp r)[b+15]? = _ from h2)))
   show (match (Src.ref (hq+15)).next? (S.hp r) k with
    | none=>Out.stuck
    | some none=>.ok [] (S.hp r)
    | some (some x)=>(match NTgt.bind (.many [18,19]) x (F10 sc v1 hn pq hq v6 v7 v8 v9 v10 v11 v12 v13 v14 v15 v16 v17++[w1,w2]) with
     | none=>.stuck
     | some fr₁=>(zT .And [(zQ (z5 18) [.NotEq] [(z5 19)])] cf fr₁ (S.hp r)).bind0 fun b h₁ =>
       if b then (z5 18 cf fr₁ h₁).bind0 fun v h₂=>if ([]:List AV).length<small then yJ (.many [18,19]) (zT .And [(zQ (z5 18) [.NotEq] [(z5 19)])]) (z5 18) (.ref (hq+15)) (m+1) (k+1) ([]++[v]) cf fr₁ h₂ else .stuck
       else yJ (.many [18,19]) (zT .And [(zQ (z5 18) [.NotEq] [(z5 19)])]) (z5 18) (.ref (hq+15)) (m+1) (k+1) [] cf fr₁ h₁))=_
   rw [ym (show (S.hp r)[hq+15]? = _ from hl),hx]
   show (zT .And [(zQ (z5 18) [.NotEq] [(z5 19)])] cf (F10 sc v1 hn pq hq v6 v7 v8 v9 v10 v11 v12 v13 v14 v15 v16 v17++[some (.ref (a+15)),some (.ref (b+15))]) (S.hp r)).bind0 _=_
   rw [ht]
   exact ih (k+1) _ _ (by rw [← e,Nat.add_assoc,Nat.add_comm 1 m])
 have e:=key hs.length 0 none none (Nat.zero_add _)
 unfold yE
 rw [show z5 5 cf (F10 sc v1 hn pq hq v6 v7 v8 v9 v10 v11 v12 v13 v14 v15 v16 v17) (S.hp r)=.ok (.ref (hq+15)) (S.hp r) from rfl,Out.bind_ok,qn (show (S.hp r)[hq+15]? = _ from hl)]
 show Out.bind0 (yJ (.many [18,19]) (zT .And [(zQ (z5 18) [.NotEq] [(z5 19)])]) (z5 18) (.ref (hq+15)) (hs.length+1) 0 [] cf (F10 sc v1 hn pq hq v6 v7 v8 v9 v10 v11 v12 v13 v14 v15 v16 v17++[none,none]) (S.hp r)) _=_
 rw [e];rfl
theorem nd6 (l:Nat):(prv (l+4) (l+5) [adN l]).Nodup:=by
 have d:∀ {i j:Nat},i≠j→l+i≠l+j:=fun h e=>h (Nat.add_left_cancel e)
 refine List.nodup_cons.mpr ⟨fun h=>?_,List.nodup_cons.mpr ⟨fun h=>?_,List.nodup_cons.mpr ⟨fun h=>?_,List.nodup_cons.mpr ⟨fun h=>?_,List.nodup_cons.mpr ⟨fun h=>?_,List.nodup_cons.mpr ⟨List.not_mem_nil,List.nodup_nil⟩⟩⟩⟩⟩⟩ <;> simp at h
theorem Wa {l q:Nat} (h:q∈prv (l+4) (l+5) [adN l]):l≤q∧q<l+6:=by
 simp [prv] at h
 lia
theorem wn {h:Hp} {a k:Nat} {ys:List Int} (e:h[a]? = some (.list (ys.map AV.int))):(Src.enum a).next? h k=some ((ys.mapIdx fun i y=>AV.tup [.int (i:Int),.int y])[k]?):=by
 show (match h[a]? with | some (.list zs)=>some ((zs[k]?).map fun x=>AV.tup [.int k,x]) | _=>none)=_
 rw [e]
 show some (((ys.map AV.int)[k]?).map fun x=>AV.tup [.int k,x])=_
 rw [List.getElem?_map,List.getElem?_mapIdx,Option.map_map];rfl
section
variable {T:Tab} {okf:Str→Str→Bool} (X:TT T okf) {n:Nat}
include X
theorem Jq {c:Int} {h:Hp}:∃ v,run T (n+1) (.fn "_law_size_by") [.int c] h=.ok (.int v) h:=by
 rw [xH X.kA0]
 have t:=zV (op:=.Eq) (y:=z7 (.int 1)) (w:=.int 1) (b:=decide ((c.fdiv 13).fmod 8=1)) (j7 (d:=8) (qr (d:=13) (z4 (i:=0) (cf:=run T n) (h:=h) (fr:=[some (.int c)]) rfl) (by decide)) (by decide)) rfl (by rw [yr,yZ])
 cases hb:decide ((c.fdiv 13).fmod 8=1) with
 | true =>
  rw [hb] at t
  exact ⟨_,zN (fr:=[some (.int c)]) rfl rfl (zL ((zg t).trans (zL (zd (YO (x:=z7 (.int 30)) rfl (j7 (d:=31) (qr (d:=104) (z4 rfl) (by decide)) (by decide)))))))⟩
 | false =>
  rw [hb] at t
  exact ⟨_,zN (fr:=[some (.int c)]) rfl rfl ((z6 ((zH t).trans zF)).trans (zL (zd (j7 (d:=13) (z4 rfl) (by decide)))))⟩
theorem law_ {is:List Int} (hs:is.length≤63):∃ h',run T (n+9) (.fn "law") [.lst (is.map AV.int)] []=.ok (.bool true) h':=by
 rw [xH X.kCd]
 have c0:=fun h=>jg X (n:=n+7) (is:=is) (k:=0) (h:=h) (by decide) hs
 have c1:=fun h=>jg X (n:=n+7) (is:=is) (k:=1) (h:=h) (by decide) hs
 have c2:=fun h=>jg X (n:=n+7) (is:=is) (k:=2) (h:=h) (by decide) hs
 obtain ⟨sz,es⟩:=Jq X (n:=n+7) (c:=is[(0:Int).toNat]?.getD 0) (h:=[])
 have m20:=fmr sz (d:=20) (by decide)
 obtain ⟨cs,o,et,ok,lc⟩:=Xh X (n:=n+6) (c:=is[(1:Int).toNat]?.getD 0) (m:=sz.fmod 20) (h:=[]) m20.1 (Int.le_trans (Int.le_of_lt m20.2) (by decide))
 have hc:cs.length≤60:=Int.ofNat_le.mp (by rw [lc];exact Int.le_trans (Int.le_of_lt m20.2) (by decide))
 have h9:=fmr (is[(2:Int).toNat]?.getD 0) (d:=9) (by decide)
 generalize hhn:1+(is[(2:Int).toNat]?.getD 0).fmod 9=hn
 have hh1:1≤hn∧hn≤9:=by lia
 obtain ⟨g2,r,ei,D⟩:=zGc X (n:=n+3) (g0:=o) (hands:=hn) ok hc hh1.1 hh1.2
 obtain ⟨V,_⟩:=iv1 o g2 hn (cs:=cs) (Nat.lt_of_le_of_lt hc (by decide))
 have hh:(sh1 o g2 hn cs).hands=hn:=rfl
 have hnil:(sh1 o g2 hn cs).dn=[]∧(sh1 o g2 hn cs).lo=[]:=⟨rfl,rfl⟩
 have hbl:(sh1 o g2 hn cs).b.length=cs.length∧(sh1 o g2 hn cs).le=cs:=⟨List.length_replicate,rfl⟩
 generalize hS:sh1 o g2 hn cs=S at ei D V hh hnil hbl
 generalize (List.replicate cs.length ([]:List (Int×Int)))=mvs0 at D V
 generalize (List.replicate cs.length ([]:List Int))=cus0 at D V
 generalize hys:(is.take 23).drop 3=ys
 have ly:ys.length≤20:=by rw [← hys,List.length_drop,List.length_take];lia
 have A0:Bs hn 60 0 [] S mvs0 cus0 [] r:=⟨V,D,fun d us h=>(nomatch h),fun q h=>(nomatch h),hh,by rw [hbl.1];exact hc,by rw [hbl.2];exact hc,by rw [hnil.1];exact Nat.le_refl _,fun d h=>(by rw [hnil.1] at h;cases h),by rw [hnil.2];exact Nat.le_refl _⟩
 have lr:∀ g:Hp,(r++(qG r.length++g)).length=r.length+4+g.length:=fun g=>by rw [zU,zU,← Nat.add_assoc];rfl
 have at_:∀ {k:Nat} {x:AO} {g:Hp},g[k]? = some x→(r++(qG r.length++g))[r.length+(4+k)]? = some x:=fun h=>by
  rw [x9];exact (x9 (qG r.length) _ _).trans h
 have L0:L10 hn 0 (r.length+4) (r.length+5) [adN r.length] [(0,[])] (r.length+6,ys) [] S mvs0 cus0 [] (r++(qG r.length++[.list [.ref (r.length+3+15)],.list [],.list (ys.map AV.int)])):=by
  refine ⟨A0.grow _ fun q h=>.inr ?_,nd6 _,at_ (k:=0) rfl,at_ (k:=1) rfl,fun j a m es h1 h2=>?_,rfl,fun v h=>(nomatch h),zc rfl,at_ (k:=2) rfl,(D.ge (Nat.le_add_right _ _)).1,(D.ge (Nat.le_add_right _ _)).2,fun h=>absurd (Wa h).2 (Nat.lt_irrefl _)⟩
  ·obtain ⟨q1,q2⟩:=Wa h
   rw [lr]
   exact ⟨q1,Nat.lt_of_lt_of_le q2 (Nat.add_le_add_left (show 6≤4+3 by decide) r.length)⟩
  ·cases j with
   | succ j=>cases h1
   | zero =>
    cases h1;cases h2
    rw [← List.append_assoc]
    exact (Ro.new _ _ r).keep (fun q _ o h=>zC h) (Nat.le_refl _) (Nat.le_refl _)
 generalize hr7:r++(qG r.length++[AO.list [.ref (r.length+3+15)],.list [],.list (ys.map AV.int)])=r7 at L0
 obtain ⟨fr',h',ef,st⟩:=xG (t:=.many [6,7]) (src:=.enum (r.length+6+15)) (cf:=run T (n+8)) (xs:=ys.mapIdx fun i y=>AV.tup [.int (i:Int),.int y]) (body:=s10 okf) (St is (.str (tx cs)) hn (r.length+4) (r.length+5) (r.length+6,ys))
  (fun k fr h st=>by
   cases st with
   | mk L=>exact wn (show (Sh.hp _ _)[r.length+6+15]? = _ from L.y.1))
  (fun k x fr h st hx=>by
   rw [List.getElem?_mapIdx] at hx
   obtain ⟨y,hy,rfl⟩:=yC hx
   cases st with
   | mk L l0 lim zh =>
    obtain ⟨fr2,h2,e,st⟩:=zDw X (n:=n) (okf:=okf) (y:=y) L (Nat.le_of_lt (Nat.lt_of_lt_of_le (yL hy).1 (Nat.le_trans ly (by decide)))) (Int.lt_of_lt_of_le (by decide) hh1.1) hs l0 lim zh
    exact ⟨_,fr2,h2,rfl,e,st⟩)
  (.mk (v6:=none) (v7:=none) (v8:=none) (v9:=none) (v10:=none) (v11:=none) (v12:=none) (v13:=none) (v14:=none) (v15:=none) (v16:=none) (v17:=none) L0 (zc rfl) (fun _=>Nat.le_refl _) (Nat.le_refl _))
 rw [List.length_mapIdx] at ef
 have ecut:ZF (z5 0) (z7 (.int 3)) (z7 (.int 23)) (run T (n+8)) (F10 (.lst (is.map AV.int)) (.str (tx cs)) hn (r.length+4) (r.length+5) none none none none none none none none none none none none) (S.hp (r++(qG r.length++[AO.list [.ref (r.length+3+15)],.list []])))=.ok (.ref (r.length+6+15)) (S.hp r7):=by
  refine (z08 (z4 rfl) rfl rfl (z3z (qj (show okI 3=true from rfl)) (qj (show okI 23=true from rfl)) (by rw [List.length_map];exact Nat.le_trans hs (by decide)))).trans ?_
  have e1:ys.map AV.int=j4 (is.map AV.int) 3 (some 23):=by
   rw [← hys]
   show ((is.take 23).drop 3).map AV.int=((is.map AV.int).take 23).drop 3
   rw [List.map_drop,List.map_take]
  show Out.ok (AV.ref ((r++(qG r.length++[AO.list [.ref (r.length+3+15)],.list []])).length+15)) (S.hp (r++(qG r.length++[AO.list [.ref (r.length+3+15)],.list []])++[.list (j4 (is.map AV.int) 3 (some 23))]))=_
  rw [← e1,← hr7,lr,List.append_assoc];rfl
 have hsx:=qn (show (S.hp r7)[r.length+6+15]? = some (.list (ys.map AV.int)) from L0.y.1)
 rw [List.length_map] at hsx
 have s2:=zX (okf:=okf) (j:=2) (cf:=run T (n+8)) (h:=[o]) (fr:=[some (.lst (is.map AV.int)),some (.str (tx cs)),none,none,none,none,none,none,none,none,none,none,none,none,none,none,none,none]) (YO (x:=z7 (.int 1)) rfl (j7 (d:=9) (zu (n := "_law_cell_at") (ev1 (z4 (i:=0) rfl) (ev1 (x:=z7 (.int 2)) rfl ev0)) (c2 [o])) (by decide))) (zc rfl)
 rw [hhn] at s2
 have x4:zm [(zm [(zD (zB (some (.cls "Marks"))) [(z5 3)]),xn,(z7 (.int 0))])] (run T (n+8)) [some (.lst (is.map AV.int)),some (.str (tx cs)),some (.int hn),some (.ref 1),none,none,none,none,none,none,none,none,none,none,none,none,none,none] (S.hp r)=.ok (.ref (r.length+4+15)) (S.hp (r++(qG r.length++[.list [.ref (r.length+3+15)]]))):=by
  refine (yX (ev1 (Wc X (n:=n+7) (S:=S) (r:=r) rfl) ev0)).trans ?_
  show Out.ok (AV.ref ((r++qG r.length).length+15)) (S.hp (r++qG r.length++[AO.list [.ref (r.length+3+15)]]))=_
  rw [List.append_assoc,zU];rfl
 have x5:zm [] (run T (n+8)) [some (.lst (is.map AV.int)),some (.str (tx cs)),some (.int hn),some (.ref 1),some (.ref (r.length+4+15)),none,none,none,none,none,none,none,none,none,none,none,none,none] (S.hp (r++(qG r.length++[.list [.ref (r.length+3+15)]])))=.ok (.ref (r.length+5+15)) (S.hp (r++(qG r.length++[.list [.ref (r.length+3+15)],.list []]))):=by
  refine (yX ev0).trans ?_
  show Out.ok (AV.ref ((r++(qG r.length++[AO.list [.ref (r.length+3+15)]])).length+15)) (S.hp (r++(qG r.length++[AO.list [.ref (r.length+3+15)]])++[AO.list []]))=_
  rw [lr,List.append_assoc];rfl
 cases st with
 | mk L =>
 rename_i v6 v7 v8 v9 v10 v11 v12 v13 v14 v15 v16 v17 ad cs' hl S' mvs cus sg r' _ _ _
 have ez:=JH (S:=S') (r:=r') (cf:=run T (n+8)) (sc:=.lst (is.map AV.int)) (v1:=.str (tx cs)) (hn:=hn) (pq:=r.length+4) (v6:=v6) (v7:=v7) (v8:=v8) (v9:=v9) (v10:=v10) (v11:=v11) (v12:=v12) (v13:=v13) (v14:=v14) (v15:=v15) (v16:=v16) (v17:=v17) L.h (fun v hv=>let ⟨a,b,xs,e,p,q⟩:=L.hd v hv;⟨a,b,xs,e,p.1,q.1⟩)
 refine ⟨S'.hp (r'++[.list []]++[.list []]),zN (fr:=[some (.lst (is.map AV.int)),none,none,none,none,none,none,none,none,none,none,none,none,none,none,none,none,none]) rfl rfl (fr':=F10 (.lst (is.map AV.int)) (.str (tx cs)) hn (r.length+4) (r.length+5) v6 v7 v8 v9 v10 v11 v12 v13 v14 v15 v16 v17) ?_⟩
 refine (z6 (zX (j:=1) (zu (ev1 (zu (ev1 (z4 rfl) (ev1 rfl ev0)) (c1 [])) (ev1 (j7 (zu (ev1 (zu (ev1 (z4 rfl) (ev1 rfl ev0)) (c0 [])) ev0) es) (by decide)) ev0)) et) (zc rfl))).trans ((z6 s2).trans ((z6 (zX (j:=3) (z09 (ev1 (z4 rfl) (ev1 (z4 rfl) ev0)) ei) (zc rfl))).trans ((z6 (zX (j:=4) x4 (zc rfl))).trans ((z6 (zX (j:=5) x5 (zc rfl))).trans ((z6 (zE2 ecut hsx ef)).trans (zL (zd ?_)))))))
 exact X8 ez (yX ev0) (XR (l:=[]) (show (S'.hp (r'++[.list []]++[.list []]))[r'.length+15]? = _ from zC (zP _ _ [])) (show (S'.hp (r'++[.list []]++[.list []]))[(r'++[AO.list []]).length+15]? = _ from zP _ _ []))
end
end Mine.LS
end
section
noncomputable section
open PySem PySem.W PyProof.Rows
set_option maxRecDepth 1000000
set_option maxHeartbeats 8000000
namespace Mine.Hd
noncomputable abbrev prog:Program:=PySem.Challenge.rw_uf010039_09.prog
noncomputable def dk (P:Params) (x:Str) (t:Tok) (v:Value):DictEntry:=⟨PyData.keyHash P x,.str x t,v⟩
noncomputable def zH4 (j:Option Nat):Stmt→Option Stmt
 | .ClassDef _ _ _ b _ _ _ _ _ _ _=>j.bind fun j=>b[j]?
 | s=>some s
noncomputable def st (i:Nat) (j:Option Nat):Option Stmt:=(prog.main.body[i]?).bind (zH4 j)
noncomputable def mkF (s:Option Stmt) (q:Str) (g:Addr) (cl:List (Str×Addr)) (d kd doc pm:Value) (an:Option Addr) (cd ct:Value) (bl:Addr):FuncData:=match s with
 | some (.FunctionDef n a b _ _ _ sc _ _ _)=>⟨n,q,a,.stmts b,sc,g,cl,d,kd,doc,pm,an,cd,ct,bl⟩
 | _=>default
noncomputable def tu (xs:List Value):Obj:=⟨.type "tuple",none,.seq (Array.mk xs) 0,Array.mk []⟩
noncomputable def fi (xs:List Value):Obj:=⟨.none,none,.fields (Array.mk xs),Array.mk []⟩
noncomputable def co (xs:List Value):Obj:=⟨.type "code",none,.fields (Array.mk xs),Array.mk []⟩
noncomputable def fu (f:FuncData):Obj:=⟨.type "function",none,.func f,Array.mk []⟩
noncomputable def f0 (f:FuncData):Obj:=⟨.none,none,.func f,Array.mk []⟩
noncomputable def j (z:Int):Value:=.int z 0
noncomputable def o_3 (P:Params):Obj:=⟨(.type "dict"),none,(.dict (List.toArray [dk P "__name__" 165 (.str "law_uf010039_09" 832),dk P "__doc__" 166 .none,dk P "__package__" 167 .none,dk P "__loader__" 168 (.builtin "__main__.__loader__#opaque"),dk P "__spec__" 169 .none,dk P "__annotations__" 170 (.ref 6),dk P "__builtins__" 171 (.ref 4),dk P "__file__" 173 (.str "/claim/cut.py" 172),dk P "__cached__" 174 .none,dk P "_wall" 193 (.ref 21),dk P "StickError" 213 (.ref 31),dk P "BadText" 229 (.ref 44),dk P "NoPlace" 245 (.ref 56),dk P "NoSeat" 261 (.ref 68),dk P "NoHand" 277 (.ref 80),dk P "NoDeed" 293 (.ref 92),dk P "NoMark" 309 (.ref 104),dk P "is_whole" 318 (.ref 113),dk P "Row" 424 (.ref 196),dk P "Marks" 519 (.ref 269),dk P "LETTERS" 523 (.str " !\"#$&'()*+,-./0123456789:;<=>?@ABCDEFGHIJKLMNOPQRSTUVWXYZ[\\]^_`abcdefghijklmnopqrstuvwxyz{|}~\n" 522),dk P "MOST_HANDS" 525 (.int (9) 524),dk P "is_text" 531 (.ref 278),dk P "Sheet" 831 (.ref 499),dk P "_law_cell_at" 841 (.ref 510),dk P "_law_whole" 848 (.ref 517),dk P "_law_mixed" 857 (.ref 524),dk P "_law_text_by" 863 (.ref 529),dk P "_law_size_by" 870 (.ref 536),dk P "_law_fresh" 876 (.ref 541),dk P "_law_sits" 886 (.ref 548),dk P "_law_is_shown" 892 (.ref 553),dk P "_law_shown" 903 (.ref 560),dk P "_law_at" 912 (.ref 567),dk P "_law_deed" 918 (.ref 572),dk P "_law_deed_by" 932 (.ref 579),dk P "_law_do" 946 (.ref 586),dk P "_law_order" 957 (.ref 593),dk P "_law_stands" 963 (.ref 598),dk P "_law_is_gone" 972 (.ref 605),dk P "_law_not_stuck" 983 (.ref 612),dk P "_law_turned" 991 (.ref 619),dk P "law" 997 (.ref 624)]) 43),(Array.mk [])⟩
noncomputable def zG2:=tu []
noncomputable def zG1:=tu [(.str "k" 190)]
noncomputable def zG0:=tu []
noncomputable def zFz:=co [(.str "_wall" 187),(.str "_wall" 188),(.str "/claim/cut.py" 189),j 1,j 1,j 0,j 0,j 3,(.ref 15),(.bool true),j 181,(.ref 16),.none,(.ref 17),(.ref 18),(.ref 19),j 191,j 1,(.str "/claim/cut.py" 192)]
noncomputable def zFy:=fu (mkF (st 0 none) "_wall" 3 [] .none .none .none (.str "__main__" 164) none (.ref 20) .none 0)
noncomputable def zFx:=tu [(.type "ValueError")]
noncomputable def zFw:=tu []
noncomputable def zFv (P:Params):Obj:=⟨(.type "dict"),none,(.dict (List.toArray [dk P "__module__" 203 (.str "stickmarks.errors" 194),dk P "__firstlineno__" 207 (.int (5) 206),dk P "__static_attributes__" 208 (.ref 29),dk P "__weakref__" 210 (.ref 32),dk P "__doc__" 211 .none]) 3),(Array.mk [])⟩
noncomputable def zFu:Obj:=⟨(.type "type"),none,(.cls ⟨"StickError",[(.type "ValueError")],[(.ref 31),(.type "ValueError"),(.type "Exception"),(.type "BaseException"),(.type "object")],30, "StickError",true,[],[(.ref 44),(.ref 56),(.ref 68),(.ref 80),(.ref 92),(.ref 104)],false,none,false⟩),(Array.mk [some (.ref 22),none,some (.str "StickError" 196),some (.str "StickError" 204),some (.builtin "ValueError.__new__"),some (.bool true)])⟩
noncomputable def zFt:Obj:=⟨(.type "getset_descriptor"),none,(.fields (Array.mk [(.str "__weakref__" 209),(.ref 31),(.builtin "ExceptionGroup.__weakref__"),.none])),(Array.mk [])⟩
noncomputable def zFs:=tu [(.ref 31)]
noncomputable def zFr:=tu []
noncomputable def zFq (P:Params):Obj:=⟨(.type "dict"),none,(.dict (List.toArray [dk P "__module__" 221 (.str "stickmarks.errors" 194),dk P "__firstlineno__" 225 (.int (7) 224),dk P "__static_attributes__" 226 (.ref 42),dk P "__doc__" 227 .none]) 2),(Array.mk [])⟩
noncomputable def zFp:Obj:=⟨(.type "type"),none,(.cls ⟨"BadText",[(.ref 31)],[(.ref 44),(.ref 31),(.type "ValueError"),(.type "Exception"),(.type "BaseException"),(.type "object")],43, "BadText",true,[],[],false,none,false⟩),(Array.mk [some (.ref 35),none,some (.str "BadText" 214),some (.str "BadText" 222),some (.builtin "ValueError.__new__"),some (.bool true)])⟩
noncomputable def zFo:=tu [(.ref 31)]
noncomputable def zFn:=tu []
noncomputable def zFm (P:Params):Obj:=⟨(.type "dict"),none,(.dict (List.toArray [dk P "__module__" 237 (.str "stickmarks.errors" 194),dk P "__firstlineno__" 241 (.int (9) 240),dk P "__static_attributes__" 242 (.ref 54),dk P "__doc__" 243 .none]) 2),(Array.mk [])⟩
noncomputable def zFl:Obj:=⟨(.type "type"),none,(.cls ⟨"NoPlace",[(.ref 31)],[(.ref 56),(.ref 31),(.type "ValueError"),(.type "Exception"),(.type "BaseException"),(.type "object")],55, "NoPlace",true,[],[],false,none,false⟩),(Array.mk [some (.ref 47),none,some (.str "NoPlace" 230),some (.str "NoPlace" 238),some (.builtin "ValueError.__new__"),some (.bool true)])⟩
noncomputable def zFk:=tu [(.ref 31)]
noncomputable def zFj:=tu []
noncomputable def zFi (P:Params):Obj:=⟨(.type "dict"),none,(.dict (List.toArray [dk P "__module__" 253 (.str "stickmarks.errors" 194),dk P "__firstlineno__" 257 (.int (11) 256),dk P "__static_attributes__" 258 (.ref 66),dk P "__doc__" 259 .none]) 2),(Array.mk [])⟩
noncomputable def zFh:Obj:=⟨(.type "type"),none,(.cls ⟨"NoSeat",[(.ref 31)],[(.ref 68),(.ref 31),(.type "ValueError"),(.type "Exception"),(.type "BaseException"),(.type "object")],67, "NoSeat",true,[],[],false,none,false⟩),(Array.mk [some (.ref 59),none,some (.str "NoSeat" 246),some (.str "NoSeat" 254),some (.builtin "ValueError.__new__"),some (.bool true)])⟩
noncomputable def zFg:=tu [(.ref 31)]
noncomputable def zFf:=tu []
noncomputable def zFe (P:Params):Obj:=⟨(.type "dict"),none,(.dict (List.toArray [dk P "__module__" 269 (.str "stickmarks.errors" 194),dk P "__firstlineno__" 273 (.int (13) 272),dk P "__static_attributes__" 274 (.ref 78),dk P "__doc__" 275 .none]) 2),(Array.mk [])⟩
noncomputable def zFd:Obj:=⟨(.type "type"),none,(.cls ⟨"NoHand",[(.ref 31)],[(.ref 80),(.ref 31),(.type "ValueError"),(.type "Exception"),(.type "BaseException"),(.type "object")],79, "NoHand",true,[],[],false,none,false⟩),(Array.mk [some (.ref 71),none,some (.str "NoHand" 262),some (.str "NoHand" 270),some (.builtin "ValueError.__new__"),some (.bool true)])⟩
noncomputable def zFc:=tu [(.ref 31)]
noncomputable def zFb:=tu []
noncomputable def zFa (P:Params):Obj:=⟨(.type "dict"),none,(.dict (List.toArray [dk P "__module__" 285 (.str "stickmarks.errors" 194),dk P "__firstlineno__" 289 (.int (15) 288),dk P "__static_attributes__" 290 (.ref 90),dk P "__doc__" 291 .none]) 2),(Array.mk [])⟩
noncomputable def zF9:Obj:=⟨(.type "type"),none,(.cls ⟨"NoDeed",[(.ref 31)],[(.ref 92),(.ref 31),(.type "ValueError"),(.type "Exception"),(.type "BaseException"),(.type "object")],91, "NoDeed",true,[],[],false,none,false⟩),(Array.mk [some (.ref 83),none,some (.str "NoDeed" 278),some (.str "NoDeed" 286),some (.builtin "ValueError.__new__"),some (.bool true)])⟩
noncomputable def zF8:=tu [(.ref 31)]
noncomputable def zDh:=tu []
noncomputable def zDg (P:Params):Obj:=⟨(.type "dict"),none,(.dict (List.toArray [dk P "__module__" 301 (.str "stickmarks.errors" 194),dk P "__firstlineno__" 305 (.int (17) 304),dk P "__static_attributes__" 306 (.ref 102),dk P "__doc__" 307 .none]) 2),(Array.mk [])⟩
noncomputable def zDf:Obj:=⟨(.type "type"),none,(.cls ⟨"NoMark",[(.ref 31)],[(.ref 104),(.ref 31),(.type "ValueError"),(.type "Exception"),(.type "BaseException"),(.type "object")],103, "NoMark",true,[],[],false,none,false⟩),(Array.mk [some (.ref 95),none,some (.str "NoMark" 294),some (.str "NoMark" 302),some (.builtin "ValueError.__new__"),some (.bool true)])⟩
noncomputable def zDe:=tu []
noncomputable def zDd:=tu [(.str "thing" 315)]
noncomputable def zDc:=tu []
noncomputable def zDb:=co [(.str "is_whole" 312),(.str "is_whole" 313),(.str "/claim/cut.py" 314),j 20,j 1,j 0,j 0,j 3,(.ref 107),(.bool true),j 181,(.ref 108),.none,(.ref 109),(.ref 110),(.ref 111),j 316,j 20,(.str "/claim/cut.py" 317)]
noncomputable def zDa:=fu (mkF (st 10 none) "is_whole" 3 [] .none .none .none (.str "stickmarks.seats" 310) none (.ref 112) .none 0)
noncomputable def zD9:=tu []
noncomputable def zD8:=tu [(.str "self" 334)]
noncomputable def zD7:=tu []
noncomputable def zD6:=co [(.str "__init__" 331),(.str "Row.__init__" 332),(.str "/claim/cut.py" 333),j 24,j 1,j 0,j 0,j 3,(.ref 121),(.bool true),j 181,(.ref 122),.none,(.ref 123),(.ref 124),(.ref 125),j 335,j 24,(.str "/claim/cut.py" 336)]
noncomputable def zD5:=fu (mkF (st 11 (some 0)) "Row.__init__" 3 [] .none .none .none (.str "stickmarks.seats" 310) none (.ref 126) .none 0)
noncomputable def zD4:=tu []
noncomputable def zD3:=tu [(.str "self" 341),(.str "seat" 342)]
noncomputable def zD2:=tu []
noncomputable def zD1:=co [(.str "need_seat" 338),(.str "Row.need_seat" 339),(.str "/claim/cut.py" 340),j 28,j 2,j 0,j 0,j 3,(.ref 128),(.bool true),j 181,(.ref 129),.none,(.ref 130),(.ref 131),(.ref 132),j 343,j 28,(.str "/claim/cut.py" 344)]
noncomputable def zD0:=fu (mkF (st 11 (some 1)) "Row.need_seat" 3 [] .none .none .none (.str "stickmarks.seats" 310) none (.ref 133) .none 0)
noncomputable def zCz:=tu []
noncomputable def zCy:=tu [(.str "self" 349),(.str "behind" 350),(.str "at" 351),(.str "seat" 352)]
noncomputable def zCx:=tu []
noncomputable def zCw:=co [(.str "add" 346),(.str "Row.add" 347),(.str "/claim/cut.py" 348),j 32,j 2,j 0,j 0,j 3,(.ref 135),(.bool true),j 181,(.ref 136),.none,(.ref 137),(.ref 138),(.ref 139),j 353,j 32,(.str "/claim/cut.py" 354)]
noncomputable def zCv:=fu (mkF (st 11 (some 2)) "Row.add" 3 [] .none .none .none (.str "stickmarks.seats" 310) none (.ref 140) .none 0)
noncomputable def zCu:=tu []
noncomputable def zCt:=tu [(.str "self" 359),(.str "seat" 360),(.str "is_taken" 361)]
noncomputable def zCs:=tu []
noncomputable def zCr:=co [(.str "take" 356),(.str "Row.take" 357),(.str "/claim/cut.py" 358),j 42,j 3,j 0,j 0,j 3,(.ref 142),(.bool true),j 181,(.ref 143),.none,(.ref 144),(.ref 145),(.ref 146),j 362,j 42,(.str "/claim/cut.py" 363)]
noncomputable def zCq:=fu (mkF (st 11 (some 3)) "Row.take" 3 [] .none .none .none (.str "stickmarks.seats" 310) none (.ref 147) .none 0)
noncomputable def zCp:=tu []
noncomputable def zCo:=tu [(.str "self" 368),(.str "seat" 369)]
noncomputable def zCn:=tu []
noncomputable def zCm:=co [(.str "is_taken" 365),(.str "Row.is_taken" 366),(.str "/claim/cut.py" 367),j 46,j 2,j 0,j 0,j 3,(.ref 149),(.bool true),j 181,(.ref 150),.none,(.ref 151),(.ref 152),(.ref 153),j 370,j 46,(.str "/claim/cut.py" 371)]
noncomputable def zCl:=fu (mkF (st 11 (some 4)) "Row.is_taken" 3 [] .none .none .none (.str "stickmarks.seats" 310) none (.ref 154) .none 0)
noncomputable def zCk:=tu []
noncomputable def zCj:=tu [(.str "self" 376)]
noncomputable def zCi:=tu []
noncomputable def zCh:=co [(.str "many" 373),(.str "Row.many" 374),(.str "/claim/cut.py" 375),j 50,j 1,j 0,j 0,j 3,(.ref 156),(.bool true),j 181,(.ref 157),.none,(.ref 158),(.ref 159),(.ref 160),j 377,j 50,(.str "/claim/cut.py" 378)]
noncomputable def zCg:=fu (mkF (st 11 (some 5)) "Row.many" 3 [] .none .none .none (.str "stickmarks.seats" 310) none (.ref 161) .none 0)
noncomputable def zCf:=tu []
noncomputable def zCe:=tu [(.str "self" 383)]
noncomputable def zCd:=tu []
noncomputable def zCc:=co [(.str "all_taken" 380),(.str "Row.all_taken" 381),(.str "/claim/cut.py" 382),j 53,j 1,j 0,j 0,j 3,(.ref 163),(.bool true),j 181,(.ref 164),.none,(.ref 165),(.ref 166),(.ref 167),j 384,j 53,(.str "/claim/cut.py" 385)]
noncomputable def zCb:=fu (mkF (st 11 (some 6)) "Row.all_taken" 3 [] .none .none .none (.str "stickmarks.seats" 310) none (.ref 168) .none 0)
noncomputable def zCa:=tu []
noncomputable def zC9:=co [(.str "ahead" 387),(.str "Row.ahead" 388),(.str "/claim/cut.py" 389),j 56,j 2,j 0,j 0,j 3,(.ref 170),(.bool true),j 181,(.ref 171),.none,.none,.none,(.ref 172),j 390,j 56,(.str "/claim/cut.py" 391)]
noncomputable def zC8:=fu (mkF (st 11 (some 7)) "Row.ahead" 3 [] .none .none .none (.str "stickmarks.seats" 310) none (.ref 173) .none 0)
noncomputable def zC7:=tu []
noncomputable def zC6:=co [(.str "find" 393),(.str "Row.find" 394),(.str "/claim/cut.py" 395),j 61,j 2,j 0,j 0,j 3,(.ref 175),(.bool true),j 181,(.ref 176),.none,.none,.none,(.ref 177),j 396,j 61,(.str "/claim/cut.py" 397)]
noncomputable def zC5:=fu (mkF (st 11 (some 8)) "Row.find" 3 [] .none .none .none (.str "stickmarks.seats" 310) none (.ref 178) .none 0)
noncomputable def zC4:=tu []
noncomputable def zC3:=tu [(.str "self" 402),(.str "one" 403),(.str "other" 404)]
noncomputable def zC2:=tu []
noncomputable def zC1:=co [(.str "is_ahead" 399),(.str "Row.is_ahead" 400),(.str "/claim/cut.py" 401),j 67,j 3,j 0,j 0,j 3,(.ref 180),(.bool true),j 181,(.ref 181),.none,(.ref 182),(.ref 183),(.ref 184),j 405,j 67,(.str "/claim/cut.py" 406)]
noncomputable def zC0:=fu (mkF (st 11 (some 9)) "Row.is_ahead" 3 [] .none .none .none (.str "stickmarks.seats" 310) none (.ref 185) .none 0)
noncomputable def zBz:=tu []
noncomputable def zBy:=tu [(.str "self" 411)]
noncomputable def zBx:=tu []
noncomputable def zBw:=co [(.str "order" 408),(.str "Row.order" 409),(.str "/claim/cut.py" 410),j 72,j 1,j 0,j 0,j 3,(.ref 187),(.bool true),j 181,(.ref 188),.none,(.ref 189),(.ref 190),(.ref 191),j 412,j 72,(.str "/claim/cut.py" 413)]
noncomputable def zBv:=fu (mkF (st 11 (some 10)) "Row.order" 3 [] .none .none .none (.str "stickmarks.seats" 310) none (.ref 192) .none 0)
noncomputable def zBu:=tu [(.str "flags" 415),(.str "line" 416)]
noncomputable def zBt (P:Params):Obj:=⟨(.type "dict"),none,(.dict (List.toArray [dk P "__module__" 326 (.str "stickmarks.seats" 310),dk P "__firstlineno__" 330 (.int (22) 329),dk P "__init__" 337 (.ref 127),dk P "need_seat" 345 (.ref 134),dk P "add" 355 (.ref 141),dk P "take" 364 (.ref 148),dk P "is_taken" 372 (.ref 155),dk P "many" 379 (.ref 162),dk P "all_taken" 386 (.ref 169),dk P "ahead" 392 (.ref 174),dk P "find" 398 (.ref 179),dk P "is_ahead" 407 (.ref 186),dk P "order" 414 (.ref 193),dk P "__static_attributes__" 417 (.ref 194),dk P "__dict__" 419 (.ref 197),dk P "__weakref__" 421 (.ref 198),dk P "__doc__" 422 .none]) 4),(Array.mk [])⟩
noncomputable def zBs:Obj:=⟨(.type "type"),none,(.cls ⟨"Row",[(.type "object")],[(.ref 196),(.type "object")],195, "Row",true,[],[],false,none,false⟩),(Array.mk [none,none,some (.str "Row" 319),some (.str "Row" 327),some (.builtin "object.__new__"),some (.bool true)])⟩
noncomputable def zBr:Obj:=⟨(.type "getset_descriptor"),none,(.fields (Array.mk [(.str "__dict__" 418),(.ref 196),(.builtin "function.__dict__"),(.builtin "function.__dict__#set")])),(Array.mk [])⟩
noncomputable def zBq:Obj:=⟨(.type "getset_descriptor"),none,(.fields (Array.mk [(.str "__weakref__" 420),(.ref 196),(.builtin "ExceptionGroup.__weakref__"),.none])),(Array.mk [])⟩
noncomputable def zBp:=tu []
noncomputable def zBo:=tu [(.str "self" 442),(.str "sheet" 443)]
noncomputable def zBn:=tu []
noncomputable def zBm:=co [(.str "__init__" 439),(.str "Marks.__init__" 440),(.str "/claim/cut.py" 441),j 77,j 2,j 0,j 0,j 3,(.ref 208),(.bool true),j 181,(.ref 209),.none,(.ref 210),(.ref 211),(.ref 212),j 444,j 77,(.str "/claim/cut.py" 445)]
noncomputable def zBl:=fu (mkF (st 13 (some 0)) "Marks.__init__" 3 [] .none .none .none (.str "stickmarks.marks" 425) none (.ref 213) .none 0)
noncomputable def zBk:=tu []
noncomputable def zBj:=tu [(.str "self" 450),(.str "number" 451)]
noncomputable def zBi:=tu []
noncomputable def zBh:=co [(.str "need_mark" 447),(.str "Marks.need_mark" 448),(.str "/claim/cut.py" 449),j 82,j 2,j 0,j 0,j 3,(.ref 215),(.bool true),j 181,(.ref 216),.none,(.ref 217),(.ref 218),(.ref 219),j 452,j 82,(.str "/claim/cut.py" 453)]
noncomputable def zBg:=fu (mkF (st 13 (some 1)) "Marks.need_mark" 3 [] .none .none .none (.str "stickmarks.marks" 425) none (.ref 220) .none 0)
noncomputable def zBf:=tu []
noncomputable def zBe:=tu [(.str "self" 458),(.str "hand" 459),(.str "place" 460),(.str "sign" 461),(.str "number" 462)]
noncomputable def zBd:=tu []
noncomputable def zBc:=co [(.str "stick" 455),(.str "Marks.stick" 456),(.str "/claim/cut.py" 457),j 86,j 3,j 0,j 0,j 3,(.ref 222),(.bool true),j 181,(.ref 223),.none,(.ref 224),(.ref 225),(.ref 226),j 463,j 86,(.str "/claim/cut.py" 464)]
noncomputable def zBb:=fu (mkF (st 13 (some 2)) "Marks.stick" 3 [] .none .none .none (.str "stickmarks.marks" 425) none (.ref 227) .none 0)
noncomputable def zBa:=tu []
noncomputable def zB9:=tu [(.str "self" 469),(.str "number" 470)]
noncomputable def zB8:=tu []
noncomputable def zB7:=co [(.str "drop" 466),(.str "Marks.drop" 467),(.str "/claim/cut.py" 468),j 94,j 2,j 0,j 0,j 3,(.ref 229),(.bool true),j 181,(.ref 230),.none,(.ref 231),(.ref 232),(.ref 233),j 471,j 94,(.str "/claim/cut.py" 472)]
noncomputable def zB6:=fu (mkF (st 13 (some 3)) "Marks.drop" 3 [] .none .none .none (.str "stickmarks.marks" 425) none (.ref 234) .none 0)
noncomputable def zB5:=tu []
noncomputable def zB4:=tu [(.str "self" 477),(.str "number" 478)]
noncomputable def zB3:=tu []
noncomputable def zB2:=co [(.str "sign" 474),(.str "Marks.sign" 475),(.str "/claim/cut.py" 476),j 98,j 2,j 0,j 0,j 3,(.ref 236),(.bool true),j 181,(.ref 237),.none,(.ref 238),(.ref 239),(.ref 240),j 479,j 98,(.str "/claim/cut.py" 480)]
noncomputable def zB1:=fu (mkF (st 13 (some 4)) "Marks.sign" 3 [] .none .none .none (.str "stickmarks.marks" 425) none (.ref 241) .none 0)
noncomputable def zB0:=tu []
noncomputable def zAz:=tu [(.str "self" 485),(.str "number" 486)]
noncomputable def zAy:=tu []
noncomputable def zAx:=co [(.str "told" 482),(.str "Marks.told" 483),(.str "/claim/cut.py" 484),j 102,j 2,j 0,j 0,j 3,(.ref 243),(.bool true),j 181,(.ref 244),.none,(.ref 245),(.ref 246),(.ref 247),j 487,j 102,(.str "/claim/cut.py" 488)]
noncomputable def zAw:=fu (mkF (st 13 (some 5)) "Marks.told" 3 [] .none .none .none (.str "stickmarks.marks" 425) none (.ref 248) .none 0)
noncomputable def zAv:=tu []
noncomputable def zAu:=tu [(.str "self" 493)]
noncomputable def zAt:=tu []
noncomputable def zAs:=co [(.str "numbers" 490),(.str "Marks.numbers" 491),(.str "/claim/cut.py" 492),j 105,j 1,j 0,j 0,j 3,(.ref 250),(.bool true),j 181,(.ref 251),.none,(.ref 252),(.ref 253),(.ref 254),j 494,j 105,(.str "/claim/cut.py" 495)]
noncomputable def zAr:=fu (mkF (st 13 (some 6)) "Marks.numbers" 3 [] .none .none .none (.str "stickmarks.marks" 425) none (.ref 255) .none 0)
noncomputable def zAq:=tu []
noncomputable def zAp:=co [(.str "of" 497),(.str "Marks.of" 498),(.str "/claim/cut.py" 499),j 108,j 2,j 0,j 0,j 3,(.ref 257),(.bool true),j 181,(.ref 258),.none,.none,.none,(.ref 259),j 500,j 108,(.str "/claim/cut.py" 501)]
noncomputable def zAo:=fu (mkF (st 13 (some 7)) "Marks.of" 3 [] .none .none .none (.str "stickmarks.marks" 425) none (.ref 260) .none 0)
noncomputable def zAn:=tu []
noncomputable def zAm:=co [(.str "order" 503),(.str "Marks.order" 504),(.str "/claim/cut.py" 505),j 112,j 1,j 0,j 0,j 3,(.ref 262),(.bool true),j 181,(.ref 263),.none,.none,.none,(.ref 264),j 506,j 112,(.str "/claim/cut.py" 507)]
noncomputable def zAl:=fu (mkF (st 13 (some 8)) "Marks.order" 3 [] .none .none .none (.str "stickmarks.marks" 425) none (.ref 265) .none 0)
noncomputable def zAk:=tu [(.str "coming" 509),(.str "kept" 510),(.str "sheet" 511)]
noncomputable def zAj (P:Params):Obj:=⟨(.type "dict"),none,(.dict (List.toArray [dk P "__module__" 434 (.str "stickmarks.marks" 425),dk P "__firstlineno__" 438 (.int (75) 437),dk P "__init__" 446 (.ref 214),dk P "need_mark" 454 (.ref 221),dk P "stick" 465 (.ref 228),dk P "drop" 473 (.ref 235),dk P "sign" 481 (.ref 242),dk P "told" 489 (.ref 249),dk P "numbers" 496 (.ref 256),dk P "of" 502 (.ref 261),dk P "order" 508 (.ref 266),dk P "__static_attributes__" 512 (.ref 267),dk P "__dict__" 514 (.ref 270),dk P "__weakref__" 516 (.ref 271),dk P "__doc__" 517 .none]) 4),(Array.mk [])⟩
noncomputable def zAi:Obj:=⟨(.type "type"),none,(.cls ⟨"Marks",[(.type "object")],[(.ref 269),(.type "object")],268, "Marks",true,[],[],false,none,false⟩),(Array.mk [none,none,some (.str "Marks" 427),some (.str "Marks" 435),some (.builtin "object.__new__"),some (.bool true)])⟩
noncomputable def zAh:Obj:=⟨(.type "getset_descriptor"),none,(.fields (Array.mk [(.str "__dict__" 513),(.ref 269),(.builtin "function.__dict__"),(.builtin "function.__dict__#set")])),(Array.mk [])⟩
noncomputable def zAg:Obj:=⟨(.type "getset_descriptor"),none,(.fields (Array.mk [(.str "__weakref__" 515),(.ref 269),(.builtin "ExceptionGroup.__weakref__"),.none])),(Array.mk [])⟩
noncomputable def zAf:=tu []
noncomputable def zAe:=co [(.str "is_text" 526),(.str "is_text" 527),(.str "/claim/cut.py" 528),j 118,j 1,j 0,j 0,j 3,(.ref 274),(.bool true),j 181,(.ref 275),.none,.none,.none,(.ref 276),j 529,j 118,(.str "/claim/cut.py" 530)]
noncomputable def zAd:=fu (mkF (st 17 none) "is_text" 3 [] .none .none .none (.str "stickmarks.sheet" 520) none (.ref 277) .none 0)
noncomputable def zAc:=tu []
noncomputable def zAb:=tu [(.str "self" 547),(.str "text" 548),(.str "hands" 549)]
noncomputable def zAa:=tu []
noncomputable def zA9:=co [(.str "__init__" 544),(.str "Sheet.__init__" 545),(.str "/claim/cut.py" 546),j 122,j 3,j 0,j 0,j 3,(.ref 286),(.bool true),j 181,(.ref 287),.none,(.ref 288),(.ref 289),(.ref 290),j 550,j 122,(.str "/claim/cut.py" 551)]
noncomputable def zA8:=fu (mkF (st 18 (some 0)) "Sheet.__init__" 3 [] .none .none .none (.str "stickmarks.sheet" 520) none (.ref 291) .none 0)
noncomputable def zA7:=tu []
noncomputable def zA6:=tu [(.str "self" 556),(.str "text" 557),(.str "behind" 558),(.str "deed" 559),(.str "found" 560),(.str "letter" 561)]
noncomputable def zA5:=tu []
noncomputable def zA4:=co [(.str "bring" 553),(.str "Sheet.bring" 554),(.str "/claim/cut.py" 555),j 140,j 4,j 0,j 0,j 3,(.ref 293),(.bool true),j 181,(.ref 294),.none,(.ref 295),(.ref 296),(.ref 297),j 562,j 140,(.str "/claim/cut.py" 563)]
noncomputable def zA3:=fu (mkF (st 18 (some 1)) "Sheet.bring" 3 [] .none .none .none (.str "stickmarks.sheet" 520) none (.ref 298) .none 0)
noncomputable def zA2:=tu []
noncomputable def zA1:=tu [(.str "self" 568),(.str "hand" 569)]
noncomputable def zA0:=tu []
noncomputable def z9z:=co [(.str "need_hand" 565),(.str "Sheet.need_hand" 566),(.str "/claim/cut.py" 567),j 154,j 2,j 0,j 0,j 3,(.ref 300),(.bool true),j 181,(.ref 301),.none,(.ref 302),(.ref 303),(.ref 304),j 570,j 154,(.str "/claim/cut.py" 571)]
noncomputable def z9y:=fu (mkF (st 18 (some 2)) "Sheet.need_hand" 3 [] .none .none .none (.str "stickmarks.sheet" 520) none (.ref 305) .none 0)
noncomputable def z9x:=tu []
noncomputable def z9w:=tu [(.str "self" 576),(.str "sign" 577)]
noncomputable def z9v:=tu []
noncomputable def z9u:=co [(.str "need_sign" 573),(.str "Sheet.need_sign" 574),(.str "/claim/cut.py" 575),j 158,j 2,j 0,j 0,j 3,(.ref 307),(.bool true),j 181,(.ref 308),.none,(.ref 309),(.ref 310),(.ref 311),j 578,j 158,(.str "/claim/cut.py" 579)]
noncomputable def z9t:=fu (mkF (st 18 (some 3)) "Sheet.need_sign" 3 [] .none .none .none (.str "stickmarks.sheet" 520) none (.ref 312) .none 0)
noncomputable def z9s:=tu []
noncomputable def z9r:=tu [(.str "self" 584),(.str "place" 585)]
noncomputable def z9q:=tu []
noncomputable def z9p:=co [(.str "need_place" 581),(.str "Sheet.need_place" 582),(.str "/claim/cut.py" 583),j 162,j 2,j 0,j 0,j 3,(.ref 314),(.bool true),j 181,(.ref 315),.none,(.ref 316),(.ref 317),(.ref 318),j 586,j 162,(.str "/claim/cut.py" 587)]
noncomputable def z9o:=fu (mkF (st 18 (some 4)) "Sheet.need_place" 3 [] .none .none .none (.str "stickmarks.sheet" 520) none (.ref 319) .none 0)
noncomputable def z9n:=tu []
noncomputable def z9m:=tu [(.str "self" 592),(.str "begin" 593),(.str "end" 594)]
noncomputable def z9l:=tu []
noncomputable def z9k:=co [(.str "need_stretch" 589),(.str "Sheet.need_stretch" 590),(.str "/claim/cut.py" 591),j 166,j 3,j 0,j 0,j 3,(.ref 321),(.bool true),j 181,(.ref 322),.none,(.ref 323),(.ref 324),(.ref 325),j 595,j 166,(.str "/claim/cut.py" 596)]
noncomputable def z9j:=fu (mkF (st 18 (some 5)) "Sheet.need_stretch" 3 [] .none .none .none (.str "stickmarks.sheet" 520) none (.ref 326) .none 0)
noncomputable def z9i:=tu []
noncomputable def z9h:=tu [(.str "self" 601),(.str "number" 602)]
noncomputable def z9g:=tu []
noncomputable def z9f:=co [(.str "need_deed" 598),(.str "Sheet.need_deed" 599),(.str "/claim/cut.py" 600),j 172,j 2,j 0,j 0,j 3,(.ref 328),(.bool true),j 181,(.ref 329),.none,(.ref 330),(.ref 331),(.ref 332),j 603,j 172,(.str "/claim/cut.py" 604)]
noncomputable def z9e:=fu (mkF (st 18 (some 6)) "Sheet.need_deed" 3 [] .none .none .none (.str "stickmarks.sheet" 520) none (.ref 333) .none 0)
noncomputable def z9d:=tu []
noncomputable def z9c:=tu [(.str "self" 609),(.str "sign" 610),(.str "seat" 611),(.str "deed" 612),(.str "other" 613)]
noncomputable def z9b:=tu []
noncomputable def z9a:=co [(.str "seat_of" 606),(.str "Sheet.seat_of" 607),(.str "/claim/cut.py" 608),j 176,j 2,j 0,j 0,j 3,(.ref 335),(.bool true),j 181,(.ref 336),.none,(.ref 337),(.ref 338),(.ref 339),j 614,j 176,(.str "/claim/cut.py" 615)]
noncomputable def z99:=fu (mkF (st 18 (some 7)) "Sheet.seat_of" 3 [] .none .none .none (.str "stickmarks.sheet" 520) none (.ref 340) .none 0)
noncomputable def z98:=tu []
noncomputable def z97:=co [(.str "is_shown" 617),(.str "Sheet.is_shown" 618),(.str "/claim/cut.py" 619),j 183,j 2,j 0,j 0,j 3,(.ref 342),(.bool true),j 181,(.ref 343),.none,.none,.none,(.ref 344),j 620,j 183,(.str "/claim/cut.py" 621)]
noncomputable def z96:=fu (mkF (st 18 (some 8)) "Sheet.is_shown" 3 [] .none .none .none (.str "stickmarks.sheet" 520) none (.ref 345) .none 0)
noncomputable def z95:=tu []
noncomputable def z94:=tu [(.str "self" 626),(.str "signs" 627),(.str "sign" 628),(.str "deed" 629),(.str "seat" 630)]
noncomputable def z93:=tu []
noncomputable def z92:=co [(.str "seated" 623),(.str "Sheet.seated" 624),(.str "/claim/cut.py" 625),j 189,j 2,j 0,j 0,j 3,(.ref 347),(.bool true),j 181,(.ref 348),.none,(.ref 349),(.ref 350),(.ref 351),j 631,j 189,(.str "/claim/cut.py" 632)]
noncomputable def z91:=fu (mkF (st 18 (some 9)) "Sheet.seated" 3 [] .none .none .none (.str "stickmarks.sheet" 520) none (.ref 352) .none 0)
noncomputable def z90:=tu []
noncomputable def z8z:=tu [(.str "self" 637)]
noncomputable def z8y:=tu []
noncomputable def z8x:=co [(.str "size" 634),(.str "Sheet.size" 635),(.str "/claim/cut.py" 636),j 197,j 1,j 0,j 0,j 3,(.ref 354),(.bool true),j 181,(.ref 355),.none,(.ref 356),(.ref 357),(.ref 358),j 638,j 197,(.str "/claim/cut.py" 639)]
noncomputable def z8w:=fu (mkF (st 18 (some 10)) "Sheet.size" 3 [] .none .none .none (.str "stickmarks.sheet" 520) none (.ref 359) .none 0)
noncomputable def z8v:=tu []
noncomputable def z8u:=co [(.str "shown" 641),(.str "Sheet.shown" 642),(.str "/claim/cut.py" 643),j 200,j 1,j 0,j 0,j 3,(.ref 361),(.bool true),j 181,(.ref 362),.none,.none,.none,(.ref 363),j 644,j 200,(.str "/claim/cut.py" 645)]
noncomputable def z8t:=fu (mkF (st 18 (some 11)) "Sheet.shown" 3 [] .none .none .none (.str "stickmarks.sheet" 520) none (.ref 364) .none 0)
noncomputable def z8s:=tu []
noncomputable def z8r:=co [(.str "text" 647),(.str "Sheet.text" 648),(.str "/claim/cut.py" 649),j 203,j 1,j 0,j 0,j 3,(.ref 366),(.bool true),j 181,(.ref 367),.none,.none,.none,(.ref 368),j 650,j 203,(.str "/claim/cut.py" 651)]
noncomputable def z8q:=fu (mkF (st 18 (some 12)) "Sheet.text" 3 [] .none .none .none (.str "stickmarks.sheet" 520) none (.ref 369) .none 0)
noncomputable def z8p:=tu []
noncomputable def z8o:=tu [(.str "self" 656)]
noncomputable def z8n:=tu []
noncomputable def z8m:=co [(.str "many" 653),(.str "Sheet.many" 654),(.str "/claim/cut.py" 655),j 206,j 1,j 0,j 0,j 3,(.ref 371),(.bool true),j 181,(.ref 372),.none,(.ref 373),(.ref 374),(.ref 375),j 657,j 206,(.str "/claim/cut.py" 658)]
noncomputable def z8l:=fu (mkF (st 18 (some 13)) "Sheet.many" 3 [] .none .none .none (.str "stickmarks.sheet" 520) none (.ref 376) .none 0)
noncomputable def z8k:=tu []
noncomputable def z8j:=tu [(.str "self" 663),(.str "sign" 664)]
noncomputable def z8i:=tu []
noncomputable def z8h:=co [(.str "letter" 660),(.str "Sheet.letter" 661),(.str "/claim/cut.py" 662),j 209,j 2,j 0,j 0,j 3,(.ref 378),(.bool true),j 181,(.ref 379),.none,(.ref 380),(.ref 381),(.ref 382),j 665,j 209,(.str "/claim/cut.py" 666)]
noncomputable def z8g:=fu (mkF (st 18 (some 14)) "Sheet.letter" 3 [] .none .none .none (.str "stickmarks.sheet" 520) none (.ref 383) .none 0)
noncomputable def z8f:=tu []
noncomputable def z8e:=tu [(.str "self" 671),(.str "place" 672)]
noncomputable def z8d:=tu []
noncomputable def z8c:=co [(.str "sign_at" 668),(.str "Sheet.sign_at" 669),(.str "/claim/cut.py" 670),j 213,j 2,j 0,j 0,j 3,(.ref 385),(.bool true),j 181,(.ref 386),.none,(.ref 387),(.ref 388),(.ref 389),j 673,j 213,(.str "/claim/cut.py" 674)]
noncomputable def z8b:=fu (mkF (st 18 (some 15)) "Sheet.sign_at" 3 [] .none .none .none (.str "stickmarks.sheet" 520) none (.ref 390) .none 0)
noncomputable def z8a:=tu []
noncomputable def z89:=tu [(.str "self" 679),(.str "sign" 680)]
noncomputable def z88:=tu []
noncomputable def z87:=co [(.str "place_of" 676),(.str "Sheet.place_of" 677),(.str "/claim/cut.py" 678),j 216,j 2,j 0,j 0,j 3,(.ref 392),(.bool true),j 181,(.ref 393),.none,(.ref 394),(.ref 395),(.ref 396),j 681,j 216,(.str "/claim/cut.py" 682)]
noncomputable def z86:=fu (mkF (st 18 (some 16)) "Sheet.place_of" 3 [] .none .none .none (.str "stickmarks.sheet" 520) none (.ref 397) .none 0)
noncomputable def z85:=tu []
noncomputable def z84:=tu [(.str "self" 687),(.str "one" 688),(.str "other" 689)]
noncomputable def z83:=tu []
noncomputable def z82:=co [(.str "is_ahead" 684),(.str "Sheet.is_ahead" 685),(.str "/claim/cut.py" 686),j 220,j 3,j 0,j 0,j 3,(.ref 399),(.bool true),j 181,(.ref 400),.none,(.ref 401),(.ref 402),(.ref 403),j 690,j 220,(.str "/claim/cut.py" 691)]
noncomputable def z81:=fu (mkF (st 18 (some 17)) "Sheet.is_ahead" 3 [] .none .none .none (.str "stickmarks.sheet" 520) none (.ref 404) .none 0)
noncomputable def z80:=tu []
noncomputable def z7z:=tu [(.str "self" 696),(.str "sign" 697)]
noncomputable def z7y:=tu []
noncomputable def z7x:=co [(.str "rank_of" 693),(.str "Sheet.rank_of" 694),(.str "/claim/cut.py" 695),j 225,j 2,j 0,j 0,j 3,(.ref 406),(.bool true),j 181,(.ref 407),.none,(.ref 408),(.ref 409),(.ref 410),j 698,j 225,(.str "/claim/cut.py" 699)]
noncomputable def z7w:=fu (mkF (st 18 (some 18)) "Sheet.rank_of" 3 [] .none .none .none (.str "stickmarks.sheet" 520) none (.ref 411) .none 0)
noncomputable def z7v:=tu []
noncomputable def z7u:=tu [(.str "self" 704),(.str "place" 705)]
noncomputable def z7t:=tu []
noncomputable def z7s:=co [(.str "seat_ahead" 701),(.str "Sheet.seat_ahead" 702),(.str "/claim/cut.py" 703),j 229,j 2,j 0,j 0,j 3,(.ref 413),(.bool true),j 181,(.ref 414),.none,(.ref 415),(.ref 416),(.ref 417),j 706,j 229,(.str "/claim/cut.py" 707)]
noncomputable def z7r:=fu (mkF (st 18 (some 19)) "Sheet.seat_ahead" 3 [] .none .none .none (.str "stickmarks.sheet" 520) none (.ref 418) .none 0)
noncomputable def z7q:=tu []
noncomputable def z7p:=tu [(.str "self" 712),(.str "hand" 713),(.str "word" 714),(.str "signs" 715)]
noncomputable def z7o:=tu []
noncomputable def z7n:=co [(.str "noted" 709),(.str "Sheet.noted" 710),(.str "/claim/cut.py" 711),j 234,j 4,j 0,j 0,j 3,(.ref 420),(.bool true),j 181,(.ref 421),.none,(.ref 422),(.ref 423),(.ref 424),j 716,j 234,(.str "/claim/cut.py" 717)]
noncomputable def z7m:=fu (mkF (st 18 (some 20)) "Sheet.noted" 3 [] .none .none .none (.str "stickmarks.sheet" 520) none (.ref 425) .none 0)
noncomputable def z7l:=tu []
noncomputable def z7k:=tu [(.str "self" 722),(.str "hand" 723),(.str "place" 724),(.str "text" 725)]
noncomputable def z7j:=tu []
noncomputable def z7i:=co [(.str "put" 719),(.str "Sheet.put" 720),(.str "/claim/cut.py" 721),j 239,j 4,j 0,j 0,j 3,(.ref 427),(.bool true),j 181,(.ref 428),.none,(.ref 429),(.ref 430),(.ref 431),j 726,j 239,(.str "/claim/cut.py" 727)]
noncomputable def z7h:=fu (mkF (st 18 (some 21)) "Sheet.put" 3 [] .none .none .none (.str "stickmarks.sheet" 520) none (.ref 432) .none 0)
noncomputable def z7g:=tu []
noncomputable def z7f:=tu [(.str "self" 732),(.str "hand" 733),(.str "begin" 734),(.str "end" 735),(.str "signs" 736),(.str "sign" 737)]
noncomputable def z7e:=tu []
noncomputable def z7d:=co [(.str "cut" 729),(.str "Sheet.cut" 730),(.str "/claim/cut.py" 731),j 247,j 4,j 0,j 0,j 3,(.ref 434),(.bool true),j 181,(.ref 435),.none,(.ref 436),(.ref 437),(.ref 438),j 738,j 247,(.str "/claim/cut.py" 739)]
noncomputable def z7c:=fu (mkF (st 18 (some 22)) "Sheet.cut" 3 [] .none .none .none (.str "stickmarks.sheet" 520) none (.ref 439) .none 0)
noncomputable def z7b:=tu []
noncomputable def z7a:=tu [(.str "self" 744),(.str "hand" 745),(.str "begin" 746),(.str "end" 747),(.str "place" 748),(.str "signs" 749),(.str "behind" 750),(.str "sign" 751)]
noncomputable def z79:=tu []
noncomputable def z78:=co [(.str "move" 741),(.str "Sheet.move" 742),(.str "/claim/cut.py" 743),j 256,j 5,j 0,j 0,j 3,(.ref 441),(.bool true),j 181,(.ref 442),.none,(.ref 443),(.ref 444),(.ref 445),j 752,j 256,(.str "/claim/cut.py" 753)]
noncomputable def z77:=fu (mkF (st 18 (some 23)) "Sheet.move" 3 [] .none .none .none (.str "stickmarks.sheet" 520) none (.ref 446) .none 0)
noncomputable def z76:=tu []
noncomputable def z75:=tu [(.str "self" 758)]
noncomputable def z74:=tu []
noncomputable def z73:=co [(.str "deeds" 755),(.str "Sheet.deeds" 756),(.str "/claim/cut.py" 757),j 271,j 1,j 0,j 0,j 3,(.ref 448),(.bool true),j 181,(.ref 449),.none,(.ref 450),(.ref 451),(.ref 452),j 759,j 271,(.str "/claim/cut.py" 760)]
noncomputable def z72:=fu (mkF (st 18 (some 24)) "Sheet.deeds" 3 [] .none .none .none (.str "stickmarks.sheet" 520) none (.ref 453) .none 0)
noncomputable def z71:=tu []
noncomputable def z70:=tu [(.str "self" 765),(.str "number" 766),(.str "hand" 767),(.str "word" 768),(.str "signs" 769)]
noncomputable def z6z:=tu []
noncomputable def z6y:=co [(.str "deed" 762),(.str "Sheet.deed" 763),(.str "/claim/cut.py" 764),j 274,j 2,j 0,j 0,j 3,(.ref 455),(.bool true),j 181,(.ref 456),.none,(.ref 457),(.ref 458),(.ref 459),j 770,j 274,(.str "/claim/cut.py" 771)]
noncomputable def z6x:=fu (mkF (st 18 (some 25)) "Sheet.deed" 3 [] .none .none .none (.str "stickmarks.sheet" 520) none (.ref 460) .none 0)
noncomputable def z6w:=tu []
noncomputable def z6v:=tu [(.str "self" 776),(.str "number" 777)]
noncomputable def z6u:=tu []
noncomputable def z6t:=co [(.str "stands" 773),(.str "Sheet.stands" 774),(.str "/claim/cut.py" 775),j 279,j 2,j 0,j 0,j 3,(.ref 462),(.bool true),j 181,(.ref 463),.none,(.ref 464),(.ref 465),(.ref 466),j 778,j 279,(.str "/claim/cut.py" 779)]
noncomputable def z6s:=fu (mkF (st 18 (some 26)) "Sheet.stands" 3 [] .none .none .none (.str "stickmarks.sheet" 520) none (.ref 467) .none 0)
noncomputable def z6r:=tu []
noncomputable def z6q:=tu [(.str "self" 784),(.str "number" 785)]
noncomputable def z6p:=tu []
noncomputable def z6o:=co [(.str "take_back" 781),(.str "Sheet.take_back" 782),(.str "/claim/cut.py" 783),j 283,j 2,j 0,j 0,j 3,(.ref 469),(.bool true),j 181,(.ref 470),.none,(.ref 471),(.ref 472),(.ref 473),j 786,j 283,(.str "/claim/cut.py" 787)]
noncomputable def z6n:=fu (mkF (st 18 (some 27)) "Sheet.take_back" 3 [] .none .none .none (.str "stickmarks.sheet" 520) none (.ref 474) .none 0)
noncomputable def z6m:=tu []
noncomputable def z6l:=tu [(.str "self" 792),(.str "number" 793)]
noncomputable def z6k:=tu []
noncomputable def z6j:=co [(.str "do_again" 789),(.str "Sheet.do_again" 790),(.str "/claim/cut.py" 791),j 290,j 2,j 0,j 0,j 3,(.ref 476),(.bool true),j 181,(.ref 477),.none,(.ref 478),(.ref 479),(.ref 480),j 794,j 290,(.str "/claim/cut.py" 795)]
noncomputable def z6i:=fu (mkF (st 18 (some 28)) "Sheet.do_again" 3 [] .none .none .none (.str "stickmarks.sheet" 520) none (.ref 481) .none 0)
noncomputable def z6h:=tu []
noncomputable def z6g:=tu [(.str "self" 800),(.str "hand" 801)]
noncomputable def z6f:=tu []
noncomputable def z6e:=co [(.str "last_standing" 797),(.str "Sheet.last_standing" 798),(.str "/claim/cut.py" 799),j 297,j 2,j 0,j 0,j 3,(.ref 483),(.bool true),j 181,(.ref 484),.none,(.ref 485),(.ref 486),(.ref 487),j 802,j 297,(.str "/claim/cut.py" 803)]
noncomputable def z6d:=fu (mkF (st 18 (some 29)) "Sheet.last_standing" 3 [] .none .none .none (.str "stickmarks.sheet" 520) none (.ref 488) .none 0)
noncomputable def z6c:=tu []
noncomputable def z6b:=tu [(.str "self" 808),(.str "hand" 809)]
noncomputable def z6a:=tu []
noncomputable def z69:=co [(.str "last_gone" 805),(.str "Sheet.last_gone" 806),(.str "/claim/cut.py" 807),j 300,j 2,j 0,j 0,j 3,(.ref 490),(.bool true),j 181,(.ref 491),.none,(.ref 492),(.ref 493),(.ref 494),j 810,j 300,(.str "/claim/cut.py" 811)]
noncomputable def z68:=fu (mkF (st 18 (some 30)) "Sheet.last_gone" 3 [] .none .none .none (.str "stickmarks.sheet" 520) none (.ref 495) .none 0)
noncomputable def z67:=tu [(.str "bringers" 813),(.str "cutters" 814),(.str "done" 815),(.str "firsts" 816),(.str "hands" 817),(.str "letters" 818),(.str "lost" 819),(.str "moved" 820),(.str "owners" 821),(.str "row" 822),(.str "standing" 823)]
noncomputable def z66 (P:Params):Obj:=⟨(.type "dict"),none,(.dict (List.toArray [dk P "__module__" 539 (.str "stickmarks.sheet" 520),dk P "__firstlineno__" 543 (.int (120) 542),dk P "__init__" 552 (.ref 292),dk P "bring" 564 (.ref 299),dk P "need_hand" 572 (.ref 306),dk P "need_sign" 580 (.ref 313),dk P "need_place" 588 (.ref 320),dk P "need_stretch" 597 (.ref 327),dk P "need_deed" 605 (.ref 334),dk P "seat_of" 616 (.ref 341),dk P "is_shown" 622 (.ref 346),dk P "seated" 633 (.ref 353),dk P "size" 640 (.ref 360),dk P "shown" 646 (.ref 365),dk P "text" 652 (.ref 370),dk P "many" 659 (.ref 377),dk P "letter" 667 (.ref 384),dk P "sign_at" 675 (.ref 391),dk P "place_of" 683 (.ref 398),dk P "is_ahead" 692 (.ref 405),dk P "rank_of" 700 (.ref 412),dk P "seat_ahead" 708 (.ref 419),dk P "noted" 718 (.ref 426),dk P "put" 728 (.ref 433),dk P "cut" 740 (.ref 440),dk P "move" 754 (.ref 447),dk P "deeds" 761 (.ref 454),dk P "deed" 772 (.ref 461),dk P "stands" 780 (.ref 468),dk P "take_back" 788 (.ref 475),dk P "do_again" 796 (.ref 482),dk P "last_standing" 804 (.ref 489),dk P "last_gone" 812 (.ref 496),dk P "__static_attributes__" 824 (.ref 497),dk P "__dict__" 826 (.ref 500),dk P "__weakref__" 828 (.ref 501),dk P "__doc__" 829 .none]) 4),(Array.mk [])⟩
noncomputable def z65:Obj:=⟨(.type "type"),none,(.cls ⟨"Sheet",[(.type "object")],[(.ref 499),(.type "object")],498, "Sheet",true,[],[],false,none,false⟩),(Array.mk [none,none,some (.str "Sheet" 532),some (.str "Sheet" 540),some (.builtin "object.__new__"),some (.bool true)])⟩
noncomputable def z63:Obj:=⟨(.type "getset_descriptor"),none,(.fields (Array.mk [(.str "__dict__" 825),(.ref 499),(.builtin "function.__dict__"),(.builtin "function.__dict__#set")])),(Array.mk [])⟩
noncomputable def z62:Obj:=⟨(.type "getset_descriptor"),none,(.fields (Array.mk [(.str "__weakref__" 827),(.ref 499),(.builtin "ExceptionGroup.__weakref__"),.none])),(Array.mk [])⟩
noncomputable def z61:=tu []
noncomputable def z60:=tu [(.str "_law_script" 837),(.str "_law_k" 838)]
noncomputable def z5z:=tu []
noncomputable def z5y:=co [(.str "_law_cell_at" 834),(.str "_law_cell_at" 835),(.str "/claim/cut.py" 836),j 303,j 2,j 0,j 0,j 3,(.ref 504),(.bool true),j 181,(.ref 505),.none,(.ref 506),(.ref 507),(.ref 508),j 839,j 303,(.str "/claim/cut.py" 840)]
noncomputable def z5x:=fu (mkF (st 20 none) "_law_cell_at" 3 [] .none .none .none (.str "law_uf010039_09" 832) none (.ref 509) .none 0)
noncomputable def z5w:=tu []
noncomputable def z5v:=tu [(.str "_law_found" 845)]
noncomputable def z5u:=tu []
noncomputable def z5t:=co [(.str "_law_whole" 842),(.str "_law_whole" 843),(.str "/claim/cut.py" 844),j 307,j 1,j 0,j 0,j 3,(.ref 511),(.bool true),j 181,(.ref 512),.none,(.ref 513),(.ref 514),(.ref 515),j 846,j 307,(.str "/claim/cut.py" 847)]
noncomputable def z5s:=fu (mkF (st 21 none) "_law_whole" 3 [] .none .none .none (.str "law_uf010039_09" 832) none (.ref 516) .none 0)
noncomputable def z5r:=tu []
noncomputable def z5q:=tu [(.str "_law_cell" 852),(.str "_law_k" 853),(.str "_law_number" 854)]
noncomputable def z5p:=tu []
noncomputable def z5o:=co [(.str "_law_mixed" 849),(.str "_law_mixed" 850),(.str "/claim/cut.py" 851),j 309,j 2,j 0,j 0,j 3,(.ref 518),(.bool true),j 181,(.ref 519),.none,(.ref 520),(.ref 521),(.ref 522),j 855,j 309,(.str "/claim/cut.py" 856)]
noncomputable def z5n:=fu (mkF (st 22 none) "_law_mixed" 3 [] .none .none .none (.str "law_uf010039_09" 832) none (.ref 523) .none 0)
noncomputable def z5m:=tu []
noncomputable def z5l:=co [(.str "_law_text_by" 858),(.str "_law_text_by" 859),(.str "/claim/cut.py" 860),j 312,j 2,j 0,j 0,j 3,(.ref 525),(.bool true),j 181,(.ref 526),.none,.none,.none,(.ref 527),j 861,j 312,(.str "/claim/cut.py" 862)]
noncomputable def z5k:=fu (mkF (st 23 none) "_law_text_by" 3 [] .none .none .none (.str "law_uf010039_09" 832) none (.ref 528) .none 0)
noncomputable def z5j:=tu []
noncomputable def z5i:=tu [(.str "_law_cell" 867)]
noncomputable def z5h:=tu []
noncomputable def z5g:=co [(.str "_law_size_by" 864),(.str "_law_size_by" 865),(.str "/claim/cut.py" 866),j 316,j 1,j 0,j 0,j 3,(.ref 530),(.bool true),j 181,(.ref 531),.none,(.ref 532),(.ref 533),(.ref 534),j 868,j 316,(.str "/claim/cut.py" 869)]
noncomputable def z5f:=fu (mkF (st 24 none) "_law_size_by" 3 [] .none .none .none (.str "law_uf010039_09" 832) none (.ref 535) .none 0)
noncomputable def z5e:=tu []
noncomputable def z5d:=tu [(.str "_law_number" 922),(.str "_law_size" 923),(.str "_law_hands" 924),(.str "_law_hand" 925),(.str "_law_kind" 926),(.str "_law_begin" 927),(.str "_law_end" 928),(.str "_law_place" 929)]
noncomputable def z5c:=tu []
noncomputable def z5b:=co [(.str "_law_deed_by" 919),(.str "_law_deed_by" 920),(.str "/claim/cut.py" 921),j 368,j 3,j 0,j 0,j 3,(.ref 573),(.bool true),j 181,(.ref 574),.none,(.ref 575),(.ref 576),(.ref 577),j 930,j 368,(.str "/claim/cut.py" 931)]
noncomputable def z5a:=fu (mkF (st 31 none) "_law_deed_by" 3 [] .none .none .none (.str "law_uf010039_09" 832) none (.ref 578) .none 0)
noncomputable def z59:=tu []
noncomputable def z58:=tu [(.str "_law_sheet" 936),(.str "_law_deed_here" 937),(.str "_law_hand" 938),(.str "_law_word" 939),(.str "_law_begin" 940),(.str "_law_end" 941),(.str "_law_place" 942),(.str "_law_text" 943)]
noncomputable def z57:=tu []
noncomputable def z56:=co [(.str "_law_do" 933),(.str "_law_do" 934),(.str "/claim/cut.py" 935),j 381,j 2,j 0,j 0,j 3,(.ref 580),(.bool true),j 181,(.ref 581),.none,(.ref 582),(.ref 583),(.ref 584),j 944,j 381,(.str "/claim/cut.py" 945)]
noncomputable def z55:=fu (mkF (st 32 none) "_law_do" 3 [] .none .none .none (.str "law_uf010039_09" 832) none (.ref 585) .none 0)
noncomputable def z54:=tu []
noncomputable def z53:=tu [(.str "_law_sheet" 950),(.str "_law_pins" 951),(.str "_law_found" 952),(.str "_law_number" 953),(.str "_law_at_here" 954)]
noncomputable def z52:=tu []
noncomputable def z51:=co [(.str "_law_order" 947),(.str "_law_order" 948),(.str "/claim/cut.py" 949),j 388,j 2,j 0,j 0,j 3,(.ref 587),(.bool true),j 181,(.ref 588),.none,(.ref 589),(.ref 590),(.ref 591),j 955,j 388,(.str "/claim/cut.py" 956)]
noncomputable def z50:=fu (mkF (st 33 none) "_law_order" 3 [] .none .none .none (.str "law_uf010039_09" 832) none (.ref 592) .none 0)
noncomputable def z4z:=tu []
noncomputable def z4y:=co [(.str "_law_stands" 958),(.str "_law_stands" 959),(.str "/claim/cut.py" 960),j 396,j 5,j 0,j 0,j 3,(.ref 594),(.bool true),j 181,(.ref 595),.none,.none,.none,(.ref 596),j 961,j 396,(.str "/claim/cut.py" 962)]
noncomputable def z4x:=fu (mkF (st 34 none) "_law_stands" 3 [] .none .none .none (.str "law_uf010039_09" 832) none (.ref 597) .none 0)
noncomputable def z4w:=tu []
noncomputable def z4v:=tu [(.str "_law_marks" 967),(.str "_law_number" 968),(.str "_law_way" 969)]
noncomputable def z4u:=tu []
noncomputable def z4t:=co [(.str "_law_is_gone" 964),(.str "_law_is_gone" 965),(.str "/claim/cut.py" 966),j 421,j 2,j 0,j 0,j 3,(.ref 599),(.bool true),j 181,(.ref 600),.none,(.ref 601),(.ref 602),(.ref 603),j 970,j 421,(.str "/claim/cut.py" 971)]
noncomputable def z4s:=fu (mkF (st 35 none) "_law_is_gone" 3 [] .none .none .none (.str "law_uf010039_09" 832) none (.ref 604) .none 0)
noncomputable def z4r:=tu []
noncomputable def z4q:=tu [(.str "_law_marks" 976),(.str "_law_size" 977),(.str "_law_hands" 978),(.str "_law_hand" 979),(.str "_law_place" 980)]
noncomputable def z4p:=tu []
noncomputable def z4o:=co [(.str "_law_not_stuck" 973),(.str "_law_not_stuck" 974),(.str "/claim/cut.py" 975),j 434,j 3,j 0,j 0,j 3,(.ref 606),(.bool true),j 181,(.ref 607),.none,(.ref 608),(.ref 609),(.ref 610),j 981,j 434,(.str "/claim/cut.py" 982)]
noncomputable def z4n:=fu (mkF (st 36 none) "_law_not_stuck" 3 [] .none .none .none (.str "law_uf010039_09" 832) none (.ref 611) .none 0)
noncomputable def z4m:=tu []
noncomputable def z4l:=tu [(.str "_law_sheet" 987),(.str "_law_number" 988)]
noncomputable def z4k:=tu []
noncomputable def z4j:=co [(.str "_law_turned" 984),(.str "_law_turned" 985),(.str "/claim/cut.py" 986),j 446,j 2,j 0,j 0,j 3,(.ref 613),(.bool true),j 181,(.ref 614),.none,(.ref 615),(.ref 616),(.ref 617),j 989,j 446,(.str "/claim/cut.py" 990)]
noncomputable def z4i:=fu (mkF (st 37 none) "_law_turned" 3 [] .none .none .none (.str "law_uf010039_09" 832) none (.ref 618) .none 0)
noncomputable def z4h:=tu []
noncomputable def z4g:=co [(.str "law" 992),(.str "law" 993),(.str "/claim/cut.py" 994),j 451,j 1,j 0,j 0,j 3,(.ref 620),(.bool true),j 181,(.ref 621),.none,.none,.none,(.ref 622),j 995,j 451,(.str "/claim/cut.py" 996)]
noncomputable def z4f:=fu (mkF (st 38 none) "law" 3 [] .none .none .none (.str "law_uf010039_09" 832) none (.ref 623) .none 0)
noncomputable def H1 (P:Params):Heap:=⟨⟨[boot_o_0 P,boot_o_1 P,boot_o_2 P,o_3 P,boot_o_4 P,boot_o_5 P,boot_o_6 P,boot_o_7 P,boot_o_8 P,boot_o_9 P,boot_o_10 P,tu [],fi [j 1,j 0,(.ref 20),j 5,j 0,(.ref 27),j 7,j 0,(.ref 40),j 9,j 0,(.ref 52),j 11,j 0,(.ref 64),j 13,j 0,(.ref 76),j 15,j 0,(.ref 88),j 17,j 0,(.ref 100),j 20,j 0,(.ref 112),j 22,j 0,(.ref 119),j 75,j 0,(.ref 206),j 118,j 0,(.ref 277),j 120,j 0,(.ref 284),j 303,j 0,(.ref 509),j 307,j 0,(.ref 516),j 309,j 0,(.ref 523),j 312,j 0,(.ref 528),j 316,j 0,(.ref 535),j 320,j 0,(.ref 540),j 324,j 0,(.ref 547),j 331,j 0,(.ref 552),j 335,j 0,(.ref 559),j 342,j 0,(.ref 566),j 347,j 0,(.ref 571),j 368,j 0,(.ref 578),j 381,j 0,(.ref 585),j 388,j 0,(.ref 592),j 396,j 0,(.ref 597),j 421,j 0,(.ref 604),j 434,j 0,(.ref 611),j 446,j 0,(.ref 618),j 451,j 0,(.ref 623)],co [(.str "<module>" 182),(.str "<module>" 183),(.str "/claim/cut.py" 184),j 1,j 0,j 0,j 0,j 0,(.ref 11),(.bool false),j 181,(.ref 12),.none,.none,.none,.none,j 185,j 1,(.str "/claim/cut.py" 186)],⟨(.type "frame"),none,.plain,(Array.mk [some (.ref 13),some (.ref 3),some (.ref 3),none,some (.str "__main__" 164),none,some (.ref 0)])⟩,zG2,fi [],zG1,zG0,f0 (mkF (st 0 none) "_wall" 0 [] .none .none .none .none none .none .none 0),zFz,zFy,zFx,⟨(.type "builtin_function_or_method"),none,(.fields (Array.mk [(.builtin "type.__prepare__"),(.type "type")])),(Array.mk [])⟩,⟨(.type "dict"),none,(.dict (List.toArray [dk P "__module__" 203 (.str "stickmarks.errors" 194),dk P "__qualname__" 205 (.str "StickError" 204),dk P "__firstlineno__" 207 (.int (5) 206),dk P "__static_attributes__" 208 (.ref 29)]) 4),(Array.mk [])⟩,tu [],fi [],co [(.str "StickError" 198),(.str "StickError" 199),(.str "/claim/cut.py" 200),j 5,j 0,j 0,j 0,j 0,(.ref 25),(.bool false),j 181,(.ref 26),.none,.none,.none,.none,j 201,j 5,(.str "/claim/cut.py" 202)],⟨(.type "frame"),none,.plain,(Array.mk [some (.ref 27),some (.ref 3),some (.ref 24),none,some (.str "stickmarks.errors" 194),none,some (.ref 0)])⟩,zFw,zFv P,zFu,zFt,⟨(.type "super"),none,(.fields (Array.mk [(.ref 31),(.ref 31),(.ref 31)])),(Array.mk [])⟩,⟨(.type "builtin_function_or_method"),none,(.fields (Array.mk [(.builtin "object.__init_subclass__"),(.ref 31)])),(Array.mk [])⟩,zFs,⟨(.type "builtin_function_or_method"),none,(.fields (Array.mk [(.builtin "type.__prepare__"),(.type "type")])),(Array.mk [])⟩,⟨(.type "dict"),none,(.dict (List.toArray [dk P "__module__" 221 (.str "stickmarks.errors" 194),dk P "__qualname__" 223 (.str "BadText" 222),dk P "__firstlineno__" 225 (.int (7) 224),dk P "__static_attributes__" 226 (.ref 42)]) 4),(Array.mk [])⟩,tu [],fi [],co [(.str "BadText" 216),(.str "BadText" 217),(.str "/claim/cut.py" 218),j 7,j 0,j 0,j 0,j 0,(.ref 38),(.bool false),j 181,(.ref 39),.none,.none,.none,.none,j 219,j 7,(.str "/claim/cut.py" 220)],⟨(.type "frame"),none,.plain,(Array.mk [some (.ref 40),some (.ref 3),some (.ref 37),none,some (.str "stickmarks.errors" 194),none,some (.ref 0)])⟩,zFr,zFq P,zFp,⟨(.type "super"),none,(.fields (Array.mk [(.ref 44),(.ref 44),(.ref 44)])),(Array.mk [])⟩,⟨(.type "builtin_function_or_method"),none,(.fields (Array.mk [(.builtin "object.__init_subclass__"),(.ref 44)])),(Array.mk [])⟩,zFo,⟨(.type "builtin_function_or_method"),none,(.fields (Array.mk [(.builtin "type.__prepare__"),(.type "type")])),(Array.mk [])⟩,⟨(.type "dict"),none,(.dict (List.toArray [dk P "__module__" 237 (.str "stickmarks.errors" 194),dk P "__qualname__" 239 (.str "NoPlace" 238),dk P "__firstlineno__" 241 (.int (9) 240),dk P "__static_attributes__" 242 (.ref 54)]) 4),(Array.mk [])⟩,tu [],fi [],co [(.str "NoPlace" 232),(.str "NoPlace" 233),(.str "/claim/cut.py" 234),j 9,j 0,j 0,j 0,j 0,(.ref 50),(.bool false),j 181,(.ref 51),.none,.none,.none,.none,j 235,j 9,(.str "/claim/cut.py" 236)],⟨(.type "frame"),none,.plain,(Array.mk [some (.ref 52),some (.ref 3),some (.ref 49),none,some (.str "stickmarks.errors" 194),none,some (.ref 0)])⟩,zFn,zFm P,zFl,⟨(.type "super"),none,(.fields (Array.mk [(.ref 56),(.ref 56),(.ref 56)])),(Array.mk [])⟩,⟨(.type "builtin_function_or_method"),none,(.fields (Array.mk [(.builtin "object.__init_subclass__"),(.ref 56)])),(Array.mk [])⟩,zFk,⟨(.type "builtin_function_or_method"),none,(.fields (Array.mk [(.builtin "type.__prepare__"),(.type "type")])),(Array.mk [])⟩,⟨(.type "dict"),none,(.dict (List.toArray [dk P "__module__" 253 (.str "stickmarks.errors" 194),dk P "__qualname__" 255 (.str "NoSeat" 254),dk P "__firstlineno__" 257 (.int (11) 256),dk P "__static_attributes__" 258 (.ref 66)]) 4),(Array.mk [])⟩,tu [],fi [],co [(.str "NoSeat" 248),(.str "NoSeat" 249),(.str "/claim/cut.py" 250),j 11,j 0,j 0,j 0,j 0,(.ref 62),(.bool false),j 181,(.ref 63),.none,.none,.none,.none,j 251,j 11,(.str "/claim/cut.py" 252)],⟨(.type "frame"),none,.plain,(Array.mk [some (.ref 64),some (.ref 3),some (.ref 61),none,some (.str "stickmarks.errors" 194),none,some (.ref 0)])⟩,zFj,zFi P,zFh,⟨(.type "super"),none,(.fields (Array.mk [(.ref 68),(.ref 68),(.ref 68)])),(Array.mk [])⟩,⟨(.type "builtin_function_or_method"),none,(.fields (Array.mk [(.builtin "object.__init_subclass__"),(.ref 68)])),(Array.mk [])⟩,zFg,⟨(.type "builtin_function_or_method"),none,(.fields (Array.mk [(.builtin "type.__prepare__"),(.type "type")])),(Array.mk [])⟩,⟨(.type "dict"),none,(.dict (List.toArray [dk P "__module__" 269 (.str "stickmarks.errors" 194),dk P "__qualname__" 271 (.str "NoHand" 270),dk P "__firstlineno__" 273 (.int (13) 272),dk P "__static_attributes__" 274 (.ref 78)]) 4),(Array.mk [])⟩,tu [],fi [],co [(.str "NoHand" 264),(.str "NoHand" 265),(.str "/claim/cut.py" 266),j 13,j 0,j 0,j 0,j 0,(.ref 74),(.bool false),j 181,(.ref 75),.none,.none,.none,.none,j 267,j 13,(.str "/claim/cut.py" 268)],⟨(.type "frame"),none,.plain,(Array.mk [some (.ref 76),some (.ref 3),some (.ref 73),none,some (.str "stickmarks.errors" 194),none,some (.ref 0)])⟩,zFf,zFe P,zFd,⟨(.type "super"),none,(.fields (Array.mk [(.ref 80),(.ref 80),(.ref 80)])),(Array.mk [])⟩,⟨(.type "builtin_function_or_method"),none,(.fields (Array.mk [(.builtin "object.__init_subclass__"),(.ref 80)])),(Array.mk [])⟩,zFc,⟨(.type "builtin_function_or_method"),none,(.fields (Array.mk [(.builtin "type.__prepare__"),(.type "type")])),(Array.mk [])⟩,⟨(.type "dict"),none,(.dict (List.toArray [dk P "__module__" 285 (.str "stickmarks.errors" 194),dk P "__qualname__" 287 (.str "NoDeed" 286),dk P "__firstlineno__" 289 (.int (15) 288),dk P "__static_attributes__" 290 (.ref 90)]) 4),(Array.mk [])⟩,tu [],fi [],co [(.str "NoDeed" 280),(.str "NoDeed" 281),(.str "/claim/cut.py" 282),j 15,j 0,j 0,j 0,j 0,(.ref 86),(.bool false),j 181,(.ref 87),.none,.none,.none,.none,j 283,j 15,(.str "/claim/cut.py" 284)],⟨(.type "frame"),none,.plain,(Array.mk [some (.ref 88),some (.ref 3),some (.ref 85),none,some (.str "stickmarks.errors" 194),none,some (.ref 0)])⟩,zFb,zFa P,zF9,⟨(.type "super"),none,(.fields (Array.mk [(.ref 92),(.ref 92),(.ref 92)])),(Array.mk [])⟩,⟨(.type "builtin_function_or_method"),none,(.fields (Array.mk [(.builtin "object.__init_subclass__"),(.ref 92)])),(Array.mk [])⟩,zF8,⟨(.type "builtin_function_or_method"),none,(.fields (Array.mk [(.builtin "type.__prepare__"),(.type "type")])),(Array.mk [])⟩,⟨(.type "dict"),none,(.dict (List.toArray [dk P "__module__" 301 (.str "stickmarks.errors" 194),dk P "__qualname__" 303 (.str "NoMark" 302),dk P "__firstlineno__" 305 (.int (17) 304),dk P "__static_attributes__" 306 (.ref 102)]) 4),(Array.mk [])⟩,tu [],fi [],co [(.str "NoMark" 296),(.str "NoMark" 297),(.str "/claim/cut.py" 298),j 17,j 0,j 0,j 0,j 0,(.ref 98),(.bool false),j 181,(.ref 99),.none,.none,.none,.none,j 299,j 17,(.str "/claim/cut.py" 300)],⟨(.type "frame"),none,.plain,(Array.mk [some (.ref 100),some (.ref 3),some (.ref 97),none,some (.str "stickmarks.errors" 194),none,some (.ref 0)])⟩,zDh,zDg P,zDf,⟨(.type "super"),none,(.fields (Array.mk [(.ref 104),(.ref 104),(.ref 104)])),(Array.mk [])⟩,⟨(.type "builtin_function_or_method"),none,(.fields (Array.mk [(.builtin "object.__init_subclass__"),(.ref 104)])),(Array.mk [])⟩,zDe,fi [],zDd,zDc,f0 (mkF (st 10 none) "is_whole" 0 [] .none .none .none .none none .none .none 0),zDb,zDa,tu [],⟨(.type "builtin_function_or_method"),none,(.fields (Array.mk [(.builtin "type.__prepare__"),(.type "type")])),(Array.mk [])⟩,⟨(.type "dict"),none,(.dict (List.toArray [dk P "__module__" 326 (.str "stickmarks.seats" 310),dk P "__qualname__" 328 (.str "Row" 327),dk P "__firstlineno__" 330 (.int (22) 329),dk P "__init__" 337 (.ref 127),dk P "need_seat" 345 (.ref 134),dk P "add" 355 (.ref 141),dk P "take" 364 (.ref 148),dk P "is_taken" 372 (.ref 155),dk P "many" 379 (.ref 162),dk P "all_taken" 386 (.ref 169),dk P "ahead" 392 (.ref 174),dk P "find" 398 (.ref 179),dk P "is_ahead" 407 (.ref 186),dk P "order" 414 (.ref 193),dk P "__static_attributes__" 417 (.ref 194)]) 15),(Array.mk [])⟩,tu [],fi [j 24,j 4,(.ref 126),j 28,j 4,(.ref 133),j 32,j 4,(.ref 140),j 42,j 4,(.ref 147),j 46,j 4,(.ref 154),j 50,j 4,(.ref 161),j 53,j 4,(.ref 168),j 56,j 4,(.ref 173),j 61,j 4,(.ref 178),j 67,j 4,(.ref 185),j 72,j 4,(.ref 192)],co [(.str "Row" 321),(.str "Row" 322),(.str "/claim/cut.py" 323),j 22,j 0,j 0,j 0,j 0,(.ref 117),(.bool false),j 181,(.ref 118),.none,.none,.none,.none,j 324,j 22,(.str "/claim/cut.py" 325)],⟨(.type "frame"),none,.plain,(Array.mk [some (.ref 119),some (.ref 3),some (.ref 116),none,some (.str "stickmarks.seats" 310),none,some (.ref 0)])⟩,zD9,fi [],zD8,zD7,f0 (mkF (st 11 (some 0)) "Row.__init__" 0 [] .none .none .none .none none .none .none 0),zD6,zD5,zD4,fi [],zD3,zD2,f0 (mkF (st 11 (some 1)) "Row.need_seat" 0 [] .none .none .none .none none .none .none 0),zD1,zD0,zCz,fi [],zCy,zCx,f0 (mkF (st 11 (some 2)) "Row.add" 0 [] .none .none .none .none none .none .none 0),zCw,zCv,zCu,fi [],zCt,zCs,f0 (mkF (st 11 (some 3)) "Row.take" 0 [] .none .none .none .none none .none .none 0),zCr,zCq,zCp,fi [],zCo,zCn,f0 (mkF (st 11 (some 4)) "Row.is_taken" 0 [] .none .none .none .none none .none .none 0),zCm,zCl,zCk,fi [],zCj,zCi,f0 (mkF (st 11 (some 5)) "Row.many" 0 [] .none .none .none .none none .none .none 0),zCh,zCg,zCf,fi [],zCe,zCd,f0 (mkF (st 11 (some 6)) "Row.all_taken" 0 [] .none .none .none .none none .none .none 0),zCc,zCb,zCa,fi [],f0 (mkF (st 11 (some 7)) "Row.ahead" 0 [] .none .none .none .none none .none .none 0),zC9,zC8,zC7,fi [],f0 (mkF (st 11 (some 8)) "Row.find" 0 [] .none .none .none .none none .none .none 0),zC6,zC5,zC4,fi [],zC3,zC2,f0 (mkF (st 11 (some 9)) "Row.is_ahead" 0 [] .none .none .none .none none .none .none 0),zC1,zC0,zBz,fi [],zBy,zBx,f0 (mkF (st 11 (some 10)) "Row.order" 0 [] .none .none .none .none none .none .none 0),zBw,zBv,zBu,zBt P,zBs,zBr,zBq,⟨(.type "super"),none,(.fields (Array.mk [(.ref 196),(.ref 196),(.ref 196)])),(Array.mk [])⟩,⟨(.type "builtin_function_or_method"),none,(.fields (Array.mk [(.builtin "object.__init_subclass__"),(.ref 196)])),(Array.mk [])⟩,tu [],⟨(.type "builtin_function_or_method"),none,(.fields (Array.mk [(.builtin "type.__prepare__"),(.type "type")])),(Array.mk [])⟩,⟨(.type "dict"),none,(.dict (List.toArray [dk P "__module__" 434 (.str "stickmarks.marks" 425),dk P "__qualname__" 436 (.str "Marks" 435),dk P "__firstlineno__" 438 (.int (75) 437),dk P "__init__" 446 (.ref 214),dk P "need_mark" 454 (.ref 221),dk P "stick" 465 (.ref 228),dk P "drop" 473 (.ref 235),dk P "sign" 481 (.ref 242),dk P "told" 489 (.ref 249),dk P "numbers" 496 (.ref 256),dk P "of" 502 (.ref 261),dk P "order" 508 (.ref 266),dk P "__static_attributes__" 512 (.ref 267)]) 13),(Array.mk [])⟩,tu [],fi [j 77,j 4,(.ref 213),j 82,j 4,(.ref 220),j 86,j 4,(.ref 227),j 94,j 4,(.ref 234),j 98,j 4,(.ref 241),j 102,j 4,(.ref 248),j 105,j 4,(.ref 255),j 108,j 4,(.ref 260),j 112,j 4,(.ref 265)],co [(.str "Marks" 429),(.str "Marks" 430),(.str "/claim/cut.py" 431),j 75,j 0,j 0,j 0,j 0,(.ref 204),(.bool false),j 181,(.ref 205),.none,.none,.none,.none,j 432,j 75,(.str "/claim/cut.py" 433)],⟨(.type "frame"),none,.plain,(Array.mk [some (.ref 206),some (.ref 3),some (.ref 203),none,some (.str "stickmarks.marks" 425),none,some (.ref 0)])⟩,zBp,fi [],zBo,zBn,f0 (mkF (st 13 (some 0)) "Marks.__init__" 0 [] .none .none .none .none none .none .none 0),zBm,zBl,zBk,fi [],zBj,zBi,f0 (mkF (st 13 (some 1)) "Marks.need_mark" 0 [] .none .none .none .none none .none .none 0),zBh,zBg,zBf,fi [],zBe,zBd,f0 (mkF (st 13 (some 2)) "Marks.stick" 0 [] .none .none .none .none none .none .none 0),zBc,zBb,zBa,fi [],zB9,zB8,f0 (mkF (st 13 (some 3)) "Marks.drop" 0 [] .none .none .none .none none .none .none 0),zB7,zB6,zB5,fi [],zB4,zB3,f0 (mkF (st 13 (some 4)) "Marks.sign" 0 [] .none .none .none .none none .none .none 0),zB2,zB1,zB0,fi [],zAz,zAy,f0 (mkF (st 13 (some 5)) "Marks.told" 0 [] .none .none .none .none none .none .none 0),zAx,zAw,zAv,fi [],zAu,zAt,f0 (mkF (st 13 (some 6)) "Marks.numbers" 0 [] .none .none .none .none none .none .none 0),zAs,zAr,zAq,fi [],f0 (mkF (st 13 (some 7)) "Marks.of" 0 [] .none .none .none .none none .none .none 0),zAp,zAo,zAn,fi [],f0 (mkF (st 13 (some 8)) "Marks.order" 0 [] .none .none .none .none none .none .none 0),zAm,zAl,zAk,zAj P,zAi,zAh,zAg,⟨(.type "super"),none,(.fields (Array.mk [(.ref 269),(.ref 269),(.ref 269)])),(Array.mk [])⟩,⟨(.type "builtin_function_or_method"),none,(.fields (Array.mk [(.builtin "object.__init_subclass__"),(.ref 269)])),(Array.mk [])⟩,zAf,fi [],f0 (mkF (st 17 none) "is_text" 0 [] .none .none .none .none none .none .none 0),zAe,zAd,tu [],⟨(.type "builtin_function_or_method"),none,(.fields (Array.mk [(.builtin "type.__prepare__"),(.type "type")])),(Array.mk [])⟩,⟨(.type "dict"),none,(.dict (List.toArray [dk P "__module__" 539 (.str "stickmarks.sheet" 520),dk P "__qualname__" 541 (.str "Sheet" 540),dk P "__firstlineno__" 543 (.int (120) 542),dk P "__init__" 552 (.ref 292),dk P "bring" 564 (.ref 299),dk P "need_hand" 572 (.ref 306),dk P "need_sign" 580 (.ref 313),dk P "need_place" 588 (.ref 320),dk P "need_stretch" 597 (.ref 327),dk P "need_deed" 605 (.ref 334),dk P "seat_of" 616 (.ref 341),dk P "is_shown" 622 (.ref 346),dk P "seated" 633 (.ref 353),dk P "size" 640 (.ref 360),dk P "shown" 646 (.ref 365),dk P "text" 652 (.ref 370),dk P "many" 659 (.ref 377),dk P "letter" 667 (.ref 384),dk P "sign_at" 675 (.ref 391),dk P "place_of" 683 (.ref 398),dk P "is_ahead" 692 (.ref 405),dk P "rank_of" 700 (.ref 412),dk P "seat_ahead" 708 (.ref 419),dk P "noted" 718 (.ref 426),dk P "put" 728 (.ref 433),dk P "cut" 740 (.ref 440),dk P "move" 754 (.ref 447),dk P "deeds" 761 (.ref 454),dk P "deed" 772 (.ref 461),dk P "stands" 780 (.ref 468),dk P "take_back" 788 (.ref 475),dk P "do_again" 796 (.ref 482),dk P "last_standing" 804 (.ref 489),dk P "last_gone" 812 (.ref 496),dk P "__static_attributes__" 824 (.ref 497)]) 35),(Array.mk [])⟩,tu [],fi [j 122,j 4,(.ref 291),j 140,j 4,(.ref 298),j 154,j 4,(.ref 305),j 158,j 4,(.ref 312),j 162,j 4,(.ref 319),j 166,j 4,(.ref 326),j 172,j 4,(.ref 333),j 176,j 4,(.ref 340),j 183,j 4,(.ref 345),j 189,j 4,(.ref 352),j 197,j 4,(.ref 359),j 200,j 4,(.ref 364),j 203,j 4,(.ref 369),j 206,j 4,(.ref 376),j 209,j 4,(.ref 383),j 213,j 4,(.ref 390),j 216,j 4,(.ref 397),j 220,j 4,(.ref 404),j 225,j 4,(.ref 411),j 229,j 4,(.ref 418),j 234,j 4,(.ref 425),j 239,j 4,(.ref 432),j 247,j 4,(.ref 439),j 256,j 4,(.ref 446),j 271,j 4,(.ref 453),j 274,j 4,(.ref 460),j 279,j 4,(.ref 467),j 283,j 4,(.ref 474),j 290,j 4,(.ref 481),j 297,j 4,(.ref 488),j 300,j 4,(.ref 495)],co [(.str "Sheet" 534),(.str "Sheet" 535),(.str "/claim/cut.py" 536),j 120,j 0,j 0,j 0,j 0,(.ref 282),(.bool false),j 181,(.ref 283),.none,.none,.none,.none,j 537,j 120,(.str "/claim/cut.py" 538)],⟨(.type "frame"),none,.plain,(Array.mk [some (.ref 284),some (.ref 3),some (.ref 281),none,some (.str "stickmarks.sheet" 520),none,some (.ref 0)])⟩,zAc,fi [],zAb,zAa,f0 (mkF (st 18 (some 0)) "Sheet.__init__" 0 [] .none .none .none .none none .none .none 0),zA9,zA8,zA7,fi [],zA6,zA5,f0 (mkF (st 18 (some 1)) "Sheet.bring" 0 [] .none .none .none .none none .none .none 0),zA4,zA3,zA2,fi [],zA1,zA0,f0 (mkF (st 18 (some 2)) "Sheet.need_hand" 0 [] .none .none .none .none none .none .none 0),z9z,z9y,z9x,fi [],z9w,z9v,f0 (mkF (st 18 (some 3)) "Sheet.need_sign" 0 [] .none .none .none .none none .none .none 0),z9u,z9t,z9s,fi [],z9r,z9q,f0 (mkF (st 18 (some 4)) "Sheet.need_place" 0 [] .none .none .none .none none .none .none 0),z9p,z9o,z9n,fi [],z9m,z9l,f0 (mkF (st 18 (some 5)) "Sheet.need_stretch" 0 [] .none .none .none .none none .none .none 0),z9k,z9j,z9i,fi [],z9h,z9g,f0 (mkF (st 18 (some 6)) "Sheet.need_deed" 0 [] .none .none .none .none none .none .none 0),z9f,z9e,z9d,fi [],z9c,z9b,f0 (mkF (st 18 (some 7)) "Sheet.seat_of" 0 [] .none .none .none .none none .none .none 0),z9a,z99,z98,fi [],f0 (mkF (st 18 (some 8)) "Sheet.is_shown" 0 [] .none .none .none .none none .none .none 0),z97,z96,z95,fi [],z94,z93,f0 (mkF (st 18 (some 9)) "Sheet.seated" 0 [] .none .none .none .none none .none .none 0),z92,z91,z90,fi [],z8z,z8y,f0 (mkF (st 18 (some 10)) "Sheet.size" 0 [] .none .none .none .none none .none .none 0),z8x,z8w,z8v,fi [],f0 (mkF (st 18 (some 11)) "Sheet.shown" 0 [] .none .none .none .none none .none .none 0),z8u,z8t,z8s,fi [],f0 (mkF (st 18 (some 12)) "Sheet.text" 0 [] .none .none .none .none none .none .none 0),z8r,z8q,z8p,fi [],z8o,z8n,f0 (mkF (st 18 (some 13)) "Sheet.many" 0 [] .none .none .none .none none .none .none 0),z8m,z8l,z8k,fi [],z8j,z8i,f0 (mkF (st 18 (some 14)) "Sheet.letter" 0 [] .none .none .none .none none .none .none 0),z8h,z8g,z8f,fi [],z8e,z8d,f0 (mkF (st 18 (some 15)) "Sheet.sign_at" 0 [] .none .none .none .none none .none .none 0),z8c,z8b,z8a,fi [],z89,z88,f0 (mkF (st 18 (some 16)) "Sheet.place_of" 0 [] .none .none .none .none none .none .none 0),z87,z86,z85,fi [],z84,z83,f0 (mkF (st 18 (some 17)) "Sheet.is_ahead" 0 [] .none .none .none .none none .none .none 0),z82,z81,z80,fi [],z7z,z7y,f0 (mkF (st 18 (some 18)) "Sheet.rank_of" 0 [] .none .none .none .none none .none .none 0),z7x,z7w,z7v,fi [],z7u,z7t,f0 (mkF (st 18 (some 19)) "Sheet.seat_ahead" 0 [] .none .none .none .none none .none .none 0),z7s,z7r,z7q,fi [],z7p,z7o,f0 (mkF (st 18 (some 20)) "Sheet.noted" 0 [] .none .none .none .none none .none .none 0),z7n,z7m,z7l,fi [],z7k,z7j,f0 (mkF (st 18 (some 21)) "Sheet.put" 0 [] .none .none .none .none none .none .none 0),z7i,z7h,z7g,fi [],z7f,z7e,f0 (mkF (st 18 (some 22)) "Sheet.cut" 0 [] .none .none .none .none none .none .none 0),z7d,z7c,z7b,fi [],z7a,z79,f0 (mkF (st 18 (some 23)) "Sheet.move" 0 [] .none .none .none .none none .none .none 0),z78,z77,z76,fi [],z75,z74,f0 (mkF (st 18 (some 24)) "Sheet.deeds" 0 [] .none .none .none .none none .none .none 0),z73,z72,z71,fi [],z70,z6z,f0 (mkF (st 18 (some 25)) "Sheet.deed" 0 [] .none .none .none .none none .none .none 0),z6y,z6x,z6w,fi [],z6v,z6u,f0 (mkF (st 18 (some 26)) "Sheet.stands" 0 [] .none .none .none .none none .none .none 0),z6t,z6s,z6r,fi [],z6q,z6p,f0 (mkF (st 18 (some 27)) "Sheet.take_back" 0 [] .none .none .none .none none .none .none 0),z6o,z6n,z6m,fi [],z6l,z6k,f0 (mkF (st 18 (some 28)) "Sheet.do_again" 0 [] .none .none .none .none none .none .none 0),z6j,z6i,z6h,fi [],z6g,z6f,f0 (mkF (st 18 (some 29)) "Sheet.last_standing" 0 [] .none .none .none .none none .none .none 0),z6e,z6d,z6c,fi [],z6b,z6a,f0 (mkF (st 18 (some 30)) "Sheet.last_gone" 0 [] .none .none .none .none none .none .none 0),z69,z68,z67,z66 P,z65,z63,z62,⟨(.type "super"),none,(.fields (Array.mk [(.ref 499),(.ref 499),(.ref 499)])),(Array.mk [])⟩,⟨(.type "builtin_function_or_method"),none,(.fields (Array.mk [(.builtin "object.__init_subclass__"),(.ref 499)])),(Array.mk [])⟩,z61,fi [],z60,z5z,f0 (mkF (st 20 none) "_law_cell_at" 0 [] .none .none .none .none none .none .none 0),z5y,z5x,z5w,fi [],z5v,z5u,f0 (mkF (st 21 none) "_law_whole" 0 [] .none .none .none .none none .none .none 0),z5t,z5s,z5r,fi [],z5q,z5p,f0 (mkF (st 22 none) "_law_mixed" 0 [] .none .none .none .none none .none .none 0),z5o,z5n,z5m,fi [],f0 (mkF (st 23 none) "_law_text_by" 0 [] .none .none .none .none none .none .none 0),z5l,z5k,z5j,fi [],z5i,z5h,f0 (mkF (st 24 none) "_law_size_by" 0 [] .none .none .none .none none .none .none 0),z5g,z5f,tu [],fi [],f0 (mkF (st 25 none) "_law_fresh" 0 [] .none .none .none .none none .none .none 0),co [(.str "_law_fresh" 871),(.str "_law_fresh" 872),(.str "/claim/cut.py" 873),j 320,j 2,j 0,j 0,j 3,(.ref 537),(.bool true),j 181,(.ref 538),.none,.none,.none,(.ref 539),j 874,j 320,(.str "/claim/cut.py" 875)],fu (mkF (st 25 none) "_law_fresh" 3 [] .none .none .none (.str "law_uf010039_09" 832) none (.ref 540) .none 0),tu [],fi [],tu [(.str "_law_state" 880),(.str "_law_best" 881),(.str "_law_sign" 882),(.str "_law_deed_here" 883)],tu [],f0 (mkF (st 26 none) "_law_sits" 0 [] .none .none .none .none none .none .none 0),co [(.str "_law_sits" 877),(.str "_law_sits" 878),(.str "/claim/cut.py" 879),j 324,j 1,j 0,j 0,j 3,(.ref 542),(.bool true),j 181,(.ref 543),.none,(.ref 544),(.ref 545),(.ref 546),j 884,j 324,(.str "/claim/cut.py" 885)],fu (mkF (st 26 none) "_law_sits" 3 [] .none .none .none (.str "law_uf010039_09" 832) none (.ref 547) .none 0),tu [],fi [],f0 (mkF (st 27 none) "_law_is_shown" 0 [] .none .none .none .none none .none .none 0),co [(.str "_law_is_shown" 887),(.str "_law_is_shown" 888),(.str "/claim/cut.py" 889),j 331,j 2,j 0,j 0,j 3,(.ref 549),(.bool true),j 181,(.ref 550),.none,.none,.none,(.ref 551),j 890,j 331,(.str "/claim/cut.py" 891)],fu (mkF (st 27 none) "_law_is_shown" 3 [] .none .none .none (.str "law_uf010039_09" 832) none (.ref 552) .none 0),tu [],fi [],tu [(.str "_law_state" 896),(.str "_law_best" 897),(.str "_law_found" 898),(.str "_law_sign" 899),(.str "_law_deed_here" 900)],tu [],f0 (mkF (st 28 none) "_law_shown" 0 [] .none .none .none .none none .none .none 0),co [(.str "_law_shown" 893),(.str "_law_shown" 894),(.str "/claim/cut.py" 895),j 335,j 1,j 0,j 0,j 3,(.ref 554),(.bool true),j 181,(.ref 555),.none,(.ref 556),(.ref 557),(.ref 558),j 901,j 335,(.str "/claim/cut.py" 902)],fu (mkF (st 28 none) "_law_shown" 3 [] .none .none .none (.str "law_uf010039_09" 832) none (.ref 559) .none 0),tu [],fi [],tu [(.str "_law_state" 907),(.str "_law_place" 908),(.str "_law_sign" 909)],tu [],f0 (mkF (st 29 none) "_law_at" 0 [] .none .none .none .none none .none .none 0),co [(.str "_law_at" 904),(.str "_law_at" 905),(.str "/claim/cut.py" 906),j 342,j 2,j 0,j 0,j 3,(.ref 561),(.bool true),j 181,(.ref 562),.none,(.ref 563),(.ref 564),(.ref 565),j 910,j 342,(.str "/claim/cut.py" 911)],fu (mkF (st 29 none) "_law_at" 3 [] .none .none .none (.str "law_uf010039_09" 832) none (.ref 566) .none 0),tu [],fi [],f0 (mkF (st 30 none) "_law_deed" 0 [] .none .none .none .none none .none .none 0),co [(.str "_law_deed" 913),(.str "_law_deed" 914),(.str "/claim/cut.py" 915),j 347,j 2,j 0,j 0,j 3,(.ref 568),(.bool true),j 181,(.ref 569),.none,.none,.none,(.ref 570),j 916,j 347,(.str "/claim/cut.py" 917)],fu (mkF (st 30 none) "_law_deed" 3 [] .none .none .none (.str "law_uf010039_09" 832) none (.ref 571) .none 0),z5e,fi [],z5d,z5c,f0 (mkF (st 31 none) "_law_deed_by" 0 [] .none .none .none .none none .none .none 0),z5b,z5a,z59,fi [],z58,z57,f0 (mkF (st 32 none) "_law_do" 0 [] .none .none .none .none none .none .none 0),z56,z55,z54,fi [],z53,z52,f0 (mkF (st 33 none) "_law_order" 0 [] .none .none .none .none none .none .none 0),z51,z50,z4z,fi [],f0 (mkF (st 34 none) "_law_stands" 0 [] .none .none .none .none none .none .none 0),z4y,z4x,z4w,fi [],z4v,z4u,f0 (mkF (st 35 none) "_law_is_gone" 0 [] .none .none .none .none none .none .none 0),z4t,z4s,z4r,fi [],z4q,z4p,f0 (mkF (st 36 none) "_law_not_stuck" 0 [] .none .none .none .none none .none .none 0),z4o,z4n,z4m,fi [],z4l,z4k,f0 (mkF (st 37 none) "_law_turned" 0 [] .none .none .none .none none .none .none 0),z4j,z4i,z4h,fi [],f0 (mkF (st 38 none) "law" 0 [] .none .none .none .none none .none .none 0),z4g,z4f]⟩,{}⟩
noncomputable def K (P:Params):Frag:=[(2,boot_o_2 P),(3,o_3 P),(15,zG2),(17,zG1),(18,zG0),(20,zFz),(21,zFy),(22,zFx),(29,zFw),(30,zFv P),(31,zFu),(32,zFt),(35,zFs),(42,zFr),(43,zFq P),(44,zFp),(47,zFo),(54,zFn),(55,zFm P),(56,zFl),(59,zFk),(66,zFj),(67,zFi P),(68,zFh),(71,zFg),(78,zFf),(79,zFe P),(80,zFd),(83,zFc),(90,zFb),(91,zFa P),(92,zF9),(95,zF8),(102,zDh),(103,zDg P),(104,zDf),(107,zDe),(109,zDd),(110,zDc),(112,zDb),(113,zDa),(121,zD9),(123,zD8),(124,zD7),(126,zD6),(127,zD5),(128,zD4),(130,zD3),(131,zD2),(133,zD1),(134,zD0),(135,zCz),(137,zCy),(138,zCx),(140,zCw),(141,zCv),(142,zCu),(144,zCt),(145,zCs),(147,zCr),(148,zCq),(149,zCp),(151,zCo),(152,zCn),(154,zCm),(155,zCl),(156,zCk),(158,zCj),(159,zCi),(161,zCh),(162,zCg),(163,zCf),(165,zCe),(166,zCd),(168,zCc),(169,zCb),(170,zCa),(173,zC9),(174,zC8),(175,zC7),(178,zC6),(179,zC5),(180,zC4),(182,zC3),(183,zC2),(185,zC1),(186,zC0),(187,zBz),(189,zBy),(190,zBx),(192,zBw),(193,zBv),(194,zBu),(195,zBt P),(196,zBs),(197,zBr),(198,zBq),(208,zBp),(210,zBo),(211,zBn),(213,zBm),(214,zBl),(215,zBk),(217,zBj),(218,zBi),(220,zBh),(221,zBg),(222,zBf),(224,zBe),(225,zBd),(227,zBc),(228,zBb),(229,zBa),(231,zB9),(232,zB8),(234,zB7),(235,zB6),(236,zB5),(238,zB4),(239,zB3),(241,zB2),(242,zB1),(243,zB0),(245,zAz),(246,zAy),(248,zAx),(249,zAw),(250,zAv),(252,zAu),(253,zAt),(255,zAs),(256,zAr),(257,zAq),(260,zAp),(261,zAo),(262,zAn),(265,zAm),(266,zAl),(267,zAk),(268,zAj P),(269,zAi),(270,zAh),(271,zAg),(274,zAf),(277,zAe),(278,zAd),(286,zAc),(288,zAb),(289,zAa),(291,zA9),(292,zA8),(293,zA7),(295,zA6),(296,zA5),(298,zA4),(299,zA3),(300,zA2),(302,zA1),(303,zA0),(305,z9z),(306,z9y),(307,z9x),(309,z9w),(310,z9v),(312,z9u),(313,z9t),(314,z9s),(316,z9r),(317,z9q),(319,z9p),(320,z9o),(321,z9n),(323,z9m),(324,z9l),(326,z9k),(327,z9j),(328,z9i),(330,z9h),(331,z9g),(333,z9f),(334,z9e),(335,z9d),(337,z9c),(338,z9b),(340,z9a),(341,z99),(342,z98),(345,z97),(346,z96),(347,z95),(349,z94),(350,z93),(352,z92),(353,z91),(354,z90),(356,z8z),(357,z8y),(359,z8x),(360,z8w),(361,z8v),(364,z8u),(365,z8t),(366,z8s),(369,z8r),(370,z8q),(371,z8p),(373,z8o),(374,z8n),(376,z8m),(377,z8l),(378,z8k),(380,z8j),(381,z8i),(383,z8h),(384,z8g),(385,z8f),(387,z8e),(388,z8d),(390,z8c),(391,z8b),(392,z8a),(394,z89),(395,z88),(397,z87),(398,z86),(399,z85),(401,z84),(402,z83),(404,z82),(405,z81),(406,z80),(408,z7z),(409,z7y),(411,z7x),(412,z7w),(413,z7v),(415,z7u),(416,z7t),(418,z7s),(419,z7r),(420,z7q),(422,z7p),(423,z7o),(425,z7n),(426,z7m),(427,z7l),(429,z7k),(430,z7j),(432,z7i),(433,z7h),(434,z7g),(436,z7f),(437,z7e),(439,z7d),(440,z7c),(441,z7b),(443,z7a),(444,z79),(446,z78),(447,z77),(448,z76),(450,z75),(451,z74),(453,z73),(454,z72),(455,z71),(457,z70),(458,z6z),(460,z6y),(461,z6x),(462,z6w),(464,z6v),(465,z6u),(467,z6t),(468,z6s),(469,z6r),(471,z6q),(472,z6p),(474,z6o),(475,z6n),(476,z6m),(478,z6l),(479,z6k),(481,z6j),(482,z6i),(483,z6h),(485,z6g),(486,z6f),(488,z6e),(489,z6d),(490,z6c),(492,z6b),(493,z6a),(495,z69),(496,z68),(497,z67),(498,z66 P),(499,z65),(500,z63),(501,z62),(504,z61),(506,z60),(507,z5z),(509,z5y),(510,z5x),(511,z5w),(513,z5v),(514,z5u),(516,z5t),(517,z5s),(518,z5r),(520,z5q),(521,z5p),(523,z5o),(524,z5n),(525,z5m),(528,z5l),(529,z5k),(530,z5j),(532,z5i),(533,z5h),(535,z5g),(536,z5f),(573,z5e),(575,z5d),(576,z5c),(578,z5b),(579,z5a),(580,z59),(582,z58),(583,z57),(585,z56),(586,z55),(587,z54),(589,z53),(590,z52),(592,z51),(593,z50),(594,z4z),(597,z4y),(598,z4x),(599,z4w),(601,z4v),(602,z4u),(604,z4t),(605,z4s),(606,z4r),(608,z4q),(609,z4p),(611,z4o),(612,z4n),(613,z4m),(615,z4l),(616,z4k),(618,z4j),(619,z4i),(620,z4h),(623,z4g),(624,z4f)]
noncomputable def as:List Addr:=[2,3,15,17,18,20,21,22,29,30,31,32,35,42,43,44,47,54,55,56,59,66,67,68,71,78,79,80,83,90,91,92,95,102,103,104,107,109,110,112,113,121,123,124,126,127,128,130,131,133,134,135,137,138,140,141,142,144,145,147,148,149,151,152,154,155,156,158,159,161,162,163,165,166,168,169,170,173,174,175,178,179,180,182,183,185,186,187,189,190,192,193,194,195,196,197,198,208,210,211,213,214,215,217,218,220,221,222,224,225,227,228,229,231,232,234,235,236,238,239,241,242,243,245,246,248,249,250,252,253,255,256,257,260,261,262,265,266,267,268,269,270,271,274,277,278,286,288,289,291,292,293,295,296,298,299,300,302,303,305,306,307,309,310,312,313,314,316,317,319,320,321,323,324,326,327,328,330,331,333,334,335,337,338,340,341,342,345,346,347,349,350,352,353,354,356,357,359,360,361,364,365,366,369,370,371,373,374,376,377,378,380,381,383,384,385,387,388,390,391,392,394,395,397,398,399,401,402,404,405,406,408,409,411,412,413,415,416,418,419,420,422,423,425,426,427,429,430,432,433,434,436,437,439,440,441,443,444,446,447,448,450,451,453,454,455,457,458,460,461,462,464,465,467,468,469,471,472,474,475,476,478,479,481,482,483,485,486,488,489,490,492,493,495,496,497,498,499,500,501,504,506,507,509,510,511,513,514,516,517,518,520,521,523,524,525,528,529,530,532,533,535,536,573,575,576,578,579,580,582,583,585,586,587,589,590,592,593,594,597,598,599,601,602,604,605,606,608,609,611,612,613,615,616,618,619,620,623,624]
end Mine.Hd
end
section
open PySem PySem.W PyProof.Rows
set_option maxRecDepth 1000000
set_option maxHeartbeats 8000000
namespace Mine.Hd
noncomputable abbrev bdE:List Stmt:=behindTheImports prog
noncomputable abbrev evE:Env:={scope:=prog.main.scope,locals:=mainNs,globals:=mainNs,cells:=[],code:=.ref 13,frame:=some 14}
noncomputable abbrev cdE:Code:=.body bdE evE
noncomputable def trE (l:List Obj):BT:=(l.foldl (fun p o=>(p.1.ins p.2 o,p.2+1)) (BT.nil,0)).1
noncomputable abbrev SaE (w:World) (os:OsState):SharedT:=⟨trE ((((H1 w.params).objs.toList.take 15).set 3 (boot_o_3 w.params)).set 12 ⟨.none,none,.fields ⟨[]⟩,⟨[]⟩⟩),15,{},⟨[]⟩,{},187,os⟩
noncomputable abbrev SbE (w:World) (os:OsState):SharedT:=⟨trE (H1 w.params).objs.toList,625,{},⟨[]⟩,{},998,os⟩
theorem rn1 (w:World) (os:OsState):topGo treeTable prog w 11 (some (.ref 6)) 12 ⟨boot_heap w.params,Array.mk [],boot_drawn,boot_toks,os⟩ (topStub prog)=some ((SaE w os).abs,⟨denote treeTable cdE,cdE,default,[topFrame default]⟩):=by
  rw [PySem.W.Fast.te15667345088766844465,PySem.W.Fast.te14364793385576792824,PySem.W.Fast.te11892475500146522536]
  kernel_rfl
theorem rn2 (w:World) (os:OsState):segRun treeTable prog w 11 (some (.ref 6)) 1 1 (SaE w os).abs (blockOf bdE evE cdE default [topFrame default])=some (.next,(SaE w os).abs,cdE,default):=rfl
theorem rn3 (w:World) (os:OsState):segRunT treeTable prog w 11 (some (.ref 6)) 1 4398 (SaE w os) ⟨(execs bdE evE).wrap doneF deadEnd id id,cdE,default,[topFrame default]⟩=some (.next,SbE w os,cdE,⟨451,0,485,89⟩):=by
  rw [PySem.W.Fast.te10110043849684766642,PySem.W.Fast.te14364793385576792824,PySem.W.Fast.te12563942051412417395]
  kernel_rfl
theorem rn4 (w:World) (os:OsState):topRun treeTable prog w 11 (some (.ref 6)) 4509 (SbE w os).abs (restOf [] evE cdE ⟨451,0,485,89⟩ [topFrame default])=some ⟨H1 w.params,Array.mk [],{},998,os⟩:=by kernel_rfl
theorem run (w:World) (os:OsState):topRun treeTable prog w 11 (some (.ref 6)) 8920 ⟨boot_heap w.params,Array.mk [],boot_drawn,boot_toks,os⟩ (topStub prog)=some ⟨H1 w.params,Array.mk [],{},998,os⟩:=
  go_top (N:=8908) (rn1 w os) (piece_block (n:=1) (N:=8907) (rn2 w os) (List.append_nil bdE▸piece_app (n:=4398) (N:=4509) (segRun_of (rn3 w os)) (rn4 w os)))
end Mine.Hd
end
section
open PySem PySem.W PyProof.Rows
set_option maxRecDepth 1000000
set_option maxHeartbeats 8000000
noncomputable section
namespace Mine.Hd
theorem ws:OpenLaw.wellSaid PySem.Challenge.rw_uf010039_09=true:=by
 rw [PySem.W.Fast.te9446332074065402090]
 kernel_rfl
theorem opn (w:World):(fencedOpening treeTable prog w 8920).map (fun s=>(s.heap,s.gens,s.drawn,s.toks))=some (boot_heap w.params,Array.mk [],boot_drawn,boot_toks):=boot_open (p:=prog) (N:=8920) (by kernel_rfl) (by decide) (fun s=>rfl) w
theorem siz (w:World):((boot_heap w.params).isNs mainGlobals && (Array.mk []:Array GenState).size == 0,(boot_heap w.params).objs.size,(boot_heap w.params).nsMap mainGlobals "__annotations__")=(true,11,some (.ref 6)):=by kernel_rfl
noncomputable abbrev qv:Program:=view prog [0,2,3,4,5,6,7,8,10,11,13,15,16,17,18,20,21,22,23,24,25,26,27,28,29,30,31,32,33,34,35,36,37,38]
noncomputable abbrev Xt (s:Shared):Bool:=xlAt qv [] s && recOk (RowW.records (OpenRow.toRowW (OpenLaw.row PySem.Challenge.rw_uf010039_09))) s
theorem asK (P:Params):as=(K P).map (·.1):=by kernel_rfl
noncomputable abbrev hk:Hook:=kHook K as asK
noncomputable abbrev S1 (w:World) (os:OsState):Shared:=⟨H1 w.params,Array.mk [],{},998,os⟩
theorem lk1 (w:World) (os:OsState):(staticsOk (importedModules prog.main.body) (boot_heap w.params) (H1 w.params) && namesBound prog (H1 w.params) && gensDone (S1 w os) && laidKept (boot_heap w.params) (H1 w.params))=true:=by kernel_rfl
theorem lk3 (w:World) (os:OsState):hk.obs (S1 w os)=hk.val w:=by kernel_rfl
end Mine.Hd
end
section
open PySem PySem.W PyProof.Rows
set_option maxRecDepth 1000000
set_option maxHeartbeats 8000000
noncomputable section
namespace Mine.Hd
theorem lk2 (w:World) (os:OsState):openSeen qv [] (importedModules prog.main.body) Xt true (S1 w os)=openGood qv []:=by
 rw [PySem.W.Fast.te4187177175401517315]
 kernel_rfl
end Mine.Hd
end
section
open PySem PySem.W PyProof.Rows
set_option maxRecDepth 1000000
set_option maxHeartbeats 8000000
namespace Mine
theorem tt (P:Params):LS.TT (yO (Hd.K P)) (gOf (Hd.K P)).okf where
 kCa:=by kernel_rfl
 kB1:=by kernel_rfl
 kB2:=by kernel_rfl
 kCc:=by kernel_rfl
 kBz:=by kernel_rfl
 kBo:=by kernel_rfl
 kBt:=by kernel_rfl
 kB0:=by kernel_rfl
 kA8:=by kernel_rfl
 kBj:=by kernel_rfl
 kB8:=by kernel_rfl
 kBi:=by kernel_rfl
 kCb:=by kernel_rfl
 kB6:=by kernel_rfl
 kB7:=by kernel_rfl
 kBw:=by kernel_rfl
 marks:=by kernel_rfl
 row:=by kernel_rfl
 sheet:=by kernel_rfl
 kBy:=by kernel_rfl
 kBv:=by kernel_rfl
 kAn:=by kernel_rfl
 kB3:=by kernel_rfl
 kBx:=by kernel_rfl
 kAw:=by kernel_rfl
 kAs:=by kernel_rfl
 kBp:=by kernel_rfl
 kBs:=by kernel_rfl
 kAv:=by kernel_rfl
 kBq:=by kernel_rfl
 kBg:=by kernel_rfl
 kAd:=by kernel_rfl
 kAx:=by kernel_rfl
 kBc:=by kernel_rfl
 kBa:=by kernel_rfl
 kBh:=by kernel_rfl
 kAo:=by kernel_rfl
 kBu:=by kernel_rfl
 kA5:=by kernel_rfl
 kB4:=by kernel_rfl
 kBf:=by kernel_rfl
 kA3:=by kernel_rfl
 kAg:=by kernel_rfl
 kAe:=by kernel_rfl
 kAb:=by kernel_rfl
 kAa:=by kernel_rfl
 kAf:=by kernel_rfl
 kAr:=by kernel_rfl
 kAk:=by kernel_rfl
 kAt:=by kernel_rfl
 kA9:=by kernel_rfl
 kA1:=by kernel_rfl
 kAm:=by kernel_rfl
 kAl:=by kernel_rfl
 kAi:=by kernel_rfl
 kAp:=by kernel_rfl
 kAc:=by kernel_rfl
 kA2:=by kernel_rfl
 kBm:=by kernel_rfl
 kBr:=by kernel_rfl
 kBb:=by kernel_rfl
 kA7:=by kernel_rfl
 kAu:=by kernel_rfl
 kAh:=by kernel_rfl
 kAj:=by kernel_rfl
 kAy:=by kernel_rfl
 kBn:=by kernel_rfl
 kBk:=by kernel_rfl
 kAz:=by kernel_rfl
 kA0:=by kernel_rfl
 kA4:=by kernel_rfl
 kB9:=by kernel_rfl
 kBl:=by kernel_rfl
 kBd:=by kernel_rfl
 kA6:=by kernel_rfl
 kAq:=by kernel_rfl
 kBe:=by kernel_rfl
 kCd:=by kernel_rfl
namespace Hd
theorem left:LeftO prog qv [] Xt hk.obs hk.val 8920:=LeftO.of_pieces (H₀:=boot_heap) (H₁:=H1) (gs₀:=Array.mk []) (gs₁:=Array.mk []) (d₀:=boot_drawn) (d₁:={}) (k₀:=boot_toks) (k₁:=998) (m₀:=11) (ann:=some (.ref 6)) (M:=8920) opn siz run (by decide)
 (fun w=>funext fun os=>Prod.ext (lk1 w os) (Prod.ext (lk2 w os) (lk3 w os)))
end Hd
end Mine
end
open PySem PySem.W PyProof.Rows
set_option maxRecDepth 1000000 in
set_option maxHeartbeats 8000000 in
theorem PySem.Challenge.cw_uf010039_09_holds : PySem.Challenge.rw_uf010039_09.Holds := by
  w_on
  refine holds_law Mine.Hd.ws fun said => ?_
  refine holds_open (q := Mine.Hd.qv) (loose := []) (Xt := Mine.Hd.Xt) (XP := XL Mine.Hd.qv []) (Yf := Mine.Hd.hk.obs) (Ya := Mine.Hd.hk.val) (YP := Mine.Hd.hk.says) (N := 8920) Mine.Hd.left Mine.Hd.hk.of Mine.Hd.hk.keeps (fun s e => xl_of s (Bool.and_eq_true_iff.mp e).1) XL.keeps (by rfl) (by rfl) (by rfl) (fun s e => recFacts_of (Bool.and_eq_true_iff.mp e).2) (by rfl) (by assumption) (by decide +kernel) ⟨rfl, rfl, rfl, rfl, rfl, by decide +kernel⟩ ?hw ?hc
  case hw => w_witness2
  intro w s₀ s₁ mg mb G Y fa o pm cd doc dV kV ho hd hcd hD hmg hg args vals as hpre hlay hrd hwl hlo
  have KX := kIn_of Y
  clear Y
  refine Ground.open G ?_
  intro T B D TE TW
  clear ho hd hcd hD B D TE TW G
  wrow_args hpre hlay hrd hwl hlo
  rename IntsAre _ _ => hI
  rename Heap.IsList _ _ _ => hL
  rename ¬ _ < _ => hlen
  refine Mine.law_true T KX hg hmg 624 (by kernel_rfl) hL hI hlen (Mine.LS.law_ (n := 11) (Mine.tt _) (by lia)) (raisesW_false ?_) ?_
  · wrow_none_raised
  · kc_post
