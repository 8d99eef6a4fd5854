import PyProof.Rows.All
import Wide.All
import OpenK.KLine
import KE.KEndW
import KE.KDictSum
import KE.KEqDict
import PyProof.Rows.SortWalk
import PyProof.P3Statements
import PyProof.Rows.Chain
import PyProof.StrBlock
import PyProof.StrBlockI
import OpenK.KCell
import PyProof.TupleIter
import PyProof.RangeIter
import PyProof.ListOps
import PyProof.StationsW
import PyProof.DictRoads
import PyProof.DictKinds
import PyProof.P3In
import PyProof.IsRules
import PyProof.Rows.TupMore
import PyProof.Rows.Nodes
import PyProof.NoPylong
import PyProof.SliceList
import PyProof.IsiPairs
import PyProof.IsiNone
import PyProof.WalkInts
import PyProof.ListCopy
import PyProof.RangeFor
import PyProof.Conv_int_bool
import PyProof.Methods
import PyProof.AutoSeq1
import PyProof.MeetsSeq
import PyProof.DictTruth
import PyProof.IsiSeqPairs
import PyProof.MeetsDict
import PyProof.MeetsDictList
import PyProof.ListIndexNeg
import PyProof.StrLaws
import PyProof.StrOps
import PyProof.StrCalls2
import PyProof.StrCalls3
import PyProof.ConsumeWalk
import PyProof.Rows.ExtendIn
import PyProof.ListStr
import PyProof.ListRange
import PyProof.TupleOps
import PyProof.IsiHeapPairs
import PyProof.Rows.Own
import PyProof.ExcBaseAll.ValueError
import KE.KItem
import PyProof.Rows.TupSub
import PyProof.WalksMore
import PyProof.StrWalks
import PyProof.EnumStmt
import PyProof.CompFree
import KE.KUnpack
import PyProof.RulesAssignMore
import PyProof.Raises
import PyProof.RulesTry
import PyProof.Rows.TopTwo
import PyProof.Rows.CatchBare
import OpenK.KCall
import PyProof.Rows.TupAssign
import OpenK.KOwn
import PyProof.P3Eq
import PySem.Challenge.RW_uf010039_10
set_option Elab.async false
set_option linter.all false
section
namespace Mine
open PySem PySem.W PySem.Calls PyProof.Rows
section
variable {prog : Program} {w : World} {A : Around} {E : Value → Shared → Prop} {s : Shared}
theorem wZ : ∀ {kvs : List (Int × Value)} {vs : List Value}, vs.length = kvs.length → (∀ (j : Nat) v, vs[j]? = some v → ∃ k x, kvs[j]? = some (k, x) ∧ (intKind prog w).is k v = true) → IntsAre vs (kvs.map (·.1)) := by
  intro kvs
  induction kvs with
  | nil => intro vs hl _; rw [List.length_eq_zero_iff.mp hl]; exact .nil
  | cons p kvs ih =>
    intro vs hl h
    cases vs with
    | nil => cases hl
    | cons v vs =>
      obtain ⟨k, x, e, hk⟩ := h 0 v rfl
      cases e
      obtain ⟨t, rfl⟩ : ∃ t, v = .int k t := by
        have hk' : Value.isInt k v = true := hk
        cases v with
        | int i t => exact ⟨t, by rw [show i = k from by simpa [Value.isInt] using hk']⟩
        | _ => exact absurd hk' Bool.false_ne_true
      exact .cons k t (ih (Nat.succ.inj hl) fun j v e => h (j + 1) v e)
theorem Wb {d : Addr} {kvs : List (Int × Value)} {Q : Value → Shared → Prop} (hd : (d == sysModules) = false) (hm : s.heap.DictOf (intKind prog w) d kvs) (hh : A.handled = none) (hn : kvs.length ≤ sizeLine)
    (h : ∀ h' tk vs n, (∀ b o, s.heap.get? b = some o → h'.get? b = some o) → h'.get? s.heap.objs.size = some { cls := .type "list", dict := none, data := .seq vs n, slots := #[] } → IntsAre vs.toList (kvs.map (·.1)) → Q (.ref s.heap.objs.size) { s with heap := h', toks := tk }) :
    wpAny (model prog w) A (call (.type "list") [.ref d]) Q E s := by
  obtain ⟨ep, hat⟩ := hm.dictAt
  refine kdl_call (kdl_dict (knd := intKind prog w) (kvs := kvs) (ep := ep) hd) hh hat hn fun h' tk acc c hk hS hacc => ?_
  exact h h' tk acc c hk hS (wZ (prog := prog) (w := w) (by rw [Array.length_toList]; exact hacc.1) fun j v e => hacc.2 j v (by rw [← Array.getElem?_toList]; exact e))
theorem XQ {d : Addr} {kvs : List (Int × Value)} {Q : Value → Shared → Prop} (hd : (d == sysModules) = false) (hm : s.heap.DictOf (intKind prog w) d kvs) (hh : A.handled = none) (h64 : kvs.length < 64)
    (h : ∀ D h' tk (vs : Array Value) n ns, (∀ b o, s.heap.get? b = some o → h'.get? b = some o) → s.heap.get? D = none → h'.get? D = some (seqObj "list" vs n) → IntsAre vs.toList ns → ns.Perm (kvs.map (·.1)) → ns.Pairwise (· ≤ ·) → Q (.ref D) { s with heap := h', toks := tk }) :
    wpAny (model prog w) A (call (.builtin "sorted") [.ref d]) Q E s := by
  obtain ⟨ep, hat⟩ := hm.dictAt
  have hn : kvs.length ≤ sizeLine := Nat.le_trans (Nat.le_of_lt h64) (by decide)
  refine call_function_entry kind_sorted plain_sorted entry_sorted (args_sorted1 _) ?_
  unfold Builtin.«sorted»
  refine wpAny_bind (m := checkCount "sorted" 1 1 _) (wpAny_pure ?_)
  refine wpAny_bind (kdu_collect (A := A.in1) (kdl_dict (knd := intKind prog w) (kvs := kvs) (ep := ep) hd) hh hat hn fun h' tk acc hk hacc => ?_)
  have hl : acc.toList.length = kvs.length := by rw [Array.length_toList]; exact hacc.1
  have hI : IntsAre acc.toList (kvs.map (·.1)) := wZ (prog := prog) (w := w) hl fun j v e => hacc.2 j v (by rw [← Array.getElem?_toList]; exact e)
  refine wpAny_bind (wpAny_newList ?_ (by rw [hl]; exact hn))
  have hoL : (h'.push (seqObj "list" acc.toList.toArray 0)).get? h'.objs.size = some (seqObj "list" acc.toList.toArray 0) := Heap.get?_push_size _ rfl
  refine wpAny_bind (wpAny_holding (wpAny_call_entry slot_list_sort ⟨_, hoL, rfl⟩ entry_list_sort (list_sort_tree hoL hI (by rw [hl]; exact h64) fun out ns' a1 a2 a3 => ⟨_, rfl, ?_⟩) (args_list_sort _)))
  have keep : ∀ b o, s.heap.get? b = some o → (sortedHeap (h'.push (seqObj "list" acc.toList.toArray 0)) h'.objs.size acc.toList out).get? b = some o := fun b o e => by
    have hb := hk b o e
    have hlt := Heap.lt_size hb
    rw [sortedHeap_old (Nat.ne_of_lt hlt) (by rw [Heap.size_push]; exact Nat.lt_succ_of_lt hlt)]
    exact Heap.get?_push_of_some _ hb
  obtain ⟨n, hn'⟩ := sortedHeap_at (out := out) hoL
  refine wpAny_pure ⟨_, rfl, h h'.objs.size _ tk out n ns' keep ?_ hn' a1 a2 a3⟩
  cases q : s.heap.get? h'.objs.size with
  | none => rfl
  | some o => exact absurd (Heap.lt_size (hk _ _ q)) (Nat.lt_irrefl _)
theorem z1s {a b : Addr} {ka : List (Int × Value)} {Q : Value → Shared → Prop} (ha : (a == sysModules) = false) (hb : (b == sysModules) = false) (da : s.heap.DictOf (intKind prog w) a ka) (db : s.heap.DictOf (intKind prog w) b []) (hu : A.units < cLine)
    (h : Q (.bool (!ka.isEmpty)) s) : wpAny (model prog w) A (compareOp .NotEq (.ref a) (.ref b)) Q E s := by
  refine keq_ne (r := true) ha hb da db hu (fun q => ?_) ?_
  · rw [List.length_eq_zero_iff.mp q]; exact .nil
  · cases ka with
    | nil => exact h
    | cons => exact h
end
end Mine
end
section
set_option genSizeOf false
set_option genInjectivity false
noncomputable section
namespace Mine
open PySem
inductive Bi where
  | len | isinstance | int | bool | str | list | range | min | max | any | all | enumerate | sorted | tuple
inductive AV where
  | none | bool (b : Bool) | int (i : Int) | str (s : Str)
  | ref (a : Nat) | tup (xs : List AV) | lst (xs : List AV) | range (a b : Int)
  | fn (x : Str) | cls (x : Str) | bi (b : Bi)
inductive AO where
  | list (xs : List AV)
  | inst (cls : Str) (fs : List (Str × AV))
  | dict (kvs : List (Int × AV))
abbrev Hp := List AO
abbrev AFr := List (Option AV)
set_option genInjectivity true in
inductive Out (α : Type) where
  | stuck
  | ok (a : α) (h : Hp)
  | exc (c : Str) (h : Hp)
noncomputable def Out.bind {α β : Type} (o : Out α) (k : α → Hp → Out β) : Out β := match o with
  | .stuck => .stuck
  | .ok a h => k a h
  | .exc c h => .exc c h
theorem Out.bind_ok {α β : Type} (a : α) (h : Hp) (k : α → Hp → Out β) : (Out.ok a h).bind k = k a h := rfl
noncomputable def Out.bind0 {α β : Type} (o : Out α) (k : α → Hp → Out β) : Out β := match o with
  | .ok a h => k a h
  | _ => .stuck
theorem Out.bind0_ok {α β : Type} (a : α) (h : Hp) (k : α → Hp → Out β) : (Out.ok a h).bind0 k = k a h := rfl
theorem Out.bind_stuck {α β : Type} (k : α → Hp → Out β) : (Out.stuck : Out α).bind k = .stuck := rfl
noncomputable def Out.of {α : Type} (o : Option α) (h : Hp) : Out α := match o with
  | some a => .ok a h
  | none => .stuck
theorem Out.of_some {α : Type} (a : α) (h : Hp) : Out.of (some a) h = .ok a h := rfl
theorem Out.of_none {α : Type} (h : Hp) : Out.of (none : Option α) h = .stuck := rfl
theorem zc {n m : Nat} (h : Nat.ble n m = true) : n ≤ m := Nat.le_of_ble_eq_true h
theorem zP {α : Type} {as bs : List α} : (as ++ bs).length = as.length + bs.length := List.length_append
theorem yI {α : Type} {l : List α} {i : Nat} {a : α} (h : l[i]? = some a) : a ∈ l := List.mem_of_getElem? h
theorem y9 {α : Type} {l : List α} {i : Nat} (h : i < l.length) : l[i]? = some l[i] := List.getElem?_eq_getElem h
theorem zS {α β : Type} {o : Option α} {f : α → Option β} {b : β} (h : o.bind f = some b) : ∃ a, o = some a ∧ f a = some b := Option.bind_eq_some_iff.mp h
theorem y6 {α β : Type} {o : Option α} {f : α → β} {b : β} (h : o.map f = some b) : ∃ a, o = some a ∧ f a = b := Option.map_eq_some_iff.mp h
theorem y8 {α : Type} {l : List α} {i : Nat} {a : α} (h : l[i]? = some a) : ∃ q : i < l.length, l[i] = a := List.getElem?_eq_some_iff.mp h
theorem xa {α : Type} {a : α} {s t : List α} (h : a ∈ s ++ t) : a ∈ s ∨ a ∈ t := List.mem_append.mp h
theorem xD {α : Type} {a b : α} (h : a ∈ [b]) : a = b := List.mem_singleton.mp h
theorem nos {α : Type} {P : Prop} {t : α} (h : (none : Option α) = some t) : P := by cases h
theorem nob {P : Prop} (h : false = true) : P := by cases h
theorem nok {α : Type} {P : Prop} {a : α} {hp : Hp} (h : (Out.stuck : Out α) = .ok a hp) : P := by cases h
theorem zY {α : Type} {p : Prop} [Decidable p] {x y : α} (e : (if p then some x else none) = some y) : p ∧ x = y := by
  by_cases h : p
  · rw [if_pos h] at e; cases e; exact ⟨h, rfl⟩
  · rw [if_neg h] at e; exact nos e
theorem X1 {α : Type} {p : Prop} [Decidable p] {o : Option α} {y : α} (e : (if p then o else none) = some y) : p ∧ o = some y := by
  by_cases h : p
  · rw [if_pos h] at e; exact ⟨h, e⟩
  · rw [if_neg h] at e; exact nos e
inductive Callee where
  | fn (x : Str)
  | cls (x : Str)
  | meth (c x : Str)
abbrev CF := Callee → List AV → Hp → Out AV
abbrev XE := CF → AFr → Hp → Out AV
abbrev XT := CF → AFr → Hp → Out Bool
abbrev XEs := CF → AFr → Hp → Out (List AV)
inductive AFlow where
  | next
  | ret (v : AV)
inductive OS where
  | stuck
  | ok (fl : AFlow) (fr : AFr) (h : Hp)
  | exc (new : Bool) (c : Str) (fr : AFr) (h : Hp)
abbrev XS := CF → AFr → Hp → OS
noncomputable def Out.bindS {α : Type} (o : Out α) (fr : AFr) (k : α → Hp → OS) : OS := match o with
  | .stuck => .stuck
  | .ok a h => k a h
  | .exc c h => .exc false c fr h
theorem Out.bindS_ok {α : Type} (a : α) (h : Hp) (fr : AFr) (k : α → Hp → OS) : (Out.ok a h).bindS fr k = k a h := rfl
noncomputable def ya {α β : Type} (f : α → Option β) : List α → Option (List β)
  | [] => some []
  | x :: xs => (match f x, ya f xs with
    | some y, some ys => some (y :: ys)
    | _, _ => none)
noncomputable def yQ : AV → Option Int
  | .int i => some i
  | _ => none
noncomputable def X9 : AV → Option Bool
  | .bool i => some i
  | _ => none
noncomputable def zCr : AV → Option Bi
  | .bi i => some i
  | _ => none
noncomputable def xR : AV → Option Str
  | .str i => some i
  | _ => none
noncomputable def yf : AV → Option Nat
  | .ref i => some i
  | _ => none
noncomputable def wx : AV → Option (List AV)
  | .tup xs => some xs
  | _ => none
noncomputable def zn (h : Hp) (a : Nat) : Option (List AV) := match h[a]? with
  | some (.list xs) => some xs
  | _ => none
noncomputable def zv (h : Hp) (a : Nat) : Option (List (Int × AV)) := match h[a]? with
  | some (.dict kvs) => some kvs
  | _ => none
noncomputable def yr {K : Type} [DecidableEq K] (kvs : List (K × AV)) (k : K) : Option AV := (kvs.find? fun kv => kv.1 = k).map (·.2)
noncomputable def jY (kvs : List (Int × AV)) (k : Int) (v : AV) : List (Int × AV) := if kvs.any (fun kv => kv.1 = k) then kvs.map (fun kv => if kv.1 = k then (kv.1, v) else kv) else kvs ++ [(k, v)]
noncomputable def Q2 : AV → Option PyData
  | .none => some .none
  | .bool b => some (.bool b)
  | .int i => some (.int i)
  | .str s => if PyData.strOk s then some (.str s) else none
  | _ => none
noncomputable def toD (hp : Hp) : Nat → AV → Option PyData
  | 0, v => Q2 v
  | n + 1, v => (match yf v with
    | some a => (match zn hp a with
      | some xs => (ya (toD hp n) xs).map .list
      | none => none)
    | none => (match wx v with
      | some xs => (ya (toD hp n) xs).map .tuple
      | none => Q2 v))
noncomputable def aEq (h : Hp) (a b : AV) : Option Bool := (toD h 8 a).bind fun x => (toD h 8 b).map fun y => PyData.eqv x y
noncomputable def w0 (h : Hp) : AV → Option (List AV)
  | .lst xs => some xs
  | .ref a => zn h a
  | _ => none
noncomputable def small : Nat := 1048576
noncomputable def okI : Int → Bool
  | .ofNat m => Nat.ble m 4611686018427387903
  | .negSucc _ => false
theorem yv {k : Int} : okI k = true ↔ 0 ≤ k ∧ k < 4611686018427387904 := by
  cases k with
  | ofNat m =>
    show Nat.ble m 4611686018427387903 = true ↔ _
    rw [Nat.ble_eq]
    show _ ↔ (0 : Int) ≤ (m : Int) ∧ (m : Int) < 4611686018427387904
    lia
  | negSucc m =>
    have : Int.negSucc m < 0 := Int.negSucc_lt_zero m
    exact ⟨fun h => (by cases h), fun h => absurd h.1 (by lia)⟩
theorem Z9 {k : Nat} (h : k ≤ small) : okI (k : Int) = true := by
  have : k ≤ 1048576 := h
  exact yv.mpr ⟨by lia, by lia⟩
noncomputable def xE (h : Hp) : AV → Option Bool
  | .none => some false
  | .bool b => some b
  | .int i => some (decide (i ≠ 0))
  | _ => none
noncomputable def zE9 : Operator → Int → Int → Option Int
  | .Add, i, j => some (i + j)
  | .Sub, i, j => some (i - j)
  | .Mult, i, j => if i.natAbs < 2 ^ 63 ∨ j.natAbs < 2 ^ 63 then some (i * j) else none
  | .FloorDiv, i, j => if j ≠ 0 ∧ j.natAbs < 1073741824 then some (i.fdiv j) else none
  | .Mod, i, j => if j = 0 then none else some (i.fmod j)
  | _, _, _ => none
noncomputable def J3 : Operator → Str → Str → Option AV
  | .Add, x, y => if x.length + y.length ≤ small then some (.str (x ++ y)) else none
  | _, _, _ => none
noncomputable def ofP : Option (AV × Hp) → Out AV
  | some p => .ok p.1 p.2
  | none => .stuck
noncomputable def XA (op : Operator) (a b : AV) (h : Hp) : Out AV := Out.of (match xR a with
    | some x => (xR b).bind fun y => J3 op x y
    | none => (yQ a).bind fun i => (yQ b).bind fun j => (zE9 op i j).map AV.int) h
noncomputable def isA (a b : AV) : Option Bool := match b with
  | .none => (match a with
    | .none => some true
    | .bool _ => some false
    | .int _ => some false
    | .str _ => some false
    | .ref _ => some false
    | _ => Option.none)
  | .bool y => (X9 a).map fun x => x == y
  | _ => Option.none
noncomputable def z1p (h : Hp) (v : AV) : Option (List PyData) := (yf v).bind fun a => (zn h a).bind fun xs => ya (toD h 7) xs
noncomputable def jH (h : Hp) (l x : AV) : Option Nat := (z1p h l).bind fun ds => (toD h 8 x).bind fun d => ds.findIdx? fun y => PyData.eqv y d
noncomputable def jK (h : Hp) (l x : AV) : Option Nat := (z1p h l).bind fun ds => (toD h 8 x).map fun d => ds.countP fun y => PyData.eqv y d
noncomputable def inA (h : Hp) (a b : AV) : Option Bool := match yf b with
  | some d => (yQ a).bind fun k => (zv h d).map fun kvs => (yr kvs k).isSome
  | none => (xR a).bind fun x => (xR b).map fun y => Txt.contains y x
noncomputable def z0h (p : Int → Int → Bool) (a b : AV) : Option Bool := (yQ a).bind fun i => (yQ b).map fun j => p i j
noncomputable def neD (h : Hp) (a b : AV) : Option Bool := (yf a).bind fun x => (zv h x).bind fun kvs => (yf b).bind fun y => (zv h y).bind fun k2 => if k2.isEmpty = true then some (!kvs.isEmpty) else none
noncomputable def yU (op : CmpOp) (a b : AV) (h : Hp) : Option Bool := match op with
  | .Eq => aEq h a b
  | .NotEq => (match neD h a b with
    | some r => some r
    | none => (aEq h a b).map (!·))
  | .Lt => z0h (fun i j => decide (i < j)) a b
  | .LtE => z0h (fun i j => decide (i ≤ j)) a b
  | .Gt => z0h (fun i j => decide (j < i)) a b
  | .GtE => z0h (fun i j => decide (j ≤ i)) a b
  | .Is => isA a b
  | .IsNot => (isA a b).map (!·)
  | .In => inA h a b
  | .NotIn => (inA h a b).map (!·)
noncomputable def zCc (v : AV) (t : Bi) : Option Bool := match t with
  | .int => (match v with
    | .int _ => some true
    | _ => Option.none)
  | .bool => (match v with
    | .bool _ => some true
    | .int _ => some false
    | _ => Option.none)
  | .str => (match v with
    | .str _ => some true
    | _ => Option.none)
  | .tuple => (wx v).map fun _ => true
  | _ => Option.none
inductive Src where
  | imm (xs : List AV)
  | ref (a : Nat)
  | enum (a : Nat)
noncomputable def qe (a b : Int) : List AV := (List.range (b - a).toNat).map fun (k : Nat) => .int (a + (k : Int))
noncomputable def wr (s : Str) : List AV := s.cps.toList.map fun c => .str ⟨#[c]⟩
noncomputable def yk (h : Hp) : AV → Option (Src × Nat)
  | .tup xs => some (.imm xs, xs.length)
  | .range a b => some (.imm (qe a b), (b - a).toNat)
  | .str s => some (.imm (wr s), s.length)
  | .ref a => (match h[a]? with
    | some (.list xs) => some (.ref a, xs.length)
    | _ => none)
  | _ => none
noncomputable def Src.next? (h : Hp) : Src → Nat → Option (Option AV)
  | .imm xs, k => some xs[k]?
  | .ref a, k => (match h[a]? with
    | some (.list ys) => some ys[k]?
    | _ => none)
  | .enum a, k => (match h[a]? with
    | some (.list ys) => some ((ys[k]?).map fun x => .tup [.int k, x])
    | _ => none)
noncomputable def Jv (h : Hp) (v : AV) : Option Nat := match (yf v).bind (zv h) with
  | some kvs => some kvs.length
  | none => (match xR v with
    | some x => some x.length
    | none => (w0 h v).map List.length)
noncomputable def q8 : List AV → Option AV
  | [a] => some a
  | _ => none
noncomputable def XH : List AV → Option (AV × AV)
  | [a, b] => some (a, b)
  | _ => none
noncomputable def xp : List AV → Option (List Bool)
  | [] => some []
  | x :: xs => (X9 x).bind fun b => (xp xs).map (b :: ·)
noncomputable def jd : List AV → Option (List Str)
  | [] => some []
  | x :: xs => (xR x).bind fun b => (jd xs).map (b :: ·)
noncomputable def biO (b : Bi) (args : List AV) (h : Hp) : Option (AV × Hp) := match b with
  | .len => (q8 args).bind fun v => (Jv h v).map fun n => (.int (n : Nat), h)
  | .isinstance => (XH args).bind fun p => (zCr p.2).bind fun t => (zCc p.1 t).map fun r => (.bool r, h)
  | .int => (q8 args).bind fun v => (X9 v).map fun b => (.int (if b then 1 else 0), h)
  | .min => (XH args).bind fun p => (yQ p.1).bind fun i => (yQ p.2).map fun j => (.int (if j < i then j else i), h)
  | .max => (XH args).bind fun p => (yQ p.1).bind fun i => (yQ p.2).map fun j => (.int (if i < j then j else i), h)
  | .range => (q8 args).bind fun v => (yQ v).bind fun b => if b.natAbs < 2 ^ 62 then some (.range 0 b, h) else none
  | .list => (q8 args).bind fun v => (yf v).bind fun b => (match zv h b with
    | some kvs => some (.ref h.length, h ++ [.list (kvs.map fun p => .int p.1)])
    | none => (zn h b).bind fun xs => if xs.length ≤ small then some (.ref h.length, h ++ [.list xs]) else none)
  | .sorted => (q8 args).bind fun v => (yf v).bind fun b => (match zv h b with
    | some kvs => if kvs.length < 64 ∧ (kvs.map (·.1)).Pairwise (· ≤ ·) then some (.ref h.length, h ++ [.list (kvs.map fun p => .int p.1)]) else none
    | none => (zn h b).bind fun xs => (ya yQ xs).bind fun is => if is.length < 64 ∧ is.Pairwise (· ≤ ·) then some (.ref h.length, h ++ [.list (is.map AV.int)]) else none)
  | .any => (q8 args).bind fun v => (w0 h v).bind fun xs => (xp xs).map fun bs => (.bool (bs.any id), h)
  | .all => (q8 args).bind fun v => (w0 h v).bind fun xs => (xp xs).map fun bs => (.bool (bs.all id), h)
  | _ => none
noncomputable def x6 (b : Bi) (args : List AV) (h : Hp) : Out AV := ofP (biO b args h)
inductive Me where
  | append | insert | index | count | remove | join | pop | extend | clear
noncomputable def qB (xs : List AV) (k : Nat) (v : AV) : List AV := xs.take k ++ v :: xs.drop k
noncomputable def meO (m : Me) (a : Nat) (xs args : List AV) (h : Hp) : Option (AV × Hp) := match m with
  | .append => (q8 args).bind fun v => if xs.length < small then some (.none, h.set a (.list (xs ++ [v]))) else none
  | .insert => (XH args).bind fun p => (yQ p.1).bind fun i => if xs.length < small ∧ okI i = true then some (.none, h.set a (.list (qB xs i.toNat p.2))) else none
  | .index => (q8 args).bind fun v => (jH h (.ref a) v).map fun k => (.int (k : Nat), h)
  | .count => (q8 args).bind fun v => (jK h (.ref a) v).map fun k => (.int (k : Nat), h)
  | .remove => (q8 args).bind fun v => (yQ v).bind fun i => (ya yQ xs).bind fun is => (is.findIdx? (· == i)).map fun k => (.none, h.set a (.list (xs.eraseIdx k)))
  | .extend => (q8 args).bind fun v => (yf v).bind fun b => (zn h b).bind fun ys => if xs.length + ys.length < small then some (.none, h.set a (.list (xs ++ ys))) else none
  | .clear => if args.isEmpty = true then some (.none, h.set a (.list [])) else none
  | _ => none
noncomputable def zE0 (m : Me) (sep : Str) (args : List AV) (h : Hp) : Option (AV × Hp) := match m with
  | .join => (q8 args).bind fun v => (w0 h v).bind fun xs => (jd xs).bind fun ss => if (ss.map (·.length)).sum + ss.length * sep.length ≤ small then some (.str (Str.join sep ss), h) else none
  | _ => none
noncomputable def yG (m : Me) (o : AV) (args : List AV) (h : Hp) : Out AV := ofP (match xR o with
  | some sep => zE0 m sep args h
  | none => (yf o).bind fun a => (zn h a).bind fun xs => meO m a xs args h)
noncomputable def meD (m : Me) (a : Nat) (args : List AV) (h : Hp) : Option (AV × Hp) := match m with
  | .pop => (q8 args).bind fun u => (yQ u).bind fun k => (zv h a).bind fun kvs => (yr kvs k).map fun v => (v, h.set a (.dict (kvs.filter fun x => !decide (x.1 = k))))
  | _ => none
noncomputable def wG (h : Hp) (o i : AV) : Option AV := (yQ i).bind fun k => match (yf o).bind (zv h) with
  | some kvs => yr kvs k
  | none => if okI k then (match xR o with
  | some s => (s.cps[k.toNat]?).map fun c => .str ⟨#[c]⟩
  | none => (match wx o with
    | some xs => xs[k.toNat]?
    | none => (w0 h o).bind fun xs => xs[k.toNat]?)) else none
noncomputable def wT {α : Type} (xs : List α) (l : Nat) (u : Option Nat) : List α := match u with
  | some u => (xs.take u).drop l
  | none => xs.drop l
noncomputable def xc : AV → Option (Option Nat)
  | .none => some none
  | .int k => if okI k then some (some k.toNat) else none
  | _ => none
noncomputable def zEq (h : Hp) (o l u : AV) : Option (AV × Hp) := (xc l).bind fun lo => (xc u).bind fun hi => (w0 h o).bind fun xs => if xs.length ≤ small then some (.ref h.length, h ++ [.list (wT xs (lo.getD 0) hi)]) else none
noncomputable def z0f (h : Hp) (o l u : AV) : Out AV := ofP (zEq h o l u)
noncomputable def zi : XE := fun _ _ _ => .stuck
noncomputable def z7 (v : AV) : XE := fun _ _ h => .ok v h
noncomputable def z4 (i : Nat) : XE := fun _ fr h => match fr[i]? with
  | some (some v) => .ok v h
  | _ => .stuck
noncomputable def zA (o : Option AV) : XE := fun _ _ h => Out.of o h
noncomputable def zI (op : Operator) (l r : XE) : XE := fun cf fr h => (l cf fr h).bind fun a h₁ => (r cf fr h₁).bind fun b h₂ => XA op a b h₂
noncomputable def Qj (x : XE) : XE := fun cf fr h => (x cf fr h).bind fun v h₁ => Out.of ((xE h₁ v).map fun b => .bool (!b)) h₁
noncomputable def zCl (x : XE) : XE := fun cf fr h => (x cf fr h).bind fun v h₁ => Out.of ((yQ v).map fun i => .int (-i)) h₁
noncomputable def cIf (t : XT) (a b : XE) : XE := fun cf fr h => (t cf fr h).bind fun c h₁ => if c then a cf fr h₁ else b cf fr h₁
noncomputable def evs : List XE → XEs
  | [] => fun _ _ h => .ok [] h
  | x :: xs => fun cf fr h => (x cf fr h).bind fun v h₁ => (evs xs cf fr h₁).bind fun vs h₂ => .ok (v :: vs) h₂
noncomputable def zw (xs : List XE) : XE := fun cf fr h => (evs xs cf fr h).bind fun vs h₁ => .ok (.ref h₁.length) (h₁ ++ [.list vs])
noncomputable def yZ (xs : List XE) : XE := fun cf fr h => (evs xs cf fr h).bind fun vs h₁ => .ok (.tup vs) h₁
noncomputable def Wu {α : Type} : List α → Option (α × α)
  | [a, b] => some (a, b)
  | _ => none
noncomputable def Wv : Expr → Option (List Expr × Nat × Pos)
  | .Tuple es k p => some (es, k, p)
  | _ => none
theorem Z3 {α : Type} {l : List α} {p : α × α} (h : Wu l = some p) : l = [p.1, p.2] := by
  cases l with
  | nil => exact nos h
  | cons a l => cases l with
    | nil => exact nos h
    | cons b l => cases l with
      | nil => cases h; rfl
      | cons => exact nos h
theorem Z4 {e : Expr} {t : List Expr × Nat × Pos} (h : Wv e = some t) : e = .Tuple t.1 t.2.1 t.2.2 := by
  cases e with
  | Tuple => cases h; rfl
  | _ => exact nos h
noncomputable def xm : XE := fun _ _ h => .ok (.ref h.length) (h ++ [.dict []])
noncomputable def jM (op : BoolOp) : List XE → XE
  | [] => zi
  | [x] => x
  | x :: rest => fun cf fr h => (x cf fr h).bind fun v h₁ => match xE h₁ v with
    | some t => (match op, t with
      | .And, false => .ok v h₁
      | .Or, true => .ok v h₁
      | _, _ => jM op rest cf fr h₁)
    | none => .stuck
noncomputable def qS (left : AV) : List CmpOp → List XE → XT
  | [], _ => fun _ _ _ => .stuck
  | op :: ops, rs => (match rs with
    | [] => fun _ _ _ => .stuck
    | r :: rs => (match ops with
      | [] => (match rs with
        | [] => fun cf fr h => (r cf fr h).bind fun v h₁ => Out.of (yU op left v h₁) h₁
        | _ :: _ => fun _ _ _ => .stuck)
      | _ :: _ => fun cf fr h => (r cf fr h).bind fun v h₁ => (match yU op left v h₁ with
        | none => .stuck
        | some b => cond b (qS v ops rs cf fr h₁) (.ok false h₁))))
noncomputable def zN (l : XE) (ops : List CmpOp) (rs : List XE) : XT := fun cf fr h => (l cf fr h).bind fun v h₁ => qS v ops rs cf fr h₁
noncomputable def Zn (l : XE) (ops : List CmpOp) (rs : List XE) : XE := fun cf fr h => (zN l ops rs cf fr h).bind fun b h₁ => .ok (.bool b) h₁
noncomputable def zp (x : XE) : XT := fun cf fr h => (x cf fr h).bind fun v h₁ => Out.of (xE h₁ v) h₁
noncomputable def yA (t : XT) : XT := fun cf fr h => (t cf fr h).bind fun b h₁ => .ok (!b) h₁
noncomputable def zT (op : BoolOp) : List XT → XT
  | [] => fun _ _ h => .ok (op == .And) h
  | t :: ts => fun cf fr h => (t cf fr h).bind fun b h₁ => match op, b with
    | .And, false => .ok false h₁
    | .Or, true => .ok true h₁
    | _, _ => zT op ts cf fr h₁
noncomputable def zD (o : XE) (name : Str) : XE := fun cf fr h => (o cf fr h).bind fun v h₁ => match v with
  | .ref a => (match h₁[a]? with
    | some (.inst _ fs) => Out.of (fs.lookup name) h₁
    | _ => .stuck)
  | _ => .stuck
noncomputable def zR (o i : XE) : XE := fun cf fr h => (o cf fr h).bind fun v h₁ => (i cf fr h₁).bind fun k h₂ => Out.of (wG h₂ v k) h₂
noncomputable def Z2 (o l u : XE) : XE := fun cf fr h => (o cf fr h).bind fun v h₁ => (l cf fr h₁).bind fun a h₂ => (u cf fr h₂).bind fun b h₃ => z0f h₃ v a b
noncomputable def zB (f : XE) (args : List XE) : XE := fun cf fr h => (f cf fr h).bind fun g h₁ => (evs args cf fr h₁).bind0 fun vs h₂ => match g with
  | .fn x => cf (.fn x) vs h₂
  | .cls x => cf (.cls x) vs h₂
  | .bi b => x6 b vs h₂
  | _ => .stuck
noncomputable def z6 (o : XE) (name : Str) (me : Option Me) (args : List XE) : XE := fun cf fr h => (o cf fr h).bind fun v h₁ => match v with
  | .ref a => (match h₁[a]? with
    | some (.inst c fs) => (match fs.lookup name with
      | some _ => .stuck
      | none => (evs args cf fr h₁).bind0 fun vs h₂ => cf (.meth c name) (v :: vs) h₂)
    | some (.list _) => (match me with
      | some m => (evs args cf fr h₁).bind0 fun vs h₂ => yG m v vs h₂
      | none => .stuck)
    | some (.dict _) => (match me with
      | some m => (evs args cf fr h₁).bind0 fun vs h₂ => ofP (meD m a vs h₂)
      | none => .stuck)
    | none => .stuck)
  | .str _ => (match me with
      | some m => (evs args cf fr h₁).bind0 fun vs h₂ => yG m v vs h₂
      | none => .stuck)
  | _ => .stuck
inductive NTgt where
  | one (i : Nat)
  | many (is : List Nat)
noncomputable def yb : List Nat → List AV → AFr → Option AFr
  | [], [], fr => some fr
  | i :: is, v :: vs, fr => if i < fr.length then yb is vs (fr.set i (some v)) else none
  | _, _, _ => none
noncomputable def z0y : AV → Option (List AV)
  | .tup xs => some xs
  | _ => none
noncomputable def NTgt.bind (t : NTgt) (v : AV) (fr : AFr) : Option AFr := match t with
  | .one i => yb [i] [v] fr
  | .many is => (match z0y v with
    | some vs => yb is vs fr
    | none => none)
noncomputable def yF (t : NTgt) (test : XT) (elt : XE) (src : Src) : Nat → Nat → List AV → CF → AFr → Hp → Out (List AV)
  | 0, _, _ => fun _ _ _ => .stuck
  | f + 1, k, acc => fun cf fr h => match src.next? h k with
    | none => .stuck
    | some none => .ok acc h
    | some (some x) => (match t.bind x fr with
      | none => .stuck
      | some fr₁ => (test cf fr₁ h).bind0 fun b h₁ =>
          if b then (elt cf fr₁ h₁).bind0 fun v h₂ => if acc.length < small then yF t test elt src f (k + 1) (acc ++ [v]) cf fr₁ h₂ else .stuck
          else yF t test elt src f (k + 1) acc cf fr₁ h₁)
noncomputable def yh (it : XE) (own : Nat) (t : NTgt) (test : XT) (elt : XE) : XE := fun cf fr h => (it cf fr h).bind fun v h₁ =>
  match yk h₁ v with
  | none => .stuck
  | some (src, n) => (yF t test elt src (n + 1) 0 [] cf (fr ++ List.replicate own none) h₁).bind0 fun vs h₂ => .ok (.ref h₂.length) (h₂ ++ [.list vs])
inductive Tgt where
  | names (t : NTgt)
  | attr (o : XE) (name : Str)
  | item (o i : XE)
  | none
noncomputable def wH (name : Str) (v : AV) : List (Str × AV) → List (Str × AV)
  | [] => [(name, v)]
  | p :: r => if p.1 == name then (p.1, v) :: r else p :: wH name v r
noncomputable def yE : XS := fun _ _ _ => .stuck
noncomputable def zV (x : XE) : XS := fun cf fr h => (x cf fr h).bindS fr fun v h₁ => .ok (.ret v) fr h₁
noncomputable def zG (x : XE) : XS := fun cf fr h => (x cf fr h).bindS fr fun _ h₁ => .ok .next fr h₁
noncomputable def sIf (t : XT) (a b : XS) : XS := fun cf fr h => (t cf fr h).bindS fr fun c h₁ => if c then a cf fr h₁ else b cf fr h₁
noncomputable def z9 : List XS → XS
  | [] => fun _ fr h => .ok .next fr h
  | s :: r => fun cf fr h => match s cf fr h with
    | .ok .next fr₁ h₁ => z9 r cf fr₁ h₁
    | o => o
noncomputable def xz (h : Hp) (o i v : AV) : Option Hp := (yf o).bind fun a => (yQ i).bind fun k => match zv h a with
  | some kvs => if kvs.length < small then some (h.set a (.dict (jY kvs k v))) else none
  | none => (zn h a).bind fun xs => if 0 ≤ k ∧ k < xs.length ∧ xs.length ≤ small then some (h.set a (.list (xs.set k.toNat v))) else none
noncomputable def z8 (okf : Str → Str → Bool) (t : Tgt) (x : XE) : XS := fun cf fr h => match t with
  | .names t => (x cf fr h).bindS fr fun v h₁ => (match t.bind v fr with
    | some fr₁ => .ok .next fr₁ h₁
    | none => .stuck)
  | .attr o name => (x cf fr h).bindS fr fun v h₁ => (o cf fr h₁).bindS fr fun ov h₂ => (match ov with
    | .ref a => (match h₂[a]? with
      | some (.inst c fs) => if okf c name && decide (fs.length < 100) then .ok .next fr (h₂.set a (.inst c (wH name v fs))) else .stuck
      | _ => .stuck)
    | _ => .stuck)
  | .item o i => (x cf fr h).bindS fr fun v h₁ => (o cf fr h₁).bindS fr fun ov h₂ => (i cf fr h₂).bindS fr fun iv h₃ => (match xz h₃ ov iv v with
    | some h₄ => .ok .next fr h₄
    | none => .stuck)
  | .none => .stuck
noncomputable def jw (h : Hp) (t : NTgt) (v : AV) (fr : AFr) : Option AFr := match t with
  | .one i => NTgt.bind (.one i) v fr
  | .many is => (match yf v with
    | some a => (zn h a).bind fun xs => yb is xs fr
    | none => NTgt.bind (.many is) v fr)
noncomputable def xT (t : NTgt) (body : XS) (src : Src) : Nat → Nat → XS
  | 0, _ => yE
  | f + 1, k => fun cf fr h => match src.next? h k with
    | none => .stuck
    | some none => .ok .next fr h
    | some (some x) => (match jw h t x fr with
      | none => .stuck
      | some fr₁ => (match body cf fr₁ h with
        | .ok .next fr₂ h₂ => xT t body src f (k + 1) cf fr₂ h₂
        | .ok (.ret v) fr₂ h₂ => .ok (.ret v) fr₂ h₂
        | _ => .stuck))
noncomputable def xQ (t : NTgt) (it : XE) (enum : Bool) (body : XS) : XS := fun cf fr h => (it cf fr h).bindS fr fun v h₁ =>
  match yk h₁ v with
  | none => .stuck
  | some (src, n) => (match enum with
    | true => (match src with
      | .ref a => (match t with
        | .many _ => xT t body (.enum a) (n + 1) 0 cf fr h₁
        | .one _ => .stuck)
      | _ => .stuck)
    | false => xT t body src (n + 1) 0 cf fr h₁)
noncomputable def yn (c : Str) : XS := fun _ fr h => .exc true c fr h
inductive HV where
  | int (k : Int)
  | slot (j : Nat)
noncomputable def HV.of (v : HV) (fr : AFr) : Option AV := match v with
  | .int k => some (.int k)
  | .slot j => (fr[j]?).join
noncomputable def Yl (b : XS) (c : Str) (i : Nat) (v : HV) : XS := fun cf fr h => match b cf fr h with
  | .stuck => .stuck
  | .ok fl fr' h' => .ok fl fr' h'
  | .exc nw c' fr' h' => (match nw with
    | true => .stuck
    | false => if c' = c ∧ i < fr'.length then (match v.of fr' with
      | some u => .ok .next (fr'.set i (some u)) h'
      | none => .stuck) else .stuck)
structure GTab where
  glob : Str → Option AV
  okf : Str → Str → Bool
  exc : Str → Bool
structure Sc where
  kind : Str → Option NameKind
  slot : Str → Option Nat
  width : Nat
noncomputable def jQ (x : Str) : Option Me :=
  if x == "append" then some .append else if x == "insert" then some .insert else if x == "index" then some .index else if x == "count" then some .count
  else if x == "remove" then some .remove else if x == "join" then some .join else if x == "pop" then some .pop else if x == "extend" then some .extend else if x == "clear" then some .clear else none
noncomputable def qQ : Expr → Bool
  | .Call (.Name _ _) [] [] _ => true
  | _ => false
noncomputable def Sc.isOwn (sc : Sc) (x : Str) : Option Nat := match sc.kind x with
  | some .local | some .cell => sc.slot x
  | _ => none
noncomputable def xe (sc : Sc) : Expr → Option Nat
  | .Name x _ => sc.isOwn x
  | _ => none
noncomputable def xY (sc : Sc) : Expr → Option NTgt
  | .Name x _ => (sc.isOwn x).map .one
  | .Tuple es _ _ => (match ya (xe sc) es with
    | some is => if is.length ≤ 10 ∧ is.Nodup then some (.many is) else none
    | none => none)
  | _ => none
noncomputable def zj (s : Scope) : List Str := (s.names.filter fun p => p.2 == .local && p.1 != (".0" : Str)).map (·.1)
noncomputable def jI (x : Str) : List Str → Nat → Option Nat
  | [], _ => none
  | y :: ys, k => if y == x then some k else jI x ys (k + 1)
noncomputable def Sc.inner (sc : Sc) (s : Scope) : Sc where
  kind := fun x => match s.names.lookup x with
    | some .free => if sc.kind x == some .cell then some .cell else some .free
    | o => o
  slot := fun x => match s.names.lookup x with
    | some .local => jI x (zj s) sc.width
    | some .free => (match sc.kind x with
      | some .cell | some .free => sc.slot x
      | _ => none)
    | _ => none
  width := sc.width + (zj s).length
noncomputable def qG (sc : Sc) (s : Scope) : Bool := s.kind == .function && s.names.all (fun p => p.2 == .local || (p.2 == .free && (sc.kind p.1 == some .cell || sc.kind p.1 == some .free) && (sc.slot p.1).isSome) || p.2 == .globalImplicit) && (s.names.map (·.1)).Nodup
noncomputable def xF (s : Scope) : Expr → Bool
  | .Name x _ => s.names.lookup x == some .local
  | .Tuple es _ _ => es.all fun e => (match e with
    | .Name x _ => s.names.lookup x == some .local
    | _ => false)
  | _ => false
noncomputable def yz : Expr → Bool
  | .Starred .. => false
  | _ => true
noncomputable def j9 : Expr → Bool
  | .Set .. => false
  | _ => true
noncomputable def XC : Expr → Option (Expr × Str × Pos)
  | .Attribute o name p => some (o, name, p)
  | _ => none
noncomputable def qL : Expr → Option (Option (Option Expr × Option Expr × Pos))
  | .Slice l u st p => some (match st with | none => some (l, u, p) | some _ => none)
  | _ => none
noncomputable def Qc : Expr → Bool
  | .ListComp .. => true
  | .SetComp .. => true
  | .DictComp .. => true
  | _ => false
noncomputable def z0d (G : GTab) (sc : Sc) (x : Str) : XE := if x == ("__debug__" : Str) || x == ("__classdict__" : Str) then zi else (match sc.kind x with
  | some k => (match k with
    | .globalImplicit => zA (G.glob x)
    | .globalExplicit => zi
    | .local => (match sc.slot x with | some i => z4 i | none => zi)
    | .cell => (match sc.slot x with | some i => z4 i | none => zi)
    | .free => (match sc.slot x with | some i => z4 i | none => zi))
  | none => zi)
noncomputable def z0e : Const → XE
  | .none => z7 .none
  | .bool b => z7 (.bool b)
  | .int i => z7 (.int i)
  | .str s => if s.length ≤ small then z7 (.str s) else zi
  | _ => zi
noncomputable def WV {α : Type} : List α → Option α
  | [a] => some a
  | _ => none
noncomputable def wA : Expr → Option (Str × Pos)
  | .Name x p => some (x, p)
  | _ => none
noncomputable def z0i : Expr → Option (Expr × List Expr × Pos)
  | .Call f as [] p => some (f, as, p)
  | _ => none
noncomputable def Zh : Expr → Option (Const × Nat × Pos)
  | .Constant c k p => some (c, k, p)
  | _ => none
noncomputable def zCw : Const → Option Str
  | .str m => some m
  | _ => none
noncomputable def zE6 : Bi → Bool
  | .enumerate => true
  | _ => false
theorem j8 {α : Type} {l : List α} {a : α} (h : WV l = some a) : l = [a] := by
  cases l with
  | nil => exact nos h
  | cons x r => cases r with
    | nil => cases h; rfl
    | cons => exact nos h
theorem xH {e : Expr} {t : Str × Pos} (h : wA e = some t) : e = .Name t.1 t.2 := by
  cases e with
  | Name => cases h; rfl
  | _ => exact nos h
theorem Q7 {e : Expr} {t : Expr × List Expr × Pos} (h : z0i e = some t) : e = .Call t.1 t.2.1 [] t.2.2 := by
  cases e with
  | Call f as ks p => cases ks with
    | nil => cases h; rfl
    | cons => exact nos h
  | _ => exact nos h
theorem YM {e : Expr} {t : Const × Nat × Pos} (h : Zh e = some t) : e = .Constant t.1 t.2.1 t.2.2 := by
  cases e with
  | Constant => cases h; rfl
  | _ => exact nos h
theorem z18 {c : Const} {m : Str} (h : zCw c = some m) : c = .str m := by
  cases c with
  | str => cases h; rfl
  | _ => exact nos h
mutual
noncomputable def dE (G : GTab) : Nat → Sc → Expr → XE
  | 0, _, _ => zi
  | n + 1, sc, e => match e with
    | .Constant c _ _ => z0e c
    | .Name x _ => z0d G sc x
    | .BoolOp op es _ => jM op (es.map (dE G n sc))
    | .BinOp l op r _ => zI op (dE G n sc l) (dE G n sc r)
    | .UnaryOp op x _ => (match op with
      | .Not => Qj (dE G n sc x)
      | .USub => zCl (dE G n sc x)
      | _ => zi)
    | .IfExp t a b _ => cIf (dT G n sc t) (dE G n sc a) (dE G n sc b)
    | .List es _ => if es.all yz = true ∧ es.length ≤ 1000 then zw (es.map (dE G n sc)) else zi
    | .Tuple es _ _ => if es.all yz = true ∧ es.length ≤ 1000 then yZ (es.map (dE G n sc)) else zi
    | .Compare l ops rs _ => if lastMarks ops rs = false then Zn (dE G n sc l) ops (rs.map (dE G n sc)) else zi
    | .Call f args kws pos => (match kws with
      | [] => if args.all yz = true ∧ args.length < 30 then (match XC f with
        | some t => if qQ t.1 = false ∧ (t.2.2.endLine == pos.line) = true then z6 (dE G n sc t.1) t.2.1 (jQ t.2.1) (args.map (dE G n sc)) else zi
        | none => zB (dE G n sc f) (args.map (dE G n sc))) else zi
      | _ :: _ => zi)
    | .Dict ks vs _ => (match ks with
      | [] => (match vs with
        | [] => xm
        | _ :: _ => zi)
      | _ :: _ => zi)
    | .Attribute o name _ => if qQ o = false then zD (dE G n sc o) name else zi
    | .Subscript o i _ => (match qL i with
      | some q => (match q with
        | some t => Z2 (dE G n sc o) (z0b G n sc t.1) (z0b G n sc t.2.1)
        | none => zi)
      | none => zR (dE G n sc o) (dE G n sc i))
    | .ListComp elt gs s _ => (match gs with
      | [g] => if qG sc s = true ∧ g.is_async = 0 ∧ j9 g.iter = true ∧ xF s g.target = true then (match xY (sc.inner s) g.target with
        | some t => yh (dE G n sc g.iter) (zj s).length t (zT .And (g.ifs.map (dT G n (sc.inner s)))) (dE G n (sc.inner s) elt)
        | none => zi) else zi
      | _ => zi)
    | _ => zi
noncomputable def dT (G : GTab) : Nat → Sc → Expr → XT
  | 0, _, _ => fun _ _ _ => .stuck
  | n + 1, sc, e => match e with
    | .UnaryOp op x _ => (match op with
      | .Not => yA (dT G n sc x)
      | _ => fun _ _ _ => .stuck)
    | .BoolOp op es _ => zT op (es.map (dT G n sc))
    | .IfExp _ _ _ _ => fun _ _ _ => .stuck
    | .Compare l ops rs _ => if lastMarks ops rs = false then zN (dE G n sc l) ops (rs.map (dE G n sc)) else fun _ _ _ => .stuck
    | e => zp (dE G n sc e)
noncomputable def z0b (G : GTab) : Nat → Sc → Option Expr → XE
  | 0, _, _ => zi
  | n + 1, sc, e => match e with
    | some e => dE G n sc e
    | none => z7 .none
end
noncomputable def xl (sc : Sc) (G : GTab) (e : Expr) : Option Expr := (z0i e).bind fun c => (wA c.1).bind fun x => (WV c.2.1).bind fun a => (G.glob x.1).bind fun v => (zCr v).bind fun b =>
  if zE6 b = true ∧ sc.kind x.1 = some .globalImplicit ∧ yz a = true ∧ (x.1 == ("__debug__" : Str)) = false then some a else none
noncomputable def QH (sc : Sc) (t e : Expr) : Bool := (((Wv t).bind fun t => Wu t.1).bind fun p => (wA p.1).bind fun x => (wA p.2).bind fun y => ((Wv e).bind fun t => Wu t.1).map fun q =>
  decide (sc.kind x.1 = some .local) && (decide (sc.kind y.1 = some .local) && ((y.2.line == x.2.line) && (!(x.1 == y.1) && (yz q.1 && (yz q.2 && (!foldedForSure 8 q.1 && !constantsAlone 8 q.1))))))).getD false
noncomputable def Qw (t e : Expr) : Bool := match t with
  | .Tuple .. => (match e with
    | .Tuple .. => true
    | _ => false)
  | .List .. => true
  | _ => false
noncomputable def z0c (sc : Sc) (e : Expr) : Tgt := match xY sc e with
  | some t => .names t
  | none => .none
noncomputable def zEo (G : GTab) (n : Nat) (sc : Sc) : Expr → Tgt
  | .Name x p => z0c sc (.Name x p)
  | .Tuple es k p => z0c sc (.Tuple es k p)
  | .Attribute o name _ => if qQ o = false then .attr (dE G n sc o) name else .none
  | .Subscript o i _ => (match qL i with
    | some _ => .none
    | none => .item (dE G n sc o) (dE G n sc i))
  | _ => .none
noncomputable def Z7 (e : Expr) : Option (Str × Str) := (z0i e).bind fun c => (wA c.1).bind fun x => (WV c.2.1).bind fun a => (Zh a).bind fun k => (zCw k.1).map fun m => (x.1, m)
noncomputable def zEa : Stmt → Option (List Expr × Expr × Pos)
  | .Assign ts e p => some (ts, e, p)
  | _ => none
theorem z2g {s : Stmt} {t : List Expr × Expr × Pos} (h : zEa s = some t) : s = .Assign t.1 t.2.1 t.2.2 := by
  cases s with
  | Assign => cases h; rfl
  | _ => exact nos h
noncomputable def zCd : Const → Option Int
  | .int i => some i
  | _ => none
theorem z20 {c : Const} {i : Int} (h : zCd c = some i) : c = .int i := by
  cases c with
  | int => cases h; rfl
  | _ => exact nos h
noncomputable def z0x (sc : Sc) (e : Expr) : Option HV := match Zh e with
  | some k => (zCd k.1).map .int
  | none => (wA e).bind fun x => (sc.isOwn x.1).bind fun j => if (x.1 == ("__debug__" : Str)) = false ∧ (x.1 == ("__classdict__" : Str)) = false then some (.slot j) else none
noncomputable def jq : ExceptHandler → Option Expr × Option Str × List Stmt × Pos
  | .ExceptHandler t n b p => (t, n, b, p)
theorem z01 (h : ExceptHandler) : h = .ExceptHandler (jq h).1 (jq h).2.1 (jq h).2.2.1 (jq h).2.2.2 := by cases h; rfl
noncomputable def wO (sc : Sc) (hs : List ExceptHandler) : Option (Str × Nat × HV) := (WV hs).bind fun h => (jq h).1.bind fun t => (wA t).bind fun x => (WV (jq h).2.2.1).bind fun s => (zEa s).bind fun a => (WV a.1).bind fun y => (wA y).bind fun y => (sc.isOwn y.1).bind fun i => (z0x sc a.2.1).bind fun v =>
  if (jq h).2.1.isNone = true then some (x.1, i, v) else none
mutual
noncomputable def dS (G : GTab) : Nat → Sc → Stmt → XS
  | 0, _, _ => yE
  | n + 1, sc, st => match st with
    | .Return eo _ => (match eo with
      | some e => zV (dE G n sc e)
      | none => zV (z7 .none))
    | .Expr e _ => if Qc e = false then zG (dE G n sc e) else yE
    | .Assign ts e _ => (match ts with
      | [t] => if Qw t e = false ∨ QH sc t e = true then z8 G.okf (zEo G n sc t) (dE G n sc e) else yE
      | _ => yE)
    | .Raise e c _ => (match c with
      | some _ => yE
      | none => (match e.bind Z7 with
        | some p => if G.exc p.1 = true ∧ sc.kind p.1 = some .globalImplicit ∧ (p.1 == ("__debug__" : Str)) = false ∧ p.2.length ≤ small then yn p.1 else yE
        | none => yE))
    | .Try b hs el fi _ => (match el with
      | _ :: _ => yE
      | [] => (match fi with
        | _ :: _ => yE
        | [] => (match wO sc hs with
          | some p => if G.exc p.1 = true ∧ sc.kind p.1 = some .globalImplicit ∧ (p.1 == ("__debug__" : Str)) = false then Yl (dSs G n sc b) p.1 p.2.1 p.2.2 else yE
          | none => yE)))
    | .If t a b _ => sIf (dT G n sc t) (dSs G n sc a) (dSs G n sc b)
    | .For t it b els _ => (match els with
      | [] => (match xY sc t with
        | some t => (match xl sc G it with
          | some e => xQ t (dE G n sc e) true (dSs G n sc b)
          | none => if j9 it = true then xQ t (dE G n sc it) false (dSs G n sc b) else yE)
        | none => yE)
      | _ :: _ => yE)
    | _ => yE
noncomputable def dSs (G : GTab) : Nat → Sc → List Stmt → XS
  | 0, _, _ => yE
  | n + 1, sc, sts => z9 (sts.map (dS G n sc))
end
structure Fn where
  np : Nat
  nl : Nat
  body : XS
inductive What where
  | fn (f : Fn)
  | cls
structure Tab where
  what : Str → Option What
  meth : Str → Str → Option Fn
noncomputable def yK (f : Fn) (cf : CF) (args : List AV) (h : Hp) : Out AV :=
  if args.length = f.np then (match f.body cf (args.map some ++ List.replicate (f.nl - f.np) none) h with
    | .ok (.ret v) _ h' => .ok v h'
    | .ok .next _ h' => .ok .none h'
    | .exc _ c _ h' => .exc c h'
    | .stuck => .stuck) else .stuck
noncomputable def run (T : Tab) : Nat → CF
  | 0 => fun _ _ _ => .stuck
  | n + 1 => fun c args h => match c with
    | .fn x => (match T.what x with
      | some (.fn f) => yK f (run T n) args h
      | _ => .stuck)
    | .meth c x => (match T.meth c x with
      | some f => yK f (run T n) args h
      | none => .stuck)
    | .cls x => (match T.what x with
      | some .cls => (match T.meth x "__init__" with
        | some f => (yK f (run T n) (.ref h.length :: args) (h ++ [.inst x []])).bind0 fun v h' => (match v with
          | .none => .ok (.ref h.length) h'
          | _ => .stuck)
        | none => .stuck)
      | _ => .stuck)
end Mine
end
end
section
set_option genSizeOf false
noncomputable section
namespace Mine
open PySem PySem.W
abbrev Mu := List (Addr × Option Addr)
noncomputable def zb (μ : Mu) : List Addr := μ.flatMap fun p => p.1 :: p.2.toList
structure Cx where
  K : Frag
  base : Heap
  os : OsState
noncomputable def wa : Bi → Value
  | .str => .type "str" | .any => .builtin "any" | .all => .builtin "all" | .enumerate => .type "enumerate" | .len => .builtin "len" | .isinstance => .builtin "isinstance" | .int => .type "int" | .bool => .type "bool"  | .list => .type "list"
  | .range => .type "range" | .min => .builtin "min" | .max => .builtin "max" | .sorted => .builtin "sorted" | .tuple => .type "tuple"
mutual
inductive VR (X : Cx) (μ : Mu) (h : Heap) : AV → Value → Prop
  | none : VR X μ h .none .none
  | bool (b : Bool) : VR X μ h (.bool b) (.bool b)
  | int (i : Int) (t : Tok) : VR X μ h (.int i) (.int i t)
  | str {x : Str} (t : Tok) : x.length ≤ small → VR X μ h (.str x) (.str x t)
  | ref {a : Nat} {p : Addr × Option Addr} : μ[a]? = some p → VR X μ h (.ref a) (.ref p.1)
  | tup {c : Addr} {items : Array Value} {xs : List AV} : h.IsTuple c items → xs.length ≤ small → VRs X μ h xs items.toList → VR X μ h (.tup xs) (.ref c)
  | lst {c : Addr} {items : Array Value} {xs : List AV} : X.base.IsList c items → xs.length ≤ small → VRs X μ h xs items.toList → VR X μ h (.lst xs) (.ref c)
  | range {c : Addr} {a b : Int} {t u v : Tok} : IsRange h c a b 1 t u v → a.natAbs < 2 ^ 62 → b.natAbs < 2 ^ 62 → VR X μ h (.range a b) (.ref c)
  | fn {x : Str} {f : Addr} : nsIn X.K mainGlobals x = some (some (.ref f)) → VR X μ h (.fn x) (.ref f)
  | cls {x : Str} {f : Addr} : nsIn X.K mainGlobals x = some (some (.ref f)) → VR X μ h (.cls x) (.ref f)
  | bi (b : Bi) : VR X μ h (.bi b) (wa b)
inductive VRs (X : Cx) (μ : Mu) (h : Heap) : List AV → List Value → Prop
  | nil : VRs X μ h [] []
  | cons {x : AV} {v : Value} {xs : List AV} {vs : List Value} : VR X μ h x v → VRs X μ h xs vs → VRs X μ h (x :: xs) (v :: vs)
end
noncomputable def yS (o : Obj) : Prop := (o.cls = .type "tuple" ∧ ∃ xs n, o.data = .seq xs n) ∨ (o.cls = .type "range" ∧ ∃ vs, o.data = .fields vs)
section
variable {X : Cx} {μ μ' : Mu} {h h' : Heap} (hp : μ <+: μ') (hf : ∀ b o, h.get? b = some o → yS o → h'.get? b = some o)
include hp hf
theorem VR.mono {x : AV} {v : Value} (r : VR X μ h x v) : VR X μ' h' x v :=
  VR.rec (motive_1 := fun x v _ => VR X μ' h' x v) (motive_2 := fun xs vs _ => VRs X μ' h' xs vs) .none .bool .int (fun t z => .str t z)
    (fun e => .ref (by
      obtain ⟨r, rfl⟩ := hp
      rw [List.getElem?_append_left (y8 e).1]; exact e))
    (fun t z _ q => .tup (let ⟨o, ho, hc, n, hd⟩ := t; ⟨o, hf _ _ ho (.inl ⟨hc, _, n, hd⟩), hc, n, hd⟩) z q) (fun e z _ q => .lst e z q) (fun e z1 z2 => .range (hf _ _ e (.inr ⟨rfl, _, rfl⟩)) z1 z2) .fn .cls .bi .nil (fun _ _ a b => .cons a b) r
theorem VRs.mono {xs : List AV} {vs : List Value} (r : VRs X μ h xs vs) : VRs X μ' h' xs vs := by
  induction xs generalizing vs with
  | nil => cases r; exact .nil
  | cons x xs ih => cases r with | cons a b => exact .cons (a.mono hp hf) (ih b)
end
section
variable {X : Cx} {μ : Mu} {h : Heap} {c : Value}
theorem VR.none_ (r : VR X μ h .none c) : c = .none := by cases r; rfl
theorem VR.bool_ {b : Bool} (r : VR X μ h (.bool b) c) : c = .bool b := by cases r; rfl
theorem VR.int_ {i : Int} (r : VR X μ h (.int i) c) : ∃ t, c = .int i t := by cases r; exact ⟨_, rfl⟩
theorem VR.str_ {x : Str} (r : VR X μ h (.str x) c) : ∃ t, c = .str x t ∧ x.length ≤ small := by cases r; exact ⟨_, rfl, by assumption⟩
theorem VR.ref_ {a : Nat} (r : VR X μ h (.ref a) c) : ∃ p, μ[a]? = some p ∧ c = .ref p.1 := by cases r; exact ⟨_, by assumption, rfl⟩
theorem VR.tup_ {xs : List AV} (r : VR X μ h (.tup xs) c) : ∃ a items, c = .ref a ∧ h.IsTuple a items ∧ xs.length ≤ small ∧ VRs X μ h xs items.toList := by
  cases r with | tup a b d => exact ⟨_, _, rfl, a, b, d⟩
theorem VR.lst_ {xs : List AV} (r : VR X μ h (.lst xs) c) : ∃ a items, c = .ref a ∧ X.base.IsList a items ∧ xs.length ≤ small ∧ VRs X μ h xs items.toList := by
  cases r with | lst a b d => exact ⟨_, _, rfl, a, b, d⟩
theorem VR.range_ {a b : Int} (r : VR X μ h (.range a b) c) : ∃ e t u v, c = .ref e ∧ IsRange h e a b 1 t u v ∧ a.natAbs < 2 ^ 62 ∧ b.natAbs < 2 ^ 62 := by
  cases r with | range a b d => exact ⟨_, _, _, _, rfl, a, b, d⟩
theorem VR.fn_ {x : Str} (r : VR X μ h (.fn x) c) : ∃ f, c = .ref f ∧ nsIn X.K mainGlobals x = some (some (.ref f)) := by cases r; exact ⟨_, rfl, by assumption⟩
theorem VR.cls_ {x : Str} (r : VR X μ h (.cls x) c) : ∃ f, c = .ref f ∧ nsIn X.K mainGlobals x = some (some (.ref f)) := by cases r; exact ⟨_, rfl, by assumption⟩
theorem VR.bi_ {b : Bi} (r : VR X μ h (.bi b) c) : c = wa b := by cases r; rfl
theorem VRs.nil_ {vs : List Value} (r : VRs X μ h [] vs) : vs = [] := by cases r; rfl
theorem VRs.cons_ {x : AV} {xs : List AV} {vs : List Value} (r : VRs X μ h (x :: xs) vs) : ∃ v ws, vs = v :: ws ∧ VR X μ h x v ∧ VRs X μ h xs ws := by
  cases r with | cons a b => exact ⟨_, _, rfl, a, b⟩
end
inductive FsR (X : Cx) (μ : Mu) (h : Heap) : List (Str × AV) → List DictEntry → Prop
  | nil : FsR X μ h [] []
  | cons {n : Str} {v : AV} {hs : Int} {t : Tok} {w : Value} {r : List (Str × AV)} {es : List DictEntry} : VR X μ h v w → FsR X μ h r es → FsR X μ h ((n, v) :: r) (⟨hs, .str n t, w⟩ :: es)
theorem FsR.mono {X : Cx} {μ μ' : Mu} {h h' : Heap} (hp : μ <+: μ') (hf : ∀ b o, h.get? b = some o → yS o → h'.get? b = some o) :
    ∀ {fs : List (Str × AV)} {es : List DictEntry}, FsR X μ h fs es → FsR X μ' h' fs es
  | _, _, .nil => .nil
  | _, _, .cons a b => .cons (a.mono hp hf) (b.mono hp hf)
noncomputable def xg (K : Frag) (C : Addr) : Bool := plainGet K C Str.empty && hasDictIn K C && (findIn K (.ref C) "__setattr__" == some (some (.builtin "object.__setattr__"))) && plainOver K C
noncomputable def wP (K : Frag) (C : Addr) (name : Str) : Bool := findIn K (.ref C) name == some none
inductive PRs (X : Cx) (μ : Mu) (h : Heap) : List (Int × AV) → List (Int × Value) → Prop
  | nil : PRs X μ h [] []
  | cons {k : Int} {v : AV} {w : Value} {r : List (Int × AV)} {es : List (Int × Value)} : VR X μ h v w → PRs X μ h r es → PRs X μ h ((k, v) :: r) ((k, w) :: es)
theorem PRs.mono {X : Cx} {μ μ' : Mu} {h h' : Heap} (hp : μ <+: μ') (hf : ∀ b o, h.get? b = some o → yS o → h'.get? b = some o) {fs : List (Int × AV)} {es : List (Int × Value)} (r : PRs X μ h fs es) : PRs X μ' h' fs es := by
  induction r with
  | nil => exact .nil
  | cons a _ b => exact .cons (a.mono hp hf) b
theorem Jb {prog prog' : Program} {w w' : World} {es : List DictEntry} {kvs : List (Int × Value)} (p : Pairs (intKind prog w) es kvs) : Pairs (intKind prog' w') es kvs := by
  induction p with
  | nil => exact .nil
  | cons a b _ ih => exact .cons a b ih
theorem z2a {prog prog' : Program} {w w' : World} {h : Heap} {c : Addr} {kvs : List (Int × Value)} (d : h.DictOf (intKind prog w) c kvs) : h.DictOf (intKind prog' w') c kvs :=
  let ⟨o, es, ep, ho, hc, hd, hk, hp, hn⟩ := d
  ⟨o, es, ep, ho, hc, hd, hk, Jb hp, hn⟩
inductive OR (X : Cx) (μ : Mu) (h : Heap) : AO → Addr × Option Addr → Prop
  | list {c : Addr} {items : Array Value} {n : Nat} {xs : List AV} : IsL h c items n → xs.length ≤ small → VRs X μ h xs items.toList → OR X μ h (.list xs) (c, none)
  | inst {x dx C : Addr} {cls : Str} {fs : List (Str × AV)} {es : List DictEntry} {n : Nat} {sl : Array (Option Value)} :
      nsIn X.K mainGlobals cls = some (some (.ref C)) → h.get? x = some ⟨.ref C, some dx, .plain, sl⟩ → h.get? dx = some (dictOf es n) → FsR X μ h fs es →
      xg X.K C = true → (∀ p ∈ fs, wP X.K C p.1 = true) → fs.length ≤ 100 → OR X μ h (.inst cls fs) (x, some dx)
  | dict {prog : Program} {w : World} {c : Addr} {kvs : List (Int × AV)} {es : List (Int × Value)} : h.DictOf (intKind prog w) c es → PRs X μ h kvs es → (c == sysModules) = false → kvs.length ≤ small → OR X μ h (.dict kvs) (c, none)
noncomputable def ads (p : Addr × Option Addr) : List Addr := p.1 :: p.2.toList
theorem OR.mono {X : Cx} {μ μ' : Mu} {h h' : Heap} {o : AO} {p : Addr × Option Addr} (r : OR X μ h o p) (hp : μ <+: μ') (hf : ∀ b o, h.get? b = some o → yS o → h'.get? b = some o)
    (hk : ∀ b ∈ ads p, ∀ o, h.get? b = some o → h'.get? b = some o) : OR X μ' h' o p := by
  cases r with
  | list l z q =>
    exact .list (hk _ (.head _) _ l) z (q.mono hp hf)
  | inst a b c d e f g => exact .inst a (hk _ (.head _) _ b) (hk _ (.tail _ (.head _)) _ c) (d.mono hp hf) e f g
  | dict a b c d => exact .dict (let ⟨o, es, ep, ho, q⟩ := a; ⟨o, es, ep, hk _ (.head _) _ ho, q⟩) (b.mono hp hf) c d
theorem OR.list_ {X : Cx} {μ : Mu} {h : Heap} {xs : List AV} {p : Addr × Option Addr} (r : OR X μ h (.list xs) p) : ∃ c items n, p = (c, none) ∧ IsL h c items n ∧ xs.length ≤ small ∧ VRs X μ h xs items.toList := by
  cases r with | list a b d => exact ⟨_, _, _, rfl, a, b, d⟩
theorem OR.inst_ {X : Cx} {μ : Mu} {h : Heap} {cls : Str} {fs : List (Str × AV)} {p : Addr × Option Addr} (r : OR X μ h (.inst cls fs) p) : ∃ (x dx C : Addr) (es : List DictEntry) (n : Nat) (sl : Array (Option Value)), p = (x, some dx) ∧
      nsIn X.K mainGlobals cls = some (some (.ref C)) ∧ h.get? x = some ⟨.ref C, some dx, .plain, sl⟩ ∧ h.get? dx = some (dictOf es n) ∧ FsR X μ h fs es ∧ xg X.K C = true ∧ (∀ p ∈ fs, wP X.K C p.1 = true) ∧ fs.length ≤ 100 := by
  cases r with | inst a b d e f g i => exact ⟨_, _, _, _, _, _, rfl, a, b, d, e, f, g, i⟩
noncomputable def Mut (o : Obj) : Prop := (o.cls = .type "list" ∧ ∃ xs n, o.data = .seq xs n) ∨ (∃ C, o.cls = .ref C ∧ o.data = .plain) ∨ (o.cls = .type "dict")
theorem Mut.notFixed {o : Obj} (m : Mut o) : ¬ yS o := by
  rintro (⟨f, _⟩ | ⟨f, _⟩) <;> rcases m with ⟨m, _⟩ | ⟨C, m, _⟩ | m <;> rw [f] at m <;> first | (cases m; done) | (injection m with m; exact absurd m (by decide))
theorem OR.mut {X : Cx} {μ : Mu} {h : Heap} {o : AO} {p : Addr × Option Addr} (r : OR X μ h o p) : ∀ b ∈ ads p, ∃ o, h.get? b = some o ∧ Mut o := by
  cases r with
  | list l z q =>
    intro b hb
    cases hb with
    | head => exact ⟨_, l, .inl ⟨rfl, _, _, rfl⟩⟩
    | tail _ h => cases h
  | inst a b' c d e f g =>
    intro b hb
    cases hb with
    | head => exact ⟨_, b', .inr (.inl ⟨_, rfl, rfl⟩)⟩
    | tail _ h => cases h with
      | head => exact ⟨_, c, .inr (.inr rfl)⟩
      | tail _ h => cases h
  | dict a _ _ _ =>
    intro b hb
    cases hb with
    | head =>
      obtain ⟨o, es, ep, ho, hc, _⟩ := a
      exact ⟨_, ho, .inr (.inr hc.1)⟩
    | tail _ h => cases h
structure Inv (X : Cx) (μ : Mu) (hp : Hp) (s : Shared) : Prop where
  len : μ.length = hp.length
  nodup : (zb μ).Nodup
  above : ∀ a ∈ zb μ, X.base.get? a = none
  rep : ∀ (i : Nat) (p : Addr × Option Addr) (o : AO), μ[i]? = some p → hp[i]? = some o → OR X μ s.heap o p
  keep : ∀ b o, X.base.get? b = some o → s.heap.get? b = some o
  gens : s.gens = #[]
  os : s.os = X.os
theorem yN {μ : Mu} {b : Addr} : b ∈ zb μ ↔ ∃ (i : Nat) (p : Addr × Option Addr), μ[i]? = some p ∧ b ∈ ads p := by
  unfold zb ads
  rw [List.mem_flatMap]
  constructor
  · rintro ⟨p, hp, hb⟩
    obtain ⟨i, hi⟩ := List.getElem?_of_mem hp
    exact ⟨i, p, hi, hb⟩
  · rintro ⟨i, p, hi, hb⟩
    exact ⟨p, yI hi, hb⟩
theorem jx : ∀ {μ : Mu}, (zb μ).Nodup → ∀ {i j : Nat} {p q : Addr × Option Addr} {b : Addr}, μ[i]? = some p → μ[j]? = some q → b ∈ ads p → b ∈ ads q → i = j
  | [], _, _, _, _, _, _, h, _, _, _ => by cases h
  | r :: μ, nd, i, j, p, q, b, hi, hj, hp, hq => by
    have e : zb (r :: μ) = ads r ++ zb μ := rfl
    rw [e, List.nodup_append] at nd
    obtain ⟨_, n2, n3⟩ := nd
    cases i with
    | zero =>
      cases j with
      | zero => rfl
      | succ j =>
        cases hi
        exact absurd rfl (n3 b hp b (yN.mpr ⟨j, q, hj, hq⟩))
    | succ i =>
      cases j with
      | zero =>
        cases hj
        exact absurd rfl (n3 b hq b (yN.mpr ⟨i, p, hi, hp⟩))
      | succ j => exact congrArg _ (jx n2 (i := i) (j := j) hi hj hp hq)
section
variable {X : Cx} {μ μ' : Mu} {hp hp' : Hp} {s s' : Shared}
theorem Inv.obj (I : Inv X μ hp s) {i : Nat} {p : Addr × Option Addr} (h : μ[i]? = some p) : ∃ o, hp[i]? = some o := by
  have := (y8 h).1
  rw [I.len] at this
  exact ⟨hp[i], y9 this⟩
theorem Inv.mut (I : Inv X μ hp s) {b : Addr} (h : b ∈ zb μ) : ∃ o, s.heap.get? b = some o ∧ Mut o := by
  obtain ⟨i, p, hi, hb⟩ := yN.mp h
  obtain ⟨o, ho⟩ := I.obj hi
  exact (I.rep i p o hi ho).mut b hb
theorem Inv.dict_at (I : Inv X μ hp s) {a : Nat} {c : Value} {kvs : List (Int × AV)} (r : VR X μ s.heap (.ref a) c) (e : hp[a]? = some (.dict kvs)) (prog : Program) (w : World) :
    ∃ d es, c = .ref d ∧ μ[a]? = some (d, none) ∧ s.heap.DictOf (intKind prog w) d es ∧ PRs X μ s.heap kvs es ∧ (d == sysModules) = false ∧ kvs.length ≤ small := by
  obtain ⟨p, hp, rfl⟩ := r.ref_
  have := I.rep _ _ _ hp e
  cases this with
  | dict a b c d => exact ⟨_, _, rfl, hp, z2a a, b, c, d⟩
theorem Inv.list_at (I : Inv X μ hp s) {a : Nat} {c : Value} {xs : List AV} (r : VR X μ s.heap (.ref a) c) (e : hp[a]? = some (.list xs)) :
    ∃ d items n, c = .ref d ∧ μ[a]? = some (d, none) ∧ IsL s.heap d items n ∧ xs.length ≤ small ∧ VRs X μ s.heap xs items.toList := by
  obtain ⟨p, hp, rfl⟩ := r.ref_
  obtain ⟨d, items, n, rfl, l, z, q⟩ := (I.rep _ _ _ hp e).list_
  exact ⟨d, items, n, rfl, hp, l, z, q⟩
noncomputable def isD (o : Obj) : Bool := match o.data with
  | .dict .. => true
  | _ => false
noncomputable def Zu (o : Obj) (x : Option Obj) : Prop := x = some o ∨ (isD o = true ∧ ∃ sl, x = some { o with slots := sl })
theorem Zu.exact {o : Obj} {x : Option Obj} (n : Zu o x) (h : isD o = false) : x = some o := by
  rcases n with e | ⟨e, _⟩
  · exact e
  · rw [h] at e; exact nob e
theorem Zu.get {o : Obj} {x : Option Obj} (n : Zu o x) : ∃ o', x = some o' ∧ o'.data = o.data := by
  rcases n with e | ⟨_, sl, e⟩
  · exact ⟨o, e, rfl⟩
  · exact ⟨_, e, rfl⟩
theorem Zu.trans {o : Obj} {x y : Option Obj} (n : Zu o x) (m : ∀ o', x = some o' → Zu o' y) : Zu o y := by
  rcases n with e | ⟨d, sl, e⟩
  · exact m o e
  · rcases m _ e with q | ⟨_, sl', q⟩
    · exact .inr ⟨d, sl, q⟩
    · exact .inr ⟨d, sl', q⟩
theorem yS.notD {o : Obj} (f : yS o) : isD o = false := by
  unfold isD
  rcases f with ⟨_, xs, n, q⟩ | ⟨_, vs, q⟩ <;> rw [q]
theorem ZZ {o : Obj} {es : Array DictEntry} {n : Nat} (h : o.data = .dict es n) : isD o = true := by unfold isD; rw [h]
theorem Jz {o o' : Obj} (h : o'.data = o.data) : isD o' = isD o := by unfold isD; rw [h]
structure Le (S : Addr → Prop) (μ : Mu) (s : Shared) (μ' : Mu) (s' : Shared) : Prop where
  pre : μ <+: μ'
  fresh : ∀ a ∈ zb μ', a ∈ zb μ ∨ s.heap.get? a = none
  exist : ∀ b o, s.heap.get? b = some o → ∃ o', s'.heap.get? b = some o'
  keep : ∀ b o, b ∉ zb μ → ¬ S b → s.heap.get? b = some o → Zu o (s'.heap.get? b)
noncomputable def noS : Addr → Prop := fun _ => False
theorem Le.refl {S : Addr → Prop} : Le S μ s μ s := ⟨List.prefix_refl _, fun _ h => .inl h, fun _ o e => ⟨o, e⟩, fun _ _ _ _ e => .inl e⟩
theorem Le.trans {S : Addr → Prop} {μ₁ μ₂ : Mu} {s₁ s₂ : Shared} (a : Le S μ s μ₁ s₁) (b : Le S μ₁ s₁ μ₂ s₂) : Le S μ s μ₂ s₂ := by
  refine ⟨a.pre.trans b.pre, fun x hx => ?_, fun x o e => ?_, fun x o n ns e => ?_⟩
  · rcases b.fresh x hx with h | h
    · exact a.fresh x h
    · cases q : s.heap.get? x with
      | none => exact .inr rfl
      | some o => obtain ⟨o', e'⟩ := a.exist x o q; rw [h] at e'; cases e'
  · obtain ⟨o', e'⟩ := a.exist x o e
    exact b.exist x o' e'
  · refine (a.keep x o n ns e).trans fun o' e' => b.keep x o' (fun h => ?_) ns e'
    rcases a.fresh x h with h | h
    · exact n h
    · rw [e] at h; cases h
theorem Le.weak {S S' : Addr → Prop} (h : ∀ b, S b → S' b) (a : Le S μ s μ' s') : Le S' μ s μ' s' := ⟨a.pre, a.fresh, a.exist, fun b o n ns e => a.keep b o n (fun q => ns (h b q)) e⟩
theorem Le.drop {S S' : Addr → Prop} (a : Le S μ s μ' s') (h : ∀ b o, S b → s.heap.get? b = some o → S' b) : Le S' μ s μ' s' :=
  ⟨a.pre, a.fresh, a.exist, fun b o n ns e => a.keep b o n (fun q => ns (h b o q e)) e⟩
theorem Le.ofKeep {S : Addr → Prop} (h : ∀ b o, s.heap.get? b = some o → s'.heap.get? b = some o) : Le S μ s μ s' := ⟨List.prefix_refl _, fun _ h => .inl h, fun b o e => ⟨o, h b o e⟩, fun b o _ _ e => .inl (h b o e)⟩
theorem Le.fixed {S : Addr → Prop} (I : Inv X μ hp s) (hS : ∀ b o, S b → s.heap.get? b = some o → ¬ yS o) (a : Le S μ s μ' s') : ∀ b o, s.heap.get? b = some o → yS o → s'.heap.get? b = some o := fun b o e f =>
  (a.keep b o (fun h => by obtain ⟨o', e', m⟩ := I.mut h; rw [e] at e'; cases e'; exact m.notFixed f) (fun h => hS b o h e f) e).exact f.notD
theorem VR.le {x : AV} {v : Value} (r : VR X μ s.heap x v) (I : Inv X μ hp s) (a : Le noS μ s μ' s') : VR X μ' s'.heap x v := r.mono a.pre (a.fixed I fun _ _ h => h.elim)
theorem VRs.le {x : List AV} {v : List Value} (r : VRs X μ s.heap x v) (I : Inv X μ hp s) (a : Le noS μ s μ' s') : VRs X μ' s'.heap x v := r.mono a.pre (a.fixed I fun _ _ h => h.elim)
theorem Inv.grow (I : Inv X μ hp s) {h' : Heap} {t : Nat} (hk : ∀ b o, s.heap.get? b = some o → h'.get? b = some o) : Inv X μ hp { s with heap := h', toks := t } where
  len := I.len
  nodup := I.nodup
  above := I.above
  rep i p o a b := (I.rep i p o a b).mono (List.prefix_refl _) (fun b o e _ => hk b o e) fun b _ o e => hk b o e
  keep b o e := hk b o (I.keep b o e)
  gens := I.gens
  os := I.os
theorem Inv.tok (I : Inv X μ hp s) (t : Nat) : Inv X μ hp { s with toks := t } := ⟨I.len, I.nodup, I.above, I.rep, I.keep, I.gens, I.os⟩
theorem Le.grow {S : Addr → Prop} {h' : Heap} {t : Nat} (hk : ∀ b o, s.heap.get? b = some o → h'.get? b = some o) : Le S μ s μ { s with heap := h', toks := t } := .ofKeep hk
theorem Le.tok {S : Addr → Prop} (t : Nat) : Le S μ s μ { s with toks := t } := .ofKeep fun _ _ e => e
noncomputable def Frs (X : Cx) (l : List Env) (μ : Mu) (h : Heap) : Prop := ∀ v ∈ l, v.scope.kind ≠ .module ∧ ∃ L o, v.frame = some L ∧ X.base.get? L = none ∧ L ∉ zb μ ∧ h.get? L = some o ∧ isD o = true
theorem Frs.mono {l : List Env} {h h' : Heap} (f : Frs X l μ h) (m : ∀ b o, b ∉ zb μ → h.get? b = some o → isD o = true → b ∉ zb μ' ∧ ∃ o', h'.get? b = some o' ∧ isD o' = true) : Frs X l μ' h' := fun v hv => by
  obtain ⟨k, L, o, e1, e2, e3, e4, e5⟩ := f v hv
  obtain ⟨m1, o', m2, m3⟩ := m L o e3 e4 e5
  exact ⟨k, L, o', e1, e2, m1, m2, m3⟩
theorem Le.out {S : Addr → Prop} (a : Le S μ s μ' s') {b : Addr} {o : Obj} (n : b ∉ zb μ) (e : s.heap.get? b = some o) : b ∉ zb μ' := fun h => by
  rcases a.fresh b h with h | h
  · exact n h
  · rw [e] at h; cases h
theorem Frs.le {l : List Env} (f : Frs X l μ s.heap) (a : Le noS μ s μ' s') : Frs X l μ' s'.heap := f.mono fun b o n e d => by
  obtain ⟨o', e', q⟩ := (a.keep b o n (fun h => h) e).get
  exact ⟨a.out n e, o', e', (Jz q).trans d⟩
theorem xv (μ ν : Mu) : zb (μ ++ ν) = zb μ ++ zb ν := by unfold zb; rw [List.flatMap_append]
theorem Inv.new (I : Inv X μ hp s) {h' : Heap} {t : Nat} {p : Addr × Option Addr} {o : AO} (hk : ∀ b o, s.heap.get? b = some o → h'.get? b = some o) (hn : ∀ b ∈ ads p, s.heap.get? b = none) (nd : (ads p).Nodup)
    (r : OR X (μ ++ [p]) h' o p) : Inv X (μ ++ [p]) (hp ++ [o]) { s with heap := h', toks := t } ∧ Le noS μ s (μ ++ [p]) { s with heap := h', toks := t } := by
  have ea : zb (μ ++ [p]) = zb μ ++ ads p := by rw [xv]; simp [zb, ads]
  refine ⟨⟨by simp [I.len], ?_, fun a ha => ?_, fun i q x hi hx => ?_, fun b o e => hk b o (I.keep b o e), I.gens, I.os⟩, ⟨List.prefix_append _ _, fun a ha => ?_, fun b o e => ⟨o, hk b o e⟩, fun b o _ _ e => .inl (hk b o e)⟩⟩
  · rw [ea, List.nodup_append]
    refine ⟨I.nodup, nd, fun a ha b hb e => ?_⟩
    subst e
    obtain ⟨o, e, _⟩ := I.mut ha
    rw [hn a hb] at e; exact nos e
  · rw [ea, List.mem_append] at ha
    rcases ha with ha | ha
    · exact I.above a ha
    · cases q : X.base.get? a with
      | none => rfl
      | some o => have := I.keep a o q; rw [hn a ha] at this; exact nos this
  · by_cases hlt : i < μ.length
    · rw [List.getElem?_append_left hlt] at hi
      rw [List.getElem?_append_left (by rw [← I.len]; exact hlt)] at hx
      exact (I.rep i q x hi hx).mono (List.prefix_append _ _) (fun b o e _ => hk b o e) fun b _ o e => hk b o e
    · have e1 : i = μ.length := by
        have := (y8 hi).1
        simp at this; lia
      subst e1
      rw [List.getElem?_append_right (Nat.le_refl _)] at hi
      rw [I.len, List.getElem?_append_right (Nat.le_refl _)] at hx
      simp at hi hx
      subst hi hx
      exact r
  · rw [ea, List.mem_append] at ha
    rcases ha with ha | ha
    · exact .inl ha
    · exact .inr (hn a ha)
theorem Inv.updS (I : Inv X μ hp s) {S : Addr → Prop} (hS : ∀ b, S b → b ∉ zb μ ∧ X.base.get? b = none) (hF : ∀ b o, S b → s.heap.get? b = some o → ¬ yS o ∧ ∃ o', s'.heap.get? b = some o') {a : Nat} {p : Addr × Option Addr} {o' : AO} (ha : μ[a]? = some p)
    (hk : ∀ b o, b ∉ ads p → ¬ S b → s.heap.get? b = some o → s'.heap.get? b = some o) (r : OR X μ s'.heap o' p) (hg : s'.gens = s.gens) (hos : s'.os = s.os) : Inv X μ (hp.set a o') s' ∧ Le S μ s μ s' := by
  have inA : ∀ b ∈ ads p, b ∈ zb μ := fun b hb => yN.mpr ⟨a, p, ha, hb⟩
  have fx : ∀ b o, s.heap.get? b = some o → yS o → s'.heap.get? b = some o := fun b o e f => hk b o (fun hb => by
    obtain ⟨o', e', m⟩ := I.mut (inA b hb); rw [e] at e'; cases e'; exact m.notFixed f) (fun h => (hF b o h e).1 f) e
  refine ⟨⟨by simp [I.len], I.nodup, I.above, fun i q x hi hx => ?_, fun b o e => hk b o (fun hb => ?_) (fun h => ?_) (I.keep b o e), hg.trans I.gens, hos.trans I.os⟩, ⟨List.prefix_refl _, fun _ h => .inl h, fun b o e => ?_, fun b o n ns e => .inl (hk b o (fun hb => n (inA b hb)) ns e)⟩⟩
  · by_cases hia : a = i
    · subst hia
      rw [ha] at hi; cases hi
      rw [List.getElem?_set_self (by rw [← I.len]; exact (y8 ha).1)] at hx
      cases hx; exact r
    · rw [List.getElem?_set_ne hia] at hx
      exact (I.rep i q x hi hx).mono (List.prefix_refl _) fx fun b hb o e => hk b o (fun hb' => hia (jx I.nodup ha hi hb' hb)) (fun h => (hS b h).1 (yN.mpr ⟨i, q, hi, hb⟩)) e
  · have := I.above b (inA b hb); rw [e] at this; cases this
  · have := (hS b h).2; rw [e] at this; cases this
  · by_cases hb : b ∈ ads p
    · obtain ⟨o', e', _⟩ := r.mut b hb; exact ⟨o', e'⟩
    · by_cases h : S b
      · exact (hF b o h e).2
      · exact ⟨o, hk b o hb h e⟩
theorem Inv.upd (I : Inv X μ hp s) {h' : Heap} {t a : Nat} {p : Addr × Option Addr} {o' : AO} (ha : μ[a]? = some p) (hk : ∀ b o, b ∉ ads p → s.heap.get? b = some o → h'.get? b = some o)
    (r : OR X μ h' o' p) : Inv X μ (hp.set a o') { s with heap := h', toks := t } ∧ Le noS μ s μ { s with heap := h', toks := t } :=
  I.updS (s' := { s with heap := h', toks := t }) (S := noS) (fun _ h => h.elim) (fun _ _ h => h.elim) ha (fun b o n _ e => hk b o n e) r rfl rfl
theorem Inv.own (I : Inv X μ hp s) {S : Addr → Prop} (hS : ∀ b, S b → b ∉ zb μ ∧ X.base.get? b = none) (hF : ∀ b o, S b → s.heap.get? b = some o → ¬ yS o ∧ ∃ o', s'.heap.get? b = some o')
    (hk : ∀ b o, ¬ S b → s.heap.get? b = some o → s'.heap.get? b = some o) (hg : s'.gens = s.gens) (hos : s'.os = s.os) : Inv X μ hp s' ∧ Le S μ s μ s' := by
  have fx : ∀ b o, s.heap.get? b = some o → yS o → s'.heap.get? b = some o := fun b o e f => hk b o (fun h => (hF b o h e).1 f) e
  refine ⟨⟨I.len, I.nodup, I.above, fun i q x hi hx => (I.rep i q x hi hx).mono (List.prefix_refl _) fx fun b hb o e => hk b o (fun h => (hS b h).1 (yN.mpr ⟨i, q, hi, hb⟩)) e, fun b o e => hk b o (fun h => ?_) (I.keep b o e), hg.trans I.gens, hos.trans I.os⟩,
    ⟨List.prefix_refl _, fun _ h => .inl h, fun b o e => ?_, fun b o _ ns e => .inl (hk b o ns e)⟩⟩
  · have := (hS b h).2; rw [e] at this; cases this
  · by_cases h : S b
    · exact (hF b o h e).2
    · exact ⟨o, hk b o h e⟩
end
theorem xM {h : Hp} {a : Nat} {kvs : List (Int × AV)} (e : zv h a = some kvs) : h[a]? = some (.dict kvs) := by
  unfold zv at e
  cases q : h[a]? with
  | none => rw [q] at e; exact nos e
  | some o =>
    rw [q] at e
    cases o with
    | dict k => cases e; rfl
    | _ => exact nos e
theorem PRs.get {X : Cx} {μ : Mu} {h : Heap} {k : Int} {kvs : List (Int × AV)} {es : List (Int × Value)} (r : PRs X μ h kvs es) : (yr kvs k = none ∧ valueAt es k = none) ∨ ∃ v w, yr kvs k = some v ∧ valueAt es k = some w ∧ VR X μ h v w := by
  induction r with
  | nil => exact .inl ⟨rfl, rfl⟩
  | @cons k' v w r es a _ ih =>
    by_cases q : k' = k
    · subst q
      refine .inr ⟨v, w, ?_, ?_, a⟩
      · unfold yr; rw [List.find?_cons_of_pos (by simp)]; rfl
      · unfold valueAt; rw [List.find?_cons_of_pos (by simp)]; rfl
    · have e1 : yr ((k', v) :: r) k = yr r k := by unfold yr; rw [List.find?_cons_of_neg (by simpa using q)]
      have e2 : valueAt ((k', w) :: es) k = valueAt es k := by unfold valueAt; rw [List.find?_cons_of_neg (by simpa using q)]
      rw [e1, e2]; exact ih
theorem PRs.len {X : Cx} {μ : Mu} {h : Heap} {kvs : List (Int × AV)} {es : List (Int × Value)} (r : PRs X μ h kvs es) : kvs.length = es.length := by
  induction r with
  | nil => rfl
  | cons _ _ ih => exact congrArg (· + 1) ih
theorem PRs.keys {X : Cx} {μ : Mu} {h : Heap} {kvs : List (Int × AV)} {es : List (Int × Value)} (r : PRs X μ h kvs es) : es.map (·.1) = kvs.map (·.1) := by
  induction r with
  | nil => rfl
  | cons _ _ ih => rw [List.map_cons, List.map_cons, ih]
theorem PRs.isSome {X : Cx} {μ : Mu} {h : Heap} {k : Int} {kvs : List (Int × AV)} {es : List (Int × Value)} (r : PRs X μ h kvs es) : (valueAt es k).isSome = (yr kvs k).isSome := by
  rcases r.get (k := k) with ⟨a, b⟩ | ⟨v, w, a, b, _⟩ <;> rw [a, b] <;> rfl
section
variable {X : Cx} {μ : Mu} {h : Heap}
theorem VRs.length {xs : List AV} : ∀ {vs : List Value}, VRs X μ h xs vs → vs.length = xs.length := by
  induction xs with
  | nil => intro vs r; rw [r.nil_]; rfl
  | cons x xs ih => intro vs r; obtain ⟨v, ws, rfl, _, q⟩ := r.cons_; exact congrArg (· + 1) (ih q)
theorem VRs.size {xs : List AV} {items : Array Value} (r : VRs X μ h xs items.toList) : items.size = xs.length := r.length
theorem VRs.get {xs : List AV} : ∀ {vs : List Value}, VRs X μ h xs vs → ∀ {k : Nat} {x : AV}, xs[k]? = some x → ∃ v, vs[k]? = some v ∧ VR X μ h x v := by
  induction xs with
  | nil => intro vs r k x e; exact nos e
  | cons x xs ih =>
    intro vs r k y e
    obtain ⟨v, ws, rfl, a, q⟩ := r.cons_
    cases k with
    | zero => cases e; exact ⟨_, rfl, a⟩
    | succ k => exact ih q e
theorem VRs.app {xs : List AV} : ∀ {vs : List Value}, VRs X μ h xs vs → ∀ {ys : List AV} {ws : List Value}, VRs X μ h ys ws → VRs X μ h (xs ++ ys) (vs ++ ws) := by
  induction xs with
  | nil => intro vs r ys ws q; rw [r.nil_]; exact q
  | cons x xs ih => intro vs r ys ws q; obtain ⟨v, vs, rfl, a, r⟩ := r.cons_; exact .cons a (ih r q)
theorem VRs.take {xs : List AV} : ∀ {vs : List Value}, VRs X μ h xs vs → ∀ k, VRs X μ h (xs.take k) (vs.take k) := by
  induction xs with
  | nil => intro vs r k; rw [r.nil_]; cases k <;> exact .nil
  | cons x xs ih =>
    intro vs r k
    obtain ⟨v, vs, rfl, a, r⟩ := r.cons_
    cases k with
    | zero => exact .nil
    | succ k => exact .cons a (ih r k)
theorem VRs.drop {xs : List AV} : ∀ {vs : List Value}, VRs X μ h xs vs → ∀ k, VRs X μ h (xs.drop k) (vs.drop k) := by
  induction xs with
  | nil => intro vs r k; rw [r.nil_]; cases k <;> exact .nil
  | cons x xs ih =>
    intro vs r k
    obtain ⟨v, vs, rfl, a, q⟩ := r.cons_
    cases k with
    | zero => exact r
    | succ k => exact ih q k
theorem VRs.set {x : AV} {v : Value} (hv : VR X μ h x v) {xs : List AV} : ∀ {vs : List Value}, VRs X μ h xs vs → ∀ k, VRs X μ h (xs.set k x) (vs.set k v) := by
  induction xs with
  | nil => intro vs r k; rw [r.nil_]; exact .nil
  | cons y xs ih =>
    intro vs r k
    obtain ⟨u, vs, rfl, a, q⟩ := r.cons_
    cases k with
    | zero => exact .cons hv q
    | succ k => exact .cons a (ih q k)
theorem VRs.one {x : AV} {vs : List Value} (r : VRs X μ h [x] vs) : ∃ v, vs = [v] ∧ VR X μ h x v := by
  obtain ⟨v, ws, rfl, a, q⟩ := r.cons_; rw [q.nil_]; exact ⟨_, rfl, a⟩
theorem VRs.two {x y : AV} {vs : List Value} (r : VRs X μ h [x, y] vs) : ∃ v u, vs = [v, u] ∧ VR X μ h x v ∧ VR X μ h y u := by
  obtain ⟨v, ws, rfl, a, q⟩ := r.cons_; obtain ⟨u, rfl, b⟩ := q.one; exact ⟨_, _, rfl, a, b⟩
end
theorem yD {v : AV} {i : Int} (e : yQ v = some i) : v = .int i := by
  cases v with
  | int => cases e; rfl
  | _ => exact nos e
theorem jZ {v : AV} {i : Bool} (e : X9 v = some i) : v = .bool i := by
  cases v with
  | bool => cases e; rfl
  | _ => exact nos e
theorem z2e {v : AV} {i : Bi} (e : zCr v = some i) : v = .bi i := by
  cases v with
  | bi => cases e; rfl
  | _ => exact nos e
theorem xi {v : AV} {i : Str} (e : xR v = some i) : v = .str i := by
  cases v with
  | str => cases e; rfl
  | _ => exact nos e
theorem yd {v : AV} {i : Nat} (e : yf v = some i) : v = .ref i := by
  cases v with
  | ref => cases e; rfl
  | _ => exact nos e
theorem ZG {v : AV} {i : List AV} (e : wx v = some i) : v = .tup i := by
  cases v with
  | tup => cases e; rfl
  | _ => exact nos e
theorem xk {h : Hp} {a : Nat} {xs : List AV} (e : zn h a = some xs) : h[a]? = some (.list xs) := by
  unfold zn at e
  cases q : h[a]? with
  | none => rw [q] at e; exact nos e
  | some o => rw [q] at e; cases o <;> cases e; rfl
theorem yP {l : List AV} {a : AV} (e : q8 l = some a) : l = [a] := by
  cases l with
  | nil => exact nos e
  | cons x l => cases l <;> cases e; rfl
theorem ww {l : List AV} {p : AV × AV} (e : XH l = some p) : l = [p.1, p.2] := by
  cases l with
  | nil => exact nos e
  | cons x l =>
    cases l with
    | nil => exact nos e
    | cons y l => cases l <;> cases e; rfl
theorem wB {α β : Type} {f : α → Option β} {x : α} {xs : List α} {zs : List β} (e : ya f (x :: xs) = some zs) : ∃ y ys, f x = some y ∧ ya f xs = some ys ∧ zs = y :: ys := by
  have e : (match f x, ya f xs with | some y, some ys => some (y :: ys) | _, _ => none) = some zs := e
  cases q : f x with
  | none => rw [q] at e; exact nos e
  | some y =>
    cases q' : ya f xs with
    | none => rw [q, q'] at e; exact nos e
    | some ys => rw [q, q'] at e; cases e; exact ⟨_, _, rfl, rfl, rfl⟩
structure Room (n : Nat) (A : Around) (l : List Env) : Prop where
  frames : A.frames = some l
  depth : A.depth + 2 * n + 2 < recursionLimit
  units : A.units + 100 * n + 300 < cLine
  handled : A.handled = none
noncomputable def PE (X : Cx) (μ : Mu) (s : Shared) (v : AV) (hp' : Hp) (Q : Value → Shared → Prop) : Prop :=
  ∀ v' μ' s', Le noS μ s μ' s' → Inv X μ' hp' s' → VR X μ' s'.heap v v' → Q v' s'
section
variable {X : Cx} {μ μ' : Mu} {hp hp' : Hp} {s s' : Shared} {Q : Value → Shared → Prop} {v : AV}
theorem PE.le (k : PE X μ s v hp' Q) (a : Le noS μ s μ' s') : PE X μ' s' v hp' Q := fun v' μ'' s'' b => k v' μ'' s'' (a.trans b)
theorem PE.here (k : PE X μ s v hp Q) (I : Inv X μ hp s) {v' : Value} (r : VR X μ s.heap v v') : Q v' s := k v' μ s .refl I r
theorem PE.tok (k : PE X μ s v hp Q) (I : Inv X μ hp s) {v' : Value} {t : Nat} (r : VR X μ s.heap v v') : Q v' { s with toks := t } := k v' μ _ (.tok t) (I.tok t) r
noncomputable def PC (X : Cx) (l : List Env) (μ : Mu) (s : Shared) (c : Str) (hp' : Hp) (E : Value → Shared → Prop) : Prop :=
  ∀ e μ' s' B C a0, nsIn X.K mainGlobals c = some (some (.ref C)) → Heap.FlyingW B l e (.ref C) a0 s'.heap →
    (∀ h6 t, B.StaysIn h6 → s'.heap.UpToSlots h6 → Le noS μ s μ' { s' with heap := h6, toks := t } ∧ Inv X μ' hp' { s' with heap := h6, toks := t }) → E (.ref e) s'
theorem PC.le {l : List Env} {c : Str} {E : Value → Shared → Prop} (k : PC X l μ s c hp' E) (a : Le noS μ s μ' s') : PC X l μ' s' c hp' E := fun e μ'' s'' B C a0 h1 h2 h3 =>
  k e μ'' s'' B C a0 h1 h2 fun h6 t g1 g2 => ⟨a.trans (h3 h6 t g1 g2).1, (h3 h6 t g1 g2).2⟩
noncomputable def PG {α β : Type} (rel : Mu → Heap → α → β → Prop) (X : Cx) (l : List Env) (μ : Mu) (s : Shared) (o : Out α) (Q : β → Shared → Prop) (E : Value → Shared → Prop) : Prop := match o with
  | .stuck => False
  | .ok a h => ∀ b μ' s', Le noS μ s μ' s' → Inv X μ' h s' → rel μ' s'.heap a b → Q b s'
  | .exc c h => PC X l μ s c h E
theorem PG.le {α β : Type} {rel : Mu → Heap → α → β → Prop} {l : List Env} {o : Out α} {Q : β → Shared → Prop} {E : Value → Shared → Prop} (k : PG rel X l μ s o Q E) (a : Le noS μ s μ' s') : PG rel X l μ' s' o Q E := by
  cases o with
  | stuck => exact k
  | ok v h => exact fun b μ'' s'' L => k b μ'' s'' (a.trans L)
  | exc c h => exact PC.le k a
theorem PG.bind {α β γ δ : Type} {rel : Mu → Heap → α → β → Prop} {rel' : Mu → Heap → γ → δ → Prop} {l : List Env} {o : Out α} {f : α → Hp → Out γ} {Q' : δ → Shared → Prop} {Q : β → Shared → Prop} {E : Value → Shared → Prop}
    (k : PG rel' X l μ s (o.bind f) Q' E) (h : ∀ a b hp' μ' s', Le noS μ s μ' s' → Inv X μ' hp' s' → rel μ' s'.heap a b → PG rel' X l μ' s' (f a hp') Q' E → Q b s') : PG rel X l μ s o Q E := by
  cases o with
  | stuck => exact k
  | ok v hp' => exact fun b μ' s' L I r => h v b hp' μ' s' L I r (PG.le (o := f v hp') k L)
  | exc c hp' => exact k
theorem PG.bind0 {α β γ δ : Type} {rel : Mu → Heap → α → β → Prop} {rel' : Mu → Heap → γ → δ → Prop} {l : List Env} {o : Out α} {f : α → Hp → Out γ} {Q' : δ → Shared → Prop} {Q : β → Shared → Prop} {E : Value → Shared → Prop}
    (k : PG rel' X l μ s (o.bind0 f) Q' E) (h : ∀ a b hp' μ' s', Le noS μ s μ' s' → Inv X μ' hp' s' → rel μ' s'.heap a b → PG rel' X l μ' s' (f a hp') Q' E → Q b s') : PG rel X l μ s o Q E := by
  cases o with
  | stuck => exact k
  | ok v hp' => exact fun b μ' s' L I r => h v b hp' μ' s' L I r (PG.le (o := f v hp') k L)
  | exc c hp' => exact k.elim
theorem PG.of {α β : Type} {rel : Mu → Heap → α → β → Prop} {l : List Env} {o : Option α} {hp : Hp} {Q : β → Shared → Prop} {E : Value → Shared → Prop} (k : PG rel X l μ s (Out.of o hp) Q E) : ∃ a, o = some a ∧ PG rel X l μ s (.ok a hp) Q E := by
  cases o with
  | none => exact k.elim
  | some a => exact ⟨a, rfl, k⟩
theorem PG.ofP {β : Type} {rel : Mu → Heap → AV → β → Prop} {l : List Env} {o : Option (AV × Hp)} {Q : β → Shared → Prop} {E : Value → Shared → Prop} (k : PG rel X l μ s (Mine.ofP o) Q E) : ∃ a hp, o = some (a, hp) ∧ PG rel X l μ s (.ok a hp) Q E := by
  cases o with
  | none => exact k.elim
  | some a => exact ⟨a.1, a.2, rfl, k⟩
noncomputable abbrev PO (X : Cx) (l : List Env) (μ : Mu) (s : Shared) (o : Out AV) (Q : Value → Shared → Prop) (E : Value → Shared → Prop) : Prop := PG (fun μ h => VR X μ h) X l μ s o Q E
noncomputable def DR (h : Heap) (n : Nat) (c : Value) (d : PyData) : Prop := (∃ as, Reads h c d as) ∧ d.canLay0 = true ∧ d.depth ≤ n
noncomputable def DRs (h : Heap) (n : Nat) (cs : List Value) (ds : List PyData) : Prop := (∃ as, ReadsAll h cs ds as) ∧ PyData.canLayAll0 ds = true ∧ PyData.depthAll ds ≤ n
theorem jt {n : Nat} {v : AV} {c : Value} {d : PyData} (e : Q2 v = some d) (r : VR X μ s.heap v c) : DR s.heap n c d := by
  cases v with
  | none => cases e; rw [r.none_]; exact ⟨⟨_, .none⟩, rfl, Nat.zero_le _⟩
  | bool b => cases e; rw [r.bool_]; exact ⟨⟨_, .bool _⟩, rfl, Nat.zero_le _⟩
  | int i => cases e; obtain ⟨t, rfl⟩ := r.int_; exact ⟨⟨_, .int _ _⟩, rfl, Nat.zero_le _⟩
  | str x =>
    have e : (if PyData.strOk x then some (PyData.str x) else none) = some d := e
    by_cases h : PyData.strOk x = true
    · rw [if_pos h] at e; cases e; obtain ⟨t, rfl, _⟩ := r.str_; exact ⟨⟨_, .str _ _⟩, h, Nat.zero_le _⟩
    · rw [if_neg h] at e; exact nos e
  | _ => exact nos e
theorem wh {n : Nat} (h : ∀ {v : AV} {c : Value} {d : PyData}, toD hp n v = some d → VR X μ s.heap v c → DR s.heap n c d) {xs : List AV} : ∀ {vs : List Value} {ds : List PyData}, ya (toD hp n) xs = some ds → VRs X μ s.heap xs vs → DRs s.heap n vs ds := by
  induction xs with
  | nil => intro vs ds e r; cases e; rw [r.nil_]; exact ⟨⟨_, .nil⟩, rfl, Nat.zero_le _⟩
  | cons x xs ih =>
    intro vs ds e r
    obtain ⟨y, ys, e1, e2, rfl⟩ := wB e
    obtain ⟨v, ws, rfl, a, q⟩ := r.cons_
    obtain ⟨⟨as, ra⟩, c, dp⟩ := h e1 a
    obtain ⟨⟨bs, rb⟩, c', dp'⟩ := ih e2 q
    exact ⟨⟨_, .cons ra rb⟩, Bool.and_eq_true_iff.mpr ⟨c, c'⟩, Nat.max_le.mpr ⟨dp, dp'⟩⟩
theorem qW (I : Inv X μ hp s) (n : Nat) : ∀ {v : AV} {c : Value} {d : PyData}, toD hp n v = some d → VR X μ s.heap v c → DR s.heap n c d := by
  induction n with
  | zero => intro v c d e r; exact jt e r
  | succ n ih =>
    intro v c d e r
    have e : (match yf v with
      | some a => (match zn hp a with
        | some xs => (ya (toD hp n) xs).map PyData.list
        | none => none)
      | none => (match wx v with
        | some xs => (ya (toD hp n) xs).map PyData.tuple
        | none => Q2 v)) = some d := e
    cases q : yf v with
    | none =>
      rw [q] at e
      have e : (match wx v with
        | some xs => (ya (toD hp n) xs).map PyData.tuple
        | none => Q2 v) = some d := e
      cases qt : wx v with
      | none => rw [qt] at e; exact jt e r
      | some xs =>
        rw [qt] at e
        have := ZG qt; subst this
        obtain ⟨ds, e', rfl⟩ := y6 e
        obtain ⟨b, items, rfl, ⟨o, ho, hc, m, hd⟩, _, rs⟩ := r.tup_
        obtain ⟨⟨as, ra⟩, c, dp⟩ := wh ih e' rs
        exact ⟨⟨_, .tuple ho hc hd ra⟩, c, Nat.succ_le_succ dp⟩
    | some a =>
      have := yd q; subst this
      have e : (match zn hp a with
        | some xs => (ya (toD hp n) xs).map PyData.list
        | none => none) = some d := e
      cases ql : zn hp a with
      | none => rw [ql] at e; exact nos e
      | some xs =>
        rw [ql] at e
        obtain ⟨ds, e', rfl⟩ := y6 e
        obtain ⟨b, items, m, rfl, _, l, _, rs⟩ := I.list_at r (xk ql)
        obtain ⟨⟨as, ra⟩, c, dp⟩ := wh ih e' rs
        exact ⟨⟨_, .list l rfl rfl ra⟩, c, Nat.succ_le_succ dp⟩
end
section
variable {prog : Program} {w : World} {X : Cx} {μ : Mu} {hp hp' : Hp} {s : Shared} {A : Around} {E : Value → Shared → Prop} {n : Nat} {l : List Env} {Q : Value → Shared → Prop}
theorem Room.units' (R : Room n A l) : A.units + 200 < cLine := Nat.lt_of_le_of_lt (Nat.le_trans (Nat.add_le_add_left (show 200 ≤ 100 * n + 300 from Nat.le_add_left_of_le (by decide)) _) (Nat.le_of_eq (Nat.add_assoc _ _ _).symm)) R.units
theorem qy : small = 1048576 := rfl
theorem zy {k : Nat} (h : k ≤ small) : k ≤ sizeLine := Nat.le_trans h (by decide)
theorem ZI {k : Nat} (h : k ≤ small) : (k : Int) < 2 ^ 63 := Int.lt_of_le_of_lt (Int.ofNat_le.mpr h) (by decide)
theorem qX (I : Inv X μ hp s) {v : AV} {c : Value} {xs : List AV} (e : w0 hp v = some xs) (r : VR X μ s.heap v c) :
    ∃ a items, c = .ref a ∧ s.heap.IsList a items ∧ xs.length ≤ small ∧ VRs X μ s.heap xs items.toList := by
  cases v with
  | lst ys =>
    cases e
    obtain ⟨a, items, rfl, ⟨o, ho, q⟩, z, rs⟩ := r.lst_
    exact ⟨_, _, rfl, ⟨o, I.keep _ _ ho, q⟩, z, rs⟩
  | ref a =>
    obtain ⟨d, items, m, rfl, _, l, z, rs⟩ := I.list_at r (xk e)
    exact ⟨_, _, rfl, l.isList, z, rs⟩
  | _ => exact nos e
theorem qb {v : AV} {c : Value} {b : Bool} {Q : Bool → Shared → Prop} (e : xE hp v = some b) (I : Inv X μ hp s) (r : VR X μ s.heap v c)
    (k : ∀ t, Q b { s with toks := t }) : wpAny (model prog w) A (truthy c) Q E s := by
  cases v with
  | none => cases e; rw [r.none_]; exact PyProof.Rows.truthy_none (k s.toks)
  | bool b => cases e; rw [r.bool_]; exact wpAny_truthy_bool (k s.toks)
  | int i =>
    cases e
    obtain ⟨t, rfl⟩ := r.int_
    refine P.truthy_int ?_
    have q : (i != 0) = decide (i ≠ 0) := by
      by_cases h : i = 0
      · rw [h]; rfl
      · rw [decide_eq_true h]; exact bne_iff_ne.mpr h
    rw [q]; exact k s.toks
  | _ => exact nos e
theorem YI {a b : AV} {c d : Value} {r : Bool} (e : isA a b = some r) (ra : VR X μ s.heap a c) (rb : VR X μ s.heap b d) : plainIs c d = true ∧ (c == d) = r := by
  cases b with
  | none =>
    rw [rb.none_]
    cases a with
    | none => cases e; rw [ra.none_]; exact ⟨rfl, rfl⟩
    | bool x => cases e; rw [ra.bool_]; exact ⟨rfl, rfl⟩
    | int x => cases e; obtain ⟨t, rfl⟩ := ra.int_; exact ⟨rfl, rfl⟩
    | ref x => cases e; obtain ⟨t, _, rfl⟩ := ra.ref_; exact ⟨rfl, rfl⟩
    | str x => cases e; obtain ⟨t, rfl, _⟩ := ra.str_; exact ⟨rfl, rfl⟩
    | _ => exact nos e
  | bool y =>
    rw [rb.bool_]
    obtain ⟨x, hx, rfl⟩ := y6 e
    rw [jZ hx] at ra
    rw [ra.bool_]
    exact ⟨rfl, by cases x <;> cases y <;> rfl⟩
  | _ => exact nos e
theorem YX {a b : AV} {c d : Value} {r : Bool} (e : aEq hp a b = some r) (R : Room n A l) (I : Inv X μ hp s) (ra : VR X μ s.heap a c) (rb : VR X μ s.heap b d) :
    ∃ x y as bs, Reads s.heap c x as ∧ Reads s.heap d y bs ∧ x.canLay0 = true ∧ y.canLay0 = true ∧ A.units + min x.depth y.depth < cLine ∧ PyData.eqv x y = r := by
  obtain ⟨x, hx, e⟩ := zS e
  obtain ⟨y, hy, rfl⟩ := y6 e
  obtain ⟨⟨as, r1⟩, c1, d1⟩ := qW I _ hx ra
  obtain ⟨⟨bs, r2⟩, c2, d2⟩ := qW I _ hy rb
  exact ⟨x, y, as, bs, r1, r2, c1, c2, Nat.lt_of_le_of_lt (Nat.add_le_add_left (Nat.le_trans (Nat.min_le_left _ _) (Nat.le_trans d1 (by decide))) _) R.units', rfl⟩
theorem qm {p : Int → Int → Bool} {a b : AV} {c d : Value} {r : Bool} (e : z0h p a b = some r) (ra : VR X μ s.heap a c) (rb : VR X μ s.heap b d) : ∃ i j t u, c = .int i t ∧ d = .int j u ∧ p i j = r := by
  obtain ⟨i, hi, e⟩ := zS e
  obtain ⟨j, hj, rfl⟩ := y6 e
  have := yD hi; subst this
  have := yD hj; subst this
  obtain ⟨t, rfl⟩ := ra.int_
  obtain ⟨u, rfl⟩ := rb.int_
  exact ⟨_, _, _, _, rfl, rfl, rfl⟩
theorem Xy {a b : AV} {c d : Value} {r neg : Bool} {Q : Value → Shared → Prop} (e : inA hp a b = some r) (I : Inv X μ hp s) (ra : VR X μ s.heap a c) (rb : VR X μ s.heap b d)
    (k : ∀ t, Q (.bool (bif neg then !r else r)) { s with toks := t }) : wpAny (model prog w) A (compareOp (bif neg then .NotIn else .In) c d) Q E s := by
  have e : (match yf b with
    | some d => (yQ a).bind fun k => (zv hp d).map fun kvs => (yr kvs k).isSome
    | none => (xR a).bind fun x => (xR b).map fun y => Txt.contains y x) = some r := e
  cases hb : yf b with
  | some q =>
    rw [hb] at e
    obtain ⟨i, hi, e⟩ := zS e
    obtain ⟨kvs, h2, rfl⟩ := y6 e
    rw [yD hi] at ra
    rw [yd hb] at rb
    obtain ⟨t, rfl⟩ := ra.int_
    obtain ⟨d', es, rfl, _, m, p, z, _⟩ := I.dict_at rb (xM h2) prog w
    have hk : (intKind prog w).is i (.int i t) = true := by show Value.isInt i (.int i t) = true; simp [Value.isInt]
    rw [← p.isSome] at k
    cases neg with
    | false => exact wpAny_in_of hk z m.mapOf (k _)
    | true => exact wpAny_notIn_of hk z m.mapOf (k _)
  | none =>
  rw [hb] at e
  obtain ⟨x, hx, e⟩ := zS e
  obtain ⟨y, hy, rfl⟩ := y6 e
  rw [xi hx] at ra
  rw [xi hy] at rb
  obtain ⟨t, rfl, _⟩ := ra.str_
  obtain ⟨u, rfl, _⟩ := rb.str_
  cases neg with
  | false => exact SB.contains (k s.toks)
  | true => exact SB.notContains (k s.toks)
theorem wQ {op : CmpOp} {a b : AV} {c d : Value} {r : Bool} {Q : Value → Shared → Prop} (e : yU op a b hp = some r) (R : Room n A l) (I : Inv X μ hp s) (ra : VR X μ s.heap a c) (rb : VR X μ s.heap b d)
    (k : ∀ t, Q (.bool r) { s with toks := t }) : wpAny (model prog w) A (compareOp op c d) Q E s := by
  have k0 := k s.toks
  cases op with
  | Eq =>
    obtain ⟨x, y, as, bs, r1, r2, c1, c2, d1, rfl⟩ := YX e R I ra rb
    exact SeqAt.compareEq_reads r1 r2 c1 c2 d1 k0
  | NotEq =>
    have e : (match neD hp a b with
      | some r => some r
      | none => (aEq hp a b).map (!·)) = some r := e
    cases hq : neD hp a b with
    | some r' =>
      rw [hq] at e
      cases e
      obtain ⟨x, h1, hq⟩ := zS hq
      obtain ⟨kvs, h2, hq⟩ := zS hq
      obtain ⟨y, h3, hq⟩ := zS hq
      obtain ⟨k2, h4, hq⟩ := zS hq
      obtain ⟨h5, rfl⟩ := zY hq
      rw [yd h1] at ra
      rw [yd h3] at rb
      obtain ⟨d1, es, rfl, _, m1, p1, z1, _⟩ := I.dict_at ra (xM h2) prog w
      obtain ⟨d2, es2, rfl, _, m2, p2, z2, _⟩ := I.dict_at rb (xM h4) prog w
      cases k2 with
      | cons => exact nob h5
      | nil =>
      cases p2
      refine z1s z1 z2 m1 m2 (Nat.lt_of_le_of_lt (Nat.le_add_right _ _) R.units') ?_
      rw [show es.isEmpty = kvs.isEmpty from by cases p1 <;> rfl]
      exact k s.toks
    | none =>
    rw [hq] at e
    obtain ⟨r', e', rfl⟩ := y6 e
    obtain ⟨x, y, as, bs, r1, r2, c1, c2, d1, rfl⟩ := YX e' R I ra rb
    exact SeqAt.compareNe_reads r1 r2 c1 c2 d1 k0
  | Lt => obtain ⟨i, j, t, u, rfl, rfl, rfl⟩ := qm e ra rb; exact P.lt_int k0
  | LtE => obtain ⟨i, j, t, u, rfl, rfl, rfl⟩ := qm e ra rb; exact P.le_int k0
  | Gt => obtain ⟨i, j, t, u, rfl, rfl, rfl⟩ := qm e ra rb; exact P.gt_int k0
  | GtE => obtain ⟨i, j, t, u, rfl, rfl, rfl⟩ := qm e ra rb; exact P.ge_int k0
  | Is =>
    obtain ⟨p, q⟩ := YI e ra rb
    exact wpAny_is_plain p (by rw [q]; exact k0)
  | IsNot =>
    obtain ⟨r', e', rfl⟩ := y6 e
    obtain ⟨p, q⟩ := YI e' ra rb
    exact wpAny_isNot_plain p (by rw [q]; exact k0)
  | In => exact Xy (neg := false) e I ra rb k
  | NotIn =>
    obtain ⟨r', e', rfl⟩ := y6 e
    exact Xy (neg := true) e' I ra rb k
end
section
variable {prog : Program} {w : World} {X : Cx} {μ : Mu} {hp hp' : Hp} {s : Shared} {A : Around} {E : Value → Shared → Prop} {n : Nat} {l : List Env} {Q : Value → Shared → Prop}
theorem qF (h : Heap) : h.get? h.objs.size = none := by
  cases q : h.get? h.objs.size with
  | none => rfl
  | some o => exact absurd (Heap.lt_size q) (Nat.lt_irrefl _)
theorem qo {c : Addr} {b : Addr} (hb : b ∈ ads (c, none)) : b = c := by
  cases hb with
  | head => rfl
  | tail _ h => cases h
theorem jC (μ : Mu) (p : Addr × Option Addr) {k : Nat} (hk : μ.length = k) : (μ ++ [p])[k]? = some p := by
  subst hk
  rw [List.getElem?_append_right (Nat.le_refl _), Nat.sub_self]; rfl
theorem PE.listNew {xs : List AV} (k : PE X μ s (.ref hp.length) (hp ++ [.list xs]) Q) (I : Inv X μ hp s) {items : Array Value} {t j : Nat} {h' : Heap} (z : xs.length ≤ small)
    (hk : ∀ b o, s.heap.get? b = some o → h'.get? b = some o) (hl : h'.get? s.heap.objs.size = some { cls := .type "list", dict := none, data := .seq items j, slots := #[] }) (r : VRs X μ h' xs items.toList) :
    Q (.ref s.heap.objs.size) { s with heap := h', toks := t } := by
  obtain ⟨I', a⟩ := I.new (t := t) (p := (s.heap.objs.size, none)) (o := .list xs) hk (fun b hb => by rw [qo hb]; exact qF _) (List.nodup_cons.mpr ⟨List.not_mem_nil, List.nodup_nil⟩) (.list (n := j) hl z (r.mono (List.prefix_append _ _) fun _ _ e _ => e))
  exact k _ _ _ a I' (.ref (jC μ _ I.len))
theorem PE.list {xs : List AV} (k : PE X μ s (.ref hp.length) (hp ++ [.list xs]) Q) (I : Inv X μ hp s) {items : Array Value} {t j : Nat} (z : xs.length ≤ small) (r : VRs X μ s.heap xs items.toList) :
    Q (.ref s.heap.objs.size) { s with heap := s.heap.push { cls := .type "list", data := .seq items j }, toks := t } :=
  k.listNew I z (fun b o e => Heap.get?_push_of_some _ e) (Heap.get?_push_size _ rfl) (r.mono (List.prefix_refl _) fun b o e _ => Heap.get?_push_of_some _ e)
theorem z0k {i : Int} (h : i.natAbs < 2 ^ 63) : Builtin.Int.intBits i ≤ 64 := PySem.intBits_le_64 (by lia) (by lia)
theorem Ws {op : Operator} {a b : AV} {c d : Value} (I : Inv X μ hp s) (ra : VR X μ s.heap a c) (rb : VR X μ s.heap b d)
    (k : PO X l μ s (XA op a b hp) Q E) : wpAny (model prog w) A (binaryOp op c d) Q E s := by
  have k : PO X l μ s (Out.of (match xR a with
      | some x => (xR b).bind fun y => J3 op x y
      | none => (yQ a).bind fun i => (yQ b).bind fun j => (zE9 op i j).map AV.int) hp) Q E := k
  obtain ⟨v, e0, k⟩ := k.of
  have k : PE X μ s v hp Q := k
  cases hs : xR a with
  | some x =>
    rw [hs] at e0
    obtain ⟨y, hy, e1⟩ := zS e0
    clear e0
    rw [xi hs] at ra
    rw [xi hy] at rb
    obtain ⟨t, rfl, _⟩ := ra.str_
    obtain ⟨u, rfl, _⟩ := rb.str_
    cases op with
    | Add =>
      obtain ⟨h, rfl⟩ := zY e1
      exact SB.add (fun t' j => k.tok I (.str _ (by rw [Str.length_append]; exact h))) (zy h)
    | _ => exact nos e1
  | none =>
  rw [hs] at e0
  obtain ⟨i, hi, e2⟩ := zS e0
  clear e0
  obtain ⟨j, hj, e3⟩ := zS e2
  clear e2
  obtain ⟨m, e, rfl⟩ := y6 e3
  clear e3
  rw [yD hi] at ra
  rw [yD hj] at rb
  obtain ⟨t, rfl⟩ := ra.int_
  obtain ⟨u, rfl⟩ := rb.int_
  have kk : ∀ (u : Tok) (t : Nat), Q (.int m u) { s with toks := t } := fun u t => k.tok I (.int _ _)
  cases op with
  | Add => cases e; exact P.add_int (kk _ _)
  | Sub => cases e; exact P.sub_int (kk _ _)
  | Mult =>
    obtain ⟨h, rfl⟩ := zY e
    refine P.mul_int (kk _ _) ?_
    rcases h with h | h
    · exact .of_left (z0k h)
    · exact .of_right (z0k h)
  | FloorDiv =>
    obtain ⟨h, rfl⟩ := zY e
    exact PySem.AutoIntOps.floordiv_1 (fun q => h.1 (by simpa using q)) (by rw [PyProof.noPylong_small h.2]; exact Bool.false_ne_true) (kk _ _)
  | Mod =>
    have e : (if j = 0 then none else some (i.fmod j)) = some m := e
    by_cases h : j = 0
    · rw [if_pos h] at e; exact nos e
    · rw [if_neg h] at e; cases e
      exact PySem.AutoIntOps.mod_1 (fun q => h (by simpa using q)) (kk _ _)
  | _ => exact nos e
noncomputable def zEb (s : Shared) (c : Value) : Prop := ∃ T id, s.TypeIs c T ∧ typeLookup (.type T) "__getitem__" = pure (some (.builtin id))
theorem ZK {k : Int} {len : Nat} (h0 : 0 ≤ k) (h : k.toNat < len) : seqIndex? k len = some k.toNat := by
  unfold seqIndex?
  have e1 : k = ((k.toNat : Nat) : Int) := by lia
  generalize k.toNat = j at *
  subst e1
  simp
  lia
theorem Wh {o i v : AV} {c d : Value} (e : wG hp o i = some v) (I : Inv X μ hp s) (ro : VR X μ s.heap o c) (ri : VR X μ s.heap i d) (k : PE X μ s v hp Q) :
    zEb s c ∧ wpAny (model prog w) A (getItem c d) Q E s := by
  obtain ⟨j, hj, e1⟩ := zS e
  clear e
  rw [yD hj] at ri
  obtain ⟨t, rfl⟩ := ri.int_
  cases hq : (yf o).bind (zv hp) with
  | some kvs =>
    rw [hq] at e1
    have e1 : yr kvs j = some v := e1
    obtain ⟨a, ha, hd⟩ := zS hq
    rw [yd ha] at ro
    obtain ⟨d', es, rfl, _, m, p, _, _⟩ := I.dict_at ro (xM hd) prog w
    rcases p.get (k := j) with ⟨q, _⟩ | ⟨v', w', q, q2, rv⟩
    · rw [q] at e1; exact nos e1
    · rw [q] at e1
      cases e1
      exact ⟨⟨_, _, m.typeIs, slot_dict_getitem.lookup⟩, wpAny_getItem_of (k := j) (by show Value.isInt j (.int j t) = true; simp [Value.isInt]) m.mapOf q2 (k.tok I rv)⟩
  | none =>
  rw [hq] at e1
  by_cases h : okI j = true
  case neg =>
    have e1 : (if okI j = true then _ else none) = some v := e1
    rw [if_neg h] at e1
    cases e1
  rw [if_pos h] at e1
  have e := e1
  clear e1
  obtain ⟨h0, h1⟩ := yv.mp h
  cases hs : xR o with
  | some x =>
    rw [hs] at e
    obtain ⟨ch, hc, rfl⟩ := y6 e
    rw [xi hs] at ro
    obtain ⟨u, rfl, _⟩ := ro.str_
    have hlt := (Array.getElem?_eq_some_iff.mp hc).1
    have e0 : seqIndex? j x.length = some j.toNat := ZK h0 hlt
    have e2 : Txt.charAt x j = some ch := by unfold Txt.charAt; rw [e0]; exact hc
    refine ⟨⟨_, _, typeIs_str _ _ _, F.slot_str_getitem.lookup⟩, SB.getItem (by unfold fitsSsize; simp; lia) (by rw [e2]; rfl) ?_⟩
    have e3 : Txt.item x j = ⟨#[ch]⟩ := by unfold Txt.item; rw [e2]; rfl
    rw [e3]
    exact k.tok I (.str _ (by simp [Str.length, small]))
  | none =>
    rw [hs] at e
    have e : (match wx o with
      | some xs => xs[j.toNat]?
      | none => (w0 hp o).bind fun xs => xs[j.toNat]?) = some v := e
    cases ht : wx o with
    | some xs =>
      rw [ht] at e
      rw [ZG ht] at ro
      obtain ⟨a, items, rfl, hT, z, r⟩ := ro.tup_
      obtain ⟨x, hx, rx⟩ := r.get e
      have hlt : j.toNat < items.size := by rw [← Array.length_toList]; exact (y8 hx).1
      obtain ⟨o', ho, hc, m, hd⟩ := hT
      exact ⟨⟨_, _, ⟨o', ho, hc⟩, F.slot_tuple_getitem.lookup⟩, PyProof.Rows.getItem_tuple ⟨o', ho, hc, m, hd⟩ (by lia) (by lia) (ZK h0 hlt) (by rw [← Array.getElem?_toList]; exact hx) (k.here I rx)⟩
    | none =>
    rw [ht] at e
    obtain ⟨xs, hs, e⟩ := zS e
    obtain ⟨a, items, rfl, l, z, r⟩ := qX I hs ro
    obtain ⟨x, hx, rx⟩ := r.get e
    exact ⟨⟨_, _, l.typeIs, list_getitem_lookup⟩, wpAny_getItem_list l h0 (by lia) (by rw [← Array.getElem?_toList]; exact hx) (k.here I rx)⟩
theorem X8 (a n : Nat) : max 0 (min (if (a : Int) < 0 then (a : Int) + (n : Int) else (a : Int)) (n : Int)) = ((min a n : Nat) : Int) := by
  rw [if_neg (Int.not_lt.mpr (Int.natCast_nonneg a)), Int.max_eq_right (Int.le_min.mpr ⟨Int.natCast_nonneg _, Int.natCast_nonneg _⟩)]
  rcases Nat.le_total a n with h | h
  · rw [Nat.min_eq_left h, Int.min_eq_left (Int.ofNat_le.mpr h)]
  · rw [Nat.min_eq_right h, Int.min_eq_right (Int.ofNat_le.mpr h)]
theorem XN {x y n : Nat} (hx : x ≤ n) (hy : y ≤ n) (h : x - y = n) : (y = 0 ∧ x = n) ∨ n = 0 := by lia
theorem Qn {α : Type} (xs : List α) (n : Nat) (hn : xs.length = n) (lo hi : Option Nat) :
    ∃ a b : Nat, sliceBounds (lo.map Int.ofNat) (hi.map Int.ofNat) none n = ((a : Int), (b : Int), 1) ∧ (xs.drop a).take (b - a) = wT xs (lo.getD 0) hi ∧ b ≤ n ∧ (b - a = n → (a = 0 ∧ b = n) ∨ n = 0) := by
  subst hn
  have dm : ∀ a : Nat, xs.drop (min a xs.length) = xs.drop a := fun a => by
    rcases Nat.le_total a xs.length with h | h
    · rw [Nat.min_eq_left h]
    · rw [Nat.min_eq_right h, List.drop_of_length_le (Nat.le_refl _), List.drop_of_length_le h]
  have tm : ∀ b : Nat, xs.take (min b xs.length) = xs.take b := fun b => by rw [List.take_eq_take_iff, Nat.min_assoc, Nat.min_self]
  cases lo with
  | none =>
    cases hi with
    | none => exact ⟨0, xs.length, by simp [sliceBounds], by simp [wT], Nat.le_refl _, fun _ => .inl ⟨rfl, rfl⟩⟩
    | some b => exact ⟨0, min b xs.length, by simp [sliceBounds]; exact X8 b _, by
        show (xs.drop 0).take (min b xs.length - 0) = (xs.take b).drop 0
        rw [List.drop_zero, List.drop_zero, Nat.sub_zero, tm], Nat.min_le_right _ _, fun h => .inl ⟨rfl, h⟩⟩
  | some a =>
    cases hi with
    | none => exact ⟨min a xs.length, xs.length, by simp [sliceBounds]; exact X8 a _, by
        show (xs.drop (min a xs.length)).take (xs.length - min a xs.length) = xs.drop a
        rw [dm, List.take_of_length_le (by rw [← dm a, List.length_drop]; exact Nat.le_refl _)], Nat.le_refl _, fun h => XN (Nat.le_refl _) (Nat.min_le_right _ _) h⟩
    | some b => exact ⟨min a xs.length, min b xs.length, by simp [sliceBounds]; exact ⟨X8 a _, X8 b _⟩, by
        show (xs.drop (min a xs.length)).take (min b xs.length - min a xs.length) = (xs.take b).drop a
        rw [← List.drop_take, tm]
        rcases Nat.le_total a xs.length with h | h
        · rw [Nat.min_eq_left h]
        · rw [Nat.min_eq_right h, List.drop_of_length_le (List.length_take_le' _ _), List.drop_of_length_le (Nat.le_trans (List.length_take_le' _ _) h)], Nat.min_le_right _ _, fun h => XN (Nat.min_le_right _ _) (Nat.min_le_right _ _) h⟩
theorem Ja (items : Array Value) (lo hi : Option Nat) : slicePick items (lo.map Int.ofNat) (hi.map Int.ofNat) none = (wT items.toList (lo.getD 0) hi).toArray := by
  obtain ⟨a, b, e, q, _⟩ := Qn items.toList items.size (by simp) lo hi
  unfold slicePick
  rw [e]
  simp only [sliceRange_one, pick_run, q]
theorem jv {v : AV} {c : Value} {o : Option Nat} {μ : Mu} {h : Heap} (e : xc v = some o) (r : VR X μ h v c) : IsPart c (o.map Int.ofNat) := by
  cases v with
  | none => cases e; rw [r.none_]; exact .none
  | int k =>
    obtain ⟨h, rfl⟩ := zY (show (if okI k then some (some k.toNat) else none) = some o from e)
    obtain ⟨t, rfl⟩ := r.int_
    have : (Option.map Int.ofNat (some k.toNat)) = some k := by show some ((k.toNat : Nat) : Int) = _; rw [Int.toNat_of_nonneg (yv.mp h).1]
    rw [this]; exact .int _ _
  | _ => exact nos e
theorem Zf {α : Type} (xs : List α) (a : Nat) (b : Option Nat) : (wT xs a b).length ≤ xs.length := by
  unfold wT; split <;> simp <;> lia
theorem VRs.cut {μ : Mu} {h : Heap} {xs : List AV} {vs : List Value} (r : VRs X μ h xs vs) (a : Nat) (b : Option Nat) : VRs X μ h (wT xs a b) (wT vs a b) := by
  unfold wT; split
  · exact (r.take _).drop _
  · exact r.drop _
theorem Wo {o lo' u : AV} {c lv uv : Value} {sl : Addr} (I : Inv X μ hp s) (ro : VR X μ s.heap o c) (rl : VR X μ s.heap lo' lv) (ru : VR X μ s.heap u uv)
    (hs : s.heap.IsSliceOf sl lv uv .none) (k : PO X l μ s (z0f hp o lo' u) Q E) : zEb s c ∧ wpAny (model prog w) A (getItem c (.ref sl)) Q E s := by
  obtain ⟨v, hp', e, k⟩ := k.ofP
  have k : PE X μ s v hp' Q := k
  obtain ⟨lo, hl, e1⟩ := zS e
  clear e
  obtain ⟨hi, hu, e⟩ := zS e1
  clear e1
  have pl := jv hl rl
  have pu := jv hu ru
  obtain ⟨xs, hx, e1⟩ := zS e
  clear e
  obtain ⟨z, e⟩ := zY e1
  cases e
  obtain ⟨a, items, rfl, li, _, r⟩ := qX I hx ro
  refine ⟨⟨_, _, li.typeIs, list_getitem_lookup⟩, wpAny_getItem_list_slice li hs pl pu .none (by simp) ?_ (by rw [r.size]; exact zy z)⟩
  rw [Ja]
  exact k.list I (Nat.le_trans (Zf _ _ _) z) (r.cut _ _)
theorem Wd {v : AV} {t : Bi} {c : Value} {r : Bool} (e : zCc v t = some r) (rv : VR X μ s.heap v c) (k : ∀ t, Q (.bool r) { s with toks := t }) :
    wpAny (model prog w) A (call (.builtin "isinstance") [c, wa t]) Q E s := by
  have k0 := k s.toks
  have k1 := k (s.toks + 1)
  cases t with
  | int =>
    cases v with
    | int i => cases e; obtain ⟨u, rfl⟩ := rv.int_; exact IsiPair.int_int k0
    | _ => exact nos e
  | bool =>
    cases v with
    | bool b => cases e; rw [rv.bool_]; exact IsiPair.bool_bool k0
    | int i => cases e; obtain ⟨u, rfl⟩ := rv.int_; exact IsiPair.int_bool k1
    | _ => exact nos e
  | str =>
    cases v with
    | str x => cases e; obtain ⟨u, rfl, _⟩ := rv.str_; exact IsiPair.str_str k0
    | _ => exact nos e
  | tuple =>
    obtain ⟨xs, h1, rfl⟩ := y6 e
    rw [ZG h1] at rv
    obtain ⟨c, items, rfl, hT, _⟩ := rv.tup_
    exact IsiPair.isTuple_tuple hT (fun _ _ e => e) k0
  | _ => exact nos e
theorem YT {μ : Mu} {h : Heap} {xs : List AV} : ∀ {bs : List Bool} {vs : List Value}, xp xs = some bs → VRs X μ h xs vs → vs = bs.map Value.bool := by
  induction xs with
  | nil => intro bs vs e r; cases e; exact r.nil_
  | cons x xs ih =>
    intro bs vs e r
    obtain ⟨b, hb, e1⟩ := zS e
    obtain ⟨cs, hc, rfl⟩ := y6 e1
    obtain ⟨v, ws, rfl, a, q⟩ := r.cons_
    rw [jZ hb] at a
    rw [a.bool_, ih hc q]; rfl
theorem J2 {μ : Mu} {h : Heap} {xs : List AV} : ∀ {ss : List Str} {vs : List Value}, jd xs = some ss → VRs X μ h xs vs → ∃ l : List (Str × Tok), vs = strValues l ∧ l.map (·.1) = ss := by
  induction xs with
  | nil => intro bs vs e r; cases e; exact ⟨[], r.nil_, rfl⟩
  | cons x xs ih =>
    intro bs vs e r
    obtain ⟨b, hb, e1⟩ := zS e
    obtain ⟨cs, hc, rfl⟩ := y6 e1
    obtain ⟨v, ws, rfl, a, q⟩ := r.cons_
    rw [xi hb] at a
    obtain ⟨t, rfl, _⟩ := a.str_
    obtain ⟨l, rfl, rfl⟩ := ih hc q
    exact ⟨(b, t) :: l, rfl, rfl⟩
theorem Zz (bs : List Bool) (n : Nat) (hn : n = bs.length) : (List.range n).all (fun i => bs.getD i false) = bs.all id := by
  subst hn
  rw [Bool.eq_iff_iff]
  simp only [List.all_eq_true, List.mem_range, id]
  constructor
  · intro h b hb
    obtain ⟨i, hi, rfl⟩ := List.getElem_of_mem hb
    have := h i hi
    simpa [List.getD, y9 hi] using this
  · intro h i hi
    simpa [List.getD, y9 hi] using h _ (List.getElem_mem hi)
theorem Zy (bs : List Bool) (n : Nat) (hn : n = bs.length) : (List.range n).any (fun i => bs.getD i false) = bs.any id := by
  subst hn
  rw [Bool.eq_iff_iff]
  simp only [List.any_eq_true, List.mem_range, id]
  constructor
  · rintro ⟨i, hi, h⟩
    exact ⟨bs[i], List.getElem_mem hi, by simpa [List.getD, y9 hi] using h⟩
  · rintro ⟨b, hb, h⟩
    obtain ⟨i, hi, rfl⟩ := List.getElem_of_mem hb
    exact ⟨i, hi, by simpa [List.getD, y9 hi] using h⟩
theorem Xl {a : Addr} {items : Array Value} {Q : Value → Shared → Prop} (hh : A.handled = none) (hl : s.heap.IsList a items)
    (k : ∀ s₂ it, s₂ = { s with heap := s₂.heap } → (∀ b o, s.heap.get? b = some o → s₂.heap.get? b = some o) → s.heap.get? it = none →
      Walks prog w A it [it, a] [it] items.size (fun i v => items[i]? = some v) (fun i h => h.IsListIter it a i ∧ h.IsList a items) → (s₂.heap.IsListIter it a 0 ∧ s₂.heap.IsList a items) → Q (.ref it) s₂) :
    wpAny (model prog w) A (pyIter (.ref a)) Q E s := by
  have hlt : a < s.heap.objs.size := by obtain ⟨_, e, _⟩ := hl; exact Heap.lt_size e
  refine wpAny_pyIter_list hl (k _ _ rfl (fun b o e => Heap.get?_push_of_some _ e) ?_ (Walks.list hh _ a (Nat.ne_of_lt hlt) items) ⟨⟨_, Heap.get?_push_size _ rfl, rfl, rfl⟩, hl.push _⟩)
  cases q : s.heap.get? s.heap.objs.size with
  | none => rfl
  | some o => exact absurd (Heap.lt_size q) (Nat.lt_irrefl _)
theorem XI {items : Array Value} {bs : List Bool} {i : Nat} {v : Value} {s' : Shared} {A : Around} {Q : Bool → Shared → Prop} {E : Value → Shared → Prop} (ev : items.toList = bs.map Value.bool) (hP : items[i]? = some v) (hQ : Q (bs.getD i false) s') : wpAny (model prog w) A (truthy v) Q E s' := by
  rw [← Array.getElem?_toList, ev, List.getElem?_map] at hP
  cases hg : bs[i]? with
  | none => rw [hg] at hP; exact nos hP
  | some b => rw [hg] at hP; cases hP; rw [List.getD, hg] at hQ; exact wpAny_truthy_bool hQ
theorem QO (a b : Int) : (qe a b).length = (b - a).toNat := by unfold qe; rw [List.length_map, List.length_range]
theorem ZL (a b : Int) : Builtin.Range.rangeSize a b 1 = ((b - a).toNat : Int) := by
  unfold Builtin.Range.rangeSize
  simp
  lia
theorem qY {a : Int} (h : a.natAbs < 2 ^ 63) : Builtin.Range.rangeFitsLong a = true := by
  unfold Builtin.Range.rangeFitsLong
  simp
  lia
theorem XY {a b : Int} (h2 : a.natAbs < 2 ^ 62) (h3 : b.natAbs < 2 ^ 62) : Builtin.Range.small a b 1 = true := by
  unfold Builtin.Range.small
  rw [ZL, qY (by lia), qY (by lia), qY (by lia), qY (by lia)]
  simp
  exact .inr (qY (by lia))
theorem Xv {μ : Mu} {h : Heap} {xs : List AV} : ∀ {is : List Int} {vs : List Value}, ya yQ xs = some is → VRs X μ h xs vs → PyProof.Rows.IntsAre vs is := by
  induction xs with
  | nil => intro is vs e r; cases e; rw [r.nil_]; exact .nil
  | cons x xs ih =>
    intro is vs e r
    obtain ⟨v, ws, rfl, r1, r2⟩ := r.cons_
    unfold ya at e
    cases h1 : yQ x with
    | none => rw [h1] at e; exact nos e
    | some i =>
      cases h2 : ya yQ xs with
      | none => rw [h1, h2] at e; exact nos e
      | some js =>
        rw [h1, h2] at e
        cases e
        rw [yD h1] at r1
        obtain ⟨t, rfl⟩ := r1.int_
        exact .cons i t (ih h2 r2)
theorem Zs {μ : Mu} {h : Heap} {is : List Int} {vs : List Value} (r : PyProof.Rows.IntsAre vs is) : VRs X μ h (is.map AV.int) vs := by
  induction r with
  | nil => exact .nil
  | cons n t _ ih => exact .cons (.int n t) ih
theorem Xu {vs : List Value} {is : List Int} (r : PyProof.Rows.IntsAre vs is) : is.length = vs.length := by
  induction r with
  | nil => rfl
  | cons n t _ ih => exact congrArg (· + 1) ih
theorem z0l {b : Bi} {args : List AV} {args' : List Value} (R : Room n A l) (I : Inv X μ hp s) (ra : VRs X μ s.heap args args') (k : PO X l μ s (x6 b args hp) Q E) :
    wpAny (model prog w) A (call (wa b) args') Q E s := by
  obtain ⟨v, hp', e, k⟩ := k.ofP
  have k : PE X μ s v hp' Q := k
  cases b with
  | len =>
    obtain ⟨v, h1, e⟩ := zS e
    obtain ⟨m, h2, e⟩ := y6 e
    cases e
    rw [yP h1] at ra
    obtain ⟨_, rfl, rv⟩ := ra.one
    have h2 : (match (yf v).bind (zv hp) with
      | some kvs => some kvs.length
      | none => (match xR v with | some x => some x.length | none => (w0 hp v).map List.length)) = some m := h2
    cases hq : (yf v).bind (zv hp) with
    | some kvs =>
      rw [hq] at h2; cases h2
      obtain ⟨a, ha, hd⟩ := zS hq
      rw [yd ha] at rv
      obtain ⟨d', es, rfl, _, m, p, z, zl⟩ := I.dict_at rv (xM hd) prog w
      refine call_len_dict z m (by rw [← p.len]; exact ZI zl) ?_
      rw [← p.len]; exact k.tok I (.int _ _)
    | none =>
    rw [hq] at h2
    dsimp only at h2
    cases hs : xR v with
    | some x =>
      rw [hs] at h2; cases h2
      rw [xi hs] at rv
      obtain ⟨t, rfl, z⟩ := rv.str_
      exact P.len_str (Int.not_le.mpr (ZI z)) (k.tok I (.int _ _))
    | none =>
    rw [hs] at h2
    obtain ⟨xs, hx, rfl⟩ := y6 h2
    obtain ⟨a, items, rfl, l, z, r⟩ := qX I hx rv
    refine Calls.call_len_list l (by rw [r.size]; exact ZI z) ?_
    rw [r.size]; exact k.tok I (.int _ _)
  | «isinstance» =>
    obtain ⟨p, h1, e⟩ := zS e
    obtain ⟨t, h2, e⟩ := zS e
    obtain ⟨m, h3, e⟩ := y6 e
    cases e
    rw [ww h1] at ra
    obtain ⟨_, _, rfl, rv, rt⟩ := ra.two
    rw [z2e h2] at rt
    rw [rt.bi_]
    exact Wd h3 rv fun t => k.tok I (.bool _)
  | int =>
    obtain ⟨v, h1, e⟩ := zS e
    obtain ⟨m, h2, e⟩ := y6 e
    cases e
    rw [yP h1] at ra
    obtain ⟨_, rfl, rv⟩ := ra.one
    rw [jZ h2] at rv
    rw [rv.bool_]
    exact call_int_bool (k.tok I (.int _ _))
  | min =>
    obtain ⟨p, h1, e⟩ := zS e
    obtain ⟨i, h2, e⟩ := zS e
    obtain ⟨j, h3, e⟩ := y6 e
    cases e
    rw [ww h1] at ra
    obtain ⟨_, _, rfl, r1, r2⟩ := ra.two
    rw [yD h2] at r1
    rw [yD h3] at r2
    obtain ⟨t, rfl⟩ := r1.int_
    obtain ⟨u, rfl⟩ := r2.int_
    refine min_two_ints R.handled fun h' tk hk => ?_
    have : (if j < i then Value.int j u else Value.int i t) = .int (if j < i then j else i) (if j < i then u else t) := by split <;> rfl
    rw [this]
    exact k _ μ _ (.grow hk) (I.grow hk) (.int _ _)
  | max =>
    obtain ⟨p, h1, e⟩ := zS e
    obtain ⟨i, h2, e⟩ := zS e
    obtain ⟨j, h3, e⟩ := y6 e
    cases e
    rw [ww h1] at ra
    obtain ⟨_, _, rfl, r1, r2⟩ := ra.two
    rw [yD h2] at r1
    rw [yD h3] at r2
    obtain ⟨t, rfl⟩ := r1.int_
    obtain ⟨u, rfl⟩ := r2.int_
    refine max_two_ints R.handled fun h' tk hk => ?_
    have : (if j > i then Value.int j u else Value.int i t) = .int (if i < j then j else i) (if j > i then u else t) := by
      show (if i < j then _ else _) = Value.int (if i < j then j else i) (if i < j then u else t)
      split <;> rfl
    rw [this]
    exact k _ μ _ (.grow hk) (I.grow hk) (.int _ _)
  | range =>
    obtain ⟨v, h1, e⟩ := zS e
    obtain ⟨i, h2, e⟩ := zS e
    obtain ⟨h, e⟩ := zY e
    cases e
    rw [yP h1] at ra
    obtain ⟨_, rfl, rv⟩ := ra.one
    rw [yD h2] at rv
    obtain ⟨t, rfl⟩ := rv.int_
    exact call_range_1 (k _ μ _ (.grow fun b o e => Heap.get?_push_of_some _ e) (I.grow fun b o e => Heap.get?_push_of_some _ e) (.range (IsRange.new ..) (by decide) h))
  | list =>
    obtain ⟨v, h1, e⟩ := zS e
    obtain ⟨a, h2, e⟩ := zS e
    rw [yP h1] at ra
    obtain ⟨_, rfl, rv⟩ := ra.one
    rw [yd h2] at rv
    cases hd : zv hp a with
    | some kvs =>
      rw [hd] at e
      cases e
      obtain ⟨d', es, rfl, _, m, p, z, zl⟩ := I.dict_at rv (xM hd) prog w
      refine Wb z m R.handled (by rw [← p.len]; exact zy zl) fun h' tk vs n hk hg hi => k.listNew I (by rw [List.length_map]; exact zl) hk hg ?_
      rw [p.keys] at hi
      have := Zs (X := X) (μ := μ) (h := h') hi
      rw [List.map_map] at this
      exact this
    | none =>
    rw [hd] at e
    obtain ⟨xs, h3, e⟩ := zS e
    obtain ⟨z, e⟩ := zY e
    cases e
    obtain ⟨d, items, m, rfl, _, l, _, r⟩ := I.list_at rv (xk h3)
    exact call_list_seq _ (.inl rfl) l rfl rfl (fun h' c' hk hg => k.listNew I z hk hg (r.mono (List.prefix_refl _) fun b o e _ => hk b o e)) (by rw [r.size]; exact zy z)
  | sorted =>
    obtain ⟨v, h1, e⟩ := zS e
    obtain ⟨a, h2, e⟩ := zS e
    rw [yP h1] at ra
    obtain ⟨_, rfl, rv⟩ := ra.one
    rw [yd h2] at rv
    cases hd : zv hp a with
    | some kvs =>
      rw [hd] at e
      obtain ⟨⟨z1, z2⟩, e⟩ := zY e
      cases e
      obtain ⟨d', es, rfl, _, m, p, z, zl⟩ := I.dict_at rv (xM hd) prog w
      refine XQ z m R.handled (by rw [← p.len]; exact z1) fun D h' tk vs n ns hk hn hg hi hp1 hp2 => ?_
      rw [p.keys] at hp1
      have e1 := List.Perm.eq_of_pairwise (fun a b _ _ h1 h2 => Int.le_antisymm h1 h2) hp2 z2 hp1
      subst e1
      have := Zs (X := X) (μ := μ ++ [(D, none)]) (h := h') hi
      rw [List.map_map] at this
      obtain ⟨I', a⟩ := I.new (h' := h') (t := tk) (p := (D, none)) (o := .list (kvs.map fun (p : Int × AV) => AV.int p.1)) hk (fun b hb => by rw [qo hb]; exact hn) (List.nodup_cons.mpr ⟨List.not_mem_nil, List.nodup_nil⟩) (.list (n := n) hg (by rw [List.length_map]; exact zl) this)
      exact k _ _ _ a I' (.ref (jC μ _ I.len))
    | none =>
    rw [hd] at e
    obtain ⟨xs, h3, e⟩ := zS e
    obtain ⟨is, h4, e⟩ := zS e
    obtain ⟨⟨z1, z2⟩, e⟩ := zY e
    cases e
    obtain ⟨d, items, m, rfl, _, l, _, r⟩ := I.list_at rv (xk h3)
    have hi := Xv h4 r
    refine PyProof.Rows.sorted_ints (vs := items.toList) (by rw [Array.toArray_toList]; exact ⟨_, l, rfl, m, rfl⟩) hi (by rw [← Xu hi]; exact z1) fun out ns' a1 a2 a3 => ?_
    have e1 := List.Perm.eq_of_pairwise (fun a b _ _ h1 h2 => Int.le_antisymm h1 h2) a3 z2 a2
    subst e1
    obtain ⟨j, hj⟩ := PyProof.Rows.sortedAll_at s.heap items.toList out
    obtain ⟨I', a⟩ := I.new (h' := PyProof.Rows.sortedAll s.heap items.toList out) (t := s.toks) (p := (s.heap.objs.size + 1, none)) (o := .list (ns'.map AV.int)) (fun _ _ => PyProof.Rows.sortedAll_old) (fun b hb => by
      rw [qo hb]
      cases q : s.heap.get? (s.heap.objs.size + 1) with
      | none => rfl
      | some o => exact absurd (Heap.lt_size q) (Nat.not_lt.mpr (Nat.le_succ _))) (List.nodup_cons.mpr ⟨List.not_mem_nil, List.nodup_nil⟩) (.list (n := j) hj (by rw [List.length_map]; exact Nat.le_trans (Nat.le_of_lt z1) (by decide)) (Zs a1))
    exact k _ _ _ a I' (.ref (jC μ _ I.len))
  | tuple => exact nos e
  | any =>
    obtain ⟨v, h1, e⟩ := zS e
    obtain ⟨xs, hx, e⟩ := zS e
    obtain ⟨bs, hb, e⟩ := y6 e
    cases e
    rw [yP h1] at ra
    obtain ⟨_, rfl, rv⟩ := ra.one
    obtain ⟨a, items, rfl, hl, z, r⟩ := qX I hx rv
    have ev := YT hb r
    refine call_any_walk (Xl (A := A.in1) R.handled hl fun s₂ it hs hk hn W st => ⟨_, _, _, _, _, _, fun i => bs.getD i false, rfl, W, st, fun i v s' Q E hP hQ => XI ev hP hQ, fun h' tk hk' => ?_⟩)
    rw [Zy bs _ (by rw [← Array.length_toList, ev, List.length_map])]
    have hk2 : ∀ b o, s.heap.get? b = some o → h'.get? b = some o := fun b o e => hk' b o (fun hm => by
      rw [xD hm, hn] at e; cases e) (hk b o e)
    rw [hs]
    exact k _ μ _ (.grow hk2) (I.grow hk2) (.bool _)
  | all =>
    obtain ⟨v, h1, e⟩ := zS e
    obtain ⟨xs, hx, e⟩ := zS e
    obtain ⟨bs, hb, e⟩ := y6 e
    cases e
    rw [yP h1] at ra
    obtain ⟨_, rfl, rv⟩ := ra.one
    obtain ⟨a, items, rfl, hl, z, r⟩ := qX I hx rv
    have ev := YT hb r
    refine call_all_walk (Xl (A := A.in1) R.handled hl fun s₂ it hs hk hn W st => ⟨_, _, _, _, _, _, fun i => bs.getD i false, rfl, W, st, fun i v s' Q E hP hQ => XI ev hP hQ, fun h' tk hk' => ?_⟩)
    rw [Zz bs _ (by rw [← Array.length_toList, ev, List.length_map])]
    have hk2 : ∀ b o, s.heap.get? b = some o → h'.get? b = some o := fun b o e => hk' b o (fun hm => by
      rw [xD hm, hn] at e; cases e) (hk b o e)
    rw [hs]
    exact k _ μ _ (.grow hk2) (I.grow hk2) (.bool _)
  | bool => exact nos e
  | str => exact nos e
  | enumerate => exact nos e
noncomputable def Jm : Me → String
  | .append => "list.append" | .insert => "list.insert" | .index => "list.index" | .count => "list.count" | .remove => "list.remove" | .join => "str.join" | .pop => "dict.pop" | .extend => "list.extend" | .clear => "list.clear"
theorem qV (I : Inv X μ hp s) {a : Nat} {c : Addr} {items : Array Value} {m t : Nat} {f : Array Value → Array Value} {xs : List AV} (ha : μ[a]? = some (c, none)) (hl : IsL s.heap c items m) (z : xs.length ≤ small)
    (r : VRs X μ s.heap xs (f items).toList) :
    Inv X μ (hp.set a (.list xs)) { s with heap := s.heap.update c (Obj.mapSeq f), toks := t } ∧ Le noS μ s μ { s with heap := s.heap.update c (Obj.mapSeq f), toks := t } := by
  have g : ∃ m', (s.heap.update c (Obj.mapSeq f)).get? c = some { cls := .type "list", dict := none, data := .seq (f items) m', slots := #[] } := ⟨_, Heap.get?_update_self _ hl rfl⟩
  obtain ⟨m', g⟩ := g
  have hk : ∀ b o, b ∉ ads (c, none) → s.heap.get? b = some o → (s.heap.update c (Obj.mapSeq f)).get? b = some o := fun b o hb e => (Heap.get?_update_other _ _ (fun h => hb (by rw [← h]; exact .head _))).trans e
  refine I.upd ha hk (.list g z (r.mono (List.prefix_refl _) fun b o e fx => hk b o (fun hb => ?_) e))
  rw [qo hb, hl] at e
  cases e
  exact Mut.notFixed (.inl ⟨rfl, _, _, rfl⟩) fx
theorem Xw {α : Type} (items : Array α) (y : α) (k : Nat) : ((items.extract 0 k).push y ++ items.extract k).toList = items.toList.take k ++ y :: items.toList.drop k := by
  simp [Array.toList_extract]
  rw [List.take_of_length_le (by simp)]
theorem Wz {α : Type} (ls : List α) (j : Nat) : ls.take (min j ls.length) = ls.take j := by rw [List.take_eq_take_iff]; simp
theorem z06 {α : Type} (ls : List α) (j : Nat) : ls.drop (min j ls.length) = ls.drop j := by
  by_cases h : j ≤ ls.length
  · rw [Nat.min_eq_left h]
  · rw [Nat.min_eq_right (by lia), List.drop_of_length_le (Nat.le_refl _), List.drop_of_length_le (by lia)]
theorem Qz (I : Inv X μ hp s) {a : Nat} {items : Array Value} {xs : List AV} {ds : List PyData} (hx : zn hp a = some xs) (e : z1p hp (.ref a) = some ds)
    (r : VRs X μ s.heap xs items.toList) : DRs s.heap 7 items.toList ds := by
  have e : (zn hp a).bind (fun xs => ya (toD hp 7) xs) = some ds := e
  rw [hx] at e
  exact wh (qW I 7) e r
noncomputable def isI (i : Int) : Value → Bool
  | .int a _ => a == i
  | _ => false
theorem z1z {vs : List Value} {is : List Int} (r : PyProof.Rows.IntsAre vs is) : ∀ {m : Nat} {v : Value}, vs[m]? = some v → ∃ i u, is[m]? = some i ∧ v = .int i u := by
  induction r with
  | nil => intro m v h; exact nos h
  | cons n t _ ih =>
    intro m v h
    cases m with
    | zero => cases h; exact ⟨n, t, rfl, rfl⟩
    | succ m => exact ih h
theorem VRs.erase {μ : Mu} {h : Heap} {xs : List AV} : ∀ {vs : List Value} (_ : VRs X μ h xs vs) (j : Nat), VRs X μ h (xs.eraseIdx j) (vs.eraseIdx j) := by
  induction xs with
  | nil => intro vs r j; rw [r.nil_]; exact .nil
  | cons x xs ih =>
    intro vs r j
    obtain ⟨v, ws, rfl, r1, r2⟩ := r.cons_
    cases j with
    | zero => exact r2
    | succ j => exact .cons r1 (ih r2 j)
theorem Xc {m : Me} {o : AV} {args : List AV} {c : Value} {args' : List Value} (R : Room n A l) (I : Inv X μ hp s) (ro : VR X μ s.heap o c) (ra : VRs X μ s.heap args args')
    (k : PO X l μ s (yG m o args hp) Q E) : wpAny (model prog w) A (call (.builtin (Jm m)) (c :: args')) Q E s := by
  have hu := R.units'
  obtain ⟨v, hp', e, k⟩ := k.ofP
  have k : PE X μ s v hp' Q := k
  cases hs : xR o with
  | some sep =>
    rw [hs] at e
    cases m with
    | join =>
      obtain ⟨y, h2, e⟩ := zS e
      obtain ⟨xs, hx, e⟩ := zS e
      obtain ⟨ss, hss, e⟩ := zS e
      obtain ⟨z, e⟩ := zY e
      cases e
      rw [xi hs] at ro
      rw [yP h2] at ra
      obtain ⟨y', rfl, ry⟩ := ra.one
      obtain ⟨t, rfl, zs⟩ := ro.str_
      obtain ⟨a, items, rfl, hl, _, r⟩ := qX I hx ry
      obtain ⟨l, q1, q2⟩ := J2 hss r
      have hl' : s.heap.IsList a (strValues l).toArray := by rw [← q1, Array.toArray_toList]; exact hl
      refine SC.join hl' q2 ?_ fun t' j => ?_
      · unfold JoinOk
        have e1 := StrLaws.joinTotal sep ss
        rw [qy] at z
        simp only [Builtin.Str.tooLong, sizeLine]
        rw [e1]
        simp; lia
      · have e2 : Txt.join sep ss = Str.join sep ss := StrLaws.glued_eq_join sep ss
        rw [e2]
        exact k.tok I (.str _ (Nat.le_trans (StrLaws.join_length_le sep ss) z))
    | _ => exact nos e
  | none =>
  rw [hs] at e
  obtain ⟨a, h1, e⟩ := zS e
  obtain ⟨xs, hx, e⟩ := zS e
  rw [yd h1] at ro
  obtain ⟨d, items, mm, rfl, g1, hl, z0, r⟩ := I.list_at ro (xk hx)
  have l := r.size
  have cmp : ∀ {ds : List PyData} {x : PyData}, PyData.depthAll ds ≤ 7 → A.units + 1 + min (PyData.depthAll ds) x.depth < cLine := fun {ds x} h => by
    have : min (PyData.depthAll ds) x.depth ≤ PyData.depthAll ds := Nat.min_le_left _ _
    lia
  cases m with
  | append =>
    obtain ⟨y, h2, e⟩ := zS e
    obtain ⟨z, e⟩ := zY e
    cases e
    rw [yP h2] at ra
    obtain ⟨y', rfl, ry⟩ := ra.one
    refine call_meets F.slot_list_append ⟨_, hl, rfl⟩ F.entry_list_append (F.args_list_append_2 _ _) (AutoListH.list_append_list_val_0 _ _ _ y' (by rw [l]; exact zy (Nat.le_of_lt z))) ⟨hl, ?_⟩
    obtain ⟨I', a'⟩ := qV (t := s.toks) I g1 hl (f := fun x => x.push y') (xs := xs ++ [y]) (by rw [zP]; exact z) (by rw [Array.toList_push]; exact r.app (.cons ry .nil))
    exact k _ μ _ a' I' .none
  | insert =>
    obtain ⟨p, h2, e⟩ := zS e
    obtain ⟨i, h3, e⟩ := zS e
    obtain ⟨⟨z, zz⟩, e⟩ := zY e
    cases e
    rw [ww h2] at ra
    obtain ⟨i', y', rfl, ri, ry⟩ := ra.two
    rw [yD h3] at ri
    obtain ⟨t, rfl⟩ := ri.int_
    obtain ⟨i0, i1⟩ := yv.mp zz
    refine call_meets F.slot_list_insert ⟨_, hl, rfl⟩ F.entry_list_insert (F.args_list_insert_3 _ _ _) (AutoListH.list_insert_list_int_val_1 _ _ _ i _ y' (by simp [Builtin.List.listFitsIndex]; lia) (by rw [l]; exact zy (Nat.le_of_lt z))) ⟨hl, ?_⟩
    obtain ⟨I', a'⟩ := qV (t := s.toks) I g1 hl (f := fun xs => have k := if i < 0 then (i + ((xs.size : Nat) : Int)).toNat else min i.toNat xs.size; (xs.extract 0 k).push y' ++ xs.extract k) (xs := qB xs i.toNat p.2)
      (by rw [qB, zP, List.length_cons, List.length_take, List.length_drop]; have z : xs.length < 1048576 := z; rw [qy]; lia) (by
        dsimp only
        rw [if_neg (by lia), Xw, ← Array.length_toList, Wz, z06]
        exact (r.take _).app (.cons ry (r.drop _)))
    exact k _ μ _ a' I' .none
  | index =>
    obtain ⟨y, h2, e⟩ := zS e
    obtain ⟨j, hj, e⟩ := y6 e
    cases e
    rw [yP h2] at ra
    obtain ⟨y', rfl, ry⟩ := ra.one
    obtain ⟨ds, hd, hj⟩ := zS hj
    obtain ⟨x, hy, hj⟩ := zS hj
    obtain ⟨⟨as, ras⟩, c1, d1⟩ := Qz I hx hd r
    obtain ⟨⟨bs, rb⟩, c2, d2⟩ := qW I _ hy ry
    obtain ⟨hk, g2, g3⟩ := List.findIdx?_eq_some_iff_getElem.mp hj
    have hm := SeqAt.readsAll_map ds _ _ c1 ras
    have len : ds.length = items.size := by rw [← hm, List.length_map, Array.length_toList]
    have at_ : ∀ i (hi : i < items.size), ds[i]'(by rw [len]; exact hi) = SeqAt.readOf s.heap items[i] := fun i hi => by
      have : ds[i]? = some (SeqAt.readOf s.heap items[i]) := by rw [← hm, List.getElem?_map, Array.getElem?_toList, Array.getElem?_eq_getElem hi]; rfl
      exact (y8 this).2
    have hjs : j < items.size := by rw [← len]; exact hk
    refine call_meets F.slot_list_index ⟨_, hl, rfl⟩ F.entry_list_index (F.args_list_index_2 _ _)
      (SeqAt.list_indexAt d items mm none #[] y' (fun y => PyData.eqv (SeqAt.readOf s.heap y) x) j hjs (by have z0 : xs.length ≤ 1048576 := z0; lia) ?_ ?_)
      ⟨hl, SeqAt.items_eqAt (A := A) ras rb c1 c2 (cmp d1), k.tok I (.int _ _)⟩
    · rw [← at_ j hjs]; exact g2
    · intro i hi hlt; rw [← at_ i hi]; simpa using g3 i hlt
  | count =>
    obtain ⟨y, h2, e⟩ := zS e
    obtain ⟨j, hj, e⟩ := y6 e
    cases e
    rw [yP h2] at ra
    obtain ⟨y', rfl, ry⟩ := ra.one
    obtain ⟨ds, hd, hj⟩ := zS hj
    obtain ⟨x, hy, rfl⟩ := y6 hj
    obtain ⟨⟨as, ras⟩, c1, d1⟩ := Qz I hx hd r
    obtain ⟨⟨bs, rb⟩, c2, d2⟩ := qW I _ hy ry
    have hm := SeqAt.readsAll_map ds _ _ c1 ras
    refine call_meets F.slot_list_count ⟨_, hl, rfl⟩ F.entry_list_count (F.args_list_count_2 _ _)
      (SeqAt.list_countAt d items mm none #[] y' (fun y => PyData.eqv (SeqAt.readOf s.heap y) x))
      ⟨hl, SeqAt.items_eqAt (A := A) ras rb c1 c2 (cmp d1), ?_⟩
    have : items.toList.countP (fun y => PyData.eqv (SeqAt.readOf s.heap y) x) = ds.countP fun y => PyData.eqv y x := by rw [← hm, List.countP_map]; rfl
    rw [this]
    exact k.tok I (.int _ _)
  | extend =>
    obtain ⟨y, h2, e⟩ := zS e
    obtain ⟨b, hb, e⟩ := zS e
    obtain ⟨ys, hy, e⟩ := zS e
    obtain ⟨z, e⟩ := zY e
    cases e
    rw [yP h2] at ra
    obtain ⟨y', rfl, ry⟩ := ra.one
    rw [yd hb] at ry
    obtain ⟨d2, it2, m2, rfl, _, l2, _, r2⟩ := I.list_at ry (xk hy)
    have hz : items.size + it2.size ≤ sizeLine := by rw [l, r2.size]; exact zy (Nat.le_of_lt z)
    refine call_meets F.slot_list_extend ⟨_, hl, rfl⟩ F.entry_list_extend (F.args_list_extend_2 _ _) (AutoSeq1.list_extend_list_list_0 d items mm d2 it2 m2 (PyProof.Rows.extend_door hz) (Nat.le_trans (Nat.le_add_right _ _) hz) (Nat.le_succ_of_le hz)) ⟨hl, l2, ?_⟩
    obtain ⟨I', a'⟩ := qV (t := s.toks) I g1 hl (f := fun x => x ++ it2) (xs := xs ++ ys) (by rw [zP]; exact Nat.le_of_lt z) (by rw [Array.toList_append]; exact r.app r2)
    exact k _ μ _ a' I' .none
  | clear =>
    obtain ⟨z, e⟩ := zY e
    cases e
    obtain rfl : args' = [] := by
      cases args with
      | nil => exact ra.nil_
      | cons _ _ => exact nob z
    refine call_meets F.slot_list_clear ⟨_, hl, rfl⟩ F.entry_list_clear (F.args_list_clear_1 _) (AutoSeq1.list_clear_list_0 d items mm (by rw [l]; exact zy z0)) ⟨hl, ?_⟩
    obtain ⟨I', a'⟩ := qV (t := s.toks) I g1 hl (f := fun _ => #[]) (xs := []) (Nat.zero_le _) .nil
    exact k _ μ _ a' I' .none
  | remove =>
    obtain ⟨y, h2, e⟩ := zS e
    obtain ⟨i, h3, e⟩ := zS e
    obtain ⟨is, h4, e⟩ := zS e
    obtain ⟨j, hj, e⟩ := y6 e
    cases e
    rw [yP h2] at ra
    obtain ⟨y', rfl, ry⟩ := ra.one
    rw [yD h3] at ry
    obtain ⟨t, rfl⟩ := ry.int_
    have hI := Xv h4 r
    have len : is.length = items.size := (Xu hI).trans (Array.length_toList)
    obtain ⟨hk, g2, g3⟩ := List.findIdx?_eq_some_iff_getElem.mp hj
    have at_ : ∀ m (hm : m < items.size) (hm' : m < is.length), isI i items[m] = (is[m] == i) ∧ MeetsSeq.EqGives items[m] (.int i t) (is[m] == i) := fun m hm hm' => by
      obtain ⟨x, u, q1, q2⟩ := z1z hI (m := m) (v := items[m]) (by rw [Array.getElem?_toList, Array.getElem?_eq_getElem hm])
      rw [y9 hm'] at q1
      cases q1
      rw [q2]
      exact ⟨rfl, MeetsSeq.EqGives.int _ _ _ _⟩
    refine call_meets F.slot_list_remove ⟨_, hl, rfl⟩ F.entry_list_remove (F.args_list_remove_2 _ _)
      (MeetsSeq.list_remove d items mm (.int i t) (isI i) (fun y hy => ?_) j (by rw [← len]; exact hk) ?_ (fun m hm hlt => ?_) (by rw [l]; exact zy z0)) ⟨hl, ?_⟩
    · obtain ⟨m, hm, rfl⟩ := Array.getElem_of_mem hy
      obtain ⟨q1, q2⟩ := at_ m hm (by rw [len]; exact hm)
      rw [q1]; exact q2
    · rw [(at_ j (by rw [← len]; exact hk) hk).1]; exact g2
    · rw [(at_ m hm (by rw [len]; exact hm)).1]; simpa using g3 m hlt
    · obtain ⟨I', a'⟩ := qV (t := s.toks) I g1 hl (f := fun x => x.eraseIdxIfInBounds j) (xs := xs.eraseIdx j) (Nat.le_trans (List.length_eraseIdx_le _ _) z0) (by rw [Array.toList_eraseIdxIfInBounds]; exact r.erase j)
      exact k _ μ _ a' I' .none
  | _ => exact nos e
theorem PRs.wo {μ : Mu} {h : Heap} {kvs : List (Int × AV)} {es : List (Int × Value)} {k : Int} (r : PRs X μ h kvs es) : PRs X μ h (kvs.filter fun x => !decide (x.1 = k)) (without es k) := by
  unfold without
  induction r with
  | nil => exact .nil
  | @cons k' v w r es a _ ih =>
    rw [List.filter_cons, List.filter_cons]
    by_cases q : k' = k
    · rw [if_neg (by simp [q]), if_neg (by simp [q])]; exact ih
    · rw [if_pos (by simp [q]), if_pos (by simp [q])]; exact .cons a ih
theorem Wm {m : Me} {a : Nat} {args : List AV} {c : Value} {args' : List Value} (I : Inv X μ hp s) (ro : VR X μ s.heap (.ref a) c) (ra : VRs X μ s.heap args args')
    (k : PO X l μ s (Mine.ofP (meD m a args hp)) Q E) : wpAny (model prog w) A (call (.builtin (Jm m)) (c :: args')) Q E s := by
  obtain ⟨v, hp', e, k⟩ := k.ofP
  have k : PE X μ s v hp' Q := k
  cases m with
  | pop =>
    obtain ⟨u, h1, e⟩ := zS e
    obtain ⟨i, h2, e⟩ := zS e
    obtain ⟨kvs, h3, e⟩ := zS e
    obtain ⟨v0, h4, e⟩ := y6 e
    cases e
    rw [yP h1] at ra
    obtain ⟨u1, rfl, r1⟩ := ra.one
    rw [yD h2] at r1
    obtain ⟨t, rfl⟩ := r1.int_
    obtain ⟨d, es, rfl, g1, m, q, z, zl⟩ := I.dict_at ro (xM h3) prog w
    rcases q.get (k := i) with ⟨q1, q2⟩ | ⟨v, w', q1, q2, rv⟩
    · rw [q1] at h4; exact nos h4
    · rw [q1] at h4; cases h4
      refine call_meetsIn F.slot_dict_pop m.typeIs F.entry_dict_pop (F.args_dict_pop_2 _ _) (meets_dict_pop_there (knd := intKind prog w) (k := i) (d := d) (by show Value.isInt i (.int i t) = true; simp [Value.isInt]) [] (.inl rfl) rfl) ⟨_, w', m, by rw [← q.len]; exact zy zl, q2, fun h' hm hs => ?_⟩
      have hkp : ∀ b' o, b' ∉ ads (d, none) → s.heap.get? b' = some o → h'.get? b' = some o := fun b' o hb e => (hs.2 b' (fun h => hb (by rw [h]; exact .head _))).trans e
      have hfx : ∀ b' o, s.heap.get? b' = some o → yS o → h'.get? b' = some o := fun b' o e fx => hkp b' o (fun hb => by
        obtain ⟨o', es', ep, ho, hc, _⟩ := m
        rw [qo hb, ho] at e
        cases e
        exact Mut.notFixed (.inr (.inr hc.1)) fx) e
      obtain ⟨I', a''⟩ := I.upd (h' := h') (t := s.toks + 1) (o' := .dict (kvs.filter fun x => !decide (x.1 = i))) g1 hkp (.dict hm (q.wo.mono (List.prefix_refl _) hfx) z (Nat.le_trans (List.length_filter_le _ _) zl))
      exact k _ μ _ a'' I' (rv.mono (List.prefix_refl _) hfx)
  | _ => exact nos e
end
end Mine
end
end
section
noncomputable section
namespace Mine
open PySem PySem.W PySem.Calls
structure EnvR (X : Cx) (l : List Env) (sc : Sc) (env : Env) (fr : AFr) (μ : Mu) (h : Heap) : Prop where
  fn : env.scope.kind = .function
  glob : env.globals = mainGlobals
  bltn : env.builtins = builtinsNs
  kind : ∀ x, sc.kind x = env.kindOf x
  loc : ∃ m, h.Ns env.locals m ∧ ∀ x i v, sc.kind x = some .local → sc.slot x = some i → fr[i]? = some (some v) → ∃ v', m x = some v' ∧ VR X μ h v v'
  cel : ∀ x i, (sc.kind x = some .cell ∨ sc.kind x = some .free) → sc.slot x = some i → ∃ c cv, env.cells.lookup x = some c ∧ h.IsCell c cv ∧ ∀ v, fr[i]? = some (some v) → ∃ v', cv = some v' ∧ VR X μ h v v'
  nloc : env.locals ∉ zb μ
  bloc : X.base.get? env.locals = none
  ncel : ∀ x c, env.cells.lookup x = some c → c ∉ zb μ ∧ ∃ cv, h.IsCell c cv
  bcel : ∀ x c, env.cells.lookup x = some c → X.base.get? c = none
  apart : ∀ x y c, env.cells.lookup x = some c → env.cells.lookup y = some c → x = y
  inj : ∀ x y i, sc.slot x = some i → sc.slot y = some i → x = y
  wid : fr.length = sc.width
  slt : ∀ x i, sc.slot x = some i → i < sc.width
  frs : Frs X l μ h
section
variable {X : Cx} {sc : Sc} {env : Env} {fr : AFr} {μ μ' : Mu} {hp hp' : Hp} {s s' : Shared} {l : List Env}
theorem EnvR.le (V : EnvR X l sc env fr μ s.heap) (I : Inv X μ hp s) (a : Le noS μ s μ' s') : EnvR X l sc env fr μ' s'.heap := by
  obtain ⟨m, ns, hm⟩ := V.loc
  have kp : ∀ b o, b ∉ zb μ → s.heap.get? b = some o → Zu o (s'.heap.get? b) := fun b o n e => a.keep b o n (fun h => h) e
  have nin : ∀ b o, b ∉ zb μ → s.heap.get? b = some o → b ∉ zb μ' := fun b o n e h => by
    rcases a.fresh b h with h | h
    · exact n h
    · rw [e] at h; cases h
  have cellK : ∀ {c : Addr} {cv : Option Value}, c ∉ zb μ → s.heap.IsCell c cv → s'.heap.IsCell c cv := fun n h => by
    obtain ⟨o, ho, r⟩ := h; exact ⟨o, (kp _ o n ho).exact (by unfold isD; rw [r]), r⟩
  refine ⟨V.fn, V.glob, V.bltn, V.kind, ⟨m, ?_, fun x i v h1 h2 h3 => ?_⟩, fun x i h1 h2 => ?_, ?_, V.bloc, fun x c hc => ?_, V.bcel, V.apart, V.inj, V.wid, V.slt, V.frs.le a⟩
  · obtain ⟨o, es, ep, ho, hd, r⟩ := ns
    obtain ⟨o', e', q⟩ := (kp _ o V.nloc ho).get
    exact ⟨o', es, ep, e', q.trans hd, r⟩
  · obtain ⟨v', e, r⟩ := hm x i v h1 h2 h3
    exact ⟨v', e, r.le I a⟩
  · obtain ⟨c, cv, e1, e2, e3⟩ := V.cel x i h1 h2
    refine ⟨c, cv, e1, cellK (V.ncel x c e1).1 e2, fun v hv => ?_⟩
    obtain ⟨v', q, r⟩ := e3 v hv
    exact ⟨v', q, r.le I a⟩
  · obtain ⟨o, es, ep, ho, r⟩ := ns
    exact nin _ o V.nloc ho
  · obtain ⟨n, cv, h⟩ := V.ncel x c hc
    obtain ⟨o, ho, r⟩ := id h
    exact ⟨nin c o n ho, cv, cellK n h⟩
end
structure Gd (X : Cx) (G : GTab) : Prop where
  K : X.K.In X.base
  top : ∃ mg mb, X.base.Ns mainGlobals mg ∧ X.base.Ns builtinsNs mb ∧ ∀ x : Str, x ≠ "__name__" → mb x = bootBuiltins x
  lim : X.base.NoLimit
  glob : ∀ x v, G.glob x = some v → ∃ c, (nsIn X.K mainGlobals x = some (some c) ∨ (nsIn X.K mainGlobals x = some none ∧ bootBuiltins x = some c ∧ x ≠ "__name__")) ∧ ∀ μ h, VR X μ h v c
  exc : ∀ x, G.exc x = true → ∃ C mg, nsIn X.K mainGlobals x = some (some (.ref C)) ∧ PyProof.Rows.OwnCls x C [.type "ValueError", .type "Exception", .type "BaseException", .type "object"] "ValueError.__new__" mg X.base
  okf : ∀ c name, G.okf c name = true → ∃ C, nsIn X.K mainGlobals c = some (some (.ref C)) ∧ xg X.K C = true ∧ wP X.K C name = true
section
variable {prog : Program} {w : World} {X : Cx} {G : GTab} {sc : Sc} {env : Env} {fr : AFr} {μ μ' : Mu} {hp hp' : Hp} {s s' : Shared} {A : Around} {E : Value → Shared → Prop} {n : Nat} {l : List Env} {Q : Value → Shared → Prop}
theorem Inv.kin (I : Inv X μ hp s) (g : X.K.In X.base) : X.K.In s.heap := g.keeps I.keep
theorem Y1 {x : Str} {pos : Pos} {i : Nat} {v : AV} (hk : sc.kind x = some .local ∨ sc.kind x = some .cell ∨ sc.kind x = some .free) (hs : sc.slot x = some i) (hv : fr[i]? = some (some v)) (I : Inv X μ hp s) (V : EnvR X l sc env fr μ s.heap)
    (hd : (x == ("__debug__" : Str)) = false) (hc : (x == ("__classdict__" : Str)) = false) (k : PE X μ s v hp Q) : wpAny (model prog w) A (eval (.Name x pos) env) Q E s := by
  refine wpAny_Name ?_ hd
  have kd := V.kind x
  rcases hk with h | h | h
  · obtain ⟨m, ns, hm⟩ := V.loc
    obtain ⟨v', e, r⟩ := hm x i v h hs hv
    exact wpAny_loadName_local V.fn (kd ▸ h) ns e (k.here I r)
  · obtain ⟨c, cv, e1, e2, e3⟩ := V.cel x i (.inl h) hs
    obtain ⟨v', rfl, r⟩ := e3 v hv
    exact wpAny_loadName_cell V.fn (kd ▸ h) e1 e2 (k.here I r)
  · obtain ⟨c, cv, e1, e2, e3⟩ := V.cel x i (.inr h) hs
    obtain ⟨v', rfl, r⟩ := e3 v hv
    exact wpAny_loadName_free V.fn (kd ▸ h) e1 e2 (k.here I r) hc
theorem Zc {x : Str} {pos : Pos} {v : AV} (g : Gd X G) (hk : sc.kind x = some .globalImplicit) (hv : G.glob x = some v) (I : Inv X μ hp s) (V : EnvR X l sc env fr μ s.heap) (hd : (x == ("__debug__" : Str)) = false)
    (k : PE X μ s v hp Q) : wpAny (model prog w) A (eval (.Name x pos) env) Q E s := by
  obtain ⟨c, hc, r⟩ := g.glob x v hv
  obtain ⟨mg, mb, ng, nb, hb⟩ := g.top
  have kd : env.kindOf x = some .globalImplicit := (V.kind x) ▸ hk
  rcases hc with e | ⟨e, e2, e3⟩
  · exact Name_function_global V.fn kd (loadGlobal_global (by rw [V.glob]; exact ng.keeps I.keep) (mg_of g.K ng e) (k.here I (r _ _))) hd
  · exact Name_function_global V.fn kd (loadGlobal_builtin (by rw [V.glob]; exact ng.keeps I.keep) (mg_none_of g.K ng e) (by rw [V.bltn]; exact nb.keeps I.keep) ((hb x e3).trans e2) (k.here I (r _ _))) hd
theorem VR.handed {μ : Mu} {h : Heap} {v : AV} {c : Value} (r : VR X μ h v c) : handedIn c = true := by
  cases r <;> first | rfl | (rename_i b; cases b <;> first | rfl | decide)
theorem Xr {m name : Str} {tt : Tok} (q : (name == m) = false) : (Value.str m tt).isStr name = false := by show (m == name) = false; rw [beq_eq_false_iff_ne] at q ⊢; exact q.symm
theorem Jy {m name : Str} {tt : Tok} (q : (name == m) = true) : (Value.str m tt).isStr name = true := by show (m == name) = true; rw [beq_iff_eq] at q ⊢; exact q.symm
theorem FsR.miss {μ : Mu} {h : Heap} {name : Str} {fs : List (Str × AV)} {es : List DictEntry} (r : FsR X μ h fs es) : fs.lookup name = none → es.find? (·.key.isStr name) = none ∧ es.any (·.refKey) = false := by
  induction r with
  | nil => intro _; exact ⟨rfl, rfl⟩
  | @cons m v hs tt w fs es a r ih =>
    intro e
    rw [List.lookup_cons] at e
    cases q : name == m with
    | true => rw [q] at e; cases e
    | false =>
      rw [q] at e
      obtain ⟨h1, h2⟩ := ih e
      exact ⟨by rw [List.find?_cons_of_neg (by rw [Xr q]; exact Bool.false_ne_true)]; exact h1, by rw [List.any_cons, h2]; rfl⟩
theorem FsR.find {μ : Mu} {h : Heap} {name : Str} {v : AV} {fs : List (Str × AV)} {es : List DictEntry} (r : FsR X μ h fs es) : fs.lookup name = some v → ∃ e, es.find? (·.key.isStr name) = some e ∧ VR X μ h v e.val := by
  induction r with
  | nil => intro e; exact nos e
  | @cons m v hs tt w fs es a r ih =>
    intro e
    rw [List.lookup_cons] at e
    cases q : name == m with
    | true =>
      rw [q] at e; cases e
      exact ⟨_, List.find?_cons_of_pos (Jy q), a⟩
    | false =>
      rw [q] at e
      obtain ⟨c, h1, h2⟩ := ih e
      exact ⟨c, by rw [List.find?_cons_of_neg (by rw [Xr q]; exact Bool.false_ne_true)]; exact h1, h2⟩
theorem FsR.get {μ : Mu} {h : Heap} {name : Str} {v : AV} {fs : List (Str × AV)} {es : List DictEntry} (r : FsR X μ h fs es) (e : fs.lookup name = some v) : ∃ c, getL name es = some (some c) ∧ VR X μ h v c := by
  obtain ⟨c, h1, h2⟩ := r.find e
  exact ⟨c.val, by unfold getL; rw [h1], h2⟩
theorem wn {K : Frag} {C : Addr} (h : xg K C = true) : (findIn K (.ref C) "__getattribute__" = some (some (.builtin "object.__getattribute__")) ∧ findIn K (.ref C) "__getattr__" = some none) ∧ hasDictIn K C = true ∧
    findIn K (.ref C) "__setattr__" = some (some (.builtin "object.__setattr__")) ∧ plainOver K C = true := by
  unfold xg at h
  simp only [Bool.and_eq_true, beq_iff_eq] at h
  exact ⟨plainGet_of h.1.1.1, h.1.1.2, h.1.2, h.2⟩
theorem wN {h : Heap} {x dx C : Addr} {es : List DictEntry} {n : Nat} {sl : Array (Option Value)} (h1 : h.get? x = some ⟨.ref C, some dx, .plain, sl⟩) (h2 : h.get? dx = some (dictOf es n)) :
    InstAt h x ⟨.ref C, some dx, .plain, sl⟩ C (some (dictOf es n)) := ⟨h1, rfl, rfl, h2⟩
theorem Xk {name : Str} {v : AV} {l : List (Str × AV)} : l.lookup name = some v → ∃ p ∈ l, p.1 = name := by
  induction l with
  | nil => intro h; exact nos h
  | cons p l ih =>
    intro h
    rw [List.lookup_cons] at h
    cases q : name == p.1 with
    | true => exact ⟨p, .head _, (beq_iff_eq.mp q).symm⟩
    | false => rw [q] at h; obtain ⟨p', a, b⟩ := ih h; exact ⟨p', .tail _ a, b⟩
theorem Qq {a : Nat} {name cls : Str} {fs : List (Str × AV)} {v : AV} {c : Value} {ex : Bool} (g : Gd X G) (I : Inv X μ hp s) (r : VR X μ s.heap (.ref a) c) (ho : hp[a]? = some (.inst cls fs)) (hv : fs.lookup name = some v)
    (k : PE X μ s v hp Q) : wpAny (model prog w) A (getAttr c name ex) Q E s := by
  obtain ⟨p, h1, rfl⟩ := r.ref_
  obtain ⟨x, dx, C, es, m, sl, rfl, e1, e2, e3, e4, e5, e6, e7⟩ := (I.rep _ _ _ h1 ho).inst_
  obtain ⟨c', g1, g2⟩ := e4.get hv
  obtain ⟨⟨hg, hk⟩, hh, _, _⟩ := wn e5
  obtain ⟨p, hp, hq⟩ := Xk hv
  have hf : wP X.K C name = true := by rw [← hq]; exact e6 p hp
  exact get_value (I.kin g.K) (wN e2 e3) hg (findObj_own hh (beq_iff_eq.mp hf) rfl (by rw [lookIn_dict]; exact g1)) g2.handed (k.tok I g2)
theorem QX {a : Nat} {name cls : Str} {fs : List (Str × AV)} {C f : Addr} {c : Value} {pl : Sem Bool} {Q : Value × List Value → Shared → Prop} (g : Gd X G) (I : Inv X μ hp s) (r : VR X μ s.heap (.ref a) c) (ho : hp[a]? = some (.inst cls fs)) (hv : fs.lookup name = none)
    (hC : nsIn X.K mainGlobals cls = some (some (.ref C))) (hf : findIn X.K (.ref C) name = some (some (.ref f))) (ht : typeIn X.K (.ref f) = some (.type "function")) (k : Q (.ref f, [c]) s) : wpAny (model prog w) A (getMethod c name pl) Q E s := by
  obtain ⟨p, h1, rfl⟩ := r.ref_
  obtain ⟨x, dx, C', es, m, sl, rfl, e1, e2, e3, e4, e5, e6, e7⟩ := (I.rep _ _ _ h1 ho).inst_
  rw [hC] at e1; cases e1
  obtain ⟨⟨hg, hk⟩, hh, _, _⟩ := wn e5
  obtain ⟨m1, m2⟩ := e4.miss hv
  refine method_fn (I.kin g.K) (wN e2 e3) hg hk hf ht ?_ k
  show (lookIn name (dictOf es m)).map _ = _
  rw [lookIn_dict]
  unfold getL
  rw [m1, m2]; rfl
end
end Mine
end
end
section
noncomputable section
namespace Mine
open PySem PySem.W PySem.Calls PyProof.Rows
noncomputable def QU (h : Heap) (L dx : Addr) : List (Addr × Obj) := (List.range h.objs.size).filterMap fun b => if b = L ∨ b = dx then none else (h.get? b).map (b, ·)
theorem we {h : Heap} {L dx b : Addr} {o : Obj} : (b, o) ∈ QU h L dx ↔ b ≠ L ∧ b ≠ dx ∧ h.get? b = some o := by
  unfold QU
  rw [List.mem_filterMap]
  constructor
  · rintro ⟨c, _, e⟩
    split at e
    · exact nos e
    · rename_i h
      simp only [Option.map_eq_some_iff, Prod.mk.injEq] at e
      obtain ⟨o', e, rfl, rfl⟩ := e
      exact ⟨fun q => h (.inl q), fun q => h (.inr q), e⟩
  · rintro ⟨h1, h2, h3⟩
    refine ⟨b, List.mem_range.mpr (Heap.lt_size h3), ?_⟩
    rw [if_neg (by simp [h1, h2]), h3]; rfl
theorem FsR.put {X : Cx} {μ : Mu} {h : Heap} {name : Str} {v : AV} {v' : Value} {hs : Int} {t : Tok} (r : VR X μ h v v') {fs : List (Str × AV)} {es : List DictEntry} (q : FsR X μ h fs es) : FsR X μ h (wH name v fs) (putL name hs (.str name t) v' es) := by
  induction q with
  | nil => exact .cons r .nil
  | @cons m v hs tt w fs es a q ih =>
    have e : (Value.str m tt).isStr name = (m == name) := rfl
    simp only [wH, putL, e]
    by_cases hq : (m == name) = true
    · rw [if_pos hq, if_pos hq]; exact .cons r q
    · rw [if_neg hq, if_neg hq]; exact .cons a ih
theorem FsR.look {X : Cx} {μ : Mu} {h : Heap} {name : Str} {fs : List (Str × AV)} {es : List DictEntry} (r : FsR X μ h fs es) : (getL name es).isSome = true := by
  cases q : fs.lookup name with
  | some v => obtain ⟨c, e, _⟩ := r.get q; rw [e]; rfl
  | none => obtain ⟨e1, e2⟩ := r.miss q; unfold getL; rw [e1, e2]; rfl
theorem FsR.length {X : Cx} {μ : Mu} {h : Heap} {fs : List (Str × AV)} {es : List DictEntry} (r : FsR X μ h fs es) : es.length = fs.length := by
  induction r with
  | nil => rfl
  | cons _ _ ih => exact congrArg (· + 1) ih
theorem z05 {name : Str} {v : AV} {fs : List (Str × AV)} {p : Str × AV} : p ∈ wH name v fs → p.1 = name ∨ ∃ q ∈ fs, q.1 = p.1 := by
  induction fs with
  | nil => intro h; rw [xD h]; exact .inl rfl
  | cons q fs ih =>
    intro h
    unfold wH at h
    by_cases hq : (q.1 == name) = true
    · rw [if_pos hq] at h
      rcases List.mem_cons.mp h with rfl | h
      · exact .inl (beq_iff_eq.mp hq)
      · exact .inr ⟨p, .tail _ h, rfl⟩
    · rw [if_neg hq] at h
      rcases List.mem_cons.mp h with rfl | h
      · exact .inr ⟨p, .head _, rfl⟩
      · rcases ih h with h | ⟨q', a, b⟩
        · exact .inl h
        · exact .inr ⟨q', .tail _ a, b⟩
theorem jr {name : Str} {v : AV} {fs : List (Str × AV)} : (wH name v fs).length ≤ fs.length + 1 := by
  induction fs with
  | nil => exact Nat.le_refl _
  | cons q fs ih =>
    unfold wH
    by_cases hq : (q.1 == name) = true
    · rw [if_pos hq]; exact Nat.le_succ _
    · rw [if_neg hq]; exact Nat.succ_le_succ ih
noncomputable def own (env : Env) : Addr → Prop := fun b => b = env.locals ∨ ∃ x, env.cells.lookup x = some b
section
variable {prog : Program} {w : World} {X : Cx} {G : GTab} {sc : Sc} {env : Env} {fr : AFr} {μ μ' : Mu} {hp hp' : Hp} {s s' : Shared} {A : Around} {E : Value → Shared → Prop} {n : Nat} {l : List Env}
theorem yO (V : EnvR X l sc env fr μ s.heap) : ∀ b o, own env b → s.heap.get? b = some o → ¬ yS o := by
  rintro b o (rfl | ⟨x, hx⟩) e f
  · obtain ⟨m, ⟨o', es, ep, ho, hd, _⟩, _⟩ := V.loc
    rw [e] at ho; cases ho
    rcases f with ⟨_, xs, n, q⟩ | ⟨_, vs, q⟩ <;> rw [hd] at q <;> cases q
  · obtain ⟨_, cv, o', ho, hd⟩ := V.ncel x b hx
    rw [e] at ho; cases ho
    rcases f with ⟨_, xs, n, q⟩ | ⟨_, vs, q⟩ <;> rw [hd] at q <;> cases q
theorem VR.leOwn {x : AV} {v : Value} (r : VR X μ s.heap x v) (I : Inv X μ hp s) (V : EnvR X l sc env fr μ s.heap) (a : Le (own env) μ s μ' s') : VR X μ' s'.heap x v := r.mono a.pre (a.fixed I (yO V))
theorem EnvR.leLoc {m : Str → Option Value} (V : EnvR X l sc env fr μ s.heap) (I : Inv X μ hp s) (a : Le (fun b => b = env.locals) μ s μ' s') (h0 : s.heap.Ns env.locals m) (h1 : s'.heap.Ns env.locals m) : EnvR X l sc env fr μ' s'.heap := by
  obtain ⟨m', ns, hm⟩ := V.loc
  have em : m' = m := by
    obtain ⟨o, es, ep, ho, hd, _, hf⟩ := ns
    obtain ⟨o', es', ep', ho', hd', _, hf'⟩ := h0
    rw [ho] at ho'; cases ho'
    rw [hd] at hd'; cases hd'
    funext x; rw [← hf x, ← hf' x]
  subst em
  have rl : ∀ {x : AV} {v : Value}, VR X μ s.heap x v → VR X μ' s'.heap x v := fun r => r.leOwn I V (a.weak fun b h => .inl h)
  have lc : ∀ x c, env.cells.lookup x = some c → c ≠ env.locals := fun x c h e => by
    obtain ⟨_, cv, o, ho, hd⟩ := V.ncel x c h
    obtain ⟨o', es, ep, ho', hd', _⟩ := ns
    rw [e, ho'] at ho; cases ho; rw [hd] at hd'; cases hd'
  have nin : ∀ b o, b ∉ zb μ → s.heap.get? b = some o → b ∉ zb μ' := fun b o n e h => by
    rcases a.fresh b h with h | h
    · exact n h
    · rw [e] at h; cases h
  have cellK : ∀ {x : Str} {c : Addr} {cv : Option Value}, env.cells.lookup x = some c → s.heap.IsCell c cv → s'.heap.IsCell c cv := fun hx h => by
    obtain ⟨o, ho, r⟩ := h; exact ⟨o, (a.keep _ o (V.ncel _ _ hx).1 (lc _ _ hx) ho).exact (by unfold isD; rw [r]), r⟩
  refine ⟨V.fn, V.glob, V.bltn, V.kind, ⟨m', h1, fun x i v e1 e2 e3 => ?_⟩, fun x i e1 e2 => ?_, ?_, V.bloc, fun x c hc => ?_, V.bcel, V.apart, V.inj, V.wid, V.slt, V.frs.mono fun b o n e d => ⟨a.out n e, ?_⟩⟩
  rotate_right
  · by_cases q : b = env.locals
    · obtain ⟨o', es, ep, ho, hd, _⟩ := h1
      exact ⟨o', q ▸ ho, ZZ hd⟩
    · obtain ⟨o', e', q'⟩ := (a.keep b o n q e).get
      exact ⟨o', e', (Jz q').trans d⟩
  · obtain ⟨v', e, r⟩ := hm x i v e1 e2 e3
    exact ⟨v', e, rl r⟩
  · obtain ⟨c, cv, q1, q2, q3⟩ := V.cel x i e1 e2
    refine ⟨c, cv, q1, cellK q1 q2, fun v hv => ?_⟩
    obtain ⟨v', q, r⟩ := q3 v hv
    exact ⟨v', q, rl r⟩
  · obtain ⟨o, es, ep, ho, r⟩ := ns
    exact nin _ o V.nloc ho
  · obtain ⟨n, cv, h⟩ := V.ncel x c hc
    obtain ⟨o, ho, r⟩ := id h
    exact ⟨nin c o n ho, cv, cellK hc h⟩
theorem Zw {a : Nat} {name cls : Str} {fs : List (Str × AV)} {v : AV} {c v' : Value} {Q : Unit → Shared → Prop} (g : Gd X G) (I : Inv X μ hp s) (V : EnvR X l sc env fr μ s.heap) (r : VR X μ s.heap (.ref a) c)
    (ho : hp[a]? = some (.inst cls fs)) (rv : VR X μ s.heap v v') (hok : G.okf cls name = true) (hlen : fs.length < 100)
    (k : ∀ s', Le (own env) μ s μ s' → Inv X μ (hp.set a (.inst cls (wH name v fs))) s' → EnvR X l sc env fr μ s'.heap → Q () s') : wpAny (model prog w) A (setAttr c name v') Q E s := by
  obtain ⟨p, h1, rfl⟩ := r.ref_
  obtain ⟨x, dx, C, es, m, sl, rfl, e1, e2, e3, e4, e5, e6, e7⟩ := (I.rep _ _ _ h1 ho).inst_
  obtain ⟨C', c1, c2, c3⟩ := g.okf cls name hok
  rw [e1] at c1; cases c1
  obtain ⟨⟨hg, hk⟩, hh, hset, hp0⟩ := wn e5
  obtain ⟨mL, nsL, _⟩ := id V.loc
  have hfld : findIn X.K (.ref C) name = some none := beq_iff_eq.mp c3
  have dxA : dx ∈ zb μ := yN.mpr ⟨a, _, h1, .tail _ (.head _)⟩
  have dxL : dx ≠ env.locals := fun e => V.nloc (e ▸ dxA)
  have F0 : Fr ({} : Heap) env.locals s.heap mL := ⟨nsL, fun b o e => by simp [Heap.get?] at e, Nat.zero_le _⟩
  have N0 : News ({} : Heap) env.locals s.heap ([] ++ (dx, dictOf es m) :: QU s.heap env.locals dx) := fun p hp => by
    rcases List.mem_cons.mp hp with rfl | hp
    · exact ⟨e3, dxL, rfl⟩
    · obtain ⟨b, o⟩ := p
      obtain ⟨q1, q2, q3⟩ := we.mp hp
      exact ⟨q3, q1, rfl⟩
  refine set_plain (I.kin g.K) (wN e2 e3) hset ?_
  refine osa_dict (s := { s with toks := s.toks + 1 }) (es := putL name (PyData.keyHash w.params name) (.str name (s.toks + 1)) v' es) (n := putN name es m) F0 N0 (I.kin g.K) (wN e2 e3) rfl hp0 (by unfold takerIn; rw [hfld]; rfl) hh
    (by rw [lookIn_dict]; exact e4.look) (fun p hp => nomatch hp) (fun p hp => by obtain ⟨b, o⟩ := p; exact (we.mp hp).2.1) (by rw [putName_dict]) rfl ?_ fun h' F' N' => ?_
  · have l := (e4.put (name := name) (hs := PyData.keyHash w.params name) (t := s.toks + 1) rv).length
    have l2 := jr (name := name) (v := v) (fs := fs)
    lia
  · have kp : ∀ b o, b ≠ dx → b ≠ env.locals → s.heap.get? b = some o → h'.get? b = some o := fun b o n1 n2 e => (N' (b, o) (List.mem_cons_of_mem _ (we.mpr ⟨n2, n1, e⟩))).1
    have hd' := (N' (dx, _) (.head _)).1
    have xA : x ∈ zb μ := yN.mpr ⟨a, _, h1, .head _⟩
    have xL : x ≠ env.locals := fun e => V.nloc (e ▸ xA)
    have xdx : x ≠ dx := fun e => by rw [e, e3] at e2; cases e2
    have oldL := nsL
    obtain ⟨oL, esL, epL, hoL, hdL, _⟩ := oldL
    have nsL' := F'.ns
    have fx : ∀ b o, s.heap.get? b = some o → yS o → h'.get? b = some o := fun b o e f => kp b o (fun q => by
        rw [q, e3] at e; cases e; exact Mut.notFixed (.inr (.inr rfl)) f) (fun q => yO V b o (.inl q) e f) e
    have R : OR X μ h' (.inst cls (wH name v fs)) (x, some dx) := .inst (n := putN name es m) e1 (kp x _ xdx xL e2) hd' ((e4.put rv).mono (List.prefix_refl _) fx) e5 (fun p hp => by
        rcases z05 hp with h | ⟨q, h1, h2⟩
        · rw [h]; exact c3
        · rw [← h2]; exact e6 q h1) (by have := jr (name := name) (v := v) (fs := fs); lia)
    obtain ⟨I', L'⟩ := I.updS (s' := { s with heap := h', toks := s.toks + 1 + 1 }) (S := fun b => b = env.locals) (fun b h => h ▸ ⟨V.nloc, V.bloc⟩)
      (fun b o h e => ⟨fun f => yO V b o (.inl h) e f, by obtain ⟨o', es', ep', ho', _⟩ := nsL'; exact ⟨o', h ▸ ho'⟩⟩) h1
      (fun b o n1 n2 e => kp b o (fun q => n1 (q ▸ .tail _ (.head _))) n2 e) R rfl rfl
    exact k _ (L'.weak fun b h => .inl h) I' (V.leLoc I L' nsL nsL')
theorem PRs.any {μ : Mu} {h : Heap} {k : Int} {kvs : List (Int × AV)} {es : List (Int × Value)} (r : PRs X μ h kvs es) : kvs.any (fun kv => kv.1 = k) = es.any (fun kv => kv.1 = k) := by
  induction r with
  | nil => rfl
  | cons _ _ ih => rw [List.any_cons, List.any_cons, ih]
theorem PRs.put {μ : Mu} {h : Heap} {k : Int} {v : AV} {w : Value} (rv : VR X μ h v w) {kvs : List (Int × AV)} {es : List (Int × Value)} (r : PRs X μ h kvs es) : PRs X μ h (jY kvs k v) (stored es k w) := by
  unfold jY stored
  rw [r.any (k := k)]
  split <;> rename_i hh <;> clear hh
  · induction r with
    | nil => exact .nil
    | @cons k' v' w' _ _ a _ ih =>
      rw [List.map_cons, List.map_cons]
      by_cases q : k' = k
      · rw [if_pos q, if_pos q]; exact .cons rv ih
      · rw [if_neg q, if_neg q]; exact .cons a ih
  · induction r with
    | nil => exact .cons rv .nil
    | cons a _ ih => exact .cons a ih
theorem z09 (kvs : List (Int × AV)) (k : Int) (v : AV) : (jY kvs k v).length ≤ kvs.length + 1 := by
  unfold jY
  split
  · rw [List.length_map]; exact Nat.le_succ _
  · rw [zP]; exact Nat.le_refl _
theorem Yi {o i v : AV} {c d v' : Value} {hp'' : Hp} {Q : Unit → Shared → Prop} (e : xz hp o i v = some hp'') (I : Inv X μ hp s) (ro : VR X μ s.heap o c) (ri : VR X μ s.heap i d) (rv : VR X μ s.heap v v')
    (k : ∀ s', Le noS μ s μ s' → Inv X μ hp'' s' → Q () s') : wpAny (model prog w) A (setItem c d v') Q E s := by
  obtain ⟨a, h1, e⟩ := zS e
  obtain ⟨j, h2, e⟩ := zS e
  rw [yd h1] at ro
  rw [yD h2] at ri
  obtain ⟨t, rfl⟩ := ri.int_
  cases hq : zv hp a with
  | some kvs =>
    rw [hq] at e
    have e : (if kvs.length < small then some (hp.set a (.dict (jY kvs j v))) else none) = some hp'' := e
    obtain ⟨z, rfl⟩ := zY e
    obtain ⟨b, es, rfl, g1, m, p, sm, _⟩ := I.dict_at ro (xM hq) prog w
    refine wpAny_setItem_pairs (k := j) (by show Value.isInt j (.int j t) = true; simp [Value.isInt]) m (fun h' hm hs => ?_) (by rw [← p.len]; exact zy (Nat.le_of_lt z))
    have hk : ∀ b' o, b' ∉ ads (b, none) → s.heap.get? b' = some o → h'.get? b' = some o := fun b' o hb e => (hs.2 b' (fun h => hb (by rw [h]; exact .head _))).trans e
    obtain ⟨I', a'⟩ := I.upd (h' := h') (t := s.toks + 1) (o' := .dict (jY kvs j v)) g1 hk (.dict hm ((p.put rv).mono (List.prefix_refl _) fun b' o e fx => hk b' o (fun hb => by
      obtain ⟨o', es', ep, ho, hc, _⟩ := m
      rw [qo hb, ho] at e
      cases e
      exact Mut.notFixed (.inr (.inr hc.1)) fx) e) sm (Nat.le_trans (z09 _ _ _) z))
    exact k _ a' I'
  | none =>
  rw [hq] at e
  obtain ⟨xs, h3, e⟩ := zS e
  obtain ⟨h, rfl⟩ := zY e
  obtain ⟨b, items, m, rfl, g1, hl, z, r⟩ := I.list_at ro (xk h3)
  have l := r.size
  have hz : xs.length ≤ 1048576 := h.2.2
  refine ki_setAt hl h.1 (by lia) (by lia) ?_
  obtain ⟨I', a'⟩ := qV (t := s.toks) I g1 hl (f := fun x => x.setIfInBounds j.toNat v') (xs := xs.set j.toNat v) (by rw [List.length_set]; exact z) (by rw [Array.toList_setIfInBounds]; exact r.set rv _)
  exact k _ a' I'
theorem Frs.but {h h' : Heap} {c : Addr} (f : Frs X l μ h) (hsb : ∀ b, b ≠ c → h'.get? b = h.get? b) (hc : ∀ o, h.get? c = some o → isD o = true → ∃ o', h'.get? c = some o' ∧ isD o' = true) : Frs X l μ h' := f.mono fun b o n e d => by
  refine ⟨n, ?_⟩
  by_cases q : b = c
  · rw [q] at e ⊢; exact hc o e d
  · exact ⟨o, (hsb b q).trans e, d⟩
noncomputable def ZP (cb : Bool) (env : Env) : Addr → Prop := fun b => b = env.locals ∨ (cb = true ∧ ∃ x, env.cells.lookup x = some b)
theorem xG {cb : Bool} {env : Env} {b : Addr} (h : ZP cb env b) : own env b := h.imp id (·.2)
theorem qH {cb : Bool} {x : Str} {i : Nat} {v : AV} {v' : Value} {Q : Unit → Shared → Prop} (I : Inv X μ hp s) (V : EnvR X l sc env fr μ s.heap) (hk : sc.kind x = some .local ∨ sc.kind x = some .cell) (hcb : sc.kind x = some .cell → cb = true) (hs : sc.slot x = some i) (hi : i < fr.length)
    (rv : VR X μ s.heap v v') (k : ∀ s', Le (ZP cb env) μ s μ s' → Inv X μ hp s' → EnvR X l sc env (fr.set i (some v)) μ s'.heap → Q () s') : wpAny (model prog w) A (bindName env x v') Q E s := by
  refine wpAny_bindName ?_
  have kd := V.kind x
  have other : ∀ y j, y ≠ x → sc.slot y = some j → (fr.set i (some v))[j]? = fr[j]? := fun y j hne hj => by
    rw [List.getElem?_set_ne]; intro h; subst h; exact hne (V.inj y x _ hj hs)
  rcases hk with hk | hk
  · obtain ⟨m, ns, hm⟩ := V.loc
    refine wpAny_storeName_local (kd ▸ hk) ns (fun h' hn hsb => ?_) (by rw [V.fn]; rfl)
    have nsL' := hn
    obtain ⟨I', L'⟩ := I.own (s' := { s with heap := h', toks := s.toks + 1 }) (S := fun b => b = env.locals) (fun b h => h ▸ ⟨V.nloc, V.bloc⟩)
        (fun b o h e => ⟨fun f => yO V b o (.inl h) e f, by obtain ⟨o', es', ep', ho', _⟩ := nsL'; exact ⟨o', h ▸ ho'⟩⟩)
        (fun b o n e => (hsb.2 b n).trans e) rfl rfl
    have rl : ∀ {x : AV} {v : Value}, VR X μ s.heap x v → VR X μ h' x v := fun r => r.leOwn I V (s' := { s with heap := h', toks := s.toks + 1 }) (L'.weak fun b h => .inl h)
    have lc : ∀ x c, env.cells.lookup x = some c → c ≠ env.locals := fun x c h e => by
      obtain ⟨_, cv, o, ho, hd⟩ := V.ncel x c h
      obtain ⟨o', es, ep, ho', hd', _⟩ := ns
      rw [e, ho'] at ho; cases ho; rw [hd] at hd'; cases hd'
    have cellK : ∀ {x : Str} {c : Addr} {cv : Option Value}, env.cells.lookup x = some c → s.heap.IsCell c cv → h'.IsCell c cv := fun hx h => by
      obtain ⟨o, ho, r⟩ := h; exact ⟨o, (hsb.2 _ (lc _ _ hx)).trans ho, r⟩
    refine k _ (L'.weak fun b h => .inl h) I' ⟨V.fn, V.glob, V.bltn, V.kind, ⟨_, hn, fun y j u e1 e2 e3 => ?_⟩, fun y j e1 e2 => ?_, V.nloc, V.bloc, fun y c hc => ?_, V.bcel, V.apart, V.inj, by rw [List.length_set]; exact V.wid, V.slt,
      V.frs.but (fun b n => hsb.2 b n) fun o _ _ => by obtain ⟨o', es', ep', ho', hd', _⟩ := nsL'; exact ⟨o', ho', ZZ hd'⟩⟩
    · by_cases hy : y = x
      · subst hy
        rw [hs] at e2; cases e2
        rw [List.getElem?_set_self hi] at e3; cases e3
        exact ⟨v', by simp, rl rv⟩
      · rw [other y j hy e2] at e3
        obtain ⟨u', q, r⟩ := hm y j u e1 e2 e3
        exact ⟨u', by simp [hy, q], rl r⟩
    · have hy : y ≠ x := fun h => by subst h; rw [hk] at e1; rcases e1 with h | h <;> cases h
      obtain ⟨c, cv, q1, q2, q3⟩ := V.cel y j e1 e2
      refine ⟨c, cv, q1, cellK q1 q2, fun u hu => ?_⟩
      rw [other y j hy e2] at hu
      obtain ⟨u', q, r⟩ := q3 u hu
      exact ⟨u', q, rl r⟩
    · obtain ⟨n, cv, h⟩ := V.ncel y c hc
      exact ⟨n, cv, cellK hc h⟩
  · obtain ⟨c, cv, q1, q2, q3⟩ := V.cel x i (.inl hk) hs
    refine wpAny_storeName_cell V.fn (kd ▸ hk) q1 q2 fun h' hc' hsb => ?_
    obtain ⟨m, ns, hm⟩ := V.loc
    have hcL : env.locals ≠ c := fun e => by
      obtain ⟨o, ho, hd⟩ := q2
      obtain ⟨o', es, ep, ho', hd', _⟩ := ns
      rw [e, ho] at ho'; cases ho'; rw [hd] at hd'; cases hd'
    obtain ⟨I', L'⟩ := I.own (s' := { s with heap := h' }) (S := fun (b : Addr) => b = c) (fun b (h : b = c) => by rw [h]; exact ⟨(V.ncel x c q1).1, V.bcel x c q1⟩)
        (fun b o (h : b = c) e => ⟨fun f => yO V b o (.inr ⟨x, by rw [h]; exact q1⟩) e f, by obtain ⟨o', ho', _⟩ := hc'; exact ⟨o', by rw [h]; exact ho'⟩⟩)
        (fun b o n e => (hsb.2 b n).trans e) rfl rfl
    have W : Le (ZP cb env) μ s μ { s with heap := h' } := L'.weak fun b (h : b = c) => .inr ⟨hcb hk, x, by rw [h]; exact q1⟩
    have rl : ∀ {x : AV} {v : Value}, VR X μ s.heap x v → VR X μ h' x v := fun r => r.leOwn I V (s' := { s with heap := h' }) (W.weak fun _ => xG)
    have cellK : ∀ {y : Str} {c' : Addr} {cv : Option Value}, y ≠ x → env.cells.lookup y = some c' → s.heap.IsCell c' cv → h'.IsCell c' cv := fun hy hx h => by
      obtain ⟨o, ho, r⟩ := h; exact ⟨o, (hsb.2 _ (fun e => hy (V.apart _ _ c (e ▸ hx) q1))).trans ho, r⟩
    refine k _ W I' ⟨V.fn, V.glob, V.bltn, V.kind, ⟨m, ns.sameBut hsb hcL, fun y j u e1 e2 e3 => ?_⟩, fun y j e1 e2 => ?_, V.nloc, V.bloc, fun y c' hc => ?_, V.bcel, V.apart, V.inj, by rw [List.length_set]; exact V.wid, V.slt,
      V.frs.but (fun b n => hsb.2 b n) fun o e d => by obtain ⟨o', ho', hd'⟩ := q2; rw [e] at ho'; cases ho'; unfold isD at d; rw [hd'] at d; cases d⟩
    · have hy : y ≠ x := fun h => by subst h; rw [hk] at e1; cases e1
      rw [other y j hy e2] at e3
      obtain ⟨u', q, r⟩ := hm y j u e1 e2 e3
      exact ⟨u', q, rl r⟩
    · by_cases hy : y = x
      · subst hy
        rw [hs] at e2; cases e2
        refine ⟨c, some v', q1, hc', fun u hu => ?_⟩
        rw [List.getElem?_set_self hi] at hu; cases hu
        exact ⟨v', rfl, rl rv⟩
      · obtain ⟨c', cv', p1, p2, p3⟩ := V.cel y j e1 e2
        refine ⟨c', cv', p1, cellK hy p1 p2, fun u hu => ?_⟩
        rw [other y j hy e2] at hu
        obtain ⟨u', q, r⟩ := p3 u hu
        exact ⟨u', q, rl r⟩
    · by_cases hy : y = x
      · subst hy; rw [q1] at hc; cases hc; exact ⟨(V.ncel y c q1).1, _, hc'⟩
      · obtain ⟨n, cv', h⟩ := V.ncel y c' hc
        exact ⟨n, cv', cellK hy hc h⟩
end
end Mine
end
end
section
noncomputable section
namespace Mine
open PySem PySem.W PySem.Calls
noncomputable def z0v (X : Cx) : Callee → Addr → Prop
  | .fn x, f => nsIn X.K mainGlobals x = some (some (.ref f))
  | .cls x, f => nsIn X.K mainGlobals x = some (some (.ref f))
  | .meth c x, f => ∃ C, nsIn X.K mainGlobals c = some (some (.ref C)) ∧ findIn X.K (.ref C) x = some (some (.ref f)) ∧ typeIn X.K (.ref f) = some (.type "function")
structure SndCF (prog : Program) (w : World) (X : Cx) (n : Nat) (cf : CF) : Prop where
  run : ∀ {c : Callee} {args : List AV} {hp : Hp} {A : Around} {l : List Env} {μ : Mu} {s : Shared} {Q : Value → Shared → Prop} {E : Value → Shared → Prop} {f : Addr} {args' : List Value},
    Room n A l → Frs X l μ s.heap → Inv X μ hp s → z0v X c f → VRs X μ s.heap args args' → PO X l μ s (cf c args hp) Q E → wpAny (model prog w) A (call (.ref f) args') Q E s
  keep : ∀ {c : Callee} {args : List AV} {hp : Hp} {f : Addr}, cf c args hp ≠ .stuck → z0v X c f → keepIn X.K (.ref f) = true
  meth : ∀ {c x : Str} {args : List AV} {hp : Hp}, cf (.meth c x) args hp ≠ .stuck → ∃ f, z0v X (.meth c x) f
noncomputable abbrev PT (X : Cx) (l : List Env) (μ : Mu) (s : Shared) (o : Out Bool) (Q : Bool → Shared → Prop) (E : Value → Shared → Prop) : Prop := PG (fun _ _ a b => a = b) X l μ s o Q E
noncomputable abbrev PEs (X : Cx) (l : List Env) (μ : Mu) (s : Shared) (o : Out (List AV)) (Q : List Value → Shared → Prop) (E : Value → Shared → Prop) : Prop := PG (fun μ h => VRs X μ h) X l μ s o Q E
section
variable (prog : Program) (w : World) (X : Cx) (n : Nat) (cf : CF) (sc : Sc) (env : Env)
noncomputable def zm (t : Sem Value) (x : XE) : Prop := ∀ {fr : AFr} {hp : Hp} {A : Around} {l : List Env} {μ : Mu} {s : Shared} {Q : Value → Shared → Prop} {E : Value → Shared → Prop},
    Room n A l → Inv X μ hp s → EnvR X l sc env fr μ s.heap → PO X l μ s (x cf fr hp) Q E → wpAny (model prog w) A t Q E s
noncomputable def qu (t : Sem Bool) (x : XT) : Prop := ∀ {fr : AFr} {hp : Hp} {A : Around} {l : List Env} {μ : Mu} {s : Shared} {Q : Bool → Shared → Prop} {E : Value → Shared → Prop},
    Room n A l → Inv X μ hp s → EnvR X l sc env fr μ s.heap → PT X l μ s (x cf fr hp) Q E → wpAny (model prog w) A t Q E s
inductive SndL : List (Sem Value) → List XE → Prop
  | nil : SndL [] []
  | cons {t : Sem Value} {x : XE} {ts : List (Sem Value)} {xs : List XE} : zm prog w X n cf sc env t x → SndL ts xs → SndL (t :: ts) (x :: xs)
inductive SndTs : List (Sem Bool) → List XT → Prop
  | nil : SndTs [] []
  | cons {t : Sem Bool} {x : XT} {ts : List (Sem Bool)} {xs : List XT} : qu prog w X n cf sc env t x → SndTs ts xs → SndTs (t :: ts) (x :: xs)
end
section
variable {X : Cx} {l : List Env} {μ : Mu} {s : Shared} {hp : Hp} {E : Value → Shared → Prop}
theorem PG.pe {v : AV} {Q : Value → Shared → Prop} (k : PO X l μ s (.ok v hp) Q E) : PE X μ s v hp Q := k
theorem PG.tk {b : Bool} {Q : Bool → Shared → Prop} (k : PT X l μ s (.ok b hp) Q E) (I : Inv X μ hp s) (t : Nat) : Q b { s with toks := t } := k b μ _ (.tok t) (I.tok t) rfl
theorem PG.ne {α β : Type} {rel : Mu → Heap → α → β → Prop} {o : Out α} {Q : β → Shared → Prop} (k : PG rel X l μ s o Q E) : o ≠ .stuck := fun h => by rw [h] at k; exact k
end
section
variable {prog : Program} {w : World} {X : Cx} {G : GTab} {n : Nat} {cf : CF} {sc : Sc} {env : Env}
theorem Yd {c : Nat} {pos : Pos} : zm prog w X n cf sc env (eval (.Constant .none c pos) env) (z7 .none) := fun _ I _ k => wpAny_pure (k.pe.here I .none)
theorem Ye {b : Bool} {c : Nat} {pos : Pos} : zm prog w X n cf sc env (eval (.Constant (.bool b) c pos) env) (z7 (.bool b)) := fun _ I _ k => wpAny_pure (k.pe.here I (.bool b))
theorem XU {i : Int} {c : Nat} {pos : Pos} : zm prog w X n cf sc env (eval (.Constant (.int i) c pos) env) (z7 (.int i)) := fun _ I _ k => wpAny_mkInt (k.pe.tok I (.int _ _))
theorem XR {x : Str} {c : Nat} {pos : Pos} (z : x.length ≤ small) : zm prog w X n cf sc env (eval (.Constant (.str x) c pos) env) (z7 (.str x)) := fun _ I _ k => wpAny_mkText (k.pe.tok I (.str _ z))
theorem z1l {l r : Expr} {op : Operator} {pos : Pos} {x y : XE} (hl : zm prog w X n cf sc env (eval l env) x) (hr : zm prog w X n cf sc env (eval r env) y) :
    zm prog w X n cf sc env (eval (.BinOp l op r pos) env) (zI op x y) := fun R I V k =>
  wpAny_BinOp (hl R I V (k.bind fun _ _ _ _ _ L1 I1 ra k => hr R I1 (V.le I L1) (k.bind fun _ _ _ _ _ L2 I2 rb k => Ws I2 (ra.le I1 L2) rb k)))
theorem z1e {x : Expr} {pos : Pos} {y : XE} (hx : zm prog w X n cf sc env (eval x env) y) : zm prog w X n cf sc env (eval (.UnaryOp .Not x pos) env) (Qj y) := fun R I V k =>
  wpAny_UnaryOp (hx R I V (k.bind fun _ _ _ _ _ L1 I1 ra k => by
    obtain ⟨v, e, k⟩ := k.of
    obtain ⟨b, e3, rfl⟩ := y6 e
    exact PyProof.Rows.not_of (qb e3 I1 ra fun t => k.pe.tok I1 (.bool _))))
theorem z1f {x : Expr} {pos : Pos} {y : XE} (hx : zm prog w X n cf sc env (eval x env) y) : zm prog w X n cf sc env (eval (.UnaryOp .USub x pos) env) (zCl y) := fun R I V k =>
  wpAny_UnaryOp (hx R I V (k.bind fun _ _ _ _ _ L1 I1 ra k => by
    obtain ⟨v, e, k⟩ := k.of
    obtain ⟨b, e3, rfl⟩ := y6 e
    rw [yD e3] at ra
    obtain ⟨t, rfl⟩ := ra.int_
    exact P.neg_int (k.pe.tok I1 (.int _ _))))
theorem zBy {t a b : Expr} {pos : Pos} {x : XT} {y z : XE} (ht : qu prog w X n cf sc env (isTrue t env (eval t env)) x) (ha : zm prog w X n cf sc env (eval a env) y) (hb : zm prog w X n cf sc env (eval b env) z) :
    zm prog w X n cf sc env (eval (.IfExp t a b pos) env) (cIf x y z) := fun R I V k =>
  wpAny_IfExp (ht R I V (k.bind fun c c' _ _ _ L1 I1 e k => by
    cases e
    cases c with
    | true => exact ha R I1 (V.le I L1) k
    | false => exact hb R I1 (V.le I L1) k))
theorem yl {ts : List (Sem Value)} {xs : List XE} (h : SndL prog w X n cf sc env ts xs) : ∀ {fr : AFr} {hp : Hp} {A : Around} {l : List Env} {μ : Mu} {s : Shared} {Q : List Value → Shared → Prop} {E : Value → Shared → Prop},
    Room n A l → Inv X μ hp s → EnvR X l sc env fr μ s.heap → PEs X l μ s (evs xs cf fr hp) Q E → wpAny (model prog w) A (spliced (ts.map fun t => (false, t))) Q E s := by
  induction h with
  | nil => exact fun _ I _ k => spliced_nil (k [] _ _ .refl I .nil)
  | cons ht hr ih =>
    exact fun R I V k => spliced_cons (ht R I V (k.bind fun _ _ _ _ _ L1 I1 ra k => ih R I1 (V.le I L1) (k.bind fun _ _ _ _ _ L2 I2 rs k => k _ _ _ .refl I2 (.cons (ra.le I1 L2) rs))))
theorem Q4 {γ δ : Type} {rel : Mu → Heap → γ → δ → Prop} {l : List Env} {μ : Mu} {s : Shared} {Q' : List Value → Shared → Prop} {Q : δ → Shared → Prop} {E : Value → Shared → Prop} {xs : List XE} : ∀ {fr : AFr} {hp : Hp} {f : List AV → Hp → Out γ}, PG rel X l μ s ((evs xs cf fr hp).bind f) Q E →
    (∀ vs vs' hp' μ' s', vs.length = xs.length → Le noS μ s μ' s' → Inv X μ' hp' s' → VRs X μ' s'.heap vs vs' → PG rel X l μ' s' (f vs hp') Q E → Q' vs' s') → PEs X l μ s (evs xs cf fr hp) Q' E := by
  intro fr hp f k h
  have len : ∀ {vs : List AV} {hp' : Hp}, evs xs cf fr hp = .ok vs hp' → vs.length = xs.length := by
    clear k h
    induction xs generalizing hp with
    | nil => intro vs hp' e; cases e; rfl
    | cons x xs ih =>
      intro vs hp' e
      have e : (x cf fr hp).bind (fun v h₁ => (evs xs cf fr h₁).bind fun vs h₂ => .ok (v :: vs) h₂) = .ok vs hp' := e
      cases q : x cf fr hp with
      | stuck => rw [q] at e; cases e
      | exc c h => rw [q] at e; cases e
      | ok v h₁ =>
        rw [q] at e
        have e : (evs xs cf fr h₁).bind (fun vs h₂ => .ok (v :: vs) h₂) = .ok vs hp' := e
        cases q2 : evs xs cf fr h₁ with
        | stuck => rw [q2] at e; cases e
        | exc c h => rw [q2] at e; cases e
        | ok ws h₂ => rw [q2] at e; cases e; exact congrArg (· + 1) (ih q2)
  cases q : evs xs cf fr hp with
  | stuck => rw [q] at k; exact k
  | exc c h' => rw [q] at k; exact k
  | ok vs hp' => rw [q] at k; exact fun b μ' s' L I r => h vs b hp' μ' s' (len q) L I r (PG.le (o := f vs hp') k L)
theorem xN (pos : Pos) (ts : List (Sem Value)) : backTo pos (ts.map fun t => (false, t)) = ts.map fun t => (false, t) := by
  unfold backTo
  rw [List.map_map]
  apply List.map_congr_left
  intro t _
  rfl
theorem yV (env : Env) : ∀ {es : List Expr}, es.all yz = true → starEach es env = (evalEach es env).map fun t => (false, t)
  | [], _ => rfl
  | e :: es, h => by
    rw [List.all_cons, Bool.and_eq_true] at h
    have ih := yV env (es := es) h.2
    cases e <;> first | (cases h.1; done) | (exact congrArg (List.cons _) ih)
theorem zBp {k m : Nat} (h : k = m) (z : m ≤ 1000) : k ≤ small := by rw [h]; exact Nat.le_trans z (by decide)
theorem J9 {es : List Expr} {xs : List XE} {pos : Pos} (hs : es.all yz = true) (hl : xs.length ≤ 1000) (h : SndL prog w X n cf sc env (evalEach es env) xs) : zm prog w X n cf sc env (eval (.List es pos) env) (zw xs) := by
  intro fr hp A l μ s Q E R I V k
  refine PyProof.Rows.List_ ?_
  rw [yV env hs, xN]
  refine yl h R I V (Q4 k fun vs vs' h1 μ1 s1 z L1 I1 r k => ?_)
  have z := zBp z hl
  refine wpAny_newObj_type (k.pe.list (t := s1.toks) (j := 0) I1 z (by rw [List.toList_toArray]; exact r)) ?_
  show vs'.toArray.size ≤ sizeLine
  rw [List.size_toArray, r.length]; exact zy z
theorem z1b {es : List Expr} {xs : List XE} {c : Nat} {pos : Pos} (hs : es.all yz = true) (hl : xs.length ≤ 1000) (h : SndL prog w X n cf sc env (evalEach es env) xs) : zm prog w X n cf sc env (eval (.Tuple es c pos) env) (yZ xs) := by
  intro fr hp A l μ s Q E R I V k
  refine PyProof.Rows.Tuple_ ?_
  rw [yV env hs, xN]
  refine yl h R I V (Q4 k fun vs vs' h1 μ1 s1 z L1 I1 r k => ?_)
  have z := zBp z hl
  refine wpAny_newObj_type (k.pe _ μ1 _ (.grow (t := s1.toks) fun b o e => Heap.get?_push_of_some _ e) (I1.grow fun b o e => Heap.get?_push_of_some _ e)
    (.tup ⟨_, Heap.get?_push_size _ rfl, rfl, _, rfl⟩ z (by rw [List.toList_toArray]; exact r.mono (List.prefix_refl _) fun b o e _ => Heap.get?_push_of_some _ e))) ?_
  show vs'.toArray.size ≤ sizeLine
  rw [List.size_toArray, r.length]; exact zy z
theorem QK {op : BoolOp} {pos : Pos} {ts : List (Sem Value)} {xs : List XE} (h : SndL prog w X n cf sc env ts xs) : zm prog w X n cf sc env (boolOp pos op ts) (jM op xs) := by
  induction h with
  | nil => exact fun _ _ _ k => k.elim
  | cons ht hr ih =>
    cases hr with
    | nil => exact ht
    | cons ht2 hr2 =>
    intro fr hp A l μ s Q E R I V k
    rw [boolOp]
    · refine wpAny_bind (ht R I V (k.bind fun v v' h1 μ1 s1 L1 I1 r k => ?_))
      cases q : xE h1 v with
      | none => rw [q] at k; exact k.elim
      | some t =>
        rw [q] at k
        refine wpAny_bind (wpAny_standAt (wpAny_bind (wpAny_holding (qb q I1 r fun tk => ?_))))
        have Lt : Le noS μ1 s1 μ1 { s1 with toks := tk } := .tok tk
        cases op <;> cases t
        · exact wpAny_pure (PE.tok k I1 r)
        · exact ih R (I1.tok tk) ((V.le I L1).le I1 Lt) (PG.le k Lt)
        · exact ih R (I1.tok tk) ((V.le I L1).le I1 Lt) (PG.le k Lt)
        · exact wpAny_pure (PE.tok k I1 r)
    · intro h; cases h
theorem j6 {M : Model} {A : Around} {E : Value → Shared → Prop} {s : Shared} {vs keep : List Value} {Q : Unit → Shared → Prop} (h : Q () s) : wpAny M A (release vs keep) Q E s := fun Γ p hΓ => by
  unfold release
  rw [Sem.wp_release_go]; exact h
theorem Zv {pos : Pos} : ∀ {ops : List CmpOp} {ts : List (Sem Value)} {xs : List XE}, SndL prog w X n cf sc env ts xs → ∀ {left : AV} {fr : AFr} {hp : Hp} {A : Around} {l : List Env} {μ : Mu} {s : Shared} {Q : Bool → Shared → Prop} {E : Value → Shared → Prop} {lv : Value},
    Room n A l → Inv X μ hp s → EnvR X l sc env fr μ s.heap → VR X μ s.heap left lv → PT X l μ s (qS left ops xs cf fr hp) Q E → wpAny (model prog w) A (testChain pos lv ops ts) Q E s := by
  intro ops
  induction ops with
  | nil => exact fun _ _ _ _ _ _ _ _ _ _ _ _ _ _ _ k => k.elim
  | cons op ops ih =>
    intro ts xs h left fr hp A l μ s Q E lv R I V rl k
    cases h with
    | nil => exact k.elim
    | cons ht hr =>
      rename_i t x ts xs
      cases ops with
      | nil =>
        cases hr with
        | cons _ _ => exact k.elim
        | nil =>
        show wpAny _ _ (do let rv ← holding [lv] t; standAt pos; let c ← operate [lv, rv] (compareOp op lv rv); holding [c] (truthy c)) _ _ _
        refine wpAny_bind (wpAny_holding (ht R I V (k.bind fun v v' h1 μ1 s1 L1 I1 r k => ?_)))
        obtain ⟨c, q, k⟩ := k.of
        exact wpAny_bind (wpAny_standAt (wpAny_bind (wpAny_operating (wQ q R I1 (rl.le I L1) r fun tk => wpAny_holding (wpAny_truthy_bool (PG.tk k I1 tk))))))
      | cons op2 ops =>
        show wpAny _ _ (do
              let rv ← holding [lv] t
              standAt pos
              let c ← holding [lv, rv] (compareOp op lv rv)
              release [lv, rv] [c]
              if ← holding [c, rv] (truthy c) then testChain pos rv (op2 :: ops) ts else pure false) _ _ _
        refine wpAny_bind (wpAny_holding (ht R I V (k.bind fun v v' h1 μ1 s1 L1 I1 r k => ?_)))
        cases q : yU op left v h1 with
        | none => rw [q] at k; exact k.elim
        | some c =>
        rw [q] at k
        refine wpAny_bind (wpAny_standAt (wpAny_bind (wpAny_holding (wQ q R I1 (rl.le I L1) r fun tk => ?_))))
        refine wpAny_bind (j6 (wpAny_bind (wpAny_holding (wpAny_truthy_bool ?_))))
        have Lt : Le noS μ1 s1 μ1 { s1 with toks := tk } := .tok tk
        cases c with
        | false => exact wpAny_pure (PG.tk k I1 tk)
        | true => exact ih hr R (I1.tok tk) ((V.le I L1).le I1 Lt) (r.le I1 Lt) (PG.le k Lt)
end
section
variable {prog : Program} {w : World} {X : Cx} {G : GTab} {n : Nat} {cf : CF} {sc : Sc} {env : Env}
theorem jO {pos : Pos} : ∀ {ops : List CmpOp} {ts : List (Sem Value)} {xs : List XE}, SndL prog w X n cf sc env ts xs → ∀ {left : AV} {fr : AFr} {hp : Hp} {A : Around} {l : List Env} {μ : Mu} {s : Shared} {Q : Value → Shared → Prop} {E : Value → Shared → Prop} {lv : Value},
    Room n A l → Inv X μ hp s → EnvR X l sc env fr μ s.heap → VR X μ s.heap left lv → PT X l μ s (qS left ops xs cf fr hp) (fun b s' => Q (.bool b) s') E → wpAny (model prog w) A (compareChain pos lv ops ts) Q E s := by
  intro ops
  induction ops with
  | nil => exact fun _ _ _ _ _ _ _ _ _ _ _ _ _ _ _ k => k.elim
  | cons op ops ih =>
    intro ts xs h left fr hp A l μ s Q E lv R I V rl k
    cases h with
    | nil => exact k.elim
    | cons ht hr =>
      rename_i t x ts xs
      cases ops with
      | nil =>
        cases hr with
        | cons _ _ => exact k.elim
        | nil =>
        show wpAny _ _ (do let rv ← holding [lv] t; standAt pos; operate [lv, rv] (compareOp op lv rv)) _ _ _
        refine wpAny_bind (wpAny_holding (ht R I V (k.bind fun v v' h1 μ1 s1 L1 I1 r k => ?_)))
        obtain ⟨c, q, k⟩ := k.of
        exact wpAny_bind (wpAny_standAt (wpAny_operating (wQ q R I1 (rl.le I L1) r fun tk => PG.tk k I1 tk)))
      | cons op2 ops =>
        show wpAny _ _ (do
              let rv ← holding [lv] t
              standAt pos
              let c ← holding [lv, rv] (compareOp op lv rv)
              release [lv, rv] [c]
              if ← holding [c, rv] (truthy c) then compareChain pos rv (op2 :: ops) ts else pure c) _ _ _
        refine wpAny_bind (wpAny_holding (ht R I V (k.bind fun v v' h1 μ1 s1 L1 I1 r k => ?_)))
        cases q : yU op left v h1 with
        | none => rw [q] at k; exact k.elim
        | some c =>
        rw [q] at k
        refine wpAny_bind (wpAny_standAt (wpAny_bind (wpAny_holding (wQ q R I1 (rl.le I L1) r fun tk => ?_))))
        refine wpAny_bind (j6 (wpAny_bind (wpAny_holding (wpAny_truthy_bool ?_))))
        have Lt : Le noS μ1 s1 μ1 { s1 with toks := tk } := .tok tk
        cases c with
        | false => exact wpAny_pure (PG.tk k I1 tk)
        | true => exact ih hr R (I1.tok tk) ((V.le I L1).le I1 Lt) (r.le I1 Lt) (PG.le k Lt)
theorem z1k {l : Expr} {ops : List CmpOp} {rs : List Expr} {pos : Pos} {x : XE} {ys : List XE} (hs : lastMarks ops rs = false) (hl : zm prog w X n cf sc env (eval l env) x) (hr : SndL prog w X n cf sc env (evalEach rs env) ys) :
    zm prog w X n cf sc env (eval (.Compare l ops rs pos) env) (Zn x ops ys) := by
  intro fr hp A fl μ s Q E R I V k
  have k : PT X fl μ s (zN x ops ys cf fr hp) (fun b s' => Q (.bool b) s') E := PG.bind k fun a b hp' μ' s' L I e k => by
    cases e; exact PE.here k I (.bool a)
  show wpAny _ _ (do compareChain pos (← eval l env) ops (markedEach ops rs (evalEach rs env))) _ _ _
  rw [PyProof.Rows.markedEach_of_false _ _ _ hs]
  exact wpAny_bind (hl R I V (k.bind fun a a' h1 μ1 s1 L1 I1 r k => jO hr R I1 (V.le I L1) r k))
theorem JJ {l : Expr} {ops : List CmpOp} {rs : List Expr} {pos : Pos} {x : XE} {ys : List XE} {whole : Sem Value} (hs : lastMarks ops rs = false) (hl : zm prog w X n cf sc env (eval l env) x) (hr : SndL prog w X n cf sc env (evalEach rs env) ys) :
    qu prog w X n cf sc env (isTrue (.Compare l ops rs pos) env whole) (zN x ops ys) := by
  intro fr hp A fl μ s Q E R I V k
  show wpAny _ _ (do testChain pos (← eval l env) ops (markedEach ops rs (evalEach rs env))) _ _ _
  rw [PyProof.Rows.markedEach_of_false _ _ _ hs]
  exact wpAny_bind (hl R I V (k.bind fun a a' h1 μ1 s1 L1 I1 r k => Zv hr R I1 (V.le I L1) r k))
theorem JH {x : Expr} {pos : Pos} {t : XT} {whole : Sem Value} (h : qu prog w X n cf sc env (isTrue x env (eval x env)) t) : qu prog w X n cf sc env (isTrue (.UnaryOp .Not x pos) env whole) (yA t) := by
  intro fr hp A l μ s Q E R I V k
  show wpAny _ _ (do return !(← isTrue x env (eval x env))) _ _ _
  exact wpAny_bind (h R I V (k.bind fun a b h1 μ1 s1 L1 I1 e k => wpAny_pure (by cases e; exact k _ μ1 s1 .refl I1 rfl)))
theorem JK {op : BoolOp} {es : List Expr} : ∀ {xs : List XT}, SndTs prog w X n cf sc env (es.map fun e => isTrue e env (eval e env)) xs → qu prog w X n cf sc env (allTrue op es env) (zT op xs) := by
  induction es with
  | nil =>
    intro xs h
    cases h
    exact fun _ I _ k => wpAny_pure (k _ _ _ .refl I rfl)
  | cons x es ih =>
    intro xs h
    cases h with
    | cons hx hr =>
    intro fr hp A l μ s Q E R I V k
    show wpAny _ _ (do match op, ← isTrue x env (eval x env) with | .And, false => pure false | .Or, true => pure true | _, _ => allTrue op es env) _ _ _
    refine wpAny_bind (hx R I V (k.bind fun c c' h1 μ1 s1 L1 I1 e k => ?_))
    cases e
    cases op <;> cases c
    · exact wpAny_pure (k _ μ1 s1 .refl I1 rfl)
    · exact ih hr R I1 (V.le I L1) k
    · exact ih hr R I1 (V.le I L1) k
    · exact wpAny_pure (k _ μ1 s1 .refl I1 rfl)
theorem JG {e₀ : Expr} {x : XE} (he : ∀ whole, isTrue e₀ env whole = (do let v ← whole; standAt e₀.pos; holding [v] (truthy v))) (h : zm prog w X n cf sc env (eval e₀ env) x) : qu prog w X n cf sc env (isTrue e₀ env (eval e₀ env)) (zp x) := by
  intro fr hp A l μ s Q E R I V k
  rw [he]
  refine wpAny_bind (h R I V (k.bind fun a a' h1 μ1 s1 L1 I1 r k => ?_))
  obtain ⟨b, e3, k⟩ := k.of
  exact wpAny_bind (wpAny_standAt (wpAny_holding (qb e3 I1 r fun t => PG.tk k I1 t)))
theorem xq {o : Expr} {attr : Str} {env : Env} {t : Sem Value} (h : qQ o = false) : attributeBase o attr env t = t := by
  cases o with
  | Call f as ks p =>
    cases f with
    | Name x q =>
      cases as with
      | cons => rfl
      | nil =>
        cases ks with
        | cons => rfl
        | nil => exact nob h.symm
    | _ => rfl
  | _ => rfl
theorem JF {o : Expr} {name : Str} {pos : Pos} {x : XE} (g : Gd X G) (hs : qQ o = false) (h : zm prog w X n cf sc env (eval o env) x) : zm prog w X n cf sc env (eval (.Attribute o name pos) env) (zD x name) := by
  intro fr hp A l μ s Q E R I V k
  show wpAny _ _ (do let o' ← attributeBase o name env (eval o env); standAt pos.atName; let r ← holding [o'] (getAttr o' name true); letTemporaryGo o o' r; pure r) _ _ _
  rw [xq hs]
  refine wpAny_bind (h R I V (k.bind fun a a' h2 μ1 s1 L1 I1 r k => wpAny_bind (wpAny_standAt (wpAny_bind (wpAny_holding ?_)))))
  cases a with
  | ref a =>
    have k : PO X l μ1 s1 (match h2[a]? with | some (.inst _ fs) => Out.of (fs.lookup name) h2 | _ => .stuck) Q E := k
    cases ho : h2[a]? with
    | none => rw [ho] at k; exact k.elim
    | some o' =>
      rw [ho] at k
      cases o' with
      | list _ => exact k.elim
      | dict _ => exact k.elim
      | inst c fs =>
      obtain ⟨v, e3, k⟩ := PG.of k
      exact Qq g I1 r ho e3 fun v' μ2 s2 L2 I2 rv => wpAny_bind (wpAny_letTemporaryGo (wpAny_pure (k v' μ2 s2 L2 I2 rv)))
  | _ => exact k.elim
noncomputable def W6 : Expr → Bool
  | .Slice .. => false
  | _ => true
theorem z1h {o i : Expr} {pos : Pos} {x y : XE} (hn : W6 i = true) (ho : zm prog w X n cf sc env (eval o env) x) (hi : zm prog w X n cf sc env (eval i env) y) : zm prog w X n cf sc env (eval (.Subscript o i pos) env) (zR x y) := by
  intro fr hp A l μ s Q E R I V k
  refine PyProof.Rows.Subscript_ (ho R I V (k.bind fun a a' h1 μ1 s1 L1 I1 ra k => hi R I1 (V.le I L1) (k.bind fun b b' h2 μ2 s2 L2 I2 rb k => ?_)))
  obtain ⟨v, e3, k⟩ := k.of
  obtain ⟨⟨T, id, hT, hl⟩, hw⟩ := Wh (prog := prog) (w := w) (A := A) (E := E) e3 I2 (ra.le I1 L2) rb k
  refine PyProof.Rows.tail_any (ops := [a', b']) hT hl hw ?_
  cases i <;> first | rfl | (cases hn; done)
theorem Qy {e : Option Expr} {x : XE} (h : ∀ e', e = some e' → zm prog w X n cf sc env (eval e' env) x) (h0 : e = none → x = z7 .none) : zm prog w X n cf sc env (valueOrNone (evalOpt e env)) x := by
  cases e with
  | some e' => exact h e' rfl
  | none =>
    rw [h0 rfl]
    exact fun _ I _ k => wpAny_pure (k.pe.here I .none)
theorem z1j {o : Expr} {l u : Option Expr} {p pos : Pos} {x y z : XE} (ho : zm prog w X n cf sc env (eval o env) x) (hl : zm prog w X n cf sc env (valueOrNone (evalOpt l env)) y) (hu : zm prog w X n cf sc env (valueOrNone (evalOpt u env)) z) :
    zm prog w X n cf sc env (eval (.Subscript o (.Slice l u none p) pos) env) (Z2 x y z) := by
  intro fr hp A fl μ s Q E R I V k
  refine PyProof.Rows.Subscript_ (ho R I V (k.bind fun a a' h1 μ1 s1 L1 I1 ra k => ?_))
  show wpAny _ _ (do let l' ← valueOrNone (evalOpt l env); let u' ← holding [l'] (valueOrNone (evalOpt u env)); let st ← holding [l', u'] (valueOrNone (evalOpt none env)); newFields "slice" [l', u', st]) _ _ _
  refine wpAny_bind (hl R I1 (V.le I L1) (k.bind fun b b' h2 μ2 s2 L2 I2 rb k => wpAny_bind (wpAny_holding (hu R I2 ((V.le I L1).le I1 L2) (k.bind fun c c' h3 μ3 s3 L3 I3 rc k => wpAny_bind (wpAny_holding (wpAny_pure ?_)))))))
  refine wpAny_newObj_type ?_
  have hk : ∀ b o, s3.heap.get? b = some o → (s3.heap.push { cls := .type "slice", data := .fields #[b', c', .none] }).get? b = some o := fun b o e => Heap.get?_push_of_some _ e
  have L4 : Le noS μ3 s3 μ3 { s3 with heap := s3.heap.push { cls := .type "slice", data := .fields #[b', c', .none] } } := .ofKeep hk
  have I4 : Inv X μ3 h3 { s3 with heap := s3.heap.push { cls := .type "slice", data := .fields #[b', c', .none] } } := I3.grow (t := s3.toks) hk
  obtain ⟨⟨T, id, hT, hl'⟩, hw⟩ := Wo (prog := prog) (w := w) (A := A) (E := E) (s := { s3 with heap := s3.heap.push { cls := .type "slice", data := .fields #[b', c', .none] } }) I4 (((ra.le I1 L2).le I2 L3).le I3 L4) ((rb.le I2 L3).le I3 L4) (rc.le I3 L4)
    (Heap.IsSliceOf.new ..) (PG.le k L4)
  exact PyProof.Rows.tail_any (ops := [.ref s3.heap.objs.size, a']) hT hl' hw rfl
theorem yw {M : Model} {A : Around} {E : Value → Shared → Prop} {s : Shared} {f : Value} {ts : List (Sem Value)} {Q : Args → Shared → Prop}
    (h : wpAny M A (spliced (ts.map fun t => (false, t))) (fun vs s' => Q ⟨vs, []⟩ s') E s) : wpAny M A (evalArgs f true (ts.map fun t => (false, t)) []) Q E s := by
  cases ts with
  | cons t ts => exact evalArgs_plain h
  | nil =>
    unfold evalArgs
    show wpAny M A (spliced [] >>= _) Q E s
    refine wpAny_bind (wpAny_mono h (fun vs s' h' => ?_) fun _ _ x => x)
    refine wpAny_holding ?_
    exact wpAny_bind (wpAny_pure (wpAny_bind (wpAny_pure (wpAny_pure h'))))
theorem Q6 {K : Frag} {A : Around} {E : Value → Shared → Prop} {s : Shared} {f : Addr} {pos : Pos} {first : List Value} {ts : List (Sem Value)} {Q : Value → Shared → Prop} (hk : keepIn K (.ref f) = true)
    (h : wpAny (model prog w) A (spliced (ts.map fun t => (false, t))) (fun vs s' => K.In s'.heap ∧ wpAny (model prog w) A (call (.ref f) (first ++ vs)) Q E s') E s) :
    wpAny (model prog w) A (callWith pos (.ref f) first (ts.map fun t => (false, t)) []) Q E s := by
  refine callWith_of (P := K.In) (by simp) (fun h x => ?_) (yw h)
  obtain ⟨k, hk', L⟩ := looks_keep hk x
  exact ⟨k, hk'.elim .inl fun q => .inr (.inl q), L⟩
theorem ju {A : Around} {E : Value → Shared → Prop} {s : Shared} {b : Bi} {pos : Pos} {ts : List (Sem Value)} {Q : Value → Shared → Prop}
    (h : wpAny (model prog w) A (spliced (ts.map fun t => (false, t))) (fun vs s' => wpAny (model prog w) A (call (wa b) vs) Q E s') E s) :
    wpAny (model prog w) A (callWith pos (wa b) [] (ts.map fun t => (false, t)) []) Q E s := by
  refine callWith_of (P := fun _ => True) (by simp) (fun h x => ⟨.machine, .inr (.inl rfl), ?_⟩) (yw (wpAny_mono h (fun vs s' z => ⟨trivial, z⟩) fun _ _ z => z))
  cases b <;> exact Looks.of_pure rfl
theorem WJ {f : Expr} {args : List Expr} {pos : Pos} (hf : ∀ o name p, f ≠ .Attribute o name p) : eval (.Call f args [] pos) env = (do callWith pos (← eval f env) [] (backTo pos (starEach args env)) (backToKw pos (keywordEach [] env))) := by
  cases f <;> first | rfl | (exact absurd rfl (hf _ _ _))
theorem qn {f : Addr} {args : List Expr} {pos : Pos} {ys : List XE} {A : Around} {l : List Env} {μ : Mu} {s : Shared} {Q : Value → Shared → Prop} {E : Value → Shared → Prop} {fr : AFr} {hp : Hp} {c : Callee} {first : List Value} {fa : List AV} (g : Gd X G) (hcf : SndCF prog w X n cf)
    (hy : SndL prog w X n cf sc env (evalEach args env) ys) (R : Room n A l) (I : Inv X μ hp s) (V : EnvR X l sc env fr μ s.heap) (hc : z0v X c f) (rf : VRs X μ s.heap fa first)
    (k : PO X l μ s ((evs ys cf fr hp).bind0 fun vs h₂ => cf c (fa ++ vs) h₂) Q E) : wpAny (model prog w) A (callWith pos (.ref f) first ((evalEach args env).map fun t => (false, t)) []) Q E s := by
  cases q : evs ys cf fr hp with
  | stuck => rw [q] at k; exact k.elim
  | exc => rw [q] at k; exact k.elim
  | ok vs h2 =>
    rw [q] at k
    have k : PO X l μ s (cf c (fa ++ vs) h2) Q E := k
    refine Q6 (hcf.keep k.ne hc) (yl hy R I V ?_)
    rw [q]
    exact fun vs' μ2 s2 L2 I2 rs => ⟨I2.kin g.K, hcf.run R (V.frs.le L2) I2 hc ((rf.le I L2).app rs) (PG.le k L2)⟩
theorem JE {f : Expr} {args : List Expr} {pos : Pos} {x : XE} {ys : List XE} (g : Gd X G) (hcf : SndCF prog w X n cf) (hf : ∀ o name p, f ≠ .Attribute o name p) (hs : args.all yz = true)
    (hx : zm prog w X n cf sc env (eval f env) x) (hy : SndL prog w X n cf sc env (evalEach args env) ys) : zm prog w X n cf sc env (eval (.Call f args [] pos) env) (zB x ys) := by
  intro fr hp A l μ s Q E R I V k
  rw [WJ hf, yV env hs, xN]
  refine wpAny_bind (hx R I V (k.bind fun a a' h1 μ1 s1 L1 I1 ra k => ?_))
  show wpAny _ _ (callWith pos a' [] _ []) _ _ _
  cases a with
  | fn x =>
    obtain ⟨f, rfl, q⟩ := ra.fn_
    exact qn (fa := []) g hcf hy R I1 (V.le I L1) (c := .fn x) q .nil k
  | cls x =>
    obtain ⟨f, rfl, q⟩ := ra.cls_
    exact qn (fa := []) g hcf hy R I1 (V.le I L1) (c := .cls x) q .nil k
  | bi b =>
    rw [ra.bi_]
    exact ju (yl hy R I1 (V.le I L1) (k.bind0 fun vs vs' h2 μ2 s2 L2 I2 rs k => z0l R I2 rs k))
  | _ => cases q : evs ys cf fr h1 <;> rw [q] at k <;> exact k.elim
noncomputable def lMe : Me → Bool
  | .append | .insert | .index | .count | .remove | .extend | .clear => true
  | _ => false
noncomputable def dMe : Me → Bool
  | .pop => true
  | _ => false
noncomputable def zC9 : Me → Str
  | .append => "append" | .insert => "insert" | .index => "index" | .count => "count" | .remove => "remove" | .join => "join" | .pop => "pop" | .extend => "extend" | .clear => "clear"
theorem jP {name : Str} {m : Me} (h : jQ name = some m) : name = zC9 m := by
  unfold jQ at h
  by_cases q : (name == ("append" : Str)) = true
  · rw [if_pos q] at h; cases h; exact beq_iff_eq.mp q
  rw [if_neg q] at h; clear q
  by_cases q : (name == ("insert" : Str)) = true
  · rw [if_pos q] at h; cases h; exact beq_iff_eq.mp q
  rw [if_neg q] at h; clear q
  by_cases q : (name == ("index" : Str)) = true
  · rw [if_pos q] at h; cases h; exact beq_iff_eq.mp q
  rw [if_neg q] at h; clear q
  by_cases q : (name == ("count" : Str)) = true
  · rw [if_pos q] at h; cases h; exact beq_iff_eq.mp q
  rw [if_neg q] at h; clear q
  by_cases q : (name == ("remove" : Str)) = true
  · rw [if_pos q] at h; cases h; exact beq_iff_eq.mp q
  rw [if_neg q] at h; clear q
  by_cases q : (name == ("join" : Str)) = true
  · rw [if_pos q] at h; cases h; exact beq_iff_eq.mp q
  rw [if_neg q] at h; clear q
  by_cases q : (name == ("pop" : Str)) = true
  · rw [if_pos q] at h; cases h; exact beq_iff_eq.mp q
  rw [if_neg q] at h; clear q
  by_cases q : (name == ("extend" : Str)) = true
  · rw [if_pos q] at h; cases h; exact beq_iff_eq.mp q
  rw [if_neg q] at h; clear q
  by_cases q : (name == ("clear" : Str)) = true
  · rw [if_pos q] at h; cases h; exact beq_iff_eq.mp q
  rw [if_neg q] at h; exact nos h
set_option maxRecDepth 100000 in
theorem z1t {name : Str} {A : Around} {E : Value → Shared → Prop} {s : Shared} {pl : Sem Bool} {Q : Value × List Value → Shared → Prop} (hm : jQ name = some .join) {x : Str} {t : Tok}
    (h : Q (.builtin (Jm .join), [.str x t]) s) : wpAny (model prog w) A (getMethod (.str x t) name pl) Q E s := by
  rw [jP hm]
  exact getMethod_builtin (typeIs_str _ _ _) F.plainAttrs_str F.slot_str_join F.type_str_join (fun _ e => nomatch e) h
set_option maxRecDepth 100000 in
theorem zC8 {m : Me} {name : Str} {A : Around} {E : Value → Shared → Prop} {s : Shared} {pl : Sem Bool} {Q : Value × List Value → Shared → Prop} (hm : jQ name = some m) (hj : lMe m = true) {a : Addr} {items : Array Value} {k : Nat} (hl : IsL s.heap a items k)
    (h : Q (.builtin (Jm m), [.ref a]) s) : wpAny (model prog w) A (getMethod (.ref a) name pl) Q E s := by
  have hd : ∀ b, Value.ref a = .ref b → ∃ o, s.heap.get? b = some o ∧ o.dict = none := fun b e => by cases e; exact ⟨_, hl, rfl⟩
  have hT : s.TypeIs (.ref a) "list" := ⟨_, hl, rfl⟩
  rw [jP hm]
  cases m with
  | append => exact getMethod_builtin hT F.plainAttrs_list F.slot_list_append F.type_list_append hd h
  | insert => exact getMethod_builtin hT F.plainAttrs_list F.slot_list_insert F.type_list_insert hd h
  | index => exact getMethod_builtin hT F.plainAttrs_list F.slot_list_index F.type_list_index hd h
  | count => exact getMethod_builtin hT F.plainAttrs_list F.slot_list_count F.type_list_count hd h
  | remove => exact getMethod_builtin hT F.plainAttrs_list F.slot_list_remove F.type_list_remove hd h
  | extend => exact getMethod_builtin hT F.plainAttrs_list F.slot_list_extend F.type_list_extend hd h
  | clear => exact getMethod_builtin hT F.plainAttrs_list F.slot_list_clear F.type_list_clear hd h
  | _ => exact nob hj
set_option maxRecDepth 100000 in
theorem z29 {m : Me} {name : Str} {A : Around} {E : Value → Shared → Prop} {s : Shared} {pl : Sem Bool} {Q : Value × List Value → Shared → Prop} (hm : jQ name = some m) (hj : dMe m = true) {a : Addr} (hT : s.TypeIs (.ref a) "dict") (hd : ∀ b, Value.ref a = .ref b → ∃ o, s.heap.get? b = some o ∧ o.dict = none)
    (h : Q (.builtin (Jm m), [.ref a]) s) : wpAny (model prog w) A (getMethod (.ref a) name pl) Q E s := by
  rw [jP hm]
  cases m with
  | pop => exact getMethod_builtin hT F.plainAttrs_dict F.slot_dict_pop F.type_dict_pop hd h
  | _ => exact nob hj
set_option maxRecDepth 100000 in
theorem J8 {o : Expr} {name : Str} {apos pos : Pos} {args : List Expr} {x : XE} {ys : List XE} (g : Gd X G) (hcf : SndCF prog w X n cf) (hs : qQ o = false) (hp0 : (apos.endLine == pos.line) = true) (ha : args.all yz = true)
    (hl : args.length < 30) (hx : zm prog w X n cf sc env (eval o env) x) (hy : SndL prog w X n cf sc env (evalEach args env) ys) :
    zm prog w X n cf sc env (eval (.Call (.Attribute o name apos) args [] pos) env) (z6 x name (jQ name) ys) := by
  intro fr hp A l μ s Q E R I V k
  show wpAny _ _ (do
    let ov ← attributeBase o name env (eval o env)
    standAt apos.atName
    methodCall o name apos pos env ov (args.length + ([] : List Keyword).length) (backTo pos (starEach args env)) (backToKw pos (keywordEach [] env))) _ _ _
  rw [xq hs, yV env ha, xN]
  have form : methodCallForm (args.length + ([] : List Keyword).length) ((evalEach args env).map fun t => (false, t)) (backToKw pos (keywordEach [] env)) = true := by
    unfold methodCallForm
    have : ((evalEach args env).map fun t => (false, t)).all (fun x => !x.1) = true := by simp
    simp only [this, Bool.true_and]
    show (true && decide (args.length + 0 + 0 < 30)) = true
    simp; exact hl
  have start : ∀ {ov : Value} {s1 : Shared}, wpAny (model prog w) A (getMethod ov name (do return (← importBound o env).getD true)) (fun p s2 => wpAny (model prog w) A (callWith pos p.1 p.2 ((evalEach args env).map fun t => (false, t)) []) Q E s2) E s1 →
      wpAny (model prog w) A (methodCall o name apos pos env ov (args.length + ([] : List Keyword).length) ((evalEach args env).map fun t => (false, t)) (backToKw pos (keywordEach [] env))) Q E s1 := by
    intro ov s1 h
    unfold methodCall
    rw [form]
    refine wpAny_bind (wpAny_holding (wpAny_mono (show wpAny (model prog w) A (calleeOf true o env ov name) _ E s1 from h) (fun p s2 h2 => ?_) fun _ _ z => z))
    refine wpAny_bind ?_
    unfold methodCallPos
    rw [if_pos (by simp [hp0])]
    exact wpAny_pure h2
  refine wpAny_bind (hx R I V (k.bind fun a a' h1 μ1 s1 L1 I1 ra k => wpAny_bind (wpAny_standAt (start ?_))))
  cases a with
  | ref b =>
    have k : PO X l μ1 s1 (match h1[b]? with
      | some (.inst c fs) => (match fs.lookup name with
        | some _ => Out.stuck
        | none => (evs ys cf fr h1).bind0 fun vs h₂ => cf (.meth c name) (.ref b :: vs) h₂)
      | some (.list _) => (match jQ name with
        | some m => (evs ys cf fr h1).bind0 fun vs h₂ => yG m (.ref b) vs h₂
        | none => .stuck)
      | some (.dict _) => (match jQ name with
        | some m => (evs ys cf fr h1).bind0 fun vs h₂ => Mine.ofP (meD m b vs h₂)
        | none => .stuck)
      | none => .stuck) Q E := k
    cases ho : h1[b]? with
    | none => rw [ho] at k; exact k.elim
    | some o' =>
      rw [ho] at k
      cases o' with
      | inst c fs =>
        dsimp only at k
        cases hno : fs.lookup name with
        | some _ => rw [hno] at k; exact k.elim
        | none =>
        rw [hno] at k
        have k : PO X l μ1 s1 ((evs ys cf fr h1).bind0 fun vs h₂ => cf (.meth c name) ([.ref b] ++ vs) h₂) Q E := k
        have ne : ∃ vs h2, cf (.meth c name) vs h2 ≠ .stuck := by
          cases q : evs ys cf fr h1 with
          | stuck => rw [q] at k; exact k.elim
          | exc => rw [q] at k; exact k.elim
          | ok vs h2 => rw [q] at k; exact ⟨_, h2, PG.ne (o := cf (.meth c name) ([.ref b] ++ vs) h2) k⟩
        obtain ⟨_, _, ne⟩ := ne
        obtain ⟨f, C, c1, c2, c3⟩ := hcf.meth ne
        exact QX g I1 ra ho hno c1 c2 c3 (qn g hcf hy R I1 (V.le I L1) (c := .meth c name) ⟨C, c1, c2, c3⟩ (.cons ra .nil) k)
      | dict kvs =>
        dsimp only at k
        cases hm : jQ name with
        | none => rw [hm] at k; exact k.elim
        | some m =>
        rw [hm] at k
        have hj : dMe m = true := by
          have k : PO X l μ1 s1 ((evs ys cf fr h1).bind0 fun vs h₂ => Mine.ofP (meD m b vs h₂)) Q E := k
          cases q : evs ys cf fr h1 with
          | stuck => rw [q] at k; exact k.elim
          | exc => rw [q] at k; exact k.elim
          | ok vs h2 =>
            rw [q] at k
            obtain ⟨v', hp', e, _⟩ := PG.ofP (o := meD m b vs h2) k
            cases m <;> first | rfl | cases e
        obtain ⟨d, es, rfl, g1, md, _, _, _⟩ := I1.dict_at ra ho prog w
        exact z29 hm hj md.typeIs (fun b' e => by injection e with e; subst e; exact let ⟨o, _, _, ho, hc, _⟩ := md; ⟨o, ho, hc.2.1⟩) (callWith_builtin (by simp) (yw (yl hy R I1 (V.le I L1) (PG.bind0 k fun vs vs' h2 μ2 s2 L2 I2 rs k => Wm I2 (ra.le I1 L2) rs k))))
      | list xs =>
        dsimp only at k
        cases hm : jQ name with
        | none => rw [hm] at k; exact k.elim
        | some m =>
        rw [hm] at k
        obtain ⟨d, items, mm, rfl, g1, hl', _, _⟩ := I1.list_at ra ho
        have hj : lMe m = true := by
          have k : PO X l μ1 s1 ((evs ys cf fr h1).bind0 fun vs h₂ => yG m (.ref b) vs h₂) Q E := k
          cases q : evs ys cf fr h1 with
          | stuck => rw [q] at k; exact k.elim
          | exc => rw [q] at k; exact k.elim
          | ok vs h2 =>
            rw [q] at k
            obtain ⟨v', hp', e, _⟩ := PG.ofP (o := (yf (.ref b)).bind fun a => (zn h2 a).bind fun xs => meO m a xs vs h2) k
            obtain ⟨b', h1', e⟩ := zS e
            obtain ⟨xs', hx', e⟩ := zS e
            cases m <;> first | rfl | cases e
        exact zC8 hm hj hl' (callWith_builtin (by simp) (yw (yl hy R I1 (V.le I L1) (PG.bind0 k fun vs vs' h2 μ2 s2 L2 I2 rs k => Xc R I2 (ra.le I1 L2) rs k))))
  | str x₀ =>
    have k : PO X l μ1 s1 (match jQ name with
      | some m => (evs ys cf fr h1).bind0 fun vs h₂ => yG m (.str x₀) vs h₂
      | none => .stuck) Q E := k
    cases hm : jQ name with
    | none => rw [hm] at k; exact k.elim
    | some m =>
      rw [hm] at k
      have k : PO X l μ1 s1 ((evs ys cf fr h1).bind0 fun vs h₂ => yG m (.str x₀) vs h₂) Q E := k
      have hj : m = .join := by
        cases q : evs ys cf fr h1 with
        | stuck => rw [q] at k; exact k.elim
        | exc => rw [q] at k; exact k.elim
        | ok vs h2 =>
          rw [q] at k
          cases m with
          | join => rfl
          | _ => exact k.elim
      subst hj
      obtain ⟨t, rfl, z⟩ := ra.str_
      exact z1t hm (callWith_builtin (by simp) (yw (yl hy R I1 (V.le I L1) (k.bind0 fun vs vs' h2 μ2 s2 L2 I2 rs k => Xc R I2 (.str t z) rs k))))
  | _ => exact k.elim
end
noncomputable def ZO : List String := ["enumerate", "zip", "dict_itemiterator", "dict_reverseitemiterator", "odict_iterator", "itertools.zip_longest", "itertools.pairwise"]
noncomputable def xw (h : Heap) (b : Addr) : Prop := ∃ o T vs, h.get? b = some o ∧ o.cls = .type T ∧ o.data = .fields vs ∧ T ≠ "range"
theorem xw.notFixed {h : Heap} {b : Addr} {o : Obj} (x : xw h b) (e : h.get? b = some o) : ¬ yS o := by
  obtain ⟨o', T, vs, ho, hc, hd, hn⟩ := x
  rw [e] at ho; cases ho
  rintro (⟨q, xs, n, q'⟩ | ⟨q, _⟩)
  · rw [hd] at q'; cases q'
  · rw [hc] at q; cases q; exact hn rfl
structure Its (X : Cx) (h0 : Heap) (μ : Mu) (h : Heap) (its : List Addr) : Prop where
  new : ∀ b ∈ its, h0.get? b = none
  out : ∀ b ∈ its, b ∉ zb μ
  base : ∀ b ∈ its, X.base.get? b = none
  obj : ∀ b ∈ its, xw h b
noncomputable def But (its : List Addr) (s s' : Shared) : Prop := (∀ b o, b ∉ its → s.heap.get? b = some o → s'.heap.get? b = some o) ∧ s'.gens = s.gens ∧ s'.os = s.os
section
variable {prog : Program} {w : World} {X : Cx} {G : GTab} {sc : Sc} {env : Env} {fr : AFr} {μ μ' μ₀ : Mu} {hp hp' : Hp} {s s' s₀ : Shared} {its : List Addr} {h0 : Heap} {l : List Env}
theorem But.refl : But its s s := ⟨fun _ _ _ e => e, rfl, rfl⟩
theorem But.trans {s1 s2 : Shared} (a : But its s s1) (b : But its s1 s2) : But its s s2 := ⟨fun x o n e => b.1 x o n (a.1 x o n e), b.2.1.trans a.2.1, b.2.2.trans a.2.2⟩
theorem Its.fix (T : Its X h0 μ s.heap its) (a : But its s s') : ∀ b o, s.heap.get? b = some o → yS o → s'.heap.get? b = some o := fun b o e f => a.1 b o (fun h => (T.obj b h).notFixed e f) e
theorem Its.vrs (T : Its X h0 μ s.heap its) (a : But its s s') {x : List AV} {v : List Value} (r : VRs X μ s.heap x v) : VRs X μ s'.heap x v := r.mono (List.prefix_refl _) (T.fix a)
theorem Its.invR (T : Its X h0 μ s.heap its) (a : But its s s') (I : Inv X μ hp s) : Inv X μ hp s' :=
  ⟨I.len, I.nodup, I.above, fun i q x hi hx => (I.rep i q x hi hx).mono (List.prefix_refl _) (T.fix a) fun b hb o e => a.1 b o (fun h => T.out b h (yN.mpr ⟨i, q, hi, hb⟩)) e,
    fun b o e => a.1 b o (fun h => by have := T.base b h; rw [e] at this; cases this) (I.keep b o e), a.2.1.trans I.gens, a.2.2.trans I.os⟩
noncomputable def WK (o : Obj) : Prop := (∃ es n, o.data = .dict es n) ∨ (∃ v, o.data = .cell v)
theorem w4 (V : EnvR X l sc env fr μ s.heap) {b : Addr} {o : Obj} (h : own env b) (e : s.heap.get? b = some o) : WK o := by
  rcases h with rfl | ⟨x, hx⟩
  · obtain ⟨m, ⟨o', es, ep, ho, hd, _⟩, _⟩ := V.loc
    rw [e] at ho; cases ho; exact .inl ⟨_, _, hd⟩
  · obtain ⟨_, cv, o', ho, hd⟩ := V.ncel x b hx
    rw [e] at ho; cases ho; exact .inr ⟨_, hd⟩
theorem EnvR.but (V : EnvR X l sc env fr μ s.heap) (kp : ∀ b o, own env b → s.heap.get? b = some o → s'.heap.get? b = some o) (fx : ∀ b o, s.heap.get? b = some o → yS o → s'.heap.get? b = some o) (ff : Frs X l μ s'.heap) : EnvR X l sc env fr μ s'.heap := by
  obtain ⟨m, ns, hm⟩ := V.loc
  have cellK : ∀ {x : Str} {c : Addr} {cv : Option Value}, env.cells.lookup x = some c → s.heap.IsCell c cv → s'.heap.IsCell c cv := fun hx h => by
    obtain ⟨o, ho, r⟩ := h; exact ⟨o, kp _ o (.inr ⟨_, hx⟩) ho, r⟩
  refine ⟨V.fn, V.glob, V.bltn, V.kind, ⟨m, ?_, fun x i v e1 e2 e3 => ?_⟩, fun x i e1 e2 => ?_, V.nloc, V.bloc, fun x c hc => ?_, V.bcel, V.apart, V.inj, V.wid, V.slt, ff⟩
  · obtain ⟨o, es, ep, ho, r⟩ := ns
    exact ⟨o, es, ep, kp _ o (.inl rfl) ho, r⟩
  · obtain ⟨v', e, r⟩ := hm x i v e1 e2 e3
    exact ⟨v', e, r.mono (List.prefix_refl _) fx⟩
  · obtain ⟨c, cv, q1, q2, q3⟩ := V.cel x i e1 e2
    refine ⟨c, cv, q1, cellK q1 q2, fun v hv => ?_⟩
    obtain ⟨v', q, r⟩ := q3 v hv
    exact ⟨v', q, r.mono (List.prefix_refl _) fx⟩
  · obtain ⟨n, cv, h⟩ := V.ncel x c hc
    exact ⟨n, cv, cellK hc h⟩
theorem Its.envR (T : Its X h0 μ s.heap its) (a : But its s s') (V : EnvR X l sc env fr μ s.heap) : EnvR X l sc env fr μ s'.heap :=
  V.but (fun b o h e => a.1 b o (fun q => by
    obtain ⟨o', Tn, vs, ho, hc, hd, _⟩ := T.obj b q
    rw [e] at ho; cases ho
    rcases w4 V h e with ⟨es, n, q⟩ | ⟨v, q⟩ <;> rw [hd] at q <;> cases q) e) (T.fix a) (V.frs.mono fun b o n e d => ⟨n, o, a.1 b o (fun q => by
    obtain ⟨o', Tn, vs, ho, hc, hd, _⟩ := T.obj b q
    rw [e] at ho; cases ho
    unfold isD at d; rw [hd] at d; cases d) e, d⟩)
theorem Its.leR {S : Addr → Prop} (T : Its X s₀.heap μ s.heap its) (a : But its s s') (L : Le S μ₀ s₀ μ s) : Le S μ₀ s₀ μ s' := by
  have nw : ∀ b o, s₀.heap.get? b = some o → b ∉ its := fun b o e h => by have := T.new b h; rw [e] at this; cases this
  refine ⟨L.pre, L.fresh, fun b o e => ?_, fun b o n ns e => (L.keep b o n ns e).trans fun o' e' => .inl (a.1 b o' (nw b o e) e')⟩
  obtain ⟨o', e'⟩ := L.exist b o e
  exact ⟨o', a.1 b o' (nw b o e) e'⟩
theorem Its.later {S : Addr → Prop} (T : Its X h0 μ s.heap its) (hS : ∀ b o, S b → s.heap.get? b = some o → WK o) (L : Le S μ s μ' s') : Its X h0 μ' s'.heap its ∧ ∀ b ∈ its, s'.heap.get? b = s.heap.get? b := by
  have kp : ∀ b ∈ its, ∀ o, s.heap.get? b = some o → s'.heap.get? b = some o := fun b hb o e => by
    obtain ⟨o', Tn, vs, ho, hc, hd, _⟩ := T.obj b hb
    rw [e] at ho; cases ho
    exact (L.keep b o (T.out b hb) (fun h => by rcases hS b o h e with ⟨es, n, q⟩ | ⟨v, q⟩ <;> rw [hd] at q <;> cases q) e).exact (by unfold isD; rw [hd])
  refine ⟨⟨T.new, fun b hb h => ?_, T.base, fun b hb => ?_⟩, fun b hb => ?_⟩
  · rcases L.fresh b h with q | q
    · exact T.out b hb q
    · obtain ⟨o, Tn, vs, ho, _⟩ := T.obj b hb; rw [q] at ho; exact nos ho
  · obtain ⟨o, Tn, vs, ho, r⟩ := T.obj b hb
    exact ⟨o, Tn, vs, kp b hb o ho, r⟩
  · obtain ⟨o, Tn, vs, ho, r⟩ := T.obj b hb
    rw [ho]; exact kp b hb o ho
end
structure Drives (prog : Program) (w : World) (X : Cx) (target : Expr) (src : Src) (it : Value) (its : List Addr) (St : Nat → Mu → Heap → Prop) : Prop where
  frame : ∀ k μ μ' h h', St k μ h → μ <+: μ' → (∀ b ∈ its, ∀ o, h.get? b = some o → h'.get? b = some o) → (∀ b o, h.get? b = some o → yS o → h'.get? b = some o) →
    (∀ b o, X.base.get? b = some o → h.get? b = some o ∧ h'.get? b = some o) → St k μ' h'
  obj : ∀ k μ h, St k μ h → ∀ b ∈ its, xw h b
  item : ∀ {A : Around} {μ : Mu} {hp : Hp} {s : Shared} {k : Nat} {x : AV} {Q : Option Value → Shared → Prop} {E E' : Value → Shared → Prop} {Q' : Value → Unit → Shared → Prop}, A.handled = none → Inv X μ hp s → (∀ b ∈ its, b ∉ zb μ) → St k μ s.heap → src.next? hp k = some (some x) →
    (∀ v s₁, wpAny (model prog w) A (letOwnedTupleGo target it v) (Q' v) E' s₁ → Q (some v) s₁) →
    (∀ v s', VR X μ s'.heap x v → But its s s' → St (k + 1) μ s'.heap → Q' v () s') → wpAny (model prog w) A (pyNext it) Q E s
  done : ∀ {A : Around} {μ : Mu} {hp : Hp} {s : Shared} {k : Nat} {Q : Option Value → Shared → Prop} {E : Value → Shared → Prop}, A.handled = none → Inv X μ hp s → St k μ s.heap → src.next? hp k = some none →
    (∀ s', But its s s' → Q none s') → wpAny (model prog w) A (pyNext it) Q E s
  self : ∀ {A : Around} {μ : Mu} {s : Shared} {k : Nat} {Q : Value → Shared → Prop} {E : Value → Shared → Prop}, A.handled = none → St k μ s.heap → Q it s → wpAny (model prog w) A (pyIter it) Q E s
section
variable {prog : Program} {w : World} {X : Cx} {A : Around} {E : Value → Shared → Prop} {s : Shared}
theorem ji {target : Expr} {r : Addr} {v : Value} {o : Obj} {T : String} {vs : Array Value} {Q : Unit → Shared → Prop} (ho : s.heap.get? r = some o) (hc : o.cls = .type T) (hd : o.data = .fields vs) (hn : ZO.contains T = false)
    (hQ : Q () s) : wpAny (model prog w) A (letOwnedTupleGo target (.ref r) v) Q E s := by
  have go : ∀ a, wpAny (model prog w) A (load r >>= fun o => match o.cls, o.data with
    | .type n, .fields vs => if (["enumerate", "zip", "dict_itemiterator", "dict_reverseitemiterator", "odict_iterator", "itertools.zip_longest", "itertools.pairwise"].contains n && vs[0]? == some (rawInt a)) = true then do
        rule "for.unpacks-the-owned-tuple"
        updateField r 0 .none
      else pure ()
    | _, _ => pure ()) Q E s := by
    intro a
    refine wpAny_bind (wpAny_load ho ?_)
    rw [hc, hd]
    show wpAny _ A (if _ then _ else _) Q E s
    rw [if_neg (by
      intro h
      rw [show (["enumerate", "zip", "dict_itemiterator", "dict_reverseitemiterator", "odict_iterator", "itertools.zip_longest", "itertools.pairwise"].contains T) = false from hn, Bool.false_and] at h
      cases h)]
    exact wpAny_pure hQ
  cases target with
  | Tuple => cases v <;> first | exact go _ | exact wpAny_pure hQ
  | List => cases v <;> first | exact go _ | exact wpAny_pure hQ
  | _ => exact wpAny_pure hQ
theorem Drives.walks {target : Expr} {it : Addr} {fp : List Addr} {P : Nat → Value → Prop} {St : Nat → Heap → Prop} {xs : List AV} (W : ∀ A : Around, A.handled = none → Walks prog w A it fp [it] xs.length P St)
    (hobj : ∀ k h, St k h → ∃ o T vs, h.get? it = some o ∧ o.cls = .type T ∧ o.data = .fields vs ∧ T ≠ "range" ∧ ZO.contains T = false) :
    Drives prog w X target (.imm xs) (.ref it) [it] (fun k μ h => k ≤ xs.length ∧ St k h ∧ (∀ i v, i < xs.length → P i v → ∃ x, xs[i]? = some x ∧ VR X μ h x v) ∧ (∀ b ∈ fp, b ≠ it → (∃ o, X.base.get? b = some o) ∨ (∃ o, h.get? b = some o ∧ yS o))) where
  frame := by
    rintro k μ μ' h h' ⟨hle, a, b, c⟩ hp hk hf hb
    have W0 := W {} rfl
    refine ⟨hle, W0.frame k h h' a fun x hx o e => ?_, fun i v hi hv => ?_, fun x hx hn => ?_⟩
    · by_cases hn : x = it
      · exact hk x (hn ▸ .head _) o e
      · rcases c x hx hn with ⟨o', h1⟩ | ⟨o', h1, h2⟩
        · obtain ⟨q1, q2⟩ := hb x o' h1
          rw [e] at q1; cases q1; exact q2
        · rw [e] at h1; cases h1; exact hf x o e h2
    · obtain ⟨x, e, r⟩ := b i v hi hv
      exact ⟨x, e, r.mono hp hf⟩
    · rcases c x hx hn with h1 | ⟨o', h1, h2⟩
      · exact .inl h1
      · exact .inr ⟨o', hf x o' h1 h2, h2⟩
  obj := by
    rintro k μ h ⟨_, a, _, _⟩ b hb
    simp at hb; subst hb
    obtain ⟨o, T, vs, h1, h2, h3, h4, _⟩ := hobj k h a
    exact ⟨o, T, vs, h1, h2, h3, h4⟩
  item := by
    rintro A μ hp s k x Q E E' Q' hh I hout ⟨hle, a, b, c⟩ hx hQ hQ'
    have hx' : xs[k]? = some x := by injection hx
    refine (W A hh).item k s Q E (y8 hx').1 a fun v h' tk hv st hk => hQ v _ ?_
    obtain ⟨o, T, vs, h1, h2, h3, h4, h5⟩ := hobj _ _ st
    obtain ⟨o0, T0, vs0, g1, g2, g3, g4, g5⟩ := hobj _ _ a
    have hf : ∀ b o, s.heap.get? b = some o → yS o → h'.get? b = some o := fun b o e f => hk b o (fun hb => by
      simp at hb; subst hb
      exact xw.notFixed ⟨o0, T0, vs0, g1, g2, g3, g4⟩ e f) e
    refine ji (s := { s with heap := h', toks := tk }) h1 h2 h3 h5 (hQ' v _ ?_ ⟨fun b o hb e => hk b o hb e, rfl, rfl⟩ ⟨(y8 hx').1, st, fun i u hi hu => ?_, fun y hy hn => ?_⟩)
    · obtain ⟨x', e, r⟩ := b k v (y8 hx').1 hv
      rw [hx'] at e; cases e
      exact r.mono (List.prefix_refl _) hf
    · obtain ⟨x', e, r⟩ := b i u hi hu
      exact ⟨x', e, r.mono (List.prefix_refl _) hf⟩
    · rcases c y hy hn with q | ⟨o', q1, q2⟩
      · exact .inl q
      · exact .inr ⟨o', hf y o' q1 q2, q2⟩
  done := by
    rintro A μ hp s k Q E hh I ⟨hle, a, b, c⟩ hx hQ
    have hx' : xs[k]? = none := by injection hx
    have : k = xs.length := Nat.le_antisymm hle (by simpa using hx')
    subst this
    exact (W A hh).done s Q E a fun h' tk hk => hQ _ ⟨fun b o hb e => hk b o hb e, rfl, rfl⟩
  self := by
    rintro A μ s k Q E hh ⟨hle, a, b, c⟩ hQ
    exact (W A hh).self k s Q E a hQ
theorem x8 {hp : Hp} {a k : Nat} {o : AO} {r : Option AV} (ho : hp[a]? = some o) (hx : Src.next? hp (.ref a) k = some r) : ∃ ys, o = .list ys ∧ ys[k]? = r := by
  have hx : (match hp[a]? with
    | some (.list ys) => some ys[k]?
    | _ => none) = some r := hx
  rw [ho] at hx
  cases o with
  | inst => exact nos hx
  | dict => exact nos hx
  | list ys => exact ⟨ys, rfl, Option.some.inj hx⟩
theorem Drives.ref {target : Expr} {it : Addr} {a : Nat} : Drives prog w X target (.ref a) (.ref it) [it] (fun k μ h => ∃ p, μ[a]? = some p ∧ h.IsListIter it p.1 k) where
  frame := by
    rintro k μ μ' h h' ⟨p, e, r⟩ ⟨t, rfl⟩ hk hf hb
    exact ⟨p, by rw [List.getElem?_append_left (y8 e).1]; exact e, r.at fun o e => hk it (.head _) o e⟩
  obj := by
    rintro k μ h ⟨p, e, o, ho, hc, hd⟩ b hb
    rw [xD hb]
    exact ⟨o, _, _, ho, hc, hd, by decide⟩
  item := by
    rintro A μ hp s k x Q E E' Q' hh I hout ⟨p, e, r⟩ hx hQ hQ'
    obtain ⟨ob, hob⟩ := I.obj e
    obtain ⟨ys, rfl, hx'⟩ := x8 hob hx
    obtain ⟨c, items, n, rfl, hl, z, rs⟩ := (I.rep _ _ _ e hob).list_
    obtain ⟨v, hv, rv⟩ := rs.get hx'
    refine wpAny_pyNext_list_item r (items := items) ⟨_, hl, rfl, _, rfl⟩ (x := v) (by rw [← Array.getElem?_toList]; exact hv) fun h' hit' hs' => hQ _ _ ?_
    obtain ⟨o, ho, hc, hd⟩ := id hit'
    have T : xw s.heap it := by obtain ⟨o, ho, hc, hd⟩ := r; exact ⟨o, _, _, ho, hc, hd, by decide⟩
    refine ji (s := { s with heap := h' }) ho hc hd (by decide) (hQ' _ _ ?_ ⟨fun b o hb e => hs'.extBut b o (fun h => hb (h ▸ .head _)) e, rfl, rfl⟩ ⟨_, e, hit'⟩)
    exact rv.mono (List.prefix_refl _) fun b o e f => hs'.extBut b o (fun h => T.notFixed (h ▸ e) f) e
  done := by
    rintro A μ hp s k Q E hh I ⟨p, e, r⟩ hx hQ
    obtain ⟨ob, hob⟩ := I.obj e
    obtain ⟨ys, rfl, hx'⟩ := x8 hob hx
    obtain ⟨c, items, n, rfl, hl, z, rs⟩ := (I.rep _ _ _ e hob).list_
    exact wpAny_pyNext_list_end hh r (items := items) ⟨_, hl, rfl, _, rfl⟩ (by rw [Array.getElem?_eq_none_iff, rs.size]; exact List.getElem?_eq_none_iff.mp hx') fun h' he' => hQ _ ⟨fun b o hb e => he' b o (fun h => hb (h ▸ .head _)) e, rfl, rfl⟩
  self := by
    rintro A μ s k Q E hh ⟨p, e, r⟩ hQ
    exact wpAny_pyIter_listiter r hQ
theorem Y9 {hp : Hp} {a k : Nat} {o : AO} {r : Option AV} (ho : hp[a]? = some o) (hx : Src.next? hp (.enum a) k = some r) : ∃ ys, o = .list ys ∧ ((ys[k]?).map fun x => AV.tup [.int k, x]) = r := by
  have hx : (match hp[a]? with
    | some (.list ys) => some ((ys[k]?).map fun x => AV.tup [.int k, x])
    | _ => none) = some r := hx
  rw [ho] at hx
  cases o with
  | inst => exact nos hx
  | dict => exact nos hx
  | list ys => exact ⟨ys, rfl, Option.some.inj hx⟩
theorem Drives.enum {elts : List Expr} {x1 : Nat} {pos : Pos} {e it : Addr} {a : Nat} (hne : e ≠ it) : Drives prog w X (.Tuple elts x1 pos) (.enum a) (.ref e) [e, it]
    (fun k μ h => ∃ p old, μ[a]? = some p ∧ h.IsListIter it p.1 k ∧ IsEnum h e it k old) where
  frame := by
    rintro k μ μ' h h' ⟨p, old, e, r, q⟩ ⟨t, rfl⟩ hk hf hb
    exact ⟨p, old, by rw [List.getElem?_append_left (y8 e).1]; exact e, r.at fun o e => hk it (by simp) o e, hk _ (by simp) _ q⟩
  obj := by
    rintro k μ h ⟨p, old, _, ⟨o, ho, hc, hd⟩, q⟩ b hb
    simp at hb
    rcases hb with rfl | rfl
    · exact ⟨_, _, _, q, rfl, rfl, by decide⟩
    · exact ⟨o, _, _, ho, hc, hd, by decide⟩
  item := by
    rintro A μ hp s k x Q E E' Q' hh I hout ⟨p, old, e0, r, q⟩ hx hQ hQ'
    obtain ⟨ob, hob⟩ := I.obj e0
    obtain ⟨ys, rfl, hx'⟩ := Y9 hob hx
    obtain ⟨c, items, n, rfl, hl, z, rs⟩ := (I.rep _ _ _ e0 hob).list_
    obtain ⟨y, hy, rfl⟩ := y6 hx'
    obtain ⟨v, hv, rv⟩ := rs.get hy
    refine wpAny_pyNext_enum_item q r (items := items) ⟨_, hl, rfl, _, rfl⟩ (x := v) (by rw [← Array.getElem?_toList]; exact hv) hne fun h' heo hit' ht hz hk => hQ _ _ ?_
    have T : xw s.heap it := by obtain ⟨o, ho, hc, hd⟩ := r; exact ⟨o, _, _, ho, hc, hd, by decide⟩
    have Te : xw s.heap e := ⟨_, _, _, q, rfl, rfl, by decide⟩
    refine wpAny_letOwnedTupleGo_enum (s := { s with heap := h', toks := s.toks + 1 }) heo fun h2 he2 hs2 => hQ' _ _ ?_ ⟨fun b o hb e => hs2.extBut b o (fun h => hb (by simp [h])) (hk b o (fun h => hb (by simp [h])) (fun h => hb (by simp [h])) e), rfl, rfl⟩ ⟨_, v, e0, hit'.extBut hs2.extBut (Ne.symm hne), he2⟩
    have nT : s.heap.objs.size ≠ e := Nat.ne_of_gt (Heap.lt_size q)
    refine .tup (items := #[.int k s.toks, v]) ⟨_, hs2.extBut _ _ nT ht, rfl, _, rfl⟩ (by rw [qy]; simp) (.cons (.int _ _) (.cons ?_ .nil))
    exact rv.mono (List.prefix_refl _) fun b o e f => hs2.extBut b o (fun h => Te.notFixed (h ▸ e) f) (hk b o (fun h => Te.notFixed (h ▸ e) f) (fun h => T.notFixed (h ▸ e) f) e)
  done := by
    rintro A μ hp s k Q E hh I ⟨p, old, e0, r, q⟩ hx hQ
    obtain ⟨ob, hob⟩ := I.obj e0
    obtain ⟨ys, rfl, hx'⟩ := Y9 hob hx
    obtain ⟨c, items, n, rfl, hl, z, rs⟩ := (I.rep _ _ _ e0 hob).list_
    exact wpAny_pyNext_enum_end hh q r (items := items) ⟨_, hl, rfl, _, rfl⟩ (by rw [Array.getElem?_eq_none_iff, rs.size]; exact List.getElem?_eq_none_iff.mp (Option.map_eq_none_iff.mp hx')) fun h' he' => hQ _ ⟨fun b o hb e => he' b o (fun h => hb (by simp [h])) e, rfl, rfl⟩
  self := by
    rintro A μ s k Q E hh ⟨p, old, e0, r, q⟩ hQ
    exact wpAny_pyIter_enum q hQ
theorem jE {μ : Mu} {hp : Hp} (I : Inv X μ hp s) {o : Obj} (T : xw (s.heap.push o) s.heap.objs.size) : Its X s.heap μ (s.heap.push o) [s.heap.objs.size] where
  new := fun b hb => by rw [xD hb]; exact qF _
  out := fun b hb h => by
    rw [xD hb] at h
    obtain ⟨o', e, _⟩ := I.mut h
    rw [qF] at e; exact nos e
  base := fun b hb => by
    rw [xD hb]
    cases e : X.base.get? s.heap.objs.size with
    | none => rfl
    | some o' => have := I.keep _ _ e; rw [qF] at this; exact nos this
  obj := fun b hb => by rw [xD hb]; exact T
theorem wm {μ : Mu} {hp : Hp} {v : AV} {c : Value} {src : Src} {n : Nat} {target : Expr} {Q : Value → Shared → Prop} (e : yk hp v = some (src, n)) (I : Inv X μ hp s) (r : VR X μ s.heap v c)
    (hQ : ∀ it its St s', Drives prog w X target src it its St → Its X s.heap μ s'.heap its → St 0 μ s'.heap → But [] s s' → Q it s') : wpAny (model prog w) A (pyIter c) Q E s := by
  have pk : ∀ o, But [] s { s with heap := s.heap.push o } := fun o => ⟨fun b ob _ e => Heap.get?_push_of_some _ e, rfl, rfl⟩
  have ff : ∀ (o : Obj) {x : AV} {v : Value}, VR X μ s.heap x v → VR X μ (s.heap.push o) x v := fun o x v r => r.mono (List.prefix_refl _) fun b ob e _ => Heap.get?_push_of_some _ e
  cases v with
  | ref a =>
    obtain ⟨p, h1, rfl⟩ := r.ref_
    obtain ⟨ob, hob⟩ := I.obj h1
    have e : (match hp[a]? with
      | some (.list xs) => some (Src.ref a, xs.length)
      | _ => none) = some (src, n) := e
    rw [hob] at e
    cases ob with
    | inst => exact nos e
    | dict => exact nos e
    | list xs =>
      obtain ⟨c, items, n, rfl, hl, z, rs⟩ := (I.rep _ _ _ h1 hob).list_
      cases e
      have hit : (s.heap.push { cls := .type "list_iterator", data := .fields #[.ref c, .int 0 0] }).IsListIter s.heap.objs.size c 0 := ⟨_, Heap.get?_push_size _ rfl, rfl, rfl⟩
      exact wpAny_pyIter_list ⟨_, hl, rfl, _, rfl⟩ (hQ _ _ _ _ .ref (jE I ⟨_, _, _, Heap.get?_push_size _ rfl, rfl, rfl, by decide⟩) ⟨_, h1, hit⟩ (pk _))
  | tup xs =>
    obtain ⟨c, items, rfl, ht, z, rs⟩ := r.tup_
    cases e
    have l := rs.size
    have hne : c ≠ s.heap.objs.size := by obtain ⟨o, ho, _⟩ := ht; exact Nat.ne_of_lt (Heap.lt_size ho)
    refine wpAny_pyIter_tuple ht (hQ _ _ _ _ (Drives.walks (target := target) (xs := xs) (fun A hh => l ▸ Walks.tuple hh s.heap.objs.size c hne items) (fun k h st => ?_)) (jE I ⟨_, _, _, Heap.get?_push_size _ rfl, rfl, rfl, by decide⟩) ⟨Nat.zero_le _, ⟨⟨_, Heap.get?_push_size _ rfl, rfl, rfl⟩, ht.push _⟩, fun i v hi hv => ?_, fun b hb hn => ?_⟩ (pk _))
    · obtain ⟨⟨o, ho, hc, hd⟩, _⟩ := st
      exact ⟨o, _, _, ho, hc, hd, by decide, by decide⟩
    · have hlt : i < xs.length := by rw [← l]; exact (Array.getElem?_eq_some_iff.mp hv).1
      obtain ⟨v', e1, e2⟩ := rs.get (y9 hlt)
      rw [Array.getElem?_toList, hv] at e1; cases e1
      exact ⟨_, y9 hlt, ff _ e2⟩
    · rcases List.mem_cons.mp hb with rfl | hb
      · exact absurd rfl hn
      · rw [xD hb]
        obtain ⟨o, ho, hc, m, hd⟩ := ht
        exact .inr ⟨o, Heap.get?_push_of_some _ ho, .inl ⟨hc, _, _, hd⟩⟩
  | range a b =>
    obtain ⟨c, t, u, v', rfl, h1, h2, h3⟩ := r.range_
    cases e
    have sz := ZL a b
    have hs := XY h2 h3
    have ln := QO a b
    refine wpAny_pyIter_range h1 hs (hQ _ _ _ _ (Drives.walks (target := target) (xs := qe a b) (fun A hh => Walks.range hh s.heap.objs.size a 1 (qe a b).length) (fun k h st => ?_)) (jE I ⟨_, _, _, Heap.get?_push_size _ rfl, rfl, rfl, by decide⟩) ⟨Nat.zero_le _, ?_, fun i v hi hv => ?_, fun b hb hn => ?_⟩ (pk _))
    · exact ⟨_, _, _, st, rfl, rfl, by decide, by decide⟩
    · rw [ln, sz]
      have := Heap.get?_push_size s.heap (o := { cls := .type "range_iterator", data := .fields #[rawInt a, rawInt ((b - a).toNat : Int), rawInt 1] }) rfl
      simpa using this
    · obtain ⟨t, rfl⟩ := hv
      refine ⟨.int (a + (i : Int)), ?_, by simpa using VR.int _ _⟩
      rw [ln] at hi
      simp [qe, hi]
    · exact absurd (xD hb) hn
  | str x =>
    obtain ⟨t, rfl, z⟩ := r.str_
    cases e
    have ln : (wr x).length = x.cps.size := by simp [wr]
    have sg : ∀ (h : Heap) (i : Nat) (v : Value), SignAt x i v → ∃ y, (wr x)[i]? = some y ∧ VR X μ h y v := by
      rintro h i v ⟨c, u, h1, rfl⟩
      refine ⟨.str ⟨#[c]⟩, ?_, .str _ (by rw [qy]; simp [Str.length])⟩
      simp [wr, h1]
    cases ha : x.cps.all (· < 128)
    · refine wpAny_pyIter_wide ha (hQ _ _ _ _ (Drives.walks (target := target) (xs := wr x) (fun A hh => ln ▸ Walks.strWide hh s.heap.objs.size x t) (fun k h st => ?_)) (jE I ⟨_, _, _, Heap.get?_push_size _ rfl, rfl, rfl, by decide⟩)
        ⟨Nat.zero_le _, ⟨_, Heap.get?_push_size _ rfl, rfl, rfl⟩, fun i v _ => sg _ i v, fun b hb hn => ?_⟩ (pk _))
      · obtain ⟨o, ho, hc, hd⟩ := st
        exact ⟨o, _, _, ho, hc, hd, by decide, by decide⟩
      · exact absurd (xD hb) hn
    · refine wpAny_pyIter_ascii ha (hQ _ _ _ _ (Drives.walks (target := target) (xs := wr x) (fun A hh => ln ▸ Walks.strAscii hh s.heap.objs.size x t) (fun k h st => ?_)) (jE I ⟨_, _, _, Heap.get?_push_size _ rfl, rfl, rfl, by decide⟩)
        ⟨Nat.zero_le _, ⟨_, Heap.get?_push_size _ rfl, rfl, rfl⟩, fun i v _ => sg _ i v, fun b hb hn => ?_⟩ (pk _))
      · obtain ⟨o, ho, hc, hd⟩ := st
        exact ⟨o, _, _, ho, hc, hd, by decide, by decide⟩
      · exact absurd (xD hb) hn
  | _ => exact nos e
end
section
variable {prog : Program} {w : World} {X : Cx} {A : Around} {E : Value → Shared → Prop} {s s' : Shared} {sc : Sc} {env : Env} {fr fr' : AFr} {μ μ' : Mu} {hp : Hp} {cb : Bool} {l : List Env}
theorem qZ {x : Str} {i : Nat} (h : sc.isOwn x = some i) : (sc.kind x = some .local ∨ sc.kind x = some .cell) ∧ sc.slot x = some i := by
  cases q : sc.kind x with
  | none => unfold Sc.isOwn at h; rw [q] at h; exact nos h
  | some k =>
    unfold Sc.isOwn at h
    rw [q] at h
    cases k with
    | «local» => exact ⟨.inl rfl, h⟩
    | cell => exact ⟨.inr rfl, h⟩
    | _ => exact nos h
theorem Le.fixOwn (V : EnvR X l sc env fr μ s.heap) (I : Inv X μ hp s) (L : Le (ZP cb env) μ s μ' s') : ∀ b o, s.heap.get? b = some o → yS o → s'.heap.get? b = some o :=
  L.fixed I fun b o h e => yO V b o (xG h) e
theorem j3 {i : Nat} {is : List Nat} {vs : List AV} {fr fr' : AFr} (e : yb (i :: is) vs fr = some fr') : ∃ v ws, vs = v :: ws ∧ i < fr.length ∧ yb is ws (fr.set i (some v)) = some fr' := by
  cases vs with
  | nil => exact nos e
  | cons v ws =>
    obtain ⟨h, e⟩ := X1 (show (if i < fr.length then yb is ws (fr.set i (some v)) else none) = some fr' from e)
    exact ⟨v, ws, rfl, h, e⟩
theorem jl {e : Expr} {i : Nat} (h : xe sc e = some i) : ∃ x p, e = .Name x p ∧ sc.isOwn x = some i := by
  cases e with
  | Name x p => exact ⟨x, p, rfl, h⟩
  | _ => exact nos h
theorem jj {Q : Unit → Shared → Prop} {es : List Expr} : ∀ {is : List Nat} {vs : List AV} {vs' : List Value} {fr : AFr} {s : Shared}, ya (xe sc) es = some is → yb is vs fr = some fr' →
    (∀ x p, Expr.Name x p ∈ es → sc.kind x = some .cell → cb = true) → Inv X μ hp s → EnvR X l sc env fr μ s.heap → VRs X μ s.heap vs vs' →
    (∀ s', Le (ZP cb env) μ s μ s' → Inv X μ hp s' → EnvR X l sc env fr' μ s'.heap → Q () s') → wpAny (model prog w) A (assignInOrder ((assignEach es env).map (·.2)) vs') Q E s := by
  induction es with
  | nil =>
    intro is vs vs' fr s e1 e2 hc I V r k
    cases e1
    cases vs with
    | cons => exact nos e2
    | nil =>
    cases e2
    rw [r.nil_]
    show wpAny _ _ (pure ()) _ _ _
    exact wpAny_pure (k s .refl I V)
  | cons e es ih =>
    intro is vs vs' fr s e1 e2 hc I V r k
    obtain ⟨i, is', h1, h2, rfl⟩ := wB e1
    obtain ⟨v, ws, rfl, hi, e3⟩ := j3 e2
    obtain ⟨u, us, rfl, rv, rs⟩ := r.cons_
    obtain ⟨x, p, rfl, ho⟩ := jl h1
    obtain ⟨hk, hs⟩ := qZ ho
    refine PyProof.Rows.assignInOrder_cons (ts := (assignEach es env).map (·.2)) ?_
    show wpAny _ _ (assign (.Name x p) env _) _ _ _
    rw [PySem.assign_Name]
    refine wpAny_bind (wpAny_standAt (qH I V hk (hc x p (.head _)) hs hi rv fun s1 L1 I1 V1 => ?_))
    exact ih h2 e3 (fun x p h => hc x p (.tail _ h)) I1 V1 (rs.mono (List.prefix_refl _) (L1.fixOwn V I)) fun s2 L2 I2 V2 => k s2 (L1.trans L2) I2 V2
theorem wJ {es : List Expr} : ∀ {is : List Nat}, ya (xe sc) es = some is → (assignEach es env).length = is.length ∧ (assignEach es env).findIdx? (·.1) = none := by
  induction es with
  | nil => intro is h; cases h; exact ⟨rfl, rfl⟩
  | cons e es ih =>
    intro is h
    obtain ⟨i, is', h1, h2, rfl⟩ := wB h
    obtain ⟨x, p, rfl, ho⟩ := jl h1
    obtain ⟨a, b⟩ := ih h2
    refine ⟨congrArg (· + 1) a, ?_⟩
    show List.findIdx? (·.1) ((false, assign (.Name x p) env) :: assignEach es env) = none
    rw [List.findIdx?_cons, b]; rfl
theorem ZJ {is : List Nat} : ∀ {vs : List AV} {fr fr' : AFr}, yb is vs fr = some fr' → is.length = vs.length := by
  induction is with
  | nil =>
    intro vs fr fr' h
    cases vs with
    | nil => rfl
    | cons => exact nos h
  | cons i is ih =>
    intro vs fr fr' h
    obtain ⟨v, ws, rfl, hi, e⟩ := j3 h
    exact congrArg (· + 1) (ih e)
theorem xO {target : Expr} {t : NTgt} {v : AV} {v' : Value} {Q : Unit → Shared → Prop} (ht : xY sc target = some t) (hb : t.bind v fr = some fr') (hh : A.handled = none)
    (hc : cb = false → ∀ x p, (target = .Name x p ∨ ∃ es k q, target = .Tuple es k q ∧ Expr.Name x p ∈ es) → sc.kind x = some .local) (I : Inv X μ hp s) (V : EnvR X l sc env fr μ s.heap) (r : VR X μ s.heap v v')
    (k : ∀ s', Le (ZP cb env) μ s μ s' → Inv X μ hp s' → EnvR X l sc env fr' μ s'.heap → Q () s') : wpAny (model prog w) A (assign target env v') Q E s := by
  have hc' : ∀ x p, (target = .Name x p ∨ ∃ es k q, target = .Tuple es k q ∧ Expr.Name x p ∈ es) → sc.kind x = some .cell → cb = true := fun x p h hk => by
    cases cb with
    | true => rfl
    | false => rw [hc rfl x p h] at hk; cases hk
  cases target with
  | Name x p =>
    obtain ⟨i, hi, rfl⟩ := y6 ht
    obtain ⟨hk, hs⟩ := qZ hi
    obtain ⟨u, ws, e, hl, e2⟩ := j3 hb
    cases e
    cases e2
    rw [PySem.assign_Name]
    exact wpAny_bind (wpAny_standAt (qH I V hk (hc' x p (.inl rfl)) hs hl r k))
  | Tuple es kk p =>
    have ht : (match ya (xe sc) es with
      | some is => if is.length ≤ 10 ∧ is.Nodup then some (NTgt.many is) else none
      | none => none) = some t := ht
    cases hi : ya (xe sc) es with
    | none => rw [hi] at ht; exact nos ht
    | some is =>
      rw [hi] at ht
      obtain ⟨_, rfl⟩ := zY ht
      cases v with
      | tup xs =>
        have hb : yb is xs fr = some fr' := hb
        obtain ⟨c, items, rfl, h1, z, rs⟩ := r.tup_
        obtain ⟨l1, l2⟩ := wJ (env := env) hi
        have l3 := ZJ hb
        refine wpAny_assign_Tuple hh h1 (by rw [rs.size, l1, l3]) l2 fun h' he => ?_
        have kp : ∀ b o, s.heap.get? b = some o → h'.get? b = some o := fun b o e => he b o (Nat.ne_of_lt (Heap.lt_size e)) e
        have L0 : Le (ZP cb env) μ s μ { s with heap := h' } := .ofKeep kp
        exact jj hi hb (fun x p h => hc' x p (.inr ⟨_, _, _, rfl, h⟩)) (I.grow (t := s.toks) kp) (V.le I (.ofKeep kp)) (rs.mono (List.prefix_refl _) fun b o e _ => kp b o e) fun s2 L2 I2 V2 => k s2 (L0.trans L2) I2 V2
      | _ => exact nos hb
  | _ => exact nos ht
end
theorem wp (env : Env) : ∀ (names : List (Str × NameKind)) (cs : List (Str × Addr)), (∀ p ∈ names, p.2 = .free → ∃ c, env.cells.lookup p.1 = some c) → (∀ x c, cs.lookup x = some c → env.cells.lookup x = some c) →
    ∃ cl, (forIn names cs fun (p : Str × NameKind) (r : List (Str × Addr)) => if (p.2 == .free) = true then do let a ← cellOf env p.1; pure (ForInStep.yield ((p.1, a) :: r)) else pure (ForInStep.yield r) : Sem (List (Str × Addr))) = pure cl ∧
      (∀ x c, cl.lookup x = some c → env.cells.lookup x = some c) ∧ (∀ p ∈ names, p.2 = .free → ∃ c, cl.lookup p.1 = some c) ∧ (∀ x, (∃ c, cs.lookup x = some c) → ∃ c, cl.lookup x = some c)
  | [], cs, _, h => ⟨cs, by rw [List.forIn_nil], h, fun _ h => (nomatch h), fun _ h => h⟩
  | (n, k) :: r, cs, h1, h2 => by
    rw [List.forIn_cons]
    by_cases hk : k = .free
    · subst hk
      obtain ⟨c, hc⟩ := h1 (n, .free) (.head _) rfl
      have hn : ∀ x c', List.lookup x ((n, c) :: cs) = some c' → env.cells.lookup x = some c' := fun x c' h => by
        rw [List.lookup_cons] at h
        split at h
        · rename_i e; cases h; rw [eq_of_beq e]; exact hc
        · exact h2 x c' h
      obtain ⟨cl, e, a, b, d⟩ := wp env r ((n, c) :: cs) (fun p hp => h1 p (.tail _ hp)) hn
      refine ⟨cl, ?_, a, fun p hp hf => ?_, fun x ⟨c', hx⟩ => d x ?_⟩
      · rw [← e]
        have : cellOf env n = pure c := by unfold cellOf; rw [hc]
        simp [this]
      · cases hp with
        | head => exact d n ⟨c, by simp⟩
        | tail _ hp => exact b p hp hf
      · rw [List.lookup_cons]
        split
        · exact ⟨_, rfl⟩
        · exact ⟨c', hx⟩
    · obtain ⟨cl, e, a, b, d⟩ := wp env r cs (fun p hp => h1 p (.tail _ hp)) h2
      refine ⟨cl, ?_, a, fun p hp hf => ?_, d⟩
      · rw [← e]
        have : (k == NameKind.free) = false := by simpa using hk
        simp [this]
      · cases hp with
        | head => exact absurd hf hk
        | tail _ hp => exact b p hp hf
theorem Zm {scope : Scope} {env : Env} (h : ∀ p ∈ scope.names, p.2 = .free → ∃ c, env.cells.lookup p.1 = some c) :
    ∃ cl, closureFor scope env = pure cl ∧ (∀ x c, cl.lookup x = some c → env.cells.lookup x = some c) ∧ (∀ p ∈ scope.names, p.2 = .free → ∃ c, cl.lookup p.1 = some c) := by
  obtain ⟨cl, e, a, b, _⟩ := wp env scope.names [] h (fun _ _ h => by cases h)
  refine ⟨cl, ?_, a, b⟩
  rw [← bind_pure (pure cl), ← e]
  simp only [closureFor]
theorem ZX {s : Scope} {env : Env} (he : env.scope.kind = .function) (x : Str) : (relabel s env).names.lookup x = (match s.names.lookup x with
    | some .free => if env.kindOf x == some .cell then some .cell else some .free
    | o => o) := by
  unfold relabel
  dsimp only
  induction s.names with
  | nil => rfl
  | cons p r ih =>
    obtain ⟨n, k⟩ := p
    rw [List.map_cons]
    by_cases hx : x = n
    · subst hx
      cases k <;> by_cases hc : env.kindOf x = some .cell <;> simp [he, hc]
    · have hb : (x == n) = false := by simpa using hx
      have e1 : List.lookup x ((n, k) :: r) = List.lookup x r := by rw [List.lookup_cons, hb]
      rw [e1, ← ih]
      dsimp only
      split
      · rw [List.lookup_cons, hb]
      · rw [List.lookup_cons, hb]
theorem Zb {x : Str} : ∀ {ys : List Str} {k i : Nat}, jI x ys k = some i → k ≤ i ∧ i < k + ys.length ∧ ys[i - k]? = some x
  | [], _, _, h => by cases h
  | y :: ys, k, i, h => by
    unfold jI at h
    split at h
    · rename_i e
      cases h
      exact ⟨Nat.le_refl _, by simp, by simpa using eq_of_beq e⟩
    · obtain ⟨a, b, c⟩ := Zb h
      refine ⟨by lia, by simp; lia, ?_⟩
      have : i - k = (i - (k + 1)) + 1 := by lia
      rw [this, List.getElem?_cons_succ]; exact c
section
variable {prog : Program} {w : World} {X : Cx} {A : Around} {E : Value → Shared → Prop} {s s' : Shared} {sc : Sc} {env : Env} {fr fr' : AFr} {μ μ' : Mu} {hp : Hp} {cb : Bool} {l : List Env}
theorem yx {sp : Scope} (h : qG sc sp = true) : sp.kind = .function ∧ (∀ p ∈ sp.names, p.2 = .local ∨ (p.2 = .free ∧ (sc.kind p.1 = some .cell ∨ sc.kind p.1 = some .free) ∧ ∃ i, sc.slot p.1 = some i) ∨ p.2 = .globalImplicit) ∧ (sp.names.map (·.1)).Nodup := by
  unfold qG at h
  simp only [Bool.and_eq_true, decide_eq_true_eq, List.all_eq_true, Bool.or_eq_true, beq_iff_eq, Option.isSome_iff_exists] at h
  obtain ⟨⟨a, b⟩, c⟩ := h
  refine ⟨a, fun p hp => ?_, c⟩
  rcases b p hp with (h | ⟨⟨h1, h2⟩, h3⟩) | h
  · exact .inl h
  · exact .inr (.inl ⟨h1, h2, h3⟩)
  · exact .inr (.inr h)
theorem qk {α β : Type} [BEq α] [LawfulBEq α] {x : α} {b : β} : ∀ {l : List (α × β)}, l.lookup x = some b → (x, b) ∈ l
  | [], h => by cases h
  | (y, c) :: r, h => by
    rw [List.lookup_cons] at h
    split at h
    · rename_i e; cases h; rw [eq_of_beq e]; exact .head _
    · exact .tail _ (qk h)
theorem ZU {α β : Type} [BEq α] [LawfulBEq α] {x : α} {b : β} : ∀ {l : List (α × β)}, (l.map (·.1)).Nodup → (x, b) ∈ l → l.lookup x = some b
  | [], _, h => by cases h
  | (y, c) :: r, nd, h => by
    rw [List.map_cons, List.nodup_cons] at nd
    rw [List.lookup_cons]
    cases h with
    | head => simp
    | tail _ h =>
      have : (x == y) = false := by
        simp only [beq_eq_false_iff_ne, ne_eq]
        rintro rfl
        exact nd.1 (List.mem_map.mpr ⟨_, h, rfl⟩)
      rw [this]; exact ZU nd.2 h
theorem Wg {sp : Scope} {cl : List (Str × Addr)} {C : Addr} (ok : qG sc sp = true) (V : EnvR X l sc env fr μ s.heap) (hcl : ∀ x c, cl.lookup x = some c → env.cells.lookup x = some c)
    (hcl' : ∀ p ∈ sp.names, p.2 = .free → ∃ c, cl.lookup p.1 = some c) (ns : s.heap.Ns C (fun _ => none)) (hC : C ∉ zb μ) (hB : X.base.get? C = none) :
    EnvR X l (sc.inner sp) (compEnvC sp cl C env) (fr ++ List.replicate (zj sp).length none) μ s.heap := by
  obtain ⟨ok1, ok2, ok3⟩ := yx ok
  have kd : ∀ x, (sc.inner sp).kind x = (compEnvC sp cl C env).kindOf x := fun x => by
    show (match sp.names.lookup x with
      | some .free => if sc.kind x == some .cell then some .cell else some .free
      | o => o) = (relabel sp env).names.lookup x
    rw [ZX V.fn, V.kind]
  have locK : ∀ x, (sc.inner sp).kind x = some .local → sp.names.lookup x = some .local := fun x h => by
    have h : (match sp.names.lookup x with
      | some .free => if sc.kind x == some .cell then some .cell else some .free
      | o => o) = some .local := h
    cases q : sp.names.lookup x with
    | none => rw [q] at h; exact nos h
    | some k =>
      rw [q] at h
      cases k with
      | «local» => rfl
      | free =>
        dsimp only at h
        by_cases z : (sc.kind x == some .cell) = true
        · rw [if_pos z] at h; cases h
        · rw [if_neg z] at h; cases h
      | _ => cases h
  have celK : ∀ x, ((sc.inner sp).kind x = some .cell ∨ (sc.inner sp).kind x = some .free) → sp.names.lookup x = some .free := fun x h => by
    have h : (match sp.names.lookup x with
      | some .free => if sc.kind x == some .cell then some .cell else some .free
      | o => o) = some .cell ∨ (match sp.names.lookup x with
      | some .free => if sc.kind x == some .cell then some .cell else some .free
      | o => o) = some .free := h
    cases q : sp.names.lookup x with
    | none => rw [q] at h; rcases h with h | h <;> exact nos h
    | some k =>
      cases k with
      | free => rfl
      | cell => rcases ok2 _ (qk q) with h | ⟨h, _⟩ | h <;> cases h
      | _ => rw [q] at h; rcases h with h | h <;> cases h
  have slotL : ∀ x i, sp.names.lookup x = some .local → (sc.inner sp).slot x = some i → sc.width ≤ i ∧ i < sc.width + (zj sp).length ∧ (zj sp)[i - sc.width]? = some x := fun x i e h => by
    have h : (match sp.names.lookup x with
      | some .local => jI x (zj sp) sc.width
      | some .free => (match sc.kind x with
        | some .cell | some .free => sc.slot x
        | _ => none)
      | _ => none) = some i := h
    rw [e] at h
    exact Zb h
  have slotF : ∀ x i, sp.names.lookup x = some .free → (sc.inner sp).slot x = some i → (sc.kind x = some .cell ∨ sc.kind x = some .free) ∧ sc.slot x = some i := fun x i e h => by
    have h : (match sp.names.lookup x with
      | some .local => jI x (zj sp) sc.width
      | some .free => (match sc.kind x with
        | some .cell | some .free => sc.slot x
        | _ => none)
      | _ => none) = some i := h
    rw [e] at h
    dsimp only at h
    cases q : sc.kind x with
    | none => rw [q] at h; exact nos h
    | some k =>
      rw [q] at h
      cases k with
      | cell => exact ⟨.inl rfl, h⟩
      | free => exact ⟨.inr rfl, h⟩
      | _ => exact nos h
  have slotK : ∀ x i, (sc.inner sp).slot x = some i → sp.names.lookup x = some .local ∨ sp.names.lookup x = some .free := fun x i h => by
    have h : (match sp.names.lookup x with
      | some .local => jI x (zj sp) sc.width
      | some .free => (match sc.kind x with
        | some .cell | some .free => sc.slot x
        | _ => none)
      | _ => none) = some i := h
    cases q : sp.names.lookup x with
    | none => rw [q] at h; exact nos h
    | some k =>
      rw [q] at h
      cases k with
      | «local» => exact .inl rfl
      | free => exact .inr rfl
      | _ => exact nos h
  refine ⟨ok1, V.glob, V.bltn, kd, ⟨_, ns, fun x i v h1 h2 h3 => ?_⟩, fun x i h1 h2 => ?_, hC, hB, fun x c hc => V.ncel x c (hcl x c hc), fun x c hc => V.bcel x c (hcl x c hc), fun x y c h1 h2 => V.apart x y c (hcl _ _ h1) (hcl _ _ h2), fun x y i h1 h2 => ?_, ?_, fun x i h => ?_, V.frs⟩
  · obtain ⟨a, b, _⟩ := slotL x i (locK x h1) h2
    rw [List.getElem?_append_right (by rw [V.wid]; exact a), List.getElem?_replicate] at h3
    split at h3 <;> cases h3
  · have hf := celK x h1
    obtain ⟨k1, k2⟩ := slotF x i hf h2
    obtain ⟨c, cv, q1, q2, q3⟩ := V.cel x i k1 k2
    obtain ⟨c', hc'⟩ := hcl' _ (qk hf) rfl
    have := hcl _ _ hc'
    dsimp only at this hc'
    rw [q1] at this; cases this
    refine ⟨c, cv, hc', q2, fun v hv => q3 v ?_⟩
    rwa [List.getElem?_append_left (by rw [V.wid]; exact V.slt x i k2)] at hv
  · rcases slotK x i h1 with e1 | e1 <;> rcases slotK y i h2 with e2 | e2
    · obtain ⟨_, _, c1⟩ := slotL x i e1 h1
      obtain ⟨_, _, c2⟩ := slotL y i e2 h2
      rw [c1] at c2; cases c2; rfl
    · obtain ⟨a1, _⟩ := slotL x i e1 h1
      have := V.slt y i (slotF y i e2 h2).2
      lia
    · obtain ⟨a1, _⟩ := slotL y i e2 h2
      have := V.slt x i (slotF x i e1 h1).2
      lia
    · exact V.inj x y i (slotF x i e1 h1).2 (slotF y i e2 h2).2
  · show _ = sc.width + (zj sp).length
    rw [zP, List.length_replicate, V.wid]
  · show i < sc.width + (zj sp).length
    rcases slotK x i h with e | e
    · exact (slotL x i e h).2.1
    · have := V.slt x i (slotF x i e h).2; lia
end
section
variable {prog : Program} {w : World} {A : Around} {E : Value → Shared → Prop} {s : Shared}
theorem Wq {elt target iter : Expr} {ifs : List Expr} {scope : Scope} {pos : Pos} {it acc : Value} {env : Env} {R : Result → Shared → Prop} (I : Nat → Shared → Prop)
    (turn : ∀ n s, I n s → wpAny (model prog w) A (pyNext it) (fun r s₁ => match r with
      | none => R (.ok .next) s₁
      | some v => wpAny (model prog w) A (letOwnedTupleGo target it v) (fun _ s₀ => wpAny (model prog w) A (assign target env v) (fun _ s₂ =>
          wpAny (model prog w) A (forIn ifs true fun c r => if r = true then do let ok ← isTrue c env (eval c env); pure (ForInStep.yield ok) else pure (ForInStep.yield r)) (fun ok s₃ => if ok = true then wpAny (model prog w) A (eval elt env) (fun x s₄ =>
            wpAny (model prog w) A (call (.builtin "list.append") [acc, x]) (fun _ s₅ => ∃ m, m < n ∧ I m s₅) (notedBy (model prog w) A env fun e s' => R (.error e) s') s₄) (notedBy (model prog w) A env fun e s' => R (.error e) s') s₃
            else ∃ m, m < n ∧ I m s₃) (notedBy (model prog w) A env fun e s' => R (.error e) s') s₂)
          (notedBy (model prog w) A env fun e s' => R (.error e) s') s₀) (notedBy (model prog w) A env fun e s' => R (.error e) s') s₁) (notedBy (model prog w) A env fun e s' => R (.error e) s') s)
    (n : Nat) (h : I n s) : codeAny (model prog w) A (.compLoop (.ListComp elt [⟨target, iter, ifs, 0⟩] scope pos) 0 it acc env) R s := by
  refine codeAny_loop rfl I (fun n s hI => ?_) n h
  show wpAny _ A ((compTurn (.ListComp elt [⟨target, iter, ifs, 0⟩] scope pos) 0 it acc env).onRaise (fun x => do noteFrame x env; theTreesLotGoes x)) _ _ s
  refine wpAny_noted ?_
  rw [compTurn_list]
  refine wpAny_bind (wpAny_standAt (wpAny_bind (wpAny_mono (turn n s hI) (fun r s₁ h₁ => ?_) fun _ _ h' => h')))
  cases r with
  | none => exact wpAny_pure h₁
  | some v =>
    refine wpAny_bind (wpAny_mono h₁ (fun _ s₀ h₀' => ?_) fun _ _ h' => h')
    refine wpAny_bind (wpAny_mono h₀' (fun _ s₂ h₂ => ?_) fun _ _ h' => h')
    refine wpAny_bind (wpAny_mono h₂ (fun okb s₃ h₃ => ?_) fun _ _ h' => h')
    cases okb with
    | false => exact wpAny_pure ⟨rfl, h₃⟩
    | true => exact wpAny_bind (wpAny_bind (wpAny_mono h₃ (fun x s₄ h₄ => wpAny_bind (wpAny_mono h₄ (fun _ s₅ h₅ => wpAny_pure (wpAny_pure ⟨rfl, h₅⟩)) fun _ _ h' => h')) fun _ _ h' => h'))
theorem ja {env : Env} {Q : Bool → Shared → Prop} (h : Q false s) : ∀ (ifs : List Expr),
    wpAny (model prog w) A (forIn ifs false fun c r => if r = true then do let ok ← isTrue c env (eval c env); pure (ForInStep.yield ok) else pure (ForInStep.yield r)) Q E s
  | [] => wpAny_pure h
  | c :: r => by
    rw [List.forIn_cons]
    exact wpAny_bind (wpAny_pure (ja h r))
end
theorem Out.bind0_ok_of {α β : Type} {o : Out α} {k : α → Hp → Out β} {b : β} {h' : Hp} (e : o.bind0 k = .ok b h') : ∃ a h, o = .ok a h ∧ k a h = .ok b h' := by
  cases o with
  | ok a h => exact ⟨a, h, rfl, e⟩
  | _ => exact nok e
section
variable {prog : Program} {w : World} {X : Cx} {G : GTab} {n : Nat} {cf : CF} {sc : Sc} {env : Env}
theorem PG.okT {l : List Env} {μ : Mu} {s : Shared} {o : Out Bool} {b : Bool} {hp' : Hp} {Q : Bool → Shared → Prop} {E : Value → Shared → Prop} (e : o = .ok b hp') (h : ∀ μ' s', Le noS μ s μ' s' → Inv X μ' hp' s' → Q b s') : PT X l μ s o Q E := by
  rw [e]; exact fun b' μ' s' L I r => r ▸ h μ' s' L I
theorem PG.okE {l : List Env} {μ : Mu} {s : Shared} {o : Out AV} {v : AV} {hp' : Hp} {Q : Value → Shared → Prop} {E : Value → Shared → Prop} (e : o = .ok v hp') (h : PE X μ s v hp' Q) : PO X l μ s o Q E := by
  rw [e]; exact h
theorem qw : ∀ {ifs : List Expr} {ts : List XT}, SndTs prog w X n cf sc env (ifs.map fun c => isTrue c env (eval c env)) ts →
    qu prog w X n cf sc env (forIn ifs true fun c r => if r = true then do let ok ← isTrue c env (eval c env); pure (ForInStep.yield ok) else pure (ForInStep.yield r)) (zT .And ts)
  | [], ts, h => by
    cases h
    exact fun _ I _ k => wpAny_pure (k _ _ _ .refl I rfl)
  | c :: ifs, ts, h => by
    intro R I V k
    cases h with | cons ht h => ?_
    rw [List.forIn_cons]
    refine wpAny_bind (wpAny_bind (ht R I V (k.bind fun b1 b1' h1 μ1 s1 L1 I1 e k => wpAny_pure ?_)))
    cases e
    cases b1 with
    | false => exact ja (k _ μ1 s1 .refl I1 rfl) _
    | true => exact qw h R I1 (V.le I L1) k
theorem Le.fresh1 {S : Addr → Prop} {μ μ' μ'' : Mu} {s s' s'' : Shared} (L : Le noS μ s μ' s') (L2 : Le S μ' s' μ'' s'') (h : ∀ b, S b → s.heap.get? b = none) : Le noS μ s μ'' s'' :=
  ((L.weak fun _ h => h.elim).trans L2).drop fun b o hb e => by rw [h b hb] at e; exact nos e
theorem Inv.adopt {μ : Mu} {hp : Hp} {s : Shared} (I : Inv X μ hp s) {D : Addr} {items : Array Value} {m : Nat} {xs : List AV} (hD : D ∉ zb μ) (hB : X.base.get? D = none) (hl : IsL s.heap D items m) (z : xs.length ≤ small) (r : VRs X μ s.heap xs items.toList) :
    Inv X (μ ++ [(D, none)]) (hp ++ [.list xs]) s := by
  have ea : zb (μ ++ [(D, none)]) = zb μ ++ [D] := by rw [xv]; simp [zb]
  have mn : ∀ {o : AO} {p : Addr × Option Addr}, OR X μ s.heap o p → OR X (μ ++ [(D, none)]) s.heap o p := fun r => r.mono (List.prefix_append _ _) (fun _ _ e _ => e) fun _ _ _ e => e
  refine ⟨by simp [I.len], ?_, fun a ha => ?_, fun i q x hi hx => ?_, I.keep, I.gens, I.os⟩
  · rw [ea, List.nodup_append]
    refine ⟨I.nodup, by simp, fun a ha b hb e => ?_⟩
    simp at hb; subst hb; subst e; exact hD ha
  · rw [ea, List.mem_append] at ha
    rcases ha with ha | ha
    · exact I.above a ha
    · simp at ha; subst ha; exact hB
  · by_cases hlt : i < μ.length
    · rw [List.getElem?_append_left hlt] at hi
      rw [List.getElem?_append_left (by rw [← I.len]; exact hlt)] at hx
      exact mn (I.rep i q x hi hx)
    · have e1 : i = μ.length := by
        have := (y8 hi).1
        simp at this; lia
      subst e1
      rw [List.getElem?_append_right (Nat.le_refl _)] at hi
      rw [I.len, List.getElem?_append_right (Nat.le_refl _)] at hx
      simp at hi hx
      subst hi hx
      exact .list hl z (r.mono (List.prefix_append _ _) fun _ _ e _ => e)
theorem XJ {sp : Scope} {target : Expr} (h : xF sp target = true) : ∀ x p, (target = .Name x p ∨ ∃ es k q, target = .Tuple es k q ∧ Expr.Name x p ∈ es) → (sc.inner sp).kind x = some .local := by
  have go : ∀ x, sp.names.lookup x = some .local → (sc.inner sp).kind x = some .local := fun x e => by
    show (match sp.names.lookup x with
      | some .free => if sc.kind x == some .cell then some .cell else some .free
      | o => o) = some .local
    rw [e]
  rintro x p (rfl | ⟨es, k, q, rfl, hm⟩)
  · exact go x (by simpa [xF] using h)
  · simp only [xF, List.all_eq_true] at h
    exact go x (by simpa using h _ hm)
structure CS (X : Cx) (l : List Env) (sc : Sc) (env : Env) (μ₁ : Mu) (s₁ : Shared) (Dd : Addr) (its : List Addr) (St : Nat → Mu → Heap → Prop) (k : Nat) (acc : List AV) (fr : AFr) (hp : Hp) (μ : Mu) (items : Array Value) (s : Shared) : Prop where
  I : Inv X μ hp s
  L : Le noS μ₁ s₁ μ s
  V : EnvR X l sc env fr μ s.heap
  ac : s.heap.PlainList Dd items
  ra : VRs X μ s.heap acc items.toList
  n : Dd ∉ zb μ
  T : Its X s₁.heap μ s.heap its
  st : St k μ s.heap
section
variable {l : List Env} {μ₁ μ μb : Mu} {s₁ s sb : Shared} {Dd C : Addr} {its : List Addr} {St : Nat → Mu → Heap → Prop} {k : Nat} {acc : List AV} {fr fr₁ : AFr} {hp hb : Hp} {items : Array Value} {target : Expr} {src : Src} {it : Value}
theorem CS.itsD (S : CS X l sc env μ₁ s₁ Dd its St k acc fr hp μ items s) : Dd ∉ its := fun h => by
  obtain ⟨o, Tn, vs, ho, hc, hd, _⟩ := S.T.obj _ h
  obtain ⟨n', q⟩ := S.ac
  rw [q] at ho; cases ho; cases hd
theorem CS.later (D : Drives prog w X target src it its St) (S : CS X l sc env μ₁ s₁ Dd its St k acc fr hp μ items s) (Lb : Le noS μ s μb sb) (Ib : Inv X μb hb sb) : CS X l sc env μ₁ s₁ Dd its St k acc fr hb μb items sb := by
  obtain ⟨Tb, kb⟩ := S.T.later (fun _ _ h _ => h.elim) Lb
  refine ⟨Ib, S.L.trans Lb, S.V.le S.I Lb, (by obtain ⟨n', q⟩ := S.ac; exact ⟨n', (Lb.keep _ _ S.n (fun h => h) q).exact rfl⟩), S.ra.le S.I Lb, fun h => ?_, Tb,
    D.frame _ μ μb _ _ S.st Lb.pre (fun b hb o q => (kb b hb).trans q) (Lb.fixed S.I fun _ _ h => h.elim) fun b o q => ⟨S.I.keep b o q, Ib.keep b o q⟩⟩
  rcases Lb.fresh _ h with h | h
  · exact S.n h
  · obtain ⟨n', q⟩ := S.ac; rw [h] at q; cases q
theorem CS.turn (D : Drives prog w X target src it its St) (S : CS X l sc env μ₁ s₁ Dd its St k acc fr hp μ items s) (B1 : But its s sb) (st1 : St (k + 1) μ sb.heap) (hDC : Dd ≠ env.locals) (hC1 : s₁.heap.get? env.locals = none) {s2 : Shared} (L2 : Le (ZP false env) μ sb μ s2) (I2 : Inv X μ hp s2) (V2 : EnvR X l sc env fr₁ μ s2.heap) :
    CS X l sc env μ₁ s₁ Dd its St (k + 1) acc fr₁ hp μ items s2 := by
  have I1 := S.T.invR B1 S.I
  have V1 := S.T.envR B1 S.V
  have T1 : Its X s₁.heap μ sb.heap its := ⟨S.T.new, S.T.out, S.T.base, D.obj _ μ _ st1⟩
  have S2 : ∀ b, ZP false env b → b = env.locals := fun b h => by
    rcases h with h | ⟨h, _⟩
    · exact h
    · exact nob h
  have fx2 := L2.fixOwn V1 I1
  obtain ⟨T2, k2⟩ := T1.later (fun b o h q => w4 V1 (xG h) q) L2
  refine ⟨I2, (S.T.leR B1 S.L).fresh1 L2 fun b h => by rw [S2 b h]; exact hC1, V2, ?_, (S.T.vrs B1 S.ra).mono (List.prefix_refl _) fx2, S.n, T2,
    D.frame _ μ μ sb.heap s2.heap st1 (List.prefix_refl _) (fun b hb o q => (k2 b hb).trans q) fx2 fun b o q => ⟨I1.keep b o q, I2.keep b o q⟩⟩
  obtain ⟨n', q⟩ := S.ac.at fun o q => B1.1 _ o S.itsD q
  exact ⟨n', (L2.keep _ _ S.n (fun h => hDC (S2 _ h)) q).exact rfl⟩
theorem CS.push (D : Drives prog w X target src it its St) (S : CS X l sc env μ₁ s₁ Dd its St k acc fr hp μ items s) (hD1 : s₁.heap.get? Dd = none) (bD : X.base.get? Dd = none) {u : AV} {u' : Value} (ru : VR X μ s.heap u u') {h' : Heap} (ac5 : h'.PlainList Dd (items.push u')) (hs5 : Heap.SameBut Dd s.heap h') :
    CS X l sc env μ₁ s₁ Dd its St k (acc ++ [u]) fr hp μ (items.push u') { s with heap := h' } := by
  have nfx : ∀ o, s.heap.get? Dd = some o → ¬ yS o := fun o q f => by
    obtain ⟨n', q'⟩ := S.ac
    rw [q] at q'; cases q'
    rcases f with ⟨q, _⟩ | ⟨q, _⟩ <;> (injection q with q; exact absurd q (by decide))
  have fx5 : ∀ b o, s.heap.get? b = some o → yS o → h'.get? b = some o := fun b o q f => hs5.extBut b o (fun h => nfx o (h ▸ q) f) q
  obtain ⟨I5, L5⟩ := S.I.own (s' := { s with heap := h' }) (S := fun b => b = Dd) (fun b h => h ▸ ⟨S.n, bD⟩) (fun b o h q => ⟨nfx o (h ▸ q), by obtain ⟨n', q'⟩ := ac5; exact ⟨_, h ▸ q'⟩⟩)
    (fun b o h q => hs5.extBut b o h q) rfl rfl
  have itsD4 : ∀ b ∈ its, b ≠ Dd := fun b hb h => S.itsD (h ▸ hb)
  refine ⟨I5, S.L.fresh1 L5 (fun b h => h ▸ hD1), S.V.but (s' := { s with heap := h' }) (fun b o h q => hs5.extBut b o (fun hb => by
      obtain ⟨n', q'⟩ := S.ac
      rw [hb, q'] at q; cases q
      rcases w4 S.V h (hb ▸ q') with ⟨es, n, q⟩ | ⟨v, q⟩ <;> cases q) q) fx5 (S.V.frs.mono fun b o n q d => ⟨n, o, hs5.extBut b o (fun hb => by
      obtain ⟨n', q'⟩ := S.ac
      rw [hb, q'] at q; cases q; cases d) q, d⟩), ac5, ?_, S.n, ⟨S.T.new, S.T.out, S.T.base, fun b hb => by
      obtain ⟨o, Tn, vs, ho, rest⟩ := S.T.obj b hb
      exact ⟨o, Tn, vs, hs5.extBut b o (itsD4 b hb) ho, rest⟩⟩, D.frame _ μ μ _ _ S.st (List.prefix_refl _) (fun b hb o q => hs5.extBut b o (itsD4 b hb) q) fx5 fun b o q => ⟨S.I.keep b o q, I5.keep b o q⟩⟩
  rw [Array.toList_push]
  exact (S.ra.mono (List.prefix_refl _) fx5).app (.cons (ru.mono (List.prefix_refl _) fx5) .nil)
end
theorem YN {elt target iter : Expr} {ifs : List Expr} {sp : Scope} {pos : Pos} {t : NTgt} {test : XT} {eltx : XE} {cl : List (Str × Addr)} {RR : Value → Addr → Result → Shared → Prop} {A : Around} {l : List Env} {E : Value → Shared → Prop} {s₁ s₂ : Shared}
    {μ₁ : Mu} {hp₁ hp₂ : Hp} {fr : AFr} {vs : List AV} {src : Src} {f : Nat} {it : Value} {its : List Addr} {St : Nat → Mu → Heap → Prop}
    (ok : qG sc sp = true) (ht : xY (sc.inner sp) target = some t) (htl : xF sp target = true)
    (hts : ∀ env', qu prog w X n cf (sc.inner sp) env' (forIn ifs true fun c r => if r = true then do let ok ← isTrue c env' (eval c env'); pure (ForInStep.yield ok) else pure (ForInStep.yield r)) test)
    (hel : ∀ env', zm prog w X n cf (sc.inner sp) env' (eval elt env') eltx)
    (hcl : ∀ x c, cl.lookup x = some c → env.cells.lookup x = some c) (hcl' : ∀ p ∈ sp.names, p.2 = .free → ∃ c, cl.lookup p.1 = some c)
    (e : yF t test eltx src f 0 [] cf (fr ++ List.replicate (zj sp).length none) hp₁ = .ok vs hp₂) (R : Room n A l) (I : Inv X μ₁ hp₁ s₁) (V : EnvR X l sc env fr μ₁ s₁.heap)
    (D : Drives prog w X target src it its St) (T : Its X s₁.heap μ₁ s₂.heap its) (st : St 0 μ₁ s₂.heap) (B : But [] s₁ s₂)
    (hRR : ∀ D C m μ' s', Inv X (μ' ++ [(D, none)]) (hp₂ ++ [.list vs]) s' → Le noS μ₁ s₁ (μ' ++ [(D, none)]) s' → s'.heap.Ns C m → C ∉ zb (μ' ++ [(D, none)]) → X.base.get? C = none → s₁.heap.get? C = none → μ'.length = hp₂.length → RR (.ref D) C (.ok .next) s') :
    wpAny (model prog w) A (newList []) (fun acc s₃ => wpAny (model prog w) A (newFunctionEnv sp env.globals cl [] env.qual none .none (some env)) (fun cenv s₄ =>
      codeAny (model prog w) A (.compStart (.ListComp elt [⟨target, iter, ifs, 0⟩] sp pos) 0 it acc { cenv with scope := relabel sp env }) (RR acc cenv.locals) s₄) E s₃) E s₂ := by
  obtain ⟨ok1, ok2, ok3⟩ := yx ok
  refine wpAny_newObj_type (wpAny_newFunctionEnv (fun x hx h => by rcases ok2 x hx with q | ⟨q, _⟩ | q <;> rw [h] at q <;> cases q) (by intro y hy; simp at hy) (fun h₁ hns hsb => ?_) ok1)
  dsimp only at hns hsb ⊢
  generalize hH2 : s₂.heap.push { cls := .type "list", dict := none, data := .seq ([] : List Value).toArray } = H2 at hns hsb ⊢
  have hz : H2.objs.size = s₂.heap.objs.size + 1 := by rw [← hH2, Heap.size_push]
  generalize hD' : s₂.heap.objs.size = Dd at hz ⊢
  generalize hC' : H2.objs.size = C at hns hsb hz ⊢
  have fresh₂ : ∀ b, Dd ≤ b → s₂.heap.get? b = none := fun b hb => by
    cases q : s₂.heap.get? b with
    | none => rfl
    | some o => have h1 := Heap.lt_size q; rw [hD'] at h1; exact absurd h1 (Nat.not_lt.mpr hb)
  have fresh₁ : ∀ b, Dd ≤ b → s₁.heap.get? b = none := fun b hb => by
    cases q : s₁.heap.get? b with
    | none => rfl
    | some o => have := B.1 b o (by simp) q; rw [fresh₂ b hb] at this; exact nos this
  have hDC : Dd ≠ C := by rw [hz]; exact Nat.ne_of_lt (Nat.lt_succ_self _)
  have hD1 : s₁.heap.get? Dd = none := fresh₁ _ (Nat.le_refl _)
  have hC1 : s₁.heap.get? C = none := fresh₁ _ (by rw [hz]; exact Nat.le_succ _)
  have hD2 : s₂.heap.get? Dd = none := fresh₂ _ (Nat.le_refl _)
  have hC2 : s₂.heap.get? C = none := fresh₂ _ (by rw [hz]; exact Nat.le_succ _)
  have old : ∀ b o, s₂.heap.get? b = some o → h₁.get? b = some o := fun b o q => hsb.extBut b o (by rintro rfl; rw [hC2] at q; cases q) (Heap.get?_push_of_some _ (hH2 ▸ Heap.get?_push_of_some _ q))
  have hacc : h₁.PlainList Dd #[] := ⟨_, hsb.extBut _ _ hDC (Heap.get?_push_of_some _ (hH2 ▸ hD' ▸ Heap.get?_push_size _ rfl))⟩
  have nin : ∀ {μ : Mu} {s : Shared} {b : Addr}, Le noS μ₁ s₁ μ s → s₁.heap.get? b = none → b ∉ zb μ₁ := fun L h q => by
    obtain ⟨o, ho, _⟩ := I.mut q; rw [h] at ho; exact nos ho
  have bas : ∀ {b : Addr}, s₁.heap.get? b = none → X.base.get? b = none := fun {b} h => by
    cases q : X.base.get? b with
    | none => rfl
    | some o => have := I.keep b o q; rw [h] at this; exact nos this
  generalize hs3 : ({ s₂ with heap := h₁, toks := s₂.toks + ([] : List (Str × Value)).length } : Shared) = s₃
  have hp3 : s₃.heap = h₁ := by rw [← hs3]
  have B3 : But [] s₁ s₃ := ⟨fun b o n q => by rw [hp3]; exact old b o (B.1 b o n q), by rw [← hs3]; exact B.2.1, by rw [← hs3]; exact B.2.2⟩
  have K3 : ∀ b o, s₁.heap.get? b = some o → s₃.heap.get? b = some o := fun b o q => B3.1 b o (by simp) q
  have I3 : Inv X μ₁ hp₁ s₃ := ⟨I.len, I.nodup, I.above, fun i p o a b => (I.rep i p o a b).mono (List.prefix_refl _) (fun b o e _ => K3 b o e) fun b _ o e => K3 b o e, fun b o q => K3 b o (I.keep b o q), B3.2.1.trans I.gens, B3.2.2.trans I.os⟩
  have L3 : Le noS μ₁ s₁ μ₁ s₃ := .ofKeep K3
  have V3 : EnvR X l sc env fr μ₁ s₃.heap := V.le I L3
  have VC : EnvR X l (sc.inner sp) (compEnvC sp cl C env) (fr ++ List.replicate (zj sp).length none) μ₁ s₃.heap :=
    Wg ok V3 hcl hcl' (by rw [hp3]; simpa using hns) (nin L3 hC1) (bas hC1)
  have st3 : St 0 μ₁ s₃.heap := D.frame 0 μ₁ μ₁ s₂.heap s₃.heap st (List.prefix_refl _) (fun b _ o q => by rw [hp3]; exact old b o q) (fun b o q _ => by rw [hp3]; exact old b o q) (fun b o q => ⟨B.1 b o (by simp) (I.keep b o q), K3 b o (I.keep b o q)⟩)
  have T3 : Its X s₁.heap μ₁ s₃.heap its := ⟨T.new, T.out, T.base, D.obj 0 μ₁ _ st3⟩
  have loop : codeAny (model prog w) A (.compLoop (.ListComp elt [⟨target, iter, ifs, 0⟩] sp pos) 0 it (.ref Dd) (compEnvC sp cl C env)) (RR (.ref Dd) C) s₃ := by
    refine Wq (fun m s => ∃ k acc fr' hp' μ' items, yF t test eltx src m k acc cf fr' hp' = .ok vs hp₂ ∧ acc.length ≤ small ∧ CS X l (sc.inner sp) (compEnvC sp cl C env) μ₁ s₁ Dd its St k acc fr' hp' μ' items s) ?_ f
      ⟨0, [], _, hp₁, μ₁, #[], e, Nat.zero_le _, I3, L3, VC, by rw [hp3]; exact hacc, .nil, nin L3 hD1, T3, st3⟩
    rintro m s ⟨k, acc, fr', hp', μ', items, e, za, S⟩
    cases m with
    | zero => exact nok e
    | succ m =>
    have e : (match src.next? hp' k with
      | none => Out.stuck
      | some none => .ok acc hp'
      | some (some x) => (match t.bind x fr' with
        | none => .stuck
        | some fr₁ => (test cf fr₁ hp').bind0 fun b h₁ =>
            if b then (eltx cf fr₁ h₁).bind0 fun v h₂ => if acc.length < small then yF t test eltx src m (k + 1) (acc ++ [v]) cf fr₁ h₂ else .stuck
            else yF t test eltx src m (k + 1) acc cf fr₁ h₁)) = .ok vs hp₂ := e
    cases hx : src.next? hp' k with
    | none => rw [hx] at e; exact nok e
    | some ox =>
    rw [hx] at e
    cases ox with
    | none =>
      cases e
      refine D.done R.handled S.I S.st hx fun s' B' => ?_
      have L' := S.T.leR B' S.L
      obtain ⟨n', hl⟩ := S.ac.at fun o q => B'.1 _ o S.itsD q
      have I' := (S.T.invR B' S.I).adopt S.n (bas hD1) hl za (S.T.vrs B' S.ra)
      obtain ⟨mm, ns, _⟩ := (S.T.envR B' S.V).loc
      refine hRR Dd C mm μ' s' I' ⟨L'.pre.trans (List.prefix_append _ _), fun a ha => ?_, L'.exist, L'.keep⟩ ns (fun h => ?_) (bas hC1) hC1 S.I.len
      · rw [xv, List.mem_append] at ha
        rcases ha with ha | ha
        · exact L'.fresh a ha
        · rw [xD (show a ∈ [Dd] from ha)]; exact .inr hD1
      · rw [xv, List.mem_append] at h
        rcases h with h | h
        · exact S.V.nloc h
        · exact hDC (xD (show C ∈ [Dd] from h)).symm
    | some x =>
      dsimp only at e
      cases hb : t.bind x fr' with
      | none => rw [hb] at e; exact nok e
      | some fr₁ =>
        rw [hb] at e
        obtain ⟨b, h1, e1, e⟩ := Out.bind0_ok_of e
        refine D.item R.handled S.I S.T.out S.st hx (fun v s₁ h => h) fun v s1 rv B1 st1 => ?_
        refine xO (cb := false) ht hb R.handled (fun _ => XJ htl) (S.T.invR B1 S.I) (S.T.envR B1 S.V) rv fun s2 L2 I2 V2 => ?_
        have S2 := S.turn D B1 st1 hDC hC1 L2 I2 V2
        refine hts _ R I2 V2 (PG.okT e1 fun μ3 s3 L3 I3 => ?_)
        have S3 := S2.later D L3 I3
        cases b with
        | false =>
          rw [if_neg Bool.false_ne_true] at e ⊢
          exact ⟨m, Nat.lt_succ_self _, k + 1, acc, fr₁, h1, μ3, items, e, za, S3⟩
        | true =>
          rw [if_pos rfl] at e ⊢
          obtain ⟨u, h2, e2, e⟩ := Out.bind0_ok_of e
          refine hel _ R I3 S3.V (PG.okE e2 fun u' μ4 s4 L4 I4 ru => ?_)
          have S4 := S3.later D L4 I4
          by_cases hlt : acc.length < small
          · rw [if_pos hlt] at e
            have l4 := S4.ra.length
            rw [Array.length_toList] at l4
            refine wpAny_list_append_plain S4.ac (fun h' ac5 hs5 => ?_) (by rw [l4]; exact zy (Nat.le_of_lt hlt))
            exact ⟨m, Nat.lt_succ_self _, k + 1, acc ++ [u], fr₁, h2, μ4, items.push u', e, by rw [zP]; exact hlt, S4.push D hD1 (bas hD1) ru ac5 hs5⟩
          · rw [if_neg hlt] at e; exact nok e
  exact codeAny_compStart_list loop (D.self R.handled st3 loop)
end
inductive FlR (X : Cx) (μ : Mu) (h : Heap) : AFlow → Flow → Prop
  | next : FlR X μ h .next .next
  | ret {v : AV} {v' : Value} : VR X μ h v v' → FlR X μ h (.ret v) (.ret v')
noncomputable def Fly (nw : Bool) (B : Heap) (l : List Env) (e C : Addr) (h : Heap) : Prop := match nw with
  | false => ∃ a0, Heap.FlyingW B l e (.ref C) a0 h
  | true => ∃ h0 args, Heap.MadeExcOf h0 h e (.ref C) args ∧ B.StaysIn h0 ∧ h0.FunFrames B l
noncomputable def PX (X : Cx) (l : List Env) (sc : Sc) (env : Env) (μ : Mu) (s : Shared) (nw : Bool) (c : Str) (fr' : AFr) (hp' : Hp) (E : Value → Shared → Prop) : Prop :=
  ∀ e μ' s' B C, nsIn X.K mainGlobals c = some (some (.ref C)) → Fly nw B l e C s'.heap →
    (∀ h6 t, B.StaysIn h6 → s'.heap.UpToSlots h6 → Le (own env) μ s μ' { s' with heap := h6, toks := t } ∧ Inv X μ' hp' { s' with heap := h6, toks := t } ∧ EnvR X l sc env fr' μ' h6) → E (.ref e) s'
noncomputable def PS (X : Cx) (l : List Env) (sc : Sc) (env : Env) (μ : Mu) (s : Shared) (o : OS) (Q : Flow → Shared → Prop) (E : Value → Shared → Prop) : Prop := match o with
  | .stuck => False
  | .ok fl fr' hp' => ∀ fl' μ' s', Le (own env) μ s μ' s' → Inv X μ' hp' s' → EnvR X l sc env fr' μ' s'.heap → FlR X μ' s'.heap fl fl' → Q fl' s'
  | .exc nw c fr' hp' => PX X l sc env μ s nw c fr' hp' E
noncomputable def Hd1 (env : Env) (l : List Env) : Prop := ∃ outer, l = env :: outer ∧ env.frame = some env.locals
noncomputable def yi (prog : Program) (w : World) (X : Cx) (n : Nat) (cf : CF) (sc : Sc) (env : Env) (t : Sem Flow) (x : XS) : Prop :=
  ∀ {fr : AFr} {hp : Hp} {A : Around} {l : List Env} {μ : Mu} {s : Shared} {Q : Flow → Shared → Prop} {E : Value → Shared → Prop},
    Hd1 env l → Room n A l → Inv X μ hp s → EnvR X l sc env fr μ s.heap → PS X l sc env μ s (x cf fr hp) Q E → wpAny (model prog w) A t Q E s
section
variable {prog : Program} {w : World} {X : Cx} {G : GTab} {n : Nat} {cf : CF} {sc : Sc} {env : Env} {l : List Env}
theorem PS.le {μ μ' : Mu} {s s' : Shared} {o : OS} {Q : Flow → Shared → Prop} {E : Value → Shared → Prop} (k : PS X l sc env μ s o Q E) (L : Le (own env) μ s μ' s') : PS X l sc env μ' s' o Q E := by
  cases o with
  | stuck => exact k
  | ok fl fr hp => exact fun fl' μ'' s'' L' => k fl' μ'' s'' (L.trans L')
  | exc nw c fr hp => exact fun e μ'' s'' B C h1 h2 h3 => k e μ'' s'' B C h1 h2 fun h6 t g1 g2 => ⟨L.trans (h3 h6 t g1 g2).1, (h3 h6 t g1 g2).2⟩
theorem Le.own {μ μ' : Mu} {s s' : Shared} (L : Le noS μ s μ' s') : Le (own env) μ s μ' s' := L.weak fun _ h => h.elim
theorem Jf {h : Heap} {C : Addr} {m : Str → Option Value} {o : Obj} (ns : h.Ns C m) (e : h.get? C = some o) : ¬ yS o := by
  obtain ⟨o', es, ep, ho, hd, _⟩ := ns
  rw [e] at ho; cases ho
  rintro (⟨_, xs, n, q⟩ | ⟨_, vs, q⟩) <;> rw [hd] at q <;> cases q
theorem zEn {μ₁ μ : Mu} {hp : Hp} {s₁ s : Shared} {C : Addr} {m : Str → Option Value} {h' : Heap} (I : Inv X μ hp s) (L : Le noS μ₁ s₁ μ s) (ns : s.heap.Ns C m) (nC : C ∉ zb μ) (bC : X.base.get? C = none) (C1 : s₁.heap.get? C = none)
    (hsb : Heap.SameBut C s.heap h') : Inv X μ hp { s with heap := h' } ∧ Le noS μ₁ s₁ μ { s with heap := h' } ∧ (∀ b o, b ≠ C → s.heap.get? b = some o → h'.get? b = some o) ∧ (∀ b o, s.heap.get? b = some o → yS o → h'.get? b = some o) := by
  have kp : ∀ b o, b ≠ C → s.heap.get? b = some o → h'.get? b = some o := fun b o n e => hsb.extBut b o n e
  have fx : ∀ b o, s.heap.get? b = some o → yS o → h'.get? b = some o := fun b o e f => kp b o (fun h => by subst h; exact Jf ns e f) e
  refine ⟨⟨I.len, I.nodup, I.above, fun i p o a b => (I.rep i p o a b).mono (List.prefix_refl _) fx fun b hb o e => kp b o (fun h => nC (by subst h; exact yN.mpr ⟨i, p, a, hb⟩)) e,
    fun b o e => kp b o (fun h => by subst h; rw [bC] at e; cases e) (I.keep b o e), I.gens, I.os⟩, ⟨L.pre, L.fresh, fun b o e => ?_, fun b o n ns e => (L.keep b o n ns e).trans fun o' e' => .inl (kp b o' (fun h => by subst h; rw [C1] at e; cases e) e')⟩, kp, fx⟩
  obtain ⟨o', e'⟩ := L.exist b o e
  exact ⟨o', kp b o' (fun h => by subst h; rw [C1] at e; cases e) e'⟩
theorem xu {e : Expr} (h : j9 e = true) (x : Value) : foldedSetIterable e env x = pure x := by
  cases e <;> first | rfl | cases h
theorem Zi {sp : Scope} (ok : qG sc sp = true) : ∀ x ∈ sp.names, x.2 = .local → sp.names.lookup x.1 = some .local := fun x hx h => by
  obtain ⟨_, _, c⟩ := yx ok
  exact ZU c (by rw [← h]; exact hx)
theorem Zj {sp : Scope} {fr : AFr} {μ : Mu} {h : Heap} (ok : qG sc sp = true) (V : EnvR X l sc env fr μ h) : ∀ p ∈ sp.names, p.2 = .free → ∃ c, env.cells.lookup p.1 = some c := fun p hp hf => by
  obtain ⟨_, b, _⟩ := yx ok
  rcases b p hp with q | ⟨_, q1, i, q2⟩ | q
  · rw [hf] at q; cases q
  · obtain ⟨c, cv, e, _⟩ := V.cel p.1 i q1 q2; exact ⟨c, e⟩
  · rw [hf] at q; cases q
theorem JD {elt target iter : Expr} {ifs : List Expr} {sp : Scope} {pos : Pos} {t : NTgt} {test : XT} {eltx itx : XE} (ok : qG sc sp = true) (ht : xY (sc.inner sp) target = some t) (htl : xF sp target = true) (hset : j9 iter = true)
    (hts : ∀ env', qu prog w X n cf (sc.inner sp) env' (forIn ifs true fun c r => if r = true then do let ok ← isTrue c env' (eval c env'); pure (ForInStep.yield ok) else pure (ForInStep.yield r)) test)
    (hel : ∀ env', zm prog w X n cf (sc.inner sp) env' (eval elt env') eltx) (hit : zm prog w X n cf sc env (eval iter env) itx) :
    zm prog w X n cf sc env (eval (.ListComp elt [⟨target, iter, ifs, 0⟩] sp pos) env) (yh itx (zj sp).length t test eltx) := by
  intro fr hp A l μ s Q E R I V k
  obtain ⟨cl, c0, c1, c2⟩ := Zm (Zj ok V)
  rw [eval_ListComp]
  refine wpAny_comprehension_free (use := none) rfl (fun x => xu hset x) c0 (yx ok).1 (Zi ok) (hit R I V (k.bind fun iv iv' h1 μ1 s1 L1 I1 ri k => ?_))
  cases hsrc : yk h1 iv with
  | none => rw [hsrc] at k; exact k.elim
  | some sn =>
    obtain ⟨src, nn⟩ := sn
    rw [hsrc] at k
    have k : PO X l μ1 s1 ((yF t test eltx src (nn + 1) 0 [] cf (fr ++ List.replicate (zj sp).length none) h1).bind0 fun vs h₂ => .ok (.ref h₂.length) (h₂ ++ [AO.list vs])) Q E := k
    cases e2 : yF t test eltx src (nn + 1) 0 [] cf (fr ++ List.replicate (zj sp).length none) h1 with
    | stuck => rw [e2] at k; exact k.elim
    | exc => rw [e2] at k; exact k.elim
    | ok vs h2 =>
    rw [e2] at k
    refine wm (target := target) hsrc I1 ri fun it its St s2 D T st B => ?_
    refine YN (RR := fun acc C => compPost (model prog w) A E none Q acc C) ok ht htl hts hel c1 c2 e2 R I1 (V.le I L1) D T st B fun Dd C m μ' s' I' L' ns nC bC C1 len => ?_
    refine ⟨m, ns, fun h' hsb => ?_⟩
    obtain ⟨J, M, _, _⟩ := zEn I' L' ns nC bC C1 hsb
    exact k _ _ _ M J (.ref (p := (Dd, none)) (by rw [← len]; simp))
theorem PS.bindS {α β : Type} {rel : Mu → Heap → α → β → Prop} {μ : Mu} {s : Shared} {hp : Hp} {fr : AFr} {o : Out α} {f : α → Hp → OS} {Q' : β → Shared → Prop} {Q : Flow → Shared → Prop} {E : Value → Shared → Prop} (k : PS X l sc env μ s (o.bindS fr f) Q E) (I : Inv X μ hp s) (V : EnvR X l sc env fr μ s.heap)
    (h : ∀ a b hp' μ' s', Le noS μ s μ' s' → Inv X μ' hp' s' → rel μ' s'.heap a b → PS X l sc env μ' s' (f a hp') Q E → Q' b s') : PG rel X l μ s o Q' E := by
  cases o with
  | stuck => exact k
  | ok v hp' => exact fun b μ' s' L I r => h v b hp' μ' s' L I r (PS.le (o := f v hp') k L.own)
  | exc c hp' => exact fun e μ' s' B C a0 h1 h2 h3 => k e μ' s' B C h1 ⟨a0, h2⟩ fun h6 t g1 g2 => ⟨(h3 h6 t g1 g2).1.own, (h3 h6 t g1 g2).2, V.le I (h3 h6 t g1 g2).1⟩
theorem Out.bind_bindS {α β : Type} {o : Out α} {f : α → Hp → Out β} {fr : AFr} {g : β → Hp → OS} : (o.bind f).bindS fr g = o.bindS fr fun a h => (f a h).bindS fr g := by cases o <;> rfl
theorem Z0 {elt target iter : Expr} {ifs : List Expr} {sp : Scope} {pos px spos : Pos} {t : NTgt} {test : XT} {eltx itx : XE} {x : Str} {okf : Str → Str → Bool} {t' : NTgt} (ok : qG sc sp = true) (ht : xY (sc.inner sp) target = some t) (htl : xF sp target = true) (hset : j9 iter = true)
    (hts : ∀ env', qu prog w X n cf (sc.inner sp) env' (forIn ifs true fun c r => if r = true then do let ok ← isTrue c env' (eval c env'); pure (ForInStep.yield ok) else pure (ForInStep.yield r)) test)
    (hel : ∀ env', zm prog w X n cf (sc.inner sp) env' (eval elt env') eltx) (hit : zm prog w X n cf sc env (eval iter env) itx) (hx : xY sc (.Name x px) = some t')
    (hsw : swapsWith (.ListComp elt [⟨target, iter, ifs, 0⟩] sp pos) (some (.Name x px)) spos.line env = pure true) :
    yi prog w X n cf sc env (exec (.Assign [.Name x px] (.ListComp elt [⟨target, iter, ifs, 0⟩] sp pos) spos) env) (z8 okf (.names t') (yh itx (zj sp).length t test eltx)) := by
  intro fr hp A l μ s Q E _ R I V k
  have k : PS X l sc env μ s ((itx cf fr hp).bindS fr fun v h₁ => ((match yk h₁ v with
    | none => Out.stuck
    | some (src, n) => (yF t test eltx src (n + 1) 0 [] cf (fr ++ List.replicate (zj sp).length none) h₁).bind0 fun vs h₂ => .ok (AV.ref h₂.length) (h₂ ++ [AO.list vs]))).bindS fr fun v h₁ => match t'.bind v fr with
    | some fr₁ => .ok .next fr₁ h₁
    | none => .stuck) Q E := by rw [← Out.bind_bindS]; exact k
  obtain ⟨cl, c0, c1, c2⟩ := Zm (Zj ok V)
  rw [exec_Assign_Name_used _ _ _ _ hsw]
  refine wpAny_bind (wpAny_standAt (wpAny_bind ?_))
  show wpAny _ A (do let _ ← comprehension (.ListComp elt [⟨target, iter, ifs, 0⟩] sp pos) sp env _ (newList []) false (eval iter env) (some (assign (.Name x px) env))) _ _ s
  refine wpAny_bind (wpAny_mono (wpAny_comprehension_free (use := some (assign (.Name x px) env)) (Q := fun _ s' => Q .next s') rfl (fun x => xu hset x) c0 (yx ok).1 (Zi ok)
    (hit R I V (k.bindS I V fun iv iv' h1 μ1 s1 L1 I1 ri k => ?_))) (fun _ s' hq => wpAny_pure (wpAny_pure hq)) fun _ _ e => e)
  cases hsrc : yk h1 iv with
  | none => rw [hsrc] at k; exact k.elim
  | some sn =>
    obtain ⟨src, nn⟩ := sn
    rw [hsrc] at k
    have k : PS X l sc env μ1 s1 (((yF t test eltx src (nn + 1) 0 [] cf (fr ++ List.replicate (zj sp).length none) h1).bind0 fun vs h₂ => Out.ok (AV.ref h₂.length) (h₂ ++ [AO.list vs])).bindS fr fun v h₁ => match t'.bind v fr with
      | some fr₁ => .ok .next fr₁ h₁
      | none => .stuck) Q E := k
    cases e2 : yF t test eltx src (nn + 1) 0 [] cf (fr ++ List.replicate (zj sp).length none) h1 with
    | stuck => rw [e2] at k; exact k.elim
    | exc => rw [e2] at k; exact k.elim
    | ok vs h2 =>
    rw [e2] at k
    have k : PS X l sc env μ1 s1 (match t'.bind (AV.ref h2.length) fr with
      | some fr₁ => .ok .next fr₁ (h2 ++ [AO.list vs])
      | none => .stuck) Q E := k
    cases hb : t'.bind (AV.ref h2.length) fr with
    | none => rw [hb] at k; exact k.elim
    | some fr₁ =>
    rw [hb] at k
    refine wm (target := target) hsrc I1 ri fun it its St s2 D T st B => ?_
    have V1 := V.le I L1
    refine YN (RR := fun acc C => compPost (model prog w) A E (some (assign (.Name x px) env)) (fun _ s' => Q .next s') acc C) ok ht htl hts hel c1 c2 e2 R I1 V1 D T st B fun Dd C m μ' s' I' L' ns nC bC C1 len => ?_
    show wpAny _ A (assign (.Name x px) env (.ref Dd)) _ _ _
    have V' := V1.le I1 L'
    have nown : ¬ own env C := fun h => by
      rcases h with h | ⟨y, h⟩
      · obtain ⟨m0, ⟨o, es, ep, ho, _⟩, _⟩ := V1.loc
        rw [← h, C1] at ho; exact nos ho
      · obtain ⟨_, cv, o, ho, _⟩ := V1.ncel y C h
        rw [C1] at ho; exact nos ho
    refine xO (cb := true) hx hb R.handled (fun h => by cases h) I' V' (.ref (p := (Dd, none)) (by rw [← len]; simp)) fun s3 L3 I3 V3 => ?_
    have nsC : s3.heap.Ns C m := by
      obtain ⟨o, es, ep, ho, hd, r⟩ := ns
      obtain ⟨o', ho', q⟩ := (L3.keep C o nC (fun h => nown (xG h)) ho).get
      exact ⟨o', es, ep, ho', q.trans hd, r⟩
    have LL : Le (own env) μ1 s1 (μ' ++ [(Dd, none)]) s3 := L'.own.trans (L3.weak fun _ h => xG h)
    refine ⟨m, nsC, fun h' hsb => ?_⟩
    have kp : ∀ b o, b ≠ C → s3.heap.get? b = some o → h'.get? b = some o := fun b o n e => hsb.extBut b o n e
    have fx : ∀ b o, s3.heap.get? b = some o → yS o → h'.get? b = some o := fun b o e f => kp b o (fun h => by subst h; exact Jf nsC e f) e
    have J : Inv X (μ' ++ [(Dd, none)]) (h2 ++ [.list vs]) { s3 with heap := h' } := ⟨I3.len, I3.nodup, I3.above, fun i p o a b => (I3.rep i p o a b).mono (List.prefix_refl _) fx fun b hb o e => kp b o (fun h => nC (by subst h; exact yN.mpr ⟨i, p, a, hb⟩)) e,
      fun b o e => kp b o (fun h => by subst h; rw [bC] at e; cases e) (I3.keep b o e), I3.gens, I3.os⟩
    have LM : Le (own env) μ1 s1 (μ' ++ [(Dd, none)]) { s3 with heap := h' } := ⟨LL.pre, LL.fresh, fun b o e => by
      obtain ⟨o', e'⟩ := LL.exist b o e
      exact ⟨o', kp b o' (fun h => by subst h; rw [C1] at e; cases e) e'⟩, fun b o n ns e => (LL.keep b o n ns e).trans fun o' e' => .inl (kp b o' (fun h => by subst h; rw [C1] at e; cases e) e')⟩
    refine k .next _ _ LM J (V3.but (s' := { s3 with heap := h' }) (fun b o h e => kp b o (fun hb => nown (hb ▸ h)) e) fx fun v hv => ?_) .next
    obtain ⟨_, L1', o1, f1, _, _, g1, _⟩ := V1.frs v hv
    obtain ⟨k1, L3', o3, f3, b3, n3, g3, d3⟩ := V3.frs v hv
    rw [f1] at f3; cases f3
    exact ⟨k1, L1', o3, f1, b3, n3, kp _ _ (fun h => by rw [h, C1] at g1; cases g1) g3, d3⟩
end
section
variable {prog : Program} {w : World} {X : Cx} {G : GTab} {n : Nat} {cf : CF} {sc : Sc} {env : Env}
theorem zr {t : Sem Value} : zm prog w X n cf sc env t zi := by
  exact fun _ _ _ k => k.elim
theorem qd {t : Sem Bool} : qu prog w X n cf sc env t (fun _ _ _ => .stuck) := by
  exact fun _ _ _ k => k.elim
theorem xj {f : Nat} (h : ∀ e, zm prog w X n cf sc env (eval e env) (dE G f sc e)) : ∀ es : List Expr, SndL prog w X n cf sc env (evalEach es env) (es.map (dE G f sc))
  | [] => .nil
  | e :: es => .cons (h e) (xj h es)
theorem wL {f : Nat} (h : ∀ e, qu prog w X n cf sc env (isTrue e env (eval e env)) (dT G f sc e)) : ∀ es : List Expr, SndTs prog w X n cf sc env (es.map fun e => isTrue e env (eval e env)) (es.map (dT G f sc))
  | [] => .nil
  | e :: es => .cons (h e) (wL h es)
theorem qK {t : Sem Value} {c : Prop} [Decidable c] {x : XE} (h : c → zm prog w X n cf sc env t x) : zm prog w X n cf sc env t (if c then x else zi) := by
  by_cases q : c
  · rw [if_pos q]; exact h q
  · rw [if_neg q]; exact zr (cf := cf)
theorem JI {t : Sem Bool} {c : Prop} [Decidable c] {x : XT} (h : c → qu prog w X n cf sc env t x) : qu prog w X n cf sc env t (if c then x else fun _ _ _ => .stuck) := by
  by_cases q : c
  · rw [if_pos q]; exact h q
  · rw [if_neg q]; exact qd (cf := cf)
theorem Yc {x : Str} {pos : Pos} (hk : sc.kind x = some .local ∨ sc.kind x = some .cell ∨ sc.kind x = some .free) (hd : (x == ("__debug__" : Str)) = false) (hc : (x == ("__classdict__" : Str)) = false) :
    zm prog w X n cf sc env (eval (.Name x pos) env) (match sc.slot x with | some i => z4 i | none => zi) := by
  cases hi : sc.slot x with
  | none => exact zr (cf := cf)
  | some i =>
    intro fr hp A l μ s Q E R I V k
    have k : PO X l μ s (match fr[i]? with | some (some v) => Out.ok v hp | _ => .stuck) Q E := k
    cases hu : fr[i]? with
    | none => rw [hu] at k; exact k.elim
    | some o =>
      rw [hu] at k
      cases o with
      | none => exact k.elim
      | some u => exact Y1 hk hi hu I V hd hc k
theorem JA {x : Str} {pos : Pos} (g : Gd X G) (hk : sc.kind x = some .globalImplicit) (hd : (x == ("__debug__" : Str)) = false) : zm prog w X n cf sc env (eval (.Name x pos) env) (zA (G.glob x)) := by
  intro fr hp A l μ s Q E R I V k
  obtain ⟨v, e1, k⟩ := PG.of k
  exact Zc g hk e1 I V hd k
theorem J7 {x : Str} {pos : Pos} (g : Gd X G) : zm prog w X n cf sc env (eval (.Name x pos) env) (z0d G sc x) := by
  unfold z0d
  by_cases hx : (x == ("__debug__" : Str) || x == ("__classdict__" : Str)) = true
  · rw [if_pos hx]; exact zr (cf := cf)
  · rw [if_neg hx]
    have hx := Bool.eq_false_iff.mpr hx
    have hd : (x == ("__debug__" : Str)) = false := (Bool.or_eq_false_iff.mp hx).1
    have hc : (x == ("__classdict__" : Str)) = false := (Bool.or_eq_false_iff.mp hx).2
    cases hk : sc.kind x with
    | none => exact zr (cf := cf)
    | some k =>
      cases k with
      | globalImplicit => exact JA g hk hd
      | globalExplicit => exact zr (cf := cf)
      | «local» => exact Yc (.inl hk) hd hc
      | cell => exact Yc (.inr (.inl hk)) hd hc
      | free => exact Yc (.inr (.inr hk)) hd hc
theorem Wt {f : Expr} {t : Expr × Str × Pos} (e : XC f = some t) : f = .Attribute t.1 t.2.1 t.2.2 := by
  cases f with
  | Attribute => cases e; rfl
  | _ => exact nos e
theorem QC {f : Expr} (e : XC f = none) : ∀ o name p, f ≠ .Attribute o name p := fun o name p h => by rw [h] at e; cases e
theorem QL {f : Expr} {t : Option Expr × Option Expr × Pos} (e : qL f = some (some t)) : f = .Slice t.1 t.2.1 none t.2.2 := by
  cases f with
  | Slice l u st p =>
    cases st with
    | none => cases e; rfl
    | some _ => cases e
  | _ => exact nos e
theorem Yh {f : Expr} (e : qL f = none) : W6 f = true := by
  cases f <;> first | rfl | cases e
theorem WT {c : Const} {kk : Nat} {pos : Pos} : zm prog w X n cf sc env (eval (.Constant c kk pos) env) (z0e c) := by
  cases c with
  | none => exact Yd (cf := cf)
  | bool b => exact Ye (cf := cf)
  | int i => exact XU (cf := cf)
  | str x => exact qK fun h => XR (cf := cf) h
  | _ => exact zr (cf := cf)
theorem JC (g : Gd X G) {pos : Pos} : zm prog w X n cf sc env (eval (.Dict [] [] pos) env) xm := by
  intro fr hp A l μ s Q E R I V k
  refine wpAny_Dict_empty ?_
  have hm : (s.heap.objs.size == sysModules) = false := by
    obtain ⟨mg, mb, ⟨o, es, ep, ho, _⟩, _⟩ := g.top
    have := Heap.lt_size (I.keep _ _ ho)
    exact beq_eq_false_iff_ne.mpr (Nat.ne_of_gt (Nat.lt_of_le_of_lt (by decide) this))
  obtain ⟨I', a⟩ := I.new (h' := s.heap.push { cls := .type "dict", data := .dict #[] }) (t := s.toks) (p := (s.heap.objs.size, none)) (o := .dict []) (fun b o e => Heap.get?_push_of_some _ e) (fun b hb => by rw [qo hb]; exact qF _) (List.nodup_cons.mpr ⟨List.not_mem_nil, List.nodup_nil⟩)
    (.dict (prog := prog) (w := w) (Heap.DictOf.new _) .nil hm (Nat.zero_le _))
  exact k.pe _ _ _ a I' (.ref (jC μ _ I.len))
theorem WH (g : Gd X G) (hcf : SndCF prog w X n cf) (f : Nat) : (∀ sc env e, zm prog w X n cf sc env (eval e env) (dE G f sc e)) ∧ (∀ sc env e, qu prog w X n cf sc env (isTrue e env (eval e env)) (dT G f sc e)) ∧
    (∀ sc env o, zm prog w X n cf sc env (valueOrNone (evalOpt o env)) (z0b G f sc o)) := by
  induction f with
  | zero => exact ⟨fun _ _ _ => zr (cf := cf), fun _ _ _ => qd (cf := cf), fun _ _ _ => zr (cf := cf)⟩
  | succ f ih =>
    obtain ⟨hE, hT, hO⟩ := ih
    have tv : ∀ sc env e, (∀ whole, isTrue e env whole = (do let v ← whole; standAt e.pos; holding [v] (truthy v))) → qu prog w X n cf sc env (isTrue e env (eval e env)) (zp (dE G f sc e)) := fun sc env e h => JG h (hE _ _ _)
    refine ⟨fun sc env e => ?_, fun sc env e => ?_, fun sc env o => ?_⟩
    · cases e with
      | Constant c kk pos => exact WT
      | Name x pos => exact J7 g
      | BoolOp op es pos => exact QK (xj (hE _ _) es)
      | BinOp l op r pos => exact z1l (hE _ _ _) (hE _ _ _)
      | UnaryOp op x pos =>
        cases op with
        | Not => exact z1e (hE _ _ _)
        | USub => exact z1f (hE _ _ _)
        | _ => exact zr (cf := cf)
      | IfExp t a b pos => exact zBy (hT _ _ _) (hE _ _ _) (hE _ _ _)
      | List es pos => exact qK fun h => J9 h.1 (by rw [List.length_map]; exact h.2) (xj (hE _ _) es)
      | Tuple es kk pos => exact qK fun h => z1b h.1 (by rw [List.length_map]; exact h.2) (xj (hE _ _) es)
      | Compare l ops rs pos => exact qK fun h => z1k h (hE _ _ _) (xj (hE _ _) rs)
      | Call fn args kws pos =>
        cases kws with
        | cons _ _ => exact zr (cf := cf)
        | nil =>
          refine qK fun h => ?_
          cases q : XC fn with
          | none => exact JE g hcf (QC q) h.1 (hE _ _ _) (xj (hE _ _) args)
          | some t =>
            rw [Wt q]
            exact qK fun h2 => J8 g hcf h2.1 h2.2 h.1 h.2 (hE _ _ _) (xj (hE _ _) args)
      | Dict ks vs pos =>
        cases ks with
        | cons _ _ => exact zr (cf := cf)
        | nil => cases vs with
          | cons _ _ => exact zr (cf := cf)
          | nil => exact JC (cf := cf) g
      | Attribute o name pos => exact qK fun h => JF g h (hE _ _ _)
      | Subscript o i pos =>
        show zm prog w X n cf sc env _ (match qL i with
          | some q => (match q with
            | some t => Z2 (dE G f sc o) (z0b G f sc t.1) (z0b G f sc t.2.1)
            | none => zi)
          | none => zR (dE G f sc o) (dE G f sc i))
        cases q : qL i with
        | none => exact z1h (Yh q) (hE _ _ _) (hE _ _ _)
        | some r =>
          cases r with
          | none => exact zr (cf := cf)
          | some t => rw [QL q]; exact z1j (hE _ _ _) (hO _ _ _) (hO _ _ _)
      | ListComp elt gs sp pos =>
        cases gs with
        | nil => exact zr (cf := cf)
        | cons gg gs =>
          cases gs with
          | cons _ _ => exact zr (cf := cf)
          | nil =>
            obtain ⟨target, iter, ifs, as⟩ := gg
            refine qK fun h => ?_
            have h2 : as = 0 := h.2.1
            subst h2
            show zm prog w X n cf sc env _ (match xY (sc.inner sp) target with
              | some t => yh (dE G f sc iter) (zj sp).length t (zT .And (ifs.map (dT G f (sc.inner sp)))) (dE G f (sc.inner sp) elt)
              | none => zi)
            cases ht : xY (sc.inner sp) target with
            | none => exact zr (cf := cf)
            | some t => exact JD h.1 ht h.2.2.2 h.2.2.1 (fun env' => qw (wL (hT _ _) _)) (fun env' => hE _ _ _) (hE _ _ _)
      | _ => exact zr (cf := cf)
    · cases e with
      | UnaryOp op x pos =>
        cases op with
        | Not => exact JH (hT _ _ _)
        | _ => exact qd (cf := cf)
      | BoolOp op es pos => exact JK (wL (hT _ _) es)
      | IfExp t a b pos => exact qd (cf := cf)
      | Compare l ops rs pos => exact JI fun h => JJ h (hE _ _ _) (xj (hE _ _) rs)
      | _ => exact tv _ _ _ (fun _ => rfl)
    · cases o with
      | some e' => exact Qy (fun e' h => by cases h; exact hE _ _ _) (fun h => by cases h)
      | none => exact Qy (cf := cf) (fun e' h => by cases h) (fun _ => rfl)
end
section
variable {prog : Program} {w : World} {X : Cx} {G : GTab} {n : Nat} {cf : CF} {sc : Sc} {env : Env}
theorem FlR.next_ {μ : Mu} {h : Heap} {fl : Flow} (r : FlR X μ h .next fl) : fl = .next := by cases r; rfl
theorem FlR.ret_ {μ : Mu} {h : Heap} {v : AV} {fl : Flow} (r : FlR X μ h (.ret v) fl) : ∃ v', fl = .ret v' ∧ VR X μ h v v' := by cases r with | ret q => exact ⟨_, rfl, q⟩
theorem zx {t : Sem Flow} : yi prog w X n cf sc env t yE := fun _ _ _ _ k => k.elim
theorem z1d {e₀ : Expr} {pos : Pos} {x : XE} (h : zm prog w X n cf sc env (eval e₀ env) x) : yi prog w X n cf sc env (exec (.Return (some e₀) pos) env) (zV x) := fun _ R I V k =>
  wpAny_Return_some (h R I V (k.bindS I V fun v v' _ μ1 s1 L1 I1 r k => k _ μ1 s1 .refl I1 (V.le I L1) (.ret r)))
theorem J6 {pos : Pos} : yi prog w X n cf sc env (exec (.Return none pos) env) (zV (z7 .none)) := fun _ _ I V k =>
  wpAny_Return_none (k _ _ _ .refl I V (.ret .none))
theorem JB {e₀ : Expr} {pos : Pos} {x : XE} (hc : swapsWith e₀ none pos.line env = pure false) (h : zm prog w X n cf sc env (eval e₀ env) x) : yi prog w X n cf sc env (exec (.Expr e₀ pos) env) (zG x) := fun _ R I V k =>
  wpAny_Expr_any (h R I V (k.bindS I V fun v v' _ μ1 s1 L1 I1 r k => k _ μ1 s1 .refl I1 (V.le I L1) .next)) (by unfold interactive; rw [V.fn]; rfl) hc
theorem z1g {t : Expr} {a b : List Stmt} {pos : Pos} {x : XT} {y z : XS} (ht : qu prog w X n cf sc env (isTrue t env (eval t env)) x) (ha : yi prog w X n cf sc env (execs a env) y) (hb : yi prog w X n cf sc env (execs b env) z) :
    yi prog w X n cf sc env (exec (.If t a b pos) env) (sIf x y z) := fun T R I V k =>
  wpAny_If (ht R I V (k.bindS I V fun c c' _ μ1 s1 L1 I1 e k => by
    cases e
    cases c with
    | true => exact ha T R I1 (V.le I L1) k
    | false => exact hb T R I1 (V.le I L1) k))
theorem WS {f : Nat} (h : ∀ st, yi prog w X n cf sc env (exec st env) (dS G f sc st)) (sts : List Stmt) : yi prog w X n cf sc env (execs sts env) (z9 (sts.map (dS G f sc))) := by
  induction sts with
  | nil => exact fun _ _ I V k => wpAny_execs_nil (k _ _ _ .refl I V .next)
  | cons st sts ih =>
    intro fr hp A l μ s Q E T R I V k
    have k : PS X l sc env μ s (match dS G f sc st cf fr hp with
      | .ok .next fr₁ h₁ => z9 (sts.map (dS G f sc)) cf fr₁ h₁
      | o => o) Q E := k
    refine wpAny_execs_cons (h st T R I V ?_)
    cases q : dS G f sc st cf fr hp with
    | stuck => rw [q] at k; exact k.elim
    | exc nw c fr1 hp1 => rw [q] at k; exact k
    | ok fl1 fr1 hp1 =>
      rw [q] at k
      cases fl1 with
      | next => exact fun fl' μ1 s1 L1 I1 V1 r => by rw [r.next_]; exact ih T R I1 V1 (PS.le k L1)
      | ret v =>
        intro fl' μ1 s1 L1 I1 V1 r
        obtain ⟨v', rfl, rv⟩ := r.ret_
        exact k _ μ1 s1 L1 I1 V1 (.ret rv)
theorem qJ {t value : Expr} {pos : Pos} {A : Around} {E : Value → Shared → Prop} {s : Shared} {M : Model} {Q : Flow → Shared → Prop} (ht : yz t = true)
    (hs : swapsWith value (some t) pos.line env = pure false) (hw : swappedStores [t] value env = pure none) (h : wpAny M A (eval value env) (fun v s₁ => wpAny M A (assign t env v) (fun _ => Q .next) E s₁) E s) :
    wpAny M A (exec (.Assign [t] value pos) env) Q E s := by
  have ea : (assignEach [t] env).map (·.2) = [assign t env] := by cases t <;> first | rfl | cases ht
  refine wpAny_Assign_stores (wpAny_mono h (fun v s₁ h₁ => ?_) fun _ _ x => x) hs hw
  rw [ea]
  exact h₁
theorem Y7 {t : Expr} {is : List Nat} (h : xY sc t = some (.many is)) : ∃ es k p, t = .Tuple es k p := by
  cases t with
  | Tuple es k p => exact ⟨es, k, p, rfl⟩
  | Name x p => obtain ⟨i, _, e⟩ := y6 (show (sc.isOwn x).map NTgt.one = _ from h); cases e
  | _ => exact nos h
theorem QD {elts : List Expr} {x1 : Nat} {pos : Pos} {c : Addr} {items : Array Value} {A : Around} {E : Value → Shared → Prop} {s : Shared} {Q : Unit → Shared → Prop} (hh : A.handled = none) (hl : s.heap.IsList c items)
    (hn : (assignEach elts env).length = items.size) (hstar : (assignEach elts env).findIdx? (·.1) = none)
    (h : ∀ h', Heap.ExtBut s.heap.objs.size s.heap h' → wpAny (model prog w) A (assignInOrder ((assignEach elts env).map (·.2)) items.toList) Q E { s with heap := h' }) :
    wpAny (model prog w) A (assign (.Tuple elts x1 pos) env (.ref c)) Q E s := by
  rw [arm_assign_Tuple]
  refine wpAny_bind (wpAny_standAt ?_)
  unfold unpack
  rw [hstar, hn]
  exact wpAny_bind (wpAny_holding (kun_itemsOf hh hl h))
theorem Q9 {target : Expr} {t : NTgt} {v : AV} {v' : Value} {A : Around} {E : Value → Shared → Prop} {s : Shared} {l : List Env} {μ : Mu} {hp : Hp} {fr fr' : AFr} {Q : Unit → Shared → Prop} (ht : xY sc target = some t) (hb : jw hp t v fr = some fr') (hh : A.handled = none) (I : Inv X μ hp s) (V : EnvR X l sc env fr μ s.heap) (r : VR X μ s.heap v v')
    (k : ∀ s', Le (ZP true env) μ s μ s' → Inv X μ hp s' → EnvR X l sc env fr' μ s'.heap → Q () s') : wpAny (model prog w) A (assign target env v') Q E s := by
  cases t with
  | one i => exact xO (cb := true) ht hb hh (fun h => by cases h) I V r k
  | many is =>
    cases hr : yf v with
    | none =>
      have hb : (match yf v with | some a => (zn hp a).bind fun xs => yb is xs fr | none => NTgt.bind (.many is) v fr) = some fr' := hb
      rw [hr] at hb
      exact xO (cb := true) ht hb hh (fun h => by cases h) I V r k
    | some a =>
      have hb : (match yf v with | some a => (zn hp a).bind fun xs => yb is xs fr | none => NTgt.bind (.many is) v fr) = some fr' := hb
      rw [hr] at hb
      obtain ⟨xs, hx, hb⟩ := zS hb
      rw [yd hr] at r
      obtain ⟨c, items, m, rfl, _, hl, z, rs⟩ := I.list_at r (xk hx)
      obtain ⟨es, kk, tp, rfl⟩ := Y7 ht
      have ht : (match ya (xe sc) es with
        | some is => if is.length ≤ 10 ∧ is.Nodup then some (NTgt.many is) else none
        | none => none) = some (.many is) := ht
      cases hi : ya (xe sc) es with
      | none => rw [hi] at ht; exact nos ht
      | some is' =>
        rw [hi] at ht
        obtain ⟨_, e⟩ := zY ht
        cases e
        obtain ⟨l1, l2⟩ := wJ (env := env) hi
        have l3 := ZJ hb
        refine QD hh ⟨_, hl, rfl, _, rfl⟩ (by rw [rs.size, l1, l3]) l2 fun h' he => ?_
        have kp : ∀ b o, s.heap.get? b = some o → h'.get? b = some o := fun b o e => he b o (Nat.ne_of_lt (Heap.lt_size e)) e
        have L0 : Le (ZP true env) μ s μ { s with heap := h' } := .ofKeep kp
        exact jj hi hb (fun _ _ _ _ => rfl) (I.grow (t := s.toks) kp) (V.le I (.ofKeep kp)) (rs.mono (List.prefix_refl _) fun b o e _ => kp b o e) fun s2 L2 I2 V2 => k s2 (L0.trans L2) I2 V2
theorem xU {target value : Expr} {pos : Pos} {t : NTgt} {x : XE} {okf : Str → Str → Bool} (ht : xY sc target = some t) (hs : swapsWith value (some target) pos.line env = pure false) (hw : swappedStores [target] value env = pure none)
    (h : zm prog w X n cf sc env (eval value env) x) : yi prog w X n cf sc env (exec (.Assign [target] value pos) env) (z8 okf (.names t) x) := by
  intro fr hp A l μ s Q E T R I V k
  refine qJ (by cases target <;> first | rfl | cases ht) hs hw (h R I V (PS.bindS k I V fun a v' h1 μ1 s1 L1 I1 r k => ?_))
  have k : PS X l sc env μ1 s1 (match t.bind a fr with
    | some fr₁ => OS.ok .next fr₁ h1
    | none => .stuck) Q E := k
  cases hb : t.bind a fr with
  | none => rw [hb] at k; exact k.elim
  | some fr₁ =>
    rw [hb] at k
    exact xO (cb := true) ht hb R.handled (fun h => by cases h) I1 (V.le I L1) r fun s2 L2 I2 V2 => k _ μ1 s2 (L2.weak fun _ h => xG h) I2 V2 .next
theorem Z1 {o value : Expr} {name : Str} {p pos : Pos} {x y : XE} (g : Gd X G) (hs : swapsWith value (some (.Attribute o name p)) pos.line env = pure false)
    (h : zm prog w X n cf sc env (eval value env) x) (ho : zm prog w X n cf sc env (eval o env) y) : yi prog w X n cf sc env (exec (.Assign [.Attribute o name p] value pos) env) (z8 G.okf (.attr y name) x) := by
  intro fr hp A l μ s Q E T R I V k
  refine qJ rfl hs rfl (h R I V (PS.bindS k I V fun a v' h1 μ1 s1 L1 I1 r k => ?_))
  rw [assign_Attribute]
  have V1 := V.le I L1
  refine wpAny_bind (wpAny_holding (ho R I1 V1 (PS.bindS (o := y cf fr h1) k I1 V1 fun ov ov' h2 μ2 s2 L2 I2 ro k => wpAny_bind (wpAny_standAt (wpAny_bind (wpAny_holding ?_))))))
  cases ov with
  | ref a₀ =>
    have k : PS X l sc env μ2 s2 (match h2[a₀]? with
      | some (.inst c fs) => if G.okf c name && decide (fs.length < 100) then OS.ok .next fr (h2.set a₀ (.inst c (wH name a fs))) else .stuck
      | _ => .stuck) Q E := k
    cases ha : h2[a₀]? with
    | none => rw [ha] at k; exact k.elim
    | some o' =>
      rw [ha] at k
      cases o' with
      | list _ => exact k.elim
      | dict _ => exact k.elim
      | inst c fs =>
        have k : PS X l sc env μ2 s2 (if (G.okf c name && decide (fs.length < 100)) = true then OS.ok .next fr (h2.set a₀ (.inst c (wH name a fs))) else .stuck) Q E := k
        by_cases hok : (G.okf c name && decide (fs.length < 100)) = true
        · rw [if_pos hok] at k
          obtain ⟨ok1, ok2⟩ := Bool.and_eq_true_iff.mp hok
          exact Zw g I2 (V1.le I1 L2) ro ha (r.le I1 L2) ok1 (of_decide_eq_true ok2) fun s3 L3 I3 V3 => j6 (k _ μ2 s3 L3 I3 V3 .next)
        · rw [if_neg hok] at k; exact k.elim
  | _ => exact k.elim
theorem jz {o i value : Expr} {p pos : Pos} {x y z : XE} {okf : Str → Str → Bool} (hs : swapsWith value (some (.Subscript o i p)) pos.line env = pure false)
    (h : zm prog w X n cf sc env (eval value env) x) (ho : zm prog w X n cf sc env (eval o env) y) (hi : zm prog w X n cf sc env (eval i env) z) : yi prog w X n cf sc env (exec (.Assign [.Subscript o i p] value pos) env) (z8 okf (.item y z) x) := by
  intro fr hp A l μ s Q E T R I V k
  refine qJ rfl hs rfl (h R I V (PS.bindS k I V fun a v' h1 μ1 s1 L1 I1 r k => ?_))
  rw [assign_Subscript]
  have V1 := V.le I L1
  refine wpAny_bind (wpAny_holding (ho R I1 V1 (PS.bindS (o := y cf fr h1) k I1 V1 fun ov ov' h2 μ2 s2 L2 I2 ro k => wpAny_bind (wpAny_holding (hi R I2 (V1.le I1 L2) (k.bindS I2 (V1.le I1 L2) fun iv iv' h3 μ3 s3 L3 I3 ri k => wpAny_bind (wpAny_standAt (wpAny_bind (wpAny_holding ?_)))))))))
  have k : PS X l sc env μ3 s3 (match xz h3 ov iv a with
    | some h₄ => .ok .next fr h₄
    | none => .stuck) Q E := k
  cases hst : xz h3 ov iv a with
  | none => rw [hst] at k; exact k.elim
  | some h4 =>
    rw [hst] at k
    exact Yi hst I3 (ro.le I2 L3) ri ((r.le I1 L2).le I2 L3) fun s4 L4 I4 => j6 (k _ μ3 s4 L4.own I4 (((V1.le I1 L2).le I2 L3).le I3 L4) .next)
end
end Mine
end
end
section
noncomputable section
namespace Mine
open PySem PySem.W PySem.Calls PyProof.Rows
section
variable {X : Cx} {μ : Mu} {hp : Hp} {s : Shared} {l : List Env}
noncomputable abbrev frA (l : List Env) : List Addr := l.filterMap (·.frame)
theorem Frs.at {h : Heap} (F : Frs X l μ h) {b : Addr} (m : b ∈ frA l) : X.base.get? b = none ∧ b ∉ zb μ ∧ ∃ o, h.get? b = some o ∧ isD o = true := by
  obtain ⟨v, hv, e⟩ := List.mem_filterMap.mp m
  obtain ⟨_, L, o, f1, f2, f3, f4, f5⟩ := F v hv
  rw [e] at f1; cases f1
  exact ⟨f2, f3, o, f4, f5⟩
theorem Frs.funs {h : Heap} : ∀ {l : List Env}, Frs X l μ h → ∀ as, (∀ b ∈ frA l, b ∈ as) → h.FunFrames (hideAll h as) l
  | [], _, _, _ => trivial
  | v :: r, F, as, hin => by
    obtain ⟨k, L, o, f1, f2, f3, f4, f5⟩ := F v (.head _)
    refine ⟨k, ⟨L, o, f1, hideAll_none _ (hin L (List.mem_filterMap.mpr ⟨v, .head _, f1⟩)), f4, fun vs q => ?_⟩, Frs.funs (fun v' hv => F v' (.tail _ hv)) as fun b hb => hin b ?_⟩
    · unfold isD at f5; rw [q] at f5; exact nob f5
    · obtain ⟨v', hv, e⟩ := List.mem_filterMap.mp hb
      exact List.mem_filterMap.mpr ⟨v', .tail _ hv, e⟩
theorem zC0 (F : Frs X l μ s.heap) (I : Inv X μ hp s) {h6 : Heap} {t : Nat} (hB : (hideAll s.heap (frA l)).StaysIn h6) (hU : s.heap.UpToSlots h6) :
    Le noS μ s μ { s with heap := h6, toks := t } ∧ Inv X μ hp { s with heap := h6, toks := t } := by
  have kp : ∀ b o, s.heap.get? b = some o → b ∉ frA l → h6.get? b = some o := fun b o e n => hB b o (hideAll_get _ e n)
  have near : ∀ b o, s.heap.get? b = some o → Zu o (h6.get? b) := fun b o e => by
    by_cases m : b ∈ frA l
    · obtain ⟨_, _, o', e', d⟩ := F.at m
      rw [e] at e'; cases e'
      exact .inr ⟨d, hU b o e fun vs q => by unfold isD at d; rw [q] at d; cases d⟩
    · exact .inl (kp b o e m)
  refine ⟨⟨List.prefix_refl _, fun _ h => .inl h, fun b o e => (near b o e).get.imp fun _ h => h.1, fun b o _ _ e => near b o e⟩, ⟨I.len, I.nodup, I.above, fun i p o a b =>
    (I.rep i p o a b).mono (List.prefix_refl _) (fun b o e f => (near b o e).exact f.notD) fun b hb o e => kp b o e fun m => (F.at m).2.1 (yN.mpr ⟨i, p, a, hb⟩), fun b o e => kp b o (I.keep b o e) fun m => ?_, I.gens, I.os⟩⟩
  have := (F.at m).1
  rw [e] at this; cases this
end
section
variable {prog : Program} {w : World} {X : Cx} {G : GTab} {n : Nat} {cf : CF} {sc : Sc} {env : Env}
theorem jk {x : Str} {pos : Pos} {A : Around} {l : List Env} {μ : Mu} {hp : Hp} {s : Shared} {fr : AFr} {c : Value} {Q : Value → Shared → Prop} {E : Value → Shared → Prop} (g : Gd X G) (hk : sc.kind x = some .globalImplicit) (e : nsIn X.K mainGlobals x = some (some c)) (I : Inv X μ hp s) (V : EnvR X l sc env fr μ s.heap)
    (hd : (x == ("__debug__" : Str)) = false) (h : Q c s) : wpAny (model prog w) A (eval (.Name x pos) env) Q E s := by
  obtain ⟨mg, mb, ng, nb, hb⟩ := g.top
  exact Name_function_global V.fn ((V.kind x) ▸ hk) (loadGlobal_global (by rw [V.glob]; exact ng.keeps I.keep) (mg_of g.K ng e) h) hd
theorem WR {x m : Str} {np ap cpos pos : Pos} {cn : Nat} (g : Gd X G) (hx : G.exc x = true) (hk : sc.kind x = some .globalImplicit) (hd : (x == ("__debug__" : Str)) = false) (z : m.length ≤ small) :
    yi prog w X n cf sc env (exec (.Raise (some (.Call (.Name x np) [.Constant (.str m) cn ap] [] cpos)) none pos) env) (yn x) := by
  intro fr hp A l μ s Q E T R I V k
  obtain ⟨C, mg, hC, O⟩ := g.exc x hx
  obtain ⟨tl, N, nm, q, bs, hdct, sn, sub, ab, col, dd, k0, k1, k2, k3, k5, mN, hCo, hN, hni, TL⟩ := (O.keeps I.keep).obj
  refine wpAny_Raise_call_subT (C := C) (nm := nm) (q := q) (N := N) (bs := bs) (bm := tl) (hdct := hdct) (sn := sn) (sub := sub) (ab := ab) (col := col) (dd := dd) (k0 := k0) (k1 := k1) (k2 := k2) (k3 := k3) (k5 := k5)
    PySem.F.excBase_ValueError (mN := mN) (TL.hasType PySem.F.excBase_ValueError.hasBase) R.handled rfl hni (jk g hk hC I V hd ⟨rfl, ?_⟩)
  refine yw (ts := [eval (.Constant (.str m) cn ap) env]) (spliced_cons (wpAny_mkText (spliced_nil ⟨rfl, (show 1 ≤ sizeLine by decide), hCo, hN, TL, fun h' e hx => ?_⟩)))
  have st : (hideAll s.heap (frA l)).StaysIn s.heap := fun b o q => of_hideAll _ q
  refine k e μ _ (hideAll s.heap (frA l)) C hC ⟨s.heap, _, hx, st, V.frs.funs _ fun _ h => h⟩ fun h6 t g1 g2 => ?_
  obtain ⟨L6, I6⟩ := zC0 (t := t) V.frs I g1 ((Heap.UpToSlots.of_keeps hx.keeps).trans g2)
  exact ⟨L6.own, I6, V.le I L6⟩
end
end Mine
end
end
section
noncomputable section
namespace Mine
open PySem PySem.W PySem.Calls
section
variable {prog : Program} {w : World} {X : Cx} {G : GTab} {n : Nat} {cf : CF} {sc : Sc} {env : Env}
theorem Q0 {target : Expr} {body : List Stmt} {t : NTgt} {bx : XS} {A : Around} {l : List Env} {s₁ s₂ : Shared} {μ₁ : Mu} {hp₁ : Hp} {fr₁ : AFr} {src : Src} {f : Nat} {it : Value} {its : List Addr} {St : Nat → Mu → Heap → Prop}
    {R' : Result → Shared → Prop} {E : Value → Shared → Prop} (ht : xY sc target = some t) (hb : yi prog w X n cf sc env (execs body env) bx) (H : Hd1 env l) (R : Room n A l) (I : Inv X μ₁ hp₁ s₁) (V : EnvR X l sc env fr₁ μ₁ s₁.heap)
    (D : Drives prog w X target src it its St) (T : Its X s₁.heap μ₁ s₂.heap its) (st : St 0 μ₁ s₂.heap) (B : But [] s₁ s₂)
    (k : PS X l sc env μ₁ s₁ (xT t bx src f 0 cf fr₁ hp₁) (fun f s' => R' (.ok f) s') E) : codeAny (model prog w) A (.forLoop target it body [] env) R' s₂ := by
  have K : ∀ b o, s₁.heap.get? b = some o → s₂.heap.get? b = some o := fun b o q => B.1 b o (by simp) q
  have I2 : Inv X μ₁ hp₁ s₂ := ⟨I.len, I.nodup, I.above, fun i p o a b => (I.rep i p o a b).mono (List.prefix_refl _) (fun b o e _ => K b o e) fun b _ o e => K b o e, fun b o q => K b o (I.keep b o q), B.2.1.trans I.gens, B.2.2.trans I.os⟩
  have L2 : Le noS μ₁ s₁ μ₁ s₂ := .ofKeep K
  refine codeAny_forLoop_any (fun m s => ∃ k fr hp μ, PS X l sc env μ₁ s₁ (xT t bx src m k cf fr hp) (fun f s' => R' (.ok f) s') E ∧ Inv X μ hp s ∧ EnvR X l sc env fr μ s.heap ∧ Le (own env) μ₁ s₁ μ s ∧ Its X s₁.heap μ s.heap its ∧ St k μ s.heap) ?_ f ⟨0, fr₁, hp₁, μ₁, k, I2, V.le I L2, L2.own, T, st⟩
  rintro m s ⟨kk, fr, hp, μ, k, I, V, L, T, st⟩
  cases m with
  | zero => exact k.elim
  | succ m =>
  have k : PS X l sc env μ₁ s₁ (match src.next? hp kk with
    | none => OS.stuck
    | some none => .ok .next fr hp
    | some (some x) => (match jw hp t x fr with
      | none => .stuck
      | some fr₁ => (match bx cf fr₁ hp with
        | .ok .next fr₂ h₂ => xT t bx src m (kk + 1) cf fr₂ h₂
        | .ok (.ret v) fr₂ h₂ => .ok (.ret v) fr₂ h₂
        | _ => .stuck))) (fun f s' => R' (.ok f) s') E := k
  cases hx : src.next? hp kk with
  | none => rw [hx] at k; exact k.elim
  | some ox =>
  rw [hx] at k
  cases ox with
  | none =>
    refine D.done R.handled I st hx fun s' B' => wpAny_execs_nil ?_
    exact k .next μ s' (T.leR B' L) (T.invR B' I) (T.envR B' V) .next
  | some x =>
    dsimp only at k
    cases hbd : jw hp t x fr with
    | none => rw [hbd] at k; exact k.elim
    | some fra =>
      rw [hbd] at k
      dsimp only at k
      refine D.item R.handled I T.out st hx (fun v s₁ h => h) fun v s1 rv B1 st1 => ?_
      have I1 := T.invR B1 I
      have V1 := T.envR B1 V
      have L1 := T.leR B1 L
      have T1 : Its X s₁.heap μ s1.heap its := ⟨T.new, T.out, T.base, D.obj _ μ _ st1⟩
      refine Q9 ht hbd R.handled I1 V1 rv fun s2 L2 I2 V2 => ?_
      have L2o : Le (own env) μ s1 μ s2 := L2.weak fun _ h => xG h
      obtain ⟨T2, k2⟩ := T1.later (fun b o h q => w4 V1 h q) L2o
      have st2 : St (kk + 1) μ s2.heap := D.frame _ μ μ s1.heap s2.heap st1 (List.prefix_refl _) (fun b hb o q => (k2 b hb).trans q) (L2o.fixed I1 (yO V1)) fun b o q => ⟨I1.keep b o q, I2.keep b o q⟩
      refine hb H R I2 V2 ?_
      cases eb : bx cf fra hp with
      | stuck => rw [eb] at k; exact k.elim
      | exc nw c fr3 hp3 => rw [eb] at k; exact k.elim
      | ok fl3 fr3 hp3 =>
        rw [eb] at k
        intro fl4 μ3 s3 L3 I3 V3 r3
        have LL := (L1.trans L2o).trans L3
        cases fl3 with
        | next =>
          rw [r3.next_]
          obtain ⟨T3, k3⟩ := T2.later (fun b o h q => w4 V2 h q) L3
          exact ⟨m, Nat.lt_succ_self _, kk + 1, fr3, hp3, μ3, k, I3, V3, LL, T3, D.frame _ μ μ3 s2.heap s3.heap st2 L3.pre (fun b hb o q => (k3 b hb).trans q) (L3.fixed I2 (yO V2)) fun b o q => ⟨I2.keep b o q, I3.keep b o q⟩⟩
        | ret u =>
          obtain ⟨u', rfl, ru⟩ := r3.ret_
          exact k _ μ3 s3 LL I3 V3 (.ret ru)
theorem z1i {target iter : Expr} {body : List Stmt} {pos : Pos} {t : NTgt} {bx : XS} {itx : XE} (ht : xY sc target = some t) (hset : j9 iter = true) (hit : zm prog w X n cf sc env (eval iter env) itx) (hb : yi prog w X n cf sc env (execs body env) bx) :
    yi prog w X n cf sc env (exec (.For target iter body [] pos) env) (xQ t itx false bx) := by
  intro fr hp A l μ s Q E H R I V k
  refine wpAny_For (hit R I V (PS.bindS k I V fun iv iv' h1 μ1 s1 L1 I1 ri k => ?_)) (fun x => xu hset x)
  cases hsrc : yk h1 iv with
  | none => rw [hsrc] at k; exact k.elim
  | some sn =>
    obtain ⟨src, nn⟩ := sn
    rw [hsrc] at k
    exact wm (target := target) hsrc I1 ri fun it its St s2 D T st B => Q0 ht hb H R I1 (V.le I L1) D T st B k
theorem qx {t : Sem Flow} {c : Prop} [Decidable c] {x : XS} (h : c → yi prog w X n cf sc env t x) : yi prog w X n cf sc env t (if c then x else yE) := by
  by_cases q : c
  · rw [if_pos q]; exact h q
  · rw [if_neg q]; exact zx (cf := cf)
theorem xV {t : Sem Flow} {okf : Str → Str → Bool} {x : XE} : yi prog w X n cf sc env t (z8 okf .none x) := by
  exact fun _ _ _ _ k => k.elim
theorem ym {t : Sem Flow} {okf : Str → Str → Bool} {tg : Tgt} : yi prog w X n cf sc env t (z8 okf tg zi) := by
  cases tg <;> exact fun _ _ _ _ k => k.elim
theorem wz {value : Expr} (h : Qc value = false) (t : Option Expr) (line : Nat) : swapsWith value t line env = pure false := by
  cases value <;> first | rfl | cases h
theorem z17 (value : Expr) {o : Expr} {x : Str} {p : Pos} (line : Nat) : swapsWith value (some (.Attribute o x p)) line env = pure false := by cases value <;> rfl
theorem z16 (value : Expr) {o i : Expr} {p : Pos} (line : Nat) : swapsWith value (some (.Subscript o i p)) line env = pure false := by cases value <;> rfl
theorem z15 (value : Expr) {es : List Expr} {k : Nat} {p : Pos} (line : Nat) : swapsWith value (some (.Tuple es k p)) line env = pure false := by cases value <;> rfl
theorem wc {value t : Expr} (ht : Qw t value = false) : swappedStores [t] value env = pure none := by
  cases t with
  | Tuple => cases value <;> first | rfl | cases ht
  | List => cases ht
  | _ => rfl
theorem Wf {it e' : Expr} (h : xl sc G it = some e') : ∃ x p pos, it = .Call (.Name x p) [e'] [] pos ∧ sc.kind x = some .globalImplicit ∧ G.glob x = some (.bi .enumerate) ∧ yz e' = true ∧ (x == ("__debug__" : Str)) = false := by
  obtain ⟨c, h1, h⟩ := zS h
  obtain ⟨x, h2, h⟩ := zS h
  obtain ⟨a, h3, h⟩ := zS h
  obtain ⟨v, h4, h⟩ := zS h
  obtain ⟨b, h5, h⟩ := zS h
  obtain ⟨⟨q1, q2, q3, q4⟩, h⟩ := zY h
  cases h
  have hb : b = .enumerate := by cases b <;> first | rfl | cases q1
  have hv : v = .bi b := by cases v <;> first | (cases h5; rfl) | cases h5
  exact ⟨x.1, x.2, c.2.2, by rw [Q7 h1, xH h2, j8 h3], q2, by rw [h4, hv, hb], q3, q4⟩
theorem WQ {h : Hp} {v : AV} {a n : Nat} (e : yk h v = some (.ref a, n)) : ∃ xs, v = .ref a ∧ h[a]? = some (.list xs) ∧ n = xs.length := by
  cases v with
  | ref b =>
    have e : (match h[b]? with | some (.list xs) => some (Src.ref b, xs.length) | _ => none) = some (.ref a, n) := e
    cases q : h[b]? with
    | none => rw [q] at e; exact nos e
    | some o =>
      rw [q] at e
      cases o with
      | inst => exact nos e
      | dict => exact nos e
      | list xs => cases e; exact ⟨xs, rfl, q, rfl⟩
  | _ => cases e
theorem Yg {target it e' : Expr} {body : List Stmt} {pos : Pos} {t : NTgt} {bx : XS} {itx : XE} (g : Gd X G) (ht : xY sc target = some t) (he : xl sc G it = some e')
    (hit : zm prog w X n cf sc env (eval e' env) itx) (hb : yi prog w X n cf sc env (execs body env) bx) : yi prog w X n cf sc env (exec (.For target it body [] pos) env) (xQ t itx true bx) := by
  intro fr hp A l μ s Q E H R I V k
  obtain ⟨x, p, cpos, rfl, hk, hg, hstar, hdb⟩ := Wf he
  clear he
  refine wpAny_For ?_ (fun x => xu rfl x)
  rw [WJ (fun o name p h => by cases h), yV env (by simp [hstar]), xN]
  refine wpAny_bind (Zc g hk hg I V hdb fun b' μ0 s0 L0 I0 r0 => ?_)
  rw [r0.bi_]
  show wpAny _ _ (callWith cpos (wa .enumerate) [] ([eval e' env].map fun t => (false, t)) []) _ _ _
  refine ju ?_
  have V0 := V.le I L0
  refine spliced_cons (hit R I0 V0 (PS.bindS (PS.le k L0.own) I0 V0 fun iv iv' h1 μ1 s1 L1 I1 ri k => spliced_nil ?_))
  cases hsrc : yk h1 iv with
  | none => rw [hsrc] at k; exact k.elim
  | some sn =>
  obtain ⟨src, nn⟩ := sn
  rw [hsrc] at k
  cases src with
  | imm => exact k.elim
  | enum => exact k.elim
  | ref a =>
  cases t with
  | one => exact k.elim
  | many is =>
  obtain ⟨xs, rfl, ho, rfl⟩ := WQ hsrc
  obtain ⟨es, kk, tp, rfl⟩ := Y7 ht
  have V1 := V0.le I0 L1
  obtain ⟨c, items, nn', rfl, hm, hl, z, rr⟩ := I1.list_at ri ho
  refine call_enumerate_1 hl fun h' hE hIt hz hk' => ?_
  refine wpAny_pyIter_enum (s := { s1 with heap := h' }) hE ?_
  have fr1 : ∀ b, s1.heap.objs.size ≤ b → s1.heap.get? b = none := fun b hb => by
    cases q : s1.heap.get? b with
    | none => rfl
    | some o => exact absurd (Heap.lt_size q) (Nat.not_lt.mpr hb)
  have hne : s1.heap.objs.size + 1 ≠ s1.heap.objs.size := by lia
  have frI : ∀ b ∈ [s1.heap.objs.size + 1, s1.heap.objs.size], s1.heap.get? b = none := fun b hb => fr1 b (by
    simp at hb
    rcases hb with rfl | rfl
    · exact Nat.le_succ _
    · exact Nat.le_refl _)
  have T : Its X s1.heap μ1 h' [s1.heap.objs.size + 1, s1.heap.objs.size] := by
    refine ⟨frI, fun b hb h => ?_, fun b hb => ?_, (Drives.enum (prog := prog) (w := w) (X := X) (elts := es) (x1 := kk) (pos := tp) (a := a) hne).obj 0 μ1 h' ⟨_, _, hm, hIt, hE⟩⟩
    · obtain ⟨o, ho, _⟩ := I1.mut h
      rw [frI b hb] at ho; exact nos ho
    · cases q : X.base.get? b with
      | none => rfl
      | some o => have := I1.keep b o q; rw [frI b hb] at this; exact nos this
  exact Q0 (s₂ := { s1 with heap := h' }) ht hb H R I1 V1 (Drives.enum hne) T ⟨_, _, hm, hIt, hE⟩ ⟨fun b o _ q => hk' b o q, rfl, rfl⟩ k
theorem QP {e : Expr} {p : Str × Str} (h : Z7 e = some p) : ∃ np k0 ap cp, e = .Call (.Name p.1 np) [.Constant (.str p.2) k0 ap] [] cp := by
  obtain ⟨c, h1, h⟩ := zS h
  obtain ⟨x, h2, h⟩ := zS h
  obtain ⟨a, h3, h⟩ := zS h
  obtain ⟨k, h4, h⟩ := zS h
  obtain ⟨m, h5, rfl⟩ := y6 h
  exact ⟨x.2, k.2.1, k.2.2, c.2.2, by rw [Q7 h1, xH h2, j8 h3, YM h4, z18 h5]⟩
theorem WO {t e : Expr} (h : QH sc t e = true) : ∃ x px y py k tp e1 e2 k' ep, t = .Tuple [.Name x px, .Name y py] k tp ∧ e = .Tuple [e1, e2] k' ep ∧
    ∀ {l : List Env} {fr : AFr} {μ : Mu} {hh : Heap}, EnvR X l sc env fr μ hh → swappedStores [t] e env = pure (some [x, y]) := by
  unfold QH at h
  cases q : ((Wv t).bind fun t => Wu t.1).bind fun p => (wA p.1).bind fun x => (wA p.2).bind fun y => ((Wv e).bind fun t => Wu t.1).map fun q =>
      decide (sc.kind x.1 = some .local) && (decide (sc.kind y.1 = some .local) && ((y.2.line == x.2.line) && (!(x.1 == y.1) && (yz q.1 && (yz q.2 && (!foldedForSure 8 q.1 && !constantsAlone 8 q.1)))))) with
  | none => rw [q] at h; exact nob h
  | some b =>
  rw [q] at h
  cases h
  obtain ⟨p, q1, q⟩ := zS q
  obtain ⟨t1, q0, q1⟩ := zS q1
  obtain ⟨x, q2, q⟩ := zS q
  obtain ⟨y, q3, q⟩ := zS q
  obtain ⟨r, q4, q⟩ := y6 q
  obtain ⟨t2, q5, q4⟩ := zS q4
  obtain ⟨c1, q⟩ := Bool.and_eq_true_iff.mp q
  obtain ⟨c2, q⟩ := Bool.and_eq_true_iff.mp q
  obtain ⟨c3, q⟩ := Bool.and_eq_true_iff.mp q
  obtain ⟨c4, q⟩ := Bool.and_eq_true_iff.mp q
  obtain ⟨c5, q⟩ := Bool.and_eq_true_iff.mp q
  obtain ⟨c6, q⟩ := Bool.and_eq_true_iff.mp q
  obtain ⟨c7, c8⟩ := Bool.and_eq_true_iff.mp q
  refine ⟨x.1, x.2, y.1, y.2, t1.2.1, t1.2.2, r.1, r.2, t2.2.1, t2.2.2, by rw [Z4 q0, Z3 q1, xH q2, xH q3], by rw [Z4 q5, Z3 q4], fun {l fr μ hh} V => ?_⟩
  rw [Z4 q0, Z3 q1, xH q2, xH q3, Z4 q5, Z3 q4]
  have d1 : env.kindOf x.1 = some .local := (V.kind _).symm.trans (of_decide_eq_true c1)
  have d2 : env.kindOf y.1 = some .local := (V.kind _).symm.trans (of_decide_eq_true c2)
  have d0 : env.blockKind = .function := by unfold Env.blockKind; rw [V.fn]; rfl
  have c4 : (x.1 == y.1) = false := by cases hq : (x.1 == y.1) <;> first | rfl | (rw [hq] at c4; exact nob c4)
  have c7 : foldedForSure 8 r.1 = false := by cases hq : foldedForSure 8 r.1 <;> first | rfl | (rw [hq] at c7; exact nob c7)
  have c8 : constantsAlone 8 r.1 = false := by cases hq : constantsAlone 8 r.1 <;> first | rfl | (rw [hq] at c8; exact nob c8)
  have c3 : y.2.line = x.2.line := beq_iff_eq.mp c3
  have c4 : ¬ x.1 = y.1 := beq_eq_false_iff_ne.mp c4
  have st : ∀ (f : Expr → Bool), (∀ e, yz e = true → f e = false) → ([r.1, r.2].any f) = false := fun f h => by
    rw [List.any_cons, List.any_cons, h _ c5, h _ c6]; rfl
  have nm : ∀ (f : Expr → Option Str), f (.Name x.1 x.2) = some x.1 → f (.Name y.1 y.2) = some y.1 → [Expr.Name x.1 x.2, Expr.Name y.1 y.2].filterMap f = [x.1, y.1] := fun f h1 h2 => by
    rw [List.filterMap_cons_some h1, List.filterMap_cons_some h2, List.filterMap_nil]
  have ed : [x.1, y.1].eraseDups.length = 2 := by
    have e : (y.1 == x.1) = false := beq_eq_false_iff_ne.mpr fun h => c4 h.symm
    simp [List.eraseDups, List.eraseDupsBy, List.eraseDupsBy.loop, e]
  unfold swappedStores
  dsimp only
  rw [if_neg (by rw [d0]; exact Bool.false_ne_true), if_neg (by rw [st _ (fun e h => by cases e <;> first | rfl | cases h)]; exact Bool.false_ne_true), nm _ (by
    dsimp only
    rw [d1]; exact if_pos (Bool.and_eq_true_iff.mpr ⟨by decide, beq_self_eq_true x.2.line⟩)) (by
    dsimp only
    rw [d2]; exact if_pos (Bool.and_eq_true_iff.mpr ⟨by decide, beq_iff_eq.mpr c3⟩)), if_neg (by rw [ed]; exact Bool.false_ne_true), if_neg (by rw [List.all_cons, c7]; exact Bool.false_ne_true), if_neg (by rw [List.all_cons, c8]; exact Bool.false_ne_true)]
theorem jy {x y : Str} {px py : Pos} {k k' : Nat} {tp ep pos : Pos} {e1 e2 : Expr} {t : NTgt} {okf : Str → Str → Bool} {z : XE} (ht : xY sc (.Tuple [.Name x px, .Name y py] k tp) = some t)
    (hw : ∀ {l : List Env} {fr : AFr} {μ : Mu} {hh : Heap}, EnvR X l sc env fr μ hh → swappedStores [.Tuple [.Name x px, .Name y py] k tp] (.Tuple [e1, e2] k' ep) env = pure (some [x, y])) (h : zm prog w X n cf sc env (eval (.Tuple [e1, e2] k' ep) env) z) :
    yi prog w X n cf sc env (exec (.Assign [.Tuple [.Name x px, .Name y py] k tp] (.Tuple [e1, e2] k' ep) pos) env) (z8 okf (.names t) z) := by
  intro fr hp A l μ s Q E T R I V k
  refine PyProof.Rows.Assign_Tuple_swapped (names := [x, y]) (h R I V (PS.bindS k I V fun a v' h1 μ1 s1 L1 I1 r k => ?_)) rfl (hw V)
  have k : PS X l sc env μ1 s1 (match t.bind a fr with
    | some fr₁ => OS.ok .next fr₁ h1
    | none => .stuck) Q E := k
  cases hb : t.bind a fr with
  | none => rw [hb] at k; exact k.elim
  | some fr₁ =>
    rw [hb] at k
    have ht : (match ya (xe sc) [.Name x px, .Name y py] with
      | some is => if is.length ≤ 10 ∧ is.Nodup then some (NTgt.many is) else none
      | none => none) = some t := ht
    cases hi : ya (xe sc) [.Name x px, .Name y py] with
    | none => rw [hi] at ht; exact nos ht
    | some is =>
    rw [hi] at ht
    obtain ⟨⟨_, nd⟩, rfl⟩ := zY ht
    obtain ⟨i, is1, e1, e2, rfl⟩ := wB hi
    obtain ⟨j, is2, e3, e4, rfl⟩ := wB e2
    cases e4
    obtain ⟨hkx, hsx⟩ := qZ (show sc.isOwn x = some i from e1)
    obtain ⟨hky, hsy⟩ := qZ (show sc.isOwn y = some j from e3)
    cases a with
    | tup xs =>
      obtain ⟨u1, ws, rfl, hl1, hb⟩ := j3 (show yb [i, j] xs fr = some fr₁ from hb)
      obtain ⟨u2, ws, rfl, hl2, hb⟩ := j3 hb
      cases ws with
      | cons => exact nos hb
      | nil =>
      cases hb
      obtain ⟨c, items, rfl, hT, z, rs⟩ := r.tup_
      have hsz : items.size = 2 := by rw [rs.size]; rfl
      have un := PyProof.Rows.unpackItems_tuple (prog := prog) (w := w) (A := A) (E := E) (s := s1) (Q := fun items s₂ => wpAny (model prog w) A (assignInOrder ([x, y].reverse.map fun n => bindName env n) items.reverse) (fun _ => Q .next) E s₂) R.handled hT fun h' he => by
        have kp : ∀ b o, s1.heap.get? b = some o → h'.get? b = some o := fun b o e => he b o (Nat.ne_of_lt (Heap.lt_size e)) e
        obtain ⟨v1, r1, eq1, rv1, rs⟩ := rs.cons_
        obtain ⟨v2, r2, rfl, rv2, rs⟩ := rs.cons_
        cases rs
        rw [eq1]
        have I2 := I1.grow (t := s1.toks) kp
        have L2 : Le noS μ1 s1 μ1 { s1 with heap := h' } := .ofKeep kp
        have V2 := (V.le I L1).le I1 L2
        refine PyProof.Rows.assignInOrder_cons (qH (cb := true) I2 V2 hky (fun _ => rfl) hsy (by rw [List.length_set] at hl2; exact hl2) (rv2.le I1 L2) fun s3 L3 I3 V3 => ?_)
        refine PyProof.Rows.assignInOrder_cons (qH (cb := true) I3 V3 hkx (fun _ => rfl) hsx (by rw [List.length_set]; exact hl1) ((rv1.le I1 L2).mono (List.prefix_refl _) (L3.fixOwn V2 I2)) fun s4 L4 I4 V4 => ?_)
        have hne : j ≠ i := fun h => (List.nodup_cons.mp nd).1 (h ▸ .head _)
        rw [List.set_comm _ _ hne] at V4
        exact wpAny_pure (k _ μ1 s4 ((Le.ofKeep kp).trans ((L3.trans L4).weak fun _ h => xG h)) I4 V4 .next)
      rw [hsz] at un
      exact un
    | _ => exact nos hb
theorem z0w {e : Expr} {v : HV} (h : z0x sc e = some v) : (∃ i k p, e = .Constant (.int i) k p ∧ v = .int i) ∨ (∃ z p j, e = .Name z p ∧ sc.isOwn z = some j ∧ v = .slot j ∧ (z == ("__debug__" : Str)) = false ∧ (z == ("__classdict__" : Str)) = false) := by
  have h : (match Zh e with
    | some k => (zCd k.1).map HV.int
    | none => (wA e).bind fun x => (sc.isOwn x.1).bind fun j => if (x.1 == ("__debug__" : Str)) = false ∧ (x.1 == ("__classdict__" : Str)) = false then some (.slot j) else none) = some v := h
  cases q : Zh e with
  | some k =>
    rw [q] at h
    obtain ⟨i, h1, rfl⟩ := y6 h
    exact .inl ⟨i, k.2.1, k.2.2, by rw [YM q, z20 h1], rfl⟩
  | none =>
    rw [q] at h
    obtain ⟨x, h1, h⟩ := zS h
    obtain ⟨j, h2, h⟩ := zS h
    obtain ⟨h3, rfl⟩ := zY h
    exact .inr ⟨x.1, x.2, j, xH h1, h2, rfl, h3⟩
theorem X2 {hs : List ExceptHandler} {p : Str × Nat × HV} (h : wO sc hs = some p) : ∃ np y yp e ap hp, hs = [.ExceptHandler (some (.Name p.1 np)) none [.Assign [.Name y yp] e ap] hp] ∧ sc.isOwn y = some p.2.1 ∧ z0x sc e = some p.2.2 := by
  obtain ⟨h0, h1, h⟩ := zS h
  obtain ⟨t, h2, h⟩ := zS h
  obtain ⟨x, h3, h⟩ := zS h
  obtain ⟨s, h4, h⟩ := zS h
  obtain ⟨a, h5, h⟩ := zS h
  obtain ⟨y, h6, h⟩ := zS h
  obtain ⟨y', h7, h⟩ := zS h
  obtain ⟨i, h8, h⟩ := zS h
  obtain ⟨v, h9, h⟩ := zS h
  obtain ⟨h10, rfl⟩ := zY h
  exact ⟨x.2, y'.1, y'.2, a.2.1, a.2.2, (jq h0).2.2.2, by rw [j8 h1, z01 h0, h2, Option.isNone_iff_eq_none.mp h10, xH h3, j8 h4, z2g h5, j8 h6, xH h7]; rfl, h8, h9⟩
theorem z1c {b : List Stmt} {bx : XS} {x y : Str} {e : Expr} {i : Nat} {v : HV} {np yp ap hpos pos : Pos} (g : Gd X G) (hx : G.exc x = true) (hk : sc.kind x = some .globalImplicit) (hd : (x == ("__debug__" : Str)) = false) (hy : sc.isOwn y = some i) (hv : z0x sc e = some v)
    (hb : yi prog w X n cf sc env (execs b env) bx) : yi prog w X n cf sc env (exec (.Try b [.ExceptHandler (some (.Name x np)) none [.Assign [.Name y yp] e ap] hpos] [] [] pos) env) (Yl bx x i v) := by
  intro fr hp A l μ s Q E T R I V k
  have k : PS X l sc env μ s (match bx cf fr hp with
    | .stuck => .stuck
    | .ok fl fr' h' => .ok fl fr' h'
    | .exc nw c' fr' h' => (match nw with
      | true => .stuck
      | false => if c' = x ∧ i < fr'.length then (match v.of fr' with
        | some u => .ok .next (fr'.set i (some u)) h'
        | none => .stuck) else .stuck)) Q E := k
  refine wpAny_Try_except (hb T R I V ?_)
  cases q : bx cf fr hp with
  | stuck => rw [q] at k; exact k.elim
  | ok fl fr' h' =>
    rw [q] at k
    intro fl' μ' s' L' I' V' r
    cases fl with
    | next => rw [r.next_]; exact wpAny_execs_nil (k .next μ' s' L' I' V' .next)
    | ret u =>
      obtain ⟨u', rfl, ru⟩ := r.ret_
      exact k _ μ' s' L' I' V' (.ret ru)
  | exc nw c' fr' h' =>
    rw [q] at k
    cases nw with
    | true => exact k.elim
    | false =>
    have k2 : PS X l sc env μ s (if c' = x ∧ i < fr'.length then (match v.of fr' with
        | some u => .ok .next (fr'.set i (some u)) h'
        | none => .stuck) else .stuck) Q E := k
    clear k
    by_cases hc : c' = x ∧ i < fr'.length
    rotate_left
    · rw [if_neg hc] at k2; exact k2.elim
    rw [if_pos hc] at k2
    obtain ⟨hc, hi⟩ := hc
    subst hc
    cases hu : v.of fr' with
    | none => rw [hu] at k2; exact k2.elim
    | some u =>
    rw [hu] at k2
    rintro e μ' s' B C hC ⟨a0, hfl⟩ cl
    obtain ⟨outer, rfl, hf⟩ := T
    refine wpAny_looks_onW R.frames hf hfl fun h₄ hheld hsm₄ => wpAny_landsW hheld fun h₅ hfl₅ hsm₅ => ?_
    have U5 := hsm₄.trans hsm₅
    obtain ⟨_, I5, V5⟩ := cl h₅ s'.toks hfl₅.1 U5
    obtain ⟨ob, hob, hobc⟩ := hfl₅.there
    obtain ⟨C', mg, hC', O⟩ := g.exc c' hx
    rw [hC] at hC'; cases hC'
    obtain ⟨tl, N, nm, q, bs, hdct, sn, sub, ab, col, dd, k0, k1, k2', k3, k5, mN, hCo, hN, hni, TL⟩ := (O.keeps I5.keep).obj
    refine wpAny_handleBy_cons (codeAny_handlers_test (jk g hk hC I5 V5 hd ?_)) (by intro q; cases q)
    refine wpAny_excMatches_sub_self hCo hob hobc (TL.hasType PySem.F.excBase_ValueError.hasBase) (codeAny_handlers_suite ?_)
    refine PyProof.Rows.lands_againW hfl₅ fun h₆ hfl₆ hsm₆ => ?_
    obtain ⟨L6, I6, V6⟩ := cl h₆ s'.toks hfl₆.1 (U5.trans hsm₆)
    obtain ⟨hky, hsy⟩ := qZ hy
    have go : ∀ {A' : Around} {E' : Value → Shared → Prop} {u' : Value} {μ7 : Mu} {s7 : Shared} {Q' : Unit → Shared → Prop}, Le noS μ' { s' with heap := h₆ } μ7 s7 → Inv X μ7 h' s7 → VR X μ7 s7.heap u u' → (∀ s8, Q .next s8 → Q' () s8) → wpAny (model prog w) A' (assign (.Name y yp) env u') Q' E' s7 := fun L7 I7 ru hq => by
      rw [PySem.assign_Name]
      exact wpAny_bind (wpAny_standAt (qH (cb := true) I7 (V6.le I6 L7) hky (fun _ => rfl) hsy hi ru fun s8 L8 I8 V8 => hq _ (k2 .next _ s8 (L6.trans (L7.own.trans (L8.weak fun _ h => xG h))) I8 V8 .next)))
    rcases z0w hv with ⟨j, kk, p, rfl, rfl⟩ | ⟨z, p, j, rfl, hz, rfl, z1, z2⟩
    · cases hu
      refine wpAny_execs_cons (qJ rfl (wz rfl _ _) (wc rfl) ?_)
      refine wpAny_mkInt ?_
      exact go (.tok _) (I6.tok _) (.int _ _) fun s7 hq => wpAny_execs_nil hq
    · have hu : (fr'[j]?).join = some u := hu
      obtain ⟨kz, sz⟩ := qZ hz
      refine wpAny_execs_cons (qJ rfl (wz rfl _ _) (wc rfl) ?_)
      cases hf : fr'[j]? with
      | none => rw [hf] at hu; exact nos hu
      | some o =>
        rw [hf] at hu
        have hu : o = some u := hu
        subst hu
        exact Y1 (kz.imp id .inl) sz hf I6 V6 z1 z2 fun u' μ7 s7 L7 I7 ru => go L7 I7 ru fun s7 hq => wpAny_execs_nil hq
theorem z0a (g : Gd X G) (hcf : SndCF prog w X n cf) (f : Nat) : (∀ sc env st, yi prog w X n cf sc env (exec st env) (dS G f sc st)) ∧ (∀ sc env sts, yi prog w X n cf sc env (execs sts env) (dSs G f sc sts)) := by
  induction f with
  | zero => exact ⟨fun _ _ _ => zx (cf := cf), fun _ _ _ => zx (cf := cf)⟩
  | succ f ih =>
    obtain ⟨hS, hSs⟩ := ih
    obtain ⟨hE, hT, hO⟩ := WH g hcf f
    refine ⟨fun sc env st => ?_, fun sc env sts => WS (hS _ _) sts⟩
    cases st with
    | Return eo pos =>
      cases eo with
      | some e => exact z1d (hE _ _ _)
      | none => exact J6 (cf := cf)
    | Expr e₀ pos => exact qx fun h => JB (wz h _ _) (hE _ _ _)
    | Assign ts e₀ pos =>
      cases ts with
      | nil => exact zx (cf := cf)
      | cons t ts =>
      cases ts with
      | cons _ _ => exact zx (cf := cf)
      | nil =>
        refine qx fun hsb => ?_
        rcases hsb with hsb | hsb
        rotate_left
        · obtain ⟨x, px, y, py, k, tp, e1, e2, k', ep, rfl, rfl, hw⟩ := WO (X := X) (env := env) hsb
          show yi prog w X n cf sc env _ (z8 G.okf (match xY sc (.Tuple [.Name x px, .Name y py] k tp) with | some t => .names t | none => .none) (dE G f sc (.Tuple [e1, e2] k' ep)))
          cases ht : xY sc (.Tuple [.Name x px, .Name y py] k tp) with
          | none => exact xV (cf := cf)
          | some t' => exact jy ht (fun V => hw V) (hE _ _ _)
        have hw := wc (env := env) hsb
        cases t with
        | Name x px =>
          show yi prog w X n cf sc env _ (z8 G.okf (match xY sc (.Name x px) with | some t => .names t | none => .none) (dE G f sc e₀))
          cases ht : xY sc (.Name x px) with
          | none => exact xV (cf := cf)
          | some t' =>
            cases hc : Qc e₀ with
            | false => exact xU ht (wz hc _ _) hw (hE _ _ _)
            | true =>
              cases e₀ with
              | ListComp elt gs sp lp =>
                obtain ⟨b, hb⟩ : ∃ b, swapsWith (.ListComp elt gs sp lp) (some (.Name x px)) pos.line env = pure b := ⟨_, rfl⟩
                cases b with
                | false => exact xU ht hb hw (hE _ _ _)
                | true =>
                cases f with
                | zero => exact ym (cf := cf)
                | succ f =>
                obtain ⟨hE', hT', hO'⟩ := WH g hcf f
                cases gs with
                | nil => exact ym (cf := cf)
                | cons gg gs =>
                cases gs with
                | cons _ _ => exact ym (cf := cf)
                | nil =>
                  obtain ⟨target, iter, ifs, as⟩ := gg
                  show yi prog w X n cf sc env _ (z8 G.okf (.names t') (if qG sc sp = true ∧ as = 0 ∧ j9 iter = true ∧ xF sp target = true then (match xY (sc.inner sp) target with
                    | some t => yh (dE G f sc iter) (zj sp).length t (zT .And (ifs.map (dT G f (sc.inner sp)))) (dE G f (sc.inner sp) elt)
                    | none => zi) else zi))
                  by_cases h : qG sc sp = true ∧ as = 0 ∧ j9 iter = true ∧ xF sp target = true
                  · rw [if_pos h]
                    have h2 : as = 0 := h.2.1
                    subst h2
                    cases ht' : xY (sc.inner sp) target with
                    | none => exact ym (cf := cf)
                    | some t =>
                      exact Z0 h.1 ht' h.2.2.2 h.2.2.1 (fun env' => qw (wL (hT' _ _) _)) (fun env' => hE' _ _ _) (hE' _ _ _) ht hb
                  · rw [if_neg h]; exact ym (cf := cf)
              | SetComp => cases f <;> exact ym (cf := cf)
              | DictComp => cases f <;> exact ym (cf := cf)
              | _ => exact nob hc
        | Attribute o name p =>
          show yi prog w X n cf sc env _ (z8 G.okf (if qQ o = false then .attr (dE G f sc o) name else .none) (dE G f sc e₀))
          by_cases h : qQ o = false
          · rw [if_pos h]; exact Z1 g (z17 e₀ _) (hE _ _ _) (hE _ _ _)
          · rw [if_neg h]; exact xV (cf := cf)
        | Subscript o i p =>
          show yi prog w X n cf sc env _ (z8 G.okf (match qL i with | some _ => .none | none => .item (dE G f sc o) (dE G f sc i)) (dE G f sc e₀))
          cases qL i with
          | some _ => exact xV (cf := cf)
          | none => exact jz (z16 e₀ _) (hE _ _ _) (hE _ _ _) (hE _ _ _)
        | Tuple es kk p =>
          show yi prog w X n cf sc env _ (z8 G.okf (match xY sc (.Tuple es kk p) with | some t => .names t | none => .none) (dE G f sc e₀))
          cases ht : xY sc (.Tuple es kk p) with
          | none => exact xV (cf := cf)
          | some t' => exact xU ht (z15 e₀ _) hw (hE _ _ _)
        | List => cases hsb
        | _ =>
          show yi prog w X n cf sc env _ (z8 G.okf .none (dE G f sc e₀))
          exact xV (cf := cf)
    | Raise eo co pos =>
      cases co with
      | some _ => exact zx (cf := cf)
      | none =>
      cases eo with
      | none => exact zx (cf := cf)
      | some e₀ =>
        show yi prog w X n cf sc env _ (match Z7 e₀ with
          | some p => if G.exc p.1 = true ∧ sc.kind p.1 = some .globalImplicit ∧ (p.1 == ("__debug__" : Str)) = false ∧ p.2.length ≤ small then yn p.1 else yE
          | none => yE)
        cases q : Z7 e₀ with
        | none => exact zx (cf := cf)
        | some p =>
          obtain ⟨np, k0, ap, cp, rfl⟩ := QP q
          exact qx fun h => WR (cf := cf) g h.1 h.2.1 h.2.2.1 h.2.2.2
    | Try b hs el fi pos =>
      cases el with
      | cons _ _ => exact zx (cf := cf)
      | nil =>
      cases fi with
      | cons _ _ => exact zx (cf := cf)
      | nil =>
        show yi prog w X n cf sc env _ (match wO sc hs with
          | some p => if G.exc p.1 = true ∧ sc.kind p.1 = some .globalImplicit ∧ (p.1 == ("__debug__" : Str)) = false then Yl (dSs G f sc b) p.1 p.2.1 p.2.2 else yE
          | none => yE)
        cases q : wO sc hs with
        | none => exact zx (cf := cf)
        | some p =>
          obtain ⟨np, y, yp, e, ap, hpp, rfl, hy, hv⟩ := X2 q
          exact qx fun h => z1c (cf := cf) g h.1 h.2.1 h.2.2 hy hv (hSs _ _ _)
    | If t a b pos => exact z1g (hT _ _ _) (hSs _ _ _) (hSs _ _ _)
    | For t it b els pos =>
      cases els with
      | cons _ _ => exact zx (cf := cf)
      | nil =>
        show yi prog w X n cf sc env _ (match xY sc t with
          | some t => (match xl sc G it with
            | some e => xQ t (dE G f sc e) true (dSs G f sc b)
            | none => if j9 it = true then xQ t (dE G f sc it) false (dSs G f sc b) else yE)
          | none => yE)
        cases ht : xY sc t with
        | none => exact zx (cf := cf)
        | some t' =>
          dsimp only
          cases he : xl sc G it with
          | some e => exact Yg g ht he (hE _ _ _) (hSs _ _ _)
          | none => exact qx fun h => z1i ht h (hE _ _ _) (hSs _ _ _)
    | _ => exact zx (cf := cf)
end
noncomputable def z1y : Value → Bool
  | .none => true
  | _ => false
noncomputable def y3 (s : Scope) (ps : List Str) : List Str := ps ++ ((s.names.filter fun p => p.2 == .local || p.2 == .cell).map (·.1)).filter fun x => !ps.contains x
noncomputable def JS (s : Scope) (ps : List Str) : Sc where
  kind := fun x => s.names.lookup x
  slot := fun x => jI x (y3 s ps) 0
  width := (y3 s ps).length
noncomputable def yT (fd : FuncData) : List Str := fd.params.args.map (·.arg)
noncomputable def X4 (K : Frag) (fd : FuncData) : Bool :=
  fd.params.posonlyargs.isEmpty && fd.params.kwonlyargs.isEmpty && fd.params.vararg.isNone && fd.params.kwarg.isNone && z1y fd.defaults && fd.closure.isEmpty && codeIn K fd.code fd.qualname && fd.scope.kind == .function &&
  !fd.scope.isCoroutine && !fd.scope.isGenerator && fd.globals == mainGlobals && fd.builtins == builtinsNs && (yT fd).Nodup && (yT fd).all (fun x => fd.scope.names.lookup x == some .local || fd.scope.names.lookup x == some .cell) &&
  fd.scope.names.all fun p => p.2 == .local || p.2 == .cell || p.2 == .globalImplicit
noncomputable def zE3 : Data → Option FuncData
  | .func fd => some fd
  | _ => none
noncomputable def zCx : FuncBody → Option (List Stmt)
  | .stmts b => some b
  | _ => none
theorem z23 {d : Data} {fd : FuncData} (h : zE3 d = some fd) : d = .func fd := by
  cases d with
  | func => cases h; rfl
  | _ => exact nos h
theorem z19 {d : FuncBody} {b : List Stmt} (h : zCx d = some b) : d = .stmts b := by
  cases d with
  | stmts => cases h; rfl
  | _ => exact nos h
noncomputable def z24 (G : GTab) (fd : FuncData) (body : List Stmt) : Fn := ⟨(yT fd).length, (y3 fd.scope (yT fd)).length, dSs G 60 (JS fd.scope (yT fd)) body⟩
noncomputable def Q1 (G : GTab) (K : Frag) (f : Addr) : Option Fn := (K.lookup f).bind fun o => (zE3 o.data).bind fun fd => if X4 K fd = true then (zCx fd.body).map (z24 G fd) else none
theorem WE {G : GTab} {K : Frag} {f : Addr} {F : Fn} (h : Q1 G K f = some F) : ∃ o fd b, K.lookup f = some o ∧ o.data = .func fd ∧ X4 K fd = true ∧ fd.body = .stmts b ∧ F = z24 G fd b := by
  obtain ⟨o, h1, h⟩ := zS h
  obtain ⟨fd, h2, h⟩ := zS h
  obtain ⟨h3, h⟩ := X1 h
  obtain ⟨b, h4, h5⟩ := y6 h
  exact ⟨o, fd, b, h1, z23 h2, h3, z19 h4, h5.symm⟩
theorem Y0 : ∀ (ps : List Str) (vals : List Value), ps.Nodup → vals.length = ps.length → ps.filterMap (fun n => ((ps.zip vals).lookup n).map (n, ·)) = ps.zip vals := by
  intro ps vals nd hl
  have key : ∀ (qs : List Str) (us : List Value) (pre : List (Str × Value)), us.length = qs.length → qs.Nodup → (∀ x ∈ qs, pre.lookup x = none) → qs.filterMap (fun n => ((pre ++ qs.zip us).lookup n).map (n, ·)) = qs.zip us := by
    intro qs
    induction qs with
    | nil => intro us pre h _ _; cases us <;> simp
    | cons q qs ih =>
      intro us pre h nd hp
      cases us with
      | nil => cases h
      | cons u us =>
        have e : (pre ++ (q, u) :: qs.zip us).lookup q = some u := by
          rw [List.lookup_append, hp q (.head _)]; simp
        rw [List.zip_cons_cons, List.filterMap_cons, e]
        simp only [Option.map_some]
        congr 1
        have := ih us (pre ++ [(q, u)]) (by simpa using h) (List.nodup_cons.mp nd).2 (fun x hx => by
          rw [List.lookup_append, hp x (.tail _ hx)]
          have : (x == q) = false := by
            simp only [beq_eq_false_iff_ne, ne_eq]; rintro rfl; exact (List.nodup_cons.mp nd).1 hx
          simp [List.lookup_cons, this])
        rw [List.append_assoc] at this
        exact this
  exact key ps vals [] hl nd (fun _ _ => rfl)
theorem qr : ∀ {ps : List Str} {vals : List Value}, vals.length = ps.length → ∀ x ∈ ps, ((ps.zip vals).lookup x).isNone = false
  | [], _, _, x, h => by cases h
  | p :: ps, [], h, _, _ => by cases h
  | p :: ps, v :: vals, h, x, hx => by
    rw [List.zip_cons_cons, List.lookup_cons]
    split
    · rfl
    · rename_i hq
      cases hx with
      | head => simp at hq
      | tail _ hx => exact qr (by simpa using h) x hx
theorem Zo {fd : FuncData} {vals : List Value} (h1 : fd.params.posonlyargs = []) (h2 : fd.params.kwonlyargs = []) (h3 : fd.params.vararg = none) (h4 : fd.params.kwarg = none) (h5 : fd.defaults = .none) (nd : (yT fd).Nodup)
    (hl : vals.length = (yT fd).length) : bindArgs fd ⟨vals, []⟩ = pure ((yT fd).zip vals) := by
  have hz := Y0 (yT fd) vals nd hl
  have hm : (yT fd).filter (fun n => (((yT fd).zip vals).lookup n).isNone) = [] := List.filter_eq_nil_iff.mpr fun x hx => by rw [qr hl x hx]; simp
  unfold yT at hz hm hl
  unfold bindArgs yT
  simp only [h1, h2, h3, h4, h5, List.map_nil, List.nil_append, List.append_nil, List.forIn_nil, pure_bind]
  rw [show seqItems? Value.none = pure none from rfl, pure_bind]
  have g0 : (decide (vals.length > (fd.params.args.map fun x => x.arg).length) && (none : Option Arg).isNone) = false := by simp [hl]
  rw [if_neg (by rw [g0]; simp)]
  simp only [Option.getD_none, List.drop_nil, List.length_nil, Nat.sub_zero, List.take_length, hm, List.isEmpty_nil, Bool.not_true, Bool.false_eq_true, if_false, List.zip_nil_right, List.forIn_nil, pure_bind, hz]
theorem YU {kd : Str → Option NameKind} {x : Str} : ∀ {ps : List Str} {vals : List Value} {m : Str → Option Value}, x ∉ ps → bindL kd (ps.zip vals) m x = m x
  | [], vals, m, _ => by simp [bindL]
  | p :: ps, [], m, _ => by simp [bindL]
  | p :: ps, v :: vals, m, h => by
    rw [List.zip_cons_cons, bindL, YU (fun q => h (.tail _ q))]
    split
    · exact if_neg (fun (q : x = p) => h (q ▸ .head _))
    · rfl
theorem Q8 {kd : Str → Option NameKind} {x : Str} (hk : kd x = some .local) : ∀ {ps : List Str} {vals : List Value} {m : Str → Option Value} {i : Nat} {v : Value}, ps.Nodup → ps[i]? = some x → vals[i]? = some v → bindL kd (ps.zip vals) m x = some v
  | [], _, _, _, _, _, h, _ => by cases h
  | p :: ps, [], _, _, _, _, _, h => by cases h
  | p :: ps, u :: vals, m, 0, v, nd, h1, h2 => by
    cases h1; cases h2
    rw [List.zip_cons_cons, bindL, YU (List.nodup_cons.mp nd).1, if_pos hk]; simp
  | p :: ps, u :: vals, m, i + 1, v, nd, h1, h2 => by
    rw [List.zip_cons_cons, bindL]
    exact Q8 hk (List.nodup_cons.mp nd).2 (i := i) h1 h2
theorem YV {kd : Str → Option NameKind} {x : Str} : ∀ {ps : List Str} {vals : List Value} {m : Str → Option Value}, x ∉ ps → bindC kd (ps.zip vals) m x = m x
  | [], vals, m, _ => by simp [bindC]
  | p :: ps, [], m, _ => by simp [bindC]
  | p :: ps, v :: vals, m, h => by
    rw [List.zip_cons_cons, bindC, YV (fun q => h (.tail _ q))]
    split
    · rfl
    · exact if_neg (fun (q : x = p) => h (q ▸ .head _))
theorem QA {kd : Str → Option NameKind} {x : Str} (hk : kd x ≠ some .local) : ∀ {ps : List Str} {vals : List Value} {m : Str → Option Value} {i : Nat} {v : Value}, ps.Nodup → ps[i]? = some x → vals[i]? = some v → bindC kd (ps.zip vals) m x = some v
  | [], _, _, _, _, _, h, _ => by cases h
  | p :: ps, [], _, _, _, _, _, h => by cases h
  | p :: ps, u :: vals, m, 0, v, nd, h1, h2 => by
    cases h1; cases h2
    rw [List.zip_cons_cons, bindC, YV (List.nodup_cons.mp nd).1, if_neg hk]; simp
  | p :: ps, u :: vals, m, i + 1, v, nd, h1, h2 => by
    rw [List.zip_cons_cons, bindC]
    exact QA hk (List.nodup_cons.mp nd).2 (i := i) h1 h2
theorem xh {x : Str} : ∀ {names : List (Str × NameKind)} {k : Nat} {acc : List (Str × Addr)}, ((x, NameKind.cell) ∈ names ∨ ∃ c, acc.lookup x = some c) → ∃ c, (cellsFrom k names acc).lookup x = some c
  | [], k, acc, h => by
    rcases h with h | h
    · cases h
    · exact h
  | (n, kd) :: r, k, acc, h => by
    unfold cellsFrom
    split
    · refine xh ?_
      rcases h with h | ⟨c, h⟩
      · cases h with
        | head => exact .inr ⟨k, by simp⟩
        | tail _ h => exact .inl h
      · refine .inr ?_
        rw [List.lookup_cons]
        split
        · exact ⟨_, rfl⟩
        · exact ⟨c, h⟩
    · rename_i hk
      refine xh ?_
      rcases h with h | h
      · cases h with
        | head => exact absurd rfl hk
        | tail _ h => exact .inl h
      · exact .inr h
structure FnGood (K : Frag) (fd : FuncData) : Prop where
  p1 : fd.params.posonlyargs = []
  p2 : fd.params.kwonlyargs = []
  p3 : fd.params.vararg = none
  p4 : fd.params.kwarg = none
  p5 : fd.defaults = .none
  clo : fd.closure = []
  code : codeIn K fd.code fd.qualname = true
  kind : fd.scope.kind = .function
  co : fd.scope.isCoroutine = false
  gen : fd.scope.isGenerator = false
  glob : fd.globals = mainGlobals
  bltn : fd.builtins = builtinsNs
  nd : (yT fd).Nodup
  par : ∀ x ∈ yT fd, fd.scope.names.lookup x = some .local ∨ fd.scope.names.lookup x = some .cell
  names : ∀ p ∈ fd.scope.names, p.2 = .local ∨ p.2 = .cell ∨ p.2 = .globalImplicit
theorem Wi {K : Frag} {fd : FuncData} (h : X4 K fd = true) : FnGood K fd := by
  unfold X4 at h
  simp only [Bool.and_eq_true, List.isEmpty_iff, Option.isNone_iff_eq_none, beq_iff_eq, Bool.not_eq_true', decide_eq_true_eq, List.all_eq_true, Bool.or_eq_true] at h
  obtain ⟨⟨⟨⟨⟨⟨⟨⟨⟨⟨⟨⟨⟨⟨h1, h2⟩, h3⟩, h4⟩, h5⟩, h6⟩, h7⟩, h8⟩, h9⟩, h10⟩, h11⟩, h12⟩, h13⟩, h14⟩, h15⟩ := h
  refine ⟨h1, h2, h3, h4, ?_, h6, h7, h8, h9, h10, h11, h12, h13, h14, fun p hp => ?_⟩
  · cases q : fd.defaults <;> rw [q] at h5 <;> first | rfl | cases h5
  · rcases h15 p hp with (h | h) | h
    · exact .inl h
    · exact .inr (.inl h)
    · exact .inr (.inr h)
section
variable {prog : Program} {w : World} {X : Cx} {G : GTab} {n : Nat} {cf : CF} {A : Around} {E : Value → Shared → Prop} {s s' : Shared} {μ : Mu} {hp hp' : Hp} {Q : Value → Shared → Prop} {l : List Env}
theorem z27 {K : Frag} {fd : FuncData} {f : Addr} {args : List AV} {args' : List Value} (H : FnGood K fd) (I : Inv X μ hp s) (ra : VRs X μ s.heap args args') (hl : args.length = (yT fd).length) (F : Frs X l μ s.heap)
    (x : InCallC s (callEnvC fd s.heap.objs.size f).locals (bindL (callEnvC fd s.heap.objs.size f).kindOf ((yT fd).zip args') fun _ => none) (callEnvC fd s.heap.objs.size f).cells
        (bindC (callEnvC fd s.heap.objs.size f).kindOf ((yT fd).zip args') fun _ => none) s') :
    EnvR X (callEnvC fd s.heap.objs.size f :: l) (JS fd.scope (yT fd)) (callEnvC fd s.heap.objs.size f) (args.map some ++ List.replicate ((y3 fd.scope (yT fd)).length - (yT fd).length) none) μ s'.heap ∧ (∀ b, own (callEnvC fd s.heap.objs.size f) b → s.heap.get? b = none) ∧
      Inv X μ hp s' ∧ Le noS μ s μ s' := by
  obtain ⟨⟨⟨h₁, tk, e₁⟩, ns, kp, fr⟩, cel, ap, ab⟩ := x
  have eL : (callEnvC fd s.heap.objs.size f).locals = s.heap.objs.size := rfl
  have eC : (callEnvC fd s.heap.objs.size f).cells = cellsFrom (s.heap.objs.size + 1) fd.scope.names [] := rfl
  have fresh : ∀ b, s.heap.objs.size ≤ b → s.heap.get? b = none := fun b hb => by
    cases q : s.heap.get? b with
    | none => rfl
    | some o => exact absurd (Heap.lt_size q) (Nat.not_lt.mpr hb)
  have fown : ∀ b, own (callEnvC fd s.heap.objs.size f) b → s.heap.get? b = none := fun b h => by
    rcases h with rfl | ⟨x, hx⟩
    · exact fresh _ (Nat.le_refl _)
    · exact fresh _ (Nat.le_of_lt (ab x b (mem_of_lookup hx)))
  have nin : ∀ b, s.heap.get? b = none → b ∉ zb μ := fun b h q => by
    obtain ⟨o, ho, _⟩ := I.mut q; rw [h] at ho; exact nos ho
  have bas : ∀ b, s.heap.get? b = none → X.base.get? b = none := fun b h => by
    cases q : X.base.get? b with
    | none => rfl
    | some o => have := I.keep b o q; rw [h] at this; exact nos this
  have I' : Inv X μ hp s' := by rw [e₁] at kp ⊢; exact I.grow kp
  have L' : Le noS μ s μ s' := .ofKeep kp
  have rl : ∀ {x : AV} {v : Value}, VR X μ s.heap x v → VR X μ s'.heap x v := fun r => r.le I L'
  have lens := ra.length
  have sl : ∀ x i, (JS fd.scope (yT fd)).slot x = some i → i < (y3 fd.scope (yT fd)).length ∧ (y3 fd.scope (yT fd))[i]? = some x := fun x i h => by
    obtain ⟨_, b, c⟩ := Zb (show jI x (y3 fd.scope (yT fd)) 0 = some i from h)
    exact ⟨by lia, by simpa using c⟩
  have val : ∀ {i : Nat} {v : AV}, (args.map some ++ List.replicate ((y3 fd.scope (yT fd)).length - (yT fd).length) none)[i]? = some (some v) → ∃ v', args'[i]? = some v' ∧ VR X μ s.heap v v' ∧ i < (yT fd).length := by
    intro i v h
    by_cases hi : i < args.length
    · rw [List.getElem?_append_left (by simpa using hi), List.getElem?_map] at h
      obtain ⟨a, h1, h2⟩ := y6 h
      cases h2
      obtain ⟨v', e, r⟩ := ra.get h1
      exact ⟨v', e, r, by lia⟩
    · rw [List.getElem?_append_right (by simpa using hi), List.getElem?_replicate] at h
      split at h <;> cases h
  have nam : ∀ {i : Nat} {x : Str}, i < (yT fd).length → (y3 fd.scope (yT fd))[i]? = some x → (yT fd)[i]? = some x := by
    intro i x hi h
    unfold y3 at h
    rwa [List.getElem?_append_left hi] at h
  refine ⟨⟨H.kind, H.glob, H.bltn, fun x => rfl, ⟨_, ns, fun x i v h1 h2 h3 => ?_⟩, fun x i h1 h2 => ?_, nin _ (fresh _ (Nat.le_refl _)), bas _ (fresh _ (Nat.le_refl _)), fun x c hc => ⟨nin _ (fown _ (.inr ⟨x, hc⟩)), _, cel x c hc⟩, fun x c hc => bas _ (fown _ (.inr ⟨x, hc⟩)),
    fun x y c h1 h2 => name_of_addr ap (mem_of_lookup h1) (mem_of_lookup h2), fun x y i h1 h2 => ?_, ?_, fun x i h => (sl x i h).1, fun v hv => ?_⟩, fown, I', L'⟩
  rotate_right
  · cases hv with
    | head =>
      obtain ⟨o, es, ep, ho, hd, _⟩ := ns
      exact ⟨by show fd.scope.kind ≠ .module; rw [H.kind]; decide, _, o, rfl, bas _ (fresh _ (Nat.le_refl _)), nin _ (fresh _ (Nat.le_refl _)), ho, ZZ hd⟩
    | tail _ hv => exact F.le L' v hv
  · obtain ⟨v', e, r, hi⟩ := val h3
    exact ⟨v', Q8 (show (callEnvC fd s.heap.objs.size f).kindOf x = some .local from h1) H.nd (nam hi (sl x i h2).2) e, rl r⟩
  · have hcell : fd.scope.names.lookup x = some .cell := by
      rcases h1 with h | h
      · exact h
      · have := H.names _ (mem_of_lookup h)
        rcases this with q | q | q <;> cases q
    obtain ⟨c, hc⟩ := xh (k := s.heap.objs.size + 1) (acc := []) (.inl (mem_of_lookup hcell))
    refine ⟨c, _, hc, cel x c hc, fun v hv => ?_⟩
    obtain ⟨v', e, r, hi⟩ := val hv
    exact ⟨v', QA (show (callEnvC fd s.heap.objs.size f).kindOf x ≠ some .local from fun q => by rw [show (callEnvC fd s.heap.objs.size f).kindOf x = some .cell from hcell] at q; cases q) H.nd (nam hi (sl x i h2).2) e, rl r⟩
  · have a := (sl x i h1).2
    have b := (sl y i h2).2
    rw [a] at b; cases b; rfl
  · show _ = (y3 fd.scope (yT fd)).length
    have : (yT fd).length ≤ (y3 fd.scope (yT fd)).length := by unfold y3; rw [zP]; exact Nat.le_add_right _ _
    rw [zP, List.length_map, List.length_replicate, hl]; lia
theorem Ze {f : Addr} {F : Fn} {args : List AV} {args' : List Value} (g : Gd X G) (hcf : SndCF prog w X n cf) (hF : Q1 G X.K f = some F) (hd : A.depth + 2 * n + 3 < recursionLimit) (hu : A.units + 100 * n + 303 < cLine) (hh : A.handled = none) (hfr : A.frames = some l) (Fr : Frs X l μ s.heap)
    (I : Inv X μ hp s) (ra : VRs X μ s.heap args args') {R : Result → Shared → Prop} (k : PO X l μ s (yK F cf args hp) (fun v s' => R (.ok (.ret v)) s') (fun e s' => R (.error e) s')) : codeAny (model prog w) A (.call (.ref f) ⟨args', []⟩) R s := by
  obtain ⟨o, fd, body, ho, hdt, hg, hbody, rfl⟩ := WE hF
  have H := Wi hg
  by_cases hl : args.length = (yT fd).length
  · rw [show yK (z24 G fd body) cf args hp = _ from if_pos hl] at k
    have lens := ra.length
    have hbind := Zo (vals := args') H.p1 H.p2 H.p3 H.p4 H.p5 H.nd (by lia)
    have hk : ∀ y ∈ (yT fd).zip args', fd.scope.names.lookup y.1 = some .local ∨ (fd.scope.names.lookup y.1 = some .cell ∧ ((cellsFrom (s.heap.objs.size + 1) fd.scope.names []).lookup y.1).isSome = true) := fun y hy => by
      rcases H.par y.1 (List.of_mem_zip hy).1 with q | q
      · exact .inl q
      · obtain ⟨c, hc⟩ := xh (k := s.heap.objs.size + 1) (acc := []) (.inl (mem_of_lookup q))
        exact .inr ⟨q, by rw [hc]; rfl⟩
    refine codeAny_call_cells (by lia) (I.kin g.K _ _ ho) hdt (g.lim.keeps I.keep) (codeRec_of (I.kin g.K) H.code) hbody hbind H.clo hk (fun s₁ x => ?_) H.co H.gen H.kind
    obtain ⟨V1, fo, I1, L1⟩ := z27 H I ra hl Fr x
    have R1 : Room n (A.deeper (callEnvC fd s.heap.objs.size f)) (callEnvC fd s.heap.objs.size f :: l) := ⟨Around.frames_deeper hfr, by show A.depth + 1 + 2 * n + 2 < _; lia, by show A.units + 3 + 100 * n + 300 < _; lia, hh⟩
    have fin : ∀ {μ' : Mu} {s' : Shared}, Le (own (callEnvC fd s.heap.objs.size f)) μ s₁ μ' s' → Le noS μ s μ' s' := fun L => L1.fresh1 L fo
    refine (z0a g hcf 60).2 _ _ _ ⟨l, rfl, rfl⟩ R1 I1 V1 ?_
    have k : PO X l μ s (match dSs G 60 (JS fd.scope (yT fd)) body cf (args.map some ++ List.replicate ((y3 fd.scope (yT fd)).length - (yT fd).length) none) hp with
      | .ok (.ret v) _ h' => .ok v h'
      | .ok .next _ h' => .ok .none h'
      | .exc _ c _ h' => .exc c h'
      | .stuck => .stuck) (fun v s' => R (.ok (.ret v)) s') (fun e s' => R (.error e) s') := k
    cases eb : dSs G 60 (JS fd.scope (yT fd)) body cf (args.map some ++ List.replicate ((y3 fd.scope (yT fd)).length - (yT fd).length) none) hp with
    | stuck => rw [eb] at k; exact k.elim
    | ok fl fr2 hp2 =>
      rw [eb] at k
      intro fl' μ' s' L' I' V' r'
      cases fl with
      | ret u =>
        obtain ⟨u', rfl, ru⟩ := r'.ret_
        exact k _ μ' s' (fin L') I' ru
      | next =>
        rw [r'.next_]
        exact k _ μ' s' (fin L') I' .none
    | exc nw c fr2 hp2 =>
      rw [eb] at k
      have k : PC X l μ s c hp2 (fun e s' => R (.error e) s') := k
      intro e μ' s' B C hC hfl cl
      have out : ∀ {h' : Heap} {a0 : Value}, Heap.FlyingW B l e (.ref C) a0 h' → s'.heap.UpToSlots h' → R (.error (.ref e)) { s' with heap := h' } := fun hfl' U =>
        k e μ' _ B C _ hC hfl' fun h6 t g1 g2 => ⟨fin (cl h6 t g1 (U.trans g2)).1, (cl h6 t g1 (U.trans g2)).2.1⟩
      cases nw with
      | false =>
        obtain ⟨a0, hfl⟩ := hfl
        exact wpAny_leaves_onW R1.frames rfl hfl fun h' x1 x2 => out x1 x2
      | true =>
        obtain ⟨h0, as, hm, hB, hf⟩ := hfl
        exact wpAny_leaves_madeW R1.frames rfl hB hf hm fun h' t x1 _ _ x2 => out x1 x2
  · rw [show yK (z24 G fd body) cf args hp = _ from if_neg hl] at k; exact k.elim
end
noncomputable def z0q : List (Str × Bi) := [("len", .len), ("isinstance", .isinstance), ("int", .int), ("bool", .bool), ("str", .str), ("list", .list), ("range", .range), ("min", .min), ("max", .max), ("any", .any), ("all", .all), ("enumerate", .enumerate), ("sorted", .sorted), ("tuple", .tuple)]
theorem z0p : ∀ p ∈ z0q, bootBuiltins p.1 = some (wa p.2) ∧ p.1 ≠ "__name__" := by
  have h : z0q.all (fun p => bootBuiltins p.1 == some (wa p.2) && p.1 != "__name__") = true := by decide +kernel
  intro p hp
  have := List.all_eq_true.mp h p hp
  simp only [Bool.and_eq_true, beq_iff_eq, bne_iff_ne] at this
  exact this
noncomputable def zC1 : Value → Option Addr
  | .ref a => some a
  | _ => none
theorem W2 {v : Value} {a : Addr} (h : zC1 v = some a) : v = .ref a := by
  cases v with
  | ref => cases h; rfl
  | _ => exact nos h
noncomputable def nsR (K : Frag) (x : Str) : Option Addr := (nsIn K mainGlobals x).bind fun o => o.bind zC1
theorem ZR {K : Frag} {x : Str} {C : Addr} (h : nsR K x = some C) : nsIn K mainGlobals x = some (some (.ref C)) := by
  obtain ⟨o, h1, h⟩ := zS h
  obtain ⟨v, h2, h⟩ := zS h
  rw [h1, h2, W2 h]
noncomputable def zCi : Data → Option Bool
  | .func _ => some true
  | .cls _ => some false
  | _ => none
noncomputable def zBq (K : Frag) (x : Str) : Value → Option AV
  | .ref f => (K.lookup f).bind fun o => (zCi o.data).map fun b => if b = true then .fn x else .cls x
  | .int i _ => some (.int i)
  | .str s _ => if s.length ≤ small then some (.str s) else none
  | _ => none
noncomputable def Qd (K : Frag) (x : Str) : Option AV := match nsIn K mainGlobals x with
  | some o => (match o with
    | some v => zBq K x v
    | none => (z0q.lookup x).map .bi)
  | none => none
noncomputable def zCz (K : Frag) (c name : Str) : Bool := match nsR K c with
  | some C => xg K C && wP K C name
  | none => false
noncomputable def zE5 (K : Frag) (x : Str) : Bool := match nsR K x with
  | some C => excIn K C [.type "ValueError", .type "Exception", .type "BaseException", .type "object"] "ValueError.__new__"
  | none => false
noncomputable def gOf (K : Frag) : GTab := ⟨Qd K, zCz K, zE5 K⟩
noncomputable def yJ (K : Frag) : Tab where
  what := fun x => (nsR K x).bind fun f => (K.lookup f).bind fun o => (zCi o.data).bind fun b => match b with
    | true => (Q1 (gOf K) K f).map .fn
    | false => if (makesIn K f && xg K f) = true then some .cls else none
  meth := fun c x => (nsR K c).bind fun C => (findIn K (.ref C) x).bind fun o => o.bind fun v => (zC1 v).bind fun f => if (typeIn K (.ref f) == some (.type "function")) = true then Q1 (gOf K) K f else none
theorem zE2 {X : Cx} (hK : X.K.In X.base) (top : ∃ mg mb, X.base.Ns mainGlobals mg ∧ X.base.Ns builtinsNs mb ∧ ∀ x : Str, x ≠ "__name__" → mb x = bootBuiltins x) (lim : X.base.NoLimit)
    (ex : ∀ x C, nsIn X.K mainGlobals x = some (some (.ref C)) → excIn X.K C [.type "ValueError", .type "Exception", .type "BaseException", .type "object"] "ValueError.__new__" = true → ∃ mg, PyProof.Rows.OwnCls x C [.type "ValueError", .type "Exception", .type "BaseException", .type "object"] "ValueError.__new__" mg X.base) : Gd X (gOf X.K) where
  K := hK
  top := top
  lim := lim
  glob := by
    intro x v h
    have h : Qd X.K x = some v := h
    unfold Qd at h
    cases hn : nsIn X.K mainGlobals x with
    | none => rw [hn] at h; exact nos h
    | some o =>
      rw [hn] at h
      cases o with
      | none =>
        obtain ⟨b, hb, rfl⟩ := y6 h
        obtain ⟨q1, q2⟩ := z0p _ (qk hb)
        exact ⟨wa b, .inr ⟨rfl, q1, q2⟩, fun μ h => .bi b⟩
      | some c =>
        refine ⟨c, .inl rfl, ?_⟩
        have h : zBq X.K x c = some v := h
        cases c with
        | int i t => cases h; exact fun μ h => .int _ _
        | str y t =>
          obtain ⟨z, rfl⟩ := zY (show (if y.length ≤ small then some (AV.str y) else none) = some v from h)
          exact fun μ h => .str _ z
        | ref f =>
          obtain ⟨o, ho, h⟩ := zS (show ((X.K.lookup f).bind fun o => (zCi o.data).map fun b => if b = true then AV.fn x else .cls x) = some v from h)
          obtain ⟨b, hb, rfl⟩ := y6 h
          cases b with
          | true => exact fun μ h => .fn hn
          | false => exact fun μ h => .cls hn
        | _ => exact nos h
  exc := by
    intro x h
    have h : (match nsR X.K x with
      | some C => excIn X.K C [.type "ValueError", .type "Exception", .type "BaseException", .type "object"] "ValueError.__new__"
      | none => false) = true := h
    cases q : nsR X.K x with
    | none => rw [q] at h; exact nob h
    | some C =>
      rw [q] at h
      obtain ⟨mg, O⟩ := ex x C (ZR q) h
      exact ⟨C, mg, ZR q, O⟩
  okf := by
    intro c name h
    have h : (match nsR X.K c with
      | some C => xg X.K C && wP X.K C name
      | none => false) = true := h
    cases q : nsR X.K c with
    | none => rw [q] at h; exact nob h
    | some C => rw [q] at h; exact ⟨C, ZR q, Bool.and_eq_true_iff.mp h⟩
theorem YJ {G : GTab} {K : Frag} {f : Addr} {F : Fn} (h : Q1 G K f = some F) : keepIn K (.ref f) = true := by
  obtain ⟨⟨oc, od, dd, sl⟩, fd, b, h1, h2, _⟩ := WE h
  cases h2
  unfold keepIn
  dsimp only
  rw [h1]
theorem Qt {K : Frag} {x : Str} {wt : What} (h : (yJ K).what x = some wt) : ∃ f, nsIn K mainGlobals x = some (some (.ref f)) ∧ ((∃ F, Q1 (gOf K) K f = some F ∧ wt = .fn F) ∨ (makesIn K f = true ∧ xg K f = true ∧ wt = .cls)) := by
  obtain ⟨f, h1, h⟩ := zS h
  obtain ⟨o, h2, h⟩ := zS h
  obtain ⟨b, h3, h⟩ := zS h
  refine ⟨f, ZR h1, ?_⟩
  cases b with
  | true => obtain ⟨F, h4, rfl⟩ := y6 h; exact .inl ⟨F, h4, rfl⟩
  | false => obtain ⟨h4, rfl⟩ := zY h; obtain ⟨a, b⟩ := Bool.and_eq_true_iff.mp h4; exact .inr ⟨a, b, rfl⟩
theorem Qs {K : Frag} {x : Str} {f : Addr} {F : Fn} (h : (yJ K).what x = some (.fn F)) (hf : nsIn K mainGlobals x = some (some (.ref f))) : Q1 (gOf K) K f = some F := by
  obtain ⟨f', q, ⟨F', a, b⟩ | ⟨_, _, b⟩⟩ := Qt h
  · rw [hf] at q; cases q; cases b; exact a
  · cases b
theorem XG {K : Frag} {x : Str} {f : Addr} (h : (yJ K).what x = some .cls) (hf : nsIn K mainGlobals x = some (some (.ref f))) : makesIn K f = true ∧ xg K f = true := by
  obtain ⟨f', q, ⟨F', a, b⟩ | ⟨a, b, _⟩⟩ := Qt h
  · cases b
  · rw [hf] at q; cases q; exact ⟨a, b⟩
theorem ZB {K : Frag} {c x : Str} {F : Fn} (h : (yJ K).meth c x = some F) : ∃ C f, nsIn K mainGlobals c = some (some (.ref C)) ∧ findIn K (.ref C) x = some (some (.ref f)) ∧ typeIn K (.ref f) = some (.type "function") ∧ Q1 (gOf K) K f = some F := by
  obtain ⟨C, h1, h⟩ := zS h
  obtain ⟨o, h2, h⟩ := zS h
  obtain ⟨v, h3, h⟩ := zS h
  obtain ⟨f, h4, h⟩ := zS h
  obtain ⟨h5, h⟩ := X1 h
  exact ⟨C, f, ZR h1, by rw [h2, h3, W2 h4], eq_of_beq h5, h⟩
theorem QZ {K : Frag} {C : Addr} (h : makesIn K C = true) : keepIn K (.ref C) = true := by
  unfold makesIn at h
  cases ho : K.lookup C with
  | none => rw [ho] at h; exact nob h
  | some o =>
    rw [ho] at h
    obtain ⟨oc, od, dd, sl⟩ := o
    cases dd with
    | cls cd =>
      have h := (Bool.and_eq_true_iff.mp (Bool.and_eq_true_iff.mp h).1).2
      unfold keepIn
      dsimp only
      rw [ho]
      exact h
    | _ => exact nob h
theorem Y3 {prog : Program} {w : World} {X : Cx} (g : Gd X (gOf X.K)) : ∀ n, SndCF prog w X n (run (yJ X.K) n)
  | 0 => ⟨fun _ _ _ _ _ k => k.elim, fun h => absurd rfl h, fun h => absurd rfl h⟩
  | n + 1 => by
    have ih := Y3 (prog := prog) (w := w) g n
    refine ⟨?_, ?_, ?_⟩
    · intro c args hp A l μ s Q E f args' R F I hc ra k
      have hd := R.depth
      have hu := R.units
      have hh := R.handled
      cases c with
      | fn x =>
        have k : PO X l μ s (match (yJ X.K).what x with
          | some (.fn f) => yK f (run (yJ X.K) n) args hp
          | _ => .stuck) Q E := k
        cases hF : (yJ X.K).what x with
        | none => rw [hF] at k; exact k.elim
        | some wt =>
        rw [hF] at k
        cases wt with
        | cls => exact k.elim
        | fn F' =>
          exact wpAny_call (Ze g ih (Qs hF hc) (by lia) (by lia) hh R.frames F I ra k)
      | meth c x =>
        have k : PO X l μ s (match (yJ X.K).meth c x with
          | some f => yK f (run (yJ X.K) n) args hp
          | none => .stuck) Q E := k
        cases hF : (yJ X.K).meth c x with
        | none => rw [hF] at k; exact k.elim
        | some F' =>
          rw [hF] at k
          obtain ⟨C, f', h1, h2, h3, h4⟩ := ZB hF
          obtain ⟨C', q1, q2, q3⟩ := hc
          rw [h1] at q1; cases q1
          rw [h2] at q2; cases q2
          exact wpAny_call (Ze g ih h4 (by lia) (by lia) hh R.frames F I ra k)
      | cls x =>
        have k : PO X l μ s (match (yJ X.K).what x with
          | some .cls => (match (yJ X.K).meth x "__init__" with
            | some f => (yK f (run (yJ X.K) n) (.ref hp.length :: args) (hp ++ [AO.inst x []])).bind0 fun v h' => (match v with
              | .none => .ok (AV.ref hp.length) h'
              | _ => .stuck)
            | none => .stuck)
          | _ => .stuck) Q E := k
        cases hw : (yJ X.K).what x with
        | none => rw [hw] at k; exact k.elim
        | some wt =>
        rw [hw] at k
        cases wt with
        | fn _ => exact k.elim
        | cls =>
          dsimp only at k
          cases hF : (yJ X.K).meth x "__init__" with
          | none => rw [hF] at k; exact k.elim
          | some F' =>
            rw [hF] at k
            obtain ⟨C, fI, k1, k2, k3, k4⟩ := ZB hF
            have hc : nsIn X.K mainGlobals x = some (some (.ref f)) := hc
            rw [hc] at k1; cases k1
            obtain ⟨m1, m2⟩ := XG hw hc
            have KI := I.kin g.K
            obtain ⟨hh', gg, dd, tt, oo⟩ := s
            refine wpAny_call (make_core (makes_of KI m1) (looks_findIn KI k2) (fun self => bind_fn KI self k3) (.inl rfl) ?_)
            have kp : ∀ b o, hh'.get? b = some o → ((hh'.push emptyDict).push (instObj f hh'.objs.size)).get? b = some o := fun b o e => Heap.get?_push_of_some _ (Heap.get?_push_of_some _ e)
            have fr : ∀ b, hh'.objs.size ≤ b → hh'.get? b = none := fun b hb => by
              cases q : hh'.get? b with
              | none => rfl
              | some o => exact absurd (Heap.lt_size q) (Nat.not_lt.mpr hb)
            have gx : ((hh'.push emptyDict).push (instObj f hh'.objs.size)).get? (hh'.objs.size + 1) = some (instObj f hh'.objs.size) := by
              have := Heap.get?_push_size (hh'.push emptyDict) (o := instObj f hh'.objs.size) rfl
              rwa [Heap.size_push] at this
            have gd : ((hh'.push emptyDict).push (instObj f hh'.objs.size)).get? hh'.objs.size = some emptyDict := Heap.get?_push_of_some _ (Heap.get?_push_size _ rfl)
            have hp0 : OR X (μ ++ [(hh'.objs.size + 1, some hh'.objs.size)]) ((hh'.push emptyDict).push (instObj f hh'.objs.size)) (.inst x []) (hh'.objs.size + 1, some hh'.objs.size) :=
              .inst hc gx (show _ = some (dictOf [] 0) from gd) .nil m2 (fun p hp => by cases hp) (by simp)
            obtain ⟨I1, L1⟩ := I.new (s := ⟨hh', gg, dd, tt, oo⟩) (t := tt) (h' := (hh'.push emptyDict).push (instObj f hh'.objs.size)) kp (fun b hb => by
              cases hb with
              | head => exact fr _ (Nat.le_succ _)
              | tail _ hb => cases hb with
                | head => exact fr _ (Nat.le_refl _)
                | tail _ hb => cases hb) (by simp [ads]) hp0
            have rs : VR X (μ ++ [(hh'.objs.size + 1, some hh'.objs.size)]) ((hh'.push emptyDict).push (instObj f hh'.objs.size)) (.ref hp.length) (.ref (hh'.objs.size + 1)) := .ref (p := (hh'.objs.size + 1, some hh'.objs.size)) (by rw [← I.len]; simp)
            refine Ze (A := A.under (.builtin "type.__call__" ⟨.ref f :: args', []⟩)) (s := ⟨(hh'.push emptyDict).push (instObj f hh'.objs.size), gg, dd, tt, oo⟩) g ih k4 ?_ ?_ (show A.handled = none from hh) (show A.frames = _ from R.frames) (F.le L1) I1 (.cons rs (ra.mono (List.prefix_append _ _) fun b o e _ => kp b o e))
              (PG.bind0 (PG.le k L1) fun v v' h1 μ' s' L' I' r' k => ?_)
            · show A.depth + 1 + 2 * n + 3 < _; lia
            · show A.units + 1 + 100 * n + 303 < _; lia
            · cases v with
              | none =>
                rw [r'.none_]
                exact ⟨rfl, k _ μ' s' .refl I' (rs.mono L'.pre (L'.fixed I1 fun _ _ h => h.elim))⟩
              | _ => exact k.elim
    · intro c args hp f e hc
      cases c with
      | fn x =>
        have e : (match (yJ X.K).what x with
          | some (.fn f) => yK f (run (yJ X.K) n) args hp
          | _ => .stuck) ≠ .stuck := e
        cases hF : (yJ X.K).what x with
        | none => rw [hF] at e; exact absurd rfl e
        | some wt =>
          rw [hF] at e
          cases wt with
          | cls => exact absurd rfl e
          | fn F => exact YJ (Qs hF hc)
      | meth c x =>
        have e : (match (yJ X.K).meth c x with
          | some f => yK f (run (yJ X.K) n) args hp
          | none => .stuck) ≠ .stuck := e
        cases hF : (yJ X.K).meth c x with
        | none => rw [hF] at e; exact absurd rfl e
        | some F =>
          obtain ⟨C, f', h1, h2, h3, h4⟩ := ZB hF
          obtain ⟨C', q1, q2, q3⟩ := hc
          rw [h1] at q1; cases q1
          rw [h2] at q2; cases q2
          exact YJ h4
      | cls x =>
        have e : (match (yJ X.K).what x with
          | some .cls => (match (yJ X.K).meth x "__init__" with
            | some f => (yK f (run (yJ X.K) n) (.ref hp.length :: args) (hp ++ [AO.inst x []])).bind0 fun v h' => (match v with
              | .none => .ok (AV.ref hp.length) h'
              | _ => .stuck)
            | none => .stuck)
          | _ => .stuck) ≠ .stuck := e
        cases hw : (yJ X.K).what x with
        | none => rw [hw] at e; exact absurd rfl e
        | some wt =>
          rw [hw] at e
          cases wt with
          | fn _ => exact absurd rfl e
          | cls => exact QZ (XG hw hc).1
    · intro c x args hp e
      have e : (match (yJ X.K).meth c x with
        | some f => yK f (run (yJ X.K) n) args hp
        | none => .stuck) ≠ .stuck := e
      cases hF : (yJ X.K).meth c x with
      | none => rw [hF] at e; exact absurd rfl e
      | some F =>
        obtain ⟨C, f', h1, h2, h3, h4⟩ := ZB hF
        exact ⟨f', C, h1, h2, h3⟩
end Mine
end
end
section
noncomputable section
namespace Mine
open PySem PySem.W PySem.Calls PyProof.Rows
theorem Xs {X : Cx} {μ : Mu} {h : Heap} : ∀ {vs : List Value} {is : List Int}, IntsAre vs is → VRs X μ h (is.map AV.int) vs
  | _, _, .nil => .nil
  | _, _, .cons n t r => .cons (.int n t) (Xs r)
theorem WW {h : Heap} {a : Addr} {m : Str → Option Value} (ns : h.Ns a m) {K : Frag} (hK : K.In h) {x : Str} {r : Option Value} (e : nsIn K a x = some r) : m x = r := by
  obtain ⟨o, es, ep, ho, hd, hk, hm⟩ := ns
  unfold nsIn at e
  cases hl : K.lookup a with
  | none => rw [hl] at e; exact nos e
  | some o' =>
    have := hK _ _ hl
    rw [ho] at this; cases this
    rw [hl] at e
    obtain ⟨oc, od, dd, sl⟩ := o
    cases hd
    have hf : nsFind es x = m x := hm x
    unfold nsFind findBy at hf
    rw [← Array.find?_toList] at hf
    dsimp only at e
    cases hq : es.toList.find? (·.key.isStr x) with
    | some q => rw [hq] at hf e; cases e; exact hf.symm
    | none =>
      rw [hq] at hf e
      by_cases z : es.toList.any (·.refKey) = true
      · rw [show (if es.toList.any (·.refKey) = true then (none : Option (Option Value)) else some none) = _ from if_pos z] at e; exact nos e
      · rw [show (if es.toList.any (·.refKey) = true then (none : Option (Option Value)) else some none) = _ from if_neg z] at e; cases e; exact hf.symm
theorem law_true {prog : Program} {w : World} {K : Frag} {s₁ : Shared} {p : Program} {loose : List Str} {mean mean' : ExcName → Option Value} {mg mb : Str → Option Value} {c : ClaimW} {cl : Str → Option Addr} {args : List WData} {fa L : Addr} {vs : List Value} {is : List Int} {x : Str}
    (T : Top p loose mean mg mb s₁.heap) (KX : K.In s₁.heap) (hg : s₁.gens = #[]) (hmg : mg x = some (.ref fa)) (fa' : Addr) (hfa : nsIn K mainGlobals x = some (some (.ref fa'))) (hL : s₁.heap.IsList L vs.toArray) (hI : IntsAre vs is) (hlen : ¬ (63 : Int) < is.length)
    (hrun : ∃ hp', run (yJ K) 20 (.fn x) [.lst (is.map AV.int)] [] = .ok (.bool true) hp') (hn : ∀ cls, c.raises args cls = false) (hp : c.post args (.bool true) args = true) :
    wpAny (model prog w) callerA (call (.ref fa) [.ref L]) (fun v s' => GoodWG c cl mean' args s₁ (.ok (.ret v)) s') (fun e s' => GoodWG c cl mean' args s₁ (.error e) s') s₁ := by
  have e := WW T.g KX hfa
  rw [hmg] at e; cases e
  obtain ⟨hp', hrun⟩ := hrun
  let X : Cx := ⟨K, s₁.heap, s₁.os⟩
  have g : Gd X (gOf X.K) := zE2 KX ⟨mg, mb, T.g, T.b, T.builtins⟩ T.nolimit fun x C h1 h2 => ⟨mg, own_of_in KX (topRead_of T) h1 h2⟩
  have I : Inv X [] [] s₁ := ⟨rfl, by simp [zb], fun a ha => (nomatch ha), fun i p o h => (nomatch h), fun b o e => e, hg, rfl⟩
  have R : Room 20 callerA [] := ⟨rfl, by decide, by decide, rfl⟩
  refine (Y3 (prog := prog) (w := w) g 20).run R (fun _ h => nomatch h) I (show z0v X (.fn x) fa from hfa) (.cons (.lst (items := vs.toArray) hL ?_ ?_) .nil) (PG.okE hrun fun v' μ' s' L' I' r' => ?_)
  · rw [List.length_map, qy]; lia
  · simpa using Xs hI
  · rw [r'.bool_]
    exact GoodW.toG ⟨.inl ⟨_, .bool true, [], rfl, hn, .bool true, hp, fun _ => ⟨.nil, fun _ h => by cases h⟩⟩, I'.keep, I'.os, I'.gens⟩
end Mine
end
end
section
namespace Mine
open PySem
section
variable {h : Hp} {v w : AV} {a : Nat} {i j : Int} {b c : Bool} {cf : CF} {fr : AFr}
theorem Ys {α : Type} {o : Option α} {f : α → AV} : ofP (o.map fun x => (f x, h)) = Out.of (o.map f) h := by cases o <;> rfl
theorem Yt {p : Prop} [Decidable p] {x : AV} {h' : Hp} : ofP (if p then some (x, h') else none) = if p then .ok x h' else .stuck := by split <;> rfl
theorem Out.of_ite {p : Prop} [Decidable p] {x : AV} : Out.of (if p then some x else none) h = if p then .ok x h else .stuck := by split <;> rfl
theorem wu : x6 .len [v] h = Out.of ((Jv h v).map fun (n : Nat) => AV.int (n : Int)) h := Ys
theorem zCo {t : Bi} : x6 .isinstance [v, .bi t] h = Out.of ((zCc v t).map .bool) h := Ys
theorem z0o : x6 .int [.bool b] h = .ok (.int (if b then 1 else 0)) h := rfl
theorem zCm : x6 .min [.int i, .int j] h = .ok (.int (if j < i then j else i)) h := rfl
theorem zCn : x6 .max [.int i, .int j] h = .ok (.int (if i < j then j else i)) h := rfl
theorem z0m : x6 .range [.int i] h = if i.natAbs < 2 ^ 62 then .ok (.range 0 i) h else .stuck := Yt
theorem wC {β : Type} {f : List AV → Option β} : (zn h a).bind f = (match h[a]? with
    | some (.list xs) => f xs
    | _ => none) := by
  unfold zn
  cases h[a]? with
  | none => rfl
  | some o => cases o <;> rfl
theorem XB : x6 .list [.ref a] h = (match h[a]? with
    | some (.list xs) => if xs.length ≤ small then .ok (.ref h.length) (h ++ [.list xs]) else .stuck
    | some (.dict kvs) => .ok (.ref h.length) (h ++ [.list (kvs.map fun p => .int p.1)])
    | _ => .stuck) := by
  show ofP (match zv h a with
    | some kvs => some (.ref h.length, h ++ [AO.list (kvs.map fun p => .int p.1)])
    | none => (zn h a).bind fun xs => if xs.length ≤ small then some (.ref h.length, h ++ [.list xs]) else none) = _
  unfold zv zn
  cases h[a]? with
  | none => rfl
  | some o =>
    cases o with
    | list xs => show ofP (if xs.length ≤ small then _ else _) = _; by_cases z : xs.length ≤ small <;> simp only [z, if_true, if_false] <;> rfl
    | _ => rfl
theorem Xd {m : Me} {args : List AV} : yG m (.ref a) args h = (match h[a]? with
    | some (.list xs) => ofP (meO m a xs args h)
    | _ => .stuck) := by
  show ofP ((zn h a).bind _) = _
  rw [wC]
  cases h[a]? with
  | none => rfl
  | some o => cases o <;> rfl
theorem xx : yG .append (.ref a) [v] h = (match h[a]? with
    | some (.list xs) => if xs.length < small then .ok .none (h.set a (.list (xs ++ [v]))) else .stuck
    | _ => .stuck) := by
  rw [Xd]
  cases h[a]? with
  | none => rfl
  | some o =>
    cases o with
    | inst c fs => rfl
    | dict _ => rfl
    | list xs => exact Yt
theorem WZ : yG .insert (.ref a) [.int i, v] h = (match h[a]? with
    | some (.list xs) => if xs.length < small ∧ okI i = true then .ok .none (h.set a (.list (qB xs i.toNat v))) else .stuck
    | _ => .stuck) := by
  rw [Xd]
  cases h[a]? with
  | none => rfl
  | some o =>
    cases o with
    | inst c fs => rfl
    | dict _ => rfl
    | list xs => exact Yt
theorem ZV : yG .index (.ref a) [v] h = (match h[a]? with
    | some (.list _) => (match jH h (.ref a) v with
      | some k => .ok (.int k) h
      | none => .stuck)
    | _ => .stuck) := by
  rw [Xd]
  cases h[a]? with
  | none => rfl
  | some o =>
    cases o with
    | inst c fs => rfl
    | dict _ => rfl
    | list xs =>
      show ofP ((jH h (.ref a) v).map _) = _
      cases jH h (.ref a) v <;> rfl
theorem Jk : yG .count (.ref a) [v] h = (match h[a]? with
    | some (.list _) => Out.of ((jK h (.ref a) v).map fun (n : Nat) => AV.int (n : Int)) h
    | _ => .stuck) := by
  rw [Xd]
  cases h[a]? with
  | none => rfl
  | some o =>
    cases o with
    | inst c fs => rfl
    | dict _ => rfl
    | list xs => exact Ys
theorem xC : XA .Add (.int i) (.int j) h = .ok (.int (i + j)) h := rfl
theorem jN : XA .Sub (.int i) (.int j) h = .ok (.int (i - j)) h := rfl
theorem ZF : XA .Mult (.int i) (.int j) h = if i.natAbs < 2 ^ 63 ∨ j.natAbs < 2 ^ 63 then .ok (.int (i * j)) h else .stuck := by
  show Out.of ((if i.natAbs < 2 ^ 63 ∨ j.natAbs < 2 ^ 63 then some (i * j) else none).map AV.int) h = _
  split <;> rfl
theorem qI : XA .FloorDiv (.int i) (.int j) h = if j ≠ 0 ∧ j.natAbs < 1073741824 then .ok (.int (i.fdiv j)) h else .stuck := by
  show Out.of ((if j ≠ 0 ∧ j.natAbs < 1073741824 then some (i.fdiv j) else none).map AV.int) h = _
  split <;> rfl
theorem yR : XA .Mod (.int i) (.int j) h = if j = 0 then .stuck else .ok (.int (i.fmod j)) h := by
  show Out.of ((if j = 0 then none else some (i.fmod j)).map AV.int) h = _
  split <;> rfl
theorem xb : yU .Eq v w h = aEq h v w := rfl
theorem zCj (hn : neD h v w = none) : yU .NotEq v w h = (aEq h v w).map (!·) := by
  show (match neD h v w with
    | some r => some r
    | none => (aEq h v w).map (!·)) = _
  rw [hn]
theorem yM : yU .Lt (.int i) (.int j) h = some (decide (i < j)) := rfl
theorem yt : yU .LtE (.int i) (.int j) h = some (decide (i ≤ j)) := rfl
theorem X7 : yU .Gt (.int i) (.int j) h = some (decide (j < i)) := rfl
theorem z0g : yU .GtE (.int i) (.int j) h = some (decide (j ≤ i)) := rfl
theorem YQ {op : CmpOp} {r : XE} : qS v [op] [r] cf fr h = (r cf fr h).bind fun v' h₁ => Out.of (yU op v v' h₁) h₁ := rfl
theorem YO {op op' : CmpOp} {ops : List CmpOp} {r : XE} {rs : List XE} : qS v (op :: op' :: ops) (r :: rs) cf fr h = (r cf fr h).bind fun v' h₁ => (match yU op v v' h₁ with
    | some true => qS v' (op' :: ops) rs cf fr h₁
    | some false => .ok false h₁
    | none => .stuck) := by
  show (r cf fr h).bind _ = _
  congr 1
  funext v' h₁
  cases yU op v v' h₁ with
  | none => rfl
  | some b => cases b <;> rfl
theorem z10 : xE h .none = some false := rfl
theorem z11 : xE h (.bool b) = some b := rfl
theorem zBv : xE h (.int i) = some (decide (i ≠ 0)) := rfl
theorem z1w {xs : List AV} : Jv h (.lst xs) = some xs.length := rfl
theorem wM : Jv h (.ref a) = (match h[a]? with
    | some (.list xs) => some xs.length
    | some (.dict kvs) => some kvs.length
    | _ => none) := by
  show (match zv h a with
    | some kvs => some kvs.length
    | none => (zn h a).map List.length) = _
  unfold zv zn
  cases h[a]? with
  | none => rfl
  | some o => cases o <;> rfl
theorem z1o {xs : List AV} : w0 h (.lst xs) = some xs := rfl
theorem z1n : w0 h (.ref a) = (match h[a]? with | some (.list xs) => some xs | _ => none) := rfl
theorem Z5 : xz h (.ref a) (.int i) v = (match h[a]? with
    | some (.list xs) => if 0 ≤ i ∧ i < xs.length ∧ xs.length ≤ small then some (h.set a (.list (xs.set i.toNat v))) else none
    | some (.dict kvs) => if kvs.length < small then some (h.set a (.dict (jY kvs i v))) else none
    | _ => none) := by
  show (match zv h a with
    | some kvs => if kvs.length < small then some (h.set a (.dict (jY kvs i v))) else none
    | none => (zn h a).bind fun xs => if 0 ≤ i ∧ i < xs.length ∧ xs.length ≤ small then some (h.set a (.list (xs.set i.toNat v))) else none) = _
  unfold zv zn
  cases h[a]? with
  | none => rfl
  | some o => cases o <;> rfl
theorem z1m : yb [] [] fr = some fr := rfl
theorem JP {k : Nat} {ks : List Nat} {vs : List AV} : yb (k :: ks) (v :: vs) fr = if k < fr.length then yb ks vs (fr.set k (some v)) else none := rfl
theorem Qk {op : BoolOp} {x y : XE} {r : List XE} : jM op (x :: y :: r) cf fr h = (x cf fr h).bind fun v h₁ => (match xE h₁ v with
    | some t => (match op, t with
      | .And, false => .ok v h₁
      | .Or, true => .ok v h₁
      | _, _ => jM op (y :: r) cf fr h₁)
    | none => .stuck) := rfl
theorem WD {xs : List AV} (ho : okI i = true) : wG h (.lst xs) (.int i) = xs[i.toNat]? := if_pos ho
theorem qR (ho : okI i = true) : wG h (.ref a) (.int i) = (match h[a]? with
    | some (.list xs) => xs[i.toNat]?
    | some (.dict kvs) => yr kvs i
    | _ => none) := by
  show (match zv h a with
    | some kvs => yr kvs i
    | none => if okI i = true then (zn h a).bind (fun xs => xs[i.toNat]?) else none) = _
  rw [if_pos ho]
  unfold zv zn
  cases h[a]? with
  | none => rfl
  | some o => cases o <;> rfl
theorem z22 {s : Str} (ho : okI i = true) : wG h (.str s) (.int i) = (s.cps[i.toNat]?).map fun c => .str ⟨#[c]⟩ := if_pos ho
theorem zCk {x y : Str} : yU .In (.str x) (.str y) h = some (Txt.contains y x) := rfl
theorem z2d {x y : Str} : XA .Add (.str x) (.str y) h = if x.length + y.length ≤ small then .ok (.str (x ++ y)) h else .stuck := Out.of_ite
theorem len_str {x : Str} : Jv h (.str x) = some x.length := rfl
theorem Jj {sep : Str} {xs : List AV} {ss : List Str} (e : h[a]? = some (.list xs)) (e' : jd xs = some ss) (z : (ss.map (·.length)).sum + ss.length * sep.length ≤ small) : yG .join (.str sep) [.ref a] h = .ok (.str (Str.join sep ss)) h := by
  show ofP ((zn h a).bind fun xs => (jd xs).bind fun ss => if (ss.map (·.length)).sum + ss.length * sep.length ≤ small then some (.str (Str.join sep ss), h) else none) = _
  rw [wC, e]
  show ofP ((jd xs).bind _) = _
  rw [e']
  show ofP (if _ then _ else _) = _
  rw [if_pos z]; rfl
theorem zCq {xs : List AV} {bs : List Bool} (e : h[a]? = some (.list xs)) (e' : xp xs = some bs) : x6 .all [.ref a] h = .ok (.bool (bs.all id)) h := by
  show ofP ((zn h a).bind fun xs => (xp xs).map fun bs => (AV.bool (bs.all id), h)) = _
  rw [wC, e]
  show ofP ((xp xs).map _) = _
  rw [e']; rfl
theorem zCp {xs : List AV} {bs : List Bool} (e : h[a]? = some (.list xs)) (e' : xp xs = some bs) : x6 .any [.ref a] h = .ok (.bool (bs.any id)) h := by
  show ofP ((zn h a).bind fun xs => (xp xs).map fun bs => (AV.bool (bs.any id), h)) = _
  rw [wC, e]
  show ofP ((xp xs).map _) = _
  rw [e']; rfl
theorem YS {α : Type} {f : α → Bool} {l : List α} : xp (l.map fun x => AV.bool (f x)) = some (l.map f) := by
  induction l with
  | nil => rfl
  | cons x l ih =>
    show (xp (l.map fun x => AV.bool (f x))).map _ = _
    rw [ih]; rfl
theorem J1 {α : Type} {f : α → Str} {l : List α} : jd (l.map fun x => AV.str (f x)) = some (l.map f) := by
  induction l with
  | nil => rfl
  | cons x l ih =>
    show (jd (l.map fun x => AV.str (f x))).map _ = _
    rw [ih]; rfl
theorem z2b {xs : List AV} {l u : AV} {lo hi : Option Nat} (e : xc l = some lo) (e' : xc u = some hi) (z : xs.length ≤ small) : z0f h (.lst xs) l u = .ok (.ref h.length) (h ++ [.list (wT xs (lo.getD 0) hi)]) := by
  show ofP ((xc l).bind fun lo => (xc u).bind fun hi => if xs.length ≤ small then some (AV.ref h.length, h ++ [.list (wT xs (lo.getD 0) hi)]) else none) = _
  rw [e, e']
  show ofP (if _ then _ else _) = _
  rw [if_pos z]; rfl
theorem WI {xs : List AV} {l u : AV} {lo hi : Option Nat} (ea : h[a]? = some (.list xs)) (e : xc l = some lo) (e' : xc u = some hi) (z : xs.length ≤ small) : z0f h (.ref a) l u = .ok (.ref h.length) (h ++ [.list (wT xs (lo.getD 0) hi)]) := by
  show ofP ((xc l).bind fun lo => (xc u).bind fun hi => (zn h a).bind fun xs => if xs.length ≤ small then some (AV.ref h.length, h ++ [.list (wT xs (lo.getD 0) hi)]) else none) = _
  rw [e, e']
  show ofP ((zn h a).bind _) = _
  rw [wC, ea]
  show ofP (if _ then _ else _) = _
  rw [if_pos z]; rfl
theorem qa (h : okI i = true) : xc (.int i) = some (some i.toNat) := if_pos h
theorem Qo : xc .none = some none := rfl
end
end Mine
end
section
namespace Mine
open PySem
theorem yy {T : Tab} {n : Nat} {x : Str} {F : Fn} {args : List AV} {h : Hp} (e : T.what x = some (.fn F)) : run T (n + 1) (.fn x) args h = yK F (run T n) args h := by
  show (match T.what x with | some (.fn f) => yK f (run T n) args h | _ => .stuck) = _
  rw [e]
theorem zK {T : Tab} {n : Nat} {c x : Str} {F : Fn} {args : List AV} {h : Hp} (e : T.meth c x = some F) : run T (n + 1) (.meth c x) args h = yK F (run T n) args h := by
  show (match T.meth c x with | some f => yK f (run T n) args h | none => .stuck) = _
  rw [e]
theorem Ym {T : Tab} {n : Nat} {x : Str} {F : Fn} {args : List AV} {h : Hp} (e : T.what x = some .cls) (e' : T.meth x "__init__" = some F) :
    run T (n + 1) (.cls x) args h = (yK F (run T n) (.ref h.length :: args) (h ++ [.inst x []])).bind0 fun v h' => (match v with | .none => .ok (.ref h.length) h' | _ => .stuck) := by
  show (match T.what x with
    | some .cls => (match T.meth x "__init__" with
      | some f => (yK f (run T n) (.ref h.length :: args) (h ++ [AO.inst x []])).bind0 fun v h' => (match v with | .none => .ok (AV.ref h.length) h' | _ => .stuck)
      | none => .stuck)
    | _ => .stuck) = _
  rw [e, e']
theorem z14 (h : Hp) (n : Nat) (i : Int) : toD h n (.int i) = some (.int i) := by cases n <;> rfl
theorem Wx (h : Hp) (n : Nat) (b : Bool) : toD h n (.bool b) = some (.bool b) := by cases n <;> rfl
theorem jR {α β : Type} {f : α → Option β} {x : α} {xs : List α} {y : β} {ys : List β} (e : f x = some y) (e' : ya f xs = some ys) : ya f (x :: xs) = some (y :: ys) := by
  show (match f x, ya f xs with | some y, some ys => some (y :: ys) | _, _ => none) = _
  rw [e, e']
theorem YC (h : Hp) (n : Nat) (l : List Int) : ya (toD h n) (l.map AV.int) = some (l.map PyData.int) := by
  induction l with
  | nil => rfl
  | cons i l ih => exact jR (z14 h n i) ih
theorem QY (h : Hp) (n : Nat) (l : List Bool) : ya (toD h n) (l.map AV.bool) = some (l.map PyData.bool) := by
  induction l with
  | nil => rfl
  | cons i l ih => exact jR (Wx h n i) ih
theorem z2f {α : Type} [DecidableEq α] (i j : α) : (i == j) = decide (i = j) := by
  by_cases h : i = j
  · rw [decide_eq_true h]; exact beq_iff_eq.mpr h
  · rw [decide_eq_false h]; exact beq_eq_false_iff_ne.mpr h
theorem wj {h : Hp} {a : Nat} {xs : List AV} (e : h[a]? = some (.list xs)) : zn h a = some xs := by unfold zn; rw [e]
theorem z13 {h : Hp} {a : Nat} {xs : List AV} {ds : List PyData} (e : h[a]? = some (.list xs)) (e' : ya (toD h 7) xs = some ds) : toD h 8 (.ref a) = some (.list ds) := by
  show (match zn h a with | some xs => (ya (toD h 7) xs).map PyData.list | none => none) = _
  rw [wj e]
  exact congrArg (Option.map PyData.list) e'
theorem XF {h : Hp} {v w : AV} {x y : PyData} (e : toD h 8 v = some x) (e' : toD h 8 w = some y) : aEq h v w = some (PyData.eqv x y) := by
  unfold aEq; rw [e, e']; rfl
theorem xP (h : Hp) (i j : Int) : aEq h (.int i) (.int j) = some (decide (i = j)) := (XF (h := h) (v := .int i) (w := .int j) rfl rfl).trans (congrArg some (z2f i j))
theorem XW {h : Hp} {a : Nat} {xs : List AV} (e : h[a]? = some (.list xs)) : z1p h (.ref a) = ya (toD h 7) xs := by
  show (zn h a).bind _ = _
  rw [wj e]; rfl
theorem jW {h : Hp} {a : Nat} {l : List Int} {i : Int} (e : h[a]? = some (.list (l.map AV.int))) : jH h (.ref a) (.int i) = l.findIdx? (· == i) := by
  unfold jH; rw [XW e, YC]
  show (l.map PyData.int).findIdx? (fun y => PyData.eqv y (.int i)) = _
  rw [List.findIdx?_map]
  rfl
theorem X6 {h : Hp} {a : Nat} {l : List Bool} (e : h[a]? = some (.list (l.map AV.bool))) : jK h (.ref a) (.bool true) = some (l.countP id) := by
  unfold jK; rw [XW e, QY]
  show some ((l.map PyData.bool).countP (fun y => PyData.eqv y (.bool true))) = _
  rw [List.countP_map]
  have : ((fun y => PyData.eqv y (.bool true)) ∘ PyData.bool) = id := by funext b; cases b <;> rfl
  rw [this]
theorem zO {α : Type} (g : List α) (x : α) (r : List α) : (g ++ x :: r)[g.length]? = some x := by simp
theorem xJ {α : Type} (g l : List α) (k : Nat) : (g ++ l)[g.length + k]? = l[k]? := by
  rw [List.getElem?_append_right (Nat.le_add_right _ _)]; simp
theorem zE {α : Type} {g l : List α} {k : Nat} {x : α} (e : g[k]? = some x) : (g ++ l)[k]? = some x := by
  rw [List.getElem?_append_left (y8 e).1]; exact e
theorem Zk {α : Type} (g : α → AV) {test : XT} {elt : XE} {cf : CF} {fr : AFr} {i : Nat} (hi : i < fr.length) {h : Hp} {src : Src} {l : List α} {p : α → Bool} {f : α → AV} (hsrc : ∀ k, src.next? h k = some ((l.map g)[k]?)) (hsm : l.length < small)
    (ht : ∀ fr', fr'.length = fr.length → (∀ j, j ≠ i → fr'[j]? = fr[j]?) → ∀ x ∈ l, fr'[i]? = some (some (g x)) → test cf fr' h = .ok (p x) h)
    (he : ∀ fr', fr'.length = fr.length → (∀ j, j ≠ i → fr'[j]? = fr[j]?) → ∀ x ∈ l, fr'[i]? = some (some (g x)) → elt cf fr' h = .ok (f x) h) :
    yF (.one i) test elt src (l.length + 1) 0 [] cf fr h = .ok ((l.filter p).map f) h := by
  have key : ∀ (m k : Nat) (acc : List AV) (fr' : AFr), k + m = l.length → fr'.length = fr.length → (∀ j, j ≠ i → fr'[j]? = fr[j]?) → acc.length ≤ k →
      yF (.one i) test elt src (m + 1) k acc cf fr' h = .ok (acc ++ ((l.drop k).filter p).map f) h := by
    intro m
    induction m with
    | zero =>
      intro k acc fr' hk hl hj ha
      have : (l.map g)[k]? = none := by simp; lia
      simp only [yF, hsrc, this]
      rw [List.drop_eq_nil_of_le (by lia)]; simp
    | succ m ih =>
      intro k acc fr' hk hl hj ha
      have hk' : k < l.length := by lia
      have e1 : (l.map g)[k]? = some (g l[k]) := by simp [Out.bind_ok, Out.bind0_ok, Out.bind_stuck, Out.of_some, Out.of_none, Out.bindS_ok, hk']
      have hm : l[k] ∈ l := List.getElem_mem hk'
      have hb : NTgt.bind (.one i) (g l[k]) fr' = some (fr'.set i (some (g l[k]))) := by
        simp only [NTgt.bind, JP, z1m]; rw [if_pos (by lia)]
      have g1 : (fr'.set i (some (g l[k]))).length = fr.length := by simp [Out.bind_ok, Out.bind0_ok, Out.bind_stuck, Out.of_some, Out.of_none, Out.bindS_ok, hl]
      have g2 : ∀ j, j ≠ i → (fr'.set i (some (g l[k])))[j]? = fr[j]? := fun j hne => by rw [List.getElem?_set_ne (Ne.symm hne)]; exact hj j hne
      have g3 : (fr'.set i (some (g l[k])))[i]? = some (some (g l[k])) := by rw [List.getElem?_set_self (by lia)]
      rw [List.drop_eq_getElem_cons hk']
      unfold yF
      rw [hsrc, e1]
      dsimp only
      rw [hb]
      dsimp only
      rw [ht _ g1 g2 _ hm g3]
      simp only [Out.bind0_ok]
      cases hp : p l[k] with
      | true =>
        rw [if_pos rfl, he _ g1 g2 _ hm g3]
        simp only [Out.bind0_ok]
        rw [if_pos (by lia), ih (k + 1) _ _ (by lia) g1 g2 (by simp; lia)]
        simp only [List.filter_cons, hp, if_true, List.map_cons, List.append_assoc, List.singleton_append]
      | false =>
        rw [if_neg (by simp), ih (k + 1) _ _ (by lia) g1 g2 (by lia)]
        simp only [List.filter_cons, hp, Bool.false_eq_true, if_false]
  have := key l.length 0 [] fr (by lia) rfl (fun _ _ => rfl) (Nat.le_refl _)
  simpa using this
theorem wR {α : Type} (g : α → AV) {it : XE} {own i a : Nat} {test : XT} {elt : XE} {cf : CF} {fr : AFr} {h h1 : Hp} {l : List α} {p : α → Bool} {f : α → AV} (e1 : it cf fr h = .ok (.ref a) h1) (e2 : h1[a]? = some (.list (l.map g))) (hi : i < fr.length + own) (hsm : l.length < small)
    (ht : ∀ fr', fr'.length = fr.length + own → (∀ j, j ≠ i → fr'[j]? = (fr ++ List.replicate own none)[j]?) → ∀ x ∈ l, fr'[i]? = some (some (g x)) → test cf fr' h1 = .ok (p x) h1)
    (he : ∀ fr', fr'.length = fr.length + own → (∀ j, j ≠ i → fr'[j]? = (fr ++ List.replicate own none)[j]?) → ∀ x ∈ l, fr'[i]? = some (some (g x)) → elt cf fr' h1 = .ok (f x) h1) :
    yh it own (.one i) test elt cf fr h = .ok (.ref h1.length) (h1 ++ [.list ((l.filter p).map f)]) := by
  have hl : (fr ++ List.replicate own (none : Option AV)).length = fr.length + own := by simp
  have es : yk h1 (.ref a) = some (.ref a, (l.map g).length) := by simp only [yk, e2]
  unfold yh
  rw [e1]
  simp only [Out.bind_ok]
  rw [es]
  dsimp only
  rw [List.length_map, Zk g (fr := fr ++ List.replicate own none) (l := l) (p := p) (f := f) (by rw [hl]; exact hi) (fun k => by simp only [Src.next?, e2]) hsm (fun fr' a b => ht fr' (by rw [a, hl]) b) (fun fr' a b => he fr' (by rw [a, hl]) b)]
  rfl
theorem z3 {i : Nat} {cf : CF} {fr : AFr} {h : Hp} {v : AV} (e : fr[i]? = some (some v)) : z4 i cf fr h = .ok v h := by simp only [z4, e]
theorem YR {α : Type} (g : α → AV) {it : XE} {own i : Nat} {v : AV} {test : XT} {elt : XE} {cf : CF} {fr : AFr} {h h1 : Hp} {l : List α} {p : α → Bool} {f : α → AV} (e1 : it cf fr h = .ok v h1) (e2 : yk h1 v = some (.imm (l.map g), l.length)) (hi : i < fr.length + own) (hsm : l.length < small)
    (ht : ∀ fr', fr'.length = fr.length + own → (∀ j, j ≠ i → fr'[j]? = (fr ++ List.replicate own none)[j]?) → ∀ x ∈ l, fr'[i]? = some (some (g x)) → test cf fr' h1 = .ok (p x) h1)
    (he : ∀ fr', fr'.length = fr.length + own → (∀ j, j ≠ i → fr'[j]? = (fr ++ List.replicate own none)[j]?) → ∀ x ∈ l, fr'[i]? = some (some (g x)) → elt cf fr' h1 = .ok (f x) h1) :
    yh it own (.one i) test elt cf fr h = .ok (.ref h1.length) (h1 ++ [.list ((l.filter p).map f)]) := by
  have hl : (fr ++ List.replicate own (none : Option AV)).length = fr.length + own := by simp
  unfold yh
  rw [e1]
  simp only [Out.bind_ok]
  rw [e2]
  dsimp only
  rw [Zk g (fr := fr ++ List.replicate own none) (l := l) (p := p) (f := f) (by rw [hl]; exact hi) (fun k => rfl) hsm (fun fr' a b => ht fr' (by rw [a, hl]) b) (fun fr' a b => he fr' (by rw [a, hl]) b)]
  rfl
theorem z5 {s : XS} {r : List XS} {cf : CF} {fr fr1 : AFr} {h h1 : Hp} (e : s cf fr h = .ok .next fr1 h1) : z9 (s :: r) cf fr h = z9 r cf fr1 h1 := by simp only [z9, e]
theorem zJ {s : XS} {r : List XS} {cf : CF} {fr fr1 : AFr} {h h1 : Hp} {v : AV} (e : s cf fr h = .ok (.ret v) fr1 h1) : z9 (s :: r) cf fr h = .ok (.ret v) fr1 h1 := by simp only [z9, e]
theorem zC {cf : CF} {fr : AFr} {h : Hp} : z9 [] cf fr h = .ok .next fr h := rfl
theorem xB {t : NTgt} {body : XS} {src : Src} {cf : CF} {xs : List AV} (P : Nat → AFr → Hp → Prop) (hsrc : ∀ k fr h, P k fr h → src.next? h k = some xs[k]?)
    (step : ∀ k x fr h, P k fr h → xs[k]? = some x → ∃ fr1 fr2 h2, jw h t x fr = some fr1 ∧ body cf fr1 h = .ok .next fr2 h2 ∧ P (k + 1) fr2 h2) {fr : AFr} {h : Hp} (p0 : P 0 fr h) :
    ∃ fr' h', xT t body src (xs.length + 1) 0 cf fr h = .ok .next fr' h' ∧ P xs.length fr' h' := by
  have key : ∀ (m k : Nat) (fr : AFr) (h : Hp), k + m = xs.length → P k fr h → ∃ fr' h', xT t body src (m + 1) k cf fr h = .ok .next fr' h' ∧ P xs.length fr' h' := by
    intro m
    induction m with
    | zero =>
      intro k fr h hk p
      have : k = xs.length := hk
      subst this
      refine ⟨fr, h, ?_, p⟩
      show (match src.next? h xs.length with
        | none => OS.stuck
        | some none => .ok .next fr h
        | some (some x) => _) = _
      rw [hsrc _ _ _ p, List.getElem?_eq_none (Nat.le_refl _)]
    | succ m ih =>
      intro k fr h hk p
      have hlt : k < xs.length := by lia
      have hx := y9 hlt
      obtain ⟨fr1, fr2, h2, e1, e2, p2⟩ := step k _ fr h p hx
      obtain ⟨fr', h', e3, p3⟩ := ih (k + 1) fr2 h2 (by lia) p2
      refine ⟨fr', h', ?_, p3⟩
      show (match src.next? h k with
        | none => OS.stuck
        | some none => .ok .next fr h
        | some (some x) => (match jw h t x fr with
          | none => .stuck
          | some fr₁ => (match body cf fr₁ h with
            | .ok .next fr₂ h₂ => xT t body src (m + 1) (k + 1) cf fr₂ h₂
            | .ok (.ret v) fr₂ h₂ => .ok (.ret v) fr₂ h₂
            | _ => .stuck))) = _
      rw [hsrc _ _ _ p, hx]
      show (match jw h t xs[k] fr with
          | none => OS.stuck
          | some fr₁ => (match body cf fr₁ h with
            | .ok .next fr₂ h₂ => xT t body src (m + 1) (k + 1) cf fr₂ h₂
            | .ok (.ret v) fr₂ h₂ => .ok (.ret v) fr₂ h₂
            | _ => .stuck)) = _
      rw [e1]
      show (match body cf fr1 h with
            | .ok .next fr₂ h₂ => xT t body src (m + 1) (k + 1) cf fr₂ h₂
            | .ok (.ret v) fr₂ h₂ => .ok (.ret v) fr₂ h₂
            | _ => .stuck) = _
      rw [e2]
      exact e3
  exact key xs.length 0 fr h (Nat.zero_add _) p0
theorem zL {F : Fn} {cf : CF} {args : List AV} {h h' : Hp} {fr fr' : AFr} {v : AV} (hn : args.length = F.np) (hf : args.map some ++ List.replicate (F.nl - F.np) none = fr) (e : F.body cf fr h = .ok (.ret v) fr' h') : yK F cf args h = .ok v h' := by
  unfold yK; rw [if_pos hn, hf, e]
theorem zt {F : Fn} {cf : CF} {args : List AV} {h h' : Hp} {fr fr' : AFr} (hn : args.length = F.np) (hf : args.map some ++ List.replicate (F.nl - F.np) none = fr) (e : F.body cf fr h = .ok .next fr' h') : yK F cf args h = .ok .none h' := by
  unfold yK; rw [if_pos hn, hf, e]
theorem zZ {t : XT} {a b : XS} {cf : CF} {fr : AFr} {h h1 : Hp} (e : t cf fr h = .ok true h1) : sIf t a b cf fr h = a cf fr h1 := by unfold sIf; rw [e]; rfl
theorem zH {t : XT} {a b : XS} {cf : CF} {fr : AFr} {h h1 : Hp} (e : t cf fr h = .ok false h1) : sIf t a b cf fr h = b cf fr h1 := by unfold sIf; rw [e]; rfl
section
variable {cf : CF} {fr : AFr} {h h1 h2 h3 : Hp} {x y o i f l u : XE} {xs : List XE} {v w k a' b' : AV} {vs : List AV} {a j : Nat} {okf : Str → Str → Bool} {name : Str} {c : Str} {fs : List (Str × AV)} {res : Out AV} {resS : OS}
theorem zd (e : x cf fr h = .ok v h1) : zV x cf fr h = .ok (.ret v) fr h1 := by unfold zV; rw [e]; rfl
theorem zU (e : x cf fr h = .ok v h1) : zG x cf fr h = .ok .next fr h1 := by unfold zG; rw [e]; rfl
theorem zW (e : x cf fr h = .ok v h1) (hi : j < fr.length) : z8 okf (.names (.one j)) x cf fr h = .ok .next (fr.set j (some v)) h1 := by
  unfold z8
  rw [e]
  show (match NTgt.bind (.one j) v fr with | some fr₁ => OS.ok .next fr₁ h1 | none => .stuck) = _
  rw [show NTgt.bind (.one j) v fr = some (fr.set j (some v)) from if_pos hi]
theorem xd {is : List Nat} {fr1 : AFr} (e : x cf fr h = .ok (.tup vs) h1) (hb : yb is vs fr = some fr1) : z8 okf (.names (.many is)) x cf fr h = .ok .next fr1 h1 := by
  unfold z8
  rw [e]
  show (match yb is vs fr with | some fr₁ => OS.ok .next fr₁ h1 | none => .stuck) = _
  rw [hb]
theorem zQ (e : o cf fr h = .ok (.ref a) h1) (ha : h1[a]? = some (.inst c fs)) (hl : fs.lookup name = some v) : zD o name cf fr h = .ok v h1 := by
  unfold zD
  rw [e]
  show (match h1[a]? with | some (.inst _ fs) => Out.of (fs.lookup name) h1 | _ => .stuck) = _
  rw [ha]
  show Out.of (fs.lookup name) h1 = _
  rw [hl]; rfl
theorem zF {me : Option Me} (e : o cf fr h = .ok (.ref a) h1) (ha : h1[a]? = some (.inst c fs)) (hl : fs.lookup name = none) (ev : evs xs cf fr h1 = .ok vs h2) (ec : cf (.meth c name) (.ref a :: vs) h2 = res) : z6 o name me xs cf fr h = res := by
  unfold z6
  rw [e]
  show (match h1[a]? with
    | some (.inst c fs) => (match fs.lookup name with
      | some _ => Out.stuck
      | none => (evs xs cf fr h1).bind0 fun vs h₂ => cf (.meth c name) (.ref a :: vs) h₂)
    | some (.list _) => (match me with
      | some m => (evs xs cf fr h1).bind0 fun vs h₂ => yG m (.ref a) vs h₂
      | none => .stuck)
    | some (.dict _) => (match me with
      | some m => (evs xs cf fr h1).bind0 fun vs h₂ => ofP (meD m a vs h₂)
      | none => .stuck)
    | none => .stuck) = _
  rw [ha]
  show (match fs.lookup name with
      | some _ => Out.stuck
      | none => (evs xs cf fr h1).bind0 fun vs h₂ => cf (.meth c name) (.ref a :: vs) h₂) = _
  rw [hl]
  show (evs xs cf fr h1).bind0 _ = _
  rw [ev]; exact ec
theorem j7 {m : Me} {ys : List AV} (e : o cf fr h = .ok (.ref a) h1) (ha : h1[a]? = some (.list ys)) (ev : evs xs cf fr h1 = .ok vs h2) (ec : yG m (.ref a) vs h2 = res) : z6 o name (some m) xs cf fr h = res := by
  unfold z6
  rw [e]
  show (match h1[a]? with
    | some (.inst c fs) => (match fs.lookup name with
      | some _ => Out.stuck
      | none => (evs xs cf fr h1).bind0 fun vs h₂ => cf (.meth c name) (.ref a :: vs) h₂)
    | some (.list _) => (evs xs cf fr h1).bind0 fun vs h₂ => yG m (.ref a) vs h₂
    | some (.dict _) => (evs xs cf fr h1).bind0 fun vs h₂ => ofP (meD m a vs h₂)
    | none => .stuck) = _
  rw [ha]
  show (evs xs cf fr h1).bind0 _ = _
  rw [ev]; exact ec
theorem z2m {m : Me} {kvs : List (Int × AV)} (e : o cf fr h = .ok (.ref a) h1) (ha : h1[a]? = some (.dict kvs)) (ev : evs xs cf fr h1 = .ok vs h2) (ec : ofP (meD m a vs h2) = res) : z6 o name (some m) xs cf fr h = res := by
  unfold z6
  rw [e]
  show (match h1[a]? with
    | some (.inst c fs) => (match fs.lookup name with
      | some _ => Out.stuck
      | none => (evs xs cf fr h1).bind0 fun vs h₂ => cf (.meth c name) (.ref a :: vs) h₂)
    | some (.list _) => (evs xs cf fr h1).bind0 fun vs h₂ => yG m (.ref a) vs h₂
    | some (.dict _) => (evs xs cf fr h1).bind0 fun vs h₂ => ofP (meD m a vs h₂)
    | none => .stuck) = _
  rw [ha]
  show (evs xs cf fr h1).bind0 _ = _
  rw [ev]; exact ec
theorem zCy {m : Me} {s : Str} (e : o cf fr h = .ok (.str s) h1) (ev : evs xs cf fr h1 = .ok vs h2) (ec : yG m (.str s) vs h2 = res) : z6 o name (some m) xs cf fr h = res := by
  unfold z6
  rw [e]
  show (evs xs cf fr h1).bind0 _ = _
  rw [ev]; exact ec
theorem zg {n : Str} (ev : evs xs cf fr h = .ok vs h2) (ec : cf (.fn n) vs h2 = res) : zB (zA (some (.fn n))) xs cf fr h = res := by
  unfold zB
  show (evs xs cf fr h).bind0 _ = _
  rw [ev]; exact ec
theorem JX {n : Str} (ev : evs xs cf fr h = .ok vs h2) (ec : cf (.cls n) vs h2 = res) : zB (zA (some (.cls n))) xs cf fr h = res := by
  unfold zB
  show (evs xs cf fr h).bind0 _ = _
  rw [ev]; exact ec
theorem xX {b : Bi} (ev : evs xs cf fr h = .ok vs h2) (ec : x6 b vs h2 = res) : zB (zA (some (.bi b))) xs cf fr h = res := by
  unfold zB
  show (evs xs cf fr h).bind0 _ = _
  rw [ev]; exact ec
theorem ev0 : evs [] cf fr h = .ok [] h := rfl
theorem ev1 (e : x cf fr h = .ok v h1) (e' : evs xs cf fr h1 = .ok vs h2) : evs (x :: xs) cf fr h = .ok (v :: vs) h2 := by
  show Out.bind (x cf fr h) _ = _
  rw [e]
  show Out.bind (evs xs cf fr h1) _ = _
  rw [e']; rfl
theorem zf {op : Operator} (e : x cf fr h = .ok v h1) (e' : y cf fr h1 = .ok w h2) (eb : XA op v w h2 = res) : zI op x y cf fr h = res := by
  unfold zI
  rw [e]
  show Out.bind (y cf fr h1) _ = _
  rw [e']; exact eb
theorem zq (e : o cf fr h = .ok v h1) (e' : i cf fr h1 = .ok w h2) (eb : wG h2 v w = some k) : zR o i cf fr h = .ok k h2 := by
  unfold zR
  rw [e]
  show Out.bind (i cf fr h1) _ = _
  rw [e']
  show Out.of (wG h2 v w) h2 = _
  rw [eb]; rfl
theorem JW (e : o cf fr h = .ok v h1) (e' : l cf fr h1 = .ok a' h2) (e'' : u cf fr h2 = .ok b' h3) (eb : z0f h3 v a' b' = res) : Z2 o l u cf fr h = res := by
  unfold Z2
  rw [e]
  show Out.bind (l cf fr h1) _ = _
  rw [e']
  show Out.bind (u cf fr h2) _ = _
  rw [e'']; exact eb
theorem qp {t : NTgt} {en : Bool} {body : XS} {src : Src} {m : Nat} (e : x cf fr h = .ok v h1) (es : yk h1 v = some (src, m)) (ef : xT t body src (m + 1) 0 cf fr h1 = resS) : xQ t x false body cf fr h = resS := by
  unfold xQ
  rw [e]
  show (match yk h1 v with | none => OS.stuck | some (src, n) => xT t body src (n + 1) 0 cf fr h1) = _
  rw [es]; exact ef
theorem zC2 {is : List Nat} {body : XS} {m : Nat} (e : x cf fr h = .ok v h1) (es : yk h1 v = some (.ref a, m)) (ef : xT (.many is) body (.enum a) (m + 1) 0 cf fr h1 = resS) : xQ (.many is) x true body cf fr h = resS := by
  unfold xQ
  rw [e]
  show (match yk h1 v with | none => OS.stuck | some (src, n) => (match src with
      | .ref a => xT (.many is) body (.enum a) (n + 1) 0 cf fr h1
      | _ => .stuck)) = _
  rw [es]; exact ef
theorem yL (ev : evs xs cf fr h = .ok vs h1) : zw xs cf fr h = .ok (.ref h1.length) (h1 ++ [.list vs]) := by
  unfold zw; rw [ev]; rfl
theorem xS (ev : evs xs cf fr h = .ok vs h1) : yZ xs cf fr h = .ok (.tup vs) h1 := by
  unfold yZ; rw [ev]; rfl
theorem yX (e : x cf fr h = .ok v h1) {b : Bool} (eb : xE h1 v = some b) : zp x cf fr h = .ok b h1 := by
  unfold zp; rw [e]
  show Out.of (xE h1 v) h1 = _
  rw [eb]; rfl
theorem zu {t : XT} {b : Bool} (e : t cf fr h = .ok b h1) : yA t cf fr h = .ok (!b) h1 := by
  unfold yA; rw [e]; rfl
theorem ZM (e : x cf fr h = .ok v h1) (eo : o cf fr h1 = .ok w h2) (ei : i cf fr h2 = .ok k h3) {h4 : Hp} (es : xz h3 w k v = some h4) : z8 okf (.item o i) x cf fr h = .ok .next fr h4 := by
  unfold z8
  rw [e]
  show Out.bindS (o cf fr h1) fr _ = _
  rw [eo]
  show Out.bindS (i cf fr h2) fr _ = _
  rw [ei]
  show (match xz h3 w k v with | some h₄ => OS.ok .next fr h₄ | none => .stuck) = _
  rw [es]
theorem zX {op : CmpOp} {b : Bool} (e : x cf fr h = .ok v h1) (e' : y cf fr h1 = .ok w h2) (eb : yU op v w h2 = some b) : zN x [op] [y] cf fr h = .ok b h2 := by
  unfold zN
  rw [e]
  show qS v [op] [y] cf fr h1 = _
  rw [YQ, e']
  show Out.of (yU op v w h2) h2 = _
  rw [eb]; rfl
theorem x7 {t : XT} {ts : List XT} {b : Bool} (e : t cf fr h = .ok false h1) (e' : zT .Or ts cf fr h1 = .ok b h2) : zT .Or (t :: ts) cf fr h = .ok b h2 := by
  unfold zT; rw [e]; exact e'
theorem W4 {t : XT} {ts : List XT} (e : t cf fr h = .ok true h1) : zT .Or (t :: ts) cf fr h = .ok true h1 := by
  unfold zT; rw [e]; rfl
theorem qN : zT .Or [] cf fr h = .ok false h := rfl
theorem qq {t : XT} {ts : List XT} {b : Bool} (e : t cf fr h = .ok true h1) (e' : zT .And ts cf fr h1 = .ok b h2) : zT .And (t :: ts) cf fr h = .ok b h2 := by
  unfold zT; rw [e]; exact e'
theorem q7 {t : XT} {ts : List XT} (e : t cf fr h = .ok false h1) : zT .And (t :: ts) cf fr h = .ok false h1 := by
  unfold zT; rw [e]; rfl
theorem QS : zT .And [] cf fr h = .ok true h := rfl
end
theorem Z8 {cf : CF} {fr : AFr} {h h1 h2 : Hp} {x y : XE} {zs : List XE} {v w : AV} {op op' : CmpOp} {ops : List CmpOp} (e : x cf fr h = .ok v h1) (e' : y cf fr h1 = .ok w h2) (eb : yU op v w h2 = some false) : zN x (op :: op' :: ops) (y :: zs) cf fr h = .ok false h2 := by
  unfold zN
  rw [e]
  show qS v (op :: op' :: ops) (y :: zs) cf fr h1 = _
  rw [YO, e']
  show (match yU op v w h2 with | some true => _ | some false => _ | none => _) = _
  rw [eb]
theorem yu {cf : CF} {fr : AFr} {h h1 h2 h3 : Hp} {x y z : XE} {v w u : AV} {b : Bool} {op op' : CmpOp} (e : x cf fr h = .ok v h1) (e' : y cf fr h1 = .ok w h2) (eb : yU op v w h2 = some true) (ez : z cf fr h2 = .ok u h3) (ec : yU op' w u h3 = some b) : zN x [op, op'] [y, z] cf fr h = .ok b h3 := by
  unfold zN
  rw [e]
  show qS v [op, op'] [y, z] cf fr h1 = _
  rw [YO, e']
  show (match yU op v w h2 with | some true => qS w [op'] [z] cf fr h2 | some false => _ | none => _) = _
  rw [eb]
  show qS w [op'] [z] cf fr h2 = _
  rw [YQ, ez]
  show Out.of (yU op' w u h3) h3 = _
  rw [ec]; rfl
theorem wv {x : Int} {n : Nat} (h0 : 0 ≤ x) (h1 : x < n) : x.toNat < n := (Int.toNat_lt h0).mpr h1
theorem YW {x : Int} {n k : Nat} (h0 : 0 ≤ x) (h1 : x < ((n + k : Nat) : Int)) (h2 : ¬ x < n) : x.toNat - n < k := Nat.sub_lt_left_of_lt_add (Int.ofNat_le.mp (by rw [Int.toNat_of_nonneg h0]; exact Int.not_lt.mp h2)) ((Int.toNat_lt h0).mpr h1)
theorem Zt {x : Int} {n : Nat} (h0 : 0 ≤ x) (h2 : ¬ x < n) : ((n + (x.toNat - n) : Nat) : Int) = x := by
  rw [Nat.add_sub_cancel' (Int.ofNat_le.mp (by rw [Int.toNat_of_nonneg h0]; exact Int.not_lt.mp h2)), Int.toNat_of_nonneg h0]
theorem XD {x : Int} {n : Nat} (k : Nat) (h : x < n) : x < ((n + k : Nat) : Int) := Int.lt_of_lt_of_le h (Int.ofNat_le.mpr (Nat.le_add_right _ _))
theorem zBs {i j : Int} {m : Nat} (h0 : 0 ≤ i) (h1 : i < j) (h5 : j ≤ i + 5) : min j.toNat m - i.toNat ≤ 5 := by lia
theorem QF {a b m : Nat} (h : a + m < 200) (h' : b ≤ m) : a + b < 200 := Nat.lt_of_le_of_lt (Nat.add_le_add_left h' a) h
end Mine
end
section
namespace Mine.LS
open PySem Mine
set_option maxRecDepth 100000
noncomputable def kBu (okf : Str → Str → Bool) : Fn := ⟨1, 1, (z9 [(zV (jM .And [(zB (zA (some (.bi .isinstance))) [(z4 0), (zA (some (.bi .int)))]), (Qj (zB (zA (some (.bi .isinstance))) [(z4 0), (zA (some (.bi .bool)))]))]))])⟩
noncomputable def kBp (okf : Str → Str → Bool) : Fn := ⟨1, 1, (z9 [(z8 okf (.attr (z4 0) "line") (zw [])), (z8 okf (.attr (z4 0) "flags") (zw []))])⟩
noncomputable def kAp (okf : Str → Str → Bool) : Fn := ⟨2, 2, (z9 [(sIf (zT .Or [(yA (zp (zB (zA (some (.fn "is_whole"))) [(z4 1)]))), (yA (zN (z7 (.int 0)) [.LtE, .Lt] [(z4 1), (zB (zA (some (.bi .len))) [(zD (z4 0) "flags")])]))]) (z9 [(yn "NoSeat")]) (z9 []))])⟩
noncomputable def kB3 (okf : Str → Str → Bool) : Fn := ⟨2, 4, (z9 [(z8 okf (.names (.one 2)) (z7 (.int 0))), (sIf (zN (z4 1) [.IsNot] [(z7 .none)]) (z9 [(zG (z6 (z4 0) "need_seat" none [(z4 1)])), (z8 okf (.names (.one 2)) (zI .Add (z6 (zD (z4 0) "line") "index" (some .index) [(z4 1)]) (z7 (.int 1))))]) (z9 [])), (z8 okf (.names (.one 3)) (zB (zA (some (.bi .len))) [(zD (z4 0) "flags")])), (zG (z6 (zD (z4 0) "line") "insert" (some .insert) [(z4 2), (z4 3)])), (zG (z6 (zD (z4 0) "flags") "append" (some .append) [(z7 (.bool false))])), (zV (z4 3))])⟩
noncomputable def kBx (okf : Str → Str → Bool) : Fn := ⟨3, 3, (z9 [(zG (z6 (z4 0) "need_seat" none [(z4 1)])), (z8 okf (.item (zD (z4 0) "flags") (z4 1)) (z4 2))])⟩
noncomputable def kAr (okf : Str → Str → Bool) : Fn := ⟨2, 2, (z9 [(zG (z6 (z4 0) "need_seat" none [(z4 1)])), (zV (zR (zD (z4 0) "flags") (z4 1)))])⟩
noncomputable def kAo (okf : Str → Str → Bool) : Fn := ⟨1, 1, (z9 [(zV (z6 (zD (z4 0) "flags") "count" (some .count) [(z7 (.bool true))]))])⟩
noncomputable def kBh (okf : Str → Str → Bool) : Fn := ⟨2, 3, (z9 [(zG (z6 (z4 0) "need_seat" none [(z4 1)])), (z8 okf (.names (.one 2)) (Z2 (zD (z4 0) "line") (z7 .none) (z6 (zD (z4 0) "line") "index" (some .index) [(z4 1)]))), (zV (zB (zA (some (.bi .len))) [(yh (z4 2) 1 (.one 3) (zT .And [(zp (zR (zD (z4 0) "flags") (z4 3)))]) (z4 3))]))])⟩
noncomputable def kBr (okf : Str → Str → Bool) : Fn := ⟨2, 3, (z9 [(z8 okf (.names (.one 2)) (yh (zD (z4 0) "line") 1 (.one 3) (zT .And [(zp (zR (zD (z4 0) "flags") (z4 3)))]) (z4 3))), (sIf (zT .Or [(yA (zp (zB (zA (some (.fn "is_whole"))) [(z4 1)]))), (yA (zN (z7 (.int 0)) [.LtE, .Lt] [(z4 1), (zB (zA (some (.bi .len))) [(z4 2)])]))]) (z9 [(yn "NoPlace")]) (z9 [])), (zV (zR (z4 2) (z4 1)))])⟩
noncomputable def kAu (okf : Str → Str → Bool) : Fn := ⟨3, 3, (z9 [(zG (z6 (z4 0) "need_seat" none [(z4 1)])), (zG (z6 (z4 0) "need_seat" none [(z4 2)])), (zV (Zn (z6 (zD (z4 0) "line") "index" (some .index) [(z4 1)]) [.Lt] [(z6 (zD (z4 0) "line") "index" (some .index) [(z4 2)])]))])⟩
noncomputable def kBi (okf : Str → Str → Bool) : Fn := ⟨1, 1, (z9 [(zV (zB (zA (some (.bi .list))) [(zD (z4 0) "line")]))])⟩
noncomputable def kAv (okf : Str → Str → Bool) : Fn := ⟨2, 2, (z9 [(z8 okf (.attr (z4 0) "sheet") (z4 1)), (z8 okf (.attr (z4 0) "kept") xm), (z8 okf (.attr (z4 0) "coming") (z7 (.int 0)))])⟩
noncomputable def kAa (okf : Str → Str → Bool) : Fn := ⟨2, 2, (z9 [(sIf (zT .Or [(yA (zp (zB (zA (some (.fn "is_whole"))) [(z4 1)]))), (zN (z4 1) [.NotIn] [(zD (z4 0) "kept")])]) (z9 [(yn "NoMark")]) (z9 []))])⟩
noncomputable def kA9 (okf : Str → Str → Bool) : Fn := ⟨3, 4, (z9 [(zG (z6 (zD (z4 0) "sheet") "need_stretch" none [(z4 1), (z4 2)])), (z8 okf (.names (.one 3)) (zD (z4 0) "coming")), (z8 okf (.attr (z4 0) "coming") (zI .Add (z4 3) (z7 (.int 1)))), (z8 okf (.item (zD (z4 0) "kept") (z4 3)) (yZ [(z6 (zD (z4 0) "sheet") "sign_at" none [(z4 1)]), (z6 (zD (z4 0) "sheet") "sign_at" none [(zI .Sub (z4 2) (z7 (.int 1)))])])), (zV (z4 3))])⟩
noncomputable def kAx (okf : Str → Str → Bool) : Fn := ⟨2, 2, (z9 [(zG (z6 (z4 0) "need_thread" none [(z4 1)])), (zG (z6 (zD (z4 0) "kept") "pop" (some .pop) [(z4 1)]))])⟩
noncomputable def kAy (okf : Str → Str → Bool) : Fn := ⟨2, 7, (z9 [(zG (z6 (z4 0) "need_thread" none [(z4 1)])), (z8 okf (.names (.many [2, 3])) (zR (zD (z4 0) "kept") (z4 1))), (sIf (zp (z6 (zD (z4 0) "sheet") "is_ahead" none [(z4 3), (z4 2)])) (z9 [(z8 okf (.names (.many [2, 3])) (yZ [(z4 3), (z4 2)]))]) (z9 [])), (z8 okf (.names (.one 4)) (zR (z6 (zD (z4 0) "sheet") "place_of" none [(z4 2)]) (z7 (.int 0)))), (z8 okf (.names (.many [5, 6])) (z6 (zD (z4 0) "sheet") "place_of" none [(z4 3)])), (zV (yZ [(z4 4), (zI .Add (z4 5) (zB (zA (some (.bi .int))) [(z4 6)]))]))])⟩
noncomputable def kAg (okf : Str → Str → Bool) : Fn := ⟨1, 1, (z9 [(zV (zB (zA (some (.bi .sorted))) [(zD (z4 0) "kept")]))])⟩
noncomputable def kAt (okf : Str → Str → Bool) : Fn := ⟨2, 6, (z9 [(zG (z6 (zD (z4 0) "sheet") "sign_at" none [(z4 1)])), (z8 okf (.names (.one 2)) (zw [])), (xQ (.one 3) (zB (zA (some (.bi .sorted))) [(zD (z4 0) "kept")]) false (z9 [(z8 okf (.names (.many [4, 5])) (z6 (z4 0) "told" none [(z4 3)])), (sIf (zN (z4 4) [.LtE, .Lt] [(z4 1), (z4 5)]) (z9 [(zG (z6 (z4 2) "append" (some .append) [(z4 3)]))]) (z9 []))])), (zV (z4 2))])⟩
noncomputable def kBz (okf : Str → Str → Bool) : Fn := ⟨1, 1, (z9 [(zV (jM .And [(zB (zA (some (.bi .isinstance))) [(z4 0), (zA (some (.bi .str)))]), (zB (zA (some (.bi .all))) [(yh (z4 0) 1 (.one 1) (zT .And []) (Zn (z4 1) [.In] [(zA (some (.str " !\"#$&'()*+,-./0123456789:;<=>?@ABCDEFGHIJKLMNOPQRSTUVWXYZ[\\]^_`abcdefghijklmnopqrstuvwxyz{|}~\n")))]))])]))])⟩
noncomputable def kBf (okf : Str → Str → Bool) : Fn := ⟨3, 3, (z9 [(sIf (yA (zp (zB (zA (some (.fn "is_text"))) [(z4 1)]))) (z9 [(yn "BadText")]) (z9 [])), (sIf (zT .Or [(yA (zp (zB (zA (some (.fn "is_whole"))) [(z4 2)]))), (yA (zN (z7 (.int 1)) [.LtE, .LtE] [(z4 2), (zA (some (.int 9)))]))]) (z9 [(yn "NoHand")]) (z9 [])), (z8 okf (.attr (z4 0) "hands") (z4 2)), (z8 okf (.attr (z4 0) "row") (zB (zA (some (.cls "Row"))) [])), (z8 okf (.attr (z4 0) "owners") (zw [])), (z8 okf (.attr (z4 0) "letters") (zw [])), (z8 okf (.attr (z4 0) "firsts") (zw [])), (z8 okf (.attr (z4 0) "moved") (zw [])), (z8 okf (.attr (z4 0) "bringers") (zw [])), (z8 okf (.attr (z4 0) "cutters") (zw [])), (z8 okf (.attr (z4 0) "done") (zw [])), (z8 okf (.attr (z4 0) "standing") (zw [])), (z8 okf (.attr (z4 0) "lost") (zw [])), (zG (z6 (z4 0) "bring" none [(z4 1), (z7 .none), (z7 .none)]))])⟩
noncomputable def kA7 (okf : Str → Str → Bool) : Fn := ⟨4, 6, (z9 [(z8 okf (.names (.one 4)) (zw [])), (xQ (.one 5) (z4 1) false (z9 [(z8 okf (.names (.one 2)) (z6 (zD (z4 0) "row") "add" none [(z4 2)])), (zG (z6 (zD (z4 0) "owners") "append" (some .append) [(zB (zA (some (.bi .len))) [(zD (z4 0) "letters")])])), (zG (z6 (z4 4) "append" (some .append) [(zB (zA (some (.bi .len))) [(zD (z4 0) "letters")])])), (zG (z6 (zD (z4 0) "letters") "append" (some .append) [(z4 5)])), (zG (z6 (zD (z4 0) "firsts") "append" (some .append) [(z4 2)])), (zG (z6 (zD (z4 0) "moved") "append" (some .append) [(zw [])])), (zG (z6 (zD (z4 0) "bringers") "append" (some .append) [(z4 3)])), (zG (z6 (zD (z4 0) "cutters") "append" (some .append) [(zw [])])), (zG (z6 (zD (z4 0) "row") "take" none [(z4 2), (z7 (.bool true))]))])), (zV (z4 4))])⟩
noncomputable def kAf (okf : Str → Str → Bool) : Fn := ⟨2, 2, (z9 [(sIf (zT .Or [(yA (zp (zB (zA (some (.fn "is_whole"))) [(z4 1)]))), (yA (zN (z7 (.int 0)) [.LtE, .Lt] [(z4 1), (zD (z4 0) "hands")]))]) (z9 [(yn "NoHand")]) (z9 []))])⟩
noncomputable def kAi (okf : Str → Str → Bool) : Fn := ⟨2, 2, (z9 [(sIf (zT .Or [(yA (zp (zB (zA (some (.fn "is_whole"))) [(z4 1)]))), (yA (zN (z7 (.int 0)) [.LtE, .Lt] [(z4 1), (zB (zA (some (.bi .len))) [(zD (z4 0) "letters")])]))]) (z9 [(yn "NoSeat")]) (z9 []))])⟩
noncomputable def kAd (okf : Str → Str → Bool) : Fn := ⟨2, 2, (z9 [(sIf (zT .Or [(yA (zp (zB (zA (some (.fn "is_whole"))) [(z4 1)]))), (yA (zN (z7 (.int 0)) [.LtE, .LtE] [(z4 1), (z6 (z4 0) "size" none [])]))]) (z9 [(yn "NoPlace")]) (z9 []))])⟩
noncomputable def kAb (okf : Str → Str → Bool) : Fn := ⟨3, 3, (z9 [(zG (z6 (z4 0) "need_place" none [(z4 1)])), (zG (z6 (z4 0) "need_place" none [(z4 2)])), (sIf (zN (z4 1) [.GtE] [(z4 2)]) (z9 [(yn "NoPlace")]) (z9 []))])⟩
noncomputable def kAe (okf : Str → Str → Bool) : Fn := ⟨2, 2, (z9 [(sIf (zT .Or [(yA (zp (zB (zA (some (.fn "is_whole"))) [(z4 1)]))), (yA (zN (z7 (.int 0)) [.LtE, .Lt] [(z4 1), (zB (zA (some (.bi .len))) [(zD (z4 0) "done")])]))]) (z9 [(yn "NoDeed")]) (z9 []))])⟩
noncomputable def kAq (okf : Str → Str → Bool) : Fn := ⟨2, 5, (z9 [(z8 okf (.names (.one 2)) (zR (zD (z4 0) "firsts") (z4 1))), (xQ (.many [3, 4]) (zR (zD (z4 0) "moved") (z4 1)) false (z9 [(sIf (zp (zR (zD (z4 0) "standing") (z4 3))) (z9 [(z8 okf (.names (.one 2)) (z4 4))]) (z9 []))])), (zV (z4 2))])⟩
noncomputable def kAm (okf : Str → Str → Bool) : Fn := ⟨2, 3, (z9 [(z8 okf (.names (.one 2)) (zR (zD (z4 0) "bringers") (z4 1))), (sIf (zT .And [(zN (z4 2) [.IsNot] [(z7 .none)]), (yA (zp (zR (zD (z4 0) "standing") (z4 2))))]) (z9 [(zV (z7 (.bool false)))]) (z9 [])), (zV (Qj (zB (zA (some (.bi .any))) [(yh (zR (zD (z4 0) "cutters") (z4 1)) 1 (.one 3) (zT .And []) (zR (zD (z4 0) "standing") (z4 3)))])))])⟩
noncomputable def kAs (okf : Str → Str → Bool) : Fn := ⟨2, 5, (z9 [(xQ (.one 2) (z4 1) false (z9 [(zG (z6 (zD (z4 0) "row") "take" none [(zR (zD (z4 0) "firsts") (z4 2)), (z7 (.bool false))])), (xQ (.many [3, 4]) (zR (zD (z4 0) "moved") (z4 2)) false (z9 [(zG (z6 (zD (z4 0) "row") "take" none [(z4 4), (z7 (.bool false))]))])), (sIf (zp (z6 (z4 0) "is_shown" none [(z4 2)])) (z9 [(zG (z6 (zD (z4 0) "row") "take" none [(z6 (z4 0) "seat_of" none [(z4 2)]), (z7 (.bool true))]))]) (z9 []))]))])⟩
noncomputable def kBg (okf : Str → Str → Bool) : Fn := ⟨1, 1, (z9 [(zV (z6 (zD (z4 0) "row") "all_taken" none []))])⟩
noncomputable def kA0 (okf : Str → Str → Bool) : Fn := ⟨1, 1, (z9 [(zV (yh (z6 (zD (z4 0) "row") "order" none []) 1 (.one 1) (zT .And [(zp (z6 (zD (z4 0) "row") "is_taken" none [(z4 1)]))]) (zR (zD (z4 0) "owners") (z4 1))))])⟩
noncomputable def kAn (okf : Str → Str → Bool) : Fn := ⟨2, 2, (z9 [(zV (zR (zD (z4 0) "owners") (z6 (zD (z4 0) "row") "find" none [(z4 1)])))])⟩
noncomputable def kAk (okf : Str → Str → Bool) : Fn := ⟨2, 2, (z9 [(zG (z6 (z4 0) "need_sign" none [(z4 1)])), (zV (yZ [(z6 (zD (z4 0) "row") "ahead" none [(z6 (z4 0) "seat_of" none [(z4 1)])]), (z6 (z4 0) "is_shown" none [(z4 1)])]))])⟩
noncomputable def kAj (okf : Str → Str → Bool) : Fn := ⟨3, 3, (z9 [(zG (z6 (z4 0) "need_sign" none [(z4 1)])), (zG (z6 (z4 0) "need_sign" none [(z4 2)])), (zV (z6 (zD (z4 0) "row") "is_ahead" none [(z6 (z4 0) "seat_of" none [(z4 1)]), (z6 (z4 0) "seat_of" none [(z4 2)])]))])⟩
noncomputable def kAc (okf : Str → Str → Bool) : Fn := ⟨2, 2, (z9 [(sIf (zN (z4 1) [.Eq] [(z7 (.int 0))]) (z9 [(zV (z7 .none))]) (z9 [])), (zV (z6 (zD (z4 0) "row") "find" none [(zI .Sub (z4 1) (z7 (.int 1)))]))])⟩
noncomputable def kA2 (okf : Str → Str → Bool) : Fn := ⟨4, 4, (z9 [(zG (z6 (zD (z4 0) "done") "append" (some .append) [(yZ [(z4 1), (z4 2), (z4 3)])])), (zG (z6 (z4 0) "seated" none [(z4 3)])), (zV (zI .Sub (zB (zA (some (.bi .len))) [(zD (z4 0) "done")]) (z7 (.int 1))))])⟩
noncomputable def kBj (okf : Str → Str → Bool) : Fn := ⟨4, 4, (z9 [(zG (z6 (z4 0) "need_hand" none [(z4 1)])), (zG (z6 (z4 0) "need_place" none [(z4 2)])), (sIf (zT .Or [(yA (zp (zB (zA (some (.fn "is_text"))) [(z4 3)]))), (zN (z4 3) [.Eq] [(z7 (.str ""))])]) (z9 [(yn "BadText")]) (z9 [])), (zG (z6 (zD (z4 0) "standing") "append" (some .append) [(z7 (.bool true))])), (zV (z6 (z4 0) "noted" none [(z4 1), (z7 (.str "put")), (z6 (z4 0) "bring" none [(z4 3), (z6 (z4 0) "seat_ahead" none [(z4 2)]), (zB (zA (some (.bi .len))) [(zD (z4 0) "done")])])]))])⟩
noncomputable def kBn (okf : Str → Str → Bool) : Fn := ⟨4, 6, (z9 [(zG (z6 (z4 0) "need_hand" none [(z4 1)])), (zG (z6 (z4 0) "need_stretch" none [(z4 2), (z4 3)])), (z8 okf (.names (.one 4)) (Z2 (z6 (z4 0) "shown" none []) (z4 2) (z4 3))), (zG (z6 (zD (z4 0) "standing") "append" (some .append) [(z7 (.bool true))])), (xQ (.one 5) (z4 4) false (z9 [(zG (z6 (zR (zD (z4 0) "cutters") (z4 5)) "append" (some .append) [(zB (zA (some (.bi .len))) [(zD (z4 0) "done")])]))])), (zV (z6 (z4 0) "noted" none [(z4 1), (z7 (.str "cut")), (z4 4)]))])⟩
noncomputable def kBa (okf : Str → Str → Bool) : Fn := ⟨5, 8, (z9 [(zG (z6 (z4 0) "need_hand" none [(z4 1)])), (zG (z6 (z4 0) "need_stretch" none [(z4 2), (z4 3)])), (zG (z6 (z4 0) "need_place" none [(z4 4)])), (sIf (zN (z4 2) [.Lt, .Lt] [(z4 4), (z4 3)]) (z9 [(yn "NoPlace")]) (z9 [])), (z8 okf (.names (.one 5)) (Z2 (z6 (z4 0) "shown" none []) (z4 2) (z4 3))), (z8 okf (.names (.one 6)) (z6 (z4 0) "seat_ahead" none [(z4 4)])), (zG (z6 (zD (z4 0) "standing") "append" (some .append) [(z7 (.bool true))])), (xQ (.one 7) (z4 5) false (z9 [(z8 okf (.names (.one 6)) (z6 (zD (z4 0) "row") "add" none [(z4 6)])), (zG (z6 (zD (z4 0) "owners") "append" (some .append) [(z4 7)])), (zG (z6 (zR (zD (z4 0) "moved") (z4 7)) "append" (some .append) [(yZ [(zB (zA (some (.bi .len))) [(zD (z4 0) "done")]), (z4 6)])]))])), (zV (z6 (z4 0) "noted" none [(z4 1), (z7 (.str "move")), (z4 5)]))])⟩
noncomputable def kA1 (okf : Str → Str → Bool) : Fn := ⟨1, 1, (z9 [(zV (zB (zA (some (.bi .len))) [(zD (z4 0) "done")]))])⟩
noncomputable def kAz (okf : Str → Str → Bool) : Fn := ⟨2, 2, (z9 [(zG (z6 (z4 0) "need_deed" none [(z4 1)])), (zV (zR (zD (z4 0) "standing") (z4 1)))])⟩
noncomputable def kAh (okf : Str → Str → Bool) : Fn := ⟨2, 2, (z9 [(sIf (yA (zp (z6 (z4 0) "stands" none [(z4 1)]))) (z9 [(yn "NoDeed")]) (z9 [])), (z8 okf (.item (zD (z4 0) "standing") (z4 1)) (z7 (.bool false))), (zG (z6 (zD (z4 0) "lost") "append" (some .append) [(z4 1)])), (zG (z6 (z4 0) "seated" none [(zR (zR (zD (z4 0) "done") (z4 1)) (z7 (.int 2)))]))])⟩
noncomputable def kAl (okf : Str → Str → Bool) : Fn := ⟨2, 2, (z9 [(sIf (zp (z6 (z4 0) "stands" none [(z4 1)])) (z9 [(yn "NoDeed")]) (z9 [])), (z8 okf (.item (zD (z4 0) "standing") (z4 1)) (z7 (.bool true))), (zG (z6 (zD (z4 0) "lost") "remove" (some .remove) [(z4 1)])), (zG (z6 (z4 0) "seated" none [(zR (zR (zD (z4 0) "done") (z4 1)) (z7 (.int 2)))]))])⟩
noncomputable def kA8 (okf : Str → Str → Bool) : Fn := ⟨2, 2, (z9 [(sIf (zN (z4 1) [.Lt] [(zB (zA (some (.bi .len))) [(z4 0)])]) (z9 [(zV (zR (z4 0) (z4 1)))]) (z9 [])), (zV (z7 (.int 0)))])⟩
noncomputable def kBl (okf : Str → Str → Bool) : Fn := ⟨1, 1, (z9 [(zV (jM .And [(zB (zA (some (.bi .isinstance))) [(z4 0), (zA (some (.bi .int)))]), (Qj (zB (zA (some (.bi .isinstance))) [(z4 0), (zA (some (.bi .bool)))]))]))])⟩
noncomputable def kBk (okf : Str → Str → Bool) : Fn := ⟨2, 3, (z9 [(z8 okf (.names (.one 2)) (zI .Mod (zI .Add (zI .Add (zI .Mult (z4 0) (z7 (.int 48271))) (zI .Mult (z7 (.int 7919)) (z4 1))) (z7 (.int 12345))) (z7 (.int 2147483647)))), (zV (zI .Mod (zI .Mult (zI .Mod (zI .Mult (z4 2) (z4 2)) (z7 (.int 2147483647))) (z4 2)) (z7 (.int 2147483647))))])⟩
noncomputable def kA3 (okf : Str → Str → Bool) : Fn := ⟨2, 3, (z9 [(z8 okf (.names (.one 2)) (z7 (.str " !\"#$&'()*+,-./0123456789:;<=>?@ABCDEFGHIJKLMNOPQRSTUVWXYZ[\\]^_`"))), (z8 okf (.names (.one 2)) (zI .Add (z4 2) (z7 (.str "abcdefghijklmnopqrstuvwxyz{|}~\n")))), (zV (z6 (z7 (.str "")) "join" (some .join) [(yh (zB (zA (some (.bi .range))) [(z4 1)]) 1 (.one 3) (zT .And []) (zR (z4 2) (zI .Mod (zI .FloorDiv (zB (zA (some (.fn "_law_mixed"))) [(z4 0), (z4 3)]) (z7 (.int 8))) (z7 (.int 95)))))]))])⟩
noncomputable def kA6 (okf : Str → Str → Bool) : Fn := ⟨1, 1, (z9 [(sIf (zN (zI .Mod (zI .FloorDiv (z4 0) (z7 (.int 13))) (z7 (.int 8))) [.Eq] [(z7 (.int 1))]) (z9 [(zV (zI .Add (z7 (.int 30)) (zI .Mod (zI .FloorDiv (z4 0) (z7 (.int 104))) (z7 (.int 31)))))]) (z9 [])), (zV (zI .Mod (z4 0) (z7 (.int 13))))])⟩
noncomputable def kA5 (okf : Str → Str → Bool) : Fn := ⟨3, 8, (z9 [(z8 okf (.names (.one 3)) (zI .Mod (z4 0) (z4 2))), (z8 okf (.names (.one 4)) (zI .Mod (zI .FloorDiv (z4 0) (z7 (.int 9))) (z7 (.int 8)))), (z8 okf (.names (.one 5)) (zI .Mod (zI .FloorDiv (z4 0) (z7 (.int 72))) (zB (zA (some (.bi .max))) [(z7 (.int 1)), (z4 1)]))), (z8 okf (.names (.one 6)) (zB (zA (some (.bi .min))) [(z4 1), (zI .Add (zI .Add (z4 5) (z7 (.int 1))) (zI .Mod (zI .FloorDiv (z4 0) (z7 (.int 1009))) (z7 (.int 5))))])), (z8 okf (.names (.one 7)) (zI .Mod (zI .FloorDiv (z4 0) (z7 (.int 5003))) (zI .Add (z4 1) (z7 (.int 1))))), (sIf (zT .Or [(zN (z4 4) [.Lt] [(z7 (.int 3))]), (zN (z4 1) [.Eq] [(z7 (.int 0))])]) (z9 [(zV (yZ [(z4 3), (z7 (.str "put")), (z7 (.int 0)), (z7 (.int 0)), (z4 7), (zB (zA (some (.fn "_law_text_by"))) [(z4 0), (zI .Add (z7 (.int 1)) (zI .Mod (zI .FloorDiv (z4 0) (z7 (.int 30011))) (z7 (.int 4))))])]))]) (z9 [])), (sIf (zN (z4 4) [.Lt] [(z7 (.int 5))]) (z9 [(zV (yZ [(z4 3), (z7 (.str "cut")), (z4 5), (z4 6), (z7 (.int 0)), (z7 (.str ""))]))]) (z9 [])), (sIf (zN (z4 5) [.Lt, .Lt] [(z4 7), (z4 6)]) (z9 [(z8 okf (.names (.one 7)) (zR (zw [(z4 5), (z4 6)]) (zI .Mod (zI .FloorDiv (z4 0) (z7 (.int 60013))) (z7 (.int 2)))))]) (z9 [])), (zV (yZ [(z4 3), (z7 (.str "move")), (z4 5), (z4 6), (z4 7), (z7 (.str ""))]))])⟩
noncomputable def kB6 (okf : Str → Str → Bool) : Fn := ⟨2, 8, (z9 [(z8 okf (.names (.many [2, 3, 4, 5, 6, 7])) (z4 1)), (sIf (zN (z4 3) [.Eq] [(z7 (.str "put"))]) (z9 [(zV (z6 (z4 0) "put" none [(z4 2), (z4 6), (z4 7)]))]) (z9 [])), (sIf (zN (z4 3) [.Eq] [(z7 (.str "cut"))]) (z9 [(zV (z6 (z4 0) "cut" none [(z4 2), (z4 4), (z4 5)]))]) (z9 [])), (zV (z6 (z4 0) "move" none [(z4 2), (z4 4), (z4 5), (z4 6)]))])⟩
noncomputable def kBt (okf : Str → Str → Bool) : Fn := ⟨2, 6, (z9 [(z8 okf (.names (.many [2, 3])) (z4 1)), (sIf (zp (z6 (z4 0) "is_ahead" none [(z4 3), (z4 2)])) (z9 [(z8 okf (.names (.many [2, 3])) (yZ [(z4 3), (z4 2)]))]) (z9 [])), (z8 okf (.names (.many [4, 5])) (z6 (z4 0) "place_of" none [(z4 3)])), (zV (yZ [(zR (z6 (z4 0) "place_of" none [(z4 2)]) (z7 (.int 0))), (zI .Add (z4 4) (zB (zA (some (.bi .int))) [(z4 5)]))]))])⟩
noncomputable def kBq (okf : Str → Str → Bool) : Fn := ⟨3, 8, (z9 [(z8 okf (.names (.one 3)) (zI .Mod (z4 2) (z6 (z4 0) "size" none []))), (z8 okf (.names (.one 4)) (zw [])), (xQ (.one 5) (zB (zA (some (.bi .sorted))) [(zB (zA (some (.bi .list))) [(z4 1)])]) false (z9 [(z8 okf (.names (.many [6, 7])) (zB (zA (some (.fn "_law_told"))) [(z4 0), (zR (z4 1) (z4 5))])), (sIf (zN (z4 6) [.LtE, .Lt] [(z4 3), (z4 7)]) (z9 [(zG (z6 (z4 4) "append" (some .append) [(z4 5)]))]) (z9 []))])), (zV (z4 4))])⟩
noncomputable def kBb (okf : Str → Str → Bool) : Fn := ⟨5, 10, (z9 [(z8 okf (.names (.one 5)) (zB (zA (some (.bi .sorted))) [(zB (zA (some (.bi .list))) [(z4 2)])])), (sIf (zT .And [(zN (zI .Mod (z4 3) (z7 (.int 2))) [.Eq] [(z7 (.int 0))]), (zN (z6 (z4 0) "size" none []) [.Gt] [(z7 (.int 0))]), (zN (z6 (z4 1) "over" none [(zI .Mod (z4 3) (z6 (z4 0) "size" none []))]) [.NotEq] [(zB (zA (some (.fn "_law_over"))) [(z4 0), (z4 2), (z4 3)])])]) (z9 [(zV (z7 (.bool false)))]) (z9 [])), (z8 okf (.names (.one 6)) (zw [(z6 (z4 1) "numbers" none [])])), (sIf (zN (zR (z4 6) (z7 (.int 0))) [.NotEq] [(z4 5)]) (z9 [(zV (z7 (.bool false)))]) (z9 [])), (xQ (.one 7) (z4 5) false (z9 [(z8 okf (.names (.one 8)) (z6 (z4 1) "told" none [(z4 7)])), (sIf (zT .Or [(yA (zp (zB (zA (some (.bi .isinstance))) [(z4 8), (zA (some (.bi .tuple)))]))), (zN (z4 8) [.NotEq] [(zB (zA (some (.fn "_law_told"))) [(z4 0), (zR (z4 2) (z4 7))])])]) (z9 [(zV (z7 (.bool false)))]) (z9 [])), (sIf (zT .Or [(yA (zp (zB (zA (some (.fn "_law_whole"))) [(zR (z4 8) (z7 (.int 0)))]))), (yA (zp (zB (zA (some (.fn "_law_whole"))) [(zR (z4 8) (z7 (.int 1)))]))), (yA (zN (z7 (.int 0)) [.LtE, .LtE, .LtE] [(zR (z4 8) (z7 (.int 0))), (zR (z4 8) (z7 (.int 1))), (z6 (z4 0) "size" none [])]))]) (z9 [(zV (z7 (.bool false)))]) (z9 []))])), (sIf (zN (z6 (z4 0) "size" none []) [.Gt] [(z7 (.int 0))]) (z9 [(z8 okf (.names (.one 9)) (zI .Mod (z4 3) (z6 (z4 0) "size" none []))), (zG (z6 (z4 6) "append" (some .append) [(z6 (z4 1) "over" none [(z4 9)])])), (sIf (zN (zR (z4 6) (z7 (.int 1))) [.NotEq] [(zB (zA (some (.fn "_law_over"))) [(z4 0), (z4 2), (z4 3)])]) (z9 [(zV (z7 (.bool false)))]) (z9 [])), (zG (z6 (z6 (z4 1) "over" none [(z4 9)]) "append" (some .append) [(z7 (.int 9))]))]) (z9 [])), (zG (z6 (z4 4) "extend" (some .extend) [(yh (z4 6) 1 (.one 10) (zT .And []) (yZ [(z4 10), (zB (zA (some (.bi .list))) [(z4 10)])]))])), (zG (z6 (z6 (z4 1) "numbers" none []) "clear" (some .clear) [])), (zV (Zn (z6 (z4 1) "numbers" none []) [.Eq] [(z4 5)]))])⟩
noncomputable def kA4 (okf : Str → Str → Bool) : Fn := ⟨2, 3, (z9 [(xQ (.one 2) (zB (zA (some (.bi .range))) [(z7 (.int 2))]) false (z9 [(Yl (z9 [(sIf (zN (z4 2) [.Eq] [(z7 (.int 0))]) (z9 [(zG (z6 (z4 0) "told" none [(z4 1)]))]) (z9 [(zG (z6 (z4 0) "drop" none [(z4 1)]))])), (zV (z7 (.bool false)))]) "NoMark" 2 (.int 3))])), (zV (z7 (.bool true)))])⟩
noncomputable def kAw (okf : Str → Str → Bool) : Fn := ⟨2, 4, (z9 [(xQ (.many [2, 3]) (yZ [(yZ [(z7 (.int 0)), (zI .Add (z4 1) (z7 (.int 1)))]), (yZ [(z4 1), (z4 1)]), (yZ [(zCl (z7 (.int 1))), (z4 1)])]) false (z9 [(Yl (z9 [(zG (z6 (z4 0) "tie" none [(z4 2), (z4 3)])), (zV (z7 (.bool false)))]) "NoPlace" 3 (.slot 1))])), (zV (z7 (.bool true)))])⟩
noncomputable def kBd (okf : Str → Str → Bool) : Fn := ⟨2, 2, (z9 [(sIf (zp (z6 (z4 0) "stands" none [(z4 1)])) (z9 [(zG (z6 (z4 0) "take_back" none [(z4 1)]))]) (z9 [(zG (z6 (z4 0) "do_again" none [(z4 1)]))]))])⟩
noncomputable def kCb (okf : Str → Str → Bool) : Fn := ⟨1, 19, (z9 [(z8 okf (.names (.one 1)) (zB (zA (some (.fn "_law_text_by"))) [(zB (zA (some (.fn "_law_cell_at"))) [(z4 0), (z7 (.int 1))]), (zI .Mod (zB (zA (some (.fn "_law_size_by"))) [(zB (zA (some (.fn "_law_cell_at"))) [(z4 0), (z7 (.int 0))])]) (z7 (.int 20)))])), (z8 okf (.names (.one 2)) (zI .Add (z7 (.int 1)) (zI .Mod (zB (zA (some (.fn "_law_cell_at"))) [(z4 0), (z7 (.int 2))]) (z7 (.int 9))))), (z8 okf (.names (.one 3)) (zB (zA (some (.cls "Sheet"))) [(z4 1), (z4 2)])), (z8 okf (.names (.one 4)) (zw [(zw [(zB (zA (some (.cls "Threads"))) [(z4 3)]), xm, (z7 (.int 0))])])), (z8 okf (.names (.one 5)) (zw [])), (xQ (.many [6, 7]) (Z2 (z4 0) (z7 (.int 3)) (z7 (.int 23))) true (z9 [(z8 okf (.names (.one 8)) (zB (zA (some (.fn "_law_mixed"))) [(z4 7), (z4 6)])), (z8 okf (.names (.one 9)) (zI .FloorDiv (z4 8) (z7 (.int 8)))), (sIf (zN (z4 6) [.Eq] [(zI .Add (z7 (.int 4)) (zI .Mod (zB (zA (some (.fn "_law_cell_at"))) [(z4 0), (z7 (.int 0))]) (z7 (.int 4))))]) (z9 [(zG (z6 (z4 4) "append" (some .append) [(zw [(zB (zA (some (.cls "Threads"))) [(z4 3)]), xm, (z7 (.int 0))])]))]) (z9 [])), (z8 okf (.names (.one 10)) (zR (z4 4) (zI .Mod (zI .FloorDiv (z4 9) (z7 (.int 3))) (zB (zA (some (.bi .len))) [(z4 4)])))), (z8 okf (.names (.one 11)) (zR (z4 10) (z7 (.int 1)))), (sIf (zT .And [(zN (zI .Mod (z4 8) (z7 (.int 8))) [.Lt] [(z7 (.int 2))]), (zN (z6 (z4 3) "deeds" none []) [.Gt] [(z7 (.int 0))])]) (z9 [(zG (zB (zA (some (.fn "_law_turned"))) [(z4 3), (zI .Mod (z4 9) (z6 (z4 3) "deeds" none []))]))]) (z9 [(sIf (zT .And [(zN (zI .Mod (z4 8) (z7 (.int 8))) [.Lt] [(z7 (.int 5))]), (zN (z4 11) [.NotEq] [xm]), (zN (zI .Mod (z4 9) (z7 (.int 5))) [.Eq] [(z7 (.int 1))])]) (z9 [(z8 okf (.names (.one 12)) (zR (zB (zA (some (.bi .sorted))) [(zB (zA (some (.bi .list))) [(z4 11)])]) (zI .Mod (zI .FloorDiv (z4 9) (z7 (.int 5))) (zB (zA (some (.bi .len))) [(z4 11)])))), (zG (z6 (z4 11) "pop" (some .pop) [(z4 12)])), (sIf (zT .Or [(zN (z6 (zR (z4 10) (z7 (.int 0))) "drop" none [(z4 12)]) [.IsNot] [(z7 .none)]), (yA (zp (zB (zA (some (.fn "_law_is_gone"))) [(zR (z4 10) (z7 (.int 0))), (z4 12)])))]) (z9 [(zV (z7 (.bool false)))]) (z9 []))]) (z9 [(sIf (zT .And [(zN (zI .Mod (z4 8) (z7 (.int 8))) [.Lt] [(z7 (.int 5))]), (zN (z6 (z4 3) "size" none []) [.Gt] [(z7 (.int 0))])]) (z9 [(z8 okf (.names (.one 13)) (zI .Mod (zI .FloorDiv (z4 9) (z7 (.int 5))) (z6 (z4 3) "size" none []))), (z8 okf (.names (.one 14)) (zI .Add (zI .Add (z4 13) (z7 (.int 1))) (zI .Mod (zI .FloorDiv (z4 9) (z7 (.int 997))) (zI .Sub (z6 (z4 3) "size" none []) (z4 13))))), (z8 okf (.item (z4 11) (zR (z4 10) (z7 (.int 2)))) (yZ [(z6 (z4 3) "sign_at" none [(z4 13)]), (z6 (z4 3) "sign_at" none [(zI .Sub (z4 14) (z7 (.int 1)))])])), (z8 okf (.names (.one 15)) (z6 (zR (z4 10) (z7 (.int 0))) "tie" none [(z4 13), (z4 14)])), (sIf (zT .Or [(yA (zp (zB (zA (some (.fn "_law_whole"))) [(z4 15)]))), (zN (z4 15) [.NotEq] [(zR (z4 10) (z7 (.int 2)))])]) (z9 [(zV (z7 (.bool false)))]) (z9 [])), (z8 okf (.item (z4 10) (z7 (.int 2))) (zI .Add (zR (z4 10) (z7 (.int 2))) (z7 (.int 1))))]) (z9 [(zG (zB (zA (some (.fn "_law_do"))) [(z4 3), (zB (zA (some (.fn "_law_deed_by"))) [(z4 9), (z6 (z4 3) "size" none []), (z4 2)])]))]))]))])), (sIf (zT .And [(zN (zI .Mod (z4 9) (z7 (.int 3))) [.Eq] [(z7 (.int 1))]), (yA (zp (zB (zA (some (.fn "_law_not_tied"))) [(zR (z4 10) (z7 (.int 0))), (z6 (z4 3) "size" none [])])))]) (z9 [(zV (z7 (.bool false)))]) (z9 [])), (xQ (.many [16, 17, 18]) (z4 4) false (z9 [(sIf (yA (zp (zB (zA (some (.fn "_law_stands"))) [(z4 3), (z4 16), (z4 17), (zI .FloorDiv (z4 9) (z7 (.int 7))), (z4 5)]))) (z9 [(zV (z7 (.bool false)))]) (z9 []))]))])), (zV (Zn (yh (z4 5) 2 (.many [19, 20]) (zT .And [(zN (z4 19) [.NotEq] [(z4 20)])]) (z4 19)) [.Eq] [(zw [])]))])⟩
structure TT (T : Tab) (okf : Str → Str → Bool) : Prop where
  kB9 : okf "Row" "line" = true
  kBy : okf "Row" "flags" = true
  kB0 : okf "Sheet" "hands" = true
  kCa : okf "Sheet" "row" = true
  kBw : okf "Sheet" "owners" = true
  kBo : okf "Sheet" "letters" = true
  kBv : okf "Sheet" "firsts" = true
  kB4 : okf "Sheet" "moved" = true
  kBc : okf "Sheet" "bringers" = true
  kBm : okf "Sheet" "cutters" = true
  kB8 : okf "Sheet" "done" = true
  kBe : okf "Sheet" "standing" = true
  kB7 : okf "Sheet" "lost" = true
  kB2 : okf "Threads" "sheet" = true
  kB5 : okf "Threads" "kept" = true
  kBs : okf "Threads" "coming" = true
  threads : T.what "Threads" = some .cls
  row : T.what "Row" = some .cls
  sheet : T.what "Sheet" = some .cls
  kBu : T.what "is_whole" = some (.fn (kBu okf))
  kBp : T.meth "Row" "__init__" = some (kBp okf)
  kAp : T.meth "Row" "need_seat" = some (kAp okf)
  kB3 : T.meth "Row" "add" = some (kB3 okf)
  kBx : T.meth "Row" "take" = some (kBx okf)
  kAr : T.meth "Row" "is_taken" = some (kAr okf)
  kAo : T.meth "Row" "all_taken" = some (kAo okf)
  kBh : T.meth "Row" "ahead" = some (kBh okf)
  kBr : T.meth "Row" "find" = some (kBr okf)
  kAu : T.meth "Row" "is_ahead" = some (kAu okf)
  kBi : T.meth "Row" "order" = some (kBi okf)
  kAv : T.meth "Threads" "__init__" = some (kAv okf)
  kAa : T.meth "Threads" "need_thread" = some (kAa okf)
  kA9 : T.meth "Threads" "tie" = some (kA9 okf)
  kAx : T.meth "Threads" "drop" = some (kAx okf)
  kAy : T.meth "Threads" "told" = some (kAy okf)
  kAg : T.meth "Threads" "numbers" = some (kAg okf)
  kAt : T.meth "Threads" "over" = some (kAt okf)
  kBz : T.what "is_text" = some (.fn (kBz okf))
  kBf : T.meth "Sheet" "__init__" = some (kBf okf)
  kA7 : T.meth "Sheet" "bring" = some (kA7 okf)
  kAf : T.meth "Sheet" "need_hand" = some (kAf okf)
  kAi : T.meth "Sheet" "need_sign" = some (kAi okf)
  kAd : T.meth "Sheet" "need_place" = some (kAd okf)
  kAb : T.meth "Sheet" "need_stretch" = some (kAb okf)
  kAe : T.meth "Sheet" "need_deed" = some (kAe okf)
  kAq : T.meth "Sheet" "seat_of" = some (kAq okf)
  kAm : T.meth "Sheet" "is_shown" = some (kAm okf)
  kAs : T.meth "Sheet" "seated" = some (kAs okf)
  kBg : T.meth "Sheet" "size" = some (kBg okf)
  kA0 : T.meth "Sheet" "shown" = some (kA0 okf)
  kAn : T.meth "Sheet" "sign_at" = some (kAn okf)
  kAk : T.meth "Sheet" "place_of" = some (kAk okf)
  kAj : T.meth "Sheet" "is_ahead" = some (kAj okf)
  kAc : T.meth "Sheet" "seat_ahead" = some (kAc okf)
  kA2 : T.meth "Sheet" "noted" = some (kA2 okf)
  kBj : T.meth "Sheet" "put" = some (kBj okf)
  kBn : T.meth "Sheet" "cut" = some (kBn okf)
  kBa : T.meth "Sheet" "move" = some (kBa okf)
  kA1 : T.meth "Sheet" "deeds" = some (kA1 okf)
  kAz : T.meth "Sheet" "stands" = some (kAz okf)
  kAh : T.meth "Sheet" "take_back" = some (kAh okf)
  kAl : T.meth "Sheet" "do_again" = some (kAl okf)
  kA8 : T.what "_law_cell_at" = some (.fn (kA8 okf))
  kBl : T.what "_law_whole" = some (.fn (kBl okf))
  kBk : T.what "_law_mixed" = some (.fn (kBk okf))
  kA3 : T.what "_law_text_by" = some (.fn (kA3 okf))
  kA6 : T.what "_law_size_by" = some (.fn (kA6 okf))
  kA5 : T.what "_law_deed_by" = some (.fn (kA5 okf))
  kB6 : T.what "_law_do" = some (.fn (kB6 okf))
  kBt : T.what "_law_told" = some (.fn (kBt okf))
  kBq : T.what "_law_over" = some (.fn (kBq okf))
  kBb : T.what "_law_stands" = some (.fn (kBb okf))
  kA4 : T.what "_law_is_gone" = some (.fn (kA4 okf))
  kAw : T.what "_law_not_tied" = some (.fn (kAw okf))
  kBd : T.what "_law_turned" = some (.fn (kBd okf))
  kCb : T.what "law" = some (.fn (kCb okf))
abbrev fs : List (Str × AV) := [("line", .ref 4), ("flags", .ref 5)]
abbrev H (o0 o1 o2 : AO) (l : List Int) (b : List Bool) (r : Hp) : Hp := o0 :: o1 :: o2 :: .inst "Row" fs :: .list (l.map AV.int) :: .list (b.map AV.bool) :: r
theorem lk1 : List.lookup ("line" : Str) fs = some (.ref 4) := rfl
theorem lk2 : List.lookup ("flags" : Str) fs = some (.ref 5) := rfl
theorem lk3 : List.lookup ("need_seat" : Str) fs = none := rfl
def wF (l : List Int) (k : Nat) (v : Int) : List Int := l.take k ++ v :: l.drop k
theorem z21 (l : List Int) (k : Nat) (v : Int) : qB (l.map AV.int) k (.int v) = (wF l k v).map AV.int := by
  simp [Out.bind_ok, Out.bind0_ok, Out.bind_stuck, Out.of_some, Out.of_none, Out.bindS_ok, qB, wF, List.map_take, List.map_drop]
def YB (c k : Int) : Int :=
  let n := (c * 48271 + 7919 * k + 12345).fmod 2147483647
  ((n * n).fmod 2147483647 * n).fmod 2147483647
def fl (b : List Bool) (x : Int) : Bool := b[x.toNat]?.getD false
section
variable {T : Tab} {okf : Str → Str → Bool} (X : TT T okf) {n : Nat} {l : List Int} {b : List Bool} {r : Hp} {o0 o1 o2 : AO}
include X
theorem yC {i : Int} {h : Hp} : run T (n + 1) (.fn "is_whole") [.int i] h = .ok (.bool true) h := by
  rw [yy X.kBu]
  rfl
theorem Qr : run T (n + 1) (.meth "Row" "all_taken") [.ref 3] (H o0 o1 o2 l b r) = .ok (.int (b.countP id)) (H o0 o1 o2 l b r) := by
  rw [zK X.kAo]
  refine zL (fr := [some (.ref 3)]) rfl rfl (fr' := [some (.ref 3)]) (zJ (zd (j7 (a := 5) (ys := b.map AV.bool) (zQ (z3 rfl) rfl lk2) rfl (ev1 rfl ev0) ?_)))
  rw [Jk]
  show Out.of ((jK (H o0 o1 o2 l b r) (.ref 5) (.bool true)).map _) _ = _
  rw [X6 (l := b) rfl]; rfl
theorem zC5 (hs : l.length ≤ small) : run T (n + 1) (.meth "Row" "order") [.ref 3] (H o0 o1 o2 l b r) = .ok (.ref (r.length + 6)) (H o0 o1 o2 l b (r ++ [.list (l.map AV.int)])) := by
  rw [zK X.kBi]
  refine zL (fr := [some (.ref 3)]) rfl rfl (fr' := [some (.ref 3)]) (zJ (zd (xX (ev1 (zQ (z3 rfl) rfl lk1) ev0) ?_)))
  rw [XB]
  exact if_pos (by rw [List.length_map]; exact hs)
theorem Ju {fr : AFr} {cf : CF} (e0 : fr[0]? = some (some (.ref 3))) : zB (zA (some (.bi .len))) [zD (z4 0) "flags"] cf fr (H o0 o1 o2 l b r) = .ok (.int b.length) (H o0 o1 o2 l b r) := by
  refine xX (ev1 (zQ (z3 e0) rfl lk2) ev0) ?_
  rw [wu, wM]
  show Out.ok (AV.int ((b.map AV.bool).length : Nat)) _ = _
  rw [List.length_map]
theorem xZ {i : Int} (h0 : 0 ≤ i) (h1 : i < b.length) : run T (n + 2) (.meth "Row" "need_seat") [.ref 3, .int i] (H o0 o1 o2 l b r) = .ok .none (H o0 o1 o2 l b r) := by
  rw [zK X.kAp]
  exact zt (fr := [some (.ref 3), some (.int i)]) rfl rfl (fr' := [some (.ref 3), some (.int i)]) ((z5 ((zH (x7 (zu (b := true) (yX (v := .bool true) (zg (ev1 (z3 rfl) ev0) (yC X)) rfl)) (x7 (zu (b := true) (yu rfl (z3 rfl) (by rw [yt, decide_eq_true h0]) (Ju X rfl) (by rw [yM, decide_eq_true h1]))) qN))).trans zC)).trans zC)
omit X in
theorem QE {cf : CF} {v1 : Option AV} {at_ : Int} (X : TT T okf) (ha : okI at_ = true) (hl : l.length < small) (hb : b.length < small) :
    z9 [(z8 okf (.names (.one 3)) (zB (zA (some (.bi .len))) [(zD (z4 0) "flags")])), (zG (z6 (zD (z4 0) "line") "insert" (some .insert) [(z4 2), (z4 3)])), (zG (z6 (zD (z4 0) "flags") "append" (some .append) [(z7 (.bool false))])), (zV (z4 3))] cf [some (.ref 3), v1, some (.int at_), none] (H o0 o1 o2 l b r) =
      .ok (.ret (.int b.length)) [some (.ref 3), v1, some (.int at_), some (.int b.length)] (H o0 o1 o2 (wF l at_.toNat b.length) (b ++ [false]) r) := by
  have e1 : yG .insert (.ref 4) [.int at_, .int b.length] (H o0 o1 o2 l b r) = .ok .none (H o0 o1 o2 (wF l at_.toNat b.length) b r) := by
    rw [WZ]
    show (if (l.map AV.int).length < small ∧ okI at_ = true then Out.ok AV.none ((H o0 o1 o2 l b r).set 4 (.list (qB (l.map AV.int) at_.toNat (.int b.length)))) else .stuck) = _
    rw [if_pos ⟨by rw [List.length_map]; exact hl, ha⟩, z21]; rfl
  have e2 : yG .append (.ref 5) [.bool false] (H o0 o1 o2 (wF l at_.toNat b.length) b r) = .ok .none (H o0 o1 o2 (wF l at_.toNat b.length) (b ++ [false]) r) := by
    rw [xx]
    show (if (b.map AV.bool).length < small then Out.ok AV.none ((H o0 o1 o2 (wF l at_.toNat b.length) b r).set 5 (.list (b.map AV.bool ++ [.bool false]))) else .stuck) = _
    rw [if_pos (by rw [List.length_map]; exact hb), show b.map AV.bool ++ [.bool false] = (b ++ [false]).map AV.bool by rw [List.map_append]; rfl]; rfl
  exact (z5 (zW (j := 3) (Ju X rfl) (zc rfl))).trans ((z5 (zU (j7 (a := 4) (ys := l.map AV.int) (zQ (z3 rfl) rfl lk1) rfl (ev1 (z3 rfl) (ev1 (z3 rfl) ev0)) e1))).trans ((z5 (zU (j7 (a := 5) (ys := b.map AV.bool) (zQ (z3 rfl) rfl lk2) rfl (ev1 rfl ev0) e2))).trans (zJ (zd (z3 rfl)))))
theorem z0t (hl : l.length < small) (hb : b.length < small) : run T (n + 3) (.meth "Row" "add") [.ref 3, .none] (H o0 o1 o2 l b r) = .ok (.int b.length) (H o0 o1 o2 (wF l 0 b.length) (b ++ [false]) r) := by
  rw [zK X.kB3]
  refine zL (fr := [some (.ref 3), some .none, none, none]) rfl rfl (fr' := [some (.ref 3), some .none, some (.int 0), some (.int b.length)]) ?_
  unfold kB3
  dsimp only
  rw [z5 (zW (j := 2) (v := .int 0) rfl (zc rfl)), z5 ((zH (zX (v := .none) (w := .none) (z3 rfl) rfl rfl)).trans zC)]
  exact QE (at_ := 0) X rfl hl hb
theorem z0s {i : Int} {k : Nat} (h0 : 0 ≤ i) (h1 : i < b.length) (hk : l.findIdx? (· == i) = some k) (hl : l.length < small) (hb : b.length < small) :
    run T (n + 3) (.meth "Row" "add") [.ref 3, .int i] (H o0 o1 o2 l b r) = .ok (.int b.length) (H o0 o1 o2 (wF l (k + 1) b.length) (b ++ [false]) r) := by
  rw [zK X.kB3]
  have hk' : k < l.length := (List.findIdx?_eq_some_iff_getElem.mp hk).1
  have e0 : yG .index (.ref 4) [.int i] (H o0 o1 o2 l b r) = .ok (.int k) (H o0 o1 o2 l b r) := by
    rw [ZV]
    show (match jH (H o0 o1 o2 l b r) (.ref 4) (.int i) with | some k => Out.ok (AV.int k) _ | none => .stuck) = _
    rw [jW (l := l) rfl, hk]
  have e3 : okI ((k : Int) + 1) = true := Z9 (k := k + 1) (Nat.le_trans hk' (Nat.le_of_lt hl))
  refine zL (fr := [some (.ref 3), some (.int i), none, none]) rfl rfl (fr' := [some (.ref 3), some (.int i), some (.int ((k : Int) + 1)), some (.int b.length)]) ?_
  unfold kB3
  dsimp only
  rw [z5 (zW (j := 2) (v := .int 0) rfl (zc rfl)), z5 ((zZ (zX (v := .int i) (w := .none) (z3 rfl) rfl rfl)).trans ((z5 (zU (zF (a := 3) (z3 rfl) rfl lk3 (ev1 (z3 rfl) ev0) (xZ X (n := n) h0 h1)))).trans ((z5 (zW (j := 2) (v := .int ((k : Int) + 1)) (zf (j7 (a := 4) (ys := l.map AV.int) (zQ (z3 rfl) rfl lk1) rfl (ev1 (z3 rfl) ev0) e0) (y := z7 (.int 1)) rfl xC) (zc rfl))).trans zC)))]
  exact QE (at_ := (k : Int) + 1) X e3 hl hb
theorem z2l {i : Int} {v : Bool} (h0 : 0 ≤ i) (h1 : i < b.length) (hb : b.length ≤ small) : run T (n + 3) (.meth "Row" "take") [.ref 3, .int i, .bool v] (H o0 o1 o2 l b r) = .ok .none (H o0 o1 o2 l (b.set i.toNat v) r) := by
  rw [zK X.kBx]
  have e : xz (H o0 o1 o2 l b r) (.ref 5) (.int i) (.bool v) = some (H o0 o1 o2 l (b.set i.toNat v) r) := by
    rw [Z5]
    show (if 0 ≤ i ∧ i < ((b.map AV.bool).length : Nat) ∧ (b.map AV.bool).length ≤ small then some ((H o0 o1 o2 l b r).set 5 (.list ((b.map AV.bool).set i.toNat (.bool v)))) else none) = _
    rw [List.length_map, if_pos ⟨h0, h1, hb⟩, ← List.map_set]; rfl
  exact zt (fr := [some (.ref 3), some (.int i), some (.bool v)]) rfl rfl (fr' := [some (.ref 3), some (.int i), some (.bool v)]) ((z5 (zU (zF (a := 3) (z3 rfl) rfl lk3 (ev1 (z3 rfl) ev0) (xZ X (n := n) h0 h1)))).trans ((z5 (ZM (z3 rfl) (zQ (z3 rfl) rfl lk2) (z3 rfl) e)).trans zC))
theorem We {i : Int} (h0 : 0 ≤ i) (h1 : i < b.length) (hb : b.length ≤ small) : run T (n + 3) (.meth "Row" "is_taken") [.ref 3, .int i] (H o0 o1 o2 l b r) = .ok (.bool (fl b i)) (H o0 o1 o2 l b r) := by
  rw [zK X.kAr]
  have h2 : i.toNat < b.length := wv h0 h1
  have h3 : okI i = true := by rw [← Int.toNat_of_nonneg h0]; exact Z9 (Nat.le_trans (Nat.le_of_lt h2) hb)
  have e : wG (H o0 o1 o2 l b r) (.ref 5) (.int i) = some (.bool (fl b i)) := by
    rw [qR h3]
    show (b.map AV.bool)[i.toNat]? = _
    unfold fl
    rw [List.getElem?_map, y9 h2]; rfl
  exact zL (fr := [some (.ref 3), some (.int i)]) rfl rfl (fr' := [some (.ref 3), some (.int i)]) ((z5 (zU (zF (a := 3) (z3 rfl) rfl lk3 (ev1 (z3 rfl) ev0) (xZ X (n := n) h0 h1)))).trans (zJ (zd (zq (zQ (z3 rfl) rfl lk2) (z3 rfl) e))))
theorem jL {is : List Int} {k : Int} {h : Hp} (h0 : 0 ≤ k) (hs : is.length ≤ 63) : run T (n + 1) (.fn "_law_cell_at") [.lst (is.map AV.int), .int k] h = .ok (.int (is[k.toNat]?.getD 0)) h := by
  rw [yy X.kA8]
  have t := zX (op := .Lt) (b := decide (k < is.length)) (z3 (i := 1) (cf := run T n) (h := h) (fr := [some (.lst (is.map AV.int)), some (.int k)]) rfl) (xX (b := .len) (res := .ok (.int is.length) h) (ev1 (z3 (i := 0) rfl) ev0) (by rw [wu, z1w, List.length_map]; rfl)) yM
  by_cases hk : k < is.length
  · have h2 := wv h0 hk
    rw [decide_eq_true hk] at t
    have e : wG h (.lst (is.map AV.int)) (.int k) = some (.int (is[k.toNat]?.getD 0)) := by
      rw [WD (by rw [← Int.toNat_of_nonneg h0]; exact Z9 (Nat.le_trans (Nat.le_of_lt h2) (Nat.le_trans hs (by decide)))), List.getElem?_map, y9 h2]; rfl
    exact zL (fr := [some (.lst (is.map AV.int)), some (.int k)]) rfl rfl (zJ ((zZ t).trans (zJ (zd (zq (z3 rfl) (z3 rfl) e)))))
  · rw [decide_eq_false hk] at t
    rw [List.getElem?_eq_none (Int.ofNat_le.mp (by rw [Int.toNat_of_nonneg h0]; exact Int.not_lt.mp hk))]
    exact zL (fr := [some (.lst (is.map AV.int)), some (.int k)]) rfl rfl ((z5 ((zH t).trans zC)).trans (zJ (zd rfl)))
theorem Ji {c k : Int} {h : Hp} : run T (n + 1) (.fn "_law_mixed") [.int c, .int k] h = .ok (.int (YB c k)) h := by
  rw [yy X.kBk]
  have a0 : ∀ z : Int, 0 ≤ z.fmod 2147483647 ∧ z.fmod 2147483647 < 2147483647 := fun z => ⟨Int.fmod_nonneg_of_pos _ (by decide), Int.fmod_lt_of_pos _ (by decide)⟩
  have b1 := a0 (c * 48271 + 7919 * k + 12345)
  have b2 := a0 ((c * 48271 + 7919 * k + 12345).fmod 2147483647 * (c * 48271 + 7919 * k + 12345).fmod 2147483647)
  have c1 : ((c * 48271 + 7919 * k + 12345).fmod 2147483647).natAbs < 9223372036854775808 := by lia
  have c2 : (((c * 48271 + 7919 * k + 12345).fmod 2147483647 * (c * 48271 + 7919 * k + 12345).fmod 2147483647).fmod 2147483647).natAbs < 9223372036854775808 := by lia
  have e1 : zI .Mod (zI .Add (zI .Add (zI .Mult (z4 0) (z7 (.int 48271))) (zI .Mult (z7 (.int 7919)) (z4 1))) (z7 (.int 12345))) (z7 (.int 2147483647)) (run T n) [some (.int c), some (.int k), none] h = .ok (.int ((c * 48271 + 7919 * k + 12345).fmod 2147483647)) h :=
    zf (zf (zf (zf (z3 rfl) rfl (ZF.trans (if_pos (.inr (by decide))))) (zf rfl (z3 rfl) (ZF.trans (if_pos (.inl (by decide))))) xC) rfl xC) rfl (yR.trans (if_neg (by decide)))
  exact zL (fr := [some (.int c), some (.int k), none]) rfl rfl ((z5 (zW (j := 2) e1 (zc rfl))).trans (zJ (zd (zf (zf (zf (zf (z3 rfl) (z3 rfl) (ZF.trans (if_pos (.inl c1)))) rfl (yR.trans (if_neg (by decide)))) (z3 rfl) (ZF.trans (if_pos (.inl c2)))) rfl (yR.trans (if_neg (by decide)))))))
end
theorem jV {h : Hp} {a : Nat} {b : List Bool} {x : Int} (e : h[a]? = some (.list (b.map AV.bool))) (h0 : 0 ≤ x) (h1 : x < b.length) (hb : b.length ≤ small) : wG h (.ref a) (.int x) = some (.bool (fl b x)) := by
  have h2 : x.toNat < b.length := by lia
  have h3 : okI x = true := by have : b.length ≤ 1048576 := hb; exact yv.mpr ⟨by lia, by lia⟩
  simp [Out.bind_ok, Out.bind0_ok, Out.bind_stuck, Out.of_some, Out.of_none, Out.bindS_ok, qR, WD, z1o, z1n, e, h0, h3, h2, fl]
theorem ZD {h : Hp} {a : Nat} {l : List Int} {x : Int} {y : Int} (e : h[a]? = some (.list (l.map AV.int))) (h0 : 0 ≤ x) (hy : l[x.toNat]? = some y) (hb : l.length ≤ small) : wG h (.ref a) (.int x) = some (.int y) := by
  have h2 : x.toNat < l.length := (y8 hy).1
  have h3 : okI x = true := by have : l.length ≤ 1048576 := hb; exact yv.mpr ⟨by lia, by lia⟩
  rw [qR h3, e]
  show (l.map AV.int)[x.toNat]? = _
  rw [List.getElem?_map, hy]; rfl
section
variable {T : Tab} {okf : Str → Str → Bool} (X : TT T okf) {n : Nat} {l : List Int} {b : List Bool} {r : Hp} {o0 o1 o2 : AO}
abbrev tk (b : List Bool) (l : List Int) : List Int := l.filter (fl b)
theorem XM {j : Nat} {cf : CF} {fr : AFr} {h : Hp} {x : Int} {b : List Bool} (e0 : fr[0]? = some (some (.ref 3))) (ej : fr[j]? = some (some (.int x))) (g0 : h[3]? = some (.inst "Row" fs)) (g2 : h[5]? = some (.list (b.map AV.bool))) (h0 : 0 ≤ x) (h1 : x < b.length) (hb : b.length ≤ small) :
    zT .And [zp (zR (zD (z4 0) "flags") (z4 j))] cf fr h = .ok (fl b x) h := by
  simp only [zT, zp, zR, zD, z3 e0, z3 ej, Out.bind_ok, g0, lk2, Out.of_some, jV g2 h0 h1 hb, z10, z11, zBv]
  cases fl b x <;> rfl
end
structure Good (l : List Int) (b : List Bool) : Prop where
  perm : l.Perm ((List.range b.length).map fun (k : Nat) => (k : Int))
  sm : b.length < 200
theorem Good.len {l : List Int} {b : List Bool} (G : Good l b) : l.length = b.length := by have := G.perm.length_eq; simpa using this
theorem Good.rng {l : List Int} {b : List Bool} (G : Good l b) : ∀ x ∈ l, 0 ≤ x ∧ x < b.length := fun x hx => by
  have := (G.perm.mem_iff (a := x)).mp hx
  simp only [List.mem_map, List.mem_range] at this
  obtain ⟨k, hk, rfl⟩ := this
  exact ⟨by lia, by lia⟩
theorem Good.idx {l : List Int} {b : List Bool} (G : Good l b) {i : Int} (h0 : 0 ≤ i) (h1 : i < b.length) : ∃ k, l.findIdx? (· == i) = some k ∧ k < l.length := by
  have : i ∈ l := (G.perm.mem_iff (a := i)).mpr (by
    simp only [List.mem_map, List.mem_range]
    exact ⟨i.toNat, by lia, by lia⟩)
  cases hk : l.findIdx? (· == i) with
  | none =>
    rw [List.findIdx?_eq_none_iff] at hk
    have := hk i this
    simp at this
  | some k => exact ⟨k, rfl, (List.findIdx?_eq_some_iff_getElem.mp hk).1⟩
theorem Good.sm' {l : List Int} {b : List Bool} (G : Good l b) : l.length < small ∧ b.length < small := by
  have := G.sm; have := G.len
  exact ⟨by show _ < 1048576; lia, by show _ < 1048576; lia⟩
theorem XZ : ∀ b : List Bool, (((List.range b.length).map fun (k : Nat) => (k : Int)).filter (fl b)).length = b.countP id := by
  intro b
  rw [← List.countP_eq_length_filter, List.countP_map]
  have : (fl b ∘ fun (k : Nat) => (k : Int)) = fun k => b[k]?.getD false := by funext k; simp [Out.bind_ok, Out.bind0_ok, Out.bind_stuck, Out.of_some, Out.of_none, Out.bindS_ok, fl]
  rw [this]
  clear this
  induction b with
  | nil => rfl
  | cons x b ih =>
    rw [List.length_cons, List.range_succ_eq_map, List.countP_cons, List.countP_map, List.countP_cons]
    have : ((fun k => (x :: b)[k]?.getD false) ∘ Nat.succ) = fun k => b[k]?.getD false := by funext k; simp
    rw [this, ih]
    simp
theorem Good.count {l : List Int} {b : List Bool} (G : Good l b) : (tk b l).length = b.countP id := by
  rw [← XZ b]; exact (G.perm.filter _).length_eq
section
variable {T : Tab} {okf : Str → Str → Bool} (X : TT T okf) {n : Nat} {l : List Int} {b : List Bool} {r : Hp} {o0 o1 o2 : AO}
include X
theorem zCf {p : Int} (G : Good l b) : z8 okf (.names (.one 2)) (yh (zD (z4 0) "line") 1 (.one 3) (zT .And [zp (zR (zD (z4 0) "flags") (z4 3))]) (z4 3)) (run T (n + 2)) [some (.ref 3), some (.int p), none] (H o0 o1 o2 l b r) =
      .ok .next [some (.ref 3), some (.int p), some (.ref (r.length + 6))] (H o0 o1 o2 l b (r ++ [.list ((tk b l).map AV.int)])) :=
  zW (j := 2) (wR AV.int (it := zD (z4 0) "line") (own := 1) (i := 3) (a := 4) (test := zT .And [zp (zR (zD (z4 0) "flags") (z4 3))]) (elt := z4 3) (cf := run T (n + 2)) (fr := [some (.ref 3), some (.int p), none])
    (h := H o0 o1 o2 l b r) (h1 := H o0 o1 o2 l b r) (l := l) (p := fl b) (f := AV.int) rfl rfl (zc rfl) G.sm'.1
    (fun fr' a1 a2 x hx a3 => XM (by rw [a2 0 (by decide)]; rfl) a3 rfl rfl (G.rng x hx).1 (G.rng x hx).2 (Nat.le_of_lt G.sm'.2))
    (fun fr' a1 a2 x hx a3 => z3 a3)) (zc rfl)
theorem zCg {p : Int} : zB (zA (some (.bi .len))) [z4 2] (run T (n + 2)) [some (.ref 3), some (.int p), some (.ref (r.length + 6))] (H o0 o1 o2 l b (r ++ [.list ((tk b l).map AV.int)])) = .ok (.int (tk b l).length) (H o0 o1 o2 l b (r ++ [.list ((tk b l).map AV.int)])) :=
  xX (ev1 (z3 rfl) ev0) (by rw [wu, wM, show (H o0 o1 o2 l b (r ++ [.list ((tk b l).map AV.int)]))[r.length + 6]? = some (.list ((tk b l).map AV.int)) from zO r _ [], ← List.length_map AV.int]; rfl)
theorem zBr {p : Int} (hp0 : 0 ≤ p) (hp1 : p < (tk b l).length) (G : Good l b) :
    ∃ g, run T (n + 3) (.meth "Row" "find") [.ref 3, .int p] (H o0 o1 o2 l b r) = .ok (.int ((tk b l)[p.toNat]?.getD 0)) (H o0 o1 o2 l b (r ++ g)) := by
  refine ⟨[.list ((tk b l).map AV.int)], ?_⟩
  rw [zK X.kBr]
  have h2 : p.toNat < (tk b l).length := (Int.toNat_lt hp0).mpr hp1
  have h3 : okI p = true := yv.mpr ⟨hp0, Int.lt_trans hp1 (Int.lt_of_le_of_lt (Int.ofNat_le.mpr (Nat.le_trans (List.length_filter_le _ _) (Nat.le_of_lt (G.len ▸ G.sm)))) (by decide))⟩
  have hi : wG (H o0 o1 o2 l b (r ++ [.list ((tk b l).map AV.int)])) (.ref (r.length + 6)) (.int p) = some (.int ((tk b l)[p.toNat]?.getD 0)) := by
    rw [qR h3, show (H o0 o1 o2 l b (r ++ [.list ((tk b l).map AV.int)]))[r.length + 6]? = some (.list ((tk b l).map AV.int)) from zO r _ []]; show ((tk b l).map AV.int)[p.toNat]? = _; rw [List.getElem?_map, y9 h2]; rfl
  exact zL (fr := [some (.ref 3), some (.int p), none]) rfl rfl (fr' := [some (.ref 3), some (.int p), some (.ref (r.length + 6))]) ((z5 (zCf X (n := n) G)).trans ((z5 ((zH (x7 (zu (b := true) (yX (v := .bool true) (zg (ev1 (z3 rfl) ev0) (yC X)) rfl)) (x7 (zu (b := true) (yu rfl (z3 rfl) (by rw [yt, decide_eq_true hp0]) (zCg X (n := n)) (by rw [yM, decide_eq_true hp1]))) qN))).trans zC)).trans (zJ (zd (zq (z3 rfl) (z3 rfl) hi)))))
end
set_option genInjectivity false
set_option genSizeOf false
structure Sh where
  g0 : AO
  g2 : AO
  hands : Int
  l : List Int
  b : List Bool
  ow : List Int
  le : List Nat
  fi : List Int
  mv : List Nat
  br : List AV
  cu : List Nat
  dn : List AV
  st : List Bool
  lo : List Int
abbrev fS (hands : Int) : List (Str × AV) := [("hands", .int hands), ("row", .ref 3), ("owners", .ref 6), ("letters", .ref 7), ("firsts", .ref 8), ("moved", .ref 9), ("bringers", .ref 10), ("cutters", .ref 11), ("done", .ref 12), ("standing", .ref 13), ("lost", .ref 14)]
abbrev ch (c : Nat) : AV := .str ⟨#[c]⟩
abbrev rf (k : Nat) : AV := .ref (k + 15)
abbrev Sh.tl (S : Sh) (r : Hp) : Hp := .list (S.ow.map AV.int) :: .list (S.le.map ch) :: .list (S.fi.map AV.int) :: .list (S.mv.map rf) :: .list S.br :: .list (S.cu.map rf) :: .list S.dn :: .list (S.st.map AV.bool) :: .list (S.lo.map AV.int) :: r
abbrev Sh.hp (S : Sh) (r : Hp) : Hp := H S.g0 (.inst "Sheet" (fS S.hands)) S.g2 S.l S.b (S.tl r)
theorem kS1 {h : Int} : List.lookup ("hands" : Str) (fS h) = some (.int h) := rfl
theorem kS2 {h : Int} : List.lookup ("row" : Str) (fS h) = some (.ref 3) := rfl
theorem kS3 {h : Int} : List.lookup ("owners" : Str) (fS h) = some (.ref 6) := rfl
theorem kS4 {h : Int} : List.lookup ("letters" : Str) (fS h) = some (.ref 7) := rfl
theorem kS5 {h : Int} : List.lookup ("firsts" : Str) (fS h) = some (.ref 8) := rfl
theorem kS6 {h : Int} : List.lookup ("moved" : Str) (fS h) = some (.ref 9) := rfl
theorem kS7 {h : Int} : List.lookup ("bringers" : Str) (fS h) = some (.ref 10) := rfl
theorem kS8 {h : Int} : List.lookup ("cutters" : Str) (fS h) = some (.ref 11) := rfl
theorem kS9 {h : Int} : List.lookup ("done" : Str) (fS h) = some (.ref 12) := rfl
theorem Wc {h : Int} : List.lookup ("standing" : Str) (fS h) = some (.ref 13) := rfl
theorem zDz {h : Int} : List.lookup ("lost" : Str) (fS h) = some (.ref 14) := rfl
theorem qj {h : Int} : List.lookup ("need_hand" : Str) (fS h) = none := rfl
theorem yB {h : Int} : List.lookup ("need_place" : Str) (fS h) = none := rfl
theorem x9 {h : Int} : List.lookup ("need_stretch" : Str) (fS h) = none := rfl
theorem xf {h : Int} : List.lookup ("size" : Str) (fS h) = none := rfl
theorem Xh {h : Int} : List.lookup ("bring" : Str) (fS h) = none := rfl
theorem wY {h : Int} : List.lookup ("seat_ahead" : Str) (fS h) = none := rfl
theorem ZW {h : Int} : List.lookup ("noted" : Str) (fS h) = none := rfl
theorem YD {h : Int} : List.lookup ("seated" : Str) (fS h) = none := rfl
theorem jm {h : Int} : List.lookup ("is_shown" : Str) (fS h) = none := rfl
theorem qh {h : Int} : List.lookup ("seat_of" : Str) (fS h) = none := rfl
theorem Jp {h : Int} : List.lookup ("shown" : Str) (fS h) = none := rfl
theorem Xg {h : Int} : List.lookup ("deeds" : Str) (fS h) = none := rfl
theorem zCa {h : Int} : List.lookup ("put" : Str) (fS h) = none := rfl
theorem zCb {h : Int} : List.lookup ("cut" : Str) (fS h) = none := rfl
theorem z1u {h : Int} : List.lookup ("move" : Str) (fS h) = none := rfl
theorem qi {h : Int} : List.lookup ("need_sign" : Str) (fS h) = none := rfl
theorem Yy {h : Int} : List.lookup ("need_deed" : Str) (fS h) = none := rfl
theorem jS {h : Int} : List.lookup ("stands" : Str) (fS h) = none := rfl
theorem Xj : List.lookup ("is_ahead" : Str) fs = none := rfl
theorem Jr : List.lookup ("ahead" : Str) fs = none := rfl
theorem Js : List.lookup ("add" : Str) fs = none := rfl
theorem WA : List.lookup ("take" : Str) fs = none := rfl
theorem Xi : List.lookup ("is_taken" : Str) fs = none := rfl
theorem Yz : List.lookup ("all_taken" : Str) fs = none := rfl
theorem WB : List.lookup ("find" : Str) fs = none := rfl
theorem Jq : List.lookup ("order" : Str) fs = none := rfl
section
variable {T : Tab} {okf : Str → Str → Bool} (X : TT T okf) {n : Nat} {S : Sh} {r : Hp}
include X
theorem wg {i : Int} (h0 : 0 ≤ i) (h1 : i < S.hands) : run T (n + 2) (.meth "Sheet" "need_hand") [.ref 1, .int i] (S.hp r) = .ok .none (S.hp r) := by
  rw [zK X.kAf]
  exact zt (fr := [some (.ref 1), some (.int i)]) rfl rfl (fr' := [some (.ref 1), some (.int i)]) ((z5 ((zH (x7 (zu (b := true) (yX (v := .bool true) (zg (ev1 (z3 rfl) ev0) (yC X)) rfl)) (x7 (zu (b := true) (yu rfl (z3 rfl) (by rw [yt, decide_eq_true h0]) (zQ (z3 rfl) rfl kS1) (by rw [yM, decide_eq_true h1]))) qN))).trans zC)).trans zC)
theorem wU : run T (n + 2) (.meth "Sheet" "size") [.ref 1] (S.hp r) = .ok (.int (S.b.countP id)) (S.hp r) := by
  rw [zK X.kBg]
  exact zL (fr := [some (.ref 1)]) rfl rfl (fr' := [some (.ref 1)]) (zJ (zd (zF (a := 3) (zQ (z3 rfl) rfl kS2) rfl Yz ev0 (Qr X (n := n) (o0 := S.g0) (o1 := .inst "Sheet" (fS S.hands)) (o2 := S.g2) (l := S.l) (b := S.b) (r := S.tl r)))))
theorem yq {i : Int} (h0 : 0 ≤ i) (h1 : i ≤ S.b.countP id) : run T (n + 3) (.meth "Sheet" "need_place") [.ref 1, .int i] (S.hp r) = .ok .none (S.hp r) := by
  rw [zK X.kAd]
  exact zt (fr := [some (.ref 1), some (.int i)]) rfl rfl (fr' := [some (.ref 1), some (.int i)]) ((z5 ((zH (x7 (zu (b := true) (yX (v := .bool true) (zg (ev1 (z3 rfl) ev0) (yC X)) rfl)) (x7 (zu (b := true) (yu rfl (z3 rfl) (by rw [yt, decide_eq_true h0]) (zF (a := 1) (z3 rfl) rfl xf ev0 (wU X (n := n))) (by rw [yt, decide_eq_true h1]))) qN))).trans zC)).trans zC)
theorem qT {i j : Int} (h0 : 0 ≤ i) (h1 : i < j) (h2 : j ≤ S.b.countP id) : run T (n + 4) (.meth "Sheet" "need_stretch") [.ref 1, .int i, .int j] (S.hp r) = .ok .none (S.hp r) := by
  rw [zK X.kAb]
  have j0 := Int.le_trans h0 (Int.le_of_lt h1)
  exact zt (fr := [some (.ref 1), some (.int i), some (.int j)]) rfl rfl (fr' := [some (.ref 1), some (.int i), some (.int j)]) ((z5 (zU (zF (a := 1) (z3 rfl) rfl yB (ev1 (z3 rfl) ev0) (yq X (n := n) h0 (Int.le_trans (Int.le_of_lt h1) h2))))).trans ((z5 (zU (zF (a := 1) (z3 rfl) rfl yB (ev1 (z3 rfl) ev0) (yq X (n := n) j0 h2)))).trans ((z5 ((zH (zX (v := .int i) (w := .int j) (z3 rfl) (z3 rfl) (by rw [z0g, decide_eq_false (Int.not_le.mpr h1)]))).trans zC)).trans zC)))
theorem Yk : run T (n + 1) (.meth "Sheet" "seat_ahead") [.ref 1, .int 0] (S.hp r) = .ok .none (S.hp r) := by
  rw [zK X.kAc]
  have t := zX (op := .Eq) (y := z7 (.int 0)) (w := .int 0) (b := true) (z3 (i := 1) (cf := run T n) (h := S.hp r) (fr := [some (.ref 1), some (.int 0)]) rfl) rfl (by rw [xb, xP]; rfl)
  refine zL (fr := [some (.ref 1), some (.int 0)]) rfl rfl (fr' := [some (.ref 1), some (.int 0)]) ?_
  unfold kAc
  dsimp only
  exact zJ ((zZ t).trans (zJ (zd rfl)))
theorem XX {p : Int} (h0 : 0 < p) (h1 : p ≤ (tk S.b S.l).length) (G : Good S.l S.b) :
    ∃ g, run T (n + 4) (.meth "Sheet" "seat_ahead") [.ref 1, .int p] (S.hp r) = .ok (.int ((tk S.b S.l)[(p - 1).toNat]?.getD 0)) (S.hp (r ++ g)) := by
  obtain ⟨g, e⟩ := zBr X (n := n) (l := S.l) (b := S.b) (o0 := S.g0) (o1 := .inst "Sheet" (fS S.hands)) (o2 := S.g2) (r := S.tl r) (p := p - 1) (Int.sub_nonneg_of_le h0) (Int.lt_of_lt_of_le (Int.sub_one_lt_of_le (Int.le_refl p)) h1) G
  refine ⟨g, ?_⟩
  rw [zK X.kAc]
  exact zL (fr := [some (.ref 1), some (.int p)]) rfl rfl (fr' := [some (.ref 1), some (.int p)]) ((z5 ((zH (zX (v := .int p) (w := .int 0) (z3 rfl) rfl (by rw [xb, xP, decide_eq_false (Int.ne_of_gt h0)]))).trans zC)).trans (zJ (zd (zF (a := 3) (zQ (z3 rfl) rfl kS2) rfl WB (ev1 (zf (z3 rfl) (y := z7 (.int 1)) rfl jN) ev0) e))))
end
def Sh.sh (S : Sh) : List Int := (tk S.b S.l).map fun x => S.ow[x.toNat]?.getD 0
def Sh.cs (S : Sh) : List Nat := S.sh.map fun i => S.le[i.toNat]?.getD 0
abbrev tx (t : List Nat) : Str := ⟨t.toArray⟩
theorem Qx (a c : List Nat) : tx a ++ tx c = tx (a ++ c) := by
  show Str.append _ _ = _
  unfold Str.append tx
  rw [← List.append_toArray]
theorem Qb (cs : List Nat) : Str.join ("" : Str) (cs.map fun c => (⟨#[c]⟩ : Str)) = tx cs := by
  induction cs with
  | nil => rfl
  | cons c cs ih =>
    cases cs with
    | nil => rfl
    | cons d cs =>
      show (⟨#[c]⟩ : Str) ++ ("" : Str) ++ Str.join ("" : Str) ((d :: cs).map fun c => (⟨#[c]⟩ : Str)) = _
      rw [ih]
      show (tx [c] ++ tx []) ++ tx (d :: cs) = _
      rw [Qx, Qx]; rfl
theorem J0 (cs : List Nat) : ((cs.map fun c => (⟨#[c]⟩ : Str)).map (·.length)).sum = cs.length := by
  induction cs with
  | nil => rfl
  | cons c cs ih => rw [List.map_cons, List.map_cons, List.sum_cons, ih, List.length_cons, Nat.add_comm]; rfl
structure Ok1 (S : Sh) : Prop where
  G : Good S.l S.b
  ow : S.ow.length = S.b.length
  own : ∀ i ∈ S.ow, 0 ≤ i ∧ i < S.le.length
  le : S.le.length < 200
theorem Ok1.at_ {S : Sh} (K : Ok1 S) {x : Int} (hx : x ∈ S.l) : ∃ y, S.ow[x.toNat]? = some y ∧ 0 ≤ y ∧ y < S.le.length := by
  obtain ⟨h0, h1⟩ := K.G.rng x hx
  have h2 : x.toNat < S.ow.length := by rw [K.ow]; lia
  exact ⟨S.ow[x.toNat], y9 h2, K.own _ (List.getElem_mem h2)⟩
theorem Ok1.sh_mem {S : Sh} (K : Ok1 S) {i : Int} (hi : i ∈ S.sh) : 0 ≤ i ∧ i < S.le.length := by
  obtain ⟨x, hx, rfl⟩ := List.mem_map.mp hi
  obtain ⟨y, e, h⟩ := K.at_ (List.mem_filter.mp hx).1
  rw [e]; exact h
section
variable {T : Tab} {okf : Str → Str → Bool} (X : TT T okf) {n : Nat} {S : Sh} {r : Hp}
include X
theorem zBz (K : Ok1 S) : run T (n + 4) (.meth "Sheet" "shown") [.ref 1] (S.hp r) = .ok (.ref (r.length + 16)) (S.hp (r ++ [.list (S.l.map AV.int), .list (S.sh.map AV.int)])) := by
  have lsm := K.G.sm'
  rw [zK X.kA0]
  have eo := zC5 X (n := n + 2) (l := S.l) (b := S.b) (o0 := S.g0) (o1 := .inst "Sheet" (fS S.hands)) (o2 := S.g2) (r := S.tl r) (Nat.le_of_lt lsm.1)
  have e1 : z6 (zD (z4 0) "row") "order" none [] (run T (n + 3)) [some (.ref 1)] (S.hp r) = .ok (.ref (r.length + 15)) (S.hp (r ++ [.list (S.l.map AV.int)])) := by
    exact zF (a := 3) (zQ (z3 rfl) rfl kS2) rfl Jq ev0 eo
  have hg : (S.hp (r ++ [.list (S.l.map AV.int)]))[r.length + 15]? = some (.list (S.l.map AV.int)) := zO r _ []
  have ec := wR AV.int (own := 1) (i := 1) (test := zT .And [zp (z6 (zD (z4 0) "row") "is_taken" none [z4 1])]) (elt := zR (zD (z4 0) "owners") (z4 1)) (l := S.l) (p := fl S.b) (f := fun x => AV.int (S.ow[x.toNat]?.getD 0)) e1 hg (by decide) lsm.1
    (fun fr' a1 a2 x hx a3 => by
      have a0 := a2 0 (by decide)
      have z := We X (n := n) (l := S.l) (b := S.b) (o0 := S.g0) (o1 := .inst "Sheet" (fS S.hands)) (o2 := S.g2) (r := S.tl (r ++ [.list (S.l.map AV.int)])) (K.G.rng x hx).1 (K.G.rng x hx).2 (Nat.le_of_lt lsm.2)
      have c0 := z3 (cf := run T (n + 3)) (h := S.hp (r ++ [.list (S.l.map AV.int)])) (show fr'[0]? = some (some (.ref 1)) from a0)
      have c1 := z3 (cf := run T (n + 3)) (h := S.hp (r ++ [.list (S.l.map AV.int)])) a3
      have : z6 (zD (z4 0) "row") "is_taken" none [z4 1] (run T (n + 3)) fr' (S.hp (r ++ [.list (S.l.map AV.int)])) = .ok (.bool (fl S.b x)) (S.hp (r ++ [.list (S.l.map AV.int)])) := by
        exact zF (a := 3) (zQ c0 rfl kS2) rfl Xi (ev1 c1 ev0) z
      unfold zT zp
      rw [this]
      cases fl S.b x <;> rfl)
    (fun fr' a1 a2 x hx a3 => by
      have a0 := a2 0 (by decide)
      have c0 := z3 (cf := run T (n + 3)) (h := S.hp (r ++ [.list (S.l.map AV.int)])) (show fr'[0]? = some (some (.ref 1)) from a0)
      have c1 := z3 (cf := run T (n + 3)) (h := S.hp (r ++ [.list (S.l.map AV.int)])) a3
      obtain ⟨y, hy, _⟩ := K.at_ hx
      have := ZD (h := S.hp (r ++ [.list (S.l.map AV.int)])) (a := 6) (l := S.ow) rfl (K.G.rng x hx).1 hy (by rw [K.ow]; exact Nat.le_of_lt lsm.2)
      rw [hy]
      exact zq (zQ c0 rfl kS3) c1 this)
  have l1 : (S.hp (r ++ [.list (S.l.map AV.int)])).length = r.length + 16 := by
    show (r ++ [AO.list (S.l.map AV.int)]).length + 15 = _
    rw [zP]; rfl
  have l2 : S.hp (r ++ [.list (S.l.map AV.int)]) ++ [.list ((S.l.filter (fl S.b)).map fun x => AV.int (S.ow[x.toNat]?.getD 0))] = S.hp (r ++ [.list (S.l.map AV.int), .list (S.sh.map AV.int)]) := by
    unfold Sh.sh
    rw [List.map_map]
    show S.hp ((r ++ [.list (S.l.map AV.int)]) ++ [_]) = _
    rw [List.append_assoc]; rfl
  rw [l1, l2] at ec
  exact zL (fr := [some (.ref 1)]) rfl rfl (zJ (zd ec))
end
theorem xI {α β : Type} (f : α → β) (l : List α) (x : α) : l.map f ++ [f x] = (l ++ [x]).map f := by rw [List.map_append]; rfl
theorem qM {α : Type} (g : List α) (x y : α) (r : List α) : (g ++ x :: r).set g.length y = g ++ y :: r := by simp
def At (l : List Int) (b : List Bool) (bh : AV) (i : Nat) : Prop := (bh = .none ∧ i = 0) ∨ ∃ x j, bh = .int x ∧ 0 ≤ x ∧ x < b.length ∧ l.findIdx? (· == x) = some j ∧ i = j + 1
theorem At.le {l : List Int} {b : List Bool} {bh : AV} {i : Nat} (h : At l b bh i) : i ≤ l.length := by
  rcases h with ⟨_, rfl⟩ | ⟨x, j, _, _, _, h, rfl⟩
  · exact Nat.zero_le _
  · exact (List.findIdx?_eq_some_iff_getElem.mp h).1
def Sh.add (S : Sh) (i : Nat) (c : Nat) (d : AV) (k : Nat) : Sh := { S with l := wF S.l i S.b.length, b := S.b ++ [true], ow := S.ow ++ [(S.le.length : Int)], le := S.le ++ [c], fi := S.fi ++ [(S.b.length : Int)], mv := S.mv ++ [k], br := S.br ++ [d], cu := S.cu ++ [k + 1] }
section
variable {cf : CF} {fr : AFr} {h h1 : Hp} {e : XE} {v : AV} {a : Nat} {c f : Str} {fs : List (Str × AV)} {ys zs : List AV}
theorem wW (e0 : fr[0]? = some (some (.ref 1))) (ho : h[1]? = some (.inst c fs)) (hl : fs.lookup f = some (.ref a)) (ha0 : h[a]? = some (.list ys)) (ev : e cf fr h = .ok v h1) (ha : h1[a]? = some (.list ys)) (z : ys.length < small) (hz : ys ++ [v] = zs) :
    zG (z6 (zD (z4 0) f) "append" (some .append) [e]) cf fr h = .ok .next fr (h1.set a (.list zs)) := by
  refine zU (v := .none) (j7 (zQ (z3 e0) ho hl) ha0 (ev1 ev ev0) ?_)
  rw [xx, ha]
  show (if ys.length < small then _ else _) = _
  rw [if_pos z, hz]
theorem Yp {j : Nat} (e0 : fr[j]? = some (some (.ref a))) (ha0 : h[a]? = some (.list ys)) (ev : e cf fr h = .ok v h1) (ha : h1[a]? = some (.list ys)) (z : ys.length < small) (hz : ys ++ [v] = zs) :
    zG (z6 (z4 j) "append" (some .append) [e]) cf fr h = .ok .next fr (h1.set a (.list zs)) := by
  refine zU (v := .none) (j7 (z3 e0) ha0 (ev1 ev ev0) ?_)
  rw [xx, ha]
  show (if ys.length < small then _ else _) = _
  rw [if_pos z, hz]
theorem qf (e0 : fr[0]? = some (some (.ref 1))) (ho : h[1]? = some (.inst c fs)) (hl : fs.lookup f = some (.ref a)) (ha0 : h[a]? = some (.list ys)) {k : Nat} (hk : ys.length = k) : zB (zA (some (.bi .len))) [zD (z4 0) f] cf fr h = .ok (.int k) h := by
  refine xX (ev1 (zQ (z3 e0) ho hl) ev0) ?_
  rw [wu, wM, ha0]
  show Out.ok (AV.int (ys.length : Nat)) h = _
  rw [hk]
end
section
variable {T : Tab} {okf : Str → Str → Bool} (X : TT T okf) {n : Nat} {S : Sh} {r : Hp} {o0 o1 o2 : AO}
include X
theorem z0u {l : List Int} {b : List Bool} {bh : AV} {i : Nat} (hA : At l b bh i) (hl : l.length < small) (hb : b.length < small) :
    run T (n + 3) (.meth "Row" "add") [.ref 3, bh] (H o0 o1 o2 l b r) = .ok (.int b.length) (H o0 o1 o2 (wF l i b.length) (b ++ [false]) r) := by
  rcases hA with ⟨rfl, rfl⟩ | ⟨x, j, rfl, h0, h1, hj, rfl⟩
  · exact z0t X hl hb
  · exact z0s X h0 h1 hj hl hb
theorem Ql {bh d t : AV} {i c : Nat} {fd : List Int} {g : Hp} (hA : At S.l S.b bh i) (hl : S.l.length < 1000) (hb : S.b.length < 1000) (ho : S.ow.length < 1000) (he : S.le.length < 1000) (hf : S.fi.length < 1000) (hm : S.mv.length < 1000) (hr : S.br.length < 1000) (hc : S.cu.length < 1000) (hd : fd.length < 1000) :
    (z9 [(z8 okf (.names (.one 2)) (z6 (zD (z4 0) "row") "add" none [(z4 2)])), (zG (z6 (zD (z4 0) "owners") "append" (some .append) [(zB (zA (some (.bi .len))) [(zD (z4 0) "letters")])])), (zG (z6 (z4 4) "append" (some .append) [(zB (zA (some (.bi .len))) [(zD (z4 0) "letters")])])), (zG (z6 (zD (z4 0) "letters") "append" (some .append) [(z4 5)])), (zG (z6 (zD (z4 0) "firsts") "append" (some .append) [(z4 2)])), (zG (z6 (zD (z4 0) "moved") "append" (some .append) [(zw [])])), (zG (z6 (zD (z4 0) "bringers") "append" (some .append) [(z4 3)])), (zG (z6 (zD (z4 0) "cutters") "append" (some .append) [(zw [])])), (zG (z6 (zD (z4 0) "row") "take" none [(z4 2), (z7 (.bool true))]))])
      (run T (n + 3)) [some (.ref 1), some t, some bh, some d, some (.ref (r.length + 15)), some (ch c)] (S.hp (r ++ .list (fd.map AV.int) :: g)) =
    .ok .next [some (.ref 1), some t, some (.int S.b.length), some d, some (.ref (r.length + 15)), some (ch c)] ((S.add i c d (r.length + 1 + g.length)).hp (r ++ .list ((fd ++ [(S.le.length : Int)]).map AV.int) :: (g ++ [.list [], .list []]))) := by
  have sm : ∀ {k : Nat}, k < 1000 → k < small := fun h => Nat.lt_trans h (by decide)
  have ea := z0u X (n := n) (o0 := S.g0) (o1 := .inst "Sheet" (fS S.hands)) (o2 := S.g2) (r := S.tl (r ++ .list (fd.map AV.int) :: g)) hA (sm hl) (sm hb)
  rw [z5 (zW (j := 2) (zF (a := 3) (zQ (z3 rfl) rfl kS2) rfl Js (ev1 (z3 rfl) ev0) ea) (zc rfl))]
  let S1 : Sh := { S with l := wF S.l i S.b.length, b := S.b ++ [false] }
  show z9 _ _ [some (.ref 1), some t, some (.int S.b.length), some d, some (.ref (r.length + 15)), some (ch c)] (S1.hp (r ++ .list (fd.map AV.int) :: g)) = _
  rw [z5 (wW (a := 6) (zs := (S.ow ++ [(S.le.length : Int)]).map AV.int) rfl rfl kS3 rfl (qf (a := 7) rfl rfl kS4 rfl (List.length_map _)) rfl (by rw [List.length_map]; exact sm ho) (xI AV.int S.ow _))]
  let S2 : Sh := { S1 with ow := S.ow ++ [(S.le.length : Int)] }
  show z9 _ _ _ (S2.hp (r ++ .list (fd.map AV.int) :: g)) = _
  have hfd : (S2.hp (r ++ .list (fd.map AV.int) :: g))[r.length + 15]? = some (.list (fd.map AV.int)) := zO r _ g
  rw [z5 (Yp (j := 4) (a := r.length + 15) (zs := (fd ++ [(S.le.length : Int)]).map AV.int) rfl hfd (qf (a := 7) rfl rfl kS4 rfl (List.length_map _)) hfd (by rw [List.length_map]; exact sm hd) (xI AV.int fd _))]
  show z9 _ _ _ (S2.hp ((r ++ .list (fd.map AV.int) :: g).set r.length (.list ((fd ++ [(S.le.length : Int)]).map AV.int)))) = _
  rw [qM]
  generalize hR : r ++ .list ((fd ++ [(S.le.length : Int)]).map AV.int) :: g = R
  have lR : R.length = r.length + 1 + g.length := by rw [← hR, zP, List.length_cons]; lia
  rw [z5 (wW (a := 7) (zs := (S.le ++ [c]).map ch) rfl rfl kS4 rfl (z3 rfl) rfl (by rw [List.length_map]; exact sm he) (xI ch S.le c))]
  rw [z5 (wW (a := 8) (zs := (S.fi ++ [(S.b.length : Int)]).map AV.int) rfl rfl kS5 rfl (z3 rfl) rfl (by rw [List.length_map]; exact sm hf) (xI AV.int S.fi _))]
  let S3 : Sh := { S2 with le := S.le ++ [c], fi := S.fi ++ [(S.b.length : Int)] }
  show z9 _ _ _ (S3.hp R) = _
  have l3 : (S3.hp R).length = R.length + 15 := rfl
  rw [z5 (wW (a := 9) (ys := S.mv.map rf) (zs := (S.mv ++ [R.length]).map rf) rfl rfl kS6 rfl (yL ev0) (show (S3.hp (R ++ [.list []]))[9]? = _ from rfl) (by rw [List.length_map]; exact sm hm) (by rw [l3, List.map_append]; rfl))]
  let S4 : Sh := { S3 with mv := S.mv ++ [R.length] }
  show z9 _ _ _ (S4.hp (R ++ [.list []])) = _
  rw [z5 (wW (a := 10) (zs := S.br ++ [d]) rfl rfl kS7 rfl (z3 rfl) rfl (sm hr) rfl)]
  let S5 : Sh := { S4 with br := S.br ++ [d] }
  show z9 _ _ _ (S5.hp (R ++ [.list []])) = _
  have l5 : (S5.hp (R ++ [.list []])).length = R.length + 1 + 15 := by show (R ++ [AO.list []]).length + 15 = _; rw [zP]; rfl
  rw [z5 (wW (a := 11) (ys := S.cu.map rf) (zs := (S.cu ++ [R.length + 1]).map rf) rfl rfl kS8 rfl (yL ev0) (show (S5.hp ((R ++ [.list []]) ++ [.list []]))[11]? = _ from rfl) (by rw [List.length_map]; exact sm hc) (by rw [l5, List.map_append]; rfl))]
  let S6 : Sh := { S5 with cu := S.cu ++ [R.length + 1] }
  show z9 _ _ _ (S6.hp ((R ++ [.list []]) ++ [.list []])) = _
  have et := z2l X (n := n) (o0 := S.g0) (o1 := .inst "Sheet" (fS S.hands)) (o2 := S.g2) (l := wF S.l i S.b.length) (b := S.b ++ [false]) (i := (S.b.length : Int)) (v := true) (r := S6.tl ((R ++ [.list []]) ++ [.list []])) (by lia) (by rw [zP]; show (S.b.length : Int) < ((S.b.length + 1 : Nat) : Int); lia) (by rw [zP]; exact sm hb)
  rw [z5 (zU (zF (a := 3) (zQ (z3 rfl) rfl kS2) rfl WA (ev1 (z3 rfl) (ev1 rfl ev0)) et)), zC]
  have eb : (S.b ++ [false]).set (S.b.length : Int).toNat true = S.b ++ [true] := by rw [Int.toNat_natCast]; exact qM S.b false true []
  have hR2 : r ++ .list ((fd ++ [(S.le.length : Int)]).map AV.int) :: (g ++ [.list [], .list []]) = R ++ [.list [], .list []] := by rw [← hR, List.append_assoc]; rfl
  rw [eb, List.append_assoc, ← lR, hR2]
  rfl
end
def ze (a k : Nat) : List Int := (List.range k).map fun j => ((a + j : Nat) : Int)
theorem yY (a k : Nat) : (ze a k).length = k := by unfold ze; rw [List.length_map, List.length_range]
theorem xy (a k : Nat) : ze a (k + 1) = ze a k ++ [((a + k : Nat) : Int)] := by unfold ze; rw [List.range_succ, List.map_append]; rfl
theorem yg {a k : Nat} {x : Int} (h : x ∈ ze a k) : (a : Int) ≤ x ∧ x < (a + k : Nat) := by
  obtain ⟨j, hj, rfl⟩ := List.mem_map.mp h
  have := List.mem_range.mp hj
  exact ⟨by lia, by lia⟩
theorem Xx {a m c : List Int} {i : Nat} {x : Int} (h : a.length + m.length = i) : wF (a ++ m ++ c) i x = a ++ (m ++ [x]) ++ c := by
  unfold wF
  have e : (a ++ m).length = i := by rw [zP]; exact h
  rw [List.take_left' e, List.drop_left' e]
  simp only [List.append_assoc, List.cons_append, List.nil_append]
def Sh.adds (S : Sh) (i : Nat) (d : AV) (q : Nat) (cs : List Nat) : Sh := { S with l := S.l.take i ++ ze S.b.length cs.length ++ S.l.drop i, b := S.b ++ List.replicate cs.length true, ow := S.ow ++ ze S.le.length cs.length, le := S.le ++ cs, fi := S.fi ++ ze S.b.length cs.length, mv := S.mv ++ (List.range cs.length).map (fun j => q + 2 * j), br := S.br ++ List.replicate cs.length d, cu := S.cu ++ (List.range cs.length).map (fun j => q + 2 * j + 1) }
theorem Sh.adds_nil (S : Sh) (i : Nat) (d : AV) (q : Nat) : S.adds i d q [] = S := by
  obtain ⟨g0, g2, hands, l, b, ow, le, fi, mv, br, cu, dn, st, lo⟩ := S
  simp [Sh.adds, ze]
theorem Sh.adds_snoc (S : Sh) {i : Nat} (hi : i ≤ S.l.length) (d : AV) (q : Nat) (cs : List Nat) (c : Nat) : (S.adds i d q cs).add (i + cs.length) c d (q + 2 * cs.length) = S.adds i d q (cs ++ [c]) := by
  have e1 : (cs ++ [c]).length = cs.length + 1 := by rw [zP]; rfl
  have e2 : (S.b ++ List.replicate cs.length true).length = S.b.length + cs.length := by rw [zP, List.length_replicate]
  have e3 : (S.le ++ cs).length = S.le.length + cs.length := zP
  unfold Sh.add Sh.adds
  dsimp only
  rw [e1, e2, e3, Xx (by rw [List.length_take, yY]; lia), xy, xy, List.replicate_succ', List.replicate_succ', List.range_succ]
  simp only [List.append_assoc, List.map_append, List.map_cons, List.map_nil]
theorem Q3 {a c : List Int} {x : Int} (h : ∀ y ∈ a, y ≠ x) : (a ++ x :: c).findIdx? (· == x) = some a.length := by
  induction a with
  | nil => rw [List.nil_append, List.findIdx?_cons, beq_self_eq_true]; rfl
  | cons y a ih =>
    rw [List.cons_append, List.findIdx?_cons, ih fun z hz => h z (.tail _ hz)]
    have : (y == x) = false := beq_eq_false_iff_ne.mpr (h y (.head _))
    rw [this]; rfl
theorem At.next {S : Sh} {i : Nat} {d : AV} {q c : Nat} {cs : List Nat} (hi : i ≤ S.l.length) (hlt : ∀ x ∈ S.l, x < S.b.length) : At (S.adds i d q (cs ++ [c])).l (S.adds i d q (cs ++ [c])).b (.int ((S.b.length + cs.length : Nat) : Int)) (i + (cs.length + 1)) := by
  have e1 : (cs ++ [c]).length = cs.length + 1 := by rw [zP]; rfl
  refine .inr ⟨_, i + cs.length, rfl, by lia, ?_, ?_, rfl⟩
  · show _ < (((S.b ++ List.replicate (cs ++ [c]).length true).length : Nat) : Int)
    rw [zP, List.length_replicate, e1]; lia
  · show (S.l.take i ++ ze S.b.length (cs ++ [c]).length ++ S.l.drop i).findIdx? _ = _
    rw [e1, xy, ← List.append_assoc, List.append_assoc _ [_]]
    have : (S.l.take i ++ ze S.b.length cs.length).length = i + cs.length := by rw [zP, List.length_take, yY]; lia
    rw [← this]
    refine Q3 fun y hy => ?_
    rcases xa hy with hy | hy
    · have := hlt y (List.mem_of_mem_take hy); lia
    · have := (yg hy).2; lia
theorem z1a (h : Hp) (cs : List Nat) : yk h (.str (tx cs)) = some (.imm (cs.map ch), cs.length) := rfl
structure Sz (S : Sh) (k : Nat) : Prop where
  l : S.l.length ≤ k
  b : S.b.length ≤ k
  ow : S.ow.length ≤ k
  le : S.le.length ≤ k
  fi : S.fi.length ≤ k
  mv : S.mv.length ≤ k
  br : S.br.length ≤ k
  cu : S.cu.length ≤ k
theorem Sz.adds {S : Sh} {k : Nat} (z : Sz S k) {i : Nat} {d : AV} {q : Nat} {cs : List Nat} : Sz (S.adds i d q cs) (k + cs.length) := by
  have h := List.take_append_drop i S.l
  have hl : (S.l.take i).length + (S.l.drop i).length = S.l.length := by rw [← zP, h]
  refine ⟨?_, ?_, ?_, ?_, ?_, ?_, ?_, ?_⟩ <;> show List.length (_ ++ _) ≤ _ <;> simp only [zP, yY, List.length_replicate, List.length_map, List.length_range]
  · have := z.l; lia
  · exact Nat.add_le_add_right z.b _
  · exact Nat.add_le_add_right z.ow _
  · exact Nat.add_le_add_right z.le _
  · exact Nat.add_le_add_right z.fi _
  · exact Nat.add_le_add_right z.mv _
  · exact Nat.add_le_add_right z.br _
  · exact Nat.add_le_add_right z.cu _
section
variable {T : Tab} {okf : Str → Str → Bool} (X : TT T okf) {n : Nat} {S : Sh} {r : Hp}
include X
theorem z0j {bh d : AV} {i : Nat} {cs : List Nat} (hA : At S.l S.b bh i) (z : Sz S 500) (hlt : ∀ x ∈ S.l, x < S.b.length) (hc : cs.length ≤ 100) :
    run T (n + 4) (.meth "Sheet" "bring") [.ref 1, .str (tx cs), bh, d] (S.hp r) = .ok (.ref (r.length + 15)) ((S.adds i d (r.length + 1) cs).hp (r ++ .list ((ze S.le.length cs.length).map AV.int) :: List.replicate (2 * cs.length) (.list []))) := by
  rw [zK X.kA7]
  have hi := hA.le
  obtain ⟨fr', h', e, p⟩ := xB (t := .one 5) (src := .imm (cs.map ch)) (cf := run T (n + 3)) (xs := cs.map ch)
    (body := (z9 [(z8 okf (.names (.one 2)) (z6 (zD (z4 0) "row") "add" none [(z4 2)])), (zG (z6 (zD (z4 0) "owners") "append" (some .append) [(zB (zA (some (.bi .len))) [(zD (z4 0) "letters")])])), (zG (z6 (z4 4) "append" (some .append) [(zB (zA (some (.bi .len))) [(zD (z4 0) "letters")])])), (zG (z6 (zD (z4 0) "letters") "append" (some .append) [(z4 5)])), (zG (z6 (zD (z4 0) "firsts") "append" (some .append) [(z4 2)])), (zG (z6 (zD (z4 0) "moved") "append" (some .append) [(zw [])])), (zG (z6 (zD (z4 0) "bringers") "append" (some .append) [(z4 3)])), (zG (z6 (zD (z4 0) "cutters") "append" (some .append) [(zw [])])), (zG (z6 (zD (z4 0) "row") "take" none [(z4 2), (z7 (.bool true))]))]))
    (fun k fr h => ∃ bh' v5, fr = [some (.ref 1), some (.str (tx cs)), some bh', some d, some (.ref (r.length + 15)), v5] ∧ h = (S.adds i d (r.length + 1) (cs.take k)).hp (r ++ .list ((ze S.le.length k).map AV.int) :: List.replicate (2 * k) (.list [])) ∧ At (S.adds i d (r.length + 1) (cs.take k)).l (S.adds i d (r.length + 1) (cs.take k)).b bh' (i + k))
    (fun k fr h _ => rfl)
    (by
      rintro k x fr h ⟨bh', v5, rfl, rfl, hA'⟩ hx
      rw [List.getElem?_map] at hx
      obtain ⟨c, hc', rfl⟩ := y6 hx
      have hk : k < cs.length := (y8 hc').1
      have lk : (cs.take k).length = k := by rw [List.length_take]; lia
      have z' := z.adds (i := i) (d := d) (q := r.length + 1) (cs := cs.take k)
      rw [lk] at z'
      have lt : ∀ {m : Nat}, m ≤ 500 + k → m < 1000 := fun h => by lia
      have step := Ql X (n := n) (S := S.adds i d (r.length + 1) (cs.take k)) (r := r) (bh := bh') (d := d) (t := .str (tx cs)) (c := c) (fd := ze S.le.length k) (g := List.replicate (2 * k) (.list [])) hA' (lt z'.l) (lt z'.b) (lt z'.ow) (lt z'.le) (lt z'.fi) (lt z'.mv) (lt z'.br) (lt z'.cu) (by rw [yY]; lia)
      have e1 : cs.take (k + 1) = cs.take k ++ [c] := by rw [List.take_succ, hc']; rfl
      have e2 : (S.adds i d (r.length + 1) (cs.take k)).le.length = S.le.length + k := by show (S.le ++ cs.take k).length = _; rw [zP, lk]
      have e3 : (S.adds i d (r.length + 1) (cs.take k)).b.length = S.b.length + k := by show (S.b ++ List.replicate (cs.take k).length true).length = _; rw [zP, List.length_replicate, lk]
      have e4 := S.adds_snoc hi d (r.length + 1) (cs.take k) c
      rw [lk] at e4
      rw [List.length_replicate, e4, e2, e3, ← xy] at step
      refine ⟨_, _, _, rfl, step, .int ((S.b.length + k : Nat) : Int), _, rfl, ?_, ?_⟩
      · rw [e1]
        have : List.replicate (2 * k) (AO.list []) ++ [.list [], .list []] = List.replicate (2 * (k + 1)) (.list []) := by
          rw [show 2 * (k + 1) = 2 * k + 2 by lia, ← List.replicate_append_replicate]; rfl
        rw [this]
      · rw [e1]
        have := At.next (S := S) (i := i) (d := d) (q := r.length + 1) (c := c) (cs := cs.take k) hi hlt
        rw [lk] at this
        exact this) (fr := [some (.ref 1), some (.str (tx cs)), some bh, some d, some (.ref (r.length + 15)), none]) (h := S.hp (r ++ [.list []]))
    ⟨bh, none, rfl, by rw [List.take_zero, Sh.adds_nil]; rfl, by rw [List.take_zero, Sh.adds_nil]; exact hA⟩
  obtain ⟨bh', v5, rfl, rfl, _⟩ := p
  rw [List.length_map] at e
  rw [List.take_length] at e
  refine zL (fr := [some (.ref 1), some (.str (tx cs)), some bh, some d, none, none]) (fr' := [some (.ref 1), some (.str (tx cs)), some bh', some d, some (.ref (r.length + 15)), v5]) rfl rfl ?_
  unfold kA7
  dsimp only
  rw [z5 (zW (j := 4) (yL ev0) (zc rfl))]
  show z9 _ _ [some (.ref 1), some (.str (tx cs)), some bh, some d, some (.ref (r.length + 15)), none] (S.hp (r ++ [.list []])) = _
  have ef := qp (en := false) (x := z4 1) (h := S.hp (r ++ [.list []])) (z3 rfl) (z1a (S.hp (r ++ [.list []])) cs) e
  exact (z5 ef).trans (zJ (zd (z3 rfl)))
end
abbrev pr (p : Int × Int) : AV := .tup [.int p.1, .int p.2]
structure Dy (S : Sh) (mvs : List (List (Int × Int))) (cus : List (List Int)) (r : Hp) : Prop where
  ml : S.mv.length = mvs.length
  cl : S.cu.length = cus.length
  m : ∀ (i k : Nat) (ps : List (Int × Int)), S.mv[i]? = some k → mvs[i]? = some ps → r[k]? = some (AO.list (ps.map pr))
  c : ∀ (i k : Nat) (ds : List Int), S.cu[i]? = some k → cus[i]? = some ds → r[k]? = some (AO.list (ds.map AV.int))
  nd : (S.mv ++ S.cu).Nodup
theorem Dy.grow {S : Sh} {mvs : List (List (Int × Int))} {cus : List (List Int)} {r : Hp} (D : Dy S mvs cus r) (g : Hp) : Dy S mvs cus (r ++ g) :=
  ⟨D.ml, D.cl, fun i k ps h1 h2 => zE (D.m i k ps h1 h2), fun i k ds h1 h2 => zE (D.c i k ds h1 h2), D.nd⟩
def yH (st : List Bool) (f : Int) (ps : List (Int × Int)) : Int := ps.foldl (fun x p => if fl st p.1 then p.2 else x) f
theorem Xo (st : List Bool) (f : Int) (ps : List (Int × Int)) (p : Int × Int) : yH st f (ps ++ [p]) = if fl st p.1 then p.2 else yH st f ps := by unfold yH; rw [List.foldl_append]; rfl
def Qm (st : List Bool) : AV → Bool
  | .int d => fl st d
  | _ => true
def Sh.cur (S : Sh) (mvs : List (List (Int × Int))) (i : Int) : Int := yH S.st (S.fi[i.toNat]?.getD 0) (mvs[i.toNat]?.getD [])
def Sh.shw (S : Sh) (cus : List (List Int)) (i : Int) : Bool := Qm S.st (S.br[i.toNat]?.getD .none) && !(cus[i.toNat]?.getD []).any (fl S.st)
def w9 (b : List Bool) (xs : List Int) : List Bool := xs.foldl (fun b x => b.set x.toNat false) b
theorem w8 (xs : List Int) : ∀ b : List Bool, (w9 b xs).length = b.length := by
  induction xs with
  | nil => intro b; rfl
  | cons x xs ih => intro b; exact (ih _).trans List.length_set
def jh (S : Sh) (mvs : List (List (Int × Int))) (cus : List (List Int)) (b : List Bool) (i : Int) : List Bool :=
  let b1 := w9 (b.set (S.fi[i.toNat]?.getD 0).toNat false) ((mvs[i.toNat]?.getD []).map (·.2))
  bif S.shw cus i then b1.set (S.cur mvs i).toNat true else b1
theorem Y2 {S : Sh} {mvs : List (List (Int × Int))} {cus : List (List Int)} (b : List Bool) (i : Int) : (jh S mvs cus b i).length = b.length := by
  unfold jh
  dsimp only
  cases S.shw cus i with
  | true => show (List.set _ _ _).length = _; rw [List.length_set, w8, List.length_set]
  | false => show (w9 _ _).length = _; rw [w8, List.length_set]
def yW (S : Sh) (mvs : List (List (Int × Int))) (cus : List (List Int)) (b : List Bool) (is : List Int) : List Bool := is.foldl (jh S mvs cus) b
theorem xW {S : Sh} {mvs : List (List (Int × Int))} {cus : List (List Int)} (is : List Int) : ∀ b : List Bool, (yW S mvs cus b is).length = b.length := by
  induction is with
  | nil => intro b; rfl
  | cons x xs ih => intro b; exact (ih _).trans (Y2 b x)
structure Sg (S : Sh) (mvs : List (List (Int × Int))) (cus : List (List Int)) : Prop where
  fi : S.fi.length = S.le.length
  br : S.br.length = S.le.length
  mv : mvs.length = S.le.length
  cu : cus.length = S.le.length
  fr : ∀ x ∈ S.fi, 0 ≤ x ∧ x < S.b.length
  mr : ∀ ps ∈ mvs, ∀ p ∈ ps, (0 ≤ p.1 ∧ p.1 < S.st.length) ∧ 0 ≤ p.2 ∧ p.2 < S.b.length
  dr : ∀ ds ∈ cus, ∀ d ∈ ds, 0 ≤ d ∧ d < S.st.length
  bn : ∀ v ∈ S.br, v = .none ∨ ∃ d : Int, v = .int d ∧ 0 ≤ d ∧ d < S.st.length
  ps : ∀ ps ∈ mvs, ps.length ≤ S.st.length
  cs : ∀ ds ∈ cus, ds.length ≤ S.st.length
  sl : S.le.length < 200
  st : S.st.length < 200
  sb : S.b.length < 200
theorem qD {h : Hp} {a : Nat} {xs : List AV} {x : Int} {v : AV} (e : h[a]? = some (.list xs)) (h0 : 0 ≤ x) (h1 : x < 1000) (hv : xs[x.toNat]? = some v) : wG h (.ref a) (.int x) = some v := by
  have h3 : okI x = true := yv.mpr ⟨by lia, by lia⟩
  rw [qR h3, e]; exact hv
section
variable {T : Tab} {okf : Str → Str → Bool} (X : TT T okf) {n : Nat} {S : Sh} {r : Hp} {mvs : List (List (Int × Int))} {cus : List (List Int)}
theorem Sg.at_ (K : Sg S mvs cus) (D : Dy S mvs cus r) {i : Int} (h0 : 0 ≤ i) (h1 : i < S.le.length) : ∃ f ps ds v km kc, S.fi[i.toNat]? = some f ∧ mvs[i.toNat]? = some ps ∧ cus[i.toNat]? = some ds ∧ S.br[i.toNat]? = some v ∧ S.mv[i.toNat]? = some km ∧ S.cu[i.toNat]? = some kc ∧
    r[km]? = some (AO.list (ps.map pr)) ∧ r[kc]? = some (AO.list (ds.map AV.int)) := by
  have a1 : i.toNat < S.fi.length := by rw [K.fi]; lia
  have a2 : i.toNat < mvs.length := by rw [K.mv]; lia
  have a3 : i.toNat < cus.length := by rw [K.cu]; lia
  have a4 : i.toNat < S.br.length := by rw [K.br]; lia
  have a5 : i.toNat < S.mv.length := by rw [D.ml]; exact a2
  have a6 : i.toNat < S.cu.length := by rw [D.cl]; exact a3
  have e2 := y9 a2
  have e3 := y9 a3
  have e5 := y9 a5
  have e6 := y9 a6
  exact ⟨_, _, _, _, _, _, y9 a1, e2, e3, y9 a4, e5, e6, D.m _ _ _ e5 e2, D.c _ _ _ e6 e3⟩
theorem J5 (K : Sg S mvs cus) {d : Int} (d0 : 0 ≤ d) (d1 : d < S.st.length) : wG (S.hp r) (.ref 13) (.int d) = some (.bool (fl S.st d)) := jV (b := S.st) rfl d0 d1 (Nat.le_trans (Nat.le_of_lt K.st) (by decide))
include X
theorem j4 (K : Sg S mvs cus) (D : Dy S mvs cus r) {i : Int} (h0 : 0 ≤ i) (h1 : i < S.le.length) :
    run T (n + 1) (.meth "Sheet" "seat_of") [.ref 1, .int i] (S.hp r) = .ok (.int (S.cur mvs i)) (S.hp r) := by
  unfold Sh.cur
  obtain ⟨f, ps, ds, v, km, kc, e1, e2, e3, e4, e5, e6, e7, e8⟩ := K.at_ D h0 h1
  have hsl := K.sl
  rw [zK X.kAq, e1, e2]
  obtain ⟨fr', h', e, a, c, rfl, rfl⟩ := xB (t := .many [3, 4]) (src := .ref (km + 15)) (cf := run T n) (xs := ps.map pr)
    (body := z9 [(sIf (zp (zR (zD (z4 0) "standing") (z4 3))) (z9 [(z8 okf (.names (.one 2)) (z4 4))]) (z9 []))])
    (fun k fr h => ∃ a c, fr = [some (.ref 1), some (.int i), some (.int (yH S.st f (ps.take k))), a, c] ∧ h = S.hp r)
    (by
      rintro k fr h ⟨a, c, rfl, rfl⟩
      show (match (S.hp r)[km + 15]? with | some (.list ys) => some ys[k]? | _ => none) = _
      rw [show (S.hp r)[km + 15]? = _ from e7])
    (by
      rintro k x fr h ⟨a, c, rfl, rfl⟩ hx
      rw [List.getElem?_map] at hx
      obtain ⟨p, hp, rfl⟩ := y6 hx
      obtain ⟨⟨q0, q1⟩, q2, q3⟩ := K.mr ps (yI e2) p (yI hp)
      have tb := yX (zq (zQ (z3 (i := 0) (cf := run T n) (fr := [some (.ref 1), some (.int i), some (.int (yH S.st f (ps.take k))), some (.int p.1), some (.int p.2)]) (h := S.hp r) rfl) rfl Wc) (z3 (i := 3) rfl) (J5 (r := r) K q0 q1)) rfl
      refine ⟨[some (.ref 1), some (.int i), some (.int (yH S.st f (ps.take k))), some (.int p.1), some (.int p.2)], [some (.ref 1), some (.int i), some (.int (if fl S.st p.1 then p.2 else yH S.st f (ps.take k))), some (.int p.1), some (.int p.2)], S.hp r, rfl, ?_, some (.int p.1), some (.int p.2), ?_, rfl⟩
      · refine (z5 ?_).trans zC
        cases hf : fl S.st p.1 with
        | true => rw [hf] at tb; exact (zZ tb).trans ((z5 (zW (j := 2) (z3 rfl) (zc rfl))).trans zC)
        | false => rw [hf] at tb; exact (zH tb).trans zC
      · rw [List.take_succ, hp]
        show _ = [_, _, some (AV.int (yH S.st f (ps.take k ++ [p]))), _, _]
        rw [Xo])
    (fr := [some (.ref 1), some (.int i), some (.int f), none, none]) (h := S.hp r) ⟨none, none, rfl, rfl⟩
  rw [List.length_map, List.take_length] at *
  have es : yk (S.hp r) (rf km) = some (.ref (km + 15), ps.length) := by
    show (match (S.hp r)[km + 15]? with | some (.list xs) => some (Src.ref (km + 15), xs.length) | _ => none) = _
    rw [show (S.hp r)[km + 15]? = _ from e7]
    show some (_, (ps.map pr).length) = _
    rw [List.length_map]
  refine zL (fr := [some (.ref 1), some (.int i), none, none, none]) rfl rfl (fr' := [some (.ref 1), some (.int i), some (.int (yH S.st f ps)), a, c]) ?_
  unfold kAq
  dsimp only
  rw [z5 (zW (j := 2) (zq (zQ (z3 rfl) rfl kS5) (z3 rfl) (ZD (l := S.fi) rfl h0 e1 (by rw [K.fi]; exact Nat.le_trans (Nat.le_of_lt K.sl) (by decide)))) (zc rfl))]
  have ei : zR (zD (z4 0) "moved") (z4 1) (run T n) [some (.ref 1), some (.int i), some (.int f), none, none] (S.hp r) = .ok (rf km) (S.hp r) :=
    zq (zQ (z3 rfl) rfl kS6) (z3 rfl) (qD (xs := S.mv.map rf) rfl h0 (by lia) (by rw [List.getElem?_map, e5]; rfl))
  exact (z5 (qp (en := false) ei es e)).trans (zJ (zd (z3 rfl)))
theorem YG (K : Sg S mvs cus) (D : Dy S mvs cus r) {i : Int} (h0 : 0 ≤ i) (h1 : i < S.le.length) :
    ∃ g, run T (n + 1) (.meth "Sheet" "is_shown") [.ref 1, .int i] (S.hp r) = .ok (.bool (S.shw cus i)) (S.hp (r ++ g)) := by
  obtain ⟨f, ps, ds, v, km, kc, e1, e2, e3, e4, e5, e6, e7, e8⟩ := K.at_ D h0 h1
  have hsl := K.sl
  rw [zK X.kAm]
  unfold Sh.shw
  rw [e3, e4]
  show ∃ g, _ = Out.ok (AV.bool (Qm S.st v && !ds.any (fl S.st))) _
  have en := z5 (r := [(sIf (zT .And [(zN (z4 2) [.IsNot] [(z7 .none)]), (yA (zp (zR (zD (z4 0) "standing") (z4 2))))]) (z9 [(zV (z7 (.bool false)))]) (z9 [])), (zV (Qj (zB (zA (some (.bi .any))) [(yh (zR (zD (z4 0) "cutters") (z4 1)) 1 (.one 3) (zT .And []) (zR (zD (z4 0) "standing") (z4 3)))])))]) (zW (okf := okf) (j := 2) (fr := [some (.ref 1), some (.int i), none]) (zq (cf := run T n) (h := S.hp r) (zQ (z3 (i := 0) rfl) rfl kS7) (z3 (i := 1) rfl) (qD (xs := S.br) rfl h0 (by lia) e4)) (zc rfl))
  have et : zT .And [(zN (z4 2) [.IsNot] [(z7 .none)]), (yA (zp (zR (zD (z4 0) "standing") (z4 2))))] (run T n) [some (.ref 1), some (.int i), some v] (S.hp r) = .ok (!Qm S.st v) (S.hp r) := by
    rcases K.bn v (yI e4) with rfl | ⟨d, rfl, d0, d1⟩
    · exact q7 (zX (b := false) (z3 rfl) rfl rfl)
    · have tb := zu (yX (zq (zQ (z3 (i := 0) (cf := run T n) (fr := [some (.ref 1), some (.int i), some (.int d)]) (h := S.hp r) rfl) rfl Wc) (z3 (i := 2) rfl) (J5 (r := r) K d0 d1)) rfl)
      refine qq (zX (b := true) (z3 rfl) rfl rfl) ?_
      show _ = Out.ok (!fl S.st d) _
      cases hf : !fl S.st d with
      | true => rw [hf] at tb; exact qq tb QS
      | false => rw [hf] at tb; exact q7 tb
  cases hb : Qm S.st v with
  | false =>
    rw [hb] at et
    refine ⟨[], ?_⟩
    rw [List.append_nil]
    exact zL (fr := [some (.ref 1), some (.int i), none]) rfl rfl (en.trans (zJ ((zZ et).trans (zJ (zd rfl)))))
  | true =>
    rw [hb] at et
    refine ⟨[.list (ds.map fun d => AV.bool (fl S.st d))], ?_⟩
    have ei : zR (zD (z4 0) "cutters") (z4 1) (run T n) [some (.ref 1), some (.int i), some v] (S.hp r) = .ok (.ref (kc + 15)) (S.hp r) :=
      zq (zQ (z3 rfl) rfl kS8) (z3 rfl) (qD (xs := S.cu.map rf) rfl h0 (by lia) (by rw [List.getElem?_map, e6]; rfl))
    have hds := K.cs ds (yI e3)
    have ec := wR AV.int (own := 1) (i := 3) (test := zT .And []) (elt := zR (zD (z4 0) "standing") (z4 3)) (l := ds) (p := fun _ => true) (f := fun d => AV.bool (fl S.st d)) ei e8 (by show 3 < 4; decide) (Nat.lt_trans (Nat.lt_of_le_of_lt hds K.st) (by decide))
      (fun fr' a1 a2 x hx a3 => rfl)
      (fun fr' a1 a2 x hx a3 => by
        have a0 := a2 0 (by decide)
        obtain ⟨q0, q1⟩ := K.dr ds (yI e3) x hx
        exact zq (zQ (z3 (show fr'[0]? = some (some (.ref 1)) from a0)) rfl Wc) (z3 a3) (J5 (r := r) K q0 q1))
    rw [List.filter_eq_self.mpr (fun _ _ => rfl)] at ec
    have hg : (S.hp (r ++ [.list (ds.map fun d => AV.bool (fl S.st d))]))[r.length + 15]? = some (.list (ds.map fun d => AV.bool (fl S.st d))) := zO r _ []
    have ea := zCp hg (YS (f := fun d => fl S.st d))
    rw [List.any_map] at ea
    refine zL (fr := [some (.ref 1), some (.int i), none]) rfl rfl (fr' := [some (.ref 1), some (.int i), some v]) (en.trans ((z5 ((zH et).trans zC)).trans (zJ (zd ?_))))
    unfold Qj
    rw [xX (ev1 ec ev0) ea]
    rfl
end
theorem ZY {st : List Bool} (ps : List (Int × Int)) : ∀ f, yH st f ps = f ∨ ∃ p ∈ ps, yH st f ps = p.2 := by
  induction ps with
  | nil => intro f; exact .inl rfl
  | cons p ps ih =>
    intro f
    rcases ih (if fl st p.1 then p.2 else f) with h | ⟨q, hq, h⟩
    · have h : yH st f (p :: ps) = if fl st p.1 then p.2 else f := h
      by_cases hp : fl st p.1 = true
      · rw [if_pos hp] at h; exact .inr ⟨p, .head _, h⟩
      · rw [if_neg hp] at h; exact .inl h
    · exact .inr ⟨q, .tail _ hq, h⟩
abbrev Sh.wb (S : Sh) (b : List Bool) : Sh := { S with b := b }
theorem Sg.wb {S : Sh} {mvs : List (List (Int × Int))} {cus : List (List Int)} (K : Sg S mvs cus) {b : List Bool} (h : b.length = S.b.length) : Sg (S.wb b) mvs cus :=
  ⟨K.fi, K.br, K.mv, K.cu, fun x hx => by show 0 ≤ x ∧ x < b.length; rw [h]; exact K.fr x hx, fun ps hp p hq => by show _ ∧ 0 ≤ p.2 ∧ p.2 < b.length; rw [h]; exact K.mr ps hp p hq, K.dr, K.bn, K.ps, K.cs, K.sl, K.st, by show b.length < 200; rw [h]; exact K.sb⟩
theorem Dy.wb {S : Sh} {mvs : List (List (Int × Int))} {cus : List (List Int)} {r : Hp} (D : Dy S mvs cus r) (b : List Bool) : Dy (S.wb b) mvs cus r := ⟨D.ml, D.cl, D.m, D.c, D.nd⟩
section
variable {T : Tab} {okf : Str → Str → Bool} (X : TT T okf) {n : Nat} {S : Sh} {r : Hp} {mvs : List (List (Int × Int))} {cus : List (List Int)}
include X
theorem QQ {fr : AFr} {e1 e2 : XE} {x : Int} {v : Bool} {h : Hp} (h0 : fr[0]? = some (some (.ref 1))) (hh : h[1]? = some (.inst "Sheet" (fS S.hands))) (ev : evs [e1, e2] (run T (n + 3)) fr h = .ok [.int x, .bool v] (S.hp r)) (x0 : 0 ≤ x) (x1 : x < S.b.length) (hb : S.b.length < 200) (h3 : h[3]? = some (.inst "Row" fs)) :
    zG (z6 (zD (z4 0) "row") "take" none [e1, e2]) (run T (n + 3)) fr h = .ok .next fr ((S.wb (S.b.set x.toNat v)).hp r) :=
  zU (zF (a := 3) (zQ (z3 h0) hh kS2) h3 WA ev (z2l X (n := n) (o0 := S.g0) (o1 := .inst "Sheet" (fS S.hands)) (o2 := S.g2) (r := S.tl r) x0 x1 (Nat.le_trans (Nat.le_of_lt hb) (by decide))))
theorem Jd {i : Int} {ps : List (Int × Int)} {km q : Nat} {a3 a4 : Option AV} (hp : ∀ p ∈ ps, 0 ≤ p.2 ∧ p.2 < S.b.length) (hb : S.b.length < 200) (e7 : r[km]? = some (AO.list (ps.map pr))) :
    ∃ b3 b4, xT (.many [3, 4]) (z9 [(zG (z6 (zD (z4 0) "row") "take" none [(z4 4), (z7 (.bool false))]))]) (.ref (km + 15)) (ps.length + 1) 0 (run T (n + 3)) [some (.ref 1), some (.ref q), some (.int i), a3, a4] (S.hp r) =
      .ok .next [some (.ref 1), some (.ref q), some (.int i), b3, b4] ((S.wb (w9 S.b (ps.map (·.2)))).hp r) := by
  obtain ⟨fr', h', e, b3, b4, rfl, rfl⟩ := xB (t := .many [3, 4]) (src := .ref (km + 15)) (cf := run T (n + 3)) (xs := ps.map pr)
    (body := z9 [(zG (z6 (zD (z4 0) "row") "take" none [(z4 4), (z7 (.bool false))]))])
    (fun k fr h => ∃ b3 b4, fr = [some (.ref 1), some (.ref q), some (.int i), b3, b4] ∧ h = (S.wb (w9 S.b ((ps.take k).map (·.2)))).hp r)
    (by
      rintro k fr h ⟨a, c, rfl, rfl⟩
      show (match r[km]? with | some (.list ys) => some ys[k]? | _ => none) = _
      rw [e7])
    (by
      rintro k x fr h ⟨a, c, rfl, rfl⟩ hx
      rw [List.getElem?_map] at hx
      obtain ⟨p, hpk, rfl⟩ := y6 hx
      obtain ⟨q2, q3⟩ := hp p (yI hpk)
      have hl : (w9 S.b ((ps.take k).map (·.2))).length = S.b.length := w8 _ _
      refine ⟨[some (.ref 1), some (.ref q), some (.int i), some (.int p.1), some (.int p.2)], _, _, rfl, (z5 (QQ X (S := S.wb (w9 S.b ((ps.take k).map (·.2)))) (r := r) rfl rfl (ev1 (z3 rfl) (ev1 rfl ev0)) q2 (by rw [hl]; exact q3) (by rw [hl]; exact hb) rfl)).trans zC, _, _, rfl, ?_⟩
      rw [List.take_succ, hpk]
      show _ = (S.wb (w9 S.b ((ps.take k ++ [p]).map (·.2)))).hp r
      rw [List.map_append]
      show _ = (S.wb (List.foldl _ _ (_ ++ _))).hp r
      rw [List.foldl_append]
      rfl)
    (fr := [some (.ref 1), some (.ref q), some (.int i), a3, a4]) (h := S.hp r) ⟨a3, a4, rfl, rfl⟩
  rw [List.length_map, List.take_length] at e
  exact ⟨b3, b4, e⟩
theorem W1 (K : Sg S mvs cus) (D : Dy S mvs cus r) {is : List Int} {q : Nat} (hq : r[q]? = some (AO.list (is.map AV.int))) (hi : ∀ i ∈ is, 0 ≤ i ∧ i < S.le.length) :
    ∃ g, run T (n + 4) (.meth "Sheet" "seated") [.ref 1, .ref (q + 15)] (S.hp r) = .ok .none ((S.wb (yW S mvs cus S.b is)).hp (r ++ g)) := by
  have hsl := K.sl
  have hsb := K.sb
  rw [zK X.kAs]
  obtain ⟨fr', h', e, g, b2, b3, b4, rfl, rfl⟩ := xB (t := .one 2) (src := .ref (q + 15)) (cf := run T (n + 3)) (xs := is.map AV.int)
    (body := (z9 [(zG (z6 (zD (z4 0) "row") "take" none [(zR (zD (z4 0) "firsts") (z4 2)), (z7 (.bool false))])), (xQ (.many [3, 4]) (zR (zD (z4 0) "moved") (z4 2)) false (z9 [(zG (z6 (zD (z4 0) "row") "take" none [(z4 4), (z7 (.bool false))]))])), (sIf (zp (z6 (z4 0) "is_shown" none [(z4 2)])) (z9 [(zG (z6 (zD (z4 0) "row") "take" none [(z6 (z4 0) "seat_of" none [(z4 2)]), (z7 (.bool true))]))]) (z9 []))]))
    (fun k fr h => ∃ g b2 b3 b4, fr = [some (.ref 1), some (.ref (q + 15)), b2, b3, b4] ∧ h = (S.wb (yW S mvs cus S.b (is.take k))).hp (r ++ g))
    (by
      rintro k fr h ⟨g, a, c, d, rfl, rfl⟩
      show (match (r ++ g)[q]? with | some (.list ys) => some ys[k]? | _ => none) = _
      rw [zE hq])
    (by
      rintro k x fr h ⟨g, a2, a3, a4, rfl, rfl⟩ hx
      rw [List.getElem?_map] at hx
      obtain ⟨i, hik, rfl⟩ := y6 hx
      obtain ⟨i0, i1⟩ := hi i (yI hik)
      generalize hb' : yW S mvs cus S.b (is.take k) = b'
      have hl' : b'.length = S.b.length := by rw [← hb']; exact xW _ _
      obtain ⟨f, ps, ds, v, km, kc, e1, e2, e3, e4, e5, e6, e7, e8⟩ := K.at_ (D.grow g) i0 i1
      obtain ⟨f0, f1⟩ := K.fr f (yI e1)
      have hps : ∀ p ∈ ps, 0 ≤ p.2 ∧ p.2 < S.b.length := fun p hp => (K.mr ps (yI e2) p hp).2
      have s1 := QQ X (n := n) (S := S.wb b') (r := r ++ g) (fr := [some (.ref 1), some (.ref (q + 15)), some (.int i), a3, a4]) (e1 := zR (zD (z4 0) "firsts") (z4 2)) (e2 := z7 (.bool false)) (x := f) (v := false) (h := (S.wb b').hp (r ++ g)) rfl rfl
        (ev1 (zq (zQ (z3 rfl) rfl kS5) (z3 rfl) (ZD (l := S.fi) rfl i0 e1 (by rw [K.fi]; exact Nat.le_trans (Nat.le_of_lt K.sl) (by decide)))) (ev1 rfl ev0)) f0 (by show f < b'.length; rw [hl']; exact f1) (by show b'.length < 200; rw [hl']; exact hsb) rfl
      have hl2 : (b'.set f.toNat false).length = S.b.length := List.length_set.trans hl'
      obtain ⟨b3, b4, lp⟩ := Jd X (n := n) (S := S.wb (b'.set f.toNat false)) (r := r ++ g) (i := i) (q := q + 15) (a3 := a3) (a4 := a4) (fun p hp => by show _ ∧ p.2 < (b'.set f.toNat false).length; rw [hl2]; exact hps p hp) (by show (b'.set f.toNat false).length < 200; rw [hl2]; exact hsb) e7
      have ei : zR (zD (z4 0) "moved") (z4 2) (run T (n + 3)) [some (.ref 1), some (.ref (q + 15)), some (.int i), a3, a4] ((S.wb (b'.set f.toNat false)).hp (r ++ g)) = .ok (rf km) ((S.wb (b'.set f.toNat false)).hp (r ++ g)) :=
        zq (zQ (z3 rfl) rfl kS6) (z3 rfl) (qD (xs := S.mv.map rf) rfl i0 (by lia) (by rw [List.getElem?_map, e5]; rfl))
      have es : yk ((S.wb (b'.set f.toNat false)).hp (r ++ g)) (rf km) = some (.ref (km + 15), ps.length) := by
        show (match (r ++ g)[km]? with | some (.list xs) => some (Src.ref (km + 15), xs.length) | _ => none) = _
        rw [e7]
        show some (_, (ps.map pr).length) = _
        rw [List.length_map]
      have s2 := qp (en := false) ei es lp
      generalize hb3 : w9 (b'.set f.toNat false) (ps.map (·.2)) = bb at lp s2
      have hl3 : bb.length = S.b.length := by rw [← hb3]; exact (w8 _ _).trans hl2
      obtain ⟨g', sh⟩ := YG X (n := n + 2) (K.wb hl3) ((D.grow g).wb bb) i0 i1
      have st : zp (z6 (z4 0) "is_shown" none [(z4 2)]) (run T (n + 3)) [some (.ref 1), some (.ref (q + 15)), some (.int i), b3, b4] ((S.wb bb).hp (r ++ g)) = .ok (S.shw cus i) ((S.wb bb).hp ((r ++ g) ++ g')) :=
        yX (zF (a := 1) (z3 rfl) rfl jm (ev1 (z3 rfl) ev0) sh) rfl
      have fin : is.take (k + 1) = is.take k ++ [i] := by rw [List.take_succ, hik]; rfl
      have sB : yW S mvs cus S.b (is.take (k + 1)) = bif S.shw cus i then bb.set (S.cur mvs i).toNat true else bb := by
        rw [fin]
        show List.foldl _ _ (_ ++ _) = _
        rw [List.foldl_append]
        show jh S mvs cus (yW S mvs cus S.b (is.take k)) i = _
        rw [hb']
        unfold jh
        rw [e1, e2]
        show (bif _ then (w9 (b'.set f.toNat false) (ps.map (·.2))).set _ _ else w9 (b'.set f.toNat false) (ps.map (·.2))) = _
        rw [hb3]
      refine ⟨[some (.ref 1), some (.ref (q + 15)), some (.int i), a3, a4], [some (.ref 1), some (.ref (q + 15)), some (.int i), b3, b4], (S.wb (bif S.shw cus i then bb.set (S.cur mvs i).toNat true else bb)).hp ((r ++ g) ++ g'), rfl, ?_, g ++ g', _, _, _, rfl, ?_⟩
      · rw [z5 s1, z5 s2]
        cases hc : S.shw cus i with
        | true =>
          rw [hc] at st
          have so := j4 X (n := n + 2) (K.wb hl3) (((D.grow g).grow g').wb bb) i0 i1
          have lo : 0 ≤ S.cur mvs i ∧ S.cur mvs i < S.b.length := by
            unfold Sh.cur
            rw [e1, e2]
            rcases ZY (st := S.st) ps f with h | ⟨p, hp, h⟩
            · show 0 ≤ yH S.st f ps ∧ yH S.st f ps < S.b.length; rw [h]; exact ⟨f0, f1⟩
            · show 0 ≤ yH S.st f ps ∧ yH S.st f ps < S.b.length; rw [h]; exact hps p hp
          exact (z5 ((zZ st).trans ((z5 (QQ X (n := n) (S := S.wb bb) (r := (r ++ g) ++ g') rfl rfl (ev1 (zF (a := 1) (z3 rfl) rfl qh (ev1 (z3 rfl) ev0) so) (ev1 rfl ev0)) lo.1 (by show _ < (bb.length : Int); rw [hl3]; exact lo.2) (by show bb.length < 200; rw [hl3]; exact hsb) rfl)).trans zC))).trans zC
        | false =>
          rw [hc] at st
          exact (z5 ((zH st).trans zC)).trans zC
      · rw [sB, List.append_assoc])
    (fr := [some (.ref 1), some (.ref (q + 15)), none, none, none]) (h := S.hp r) ⟨[], none, none, none, rfl, by rw [List.append_nil]; rfl⟩
  rw [List.length_map, List.take_length] at e
  refine ⟨g, zt (fr := [some (.ref 1), some (.ref (q + 15)), none, none, none]) rfl rfl (fr' := [some (.ref 1), some (.ref (q + 15)), b2, b3, b4]) ?_⟩
  unfold kAs
  dsimp only
  have es : yk (S.hp r) (.ref (q + 15)) = some (.ref (q + 15), is.length) := by
    show (match r[q]? with | some (.list xs) => some (Src.ref (q + 15), xs.length) | _ => none) = _
    rw [hq]
    show some (_, (is.map AV.int).length) = _
    rw [List.length_map]
  exact (z5 (qp (en := false) (x := z4 1) (z3 rfl) es e)).trans zC
end
theorem zC4 {cf : CF} {fr : AFr} {h h1 : Hp} {x y : XE} {res : Out AV} (e : x cf fr h = .ok (.bool true) h1) (e' : y cf fr h1 = res) : jM .And [x, y] cf fr h = res := by rw [Qk, e]; exact e'
def LET : Str := " !\"#$&'()*+,-./0123456789:;<=>?@ABCDEFGHIJKLMNOPQRSTUVWXYZ[\\]^_`abcdefghijklmnopqrstuvwxyz{|}~\n"
def okT (cs : List Nat) : Prop := ∀ c ∈ cs, c ∈ LET.cps.toList
theorem z1v : LET.cps.toList.all (fun c => Txt.contains LET ⟨#[c]⟩ && decide (c < 1114112)) = true := by decide +kernel
theorem Jt {c : Nat} (h : c ∈ LET.cps.toList) : Txt.contains LET ⟨#[c]⟩ = true ∧ c < 1114112 := by
  have := List.all_eq_true.mp z1v c h
  exact ⟨(Bool.and_eq_true_iff.mp this).1, of_decide_eq_true (Bool.and_eq_true_iff.mp this).2⟩
theorem kB1 {cs : List Nat} (h : okT cs) : PyData.strOk (tx cs) = true := by
  unfold PyData.strOk
  rw [Array.all_eq_true_iff_forall_mem]
  intro x hx
  exact decide_eq_true (Jt (h x (by simpa using hx))).2
section
variable {T : Tab} {okf : Str → Str → Bool} (X : TT T okf) {n : Nat} {S : Sh} {r : Hp} {mvs : List (List (Int × Int))} {cus : List (List Int)}
include X
theorem Xq {cs : List Nat} (h : okT cs) (hl : cs.length ≤ 200) {hp : Hp} : run T (n + 1) (.fn "is_text") [.str (tx cs)] hp = .ok (.bool true) (hp ++ [.list (cs.map fun _ => AV.bool true)]) := by
  rw [yy X.kBz]
  have ec := YR ch (it := z4 0) (own := 1) (i := 1) (v := .str (tx cs)) (test := zT .And []) (elt := Zn (z4 1) [.In] [zA (some (.str LET))]) (cf := run T n) (fr := [some (.str (tx cs))]) (h := hp) (h1 := hp) (l := cs) (p := fun _ => true) (f := fun _ => AV.bool true) rfl rfl (zc rfl) (Nat.lt_of_le_of_lt hl (by decide))
    (fun fr' a1 a2 x hx a3 => rfl)
    (fun fr' a1 a2 x hx a3 => by
      unfold Zn
      rw [zX (b := true) (z3 a3) rfl (by rw [zCk, (Jt (h x hx)).1])]
      rfl)
  rw [List.filter_eq_self.mpr (fun _ _ => rfl)] at ec
  have hg : (hp ++ [.list (cs.map fun _ => AV.bool true)])[hp.length]? = some (AO.list (cs.map fun _ => AV.bool true)) := zO hp _ []
  have ea := zCq hg (YS (f := fun _ => true))
  have hb : (cs.map fun _ => true).all id = true := List.all_eq_true.mpr fun x hx => by obtain ⟨_, _, rfl⟩ := List.mem_map.mp hx; rfl
  rw [hb] at ea
  refine zL (fr := [some (.str (tx cs))]) rfl rfl (fr' := [some (.str (tx cs))]) (zJ (zd ?_))
  exact zC4 (xX (h2 := hp) (vs := [.str (tx cs), .bi .str]) (ev1 (z3 rfl) (ev1 rfl ev0)) (zCo (v := .str (tx cs)))) (xX (ev1 ec ev0) ea)
theorem QV (K : Sg S mvs cus) (D : Dy S mvs cus r) {is : List Int} {q : Nat} {hd wd : AV} (hq : r[q]? = some (AO.list (is.map AV.int))) (hi : ∀ i ∈ is, 0 ≤ i ∧ i < S.le.length) (hn : S.dn.length < 200) :
    ∃ g, run T (n + 5) (.meth "Sheet" "noted") [.ref 1, hd, wd, .ref (q + 15)] (S.hp r) = .ok (.int S.dn.length) (({ S with b := yW S mvs cus S.b is, dn := S.dn ++ [.tup [hd, wd, .ref (q + 15)]] } : Sh).hp (r ++ g)) := by
  rw [zK X.kA2]
  let S1 : Sh := { S with dn := S.dn ++ [.tup [hd, wd, .ref (q + 15)]] }
  have K1 : Sg S1 mvs cus := ⟨K.fi, K.br, K.mv, K.cu, K.fr, K.mr, K.dr, K.bn, K.ps, K.cs, K.sl, K.st, K.sb⟩
  have D1 : Dy S1 mvs cus r := ⟨D.ml, D.cl, D.m, D.c, D.nd⟩
  obtain ⟨g, e⟩ := W1 X (n := n) K1 D1 hq hi
  refine ⟨g, zL (fr := [some (.ref 1), some hd, some wd, some (.ref (q + 15))]) rfl rfl (fr' := [some (.ref 1), some hd, some wd, some (.ref (q + 15))]) ?_⟩
  unfold kA2
  dsimp only
  rw [z5 (wW (a := 12) (zs := S.dn ++ [.tup [hd, wd, .ref (q + 15)]]) rfl rfl kS9 rfl (xS (ev1 (z3 rfl) (ev1 (z3 rfl) (ev1 (z3 rfl) ev0)))) rfl (Nat.lt_trans hn (by decide)) rfl)]
  show z9 _ _ _ (S1.hp r) = _
  rw [z5 (zU (zF (a := 1) (z3 rfl) rfl YD (ev1 (z3 rfl) ev0) e))]
  refine zJ (zd (zf (qf (a := 12) (ys := S.dn ++ [.tup [hd, wd, .ref (q + 15)]]) rfl rfl kS9 rfl (zP)) rfl ?_))
  rw [jN]
  show Out.ok (AV.int (((S.dn.length + 1 : Nat) : Int) - 1)) _ = _
  rw [show ((S.dn.length + 1 : Nat) : Int) - 1 = S.dn.length by lia]
  rfl
end
theorem QJ {l : List Int} {x : Int} {j : Nat} (h : l.findIdx? (· == x) = some j) : l = l.take j ++ x :: l.drop (j + 1) := by
  obtain ⟨hj, h1, _⟩ := List.findIdx?_eq_some_iff_getElem.mp h
  have : l[j] = x := by simpa using h1
  conv => lhs; rw [← List.take_append_drop j l, List.drop_eq_getElem_cons hj, this]
theorem Yb {l : List Int} (nd : l.Nodup) {f : Int → Bool} {k j : Nat} {x : Int} (hx : (l.filter f)[k]? = some x) (hj : l.findIdx? (· == x) = some j) :
    (l.take (j + 1)).filter f = (l.filter f).take (k + 1) ∧ (l.drop (j + 1)).filter f = (l.filter f).drop (k + 1) := by
  have hs := QJ hj
  have hjl := (List.findIdx?_eq_some_iff_getElem.mp hj).1
  have fx : f x = true := (List.mem_filter.mp (yI hx)).2
  have ht : l.take (j + 1) = l.take j ++ [x] := by
    rw [List.take_succ, y9 hjl]
    have : l[j] = x := by simpa using (List.findIdx?_eq_some_iff_getElem.mp hj).2.1
    rw [this]; rfl
  have e : l.filter f = (l.take j).filter f ++ x :: (l.drop (j + 1)).filter f := by
    conv => lhs; rw [hs]
    rw [List.filter_append, List.filter_cons, if_pos fx]
  have hk : ((l.take j).filter f).length = k := by
    have nd2 : (l.filter f).Nodup := nd.filter f
    have h1 : (l.filter f)[((l.take j).filter f).length]? = some x := by rw [e]; exact zO _ _ _
    have lt1 := (y8 h1).1
    have lt2 := (y8 hx).1
    exact (List.getElem?_inj lt1 nd2).mp (h1.trans hx.symm)
  have lt : ((l.take j).filter f ++ [x]).length = k + 1 := by rw [zP, hk]; rfl
  constructor
  · rw [ht, List.filter_append, e, List.filter_cons, if_pos fx, List.filter_nil]
    conv => rhs; rw [show (l.take j).filter f ++ x :: (l.drop (j + 1)).filter f = ((l.take j).filter f ++ [x]) ++ (l.drop (j + 1)).filter f by rw [List.append_assoc]; rfl]
    rw [List.take_left' lt]
  · rw [e, show (l.take j).filter f ++ x :: (l.drop (j + 1)).filter f = ((l.take j).filter f ++ [x]) ++ (l.drop (j + 1)).filter f by rw [List.append_assoc]; rfl, List.drop_left' lt]
theorem Good.nodup {l : List Int} {b : List Bool} (G : Good l b) : l.Nodup := by
  refine G.perm.nodup_iff.mpr ?_
  rw [List.nodup_iff_pairwise_ne, List.pairwise_map]
  exact List.Pairwise.imp (fun h => by lia) List.pairwise_lt_range
theorem J4 {l : List Bool} : (l ++ [true]).length = l.length + 1 := zP
theorem jg {l : List Bool} : (l.length : Int) < ((l ++ [true]).length : Nat) := by rw [J4]; exact Int.ofNat_lt.mpr (Nat.lt_succ_self _)
abbrev Sh.ws (S : Sh) (st : List Bool) : Sh := { S with st := st }
theorem Sg.ws {S : Sh} {mvs : List (List (Int × Int))} {cus : List (List Int)} (K : Sg S mvs cus) {st : List Bool} (h : S.st.length ≤ st.length) (hs : st.length < 200) : Sg (S.ws st) mvs cus :=
  have up : ∀ {x : Int}, x < S.st.length → x < st.length := fun q => Int.lt_of_lt_of_le q (Int.ofNat_le.mpr h)
  ⟨K.fi, K.br, K.mv, K.cu, K.fr, fun ps hp p hq => ⟨⟨(K.mr ps hp p hq).1.1, up (K.mr ps hp p hq).1.2⟩, (K.mr ps hp p hq).2⟩, fun ds hd d hq => ⟨(K.dr ds hd d hq).1, up (K.dr ds hd d hq).2⟩,
    fun v hv => (K.bn v hv).imp id fun ⟨d, h, a, c⟩ => ⟨d, h, a, up c⟩, fun ps hp => Nat.le_trans (K.ps ps hp) h, fun ps hp => Nat.le_trans (K.cs ps hp) h, K.sl, hs, K.sb⟩
theorem Sg.adds {S : Sh} {mvs : List (List (Int × Int))} {cus : List (List Int)} (K : Sg S mvs cus) {i q : Nat} {d : Int} {cs : List Nat} (hd : 0 ≤ d ∧ d < S.st.length) (hb : S.b.length + cs.length < 200) (he : S.le.length + cs.length < 200) :
    Sg (S.adds i (.int d) q cs) (mvs ++ List.replicate cs.length []) (cus ++ List.replicate cs.length []) := by
  have lb : (S.adds i (.int d) q cs).b.length = S.b.length + cs.length := by show (S.b ++ List.replicate cs.length true).length = _; rw [zP, List.length_replicate]
  have ll : (S.adds i (.int d) q cs).le.length = S.le.length + cs.length := zP
  refine ⟨?_, ?_, ?_, ?_, fun x hx => ?_, fun ps hp p hq => ?_, fun ds hp p hq => ?_, fun v hv => ?_, fun ps hp => ?_, fun ps hp => ?_, by rw [ll]; exact he, K.st, by rw [lb]; exact hb⟩
  · rw [ll]; show (S.fi ++ ze S.b.length cs.length).length = _; rw [zP, yY, K.fi]
  · rw [ll]; show (S.br ++ List.replicate cs.length _).length = _; rw [zP, List.length_replicate, K.br]
  · rw [ll, zP, List.length_replicate, K.mv]
  · rw [ll, zP, List.length_replicate, K.cu]
  · rw [lb]
    rcases xa hx with h | h
    · exact ⟨(K.fr x h).1, XD _ (K.fr x h).2⟩
    · exact ⟨Int.le_trans (Int.natCast_nonneg _) (yg h).1, (yg h).2⟩
  · rw [lb]
    rcases xa hp with h | h
    · obtain ⟨a, c, e⟩ := K.mr ps h p hq; exact ⟨a, c, XD _ e⟩
    · rw [(List.mem_replicate.mp h).2] at hq; cases hq
  · rcases xa hp with h | h
    · exact K.dr ds h p hq
    · rw [(List.mem_replicate.mp h).2] at hq; cases hq
  · rcases xa hv with h | h
    · exact K.bn v h
    · exact .inr ⟨d, (List.mem_replicate.mp h).2, hd⟩
  · rcases xa hp with h | h
    · exact K.ps ps h
    · rw [(List.mem_replicate.mp h).2]; exact Nat.zero_le _
  · rcases xa hp with h | h
    · exact K.cs ps h
    · rw [(List.mem_replicate.mp h).2]; exact Nat.zero_le _
theorem jU {α : Type} {p : Prop} [Decidable p] {x y : α} (e : (if p then some x else none) = some y) : p ∧ x = y := by
  by_cases h : p
  · rw [if_pos h] at e; exact ⟨h, Option.some.inj e⟩
  · rw [if_neg h] at e; cases e
theorem jJ {α : Type} {a c : List α} {i : Nat} {x : α} (h : (a ++ c)[i]? = some x) : (i < a.length ∧ a[i]? = some x) ∨ (a.length ≤ i ∧ c[i - a.length]? = some x) := by
  by_cases hi : i < a.length
  · rw [List.getElem?_append_left hi] at h; exact .inl ⟨hi, h⟩
  · rw [List.getElem?_append_right (by lia)] at h; exact .inr ⟨by lia, h⟩
theorem Dy.lt {S : Sh} {mvs : List (List (Int × Int))} {cus : List (List Int)} {r : Hp} (D : Dy S mvs cus r) : ∀ k ∈ S.mv ++ S.cu, k < r.length := by
  intro k hk
  rcases xa hk with h | h
  · obtain ⟨i, hi, rfl⟩ := List.getElem_of_mem h
    have e := y9 hi
    have h2 : i < mvs.length := by rw [← D.ml]; exact hi
    exact (y8 (D.m i _ _ e (y9 h2))).1
  · obtain ⟨i, hi, rfl⟩ := List.getElem_of_mem h
    have e := y9 hi
    have h2 : i < cus.length := by rw [← D.cl]; exact hi
    exact (y8 (D.c i _ _ e (y9 h2))).1
theorem Dy.adds {S : Sh} {mvs : List (List (Int × Int))} {cus : List (List Int)} {r : Hp} (D : Dy S mvs cus r) {i : Nat} {d : AV} {cs : List Nat} {o : AO} :
    Dy (S.adds i d (r.length + 1) cs) (mvs ++ List.replicate cs.length []) (cus ++ List.replicate cs.length []) (r ++ o :: List.replicate (2 * cs.length) (.list [])) := by
  have nw : ∀ k, k < 2 * cs.length → (r ++ o :: List.replicate (2 * cs.length) (AO.list []))[r.length + 1 + k]? = some (.list []) := fun k hk => by
    rw [Nat.add_assoc, xJ, Nat.add_comm 1 k, List.getElem?_cons_succ, List.getElem?_replicate, if_pos hk]
  refine ⟨?_, ?_, fun j k ps h1 h2 => ?_, fun j k ds h1 h2 => ?_, ?_⟩
  · show (S.mv ++ _).length = _; rw [zP, zP, List.length_map, List.length_range, List.length_replicate, D.ml]
  · show (S.cu ++ _).length = _; rw [zP, zP, List.length_map, List.length_range, List.length_replicate, D.cl]
  · rcases jJ h1 with ⟨a1, a2⟩ | ⟨a1, a2⟩
    · rw [List.getElem?_append_left (by rw [← D.ml]; exact a1)] at h2
      exact zE (D.m j k ps a2 h2)
    · rw [List.getElem?_append_right (by rw [← D.ml]; exact a1), List.getElem?_replicate] at h2
      rw [List.getElem?_map] at a2
      obtain ⟨m, hm, rfl⟩ := y6 a2
      have hlt := (y8 hm).1
      rw [List.length_range] at hlt
      rw [List.getElem?_range hlt] at hm
      cases hm
      obtain ⟨_, rfl⟩ := jU h2
      exact nw _ (Nat.mul_lt_mul_of_pos_left hlt (by decide))
  · rcases jJ h1 with ⟨a1, a2⟩ | ⟨a1, a2⟩
    · rw [List.getElem?_append_left (by rw [← D.cl]; exact a1)] at h2
      exact zE (D.c j k ds a2 h2)
    · rw [List.getElem?_append_right (by rw [← D.cl]; exact a1), List.getElem?_replicate] at h2
      rw [List.getElem?_map] at a2
      obtain ⟨m, hm, rfl⟩ := y6 a2
      have hlt := (y8 hm).1
      rw [List.length_range] at hlt
      rw [List.getElem?_range hlt] at hm
      cases hm
      obtain ⟨_, rfl⟩ := jU h2
      rw [Nat.add_assoc (r.length + 1)]
      exact nw _ (Nat.lt_of_lt_of_le (Nat.lt_succ_self _) (Nat.mul_le_mul_left 2 hlt))
  · show ((S.mv ++ (List.range cs.length).map fun j => r.length + 1 + 2 * j) ++ (S.cu ++ (List.range cs.length).map fun j => r.length + 1 + 2 * j + 1)).Nodup
    have lt := D.lt
    have nd := D.nd
    rw [List.nodup_append] at nd ⊢
    obtain ⟨n1, n2, n3⟩ := nd
    have big1 : ∀ x ∈ (List.range cs.length).map (fun j => r.length + 1 + 2 * j), r.length < x ∧ (x - r.length) % 2 = 1 := fun x hx => by
      obtain ⟨j, _, rfl⟩ := List.mem_map.mp hx; lia
    have big2 : ∀ x ∈ (List.range cs.length).map (fun j => r.length + 1 + 2 * j + 1), r.length < x ∧ (x - r.length) % 2 = 0 := fun x hx => by
      obtain ⟨j, _, rfl⟩ := List.mem_map.mp hx; lia
    have nr1 : ((List.range cs.length).map (fun j => r.length + 1 + 2 * j)).Nodup := by
      rw [List.nodup_iff_pairwise_ne, List.pairwise_map]; exact List.Pairwise.imp (fun h => Nat.ne_of_lt (by first | exact Nat.add_lt_add_left (Nat.mul_lt_mul_of_pos_left h (by decide)) _ | exact Nat.succ_lt_succ (Nat.add_lt_add_left (Nat.mul_lt_mul_of_pos_left h (by decide)) _))) List.pairwise_lt_range
    have nr2 : ((List.range cs.length).map (fun j => r.length + 1 + 2 * j + 1)).Nodup := by
      rw [List.nodup_iff_pairwise_ne, List.pairwise_map]; exact List.Pairwise.imp (fun h => Nat.ne_of_lt (by first | exact Nat.add_lt_add_left (Nat.mul_lt_mul_of_pos_left h (by decide)) _ | exact Nat.succ_lt_succ (Nat.add_lt_add_left (Nat.mul_lt_mul_of_pos_left h (by decide)) _))) List.pairwise_lt_range
    refine ⟨List.nodup_append.mpr ⟨n1, nr1, fun x hx y hy e => ?_⟩, List.nodup_append.mpr ⟨n2, nr2, fun x hx y hy e => ?_⟩, fun x hx y hy e => ?_⟩
    · exact absurd (e ▸ lt x (List.mem_append_left _ hx)) (Nat.lt_asymm (big1 y hy).1)
    · exact absurd (e ▸ lt x (List.mem_append_right _ hx)) (Nat.lt_asymm (big2 y hy).1)
    · subst e
      rcases xa hx with hx | hx <;> rcases xa hy with hy | hy
      · exact n3 x hx x hy rfl
      · exact absurd (lt x (List.mem_append_left _ hx)) (Nat.lt_asymm (big2 x hy).1)
      · exact absurd (lt x (List.mem_append_right _ hy)) (Nat.lt_asymm (big1 x hx).1)
      · exact absurd ((big1 x hx).2.symm.trans (big2 x hy).2) (by decide)
section
variable {T : Tab} {okf : Str → Str → Bool} (X : TT T okf) {n : Nat} {S : Sh} {r : Hp} {mvs : List (List (Int × Int))} {cus : List (List Int)}
include X
theorem z0r (G : Good S.l S.b) {p : Int} (h0 : 0 ≤ p) (h1 : p ≤ (tk S.b S.l).length) :
    ∃ g bh i, run T (n + 4) (.meth "Sheet" "seat_ahead") [.ref 1, .int p] (S.hp r) = .ok bh (S.hp (r ++ g)) ∧ At S.l S.b bh i ∧ tk S.b (S.l.take i) = (tk S.b S.l).take p.toNat ∧ tk S.b (S.l.drop i) = (tk S.b S.l).drop p.toNat := by
  by_cases hp : p = 0
  · subst hp
    exact ⟨[], .none, 0, by rw [List.append_nil]; exact Yk X (n := n + 3), .inl ⟨rfl, rfl⟩, rfl, rfl⟩
  · obtain ⟨g, e⟩ := XX X (n := n) (r := r) (p := p) (by lia) h1 G
    have hk : (p - 1).toNat < (tk S.b S.l).length := by lia
    have ex := y9 hk
    rw [ex] at e
    have hm : (tk S.b S.l)[(p - 1).toNat] ∈ S.l := (List.mem_filter.mp (List.getElem_mem hk)).1
    obtain ⟨x0, x1⟩ := G.rng _ hm
    obtain ⟨j, hj, _⟩ := G.idx x0 x1
    obtain ⟨s1, s2⟩ := Yb G.nodup ex hj
    rw [show (p - 1).toNat + 1 = p.toNat by lia] at s1 s2
    exact ⟨g, _, j + 1, e, .inr ⟨_, j, rfl, x0, x1, hj, rfl⟩, s1, s2⟩
end
theorem Qv {h : Hp} {x : Str} (e : PyData.strOk x = true) : toD h 8 (.str x) = some (.str x) := by
  show (if PyData.strOk x then some (PyData.str x) else none) = _
  rw [if_pos e]
theorem wS {h : Hp} {x y : Str} (e : PyData.strOk x = true) (e' : PyData.strOk y = true) : aEq h (.str x) (.str y) = some (x == y) := XF (Qv e) (Qv e')
theorem WP : PyData.strOk ("" : Str) = true := by decide +kernel
theorem zBt {a c : List Nat} (h : tx a = tx c) : a = c := congrArg (fun s : Str => s.cps.toList) h
theorem zCt {cs : List Nat} (h : cs ≠ []) : (tx cs == ("" : Str)) = false := beq_eq_false_iff_ne.mpr fun e => h (zBt (c := []) e)
theorem Ok1.sz {S : Sh} {mvs : List (List (Int × Int))} {cus : List (List Int)} {r : Hp} (O : Ok1 S) (K : Sg S mvs cus) (D : Dy S mvs cus r) : Sz S 500 := by
  have h1 := O.G.len
  have h2 := O.G.sm
  have h3 := K.sl
  exact ⟨by lia, by lia, by rw [O.ow]; lia, by lia, by rw [K.fi]; lia, by rw [D.ml, K.mv]; lia, by rw [K.br]; lia, by rw [D.cl, K.cu]; lia⟩
def Kp (S : Sh) (r r' : Hp) : Prop := ∀ (q : Nat) (o : AO), q ∉ S.mv → q ∉ S.cu → r[q]? = some o → r'[q]? = some o
abbrev Sh.s1 (S : Sh) : Sh := { S with st := S.st ++ [true] }
theorem QM {S : Sh} : S.s1.st.length = S.st.length + 1 := J4
section
variable {T : Tab} {okf : Str → Str → Bool} (X : TT T okf) {n : Nat} {S : Sh} {r : Hp} {mvs : List (List (Int × Int))} {cus : List (List Int)}
theorem Sg.st1 (K : Sg S mvs cus) (h : S.s1.st.length < 200) : Sg S.s1 mvs cus := K.ws (Nat.le_of_lt (Int.ofNat_lt.mp jg)) h
include X
theorem QI {fr : AFr} (h0 : fr[0]? = some (some (.ref 1))) (hs : S.st.length < 200) : zG (z6 (zD (z4 0) "standing") "append" (some .append) [(z7 (.bool true))]) (run T n) fr (S.hp r) = .ok .next fr (S.s1.hp r) :=
  wW (h := S.hp r) (h1 := S.hp r) (v := .bool true) (a := 13) (ys := S.st.map AV.bool) (zs := (S.st ++ [true]).map AV.bool) h0 rfl Wc rfl rfl rfl (by rw [List.length_map]; exact Nat.lt_trans hs (by decide)) (xI AV.bool S.st true)
theorem zEk (O : Ok1 S) (K : Sg S mvs cus) (D : Dy S mvs cus r) (hst : S.st.length = S.dn.length) {hd p : Int} {cs : List Nat} (d0 : 0 ≤ hd) (d1 : hd < S.hands) (p0 : 0 ≤ p) (p1 : p ≤ (tk S.b S.l).length) (ok : okT cs) (ne : cs ≠ []) (hc : cs.length ≤ 100)
    (hb : S.b.length + cs.length < 200) (he : S.le.length + cs.length < 200) (hs : S.s1.st.length < 200) :
    ∃ r' i q x, tk S.b (S.l.take i) = (tk S.b S.l).take p.toNat ∧ tk S.b (S.l.drop i) = (tk S.b S.l).drop p.toNat ∧ i ≤ S.l.length ∧
      run T (n + 6) (.meth "Sheet" "put") [.ref 1, .int hd, .int p, .str (tx cs)] (S.hp r) = .ok (.int S.dn.length) (({ S.s1.adds i (.int S.dn.length) q cs with b := yW (S.s1.adds i (.int S.dn.length) q cs) (mvs ++ List.replicate cs.length []) (cus ++ List.replicate cs.length []) (S.s1.adds i (.int S.dn.length) q cs).b (ze S.le.length cs.length), dn := S.dn ++ [x] } : Sh).hp r') ∧
      Dy (S.s1.adds i (.int S.dn.length) q cs) (mvs ++ List.replicate cs.length []) (cus ++ List.replicate cs.length []) r' ∧ Kp S r r' ∧ r.length ≤ q ∧ ∃ q' : Nat, q = q' + 1 ∧ r.length ≤ q' ∧ x = .tup [.int hd, .str "put", .ref (q' + 15)] ∧ r'[q']? = some (.list ((ze S.le.length cs.length).map AV.int)) := by
  have hs0 : S.st.length < 200 := Nat.lt_trans (Int.ofNat_lt.mp jg) hs
  have p2 : p ≤ S.b.countP id := by rw [← O.G.count]; exact p1
  generalize hr1 : r ++ [.list (cs.map fun _ => AV.bool true)] = r1
  have D1 : Dy S.s1 mvs cus r1 := by rw [← hr1]; have := D.grow [.list (cs.map fun _ => AV.bool true)]; exact ⟨this.ml, this.cl, this.m, this.c, this.nd⟩
  have O1 : Ok1 S.s1 := ⟨O.G, O.ow, O.own, O.le⟩
  have K1 := K.st1 hs
  obtain ⟨g, bh, i, ea, hA, t1, t2⟩ := z0r X (n := n + 1) (S := S.s1) (r := r1) O.G p0 p1
  have eb := z0j X (n := n + 1) (S := S.s1) (r := r1 ++ g) (bh := bh) (d := .int S.dn.length) (i := i) (cs := cs) hA (O1.sz K1 D1) (fun x hx => (O.G.rng x hx).2) hc
  have D2 := (D1.grow g).adds (i := i) (d := .int S.dn.length) (cs := cs) (o := .list ((ze S.s1.le.length cs.length).map AV.int))
  have K2 := K1.adds (i := i) (q := (r1 ++ g).length + 1) (d := S.dn.length) (cs := cs) ⟨Int.natCast_nonneg _, by rw [← hst]; exact jg⟩ hb he
  obtain ⟨g2, en⟩ := QV X (n := n) (hd := .int hd) (wd := .str "put") (q := (r1 ++ g).length) (is := ze S.le.length cs.length) K2 D2 (zO _ _ _) (fun j hj => by
    have := yg hj
    show 0 ≤ j ∧ j < ((S.le ++ cs).length : Int)
    rw [zP]; lia) (by show S.dn.length < 200; rw [← hst]; exact hs0)
  refine ⟨_, i, (r1 ++ g).length + 1, .tup [.int hd, .str "put", .ref ((r1 ++ g).length + 15)], t1, t2, hA.le, ?_, ⟨(D2.grow g2).ml, (D2.grow g2).cl, (D2.grow g2).m, (D2.grow g2).c, (D2.grow g2).nd⟩, fun q o _ _ h => zE (zE (zE (by rw [← hr1]; exact zE h))), by rw [← hr1, zP, zP]; lia, (r1 ++ g).length, rfl, by rw [← hr1, zP, zP, Nat.add_assoc]; exact Nat.le_add_right _ _, rfl, zE (zO _ _ _)⟩
  rw [zK X.kBj]
  refine zL (fr := [some (.ref 1), some (.int hd), some (.int p), some (.str (tx cs))]) rfl rfl (fr' := [some (.ref 1), some (.int hd), some (.int p), some (.str (tx cs))]) ?_
  unfold kBj
  dsimp only
  rw [z5 (zU (zF (a := 1) (z3 rfl) rfl qj (ev1 (z3 rfl) ev0) (wg X (n := n + 3) d0 d1)))]
  rw [z5 (zU (zF (a := 1) (z3 rfl) rfl yB (ev1 (z3 rfl) ev0) (yq X (n := n + 2) p0 p2)))]
  have et : zT .Or [(yA (zp (zB (zA (some (.fn "is_text"))) [(z4 3)]))), (zN (z4 3) [.Eq] [(z7 (.str ""))])] (run T (n + 5)) [some (.ref 1), some (.int hd), some (.int p), some (.str (tx cs))] (S.hp r) = .ok false (S.hp r1) := by
    refine x7 (h1 := S.hp r1) (zu (b := true) (yX (v := .bool true) (zg (ev1 (z3 rfl) ev0) ((Xq X (n := n + 4) ok (by lia)).trans ?_)) rfl)) (x7 (zX (z3 rfl) rfl ?_) qN)
    · rw [← hr1]; rfl
    · rw [xb, wS (kB1 ok) WP, zCt ne]
  rw [z5 ((zH et).trans zC)]
  rw [z5 (QI X (n := n + 5) rfl hs0)]
  refine zJ (zd (zF (a := 1) (z3 rfl) rfl ZW (ev1 (z3 rfl) (ev1 rfl (ev1 (zF (a := 1) (z3 rfl) rfl Xh (ev1 (z3 rfl) (ev1 (zF (a := 1) (z3 rfl) rfl wY (ev1 (z3 rfl) ev0) ea) (ev1 (qf (a := 12) rfl rfl kS9 rfl rfl) ev0))) eb) ev0))) en))
end
theorem Xa {mv cu : List Nat} (nd : (mv ++ cu).Nodup) {i j k m : Nat} (h1 : mv[i]? = some k) (h2 : cu[j]? = some m) : k ≠ m := by
  rw [List.nodup_append] at nd
  exact nd.2.2 k (yI h1) m (yI h2)
theorem Y8 {l : List Nat} (nd : l.Nodup) {i j k : Nat} (h1 : l[i]? = some k) (h2 : l[j]? = some k) : i = j :=
  (List.getElem?_inj (y8 h1).1 nd).mp (h1.trans h2.symm)
theorem Dy.setC {S : Sh} {mvs : List (List (Int × Int))} {cus : List (List Int)} {r : Hp} (D : Dy S mvs cus r) {i kc : Nat} {ds : List Int} (h : S.cu[i]? = some kc) : Dy S mvs (cus.set i ds) (r.set kc (.list (ds.map AV.int))) := by
  have hlt := D.lt kc (List.mem_append_right _ (yI h))
  have nd2 : S.cu.Nodup := (List.nodup_append.mp D.nd).2.1
  refine ⟨D.ml, by rw [List.length_set]; exact D.cl, fun j k ps h1 h2 => ?_, fun j k es h1 h2 => ?_, D.nd⟩
  · rw [List.getElem?_set_ne (Ne.symm (Xa D.nd h1 h))]; exact D.m j k ps h1 h2
  · by_cases hj : i = j
    · subst hj
      rw [h] at h1; cases h1
      rw [List.getElem?_set_self (by rw [← D.cl]; exact (y8 h).1)] at h2
      cases h2
      exact List.getElem?_set_self hlt
    · rw [List.getElem?_set_ne hj] at h2
      rw [List.getElem?_set_ne (fun (q : _ = k) => hj (Y8 nd2 h (by rw [q]; exact h1)))]
      exact D.c j k es h1 h2
theorem Dy.setM {S : Sh} {mvs : List (List (Int × Int))} {cus : List (List Int)} {r : Hp} (D : Dy S mvs cus r) {i km : Nat} {ps : List (Int × Int)} (h : S.mv[i]? = some km) : Dy S (mvs.set i ps) cus (r.set km (.list (ps.map pr))) := by
  have hlt := D.lt km (List.mem_append_left _ (yI h))
  have nd2 : S.mv.Nodup := (List.nodup_append.mp D.nd).1
  refine ⟨by rw [List.length_set]; exact D.ml, D.cl, fun j k es h1 h2 => ?_, fun j k es h1 h2 => ?_, D.nd⟩
  · by_cases hj : i = j
    · subst hj
      rw [h] at h1; cases h1
      rw [List.getElem?_set_self (by rw [← D.ml]; exact (y8 h).1)] at h2
      cases h2
      exact List.getElem?_set_self hlt
    · rw [List.getElem?_set_ne hj] at h2
      rw [List.getElem?_set_ne (fun (q : _ = k) => hj (Y8 nd2 h (by rw [q]; exact h1)))]
      exact D.m j k es h1 h2
  · rw [List.getElem?_set_ne (Xa D.nd h h1)]; exact D.c j k es h1 h2
def yj (d : Int) (cus : List (List Int)) (is : List Int) : List (List Int) := is.foldl (fun c i => c.set i.toNat (c[i.toNat]?.getD [] ++ [d])) cus
theorem Q5 (d : Int) (cus : List (List Int)) (is : List Int) (i : Int) : yj d cus (is ++ [i]) = (yj d cus is).set i.toNat ((yj d cus is)[i.toNat]?.getD [] ++ [d]) := by
  unfold yj; rw [List.foldl_append]; rfl
theorem Zg (d : Int) (is : List Int) : ∀ cus : List (List Int), (yj d cus is).length = cus.length := by
  induction is with
  | nil => intro c; rfl
  | cons i is ih => intro c; exact (ih _).trans List.length_set
def y7 (d : Int) : List (List (Int × Int)) → Nat → List Int → List (List (Int × Int))
  | mvs, _, [] => mvs
  | mvs, n, i :: is => y7 d (mvs.set i.toNat (mvs[i.toNat]?.getD [] ++ [(d, (n : Int))])) (n + 1) is
theorem Xb (d : Int) (is : List Int) (i : Int) : ∀ (mvs : List (List (Int × Int))) (n : Nat), y7 d mvs n (is ++ [i]) = (y7 d mvs n is).set i.toNat ((y7 d mvs n is)[i.toNat]?.getD [] ++ [(d, ((n + is.length : Nat) : Int))]) := by
  induction is with
  | nil => intro mvs n; rfl
  | cons j is ih =>
    intro mvs n
    show y7 d _ (n + 1) (is ++ [i]) = _
    rw [ih, List.length_cons, show n + 1 + is.length = n + (is.length + 1) by lia]
    rfl
theorem ZT (d : Int) (is : List Int) : ∀ (mvs : List (List (Int × Int))) (n : Nat), (y7 d mvs n is).length = mvs.length := by
  induction is with
  | nil => intro c n; rfl
  | cons i is ih => intro c n; exact (ih _ _).trans List.length_set
theorem Yu {a b : Int} (ha : 0 ≤ a) (hb : 0 ≤ b) (h : a.toNat = b.toNat) : a = b := by lia
theorem YL {d : Int} {j : Int} (hj : 0 ≤ j) {is : List Int} : ∀ {cus : List (List Int)}, is.Nodup → (∀ i ∈ is, 0 ≤ i ∧ i < cus.length) → (yj d cus is)[j.toNat]? = if j ∈ is then (cus[j.toNat]?).map (· ++ [d]) else cus[j.toNat]? := by
  induction is with
  | nil => intro cus _ _; rw [if_neg (List.not_mem_nil)]; rfl
  | cons i is ih =>
    intro cus nd hr
    obtain ⟨nd1, nd2⟩ := List.nodup_cons.mp nd
    obtain ⟨i0, i1⟩ := hr i (.head _)
    have := ih (cus := cus.set i.toNat (cus[i.toNat]?.getD [] ++ [d])) nd2 (fun x hx => by rw [List.length_set]; exact hr x (.tail _ hx))
    show (yj d (cus.set i.toNat (cus[i.toNat]?.getD [] ++ [d])) is)[j.toNat]? = _
    rw [this]
    have lt : i.toNat < cus.length := by lia
    by_cases h : j = i
    · subst h
      rw [if_neg nd1, if_pos (.head _), List.getElem?_set_self lt, y9 lt]; rfl
    · have ne : i.toNat ≠ j.toNat := fun e => h (Yu i0 hj e).symm
      rw [List.getElem?_set_ne ne]
      by_cases hm : j ∈ is
      · rw [if_pos hm, if_pos (.tail _ hm)]
      · rw [if_neg hm, if_neg (fun q => by
          rcases List.mem_cons.mp q with q | q
          · exact h q
          · exact hm q)]
theorem YA {d : Int} {j : Int} (hj : 0 ≤ j) {is : List Int} : ∀ {mvs : List (List (Int × Int))} {n : Nat}, is.Nodup → (∀ i ∈ is, 0 ≤ i ∧ i < mvs.length) →
    (j ∉ is → (y7 d mvs n is)[j.toNat]? = mvs[j.toNat]?) ∧ ∀ k, is[k]? = some j → (y7 d mvs n is)[j.toNat]? = (mvs[j.toNat]?).map (· ++ [(d, ((n + k : Nat) : Int))]) := by
  induction is with
  | nil => intro mvs n _ _; exact ⟨fun _ => rfl, fun k h => by cases h⟩
  | cons i is ih =>
    intro mvs n nd hr
    obtain ⟨nd1, nd2⟩ := List.nodup_cons.mp nd
    obtain ⟨i0, i1⟩ := hr i (.head _)
    obtain ⟨a, b⟩ := ih (mvs := mvs.set i.toNat (mvs[i.toNat]?.getD [] ++ [(d, (n : Int))])) (n := n + 1) nd2 (fun x hx => by rw [List.length_set]; exact hr x (.tail _ hx))
    have lt : i.toNat < mvs.length := by lia
    refine ⟨fun hn => ?_, fun k hk => ?_⟩
    · have ne : i.toNat ≠ j.toNat := fun e => hn ((Yu i0 hj e) ▸ .head _)
      exact (a fun q => hn (.tail _ q)).trans (List.getElem?_set_ne ne)
    · cases k with
      | zero =>
        have hk : i = j := Option.some.inj hk
        subst hk
        rw [show y7 d mvs n (i :: is) = y7 d (mvs.set i.toNat (mvs[i.toNat]?.getD [] ++ [(d, (n : Int))])) (n + 1) is from rfl, a nd1, List.getElem?_set_self lt, y9 lt]
        rfl
      | succ k =>
        have hk : is[k]? = some j := hk
        have ne : i.toNat ≠ j.toNat := fun e => nd1 ((Yu i0 hj e) ▸ yI hk)
        rw [show y7 d mvs n (i :: is) = y7 d (mvs.set i.toNat (mvs[i.toNat]?.getD [] ++ [(d, (n : Int))])) (n + 1) is from rfl, b k hk, List.getElem?_set_ne ne, show n + 1 + k = n + (k + 1) by lia]
section
variable {T : Tab} {okf : Str → Str → Bool} (X : TT T okf) {n : Nat} {S : Sh} {r : Hp} {mvs : List (List (Int × Int))} {cus : List (List Int)}
include X
theorem XO (O : Ok1 S) {i j : Int} (h0 : 0 ≤ i) (h1 : i < j) (h2 : j ≤ (tk S.b S.l).length) {fr : AFr} {s a c : Nat} (f0 : fr[s]? = some (some (.ref 1))) (fa : fr[a]? = some (some (.int i))) (fc : fr[c]? = some (some (.int j))) :
    Z2 (z6 (z4 s) "shown" none []) (z4 a) (z4 c) (run T (n + 4)) fr (S.hp r) = .ok (.ref (r.length + 17)) (S.hp (r ++ [.list (S.l.map AV.int), .list (S.sh.map AV.int), .list (((S.sh.take j.toNat).drop i.toNat).map AV.int)])) := by
  have hl : S.sh.length = (tk S.b S.l).length := List.length_map _
  have hs : (tk S.b S.l).length < 200 := by
    have h1 : (tk S.b S.l).length ≤ S.l.length := List.length_filter_le (fl S.b) S.l
    have := O.G.len
    have := O.G.sm
    lia
  have hg : (S.hp (r ++ [.list (S.l.map AV.int), .list (S.sh.map AV.int)]))[r.length + 16]? = some (.list (S.sh.map AV.int)) := by
    show (r ++ [.list (S.l.map AV.int), .list (S.sh.map AV.int)])[r.length + 1]? = _
    rw [xJ]; rfl
  refine (JW (zF (a := 1) (z3 f0) rfl Jp ev0 (zBz X (n := n) (r := r) O)) (z3 fa) (z3 fc) (WI hg (qa (yv.mpr ⟨h0, by lia⟩)) (qa (yv.mpr ⟨by lia, by lia⟩)) (by rw [List.length_map, hl]; exact Nat.le_trans (Nat.le_of_lt hs) (by decide)))).trans ?_
  have l1 : (S.hp (r ++ [.list (S.l.map AV.int), .list (S.sh.map AV.int)])).length = r.length + 17 := by
    show (r ++ [AO.list (S.l.map AV.int), .list (S.sh.map AV.int)]).length + 15 = _
    rw [zP]; rfl
  rw [l1]
  show Out.ok _ (S.hp ((r ++ [.list (S.l.map AV.int), .list (S.sh.map AV.int)]) ++ [.list (((S.sh.map AV.int).take j.toNat).drop i.toNat)])) = _
  rw [List.append_assoc, ← List.map_take, ← List.map_drop]
  rfl
end
theorem Sg.cut {S : Sh} {mvs : List (List (Int × Int))} {cus : List (List Int)} (K : Sg S mvs cus) (hs : S.s1.st.length < 200) {is : List Int} (nd : is.Nodup) (hi : ∀ i ∈ is, 0 ≤ i ∧ i < S.le.length) : Sg S.s1 mvs (yj S.st.length cus is) := by
  have K1 := K.st1 hs
  have at_ : ∀ ds ∈ yj S.st.length cus is, ∃ es ∈ cus, ds = es ∨ ds = es ++ [(S.st.length : Int)] := fun ds hd => by
    obtain ⟨j, hj, rfl⟩ := List.getElem_of_mem hd
    have e := y9 hj
    have := YL (d := S.st.length) (j := (j : Int)) (by lia) (cus := cus) nd (fun i h => by rw [K.cu]; exact hi i h)
    rw [Int.toNat_natCast, e] at this
    have hj2 : j < cus.length := by rw [← Zg S.st.length is cus]; exact hj
    rw [y9 hj2] at this
    by_cases h : (j : Int) ∈ is
    · rw [if_pos h] at this; exact ⟨_, List.getElem_mem hj2, .inr (Option.some.inj this)⟩
    · rw [if_neg h] at this; exact ⟨_, List.getElem_mem hj2, .inl (Option.some.inj this)⟩
  refine ⟨K.fi, K.br, K.mv, by rw [Zg]; exact K.cu, K.fr, K1.mr, fun ds hd d h => ?_, K1.bn, K1.ps, fun ds hd => ?_, K.sl, hs, K.sb⟩
  · obtain ⟨es, he, q | q⟩ := at_ ds hd
    · rw [q] at h; exact K1.dr es he d h
    · rw [q] at h
      rcases xa h with h | h
      · exact K1.dr es he d h
      · rw [xD h]
        exact ⟨Int.natCast_nonneg _, jg⟩
  · obtain ⟨es, he, q | q⟩ := at_ ds hd
    · rw [q]; exact K1.cs es he
    · rw [q, zP]; rw [QM]; exact Nat.succ_le_succ (K.cs es he)
theorem jF {S : Sh} (O : Ok1 S) {i j : Nat} : ∀ x ∈ (S.sh.take j).drop i, 0 ≤ x ∧ x < S.le.length := fun x hx => O.sh_mem (List.mem_of_mem_take (List.mem_of_mem_drop hx))
section
variable {T : Tab} {okf : Str → Str → Bool} (X : TT T okf) {n : Nat} {S : Sh} {r : Hp} {mvs : List (List (Int × Int))} {cus : List (List Int)}
include X
theorem zEp (O : Ok1 S) (K : Sg S mvs cus) (D : Dy S mvs cus r) (hst : S.st.length = S.dn.length) (ndS : S.sh.Nodup) {hd i j : Int} (d0 : 0 ≤ hd) (d1 : hd < S.hands) (h0 : 0 ≤ i) (h1 : i < j) (h2 : j ≤ (tk S.b S.l).length) (hs : S.s1.st.length < 200) :
    ∃ r' x, run T (n + 6) (.meth "Sheet" "cut") [.ref 1, .int hd, .int i, .int j] (S.hp r) = .ok (.int S.dn.length) (({ S.s1 with b := yW S.s1 mvs (yj S.st.length cus ((S.sh.take j.toNat).drop i.toNat)) S.b ((S.sh.take j.toNat).drop i.toNat), dn := S.dn ++ [x] } : Sh).hp r') ∧
      Dy S.s1 mvs (yj S.st.length cus ((S.sh.take j.toNat).drop i.toNat)) r' ∧ Kp S r r' ∧ ∃ q' : Nat, r.length ≤ q' ∧ x = .tup [.int hd, .str "cut", .ref (q' + 15)] ∧ r'[q']? = some (.list (((S.sh.take j.toNat).drop i.toNat).map AV.int)) := by
  have hs0 : S.st.length < 200 := Nat.lt_trans (Int.ofNat_lt.mp jg) hs
  have p2 : j ≤ S.b.countP id := by rw [← O.G.count]; exact h2
  generalize his : (S.sh.take j.toNat).drop i.toNat = is
  have hi : ∀ x ∈ is, 0 ≤ x ∧ x < S.le.length := by rw [← his]; exact jF O
  have nd : is.Nodup := by rw [← his]; exact (ndS.sublist (List.take_sublist _ _)).sublist (List.drop_sublist _ _)
  have ec := XO X (s := 0) (n := n + 1) (r := r) O h0 h1 h2 (fr := [some (.ref 1), some (.int hd), some (.int i), some (.int j), none, none]) (a := 2) (c := 3) rfl rfl rfl
  rw [his] at ec
  generalize hr1 : r ++ [.list (S.l.map AV.int), .list (S.sh.map AV.int), .list (is.map AV.int)] = r1 at ec
  have hq : r1[r.length + 2]? = some (AO.list (is.map AV.int)) := by rw [← hr1, xJ]; rfl
  have D1 : Dy S.s1 mvs cus r1 := by rw [← hr1]; have := D.grow [.list (S.l.map AV.int), .list (S.sh.map AV.int), .list (is.map AV.int)]; exact ⟨this.ml, this.cl, this.m, this.c, this.nd⟩
  have lt := D.lt
  have hsl := K.sl
  obtain ⟨fr', h', e, r2, w5, rfl, rfl, Dz, hq2, kp⟩ := xB (t := .one 5) (src := .ref (r.length + 17)) (cf := run T (n + 5)) (xs := is.map AV.int)
    (body := (z9 [(zG (z6 (zR (zD (z4 0) "cutters") (z4 5)) "append" (some .append) [(zB (zA (some (.bi .len))) [(zD (z4 0) "done")])]))]))
    (fun k fr h => ∃ r2 w5, fr = [some (.ref 1), some (.int hd), some (.int i), some (.int j), some (.ref (r.length + 17)), w5] ∧ h = S.s1.hp r2 ∧ Dy S.s1 mvs (yj S.st.length cus (is.take k)) r2 ∧ r2[r.length + 2]? = some (AO.list (is.map AV.int)) ∧ Kp S r r2)
    (by
      rintro k fr h ⟨r2, w5, rfl, rfl, _, hq2, _⟩
      show (match r2[r.length + 2]? with | some (.list ys) => some ys[k]? | _ => none) = _
      rw [hq2])
    (by
      rintro k x fr h ⟨r2, w5, rfl, rfl, Dz, hq2, kp⟩ hx
      rw [List.getElem?_map] at hx
      obtain ⟨y, hyk, rfl⟩ := y6 hx
      obtain ⟨y0, y1⟩ := hi y (yI hyk)
      have Kz := K.cut hs (nd.sublist (List.take_sublist k is)) (fun z hz => hi z (List.mem_of_mem_take hz))
      obtain ⟨f, ps, ds, v, km, kc, e1, e2, e3, e4, e5, e6, e7, e8⟩ := Kz.at_ Dz y0 y1
      have hkc : kc < r.length := lt kc (List.mem_append_right _ (yI (show S.cu[y.toNat]? = some kc from e6)))
      have hds := Kz.cs ds (yI e3)
      have hds : ds.length ≤ S.s1.st.length := hds
      have D3 := Dz.setC (ds := ds ++ [(S.st.length : Int)]) e6
      refine ⟨[some (.ref 1), some (.int hd), some (.int i), some (.int j), some (.ref (r.length + 17)), some (.int y)], _, _, rfl, ?_, r2.set kc (.list ((ds ++ [(S.st.length : Int)]).map AV.int)), some (.int y), rfl, rfl, ?_, ?_, ?_⟩
      · refine (z5 (fr1 := [some (.ref 1), some (.int hd), some (.int i), some (.int j), some (.ref (r.length + 17)), some (.int y)]) (h1 := S.s1.hp (r2.set kc (.list ((ds ++ [(S.st.length : Int)]).map AV.int)))) (zU (v := .none) (j7 (a := kc + 15) (zq (zQ (z3 rfl) rfl kS8) (z3 rfl) (qD (xs := S.cu.map rf) rfl y0 (by lia) (by rw [List.getElem?_map, show S.cu[y.toNat]? = some kc from e6]; rfl))) e8 (ev1 (qf (a := 12) rfl rfl kS9 rfl hst.symm) ev0) ?_))).trans zC
        rw [xx, show (S.s1.hp r2)[kc + 15]? = some (.list (ds.map AV.int)) from e8]
        show (if (ds.map AV.int).length < small then _ else _) = _
        rw [if_pos (by rw [List.length_map]; exact Nat.lt_of_le_of_lt hds (Nat.lt_trans hs (by decide))), xI]
        rfl
      · rw [List.take_succ, hyk]
        show Dy S.s1 mvs (yj S.st.length cus (is.take k ++ [y])) _
        rw [Q5, e3]
        exact D3
      · rw [List.getElem?_set_ne (by lia)]; exact hq2
      · intro q o h1 h2 h3
        rw [List.getElem?_set_ne (fun (e : kc = q) => h2 (e ▸ yI (show S.cu[y.toNat]? = some kc from e6)))]
        exact kp q o h1 h2 h3)
    (fr := [some (.ref 1), some (.int hd), some (.int i), some (.int j), some (.ref (r.length + 17)), none]) (h := S.s1.hp r1) ⟨r1, none, rfl, rfl, D1, hq, fun q o _ _ h => by rw [← hr1]; exact zE h⟩
  rw [List.length_map] at e Dz
  rw [List.take_length] at Dz
  obtain ⟨g2, en⟩ := QV X (n := n) (hd := .int hd) (wd := .str "cut") (q := r.length + 2) (is := is) (K.cut hs nd hi) Dz hq2 hi (by show S.dn.length < 200; rw [← hst]; exact hs0)
  have Dg := Dz.grow g2
  refine ⟨r2 ++ g2, .tup [.int hd, .str "cut", .ref (r.length + 17)], ?_, Dg, fun q o h1 h2 h3 => zE (kp q o h1 h2 h3), r.length + 2, Nat.le_add_right _ _, rfl, zE hq2⟩
  rw [zK X.kBn]
  refine zL (fr := [some (.ref 1), some (.int hd), some (.int i), some (.int j), none, none]) rfl rfl (fr' := [some (.ref 1), some (.int hd), some (.int i), some (.int j), some (.ref (r.length + 17)), w5]) ?_
  unfold kBn
  dsimp only
  rw [z5 (zU (zF (a := 1) (z3 rfl) rfl qj (ev1 (z3 rfl) ev0) (wg X (n := n + 3) d0 d1)))]
  rw [z5 (zU (zF (a := 1) (z3 rfl) rfl x9 (ev1 (z3 rfl) (ev1 (z3 rfl) ev0)) (qT X (n := n + 1) h0 h1 p2)))]
  rw [z5 (zW (j := 4) ec (zc rfl))]
  show z9 _ _ [some (.ref 1), some (.int hd), some (.int i), some (.int j), some (.ref (r.length + 17)), none] (S.hp r1) = _
  rw [z5 (QI X (n := n + 5) rfl hs0)]
  have es : yk (S.s1.hp r1) (.ref (r.length + 17)) = some (.ref (r.length + 17), is.length) := by
    show (match r1[r.length + 2]? with | some (.list xs) => some (Src.ref (r.length + 17), xs.length) | _ => none) = _
    rw [hq]
    show some (_, (is.map AV.int).length) = _
    rw [List.length_map]
  have ef := qp (en := false) (x := z4 4) (fr := [some (.ref 1), some (.int hd), some (.int i), some (.int j), some (.ref (r.length + 17)), none]) (z3 rfl) es e
  rw [z5 ef]
  exact zJ (zd (zF (a := 1) (z3 rfl) rfl ZW (ev1 (z3 rfl) (ev1 rfl (ev1 (z3 rfl) ev0))) en))
end
def Sh.mov (S : Sh) (i : Nat) (is : List Int) : Sh := { S with l := S.l.take i ++ ze S.b.length is.length ++ S.l.drop i, b := S.b ++ List.replicate is.length false, ow := S.ow ++ is }
theorem Sh.mov_nil (S : Sh) (i : Nat) : S.mov i [] = S := by
  obtain ⟨g0, g2, hands, l, b, ow, le, fi, mv, br, cu, dn, st⟩ := S
  simp [Sh.mov, ze]
theorem At.nextM {S : Sh} {i : Nat} {is : List Int} {y : Int} (hi : i ≤ S.l.length) (hlt : ∀ x ∈ S.l, x < S.b.length) : At (S.mov i (is ++ [y])).l (S.mov i (is ++ [y])).b (.int ((S.b.length + is.length : Nat) : Int)) (i + (is.length + 1)) := by
  have e1 : (is ++ [y]).length = is.length + 1 := by rw [zP]; rfl
  refine .inr ⟨_, i + is.length, rfl, by lia, ?_, ?_, rfl⟩
  · show _ < (((S.b ++ List.replicate (is ++ [y]).length false).length : Nat) : Int)
    rw [zP, List.length_replicate, e1]; lia
  · show (S.l.take i ++ ze S.b.length (is ++ [y]).length ++ S.l.drop i).findIdx? _ = _
    rw [e1, xy, ← List.append_assoc, List.append_assoc _ [_]]
    have : (S.l.take i ++ ze S.b.length is.length).length = i + is.length := by rw [zP, List.length_take, yY]; lia
    rw [← this]
    refine Q3 fun z hz => ?_
    rcases xa hz with hz | hz
    · have := hlt z (List.mem_of_mem_take hz); lia
    · have := (yg hz).2; lia
theorem JV {α : Type} (k : Nat) (x : α) : List.replicate k x ++ [x] = List.replicate (k + 1) x := List.replicate_succ'.symm
theorem Sg.mov {S : Sh} {mvs : List (List (Int × Int))} {cus : List (List Int)} (K : Sg S mvs cus) (hs : S.s1.st.length < 200) {is : List Int} {i : Nat} (nd : is.Nodup) (hi : ∀ i ∈ is, 0 ≤ i ∧ i < S.le.length) (hb : S.b.length + is.length < 200) : Sg (S.s1.mov i is) (y7 S.st.length mvs S.b.length is) cus := by
  have K1 := K.st1 hs
  have lb : (S.s1.mov i is).b.length = S.b.length + is.length := by show (S.b ++ List.replicate is.length false).length = _; rw [zP, List.length_replicate]
  have at_ : ∀ ds ∈ y7 S.st.length mvs S.b.length is, ∃ es ∈ mvs, ds = es ∨ ∃ k, k < is.length ∧ ds = es ++ [((S.st.length : Int), ((S.b.length + k : Nat) : Int))] := fun ds hd => by
    obtain ⟨j, hj, rfl⟩ := List.getElem_of_mem hd
    have e := y9 hj
    obtain ⟨m1, m2⟩ := YA (d := S.st.length) (j := (j : Int)) (by lia) (mvs := mvs) (n := S.b.length) nd (fun i h => by rw [K.mv]; exact hi i h)
    rw [Int.toNat_natCast, e] at m1 m2
    have hj2 : j < mvs.length := by rw [← ZT S.st.length is mvs S.b.length]; exact hj
    rw [y9 hj2] at m1 m2
    by_cases h : (j : Int) ∈ is
    · obtain ⟨k, hk, hk2⟩ := List.getElem_of_mem h
      exact ⟨_, List.getElem_mem hj2, .inr ⟨k, hk, Option.some.inj (m2 k (by rw [y9 hk, hk2]))⟩⟩
    · exact ⟨_, List.getElem_mem hj2, .inl (Option.some.inj (m1 h))⟩
  refine ⟨K.fi, K.br, by rw [ZT]; exact K.mv, K.cu, fun x hx => by rw [lb]; exact ⟨(K.fr x hx).1, XD _ (K.fr x hx).2⟩, fun ps hp p h => ?_, K1.dr, K1.bn, fun ds hd => ?_, K1.cs, K.sl, hs, by rw [lb]; exact hb⟩
  · rw [lb]
    obtain ⟨es, he, q | ⟨k, hk, q⟩⟩ := at_ ps hp
    · rw [q] at h; obtain ⟨a, c, d⟩ := K1.mr es he p h; exact ⟨a, c, XD _ d⟩
    · rw [q] at h
      rcases xa h with h | h
      · obtain ⟨a, c, d⟩ := K1.mr es he p h; exact ⟨a, c, XD _ d⟩
      · rw [xD h]
        exact ⟨⟨Int.natCast_nonneg _, jg⟩, Int.natCast_nonneg _, Int.ofNat_lt.mpr (Nat.add_lt_add_left hk _)⟩
  · obtain ⟨es, he, q | ⟨k, hk, q⟩⟩ := at_ ds hd
    · rw [q]; exact K1.ps es he
    · rw [q, zP]; show _ ≤ S.s1.st.length; rw [QM]; exact Nat.succ_le_succ (K.ps es he)
section
variable {T : Tab} {okf : Str → Str → Bool} (X : TT T okf) {n : Nat} {S : Sh} {r : Hp} {mvs : List (List (Int × Int))} {cus : List (List Int)}
include X
theorem zDy (O : Ok1 S) (K : Sg S mvs cus) (D : Dy S mvs cus r) (hst : S.st.length = S.dn.length) (ndS : S.sh.Nodup) {hd i j p : Int} (d0 : 0 ≤ hd) (d1 : hd < S.hands) (h0 : 0 ≤ i) (h1 : i < j) (h2 : j ≤ (tk S.b S.l).length) (p0 : 0 ≤ p) (p1 : p ≤ (tk S.b S.l).length) (hp : ¬ (i < p ∧ p < j)) (hs : S.s1.st.length < 200) (hb : S.b.length + 10 < 200) (h5 : j ≤ i + 5) :
    ∃ r' x at_, tk S.b (S.l.take at_) = (tk S.b S.l).take p.toNat ∧ tk S.b (S.l.drop at_) = (tk S.b S.l).drop p.toNat ∧ at_ ≤ S.l.length ∧
      run T (n + 6) (.meth "Sheet" "move") [.ref 1, .int hd, .int i, .int j, .int p] (S.hp r) = .ok (.int S.dn.length) (({ S.s1.mov at_ ((S.sh.take j.toNat).drop i.toNat) with b := yW S.s1 (y7 S.st.length mvs S.b.length ((S.sh.take j.toNat).drop i.toNat)) cus (S.s1.mov at_ ((S.sh.take j.toNat).drop i.toNat)).b ((S.sh.take j.toNat).drop i.toNat), dn := S.dn ++ [x] } : Sh).hp r') ∧
      Dy S.s1 (y7 S.st.length mvs S.b.length ((S.sh.take j.toNat).drop i.toNat)) cus r' ∧ Kp S r r' ∧ ∃ q' : Nat, r.length ≤ q' ∧ x = .tup [.int hd, .str "move", .ref (q' + 15)] ∧ r'[q']? = some (.list (((S.sh.take j.toNat).drop i.toNat).map AV.int)) := by
  have hs0 : S.st.length < 200 := Nat.lt_trans (Int.ofNat_lt.mp jg) hs
  have p2 : j ≤ S.b.countP id := by rw [← O.G.count]; exact h2
  have p3 : p ≤ S.b.countP id := by rw [← O.G.count]; exact p1
  have lis : ((S.sh.take j.toNat).drop i.toNat).length ≤ 5 := by rw [List.length_drop, List.length_take]; exact zBs h0 h1 h5
  generalize his : (S.sh.take j.toNat).drop i.toNat = is at lis
  have hi : ∀ x ∈ is, 0 ≤ x ∧ x < S.le.length := by rw [← his]; exact jF O
  have nd : is.Nodup := by rw [← his]; exact (ndS.sublist (List.take_sublist _ _)).sublist (List.drop_sublist _ _)
  have ec := XO X (s := 0) (n := n + 1) (r := r) O h0 h1 h2 (fr := [some (.ref 1), some (.int hd), some (.int i), some (.int j), some (.int p), none, none, none]) (a := 2) (c := 3) rfl rfl rfl
  rw [his] at ec
  generalize hr1 : r ++ [.list (S.l.map AV.int), .list (S.sh.map AV.int), .list (is.map AV.int)] = r1 at ec
  have hq : r1[r.length + 2]? = some (AO.list (is.map AV.int)) := by rw [← hr1, xJ]; rfl
  have D1 : Dy S.s1 mvs cus r1 := by rw [← hr1]; have := D.grow [.list (S.l.map AV.int), .list (S.sh.map AV.int), .list (is.map AV.int)]; exact ⟨this.ml, this.cl, this.m, this.c, this.nd⟩
  obtain ⟨g, bh, at_, ea, hA, t1, t2⟩ := z0r X (n := n + 1) (S := S) (r := r1) O.G p0 p1
  have lt := D.lt
  have hsl := K.sl
  have hle := O.G.len
  have hsm := O.G.sm
  have haL := hA.le
  have sm2 : ∀ {k : Nat}, k < 200 → k < small := fun h => Nat.lt_trans h (by decide)
  obtain ⟨fr', h', e, r2, w6, w7, rfl, rfl, Dz, hq2, _, kp⟩ := xB (t := .one 7) (src := .ref (r.length + 17)) (cf := run T (n + 5)) (xs := is.map AV.int)
    (body := (z9 [(z8 okf (.names (.one 6)) (z6 (zD (z4 0) "row") "add" none [(z4 6)])), (zG (z6 (zD (z4 0) "owners") "append" (some .append) [(z4 7)])), (zG (z6 (zR (zD (z4 0) "moved") (z4 7)) "append" (some .append) [(yZ [(zB (zA (some (.bi .len))) [(zD (z4 0) "done")]), (z4 6)])]))]))
    (fun k fr h => ∃ r2 w6 w7, fr = [some (.ref 1), some (.int hd), some (.int i), some (.int j), some (.int p), some (.ref (r.length + 17)), some w6, w7] ∧ h = (S.s1.mov at_ (is.take k)).hp r2 ∧ Dy S.s1 (y7 S.st.length mvs S.b.length (is.take k)) cus r2 ∧ r2[r.length + 2]? = some (AO.list (is.map AV.int)) ∧ At (S.s1.mov at_ (is.take k)).l (S.s1.mov at_ (is.take k)).b w6 (at_ + k) ∧ Kp S r r2)
    (by
      rintro k fr h ⟨r2, w6, w7, rfl, rfl, _, hq2, _, _⟩
      show (match r2[r.length + 2]? with | some (.list ys) => some ys[k]? | _ => none) = _
      rw [hq2])
    (by
      rintro k x fr h ⟨r2, w6, w7, rfl, rfl, Dz, hq2, hAk, kp⟩ hx
      rw [List.getElem?_map] at hx
      obtain ⟨y, hyk, rfl⟩ := y6 hx
      obtain ⟨y0, y1⟩ := hi y (yI hyk)
      have hk : k < is.length := (y8 hyk).1
      have lk : (is.take k).length = k := by rw [List.length_take]; exact Nat.min_eq_left (Nat.le_of_lt hk)
      have hbk : S.b.length + k < 200 := QF hb (Nat.le_trans (Nat.le_of_lt hk) (Nat.le_trans lis (by decide)))
      have Kz := K.mov (i := at_) hs (nd.sublist (List.take_sublist k is)) (fun z hz => hi z (List.mem_of_mem_take hz)) (by rw [lk]; exact hbk)
      have Dz' : Dy (S.s1.mov at_ (is.take k)) (y7 S.st.length mvs S.b.length (is.take k)) cus r2 := ⟨Dz.ml, Dz.cl, Dz.m, Dz.c, Dz.nd⟩
      obtain ⟨f, ps, ds, v, km, kc, e1, e2, e3, e4, e5, e6, e7, e8⟩ := Kz.at_ Dz' y0 y1
      have hkm : km < r.length := lt km (List.mem_append_left _ (yI (show S.mv[y.toNat]? = some km from e5)))
      have hps : ps.length ≤ S.s1.st.length := Kz.ps ps (yI e2)
      have lb : (S.s1.mov at_ (is.take k)).b.length = S.b.length + k := by show (S.b ++ List.replicate (is.take k).length false).length = _; rw [zP, List.length_replicate, lk]
      have ll : (S.s1.mov at_ (is.take k)).l.length = S.l.length + k := by
        show (S.l.take at_ ++ ze S.b.length (is.take k).length ++ S.l.drop at_).length = _
        rw [zP, zP, yY, lk, List.length_take, List.length_drop, Nat.min_eq_left haL, Nat.add_right_comm, Nat.add_sub_cancel' haL]
      have lo : (S.ow ++ is.take k).length = S.b.length + k := by rw [zP, lk, O.ow]
      have D3 := Dz.setM (ps := ps ++ [((S.st.length : Int), ((S.b.length + k : Nat) : Int))]) (show S.s1.mv[y.toNat]? = some km from e5)
      have e1k : is.take (k + 1) = is.take k ++ [y] := by rw [List.take_succ, hyk]; rfl
      have eadd := z0u X (n := n + 2) (o0 := (S.s1.mov at_ (is.take k)).g0) (o1 := .inst "Sheet" (fS (S.s1.mov at_ (is.take k)).hands)) (o2 := (S.s1.mov at_ (is.take k)).g2) (r := (S.s1.mov at_ (is.take k)).tl r2) hAk (by rw [ll, hle]; exact sm2 hbk) (by rw [lb]; exact sm2 hbk)
      have eL : wF (S.s1.mov at_ (is.take k)).l (at_ + k) ((S.b.length + k : Nat) : Int) = (S.s1.mov at_ (is.take (k + 1))).l := by
        show wF (S.l.take at_ ++ ze S.b.length (is.take k).length ++ S.l.drop at_) _ _ = S.l.take at_ ++ ze S.b.length (is.take (k + 1)).length ++ S.l.drop at_
        rw [Xx (by rw [List.length_take, yY, lk, Nat.min_eq_left haL]), e1k, zP, lk]
        show _ = S.l.take at_ ++ ze S.b.length (k + 1) ++ S.l.drop at_
        rw [xy]
      have eB : (S.s1.mov at_ (is.take k)).b ++ [false] = (S.s1.mov at_ (is.take (k + 1))).b := by
        show S.b ++ List.replicate (is.take k).length false ++ [false] = S.b ++ List.replicate (is.take (k + 1)).length false
        rw [e1k, zP, List.append_assoc, JV]; rfl
      rw [lb, eL, eB] at eadd
      let S2 : Sh := { S.s1.mov at_ (is.take k) with l := (S.s1.mov at_ (is.take (k + 1))).l, b := (S.s1.mov at_ (is.take (k + 1))).b }
      have eO : (S.ow ++ is.take k).map AV.int ++ [AV.int y] = (S.s1.mov at_ (is.take (k + 1))).ow.map AV.int := by
        show _ = (S.ow ++ is.take (k + 1)).map AV.int
        rw [xI, e1k, List.append_assoc]
      have eS : { S2 with ow := (S.s1.mov at_ (is.take (k + 1))).ow } = S.s1.mov at_ (is.take (k + 1)) := rfl
      refine ⟨[some (.ref 1), some (.int hd), some (.int i), some (.int j), some (.int p), some (.ref (r.length + 17)), some w6, some (.int y)], [some (.ref 1), some (.int hd), some (.int i), some (.int j), some (.int p), some (.ref (r.length + 17)), some (.int ((S.b.length + k : Nat) : Int)), some (.int y)], (S.s1.mov at_ (is.take (k + 1))).hp (r2.set km (.list ((ps ++ [((S.st.length : Int), ((S.b.length + k : Nat) : Int))]).map pr))), rfl, ?_, r2.set km (.list ((ps ++ [((S.st.length : Int), ((S.b.length + k : Nat) : Int))]).map pr)), _, _, rfl, rfl, ?_, ?_, ?_, ?_⟩
      · rw [z5 (zW (j := 6) (zF (a := 3) (zQ (z3 rfl) rfl kS2) rfl Js (ev1 (z3 rfl) ev0) eadd) (zc rfl))]
        show z9 _ _ [some (.ref 1), some (.int hd), some (.int i), some (.int j), some (.int p), some (.ref (r.length + 17)), some (.int ((S.b.length + k : Nat) : Int)), some (.int y)] (S2.hp r2) = _
        rw [z5 (wW (a := 6) (zs := (S.s1.mov at_ (is.take (k + 1))).ow.map AV.int) rfl rfl kS3 rfl (z3 rfl) rfl (by rw [List.length_map]; show (S.ow ++ is.take k).length < small; rw [lo]; exact sm2 hbk) eO)]
        show z9 _ _ _ ((S.s1.mov at_ (is.take (k + 1))).hp r2) = _
        refine (z5 (zU (v := .none) (j7 (a := km + 15) (zq (zQ (z3 rfl) rfl kS6) (z3 rfl) (qD (xs := S.mv.map rf) rfl y0 (by lia) (by rw [List.getElem?_map, show S.mv[y.toNat]? = some km from e5]; rfl))) e7 (ev1 (xS (ev1 (qf (a := 12) rfl rfl kS9 rfl hst.symm) (ev1 (z3 rfl) ev0))) ev0) ?_))).trans zC
        rw [xx, show ((S.s1.mov at_ (is.take (k + 1))).hp r2)[km + 15]? = some (.list (ps.map pr)) from e7]
        show (if (ps.map pr).length < small then _ else _) = _
        rw [if_pos (by rw [List.length_map]; exact Nat.lt_of_le_of_lt hps (sm2 hs)), show (AV.tup [.int (S.st.length : Nat), .int ((S.b.length + k : Nat) : Int)]) = pr ((S.st.length : Int), ((S.b.length + k : Nat) : Int)) from rfl, xI]
        rfl
      · rw [e1k, Xb, e2, lk]
        exact D3
      · rw [List.getElem?_set_ne (Nat.ne_of_lt (Nat.lt_of_lt_of_le hkm (Nat.le_add_right _ _)))]; exact hq2
      · rw [e1k]
        have := At.nextM (S := S.s1) (i := at_) (is := is.take k) (y := y) haL (fun x hx => (O.G.rng x hx).2)
        rw [lk] at this
        exact this
      · intro q o h1 h2 h3
        rw [List.getElem?_set_ne (fun (e : km = q) => h1 (e ▸ yI (show S.mv[y.toNat]? = some km from e5)))]
        exact kp q o h1 h2 h3)
    (fr := [some (.ref 1), some (.int hd), some (.int i), some (.int j), some (.int p), some (.ref (r.length + 17)), some bh, none]) (h := S.s1.hp (r1 ++ g)) ⟨r1 ++ g, bh, none, rfl, by rw [List.take_zero, Sh.mov_nil], by rw [List.take_zero]; exact D1.grow g, zE hq, by rw [List.take_zero, Sh.mov_nil]; exact hA, fun q o _ _ h => by rw [← hr1]; exact zE (zE h)⟩
  rw [List.length_map] at e Dz
  rw [List.take_length] at e Dz
  have Dz' : Dy (S.s1.mov at_ is) (y7 S.st.length mvs S.b.length is) cus r2 := ⟨Dz.ml, Dz.cl, Dz.m, Dz.c, Dz.nd⟩
  obtain ⟨g2, en⟩ := QV X (n := n) (hd := .int hd) (wd := .str "move") (q := r.length + 2) (is := is) (K.mov (i := at_) hs nd hi (QF hb (Nat.le_trans lis (by decide)))) Dz' hq2 hi (by show S.dn.length < 200; rw [← hst]; exact hs0)
  refine ⟨r2 ++ g2, .tup [.int hd, .str "move", .ref (r.length + 17)], at_, t1, t2, haL, ?_, Dz.grow g2, fun q o h1 h2 h3 => zE (kp q o h1 h2 h3), r.length + 2, Nat.le_add_right _ _, rfl, zE hq2⟩
  rw [zK X.kBa]
  refine zL (fr := [some (.ref 1), some (.int hd), some (.int i), some (.int j), some (.int p), none, none, none]) rfl rfl (fr' := [some (.ref 1), some (.int hd), some (.int i), some (.int j), some (.int p), some (.ref (r.length + 17)), some w6, w7]) ?_
  unfold kBa
  dsimp only
  rw [z5 (zU (zF (a := 1) (z3 rfl) rfl qj (ev1 (z3 rfl) ev0) (wg X (n := n + 3) d0 d1)))]
  rw [z5 (zU (zF (a := 1) (z3 rfl) rfl x9 (ev1 (z3 rfl) (ev1 (z3 rfl) ev0)) (qT X (n := n + 1) h0 h1 p2)))]
  rw [z5 (zU (zF (a := 1) (z3 rfl) rfl yB (ev1 (z3 rfl) ev0) (yq X (n := n + 2) p0 p3)))]
  have et : zN (z4 2) [.Lt, .Lt] [(z4 4), (z4 3)] (run T (n + 5)) [some (.ref 1), some (.int hd), some (.int i), some (.int j), some (.int p), none, none, none] (S.hp r) = .ok false (S.hp r) := by
    by_cases hip : i < p
    · exact yu (z3 rfl) (z3 rfl) (by rw [yM, decide_eq_true hip]) (z3 rfl) (by rw [yM, decide_eq_false fun q => hp ⟨hip, q⟩])
    · exact Z8 (z3 rfl) (z3 rfl) (by rw [yM, decide_eq_false hip])
  rw [z5 ((zH et).trans zC)]
  rw [z5 (zW (j := 5) ec (zc rfl))]
  rw [z5 (zW (j := 6) (zF (a := 1) (z3 rfl) rfl wY (ev1 (z3 rfl) ev0) ea) (zc rfl))]
  show z9 _ _ [some (.ref 1), some (.int hd), some (.int i), some (.int j), some (.int p), some (.ref (r.length + 17)), some bh, none] (S.hp (r1 ++ g)) = _
  rw [z5 (QI X (n := n + 5) rfl (hs0))]
  have es : yk (S.s1.hp (r1 ++ g)) (.ref (r.length + 17)) = some (.ref (r.length + 17), is.length) := by
    show (match (r1 ++ g)[r.length + 2]? with | some (.list xs) => some (Src.ref (r.length + 17), xs.length) | _ => none) = _
    rw [zE hq]
    show some (_, (is.map AV.int).length) = _
    rw [List.length_map]
  have ef := qp (en := false) (x := z4 5) (fr := [some (.ref 1), some (.int hd), some (.int i), some (.int j), some (.int p), some (.ref (r.length + 17)), some bh, none]) (z3 rfl) es e
  rw [z5 ef]
  exact zJ (zd (zF (a := 1) (z3 rfl) rfl ZW (ev1 (z3 rfl) (ev1 rfl (ev1 (z3 rfl) ev0))) en))
end
theorem Qg {b : List Bool} {x y : Int} {v : Bool} (hx : 0 ≤ x) (hy : 0 ≤ y) (hl : y < b.length) : fl (b.set y.toNat v) x = if x = y then v else fl b x := by
  unfold fl
  by_cases h : x = y
  · subst h
    rw [if_pos rfl, List.getElem?_set_self (by lia)]; rfl
  · rw [if_neg h, List.getElem?_set_ne (fun e => h (Yu hx hy e.symm))]
theorem zCe {x : Int} (hx : 0 ≤ x) {xs : List Int} : ∀ {b : List Bool}, (∀ y ∈ xs, 0 ≤ y ∧ y < b.length) → fl (w9 b xs) x = if x ∈ xs then false else fl b x := by
  induction xs with
  | nil => intro b _; rw [if_neg List.not_mem_nil]; rfl
  | cons y xs ih =>
    intro b hr
    obtain ⟨y0, y1⟩ := hr y (.head _)
    show fl (w9 (b.set y.toNat false) xs) x = _
    rw [ih fun z hz => by rw [List.length_set]; exact hr z (.tail _ hz), Qg hx y0 y1]
    by_cases h1 : x ∈ xs
    · rw [if_pos h1, if_pos (.tail _ h1)]
    · rw [if_neg h1]
      by_cases h2 : x = y
      · rw [if_pos h2, if_pos (h2 ▸ .head _)]
      · rw [if_neg h2, if_neg fun q => by
          rcases List.mem_cons.mp q with q | q
          · exact h2 q
          · exact h1 q]
def gI (l : List Int) (x : Int) : Int := l[x.toNat]?.getD 0
def gM (l : List (List (Int × Int))) (x : Int) : List (Int × Int) := l[x.toNat]?.getD []
def inS (fi : List Int) (mvs : List (List (Int × Int))) (x i : Int) : Prop := x = gI fi i ∨ ∃ p ∈ gM mvs i, p.2 = x
def gC (l : List (List Int)) (x : Int) : List Int := l[x.toNat]?.getD []
theorem Qi {S : Sh} {mvs : List (List (Int × Int))} {i : Int} : inS S.fi mvs (S.cur mvs i) i := (ZY (st := S.st) (gM mvs i) (gI S.fi i)).imp id fun ⟨p, hp, h⟩ => ⟨p, hp, h.symm⟩
def Sh.tgt (S : Sh) (mvs : List (List (Int × Int))) (cus : List (List Int)) (x : Int) : Bool := S.shw cus (gI S.ow x) && decide (x = S.cur mvs (gI S.ow x))
structure Own (S : Sh) (mvs : List (List (Int × Int))) : Prop where
  seats : ∀ (x : Int), 0 ≤ x → x < S.b.length → inS S.fi mvs x (gI S.ow x)
  back : ∀ (i : Int), 0 ≤ i → i < S.le.length → ∀ (x : Int), inS S.fi mvs x i → gI S.ow x = i ∧ 0 ≤ x ∧ x < S.b.length
theorem JR {S : Sh} {mvs : List (List (Int × Int))} (W : Own S mvs) {cus : List (List Int)} {b : List Bool} (hb : b.length = S.b.length) {x i : Int} (x0 : 0 ≤ x) (x1 : x < S.b.length) (i0 : 0 ≤ i) (i1 : i < S.le.length) :
    fl (jh S mvs cus b i) x = if gI S.ow x = i then S.tgt mvs cus x else fl b x := by
  have f := W.back i i0 i1 _ (.inl rfl)
  have c := W.back i i0 i1 _ Qi
  have hb1 : (b.set (gI S.fi i).toNat false).length = S.b.length := List.length_set.trans hb
  have off : fl (w9 (b.set (gI S.fi i).toNat false) ((gM mvs i).map (·.2))) x = if gI S.ow x = i then false else fl b x := by
    rw [zCe x0 (fun y hy => by
      obtain ⟨p, hp, rfl⟩ := List.mem_map.mp hy
      rw [hb1]; exact (W.back i i0 i1 _ (.inr ⟨p, hp, rfl⟩)).2), Qg x0 f.2.1 (by rw [hb]; exact f.2.2)]
    by_cases h : gI S.ow x = i
    · rw [if_pos h]
      rcases h ▸ W.seats x x0 x1 with q | ⟨p, hp, q⟩
      · rw [if_pos q]
        split <;> rfl
      · rw [if_pos (List.mem_map.mpr ⟨p, hp, q⟩)]
    · rw [if_neg h, if_neg fun q => by
        obtain ⟨p, hp, q⟩ := List.mem_map.mp q
        exact h (W.back i i0 i1 x (.inr ⟨p, hp, q⟩)).1, if_neg fun q => h (W.back i i0 i1 x (.inl q)).1]
  have e : jh S mvs cus b i = bif S.shw cus i then (w9 (b.set (gI S.fi i).toNat false) ((gM mvs i).map (·.2))).set (S.cur mvs i).toNat true else w9 (b.set (gI S.fi i).toNat false) ((gM mvs i).map (·.2)) := rfl
  rw [e]
  unfold Sh.tgt
  cases hc : S.shw cus i with
  | true =>
    show fl (List.set _ _ _) x = _
    rw [Qg x0 c.2.1 (by rw [w8, hb1]; exact c.2.2), off]
    by_cases h : gI S.ow x = i
    · rw [if_pos h, if_pos h, h, hc, Bool.true_and]
      by_cases q : x = S.cur mvs i
      · rw [if_pos q, decide_eq_true q]
      · rw [if_neg q, decide_eq_false q]
    · rw [if_neg h, if_neg h, if_neg (fun (q : x = S.cur mvs i) => h (by rw [q]; exact c.1))]
  | false =>
    show fl (w9 _ _) x = _
    rw [off]
    by_cases h : gI S.ow x = i
    · rw [if_pos h, if_pos h, h, hc, Bool.false_and]
    · rw [if_neg h, if_neg h]
theorem JQ {S : Sh} {mvs : List (List (Int × Int))} (W : Own S mvs) {cus : List (List Int)} {x : Int} (x0 : 0 ≤ x) (x1 : x < S.b.length) {is : List Int} : ∀ {b : List Bool}, b.length = S.b.length → (∀ i ∈ is, 0 ≤ i ∧ i < S.le.length) →
    fl (yW S mvs cus b is) x = if gI S.ow x ∈ is then S.tgt mvs cus x else fl b x := by
  induction is with
  | nil => intro b _ _; rw [if_neg List.not_mem_nil]; rfl
  | cons i is ih =>
    intro b hb hi
    obtain ⟨i0, i1⟩ := hi i (.head _)
    show fl (yW S mvs cus (jh S mvs cus b i) is) x = _
    rw [ih ((Y2 b i).trans hb) fun j hj => hi j (.tail _ hj), JR W hb x0 x1 i0 i1]
    by_cases h1 : gI S.ow x ∈ is
    · rw [if_pos h1, if_pos (.tail _ h1)]
    · rw [if_neg h1]
      by_cases h2 : gI S.ow x = i
      · rw [if_pos h2, if_pos (h2 ▸ .head _)]
      · rw [if_neg h2, if_neg fun q => by
          rcases List.mem_cons.mp q with q | q
          · exact h2 q
          · exact h1 q]
structure Iw (S : Sh) (mvs : List (List (Int × Int))) (cus : List (List Int)) (sg : List (List Int)) : Prop where
  O : Ok1 S
  K : Sg S mvs cus
  W : Own S mvs
  st : S.st.length = S.dn.length
  sl : sg.length = S.dn.length
  sr : ∀ us ∈ sg, ∀ i ∈ us, 0 ≤ i ∧ i < S.le.length
  dc : ∀ i : Int, 0 ≤ i → i < S.le.length → ∀ d ∈ gC cus i, i ∈ gC sg d
  dm : ∀ i : Int, 0 ≤ i → i < S.le.length → ∀ p ∈ gM mvs i, i ∈ gC sg p.1
  db : ∀ i d : Int, 0 ≤ i → i < S.le.length → S.br[i.toNat]? = some (.int d) → i ∈ gC sg d
structure Iv (S : Sh) (mvs : List (List (Int × Int))) (cus : List (List Int)) (sg : List (List Int)) : Prop where
  I : Iw S mvs cus sg
  flag : ∀ (x : Int), 0 ≤ x → x < S.b.length → fl S.b x = S.tgt mvs cus x
section
variable {S : Sh} {mvs : List (List (Int × Int))} {cus sg : List (List Int)}
theorem Iw.wb (I : Iw S mvs cus sg) {b : List Bool} (h : b.length = S.b.length) : Iw (S.wb b) mvs cus sg :=
  ⟨⟨⟨by show S.l.Perm ((List.range b.length).map _); rw [h]; exact I.O.G.perm, by show b.length < 200; rw [h]; exact I.O.G.sm⟩, I.O.ow.trans h.symm, I.O.own, I.O.le⟩, I.K.wb h,
    ⟨fun x x0 x1 => I.W.seats x x0 (by rw [← h]; exact x1), fun i i0 i1 x hx => by show _ ∧ 0 ≤ x ∧ x < (b.length : Int); rw [h]; exact I.W.back i i0 i1 x hx⟩, I.st, I.sl, I.sr, I.dc, I.dm, I.db⟩
theorem Iw.seat (I : Iw S mvs cus sg) {is : List Int} (hi : ∀ i ∈ is, 0 ≤ i ∧ i < S.le.length) (hf : ∀ x : Int, 0 ≤ x → x < S.b.length → gI S.ow x ∉ is → fl S.b x = S.tgt mvs cus x) : Iv (S.wb (yW S mvs cus S.b is)) mvs cus sg := by
  have hl : (yW S mvs cus S.b is).length = S.b.length := xW _ _
  refine ⟨I.wb hl, fun x x0 x1 => ?_⟩
  have x1 : x < S.b.length := by rw [← hl]; exact x1
  refine (JQ I.W x0 x1 rfl hi).trans ?_
  by_cases h : gI S.ow x ∈ is
  · rw [if_pos h]; rfl
  · rw [if_neg h]; exact hf x x0 x1 h
variable (V : Iv S mvs cus sg)
include V
theorem Iv.tk_mem {x : Int} (h : x ∈ tk S.b S.l) : (0 ≤ x ∧ x < S.b.length) ∧ S.shw cus (gI S.ow x) = true ∧ x = S.cur mvs (gI S.ow x) := by
  obtain ⟨h1, h2⟩ := List.mem_filter.mp h
  obtain ⟨x0, x1⟩ := V.I.O.G.rng x h1
  rw [V.flag x x0 x1] at h2
  obtain ⟨a, c⟩ := Bool.and_eq_true_iff.mp h2
  exact ⟨⟨x0, x1⟩, a, of_decide_eq_true c⟩
theorem Iv.sh_nodup : S.sh.Nodup := by
  show ((tk S.b S.l).map fun x => gI S.ow x).Nodup
  have nd : (tk S.b S.l).Nodup := V.I.O.G.nodup.filter _
  rw [List.nodup_iff_pairwise_ne, List.pairwise_map]
  refine List.Pairwise.imp_of_mem (fun {x y} hx hy hne e => hne ?_) (List.nodup_iff_pairwise_ne.mp nd)
  have a := (V.tk_mem hx).2.2
  have c := (V.tk_mem hy).2.2
  rw [a, c, e]
end
section
variable {S : Sh} {mvs : List (List (Int × Int))} {cus sg : List (List Int)}
theorem Iw.own_at (I : Iw S mvs cus sg) {x : Int} (x0 : 0 ≤ x) (x1 : x < S.b.length) : 0 ≤ gI S.ow x ∧ gI S.ow x < S.le.length := by
  have h2 : x.toNat < S.ow.length := by rw [I.O.ow]; exact wv x0 x1
  unfold gI
  rw [y9 h2]
  exact I.O.own _ (List.getElem_mem h2)
theorem X0 {st st' : List Bool} {ps : List (Int × Int)} : ∀ {f : Int}, (∀ p ∈ ps, fl st p.1 = fl st' p.1) → yH st f ps = yH st' f ps := by
  induction ps with
  | nil => intro f _; rfl
  | cons p ps ih =>
    intro f h
    show yH st (if fl st p.1 then p.2 else f) ps = yH st' (if fl st' p.1 then p.2 else f) ps
    rw [h p (.head _)]
    exact ih fun q hq => h q (.tail _ hq)
theorem wK {S' : Sh} {mvs' : List (List (Int × Int))} {cus' : List (List Int)} {x i : Int} (e0 : gI S.ow x = i) (e1 : gI S'.ow x = i) (ef : gI S'.fi i = gI S.fi i) (em : gM mvs' i = gM mvs i) (ec : gC cus' i = gC cus i) (eb : S'.br[i.toNat]? = S.br[i.toNat]?)
    (hc : ∀ d ∈ gC cus i, fl S.st d = fl S'.st d) (hm : ∀ p ∈ gM mvs i, fl S.st p.1 = fl S'.st p.1) (hb : ∀ d, S.br[i.toNat]? = some (.int d) → fl S.st d = fl S'.st d) : S.tgt mvs cus x = S'.tgt mvs' cus' x := by
  have c1 : S.cur mvs i = S'.cur mvs' i := by
    show yH S.st (gI S.fi i) (gM mvs i) = yH S'.st (gI S'.fi i) (gM mvs' i)
    rw [ef, em]; exact X0 hm
  have c2 : S.shw cus i = S'.shw cus' i := by
    show (Qm S.st (S.br[i.toNat]?.getD .none) && !(gC cus i).any (fl S.st)) = (Qm S'.st (S'.br[i.toNat]?.getD .none) && !(gC cus' i).any (fl S'.st))
    have a1 : (gC cus i).any (fl S.st) = (gC cus i).any (fl S'.st) := by
      rw [Bool.eq_iff_iff, List.any_eq_true, List.any_eq_true]
      exact ⟨fun ⟨d, h, e⟩ => ⟨d, h, by rw [← hc d h]; exact e⟩, fun ⟨d, h, e⟩ => ⟨d, h, by rw [hc d h]; exact e⟩⟩
    rw [ec, eb, a1]
    congr 1
    cases h : S.br[i.toNat]? with
    | none => rfl
    | some v =>
      cases v with
      | int d => exact hb d h
      | _ => rfl
  unfold Sh.tgt
  rw [e0, e1, c1, c2]
theorem ZE {st : List Bool} {d : Int} (h0 : 0 ≤ d) (h1 : d < st.length) : fl st d = fl (st ++ [true]) d := by
  unfold fl; rw [List.getElem?_append_left (wv h0 h1)]
end
theorem wE {a k j : Nat} (h : j < k) : (ze a k)[j]? = some ((a + j : Nat) : Int) := by
  unfold ze
  rw [List.getElem?_map, List.getElem?_range h]; rfl
theorem xt {l m : List Int} {x : Int} (h0 : 0 ≤ x) (h1 : x < l.length) : gI (l ++ m) x = gI l x := by
  unfold gI; rw [List.getElem?_append_left (wv h0 h1)]
theorem qE {l m : List Int} {x v : Int} {j : Nat} (h0 : x = ((l.length + j : Nat) : Int)) (h1 : m[j]? = some v) : gI (l ++ m) x = v := by
  unfold gI
  rw [h0, Int.toNat_natCast, List.getElem?_append_right (Nat.le_add_right _ _), Nat.add_sub_cancel_left, h1]; rfl
theorem Zd {mvs : List (List (Int × Int))} {k : Nat} {i : Int} : gM (mvs ++ List.replicate k []) i = gM mvs i := by
  unfold gM
  by_cases h : i.toNat < mvs.length
  · rw [List.getElem?_append_left h]
  · rw [List.getElem?_append_right (by lia), List.getElem?_eq_none (l := mvs) (by lia), List.getElem?_replicate]
    split <;> rfl
theorem Xz {l : List Int} {b b' : List Bool} (G : Good l b) {i k : Nat} (h : b'.length = b.length + k) (hs : b'.length < 200) : Good (l.take i ++ ze b.length k ++ l.drop i) b' := by
  refine ⟨?_, hs⟩
  have e : (List.range b'.length).map (fun (k : Nat) => (k : Int)) = (List.range b.length).map (fun (k : Nat) => (k : Int)) ++ ze b.length k := by
    rw [h, List.range_add, List.map_append, List.map_map]; rfl
  rw [e]
  have p1 : (l.take i ++ ze b.length k ++ l.drop i).Perm (l ++ ze b.length k) := by
    rw [List.append_assoc]
    conv => rhs; rw [← List.take_append_drop i l, List.append_assoc]
    exact List.Perm.append_left _ List.perm_append_comm
  exact p1.trans (G.perm.append_right _)
theorem Jn {l m : List Int} {k n : Nat} (hl : l.length = n) (hm : m.length = k) : (ze n k).map (fun x => gI (l ++ m) x) = m := by
  apply List.ext_getElem?
  intro j
  rw [List.getElem?_map]
  by_cases h : j < k
  · rw [wE h]
    have := y9 (l := m) (i := j) (by lia)
    rw [this]
    exact congrArg some (qE (j := j) (by rw [hl]) this)
  · rw [List.getElem?_eq_none (by rw [yY]; lia), List.getElem?_eq_none (by lia)]; rfl
theorem Qf {cus : List (List Int)} {k : Nat} {i : Int} : gC (cus ++ List.replicate k []) i = gC cus i := by
  unfold gC
  by_cases h : i.toNat < cus.length
  · rw [List.getElem?_append_left h]
  · rw [List.getElem?_append_right (Nat.not_lt.mp h), List.getElem?_eq_none (l := cus) (Nat.not_lt.mp h), List.getElem?_replicate]
    split <;> rfl
theorem xK {sg : List (List Int)} {us : List Int} {i d : Int} (h : i ∈ gC sg d) : i ∈ gC (sg ++ [us]) d := by
  unfold gC at h ⊢
  cases e : sg[d.toNat]? with
  | none => rw [e] at h; cases h
  | some vs => rw [e] at h; rw [List.getElem?_append_left (y8 e).1, e]; exact h
theorem X3 {sg : List (List Int)} {us : List Int} {n : Nat} (h : sg.length = n) : gC (sg ++ [us]) (n : Int) = us := by
  unfold gC; rw [Int.toNat_natCast, ← h, List.getElem?_append_right (Nat.le_refl _), Nat.sub_self]; rfl
theorem z04 {l : List (List Int)} {i d : Int} (h : d ∈ gC l i) : i.toNat < l.length := by
  unfold gC at h
  cases e : l[i.toNat]? with
  | none => rw [e] at h; cases h
  | some vs => exact (y8 e).1
theorem z02 {l : List (List (Int × Int))} {i : Int} {p : Int × Int} (h : p ∈ gM l i) : i.toNat < l.length := by
  unfold gM at h
  cases e : l[i.toNat]? with
  | none => rw [e] at h; cases h
  | some vs => exact (y8 e).1
abbrev Sh.sd (S : Sh) (x : AV) : Sh := { S with st := S.st ++ [true], dn := S.dn ++ [x] }
theorem Sg.sd {S : Sh} {mvs : List (List (Int × Int))} {cus : List (List Int)} (K : Sg S mvs cus) (h : S.s1.st.length < 200) (x : AV) : Sg (S.sd x) mvs cus :=
  have K := K.st1 h
  ⟨K.fi, K.br, K.mv, K.cu, K.fr, K.mr, K.dr, K.bn, K.ps, K.cs, K.sl, K.st, K.sb⟩
section
variable {S : Sh} {mvs : List (List (Int × Int))} {cus sg : List (List Int)} (I : Iw S mvs cus sg) {i q : Nat} {x : AV} {d : AV} {cs : List Nat}
include I
theorem Iw.put_own : Own ((S.sd x).adds i d q cs) (mvs ++ List.replicate cs.length []) := by
  have lb : ((S.sd x).adds i d q cs).b.length = S.b.length + cs.length := by show (S.b ++ List.replicate cs.length true).length = _; rw [zP, List.length_replicate]
  have ll : ((S.sd x).adds i d q cs).le.length = S.le.length + cs.length := zP
  have hf := I.K.fi
  have ho := I.O.ow
  have new : ∀ j, j < cs.length → gI (S.ow ++ ze S.le.length cs.length) ((S.b.length + j : Nat) : Int) = ((S.le.length + j : Nat) : Int) ∧ gI (S.fi ++ ze S.b.length cs.length) ((S.le.length + j : Nat) : Int) = ((S.b.length + j : Nat) : Int) := fun j hj =>
    ⟨qE (by rw [ho]) (wE hj), qE (by rw [hf]) (wE hj)⟩
  refine ⟨fun x x0 x1 => ?_, fun s s0 s1 x hx => ?_⟩
  · rw [lb] at x1
    show inS (S.fi ++ ze S.b.length cs.length) _ x (gI (S.ow ++ ze S.le.length cs.length) x)
    by_cases h : x < S.b.length
    · obtain ⟨a, c⟩ := I.own_at x0 h
      rw [xt x0 (by rw [ho]; exact h)]
      unfold inS
      rw [xt a (by rw [hf]; exact c), Zd]
      exact I.W.seats x x0 h
    · obtain ⟨e1, e2⟩ := new (x.toNat - S.b.length) (YW x0 x1 h)
      have ex : ((S.b.length + (x.toNat - S.b.length) : Nat) : Int) = x := Zt x0 h
      rw [ex] at e1 e2
      rw [e1]
      exact .inl e2.symm
  · rw [ll] at s1
    rw [lb]
    show gI (S.ow ++ ze S.le.length cs.length) x = s ∧ _
    have hx' : x = gI (S.fi ++ ze S.b.length cs.length) s ∨ ∃ p ∈ gM (mvs ++ List.replicate cs.length []) s, p.2 = x := hx
    rw [Zd] at hx'
    by_cases h : s < S.le.length
    · rw [xt s0 (by rw [hf]; exact h)] at hx'
      obtain ⟨a, c, e⟩ := I.W.back s s0 h x hx'
      rw [xt c (by rw [ho]; exact e)]
      exact ⟨a, c, XD _ e⟩
    · obtain ⟨e1, e2⟩ := new (s.toNat - S.le.length) (YW s0 s1 h)
      have es : ((S.le.length + (s.toNat - S.le.length) : Nat) : Int) = s := Zt s0 h
      rw [es] at e1 e2
      rw [e2] at hx'
      have hm : gM mvs s = [] := by
        unfold gM
        rw [List.getElem?_eq_none (by rw [I.K.mv]; lia)]; rfl
      rw [hm] at hx'
      rcases hx' with hx' | ⟨p, hp, _⟩
      · subst hx'
        exact ⟨e1, Int.natCast_nonneg _, Int.ofNat_lt.mpr (Nat.add_lt_add_left (YW s0 s1 h) _)⟩
      · cases hp
theorem Iw.fls {j : Int} : (∀ d ∈ gC cus j, fl S.st d = fl (S.st ++ [true]) d) ∧ (∀ p ∈ gM mvs j, fl S.st p.1 = fl (S.st ++ [true]) p.1) ∧ ∀ d, S.br[j.toNat]? = some (.int d) → fl S.st d = fl (S.st ++ [true]) d := by
  refine ⟨fun d hd => ?_, fun p hp => ?_, fun d hd => ?_⟩
  · have e := y9 (z04 hd)
    obtain ⟨q0, q1⟩ := I.K.dr _ (yI e) d (by unfold gC at hd; rw [e] at hd; exact hd)
    exact ZE q0 q1
  · have e := y9 (z02 hp)
    obtain ⟨⟨q0, q1⟩, _⟩ := I.K.mr _ (yI e) p (by unfold gM at hp; rw [e] at hp; exact hp)
    exact ZE q0 q1
  · rcases I.K.bn _ (yI hd) with q | ⟨d', q, q0, q1⟩
    · cases q
    · cases q; exact ZE q0 q1
theorem Iw.put_new {y : Int} (y0 : 0 ≤ y) (h : ¬ y < S.b.length) (y1 : y < ((S.b.length + cs.length : Nat) : Int)) : gI (S.ow ++ ze S.le.length cs.length) y ∈ ze S.le.length cs.length := by
  have hj := YW y0 y1 h
  rw [qE (j := y.toNat - S.b.length) (by rw [I.O.ow]; exact (Zt y0 h).symm) (wE hj)]
  exact List.mem_map.mpr ⟨_, List.mem_range.mpr hj, rfl⟩
theorem Iw.put (hs : S.s1.st.length < 200) (hb : S.b.length + cs.length < 200) (he : S.le.length + cs.length < 200) :
    Iw ((S.sd x).adds i (.int S.dn.length) q cs) (mvs ++ List.replicate cs.length []) (cus ++ List.replicate cs.length []) (sg ++ [ze S.le.length cs.length]) := by
  have hst := I.st
  have K2 := (I.K.sd hs x).adds (i := i) (q := q) (d := S.dn.length) (cs := cs) ⟨Int.natCast_nonneg _, by rw [← hst]; exact jg⟩ hb he
  have lb : ((S.sd x).adds i (.int S.dn.length) q cs).b.length = S.b.length + cs.length := by show (S.b ++ List.replicate cs.length true).length = _; rw [zP, List.length_replicate]
  have ll : ((S.sd x).adds i (.int S.dn.length) q cs).le.length = S.le.length + cs.length := zP
  have ls : sg.length = S.dn.length := I.sl
  refine ⟨⟨Xz I.O.G lb (by rw [lb]; exact hb), ?_, ?_, K2.sl⟩, K2, I.put_own, ?_, ?_, fun us hu j hj => ?_, fun j j0 j1 d hd => ?_, fun j j0 j1 p hp => ?_, fun j d j0 j1 hd => ?_⟩
  · rw [lb]; show (S.ow ++ ze S.le.length cs.length).length = _
    rw [zP, yY, I.O.ow]
  · intro j hj
    rw [ll]
    rcases xa (show j ∈ S.ow ++ ze S.le.length cs.length from hj) with hj | hj
    · exact ⟨(I.O.own j hj).1, XD _ (I.O.own j hj).2⟩
    · exact ⟨Int.le_trans (Int.natCast_nonneg _) (yg hj).1, (yg hj).2⟩
  · show (S.st ++ [true]).length = (S.dn ++ [x]).length
    rw [zP, zP, hst]; rfl
  · show (sg ++ [_]).length = (S.dn ++ [x]).length
    rw [zP, zP, ls]; rfl
  · rw [ll]
    rcases xa hu with hu | hu
    · exact ⟨(I.sr us hu j hj).1, XD _ (I.sr us hu j hj).2⟩
    · rw [xD hu] at hj
      exact ⟨Int.le_trans (Int.natCast_nonneg _) (yg hj).1, (yg hj).2⟩
  · rw [Qf] at hd
    exact xK (I.dc j j0 ((Int.toNat_lt j0).mp (I.K.cu ▸ z04 hd)) d hd)
  · rw [Zd] at hp
    exact xK (I.dm j j0 ((Int.toNat_lt j0).mp (I.K.mv ▸ z02 hp)) p hp)
  · have hd : (S.br ++ List.replicate cs.length (AV.int S.dn.length))[j.toNat]? = some (.int d) := hd
    rcases jJ hd with ⟨a, c⟩ | ⟨a, c⟩
    · exact xK (I.db j d j0 ((Int.toNat_lt j0).mp (I.K.br ▸ a)) c)
    · rw [I.K.br] at a c
      rw [List.getElem?_replicate] at c
      obtain ⟨h1, h2⟩ := jU c
      cases h2
      rw [X3 ls]
      exact List.mem_map.mpr ⟨_, List.mem_range.mpr h1, Zt j0 (fun q => absurd (wv j0 q) (Nat.not_lt.mpr a))⟩
omit I
theorem Iv.put (V : Iv S mvs cus sg) (hs : S.s1.st.length < 200) (hb : S.b.length + cs.length < 200) (he : S.le.length + cs.length < 200) :
    Iv ({ S.s1.adds i (.int S.dn.length) q cs with b := yW (S.s1.adds i (.int S.dn.length) q cs) (mvs ++ List.replicate cs.length []) (cus ++ List.replicate cs.length []) (S.s1.adds i (.int S.dn.length) q cs).b (ze S.le.length cs.length), dn := S.dn ++ [x] } : Sh) (mvs ++ List.replicate cs.length []) (cus ++ List.replicate cs.length []) (sg ++ [ze S.le.length cs.length]) := by
  have I := V.I
  have I2 := I.put (i := i) (q := q) (x := x) (cs := cs) hs hb he
  have lb : ((S.sd x).adds i (.int S.dn.length) q cs).b.length = S.b.length + cs.length := by show (S.b ++ List.replicate cs.length true).length = _; rw [zP, List.length_replicate]
  refine I2.seat (is := ze S.le.length cs.length) (fun j hj => I2.sr _ (List.mem_append_right _ (List.mem_singleton.mpr rfl)) j hj) fun y y0 y1 hn => ?_
  by_cases h : y < S.b.length
  · obtain ⟨a, c⟩ := I.own_at y0 h
    have e : fl (S.b ++ List.replicate cs.length true) y = fl S.b y := by unfold fl; rw [List.getElem?_append_left (wv y0 h)]
    refine (e.trans (V.flag y y0 h)).trans ?_
    refine wK rfl (xt y0 (by rw [I.O.ow]; exact h)) (xt a (by rw [I.K.fi]; exact c)) Zd Qf (List.getElem?_append_left (by rw [I.K.br]; exact wv a c)) I.fls.1 I.fls.2.1 I.fls.2.2
  · exact absurd (I.put_new y0 h (by rw [← lb]; exact y1)) hn
end
section
variable {S : Sh} {mvs : List (List (Int × Int))} {cus sg : List (List Int)} {is : List Int} {x : AV}
theorem Iw.cut_at (I : Iw S mvs cus sg) (nd : is.Nodup) (hi : ∀ i ∈ is, 0 ≤ i ∧ i < S.le.length) {j : Int} (j0 : 0 ≤ j) : gC (yj S.st.length cus is) j = if j ∈ is then gC cus j ++ [(S.st.length : Int)] else gC cus j := by
  unfold gC
  rw [YL (d := S.st.length) j0 nd (fun i h => by rw [I.K.cu]; exact hi i h)]
  by_cases h : j ∈ is
  · rw [if_pos h, if_pos h, y9 (l := cus) (i := j.toNat) (by rw [I.K.cu]; exact wv (hi j h).1 (hi j h).2)]; rfl
  · rw [if_neg h, if_neg h]
theorem Iw.cut (I : Iw S mvs cus sg) (nd : is.Nodup) (hi : ∀ i ∈ is, 0 ≤ i ∧ i < S.le.length) (hs : S.s1.st.length < 200) : Iw (S.sd x) mvs (yj S.st.length cus is) (sg ++ [is]) := by
  have K := I.K.cut hs nd hi
  have ls : sg.length = S.st.length := I.sl.trans I.st.symm
  refine ⟨⟨I.O.G, I.O.ow, I.O.own, I.O.le⟩, ⟨K.fi, K.br, K.mv, K.cu, K.fr, K.mr, K.dr, K.bn, K.ps, K.cs, K.sl, K.st, K.sb⟩, ⟨I.W.seats, I.W.back⟩, ?_, ?_, fun us hu j hj => ?_, fun j j0 j1 d hd => ?_, fun j j0 j1 p hp => xK (I.dm j j0 j1 p hp), fun j d j0 j1 hd => xK (I.db j d j0 j1 hd)⟩
  · show (S.st ++ [true]).length = (S.dn ++ [x]).length
    rw [zP, zP, I.st]; rfl
  · show (sg ++ [_]).length = (S.dn ++ [x]).length
    rw [zP, zP, I.sl]; rfl
  · rcases xa hu with hu | hu
    · exact I.sr us hu j hj
    · rw [xD hu] at hj; exact hi j hj
  · rw [I.cut_at nd hi j0] at hd
    by_cases h : j ∈ is
    · rw [if_pos h] at hd
      rcases xa hd with hd | hd
      · exact xK (I.dc j j0 j1 d hd)
      · rw [xD hd, X3 ls]; exact h
    · rw [if_neg h] at hd; exact xK (I.dc j j0 j1 d hd)
theorem Iv.cut (V : Iv S mvs cus sg) (nd : is.Nodup) (hi : ∀ i ∈ is, 0 ≤ i ∧ i < S.le.length) (hs : S.s1.st.length < 200) :
    Iv ({ S.s1 with b := yW S.s1 mvs (yj S.st.length cus is) S.b is, dn := S.dn ++ [x] } : Sh) mvs (yj S.st.length cus is) (sg ++ [is]) := by
  have I := V.I
  refine (I.cut (x := x) nd hi hs).seat (is := is) hi fun y y0 y1 hn => (V.flag y y0 y1).trans ?_
  exact wK rfl rfl rfl rfl ((I.cut_at nd hi (I.own_at y0 y1).1).trans (if_neg hn)) rfl I.fls.1 I.fls.2.1 I.fls.2.2
end
section
variable {S : Sh} {mvs : List (List (Int × Int))} {cus sg : List (List Int)} (I : Iw S mvs cus sg) {a : Nat} {is : List Int} {x : AV}
include I
theorem Iw.mv_at (nd : is.Nodup) (hi : ∀ i ∈ is, 0 ≤ i ∧ i < S.le.length) {s : Int} (s0 : 0 ≤ s) :
    (s ∉ is → gM (y7 S.st.length mvs S.b.length is) s = gM mvs s) ∧ ∀ k : Nat, is[k]? = some s → gM (y7 S.st.length mvs S.b.length is) s = gM mvs s ++ [((S.st.length : Int), ((S.b.length + k : Nat) : Int))] := by
  obtain ⟨m1, m2⟩ := YA (d := S.st.length) (j := s) s0 (mvs := mvs) (n := S.b.length) nd (fun z hz => by rw [I.K.mv]; exact hi z hz)
  refine ⟨fun h => ?_, fun k h => ?_⟩
  · unfold gM; rw [m1 h]
  · have hs := hi s (yI h)
    have e := y9 (l := mvs) (i := s.toNat) (by rw [I.K.mv]; lia)
    unfold gM
    rw [m2 k h, e]; rfl
theorem Iw.mov_own (nd : is.Nodup) (hi : ∀ i ∈ is, 0 ≤ i ∧ i < S.le.length) : Own ((S.sd x).mov a is) (y7 S.st.length mvs S.b.length is) := by
  have lb : ((S.sd x).mov a is).b.length = S.b.length + is.length := by show (S.b ++ List.replicate is.length false).length = _; rw [zP, List.length_replicate]
  have ho := I.O.ow
  refine ⟨fun x x0 x1 => ?_, fun s s0 s1 x hx => ?_⟩
  · rw [lb] at x1
    show inS S.fi _ x (gI (S.ow ++ is) x)
    by_cases h : x < S.b.length
    · obtain ⟨a0, c⟩ := I.own_at x0 h
      rw [xt x0 (by rw [ho]; exact h)]
      rcases I.W.seats x x0 h with e | ⟨p, hp, e⟩
      · exact .inl e
      · refine .inr ⟨p, ?_, e⟩
        by_cases q : gI S.ow x ∈ is
        · obtain ⟨k, hk⟩ := List.getElem?_of_mem q
          rw [(I.mv_at nd hi a0).2 k hk]
          exact List.mem_append_left _ hp
        · rw [(I.mv_at nd hi a0).1 q]; exact hp
    · have hk : x.toNat - S.b.length < is.length := YW x0 x1 h
      have e := y9 hk
      rw [qE (l := S.ow) (m := is) (x := x) (j := x.toNat - S.b.length) (by rw [ho]; exact (Zt x0 h).symm) e]
      refine .inr ⟨((S.st.length : Int), ((S.b.length + (x.toNat - S.b.length) : Nat) : Int)), ?_, ?_⟩
      · rw [(I.mv_at nd hi (hi _ (List.getElem_mem hk)).1).2 _ e]
        exact List.mem_append_right _ (.head _)
      · show ((S.b.length + (x.toNat - S.b.length) : Nat) : Int) = x
        exact Zt x0 h
  · have s1 : s < S.le.length := s1
    rw [lb]
    show gI (S.ow ++ is) x = s ∧ _
    have old : inS S.fi mvs x s → gI (S.ow ++ is) x = s ∧ 0 ≤ x ∧ x < ((S.b.length + is.length : Nat) : Int) := fun hx => by
      obtain ⟨a0, c, e⟩ := I.W.back s s0 s1 x hx
      rw [xt c (by rw [ho]; exact e)]
      exact ⟨a0, c, XD _ e⟩
    rcases hx with e | ⟨p, hp, e⟩
    · exact old (.inl e)
    · by_cases q : s ∈ is
      · obtain ⟨k, hk⟩ := List.getElem?_of_mem q
        have hl := (y8 hk).1
        rw [(I.mv_at nd hi s0).2 k hk] at hp
        rcases xa hp with hp | hp
        · exact old (.inr ⟨p, hp, e⟩)
        · rw [List.mem_singleton] at hp
          subst hp
          have e : ((S.b.length + k : Nat) : Int) = x := e
          subst e
          exact ⟨qE (j := k) (by rw [ho]) hk, Int.natCast_nonneg _, Int.ofNat_lt.mpr (Nat.add_lt_add_left hl _)⟩
      · rw [(I.mv_at nd hi s0).1 q] at hp
        exact old (.inr ⟨p, hp, e⟩)
theorem Iw.mov (nd : is.Nodup) (hi : ∀ i ∈ is, 0 ≤ i ∧ i < S.le.length) (hs : S.s1.st.length < 200) (hb : S.b.length + is.length < 200) : Iw ((S.sd x).mov a is) (y7 S.st.length mvs S.b.length is) cus (sg ++ [is]) := by
  have K := I.K.mov (i := a) hs nd hi hb
  have ls : sg.length = S.st.length := I.sl.trans I.st.symm
  have lb : ((S.sd x).mov a is).b.length = S.b.length + is.length := by show (S.b ++ List.replicate is.length false).length = _; rw [zP, List.length_replicate]
  refine ⟨⟨Xz I.O.G lb (by rw [lb]; exact hb), ?_, ?_, I.O.le⟩, ⟨K.fi, K.br, K.mv, K.cu, K.fr, K.mr, K.dr, K.bn, K.ps, K.cs, K.sl, K.st, K.sb⟩, I.mov_own nd hi, ?_, ?_, fun us hu j hj => ?_, fun j j0 j1 d hd => xK (I.dc j j0 j1 d hd), fun j j0 j1 p hp => ?_, fun j d j0 j1 hd => xK (I.db j d j0 j1 hd)⟩
  · rw [lb]; show (S.ow ++ is).length = _
    rw [zP, I.O.ow]
  · intro j hj
    rcases xa (show j ∈ S.ow ++ is from hj) with hj | hj
    · exact I.O.own j hj
    · exact hi j hj
  · show (S.st ++ [true]).length = (S.dn ++ [x]).length
    rw [zP, zP, I.st]; rfl
  · show (sg ++ [_]).length = (S.dn ++ [x]).length
    rw [zP, zP, I.sl]; rfl
  · rcases xa hu with hu | hu
    · exact I.sr us hu j hj
    · rw [xD hu] at hj; exact hi j hj
  · by_cases h : j ∈ is
    · obtain ⟨k, hk⟩ := List.getElem?_of_mem h
      rw [(I.mv_at nd hi j0).2 k hk] at hp
      rcases xa hp with hp | hp
      · exact xK (I.dm j j0 j1 p hp)
      · rw [xD hp]; show j ∈ gC _ (S.st.length : Int); rw [X3 ls]; exact h
    · rw [(I.mv_at nd hi j0).1 h] at hp; exact xK (I.dm j j0 j1 p hp)
omit I
theorem Iv.mov (V : Iv S mvs cus sg) (nd : is.Nodup) (hi : ∀ i ∈ is, 0 ≤ i ∧ i < S.le.length) (hs : S.s1.st.length < 200) (hb : S.b.length + is.length < 200) :
    Iv ({ S.s1.mov a is with b := yW S.s1 (y7 S.st.length mvs S.b.length is) cus (S.s1.mov a is).b is, dn := S.dn ++ [x] } : Sh) (y7 S.st.length mvs S.b.length is) cus (sg ++ [is]) := by
  have I := V.I
  have lb : ((S.sd x).mov a is).b.length = S.b.length + is.length := by show (S.b ++ List.replicate is.length false).length = _; rw [zP, List.length_replicate]
  refine (I.mov (x := x) (a := a) nd hi hs hb).seat (is := is) hi fun y y0 y1 hn => ?_
  by_cases h : y < S.b.length
  · have e : fl (S.b ++ List.replicate is.length false) y = fl S.b y := by unfold fl; rw [List.getElem?_append_left (wv y0 h)]
    have eo : gI (S.ow ++ is) y = gI S.ow y := xt y0 (by rw [I.O.ow]; exact h)
    have hn : gI (S.ow ++ is) y ∉ is := hn
    rw [eo] at hn
    exact (e.trans (V.flag y y0 h)).trans (wK rfl eo rfl ((I.mv_at nd hi (I.own_at y0 h).1).1 hn) rfl rfl I.fls.1 I.fls.2.1 I.fls.2.2)
  · have hk := YW y0 (by rw [← lb]; exact y1) h
    have e := y9 hk
    refine absurd ?_ hn
    show gI (S.ow ++ is) y ∈ is
    rw [qE (j := y.toNat - S.b.length) (by rw [I.O.ow]; exact (Zt y0 h).symm) e]
    exact List.getElem_mem hk
end
theorem Yx {h : Int} : List.lookup ("take_back" : Str) (fS h) = none := rfl
theorem Xf {h : Int} : List.lookup ("do_again" : Str) (fS h) = none := rfl
theorem Xe (l : List Int) : ya yQ (l.map AV.int) = some l := by
  induction l with
  | nil => rfl
  | cons x l ih => exact jR rfl ih
theorem Wk {α β : Type} (f : α → β) (l : List α) : ∀ k, (l.map f).eraseIdx k = (l.eraseIdx k).map f := by
  induction l with
  | nil => intro k; rfl
  | cons x l ih =>
    intro k
    cases k with
    | zero => rfl
    | succ k => exact congrArg (f x :: ·) (ih k)
theorem WY {h : Hp} {a k : Nat} {l : List Int} {i : Int} (e : h[a]? = some (.list (l.map AV.int))) (hk : l.findIdx? (· == i) = some k) : yG .remove (.ref a) [.int i] h = .ok .none (h.set a (.list ((l.eraseIdx k).map AV.int))) := by
  rw [Xd, e]
  show ofP ((ya yQ (l.map AV.int)).bind fun is => (is.findIdx? (· == i)).map fun k => (AV.none, h.set a (.list ((l.map AV.int).eraseIdx k)))) = _
  rw [Xe]
  show ofP ((l.findIdx? (· == i)).map fun k => (AV.none, h.set a (.list ((l.map AV.int).eraseIdx k)))) = _
  rw [hk, ← Wk]; rfl
section
variable {T : Tab} {okf : Str → Str → Bool} (X : TT T okf) {n : Nat} {S : Sh} {r : Hp} {mvs : List (List (Int × Int))} {cus sg : List (List Int)}
include X
theorem QW {i : Int} (h0 : 0 ≤ i) (h1 : i < S.dn.length) : run T (n + 2) (.meth "Sheet" "need_deed") [.ref 1, .int i] (S.hp r) = .ok .none (S.hp r) := by
  rw [zK X.kAe]
  exact zt (fr := [some (.ref 1), some (.int i)]) rfl rfl (fr' := [some (.ref 1), some (.int i)]) ((z5 ((zH (x7 (zu (b := true) (yX (v := .bool true) (zg (ev1 (z3 rfl) ev0) (yC X)) rfl)) (x7 (zu (b := true) (yu rfl (z3 rfl) (by rw [yt, decide_eq_true h0]) (qf (a := 12) rfl rfl kS9 rfl rfl) (by rw [yM, decide_eq_true h1]))) qN))).trans zC)).trans zC)
theorem z07 : run T (n + 1) (.meth "Sheet" "deeds") [.ref 1] (S.hp r) = .ok (.int S.dn.length) (S.hp r) := by
  rw [zK X.kA1]
  exact zL (fr := [some (.ref 1)]) rfl rfl (fr' := [some (.ref 1)]) (zJ (r := []) (zd (qf (cf := run T n) (fr := [some (.ref 1)]) (h := S.hp r) (a := 12) (ys := S.dn) rfl rfl kS9 rfl rfl)))
theorem YZ {i : Int} (h0 : 0 ≤ i) (h1 : i < S.dn.length) (hst : S.st.length = S.dn.length) (hs : S.st.length < 200) : run T (n + 3) (.meth "Sheet" "stands") [.ref 1, .int i] (S.hp r) = .ok (.bool (fl S.st i)) (S.hp r) := by
  rw [zK X.kAz]
  exact zL (fr := [some (.ref 1), some (.int i)]) rfl rfl (fr' := [some (.ref 1), some (.int i)]) ((z5 (zU (zF (a := 1) (z3 rfl) rfl Yy (ev1 (z3 rfl) ev0) (QW X (n := n) h0 h1)))).trans (zJ (zd (zq (zQ (z3 rfl) rfl Wc) (z3 rfl) (jV (b := S.st) rfl h0 (by rw [hst]; exact h1) (Nat.le_trans (Nat.le_of_lt hs) (by decide)))))))
abbrev Sh.wl (S : Sh) (st : List Bool) (lo : List Int) : Sh := { S with st := st, lo := lo }
theorem JN {fr : AFr} {d : Nat} {v : Bool} (f0 : fr[0]? = some (some (.ref 1))) (f1 : fr[1]? = some (some (.int d))) (hd : d < S.st.length) (hs : S.st.length < 200) : z8 okf (.item (zD (z4 0) "standing") (z4 1)) (z7 (.bool v)) (run T n) fr (S.hp r) = .ok .next fr ((S.ws (S.st.set d v)).hp r) := by
  refine ZM (v := .bool v) rfl (zQ (z3 f0) rfl Wc) (z3 f1) ?_
  rw [Z5]
  show (if 0 ≤ (d : Int) ∧ (d : Int) < ((S.st.map AV.bool).length : Nat) ∧ (S.st.map AV.bool).length ≤ small then some ((S.hp r).set 13 (.list ((S.st.map AV.bool).set (d : Int).toNat (.bool v)))) else none) = _
  rw [List.length_map, if_pos ⟨Int.natCast_nonneg _, Int.ofNat_lt.mpr hd, Nat.le_trans (Nat.le_of_lt hs) (by decide)⟩, Int.toNat_natCast, ← List.map_set]
  rfl
theorem W3 {fr : AFr} {d q : Nat} {us : List Int} {hw wd : AV} (K : Sg S mvs cus) (D : Dy S mvs cus r) (f0 : fr[0]? = some (some (.ref 1))) (f1 : fr[1]? = some (some (.int d))) (hx : S.dn[d]? = some (.tup [hw, wd, .ref (q + 15)])) (hd : S.dn.length < 200) (hq : r[q]? = some (.list (us.map AV.int))) (hu : ∀ i ∈ us, 0 ≤ i ∧ i < S.le.length) :
    ∃ g, zG (z6 (z4 0) "seated" none [(zR (zR (zD (z4 0) "done") (z4 1)) (z7 (.int 2)))]) (run T (n + 4)) fr (S.hp r) = .ok .next fr ((S.wb (yW S mvs cus S.b us)).hp (r ++ g)) := by
  obtain ⟨g, e⟩ := W1 X (n := n) K D hq hu
  have hl := (y8 hx).1
  exact ⟨g, zU (zF (a := 1) (z3 f0) rfl YD (ev1 (zq (zq (zQ (z3 f0) rfl kS9) (z3 f1) (qD (xs := S.dn) rfl (Int.natCast_nonneg _) (Int.lt_trans (Int.ofNat_lt.mpr (Nat.lt_trans hl hd)) (by decide)) hx)) rfl rfl) ev0) e)⟩
theorem QG (I : Iw S mvs cus sg) (D : Dy S mvs cus r) {d q : Nat} {us : List Int} {hw wd : AV} (hst : fl S.st d = true) (hx : S.dn[d]? = some (.tup [hw, wd, .ref (q + 15)])) (hq : r[q]? = some (.list (us.map AV.int))) (hu : ∀ i ∈ us, 0 ≤ i ∧ i < S.le.length) (hlo : S.lo.length < 200) :
    ∃ g, run T (n + 5) (.meth "Sheet" "take_back") [.ref 1, .int d] (S.hp r) = .ok .none (((S.wl (S.st.set d false) (S.lo ++ [(d : Int)])).wb (yW (S.wl (S.st.set d false) (S.lo ++ [(d : Int)])) mvs cus S.b us)).hp (r ++ g)) := by
  have hl := (y8 hx).1
  have hn : S.dn.length < 200 := I.st ▸ I.K.st
  have Kw := I.K.ws (st := S.st.set d false) (by rw [List.length_set]; exact Nat.le_refl _) (by rw [List.length_set]; exact I.K.st)
  obtain ⟨g, e⟩ := W3 X (n := n) (S := S.wl (S.st.set d false) (S.lo ++ [(d : Int)])) (r := r) (fr := [some (.ref 1), some (.int d)]) ⟨Kw.fi, Kw.br, Kw.mv, Kw.cu, Kw.fr, Kw.mr, Kw.dr, Kw.bn, Kw.ps, Kw.cs, Kw.sl, Kw.st, Kw.sb⟩ ⟨D.ml, D.cl, D.m, D.c, D.nd⟩ rfl rfl hx hn hq hu
  refine ⟨g, ?_⟩
  rw [zK X.kAh]
  refine zt (fr := [some (.ref 1), some (.int d)]) rfl rfl (fr' := [some (.ref 1), some (.int d)]) ?_
  have st := zu (yX (zF (me := none) (a := 1) (z3 (i := 0) (cf := run T (n + 4)) (fr := [some (.ref 1), some (.int d)]) (h := S.hp r) rfl) rfl jS (ev1 (z3 (i := 1) rfl) ev0) (YZ X (n := n + 1) (i := (d : Int)) (Int.natCast_nonneg _) (Int.ofNat_lt.mpr hl) I.st I.K.st)) rfl)
  rw [hst] at st
  exact (z5 ((zH st).trans zC)).trans ((z5 (JN X rfl rfl (by rw [I.st]; exact hl) I.K.st)).trans ((z5 (wW (h := (S.ws (S.st.set d false)).hp r) (h1 := (S.ws (S.st.set d false)).hp r) (v := .int d) (a := 14) (ys := S.lo.map AV.int) (zs := (S.lo ++ [(d : Int)]).map AV.int) rfl rfl zDz rfl (z3 rfl) rfl (by rw [List.length_map]; exact Nat.lt_trans hlo (by decide)) (xI AV.int S.lo _))).trans ((z5 e).trans zC)))
theorem Wl (I : Iw S mvs cus sg) (D : Dy S mvs cus r) {d q k : Nat} {us : List Int} {hw wd : AV} (hst : fl S.st d = false) (hx : S.dn[d]? = some (.tup [hw, wd, .ref (q + 15)])) (hq : r[q]? = some (.list (us.map AV.int))) (hu : ∀ i ∈ us, 0 ≤ i ∧ i < S.le.length) (hk : S.lo.findIdx? (· == (d : Int)) = some k) :
    ∃ g, run T (n + 5) (.meth "Sheet" "do_again") [.ref 1, .int d] (S.hp r) = .ok .none (((S.wl (S.st.set d true) (S.lo.eraseIdx k)).wb (yW (S.wl (S.st.set d true) (S.lo.eraseIdx k)) mvs cus S.b us)).hp (r ++ g)) := by
  have hl := (y8 hx).1
  have hn : S.dn.length < 200 := I.st ▸ I.K.st
  have Kw := I.K.ws (st := S.st.set d true) (by rw [List.length_set]; exact Nat.le_refl _) (by rw [List.length_set]; exact I.K.st)
  obtain ⟨g, e⟩ := W3 X (n := n) (S := S.wl (S.st.set d true) (S.lo.eraseIdx k)) (r := r) (fr := [some (.ref 1), some (.int d)]) ⟨Kw.fi, Kw.br, Kw.mv, Kw.cu, Kw.fr, Kw.mr, Kw.dr, Kw.bn, Kw.ps, Kw.cs, Kw.sl, Kw.st, Kw.sb⟩ ⟨D.ml, D.cl, D.m, D.c, D.nd⟩ rfl rfl hx hn hq hu
  refine ⟨g, ?_⟩
  rw [zK X.kAl]
  refine zt (fr := [some (.ref 1), some (.int d)]) rfl rfl (fr' := [some (.ref 1), some (.int d)]) ?_
  have st := yX (zF (me := none) (a := 1) (z3 (i := 0) (cf := run T (n + 4)) (fr := [some (.ref 1), some (.int d)]) (h := S.hp r) rfl) rfl jS (ev1 (z3 (i := 1) rfl) ev0) (YZ X (n := n + 1) (i := (d : Int)) (Int.natCast_nonneg _) (Int.ofNat_lt.mpr hl) I.st I.K.st)) rfl
  rw [hst] at st
  exact (z5 ((zH st).trans zC)).trans ((z5 (JN X rfl rfl (by rw [I.st]; exact hl) I.K.st)).trans ((z5 (zU (v := .none) (j7 (a := 14) (ys := S.lo.map AV.int) (zQ (z3 rfl) rfl zDz) rfl (ev1 (z3 rfl) ev0) (WY (l := S.lo) rfl hk)))).trans ((z5 e).trans zC)))
end
section
variable {S : Sh} {mvs : List (List (Int × Int))} {cus sg : List (List Int)}
theorem wI {st : List Bool} {d : Nat} {e : Int} {v : Bool} (e0 : 0 ≤ e) (h : e ≠ d) : fl st e = fl (st.set d v) e := by
  unfold fl
  rw [List.getElem?_set_ne fun q => h (by rw [q, Int.toNat_of_nonneg e0])]
theorem Iw.flip (I : Iw S mvs cus sg) {st : List Bool} {lo : List Int} (h : st.length = S.st.length) : Iw (S.wl st lo) mvs cus sg :=
  have Kw := I.K.ws (st := st) (by rw [h]; exact Nat.le_refl _) (by rw [h]; exact I.K.st)
  ⟨⟨I.O.G, I.O.ow, I.O.own, I.O.le⟩, ⟨Kw.fi, Kw.br, Kw.mv, Kw.cu, Kw.fr, Kw.mr, Kw.dr, Kw.bn, Kw.ps, Kw.cs, Kw.sl, Kw.st, Kw.sb⟩, ⟨I.W.seats, I.W.back⟩, h.trans I.st, I.sl, I.sr, I.dc, I.dm, I.db⟩
theorem Iv.flip (V : Iv S mvs cus sg) {d : Nat} {v : Bool} {lo : List Int} {us : List Int} (hs : sg[d]? = some us) : Iv ((S.wl (S.st.set d v) lo).wb (yW (S.wl (S.st.set d v) lo) mvs cus S.b us)) mvs cus sg := by
  have I := V.I
  have hu : gC sg (d : Int) = us := by unfold gC; rw [Int.toNat_natCast, hs]; rfl
  refine (I.flip (st := S.st.set d v) (lo := lo) List.length_set).seat (is := us) (I.sr us (yI hs)) fun x x0 x1 hn => (V.flag x x0 x1).trans ?_
  obtain ⟨a, c⟩ := I.own_at x0 x1
  have ne : ∀ e : Int, gI S.ow x ∈ gC sg e → e ≠ (d : Int) := fun e h q => hn (by rw [← hu, ← q]; exact h)
  refine wK (S := S) (S' := S.wl (S.st.set d v) lo) rfl rfl rfl rfl rfl rfl (fun e he => ?_) (fun p hp => ?_) (fun e he => ?_)
  · have q := y9 (z04 he)
    exact wI (I.K.dr _ (yI q) e (by unfold gC at he; rw [q] at he; exact he)).1 (ne e (I.dc _ a c e he))
  · have q := y9 (z02 hp)
    exact wI (I.K.mr _ (yI q) p (by unfold gM at hp; rw [q] at hp; exact hp)).1.1 (ne p.1 (I.dm _ a c p hp))
  · rcases I.K.bn _ (yI he) with q | ⟨d', q, q0, _⟩
    · cases q
    · cases q; exact wI q0 (ne _ (I.db _ _ a c he))
end
theorem qP {h : Int} : List.lookup ("place_of" : Str) (fS h) = none := rfl
section
variable {T : Tab} {okf : Str → Str → Bool} (X : TT T okf) {n : Nat} {l : List Int} {b : List Bool} {r : Hp} {o0 o1 o2 : AO}
include X
theorem QN {x : Int} {j : Nat} (x0 : 0 ≤ x) (x1 : x < b.length) (hj : l.findIdx? (· == x) = some j) (G : Good l b) :
    ∃ g, run T (n + 3) (.meth "Row" "ahead") [.ref 3, .int x] (H o0 o1 o2 l b r) = .ok (.int (tk b (l.take j)).length) (H o0 o1 o2 l b (r ++ g)) := by
  have hjl := (List.findIdx?_eq_some_iff_getElem.mp hj).1
  have lsm := G.sm'
  have ll : l.length ≤ small := Nat.le_of_lt lsm.1
  refine ⟨[.list ((l.take j).map AV.int), .list ((tk b (l.take j)).map AV.int)], ?_⟩
  rw [zK X.kBh]
  have ei : z6 (zD (z4 0) "line") "index" (some .index) [(z4 1)] (run T (n + 2)) [some (.ref 3), some (.int x), none] (H o0 o1 o2 l b r) = .ok (.int j) (H o0 o1 o2 l b r) := by
    refine j7 (zQ (z3 rfl) rfl lk1) (ys := l.map AV.int) rfl (ev1 (z3 rfl) ev0) ?_
    rw [ZV]
    show (match jH (H o0 o1 o2 l b r) (.ref 4) (.int x) with | some k => Out.ok (AV.int k) _ | none => .stuck) = _
    rw [jW (l := l) rfl, hj]
  have hjs : okI (j : Int) = true := Z9 (Nat.le_trans (Nat.le_of_lt hjl) ll)
  have ecut : Z2 (zD (z4 0) "line") (z7 .none) (z6 (zD (z4 0) "line") "index" (some .index) [(z4 1)]) (run T (n + 2)) [some (.ref 3), some (.int x), none] (H o0 o1 o2 l b r) = .ok (.ref (r.length + 6)) (H o0 o1 o2 l b (r ++ [.list ((l.take j).map AV.int)])) := by
    refine (JW (zQ (z3 rfl) rfl lk1) rfl ei (WI (xs := l.map AV.int) rfl Qo (qa hjs) (by rw [List.length_map]; exact ll))).trans ?_
    have : wT (l.map AV.int) 0 (some (j : Int).toNat) = (l.take j).map AV.int := by
      show ((l.map AV.int).take (j : Int).toNat).drop 0 = _
      rw [List.drop_zero, Int.toNat_natCast, List.map_take]
    rw [show (none : Option Nat).getD 0 = 0 from rfl, this]; rfl
  have hg0 : (H o0 o1 o2 l b (r ++ [.list ((l.take j).map AV.int)]))[r.length + 6]? = some (.list ((l.take j).map AV.int)) := by
    show (r ++ [AO.list ((l.take j).map AV.int)])[r.length]? = _
    exact zO r _ []
  have ec := wR AV.int (it := z4 2) (own := 1) (i := 3) (a := r.length + 6) (test := zT .And [zp (zR (zD (z4 0) "flags") (z4 3))]) (elt := z4 3) (cf := run T (n + 2)) (fr := [some (.ref 3), some (.int x), some (.ref (r.length + 6))])
    (h := H o0 o1 o2 l b (r ++ [.list ((l.take j).map AV.int)])) (h1 := H o0 o1 o2 l b (r ++ [.list ((l.take j).map AV.int)])) (l := l.take j) (p := fl b) (f := AV.int) rfl hg0 (zc rfl) (Nat.lt_of_le_of_lt (List.length_take_le' _ _) lsm.1)
    (fun fr' a1 a2 y hy a3 => XM (by rw [a2 0 (by decide)]; rfl) a3 rfl rfl (G.rng y (List.mem_of_mem_take hy)).1 (G.rng y (List.mem_of_mem_take hy)).2 (Nat.le_of_lt lsm.2))
    (fun fr' a1 a2 y hy a3 => z3 a3)
  have l1 : (H o0 o1 o2 l b (r ++ [.list ((l.take j).map AV.int)])).length = r.length + 7 := by
    show (r ++ [AO.list ((l.take j).map AV.int)]).length + 6 = _
    rw [zP]; rfl
  have l2 : H o0 o1 o2 l b (r ++ [.list ((l.take j).map AV.int)]) ++ [.list (((l.take j).filter (fl b)).map AV.int)] = H o0 o1 o2 l b (r ++ [.list ((l.take j).map AV.int), .list ((tk b (l.take j)).map AV.int)]) := by
    show H o0 o1 o2 l b ((r ++ [.list ((l.take j).map AV.int)]) ++ [_]) = _
    rw [List.append_assoc]; rfl
  rw [l1, l2] at ec
  refine zL (fr := [some (.ref 3), some (.int x), none]) rfl rfl (fr' := [some (.ref 3), some (.int x), some (.ref (r.length + 6))]) ?_
  unfold kBh
  dsimp only
  rw [z5 (zU (zF (a := 3) (z3 rfl) rfl lk3 (ev1 (z3 rfl) ev0) (xZ X (n := n) x0 x1)))]
  rw [z5 (zW (j := 2) ecut (zc rfl))]
  refine zJ (zd (xX (ev1 ec ev0) ?_))
  have hg : (H o0 o1 o2 l b (r ++ [.list ((l.take j).map AV.int), .list ((tk b (l.take j)).map AV.int)]))[r.length + 7]? = some (.list ((tk b (l.take j)).map AV.int)) := by
    show (r ++ [AO.list ((l.take j).map AV.int), .list ((tk b (l.take j)).map AV.int)])[r.length + 1]? = _
    rw [xJ]; rfl
  rw [wu, wM, hg]
  show Out.ok (AV.int (((tk b (l.take j)).map AV.int).length : Nat)) _ = _
  rw [List.length_map]
end
section
variable {T : Tab} {okf : Str → Str → Bool} (X : TT T okf) {n : Nat} {S : Sh} {r : Hp} {mvs : List (List (Int × Int))} {cus sg : List (List Int)}
include X
theorem zEm {fr : AFr} {cf : CF} (e0 : fr[0]? = some (some (.ref 1))) : zB (zA (some (.bi .len))) [zD (z4 0) "letters"] cf fr (S.hp r) = .ok (.int S.le.length) (S.hp r) := qf (a := 7) (ys := S.le.map ch) e0 rfl kS4 rfl (List.length_map _)
theorem wf {i : Int} (h0 : 0 ≤ i) (h1 : i < S.le.length) : run T (n + 2) (.meth "Sheet" "need_sign") [.ref 1, .int i] (S.hp r) = .ok .none (S.hp r) := by
  rw [zK X.kAi]
  exact zt (fr := [some (.ref 1), some (.int i)]) rfl rfl (fr' := [some (.ref 1), some (.int i)]) ((z5 ((zH (x7 (zu (b := true) (yX (v := .bool true) (zg (ev1 (z3 rfl) ev0) (yC X)) rfl)) (x7 (zu (b := true) (yu rfl (z3 rfl) (by rw [yt, decide_eq_true h0]) (zEm X rfl) (by rw [yM, decide_eq_true h1]))) qN))).trans zC)).trans zC)
theorem X5 (I : Iw S mvs cus sg) {i : Int} (h0 : 0 ≤ i) (h1 : i < S.le.length) : gI S.ow (S.cur mvs i) = i ∧ 0 ≤ S.cur mvs i ∧ S.cur mvs i < S.b.length := I.W.back i h0 h1 _ Qi
theorem WU (I : Iw S mvs cus sg) (D : Dy S mvs cus r) {i : Int} (h0 : 0 ≤ i) (h1 : i < S.le.length) {j : Nat} (hj : S.l.findIdx? (· == S.cur mvs i) = some j) :
    ∃ g, run T (n + 4) (.meth "Sheet" "place_of") [.ref 1, .int i] (S.hp r) = .ok (.tup [.int (tk S.b (S.l.take j)).length, .bool (S.shw cus i)]) (S.hp (r ++ g)) := by
  obtain ⟨_, c0, c1⟩ := X5 X I h0 h1
  have es := j4 X (n := n + 2) I.K D h0 h1
  obtain ⟨g1, ea⟩ := QN X (n := n) (o0 := S.g0) (o1 := .inst "Sheet" (fS S.hands)) (o2 := S.g2) (r := S.tl r) c0 c1 hj I.O.G
  have ea' : run T (n + 3) (.meth "Row" "ahead") [.ref 3, .int (S.cur mvs i)] (S.hp r) = .ok (.int (tk S.b (S.l.take j)).length) (S.hp (r ++ g1)) := ea
  obtain ⟨g2, ei⟩ := YG X (n := n + 2) I.K (D.grow g1) h0 h1
  refine ⟨g1 ++ g2, ?_⟩
  rw [zK X.kAk, ← List.append_assoc]
  exact zL (fr := [some (.ref 1), some (.int i)]) rfl rfl (fr' := [some (.ref 1), some (.int i)]) ((z5 (zU (zF (a := 1) (z3 rfl) rfl qi (ev1 (z3 rfl) ev0) (wf X (n := n + 1) h0 h1)))).trans (zJ (zd (xS (ev1 (zF (a := 3) (zQ (z3 rfl) rfl kS2) rfl Jr (ev1 (zF (a := 1) (z3 rfl) rfl qh (ev1 (z3 rfl) ev0) es) ev0) ea') (ev1 (zF (a := 1) (z3 rfl) rfl jm (ev1 (z3 rfl) ev0) ei) ev0))))))
end
set_option genInjectivity false
set_option genSizeOf false
theorem jT : ((" !\"#$&'()*+,-./0123456789:;<=>?@ABCDEFGHIJKLMNOPQRSTUVWXYZ[\\]^_`" : Str) ++ ("abcdefghijklmnopqrstuvwxyz{|}~\n" : Str)) = LET ∧ LET.cps.toList.length = 95 ∧ (" !\"#$&'()*+,-./0123456789:;<=>?@ABCDEFGHIJKLMNOPQRSTUVWXYZ[\\]^_`" : Str).length + ("abcdefghijklmnopqrstuvwxyz{|}~\n" : Str).length ≤ 95 := by decide +kernel
theorem zE4 (z : Int) : 0 ≤ z.fmod 95 ∧ z.fmod 95 < 95 := ⟨Int.fmod_nonneg_of_pos _ (by decide), Int.fmod_lt_of_pos _ (by decide)⟩
theorem WL (z : Int) : ∃ c, LET.cps[(z.fmod 95).toNat]? = some c ∧ c ∈ LET.cps.toList := by
  have h := zE4 z
  have hl : (z.fmod 95).toNat < LET.cps.toList.length := by rw [jT.2.1]; lia
  refine ⟨LET.cps.toList[(z.fmod 95).toNat], ?_, List.getElem_mem hl⟩
  rw [← Array.getElem?_toList]
  exact y9 hl
theorem qg {cf : CF} {fr : AFr} {h h1 : Hp} {x : XE} {z d : Int} (e : x cf fr h = .ok (.int z) h1) (hd : 0 < d ∧ d < 1073741824) : zI .FloorDiv x (z7 (.int d)) cf fr h = .ok (.int (z.fdiv d)) h1 := zf e rfl (by rw [qI, if_pos ⟨by lia, by lia⟩])
theorem Yo {cf : CF} {fr : AFr} {h h1 h2 : Hp} {x y : XE} {z d : Int} (e : x cf fr h = .ok (.int z) h1) (e' : y cf fr h1 = .ok (.int d) h2) (hd : 0 < d) : zI .Mod x y cf fr h = .ok (.int (z.fmod d)) h2 := zf e e' (by rw [yR, if_neg (by lia)])
theorem wV {cf : CF} {fr : AFr} {h h1 : Hp} {x : XE} {z d : Int} (e : x cf fr h = .ok (.int z) h1) (hd : 0 < d) : zI .Mod x (z7 (.int d)) cf fr h = .ok (.int (z.fmod d)) h1 := Yo e rfl hd
theorem Y5 {cf : CF} {fr : AFr} {h h1 h2 : Hp} {x y : XE} {a c : Int} (e : x cf fr h = .ok (.int a) h1) (e' : y cf fr h1 = .ok (.int c) h2) : zI .Add x y cf fr h = .ok (.int (a + c)) h2 := zf e e' xC
section
variable {T : Tab} {okf : Str → Str → Bool} (X : TT T okf) {n : Nat}
include X
theorem XK {c m : Int} {h : Hp} (m0 : 0 ≤ m) (m1 : m ≤ 100) : ∃ cs o, run T (n + 2) (.fn "_law_text_by") [.int c, .int m] h = .ok (.str (tx cs)) (h ++ [o]) ∧ okT cs ∧ (cs.length : Int) = m := by
  rw [yy X.kA3]
  let F : Nat → Nat := fun k => LET.cps[(((YB c (0 + (k : Int))).fdiv 8).fmod 95).toNat]?.getD 0
  let l : List Nat := List.range (m - 0).toNat
  have hl : l.length = (m - 0).toNat := List.length_range
  have er : (zB (zA (some (.bi .range))) [(z4 1)]) (run T (n + 1)) [some (.int c), some (.int m), some (.str LET)] h = .ok (.range 0 m) h := by
    refine xX (ev1 (z3 rfl) ev0) ?_
    rw [z0m, if_pos (by lia)]
  have ec := YR (fun k : Nat => AV.int (0 + (k : Int))) (own := 1) (i := 3) (test := zT .And []) (elt := (zR (z4 2) (zI .Mod (zI .FloorDiv (zB (zA (some (.fn "_law_mixed"))) [(z4 0), (z4 3)]) (z7 (.int 8))) (z7 (.int 95))))) (l := l) (p := fun _ => true) (f := fun k => ch (F k)) er (by show some (Src.imm (qe 0 m), (m - 0).toNat) = _; rw [hl]; rfl) (zc rfl) (by rw [hl]; show _ < 1048576; lia)
    (fun fr' a1 a2 x hx a3 => rfl)
    (fun fr' a1 a2 x hx a3 => by
      have a0 : fr'[0]? = some (some (.int c)) := a2 0 (by decide)
      have a4 : fr'[2]? = some (some (.str LET)) := a2 2 (by decide)
      have := zE4 ((YB c (0 + (x : Int))).fdiv 8)
      refine zq (z3 a4) (wV (qg (zg (ev1 (z3 a0) (ev1 (z3 a3) ev0)) (Ji X)) ⟨by decide, by decide⟩) (by decide)) ?_
      obtain ⟨v, hv, _⟩ := WL ((YB c (0 + (x : Int))).fdiv 8)
      rw [z22 (yv.mpr ⟨by lia, by lia⟩)]
      show _ = some (ch (LET.cps[_]?.getD 0))
      rw [hv]; rfl)
  rw [List.filter_eq_self.mpr (fun _ _ => rfl)] at ec
  have e2 : l.map (fun k => ch (F k)) = (l.map F).map (fun c => AV.str ⟨#[c]⟩) := by rw [List.map_map]; rfl
  have hg : (h ++ [AO.list (l.map fun k => ch (F k))])[h.length]? = some (AO.list ((l.map F).map (fun c => AV.str ⟨#[c]⟩))) := by rw [← e2]; exact zO _ _ []
  have ej := Jj (sep := "") hg J1 (by
    rw [J0, List.length_map, List.length_map, hl]
    show _ + _ * 0 ≤ 1048576
    lia)
  rw [Qb] at ej
  refine ⟨l.map F, .list (l.map fun k => ch (F k)), ?_, fun v hv => ?_, by rw [List.length_map, hl]; lia⟩
  · refine zL (fr := [some (.int c), some (.int m), none]) rfl rfl (fr' := [some (.int c), some (.int m), some (.str LET)]) ?_
    unfold kA3
    dsimp only
    rw [z5 (zW (j := 2) rfl (zc rfl))]
    rw [z5 (zW (j := 2) (v := .str LET) (zf (z3 rfl) rfl (by rw [z2d, if_pos (Nat.le_trans jT.2.2 (by decide)), jT.1])) (zc rfl))]
    exact zJ (zd (zCy rfl (ev1 ec ev0) ej))
  · obtain ⟨k, _, rfl⟩ := List.mem_map.mp hv
    obtain ⟨u, hu, hm⟩ := WL ((YB c (0 + (k : Int))).fdiv 8)
    show LET.cps[_]?.getD 0 ∈ _
    rw [hu]; exact hm
end
inductive Deed where
  | put (p : Int) (cs : List Nat)
  | cut (i j : Int)
  | mov (i j p : Int)
def Deed.av (hd : Int) : Deed → AV
  | .put p cs => .tup [.int hd, .str "put", .int 0, .int 0, .int p, .str (tx cs)]
  | .cut i j => .tup [.int hd, .str "cut", .int i, .int j, .int 0, .str ""]
  | .mov i j p => .tup [.int hd, .str "move", .int i, .int j, .int p, .str ""]
def Deed.ok (m : Int) : Deed → Prop
  | .put p cs => 0 ≤ p ∧ p ≤ m ∧ okT cs ∧ cs ≠ [] ∧ cs.length ≤ 4
  | .cut i j => 0 ≤ i ∧ i < j ∧ j ≤ m
  | .mov i j p => 0 ≤ i ∧ i < j ∧ j ≤ m ∧ j ≤ i + 5 ∧ 0 ≤ p ∧ p ≤ m ∧ ¬ (i < p ∧ p < j)
theorem wok : PyData.strOk ("put" : Str) = true ∧ PyData.strOk ("cut" : Str) = true ∧ PyData.strOk ("move" : Str) = true := by decide +kernel
theorem weq : (("put" : Str) == ("put" : Str)) = true ∧ (("cut" : Str) == ("put" : Str)) = false ∧ (("cut" : Str) == ("cut" : Str)) = true ∧ (("move" : Str) == ("put" : Str)) = false ∧ (("move" : Str) == ("cut" : Str)) = false := by decide +kernel
section
variable {h : Hp}
theorem zEc : yU .Eq (.str "put") (.str "put") h = some true := (wS wok.1 wok.1).trans (congrArg some weq.1)
theorem zEf : yU .Eq (.str "cut") (.str "put") h = some false := (wS wok.2.1 wok.1).trans (congrArg some weq.2.1)
theorem zEg : yU .Eq (.str "cut") (.str "cut") h = some true := (wS wok.2.1 wok.2.1).trans (congrArg some weq.2.2.1)
theorem zEd : yU .Eq (.str "move") (.str "put") h = some false := (wS wok.2.2 wok.1).trans (congrArg some weq.2.2.2.1)
theorem zEe : yU .Eq (.str "move") (.str "cut") h = some false := (wS wok.2.2 wok.2.1).trans (congrArg some weq.2.2.2.2)
end
theorem fmr (z : Int) {d : Int} (h : 0 < d) : 0 ≤ z.fmod d ∧ z.fmod d < d := ⟨Int.fmod_nonneg_of_pos _ h, Int.fmod_lt_of_pos _ h⟩
theorem zDw {m : Int} (h : ¬ m = 0) (h' : 0 ≤ m) : (if (1 : Int) < m then m else 1) = m := by split <;> lia
theorem zE7 {bg x m : Int} (b1 : bg < m) (x0 : 0 ≤ x) (x1 : x < 5) : bg < (if bg + 1 + x < m then bg + 1 + x else m) ∧ (if bg + 1 + x < m then bg + 1 + x else m) ≤ m ∧ (if bg + 1 + x < m then bg + 1 + x else m) ≤ bg + 5 := by split <;> lia
theorem zDx {bg en p m : Int} (b0 : 0 ≤ bg) (e1 : bg < en) (e2 : en ≤ m) (h : p = bg ∨ p = en) : 0 ≤ p ∧ p ≤ m ∧ ¬ (bg < p ∧ p < en) := by
  rcases h with rfl | rfl
  · exact ⟨b0, Int.le_of_lt (Int.lt_of_lt_of_le e1 e2), fun h => Int.lt_irrefl _ h.1⟩
  · exact ⟨Int.le_of_lt (Int.lt_of_le_of_lt b0 e1), e2, fun h => Int.lt_irrefl _ h.2⟩
theorem zC7 {m : Int} : 0 < (if (1 : Int) < m then m else 1) := by split <;> lia
theorem z2k {x : Int} (h : 0 ≤ x ∧ x < 4) : 0 ≤ 1 + x ∧ 1 + x ≤ 100 := by lia
theorem JY {c : Nat} {x : Int} (hl : (c : Int) = 1 + x) (h : 0 ≤ x ∧ x < 4) : 0 < c ∧ c ≤ 4 := by lia
theorem zBu {x : Int} (h : 0 ≤ x ∧ x < 2) : x = 0 ∨ x = 1 := by lia
section
variable {T : Tab} {okf : Str → Str → Bool} (X : TT T okf) {n : Nat}
include X
theorem z08 {z hands : Int} {m : Nat} {h : Hp} (hm : m ≤ 200) (hh : 0 < hands) : ∃ hd d g, run T (n + 3) (.fn "_law_deed_by") [.int z, .int m, .int hands] h = .ok (Deed.av hd d) (h ++ g) ∧ 0 ≤ hd ∧ hd < hands ∧ d.ok m := by
  rw [yy X.kA5]
  let hd := z.fmod hands
  let kd := (z.fdiv 9).fmod 8
  let mx : Int := if (1 : Int) < m then m else 1
  have mx0 : 0 < mx := zC7
  let bg := (z.fdiv 72).fmod mx
  let e0 := bg + 1 + (z.fdiv 1009).fmod 5
  let en : Int := if e0 < m then e0 else m
  let pl := (z.fdiv 5003).fmod (m + 1)
  have r1 := fmr z hh
  have r2 := fmr (z.fdiv 72) mx0
  have r3 := fmr (z.fdiv 1009) (show (0 : Int) < 5 by decide)
  have r4 := fmr (z.fdiv 5003) (Int.lt_add_one_of_le (Int.natCast_nonneg m))
  have hF : ∀ {v : AV} {h' : Hp}, (∃ fr', (z9 [(sIf (zT .Or [(zN (z4 4) [.Lt] [(z7 (.int 3))]), (zN (z4 1) [.Eq] [(z7 (.int 0))])]) (z9 [(zV (yZ [(z4 3), (z7 (.str "put")), (z7 (.int 0)), (z7 (.int 0)), (z4 7), (zB (zA (some (.fn "_law_text_by"))) [(z4 0), (zI .Add (z7 (.int 1)) (zI .Mod (zI .FloorDiv (z4 0) (z7 (.int 30011))) (z7 (.int 4))))])]))]) (z9 [])), (sIf (zN (z4 4) [.Lt] [(z7 (.int 5))]) (z9 [(zV (yZ [(z4 3), (z7 (.str "cut")), (z4 5), (z4 6), (z7 (.int 0)), (z7 (.str ""))]))]) (z9 [])), (sIf (zN (z4 5) [.Lt, .Lt] [(z4 7), (z4 6)]) (z9 [(z8 okf (.names (.one 7)) (zR (zw [(z4 5), (z4 6)]) (zI .Mod (zI .FloorDiv (z4 0) (z7 (.int 60013))) (z7 (.int 2)))))]) (z9 [])), (zV (yZ [(z4 3), (z7 (.str "move")), (z4 5), (z4 6), (z4 7), (z7 (.str ""))]))]) (run T (n + 2)) [some (.int z), some (.int m), some (.int hands), some (.int hd), some (.int kd), some (.int bg), some (.int en), some (.int pl)] h = .ok (.ret v) fr' h') → yK (kA5 okf) (run T (n + 2)) [.int z, .int m, .int hands] h = .ok v h' := by
    rintro v h' ⟨fr', e⟩
    refine zL (fr := [some (.int z), some (.int m), some (.int hands), none, none, none, none, none]) rfl rfl (fr' := fr') ?_
    unfold kA5
    dsimp only
    rw [z5 (zW (j := 3) (Yo (z3 rfl) (z3 rfl) hh) (zc rfl))]
    rw [z5 (zW (j := 4) (wV (qg (z3 rfl) ⟨by decide, by decide⟩) (by decide)) (zc rfl))]
    rw [z5 (zW (j := 5) (Yo (d := mx) (qg (z3 rfl) ⟨by decide, by decide⟩) (xX (ev1 rfl (ev1 (z3 rfl) ev0)) zCn) mx0) (zc rfl))]
    rw [z5 (zW (j := 6) (v := .int en) (xX (ev1 (z3 rfl) (ev1 (Y5 (Y5 (z3 rfl) rfl) (wV (qg (z3 rfl) ⟨by decide, by decide⟩) (by decide))) ev0)) zCm) (zc rfl))]
    rw [z5 (zW (j := 7) (Yo (d := m + 1) (qg (z3 rfl) ⟨by decide, by decide⟩) (Y5 (z3 rfl) rfl) (Int.lt_add_one_of_le (Int.natCast_nonneg m))) (zc rfl))]
    exact e
  by_cases hk : kd < 3 ∨ (m : Int) = 0
  · have r5 := fmr (z.fdiv 30011) (show (0 : Int) < 4 by decide)
    obtain ⟨cs, o, et, ok, hl⟩ := XK X (n := n) (c := z) (m := 1 + (z.fdiv 30011).fmod 4) (h := h) (z2k r5).1 (z2k r5).2
    refine ⟨hd, .put pl cs, [o], hF ⟨_, zJ ((zZ (h1 := h) ?_).trans (zJ (zd (xS (ev1 (z3 rfl) (ev1 rfl (ev1 rfl (ev1 rfl (ev1 (z3 rfl) (ev1 (zg (ev1 (z3 rfl) (ev1 (Y5 rfl (wV (qg (z3 rfl) ⟨by decide, by decide⟩) (by decide))) ev0)) et) ev0)))))))))) ⟩, r1.1, r1.2, r4.1, Int.le_of_lt_add_one r4.2, ok, fun q => absurd (JY hl r5).1 (by rw [q]; exact Nat.lt_irrefl _), (JY hl r5).2⟩
    by_cases h3 : kd < 3
    · exact W4 (zX (z3 rfl) rfl (by rw [yM, decide_eq_true h3]))
    · exact x7 (zX (z3 rfl) rfl (by rw [yM, decide_eq_false h3])) (W4 (zX (z3 rfl) rfl (by rw [xb, xP, decide_eq_true (hk.resolve_left h3)])))
  · have k3 : ¬ kd < 3 := fun q => hk (.inl q)
    have m0 : ¬ (m : Int) = 0 := fun q => hk (.inr q)
    have hmx : mx = m := by exact zDw m0 (Int.natCast_nonneg _)
    have b0 : 0 ≤ bg := r2.1
    have b1 : bg < m := by rw [← hmx]; exact r2.2
    have e1 : bg < en ∧ en ≤ m ∧ en ≤ bg + 5 := zE7 b1 r3.1 r3.2
    have p0 : 0 ≤ pl := r4.1
    have p1 : pl ≤ m := Int.le_of_lt_add_one r4.2
    have s1 : zT .Or [(zN (z4 4) [.Lt] [(z7 (.int 3))]), (zN (z4 1) [.Eq] [(z7 (.int 0))])] (run T (n + 2)) [some (.int z), some (.int m), some (.int hands), some (.int hd), some (.int kd), some (.int bg), some (.int en), some (.int pl)] h = .ok false h :=
      x7 (zX (z3 rfl) rfl (by rw [yM, decide_eq_false k3])) (x7 (zX (z3 rfl) rfl (by rw [xb, xP, decide_eq_false m0])) qN)
    by_cases k5 : kd < 5
    · refine ⟨hd, .cut bg en, [], hF ⟨[some (.int z), some (.int m), some (.int hands), some (.int hd), some (.int kd), some (.int bg), some (.int en), some (.int pl)], ?_⟩, r1.1, r1.2, b0, e1.1, e1.2.1⟩
      rw [z5 ((zH s1).trans zC), List.append_nil]
      exact zJ ((zZ (zX (z3 rfl) rfl (by rw [yM, decide_eq_true k5]))).trans (zJ (zd (xS (ev1 (z3 rfl) (ev1 rfl (ev1 (z3 rfl) (ev1 (z3 rfl) (ev1 rfl (ev1 rfl ev0))))))))))
    · have s2 : zN (z4 4) [.Lt] [(z7 (.int 5))] (run T (n + 2)) [some (.int z), some (.int m), some (.int hands), some (.int hd), some (.int kd), some (.int bg), some (.int en), some (.int pl)] h = .ok false h := zX (z3 rfl) rfl (by rw [yM, decide_eq_false k5])
      by_cases hb : bg < pl ∧ pl < en
      · have r6 := fmr (z.fdiv 60013) (show (0 : Int) < 2 by decide)
        obtain ⟨p', ep, hp'⟩ : ∃ p' : Int, wG (h ++ [.list [.int bg, .int en]]) (.ref h.length) (.int ((z.fdiv 60013).fmod 2)) = some (.int p') ∧ (p' = bg ∨ p' = en) := by
          have hg : (h ++ [AO.list [.int bg, .int en]])[h.length]? = some (.list [.int bg, .int en]) := zO _ _ []
          rcases zBu r6 with q | q
          · refine ⟨bg, ?_, .inl rfl⟩
            rw [q, qR rfl, hg]; rfl
          · refine ⟨en, ?_, .inr rfl⟩
            rw [q, qR rfl, hg]; rfl
        refine ⟨hd, .mov bg en p', [.list [.int bg, .int en]], hF ⟨[some (.int z), some (.int m), some (.int hands), some (.int hd), some (.int kd), some (.int bg), some (.int en), some (.int p')], ?_⟩, r1.1, r1.2, b0, e1.1, e1.2.1, e1.2.2, zDx b0 e1.1 e1.2.1 hp'⟩
        rw [z5 ((zH s1).trans zC), z5 ((zH s2).trans zC)]
        rw [z5 ((zZ (yu (z3 rfl) (z3 rfl) (by rw [yM, decide_eq_true hb.1]) (z3 rfl) (by rw [yM, decide_eq_true hb.2]))).trans ((z5 (zW (j := 7) (zq (yL (ev1 (z3 rfl) (ev1 (z3 rfl) ev0))) (wV (qg (z3 rfl) ⟨by decide, by decide⟩) (by decide)) ep) (zc rfl))).trans zC))]
        exact zJ (zd (xS (ev1 (z3 rfl) (ev1 rfl (ev1 (z3 rfl) (ev1 (z3 rfl) (ev1 (z3 rfl) (ev1 rfl ev0))))))))
      · have s3 : zN (z4 5) [.Lt, .Lt] [(z4 7), (z4 6)] (run T (n + 2)) [some (.int z), some (.int m), some (.int hands), some (.int hd), some (.int kd), some (.int bg), some (.int en), some (.int pl)] h = .ok false h := by
          by_cases q : bg < pl
          · exact yu (z3 rfl) (z3 rfl) (by rw [yM, decide_eq_true q]) (z3 rfl) (by rw [yM, decide_eq_false fun w => hb ⟨q, w⟩])
          · exact Z8 (z3 rfl) (z3 rfl) (by rw [yM, decide_eq_false q])
        refine ⟨hd, .mov bg en pl, [], hF ⟨[some (.int z), some (.int m), some (.int hands), some (.int hd), some (.int kd), some (.int bg), some (.int en), some (.int pl)], ?_⟩, r1.1, r1.2, b0, e1.1, e1.2.1, e1.2.2, p0, p1, hb⟩
        rw [z5 ((zH s1).trans zC), z5 ((zH s2).trans zC), z5 ((zH s3).trans zC), List.append_nil]
        exact zJ (zd (xS (ev1 (z3 rfl) (ev1 rfl (ev1 (z3 rfl) (ev1 (z3 rfl) (ev1 (z3 rfl) (ev1 rfl ev0))))))))
end
theorem yo {cf : CF} {fr : AFr} {h h1 h2 : Hp} {x o : XE} {v : AV} {a : Nat} {c name : Str} {okf : Str → Str → Bool} {fs fs' : List (Str × AV)} (e : x cf fr h = .ok v h1) (eo : o cf fr h1 = .ok (.ref a) h2) (ha : h2[a]? = some (.inst c fs)) (hok : okf c name = true) (hl : fs.length < 100) (hf : wH name v fs = fs') : z8 okf (.attr o name) x cf fr h = .ok .next fr (h2.set a (.inst c fs')) := by
  unfold z8
  rw [e]
  show Out.bindS (o cf fr h1) fr _ = _
  rw [eo]
  show (match h2[a]? with
      | some (.inst c fs) => if okf c name && decide (fs.length < 100) then OS.ok .next fr (h2.set a (.inst c (wH name v fs))) else .stuck
      | _ => .stuck) = _
  rw [ha]
  show (if okf c name && decide (fs.length < 100) then OS.ok .next fr (h2.set a (.inst c (wH name v fs))) else .stuck) = _
  rw [hok, decide_eq_true hl, hf]; rfl
abbrev sh0 (g0 g2 : AO) (hands : Int) : Sh := ⟨g0, g2, hands, [], [], [], [], [], [], [], [], [], [], []⟩
abbrev sh1 (g0 g2 : AO) (hands : Int) (cs : List Nat) : Sh := ⟨g0, g2, hands, ze 0 cs.length, List.replicate cs.length true, ze 0 cs.length, cs, ze 0 cs.length, (List.range cs.length).map (fun j => 1 + 2 * j), List.replicate cs.length .none, (List.range cs.length).map (fun j => 1 + 2 * j + 1), [], [], []⟩
theorem JM (g0 g2 : AO) (hands : Int) (cs : List Nat) : (sh0 g0 g2 hands).adds 0 .none 1 cs = sh1 g0 g2 hands cs := by
  simp [Sh.adds]
theorem jG {k : Nat} {x : Int} (x0 : 0 ≤ x) (x1 : x < k) : gI (ze 0 k) x = x := by
  unfold gI
  rw [wE (show x.toNat < k by lia)]
  show ((0 + x.toNat : Nat) : Int) = x
  lia
theorem Qe {k : Nat} {x : Int} : gM (List.replicate k []) x = [] := Zd (mvs := []) (k := k) (i := x)
theorem Z6 {α : Type} {k : Nat} {l : List α} (h : l ∈ List.replicate k ([] : List α)) : l = [] := List.eq_of_mem_replicate h
theorem z03 {k : Nat} {x : Int} : gC (List.replicate k []) x = [] := Qf (cus := []) (k := k) (i := x)
theorem iv1 (g0 g2 : AO) (hands : Int) {cs : List Nat} (hc : cs.length < 200) : Iv (sh1 g0 g2 hands cs) (List.replicate cs.length []) (List.replicate cs.length []) [] ∧ (sh1 g0 g2 hands cs).sh = ze 0 cs.length := by
  have lb : (sh1 g0 g2 hands cs).b.length = cs.length := List.length_replicate
  have fb : ∀ (x : Int), 0 ≤ x → x < cs.length → fl (sh1 g0 g2 hands cs).b x = true := fun x x0 x1 => by
    unfold fl
    show (List.replicate cs.length true)[x.toNat]?.getD false = true
    rw [List.getElem?_replicate, if_pos (by lia)]; rfl
  refine ⟨⟨⟨⟨⟨?_, by rw [lb]; exact hc⟩, ?_, fun i hi => ?_, hc⟩, ⟨yY _ _, List.length_replicate, List.length_replicate, List.length_replicate, fun i hi => ?_, fun ps hp p hq => ?_, fun ps hp p hq => ?_, fun v hv => ?_, fun ps hp => ?_, fun ps hp => ?_, hc, zc rfl, by rw [lb]; exact hc⟩, ⟨fun x x0 x1 => ?_, fun i i0 i1 x hx => ?_⟩, rfl, rfl, fun us hu => (by cases hu), fun i i0 i1 d hd => (by rw [z03] at hd; cases hd), fun i i0 i1 p hp => (by rw [Qe] at hp; cases hp), fun i d i0 i1 hd => (by have := List.eq_of_mem_replicate (yI hd); cases this)⟩, fun x x0 x1 => ?_⟩, ?_⟩
  · rw [lb]
    show (ze 0 cs.length).Perm _
    unfold ze
    simp only [Nat.zero_add]
    exact List.Perm.refl _
  · rw [lb]; exact yY _ _
  · have := yg hi
    show 0 ≤ i ∧ i < (cs.length : Int)
    lia
  · have := yg hi
    rw [lb]; lia
  · rw [Z6 hp] at hq; cases hq
  · rw [Z6 hp] at hq; cases hq
  · exact .inl (List.eq_of_mem_replicate hv)
  · rw [Z6 hp]; exact Nat.zero_le _
  · rw [Z6 hp]; exact Nat.zero_le _
  · rw [lb] at x1
    show inS (ze 0 cs.length) _ x (gI (ze 0 cs.length) x)
    rw [jG x0 x1]
    exact .inl (jG x0 x1).symm
  · have i1 : i < cs.length := i1
    rw [lb]
    have hx : x = gI (ze 0 cs.length) i ∨ ∃ p ∈ gM (List.replicate cs.length []) i, p.2 = x := hx
    rw [Qe, jG i0 i1] at hx
    rcases hx with rfl | ⟨p, hp, _⟩
    · exact ⟨jG i0 i1, i0, i1⟩
    · cases hp
  · rw [lb] at x1
    rw [fb x x0 x1]
    unfold Sh.tgt
    have e1 : gI (ze 0 cs.length) x = x := jG x0 x1
    have e2 : (sh1 g0 g2 hands cs).shw (List.replicate cs.length []) x = true := by
      unfold Sh.shw
      show (Qm [] ((List.replicate cs.length AV.none)[x.toNat]?.getD .none) && !(gC (List.replicate cs.length []) x).any _) = true
      rw [z03, List.getElem?_replicate, if_pos (wv x0 x1)]; rfl
    have e3 : (sh1 g0 g2 hands cs).cur (List.replicate cs.length []) x = x := by
      show yH [] (gI (ze 0 cs.length) x) (gM (List.replicate cs.length []) x) = x
      rw [Qe, e1]; rfl
    show true = ((sh1 g0 g2 hands cs).shw (List.replicate cs.length []) (gI (ze 0 cs.length) x) && decide (x = (sh1 g0 g2 hands cs).cur (List.replicate cs.length []) (gI (ze 0 cs.length) x)))
    rw [e1, e2, e3, decide_eq_true rfl]; rfl
  · show ((ze 0 cs.length).filter (fl (sh1 g0 g2 hands cs).b)).map (fun x => gI (ze 0 cs.length) x) = _
    rw [List.filter_eq_self.mpr fun x hx => by have := yg hx; exact fb x (by lia) (by lia)]
    have := Jn (l := []) (m := ze 0 cs.length) (k := cs.length) (n := 0) rfl (yY _ _)
    rw [List.nil_append] at this
    exact this
abbrev rF1 (k : Nat) : List (Str × AV) := [("line", .ref (k + 1))]
abbrev rF2 (k : Nat) : List (Str × AV) := [("line", .ref (k + 1)), ("flags", .ref (k + 2))]
section
variable {T : Tab} {okf : Str → Str → Bool} (X : TT T okf) {n : Nat}
include X
theorem JU {h : Hp} : run T (n + 1) (.cls "Row") [] h = .ok (.ref h.length) (h ++ [.inst "Row" (rF2 h.length), .list [], .list []]) := by
  rw [Ym X.row X.kBp]
  have e : yK (kBp okf) (run T n) [.ref h.length] (h ++ [.inst "Row" []]) = .ok .none (h ++ [.inst "Row" (rF2 h.length), .list [], .list []]) := by
    refine zt (fr := [some (.ref h.length)]) rfl rfl (fr' := [some (.ref h.length)]) ?_
    unfold kBp
    dsimp only
    rw [z5 (yo (a := h.length) (yL ev0) (z3 rfl) (show ((h ++ [AO.inst "Row" []]) ++ [AO.list []])[h.length]? = some (.inst "Row" []) by rw [List.append_assoc]; exact zO _ _ _) X.kB9 (zc rfl) (show wH "line" (AV.ref (h ++ [AO.inst "Row" []]).length) [] = rF1 h.length by rw [zP]; rfl))]
    have e1 : ((h ++ [AO.inst "Row" []]) ++ [AO.list []]).set h.length (.inst "Row" (rF1 h.length)) = h ++ [.inst "Row" (rF1 h.length), .list []] := by rw [List.append_assoc]; exact qM _ _ _ _
    rw [e1]
    rw [z5 (yo (a := h.length) (yL ev0) (z3 rfl) (show ((h ++ [AO.inst "Row" (rF1 h.length), .list []]) ++ [AO.list []])[h.length]? = some (.inst "Row" (rF1 h.length)) by rw [List.append_assoc]; exact zO _ _ _) X.kBy (zc rfl) (show wH "flags" (AV.ref (h ++ [AO.inst "Row" (rF1 h.length), .list []]).length) (rF1 h.length) = rF2 h.length by rw [zP]; rfl))]
    have e2 : ((h ++ [AO.inst "Row" (rF1 h.length), .list []]) ++ [AO.list []]).set h.length (.inst "Row" (rF2 h.length)) = h ++ [.inst "Row" (rF2 h.length), .list [], .list []] := by rw [List.append_assoc]; exact qM _ _ _ _
    rw [e2]
    exact zC
  rw [e]; rfl
theorem zE1 {g0 : AO} {cs : List Nat} {hands : Int} (ok : okT cs) (hc : cs.length ≤ 60) (h1 : 1 ≤ hands) (h9 : hands ≤ 9) : ∃ g2 r, run T (n + 5) (.cls "Sheet") [.str (tx cs), .int hands] [g0] = .ok (.ref 1) ((sh1 g0 g2 hands cs).hp r) ∧ Dy (sh1 g0 g2 hands cs) (List.replicate cs.length []) (List.replicate cs.length []) r := by
  refine ⟨.list (cs.map fun _ => AV.bool true), .list ((ze 0 cs.length).map AV.int) :: List.replicate (2 * cs.length) (.list []), ?_, ?_⟩
  · rw [Ym X.sheet X.kBf]
    generalize hg2 : AO.list (cs.map fun _ => AV.bool true) = g2
    have e : yK (kBf okf) (run T (n + 4)) [.ref 1, .str (tx cs), .int hands] ([g0] ++ [.inst "Sheet" []]) = .ok .none ((sh1 g0 g2 hands cs).hp (.list ((ze 0 cs.length).map AV.int) :: List.replicate (2 * cs.length) (.list []))) := by
      refine zt (fr := [some (.ref 1), some (.str (tx cs)), some (.int hands)]) rfl rfl (fr' := [some (.ref 1), some (.str (tx cs)), some (.int hands)]) ?_
      unfold kBf
      dsimp only
      show z9 _ _ _ [g0, .inst "Sheet" []] = _
      have et := Xq X (n := n + 3) ok (by lia) (hp := [g0, .inst "Sheet" []])
      rw [hg2] at et
      have et' : run T (n + 4) (.fn "is_text") [.str (tx cs)] [g0, .inst "Sheet" []] = .ok (.bool true) [g0, .inst "Sheet" [], g2] := et
      rw [z5 ((zH (zu (b := true) (yX (v := .bool true) (zg (ev1 (z3 rfl) ev0) et') rfl))).trans zC)]
      rw [z5 ((zH (x7 (zu (b := true) (yX (v := .bool true) (zg (ev1 (z3 rfl) ev0) (yC X (n := n + 3))) rfl)) (x7 (zu (b := true) (yu rfl (z3 rfl) (by rw [yt, decide_eq_true h1]) rfl (by rw [yt, decide_eq_true h9]))) qN))).trans zC)]
      rw [z5 (yo (a := 1) (fs' := [("hands", .int hands)]) (z3 rfl) (z3 rfl) rfl X.kB0 (zc rfl) rfl)]
      show z9 _ _ _ [g0, .inst "Sheet" [("hands", .int hands)], g2] = _
      rw [z5 (yo (a := 1) (fs' := [("hands", .int hands), ("row", .ref 3)]) (JX ev0 (JU X (n := n + 3))) (z3 rfl) rfl X.kCa (zc rfl) rfl)]
      show z9 _ _ _ [g0, .inst "Sheet" [("hands", .int hands), ("row", .ref 3)], g2, .inst "Row" fs, .list [], .list []] = _
      rw [z5 (yo (a := 1) (fs' := [("hands", .int hands), ("row", .ref 3), ("owners", .ref 6)]) (yL (h1 := [g0, .inst "Sheet" [("hands", .int hands), ("row", .ref 3)], g2, .inst "Row" fs, .list [], .list []]) ev0) (z3 rfl) rfl X.kBw (zc rfl) rfl)]
      show z9 _ _ _ [g0, .inst "Sheet" [("hands", .int hands), ("row", .ref 3), ("owners", .ref 6)], g2, .inst "Row" fs, .list [], .list [], .list []] = _
      rw [z5 (yo (a := 1) (fs' := [("hands", .int hands), ("row", .ref 3), ("owners", .ref 6), ("letters", .ref 7)]) (yL (h1 := [g0, .inst "Sheet" [("hands", .int hands), ("row", .ref 3), ("owners", .ref 6)], g2, .inst "Row" fs, .list [], .list [], .list []]) ev0) (z3 rfl) rfl X.kBo (zc rfl) rfl)]
      show z9 _ _ _ [g0, .inst "Sheet" [("hands", .int hands), ("row", .ref 3), ("owners", .ref 6), ("letters", .ref 7)], g2, .inst "Row" fs, .list [], .list [], .list [], .list []] = _
      rw [z5 (yo (a := 1) (fs' := [("hands", .int hands), ("row", .ref 3), ("owners", .ref 6), ("letters", .ref 7), ("firsts", .ref 8)]) (yL (h1 := [g0, .inst "Sheet" [("hands", .int hands), ("row", .ref 3), ("owners", .ref 6), ("letters", .ref 7)], g2, .inst "Row" fs, .list [], .list [], .list [], .list []]) ev0) (z3 rfl) rfl X.kBv (zc rfl) rfl)]
      show z9 _ _ _ [g0, .inst "Sheet" [("hands", .int hands), ("row", .ref 3), ("owners", .ref 6), ("letters", .ref 7), ("firsts", .ref 8)], g2, .inst "Row" fs, .list [], .list [], .list [], .list [], .list []] = _
      rw [z5 (yo (a := 1) (fs' := [("hands", .int hands), ("row", .ref 3), ("owners", .ref 6), ("letters", .ref 7), ("firsts", .ref 8), ("moved", .ref 9)]) (yL (h1 := [g0, .inst "Sheet" [("hands", .int hands), ("row", .ref 3), ("owners", .ref 6), ("letters", .ref 7), ("firsts", .ref 8)], g2, .inst "Row" fs, .list [], .list [], .list [], .list [], .list []]) ev0) (z3 rfl) rfl X.kB4 (zc rfl) rfl)]
      show z9 _ _ _ [g0, .inst "Sheet" [("hands", .int hands), ("row", .ref 3), ("owners", .ref 6), ("letters", .ref 7), ("firsts", .ref 8), ("moved", .ref 9)], g2, .inst "Row" fs, .list [], .list [], .list [], .list [], .list [], .list []] = _
      rw [z5 (yo (a := 1) (fs' := [("hands", .int hands), ("row", .ref 3), ("owners", .ref 6), ("letters", .ref 7), ("firsts", .ref 8), ("moved", .ref 9), ("bringers", .ref 10)]) (yL (h1 := [g0, .inst "Sheet" [("hands", .int hands), ("row", .ref 3), ("owners", .ref 6), ("letters", .ref 7), ("firsts", .ref 8), ("moved", .ref 9)], g2, .inst "Row" fs, .list [], .list [], .list [], .list [], .list [], .list []]) ev0) (z3 rfl) rfl X.kBc (zc rfl) rfl)]
      show z9 _ _ _ [g0, .inst "Sheet" [("hands", .int hands), ("row", .ref 3), ("owners", .ref 6), ("letters", .ref 7), ("firsts", .ref 8), ("moved", .ref 9), ("bringers", .ref 10)], g2, .inst "Row" fs, .list [], .list [], .list [], .list [], .list [], .list [], .list []] = _
      rw [z5 (yo (a := 1) (fs' := [("hands", .int hands), ("row", .ref 3), ("owners", .ref 6), ("letters", .ref 7), ("firsts", .ref 8), ("moved", .ref 9), ("bringers", .ref 10), ("cutters", .ref 11)]) (yL (h1 := [g0, .inst "Sheet" [("hands", .int hands), ("row", .ref 3), ("owners", .ref 6), ("letters", .ref 7), ("firsts", .ref 8), ("moved", .ref 9), ("bringers", .ref 10)], g2, .inst "Row" fs, .list [], .list [], .list [], .list [], .list [], .list [], .list []]) ev0) (z3 rfl) rfl X.kBm (zc rfl) rfl)]
      show z9 _ _ _ [g0, .inst "Sheet" [("hands", .int hands), ("row", .ref 3), ("owners", .ref 6), ("letters", .ref 7), ("firsts", .ref 8), ("moved", .ref 9), ("bringers", .ref 10), ("cutters", .ref 11)], g2, .inst "Row" fs, .list [], .list [], .list [], .list [], .list [], .list [], .list [], .list []] = _
      rw [z5 (yo (a := 1) (fs' := [("hands", .int hands), ("row", .ref 3), ("owners", .ref 6), ("letters", .ref 7), ("firsts", .ref 8), ("moved", .ref 9), ("bringers", .ref 10), ("cutters", .ref 11), ("done", .ref 12)]) (yL (h1 := [g0, .inst "Sheet" [("hands", .int hands), ("row", .ref 3), ("owners", .ref 6), ("letters", .ref 7), ("firsts", .ref 8), ("moved", .ref 9), ("bringers", .ref 10), ("cutters", .ref 11)], g2, .inst "Row" fs, .list [], .list [], .list [], .list [], .list [], .list [], .list [], .list []]) ev0) (z3 rfl) rfl X.kB8 (zc rfl) rfl)]
      show z9 _ _ _ [g0, .inst "Sheet" [("hands", .int hands), ("row", .ref 3), ("owners", .ref 6), ("letters", .ref 7), ("firsts", .ref 8), ("moved", .ref 9), ("bringers", .ref 10), ("cutters", .ref 11), ("done", .ref 12)], g2, .inst "Row" fs, .list [], .list [], .list [], .list [], .list [], .list [], .list [], .list [], .list []] = _
      rw [z5 (yo (a := 1) (fs' := [("hands", .int hands), ("row", .ref 3), ("owners", .ref 6), ("letters", .ref 7), ("firsts", .ref 8), ("moved", .ref 9), ("bringers", .ref 10), ("cutters", .ref 11), ("done", .ref 12), ("standing", .ref 13)]) (yL (h1 := [g0, .inst "Sheet" [("hands", .int hands), ("row", .ref 3), ("owners", .ref 6), ("letters", .ref 7), ("firsts", .ref 8), ("moved", .ref 9), ("bringers", .ref 10), ("cutters", .ref 11), ("done", .ref 12)], g2, .inst "Row" fs, .list [], .list [], .list [], .list [], .list [], .list [], .list [], .list [], .list []]) ev0) (z3 rfl) rfl X.kBe (zc rfl) rfl)]
      show z9 _ _ _ [g0, .inst "Sheet" [("hands", .int hands), ("row", .ref 3), ("owners", .ref 6), ("letters", .ref 7), ("firsts", .ref 8), ("moved", .ref 9), ("bringers", .ref 10), ("cutters", .ref 11), ("done", .ref 12), ("standing", .ref 13)], g2, .inst "Row" fs, .list [], .list [], .list [], .list [], .list [], .list [], .list [], .list [], .list [], .list []] = _
      rw [z5 (yo (a := 1) (fs' := [("hands", .int hands), ("row", .ref 3), ("owners", .ref 6), ("letters", .ref 7), ("firsts", .ref 8), ("moved", .ref 9), ("bringers", .ref 10), ("cutters", .ref 11), ("done", .ref 12), ("standing", .ref 13), ("lost", .ref 14)]) (yL (h1 := [g0, .inst "Sheet" [("hands", .int hands), ("row", .ref 3), ("owners", .ref 6), ("letters", .ref 7), ("firsts", .ref 8), ("moved", .ref 9), ("bringers", .ref 10), ("cutters", .ref 11), ("done", .ref 12), ("standing", .ref 13)], g2, .inst "Row" fs, .list [], .list [], .list [], .list [], .list [], .list [], .list [], .list [], .list [], .list []]) ev0) (z3 rfl) rfl X.kB7 (zc rfl) rfl)]
      show z9 _ _ _ [g0, .inst "Sheet" [("hands", .int hands), ("row", .ref 3), ("owners", .ref 6), ("letters", .ref 7), ("firsts", .ref 8), ("moved", .ref 9), ("bringers", .ref 10), ("cutters", .ref 11), ("done", .ref 12), ("standing", .ref 13), ("lost", .ref 14)], g2, .inst "Row" fs, .list [], .list [], .list [], .list [], .list [], .list [], .list [], .list [], .list [], .list [], .list []] = _
      have eb := z0j X (n := n) (S := sh0 g0 g2 hands) (r := []) (bh := .none) (d := .none) (i := 0) (cs := cs) (.inl ⟨rfl, rfl⟩) ⟨Nat.zero_le _, Nat.zero_le _, Nat.zero_le _, Nat.zero_le _, Nat.zero_le _, Nat.zero_le _, Nat.zero_le _, Nat.zero_le _⟩ (fun x hx => by cases hx) (by lia)
      have eq : (sh0 g0 g2 hands).adds 0 .none (([] : Hp).length + 1) cs = sh1 g0 g2 hands cs := JM g0 g2 hands cs
      rw [eq] at eb
      rw [z5 (zU (zF (a := 1) (z3 rfl) rfl Xh (ev1 (z3 rfl) (ev1 rfl (ev1 rfl ev0))) eb))]
      exact zC
    show Out.bind0 (yK (kBf okf) (run T (n + 4)) [.ref 1, .str (tx cs), .int hands] ([g0] ++ [.inst "Sheet" []])) _ = _
    rw [e]; rfl
  · have D0 : Dy (sh0 g0 (.list (cs.map fun _ => AV.bool true)) hands) [] [] [] := ⟨rfl, rfl, (fun i k ps h1 _ => by cases h1), (fun i k ps h1 _ => by cases h1), List.nodup_nil⟩
    have := D0.adds (i := 0) (d := .none) (cs := cs) (o := .list ((ze 0 cs.length).map AV.int))
    rw [show (([] : Hp).length + 1) = 1 from rfl, JM, List.nil_append, List.nil_append, List.nil_append] at this
    exact this
end
def pos (l : List Int) (x : Int) : Nat := l.findIdx (· == x)
theorem ZN {l : List Int} {x : Int} (h : x ∈ l) : l.findIdx? (· == x) = some (pos l x) := by
  rw [List.findIdx?_eq_some_iff_findIdx_eq]
  exact ⟨List.findIdx_lt_length_of_exists ⟨x, h, beq_self_eq_true x⟩, rfl⟩
theorem JZ {l : List Int} {x : Int} (h : x ∈ l) : pos l x < l.length := List.findIdx_lt_length_of_exists ⟨x, h, beq_self_eq_true x⟩
theorem Yq {l : List Int} {x : Int} (h : x ∈ l) : l[pos l x]? = some x := by
  have hl := JZ h
  rw [y9 hl]
  exact congrArg some (beq_iff_eq.mp (List.findIdx_getElem (p := (· == x)) (w := hl)))
theorem z1r {l : List Int} {x y : Int} (hx : x ∈ l) (hy : y ∈ l) (e : pos l x = pos l y) : x = y := by
  have a := Yq hx
  rw [e, Yq hy] at a
  exact (Option.some.inj a).symm
section
variable {S : Sh} {mvs : List (List (Int × Int))} {cus sg : List (List Int)}
theorem Iw.cur_mem (I : Iw S mvs cus sg) {i : Int} (h0 : 0 ≤ i) (h1 : i < S.le.length) : S.cur mvs i ∈ S.l ∧ gI S.ow (S.cur mvs i) = i := by
  obtain ⟨a, b, c⟩ := I.W.back i h0 h1 _ Qi
  refine ⟨(I.O.G.perm.mem_iff).mpr (List.mem_map.mpr ⟨(S.cur mvs i).toNat, List.mem_range.mpr (wv b c), Int.toNat_of_nonneg b⟩), a⟩
def Sh.at_ (S : Sh) (mvs : List (List (Int × Int))) (i : Int) : Nat := pos S.l (S.cur mvs i)
theorem Iw.at_inj (I : Iw S mvs cus sg) {i j : Int} (i0 : 0 ≤ i) (i1 : i < S.le.length) (j0 : 0 ≤ j) (j1 : j < S.le.length) (e : S.at_ mvs i = S.at_ mvs j) : i = j := by
  obtain ⟨a, b⟩ := I.cur_mem i0 i1
  obtain ⟨c, d⟩ := I.cur_mem j0 j1
  rw [← b, ← d, z1r a c e]
def Sh.pl (S : Sh) (mvs : List (List (Int × Int))) (i : Int) : Nat := (tk S.b (S.l.take (S.at_ mvs i))).length
theorem Iv.up (V : Iv S mvs cus sg) {i : Int} (i0 : 0 ≤ i) (i1 : i < S.le.length) : S.pl mvs i + (if S.shw cus i then 1 else 0) ≤ (tk S.b (S.l.take (S.at_ mvs i + 1))).length := by
  obtain ⟨a, b⟩ := V.I.cur_mem i0 i1
  have hg := Yq a
  have hl := JZ a
  have hp : S.l.take (S.at_ mvs i) ++ [S.cur mvs i] = S.l.take (S.at_ mvs i + 1) := by
    rw [List.take_succ]; show _ = _ ++ (S.l[pos S.l (S.cur mvs i)]?).toList; rw [hg]; rfl
  rw [← hp]
  show (tk S.b (S.l.take (S.at_ mvs i))).length + _ ≤ (List.filter (fl S.b) (S.l.take (S.at_ mvs i) ++ [S.cur mvs i])).length
  rw [List.filter_append, zP]
  refine Nat.add_le_add_left ?_ _
  cases hc : S.shw cus i with
  | false => exact Nat.zero_le _
  | true =>
    obtain ⟨x0, x1⟩ := V.I.O.G.rng _ a
    have ht : fl S.b (S.cur mvs i) = true := by
      rw [V.flag _ x0 x1]
      show (S.shw cus (gI S.ow (S.cur mvs i)) && decide (S.cur mvs i = S.cur mvs (gI S.ow (S.cur mvs i)))) = true
      rw [b, hc, decide_eq_true rfl]; rfl
    rw [List.filter_cons, ht]; exact Nat.le_refl _
end
def Kps (S : Sh) (r : Hp) (S' : Sh) (r' : Hp) : Prop := ∀ (q : Nat) (o : AO), q ∉ S.mv → q ∉ S.cu → r[q]? = some o → r'[q]? = some o ∧ q ∉ S'.mv ∧ q ∉ S'.cu
theorem Kps.trans {S S' S'' : Sh} {r r' r'' : Hp} (a : Kps S r S' r') (b : Kps S' r' S'' r'') : Kps S r S'' r'' := fun q o h1 h2 h3 => let ⟨c, d, e⟩ := a q o h1 h2 h3; b q o d e c
def Dn (S : Sh) (sg : List (List Int)) (P : List Nat) (r : Hp) : Prop := ∀ (d : Nat) (us : List Int), sg[d]? = some us → ∃ (hd : Int) (w : Str) (q : Nat), S.dn[d]? = some (.tup [.int hd, .str w, .ref (q + 15)]) ∧ r[q]? = some (.list (us.map AV.int)) ∧ q ∉ S.mv ∧ q ∉ S.cu ∧ q ∉ P
theorem ZH {α : Type} {l : List α} {x y : α} {d : Nat} (h : (l ++ [x])[d]? = some y) : l[d]? = some y ∨ (d = l.length ∧ x = y) := by
  rcases jJ h with ⟨_, c⟩ | ⟨a, c⟩
  · exact .inl c
  · right
    cases e : d - l.length with
    | zero => rw [e] at c; exact ⟨Nat.le_antisymm (Nat.sub_eq_zero_iff_le.mp e) a, Option.some.inj c⟩
    | succ k => rw [e] at c; cases c
theorem Dn.step {S S' : Sh} {sg : List (List Int)} {P : List Nat} {r r' : Hp} (N : Dn S sg P r) (K : Kps S r S' r') {us : List Int} {w : Str} {hd : Int} {q : Nat} (e : S'.dn = S.dn ++ [.tup [.int hd, .str w, .ref (q + 15)]]) (hq : r'[q]? = some (.list (us.map AV.int))) (q1 : q ∉ S'.mv) (q2 : q ∉ S'.cu) (q3 : q ∉ P) (h1 : sg.length = S.dn.length) : Dn S' (sg ++ [us]) P r' := by
  intro d vs h
  rcases ZH h with h | ⟨rfl, rfl⟩
  · obtain ⟨hd', w', q', b, c, d1, d2, d3⟩ := N d vs h
    obtain ⟨c', e1, e2⟩ := K q' _ d1 d2 c
    exact ⟨hd', w', q', by rw [e]; exact zE b, c', e1, e2, d3⟩
  · exact ⟨hd, w, q, by rw [e, h1]; exact zO _ _ [], hq, q1, q2, q3⟩
structure Bs (hands : Int) (c k : Nat) (P : List Nat) (S : Sh) (mvs : List (List (Int × Int))) (cus sg : List (List Int)) (r : Hp) : Prop where
  V : Iv S mvs cus sg
  D : Dy S mvs cus r
  N : Dn S sg P r
  p : ∀ q ∈ P, q < r.length ∧ q ∉ S.mv ∧ q ∉ S.cu
  hd : S.hands = hands
  bb : S.b.length ≤ c + 5 * k
  bl : S.le.length ≤ c + 4 * k
  bn : S.dn.length ≤ k
  al : ∀ d : Nat, d < S.dn.length → fl S.st d = false → (d : Int) ∈ S.lo
  lz : S.lo.length ≤ k
theorem z2h {st : List Bool} {lo : List Int} {m m' : Nat} (h : st.length = m) (hm : m' = m + 1) (al : ∀ d : Nat, d < m → fl st d = false → (d : Int) ∈ lo) : ∀ d : Nat, d < m' → fl (st ++ [true]) d = false → (d : Int) ∈ lo := fun d hd q => by
  by_cases e : d < m
  · exact al d e (by rw [ZE (Int.natCast_nonneg _) (Int.ofNat_lt.mpr (h ▸ e))]; exact q)
  · have e : d = st.length := by rw [h]; exact Nat.le_antisymm (Nat.le_of_lt_succ (by rw [hm] at hd; exact hd)) (Nat.not_lt.mp e)
    subst e
    unfold fl at q
    rw [Int.toNat_natCast, List.getElem?_append_right (Nat.le_refl _), Nat.sub_self] at q
    cases q
theorem Ok1.tkl {S : Sh} (O : Ok1 S) : S.sh.length = (tk S.b S.l).length ∧ S.sh.length < 200 := by
  have h1 : S.sh.length = (tk S.b S.l).length := List.length_map _
  have h2 : (tk S.b S.l).length ≤ S.l.length := List.length_filter_le (fl S.b) S.l
  refine ⟨h1, ?_⟩
  rw [h1]
  exact Nat.lt_of_le_of_lt h2 (O.G.len ▸ O.G.sm)
theorem Dy.ge {S : Sh} {mvs : List (List (Int × Int))} {cus : List (List Int)} {r : Hp} (D : Dy S mvs cus r) {q : Nat} (h : r.length ≤ q) : q ∉ S.mv ∧ q ∉ S.cu :=
  ⟨fun m => absurd (D.lt q (List.mem_append_left _ m)) (Nat.not_lt.mpr h), fun m => absurd (D.lt q (List.mem_append_right _ m)) (Nat.not_lt.mpr h)⟩
theorem Kps.p {S S' : Sh} {r r' : Hp} {P : List Nat} (K : Kps S r S' r') (p : ∀ q ∈ P, q < r.length ∧ q ∉ S.mv ∧ q ∉ S.cu) : ∀ q ∈ P, q < r'.length ∧ q ∉ S'.mv ∧ q ∉ S'.cu := fun q h => by
  obtain ⟨p1, p2, p3⟩ := p q h
  obtain ⟨a, b⟩ := K q _ p2 p3 (y9 p1)
  exact ⟨(y8 a).1, b⟩
theorem Zr {a c m k : Nat} (h : a ≤ c + m * k) : a ≤ c + m * (k + 1) := Nat.le_trans h (Nat.add_le_add_left (Nat.mul_le_mul_left m (Nat.le_succ k)) c)
theorem Qp {a c m k j : Nat} (h : a ≤ c + m * k) (h' : j ≤ m) : a + j ≤ c + m * (k + 1) := by rw [Nat.mul_succ, ← Nat.add_assoc]; exact Nat.add_le_add h h'
section
variable {T : Tab} {okf : Str → Str → Bool} (X : TT T okf) {n : Nat} {S : Sh} {r : Hp} {mvs : List (List (Int × Int))} {cus sg : List (List Int)} {P : List Nat} {hands : Int} {c k : Nat}
include X
theorem do_ (A : Bs hands c k P S mvs cus sg r) (hk : c + 5 * k < 190) {hd : Int} {d : Deed} (d0 : 0 ≤ hd) (d1 : hd < hands) (ok : d.ok S.sh.length) :
    ∃ S' mvs' cus' sg' r', run T (n + 7) (.fn "_law_do") [.ref 1, d.av hd] (S.hp r) = .ok (.int S.dn.length) (Sh.hp S' r') ∧ Bs hands c (k + 1) P S' mvs' cus' sg' r' ∧ Kps S r S' r' ∧ S.le.length ≤ S'.le.length := by
  have I := A.V.I
  obtain ⟨l1, l3⟩ := I.O.tkl
  have d1 : hd < S.hands := by rw [A.hd]; exact d1
  have bb := A.bb
  have bl := A.bl
  have bn := A.bn
  have k4 : c + 4 * k ≤ c + 5 * k := Nat.add_le_add_left (Nat.mul_le_mul_right k (by decide)) c
  have hs : S.s1.st.length < 200 := by
    rw [QM, I.st]
    exact Nat.lt_of_le_of_lt (Nat.succ_le_succ (Nat.le_trans bn (Nat.le_trans (Nat.le_mul_of_pos_left k (by decide)) (Nat.le_add_left _ _)))) (Nat.lt_of_lt_of_le (Nat.succ_lt_succ hk) (by decide))
  have hb : S.b.length + 10 < 200 := Nat.add_lt_add_right (Nat.lt_of_le_of_lt bb hk) 10
  have he : S.le.length + 4 < 200 := Nat.lt_of_lt_of_le (Nat.add_lt_add_right (Nat.lt_of_le_of_lt (Nat.le_trans bl k4) hk) 4) (by decide)
  have np : ∀ {q : Nat}, r.length ≤ q → q ∉ P := fun h m => absurd (A.p _ m).1 (Nat.not_lt.mpr h)
  have dnl : ∀ x : AV, (S.dn ++ [x]).length ≤ k + 1 := fun x => by rw [zP]; exact Nat.succ_le_succ bn
  have als : ∀ x : AV, ∀ d : Nat, d < (S.dn ++ [x]).length → fl (S.st ++ [true]) d = false → (d : Int) ∈ S.lo := fun x => z2h I.st (by rw [zP]; rfl) A.al
  have lzs := Nat.le_succ_of_le A.lz
  rw [yy X.kB6]
  cases d with
  | put p ts =>
    obtain ⟨p0, p1, okt, ne, c4⟩ := ok
    have hb' := QF hb (Nat.le_trans c4 (by decide))
    have he' := QF he c4
    obtain ⟨r', i, q, x, _, _, _, e, D', kp, hq, q', eq', lq', rfl, hq'⟩ := zEk X (n := n) I.O I.K A.D I.st d0 d1 p0 (by rw [← l1]; exact p1) okt ne (Nat.le_trans c4 (by decide)) hb' he' hs
    have mem : ∀ {q' : Nat} {f : Nat → Nat} {l : List Nat}, q' ∈ l ++ (List.range ts.length).map f → (∀ j, q' ≠ f j) → q' ∈ l := fun hm hf => by
      rcases xa hm with hm | hm
      · exact hm
      · obtain ⟨k, _, hk⟩ := List.mem_map.mp hm
        exact absurd hk.symm (hf k)
    have K : Kps S r ({ S.s1.adds i (.int S.dn.length) q ts with b := yW (S.s1.adds i (.int S.dn.length) q ts) (mvs ++ List.replicate ts.length []) (cus ++ List.replicate ts.length []) (S.s1.adds i (.int S.dn.length) q ts).b (ze S.le.length ts.length), dn := S.dn ++ [.tup [.int hd, .str "put", .ref (q' + 15)]] } : Sh) r' := by
      intro q' o a c h
      have hl := (y8 h).1
      refine ⟨kp q' o a c h, fun hm => a (mem hm fun j e => ?_), fun hm => c (mem hm fun j e => ?_)⟩
      · exact absurd hl (Nat.not_lt.mpr (e ▸ Nat.le_trans hq (Nat.le_add_right _ _)))
      · exact absurd hl (Nat.not_lt.mpr (e ▸ Nat.le_trans hq (Nat.le_trans (Nat.le_add_right _ _) (Nat.le_succ _))))
    have lB : (yW (S.s1.adds i (.int S.dn.length) q ts) (mvs ++ List.replicate ts.length []) (cus ++ List.replicate ts.length []) (S.s1.adds i (.int S.dn.length) q ts).b (ze S.le.length ts.length)).length = S.b.length + ts.length := by
      rw [xW]
      show (S.b ++ List.replicate ts.length true).length = _
      rw [zP, List.length_replicate]
    refine ⟨_, _, _, _, r', ?_, ⟨A.V.put hs hb' he', ⟨D'.ml, D'.cl, D'.m, D'.c, D'.nd⟩, A.N.step K rfl hq' (fun hm => (A.D.ge lq').1 (mem hm fun j e => ?_)) (fun hm => (A.D.ge lq').2 (mem hm fun j e => ?_)) (np lq') I.sl, K.p A.p, A.hd, ?_, ?_, dnl _, als _, lzs⟩, K, ?_⟩
    · refine zL (fr := [some (.ref 1), some (Deed.av hd (.put p ts)), none, none, none, none, none, none]) rfl rfl (fr' := [some (.ref 1), some (Deed.av hd (.put p ts)), some (.int hd), some (.str "put"), some (.int 0), some (.int 0), some (.int p), some (.str (tx ts))]) ?_
      unfold kB6
      dsimp only
      rw [z5 (xd (z3 rfl) rfl)]
      exact zJ ((zZ (zX (z3 rfl) rfl zEc)).trans (zJ (zd (zF (a := 1) (z3 rfl) rfl zCa (ev1 (z3 rfl) (ev1 (z3 rfl) (ev1 (z3 rfl) ev0))) e))))
    · lia
    · lia
    · rw [lB]; exact Qp bb (Nat.le_trans c4 (by decide))
    · show (S.le ++ ts).length ≤ _
      rw [zP]; exact Qp bl c4
    · show S.le.length ≤ (S.le ++ ts).length
      rw [zP]; exact Nat.le_add_right _ _
  | cut i j =>
    obtain ⟨i0, i1, j1⟩ := ok
    obtain ⟨r', x, e, D', kp, q', lq', rfl, hq'⟩ := zEp X (n := n) I.O I.K A.D I.st A.V.sh_nodup d0 d1 i0 i1 (by rw [← l1]; exact j1) hs
    have nd : ((S.sh.take j.toNat).drop i.toNat).Nodup := (A.V.sh_nodup.sublist (List.take_sublist _ _)).sublist (List.drop_sublist _ _)
    have hi := jF I.O (i := i.toNat) (j := j.toNat)
    have K : Kps S r ({ S.s1 with b := yW S.s1 mvs (yj S.st.length cus ((S.sh.take j.toNat).drop i.toNat)) S.b ((S.sh.take j.toNat).drop i.toNat), dn := S.dn ++ [.tup [.int hd, .str "cut", .ref (q' + 15)]] } : Sh) r' := fun q o a c h => ⟨kp q o a c h, a, c⟩
    refine ⟨_, _, _, _, r', ?_, ⟨A.V.cut nd hi hs, ⟨D'.ml, D'.cl, D'.m, D'.c, D'.nd⟩, A.N.step K rfl hq' (A.D.ge lq').1 (A.D.ge lq').2 (np lq') I.sl, K.p A.p, A.hd, ?_, Zr bl, dnl _, als _, lzs⟩, K, Nat.le_refl _⟩
    · refine zL (fr := [some (.ref 1), some (Deed.av hd (.cut i j)), none, none, none, none, none, none]) rfl rfl (fr' := [some (.ref 1), some (Deed.av hd (.cut i j)), some (.int hd), some (.str "cut"), some (.int i), some (.int j), some (.int 0), some (.str "")]) ?_
      unfold kB6
      dsimp only
      rw [z5 (xd (z3 rfl) rfl)]
      rw [z5 ((zH (zX (z3 rfl) rfl zEf)).trans zC)]
      exact zJ ((zZ (zX (z3 rfl) rfl zEg)).trans (zJ (zd (zF (a := 1) (z3 rfl) rfl zCb (ev1 (z3 rfl) (ev1 (z3 rfl) (ev1 (z3 rfl) ev0))) e))))
    · show (yW _ _ _ _ _).length ≤ _
      rw [xW]; exact Zr bb
  | mov i j p =>
    obtain ⟨i0, i1, j1, j5, p0, p1, hp⟩ := ok
    obtain ⟨r', x, at_, _, _, _, e, D', kp, q', lq', rfl, hq'⟩ := zDy X (n := n) I.O I.K A.D I.st A.V.sh_nodup d0 d1 i0 i1 (by rw [← l1]; exact j1) p0 (by rw [← l1]; exact p1) hp hs hb j5
    have nd : ((S.sh.take j.toNat).drop i.toNat).Nodup := (A.V.sh_nodup.sublist (List.take_sublist _ _)).sublist (List.drop_sublist _ _)
    have hi := jF I.O (i := i.toNat) (j := j.toNat)
    have l5 : ((S.sh.take j.toNat).drop i.toNat).length ≤ 5 := by rw [List.length_drop, List.length_take]; exact zBs i0 i1 j5
    have lB : (yW S.s1 (y7 S.st.length mvs S.b.length ((S.sh.take j.toNat).drop i.toNat)) cus (S.s1.mov at_ ((S.sh.take j.toNat).drop i.toNat)).b ((S.sh.take j.toNat).drop i.toNat)).length = S.b.length + ((S.sh.take j.toNat).drop i.toNat).length := by
      rw [xW]
      show (S.b ++ List.replicate _ false).length = _
      rw [zP, List.length_replicate]
    have K : Kps S r ({ S.s1.mov at_ ((S.sh.take j.toNat).drop i.toNat) with b := yW S.s1 (y7 S.st.length mvs S.b.length ((S.sh.take j.toNat).drop i.toNat)) cus (S.s1.mov at_ ((S.sh.take j.toNat).drop i.toNat)).b ((S.sh.take j.toNat).drop i.toNat), dn := S.dn ++ [.tup [.int hd, .str "move", .ref (q' + 15)]] } : Sh) r' := fun q o a c h => ⟨kp q o a c h, a, c⟩
    refine ⟨_, _, _, _, r', ?_, ⟨A.V.mov nd hi hs (QF hb (Nat.le_trans l5 (by decide))), ⟨D'.ml, D'.cl, D'.m, D'.c, D'.nd⟩, A.N.step K rfl hq' (A.D.ge lq').1 (A.D.ge lq').2 (np lq') I.sl, K.p A.p, A.hd, ?_, Zr bl, dnl _, als _, lzs⟩, K, Nat.le_refl _⟩
    · refine zL (fr := [some (.ref 1), some (Deed.av hd (.mov i j p)), none, none, none, none, none, none]) rfl rfl (fr' := [some (.ref 1), some (Deed.av hd (.mov i j p)), some (.int hd), some (.str "move"), some (.int i), some (.int j), some (.int p), some (.str "")]) ?_
      unfold kB6
      dsimp only
      rw [z5 (xd (z3 rfl) rfl)]
      rw [z5 ((zH (zX (z3 rfl) rfl zEd)).trans zC)]
      rw [z5 ((zH (zX (z3 rfl) rfl zEe)).trans zC)]
      exact zJ (zd (zF (a := 1) (z3 rfl) rfl z1u (ev1 (z3 rfl) (ev1 (z3 rfl) (ev1 (z3 rfl) (ev1 (z3 rfl) ev0)))) e))
    · rw [lB]; exact Qp bb l5
end
theorem z25 {st : List Bool} {d : Nat} {v : Bool} (h : d < st.length) : fl (st.set d v) d = v := by
  unfold fl; rw [Int.toNat_natCast, List.getElem?_set_self h]; rfl
section
variable {S : Sh} {r : Hp} {mvs : List (List (Int × Int))} {cus sg : List (List Int)} {P : List Nat} {hands : Int} {c k : Nat}
theorem Bs.up (A : Bs hands c k P S mvs cus sg r) : Bs hands c (k + 1) P S mvs cus sg r := ⟨A.V, A.D, A.N, A.p, A.hd, Zr A.bb, Zr A.bl, Nat.le_succ_of_le A.bn, A.al, Nat.le_succ_of_le A.lz⟩
theorem Bs.grow (A : Bs hands c k P S mvs cus sg r) (g : Hp) {P' : List Nat} (hP : ∀ q ∈ P', q ∈ P ∨ (r.length ≤ q ∧ q < (r ++ g).length)) : Bs hands c k P' S mvs cus sg (r ++ g) := by
  refine ⟨A.V, A.D.grow g, fun d us h => ?_, fun q hq => ?_, A.hd, A.bb, A.bl, A.bn, A.al, A.lz⟩
  · obtain ⟨hd', w, q, b, c, e1, e2, e3⟩ := A.N d us h
    refine ⟨hd', w, q, b, zE c, e1, e2, fun m => ?_⟩
    rcases hP q m with m | m
    · exact e3 m
    · exact absurd (y8 c).1 (Nat.not_lt.mpr m.1)
  · rcases hP q hq with m | m
    · obtain ⟨p1, p2⟩ := A.p q m
      exact ⟨by rw [zP]; exact Nat.lt_of_lt_of_le p1 (Nat.le_add_right _ _), p2⟩
    · exact ⟨m.2, A.D.ge m.1⟩
theorem Bs.set (A : Bs hands c k P S mvs cus sg r) {j : Nat} (hj : j ∈ P) (o : AO) : Bs hands c k P S mvs cus sg (r.set j o) := by
  obtain ⟨_, j1, j2⟩ := A.p j hj
  have D := A.D
  refine ⟨A.V, ⟨D.ml, D.cl, fun i k ps h1 h2 => ?_, fun i k ds h1 h2 => ?_, D.nd⟩, fun d us h => ?_, fun q hq => ?_, A.hd, A.bb, A.bl, A.bn, A.al, A.lz⟩
  · rw [List.getElem?_set_ne (fun (e : j = k) => j1 (e ▸ yI h1))]; exact D.m i k ps h1 h2
  · rw [List.getElem?_set_ne (fun (e : j = k) => j2 (e ▸ yI h1))]; exact D.c i k ds h1 h2
  · obtain ⟨hd', w, q, b, c, e1, e2, e3⟩ := A.N d us h
    exact ⟨hd', w, q, b, by rw [List.getElem?_set_ne (fun (e : j = q) => e3 (e ▸ hj))]; exact c, e1, e2, e3⟩
  · rw [List.length_set]; exact A.p q hq
theorem Xp {st : List Bool} {lo : List Int} {b : List Bool} {g : Hp} : Kps S r ((S.wl st lo).wb b) (r ++ g) := fun q o a c h => ⟨zE h, a, c⟩
theorem Wj {l : List Int} {j : Nat} {x d : Int} (hj : l.findIdx? (· == d) = some j) (hx : x ∈ l) (ne : x ≠ d) : x ∈ l.eraseIdx j := by
  obtain ⟨i, hi⟩ := List.getElem?_of_mem hx
  refine List.mem_eraseIdx_iff_getElem?.mpr ⟨i, fun e => ?_, hi⟩
  subst e
  have h := List.findIdx?_eq_some_iff_getElem.mp hj
  rw [y9 h.1] at hi
  cases hi
  exact ne (beq_iff_eq.mp h.2.1)
theorem Bs.at_ (A : Bs hands c k P S mvs cus sg r) {d : Nat} (h : d < S.dn.length) : ∃ us hd w q, sg[d]? = some us ∧ S.dn[d]? = some (.tup [.int hd, .str w, .ref (q + 15)]) ∧ r[q]? = some (.list (us.map AV.int)) ∧ ∀ i ∈ us, 0 ≤ i ∧ i < S.le.length := by
  have e := y9 (l := sg) (i := d) (by rw [A.V.I.sl]; exact h)
  obtain ⟨hd, w, q, a, b, _⟩ := A.N d _ e
  exact ⟨_, hd, w, q, e, a, b, A.V.I.sr _ (yI e)⟩
theorem Bs.flip (A : Bs hands c k P S mvs cus sg r) {st : List Bool} {lo : List Int} {b : List Bool} {g : Hp} (V : Iv ((S.wl st lo).wb b) mvs cus sg) (hb : b.length = S.b.length) (al : ∀ d : Nat, d < S.dn.length → fl st d = false → (d : Int) ∈ lo) (lz : lo.length ≤ k + 1) : Bs hands c (k + 1) P ((S.wl st lo).wb b) mvs cus sg (r ++ g) := by
  have B := A.up.grow g (P' := P) fun q h => .inl h
  exact ⟨V, ⟨B.D.ml, B.D.cl, B.D.m, B.D.c, B.D.nd⟩, B.N, B.p, B.hd, by show b.length ≤ _; rw [hb]; exact B.bb, B.bl, B.bn, al, lz⟩
variable {T : Tab} {okf : Str → Str → Bool} (X : TT T okf) {n : Nat}
include X
theorem zCu (A : Bs hands c k P S mvs cus sg r) (hk : k < 200) {d : Nat} (hd : d < S.dn.length) :
    ∃ S' r', (fl S.st d = true → run T (n + 5) (.meth "Sheet" "take_back") [.ref 1, .int d] (S.hp r) = .ok .none (Sh.hp S' r')) ∧ (fl S.st d = false → run T (n + 5) (.meth "Sheet" "do_again") [.ref 1, .int d] (S.hp r) = .ok .none (Sh.hp S' r')) ∧
      Bs hands c (k + 1) P S' mvs cus sg r' ∧ Kps S r S' r' ∧ S'.le.length = S.le.length := by
  obtain ⟨us, hd', w, q, e1, e3, e4, e5⟩ := A.at_ hd
  have hl : d < S.st.length := by rw [A.V.I.st]; exact hd
  cases hv : fl S.st d with
  | true =>
    obtain ⟨g, e⟩ := QG X (n := n) A.V.I A.D hv e3 e4 e5 (Nat.lt_of_le_of_lt A.lz hk)
    refine ⟨_, _, fun _ => e, fun h => (nomatch h), A.flip (A.V.flip e1) (xW _ _) (fun x x1 x2 => ?_) (by rw [zP]; exact Nat.succ_le_succ A.lz), Xp, rfl⟩
    by_cases q : x = d
    · subst q; exact List.mem_append_right _ (.head _)
    · refine List.mem_append_left _ (A.al x x1 ?_)
      rw [← x2]; exact wI (Int.natCast_nonneg _) fun e => q (Int.ofNat.inj e)
  | false =>
    have hm := A.al d hd hv
    obtain ⟨j, hj⟩ : ∃ j, S.lo.findIdx? (· == (d : Int)) = some j := ⟨_, ZN hm⟩
    obtain ⟨g, e⟩ := Wl X (n := n) A.V.I A.D hv e3 e4 e5 hj
    refine ⟨_, _, fun h => (nomatch h), fun _ => e, A.flip (A.V.flip e1) (xW _ _) (fun x x1 x2 => ?_) (Nat.le_trans (List.length_eraseIdx_le _ _) (Nat.le_succ_of_le A.lz)), Xp, rfl⟩
    by_cases q : x = d
    · subst q; rw [z25 hl] at x2; cases x2
    · refine Wj hj (A.al x x1 ?_) fun e => q (Int.ofNat.inj e)
      rw [← x2]; exact wI (Int.natCast_nonneg _) fun e => q (Int.ofNat.inj e)
end
section
variable {cf : CF} {fr fr1 : AFr} {h h1 h2 : Hp} {x y : XE} {v w : AV} {s : XS} {rs : List XS} {b : XS} {nw : Bool} {c : Str}
theorem QR {op : CmpOp} {c : Bool} (e : x cf fr h = .ok v h1) (e' : y cf fr h1 = .ok w h2) (eb : yU op v w h2 = some c) : Zn x [op] [y] cf fr h = .ok (.bool c) h2 := by
  unfold Zn; rw [zX e e' eb]; rfl
theorem xn {F : Fn} {args : List AV} (hn : args.length = F.np) (hf : args.map some ++ List.replicate (F.nl - F.np) none = fr) (e : F.body cf fr h = .exc nw c fr1 h1) : yK F cf args h = .exc c h1 := by
  unfold yK; rw [if_pos hn, hf, e]
theorem yc (e : s cf fr h = .exc nw c fr1 h1) : z9 (s :: rs) cf fr h = .exc nw c fr1 h1 := by simp only [z9, e]
theorem qO (e : x cf fr h = .exc c h1) : zG x cf fr h = .exc false c fr h1 := by unfold zG; rw [e]; rfl
theorem Qu {i : Nat} {u : HV} {v : AV} (e : b cf fr h = .exc false c fr1 h1) (hi : i < fr1.length) (hu : u.of fr1 = some v) : Yl b c i u cf fr h = .ok .next (fr1.set i (some v)) h1 := by
  unfold Yl
  rw [e]
  show (if c = c ∧ i < fr1.length then (match u.of fr1 with
    | some u => OS.ok .next (fr1.set i (some u)) h1
    | none => .stuck) else .stuck) = _
  rw [if_pos ⟨rfl, hi⟩, hu]
end
theorem YK {K : Type} [DecidableEq K] {a i : K} {u : AV} {kvs : List (K × AV)} : yr ((a, u) :: kvs) i = if a = i then some u else yr kvs i := by
  unfold yr
  by_cases h : a = i
  · rw [if_pos h, List.find?_cons_of_pos (p := fun kv : K × AV => decide (kv.1 = i)) (decide_eq_true h)]; rfl
  · rw [if_neg h, List.find?_cons_of_neg (p := fun kv : K × AV => decide (kv.1 = i)) (by show ¬ decide (a = i) = true; rw [decide_eq_false h]; exact Bool.false_ne_true)]
theorem Wn {k : Int} {kvs : List (Int × AV)} (h : kvs.any (fun kv => kv.1 = k) = false) : yr kvs k = none := by
  induction kvs with
  | nil => rfl
  | cons p kvs ih =>
    rw [List.any_cons, Bool.or_eq_false_iff] at h
    rw [YK (a := p.1) (u := p.2), if_neg (of_decide_eq_false h.1)]
    exact ih h.2
section
variable {h : Hp} {a : Nat} {kvs : List (Int × AV)} {i j : Int} {u v : AV}
theorem jX (e : h[a]? = some (.dict kvs)) : zv h a = some kvs := by unfold zv; rw [e]
theorem Za (e : h[a]? = some (.dict kvs)) : wG h (.ref a) (.int i) = yr kvs i := by
  show (match zv h a with
    | some kvs => yr kvs i
    | none => _) = _
  rw [jX e]
theorem XV (e : h[a]? = some (.dict kvs)) (z : kvs.length < small) : xz h (.ref a) (.int i) v = some (h.set a (.dict (jY kvs i v))) := by
  rw [Z5, e]; exact if_pos z
theorem Zl (e : h[a]? = some (.dict kvs)) : yU .NotIn (.int i) (.ref a) h = some (!(yr kvs i).isSome) := by
  show ((zv h a).map (fun kvs => (yr kvs i).isSome)).map (!·) = _
  rw [jX e]; rfl
theorem W8 (e : h[a]? = some (.dict kvs)) (e' : yr kvs i = some u) : ofP (meD .pop a [.int i] h) = .ok u (h.set a (.dict (kvs.filter fun x => !decide (x.1 = i)))) := by
  show ofP ((zv h a).bind fun kvs => (yr kvs i).map fun v => (v, h.set a (.dict (kvs.filter fun x => !decide (x.1 = i))))) = _
  rw [jX e]
  show ofP ((yr kvs i).map _) = _
  rw [e']; rfl
theorem Zq (e : h[a]? = some (.dict kvs)) : x6 .list [.ref a] h = .ok (.ref h.length) (h ++ [.list (kvs.map fun p => .int p.1)]) := by
  rw [XB, e]
theorem QB (e : h[a]? = some (.dict kvs)) (z : kvs.length < 64) (z' : (kvs.map (·.1)).Pairwise (· ≤ ·)) : x6 .sorted [.ref a] h = .ok (.ref h.length) (h ++ [.list (kvs.map fun p => .int p.1)]) := by
  show ofP (match zv h a with
    | some kvs => if kvs.length < 64 ∧ (kvs.map (·.1)).Pairwise (· ≤ ·) then some (.ref h.length, h ++ [.list (kvs.map fun p => .int p.1)]) else none
    | none => _) = _
  rw [jX e]
  show ofP (if _ then _ else _) = _
  rw [if_pos ⟨z, z'⟩]; rfl
theorem Zp {is : List Int} (e : h[a]? = some (.list (is.map AV.int))) (z : is.length < 64) (z' : is.Pairwise (· ≤ ·)) : x6 .sorted [.ref a] h = .ok (.ref h.length) (h ++ [.list (is.map AV.int)]) := by
  show ofP (match zv h a with
    | some _ => _
    | none => (zn h a).bind fun xs => (ya yQ xs).bind fun is => if is.length < 64 ∧ is.Pairwise (· ≤ ·) then some (.ref h.length, h ++ [.list (is.map AV.int)]) else none) = _
  rw [show zv h a = none from by unfold zv; rw [e], wj e]
  show ofP ((ya yQ (is.map AV.int)).bind _) = _
  rw [Xe]
  show ofP (if _ then _ else _) = _
  rw [if_pos ⟨z, z'⟩]; rfl
end
section
variable {T : Tab} {okf : Str → Str → Bool} (X : TT T okf) {n : Nat} {l : List Int} {b : List Bool} {r : Hp} {o0 o1 o2 : AO}
include X
theorem Y4 {fr : AFr} {k : Nat} {x : Int} (f0 : fr[0]? = some (some (.ref 3))) (fk : fr[k]? = some (some (.int x))) (hx : x ∈ l) : z6 (zD (z4 0) "line") "index" (some .index) [(z4 k)] (run T n) fr (H o0 o1 o2 l b r) = .ok (.int (pos l x : Nat)) (H o0 o1 o2 l b r) := by
  refine j7 (zQ (z3 f0) rfl lk1) (ys := l.map AV.int) rfl (ev1 (z3 fk) ev0) ?_
  rw [ZV]
  show (match jH (H o0 o1 o2 l b r) (.ref 4) (.int x) with | some k => Out.ok (AV.int k) _ | none => .stuck) = _
  rw [jW (l := l) rfl, ZN hx]
theorem Zx {x y : Int} (x0 : 0 ≤ x) (x1 : x < b.length) (y0 : 0 ≤ y) (y1 : y < b.length) (hx : x ∈ l) (hy : y ∈ l) :
    run T (n + 3) (.meth "Row" "is_ahead") [.ref 3, .int x, .int y] (H o0 o1 o2 l b r) = .ok (.bool (decide (pos l x < pos l y))) (H o0 o1 o2 l b r) := by
  rw [zK X.kAu]
  exact zL (fr := [some (.ref 3), some (.int x), some (.int y)]) rfl rfl (fr' := [some (.ref 3), some (.int x), some (.int y)])
    ((z5 (zU (zF (a := 3) (z3 rfl) rfl lk3 (ev1 (z3 rfl) ev0) (xZ X (n := n) x0 x1)))).trans ((z5 (zU (zF (a := 3) (z3 rfl) rfl lk3 (ev1 (z3 rfl) ev0) (xZ X (n := n) y0 y1)))).trans
      (zJ (zd (QR (Y4 X rfl rfl hx) (Y4 X rfl rfl hy) (by rw [yM]; exact congrArg some (decide_eq_decide.mpr Int.ofNat_lt)))))))
end
theorem jo {h : Int} : List.lookup ("is_ahead" : Str) (fS h) = none := rfl
def Sh.Pv (S : Sh) (mvs : List (List (Int × Int))) (cus : List (List Int)) (i : Int) : AV := .tup [.int (S.pl mvs i : Nat), .bool (S.shw cus i)]
section
variable {T : Tab} {okf : Str → Str → Bool} (X : TT T okf) {n : Nat} {S : Sh} {r : Hp} {mvs : List (List (Int × Int))} {cus sg : List (List Int)}
include X
theorem Yr (I : Iw S mvs cus sg) (D : Dy S mvs cus r) {i : Int} (h0 : 0 ≤ i) (h1 : i < S.le.length) : ∃ g, run T (n + 4) (.meth "Sheet" "place_of") [.ref 1, .int i] (S.hp r) = .ok (S.Pv mvs cus i) (S.hp (r ++ g)) :=
  WU X I D h0 h1 (ZN (I.cur_mem h0 h1).1)
theorem YH (I : Iw S mvs cus sg) (D : Dy S mvs cus r) {i j : Int} (i0 : 0 ≤ i) (i1 : i < S.le.length) (j0 : 0 ≤ j) (j1 : j < S.le.length) :
    run T (n + 4) (.meth "Sheet" "is_ahead") [.ref 1, .int i, .int j] (S.hp r) = .ok (.bool (decide (S.at_ mvs i < S.at_ mvs j))) (S.hp r) := by
  obtain ⟨_, a0, a1⟩ := X5 X I i0 i1
  obtain ⟨_, b0, b1⟩ := X5 X I j0 j1
  have e : run T (n + 3) (.meth "Row" "is_ahead") [.ref 3, .int (S.cur mvs i), .int (S.cur mvs j)] (S.hp r) = .ok (.bool (decide (S.at_ mvs i < S.at_ mvs j))) (S.hp r) :=
    Zx X (n := n) (o0 := S.g0) (o1 := .inst "Sheet" (fS S.hands)) (o2 := S.g2) (r := S.tl r) a0 a1 b0 b1 (I.cur_mem i0 i1).1 (I.cur_mem j0 j1).1
  rw [zK X.kAj]
  exact zL (fr := [some (.ref 1), some (.int i), some (.int j)]) rfl rfl (fr' := [some (.ref 1), some (.int i), some (.int j)])
    ((z5 (zU (zF (a := 1) (z3 rfl) rfl qi (ev1 (z3 rfl) ev0) (wf X (n := n + 1) i0 i1)))).trans ((z5 (zU (zF (a := 1) (z3 rfl) rfl qi (ev1 (z3 rfl) ev0) (wf X (n := n + 1) j0 j1)))).trans
      (zJ (zd (zF (a := 3) (zQ (z3 rfl) rfl kS2) rfl Xj (ev1 (zF (a := 1) (z3 rfl) rfl qh (ev1 (z3 rfl) ev0) (j4 X (n := n + 2) I.K D i0 i1)) (ev1 (zF (a := 1) (z3 rfl) rfl qh (ev1 (z3 rfl) ev0) (j4 X (n := n + 2) I.K D j0 j1)) ev0)) e)))))
end
set_option genInjectivity false
set_option genSizeOf false
abbrev fT (kq : Nat) (m : Int) : List (Str × AV) := [("sheet", .ref 1), ("kept", .ref (kq + 15)), ("coming", .int m)]
section
variable {kq : Nat} {m : Int}
theorem kT1 : List.lookup ("sheet" : Str) (fT kq m) = some (.ref 1) := rfl
theorem kT2 : List.lookup ("kept" : Str) (fT kq m) = some (.ref (kq + 15)) := rfl
theorem kT3 : List.lookup ("coming" : Str) (fT kq m) = some (.int m) := rfl
theorem ZC : List.lookup ("need_thread" : Str) (fT kq m) = none := rfl
theorem Yv : List.lookup ("told" : Str) (fT kq m) = none := rfl
theorem W9 : List.lookup ("drop" : Str) (fT kq m) = none := rfl
theorem Jo : List.lookup ("tie" : Str) (fT kq m) = none := rfl
theorem wi : List.lookup ("numbers" : Str) (fT kq m) = none := rfl
theorem Yw : List.lookup ("over" : Str) (fT kq m) = none := rfl
end
theorem q9 {h : Int} : List.lookup ("sign_at" : Str) (fS h) = none := rfl
structure Th (r : Hp) (tq kq : Nat) (m : Int) (kvs : List (Int × AV)) : Prop where
  t : r[tq]? = some (.inst "Threads" (fT kq m))
  k : r[kq]? = some (.dict kvs)
theorem Th.grow {r : Hp} {tq kq : Nat} {m : Int} {kvs : List (Int × AV)} (H : Th r tq kq m kvs) (g : Hp) : Th (r ++ g) tq kq m kvs := ⟨zE H.t, zE H.k⟩
theorem Th.T {r : Hp} {tq kq : Nat} {m : Int} {kvs : List (Int × AV)} (H : Th r tq kq m kvs) (S : Sh) : (S.hp r)[tq + 15]? = some (.inst "Threads" (fT kq m)) := H.t
theorem Th.K {r : Hp} {tq kq : Nat} {m : Int} {kvs : List (Int × AV)} (H : Th r tq kq m kvs) (S : Sh) : (S.hp r)[kq + 15]? = some (.dict kvs) := H.k
def Sh.pr2 (S : Sh) (mvs : List (List (Int × Int))) (p : Int × Int) : Int × Int := if S.at_ mvs p.2 < S.at_ mvs p.1 then (p.2, p.1) else p
def Sh.td (S : Sh) (mvs : List (List (Int × Int))) (cus : List (List Int)) (p : Int × Int) : Nat × Nat := (S.pl mvs (S.pr2 mvs p).1, S.pl mvs (S.pr2 mvs p).2 + if S.shw cus (S.pr2 mvs p).2 then 1 else 0)
abbrev prV (p : Int × Int) : AV := .tup [.int p.1, .int p.2]
abbrev tdV (p : Nat × Nat) : AV := .tup [.int p.1, .int p.2]
def Rg (m : Nat) (p : Int × Int) : Prop := (0 ≤ p.1 ∧ p.1 < m) ∧ 0 ≤ p.2 ∧ p.2 < m
theorem Rg.two {S : Sh} {mvs : List (List (Int × Int))} {p : Int × Int} {m : Nat} (h : Rg m p) : Rg m (S.pr2 mvs p) := by
  unfold Sh.pr2
  by_cases q : S.at_ mvs p.2 < S.at_ mvs p.1
  · rw [if_pos q]; exact ⟨h.2, h.1⟩
  · rw [if_neg q]; exact h
theorem WG {n : Nat} {b : Bool} : (n : Int) + (if b then 1 else 0) = ((n + (if b then 1 else 0) : Nat) : Int) := by cases b <;> rfl
section
variable {T : Tab} {okf : Str → Str → Bool} (X : TT T okf) {n : Nat} {S : Sh} {r : Hp} {mvs : List (List (Int × Int))} {cus sg : List (List Int)} {tq kq : Nat} {m : Int} {kvs : List (Int × AV)}
include X
theorem qz (I : Iw S mvs cus sg) {p : Int} (h0 : 0 ≤ p) (h1 : p < S.sh.length) : ∃ g, run T (n + 4) (.meth "Sheet" "sign_at") [.ref 1, .int p] (S.hp r) = .ok (.int (S.sh[p.toNat]?.getD 0)) (S.hp (r ++ g)) := by
  have hl : p.toNat < (tk S.b S.l).length := by rw [← I.O.tkl.1]; exact wv h0 h1
  have hx := y9 hl
  obtain ⟨x0, x1⟩ := I.O.G.rng _ (List.mem_filter.mp (List.getElem_mem hl)).1
  obtain ⟨g, e⟩ := zBr X (n := n) (l := S.l) (b := S.b) (o0 := S.g0) (o1 := .inst "Sheet" (fS S.hands)) (o2 := S.g2) (r := S.tl r) (p := p) h0 (by rw [← I.O.tkl.1]; exact h1) I.O.G
  rw [hx] at e
  have e' : run T (n + 3) (.meth "Row" "find") [.ref 3, .int p] (S.hp r) = .ok (.int (tk S.b S.l)[p.toNat]) (S.hp (r ++ g)) := e
  refine ⟨g, ?_⟩
  rw [zK X.kAn]
  obtain ⟨y, hy, _⟩ := I.O.at_ (List.mem_filter.mp (List.getElem_mem hl)).1
  have e2 : S.sh[p.toNat]?.getD 0 = y := by unfold Sh.sh; rw [List.getElem?_map, hx]; show S.ow[_]?.getD 0 = y; rw [hy]; rfl
  rw [e2]
  exact zL (fr := [some (.ref 1), some (.int p)]) rfl rfl (fr' := [some (.ref 1), some (.int p)]) (zJ (zd (zq (zQ (z3 rfl) rfl kS3) (zF (a := 3) (zQ (z3 rfl) rfl kS2) rfl WB (ev1 (z3 rfl) ev0) e') (ZD (l := S.ow) rfl x0 hy (by rw [I.O.ow]; exact Nat.le_of_lt I.O.G.sm'.2)))))
theorem jA (H : Th r tq kq m kvs) {i : Int} {u : AV} (h : yr kvs i = some u) : run T (n + 2) (.meth "Threads" "need_thread") [.ref (tq + 15), .int i] (S.hp r) = .ok .none (S.hp r) := by
  rw [zK X.kAa]
  exact zt (fr := [some (.ref (tq + 15)), some (.int i)]) rfl rfl (fr' := [some (.ref (tq + 15)), some (.int i)]) ((z5 ((zH (x7 (zu (b := true) (yX (v := .bool true) (zg (ev1 (z3 rfl) ev0) (yC X)) rfl)) (x7 (zX (z3 rfl) (zQ (z3 rfl) (H.T S) kT2) (by rw [Zl (H.K S), h]; rfl)) qN))).trans zC)).trans zC)
theorem wX (H : Th r tq kq m kvs) {i : Int} (h : yr kvs i = none) : run T (n + 2) (.meth "Threads" "need_thread") [.ref (tq + 15), .int i] (S.hp r) = .exc "NoMark" (S.hp r) := by
  rw [zK X.kAa]
  exact xn (fr := [some (.ref (tq + 15)), some (.int i)]) rfl rfl (yc ((zZ (x7 (zu (b := true) (yX (v := .bool true) (zg (ev1 (z3 rfl) ev0) (yC X)) rfl)) (W4 (zX (z3 rfl) (zQ (z3 rfl) (H.T S) kT2) (by rw [Zl (H.K S), h]; rfl))))).trans (yc rfl)))
theorem zBw (H : Th r tq kq m kvs) {i : Int} (h : yr kvs i = none) : run T (n + 3) (.meth "Threads" "told") [.ref (tq + 15), .int i] (S.hp r) = .exc "NoMark" (S.hp r) := by
  rw [zK X.kAy]
  exact xn (fr := [some (.ref (tq + 15)), some (.int i), none, none, none, none, none]) rfl rfl (yc (qO (zF (z3 rfl) (H.T S) ZC (ev1 (z3 rfl) ev0) (wX X (n := n) H h))))
theorem zCh (H : Th r tq kq m kvs) {i : Int} (h : yr kvs i = none) : run T (n + 3) (.meth "Threads" "drop") [.ref (tq + 15), .int i] (S.hp r) = .exc "NoMark" (S.hp r) := by
  rw [zK X.kAx]
  exact xn (fr := [some (.ref (tq + 15)), some (.int i)]) rfl rfl (yc (qO (zF (z3 rfl) (H.T S) ZC (ev1 (z3 rfl) ev0) (wX X (n := n) H h))))
theorem zE8 (H : Th r tq kq m kvs) {i : Int} {u : AV} (h : yr kvs i = some u) : run T (n + 3) (.meth "Threads" "drop") [.ref (tq + 15), .int i] (S.hp r) = .ok .none (S.hp (r.set kq (.dict (kvs.filter fun x => !decide (x.1 = i))))) := by
  rw [zK X.kAx]
  exact zt (fr := [some (.ref (tq + 15)), some (.int i)]) rfl rfl (fr' := [some (.ref (tq + 15)), some (.int i)]) ((z5 (zU (zF (z3 rfl) (H.T S) ZC (ev1 (z3 rfl) ev0) (jA X (n := n) H h)))).trans ((z5 (zU (z2m (zQ (z3 rfl) (H.T S) kT2) (H.K S) (ev1 (z3 rfl) ev0) (W8 (h := S.hp r) (H.K S) h)))).trans zC))
theorem Je (H : Th r tq kq m kvs) (z : kvs.length < 64) (z' : (kvs.map (·.1)).Pairwise (· ≤ ·)) : run T (n + 1) (.meth "Threads" "numbers") [.ref (tq + 15)] (S.hp r) = .ok (.ref (r.length + 15)) (S.hp (r ++ [.list (kvs.map fun p => .int p.1)])) := by
  rw [zK X.kAg]
  exact zL (fr := [some (.ref (tq + 15))]) rfl rfl (fr' := [some (.ref (tq + 15))]) (zJ (zd (xX (ev1 (zQ (z3 rfl) (H.T S) kT2) ev0) (QB (h := S.hp r) (H.K S) z z'))))
theorem WM (I : Iw S mvs cus sg) (D : Dy S mvs cus r) (H : Th r tq kq m kvs) {p : Int × Int} (rg : Rg S.le.length p) {i : AV} :
    ∃ g fr', z9 [(z8 okf (.names (.one 4)) (zR (z6 (zD (z4 0) "sheet") "place_of" none [(z4 2)]) (z7 (.int 0)))), (z8 okf (.names (.many [5, 6])) (z6 (zD (z4 0) "sheet") "place_of" none [(z4 3)])), (zV (yZ [(z4 4), (zI .Add (z4 5) (zB (zA (some (.bi .int))) [(z4 6)]))]))] (run T (n + 4)) [some (.ref (tq + 15)), some i, some (.int p.1), some (.int p.2), none, none, none] (S.hp r) =
      .ok (.ret (tdV (S.pl mvs p.1, S.pl mvs p.2 + if S.shw cus p.2 then 1 else 0))) fr' (S.hp (r ++ g)) := by
  obtain ⟨g1, e1⟩ := Yr X (n := n) I D rg.1.1 rg.1.2
  obtain ⟨g2, e2⟩ := Yr X (n := n) I (D.grow g1) rg.2.1 rg.2.2
  have e3 := xS (ev1 (z3 (i := 4) (cf := run T (n + 4)) (h := S.hp (r ++ g1 ++ g2)) (fr := [some (.ref (tq + 15)), some i, some (.int p.1), some (.int p.2), some (.int (S.pl mvs p.1 : Nat)), some (.int (S.pl mvs p.2 : Nat)), some (.bool (S.shw cus p.2))]) rfl) (ev1 (zf (op := .Add) (z3 (i := 5) rfl) (xX (ev1 (z3 (i := 6) rfl) ev0) z0o) xC) ev0))
  rw [WG, List.append_assoc] at e3
  refine ⟨g1 ++ g2, [some (.ref (tq + 15)), some i, some (.int p.1), some (.int p.2), some (.int (S.pl mvs p.1 : Nat)), some (.int (S.pl mvs p.2 : Nat)), some (.bool (S.shw cus p.2))], ?_⟩
  rw [← List.append_assoc] at e3 ⊢
  exact (z5 (zW (j := 4) (zq (zF (a := 1) (zQ (z3 rfl) (H.T S) kT1) rfl qP (ev1 (z3 rfl) ev0) e1) rfl rfl) (zc rfl))).trans ((z5 (xd (zF (a := 1) (zQ (z3 rfl) ((H.grow g1).T S) kT1) rfl qP (ev1 (z3 rfl) ev0) e2) rfl)).trans (zJ (zd e3)))
theorem z2j (I : Iw S mvs cus sg) (D : Dy S mvs cus r) (H : Th r tq kq m kvs) {i : Int} {p : Int × Int} (h : yr kvs i = some (prV p)) (rg : Rg S.le.length p) : ∃ g, run T (n + 5) (.meth "Threads" "told") [.ref (tq + 15), .int i] (S.hp r) = .ok (tdV (S.td mvs cus p)) (S.hp (r ++ g)) := by
  obtain ⟨g, fr', e⟩ := WM X (n := n) I D H (p := S.pr2 mvs p) rg.two (i := .int i)
  refine ⟨g, ?_⟩
  rw [zK X.kAy]
  have ea := YH X (n := n) I D rg.2.1 rg.2.2 rg.1.1 rg.1.2
  refine zL (fr := [some (.ref (tq + 15)), some (.int i), none, none, none, none, none]) rfl rfl (fr' := fr') ?_
  refine (z5 (zU (zF (z3 rfl) (H.T S) ZC (ev1 (z3 rfl) ev0) (jA X (n := n + 2) H h)))).trans ((z5 (xd (vs := [.int p.1, .int p.2]) (zq (zQ (z3 rfl) (H.T S) kT2) (z3 rfl) (by rw [Za (h := S.hp r) (H.K S)]; exact h)) rfl)).trans ((z5 ?_).trans e))
  have et := yX (zF (me := none) (a := 1) (zQ (cf := run T (n + 4)) (fr := [some (.ref (tq + 15)), some (.int i), some (.int p.1), some (.int p.2), none, none, none]) (o := z4 0) (z3 rfl) (H.T S) kT1) rfl jo (ev1 (z3 (i := 3) rfl) (ev1 (z3 (i := 2) rfl) ev0)) ea) rfl
  unfold Sh.pr2
  by_cases q : S.at_ mvs p.2 < S.at_ mvs p.1
  · rw [decide_eq_true q] at et
    rw [if_pos q]
    exact (zZ et).trans ((z5 (xd (xS (ev1 (z3 rfl) (ev1 (z3 rfl) ev0))) rfl)).trans zC)
  · rw [decide_eq_false q] at et
    rw [if_neg q]
    exact (zH et).trans zC
end
set_option genInjectivity false
set_option genSizeOf false
theorem qc {h : Hp} {a : Nat} {xs : List AV} (e : h[a]? = some (.list xs)) : yk h (.ref a) = some (.ref a, xs.length) := by
  show (match h[a]? with | some (.list xs) => some (Src.ref a, xs.length) | _ => none) = _
  rw [e]
theorem x8 {h : Hp} {a k : Nat} {xs : List AV} (e : h[a]? = some (.list xs)) : (Src.ref a).next? h k = some xs[k]? := by
  show (match h[a]? with | some (.list ys) => some ys[k]? | _ => none) = _
  rw [e]
theorem Yj {r g : Hp} {q : Nat} {o : AO} (h : r.length ≤ q) : ∃ g', (r ++ g).set q o = r ++ g' := ⟨g.set (q - r.length) o, by rw [List.set_append_right _ _ h]⟩
theorem zC3 {cf : CF} {fr : AFr} {h : Hp} {x y z : XE} {a b c : Int} (e : x cf fr h = .ok (.int a) h) (e' : y cf fr h = .ok (.int b) h) (e'' : z cf fr h = .ok (.int c) h) : zN x [.LtE, .Lt] [y, z] cf fr h = .ok (decide (a ≤ b) && decide (b < c)) h := by
  by_cases q : a ≤ b
  · rw [decide_eq_true q]; exact yu e e' (by rw [yt, decide_eq_true q]) e'' yM
  · rw [decide_eq_false q]; exact Z8 e e' (by rw [yt, decide_eq_false q])
abbrev Es := List (Int × Int × Int)
def kvO (es : Es) : List (Int × AV) := es.map fun e => (e.1, prV e.2)
def ksO (es : Es) : List Int := es.map (·.1)
theorem wD (es : Es) : ((kvO es).map fun p => AV.int p.1) = (ksO es).map AV.int := by unfold kvO ksO; rw [List.map_map, List.map_map]; rfl
theorem WC (es : Es) : (kvO es).map (·.1) = ksO es := by unfold kvO ksO; rw [List.map_map]; rfl
theorem jD {es : Es} (nd : (ksO es).Pairwise (· < ·)) {e : Int × Int × Int} (h : e ∈ es) : yr (kvO es) e.1 = some (prV e.2) := by
  induction es with
  | nil => cases h
  | cons a es ih =>
    obtain ⟨n1, n2⟩ := List.pairwise_cons.mp (show (a.1 :: ksO es).Pairwise (· < ·) from nd)
    show yr ((a.1, prV a.2) :: kvO es) e.1 = _
    rw [YK]
    rcases List.mem_cons.mp h with rfl | h
    · exact if_pos rfl
    · rw [if_neg (Int.ne_of_lt (n1 e.1 (List.mem_map.mpr ⟨e, h, rfl⟩)))]; exact ih n2 h
def Sh.isov (S : Sh) (mvs : List (List (Int × Int))) (cus : List (List Int)) (p : Int) (e : Int × Int × Int) : Bool := decide (((S.td mvs cus e.2).1 : Int) ≤ p) && decide (p < ((S.td mvs cus e.2).2 : Int))
def Sh.ov (S : Sh) (mvs : List (List (Int × Int))) (cus : List (List Int)) (es : Es) (p : Int) : List Int := ksO (es.filter (S.isov mvs cus p))
theorem Y6 {S : Sh} {r g : Hp} {mvs : List (List (Int × Int))} {cus : List (List Int)} {es : Es} {okf : Str → Str → Bool} {cf : CF} {told : XE} {jn jb je jf jp fq sq : Nat} {p : Int} (F : Option AV → Option AV → Option AV → AFr)
    (hb : ∀ h x v1 v2 v3, jw h (.one jn) x (F v1 v2 v3) = some (F (some x) v2 v3)) (hs : ∀ a b v1 v2 v3, yb [jb, je] [a, b] (F v1 v2 v3) = some (F v1 (some a) (some b)))
    (hn : ∀ v1 v2 v3, (F v1 v2 v3)[jn]? = some v1) (h1 : ∀ v1 v2 v3, (F v1 v2 v3)[jb]? = some v2) (h2 : ∀ v1 v2 v3, (F v1 v2 v3)[je]? = some v3) (hf : ∀ v1 v2 v3, (F v1 v2 v3)[jf]? = some (some (.ref (fq + 15)))) (hp : ∀ v1 v2 v3, (F v1 v2 v3)[jp]? = some (some (.int p)))
    (ht : ∀ e ∈ es, ∀ v2 v3 g, ∃ g', told cf (F (some (.int e.1)) v2 v3) (S.hp (r ++ g)) = .ok (tdV (S.td mvs cus e.2)) (S.hp (r ++ g ++ g'))) (lf : r.length ≤ fq) (z : es.length < 64) (ne : fq ≠ sq) (e1 : (r ++ g)[fq]? = some (.list [])) (e2 : (r ++ g)[sq]? = some (.list ((ksO es).map AV.int))) {v1 v2 v3 : Option AV} :
    ∃ u1 u2 u3 g', xT (.one jn) (z9 [(z8 okf (.names (.many [jb, je])) told), (sIf (zN (z4 jb) [.LtE, .Lt] [(z4 jp), (z4 je)]) (z9 [(zG (z6 (z4 jf) "append" (some .append) [(z4 jn)]))]) (z9 []))]) (.ref (sq + 15)) (((ksO es).map AV.int).length + 1) 0 cf (F v1 v2 v3) (S.hp (r ++ g)) = .ok .next (F u1 u2 u3) (S.hp (r ++ g')) ∧ (r ++ g')[fq]? = some (.list ((S.ov mvs cus es p).map AV.int)) := by
  obtain ⟨fr', h', e, u1, u2, u3, g', rfl, rfl, q1, _⟩ := xB (t := .one jn) (src := .ref (sq + 15)) (cf := cf) (xs := (ksO es).map AV.int) (body := (z9 [(z8 okf (.names (.many [jb, je])) told), (sIf (zN (z4 jb) [.LtE, .Lt] [(z4 jp), (z4 je)]) (z9 [(zG (z6 (z4 jf) "append" (some .append) [(z4 jn)]))]) (z9 []))]))
    (fun k fr h => ∃ v1 v2 v3 g, fr = F v1 v2 v3 ∧ h = S.hp (r ++ g) ∧ (r ++ g)[fq]? = some (.list ((S.ov mvs cus (es.take k) p).map AV.int)) ∧ (r ++ g)[sq]? = some (.list ((ksO es).map AV.int)))
    (by
      rintro k fr h ⟨v1, v2, v3, g, rfl, rfl, _, q2⟩
      exact x8 (show (S.hp (r ++ g))[sq + 15]? = _ from q2))
    (by
      rintro k x fr h ⟨v1, v2, v3, g, rfl, rfl, q1, q2⟩ hx
      unfold ksO at hx
      rw [List.getElem?_map, List.getElem?_map] at hx
      obtain ⟨w, hw, rfl⟩ := y6 hx
      obtain ⟨e, he, rfl⟩ := y6 hw
      obtain ⟨g', et⟩ := ht e (yI he) v2 v3 g
      have q1' : (r ++ g ++ g')[fq]? = _ := zE q1
      have q2' : (r ++ g ++ g')[sq]? = _ := zE q2
      have tk1 : S.ov mvs cus (es.take (k + 1)) p = S.ov mvs cus (es.take k) p ++ (if S.isov mvs cus p e then [e.1] else []) := by
        unfold Sh.ov ksO
        rw [List.take_succ, he, List.filter_append, List.map_append]
        show _ ++ ([e].filter _).map _ = _
        rw [List.filter_cons]
        cases S.isov mvs cus p e <;> rfl
      have s1 := xd (okf := okf) et (hs (.int ((S.td mvs cus e.2).1 : Nat)) (.int ((S.td mvs cus e.2).2 : Nat)) (some (.int e.1)) v2 v3)
      have c1 := zC3 (cf := cf) (h := S.hp (r ++ g ++ g')) (z3 (h1 (some (.int e.1)) (some (.int ((S.td mvs cus e.2).1 : Nat))) (some (.int ((S.td mvs cus e.2).2 : Nat))))) (z3 (hp _ _ _)) (z3 (h2 _ _ _))
      rw [tk1]
      cases hq : S.isov mvs cus p e with
      | false =>
        rw [show (decide (((S.td mvs cus e.2).1 : Int) ≤ p) && decide (p < ((S.td mvs cus e.2).2 : Int))) = false from hq] at c1
        exact ⟨_, _, _, hb _ _ _ _ _, (z5 s1).trans ((z5 ((zH c1).trans zC)).trans zC), _, _, _, g ++ g', rfl, by rw [List.append_assoc], by rw [← List.append_assoc, q1', if_neg Bool.false_ne_true, List.append_nil], by rw [← List.append_assoc]; exact q2'⟩
      | true =>
        rw [show (decide (((S.td mvs cus e.2).1 : Int) ≤ p) && decide (p < ((S.td mvs cus e.2).2 : Int))) = true from hq] at c1
        have zo : ((S.ov mvs cus (es.take k) p).map AV.int).length < small := by
          unfold Sh.ov ksO
          rw [List.length_map, List.length_map]
          exact Nat.lt_of_le_of_lt (Nat.le_trans (List.length_filter_le _ _) (List.length_take_le' _ _)) (Nat.lt_trans z (by decide))
        have s2 := Yp (cf := cf) (e := z4 jn) (hf (some (.int e.1)) (some (.int ((S.td mvs cus e.2).1 : Nat))) (some (.int ((S.td mvs cus e.2).2 : Nat)))) (show (S.hp (r ++ g ++ g'))[fq + 15]? = _ from q1') (z3 (hn _ _ _)) (show (S.hp (r ++ g ++ g'))[fq + 15]? = _ from q1') zo rfl
        obtain ⟨g2, e3⟩ := Yj (r := r) (g := g ++ g') (o := .list ((S.ov mvs cus (es.take k) p).map AV.int ++ [.int e.1])) lf
        rw [← List.append_assoc] at e3
        have lq := (y8 q1').1
        refine ⟨_, _, _, hb _ _ _ _ _, (z5 s1).trans ((z5 ((zZ c1).trans ((z5 s2).trans zC))).trans zC), _, _, _, g2, rfl, ?_, ?_, ?_⟩
        · show S.hp ((r ++ g ++ g').set fq _) = _
          rw [e3]
        · rw [← e3, List.getElem?_set_self lq, if_pos rfl, List.map_append]; rfl
        · rw [← e3, List.getElem?_set_ne ne]; exact q2')
    (fr := F v1 v2 v3) (h := S.hp (r ++ g)) ⟨v1, v2, v3, g, rfl, rfl, e1, e2⟩
  refine ⟨u1, u2, u3, g', e, ?_⟩
  rw [q1]
  have : ((ksO es).map AV.int).length = es.length := by unfold ksO; rw [List.length_map, List.length_map]
  rw [this, List.take_length]
section
variable {T : Tab} {okf : Str → Str → Bool} (X : TT T okf) {n : Nat} {S : Sh} {r : Hp} {mvs : List (List (Int × Int))} {cus sg : List (List Int)} {tq kq dq : Nat} {m : Int} {es : Es}
include X
theorem Jc (I : Iw S mvs cus sg) (D : Dy S mvs cus r) (H : Th r tq kq m (kvO es)) (nd : (ksO es).Pairwise (· < ·)) (z : es.length < 64) (rg : ∀ e ∈ es, Rg S.le.length e.2) {p : Int} (p0 : 0 ≤ p) (p1 : p < S.sh.length) :
    ∃ g q, run T (n + 6) (.meth "Threads" "over") [.ref (tq + 15), .int p] (S.hp r) = .ok (.ref (q + 15)) (S.hp (r ++ g)) ∧ r.length ≤ q ∧ (r ++ g)[q]? = some (.list ((S.ov mvs cus es p).map AV.int)) := by
  obtain ⟨g1, e1⟩ := qz X (n := n + 1) (r := r) I p0 p1
  have H2 := H.grow (g1 ++ [.list []])
  have e3 := QB (h := S.hp (r ++ (g1 ++ [.list []]))) (H2.K S) (by unfold kvO; rw [List.length_map]; exact z) (by rw [WC]; exact nd.imp Int.le_of_lt)
  rw [wD] at e3
  have l1 : (r ++ (g1 ++ [AO.list []])).length = (r ++ g1).length + 1 := by rw [← List.append_assoc, zP]; rfl
  obtain ⟨u1, u2, u3, g, el, hq⟩ := Y6 (S := S) (r := r) (g := g1 ++ [.list []] ++ [.list ((ksO es).map AV.int)]) (mvs := mvs) (cus := cus) (es := es) (okf := okf) (cf := run T (n + 5)) (told := z6 (z4 0) "told" none [(z4 3)]) (jn := 3) (jb := 4) (je := 5) (jf := 2) (jp := 1) (fq := (r ++ g1).length) (sq := (r ++ (g1 ++ [AO.list []])).length) (p := p)
    (fun v1 v2 v3 => [some (.ref (tq + 15)), some (.int p), some (.ref ((r ++ g1).length + 15)), v1, v2, v3]) (fun _ _ _ _ _ => rfl) (fun _ _ _ _ _ => rfl) (fun _ _ _ => rfl) (fun _ _ _ => rfl) (fun _ _ _ => rfl) (fun _ _ _ => rfl) (fun _ _ _ => rfl)
    (fun e he v2 v3 g => by
      obtain ⟨g', et⟩ := z2j X (n := n) I (D.grow g) (H.grow g) (jD nd he) (rg e he)
      exact ⟨g', zF (z3 rfl) ((H.grow g).T S) Yv (ev1 (z3 rfl) ev0) et⟩)
    (by rw [zP]; exact Nat.le_add_right _ _) z (by rw [l1]; exact Nat.ne_of_lt (Nat.lt_succ_self _))
    (by rw [List.append_assoc g1, ← List.append_assoc r]; exact zO _ _ _) (by rw [← List.append_assoc]; exact zO _ _ []) (v1 := none) (v2 := none) (v3 := none)
  refine ⟨g, (r ++ g1).length, ?_, by rw [zP]; exact Nat.le_add_right _ _, hq⟩
  rw [zK X.kAt]
  refine zL (fr := [some (.ref (tq + 15)), some (.int p), none, none, none, none]) rfl rfl (fr' := [some (.ref (tq + 15)), some (.int p), some (.ref ((r ++ g1).length + 15)), u1, u2, u3]) ?_
  refine (z5 (zU (zF (a := 1) (zQ (z3 rfl) (H.T S) kT1) rfl q9 (ev1 (z3 rfl) ev0) e1))).trans ((z5 (zW (j := 2) (yL ev0) (zc rfl))).trans ((z5 ?_).trans (zJ (zd (z3 rfl)))))
  show xQ _ _ _ _ (run T (n + 5)) [some (.ref (tq + 15)), some (.int p), some (.ref ((r ++ g1).length + 15)), none, none, none] (S.hp ((r ++ g1) ++ [.list []])) = _
  rw [List.append_assoc]
  refine qp (en := false) (xX (ev1 (zQ (z3 rfl) (H2.T S) kT2) ev0) e3) (qc (show (S.hp (r ++ (g1 ++ [.list []]) ++ [.list ((ksO es).map AV.int)]))[(r ++ (g1 ++ [AO.list []])).length + 15]? = _ from zO _ _ [])) ?_
  rw [← List.append_assoc r (g1 ++ [AO.list []]) [AO.list ((ksO es).map AV.int)]] at el
  exact el
theorem YE (I : Iw S mvs cus sg) (D : Dy S mvs cus r) {p : Int × Int} (rg : Rg S.le.length p) : ∃ g, run T (n + 5) (.fn "_law_told") [.ref 1, prV p] (S.hp r) = .ok (tdV (S.td mvs cus p)) (S.hp (r ++ g)) := by
  have rg2 := rg.two (S := S) (mvs := mvs)
  obtain ⟨g1, e1⟩ := Yr X (n := n) I D rg2.2.1 rg2.2.2
  obtain ⟨g2, e2⟩ := Yr X (n := n) I (D.grow g1) rg2.1.1 rg2.1.2
  have ea := YH X (n := n) I D rg.2.1 rg.2.2 rg.1.1 rg.1.2
  have e3 := xS (ev1 (zq (zF (me := none) (a := 1) (z3 (i := 0) (cf := run T (n + 4)) (h := S.hp (r ++ g1)) (fr := [some (.ref 1), some (prV p), some (.int (S.pr2 mvs p).1), some (.int (S.pr2 mvs p).2), some (.int (S.pl mvs (S.pr2 mvs p).2 : Nat)), some (.bool (S.shw cus (S.pr2 mvs p).2))]) rfl) rfl qP (ev1 (z3 (i := 2) rfl) ev0) e2) (i := z7 (.int 0)) rfl rfl) (ev1 (zf (op := .Add) (z3 (i := 4) rfl) (xX (ev1 (z3 (i := 5) rfl) ev0) z0o) xC) ev0))
  rw [WG] at e3
  refine ⟨g1 ++ g2, ?_⟩
  rw [← List.append_assoc, yy X.kBt]
  refine zL (fr := [some (.ref 1), some (prV p), none, none, none, none]) rfl rfl (fr' := [some (.ref 1), some (prV p), some (.int (S.pr2 mvs p).1), some (.int (S.pr2 mvs p).2), some (.int (S.pl mvs (S.pr2 mvs p).2 : Nat)), some (.bool (S.shw cus (S.pr2 mvs p).2))]) ?_
  have rest : z9 [(z8 okf (.names (.many [4, 5])) (z6 (z4 0) "place_of" none [(z4 3)])), (zV (yZ [(zR (z6 (z4 0) "place_of" none [(z4 2)]) (z7 (.int 0))), (zI .Add (z4 4) (zB (zA (some (.bi .int))) [(z4 5)]))]))] (run T (n + 4)) [some (.ref 1), some (prV p), some (.int (S.pr2 mvs p).1), some (.int (S.pr2 mvs p).2), none, none] (S.hp r) = .ok (.ret (tdV (S.td mvs cus p))) [some (.ref 1), some (prV p), some (.int (S.pr2 mvs p).1), some (.int (S.pr2 mvs p).2), some (.int (S.pl mvs (S.pr2 mvs p).2 : Nat)), some (.bool (S.shw cus (S.pr2 mvs p).2))] (S.hp (r ++ g1 ++ g2)) :=
    (z5 (xd (zF (a := 1) (z3 rfl) rfl qP (ev1 (z3 rfl) ev0) e1) rfl)).trans (zJ (zd e3))
  unfold kBt
  dsimp only
  rw [z5 (xd (z3 rfl) rfl)]
  refine (z5 ?_).trans rest
  have et := yX (zF (me := none) (a := 1) (z3 (i := 0) (cf := run T (n + 4)) (fr := [some (.ref 1), some (prV p), some (.int p.1), some (.int p.2), none, none]) (h := S.hp r) rfl) rfl jo (ev1 (z3 (i := 3) rfl) (ev1 (z3 (i := 2) rfl) ev0)) ea) rfl
  unfold Sh.pr2
  by_cases q : S.at_ mvs p.2 < S.at_ mvs p.1
  · rw [decide_eq_true q] at et
    rw [if_pos q]
    exact (zZ et).trans ((z5 (xd (xS (ev1 (z3 rfl) (ev1 (z3 rfl) ev0))) rfl)).trans zC)
  · rw [decide_eq_false q] at et
    rw [if_neg q]
    exact (zH et).trans zC
theorem YF (I : Iw S mvs cus sg) (D : Dy S mvs cus r) (hd : r[dq]? = some (.dict (kvO es))) (nd : (ksO es).Pairwise (· < ·)) (z : es.length < 64) (rg : ∀ e ∈ es, Rg S.le.length e.2) {p : Int} (s0 : S.b.countP id ≠ 0) :
    ∃ g q, run T (n + 6) (.fn "_law_over") [.ref 1, .ref (dq + 15), .int p] (S.hp r) = .ok (.ref (q + 15)) (S.hp (r ++ g)) ∧ r.length ≤ q ∧ (r ++ g)[q]? = some (.list ((S.ov mvs cus es (p.fmod (S.b.countP id : Nat))).map AV.int)) := by
  generalize hp : p.fmod (S.b.countP id : Nat) = at_
  have e1 : zI .Mod (z4 2) (z6 (z4 0) "size" none []) (run T (n + 5)) [some (.ref 1), some (.ref (dq + 15)), some (.int p), none, none, none, none, none] (S.hp r) = .ok (.int at_) (S.hp r) := by
    rw [← hp]
    exact zf (z3 rfl) (zF (a := 1) (z3 rfl) rfl xf ev0 (wU X (n := n + 3))) (yR.trans (if_neg fun q => s0 (Int.ofNat.inj q)))
  have hd1 : (S.hp (r ++ [.list []]))[dq + 15]? = some (.dict (kvO es)) := zE hd
  have e3 := Zq hd1
  rw [wD] at e3
  have e4 := Zp (h := S.hp (r ++ [.list []] ++ [.list ((ksO es).map AV.int)])) (a := (r ++ [AO.list []]).length + 15) (is := ksO es) (zO _ _ []) (by unfold ksO; rw [List.length_map]; exact z) (nd.imp Int.le_of_lt)
  have l1 : (r ++ [AO.list []] ++ [AO.list ((ksO es).map AV.int)]).length = r.length + 2 := by rw [zP, zP]; rfl
  obtain ⟨u1, u2, u3, g, el, hq⟩ := Y6 (S := S) (r := r) (g := [.list []] ++ [.list ((ksO es).map AV.int)] ++ [.list ((ksO es).map AV.int)]) (mvs := mvs) (cus := cus) (es := es) (okf := okf) (cf := run T (n + 5)) (told := zB (zA (some (.fn "_law_told"))) [(z4 0), (zR (z4 1) (z4 5))]) (jn := 5) (jb := 6) (je := 7) (jf := 4) (jp := 3) (fq := r.length) (sq := (r ++ [AO.list []] ++ [AO.list ((ksO es).map AV.int)]).length) (p := at_)
    (fun v1 v2 v3 => [some (.ref 1), some (.ref (dq + 15)), some (.int p), some (.int at_), some (.ref (r.length + 15)), v1, v2, v3]) (fun _ _ _ _ _ => rfl) (fun _ _ _ _ _ => rfl) (fun _ _ _ => rfl) (fun _ _ _ => rfl) (fun _ _ _ => rfl) (fun _ _ _ => rfl) (fun _ _ _ => rfl)
    (fun e he v2 v3 g => by
      obtain ⟨g', et⟩ := YE X (n := n) I (D.grow g) (rg e he)
      exact ⟨g', zg (ev1 (z3 rfl) (ev1 (zq (z3 rfl) (z3 rfl) (by rw [Za (show (S.hp (r ++ g))[dq + 15]? = _ from zE hd)]; exact jD nd he)) ev0)) et⟩)
    (Nat.le_refl _) z (by rw [l1]; exact Nat.ne_of_lt (Nat.lt_add_of_pos_right (by decide)))
    (by rw [List.append_assoc, List.singleton_append]; exact zO _ _ _) (by rw [← List.append_assoc, ← List.append_assoc]; exact zO _ _ []) (v1 := none) (v2 := none) (v3 := none)
  refine ⟨g, r.length, ?_, Nat.le_refl _, hq⟩
  rw [yy X.kBq]
  refine zL (fr := [some (.ref 1), some (.ref (dq + 15)), some (.int p), none, none, none, none, none]) rfl rfl (fr' := [some (.ref 1), some (.ref (dq + 15)), some (.int p), some (.int at_), some (.ref (r.length + 15)), u1, u2, u3]) ?_
  refine (z5 (zW (j := 3) e1 (zc rfl))).trans ((z5 (zW (j := 4) (yL ev0) (zc rfl))).trans ((z5 ?_).trans (zJ (zd (z3 rfl)))))
  show xQ _ _ _ _ (run T (n + 5)) [some (.ref 1), some (.ref (dq + 15)), some (.int p), some (.int at_), some (.ref (r.length + 15)), none, none, none] (S.hp (r ++ [.list []])) = _
  refine qp (en := false) (xX (ev1 (xX (ev1 (z3 rfl) ev0) e3) ev0) e4) (qc (show (S.hp (r ++ [.list []] ++ [.list ((ksO es).map AV.int)] ++ [.list ((ksO es).map AV.int)]))[(r ++ [AO.list []] ++ [AO.list ((ksO es).map AV.int)]).length + 15]? = _ from zO _ _ [])) ?_
  rw [← List.append_assoc r ([AO.list []] ++ [AO.list ((ksO es).map AV.int)]) [AO.list ((ksO es).map AV.int)], ← List.append_assoc r [AO.list []] [AO.list ((ksO es).map AV.int)]] at el
  exact el
end
theorem zM {α : Type} {l : List α} {i j : Nat} {x : α} {o : Option α} (h : i ≠ j) (e : l[j]? = o) : (l.set i x)[j]? = o := by rw [List.getElem?_set_ne h]; exact e
def Bad (c : Nat) (i j : Int) : Prop := ¬ (0 ≤ i ∧ i ≤ c) ∨ ((0 ≤ i ∧ i ≤ c) ∧ ¬ (0 ≤ j ∧ j ≤ c)) ∨ ((0 ≤ i ∧ i ≤ c) ∧ (0 ≤ j ∧ j ≤ c) ∧ j ≤ i)
section
variable {T : Tab} {okf : Str → Str → Bool} (X : TT T okf) {n : Nat} {S : Sh} {r : Hp} {tq kq : Nat} {m : Int} {kvs : List (Int × AV)}
include X
theorem jB {i : Int} (h : ¬ (0 ≤ i ∧ i ≤ S.b.countP id)) : run T (n + 3) (.meth "Sheet" "need_place") [.ref 1, .int i] (S.hp r) = .exc "NoPlace" (S.hp r) := by
  rw [zK X.kAd]
  have t : zN (z7 (.int 0)) [.LtE, .LtE] [(z4 1), (z6 (z4 0) "size" none [])] (run T (n + 2)) [some (.ref 1), some (.int i)] (S.hp r) = .ok false (S.hp r) := by
    by_cases q : 0 ≤ i
    · exact yu rfl (z3 rfl) (by rw [yt, decide_eq_true q]) (zF (a := 1) (z3 rfl) rfl xf ev0 (wU X (n := n))) (by rw [yt, decide_eq_false fun q' => h ⟨q, q'⟩])
    · exact Z8 rfl (z3 rfl) (by rw [yt, decide_eq_false q])
  exact xn (fr := [some (.ref 1), some (.int i)]) rfl rfl (yc ((zZ (x7 (zu (b := true) (yX (v := .bool true) (zg (ev1 (z3 rfl) ev0) (yC X)) rfl)) (W4 (zu t)))).trans (yc rfl)))
theorem ZS {i j : Int} (h : Bad (S.b.countP id) i j) : run T (n + 4) (.meth "Sheet" "need_stretch") [.ref 1, .int i, .int j] (S.hp r) = .exc "NoPlace" (S.hp r) := by
  rw [zK X.kAb]
  rcases h with h | ⟨⟨h1, h2⟩, h⟩ | ⟨⟨h1, h2⟩, ⟨h3, h4⟩, h⟩
  · exact xn (fr := [some (.ref 1), some (.int i), some (.int j)]) rfl rfl (yc (qO (zF (a := 1) (z3 rfl) rfl yB (ev1 (z3 rfl) ev0) (jB X (n := n) h))))
  · exact xn (fr := [some (.ref 1), some (.int i), some (.int j)]) rfl rfl ((z5 (zU (zF (a := 1) (z3 rfl) rfl yB (ev1 (z3 rfl) ev0) (yq X (n := n) h1 h2)))).trans (yc (qO (zF (a := 1) (z3 rfl) rfl yB (ev1 (z3 rfl) ev0) (jB X (n := n) h)))))
  · exact xn (fr := [some (.ref 1), some (.int i), some (.int j)]) rfl rfl ((z5 (zU (zF (a := 1) (z3 rfl) rfl yB (ev1 (z3 rfl) ev0) (yq X (n := n) h1 h2)))).trans ((z5 (zU (zF (a := 1) (z3 rfl) rfl yB (ev1 (z3 rfl) ev0) (yq X (n := n) h3 h4)))).trans (yc ((zZ (zX (z3 rfl) (z3 rfl) (by rw [z0g, decide_eq_true h]))).trans (yc rfl)))))
theorem zCv (H : Th r tq kq m kvs) {i j : Int} (h : Bad (S.b.countP id) i j) : run T (n + 5) (.meth "Threads" "tie") [.ref (tq + 15), .int i, .int j] (S.hp r) = .exc "NoPlace" (S.hp r) := by
  rw [zK X.kA9]
  exact xn (fr := [some (.ref (tq + 15)), some (.int i), some (.int j), none]) rfl rfl (yc (qO (zF (a := 1) (zQ (z3 rfl) (H.T S) kT1) rfl x9 (ev1 (z3 rfl) (ev1 (z3 rfl) ev0)) (ZS X (n := n) h))))
theorem WX (H : Th r tq kq m kvs) : run T (n + 6) (.fn "_law_not_tied") [.ref (tq + 15), .int (S.b.countP id : Nat)] (S.hp r) = .ok (.bool true) (S.hp r) := by
  generalize hc : S.b.countP id = c
  rw [yy X.kAw]
  obtain ⟨fr', h', e, v2, v3, rfl, rfl⟩ := xB (t := .many [2, 3]) (src := .imm [prV (0, (c : Int) + 1), prV ((c : Int), (c : Int)), prV (-1, (c : Int))]) (cf := run T (n + 5)) (xs := [prV (0, (c : Int) + 1), prV ((c : Int), (c : Int)), prV (-1, (c : Int))])
    (body := (z9 [(Yl (z9 [(zG (z6 (z4 0) "tie" none [(z4 2), (z4 3)])), (zV (z7 (.bool false)))]) "NoPlace" 3 (.slot 1))]))
    (fun k fr h => ∃ v2 v3, fr = [some (.ref (tq + 15)), some (.int (c : Nat)), v2, v3] ∧ h = S.hp r)
    (fun _ _ _ _ => rfl)
    (by
      rintro k x fr h ⟨v2, v3, rfl, rfl⟩ hx
      obtain ⟨i, j, rfl, hb⟩ : ∃ i j, x = prV (i, j) ∧ Bad c i j := by
        rcases List.mem_cons.mp (yI hx) with rfl | hx
        · exact ⟨_, _, rfl, .inr (.inl ⟨⟨Int.le_refl _, Int.natCast_nonneg _⟩, fun h => absurd h.2 (Int.not_le.mpr (Int.lt_succ _))⟩)⟩
        rcases List.mem_cons.mp hx with rfl | hx
        · exact ⟨_, _, rfl, .inr (.inr ⟨⟨Int.natCast_nonneg _, Int.le_refl _⟩, ⟨Int.natCast_nonneg _, Int.le_refl _⟩, Int.le_refl _⟩)⟩
        · rw [xD hx]; exact ⟨_, _, rfl, .inl fun h => absurd h.1 (by decide)⟩
      exact ⟨[some (.ref (tq + 15)), some (.int (c : Nat)), some (.int i), some (.int j)], _, _, rfl, (z5 (Qu (yc (qO (zF (z3 rfl) (H.T S) Jo (ev1 (z3 rfl) (ev1 (z3 rfl) ev0)) (zCv X (n := n) H (hc ▸ hb))))) (zc rfl) rfl)).trans zC, _, _, rfl, rfl⟩)
    (fr := [some (.ref (tq + 15)), some (.int (c : Nat)), none, none]) (h := S.hp r) ⟨none, none, rfl, rfl⟩
  exact zL (fr := [some (.ref (tq + 15)), some (.int (c : Nat)), none, none]) rfl rfl ((z5 (qp (en := false) (xS (ev1 (xS (ev1 rfl (ev1 (zf (z3 rfl) rfl xC) ev0))) (ev1 (xS (ev1 (z3 rfl) (ev1 (z3 rfl) ev0))) (ev1 (xS (ev1 rfl (ev1 (z3 rfl) ev0))) ev0)))) rfl e)).trans (zJ (zd rfl)))
theorem Jx (H : Th r tq kq m kvs) {i : Int} (hg : yr kvs i = none) : run T (n + 4) (.fn "_law_is_gone") [.ref (tq + 15), .int i] (S.hp r) = .ok (.bool true) (S.hp r) := by
  rw [yy X.kA4]
  obtain ⟨fr', h', e, v, rfl, rfl⟩ := xB (t := .one 2) (src := .imm (qe 0 2)) (cf := run T (n + 3)) (xs := qe 0 2)
    (body := (z9 [(Yl (z9 [(sIf (zN (z4 2) [.Eq] [(z7 (.int 0))]) (z9 [(zG (z6 (z4 0) "told" none [(z4 1)]))]) (z9 [(zG (z6 (z4 0) "drop" none [(z4 1)]))])), (zV (z7 (.bool false)))]) "NoMark" 2 (.int 3))]))
    (fun k fr h => ∃ v, fr = [some (.ref (tq + 15)), some (.int i), v] ∧ h = S.hp r)
    (fun _ _ _ _ => rfl)
    (by
      rintro k x fr h ⟨v, rfl, rfl⟩ hx
      obtain ⟨j, _, rfl⟩ := List.mem_map.mp (yI hx)
      refine ⟨[some (.ref (tq + 15)), some (.int i), some (.int (0 + (j : Int)))], _, _, rfl, (z5 (Qu (fr1 := [some (.ref (tq + 15)), some (.int i), some (.int (0 + (j : Int)))]) (yc ?_) (zc rfl) rfl)).trans zC, _, rfl, rfl⟩
      by_cases q : (0 + (j : Int)) = 0
      · exact (zZ (zX (z3 rfl) rfl (by rw [xb, xP, decide_eq_true q]))).trans (yc (qO (zF (z3 rfl) (H.T S) Yv (ev1 (z3 rfl) ev0) (zBw X (n := n) H hg))))
      · exact (zH (zX (z3 rfl) rfl (by rw [xb, xP, decide_eq_false q]))).trans (yc (qO (zF (z3 rfl) (H.T S) W9 (ev1 (z3 rfl) ev0) (zCh X (n := n) H hg)))))
    (fr := [some (.ref (tq + 15)), some (.int i), none]) (h := S.hp r) ⟨none, rfl, rfl⟩
  exact zL (fr := [some (.ref (tq + 15)), some (.int i), none]) rfl rfl ((z5 (qp (en := false) (xX (ev1 rfl ev0) (res := .ok (.range 0 2) (S.hp r)) rfl) rfl e)).trans (zJ (zd rfl)))
end
section
variable {T : Tab} {okf : Str → Str → Bool} (X : TT T okf) {n : Nat} {S : Sh} {r : Hp} {mvs : List (List (Int × Int))} {cus sg : List (List Int)} {P : List Nat} {hands : Int} {c k : Nat} {tq kq : Nat} {m : Int} {kvs : List (Int × AV)}
include X
abbrev Sh.sgn (S : Sh) (p : Int) : Int := S.sh[p.toNat]?.getD 0
theorem zEi (A : Bs hands c k P S mvs cus sg r) (H : Th r tq kq m kvs) (ht : tq ∈ P) (hk : kq ∈ P) (ne : tq ≠ kq) (z : kvs.length < small) {i j : Int} (i0 : 0 ≤ i) (ij : i < j) (jc : j ≤ S.b.countP id) :
    ∃ g, run T (n + 6) (.meth "Threads" "tie") [.ref (tq + 15), .int i, .int j] (S.hp r) = .ok (.int m) (S.hp ((r.set tq (.inst "Threads" (fT kq (m + 1))) ++ g).set kq (.dict (jY kvs m (prV (S.sgn i, S.sgn (j - 1))))))) := by
  have I := A.V.I
  have lc : (S.sh.length : Int) = (S.b.countP id : Nat) := by rw [I.O.tkl.1, I.O.G.count]
  have tl := (A.p tq ht).1
  have H' : Th (r.set tq (.inst "Threads" (fT kq (m + 1)))) tq kq (m + 1) kvs := ⟨List.getElem?_set_self tl, zM ne H.k⟩
  obtain ⟨g1, e1⟩ := qz X (n := n + 1) (r := r.set tq (.inst "Threads" (fT kq (m + 1)))) I i0 (by rw [lc]; exact Int.lt_of_lt_of_le ij jc)
  obtain ⟨g2, e2⟩ := qz X (n := n + 1) (r := r.set tq (.inst "Threads" (fT kq (m + 1))) ++ g1) I (p := j - 1) (Int.le_sub_one_of_lt (Int.lt_of_le_of_lt i0 ij)) (by rw [lc]; exact Int.lt_of_lt_of_le (Int.sub_lt_self j (by decide)) jc)
  refine ⟨g1 ++ g2, ?_⟩
  rw [← List.append_assoc, zK X.kA9]
  refine zL (fr := [some (.ref (tq + 15)), some (.int i), some (.int j), none]) rfl rfl (fr' := [some (.ref (tq + 15)), some (.int i), some (.int j), some (.int m)]) ?_
  unfold kA9
  dsimp only
  rw [z5 (zU (zF (a := 1) (zQ (z3 rfl) (H.T S) kT1) rfl x9 (ev1 (z3 rfl) (ev1 (z3 rfl) ev0)) (qT X (n := n + 1) i0 ij jc)))]
  rw [z5 (zW (j := 3) (zQ (z3 rfl) (H.T S) kT3) (zc rfl))]
  rw [z5 (yo (a := tq + 15) (fs' := fT kq (m + 1)) (zf (z3 rfl) rfl xC) (z3 rfl) (H.T S) X.kBs (zc rfl) rfl)]
  show z9 _ _ _ (S.hp (r.set tq (.inst "Threads" (fT kq (m + 1))))) = _
  rw [z5 (ZM (xS (ev1 (zF (a := 1) (zQ (z3 rfl) (H'.T S) kT1) rfl q9 (ev1 (z3 rfl) ev0) e1) (ev1 (zF (a := 1) (zQ (z3 rfl) ((H'.grow g1).T S) kT1) rfl q9 (ev1 (zf (z3 rfl) rfl jN) ev0) e2) ev0))) (zQ (z3 rfl) (((H'.grow g1).grow g2).T S) kT2) (z3 rfl) (XV (((H'.grow g1).grow g2).K S) z))]
  exact zJ (zd (z3 rfl))
theorem z0z (A : Bs hands c k P S mvs cus sg r) (hk : k < 200) {d : Nat} (hd : d < S.dn.length) (hs : S.st.length < 200) :
    ∃ S' r', run T (n + 6) (.fn "_law_turned") [.ref 1, .int d] (S.hp r) = .ok .none (Sh.hp S' r') ∧ Bs hands c (k + 1) P S' mvs cus sg r' ∧ Kps S r S' r' ∧ S'.le.length = S.le.length := by
  obtain ⟨S', r', e1, e2, B, K, l⟩ := zCu X (n := n) A hk hd
  refine ⟨S', r', ?_, B, K, l⟩
  rw [yy X.kBd]
  have es := YZ X (n := n + 2) (S := S) (r := r) (i := (d : Int)) (Int.natCast_nonneg _) (Int.ofNat_lt.mpr hd) A.V.I.st hs
  have et := yX (zF (me := none) (a := 1) (z3 (i := 0) (cf := run T (n + 5)) (fr := [some (.ref 1), some (.int d)]) (h := S.hp r) rfl) rfl jS (ev1 (z3 (i := 1) rfl) ev0) es) rfl
  cases hv : fl S.st d with
  | true =>
    rw [hv] at et
    exact zt (fr := [some (.ref 1), some (.int d)]) rfl rfl (fr' := [some (.ref 1), some (.int d)]) ((z5 ((zZ et).trans ((z5 (zU (zF (a := 1) (z3 rfl) rfl Yx (ev1 (z3 rfl) ev0) (e1 hv)))).trans zC))).trans zC)
  | false =>
    rw [hv] at et
    exact zt (fr := [some (.ref 1), some (.int d)]) rfl rfl (fr' := [some (.ref 1), some (.int d)]) ((z5 ((zH et).trans ((z5 (zU (zF (a := 1) (z3 rfl) rfl Xf (ev1 (z3 rfl) ev0) (e2 hv)))).trans zC))).trans zC)
end
theorem wy {h : Hp} {a : Nat} {l : List Int} (e : h[a]? = some (.list (l.map AV.int))) : toD h 8 (.ref a) = some (.list (l.map PyData.int)) := z13 e (YC h 7 l)
theorem Xm (l : List Int) : PyData.canLayAll0 (l.map PyData.int) = true := by
  induction l with
  | nil => rfl
  | cons x l ih => rw [List.map_cons, PyData.canLayAll0, ih]; rfl
theorem z26 {h : Hp} {v w : AV} {d : PyData} (e : toD h 8 v = some d) (e' : toD h 8 w = some d) (c : d.canLay0 = true) : yU .Eq v w h = some true ∧ (neD h v w = none → yU .NotEq v w h = some false) := by
  refine ⟨?_, fun hn => ?_⟩
  · rw [xb, XF e e', SeqAt.eqv_refl d c]
  · rw [zCj hn, XF e e', SeqAt.eqv_refl d c]; rfl
theorem Jg {h : Hp} {a : Nat} {xs : List AV} {w : AV} (e : h[a]? = some (.list xs)) : neD h (.ref a) w = none := by
  show (zv h a).bind _ = none
  rw [show zv h a = none from by unfold zv; rw [e]]; rfl
theorem WF {h : Hp} {a b : Nat} {l : List Int} (e : h[a]? = some (.list (l.map AV.int))) (e' : h[b]? = some (.list (l.map AV.int))) : yU .Eq (.ref a) (.ref b) h = some true := (z26 (wy e) (wy e') (Xm l)).1
theorem ZA {h : Hp} {a b : Nat} {l : List Int} (e : h[a]? = some (.list (l.map AV.int))) (e' : h[b]? = some (.list (l.map AV.int))) : yU .NotEq (.ref a) (.ref b) h = some false := (z26 (wy e) (wy e') (Xm l)).2 (Jg e)
theorem zDv {h : Hp} {t : Nat × Nat} : yU .NotEq (tdV t) (tdV t) h = some false := (z26 (d := .tuple [.int t.1, .int t.2]) rfl rfl rfl).2 rfl
theorem zC6 {h : Hp} {i : Int} : yU .NotEq (.int i) (.int i) h = some false := (z26 (d := .int i) rfl rfl rfl).2 rfl
theorem Iv.td_ok {S : Sh} {mvs : List (List (Int × Int))} {cus sg : List (List Int)} (V : Iv S mvs cus sg) {p : Int × Int} (rg : Rg S.le.length p) : (S.td mvs cus p).1 ≤ (S.td mvs cus p).2 ∧ (S.td mvs cus p).2 ≤ S.b.countP id := by
  have end_ : ∀ {i : Int}, 0 ≤ i → i < S.le.length → S.pl mvs i + (if S.shw cus i then 1 else 0) ≤ S.b.countP id := fun i0 i1 => by
    rw [← V.I.O.G.count]
    exact Nat.le_trans (V.up i0 i1) ((List.take_sublist _ _).filter _).length_le
  have mono : ∀ {i j : Int}, S.at_ mvs i ≤ S.at_ mvs j → S.pl mvs i ≤ S.pl mvs j := fun h => ((List.take_sublist_take_left (l := S.l) h).filter _).length_le
  have le : S.pl mvs (S.pr2 mvs p).1 ≤ S.pl mvs (S.pr2 mvs p).2 := by
    unfold Sh.pr2
    by_cases q : S.at_ mvs p.2 < S.at_ mvs p.1
    · rw [if_pos q]; exact mono (Nat.le_of_lt q)
    · rw [if_neg q]; exact mono (Nat.not_lt.mp q)
  exact ⟨Nat.le_trans le (Nat.le_add_right _ _), end_ rg.two.2.1 rg.two.2.2⟩
theorem z1q {cf : CF} {fr : AFr} {h : Hp} {x y z z' : XE} {v w u u' : AV} {b : Bool} {op op' op'' : CmpOp} (e : x cf fr h = .ok v h) (e1 : y cf fr h = .ok w h) (c1 : yU op v w h = some true) (e2 : z cf fr h = .ok u h) (c2 : yU op' w u h = some true) (e3 : z' cf fr h = .ok u' h) (c3 : yU op'' u u' h = some b) : zN x [op, op', op''] [y, z, z'] cf fr h = .ok b h := by
  unfold zN
  rw [e]
  show (y cf fr h).bind (fun v' h1 => match yU op v v' h1 with
    | none => .stuck
    | some b => cond b (qS v' [op', op''] [z, z'] cf fr h1) (.ok false h1)) = _
  rw [e1]
  show (match yU op v w h with
    | none => Out.stuck
    | some b => cond b (qS w [op', op''] [z, z'] cf fr h) (.ok false h)) = _
  rw [c1]
  have := yu (x := fun _ _ h => .ok w h) (cf := cf) (fr := fr) (h := h) (op := op') (op' := op'') rfl e2 c2 e3 c3
  exact this
abbrev FS (tq dq hq : Nat) (p : Int) (v5 v6 v7 v8 v9 : Option AV) : AFr := [some (.ref 1), some (.ref (tq + 15)), some (.ref (dq + 15)), some (.int p), some (.ref (hq + 15)), v5, v6, v7, v8, v9]
section
variable {T : Tab} {okf : Str → Str → Bool} (X : TT T okf) {n : Nat} {S : Sh} {r : Hp} {mvs : List (List (Int × Int))} {cus sg : List (List Int)} {tq kq dq hq : Nat} {m : Int} {es : Es}
include X
theorem qU {i : Int} {h : Hp} : run T (n + 1) (.fn "_law_whole") [.int i] h = .ok (.bool true) h := by
  rw [yy X.kBl]
  rfl
theorem WN (V : Iv S mvs cus sg) (D : Dy S mvs cus r) (H : Th r tq kq m (kvO es)) (hd : r[dq]? = some (.dict (kvO es))) (nd : (ksO es).Pairwise (· < ·)) (rg : ∀ e ∈ es, Rg S.le.length e.2) {rq : Nat} (hr : r[rq]? = some (.list ((ksO es).map AV.int))) {p : Int} {v5 v6 v7 v8 v9 : Option AV} :
    ∃ u7 u8 g, xT (.one 7) (z9 [(z8 okf (.names (.one 8)) (z6 (z4 1) "told" none [(z4 7)])),
      (sIf (zT .Or [(yA (zp (zB (zA (some (.bi .isinstance))) [(z4 8), (zA (some (.bi .tuple)))]))), (zN (z4 8) [.NotEq] [(zB (zA (some (.fn "_law_told"))) [(z4 0), (zR (z4 2) (z4 7))])])]) (z9 [(zV (z7 (.bool false)))]) (z9 [])),
      (sIf (zT .Or [(yA (zp (zB (zA (some (.fn "_law_whole"))) [(zR (z4 8) (z7 (.int 0)))]))), (yA (zp (zB (zA (some (.fn "_law_whole"))) [(zR (z4 8) (z7 (.int 1)))]))), (yA (zN (z7 (.int 0)) [.LtE, .LtE, .LtE] [(zR (z4 8) (z7 (.int 0))), (zR (z4 8) (z7 (.int 1))), (z6 (z4 0) "size" none [])]))]) (z9 [(zV (z7 (.bool false)))]) (z9 []))]) (.ref (rq + 15)) (((ksO es).map AV.int).length + 1) 0 (run T (n + 5)) (FS tq dq hq p v5 v6 v7 v8 v9) (S.hp r) = .ok .next (FS tq dq hq p v5 v6 u7 u8 v9) (S.hp (r ++ g)) := by
  obtain ⟨fr', h', e, u7, u8, g, rfl, rfl⟩ := xB (t := .one 7) (src := .ref (rq + 15)) (cf := run T (n + 5)) (xs := (ksO es).map AV.int) (body := z9 [(z8 okf (.names (.one 8)) (z6 (z4 1) "told" none [(z4 7)])),
      (sIf (zT .Or [(yA (zp (zB (zA (some (.bi .isinstance))) [(z4 8), (zA (some (.bi .tuple)))]))), (zN (z4 8) [.NotEq] [(zB (zA (some (.fn "_law_told"))) [(z4 0), (zR (z4 2) (z4 7))])])]) (z9 [(zV (z7 (.bool false)))]) (z9 [])),
      (sIf (zT .Or [(yA (zp (zB (zA (some (.fn "_law_whole"))) [(zR (z4 8) (z7 (.int 0)))]))), (yA (zp (zB (zA (some (.fn "_law_whole"))) [(zR (z4 8) (z7 (.int 1)))]))), (yA (zN (z7 (.int 0)) [.LtE, .LtE, .LtE] [(zR (z4 8) (z7 (.int 0))), (zR (z4 8) (z7 (.int 1))), (z6 (z4 0) "size" none [])]))]) (z9 [(zV (z7 (.bool false)))]) (z9 []))])
    (fun k fr h => ∃ u7 u8 g, fr = FS tq dq hq p v5 v6 u7 u8 v9 ∧ h = S.hp (r ++ g))
    (by
      rintro k fr h ⟨u7, u8, g, rfl, rfl⟩
      exact x8 (show (S.hp (r ++ g))[rq + 15]? = _ from zE hr))
    (by
      rintro k x fr h ⟨u7, u8, g, rfl, rfl⟩ hx
      unfold ksO at hx
      rw [List.getElem?_map, List.getElem?_map] at hx
      obtain ⟨w, hw, rfl⟩ := y6 hx
      obtain ⟨e, he, rfl⟩ := y6 hw
      have hm := yI he
      obtain ⟨g1, e1⟩ := z2j X (n := n) V.I (D.grow g) (H.grow g) (jD nd hm) (rg e hm)
      obtain ⟨g2, e2⟩ := YE X (n := n) V.I ((D.grow g).grow g1) (rg e hm)
      obtain ⟨t1, t2⟩ := V.td_ok (rg e hm)
      have hd' : (S.hp (r ++ g ++ g1))[dq + 15]? = some (.dict (kvO es)) := zE (zE hd)
      refine ⟨_, FS tq dq hq p v5 v6 (some (.int e.1)) (some (tdV (S.td mvs cus e.2))) v9, S.hp (r ++ g ++ g1 ++ g2), rfl, ?_, _, _, g ++ g1 ++ g2, rfl, by rw [List.append_assoc, List.append_assoc, List.append_assoc]⟩
      refine (z5 (zW (j := 8) (zF (z3 rfl) ((H.grow g).T S) Yv (ev1 (z3 rfl) ev0) e1) (zc rfl))).trans ((z5 ((zH (x7 (zu (b := true) (yX (v := .bool true) (xX (ev1 (z3 rfl) (ev1 rfl ev0)) rfl) rfl)) (x7 (zX (z3 rfl) (zg (ev1 (z3 rfl) (ev1 (zq (z3 rfl) (z3 rfl) (by rw [Za hd']; exact jD nd hm)) ev0)) e2) zDv) qN))).trans zC)).trans ((z5 ((zH ?_).trans zC)).trans zC))
      exact x7 (zu (b := true) (yX (v := .bool true) (zg (ev1 (zq (z3 rfl) rfl rfl) ev0) (qU X)) rfl)) (x7 (zu (b := true) (yX (v := .bool true) (zg (ev1 (zq (z3 rfl) rfl rfl) ev0) (qU X)) rfl)) (x7 (zu (b := true) (z1q rfl (zq (z3 rfl) rfl rfl) (by rw [yt, decide_eq_true (Int.natCast_nonneg _)]) (zq (z3 rfl) rfl rfl) (by rw [yt, decide_eq_true (Int.ofNat_le.mpr t1)]) (zF (a := 1) (z3 rfl) rfl xf ev0 (wU X (n := n + 3))) (by rw [yt, decide_eq_true (Int.ofNat_le.mpr t2)]))) qN)))
    (fr := FS tq dq hq p v5 v6 v7 v8 v9) (h := S.hp r) ⟨v7, v8, [], rfl, by rw [List.append_nil]⟩
  exact ⟨u7, u8, g, e⟩
end
theorem Wa {h : Hp} {a b : Nat} {xs ys : List AV} (e : h[a]? = some (.list xs)) (e' : h[b]? = some (.list ys)) (z : xs.length + ys.length < small) : yG .extend (.ref a) [.ref b] h = .ok .none (h.set a (.list (xs ++ ys))) := by
  show ofP ((zn h a).bind fun xs => meO .extend a xs [.ref b] h) = _
  rw [wj e]
  show ofP ((zn h b).bind fun ys => if xs.length + ys.length < small then some (.none, h.set a (.list (xs ++ ys))) else none) = _
  rw [wj e']
  show ofP (if _ then _ else _) = _
  rw [if_pos z]; rfl
theorem Jl {h : Hp} {a : Nat} {xs : List AV} (e : h[a]? = some (.list xs)) : yG .clear (.ref a) [] h = .ok .none (h.set a (.list [])) := by
  show ofP ((zn h a).bind fun xs => meO .clear a xs [] h) = _
  rw [wj e]; rfl
theorem z0n {h : Hp} {a : Nat} {xs : List AV} (e : h[a]? = some (.list xs)) (z : xs.length ≤ small) : x6 .list [.ref a] h = .ok (.ref h.length) (h ++ [.list xs]) := by
  rw [XB, e]; exact if_pos z
theorem xo {h : Hp} {a : Nat} {xs : List AV} {i : Int} {v : AV} (e : h[a]? = some (.list xs)) (o : okI i = true) (hv : xs[i.toNat]? = some v) : wG h (.ref a) (.int i) = some v := by
  rw [qR o, e]; exact hv
abbrev Cp := List (Nat × List Int)
def cpO (as : Cp) : Hp := as.map fun a => .list (a.2.map AV.int)
def tpO (k : Nat) (as : Cp) : List AV := (List.range as.length).zipWith (fun i a => AV.tup [.ref (a.1 + 15), .ref (k + i + 15)]) as
theorem z2c (as : Cp) : (cpO as).length = as.length := List.length_map _
theorem Ww (k : Nat) (as : Cp) (a : Nat × List Int) : tpO k (as ++ [a]) = tpO k as ++ [.tup [.ref (a.1 + 15), .ref (k + as.length + 15)]] := by
  unfold tpO
  rw [zP]
  show (List.range (as.length + 1)).zipWith _ _ = _
  rw [List.range_succ, List.zipWith_append (by rw [List.length_range])]
  rfl
theorem YY (k : Nat) (as : Cp) : (tpO k as).length = as.length := by unfold tpO; rw [List.length_zipWith, List.length_range, Nat.min_self]
theorem Wr {S : Sh} {r : Hp} {cf : CF} {lq : Nat} {as : Cp} {a0 a1 a2 a3 a4 a5 a7 a8 a9 : Option AV} (hl : r[lq]? = some (.list (as.map fun a => .ref (a.1 + 15)))) (ha : ∀ a ∈ as, r[a.1]? = some (.list (a.2.map AV.int)) ∧ a.2.length < 64) (z : as.length < small) :
    yh (z4 6) 1 (.one 10) (zT .And []) (yZ [(z4 10), (zB (zA (some (.bi .list))) [(z4 10)])]) cf [a0, a1, a2, a3, a4, a5, some (.ref (lq + 15)), a7, a8, a9] (S.hp r) = .ok (.ref ((r ++ cpO as).length + 15)) (S.hp (r ++ cpO as ++ [.list (tpO r.length as)])) := by
  have key : ∀ (m : Nat) (bs cs : Cp) (v : Option AV), as = bs ++ cs → cs.length = m → yF (.one 10) (zT .And []) (yZ [(z4 10), (zB (zA (some (.bi .list))) [(z4 10)])]) (.ref (lq + 15)) (m + 1) bs.length (tpO r.length bs) cf [a0, a1, a2, a3, a4, a5, some (.ref (lq + 15)), a7, a8, a9, v] (S.hp (r ++ cpO bs)) = .ok (tpO r.length as) (S.hp (r ++ cpO as)) := by
    intro m
    induction m with
    | zero =>
      intro bs cs v e hc
      have := List.length_eq_zero_iff.mp hc
      subst this
      rw [List.append_nil] at e
      subst e
      show (match (Src.ref (lq + 15)).next? (S.hp (r ++ cpO as)) as.length with
        | none => Out.stuck
        | some none => .ok (tpO r.length as) (S.hp (r ++ cpO as))
        | some (some x) => _) = _
      rw [x8 (show (S.hp (r ++ cpO as))[lq + 15]? = _ from zE hl), List.getElem?_eq_none (by rw [List.length_map]; exact Nat.le_refl _)]
    | succ m ih =>
      intro bs cs v e hc
      cases cs with
      | nil => cases hc
      | cons a cs =>
        have hx : (as.map fun a => AV.ref (a.1 + 15))[bs.length]? = some (.ref (a.1 + 15)) := by
          rw [List.getElem?_map, e, zO]; rfl
        obtain ⟨h1, h2⟩ := ha a (by rw [e]; exact List.mem_append_right _ (.head _))
        have hb := ih (bs ++ [a]) cs (some (.ref (a.1 + 15))) (by rw [e, List.append_assoc]; rfl) (Nat.succ.inj hc)
        have hq : (S.hp (r ++ cpO bs))[a.1 + 15]? = some (.list (a.2.map AV.int)) := zE h1
        have e1 : yZ [(z4 10), (zB (zA (some (.bi .list))) [(z4 10)])] cf [a0, a1, a2, a3, a4, a5, some (.ref (lq + 15)), a7, a8, a9, some (.ref (a.1 + 15))] (S.hp (r ++ cpO bs)) = .ok (.tup [.ref (a.1 + 15), .ref ((r ++ cpO bs).length + 15)]) (S.hp (r ++ cpO bs ++ [.list (a.2.map AV.int)])) :=
          xS (ev1 (z3 rfl) (ev1 (xX (ev1 (z3 rfl) ev0) (z0n hq (by rw [List.length_map]; exact Nat.le_trans (Nat.le_of_lt h2) (by decide)))) ev0))
        show (match (Src.ref (lq + 15)).next? (S.hp (r ++ cpO bs)) bs.length with
          | none => Out.stuck
          | some none => _
          | some (some x) => (match NTgt.bind (.one 10) x [a0, a1, a2, a3, a4, a5, some (.ref (lq + 15)), a7, a8, a9, v] with
            | none => .stuck
            | some fr₁ => (zT .And [] cf fr₁ (S.hp (r ++ cpO bs))).bind0 fun b h₁ =>
                if b then (yZ [(z4 10), (zB (zA (some (.bi .list))) [(z4 10)])] cf fr₁ h₁).bind0 fun v h₂ => if (tpO r.length bs).length < small then yF (.one 10) (zT .And []) (yZ [(z4 10), (zB (zA (some (.bi .list))) [(z4 10)])]) (.ref (lq + 15)) (m + 1) (bs.length + 1) (tpO r.length bs ++ [v]) cf fr₁ h₂ else .stuck
                else yF (.one 10) (zT .And []) (yZ [(z4 10), (zB (zA (some (.bi .list))) [(z4 10)])]) (.ref (lq + 15)) (m + 1) (bs.length + 1) (tpO r.length bs) cf fr₁ h₁)) = _
        rw [x8 (show (S.hp (r ++ cpO bs))[lq + 15]? = _ from zE hl), hx]
        show (yZ [(z4 10), (zB (zA (some (.bi .list))) [(z4 10)])] cf [a0, a1, a2, a3, a4, a5, some (.ref (lq + 15)), a7, a8, a9, some (.ref (a.1 + 15))] (S.hp (r ++ cpO bs))).bind0 (fun v h₂ => if (tpO r.length bs).length < small then yF (.one 10) (zT .And []) (yZ [(z4 10), (zB (zA (some (.bi .list))) [(z4 10)])]) (.ref (lq + 15)) (m + 1) (bs.length + 1) (tpO r.length bs ++ [v]) cf [a0, a1, a2, a3, a4, a5, some (.ref (lq + 15)), a7, a8, a9, some (.ref (a.1 + 15))] h₂ else .stuck) = _
        rw [e1, Out.bind0_ok, if_pos (by rw [YY]; exact Nat.lt_of_le_of_lt (by rw [e, zP]; exact Nat.le_add_right _ _) z)]
        rw [Ww, zP] at hb
        rw [List.append_assoc, show cpO bs ++ [AO.list (a.2.map AV.int)] = cpO (bs ++ [a]) from (by unfold cpO; rw [List.map_append]; rfl), zP, z2c]
        exact hb
  have e := key as.length [] as none rfl rfl
  unfold yh
  rw [show z4 6 cf [a0, a1, a2, a3, a4, a5, some (.ref (lq + 15)), a7, a8, a9] (S.hp r) = .ok (.ref (lq + 15)) (S.hp r) from rfl, Out.bind_ok, qc (show (S.hp r)[lq + 15]? = _ from hl)]
  dsimp only
  rw [show cpO [] = [] from rfl, List.append_nil] at e
  rw [List.length_map, show ([a0, a1, a2, a3, a4, a5, some (AV.ref (lq + 15)), a7, a8, a9] ++ List.replicate 1 none : AFr) = [a0, a1, a2, a3, a4, a5, some (.ref (lq + 15)), a7, a8, a9, none] from rfl, show (yF (.one 10) (zT .And []) (yZ [(z4 10), (zB (zA (some (.bi .list))) [(z4 10)])]) (.ref (lq + 15)) (as.length + 1) 0 [] cf [a0, a1, a2, a3, a4, a5, some (.ref (lq + 15)), a7, a8, a9, none] (S.hp r)) = _ from e]
  rfl
section
variable {T : Tab} {okf : Str → Str → Bool} (X : TT T okf) {n : Nat} {S : Sh} {r : Hp} {mvs : List (List (Int × Int))} {cus sg : List (List Int)} {tq kq dq hq : Nat} {m : Int} {es : Es}
include X
theorem Yn {fr : AFr} (h0 : fr[0]? = some (some (.ref 1))) : z6 (z4 0) "size" none [] (run T (n + 2)) fr (S.hp r) = .ok (.int (S.b.countP id : Nat)) (S.hp r) := zF (a := 1) (z3 h0) rfl xf ev0 (wU X (n := n))
theorem Qh (V : Iv S mvs cus sg) (D : Dy S mvs cus r) (H : Th r tq kq m (kvO es)) (hd : r[dq]? = some (.dict (kvO es))) (nd : (ksO es).Pairwise (· < ·)) (z : es.length < 64) (rg : ∀ e ∈ es, Rg S.le.length e.2) {p : Int} {v5 v6 v7 v8 v9 : Option AV} :
    ∃ g, zT .And [(zN (zI .Mod (z4 3) (z7 (.int 2))) [.Eq] [(z7 (.int 0))]), (zN (z6 (z4 0) "size" none []) [.Gt] [(z7 (.int 0))]), (zN (z6 (z4 1) "over" none [(zI .Mod (z4 3) (z6 (z4 0) "size" none []))]) [.NotEq] [(zB (zA (some (.fn "_law_over"))) [(z4 0), (z4 2), (z4 3)])])] (run T (n + 6)) (FS tq dq hq p v5 v6 v7 v8 v9) (S.hp r) = .ok false (S.hp (r ++ g)) := by
  have t1 := zX (op := .Eq) (b := decide (p.fmod 2 = 0)) (zf (op := .Mod) (z3 (i := 3) (cf := run T (n + 6)) (fr := FS tq dq hq p v5 v6 v7 v8 v9) (h := S.hp r) rfl) (y := z7 (.int 2)) rfl (yR.trans (if_neg (by decide)))) (y := z7 (.int 0)) rfl (by rw [xb, xP])
  have t2 := zX (op := .Gt) (b := decide ((0 : Int) < (S.b.countP id : Nat))) (Yn X (n := n + 4) (S := S) (r := r) (fr := FS tq dq hq p v5 v6 v7 v8 v9) rfl) (y := z7 (.int 0)) rfl X7
  by_cases q1 : p.fmod 2 = 0
  · rw [decide_eq_true q1] at t1
    by_cases q2 : S.b.countP id = 0
    · rw [decide_eq_false (by rw [q2]; decide)] at t2
      exact ⟨[], by rw [List.append_nil]; exact qq t1 (q7 t2)⟩
    · have c0 : (0 : Int) < (S.b.countP id : Nat) := Int.ofNat_lt.mpr (Nat.pos_of_ne_zero q2)
      rw [decide_eq_true c0] at t2
      have lc : (S.sh.length : Int) = (S.b.countP id : Nat) := by rw [V.I.O.tkl.1, V.I.O.G.count]
      obtain ⟨g1, a, e1, _, ha⟩ := Jc X (n := n) V.I D H nd z rg (p := p.fmod (S.b.countP id : Nat)) (Int.fmod_nonneg_of_pos _ c0) (by rw [lc]; exact Int.fmod_lt_of_pos _ c0)
      obtain ⟨g2, b, e2, _, hb⟩ := YF X (n := n) V.I (D.grow g1) (zE hd) nd z rg (p := p) q2
      refine ⟨g1 ++ g2, ?_⟩
      rw [← List.append_assoc]
      exact qq t1 (qq t2 (q7 (zX (zF (z3 rfl) (H.T S) Yw (ev1 (zf (z3 rfl) (Yn X (n := n + 4) rfl) (yR.trans (if_neg fun q => q2 (Int.ofNat.inj q)))) ev0) e1) (zg (ev1 (z3 rfl) (ev1 (z3 rfl) (ev1 (z3 rfl) ev0))) e2) (ZA (show (S.hp (r ++ g1 ++ g2))[a + 15]? = _ from zE ha) (show (S.hp (r ++ g1 ++ g2))[b + 15]? = _ from hb)))))
  · rw [decide_eq_false q1] at t1
    exact ⟨[], by rw [List.append_nil]; exact q7 t1⟩
theorem QT (V : Iv S mvs cus sg) (D : Dy S mvs cus r) (H : Th r tq kq m (kvO es)) (hd : r[dq]? = some (.dict (kvO es))) (nd : (ksO es).Pairwise (· < ·)) (z : es.length < 64) (rg : ∀ e ∈ es, Rg S.le.length e.2) {p : Int} {G : Hp} {rq lq nq : Nat} (l1 : r.length ≤ lq) (hn : (r ++ G)[nq]? = some (.list ((ksO es).map AV.int))) (ne : lq ≠ nq) (hr : (r ++ G)[rq]? = some (.list ((ksO es).map AV.int))) (nr : lq ≠ rq) (hl : (r ++ G)[lq]? = some (.list [.ref (nq + 15)])) {v5 v7 v8 : Option AV} (n1 : r.length ≤ nq) (n2 : r.length ≤ rq) :
    ∃ u9 G' as, sIf (zN (z6 (z4 0) "size" none []) [.Gt] [(z7 (.int 0))]) (z9 [(z8 okf (.names (.one 9)) (zI .Mod (z4 3) (z6 (z4 0) "size" none []))),
      (zG (z6 (z4 6) "append" (some .append) [(z6 (z4 1) "over" none [(z4 9)])])),
      (sIf (zN (zR (z4 6) (z7 (.int 1))) [.NotEq] [(zB (zA (some (.fn "_law_over"))) [(z4 0), (z4 2), (z4 3)])]) (z9 [(zV (z7 (.bool false)))]) (z9 [])),
      (zG (z6 (z6 (z4 1) "over" none [(z4 9)]) "append" (some .append) [(z7 (.int 9))]))]) (z9 []) (run T (n + 6)) (FS tq dq hq p v5 (some (.ref (lq + 15))) v7 v8 none) (S.hp (r ++ G)) = .ok .next (FS tq dq hq p v5 (some (.ref (lq + 15))) v7 v8 u9) (S.hp (r ++ G')) ∧
      (r ++ G')[rq]? = some (.list ((ksO es).map AV.int)) ∧ (r ++ G')[lq]? = some (.list (as.map fun a => AV.ref (a.1 + 15))) ∧ as.length ≤ 2 ∧ ∀ a ∈ (as : Cp), r.length ≤ a.1 ∧ (r ++ G')[a.1]? = some (.list (a.2.map AV.int)) ∧ a.2.length < 64 := by
  have zk : (ksO es).length < 64 := by unfold ksO; rw [List.length_map]; exact z
  have zo : ∀ q, (S.ov mvs cus es q).length < 64 := fun q => by unfold Sh.ov ksO; rw [List.length_map]; exact Nat.lt_of_le_of_lt (List.length_filter_le _ _) z
  have t2 := zX (op := .Gt) (b := decide ((0 : Int) < (S.b.countP id : Nat))) (Yn X (n := n + 4) (S := S) (r := r ++ G) (fr := FS tq dq hq p v5 (some (.ref (lq + 15))) v7 v8 none) rfl) (y := z7 (.int 0)) rfl X7
  by_cases q2 : S.b.countP id = 0
  · rw [decide_eq_false (by rw [q2]; decide)] at t2
    refine ⟨none, G, [(nq, ksO es)], (zH t2).trans zC, hr, hl, zc rfl, fun a ha => ?_⟩
    rw [xD ha]; exact ⟨n1, hn, zk⟩
  · have c0 : (0 : Int) < (S.b.countP id : Nat) := Int.ofNat_lt.mpr (Nat.pos_of_ne_zero q2)
    rw [decide_eq_true c0] at t2
    have lc : (S.sh.length : Int) = (S.b.countP id : Nat) := by rw [V.I.O.tkl.1, V.I.O.G.count]
    generalize hp : p.fmod (S.b.countP id : Nat) = at_
    have p0 : 0 ≤ at_ := hp ▸ Int.fmod_nonneg_of_pos _ c0
    have p1 : at_ < S.sh.length := by rw [lc, ← hp]; exact Int.fmod_lt_of_pos _ c0
    have e0 : zI .Mod (z4 3) (z6 (z4 0) "size" none []) (run T (n + 6)) (FS tq dq hq p v5 (some (.ref (lq + 15))) v7 v8 none) (S.hp (r ++ G)) = .ok (.int at_) (S.hp (r ++ G)) := by
      rw [← hp]; exact zf (z3 rfl) (Yn X (n := n + 4) rfl) (yR.trans (if_neg fun q => q2 (Int.ofNat.inj q)))
    obtain ⟨g1, a, e1, la, ha⟩ := Jc X (n := n) V.I (D.grow G) (H.grow G) nd z rg p0 p1
    have ll := (y8 hl).1
    have nal : lq ≠ a := Nat.ne_of_lt (Nat.lt_of_lt_of_le ll la)
    obtain ⟨G1, eG⟩ := Yj (r := r) (g := G ++ g1) (o := .list [.ref (nq + 15), .ref (a + 15)]) l1
    rw [← List.append_assoc] at eG
    have hl1 : (r ++ G1)[lq]? = some (.list [.ref (nq + 15), .ref (a + 15)]) := by rw [← eG]; exact List.getElem?_set_self (by rw [zP]; exact Nat.lt_of_lt_of_le ll (Nat.le_add_right _ _))
    have ha1 : (r ++ G1)[a]? = some (.list ((S.ov mvs cus es at_).map AV.int)) := by rw [← eG]; exact zM nal ha
    have hn1 : (r ++ G1)[nq]? = some (.list ((ksO es).map AV.int)) := by rw [← eG]; exact zM ne (zE hn)
    have hr1 : (r ++ G1)[rq]? = some (.list ((ksO es).map AV.int)) := by rw [← eG]; exact zM nr (zE hr)
    obtain ⟨g2, b, e2, lb, hb⟩ := YF X (n := n) V.I (D.grow G1) (zE (l := G1) hd) nd z rg (p := p) q2
    rw [hp] at hb
    obtain ⟨g3, c, e3, lcq, hc⟩ := Jc X (n := n) V.I ((D.grow G1).grow g2) ((H.grow G1).grow g2) nd z rg p0 p1
    have big : ∀ {q : Nat} {o : AO}, (r ++ G1)[q]? = some o → c ≠ q := fun h => Ne.symm (Nat.ne_of_lt (Nat.lt_of_lt_of_le (y8 (zE (l := g2) h)).1 lcq))
    obtain ⟨G2, eG2⟩ := Yj (r := r) (g := G1 ++ g2 ++ g3) (q := c) (o := .list ((S.ov mvs cus es at_).map AV.int ++ [.int 9])) (Nat.le_trans (by rw [zP, zP]; exact Nat.le_trans (Nat.le_add_right _ _) (Nat.le_add_right _ _)) lcq)
    rw [← List.append_assoc, ← List.append_assoc] at eG2
    have keep : ∀ {q : Nat} {o : AO}, (r ++ G1)[q]? = some o → (r ++ G2)[q]? = some o := fun h => by rw [← eG2]; exact zM (big h) (zE (zE h))
    refine ⟨some (.int at_), G2, [(nq, ksO es), (a, S.ov mvs cus es at_)], ?_, keep hr1, keep hl1, zc rfl, fun x hx => ?_⟩
    · have s2 := Yp (cf := run T (n + 6)) (fr := FS tq dq hq p v5 (some (.ref (lq + 15))) v7 v8 (some (.int at_))) (j := 6) (e := z6 (z4 1) "over" none [(z4 9)]) (a := lq + 15) (ys := [.ref (nq + 15)]) (h := S.hp (r ++ G)) rfl (show (S.hp (r ++ G))[lq + 15]? = _ from hl) (zF (z3 rfl) ((H.grow G).T S) Yw (ev1 (z3 rfl) ev0) e1) (show (S.hp (r ++ G ++ g1))[lq + 15]? = _ from zE hl) (Nat.lt_of_lt_of_le (show 1 < 2 by decide) (by decide)) rfl
      have s2' : zG (z6 (z4 6) "append" (some .append) [(z6 (z4 1) "over" none [(z4 9)])]) (run T (n + 6)) (FS tq dq hq p v5 (some (.ref (lq + 15))) v7 v8 (some (.int at_))) (S.hp (r ++ G)) = .ok .next (FS tq dq hq p v5 (some (.ref (lq + 15))) v7 v8 (some (.int at_))) (S.hp (r ++ G1)) := by
        rw [s2, ← eG]; rfl
      have s4 : zG (z6 (z6 (z4 1) "over" none [(z4 9)]) "append" (some .append) [(z7 (.int 9))]) (run T (n + 6)) (FS tq dq hq p v5 (some (.ref (lq + 15))) v7 v8 (some (.int at_))) (S.hp (r ++ G1 ++ g2)) = .ok .next (FS tq dq hq p v5 (some (.ref (lq + 15))) v7 v8 (some (.int at_))) (S.hp (r ++ G2)) := by
        refine zU (v := .none) (j7 (zF (z3 rfl) (((H.grow G1).grow g2).T S) Yw (ev1 (z3 rfl) ev0) e3) (show (S.hp (r ++ G1 ++ g2 ++ g3))[c + 15]? = _ from hc) (ev1 rfl ev0) ?_)
        rw [xx, show (S.hp (r ++ G1 ++ g2 ++ g3))[c + 15]? = _ from hc]
        show (if _ then _ else _) = _
        rw [if_pos (by rw [List.length_map]; exact Nat.lt_trans (zo _) (by decide)), ← eG2]; rfl
      exact (zZ t2).trans ((z5 (zW (j := 9) e0 (zc rfl))).trans ((z5 s2').trans ((z5 ((zH (zX (zq (z3 rfl) rfl (xo (show (S.hp (r ++ G1))[lq + 15]? = _ from hl1) rfl rfl)) (zg (ev1 (z3 rfl) (ev1 (z3 rfl) (ev1 (z3 rfl) ev0))) e2) (ZA (show (S.hp (r ++ G1 ++ g2))[a + 15]? = _ from zE ha1) (show (S.hp (r ++ G1 ++ g2))[b + 15]? = _ from hb)))).trans zC)).trans ((z5 s4).trans zC))))
    · rcases List.mem_cons.mp hx with rfl | hx
      · exact ⟨n1, keep hn1, zk⟩
      · rw [xD hx]
        exact ⟨Nat.le_trans (by rw [zP]; exact Nat.le_add_right _ _) la, keep ha1, zo _⟩
end
theorem z12 {k : Nat} {as : Cp} {v : AV} (h : v ∈ tpO k as) : ∃ i a, as[i]? = some a ∧ v = .tup [.ref (a.1 + 15), .ref (k + i + 15)] := by
  obtain ⟨i, hi⟩ := List.getElem?_of_mem h
  have hl := (y8 hi).1
  rw [YY] at hl
  unfold tpO at hi
  rw [List.getElem?_zipWith, List.getElem?_range hl, y9 hl] at hi
  cases hi
  exact ⟨i, _, y9 hl, rfl⟩
theorem JO {r g : Hp} {q : Nat} {o : AO} (h : q < r.length) : (r ++ g).set q o = r.set q o ++ g := List.set_append_left _ _ h
section
variable {T : Tab} {okf : Str → Str → Bool} (X : TT T okf) {n : Nat} {S : Sh} {r : Hp} {mvs : List (List (Int × Int))} {cus sg : List (List Int)} {tq kq dq hq : Nat} {m : Int} {es : Es} {hs : List AV}
include X
theorem ZQ (H : Th r tq kq m (kvO es)) (nd : (ksO es).Pairwise (· < ·)) (z : es.length < 64) : run T (n + 1) (.meth "Threads" "numbers") [.ref (tq + 15)] (S.hp r) = .ok (.ref (r.length + 15)) (S.hp (r ++ [.list ((ksO es).map AV.int)])) := by
  have e := Je X (n := n) (S := S) H (by unfold kvO; rw [List.length_map]; exact z) (by rw [WC]; exact nd.imp Int.le_of_lt)
  rw [wD] at e
  exact e
theorem z00 (H : Th r tq kq m (kvO es)) (hh : r[hq]? = some (.list hs)) (ne1 : hq ≠ tq) (ne2 : hq ≠ kq) (nd : (ksO es).Pairwise (· < ·)) (z : es.length < 64) (zh : hs.length + 2 < small) {p : Int} {G : Hp} {rq lq : Nat} {as : Cp} (n2 : r.length ≤ rq) (hr : (r ++ G)[rq]? = some (.list ((ksO es).map AV.int))) (hl : (r ++ G)[lq]? = some (.list (as.map fun a => AV.ref (a.1 + 15)))) (la : as.length ≤ 2) (ha : ∀ a ∈ as, r.length ≤ a.1 ∧ (r ++ G)[a.1]? = some (.list (a.2.map AV.int)) ∧ a.2.length < 64) {v7 v8 v9 : Option AV} :
    ∃ G' ts, z9 [(zG (z6 (z4 4) "extend" (some .extend) [(yh (z4 6) 1 (.one 10) (zT .And []) (yZ [(z4 10), (zB (zA (some (.bi .list))) [(z4 10)])]))])),
      (zG (z6 (z6 (z4 1) "numbers" none []) "clear" (some .clear) [])),
      (zV (Zn (z6 (z4 1) "numbers" none []) [.Eq] [(z4 5)]))] (run T (n + 6)) (FS tq dq hq p (some (.ref (rq + 15))) (some (.ref (lq + 15))) v7 v8 v9) (S.hp (r ++ G)) = .ok (.ret (.bool true)) (FS tq dq hq p (some (.ref (rq + 15))) (some (.ref (lq + 15))) v7 v8 v9) (S.hp (r.set hq (.list (hs ++ ts)) ++ G')) ∧ ts.length ≤ 2 ∧
      ∀ v ∈ ts, ∃ a b xs, v = .tup [.ref (a + 15), .ref (b + 15)] ∧ r.length ≤ a ∧ r.length ≤ b ∧ (r.set hq (.list (hs ++ ts)) ++ G')[a]? = some (.list ((xs : List Int).map AV.int)) ∧ (r.set hq (.list (hs ++ ts)) ++ G')[b]? = some (.list (xs.map AV.int)) := by
  have hlt := (y8 hh).1
  generalize hts : tpO (r ++ G).length as = ts
  have lts : ts.length ≤ 2 := by rw [← hts, YY]; exact la
  have ec := Wr (S := S) (r := r ++ G) (cf := run T (n + 6)) (lq := lq) (as := as) (a0 := some (.ref 1)) (a1 := some (.ref (tq + 15))) (a2 := some (.ref (dq + 15))) (a3 := some (.int p)) (a4 := some (.ref (hq + 15))) (a5 := some (.ref (rq + 15))) (a7 := v7) (a8 := v8) (a9 := v9) hl (fun a h => (ha a h).2) (Nat.lt_of_le_of_lt la (by decide))
  rw [hts] at ec
  generalize hC : cpO as = C at ec
  have ex := Wa (h := S.hp (r ++ G ++ C ++ [.list ts])) (a := hq + 15) (b := (r ++ G ++ C).length + 15) (xs := hs) (ys := ts) (zE (zE (zE hh))) (zO _ _ []) (Nat.lt_of_le_of_lt (Nat.add_le_add_left lts _) zh)
  have es1 : (r ++ G ++ C ++ [AO.list ts]).set hq (.list (hs ++ ts)) = r.set hq (.list (hs ++ ts)) ++ (G ++ C ++ [.list ts]) := by
    rw [List.append_assoc r, List.append_assoc r]; exact JO hlt
  generalize hr' : r.set hq (.list (hs ++ ts)) = r' at es1
  generalize hG : G ++ C ++ [AO.list ts] = G7 at es1
  have H' : Th r' tq kq m (kvO es) := by rw [← hr']; exact ⟨zM ne1 H.t, zM ne2 H.k⟩
  have up : ∀ {q : Nat} {o : AO}, r.length ≤ q → (r ++ G ++ C)[q]? = some o → (r' ++ G7)[q]? = some o := fun l h => by
    rw [← es1]; exact zM (Nat.ne_of_lt (Nat.lt_of_lt_of_le hlt l)) (zE h)
  have eN := ZQ X (n := n + 5) (S := S) (H'.grow G7) nd z
  have eN2 := ZQ X (n := n + 5) (S := S) ((H'.grow G7).grow [.list []]) nd z
  refine ⟨G7 ++ [.list []] ++ [.list ((ksO es).map AV.int)], ts, ?_, lts, fun v hv => ?_⟩
  · have s1 : zG (z6 (z4 4) "extend" (some .extend) [(yh (z4 6) 1 (.one 10) (zT .And []) (yZ [(z4 10), (zB (zA (some (.bi .list))) [(z4 10)])]))]) (run T (n + 6)) (FS tq dq hq p (some (.ref (rq + 15))) (some (.ref (lq + 15))) v7 v8 v9) (S.hp (r ++ G)) = .ok .next (FS tq dq hq p (some (.ref (rq + 15))) (some (.ref (lq + 15))) v7 v8 v9) (S.hp (r' ++ G7)) := by
      refine zU (v := .none) (j7 (a := hq + 15) (z3 rfl) (show (S.hp (r ++ G))[hq + 15]? = _ from zE hh) (ev1 ec ev0) ?_)
      rw [ex, ← es1]; rfl
    have s2 : zG (z6 (z6 (z4 1) "numbers" none []) "clear" (some .clear) []) (run T (n + 6)) (FS tq dq hq p (some (.ref (rq + 15))) (some (.ref (lq + 15))) v7 v8 v9) (S.hp (r' ++ G7)) = .ok .next (FS tq dq hq p (some (.ref (rq + 15))) (some (.ref (lq + 15))) v7 v8 v9) (S.hp (r' ++ G7 ++ [.list []])) := by
      refine zU (v := .none) (j7 (zF (z3 rfl) ((H'.grow G7).T S) wi ev0 eN) (show (S.hp (r' ++ G7 ++ [.list ((ksO es).map AV.int)]))[(r' ++ G7).length + 15]? = _ from zO _ _ []) ev0 ?_)
      rw [Jl (show (S.hp (r' ++ G7 ++ [.list ((ksO es).map AV.int)]))[(r' ++ G7).length + 15]? = _ from zO _ _ [])]
      show Out.ok AV.none (S.hp ((r' ++ G7 ++ [AO.list ((ksO es).map AV.int)]).set (r' ++ G7).length (AO.list []))) = _
      rw [qM]
    rw [hr', ← List.append_assoc, ← List.append_assoc]
    exact (z5 s1).trans ((z5 s2).trans (zJ (zd (QR (zF (z3 rfl) (((H'.grow G7).grow [.list []]).T S) wi ev0 eN2) (z3 rfl) (WF (show (S.hp (r' ++ G7 ++ [.list []] ++ [.list ((ksO es).map AV.int)]))[(r' ++ G7 ++ [AO.list []]).length + 15]? = _ from zO _ _ []) (show (S.hp (r' ++ G7 ++ [.list []] ++ [.list ((ksO es).map AV.int)]))[rq + 15]? = _ from zE (zE (up n2 (zE hr)))))))))
  · rw [← hts] at hv
    obtain ⟨i, a, hi, rfl⟩ := z12 hv
    obtain ⟨h1, h2, _⟩ := ha a (yI hi)
    have hb : (r ++ G ++ C)[(r ++ G).length + i]? = some (.list (a.2.map AV.int)) := by
      rw [xJ, ← hC]; unfold cpO; rw [List.getElem?_map, hi]; rfl
    have lb : r.length ≤ (r ++ G).length + i := by rw [zP, Nat.add_assoc]; exact Nat.le_add_right _ _
    rw [hr', ← List.append_assoc, ← List.append_assoc]
    exact ⟨a.1, (r ++ G).length + i, a.2, rfl, h1, lb, zE (zE (up h1 (zE h2))), zE (zE (up lb hb))⟩
end
section
variable {T : Tab} {okf : Str → Str → Bool} (X : TT T okf) {n : Nat} {S : Sh} {r : Hp} {mvs : List (List (Int × Int))} {cus sg : List (List Int)} {tq kq dq hq : Nat} {m : Int} {es : Es} {hs : List AV}
include X
theorem Xn (V : Iv S mvs cus sg) (D : Dy S mvs cus r) (H : Th r tq kq m (kvO es)) (hd : r[dq]? = some (.dict (kvO es))) (hh : r[hq]? = some (.list hs)) (ne1 : hq ≠ tq) (ne2 : hq ≠ kq) (nd : (ksO es).Pairwise (· < ·)) (z : es.length < 64) (rg : ∀ e ∈ es, Rg S.le.length e.2) (zh : hs.length + 2 < small) {p : Int} :
    ∃ G ts, run T (n + 7) (.fn "_law_stands") [.ref 1, .ref (tq + 15), .ref (dq + 15), .int p, .ref (hq + 15)] (S.hp r) = .ok (.bool true) (S.hp (r.set hq (.list (hs ++ ts)) ++ G)) ∧ ts.length ≤ 2 ∧
      ∀ v ∈ ts, ∃ a b xs, v = .tup [.ref (a + 15), .ref (b + 15)] ∧ r.length ≤ a ∧ r.length ≤ b ∧ (r.set hq (.list (hs ++ ts)) ++ G)[a]? = some (.list ((xs : List Int).map AV.int)) ∧ (r.set hq (.list (hs ++ ts)) ++ G)[b]? = some (.list (xs.map AV.int)) := by
  generalize hK : AO.list ((ksO es).map AV.int) = K
  have a1 := Zq (show (S.hp r)[dq + 15]? = _ from hd)
  rw [wD, hK] at a1
  have a2 := Zp (h := S.hp (r ++ [K])) (a := r.length + 15) (is := ksO es) (by rw [hK]; exact zO _ _ []) (by unfold ksO; rw [List.length_map]; exact z) (nd.imp Int.le_of_lt)
  rw [hK] at a2
  have hr : (r ++ ([K] ++ [K]))[(r ++ [K]).length]? = some (.list ((ksO es).map AV.int)) := by rw [← List.append_assoc, hK]; exact zO _ _ []
  have lrq : r.length ≤ (r ++ [K]).length := by rw [zP]; exact Nat.le_add_right _ _
  have e1 : zB (zA (some (.bi .sorted))) [(zB (zA (some (.bi .list))) [(z4 2)])] (run T (n + 6)) (FS tq dq hq p none none none none none) (S.hp r) = .ok (.ref ((r ++ [K]).length + 15)) (S.hp (r ++ ([K] ++ [K]))) := by
    rw [← List.append_assoc]
    exact xX (ev1 (xX (ev1 (z3 rfl) ev0) a1) ev0) a2
  generalize hrq : (r ++ [K]).length = rq at hr lrq e1
  generalize hG1 : [K] ++ [K] = G1 at hr e1
  obtain ⟨g2, e2⟩ := Qh X (n := n) V (D.grow G1) (H.grow G1) (zE (l := G1) hd) nd z rg (hq := hq) (p := p) (v5 := some (.ref (rq + 15))) (v6 := none) (v7 := none) (v8 := none) (v9 := none)
  have H2 := (H.grow G1).grow g2
  have e3 := ZQ X (n := n + 5) (S := S) H2 nd z
  rw [hK] at e3
  have e3' : zw [(z6 (z4 1) "numbers" none [])] (run T (n + 6)) (FS tq dq hq p (some (.ref (rq + 15))) none none none none) (S.hp (r ++ G1 ++ g2)) = .ok (.ref ((r ++ G1 ++ g2 ++ [K]).length + 15)) (S.hp (r ++ G1 ++ g2 ++ [K] ++ [.list [.ref ((r ++ G1 ++ g2).length + 15)]])) := yL (ev1 (zF (z3 rfl) (H2.T S) wi ev0 e3) ev0)
  generalize hnq : (r ++ G1 ++ g2).length = nq at e3'
  generalize hlq : (r ++ G1 ++ g2 ++ [K]).length = lq at e3'
  have hn3 : (r ++ G1 ++ g2 ++ [K] ++ [AO.list [.ref (nq + 15)]])[nq]? = some (.list ((ksO es).map AV.int)) := by rw [hK, ← hnq]; exact zE (zO _ _ [])
  have hl3 : (r ++ G1 ++ g2 ++ [K] ++ [AO.list [.ref (nq + 15)]])[lq]? = some (.list [.ref (nq + 15)]) := by rw [← hlq]; exact zO _ _ []
  have hr3 : (r ++ G1 ++ g2 ++ [K] ++ [AO.list [.ref (nq + 15)]])[rq]? = some (.list ((ksO es).map AV.int)) := zE (zE (zE hr))
  have nlq : nq < lq := by rw [← hnq, ← hlq]; exact Nat.lt_of_lt_of_eq (Nat.lt_succ_self _) (zP (bs := [K])).symm
  have rlq : rq < lq := by rw [← hlq]; exact (y8 (zE (l := [K]) (zE (l := g2) hr))).1
  have lnq : r.length ≤ nq := by rw [← hnq, List.append_assoc, zP]; exact Nat.le_add_right _ _
  have H3 := (H2.grow [K]).grow [.list [.ref (nq + 15)]]
  have D3 := (((D.grow G1).grow g2).grow [K]).grow [.list [.ref (nq + 15)]]
  obtain ⟨u7, u8, g5, e5⟩ := WN X (n := n + 1) V D3 H3 (zE (zE (zE (zE hd)))) nd rg hr3 (hq := hq) (p := p) (v5 := some (.ref (rq + 15))) (v6 := some (.ref (lq + 15))) (v7 := none) (v8 := none) (v9 := none)
  have eG : r ++ G1 ++ g2 ++ [K] ++ [AO.list [.ref (nq + 15)]] ++ g5 = r ++ (G1 ++ g2 ++ [K] ++ [AO.list [.ref (nq + 15)]] ++ g5) := by simp only [List.append_assoc]
  have hn5 := zE (l := g5) hn3
  have hl5 := zE (l := g5) hl3
  have hr5 := zE (l := g5) hr3
  rw [eG] at hn5 hl5 hr5 e5
  generalize G1 ++ g2 ++ [K] ++ [AO.list [.ref (nq + 15)]] ++ g5 = G5 at hn5 hl5 hr5 e5
  obtain ⟨u9, G6, as, e6, hr6, hl6, la, ha⟩ := QT X (n := n) (okf := okf) V D H hd nd z rg (hq := hq) (p := p) (G := G5) (Nat.le_trans lnq (Nat.le_of_lt nlq)) hn5 (Ne.symm (Nat.ne_of_lt nlq)) hr5 (Ne.symm (Nat.ne_of_lt rlq)) hl5 (v5 := some (.ref (rq + 15))) (v7 := u7) (v8 := u8) lnq lrq
  obtain ⟨G, ts, e7, lt, ht⟩ := z00 X (n := n) (dq := dq) H hh ne1 ne2 nd z zh (p := p) lrq hr6 hl6 la ha (v7 := u7) (v8 := u8) (v9 := u9)
  refine ⟨G, ts, ?_, lt, ht⟩
  rw [yy X.kBb]
  refine zL (fr := FS tq dq hq p none none none none none) rfl rfl (fr' := FS tq dq hq p (some (.ref (rq + 15))) (some (.ref (lq + 15))) u7 u8 u9) ?_
  refine (z5 (zW (j := 5) e1 (zc rfl))).trans ((z5 ((zH e2).trans zC)).trans ((z5 (zW (j := 6) e3' (zc rfl))).trans ((z5 ((zH (zX (zq (z3 rfl) rfl (xo (show (S.hp (r ++ G1 ++ g2 ++ [K] ++ [AO.list [.ref (nq + 15)]]))[lq + 15]? = _ from hl3) rfl rfl)) (z3 rfl) (ZA (show (S.hp (r ++ G1 ++ g2 ++ [K] ++ [AO.list [.ref (nq + 15)]]))[nq + 15]? = _ from hn3) (show (S.hp (r ++ G1 ++ g2 ++ [K] ++ [AO.list [.ref (nq + 15)]]))[rq + 15]? = _ from hr3)))).trans zC)).trans ((z5 (qp (en := false) (z3 rfl) (qc (show (S.hp (r ++ G1 ++ g2 ++ [K] ++ [AO.list [.ref (nq + 15)]]))[rq + 15]? = _ from hr3)) e5)).trans ((z5 e6).trans e7)))))
end
set_option genInjectivity false
set_option genSizeOf false
structure Ad where
  tq : Nat
  kq : Nat
  dq : Nat
  wq : Nat
abbrev Ad.all (a : Ad) : List Nat := [a.tq, a.kq, a.dq, a.wq]
structure Ro (le k : Nat) (r : Hp) (a : Ad) (m : Nat) (es : Es) : Prop where
  H : Th r a.tq a.kq m (kvO es)
  d : r[a.dq]? = some (.dict (kvO es))
  w : r[a.wq]? = some (.list [.ref (a.tq + 15), .ref (a.dq + 15), .int m])
  nd : (ksO es).Pairwise (· < ·)
  lt : ∀ e ∈ es, e.1 < m
  z : es.length ≤ k
  rg : ∀ e ∈ es, Rg le e.2
theorem Rg.up {m m' : Nat} {p : Int × Int} (h : Rg m p) (l : m ≤ m') : Rg m' p := ⟨⟨h.1.1, Int.lt_of_lt_of_le h.1.2 (Int.ofNat_le.mpr l)⟩, h.2.1, Int.lt_of_lt_of_le h.2.2 (Int.ofNat_le.mpr l)⟩
theorem Ro.keep {le le' k k' : Nat} {r r' : Hp} {a : Ad} {m : Nat} {es : Es} (R : Ro le k r a m es) (hk : ∀ q ∈ a.all, ∀ o, r[q]? = some o → r'[q]? = some o) (l : le ≤ le') (lk : k ≤ k') : Ro le' k' r' a m es :=
  ⟨⟨hk _ (.head _) _ R.H.t, hk _ (.tail _ (.head _)) _ R.H.k⟩, hk _ (.tail _ (.tail _ (.head _))) _ R.d, hk _ (.tail _ (.tail _ (.tail _ (.head _)))) _ R.w, R.nd, R.lt, Nat.le_trans R.z lk, fun e he => (R.rg e he).up l⟩
def prv (pq hq : Nat) (ad : List Ad) : List Nat := pq :: hq :: ad.flatMap Ad.all
theorem xr {pq hq : Nat} {ad : List Ad} {a : Ad} {j q : Nat} (h : ad[j]? = some a) (hq' : q ∈ a.all) : q ∈ prv pq hq ad := .tail _ (.tail _ (List.mem_flatMap.mpr ⟨a, yI h, hq'⟩))
def z2i (S : Sh) (P : List Nat) (r : Hp) (hs : List AV) : Prop := ∀ v ∈ hs, ∃ a b xs, v = .tup [.ref (a + 15), .ref (b + 15)] ∧ (r[a]? = some (.list ((xs : List Int).map AV.int)) ∧ a ∉ S.mv ∧ a ∉ S.cu ∧ a ∉ P) ∧ (r[b]? = some (.list (xs.map AV.int)) ∧ b ∉ S.mv ∧ b ∉ S.cu ∧ b ∉ P)
theorem z2i.keep {S S' : Sh} {P : List Nat} {r r' : Hp} {hs : List AV} (h : z2i S P r hs) (k : ∀ q o, q ∉ S.mv → q ∉ S.cu → q ∉ P → r[q]? = some o → r'[q]? = some o ∧ q ∉ S'.mv ∧ q ∉ S'.cu) : z2i S' P r' hs := fun v hv => by
  obtain ⟨a, b, xs, e, ⟨a1, a2, a3, a4⟩, b1, b2, b3, b4⟩ := h v hv
  obtain ⟨c1, c2, c3⟩ := k a _ a2 a3 a4 a1
  obtain ⟨d1, d2, d3⟩ := k b _ b2 b3 b4 b1
  exact ⟨a, b, xs, e, ⟨c1, c2, c3, a4⟩, d1, d2, d3, b4⟩
structure L10 (hands : Int) (k pq hq : Nat) (ad : List Ad) (cs : List (Nat × Es)) (ye : Nat × List Int) (hs : List AV) (S : Sh) (mvs : List (List (Int × Int))) (cus sg : List (List Int)) (r : Hp) : Prop where
  A : Bs hands 60 k (prv pq hq ad) S mvs cus sg r
  nd : (prv pq hq ad).Nodup
  p : r[pq]? = some (.list (ad.map fun a => .ref (a.wq + 15)))
  h : r[hq]? = some (.list hs)
  ro : ∀ (j : Nat) (a : Ad) (m : Nat) (es : Es), ad[j]? = some a → cs[j]? = some (m, es) → Ro S.le.length k r a m es
  ln : cs.length = ad.length
  hd : z2i S (prv pq hq ad) r hs
  l2 : ad.length ≤ 2
  y : r[ye.1]? = some (.list (ye.2.map AV.int)) ∧ ye.1 ∉ S.mv ∧ ye.1 ∉ S.cu ∧ ye.1 ∉ prv pq hq ad
section
variable {hands : Int} {k k' pq hq : Nat} {ad : List Ad} {cs : List (Nat × Es)} {ye : Nat × List Int} {hs : List AV} {S S' : Sh} {mvs mvs' : List (List (Int × Int))} {cus sg cus' sg' : List (List Int)} {r r' : Hp}
theorem L10.keep (L : L10 hands k pq hq ad cs ye hs S mvs cus sg r) (A : Bs hands 60 k' (prv pq hq ad) S' mvs' cus' sg' r') (lk : k ≤ k') (l : S.le.length ≤ S'.le.length) (kp : ∀ q o, q ∉ S.mv → q ∉ S.cu → r[q]? = some o → r'[q]? = some o ∧ q ∉ S'.mv ∧ q ∉ S'.cu) : L10 hands k' pq hq ad cs ye hs S' mvs' cus' sg' r' := by
  have up : ∀ q ∈ prv pq hq ad, ∀ o, r[q]? = some o → r'[q]? = some o := fun q m o h => (kp q o (L.A.p q m).2.1 (L.A.p q m).2.2 h).1
  exact ⟨A, L.nd, up _ (.head _) _ L.p, up _ (.tail _ (.head _)) _ L.h, fun j a m es h1 h2 => (L.ro j a m es h1 h2).keep (fun q hq' => up q (xr h1 hq')) l lk, L.ln, L.hd.keep fun q o a b _ d => kp q o a b d, L.l2, let c := kp _ _ L.y.2.1 L.y.2.2.1 L.y.1; ⟨c.1, c.2.1, c.2.2, L.y.2.2.2⟩⟩
theorem L10.grow (L : L10 hands k pq hq ad cs ye hs S mvs cus sg r) (g : Hp) : L10 hands k pq hq ad cs ye hs S mvs cus sg (r ++ g) := L.keep (L.A.grow g fun q h => .inl h) (Nat.le_refl _) (Nat.le_refl _) fun q o a b h => ⟨zE h, a, b⟩
theorem L10.next (L : L10 hands k pq hq ad cs ye hs S mvs cus sg r) (A : Bs hands 60 (k + 1) (prv pq hq ad) S' mvs' cus' sg' r') (K : Kps S r S' r') (l : S.le.length ≤ S'.le.length) : L10 hands (k + 1) pq hq ad cs ye hs S' mvs' cus' sg' r' := L.keep A (Nat.le_succ _) l K
theorem L10.up (L : L10 hands k pq hq ad cs ye hs S mvs cus sg r) : L10 hands (k + 1) pq hq ad cs ye hs S mvs cus sg r := L.keep L.A.up (Nat.le_succ _) (Nat.le_refl _) fun q o a b h => ⟨h, a, b⟩
theorem L10.row (L : L10 hands k pq hq ad cs ye hs S mvs cus sg r) {j : Nat} {a : Ad} {m : Nat} {es : Es} (ha : ad[j]? = some a) (A : Bs hands 60 k' (prv pq hq ad) S mvs cus sg r') (lk : k ≤ k') (kp : ∀ q o, q ∉ a.all → r[q]? = some o → r'[q]? = some o) (R : Ro S.le.length k' r' a m es) : L10 hands k' pq hq ad (cs.set j (m, es)) ye hs S mvs cus sg r' := by
  have nd := L.nd
  obtain ⟨n1, nd1⟩ := List.nodup_cons.mp nd
  obtain ⟨n2, nd2⟩ := List.nodup_cons.mp nd1
  have inA : ∀ q ∈ a.all, q ∈ ad.flatMap Ad.all := fun q h => List.mem_flatMap.mpr ⟨a, yI ha, h⟩
  refine ⟨A, nd, kp _ _ (fun h => n1 (.tail _ (inA _ h))) L.p, kp _ _ (fun h => n2 (inA _ h)) L.h, fun i b m' es' h1 h2 => ?_, by rw [List.length_set]; exact L.ln, L.hd.keep fun q o q1 q2 q3 h => ⟨kp q o (fun m => q3 (xr ha m)) h, q1, q2⟩, L.l2, kp _ _ (fun m => L.y.2.2.2 (xr ha m)) L.y.1, L.y.2⟩
  by_cases q : j = i
  · subst q
    rw [ha] at h1; cases h1
    rw [List.getElem?_set_self (by rw [L.ln]; exact (y8 ha).1)] at h2
    cases h2
    exact R
  · rw [List.getElem?_set_ne q] at h2
    refine (L.ro i b m' es' h1 h2).keep (fun x hx o h => kp x o (fun hm => ?_) h) (Nat.le_refl _) lk
    have pw := (List.pairwise_flatMap.mp nd2).2
    rcases Nat.lt_or_gt_of_ne q with lt | lt
    · obtain ⟨x1, y1⟩ := y8 ha
      obtain ⟨x2, y2⟩ := y8 h1
      have := List.pairwise_iff_getElem.mp pw j i x1 x2 lt
      rw [y1, y2] at this
      exact this x hm x hx rfl
    · obtain ⟨x1, y1⟩ := y8 ha
      obtain ⟨x2, y2⟩ := y8 h1
      have := List.pairwise_iff_getElem.mp pw i j x2 x1 lt
      rw [y1, y2] at this
      exact this x hx x hm rfl
theorem L10.held (L : L10 hands k pq hq ad cs ye hs S mvs cus sg r) {ts : List AV} {G : Hp} (ht : ∀ v ∈ ts, ∃ a b xs, v = .tup [.ref (a + 15), .ref (b + 15)] ∧ r.length ≤ a ∧ r.length ≤ b ∧ (r.set hq (.list (hs ++ ts)) ++ G)[a]? = some (.list ((xs : List Int).map AV.int)) ∧ (r.set hq (.list (hs ++ ts)) ++ G)[b]? = some (.list (xs.map AV.int))) :
    L10 hands k pq hq ad cs ye (hs ++ ts) S mvs cus sg (r.set hq (.list (hs ++ ts)) ++ G) := by
  have hm : hq ∈ prv pq hq ad := .tail _ (.head _)
  obtain ⟨n1, nd1⟩ := List.nodup_cons.mp L.nd
  obtain ⟨n2, _⟩ := List.nodup_cons.mp nd1
  have A := (L.A.set hm (.list (hs ++ ts))).grow G (P' := prv pq hq ad) fun q h => .inl h
  have kp : ∀ q o, hq ≠ q → r[q]? = some o → (r.set hq (.list (hs ++ ts)) ++ G)[q]? = some o := fun q o n h => zE (zM n h)
  have new : ∀ {q : Nat}, r.length ≤ q → q ∉ S.mv ∧ q ∉ S.cu ∧ q ∉ prv pq hq ad := fun l => ⟨(L.A.D.ge l).1, (L.A.D.ge l).2, fun m => absurd (L.A.p _ m).1 (Nat.not_lt.mpr l)⟩
  refine ⟨A, L.nd, kp _ _ (fun e => n1 (e ▸ .head _)) L.p, zE (List.getElem?_set_self (L.A.p _ hm).1), fun j a m es h1 h2 => (L.ro j a m es h1 h2).keep (fun q hq' o h => kp q o (fun e => n2 (e ▸ List.mem_flatMap.mpr ⟨a, yI h1, hq'⟩)) h) (Nat.le_refl _) (Nat.le_refl _), L.ln, fun v hv => ?_, L.l2, kp _ _ (fun e => L.y.2.2.2 (e ▸ hm)) L.y.1, L.y.2⟩
  rcases xa hv with hv | hv
  · exact L.hd.keep (S' := S) (fun q o q1 q2 q3 h => ⟨kp q o (fun e => q3 (e ▸ hm)) h, q1, q2⟩) v hv
  · obtain ⟨a, b, xs, e, l1, l2, e1, e2⟩ := ht v hv
    exact ⟨a, b, xs, e, ⟨e1, new l1⟩, e2, new l2⟩
end
abbrev adN (l : Nat) : Ad := ⟨l, l + 1, l + 2, l + 3⟩
abbrev q6 (l : Nat) : Hp := [AO.inst "Threads" (fT (l + 1) 0), AO.dict [], AO.dict [], .list [.ref (l + 15), .ref (l + 2 + 15), .int 0]]
section
variable {T : Tab} {okf : Str → Str → Bool} (X : TT T okf) {n : Nat} {S : Sh} {r : Hp}
include X
theorem Wy : run T (n + 1) (.cls "Threads") [.ref 1] (S.hp r) = .ok (.ref (r.length + 15)) (S.hp (r ++ [AO.inst "Threads" (fT (r.length + 1) 0), AO.dict []])) := by
  rw [Ym X.threads X.kAv]
  have e : yK (kAv okf) (run T n) [.ref (r.length + 15), .ref 1] (S.hp (r ++ [AO.inst "Threads" []])) = .ok .none (S.hp (r ++ [AO.inst "Threads" (fT (r.length + 1) 0), AO.dict []])) := by
    refine zt (fr := [some (.ref (r.length + 15)), some (.ref 1)]) rfl rfl (fr' := [some (.ref (r.length + 15)), some (.ref 1)]) ?_
    have l1 : ∀ o : AO, (r ++ [o]).length = r.length + 1 := fun o => by rw [zP]; rfl
    have s1 : z8 okf (.attr (z4 0) "sheet") (z4 1) (run T n) [some (.ref (r.length + 15)), some (.ref 1)] (S.hp (r ++ [AO.inst "Threads" []])) = .ok .next [some (.ref (r.length + 15)), some (.ref 1)] (S.hp (r ++ [AO.inst "Threads" [("sheet", .ref 1)]])) := by
      rw [yo (a := r.length + 15) (fs := []) (fs' := [("sheet", .ref 1)]) (z3 rfl) (z3 rfl) (show (S.hp (r ++ [AO.inst "Threads" []]))[r.length + 15]? = _ from zO _ _ []) X.kB2 (zc rfl) rfl]
      show OS.ok .next _ (S.hp ((r ++ [AO.inst "Threads" []]).set r.length _)) = _
      rw [qM]
    have s2 : z8 okf (.attr (z4 0) "kept") xm (run T n) [some (.ref (r.length + 15)), some (.ref 1)] (S.hp (r ++ [AO.inst "Threads" [("sheet", .ref 1)]])) = .ok .next [some (.ref (r.length + 15)), some (.ref 1)] (S.hp (r ++ [AO.inst "Threads" [("sheet", .ref 1), ("kept", .ref (r.length + 1 + 15))], AO.dict []])) := by
      rw [yo (a := r.length + 15) (v := .ref ((r ++ [AO.inst "Threads" [("sheet", .ref 1)]]).length + 15)) (h1 := S.hp (r ++ [AO.inst "Threads" [("sheet", .ref 1)]] ++ [AO.dict []])) (fs := [("sheet", .ref 1)]) (fs' := [("sheet", .ref 1), ("kept", .ref (r.length + 1 + 15))]) rfl (z3 rfl) (show (S.hp (r ++ [AO.inst "Threads" [("sheet", .ref 1)]] ++ [AO.dict []]))[r.length + 15]? = _ from zE (zO _ _ [])) X.kB5 (zc rfl) (by rw [l1]; rfl)]
      show OS.ok .next _ (S.hp ((r ++ [AO.inst "Threads" [("sheet", .ref 1)]] ++ [AO.dict []]).set r.length _)) = _
      rw [List.append_assoc]
      show OS.ok .next _ (S.hp ((r ++ AO.inst "Threads" [("sheet", .ref 1)] :: [AO.dict []]).set r.length _)) = _
      rw [qM]
    have s3 : z8 okf (.attr (z4 0) "coming") (z7 (.int 0)) (run T n) [some (.ref (r.length + 15)), some (.ref 1)] (S.hp (r ++ [AO.inst "Threads" [("sheet", .ref 1), ("kept", .ref (r.length + 1 + 15))], AO.dict []])) = .ok .next [some (.ref (r.length + 15)), some (.ref 1)] (S.hp (r ++ [AO.inst "Threads" (fT (r.length + 1) 0), AO.dict []])) := by
      rw [yo (a := r.length + 15) (v := .int 0) (fs := [("sheet", .ref 1), ("kept", .ref (r.length + 1 + 15))]) (fs' := fT (r.length + 1) 0) rfl (z3 rfl) (show (S.hp (r ++ [AO.inst "Threads" [("sheet", .ref 1), ("kept", .ref (r.length + 1 + 15))], AO.dict []]))[r.length + 15]? = _ from zO _ _ _) X.kBs (zc rfl) rfl]
      show OS.ok .next _ (S.hp ((r ++ [AO.inst "Threads" [("sheet", .ref 1), ("kept", .ref (r.length + 1 + 15))], AO.dict []]).set r.length _)) = _
      rw [qM]
    exact (z5 s1).trans ((z5 s2).trans ((z5 s3).trans zC))
  show Out.bind0 (yK (kAv okf) (run T n) [.ref (r.length + 15), .ref 1] (S.hp (r ++ [AO.inst "Threads" []]))) _ = _
  rw [e]; rfl
theorem W7 {fr : AFr} (f3 : fr[3]? = some (some (.ref 1))) : zw [(zB (zA (some (.cls "Threads"))) [(z4 3)]), xm, (z7 (.int 0))] (run T (n + 1)) fr (S.hp r) = .ok (.ref (r.length + 3 + 15)) (S.hp (r ++ q6 r.length)) := by
  have e := yL (ev1 (JX (cf := run T (n + 1)) (ev1 (z3 f3) ev0) (Wy X (n := n) (S := S) (r := r))) (ev1 (x := xm) (cf := run T (n + 1)) (fr := fr) (v := .ref ((r ++ [AO.inst "Threads" (fT (r.length + 1) 0), AO.dict []]).length + 15)) (h1 := S.hp (r ++ [AO.inst "Threads" (fT (r.length + 1) 0), AO.dict []] ++ [AO.dict []])) rfl (ev1 (x := z7 (.int 0)) rfl ev0)))
  have l2 : (r ++ [AO.inst "Threads" (fT (r.length + 1) 0), AO.dict []]).length = r.length + 2 := by rw [zP]; rfl
  have l3 : (S.hp (r ++ [AO.inst "Threads" (fT (r.length + 1) 0), AO.dict []] ++ [AO.dict []])).length = r.length + 3 + 15 := by
    show (r ++ [AO.inst "Threads" (fT (r.length + 1) 0), AO.dict []] ++ [AO.dict []]).length + 15 = _
    rw [zP, l2]; rfl
  rw [l2, l3] at e
  rw [e]
  show Out.ok _ (S.hp (r ++ [AO.inst "Threads" (fT (r.length + 1) 0), AO.dict []] ++ [AO.dict []] ++ [_])) = _
  rw [List.append_assoc, List.append_assoc]; rfl
end
section
variable {hands : Int} {k pq hq : Nat} {ad : List Ad} {cs : List (Nat × Es)} {ye : Nat × List Int} {hs : List AV} {S : Sh} {mvs : List (List (Int × Int))} {cus sg : List (List Int)} {r : Hp}
theorem Ro.new (le k : Nat) (r : Hp) : Ro le k (r ++ q6 r.length) (adN r.length) 0 [] :=
  ⟨⟨zO _ _ _, xJ _ _ 1⟩, xJ _ _ 2, xJ _ _ 3, List.Pairwise.nil, fun _ h => (nomatch h), Nat.zero_le _, fun _ h => (nomatch h)⟩
theorem L10.add (L : L10 hands k pq hq ad cs ye hs S mvs cus sg r) (l1 : ad.length ≤ 1) : L10 hands k pq hq (ad ++ [adN r.length]) (cs ++ [(0, [])]) ye hs S mvs cus sg ((r ++ q6 r.length).set pq (.list (ad.map (fun a => AV.ref (a.wq + 15)) ++ [.ref (r.length + 3 + 15)]))) := by
  have old : ∀ q ∈ prv pq hq ad, q < r.length := fun q h => (L.A.p q h).1
  have eP : prv pq hq (ad ++ [adN r.length]) = prv pq hq ad ++ (adN r.length).all := by unfold prv; rw [List.flatMap_append]; rfl
  have newQ : ∀ q ∈ (adN r.length).all, r.length ≤ q ∧ q < (r ++ q6 r.length).length := fun q h => by
    have l4 : (r ++ q6 r.length).length = r.length + 4 := by rw [zP]; rfl
    rw [l4]
    rcases List.mem_cons.mp h with rfl | h
    · exact ⟨Nat.le_refl _, Nat.lt_add_of_pos_right (by decide)⟩
    rcases List.mem_cons.mp h with rfl | h
    · exact ⟨Nat.le_add_right _ _, Nat.add_lt_add_left (by decide) _⟩
    rcases List.mem_cons.mp h with rfl | h
    · exact ⟨Nat.le_add_right _ _, Nat.add_lt_add_left (by decide) _⟩
    · rw [xD h]; exact ⟨Nat.le_add_right _ _, Nat.add_lt_add_left (by decide) _⟩
  have hp : pq ∈ prv pq hq ad := .head _
  have nep : ∀ {q : Nat}, r.length ≤ q → pq ≠ q := fun l => Nat.ne_of_lt (Nat.lt_of_lt_of_le (old pq hp) l)
  have A := (L.A.grow (q6 r.length) (P' := prv pq hq (ad ++ [adN r.length])) fun q h => by
    rw [eP] at h
    rcases xa h with h | h
    · exact .inl h
    · exact .inr (newQ q h)).set (j := pq) (.head _) (.list (ad.map (fun a => AV.ref (a.wq + 15)) ++ [.ref (r.length + 3 + 15)]))
  obtain ⟨n1, nd1⟩ := List.nodup_cons.mp L.nd
  have kp : ∀ q o, pq ≠ q → r[q]? = some o → ((r ++ q6 r.length).set pq (.list (ad.map (fun a => AV.ref (a.wq + 15)) ++ [.ref (r.length + 3 + 15)])))[q]? = some o := fun q o n h => zM n (zE h)
  have np : ∀ {q : Nat} {o : AO}, r[q]? = some o → q ∉ prv pq hq ad → q ∉ prv pq hq (ad ++ [adN r.length]) := fun h n hm => by
    rw [eP] at hm
    rcases xa hm with hm | hm
    · exact n hm
    · exact absurd (y8 h).1 (Nat.not_lt.mpr (newQ _ hm).1)
  refine ⟨A, ?_, ?_, kp _ _ (fun e => n1 (e ▸ .head _)) L.h, fun j a m es h1 h2 => ?_, by rw [zP, zP, L.ln]; rfl, ?_, by rw [zP]; exact Nat.succ_le_succ l1, kp _ _ (fun e => L.y.2.2.2 (e ▸ hp)) L.y.1, L.y.2.1, L.y.2.2.1, np L.y.1 L.y.2.2.2⟩
  · rw [eP, List.nodup_append]
    refine ⟨L.nd, ?_, fun x hx y hy e => absurd (old x hx) (Nat.not_lt.mpr (e ▸ (newQ y hy).1))⟩
    have d : ∀ {i j : Nat}, i < j → r.length + i ≠ r.length + j := fun h => Nat.ne_of_lt (Nat.add_lt_add_left h _)
    refine List.nodup_cons.mpr ⟨fun h => ?_, List.nodup_cons.mpr ⟨fun h => ?_, List.nodup_cons.mpr ⟨fun h => ?_, List.nodup_cons.mpr ⟨List.not_mem_nil, List.nodup_nil⟩⟩⟩⟩
    · rcases List.mem_cons.mp h with h | h
      · exact d (i := 0) (j := 1) (by decide) h
      rcases List.mem_cons.mp h with h | h
      · exact d (i := 0) (j := 2) (by decide) h
      · exact d (i := 0) (j := 3) (by decide) (xD h)
    · rcases List.mem_cons.mp h with h | h
      · exact d (i := 1) (j := 2) (by decide) h
      · exact d (i := 1) (j := 3) (by decide) (xD h)
    · exact d (i := 2) (j := 3) (by decide) (xD h)
  · rw [List.getElem?_set_self (by rw [zP]; exact Nat.lt_of_lt_of_le (old pq hp) (Nat.le_add_right _ _)), List.map_append]; rfl
  · by_cases q : j < ad.length
    · rw [List.getElem?_append_left q] at h1
      rw [List.getElem?_append_left (by rw [L.ln]; exact q)] at h2
      exact (L.ro j a m es h1 h2).keep (fun x hx o h => kp x o (fun e => n1 (e ▸ .tail _ (List.mem_flatMap.mpr ⟨a, yI h1, hx⟩))) h) (Nat.le_refl _) (Nat.le_refl _)
    · rcases ZH h1 with h1 | ⟨h1, rfl⟩
      · exact absurd (y8 h1).1 q
      · rcases ZH h2 with h2 | ⟨_, h2⟩
        · exact absurd (by rw [← L.ln]; exact (y8 h2).1) q
        · cases h2
          exact (Ro.new _ _ _).keep (fun x hx o h => zM (nep (newQ x hx).1) h) (Nat.le_refl _) (Nat.le_refl _)
  · intro v hv
    obtain ⟨a, b, xs, e, ⟨a1, a2, a3, a4⟩, b1, b2, b3, b4⟩ := L.hd v hv
    exact ⟨a, b, xs, e, ⟨kp _ _ (fun e => a4 (e ▸ hp)) a1, a2, a3, np a1 a4⟩, kp _ _ (fun e => b4 (e ▸ hp)) b1, b2, b3, np b1 b4⟩
end
abbrev F10 (sc v1 : AV) (hn : Int) (pq hq : Nat) (v6 v7 v8 v9 v10 v11 v12 v13 v14 v15 v16 v17 v18 : Option AV) : AFr := [some sc, some v1, some (.int hn), some (.ref 1), some (.ref (pq + 15)), some (.ref (hq + 15)), v6, v7, v8, v9, v10, v11, v12, v13, v14, v15, v16, v17, v18]
theorem Qa {es : Es} {i : Int} : (kvO es).filter (fun x => !decide (x.1 = i)) = kvO (es.filter fun e => !decide (e.1 = i)) := by
  unfold kvO; rw [List.filter_map]; rfl
theorem Jw {es : Es} {i : Int} (h : ∀ e ∈ es, e.1 ≠ i) : yr (kvO es) i = none := Wn (by
  rw [List.any_eq_false]
  intro x hx
  obtain ⟨e, he, rfl⟩ := List.mem_map.mp hx
  rw [decide_eq_true_iff]; exact h e he)
theorem z1x {es : Es} {m : Nat} {p : Int × Int} (lt : ∀ e ∈ es, e.1 < m) : jY (kvO es) m (prV p) = kvO (es ++ [((m : Int), p)]) := by
  unfold jY
  rw [if_neg]
  · unfold kvO; rw [List.map_append]; rfl
  · rw [Bool.not_eq_true, List.any_eq_false]
    intro x hx
    obtain ⟨e, he, rfl⟩ := List.mem_map.mp hx
    rw [decide_eq_true_iff]; exact Int.ne_of_lt (lt e he)
theorem Jh {h : Hp} {a b : Nat} {kvs : List (Int × AV)} (e : h[a]? = some (.dict kvs)) (e' : h[b]? = some (.dict [])) : yU .NotEq (.ref a) (.ref b) h = some (!kvs.isEmpty) := by
  have q : neD h (.ref a) (.ref b) = some (!kvs.isEmpty) := by
    show (zv h a).bind (fun kvs => (zv h b).bind fun k2 => if k2.isEmpty = true then some (!kvs.isEmpty) else none) = _
    rw [jX e, jX e']; rfl
  show (match neD h (.ref a) (.ref b) with
    | some r => some r
    | none => _) = _
  rw [q]
section
variable {T : Tab} {okf : Str → Str → Bool} (X : TT T okf) {n : Nat} {hands : Int} {k pq hq : Nat} {ad : List Ad} {cs : List (Nat × Es)} {ye : Nat × List Int} {hs : List AV} {S : Sh} {mvs : List (List (Int × Int))} {cus sg : List (List Int)} {r : Hp} {sc v1 : AV} {num mo : Int} {v6 v7 v8 v12 v13 v14 v15 v16 v17 v18 : Option AV} {j : Nat} {a : Ad} {m : Nat} {es : Es}
include X
theorem brA (L : L10 hands k pq hq ad cs ye hs S mvs cus sg r) (hk : k < 190) (d0 : S.dn.length ≠ 0) {v10 v11 : Option AV} :
    ∃ S' r', z9 [(zG (zB (zA (some (.fn "_law_turned"))) [(z4 3), (zI .Mod (z4 9) (z6 (z4 3) "deeds" none []))]))] (run T (n + 6)) (F10 sc v1 hands pq hq v6 v7 v8 (some (.int mo)) v10 v11 v12 v13 v14 v15 v16 v17 v18) (S.hp r) = .ok .next (F10 sc v1 hands pq hq v6 v7 v8 (some (.int mo)) v10 v11 v12 v13 v14 v15 v16 v17 v18) (Sh.hp S' r') ∧ L10 hands (k + 1) pq hq ad cs ye hs S' mvs cus sg r' := by
  have c0 : (0 : Int) < (S.dn.length : Nat) := Int.ofNat_lt.mpr (Nat.pos_of_ne_zero d0)
  have f0 := Int.fmod_nonneg_of_pos mo c0
  have f1 := Int.fmod_lt_of_pos mo c0
  obtain ⟨S', r', e, B, K, l⟩ := z0z X (n := n) L.A (Nat.lt_trans hk (by decide)) (d := (mo.fmod S.dn.length).toNat) ((Int.toNat_lt f0).mpr f1) (by rw [L.A.V.I.st]; exact Nat.lt_of_le_of_lt L.A.bn (Nat.lt_trans hk (by decide)))
  rw [Int.toNat_of_nonneg f0] at e
  refine ⟨S', r', (z5 (zU (zg (ev1 (z3 rfl) (ev1 (zf (z3 rfl) (zF (a := 1) (z3 rfl) rfl Xg ev0 (z07 X (n := n + 5))) (yR.trans (if_neg fun q => d0 (Int.ofNat.inj q)))) ev0)) e))).trans zC, L.next B K (Nat.le_of_eq l.symm)⟩
theorem brB (L : L10 hands k pq hq ad cs ye hs S mvs cus sg r) (hk : k < 60) (ha : ad[j]? = some a) (hc : cs[j]? = some (m, es)) (hne : es ≠ []) :
    ∃ i es' r', z9 [(z8 okf (.names (.one 12)) (zR (zB (zA (some (.bi .sorted))) [(zB (zA (some (.bi .list))) [(z4 11)])]) (zI .Mod (zI .FloorDiv (z4 9) (z7 (.int 5))) (zB (zA (some (.bi .len))) [(z4 11)])))),
      (zG (z6 (z4 11) "pop" (some .pop) [(z4 12)])),
      (sIf (zT .Or [(zN (z6 (zR (z4 10) (z7 (.int 0))) "drop" none [(z4 12)]) [.IsNot] [(z7 .none)]), (yA (zp (zB (zA (some (.fn "_law_is_gone"))) [(zR (z4 10) (z7 (.int 0))), (z4 12)])))]) (z9 [(zV (z7 (.bool false)))]) (z9 []))] (run T (n + 6)) (F10 sc v1 hands pq hq v6 v7 v8 (some (.int mo)) (some (.ref (a.wq + 15))) (some (.ref (a.dq + 15))) v12 v13 v14 v15 v16 v17 v18) (S.hp r) = .ok .next (F10 sc v1 hands pq hq v6 v7 v8 (some (.int mo)) (some (.ref (a.wq + 15))) (some (.ref (a.dq + 15))) (some (.int i)) v13 v14 v15 v16 v17 v18) (S.hp r') ∧ L10 hands (k + 1) pq hq ad (cs.set j (m, es')) ye hs S mvs cus sg r' := by
  have R := L.ro j a m es ha hc
  have z64 : es.length < 64 := Nat.lt_of_le_of_lt R.z (Nat.lt_trans hk (by decide))
  have le0 : es.length ≠ 0 := fun h => hne (List.length_eq_zero_iff.mp h)
  have c0 : (0 : Int) < (es.length : Nat) := Int.ofNat_lt.mpr (Nat.pos_of_ne_zero le0)
  have f0 := Int.fmod_nonneg_of_pos (mo.fdiv 5) c0
  have f1 := Int.fmod_lt_of_pos (mo.fdiv 5) c0
  have lk : (ksO es).length = es.length := by unfold ksO; rw [List.length_map]
  have hi : ((mo.fdiv 5).fmod es.length).toNat < es.length := (Int.toNat_lt f0).mpr f1
  generalize hx : (mo.fdiv 5).fmod es.length = x at f0 f1 hi
  have he := List.getElem_mem hi
  generalize hel : es[x.toNat] = e0 at he
  have hk0 : (ksO es)[x.toNat]? = some e0.1 := by unfold ksO; rw [List.getElem?_map, y9 hi, hel]; rfl
  have nd4 : a.all.Nodup := (List.pairwise_flatMap.mp (List.nodup_cons.mp (List.nodup_cons.mp L.nd).2).2).1 a (yI ha)
  obtain ⟨t1, nd3⟩ := List.nodup_cons.mp nd4
  obtain ⟨t2, nd2⟩ := List.nodup_cons.mp nd3
  obtain ⟨t3, _⟩ := List.nodup_cons.mp nd2
  have dt : a.dq ≠ a.tq := fun e => t1 (e ▸ .tail _ (.head _))
  have kt : a.kq ≠ a.tq := fun e => t1 (e ▸ .head _)
  have dk : a.dq ≠ a.kq := fun e => t2 (e ▸ .head _)
  have kw : a.kq ≠ a.wq := fun e => t2 (e ▸ .tail _ (.head _))
  have dw : a.dq ≠ a.wq := fun e => t3 (e ▸ .head _)
  generalize hK : AO.list ((ksO es).map AV.int) = K
  have a1 := Zq (show (S.hp r)[a.dq + 15]? = _ from R.d)
  rw [wD, hK] at a1
  have a2 := Zp (h := S.hp (r ++ [K])) (a := r.length + 15) (is := ksO es) (by rw [hK]; exact zO _ _ []) (by rw [lk]; exact z64) (R.nd.imp Int.le_of_lt)
  rw [hK] at a2
  have L1 := (L.grow [K]).grow [K]
  have R1 := L1.ro j a m es ha hc
  have hq1 : (S.hp (r ++ [K] ++ [K]))[(r ++ [K]).length + 15]? = some (.list ((ksO es).map AV.int)) := by rw [hK]; exact zO _ _ []
  have eln : zB (zA (some (.bi .len))) [(z4 11)] (run T (n + 6)) (F10 sc v1 hands pq hq v6 v7 v8 (some (.int mo)) (some (.ref (a.wq + 15))) (some (.ref (a.dq + 15))) v12 v13 v14 v15 v16 v17 v18) (S.hp (r ++ [K] ++ [K])) = .ok (.int (es.length : Nat)) (S.hp (r ++ [K] ++ [K])) := by
    refine xX (ev1 (z3 rfl) ev0) ?_
    rw [wu, wM, show (S.hp (r ++ [K] ++ [K]))[a.dq + 15]? = _ from R1.d]
    show Out.ok (AV.int ((kvO es).length : Nat)) _ = _
    unfold kvO; rw [List.length_map]
  have e1 := zq (xX (ev1 (xX (ev1 (z3 (i := 11) (cf := run T (n + 6)) (fr := F10 sc v1 hands pq hq v6 v7 v8 (some (.int mo)) (some (.ref (a.wq + 15))) (some (.ref (a.dq + 15))) v12 v13 v14 v15 v16 v17 v18) (h := S.hp r) rfl) ev0) a1) ev0) a2) (zf (op := .Mod) (zf (op := .FloorDiv) (z3 (i := 9) rfl) (y := z7 (.int 5)) rfl (qI.trans (if_pos (by decide)))) eln (yR.trans (if_neg fun q => le0 (Int.ofNat.inj q)))) (xo (v := .int e0.1) hq1 (by rw [hx]; exact yv.mpr ⟨f0, Int.lt_trans f1 (by have := z64; lia)⟩) (by rw [hx, List.getElem?_map, hk0]; rfl))
  have hg := jD R.nd he
  generalize hes : es.filter (fun e => !decide (e.1 = e0.1)) = es'
  have ef : (kvO es).filter (fun x => !decide (x.1 = e0.1)) = kvO es' := by rw [Qa, hes]
  have p1 := W8 (show (S.hp (r ++ [K] ++ [K]))[a.dq + 15]? = _ from R1.d) hg
  rw [ef] at p1
  have ld := (y8 R1.d).1
  have lkq := (y8 R1.H.k).1
  have H2 : Th ((r ++ [K] ++ [K]).set a.dq (.dict (kvO es'))) a.tq a.kq m (kvO es) := ⟨zM dt R1.H.t, zM dk R1.H.k⟩
  have w2 : ((r ++ [K] ++ [K]).set a.dq (.dict (kvO es')))[a.wq]? = some (.list [.ref (a.tq + 15), .ref (a.dq + 15), .int m]) := zM dw R1.w
  have e2 := zE8 X (n := n + 3) (S := S) H2 hg
  rw [ef] at e2
  have H3 : Th (((r ++ [K] ++ [K]).set a.dq (.dict (kvO es'))).set a.kq (.dict (kvO es'))) a.tq a.kq m (kvO es') := ⟨zM kt H2.t, List.getElem?_set_self (by rw [List.length_set]; exact lkq)⟩
  have w3 : (((r ++ [K] ++ [K]).set a.dq (.dict (kvO es'))).set a.kq (.dict (kvO es')))[a.wq]? = some (.list [.ref (a.tq + 15), .ref (a.dq + 15), .int m]) := zM kw w2
  have sub : ∀ e ∈ es', e ∈ es ∧ e.1 ≠ e0.1 := fun e h => by
    rw [← hes] at h
    obtain ⟨h1, h2⟩ := List.mem_filter.mp h
    exact ⟨h1, fun q => by rw [decide_eq_true q] at h2; exact nob h2⟩
  have e3 := Jx X (n := n + 2) (S := S) H3 (i := e0.1) (Jw fun e h => (sub e h).2)
  refine ⟨e0.1, es', ((r ++ [K] ++ [K]).set a.dq (.dict (kvO es'))).set a.kq (.dict (kvO es')), ?_, ?_⟩
  · refine (z5 (zW (j := 12) e1 (zc rfl))).trans ((z5 (zU (z2m (z3 rfl) (show (S.hp (r ++ [K] ++ [K]))[a.dq + 15]? = _ from R1.d) (ev1 (z3 rfl) ev0) p1))).trans ((z5 ((zH (x7 (zX (v := .none) (w := .none) (zF (zq (z3 rfl) rfl (xo (show (S.hp ((r ++ [K] ++ [K]).set a.dq (.dict (kvO es'))))[a.wq + 15]? = _ from w2) rfl rfl)) (show (S.hp ((r ++ [K] ++ [K]).set a.dq (.dict (kvO es'))))[a.tq + 15]? = _ from H2.t) W9 (ev1 (z3 rfl) ev0) e2) rfl rfl) (x7 (zu (b := true) (yX (v := .bool true) (zg (ev1 (zq (z3 rfl) rfl (xo (show (S.hp (((r ++ [K] ++ [K]).set a.dq (.dict (kvO es'))).set a.kq (.dict (kvO es'))))[a.wq + 15]? = _ from w3) rfl rfl)) (ev1 (z3 rfl) ev0)) e3) rfl)) qN))).trans zC)).trans zC))
  · refine L1.row ha ((L1.A.up.set (xr ha (.tail _ (.tail _ (.head _)))) _).set (xr ha (.tail _ (.head _))) _) (Nat.le_succ _) (fun q o hq' h => zM (fun e => hq' (e ▸ .tail _ (.head _))) (zM (fun e => hq' (e ▸ .tail _ (.tail _ (.head _)))) h)) ⟨H3, zM (Ne.symm dk) (List.getElem?_set_self ld), w3, ?_, fun e h => R.lt e (sub e h).1, ?_, fun e h => R.rg e (sub e h).1⟩
    · have := R.nd
      unfold ksO at this ⊢
      rw [← hes]
      exact List.Pairwise.sublist ((List.filter_sublist).map _) this
    · rw [← hes]; exact Nat.le_trans (List.length_filter_le _ _) (Nat.le_succ_of_le R.z)
end
theorem Ok1.sgn {S : Sh} (O : Ok1 S) {p : Int} (h0 : 0 ≤ p) (h1 : p < S.sh.length) : 0 ≤ S.sgn p ∧ S.sgn p < S.le.length := by
  have hl := wv h0 h1
  unfold Sh.sgn
  rw [y9 hl]
  exact O.sh_mem (List.getElem_mem hl)
theorem Ad.ne {a : Ad} (h : a.all.Nodup) : a.kq ≠ a.tq ∧ a.dq ≠ a.tq ∧ a.wq ≠ a.tq ∧ a.dq ≠ a.kq ∧ a.wq ≠ a.kq ∧ a.wq ≠ a.dq := by
  obtain ⟨t1, nd3⟩ := List.nodup_cons.mp h
  obtain ⟨t2, nd2⟩ := List.nodup_cons.mp nd3
  obtain ⟨t3, _⟩ := List.nodup_cons.mp nd2
  exact ⟨fun e => t1 (e ▸ .head _), fun e => t1 (e ▸ .tail _ (.head _)), fun e => t1 (e ▸ .tail _ (.tail _ (.head _))), fun e => t2 (e ▸ .head _), fun e => t2 (e ▸ .tail _ (.head _)), fun e => t3 (e ▸ .head _)⟩
theorem z28 {b c x : Int} (b1 : b < c) (x0 : 0 ≤ x) (x1 : x < c - b) : b < b + 1 + x ∧ b + 1 + x ≤ c := by lia
section
variable {T : Tab} {okf : Str → Str → Bool} (X : TT T okf) {n : Nat} {hands : Int} {k pq hq : Nat} {ad : List Ad} {cs : List (Nat × Es)} {ye : Nat × List Int} {hs : List AV} {S : Sh} {mvs : List (List (Int × Int))} {cus sg : List (List Int)} {r : Hp} {sc v1 : AV} {mo : Int} {v6 v7 v8 v12 v13 v14 v15 v16 v17 v18 : Option AV} {j : Nat} {a : Ad} {m : Nat} {es : Es}
include X
theorem brC (L : L10 hands k pq hq ad cs ye hs S mvs cus sg r) (hk : k < 60) (ha : ad[j]? = some a) (hc : cs[j]? = some (m, es)) (s0 : S.b.countP id ≠ 0) :
    ∃ u13 u14 u15 m' es' r', z9 [(z8 okf (.names (.one 13)) (zI .Mod (zI .FloorDiv (z4 9) (z7 (.int 5))) (z6 (z4 3) "size" none []))),
      (z8 okf (.names (.one 14)) (zI .Add (zI .Add (z4 13) (z7 (.int 1))) (zI .Mod (zI .FloorDiv (z4 9) (z7 (.int 997))) (zI .Sub (z6 (z4 3) "size" none []) (z4 13))))),
      (z8 okf (.item (z4 11) (zR (z4 10) (z7 (.int 2)))) (yZ [(z6 (z4 3) "sign_at" none [(z4 13)]), (z6 (z4 3) "sign_at" none [(zI .Sub (z4 14) (z7 (.int 1)))])])),
      (z8 okf (.names (.one 15)) (z6 (zR (z4 10) (z7 (.int 0))) "tie" none [(z4 13), (z4 14)])),
      (sIf (zT .Or [(yA (zp (zB (zA (some (.fn "_law_whole"))) [(z4 15)]))), (zN (z4 15) [.NotEq] [(zR (z4 10) (z7 (.int 2)))])]) (z9 [(zV (z7 (.bool false)))]) (z9 [])),
      (z8 okf (.item (z4 10) (z7 (.int 2))) (zI .Add (zR (z4 10) (z7 (.int 2))) (z7 (.int 1))))] (run T (n + 6)) (F10 sc v1 hands pq hq v6 v7 v8 (some (.int mo)) (some (.ref (a.wq + 15))) (some (.ref (a.dq + 15))) v12 v13 v14 v15 v16 v17 v18) (S.hp r) = .ok .next (F10 sc v1 hands pq hq v6 v7 v8 (some (.int mo)) (some (.ref (a.wq + 15))) (some (.ref (a.dq + 15))) v12 u13 u14 u15 v16 v17 v18) (S.hp r') ∧ L10 hands (k + 1) pq hq ad (cs.set j (m', es')) ye hs S mvs cus sg r' := by
  have R := L.ro j a m es ha hc
  have I := L.A.V.I
  have lc : (S.sh.length : Int) = (S.b.countP id : Nat) := by rw [I.O.tkl.1, I.O.G.count]
  have c0 : (0 : Int) < (S.b.countP id : Nat) := Int.ofNat_lt.mpr (Nat.pos_of_ne_zero s0)
  have f0 := Int.fmod_nonneg_of_pos (mo.fdiv 5) c0
  have f1 := Int.fmod_lt_of_pos (mo.fdiv 5) c0
  generalize hb : (mo.fdiv 5).fmod (S.b.countP id : Nat) = b at f0 f1
  have d0 : (0 : Int) < (S.b.countP id : Nat) - b := Int.sub_pos_of_lt f1
  have g0 := Int.fmod_nonneg_of_pos (mo.fdiv 997) d0
  have g1 := Int.fmod_lt_of_pos (mo.fdiv 997) d0
  obtain ⟨e0, e1⟩ := z28 f1 g0 g1
  generalize he : b + 1 + (mo.fdiv 997).fmod ((S.b.countP id : Nat) - b) = e at e0 e1
  have l0 : 0 ≤ e - 1 := Int.le_sub_one_of_lt (Int.lt_of_le_of_lt f0 e0)
  have l1 : e - 1 < S.sh.length := by rw [lc]; exact Int.lt_of_lt_of_le (Int.sub_lt_self e (by decide)) e1
  obtain ⟨h1, x1⟩ := qz X (n := n + 2) (r := r) I f0 (by rw [lc]; exact f1)
  obtain ⟨h2, x2⟩ := qz X (n := n + 2) (r := r ++ h1) I l0 l1
  have L1 := (L.grow h1).grow h2
  have R1 := L1.ro j a m es ha hc
  have nd4 : a.all.Nodup := (List.pairwise_flatMap.mp (List.nodup_cons.mp (List.nodup_cons.mp L.nd).2).2).1 a (yI ha)
  obtain ⟨kt, dt, wt, dk, wk, wd⟩ := Ad.ne nd4
  have mt : a.tq ∈ prv pq hq ad := xr ha (.head _)
  have mk : a.kq ∈ prv pq hq ad := xr ha (.tail _ (.head _))
  have md : a.dq ∈ prv pq hq ad := xr ha (.tail _ (.tail _ (.head _)))
  have mw : a.wq ∈ prv pq hq ad := xr ha (.tail _ (.tail _ (.tail _ (.head _))))
  have ld := (y8 R1.d).1
  have zk : (kvO es).length < small := by unfold kvO; rw [List.length_map]; exact Nat.lt_trans (Nat.lt_of_le_of_lt R.z hk) (by decide)
  have ea := z1x (p := (S.sgn b, S.sgn (e - 1))) R.lt
  generalize hes : es ++ [((m : Int), S.sgn b, S.sgn (e - 1))] = es' at ea
  have st := XV (h := S.hp (r ++ h1 ++ h2)) (a := a.dq + 15) (i := (m : Int)) (v := prV (S.sgn b, S.sgn (e - 1))) R1.d zk
  rw [ea] at st
  have A2 := L1.A.set md (.dict (kvO es'))
  have H2 : Th ((r ++ h1 ++ h2).set a.dq (.dict (kvO es'))) a.tq a.kq m (kvO es) := ⟨zM dt R1.H.t, zM dk R1.H.k⟩
  have w2 : ((r ++ h1 ++ h2).set a.dq (.dict (kvO es')))[a.wq]? = some (.list [.ref (a.tq + 15), .ref (a.dq + 15), .int m]) := zM (Ne.symm wd) R1.w
  have d2 : ((r ++ h1 ++ h2).set a.dq (.dict (kvO es')))[a.dq]? = some (.dict (kvO es')) := List.getElem?_set_self ld
  obtain ⟨h3, x3⟩ := zEi X (n := n) A2 H2 mt mk (Ne.symm kt) zk f0 e0 e1
  rw [ea] at x3
  have kp2 : ∀ q o, q ∉ a.all → (r ++ h1 ++ h2)[q]? = some o → ((r ++ h1 ++ h2).set a.dq (.dict (kvO es')))[q]? = some o := fun q o hq' h => zM (fun e => hq' (e ▸ .tail _ (.tail _ (.head _)))) h
  have st' : xz (S.hp (r ++ h1 ++ h2)) (.ref (a.dq + 15)) (.int m) (prV (S.sgn b, S.sgn (e - 1))) = some (S.hp ((r ++ h1 ++ h2).set a.dq (.dict (kvO es')))) := st
  generalize (r ++ h1 ++ h2).set a.dq (.dict (kvO es')) = r2 at A2 H2 w2 d2 x3 st' kp2
  have A3 := ((A2.set mt (.inst "Threads" (fT a.kq ((m : Int) + 1)))).grow h3 (P' := prv pq hq ad) fun q h => .inl h).set mk (.dict (kvO es'))
  have lt2 := (A2.p _ mt).1
  have lk2 := ((A2.set mt (.inst "Threads" (fT a.kq ((m : Int) + 1)))).grow h3 (P' := prv pq hq ad) fun q h => .inl h).p _ mk
  have H3 : Th ((r2.set a.tq (.inst "Threads" (fT a.kq ((m : Int) + 1))) ++ h3).set a.kq (.dict (kvO es'))) a.tq a.kq ((m : Int) + 1) (kvO es') := ⟨zM kt (zE (List.getElem?_set_self lt2)), List.getElem?_set_self lk2.1⟩
  have w3 : ((r2.set a.tq (.inst "Threads" (fT a.kq ((m : Int) + 1))) ++ h3).set a.kq (.dict (kvO es')))[a.wq]? = some (.list [.ref (a.tq + 15), .ref (a.dq + 15), .int m]) := zM (Ne.symm wk) (zE (zM (Ne.symm wt) w2))
  have d3 : ((r2.set a.tq (.inst "Threads" (fT a.kq ((m : Int) + 1))) ++ h3).set a.kq (.dict (kvO es')))[a.dq]? = some (.dict (kvO es')) := zM (Ne.symm dk) (zE (zM (Ne.symm dt) d2))
  have kp3 : ∀ q o, q ∉ a.all → r2[q]? = some o → ((r2.set a.tq (.inst "Threads" (fT a.kq ((m : Int) + 1))) ++ h3).set a.kq (.dict (kvO es')))[q]? = some o := fun q o hq' h => zM (fun e => hq' (e ▸ .tail _ (.head _))) (zE (zM (fun e => hq' (e ▸ .head _)) h))
  generalize (r2.set a.tq (.inst "Threads" (fT a.kq ((m : Int) + 1))) ++ h3).set a.kq (.dict (kvO es')) = r3 at A3 H3 w3 d3 kp3 x3
  have lw3 := (A3.p _ mw).1
  have st4 : xz (S.hp r3) (.ref (a.wq + 15)) (.int 2) (.int ((m : Int) + 1)) = some (S.hp (r3.set a.wq (.list [.ref (a.tq + 15), .ref (a.dq + 15), .int ((m : Int) + 1)]))) := by
    rw [Z5, show (S.hp r3)[a.wq + 15]? = _ from w3]
    exact if_pos ⟨by decide, show (2 : Int) < 3 by decide, Nat.le_trans (show 3 ≤ 4 by decide) (by decide)⟩
  refine ⟨some (.int b), some (.int e), some (.int m), m + 1, es', r3.set a.wq (.list [.ref (a.tq + 15), .ref (a.dq + 15), .int ((m : Int) + 1)]), ?_, ?_⟩
  · have y1 : zI .Mod (zI .FloorDiv (z4 9) (z7 (.int 5))) (z6 (z4 3) "size" none []) (run T (n + 6)) (F10 sc v1 hands pq hq v6 v7 v8 (some (.int mo)) (some (.ref (a.wq + 15))) (some (.ref (a.dq + 15))) v12 v13 v14 v15 v16 v17 v18) (S.hp r) = .ok (.int b) (S.hp r) := by
      rw [← hb]
      exact zf (zf (z3 rfl) rfl (qI.trans (if_pos (by decide)))) (zF (a := 1) (z3 rfl) rfl xf ev0 (wU X (n := n + 4))) (yR.trans (if_neg fun q => s0 (Int.ofNat.inj q)))
    have y2 : zI .Add (zI .Add (z4 13) (z7 (.int 1))) (zI .Mod (zI .FloorDiv (z4 9) (z7 (.int 997))) (zI .Sub (z6 (z4 3) "size" none []) (z4 13))) (run T (n + 6)) (F10 sc v1 hands pq hq v6 v7 v8 (some (.int mo)) (some (.ref (a.wq + 15))) (some (.ref (a.dq + 15))) v12 (some (.int b)) v14 v15 v16 v17 v18) (S.hp r) = .ok (.int e) (S.hp r) := by
      rw [← he]
      exact zf (zf (z3 rfl) rfl xC) (zf (zf (z3 rfl) rfl (qI.trans (if_pos (by decide)))) (zf (zF (a := 1) (z3 rfl) rfl xf ev0 (wU X (n := n + 4))) (z3 rfl) jN) (yR.trans (if_neg fun q => absurd d0 (by rw [q]; exact Int.lt_irrefl _)))) xC
    refine (z5 (zW (j := 13) y1 (zc rfl))).trans ((z5 (zW (j := 14) y2 (zc rfl))).trans ((z5 (ZM (xS (ev1 (zF (a := 1) (z3 rfl) rfl q9 (ev1 (z3 rfl) ev0) x1) (ev1 (zF (a := 1) (z3 rfl) rfl q9 (ev1 (zf (z3 rfl) rfl jN) ev0) x2) ev0))) (z3 rfl) (zq (z3 rfl) rfl (xo (show (S.hp (r ++ h1 ++ h2))[a.wq + 15]? = _ from R1.w) rfl rfl)) st')).trans ((z5 (zW (j := 15) (zF (zq (z3 rfl) rfl (xo (show (S.hp r2)[a.wq + 15]? = _ from w2) rfl rfl)) (show (S.hp r2)[a.tq + 15]? = _ from H2.t) Jo (ev1 (z3 rfl) (ev1 (z3 rfl) ev0)) x3) (zc rfl))).trans ((z5 ((zH (x7 (zu (b := true) (yX (v := .bool true) (zg (ev1 (z3 rfl) ev0) (qU X)) rfl)) (x7 (zX (z3 rfl) (zq (z3 rfl) rfl (xo (show (S.hp r3)[a.wq + 15]? = _ from w3) rfl rfl)) zC6) qN))).trans zC)).trans ((z5 (ZM (zf (zq (z3 rfl) rfl (xo (show (S.hp r3)[a.wq + 15]? = _ from w3) rfl rfl)) rfl xC) (z3 rfl) rfl st4)).trans zC)))))
  · refine L1.row ha (A3.set mw _).up (Nat.le_succ _) (fun q o hq' h => zM (fun e => hq' (e ▸ .tail _ (.tail _ (.tail _ (.head _))))) (kp3 q o hq' (kp2 q o hq' h))) ⟨⟨zM wt H3.t, zM wk H3.k⟩, zM wd d3, List.getElem?_set_self lw3, ?_, fun x hx => ?_, ?_, fun x hx => ?_⟩
    · rw [← hes]
      unfold ksO
      rw [List.map_append, List.pairwise_append]
      refine ⟨R.nd, List.pairwise_singleton _ _, fun x hx y hy => ?_⟩
      obtain ⟨e', he', rfl⟩ := List.mem_map.mp hx
      rw [xD hy]
      exact R.lt e' he'
    · rw [← hes] at hx
      rcases xa hx with hx | hx
      · exact Int.lt_trans (R.lt x hx) (Int.ofNat_lt.mpr (Nat.lt_succ_self m))
      · rw [xD hx]; exact Int.ofNat_lt.mpr (Nat.lt_succ_self m)
    · rw [← hes, zP]; exact Nat.succ_le_succ R.z
    · rw [← hes] at hx
      rcases xa hx with hx | hx
      · exact R.rg x hx
      · rw [xD hx]
        exact ⟨I.O.sgn f0 (by rw [lc]; exact f1), I.O.sgn l0 l1⟩
end
noncomputable abbrev b10 (okf : Str → Str → Bool) : XS := (sIf (zT .And [(zN (zI .Mod (z4 8) (z7 (.int 8))) [.Lt] [(z7 (.int 2))]), (zN (z6 (z4 3) "deeds" none []) [.Gt] [(z7 (.int 0))])]) (z9 [(zG (zB (zA (some (.fn "_law_turned"))) [(z4 3), (zI .Mod (z4 9) (z6 (z4 3) "deeds" none []))]))]) (z9 [(sIf (zT .And [(zN (zI .Mod (z4 8) (z7 (.int 8))) [.Lt] [(z7 (.int 5))]), (zN (z4 11) [.NotEq] [xm]), (zN (zI .Mod (z4 9) (z7 (.int 5))) [.Eq] [(z7 (.int 1))])]) (z9 [(z8 okf (.names (.one 12)) (zR (zB (zA (some (.bi .sorted))) [(zB (zA (some (.bi .list))) [(z4 11)])]) (zI .Mod (zI .FloorDiv (z4 9) (z7 (.int 5))) (zB (zA (some (.bi .len))) [(z4 11)])))), (zG (z6 (z4 11) "pop" (some .pop) [(z4 12)])), (sIf (zT .Or [(zN (z6 (zR (z4 10) (z7 (.int 0))) "drop" none [(z4 12)]) [.IsNot] [(z7 .none)]), (yA (zp (zB (zA (some (.fn "_law_is_gone"))) [(zR (z4 10) (z7 (.int 0))), (z4 12)])))]) (z9 [(zV (z7 (.bool false)))]) (z9 []))]) (z9 [(sIf (zT .And [(zN (zI .Mod (z4 8) (z7 (.int 8))) [.Lt] [(z7 (.int 5))]), (zN (z6 (z4 3) "size" none []) [.Gt] [(z7 (.int 0))])]) (z9 [(z8 okf (.names (.one 13)) (zI .Mod (zI .FloorDiv (z4 9) (z7 (.int 5))) (z6 (z4 3) "size" none []))), (z8 okf (.names (.one 14)) (zI .Add (zI .Add (z4 13) (z7 (.int 1))) (zI .Mod (zI .FloorDiv (z4 9) (z7 (.int 997))) (zI .Sub (z6 (z4 3) "size" none []) (z4 13))))), (z8 okf (.item (z4 11) (zR (z4 10) (z7 (.int 2)))) (yZ [(z6 (z4 3) "sign_at" none [(z4 13)]), (z6 (z4 3) "sign_at" none [(zI .Sub (z4 14) (z7 (.int 1)))])])), (z8 okf (.names (.one 15)) (z6 (zR (z4 10) (z7 (.int 0))) "tie" none [(z4 13), (z4 14)])), (sIf (zT .Or [(yA (zp (zB (zA (some (.fn "_law_whole"))) [(z4 15)]))), (zN (z4 15) [.NotEq] [(zR (z4 10) (z7 (.int 2)))])]) (z9 [(zV (z7 (.bool false)))]) (z9 [])), (z8 okf (.item (z4 10) (z7 (.int 2))) (zI .Add (zR (z4 10) (z7 (.int 2))) (z7 (.int 1))))]) (z9 [(zG (zB (zA (some (.fn "_law_do"))) [(z4 3), (zB (zA (some (.fn "_law_deed_by"))) [(z4 9), (z6 (z4 3) "size" none []), (z4 2)])]))]))]))]))
noncomputable abbrev n10 : XS := (sIf (zT .And [(zN (zI .Mod (z4 9) (z7 (.int 3))) [.Eq] [(z7 (.int 1))]), (yA (zp (zB (zA (some (.fn "_law_not_tied"))) [(zR (z4 10) (z7 (.int 0))), (z6 (z4 3) "size" none [])])))]) (z9 [(zV (z7 (.bool false)))]) (z9 []))
noncomputable abbrev w10 : XS := (xQ (.many [16, 17, 18]) (z4 4) false (z9 [(sIf (yA (zp (zB (zA (some (.fn "_law_stands"))) [(z4 3), (z4 16), (z4 17), (zI .FloorDiv (z4 9) (z7 (.int 7))), (z4 5)]))) (z9 [(zV (z7 (.bool false)))]) (z9 []))]))
theorem zCs {t1 t2 : XT} {cf : CF} {fr : AFr} {h : Hp} {b1 b2 : Bool} (e1 : t1 cf fr h = .ok b1 h) (e2 : t2 cf fr h = .ok b2 h) : zT .And [t1, t2] cf fr h = .ok (b1 && b2) h := by
  cases b1 with
  | false => exact q7 e1
  | true =>
    cases b2 with
    | false => exact qq e1 (q7 e2)
    | true => exact qq e1 (qq e2 QS)
section
variable {T : Tab} {okf : Str → Str → Bool} (X : TT T okf) {n : Nat} {hands : Int} {k pq hq : Nat} {ad : List Ad} {cs : List (Nat × Es)} {ye : Nat × List Int} {hs : List AV} {S : Sh} {mvs : List (List (Int × Int))} {cus sg : List (List Int)} {r : Hp} {sc v1 : AV} {num mo : Int} {v6 v7 v12 v13 v14 v15 v16 v17 v18 : Option AV} {j : Nat} {a : Ad} {m : Nat} {es : Es}
include X
theorem brD (L : L10 hands k pq hq ad cs ye hs S mvs cus sg r) (hk : k ≤ 25) (h1 : 0 < hands) {v8 v10 v11 : Option AV} :
    ∃ S' mvs' cus' sg' r', z9 [(zG (zB (zA (some (.fn "_law_do"))) [(z4 3), (zB (zA (some (.fn "_law_deed_by"))) [(z4 9), (z6 (z4 3) "size" none []), (z4 2)])]))] (run T (n + 8)) (F10 sc v1 hands pq hq v6 v7 v8 (some (.int mo)) v10 v11 v12 v13 v14 v15 v16 v17 v18) (S.hp r) = .ok .next (F10 sc v1 hands pq hq v6 v7 v8 (some (.int mo)) v10 v11 v12 v13 v14 v15 v16 v17 v18) (Sh.hp S' r') ∧ L10 hands (k + 1) pq hq ad cs ye hs S' mvs' cus' sg' r' := by
  obtain ⟨l1, l3⟩ := L.A.V.I.O.tkl
  have lc : S.b.countP id = S.sh.length := by rw [l1, L.A.V.I.O.G.count]
  obtain ⟨hd, d, g, ed, d0, d1, ok⟩ := z08 X (n := n + 5) (z := mo) (hands := hands) (m := S.sh.length) (h := S.hp r) (Nat.le_of_lt l3) h1
  have ed' : run T (n + 8) (.fn "_law_deed_by") [.int mo, .int (S.b.countP id : Nat), .int hands] (S.hp r) = .ok (Deed.av hd d) (S.hp (r ++ g)) := by rw [lc]; exact ed
  have L1 := L.grow g
  obtain ⟨S', mvs', cus', sg', r', e, B, K, l⟩ := do_ X (n := n + 1) L1.A (Nat.lt_of_le_of_lt (Nat.add_le_add_left (Nat.mul_le_mul_left 5 hk) 60) (by decide)) d0 d1 ok
  exact ⟨S', mvs', cus', sg', r', (z5 (zU (zg (ev1 (z3 rfl) (ev1 (zg (ev1 (z3 rfl) (ev1 (zF (a := 1) (z3 rfl) rfl xf ev0 (wU X (n := n + 6))) (ev1 (z3 rfl) ev0))) ed') ev0)) e))).trans zC, L1.next B K l⟩
theorem br (L : L10 hands k pq hq ad cs ye hs S mvs cus sg r) (hk : k ≤ 25) (h1 : 0 < hands) (ha : ad[j]? = some a) (hc : cs[j]? = some (m, es)) :
    ∃ cs' S' mvs' cus' sg' r' u12 u13 u14 u15, b10 okf (run T (n + 8)) (F10 sc v1 hands pq hq v6 v7 (some (.int num)) (some (.int mo)) (some (.ref (a.wq + 15))) (some (.ref (a.dq + 15))) v12 v13 v14 v15 v16 v17 v18) (S.hp r) = .ok .next (F10 sc v1 hands pq hq v6 v7 (some (.int num)) (some (.int mo)) (some (.ref (a.wq + 15))) (some (.ref (a.dq + 15))) u12 u13 u14 u15 v16 v17 v18) (Sh.hp S' r') ∧ L10 hands (k + 1) pq hq ad cs' ye hs S' mvs' cus' sg' r' := by
  have k60 : k < 60 := Nat.lt_of_le_of_lt hk (by decide)
  have R := L.ro j a m es ha hc
  have n8 : ∀ (c : Int) (r : Hp), zN (zI .Mod (z4 8) (z7 (.int 8))) [.Lt] [(z7 (.int c))] (run T (n + 8)) (F10 sc v1 hands pq hq v6 v7 (some (.int num)) (some (.int mo)) (some (.ref (a.wq + 15))) (some (.ref (a.dq + 15))) v12 v13 v14 v15 v16 v17 v18) (S.hp r) = .ok (decide (num.fmod 8 < c)) (S.hp r) := fun c r => zX (zf (z3 rfl) rfl (yR.trans (if_neg (by decide)))) rfl yM
  have tA := zCs (n8 2 r) (zX (op := .Gt) (b := decide ((0 : Int) < (S.dn.length : Nat))) (zF (me := none) (a := 1) (z3 (i := 3) (cf := run T (n + 8)) (fr := F10 sc v1 hands pq hq v6 v7 (some (.int num)) (some (.int mo)) (some (.ref (a.wq + 15))) (some (.ref (a.dq + 15))) v12 v13 v14 v15 v16 v17 v18) (h := S.hp r) rfl) rfl Xg ev0 (z07 X (n := n + 7))) (y := z7 (.int 0)) rfl X7)
  cases qA : decide (num.fmod 8 < 2) && decide ((0 : Int) < (S.dn.length : Nat)) with
  | true =>
    rw [qA] at tA
    obtain ⟨S', r', e, L'⟩ := brA X (n := n + 2) L (Nat.lt_trans k60 (by decide)) (fun h => by rw [h] at qA; exact nob ((Bool.and_eq_true_iff.mp qA).2 ▸ rfl)) (sc := sc) (v1 := v1) (mo := mo) (v6 := v6) (v7 := v7) (v8 := some (.int num)) (v10 := some (.ref (a.wq + 15))) (v11 := some (.ref (a.dq + 15))) (v12 := v12) (v13 := v13) (v14 := v14) (v15 := v15) (v16 := v16) (v17 := v17) (v18 := v18)
    exact ⟨cs, S', mvs, cus, sg, r', v12, v13, v14, v15, (zZ tA).trans e, L'⟩
  | false =>
  rw [qA] at tA
  have tB : ∃ g b, zT .And [(zN (zI .Mod (z4 8) (z7 (.int 8))) [.Lt] [(z7 (.int 5))]), (zN (z4 11) [.NotEq] [xm]), (zN (zI .Mod (z4 9) (z7 (.int 5))) [.Eq] [(z7 (.int 1))])] (run T (n + 8)) (F10 sc v1 hands pq hq v6 v7 (some (.int num)) (some (.int mo)) (some (.ref (a.wq + 15))) (some (.ref (a.dq + 15))) v12 v13 v14 v15 v16 v17 v18) (S.hp r) = .ok b (S.hp (r ++ g)) ∧ (b = true → es ≠ []) := by
    have t1 := n8 5 r
    cases q1 : decide (num.fmod 8 < 5) with
    | false => rw [q1] at t1; exact ⟨[], false, by rw [List.append_nil]; exact q7 t1, fun h => nob h⟩
    | true =>
      rw [q1] at t1
      have t2 : zN (z4 11) [.NotEq] [xm] (run T (n + 8)) (F10 sc v1 hands pq hq v6 v7 (some (.int num)) (some (.int mo)) (some (.ref (a.wq + 15))) (some (.ref (a.dq + 15))) v12 v13 v14 v15 v16 v17 v18) (S.hp r) = .ok (!(kvO es).isEmpty) (S.hp (r ++ [.dict []])) :=
        zX (v := .ref (a.dq + 15)) (w := .ref (r.length + 15)) (h2 := S.hp (r ++ [.dict []])) (z3 rfl) rfl (Jh (show (S.hp (r ++ [.dict []]))[a.dq + 15]? = _ from zE R.d) (show (S.hp (r ++ [.dict []]))[r.length + 15]? = _ from zO _ _ []))
      cases hes : es with
      | nil => rw [hes] at t2; exact ⟨[.dict []], false, qq t1 (q7 t2), fun h => nob h⟩
      | cons x xs =>
        rw [hes] at t2
        have t3 : zN (zI .Mod (z4 9) (z7 (.int 5))) [.Eq] [(z7 (.int 1))] (run T (n + 8)) (F10 sc v1 hands pq hq v6 v7 (some (.int num)) (some (.int mo)) (some (.ref (a.wq + 15))) (some (.ref (a.dq + 15))) v12 v13 v14 v15 v16 v17 v18) (S.hp (r ++ [.dict []])) = .ok (decide (mo.fmod 5 = 1)) (S.hp (r ++ [.dict []])) := zX (zf (z3 rfl) rfl (yR.trans (if_neg (by decide)))) rfl (by rw [xb, xP])
        refine ⟨[.dict []], decide (mo.fmod 5 = 1), qq t1 (qq t2 ?_), fun _ h => by cases h⟩
        cases q3 : decide (mo.fmod 5 = 1) with
        | false => rw [q3] at t3; exact q7 t3
        | true => rw [q3] at t3; exact qq t3 QS
  obtain ⟨g, bB, tB, hB⟩ := tB
  have L1 := L.grow g
  cases bB with
  | true =>
    obtain ⟨i, es', r', e, L'⟩ := brB X (n := n + 2) (okf := okf) L1 k60 ha hc (hB rfl) (sc := sc) (v1 := v1) (mo := mo) (v6 := v6) (v7 := v7) (v8 := some (.int num)) (v12 := v12) (v13 := v13) (v14 := v14) (v15 := v15) (v16 := v16) (v17 := v17) (v18 := v18)
    exact ⟨_, S, mvs, cus, sg, r', _, v13, v14, v15, (zH tA).trans ((z5 ((zZ tB).trans e)).trans zC), L'⟩
  | false =>
  have tC := zCs (n8 5 (r ++ g)) (zX (op := .Gt) (b := decide ((0 : Int) < (S.b.countP id : Nat))) (zF (me := none) (a := 1) (z3 (i := 3) (cf := run T (n + 8)) (fr := F10 sc v1 hands pq hq v6 v7 (some (.int num)) (some (.int mo)) (some (.ref (a.wq + 15))) (some (.ref (a.dq + 15))) v12 v13 v14 v15 v16 v17 v18) (h := S.hp (r ++ g)) rfl) rfl xf ev0 (wU X (n := n + 6))) (y := z7 (.int 0)) rfl X7)
  cases qC : decide (num.fmod 8 < 5) && decide ((0 : Int) < (S.b.countP id : Nat)) with
  | true =>
    rw [qC] at tC
    obtain ⟨u13, u14, u15, m', es', r', e, L'⟩ := brC X (n := n + 2) (okf := okf) L1 k60 ha hc (fun h => by rw [h] at qC; exact nob ((Bool.and_eq_true_iff.mp qC).2 ▸ rfl)) (sc := sc) (v1 := v1) (mo := mo) (v6 := v6) (v7 := v7) (v8 := some (.int num)) (v12 := v12) (v13 := v13) (v14 := v14) (v15 := v15) (v16 := v16) (v17 := v17) (v18 := v18)
    exact ⟨_, S, mvs, cus, sg, r', v12, u13, u14, u15, (zH tA).trans ((z5 ((zH tB).trans ((z5 ((zZ tC).trans e)).trans zC))).trans zC), L'⟩
  | false =>
    rw [qC] at tC
    obtain ⟨S', mvs', cus', sg', r', e, L'⟩ := brD X (n := n) L1 hk h1 (sc := sc) (v1 := v1) (mo := mo) (v6 := v6) (v7 := v7) (v8 := some (.int num)) (v10 := some (.ref (a.wq + 15))) (v11 := some (.ref (a.dq + 15))) (v12 := v12) (v13 := v13) (v14 := v14) (v15 := v15) (v16 := v16) (v17 := v17) (v18 := v18)
    exact ⟨cs, S', mvs', cus', sg', r', v12, v13, v14, v15, (zH tA).trans ((z5 ((zH tB).trans ((z5 ((zH tC).trans e)).trans zC))).trans zC), L'⟩
end
section
variable {T : Tab} {okf : Str → Str → Bool} (X : TT T okf) {n : Nat} {hands : Int} {k pq hq : Nat} {ad : List Ad} {cs : List (Nat × Es)} {ye : Nat × List Int} {hs : List AV} {S : Sh} {mvs : List (List (Int × Int))} {cus sg : List (List Int)} {r : Hp} {sc v1 : AV} {mo : Int} {v6 v7 v8 v12 v13 v14 v15 v16 v17 v18 : Option AV} {j : Nat} {a : Ad}
theorem L10.at_ (L : L10 hands k pq hq ad cs ye hs S mvs cus sg r) (ha : ad[j]? = some a) : ∃ m es, cs[j]? = some (m, es) ∧ Ro S.le.length k r a m es := by
  have hl : j < cs.length := by rw [L.ln]; exact (y8 ha).1
  have e := y9 hl
  exact ⟨_, _, e, L.ro j a _ _ ha e⟩
include X
theorem zEl (L : L10 hands k pq hq ad cs ye hs S mvs cus sg r) (ha : ad[j]? = some a) {v11 : Option AV} :
    n10 (run T (n + 8)) (F10 sc v1 hands pq hq v6 v7 v8 (some (.int mo)) (some (.ref (a.wq + 15))) v11 v12 v13 v14 v15 v16 v17 v18) (S.hp r) = .ok .next (F10 sc v1 hands pq hq v6 v7 v8 (some (.int mo)) (some (.ref (a.wq + 15))) v11 v12 v13 v14 v15 v16 v17 v18) (S.hp r) := by
  obtain ⟨m, es, _, R⟩ := L.at_ ha
  have t1 : zN (zI .Mod (z4 9) (z7 (.int 3))) [.Eq] [(z7 (.int 1))] (run T (n + 8)) (F10 sc v1 hands pq hq v6 v7 v8 (some (.int mo)) (some (.ref (a.wq + 15))) v11 v12 v13 v14 v15 v16 v17 v18) (S.hp r) = .ok (decide (mo.fmod 3 = 1)) (S.hp r) := zX (zf (z3 rfl) rfl (yR.trans (if_neg (by decide)))) rfl (by rw [xb, xP])
  have t2 : yA (zp (zB (zA (some (.fn "_law_not_tied"))) [(zR (z4 10) (z7 (.int 0))), (z6 (z4 3) "size" none [])])) (run T (n + 8)) (F10 sc v1 hands pq hq v6 v7 v8 (some (.int mo)) (some (.ref (a.wq + 15))) v11 v12 v13 v14 v15 v16 v17 v18) (S.hp r) = .ok false (S.hp r) :=
    zu (b := true) (yX (v := .bool true) (zg (ev1 (zq (z3 rfl) rfl (xo (show (S.hp r)[a.wq + 15]? = _ from R.w) rfl rfl)) (ev1 (zF (a := 1) (z3 rfl) rfl xf ev0 (wU X (n := n + 6))) ev0)) (WX X (n := n + 2) R.H)) rfl)
  have t := zCs t1 t2
  rw [Bool.and_false] at t
  exact (zH t).trans zC
theorem zEh (L : L10 hands k pq hq ad cs ye hs S mvs cus sg r) (hk : k ≤ 30) (zh : hs.length + 8 < small) {v10 v11 : Option AV} :
    ∃ u16 u17 u18 hs' r', w10 (run T (n + 8)) (F10 sc v1 hands pq hq v6 v7 v8 (some (.int mo)) v10 v11 v12 v13 v14 v15 v16 v17 v18) (S.hp r) = .ok .next (F10 sc v1 hands pq hq v6 v7 v8 (some (.int mo)) v10 v11 v12 v13 v14 v15 u16 u17 u18) (S.hp r') ∧ L10 hands k pq hq ad cs ye hs' S mvs cus sg r' ∧ hs'.length ≤ hs.length + 4 := by
  obtain ⟨fr', h', e, u16, u17, u18, hs', r', rfl, rfl, L', l'⟩ := xB (t := .many [16, 17, 18]) (src := .ref (pq + 15)) (cf := run T (n + 8)) (xs := ad.map fun a => AV.ref (a.wq + 15))
    (body := (z9 [(sIf (yA (zp (zB (zA (some (.fn "_law_stands"))) [(z4 3), (z4 16), (z4 17), (zI .FloorDiv (z4 9) (z7 (.int 7))), (z4 5)]))) (z9 [(zV (z7 (.bool false)))]) (z9 []))]))
    (fun i fr h => ∃ u16 u17 u18 hs' r', fr = F10 sc v1 hands pq hq v6 v7 v8 (some (.int mo)) v10 v11 v12 v13 v14 v15 u16 u17 u18 ∧ h = S.hp r' ∧ L10 hands k pq hq ad cs ye hs' S mvs cus sg r' ∧ hs'.length ≤ hs.length + 2 * i)
    (by
      rintro i fr h ⟨u16, u17, u18, hs', r', rfl, rfl, L, _⟩
      exact x8 (show (S.hp r')[pq + 15]? = _ from L.p))
    (by
      rintro i x fr h ⟨u16, u17, u18, hs', r', rfl, rfl, L, l⟩ hx
      rw [List.getElem?_map] at hx
      obtain ⟨a, ha, rfl⟩ := y6 hx
      obtain ⟨m, es, _, R⟩ := L.at_ ha
      have hi := (y8 ha).1
      have i2 : i < 2 := Nat.lt_of_lt_of_le hi L.l2
      obtain ⟨_, nd1⟩ := List.nodup_cons.mp L.nd
      obtain ⟨n2, _⟩ := List.nodup_cons.mp nd1
      have inA : ∀ q ∈ a.all, hq ≠ q := fun q h e => n2 (e ▸ List.mem_flatMap.mpr ⟨a, yI ha, h⟩)
      obtain ⟨G, ts, es1, lt, ht⟩ := Xn X (n := n + 1) L.A.V L.A.D R.H R.d L.h (inA _ (.head _)) (inA _ (.tail _ (.head _))) R.nd (Nat.lt_of_le_of_lt R.z (Nat.lt_of_le_of_lt hk (by decide))) R.rg (Nat.lt_of_le_of_lt (Nat.add_le_add_right (Nat.le_trans l (Nat.add_le_add_left (Nat.mul_le_mul_left 2 (Nat.le_of_lt i2)) _)) 2) (Nat.lt_of_le_of_lt (by lia) zh)) (p := mo.fdiv 7)
      refine ⟨F10 sc v1 hands pq hq v6 v7 v8 (some (.int mo)) v10 v11 v12 v13 v14 v15 (some (.ref (a.tq + 15))) (some (.ref (a.dq + 15))) (some (.int m)), _, _, ?_, (z5 ((zH (zu (b := true) (yX (v := .bool true) (zg (ev1 (z3 rfl) (ev1 (z3 rfl) (ev1 (z3 rfl) (ev1 (zf (z3 rfl) rfl (qI.trans (if_pos (by decide)))) (ev1 (z3 rfl) ev0))))) es1) rfl))).trans zC)).trans zC, _, _, _, _, _, rfl, rfl, L.held ht, ?_⟩
      · show (zn (S.hp r') (a.wq + 15)).bind _ = _
        rw [wj (show (S.hp r')[a.wq + 15]? = _ from R.w)]; rfl
      · rw [zP]
        exact Nat.le_trans (Nat.add_le_add l lt) (Nat.le_of_eq (by rw [Nat.mul_succ, Nat.add_assoc])))
    (fr := F10 sc v1 hands pq hq v6 v7 v8 (some (.int mo)) v10 v11 v12 v13 v14 v15 v16 v17 v18) (h := S.hp r) ⟨v16, v17, v18, hs, r, rfl, rfl, L, Nat.le_add_right _ _⟩
  refine ⟨u16, u17, u18, hs', r', qp (en := false) (z3 rfl) (qc (show (S.hp r)[pq + 15]? = _ from L.p)) e, L', Nat.le_trans l' (Nat.add_le_add_left ?_ _)⟩
  rw [List.length_map]
  exact Nat.mul_le_mul_left 2 L.l2
end
noncomputable abbrev s10 (okf : Str → Str → Bool) : XS := (z9 [(z8 okf (.names (.one 8)) (zB (zA (some (.fn "_law_mixed"))) [(z4 7), (z4 6)])), (z8 okf (.names (.one 9)) (zI .FloorDiv (z4 8) (z7 (.int 8)))), (sIf (zN (z4 6) [.Eq] [(zI .Add (z7 (.int 4)) (zI .Mod (zB (zA (some (.fn "_law_cell_at"))) [(z4 0), (z7 (.int 0))]) (z7 (.int 4))))]) (z9 [(zG (z6 (z4 4) "append" (some .append) [(zw [(zB (zA (some (.cls "Threads"))) [(z4 3)]), xm, (z7 (.int 0))])]))]) (z9 [])), (z8 okf (.names (.one 10)) (zR (z4 4) (zI .Mod (zI .FloorDiv (z4 9) (z7 (.int 3))) (zB (zA (some (.bi .len))) [(z4 4)])))), (z8 okf (.names (.one 11)) (zR (z4 10) (z7 (.int 1)))), (sIf (zT .And [(zN (zI .Mod (z4 8) (z7 (.int 8))) [.Lt] [(z7 (.int 2))]), (zN (z6 (z4 3) "deeds" none []) [.Gt] [(z7 (.int 0))])]) (z9 [(zG (zB (zA (some (.fn "_law_turned"))) [(z4 3), (zI .Mod (z4 9) (z6 (z4 3) "deeds" none []))]))]) (z9 [(sIf (zT .And [(zN (zI .Mod (z4 8) (z7 (.int 8))) [.Lt] [(z7 (.int 5))]), (zN (z4 11) [.NotEq] [xm]), (zN (zI .Mod (z4 9) (z7 (.int 5))) [.Eq] [(z7 (.int 1))])]) (z9 [(z8 okf (.names (.one 12)) (zR (zB (zA (some (.bi .sorted))) [(zB (zA (some (.bi .list))) [(z4 11)])]) (zI .Mod (zI .FloorDiv (z4 9) (z7 (.int 5))) (zB (zA (some (.bi .len))) [(z4 11)])))), (zG (z6 (z4 11) "pop" (some .pop) [(z4 12)])), (sIf (zT .Or [(zN (z6 (zR (z4 10) (z7 (.int 0))) "drop" none [(z4 12)]) [.IsNot] [(z7 .none)]), (yA (zp (zB (zA (some (.fn "_law_is_gone"))) [(zR (z4 10) (z7 (.int 0))), (z4 12)])))]) (z9 [(zV (z7 (.bool false)))]) (z9 []))]) (z9 [(sIf (zT .And [(zN (zI .Mod (z4 8) (z7 (.int 8))) [.Lt] [(z7 (.int 5))]), (zN (z6 (z4 3) "size" none []) [.Gt] [(z7 (.int 0))])]) (z9 [(z8 okf (.names (.one 13)) (zI .Mod (zI .FloorDiv (z4 9) (z7 (.int 5))) (z6 (z4 3) "size" none []))), (z8 okf (.names (.one 14)) (zI .Add (zI .Add (z4 13) (z7 (.int 1))) (zI .Mod (zI .FloorDiv (z4 9) (z7 (.int 997))) (zI .Sub (z6 (z4 3) "size" none []) (z4 13))))), (z8 okf (.item (z4 11) (zR (z4 10) (z7 (.int 2)))) (yZ [(z6 (z4 3) "sign_at" none [(z4 13)]), (z6 (z4 3) "sign_at" none [(zI .Sub (z4 14) (z7 (.int 1)))])])), (z8 okf (.names (.one 15)) (z6 (zR (z4 10) (z7 (.int 0))) "tie" none [(z4 13), (z4 14)])), (sIf (zT .Or [(yA (zp (zB (zA (some (.fn "_law_whole"))) [(z4 15)]))), (zN (z4 15) [.NotEq] [(zR (z4 10) (z7 (.int 2)))])]) (z9 [(zV (z7 (.bool false)))]) (z9 [])), (z8 okf (.item (z4 10) (z7 (.int 2))) (zI .Add (zR (z4 10) (z7 (.int 2))) (z7 (.int 1))))]) (z9 [(zG (zB (zA (some (.fn "_law_do"))) [(z4 3), (zB (zA (some (.fn "_law_deed_by"))) [(z4 9), (z6 (z4 3) "size" none []), (z4 2)])]))]))]))])), (sIf (zT .And [(zN (zI .Mod (z4 9) (z7 (.int 3))) [.Eq] [(z7 (.int 1))]), (yA (zp (zB (zA (some (.fn "_law_not_tied"))) [(zR (z4 10) (z7 (.int 0))), (z6 (z4 3) "size" none [])])))]) (z9 [(zV (z7 (.bool false)))]) (z9 [])), (xQ (.many [16, 17, 18]) (z4 4) false (z9 [(sIf (yA (zp (zB (zA (some (.fn "_law_stands"))) [(z4 3), (z4 16), (z4 17), (zI .FloorDiv (z4 9) (z7 (.int 7))), (z4 5)]))) (z9 [(zV (z7 (.bool false)))]) (z9 []))]))])
section
variable {T : Tab} {okf : Str → Str → Bool} (X : TT T okf) {n : Nat} {hands : Int} {k pq hq : Nat} {ad : List Ad} {cs : List (Nat × Es)} {ye : Nat × List Int} {hs : List AV} {S : Sh} {mvs : List (List (Int × Int))} {cus sg : List (List Int)} {r : Hp} {is : List Int} {v1 : AV} {y k0 : Int} {v8 v9 v10 v11 v12 v13 v14 v15 v16 v17 v18 : Option AV}
include X
theorem JT (L : L10 hands k pq hq ad cs ye hs S mvs cus sg r) (hs63 : is.length ≤ 63) (l0 : 0 < ad.length) (hk0 : k0 = 4 + (is[(0 : Int).toNat]?.getD 0).fmod 4) (lim : (k : Int) ≤ k0 → ad.length ≤ 1) {num mo : Int} :
    ∃ ad' cs' r', sIf (zN (z4 6) [.Eq] [(zI .Add (z7 (.int 4)) (zI .Mod (zB (zA (some (.fn "_law_cell_at"))) [(z4 0), (z7 (.int 0))]) (z7 (.int 4))))]) (z9 [(zG (z6 (z4 4) "append" (some .append) [(zw [(zB (zA (some (.cls "Threads"))) [(z4 3)]), xm, (z7 (.int 0))])]))]) (z9 []) (run T (n + 8)) (F10 (.lst (is.map AV.int)) v1 hands pq hq (some (.int k)) (some (.int y)) (some (.int num)) (some (.int mo)) v10 v11 v12 v13 v14 v15 v16 v17 v18) (S.hp r) = .ok .next (F10 (.lst (is.map AV.int)) v1 hands pq hq (some (.int k)) (some (.int y)) (some (.int num)) (some (.int mo)) v10 v11 v12 v13 v14 v15 v16 v17 v18) (S.hp r') ∧ L10 hands k pq hq ad' cs' ye hs S mvs cus sg r' ∧ 0 < ad'.length ∧ (((k + 1 : Nat) : Int) ≤ k0 → ad'.length ≤ 1) := by
  have t : zN (z4 6) [.Eq] [(zI .Add (z7 (.int 4)) (zI .Mod (zB (zA (some (.fn "_law_cell_at"))) [(z4 0), (z7 (.int 0))]) (z7 (.int 4))))] (run T (n + 8)) (F10 (.lst (is.map AV.int)) v1 hands pq hq (some (.int k)) (some (.int y)) (some (.int num)) (some (.int mo)) v10 v11 v12 v13 v14 v15 v16 v17 v18) (S.hp r) = .ok (decide ((k : Int) = k0)) (S.hp r) := by
    rw [hk0]
    exact zX (z3 rfl) (zf rfl (zf (zg (ev1 (z3 rfl) (ev1 rfl ev0)) (jL X (n := n + 7) (is := is) (k := 0) (by decide) hs63)) rfl (yR.trans (if_neg (by decide)))) xC) (by rw [xb, xP])
  by_cases q : (k : Int) = k0
  · rw [decide_eq_true q] at t
    have l1 := lim (Int.le_of_eq q)
    have s := Yp (cf := run T (n + 8)) (fr := F10 (.lst (is.map AV.int)) v1 hands pq hq (some (.int k)) (some (.int y)) (some (.int num)) (some (.int mo)) v10 v11 v12 v13 v14 v15 v16 v17 v18) (j := 4) (a := pq + 15) (e := zw [(zB (zA (some (.cls "Threads"))) [(z4 3)]), xm, (z7 (.int 0))]) rfl (show (S.hp r)[pq + 15]? = _ from L.p) (W7 X (n := n + 7) rfl) (show (S.hp (r ++ q6 r.length))[pq + 15]? = _ from zE L.p) (by rw [List.length_map]; exact Nat.lt_of_le_of_lt l1 (by decide)) rfl
    refine ⟨_, _, _, (zZ t).trans ((z5 s).trans zC), L.add l1, by rw [zP]; exact Nat.lt_of_lt_of_le l0 (Nat.le_add_right _ _), fun h => absurd h (Int.not_le.mpr ?_)⟩
    rw [← q]; exact Int.ofNat_lt.mpr (Nat.lt_succ_self k)
  · rw [decide_eq_false q] at t
    exact ⟨ad, cs, r, (zH t).trans zC, L, l0, fun h => lim (Int.le_trans (Int.ofNat_le.mpr (Nat.le_succ k)) h)⟩
theorem zBx (L : L10 hands k pq hq ad cs ye hs S mvs cus sg r) (hk : k ≤ 24) (h1 : 0 < hands) (hs63 : is.length ≤ 63) (l0 : 0 < ad.length) (hk0 : k0 = 4 + (is[(0 : Int).toNat]?.getD 0).fmod 4) (lim : (k : Int) ≤ k0 → ad.length ≤ 1) (zh : hs.length ≤ 4 * k) :
    ∃ ad' cs' hs' S' mvs' cus' sg' r' u8 u9 u10 u11 u12 u13 u14 u15 u16 u17 u18, s10 okf (run T (n + 8)) (F10 (.lst (is.map AV.int)) v1 hands pq hq (some (.int k)) (some (.int y)) v8 v9 v10 v11 v12 v13 v14 v15 v16 v17 v18) (S.hp r) = .ok .next (F10 (.lst (is.map AV.int)) v1 hands pq hq (some (.int k)) (some (.int y)) u8 u9 u10 u11 u12 u13 u14 u15 u16 u17 u18) (Sh.hp S' r') ∧ L10 hands (k + 1) pq hq ad' cs' ye hs' S' mvs' cus' sg' r' ∧ 0 < ad'.length ∧ (((k + 1 : Nat) : Int) ≤ k0 → ad'.length ≤ 1) ∧ hs'.length ≤ 4 * (k + 1) := by
  generalize hnum : YB y k = num
  obtain ⟨ad1, cs1, r1, e3, L1, l1, lim1⟩ := JT X (n := n) (v1 := v1) (y := y) (v10 := v10) (v11 := v11) (v12 := v12) (v13 := v13) (v14 := v14) (v15 := v15) (v16 := v16) (v17 := v17) (v18 := v18) L hs63 l0 hk0 lim (num := num) (mo := num.fdiv 8)
  generalize hmo : num.fdiv 8 = mo at e3
  have c0 : (0 : Int) < (ad1.length : Nat) := Int.ofNat_lt.mpr l1
  have f0 := Int.fmod_nonneg_of_pos (mo.fdiv 3) c0
  have f1 := Int.fmod_lt_of_pos (mo.fdiv 3) c0
  generalize hx : (mo.fdiv 3).fmod (ad1.length : Nat) = x at f0 f1
  have hi : x.toNat < ad1.length := wv f0 f1
  have ha := y9 hi
  generalize ad1[x.toNat] = a at ha
  obtain ⟨m, es, hc, R⟩ := L1.at_ ha
  obtain ⟨cs2, S2, mvs2, cus2, sg2, r2, u12, u13, u14, u15, e6, L2⟩ := br X (n := n) (okf := okf) L1 (Nat.le_succ_of_le hk) h1 ha hc (sc := .lst (is.map AV.int)) (v1 := v1) (num := num) (mo := mo) (v6 := some (.int k)) (v7 := some (.int y)) (v12 := v12) (v13 := v13) (v14 := v14) (v15 := v15) (v16 := v16) (v17 := v17) (v18 := v18)
  have e7 := zEl X (n := n) L2 ha (sc := .lst (is.map AV.int)) (v1 := v1) (mo := mo) (v6 := some (.int k)) (v7 := some (.int y)) (v8 := some (.int num)) (v11 := some (.ref (a.dq + 15))) (v12 := u12) (v13 := u13) (v14 := u14) (v15 := u15) (v16 := v16) (v17 := v17) (v18 := v18)
  obtain ⟨u16, u17, u18, hs', r3, e8, L3, l3⟩ := zEh X (n := n) L2 (Nat.le_trans (Nat.succ_le_succ hk) (by decide)) (Nat.lt_of_le_of_lt (Nat.add_le_add_right (Nat.le_trans zh (Nat.mul_le_mul_left 4 hk)) 8) (by decide)) (sc := .lst (is.map AV.int)) (v1 := v1) (mo := mo) (v6 := some (.int k)) (v7 := some (.int y)) (v8 := some (.int num)) (v10 := some (.ref (a.wq + 15))) (v11 := some (.ref (a.dq + 15))) (v12 := u12) (v13 := u13) (v14 := u14) (v15 := u15) (v16 := v16) (v17 := v17) (v18 := v18)
  have y1 : zB (zA (some (.fn "_law_mixed"))) [(z4 7), (z4 6)] (run T (n + 8)) (F10 (.lst (is.map AV.int)) v1 hands pq hq (some (.int k)) (some (.int y)) v8 v9 v10 v11 v12 v13 v14 v15 v16 v17 v18) (S.hp r) = .ok (.int num) (S.hp r) := by
    rw [← hnum]; exact zg (ev1 (z3 rfl) (ev1 (z3 rfl) ev0)) (Ji X (n := n + 7))
  have y2 : zI .FloorDiv (z4 8) (z7 (.int 8)) (run T (n + 8)) (F10 (.lst (is.map AV.int)) v1 hands pq hq (some (.int k)) (some (.int y)) (some (.int num)) v9 v10 v11 v12 v13 v14 v15 v16 v17 v18) (S.hp r) = .ok (.int mo) (S.hp r) := by
    rw [← hmo]; exact zf (z3 rfl) rfl (qI.trans (if_pos (by decide)))
  have y4 : zR (z4 4) (zI .Mod (zI .FloorDiv (z4 9) (z7 (.int 3))) (zB (zA (some (.bi .len))) [(z4 4)])) (run T (n + 8)) (F10 (.lst (is.map AV.int)) v1 hands pq hq (some (.int k)) (some (.int y)) (some (.int num)) (some (.int mo)) v10 v11 v12 v13 v14 v15 v16 v17 v18) (S.hp r1) = .ok (.ref (a.wq + 15)) (S.hp r1) := by
    refine zq (z3 rfl) (zf (zf (z3 rfl) rfl (qI.trans (if_pos (by decide)))) (xX (ev1 (z3 rfl) ev0) (res := .ok (.int (ad1.length : Nat)) (S.hp r1)) ?_) (yR.trans (if_neg fun q => Nat.ne_of_gt l1 (Int.ofNat.inj q)))) ?_
    · rw [wu, wM, show (S.hp r1)[pq + 15]? = _ from L1.p]
      show Out.ok (AV.int ((ad1.map _).length : Nat)) _ = _
      rw [List.length_map]
    · rw [hx]
      exact xo (show (S.hp r1)[pq + 15]? = _ from L1.p) (yv.mpr ⟨f0, Int.lt_trans f1 (Int.lt_of_le_of_lt (Int.ofNat_le.mpr L1.l2) (by decide))⟩) (by rw [List.getElem?_map, ha]; rfl)
  have y5 : zR (z4 10) (z7 (.int 1)) (run T (n + 8)) (F10 (.lst (is.map AV.int)) v1 hands pq hq (some (.int k)) (some (.int y)) (some (.int num)) (some (.int mo)) (some (.ref (a.wq + 15))) v11 v12 v13 v14 v15 v16 v17 v18) (S.hp r1) = .ok (.ref (a.dq + 15)) (S.hp r1) := zq (z3 rfl) rfl (xo (show (S.hp r1)[a.wq + 15]? = _ from R.w) rfl rfl)
  refine ⟨ad1, cs2, hs', S2, mvs2, cus2, sg2, r3, some (.int num), some (.int mo), some (.ref (a.wq + 15)), some (.ref (a.dq + 15)), u12, u13, u14, u15, u16, u17, u18, ?_, L3, l1, lim1, Nat.le_trans l3 (by rw [Nat.mul_succ]; exact Nat.add_le_add_right zh 4)⟩
  exact (z5 (zW (j := 8) y1 (zc rfl))).trans ((z5 (zW (j := 9) y2 (zc rfl))).trans ((z5 e3).trans ((z5 (zW (j := 10) y4 (zc rfl))).trans ((z5 (zW (j := 11) y5 (zc rfl))).trans ((z5 e6).trans ((z5 e7).trans ((z5 e8).trans zC)))))))
end
theorem Wp {S : Sh} {r : Hp} {cf : CF} {hq : Nat} {hs : List AV} {sc v1 : AV} {hn : Int} {pq : Nat} {v6 v7 v8 v9 v10 v11 v12 v13 v14 v15 v16 v17 v18 : Option AV} (hl : r[hq]? = some (.list hs)) (ha : ∀ v ∈ hs, ∃ a b xs, v = .tup [.ref (a + 15), .ref (b + 15)] ∧ r[a]? = some (.list ((xs : List Int).map AV.int)) ∧ r[b]? = some (.list (xs.map AV.int))) :
    yh (z4 5) 2 (.many [19, 20]) (zT .And [(zN (z4 19) [.NotEq] [(z4 20)])]) (z4 19) cf (F10 sc v1 hn pq hq v6 v7 v8 v9 v10 v11 v12 v13 v14 v15 v16 v17 v18) (S.hp r) = .ok (.ref (r.length + 15)) (S.hp (r ++ [.list []])) := by
  have key : ∀ (m k : Nat) (w1 w2 : Option AV), k + m = hs.length → yF (.many [19, 20]) (zT .And [(zN (z4 19) [.NotEq] [(z4 20)])]) (z4 19) (.ref (hq + 15)) (m + 1) k [] cf (F10 sc v1 hn pq hq v6 v7 v8 v9 v10 v11 v12 v13 v14 v15 v16 v17 v18 ++ [w1, w2]) (S.hp r) = .ok [] (S.hp r) := by
    intro m
    induction m with
    | zero =>
      intro k w1 w2 e
      show (match (Src.ref (hq + 15)).next? (S.hp r) k with
        | none => Out.stuck
        | some none => .ok [] (S.hp r)
        | some (some x) => _) = _
      rw [x8 (show (S.hp r)[hq + 15]? = _ from hl), List.getElem?_eq_none (show hs.length ≤ k from Nat.le_of_eq e.symm)]
    | succ m ih =>
      intro k w1 w2 e
      have hk : k < hs.length := by rw [← e]; exact Nat.lt_add_of_pos_right (Nat.succ_pos m)
      have hx := y9 hk
      obtain ⟨a, b, xs, ev, h1, h2⟩ := ha _ (List.getElem_mem hk)
      rw [ev] at hx
      have ht : zT .And [(zN (z4 19) [.NotEq] [(z4 20)])] cf (F10 sc v1 hn pq hq v6 v7 v8 v9 v10 v11 v12 v13 v14 v15 v16 v17 v18 ++ [some (.ref (a + 15)), some (.ref (b + 15))]) (S.hp r) = .ok false (S.hp r) := q7 (zX (z3 rfl) (z3 rfl) (ZA (show (S.hp r)[a + 15]? = _ from h1) (show (S.hp r)[b + 15]? = _ from h2)))
      show (match (Src.ref (hq + 15)).next? (S.hp r) k with
        | none => Out.stuck
        | some none => .ok [] (S.hp r)
        | some (some x) => (match NTgt.bind (.many [19, 20]) x (F10 sc v1 hn pq hq v6 v7 v8 v9 v10 v11 v12 v13 v14 v15 v16 v17 v18 ++ [w1, w2]) with
          | none => .stuck
          | some fr₁ => (zT .And [(zN (z4 19) [.NotEq] [(z4 20)])] cf fr₁ (S.hp r)).bind0 fun b h₁ =>
              if b then (z4 19 cf fr₁ h₁).bind0 fun v h₂ => if ([] : List AV).length < small then yF (.many [19, 20]) (zT .And [(zN (z4 19) [.NotEq] [(z4 20)])]) (z4 19) (.ref (hq + 15)) (m + 1) (k + 1) ([] ++ [v]) cf fr₁ h₂ else .stuck
              else yF (.many [19, 20]) (zT .And [(zN (z4 19) [.NotEq] [(z4 20)])]) (z4 19) (.ref (hq + 15)) (m + 1) (k + 1) [] cf fr₁ h₁)) = _
      rw [x8 (show (S.hp r)[hq + 15]? = _ from hl), hx]
      show (zT .And [(zN (z4 19) [.NotEq] [(z4 20)])] cf (F10 sc v1 hn pq hq v6 v7 v8 v9 v10 v11 v12 v13 v14 v15 v16 v17 v18 ++ [some (.ref (a + 15)), some (.ref (b + 15))]) (S.hp r)).bind0 _ = _
      rw [ht]
      exact ih (k + 1) _ _ (by rw [← e, Nat.add_assoc, Nat.add_comm 1 m])
  have e := key hs.length 0 none none (Nat.zero_add _)
  unfold yh
  rw [show z4 5 cf (F10 sc v1 hn pq hq v6 v7 v8 v9 v10 v11 v12 v13 v14 v15 v16 v17 v18) (S.hp r) = .ok (.ref (hq + 15)) (S.hp r) from rfl, Out.bind_ok, qc (show (S.hp r)[hq + 15]? = _ from hl)]
  show Out.bind0 (yF (.many [19, 20]) (zT .And [(zN (z4 19) [.NotEq] [(z4 20)])]) (z4 19) (.ref (hq + 15)) (hs.length + 1) 0 [] cf (F10 sc v1 hn pq hq v6 v7 v8 v9 v10 v11 v12 v13 v14 v15 v16 v17 v18 ++ [none, none]) (S.hp r)) _ = _
  rw [e]; rfl
theorem nd6 (l : Nat) : (prv (l + 4) (l + 5) [adN l]).Nodup := by
  have d : ∀ {i j : Nat}, i ≠ j → l + i ≠ l + j := fun h e => h (Nat.add_left_cancel e)
  refine List.nodup_cons.mpr ⟨fun h => ?_, List.nodup_cons.mpr ⟨fun h => ?_, List.nodup_cons.mpr ⟨fun h => ?_, List.nodup_cons.mpr ⟨fun h => ?_, List.nodup_cons.mpr ⟨fun h => ?_, List.nodup_cons.mpr ⟨List.not_mem_nil, List.nodup_nil⟩⟩⟩⟩⟩⟩ <;> simp at h
theorem W5 {l q : Nat} (h : q ∈ prv (l + 4) (l + 5) [adN l]) : l ≤ q ∧ q < l + 6 := by
  simp [prv] at h
  lia
section
variable {T : Tab} {okf : Str → Str → Bool} (X : TT T okf) {n : Nat}
include X
theorem JL {c : Int} {h : Hp} : ∃ v, run T (n + 1) (.fn "_law_size_by") [.int c] h = .ok (.int v) h := by
  rw [yy X.kA6]
  have t := zX (op := .Eq) (y := z7 (.int 1)) (w := .int 1) (b := decide ((c.fdiv 13).fmod 8 = 1)) (wV (d := 8) (qg (d := 13) (z3 (i := 0) (cf := run T n) (h := h) (fr := [some (.int c)]) rfl) (by decide)) (by decide)) rfl (by rw [xb, xP])
  cases hb : decide ((c.fdiv 13).fmod 8 = 1) with
  | true =>
    rw [hb] at t
    exact ⟨_, zL (fr := [some (.int c)]) rfl rfl (zJ ((zZ t).trans (zJ (zd (Y5 (x := z7 (.int 30)) rfl (wV (d := 31) (qg (d := 104) (z3 rfl) (by decide)) (by decide)))))))⟩
  | false =>
    rw [hb] at t
    exact ⟨_, zL (fr := [some (.int c)]) rfl rfl ((z5 ((zH t).trans zC)).trans (zJ (zd (wV (d := 13) (z3 rfl) (by decide)))))⟩
theorem law_ {is : List Int} (hs : is.length ≤ 63) : ∃ h', run T (n + 9) (.fn "law") [.lst (is.map AV.int)] [] = .ok (.bool true) h' := by
  rw [yy X.kCb]
  have c0 := fun h => jL X (n := n + 7) (is := is) (k := 0) (h := h) (by decide) hs
  have c1 := fun h => jL X (n := n + 7) (is := is) (k := 1) (h := h) (by decide) hs
  have c2 := fun h => jL X (n := n + 7) (is := is) (k := 2) (h := h) (by decide) hs
  obtain ⟨sz, es⟩ := JL X (n := n + 7) (c := is[(0 : Int).toNat]?.getD 0) (h := [])
  have m20 := fmr sz (d := 20) (by decide)
  obtain ⟨cs, o, et, ok, lc⟩ := XK X (n := n + 6) (c := is[(1 : Int).toNat]?.getD 0) (m := sz.fmod 20) (h := []) m20.1 (Int.le_trans (Int.le_of_lt m20.2) (by decide))
  have hc : cs.length ≤ 60 := Int.ofNat_le.mp (by rw [lc]; exact Int.le_trans (Int.le_of_lt m20.2) (by decide))
  have h9 := fmr (is[(2 : Int).toNat]?.getD 0) (d := 9) (by decide)
  generalize hhn : 1 + (is[(2 : Int).toNat]?.getD 0).fmod 9 = hn
  have hh1 : 1 ≤ hn ∧ hn ≤ 9 := by lia
  obtain ⟨g2, r, ei, D⟩ := zE1 X (n := n + 3) (g0 := o) (hands := hn) ok hc hh1.1 hh1.2
  obtain ⟨V, _⟩ := iv1 o g2 hn (cs := cs) (Nat.lt_of_le_of_lt hc (by decide))
  have hh : (sh1 o g2 hn cs).hands = hn := rfl
  have hnil : (sh1 o g2 hn cs).dn = [] ∧ (sh1 o g2 hn cs).lo = [] := ⟨rfl, rfl⟩
  have hbl : (sh1 o g2 hn cs).b.length = cs.length ∧ (sh1 o g2 hn cs).le = cs := ⟨List.length_replicate, rfl⟩
  generalize hS : sh1 o g2 hn cs = S at ei D V hh hnil hbl
  generalize (List.replicate cs.length ([] : List (Int × Int))) = mvs0 at D V
  generalize (List.replicate cs.length ([] : List Int)) = cus0 at D V
  generalize hys : (is.take 23).drop 3 = ys
  have ly : ys.length ≤ 20 := by rw [← hys, List.length_drop, List.length_take]; lia
  have A0 : Bs hn 60 0 [] S mvs0 cus0 [] r := ⟨V, D, fun d us h => (nomatch h), fun q h => (nomatch h), hh, by rw [hbl.1]; exact hc, by rw [hbl.2]; exact hc, by rw [hnil.1]; exact Nat.le_refl _, fun d h => (by rw [hnil.1] at h; cases h), by rw [hnil.2]; exact Nat.le_refl _⟩
  have lr : ∀ g : Hp, (r ++ (q6 r.length ++ g)).length = r.length + 4 + g.length := fun g => by rw [zP, zP, ← Nat.add_assoc]; rfl
  have at_ : ∀ {k : Nat} {x : AO} {g : Hp}, g[k]? = some x → (r ++ (q6 r.length ++ g))[r.length + (4 + k)]? = some x := fun h => by
    rw [xJ]; exact (xJ (q6 r.length) _ _).trans h
  have L0 : L10 hn 0 (r.length + 4) (r.length + 5) [adN r.length] [(0, [])] (r.length + 6, ys) [] S mvs0 cus0 [] (r ++ (q6 r.length ++ [.list [.ref (r.length + 3 + 15)], .list [], .list (ys.map AV.int)])) := by
    refine ⟨A0.grow _ fun q h => .inr ?_, nd6 _, at_ (k := 0) rfl, at_ (k := 1) rfl, fun j a m es h1 h2 => ?_, rfl, fun v h => (nomatch h), zc rfl, at_ (k := 2) rfl, (D.ge (Nat.le_add_right _ _)).1, (D.ge (Nat.le_add_right _ _)).2, fun h => absurd (W5 h).2 (Nat.lt_irrefl _)⟩
    · obtain ⟨q1, q2⟩ := W5 h
      rw [lr]
      exact ⟨q1, Nat.lt_of_lt_of_le q2 (Nat.add_le_add_left (show 6 ≤ 4 + 3 by decide) r.length)⟩
    · cases j with
      | succ j => cases h1
      | zero =>
        cases h1; cases h2
        rw [← List.append_assoc]
        exact (Ro.new _ _ r).keep (fun q _ o h => zE h) (Nat.le_refl _) (Nat.le_refl _)
  generalize hr7 : r ++ (q6 r.length ++ [AO.list [.ref (r.length + 3 + 15)], .list [], .list (ys.map AV.int)]) = r7 at L0
  obtain ⟨fr', h', ef, v6, v7, v8, v9, v10, v11, v12, v13, v14, v15, v16, v17, v18, ad, cs', hl, S', mvs, cus, sg, r', rfl, rfl, L, _⟩ := xB (t := .many [6, 7]) (src := .enum (r.length + 6 + 15)) (cf := run T (n + 8)) (xs := ys.mapIdx fun i y => AV.tup [.int (i : Int), .int y]) (body := s10 okf)
    (fun k fr h => ∃ v6 v7 v8 v9 v10 v11 v12 v13 v14 v15 v16 v17 v18 ad cs' hl S' mvs cus sg r', fr = F10 (.lst (is.map AV.int)) (.str (tx cs)) hn (r.length + 4) (r.length + 5) v6 v7 v8 v9 v10 v11 v12 v13 v14 v15 v16 v17 v18 ∧ h = Sh.hp S' r' ∧ L10 hn k (r.length + 4) (r.length + 5) ad cs' (r.length + 6, ys) hl S' mvs cus sg r' ∧ 0 < ad.length ∧ ((k : Int) ≤ 4 + (is[(0 : Int).toNat]?.getD 0).fmod 4 → ad.length ≤ 1) ∧ hl.length ≤ 4 * k)
    (by
      rintro k fr h ⟨v6, v7, v8, v9, v10, v11, v12, v13, v14, v15, v16, v17, v18, ad, cs', hl, S', mvs, cus, sg, r', rfl, rfl, L, _⟩
      show (match r'[r.length + 6]? with | some (.list zs) => some ((zs[k]?).map fun x => AV.tup [.int k, x]) | _ => none) = _
      rw [show r'[r.length + 6]? = some (.list (ys.map AV.int)) from L.y.1]
      show some (((ys.map AV.int)[k]?).map fun x => AV.tup [.int k, x]) = _
      rw [List.getElem?_map, List.getElem?_mapIdx, Option.map_map]; rfl)
    (by
      rintro k x fr h ⟨v6, v7, v8, v9, v10, v11, v12, v13, v14, v15, v16, v17, v18, ad, cs', hl, S', mvs, cus, sg, r', rfl, rfl, L, l0, lim, zh⟩ hx
      rw [List.getElem?_mapIdx] at hx
      obtain ⟨y, hy, rfl⟩ := y6 hx
      have hk : k ≤ 24 := Nat.le_of_lt (Nat.lt_of_lt_of_le (y8 hy).1 (Nat.le_trans ly (by decide)))
      obtain ⟨ad2, cs2, hs2, S2, mvs2, cus2, sg2, r2, u8, u9, u10, u11, u12, u13, u14, u15, u16, u17, u18, e, L2, l2, lim2, z2⟩ := zBx X (n := n) (okf := okf) (v1 := .str (tx cs)) (y := y) (v8 := v8) (v9 := v9) (v10 := v10) (v11 := v11) (v12 := v12) (v13 := v13) (v14 := v14) (v15 := v15) (v16 := v16) (v17 := v17) (v18 := v18) L hk (Int.lt_of_lt_of_le (by decide) hh1.1) hs l0 rfl lim zh
      exact ⟨_, _, _, rfl, e, _, _, _, _, _, _, _, _, _, _, _, _, _, ad2, cs2, hs2, S2, mvs2, cus2, sg2, r2, rfl, rfl, L2, l2, lim2, z2⟩)
    (fr := F10 (.lst (is.map AV.int)) (.str (tx cs)) hn (r.length + 4) (r.length + 5) none none none none none none none none none none none none none) (h := S.hp r7) ⟨_, _, _, _, _, _, _, _, _, _, _, _, _, [adN r.length], [(0, [])], [], S, mvs0, cus0, [], r7, rfl, rfl, L0, zc rfl, fun _ => Nat.le_refl _, Nat.le_refl _⟩
  rw [List.length_mapIdx] at ef
  have ecut : Z2 (z4 0) (z7 (.int 3)) (z7 (.int 23)) (run T (n + 8)) (F10 (.lst (is.map AV.int)) (.str (tx cs)) hn (r.length + 4) (r.length + 5) none none none none none none none none none none none none none) (S.hp (r ++ (q6 r.length ++ [AO.list [.ref (r.length + 3 + 15)], .list []]))) = .ok (.ref (r.length + 6 + 15)) (S.hp r7) := by
    refine (JW (z3 rfl) rfl rfl (z2b (qa (show okI 3 = true from rfl)) (qa (show okI 23 = true from rfl)) (by rw [List.length_map]; exact Nat.le_trans hs (by decide)))).trans ?_
    have e1 : ys.map AV.int = wT (is.map AV.int) 3 (some 23) := by
      rw [← hys]
      show ((is.take 23).drop 3).map AV.int = ((is.map AV.int).take 23).drop 3
      rw [List.map_drop, List.map_take]
    show Out.ok (AV.ref ((r ++ (q6 r.length ++ [AO.list [.ref (r.length + 3 + 15)], .list []])).length + 15)) (S.hp (r ++ (q6 r.length ++ [AO.list [.ref (r.length + 3 + 15)], .list []]) ++ [.list (wT (is.map AV.int) 3 (some 23))])) = _
    rw [← e1, ← hr7, lr, List.append_assoc]; rfl
  have hsx := qc (show (S.hp r7)[r.length + 6 + 15]? = some (.list (ys.map AV.int)) from L0.y.1)
  rw [List.length_map] at hsx
  have s2 := zW (okf := okf) (j := 2) (cf := run T (n + 8)) (h := [o]) (fr := [some (.lst (is.map AV.int)), some (.str (tx cs)), none, none, none, none, none, none, none, none, none, none, none, none, none, none, none, none, none]) (Y5 (x := z7 (.int 1)) rfl (wV (d := 9) (zg (n := "_law_cell_at") (ev1 (z3 (i := 0) rfl) (ev1 (x := z7 (.int 2)) rfl ev0)) (c2 [o])) (by decide))) (zc rfl)
  rw [hhn] at s2
  have x4 : zw [(zw [(zB (zA (some (.cls "Threads"))) [(z4 3)]), xm, (z7 (.int 0))])] (run T (n + 8)) [some (.lst (is.map AV.int)), some (.str (tx cs)), some (.int hn), some (.ref 1), none, none, none, none, none, none, none, none, none, none, none, none, none, none, none] (S.hp r) = .ok (.ref (r.length + 4 + 15)) (S.hp (r ++ (q6 r.length ++ [.list [.ref (r.length + 3 + 15)]]))) := by
    refine (yL (ev1 (W7 X (n := n + 7) (S := S) (r := r) rfl) ev0)).trans ?_
    show Out.ok (AV.ref ((r ++ q6 r.length).length + 15)) (S.hp (r ++ q6 r.length ++ [AO.list [.ref (r.length + 3 + 15)]])) = _
    rw [List.append_assoc, zP]; rfl
  have x5 : zw [] (run T (n + 8)) [some (.lst (is.map AV.int)), some (.str (tx cs)), some (.int hn), some (.ref 1), some (.ref (r.length + 4 + 15)), none, none, none, none, none, none, none, none, none, none, none, none, none, none] (S.hp (r ++ (q6 r.length ++ [.list [.ref (r.length + 3 + 15)]]))) = .ok (.ref (r.length + 5 + 15)) (S.hp (r ++ (q6 r.length ++ [.list [.ref (r.length + 3 + 15)], .list []]))) := by
    refine (yL ev0).trans ?_
    show Out.ok (AV.ref ((r ++ (q6 r.length ++ [AO.list [.ref (r.length + 3 + 15)]])).length + 15)) (S.hp (r ++ (q6 r.length ++ [AO.list [.ref (r.length + 3 + 15)]]) ++ [AO.list []])) = _
    rw [lr, List.append_assoc]; rfl
  have ez := Wp (S := S') (r := r') (cf := run T (n + 8)) (sc := .lst (is.map AV.int)) (v1 := .str (tx cs)) (hn := hn) (pq := r.length + 4) (v6 := v6) (v7 := v7) (v8 := v8) (v9 := v9) (v10 := v10) (v11 := v11) (v12 := v12) (v13 := v13) (v14 := v14) (v15 := v15) (v16 := v16) (v17 := v17) (v18 := v18) L.h (fun v hv => let ⟨a, b, xs, e, p, q⟩ := L.hd v hv; ⟨a, b, xs, e, p.1, q.1⟩)
  refine ⟨S'.hp (r' ++ [.list []] ++ [.list []]), zL (fr := [some (.lst (is.map AV.int)), none, none, none, none, none, none, none, none, none, none, none, none, none, none, none, none, none, none]) rfl rfl (fr' := F10 (.lst (is.map AV.int)) (.str (tx cs)) hn (r.length + 4) (r.length + 5) v6 v7 v8 v9 v10 v11 v12 v13 v14 v15 v16 v17 v18) ?_⟩
  refine (z5 (zW (j := 1) (zg (ev1 (zg (ev1 (z3 rfl) (ev1 rfl ev0)) (c1 [])) (ev1 (wV (zg (ev1 (zg (ev1 (z3 rfl) (ev1 rfl ev0)) (c0 [])) ev0) es) (by decide)) ev0)) et) (zc rfl))).trans ((z5 s2).trans ((z5 (zW (j := 3) (JX (ev1 (z3 rfl) (ev1 (z3 rfl) ev0)) ei) (zc rfl))).trans ((z5 (zW (j := 4) x4 (zc rfl))).trans ((z5 (zW (j := 5) x5 (zc rfl))).trans ((z5 (zC2 ecut hsx ef)).trans (zJ (zd ?_)))))))
  exact QR ez (yL ev0) (WF (l := []) (show (S'.hp (r' ++ [.list []] ++ [.list []]))[r'.length + 15]? = _ from zE (zO _ _ [])) (show (S'.hp (r' ++ [.list []] ++ [.list []]))[(r' ++ [AO.list []]).length + 15]? = _ from zO _ _ []))
end
end Mine.LS
end
section
noncomputable section
open PySem PySem.W PyProof.Rows
set_option maxRecDepth 1000000
set_option maxHeartbeats 8000000
namespace Mine.Hd
noncomputable abbrev prog : Program := PySem.Challenge.rw_uf010039_10.prog
noncomputable def dk (P : Params) (x : Str) (t : Tok) (v : Value) : DictEntry := ⟨PyData.keyHash P x, .str x t, v⟩
noncomputable def zEj (j : Option Nat) : Stmt → Option Stmt
  | .ClassDef _ _ _ b _ _ _ _ _ _ _ => j.bind fun j => b[j]?
  | s => some s
noncomputable def st (i : Nat) (j : Option Nat) : Option Stmt := (prog.main.body[i]?).bind (zEj j)
noncomputable def mkF (s : Option Stmt) (q : Str) (g : Addr) (cl : List (Str × Addr)) (d kd doc pm : Value) (an : Option Addr) (cd ct : Value) (bl : Addr) : FuncData := match s with
  | some (.FunctionDef n a b _ _ _ sc _ _ _) => ⟨n, q, a, .stmts b, sc, g, cl, d, kd, doc, pm, an, cd, ct, bl⟩
  | _ => default
noncomputable def tu (xs : List Value) : Obj := ⟨.type "tuple", none, .seq (Array.mk xs) 0, Array.mk []⟩
noncomputable def fi (xs : List Value) : Obj := ⟨.none, none, .fields (Array.mk xs), Array.mk []⟩
noncomputable def co (xs : List Value) : Obj := ⟨.type "code", none, .fields (Array.mk xs), Array.mk []⟩
noncomputable def fu (f : FuncData) : Obj := ⟨.type "function", none, .func f, Array.mk []⟩
noncomputable def f0 (f : FuncData) : Obj := ⟨.none, none, .func f, Array.mk []⟩
noncomputable def j (z : Int) : Value := .int z 0
noncomputable def o_3 (P : Params) : Obj := ⟨(.type "dict"), none, (.dict (List.toArray [dk P "__name__" 165 (.str "law_uf010039_10" 828), dk P "__doc__" 166 .none, dk P "__package__" 167 .none, dk P "__loader__" 168 (.builtin "__main__.__loader__#opaque"), dk P "__spec__" 169 .none, dk P "__annotations__" 170 (.ref 6), dk P "__builtins__" 171 (.ref 4), dk P "__file__" 173 (.str "/claim/cut.py" 172), dk P "__cached__" 174 .none, dk P "_wall" 193 (.ref 21), dk P "StickError" 213 (.ref 31), dk P "BadText" 229 (.ref 44), dk P "NoPlace" 245 (.ref 56), dk P "NoSeat" 261 (.ref 68), dk P "NoHand" 277 (.ref 80), dk P "NoDeed" 293 (.ref 92), dk P "NoMark" 309 (.ref 104), dk P "is_whole" 318 (.ref 113), dk P "Row" 424 (.ref 196), dk P "Threads" 515 (.ref 259), dk P "LETTERS" 519 (.str " !\"#$&'()*+,-./0123456789:;<=>?@ABCDEFGHIJKLMNOPQRSTUVWXYZ[\\]^_`abcdefghijklmnopqrstuvwxyz{|}~\n" 518), dk P "MOST_HANDS" 521 (.int (9) 520), dk P "is_text" 527 (.ref 268), dk P "Sheet" 827 (.ref 489), dk P "_law_cell_at" 837 (.ref 500), dk P "_law_whole" 844 (.ref 507), dk P "_law_mixed" 853 (.ref 514), dk P "_law_text_by" 859 (.ref 519), dk P "_law_size_by" 866 (.ref 526), dk P "_law_fresh" 872 (.ref 531), dk P "_law_sits" 882 (.ref 538), dk P "_law_is_shown" 888 (.ref 543), dk P "_law_shown" 899 (.ref 550), dk P "_law_at" 908 (.ref 557), dk P "_law_deed" 914 (.ref 562), dk P "_law_deed_by" 928 (.ref 569), dk P "_law_do" 942 (.ref 576), dk P "_law_told" 954 (.ref 583), dk P "_law_over" 968 (.ref 590), dk P "_law_stands" 974 (.ref 595), dk P "_law_is_gone" 983 (.ref 602), dk P "_law_not_tied" 993 (.ref 609), dk P "_law_turned" 1001 (.ref 616), dk P "law" 1007 (.ref 621)]) 44), (Array.mk [])⟩
noncomputable def zDu := tu []
noncomputable def zDt := tu [(.str "k" 190)]
noncomputable def zDs := tu []
noncomputable def zDr := co [(.str "_wall" 187), (.str "_wall" 188), (.str "/claim/cut.py" 189), j 1, j 1, j 0, j 0, j 3, (.ref 15), (.bool true), j 181, (.ref 16), .none, (.ref 17), (.ref 18), (.ref 19), j 191, j 1, (.str "/claim/cut.py" 192)]
noncomputable def zDq := fu (mkF (st 0 none) "_wall" 3 [] .none .none .none (.str "__main__" 164) none (.ref 20) .none 0)
noncomputable def zDp := tu [(.type "ValueError")]
noncomputable def zDo := tu []
noncomputable def zDn (P : Params) : Obj := ⟨(.type "dict"), none, (.dict (List.toArray [dk P "__module__" 203 (.str "stickmarks.errors" 194), dk P "__firstlineno__" 207 (.int (5) 206), dk P "__static_attributes__" 208 (.ref 29), dk P "__weakref__" 210 (.ref 32), dk P "__doc__" 211 .none]) 3), (Array.mk [])⟩
noncomputable def zDm : Obj := ⟨(.type "type"), none, (.cls ⟨"StickError", [(.type "ValueError")], [(.ref 31), (.type "ValueError"), (.type "Exception"), (.type "BaseException"), (.type "object")], 30, "StickError", true, [], [(.ref 44), (.ref 56), (.ref 68), (.ref 80), (.ref 92), (.ref 104)], false, none, false⟩), (Array.mk [some (.ref 22), none, some (.str "StickError" 196), some (.str "StickError" 204), some (.builtin "ValueError.__new__"), some (.bool true)])⟩
noncomputable def zDl : Obj := ⟨(.type "getset_descriptor"), none, (.fields (Array.mk [(.str "__weakref__" 209), (.ref 31), (.builtin "ExceptionGroup.__weakref__"), .none])), (Array.mk [])⟩
noncomputable def zDk := tu [(.ref 31)]
noncomputable def zDj := tu []
noncomputable def zDi (P : Params) : Obj := ⟨(.type "dict"), none, (.dict (List.toArray [dk P "__module__" 221 (.str "stickmarks.errors" 194), dk P "__firstlineno__" 225 (.int (7) 224), dk P "__static_attributes__" 226 (.ref 42), dk P "__doc__" 227 .none]) 2), (Array.mk [])⟩
noncomputable def zDh : Obj := ⟨(.type "type"), none, (.cls ⟨"BadText", [(.ref 31)], [(.ref 44), (.ref 31), (.type "ValueError"), (.type "Exception"), (.type "BaseException"), (.type "object")], 43, "BadText", true, [], [], false, none, false⟩), (Array.mk [some (.ref 35), none, some (.str "BadText" 214), some (.str "BadText" 222), some (.builtin "ValueError.__new__"), some (.bool true)])⟩
noncomputable def zDg := tu [(.ref 31)]
noncomputable def zDf := tu []
noncomputable def zDe (P : Params) : Obj := ⟨(.type "dict"), none, (.dict (List.toArray [dk P "__module__" 237 (.str "stickmarks.errors" 194), dk P "__firstlineno__" 241 (.int (9) 240), dk P "__static_attributes__" 242 (.ref 54), dk P "__doc__" 243 .none]) 2), (Array.mk [])⟩
noncomputable def zDd : Obj := ⟨(.type "type"), none, (.cls ⟨"NoPlace", [(.ref 31)], [(.ref 56), (.ref 31), (.type "ValueError"), (.type "Exception"), (.type "BaseException"), (.type "object")], 55, "NoPlace", true, [], [], false, none, false⟩), (Array.mk [some (.ref 47), none, some (.str "NoPlace" 230), some (.str "NoPlace" 238), some (.builtin "ValueError.__new__"), some (.bool true)])⟩
noncomputable def zDc := tu [(.ref 31)]
noncomputable def zDb := tu []
noncomputable def zDa (P : Params) : Obj := ⟨(.type "dict"), none, (.dict (List.toArray [dk P "__module__" 253 (.str "stickmarks.errors" 194), dk P "__firstlineno__" 257 (.int (11) 256), dk P "__static_attributes__" 258 (.ref 66), dk P "__doc__" 259 .none]) 2), (Array.mk [])⟩
noncomputable def zD9 : Obj := ⟨(.type "type"), none, (.cls ⟨"NoSeat", [(.ref 31)], [(.ref 68), (.ref 31), (.type "ValueError"), (.type "Exception"), (.type "BaseException"), (.type "object")], 67, "NoSeat", true, [], [], false, none, false⟩), (Array.mk [some (.ref 59), none, some (.str "NoSeat" 246), some (.str "NoSeat" 254), some (.builtin "ValueError.__new__"), some (.bool true)])⟩
noncomputable def zD8 := tu [(.ref 31)]
noncomputable def zD7 := tu []
noncomputable def zD6 (P : Params) : Obj := ⟨(.type "dict"), none, (.dict (List.toArray [dk P "__module__" 269 (.str "stickmarks.errors" 194), dk P "__firstlineno__" 273 (.int (13) 272), dk P "__static_attributes__" 274 (.ref 78), dk P "__doc__" 275 .none]) 2), (Array.mk [])⟩
noncomputable def zD5 : Obj := ⟨(.type "type"), none, (.cls ⟨"NoHand", [(.ref 31)], [(.ref 80), (.ref 31), (.type "ValueError"), (.type "Exception"), (.type "BaseException"), (.type "object")], 79, "NoHand", true, [], [], false, none, false⟩), (Array.mk [some (.ref 71), none, some (.str "NoHand" 262), some (.str "NoHand" 270), some (.builtin "ValueError.__new__"), some (.bool true)])⟩
noncomputable def zD4 := tu [(.ref 31)]
noncomputable def zD3 := tu []
noncomputable def zD2 (P : Params) : Obj := ⟨(.type "dict"), none, (.dict (List.toArray [dk P "__module__" 285 (.str "stickmarks.errors" 194), dk P "__firstlineno__" 289 (.int (15) 288), dk P "__static_attributes__" 290 (.ref 90), dk P "__doc__" 291 .none]) 2), (Array.mk [])⟩
noncomputable def zD1 : Obj := ⟨(.type "type"), none, (.cls ⟨"NoDeed", [(.ref 31)], [(.ref 92), (.ref 31), (.type "ValueError"), (.type "Exception"), (.type "BaseException"), (.type "object")], 91, "NoDeed", true, [], [], false, none, false⟩), (Array.mk [some (.ref 83), none, some (.str "NoDeed" 278), some (.str "NoDeed" 286), some (.builtin "ValueError.__new__"), some (.bool true)])⟩
noncomputable def zD0 := tu [(.ref 31)]
noncomputable def zBo := tu []
noncomputable def zBn (P : Params) : Obj := ⟨(.type "dict"), none, (.dict (List.toArray [dk P "__module__" 301 (.str "stickmarks.errors" 194), dk P "__firstlineno__" 305 (.int (17) 304), dk P "__static_attributes__" 306 (.ref 102), dk P "__doc__" 307 .none]) 2), (Array.mk [])⟩
noncomputable def zBm : Obj := ⟨(.type "type"), none, (.cls ⟨"NoMark", [(.ref 31)], [(.ref 104), (.ref 31), (.type "ValueError"), (.type "Exception"), (.type "BaseException"), (.type "object")], 103, "NoMark", true, [], [], false, none, false⟩), (Array.mk [some (.ref 95), none, some (.str "NoMark" 294), some (.str "NoMark" 302), some (.builtin "ValueError.__new__"), some (.bool true)])⟩
noncomputable def zBl := tu []
noncomputable def zBk := tu [(.str "thing" 315)]
noncomputable def zBj := tu []
noncomputable def zBi := co [(.str "is_whole" 312), (.str "is_whole" 313), (.str "/claim/cut.py" 314), j 20, j 1, j 0, j 0, j 3, (.ref 107), (.bool true), j 181, (.ref 108), .none, (.ref 109), (.ref 110), (.ref 111), j 316, j 20, (.str "/claim/cut.py" 317)]
noncomputable def zBh := fu (mkF (st 10 none) "is_whole" 3 [] .none .none .none (.str "stickmarks.seats" 310) none (.ref 112) .none 0)
noncomputable def zBg := tu []
noncomputable def zBf := tu [(.str "self" 334)]
noncomputable def zBe := tu []
noncomputable def zBd := co [(.str "__init__" 331), (.str "Row.__init__" 332), (.str "/claim/cut.py" 333), j 24, j 1, j 0, j 0, j 3, (.ref 121), (.bool true), j 181, (.ref 122), .none, (.ref 123), (.ref 124), (.ref 125), j 335, j 24, (.str "/claim/cut.py" 336)]
noncomputable def zBc := fu (mkF (st 11 (some 0)) "Row.__init__" 3 [] .none .none .none (.str "stickmarks.seats" 310) none (.ref 126) .none 0)
noncomputable def zBb := tu []
noncomputable def zBa := tu [(.str "self" 341), (.str "seat" 342)]
noncomputable def zB9 := tu []
noncomputable def zB8 := co [(.str "need_seat" 338), (.str "Row.need_seat" 339), (.str "/claim/cut.py" 340), j 28, j 2, j 0, j 0, j 3, (.ref 128), (.bool true), j 181, (.ref 129), .none, (.ref 130), (.ref 131), (.ref 132), j 343, j 28, (.str "/claim/cut.py" 344)]
noncomputable def zB7 := fu (mkF (st 11 (some 1)) "Row.need_seat" 3 [] .none .none .none (.str "stickmarks.seats" 310) none (.ref 133) .none 0)
noncomputable def zB6 := tu []
noncomputable def zB5 := tu [(.str "self" 349), (.str "behind" 350), (.str "at" 351), (.str "seat" 352)]
noncomputable def zB4 := tu []
noncomputable def zB3 := co [(.str "add" 346), (.str "Row.add" 347), (.str "/claim/cut.py" 348), j 32, j 2, j 0, j 0, j 3, (.ref 135), (.bool true), j 181, (.ref 136), .none, (.ref 137), (.ref 138), (.ref 139), j 353, j 32, (.str "/claim/cut.py" 354)]
noncomputable def zB2 := fu (mkF (st 11 (some 2)) "Row.add" 3 [] .none .none .none (.str "stickmarks.seats" 310) none (.ref 140) .none 0)
noncomputable def zB1 := tu []
noncomputable def zB0 := tu [(.str "self" 359), (.str "seat" 360), (.str "is_taken" 361)]
noncomputable def zAz := tu []
noncomputable def zAy := co [(.str "take" 356), (.str "Row.take" 357), (.str "/claim/cut.py" 358), j 42, j 3, j 0, j 0, j 3, (.ref 142), (.bool true), j 181, (.ref 143), .none, (.ref 144), (.ref 145), (.ref 146), j 362, j 42, (.str "/claim/cut.py" 363)]
noncomputable def zAx := fu (mkF (st 11 (some 3)) "Row.take" 3 [] .none .none .none (.str "stickmarks.seats" 310) none (.ref 147) .none 0)
noncomputable def zAw := tu []
noncomputable def zAv := tu [(.str "self" 368), (.str "seat" 369)]
noncomputable def zAu := tu []
noncomputable def zAt := co [(.str "is_taken" 365), (.str "Row.is_taken" 366), (.str "/claim/cut.py" 367), j 46, j 2, j 0, j 0, j 3, (.ref 149), (.bool true), j 181, (.ref 150), .none, (.ref 151), (.ref 152), (.ref 153), j 370, j 46, (.str "/claim/cut.py" 371)]
noncomputable def zAs := fu (mkF (st 11 (some 4)) "Row.is_taken" 3 [] .none .none .none (.str "stickmarks.seats" 310) none (.ref 154) .none 0)
noncomputable def zAr := tu []
noncomputable def zAq := tu [(.str "self" 376)]
noncomputable def zAp := tu []
noncomputable def zAo := co [(.str "many" 373), (.str "Row.many" 374), (.str "/claim/cut.py" 375), j 50, j 1, j 0, j 0, j 3, (.ref 156), (.bool true), j 181, (.ref 157), .none, (.ref 158), (.ref 159), (.ref 160), j 377, j 50, (.str "/claim/cut.py" 378)]
noncomputable def zAn := fu (mkF (st 11 (some 5)) "Row.many" 3 [] .none .none .none (.str "stickmarks.seats" 310) none (.ref 161) .none 0)
noncomputable def zAm := tu []
noncomputable def zAl := tu [(.str "self" 383)]
noncomputable def zAk := tu []
noncomputable def zAj := co [(.str "all_taken" 380), (.str "Row.all_taken" 381), (.str "/claim/cut.py" 382), j 53, j 1, j 0, j 0, j 3, (.ref 163), (.bool true), j 181, (.ref 164), .none, (.ref 165), (.ref 166), (.ref 167), j 384, j 53, (.str "/claim/cut.py" 385)]
noncomputable def zAi := fu (mkF (st 11 (some 6)) "Row.all_taken" 3 [] .none .none .none (.str "stickmarks.seats" 310) none (.ref 168) .none 0)
noncomputable def zAh := tu []
noncomputable def zAg := co [(.str "ahead" 387), (.str "Row.ahead" 388), (.str "/claim/cut.py" 389), j 56, j 2, j 0, j 0, j 3, (.ref 170), (.bool true), j 181, (.ref 171), .none, .none, .none, (.ref 172), j 390, j 56, (.str "/claim/cut.py" 391)]
noncomputable def zAf := fu (mkF (st 11 (some 7)) "Row.ahead" 3 [] .none .none .none (.str "stickmarks.seats" 310) none (.ref 173) .none 0)
noncomputable def zAe := tu []
noncomputable def zAd := co [(.str "find" 393), (.str "Row.find" 394), (.str "/claim/cut.py" 395), j 61, j 2, j 0, j 0, j 3, (.ref 175), (.bool true), j 181, (.ref 176), .none, .none, .none, (.ref 177), j 396, j 61, (.str "/claim/cut.py" 397)]
noncomputable def zAc := fu (mkF (st 11 (some 8)) "Row.find" 3 [] .none .none .none (.str "stickmarks.seats" 310) none (.ref 178) .none 0)
noncomputable def zAb := tu []
noncomputable def zAa := tu [(.str "self" 402), (.str "one" 403), (.str "other" 404)]
noncomputable def zA9 := tu []
noncomputable def zA8 := co [(.str "is_ahead" 399), (.str "Row.is_ahead" 400), (.str "/claim/cut.py" 401), j 67, j 3, j 0, j 0, j 3, (.ref 180), (.bool true), j 181, (.ref 181), .none, (.ref 182), (.ref 183), (.ref 184), j 405, j 67, (.str "/claim/cut.py" 406)]
noncomputable def zA7 := fu (mkF (st 11 (some 9)) "Row.is_ahead" 3 [] .none .none .none (.str "stickmarks.seats" 310) none (.ref 185) .none 0)
noncomputable def zA6 := tu []
noncomputable def zA5 := tu [(.str "self" 411)]
noncomputable def zA4 := tu []
noncomputable def zA3 := co [(.str "order" 408), (.str "Row.order" 409), (.str "/claim/cut.py" 410), j 72, j 1, j 0, j 0, j 3, (.ref 187), (.bool true), j 181, (.ref 188), .none, (.ref 189), (.ref 190), (.ref 191), j 412, j 72, (.str "/claim/cut.py" 413)]
noncomputable def zA2 := fu (mkF (st 11 (some 10)) "Row.order" 3 [] .none .none .none (.str "stickmarks.seats" 310) none (.ref 192) .none 0)
noncomputable def zA1 := tu [(.str "flags" 415), (.str "line" 416)]
noncomputable def zA0 (P : Params) : Obj := ⟨(.type "dict"), none, (.dict (List.toArray [dk P "__module__" 326 (.str "stickmarks.seats" 310), dk P "__firstlineno__" 330 (.int (22) 329), dk P "__init__" 337 (.ref 127), dk P "need_seat" 345 (.ref 134), dk P "add" 355 (.ref 141), dk P "take" 364 (.ref 148), dk P "is_taken" 372 (.ref 155), dk P "many" 379 (.ref 162), dk P "all_taken" 386 (.ref 169), dk P "ahead" 392 (.ref 174), dk P "find" 398 (.ref 179), dk P "is_ahead" 407 (.ref 186), dk P "order" 414 (.ref 193), dk P "__static_attributes__" 417 (.ref 194), dk P "__dict__" 419 (.ref 197), dk P "__weakref__" 421 (.ref 198), dk P "__doc__" 422 .none]) 4), (Array.mk [])⟩
noncomputable def z9z : Obj := ⟨(.type "type"), none, (.cls ⟨"Row", [(.type "object")], [(.ref 196), (.type "object")], 195, "Row", true, [], [], false, none, false⟩), (Array.mk [none, none, some (.str "Row" 319), some (.str "Row" 327), some (.builtin "object.__new__"), some (.bool true)])⟩
noncomputable def z9y : Obj := ⟨(.type "getset_descriptor"), none, (.fields (Array.mk [(.str "__dict__" 418), (.ref 196), (.builtin "function.__dict__"), (.builtin "function.__dict__#set")])), (Array.mk [])⟩
noncomputable def z9x : Obj := ⟨(.type "getset_descriptor"), none, (.fields (Array.mk [(.str "__weakref__" 420), (.ref 196), (.builtin "ExceptionGroup.__weakref__"), .none])), (Array.mk [])⟩
noncomputable def z9w := tu []
noncomputable def z9v := tu [(.str "self" 442), (.str "sheet" 443)]
noncomputable def z9u := tu []
noncomputable def z9t := co [(.str "__init__" 439), (.str "Threads.__init__" 440), (.str "/claim/cut.py" 441), j 77, j 2, j 0, j 0, j 3, (.ref 208), (.bool true), j 181, (.ref 209), .none, (.ref 210), (.ref 211), (.ref 212), j 444, j 77, (.str "/claim/cut.py" 445)]
noncomputable def z9s := fu (mkF (st 13 (some 0)) "Threads.__init__" 3 [] .none .none .none (.str "stickmarks.threads" 425) none (.ref 213) .none 0)
noncomputable def z9r := tu []
noncomputable def z9q := tu [(.str "self" 450), (.str "number" 451)]
noncomputable def z9p := tu []
noncomputable def z9o := co [(.str "need_thread" 447), (.str "Threads.need_thread" 448), (.str "/claim/cut.py" 449), j 82, j 2, j 0, j 0, j 3, (.ref 215), (.bool true), j 181, (.ref 216), .none, (.ref 217), (.ref 218), (.ref 219), j 452, j 82, (.str "/claim/cut.py" 453)]
noncomputable def z9n := fu (mkF (st 13 (some 1)) "Threads.need_thread" 3 [] .none .none .none (.str "stickmarks.threads" 425) none (.ref 220) .none 0)
noncomputable def z9m := tu []
noncomputable def z9l := tu [(.str "self" 458), (.str "begin" 459), (.str "end" 460), (.str "number" 461)]
noncomputable def z9k := tu []
noncomputable def z9j := co [(.str "tie" 455), (.str "Threads.tie" 456), (.str "/claim/cut.py" 457), j 86, j 3, j 0, j 0, j 3, (.ref 222), (.bool true), j 181, (.ref 223), .none, (.ref 224), (.ref 225), (.ref 226), j 462, j 86, (.str "/claim/cut.py" 463)]
noncomputable def z9i := fu (mkF (st 13 (some 2)) "Threads.tie" 3 [] .none .none .none (.str "stickmarks.threads" 425) none (.ref 227) .none 0)
noncomputable def z9h := tu []
noncomputable def z9g := tu [(.str "self" 468), (.str "number" 469)]
noncomputable def z9f := tu []
noncomputable def z9e := co [(.str "drop" 465), (.str "Threads.drop" 466), (.str "/claim/cut.py" 467), j 93, j 2, j 0, j 0, j 3, (.ref 229), (.bool true), j 181, (.ref 230), .none, (.ref 231), (.ref 232), (.ref 233), j 470, j 93, (.str "/claim/cut.py" 471)]
noncomputable def z9d := fu (mkF (st 13 (some 3)) "Threads.drop" 3 [] .none .none .none (.str "stickmarks.threads" 425) none (.ref 234) .none 0)
noncomputable def z9c := tu []
noncomputable def z9b := tu [(.str "self" 476), (.str "number" 477), (.str "first" 478), (.str "second" 479), (.str "begin" 480), (.str "end" 481), (.str "is_shown" 482)]
noncomputable def z9a := tu []
noncomputable def z99 := co [(.str "told" 473), (.str "Threads.told" 474), (.str "/claim/cut.py" 475), j 97, j 2, j 0, j 0, j 3, (.ref 236), (.bool true), j 181, (.ref 237), .none, (.ref 238), (.ref 239), (.ref 240), j 483, j 97, (.str "/claim/cut.py" 484)]
noncomputable def z98 := fu (mkF (st 13 (some 4)) "Threads.told" 3 [] .none .none .none (.str "stickmarks.threads" 425) none (.ref 241) .none 0)
noncomputable def z97 := tu []
noncomputable def z96 := tu [(.str "self" 489)]
noncomputable def z95 := tu []
noncomputable def z94 := co [(.str "numbers" 486), (.str "Threads.numbers" 487), (.str "/claim/cut.py" 488), j 106, j 1, j 0, j 0, j 3, (.ref 243), (.bool true), j 181, (.ref 244), .none, (.ref 245), (.ref 246), (.ref 247), j 490, j 106, (.str "/claim/cut.py" 491)]
noncomputable def z93 := fu (mkF (st 13 (some 5)) "Threads.numbers" 3 [] .none .none .none (.str "stickmarks.threads" 425) none (.ref 248) .none 0)
noncomputable def z92 := tu []
noncomputable def z91 := tu [(.str "self" 496), (.str "place" 497), (.str "found" 498), (.str "number" 499), (.str "begin" 500), (.str "end" 501)]
noncomputable def z90 := tu []
noncomputable def z8z := co [(.str "over" 493), (.str "Threads.over" 494), (.str "/claim/cut.py" 495), j 109, j 2, j 0, j 0, j 3, (.ref 250), (.bool true), j 181, (.ref 251), .none, (.ref 252), (.ref 253), (.ref 254), j 502, j 109, (.str "/claim/cut.py" 503)]
noncomputable def z8y := fu (mkF (st 13 (some 6)) "Threads.over" 3 [] .none .none .none (.str "stickmarks.threads" 425) none (.ref 255) .none 0)
noncomputable def z8x := tu [(.str "coming" 505), (.str "kept" 506), (.str "sheet" 507)]
noncomputable def z8w (P : Params) : Obj := ⟨(.type "dict"), none, (.dict (List.toArray [dk P "__module__" 434 (.str "stickmarks.threads" 425), dk P "__firstlineno__" 438 (.int (75) 437), dk P "__init__" 446 (.ref 214), dk P "need_thread" 454 (.ref 221), dk P "tie" 464 (.ref 228), dk P "drop" 472 (.ref 235), dk P "told" 485 (.ref 242), dk P "numbers" 492 (.ref 249), dk P "over" 504 (.ref 256), dk P "__static_attributes__" 508 (.ref 257), dk P "__dict__" 510 (.ref 260), dk P "__weakref__" 512 (.ref 261), dk P "__doc__" 513 .none]) 4), (Array.mk [])⟩
noncomputable def z8v : Obj := ⟨(.type "type"), none, (.cls ⟨"Threads", [(.type "object")], [(.ref 259), (.type "object")], 258, "Threads", true, [], [], false, none, false⟩), (Array.mk [none, none, some (.str "Threads" 427), some (.str "Threads" 435), some (.builtin "object.__new__"), some (.bool true)])⟩
noncomputable def z8u : Obj := ⟨(.type "getset_descriptor"), none, (.fields (Array.mk [(.str "__dict__" 509), (.ref 259), (.builtin "function.__dict__"), (.builtin "function.__dict__#set")])), (Array.mk [])⟩
noncomputable def z8t : Obj := ⟨(.type "getset_descriptor"), none, (.fields (Array.mk [(.str "__weakref__" 511), (.ref 259), (.builtin "ExceptionGroup.__weakref__"), .none])), (Array.mk [])⟩
noncomputable def z8s := tu []
noncomputable def z8r := co [(.str "is_text" 522), (.str "is_text" 523), (.str "/claim/cut.py" 524), j 120, j 1, j 0, j 0, j 3, (.ref 264), (.bool true), j 181, (.ref 265), .none, .none, .none, (.ref 266), j 525, j 120, (.str "/claim/cut.py" 526)]
noncomputable def z8q := fu (mkF (st 17 none) "is_text" 3 [] .none .none .none (.str "stickmarks.sheet" 516) none (.ref 267) .none 0)
noncomputable def z8p := tu []
noncomputable def z8o := tu [(.str "self" 543), (.str "text" 544), (.str "hands" 545)]
noncomputable def z8n := tu []
noncomputable def z8m := co [(.str "__init__" 540), (.str "Sheet.__init__" 541), (.str "/claim/cut.py" 542), j 124, j 3, j 0, j 0, j 3, (.ref 276), (.bool true), j 181, (.ref 277), .none, (.ref 278), (.ref 279), (.ref 280), j 546, j 124, (.str "/claim/cut.py" 547)]
noncomputable def z8l := fu (mkF (st 18 (some 0)) "Sheet.__init__" 3 [] .none .none .none (.str "stickmarks.sheet" 516) none (.ref 281) .none 0)
noncomputable def z8k := tu []
noncomputable def z8j := tu [(.str "self" 552), (.str "text" 553), (.str "behind" 554), (.str "deed" 555), (.str "found" 556), (.str "letter" 557)]
noncomputable def z8i := tu []
noncomputable def z8h := co [(.str "bring" 549), (.str "Sheet.bring" 550), (.str "/claim/cut.py" 551), j 142, j 4, j 0, j 0, j 3, (.ref 283), (.bool true), j 181, (.ref 284), .none, (.ref 285), (.ref 286), (.ref 287), j 558, j 142, (.str "/claim/cut.py" 559)]
noncomputable def z8g := fu (mkF (st 18 (some 1)) "Sheet.bring" 3 [] .none .none .none (.str "stickmarks.sheet" 516) none (.ref 288) .none 0)
noncomputable def z8f := tu []
noncomputable def z8e := tu [(.str "self" 564), (.str "hand" 565)]
noncomputable def z8d := tu []
noncomputable def z8c := co [(.str "need_hand" 561), (.str "Sheet.need_hand" 562), (.str "/claim/cut.py" 563), j 156, j 2, j 0, j 0, j 3, (.ref 290), (.bool true), j 181, (.ref 291), .none, (.ref 292), (.ref 293), (.ref 294), j 566, j 156, (.str "/claim/cut.py" 567)]
noncomputable def z8b := fu (mkF (st 18 (some 2)) "Sheet.need_hand" 3 [] .none .none .none (.str "stickmarks.sheet" 516) none (.ref 295) .none 0)
noncomputable def z8a := tu []
noncomputable def z89 := tu [(.str "self" 572), (.str "sign" 573)]
noncomputable def z88 := tu []
noncomputable def z87 := co [(.str "need_sign" 569), (.str "Sheet.need_sign" 570), (.str "/claim/cut.py" 571), j 160, j 2, j 0, j 0, j 3, (.ref 297), (.bool true), j 181, (.ref 298), .none, (.ref 299), (.ref 300), (.ref 301), j 574, j 160, (.str "/claim/cut.py" 575)]
noncomputable def z86 := fu (mkF (st 18 (some 3)) "Sheet.need_sign" 3 [] .none .none .none (.str "stickmarks.sheet" 516) none (.ref 302) .none 0)
noncomputable def z85 := tu []
noncomputable def z84 := tu [(.str "self" 580), (.str "place" 581)]
noncomputable def z83 := tu []
noncomputable def z82 := co [(.str "need_place" 577), (.str "Sheet.need_place" 578), (.str "/claim/cut.py" 579), j 164, j 2, j 0, j 0, j 3, (.ref 304), (.bool true), j 181, (.ref 305), .none, (.ref 306), (.ref 307), (.ref 308), j 582, j 164, (.str "/claim/cut.py" 583)]
noncomputable def z81 := fu (mkF (st 18 (some 4)) "Sheet.need_place" 3 [] .none .none .none (.str "stickmarks.sheet" 516) none (.ref 309) .none 0)
noncomputable def z80 := tu []
noncomputable def z7z := tu [(.str "self" 588), (.str "begin" 589), (.str "end" 590)]
noncomputable def z7y := tu []
noncomputable def z7x := co [(.str "need_stretch" 585), (.str "Sheet.need_stretch" 586), (.str "/claim/cut.py" 587), j 168, j 3, j 0, j 0, j 3, (.ref 311), (.bool true), j 181, (.ref 312), .none, (.ref 313), (.ref 314), (.ref 315), j 591, j 168, (.str "/claim/cut.py" 592)]
noncomputable def z7w := fu (mkF (st 18 (some 5)) "Sheet.need_stretch" 3 [] .none .none .none (.str "stickmarks.sheet" 516) none (.ref 316) .none 0)
noncomputable def z7v := tu []
noncomputable def z7u := tu [(.str "self" 597), (.str "number" 598)]
noncomputable def z7t := tu []
noncomputable def z7s := co [(.str "need_deed" 594), (.str "Sheet.need_deed" 595), (.str "/claim/cut.py" 596), j 174, j 2, j 0, j 0, j 3, (.ref 318), (.bool true), j 181, (.ref 319), .none, (.ref 320), (.ref 321), (.ref 322), j 599, j 174, (.str "/claim/cut.py" 600)]
noncomputable def z7r := fu (mkF (st 18 (some 6)) "Sheet.need_deed" 3 [] .none .none .none (.str "stickmarks.sheet" 516) none (.ref 323) .none 0)
noncomputable def z7q := tu []
noncomputable def z7p := tu [(.str "self" 605), (.str "sign" 606), (.str "seat" 607), (.str "deed" 608), (.str "other" 609)]
noncomputable def z7o := tu []
noncomputable def z7n := co [(.str "seat_of" 602), (.str "Sheet.seat_of" 603), (.str "/claim/cut.py" 604), j 178, j 2, j 0, j 0, j 3, (.ref 325), (.bool true), j 181, (.ref 326), .none, (.ref 327), (.ref 328), (.ref 329), j 610, j 178, (.str "/claim/cut.py" 611)]
noncomputable def z7m := fu (mkF (st 18 (some 7)) "Sheet.seat_of" 3 [] .none .none .none (.str "stickmarks.sheet" 516) none (.ref 330) .none 0)
noncomputable def z7l := tu []
noncomputable def z7k := co [(.str "is_shown" 613), (.str "Sheet.is_shown" 614), (.str "/claim/cut.py" 615), j 185, j 2, j 0, j 0, j 3, (.ref 332), (.bool true), j 181, (.ref 333), .none, .none, .none, (.ref 334), j 616, j 185, (.str "/claim/cut.py" 617)]
noncomputable def z7j := fu (mkF (st 18 (some 8)) "Sheet.is_shown" 3 [] .none .none .none (.str "stickmarks.sheet" 516) none (.ref 335) .none 0)
noncomputable def z7i := tu []
noncomputable def z7h := tu [(.str "self" 622), (.str "signs" 623), (.str "sign" 624), (.str "deed" 625), (.str "seat" 626)]
noncomputable def z7g := tu []
noncomputable def z7f := co [(.str "seated" 619), (.str "Sheet.seated" 620), (.str "/claim/cut.py" 621), j 191, j 2, j 0, j 0, j 3, (.ref 337), (.bool true), j 181, (.ref 338), .none, (.ref 339), (.ref 340), (.ref 341), j 627, j 191, (.str "/claim/cut.py" 628)]
noncomputable def z7e := fu (mkF (st 18 (some 9)) "Sheet.seated" 3 [] .none .none .none (.str "stickmarks.sheet" 516) none (.ref 342) .none 0)
noncomputable def z7d := tu []
noncomputable def z7c := tu [(.str "self" 633)]
noncomputable def z7b := tu []
noncomputable def z7a := co [(.str "size" 630), (.str "Sheet.size" 631), (.str "/claim/cut.py" 632), j 199, j 1, j 0, j 0, j 3, (.ref 344), (.bool true), j 181, (.ref 345), .none, (.ref 346), (.ref 347), (.ref 348), j 634, j 199, (.str "/claim/cut.py" 635)]
noncomputable def z79 := fu (mkF (st 18 (some 10)) "Sheet.size" 3 [] .none .none .none (.str "stickmarks.sheet" 516) none (.ref 349) .none 0)
noncomputable def z78 := tu []
noncomputable def z77 := co [(.str "shown" 637), (.str "Sheet.shown" 638), (.str "/claim/cut.py" 639), j 202, j 1, j 0, j 0, j 3, (.ref 351), (.bool true), j 181, (.ref 352), .none, .none, .none, (.ref 353), j 640, j 202, (.str "/claim/cut.py" 641)]
noncomputable def z76 := fu (mkF (st 18 (some 11)) "Sheet.shown" 3 [] .none .none .none (.str "stickmarks.sheet" 516) none (.ref 354) .none 0)
noncomputable def z75 := tu []
noncomputable def z74 := co [(.str "text" 643), (.str "Sheet.text" 644), (.str "/claim/cut.py" 645), j 205, j 1, j 0, j 0, j 3, (.ref 356), (.bool true), j 181, (.ref 357), .none, .none, .none, (.ref 358), j 646, j 205, (.str "/claim/cut.py" 647)]
noncomputable def z73 := fu (mkF (st 18 (some 12)) "Sheet.text" 3 [] .none .none .none (.str "stickmarks.sheet" 516) none (.ref 359) .none 0)
noncomputable def z72 := tu []
noncomputable def z71 := tu [(.str "self" 652)]
noncomputable def z70 := tu []
noncomputable def z6z := co [(.str "many" 649), (.str "Sheet.many" 650), (.str "/claim/cut.py" 651), j 208, j 1, j 0, j 0, j 3, (.ref 361), (.bool true), j 181, (.ref 362), .none, (.ref 363), (.ref 364), (.ref 365), j 653, j 208, (.str "/claim/cut.py" 654)]
noncomputable def z6y := fu (mkF (st 18 (some 13)) "Sheet.many" 3 [] .none .none .none (.str "stickmarks.sheet" 516) none (.ref 366) .none 0)
noncomputable def z6x := tu []
noncomputable def z6w := tu [(.str "self" 659), (.str "sign" 660)]
noncomputable def z6v := tu []
noncomputable def z6u := co [(.str "letter" 656), (.str "Sheet.letter" 657), (.str "/claim/cut.py" 658), j 211, j 2, j 0, j 0, j 3, (.ref 368), (.bool true), j 181, (.ref 369), .none, (.ref 370), (.ref 371), (.ref 372), j 661, j 211, (.str "/claim/cut.py" 662)]
noncomputable def z6t := fu (mkF (st 18 (some 14)) "Sheet.letter" 3 [] .none .none .none (.str "stickmarks.sheet" 516) none (.ref 373) .none 0)
noncomputable def z6s := tu []
noncomputable def z6r := tu [(.str "self" 667), (.str "place" 668)]
noncomputable def z6q := tu []
noncomputable def z6p := co [(.str "sign_at" 664), (.str "Sheet.sign_at" 665), (.str "/claim/cut.py" 666), j 215, j 2, j 0, j 0, j 3, (.ref 375), (.bool true), j 181, (.ref 376), .none, (.ref 377), (.ref 378), (.ref 379), j 669, j 215, (.str "/claim/cut.py" 670)]
noncomputable def z6o := fu (mkF (st 18 (some 15)) "Sheet.sign_at" 3 [] .none .none .none (.str "stickmarks.sheet" 516) none (.ref 380) .none 0)
noncomputable def z6n := tu []
noncomputable def z6m := tu [(.str "self" 675), (.str "sign" 676)]
noncomputable def z6l := tu []
noncomputable def z6k := co [(.str "place_of" 672), (.str "Sheet.place_of" 673), (.str "/claim/cut.py" 674), j 218, j 2, j 0, j 0, j 3, (.ref 382), (.bool true), j 181, (.ref 383), .none, (.ref 384), (.ref 385), (.ref 386), j 677, j 218, (.str "/claim/cut.py" 678)]
noncomputable def z6j := fu (mkF (st 18 (some 16)) "Sheet.place_of" 3 [] .none .none .none (.str "stickmarks.sheet" 516) none (.ref 387) .none 0)
noncomputable def z6i := tu []
noncomputable def z6h := tu [(.str "self" 683), (.str "one" 684), (.str "other" 685)]
noncomputable def z6g := tu []
noncomputable def z6f := co [(.str "is_ahead" 680), (.str "Sheet.is_ahead" 681), (.str "/claim/cut.py" 682), j 222, j 3, j 0, j 0, j 3, (.ref 389), (.bool true), j 181, (.ref 390), .none, (.ref 391), (.ref 392), (.ref 393), j 686, j 222, (.str "/claim/cut.py" 687)]
noncomputable def z6e := fu (mkF (st 18 (some 17)) "Sheet.is_ahead" 3 [] .none .none .none (.str "stickmarks.sheet" 516) none (.ref 394) .none 0)
noncomputable def z6d := tu []
noncomputable def z6c := tu [(.str "self" 692), (.str "sign" 693)]
noncomputable def z6b := tu []
noncomputable def z6a := co [(.str "rank_of" 689), (.str "Sheet.rank_of" 690), (.str "/claim/cut.py" 691), j 227, j 2, j 0, j 0, j 3, (.ref 396), (.bool true), j 181, (.ref 397), .none, (.ref 398), (.ref 399), (.ref 400), j 694, j 227, (.str "/claim/cut.py" 695)]
noncomputable def z69 := fu (mkF (st 18 (some 18)) "Sheet.rank_of" 3 [] .none .none .none (.str "stickmarks.sheet" 516) none (.ref 401) .none 0)
noncomputable def z68 := tu []
noncomputable def z67 := tu [(.str "self" 700), (.str "place" 701)]
noncomputable def z66 := tu []
noncomputable def z65 := co [(.str "seat_ahead" 697), (.str "Sheet.seat_ahead" 698), (.str "/claim/cut.py" 699), j 230, j 2, j 0, j 0, j 3, (.ref 403), (.bool true), j 181, (.ref 404), .none, (.ref 405), (.ref 406), (.ref 407), j 702, j 230, (.str "/claim/cut.py" 703)]
noncomputable def z63 := fu (mkF (st 18 (some 19)) "Sheet.seat_ahead" 3 [] .none .none .none (.str "stickmarks.sheet" 516) none (.ref 408) .none 0)
noncomputable def z62 := tu []
noncomputable def z61 := tu [(.str "self" 708), (.str "hand" 709), (.str "word" 710), (.str "signs" 711)]
noncomputable def z60 := tu []
noncomputable def z5z := co [(.str "noted" 705), (.str "Sheet.noted" 706), (.str "/claim/cut.py" 707), j 235, j 4, j 0, j 0, j 3, (.ref 410), (.bool true), j 181, (.ref 411), .none, (.ref 412), (.ref 413), (.ref 414), j 712, j 235, (.str "/claim/cut.py" 713)]
noncomputable def z5y := fu (mkF (st 18 (some 20)) "Sheet.noted" 3 [] .none .none .none (.str "stickmarks.sheet" 516) none (.ref 415) .none 0)
noncomputable def z5x := tu []
noncomputable def z5w := tu [(.str "self" 718), (.str "hand" 719), (.str "place" 720), (.str "text" 721)]
noncomputable def z5v := tu []
noncomputable def z5u := co [(.str "put" 715), (.str "Sheet.put" 716), (.str "/claim/cut.py" 717), j 240, j 4, j 0, j 0, j 3, (.ref 417), (.bool true), j 181, (.ref 418), .none, (.ref 419), (.ref 420), (.ref 421), j 722, j 240, (.str "/claim/cut.py" 723)]
noncomputable def z5t := fu (mkF (st 18 (some 21)) "Sheet.put" 3 [] .none .none .none (.str "stickmarks.sheet" 516) none (.ref 422) .none 0)
noncomputable def z5s := tu []
noncomputable def z5r := tu [(.str "self" 728), (.str "hand" 729), (.str "begin" 730), (.str "end" 731), (.str "signs" 732), (.str "sign" 733)]
noncomputable def z5q := tu []
noncomputable def z5p := co [(.str "cut" 725), (.str "Sheet.cut" 726), (.str "/claim/cut.py" 727), j 248, j 4, j 0, j 0, j 3, (.ref 424), (.bool true), j 181, (.ref 425), .none, (.ref 426), (.ref 427), (.ref 428), j 734, j 248, (.str "/claim/cut.py" 735)]
noncomputable def z5o := fu (mkF (st 18 (some 22)) "Sheet.cut" 3 [] .none .none .none (.str "stickmarks.sheet" 516) none (.ref 429) .none 0)
noncomputable def z5n := tu []
noncomputable def z5m := tu [(.str "self" 740), (.str "hand" 741), (.str "begin" 742), (.str "end" 743), (.str "place" 744), (.str "signs" 745), (.str "behind" 746), (.str "sign" 747)]
noncomputable def z5l := tu []
noncomputable def z5k := co [(.str "move" 737), (.str "Sheet.move" 738), (.str "/claim/cut.py" 739), j 257, j 5, j 0, j 0, j 3, (.ref 431), (.bool true), j 181, (.ref 432), .none, (.ref 433), (.ref 434), (.ref 435), j 748, j 257, (.str "/claim/cut.py" 749)]
noncomputable def z5j := fu (mkF (st 18 (some 23)) "Sheet.move" 3 [] .none .none .none (.str "stickmarks.sheet" 516) none (.ref 436) .none 0)
noncomputable def z5i := tu []
noncomputable def z5h := tu [(.str "self" 754)]
noncomputable def z5g := tu []
noncomputable def z5f := co [(.str "deeds" 751), (.str "Sheet.deeds" 752), (.str "/claim/cut.py" 753), j 272, j 1, j 0, j 0, j 3, (.ref 438), (.bool true), j 181, (.ref 439), .none, (.ref 440), (.ref 441), (.ref 442), j 755, j 272, (.str "/claim/cut.py" 756)]
noncomputable def z5e := fu (mkF (st 18 (some 24)) "Sheet.deeds" 3 [] .none .none .none (.str "stickmarks.sheet" 516) none (.ref 443) .none 0)
noncomputable def z5d := tu []
noncomputable def z5c := tu [(.str "self" 761), (.str "number" 762), (.str "hand" 763), (.str "word" 764), (.str "signs" 765)]
noncomputable def z5b := tu []
noncomputable def z5a := co [(.str "deed" 758), (.str "Sheet.deed" 759), (.str "/claim/cut.py" 760), j 275, j 2, j 0, j 0, j 3, (.ref 445), (.bool true), j 181, (.ref 446), .none, (.ref 447), (.ref 448), (.ref 449), j 766, j 275, (.str "/claim/cut.py" 767)]
noncomputable def z59 := fu (mkF (st 18 (some 25)) "Sheet.deed" 3 [] .none .none .none (.str "stickmarks.sheet" 516) none (.ref 450) .none 0)
noncomputable def z58 := tu []
noncomputable def z57 := tu [(.str "self" 772), (.str "number" 773)]
noncomputable def z56 := tu []
noncomputable def z55 := co [(.str "stands" 769), (.str "Sheet.stands" 770), (.str "/claim/cut.py" 771), j 280, j 2, j 0, j 0, j 3, (.ref 452), (.bool true), j 181, (.ref 453), .none, (.ref 454), (.ref 455), (.ref 456), j 774, j 280, (.str "/claim/cut.py" 775)]
noncomputable def z54 := fu (mkF (st 18 (some 26)) "Sheet.stands" 3 [] .none .none .none (.str "stickmarks.sheet" 516) none (.ref 457) .none 0)
noncomputable def z53 := tu []
noncomputable def z52 := tu [(.str "self" 780), (.str "number" 781)]
noncomputable def z51 := tu []
noncomputable def z50 := co [(.str "take_back" 777), (.str "Sheet.take_back" 778), (.str "/claim/cut.py" 779), j 284, j 2, j 0, j 0, j 3, (.ref 459), (.bool true), j 181, (.ref 460), .none, (.ref 461), (.ref 462), (.ref 463), j 782, j 284, (.str "/claim/cut.py" 783)]
noncomputable def z4z := fu (mkF (st 18 (some 27)) "Sheet.take_back" 3 [] .none .none .none (.str "stickmarks.sheet" 516) none (.ref 464) .none 0)
noncomputable def z4y := tu []
noncomputable def z4x := tu [(.str "self" 788), (.str "number" 789)]
noncomputable def z4w := tu []
noncomputable def z4v := co [(.str "do_again" 785), (.str "Sheet.do_again" 786), (.str "/claim/cut.py" 787), j 291, j 2, j 0, j 0, j 3, (.ref 466), (.bool true), j 181, (.ref 467), .none, (.ref 468), (.ref 469), (.ref 470), j 790, j 291, (.str "/claim/cut.py" 791)]
noncomputable def z4u := fu (mkF (st 18 (some 28)) "Sheet.do_again" 3 [] .none .none .none (.str "stickmarks.sheet" 516) none (.ref 471) .none 0)
noncomputable def z4t := tu []
noncomputable def z4s := tu [(.str "self" 796), (.str "hand" 797)]
noncomputable def z4r := tu []
noncomputable def z4q := co [(.str "last_standing" 793), (.str "Sheet.last_standing" 794), (.str "/claim/cut.py" 795), j 298, j 2, j 0, j 0, j 3, (.ref 473), (.bool true), j 181, (.ref 474), .none, (.ref 475), (.ref 476), (.ref 477), j 798, j 298, (.str "/claim/cut.py" 799)]
noncomputable def z4p := fu (mkF (st 18 (some 29)) "Sheet.last_standing" 3 [] .none .none .none (.str "stickmarks.sheet" 516) none (.ref 478) .none 0)
noncomputable def z4o := tu []
noncomputable def z4n := tu [(.str "self" 804), (.str "hand" 805)]
noncomputable def z4m := tu []
noncomputable def z4l := co [(.str "last_gone" 801), (.str "Sheet.last_gone" 802), (.str "/claim/cut.py" 803), j 301, j 2, j 0, j 0, j 3, (.ref 480), (.bool true), j 181, (.ref 481), .none, (.ref 482), (.ref 483), (.ref 484), j 806, j 301, (.str "/claim/cut.py" 807)]
noncomputable def z4k := fu (mkF (st 18 (some 30)) "Sheet.last_gone" 3 [] .none .none .none (.str "stickmarks.sheet" 516) none (.ref 485) .none 0)
noncomputable def z4j := tu [(.str "bringers" 809), (.str "cutters" 810), (.str "done" 811), (.str "firsts" 812), (.str "hands" 813), (.str "letters" 814), (.str "lost" 815), (.str "moved" 816), (.str "owners" 817), (.str "row" 818), (.str "standing" 819)]
noncomputable def z4i (P : Params) : Obj := ⟨(.type "dict"), none, (.dict (List.toArray [dk P "__module__" 535 (.str "stickmarks.sheet" 516), dk P "__firstlineno__" 539 (.int (122) 538), dk P "__init__" 548 (.ref 282), dk P "bring" 560 (.ref 289), dk P "need_hand" 568 (.ref 296), dk P "need_sign" 576 (.ref 303), dk P "need_place" 584 (.ref 310), dk P "need_stretch" 593 (.ref 317), dk P "need_deed" 601 (.ref 324), dk P "seat_of" 612 (.ref 331), dk P "is_shown" 618 (.ref 336), dk P "seated" 629 (.ref 343), dk P "size" 636 (.ref 350), dk P "shown" 642 (.ref 355), dk P "text" 648 (.ref 360), dk P "many" 655 (.ref 367), dk P "letter" 663 (.ref 374), dk P "sign_at" 671 (.ref 381), dk P "place_of" 679 (.ref 388), dk P "is_ahead" 688 (.ref 395), dk P "rank_of" 696 (.ref 402), dk P "seat_ahead" 704 (.ref 409), dk P "noted" 714 (.ref 416), dk P "put" 724 (.ref 423), dk P "cut" 736 (.ref 430), dk P "move" 750 (.ref 437), dk P "deeds" 757 (.ref 444), dk P "deed" 768 (.ref 451), dk P "stands" 776 (.ref 458), dk P "take_back" 784 (.ref 465), dk P "do_again" 792 (.ref 472), dk P "last_standing" 800 (.ref 479), dk P "last_gone" 808 (.ref 486), dk P "__static_attributes__" 820 (.ref 487), dk P "__dict__" 822 (.ref 490), dk P "__weakref__" 824 (.ref 491), dk P "__doc__" 825 .none]) 4), (Array.mk [])⟩
noncomputable def z4h : Obj := ⟨(.type "type"), none, (.cls ⟨"Sheet", [(.type "object")], [(.ref 489), (.type "object")], 488, "Sheet", true, [], [], false, none, false⟩), (Array.mk [none, none, some (.str "Sheet" 528), some (.str "Sheet" 536), some (.builtin "object.__new__"), some (.bool true)])⟩
noncomputable def z4g : Obj := ⟨(.type "getset_descriptor"), none, (.fields (Array.mk [(.str "__dict__" 821), (.ref 489), (.builtin "function.__dict__"), (.builtin "function.__dict__#set")])), (Array.mk [])⟩
noncomputable def z4f : Obj := ⟨(.type "getset_descriptor"), none, (.fields (Array.mk [(.str "__weakref__" 823), (.ref 489), (.builtin "ExceptionGroup.__weakref__"), .none])), (Array.mk [])⟩
noncomputable def z4e := tu []
noncomputable def z4d := tu [(.str "_law_script" 833), (.str "_law_k" 834)]
noncomputable def z4c := tu []
noncomputable def z4b := co [(.str "_law_cell_at" 830), (.str "_law_cell_at" 831), (.str "/claim/cut.py" 832), j 304, j 2, j 0, j 0, j 3, (.ref 494), (.bool true), j 181, (.ref 495), .none, (.ref 496), (.ref 497), (.ref 498), j 835, j 304, (.str "/claim/cut.py" 836)]
noncomputable def z4a := fu (mkF (st 20 none) "_law_cell_at" 3 [] .none .none .none (.str "law_uf010039_10" 828) none (.ref 499) .none 0)
noncomputable def z49 := tu []
noncomputable def z48 := tu [(.str "_law_found" 841)]
noncomputable def z47 := tu []
noncomputable def z46 := co [(.str "_law_whole" 838), (.str "_law_whole" 839), (.str "/claim/cut.py" 840), j 308, j 1, j 0, j 0, j 3, (.ref 501), (.bool true), j 181, (.ref 502), .none, (.ref 503), (.ref 504), (.ref 505), j 842, j 308, (.str "/claim/cut.py" 843)]
noncomputable def z45 := fu (mkF (st 21 none) "_law_whole" 3 [] .none .none .none (.str "law_uf010039_10" 828) none (.ref 506) .none 0)
noncomputable def z44 := tu []
noncomputable def z43 := tu [(.str "_law_cell" 848), (.str "_law_k" 849), (.str "_law_number" 850)]
noncomputable def z42 := tu []
noncomputable def z41 := co [(.str "_law_mixed" 845), (.str "_law_mixed" 846), (.str "/claim/cut.py" 847), j 310, j 2, j 0, j 0, j 3, (.ref 508), (.bool true), j 181, (.ref 509), .none, (.ref 510), (.ref 511), (.ref 512), j 851, j 310, (.str "/claim/cut.py" 852)]
noncomputable def z40 := fu (mkF (st 22 none) "_law_mixed" 3 [] .none .none .none (.str "law_uf010039_10" 828) none (.ref 513) .none 0)
noncomputable def z3z := tu []
noncomputable def z3y := co [(.str "_law_text_by" 854), (.str "_law_text_by" 855), (.str "/claim/cut.py" 856), j 313, j 2, j 0, j 0, j 3, (.ref 515), (.bool true), j 181, (.ref 516), .none, .none, .none, (.ref 517), j 857, j 313, (.str "/claim/cut.py" 858)]
noncomputable def z3x := fu (mkF (st 23 none) "_law_text_by" 3 [] .none .none .none (.str "law_uf010039_10" 828) none (.ref 518) .none 0)
noncomputable def z3w := tu []
noncomputable def z3v := tu [(.str "_law_cell" 863)]
noncomputable def z3u := tu []
noncomputable def z3t := co [(.str "_law_size_by" 860), (.str "_law_size_by" 861), (.str "/claim/cut.py" 862), j 317, j 1, j 0, j 0, j 3, (.ref 520), (.bool true), j 181, (.ref 521), .none, (.ref 522), (.ref 523), (.ref 524), j 864, j 317, (.str "/claim/cut.py" 865)]
noncomputable def z3s := fu (mkF (st 24 none) "_law_size_by" 3 [] .none .none .none (.str "law_uf010039_10" 828) none (.ref 525) .none 0)
noncomputable def z3r := tu []
noncomputable def z3q := tu [(.str "_law_number" 918), (.str "_law_size" 919), (.str "_law_hands" 920), (.str "_law_hand" 921), (.str "_law_kind" 922), (.str "_law_begin" 923), (.str "_law_end" 924), (.str "_law_place" 925)]
noncomputable def z3p := tu []
noncomputable def z3o := co [(.str "_law_deed_by" 915), (.str "_law_deed_by" 916), (.str "/claim/cut.py" 917), j 369, j 3, j 0, j 0, j 3, (.ref 563), (.bool true), j 181, (.ref 564), .none, (.ref 565), (.ref 566), (.ref 567), j 926, j 369, (.str "/claim/cut.py" 927)]
noncomputable def z3n := fu (mkF (st 31 none) "_law_deed_by" 3 [] .none .none .none (.str "law_uf010039_10" 828) none (.ref 568) .none 0)
noncomputable def z3m := tu []
noncomputable def z3l := tu [(.str "_law_sheet" 932), (.str "_law_deed_here" 933), (.str "_law_hand" 934), (.str "_law_word" 935), (.str "_law_begin" 936), (.str "_law_end" 937), (.str "_law_place" 938), (.str "_law_text" 939)]
noncomputable def z3k := tu []
noncomputable def z3j := co [(.str "_law_do" 929), (.str "_law_do" 930), (.str "/claim/cut.py" 931), j 382, j 2, j 0, j 0, j 3, (.ref 570), (.bool true), j 181, (.ref 571), .none, (.ref 572), (.ref 573), (.ref 574), j 940, j 382, (.str "/claim/cut.py" 941)]
noncomputable def z3i := fu (mkF (st 32 none) "_law_do" 3 [] .none .none .none (.str "law_uf010039_10" 828) none (.ref 575) .none 0)
noncomputable def z3h := tu []
noncomputable def z3g := tu [(.str "_law_sheet" 946), (.str "_law_pair" 947), (.str "_law_one" 948), (.str "_law_other" 949), (.str "_law_place" 950), (.str "_law_is_here" 951)]
noncomputable def z3f := tu []
noncomputable def z3e := co [(.str "_law_told" 943), (.str "_law_told" 944), (.str "/claim/cut.py" 945), j 389, j 2, j 0, j 0, j 3, (.ref 577), (.bool true), j 181, (.ref 578), .none, (.ref 579), (.ref 580), (.ref 581), j 952, j 389, (.str "/claim/cut.py" 953)]
noncomputable def z3d := fu (mkF (st 33 none) "_law_told" 3 [] .none .none .none (.str "law_uf010039_10" 828) none (.ref 582) .none 0)
noncomputable def z3c := tu []
noncomputable def z3b := tu [(.str "_law_sheet" 958), (.str "_law_ends" 959), (.str "_law_place" 960), (.str "_law_at_here" 961), (.str "_law_found" 962), (.str "_law_number" 963), (.str "_law_begin" 964), (.str "_law_end" 965)]
noncomputable def z3a := tu []
noncomputable def z39 := co [(.str "_law_over" 955), (.str "_law_over" 956), (.str "/claim/cut.py" 957), j 395, j 3, j 0, j 0, j 3, (.ref 584), (.bool true), j 181, (.ref 585), .none, (.ref 586), (.ref 587), (.ref 588), j 966, j 395, (.str "/claim/cut.py" 967)]
noncomputable def z38 := fu (mkF (st 34 none) "_law_over" 3 [] .none .none .none (.str "law_uf010039_10" 828) none (.ref 589) .none 0)
noncomputable def z37 := tu []
noncomputable def z36 := co [(.str "_law_stands" 969), (.str "_law_stands" 970), (.str "/claim/cut.py" 971), j 403, j 5, j 0, j 0, j 3, (.ref 591), (.bool true), j 181, (.ref 592), .none, .none, .none, (.ref 593), j 972, j 403, (.str "/claim/cut.py" 973)]
noncomputable def z35 := fu (mkF (st 35 none) "_law_stands" 3 [] .none .none .none (.str "law_uf010039_10" 828) none (.ref 594) .none 0)
noncomputable def z34 := tu []
noncomputable def z33 := tu [(.str "_law_threads" 978), (.str "_law_number" 979), (.str "_law_way" 980)]
noncomputable def z32 := tu []
noncomputable def z31 := co [(.str "_law_is_gone" 975), (.str "_law_is_gone" 976), (.str "/claim/cut.py" 977), j 425, j 2, j 0, j 0, j 3, (.ref 596), (.bool true), j 181, (.ref 597), .none, (.ref 598), (.ref 599), (.ref 600), j 981, j 425, (.str "/claim/cut.py" 982)]
noncomputable def z30 := fu (mkF (st 36 none) "_law_is_gone" 3 [] .none .none .none (.str "law_uf010039_10" 828) none (.ref 601) .none 0)
noncomputable def z2z := tu []
noncomputable def z2y := tu [(.str "_law_threads" 987), (.str "_law_size" 988), (.str "_law_begin" 989), (.str "_law_end" 990)]
noncomputable def z2x := tu []
noncomputable def z2w := co [(.str "_law_not_tied" 984), (.str "_law_not_tied" 985), (.str "/claim/cut.py" 986), j 436, j 2, j 0, j 0, j 3, (.ref 603), (.bool true), j 181, (.ref 604), .none, (.ref 605), (.ref 606), (.ref 607), j 991, j 436, (.str "/claim/cut.py" 992)]
noncomputable def z2v := fu (mkF (st 37 none) "_law_not_tied" 3 [] .none .none .none (.str "law_uf010039_10" 828) none (.ref 608) .none 0)
noncomputable def z2u := tu []
noncomputable def z2t := tu [(.str "_law_sheet" 997), (.str "_law_number" 998)]
noncomputable def z2s := tu []
noncomputable def z2r := co [(.str "_law_turned" 994), (.str "_law_turned" 995), (.str "/claim/cut.py" 996), j 444, j 2, j 0, j 0, j 3, (.ref 610), (.bool true), j 181, (.ref 611), .none, (.ref 612), (.ref 613), (.ref 614), j 999, j 444, (.str "/claim/cut.py" 1000)]
noncomputable def z2q := fu (mkF (st 38 none) "_law_turned" 3 [] .none .none .none (.str "law_uf010039_10" 828) none (.ref 615) .none 0)
noncomputable def z2p := tu []
noncomputable def z2o := co [(.str "law" 1002), (.str "law" 1003), (.str "/claim/cut.py" 1004), j 449, j 1, j 0, j 0, j 3, (.ref 617), (.bool true), j 181, (.ref 618), .none, .none, .none, (.ref 619), j 1005, j 449, (.str "/claim/cut.py" 1006)]
noncomputable def z2n := fu (mkF (st 39 none) "law" 3 [] .none .none .none (.str "law_uf010039_10" 828) none (.ref 620) .none 0)
noncomputable def H1 (P : Params) : Heap := ⟨⟨[boot_o_0 P, boot_o_1 P, boot_o_2 P, o_3 P, boot_o_4 P, boot_o_5 P, boot_o_6 P, boot_o_7 P, boot_o_8 P, boot_o_9 P, boot_o_10 P, tu [], fi [j 1, j 0, (.ref 20), j 5, j 0, (.ref 27), j 7, j 0, (.ref 40), j 9, j 0, (.ref 52), j 11, j 0, (.ref 64), j 13, j 0, (.ref 76), j 15, j 0, (.ref 88), j 17, j 0, (.ref 100), j 20, j 0, (.ref 112), j 22, j 0, (.ref 119), j 75, j 0, (.ref 206), j 120, j 0, (.ref 267), j 122, j 0, (.ref 274), j 304, j 0, (.ref 499), j 308, j 0, (.ref 506), j 310, j 0, (.ref 513), j 313, j 0, (.ref 518), j 317, j 0, (.ref 525), j 321, j 0, (.ref 530), j 325, j 0, (.ref 537), j 332, j 0, (.ref 542), j 336, j 0, (.ref 549), j 343, j 0, (.ref 556), j 348, j 0, (.ref 561), j 369, j 0, (.ref 568), j 382, j 0, (.ref 575), j 389, j 0, (.ref 582), j 395, j 0, (.ref 589), j 403, j 0, (.ref 594), j 425, j 0, (.ref 601), j 436, j 0, (.ref 608), j 444, j 0, (.ref 615), j 449, j 0, (.ref 620)], co [(.str "<module>" 182), (.str "<module>" 183), (.str "/claim/cut.py" 184), j 1, j 0, j 0, j 0, j 0, (.ref 11), (.bool false), j 181, (.ref 12), .none, .none, .none, .none, j 185, j 1, (.str "/claim/cut.py" 186)], ⟨(.type "frame"), none, .plain, (Array.mk [some (.ref 13), some (.ref 3), some (.ref 3), none, some (.str "__main__" 164), none, some (.ref 0)])⟩, zDu, fi [], zDt, zDs, f0 (mkF (st 0 none) "_wall" 0 [] .none .none .none .none none .none .none 0), zDr, zDq, zDp, ⟨(.type "builtin_function_or_method"), none, (.fields (Array.mk [(.builtin "type.__prepare__"), (.type "type")])), (Array.mk [])⟩, ⟨(.type "dict"), none, (.dict (List.toArray [dk P "__module__" 203 (.str "stickmarks.errors" 194), dk P "__qualname__" 205 (.str "StickError" 204), dk P "__firstlineno__" 207 (.int (5) 206), dk P "__static_attributes__" 208 (.ref 29)]) 4), (Array.mk [])⟩, tu [], fi [], co [(.str "StickError" 198), (.str "StickError" 199), (.str "/claim/cut.py" 200), j 5, j 0, j 0, j 0, j 0, (.ref 25), (.bool false), j 181, (.ref 26), .none, .none, .none, .none, j 201, j 5, (.str "/claim/cut.py" 202)], ⟨(.type "frame"), none, .plain, (Array.mk [some (.ref 27), some (.ref 3), some (.ref 24), none, some (.str "stickmarks.errors" 194), none, some (.ref 0)])⟩, zDo, zDn P, zDm, zDl, ⟨(.type "super"), none, (.fields (Array.mk [(.ref 31), (.ref 31), (.ref 31)])), (Array.mk [])⟩, ⟨(.type "builtin_function_or_method"), none, (.fields (Array.mk [(.builtin "object.__init_subclass__"), (.ref 31)])), (Array.mk [])⟩, zDk, ⟨(.type "builtin_function_or_method"), none, (.fields (Array.mk [(.builtin "type.__prepare__"), (.type "type")])), (Array.mk [])⟩, ⟨(.type "dict"), none, (.dict (List.toArray [dk P "__module__" 221 (.str "stickmarks.errors" 194), dk P "__qualname__" 223 (.str "BadText" 222), dk P "__firstlineno__" 225 (.int (7) 224), dk P "__static_attributes__" 226 (.ref 42)]) 4), (Array.mk [])⟩, tu [], fi [], co [(.str "BadText" 216), (.str "BadText" 217), (.str "/claim/cut.py" 218), j 7, j 0, j 0, j 0, j 0, (.ref 38), (.bool false), j 181, (.ref 39), .none, .none, .none, .none, j 219, j 7, (.str "/claim/cut.py" 220)], ⟨(.type "frame"), none, .plain, (Array.mk [some (.ref 40), some (.ref 3), some (.ref 37), none, some (.str "stickmarks.errors" 194), none, some (.ref 0)])⟩, zDj, zDi P, zDh, ⟨(.type "super"), none, (.fields (Array.mk [(.ref 44), (.ref 44), (.ref 44)])), (Array.mk [])⟩, ⟨(.type "builtin_function_or_method"), none, (.fields (Array.mk [(.builtin "object.__init_subclass__"), (.ref 44)])), (Array.mk [])⟩, zDg, ⟨(.type "builtin_function_or_method"), none, (.fields (Array.mk [(.builtin "type.__prepare__"), (.type "type")])), (Array.mk [])⟩, ⟨(.type "dict"), none, (.dict (List.toArray [dk P "__module__" 237 (.str "stickmarks.errors" 194), dk P "__qualname__" 239 (.str "NoPlace" 238), dk P "__firstlineno__" 241 (.int (9) 240), dk P "__static_attributes__" 242 (.ref 54)]) 4), (Array.mk [])⟩, tu [], fi [], co [(.str "NoPlace" 232), (.str "NoPlace" 233), (.str "/claim/cut.py" 234), j 9, j 0, j 0, j 0, j 0, (.ref 50), (.bool false), j 181, (.ref 51), .none, .none, .none, .none, j 235, j 9, (.str "/claim/cut.py" 236)], ⟨(.type "frame"), none, .plain, (Array.mk [some (.ref 52), some (.ref 3), some (.ref 49), none, some (.str "stickmarks.errors" 194), none, some (.ref 0)])⟩, zDf, zDe P, zDd, ⟨(.type "super"), none, (.fields (Array.mk [(.ref 56), (.ref 56), (.ref 56)])), (Array.mk [])⟩, ⟨(.type "builtin_function_or_method"), none, (.fields (Array.mk [(.builtin "object.__init_subclass__"), (.ref 56)])), (Array.mk [])⟩, zDc, ⟨(.type "builtin_function_or_method"), none, (.fields (Array.mk [(.builtin "type.__prepare__"), (.type "type")])), (Array.mk [])⟩, ⟨(.type "dict"), none, (.dict (List.toArray [dk P "__module__" 253 (.str "stickmarks.errors" 194), dk P "__qualname__" 255 (.str "NoSeat" 254), dk P "__firstlineno__" 257 (.int (11) 256), dk P "__static_attributes__" 258 (.ref 66)]) 4), (Array.mk [])⟩, tu [], fi [], co [(.str "NoSeat" 248), (.str "NoSeat" 249), (.str "/claim/cut.py" 250), j 11, j 0, j 0, j 0, j 0, (.ref 62), (.bool false), j 181, (.ref 63), .none, .none, .none, .none, j 251, j 11, (.str "/claim/cut.py" 252)], ⟨(.type "frame"), none, .plain, (Array.mk [some (.ref 64), some (.ref 3), some (.ref 61), none, some (.str "stickmarks.errors" 194), none, some (.ref 0)])⟩, zDb, zDa P, zD9, ⟨(.type "super"), none, (.fields (Array.mk [(.ref 68), (.ref 68), (.ref 68)])), (Array.mk [])⟩, ⟨(.type "builtin_function_or_method"), none, (.fields (Array.mk [(.builtin "object.__init_subclass__"), (.ref 68)])), (Array.mk [])⟩, zD8, ⟨(.type "builtin_function_or_method"), none, (.fields (Array.mk [(.builtin "type.__prepare__"), (.type "type")])), (Array.mk [])⟩, ⟨(.type "dict"), none, (.dict (List.toArray [dk P "__module__" 269 (.str "stickmarks.errors" 194), dk P "__qualname__" 271 (.str "NoHand" 270), dk P "__firstlineno__" 273 (.int (13) 272), dk P "__static_attributes__" 274 (.ref 78)]) 4), (Array.mk [])⟩, tu [], fi [], co [(.str "NoHand" 264), (.str "NoHand" 265), (.str "/claim/cut.py" 266), j 13, j 0, j 0, j 0, j 0, (.ref 74), (.bool false), j 181, (.ref 75), .none, .none, .none, .none, j 267, j 13, (.str "/claim/cut.py" 268)], ⟨(.type "frame"), none, .plain, (Array.mk [some (.ref 76), some (.ref 3), some (.ref 73), none, some (.str "stickmarks.errors" 194), none, some (.ref 0)])⟩, zD7, zD6 P, zD5, ⟨(.type "super"), none, (.fields (Array.mk [(.ref 80), (.ref 80), (.ref 80)])), (Array.mk [])⟩, ⟨(.type "builtin_function_or_method"), none, (.fields (Array.mk [(.builtin "object.__init_subclass__"), (.ref 80)])), (Array.mk [])⟩, zD4, ⟨(.type "builtin_function_or_method"), none, (.fields (Array.mk [(.builtin "type.__prepare__"), (.type "type")])), (Array.mk [])⟩, ⟨(.type "dict"), none, (.dict (List.toArray [dk P "__module__" 285 (.str "stickmarks.errors" 194), dk P "__qualname__" 287 (.str "NoDeed" 286), dk P "__firstlineno__" 289 (.int (15) 288), dk P "__static_attributes__" 290 (.ref 90)]) 4), (Array.mk [])⟩, tu [], fi [], co [(.str "NoDeed" 280), (.str "NoDeed" 281), (.str "/claim/cut.py" 282), j 15, j 0, j 0, j 0, j 0, (.ref 86), (.bool false), j 181, (.ref 87), .none, .none, .none, .none, j 283, j 15, (.str "/claim/cut.py" 284)], ⟨(.type "frame"), none, .plain, (Array.mk [some (.ref 88), some (.ref 3), some (.ref 85), none, some (.str "stickmarks.errors" 194), none, some (.ref 0)])⟩, zD3, zD2 P, zD1, ⟨(.type "super"), none, (.fields (Array.mk [(.ref 92), (.ref 92), (.ref 92)])), (Array.mk [])⟩, ⟨(.type "builtin_function_or_method"), none, (.fields (Array.mk [(.builtin "object.__init_subclass__"), (.ref 92)])), (Array.mk [])⟩, zD0, ⟨(.type "builtin_function_or_method"), none, (.fields (Array.mk [(.builtin "type.__prepare__"), (.type "type")])), (Array.mk [])⟩, ⟨(.type "dict"), none, (.dict (List.toArray [dk P "__module__" 301 (.str "stickmarks.errors" 194), dk P "__qualname__" 303 (.str "NoMark" 302), dk P "__firstlineno__" 305 (.int (17) 304), dk P "__static_attributes__" 306 (.ref 102)]) 4), (Array.mk [])⟩, tu [], fi [], co [(.str "NoMark" 296), (.str "NoMark" 297), (.str "/claim/cut.py" 298), j 17, j 0, j 0, j 0, j 0, (.ref 98), (.bool false), j 181, (.ref 99), .none, .none, .none, .none, j 299, j 17, (.str "/claim/cut.py" 300)], ⟨(.type "frame"), none, .plain, (Array.mk [some (.ref 100), some (.ref 3), some (.ref 97), none, some (.str "stickmarks.errors" 194), none, some (.ref 0)])⟩, zBo, zBn P, zBm, ⟨(.type "super"), none, (.fields (Array.mk [(.ref 104), (.ref 104), (.ref 104)])), (Array.mk [])⟩, ⟨(.type "builtin_function_or_method"), none, (.fields (Array.mk [(.builtin "object.__init_subclass__"), (.ref 104)])), (Array.mk [])⟩, zBl, fi [], zBk, zBj, f0 (mkF (st 10 none) "is_whole" 0 [] .none .none .none .none none .none .none 0), zBi, zBh, tu [], ⟨(.type "builtin_function_or_method"), none, (.fields (Array.mk [(.builtin "type.__prepare__"), (.type "type")])), (Array.mk [])⟩, ⟨(.type "dict"), none, (.dict (List.toArray [dk P "__module__" 326 (.str "stickmarks.seats" 310), dk P "__qualname__" 328 (.str "Row" 327), dk P "__firstlineno__" 330 (.int (22) 329), dk P "__init__" 337 (.ref 127), dk P "need_seat" 345 (.ref 134), dk P "add" 355 (.ref 141), dk P "take" 364 (.ref 148), dk P "is_taken" 372 (.ref 155), dk P "many" 379 (.ref 162), dk P "all_taken" 386 (.ref 169), dk P "ahead" 392 (.ref 174), dk P "find" 398 (.ref 179), dk P "is_ahead" 407 (.ref 186), dk P "order" 414 (.ref 193), dk P "__static_attributes__" 417 (.ref 194)]) 15), (Array.mk [])⟩, tu [], fi [j 24, j 4, (.ref 126), j 28, j 4, (.ref 133), j 32, j 4, (.ref 140), j 42, j 4, (.ref 147), j 46, j 4, (.ref 154), j 50, j 4, (.ref 161), j 53, j 4, (.ref 168), j 56, j 4, (.ref 173), j 61, j 4, (.ref 178), j 67, j 4, (.ref 185), j 72, j 4, (.ref 192)], co [(.str "Row" 321), (.str "Row" 322), (.str "/claim/cut.py" 323), j 22, j 0, j 0, j 0, j 0, (.ref 117), (.bool false), j 181, (.ref 118), .none, .none, .none, .none, j 324, j 22, (.str "/claim/cut.py" 325)], ⟨(.type "frame"), none, .plain, (Array.mk [some (.ref 119), some (.ref 3), some (.ref 116), none, some (.str "stickmarks.seats" 310), none, some (.ref 0)])⟩, zBg, fi [], zBf, zBe, f0 (mkF (st 11 (some 0)) "Row.__init__" 0 [] .none .none .none .none none .none .none 0), zBd, zBc, zBb, fi [], zBa, zB9, f0 (mkF (st 11 (some 1)) "Row.need_seat" 0 [] .none .none .none .none none .none .none 0), zB8, zB7, zB6, fi [], zB5, zB4, f0 (mkF (st 11 (some 2)) "Row.add" 0 [] .none .none .none .none none .none .none 0), zB3, zB2, zB1, fi [], zB0, zAz, f0 (mkF (st 11 (some 3)) "Row.take" 0 [] .none .none .none .none none .none .none 0), zAy, zAx, zAw, fi [], zAv, zAu, f0 (mkF (st 11 (some 4)) "Row.is_taken" 0 [] .none .none .none .none none .none .none 0), zAt, zAs, zAr, fi [], zAq, zAp, f0 (mkF (st 11 (some 5)) "Row.many" 0 [] .none .none .none .none none .none .none 0), zAo, zAn, zAm, fi [], zAl, zAk, f0 (mkF (st 11 (some 6)) "Row.all_taken" 0 [] .none .none .none .none none .none .none 0), zAj, zAi, zAh, fi [], f0 (mkF (st 11 (some 7)) "Row.ahead" 0 [] .none .none .none .none none .none .none 0), zAg, zAf, zAe, fi [], f0 (mkF (st 11 (some 8)) "Row.find" 0 [] .none .none .none .none none .none .none 0), zAd, zAc, zAb, fi [], zAa, zA9, f0 (mkF (st 11 (some 9)) "Row.is_ahead" 0 [] .none .none .none .none none .none .none 0), zA8, zA7, zA6, fi [], zA5, zA4, f0 (mkF (st 11 (some 10)) "Row.order" 0 [] .none .none .none .none none .none .none 0), zA3, zA2, zA1, zA0 P, z9z, z9y, z9x, ⟨(.type "super"), none, (.fields (Array.mk [(.ref 196), (.ref 196), (.ref 196)])), (Array.mk [])⟩, ⟨(.type "builtin_function_or_method"), none, (.fields (Array.mk [(.builtin "object.__init_subclass__"), (.ref 196)])), (Array.mk [])⟩, tu [], ⟨(.type "builtin_function_or_method"), none, (.fields (Array.mk [(.builtin "type.__prepare__"), (.type "type")])), (Array.mk [])⟩, ⟨(.type "dict"), none, (.dict (List.toArray [dk P "__module__" 434 (.str "stickmarks.threads" 425), dk P "__qualname__" 436 (.str "Threads" 435), dk P "__firstlineno__" 438 (.int (75) 437), dk P "__init__" 446 (.ref 214), dk P "need_thread" 454 (.ref 221), dk P "tie" 464 (.ref 228), dk P "drop" 472 (.ref 235), dk P "told" 485 (.ref 242), dk P "numbers" 492 (.ref 249), dk P "over" 504 (.ref 256), dk P "__static_attributes__" 508 (.ref 257)]) 11), (Array.mk [])⟩, tu [], fi [j 77, j 4, (.ref 213), j 82, j 4, (.ref 220), j 86, j 4, (.ref 227), j 93, j 4, (.ref 234), j 97, j 4, (.ref 241), j 106, j 4, (.ref 248), j 109, j 4, (.ref 255)], co [(.str "Threads" 429), (.str "Threads" 430), (.str "/claim/cut.py" 431), j 75, j 0, j 0, j 0, j 0, (.ref 204), (.bool false), j 181, (.ref 205), .none, .none, .none, .none, j 432, j 75, (.str "/claim/cut.py" 433)], ⟨(.type "frame"), none, .plain, (Array.mk [some (.ref 206), some (.ref 3), some (.ref 203), none, some (.str "stickmarks.threads" 425), none, some (.ref 0)])⟩, z9w, fi [], z9v, z9u, f0 (mkF (st 13 (some 0)) "Threads.__init__" 0 [] .none .none .none .none none .none .none 0), z9t, z9s, z9r, fi [], z9q, z9p, f0 (mkF (st 13 (some 1)) "Threads.need_thread" 0 [] .none .none .none .none none .none .none 0), z9o, z9n, z9m, fi [], z9l, z9k, f0 (mkF (st 13 (some 2)) "Threads.tie" 0 [] .none .none .none .none none .none .none 0), z9j, z9i, z9h, fi [], z9g, z9f, f0 (mkF (st 13 (some 3)) "Threads.drop" 0 [] .none .none .none .none none .none .none 0), z9e, z9d, z9c, fi [], z9b, z9a, f0 (mkF (st 13 (some 4)) "Threads.told" 0 [] .none .none .none .none none .none .none 0), z99, z98, z97, fi [], z96, z95, f0 (mkF (st 13 (some 5)) "Threads.numbers" 0 [] .none .none .none .none none .none .none 0), z94, z93, z92, fi [], z91, z90, f0 (mkF (st 13 (some 6)) "Threads.over" 0 [] .none .none .none .none none .none .none 0), z8z, z8y, z8x, z8w P, z8v, z8u, z8t, ⟨(.type "super"), none, (.fields (Array.mk [(.ref 259), (.ref 259), (.ref 259)])), (Array.mk [])⟩, ⟨(.type "builtin_function_or_method"), none, (.fields (Array.mk [(.builtin "object.__init_subclass__"), (.ref 259)])), (Array.mk [])⟩, z8s, fi [], f0 (mkF (st 17 none) "is_text" 0 [] .none .none .none .none none .none .none 0), z8r, z8q, tu [], ⟨(.type "builtin_function_or_method"), none, (.fields (Array.mk [(.builtin "type.__prepare__"), (.type "type")])), (Array.mk [])⟩, ⟨(.type "dict"), none, (.dict (List.toArray [dk P "__module__" 535 (.str "stickmarks.sheet" 516), dk P "__qualname__" 537 (.str "Sheet" 536), dk P "__firstlineno__" 539 (.int (122) 538), dk P "__init__" 548 (.ref 282), dk P "bring" 560 (.ref 289), dk P "need_hand" 568 (.ref 296), dk P "need_sign" 576 (.ref 303), dk P "need_place" 584 (.ref 310), dk P "need_stretch" 593 (.ref 317), dk P "need_deed" 601 (.ref 324), dk P "seat_of" 612 (.ref 331), dk P "is_shown" 618 (.ref 336), dk P "seated" 629 (.ref 343), dk P "size" 636 (.ref 350), dk P "shown" 642 (.ref 355), dk P "text" 648 (.ref 360), dk P "many" 655 (.ref 367), dk P "letter" 663 (.ref 374), dk P "sign_at" 671 (.ref 381), dk P "place_of" 679 (.ref 388), dk P "is_ahead" 688 (.ref 395), dk P "rank_of" 696 (.ref 402), dk P "seat_ahead" 704 (.ref 409), dk P "noted" 714 (.ref 416), dk P "put" 724 (.ref 423), dk P "cut" 736 (.ref 430), dk P "move" 750 (.ref 437), dk P "deeds" 757 (.ref 444), dk P "deed" 768 (.ref 451), dk P "stands" 776 (.ref 458), dk P "take_back" 784 (.ref 465), dk P "do_again" 792 (.ref 472), dk P "last_standing" 800 (.ref 479), dk P "last_gone" 808 (.ref 486), dk P "__static_attributes__" 820 (.ref 487)]) 35), (Array.mk [])⟩, tu [], fi [j 124, j 4, (.ref 281), j 142, j 4, (.ref 288), j 156, j 4, (.ref 295), j 160, j 4, (.ref 302), j 164, j 4, (.ref 309), j 168, j 4, (.ref 316), j 174, j 4, (.ref 323), j 178, j 4, (.ref 330), j 185, j 4, (.ref 335), j 191, j 4, (.ref 342), j 199, j 4, (.ref 349), j 202, j 4, (.ref 354), j 205, j 4, (.ref 359), j 208, j 4, (.ref 366), j 211, j 4, (.ref 373), j 215, j 4, (.ref 380), j 218, j 4, (.ref 387), j 222, j 4, (.ref 394), j 227, j 4, (.ref 401), j 230, j 4, (.ref 408), j 235, j 4, (.ref 415), j 240, j 4, (.ref 422), j 248, j 4, (.ref 429), j 257, j 4, (.ref 436), j 272, j 4, (.ref 443), j 275, j 4, (.ref 450), j 280, j 4, (.ref 457), j 284, j 4, (.ref 464), j 291, j 4, (.ref 471), j 298, j 4, (.ref 478), j 301, j 4, (.ref 485)], co [(.str "Sheet" 530), (.str "Sheet" 531), (.str "/claim/cut.py" 532), j 122, j 0, j 0, j 0, j 0, (.ref 272), (.bool false), j 181, (.ref 273), .none, .none, .none, .none, j 533, j 122, (.str "/claim/cut.py" 534)], ⟨(.type "frame"), none, .plain, (Array.mk [some (.ref 274), some (.ref 3), some (.ref 271), none, some (.str "stickmarks.sheet" 516), none, some (.ref 0)])⟩, z8p, fi [], z8o, z8n, f0 (mkF (st 18 (some 0)) "Sheet.__init__" 0 [] .none .none .none .none none .none .none 0), z8m, z8l, z8k, fi [], z8j, z8i, f0 (mkF (st 18 (some 1)) "Sheet.bring" 0 [] .none .none .none .none none .none .none 0), z8h, z8g, z8f, fi [], z8e, z8d, f0 (mkF (st 18 (some 2)) "Sheet.need_hand" 0 [] .none .none .none .none none .none .none 0), z8c, z8b, z8a, fi [], z89, z88, f0 (mkF (st 18 (some 3)) "Sheet.need_sign" 0 [] .none .none .none .none none .none .none 0), z87, z86, z85, fi [], z84, z83, f0 (mkF (st 18 (some 4)) "Sheet.need_place" 0 [] .none .none .none .none none .none .none 0), z82, z81, z80, fi [], z7z, z7y, f0 (mkF (st 18 (some 5)) "Sheet.need_stretch" 0 [] .none .none .none .none none .none .none 0), z7x, z7w, z7v, fi [], z7u, z7t, f0 (mkF (st 18 (some 6)) "Sheet.need_deed" 0 [] .none .none .none .none none .none .none 0), z7s, z7r, z7q, fi [], z7p, z7o, f0 (mkF (st 18 (some 7)) "Sheet.seat_of" 0 [] .none .none .none .none none .none .none 0), z7n, z7m, z7l, fi [], f0 (mkF (st 18 (some 8)) "Sheet.is_shown" 0 [] .none .none .none .none none .none .none 0), z7k, z7j, z7i, fi [], z7h, z7g, f0 (mkF (st 18 (some 9)) "Sheet.seated" 0 [] .none .none .none .none none .none .none 0), z7f, z7e, z7d, fi [], z7c, z7b, f0 (mkF (st 18 (some 10)) "Sheet.size" 0 [] .none .none .none .none none .none .none 0), z7a, z79, z78, fi [], f0 (mkF (st 18 (some 11)) "Sheet.shown" 0 [] .none .none .none .none none .none .none 0), z77, z76, z75, fi [], f0 (mkF (st 18 (some 12)) "Sheet.text" 0 [] .none .none .none .none none .none .none 0), z74, z73, z72, fi [], z71, z70, f0 (mkF (st 18 (some 13)) "Sheet.many" 0 [] .none .none .none .none none .none .none 0), z6z, z6y, z6x, fi [], z6w, z6v, f0 (mkF (st 18 (some 14)) "Sheet.letter" 0 [] .none .none .none .none none .none .none 0), z6u, z6t, z6s, fi [], z6r, z6q, f0 (mkF (st 18 (some 15)) "Sheet.sign_at" 0 [] .none .none .none .none none .none .none 0), z6p, z6o, z6n, fi [], z6m, z6l, f0 (mkF (st 18 (some 16)) "Sheet.place_of" 0 [] .none .none .none .none none .none .none 0), z6k, z6j, z6i, fi [], z6h, z6g, f0 (mkF (st 18 (some 17)) "Sheet.is_ahead" 0 [] .none .none .none .none none .none .none 0), z6f, z6e, z6d, fi [], z6c, z6b, f0 (mkF (st 18 (some 18)) "Sheet.rank_of" 0 [] .none .none .none .none none .none .none 0), z6a, z69, z68, fi [], z67, z66, f0 (mkF (st 18 (some 19)) "Sheet.seat_ahead" 0 [] .none .none .none .none none .none .none 0), z65, z63, z62, fi [], z61, z60, f0 (mkF (st 18 (some 20)) "Sheet.noted" 0 [] .none .none .none .none none .none .none 0), z5z, z5y, z5x, fi [], z5w, z5v, f0 (mkF (st 18 (some 21)) "Sheet.put" 0 [] .none .none .none .none none .none .none 0), z5u, z5t, z5s, fi [], z5r, z5q, f0 (mkF (st 18 (some 22)) "Sheet.cut" 0 [] .none .none .none .none none .none .none 0), z5p, z5o, z5n, fi [], z5m, z5l, f0 (mkF (st 18 (some 23)) "Sheet.move" 0 [] .none .none .none .none none .none .none 0), z5k, z5j, z5i, fi [], z5h, z5g, f0 (mkF (st 18 (some 24)) "Sheet.deeds" 0 [] .none .none .none .none none .none .none 0), z5f, z5e, z5d, fi [], z5c, z5b, f0 (mkF (st 18 (some 25)) "Sheet.deed" 0 [] .none .none .none .none none .none .none 0), z5a, z59, z58, fi [], z57, z56, f0 (mkF (st 18 (some 26)) "Sheet.stands" 0 [] .none .none .none .none none .none .none 0), z55, z54, z53, fi [], z52, z51, f0 (mkF (st 18 (some 27)) "Sheet.take_back" 0 [] .none .none .none .none none .none .none 0), z50, z4z, z4y, fi [], z4x, z4w, f0 (mkF (st 18 (some 28)) "Sheet.do_again" 0 [] .none .none .none .none none .none .none 0), z4v, z4u, z4t, fi [], z4s, z4r, f0 (mkF (st 18 (some 29)) "Sheet.last_standing" 0 [] .none .none .none .none none .none .none 0), z4q, z4p, z4o, fi [], z4n, z4m, f0 (mkF (st 18 (some 30)) "Sheet.last_gone" 0 [] .none .none .none .none none .none .none 0), z4l, z4k, z4j, z4i P, z4h, z4g, z4f, ⟨(.type "super"), none, (.fields (Array.mk [(.ref 489), (.ref 489), (.ref 489)])), (Array.mk [])⟩, ⟨(.type "builtin_function_or_method"), none, (.fields (Array.mk [(.builtin "object.__init_subclass__"), (.ref 489)])), (Array.mk [])⟩, z4e, fi [], z4d, z4c, f0 (mkF (st 20 none) "_law_cell_at" 0 [] .none .none .none .none none .none .none 0), z4b, z4a, z49, fi [], z48, z47, f0 (mkF (st 21 none) "_law_whole" 0 [] .none .none .none .none none .none .none 0), z46, z45, z44, fi [], z43, z42, f0 (mkF (st 22 none) "_law_mixed" 0 [] .none .none .none .none none .none .none 0), z41, z40, z3z, fi [], f0 (mkF (st 23 none) "_law_text_by" 0 [] .none .none .none .none none .none .none 0), z3y, z3x, z3w, fi [], z3v, z3u, f0 (mkF (st 24 none) "_law_size_by" 0 [] .none .none .none .none none .none .none 0), z3t, z3s, tu [], fi [], f0 (mkF (st 25 none) "_law_fresh" 0 [] .none .none .none .none none .none .none 0), co [(.str "_law_fresh" 867), (.str "_law_fresh" 868), (.str "/claim/cut.py" 869), j 321, j 2, j 0, j 0, j 3, (.ref 527), (.bool true), j 181, (.ref 528), .none, .none, .none, (.ref 529), j 870, j 321, (.str "/claim/cut.py" 871)], fu (mkF (st 25 none) "_law_fresh" 3 [] .none .none .none (.str "law_uf010039_10" 828) none (.ref 530) .none 0), tu [], fi [], tu [(.str "_law_state" 876), (.str "_law_best" 877), (.str "_law_sign" 878), (.str "_law_deed_here" 879)], tu [], f0 (mkF (st 26 none) "_law_sits" 0 [] .none .none .none .none none .none .none 0), co [(.str "_law_sits" 873), (.str "_law_sits" 874), (.str "/claim/cut.py" 875), j 325, j 1, j 0, j 0, j 3, (.ref 532), (.bool true), j 181, (.ref 533), .none, (.ref 534), (.ref 535), (.ref 536), j 880, j 325, (.str "/claim/cut.py" 881)], fu (mkF (st 26 none) "_law_sits" 3 [] .none .none .none (.str "law_uf010039_10" 828) none (.ref 537) .none 0), tu [], fi [], f0 (mkF (st 27 none) "_law_is_shown" 0 [] .none .none .none .none none .none .none 0), co [(.str "_law_is_shown" 883), (.str "_law_is_shown" 884), (.str "/claim/cut.py" 885), j 332, j 2, j 0, j 0, j 3, (.ref 539), (.bool true), j 181, (.ref 540), .none, .none, .none, (.ref 541), j 886, j 332, (.str "/claim/cut.py" 887)], fu (mkF (st 27 none) "_law_is_shown" 3 [] .none .none .none (.str "law_uf010039_10" 828) none (.ref 542) .none 0), tu [], fi [], tu [(.str "_law_state" 892), (.str "_law_best" 893), (.str "_law_found" 894), (.str "_law_sign" 895), (.str "_law_deed_here" 896)], tu [], f0 (mkF (st 28 none) "_law_shown" 0 [] .none .none .none .none none .none .none 0), co [(.str "_law_shown" 889), (.str "_law_shown" 890), (.str "/claim/cut.py" 891), j 336, j 1, j 0, j 0, j 3, (.ref 544), (.bool true), j 181, (.ref 545), .none, (.ref 546), (.ref 547), (.ref 548), j 897, j 336, (.str "/claim/cut.py" 898)], fu (mkF (st 28 none) "_law_shown" 3 [] .none .none .none (.str "law_uf010039_10" 828) none (.ref 549) .none 0), tu [], fi [], tu [(.str "_law_state" 903), (.str "_law_place" 904), (.str "_law_sign" 905)], tu [], f0 (mkF (st 29 none) "_law_at" 0 [] .none .none .none .none none .none .none 0), co [(.str "_law_at" 900), (.str "_law_at" 901), (.str "/claim/cut.py" 902), j 343, j 2, j 0, j 0, j 3, (.ref 551), (.bool true), j 181, (.ref 552), .none, (.ref 553), (.ref 554), (.ref 555), j 906, j 343, (.str "/claim/cut.py" 907)], fu (mkF (st 29 none) "_law_at" 3 [] .none .none .none (.str "law_uf010039_10" 828) none (.ref 556) .none 0), tu [], fi [], f0 (mkF (st 30 none) "_law_deed" 0 [] .none .none .none .none none .none .none 0), co [(.str "_law_deed" 909), (.str "_law_deed" 910), (.str "/claim/cut.py" 911), j 348, j 2, j 0, j 0, j 3, (.ref 558), (.bool true), j 181, (.ref 559), .none, .none, .none, (.ref 560), j 912, j 348, (.str "/claim/cut.py" 913)], fu (mkF (st 30 none) "_law_deed" 3 [] .none .none .none (.str "law_uf010039_10" 828) none (.ref 561) .none 0), z3r, fi [], z3q, z3p, f0 (mkF (st 31 none) "_law_deed_by" 0 [] .none .none .none .none none .none .none 0), z3o, z3n, z3m, fi [], z3l, z3k, f0 (mkF (st 32 none) "_law_do" 0 [] .none .none .none .none none .none .none 0), z3j, z3i, z3h, fi [], z3g, z3f, f0 (mkF (st 33 none) "_law_told" 0 [] .none .none .none .none none .none .none 0), z3e, z3d, z3c, fi [], z3b, z3a, f0 (mkF (st 34 none) "_law_over" 0 [] .none .none .none .none none .none .none 0), z39, z38, z37, fi [], f0 (mkF (st 35 none) "_law_stands" 0 [] .none .none .none .none none .none .none 0), z36, z35, z34, fi [], z33, z32, f0 (mkF (st 36 none) "_law_is_gone" 0 [] .none .none .none .none none .none .none 0), z31, z30, z2z, fi [], z2y, z2x, f0 (mkF (st 37 none) "_law_not_tied" 0 [] .none .none .none .none none .none .none 0), z2w, z2v, z2u, fi [], z2t, z2s, f0 (mkF (st 38 none) "_law_turned" 0 [] .none .none .none .none none .none .none 0), z2r, z2q, z2p, fi [], f0 (mkF (st 39 none) "law" 0 [] .none .none .none .none none .none .none 0), z2o, z2n]⟩, {}⟩
noncomputable def K (P : Params) : Frag := [(2, boot_o_2 P), (3, o_3 P), (15, zDu), (17, zDt), (18, zDs), (20, zDr), (21, zDq), (22, zDp), (29, zDo), (30, zDn P), (31, zDm), (32, zDl), (35, zDk), (42, zDj), (43, zDi P), (44, zDh), (47, zDg), (54, zDf), (55, zDe P), (56, zDd), (59, zDc), (66, zDb), (67, zDa P), (68, zD9), (71, zD8), (78, zD7), (79, zD6 P), (80, zD5), (83, zD4), (90, zD3), (91, zD2 P), (92, zD1), (95, zD0), (102, zBo), (103, zBn P), (104, zBm), (107, zBl), (109, zBk), (110, zBj), (112, zBi), (113, zBh), (121, zBg), (123, zBf), (124, zBe), (126, zBd), (127, zBc), (128, zBb), (130, zBa), (131, zB9), (133, zB8), (134, zB7), (135, zB6), (137, zB5), (138, zB4), (140, zB3), (141, zB2), (142, zB1), (144, zB0), (145, zAz), (147, zAy), (148, zAx), (149, zAw), (151, zAv), (152, zAu), (154, zAt), (155, zAs), (156, zAr), (158, zAq), (159, zAp), (161, zAo), (162, zAn), (163, zAm), (165, zAl), (166, zAk), (168, zAj), (169, zAi), (170, zAh), (173, zAg), (174, zAf), (175, zAe), (178, zAd), (179, zAc), (180, zAb), (182, zAa), (183, zA9), (185, zA8), (186, zA7), (187, zA6), (189, zA5), (190, zA4), (192, zA3), (193, zA2), (194, zA1), (195, zA0 P), (196, z9z), (197, z9y), (198, z9x), (208, z9w), (210, z9v), (211, z9u), (213, z9t), (214, z9s), (215, z9r), (217, z9q), (218, z9p), (220, z9o), (221, z9n), (222, z9m), (224, z9l), (225, z9k), (227, z9j), (228, z9i), (229, z9h), (231, z9g), (232, z9f), (234, z9e), (235, z9d), (236, z9c), (238, z9b), (239, z9a), (241, z99), (242, z98), (243, z97), (245, z96), (246, z95), (248, z94), (249, z93), (250, z92), (252, z91), (253, z90), (255, z8z), (256, z8y), (257, z8x), (258, z8w P), (259, z8v), (260, z8u), (261, z8t), (264, z8s), (267, z8r), (268, z8q), (276, z8p), (278, z8o), (279, z8n), (281, z8m), (282, z8l), (283, z8k), (285, z8j), (286, z8i), (288, z8h), (289, z8g), (290, z8f), (292, z8e), (293, z8d), (295, z8c), (296, z8b), (297, z8a), (299, z89), (300, z88), (302, z87), (303, z86), (304, z85), (306, z84), (307, z83), (309, z82), (310, z81), (311, z80), (313, z7z), (314, z7y), (316, z7x), (317, z7w), (318, z7v), (320, z7u), (321, z7t), (323, z7s), (324, z7r), (325, z7q), (327, z7p), (328, z7o), (330, z7n), (331, z7m), (332, z7l), (335, z7k), (336, z7j), (337, z7i), (339, z7h), (340, z7g), (342, z7f), (343, z7e), (344, z7d), (346, z7c), (347, z7b), (349, z7a), (350, z79), (351, z78), (354, z77), (355, z76), (356, z75), (359, z74), (360, z73), (361, z72), (363, z71), (364, z70), (366, z6z), (367, z6y), (368, z6x), (370, z6w), (371, z6v), (373, z6u), (374, z6t), (375, z6s), (377, z6r), (378, z6q), (380, z6p), (381, z6o), (382, z6n), (384, z6m), (385, z6l), (387, z6k), (388, z6j), (389, z6i), (391, z6h), (392, z6g), (394, z6f), (395, z6e), (396, z6d), (398, z6c), (399, z6b), (401, z6a), (402, z69), (403, z68), (405, z67), (406, z66), (408, z65), (409, z63), (410, z62), (412, z61), (413, z60), (415, z5z), (416, z5y), (417, z5x), (419, z5w), (420, z5v), (422, z5u), (423, z5t), (424, z5s), (426, z5r), (427, z5q), (429, z5p), (430, z5o), (431, z5n), (433, z5m), (434, z5l), (436, z5k), (437, z5j), (438, z5i), (440, z5h), (441, z5g), (443, z5f), (444, z5e), (445, z5d), (447, z5c), (448, z5b), (450, z5a), (451, z59), (452, z58), (454, z57), (455, z56), (457, z55), (458, z54), (459, z53), (461, z52), (462, z51), (464, z50), (465, z4z), (466, z4y), (468, z4x), (469, z4w), (471, z4v), (472, z4u), (473, z4t), (475, z4s), (476, z4r), (478, z4q), (479, z4p), (480, z4o), (482, z4n), (483, z4m), (485, z4l), (486, z4k), (487, z4j), (488, z4i P), (489, z4h), (490, z4g), (491, z4f), (494, z4e), (496, z4d), (497, z4c), (499, z4b), (500, z4a), (501, z49), (503, z48), (504, z47), (506, z46), (507, z45), (508, z44), (510, z43), (511, z42), (513, z41), (514, z40), (515, z3z), (518, z3y), (519, z3x), (520, z3w), (522, z3v), (523, z3u), (525, z3t), (526, z3s), (563, z3r), (565, z3q), (566, z3p), (568, z3o), (569, z3n), (570, z3m), (572, z3l), (573, z3k), (575, z3j), (576, z3i), (577, z3h), (579, z3g), (580, z3f), (582, z3e), (583, z3d), (584, z3c), (586, z3b), (587, z3a), (589, z39), (590, z38), (591, z37), (594, z36), (595, z35), (596, z34), (598, z33), (599, z32), (601, z31), (602, z30), (603, z2z), (605, z2y), (606, z2x), (608, z2w), (609, z2v), (610, z2u), (612, z2t), (613, z2s), (615, z2r), (616, z2q), (617, z2p), (620, z2o), (621, z2n)]
noncomputable def as : List Addr := [2, 3, 15, 17, 18, 20, 21, 22, 29, 30, 31, 32, 35, 42, 43, 44, 47, 54, 55, 56, 59, 66, 67, 68, 71, 78, 79, 80, 83, 90, 91, 92, 95, 102, 103, 104, 107, 109, 110, 112, 113, 121, 123, 124, 126, 127, 128, 130, 131, 133, 134, 135, 137, 138, 140, 141, 142, 144, 145, 147, 148, 149, 151, 152, 154, 155, 156, 158, 159, 161, 162, 163, 165, 166, 168, 169, 170, 173, 174, 175, 178, 179, 180, 182, 183, 185, 186, 187, 189, 190, 192, 193, 194, 195, 196, 197, 198, 208, 210, 211, 213, 214, 215, 217, 218, 220, 221, 222, 224, 225, 227, 228, 229, 231, 232, 234, 235, 236, 238, 239, 241, 242, 243, 245, 246, 248, 249, 250, 252, 253, 255, 256, 257, 258, 259, 260, 261, 264, 267, 268, 276, 278, 279, 281, 282, 283, 285, 286, 288, 289, 290, 292, 293, 295, 296, 297, 299, 300, 302, 303, 304, 306, 307, 309, 310, 311, 313, 314, 316, 317, 318, 320, 321, 323, 324, 325, 327, 328, 330, 331, 332, 335, 336, 337, 339, 340, 342, 343, 344, 346, 347, 349, 350, 351, 354, 355, 356, 359, 360, 361, 363, 364, 366, 367, 368, 370, 371, 373, 374, 375, 377, 378, 380, 381, 382, 384, 385, 387, 388, 389, 391, 392, 394, 395, 396, 398, 399, 401, 402, 403, 405, 406, 408, 409, 410, 412, 413, 415, 416, 417, 419, 420, 422, 423, 424, 426, 427, 429, 430, 431, 433, 434, 436, 437, 438, 440, 441, 443, 444, 445, 447, 448, 450, 451, 452, 454, 455, 457, 458, 459, 461, 462, 464, 465, 466, 468, 469, 471, 472, 473, 475, 476, 478, 479, 480, 482, 483, 485, 486, 487, 488, 489, 490, 491, 494, 496, 497, 499, 500, 501, 503, 504, 506, 507, 508, 510, 511, 513, 514, 515, 518, 519, 520, 522, 523, 525, 526, 563, 565, 566, 568, 569, 570, 572, 573, 575, 576, 577, 579, 580, 582, 583, 584, 586, 587, 589, 590, 591, 594, 595, 596, 598, 599, 601, 602, 603, 605, 606, 608, 609, 610, 612, 613, 615, 616, 617, 620, 621]
end Mine.Hd
end
section
open PySem PySem.W PyProof.Rows
set_option maxRecDepth 1000000
set_option maxHeartbeats 8000000
namespace Mine.Hd
noncomputable abbrev bdE:List Stmt:=behindTheImports prog
noncomputable abbrev evE:Env:={scope:=prog.main.scope,locals:=mainNs,globals:=mainNs,cells:=[],code:=.ref 13,frame:=some 14}
noncomputable abbrev cdE:Code:=.body bdE evE
noncomputable def trE (l:List Obj):BT:=(l.foldl (fun p o=>(p.1.ins p.2 o,p.2+1)) (BT.nil,0)).1
noncomputable abbrev SaE (w:World) (os:OsState):SharedT:=⟨trE ((((H1 w.params).objs.toList.take 15).set 3 (boot_o_3 w.params)).set 12 ⟨.none,none,.fields ⟨[]⟩,⟨[]⟩⟩),15,{},⟨[]⟩,{},187,os⟩
noncomputable abbrev SbE (w:World) (os:OsState):SharedT:=⟨trE (H1 w.params).objs.toList,622,{},⟨[]⟩,{},1008,os⟩
theorem rn1 (w:World) (os:OsState):topGo treeTable prog w 11 (some (.ref 6)) 12 ⟨boot_heap w.params,Array.mk [],boot_drawn,boot_toks,os⟩ (topStub prog)=some ((SaE w os).abs,⟨denote treeTable cdE,cdE,default,[topFrame default]⟩):=by
  rw [PySem.W.Fast.te15667345088766844465,PySem.W.Fast.te14364793385576792824,PySem.W.Fast.te11892475500146522536]
  kernel_rfl
theorem rn2 (w:World) (os:OsState):segRun treeTable prog w 11 (some (.ref 6)) 1 1 (SaE w os).abs (blockOf bdE evE cdE default [topFrame default])=some (.next,(SaE w os).abs,cdE,default):=rfl
theorem rn3 (w:World) (os:OsState):segRunT treeTable prog w 11 (some (.ref 6)) 1 4386 (SaE w os) ⟨(execs bdE evE).wrap doneF deadEnd id id,cdE,default,[topFrame default]⟩=some (.next,SbE w os,cdE,⟨449,0,484,89⟩):=by
  rw [PySem.W.Fast.te10110043849684766642,PySem.W.Fast.te14364793385576792824,PySem.W.Fast.te12563942051412417395]
  kernel_rfl
theorem rn4 (w:World) (os:OsState):topRun treeTable prog w 11 (some (.ref 6)) 4497 (SbE w os).abs (restOf [] evE cdE ⟨449,0,484,89⟩ [topFrame default])=some ⟨H1 w.params,Array.mk [],{},1008,os⟩:=by kernel_rfl
theorem run (w:World) (os:OsState):topRun treeTable prog w 11 (some (.ref 6)) 8896 ⟨boot_heap w.params,Array.mk [],boot_drawn,boot_toks,os⟩ (topStub prog)=some ⟨H1 w.params,Array.mk [],{},1008,os⟩:=
  go_top (N:=8884) (rn1 w os) (piece_block (n:=1) (N:=8883) (rn2 w os) (List.append_nil bdE▸piece_app (n:=4386) (N:=4497) (segRun_of (rn3 w os)) (rn4 w os)))
end Mine.Hd
end
section
open PySem PySem.W PyProof.Rows
set_option maxRecDepth 1000000
set_option maxHeartbeats 8000000
noncomputable section
namespace Mine.Hd
theorem ws : OpenLaw.wellSaid PySem.Challenge.rw_uf010039_10 = true := by
  rw [PySem.W.Fast.te9446332074065402090]
  kernel_rfl
theorem opn (w : World) : (fencedOpening treeTable prog w 8896).map (fun s => (s.heap, s.gens, s.drawn, s.toks)) = some (boot_heap w.params, Array.mk [], boot_drawn, boot_toks) := boot_open (p := prog) (N := 8896) (by kernel_rfl) (by decide) (fun s => rfl) w
theorem siz (w : World) : ((boot_heap w.params).isNs mainGlobals && (Array.mk [] : Array GenState).size == 0, (boot_heap w.params).objs.size, (boot_heap w.params).nsMap mainGlobals "__annotations__") = (true, 11, some (.ref 6)) := by kernel_rfl
abbrev qv : Program := view prog [0, 2, 3, 4, 5, 6, 7, 8, 10, 11, 13, 15, 16, 17, 18, 20, 21, 22, 23, 24, 25, 26, 27, 28, 29, 30, 31, 32, 33, 34, 35, 36, 37, 38, 39]
abbrev Xt (s : Shared) : Bool := xlAt qv [] s && recOk (RowW.records (OpenRow.toRowW (OpenLaw.row PySem.Challenge.rw_uf010039_10))) s
theorem asK (P : Params) : as = (K P).map (·.1) := by kernel_rfl
abbrev hk : Hook := kHook K as asK
abbrev S1 (w : World) (os : OsState) : Shared := ⟨H1 w.params, Array.mk [], {}, 1008, os⟩
theorem lk1 (w : World) (os : OsState) : (staticsOk (importedModules prog.main.body) (boot_heap w.params) (H1 w.params) && namesBound prog (H1 w.params) && gensDone (S1 w os) && laidKept (boot_heap w.params) (H1 w.params)) = true := by kernel_rfl
theorem lk3 (w : World) (os : OsState) : hk.obs (S1 w os) = hk.val w := by kernel_rfl
end Mine.Hd
end
section
open PySem PySem.W PyProof.Rows
set_option maxRecDepth 1000000
set_option maxHeartbeats 8000000
noncomputable section
namespace Mine.Hd
theorem lk2 (w : World) (os : OsState) : openSeen qv [] (importedModules prog.main.body) Xt true (S1 w os) = openGood qv [] := by
  rw [PySem.W.Fast.te4187177175401517315]
  kernel_rfl
end Mine.Hd
end
section
open PySem PySem.W PyProof.Rows
set_option maxRecDepth 1000000
set_option maxHeartbeats 8000000
namespace Mine
theorem tt (P : Params) : LS.TT (yJ (Hd.K P)) (gOf (Hd.K P)).okf where
  kB9 := by kernel_rfl
  kBy := by kernel_rfl
  kB0 := by kernel_rfl
  kCa := by kernel_rfl
  kBw := by kernel_rfl
  kBo := by kernel_rfl
  kBv := by kernel_rfl
  kB4 := by kernel_rfl
  kBc := by kernel_rfl
  kBm := by kernel_rfl
  kB8 := by kernel_rfl
  kBe := by kernel_rfl
  kB7 := by kernel_rfl
  kB2 := by kernel_rfl
  kB5 := by kernel_rfl
  kBs := by kernel_rfl
  threads := by kernel_rfl
  row := by kernel_rfl
  sheet := by kernel_rfl
  kBu := by kernel_rfl
  kBp := by kernel_rfl
  kAp := by kernel_rfl
  kB3 := by kernel_rfl
  kBx := by kernel_rfl
  kAr := by kernel_rfl
  kAo := by kernel_rfl
  kBh := by kernel_rfl
  kBr := by kernel_rfl
  kAu := by kernel_rfl
  kBi := by kernel_rfl
  kAv := by kernel_rfl
  kAa := by kernel_rfl
  kA9 := by kernel_rfl
  kAx := by kernel_rfl
  kAy := by kernel_rfl
  kAg := by kernel_rfl
  kAt := by kernel_rfl
  kBz := by kernel_rfl
  kBf := by kernel_rfl
  kA7 := by kernel_rfl
  kAf := by kernel_rfl
  kAi := by kernel_rfl
  kAd := by kernel_rfl
  kAb := by kernel_rfl
  kAe := by kernel_rfl
  kAq := by kernel_rfl
  kAm := by kernel_rfl
  kAs := by kernel_rfl
  kBg := by kernel_rfl
  kA0 := by kernel_rfl
  kAn := by kernel_rfl
  kAk := by kernel_rfl
  kAj := by kernel_rfl
  kAc := by kernel_rfl
  kA2 := by kernel_rfl
  kBj := by kernel_rfl
  kBn := by kernel_rfl
  kBa := by kernel_rfl
  kA1 := by kernel_rfl
  kAz := by kernel_rfl
  kAh := by kernel_rfl
  kAl := by kernel_rfl
  kA8 := by kernel_rfl
  kBl := by kernel_rfl
  kBk := by kernel_rfl
  kA3 := by kernel_rfl
  kA6 := by kernel_rfl
  kA5 := by kernel_rfl
  kB6 := by kernel_rfl
  kBt := by kernel_rfl
  kBq := by kernel_rfl
  kBb := by kernel_rfl
  kA4 := by kernel_rfl
  kAw := by kernel_rfl
  kBd := by kernel_rfl
  kCb := by kernel_rfl
namespace Hd
theorem left : LeftO prog qv [] Xt hk.obs hk.val 8896 := LeftO.of_pieces (H₀ := boot_heap) (H₁ := H1) (gs₀ := Array.mk []) (gs₁ := Array.mk []) (d₀ := boot_drawn) (d₁ := {}) (k₀ := boot_toks) (k₁ := 1008) (m₀ := 11) (ann := some (.ref 6)) (M := 8896) opn siz run (by decide)
  (fun w => funext fun os => Prod.ext (lk1 w os) (Prod.ext (lk2 w os) (lk3 w os)))
end Hd
end Mine
end
open PySem PySem.W PyProof.Rows
set_option maxRecDepth 1000000 in
set_option maxHeartbeats 8000000 in
theorem PySem.Challenge.cw_uf010039_10_holds : PySem.Challenge.rw_uf010039_10.Holds := by
  w_on
  refine holds_law Mine.Hd.ws fun said => ?_
  refine holds_open (q := Mine.Hd.qv) (loose := []) (Xt := Mine.Hd.Xt) (XP := XL Mine.Hd.qv []) (Yf := Mine.Hd.hk.obs) (Ya := Mine.Hd.hk.val) (YP := Mine.Hd.hk.says) (N := 8896) Mine.Hd.left Mine.Hd.hk.of Mine.Hd.hk.keeps (fun s e => xl_of s (Bool.and_eq_true_iff.mp e).1) XL.keeps (by rfl) (by rfl) (by rfl) (fun s e => recFacts_of (Bool.and_eq_true_iff.mp e).2) (by rfl) (by assumption) (by decide +kernel) ⟨rfl, rfl, rfl, rfl, rfl, by decide +kernel⟩ ?hw ?hc
  case hw => w_witness2
  intro w s₀ s₁ mg mb G Y fa o pm cd doc dV kV ho hd hcd hD hmg hg args vals as hpre hlay hrd hwl hlo
  have KX := kIn_of Y
  clear Y
  refine Ground.open G ?_
  intro T B D TE TW
  clear ho hd hcd hD B D TE TW G
  wrow_args hpre hlay hrd hwl hlo
  rename IntsAre _ _ => hI
  rename Heap.IsList _ _ _ => hL
  rename ¬ _ < _ => hlen
  refine Mine.law_true T KX hg hmg 621 (by kernel_rfl) hL hI hlen (Mine.LS.law_ (n := 11) (Mine.tt _) (by lia)) (raisesW_false ?_) ?_
  · wrow_none_raised
  · kc_post
