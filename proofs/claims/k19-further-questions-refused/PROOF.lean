import PyProof.Rows.All
import Wide.All
import OpenK.AllK
import Wide.FinOn
import HandS.ForMost
import HandS.Exc
import HandS.ExcOwn
import HandS.WordsExc
import HandS.CallSlots
import HandS.IsInst
import KE.SortData
import HandS.Dict
import HandS.DictTup
import KE.KeyNested
import HandS.Style
import HandS.Deep
import HandS.Flow
import KE.DataMinMax
import HandS.TupSets
import KE.GoesEnum
import HandS.Iter
import HandS.TryMany
import HandS.HeadHook1
import PyProof.ExcBaseAll.ValueError
import HandS.Property
import KE.GoesZip
import KE.GoesMore
import HandS.TupLen
import HandS.Conv
import KE.KDictCopyH
import HandS.TupMul
import KE.KDictDisplayH
import PyProof.StrOps2
import OpenK.KOps
import HandS.Text
import HandS.ExcIs
import HandS.ExcField
import HandS.ExcInit
import HandS.Defaults
import HandS.Head0
import HandS.Head1
import HandS.Head2
import HandS.HeadEnd
import HandS.HeadHook2
import KE.KStateDown
import PySem.Challenge.RW_keysfelt_k19_further_questions_refused
set_option Elab.async false
set_option linter.all false
set_option maxRecDepth 100000
set_option maxHeartbeats 4000000
/-! KF, part 0: keys of dicts as data; a dict with tuple keys as one object. -/
namespace KF
open PySem L2
mutual
def nk : PyData → Option NestedKey
  | .none => some .none
  | .int i => some (.num i)
  | .str x => some (.text x)
  | .tuple xs => (nks xs).map .tup
  | .bool _ => none
  | .list _ => none
  | .dict _ => none
def nks : List PyData → Option (List NestedKey)
  | [] => some []
  | x :: r => (nk x).bind fun k => (nks r).bind fun ks => some (k :: ks)
end
/-- equal as keys -/
def keq (a b : PyData) : Bool := match nk a, nk b with
  | some x, some y => NestedKey.beq x y
  | _, _ => false
abbrev KVs := List (PyData × PyData)
def getK (kvs : KVs) (k : PyData) : Option PyData := (kvs.find? fun kv => keq kv.1 k).map (·.2)
def putKD (kvs : KVs) (k v : PyData) : KVs := if (getK kvs k).isSome = true then kvs.map fun kv => if keq kv.1 k = true then (kv.1, v) else kv else kvs ++ [(k, v)]
def isT : PyData → Bool
  | .tuple _ => true
  | _ => false
/-- a key that may be asked for: tuples to tuples, numbers and texts to numbers and texts -/
def kOk (kvs : KVs) : PyData → Bool
  | .tuple xs => (match nks xs with
    | some ks => Nat.ble (NestedKey.depthAll ks + 1) 8
    | none => false) && kvs.all fun kv => isT kv.1
  | .int _ => kvs.all fun kv => !isT kv.1
  | .str _ => kvs.all fun kv => !isT kv.1
  | _ => false
/-- the object of a dict with tuple keys -/
def Nest (P : Program) (w : World) (h : Heap) (a : Addr) (xs : List (NestedKey × Addr × Value)) (ep : Nat) : Prop :=
  (a == sysModules) = false ∧ xs.length ≤ sizeLine ∧ (xs.map (·.1)).Nodup ∧ ∃ o es, h.get? a = some o ∧ o.ExactDict ∧ o.data = .dict es ep ∧ es.toList = xs.map (entryOfKey (nestedKind P w))
def nestO (P : Program) (w : World) (a : Addr) (xs : List (NestedKey × Addr × Value)) (ep : Nat) : HO := .ext fun h => Nest P w h a xs ep
theorem nest_ok {P : Program} {w : World} {H : Hp} {h : Heap} {a : Addr} {xs : List (NestedKey × Addr × Value)} {ep : Nat} (n : Nest P w h a xs ep) : ObjOk P w H h a (nestO P w a xs ep) := by
  obtain ⟨o, es, ho, _⟩ := id n.2.2.2
  refine ⟨n, ⟨o, ho⟩, fun h1 h2 ⟨z1, z2, z3, o1, es1, q1, q2, q3, q4⟩ k => ⟨z1, z2, z3, o1, es1, k o1 q1, q2, q3, q4⟩⟩
theorem nest_of {P : Program} {w : World} {H : Hp} {h : Heap} {a : Addr} {xs : List (NestedKey × Addr × Value)} {ep : Nat} (ok : HOk P w H h) (e : Rd H a (nestO P w a xs ep)) : Nest P w h a xs ep := (e.ok ok).1
/-! keys of numbers and texts -/
def keyOf : PyData → Option Key
  | .int i => some (.inl i)
  | .str x => some (.inr x)
  | _ => none
theorem keyOf_V {d : PyData} {k : Key} (h : keyOf d = some k) : (∃ i, d = .int i ∧ k = .inl i) ∨ ∃ x, d = .str x ∧ k = .inr x := by
  cases d with
  | int i => cases h; exact .inl ⟨i, rfl, rfl⟩
  | str x => cases h; exact .inr ⟨x, rfl, rfl⟩
  | _ => cases h
theorem keq_keys {a b : PyData} {k l : Key} (h1 : keyOf a = some k) (h2 : keyOf b = some l) : keq a b = decide (k = l) := by
  rcases keyOf_V h1 with ⟨i, rfl, rfl⟩ | ⟨i, rfl, rfl⟩ <;> rcases keyOf_V h2 with ⟨j, rfl, rfl⟩ | ⟨j, rfl, rfl⟩
  · show decide (i = j) = _
    by_cases c : i = j
    · subst c; simp
    · rw [decide_eq_false c, decide_eq_false fun z => c (by injection z)]
  · exact (decide_eq_false (by intro z; cases z)).symm
  · exact (decide_eq_false (by intro z; cases z)).symm
  · show decide (i = j) = _
    by_cases c : i = j
    · subst c; simp
    · rw [decide_eq_false c, decide_eq_false fun z => c (by injection z)]
theorem keq_nk {a b : PyData} {k l : NestedKey} (h1 : nk a = some k) (h2 : nk b = some l) : keq a b = decide (k = l) := by
  unfold keq
  rw [h1, h2, NestedKey.decide_eq]
end KF
set_option Elab.async false
set_option linter.all false
set_option maxRecDepth 100000
set_option maxHeartbeats 4000000
/-! KF: a small by-value language; part 1: data and its standing in the heap. -/
namespace KF
open PySem L2

/-- a value: data (immutable for us), or a place of the small heap -/
inductive D where
  | py (d : PyData)
  | loc (n : Nat)
  | scr (ns : List Int)
/-- what stands at a place -/
inductive MO where
  | lst (xs : List D)
  | dct (kvs : List (PyData × PyData))
  | lck (kvs : List (PyData × PyData))
  | ins (c : Nat) (fs : List D)
abbrev MH := List MO
inductive Out (α : Type) where
  | ok (a : α) (h : MH)
  | exc (c : Nat) (fs : List D) (h : MH)
  | bad
def Out.bind {α β : Type} (o : Out α) (f : α → MH → Out β) : Out β := match o with
  | .ok a h => f a h
  | .exc c fs h => .exc c fs h
  | .bad => .bad
/-- a slot of a frame: not bound, a value, a list of the frame's own -/
inductive Sl where
  | u
  | v (d : D)
  | o (xs : List PyData)
  | x (c : Nat) (fs : List D)
abbrev Env := List Sl

/-- texts: signs of Unicode, of some length -/
def sOk (x : Str) : Bool := PyData.strOk x && Nat.ble x.length 100000
theorem sOk.ok {x : Str} (h : sOk x = true) : PyData.strOk x = true := (Bool.and_eq_true_iff.mp h).1
theorem sOk.len {x : Str} (h : sOk x = true) : x.length ≤ 100000 := Nat.le_of_ble_eq_true (Bool.and_eq_true_iff.mp h).2
theorem sOk.line {x : Str} (h : sOk x = true) : x.length ≤ sizeLine := Nat.le_trans (sOk.len h) (by decide)
/-! ### data in the heap; Z: the addresses that may change -/
mutual
inductive RelP (K : PySem.W.Frag) (H : Hp) (Z : Addr → Prop) : PyData → V → Prop
  | non : RelP K H Z .none .non
  | bl (b : Bool) : RelP K H Z (.bool b) (.bl b)
  | int (i : Int) : RelP K H Z (.int i) (.int i)
  | str (x : Str) : sOk x = true → RelP K H Z (.str x) (.str x)
  | lst {a : Addr} {xs : List V} {ds : List PyData} : Rd H a (.lst xs) → ¬ Z a → RelPs K H Z ds xs → RelP K H Z (.list ds) (.ref a)
  | tup {a : Addr} {xs : List V} {ds : List PyData} : SqT K H a xs → RelPs K H Z ds xs → RelP K H Z (.tuple ds) (.ref a)
inductive RelPs (K : PySem.W.Frag) (H : Hp) (Z : Addr → Prop) : List PyData → List V → Prop
  | nil : RelPs K H Z [] []
  | cons {v : V} {vs : List V} {d : PyData} {ds : List PyData} : RelP K H Z d v → RelPs K H Z ds vs → RelPs K H Z (d :: ds) (v :: vs)
end

theorem RelPs.length {K : PySem.W.Frag} {H : Hp} {Z : Addr → Prop} : ∀ {ds : List PyData} {vs : List V}, RelPs K H Z ds vs → ds.length = vs.length
  | _, _, .nil => rfl
  | _, _, .cons _ t => by rw [List.length_cons, List.length_cons, RelPs.length t]
theorem RelPs.get {K : PySem.W.Frag} {H : Hp} {Z : Addr → Prop} : ∀ {ds : List PyData} {vs : List V} {i : Nat} {d : PyData}, RelPs K H Z ds vs → ds[i]? = some d → ∃ v, vs[i]? = some v ∧ RelP K H Z d v
  | _, _, _, _, .nil, e => by simp at e
  | _, _, 0, _, .cons r _, e => by simp at e; subst e; exact ⟨_, rfl, r⟩
  | _, _, i + 1, d, .cons _ t, e => by
    obtain ⟨v, h1, h2⟩ := RelPs.get (i := i) (d := d) t (by simpa using e)
    exact ⟨v, by simpa using h1, h2⟩
theorem RelPs.getV {K : PySem.W.Frag} {H : Hp} {Z : Addr → Prop} : ∀ {ds : List PyData} {vs : List V} {i : Nat} {v : V}, RelPs K H Z ds vs → vs[i]? = some v → ∃ d, ds[i]? = some d ∧ RelP K H Z d v
  | _, _, _, _, .nil, e => by simp at e
  | _, _, 0, _, .cons r _, e => by simp at e; subst e; exact ⟨_, rfl, r⟩
  | _, _, i + 1, v, .cons _ t, e => by
    obtain ⟨d, h1, h2⟩ := RelPs.getV (i := i) (v := v) t (by simpa using e)
    exact ⟨d, by simpa using h1, h2⟩
theorem RelPs.append {K : PySem.W.Frag} {H : Hp} {Z : Addr → Prop} : ∀ {ds ds' : List PyData} {vs vs' : List V}, RelPs K H Z ds vs → RelPs K H Z ds' vs' → RelPs K H Z (ds ++ ds') (vs ++ vs')
  | _, _, _, _, .nil, s => s
  | _, _, _, _, .cons r t, s => .cons r (RelPs.append t s)
theorem RelPs.take {K : PySem.W.Frag} {H : Hp} {Z : Addr → Prop} : ∀ {ds : List PyData} {vs : List V} (n : Nat), RelPs K H Z ds vs → RelPs K H Z (ds.take n) (vs.take n)
  | _, _, 0, _ => .nil
  | _, _, _ + 1, .nil => .nil
  | _, _, n + 1, .cons r t => .cons r (RelPs.take n t)
theorem RelPs.drop {K : PySem.W.Frag} {H : Hp} {Z : Addr → Prop} : ∀ {ds : List PyData} {vs : List V} (n : Nat), RelPs K H Z ds vs → RelPs K H Z (ds.drop n) (vs.drop n)
  | _, _, 0, r => r
  | _, _, _ + 1, .nil => .nil
  | _, _, n + 1, .cons _ t => RelPs.drop n t
theorem RelPs.set {K : PySem.W.Frag} {H : Hp} {Z : Addr → Prop} {d : PyData} {v : V} (r : RelP K H Z d v) : ∀ {ds : List PyData} {vs : List V} (i : Nat), RelPs K H Z ds vs → RelPs K H Z (ds.set i d) (vs.set i v)
  | _, _, _, .nil => .nil
  | _, _, 0, .cons _ t => .cons r t
  | _, _, i + 1, .cons q t => .cons q (RelPs.set r i t)
theorem RelPs.reverse {K : PySem.W.Frag} {H : Hp} {Z : Addr → Prop} : ∀ {ds : List PyData} {vs : List V}, RelPs K H Z ds vs → RelPs K H Z ds.reverse vs.reverse
  | _, _, .nil => .nil
  | _, _, .cons r t => by
    rw [List.reverse_cons, List.reverse_cons]
    exact (RelPs.reverse t).append (.cons r .nil)

/-- what stays: all that is tracked and may not change; the new changing addresses are old ones or free -/
structure Stay (H : Hp) (Z : Addr → Prop) (H' : Hp) (Z' : Addr → Prop) : Prop where
  keep : ∀ a o, H a = some o → ¬ Z a → H' a = some o
  tups : ∀ a xs, H a = some (.tup xs) → H' a = some (.tup xs)
  frzs : ∀ a o u, H a = some (.frz o u) → H' a = some (.frz o u)
  zed : ∀ a o, H a = some o → Z' a → Z a
mutual
theorem RelP.stay {K : PySem.W.Frag} {H H' : Hp} {Z Z' : Addr → Prop} (s : Stay H Z H' Z') : ∀ {d : PyData} {v : V}, RelP K H Z d v → RelP K H' Z' d v
  | _, _, .non => .non
  | _, _, .bl b => .bl b
  | _, _, .int i => .int i
  | _, _, .str x h => .str x h
  | _, _, .lst h z r => by
    rcases h with h | ⟨o, h⟩
    · exact .lst (.inl (s.keep _ _ h z)) (fun q => z (s.zed _ _ h q)) (RelPs.stay s r)
    · exact .lst (.inr ⟨o, s.frzs _ _ _ h⟩) (fun q => z (s.zed _ _ h q)) (RelPs.stay s r)
  | _, _, .tup h r => by
    refine .tup ?_ (RelPs.stay s r)
    rcases h with (h | ⟨o, h⟩) | h
    · exact .inl (.inl (s.tups _ _ h))
    · exact .inl (.inr ⟨o, s.frzs _ _ _ h⟩)
    · exact .inr h
theorem RelPs.stay {K : PySem.W.Frag} {H H' : Hp} {Z Z' : Addr → Prop} (s : Stay H Z H' Z') : ∀ {ds : List PyData} {vs : List V}, RelPs K H Z ds vs → RelPs K H' Z' ds vs
  | _, _, .nil => .nil
  | _, _, .cons r t => .cons (RelP.stay s r) (RelPs.stay s t)
end
mutual
/-- what the layer's == reads -/
theorem RelP.dp {K : PySem.W.Frag} {H : Hp} {Z : Addr → Prop} : ∀ {d : PyData} {v : V}, RelP K H Z d v → Dp K H v d
  | _, _, .non => .non
  | _, _, .bl b => .bl b
  | _, _, .int i => .int i
  | _, _, .str x _ => .str x
  | _, _, .lst h _ r => .lst (.inl h) (RelPs.dp r)
  | _, _, .tup h r => .tup h (RelPs.dp r)
theorem RelPs.dp {K : PySem.W.Frag} {H : Hp} {Z : Addr → Prop} : ∀ {ds : List PyData} {vs : List V}, RelPs K H Z ds vs → DpAll K H vs ds
  | _, _, .nil => .nil
  | _, _, .cons r t => .cons (RelP.dp r) (RelPs.dp t)
end

mutual
theorem RelP.lay {K : PySem.W.Frag} {H : Hp} {Z : Addr → Prop} : ∀ {d : PyData} {v : V}, RelP K H Z d v → d.canLay0 = true
  | _, _, .non => by simp [PyData.canLay0]
  | _, _, .bl b => by simp [PyData.canLay0]
  | _, _, .int i => by simp [PyData.canLay0]
  | _, _, .str x h => by simp only [PyData.canLay0]; exact sOk.ok h
  | _, _, .lst _ _ r => by simp only [PyData.canLay0]; exact RelPs.lay r
  | _, _, .tup _ r => by simp only [PyData.canLay0]; exact RelPs.lay r
theorem RelPs.lay {K : PySem.W.Frag} {H : Hp} {Z : Addr → Prop} : ∀ {ds : List PyData} {vs : List V}, RelPs K H Z ds vs → PyData.canLayAll0 ds = true
  | _, _, .nil => by simp [PyData.canLayAll0]
  | _, _, .cons r t => by simp only [PyData.canLayAll0, RelP.lay r, RelPs.lay t, Bool.and_self]
end
/-- a list that nobody changes: known to the object, or of the written part -/
def SqF (K : PySem.W.Frag) (H : Hp) (a : Addr) (xs : List V) : Prop := (∃ o, H a = some (.frz o (.lst xs))) ∨ ∃ (o : Obj) (its : Array Value) (n : Nat), K.lookup a = some o ∧ o.cls = .type "list" ∧ o.dict = none ∧ o.data = .seq its n ∧ its.size ≤ sizeLine ∧ Vals xs its.toList
theorem SqF.l {K : PySem.W.Frag} {H : Hp} {a : Addr} {xs : List V} (h : SqF K H a xs) : SqL K H a xs := by
  rcases h with h | h
  · exact .inl (.inr h)
  · exact .inr h
/-- values and places; scr: the script -/
inductive RelD (K : PySem.W.Frag) (H : Hp) (L : List Addr) (Z : Addr → Prop) : D → V → Prop
  | py {d : PyData} {v : V} : RelP K H Z d v → RelD K H L Z (.py d) v
  | loc {n : Nat} {a : Addr} : L[n]? = some a → RelD K H L Z (.loc n) (.ref a)
  | scr {ns : List Int} {a : Addr} : SqF K H a (ns.map V.int) → RelD K H L Z (.scr ns) (.ref a)
inductive RelDs (K : PySem.W.Frag) (H : Hp) (L : List Addr) (Z : Addr → Prop) : List D → List V → Prop
  | nil : RelDs K H L Z [] []
  | cons {v : V} {vs : List V} {d : D} {ds : List D} : RelD K H L Z d v → RelDs K H L Z ds vs → RelDs K H L Z (d :: ds) (v :: vs)
theorem pre_get {α : Type} {l m : List α} {n : Nat} {x : α} (h : l[n]? = some x) : (l ++ m)[n]? = some x := by
  rw [List.getElem?_append_left (List.getElem?_eq_some_iff.mp h).1]; exact h
theorem RelD.stay {K : PySem.W.Frag} {H H' : Hp} {L M : List Addr} {Z Z' : Addr → Prop} (s : Stay H Z H' Z') {d : D} {v : V} (r : RelD K H L Z d v) : RelD K H' (L ++ M) Z' d v := by
  cases r with
  | py r => exact .py (r.stay s)
  | loc e => exact .loc (pre_get e)
  | scr e =>
    refine .scr ?_
    rcases e with ⟨o, e⟩ | e
    · exact .inl ⟨o, s.frzs _ _ _ e⟩
    · exact .inr e
theorem RelDs.stay {K : PySem.W.Frag} {H H' : Hp} {L M : List Addr} {Z Z' : Addr → Prop} (s : Stay H Z H' Z') : ∀ {ds : List D} {vs : List V}, RelDs K H L Z ds vs → RelDs K H' (L ++ M) Z' ds vs
  | _, _, .nil => .nil
  | _, _, .cons r t => .cons (r.stay s) (RelDs.stay s t)
theorem RelDs.length {K : PySem.W.Frag} {H : Hp} {L : List Addr} {Z : Addr → Prop} : ∀ {ds : List D} {vs : List V}, RelDs K H L Z ds vs → ds.length = vs.length
  | _, _, .nil => rfl
  | _, _, .cons _ t => by rw [List.length_cons, List.length_cons, RelDs.length t]
theorem RelDs.get {K : PySem.W.Frag} {H : Hp} {L : List Addr} {Z : Addr → Prop} : ∀ {ds : List D} {vs : List V} {i : Nat} {d : D}, RelDs K H L Z ds vs → ds[i]? = some d → ∃ v, vs[i]? = some v ∧ RelD K H L Z d v
  | _, _, _, _, .nil, e => by simp at e
  | _, _, 0, _, .cons r _, e => by simp at e; subst e; exact ⟨_, rfl, r⟩
  | _, _, i + 1, d, .cons _ t, e => by
    obtain ⟨v, h1, h2⟩ := RelDs.get (i := i) (d := d) t (by simpa using e)
    exact ⟨v, by simpa using h1, h2⟩
theorem RelDs.set {K : PySem.W.Frag} {H : Hp} {L : List Addr} {Z : Addr → Prop} {d : D} {v : V} (r : RelD K H L Z d v) : ∀ {ds : List D} {vs : List V} (i : Nat), RelDs K H L Z ds vs → RelDs K H L Z (ds.set i d) (vs.set i v)
  | _, _, _, .nil => .nil
  | _, _, 0, .cons _ t => .cons r t
  | _, _, i + 1, .cons q t => .cons q (RelDs.set r i t)

/-! ### the classes -/
/-- the written part; the classes by number: where they stand, their fields' names -/
structure MK where
  prog : Program
  w : World
  K : PySem.W.Frag
  cls : Nat → Addr
  flds : Nat → List Str
  xcls : Nat → Value
  xflds : Nat → List Str
  /-- the exception that a suite holds: its address, its class, its dict -/
  cur : Option (Addr × Value × Option Addr)

/-- a dict's pairs: number and text keys; tuple keys -/
def DRelK (K : PySem.W.Frag) (H : Hp) (Z : Addr → Prop) : KVs → List (Key × V) → Prop := Paired fun kv p => keyOf kv.1 = some p.1 ∧ RelP K H Z kv.2 p.2
def DRelN (K : PySem.W.Frag) (H : Hp) (Z : Addr → Prop) : KVs → List (NestedKey × Addr × Value) → Prop := Paired fun kv x => nk kv.1 = some x.1 ∧ x.1.depth ≤ 8 ∧ RelP K H Z kv.1 (.ref x.2.1) ∧ ∃ v, RelV v x.2.2 ∧ RelP K H Z kv.2 v
theorem DRelK.stay {K : PySem.W.Frag} {H H' : Hp} {Z Z' : Addr → Prop} (s : Stay H Z H' Z') {kvs : KVs} {ks : List (Key × V)} (r : DRelK K H Z kvs ks) : DRelK K H' Z' kvs ks := Paired.mapP r fun _ _ q => ⟨q.1, q.2.stay s⟩
theorem DRelN.stay {K : PySem.W.Frag} {H H' : Hp} {Z Z' : Addr → Prop} (s : Stay H Z H' Z') {kvs : KVs} {ks : List (NestedKey × Addr × Value)} (r : DRelN K H Z kvs ks) : DRelN K H' Z' kvs ks := Paired.mapP r fun _ _ ⟨q1, q2, q3, v, q4, q5⟩ => ⟨q1, q2, q3.stay s, v, q4, q5.stay s⟩
/-- what stands at a place -/
inductive MOk (M : MK) (H : Hp) (L : List Addr) (Z : Addr → Prop) (a : Addr) : MO → Prop
  | lst {xs : List D} {vs : List V} : H a = some (.lst vs) → RelDs M.K H L Z xs vs → MOk M H L Z a (.lst xs)
  | ins {c : Nat} {fs : List D} {dx : Addr} {vs : List V} : H a = some (.ins (M.cls c) dx ((M.flds c).zip vs)) → vs.length ≤ (M.flds c).length → RelDs M.K H L Z fs vs → MOk M H L Z a (.ins c fs)
  | dK {kvs : KVs} {ks : List (Key × V)} : H a = some (.dK ks) → DRelK M.K H Z kvs ks → MOk M H L Z a (.dct kvs)
  | dN {kvs : KVs} {xs : List (NestedKey × Addr × Value)} {ep : Nat} : H a = some (nestO M.prog M.w a xs ep) → xs ≠ [] → DRelN M.K H Z kvs xs → MOk M H L Z a (.dct kvs)
  | lK {kvs : KVs} {ks : List (Key × V)} {od : Obj} : H a = some (.frz od (.dK ks)) → DRelK M.K H Z kvs ks → MOk M H L Z a (.lck kvs)
  | lN {kvs : KVs} {xs : List (NestedKey × Addr × Value)} {ep : Nat} {od : Obj} : H a = some (.frz od (nestO M.prog M.w a xs ep)) → xs ≠ [] → DRelN M.K H Z kvs xs → MOk M H L Z a (.lck kvs)
theorem MOk.there {M : MK} {H : Hp} {L : List Addr} {Z : Addr → Prop} {a : Addr} {o : MO} (m : MOk M H L Z a o) : ∃ u, H a = some u := by
  cases m with
  | lst h _ => exact ⟨_, h⟩
  | ins h _ _ => exact ⟨_, h⟩
  | dK h _ => exact ⟨_, h⟩
  | dN h _ _ => exact ⟨_, h⟩
  | lK h _ => exact ⟨_, h⟩
  | lN h _ _ => exact ⟨_, h⟩
theorem MOk.stay {M : MK} {H H' : Hp} {L N : List Addr} {Z Z' : Addr → Prop} {a : Addr} {o : MO} (m : MOk M H L Z a o) (s : Stay H Z H' Z') (e : H' a = H a) : MOk M H' (L ++ N) Z' a o := by
  cases m with
  | lst h r => exact .lst (e.trans h) (r.stay s)
  | ins h l r => exact .ins (e.trans h) l (r.stay s)
  | dK h r => exact .dK (e.trans h) (r.stay s)
  | dN h l r => exact .dN (e.trans h) l (r.stay s)
  | lK h r => exact .lK (e.trans h) (r.stay s)
  | lN h l r => exact .lN (e.trans h) l (r.stay s)

/-- a dict, to be read -/
def RdOk (M : MK) (H : Hp) (Z : Addr → Prop) (a : Addr) (kvs : KVs) : Prop := (∃ ks, Rd H a (.dK ks) ∧ DRelK M.K H Z kvs ks) ∨ ∃ xs ep, Rd H a (nestO M.prog M.w a xs ep) ∧ xs ≠ [] ∧ DRelN M.K H Z kvs xs
theorem MOk.rdD {M : MK} {H : Hp} {L : List Addr} {Z : Addr → Prop} {a : Addr} {kvs : KVs} (m : MOk M H L Z a (.dct kvs)) : RdOk M H Z a kvs := by
  cases m with
  | dK h r => exact .inl ⟨_, .inl h, r⟩
  | dN h l r => exact .inr ⟨_, _, .inl h, l, r⟩
theorem MOk.rdL {M : MK} {H : Hp} {L : List Addr} {Z : Addr → Prop} {a : Addr} {kvs : KVs} (m : MOk M H L Z a (.lck kvs)) : RdOk M H Z a kvs := by
  cases m with
  | lK h r => exact .inl ⟨_, .inr ⟨_, h⟩, r⟩
  | lN h l r => exact .inr ⟨_, _, .inr ⟨_, h⟩, l, r⟩
end KF
set_option Elab.async false
set_option linter.all false
set_option maxRecDepth 100000
set_option maxHeartbeats 4000000
/-! KF, part 2: a frame and its heap; what a reading is. -/
namespace KF
open PySem L2

/-- the anchor of a frame: heap and places at its entry; S: what others may change -/
structure Bs where
  H0 : Hp
  L0 : List Addr
  S : Addr → Prop
def Zf (B : Bs) (L : List Addr) (A : List (Option Addr)) (a : Addr) : Prop := a ∈ L ∨ B.S a ∨ some a ∈ A

/-! ### exceptions -/
inductive XRelZ (M : MK) (H : Hp) (L : List Addr) (Z : Addr → Prop) : Nat → List D → Value → Option Addr → Prop
  | bare (c : Nat) : XRelZ M H L Z c [] (M.xcls c) none
  | fld {c : Nat} {d : D} {v : V} {a : Addr} {f : Str} : M.xflds c = [f] → H a = some (.xd [(f, v)]) → ¬ Z a → RelD M.K H L Z d v → XRelZ M H L Z c [d] (M.xcls c) (some a)
theorem XRelZ.stay {M : MK} {H H' : Hp} {L N : List Addr} {Z Z' : Addr → Prop} (s : Stay H Z H' Z') {c : Nat} {fs : List D} {cls : Value} {dd : Option Addr} (r : XRelZ M H L Z c fs cls dd) : XRelZ M H' (L ++ N) Z' c fs cls dd := by
  cases r with
  | bare => exact .bare _
  | fld e1 e2 e3 e4 => exact .fld e1 (s.keep _ _ e2 e3) (fun z => e3 (s.zed _ _ e2 z)) (e4.stay s)
theorem XRelZ.st {M : MK} {H H' : Hp} {L : List Addr} {Z Z' : Addr → Prop} (s : Stay H Z H' Z') {c : Nat} {fs : List D} {cls : Value} {dd : Option Addr} (r : XRelZ M H L Z c fs cls dd) : XRelZ M H' L Z' c fs cls dd := by
  have := r.stay (N := []) s
  rw [List.append_nil] at this
  exact this
abbrev XRel (M : MK) (B : Bs) (A : List (Option Addr)) (H : Hp) (L : List Addr) : Nat → List D → Value → Option Addr → Prop := XRelZ M H L (Zf B L A)

inductive SOk (M : MK) (B : Bs) (H : Hp) (L : List Addr) (A : List (Option Addr)) (σ : St) (i : Nat) : Sl → Prop
  | u : A[i]? = some none → SOk M B H L A σ i .u
  | v {d : D} {w : V} : A[i]? = some none → σ[i]? = some (some w) → RelD M.K H L (Zf B L A) d w → SOk M B H L A σ i (.v d)
  | o {xs : List PyData} {a : Addr} {vs : List V} : A[i]? = some (some a) → σ[i]? = some (some (.ref a)) → H a = some (.lst vs) → RelPs M.K H (Zf B L A) xs vs → SOk M B H L A σ i (.o xs)
  | x {c : Nat} {fs : List D} {a : Addr} {cls : Value} {dd : Option Addr} : A[i]? = some none → σ[i]? = some (some (.ref a)) → M.cur = some (a, cls, dd) → XRel M B A H L c fs cls dd → SOk M B H L A σ i (.x c fs)

structure Good (M : MK) (B : Bs) (H : Hp) (L : List Addr) (A : List (Option Addr)) (h : MH) (env : Env) (σ : St) : Prop where
  len : L.length = h.length
  nd : L.Nodup
  obj : ∀ (n : Nat) (o : MO) (a : Addr), h[n]? = some o → L[n]? = some a → MOk M H L (Zf B L A) a o
  ls : ∀ a ∈ L, ¬ B.S a
  lpre : ∃ N, L = B.L0 ++ N ∧ ∀ a ∈ N, B.H0 a = none
  base : ∀ a o, B.H0 a = some o → a ∉ B.L0 → H a = some o
  btup : ∀ a xs, B.H0 a = some (.tup xs) → H a = some (.tup xs)
  bfrz : ∀ a o u, B.H0 a = some (.frz o u) → H a = some (.frz o u)
  dom : ∀ a o, B.H0 a = some o → ∃ o', H a = some o'
  sdom : ∀ a, B.S a → ∃ o, H a = some o
  alen : A.length = env.length
  slen : σ.length = env.length
  own : ∀ (i : Nat) (a : Addr), A[i]? = some (some a) → a ∉ L ∧ ¬ B.S a ∧ B.H0 a = none
  odis : ∀ (i j : Nat) (a : Addr), A[i]? = some (some a) → A[j]? = some (some a) → i = j
  slot : ∀ (i : Nat) (sl : Sl), env[i]? = some sl → SOk M B H L A σ i sl

/-- behind an expression -/
structure Ext (H : Hp) (L : List Addr) (H' : Hp) (L' : List Addr) : Prop where
  keep : ∀ a o, H a = some o → a ∉ L → H' a = some o
  tups : ∀ a xs, H a = some (.tup xs) → H' a = some (.tup xs)
  frzs : ∀ a o u, H a = some (.frz o u) → H' a = some (.frz o u)
  pre : ∃ N, L' = L ++ N ∧ ∀ a ∈ N, H a = none
  dom : ∀ a o, H a = some o → ∃ o', H' a = some o'
theorem Ext.refl (H : Hp) (L : List Addr) : Ext H L H L := ⟨fun _ _ h _ => h, fun _ _ h => h, fun _ _ _ h => h, ⟨[], by simp⟩, fun _ o h => ⟨o, h⟩⟩
theorem Ext.same {H H' : Hp} (L : List Addr) (s : Same H H') : Ext H L H' L := ⟨fun a o h _ => s a o h, fun a _ h => s a _ h, fun a _ _ h => s a _ h, ⟨[], by simp⟩, fun a o h => ⟨o, s a o h⟩⟩
theorem Ext.none {H H' : Hp} {L L' : List Addr} (x : Ext H L H' L') {a : Addr} (h : H' a = none) : H a = none := by
  cases q : H a with
  | none => rfl
  | some o => obtain ⟨o', e⟩ := x.dom a o q; rw [h] at e; cases e
theorem Ext.trans {H H1 H2 : Hp} {L L1 L2 : List Addr} (x : Ext H L H1 L1) (y : Ext H1 L1 H2 L2) : Ext H L H2 L2 := by
  obtain ⟨N, e1, n1⟩ := x.pre
  obtain ⟨N', e2, n2⟩ := y.pre
  refine ⟨fun a o h hl => y.keep a o (x.keep a o h hl) ?_, fun a xs h => y.tups a xs (x.tups a xs h), fun a o u h => y.frzs a o u (x.frzs a o u h), ⟨N ++ N', by rw [e2, e1, List.append_assoc], fun a ha => ?_⟩, fun a o h => ?_⟩
  · rw [e1]
    intro hm
    rcases List.mem_append.mp hm with q | q
    · exact hl q
    · rw [n1 a q] at h; cases h
  · rcases List.mem_append.mp ha with q | q
    · exact n1 a q
    · exact x.none (n2 a q)
  · obtain ⟨o', e⟩ := x.dom a o h
    exact y.dom a o' e

section
variable {M : MK} {B : Bs} {H H' : Hp} {L L' : List Addr} {A : List (Option Addr)} {h h' : MH} {env : Env} {σ : St}
theorem Ext.stay (x : Ext H L H' L') : Stay H (Zf B L A) H' (Zf B L' A) := by
  obtain ⟨N, e, n⟩ := x.pre
  refine ⟨fun a o h z => x.keep a o h fun q => z (.inl q), x.tups, x.frzs, fun a o h z => ?_⟩
  rcases z with z | z | z
  · rw [e] at z
    rcases List.mem_append.mp z with q | q
    · exact .inl q
    · rw [n a q] at h; cases h
  · exact .inr (.inl z)
  · exact .inr (.inr z)
theorem Good.there (g : Good M B H L A h env σ) {a : Addr} (ha : a ∈ L) : ∃ o, H a = some o := by
  obtain ⟨n, hn⟩ := List.getElem?_of_mem ha
  have hl : n < h.length := by rw [← g.len]; exact (List.getElem?_eq_some_iff.mp hn).1
  exact (g.obj n h[n] a (List.getElem?_eq_getElem hl) hn).there
theorem Good.ownThere (g : Good M B H L A h env σ) {i : Nat} {a : Addr} (ha : A[i]? = some (some a)) : ∃ vs, H a = some (.lst vs) := by
  have hi : i < env.length := by rw [← g.alen]; exact (List.getElem?_eq_some_iff.mp ha).1
  obtain ⟨sl, e⟩ : ∃ sl, env[i]? = some sl := ⟨_, List.getElem?_eq_getElem hi⟩
  cases g.slot i sl e with
  | u q => rw [ha] at q; cases q
  | v q _ _ => rw [ha] at q; cases q
  | o q _ q2 _ => rw [ha] at q; cases q; exact ⟨_, q2⟩
  | x q _ _ _ => rw [ha] at q; cases q
/-- a free address is none of those that may change -/
theorem Good.free (g : Good M B H L A h env σ) {a : Addr} (n : H a = none) : ¬ Zf B L A a := by
  rintro (z | z | z)
  · obtain ⟨o, e⟩ := g.there z; rw [n] at e; cases e
  · obtain ⟨o, e⟩ := g.sdom a z; rw [n] at e; cases e
  · obtain ⟨i, hi⟩ := List.getElem?_of_mem z
    obtain ⟨o, e⟩ := g.ownThere hi; rw [n] at e; cases e
theorem Good.free0 (g : Good M B H L A h env σ) {a : Addr} (n : H a = none) : B.H0 a = none := by
  cases q : B.H0 a with
  | none => rfl
  | some o => obtain ⟨o', e⟩ := g.dom a o q; rw [n] at e; cases e
theorem SOk.stay {i : Nat} {sl : Sl} (s : SOk M B H L A σ i sl) (x : Ext H L H' L') (k : ∀ a vs, A[i]? = some (some a) → H a = some (.lst vs) → H' a = some (.lst vs)) : SOk M B H' L' A σ i sl := by
  obtain ⟨N, e, n⟩ := id x.pre
  cases s with
  | u q => exact .u q
  | v q1 q2 q3 => subst e; exact .v q1 q2 (q3.stay x.stay)
  | o q1 q2 q3 q4 => exact .o q1 q2 (k _ _ q1 q3) (q4.stay x.stay)
  | x q1 q2 q3 q4 => subst e; exact .x q1 q2 q3 (q4.stay x.stay)
/-- nothing that was tracked has changed -/
theorem Good.same (g : Good M B H L A h env σ) (s : Same H H') : Good M B H' L A h env σ := by
  have st : Stay H (Zf B L A) H' (Zf B L A) := (Ext.same L s).stay
  refine ⟨g.len, g.nd, fun n o a e1 e2 => ?_, g.ls, g.lpre, fun a o e hl => s _ _ (g.base a o e hl), fun a xs e => s _ _ (g.btup a xs e), fun a o u e => s _ _ (g.bfrz a o u e), fun a o e => ?_, fun a e => ?_, g.alen, g.slen, g.own, g.odis, fun i sl e => ?_⟩
  · have m := g.obj n o a e1 e2
    obtain ⟨u, hu⟩ := m.there
    have := m.stay (N := []) st ((s _ _ hu).trans hu.symm)
    rw [List.append_nil] at this
    exact this
  · obtain ⟨o', e'⟩ := g.dom a o e; exact ⟨o', s _ _ e'⟩
  · obtain ⟨o', e'⟩ := g.sdom a e; exact ⟨o', s _ _ e'⟩
  · exact (g.slot i sl e).stay (Ext.same L s) fun a vs _ q => s _ _ q
end

/-! ### how a value stands behind an expression -/
inductive Mode | b | n
/-- b: borrowed perhaps; n: for ever -/
def RelM (M : MK) : Mode → Bs → List (Option Addr) → Hp → Hp → List Addr → D → V → Prop
  | .b, B, A, _, H, L, d, v => RelD M.K H L (Zf B L A) d v ∨ ∃ (i : Nat) (a : Addr) (xs : List PyData) (vs : List V), A[i]? = some (some a) ∧ v = .ref a ∧ d = .py (.list xs) ∧ H a = some (.lst vs) ∧ RelPs M.K H (Zf B L A) xs vs
  | .n, B, A, _, H, L, d, v => RelD M.K H L (Zf B L A) d v
theorem RelPs.weak {K : PySem.W.Frag} {H : Hp} {Z Z' : Addr → Prop} {ds : List PyData} {vs : List V} (r : RelPs K H Z ds vs) (z : ∀ a, Z' a → Z a) : RelPs K H Z' ds vs := r.stay ⟨fun _ _ h _ => h, fun _ _ h => h, fun _ _ _ h => h, fun a _ _ q => z a q⟩
theorem RelP.weak {K : PySem.W.Frag} {H : Hp} {Z Z' : Addr → Prop} {d : PyData} {v : V} (r : RelP K H Z d v) (z : ∀ a, Z' a → Z a) : RelP K H Z' d v := r.stay ⟨fun _ _ h _ => h, fun _ _ h => h, fun _ _ _ h => h, fun a _ _ q => z a q⟩
theorem RelD.weak {K : PySem.W.Frag} {H : Hp} {L : List Addr} {Z Z' : Addr → Prop} {d : D} {v : V} (r : RelD K H L Z d v) (z : ∀ a, Z' a → Z a) : RelD K H L Z' d v := by
  cases r with
  | py r => exact .py (r.weak z)
  | loc e => exact .loc e
  | scr e => exact .scr e
section
variable {M : MK} {B : Bs} {A : List (Option Addr)} {Hs H : Hp} {L : List Addr} {d : D} {v : V}
theorem RelM.nb (r : RelM M .n B A Hs H L d v) : RelM M .b B A Hs H L d v := .inl r
def Mode.le : Mode → Mode → Bool
  | .b, _ => true
  | .n, .b => false
  | .n, .n => true
theorem RelM.le {m m' : Mode} (r : RelM M m B A Hs H L d v) (l : m'.le m = true) : RelM M m' B A Hs H L d v := by
  cases m <;> cases m' <;> first | exact r | exact r.nb | cases l
theorem RelM.stay {m : Mode} {H' : Hp} {L' : List Addr} (r : RelM M m B A Hs H L d v) (x : Ext H L H' L') (o : ∀ (i : Nat) (a : Addr), A[i]? = some (some a) → a ∉ L) : RelM M m B A Hs H' L' d v := by
  obtain ⟨N, e, n⟩ := id x.pre
  cases m with
  | n => subst e; exact RelD.stay (M := N) x.stay r
  | b =>
    rcases r with r | ⟨i, a, xs, vs, h1, h2, h3, h4, h5⟩
    · subst e; exact .inl (RelD.stay (M := N) x.stay r)
    · exact .inr ⟨i, a, xs, vs, h1, h2, h3, x.keep _ _ h4 (o i a h1), h5.stay x.stay⟩
/-- a list, however it stands -/
theorem RelM.list {m : Mode} {xs : List PyData} (r : RelM M m B A Hs H L (.py (.list xs)) v) : ∃ a vs, v = .ref a ∧ Rd H a (.lst vs) ∧ RelPs M.K H (Zf B L A) xs vs := by
  have r := r.le (m' := .b) rfl
  rcases r with r | ⟨i, a, xs', vs, _, rfl, e, h, q⟩
  · cases r with
    | py r => cases r with
      | lst h z q => exact ⟨_, _, rfl, h, q⟩
  · cases e; exact ⟨a, vs, rfl, .inl h, q⟩
/-- data that are no list -/
theorem RelM.data {m : Mode} {d : PyData} (r : RelM M m B A Hs H L (.py d) v) (n : ∀ xs, d ≠ .list xs) : RelP M.K H (Zf B L A) d v := by
  have r := r.le (m' := .b) rfl
  rcases r with r | ⟨i, a, xs', vs, _, rfl, e, h, q⟩
  · cases r with
    | py r => exact r
  · cases e; exact absurd rfl (n _)
theorem RelM.int {m : Mode} {i : Int} (r : RelM M m B A Hs H L (.py (.int i)) v) : v = .int i := by
  cases r.data (by intro _ h; cases h); rfl
theorem RelM.bl {m : Mode} {i : Bool} (r : RelM M m B A Hs H L (.py (.bool i)) v) : v = .bl i := by
  cases r.data (by intro _ h; cases h); rfl
theorem RelM.str {m : Mode} {i : Str} (r : RelM M m B A Hs H L (.py (.str i)) v) : v = .str i ∧ sOk i = true := by
  cases r.data (by intro _ h; cases h) with
  | str _ h => exact ⟨rfl, h⟩
theorem RelM.non {m : Mode} (r : RelM M m B A Hs H L (.py .none) v) : v = .non := by
  cases r.data (by intro _ h; cases h); rfl
theorem RelM.tup {m : Mode} {xs : List PyData} (r : RelM M m B A Hs H L (.py (.tuple xs)) v) : ∃ a vs, v = .ref a ∧ SqT M.K H a vs ∧ RelPs M.K H (Zf B L A) xs vs := by
  cases r.data (by intro _ h; cases h) with
  | tup h q => exact ⟨_, _, rfl, h, q⟩
theorem RelM.loc {m : Mode} {n : Nat} (r : RelM M m B A Hs H L (.loc n) v) : ∃ a, L[n]? = some a ∧ v = .ref a := by
  have r := r.le (m' := .b) rfl
  rcases r with r | ⟨i, a, xs', vs, _, rfl, e, h, q⟩
  · cases r with
    | loc e => exact ⟨_, e, rfl⟩
  · cases e
theorem RelM.scr {m : Mode} {ns : List Int} (r : RelM M m B A Hs H L (.scr ns) v) : ∃ a, v = .ref a ∧ SqF M.K H a (ns.map V.int) := by
  have r := r.le (m' := .b) rfl
  rcases r with r | ⟨i, a, xs', vs, _, rfl, e, h, q⟩
  · cases r with
    | scr e => exact ⟨_, rfl, e⟩
  · cases e
/-- what == reads -/
theorem RelM.dp {m : Mode} {d : PyData} (r : RelM M m B A Hs H L (.py d) v) : Dp M.K H v d := by
  have r := r.le (m' := .b) rfl
  rcases r with r | ⟨i, a, xs', vs, _, rfl, e, h, q⟩
  · cases r with
    | py r => exact r.dp
  · cases e; exact .lst (.inl (.inl h)) q.dp
end

section
variable {M : MK} {B : Bs} {A : List (Option Addr)} {Hs H : Hp} {L : List Addr} {v : V}
theorem RelM.lay {m : Mode} {d : PyData} (r : RelM M m B A Hs H L (.py d) v) : d.canLay0 = true := by
  have r := r.le (m' := .b) rfl
  rcases r with r | ⟨i, a, xs', vs, _, rfl, e, h, q⟩
  · cases r with
    | py r => exact r.lay
  · cases e; simp only [PyData.canLay0]; exact q.lay
end
/-! ### readings -/
section
variable {α β : Type}
def Post (M : MK) (B : Bs) (A : List (Option Addr)) (env : Env) (σ : St) (W : WX) (R : Hp → Hp → List Addr → α → β → Prop) (H : Hp) (L : List Addr) (Q : β → Hp → Prop) : Out α → Prop
  | .ok a h' => ∀ b H' L', Ext H L H' L' → Good M B H' L' A h' env σ → R H H' L' a b → Q b H'
  | .exc c fs h' => ∀ cls dd H' L', Ext H L H' L' → Good M B H' L' A h' env σ → XRel M B A H' L' c fs cls dd → W cls dd σ H'
  | .bad => False
abbrev RT (α β : Type) := Bs → List (Option Addr) → Hp → Hp → List Addr → α → β → Prop
def tG (M : MK) (R : RT α β) (W : WX) (f : Env → MH → Out α) : St → Hp → (β → Hp → Prop) → Prop := fun σ H Q =>
  ∃ B L A h env, Good M B H L A h env σ ∧ Post M B A env σ W (R B A) H L Q (f env h)
/-- a relation that looks at the start only for what is free there -/
def SM (R : RT α β) : Prop := ∀ B A H L H1 L1 H' L' a b, Ext H L H1 L1 → R B A H1 H' L' a b → R B A H H' L' a b
theorem sm_M {M : MK} {m : Mode} : SM (RelM M m) := by
  intro B A H L H1 L1 H' L' a b x r
  cases m with
  | b => exact r
  | n => exact r
theorem Post.from {M : MK} {B : Bs} {A : List (Option Addr)} {env : Env} {σ : St} {W : WX} {R : RT α β} {H H1 : Hp} {L L1 : List Addr} {Q : β → Hp → Prop} {o : Out α} (sm : SM R) (x : Ext H L H1 L1)
    (p : Post M B A env σ W (R B A) H L Q o) : Post M B A env σ W (R B A) H1 L1 Q o := by
  cases o with
  | ok a h => exact fun b H' L' x' g r => p b H' L' (x.trans x') g (sm B A H L H1 L1 H' L' a b x r)
  | exc c fs h => exact fun cls dd H' L' x' g r => p cls dd H' L' (x.trans x') g r
  | bad => exact p
variable {γ δ : Type}
theorem tG_bind {M : MK} {B : Bs} {A : List (Option Addr)} {env : Env} {σ : St} {W : WX} {R : RT α β} {R' : RT γ δ} {H : Hp} {L : List Addr} {h : MH} {f : Env → MH → Out α} {k : α → MH → Out γ} {Q : δ → Hp → Prop} {T : β → Hp → Prop} (sm : SM R')
    (g : Good M B H L A h env σ) (p : Post M B A env σ W (R' B A) H L Q ((f env h).bind k))
    (hk : ∀ a h1 b H1 L1, f env h = .ok a h1 → Ext H L H1 L1 → Good M B H1 L1 A h1 env σ → R B A H H1 L1 a b → Post M B A env σ W (R' B A) H1 L1 Q (k a h1) → T b H1) : tG M R W f σ H T := by
  refine ⟨B, L, A, h, env, g, ?_⟩
  cases e : f env h with
  | ok a h1 =>
    rw [e] at p
    exact fun b H' L' x g' r => hk a h1 b H' L' e x g' r (Post.from sm x p)
  | exc c fs h1 => rw [e] at p; exact p
  | bad => rw [e] at p; exact p
/-- the last step: nothing that was tracked has changed -/
theorem Post.fin {M : MK} {B : Bs} {A : List (Option Addr)} {env : Env} {σ : St} {W : WX} {R : RT α β} {H H' : Hp} {L : List Addr} {h : MH} {Q : β → Hp → Prop} {a : α} {b : β} (p : Post M B A env σ W (R B A) H L Q (.ok a h))
    (g : Good M B H L A h env σ) (s : Same H H') (r : R B A H H' L a b) : Q b H' := p b H' L (Ext.same L s) (g.same s) r
end
theorem same_upd {H : Hp} {p : Addr} {o : HO} (n : H p = none) : Same H (upd H p o) := fun b u h => by
  rw [upd_ne (ne_of_none h n)]; exact h
theorem PE.mono {X : Cx} {e : Expr} {t t' : TE} (h : PE X e t) (i : ∀ σ H Q, t' σ H Q → t σ H Q) : PE X e t' := ⟨fun pins s σ H Q I q => h.run pins s σ H Q I (i σ H Q q)⟩
theorem PT.mono {X : Cx} {e : Expr} {t t' : TT} (h : PT X e t) (i : ∀ σ H Q, t' σ H Q → t σ H Q) : PT X e t' := ⟨fun pins s σ H Q I q => h.run pins s σ H Q I (i σ H Q q)⟩
theorem PW.mono {X : Cx} {e : Expr} {t t' : TT} (h : PW X e t) (i : ∀ σ H Q, t' σ H Q → t σ H Q) : PW X e t' := ⟨fun wh pins s σ H Q I q => h.run wh pins s σ H Q I (i σ H Q q)⟩
theorem PA.mono {X : Cx} {e : List Expr} {t t' : TA} (h : PA X e t) (i : ∀ σ H Q, t' σ H Q → t σ H Q) : PA X e t' := ⟨fun pos pins s σ H Q I q => h.run pos pins s σ H Q I (i σ H Q q)⟩
theorem PS.mono {X : Cx} {e : Stmt} {t t' : TS} (h : PS X e t) (i : ∀ D σ H, t' D σ H → t D σ H) : PS X e t' := ⟨fun pins s σ H D I q => h.run pins s σ H D I (i D σ H q)⟩
theorem PSs.mono {X : Cx} {e : List Stmt} {t t' : TS} (h : PSs X e t) (i : ∀ D σ H, t' D σ H → t D σ H) : PSs X e t' := ⟨fun pins s σ H D I q => h.run pins s σ H D I (i D σ H q)⟩
end KF
set_option Elab.async false
set_option linter.all false
set_option maxRecDepth 100000
set_option maxHeartbeats 4000000
/-! KF, part 3: rules of operations that the hand layer has not, or has narrower. -/
namespace KF
open PySem PySem.Spec PyProof.Rows L2
section
variable {X : Cx} {pins : List (Addr × Obj)} {σ : L2.St} {H : Hp} {s : Shared} {l : Addr} {xs : List V}
theorem lstR (I : Inv X pins σ H s) (hH : Rd H l (.lst xs)) : xs.length ≤ sizeLine ∧ ∃ (its : List Value) (n : Nat), Vals xs its ∧ xs.length = its.length ∧ s.heap.get? l = some { cls := .type "list", data := .seq its.toArray n } := by
  obtain ⟨z, its, n, r, e⟩ := hH.ok I.hok
  exact ⟨z, its, n, r, r.length, e⟩
def rCatR : R2 := fun x y H Q => ∃ l b xs zs, x = .ref l ∧ y = .ref b ∧ Rd H l (.lst xs) ∧ Rd H b (.lst zs) ∧ xs.length + zs.length ≤ sizeLine ∧ ∀ p, H p = none → Q (.ref p) (upd H p (.lst (xs ++ zs)))
theorem op_catR : OpR X (binaryOp .Add) rCatR := by
  intro pins s σ H x y v u Q I rx ry h
  obtain ⟨l, b, xs, zs, rfl, rfl, hH, hB, hz, q⟩ := h
  cases rx
  cases ry
  obtain ⟨z, its, n, r, hl, e⟩ := lstR I hH
  obtain ⟨z2, its2, n2, r2, hl2, e2⟩ := lstR I hB
  refine PySem.P.add_list e e2 ?_ (by rw [List.size_toArray, List.size_toArray]; omega)
  have ea : its.toArray ++ its2.toArray = (its ++ its2).toArray := by simp
  rw [ea]
  exact ⟨.ref _, _, I.lnew (t' := s.toks) (r.append r2) (by rw [List.length_append]; omega), rfl, q _ I.fresh⟩
/-- t + u of tuples, whatever is empty -/
def rCatTA (K : PySem.W.Frag) : R2 := fun x y H Q => ∃ a b xs ys, x = .ref a ∧ y = .ref b ∧ SqT K H a xs ∧ SqT K H b ys ∧ xs.length + ys.length ≤ sizeLine ∧
  (xs = [] → Q (.ref b) H) ∧ (xs ≠ [] → ys = [] → Q (.ref a) H) ∧ (xs ≠ [] → ys ≠ [] → ∀ p, H p = none → Q (.ref p) (upd H p (.tup (xs ++ ys))))
theorem cat_tup0 {prog : Program} {w : World} {A : Around} {E : Value → Shared → Prop} {t b : Addr} {ws : List Value} {Q : Value → Shared → Prop} (ht : IsTup s.heap t ([] : List Value).toArray) (hb : IsTup s.heap b ws.toArray)
    (h0 : Q (.ref b) s) : wpAny (model prog w) A (binaryOp .Add (.ref t) (.ref b)) Q E s := by
  obtain ⟨⟨cls, dd, data, sl⟩, ho, hc, n, hd⟩ := id ht
  obtain ⟨⟨cls2, dd2, data2, sl2⟩, ho2, hc2, n2, hd2⟩ := id hb
  simp only at hc hd hc2 hd2
  subst hc hd hc2 hd2
  exact concat_meets ⟨_, ho, rfl⟩ ⟨_, ho2, rfl⟩ noFill_tuple_add seq_tuple_add PySem.F.slot_tuple_add PySem.F.entry_tuple_add (PySem.F.args_tuple_add_2 _ _)
    (tuple_addW0 t b _ ws.toArray n n2 dd dd2 sl sl2 (by simp)) ⟨ho, ho2, h0⟩
theorem op_catTA : OpR X (binaryOp .Add) (rCatTA X.K) := by
  intro pins s σ H x y v u Q I rx ry h
  obtain ⟨a, b, xs, ys, rfl, rfl, ha, hb, hz, q0, q1, q2⟩ := h
  by_cases hx : xs = []
  · subst hx
    cases rx
    cases ry
    obtain ⟨its, r1, p1, _⟩ := I.tuple ha
    obtain ⟨its2, r2, p2, _⟩ := I.tuple hb
    cases r1
    exact cat_tup0 p1 p2 ⟨.ref b, H, I, rfl, q0 rfl⟩
  · exact op_catT pins s σ H _ _ v u Q I rx ry ⟨a, b, xs, ys, rfl, rfl, ha, hb, hx, hz, q1 hx, q2 hx⟩

/-! ### slices of tuples -/
theorem getItem_tuple_whole {prog : Program} {w : World} {A : Around} {E : Value → Shared → Prop} {t sl : Addr} {items : Array Value} {vl vu : Value} {lo hi : Option Int} {Q : Value → Shared → Prop} (ht : IsTup s.heap t items) (hs : s.heap.IsSliceOf sl vl vu .none) (pl : IsPart vl lo) (pu : IsPart vu hi)
    (hw : HT.sIx items.size 0 lo = 0 ∧ HT.sIx items.size items.size hi = items.size) (h : Q (.ref t) s) : wpAny (model prog w) A (getItem (.ref t) (.ref sl)) Q E s := by
  obtain ⟨os, hos, hcs, hds⟩ := id hs
  have hTs : s.TypeIs (.ref sl) "slice" := ⟨os, hos, hcs⟩
  unfold getItem
  try with_reducible refine wpAny_holding ?_
  first | refine wpAny_bind (wpAny_pure ?_) | skip
  refine wpAny_bind (wpAny_sequenceKey ht.typeIs (by decide) ?_)
  refine wpAny_bind (wpAny_callSpecial?_slot (name := Str.ofString "__getitem__") ht.typeIs PyProof.Rows.slot_tuple_getitem
    (wpAny_call_entry PyProof.Rows.slot_tuple_getitem ht.typeIs entry_tuple_getitem ?_ (args_tuple_getitem _ _)))
  show wpAny _ _ (Builtin.Tuple.tupleItemsOf (.ref t) >>= _) _ _ s
  refine wpAny_bind (tupleItemsOf_ ht ?_)
  refine wpAny_bind (wpAny_typeOf hTs ?_)
  rw [if_pos (by decide)]
  refine wpAny_bind (HT.sliceApplied_gen hs pl pu ?_)
  rw [hw.1, hw.2]
  have hno : ((((0 : Nat) : Int) == 0 && (1 : Int) == 1 && (items.size - 0) == items.size) = true) := by simp
  show wpAny _ _ (if ((((0 : Nat) : Int) == 0 && (1 : Int) == 1 && (items.size - 0) == items.size) = true) then _ else _) _ _ s
  rw [if_pos hno]
  refine wpAny_bind (m := Builtin.Tuple.tupleIsExact (.ref t)) (wpAny_bind (wpAny_typeOf ht.typeIs (wpAny_pure ?_)))
  rw [if_pos (by decide)]
  first
    | exact wpAny_bind (wpAny_rule (wpAny_pure ⟨_, rfl, wpAny_pure h⟩))
    | exact wpAny_bind (wpAny_rule (wpAny_bind (wpAny_pure (wpAny_pure ⟨_, rfl, wpAny_pure h⟩))))
/-- t[lo:hi] of a tuple -/
def rSlTA (K : PySem.W.Frag) : V → Option Int → Option Int → Hp → VK → Prop := fun x lo hi H Q => ∃ a xs, x = .ref a ∧ SqT K H a xs ∧
  ((HT.sIx xs.length 0 lo = 0 ∧ HT.sIx xs.length xs.length hi = xs.length) → Q (.ref a) H) ∧
  (¬ (HT.sIx xs.length 0 lo = 0 ∧ HT.sIx xs.length xs.length hi = xs.length) → ∀ p, H p = none → Q (.ref p) (upd H p (.tup (cutV xs lo hi))))
theorem sl_tupA : SlR X (rSlTA X.K) := by
  intro pins s σ H x v vl vu lo hi sl Q I rx hs pl pu h
  obtain ⟨a, xs, rfl, hx, q0, q1⟩ := h
  by_cases hw : HT.sIx xs.length 0 lo = 0 ∧ HT.sIx xs.length xs.length hi = xs.length
  · cases rx
    obtain ⟨its, r, ht, hz⟩ := I.tuple hx
    have hlen : its.toArray.size = xs.length := by rw [List.size_toArray]; exact r.length.symm
    refine ⟨"tuple", _, PyProof.Rows.slot_tuple_getitem.lookup, ht.typeIs, ?_⟩
    exact getItem_tuple_whole ht hs pl pu (by rw [hlen]; exact hw) ⟨.ref a, H, I, rfl, q0 hw⟩
  · exact sl_tup pins s σ H _ v vl vu lo hi sl Q I rx hs pl pu ⟨a, xs, rfl, hx, hw, q1 hw⟩
/-! ### t[::-1] of a tuple -/
theorem sliceApplied_back {prog : Program} {w : World} {A : Around} {E : Value → Shared → Prop} {sl : Addr} {vl vu vk : Value} {n : Nat} {Q : Int × Int × Nat → Shared → Prop} (hs : s.heap.IsSliceOf sl vl vu vk) (pl : IsPart vl none) (pu : IsPart vu none) (pk : IsPart vk (some (-1)))
    (h : Q ((n : Int) - 1, -1, n) s) : wpAny (model prog w) A (Builtin.Slice.sliceApplied (.ref sl) (pure (n : Int))) Q E s := by
  obtain ⟨os, hos, hcs, hds⟩ := id hs
  unfold Builtin.Slice.sliceApplied Builtin.Slice.sliceFields
  refine wpAny_bind (wpAny_bind (wpAny_field hos hds (x := vl) rfl (wpAny_bind (wpAny_field hos hds (x := vu) rfl (wpAny_bind (wpAny_field hos hds (x := vk) rfl (wpAny_pure ?_)))))))
  refine wpAny_bind (HT.slicePart_ pk ?_)
  show wpAny _ _ (if ((-1 : Int) == 0) = true then _ else _) _ _ s
  rw [if_neg (by decide)]
  refine wpAny_bind (HT.slicePart_ pl (wpAny_bind (HT.slicePart_ pu (wpAny_bind (wpAny_pure ?_)))))
  show wpAny _ _ (match Builtin.Slice.sliceAdjust none none (-1) (n : Int) with | (lo, hi) => pure (lo, (-1 : Int), Builtin.Slice.slicePlaces lo hi (-1))) _ _ s
  have e : Builtin.Slice.sliceAdjust none none (-1) (n : Int) = ((n : Int) - 1, -1) := by
    unfold Builtin.Slice.sliceAdjust
    simp
  rw [e]
  have e2 : Builtin.Slice.slicePlaces ((n : Int) - 1) (-1) (-1) = n := by
    unfold Builtin.Slice.slicePlaces
    have h1 : ¬ ((-1 : Int) > 0) := by omega
    rw [if_neg h1]
    by_cases h2 : (n : Int) - 1 > -1
    · rw [if_pos h2]
      have e3 : (n : Int) - 1 - -1 - 1 = (n : Int) - 1 := by omega
      have e4 : (- (-1 : Int)) = 1 := by decide
      rw [e3, e4, Int.ediv_one]
      omega
    · rw [if_neg h2]
      omega
  show wpAny _ _ (pure ((n : Int) - 1, (-1 : Int), Builtin.Slice.slicePlaces ((n : Int) - 1) (-1) (-1))) _ _ s
  rw [e2]
  exact wpAny_pure h
theorem fm_congr {α β : Type} {f g : α → Option β} : ∀ {l : List α}, (∀ x ∈ l, f x = g x) → l.filterMap f = l.filterMap g
  | [], _ => rfl
  | x :: r, h => by
    rw [List.filterMap_cons, List.filterMap_cons, h x List.mem_cons_self, fm_congr fun y hy => h y (List.mem_cons_of_mem _ hy)]
theorem pick_back (xs : Array Value) : ((List.range xs.size).filterMap fun (k : Nat) => xs[((xs.size : Int) - 1 + (k : Int) * (-1)).toNat]?).toArray = xs.toList.reverse.toArray := by
  have h := PySem.W.krv_pick xs
  rw [← h]
  unfold slicePick
  rw [PySem.W.krv_bounds]
  show _ = ((sliceRange ((xs.size : Int) - 1) (-1) (-1)).filterMap (xs[·]?)).toArray
  rw [PySem.W.krv_sliceRange, List.filterMap_map]
  congr 1
  refine fm_congr fun k hk => ?_
  have hk := List.mem_range.mp hk
  show xs[((xs.size : Int) - 1 + (k : Int) * (-1)).toNat]? = xs[xs.size - 1 - k]?
  have e : ((xs.size : Int) - 1 + (k : Int) * (-1)).toNat = xs.size - 1 - k := by omega
  rw [e]
theorem getItem_tuple_back {prog : Program} {w : World} {A : Around} {E : Value → Shared → Prop} {t sl : Addr} {items : Array Value} {vl vu vk : Value} {Q : Value → Shared → Prop} (ht : IsTup s.heap t items) (hs : s.heap.IsSliceOf sl vl vu vk) (pl : IsPart vl none) (pu : IsPart vu none) (pk : IsPart vk (some (-1)))
    (h : Q (.ref s.heap.objs.size) { s with heap := s.heap.push { cls := .type "tuple", data := .seq items.toList.reverse.toArray } })
    (hsz : items.size ≤ sizeLine) : wpAny (model prog w) A (getItem (.ref t) (.ref sl)) Q E s := by
  have htake : sizeOk (.seq items.toList.reverse.toArray) := by
    show items.toList.reverse.toArray.size ≤ sizeLine
    rw [List.size_toArray, List.length_reverse, Array.length_toList]
    exact hsz
  obtain ⟨os, hos, hcs, hds⟩ := id hs
  have hTs : s.TypeIs (.ref sl) "slice" := ⟨os, hos, hcs⟩
  unfold getItem
  try with_reducible refine wpAny_holding ?_
  first | refine wpAny_bind (wpAny_pure ?_) | skip
  refine wpAny_bind (wpAny_sequenceKey ht.typeIs (by decide) ?_)
  refine wpAny_bind (wpAny_callSpecial?_slot (name := Str.ofString "__getitem__") ht.typeIs PyProof.Rows.slot_tuple_getitem
    (wpAny_call_entry PyProof.Rows.slot_tuple_getitem ht.typeIs entry_tuple_getitem ?_ (args_tuple_getitem _ _)))
  show wpAny _ _ (Builtin.Tuple.tupleItemsOf (.ref t) >>= _) _ _ s
  refine wpAny_bind (tupleItemsOf_ ht ?_)
  refine wpAny_bind (wpAny_typeOf hTs ?_)
  rw [if_pos (by decide)]
  refine wpAny_bind (sliceApplied_back hs pl pu pk ?_)
  have hno : ¬ (((((items.size : Nat) : Int) - 1) == 0 && (-1 : Int) == 1 && items.size == items.size) = true) := by simp
  show wpAny _ _ (if (((((items.size : Nat) : Int) - 1) == 0 && (-1 : Int) == 1 && items.size == items.size) = true) then _ else _) _ _ s
  rw [if_neg hno, pick_back]
  first
    | exact wpAny_bind (m := Builtin.Tuple.tupleExact _) (wpAny_newObj_type (wpAny_pure ⟨_, rfl, wpAny_pure h⟩) htake)
    | exact wpAny_bind (m := Builtin.Tuple.tupleExact _) (wpAny_newObj_type (wpAny_bind (wpAny_pure (wpAny_pure ⟨_, rfl, wpAny_pure h⟩))) htake)
    | exact wpAny_bind (wpAny_bind (m := Builtin.Tuple.tupleExact _) (wpAny_newObj_type (wpAny_pure (wpAny_pure ⟨_, rfl, wpAny_pure h⟩)) htake))
    | exact wpAny_bind (wpAny_bind (m := Builtin.Tuple.tupleExact _) (wpAny_newObj_type (wpAny_pure ⟨_, rfl, wpAny_pure h⟩) htake))
def tRevT (K : PySem.W.Frag) (te : TE) : TE := fun σ H Q => te σ H fun x H1 => ∃ a xs, x = .ref a ∧ SqT K H1 a xs ∧ ∀ p, H1 p = none → Q (.ref p) (upd H1 p (.tup xs.reverse))
theorem pe_revT {e : Expr} {te : TE} {k : Nat} {p1 p2 p3 pos : Pos} (he : PE X e te) : PE X (.Subscript e (.Slice none none (some (.UnaryOp .USub (.Constant (.int 1) k p1) p2)) p3) pos) (tRevT X.K te) := by
  refine ⟨fun pins s σ H Q I h => ?_⟩
  refine Subscript_ (thn (he.run pins s σ H _ I h) fun v s1 ⟨x, H1, I1, r1, q1⟩ => ?_)
  obtain ⟨a, xs, ex, hx, q⟩ := q1
  subst ex
  cases r1
  have hst : PO X (some (.UnaryOp .USub (.Constant (.int 1) k p1) p2)) (tPart (tUn (rU fun i => .int (-i)) (tC (.int 1)))) := po_some (pe_un un_neg pe_int)
  refine wpAny_Slice (thn (po_none.run pins s1 σ H1 (fun o H2 => o = none ∧ H2 = H1) I1 ⟨rfl, rfl⟩) fun vl s2 ⟨l, H2, I2, pl, el, e2⟩ => ?_)
  subst el e2
  refine thn (po_none.run pins s2 σ H2 (fun o H3 => o = none ∧ H3 = H2) I2 ⟨rfl, rfl⟩) fun vu s3 ⟨u, H3, I3, pu, eu, e3⟩ => ?_
  subst eu e3
  refine thn (hst.run pins s3 σ H3 (fun o H4 => o = some (-1) ∧ H4 = H3) I3 ⟨1, rfl, -1, rfl, rfl, rfl⟩) fun vs s4 ⟨o, H4, I4, ps, eo, e4⟩ => ?_
  subst eo e4
  have I5 : Inv X pins σ H4 { s4 with heap := s4.heap.push { cls := .type "slice", data := .fields #[vl, vu, vs] } } := I4.kept (t' := s4.toks) fun b ob q => Heap.get?_push_of_some _ q
  obtain ⟨its, r, ht, hz⟩ := I5.tuple hx
  have hlen := r.length
  show wpAny (model X.prog X.w) X.A (subscriptTail e (.Slice none none (some (.UnaryOp .USub (.Constant (.int 1) k p1) p2)) p3) (.ref a) (.ref s4.heap.objs.size)) (EP X pins σ Q) X.xe { s4 with heap := s4.heap.push { cls := .type "slice", data := .fields #[vl, vu, vs] } }
  refine tail_any (ops := [.ref a, .ref s4.heap.objs.size]) ht.typeIs (PyProof.Rows.slot_tuple_getitem.lookup) ?_ (by with_unfolding_all rfl)
  refine getItem_tuple_back ht (Heap.IsSliceOf.new _ vl vu vs) pl pu ps ?_ (by rw [List.size_toArray]; omega)
  refine ⟨.ref _, _, I5.laid (t' := s4.toks) (o := .tup xs.reverse) (fun b ob q => Heap.get?_push_of_some _ q) (Nat.le_refl _) ?_, rfl, q _ (I5.hok.fresh (Nat.le_refl _))⟩
  exact ⟨by rw [List.length_reverse]; exact hz, _, r.reverse, IsTup.new _ _⟩
end
end KF
set_option Elab.async false
set_option linter.all false
set_option maxRecDepth 100000
set_option maxHeartbeats 4000000
/-! KF, part 4: expressions, by what they are worth. -/
namespace KF
open PySem PySem.Spec PyProof.Rows L2
abbrev EvF (α : Type) := Env → MH → Out α
def lift {α : Type} (o : Option α) (h : MH) : Out α := match o with
  | some a => .ok a h
  | none => .bad
abbrev kE (M : MK) (m : Mode) (W : WX) (f : EvF D) : TE := tG M (RelM M m) W f
def RB : RT Bool Bool := fun _ _ _ _ _ a b => a = b
theorem sm_B : SM RB := fun _ _ _ _ _ _ _ _ _ _ _ r => r
def RBV : RT Bool V := fun _ _ _ _ _ b v => v = V.bl b
theorem sm_BV : SM RBV := fun _ _ _ _ _ _ _ _ _ _ _ r => r
abbrev kT (M : MK) (W : WX) (f : EvF Bool) : TT := tG M RB W f
inductive RelMs (M : MK) (m : Mode) (B : Bs) (A : List (Option Addr)) (Hs H : Hp) (L : List Addr) : List D → List V → Prop
  | nil : RelMs M m B A Hs H L [] []
  | cons {d : D} {ds : List D} {v : V} {vs : List V} : RelM M m B A Hs H L d v → RelMs M m B A Hs H L ds vs → RelMs M m B A Hs H L (d :: ds) (v :: vs)
theorem sm_Ms {M : MK} {m : Mode} : SM (RelMs M m) := by
  intro B A H L H1 L1 H' L' ds vs x r
  induction r with
  | nil => exact .nil
  | cons r _ ih => exact .cons (sm_M B A H L H1 L1 H' L' _ _ x r) ih
abbrev kA (M : MK) (m : Mode) (W : WX) (f : EvF (List D)) : TA := tG M (RelMs M m) W f
section
variable {M : MK} {m m' : Mode} {B : Bs} {A : List (Option Addr)} {Hs H H' : Hp} {L L' : List Addr} {h : MH} {env : KF.Env} {σ : L2.St} {W : WX}
theorem RelMs.stay {ds : List D} {vs : List V} (r : RelMs M m B A Hs H L ds vs) (x : Ext H L H' L') (o : ∀ (i : Nat) (a : Addr), A[i]? = some (some a) → a ∉ L) : RelMs M m B A Hs H' L' ds vs := by
  induction r with
  | nil => exact .nil
  | cons r _ ih => exact .cons (r.stay x o) ih
theorem RelMs.length {ds : List D} {vs : List V} (r : RelMs M m B A Hs H L ds vs) : ds.length = vs.length := by
  induction r with
  | nil => rfl
  | cons _ _ ih => rw [List.length_cons, List.length_cons, ih]
theorem RelMs.ds {ds : List D} {vs : List V} (r : RelMs M .n B A Hs H L ds vs) : RelDs M.K H L (Zf B L A) ds vs := by
  induction r with
  | nil => exact .nil
  | cons r _ ih => exact .cons r ih
theorem RelM.ofP {d : PyData} {v : V} (r : RelP M.K H (Zf B L A) d v) : RelM M .n B A Hs H L (.py d) v := RelD.py r
theorem kE_le {f : EvF D} (l : m'.le m = true) {σ : L2.St} {H : Hp} {Q : VK} (q : kE M m' W f σ H Q) : kE M m W f σ H Q := by
  obtain ⟨B, L, A, h, env, g, p⟩ := q
  refine ⟨B, L, A, h, env, g, ?_⟩
  cases e : f env h with
  | ok a h1 => rw [e] at p; exact fun b H' L' x g' r => p b H' L' x g' (r.le l)
  | exc c fs h1 => rw [e] at p; exact p
  | bad => rw [e] at p; exact p
end
section
variable {X : Cx} {M : MK} {m m' : Mode} {W : WX}
theorem PE.weak {e : Expr} {f : EvF D} (p : PE X e (kE M m W f)) (l : m'.le m = true) : PE X e (kE M m' W f) := PE.mono p fun _ _ _ q => kE_le l q

/-! ### atoms -/
theorem k_const {e : Expr} {v : V} {d : PyData} (p : PE X e (tC v)) (r : ∀ H Z, RelP M.K H Z d v) : PE X e (kE M .n W fun _ h => .ok (.py d) h) := PE.mono p fun σ H Q ⟨B, L, A, h, env, g, p⟩ => p.fin g (Same.refl H) (RelM.ofP (r _ _))
theorem k_int {i : Int} {k : Nat} {pos : Pos} : PE X (.Constant (.int i) k pos) (kE M .n W fun _ h => .ok (.py (.int i)) h) := k_const pe_int fun _ _ => .int i
theorem k_bool {i : Bool} {k : Nat} {pos : Pos} : PE X (.Constant (.bool i) k pos) (kE M .n W fun _ h => .ok (.py (.bool i)) h) := k_const pe_bl fun _ _ => .bl i
theorem k_none {k : Nat} {pos : Pos} : PE X (.Constant .none k pos) (kE M .n W fun _ h => .ok (.py .none) h) := k_const pe_non fun _ _ => .non
theorem k_str {x : Str} {k : Nat} {pos : Pos} (ok : sOk x = true) : PE X (.Constant (.str x) k pos) (kE M .n W fun _ h => .ok (.py (.str x)) h) := k_const pe_str fun _ _ => .str x ok
def Sl.get : Sl → Option D
  | .u => none
  | .v d => some d
  | .o xs => some (.py (.list xs))
  | .x _ _ => none
def Sl.getV : Sl → Option D
  | .v d => some d
  | _ => none
def look (env : KF.Env) (i : Nat) : Option D := (env[i]?).bind Sl.get
def lookV (env : KF.Env) (i : Nat) : Option D := (env[i]?).bind Sl.getV
theorem k_var {i : Nat} {x : Str} {pos : Pos} (hN : X.N[i]? = some x) (hv : Vis X.env.scope x) (hd : (x == ("__debug__" : Str)) = false) (hcd : (x == ("__classdict__" : Str)) = false) :
    PE X (.Name x pos) (kE M .b W fun env h => lift (look env i) h) := by
  refine PE.mono (pe_var hN hv hd hcd) fun σ H Q ⟨B, L, A, h, env, g, p⟩ => ?_
  dsimp only at p; unfold look at p
  cases e : env[i]? with
  | none => rw [e] at p; exact p.elim
  | some sl =>
    rw [e] at p
    cases g.slot i sl e with
    | u q => exact p.elim
    | v q1 q2 q3 => exact ⟨_, q2, p.fin g (Same.refl H) (.inl q3)⟩
    | o q1 q2 q3 q4 => exact ⟨_, q2, p.fin g (Same.refl H) (.inr ⟨i, _, _, _, q1, rfl, rfl, q3, q4⟩)⟩
    | x q1 q2 q3 q4 => exact p.elim
theorem k_varV {i : Nat} {x : Str} {pos : Pos} (hN : X.N[i]? = some x) (hv : Vis X.env.scope x) (hd : (x == ("__debug__" : Str)) = false) (hcd : (x == ("__classdict__" : Str)) = false) :
    PE X (.Name x pos) (kE M .n W fun env h => lift (lookV env i) h) := by
  refine PE.mono (pe_var hN hv hd hcd) fun σ H Q ⟨B, L, A, h, env, g, p⟩ => ?_
  dsimp only at p; unfold lookV at p
  cases e : env[i]? with
  | none => rw [e] at p; exact p.elim
  | some sl =>
    rw [e] at p
    cases g.slot i sl e with
    | u q => exact p.elim
    | v q1 q2 q3 => exact ⟨_, q2, p.fin g (Same.refl H) q3⟩
    | o q1 q2 q3 q4 => exact p.elim
    | x q1 q2 q3 q4 => exact p.elim

/-! ### two operands -/
def Op2 (M : MK) (m : Mode) (r : R2) (fo : MH → D → D → Option D) : Prop :=
  ∀ (B : Bs) (A : List (Option Addr)) (H : Hp) (L : List Addr) (h : MH) (env : KF.Env) (σ : L2.St) (d1 d2 d3 : D) (v1 v2 : V) (Q : VK), Good M B H L A h env σ → RelM M .b B A H H L d1 v1 → RelM M .b B A H H L d2 v2 → fo h d1 d2 = some d3 →
    (∀ v H', Same H H' → RelM M m B A H H' L d3 v → Q v H') → r v1 v2 H Q
def sem2 (fa fb : EvF D) (fo : MH → D → D → Option D) : EvF D := fun env h => (fa env h).bind fun x h1 => (fb env h1).bind fun y h2 => lift (fo h2 x y) h2
theorem two {fa fb : EvF D} {fo : MH → D → D → Option D} {r : R2} (o2 : Op2 M m r fo) {σ : L2.St} {H : Hp} {Q : VK} (q : kE M m W (sem2 fa fb fo) σ H Q) : tOp r (kE M .b W fa) (kE M .b W fb) σ H Q := by
  obtain ⟨B, L, A, h, env, g, p⟩ := q
  refine tG_bind sm_M g p fun x h1 v H1 L1 e1 x1 g1 r1 p1 => ?_
  refine tG_bind sm_M g1 p1 fun y h2 u H2 L2 e2 x2 g2 r2 p2 => ?_
  have r1' : RelM M .b B A H2 H2 L2 x v := r1.stay x2 fun i a ha => (g1.own i a ha).1
  cases e : fo h2 x y with
  | none => rw [e] at p2; exact p2.elim
  | some d3 => rw [e] at p2; exact o2 B A H2 L2 h2 env σ x y d3 v u Q g2 r1' r2 e fun v3 H3 s3 r3 => p2.fin g2 s3 r3
theorem k_op {op : Operator} {r : R2} {fo : MH → D → D → Option D} {a b : Expr} {fa fb : EvF D} {pos : Pos} (ho : OpR X (binaryOp op) r) (o2 : Op2 M m r fo) (ha : PE X a (kE M .b W fa)) (hb : PE X b (kE M .b W fb)) :
    PE X (.BinOp a op b pos) (kE M m W (sem2 fa fb fo)) := PE.mono (pe_op ho ha hb) fun _ _ _ q => two o2 q
theorem k_cmp {op : CmpOp} {r : R2} {fo : MH → D → D → Option D} {a b : Expr} {fa fb : EvF D} {pos : Pos} (ho : OpR X (compareOp op) r) (o2 : Op2 M m r fo) (ha : PE X a (kE M .b W fa)) (hb : PE X b (kE M .b W fb)) (hm : behindInMarks op b = false) :
    PE X (.Compare a [op] [b] pos) (kE M m W (sem2 fa fb fo)) := PE.mono (pe_cmpR ho ha hb hm) fun _ _ _ q => two o2 q
theorem k_ix {r : R2} {fo : MH → D → D → Option D} {a b : Expr} {fa fb : EvF D} {pos : Pos} (ho : IxR X r) (o2 : Op2 M m r fo) (ha : PE X a (kE M .b W fa)) (hb : PE X b (kE M .b W fb)) (hs : PlainIx b) :
    PE X (.Subscript a b pos) (kE M m W (sem2 fa fb fo)) := PE.mono (pe_ix ho ha hb hs) fun _ _ _ q => two o2 q
/-! ### expressions that make a new list -/
def PostFr (M : MK) (B : Bs) (A : List (Option Addr)) (env : KF.Env) (σ : L2.St) (W : WX) (H : Hp) (L : List Addr) (Q : VK) : Out D → Prop
  | .ok d h' => ∀ ps H1 L1 p vs, d = .py (.list ps) → Ext H L H1 L1 → Good M B H1 L1 A h' env σ → H1 p = none → RelPs M.K H1 (Zf B L1 A) ps vs → Q (.ref p) (upd H1 p (.lst vs))
  | .exc c fs h' => ∀ cls dd H' L', Ext H L H' L' → Good M B H' L' A h' env σ → XRel M B A H' L' c fs cls dd → W cls dd σ H'
  | .bad => False
def kF (M : MK) (W : WX) (f : EvF D) : TE := fun σ H Q => ∃ B L A h env, Good M B H L A h env σ ∧ PostFr M B A env σ W H L Q (f env h)
theorem PE.ofF {e : Expr} {f : EvF D} (p : PE X e (kF M W f)) : PE X e (kE M .n W f) := by
  refine PE.mono p fun σ H Q ⟨B, L, A, h, env, g, q⟩ => ⟨B, L, A, h, env, g, ?_⟩
  cases ef : f env h with
  | ok d h' =>
    rw [ef] at q
    intro ps H1 L1 a vs ed x g1 ha r
    subst ed
    exact q _ _ L1 (x.trans (Ext.same L1 (same_upd ha))) (g1.same (same_upd ha)) (RelM.ofP (.lst (.inl upd_same) (g1.free ha) (r.stay (Ext.same L1 (same_upd ha)).stay)))
  | exc c fs h' => rw [ef] at q; exact q
  | bad => rw [ef] at q; exact q
theorem PostFr.from {B : Bs} {A : List (Option Addr)} {env : KF.Env} {σ : L2.St} {H H1 : Hp} {L L1 : List Addr} {Q : VK} {o : Out D} (x : Ext H L H1 L1) (p : PostFr M B A env σ W H L Q o) : PostFr M B A env σ W H1 L1 Q o := by
  cases o with
  | ok a h => exact fun ps H2 L2 a vs e x' g' n r => p ps H2 L2 a vs e (x.trans x') g' n r
  | exc c fs h => exact fun cls dd H' L' x' g r => p cls dd H' L' (x.trans x') g r
  | bad => exact p
theorem tG_bindF {α β : Type} {B : Bs} {A : List (Option Addr)} {env : KF.Env} {σ : L2.St} {R : RT α β} {H : Hp} {L : List Addr} {h : MH} {f : EvF α} {k : α → MH → Out D} {Q : VK} {T : β → Hp → Prop}
    (g : Good M B H L A h env σ) (p : PostFr M B A env σ W H L Q ((f env h).bind k))
    (hk : ∀ a h1 b H1 L1, f env h = .ok a h1 → Ext H L H1 L1 → Good M B H1 L1 A h1 env σ → R B A H H1 L1 a b → PostFr M B A env σ W H1 L1 Q (k a h1) → T b H1) : tG M R W f σ H T := by
  refine ⟨B, L, A, h, env, g, ?_⟩
  cases e : f env h with
  | ok a h1 => rw [e] at p; exact fun b H' L' x g' r => hk a h1 b H' L' e x g' r (PostFr.from x p)
  | exc c fs h1 => rw [e] at p; exact p
  | bad => rw [e] at p; exact p
theorem PostFr.fin {B : Bs} {A : List (Option Addr)} {env : KF.Env} {σ : L2.St} {H : Hp} {L : List Addr} {h : MH} {Q : VK} {ps : List PyData} {vs : List V} {a : Addr} (p : PostFr M B A env σ W H L Q (.ok (.py (.list ps)) h))
    (g : Good M B H L A h env σ) (n : H a = none) (r : RelPs M.K H (Zf B L A) ps vs) : Q (.ref a) (upd H a (.lst vs)) := p ps H L a vs rfl (Ext.refl H L) g n r
def Op2F (M : MK) (r : R2) (fo : MH → D → D → Option D) : Prop :=
  ∀ (B : Bs) (A : List (Option Addr)) (H : Hp) (L : List Addr) (h : MH) (env : KF.Env) (σ : L2.St) (d1 d2 d3 : D) (v1 v2 : V) (Q : VK), Good M B H L A h env σ → RelM M .b B A H H L d1 v1 → RelM M .b B A H H L d2 v2 → fo h d1 d2 = some d3 →
    (∀ ps a vs, d3 = .py (.list ps) → H a = none → RelPs M.K H (Zf B L A) ps vs → Q (.ref a) (upd H a (.lst vs))) → r v1 v2 H Q
theorem k_opF {op : Operator} {r : R2} {fo : MH → D → D → Option D} {a b : Expr} {fa fb : EvF D} {pos : Pos} (ho : OpR X (binaryOp op) r) (o2 : Op2F M r fo) (ha : PE X a (kE M .b W fa)) (hb : PE X b (kE M .b W fb)) :
    PE X (.BinOp a op b pos) (kF M W (sem2 fa fb fo)) := by
  refine PE.mono (pe_op ho ha hb) fun σ H Q ⟨B, L, A, h, env, g, p⟩ => ?_
  refine tG_bindF g p fun x h1 v H1 L1 e1 x1 g1 r1 p1 => ?_
  refine tG_bindF g1 p1 fun y h2 u H2 L2 e2 x2 g2 r2 p2 => ?_
  have r1' : RelM M .b B A H2 H2 L2 x v := r1.stay x2 fun i a ha => (g1.own i a ha).1
  cases e : fo h2 x y with
  | none => rw [e] at p2; exact p2.elim
  | some d3 => rw [e] at p2; exact o2 B A H2 L2 h2 env σ x y d3 v u Q g2 r1' r2 e fun ps a vs ed n r => by subst ed; exact p2.fin g2 n r
/-- a comparison as a test -/
def semC (fa fb : EvF D) (fo : MH → D → D → Option Bool) : EvF Bool := fun env h => (fa env h).bind fun x h1 => (fb env h1).bind fun y h2 => lift (fo h2 x y) h2
def boolD (fo : MH → D → D → Option Bool) : MH → D → D → Option D := fun h x y => (fo h x y).map fun b => .py (.bool b)
def Cm2 (M : MK) (r : R2) (fo : MH → D → D → Option Bool) : Prop :=
  ∀ (B : Bs) (A : List (Option Addr)) (H : Hp) (L : List Addr) (h : MH) (env : KF.Env) (σ : L2.St) (d1 d2 : D) (b : Bool) (v1 v2 : V) (Q : VK), Good M B H L A h env σ → RelM M .b B A H H L d1 v1 → RelM M .b B A H H L d2 v2 → fo h d1 d2 = some b →
    Q (.bl b) H → r v1 v2 H Q
theorem Cm2.op {r : R2} {fo : MH → D → D → Option Bool} (c : Cm2 M r fo) : Op2 M .n r (boolD fo) := by
  intro B A H L h env σ d1 d2 d3 v1 v2 Q g r1 r2 e k
  unfold boolD at e
  cases e2 : fo h d1 d2 with
  | none => rw [e2] at e; cases e
  | some b => rw [e2] at e; cases e; exact c B A H L h env σ d1 d2 b v1 v2 Q g r1 r2 e2 (k _ _ (Same.refl H) (RelM.ofP (.bl b)))
theorem k_cmpT {op : CmpOp} {r : R2} {fo : MH → D → D → Option Bool} {a b : Expr} {fa fb : EvF D} {pos : Pos} (ho : OpR X (compareOp op) r) (o2 : Cm2 M r fo) (ha : PE X a (kE M .b W fa)) (hb : PE X b (kE M .b W fb)) (hm : behindInMarks op b = false) :
    PT X (.Compare a [op] [b] pos) (kT M W (semC fa fb fo)) := by
  refine PT.mono (pt_cmpR ho ha hb hm) fun σ H Q ⟨B, L, A, h, env, g, p⟩ => ?_
  refine tG_bind sm_B g p fun x h1 v H1 L1 e1 x1 g1 r1 p1 => ?_
  refine tG_bind sm_B g1 p1 fun y h2 u H2 L2 e2 x2 g2 r2 p2 => ?_
  have r1' : RelM M .b B A H2 H2 L2 x v := r1.stay x2 fun i a ha => (g1.own i a ha).1
  cases e : fo h2 x y with
  | none => rw [e] at p2; exact p2.elim
  | some b => rw [e] at p2; exact o2 B A H2 L2 h2 env σ x y b v u _ g2 r1' r2 e ⟨b, rfl, p2.fin g2 (Same.refl _) rfl⟩
/-- two comparisons in a chain -/
def semCh (fa fb fc : EvF D) (f1 f2 : MH → D → D → Option Bool) : EvF Bool := fun env h => (fa env h).bind fun x h1 => (fb env h1).bind fun y h2 => (lift (f1 h2 x y) h2).bind fun k h3 => if k = true then (fc env h3).bind fun z h4 => lift (f2 h4 y z) h4 else .ok false h3
theorem chain_core {r r' : R2} {f1 f2 : MH → D → D → Option Bool} {fa fb fc : EvF D} {α : Type} {R : RT α V} (c1 : Cm2 M r f1) (c2 : Cm2 M r' f2) {β : Type} {RR : RT Bool β} (sm : SM RR) {B : Bs} {A : List (Option Addr)} {H : Hp} {L : List Addr} {h : MH} {env : KF.Env} {σ : L2.St} {Q : β → Hp → Prop}
    (g : Good M B H L A h env σ) (p : Post M B A env σ W (RR B A) H L Q (semCh fa fb fc f1 f2 env h)) {T : VK} (hT : ∀ b h1 H1 L1, Good M B H1 L1 A h1 env σ → Post M B A env σ W (RR B A) H1 L1 Q (.ok b h1) → T (.bl b) H1) :
    tChain r r' (kE M .b W fa) (kE M .b W fb) (kE M .b W fc) σ H T := by
  refine tG_bind sm g p fun x h1 v H1 L1 e1 x1 g1 r1 p1 => ?_
  refine tG_bind sm g1 p1 fun y h2 u H2 L2 e2 x2 g2 r2 p2 => ?_
  have r1' : RelM M .b B A H2 H2 L2 x v := r1.stay x2 fun i a ha => (g1.own i a ha).1
  cases e : f1 h2 x y with
  | none => rw [e] at p2; exact p2.elim
  | some k =>
    rw [e] at p2
    refine c1 B A H2 L2 h2 env σ x y k v u _ g2 r1' r2 e ⟨k, rfl, ?_⟩
    cases k with
    | false => exact hT false h2 H2 L2 g2 p2
    | true =>
      refine tG_bind sm g2 p2 fun z h4 z' H4 L4 e4 x4 g4 r4 p4 => ?_
      have r2' : RelM M .b B A H4 H4 L4 y u := r2.stay x4 fun i a ha => (g2.own i a ha).1
      cases e5 : f2 h4 y z with
      | none => rw [e5] at p4; exact p4.elim
      | some b =>
        rw [e5] at p4
        exact c2 B A H4 L4 h4 env σ y z b u z' _ g4 r2' r4 e5 (hT b h4 H4 L4 g4 p4)
theorem k_chainT {op op' : CmpOp} {r r' : R2} {f1 f2 : MH → D → D → Option Bool} {a b c : Expr} {fa fb fc : EvF D} {pos : Pos} (ho : OpR X (compareOp op) r) (ho' : OpR X (compareOp op') r') (c1 : Cm2 M r f1) (c2 : Cm2 M r' f2)
    (ha : PE X a (kE M .b W fa)) (hb : PE X b (kE M .b W fb)) (hc : PE X c (kE M .b W fc)) (n2 : behindInMarks op' c = false) : PT X (.Compare a [op, op'] [b, c] pos) (kT M W (semCh fa fb fc f1 f2)) := by
  refine PT.mono (pt_chain ho ho' ha hb hc (by simpa [lastMarks] using n2)) fun σ H Q ⟨B, L, A, h, env, g, p⟩ => ?_
  exact chain_core (R := RelM M .n) c1 c2 sm_B g p fun b h1 H1 L1 g1 p1 => ⟨b, rfl, p1.fin g1 (Same.refl _) rfl⟩
theorem k_chain {op op' : CmpOp} {r r' : R2} {f1 f2 : MH → D → D → Option Bool} {a b c : Expr} {fa fb fc : EvF D} {pos : Pos} (ho : OpR X (compareOp op) r) (ho' : OpR X (compareOp op') r') (c1 : Cm2 M r f1) (c2 : Cm2 M r' f2)
    (ha : PE X a (kE M .b W fa)) (hb : PE X b (kE M .b W fb)) (hc : PE X c (kE M .b W fc)) (n2 : behindInMarks op' c = false) :
    PE X (.Compare a [op, op'] [b, c] pos) (kE M .n W fun env h => (semCh fa fb fc f1 f2 env h).bind fun b h1 => .ok (.py (.bool b)) h1) := by
  refine PE.mono (pe_chain ho ho' ha hb hc (by simpa [lastMarks] using n2)) fun σ H Q ⟨B, L, A, h, env, g, p⟩ => ?_
  refine chain_core (R := RelM M .n) (RR := RBV) (Q := Q) c1 c2 sm_BV g ?_ fun b h1 H1 L1 g1 p1 => p1.fin (R := RBV) g1 (Same.refl _) rfl
  dsimp only at p
  cases e : semCh fa fb fc f1 f2 env h with
  | ok b h1 => rw [e] at p; exact fun v H' L' x g' r => by cases (show v = V.bl b from r); exact p _ H' L' x g' (RelM.ofP (.bl b))
  | exc c fs h1 => rw [e] at p; exact p
  | bad => rw [e] at p; exact p
end
end KF
set_option Elab.async false
set_option linter.all false
set_option maxRecDepth 100000
set_option maxHeartbeats 4000000
/-! KF, part 5: tests, displays, arguments, calls of built-ins; the operations by value. -/
namespace KF
open PySem PySem.Spec PyProof.Rows L2
section
variable {X : Cx} {M : MK} {m m' : Mode} {W : WX}
/-! ### truth -/
def truD (h : MH) : D → Option Bool
  | .py .none => some false
  | .py (.bool b) => some b
  | .py (.int i) => some (i != 0)
  | .py (.str x) => some (x.length != 0)
  | .py (.list xs) => some (!xs.isEmpty)
  | .py (.tuple xs) => some (!xs.isEmpty)
  | _ => none
theorem isEmpty_len {α β : Type} {xs : List α} {ys : List β} (h : xs.length = ys.length) : (!xs.isEmpty) = !ys.isEmpty := by
  cases xs <;> cases ys <;> first | rfl | cases h
theorem tru_of {B : Bs} {A : List (Option Addr)} {H : Hp} {L : List Addr} {h : MH} {d : D} {v : V} {k : Bool} (r : RelM M .b B A H H L d v) (e : truD h d = some k) : TruV M.K v H k := by
  cases d with
  | loc n => cases e
  | scr n => cases e
  | py d =>
    cases d with
    | none => cases e; cases r.non; rfl
    | bool b => cases e; cases r.bl; rfl
    | int i => cases e; cases r.int; rfl
    | str x => cases e; obtain ⟨rfl, ok⟩ := r.str; exact ⟨sOk.line ok, by cases x.length <;> rfl⟩
    | list xs => cases e; obtain ⟨a, vs, rfl, h1, h2⟩ := r.list; exact .inl ⟨vs, .inl h1, isEmpty_len h2.length⟩
    | tuple xs => cases e; obtain ⟨a, vs, rfl, h1, h2⟩ := r.tup; exact .inr (.inl ⟨vs, h1, isEmpty_len h2.length⟩)
    | dict kvs => cases e
def semV (fa : EvF D) : EvF Bool := fun env h => (fa env h).bind fun x h1 => lift (truD h1 x) h1
theorem k_val (hK : M.K = X.K) {a : Expr} {fa : EvF D} (ha : PE X a (kE M .b W fa)) (he : ∀ whole, isTrue a X.env whole = (do let v ← whole; standAt a.pos; holding [v] (truthy v))) : PT X a (kT M W (semV fa)) := by
  refine PT.mono (pt_truth ha he) fun σ H Q ⟨B, L, A, h, env, g, p⟩ => ?_
  refine tG_bind sm_B g p fun x h1 v H1 L1 e1 x1 g1 r1 p1 => ?_
  cases e : truD h1 x with
  | none => rw [e] at p1; exact p1.elim
  | some k => rw [e] at p1; rw [← hK]; exact ⟨k, tru_of r1 e, p1.fin g1 (Same.refl _) rfl⟩
theorem k_not {a : Expr} {fa : EvF Bool} {pos : Pos} (ha : PT X a (kT M W fa)) : PT X (.UnaryOp .Not a pos) (kT M W fun env h => (fa env h).bind fun b h1 => .ok (!b) h1) := by
  refine PT.mono (pt_not ha) fun σ H Q ⟨B, L, A, h, env, g, p⟩ => ?_
  exact tG_bind sm_B g p fun x h1 v H1 L1 e1 x1 g1 r1 p1 => by cases (show x = v from r1); exact p1.fin g1 (Same.refl _) rfl
theorem k_notE (hK : M.K = X.K) {a : Expr} {fa : EvF D} {pos : Pos} (ha : PE X a (kE M .b W fa)) : PE X (.UnaryOp .Not a pos) (kE M .n W fun env h => (semV fa env h).bind fun b h1 => .ok (.py (.bool (!b))) h1) := by
  refine PE.mono (pe_notT ha) fun σ H Q ⟨B, L, A, h, env, g, p⟩ => ?_
  have p : Post M B A env σ W (RelM M .n B A) H L Q ((fa env h).bind fun x h1 => (lift (truD h1 x) h1).bind fun b h1 => .ok (.py (.bool (!b))) h1) := by
    dsimp only [semV] at p
    cases e : fa env h with
    | ok a h1 => rw [e] at p; exact p
    | exc c fs h1 => rw [e] at p; exact p
    | bad => rw [e] at p; exact p
  refine tG_bind sm_M g p fun x h1 v H1 L1 e1 x1 g1 r1 p1 => ?_
  cases e : truD h1 x with
  | none => rw [e] at p1; exact p1.elim
  | some k => rw [e] at p1; rw [← hK]; exact ⟨k, tru_of r1 e, p1.fin g1 (Same.refl _) (RelM.ofP (.bl _))⟩
def semAnd (fa fb : EvF Bool) : EvF Bool := fun env h => (fa env h).bind fun b h1 => if b = true then fb env h1 else .ok false h1
def semOr (fa fb : EvF Bool) : EvF Bool := fun env h => (fa env h).bind fun b h1 => if b = true then .ok true h1 else fb env h1
theorem Post.tG {α β : Type} {B : Bs} {A : List (Option Addr)} {H : Hp} {L : List Addr} {h : MH} {env : KF.Env} {σ : L2.St} {R : RT α β} {f : EvF α} {Q : β → Hp → Prop} (g : Good M B H L A h env σ) (p : Post M B A env σ W (R B A) H L Q (f env h)) : tG M R W f σ H Q := ⟨B, L, A, h, env, g, p⟩
theorem k_and1 {a : Expr} {fa : EvF Bool} {pos : Pos} (ha : PT X a (kT M W fa)) : PW X (.BoolOp .And [a] pos) (kT M W fa) := pw_and1 ha
theorem k_or1 {a : Expr} {fa : EvF Bool} {pos : Pos} (ha : PT X a (kT M W fa)) : PW X (.BoolOp .Or [a] pos) (kT M W fa) := pw_or1 ha
theorem k_and {a b : Expr} {rest : List Expr} {fa fb : EvF Bool} {pos : Pos} (ha : PT X a (kT M W fa)) (hb : PW X (.BoolOp .And (b :: rest) pos) (kT M W fb)) : PW X (.BoolOp .And (a :: b :: rest) pos) (kT M W (semAnd fa fb)) := by
  refine PW.mono (pw_and ha hb) fun σ H Q ⟨B, L, A, h, env, g, p⟩ => ?_
  refine tG_bind sm_B g p fun x h1 v H1 L1 e1 x1 g1 r1 p1 => ?_
  cases (show x = v from r1)
  cases x with
  | true => exact Post.tG g1 p1
  | false => exact p1.fin g1 (Same.refl _) rfl
theorem k_or {a b : Expr} {rest : List Expr} {fa fb : EvF Bool} {pos : Pos} (ha : PT X a (kT M W fa)) (hb : PW X (.BoolOp .Or (b :: rest) pos) (kT M W fb)) : PW X (.BoolOp .Or (a :: b :: rest) pos) (kT M W (semOr fa fb)) := by
  refine PW.mono (pw_or ha hb) fun σ H Q ⟨B, L, A, h, env, g, p⟩ => ?_
  refine tG_bind sm_B g p fun x h1 v H1 L1 e1 x1 g1 r1 p1 => ?_
  cases (show x = v from r1)
  cases x with
  | true => exact p1.fin g1 (Same.refl _) rfl
  | false => exact Post.tG g1 p1
/-- and, or as values -/
def semAndE (fa fb : EvF D) : EvF D := fun env h => (fa env h).bind fun x h1 => (lift (truD h1 x) h1).bind fun b h2 => if b = true then fb env h2 else .ok x h2
def semOrE (fa fb : EvF D) : EvF D := fun env h => (fa env h).bind fun x h1 => (lift (truD h1 x) h1).bind fun b h2 => if b = true then .ok x h2 else fb env h2
theorem k_andE (hK : M.K = X.K) {a b : Expr} {rest : List Expr} {fa fb : EvF D} {pos : Pos} (ha : PE X a (kE M .n W fa)) (hb : PE X (.BoolOp .And (b :: rest) pos) (kE M .n W fb)) : PE X (.BoolOp .And (a :: b :: rest) pos) (kE M .n W (semAndE fa fb)) := by
  refine PE.mono (pe_andT ha hb) fun σ H Q ⟨B, L, A, h, env, g, p⟩ => ?_
  refine tG_bind sm_M g p fun x h1 v H1 L1 e1 x1 g1 r1 p1 => ?_
  cases e : truD h1 x with
  | none => rw [e] at p1; exact p1.elim
  | some k =>
    rw [e] at p1
    refine ⟨k, by rw [← hK]; exact tru_of r1.nb e, ?_⟩
    cases k with
    | true => exact Post.tG g1 p1
    | false => exact p1.fin g1 (Same.refl _) r1
theorem k_orE (hK : M.K = X.K) {a b : Expr} {rest : List Expr} {fa fb : EvF D} {pos : Pos} (ha : PE X a (kE M .n W fa)) (hb : PE X (.BoolOp .Or (b :: rest) pos) (kE M .n W fb)) : PE X (.BoolOp .Or (a :: b :: rest) pos) (kE M .n W (semOrE fa fb)) := by
  refine PE.mono (pe_orT ha hb) fun σ H Q ⟨B, L, A, h, env, g, p⟩ => ?_
  refine tG_bind sm_M g p fun x h1 v H1 L1 e1 x1 g1 r1 p1 => ?_
  cases e : truD h1 x with
  | none => rw [e] at p1; exact p1.elim
  | some k =>
    rw [e] at p1
    refine ⟨k, by rw [← hK]; exact tru_of r1.nb e, ?_⟩
    cases k with
    | true => exact p1.fin g1 (Same.refl _) r1
    | false => exact Post.tG g1 p1
def semIf {α : Type} (ft : EvF Bool) (fa fb : EvF α) : EvF α := fun env h => (ft env h).bind fun b h1 => if b = true then fa env h1 else fb env h1
theorem k_ifx {t a b : Expr} {ft : EvF Bool} {fa fb : EvF D} {pos : Pos} (ht : PT X t (kT M W ft)) (ha : PE X a (kE M m W fa)) (hb : PE X b (kE M m W fb)) : PE X (.IfExp t a b pos) (kE M m W (semIf ft fa fb)) := by
  refine PE.mono (pe_ifExp ht ha hb) fun σ H Q ⟨B, L, A, h, env, g, p⟩ => ?_
  refine tG_bind sm_M g p fun x h1 v H1 L1 e1 x1 g1 r1 p1 => ?_
  cases (show x = v from r1)
  cases x with
  | true => exact Post.tG g1 p1
  | false => exact Post.tG g1 p1

/-! ### argument lists -/
def semNil : EvF (List D) := fun _ h => .ok [] h
def semCons (fa : EvF D) (fr : EvF (List D)) : EvF (List D) := fun env h => (fa env h).bind fun x h1 => (fr env h1).bind fun xs h2 => .ok (x :: xs) h2
theorem k_nil : PA X [] (kA M m W semNil) := PA.mono pa_nil fun σ H Q ⟨B, L, A, h, env, g, p⟩ => p.fin g (Same.refl _) .nil
theorem k_cons {e : Expr} {es : List Expr} {fa : EvF D} {fr : EvF (List D)} (ha : PE X e (kE M m W fa)) (hr : PA X es (kA M m W fr)) (hs : starEach (e :: es) X.env = (false, eval e X.env) :: starEach es X.env) : PA X (e :: es) (kA M m W (semCons fa fr)) := by
  refine PA.mono (pa_cons ha hr hs) fun σ H Q ⟨B, L, A, h, env, g, p⟩ => ?_
  refine tG_bind sm_Ms g p fun x h1 v H1 L1 e1 x1 g1 r1 p1 => ?_
  refine tG_bind sm_Ms g1 p1 fun xs h2 vs H2 L2 e2 x2 g2 r2 p2 => ?_
  have r1' : RelM M m B A H2 H2 L2 x v := by
    have := r1.stay x2 fun i a ha => (g1.own i a ha).1
    cases m <;> exact this
  have r2' : RelMs M m B A H2 H2 L2 xs vs := by
    clear p2 e2
    induction r2 with
    | nil => exact .nil
    | cons r _ ih => exact .cons (by cases m <;> exact r) ih
  exact p2.fin g2 (Same.refl _) (.cons r1' r2')
def allPy : List D → Option (List PyData)
  | [] => some []
  | .py d :: r => (allPy r).map (d :: ·)
  | .loc _ :: _ => none
  | .scr _ :: _ => none
theorem RelDs.py {K : PySem.W.Frag} {H : Hp} {L : List Addr} {Z : Addr → Prop} : ∀ {ds : List D} {vs : List V} {ps : List PyData}, RelDs K H L Z ds vs → allPy ds = some ps → RelPs K H Z ps vs
  | _, _, _, .nil, e => by cases e; exact .nil
  | .py d :: r, _, ps, .cons h t, e => by
    have e' : (allPy r).map (d :: ·) = some ps := e
    cases q : allPy r with
    | none => rw [q] at e'; cases e'
    | some qs =>
      rw [q] at e'; cases e'
      cases h with
      | py h => exact .cons h (RelDs.py t q)
  | .loc n :: r, _, ps, .cons h t, e => by cases e
  | .scr n :: r, _, ps, .cons h t, e => by cases e
def fits (n : Nat) : Bool := Nat.ble n 16777216
theorem fits.ok {n : Nat} (h : fits n = true) : n ≤ sizeLine := by
  have := Nat.le_of_ble_eq_true h
  rw [sizeLine_eq]; exact this
def mkTup (ds : List D) : Option D := (allPy ds).bind fun ps => if fits ps.length = true then some (.py (.tuple ps)) else none
def mkLst (ds : List D) : Option D := (allPy ds).bind fun ps => if fits ps.length = true then some (.py (.list ps)) else none
def semTup (f : EvF (List D)) : EvF D := fun env h => (f env h).bind fun ds h1 => lift (mkTup ds) h1
def semLst (f : EvF (List D)) : EvF D := fun env h => (f env h).bind fun ds h1 => lift (mkLst ds) h1
theorem mkTup_some {ds : List D} {d : D} (e : mkTup ds = some d) : ∃ ps, allPy ds = some ps ∧ d = .py (.tuple ps) ∧ fits ps.length = true := by
  unfold mkTup at e
  cases q : allPy ds with
  | none => rw [q] at e; cases e
  | some ps =>
    rw [q] at e
    by_cases hf : fits ps.length = true
    · have e : (if fits ps.length = true then some (D.py (.tuple ps)) else none) = some d := e
      rw [if_pos hf] at e; cases e; exact ⟨ps, rfl, rfl, hf⟩
    · have e : (if fits ps.length = true then some (D.py (.tuple ps)) else none) = some d := e
      rw [if_neg hf] at e; cases e
theorem mkLst_some {ds : List D} {d : D} (e : mkLst ds = some d) : ∃ ps, allPy ds = some ps ∧ d = .py (.list ps) ∧ fits ps.length = true := by
  unfold mkLst at e
  cases q : allPy ds with
  | none => rw [q] at e; cases e
  | some ps =>
    rw [q] at e
    by_cases hf : fits ps.length = true
    · have e : (if fits ps.length = true then some (D.py (.list ps)) else none) = some d := e
      rw [if_pos hf] at e; cases e; exact ⟨ps, rfl, rfl, hf⟩
    · have e : (if fits ps.length = true then some (D.py (.list ps)) else none) = some d := e
      rw [if_neg hf] at e; cases e
/-- a new tuple, a new list -/
theorem relTup {B : Bs} {A : List (Option Addr)} {Hs H : Hp} {L : List Addr} {p : Addr} {ps : List PyData} {vs : List V} (n : H p = none) (r : RelPs M.K H (Zf B L A) ps vs) : RelM M .n B A Hs (upd H p (.tup vs)) L (.py (.tuple ps)) (.ref p) :=
  RelM.ofP (.tup (.inl (.inl upd_same)) (r.stay (Ext.same L (same_upd n)).stay))
theorem k_tup {es : List Expr} {f : EvF (List D)} {k : Nat} {pos : Pos} (ha : PA X es (kA M .n W f)) : PE X (.Tuple es k pos) (kE M .n W (semTup f)) := by
  refine PE.mono (pe_tup ha) fun σ H Q ⟨B, L, A, h, env, g, p⟩ => ?_
  refine tG_bind sm_M g p fun ds h1 vs H1 L1 e1 x1 g1 r1 p1 => ?_
  cases e : mkTup ds with
  | none => rw [e] at p1; exact p1.elim
  | some d =>
    rw [e] at p1
    obtain ⟨ps, ea, rfl, hf⟩ := mkTup_some e
    have r := r1.ds.py ea
    exact ⟨by rw [← r.length]; exact fits.ok hf, fun q hq => p1.fin g1 (same_upd hq) (relTup hq r)⟩
theorem k_lst {es : List Expr} {f : EvF (List D)} {pos : Pos} (ha : PA X es (kA M .n W f)) : PE X (.List es pos) (kF M W (semLst f)) := by
  refine PE.mono (pe_lst ha) fun σ H Q ⟨B, L, A, h, env, g, p⟩ => ?_
  refine tG_bindF g p fun ds h1 vs H1 L1 e1 x1 g1 r1 p1 => ?_
  cases e : mkLst ds with
  | none => rw [e] at p1; exact p1.elim
  | some d =>
    rw [e] at p1
    obtain ⟨ps, ea, rfl, hf⟩ := mkLst_some e
    have r := r1.ds.py ea
    exact ⟨by rw [← r.length]; exact fits.ok hf, fun q hq => p1.fin g1 hq r⟩

/-! ### calls of built-ins -/
def Cl (M : MK) (m : Mode) (r : List V → Hp → VK → Prop) (fo : MH → List D → Option D) : Prop :=
  ∀ (B : Bs) (A : List (Option Addr)) (H : Hp) (L : List Addr) (h : MH) (env : KF.Env) (σ : L2.St) (ds : List D) (d3 : D) (vs : List V) (Q : VK), Good M B H L A h env σ → RelMs M .b B A H H L ds vs → fo h ds = some d3 →
    (∀ v H', Same H H' → RelM M m B A H H' L d3 v → Q v H') → r vs H Q
def semCl (f : EvF (List D)) (fo : MH → List D → Option D) : EvF D := fun env h => (f env h).bind fun ds h1 => lift (fo h1 ds) h1
theorem clb {f : EvF (List D)} {fo : MH → List D → Option D} {r : List V → Hp → VK → Prop} (c : Cl M m r fo) {σ : L2.St} {H : Hp} {Q : VK} (q : kE M m W (semCl f fo) σ H Q) : tCB r (kA M .b W f) σ H Q := by
  obtain ⟨B, L, A, h, env, g, p⟩ := q
  refine tG_bind sm_M g p fun ds h1 vs H1 L1 e1 x1 g1 r1 p1 => ?_
  have r1' : RelMs M .b B A H1 H1 L1 ds vs := by
    clear p1 e1
    induction r1 with
    | nil => exact .nil
    | cons r _ ih => exact .cons r ih
  cases e : fo h1 ds with
  | none => rw [e] at p1; exact p1.elim
  | some d3 => rw [e] at p1; exact c B A H1 L1 h1 env σ ds d3 vs Q g1 r1' e fun v3 H3 s3 r3 => p1.fin g1 s3 r3
def ClF (M : MK) (r : List V → Hp → VK → Prop) (fo : MH → List D → Option D) : Prop :=
  ∀ (B : Bs) (A : List (Option Addr)) (H : Hp) (L : List Addr) (h : MH) (env : KF.Env) (σ : L2.St) (ds : List D) (d3 : D) (vs : List V) (Q : VK), Good M B H L A h env σ → RelMs M .b B A H H L ds vs → fo h ds = some d3 →
    (∀ ps a us, d3 = .py (.list ps) → H a = none → RelPs M.K H (Zf B L A) ps us → Q (.ref a) (upd H a (.lst us))) → r vs H Q
theorem clbF {f : EvF (List D)} {fo : MH → List D → Option D} {r : List V → Hp → VK → Prop} (c : ClF M r fo) {σ : L2.St} {H : Hp} {Q : VK} (q : kF M W (semCl f fo) σ H Q) : tCB r (kA M .b W f) σ H Q := by
  obtain ⟨B, L, A, h, env, g, p⟩ := q
  refine tG_bindF g p fun ds h1 vs H1 L1 e1 x1 g1 r1 p1 => ?_
  have r1' : RelMs M .b B A H1 H1 L1 ds vs := by
    clear p1 e1
    induction r1 with
    | nil => exact .nil
    | cons r _ ih => exact .cons r ih
  cases e : fo h1 ds with
  | none => rw [e] at p1; exact p1.elim
  | some d3 => rw [e] at p1; exact c B A H1 L1 h1 env σ ds d3 vs Q g1 r1' e fun ps a us ed n r => by subst ed; exact p1.fin g1 n r
theorem k_callTyF {x : Str} {T : String} {np pos : Pos} {e : Expr} {es : List Expr} {f : EvF (List D)} {fo : MH → List D → Option D} {r : List V → Hp → VK → Prop} (hc : CallR X (.type T) r) (c : ClF M r fo) (hg : Gl X x) (hm : X.mg x = none) (hv : bootBuiltins x = some (.type T))
    (ha : PA X (e :: es) (kA M .b W f)) (hn : x ≠ "__name__") (hdb : (x == ("__debug__" : Str)) = false) (he : starEach (e :: es) X.env = (false, eval e X.env) :: starEach es X.env) (hpl : (backTo pos (starEach es X.env)).any (·.1) = false) :
    PE X (.Call (.Name x np) (e :: es) [] pos) (kF M W (semCl f fo)) := PE.mono (pe_callTy hc hg hm hv ha hn hdb he hpl) fun _ _ _ q => clbF c q
theorem k_callBF {x : Str} {id : String} {np pos : Pos} {e : Expr} {es : List Expr} {f : EvF (List D)} {fo : MH → List D → Option D} {r : List V → Hp → VK → Prop} (hc : CallR X (.builtin id) r) (c : ClF M r fo) (hg : Gl X x) (hm : X.mg x = none) (hv : bootBuiltins x = some (.builtin id))
    (ha : PA X (e :: es) (kA M .b W f)) (hn : x ≠ "__name__") (hdb : (x == ("__debug__" : Str)) = false) (he : starEach (e :: es) X.env = (false, eval e X.env) :: starEach es X.env) (hpl : (backTo pos (starEach es X.env)).any (·.1) = false) :
    PE X (.Call (.Name x np) (e :: es) [] pos) (kF M W (semCl f fo)) := PE.mono (pe_callB hc hg hm hv ha hn hdb he hpl) fun _ _ _ q => clbF c q
theorem k_callB {x : Str} {id : String} {np pos : Pos} {e : Expr} {es : List Expr} {f : EvF (List D)} {fo : MH → List D → Option D} {r : List V → Hp → VK → Prop} (hc : CallR X (.builtin id) r) (c : Cl M m r fo) (hg : Gl X x) (hm : X.mg x = none) (hv : bootBuiltins x = some (.builtin id))
    (ha : PA X (e :: es) (kA M .b W f)) (hn : x ≠ "__name__") (hdb : (x == ("__debug__" : Str)) = false) (he : starEach (e :: es) X.env = (false, eval e X.env) :: starEach es X.env) (hpl : (backTo pos (starEach es X.env)).any (·.1) = false) :
    PE X (.Call (.Name x np) (e :: es) [] pos) (kE M m W (semCl f fo)) := PE.mono (pe_callB hc hg hm hv ha hn hdb he hpl) fun _ _ _ q => clb c q
theorem k_callTy {x : Str} {T : String} {np pos : Pos} {e : Expr} {es : List Expr} {f : EvF (List D)} {fo : MH → List D → Option D} {r : List V → Hp → VK → Prop} (hc : CallR X (.type T) r) (c : Cl M m r fo) (hg : Gl X x) (hm : X.mg x = none) (hv : bootBuiltins x = some (.type T))
    (ha : PA X (e :: es) (kA M .b W f)) (hn : x ≠ "__name__") (hdb : (x == ("__debug__" : Str)) = false) (he : starEach (e :: es) X.env = (false, eval e X.env) :: starEach es X.env) (hpl : (backTo pos (starEach es X.env)).any (·.1) = false) :
    PE X (.Call (.Name x np) (e :: es) [] pos) (kE M m W (semCl f fo)) := PE.mono (pe_callTy hc hg hm hv ha hn hdb he hpl) fun _ _ _ q => clb c q
end
end KF
set_option Elab.async false
set_option linter.all false
set_option maxRecDepth 100000
set_option maxHeartbeats 4000000
/-! KF, part 6: the operations by value. -/
namespace KF
open PySem PySem.Spec PyProof.Rows L2
/-! ### ints -/
def iop (g : Int → Int → Option Int) : MH → D → D → Option D := fun _ x y => match x, y with
  | .py (.int i), .py (.int j) => (g i j).map fun k => .py (.int k)
  | _, _ => none
def gAdd (i j : Int) : Option Int := some (i + j)
def gSub (i j : Int) : Option Int := some (i - j)
def gMul (i j : Int) : Option Int := if (Nat.blt i.natAbs 18446744073709551616 || Nat.blt j.natAbs 18446744073709551616) = true then some (i * j) else none
def gDiv (i j : Int) : Option Int := if (decide (0 < j) && decide (j < 1073741824)) = true then some (i / j) else none
def gMod (i j : Int) : Option Int := if decide (0 < j) = true then some (i % j) else none
def gPow (i j : Int) : Option Int := if (decide (0 ≤ j) && decide (j ≤ 1000) && Nat.blt i.natAbs 1000000) = true then some (i ^ j.toNat) else none
section
variable {X : Cx} {M : MK} {m m' : Mode} {W : WX}
theorem iop_some {g : Int → Int → Option Int} {h : MH} {x y d : D} (e : iop g h x y = some d) : ∃ i j k, x = .py (.int i) ∧ y = .py (.int j) ∧ g i j = some k ∧ d = .py (.int k) := by
  unfold iop at e
  split at e
  · rename_i i j
    cases q : g i j with
    | none => rw [q] at e; cases e
    | some k => rw [q] at e; cases e; exact ⟨i, j, k, rfl, rfl, q, rfl⟩
  · cases e
theorem o_I0 {f : Int → Int → Int} {g : Int → Int → Option Int} (hg : ∀ i j k, g i j = some k → k = f i j) : Op2 M .n (rI0 fun i j => .int (f i j)) (iop g) := by
  intro B A H L h env σ d1 d2 d3 v1 v2 Q gd r1 r2 e k
  obtain ⟨i, j, n, rfl, rfl, e2, rfl⟩ := iop_some e
  cases hg i j n e2
  exact ⟨i, j, r1.int, r2.int, k _ _ (Same.refl H) (RelM.ofP (.int _))⟩
theorem o_I {C : Int → Int → Prop} {f : Int → Int → Int} {g : Int → Int → Option Int} (hg : ∀ i j k, g i j = some k → k = f i j ∧ C i j) : Op2 M .n (rI C fun i j => .int (f i j)) (iop g) := by
  intro B A H L h env σ d1 d2 d3 v1 v2 Q gd r1 r2 e k
  obtain ⟨i, j, n, rfl, rfl, e2, rfl⟩ := iop_some e
  obtain ⟨rfl, c⟩ := hg i j n e2
  exact ⟨i, j, r1.int, r2.int, c, k _ _ (Same.refl H) (RelM.ofP (.int _))⟩
theorem o_add : Op2 M .n (rI0 fun i j => .int (i + j)) (iop gAdd) := o_I0 fun _ _ _ e => (Option.some.inj e).symm
theorem o_sub : Op2 M .n (rI0 fun i j => .int (i - j)) (iop gSub) := o_I0 fun _ _ _ e => (Option.some.inj e).symm
theorem o_mul : Op2 M .n (rI CMul fun i j => .int (i * j)) (iop gMul) := o_I fun i j k e => by
  unfold gMul at e
  split at e
  · rename_i c
    cases e
    refine ⟨rfl, ?_⟩
    rcases Bool.or_eq_true_iff.mp c with c | c
    · have := Nat.le_of_ble_eq_true c
      exact .inl (by omega)
    · have := Nat.le_of_ble_eq_true c
      exact .inr (by omega)
  · cases e
theorem o_div : Op2 M .n (rI CDiv fun i j => .int (i / j)) (iop gDiv) := o_I fun i j k e => by
  unfold gDiv at e
  split at e
  · rename_i c
    cases e
    obtain ⟨c1, c2⟩ := Bool.and_eq_true_iff.mp c
    exact ⟨rfl, of_decide_eq_true c1, of_decide_eq_true c2⟩
  · cases e
theorem o_mod : Op2 M .n (rI (fun _ j => 0 < j) fun i j => .int (i % j)) (iop gMod) := o_I fun i j k e => by
  unfold gMod at e
  split at e
  · rename_i c
    cases e
    exact ⟨rfl, of_decide_eq_true c⟩
  · cases e
theorem o_pow : Op2 M .n (rI CPow fun i j => .int (i ^ j.toNat)) (iop gPow) := o_I fun i j k e => by
  unfold gPow at e
  split at e
  · rename_i c
    cases e
    obtain ⟨c, c3⟩ := Bool.and_eq_true_iff.mp c
    obtain ⟨c1, c2⟩ := Bool.and_eq_true_iff.mp c
    have c1 := of_decide_eq_true c1
    have c2 := of_decide_eq_true c2
    have c3 := Nat.le_of_ble_eq_true c3
    exact ⟨rfl, c1, by omega, by omega⟩
  · cases e
/-! ### comparisons -/
def icmp (p : Int → Int → Bool) : MH → D → D → Option Bool := fun _ x y => match x, y with
  | .py (.int i), .py (.int j) => some (p i j)
  | _, _ => none
theorem c_int (p : Int → Int → Bool) : Cm2 M (rI0 fun i j => .bl (p i j)) (icmp p) := by
  intro B A H L h env σ d1 d2 b v1 v2 Q g r1 r2 e q
  unfold icmp at e
  split at e
  · cases e; exact ⟨_, _, r1.int, r2.int, q⟩
  · cases e
/-- data of a depth -/
def shal : Nat → PyData → Bool
  | 0, .list _ => false
  | 0, .tuple _ => false
  | n + 1, .list xs => xs.all (shal n)
  | n + 1, .tuple xs => xs.all (shal n)
  | _, _ => true
mutual
theorem shal_depth : ∀ (d : PyData) (n : Nat), d.canLay0 = true → shal n d = true → d.depth ≤ n
  | .none, n, _, _ => by simp [PyData.depth]
  | .bool _, n, _, _ => by simp [PyData.depth]
  | .int _, n, _, _ => by simp [PyData.depth]
  | .str _, n, _, _ => by simp [PyData.depth]
  | .list xs, 0, _, h => by simp [shal] at h
  | .tuple xs, 0, _, h => by simp [shal] at h
  | .list xs, n + 1, c, h => by
    simp only [PyData.depth]
    exact Nat.succ_le_succ (shal_depthAll xs n (by simpa only [PyData.canLay0] using c) (by simpa only [shal] using h))
  | .tuple xs, n + 1, c, h => by
    simp only [PyData.depth]
    exact Nat.succ_le_succ (shal_depthAll xs n (by simpa only [PyData.canLay0] using c) (by simpa only [shal] using h))
  | .dict kvs, n, c, _ => by simp [PyData.canLay0] at c
theorem shal_depthAll : ∀ (xs : List PyData) (n : Nat), PyData.canLayAll0 xs = true → xs.all (shal n) = true → PyData.depthAll xs ≤ n
  | [], n, _, _ => by simp [PyData.depthAll]
  | x :: xs, n, c, h => by
    simp only [PyData.canLayAll0, Bool.and_eq_true] at c
    simp only [List.all_cons, Bool.and_eq_true] at h
    simp only [PyData.depthAll]
    exact Nat.max_le.mpr ⟨shal_depth x n c.1 h.1, shal_depthAll xs n c.2 h.2⟩
end
def eqD : MH → D → D → Option Bool := fun _ x y => match x, y with
  | .py d, .py e => if (shal 64 d || shal 64 e) = true then some (PyData.eqv d e) else none
  | _, _ => none
def neD : MH → D → D → Option Bool := fun h x y => (eqD h x y).map (!·)
def rEqS (K : PySem.W.Frag) : R2 := fun x y H Q => ∃ d e, Dp K H x d ∧ Dp K H y e ∧ d.canLay0 = true ∧ e.canLay0 = true ∧ min d.depth e.depth ≤ 64 ∧ Q (.bl (PyData.eqv d e)) H
def rNeS (K : PySem.W.Frag) : R2 := fun x y H Q => ∃ d e, Dp K H x d ∧ Dp K H y e ∧ d.canLay0 = true ∧ e.canLay0 = true ∧ min d.depth e.depth ≤ 64 ∧ Q (.bl (!PyData.eqv d e)) H
theorem op_eqS (hu : X.A.units + 64 < cLine) : OpR X (compareOp .Eq) (rEqS X.K) := by
  intro pins s σ H x y v u Q I rx ry h
  obtain ⟨d, e, hd, he, c1, c2, dp, q⟩ := h
  obtain ⟨as, r1⟩ := Dp.reads I d x v hd rx
  obtain ⟨bs, r2⟩ := Dp.reads I e y u he ry
  exact SeqAt.compareEq_reads r1 r2 c1 c2 (by omega) ⟨.bl _, H, I, rfl, q⟩
theorem op_neS (hu : X.A.units + 64 < cLine) : OpR X (compareOp .NotEq) (rNeS X.K) := by
  intro pins s σ H x y v u Q I rx ry h
  obtain ⟨d, e, hd, he, c1, c2, dp, q⟩ := h
  obtain ⟨as, r1⟩ := Dp.reads I d x v hd rx
  obtain ⟨bs, r2⟩ := Dp.reads I e y u he ry
  exact SeqAt.compareNe_reads r1 r2 c1 c2 (by omega) ⟨.bl _, H, I, rfl, q⟩
theorem eqD_some {h : MH} {x y : D} {b : Bool} (e : eqD h x y = some b) : ∃ d e, x = .py d ∧ y = .py e ∧ b = PyData.eqv d e ∧ (shal 64 d = true ∨ shal 64 e = true) := by
  unfold eqD at e
  split at e
  · rename_i d e'
    split at e
    · rename_i c; cases e; exact ⟨d, e', rfl, rfl, rfl, Bool.or_eq_true_iff.mp c⟩
    · cases e
  · cases e
theorem min64 {d e : PyData} (c1 : d.canLay0 = true) (c2 : e.canLay0 = true) (h : shal 64 d = true ∨ shal 64 e = true) : min d.depth e.depth ≤ 64 := by
  rcases h with h | h
  · exact Nat.le_trans (Nat.min_le_left _ _) (shal_depth d 64 c1 h)
  · exact Nat.le_trans (Nat.min_le_right _ _) (shal_depth e 64 c2 h)
theorem c_eq : Cm2 M (rEqS M.K) eqD := by
  intro B A H L h env σ d1 d2 b v1 v2 Q g r1 r2 e q
  obtain ⟨d, e', rfl, rfl, rfl, c⟩ := eqD_some e
  exact ⟨d, e', r1.dp, r2.dp, r1.lay, r2.lay, min64 r1.lay r2.lay c, q⟩
theorem c_ne : Cm2 M (rNeS M.K) neD := by
  intro B A H L h env σ d1 d2 b v1 v2 Q g r1 r2 e q
  unfold neD at e
  cases e2 : eqD h d1 d2 with
  | none => rw [e2] at e; cases e
  | some k =>
    rw [e2] at e
    obtain ⟨d, e', rfl, rfl, rfl, c⟩ := eqD_some e2
    cases e
    exact ⟨d, e', r1.dp, r2.dp, r1.lay, r2.lay, min64 r1.lay r2.lay c, q⟩
/-- is None -/
def isN : D → Bool
  | .py .none => true
  | _ => false
def isND : MH → D → D → Option Bool := fun _ x y => match y with
  | .py .none => some (isN x)
  | _ => none
def notND : MH → D → D → Option Bool := fun _ x y => match y with
  | .py .none => some (!isN x)
  | _ => none
theorem isN_eq {B : Bs} {A : List (Option Addr)} {H : Hp} {L : List Addr} {d : D} {v : V} (r : RelM M .b B A H H L d v) : decide (v = .non) = isN d := by
  cases d with
  | loc n => obtain ⟨a, _, rfl⟩ := r.loc; rfl
  | scr n => obtain ⟨a, rfl, _⟩ := r.scr; rfl
  | py d =>
    cases d with
    | none => cases r.non; rfl
    | bool b => cases r.bl; rfl
    | int i => cases r.int; rfl
    | str x => cases r.str.1; rfl
    | list xs => obtain ⟨a, vs, rfl, _⟩ := r.list; rfl
    | tuple xs => obtain ⟨a, vs, rfl, _⟩ := r.tup; rfl
    | dict kvs => cases r.data (by intro _ h; cases h)
theorem c_isN : Cm2 M (fun x y H Q => y = .non ∧ Q (.bl (decide (x = .non))) H) isND := by
  intro B A H L h env σ d1 d2 b v1 v2 Q g r1 r2 e q
  unfold isND at e
  split at e
  · cases e; exact ⟨r2.non, by rw [isN_eq r1]; exact q⟩
  · cases e
theorem c_notN : Cm2 M (fun x y H Q => y = .non ∧ Q (.bl (!decide (x = .non))) H) notND := by
  intro B A H L h env σ d1 d2 b v1 v2 Q g r1 r2 e q
  unfold notND at e
  split at e
  · cases e; exact ⟨r2.non, by rw [isN_eq r1]; exact q⟩
  · cases e
/-! ### lists and tuples -/
def listOf (h : MH) : D → Option (List PyData)
  | .py (.list xs) => some xs
  | .loc n => match h[n]? with
    | some (.lst ds) => allPy ds
    | _ => none
  | _ => none
theorem listOf_rel {B : Bs} {A : List (Option Addr)} {H : Hp} {L : List Addr} {h : MH} {env : KF.Env} {σ : L2.St} {d : D} {v : V} {xs : List PyData} (g : Good M B H L A h env σ) (r : RelM M .b B A H H L d v) (e : listOf h d = some xs) :
    ∃ a vs, v = .ref a ∧ Rd H a (.lst vs) ∧ RelPs M.K H (Zf B L A) xs vs := by
  cases d with
  | scr n => cases e
  | loc n =>
    obtain ⟨a, ha, rfl⟩ := r.loc
    unfold listOf at e
    dsimp only at e
    cases q : h[n]? with
    | none => rw [q] at e; cases e
    | some o =>
      rw [q] at e
      cases o with
      | lst ds =>
        have m := g.obj n _ a q ha
        cases m with
        | lst h1 h2 => exact ⟨a, _, rfl, .inl h1, h2.py e⟩
      | dct kvs => cases e
      | lck kvs => cases e
      | ins c fs => cases e
  | py d =>
    cases d with
    | list ys => cases e; exact r.list
    | none => cases e
    | bool b => cases e
    | int i => cases e
    | str x => cases e
    | tuple xs => cases e
    | dict kvs => cases e
def catL : MH → D → D → Option D := fun h x y => match listOf h x, listOf h y with
  | some xs, some ys => if fits (xs.length + ys.length) = true then some (.py (.list (xs ++ ys))) else none
  | _, _ => none
theorem o_catL : Op2F M rCatR catL := by
  intro B A H L h env σ d1 d2 d3 v1 v2 Q g r1 r2 e k
  unfold catL at e
  cases q1 : listOf h d1 with
  | none => rw [q1] at e; cases e
  | some xs =>
    cases q2 : listOf h d2 with
    | none => rw [q1, q2] at e; cases e
    | some ys =>
      rw [q1, q2] at e
      dsimp only at e
      split at e
      · rename_i c
        cases e
        obtain ⟨a, vs, rfl, h1, h2⟩ := listOf_rel g r1 q1
        obtain ⟨b, us, rfl, h3, h4⟩ := listOf_rel g r2 q2
        exact ⟨a, b, vs, us, rfl, rfl, h1, h3, by rw [← h2.length, ← h4.length]; exact fits.ok c, fun p hp => k _ _ _ rfl hp (h2.append h4)⟩
      · cases e
def catT : MH → D → D → Option D := fun _ x y => match x, y with
  | .py (.tuple xs), .py (.tuple ys) => if fits (xs.length + ys.length) = true then some (.py (.tuple (xs ++ ys))) else none
  | _, _ => none
theorem o_catT : Op2 M .n (rCatTA M.K) catT := by
  intro B A H L h env σ d1 d2 d3 v1 v2 Q g r1 r2 e k
  unfold catT at e
  split at e
  · rename_i xs ys
    split at e
    · rename_i c
      cases e
      obtain ⟨a, vs, rfl, h1, h2⟩ := r1.tup
      obtain ⟨b, us, rfl, h3, h4⟩ := r2.tup
      refine ⟨a, b, vs, us, rfl, rfl, h1, h3, by rw [← h2.length, ← h4.length]; exact fits.ok c, fun q => ?_, fun _ q => ?_, fun _ _ p hp => k _ _ (same_upd hp) (relTup hp (h2.append h4))⟩
      · subst q
        cases h2
        exact k _ _ (Same.refl H) (RelM.ofP (.tup h3 h4))
      · subst q
        cases h4
        rw [List.append_nil] at k
        exact k _ _ (Same.refl H) (RelM.ofP (.tup h1 h2))
    · cases e
  · cases e
theorem ixN_len {α β : Type} {xs : List α} {ys : List β} (h : xs.length = ys.length) (i : Int) : ixN xs.length i = ixN ys.length i := by rw [h]
def ixD (h : MH) (d : D) (i : Int) : Option D := match d with
  | .py (.list xs) => (atI xs i).map .py
  | .py (.tuple xs) => (atI xs i).map .py
  | .py (.str x) => (atI x.cps.toList i).map fun c => .py (.str ⟨#[c]⟩)
  | .loc n => match h[n]? with
    | some (.lst ds) => atI ds i
    | _ => none
  | _ => none
def ixO : MH → D → D → Option D := fun h x y => match y with
  | .py (.int i) => ixD h x i
  | _ => none
theorem atI_rel {K : PySem.W.Frag} {H : Hp} {Z : Addr → Prop} {ds : List PyData} {vs : List V} {i : Int} {d : PyData} (r : RelPs K H Z ds vs) (e : atI ds i = some d) : ∃ v, atI vs i = some v ∧ RelP K H Z d v := by
  unfold atI at e ⊢
  rw [← r.length]
  cases q : ixN ds.length i with
  | none => rw [q] at e; cases e
  | some j => rw [q] at e; exact r.get (i := j) e
theorem atI_relD {K : PySem.W.Frag} {H : Hp} {L : List Addr} {Z : Addr → Prop} {ds : List D} {vs : List V} {i : Int} {d : D} (r : RelDs K H L Z ds vs) (e : atI ds i = some d) : ∃ v, atI vs i = some v ∧ RelD K H L Z d v := by
  unfold atI at e ⊢
  rw [← r.length]
  cases q : ixN ds.length i with
  | none => rw [q] at e; cases e
  | some j => rw [q] at e; exact r.get (i := j) e
theorem sOk_sign {x : Str} {c : Nat} {i : Int} (ok : sOk x = true) (e : atI x.cps.toList i = some c) : sOk ⟨#[c]⟩ = true := by
  have h1 := sOk.ok ok
  have hm : c ∈ x.cps.toList := by
    unfold atI at e
    cases q : ixN x.cps.toList.length i with
    | none => rw [q] at e; cases e
    | some j => rw [q] at e; exact List.mem_of_getElem? e
  have hc : (decide (c < 0x110000)) = true := by
    unfold PyData.strOk at h1
    rw [← Array.all_toList] at h1
    exact List.all_eq_true.mp h1 c hm
  unfold sOk PyData.strOk
  have hc := of_decide_eq_true hc
  simp [hc, Str.length]
theorem o_ix : Op2 M .n (rIx M.K) ixO := by
  intro B A H L h env σ d1 d2 d3 v1 v2 Q g r1 r2 e k
  unfold ixO at e
  split at e
  · rename_i i
    cases r2.int
    cases d1 with
    | scr n => cases e
    | loc n =>
      obtain ⟨a, ha, rfl⟩ := r1.loc
      unfold ixD at e
      dsimp only at e
      cases q : h[n]? with
      | none => rw [q] at e; cases e
      | some o =>
        rw [q] at e
        cases o with
        | lst ds =>
          have m := g.obj n _ a q ha
          cases m with
          | lst h1 h2 =>
            obtain ⟨v, e1, e2⟩ := atI_relD h2 e
            exact .inl ⟨a, _, i, v, rfl, rfl, .inl (.inl h1), e1, k _ _ (Same.refl H) e2⟩
        | dct kvs => cases e
        | lck kvs => cases e
        | ins c fs => cases e
    | py d =>
      cases d with
      | list xs =>
        obtain ⟨a, vs, rfl, h1, h2⟩ := r1.list
        have e : (atI xs i).map D.py = some d3 := e
        cases q : atI xs i with
        | none => rw [q] at e; cases e
        | some d =>
          rw [q] at e; cases e
          obtain ⟨v, e1, e2⟩ := atI_rel h2 q
          exact .inl ⟨a, _, i, v, rfl, rfl, .inl h1, e1, k _ _ (Same.refl H) (RelM.ofP e2)⟩
      | tuple xs =>
        obtain ⟨a, vs, rfl, h1, h2⟩ := r1.tup
        have e : (atI xs i).map D.py = some d3 := e
        cases q : atI xs i with
        | none => rw [q] at e; cases e
        | some d =>
          rw [q] at e; cases e
          obtain ⟨v, e1, e2⟩ := atI_rel h2 q
          exact .inr (.inl ⟨a, _, i, v, rfl, rfl, h1, e1, k _ _ (Same.refl H) (RelM.ofP e2)⟩)
      | str x =>
        obtain ⟨rfl, ok⟩ := r1.str
        have e : (atI x.cps.toList i).map (fun c => D.py (.str ⟨#[c]⟩)) = some d3 := e
        cases q : atI x.cps.toList i with
        | none => rw [q] at e; cases e
        | some c =>
          rw [q] at e; cases e
          exact .inr (.inr ⟨x, i, c, rfl, rfl, sOk.line ok, q, k _ _ (Same.refl H) (RelM.ofP (.str _ (sOk_sign ok q)))⟩)
      | none => cases e
      | bool b => cases e
      | int i => cases e
      | dict kvs => cases e
  · cases e
end
end KF
set_option Elab.async false
set_option linter.all false
set_option maxRecDepth 100000
set_option maxHeartbeats 4000000
/-! KF, part 7: slices, built-ins. -/
namespace KF
open PySem PySem.Spec PyProof.Rows L2
section
variable {X : Cx} {M : MK} {m m' : Mode} {W : WX}
def RO : RT (Option Int) (Option Int) := fun _ _ _ _ _ a b => a = b
theorem sm_O : SM RO := fun _ _ _ _ _ _ _ _ _ _ _ r => r
abbrev kO (M : MK) (W : WX) (f : EvF (Option Int)) : TO := tG M RO W f
theorem PO.mono {e : Option Expr} {t t' : TO} (h : PO X e t) (i : ∀ σ H Q, t' σ H Q → t σ H Q) : PO X e t' := ⟨fun pins s σ H Q I q => h.run pins s σ H Q I (i σ H Q q)⟩
def semNo : EvF (Option Int) := fun _ h => .ok none h
def asI : D → Option (Option Int)
  | .py (.int i) => some (some i)
  | _ => none
def semSo (fa : EvF D) : EvF (Option Int) := fun env h => (fa env h).bind fun x h1 => lift (asI x) h1
theorem k_no : PO X none (kO M W semNo) := PO.mono po_none fun σ H Q ⟨B, L, A, h, env, g, p⟩ => p.fin g (Same.refl _) rfl
theorem k_so {e : Expr} {fa : EvF D} (ha : PE X e (kE M .b W fa)) : PO X (some e) (kO M W (semSo fa)) := by
  refine PO.mono (po_some ha) fun σ H Q ⟨B, L, A, h, env, g, p⟩ => ?_
  refine tG_bind sm_O g p fun x h1 v H1 L1 e1 x1 g1 r1 p1 => ?_
  cases e : asI x with
  | none => rw [e] at p1; exact p1.elim
  | some o =>
    rw [e] at p1
    unfold asI at e
    split at e
    · cases e; exact ⟨_, r1.int, p1.fin g1 (Same.refl _) rfl⟩
    · cases e
def cut {α : Type} (xs : List α) (lo hi : Option Int) : List α := (xs.drop (HT.sIx xs.length 0 lo)).take (HT.sIx xs.length xs.length hi - HT.sIx xs.length 0 lo)
theorem cut_rel {K : PySem.W.Frag} {H : Hp} {Z : Addr → Prop} {ds : List PyData} {vs : List V} (r : RelPs K H Z ds vs) (lo hi : Option Int) : RelPs K H Z (cut ds lo hi) (cutV vs lo hi) := by
  unfold cut cutV
  rw [r.length]
  exact (r.drop _).take _
def cutD : D → Option Int → Option Int → Option D
  | .py (.list xs), lo, hi => some (.py (.list (cut xs lo hi)))
  | .py (.tuple xs), lo, hi => some (.py (.tuple (cut xs lo hi)))
  | _, _, _ => none
def semSl (fa : EvF D) (fl fh : EvF (Option Int)) (fo : D → Option Int → Option Int → Option D) : EvF D := fun env h => (fa env h).bind fun x h1 => (fl env h1).bind fun lo h2 => (fh env h2).bind fun hi h3 => lift (fo x lo hi) h3
def cutL : D → Option Int → Option Int → Option D
  | .py (.list xs), lo, hi => some (.py (.list (cut xs lo hi)))
  | _, _, _ => none
def cutT : D → Option Int → Option Int → Option D
  | .py (.tuple xs), lo, hi => some (.py (.tuple (cut xs lo hi)))
  | _, _, _ => none
theorem k_slT (hK : M.K = X.K) {e : Expr} {lo hi : Option Expr} {p2 pos : Pos} {fa : EvF D} {fl fh : EvF (Option Int)} (ha : PE X e (kE M .b W fa)) (hl : PO X lo (kO M W fl)) (hh : PO X hi (kO M W fh)) :
    PE X (.Subscript e (.Slice lo hi none p2) pos) (kE M .n W (semSl fa fl fh cutT)) := by
  refine PE.mono (pe_slice sl_tupA ha hl hh) fun σ H Q ⟨B, L, A, h, env, g, p⟩ => ?_
  refine tG_bind sm_M g p fun x h1 v H1 L1 e1 x1 g1 r1 p1 => ?_
  refine tG_bind sm_M g1 p1 fun lo h2 lo' H2 L2 e2 x2 g2 r2 p2 => ?_
  refine tG_bind sm_M g2 p2 fun hi h3 hi' H3 L3 e3 x3 g3 r3 p3 => ?_
  cases (show lo = lo' from r2)
  cases (show hi = hi' from r3)
  have r1' : RelM M .b B A H3 H3 L3 x v := r1.stay (x2.trans x3) fun i a ha => (g1.own i a ha).1
  cases e : cutT x lo hi with
  | none => rw [e] at p3; exact p3.elim
  | some d =>
    rw [e] at p3
    unfold cutT at e
    split at e
    · cases e
      obtain ⟨a, vs, rfl, q1, q2⟩ := r1'.tup
      refine ⟨a, vs, rfl, hK ▸ q1, fun hw => ?_, fun hw q hq => p3.fin g3 (same_upd hq) (relTup hq (cut_rel q2 lo hi))⟩
      have ec : cutV vs lo hi = vs := by
        unfold cutV
        rw [hw.1, hw.2, List.drop_zero, Nat.sub_zero, List.take_length]
      have := cut_rel q2 lo hi
      rw [ec] at this
      exact p3.fin g3 (Same.refl _) (RelM.ofP (.tup q1 this))
    · cases e
theorem k_slL (hK : M.K = X.K) {e : Expr} {lo hi : Option Expr} {p2 pos : Pos} {fa : EvF D} {fl fh : EvF (Option Int)} (ha : PE X e (kE M .b W fa)) (hl : PO X lo (kO M W fl)) (hh : PO X hi (kO M W fh)) :
    PE X (.Subscript e (.Slice lo hi none p2) pos) (kF M W (semSl fa fl fh cutL)) := by
  refine PE.mono (pe_slice sl_list ha hl hh) fun σ H Q ⟨B, L, A, h, env, g, p⟩ => ?_
  refine tG_bindF g p fun x h1 v H1 L1 e1 x1 g1 r1 p1 => ?_
  refine tG_bindF g1 p1 fun lo h2 lo' H2 L2 e2 x2 g2 r2 p2 => ?_
  refine tG_bindF g2 p2 fun hi h3 hi' H3 L3 e3 x3 g3 r3 p3 => ?_
  cases (show lo = lo' from r2)
  cases (show hi = hi' from r3)
  have r1' : RelM M .b B A H3 H3 L3 x v := r1.stay (x2.trans x3) fun i a ha => (g1.own i a ha).1
  cases e : cutL x lo hi with
  | none => rw [e] at p3; exact p3.elim
  | some d =>
    rw [e] at p3
    unfold cutL at e
    split at e
    · cases e
      obtain ⟨a, vs, rfl, q1, q2⟩ := r1'.list
      exact ⟨a, vs, rfl, .inl q1, fun q hq => p3.fin g3 hq (cut_rel q2 lo hi)⟩
    · cases e
def revT : MH → D → Option D := fun _ x => match x with
  | .py (.tuple xs) => some (.py (.tuple xs.reverse))
  | _ => none
def sem1 (fa : EvF D) (fo : MH → D → Option D) : EvF D := fun env h => (fa env h).bind fun x h1 => lift (fo h1 x) h1
theorem k_revT (hK : M.K = X.K) {e : Expr} {k : Nat} {p1 p2 p3 pos : Pos} {fa : EvF D} (ha : PE X e (kE M .b W fa)) :
    PE X (.Subscript e (.Slice none none (some (.UnaryOp .USub (.Constant (.int 1) k p1) p2)) p3) pos) (kE M .n W (sem1 fa revT)) := by
  refine PE.mono (pe_revT ha) fun σ H Q ⟨B, L, A, h, env, g, p⟩ => ?_
  refine tG_bind sm_M g p fun x h1 v H1 L1 e1 x1 g1 r1 p1 => ?_
  cases e : revT h1 x with
  | none => rw [e] at p1; exact p1.elim
  | some d =>
    rw [e] at p1
    unfold revT at e
    split at e
    · cases e
      obtain ⟨a, vs, rfl, q1, q2⟩ := r1.tup
      exact ⟨a, vs, rfl, hK ▸ q1, fun q hq => p1.fin g1 (same_upd hq) (relTup hq q2.reverse)⟩
    · cases e
/-- -a -/
def negD : MH → D → Option D := fun _ x => match x with
  | .py (.int i) => some (.py (.int (-i)))
  | _ => none
theorem k_neg {a : Expr} {fa : EvF D} {pos : Pos} (ha : PE X a (kE M .b W fa)) : PE X (.UnaryOp .USub a pos) (kE M .n W (sem1 fa negD)) := by
  refine PE.mono (pe_un un_neg ha) fun σ H Q ⟨B, L, A, h, env, g, p⟩ => ?_
  refine tG_bind sm_M g p fun x h1 v H1 L1 e1 x1 g1 r1 p1 => ?_
  cases e : negD h1 x with
  | none => rw [e] at p1; exact p1.elim
  | some d =>
    rw [e] at p1
    unfold negD at e
    split at e
    · cases e; exact ⟨_, r1.int, p1.fin g1 (Same.refl _) (RelM.ofP (.int _))⟩
    · cases e
/-! ### built-ins -/
theorem relMs1 {B : Bs} {A : List (Option Addr)} {H : Hp} {L : List Addr} {d : D} {vs : List V} (r : RelMs M .b B A H H L [d] vs) : ∃ v, vs = [v] ∧ RelM M .b B A H H L d v := by
  cases r with
  | cons r t => cases t; exact ⟨_, rfl, r⟩
theorem relMs2 {B : Bs} {A : List (Option Addr)} {H : Hp} {L : List Addr} {d e : D} {vs : List V} (r : RelMs M .b B A H H L [d, e] vs) : ∃ v w, vs = [v, w] ∧ RelM M .b B A H H L d v ∧ RelM M .b B A H H L e w := by
  cases r with
  | cons r t =>
    obtain ⟨w, rfl, q⟩ := relMs1 t
    exact ⟨_, w, rfl, r, q⟩
def lenD (h : MH) : D → Option Nat
  | .py (.str x) => some x.length
  | .py (.list xs) => some xs.length
  | .py (.tuple xs) => some xs.length
  | .loc n => match h[n]? with
    | some (.lst ds) => some ds.length
    | _ => none
  | _ => none
def fLen : MH → List D → Option D := fun h ds => match ds with
  | [d] => (lenD h d).map fun n => .py (.int n)
  | _ => none
theorem b_len : Cl M .n (fun xs H Q => ∃ x n, xs = [x] ∧ LenV M.K x H n ∧ Q (.int n) H) fLen := by
  intro B A H L h env σ ds d3 vs Q g rr e k
  unfold fLen at e
  split at e
  · rename_i d
    obtain ⟨v, rfl, r⟩ := relMs1 rr
    cases q : lenD h d with
    | none => rw [q] at e; cases e
    | some n =>
      rw [q] at e; cases e
      refine ⟨v, n, rfl, ?_, k _ _ (Same.refl H) (RelM.ofP (.int _))⟩
      cases d with
      | scr j => cases q
      | loc j =>
        obtain ⟨a, ha, rfl⟩ := r.loc
        unfold lenD at q
        dsimp only at q
        cases q2 : h[j]? with
        | none => rw [q2] at q; cases q
        | some o =>
          rw [q2] at q
          cases o with
          | lst ds =>
            cases q
            cases g.obj j _ a q2 ha with
            | lst h1 h2 => exact .inl ⟨_, .inl (.inl h1), h2.length⟩
          | dct kvs => cases q
          | lck kvs => cases q
          | ins c fs => cases q
      | py d =>
        cases d with
        | str x => cases q; obtain ⟨rfl, ok⟩ := r.str; exact ⟨sOk.line ok, rfl⟩
        | list xs => cases q; obtain ⟨a, vs, rfl, h1, h2⟩ := r.list; exact .inl ⟨vs, .inl h1, h2.length⟩
        | tuple xs => cases q; obtain ⟨a, vs, rfl, h1, h2⟩ := r.tup; exact .inr ⟨vs, h1, h2.length⟩
        | none => cases q
        | bool b => cases q
        | int i => cases q
        | dict kvs => cases q
  · cases e
def fInt : MH → List D → Option D := fun _ ds => match ds with
  | [.py (.int i)] => some (.py (.int i))
  | [.py (.bool b)] => some (.py (.int (if b then 1 else 0)))
  | _ => none
theorem b_int : Cl M .n (fun xs H Q => (∃ i, xs = [.int i] ∧ Q (.int i) H) ∨ ∃ k, xs = [.bl k] ∧ Q (.int (if k then 1 else 0)) H) fInt := by
  intro B A H L h env σ ds d3 vs Q g rr e k
  unfold fInt at e
  split at e
  · cases e
    obtain ⟨v, rfl, r⟩ := relMs1 rr
    cases r.int
    exact .inl ⟨_, rfl, k _ _ (Same.refl H) (RelM.ofP (.int _))⟩
  · cases e
    obtain ⟨v, rfl, r⟩ := relMs1 rr
    cases r.bl
    exact .inr ⟨_, rfl, k _ _ (Same.refl H) (RelM.ofP (.int _))⟩
  · cases e
def fMax2 : MH → List D → Option D := fun _ ds => match ds with
  | [.py (.int i), .py (.int j)] => some (.py (.int (if j > i then j else i)))
  | _ => none
def fMin2 : MH → List D → Option D := fun _ ds => match ds with
  | [.py (.int i), .py (.int j)] => some (.py (.int (if j < i then j else i)))
  | _ => none
theorem b_max2 : Cl M .n (fun xs H Q => ∃ i j, xs = [.int i, .int j] ∧ Q (.int (if j > i then j else i)) H) fMax2 := by
  intro B A H L h env σ ds d3 vs Q g rr e k
  unfold fMax2 at e
  split at e
  · cases e
    obtain ⟨v, w, rfl, r1, r2⟩ := relMs2 rr
    cases r1.int
    cases r2.int
    exact ⟨_, _, rfl, k _ _ (Same.refl H) (RelM.ofP (.int _))⟩
  · cases e
theorem b_min2 : Cl M .n (fun xs H Q => ∃ i j, xs = [.int i, .int j] ∧ Q (.int (if j < i then j else i)) H) fMin2 := by
  intro B A H L h env σ ds d3 vs Q g rr e k
  unfold fMin2 at e
  split at e
  · cases e
    obtain ⟨v, w, rfl, r1, r2⟩ := relMs2 rr
    cases r1.int
    cases r2.int
    exact ⟨_, _, rfl, k _ _ (Same.refl H) (RelM.ofP (.int _))⟩
  · cases e
def fAbs : MH → List D → Option D := fun _ ds => match ds with
  | [.py (.int i)] => some (.py (.int (if i < 0 then -i else i)))
  | _ => none
theorem b_abs : Cl M .n (fun xs H Q => ∃ i, xs = [.int i] ∧ Q (.int (if i < 0 then -i else i)) H) fAbs := by
  intro B A H L h env σ ds d3 vs Q g rr e k
  unfold fAbs at e
  split at e
  · cases e
    obtain ⟨v, rfl, r⟩ := relMs1 rr
    cases r.int
    exact ⟨_, rfl, k _ _ (Same.refl H) (RelM.ofP (.int _))⟩
  · cases e
/-- tuple(xs), list(xs) -/
def fTup : MH → List D → Option D := fun h ds => match ds with
  | [.py (.tuple xs)] => some (.py (.tuple xs))
  | [d] => (listOf h d).map fun xs => .py (.tuple xs)
  | _ => none
theorem b_tup (hK : M.K = X.K) : Cl M .n (fun xs H Q => ∃ p ys, xs = [.ref p] ∧ ((SqL X.K H p ys ∧ ∀ l, H l = none → Q (.ref l) (upd H l (.tup ys))) ∨ (SqT X.K H p ys ∧ Q (.ref p) H))) fTup := by
  intro B A H L h env σ ds d3 vs Q g rr e k
  unfold fTup at e
  split at e
  · cases e
    obtain ⟨v, rfl, r⟩ := relMs1 rr
    obtain ⟨a, us, rfl, h1, h2⟩ := r.tup
    exact ⟨a, us, rfl, .inr ⟨hK ▸ h1, k _ _ (Same.refl H) (RelM.ofP (.tup h1 h2))⟩⟩
  · rename_i d _
    obtain ⟨v, rfl, r⟩ := relMs1 rr
    cases q : listOf h d with
    | none => rw [q] at e; cases e
    | some xs =>
      rw [q] at e; cases e
      obtain ⟨a, us, rfl, h1, h2⟩ := listOf_rel g r q
      exact ⟨a, us, rfl, .inl ⟨.inl h1, fun l hl => k _ _ (same_upd hl) (relTup hl h2)⟩⟩
  · cases e
theorem relInts {K : PySem.W.Frag} {H : Hp} {Z : Addr → Prop} : ∀ ns : List Int, RelPs K H Z (ns.map .int) (ns.map V.int)
  | [] => .nil
  | n :: r => .cons (.int n) (relInts r)
def fLst : MH → List D → Option D := fun h ds => match ds with
  | [.py (.tuple xs)] => some (.py (.list xs))
  | [.scr ns] => some (.py (.list (ns.map .int)))
  | [d] => (listOf h d).map fun xs => .py (.list xs)
  | _ => none
theorem b_lst (hK : M.K = X.K) : ClF M (fun xs H Q => ∃ p ys, xs = [.ref p] ∧ (SqL X.K H p ys ∨ SqT X.K H p ys) ∧ ∀ l, H l = none → Q (.ref l) (upd H l (.lst ys))) fLst := by
  intro B A H L h env σ ds d3 vs Q g rr e k
  unfold fLst at e
  split at e
  · cases e
    obtain ⟨v, rfl, r⟩ := relMs1 rr
    obtain ⟨a, us, rfl, h1, h2⟩ := r.tup
    exact ⟨a, us, rfl, .inr (hK ▸ h1), fun l hl => k _ _ _ rfl hl h2⟩
  · cases e
    obtain ⟨v, rfl, r⟩ := relMs1 rr
    obtain ⟨a, rfl, h1⟩ := r.scr
    exact ⟨a, _, rfl, .inl (hK ▸ h1.l), fun l hl => k _ _ _ rfl hl (relInts _)⟩
  · rename_i d _ _
    obtain ⟨v, rfl, r⟩ := relMs1 rr
    cases q : listOf h d with
    | none => rw [q] at e; cases e
    | some xs =>
      rw [q] at e; cases e
      obtain ⟨a, us, rfl, h1, h2⟩ := listOf_rel g r q
      exact ⟨a, us, rfl, .inl (.inl h1), fun l hl => k _ _ _ rfl hl h2⟩
  · cases e
/-! ### isinstance -/
def tyD : D → Option String
  | .py .none => some "NoneType"
  | .py (.bool _) => some "bool"
  | .py (.int _) => some "int"
  | .py (.str _) => some "str"
  | .py (.list _) => some "list"
  | .py (.tuple _) => some "tuple"
  | _ => none
def isTy (T t : String) : Bool := t == T || (t == "bool" && T == "int")
def tys : List String := ["NoneType", "bool", "int", "str", "list", "tuple"]
theorem kit_tab : ∀ t ∈ tys, ∀ T ∈ tys, kitB t T = some (isTy T t) := by decide +kernel
def isiD (T : String) : MH → D → Option D := fun _ d => (tyD d).map fun t => .py (.bool (isTy T t))
theorem tyD_mem {d : D} {t : String} (e : tyD d = some t) : t ∈ tys := by
  unfold tyD at e
  split at e <;> first | (cases e; decide) | cases e
theorem tyD_rel {B : Bs} {A : List (Option Addr)} {H : Hp} {L : List Addr} {d : D} {v : V} {t : String} (r : RelM M .b B A H H L d v) (e : tyD d = some t) : TyX M.K H v (.type t) := by
  cases d with
  | loc n => cases e
  | scr n => cases e
  | py d =>
    cases d with
    | none => cases e; cases r.non; exact .base .non
    | bool b => cases e; cases r.bl; exact .base (.bl _)
    | int i => cases e; cases r.int; exact .base (.int _)
    | str x => cases e; cases r.str.1; exact .base (.str _)
    | list xs =>
      cases e
      obtain ⟨a, vs, rfl, h1, _⟩ := r.list
      rcases h1 with h1 | ⟨o, h1⟩
      · exact .base (.lst h1)
      · exact .base (.frz h1)
    | tuple xs =>
      cases e
      obtain ⟨a, vs, rfl, h1, _⟩ := r.tup
      rcases h1 with (h1 | ⟨o, h1⟩) | ⟨o, its, n, hk, hc, _⟩
      · exact .base (.tup h1)
      · exact .fTuple h1
      · exact .kTuple hk hc
    | dict kvs => cases e
theorem k_isi (hK : M.K = X.K) {T : Str} {t : String} {p1 p2 pos : Pos} {a : Expr} {fa : EvF D} (ha : PE X a (kE M .b W fa)) (hT : T = Str.ofString t) (ht : t ∈ tys) (hg : Gl X "isinstance") (hm : X.mg "isinstance" = none) (hgT : Gl X T) (hmT : X.mg T = none) (hv : bootBuiltins T = some (.type t))
    (hnT : T ≠ "__name__") (hdT : (T == ("__debug__" : Str)) = false) (he : starEach [a, .Name T p2] X.env = (false, eval a X.env) :: starEach [.Name T p2] X.env) :
    PE X (.Call (.Name "isinstance" p1) [a, .Name T p2] [] pos) (kE M .n W (sem1 fa (isiD t))) := by
  have hb : bootBuiltins "isinstance" = some (.builtin "isinstance") := by decide +kernel
  refine PE.mono (pe_callB call_isi hg hm hb (pa_cons ha (pa_cons (pe_bltn (v := .ty t) hgT hmT hv rfl hnT hdT) pa_nil rfl) he) (by decide) (by decide) he rfl) fun σ H Q ⟨B, L, A, h, env, g, p⟩ => ?_
  refine tG_bind sm_M g p fun x h1 v H1 L1 e1 x1 g1 r1 p1 => ?_
  cases e : tyD x with
  | none => simp only [isiD, e] at p1; exact p1.elim
  | some ty =>
    simp only [isiD, e] at p1
    exact ⟨v, .ty t, .type ty, .type t, isTy t ty, rfl, .ty t, hK ▸ tyD_rel r1 e, kit_ty (kit_tab ty (tyD_mem e) t ht), p1.fin g1 (Same.refl _) (RelM.ofP (.bl _))⟩
end
end KF
set_option Elab.async false
set_option linter.all false
set_option maxRecDepth 100000
set_option maxHeartbeats 4000000
/-! KF, part 8: what a def promises; calls of defs. -/
namespace KF
open PySem PySem.Spec PyProof.Rows L2

/-- the world at a call, without a frame -/
abbrev Ent (M : MK) (B : Bs) (H : Hp) (L : List Addr) (h : MH) : Prop := Good M B H L [] h [] []
def PostF (M : MK) (B : Bs) (H : Hp) (L : List Addr) (Q : VK) (E : XK) : Out D → Prop
  | .ok d h' => ∀ v H' L', Ext H L H' L' → Ent M B H' L' h' → RelD M.K H' L' (Zf B L' []) d v → Q v H'
  | .exc c fs h' => ∀ cls dd H' L', Ext H L H' L' → Ent M B H' L' h' → XRel M B [] H' L' c fs cls dd → E cls dd H'
  | .bad => False
/-- the promise of a def of n parameters that is worth f -/
def spF (M : MK) (n : Nat) (f : List D → MH → Out D) : Sp := fun vs H Q E =>
  ∃ (B : Bs) (L : List Addr) (h : MH) (ds : List D), vs.length = n ∧ B.H0 = H ∧ B.L0 = L ∧ Ent M B H L h ∧ RelDs M.K H L (Zf B L []) ds vs ∧ PostF M B H L Q E (f ds h)

section
variable {M : MK} {B : Bs} {A : List (Option Addr)} {H H' : Hp} {L L' : List Addr} {h h' : MH} {env : KF.Env} {σ : L2.St}
theorem MOk.zed {Z Z' : Addr → Prop} {a : Addr} {o : MO} (m : MOk M H L Z a o) (z : ∀ b, Z' b → Z b) : MOk M H L Z' a o := by
  have s : Stay H Z H Z' := ⟨fun _ _ h _ => h, fun _ _ h => h, fun _ _ _ h => h, fun a _ _ q => z a q⟩
  have := m.stay (N := []) s rfl
  rw [List.append_nil] at this
  exact this
theorem RelDs.weak {K : PySem.W.Frag} {Z Z' : Addr → Prop} {ds : List D} {vs : List V} (r : RelDs K H L Z ds vs) (z : ∀ a, Z' a → Z a) : RelDs K H L Z' ds vs := by
  induction r with
  | nil => exact .nil
  | cons r _ ih => exact .cons (r.weak z) ih
theorem XRel.weak {B' : Bs} {A' : List (Option Addr)} {c : Nat} {fs : List D} {cls : Value} {dd : Option Addr} (r : XRel M B A H L c fs cls dd) (z : ∀ a, Zf B' L A' a → Zf B L A a) : XRel M B' A' H L c fs cls dd := by
  cases r with
  | bare => exact .bare _
  | fld h1 h2 h3 h4 => exact .fld h1 h2 (fun q => h3 (z _ q)) (h4.weak z)
/-- the callee's anchor -/
def Bs.sub (B : Bs) (A : List (Option Addr)) (H : Hp) (L : List Addr) : Bs := ⟨H, L, fun a => B.S a ∨ some a ∈ A⟩
theorem zf_sub {a : Addr} : Zf (B.sub A H L) L' [] a ↔ Zf B L' A a := by
  constructor
  · rintro (z | z | z)
    · exact .inl z
    · exact .inr z
    · cases z
  · rintro (z | z | z)
    · exact .inl z
    · exact .inr (.inl (.inl z))
    · exact .inr (.inl (.inr z))
theorem Good.enter (g : Good M B H L A h env σ) : Ent M (B.sub A H L) H L h := by
  refine ⟨g.len, g.nd, fun n o a e1 e2 => (g.obj n o a e1 e2).zed fun b z => zf_sub.mp z, fun a ha z => ?_, ⟨[], by simp [Bs.sub]⟩, fun a o e _ => e, fun a xs e => e, fun a o u e => e, fun a o e => ⟨o, e⟩, fun a z => ?_, rfl, rfl, fun i a e => by simp at e, fun i j a e => by simp at e, fun i sl e => by simp at e⟩
  · rcases z with z | z
    · exact g.ls a ha z
    · obtain ⟨i, hi⟩ := List.getElem?_of_mem z
      exact (g.own i a hi).1 ha
  · rcases z with z | z
    · exact g.sdom a z
    · obtain ⟨i, hi⟩ := List.getElem?_of_mem z
      obtain ⟨vs, e⟩ := g.ownThere hi
      exact ⟨_, e⟩
theorem Good.back (g : Good M B H L A h env σ) (x : Ext H L H' L') (e : Ent M (B.sub A H L) H' L' h') : Good M B H' L' A h' env σ := by
  obtain ⟨N, eN, nN⟩ := id x.pre
  obtain ⟨N0, e0, n0⟩ := g.lpre
  have notL : ∀ a o, B.H0 a = some o → a ∉ B.L0 → a ∉ L := fun a o q hl hm => by
    rw [e0] at hm
    rcases List.mem_append.mp hm with z | z
    · exact hl z
    · rw [n0 a z] at q; cases q
  refine ⟨e.len, e.nd, fun n o a e1 e2 => (e.obj n o a e1 e2).zed fun b z => zf_sub.mpr z, fun a ha z => ?_, ⟨N0 ++ N, by rw [eN, e0, List.append_assoc], fun a ha => ?_⟩, fun a o q hl => x.keep a o (g.base a o q hl) (notL a o q hl), fun a xs q => x.tups a xs (g.btup a xs q), fun a o u q => x.frzs a o u (g.bfrz a o u q),
    fun a o q => ?_, fun a z => ?_, g.alen, g.slen, fun i a q => ⟨fun hm => ?_, (g.own i a q).2⟩, g.odis, fun i sl q => (g.slot i sl q).stay x fun a vs q1 q2 => x.keep a _ q2 (g.own i a q1).1⟩
  · exact e.ls a ha (.inl z)
  · rcases List.mem_append.mp ha with q | q
    · exact n0 a q
    · exact g.free0 (nN a q)
  · obtain ⟨o', q'⟩ := g.dom a o q
    exact x.dom a o' q'
  · obtain ⟨o', q'⟩ := g.sdom a z
    exact x.dom a o' q'
  · rw [eN] at hm
    rcases List.mem_append.mp hm with z | z
    · exact (g.own i a q).1 z
    · obtain ⟨vs, q2⟩ := g.ownThere q
      rw [nN a z] at q2; cases q2
end

section
variable {X : Cx} {M : MK} {W : WX}
def semF (fc : List D → MH → Out D) (f : EvF (List D)) : EvF D := fun env h => (f env h).bind fun ds h1 => fc ds h1
theorem call_core {n : Nat} {fc : List D → MH → Out D} {f : EvF (List D)} {σ : L2.St} {H : Hp} {Q : VK} (hn : ∀ ds h, fc ds h ≠ .bad → ds.length = n) (q : kE M .n W (semF fc f) σ H Q) : tCallS (spF M n fc) (WE W) (kA M .n W f) σ H Q := by
  obtain ⟨B, L, A, h, env, g, p⟩ := q
  refine tG_bind sm_M g p fun ds h1 vs H1 L1 e1 x1 g1 r1 p1 => ?_
  have nb : fc ds h1 ≠ .bad := fun z => by rw [z] at p1; exact p1
  refine ⟨B.sub A H1 L1, L1, h1, ds, by rw [← r1.length]; exact hn ds h1 nb, rfl, rfl, g1.enter, r1.ds.weak fun a z => zf_sub.mp z, ?_⟩
  cases e : fc ds h1 with
  | ok d h2 =>
    rw [e] at p1
    exact fun v H' L' x en r => p1 v H' L' x (g1.back x en) (r.weak fun a z => zf_sub.mpr z)
  | exc c fs h2 =>
    rw [e] at p1
    exact fun cls dd H' L' x en r => p1 cls dd H' L' x (g1.back x en) (r.weak fun a z => zf_sub.mpr z)
  | bad => rw [e] at p1; exact p1
theorem k_call {k : Nat} {fa : Addr} {fd : FuncData} {ps : List Str} {n : Nat} {fc : List D → MH → Out D} {x : Str} {np pos : Pos} {e : Expr} {es : List Expr} {f : EvF (List D)}
    (F : FnOk X.prog X.w X.K X.mg X.base (L2.CX X.prog X.w) k fa fd ps (spF M n fc)) (hr : Room k X.A) (hg : Gl X x) (hm : X.mg x = some (.ref fa)) (hk : PySem.W.keepIn X.K (.ref fa) = true) (hb : Binds X.K fd ps []) (tk : Takes X W) (hn : ∀ ds h, fc ds h ≠ .bad → ds.length = n)
    (ha : PA X (e :: es) (kA M .n W f)) (hdb : (x == ("__debug__" : Str)) = false) (he : starEach (e :: es) X.env = (false, eval e X.env) :: starEach es X.env) (hpl : (backTo pos (starEach es X.env)).any (·.1) = false) :
    PE X (.Call (.Name x np) (e :: es) [] pos) (kE M .n W (semF fc f)) := PE.mono (pe_callS F hr hg hm hk hb (passAt tk) ha hdb he hpl) fun _ _ _ q => call_core hn q
end

/-! ### statements -/
inductive OutS where
  | nx (env : KF.Env) (h : MH)
  | rt (d : D) (h : MH)
  | exc (c : Nat) (fs : List D) (env : KF.Env) (h : MH)
  | bad
abbrev EvS := KF.Env → MH → OutS
def PostS (M : MK) (B : Bs) (W : WX) (De : Ends) : OutS → Prop
  | .nx env' h' => ∀ σ' H' L' A', Good M B H' L' A' h' env' σ' → De.nx σ' H'
  | .rt d h' => ∀ v H' L' A' env' σ', Good M B H' L' A' h' env' σ' → RelD M.K H' L' (Zf B L' []) d v → De.rt v H'
  | .exc c fs env' h' => ∀ cls dd σ' H' L' A', Good M B H' L' A' h' env' σ' → XRel M B A' H' L' c fs cls dd → W cls dd σ' H'
  | .bad => False
def kS (M : MK) (W : WX) (f : EvS) : TS := fun De σ H => ∃ B L A h env, Good M B H L A h env σ ∧ PostS M B W De (f env h)
/-- from an expression on -/
def Out.toS {α : Type} (o : Out α) (env : KF.Env) (k : α → MH → OutS) : OutS := match o with
  | .ok a h => k a h
  | .exc c fs h => .exc c fs env h
  | .bad => .bad
section
variable {M : MK} {W : WX}
theorem tG_toS {α β : Type} {R : RT α β} {B : Bs} {A : List (Option Addr)} {H : Hp} {L : List Addr} {h : MH} {env : KF.Env} {σ : L2.St} {f : EvF α} {k : α → MH → OutS} {De : Ends} {T : β → Hp → Prop} (g : Good M B H L A h env σ) (p : PostS M B W De ((f env h).toS env k))
    (hk : ∀ a h1 b H1 L1, f env h = .ok a h1 → Ext H L H1 L1 → Good M B H1 L1 A h1 env σ → R B A H H1 L1 a b → PostS M B W De (k a h1) → T b H1) : tG M R W f σ H T := by
  refine ⟨B, L, A, h, env, g, ?_⟩
  cases e : f env h with
  | ok a h1 => rw [e] at p; exact fun b H' L' x g' r => hk a h1 b H' L' e x g' r p
  | exc c fs h1 => rw [e] at p; exact fun cls dd H' L' x g' r => p cls dd σ H' L' A g' r
  | bad => rw [e] at p; exact p
end
end KF
set_option Elab.async false
set_option linter.all false
set_option maxRecDepth 100000
set_option maxHeartbeats 4000000
/-! KF, part 9: statements. -/
namespace KF
open PySem PySem.Spec PyProof.Rows L2
section
variable {M : MK} {B : Bs} {A : List (Option Addr)} {H H' : Hp} {L L' : List Addr} {h h' : MH} {env : KF.Env} {σ : L2.St}
/-! ### stores to slots -/
theorem mem_set_none {A : List (Option Addr)} {i : Nat} {a : Addr} (m : some a ∈ A.set i none) : some a ∈ A := by
  rcases List.mem_or_eq_of_mem_set m with q | q
  · exact q
  · cases q
theorem zf_none {i : Nat} {b : Addr} (z : Zf B L (A.set i none) b) : Zf B L A b := by
  rcases z with z | z | z
  · exact .inl z
  · exact .inr (.inl z)
  · exact .inr (.inr (mem_set_none z))
theorem SOk.zed {A' : List (Option Addr)} {σ' : L2.St} {i : Nat} {sl : Sl} (s : SOk M B H L A σ i sl) (ea : A'[i]? = A[i]?) (es : σ'[i]? = σ[i]?) (z : ∀ b, Zf B L A' b → Zf B L A b) : SOk M B H L A' σ' i sl := by
  cases s with
  | u q => exact .u (ea.trans q)
  | v q1 q2 q3 => exact .v (ea.trans q1) (es.trans q2) (q3.weak z)
  | o q1 q2 q3 q4 => exact .o (ea.trans q1) (es.trans q2) q3 (q4.weak z)
  | x q1 q2 q3 q4 => exact .x (ea.trans q1) (es.trans q2) q3 (q4.weak z)
/-- a value into a slot -/
theorem Good.setV (g : Good M B H L A h env σ) {d : D} {v : V} {i : Nat} (r : RelD M.K H L (Zf B L A) d v) (hi : i < env.length) : Good M B H L (A.set i none) h (env.set i (.v d)) (σ.set i (some v)) := by
  have hA : i < A.length := by rw [g.alen]; exact hi
  have hS : i < σ.length := by rw [g.slen]; exact hi
  refine ⟨g.len, g.nd, fun n o a e1 e2 => (g.obj n o a e1 e2).zed fun b z => zf_none z, g.ls, g.lpre, g.base, g.btup, g.bfrz, g.dom, g.sdom, by simp [g.alen], by simp [g.slen], fun j a e => ?_, fun j k a e1 e2 => ?_, fun j sl e => ?_⟩
  · by_cases hj : j = i
    · subst hj; rw [List.getElem?_set_self hA] at e; cases e
    · rw [List.getElem?_set_ne (Ne.symm hj)] at e; exact g.own j a e
  · by_cases hj : j = i
    · subst hj; rw [List.getElem?_set_self hA] at e1; cases e1
    · by_cases hk : k = i
      · subst hk; rw [List.getElem?_set_self hA] at e2; cases e2
      · rw [List.getElem?_set_ne (Ne.symm hj)] at e1
        rw [List.getElem?_set_ne (Ne.symm hk)] at e2
        exact g.odis j k a e1 e2
  · by_cases hj : j = i
    · subst hj
      rw [List.getElem?_set_self hi] at e; cases e
      exact .v (List.getElem?_set_self hA) (List.getElem?_set_self hS) (r.weak fun b z => zf_none z)
    · rw [List.getElem?_set_ne (Ne.symm hj)] at e
      exact (g.slot j sl e).zed (List.getElem?_set_ne (Ne.symm hj)) (List.getElem?_set_ne (Ne.symm hj)) fun b z => zf_none z
/-- a new list into a slot, to be the frame's own -/
theorem Good.setNew (g : Good M B H L A h env σ) {p : Addr} {ps : List PyData} {vs : List V} {i : Nat} (n : H p = none) (r : RelPs M.K H (Zf B L A) ps vs) (hi : i < env.length) :
    Good M B (upd H p (.lst vs)) L (A.set i (some p)) h (env.set i (.o ps)) (σ.set i (some (.ref p))) := by
  have hA : i < A.length := by rw [g.alen]; exact hi
  have hS : i < σ.length := by rw [g.slen]; exact hi
  have sm : Same H (upd H p (.lst vs)) := same_upd n
  have zz : ∀ b o, H b = some o → Zf B L (A.set i (some p)) b → Zf B L A b := fun b o hb z => by
    rcases z with z | z | z
    · exact .inl z
    · exact .inr (.inl z)
    · rcases List.mem_or_eq_of_mem_set z with q | q
      · exact .inr (.inr q)
      · cases q; rw [n] at hb; cases hb
  have st : Stay H (Zf B L A) (upd H p (.lst vs)) (Zf B L (A.set i (some p))) := ⟨fun a o e _ => sm a o e, fun a xs e => sm a _ e, fun a o u e => sm a _ e, zz⟩
  refine ⟨g.len, g.nd, fun m o a e1 e2 => ?_, g.ls, g.lpre, fun a o e hl => sm a o (g.base a o e hl), fun a xs e => sm a _ (g.btup a xs e), fun a o u e => sm a _ (g.bfrz a o u e), fun a o e => ?_, fun a e => ?_, by simp [g.alen], by simp [g.slen], fun j a e => ?_, fun j k a e1 e2 => ?_, fun j sl e => ?_⟩
  · have q := g.obj m o a e1 e2
    obtain ⟨u, hu⟩ := q.there
    have := q.stay (N := []) st ((sm _ _ hu).trans hu.symm)
    rw [List.append_nil] at this
    exact this
  · obtain ⟨o', e'⟩ := g.dom a o e; exact ⟨o', sm _ _ e'⟩
  · obtain ⟨o', e'⟩ := g.sdom a e; exact ⟨o', sm _ _ e'⟩
  · by_cases hj : j = i
    · subst hj; rw [List.getElem?_set_self hA] at e; cases e
      refine ⟨fun hm => ?_, fun z => ?_, g.free0 n⟩
      · obtain ⟨o, e⟩ := g.there hm; rw [n] at e; cases e
      · obtain ⟨o, e⟩ := g.sdom _ z; rw [n] at e; cases e
    · rw [List.getElem?_set_ne (Ne.symm hj)] at e; exact g.own j a e
  · have key : ∀ j, A[j]? = some (some p) → False := fun j q => by
      obtain ⟨us, e⟩ := g.ownThere q; rw [n] at e; cases e
    by_cases hj : j = i
    · subst hj
      rw [List.getElem?_set_self hA] at e1; cases e1
      by_cases hk : k = j
      · exact hk.symm
      · rw [List.getElem?_set_ne (Ne.symm hk)] at e2; exact (key k e2).elim
    · rw [List.getElem?_set_ne (Ne.symm hj)] at e1
      by_cases hk : k = i
      · subst hk
        rw [List.getElem?_set_self hA] at e2; cases e2
        exact (key j e1).elim
      · rw [List.getElem?_set_ne (Ne.symm hk)] at e2
        exact g.odis j k a e1 e2
  · by_cases hj : j = i
    · subst hj
      rw [List.getElem?_set_self hi] at e; cases e
      exact .o (List.getElem?_set_self hA) (List.getElem?_set_self hS) upd_same (r.stay st)
    · rw [List.getElem?_set_ne (Ne.symm hj)] at e
      have q := g.slot j sl e
      cases q with
      | u q => exact .u ((List.getElem?_set_ne (Ne.symm hj)).trans q)
      | v q1 q2 q3 =>
        have := q3.stay (M := []) st
        rw [List.append_nil] at this
        exact .v ((List.getElem?_set_ne (Ne.symm hj)).trans q1) ((List.getElem?_set_ne (Ne.symm hj)).trans q2) this
      | o q1 q2 q3 q4 => exact .o ((List.getElem?_set_ne (Ne.symm hj)).trans q1) ((List.getElem?_set_ne (Ne.symm hj)).trans q2) (sm _ _ q3) (q4.stay st)
      | x q1 q2 q3 q4 => exact .x ((List.getElem?_set_ne (Ne.symm hj)).trans q1) ((List.getElem?_set_ne (Ne.symm hj)).trans q2) q3 (XRelZ.st st q4)
/-- the frame's own list gets other items -/
theorem Good.setOwn (g : Good M B H L A h env σ) {a : Addr} {ps : List PyData} {vs us : List V} {i : Nat} (ea : A[i]? = some (some a)) (eH : H a = some (.lst us)) (eS : σ[i]? = some (some (.ref a))) (r : RelPs M.K H (Zf B L A) ps vs) :
    Good M B (upd H a (.lst vs)) L A h (env.set i (.o ps)) σ := by
  have hA : i < A.length := (List.getElem?_eq_some_iff.mp ea).1
  have hi : i < env.length := by rw [← g.alen]; exact hA
  have za : Zf B L A a := .inr (.inr (List.mem_of_getElem? ea))
  obtain ⟨nL, nS, n0⟩ := g.own i a ea
  have ne : ∀ b o, H b = some o → b ≠ a → (upd H a (.lst vs)) b = some o := fun b o e q => by rw [upd_ne q]; exact e
  have tne : ∀ b xs, H b = some (.tup xs) → b ≠ a := fun b xs e q => by subst q; rw [eH] at e; cases e
  have fne : ∀ b o u, H b = some (.frz o u) → b ≠ a := fun b o u e q => by subst q; rw [eH] at e; cases e
  have st : Stay H (Zf B L A) (upd H a (.lst vs)) (Zf B L A) := ⟨fun b o e z => ne b o e fun q => z (q ▸ za), fun b xs e => ne b _ e (tne b xs e), fun b o u e => ne b _ e (fne b o u e), fun b o _ z => z⟩
  have dm : ∀ b o, H b = some o → ∃ o', (upd H a (.lst vs)) b = some o' := fun b o e => by
    by_cases q : b = a
    · subst q; exact ⟨_, upd_same⟩
    · exact ⟨o, ne b o e q⟩
  have bne : ∀ b o, B.H0 b = some o → b ≠ a := fun b o e q => by subst q; rw [n0] at e; cases e
  refine ⟨g.len, g.nd, fun m o b e1 e2 => ?_, g.ls, g.lpre, fun b o e hl => ne _ _ (g.base b o e hl) (bne b o e), fun b xs e => ne _ _ (g.btup b xs e) (bne b _ e), fun b o u e => ne _ _ (g.bfrz b o u e) (bne b _ e), fun b o e => ?_, fun b e => ?_, by simp [g.alen], by simp [g.slen], g.own, g.odis, fun j sl e => ?_⟩
  · have q := g.obj m o b e1 e2
    have hb : b ≠ a := fun z => nL (z ▸ List.mem_of_getElem? e2)
    have := q.stay (N := []) st (upd_ne hb)
    rw [List.append_nil] at this
    exact this
  · obtain ⟨o', e'⟩ := g.dom b o e; exact dm _ _ e'
  · obtain ⟨o', e'⟩ := g.sdom b e; exact dm _ _ e'
  · by_cases hj : j = i
    · subst hj
      rw [List.getElem?_set_self hi] at e; cases e
      exact .o ea eS upd_same (r.stay st)
    · rw [List.getElem?_set_ne (Ne.symm hj)] at e
      have q := g.slot j sl e
      cases q with
      | u q => exact .u q
      | v q1 q2 q3 =>
        have := q3.stay (M := []) st
        rw [List.append_nil] at this
        exact .v q1 q2 this
      | o q1 q2 q3 q4 => exact .o q1 q2 (ne _ _ q3 fun z => hj (g.odis j i a (z ▸ q1) ea)) (q4.stay st)
      | x q1 q2 q3 q4 => exact .x q1 q2 q3 (XRelZ.st st q4)
/-- the frame's own list is given away -/
theorem Good.freeze (g : Good M B H L A h env σ) {ps : List PyData} {i : Nat} (e : env[i]? = some (.o ps)) : Good M B H L (A.set i none) h (env.set i (.v (.py (.list ps)))) σ := by
  have hi : i < env.length := (List.getElem?_eq_some_iff.mp e).1
  have hA : i < A.length := by rw [g.alen]; exact hi
  cases g.slot i _ e with
  | @o _ a vs q1 q2 q3 q4 =>
    refine ⟨g.len, g.nd, fun n o a e1 e2 => (g.obj n o a e1 e2).zed fun b z => zf_none z, g.ls, g.lpre, g.base, g.btup, g.bfrz, g.dom, g.sdom, by simp [g.alen], by simp [g.slen], fun j a e => ?_, fun j k a e1 e2 => ?_, fun j sl e => ?_⟩
    · by_cases hj : j = i
      · subst hj; rw [List.getElem?_set_self hA] at e; cases e
      · rw [List.getElem?_set_ne (Ne.symm hj)] at e; exact g.own j a e
    · by_cases hj : j = i
      · subst hj; rw [List.getElem?_set_self hA] at e1; cases e1
      · by_cases hk : k = i
        · subst hk; rw [List.getElem?_set_self hA] at e2; cases e2
        · rw [List.getElem?_set_ne (Ne.symm hj)] at e1
          rw [List.getElem?_set_ne (Ne.symm hk)] at e2
          exact g.odis j k a e1 e2
    · by_cases hj : j = i
      · subst hj
        rw [List.getElem?_set_self hi] at e; cases e
        refine .v (List.getElem?_set_self hA) q2 (.py (.lst (.inl q3) ?_ (q4.weak fun b z => zf_none z)))
        obtain ⟨nL, nS, n0⟩ := g.own j a q1
        rintro (z | z | z)
        · exact nL z
        · exact nS z
        · obtain ⟨k, hk⟩ := List.getElem?_of_mem z
          by_cases hkj : k = j
          · subst hkj; rw [List.getElem?_set_self hA] at hk; cases hk
          · rw [List.getElem?_set_ne (Ne.symm hkj)] at hk
            exact hkj (g.odis k j a hk q1)
      · rw [List.getElem?_set_ne (Ne.symm hj)] at e
        exact (g.slot j sl e).zed (List.getElem?_set_ne (Ne.symm hj)) rfl fun b z => zf_none z
/-- what is handed back -/
theorem RelM.ret {d : D} {v : V} (g : Good M B H L A h env σ) {Hs : Hp} (r : RelM M .b B A Hs H L d v) : RelD M.K H L (Zf B L []) d v := by
  have z0 : ∀ b, Zf B L [] b → Zf B L A b := fun b z => by
    rcases z with z | z | z
    · exact .inl z
    · exact .inr (.inl z)
    · cases z
  rcases r with r | ⟨i, a, xs, vs, q1, rfl, rfl, q3, q4⟩
  · exact r.weak z0
  · obtain ⟨nL, nS, n0⟩ := g.own i a q1
    refine .py (.lst (.inl q3) ?_ (q4.weak z0))
    rintro (z | z | z)
    · exact nL z
    · exact nS z
    · cases z
/-- a place of the small heap changes -/
theorem Good.setL (g : Good M B H L A h env σ) {n : Nat} {a : Addr} {o : MO} {u u' : HO} (ea : L[n]? = some a) (eH : H a = some u) (nt : ∀ xs, u ≠ .tup xs) (nf : ∀ ob w, u ≠ .frz ob w)
    (m : MOk M (upd H a u') L (Zf B L A) a o) : Good M B (upd H a u') L A (h.set n o) env σ := by
  have hn : n < L.length := (List.getElem?_eq_some_iff.mp ea).1
  have hh : n < h.length := by rw [← g.len]; exact hn
  have aL : a ∈ L := List.mem_of_getElem? ea
  have za : Zf B L A a := .inl aL
  have ne : ∀ b o, H b = some o → b ≠ a → (upd H a u') b = some o := fun b o e q => by rw [upd_ne q]; exact e
  have tne : ∀ b xs, H b = some (.tup xs) → b ≠ a := fun b xs e q => by subst q; rw [eH] at e; exact nt xs (Option.some.inj e)
  have fne : ∀ b o w, H b = some (.frz o w) → b ≠ a := fun b o w e q => by subst q; rw [eH] at e; exact nf o w (Option.some.inj e)
  have st : Stay H (Zf B L A) (upd H a u') (Zf B L A) := ⟨fun b o e z => ne b o e fun q => z (q ▸ za), fun b xs e => ne b _ e (tne b xs e), fun b o w e => ne b _ e (fne b o w e), fun b o _ z => z⟩
  have dm : ∀ b o, H b = some o → ∃ o', (upd H a u') b = some o' := fun b o e => by
    by_cases q : b = a
    · subst q; exact ⟨_, upd_same⟩
    · exact ⟨o, ne b o e q⟩
  obtain ⟨N0, e0, n0⟩ := g.lpre
  refine ⟨by simp [g.len], g.nd, fun k o' b e1 e2 => ?_, g.ls, g.lpre, fun b o e hl => ?_, fun b xs e => ?_, fun b o w e => ?_, fun b o e => ?_, fun b e => ?_, g.alen, g.slen, g.own, g.odis, fun j sl e => ?_⟩
  · by_cases hk : k = n
    · subst hk
      rw [ea] at e2; cases e2
      rw [List.getElem?_set_self hh] at e1; cases e1
      exact m
    · rw [List.getElem?_set_ne (Ne.symm hk)] at e1
      have q := g.obj k o' b e1 e2
      have hb : b ≠ a := fun z => by
        subst z
        exact hk ((List.getElem?_inj (List.getElem?_eq_some_iff.mp e2).1 g.nd).mp (e2.trans ea.symm))
      have := q.stay (N := []) st (upd_ne hb)
      rw [List.append_nil] at this
      exact this
  · have hb : b ≠ a := fun z => by
      subst z
      rw [e0] at aL
      rcases List.mem_append.mp aL with q | q
      · exact hl q
      · rw [n0 _ q] at e; cases e
    exact ne _ _ (g.base b o e hl) hb
  · exact ne _ _ (g.btup b xs e) (tne b xs (g.btup b xs e))
  · exact ne _ _ (g.bfrz b o w e) (fne b o w (g.bfrz b o w e))
  · obtain ⟨o', e'⟩ := g.dom b o e; exact dm _ _ e'
  · obtain ⟨o', e'⟩ := g.sdom b e; exact dm _ _ e'
  · have q := g.slot j sl e
    cases q with
    | u q => exact .u q
    | v q1 q2 q3 =>
      have := q3.stay (M := []) st
      rw [List.append_nil] at this
      exact .v q1 q2 this
    | o q1 q2 q3 q4 => exact .o q1 q2 (ne _ _ q3 fun z => (g.own j _ q1).1 (z ▸ aL)) (q4.stay st)
    | x q1 q2 q3 q4 => exact .x q1 q2 q3 (XRelZ.st st q4)
/-- a new place -/
theorem Good.newL (g : Good M B H L A h env σ) {p : Addr} {o : MO} {u : HO} (n : H p = none) (m : ∀ Z, (∀ b o, H b = some o → Z b → Zf B L A b) → MOk M (upd H p u) (L ++ [p]) Z p o) : Good M B (upd H p u) (L ++ [p]) A (h ++ [o]) env σ := by
  have sm : Same H (upd H p u) := same_upd n
  have nz : p ∉ L := fun hm => by obtain ⟨o, e⟩ := g.there hm; rw [n] at e; cases e
  have zz : ∀ b o, H b = some o → Zf B (L ++ [p]) A b → Zf B L A b := fun b o hb z => by
    rcases z with z | z | z
    · rcases List.mem_append.mp z with q | q
      · exact .inl q
      · have : b = p := by simpa using q
        subst this; rw [n] at hb; cases hb
    · exact .inr (.inl z)
    · exact .inr (.inr z)
  have st : Stay H (Zf B L A) (upd H p u) (Zf B (L ++ [p]) A) := ⟨fun a o e _ => sm a o e, fun a xs e => sm a _ e, fun a o w e => sm a _ e, zz⟩
  obtain ⟨N0, e0, n0⟩ := g.lpre
  have nd : (L ++ [p]).Nodup := by
    refine List.nodup_append.mpr ⟨g.nd, by simp, fun a ha b hb e => ?_⟩
    have hb : b = p := by simpa using hb
    subst e hb
    exact nz ha
  refine ⟨by simp [g.len], nd, fun k o' b e1 e2 => ?_, fun a ha => ?_, ⟨N0 ++ [p], by rw [e0, List.append_assoc], fun a ha => ?_⟩, fun a o e hl => sm a o (g.base a o e hl), fun a xs e => sm a _ (g.btup a xs e), fun a o w e => sm a _ (g.bfrz a o w e), fun a o e => ?_, fun a e => ?_, g.alen, g.slen, fun j a e => ⟨fun hm => ?_, (g.own j a e).2⟩, g.odis, fun j sl e => ?_⟩
  · by_cases hk : k < L.length
    · rw [List.getElem?_append_left hk] at e2
      rw [List.getElem?_append_left (by rw [← g.len]; exact hk)] at e1
      have q := g.obj k o' b e1 e2
      obtain ⟨w, hw⟩ := q.there
      exact q.stay (N := [p]) st ((sm _ _ hw).trans hw.symm)
    · have hk2 : k = L.length := by
        have h1 := (List.getElem?_eq_some_iff.mp e2).1
        rw [List.length_append, List.length_singleton] at h1
        omega
      subst hk2
      rw [List.getElem?_append_right (Nat.le_refl _)] at e2
      rw [List.getElem?_append_right (by rw [g.len]; exact Nat.le_refl _)] at e1
      simp at e2
      simp [g.len] at e1
      subst e2 e1
      exact m _ zz
  · rcases List.mem_append.mp ha with q | q
    · exact g.ls a q
    · have : a = p := by simpa using q
      subst this
      intro z
      obtain ⟨o, e⟩ := g.sdom _ z; rw [n] at e; cases e
  · rcases List.mem_append.mp ha with q | q
    · exact n0 a q
    · have : a = p := by simpa using q
      subst this
      exact g.free0 n
  · obtain ⟨o', e'⟩ := g.dom a o e; exact ⟨o', sm _ _ e'⟩
  · obtain ⟨o', e'⟩ := g.sdom a e; exact ⟨o', sm _ _ e'⟩
  · rcases List.mem_append.mp hm with q | q
    · exact (g.own j a e).1 q
    · have : a = p := by simpa using q
      subst this
      obtain ⟨us, e'⟩ := g.ownThere e
      rw [n] at e'; cases e'
  · have q := g.slot j sl e
    cases q with
    | u q => exact .u q
    | v q1 q2 q3 => exact .v q1 q2 (q3.stay (M := [p]) st)
    | o q1 q2 q3 q4 => exact .o q1 q2 (sm _ _ q3) (q4.stay st)
    | x q1 q2 q3 q4 => exact .x q1 q2 q3 (XRelZ.stay (N := [p]) st q4)
/-! ### another anchor, for a loop -/
open Classical in
noncomputable def Bs.anc (B : Bs) (A : List (Option Addr)) (H : Hp) (L : List Addr) : Bs := ⟨fun a => if some a ∈ A then none else H a, L, B.S⟩
theorem anc_some {a : Addr} {o : HO} (e : (B.anc A H L).H0 a = some o) : some a ∉ A ∧ H a = some o := by
  unfold Bs.anc at e
  dsimp only at e
  split at e
  · cases e
  · rename_i q; exact ⟨q, e⟩
theorem anc_none {a : Addr} (e : (B.anc A H L).H0 a = none) : some a ∈ A ∨ H a = none := by
  unfold Bs.anc at e
  dsimp only at e
  split at e
  · rename_i q; exact .inl q
  · exact .inr e
theorem anc_of {a : Addr} {o : HO} (n : some a ∉ A) (e : H a = some o) : (B.anc A H L).H0 a = some o := by
  unfold Bs.anc
  dsimp only
  rw [if_neg n]; exact e
theorem zf_anc {A' : List (Option Addr)} : Zf (B.anc A H L) L' A' = Zf B L' A' := rfl
theorem Good.anchor (g : Good M B H L A h env σ) : Good M (B.anc A H L) H L A h env σ := by
  refine ⟨g.len, g.nd, g.obj, g.ls, ⟨[], by simp [Bs.anc]⟩, fun a o e _ => (anc_some e).2, fun a xs e => (anc_some e).2, fun a o u e => (anc_some e).2, fun a o e => ⟨o, (anc_some e).2⟩, g.sdom, g.alen, g.slen, fun i a e => ⟨(g.own i a e).1, (g.own i a e).2.1, ?_⟩, g.odis, fun i sl e => ?_⟩
  · cases q : (B.anc A H L).H0 a with
    | none => rfl
    | some o => exact absurd (List.mem_of_getElem? e) (anc_some q).1
  · cases g.slot i sl e with
    | u q => exact .u q
    | v q1 q2 q3 => exact .v q1 q2 q3
    | o q1 q2 q3 q4 => exact .o q1 q2 q3 q4
    | x q1 q2 q3 q4 => exact .x q1 q2 q3 q4
theorem Good.unanchor (g : Good M B H L A h env σ) {A' : List (Option Addr)} {env' : KF.Env} {σ' : L2.St} (g' : Good M (B.anc A H L) H' L' A' h' env' σ') : Good M B H' L' A' h' env' σ' := by
  obtain ⟨N0, e0, n0⟩ := g.lpre
  obtain ⟨N1, e1, n1⟩ := g'.lpre
  have e1 : L' = L ++ N1 := e1
  have nA : ∀ a o, B.H0 a = some o → some a ∉ A := fun a o e hm => by
    obtain ⟨i, hi⟩ := List.getElem?_of_mem hm
    rw [(g.own i a hi).2.2] at e; cases e
  have f0 : ∀ a, (B.anc A H L).H0 a = none → B.H0 a = none := fun a e => by
    rcases anc_none e with q | q
    · obtain ⟨i, hi⟩ := List.getElem?_of_mem q
      exact (g.own i a hi).2.2
    · exact g.free0 q
  refine ⟨g'.len, g'.nd, g'.obj, g'.ls, ⟨N0 ++ N1, by rw [e1, e0, List.append_assoc], fun a ha => ?_⟩, fun a o e hl => ?_, fun a xs e => g'.btup a xs (anc_of (nA a _ e) (g.btup a xs e)), fun a o u e => g'.bfrz a o u (anc_of (nA a _ e) (g.bfrz a o u e)), fun a o e => ?_, g'.sdom, g'.alen, g'.slen, fun i a e => ⟨(g'.own i a e).1, (g'.own i a e).2.1, f0 a (g'.own i a e).2.2⟩, g'.odis, fun i sl e => ?_⟩
  · rcases List.mem_append.mp ha with q | q
    · exact n0 a q
    · exact f0 a (n1 a q)
  · refine g'.base a o (anc_of (nA a o e) (g.base a o e hl)) fun hm => ?_
    have hm : a ∈ L := hm
    rw [e0] at hm
    rcases List.mem_append.mp hm with q | q
    · exact hl q
    · rw [n0 a q] at e; cases e
  · obtain ⟨o', e'⟩ := g.dom a o e
    exact g'.dom a o' (anc_of (nA a o e) e')
  · cases g'.slot i sl e with
    | u q => exact .u q
    | v q1 q2 q3 => exact .v q1 q2 q3
    | o q1 q2 q3 q4 => exact .o q1 q2 q3 q4
    | x q1 q2 q3 q4 => exact .x q1 q2 q3 q4
theorem PostS.anc {W : WX} {De : Ends} {o : OutS} (g : Good M B H L A h env σ) (p : PostS M B W De o) : PostS M (B.anc A H L) W De o := by
  cases o with
  | nx env' h' => exact fun σ' H' L' A' g' => p σ' H' L' A' (g.unanchor g')
  | rt d h' => exact fun v H' L' A' env' σ' g' r => p v H' L' A' env' σ' (g.unanchor g') r
  | exc c fs env' h' => exact fun cls dd σ' H' L' A' g' r => p cls dd σ' H' L' A' (g.unanchor g') (r.weak fun _ z => z)
  | bad => exact p
/-- what stood at the anchor stands -/
theorem Good.since (g' : Good M (B.anc A H L) H' L' A' h' env' σ') (g : Good M B H L A h env σ) : Stay H (Zf B L A) H' (Zf B L' A') := by
  obtain ⟨N1, e1, n1⟩ := g'.lpre
  have e1 : L' = L ++ N1 := e1
  refine ⟨fun a o e z => g'.base a o (anc_of (fun q => z (.inr (.inr q))) e) fun q => z (.inl q), fun a xs e => ?_, fun a o u e => ?_, fun a o e z => ?_⟩
  · refine g'.btup a xs (anc_of (fun q => ?_) e)
    obtain ⟨i, hi⟩ := List.getElem?_of_mem q
    obtain ⟨us, q2⟩ := g.ownThere hi
    rw [q2] at e; cases e
  · refine g'.bfrz a o u (anc_of (fun q => ?_) e)
    obtain ⟨i, hi⟩ := List.getElem?_of_mem q
    obtain ⟨us, q2⟩ := g.ownThere hi
    rw [q2] at e; cases e
  · by_cases q : some a ∈ A
    · exact .inr (.inr q)
    · have e0 := anc_of (B := B) (L := L) q e
      rcases z with z | z | z
      · rw [e1] at z
        rcases List.mem_append.mp z with y | y
        · exact .inl y
        · rw [n1 a y] at e0; cases e0
      · exact .inr (.inl z)
      · obtain ⟨i, hi⟩ := List.getElem?_of_mem z
        rw [(g'.own i a hi).2.2] at e0; cases e0
end
end KF
set_option Elab.async false
set_option linter.all false
set_option maxRecDepth 100000
set_option maxHeartbeats 4000000
/-! KF, part 10: statements, by what they do. -/
namespace KF
open PySem PySem.Spec PyProof.Rows L2
section
variable {X : Cx} {M : MK} {W : WX}
/-! ### blocks -/
def OutS.thn (o : OutS) (k : EvS) : OutS := match o with
  | .nx env h => k env h
  | o => o
def semSeq (f g : EvS) : EvS := fun env h => (f env h).thn g
def semSkip : EvS := fun env h => .nx env h
theorem s_nil : PSs X [] (kS M W semSkip) := PSs.mono pss_nil fun De σ H ⟨B, L, A, h, env, g, p⟩ => p σ H L A g
theorem kS_nx {B : Bs} {A : List (Option Addr)} {H : Hp} {L : List Addr} {h : MH} {env : KF.Env} {σ : L2.St} {f g : EvS} {De : Ends} (gd : Good M B H L A h env σ) (p : PostS M B W De (semSeq f g env h)) : kS M W f { De with nx := kS M W g De } σ H := by
  refine ⟨B, L, A, h, env, gd, ?_⟩
  unfold semSeq at p
  cases e : f env h with
  | nx env' h' => rw [e] at p; exact fun σ' H' L' A' g' => ⟨B, L', A', h', env', g', p⟩
  | rt d h' => rw [e] at p; exact p
  | exc c fs env' h' => rw [e] at p; exact p
  | bad => rw [e] at p; exact p
theorem s_cons {st : Stmt} {rest : List Stmt} {f g : EvS} (h1 : PS X st (kS M W f)) (h2 : PSs X rest (kS M W g)) : PSs X (st :: rest) (kS M W (semSeq f g)) :=
  PSs.mono (pss_cons h1 h2) fun De σ H ⟨B, L, A, h, env, gd, p⟩ => kS_nx gd p
/-- a list of the frame's own is given away: nothing runs -/
def frzE (i : Nat) (env : KF.Env) : Option KF.Env := match env[i]? with
  | some (.o xs) => some (env.set i (.v (.py (.list xs))))
  | some (.v _) => some env
  | _ => none
def semFrz (i : Nat) : EvS := fun env h => match frzE i env with
  | some env' => .nx env' h
  | none => .bad
theorem s_frz {i : Nat} {sts : List Stmt} {f : EvS} (p : PSs X sts (kS M W f)) : PSs X sts (kS M W (semSeq (semFrz i) f)) := by
  refine PSs.mono p fun De σ H ⟨B, L, A, h, env, g, q⟩ => ?_
  unfold semSeq semFrz frzE at q
  cases e : env[i]? with
  | none => rw [e] at q; exact q.elim
  | some sl =>
    rw [e] at q
    cases sl with
    | u => exact q.elim
    | x _ _ => exact q.elim
    | v d => exact ⟨B, L, A, h, env, g, q⟩
    | o xs => exact ⟨B, L, A.set i none, h, _, g.freeze e, q⟩

/-! ### small statements -/
theorem s_pass {pos : Pos} : PS X (.Pass pos) (kS M W semSkip) := PS.mono ps_pass fun De σ H ⟨B, L, A, h, env, g, p⟩ => p σ H L A g
def semRet (fa : EvF D) : EvS := fun env h => (fa env h).toS env fun d h1 => .rt d h1
theorem s_ret {e : Expr} {fa : EvF D} {pos : Pos} (ha : PE X e (kE M .b W fa)) : PS X (.Return (some e) pos) (kS M W (semRet fa)) := by
  refine PS.mono (ps_ret ha) fun De σ H ⟨B, L, A, h, env, g, p⟩ => ?_
  exact tG_toS g p fun d h1 v H1 L1 e1 x1 g1 r1 p1 => p1 v H1 L1 A env σ g1 (r1.ret g1)
def semExp (fa : EvF D) : EvS := fun env h => (fa env h).toS env fun _ h1 => .nx env h1
theorem s_exp {e : Expr} {fa : EvF D} {pos : Pos} (ha : PE X e (kE M .b W fa)) (hs : swapsWith e none pos.line X.env = pure false) : PS X (.Expr e pos) (kS M W (semExp fa)) := by
  refine PS.mono (ps_expr ha hs) fun De σ H ⟨B, L, A, h, env, g, p⟩ => ?_
  exact tG_toS g p fun d h1 v H1 L1 e1 x1 g1 r1 p1 => p1 σ H1 L1 A g1
def semIfS (ft : EvF Bool) (f g : EvS) : EvS := fun env h => (ft env h).toS env fun b h1 => if b = true then f env h1 else g env h1
theorem s_if {t : Expr} {a b : List Stmt} {ft : EvF Bool} {f g : EvS} {pos : Pos} (ht : PT X t (kT M W ft)) (ha : PSs X a (kS M W f)) (hb : PSs X b (kS M W g)) : PS X (.If t a b pos) (kS M W (semIfS ft f g)) := by
  refine PS.mono (ps_if ht ha hb) fun De σ H ⟨B, L, A, h, env, gd, p⟩ => ?_
  refine tG_toS gd p fun x h1 v H1 L1 e1 x1 g1 r1 p1 => ?_
  cases (show x = v from r1)
  cases x with
  | true => exact ⟨B, L1, A, h1, env, g1, p1⟩
  | false => exact ⟨B, L1, A, h1, env, g1, p1⟩
def semNever : EvS := fun _ _ => .bad
theorem s_never {st : Stmt} : PS X st (kS M W semNever) := PS.mono ps_never fun De σ H ⟨B, L, A, h, env, g, p⟩ => p

/-! ### targets -/
abbrev TgF := D → KF.Env → Option KF.Env
abbrev TgFs := List PyData → KF.Env → Option KF.Env
/-- the slots ts were stored to -/
structure Ups (ts : List Nat) (σ : L2.St) (A : List (Option Addr)) (σ' : L2.St) (A' : List (Option Addr)) : Prop where
  sl : σ'.length = σ.length
  al : A'.length = A.length
  out : ∀ i, i ∉ ts → σ'[i]? = σ[i]? ∧ A'[i]? = A[i]?
  ins : ∀ i, i ∈ ts → i < A.length → A'[i]? = some none
theorem Ups.refl {σ : L2.St} {A : List (Option Addr)} : Ups [] σ A σ A := ⟨rfl, rfl, fun _ _ => ⟨rfl, rfl⟩, fun _ h => by cases h⟩
theorem Ups.trans {t1 t2 : List Nat} {σ σ1 σ2 : L2.St} {A A1 A2 : List (Option Addr)} (a : Ups t1 σ A σ1 A1) (b : Ups t2 σ1 A1 σ2 A2) : Ups (t1 ++ t2) σ A σ2 A2 := by
  refine ⟨b.sl.trans a.sl, b.al.trans a.al, fun i hi => ?_, fun i hi hl => ?_⟩
  · have h1 : i ∉ t1 := fun z => hi (List.mem_append_left _ z)
    have h2 : i ∉ t2 := fun z => hi (List.mem_append_right _ z)
    exact ⟨(b.out i h2).1.trans (a.out i h1).1, (b.out i h2).2.trans (a.out i h1).2⟩
  · by_cases h2 : i ∈ t2
    · exact b.ins i h2 (by rw [a.al]; exact hl)
    · rw [(b.out i h2).2]
      rcases List.mem_append.mp hi with z | z
      · exact a.ins i z hl
      · exact absurd z h2
theorem Ups.zf {B : Bs} {L : List Addr} {ts : List Nat} {σ σ' : L2.St} {A A' : List (Option Addr)} (u : Ups ts σ A σ' A') {b : Addr} (z : Zf B L A' b) : Zf B L A b := by
  rcases z with z | z | z
  · exact .inl z
  · exact .inr (.inl z)
  · obtain ⟨i, hi⟩ := List.getElem?_of_mem z
    by_cases h : i ∈ ts
    · have hl : i < A.length := by rw [← u.al]; exact (List.getElem?_eq_some_iff.mp hi).1
      rw [u.ins i h hl] at hi; cases hi
    · rw [(u.out i h).2] at hi
      exact .inr (.inr (List.mem_of_getElem? hi))
def kG (M : MK) (ts : List Nat) (g : TgF) : TG := fun v σ H Q => ∃ B L A h env d, Good M B H L A h env σ ∧ RelD M.K H L (Zf B L A) d v ∧ ∃ env', g d env = some env' ∧ ∀ σ' A', Ups ts σ A σ' A' → Good M B H L A' h env' σ' → Q σ' H
def kGs (M : MK) (ts : List Nat) (g : TgFs) : TGs := fun vs σ H Q => ∃ B L A h env ds, Good M B H L A h env σ ∧ RelPs M.K H (Zf B L A) ds vs ∧ ∃ env', g ds env = some env' ∧ ∀ σ' A', Ups ts σ A σ' A' → Good M B H L A' h env' σ' → Q σ' H
theorem PG.mono {e : Expr} {t t' : TG} (h : PG X e t) (i : ∀ v σ H Q, t' v σ H Q → t v σ H Q) : PG X e t' := ⟨fun pins s σ H v u Q I r q => h.run pins s σ H v u Q I r (i v σ H Q q)⟩
theorem PGs.mono {es : List Expr} {t t' : TGs} (h : PGs X es t) (i : ∀ v σ H Q, t' v σ H Q → t v σ H Q) : PGs X es t' := ⟨fun pins s σ H v u Q I r q => h.run pins s σ H v u Q I r (i v σ H Q q)⟩
def tgName (i : Nat) : TgF := fun d env => if i < env.length then some (env.set i (.v d)) else none
theorem g_name {i : Nat} {x : Str} {pos : Pos} (hN : X.N.Nodup) (hi : X.N[i]? = some x) (hx : Loc X.env.scope x) (hf : X.fn x = true ∨ X.env.scope.names.lookup x = some .local) : PG X (.Name x pos) (kG M [i] (tgName i)) := by
  refine PG.mono (pg_name hN hi hx hf) fun v σ H Q ⟨B, L, A, h, env, d, g, r, env', e, q⟩ => ?_
  unfold tgName at e
  split at e
  · rename_i hl
    cases e
    refine q _ _ ⟨by simp, by simp, fun j hj => ?_, fun j hj hA => ?_⟩ (g.setV r hl)
    · have hj : i ≠ j := fun z => hj (by simp [z])
      exact ⟨List.getElem?_set_ne hj, List.getElem?_set_ne hj⟩
    · have hj : j = i := by simpa using hj
      subst hj
      exact List.getElem?_set_self hA
  · cases e
def tgNil : TgFs := fun ds env => match ds with
  | [] => some env
  | _ => none
def tgCons (g : TgF) (gs : TgFs) : TgFs := fun ds env => match ds with
  | d :: r => (g (.py d) env).bind (gs r)
  | [] => none
theorem gs_nil : PGs X [] (kGs M [] tgNil) := by
  refine PGs.mono pgs_nil fun vs σ H Q ⟨B, L, A, h, env, ds, g, r, env', e, q⟩ => ?_
  unfold tgNil at e
  split at e
  · cases e; cases r; exact ⟨rfl, q σ A Ups.refl g⟩
  · cases e
theorem gs_cons {t1 t2 : List Nat} {e : Expr} {es : List Expr} {g : TgF} {gs : TgFs} (h1 : PG X e (kG M t1 g)) (h2 : PGs X es (kGs M t2 gs)) (hs : (assignEach (e :: es) X.env).map (·.2) = assign e X.env :: (assignEach es X.env).map (·.2)) : PGs X (e :: es) (kGs M (t1 ++ t2) (tgCons g gs)) := by
  refine PGs.mono (pgs_cons h1 h2 hs) fun vs σ H Q ⟨B, L, A, h, env, ds, gd, r, env', e1, q⟩ => ?_
  cases r with
  | nil => cases e1
  | @cons v vr d dr rd rr =>
    have e1 : (g (.py d) env).bind (gs dr) = some env' := e1
    cases e2 : g (.py d) env with
    | none => rw [e2] at e1; cases e1
    | some env1 =>
      rw [e2] at e1
      exact ⟨v, vr, rfl, B, L, A, h, env, .py d, gd, .py rd, env1, e2, fun σ1 A1 z1 g1 => ⟨B, L, A1, h, env1, dr, g1, rr.weak fun b z => z1.zf z, env', e1, fun σ2 A2 z2 g2 => q σ2 A2 (z1.trans z2) g2⟩⟩
def tgTup (n : Nat) (gs : TgFs) : TgF := fun d env => match d with
  | .py (.tuple ds) => if ds.length = n then gs ds env else none
  | _ => none
theorem g_tup (hK : M.K = X.K) {ts : List Nat} {es : List Expr} {k n : Nat} {gs : TgFs} {pos : Pos} (hc : X.calm = true) (h : PGs X es (kGs M ts gs)) (hn : (assignEach es X.env).length = n) (hst : (assignEach es X.env).findIdx? (·.1) = none) : PG X (.Tuple es k pos) (kG M ts (tgTup n gs)) := by
  refine PG.mono (pg_tup hc h hn hst) fun v σ H Q ⟨B, L, A, h, env, d, g, r, env', e, q⟩ => ?_
  unfold tgTup at e
  split at e
  · split at e
    · rename_i ds hl
      cases r with
      | py r =>
        cases r with
        | tup h1 h2 => exact ⟨_, _, rfl, hK ▸ h1, h2.length ▸ hl, B, L, A, _, env, ds, g, h2, env', e, q⟩
    · cases e
  · cases e
/-! ### assignments -/
def semAsg (fa : EvF D) (g : TgF) : EvS := fun env h => (fa env h).toS env fun d h1 => match g d env with
  | some env' => .nx env' h1
  | none => .bad
theorem asg_core {ts : List Nat} {fa : EvF D} {g : TgF} {De : Ends} {σ : L2.St} {H : Hp} (q : kS M W (semAsg fa g) De σ H) : tAsg (kE M .n W fa) (kG M ts g) De σ H := by
  obtain ⟨B, L, A, h, env, gd, p⟩ := q
  refine tG_toS gd p fun d h1 v H1 L1 e1 x1 g1 r1 p1 => ?_
  cases e : g d env with
  | none => rw [e] at p1; exact p1.elim
  | some env' => rw [e] at p1; exact ⟨B, L1, A, h1, env, d, g1, r1, env', e, fun σ' A' _ g' => p1 σ' H1 L1 A' g'⟩
theorem s_asg {ts : List Nat} {tg e : Expr} {fa : EvF D} {g : TgF} {pos : Pos} (ha : PE X e (kE M .n W fa)) (hg : PG X tg (kG M ts g)) (hs : swapsWithSole [tg] e pos.line X.env = pure false) (hw : swappedStores [tg] e X.env = pure none)
    (h1 : (assignEach [tg] X.env).map (·.2) = [assign tg X.env]) : PS X (.Assign [tg] e pos) (kS M W (semAsg fa g)) := PS.mono (ps_asg ha hg hs hw h1) fun _ _ _ q => asg_core q
theorem s_set {i : Nat} {x : Str} {e : Expr} {fa : EvF D} {p1 pos : Pos} (hN : X.N.Nodup) (hi : X.N[i]? = some x) (hx : Loc X.env.scope x) (hf : X.fn x = true ∨ X.env.scope.names.lookup x = some .local) (ha : PE X e (kE M .n W fa)) (hs : swapsWith e (some (.Name x p1)) pos.line X.env = pure false) :
    PS X (.Assign [.Name x p1] e pos) (kS M W (semAsg fa (tgName i))) := by
  refine PS.mono (ps_set hN hi hx ha hs hf) fun De σ H ⟨B, L, A, h, env, gd, p⟩ => ?_
  refine tG_toS gd p fun d h1 v H1 L1 e1 x1 g1 r1 p1 => ?_
  unfold tgName at p1
  by_cases hl : i < env.length
  · rw [if_pos hl] at p1; exact p1 _ _ _ _ (g1.setV r1 hl)
  · rw [if_neg hl] at p1; exact p1.elim
/-- name = a new list, the frame's own -/
def ownE (i : Nat) (d : D) (env : KF.Env) : Option KF.Env := match d with
  | .py (.list xs) => if i < env.length then some (env.set i (.o xs)) else none
  | _ => none
def semOwn (i : Nat) (fa : EvF D) : EvS := fun env h => (fa env h).toS env fun d h1 => match ownE i d env with
  | some env' => .nx env' h1
  | none => .bad
theorem own_core {i : Nat} {fa : EvF D} {De : Ends} {σ : L2.St} {H : Hp} (q : kS M W (semOwn i fa) De σ H) : tAsg (kF M W fa) (gName i) De σ H := by
  obtain ⟨B, L, A, h, env, gd, p⟩ := q
  refine ⟨B, L, A, h, env, gd, ?_⟩
  unfold semOwn at p
  cases e : fa env h with
  | ok d h1 =>
    rw [e] at p
    intro ps H1 L1 a vs ed x g1 n r
    subst ed
    have p : PostS M B W De (match ownE i (.py (.list ps)) env with
      | some env' => .nx env' h1
      | none => .bad) := p
    unfold ownE at p
    dsimp only at p
    by_cases hl : i < env.length
    · rw [if_pos hl] at p; exact p _ _ _ _ (g1.setNew n r hl)
    · rw [if_neg hl] at p; exact p.elim
  | exc c fs h1 => rw [e] at p; exact fun cls dd H' L' x g' r => p cls dd σ H' L' A g' r
  | bad => rw [e] at p; exact p
theorem s_own {i : Nat} {x : Str} {e : Expr} {fa : EvF D} {p1 pos : Pos} (hN : X.N.Nodup) (hi : X.N[i]? = some x) (hx : Loc X.env.scope x) (hf : X.fn x = true ∨ X.env.scope.names.lookup x = some .local) (ha : PE X e (kF M W fa)) (hs : swapsWith e (some (.Name x p1)) pos.line X.env = pure false) :
    PS X (.Assign [.Name x p1] e pos) (kS M W (semOwn i fa)) := PS.mono (ps_set hN hi hx ha hs hf) fun _ _ _ q => own_core q
/-- a, b = x, y with plain names -/
def semPar (i j : Nat) (fa : EvF (List D)) : EvS := fun env h => (fa env h).toS env fun ds h1 => match ds with
  | [d, e] => if i < env.length ∧ j < env.length then .nx ((env.set i (.v d)).set j (.v e)) h1 else .bad
  | _ => .bad
theorem s_par {i j : Nat} {x y : Str} {a b : Expr} {fa : EvF (List D)} {px py pt pos : Pos} {kt k2 : Nat} {pt2 : Pos} (hc : X.calm = true) (hN : X.N.Nodup) (hi : X.N[i]? = some x) (hj : X.N[j]? = some y) (hij : i ≠ j)
    (hx : X.env.scope.names.lookup x = some .local) (hy : X.env.scope.names.lookup y = some .local) (ha : PA X [a, b] (kA M .n W fa))
    (hw : swappedStores [.Tuple [.Name x px, .Name y py] kt pt] (.Tuple [a, b] k2 pt2) X.env = pure (some [x, y]))
    (hs : swapsWithSole [.Tuple [.Name x px, .Name y py] kt pt] (.Tuple [a, b] k2 pt2) pos.line X.env = pure false) :
    PS X (.Assign [.Tuple [.Name x px, .Name y py] kt pt] (.Tuple [a, b] k2 pt2) pos) (kS M W (semPar i j fa)) := by
  refine PS.mono (ps_par hc hN hi hj hij hx hy ha hw hs) fun De σ H ⟨B, L, A, h, env, gd, p⟩ => ?_
  refine tG_toS gd p fun ds h1 vs H1 L1 e1 x1 g1 r1 p1 => ?_
  cases r1 with
  | nil => exact p1.elim
  | cons ra rt =>
    cases rt with
    | nil => exact p1.elim
    | cons rb rt =>
      cases rt with
      | cons _ _ => exact p1.elim
      | nil =>
        rename_i d v e w
        have p1 : PostS M B W De (if i < env.length ∧ j < env.length then .nx ((env.set i (.v d)).set j (.v e)) h1 else .bad) := p1
        by_cases hl : i < env.length ∧ j < env.length
        · rw [if_pos hl] at p1
          refine ⟨v, w, rfl, p1 _ _ _ _ ((g1.setV ra hl.1).setV (RelD.weak (show RelD M.K H1 L1 (Zf B L1 A) e w from rb) fun b z => zf_none z) (by simpa using hl.2))⟩
        · rw [if_neg hl] at p1; exact p1.elim
/-- name op= e, ints -/
def semAug (i : Nat) (fa : EvF D) (fo : MH → D → D → Option D) : EvS := fun env h => match lookV env i with
  | some x => (fa env h).toS env fun y h1 => match fo h1 x y with
    | some z => .nx (env.set i (.v z)) h1
    | none => .bad
  | none => .bad
theorem s_augI {i : Nat} {x : Str} {e : Expr} {fa : EvF D} {op : Operator} {f : Int → Int → Int} {g : Int → Int → Option Int} {p1 pos : Pos} (hN : X.N.Nodup) (hi : X.N[i]? = some x) (hx : Loc X.env.scope x) (hf : X.fn x = true ∨ X.env.scope.names.lookup x = some .local) (ha : PE X e (kE M .b W fa)) (ho : PIp X op (ipI f))
    (hg : ∀ i j k, g i j = some k → k = f i j) : PS X (.AugAssign (.Name x p1) op e pos) (kS M W (semAug i fa (iop g))) := by
  refine PS.mono (ps_aug hN hi hx ha ho hf) fun De σ H ⟨B, L, A, h, env, gd, p⟩ => ?_
  unfold semAug lookV at p
  cases e0 : env[i]? with
  | none => rw [e0] at p; exact p.elim
  | some sl =>
    rw [e0] at p
    cases gd.slot i sl e0 with
    | u q => exact p.elim
    | o q1 q2 q3 q4 => exact p.elim
    | x q1 q2 q3 q4 => exact p.elim
    | @v d w q1 q2 q3 =>
      refine ⟨w, q2, ?_⟩
      have p : PostS M B W De ((fa env h).toS env fun y h1 => match iop g h1 d y with
        | some z => .nx (env.set i (.v z)) h1
        | none => .bad) := p
      refine tG_toS gd p fun y h1 v H1 L1 e1 x1 g1 r1 p1 => ?_
      cases e2 : iop g h1 d y with
      | none => rw [e2] at p1; exact p1.elim
      | some z =>
        rw [e2] at p1
        obtain ⟨i', j', k', rfl, rfl, e3, rfl⟩ := iop_some e2
        cases hg i' j' k' e3
        cases q3 with
        | py q3 =>
          cases q3
          exact ⟨i', j', rfl, r1.int, p1 _ _ _ _ (g1.setV (.py (.int _)) (List.getElem?_eq_some_iff.mp e0).1)⟩
end
end KF
set_option Elab.async false
set_option linter.all false
set_option maxRecDepth 100000
set_option maxHeartbeats 4000000
/-! KF, part 11: lists that change; loops. -/
namespace KF
open PySem PySem.Spec PyProof.Rows L2
section
variable {X : Cx} {M : MK} {W : WX}
theorem few1 {e : Expr} {cpos : Pos} {env : PySem.Env} (hs : starEach [e] env = [(false, eval e env)]) : ((backTo cpos (starEach [e] env)).all (fun x => !x.1) && (backToKw cpos (keywordEach [] env)).all (fun x => x.1.isSome)
      && decide ([e].length + ([] : List Keyword).length + (if ([] : List Keyword).isEmpty then 0 else 1) < 30)) = true := by rw [hs]; rfl
/-- x.append(e), x the frame's own -/
def semApp (i : Nat) (fa : EvF D) : EvS := fun env h => match env[i]? with
  | some (.o xs) => (fa env h).toS env fun d h1 => match d with
    | .py y => if fits (xs.length + 1) = true then .nx (env.set i (.o (xs ++ [y]))) h1 else .bad
    | _ => .bad
  | _ => .bad
theorem ownL {B : Bs} {A : List (Option Addr)} {H : Hp} {L : List Addr} {h : MH} {env : KF.Env} {σ : L2.St} (g : Good M B H L A h env σ) {i : Nat} {xs : List PyData} (e : env[i]? = some (.o xs)) : ∃ a vs, A[i]? = some (some a) ∧ σ[i]? = some (some (.ref a)) ∧ H a = some (.lst vs) ∧ RelPs M.K H (Zf B L A) xs vs := by
  cases g.slot i _ e with
  | o q1 q2 q3 q4 => exact ⟨_, _, q1, q2, q3, q4⟩
theorem s_app {i : Nat} {x : Str} {e : Expr} {fa : EvF D} {np apos cpos pos : Pos} (hN : X.N[i]? = some x) (hv : Vis X.env.scope x) (hd : (x == ("__debug__" : Str)) = false) (hcd : (x == ("__classdict__" : Str)) = false)
    (ha : PE X e (kE M .n W fa)) (hs : starEach [e] X.env = [(false, eval e X.env)]) (hline : (apos.endLine == cpos.line) = true) : PS X (.Expr (.Call (.Attribute (.Name x np) "append" apos) [e] [] cpos) pos) (kS M W (semApp i fa)) := by
  have hs' : starEach [e] X.env = (false, eval e X.env) :: starEach [] X.env := hs
  refine PS.mono (ps_expr (pe_bm PySem.F.plainAttrs_list PySem.F.slot_list_append PySem.F.type_list_append mt_append (pe_var hN hv hd hcd) (pa_cons ha pa_nil hs') rfl (few1 hs) hline hs' rfl) rfl) fun De σ H ⟨B, L, A, h, env, g, p⟩ => ?_
  unfold semApp at p
  cases e0 : env[i]? with
  | none => rw [e0] at p; exact p.elim
  | some sl =>
    rw [e0] at p
    cases sl with
    | u => exact p.elim
    | x _ _ => exact p.elim
    | v d => exact p.elim
    | o xs =>
      obtain ⟨a, vs, q1, q2, q3, q4⟩ := ownL g e0
      refine ⟨.ref a, q2, .inl ⟨rfl, vs, .inl (.inl q3)⟩, ?_⟩
      refine tG_toS g p fun d h1 v H1 L1 e1 x1 g1 r1 p1 => ?_
      cases d with
      | loc n => exact p1.elim
      | scr n => exact p1.elim
      | py y =>
        dsimp only at p1
        by_cases hf : fits (xs.length + 1) = true
        · rw [if_pos hf] at p1
          have aL := (g.own i a q1).1
          have q3' := x1.keep a _ q3 aL
          have q4' := q4.stay x1.stay (Z' := Zf B L1 A)
          cases r1 with
          | py r1 =>
            refine ⟨a, vs, v, rfl, rfl, q3', ?_, p1 _ _ _ _ (g1.setOwn q1 q3' q2 (q4'.append (.cons r1 .nil)))⟩
            have := fits.ok hf
            rw [← q4.length]; omega
        · rw [if_neg hf] at p1; exact p1.elim
/-- x.extend(e) -/
def rExtR : V → List V → Hp → VK → Prop := fun x vs H Q => ∃ l b xs zs, x = .ref l ∧ vs = [.ref b] ∧ H l = some (.lst xs) ∧ Rd H b (.lst zs) ∧ xs.length + zs.length ≤ sizeLine ∧ Q .non (upd H l (.lst (xs ++ zs)))
theorem mt_extR : MtM X "list.extend" rExtR := by
  intro pins s σ H x vs v us Q I rx rv h
  obtain ⟨l, b, xs, zs, rfl, rfl, hH, hB, hz, q⟩ := h
  cases rx
  obtain ⟨u, rfl, ru⟩ := rv.one
  cases ru
  obtain ⟨z, its, n, r, hl, e⟩ := I.lstM hH
  obtain ⟨z2, its2, n2, r2, hl2, e2⟩ := lstR I hB
  have hsz : its.toArray.size + its2.toArray.size ≤ sizeLine := by rw [List.size_toArray, List.size_toArray]; omega
  have hlong : ¬ (!its.toArray.isEmpty && Builtin.List.listTooLong (its.toArray.size + its2.toArray.size)) = true := by
    rw [notLongL hsz, Bool.and_false]
    exact Bool.false_ne_true
  refine call_meets PySem.F.slot_list_extend ⟨_, e, rfl⟩ PySem.F.entry_list_extend (PySem.F.args_list_extend_2 _ _)
    (AutoSeq1.list_extend_list_list_0 l its.toArray n b its2.toArray n2 hlong (by rw [List.size_toArray]; omega) (by omega)) ⟨e, e2, ?_⟩
  refine ⟨.non, _, I.lset (its' := its ++ its2) hH e (by simp) (r.append r2) ?_, rfl, q⟩
  rw [List.length_append]
  omega
def semExt (i : Nat) (fa : EvF D) : EvS := fun env h => match env[i]? with
  | some (.o xs) => (fa env h).toS env fun d h1 => match d with
    | .py (.list ys) => if fits (xs.length + ys.length) = true then .nx (env.set i (.o (xs ++ ys))) h1 else .bad
    | _ => .bad
  | _ => .bad
theorem s_ext {i : Nat} {x : Str} {e : Expr} {fa : EvF D} {np apos cpos pos : Pos} (hN : X.N[i]? = some x) (hv : Vis X.env.scope x) (hd : (x == ("__debug__" : Str)) = false) (hcd : (x == ("__classdict__" : Str)) = false)
    (ha : PE X e (kE M .n W fa)) (hs : starEach [e] X.env = [(false, eval e X.env)]) (hline : (apos.endLine == cpos.line) = true) : PS X (.Expr (.Call (.Attribute (.Name x np) "extend" apos) [e] [] cpos) pos) (kS M W (semExt i fa)) := by
  have hs' : starEach [e] X.env = (false, eval e X.env) :: starEach [] X.env := hs
  refine PS.mono (ps_expr (pe_bm PySem.F.plainAttrs_list PySem.F.slot_list_extend PySem.F.type_list_extend mt_extR (pe_var hN hv hd hcd) (pa_cons ha pa_nil hs') rfl (few1 hs) hline hs' rfl) rfl) fun De σ H ⟨B, L, A, h, env, g, p⟩ => ?_
  unfold semExt at p
  cases e0 : env[i]? with
  | none => rw [e0] at p; exact p.elim
  | some sl =>
    rw [e0] at p
    cases sl with
    | u => exact p.elim
    | x _ _ => exact p.elim
    | v d => exact p.elim
    | o xs =>
      obtain ⟨a, vs, q1, q2, q3, q4⟩ := ownL g e0
      refine ⟨.ref a, q2, .inl ⟨rfl, vs, .inl (.inl q3)⟩, ?_⟩
      refine tG_toS g p fun d h1 v H1 L1 e1 x1 g1 r1 p1 => ?_
      split at p1
      · rename_i ys
        by_cases hf : fits (xs.length + ys.length) = true
        · rw [if_pos hf] at p1
          have aL := (g.own i a q1).1
          have q3' := x1.keep a _ q3 aL
          have q4' := q4.stay x1.stay (Z' := Zf B L1 A)
          obtain ⟨b, us, rfl, r2, r3⟩ := RelM.list (m := .n) (Hs := H) r1
          refine ⟨a, b, vs, us, rfl, rfl, q3', r2, ?_, p1 _ _ _ _ (g1.setOwn q1 q3' q2 (q4'.append r3))⟩
          have := fits.ok hf
          rw [← q4.length, ← r3.length]; exact this
        · rw [if_neg hf] at p1; exact p1.elim
      · exact p1.elim
/-- x[k] = e, x the frame's own -/
def putO (i : Nat) (xs : List PyData) (env : KF.Env) (k d : D) : Option KF.Env := match k, d with
  | .py (.int n), .py y => (ixN xs.length n).map fun j => env.set i (.o (xs.set j y))
  | _, _ => none
def semSet (i : Nat) (fk fa : EvF D) : EvS := fun env h => (fa env h).toS env fun d h1 => match env[i]? with
  | some (.o xs) => (fk env h1).toS env fun k h2 => match putO i xs env k d with
    | some env' => .nx env' h2
    | none => .bad
  | _ => .bad
theorem putO_some {i : Nat} {xs : List PyData} {env env' : KF.Env} {k d : D} (e : putO i xs env k d = some env') : ∃ n y j, k = .py (.int n) ∧ d = .py y ∧ ixN xs.length n = some j ∧ env' = env.set i (.o (xs.set j y)) := by
  unfold putO at e
  split at e
  · rename_i n y
    cases q : ixN xs.length n with
    | none => rw [q] at e; cases e
    | some j => rw [q] at e; cases e; exact ⟨n, y, j, rfl, rfl, q, rfl⟩
  · cases e
abbrev AsnSub (o k : Expr) (tp : Pos) (env : PySem.Env) : Prop := ∀ v, assign (.Subscript o k tp) env v = (do
      let ov ← holding [v] (eval o env)
      let iv ← holding [v, ov] (eval k env)
      standAt tp
      holding [v, ov, iv] (setItem ov iv v)
      release [v, ov, iv] [])
theorem s_setO {i : Nat} {x : Str} {k e : Expr} {fk fa : EvF D} {np tp pos : Pos} (hN : X.N[i]? = some x) (hv : Vis X.env.scope x) (hd : (x == ("__debug__" : Str)) = false) (hcd : (x == ("__classdict__" : Str)) = false)
    (ha : PE X e (kE M .n W fa)) (hk : PE X k (kE M .b W fk)) (hs : swapsWithSole [.Subscript (.Name x np) k tp] e pos.line X.env = pure false) (hw : swappedStores [.Subscript (.Name x np) k tp] e X.env = pure none)
    (h1 : (assignEach [.Subscript (.Name x np) k tp] X.env).map (·.2) = [assign (.Subscript (.Name x np) k tp) X.env])
    (hasn : AsnSub (.Name x np) k tp X.env) : PS X (.Assign [.Subscript (.Name x np) k tp] e pos) (kS M W (semSet i fk fa)) := by
  refine PS.mono (ps_asg ha (pg_sub (pe_var hN hv hd hcd) hk set_list hasn) hs hw h1) fun De σ H ⟨B, L, A, h, env, g, p⟩ => ?_
  refine tG_toS g p fun d h1 v H1 L1 e1 x1 g1 r1 p1 => ?_
  cases e0 : env[i]? with
  | none => rw [e0] at p1; exact p1.elim
  | some sl =>
    rw [e0] at p1
    cases sl with
    | u => exact p1.elim
    | x _ _ => exact p1.elim
    | v d => exact p1.elim
    | o xs =>
      obtain ⟨a, vs, q1, q2, q3, q4⟩ := ownL g1 e0
      refine ⟨.ref a, q2, ?_⟩
      refine tG_toS g1 p1 fun kd h2 kv H2 L2 e2 x2 g2 r2 p2 => ?_
      cases e3 : putO i xs env kd d with
      | none => rw [e3] at p2; exact p2.elim
      | some env' =>
        rw [e3] at p2
        obtain ⟨n, y, j, rfl, rfl, ej, rfl⟩ := putO_some e3
        have aL := (g1.own i a q1).1
        have q3' := x2.keep a _ q3 aL
        have q4' := q4.stay x2.stay (Z' := Zf B L2 A)
        have r1' : RelM M .n B A H2 H2 L2 (.py y) v := RelM.stay (m := .n) (Hs := H2) r1 x2 fun i a ha => (g1.own i a ha).1
        cases r1' with
        | py r1' => exact ⟨a, vs, n, j, rfl, r2.int, q3', by rw [← q4.length]; exact ej, p2 _ _ _ _ (g2.setOwn q1 q3' q2 (q4'.set r1' j))⟩
/-- r[k] = e, a list at a place -/
def putL (h : MH) (r k d : D) : Option MH := match r, k with
  | .loc n, .py (.int i) => match h[n]? with
    | some (.lst ds) => (ixN ds.length i).map fun j => h.set n (.lst (ds.set j d))
    | _ => none
  | _, _ => none
def semSetL (fr fk fa : EvF D) : EvS := fun env h => (fa env h).toS env fun d h1 => (fr env h1).toS env fun r h2 => (fk env h2).toS env fun k h3 => match putL h3 r k d with
  | some h' => .nx env h'
  | none => .bad
theorem putL_some {h h' : MH} {r k d : D} (e : putL h r k d = some h') : ∃ n i ds j, r = .loc n ∧ k = .py (.int i) ∧ h[n]? = some (.lst ds) ∧ ixN ds.length i = some j ∧ h' = h.set n (.lst (ds.set j d)) := by
  unfold putL at e
  split at e
  · rename_i n i
    cases q : h[n]? with
    | none => rw [q] at e; cases e
    | some o =>
      rw [q] at e
      cases o with
      | lst ds =>
        dsimp only at e
        cases q2 : ixN ds.length i with
        | none => rw [q2] at e; cases e
        | some j => rw [q2] at e; cases e; exact ⟨n, i, ds, j, rfl, rfl, q, q2, rfl⟩
      | dct kvs => cases e
      | lck kvs => cases e
      | ins c fs => cases e
  · cases e
theorem s_setL {r k e : Expr} {fr fk fa : EvF D} {tp pos : Pos} (ha : PE X e (kE M .n W fa)) (hr : PE X r (kE M .n W fr)) (hk : PE X k (kE M .b W fk)) (hs : swapsWithSole [.Subscript r k tp] e pos.line X.env = pure false) (hw : swappedStores [.Subscript r k tp] e X.env = pure none)
    (h1 : (assignEach [.Subscript r k tp] X.env).map (·.2) = [assign (.Subscript r k tp) X.env]) (hasn : AsnSub r k tp X.env) : PS X (.Assign [.Subscript r k tp] e pos) (kS M W (semSetL fr fk fa)) := by
  refine PS.mono (ps_asg ha (pg_sub hr hk set_list hasn) hs hw h1) fun De σ H ⟨B, L, A, h, env, g, p⟩ => ?_
  refine tG_toS g p fun d h1 v H1 L1 e1 x1 g1 r1 p1 => ?_
  refine tG_toS g1 p1 fun rd h2 rv H2 L2 e2 x2 g2 r2 p2 => ?_
  refine tG_toS g2 p2 fun kd h3 kv H3 L3 e3 x3 g3 r3 p3 => ?_
  cases e4 : putL h3 rd kd d with
  | none => rw [e4] at p3; exact p3.elim
  | some h' =>
    rw [e4] at p3
    obtain ⟨n, i, ds, j, rfl, rfl, eh, ej, rfl⟩ := putL_some e4
    have r1' : RelM M .n B A H3 H3 L3 d v := RelM.stay (m := .n) (Hs := H3) r1 (x2.trans x3) fun i a ha => (g1.own i a ha).1
    have r2' : RelM M .n B A H3 H3 L3 (.loc n) rv := RelM.stay (m := .n) (Hs := H3) r2 x3 fun i a ha => (g2.own i a ha).1
    obtain ⟨a, ea, rfl⟩ := r2'.loc
    cases g3.obj n _ a eh ea with
    | @lst _ vs q1 q2 =>
      refine ⟨a, vs, i, j, rfl, r3.int, q1, by rw [← q2.length]; exact ej, p3 _ _ _ _ (g3.setL ea q1 (fun _ z => nomatch z) (fun _ _ z => nomatch z) (.lst upd_same ?_))⟩
      have aL : a ∈ L3 := List.mem_of_getElem? ea
      have za : Zf B L3 A a := .inl aL
      have ne : ∀ b o, H3 b = some o → b ≠ a → (upd H3 a (.lst (vs.set j v))) b = some o := fun b o e q => by rw [upd_ne q]; exact e
      have st : Stay H3 (Zf B L3 A) (upd H3 a (.lst (vs.set j v))) (Zf B L3 A) := ⟨fun b o e z => ne b o e fun q => z (q ▸ za), fun b xs e => ne b _ e (fun q => by subst q; rw [q1] at e; cases e), fun b o u e => ne b _ e (fun q => by subst q; rw [q1] at e; cases e), fun b o _ z => z⟩
      have := (q2.set r1' j).stay (M := []) st
      rw [List.append_nil] at this
      exact this
/-! ### while -/
def whileF (ft : EvF Bool) (fb : EvS) : Nat → EvS
  | 0 => fun _ _ => .bad
  | n + 1 => fun env h => (ft env h).toS env fun b h1 => if b = true then (fb env h1).thn (whileF ft fb n) else .nx env h1
theorem s_while {t : Expr} {body : List Stmt} {ft : EvF Bool} {fb : EvS} {pos : Pos} {n : Nat} (hp : PassesOwn (model X.prog X.w) X.A X.env X.xe) (ht : PT X t (kT M W ft)) (hb : PSs X body (kS M W fb)) : PS X (.While t body [] pos) (kS M W (whileF ft fb n)) := by
  refine PS.mono (ps_while hp ht hb) fun De σ H ⟨B, L, A, h, env, g, p⟩ => ?_
  refine ⟨fun m σ H => ∃ L A h env, Good M B H L A h env σ ∧ PostS M B W De (whileF ft fb m env h), ⟨n, L, A, h, env, g, p⟩, ?_⟩
  rintro m σ H ⟨L, A, h, env, g, p⟩
  cases m with
  | zero => exact p.elim
  | succ m =>
    have p : PostS M B W De ((ft env h).toS env fun b h1 => if b = true then (fb env h1).thn (whileF ft fb m) else .nx env h1) := p
    refine tG_toS g p fun x h1 v H1 L1 e1 x1 g1 r1 p1 => ?_
    cases (show x = v from r1)
    cases x with
    | false => exact p1 _ _ _ _ g1
    | true =>
      refine ⟨fun σ H => ∃ L A h env, Good M B H L A h env σ ∧ PostS M B W De (whileF ft fb m env h), fun σ' H' q => ⟨m, Nat.lt_succ_self m, q⟩, B, L1, A, h1, env, g1, ?_⟩
      have p1 : PostS M B W De ((fb env h1).thn (whileF ft fb m)) := p1
      cases e : fb env h1 with
      | nx env' h' => rw [e] at p1; exact fun σ' H' L' A' g' => ⟨L', A', h', env', g', p1⟩
      | rt d h' => rw [e] at p1; exact p1
      | exc c fs env' h' => rw [e] at p1; exact p1
      | bad => rw [e] at p1; exact p1
/-! ### for -/
def forF (g : TgF) (fb : EvS) : List D → EvS
  | [] => fun env h => .nx env h
  | x :: r => fun env h => match g x env with
    | some env1 => (fb env1 h).thn (forF g fb r)
    | none => .bad
/-- what a loop walks: the items, from what stands in the heap; Src: what must stand -/
def WIt (M : MK) (J : It) (xs : List D) (Src : Hp → (Addr → Prop) → Prop) : Prop :=
  ∀ (B : Bs) (H : Hp) (L : List Addr) (A : List (Option Addr)) (h : MH) (env : KF.Env) (σ : L2.St), Good M B H L A h env σ → Src H (Zf B L A) → ∀ i, (xs.length ≤ i → J.stop i H) ∧ (∀ x, xs[i]? = some x → J.go i H ∧ ∀ v H', J.yld i H v H' → Same H H' ∧ RelD M.K H' L (Zf B L A) x v)
theorem for_core {ts : List Nat} {J : It} {xs : List D} {Src : Hp → (Addr → Prop) → Prop} (wi : WIt M J xs Src) (st : ∀ H Z H' Z', Stay H Z H' Z' → Src H Z → Src H' Z') {g : TgF} {fb : EvS} {De : Ends} {B : Bs} {A : List (Option Addr)} {H : Hp} {L : List Addr} {h : MH} {env : KF.Env} {σ : L2.St}
    (gd : Good M B H L A h env σ) (src : Src H (Zf B L A)) (p : PostS M B W De (forF g fb xs env h)) :
    ∃ Wv : Nat → Nat → L2.St → Hp → Prop, (∃ m, Wv 0 m σ H) ∧ ∀ i m σ H, Wv i m σ H →
      (J.stop i H ∧ De.nx σ H) ∨ (J.go i H ∧ ∃ N : L2.St → Hp → Prop, (∀ σ' H', N σ' H' → ∃ m', m' < m ∧ Wv (i + 1) m' σ' H') ∧ ∀ x H', J.yld i H x H' → kG M ts g x σ H' fun σ2 H2 => kS M W fb { De with nx := N, ct := N, bk := De.nx } σ2 H2) := by
  have p := p.anc gd
  refine ⟨fun i m σ' H' => m = xs.length - i ∧ i ≤ xs.length ∧ ∃ L' A' h' env', Good M (B.anc A H L) H' L' A' h' env' σ' ∧ PostS M (B.anc A H L) W De (forF g fb (xs.drop i) env' h'), ⟨xs.length, by simp, Nat.zero_le _, L, A, h, env, gd.anchor, p⟩, ?_⟩
  rintro i m σ' H' ⟨rfl, hi, L', A', h', env', g', p'⟩
  have src' : Src H' (Zf (B.anc A H L) L' A') := st _ _ _ _ (g'.since gd) src
  obtain ⟨w1, w2⟩ := wi _ H' L' A' h' env' σ' g' src' i
  by_cases hl : i < xs.length
  · obtain ⟨x, hx⟩ : ∃ x, xs[i]? = some x := ⟨_, List.getElem?_eq_getElem hl⟩
    obtain ⟨go, yld⟩ := w2 x hx
    have ed : xs.drop i = x :: xs.drop (i + 1) := by
      rw [List.drop_eq_getElem_cons hl]
      rw [List.getElem?_eq_getElem hl] at hx
      cases hx; rfl
    rw [ed] at p'
    refine .inr ⟨go, fun σ2 H2 => ∃ L2 A2 h2 env2, Good M (B.anc A H L) H2 L2 A2 h2 env2 σ2 ∧ PostS M (B.anc A H L) W De (forF g fb (xs.drop (i + 1)) env2 h2), fun σ2 H2 q => ⟨xs.length - (i + 1), by omega, rfl, hl, q⟩, fun v H2 hy => ?_⟩
    obtain ⟨sm, r⟩ := yld v H2 hy
    have p' : PostS M (B.anc A H L) W De (match g x env' with
      | some env1 => (fb env1 h').thn (forF g fb (xs.drop (i + 1)))
      | none => .bad) := p'
    cases e : g x env' with
    | none => rw [e] at p'; exact p'.elim
    | some env1 =>
      rw [e] at p'
      refine ⟨B.anc A H L, L', A', h', env', x, g'.same sm, r, env1, e, fun σ3 A3 _ g3 => ⟨B.anc A H L, L', A3, h', env1, g3, ?_⟩⟩
      have p' : PostS M (B.anc A H L) W De ((fb env1 h').thn (forF g fb (xs.drop (i + 1)))) := p'
      cases e2 : fb env1 h' with
      | nx env2 h2 => rw [e2] at p'; exact fun σ' H' L' A' g' => ⟨L', A', h2, env2, g', p'⟩
      | rt d h2 => rw [e2] at p'; exact p'
      | exc c fs env2 h2 => rw [e2] at p'; exact p'
      | bad => rw [e2] at p'; exact p'
  · have ei : i = xs.length := by omega
    subst ei
    rw [List.drop_length] at p'
    exact .inl ⟨w1 (Nat.le_refl _), p' σ' H' L' A' g'⟩
/-! what is walked -/
/-- the walk of an iterable: f gives the items -/
def kI (M : MK) (W : WX) (f : EvF (List D)) : TI := fun σ H R => ∃ B L A h env, Good M B H L A h env σ ∧ Post M B A env σ W (fun (_ H' : Hp) (L' : List Addr) (xs : List D) (J : It) => ∃ Src : Hp → (Addr → Prop) → Prop, WIt M J xs Src ∧ (∀ H Z H' Z', Stay H Z H' Z' → Src H Z → Src H' Z') ∧ Src H' (Zf B L' A)) H L R (f env h)
def semFor (f : EvF (List D)) (g : TgF) (fb : EvS) : EvS := fun env h => (f env h).toS env fun xs h1 => forF g fb xs env h1
theorem s_for {ts : List Nat} {tg iter : Expr} {body : List Stmt} {f : EvF (List D)} {g : TgF} {fb : EvS} {pos : Pos} (hp : PassesOwn (model X.prog X.w) X.A X.env X.xe) (hc : X.calm = true) (hi : PI X tg iter (kI M W f)) (hg : PG X tg (kG M ts g)) (hb : PSs X body (kS M W fb))
    (hs : ∀ x, foldedSetIterable iter X.env x = pure x) : PS X (.For tg iter body [] pos) (kS M W (semFor f g fb)) := by
  refine PS.mono (ps_for hp hc hi hg hb hs) fun De σ H ⟨B, L, A, h, env, gd, p⟩ => ?_
  refine ⟨B, L, A, h, env, gd, ?_⟩
  unfold semFor at p
  cases e : f env h with
  | ok xs h1 =>
    rw [e] at p
    intro J H1 L1 x1 g1 r
    obtain ⟨Src, wi, st, src⟩ := r
    exact for_core wi st g1 src p
  | exc c fs h1 => rw [e] at p; exact fun cls dd H' L' x g' r => p cls dd σ H' L' A g' r
  | bad => rw [e] at p; exact p
theorem PI.mono {tg e : Expr} {t t' : TI} (h : PI X tg e t) (i : ∀ σ H Q, t' σ H Q → t σ H Q) : PI X tg e t' := ⟨fun pins s σ H Q I q => h.run pins s σ H Q I (i σ H Q q)⟩
/-- range(n), range(a, b) -/
def rngL (lo : Int) (n : Nat) : List D := (List.range n).map fun k => .py (.int (lo + (k : Nat)))
theorem wit_range {lo : Int} {n : Nat} : WIt M (Itr lo n) (rngL lo n) (fun _ _ => True) := by
  intro B H L A h env σ g _ i
  refine ⟨fun hl => by unfold rngL at hl; rw [List.length_map, List.length_range] at hl; exact hl, fun x hx => ?_⟩
  unfold rngL at hx
  rw [List.getElem?_map] at hx
  by_cases hl : i < n
  · rw [List.getElem?_range hl] at hx
    cases hx
    refine ⟨hl, fun v H' hy => ?_⟩
    obtain ⟨rfl, rfl⟩ := hy
    exact ⟨Same.refl _, .py (.int _)⟩
  · rw [List.getElem?_eq_none (by rw [List.length_range]; omega)] at hx; cases hx
def rOk (j : Int) : Bool := Nat.ble j.natAbs 3999999999999999999
theorem rOk.ok {j : Int} (h : rOk j = true) : -4000000000000000000 ≤ j ∧ j < 4000000000000000000 := by
  have := Nat.le_of_ble_eq_true h
  omega
def rng1 : List D → Option (List D)
  | [.py (.int j)] => if rOk j = true then some (rngL 0 j.toNat) else none
  | _ => none
def rng2 : List D → Option (List D)
  | [.py (.int i), .py (.int j)] => if (rOk i && rOk j) = true then some (rngL i (j - i).toNat) else none
  | _ => none
def semIt (f : EvF (List D)) (fo : List D → Option (List D)) : EvF (List D) := fun env h => (f env h).bind fun ds h1 => lift (fo ds) h1
theorem i_rng1 {tg a : Expr} {f : EvF (List D)} {p pos : Pos} (hg : Gl X "range") (hm : X.mg "range" = none) (ha : PA X [a] (kA M .b W f)) (hs : starEach [a] X.env = [(false, eval a X.env)]) : PI X tg (.Call (.Name "range" p) [a] [] pos) (kI M W (semIt f rng1)) := by
  refine PI.mono (pi_range1 hg hm ha hs) fun σ H Q ⟨B, L, A, h, env, g, p⟩ => ?_
  refine ⟨B, L, A, h, env, g, ?_⟩
  unfold semIt at p
  cases e : f env h with
  | ok ds h1 =>
    rw [e] at p
    intro vs H1 L1 x1 g1 r1
    have p : Post M B A env σ W _ H L Q (lift (rng1 ds) h1) := p
    cases e2 : rng1 ds with
    | none => rw [e2] at p; exact p.elim
    | some xs =>
      rw [e2] at p
      unfold rng1 at e2
      split at e2
      · rename_i j
        split at e2
        · rename_i c
          cases e2
          obtain ⟨c1, c2⟩ := rOk.ok c
          cases r1 with
          | cons r t =>
            cases t
            cases r.int
            exact ⟨j, rfl, by omega, by omega, p _ _ _ x1 g1 ⟨fun _ _ => True, wit_range, fun _ _ _ _ _ _ => trivial, trivial⟩⟩
        · cases e2
      · cases e2
  | exc c fs h1 => rw [e] at p; exact p
  | bad => rw [e] at p; exact p
theorem i_rng2 {tg a b : Expr} {f : EvF (List D)} {p pos : Pos} (hg : Gl X "range") (hm : X.mg "range" = none) (ha : PA X [a, b] (kA M .b W f)) (hs : starEach [a, b] X.env = [(false, eval a X.env), (false, eval b X.env)]) (hs2 : starEach [b] X.env = [(false, eval b X.env)]) : PI X tg (.Call (.Name "range" p) [a, b] [] pos) (kI M W (semIt f rng2)) := by
  refine PI.mono (pi_range2 hg hm ha hs hs2) fun σ H Q ⟨B, L, A, h, env, g, p⟩ => ?_
  refine ⟨B, L, A, h, env, g, ?_⟩
  unfold semIt at p
  cases e : f env h with
  | ok ds h1 =>
    rw [e] at p
    intro vs H1 L1 x1 g1 r1
    have p : Post M B A env σ W _ H L Q (lift (rng2 ds) h1) := p
    cases e2 : rng2 ds with
    | none => rw [e2] at p; exact p.elim
    | some xs =>
      rw [e2] at p
      unfold rng2 at e2
      split at e2
      · rename_i i j
        split at e2
        · rename_i c
          cases e2
          obtain ⟨c1, c2⟩ := Bool.and_eq_true_iff.mp c
          obtain ⟨c3, c4⟩ := rOk.ok c1
          obtain ⟨c5, c6⟩ := rOk.ok c2
          cases r1 with
          | cons r t =>
            cases t with
            | cons r' t =>
              cases t
              cases r.int
              cases r'.int
              exact ⟨i, j, rfl, ⟨by omega, by omega, by omega, by omega⟩, p _ _ _ x1 g1 ⟨fun _ _ => True, wit_range, fun _ _ _ _ _ _ => trivial, trivial⟩⟩
        · cases e2
      · cases e2
  | exc c fs h1 => rw [e] at p; exact p
  | bad => rw [e] at p; exact p
/-- a list, a tuple -/
def SrcL (K : PySem.W.Frag) (a : Addr) (xs : List PyData) : Hp → (Addr → Prop) → Prop := fun H Z => ∃ vs, Rd H a (.lst vs) ∧ ¬ Z a ∧ RelPs K H Z xs vs
theorem srcL_stay {K : PySem.W.Frag} {a : Addr} {xs : List PyData} : ∀ H Z H' Z', Stay H Z H' Z' → SrcL K a xs H Z → SrcL K a xs H' Z' := by
  rintro H Z H' Z' s ⟨vs, h1, h2, h3⟩
  have := RelP.stay s (RelP.lst h1 h2 h3)
  cases this with
  | @lst _ us _ q1 q2 q3 =>
    refine ⟨us, q1, q2, q3⟩
theorem Rd.inj {H : Hp} {a : Addr} {xs ys : List V} (h1 : Rd H a (.lst xs)) (h2 : Rd H a (.lst ys)) : xs = ys := by
  rcases h1 with h1 | ⟨o, h1⟩ <;> rcases h2 with h2 | ⟨o', h2⟩ <;> rw [h1] at h2 <;> cases h2 <;> rfl
theorem wit_list (hK : M.K = X.K) {a : Addr} {xs : List PyData} : WIt M (Itl X.K a) (xs.map .py) (SrcL M.K a xs) := by
  rintro B H L A h env σ g ⟨vs, h1, h2, h3⟩ i
  refine ⟨fun hl => ⟨vs, .inl h1, by rw [← h3.length]; simpa using hl⟩, fun x hx => ?_⟩
  rw [List.getElem?_map] at hx
  cases q : xs[i]? with
  | none => rw [q] at hx; cases hx
  | some d =>
    rw [q] at hx; cases hx
    obtain ⟨v, e1, e2⟩ := h3.get q
    refine ⟨⟨vs, v, .inl h1, e1⟩, fun w H' hy => ?_⟩
    obtain ⟨rfl, hy⟩ := hy
    have := hy vs (.inl h1)
    rw [e1] at this; cases this
    exact ⟨Same.refl _, .py e2⟩
def itL : D → Option (List D)
  | .py (.list xs) => some (xs.map .py)
  | _ => none
def semIt1 (f : EvF D) (fo : D → Option (List D)) : EvF (List D) := fun env h => (f env h).bind fun d h1 => lift (fo d) h1
theorem i_list (hK : M.K = X.K) {tg a : Expr} {f : EvF D} (ha : PE X a (kE M .n W f)) : PI X tg a (kI M W (semIt1 f itL)) := by
  refine PI.mono (pi_list ha) fun σ H Q ⟨B, L, A, h, env, g, p⟩ => ?_
  refine ⟨B, L, A, h, env, g, ?_⟩
  unfold semIt1 at p
  cases e : f env h with
  | ok d h1 =>
    rw [e] at p
    intro v H1 L1 x1 g1 r1
    have p : Post M B A env σ W _ H L Q (lift (itL d) h1) := p
    cases e2 : itL d with
    | none => rw [e2] at p; exact p.elim
    | some xs =>
      rw [e2] at p
      unfold itL at e2
      split at e2
      · cases e2
        cases r1 with
        | py r1 =>
          cases r1 with
          | @lst a vs _ h1 h2 h3 =>
            exact ⟨a, rfl, ⟨vs, .inl h1⟩, p _ _ _ x1 g1 ⟨SrcL M.K a _, wit_list hK, srcL_stay, vs, h1, h2, h3⟩⟩
      · cases e2
  | exc c fs h1 => rw [e] at p; exact p
  | bad => rw [e] at p; exact p
def SrcT (K : PySem.W.Frag) (a : Addr) (xs : List PyData) : Hp → (Addr → Prop) → Prop := fun H Z => ∃ vs, SqT K H a vs ∧ RelPs K H Z xs vs
theorem srcT_stay {K : PySem.W.Frag} {a : Addr} {xs : List PyData} : ∀ H Z H' Z', Stay H Z H' Z' → SrcT K a xs H Z → SrcT K a xs H' Z' := by
  rintro H Z H' Z' s ⟨vs, h1, h3⟩
  have := RelP.stay s (RelP.tup h1 h3)
  cases this with
  | @tup _ us _ q1 q3 => exact ⟨us, q1, q3⟩
theorem wit_tup (hK : M.K = X.K) {a : Addr} {xs : List PyData} : WIt M (Itt X.K a) (xs.map .py) (SrcT M.K a xs) := by
  rintro B H L A h env σ g ⟨vs, h1, h3⟩ i
  refine ⟨fun hl => ⟨vs, hK ▸ h1, by rw [← h3.length]; simpa using hl⟩, fun x hx => ?_⟩
  rw [List.getElem?_map] at hx
  cases q : xs[i]? with
  | none => rw [q] at hx; cases hx
  | some d =>
    rw [q] at hx; cases hx
    obtain ⟨v, e1, e2⟩ := h3.get q
    refine ⟨⟨vs, v, hK ▸ h1, e1⟩, fun w H' hy => ?_⟩
    obtain ⟨rfl, hy⟩ := hy
    have := hy vs (hK ▸ h1)
    rw [e1] at this; cases this
    exact ⟨Same.refl _, .py e2⟩
def itT : D → Option (List D)
  | .py (.tuple xs) => some (xs.map .py)
  | _ => none
theorem i_tup (hK : M.K = X.K) {tg a : Expr} {f : EvF D} (ha : PE X a (kE M .n W f)) : PI X tg a (kI M W (semIt1 f itT)) := by
  refine PI.mono (pi_tup ha) fun σ H Q ⟨B, L, A, h, env, g, p⟩ => ?_
  refine ⟨B, L, A, h, env, g, ?_⟩
  unfold semIt1 at p
  cases e : f env h with
  | ok d h1 =>
    rw [e] at p
    intro v H1 L1 x1 g1 r1
    have p : Post M B A env σ W _ H L Q (lift (itT d) h1) := p
    cases e2 : itT d with
    | none => rw [e2] at p; exact p.elim
    | some xs =>
      rw [e2] at p
      unfold itT at e2
      split at e2
      · cases e2
        cases r1 with
        | py r1 =>
          cases r1 with
          | @tup a vs _ h1 h3 =>
            exact ⟨a, rfl, ⟨vs, hK ▸ h1⟩, p _ _ _ x1 g1 ⟨SrcT M.K a _, wit_tup hK, srcT_stay, vs, h1, h3⟩⟩
      · cases e2
  | exc c fs h1 => rw [e] at p; exact p
  | bad => rw [e] at p; exact p
end
end KF
set_option Elab.async false
set_option linter.all false
set_option maxRecDepth 100000
set_option maxHeartbeats 4000000
/-! KF, part 12: list comprehensions. -/
namespace KF
open PySem PySem.Spec PyProof.Rows L2
section
variable {M : MK} {B : Bs} {A : List (Option Addr)} {H H' H1 : Hp} {L L' L1 : List Addr} {h h' : MH} {env env' : KF.Env} {σ σ' : L2.St} {ad : Addr}
/-- others may change ad too -/
def Bs.plus (B : Bs) (ad : Addr) : Bs := ⟨B.H0, B.L0, fun a => B.S a ∨ a = ad⟩
theorem Good.leave (g : Good M B H L A h env σ) (x : Ext H L H' L') (g' : Good M B H' L' A h' env' σ') : Good M B H' L' A h' env σ :=
  ⟨g'.len, g'.nd, g'.obj, g'.ls, g'.lpre, g'.base, g'.btup, g'.bfrz, g'.dom, g'.sdom, g.alen, g.slen, g'.own, g'.odis, fun i sl e => (g.slot i sl e).stay x fun a vs q1 q2 => x.keep a _ q2 (g.own i a q1).1⟩
theorem plus_stay {o : HO} (n : H ad = none) : Stay H (Zf B L A) (upd H ad o) (Zf (B.plus ad) L A) := by
  have sm : Same H (upd H ad o) := same_upd n
  refine ⟨fun a o e _ => sm a o e, fun a xs e => sm a _ e, fun a o u e => sm a _ e, fun a o e z => ?_⟩
  rcases z with z | (z | z) | z
  · exact .inl z
  · exact .inr (.inl z)
  · subst z; rw [n] at e; cases e
  · exact .inr (.inr z)
theorem SOk.st {B' : Bs} {i : Nat} {sl : Sl} (s : SOk M B H L A σ i sl) (x : Stay H (Zf B L A) H' (Zf B' L A)) (k : ∀ a vs, A[i]? = some (some a) → H a = some (.lst vs) → H' a = some (.lst vs)) : SOk M B' H' L A σ i sl := by
  cases s with
  | u q => exact .u q
  | v q1 q2 q3 =>
    have := q3.stay (M := []) x
    rw [List.append_nil] at this
    exact .v q1 q2 this
  | o q1 q2 q3 q4 => exact .o q1 q2 (k _ _ q1 q3) (q4.stay x)
  | x q1 q2 q3 q4 => exact .x q1 q2 q3 (XRelZ.st x q4)
theorem MOk.st {Z Z' : Addr → Prop} {a : Addr} {o : MO} (m : MOk M H L Z a o) (s : Stay H Z H' Z') (e : H' a = H a) : MOk M H' L Z' a o := by
  have := m.stay (N := []) s e
  rw [List.append_nil] at this
  exact this
theorem Good.plus {o : HO} (g : Good M B H L A h env σ) (n : H ad = none) : Good M (B.plus ad) (upd H ad o) L A h env σ := by
  have sm : Same H (upd H ad o) := same_upd n
  have st : Stay H (Zf B L A) (upd H ad o) (Zf (B.plus ad) L A) := plus_stay n
  refine ⟨g.len, g.nd, fun k o' a e1 e2 => ?_, fun a ha z => ?_, g.lpre, fun a o e hl => sm a o (g.base a o e hl), fun a xs e => sm a _ (g.btup a xs e), fun a o u e => sm a _ (g.bfrz a o u e), fun a o e => ?_, fun a z => ?_, g.alen, g.slen, fun i a e => ⟨(g.own i a e).1, fun z => ?_, (g.own i a e).2.2⟩, g.odis, fun i sl e => (g.slot i sl e).st st fun a vs _ q => sm _ _ q⟩
  · have m := g.obj k o' a e1 e2
    obtain ⟨u, hu⟩ := m.there
    exact m.st st ((sm _ _ hu).trans hu.symm)
  · rcases z with z | z
    · exact g.ls a ha z
    · subst z; obtain ⟨u, e⟩ := g.there ha; rw [n] at e; cases e
  · obtain ⟨o', e'⟩ := g.dom a o e; exact ⟨o', sm _ _ e'⟩
  · rcases z with z | z
    · obtain ⟨o', e'⟩ := g.sdom a z; exact ⟨o', sm _ _ e'⟩
    · subst z; exact ⟨_, upd_same⟩
  · rcases z with z | z
    · exact (g.own i a e).2.1 z
    · subst z; obtain ⟨u, e⟩ := g.ownThere e; rw [n] at e; cases e
theorem setS_stay {us : List V} {o : HO} (s : B.S ad) (e : H ad = some (.lst us)) : Stay H (Zf B L A) (upd H ad o) (Zf B L A) := by
  have ne : ∀ b o', H b = some o' → b ≠ ad → (upd H ad o) b = some o' := fun b o' e q => by rw [upd_ne q]; exact e
  exact ⟨fun b o e z => ne b o e fun q => z (q ▸ .inr (.inl s)), fun b xs e' => ne b _ e' (fun q => by subst q; rw [e] at e'; cases e'), fun b o u e' => ne b _ e' (fun q => by subst q; rw [e] at e'; cases e'), fun b o _ z => z⟩
theorem Good.setS {us : List V} {o : HO} (g : Good M B H L A h env σ) (s : B.S ad) (n0 : B.H0 ad = none) (eD : H ad = some (.lst us)) : Good M B (upd H ad o) L A h env σ := by
  have ne : ∀ b o', H b = some o' → b ≠ ad → (upd H ad o) b = some o' := fun b o' e q => by rw [upd_ne q]; exact e
  have st : Stay H (Zf B L A) (upd H ad o) (Zf B L A) := setS_stay s eD
  have bne : ∀ b o, B.H0 b = some o → b ≠ ad := fun b o e q => by subst q; rw [n0] at e; cases e
  have dm : ∀ b o', H b = some o' → ∃ o'', (upd H ad o) b = some o'' := fun b o' e => by
    by_cases q : b = ad
    · subst q; exact ⟨_, upd_same⟩
    · exact ⟨o', ne b o' e q⟩
  refine ⟨g.len, g.nd, fun k o' a e1 e2 => ?_, g.ls, g.lpre, fun a o e hl => ne _ _ (g.base a o e hl) (bne _ _ e), fun a xs e => ne _ _ (g.btup a xs e) (bne _ _ e), fun a o u e => ne _ _ (g.bfrz a o u e) (bne _ _ e), fun a o e => ?_, fun a z => ?_, g.alen, g.slen, g.own, g.odis, fun i sl e => (g.slot i sl e).st st fun a vs q1 q => ne _ _ q fun z => (g.own i a q1).2.1 (z ▸ s)⟩
  · exact (g.obj k o' a e1 e2).st st (upd_ne fun z => g.ls a (List.mem_of_getElem? e2) (z ▸ s))
  · obtain ⟨o', e'⟩ := g.dom a o e; exact dm _ _ e'
  · obtain ⟨o', e'⟩ := g.sdom a z; exact dm _ _ e'
def del (H : Hp) (ad : Addr) : Hp := fun b => if b = ad then none else H b
theorem del_same : del H ad ad = none := by unfold del; rw [if_pos rfl]
theorem del_ne {b : Addr} (h : b ≠ ad) : del H ad b = H b := by unfold del; rw [if_neg h]
theorem upd_del {o : HO} (e : H ad = some o) : upd (del H ad) ad o = H := by
  funext b
  unfold upd del
  by_cases h : b = ad
  · subst h; rw [if_pos rfl]; exact e.symm
  · rw [if_neg h, if_neg h]
theorem Ext.del (x : Ext H1 L1 H L) (n : H1 ad = Option.none) : Ext H1 L1 (del H ad) L := by
  have ne : ∀ a o, H1 a = some o → a ≠ ad := fun a o e q => by subst q; rw [n] at e; cases e
  exact ⟨fun a o e hl => by rw [del_ne (ne a o e)]; exact x.keep a o e hl, fun a xs e => by rw [del_ne (ne a _ e)]; exact x.tups a xs e, fun a o u e => by rw [del_ne (ne a _ e)]; exact x.frzs a o u e, x.pre, fun a o e => by rw [del_ne (ne a _ e)]; exact x.dom a o e⟩
theorem del_stay {us : List V} (e : H ad = some (.lst us)) : Stay H (Zf (B.plus ad) L A) (del H ad) (Zf B L A) := by
  refine ⟨fun a o e' z => ?_, fun a xs e' => ?_, fun a o u e' => ?_, fun a o e' z => ?_⟩
  · rw [del_ne fun q => z (.inr (.inl (.inr q)))]; exact e'
  · rw [del_ne (fun q => by subst q; rw [e] at e'; cases e')]; exact e'
  · rw [del_ne (fun q => by subst q; rw [e] at e'; cases e')]; exact e'
  · rcases z with z | z | z
    · exact .inl z
    · exact .inr (.inl (.inl z))
    · exact .inr (.inr z)
theorem Good.minus {us : List V} (g : Good M (B.plus ad) H L A h env σ) (n0 : B.H0 ad = none) (nS : ¬ B.S ad) (eD : H ad = some (.lst us)) : Good M B (del H ad) L A h env σ := by
  have st : Stay H (Zf (B.plus ad) L A) (del H ad) (Zf B L A) := del_stay eD
  have bne : ∀ b o, B.H0 b = some o → b ≠ ad := fun b o e q => by subst q; rw [n0] at e; cases e
  refine ⟨g.len, g.nd, fun k o' a e1 e2 => ?_, fun a ha z => g.ls a ha (.inl z), g.lpre, fun a o e hl => by rw [del_ne (bne _ _ e)]; exact g.base a o e hl, fun a xs e => by rw [del_ne (bne _ _ e)]; exact g.btup a xs e, fun a o u e => by rw [del_ne (bne _ _ e)]; exact g.bfrz a o u e, fun a o e => by rw [del_ne (bne _ _ e)]; exact g.dom a o e, fun a z => ?_, g.alen, g.slen, fun i a e => ⟨(g.own i a e).1, fun z => (g.own i a e).2.1 (.inl z), (g.own i a e).2.2⟩, g.odis, fun i sl e => (g.slot i sl e).st st fun a vs q1 q => ?_⟩
  · exact (g.obj k o' a e1 e2).st st (del_ne fun z => g.ls a (List.mem_of_getElem? e2) (.inr z))
  · rw [del_ne (fun q => by subst q; exact nS z)]; exact g.sdom a (.inl z)
  · rw [del_ne fun z => (g.own i a q1).2.1 (.inr z)]; exact q
/-- the block's own slots forgotten -/
def wipeE (env : KF.Env) : List Nat → Option KF.Env
  | [] => some env
  | v :: vs => (wipeE env vs).bind fun e => match e[v]? with
    | some (.o _) => none
    | some _ => some (e.set v .u)
    | none => none
theorem Good.wipe1 (g : Good M B H L A h env σ) {v : Nat} {sl : Sl} (e : env[v]? = some sl) (no : ∀ xs, sl ≠ .o xs) : A[v]? = some none ∧ Good M B H L A h (env.set v .u) (σ.set v none) := by
  have hv : v < env.length := (List.getElem?_eq_some_iff.mp e).1
  have hA : A[v]? = some none := by
    cases g.slot v sl e with
    | u q => exact q
    | v q _ _ => exact q
    | o q _ _ _ => exact absurd rfl (no _)
    | x q _ _ _ => exact q
  refine ⟨hA, g.len, g.nd, g.obj, g.ls, g.lpre, g.base, g.btup, g.bfrz, g.dom, g.sdom, by simp [g.alen], by simp [g.slen], g.own, g.odis, fun j sl' e' => ?_⟩
  by_cases hj : j = v
  · subst hj
    rw [List.getElem?_set_self hv] at e'; cases e'
    exact .u hA
  · rw [List.getElem?_set_ne (Ne.symm hj)] at e'
    exact (g.slot j sl' e').zed rfl (List.getElem?_set_ne (Ne.symm hj)) fun _ z => z
theorem Good.wipe (g : Good M B H L A h env σ) : ∀ {vs : List Nat} {ew : KF.Env}, wipeE env vs = some ew → (∀ i ∈ vs, A[i]? = some none) ∧ Good M B H L A h ew (L2.wipe σ vs)
  | [], ew, e => by cases e; exact ⟨fun _ z => (List.not_mem_nil z).elim, g⟩
  | v :: vs, ew, e => by
    have e : (wipeE env vs).bind (fun e => match e[v]? with
      | some (.o _) => none
      | some _ => some (e.set v .u)
      | none => none) = some ew := e
    cases q : wipeE env vs with
    | none => rw [q] at e; cases e
    | some e1 =>
      rw [q] at e
      obtain ⟨h1, g1⟩ := Good.wipe g q
      have e : (match e1[v]? with
        | some (.o _) => none
        | some _ => some (e1.set v .u)
        | none => none) = some ew := e
      cases q2 : e1[v]? with
      | none => rw [q2] at e; cases e
      | some sl =>
        rw [q2] at e
        cases sl with
        | o xs => cases e
        | u =>
          cases e
          obtain ⟨a, g2⟩ := g1.wipe1 q2 (by intro _ z; cases z)
          exact ⟨fun i hi => by exact (List.mem_cons.mp hi).elim (fun z => z ▸ a) (h1 i), g2⟩
        | v d =>
          cases e
          obtain ⟨a, g2⟩ := g1.wipe1 q2 (by intro _ z; cases z)
          exact ⟨fun i hi => by exact (List.mem_cons.mp hi).elim (fun z => z ▸ a) (h1 i), g2⟩
        | x c fs =>
          cases e
          obtain ⟨a, g2⟩ := g1.wipe1 q2 (by intro _ z; cases z)
          exact ⟨fun i hi => by exact (List.mem_cons.mp hi).elim (fun z => z ▸ a) (h1 i), g2⟩
theorem Ups.same {ts vs : List Nat} {A' : List (Option Addr)} (u : Ups ts σ A σ' A') (sub : ∀ i ∈ ts, i ∈ vs) (hn : ∀ i ∈ vs, A[i]? = some none) : A' = A := by
  apply List.ext_getElem?
  intro i
  by_cases hi : i ∈ ts
  · have := hn i (sub i hi)
    rw [this]
    exact u.ins i hi (List.getElem?_eq_some_iff.mp this).1
  · exact (u.out i hi).2
theorem wipe_in {σ : L2.St} {i : Nat} : ∀ {vs : List Nat}, i ∈ vs → i < σ.length → (L2.wipe σ vs)[i]? = some none
  | v :: vs, h, hl => by
    show ((L2.wipe σ vs).set v none)[i]? = some none
    by_cases e : v = i
    · subst e; rw [List.getElem?_set_self (by rw [wipe_length]; exact hl)]
    · rw [List.getElem?_set_ne e]
      rcases List.mem_cons.mp h with z | z
      · exact absurd z.symm e
      · exact wipe_in z hl
theorem Ups.wiped {ts vs : List Nat} {A' : List (Option Addr)} (u : Ups ts (L2.wipe σ vs) A σ' A') (sub : ∀ i ∈ ts, i ∈ vs) : L2.wipe σ' vs = L2.wipe σ vs := by
  apply List.ext_getElem?
  intro i
  have hl : σ'.length = σ.length := by rw [u.sl, wipe_length]
  by_cases hi : i ∈ vs
  · by_cases hl2 : i < σ.length
    · rw [wipe_in hi hl2, wipe_in hi (by rw [hl]; exact hl2)]
    · rw [List.getElem?_eq_none (by rw [wipe_length]; omega), List.getElem?_eq_none (by rw [wipe_length]; omega)]
  · rw [wipe_out hi, (u.out i fun z => hi (sub i z)).1]
end
/-! ### one clause -/
def Out.nx {α β : Type} (o : Out α) (k : α → MH → Out β) : Out β := match o with
  | .ok a h => k a h
  | _ => .bad
theorem Out.nx_ok {α β : Type} {o : Out α} {k : α → MH → Out β} {b : β} {h : MH} (e : o.nx k = .ok b h) : ∃ a h1, o = .ok a h1 ∧ k a h1 = .ok b h := by
  cases o with
  | ok a h1 => exact ⟨a, h1, rfl, e⟩
  | exc c fs h1 => cases e
  | bad => cases e
def lcF (g : TgF) (ft : EvF Bool) (fe : EvF D) (env : KF.Env) : List D → MH → Out (List PyData)
  | [], h => .ok [] h
  | x :: r, h => match g x env with
    | none => .bad
    | some env1 => (ft env1 h).nx fun b h1 => if b = true then (fe env1 h1).nx fun d h2 => match d with
        | .py y => (lcF g ft fe env r h2).nx fun ys h3 => .ok (y :: ys) h3
        | _ => .bad
      else lcF g ft fe env r h1
def mkL (ds : List PyData) (h : MH) : Out D := if fits ds.length = true then .ok (.py (.list ds)) h else .bad
def semLc (vs : List Nat) (fi : EvF (List D)) (g : TgF) (ft : EvF Bool) (fe : EvF D) : EvF D := fun env h => (fi env h).bind fun xs h1 => match wipeE env vs with
  | none => .bad
  | some ew => (lcF g ft fe ew xs h1).nx mkL
theorem mkL_ok {ds : List PyData} {h h' : MH} {d : D} (e : mkL ds h = .ok d h') : d = .py (.list ds) ∧ h' = h ∧ ds.length ≤ sizeLine := by
  unfold mkL at e
  split at e
  · rename_i c; cases e; exact ⟨rfl, rfl, fits.ok c⟩
  · cases e
abbrev WX0 : WX := fun _ _ _ _ => False
section
variable {M : MK} {B : Bs} {A : List (Option Addr)} {H1 : Hp} {L1 : List Addr} {h1 : MH} {env : KF.Env} {σ : L2.St} {ad : Addr} {W : WX}
theorem src_in {H : Hp} {L : List Addr} (x : Ext H1 L1 H L) (nD : H1 ad = none) : Stay H1 (Zf B L1 A) H (Zf (B.plus ad) L A) := by
  obtain ⟨N, e, n⟩ := x.pre
  refine ⟨fun a o e z => x.keep a o e fun q => z (.inl q), x.tups, x.frzs, fun a o e' z => ?_⟩
  rcases z with z | (z | z) | z
  · rw [e] at z
    rcases List.mem_append.mp z with q | q
    · exact .inl q
    · rw [n a q] at e'; cases e'
  · exact .inr (.inl z)
  · subst z; rw [nD] at e'; cases e'
  · exact .inr (.inr z)
theorem Ext.updD {H : Hp} {L : List Addr} {o : HO} (x : Ext H1 L1 H L) (nD : H1 ad = Option.none) : Ext H1 L1 (upd H ad o) L := by
  have ne : ∀ a o, H1 a = some o → a ≠ ad := fun a o e q => by subst q; rw [nD] at e; cases e
  exact ⟨fun a o e hl => by rw [upd_ne (ne a o e)]; exact x.keep a o e hl, fun a xs e => by rw [upd_ne (ne a _ e)]; exact x.tups a xs e, fun a o u e => by rw [upd_ne (ne a _ e)]; exact x.frzs a o u e, x.pre, fun a o e => by rw [upd_ne (ne a _ e)]; exact x.dom a o e⟩
/-- the block's end -/
theorem lc_fin {H : Hp} {L : List Addr} {h : MH} {ew : KF.Env} {σw : L2.St} {ds : List PyData} {us : List V} {Q : VK} (gd : Good M B H1 L1 A h1 env σ) (nD : H1 ad = none) (q : PostFr M B A env σ W H1 L1 Q (.ok (.py (.list ds)) h))
    (g : Good M (B.plus ad) H L A h ew σw) (x : Ext H1 L1 H L) (eD : H ad = some (.lst us)) (r : RelPs M.K H (Zf (B.plus ad) L A) ds us) : Q (.ref ad) H := by
  have n0 : B.H0 ad = none := gd.free0 nD
  have nS : ¬ B.S ad := fun z => by obtain ⟨o, e⟩ := gd.sdom ad z; rw [nD] at e; cases e
  have g2 : Good M B (del H ad) L A h ew σw := g.minus n0 nS eD
  have g3 := gd.leave (x.del nD) g2
  have := q ds (del H ad) L ad us rfl (x.del nD) g3 del_same (r.stay (del_stay eD))
  rw [upd_del eD] at this
  exact this
theorem lc_go {J : It} {xs : List D} {Src : Hp → (Addr → Prop) → Prop} (wi : WIt M J xs Src) (st : ∀ H Z H' Z', Stay H Z H' Z' → Src H Z → Src H' Z') {ts vs : List Nat} {g : TgF} {ft : EvF Bool} {fe : EvF D} {ew : KF.Env} {ds : List PyData} {h2 : MH} {Q : VK}
    (sub : ∀ i ∈ ts, i ∈ vs) (gd : Good M B H1 L1 A h1 env σ) (src : Src H1 (Zf B L1 A)) (ee : wipeE env vs = some ew) (el : lcF g ft fe ew xs h1 = .ok ds h2) (hz : ds.length ≤ sizeLine) (q : PostFr M B A env σ W H1 L1 Q (.ok (.py (.list ds)) h2)) (nD : H1 ad = none) :
    ∃ Wv : Nat → Nat → Hp → Prop, (∃ m, Wv 0 m (upd H1 ad (.lst []))) ∧ ∀ i m H, Wv i m H →
      (J.stop i H ∧ Q (.ref ad) H) ∨ (J.go i H ∧ ∃ Nx : Hp → Prop, (∀ H', Nx H' → ∃ m', m' < m ∧ Wv (i + 1) m' H') ∧ ∀ x H', J.yld i H x H' → kG M ts g x (L2.wipe σ vs) H' fun σ2 H2 => L2.wipe σ2 vs = L2.wipe σ vs ∧ kT M WX0 ft σ2 H2 fun b H3 =>
        if b = true then kE M .n WX0 fe σ2 H3 fun y H4 => ∃ acc, H4 ad = some (.lst acc) ∧ acc.length < sizeLine ∧ Nx (upd H4 ad (.lst (acc ++ [y]))) else Nx H3) := by
  have n0 : (B.plus ad).H0 ad = none := gd.free0 nD
  have sD : (B.plus ad).S ad := .inr rfl
  have g0 : Good M (B.plus ad) (upd H1 ad (.lst [])) L1 A h1 env σ := gd.plus nD
  obtain ⟨hn, gw⟩ := g0.wipe ee
  refine ⟨fun i m H => m = xs.length - i ∧ i ≤ xs.length ∧ ∃ L h acc us rest, Good M (B.plus ad) H L A h ew (L2.wipe σ vs) ∧ Ext H1 L1 H L ∧ H ad = some (.lst us) ∧ RelPs M.K H (Zf (B.plus ad) L A) acc us ∧ lcF g ft fe ew (xs.drop i) h = .ok rest h2 ∧ acc ++ rest = ds,
    ⟨xs.length, by simp, Nat.zero_le _, L1, h1, [], [], ds, gw, (Ext.refl H1 L1).updD nD, upd_same, .nil, el, rfl⟩, ?_⟩
  rintro i m H ⟨rfl, hi, L, h, acc, us, rest, g', x', eD, r', el', ea⟩
  have src' : Src H (Zf (B.plus ad) L A) := st _ _ _ _ (src_in x' nD) src
  obtain ⟨w1, w2⟩ := wi _ H L A h ew _ g' src' i
  have dL : ad ∉ L := fun z => g'.ls ad z sD
  by_cases hl : i < xs.length
  · obtain ⟨x, hx⟩ : ∃ x, xs[i]? = some x := ⟨_, List.getElem?_eq_getElem hl⟩
    obtain ⟨go, yld⟩ := w2 x hx
    have ed : xs.drop i = x :: xs.drop (i + 1) := by
      rw [List.drop_eq_getElem_cons hl]
      rw [List.getElem?_eq_getElem hl] at hx
      cases hx; rfl
    rw [ed] at el'
    refine .inr ⟨go, fun H' => ∃ L h acc us rest, Good M (B.plus ad) H' L A h ew (L2.wipe σ vs) ∧ Ext H1 L1 H' L ∧ H' ad = some (.lst us) ∧ RelPs M.K H' (Zf (B.plus ad) L A) acc us ∧ lcF g ft fe ew (xs.drop (i + 1)) h = .ok rest h2 ∧ acc ++ rest = ds, fun H' z => ⟨xs.length - (i + 1), by omega, rfl, hl, z⟩, fun v H' hy => ?_⟩
    obtain ⟨sm, r⟩ := yld v H' hy
    unfold lcF at el'
    cases eg : g x ew with
    | none => rw [eg] at el'; cases el'
    | some env1 =>
      rw [eg] at el'
      refine ⟨B.plus ad, L, A, h, ew, x, g'.same sm, r, env1, eg, fun σ2 A2 up g2 => ?_⟩
      cases up.same sub hn
      refine ⟨up.wiped sub, ?_⟩
      obtain ⟨b, h3, et, el2⟩ := Out.nx_ok el'
      refine ⟨B.plus ad, L, A, h, env1, g2, ?_⟩
      rw [et]
      intro b' H3 L3 x3 g3 eb
      cases (show b = b' from eb)
      have xs3 : Ext H L H3 L3 := (Ext.same L sm).trans x3
      have eD3 : H3 ad = some (.lst us) := xs3.keep ad _ eD dL
      have r3 := r'.stay (Z' := Zf (B.plus ad) L3 A) xs3.stay
      cases b with
      | false =>
        simp only [Bool.false_eq_true, if_false] at el2 ⊢
        exact ⟨L3, h3, acc, us, rest, g'.leave xs3 g3, x'.trans xs3, eD3, r3, el2, ea⟩
      | true =>
        simp only [if_true] at el2 ⊢
        obtain ⟨d, h4, ef, el3⟩ := Out.nx_ok el2
        refine ⟨B.plus ad, L3, A, h3, env1, g3, ?_⟩
        rw [ef]
        intro y H4 L4 x4 g4 r4
        cases d with
        | loc n => cases el3
        | scr n => cases el3
        | py d =>
          obtain ⟨ys, h5, el4, e5⟩ := Out.nx_ok el3
          cases e5
          have xs4 : Ext H L H4 L4 := xs3.trans x4
          have dL3 : ad ∉ L3 := fun z => g3.ls ad z sD
          have eD4 : H4 ad = some (.lst us) := x4.keep ad _ eD3 dL3
          have r5 : RelPs M.K H4 (Zf (B.plus ad) L4 A) (acc ++ [d]) (us ++ [y]) := by
            cases r4 with
            | py r4 => exact (r3.stay (Z' := Zf (B.plus ad) L4 A) x4.stay).append (.cons r4 .nil)
          refine ⟨us, eD4, ?_, L4, h4, acc ++ [d], us ++ [y], ys, (g'.leave xs4 g4).setS sD n0 eD4, (x'.trans xs4).updD nD, upd_same, r5.stay (setS_stay sD eD4), el4, by rw [List.append_assoc]; exact ea⟩
          have hlen : acc.length < ds.length := by rw [← ea, List.length_append, List.length_cons]; omega
          rw [← r'.length]; omega
  · have ei : i = xs.length := by omega
    subst ei
    rw [List.drop_length] at el'
    cases el'
    rw [List.append_nil] at ea
    subst ea
    exact .inl ⟨w1 (Nat.le_refl _), lc_fin gd nD q g' x' eD r'⟩
variable {X : Cx}
theorem lc_read {ts vs : List Nat} {fi : EvF (List D)} {g : TgF} {ft : EvF Bool} {fe : EvF D} {Q : VK} {H : Hp} {σ : L2.St} (sub : ∀ i ∈ ts, i ∈ vs) (q : kF M W (semLc vs fi g ft fe) σ H Q) : tLc (kI M W fi) (kG M ts g) (kT M WX0 ft) (kE M .n WX0 fe) vs σ H Q := by
  obtain ⟨B, L, A, h, env, gd, p⟩ := q
  refine ⟨B, L, A, h, env, gd, ?_⟩
  unfold semLc at p
  cases e : fi env h with
  | exc c fs h1 => rw [e] at p; exact p
  | bad => rw [e] at p; exact p
  | ok xs h1 =>
    rw [e] at p
    intro J H1 L1 x1 g1 r ad nD
    obtain ⟨Src, wi, st, src⟩ := r
    have p : PostFr M B A env σ W H L Q (match wipeE env vs with
      | none => .bad
      | some ew => (lcF g ft fe ew xs h1).nx mkL) := p
    cases ee : wipeE env vs with
    | none => rw [ee] at p; exact p.elim
    | some ew =>
      rw [ee] at p
      have p : PostFr M B A env σ W H L Q ((lcF g ft fe ew xs h1).nx mkL) := p
      cases el : lcF g ft fe ew xs h1 with
      | exc c fs h1 => rw [el] at p; exact p.elim
      | bad => rw [el] at p; exact p.elim
      | ok ds h2 =>
        rw [el] at p
        have p : PostFr M B A env σ W H L Q (mkL ds h2) := p
        unfold mkL at p
        by_cases hf : fits ds.length = true
        · rw [if_pos hf] at p
          exact lc_go wi st sub g1 src ee el (fits.ok hf) (PostFr.from x1 p) nD
        · rw [if_neg hf] at p; exact p.elim
theorem PTs.mono {X : Cx} {e : List Expr} {t t' : TT} (h : PTs X e t) (i : ∀ σ H Q, t' σ H Q → t σ H Q) : PTs X e t' := ⟨fun pins s σ H Q I q => h.run pins s σ H Q I (i σ H Q q)⟩
def semYes : EvF Bool := fun _ h => .ok true h
theorem k_yes : PTs X [] (kT M W semYes) := PTs.mono pts_nil fun σ H Q ⟨B, L, A, h, env, g, p⟩ => p.fin g (Same.refl H) rfl
abbrev BlkPE (X : Cx) (scope : Scope) (P : Cx → Prop) : Prop := ∀ (s : Shared) (H : Hp) (C : Addr) (cl : List (Str × Addr)) (fp : List Addr), P (X.blk s H scope (compEnvC scope cl C X.env) fp)
theorem k_lc {elt tg iter : Expr} {ifs : List Expr} {scope : Scope} {own : List (Str × Nat)} {pos : Pos} {ts : List Nat} {fi : EvF (List D)} {g : TgF} {ft : EvF Bool} {fe : EvF D} (hc : X.calm = true) (hN : X.N.Nodup) (hi : PI X tg iter (kI M W fi)) (ok : BlkOk X.N X.env.scope scope own)
    (sub : ∀ i ∈ ts, i ∈ own.map (·.2)) (hg : BlkPE X scope fun Y => PG Y tg (kG M ts g)) (ht : BlkPE X scope fun Y => PTs Y ifs (kT M WX0 ft)) (he : BlkPE X scope fun Y => PE Y elt (kE M .n WX0 fe)) (hs : ∀ x, foldedSetIterable iter X.env x = pure x) :
    PE X (.ListComp elt [⟨tg, iter, ifs, 0⟩] scope pos) (kF M W (semLc (own.map (·.2)) fi g ft fe)) :=
  PE.mono (pe_lc hc hN hi ok hg ht he hs) fun _ _ _ q => lc_read sub q
/-- y = [..] -/
theorem s_ownLc {i : Nat} {y : Str} {py : Pos} {elt tg iter : Expr} {ifs : List Expr} {scope : Scope} {own : List (Str × Nat)} {pos spos : Pos} {ts : List Nat} {fi : EvF (List D)} {g : TgF} {ft : EvF Bool} {fe : EvF D} (hc : X.calm = true) (hN : X.N.Nodup) (hy : X.N[i]? = some y) (hyl : X.env.scope.names.lookup y = some .local)
    (hsw : swapsWith (.ListComp elt [⟨tg, iter, ifs, 0⟩] scope pos) (some (.Name y py)) spos.line X.env = pure true) (hi : PI X tg iter (kI M W fi)) (ok : BlkOk X.N X.env.scope scope own)
    (sub : ∀ i ∈ ts, i ∈ own.map (·.2)) (hg : BlkPE X scope fun Y => PG Y tg (kG M ts g)) (ht : BlkPE X scope fun Y => PTs Y ifs (kT M WX0 ft)) (he : BlkPE X scope fun Y => PE Y elt (kE M .n WX0 fe)) (hs : ∀ x, foldedSetIterable iter X.env x = pure x) :
    PS X (.Assign [.Name y py] (.ListComp elt [⟨tg, iter, ifs, 0⟩] scope pos) spos) (kS M W (semOwn i (semLc (own.map (·.2)) fi g ft fe))) :=
  PS.mono (ps_setLc hc hN hy hyl hsw hi ok hg ht he hs) fun _ _ _ q => lc_read sub (own_core q)
end
end KF
set_option Elab.async false
set_option linter.all false
set_option maxRecDepth 100000
set_option maxHeartbeats 4000000
/-! KF, part 13: values that are new lists or no lists; +, in, slices; places made. -/
namespace KF
open PySem PySem.Spec PyProof.Rows L2
def isL : D → Bool
  | .py (.list _) => true
  | _ => false
section
variable {X : Cx} {M : MK} {m m' : Mode} {W : WX}
def PostX (M : MK) (B : Bs) (A : List (Option Addr)) (env : KF.Env) (σ : L2.St) (W : WX) (H : Hp) (L : List Addr) (Q : VK) (o : Out D) : Prop := match o with
  | .ok d h' => if isL d = true then PostFr M B A env σ W H L Q (.ok d h') else Post M B A env σ W (RelM M .n B A) H L Q (.ok d h')
  | o => PostFr M B A env σ W H L Q o
def kX (M : MK) (W : WX) (f : EvF D) : TE := fun σ H Q => ∃ B L A h env, Good M B H L A h env σ ∧ PostX M B A env σ W H L Q (f env h)
theorem PostX.from {B : Bs} {A : List (Option Addr)} {env : KF.Env} {σ : L2.St} {H H1 : Hp} {L L1 : List Addr} {Q : VK} {o : Out D} (x : Ext H L H1 L1) (p : PostX M B A env σ W H L Q o) : PostX M B A env σ W H1 L1 Q o := by
  cases o with
  | ok d h =>
    unfold PostX at p ⊢
    dsimp only at p ⊢
    by_cases e : isL d = true
    · rw [if_pos e] at p ⊢; exact PostFr.from x p
    · rw [if_neg e] at p ⊢; exact Post.from (R := RelM M .n) sm_M x p
  | exc c fs h => exact PostFr.from (M := M) (B := B) (Q := Q) (o := .exc c fs h) x p
  | bad => exact p
theorem fr_n {B : Bs} {A : List (Option Addr)} {env : KF.Env} {σ : L2.St} {H : Hp} {L : List Addr} {Q : VK} {d : D} {h' : MH} (e : isL d = true) (q : Post M B A env σ W (RelM M .n B A) H L Q (.ok d h')) : PostFr M B A env σ W H L Q (.ok d h') := by
  intro ps H1 L1 a vs ed x g1 ha r
  subst ed
  exact q _ _ L1 (x.trans (Ext.same L1 (same_upd ha))) (g1.same (same_upd ha)) (RelM.ofP (.lst (.inl upd_same) (g1.free ha) (r.stay (Ext.same L1 (same_upd ha)).stay)))
theorem PE.ofX {e : Expr} {f : EvF D} (p : PE X e (kX M W f)) : PE X e (kE M .n W f) := by
  refine PE.mono p fun σ H Q ⟨B, L, A, h, env, g, q⟩ => ⟨B, L, A, h, env, g, ?_⟩
  cases ef : f env h with
  | ok d h' =>
    rw [ef] at q
    unfold PostX
    dsimp only
    by_cases e : isL d = true
    · rw [if_pos e]; exact fr_n e q
    · rw [if_neg e]; exact q
  | exc c fs h' => rw [ef] at q; exact q
  | bad => rw [ef] at q; exact q
theorem PE.xOfF {e : Expr} {f : EvF D} (p : PE X e (kF M W f)) (hl : ∀ env h d h', f env h = .ok d h' → isL d = true) : PE X e (kX M W f) := by
  refine PE.mono p fun σ H Q ⟨B, L, A, h, env, g, q⟩ => ⟨B, L, A, h, env, g, ?_⟩
  cases ef : f env h with
  | ok d h' =>
    rw [ef] at q
    unfold PostX at q
    dsimp only at q
    rw [if_pos (hl _ _ _ _ ef)] at q
    exact q
  | exc c fs h' => rw [ef] at q; exact q
  | bad => rw [ef] at q; exact q
theorem tG_bindX {α β : Type} {B : Bs} {A : List (Option Addr)} {env : KF.Env} {σ : L2.St} {R : RT α β} {H : Hp} {L : List Addr} {h : MH} {f : EvF α} {k : α → MH → Out D} {Q : VK} {T : β → Hp → Prop}
    (g : Good M B H L A h env σ) (p : PostX M B A env σ W H L Q ((f env h).bind k))
    (hk : ∀ a h1 b H1 L1, f env h = .ok a h1 → Ext H L H1 L1 → Good M B H1 L1 A h1 env σ → R B A H H1 L1 a b → PostX M B A env σ W H1 L1 Q (k a h1) → T b H1) : tG M R W f σ H T := by
  refine ⟨B, L, A, h, env, g, ?_⟩
  cases e : f env h with
  | ok a h1 => rw [e] at p; exact fun b H' L' x g' r => hk a h1 b H' L' e x g' r (PostX.from x p)
  | exc c fs h1 => rw [e] at p; exact p
  | bad => rw [e] at p; exact p
theorem PostX.tX {B : Bs} {A : List (Option Addr)} {H : Hp} {L : List Addr} {h : MH} {env : KF.Env} {σ : L2.St} {f : EvF D} {Q : VK} (g : Good M B H L A h env σ) (p : PostX M B A env σ W H L Q (f env h)) : kX M W f σ H Q := ⟨B, L, A, h, env, g, p⟩
theorem k_ifxX {t a b : Expr} {ft : EvF Bool} {fa fb : EvF D} {pos : Pos} (ht : PT X t (kT M W ft)) (ha : PE X a (kX M W fa)) (hb : PE X b (kX M W fb)) : PE X (.IfExp t a b pos) (kX M W (semIf ft fa fb)) := by
  refine PE.mono (pe_ifExp ht ha hb) fun σ H Q ⟨B, L, A, h, env, g, p⟩ => ?_
  refine tG_bindX g p fun x h1 v H1 L1 e1 x1 g1 r1 p1 => ?_
  cases (show x = v from r1)
  cases x with
  | true => exact PostX.tX g1 p1
  | false => exact PostX.tX g1 p1
/-! ### an operation whose value is a new list or no list -/
def Op2X (M : MK) (r : R2) (fo : MH → D → D → Option D) : Prop :=
  ∀ (B : Bs) (A : List (Option Addr)) (H : Hp) (L : List Addr) (h : MH) (env : KF.Env) (σ : L2.St) (d1 d2 d3 : D) (v1 v2 : V) (Q : VK), Good M B H L A h env σ → RelM M .b B A H H L d1 v1 → RelM M .b B A H H L d2 v2 → fo h d1 d2 = some d3 →
    (∀ ps a vs, d3 = .py (.list ps) → H a = none → RelPs M.K H (Zf B L A) ps vs → Q (.ref a) (upd H a (.lst vs))) → (isL d3 = false → ∀ v H', Same H H' → RelM M .n B A H H' L d3 v → Q v H') → r v1 v2 H Q
theorem PostX.fin {B : Bs} {A : List (Option Addr)} {env : KF.Env} {σ : L2.St} {H : Hp} {L : List Addr} {h : MH} {Q : VK} {d3 : D} (p : PostX M B A env σ W H L Q (.ok d3 h)) (g : Good M B H L A h env σ) :
    (∀ ps a vs, d3 = .py (.list ps) → H a = none → RelPs M.K H (Zf B L A) ps vs → Q (.ref a) (upd H a (.lst vs))) ∧ (isL d3 = false → ∀ v H', Same H H' → RelM M .n B A H H' L d3 v → Q v H') := by
  unfold PostX at p
  dsimp only at p
  refine ⟨fun ps a vs e n r => ?_, fun e v H' s r => ?_⟩
  · subst e
    rw [if_pos (by rfl)] at p
    exact PostFr.fin p g n r
  · rw [if_neg (by rw [e]; exact Bool.false_ne_true)] at p
    exact Post.fin p g s r
theorem k_opX {op : Operator} {r : R2} {fo : MH → D → D → Option D} {a b : Expr} {fa fb : EvF D} {pos : Pos} (ho : OpR X (binaryOp op) r) (o2 : Op2X M r fo) (ha : PE X a (kE M .b W fa)) (hb : PE X b (kE M .b W fb)) :
    PE X (.BinOp a op b pos) (kX M W (sem2 fa fb fo)) := by
  refine PE.mono (pe_op ho ha hb) fun σ H Q ⟨B, L, A, h, env, g, p⟩ => ?_
  refine tG_bindX g p fun x h1 v H1 L1 e1 x1 g1 r1 p1 => ?_
  refine tG_bindX g1 p1 fun y h2 u H2 L2 e2 x2 g2 r2 p2 => ?_
  have r1' : RelM M .b B A H2 H2 L2 x v := r1.stay x2 fun i a ha => (g1.own i a ha).1
  cases e : fo h2 x y with
  | none => rw [e] at p2; exact p2.elim
  | some d3 =>
    rw [e] at p2
    obtain ⟨q1, q2⟩ := PostX.fin p2 g2
    exact o2 B A H2 L2 h2 env σ x y d3 v u Q g2 r1' r2 e q1 q2
theorem op_or {f : Value → Value → Sem Value} {r r' : R2} (h : OpR X f r) (h' : OpR X f r') : OpR X f (fun x y H Q => r x y H Q ∨ r' x y H Q) := by
  intro pins s σ H x y v u Q I rx ry q
  rcases q with q | q
  · exact h pins s σ H x y v u Q I rx ry q
  · exact h' pins s σ H x y v u Q I rx ry q
/-! ### + -/
def rAddS : R2 := fun x y H Q => ∃ i j, x = .str i ∧ y = .str j ∧ i.length + j.length ≤ sizeLine ∧ Q (.str (i ++ j)) H
def rAdd (K : PySem.W.Frag) : R2 := fun x y H Q => ((rI0 fun i j => .int (i + j)) x y H Q ∨ rAddS x y H Q) ∨ rCatTA K x y H Q ∨ rCatR x y H Q
theorem op_addU : OpR X (binaryOp .Add) (rAdd X.K) := op_or (op_or op_add op_add_str) (op_or op_catTA op_catR)
def addO : MH → D → D → Option D := fun h x y => match x, y with
  | .py (.int i), .py (.int j) => some (.py (.int (i + j)))
  | .py (.str a), .py (.str b) => if sOk (a ++ b) = true then some (.py (.str (a ++ b))) else none
  | .py (.tuple xs), .py (.tuple ys) => if fits (xs.length + ys.length) = true then some (.py (.tuple (xs ++ ys))) else none
  | x, y => catL h x y
theorem str_len {a b : Str} : (a ++ b).length = a.length + b.length := by
  show (a.cps ++ b.cps).size = _
  rw [Array.size_append]; rfl
theorem o_addU : Op2X M (rAdd M.K) addO := by
  intro B A H L h env σ d1 d2 d3 v1 v2 Q g r1 r2 e k1 k2
  unfold addO at e
  split at e
  · cases e
    exact .inl (.inl ⟨_, _, r1.int, r2.int, k2 rfl _ _ (Same.refl H) (RelM.ofP (.int _))⟩)
  · split at e
    · rename_i a b c
      cases e
      obtain ⟨rfl, o1⟩ := r1.str
      obtain ⟨rfl, o2⟩ := r2.str
      refine .inl (.inr ⟨_, _, rfl, rfl, ?_, k2 rfl _ _ (Same.refl H) (RelM.ofP (.str _ c))⟩)
      rw [← str_len]
      exact sOk.line c
    · cases e
  · rename_i xs ys
    split at e
    · rename_i c
      have e' : catT h (.py (.tuple xs)) (.py (.tuple ys)) = some d3 := by
        unfold catT
        dsimp only
        rw [if_pos c]; exact e
      refine .inr (.inl (o_catT B A H L h env σ _ _ d3 v1 v2 Q g r1 r2 e' (k2 ?_)))
      cases e; rfl
    · cases e
  · exact .inr (.inr (o_catL B A H L h env σ _ _ d3 v1 v2 Q g r1 r2 e k1))
/-! ### in -/
def seqD (h : MH) : D → Option (List PyData)
  | .py (.tuple xs) => some xs
  | d => listOf h d
def inD : MH → D → D → Option Bool := fun h x y => match x, seqD h y with
  | .py d, some ds => if shal 64 d = true then some (ds.any fun z => PyData.eqv z d) else none
  | _, _ => none
def ninD : MH → D → D → Option Bool := fun h x y => (inD h x y).map (!·)
def rInU (K : PySem.W.Frag) (n : Bool) : R2 := fun x y H Q => ∃ d ds, Dp K H x d ∧ (Dp K H y (.list ds) ∨ Dp K H y (.tuple ds)) ∧ d.canLay0 = true ∧ PyData.canLayAll0 ds = true ∧ d.depth ≤ 64 ∧ Q (.bl (xor n (ds.any fun z => PyData.eqv z d))) H
theorem op_inU (hu : X.A.units + 65 < cLine) : OpR X (compareOp .In) (rInU X.K false) := by
  intro pins s σ H x y v u Q I rx ry h
  obtain ⟨d, ds, hd, he, c1, c2, dp, q⟩ := h
  rw [Bool.false_xor] at q
  obtain ⟨as, r1⟩ := Dp.reads I d x v hd rx
  have room : X.A.units + 1 + min (PyData.depthAll ds) d.depth < cLine := by
    have := Nat.min_le_right (PyData.depthAll ds) d.depth
    omega
  rcases he with he | he
  · obtain ⟨bs, r2⟩ := Dp.reads I (.list ds) y u he ry
    exact SeqAt.in_list_reads r2 r1 c2 c1 room ⟨.bl _, H, I, rfl, q⟩
  · obtain ⟨bs, r2⟩ := Dp.reads I (.tuple ds) y u he ry
    exact SeqAt.in_tuple_reads r2 r1 c2 c1 room ⟨.bl _, H, I, rfl, q⟩
theorem op_ninU (hu : X.A.units + 65 < cLine) : OpR X (compareOp .NotIn) (rInU X.K true) := by
  intro pins s σ H x y v u Q I rx ry h
  obtain ⟨d, ds, hd, he, c1, c2, dp, q⟩ := h
  rw [Bool.true_xor] at q
  obtain ⟨as, r1⟩ := Dp.reads I d x v hd rx
  have room : X.A.units + 1 + min (PyData.depthAll ds) d.depth < cLine := by
    have := Nat.min_le_right (PyData.depthAll ds) d.depth
    omega
  rcases he with he | he
  · obtain ⟨bs, r2⟩ := Dp.reads I (.list ds) y u he ry
    exact SeqAt.notIn_list_reads r2 r1 c2 c1 room ⟨.bl _, H, I, rfl, q⟩
  · obtain ⟨bs, r2⟩ := Dp.reads I (.tuple ds) y u he ry
    exact SeqAt.notIn_tuple_reads r2 r1 c2 c1 room ⟨.bl _, H, I, rfl, q⟩
theorem seqD_dp {B : Bs} {A : List (Option Addr)} {H : Hp} {L : List Addr} {h : MH} {env : KF.Env} {σ : L2.St} {d : D} {v : V} {xs : List PyData} (g : Good M B H L A h env σ) (r : RelM M .b B A H H L d v) (e : seqD h d = some xs) :
    (Dp M.K H v (.list xs) ∨ Dp M.K H v (.tuple xs)) ∧ PyData.canLayAll0 xs = true := by
  unfold seqD at e
  split at e
  · cases e
    obtain ⟨a, vs, rfl, h1, h2⟩ := r.tup
    exact ⟨.inr (.tup h1 h2.dp), h2.lay⟩
  · obtain ⟨a, vs, rfl, h1, h2⟩ := listOf_rel g r e
    exact ⟨.inl (.lst (.inl h1) h2.dp), h2.lay⟩
theorem inD_core {B : Bs} {A : List (Option Addr)} {H : Hp} {L : List Addr} {h : MH} {env : KF.Env} {σ : L2.St} {d1 d2 : D} {b n : Bool} {v1 v2 : V} {Q : VK} (g : Good M B H L A h env σ) (r1 : RelM M .b B A H H L d1 v1) (r2 : RelM M .b B A H H L d2 v2) (e : inD h d1 d2 = some b)
    (q : Q (.bl (xor n b)) H) : rInU M.K n v1 v2 H Q := by
  unfold inD at e
  split at e
  · rename_i d ds es
    split at e
    · rename_i c
      cases e
      obtain ⟨h1, h2⟩ := seqD_dp g r2 es
      exact ⟨d, ds, r1.dp, h1, r1.lay, h2, shal_depth d 64 r1.lay c, q⟩
    · cases e
  · cases e
theorem c_in : Cm2 M (rInU M.K false) inD := by
  intro B A H L h env σ d1 d2 b v1 v2 Q g r1 r2 e q
  exact inD_core g r1 r2 e (by rw [Bool.false_xor]; exact q)
theorem c_nin : Cm2 M (rInU M.K true) ninD := by
  intro B A H L h env σ d1 d2 b v1 v2 Q g r1 r2 e q
  unfold ninD at e
  cases e2 : inD h d1 d2 with
  | none => rw [e2] at e; cases e
  | some k => rw [e2] at e; cases e; exact inD_core g r1 r2 e2 (by rw [Bool.true_xor]; exact q)
/-! ### places made -/
theorem Ext.newP {H : Hp} {L : List Addr} {p : Addr} {o : HO} (n : H p = Option.none) : Ext H L (upd H p o) (L ++ [p]) := by
  have sm : Same H (upd H p o) := same_upd n
  refine ⟨fun a o e _ => sm a o e, fun a xs e => sm a _ e, fun a o u e => sm a _ e, ⟨[p], rfl, fun a ha => ?_⟩, fun a o e => ⟨o, sm a o e⟩⟩
  have ha : a = p := by simpa using ha
  rw [ha]; exact n
theorem RelDs.ofPs {K : PySem.W.Frag} {H : Hp} {L : List Addr} {Z : Addr → Prop} : ∀ {ds : List PyData} {vs : List V}, RelPs K H Z ds vs → RelDs K H L Z (ds.map .py) vs
  | _, _, .nil => .nil
  | _, _, .cons r t => .cons (.py r) (RelDs.ofPs t)
def promO (d : D) (h : MH) : Out D := match d with
  | .py (.list ps) => .ok (.loc h.length) (h ++ [.lst (ps.map .py)])
  | _ => .bad
def semProm (f : EvF D) : EvF D := fun env h => (f env h).bind promO
theorem newP_rel {B : Bs} {A : List (Option Addr)} {H : Hp} {L : List Addr} {h : MH} {env : KF.Env} {σ : L2.St} {Q : VK} {ds : List D} {vs : List V} {p : Addr} (g : Good M B H L A h env σ) (n : H p = none) (r : RelDs M.K H L (Zf B L A) ds vs)
    (q : Post M B A env σ W (RelM M .n B A) H L Q (.ok (.loc h.length) (h ++ [.lst ds]))) : Q (.ref p) (upd H p (.lst vs)) := by
  refine q (.ref p) (upd H p (.lst vs)) (L ++ [p]) (Ext.newP n) (g.newL n fun Z hz => .lst upd_same ?_) (RelD.loc ?_)
  · exact r.stay (M := [p]) ⟨fun a o e _ => same_upd n a o e, fun a xs e => same_upd n a _ e, fun a o u e => same_upd n a _ e, fun a o e z => hz a o e z⟩
  · rw [← g.len, List.getElem?_append_right (Nat.le_refl _), Nat.sub_self]; rfl
theorem k_prom {e : Expr} {f : EvF D} (p : PE X e (kF M W f)) : PE X e (kE M .n W (semProm f)) := by
  refine PE.mono p fun σ H Q ⟨B, L, A, h, env, g, q⟩ => ⟨B, L, A, h, env, g, ?_⟩
  unfold semProm at q
  cases ef : f env h with
  | ok d h' =>
    rw [ef] at q
    intro ps H1 L1 a vs ed x g1 ha r
    subst ed
    exact newP_rel g1 ha (RelDs.ofPs r) (Post.from (R := RelM M .n) sm_M x q)
  | exc c fs h' => rw [ef] at q; exact q
  | bad => rw [ef] at q; exact q
def semLstL (f : EvF (List D)) : EvF D := fun env h => (f env h).bind fun ds h1 => if fits ds.length = true then .ok (.loc h1.length) (h1 ++ [.lst ds]) else .bad
theorem k_lstL {es : List Expr} {f : EvF (List D)} {pos : Pos} (ha : PA X es (kA M .n W f)) : PE X (.List es pos) (kE M .n W (semLstL f)) := by
  refine PE.mono (pe_lst ha) fun σ H Q ⟨B, L, A, h, env, g, p⟩ => ?_
  refine tG_bind sm_M g p fun ds h1 vs H1 L1 e1 x1 g1 r1 p1 => ?_
  by_cases hf : fits ds.length = true
  · rw [if_pos hf] at p1
    exact ⟨by rw [← r1.length]; exact fits.ok hf, fun q hq => newP_rel g1 hq r1.ds p1⟩
  · rw [if_neg hf] at p1; exact p1.elim
/-! ### slices -/
def cutSt (z : Str) (lo hi : Option Int) : Str := cutS z lo hi
def cutU : D → Option Int → Option Int → Option D
  | .py (.list xs), lo, hi => some (.py (.list (cut xs lo hi)))
  | .py (.tuple xs), lo, hi => some (.py (.tuple (cut xs lo hi)))
  | .py (.str z), lo, hi => if sOk (cutS z lo hi) = true then some (.py (.str (cutS z lo hi))) else none
  | _, _, _ => none
def rSlL (K : PySem.W.Frag) : V → Option Int → Option Int → Hp → VK → Prop := fun x lo hi H Q => ∃ a xs, x = .ref a ∧ SqL K H a xs ∧ ∀ p, H p = none → Q (.ref p) (upd H p (.lst (cutV xs lo hi)))
def rSlS : V → Option Int → Option Int → Hp → VK → Prop := fun x lo hi H Q => ∃ z, x = .str z ∧ z.length ≤ sizeLine ∧ Q (.str (cutS z lo hi)) H
theorem k_slX (hK : M.K = X.K) {e : Expr} {lo hi : Option Expr} {p2 pos : Pos} {fa : EvF D} {fl fh : EvF (Option Int)} (ha : PE X e (kE M .b W fa)) (hl : PO X lo (kO M W fl)) (hh : PO X hi (kO M W fh)) :
    PE X (.Subscript e (.Slice lo hi none p2) pos) (kX M W (semSl fa fl fh cutU)) := by
  refine PE.mono (pe_slice (SlR.or sl_tupA (SlR.or sl_list sl_str)) ha hl hh) fun σ H Q ⟨B, L, A, h, env, g, p⟩ => ?_
  refine tG_bindX g p fun x h1 v H1 L1 e1 x1 g1 r1 p1 => ?_
  refine tG_bindX g1 p1 fun lo h2 lo' H2 L2 e2 x2 g2 r2 p2 => ?_
  refine tG_bindX g2 p2 fun hi h3 hi' H3 L3 e3 x3 g3 r3 p3 => ?_
  cases (show lo = lo' from r2)
  cases (show hi = hi' from r3)
  have r1' : RelM M .b B A H3 H3 L3 x v := r1.stay (x2.trans x3) fun i a ha => (g1.own i a ha).1
  cases e : cutU x lo hi with
  | none => rw [e] at p3; exact p3.elim
  | some d =>
    rw [e] at p3
    obtain ⟨q1, q2⟩ := PostX.fin p3 g3
    unfold cutU at e
    split at e
    · cases e
      obtain ⟨a, vs, rfl, h1, h2⟩ := r1'.list
      exact .inr (.inl ⟨a, vs, rfl, .inl h1, fun q hq => q1 _ _ _ rfl hq (cut_rel h2 lo hi)⟩)
    · cases e
      obtain ⟨a, vs, rfl, h1, h2⟩ := r1'.tup
      refine .inl ⟨a, vs, rfl, hK ▸ h1, fun hw => ?_, fun hw q hq => q2 rfl _ _ (same_upd hq) (relTup hq (cut_rel h2 lo hi))⟩
      have ec : cutV vs lo hi = vs := by
        unfold cutV
        rw [hw.1, hw.2, List.drop_zero, Nat.sub_zero, List.take_length]
      have := cut_rel h2 lo hi
      rw [ec] at this
      exact q2 rfl _ _ (Same.refl _) (RelM.ofP (.tup h1 this))
    · split at e
      · rename_i c
        cases e
        obtain ⟨rfl, o1⟩ := r1'.str
        exact .inr (.inr ⟨_, rfl, sOk.line o1, q2 rfl _ _ (Same.refl _) (RelM.ofP (.str _ c))⟩)
      · cases e
    · cases e
/-! ### stores -/
def stoE (i : Nat) (d : D) (env : KF.Env) : Option KF.Env := if i < env.length then some (env.set i (match d with
  | .py (.list xs) => .o xs
  | d => .v d)) else none
def semSto (i : Nat) (fa : EvF D) : EvS := fun env h => (fa env h).toS env fun d h1 => match stoE i d env with
  | some env' => .nx env' h1
  | none => .bad
theorem isL_false {d : D} (e : isL d ≠ true) : (match d with
  | .py (.list xs) => Sl.o xs
  | d => .v d) = .v d := by
  unfold isL at e
  split at e
  · exact absurd rfl e
  · rename_i h
    cases d with
    | loc n => rfl
    | scr n => rfl
    | py d => cases d <;> first | rfl | exact absurd rfl (h _)
theorem sto_core {i : Nat} {fa : EvF D} {De : Ends} {σ : L2.St} {H : Hp} (q : kS M W (semSto i fa) De σ H) : tAsg (kX M W fa) (gName i) De σ H := by
  obtain ⟨B, L, A, h, env, gd, p⟩ := q
  refine ⟨B, L, A, h, env, gd, ?_⟩
  unfold semSto at p
  cases e : fa env h with
  | ok d h1 =>
    rw [e] at p
    have p : PostS M B W De (match stoE i d env with
      | some env' => .nx env' h1
      | none => .bad) := p
    unfold stoE at p
    by_cases hl : i < env.length
    · rw [if_pos hl] at p
      unfold PostX
      dsimp only at p ⊢
      by_cases el : isL d = true
      · rw [if_pos el]
        intro ps H1 L1 a vs ed x g1 n r
        subst ed
        exact p _ _ _ _ (g1.setNew n r hl)
      · rw [if_neg el]
        rw [isL_false el] at p
        intro b H1 L1 x g1 r
        exact p _ _ _ _ (g1.setV r hl)
    · rw [if_neg hl] at p; exact p.elim
  | exc c fs h1 => rw [e] at p; exact fun cls dd H' L' x g' r => p cls dd σ H' L' A g' r
  | bad => rw [e] at p; exact p
theorem s_sto {i : Nat} {x : Str} {e : Expr} {fa : EvF D} {p1 pos : Pos} (hN : X.N.Nodup) (hi : X.N[i]? = some x) (hx : Loc X.env.scope x) (hf : X.fn x = true ∨ X.env.scope.names.lookup x = some .local) (ha : PE X e (kX M W fa)) (hs : swapsWith e (some (.Name x p1)) pos.line X.env = pure false) :
    PS X (.Assign [.Name x p1] e pos) (kS M W (semSto i fa)) := PS.mono (ps_set hN hi hx ha hs hf) fun _ _ _ q => sto_core q
/-- x[k] = e: the frame's own list, a list at a place -/
def semPut (i : Nat) (fk fa : EvF D) : EvS := fun env h => (fa env h).toS env fun d h1 => match env[i]? with
  | some (.o xs) => (fk env h1).toS env fun k h2 => match putO i xs env k d with
    | some env' => .nx env' h2
    | none => .bad
  | some (.v r) => (fk env h1).toS env fun k h2 => match putL h2 r k d with
    | some h' => .nx env h'
    | none => .bad
  | _ => .bad
theorem s_put {i : Nat} {x : Str} {k e : Expr} {fk fa : EvF D} {np tp pos : Pos} (hN : X.N[i]? = some x) (hv : Vis X.env.scope x) (hd : (x == ("__debug__" : Str)) = false) (hcd : (x == ("__classdict__" : Str)) = false)
    (ha : PE X e (kE M .n W fa)) (hk : PE X k (kE M .b W fk)) (hs : swapsWithSole [.Subscript (.Name x np) k tp] e pos.line X.env = pure false) (hw : swappedStores [.Subscript (.Name x np) k tp] e X.env = pure none)
    (h1 : (assignEach [.Subscript (.Name x np) k tp] X.env).map (·.2) = [assign (.Subscript (.Name x np) k tp) X.env])
    (hasn : AsnSub (.Name x np) k tp X.env) : PS X (.Assign [.Subscript (.Name x np) k tp] e pos) (kS M W (semPut i fk fa)) := by
  refine PS.mono (ps_asg ha (pg_sub (pe_var hN hv hd hcd) hk set_list hasn) hs hw h1) fun De σ H ⟨B, L, A, h, env, g, p⟩ => ?_
  refine tG_toS g p fun d h1 v H1 L1 e1 x1 g1 r1 p1 => ?_
  cases e0 : env[i]? with
  | none => rw [e0] at p1; exact p1.elim
  | some sl =>
    rw [e0] at p1
    cases sl with
    | u => exact p1.elim
    | x _ _ => exact p1.elim
    | v rd =>
      cases g1.slot i _ e0 with
      | @v _ w q1 q2 q3 =>
        refine ⟨w, q2, ?_⟩
        refine tG_toS g1 p1 fun kd h3 kv H3 L3 e3 x3 g3 r3 p3 => ?_
        cases e4 : putL h3 rd kd d with
        | none => rw [e4] at p3; exact p3.elim
        | some h' =>
          rw [e4] at p3
          obtain ⟨n, i', ds, j, rfl, rfl, eh, ej, rfl⟩ := putL_some e4
          have r1' : RelM M .n B A H3 H3 L3 d v := RelM.stay (m := .n) (Hs := H3) r1 x3 fun i a ha => (g1.own i a ha).1
          have r2' : RelM M .n B A H3 H3 L3 (.loc n) w := RelM.stay (m := .n) (Hs := H3) q3 x3 fun i a ha => (g1.own i a ha).1
          obtain ⟨a, ea, rfl⟩ := r2'.loc
          cases g3.obj n _ a eh ea with
          | @lst _ vs q1 q2 =>
            refine ⟨a, vs, i', j, rfl, r3.int, q1, by rw [← q2.length]; exact ej, p3 _ _ _ _ (g3.setL ea q1 (fun _ z => nomatch z) (fun _ _ z => nomatch z) (.lst upd_same ?_))⟩
            have aL : a ∈ L3 := List.mem_of_getElem? ea
            have za : Zf B L3 A a := .inl aL
            have ne : ∀ b o, H3 b = some o → b ≠ a → (upd H3 a (.lst (vs.set j v))) b = some o := fun b o e q => by rw [upd_ne q]; exact e
            have st : Stay H3 (Zf B L3 A) (upd H3 a (.lst (vs.set j v))) (Zf B L3 A) := ⟨fun b o e z => ne b o e fun q => z (q ▸ za), fun b xs e => ne b _ e (fun q => by subst q; rw [q1] at e; cases e), fun b o u e => ne b _ e (fun q => by subst q; rw [q1] at e; cases e), fun b o _ z => z⟩
            have := (q2.set r1' j).stay (M := []) st
            rw [List.append_nil] at this
            exact this
    | o xs =>
      obtain ⟨a, vs, q1, q2, q3, q4⟩ := ownL g1 e0
      refine ⟨.ref a, q2, ?_⟩
      refine tG_toS g1 p1 fun kd h2 kv H2 L2 e2 x2 g2 r2 p2 => ?_
      cases e3 : putO i xs env kd d with
      | none => rw [e3] at p2; exact p2.elim
      | some env' =>
        rw [e3] at p2
        obtain ⟨n, y, j, rfl, rfl, ej, rfl⟩ := putO_some e3
        have aL := (g1.own i a q1).1
        have q3' := x2.keep a _ q3 aL
        have q4' := q4.stay x2.stay (Z' := Zf B L2 A)
        have r1' : RelM M .n B A H2 H2 L2 (.py y) v := RelM.stay (m := .n) (Hs := H2) r1 x2 fun i a ha => (g1.own i a ha).1
        cases r1' with
        | py r1' => exact ⟨a, vs, n, j, rfl, r2.int, q3', by rw [← q4.length]; exact ej, p2 _ _ _ _ (g2.setOwn q1 q3' q2 (q4'.set r1' j))⟩
/-- a, b = x, [..]: the second one the frame's own -/
def semPar2 (i j : Nat) (fa fb : EvF D) : EvS := fun env h => (fa env h).toS env fun d h1 => (fb env h1).toS env fun e h2 => if i < env.length then match stoE j e (env.set i (.v d)) with
  | some env' => .nx env' h2
  | none => .bad
  else .bad
theorem s_par2 {i j : Nat} {x y : Str} {a b : Expr} {fa fb : EvF D} {px py pt pos : Pos} {kt k2 : Nat} {pt2 : Pos} (hc : X.calm = true) (hN : X.N.Nodup) (hi : X.N[i]? = some x) (hj : X.N[j]? = some y) (hij : i ≠ j)
    (hx : X.env.scope.names.lookup x = some .local) (hy : X.env.scope.names.lookup y = some .local) (ha : PE X a (kE M .n W fa)) (hb : PE X b (kX M W fb))
    (hs1 : starEach [a, b] X.env = (false, eval a X.env) :: starEach [b] X.env) (hs2 : starEach [b] X.env = (false, eval b X.env) :: starEach [] X.env)
    (hw : swappedStores [.Tuple [.Name x px, .Name y py] kt pt] (.Tuple [a, b] k2 pt2) X.env = pure (some [x, y]))
    (hs : swapsWithSole [.Tuple [.Name x px, .Name y py] kt pt] (.Tuple [a, b] k2 pt2) pos.line X.env = pure false) :
    PS X (.Assign [.Tuple [.Name x px, .Name y py] kt pt] (.Tuple [a, b] k2 pt2) pos) (kS M W (semPar2 i j fa fb)) := by
  refine PS.mono (ps_par hc hN hi hj hij hx hy (pa_cons ha (pa_cons hb pa_nil hs2) hs1) hw hs) fun De σ H ⟨B, L, A, h, env, gd, p⟩ => ?_
  refine tG_toS gd p fun d h1 v H1 L1 e1 x1 g1 r1 p1 => ?_
  refine ⟨B, L1, A, h1, env, g1, ?_⟩
  cases e : fb env h1 with
  | exc c fs h2 => rw [e] at p1; exact fun cls dd H' L' x g' r => p1 cls dd σ H' L' A g' r
  | bad => rw [e] at p1; exact p1
  | ok d2 h2 =>
    rw [e] at p1
    have p1 : PostS M B W De (if i < env.length then match stoE j d2 (env.set i (.v d)) with
      | some env' => .nx env' h2
      | none => .bad
      else .bad) := p1
    by_cases hl : i < env.length
    · rw [if_pos hl] at p1
      unfold stoE at p1
      by_cases hl2 : j < (env.set i (.v d)).length
      · rw [if_pos hl2] at p1
        unfold PostX
        dsimp only at p1 ⊢
        have stay1 : ∀ {H2 : Hp} {L2' : List Addr}, Ext H1 L1 H2 L2' → RelD M.K H2 L2' (Zf B L2' A) d v := fun x => RelM.stay (m := .n) (Hs := H1) r1 x fun i a ha => (g1.own i a ha).1
        by_cases el : isL d2 = true
        · rw [if_pos el]
          intro ps H2 L2 a vs ed x2 g2 n r
          subst ed
          refine ⟨v, .ref a, rfl, p1 _ _ _ _ ((g2.setV (stay1 x2) hl).setNew n (r.weak fun b z => zf_none z) hl2)⟩
        · rw [if_neg el]
          rw [isL_false el] at p1
          intro w H2 L2 x2 g2 r
          exact ⟨v, w, rfl, p1 _ _ _ _ ((g2.setV (stay1 x2) hl).setV (RelD.weak (show RelD M.K H2 L2 (Zf B L2 A) d2 w from r) fun b z => zf_none z) hl2)⟩
      · rw [if_neg hl2] at p1; exact p1.elim
    · rw [if_neg hl] at p1; exact p1.elim
end
end KF
set_option Elab.async false
set_option linter.all false
set_option maxRecDepth 100000
set_option maxHeartbeats 4000000
/-! KF, part A: sum, min, max, sorted of data; the size of a set of ints. -/
namespace KF
open PySem PySem.Spec PyProof.Rows L2
open PySem.W (dataLt alike alikeAll minD maxD AlikeAll EachIs dataLe)
/-! ### data of one form -/
def isI : PyData → Bool
  | .int _ => true
  | _ => false
mutual
def al2 : PyData → PyData → Bool
  | .int _, .int _ => true
  | .str _, .str _ => true
  | .tuple xs, .tuple ys => (xs.all isI && ys.all isI) || (!xs.all isI && !ys.all isI && al2s xs ys)
  | _, _ => false
def al2s : List PyData → List PyData → Bool
  | [], [] => true
  | x :: xs, y :: ys => al2 x y && al2s xs ys
  | _, _ => false
end
theorem alikeAll_ints : ∀ xs ys : List PyData, xs.all isI = true → ys.all isI = true → alikeAll xs ys = true
  | [], ys, _, _ => by cases ys <;> rw [alikeAll]
  | x :: xs, [], _, _ => by rw [alikeAll]
  | x :: xs, y :: ys, h1, h2 => by
    rw [List.all_cons, Bool.and_eq_true] at h1 h2
    rw [alikeAll, alikeAll_ints xs ys h1.2 h2.2, Bool.and_true]
    cases x <;> first | (cases y <;> first | (rw [alike]; done) | exact absurd h2.1 Bool.false_ne_true) | exact absurd h1.1 Bool.false_ne_true
mutual
theorem al2_alike : ∀ x y z : PyData, al2 x y = true → al2 x z = true → alike y z = true
  | .int a, y, z, h1, h2 => by
    cases y <;> first | (exfalso; simp [al2] at h1; done) | (cases z <;> first | (exfalso; simp [al2] at h2; done) | rw [alike])
  | .str a, y, z, h1, h2 => by
    cases y <;> first | (exfalso; simp [al2] at h1; done) | (cases z <;> first | (exfalso; simp [al2] at h2; done) | rw [alike])
  | .tuple xs, y, z, h1, h2 => by
    cases y with
    | tuple ys =>
      cases z with
      | tuple zs =>
        rw [al2] at h1 h2
        rw [alike]
        by_cases hx : xs.all isI = true
        · rw [hx] at h1 h2
          simp only [Bool.true_and, Bool.not_true, Bool.false_and, Bool.or_false] at h1 h2
          exact alikeAll_ints ys zs h1 h2
        · rw [Bool.not_eq_true] at hx
          rw [hx] at h1 h2
          simp only [Bool.false_and, Bool.not_false, Bool.true_and, Bool.false_or, Bool.and_eq_true] at h1 h2
          exact al2s_alike xs ys zs h1.2 h2.2
      | _ => simp [al2] at h2
    | _ => simp [al2] at h1
  | .none, y, z, h1, h2 => by simp [al2] at h1
  | .bool _, y, z, h1, h2 => by simp [al2] at h1
  | .list _, y, z, h1, h2 => by simp [al2] at h1
  | .dict _, y, z, h1, h2 => by simp [al2] at h1
theorem al2s_alike : ∀ xs ys zs : List PyData, al2s xs ys = true → al2s xs zs = true → alikeAll ys zs = true
  | [], ys, zs, h1, h2 => by
    cases ys with
    | nil => cases zs <;> rw [alikeAll]
    | cons y r => simp [al2s] at h1
  | x :: xs, ys, zs, h1, h2 => by
    cases ys with
    | nil => simp [al2s] at h1
    | cons y r =>
      cases zs with
      | nil => simp [al2s] at h2
      | cons z s =>
        rw [al2s, Bool.and_eq_true] at h1 h2
        rw [alikeAll, al2_alike x y z h1.1 h2.1, al2s_alike xs r s h1.2 h2.2]
        rfl
end
def oneForm (x : PyData) (xs : List PyData) : Bool := al2 x x && xs.all (al2 x)
theorem oneForm_al {x : PyData} {xs : List PyData} (h : oneForm x xs = true) : ∀ y ∈ x :: xs, al2 x y = true := by
  obtain ⟨h1, h2⟩ := Bool.and_eq_true_iff.mp h
  intro y hy
  rcases List.mem_cons.mp hy with e | e
  · rw [e]; exact h1
  · exact List.all_eq_true.mp h2 y e
theorem oneForm_ok {x : PyData} {xs : List PyData} (h : oneForm x xs = true) : AlikeAll (x :: xs) := by
  refine ⟨fun y hy z hz => al2_alike x y z (oneForm_al h y hy) (oneForm_al h z hz), fun y hy e => ?_⟩
  have := oneForm_al h y hy
  rw [e] at this
  cases x <;> simp [al2] at this
def intsOf : List PyData → Option (List Int)
  | [] => some []
  | .int i :: r => (intsOf r).map (i :: ·)
  | _ :: _ => none
theorem intsOf_ok : ∀ {ds : List PyData} {ns : List Int}, intsOf ds = some ns → ds = ns.map .int
  | [], ns, h => by cases h; rfl
  | .int i :: r, ns, h => by
    have h : (intsOf r).map (i :: ·) = some ns := h
    cases q : intsOf r with
    | none => rw [q] at h; cases h
    | some ms => rw [q] at h; cases h; rw [intsOf_ok q]; rfl
  | .none :: r, ns, h => by cases h
  | .bool _ :: r, ns, h => by cases h
  | .str _ :: r, ns, h => by cases h
  | .list _ :: r, ns, h => by cases h
  | .tuple _ :: r, ns, h => by cases h
  | .dict _ :: r, ns, h => by cases h
theorem rel_ints {K : PySem.W.Frag} {H : Hp} {Z : Addr → Prop} : ∀ {ns : List Int} {vs : List V}, RelPs K H Z (ns.map .int) vs → vs = ns.map V.int
  | [], _, h => by cases h; rfl
  | n :: r, _, h => by
    cases h with
    | cons a t => cases a; rw [rel_ints t]; rfl
section
variable {X : Cx} {M : MK} {m m' : Mode} {W : WX}
/-! ### sum -/
def rSumU (K : PySem.W.Frag) : List V → Hp → VK → Prop := fun vs H Q => ∃ (a : Addr) (ns : List Int), vs = [.ref a] ∧ (SqL K H a (ns.map V.int) ∨ SqT K H a (ns.map V.int)) ∧ Q (.int ns.sum) H
theorem preSum_eq (ns : List Int) : ∀ k, k ≤ ns.length → preSum (fun i => ns.getD i 0) k = (ns.take k).sum
  | 0, _ => rfl
  | k + 1, h => by
    have e : ns.take (k + 1) = ns.take k ++ [ns.getD k 0] := by
      rw [List.take_succ]
      have hk : k < ns.length := h
      simp [List.getD, List.getElem?_eq_getElem hk]
    rw [e, List.sum_append]
    show preSum _ k + ns.getD k 0 = _
    rw [preSum_eq ns k (by omega)]
    simp
theorem cr_sumU (hc : X.calm = true) : CallR X (.builtin "sum") (rSumU X.K) := by
  intro pins s σ H vs us Q I r h
  obtain ⟨a, ns, rfl, hs, q⟩ := h
  rcases hs with hs | hs
  · exact cr_sum hc pins s σ H [.ref a] us Q I r ⟨a, ns, rfl, hs, q⟩
  · obtain ⟨its, rv, ht, _⟩ := I.tuple hs
    rw [Vals.ref1 r]
    have hi := rv.ints
    have hlen : its.length = ns.length := by rw [← rv.length, List.length_map]
    refine call_sum_walkAnyS (PySem.W.iter_tupleW (I.ok.hd hc) (show s.heap.IsTuple a its.toArray from ht) fun s₂ e Wk st hfp hw hk => ?_)
    refine ⟨_, _, _, _, _, _, _, fun i => ns.getD i 0, rfl, Wk, st, hfp, fun i v hv => IntsAre.int_at hi i v (by simpa using hv), fun s' t' mv => ?_⟩
    obtain ⟨h', tk, rfl, hk'⟩ := PySem.W.moved_old e rfl mv
    have ep : preSum (fun i => ns.getD i 0) its.toArray.size = ns.sum := by
      rw [List.size_toArray, hlen, preSum_eq ns ns.length (Nat.le_refl _), List.take_length]
    rw [ep]
    exact ⟨.int _, H, I.kept hk', ⟨_, rfl⟩, q⟩
def fSum : MH → List D → Option D := fun h ds => match ds with
  | [d] => (seqD h d).bind fun xs => (intsOf xs).map fun ns => .py (.int ns.sum)
  | _ => none
theorem seqD_rel {B : Bs} {A : List (Option Addr)} {H : Hp} {L : List Addr} {h : MH} {env : KF.Env} {σ : L2.St} {d : D} {v : V} {xs : List PyData} (g : Good M B H L A h env σ) (r : RelM M .b B A H H L d v) (e : seqD h d = some xs) :
    ∃ a vs, v = .ref a ∧ (SqL M.K H a vs ∨ SqT M.K H a vs) ∧ RelPs M.K H (Zf B L A) xs vs := by
  unfold seqD at e
  split at e
  · cases e
    obtain ⟨a, vs, rfl, h1, h2⟩ := r.tup
    exact ⟨a, vs, rfl, .inr h1, h2⟩
  · obtain ⟨a, vs, rfl, h1, h2⟩ := listOf_rel g r e
    exact ⟨a, vs, rfl, .inl (.inl h1), h2⟩
theorem b_sum : Cl M .n (rSumU M.K) fSum := by
  intro B A H L h env σ ds d3 vs Q g rr e k
  unfold fSum at e
  split at e
  · rename_i d
    obtain ⟨v, rfl, r⟩ := relMs1 rr
    cases q : seqD h d with
    | none => rw [q] at e; cases e
    | some xs =>
      rw [q] at e
      have e : (intsOf xs).map (fun ns => D.py (.int ns.sum)) = some d3 := e
      cases q2 : intsOf xs with
      | none => rw [q2] at e; cases e
      | some ns =>
        rw [q2] at e; cases e
        obtain ⟨a, us, rfl, h1, h2⟩ := seqD_rel g r q
        rw [intsOf_ok q2] at h2
        rw [rel_ints h2] at h1
        exact ⟨a, ns, rfl, h1, k _ _ (Same.refl H) (RelM.ofP (.int _))⟩
  · cases e
/-! ### min, max of a list -/
def rMmU (K : PySem.W.Frag) (best : PyData → List PyData → PyData) : List V → Hp → VK → Prop := fun vs H Q => ∃ (a : Addr) (x : PyData) (xs : List PyData) (ws : List V), vs = [.ref a] ∧ SqL K H a ws ∧ DpAll K H ws (x :: xs) ∧ PyData.canLayAll0 (x :: xs) = true ∧ AlikeAll (x :: xs) ∧ PyData.depthAll (x :: xs) ≤ 64 ∧
  ∀ (i : Nat) w, ws[i]? = some w → (x :: xs)[i]? = some (best x xs) → Q w H
theorem mm_core {pins : List (Addr × Obj)} {s : Shared} {σ : L2.St} {H : Hp} {ws : List V} {its : List Value} {xs : List PyData} {as bs : List Addr} {Q : VK} {b : PyData} {i : Nat} {v : Value} {h' : Heap} {tk : Nat} (I : Inv X pins σ H s) (rv : Vals ws its) (hr : ReadsAll s.heap its xs as) (lay : PyData.canLayAll0 xs = true) (lb : b.canLay0 = true)
    (hv : its.toArray[i]? = some v) (rb : Reads h' v b bs) (hk : ∀ b o, s.heap.get? b = some o → h'.get? b = some o) (q : ∀ (i : Nat) w, ws[i]? = some w → xs[i]? = some b → Q w H) : EP X pins σ Q v { s with heap := h', toks := tk } := by
  have hv' : its[i]? = some v := by simpa using hv
  have hm := SeqAt.readsAll_map xs its as lay hr
  obtain ⟨w, hw, rw_⟩ : ∃ w, ws[i]? = some w ∧ RelV w v := by
    have hl : i < ws.length := by rw [rv.length]; exact (List.getElem?_eq_some_iff.mp hv').1
    obtain ⟨u, hu, r⟩ := rv.get (List.getElem?_eq_getElem hl)
    rw [hv'] at hu; cases hu
    exact ⟨_, List.getElem?_eq_getElem hl, r⟩
  have hx : xs[i]? = some (SeqAt.readOf s.heap v) := by rw [← hm, List.getElem?_map, hv']; rfl
  obtain ⟨bs', r1⟩ : ∃ bs', Reads s.heap v (SeqAt.readOf s.heap v) bs' := by
    obtain ⟨d, bs', r1, l1, _⟩ := SeqAt.readsAll_mem xs its as lay hr v (List.mem_of_getElem? hv')
    rw [SeqAt.readOf_eq l1 r1]
    exact ⟨bs', r1⟩
  have l2 : (SeqAt.readOf s.heap v).canLay0 = true := by
    obtain ⟨d, bs', r1, l1, _⟩ := SeqAt.readsAll_mem xs its as lay hr v (List.mem_of_getElem? hv')
    rw [SeqAt.readOf_eq l1 r1]
    exact l1
  have e1 := SeqAt.readOf_eq l2 (PySem.W.reads_keeps hk r1)
  have e2 := SeqAt.readOf_eq lb rb
  rw [e2] at e1
  rw [← e1] at hx
  exact ⟨w, H, I.kept hk, rw_, q i w hw hx⟩
theorem best_mem {f : PyData → PyData → Bool} : ∀ (xs : List PyData) (x : PyData), xs.foldl (fun a y => if f y a then y else a) x ∈ x :: xs
  | [], x => List.mem_cons_self
  | y :: r, x => by
    rw [List.foldl_cons]
    rcases List.mem_cons.mp (best_mem (f := f) r (if f y x then y else x)) with e | e
    · rw [e]
      cases f y x with
      | true => exact List.mem_cons_of_mem _ List.mem_cons_self
      | false => exact List.mem_cons_self
    · exact List.mem_cons_of_mem _ (List.mem_cons_of_mem _ e)
theorem lay_mem : ∀ {xs : List PyData} {d : PyData}, PyData.canLayAll0 xs = true → d ∈ xs → d.canLay0 = true
  | x :: r, d, h, hm => by
    have h : x.canLay0 = true ∧ PyData.canLayAll0 r = true := by simpa [PyData.canLayAll0] using h
    rcases List.mem_cons.mp hm with e | e
    · rw [e]; exact h.1
    · exact lay_mem h.2 e
theorem minD_mem (x : PyData) (xs : List PyData) : minD x xs ∈ x :: xs := best_mem (f := fun y a => dataLt y a) xs x
theorem maxD_mem (x : PyData) (xs : List PyData) : maxD x xs ∈ x :: xs := best_mem (f := fun y a => dataLt a y) xs x
theorem cr_minU (hc : X.calm = true) (hu : X.A.units + 66 < cLine) : CallR X (.builtin "min") (rMmU X.K minD) := by
  intro pins s σ H vs us Q I r h
  obtain ⟨a, x, xs, ws, rfl, hs, hd, lay, ha, dp, q⟩ := h
  obtain ⟨its, rv, hl, _⟩ := I.list hs
  obtain ⟨as, hr⟩ := Dp.readsAll I (x :: xs) ws its hd rv
  rw [Vals.ref1 r]
  exact PySem.W.min_list_data (I.ok.hd hc) hl.isList (show ReadsAll s.heap its.toArray.toList (x :: xs) as from hr) ha (by omega) fun i v h' tk bs hv rb hk => mm_core I rv hr lay (lay_mem lay (minD_mem x xs)) hv rb hk q
theorem cr_maxU (hc : X.calm = true) (hu : X.A.units + 66 < cLine) : CallR X (.builtin "max") (rMmU X.K maxD) := by
  intro pins s σ H vs us Q I r h
  obtain ⟨a, x, xs, ws, rfl, hs, hd, lay, ha, dp, q⟩ := h
  obtain ⟨its, rv, hl, _⟩ := I.list hs
  obtain ⟨as, hr⟩ := Dp.readsAll I (x :: xs) ws its hd rv
  rw [Vals.ref1 r]
  exact PySem.W.max_list_data (I.ok.hd hc) hl.isList (show ReadsAll s.heap its.toArray.toList (x :: xs) as from hr) ha (by omega) fun i v h' tk bs hv rb hk => mm_core I rv hr lay (lay_mem lay (maxD_mem x xs)) hv rb hk q
def fMm (best : PyData → List PyData → PyData) : MH → List D → Option D := fun h ds => match ds with
  | [d] => (listOf h d).bind fun xs => match xs with
    | x :: r => if (oneForm x r && (x :: r).all (shal 60)) = true then some (.py (best x r)) else none
    | [] => none
  | _ => none
theorem shal_all {n : Nat} : ∀ {xs : List PyData}, PyData.canLayAll0 xs = true → xs.all (shal n) = true → PyData.depthAll xs ≤ n := fun {xs} c h => shal_depthAll xs n c h
theorem b_mm {best : PyData → List PyData → PyData} (hb : ∀ x xs, best x xs ∈ x :: xs) : Cl M .n (rMmU M.K best) (fMm best) := by
  intro B A H L h env σ ds d3 vs Q g rr e k
  unfold fMm at e
  split at e
  · rename_i d
    obtain ⟨v, rfl, r⟩ := relMs1 rr
    cases q : listOf h d with
    | none => rw [q] at e; cases e
    | some xs =>
      rw [q] at e
      cases xs with
      | nil => cases e
      | cons x xs =>
        have e : (if (oneForm x xs && (x :: xs).all (shal 60)) = true then some (D.py (best x xs)) else none) = some d3 := e
        split at e
        · rename_i c
          obtain ⟨c1, c2⟩ := Bool.and_eq_true_iff.mp c
          cases e
          obtain ⟨a, us, rfl, h1, h2⟩ := listOf_rel g r q
          have dep := shal_all h2.lay c2
          refine ⟨a, x, xs, us, rfl, .inl h1, h2.dp, h2.lay, oneForm_ok c1, by omega, fun i w hw hx => ?_⟩
          obtain ⟨d, e1, e2⟩ := h2.getV hw
          rw [hx] at e1
          cases e1
          exact k _ _ (Same.refl H) (RelM.ofP e2)
        · cases e
  · cases e
/-! ### sorted -/
def insD (x : PyData) : List PyData → List PyData
  | [] => [x]
  | y :: r => if dataLt y x then y :: insD x r else x :: y :: r
def sortD (xs : List PyData) : List PyData := xs.foldr insD []
theorem le_iff {a b : PyData} : dataLe false (fun x : PyData => x) a b = !dataLt b a := rfl
theorem tot : PySem.W.TotalLe (dataLe false (fun x : PyData => x)) := PySem.W.sortLe_total _ _ _
theorem insD_mem {x z : PyData} : ∀ {l : List PyData}, z ∈ insD x l → z = x ∨ z ∈ l
  | [], h => by
    have h : z ∈ [x] := h
    exact .inl (by simpa using h)
  | y :: r, h => by
    unfold insD at h
    split at h
    · rcases List.mem_cons.mp h with e | e
      · exact .inr (e ▸ List.mem_cons_self)
      · rcases insD_mem e with e | e
        · exact .inl e
        · exact .inr (List.mem_cons_of_mem _ e)
    · rcases List.mem_cons.mp h with e | e
      · exact .inl e
      · exact .inr e
theorem insD_pw {x : PyData} : ∀ {l : List PyData}, l.Pairwise (fun a b => dataLe false (fun x : PyData => x) a b = true) → (insD x l).Pairwise (fun a b => dataLe false (fun x : PyData => x) a b = true)
  | [], _ => by
    unfold insD
    exact List.pairwise_cons.mpr ⟨fun _ h => (by cases h), List.Pairwise.nil⟩
  | y :: r, h => by
    obtain ⟨h1, h2⟩ := List.pairwise_cons.mp h
    unfold insD
    split
    · rename_i c
      refine List.pairwise_cons.mpr ⟨fun z hz => ?_, insD_pw h2⟩
      rcases insD_mem hz with e | e
      · rw [e]
        rcases tot.total y x with t | t
        · exact t
        · rw [le_iff, c] at t; cases t
      · exact h1 z e
    · rename_i c
      have xy : dataLe false (fun x : PyData => x) x y = true := by rw [le_iff]; simpa using c
      refine List.pairwise_cons.mpr ⟨fun z hz => ?_, h⟩
      rcases List.mem_cons.mp hz with e | e
      · rw [e]; exact xy
      · exact tot.trans x y z xy (h1 z e)
theorem insD_flt {x c : PyData} : ∀ {l : List PyData}, (insD x l).filter (PySem.W.sameRank (dataLe false (fun x : PyData => x)) c) = (x :: l).filter (PySem.W.sameRank (dataLe false (fun x : PyData => x)) c)
  | [] => rfl
  | y :: r => by
    unfold insD
    split
    · rename_i hyx
      have ih := insD_flt (x := x) (c := c) (l := r)
      simp only [List.filter_cons, ih]
      cases hx : PySem.W.sameRank (dataLe false (fun x : PyData => x)) c x with
      | false => simp
      | true =>
        cases hy : PySem.W.sameRank (dataLe false (fun x : PyData => x)) c y with
        | false => simp
        | true =>
          exfalso
          unfold PySem.W.sameRank at hx hy
          obtain ⟨x1, x2⟩ := Bool.and_eq_true_iff.mp hx
          obtain ⟨y1, y2⟩ := Bool.and_eq_true_iff.mp hy
          have : dataLe false (fun x : PyData => x) x y = true := tot.trans x c y x2 y1
          rw [le_iff, hyx] at this
          cases this
    · rfl
theorem sortD_eq (xs : List PyData) : sortD xs = xs.mergeSort (dataLe false (fun x : PyData => x)) := by
  refine PySem.W.sort_unique tot ?_ fun c => ?_
  · induction xs with
    | nil => exact .nil
    | cons x r ih => exact insD_pw ih
  · induction xs with
    | nil => rfl
    | cons x r ih =>
      show (insD x (sortD r)).filter _ = _
      rw [insD_flt, List.filter_cons, List.filter_cons, ih]
def neT : PyData → Bool
  | .tuple [] => false
  | _ => true
def formB : List PyData → Bool
  | [] => true
  | x :: r => oneForm x r && (x :: r).all neT
theorem formB_ok {ds : List PyData} (h : formB ds = true) : PySem.W.AllAlike ds ∧ PySem.W.Sortable ds := by
  cases ds with
  | nil => exact ⟨fun d hd => (by cases hd), .inl fun d hd => (by cases hd)⟩
  | cons x r =>
    obtain ⟨h1, h2⟩ := Bool.and_eq_true_iff.mp (show (oneForm x r && (x :: r).all neT) = true from h)
    refine ⟨(oneForm_ok h1).1, ?_⟩
    have al := oneForm_al h1
    cases x with
    | tuple xs =>
      refine .inl fun d hd => ?_
      have e := al d hd
      have n := List.all_eq_true.mp h2 d hd
      cases d with
      | tuple ys =>
        cases ys with
        | nil => cases n
        | cons y s => exact ⟨y, s, rfl⟩
      | _ => simp [al2] at e
    | int i =>
      refine .inr fun d hd => ?_
      have e := al d hd
      cases d <;> first | (simp [al2] at e; done) | exact ⟨(by intro z; cases z), (by intro _ z; cases z)⟩
    | str i =>
      refine .inr fun d hd => ?_
      have e := al d hd
      cases d <;> first | (simp [al2] at e; done) | exact ⟨(by intro z; cases z), (by intro _ z; cases z)⟩
    | _ => have e := al _ List.mem_cons_self; simp [al2] at e
def rSortU (K : PySem.W.Frag) : List V → Hp → VK → Prop := fun vs H Q => ∃ (Z : Addr → Prop) (a : Addr) (ds : List PyData) (ws : List V), vs = [.ref a] ∧ SqL K H a ws ∧ RelPs K H Z ds ws ∧ formB ds = true ∧ PyData.depthAll ds ≤ 64 ∧ ds.length ≤ sizeLine ∧
  ∀ p us, H p = none → RelPs K H Z (sortD ds) us → Q (.ref p) (upd H p (.lst us))
theorem depth_mem : ∀ {xs : List PyData} {d : PyData}, d ∈ xs → d.depth ≤ PyData.depthAll xs
  | x :: r, d, h => by
    simp only [PyData.depthAll]
    rcases List.mem_cons.mp h with e | e
    · rw [e]; exact Nat.le_max_left _ _
    · exact Nat.le_trans (depth_mem e) (Nat.le_max_right _ _)
theorem each_rel {K : PySem.W.Frag} {H : Hp} {Z : Addr → Prop} : ∀ {ds : List PyData} {ws : List V} {us : List Value}, RelPs K H Z ds ws → Vals ws us → EachIs (fun v d => ∃ w, RelV w v ∧ RelP K H Z d w) us ds
  | _, _, _, .nil, .nil => .nil
  | _, _, _, .cons r t, .cons v vs => .cons ⟨_, v, r⟩ (each_rel t vs)
theorem each_back {K : PySem.W.Frag} {H : Hp} {Z : Addr → Prop} : ∀ {us : List Value} {ds : List PyData}, EachIs (fun v d => ∃ w, RelV w v ∧ RelP K H Z d w) us ds → ∃ ws, Vals ws us ∧ RelPs K H Z ds ws
  | _, _, .nil => ⟨[], .nil, .nil⟩
  | _, _, .cons ⟨w, h1, h2⟩ t => by
    obtain ⟨ws, h3, h4⟩ := each_back t
    exact ⟨w :: ws, .cons h1 h3, .cons h2 h4⟩
theorem cr_sortedU (hu : X.A.units + 70 < cLine) : CallR X (.builtin "sorted") (rSortU X.K) := by
  intro pins s σ H vs us Q I r h
  obtain ⟨Z, a, ds, ws, rfl, hs, rel, hf, dp, hL, q⟩ := h
  obtain ⟨its, rv, hl, _⟩ := I.list hs
  rw [Vals.ref1 r]
  obtain ⟨f1, f2⟩ := formB_ok hf
  have er : EachIs (fun v b => ∃ as, Reads s.heap v b as) its ds := (each_rel rel rv).mono fun v d ⟨w, h1, h2⟩ => Dp.reads I d w v h2.dp h1
  have em : ds.map (fun x => x) = ds := List.map_id _
  refine PySem.W.sorted_data (enc := fun x => x) hl.isList (each_rel rel rv) er (by rw [em]; exact f1) (by rw [em]; exact f2) hL (fun b hb => by have := depth_mem hb; omega) fun out ho eo => ?_
  rw [← sortD_eq] at eo
  obtain ⟨us', h1, h2⟩ := each_back eo
  obtain ⟨ep, he'⟩ := PyProof.Rows.sortedAll_at s.heap its (List.toArray out)
  have hlen : us'.length ≤ sizeLine := by rw [h1.length, ho]; exact hL
  exact ⟨.ref _, upd H (s.heap.objs.size + 1) (.lst us'), I.laid (t' := s.toks) (fun _ _ => PyProof.Rows.sortedAll_old) (Nat.le_succ _) ⟨hlen, out, ep, h1, he'⟩, rfl, q _ us' (I.hok.fresh (Nat.le_succ _)) h2⟩
def fSort : MH → List D → Option D := fun h ds => match ds with
  | [d] => (listOf h d).bind fun xs => if (formB xs && xs.all (shal 60) && fits xs.length) = true then some (.py (.list (sortD xs))) else none
  | _ => none
theorem b_sort : ClF M (rSortU M.K) fSort := by
  intro B A H L h env σ ds d3 vs Q g rr e k
  unfold fSort at e
  split at e
  · rename_i d
    obtain ⟨v, rfl, r⟩ := relMs1 rr
    cases q : listOf h d with
    | none => rw [q] at e; cases e
    | some xs =>
      rw [q] at e
      have e : (if (formB xs && xs.all (shal 60) && fits xs.length) = true then some (D.py (.list (sortD xs))) else none) = some d3 := e
      split at e
      · rename_i c
        simp only [Bool.and_eq_true] at c
        cases e
        obtain ⟨a, us, rfl, h1, h2⟩ := listOf_rel g r q
        have dep := shal_all h2.lay c.1.2
        exact ⟨Zf B L A, a, xs, us, rfl, .inl h1, h2, c.1.1, by omega, fits.ok c.2, fun p us' hp hr => k _ _ _ rfl hp hr⟩
      · cases e
  · cases e
/-! ### len(set(ints)) -/
def ddI (ns : List Int) : List Int := firstMet (fun i => ns.getD i 0) ns.length
def tLenSetU (K : PySem.W.Frag) (ta : TE) : TE := fun σ H Q => ta σ H fun x H1 => ∃ (l : Addr) (ns : List Int), x = V.ref l ∧ SqL K H1 l (ns.map V.int) ∧ ns.length < 60 ∧ Q (.int (ddI ns).length) H1
theorem pe_lenSetU {a : Expr} {ta : TE} {p p2 q pos : Pos} (hc : X.calm = true) (hg : Gl X "len") (hm : X.mg "len" = none) (hg2 : Gl X "set") (hm2 : X.mg "set" = none) (ha : PE X a ta)
    (na : starEach [a] X.env = (false, eval a X.env) :: starEach [] X.env) : PE X (.Call (.Name "len" p) [.Call (.Name "set" p2) [a] [] q] [] pos) (tLenSetU X.K ta) := by
  refine ⟨fun pins s σ H Q I h => Call_ (ld_blt I hg hm PySem.boot_len ?_)⟩
  refine PyProof.Rows.callWith_builtin1 (PyProof.Rows.args_cons (Call_ (ld_blt I hg2 hm2 PyProof.Rows.boot_set ?_)) rfl) rfl rfl
  refine PyProof.Rows.callWith_type1 (PyProof.Rows.args_cons (thn (ha.run pins s σ H _ I h) fun v s1 ⟨x, H1, I1, r1, q1⟩ => PyProof.Rows.args_nil ?_) na) na rfl
  obtain ⟨l, ns, ex, hq, h1, q1⟩ := q1
  subst ex
  cases r1
  obtain ⟨its, r, pl, _⟩ := I1.list hq
  have hl : its.toArray.size = ns.length := by rw [List.size_toArray, ← r.length, List.length_map]
  refine call_set_list (I1.ok.hd hc) pl.isList (ns := ns) (by simpa using r.ints) (by unfold scanBound; omega) fun h' tk hS hk => PyProof.Rows.args_nil ?_
  rw [hl] at hS
  have I2 : Inv X pins σ H1 { s1 with heap := h', toks := tk } := I1.kept fun b o e => hk b o (Heap.lt_size e) e
  obtain ⟨o, es, ep, t, ho, hex, hd, _, _, _, hf, hn⟩ := hS
  have hle := firstMet_length_le (fun i => ns.getD i 0) ns.length
  exact call_len_set ho hex hd hf (by rw [hn] <;> omega) ⟨.int (ddI ns).length, H1, I2.tok _, ⟨_, by rw [hn]; rfl⟩, q1⟩
def lsO : MH → D → Option D := fun h d => (listOf h d).bind fun xs => (intsOf xs).bind fun ns => if Nat.blt ns.length 60 = true then some (.py (.int (ddI ns).length)) else none
theorem k_lenSet (hK : M.K = X.K) {a : Expr} {fa : EvF D} {p p2 q pos : Pos} (hc : X.calm = true) (hg : Gl X "len") (hm : X.mg "len" = none) (hg2 : Gl X "set") (hm2 : X.mg "set" = none) (ha : PE X a (kE M .b W fa))
    (na : starEach [a] X.env = (false, eval a X.env) :: starEach [] X.env) : PE X (.Call (.Name "len" p) [.Call (.Name "set" p2) [a] [] q] [] pos) (kE M .n W (sem1 fa lsO)) := by
  refine PE.mono (pe_lenSetU hc hg hm hg2 hm2 ha na) fun σ H Q ⟨B, L, A, h, env, g, p⟩ => ?_
  refine tG_bind sm_M g p fun x h1 v H1 L1 e1 x1 g1 r1 p1 => ?_
  cases e : lsO h1 x with
  | none => rw [e] at p1; exact p1.elim
  | some d =>
    rw [e] at p1
    unfold lsO at e
    cases q1 : listOf h1 x with
    | none => rw [q1] at e; cases e
    | some xs =>
      rw [q1] at e
      have e : (intsOf xs).bind (fun ns => if Nat.blt ns.length 60 = true then some (D.py (.int (ddI ns).length)) else none) = some d := e
      cases q2 : intsOf xs with
      | none => rw [q2] at e; cases e
      | some ns =>
        rw [q2] at e
        have e : (if Nat.blt ns.length 60 = true then some (D.py (.int (ddI ns).length)) else none) = some d := e
        split at e
        · rename_i c
          cases e
          obtain ⟨a, us, rfl, h2, h3⟩ := listOf_rel g1 r1 q1
          rw [intsOf_ok q2] at h3
          rw [rel_ints h3] at h2
          have c := Nat.le_of_ble_eq_true c
          exact ⟨a, ns, rfl, hK ▸ .inl h2, by omega, p1.fin g1 (Same.refl _) (RelM.ofP (.int _))⟩
        · cases e
end
end KF
set_option Elab.async false
set_option linter.all false
set_option maxRecDepth 100000
set_option maxHeartbeats 4000000
/-! KF, part B: enumerate of a tuple; pairs that are walked. -/
namespace KF
open PySem PySem.Spec PyProof.Rows L2
theorem meets_enum1 {v : Value} {o : Obj} {Hh : Heap → Prop} (B : Begins v o Hh) :
    Meets (Builtin.«enumerate.__new__» ⟨[.type "enumerate", v], []⟩) (fun _ R s => Hh s.heap ∧ R (.ok (.ret (.ref (s.heap.push o).objs.size)))
      { s with heap := (s.heap.push o).push { cls := .type "enumerate", data := .fields #[.none, .bool false, .ref s.heap.objs.size, rawInt 0, .none, .none] } }) :=
  .of_wp fun prog w A R s0 hh => by
    obtain ⟨hp, g, d, tk, os⟩ := s0
    obtain ⟨h1, hr⟩ := hh
    have q0 := sub_enumerate
    have q1 : ∀ {A' : Around} {E' : Value → Shared → Prop} {Q' : Value → Shared → Prop}, Q' (.ref hp.objs.size) ⟨hp.push o, g, d, tk, os⟩ → wpAny (model prog w) A' (pyIter v) Q' E' ⟨hp, g, d, tk, os⟩ := fun q => B.iter prog w _ _ ⟨hp, g, d, tk, os⟩ _ h1 q
    wp_walk using q1
    refine wpAny_stack_any fun _ => wpAny_pure ?_
    split
    · rename_i c _ _ _ _ _
      cases (c == Value.type "enumerate") <;> (wp_walk using q1; exact ⟨_, rfl, hr⟩)
    · wp_walk using q1; exact ⟨_, rfl, hr⟩
theorem call_enum1 {prog : Program} {w : World} {A : Around} {E : Value → Shared → Prop} {s : Shared} {v : Value} {o : Obj} {Hh : Heap → Prop} {Q : Value → Shared → Prop} (B : Begins v o Hh) (h1 : Hh s.heap)
    (h : ∀ h', IsEnum h' (s.heap.objs.size + 1) s.heap.objs.size 0 .none → h'.get? s.heap.objs.size = some o → h'.objs.size = s.heap.objs.size + 2 → (∀ b o, s.heap.get? b = some o → h'.get? b = some o) → Q (.ref (s.heap.objs.size + 1)) { s with heap := h' }) :
    wpAny (model prog w) A (call (.type "enumerate") [v]) Q E s := by
  refine callType_new F.called_enumerate (by decide) (F.typeCall_enumerate_1 _) (F.newCall_enumerate_1 _) (fun ob => F.args_object_init_2 ob _) F.entry_enumerate_new (meets_enum1 B) ⟨h1, ?_⟩
  have hz : (s.heap.push o).objs.size = s.heap.objs.size + 1 := Heap.size_push ..
  show _ ∧ _
  rw [hz]
  have he : IsEnum ((s.heap.push o).push { cls := .type "enumerate", data := .fields #[.none, .bool false, .ref s.heap.objs.size, rawInt 0, .none, .none] }) (s.heap.objs.size + 1) s.heap.objs.size 0 .none := by
    have q := Heap.get?_push_size (s.heap.push o) (o := { cls := .type "enumerate", data := .fields #[.none, .bool false, .ref s.heap.objs.size, rawInt 0, .none, .none] }) rfl
    rw [hz] at q; exact q
  exact ⟨⟨_, he, rfl⟩, h _ he (Heap.get?_push_of_some _ (Heap.get?_push_size _ B.free)) (by rw [Heap.size_push, hz]) fun b o x => Heap.get?_push_of_some _ (Heap.get?_push_of_some _ x)⟩
theorem enumT_end {prog : Program} {w : World} {A : Around} {E : Value → Shared → Prop} {s : Shared} {e it a : Addr} {i : Nat} {c : Int} {items : Array Value} {old : Value} {Q : Option Value → Shared → Prop} (hh : A.handled = none) (he : IsEnum s.heap e it c old) (hit : s.heap.IsTupleIter it a i) (ht : s.heap.IsTuple a items) (hx : items[i]? = none)
    (hQ : ∀ h', Heap.ExtBut it s.heap h' → Q none { s with heap := h' }) : wpAny (model prog w) A (pyNext (.ref e)) Q E s := by
  have hT : s.TypeIs (.ref e) "enumerate" := ⟨_, he, rfl⟩
  unfold pyNext
  refine wpAny_bind (wpAny_attempt (wpAny_callSpecial?_slot (name := Str.ofString "__next__") hT F.slot_enumerate_next (wpAny_call_entry F.slot_enumerate_next hT F.entry_enumerate_next ?_ (F.args_enumerate_next_1 _))))
  show wpAny _ _ (field (.ref e) 2 >>= _) _ _ _
  refine wpAny_bind (wpAny_field he rfl (x := .ref it) rfl (wpAny_bind (wpAny_nextOf_tuple_end hh hit ht hx fun h' x he' hx' => ?_)))
  obtain ⟨o, ho, hc⟩ := hx'
  exact wpAny_bind (wpAny_isInstance (T := "StopIteration") (b := true) ⟨o, ho, hc⟩ isSubtype_stop (wpAny_pure (hQ _ he')))
/-- the tuple at a, each item in a new pair -/
def IteT (K : PySem.W.Frag) (a : Addr) : It :=
  ⟨fun i H => ∃ (xs : List V) (x : V), SqT K H a xs ∧ xs[i]? = some x, fun i H v H' => ∃ T x, v = .ref T ∧ H T = none ∧ H' = upd H T (.tup [.int (i : Nat), x]) ∧ ∀ xs, SqT K H a xs → xs[i]? = some x, fun i H => ∃ xs : List V, SqT K H a xs ∧ xs.length ≤ i⟩
theorem turn_enumT {P : Program} {w : World} {K : PySem.W.Frag} {elts : List Expr} {kk : Nat} {tpos : Pos} (a e it : Addr) :
    Turn P w K (.Tuple elts kk tpos) (IteT K a) [e, it] e (fun i h => (∃ old, IsEnum h e it ((i : Nat) : Int) old) ∧ h.IsTupleIter it a i ∧ e ≠ it ∧ e ≠ a ∧ a ≠ it) where
  mem := by simp
  obj := fun i h st b hb => by
    obtain ⟨⟨old, he⟩, ⟨o, ho, hc, hd⟩, _⟩ := st
    rcases (show b = e ∨ b = it by simpa using hb) with z | z
    · rw [z]; exact ⟨_, he, fun v q => nomatch q⟩
    · rw [z]; exact ⟨o, ho, fun v q => by rw [hd] at q; cases q⟩
  keep := fun i h h' st k => let ⟨⟨old, he⟩, hi, hne⟩ := st; ⟨⟨old, k e (by simp) _ he⟩, hi.at fun o q => k it (by simp) o q, hne⟩
  item := by
    intro X hP hw hK hc i pins s σ H E I hf st hg
    subst hP hw hK
    obtain ⟨⟨old, he⟩, hit, hne, hea, hai⟩ := st
    obtain ⟨xs, x, hq, hx⟩ := hg
    obtain ⟨its, rv, p, hz⟩ := I.tuple hq
    obtain ⟨u, hu, ru⟩ := rv.get hx
    have hel : e < s.heap.objs.size := Heap.lt_size he
    have hil : it < s.heap.objs.size := by obtain ⟨_, q, _⟩ := hit; exact Heap.lt_size q
    have hi : i < its.length := (List.getElem?_eq_some_iff.mp hu).1
    refine wpAny_pyNext_enum_itemD (Draws.tuple (A := X.A.in1) (show X.A.in1.handled = none from I.ok.hd hc) it a hai its.toArray) he ⟨hit, p⟩ (show i < its.toArray.size by simpa using hi) hne (by simp [hne, hea]) fun y h' tk hy ho hst hT hsz hk => ?_
    obtain rfl : y = u := by rw [List.getElem?_toArray, hu] at hy; exact (Option.some.inj hy).symm
    refine ⟨_, rfl, wpAny_letOwnedTupleGo_enum (s := { s with heap := h', toks := tk + 1 }) ho fun h'' he' sb => ?_⟩
    have hT2 : h''.get? s.heap.objs.size = some { cls := .type "tuple", data := .seq #[.int i tk, y] } := (sb.2 _ (Nat.ne_of_gt hel)).trans hT
    have new : ObjOk X.prog X.w (upd H s.heap.objs.size (.tup [.int (i : Nat), x])) h'' s.heap.objs.size (.tup [.int (i : Nat), x]) := ⟨by show 2 ≤ sizeLine; decide, [.int i tk, y], .cons ⟨_, rfl⟩ (.cons ru .nil), ⟨_, hT2, rfl, _, rfl⟩⟩
    have I1 : Inv X pins σ (upd H s.heap.objs.size (.tup [.int (i : Nat), x])) { s with heap := h'', toks := tk + 1 } := I.turnedNew (ch := [e, it]) (fun b ob hb q => (sb.2 b (fun z => hb (by simp [z]))).trans (hk b ob (fun z => hb (by simp [z])) (fun z => hb (by simp [z])) q)) hf (Nat.le_refl _) new
    refine ⟨.ref s.heap.objs.size, _, I1, rfl, ⟨_, x, rfl, I.hok.fresh (Nat.le_refl _), rfl, fun ys hy => by rw [I.tuple_inj hy hq]; exact hx⟩, ⟨⟨y, by rw [show ((i + 1 : Nat) : Int) = (i : Int) + 1 by omega]; exact he'⟩, hst.1.at fun o q => (sb.2 it (Ne.symm hne)).trans q, hne, hea, hai⟩, fun b hb => ?_⟩
    have hb' : b < s.heap.objs.size := by rcases (show b = e ∨ b = it by simpa using hb) with z | z <;> rw [z] <;> assumption
    rw [upd_ne (Nat.ne_of_lt hb')]
    exact (hf b hb).1
  done := by
    intro X hP hw hK hc i pins s σ H E I hf st hg
    subst hP hw hK
    obtain ⟨⟨old, he⟩, hit, hne, hea, hai⟩ := st
    obtain ⟨xs, hq, hx⟩ := hg
    obtain ⟨its, rv, p, hz⟩ := I.tuple hq
    obtain ⟨f0, f1, f2, f3, f4, f5⟩ := hf it (by simp)
    have hl := rv.length
    exact enumT_end (I.ok.hd hc) he hit p (by simp; omega) fun h' eb => ⟨rfl, I.turned (t' := s.toks) (fun b o hb q => eb b o hb q) f0 f1 f3 f4 f5⟩
  self := fun A i s Q E st h => let ⟨⟨_, he⟩, _⟩ := st; wpAny_pyIter_enum he h
def iEnumT (K : PySem.W.Frag) (ta : TA) : TI := fun σ H R => ta σ H fun vs H1 => ∃ a, vs = [.ref a] ∧ (∃ xs, SqT K H1 a xs) ∧ R (IteT K a) H1
theorem pi_enumT {X : Cx} {e : Expr} {ta : TA} {p pos tpos : Pos} {elts : List Expr} {kk : Nat} (hg : Gl X "enumerate") (hm : X.mg "enumerate" = none) (ha : PA X [e] ta) (hs : starEach [e] X.env = [(false, eval e X.env)]) :
    PI X (.Tuple elts kk tpos) (.Call (.Name "enumerate" p) [e] [] pos) (iEnumT X.K ta) := by
  refine ⟨fun pins s σ H R I h => Call_ (ld_blt I hg hm boot_enumerate (PyProof.Rows.callWith_type1 (thn (ha.run pos pins s σ H _ I h) fun us s1 ⟨vs, H1, I1, r1, q1⟩ => ?_) hs rfl))⟩
  obtain ⟨a, rfl, ⟨xs, hq⟩, q⟩ := q1
  cases r1 with
  | cons r rr =>
    cases rr
    cases r
    obtain ⟨its, rv, p', hz⟩ := I1.tuple hq
    have hal : a < s1.heap.objs.size := p'.lt
    refine call_enum1 (begins_tuple a its.toArray) p' fun h' he hit hsz hk => wpAny_pyIter_enum he ?_
    have I2 : Inv X pins σ H1 { s1 with heap := h' } := I1.kept (t' := s1.toks) hk
    refine ⟨s1.heap.objs.size + 1, [s1.heap.objs.size + 1, s1.heap.objs.size], _, _, H1, rfl, I2, turn_enumT a (s1.heap.objs.size + 1) s1.heap.objs.size, ⟨⟨.none, he⟩, ⟨_, hit, rfl, rfl⟩, Nat.succ_ne_self _, Nat.ne_of_gt (Nat.lt_succ_of_lt hal), Nat.ne_of_lt hal⟩, fun b hb => ?_, q⟩
    have hle : s1.heap.objs.size ≤ b := by
      rcases (show b = s1.heap.objs.size + 1 ∨ b = s1.heap.objs.size by simpa using hb) with z | z <;> rw [z]
      · exact Nat.le_succ _
      · exact Nat.le_refl _
    exact I1.fpOk hle (I1.hok.fresh hle)
section
variable {X : Cx} {M : MK} {W : WX}
theorem PI.or {tg e : Expr} {t t' : TI} (h : PI X tg e t) (h' : PI X tg e t') : PI X tg e (fun σ H R => t σ H R ∨ t' σ H R) := ⟨fun pins s σ H R I q => by
  rcases q with q | q
  · exact h.run pins s σ H R I q
  · exact h'.run pins s σ H R I q⟩
def enumD (xs : List PyData) : List D := xs.zipIdx.map fun p => .py (.tuple [.int p.2, p.1])
theorem enumD_get {xs : List PyData} {i : Nat} {x : D} (h : (enumD xs)[i]? = some x) : ∃ d, xs[i]? = some d ∧ x = .py (.tuple [.int i, d]) := by
  unfold enumD at h
  rw [List.getElem?_map, List.getElem?_zipIdx] at h
  cases q : xs[i]? with
  | none => rw [q] at h; cases h
  | some d => rw [q] at h; cases h; exact ⟨d, rfl, by simp⟩
theorem enumD_len (xs : List PyData) : (enumD xs).length = xs.length := by simp [enumD]
theorem pair_rel {B : Bs} {H : Hp} {L : List Addr} {A : List (Option Addr)} {T : Addr} {i : Nat} {d : PyData} {v : V} (hT : H T = none) (r : RelP M.K H (Zf B L A) d v) : RelD M.K (upd H T (.tup [.int (i : Nat), v])) L (Zf B L A) (.py (.tuple [.int i, d])) (.ref T) :=
  .py (.tup (.inl (.inl upd_same)) (.cons (.int _) (.cons (r.stay (Ext.same L (same_upd hT)).stay) .nil)))
theorem wit_enumL (hK : M.K = X.K) {a : Addr} {xs : List PyData} : WIt M (Ite X.K a) (enumD xs) (SrcL M.K a xs) := by
  rintro B H L A h env σ g ⟨vs, h1, h2, h3⟩ i
  refine ⟨fun hl => ⟨vs, .inl h1, by rw [← h3.length]; rw [enumD_len] at hl; exact hl⟩, fun x hx => ?_⟩
  obtain ⟨d, q, rfl⟩ := enumD_get hx
  obtain ⟨v, e1, e2⟩ := h3.get q
  refine ⟨⟨vs, v, .inl h1, e1⟩, fun w H' ⟨T, y, ew, hT, eH, hy⟩ => ?_⟩
  have := hy vs (.inl h1)
  rw [e1] at this; cases this
  subst ew eH
  exact ⟨same_upd hT, pair_rel hT e2⟩
theorem wit_enumT (hK : M.K = X.K) {a : Addr} {xs : List PyData} : WIt M (IteT X.K a) (enumD xs) (SrcT M.K a xs) := by
  rintro B H L A h env σ g ⟨vs, h1, h3⟩ i
  refine ⟨fun hl => ⟨vs, hK ▸ h1, by rw [← h3.length]; rw [enumD_len] at hl; exact hl⟩, fun x hx => ?_⟩
  obtain ⟨d, q, rfl⟩ := enumD_get hx
  obtain ⟨v, e1, e2⟩ := h3.get q
  refine ⟨⟨vs, v, hK ▸ h1, e1⟩, fun w H' ⟨T, y, ew, hT, eH, hy⟩ => ?_⟩
  have := hy vs (hK ▸ h1)
  rw [e1] at this; cases this
  subst ew eH
  exact ⟨same_upd hT, pair_rel hT e2⟩
def enumO : List D → Option (List D)
  | [.py (.list xs)] => some (enumD xs)
  | [.py (.tuple xs)] => some (enumD xs)
  | _ => none
theorem i_enum (hK : M.K = X.K) {e : Expr} {elts : List Expr} {kk : Nat} {f : EvF (List D)} {p pos tpos : Pos} (hg : Gl X "enumerate") (hm : X.mg "enumerate" = none) (ha : PA X [e] (kA M .n W f)) (hs : starEach [e] X.env = [(false, eval e X.env)]) :
    PI X (.Tuple elts kk tpos) (.Call (.Name "enumerate" p) [e] [] pos) (kI M W (semIt f enumO)) := by
  refine PI.mono (PI.or (pi_enum hg hm ha hs) (pi_enumT hg hm ha hs)) fun σ H Q ⟨B, L, A, h, env, g, p⟩ => ?_
  unfold semIt at p
  cases ef : f env h with
  | bad => rw [ef] at p; exact p.elim
  | exc c fs h1 => rw [ef] at p; exact .inl ⟨B, L, A, h, env, g, by rw [ef]; exact p⟩
  | ok ds h1 =>
    rw [ef] at p
    have p : Post M B A env σ W _ H L Q (lift (enumO ds) h1) := p
    cases e2 : enumO ds with
    | none => rw [e2] at p; exact p.elim
    | some xs =>
      rw [e2] at p
      unfold enumO at e2
      split at e2
      · cases e2
        refine .inl ⟨B, L, A, h, env, g, ?_⟩
        rw [ef]
        intro vs H1 L1 x1 g1 r1
        cases r1 with
        | cons r t =>
          cases t
          cases r with
          | py r =>
            cases r with
            | @lst a us _ q1 q2 q3 => exact ⟨a, us, rfl, .inl q1, p _ _ _ x1 g1 ⟨SrcL M.K a _, wit_enumL hK, srcL_stay, us, q1, q2, q3⟩⟩
      · cases e2
        refine .inr ⟨B, L, A, h, env, g, ?_⟩
        rw [ef]
        intro vs H1 L1 x1 g1 r1
        cases r1 with
        | cons r t =>
          cases t
          cases r with
          | py r =>
            cases r with
            | @tup a us _ q1 q3 => exact ⟨a, rfl, ⟨us, hK ▸ q1⟩, p _ _ _ x1 g1 ⟨SrcT M.K a _, wit_enumT hK, srcT_stay, us, q1, q3⟩⟩
      · cases e2
end
end KF
set_option Elab.async false
set_option linter.all false
set_option maxRecDepth 100000
set_option maxHeartbeats 4000000
/-! KF, part C: dicts at places. -/
namespace KF
open PySem PySem.Spec PyProof.Rows L2
section
variable {X : Cx} {pins : List (Addr × Obj)} {σ : L2.St} {H : Hp} {s : Shared} {Z : Addr → Prop}
mutual
theorem RelP.nest (I : Inv X pins σ H s) : ∀ {d : PyData} {v : V} {u : Value} {k : NestedKey}, RelP X.K H Z d v → RelV v u → nk d = some k → NestedIs s.heap k u
  | _, _, u, k, .non, r, e => by
    simp only [nk, Option.some.injEq] at e; subst e
    cases (show u = Value.none from r); exact .none
  | _, _, u, k, .bl b, r, e => by simp [nk] at e
  | _, _, u, k, .int i, r, e => by
    simp only [nk, Option.some.injEq] at e; subst e
    obtain ⟨t, rfl⟩ := r; exact .int i t
  | _, _, u, k, .str x _, r, e => by
    simp only [nk, Option.some.injEq] at e; subst e
    obtain ⟨t, rfl⟩ := r; exact .text x t
  | _, _, u, k, .lst _ _ _, r, e => by simp [nk] at e
  | .tuple ds, _, u, k, .tup h q, r, e => by
    have e : (nks ds).map NestedKey.tup = some k := by simpa only [nk] using e
    cases e2 : nks ds with
    | none => rw [e2] at e; cases e
    | some ks =>
      rw [e2] at e; cases e
      obtain ⟨its, rv, ⟨o, ho, hc, n, hd⟩, _⟩ := I.tuple h
      obtain rfl := (show u = Value.ref _ from r)
      exact .tup ho hc hd (RelPs.nest I q rv e2)
theorem RelPs.nest (I : Inv X pins σ H s) : ∀ {ds : List PyData} {vs : List V} {us : List Value} {ks : List NestedKey}, RelPs X.K H Z ds vs → Vals vs us → nks ds = some ks → NestedAll s.heap ks us
  | _, _, _, _, .nil, .nil, e => by
    simp only [nks, Option.some.injEq] at e; subst e; exact .nil
  | d :: ds, _, _, ks, .cons r t, .cons q qs, e => by
    have e : ((nk d).bind fun k => (nks ds).bind fun ks => some (k :: ks)) = some ks := by simpa only [nks] using e
    cases e1 : nk d with
    | none => rw [e1] at e; cases e
    | some k =>
      rw [e1] at e
      have e : ((nks ds).bind fun ks => some (k :: ks)) = some ks := e
      cases e2 : nks ds with
      | none => rw [e2] at e; cases e
      | some ks' =>
        rw [e2] at e; cases e
        exact .cons (RelP.nest I r q e1) (RelPs.nest I t qs e2)
end
theorem DRelN.dict (I : Inv X pins σ H s) {a : Addr} {xs : List (NestedKey × Addr × Value)} {ep : Nat} {kvs : KVs} (e : Rd H a (nestO X.prog X.w a xs ep)) (r : DRelN X.K H Z kvs xs) : (a == sysModules) = false ∧ xs.length ≤ sizeLine ∧ s.heap.DictOfH (nestedKind X.prog X.w) a xs := by
  obtain ⟨z1, z2, z3, o, es, q1, q2, q3, q4⟩ := nest_of I.hok e
  refine ⟨z1, z2, o, es, ep, q1, q2, q3, q4, ?_, z3⟩
  clear q4 z3 z2 e
  induction r with
  | nil => exact fun x hx => nomatch hx
  | cons p _ ih =>
    intro x hx
    rcases List.mem_cons.mp hx with z | z
    · subst z; exact ⟨RelP.nest I p.2.2.1 rfl p.1, p.2.1⟩
    · exact ih x z
theorem dK_nil (I : Inv X pins σ H s) {a : Addr} (e : Rd H a (.dK [])) : (a == sysModules) = false ∧ s.heap.DictOfH (nestedKind X.prog X.w) a [] := by
  obtain ⟨_, hd, vs, rel, o, es, ep, q1, q2, q3, q4⟩ := dk_rd I.hok e
  have hv : vs = [] := List.length_eq_zero_iff.mp (rel.length.symm)
  subst hv
  refine ⟨hd, o, es, ep, q1, q2, q3, ?_, fun x hx => (by cases hx), List.nodup_nil⟩
  obtain ⟨_, q, _⟩ := q4
  generalize es.toList = l at q ⊢
  cases q
  rfl
end
/-! ### what a look-up gives -/
section
variable {K : PySem.W.Frag} {H : Hp} {Z : Addr → Prop}
theorem DRelN.val {kvs : KVs} {xs : List (NestedKey × Addr × Value)} (r : DRelN K H Z kvs xs) {kd : PyData} {k : NestedKey} (hk : nk kd = some k) :
    (getK kvs kd = none ∧ atKey xs k = none) ∨ ∃ d p v, getK kvs kd = some d ∧ atKey xs k = some p ∧ RelV v p.2 ∧ RelP K H Z d v := by
  induction r with
  | nil => exact .inl ⟨rfl, rfl⟩
  | @cons kv x _ _ p _ ih =>
    have e := keq_nk p.1 hk
    unfold getK atKey at ih ⊢
    rw [List.find?_cons, List.find?_cons, e]
    by_cases c : x.1 = k
    · rw [decide_eq_true c]
      obtain ⟨v, q1, q2⟩ := p.2.2.2
      exact .inr ⟨_, _, v, rfl, rfl, q1, q2⟩
    · rw [decide_eq_false c]; exact ih
theorem DRelK.val {kvs : KVs} {ks : List (Key × V)} (r : DRelK K H Z kvs ks) {kd : PyData} {k : Key} (hk : keyOf kd = some k) :
    (getK kvs kd = none ∧ valV ks k = none) ∨ ∃ d v, getK kvs kd = some d ∧ valV ks k = some v ∧ RelP K H Z d v := by
  induction r with
  | nil => exact .inl ⟨rfl, rfl⟩
  | @cons kv x _ _ p _ ih =>
    have e := keq_keys p.1 hk
    unfold getK valV at ih ⊢
    rw [List.find?_cons, List.find?_cons, e]
    by_cases c : x.1 = k
    · rw [decide_eq_true c]
      exact .inr ⟨_, _, rfl, rfl, p.2⟩
    · rw [decide_eq_false c]; exact ih
theorem paired_map {α β γ δ : Type} {F : α → β → Prop} {G : γ → δ → Prop} {f : α → γ} {g : β → δ} : ∀ {l : List α} {m : List β}, Paired F l m → (∀ a b, F a b → G (f a) (g b)) → Paired G (l.map f) (m.map g)
  | _, _, .nil, _ => .nil
  | _, _, .cons r t, h => .cons (h _ _ r) (paired_map t h)
theorem paired_app {α β : Type} {F : α → β → Prop} : ∀ {l l' : List α} {m m' : List β}, Paired F l m → Paired F l' m' → Paired F (l ++ l') (m ++ m')
  | _, _, _, _, .nil, q => q
  | _, _, _, _, .cons r t, q => .cons r (paired_app t q)
theorem DRelN.put {kvs : KVs} {xs : List (NestedKey × Addr × Value)} (r : DRelN K H Z kvs xs) {kd vd : PyData} {k : NestedKey} {b : Addr} {v : V} {u : Value} (hk : nk kd = some k) (hd : k.depth ≤ 8) (rk : RelP K H Z kd (.ref b)) (rv : RelP K H Z vd v) (ru : RelV v u) : DRelN K H Z (putKD kvs kd vd) (storedH xs k b u) := by
  unfold putKD
  rcases r.val hk with ⟨e1, e2⟩ | ⟨d, p, w, e1, e2, _, _⟩
  · rw [e1, storedH_new e2]
    exact paired_app r (.cons ⟨hk, hd, rk, v, ru, rv⟩ .nil)
  · rw [e1, storedH_old e2]
    refine paired_map r fun kv x q => ?_
    have e := keq_nk q.1 hk
    unfold putAt
    rw [e]
    by_cases c : x.1 = k
    · rw [decide_eq_true c, if_pos rfl, if_pos c]; exact ⟨q.1, q.2.1, q.2.2.1, v, ru, rv⟩
    · rw [decide_eq_false c, if_neg (by decide), if_neg c]; exact q
theorem DRelK.put {kvs : KVs} {ks : List (Key × V)} (r : DRelK K H Z kvs ks) {kd vd : PyData} {k : Key} {v : V} (hk : keyOf kd = some k) (rv : RelP K H Z vd v) : DRelK K H Z (putKD kvs kd vd) (putK ks k v) := by
  unfold putKD putK
  rw [valV_any]
  rcases r.val hk with ⟨e1, e2⟩ | ⟨d, w, e1, e2, _⟩
  · rw [e1, e2]
    exact paired_app r (.cons ⟨hk, rv⟩ .nil)
  · rw [e1, e2]
    refine paired_map r fun kv x q => ?_
    have e := keq_keys q.1 hk
    rw [e]
    by_cases c : x.1 = k
    · rw [decide_eq_true c, if_pos rfl, if_pos c]; exact ⟨q.1, rv⟩
    · rw [decide_eq_false c, if_neg (by decide), if_neg c]; exact q
/-! ### the two kinds -/
theorem kOk_tup {kvs : KVs} {ds : List PyData} (h : kOk kvs (.tuple ds) = true) : (∃ ks, nks ds = some ks ∧ NestedKey.depth (.tup ks) ≤ 8) ∧ ∀ kv ∈ kvs, isT kv.1 = true := by
  unfold kOk at h
  obtain ⟨h1, h2⟩ := Bool.and_eq_true_iff.mp h
  refine ⟨?_, fun kv hx => List.all_eq_true.mp h2 kv hx⟩
  cases e : nks ds with
  | none => rw [e] at h1; cases h1
  | some ks => rw [e] at h1; exact ⟨ks, rfl, Nat.le_of_ble_eq_true h1⟩
theorem DRelK.tup {kvs : KVs} {ks : List (Key × V)} (r : DRelK K H Z kvs ks) (h : ∀ kv ∈ kvs, isT kv.1 = true) : kvs = [] ∧ ks = [] := by
  cases r with
  | nil => exact ⟨rfl, rfl⟩
  | cons p t =>
    have := h _ List.mem_cons_self
    rcases keyOf_V p.1 with ⟨i, e, _⟩ | ⟨i, e, _⟩ <;> rw [e] at this <;> cases this
theorem DRelN.notTup {kvs : KVs} {xs : List (NestedKey × Addr × Value)} (r : DRelN K H Z kvs xs) (ne : xs ≠ []) (h : ∀ kv ∈ kvs, (!isT kv.1) = true) : False := by
  cases r with
  | nil => exact ne rfl
  | @cons kv x _ _ p t =>
    have := h _ List.mem_cons_self
    obtain ⟨q1, _, q3, _⟩ := p
    generalize kv.1 = d at q1 q3 this
    cases q3 with
    | lst => simp [nk] at q1
    | tup => cases this
end
section
variable {X : Cx} {M : MK}
/-- M is of X -/
structure Of (M : MK) (X : Cx) : Prop where
  K : M.K = X.K
  prog : M.prog = X.prog
  w : M.w = X.w
/-- a look-up, by the kind of the key -/
inductive Lk (X : Cx) (H : Hp) (Z : Addr → Prop) (a : Addr) (kvs : KVs) (kd : PyData) (y : V) : Prop
  | k {ks : List (Key × V)} {k : Key} : Rd H a (.dK ks) → DRelK X.K H Z kvs ks → keyOf kd = some k → y = kV k → Lk X H Z a kvs kd y
  | n {xs : List (NestedKey × Addr × Value)} {k : NestedKey} {b : Addr} : (Rd H a (.dK []) ∧ kvs = [] ∧ xs = [] ∨ ∃ ep, Rd H a (nestO X.prog X.w a xs ep)) → DRelN X.K H Z kvs xs → nk kd = some k → k.depth ≤ 8 → y = .ref b → Lk X H Z a kvs kd y
theorem lk_of (o : Of M X) {H : Hp} {Z : Addr → Prop} {a : Addr} {kvs : KVs} {kd : PyData} {y : V} (m : RdOk M H Z a kvs) (r : RelP M.K H Z kd y) (ok : kOk kvs kd = true) : Lk X H Z a kvs kd y := by
  rw [o.K] at r
  cases r with
  | non => cases ok
  | bl b => cases ok
  | lst _ _ _ => cases ok
  | int i =>
    have ok := List.all_eq_true.mp (show (kvs.all fun kv => !isT kv.1) = true from ok)
    rcases m with ⟨ks, e, q⟩ | ⟨xs, ep, e, ne, q⟩
    · rw [o.K] at q; exact .k e q rfl rfl
    · exact (q.notTup ne ok).elim
  | str x hx =>
    have ok := List.all_eq_true.mp (show (kvs.all fun kv => !isT kv.1) = true from ok)
    rcases m with ⟨ks, e, q⟩ | ⟨xs, ep, e, ne, q⟩
    · rw [o.K] at q; exact .k e q rfl rfl
    · exact (q.notTup ne ok).elim
  | @tup b us ds h q' =>
    obtain ⟨⟨ks, e1, e2⟩, e3⟩ := kOk_tup ok
    have en : nk (.tuple ds) = some (.tup ks) := by simp [nk, e1]
    rcases m with ⟨ks', e, q⟩ | ⟨xs, ep, e, ne, q⟩
    · obtain ⟨rfl, rfl⟩ := q.tup e3
      exact .n (.inl ⟨e, rfl, rfl⟩) .nil en e2 rfl
    · rw [o.K] at q
      rw [o.prog, o.w] at e
      exact .n (.inr ⟨_, e⟩) q en e2 rfl
end
end KF
set_option Elab.async false
set_option linter.all false
set_option maxRecDepth 100000
set_option maxHeartbeats 4000000
/-! KF, part D: what is done with dicts. -/
namespace KF
open PySem PySem.Spec PyProof.Rows L2
section
variable {X : Cx} {M : MK} {pins : List (Addr × Obj)} {σ : L2.St} {H : Hp} {s : Shared} {Z : Addr → Prop} {a : Addr} {kvs : KVs} {kd : PyData} {y : V} {u : Value} {A : Around} {E : Value → Shared → Prop}
theorem room8 (hu : A.units + 20 < cLine) : (nestedKind X.prog X.w).room A.in1 := by
  show A.units + 1 + 8 < cLine
  omega
theorem Lk.at {xs : List (NestedKey × Addr × Value)} (I : Inv X pins σ H s) (h : Rd H a (.dK []) ∧ kvs = [] ∧ xs = [] ∨ ∃ ep, Rd H a (nestO X.prog X.w a xs ep)) (r : DRelN X.K H Z kvs xs) : (a == sysModules) = false ∧ xs.length ≤ sizeLine ∧ s.heap.DictOfH (nestedKind X.prog X.w) a xs := by
  rcases h with ⟨e, _, rfl⟩ | ⟨ep, e⟩
  · obtain ⟨h1, h2⟩ := dK_nil I e
    exact ⟨h1, by simp, h2⟩
  · exact r.dict I e
theorem Lk.typ (I : Inv X pins σ H s) (l : Lk X H Z a kvs kd y) : s.TypeIs (.ref a) "dict" ∧ (∀ b, Value.ref a = .ref b → ∃ ob, s.heap.get? b = some ob ∧ ob.dict = none) ∧ (a == sysModules) = false := by
  cases l with
  | k e r hk ey => exact isD_at I (.inl ⟨_, e⟩)
  | n e r hk hd ey =>
    obtain ⟨h1, _, h2⟩ := Lk.at I e r
    refine ⟨h2.typeIs, fun b q => ?_, h1⟩
    cases q
    obtain ⟨ob, _, _, h1, h2, _⟩ := h2
    exact ⟨ob, h1, h2.2.1⟩
theorem Lk.getItem (hu : A.units + 20 < cLine) (I : Inv X pins σ H s) (l : Lk X H Z a kvs kd y) (rk : RelP X.K H Z kd y) (ry : RelV y u) {d : PyData} (e : getK kvs kd = some d) {Q : Value → Shared → Prop} (h : ∀ v w' s', RelP X.K H Z d v → Inv X pins σ H s' → RelV v w' → Q w' s') :
    wpAny (model X.prog X.w) A (getItem (.ref a) u) Q E s := by
  cases l with
  | k e1 r hk ey =>
    subst ey
    rcases r.val hk with ⟨z, _⟩ | ⟨d', v, z, z2, z3⟩
    · rw [e] at z; cases z
    · rw [e] at z; cases z
      exact d_getItem (by omega) I (.inl ⟨_, _, e1, rfl, z2.symm⟩) ry fun w' s' I' rw' => h v w' s' z3 I' rw'
  | n e1 r hk hd ey =>
    subst ey
    obtain rfl : u = Value.ref _ := ry
    obtain ⟨h1, h2, h3⟩ := Lk.at I e1 r
    rcases r.val hk with ⟨z, _⟩ | ⟨d', p, v, z, z2, z3, z4⟩
    · rw [e] at z; cases z
    · rw [e] at z; cases z
      exact wpAny_getItem_heap (room8 hu) ⟨RelP.nest I rk rfl hk, hd⟩ h3 z2 (h v _ _ z4 (I.tok _) z3)
theorem Lk.inD (hu : A.units + 20 < cLine) (I : Inv X pins σ H s) (l : Lk X H Z a kvs kd y) (rk : RelP X.K H Z kd y) (ry : RelV y u) {Q : Value → Shared → Prop} (h : ∀ s', Inv X pins σ H s' → Q (.bool (getK kvs kd).isSome) s') :
    wpAny (model X.prog X.w) A (compareOp .In u (.ref a)) Q E s := by
  cases l with
  | k e1 r hk ey =>
    subst ey
    refine d_in (by omega) I (.inl ⟨_, _, e1, rfl, rfl⟩) ry fun s' I' => ?_
    rcases r.val hk with ⟨z, z2⟩ | ⟨d', v, z, z2, z3⟩ <;> rw [z2] <;> have := h s' I' <;> rw [z] at this <;> exact this
  | n e1 r hk hd ey =>
    subst ey
    obtain rfl : u = Value.ref _ := ry
    obtain ⟨h1, h2, h3⟩ := Lk.at I e1 r
    refine wpAny_in_heap (room8 hu) ⟨RelP.nest I rk rfl hk, hd⟩ h1 h3 ?_
    rcases r.val hk with ⟨z, z2⟩ | ⟨d', p, v, z, z2, z3, z4⟩ <;> rw [z2] <;> rw [z] at h <;> exact h _ (I.tok _)
theorem Lk.notInD (hu : A.units + 20 < cLine) (I : Inv X pins σ H s) (l : Lk X H Z a kvs kd y) (rk : RelP X.K H Z kd y) (ry : RelV y u) {Q : Value → Shared → Prop} (h : ∀ s', Inv X pins σ H s' → Q (.bool (!(getK kvs kd).isSome)) s') :
    wpAny (model X.prog X.w) A (compareOp .NotIn u (.ref a)) Q E s := by
  cases l with
  | k e1 r hk ey =>
    subst ey
    refine d_notIn (by omega) I (.inl ⟨_, _, e1, rfl, rfl⟩) ry fun s' I' => ?_
    rcases r.val hk with ⟨z, z2⟩ | ⟨d', v, z, z2, z3⟩ <;> rw [z2] <;> have := h s' I' <;> rw [z] at this <;> exact this
  | n e1 r hk hd ey =>
    subst ey
    obtain rfl : u = Value.ref _ := ry
    obtain ⟨h1, h2, h3⟩ := Lk.at I e1 r
    refine wpAny_notIn_heap (room8 hu) ⟨RelP.nest I rk rfl hk, hd⟩ h1 h3 ?_
    rcases r.val hk with ⟨z, z2⟩ | ⟨d', p, v, z, z2, z3, z4⟩ <;> rw [z2] <;> rw [z] at h <;> exact h _ (I.tok _)
/-- d.get(k, x) -/
theorem Lk.get2 (hu : A.units + 20 < cLine) (I : Inv X pins σ H s) (l : Lk X H Z a kvs kd y) (rk : RelP X.K H Z kd y) (ry : RelV y u) {x : V} {r' : Value} {dx : PyData} (rx : RelP X.K H Z dx x) (rr : RelV x r') {Q : Value → Shared → Prop} (h : ∀ v w' s', RelP X.K H Z ((getK kvs kd).getD dx) v → Inv X pins σ H s' → RelV v w' → Q w' s') :
    wpAny (model X.prog X.w) A (call (.builtin "dict.get") [.ref a, u, r']) Q E s := by
  cases l with
  | k e1 r hk ey =>
    subst ey
    refine d_get2 (by omega) I (.inl ⟨_, _, e1, rfl, rfl⟩) ry rr fun w' s' I' rw' => ?_
    rcases r.val hk with ⟨z, z2⟩ | ⟨d', v, z, z2, z3⟩ <;> rw [z2] at rw'
    · rw [z] at h; exact h x w' s' rx I' rw'
    · rw [z] at h; exact h v w' s' z3 I' rw'
  | n e1 r hk hd ey =>
    subst ey
    obtain rfl : u = Value.ref _ := ry
    obtain ⟨h1, h2, h3⟩ := Lk.at I e1 r
    refine call_meetsIn PySem.F.slot_dict_get h3.typeIs PySem.F.entry_dict_get (PySem.F.args_dict_get_3 _ _ _) (meetsH_dict_get_default (nestedKind X.prog X.w) a _ h1 r') ⟨room8 hu, _, _, ⟨RelP.nest I rk rfl hk, hd⟩, h3, ?_⟩
    rcases r.val hk with ⟨z, z2⟩ | ⟨d', p, v, z, z2, z3, z4⟩ <;> rw [z2]
    · rw [z] at h; exact h x _ _ rx (I.tok _) rr
    · rw [z] at h; exact h v _ _ z4 (I.tok _) z3
/-- d[k] = v -/
theorem nest_write {h' : Heap} {t' : Nat} {xs : List (NestedKey × Addr × Value)} (I : Inv X pins σ H s) (mu : Mut (H a)) (hd : (a == sysModules) = false) (hl : xs.length ≤ sizeLine) (hs : Heap.SameBut a s.heap h') (dd : h'.DictOfH (nestedKind X.prog X.w) a xs) :
    ∃ ep, Inv X pins σ (upd H a (nestO X.prog X.w a xs ep)) { s with heap := h', toks := t' } := by
  obtain ⟨o, es, ep, q1, q2, q3, q4, _, q5⟩ := dd
  exact ⟨ep, d_write I mu hs ⟨o, q1⟩ (nest_ok ⟨hd, hl, q5, o, es, q1, q2, q3, q4⟩)⟩
theorem storedH_len {K : Type} [DecidableEq K] (xs : List (K × Addr × Value)) (k : K) (b : Addr) (v : Value) : (storedH xs k b v).length ≤ xs.length + 1 ∧ storedH xs k b v ≠ [] := by
  unfold storedH
  split
  · rename_i c
    refine ⟨by simp, fun z => ?_⟩
    have : xs = [] := List.map_eq_nil_iff.mp z
    subst this
    cases c
  · simp
theorem putK_len {K : Type} [DecidableEq K] (ks : List (K × V)) (k : K) (v : V) : (putK ks k v).length ≤ ks.length + 1 := length_putK ks k v
/-- what is written: the dict's new object, by the new pairs -/
theorem Lk.setItem (hu : A.units + 20 < cLine) (I : Inv X pins σ H s) (l : Lk X H Z a kvs kd y) (hz : Z a) (un : ∀ o u, H a ≠ some (.frz o u)) (rk : RelP X.K H Z kd y) (ry : RelV y u) {v : V} {r' : Value} {dv : PyData} (rv : RelP X.K H Z dv v) (rr : RelV v r') (fit : kvs.length < 16000000)
    {Q : Unit → Shared → Prop} (h : ∀ o s', Inv X pins σ (upd H a o) s' → (∀ M L Z', Of M X → Stay H Z (upd H a o) Z' → MOk M (upd H a o) L Z' a (.dct (putKD kvs kd dv))) → Q () s') :
    wpAny (model X.prog X.w) A (setItem (.ref a) u r') Q E s := by
  cases l with
  | k e1 r hk ey =>
    subst ey
    have hl := Paired.length r
    have e1 : H a = some (.dK _) := e1.elim id fun ⟨o, z⟩ => absurd z (un _ _)
    refine d_setItem (by omega) I (.inl ⟨_, _, e1, rfl, by rw [← hl, sizeLine_eq]; omega, rfl⟩) ry rr fun s' I' => h _ s' I' fun M L Z' o st => ?_
    refine .dK upd_same ?_
    rw [o.K]
    exact (r.put hk rv).stay st
  | @n xs k b e1 r hk hd ey =>
    subst ey
    obtain rfl : u = Value.ref _ := ry
    obtain ⟨h1, h2, h3⟩ := Lk.at I e1 r
    have hl := Paired.length r
    have mu : Mut (H a) := by
      rcases e1 with ⟨e | ⟨o, e⟩, _⟩ | ⟨ep, e | ⟨o, e⟩⟩
      · rw [e]; exact True.intro
      · exact absurd e (un _ _)
      · rw [e]; exact True.intro
      · exact absurd e (un _ _)
    obtain ⟨l1, l2⟩ := storedH_len xs k b r'
    refine wpAny_setItem_heap (hsz := h2) (room8 hu) ⟨RelP.nest I rk rfl hk, hd⟩ h3 fun h' dd hs => ?_
    obtain ⟨ep, I'⟩ := nest_write (t' := s.toks + (nestedKind X.prog X.w).draws k) I mu h1 (by rw [sizeLine_eq]; omega) hs dd
    refine h _ _ I' fun M L Z' o st => ?_
    refine .dN (ep := ep) (by rw [o.prog, o.w]; exact upd_same) l2 ?_
    rw [o.K]
    exact (r.put hk hd rk rv rr).stay st
end
end KF
set_option Elab.async false
set_option linter.all false
set_option maxRecDepth 100000
set_option maxHeartbeats 4000000
/-! KF, part E: dicts, by value. -/
namespace KF
open PySem PySem.Spec PyProof.Rows L2
section
variable {X : Cx} {M : MK} {W : WX} {B : Bs} {A : List (Option Addr)} {Hs H : Hp} {L : List Addr} {h : MH} {env : KF.Env} {σ : L2.St}
theorem RelM.keyP {kd : PyData} {v : V} {kvs : KVs} (r : RelM M .b B A Hs H L (.py kd) v) (ok : kOk kvs kd = true) : RelP M.K H (Zf B L A) kd v := by
  rcases r with r | ⟨i, a, xs, vs, _, _, e, _⟩
  · cases r with
    | py r => exact r
  · cases e; cases ok
/-! {} -/
def semDNew : EvF D := fun _ h => .ok (.loc h.length) (h ++ [.dct []])
theorem k_dnew {pos : Pos} : PE X (.Dict [] [] pos) (kE M .n W semDNew) := by
  refine PE.mono pe_dnewK fun σ H Q ⟨B, L, A, h, env, g, p⟩ n hn => ?_
  exact p (.ref n) _ (L ++ [n]) (Ext.newP hn) (g.newL hn fun Z hz => .dK upd_same .nil) (RelD.loc (by rw [← g.len, List.getElem?_append_right (Nat.le_refl _), Nat.sub_self]; rfl))
/-! d[k] -/
def rDGet (M : MK) : R2 := fun x y H Q => ∃ (a : Addr) (Z : Addr → Prop) (kvs : KVs) (kd d : PyData), x = .ref a ∧ RdOk M H Z a kvs ∧ RelP M.K H Z kd y ∧ kOk kvs kd = true ∧ getK kvs kd = some d ∧ ∀ v, RelP M.K H Z d v → Q v H
theorem ix_dict (o : Of M X) (hu : X.A.units + 20 < cLine) : IxR X (rDGet M) := by
  intro value slice pins s σ H x y v u Q I rx ry q hs
  obtain ⟨a, Z, kvs, kd, d, rfl, m, rk, ok, e, q⟩ := q
  obtain rfl : v = Value.ref a := rx
  have l := lk_of o m rk ok
  rw [o.K] at rk q
  exact tail_any (l.typ I).1 PySem.F.slot_dict_getitem.lookup (Lk.getItem hu I l rk ry e fun v w' s' r I' rv => ⟨v, H, I', rv, q v r⟩) hs
def dctAt (h : MH) : D → Option KVs
  | .loc n => match h[n]? with
    | some (.dct kvs) => some kvs
    | some (.lck kvs) => some kvs
    | _ => none
  | _ => none
def getD' (kvs : KVs) : D → Option PyData
  | .py kd => if kOk kvs kd = true then getK kvs kd else none
  | _ => none
def ixU : MH → D → D → Option D := fun h x y => match dctAt h x with
  | some kvs => (getD' kvs y).map .py
  | none => ixO h x y
theorem dctAt_rel {d : D} {v : V} {m : Mode} {kvs : KVs} (g : Good M B H L A h env σ) (r : RelM M m B A Hs H L d v) (e : dctAt h d = some kvs) : ∃ n a, d = .loc n ∧ (h[n]? = some (.dct kvs) ∨ h[n]? = some (.lck kvs)) ∧ L[n]? = some a ∧ v = .ref a ∧ RdOk M H (Zf B L A) a kvs := by
  unfold dctAt at e
  split at e
  · rename_i n
    split at e
    · rename_i kvs' q
      cases e
      obtain ⟨a, ea, rfl⟩ := r.loc
      exact ⟨n, a, rfl, .inl q, ea, rfl, (g.obj n _ a q ea).rdD⟩
    · rename_i kvs' q
      cases e
      obtain ⟨a, ea, rfl⟩ := r.loc
      exact ⟨n, a, rfl, .inr q, ea, rfl, (g.obj n _ a q ea).rdL⟩
    · cases e
  · cases e
theorem o_ixU : Op2 M .n (fun x y H Q => rIx M.K x y H Q ∨ rDGet M x y H Q) ixU := by
  intro B A H L h env σ d1 d2 d3 v1 v2 Q g r1 r2 e k
  unfold ixU at e
  cases q : dctAt h d1 with
  | none => rw [q] at e; exact .inl (o_ix B A H L h env σ d1 d2 d3 v1 v2 Q g r1 r2 e k)
  | some kvs =>
    rw [q] at e
    obtain ⟨n, a, rfl, _, _, rfl, m⟩ := dctAt_rel g r1 q
    cases d2 with
    | loc n => cases e
    | scr n => cases e
    | py kd =>
      have e : (getD' kvs (.py kd)).map D.py = some d3 := e
      unfold getD' at e
      dsimp only at e
      split at e
      · rename_i ok
        cases eg : getK kvs kd with
        | none => rw [eg] at e; cases e
        | some d =>
          rw [eg] at e; cases e
          exact .inr ⟨a, _, kvs, kd, d, rfl, m, r2.keyP ok, ok, eg, fun v r => k v H (Same.refl H) (RelM.ofP r)⟩
      · cases e
/-! k in d -/
def rDIn (M : MK) (n : Bool) : R2 := fun x y H Q => ∃ (a : Addr) (Z : Addr → Prop) (kvs : KVs) (kd : PyData), y = .ref a ∧ RdOk M H Z a kvs ∧ RelP M.K H Z kd x ∧ kOk kvs kd = true ∧ Q (.bl (xor n (getK kvs kd).isSome)) H
theorem op_inDct (o : Of M X) (hu : X.A.units + 20 < cLine) : OpR X (compareOp .In) (rDIn M false) := by
  intro pins s σ H x y v u Q I rx ry q
  obtain ⟨a, Z, kvs, kd, rfl, m, rk, ok, q⟩ := q
  obtain rfl : u = Value.ref a := ry
  have l := lk_of o m rk ok
  rw [o.K] at rk
  rw [Bool.false_xor] at q
  exact Lk.inD hu I l rk rx fun s' I' => ⟨.bl (getK kvs kd).isSome, H, I', rfl, q⟩
theorem op_ninDct (o : Of M X) (hu : X.A.units + 20 < cLine) : OpR X (compareOp .NotIn) (rDIn M true) := by
  intro pins s σ H x y v u Q I rx ry q
  obtain ⟨a, Z, kvs, kd, rfl, m, rk, ok, q⟩ := q
  obtain rfl : u = Value.ref a := ry
  have l := lk_of o m rk ok
  rw [o.K] at rk
  rw [Bool.true_xor] at q
  exact Lk.notInD hu I l rk rx fun s' I' => ⟨.bl (!(getK kvs kd).isSome), H, I', rfl, q⟩
def inK (kvs : KVs) : D → Option Bool
  | .py kd => if kOk kvs kd = true then some (getK kvs kd).isSome else none
  | _ => none
def inUD : MH → D → D → Option Bool := fun h x y => match dctAt h y with
  | some kvs => inK kvs x
  | none => inD h x y
def ninUD : MH → D → D → Option Bool := fun h x y => match dctAt h y with
  | some kvs => (inK kvs x).map (!·)
  | none => ninD h x y
theorem inK_some {kvs : KVs} {d : D} {b : Bool} (e : inK kvs d = some b) : ∃ kd, d = .py kd ∧ kOk kvs kd = true ∧ b = (getK kvs kd).isSome := by
  cases d with
  | loc n => cases e
  | scr n => cases e
  | py kd =>
    have e : (if kOk kvs kd = true then some (getK kvs kd).isSome else none) = some b := e
    split at e
    · rename_i ok; cases e; exact ⟨kd, rfl, ok, rfl⟩
    · cases e
theorem c_inU : Cm2 M (fun x y H Q => rInU M.K false x y H Q ∨ rDIn M false x y H Q) inUD := by
  intro B A H L h env σ d1 d2 b v1 v2 Q g r1 r2 e k
  unfold inUD at e
  cases q : dctAt h d2 with
  | none => rw [q] at e; exact .inl (c_in B A H L h env σ d1 d2 b v1 v2 Q g r1 r2 e k)
  | some kvs =>
    rw [q] at e
    obtain ⟨n, a, rfl, _, _, rfl, m⟩ := dctAt_rel g r2 q
    obtain ⟨kd, rfl, ok, rfl⟩ := inK_some e
    exact .inr ⟨a, _, kvs, kd, rfl, m, r1.keyP ok, ok, by rw [Bool.false_xor]; exact k⟩
theorem c_ninU : Cm2 M (fun x y H Q => rInU M.K true x y H Q ∨ rDIn M true x y H Q) ninUD := by
  intro B A H L h env σ d1 d2 b v1 v2 Q g r1 r2 e k
  unfold ninUD at e
  cases q : dctAt h d2 with
  | none => rw [q] at e; exact .inl (c_nin B A H L h env σ d1 d2 b v1 v2 Q g r1 r2 e k)
  | some kvs =>
    rw [q] at e
    obtain ⟨n, a, rfl, _, _, rfl, m⟩ := dctAt_rel g r2 q
    have e : (inK kvs d1).map (!·) = some b := e
    cases e2 : inK kvs d1 with
    | none => rw [e2] at e; cases e
    | some b' =>
      rw [e2] at e
      cases e
      obtain ⟨kd, rfl, ok, rfl⟩ := inK_some e2
      exact .inr ⟨a, _, kvs, kd, rfl, m, r1.keyP ok, ok, by rw [Bool.true_xor]; exact k⟩
/-! d.get(k, x) -/
def getX (h : MH) (d k x : D) : Option D := match dctAt h d, k, x with
  | some kvs, .py kd, .py dx => if kOk kvs kd = true then some (.py ((getK kvs kd).getD dx)) else none
  | _, _, _ => none
def semGet (fa fk fx : EvF D) : EvF D := fun env h => (fa env h).bind fun d h1 => match dctAt h1 d with
  | none => .bad
  | some _ => (fk env h1).bind fun k h2 => (fx env h2).bind fun x h3 => lift (getX h3 d k x) h3
def tGet2 (M : MK) (td ty tx : TE) : TE := fun σ H Q => td σ H fun x H1 => ∃ (a : Addr) (Z1 : Addr → Prop) (kv1 : KVs), x = .ref a ∧ RdOk M H1 Z1 a kv1 ∧ ty σ H1 fun y H2 => tx σ H2 fun z H3 => ∃ (Z : Addr → Prop) (kvs : KVs) (kd dx : PyData), RdOk M H3 Z a kvs ∧ RelP M.K H3 Z kd y ∧ kOk kvs kd = true ∧ RelP M.K H3 Z dx z ∧ ∀ v, RelP M.K H3 Z ((getK kvs kd).getD dx) v → Q v H3
theorem mok_typ (o : Of M X) {pins : List (Addr × Obj)} {s : Shared} {Z : Addr → Prop} {a : Addr} {kvs : KVs} (I : Inv X pins σ H s) (m : RdOk M H Z a kvs) : s.TypeIs (.ref a) "dict" ∧ (∀ b, Value.ref a = .ref b → ∃ ob, s.heap.get? b = some ob ∧ ob.dict = none) := by
  rcases m with ⟨ks, e, r⟩ | ⟨xs, ep, e, ne, r⟩
  · exact ⟨(isD_at I (.inl ⟨_, e⟩)).1, (isD_at I (.inl ⟨_, e⟩)).2.1⟩
  · rw [o.prog, o.w] at e
    rw [o.K] at r
    obtain ⟨h1, _, h2⟩ := r.dict I e
    refine ⟨h2.typeIs, fun b q => ?_⟩
    cases q
    obtain ⟨ob, _, _, h1, h2, _⟩ := h2
    exact ⟨ob, h1, h2.2.1⟩
theorem pe_get2 (of : Of M X) (hu : X.A.units + 20 < cLine) {o e f : Expr} {apos cpos : Pos} {td ty tx : TE} (ho : PE X o td) (he : PE X e ty) (hf : PE X f tx) (m : M2 X o "get" apos e f cpos) : PE X (.Call (.Attribute o "get" apos) [e, f] [] cpos) (tGet2 M td ty tx) := by
  refine ⟨fun pins s σ H Q I h => wpAny_Call_method m.base m.few m.line PySem.F.plainAttrs_dict PySem.F.slot_dict_get PySem.F.type_dict_get (thn (ho.run pins s σ H _ I h) fun u s1 ⟨x, H1, I1, rx, a, Z1, kv1, ex, d, q1⟩ => ?_)⟩
  subst ex
  obtain rfl : u = Value.ref a := rx
  obtain ⟨t1, t2⟩ := mok_typ of I1 d
  refine ⟨t1, t2, ?_⟩
  rw [m.trees]
  refine Calls.callWith_builtin rfl (Calls.evalArgs_plain (Calls.spliced_cons (thn (he.run pins s1 σ H1 _ I1 q1) fun iv s2 ⟨y, H2, I2, ry, q2⟩ => Calls.spliced_cons (thn (hf.run pins s2 σ H2 _ I2 q2) fun fv s3 ⟨z, H3, I3, rz, Z, kvs, kd, dx, m3, rk, ok, rx, q3⟩ => Calls.spliced_nil ?_))))
  have l := lk_of of m3 rk ok
  rw [of.K] at rk rx q3
  exact Lk.get2 hu I3 l rk ry rx rz fun v w' s' r I' rv => ⟨v, H3, I', rv, q3 v r⟩
theorem k_get2 (of : Of M X) (hu : X.A.units + 20 < cLine) {o e f : Expr} {apos cpos : Pos} {fa fk fx : EvF D} (ho : PE X o (kE M .n W fa)) (he : PE X e (kE M .b W fk)) (hf : PE X f (kE M .n W fx)) (m : M2 X o "get" apos e f cpos) : PE X (.Call (.Attribute o "get" apos) [e, f] [] cpos) (kE M .n W (semGet fa fk fx)) := by
  refine PE.mono (pe_get2 of hu ho he hf m) fun σ H Q ⟨B, L, A, h, env, g, p⟩ => ?_
  refine tG_bind sm_M g p fun d h1 v H1 L1 e1 x1 g1 r1 p1 => ?_
  cases q1 : dctAt h1 d with
  | none => rw [q1] at p1; exact p1.elim
  | some kv1 =>
    rw [q1] at p1
    obtain ⟨n, a, rfl, hn, ea, rfl, m1⟩ := dctAt_rel g1 r1 q1
    refine ⟨a, _, kv1, rfl, m1, ?_⟩
    refine tG_bind sm_M g1 p1 fun k h2 y H2 L2 e2 x2 g2 r2 p2 => ?_
    refine tG_bind sm_M g2 p2 fun x h3 z H3 L3 e3 x3 g3 r3 p3 => ?_
    unfold getX at p3
    have r1' : RelM M .n B A H3 H3 L3 (.loc n) (.ref a) := RelM.stay (m := .n) (Hs := H3) r1 (x2.trans x3) fun i a ha => (g1.own i a ha).1
    have r2' : RelM M .b B A H3 H3 L3 k y := RelM.stay (m := .b) (Hs := H3) r2 x3 fun i a ha => (g2.own i a ha).1
    cases q3 : dctAt h3 (.loc n) with
    | none => rw [q3] at p3; exact p3.elim
    | some kvs =>
      rw [q3] at p3
      obtain ⟨n', a', en, hn', ea', eq', m3⟩ := dctAt_rel g3 r1' q3
      cases eq'
      cases k with
      | loc n => exact p3.elim
      | scr n => exact p3.elim
      | py kd =>
        cases x with
        | loc n => exact p3.elim
        | scr n => exact p3.elim
        | py dx =>
          dsimp only at p3
          split at p3
          · rename_i ok
            cases r3 with
            | py r3 => exact ⟨_, kvs, kd, dx, m3, r2'.keyP ok, ok, r3, fun v r => p3.fin g3 (Same.refl _) (RelM.ofP r)⟩
          · exact p3.elim
end
end KF
set_option Elab.async false
set_option linter.all false
set_option maxRecDepth 100000
set_option maxHeartbeats 4000000
/-! KF, part F: stores into dicts. -/
namespace KF
open PySem PySem.Spec PyProof.Rows L2
section
variable {X : Cx} {M : MK} {W : WX}
def rSetD (M : MK) : V → V → V → Hp → (Hp → Prop) → Prop := fun o i v H Q => ∃ (a : Addr) (L : List Addr) (Z : Addr → Prop) (kvs : KVs) (kd dv : PyData), o = .ref a ∧ MOk M H L Z a (.dct kvs) ∧ Z a ∧ RelP M.K H Z kd i ∧ kOk kvs kd = true ∧ RelP M.K H Z dv v ∧ kvs.length < 16000000 ∧
  ∀ ob, (∀ L' Z', Stay H Z (upd H a ob) Z' → MOk M (upd H a ob) L' Z' a (.dct (putKD kvs kd dv))) → Q (upd H a ob)
theorem set_dict (of : Of M X) (hu : X.A.units + 20 < cLine) : PSet X (rSetD M) := by
  intro pins s σ H o i v ov iv u Q I ro ri rv h
  obtain ⟨a, L, Z, kvs, kd, dv, rfl, m, za, rk, ok, rd, fit, q⟩ := h
  obtain rfl : ov = Value.ref a := ro
  have un : ∀ o u, H a ≠ some (.frz o u) := by
    cases m with
    | dK e _ => intro o u z; rw [e] at z; cases z
    | dN e _ _ => intro o u z; rw [e] at z; cases z
  have l := lk_of of m.rdD rk ok
  rw [of.K] at rk rd
  exact Lk.setItem hu I l za un rk ri rd rv fit fun ob s' I' hm => ⟨_, I', q ob fun L' Z' st => hm M L' Z' of st⟩
/-- .. to be written -/
def dctW (h : MH) : D → Option KVs
  | .loc n => match h[n]? with
    | some (.dct kvs) => some kvs
    | _ => none
  | _ => none
theorem dctW_rel {B : Bs} {A : List (Option Addr)} {Hs H : Hp} {L : List Addr} {h : MH} {env : KF.Env} {σ : L2.St} {d : D} {v : V} {m : Mode} {kvs : KVs} (g : Good M B H L A h env σ) (r : RelM M m B A Hs H L d v) (e : dctW h d = some kvs) : ∃ n a, d = .loc n ∧ h[n]? = some (.dct kvs) ∧ L[n]? = some a ∧ v = .ref a ∧ MOk M H L (Zf B L A) a (.dct kvs) := by
  unfold dctW at e
  split at e
  · rename_i n
    split at e
    · rename_i kvs' q
      cases e
      obtain ⟨a, ea, rfl⟩ := r.loc
      exact ⟨n, a, rfl, q, ea, rfl, g.obj n _ a q ea⟩
    · cases e
  · cases e
def putD (h : MH) (r k d : D) : Option MH := match dctW h r, r, k, d with
  | some kvs, .loc n, .py kd, .py dv => if (kOk kvs kd && Nat.blt kvs.length 16000000) = true then some (h.set n (.dct (putKD kvs kd dv))) else none
  | _, _, _, _ => none
theorem putD_some {h h' : MH} {r k d : D} (e : putD h r k d = some h') : ∃ kvs n kd dv, dctW h r = some kvs ∧ r = .loc n ∧ k = .py kd ∧ d = .py dv ∧ kOk kvs kd = true ∧ kvs.length < 16000000 ∧ h' = h.set n (.dct (putKD kvs kd dv)) := by
  unfold putD at e
  split at e
  · rename_i kvs n kd dv q
    split at e
    · rename_i c
      cases e
      obtain ⟨c1, c2⟩ := Bool.and_eq_true_iff.mp c
      exact ⟨kvs, n, kd, dv, q, rfl, rfl, rfl, c1, Nat.le_of_ble_eq_true c2, rfl⟩
    · cases e
  · cases e
def putU (h : MH) (r k d : D) : Option MH := match dctAt h r with
  | some _ => putD h r k d
  | none => putL h r k d
def semPutD (i : Nat) (fk fa : EvF D) : EvS := fun env h => (fa env h).toS env fun d h1 => match env[i]? with
  | some (.v r) => (fk env h1).toS env fun k h2 => match putD h2 r k d with
    | some h' => .nx env h'
    | none => .bad
  | _ => .bad
def semPutU (i : Nat) (fk fa : EvF D) : EvS := fun env h => (fa env h).toS env fun d h1 => match env[i]? with
  | some (.o xs) => (fk env h1).toS env fun k h2 => match putO i xs env k d with
    | some env' => .nx env' h2
    | none => .bad
  | some (.v r) => (fk env h1).toS env fun k h2 => match putU h2 r k d with
    | some h' => .nx env h'
    | none => .bad
  | _ => .bad
theorem putU_or (i : Nat) (fk fa : EvF D) (env : KF.Env) (h : MH) : semPutU i fk fa env h = semPut i fk fa env h ∨ semPutU i fk fa env h = semPutD i fk fa env h := by
  unfold semPutU semPut semPutD
  cases fa env h with
  | exc c fs h1 => exact .inl rfl
  | bad => exact .inl rfl
  | ok d h1 =>
    dsimp only [Out.toS]
    cases env[i]? with
    | none => exact .inl rfl
    | some sl =>
      cases sl with
      | u => exact .inl rfl
      | o xs => exact .inl rfl
      | x _ _ => exact .inl rfl
      | v r =>
        dsimp only
        cases fk env h1 with
        | exc c fs h1 => exact .inl rfl
        | bad => exact .inl rfl
        | ok k h2 =>
          dsimp only [Out.toS]
          unfold putU
          cases dctAt h2 r with
          | none => exact .inl rfl
          | some kvs => exact .inr rfl
theorem Good.putD {B : Bs} {A : List (Option Addr)} {H : Hp} {L : List Addr} {h : MH} {env : KF.Env} {σ : L2.St} {n : Nat} {a : Addr} {kvs kvs' : KVs} {ob : HO} (g : Good M B H L A h env σ) (ea : L[n]? = some a) (m : MOk M H L (Zf B L A) a (.dct kvs)) (hm : ∀ L' Z', Stay H (Zf B L A) (upd H a ob) Z' → MOk M (upd H a ob) L' Z' a (.dct kvs')) : Good M B (upd H a ob) L A (h.set n (.dct kvs')) env σ := by
  have aL : a ∈ L := List.mem_of_getElem? ea
  have za : Zf B L A a := .inl aL
  have key : ∀ u, H a = some u → (∀ xs, u ≠ .tup xs) → (∀ o w, u ≠ .frz o w) → Good M B (upd H a ob) L A (h.set n (.dct kvs')) env σ := fun u eu nt nf => by
    refine g.setL ea eu nt nf (hm L _ ?_)
    have ne : ∀ b o, H b = some o → b ≠ a → (upd H a ob) b = some o := fun b o e q => by rw [upd_ne q]; exact e
    exact ⟨fun b o e z => ne b o e fun q => z (q ▸ za), fun b xs e => ne b _ e (fun q => by subst q; rw [eu] at e; exact nt xs (Option.some.inj e)), fun b o u' e => ne b _ e (fun q => by subst q; rw [eu] at e; exact nf o u' (Option.some.inj e)), fun b o _ z => z⟩
  cases m with
  | dK e r => exact key _ e (fun _ z => nomatch z) (fun _ _ z => nomatch z)
  | dN e ne r => exact key _ e (fun _ z => nomatch z) (fun _ _ z => nomatch z)
theorem s_putD (of : Of M X) (hu : X.A.units + 20 < cLine) {i : Nat} {x : Str} {k e : Expr} {fk fa : EvF D} {np tp pos : Pos} (hN : X.N[i]? = some x) (hv : Vis X.env.scope x) (hd : (x == ("__debug__" : Str)) = false) (hcd : (x == ("__classdict__" : Str)) = false)
    (ha : PE X e (kE M .n W fa)) (hk : PE X k (kE M .b W fk)) (hs : swapsWithSole [.Subscript (.Name x np) k tp] e pos.line X.env = pure false) (hw : swappedStores [.Subscript (.Name x np) k tp] e X.env = pure none)
    (h1 : (assignEach [.Subscript (.Name x np) k tp] X.env).map (·.2) = [assign (.Subscript (.Name x np) k tp) X.env])
    (hasn : AsnSub (.Name x np) k tp X.env) : PS X (.Assign [.Subscript (.Name x np) k tp] e pos) (kS M W (semPutD i fk fa)) := by
  refine PS.mono (ps_asg ha (pg_sub (pe_var hN hv hd hcd) hk (set_dict of hu) hasn) hs hw h1) fun De σ H ⟨B, L, A, h, env, g, p⟩ => ?_
  refine tG_toS g p fun d h1 v H1 L1 e1 x1 g1 r1 p1 => ?_
  cases e0 : env[i]? with
  | none => rw [e0] at p1; exact p1.elim
  | some sl =>
    rw [e0] at p1
    cases sl with
    | u => exact p1.elim
    | x _ _ => exact p1.elim
    | o xs => exact p1.elim
    | v rd =>
      cases g1.slot i _ e0 with
      | @v _ w q1 q2 q3 =>
        refine ⟨w, q2, ?_⟩
        refine tG_toS g1 p1 fun kd h3 kv H3 L3 e3 x3 g3 r3 p3 => ?_
        cases e4 : putD h3 rd kd d with
        | none => rw [e4] at p3; exact p3.elim
        | some h' =>
          rw [e4] at p3
          obtain ⟨kvs, n, kd', dv, z1, rfl, rfl, rfl, ok, fit, rfl⟩ := putD_some e4
          have r1' : RelM M .n B A H3 H3 L3 (.py dv) v := RelM.stay (m := .n) (Hs := H3) r1 x3 fun i a ha => (g1.own i a ha).1
          have r2' : RelM M .n B A H3 H3 L3 (.loc n) w := RelM.stay (m := .n) (Hs := H3) q3 x3 fun i a ha => (g1.own i a ha).1
          obtain ⟨n', a, en, hn, ea, rfl, m⟩ := dctW_rel g3 r2' z1
          cases en
          cases r1' with
          | py r1' => exact ⟨a, L3, _, kvs, kd', dv, rfl, m, .inl (List.mem_of_getElem? ea), r3.keyP ok, ok, r1', fit, fun ob hm => p3 _ _ _ _ (g3.putD ea m hm)⟩
theorem PS.or {st : Stmt} {t t' : TS} (h : PS X st t) (h' : PS X st t') : PS X st (fun De σ H => t De σ H ∨ t' De σ H) := ⟨fun pins s σ H De I q => by
  rcases q with q | q
  · exact h.run pins s σ H De I q
  · exact h'.run pins s σ H De I q⟩
theorem s_putU (of : Of M X) (hu : X.A.units + 20 < cLine) {i : Nat} {x : Str} {k e : Expr} {fk fa : EvF D} {np tp pos : Pos} (hN : X.N[i]? = some x) (hv : Vis X.env.scope x) (hd : (x == ("__debug__" : Str)) = false) (hcd : (x == ("__classdict__" : Str)) = false)
    (ha : PE X e (kE M .n W fa)) (hk : PE X k (kE M .b W fk)) (hs : swapsWithSole [.Subscript (.Name x np) k tp] e pos.line X.env = pure false) (hw : swappedStores [.Subscript (.Name x np) k tp] e X.env = pure none)
    (h1 : (assignEach [.Subscript (.Name x np) k tp] X.env).map (·.2) = [assign (.Subscript (.Name x np) k tp) X.env])
    (hasn : AsnSub (.Name x np) k tp X.env) : PS X (.Assign [.Subscript (.Name x np) k tp] e pos) (kS M W (semPutU i fk fa)) := by
  refine PS.mono (PS.or (s_put hN hv hd hcd ha hk hs hw h1 hasn) (s_putD of hu hN hv hd hcd ha hk hs hw h1 hasn)) fun De σ H ⟨B, L, A, h, env, g, p⟩ => ?_
  rcases putU_or i fk fa env h with z | z
  · exact .inl ⟨B, L, A, h, env, g, by rw [← z]; exact p⟩
  · exact .inr ⟨B, L, A, h, env, g, by rw [← z]; exact p⟩
end
end KF
set_option Elab.async false
set_option linter.all false
set_option maxRecDepth 100000
set_option maxHeartbeats 4000000
/-! KF, part G: x, y, z = [], [], c. -/
namespace KF
open PySem PySem.Spec PyProof.Rows L2
section
variable {X : Cx} {M : MK} {W : WX}
def semPar3 (i j l : Nat) (c : Int) : EvS := fun env h => if i < env.length ∧ j < env.length ∧ l < env.length then .nx (((env.set i (.o [])).set j (.o [])).set l (.v (.py (.int c)))) h else .bad
theorem s_par3 {i j l : Nat} {x y z : Str} {c : Int} {px py pz pt pos p1 p2 p3 : Pos} {kt k2 k3 : Nat} {pt2 : Pos} (hc : X.calm = true) (hN : X.N.Nodup) (hi : X.N[i]? = some x) (hj : X.N[j]? = some y) (hl : X.N[l]? = some z) (hij : i ≠ j) (hil : i ≠ l) (hjl : j ≠ l)
    (hx : X.env.scope.names.lookup x = some .local) (hy : X.env.scope.names.lookup y = some .local) (hz : X.env.scope.names.lookup z = some .local)
    (hw : swappedStores [.Tuple [.Name x px, .Name y py, .Name z pz] kt pt] (.Tuple [.List [] p1, .List [] p2, .Constant (.int c) k3 p3] k2 pt2) X.env = pure (some [x, y, z])) :
    PS X (.Assign [.Tuple [.Name x px, .Name y py, .Name z pz] kt pt] (.Tuple [.List [] p1, .List [] p2, .Constant (.int c) k3 p3] k2 pt2) pos) (kS M W (semPar3 i j l c)) := by
  refine PS.mono (ps_par3 hc hN hi hj hl hij hil hjl hx hy hz (pa_cons (pe_lst pa_nil) (pa_cons (pe_lst pa_nil) (pa_cons pe_int pa_nil rfl) rfl) rfl) hw rfl) fun De σ H ⟨B, L, A, h, env, g, p⟩ => ?_
  unfold semPar3 at p
  by_cases q : i < env.length ∧ j < env.length ∧ l < env.length
  · rw [if_pos q] at p
    refine ⟨by simp, fun a1 n1 => ⟨by simp, fun a2 n2 => ⟨_, _, _, rfl, ?_⟩⟩⟩
    exact p _ _ _ _ (((g.setNew (vs := []) n1 .nil q.1).setNew (vs := []) n2 .nil (by rw [List.length_set]; exact q.2.1)).setV (.py (.int c)) (by rw [List.length_set, List.length_set]; exact q.2.2))
  · rw [if_neg q] at p; exact p.elim
theorem s_par3C {i j l : Nat} {x y z : Str} {c : Int} {px py pz pt pos p1 p2 p3 : Pos} {kt k2 k3 : Nat} {pt2 : Pos} (hc : X.calm = true) (hN : X.N.Nodup) (hi : X.N[i]? = some x) (hj : X.N[j]? = some y) (hl : X.N[l]? = some z)
    (hx : Loc X.env.scope x) (hy : Loc X.env.scope y) (hz : Loc X.env.scope z) (fx : X.fn x = true ∨ X.env.scope.names.lookup x = some .local) (fy : X.fn y = true ∨ X.env.scope.names.lookup y = some .local) (fz : X.fn z = true ∨ X.env.scope.names.lookup z = some .local)
    (hw : swappedStores [.Tuple [.Name x px, .Name y py, .Name z pz] kt pt] (.Tuple [.List [] p1, .List [] p2, .Constant (.int c) k3 p3] k2 pt2) X.env = pure none) :
    PS X (.Assign [.Tuple [.Name x px, .Name y py, .Name z pz] kt pt] (.Tuple [.List [] p1, .List [] p2, .Constant (.int c) k3 p3] k2 pt2) pos) (kS M W (semPar3 i j l c)) := by
  refine PS.mono (ps_asg (pe_tup (pa_cons (pe_lst pa_nil) (pa_cons (pe_lst pa_nil) (pa_cons pe_int pa_nil rfl) rfl) rfl)) (pg_tup hc (pgs_cons (pg_name hN hi hx fx) (pgs_cons (pg_name hN hj hy fy) (pgs_cons (pg_name hN hl hz fz) pgs_nil rfl) rfl) rfl) rfl rfl) rfl hw rfl) fun De σ H ⟨B, L, A, h, env, g, p⟩ => ?_
  unfold semPar3 at p
  by_cases q : i < env.length ∧ j < env.length ∧ l < env.length
  · rw [if_pos q] at p
    refine ⟨by simp, fun a1 n1 => ⟨by simp, fun a2 n2 => ?_⟩⟩
    have G := ((g.setNew (vs := []) n1 .nil q.1).setNew (vs := []) n2 .nil (by rw [List.length_set]; exact q.2.1)).setV (d := .py (.int c)) (.py (.int c)) (by rw [List.length_set, List.length_set]; exact q.2.2)
    refine ⟨by show 3 ≤ sizeLine; decide, fun T nT => ⟨T, _, rfl, .inl (.inl upd_same), rfl, _, _, rfl, _, _, rfl, _, _, rfl, rfl, ?_⟩⟩
    exact p _ _ _ _ (G.same (same_upd nT))
  · rw [if_neg q] at p; exact p.elim
/-! x, y = [], [] -/
def semParL (i j : Nat) : EvS := fun env h => if i < env.length ∧ j < env.length then .nx ((env.set i (.o [])).set j (.o [])) h else .bad
theorem s_parL {i j : Nat} {x y : Str} {px py pt pos p1 p2 : Pos} {kt k2 : Nat} {pt2 : Pos} (hc : X.calm = true) (hN : X.N.Nodup) (hi : X.N[i]? = some x) (hj : X.N[j]? = some y) (hij : i ≠ j)
    (hx : X.env.scope.names.lookup x = some .local) (hy : X.env.scope.names.lookup y = some .local)
    (hw : swappedStores [.Tuple [.Name x px, .Name y py] kt pt] (.Tuple [.List [] p1, .List [] p2] k2 pt2) X.env = pure (some [x, y])) :
    PS X (.Assign [.Tuple [.Name x px, .Name y py] kt pt] (.Tuple [.List [] p1, .List [] p2] k2 pt2) pos) (kS M W (semParL i j)) := by
  refine PS.mono (ps_par hc hN hi hj hij hx hy (pa_cons (pe_lst pa_nil) (pa_cons (pe_lst pa_nil) pa_nil rfl) rfl) hw rfl) fun De σ H ⟨B, L, A, h, env, g, p⟩ => ?_
  unfold semParL at p
  by_cases q : i < env.length ∧ j < env.length
  · rw [if_pos q] at p
    refine ⟨by simp, fun a1 n1 => ⟨by simp, fun a2 n2 => ⟨_, _, rfl, ?_⟩⟩⟩
    exact p _ _ _ _ ((g.setNew (vs := []) n1 .nil q.1).setNew (vs := []) n2 .nil (by rw [List.length_set]; exact q.2))
  · rw [if_neg q] at p; exact p.elim
theorem s_parLC {i j : Nat} {x y : Str} {px py pt pos p1 p2 : Pos} {kt k2 : Nat} {pt2 : Pos} (hc : X.calm = true) (hN : X.N.Nodup) (hi : X.N[i]? = some x) (hj : X.N[j]? = some y)
    (hx : Loc X.env.scope x) (hy : Loc X.env.scope y) (fx : X.fn x = true ∨ X.env.scope.names.lookup x = some .local) (fy : X.fn y = true ∨ X.env.scope.names.lookup y = some .local)
    (hw : swappedStores [.Tuple [.Name x px, .Name y py] kt pt] (.Tuple [.List [] p1, .List [] p2] k2 pt2) X.env = pure none) :
    PS X (.Assign [.Tuple [.Name x px, .Name y py] kt pt] (.Tuple [.List [] p1, .List [] p2] k2 pt2) pos) (kS M W (semParL i j)) := by
  refine PS.mono (ps_asg (pe_tup (pa_cons (pe_lst pa_nil) (pa_cons (pe_lst pa_nil) pa_nil rfl) rfl)) (pg_tup hc (pgs_cons (pg_name hN hi hx fx) (pgs_cons (pg_name hN hj hy fy) pgs_nil rfl) rfl) rfl rfl) rfl hw rfl) fun De σ H ⟨B, L, A, h, env, g, p⟩ => ?_
  unfold semParL at p
  by_cases q : i < env.length ∧ j < env.length
  · rw [if_pos q] at p
    refine ⟨by simp, fun a1 n1 => ⟨by simp, fun a2 n2 => ?_⟩⟩
    have G := (g.setNew (vs := []) n1 .nil q.1).setNew (vs := []) n2 .nil (by rw [List.length_set]; exact q.2)
    refine ⟨by show 2 ≤ sizeLine; decide, fun T nT => ⟨T, _, rfl, .inl (.inl upd_same), rfl, _, _, rfl, _, _, rfl, rfl, ?_⟩⟩
    exact p _ _ _ _ (G.same (same_upd nT))
  · rw [if_neg q] at p; exact p.elim
end
end KF
set_option Elab.async false
set_option linter.all false
set_option maxRecDepth 100000
set_option maxHeartbeats 4000000
/-! KF, part H: a dict's keys walked; the dict is locked meanwhile. -/
namespace KF
open PySem PySem.Spec PyProof.Rows L2
/-! ### what stays of sequences -/
structure StayQ (H : Hp) (Z : Addr → Prop) (H' : Hp) : Prop where
  lsts : ∀ a xs, H a = some (.lst xs) → ¬ Z a → H' a = some (.lst xs)
  tups : ∀ a xs, H a = some (.tup xs) → H' a = some (.tup xs)
  frzL : ∀ a o xs, H a = some (.frz o (.lst xs)) → H' a = some (.frz o (.lst xs))
  frzT : ∀ a o xs, H a = some (.frz o (.tup xs)) → H' a = some (.frz o (.tup xs))
  xds : ∀ a fs, H a = some (.xd fs) → H' a = some (.xd fs)
mutual
theorem RelP.stayQ {K : PySem.W.Frag} {H H' : Hp} {Z : Addr → Prop} (s : StayQ H Z H') : ∀ {d : PyData} {v : V}, RelP K H Z d v → RelP K H' Z d v
  | _, _, .non => .non
  | _, _, .bl b => .bl b
  | _, _, .int i => .int i
  | _, _, .str x h => .str x h
  | _, _, .lst h z r => by
    rcases h with h | ⟨o, h⟩
    · exact .lst (.inl (s.lsts _ _ h z)) z (RelPs.stayQ s r)
    · exact .lst (.inr ⟨o, s.frzL _ _ _ h⟩) z (RelPs.stayQ s r)
  | _, _, .tup h r => by
    refine .tup ?_ (RelPs.stayQ s r)
    rcases h with (h | ⟨o, h⟩) | h
    · exact .inl (.inl (s.tups _ _ h))
    · exact .inl (.inr ⟨o, s.frzT _ _ _ h⟩)
    · exact .inr h
theorem RelPs.stayQ {K : PySem.W.Frag} {H H' : Hp} {Z : Addr → Prop} (s : StayQ H Z H') : ∀ {ds : List PyData} {vs : List V}, RelPs K H Z ds vs → RelPs K H' Z ds vs
  | _, _, .nil => .nil
  | _, _, .cons r t => .cons (RelP.stayQ s r) (RelPs.stayQ s t)
end
theorem RelD.stayQ {K : PySem.W.Frag} {H H' : Hp} {L : List Addr} {Z : Addr → Prop} (s : StayQ H Z H') {d : D} {v : V} (r : RelD K H L Z d v) : RelD K H' L Z d v := by
  cases r with
  | py r => exact .py (r.stayQ s)
  | loc e => exact .loc e
  | scr e =>
    refine .scr ?_
    rcases e with ⟨o, e⟩ | e
    · exact .inl ⟨o, s.frzL _ _ _ e⟩
    · exact .inr e
theorem XRelZ.stayQ {M : MK} {H H' : Hp} {L : List Addr} {Z : Addr → Prop} (s : StayQ H Z H') {c : Nat} {fs : List D} {cls : Value} {dd : Option Addr} (r : XRelZ M H L Z c fs cls dd) : XRelZ M H' L Z c fs cls dd := by
  cases r with
  | bare => exact .bare _
  | fld e1 e2 e3 e4 => exact .fld e1 (s.xds _ _ e2) e3 (e4.stayQ s)
theorem RelDs.stayQ {K : PySem.W.Frag} {H H' : Hp} {L : List Addr} {Z : Addr → Prop} (s : StayQ H Z H') : ∀ {ds : List D} {vs : List V}, RelDs K H L Z ds vs → RelDs K H' L Z ds vs
  | _, _, .nil => .nil
  | _, _, .cons r t => .cons (r.stayQ s) (RelDs.stayQ s t)
theorem DRelK.stayQ {K : PySem.W.Frag} {H H' : Hp} {Z : Addr → Prop} (s : StayQ H Z H') {kvs : KVs} {ks : List (Key × V)} (r : DRelK K H Z kvs ks) : DRelK K H' Z kvs ks := Paired.mapP r fun _ _ q => ⟨q.1, q.2.stayQ s⟩
theorem DRelN.stayQ {K : PySem.W.Frag} {H H' : Hp} {Z : Addr → Prop} (s : StayQ H Z H') {kvs : KVs} {ks : List (NestedKey × Addr × Value)} (r : DRelN K H Z kvs ks) : DRelN K H' Z kvs ks := Paired.mapP r fun _ _ ⟨q1, q2, q3, v, q4, q5⟩ => ⟨q1, q2, q3.stayQ s, v, q4, q5.stayQ s⟩
theorem MOk.stayQ {M : MK} {H H' : Hp} {L : List Addr} {Z : Addr → Prop} {a : Addr} {o : MO} (m : MOk M H L Z a o) (s : StayQ H Z H') (e : H' a = H a) : MOk M H' L Z a o := by
  cases m with
  | lst h r => exact .lst (e.trans h) (r.stayQ s)
  | ins h l r => exact .ins (e.trans h) l (r.stayQ s)
  | dK h r => exact .dK (e.trans h) (r.stayQ s)
  | dN h l r => exact .dN (e.trans h) l (r.stayQ s)
  | lK h r => exact .lK (e.trans h) (r.stayQ s)
  | lN h l r => exact .lN (e.trans h) l (r.stayQ s)
/-- a dict's object -/
def isDO : HO → Prop
  | .dK _ => True
  | .ext _ => True
  | _ => False
theorem isDO.mut {u : HO} (h : isDO u) : Mut (some u) := by
  cases u with
  | dK _ => exact True.intro
  | ext _ => exact True.intro
  | _ => exact h.elim
section
variable {M : MK} {B : Bs} {A : List (Option Addr)} {H H' : Hp} {L L' : List Addr} {h h' : MH} {env : KF.Env} {σ : L2.St} {n : Nat} {d : Addr} {u : HO} {od : Obj} {kvs : KVs}
theorem MOk.dobj {Z : Addr → Prop} (m : MOk M H L Z d (.dct kvs)) : ∃ u, H d = some u ∧ isDO u ∧ ∀ H' L' Z', RelPs M.K H Z [] [] → (∀ ks, DRelK M.K H Z kvs ks → DRelK M.K H' Z' kvs ks) → (∀ xs, DRelN M.K H Z kvs xs → DRelN M.K H' Z' kvs xs) → (H' d = some u → MOk M H' L' Z' d (.dct kvs)) ∧ ∀ od, H' d = some (.frz od u) → MOk M H' L' Z' d (.lck kvs) := by
  cases m with
  | dK e r => exact ⟨_, e, True.intro, fun H' L' Z' _ k1 k2 => ⟨fun e => .dK e (k1 _ r), fun od e => .lK e (k1 _ r)⟩⟩
  | dN e ne r => exact ⟨_, e, True.intro, fun H' L' Z' _ k1 k2 => ⟨fun e => .dN e ne (k2 _ r), fun od e => .lN e ne (k2 _ r)⟩⟩
theorem lockQ {Z : Addr → Prop} (e : H d = some u) (du : isDO u) : StayQ H Z (upd H d (.frz od u)) := by
  have ne : ∀ b o, H b = some o → o ≠ u → (upd H d (.frz od u)) b = some o := fun b o eb q => by
    rw [upd_ne (fun z => by subst z; rw [e] at eb; exact q (Option.some.inj eb).symm)]; exact eb
  exact ⟨fun a xs q _ => ne a _ q (by rintro rfl; exact du), fun a xs q => ne a _ q (by rintro rfl; exact du), fun a o xs q => ne a _ q (by rintro rfl; exact du), fun a o xs q => ne a _ q (by rintro rfl; exact du), fun a fs q => ne a _ q (by rintro rfl; exact du)⟩
theorem unlockQ {Z : Addr → Prop} (e : H d = some (.frz od u)) (du : isDO u) : StayQ H Z (upd H d u) := by
  have ne : ∀ b o, H b = some o → o ≠ .frz od u → (upd H d u) b = some o := fun b o eb q => by
    rw [upd_ne (fun z => by subst z; rw [e] at eb; exact q (Option.some.inj eb).symm)]; exact eb
  exact ⟨fun a xs q _ => ne a _ q (fun z => nomatch z), fun a xs q => ne a _ q (fun z => nomatch z), fun a o xs q => ne a _ q (by intro z; cases z; exact du), fun a o xs q => ne a _ q (by intro z; cases z; exact du), fun a fs q => ne a _ q (fun z => nomatch z)⟩
theorem Good.lock (g : Good M B H L A h env σ) (ea : L[n]? = some d) (eh : h[n]? = some (.dct kvs)) (e : H d = some u) (du : isDO u) : Good M B (upd H d (.frz od u)) L A (h.set n (.lck kvs)) env σ := by
  obtain ⟨u', e', du', k⟩ := (g.obj n _ d eh ea).dobj
  rw [e] at e'
  cases e'
  refine g.setL ea e (by rintro xs rfl; exact du) (by rintro o w rfl; exact du) ((k _ L _ .nil (fun ks r => ?_) fun xs r => ?_).2 od upd_same)
  · exact r.stayQ (lockQ e du)
  · exact r.stayQ (lockQ e du)
theorem Good.unlock (g : Good M B H L A h env σ) (ea : L[n]? = some d) (eh : h[n]? = some (.lck kvs)) (e : H d = some (.frz od u)) (du : isDO u) (nf : ∀ o w, B.H0 d ≠ some (.frz o w)) : Good M B (upd H d u) L A (h.set n (.dct kvs)) env σ := by
  have hn : n < L.length := (List.getElem?_eq_some_iff.mp ea).1
  have hh : n < h.length := by rw [← g.len]; exact hn
  have dL : d ∈ L := List.mem_of_getElem? ea
  have st : StayQ H (Zf B L A) (upd H d u) := unlockQ e du
  have ne : ∀ b o, H b = some o → b ≠ d → (upd H d u) b = some o := fun b o e q => by rw [upd_ne q]; exact e
  have dm : ∀ b o, H b = some o → ∃ o', (upd H d u) b = some o' := fun b o eb => by
    by_cases q : b = d
    · subst q; exact ⟨_, upd_same⟩
    · exact ⟨o, ne b o eb q⟩
  have md : MOk M (upd H d u) L (Zf B L A) d (.dct kvs) := by
    cases g.obj n _ d eh ea with
    | lK e2 r => rw [e] at e2; cases e2; exact .dK upd_same (r.stayQ st)
    | lN e2 l2 r => rw [e] at e2; cases e2; exact .dN upd_same l2 (r.stayQ st)
  obtain ⟨N0, e0, n0⟩ := g.lpre
  refine ⟨by simp [g.len], g.nd, fun k o b e1 e2 => ?_, g.ls, g.lpre, fun b o eb hl => ?_, fun b xs eb => ?_, fun b o w eb => ?_, fun b o eb => ?_, fun b eb => ?_, g.alen, g.slen, g.own, g.odis, fun j sl es => ?_⟩
  · by_cases hk : k = n
    · subst hk
      rw [ea] at e2; cases e2
      rw [List.getElem?_set_self hh] at e1; cases e1
      exact md
    · rw [List.getElem?_set_ne (Ne.symm hk)] at e1
      have hb : b ≠ d := fun z => by
        subst z
        exact hk ((List.getElem?_inj (List.getElem?_eq_some_iff.mp e2).1 g.nd).mp (e2.trans ea.symm))
      exact (g.obj k o b e1 e2).stayQ st (upd_ne hb)
  · have hb : b ≠ d := fun z => by
      subst z
      rw [e0] at dL
      rcases List.mem_append.mp dL with q | q
      · exact hl q
      · rw [n0 _ q] at eb; cases eb
    exact ne _ _ (g.base b o eb hl) hb
  · exact st.tups b xs (g.btup b xs eb)
  · exact ne _ _ (g.bfrz b o w eb) (fun z => by subst z; exact nf o w eb)
  · obtain ⟨o', e'⟩ := g.dom b o eb; exact dm _ _ e'
  · obtain ⟨o', e'⟩ := g.sdom b eb; exact dm _ _ e'
  · cases g.slot j sl es with
    | u q => exact .u q
    | v q1 q2 q3 => exact .v q1 q2 (q3.stayQ st)
    | o q1 q2 q3 q4 => exact .o q1 q2 (ne _ _ q3 fun z => (g.own j _ q1).1 (z ▸ dL)) (q4.stayQ st)
    | x q1 q2 q3 q4 => exact .x q1 q2 q3 (XRelZ.stayQ st q4)
end
/-! ### the walk -/
def Itn (P : Program) (w : World) (d : Addr) (o : Obj) (xs : List (NestedKey × Addr × Value)) (ep : Nat) : It :=
  ⟨fun i H => H d = some (.frz o (nestO P w d xs ep)) ∧ i < xs.length, fun i H x H' => H' = H ∧ ∃ y, xs[i]? = some y ∧ x = .ref y.2.1, fun i H => H d = some (.frz o (nestO P w d xs ep)) ∧ xs.length ≤ i⟩
section
variable {X : Cx} {pins : List (Addr × Obj)} {σ : L2.St} {H : Hp} {s : Shared} {d : Addr} {o : Obj} {xs : List (NestedKey × Addr × Value)} {ep : Nat}
theorem frzN (I : Inv X pins σ H s) (h : H d = some (.frz o (nestO X.prog X.w d xs ep))) :
    (d == sysModules) = false ∧ s.heap.get? d = some o ∧ o.ExactDict ∧ ∃ es, o.data = .dict es ep ∧ es.size = xs.length ∧ ∀ (i : Nat) y, xs[i]? = some y → ∃ en, es[i]? = some en ∧ en.key = .ref y.2.1 := by
  obtain ⟨hd, ⟨z1, z2, z3, o', es, q1, q2, q3, q4⟩, _⟩ := I.hok d _ h
  rw [hd] at q1
  cases q1
  have hs := size_of_entries q4
  refine ⟨z1, hd, q2, es, q3, hs, fun i y hy => ?_⟩
  have e := entry_at q4 i
  rw [hy, Option.map_some] at e
  exact ⟨_, e, rfl⟩
theorem turn_keysN {P : Program} {w : World} {K : PySem.W.Frag} {tg : Expr} {es : Array DictEntry} (it : Addr) (hod : o.data = .dict es ep) : Turn P w K tg (Itn P w d o xs ep) [it] it (fun i h => h.IsKeyIter it d i xs.length ep) where
  mem := by simp
  obj := fun i h st b hb => by
    have e : b = it := by simpa using hb
    subst e
    obtain ⟨oi, e, c, dd⟩ := st
    exact ⟨oi, e, fun v z => by rw [dd] at z; cases z⟩
  keep := fun i h h' st k => st.at fun oi e => k it (by simp) oi e
  item := by
    intro X hP hw hK hc i pins s σ H E I hf st hg
    subst hP hw hK
    obtain ⟨hd, hi⟩ := hg
    obtain ⟨f0, f1, f2, f3, f4, f5⟩ := hf it (by simp)
    obtain ⟨hs, hgd, hx, es', hdt, hsz, ent⟩ := frzN I hd
    obtain ⟨y, hy⟩ : ∃ y, xs[i]? = some y := ⟨xs[i], List.getElem?_eq_getElem hi⟩
    obtain ⟨en, hen, hkey⟩ := ent i y hy
    refine next_key_item st hgd hdt hsz hen fun h' st' sb => ?_
    have I1 : Inv X pins σ H { s with heap := h' } := I.turned (t' := s.toks) (fun b ob hb e => (sb.2 b hb).trans e) f0 f1 f3 f4 f5
    obtain ⟨oi, e, c, dd⟩ := id st'
    exact ⟨en.key, rfl, go_of (s := { s with heap := h' }) e c dd (by decide) ⟨.ref y.2.1, H, I1, hkey, ⟨rfl, y, hy, rfl⟩, st', fun b hb => (hf b hb).1⟩⟩
  done := by
    intro X hP hw hK hc i pins s σ H E I hf st hg
    subst hP hw hK
    obtain ⟨hd, hi⟩ := hg
    obtain ⟨f0, f1, f2, f3, f4, f5⟩ := hf it (by simp)
    obtain ⟨hs, hgd, hx, es', hdt, hsz, ent⟩ := frzN I hd
    exact next_key_end (I.ok.hd hc) st hgd hdt hsz hi fun h' eb => ⟨rfl, I.turned (t' := s.toks) (fun b ob hb e => eb b ob hb e) f0 f1 f3 f4 f5⟩
  self := fun A i s Q E st h => wpAny_pyIter_keyiter st h
end
section
variable {X : Cx} {M : MK} {W : WX}
def iKeysU (P : Program) (w : World) (td : TE) : TI := fun σ H R => td σ H fun x H1 => ∃ d o, x = .ref d ∧ ((∃ kvs, H1 d = some (.frz o (.dK kvs)) ∧ R (Itk d o kvs) H1) ∨ ∃ xs ep, H1 d = some (.frz o (nestO P w d xs ep)) ∧ R (Itn P w d o xs ep) H1)
theorem pi_keysU {tg e : Expr} {td : TE} (he : PE X e td) : PI X tg e (iKeysU X.prog X.w td) := by
  refine ⟨fun pins s σ H R I h => ?_⟩
  refine thn (he.run pins s σ H _ I h) fun u s1 ⟨x, H1, I1, rx, d, o, ex, q⟩ => ?_
  subst ex
  obtain rfl : u = Value.ref d := rx
  rcases q with ⟨kvs, hd, q⟩ | ⟨xs, ep, hd, q⟩
  · obtain ⟨hs, hgd, hx, es, ep, vs, hdt, hsz, kv, hm⟩ := I1.frzK hd
    refine iter_keys hs hgd hx hdt (pi_one (tk := s1.toks) I1 _ (turn_keys _ hdt) ⟨_, Heap.get?_push_size _ rfl, rfl, ?_⟩ q)
    rw [hsz] <;> rfl
  · obtain ⟨hs, hgd, hx, es, hdt, hsz, ent⟩ := frzN I1 hd
    refine iter_keys hs hgd hx hdt (pi_one (tk := s1.toks) I1 _ (turn_keysN _ hdt) ⟨_, Heap.get?_push_size _ rfl, rfl, ?_⟩ q)
    rw [hsz] <;> rfl
/-- the keys of a locked dict -/
def keysL (kvs : KVs) : List D := kvs.map fun kv => .py kv.1
def lckAt (h : MH) : Option D → Option (Nat × KVs)
  | some (.loc n) => match h[n]? with
    | some (.lck kvs) => some (n, kvs)
    | _ => none
  | _ => none
theorem lckAt_some {h : MH} {o : Option D} {n : Nat} {kvs : KVs} (e : lckAt h o = some (n, kvs)) : o = some (.loc n) ∧ h[n]? = some (.lck kvs) := by
  unfold lckAt at e
  split at e
  · split at e
    · rename_i q; cases e; exact ⟨rfl, q⟩
    · cases e
  · cases e
/-- what must stand while the keys are walked -/
def SrcK (M : MK) (d : Addr) (od : Obj) (ks : List (Key × V)) (kvs : KVs) : Hp → (Addr → Prop) → Prop := fun H Z => H d = some (.frz od (.dK ks)) ∧ DRelK M.K H Z kvs ks
def SrcN (M : MK) (d : Addr) (od : Obj) (xs : List (NestedKey × Addr × Value)) (ep : Nat) (kvs : KVs) : Hp → (Addr → Prop) → Prop := fun H Z => H d = some (.frz od (nestO M.prog M.w d xs ep)) ∧ DRelN M.K H Z kvs xs
theorem paired_at {α β : Type} {F : α → β → Prop} : ∀ {l : List α} {m : List β} {i : Nat} {a : α}, Paired F l m → l[i]? = some a → ∃ b, m[i]? = some b ∧ F a b
  | _, _, _, _, .nil, e => by simp at e
  | _, _, 0, _, .cons r _, e => by simp at e; subst e; exact ⟨_, rfl, r⟩
  | _, _, i + 1, a, .cons _ t, e => by
    obtain ⟨b, h1, h2⟩ := paired_at (i := i) (a := a) t (by simpa using e)
    exact ⟨b, by simpa using h1, h2⟩
theorem keyOf_rel {K : PySem.W.Frag} {H : Hp} {Z : Addr → Prop} {d : PyData} {k : Key} (h : keyOf d = some k) (ok : ∀ x, d = .str x → sOk x = true) : RelP K H Z d (kV k) := by
  rcases keyOf_V h with ⟨i, rfl, rfl⟩ | ⟨x, rfl, rfl⟩
  · exact .int i
  · exact .str x (ok x rfl)
def sKs (kvs : KVs) : Bool := kvs.all fun kv => match kv.1 with
  | .str x => sOk x
  | _ => true
theorem wit_keysK {d : Addr} {od : Obj} {ks : List (Key × V)} {kvs : KVs} (hs : sKs kvs = true) : WIt M (Itk d od ks) (keysL kvs) (SrcK M d od ks kvs) := by
  rintro B H L A h env σ g ⟨e, r⟩ i
  have hl := Paired.length r
  refine ⟨fun hi => ⟨e, by unfold keysL at hi; rw [List.length_map] at hi; omega⟩, fun x hx => ?_⟩
  unfold keysL at hx
  rw [List.getElem?_map] at hx
  cases q : kvs[i]? with
  | none => rw [q] at hx; cases hx
  | some kv =>
    rw [q] at hx; cases hx
    obtain ⟨p, e1, e2, e3⟩ := paired_at r q
    have hi : i < ks.length := (List.getElem?_eq_some_iff.mp e1).1
    refine ⟨⟨e, hi⟩, fun v H' hy => ?_⟩
    obtain ⟨rfl, k, w, e4, rfl⟩ := hy
    rw [e1] at e4; cases e4
    refine ⟨Same.refl _, .py (keyOf_rel e2 fun x ex => ?_)⟩
    have := List.all_eq_true.mp hs kv (List.mem_of_getElem? q)
    rw [ex] at this
    exact this
theorem wit_keysN {d : Addr} {od : Obj} {xs : List (NestedKey × Addr × Value)} {ep : Nat} {kvs : KVs} : WIt M (Itn M.prog M.w d od xs ep) (keysL kvs) (SrcN M d od xs ep kvs) := by
  rintro B H L A h env σ g ⟨e, r⟩ i
  have hl := Paired.length r
  refine ⟨fun hi => ⟨e, by unfold keysL at hi; rw [List.length_map] at hi; omega⟩, fun x hx => ?_⟩
  unfold keysL at hx
  rw [List.getElem?_map] at hx
  cases q : kvs[i]? with
  | none => rw [q] at hx; cases hx
  | some kv =>
    rw [q] at hx; cases hx
    obtain ⟨p, e1, e2, e3, e4, e5⟩ := paired_at r q
    have hi : i < xs.length := (List.getElem?_eq_some_iff.mp e1).1
    refine ⟨⟨e, hi⟩, fun v H' hy => ?_⟩
    obtain ⟨rfl, y, e6, rfl⟩ := hy
    rw [e1] at e6; cases e6
    exact ⟨Same.refl _, .py e4⟩
theorem srcK_stay {d : Addr} {od : Obj} {ks : List (Key × V)} {kvs : KVs} : ∀ H Z H' Z', Stay H Z H' Z' → SrcK M d od ks kvs H Z → SrcK M d od ks kvs H' Z' := fun _ _ _ _ s q => ⟨s.frzs _ _ _ q.1, q.2.stay s⟩
theorem srcN_stay {d : Addr} {od : Obj} {xs : List (NestedKey × Addr × Value)} {ep : Nat} {kvs : KVs} : ∀ H Z H' Z', Stay H Z H' Z' → SrcN M d od xs ep kvs H Z → SrcN M d od xs ep kvs H' Z' := fun _ _ _ _ s q => ⟨s.frzs _ _ _ q.1, q.2.stay s⟩
/-- texts as keys are looked at -/
def semKeysS (i : Nat) : EvF (List D) := fun env h => match lckAt h (look env i) with
  | some (_, kvs) => if sKs kvs = true then .ok (keysL kvs) h else .bad
  | none => .bad
theorem i_keys (of : Of M X) {i : Nat} {x : Str} {tg : Expr} {pos : Pos} (hN : X.N[i]? = some x) (hv : Vis X.env.scope x) (hd : (x == ("__debug__" : Str)) = false) (hcd : (x == ("__classdict__" : Str)) = false) : PI X tg (.Name x pos) (kI M W (semKeysS i)) := by
  refine PI.mono (pi_keysU (pe_var hN hv hd hcd)) fun σ H Q ⟨B, L, A, h, env, g, p⟩ => ?_
  unfold semKeysS at p
  cases e : lckAt h (look env i) with
  | none => rw [e] at p; exact p.elim
  | some nk =>
    obtain ⟨n, kvs⟩ := nk
    rw [e] at p
    dsimp only at p
    by_cases hs : sKs kvs = true
    · rw [if_pos hs] at p
      obtain ⟨e1, e2⟩ := lckAt_some e
      unfold look at e1
      cases es : env[i]? with
      | none => rw [es] at e1; cases e1
      | some sl =>
        rw [es] at e1
        cases g.slot i sl es with
        | u q => cases e1
        | o q1 q2 q3 q4 => cases e1
        | x q1 q2 q3 q4 => cases e1
        | v q1 q2 q3 =>
          cases e1
          cases q3 with
          | @loc _ a ea =>
            refine ⟨_, q2, a, ?_⟩
            cases g.obj n _ a e2 ea with
            | @lK _ ks od h1 h2 => exact ⟨od, rfl, .inl ⟨ks, h1, p _ _ _ (Ext.refl H L) g ⟨SrcK M a od ks kvs, wit_keysK hs, srcK_stay, h1, h2⟩⟩⟩
            | @lN _ xs ep od h1 h2 h3 =>
              have w := wit_keysN (M := M) (d := a) (od := od) (xs := xs) (ep := ep) (kvs := kvs)
              rw [of.prog, of.w] at w
              have h1' := h1
              rw [of.prog, of.w] at h1'
              exact ⟨od, rfl, .inr ⟨xs, ep, h1', p _ _ _ (Ext.refl H L) g ⟨SrcN M a od xs ep kvs, w, srcN_stay, h1, h3⟩⟩⟩
    · rw [if_neg hs] at p; exact p.elim
/-! ### the lock -/
def dctO (h : MH) : Option D → Option (Nat × KVs)
  | some (.loc n) => match h[n]? with
    | some (.dct kvs) => some (n, kvs)
    | _ => none
  | _ => none
theorem dctO_some {h : MH} {o : Option D} {n : Nat} {kvs : KVs} (e : dctO h o = some (n, kvs)) : o = some (.loc n) ∧ h[n]? = some (.dct kvs) := by
  unfold dctO at e
  split at e
  · split at e
    · rename_i q; cases e; exact ⟨rfl, q⟩
    · cases e
  · cases e
/-- still locked? then it is given free -/
def freeD (n : Nat) (h : MH) : Option MH := match h[n]? with
  | some (.lck kvs) => some (h.set n (.dct kvs))
  | _ => none
def unlkS (n : Nat) : OutS → OutS
  | .nx env h => match freeD n h with
    | some h' => .nx env h'
    | none => .bad
  | .rt d h => match freeD n h with
    | some h' => .rt d h'
    | none => .bad
  | _ => .bad
def unlkE (n : Nat) : Out D → Out D
  | .ok d h => match freeD n h with
    | some h' => .ok d h'
    | none => .bad
  | _ => .bad
theorem freeD_some {n : Nat} {h h' : MH} (e : freeD n h = some h') : ∃ kvs', h[n]? = some (.lck kvs') ∧ h' = h.set n (.dct kvs') := by
  unfold freeD at e
  split at e
  · rename_i kvs' q
    cases e; exact ⟨kvs', q, rfl⟩
  · cases e
def semLockS (i : Nat) (f : EvS) : EvS := fun env h => match dctO h (look env i) with
  | some (n, kvs) => unlkS n (f env (h.set n (.lck kvs)))
  | none => .bad
def semLockE (i : Nat) (f : EvF D) : EvF D := fun env h => match dctO h (look env i) with
  | some (n, kvs) => unlkE n (f env (h.set n (.lck kvs)))
  | none => .bad
theorem dctO_at {B : Bs} {A : List (Option Addr)} {H : Hp} {L : List Addr} {h : MH} {env : KF.Env} {σ : L2.St} {i n : Nat} {kvs : KVs} (g : Good M B H L A h env σ) (e : dctO h (look env i) = some (n, kvs)) : ∃ a u, L[n]? = some a ∧ h[n]? = some (.dct kvs) ∧ H a = some u ∧ isDO u := by
  obtain ⟨e1, e2⟩ := dctO_some e
  have hn : n < L.length := by rw [g.len]; exact (List.getElem?_eq_some_iff.mp e2).1
  have ea : L[n]? = some L[n] := List.getElem?_eq_getElem hn
  obtain ⟨u, eu, du, _⟩ := (g.obj n _ _ e2 ea).dobj
  exact ⟨_, u, ea, e2, eu, du⟩
theorem lock_nof {B : Bs} {A : List (Option Addr)} {H : Hp} {L : List Addr} {h : MH} {env : KF.Env} {σ : L2.St} {a : Addr} {u : HO} (g : Good M B H L A h env σ) (e : H a = some u) (du : isDO u) : ∀ o w, B.H0 a ≠ some (.frz o w) := fun o w z => by
  have := g.bfrz a o w z
  rw [e] at this
  cases this
  exact du
theorem s_lock {st : Stmt} {f : EvS} {i : Nat} (p : PS X st (kS M W f)) : PS X st (kS M W (semLockS i f)) := by
  refine PS.mono (ps_lock p) fun De σ H ⟨B, L, A, h, env, g, p⟩ => ?_
  unfold semLockS at p
  cases e : dctO h (look env i) with
  | none => rw [e] at p; exact p.elim
  | some nk =>
    obtain ⟨n, kvs⟩ := nk
    rw [e] at p
    dsimp only at p
    obtain ⟨a, u, ea, eh, eu, du⟩ := dctO_at g e
    have nf := lock_nof g eu du
    refine ⟨a, u, eu, du.mut, fun od => ?_⟩
    have g1 : Good M B (upd H a (.frz od u)) L A (h.set n (.lck kvs)) env σ := g.lock ea eh eu du
    refine ⟨B.anc A (upd H a (.frz od u)) L, L, A, h.set n (.lck kvs), env, g1.anchor, ?_⟩
    have aL : a ∈ L := List.mem_of_getElem? ea
    have aA : some a ∉ A := fun z => by
      obtain ⟨j, hj⟩ := List.getElem?_of_mem z
      exact (g.own j a hj).1 aL
    have key : ∀ {H' L' A' h' env' σ'}, Good M (B.anc A (upd H a (.frz od u)) L) H' L' A' h' env' σ' → H' a = some (.frz od u) ∧ L'[n]? = some a := fun g' => by
      refine ⟨g'.bfrz a od u (anc_of aA upd_same), ?_⟩
      obtain ⟨N, eN, _⟩ := g'.lpre
      rw [eN]
      exact pre_get ea
    cases eo : f env (h.set n (.lck kvs)) with
    | bad => rw [eo] at p; exact p.elim
    | exc c fs env' h' => rw [eo] at p; exact p.elim
    | nx env' h' =>
      rw [eo] at p
      have p : PostS M B W De (match freeD n h' with
        | some h' => .nx env' h'
        | none => .bad) := p
      intro σ' H' L' A' g'
      obtain ⟨k1, k2⟩ := key g'
      refine ⟨k1, ?_⟩
      cases ef : freeD n h' with
      | none => rw [ef] at p; exact p.elim
      | some h2 =>
        rw [ef] at p
        obtain ⟨kvs', eq, rfl⟩ := freeD_some ef
        exact p _ _ _ _ ((g1.unanchor g').unlock k2 eq k1 du nf)
    | rt v h' =>
      rw [eo] at p
      have p : PostS M B W De (match freeD n h' with
        | some h' => .rt v h'
        | none => .bad) := p
      intro v' H' L' A' env' σ' g' r
      obtain ⟨k1, k2⟩ := key g'
      refine ⟨k1, ?_⟩
      cases ef : freeD n h' with
      | none => rw [ef] at p; exact p.elim
      | some h2 =>
        rw [ef] at p
        obtain ⟨kvs', eq, rfl⟩ := freeD_some ef
        exact p _ _ _ _ _ _ ((g1.unanchor g').unlock k2 eq k1 du nf) (RelD.stayQ (unlockQ k1 du) r)
theorem Ext.unlock {H H1 : Hp} {L L1 : List Addr} {a : Addr} {od : Obj} {u : HO} (x : Ext (upd H a (.frz od u)) L H1 L1) (e : H a = some u) (du : isDO u) (aL : a ∈ L) : Ext H L (upd H1 a u) L1 := by
  have ne : ∀ b o, H b = some o → b ≠ a → (upd H a (.frz od u)) b = some o := fun b o eb q => by rw [upd_ne q]; exact eb
  refine ⟨fun b o eb hl => ?_, fun b xs eb => ?_, fun b o w eb => ?_, ?_, fun b o eb => ?_⟩
  · have q : b ≠ a := fun z => hl (z ▸ aL)
    rw [upd_ne q]
    exact x.keep b o (ne b o eb q) hl
  · have q : b ≠ a := fun z => by subst z; rw [e] at eb; cases eb; exact du
    rw [upd_ne q]
    exact x.tups b xs (ne b _ eb q)
  · have q : b ≠ a := fun z => by subst z; rw [e] at eb; cases eb; exact du
    rw [upd_ne q]
    exact x.frzs b o w (ne b _ eb q)
  · obtain ⟨N, eN, nN⟩ := x.pre
    refine ⟨N, eN, fun b hb => ?_⟩
    have := nN b hb
    by_cases q : b = a
    · subst q; rw [upd_same] at this; cases this
    · rw [upd_ne q] at this; exact this
  · by_cases q : b = a
    · subst q; exact ⟨_, upd_same⟩
    · rw [upd_ne q]
      exact x.dom b o (ne b o eb q)
theorem upd_comm {H : Hp} {a b : Addr} {o o' : HO} (ne : a ≠ b) : upd (upd H a o) b o' = upd (upd H b o') a o := by
  funext c
  by_cases h1 : c = a
  · subst h1; rw [upd_ne ne, upd_same, upd_same]
  · by_cases h2 : c = b
    · subst h2; rw [upd_same, upd_ne h1, upd_same]
    · rw [upd_ne h2, upd_ne h1, upd_ne h1, upd_ne h2]
theorem k_lockF {e : Expr} {f : EvF D} {i : Nat} (p : PE X e (kF M W f)) : PE X e (kF M W (semLockE i f)) := by
  refine PE.mono (pe_lock p) fun σ H Q ⟨B, L, A, h, env, g, p⟩ => ?_
  unfold semLockE at p
  cases e : dctO h (look env i) with
  | none => rw [e] at p; exact p.elim
  | some nk =>
    obtain ⟨n, kvs⟩ := nk
    rw [e] at p
    dsimp only at p
    obtain ⟨a, u, ea, eh, eu, du⟩ := dctO_at g e
    have nf := lock_nof g eu du
    have aL : a ∈ L := List.mem_of_getElem? ea
    refine ⟨a, u, eu, du.mut, fun od => ?_⟩
    have g1 : Good M B (upd H a (.frz od u)) L A (h.set n (.lck kvs)) env σ := g.lock ea eh eu du
    refine ⟨B, L, A, h.set n (.lck kvs), env, g1, ?_⟩
    cases eo : f env (h.set n (.lck kvs)) with
    | bad => rw [eo] at p; exact p.elim
    | exc c fs h' => rw [eo] at p; exact p.elim
    | ok d h' =>
      rw [eo] at p
      have p : PostFr M B A env σ W H L Q (match freeD n h' with
        | some h' => .ok d h'
        | none => .bad) := p
      intro ps H1 L1 b vs ed x1 g' nb r
      subst ed
      cases ef : freeD n h' with
      | none => rw [ef] at p; exact p.elim
      | some h2 =>
        rw [ef] at p
        obtain ⟨kvs', eq, rfl⟩ := freeD_some ef
        have k1 : H1 a = some (.frz od u) := x1.frzs a od u upd_same
        have k2 : L1[n]? = some a := by
          obtain ⟨N, eN, _⟩ := x1.pre
          rw [eN]; exact pre_get ea
        have ab : a ≠ b := fun z => by subst z; rw [k1] at nb; cases nb
        refine ⟨by rw [upd_ne ab]; exact k1, ?_⟩
        rw [upd_comm (Ne.symm ab)]
        exact p ps (upd H1 a u) L1 b vs rfl (x1.unlock eu du aL) (g'.unlock k2 eq k1 du nf) (by rw [upd_ne (Ne.symm ab)]; exact nb) (r.stayQ (unlockQ k1 du))
end
end KF
set_option Elab.async false
set_option linter.all false
set_option maxRecDepth 100000
set_option maxHeartbeats 4000000
/-! KF, part I: comprehensions of two clauses. -/
namespace KF
open PySem PySem.Spec PyProof.Rows L2
section
variable {M : MK} {B : Bs} {A : List (Option Addr)} {H1 : Hp} {L1 : List Addr} {ad : Addr}
/-- where a comprehension stands: the list at ad holds acc -/
structure At2 (M : MK) (B : Bs) (A : List (Option Addr)) (H1 : Hp) (L1 : List Addr) (ad : Addr) (H : Hp) (L : List Addr) (h : MH) (acc : List PyData) : Prop where
  ext : Ext H1 L1 H L
  lst : ∃ us, H ad = some (.lst us) ∧ RelPs M.K H (Zf (B.plus ad) L A) acc us
/-- all frames that stood stand -/
def Kept (M : MK) (B : Bs) (A : List (Option Addr)) (ad : Addr) (H0 : Hp) (L0 : List Addr) (H : Hp) (L : List Addr) (h : MH) : Prop := ∀ env σ h', Good M (B.plus ad) H0 L0 A h' env σ → Good M (B.plus ad) H L A h env σ
theorem inner_loop (n0 : B.H0 ad = none) (nD : H1 ad = none) {J : It} {xs : List D} {Src : Hp → (Addr → Prop) → Prop} (wi : WIt M J xs Src) (st : ∀ H Z H' Z', Stay H Z H' Z' → Src H Z → Src H' Z') {ts vs : List Nat} {g : TgF} {ft : EvF Bool} {fe : EvF D} {ew : KF.Env} {ds acc : List PyData} {h0 h2 : MH} {H0 : Hp} {L0 : List Addr} {σ : L2.St}
    (sub : ∀ i ∈ ts, i ∈ vs) (hn : ∀ i ∈ vs, A[i]? = some none) (gd : Good M (B.plus ad) H0 L0 A h0 ew (L2.wipe σ vs)) (at0 : At2 M B A H1 L1 ad H0 L0 h0 acc) (src : Src H0 (Zf (B.plus ad) L0 A)) (el : lcF g ft fe ew xs h0 = .ok ds h2) (hz : acc.length + ds.length ≤ sizeLine)
    {Fin : Hp → Prop} (fin : ∀ H L, At2 M B A H1 L1 ad H L h2 (acc ++ ds) → Kept M B A ad H0 L0 H L h2 → Fin H) :
    ∃ Wv : Nat → Nat → Hp → Prop, (∃ m, Wv 0 m H0) ∧ ∀ i m H, Wv i m H →
      (J.stop i H ∧ Fin H) ∨ (J.go i H ∧ ∃ Nx : Hp → Prop, (∀ H', Nx H' → ∃ m', m' < m ∧ Wv (i + 1) m' H') ∧ ∀ x H', J.yld i H x H' → kG M ts g x (L2.wipe σ vs) H' fun σ2 H2 => L2.wipe σ2 vs = L2.wipe σ vs ∧ kT M WX0 ft σ2 H2 fun b H3 =>
        if b = true then kE M .n WX0 fe σ2 H3 fun y H4 => ∃ acc, H4 ad = some (.lst acc) ∧ acc.length < sizeLine ∧ Nx (upd H4 ad (.lst (acc ++ [y]))) else Nx H3) := by
  have sD : (B.plus ad).S ad := .inr rfl
  refine ⟨fun i m H => m = xs.length - i ∧ i ≤ xs.length ∧ ∃ L h mid rest, Kept M B A ad H0 L0 H L h ∧ At2 M B A H1 L1 ad H L h (acc ++ mid) ∧ Src H (Zf (B.plus ad) L A) ∧ lcF g ft fe ew (xs.drop i) h = .ok rest h2 ∧ mid ++ rest = ds,
    ⟨xs.length, by simp, Nat.zero_le _, L0, h0, [], ds, fun env σ h' q => ⟨gd.len, gd.nd, gd.obj, q.ls, q.lpre, q.base, q.btup, q.bfrz, q.dom, q.sdom, q.alen, q.slen, q.own, q.odis, q.slot⟩, by rw [List.append_nil]; exact at0, src, el, rfl⟩, ?_⟩
  rintro i m H ⟨rfl, hi, L, h, mid, rest, kp, a', src', el', ea⟩
  have g' := kp _ _ _ gd
  obtain ⟨us, eD, r'⟩ := a'.lst
  obtain ⟨w1, w2⟩ := wi _ H L A h ew _ g' src' i
  have dL : ad ∉ L := fun z => g'.ls ad z sD
  by_cases hl : i < xs.length
  · obtain ⟨x, hx⟩ : ∃ x, xs[i]? = some x := ⟨_, List.getElem?_eq_getElem hl⟩
    obtain ⟨go, yld⟩ := w2 x hx
    have ed : xs.drop i = x :: xs.drop (i + 1) := by
      rw [List.drop_eq_getElem_cons hl]
      rw [List.getElem?_eq_getElem hl] at hx
      cases hx; rfl
    rw [ed] at el'
    refine .inr ⟨go, fun H' => ∃ L h mid rest, Kept M B A ad H0 L0 H' L h ∧ At2 M B A H1 L1 ad H' L h (acc ++ mid) ∧ Src H' (Zf (B.plus ad) L A) ∧ lcF g ft fe ew (xs.drop (i + 1)) h = .ok rest h2 ∧ mid ++ rest = ds, fun H' z => ⟨xs.length - (i + 1), by omega, rfl, hl, z⟩, fun v H' hy => ?_⟩
    obtain ⟨sm, r⟩ := yld v H' hy
    unfold lcF at el'
    cases eg : g x ew with
    | none => rw [eg] at el'; cases el'
    | some env1 =>
      rw [eg] at el'
      refine ⟨B.plus ad, L, A, h, ew, x, g'.same sm, r, env1, eg, fun σ2 A2 up g2 => ?_⟩
      cases up.same sub hn
      refine ⟨up.wiped sub, ?_⟩
      obtain ⟨b, h3, et, el2⟩ := Out.nx_ok el'
      refine ⟨B.plus ad, L, A, h, env1, g2, ?_⟩
      rw [et]
      intro b' H3 L3 x3 g3 eb
      cases (show b = b' from eb)
      have xs3 : Ext H L H3 L3 := (Ext.same L sm).trans x3
      have eD3 : H3 ad = some (.lst us) := xs3.keep ad _ eD dL
      have r3 := r'.stay (Z' := Zf (B.plus ad) L3 A) xs3.stay
      cases b with
      | false =>
        simp only [Bool.false_eq_true, if_false] at el2 ⊢
        exact ⟨L3, h3, mid, rest, fun env σ h' q => (kp env σ h' q).leave xs3 g3, ⟨a'.ext.trans xs3, us, eD3, r3⟩, st _ _ _ _ xs3.stay src', el2, ea⟩
      | true =>
        simp only [if_true] at el2 ⊢
        obtain ⟨d, h4, ef, el3⟩ := Out.nx_ok el2
        refine ⟨B.plus ad, L3, A, h3, env1, g3, ?_⟩
        rw [ef]
        intro y H4 L4 x4 g4 r4
        cases d with
        | loc n => cases el3
        | scr n => cases el3
        | py d =>
          obtain ⟨ys, h5, el4, e5⟩ := Out.nx_ok el3
          cases e5
          have xs4 : Ext H L H4 L4 := xs3.trans x4
          have dL3 : ad ∉ L3 := fun z => g3.ls ad z sD
          have eD4 : H4 ad = some (.lst us) := x4.keep ad _ eD3 dL3
          have r5 : RelPs M.K H4 (Zf (B.plus ad) L4 A) (acc ++ (mid ++ [d])) (us ++ [y]) := by
            rw [← List.append_assoc]
            cases r4 with
            | py r4 => exact (r3.stay (Z' := Zf (B.plus ad) L4 A) x4.stay).append (.cons r4 .nil)
          refine ⟨us, eD4, ?_, L4, h4, mid ++ [d], ys, fun env σ h' q => ((kp env σ h' q).leave xs4 g4).setS sD n0 eD4, ⟨(a'.ext.trans xs4).updD nD, us ++ [y], upd_same, r5.stay (setS_stay sD eD4)⟩, st _ _ _ _ (setS_stay sD eD4) (st _ _ _ _ xs4.stay src'), el4, by rw [List.append_assoc]; exact ea⟩
          have hlen : mid.length < ds.length := by rw [← ea, List.length_append, List.length_cons]; omega
          rw [← r'.length, List.length_append]; omega
  · have ei : i = xs.length := by omega
    subst ei
    rw [List.drop_length] at el'
    cases el'
    rw [List.append_nil] at ea
    subst ea
    exact .inl ⟨w1 (Nat.le_refl _), fin H L a' kp⟩
end
def lc2F (g : TgF) (fi1 : EvF (List D)) (g1 : TgF) (vs1 : List Nat) (ft : EvF Bool) (fe : EvF D) (env : KF.Env) : List D → MH → Out (List PyData)
  | [], h => .ok [] h
  | x :: r, h => match g x env with
    | none => .bad
    | some env1 => (fi1 env1 h).nx fun ys h1 => match wipeE env1 vs1 with
      | none => .bad
      | some ew1 => (lcF g1 ft fe ew1 ys h1).nx fun zs h2 => (lc2F g fi1 g1 vs1 ft fe env r h2).nx fun ws h3 => .ok (zs ++ ws) h3
def semLc2 (vs vs1 : List Nat) (fi : EvF (List D)) (g : TgF) (fi1 : EvF (List D)) (g1 : TgF) (ft : EvF Bool) (fe : EvF D) : EvF D := fun env h => (fi env h).bind fun xs h1 => match wipeE env vs with
  | none => .bad
  | some ew => (lc2F g fi1 g1 vs1 ft fe ew xs h1).nx mkL
section
variable {M : MK} {B : Bs} {A : List (Option Addr)} {H1 : Hp} {L1 : List Addr} {h1 : MH} {env : KF.Env} {σ : L2.St} {ad : Addr} {W : WX}
theorem lc2_go {J : It} {xs : List D} {Src : Hp → (Addr → Prop) → Prop} (wi : WIt M J xs Src) (st : ∀ H Z H' Z', Stay H Z H' Z' → Src H Z → Src H' Z') {ts ts1 vs vs1 : List Nat} {g g1 : TgF} {fi1 : EvF (List D)} {ft : EvF Bool} {fe : EvF D} {ew : KF.Env} {ds : List PyData} {h2 : MH} {Q : VK}
    (sub : ∀ i ∈ ts, i ∈ vs) (sub1 : ∀ i ∈ ts1, i ∈ vs1) (gd : Good M B H1 L1 A h1 env σ) (src : Src H1 (Zf B L1 A)) (ee : wipeE env vs = some ew) (el : lc2F g fi1 g1 vs1 ft fe ew xs h1 = .ok ds h2) (hz : ds.length ≤ sizeLine) (q : PostFr M B A env σ W H1 L1 Q (.ok (.py (.list ds)) h2)) (nD : H1 ad = none) :
    ∃ Wv : Nat → Nat → Hp → Prop, (∃ m, Wv 0 m (upd H1 ad (.lst []))) ∧ ∀ i m H, Wv i m H →
      (J.stop i H ∧ Q (.ref ad) H) ∨ (J.go i H ∧ ∃ Nx : Hp → Prop, (∀ H', Nx H' → ∃ m', m' < m ∧ Wv (i + 1) m' H') ∧ ∀ x H', J.yld i H x H' → kG M ts g x (L2.wipe σ vs) H' fun σ2 H2 => L2.wipe σ2 vs = L2.wipe σ vs ∧ kT M WX0 semYes σ2 H2 fun b H3 =>
        if b = true then kI M WX0 fi1 σ2 H3 fun J1 H4 => ∃ W1 : Nat → Nat → Hp → Prop, (∃ m, W1 0 m H4) ∧ ∀ j k H, W1 j k H →
          (J1.stop j H ∧ Nx H) ∨ (J1.go j H ∧ ∃ Nx1 : Hp → Prop, (∀ H', Nx1 H' → ∃ k', k' < k ∧ W1 (j + 1) k' H') ∧ ∀ x H', J1.yld j H x H' → kG M ts1 g1 x (L2.wipe σ2 vs1) H' fun σ3 H5 => L2.wipe σ3 vs1 = L2.wipe σ2 vs1 ∧ kT M WX0 ft σ3 H5 fun b H6 =>
            if b = true then kE M .n WX0 fe σ3 H6 fun y H7 => ∃ acc, H7 ad = some (.lst acc) ∧ acc.length < sizeLine ∧ Nx1 (upd H7 ad (.lst (acc ++ [y]))) else Nx1 H6)
        else Nx H3) := by
  have n0 : B.H0 ad = none := gd.free0 nD
  have sD : (B.plus ad).S ad := .inr rfl
  have g0 : Good M (B.plus ad) (upd H1 ad (.lst [])) L1 A h1 env σ := gd.plus nD
  obtain ⟨hn, gw⟩ := g0.wipe ee
  refine ⟨fun i m H => m = xs.length - i ∧ i ≤ xs.length ∧ ∃ L h acc rest, Good M (B.plus ad) H L A h ew (L2.wipe σ vs) ∧ At2 M B A H1 L1 ad H L h acc ∧ lc2F g fi1 g1 vs1 ft fe ew (xs.drop i) h = .ok rest h2 ∧ acc ++ rest = ds,
    ⟨xs.length, by simp, Nat.zero_le _, L1, h1, [], ds, gw, ⟨(Ext.refl H1 L1).updD nD, [], upd_same, .nil⟩, el, rfl⟩, ?_⟩
  rintro i m H ⟨rfl, hi, L, h, acc, rest, g', a', el', ea⟩
  obtain ⟨us, eD, r'⟩ := a'.lst
  have src' : Src H (Zf (B.plus ad) L A) := st _ _ _ _ (src_in a'.ext nD) src
  obtain ⟨w1, w2⟩ := wi _ H L A h ew _ g' src' i
  have dL : ad ∉ L := fun z => g'.ls ad z sD
  by_cases hl : i < xs.length
  · obtain ⟨x, hx⟩ : ∃ x, xs[i]? = some x := ⟨_, List.getElem?_eq_getElem hl⟩
    obtain ⟨go, yld⟩ := w2 x hx
    have ed : xs.drop i = x :: xs.drop (i + 1) := by
      rw [List.drop_eq_getElem_cons hl]
      rw [List.getElem?_eq_getElem hl] at hx
      cases hx; rfl
    rw [ed] at el'
    refine .inr ⟨go, fun H' => ∃ L h acc rest, Good M (B.plus ad) H' L A h ew (L2.wipe σ vs) ∧ At2 M B A H1 L1 ad H' L h acc ∧ lc2F g fi1 g1 vs1 ft fe ew (xs.drop (i + 1)) h = .ok rest h2 ∧ acc ++ rest = ds, fun H' z => ⟨xs.length - (i + 1), by omega, rfl, hl, z⟩, fun v H' hy => ?_⟩
    obtain ⟨sm, r⟩ := yld v H' hy
    unfold lc2F at el'
    cases eg : g x ew with
    | none => rw [eg] at el'; cases el'
    | some env1 =>
      rw [eg] at el'
      refine ⟨B.plus ad, L, A, h, ew, x, g'.same sm, r, env1, eg, fun σ2 A2 up g2 => ?_⟩
      cases up.same sub hn
      refine ⟨up.wiped sub, ?_⟩
      refine ⟨B.plus ad, L, A, h, env1, g2, ?_⟩
      intro b' H3 L3 x3 g3 eb
      cases (show true = b' from eb)
      rw [if_pos rfl]
      obtain ⟨ys, h3, ei, el2⟩ := Out.nx_ok el'
      have xs3 : Ext H L H3 L3 := (Ext.same L sm).trans x3
      refine ⟨B.plus ad, L3, A, h, env1, g3, ?_⟩
      rw [ei]
      intro J1 H4 L4 x4 g4 rr
      obtain ⟨Src1, wi1, st1, src1⟩ := rr
      have xs4 : Ext H L H4 L4 := xs3.trans x4
      cases ee1 : wipeE env1 vs1 with
      | none => rw [ee1] at el2; cases el2
      | some ew1 =>
        rw [ee1] at el2
        obtain ⟨zs, h5, el3, el4⟩ := Out.nx_ok el2
        obtain ⟨ws, h6, el5, el6⟩ := Out.nx_ok el4
        cases el6
        obtain ⟨hn1, gw1⟩ := g4.wipe ee1
        have hlen : acc.length + zs.length ≤ sizeLine := by
          have := congrArg List.length ea
          simp only [List.length_append] at this
          omega
        have a4 : At2 M B A H1 L1 ad H4 L4 h3 acc := ⟨a'.ext.trans xs4, us, xs4.keep ad _ eD dL, r'.stay xs4.stay⟩
        refine inner_loop n0 nD wi1 st1 sub1 hn1 gw1 a4 src1 el3 hlen fun H5 L5 a5 kp => ?_
        exact ⟨L5, h5, acc ++ zs, ws, kp _ _ _ (g'.leave xs4 g4), a5, el5, by rw [List.append_assoc]; exact ea⟩
  · have ei : i = xs.length := by omega
    subst ei
    rw [List.drop_length] at el'
    cases el'
    rw [List.append_nil] at ea
    subst ea
    exact .inl ⟨w1 (Nat.le_refl _), lc_fin gd nD q g' a'.ext eD r'⟩
variable {X : Cx}
theorem lc2_read {ts ts1 vs vs1 : List Nat} {fi fi1 : EvF (List D)} {g g1 : TgF} {ft : EvF Bool} {fe : EvF D} {Q : VK} {H : Hp} {σ : L2.St} (sub : ∀ i ∈ ts, i ∈ vs) (sub1 : ∀ i ∈ ts1, i ∈ vs1) (q : kF M W (semLc2 vs vs1 fi g fi1 g1 ft fe) σ H Q) : tLc2 (kI M W fi) (kG M ts g) (kT M WX0 semYes) (kI M WX0 fi1) (kG M ts1 g1) (kT M WX0 ft) (kE M .n WX0 fe) vs vs1 σ H Q := by
  obtain ⟨B, L, A, h, env, gd, p⟩ := q
  refine ⟨B, L, A, h, env, gd, ?_⟩
  unfold semLc2 at p
  cases e : fi env h with
  | exc c fs h1 => rw [e] at p; exact p
  | bad => rw [e] at p; exact p
  | ok xs h1 =>
    rw [e] at p
    intro J H1 L1 x1 g1' r ad nD
    obtain ⟨Src, wi, st, src⟩ := r
    have p : PostFr M B A env σ W H L Q (match wipeE env vs with
      | none => .bad
      | some ew => (lc2F g fi1 g1 vs1 ft fe ew xs h1).nx mkL) := p
    cases ee : wipeE env vs with
    | none => rw [ee] at p; exact p.elim
    | some ew =>
      rw [ee] at p
      have p : PostFr M B A env σ W H L Q ((lc2F g fi1 g1 vs1 ft fe ew xs h1).nx mkL) := p
      cases el : lc2F g fi1 g1 vs1 ft fe ew xs h1 with
      | exc c fs h1 => rw [el] at p; exact p.elim
      | bad => rw [el] at p; exact p.elim
      | ok ds h2 =>
        rw [el] at p
        have p : PostFr M B A env σ W H L Q (mkL ds h2) := p
        unfold mkL at p
        by_cases hf : fits ds.length = true
        · rw [if_pos hf] at p
          exact lc2_go wi st sub sub1 g1' src ee el (fits.ok hf) (PostFr.from x1 p) nD
        · rw [if_neg hf] at p; exact p.elim
theorem k_lc2 {elt tg iter tg1 iter1 : Expr} {ifs1 : List Expr} {scope : Scope} {own : List (Str × Nat)} {vs1 ts ts1 : List Nat} {pos : Pos} {fi fi1 : EvF (List D)} {g g1 : TgF} {ft : EvF Bool} {fe : EvF D} (hc : X.calm = true) (hN : X.N.Nodup) (hi : PI X tg iter (kI M W fi)) (ok : BlkOk X.N X.env.scope scope own) (hv : ∀ i ∈ vs1, i ∈ own.map (·.2))
    (sub : ∀ i ∈ ts, i ∈ own.map (·.2)) (sub1 : ∀ i ∈ ts1, i ∈ vs1) (hg : BlkPE X scope fun Y => PG Y tg (kG M ts g)) (hi1 : BlkPE X scope fun Y => PI Y tg1 iter1 (kI M WX0 fi1)) (hg1 : BlkPE X scope fun Y => PG Y tg1 (kG M ts1 g1)) (ht1 : BlkPE X scope fun Y => PTs Y ifs1 (kT M WX0 ft)) (he : BlkPE X scope fun Y => PE Y elt (kE M .n WX0 fe)) (hs : ∀ x, foldedSetIterable iter X.env x = pure x) (hs1 : ∀ env x, foldedSetIterable iter1 env x = pure x) :
    PE X (.ListComp elt [⟨tg, iter, [], 0⟩, ⟨tg1, iter1, ifs1, 0⟩] scope pos) (kF M W (semLc2 (own.map (·.2)) vs1 fi g fi1 g1 ft fe)) :=
  PE.mono (pe_lc2 hc hN hi ok hv hg (fun _ _ _ _ _ => k_yes) hi1 hg1 ht1 he hs hs1) fun _ _ _ q => lc2_read sub sub1 q
theorem k_setLc2 {i : Nat} {y : Str} {py : Pos} {elt tg iter tg1 iter1 : Expr} {ifs1 : List Expr} {scope : Scope} {own : List (Str × Nat)} {vs1 ts ts1 : List Nat} {pos spos : Pos} {fi fi1 : EvF (List D)} {g g1 : TgF} {ft : EvF Bool} {fe : EvF D} (hc : X.calm = true) (hN : X.N.Nodup) (hy : X.N[i]? = some y) (hyl : X.env.scope.names.lookup y = some .local)
    (hsw : swapsWith (.ListComp elt [⟨tg, iter, [], 0⟩, ⟨tg1, iter1, ifs1, 0⟩] scope pos) (some (.Name y py)) spos.line X.env = pure true) (hi : PI X tg iter (kI M W fi)) (ok : BlkOk X.N X.env.scope scope own) (hv : ∀ i ∈ vs1, i ∈ own.map (·.2))
    (sub : ∀ i ∈ ts, i ∈ own.map (·.2)) (sub1 : ∀ i ∈ ts1, i ∈ vs1) (hg : BlkPE X scope fun Y => PG Y tg (kG M ts g)) (hi1 : BlkPE X scope fun Y => PI Y tg1 iter1 (kI M WX0 fi1)) (hg1 : BlkPE X scope fun Y => PG Y tg1 (kG M ts1 g1)) (ht1 : BlkPE X scope fun Y => PTs Y ifs1 (kT M WX0 ft)) (he : BlkPE X scope fun Y => PE Y elt (kE M .n WX0 fe)) (hs : ∀ x, foldedSetIterable iter X.env x = pure x) (hs1 : ∀ env x, foldedSetIterable iter1 env x = pure x)
    : PS X (.Assign [.Name y py] (.ListComp elt [⟨tg, iter, [], 0⟩, ⟨tg1, iter1, ifs1, 0⟩] scope pos) spos) (tAsg (kF M W (semLc2 (own.map (·.2)) vs1 fi g fi1 g1 ft fe)) (gName i)) :=
  PS.mono (ps_setLc2 hc hN hy hyl hsw hi ok hv hg (fun _ _ _ _ _ => k_yes) hi1 hg1 ht1 he hs hs1) fun _ _ _ q => lc2_read sub sub1 q
end
end KF
set_option Elab.async false
set_option linter.all false
set_option maxRecDepth 100000
set_option maxHeartbeats 4000000
/-! KF, part J: sorted(set(xs)). -/
namespace KF
open PySem PySem.Spec PyProof.Rows L2
/-- a new, empty set -/
def fsO (w : World) : Obj := { cls := .type "set", dict := none, data := .set #[] 0 (.fresh 0 0 (!w.params.followText "set-order")) }
abbrev lsI (l : Addr) : Obj := { cls := .type "list_iterator", data := .fields #[.ref l, .int 0 0] }
section
variable {P : Program} {w : World} {A : Around} {E : Value → Shared → Prop} {s : Shared}
/-- set(xs) of a list, by what its loop does -/
theorem set_of_list {l : Addr} {items : Array Value} {Z : Heap → Prop} {Q : Value → Shared → Prop} (nh : A.handled = none) (il : s.heap.IsList l items)
    (loop : ∀ (B : Around) (J : Addr) (s0 : Shared) (R : Result → Shared → Prop), B.in1.handled = none → B.in1.units = A.units + 3 → J = s.heap.objs.size + 1 → s0 = { s with heap := (s.heap.push (fsO w)).push (lsI l) } →
      (∀ s', Moved [s.heap.objs.size, J] (fun a b => b = a) s0 s' → Z s'.heap → R (.ok (.ret .none)) s') → codeAny (model P w) B (.builtin "set.update.loop" ⟨[.ref s.heap.objs.size, .ref J], []⟩) R s0)
    (k : ∀ (h' : Heap) (tk : Nat), Z h' → (∀ b o, s.heap.get? b = some o → h'.get? b = some o) → Q (.ref s.heap.objs.size) { s with heap := h', toks := tk }) :
    wpAny (model P w) A (call (.type "set") [.ref l]) Q E s := by
  obtain ⟨cc, tl, m0⟩ := F.called_set.mro
  have m1 := F.called_set.made
  have m2 := F.called_set.sub
  refine wpAny_call (codeAny_of_tree (show wpAny _ _ (callAny (.type "set") _) _ _ _ from wpAny_pure ⟨Code.quiet_builtin _ (by decide +kernel), codeAny_builtin F.entry_type_call ?_⟩))
  rw [Around.under_plain (weight_type_call_type "set" [.ref l] []) rfl]
  have m3 := F.called_set.notType
  have m4 := F.called_set.canCreate
  have m5 := F.typeCall_set_1 (.ref l)
  repeat (any_goals first | assumption | wp_step)
  refine codeAny_mono (code_set_led1 (.ref l) (E := E) (Q₁ := fun ob s1 => ob = .ref s.heap.objs.size ∧ s1 = { s with heap := s.heap.push (fsO w) }) ⟨rfl, rfl⟩) fun r s1 hr => ?_
  cases r with
  | error e => exact hr
  | ok fl =>
    cases fl with
    | ret ob =>
      obtain ⟨rfl, rfl⟩ := hr
      have eS : (s.heap.push (fsO w)).get? s.heap.objs.size = some (fsO w) := Heap.get?_push_size _ rfl
      have tS : Shared.TypeIs { s with heap := s.heap.push (fsO w) } (.ref s.heap.objs.size) "set" := ⟨_, eS, rfl⟩
      have m6 := F.called_set.init.lookup
      have m7 := F.called_set.init.bind (.ref s.heap.objs.size)
      repeat (any_goals first | assumption | wp_step)
      refine codeAny_mono (codeAny_call_builtin (R := wants (fun r s2 => r = .none ∧ ∃ h' tk, s2 = { s with heap := h', toks := tk } ∧ Z h' ∧ (∀ b o, s.heap.get? b = some o → h'.get? b = some o)) E) F.called_set.init.plain F.entry_set_init (check_set_init_1 tS ?_)) fun r2 s2 hr2 => ?_
      · obtain ⟨ol, q1, q2, nl, q3⟩ := il
        obtain ⟨oc, od, odt, osl⟩ := ol
        simp only at q2 q3
        subst q2 q3
        have q4 : (s.heap.push (fsO w)).get? l = some { cls := .type "list", dict := od, data := .seq items nl, slots := osl } := Heap.get?_push_of_some _ q1
        have m8 := F.sub_list_set
        have m9 := F.sub_list_frozenset
        have ne : (Value.type "list" == Value.type "dict") = false := by decide
        have q5 : (s.heap.push (fsO w)).IsList l items := ⟨_, q4, rfl, nl, rfl⟩
        unfold Builtin.«set.__init__» noKeywords Builtin.Frozenset.updateFrom
        generalize hPI : pyIter = PI
        wp_walk
        subst hPI
        refine wpAny_pyIter_list q5 (wpAny_bind (wpAny_runValue ?_))
        have sz : (s.heap.push (fsO w)).objs.size = s.heap.objs.size + 1 := Heap.size_push ..
        refine loop _ _ _ _ (by simp [nh]) rfl sz rfl fun s' hm hz => ?_
        rw [sz] at hm
        obtain ⟨h', g2, d', tk', os'⟩ := s'
        have e1 : g2 = s.gens := hm.gens
        have e2 : d' = s.drawn := hm.drawn
        have e3 : os' = s.os := hm.os
        subst e1 e2 e3
        refine wpAny_pure ?_
        show wpAny _ _ (ret Value.none) _ _ _
        refine wpAny_pure ⟨rfl, h', tk', rfl, hz, fun b o e => ?_⟩
        have lt : b < s.heap.objs.size := Heap.lt_size e
        refine hm.heap b o (fun z => ?_) (Heap.get?_push_of_some _ (Heap.get?_push_of_some _ e))
        rcases List.mem_cons.mp z with z | z
        · rw [z] at lt; exact absurd lt (Nat.lt_irrefl _)
        · rw [List.mem_singleton.mp z] at lt; exact absurd lt (Nat.not_lt_of_le (Nat.le_succ _))
      · cases r2 with
        | error e => exact hr2
        | ok fl2 =>
          cases fl2 with
          | ret r =>
            obtain ⟨rfl, h', tk, rfl, hz, hk⟩ := hr2
            repeat (any_goals first | assumption | wp_step)
            exact k h' tk hz hk
          | _ => exact hr2.elim
    | _ => exact hr.elim
end
end KF
set_option Elab.async false
set_option linter.all false
set_option maxRecDepth 100000
set_option maxHeartbeats 4000000
/-! KF, part K: sorted(set(xs)), by value. -/
namespace KF
open PySem PySem.Spec PyProof.Rows L2
open PySem.W (dataLt dataLe alike alikeAll sameRank)
/-! ### ascending lists without repeats -/
section
variable {α : Type}
def insU (lt : α → α → Bool) (x : α) : List α → List α
  | [] => [x]
  | y :: r => if lt x y = true then x :: y :: r else if lt y x = true then y :: insU lt x r else y :: r
def ssU (lt : α → α → Bool) : List α → List α
  | [] => []
  | x :: r => insU lt x (ssU lt r)
structure Lin (lt : α → α → Bool) : Prop where
  irr : ∀ x, lt x x = false
  tr : ∀ {x y z}, lt x y = true → lt y z = true → lt x z = true
  con : ∀ {x y}, lt x y = false → lt y x = false → x = y
variable {lt : α → α → Bool}
theorem Lin.as (o : Lin lt) {x y : α} (h : lt x y = true) : lt y x = false := by
  cases q : lt y x with
  | false => rfl
  | true => have := o.tr h q; rw [o.irr] at this; cases this
theorem insU_mem (o : Lin lt) {x z : α} : ∀ {l : List α}, z ∈ insU lt x l ↔ z = x ∨ z ∈ l
  | [] => by simp [insU]
  | y :: r => by
    unfold insU
    split
    · simp
    · rename_i c1
      split
      · rw [List.mem_cons, insU_mem o, List.mem_cons]
        constructor
        · rintro (h | h | h)
          · exact .inr (.inl h)
          · exact .inl h
          · exact .inr (.inr h)
        · rintro (h | h | h)
          · exact .inr (.inl h)
          · exact .inl h
          · exact .inr (.inr h)
      · rename_i c2
        have e := o.con (by simpa using c1) (by simpa using c2)
        subst e
        simp
theorem insU_pw (o : Lin lt) {x : α} : ∀ {l : List α}, l.Pairwise (fun a b => lt a b = true) → (insU lt x l).Pairwise (fun a b => lt a b = true)
  | [], _ => by simp [insU]
  | y :: r, h => by
    obtain ⟨h1, h2⟩ := List.pairwise_cons.mp h
    unfold insU
    split
    · rename_i c
      refine List.pairwise_cons.mpr ⟨fun z hz => ?_, h⟩
      rcases List.mem_cons.mp hz with e | e
      · rw [e]; exact c
      · exact o.tr c (h1 z e)
    · split
      · rename_i c
        refine List.pairwise_cons.mpr ⟨fun z hz => ?_, insU_pw o h2⟩
        rcases (insU_mem o).mp hz with e | e
        · rw [e]; exact c
        · exact h1 z e
      · exact h
theorem ssU_mem (o : Lin lt) {z : α} : ∀ {l : List α}, z ∈ ssU lt l ↔ z ∈ l
  | [] => by simp [ssU]
  | y :: r => by
    unfold ssU
    rw [insU_mem o, ssU_mem o, List.mem_cons]
theorem ssU_pw (o : Lin lt) : ∀ {l : List α}, (ssU lt l).Pairwise (fun a b => lt a b = true)
  | [] => by simp [ssU]
  | y :: r => insU_pw o (ssU_pw o)
theorem pw_uniq (o : Lin lt) : ∀ {l m : List α}, l.Pairwise (fun a b => lt a b = true) → m.Pairwise (fun a b => lt a b = true) → (∀ z, z ∈ l ↔ z ∈ m) → l = m
  | [], [], _, _, _ => rfl
  | [], y :: r, _, _, h => by have := (h y).mpr List.mem_cons_self; cases this
  | x :: l, [], _, _, h => by have := (h x).mp List.mem_cons_self; cases this
  | x :: l, y :: m, h1, h2, h => by
    obtain ⟨a1, a2⟩ := List.pairwise_cons.mp h1
    obtain ⟨b1, b2⟩ := List.pairwise_cons.mp h2
    have e : x = y := by
      rcases List.mem_cons.mp ((h x).mp List.mem_cons_self) with e | e
      · exact e
      · rcases List.mem_cons.mp ((h y).mpr List.mem_cons_self) with e2 | e2
        · exact e2.symm
        · have := o.as (a1 y e2); rw [b1 x e] at this; cases this
    subst e
    congr 1
    refine pw_uniq o a2 b2 fun z => ⟨fun hz => ?_, fun hz => ?_⟩
    · rcases List.mem_cons.mp ((h z).mp (List.mem_cons_of_mem _ hz)) with e | e
      · have := a1 z hz; rw [e, o.irr] at this; cases this
      · exact e
    · rcases List.mem_cons.mp ((h z).mpr (List.mem_cons_of_mem _ hz)) with e | e
      · have := b1 z hz; rw [e, o.irr] at this; cases this
      · exact e
theorem pw_nodup (o : Lin lt) {l : List α} (h : l.Pairwise (fun a b => lt a b = true)) : l.Nodup := h.imp fun {a b} q e => by rw [e, o.irr] at q; cases q
end
def ltI (x y : Int) : Bool := decide (x < y)
theorem lin_I : Lin ltI := ⟨fun x => by simp [ltI], fun {x y z} h1 h2 => by simp [ltI] at *; omega, fun {x y} h1 h2 => by simp [ltI] at *; omega⟩
def ltIs : List Int → List Int → Bool
  | [], [] => false
  | [], _ :: _ => true
  | _ :: _, [] => false
  | x :: xs, y :: ys => if x < y then true else if y < x then false else ltIs xs ys
theorem ltIs_irr : ∀ x, ltIs x x = false
  | [] => rfl
  | x :: r => by simp [ltIs, ltIs_irr r]
theorem ltIs_tr : ∀ {x y z : List Int}, ltIs x y = true → ltIs y z = true → ltIs x z = true
  | [], [], _, h, _ => by cases h
  | [], _ :: _, [], _, h => by cases h
  | [], _ :: _, _ :: _, _, _ => rfl
  | _ :: _, [], _, h, _ => by cases h
  | _ :: _, _ :: _, [], _, h => by cases h
  | a :: x, b :: y, c :: z, h1, h2 => by
    simp only [ltIs] at *
    by_cases p1 : a < b
    · by_cases p2 : b < c
      · rw [if_pos (by omega)]
      · rw [if_neg p2] at h2
        by_cases p3 : c < b
        · rw [if_pos p3] at h2; cases h2
        · rw [if_pos (by omega)]
    · rw [if_neg p1] at h1
      by_cases p3 : b < a
      · rw [if_pos p3] at h1; cases h1
      · rw [if_neg p3] at h1
        have e : a = b := by omega
        subst e
        by_cases p2 : a < c
        · rw [if_pos p2]
        · rw [if_neg p2] at h2 ⊢
          by_cases p4 : c < a
          · rw [if_pos p4] at h2; cases h2
          · rw [if_neg p4] at h2 ⊢
            exact ltIs_tr h1 h2
theorem ltIs_con : ∀ {x y : List Int}, ltIs x y = false → ltIs y x = false → x = y
  | [], [], _, _ => rfl
  | [], _ :: _, h, _ => by cases h
  | _ :: _, [], _, h => by cases h
  | a :: x, b :: y, h1, h2 => by
    simp only [ltIs] at *
    by_cases p1 : a < b
    · rw [if_pos p1] at h1; cases h1
    · by_cases p2 : b < a
      · rw [if_pos p2] at h2; cases h2
      · rw [if_neg p1, if_neg p2] at h1
        rw [if_neg p2, if_neg p1] at h2
        rw [ltIs_con h1 h2, show a = b by omega]
theorem lin_Is : Lin ltIs := ⟨ltIs_irr, ltIs_tr, ltIs_con⟩
def tI (ns : List Int) : PyData := .tuple (ns.map .int)
theorem lt_tI : ∀ a b : List Int, dataLt (tI a) (tI b) = ltIs a b := by
  intro a b
  unfold tI
  rw [PySem.W.dataLt_tuple]
  show PySem.W.rowLt (a.map .int) (b.map .int) = _
  rw [PySem.W.dataLt_ints]
  have key : ∀ a b : List Int, a < b ↔ ltIs a b = true := by
    intro a
    induction a with
    | nil =>
      intro b
      cases b with
      | nil => simp [ltIs]
      | cons y s => simp [ltIs]
    | cons x r ih =>
      intro b
      cases b with
      | nil => simp [ltIs]
      | cons y s =>
        simp only [ltIs, List.cons_lt_cons_iff, ih s]
        by_cases p1 : x < y
        · simp [p1]
        · by_cases p2 : y < x
          · simp [p1, p2]; omega
          · have e : x = y := by omega
            simp [e]
  cases q : ltIs a b with
  | true => exact decide_eq_true ((key a b).mpr q)
  | false => exact decide_eq_false fun z => by rw [(key a b).mp z] at q; cases q
theorem lt_asymm (a b : PyData) (h : dataLt a b = true) : dataLt b a = false := by
  rcases tot.total a b with t | t
  · rw [le_iff] at t
    simpa using t
  · rw [le_iff, h] at t
    cases t
/-- a row that rises is the sorted one of its members -/
theorem sortD_of {xs T : List PyData} (pm : T.Perm xs) (pw : T.Pairwise fun a b => dataLt a b = true) (as : ∀ a b, dataLt a b = true → dataLt b a = false) : sortD xs = T := by
  rw [sortD_eq]
  refine (PySem.W.sort_unique tot (pw.imp fun h => ?_) fun c => ?_).symm
  · rw [le_iff, as _ _ h]; rfl
  · have p2 := pm.filter (sameRank (dataLe false fun x : PyData => x) c)
    have h1 : ∀ l : List PyData, l.Pairwise (fun a b => dataLt a b = true) → (∀ z ∈ l, sameRank (dataLe false fun x : PyData => x) c z = true) → l.length ≤ 1 := by
      intro l hl hc
      cases l with
      | nil => simp
      | cons a r =>
        cases r with
        | nil => simp
        | cons b s =>
          exfalso
          have ab := (List.pairwise_cons.mp hl).1 b List.mem_cons_self
          have ca := hc a List.mem_cons_self
          have cb := hc b (List.mem_cons_of_mem _ List.mem_cons_self)
          unfold sameRank at ca cb
          obtain ⟨_, a1⟩ := Bool.and_eq_true_iff.mp ca
          obtain ⟨_, b1⟩ := Bool.and_eq_true_iff.mp cb
          obtain ⟨a2, _⟩ := Bool.and_eq_true_iff.mp ca
          have : dataLe false (fun x : PyData => x) b a = true := tot.trans b c a b1 a2
          rw [le_iff, ab] at this
          cases this
    have hl := h1 _ (pw.filter _) fun z hz => (List.mem_filter.mp hz).2
    generalize T.filter (sameRank (dataLe false fun x : PyData => x) c) = l at p2 hl
    cases l with
    | nil => exact (List.nil_perm.mp p2).symm
    | cons a r =>
      cases r with
      | nil => exact (List.Perm.eq_singleton p2.symm).symm
      | cons => simp at hl
end KF
set_option Elab.async false
set_option linter.all false
set_option maxRecDepth 100000
set_option maxHeartbeats 4000000
/-! KF, part L: sorted(set(xs)): the machine's side. -/
namespace KF
open PySem PySem.Spec PyProof.Rows L2
open PySem.W (dataLt dataLe alike alikeAll)
abbrev Rows := List (Addr × List Int)
section
variable {P : Program} {w : World} {A : Around} {E : Value → Shared → Prop} {s : Shared}
/-- the loop that puts tuples into a set; few of them differ -/
theorem loop_tups {B : Around} {J S l : Addr} {items : Array Value} {ks : Rows} {h0 : Heap} {R : Result → Shared → Prop} (nh : B.in1.handled = none) (hu : B.in1.units < cLine) (lJ : l ≠ J) (SJ : S ≠ J) (Sl : S ≠ l)
    (hit : items.toList = ks.map fun p => Value.ref p.1) (bd : ∀ L : Rows, (L.map (·.2)).Nodup → (∀ p ∈ L, p ∈ ks) → L.length < 63) (hk : ∀ p ∈ ks, IsT P w h0 p.2 p.1) (nS : h0.get? S = none) (nJ : h0.get? J = none) :
    ∀ (m i : Nat) (s : Shared), items.size - i = m → i ≤ items.size → s.heap.IsListIter J l i ∧ s.heap.IsList l items → (∀ b o, h0.get? b = some o → s.heap.get? b = some o) →
      (∃ L es ep t, SetTR P w s.heap S L es ep t ∧ (∀ p ∈ L, p ∈ ks) ∧ ∀ p ∈ ks.take i, p.2 ∈ L.map (·.2)) →
      (∀ s' L es ep t, Moved [S, J] (fun a b => b = a) s s' → SetTR P w s'.heap S L es ep t → (∀ p ∈ L, p ∈ ks) → (∀ p ∈ ks, p.2 ∈ L.map (·.2)) → (∀ b o, h0.get? b = some o → s'.heap.get? b = some o) → R (.ok (.ret .none)) s') →
      codeAny (model P w) B (.builtin "set.update.loop" ⟨[.ref S, .ref J], []⟩) R s := by
  have W := (Walks.list (prog := P) (w := w) nh J l lJ items).toS
  have up : ∀ b ∈ [J], b ∈ [S, J] := fun b hb => List.mem_cons_of_mem _ hb
  have SnJ : S ∉ [J] := fun z => SJ (List.mem_singleton.mp z)
  have hsz : items.size = ks.length := by
    have := congrArg List.length hit
    rw [Array.length_toList, List.length_map] at this
    exact this
  have old : ∀ {s s' : Shared}, Moved [J] (fun a b => b = a) s s' → (∀ b o, h0.get? b = some o → s.heap.get? b = some o) → ∀ b o, h0.get? b = some o → s'.heap.get? b = some o := fun hm kp b o e =>
    hm.heap b o (fun z => by rw [List.mem_singleton.mp z, nJ] at e; cases e) (kp b o e)
  intro m
  induction m with
  | zero =>
    intro i s h1 h2 st kp ⟨L, es, ep, t, hS, sub, all⟩ fin
    obtain rfl : i = items.size := by omega
    refine codeAny_builtin F.entry_set_update_loop ?_
    rw [Around.under_plainId F.plain_set_update_loop _]
    refine wpAny_bind (m := pyNext (.ref J)) (W.done s _ _ st fun s' hm => ?_)
    have kp' := old hm kp
    have tk : ks.take items.size = ks := List.take_of_length_le (by omega)
    rw [tk] at all
    exact wpAny_pure (fin s' L es ep t (hm.mono up) (hS.keep (fun o e => hm.heap S o SnJ e) fun p hp => isT_keep (hk p (sub p hp)) kp') sub all kp')
  | succ m ih =>
    intro i s h1 h2 st kp ⟨L, es, ep, t, hS, sub, all⟩ fin
    have lt : i < items.size := by omega
    refine codeAny_builtin F.entry_set_update_loop ?_
    rw [Around.under_plainId F.plain_set_update_loop _]
    refine wpAny_bind (m := pyNext (.ref J)) (W.item i s _ _ lt st fun v s' hv st' hm => ?_)
    have hv : items[i]? = some v := hv
    obtain ⟨p, hp, rfl⟩ : ∃ p, ks[i]? = some p ∧ v = .ref p.1 := by
      have q : items.toList[i]? = some v := by rw [Array.getElem?_toList]; exact hv
      rw [hit, List.getElem?_map] at q
      cases z : ks[i]? with
      | none => rw [z] at q; cases q
      | some p => rw [z] at q; exact ⟨p, rfl, (Option.some.inj q).symm⟩
    have kp' := old hm kp
    have pm : p ∈ ks := List.mem_of_getElem? hp
    have hS' : SetTR P w s'.heap S L es ep t := hS.keep (fun o e => hm.heap S o SnJ e) fun q hq => isT_keep (hk q (sub q hq)) kp'
    have hx : IsT P w s'.heap p.2 p.1 := isT_keep (hk p pm) kp'
    refine wpAny_bind (m := holding [Value.ref p.1] (setAdd S (.ref p.1))) (wpAny_holding ?_)
    unfold setAdd
    refine wpAny_holding (wpAny_bind (wpAny_pyHash_tuple hu hx ?_))
    refine add_at (s := { s' with toks := s'.toks + (p.2.length + 1) }) hS' hx hu (by have := bd L hS.nd sub; omega) fun b h' L' es' ep' t' sb hS2 c1 c2 => ?_
    have mm : ∀ q, q ∈ ks.take (i + 1) ↔ q ∈ ks.take i ∨ q = p := fun q => by rw [take_next hp, List.mem_append, List.mem_singleton]
    have both : (∀ q ∈ L', q ∈ ks) ∧ ∀ q ∈ ks.take (i + 1), q.2 ∈ L'.map (·.2) := by
      rcases Classical.em (p.2 ∈ L.map (·.2)) with c | c
      · rw [c1 c]
        refine ⟨sub, fun q hq => ?_⟩
        rcases (mm q).mp hq with z | z
        · exact all q z
        · rw [z]; exact c
      · have pp := c2 c
        refine ⟨fun q hq => ?_, fun q hq => ?_⟩
        · rcases List.mem_cons.mp (pp.mem_iff.mp hq) with z | z
          · rw [z]; exact pm
          · exact sub q z
        · rw [(pp.map (·.2)).mem_iff, List.map_cons]
          rcases (mm q).mp hq with z | z
          · exact List.mem_cons_of_mem _ (all q z)
          · rw [z]; exact List.mem_cons_self
    have kp2 : ∀ b o, h0.get? b = some o → h'.get? b = some o := fun b o e => (sb.2 b (fun z => by rw [z, nS] at e; cases e)).trans (kp' b o e)
    refine wpAny_pure ⟨plainId_quiet F.plain_set_update_loop _, ih (i + 1) _ (by omega) (by omega) (W.frame _ s' _ _ st' (Nat.le_add_right _ _) fun b hb o e => ?_) kp2 ⟨L', es', ep', t', hS2, both⟩ fun s2 L2 es2 ep2 t2 hm2 hS3 g1 g2 kp3 => ?_⟩
    · have bS : b ≠ S := fun z => by
        rw [z] at hb
        rcases List.mem_cons.mp hb with q | q
        · exact SJ q
        · exact Sl (List.mem_singleton.mp q)
      rw [sb.2 b bS]; exact e
    · refine fin s2 L2 es2 ep2 t2 (Moved.trans W.gtrans ((hm.mono up).then_heap (Nat.le_add_right _ _) fun b o hb e => ?_) hm2) hS3 g1 g2 kp3
      rw [sb.2 b (fun z => hb (by rw [z]; exact List.mem_cons_self))]; exact e
theorem none_ge {h : Heap} {b : Addr} (hb : h.objs.size ≤ b) : h.get? b = none := by
  cases q : h.get? b with
  | none => rfl
  | some o => exact absurd (Nat.lt_of_lt_of_le (Heap.lt_size q) hb) (Nat.lt_irrefl _)
/-- set(xs) of a list of tuples, few of which differ -/
theorem set_tups {l : Addr} {items : Array Value} {ks : Rows} {Q : Value → Shared → Prop} (nh : A.handled = none) (il : s.heap.IsList l items) (hit : items.toList = ks.map fun p => Value.ref p.1) (hk : ∀ p ∈ ks, IsT P w s.heap p.2 p.1)
    (bd : ∀ L : Rows, (L.map (·.2)).Nodup → (∀ p ∈ L, p ∈ ks) → L.length < 63) (hu : A.units + 3 < cLine)
    (k : ∀ (h' : Heap) (tk : Nat) L es ep t, SetTR P w h' s.heap.objs.size L es ep t → (∀ p ∈ L, p ∈ ks) → (∀ p ∈ ks, p.2 ∈ L.map (·.2)) → (∀ b o, s.heap.get? b = some o → h'.get? b = some o) → Q (.ref s.heap.objs.size) { s with heap := h', toks := tk }) :
    wpAny (model P w) A (call (.type "set") [.ref l]) Q E s := by
  have ll : l < s.heap.objs.size := (fun ⟨_, q, _⟩ => Heap.lt_size q) il
  refine set_of_list (Z := fun h' => ∃ L es ep t, SetTR P w h' s.heap.objs.size L es ep t ∧ (∀ p ∈ L, p ∈ ks) ∧ ∀ p ∈ ks, p.2 ∈ L.map (·.2)) nh il (fun B J s0 R nB uB eJ e0 fin => ?_) fun h' tk ⟨L, es, ep, t, z1, z2, z3⟩ kp => k h' tk L es ep t z1 z2 z3 kp
  subst eJ e0
  have sz : (s.heap.push (fsO w)).objs.size = s.heap.objs.size + 1 := Heap.size_push ..
  have eI := Heap.get?_push_size (s.heap.push (fsO w)) (o := lsI l) rfl
  rw [sz] at eI
  have eS : ((s.heap.push (fsO w)).push (lsI l)).get? s.heap.objs.size = some (fsO w) := Heap.get?_push_of_some _ (Heap.get?_push_size _ rfl)
  have keep : ∀ b o, s.heap.get? b = some o → ((s.heap.push (fsO w)).push (lsI l)).get? b = some o := fun b o e => Heap.get?_push_of_some _ (Heap.get?_push_of_some _ e)
  refine loop_tups (h0 := s.heap) (items := items) nB (by rw [uB]; exact hu) (Nat.ne_of_lt (Nat.lt_succ_of_lt ll)) (Nat.ne_of_lt (Nat.lt_succ_self _)) (Nat.ne_of_gt ll) hit bd hk (none_ge (Nat.le_refl _)) (none_ge (Nat.le_succ _)) _ 0 _ rfl (Nat.zero_le _)
    ⟨⟨_, eI, rfl, rfl⟩, il.at fun o e => keep _ o e⟩ keep ⟨[], #[], 0, _, setTR_fresh eS, (fun p hp => by cases hp), fun p hp => by simp at hp⟩ fun s' L es ep t hm z1 z2 z3 _ => fin s' hm ⟨L, es, ep, t, z1, z2, z3⟩
/-- set(xs) of a list of ints -/
theorem set_ints {l : Addr} {items : Array Value} {ns : List Int} {Q : Value → Shared → Prop} (nh : A.handled = none) (il : s.heap.IsList l items) (hit : IntsAre items.toList ns) (hb : ns.length < 1000)
    (k : ∀ (h' : Heap) (tk c : Nat), SetR w h' s.heap.objs.size (fun j => decide (j ∈ ns)) c → c ≤ ns.length → (∀ b o, s.heap.get? b = some o → h'.get? b = some o) → Q (.ref s.heap.objs.size) { s with heap := h', toks := tk }) :
    wpAny (model P w) A (call (.type "set") [.ref l]) Q E s := by
  have ll : l < s.heap.objs.size := (fun ⟨_, q, _⟩ => Heap.lt_size q) il
  have hsz : items.size = ns.length := by have := hit.length; rw [Array.length_toList] at this; exact this
  refine set_of_list (Z := fun h' => ∃ c, SetR w h' s.heap.objs.size (fun j => decide (j ∈ ns)) c ∧ c ≤ ns.length) nh il (fun B J s0 R nB uB eJ e0 fin => ?_) fun h' tk ⟨c, z1, z2⟩ kp => k h' tk c z1 z2 kp
  subst eJ e0
  have sz : (s.heap.push (fsO w)).objs.size = s.heap.objs.size + 1 := Heap.size_push ..
  have eI := Heap.get?_push_size (s.heap.push (fsO w)) (o := lsI l) rfl
  rw [sz] at eI
  have eS : ((s.heap.push (fsO w)).push (lsI l)).get? s.heap.objs.size = some (fsO w) := Heap.get?_push_of_some _ (Heap.get?_push_size _ rfl)
  have keep : ∀ b o, s.heap.get? b = some o → ((s.heap.push (fsO w)).push (lsI l)).get? b = some o := fun b o e => Heap.get?_push_of_some _ (Heap.get?_push_of_some _ e)
  refine set_update_ints ((Walks.list (prog := P) (w := w) nB (s.heap.objs.size + 1) l (Nat.ne_of_lt (Nat.lt_succ_of_lt ll)) items).toS) s.heap.objs.size (fun z => ?_) ns hsz (by unfold scanBound; omega) (fun i v hv => ?_) _ 0 _ rfl (Nat.zero_le _)
    ⟨⟨_, eI, rfl, rfl⟩, il.at fun o e => keep _ o e⟩ ⟨0, Nat.le_refl _, setR_new_at eS⟩ fun s' c hm hc hS => fin s' hm ⟨c, hS, by omega⟩
  · rcases List.mem_cons.mp z with q | q
    · exact absurd q (Nat.ne_of_lt (Nat.lt_succ_self _))
    · exact absurd (List.mem_singleton.mp q) (Nat.ne_of_gt ll)
  · have hv : items[i]? = some v := hv
    have hi : i < ns.length := by rw [← hsz]; exact (Array.getElem?_eq_some_iff.mp hv).1
    obtain ⟨t, e⟩ := PyProof.Rows.IntsAre.int_at hit i v (by rw [Array.getElem?_toList]; exact hv)
    exact ⟨ns[i], t, List.getElem?_eq_getElem hi, by rw [e, List.getD_eq_getElem?_getD, List.getElem?_eq_getElem hi]; rfl⟩
end
end KF
set_option Elab.async false
set_option linter.all false
set_option maxRecDepth 100000
set_option maxHeartbeats 4000000
/-! KF, part M: sorted(set(xs)): the rule. -/
namespace KF
open PySem PySem.Spec PyProof.Rows L2
open PySem.W (dataLt dataLe alike alikeAll EachIs sortingHeap sortingHeap_old)
section
variable {P : Program} {w : World} {A : Around} {E : Value → Shared → Prop} {s : Shared}
theorem each_perm {α β : Type} {R : α → β → Prop} {vs vs' : List α} (p : vs'.Perm vs) : ∀ {bs : List β}, EachIs R vs bs → ∃ bs', bs'.Perm bs ∧ EachIs R vs' bs' := by
  induction p with
  | nil => intro bs e; exact ⟨bs, List.Perm.refl _, e⟩
  | cons x _ ih =>
    intro bs e
    cases e with
    | cons r t => obtain ⟨b', q1, q2⟩ := ih t; exact ⟨_ :: b', q1.cons _, .cons r q2⟩
  | swap x y l =>
    intro bs e
    cases e with
    | cons r1 t =>
      cases t with
      | cons r2 t2 => exact ⟨_, List.Perm.swap _ _ _, .cons r2 (.cons r1 t2)⟩
  | trans _ _ ih1 ih2 =>
    intro bs e
    obtain ⟨b1, q1, q2⟩ := ih2 e
    obtain ⟨b2, q3, q4⟩ := ih1 q2
    exact ⟨b2, q3.trans q1, q4⟩
theorem isT_reads {h : Heap} {k : List Int} {b : Addr} (x : IsT P w h k b) : ∃ as, Reads h (.ref b) (tI k) as := by
  obtain ⟨o, items, n, ho, hc, hd, hi⟩ := x
  have key : ∀ {k : List Int} {vs : List Value}, IntsAre vs k → ∃ as, ReadsAll h vs (k.map .int) as := by
    intro k vs q
    induction q with
    | nil => exact ⟨_, .nil⟩
    | cons i t _ ih => obtain ⟨as, z⟩ := ih; exact ⟨_, .cons (.int _ _) z⟩
  obtain ⟨as, q⟩ := key (ints_of_items hi)
  exact ⟨as, .tuple ho hc hd q⟩
theorem alike_tI (a b : List Int) : alike (tI a) (tI b) = true := by
  unfold tI
  rw [alike]
  exact PySem.W.alike_ints a b
theorem depth_tI (a : List Int) : (tI a).depth ≤ 1 := by
  unfold tI
  rw [PyData.depth, PySem.W.depth_ints]
  decide
/-- sorted(set), a set of tuples -/
theorem sort_setT {a : Addr} {L : Rows} {es : Array (Int × Value)} {ep : Nat} {t : SetTable} {Q : Value → Shared → Prop} (R : SetTR P w s.heap a L es ep t) (nh : A.handled = none) (hu : A.units + 10 < cLine) (ne : ∀ p ∈ L, p.2 ≠ [])
    (hQ : ∀ s' p (out : Array Value) (c : Nat), (∀ b o, s.heap.get? b = some o → s'.heap.get? b = some o) → s'.gens = s.gens → s'.os = s.os → s.heap.objs.size ≤ p → s'.heap.get? p = some (seqObj "list" out c) →
      EachIs (fun v d => ∃ q ∈ L, v = Value.ref q.1 ∧ d = tI q.2) out.toList ((ssU ltIs (L.map (·.2))).map tI) → Q (.ref p) s') : wpAny (model P w) A (call (.builtin "sorted") [.ref a]) Q E s := by
  obtain ⟨o, ho, hex, hd⟩ := R.ob
  have hsz := R.size
  have hfew := R.few
  refine Calls.call_function_entry kind_sorted plain_sorted entry_sorted (args_sorted1 _) ?_
  unfold Builtin.«sorted»
  refine wpAny_bind (m := checkCount "sorted" 1 1 _) (wpAny_pure (wpAny_bind (collect_set (A := A.in1) nh ⟨o, ho, hex.1, hd⟩ R.fits (by unfold scanBound; omega) R.tab.ris R.led fun s1 vs k1 hz g1 o1 pm => ?_)))
  have hes : es.toList.map (·.2) = L.map fun q => Value.ref q.1 := by
    rw [R.rows]
    unfold rowsOf
    rw [List.map_map]; rfl
  rw [hes] at pm
  have e0 : EachIs (fun v d => ∃ q ∈ L, v = Value.ref q.1 ∧ d = tI q.2) (L.map fun q => Value.ref q.1) (L.map fun q => tI q.2) := by
    have key : ∀ l : Rows, (∀ q ∈ l, q ∈ L) → EachIs (fun v d => ∃ q ∈ L, v = Value.ref q.1 ∧ d = tI q.2) (l.map fun q => Value.ref q.1) (l.map fun q => tI q.2) := by
      intro l
      induction l with
      | nil => intro _; exact .nil
      | cons q r ih => intro z; exact .cons ⟨q, z q List.mem_cons_self, rfl, rfl⟩ (ih fun x hx => z x (List.mem_cons_of_mem _ hx))
    exact key L fun _ z => z
  obtain ⟨ds, pd, e1⟩ := each_perm pm e0
  have hvl : vs.length = L.length := by rw [pm.length_eq, List.length_map]
  have hdl : ds.length = L.length := by rw [pd.length_eq, List.length_map]
  refine wpAny_bind (wpAny_newList ?_ (by rw [hvl, sizeLine_eq]; omega))
  have hoL : (s1.heap.push (seqObj "list" vs.toArray 0)).get? s1.heap.objs.size = some (seqObj "list" vs.toArray 0) := Heap.get?_push_size _ rfl
  have er : EachIs (fun v d => ∃ as, Reads (sortingHeap (s1.heap.push (seqObj "list" vs.toArray 0)) s1.heap.objs.size vs) v d as) vs ds := e1.mono fun v d ⟨q, hq, z1, z2⟩ => by
    obtain ⟨as, r⟩ := isT_reads (R.tup q hq)
    rw [z1, z2]
    exact ⟨as, PyProof.Rows.Reads.keeps (fun b o z => by
      have z := k1 b o z
      exact sortingHeap_old (Nat.ne_of_lt (Heap.lt_size z)) (Heap.get?_push_of_some _ z)) r⟩
  have dm : ∀ d ∈ ds, ∃ q ∈ L, d = tI q.2 := fun d hd' => by
    obtain ⟨q, hq, e⟩ := List.mem_map.mp (pd.mem_iff.mp hd')
    exact ⟨q, hq, e.symm⟩
  have hal : PySem.W.AllAlike ds := fun d h1 d' h2 => by
    obtain ⟨q, _, rfl⟩ := dm d h1
    obtain ⟨q', _, rfl⟩ := dm d' h2
    exact alike_tI _ _
  have hk : PySem.W.Sortable ds := .inl fun d h1 => by
    obtain ⟨q, hq, rfl⟩ := dm d h1
    cases e : q.2 with
    | nil => exact absurd e (ne q hq)
    | cons x r => exact ⟨.int x, r.map .int, rfl⟩
  refine wpAny_bind (wpAny_holding (wpAny_call_entry slot_list_sort ⟨_, hoL, rfl⟩ entry_list_sort (PySem.W.list_sort_vals (s := { s1 with heap := s1.heap.push (seqObj "list" vs.toArray 0) }) hoL (PySem.W.SortsAt.data (s := { s1 with heap := sortingHeap (s1.heap.push (seqObj "list" vs.toArray 0)) s1.heap.objs.size vs }) er hal hk fun d h1 => ?_) (by rw [hvl, sizeLine_eq]; omega) ⟨.none, rfl, ?_⟩) (args_list_sort _)))
  · obtain ⟨q, _, rfl⟩ := dm d h1
    have := depth_tI q.2
    show A.units + 1 + 1 + (tI q.2).depth < cLine
    omega
  · have em : ds.map (fun x => x) = ds := List.map_id _
    have eo := PySem.W.sortVals_data (enc := fun x : PyData => x) false e1 er (by rw [em]; exact hal)
    rw [em, ← sortD_eq] at eo
    have eT : sortD ds = (ssU ltIs (L.map (·.2))).map tI := by
      refine sortD_of ?_ ?_ lt_asymm
      · refine List.Perm.trans ?_ pd.symm
        have : (L.map fun q => tI q.2) = (L.map (·.2)).map tI := by rw [List.map_map]; rfl
        rw [this]
        exact ((List.perm_ext_iff_of_nodup (pw_nodup lin_Is (ssU_pw lin_Is)) R.nd).mpr fun z => ssU_mem lin_Is).map tI
      · rw [List.pairwise_map]
        exact (ssU_pw lin_Is).imp fun h => by rw [lt_tI]; exact h
    rw [eT] at eo
    obtain ⟨c, hc⟩ := sortedHeap_at (vs := vs) (out := (PySem.W.sortVals (PySem.W.dataKind (sortingHeap (s1.heap.push (seqObj "list" vs.toArray 0)) s1.heap.objs.size vs) ds) false vs vs).toArray) hoL
    refine wpAny_pure ⟨_, rfl, hQ _ s1.heap.objs.size _ c (fun b u e => ?_) g1 o1 hz hc (by simpa using eo)⟩
    have q := k1 b u e
    have hlt := Heap.lt_size q
    exact (sortedHeap_old (Nat.ne_of_lt hlt) (by rw [size_push']; exact Nat.lt_succ_of_lt hlt)).trans (Heap.get?_push_of_some _ q)
end
end KF
set_option Elab.async false
set_option linter.all false
set_option maxRecDepth 100000
set_option maxHeartbeats 4000000
/-! KF, part P: sorted(set(xs)): the meaning. -/
namespace KF
open PySem PySem.Spec PyProof.Rows L2
open PySem.W (EachIs)
theorem nodup_len {α : Type} [DecidableEq α] : ∀ (l D : List α), l.Nodup → (∀ x ∈ l, x ∈ D) → l.length ≤ D.length
  | [], _, _, _ => Nat.zero_le _
  | x :: l, D, hn, hs => by
    obtain ⟨h1, h2⟩ := List.nodup_cons.mp hn
    have hx : x ∈ D := hs x List.mem_cons_self
    have ih := nodup_len l (D.erase x) h2 fun y hy => by
      have hne : y ≠ x := fun e => h1 (e ▸ hy)
      exact (List.mem_erase_of_ne hne).2 (hs y (List.mem_cons_of_mem _ hy))
    have e := List.length_erase_of_mem hx
    have hp : 0 < D.length := List.length_pos_of_mem hx
    rw [List.length_cons]
    omega
/-- tuples of ints -/
def tupsOf : List PyData → Option (List (List Int))
  | [] => some []
  | .tuple xs :: r => (intsOf xs).bind fun ns => (tupsOf r).bind fun nss => some (ns :: nss)
  | _ :: _ => none
theorem tupsOf_ok : ∀ {ds : List PyData} {ks : List (List Int)}, tupsOf ds = some ks → ds = ks.map tI
  | [], ks, h => by cases h; rfl
  | .tuple xs :: r, ks, h => by
    have h : (intsOf xs).bind (fun ns => (tupsOf r).bind fun nss => some (ns :: nss)) = some ks := h
    cases q : intsOf xs with
    | none => rw [q] at h; cases h
    | some ns =>
      rw [q] at h
      have h : (tupsOf r).bind (fun nss => some (ns :: nss)) = some ks := h
      cases q2 : tupsOf r with
      | none => rw [q2] at h; cases h
      | some nss =>
        rw [q2] at h
        cases h
        rw [intsOf_ok q, tupsOf_ok q2]
        rfl
  | .none :: _, _, h => by cases h
  | .bool _ :: _, _, h => by cases h
  | .int _ :: _, _, h => by cases h
  | .str _ :: _, _, h => by cases h
  | .list _ :: _, _, h => by cases h
  | .dict _ :: _, _, h => by cases h
def nonE : List Int → Bool
  | [] => false
  | _ => true
def ssP (xs : List PyData) : Option (List PyData) := match intsOf xs with
  | some ns => if Nat.blt ns.length 64 = true then some ((ssU ltI ns).map .int) else none
  | none => match tupsOf xs with
    | some ks => if (Nat.blt (ssU ltIs ks).length 63 && ks.all nonE) = true then some ((ssU ltIs ks).map tI) else none
    | none => none
def ssT (xs : List PyData) : Option (List PyData) := match intsOf xs with
  | some ns => if Nat.blt ns.length 64 = true then some ((ssU ltI ns).map .int) else none
  | none => none
def ssO : MH → D → Option D := fun h d => match d with
  | .py (.tuple xs) => (ssT xs).map fun ys => .py (.list ys)
  | d => (listOf h d).bind fun xs => (ssP xs).map fun ys => .py (.list ys)
def tSset (K : PySem.W.Frag) (ta : TE) : TE := fun σ H Q => ta σ H fun x H1 => ∃ l, x = V.ref l ∧ ((∃ ns : List Int, (SqL K H1 l (ns.map V.int) ∨ SqT K H1 l (ns.map V.int)) ∧ ns.length < 64 ∧ ∀ p, H1 p = none → Q (.ref p) (upd H1 p (.lst ((ssU ltI ns).map V.int)))) ∨
  ∃ ks : Rows, SqL K H1 l (ks.map fun p => V.ref p.1) ∧ (∀ p ∈ ks, SqT K H1 p.1 (p.2.map V.int)) ∧ (ssU ltIs (ks.map (·.2))).length < 63 ∧ (∀ p ∈ ks, p.2 ≠ []) ∧
    ∀ p us, H1 p = none → EachIs (fun v d => ∃ q ∈ ks, v = V.ref q.1 ∧ d = tI q.2) us ((ssU ltIs (ks.map (·.2))).map tI) → Q (.ref p) (upd H1 p (.lst us)))
section
variable {X : Cx} {M : MK} {W : WX}
theorem ints_vals : ∀ {us : List Value} {ns : List Int}, IntsAre us ns → Vals (ns.map V.int) us
  | _, _, .nil => .nil
  | _, _, .cons i t r => .cons ⟨_, rfl⟩ (ints_vals r)
theorem pe_sset {a : Expr} {ta : TE} {p p2 q pos : Pos} (hc : X.calm = true) (hu : X.A.units + 70 < cLine) (hg : Gl X "sorted") (hm : X.mg "sorted" = none) (hg2 : Gl X "set") (hm2 : X.mg "set" = none) (ha : PE X a ta)
    (na : starEach [a] X.env = (false, eval a X.env) :: starEach [] X.env) : PE X (.Call (.Name "sorted" p) [.Call (.Name "set" p2) [a] [] q] [] pos) (tSset X.K ta) := by
  refine ⟨fun pins s σ H Q I h => Call_ (ld_blt I hg hm PyProof.Rows.boot_sorted ?_)⟩
  refine PyProof.Rows.callWith_builtin1 (PyProof.Rows.args_cons (Call_ (ld_blt I hg2 hm2 PyProof.Rows.boot_set ?_)) rfl) rfl rfl
  refine PyProof.Rows.callWith_type1 (PyProof.Rows.args_cons (thn (ha.run pins s σ H _ I h) fun v s1 ⟨x, H1, I1, r1, q1⟩ => PyProof.Rows.args_nil ?_) na) na rfl
  obtain ⟨l, ex, q1⟩ := q1
  subst ex
  cases r1
  rcases q1 with ⟨ns, hs, hl, q1⟩ | ⟨ks, hs, hk, hl, hne, q1⟩
  · have fin : ∀ (h' : Heap) (tk c : Nat), SetR X.w h' s1.heap.objs.size (fun j => decide (j ∈ ns)) c → c ≤ ns.length → (∀ b o, s1.heap.get? b = some o → h'.get? b = some o) →
        wpAny (model X.prog X.w) X.A (call (.builtin "sorted") [.ref s1.heap.objs.size]) (fun v s' => ∃ x H', Inv X pins σ H' s' ∧ RelV x v ∧ Q x H') X.xe { s1 with heap := h', toks := tk } := by
      intro h' tk c R hc' kp
      have I2 : Inv X pins σ H1 { s1 with heap := h', toks := tk } := I1.kept (t' := tk) kp
      have R : SetR X.w ({ s1 with heap := h', toks := tk } : Shared).heap s1.heap.objs.size (fun j => decide (j ∈ ns)) c := R
      generalize ({ s1 with heap := h', toks := tk } : Shared) = s2 at I2 R ⊢
      refine sorted_set (s := s2) R (I1.ok.hd hc) (by omega) fun s' p out c' ns' k g o hp hg' hi pw hm' hn => ?_
      have e : ns' = ssU ltI ns := pw_uniq lin_I (pw.imp fun h => by simpa [ltI] using h) (ssU_pw lin_I) fun z => by rw [hm' z, ssU_mem lin_I]; simp
      subst e
      have hle : (ssU ltI ns).length < 64 := by rw [hn]; omega
      have hlen : ((ssU ltI ns).map V.int).length ≤ sizeLine := by rw [List.length_map, sizeLine_eq]; omega
      have J : Inv X pins σ (upd H1 p (.lst ((ssU ltI ns).map V.int))) { s2 with heap := s'.heap, gens := s'.gens, drawn := s'.drawn, toks := s'.toks } :=
        I2.call (ch := []) (Un.laid k hp (I2.hok.fresh hp)) (I2.hok.laid k hp ⟨hlen, out.toList, c', ints_vals hi, hg'⟩) (by rw [g]; exact I2.bare) (fun _ z => nomatch z)
      have e' : s' = { s2 with heap := s'.heap, gens := s'.gens, drawn := s'.drawn, toks := s'.toks } := by
        cases s'
        cases s2
        cases o
        rfl
      rw [e']
      exact ⟨.ref p, _, J, rfl, q1 p (I2.hok.fresh hp)⟩
    rcases hs with hs | hs
    · obtain ⟨its, r, pl, _⟩ := I1.list hs
      exact set_ints (I1.ok.hd hc) pl.isList (by simpa using r.ints) (by omega) fun h' tk c R hc' kp => PyProof.Rows.args_nil (fin h' tk c R hc' kp)
    · obtain ⟨its, r, pl, _⟩ := I1.tuple hs
      exact call_set_tupI ns (I1.ok.hd hc) pl (by simpa using r.ints) (by unfold scanBound; omega) fun h' tk c R hc' kp => PyProof.Rows.args_nil (fin h' tk c R hc' kp)
  · obtain ⟨its, r, pl, _⟩ := I1.list hs
    refine set_tups (ks := ks) (I1.ok.hd hc) pl.isList (by simpa using refs_of_vals r) (fun p hp => I1.isT (hk p hp)) (fun L h1 h2 => ?_) (by omega) fun h' tk L es ep t R h1 h2 kp => PyProof.Rows.args_nil ?_
    · have := nodup_len (L.map (·.2)) (ssU ltIs (ks.map (·.2))) h1 fun z hz => by
        obtain ⟨p, hp, rfl⟩ := List.mem_map.mp hz
        exact (ssU_mem lin_Is).mpr (List.mem_map.mpr ⟨p, h2 p hp, rfl⟩)
      rw [List.length_map] at this
      omega
    · have I2 : Inv X pins σ H1 { s1 with heap := h', toks := tk } := I1.kept (t' := tk) kp
      have R : SetTR X.prog X.w ({ s1 with heap := h', toks := tk } : Shared).heap s1.heap.objs.size L es ep t := R
      generalize ({ s1 with heap := h', toks := tk } : Shared) = s2 at I2 R ⊢
      refine sort_setT (s := s2) R (I1.ok.hd hc) (by omega) (fun p hp => hne p (h1 p hp)) fun s' p out c' k g o hp hg' he => ?_
      have e : ssU ltIs (L.map (·.2)) = ssU ltIs (ks.map (·.2)) := pw_uniq lin_Is (ssU_pw lin_Is) (ssU_pw lin_Is) fun z => by
        rw [ssU_mem lin_Is, ssU_mem lin_Is]
        constructor
        · intro hz
          obtain ⟨p, hp, rfl⟩ := List.mem_map.mp hz
          exact List.mem_map.mpr ⟨p, h1 p hp, rfl⟩
        · intro hz
          obtain ⟨p, hp, rfl⟩ := List.mem_map.mp hz
          exact h2 p hp
      rw [e] at he
      have key : ∀ {us : List Value} {ds : List PyData}, EachIs (fun v d => ∃ q ∈ L, v = Value.ref q.1 ∧ d = tI q.2) us ds → ∃ ws, Vals ws us ∧ EachIs (fun v d => ∃ q ∈ ks, v = V.ref q.1 ∧ d = tI q.2) ws ds := by
        intro us ds z
        induction z with
        | nil => exact ⟨[], .nil, .nil⟩
        | cons r _ ih =>
          obtain ⟨q, hq, e1, e2⟩ := r
          obtain ⟨ws, z1, z2⟩ := ih
          exact ⟨.ref q.1 :: ws, .cons (by rw [e1]; rfl) z1, .cons ⟨q, h1 q hq, rfl, e2⟩ z2⟩
      obtain ⟨ws, v1, v2⟩ := key he
      have hle : ws.length < 63 := by rw [v2.length, List.length_map]; exact hl
      have hlen : ws.length ≤ sizeLine := by rw [sizeLine_eq]; omega
      have J : Inv X pins σ (upd H1 p (.lst ws)) { s2 with heap := s'.heap, gens := s'.gens, drawn := s'.drawn, toks := s'.toks } :=
        I2.call (ch := []) (Un.laid k hp (I2.hok.fresh hp)) (I2.hok.laid k hp ⟨hlen, out.toList, c', v1, hg'⟩) (by rw [g]; exact I2.bare) (fun _ z => nomatch z)
      have e' : s' = { s2 with heap := s'.heap, gens := s'.gens, drawn := s'.drawn, toks := s'.toks } := by
        cases s'
        cases s2
        cases o
        rfl
      rw [e']
      exact ⟨.ref p, _, J, rfl, q1 p ws (I2.hok.fresh hp) v2⟩
theorem rel_tups {K : PySem.W.Frag} {H : Hp} {Z : Addr → Prop} : ∀ {ks : List (List Int)} {vs : List V}, RelPs K H Z (ks.map tI) vs → ∃ rs : Rows, rs.map (·.2) = ks ∧ vs = rs.map (fun p => V.ref p.1) ∧ ∀ p ∈ rs, SqT K H p.1 (p.2.map V.int)
  | [], _, h => by cases h; exact ⟨[], rfl, rfl, fun p hp => by cases hp⟩
  | n :: r, _, h => by
    cases h with
    | cons h1 h2 =>
      obtain ⟨rs, e1, e2, e3⟩ := rel_tups h2
      cases h1 with
      | @tup a us _ q1 q2 =>
        rw [rel_ints q2] at q1
        refine ⟨(a, n) :: rs, by simp [e1], by simp [e2], fun p hp => ?_⟩
        rcases List.mem_cons.mp hp with e | e
        · rw [e]; exact q1
        · exact e3 p e
theorem sqT_rel {K : PySem.W.Frag} {H : Hp} {Z : Addr → Prop} {a : Addr} {ns : List Int} (h : SqT K H a (ns.map V.int)) : RelP K H Z (tI ns) (.ref a) := .tup h (rel_of_ints ns)
where rel_of_ints {K : PySem.W.Frag} {H : Hp} {Z : Addr → Prop} : ∀ ns : List Int, RelPs K H Z (ns.map .int) (ns.map V.int)
  | [] => .nil
  | n :: r => .cons (.int n) (rel_of_ints r)
theorem blt_lt {a b : Nat} (h : Nat.blt a b = true) : a < b := Nat.le_of_ble_eq_true h
theorem k_sset (hK : M.K = X.K) {a : Expr} {fa : EvF D} {p p2 q pos : Pos} (hc : X.calm = true) (hu : X.A.units + 70 < cLine) (hg : Gl X "sorted") (hm : X.mg "sorted" = none) (hg2 : Gl X "set") (hm2 : X.mg "set" = none) (ha : PE X a (kE M .b W fa))
    (na : starEach [a] X.env = (false, eval a X.env) :: starEach [] X.env) : PE X (.Call (.Name "sorted" p) [.Call (.Name "set" p2) [a] [] q] [] pos) (kF M W (sem1 fa ssO)) := by
  refine PE.mono (pe_sset hc hu hg hm hg2 hm2 ha na) fun σ H Q ⟨B, L, A, h, env, g, p⟩ => ?_
  refine tG_bindF g p fun x h1 v H1 L1 e1 x1 g1 r1 p1 => ?_
  cases e : ssO h1 x with
  | none => rw [e] at p1; exact p1.elim
  | some d =>
    rw [e] at p1
    have hInts : ∀ (l : Addr) (us : List V) (xs : List PyData) (ns : List Int) (ys : List PyData), v = V.ref l → (SqL M.K H1 l us ∨ SqT M.K H1 l us) → RelPs M.K H1 (Zf B L1 A) xs us → intsOf xs = some ns → (if Nat.blt ns.length 64 = true then some ((ssU ltI ns).map PyData.int) else none) = some ys → d = .py (.list ys) →
        ∃ l, v = V.ref l ∧ ((∃ ns : List Int, (SqL X.K H1 l (ns.map V.int) ∨ SqT X.K H1 l (ns.map V.int)) ∧ ns.length < 64 ∧ ∀ p, H1 p = none → Q (.ref p) (upd H1 p (.lst ((ssU ltI ns).map V.int)))) ∨
          ∃ ks : Rows, SqL X.K H1 l (ks.map fun p => V.ref p.1) ∧ (∀ p ∈ ks, SqT X.K H1 p.1 (p.2.map V.int)) ∧ (ssU ltIs (ks.map (·.2))).length < 63 ∧ (∀ p ∈ ks, p.2 ≠ []) ∧
            ∀ p us, H1 p = none → EachIs (fun v d => ∃ q ∈ ks, v = V.ref q.1 ∧ d = tI q.2) us ((ssU ltIs (ks.map (·.2))).map tI) → Q (.ref p) (upd H1 p (.lst us))) := by
      intro l us xs ns ys ev hs hr hi hy hd
      split at hy
      · rename_i c
        cases hy
        subst hd
        rw [intsOf_ok hi] at hr
        rw [rel_ints hr] at hs
        exact ⟨l, ev, .inl ⟨ns, hK ▸ hs, blt_lt c, fun p hp => p1.fin g1 hp (sqT_rel.rel_of_ints _)⟩⟩
      · cases hy
    have lst : ∀ (xs ys : List PyData), listOf h1 x = some xs → ssP xs = some ys → d = .py (.list ys) → ∃ l, v = V.ref l ∧ ((∃ ns : List Int, (SqL X.K H1 l (ns.map V.int) ∨ SqT X.K H1 l (ns.map V.int)) ∧ ns.length < 64 ∧ ∀ p, H1 p = none → Q (.ref p) (upd H1 p (.lst ((ssU ltI ns).map V.int)))) ∨
          ∃ ks : Rows, SqL X.K H1 l (ks.map fun p => V.ref p.1) ∧ (∀ p ∈ ks, SqT X.K H1 p.1 (p.2.map V.int)) ∧ (ssU ltIs (ks.map (·.2))).length < 63 ∧ (∀ p ∈ ks, p.2 ≠ []) ∧
            ∀ p us, H1 p = none → EachIs (fun v d => ∃ q ∈ ks, v = V.ref q.1 ∧ d = tI q.2) us ((ssU ltIs (ks.map (·.2))).map tI) → Q (.ref p) (upd H1 p (.lst us))) := by
      intro xs ys q1 q2 hd
      obtain ⟨l, us, ev, h2, h3⟩ := listOf_rel g1 r1 q1
      unfold ssP at q2
      split at q2
      · rename_i ns hi
        exact hInts l us xs ns ys ev (.inl (.inl h2)) h3 hi q2 hd
      · split at q2
        · rename_i ks hk
          split at q2
          · rename_i c
            cases q2
            subst hd
            obtain ⟨c1, c2⟩ := Bool.and_eq_true_iff.mp c
            rw [tupsOf_ok hk] at h3
            obtain ⟨rs, e1, e2, e3⟩ := rel_tups h3
            subst e1 e2
            refine ⟨l, ev, .inr ⟨rs, hK ▸ .inl h2, fun p hp => hK ▸ e3 p hp, blt_lt c1, fun p hp z => ?_, fun p us hp he => p1.fin g1 hp ?_⟩⟩
            · have := List.all_eq_true.mp c2 p.2 (List.mem_map.mpr ⟨p, hp, rfl⟩)
              rw [z] at this
              cases this
            · have key : ∀ {us : List V} {ds : List PyData}, EachIs (fun v d => ∃ q ∈ rs, v = V.ref q.1 ∧ d = tI q.2) us ds → RelPs M.K H1 (Zf B L1 A) ds us := by
                intro us ds z
                induction z with
                | nil => exact .nil
                | cons r _ ih =>
                  obtain ⟨q, hq, z1, z2⟩ := r
                  rw [z1, z2]
                  exact .cons (sqT_rel (e3 q hq)) ih
              exact key he
          · cases q2
        · cases q2
    unfold ssO at e
    split at e
    · rename_i xs
      cases q2 : ssT xs with
      | none => rw [q2] at e; cases e
      | some ys =>
        rw [q2] at e
        cases e
        unfold ssT at q2
        split at q2
        · rename_i ns hi
          rcases r1 with r | ⟨i, a, ps, vs, _, _, z, _, _⟩
          · cases r with
            | py r =>
              cases r with
              | @tup a us _ h2 h3 => exact hInts a us xs ns ys rfl (.inr h2) h3 hi q2 rfl
          · cases z
        · cases q2
    · cases q1 : listOf h1 x with
      | none => rw [q1] at e; cases e
      | some xs =>
        rw [q1] at e
        have e : (ssP xs).map (fun ys => D.py (.list ys)) = some d := e
        cases q2 : ssP xs with
        | none => rw [q2] at e; cases e
        | some ys => rw [q2] at e; cases e; exact lst xs ys q1 q2 rfl
end
end KF
set_option Elab.async false
set_option linter.all false
set_option maxRecDepth 100000
set_option maxHeartbeats 4000000
/-! KF, part Q: xs.index(x). -/
namespace KF
open PySem PySem.Spec PyProof.Rows L2
def fIdx (v : PyData) : Nat → List PyData → Option Nat
  | _, [] => none
  | i, x :: r => if PyData.eqv x v = true then some i else fIdx v (i + 1) r
theorem fIdx_ok {v : PyData} : ∀ {xs : List PyData} {i j : Nat}, fIdx v i xs = some j → ∃ k z, j = i + k ∧ xs[k]? = some z ∧ PyData.eqv z v = true ∧ ∀ (m : Nat) (z' : PyData), m < k → xs[m]? = some z' → PyData.eqv z' v = false
  | [], i, j, h => by cases h
  | x :: r, i, j, h => by
    unfold fIdx at h
    split at h
    · rename_i c
      cases h
      exact ⟨0, x, rfl, rfl, c, fun m _ hm => absurd hm (Nat.not_lt_zero _)⟩
    · rename_i c
      obtain ⟨k, z, e, h1, h2, h3⟩ := fIdx_ok h
      refine ⟨k + 1, z, by omega, by simpa using h1, h2, fun m z' hm hz => ?_⟩
      cases m with
      | zero => simp at hz; subst hz; simpa using c
      | succ m => exact h3 m z' (by omega) (by simpa using hz)
def idxO (h : MH) (x : D) (ds : List D) : Option D := match ds with
  | [.py v] => (listOf h x).bind fun xs => if (shal 60 v && xs.all (shal 60)) = true then (fIdx v 0 xs).map fun j => .py (.int (j : Nat)) else none
  | _ => none
def isLst (h : MH) (x : D) : Bool := (listOf h x).isSome
def semIdx (fa : EvF D) (f : EvF (List D)) : EvF D := fun env h => (fa env h).bind fun x h1 => if isLst h1 x = true then (f env h1).bind fun ds h2 => lift (idxO h2 x ds) h2 else .bad
section
variable {X : Cx} {M : MK} {W : WX}
theorem k_idx (hK : M.K = X.K) (hu : X.A.units + 70 < cLine) {o e : Expr} {fa : EvF D} {f : EvF (List D)} {apos cpos : Pos} (ho : PE X o (kE M .b W fa)) (ha : PA X [e] (kA M .b W f)) (hs : starEach [e] X.env = [(false, eval e X.env)]) (hb : attributeBase o "index" X.env (eval o X.env) = eval o X.env) (hl : (apos.endLine == cpos.line) = true) :
    PE X (.Call (.Attribute o "index" apos) [e] [] cpos) (kE M .n W (semIdx fa f)) := by
  refine PE.mono (pe_bm F.plainAttrs_list PySem.F.slot_list_index PySem.F.type_list_index (mt_indexD (by omega)) ho ha hb (by rw [hs]; rfl) hl hs rfl) fun σ H Q ⟨B, L, A, h, env, g, p⟩ => ?_
  refine tG_bind sm_M g p fun x h1 v H1 L1 e1 x1 g1 r1 p1 => ?_
  split at p1
  · rename_i c
    cases q1 : listOf h1 x with
    | none => unfold isLst at c; rw [q1] at c; cases c
    | some xs1 =>
      obtain ⟨a, vs, rfl, hr, _⟩ := listOf_rel g1 r1 q1
      refine ⟨.inl ⟨rfl, vs, hK ▸ .inl hr⟩, ?_⟩
      refine tG_bind sm_M g1 p1 fun ds h2 us H2 L2 e2 x2 g2 r2 p2 => ?_
      have r1' : RelM M .b B A H2 H2 L2 x (.ref a) := r1.stay x2 fun i a ha => (g1.own i a ha).1
      cases e : idxO h2 x ds with
      | none => rw [e] at p2; exact p2.elim
      | some d =>
        rw [e] at p2
        unfold idxO at e
        split at e
        · rename_i w
          cases q2 : listOf h2 x with
          | none => rw [q2] at e; cases e
          | some xs =>
            rw [q2] at e
            have e : (if (shal 60 w && xs.all (shal 60)) = true then (fIdx w 0 xs).map fun j => D.py (.int (j : Nat)) else none) = some d := e
            split at e
            · rename_i c2
              obtain ⟨c3, c4⟩ := Bool.and_eq_true_iff.mp c2
              cases q3 : fIdx w 0 xs with
              | none => rw [q3] at e; cases e
              | some j =>
                rw [q3] at e
                cases e
                obtain ⟨k, z, ej, z1, z2, z3⟩ := fIdx_ok q3
                obtain rfl : j = k := by omega
                obtain ⟨y, rfl, ry⟩ : ∃ y, us = [y] ∧ RelM M .b B A H2 H2 L2 (.py w) y := by
                  cases r2 with
                  | cons r t => cases t; exact ⟨_, rfl, r⟩
                obtain ⟨a', vs', ea, hr', rel⟩ := listOf_rel g2 r1' q2
                cases ea
                have dep := shal_all rel.lay c4
                refine ⟨a, y, w, xs, j, z, rfl, rfl, hK ▸ .lst (.inl hr') rel.dp, hK ▸ ry.dp, ?_, ?_, z1, z2, z3, p2.fin g2 (Same.refl _) (RelM.ofP (.int _))⟩
                · unfold SeqAt.shaped
                  refine Bool.and_eq_true_iff.mpr ⟨by simp only [PyData.canLay0]; exact rel.lay, decide_eq_true ?_⟩
                  rw [PyData.depth]
                  omega
                · unfold SeqAt.shaped
                  exact Bool.and_eq_true_iff.mpr ⟨ry.lay, decide_eq_true (Nat.le_trans (shal_depth w 60 ry.lay c3) (by decide))⟩
            · cases e
        · cases e
  · exact p1.elim
end
end KF
set_option Elab.async false
set_option linter.all false
set_option maxRecDepth 100000
set_option maxHeartbeats 4000000
/-! KF, part R: raise, try. -/
namespace KF
open PySem PySem.Spec PyProof.Rows L2
section
variable {X : Cx} {M : MK} {W : WX}
/-- C(), an own error over ValueError without an __init__ of its own -/
theorem pmk_own0 {C : Addr} {x : Str} {p pos : Pos} (q : PySem.W.excIn X.K C He.veBase "ValueError.__new__" = true) (gC : X.mg x = some (.ref C)) (kC : PySem.W.keepIn X.K (.ref C) = true) (r : Raises X (.ref C)) (hg : Gl X x) (hdb : (x == ("__debug__" : Str)) = false) :
    PMk X (.Call (.Name x p) [] [] pos) (fun _ H Q => Q (.ref C) none H) := by
  intro pins s σ H Q I h
  refine wpAny_Call_Name_kw (ld_glob I hg gC (PySem.W.callWith_K0 I.kIn kC ?_) hdb)
  show wpAny _ _ (call (.ref C) []) _ _ _
  obtain ⟨bm, N, nm, qn, bs, hdct, sn, sub, ab, col, dd, k0, k1, k2, k3, k5, mN, hC, hN, hni, T⟩ := exc_obj I.kIn q
  obtain ⟨hp, g, d, t, os⟩ := s
  exact wpAny_call_exc_subT F.excBase_ValueError T hC hN hni (fun h' e hm => mk_of I hm r h (I.hok.gone hm.new)) (Nat.zero_le _)
def semRais (c : Nat) : EvS := fun env h => .exc c [] env h
theorem s_rais {c : Nat} {C : Addr} {x : Str} {p pos pos' : Pos} (hc : X.calm = true) (tk : Takes X W) (ec : M.xcls c = .ref C) (q : PySem.W.excIn X.K C He.veBase "ValueError.__new__" = true) (gC : X.mg x = some (.ref C)) (kC : PySem.W.keepIn X.K (.ref C) = true) (r : Raises X (.ref C)) (hg : Gl X x) (hdb : (x == ("__debug__" : Str)) = false) :
    PS X (.Raise (some (.Call (.Name x p) [] [] pos)) none pos') (kS M W (semRais c)) := by
  refine PS.mono (ps_raise hc tk (pmk_own0 q gC kC r hg hdb)) fun De σ H ⟨B, L, A, h, env, g, p⟩ => ?_
  have p : ∀ cls dd σ' H' L' A', Good M B H' L' A' h env σ' → XRel M B A' H' L' c [] cls dd → W cls dd σ' H' := p
  exact p (.ref C) none σ H L A g (ec ▸ .bare c)
/-! ### try .. except C: return constant -/
/-- errors by number, 0 the base of all: is one of a kind with another; only those that are there -/
def subE (ids : List Nat) (a b : Nat) : Option Bool := if (ids.contains a && ids.contains b) = true then some (Nat.beq a b || Nat.beq b 0) else none
def subF (ids : List Nat) (c : Nat) : List (Nat × PyData) → Option (Option PyData)
  | [] => some none
  | (b, d) :: r => match subE ids c b with
    | some true => some (some d)
    | some false => subF ids c r
    | none => none
def tryO (ids : List Nat) (hs : List (Nat × PyData)) (c : Nat) (fs : List D) (env : KF.Env) (h : MH) : OutS := match subF ids c hs with
  | some (some d) => .rt (.py d) h
  | some none => .exc c fs env h
  | none => .bad
def semTry (ids : List Nat) (hs : List (Nat × PyData)) (f : EvS) : EvS := fun env h => match f env h with
  | .exc c fs env' h' => tryO ids hs c fs env' h'
  | o => o
/-- a constant as the layer's value -/
def cV : PyData → Option V
  | .none => some .non
  | .str x => if sOk x = true then some (.str x) else none
  | .int i => some (.int i)
  | .bool b => some (.bl b)
  | _ => none
theorem cV_rel {d : PyData} {v : V} {K : PySem.W.Frag} {H : Hp} {Z : Addr → Prop} (e : cV d = some v) : RelP K H Z d v := by
  cases d with
  | none => cases e; exact .non
  | str x =>
    unfold cV at e
    dsimp only at e
    split at e
    · cases e; exact .str _ (by assumption)
    · cases e
  | int i => cases e; exact .int _
  | bool b => cases e; exact .bl _
  | _ => cases e
/-- the clauses: which errors they name, what they return -/
inductive Cls (X : Cx) (M : MK) : List ExceptHandler → List (Nat × PyData) → Prop
  | nil : Cls X M [] []
  | cons {x : Str} {b : Nat} {d : PyData} {v : V} {e : Expr} {np rp pos : Pos} {hds : List ExceptHandler} {l : List (Nat × PyData)} (hc : Names X x (M.xcls b)) (ed : cV d = some v) (he : ∀ X' : Cx, PE X' e (tC v)) (r : Cls X M hds l) :
      Cls X M (.ExceptHandler (some (.Name x np)) none [.Return (some e) rp] pos :: hds) ((b, d) :: l)
theorem Cls.hds {hds : List ExceptHandler} {l : List (Nat × PyData)} (c : Cls X M hds l) : ∃ ll : List (Value × (Addr → Value → Option Addr → TS)), HdsOk X hds ll ∧
    ∀ (ids : List Nat) (B : Bs) (De : Ends) (ci : Nat) (fs : List D) (env' : KF.Env) (h' : MH), (∀ a b t, subE ids a b = some t → PySem.W.exmOne X.K (M.xcls a) (M.xcls b) = some t) → PostS M B W De (tryO ids l ci fs env' h') →
      ∀ cls dd σ' H' L' A', Good M B H' L' A' h' env' σ' → XRel M B A' H' L' ci fs cls dd → wMany X.K W De ll cls dd σ' H' := by
  induction c with
  | nil => exact ⟨[], .nil, fun ids B De ci fs env' h' _ p cls dd σ' H' L' A' g r => p cls dd σ' H' L' A' g r⟩
  | @cons x b d v e np rp pos hds l hc ed he r ih =>
    obtain ⟨ll, h1, h2⟩ := ih
    refine ⟨(M.xcls b, fun _ _ _ => tRet (tC v)) :: ll, .cons hc (fun a oe cls d' pn _ _ => pss_one (ps_ret (he _))) h1, fun ids B De ci fs env' h' hm p cls dd σ' H' L' A' g r => ?_⟩
    have ec : cls = M.xcls ci := by cases r <;> rfl
    unfold tryO subF at p
    cases q : subE ids ci b with
    | none => rw [q] at p; exact p.elim
    | some t =>
      rw [q] at p
      refine ⟨t, ec ▸ hm ci b t q, fun eb a _ => ?_, fun eb => h2 ids B De ci fs env' h' hm ?_ cls dd σ' H' L' A' g r⟩
      · subst eb
        exact p v H' L' A' env' σ' g (.py (cV_rel ed))
      · subst eb
        exact p
theorem s_try {body : List Stmt} {h0 : ExceptHandler} {hds : List ExceptHandler} {l : List (Nat × PyData)} {f : EvS} {pos : Pos} {ids : List Nat} (hs : X.stack = X.env :: X.outer) (hf : X.env.frame = some X.env.locals) (tk : Takes X W)
    (hb : ∀ (W' : WX) (pn : List (Addr × Obj)) (xe : Value → Shared → Prop), Takes (X.tr pn xe) W' → PassesOwn (model X.prog X.w) X.A X.env xe → PSs (X.tr pn xe) body (kS M W' f)) (c : Cls X M (h0 :: hds) l) (hm : ∀ a b t, subE ids a b = some t → PySem.W.exmOne X.K (M.xcls a) (M.xcls b) = some t) :
    PS X (.Try body (h0 :: hds) [] [] pos) (kS M W (semTry ids l f)) := by
  obtain ⟨ll, h1, h2⟩ := Cls.hds (W := W) c
  refine PS.mono (ps_try_many (tb := fun W' => kS M W' f) hs hf tk hb h1) fun De σ H ⟨B, L, A, h, env, g, p⟩ => ⟨B, L, A, h, env, g, ?_⟩
  unfold semTry at p
  cases e : f env h with
  | nx env' h' => rw [e] at p; exact p
  | rt d h' => rw [e] at p; exact p
  | bad => rw [e] at p; exact p
  | exc c fs env' h' =>
    rw [e] at p
    exact h2 ids B De c fs env' h' hm p
end
end KF
set_option Elab.async false
set_option linter.all false
set_option maxRecDepth 100000
set_option maxHeartbeats 4000000
/-! KF, part T: own classes: instances at places, their fields, methods, properties; new ones. -/
namespace KF
open PySem PySem.Spec PyProof.Rows L2
/-! ### rules that let errors out at the slots as they are -/
section
variable {X : Cx} {CX : CXT} {k : Nat} {f C : Addr} {fd : FuncData} {ps : List Str} {sp : Sp} {E : L2.St → XK} {x m : Str} {p pos apos : Pos} {e o : Expr} {es : List Expr} {ta : TE} {t : TA}
theorem pe_callS0 (F : FnOk X.prog X.w X.K X.mg X.base CX k f fd ps sp) (hr : Room k X.A) (hg : Gl X x) (hm : X.mg x = some (.ref f)) (hk : PySem.W.keepIn X.K (.ref f) = true) (hb : Binds X.K fd ps []) (hx : ∀ σ, PassesAt CX X σ (E σ))
    (hdb : (x == ("__debug__" : Str)) = false) : PE X (.Call (.Name x p) [] [] pos) (tCallS sp E tNil) := by
  refine ⟨fun pins s σ H Q I h => ?_⟩
  refine wpAny_Call_Name_kw (ld_glob I hg hm ?_ hdb)
  exact PySem.W.callWith_K0 I.kIn hk (run_fnS (us := []) F hr hb (hx σ) I .nil h)
/-- the form of a call of a method, the receiver any -/
theorem meth_form {args : List Expr} {env : PySem.Env} (hb : attributeBase o m env (eval o env) = eval o env) (hf : methodCallForm (args.length + ([] : List Keyword).length) (backTo pos (starEach args env)) (backToKw pos (keywordEach [] env)) = true) (hl : (apos.endLine == pos.line) = true) :
    eval (.Call (.Attribute o m apos) args [] pos) env = (do
      let ov ← eval o env
      standAt apos.atName
      let (f, first) ← holding [ov] (getMethod ov m (do return (← importBound o env).getD true))
      callWith pos f first (backTo pos (starEach args env)) (backToKw pos (keywordEach [] env))) := by
  show (do
    let ov ← attributeBase o m env (eval o env)
    standAt apos.atName
    methodCall o m apos pos env ov (args.length + ([] : List Keyword).length) (backTo pos (starEach args env)) (backToKw pos (keywordEach [] env))) = _
  rw [hb]
  unfold methodCall calleeOf methodCallPos
  rw [hf, hl]
  rfl
def tMethE (C : Addr) (m : Str) (sp : Sp) (E : L2.St → XK) (ta : TE) (t : TA) : TE := fun σ H Q => ta σ H fun x H1 => ∃ a dx fs, x = .ref a ∧ H1 a = some (.ins C dx fs) ∧ fs.lookup m = none ∧ t σ H1 fun vs H2 => sp (x :: vs) H2 Q (E σ)
theorem pe_methE (he : PE X o ta) (c : L2.Cls X.K C) (hm : Meth X.K C m f) (F : FnOk X.prog X.w X.K X.mg X.base CX k f fd ps sp) (hr : Room k X.A) (hb : Binds X.K fd ps []) (hx : ∀ σ, PassesAt CX X σ (E σ)) (ha : PA X (e :: es) t)
    (hst : starEach (e :: es) X.env = (false, eval e X.env) :: starEach es X.env) (hpl : (backTo pos (starEach es X.env)).any (·.1) = false)
    (ab : attributeBase o m X.env (eval o X.env) = eval o X.env) (hf : methodCallForm ((e :: es).length + ([] : List Keyword).length) (backTo pos (starEach (e :: es) X.env)) (backToKw pos (keywordEach [] X.env)) = true) (hl : (apos.endLine == pos.line) = true) :
    PE X (.Call (.Attribute o m apos) (e :: es) [] pos) (tMethE C m sp E ta t) := by
  refine ⟨fun pins s σ H Q I h => ?_⟩
  refine PySem.W.methodCall_KW (thn (he.run pins s σ H _ I h) fun u s1 ⟨x, H1, I1, rx, a, dx, fs, ex, ea, l, q⟩ => ?_) (meth_form ab hf hl)
  subst ex
  obtain rfl : u = Value.ref a := rx
  refine getmeth_ok I1 ea c hm l ?_
  refine PySem.W.callWith_K (first := [.ref a]) (h₀ := X.base) I.ok.mod.kin hm.kp (thn (ha.run pos pins s1 σ H1 _ I1 q) fun us s2 ⟨vs, H2, I2, r, q2⟩ => ⟨I2.kIn, ?_⟩) hst hpl
  exact run_fnS (us := .ref a :: us) (vs := .ref a :: vs) F hr hb (hx σ) I2 (.cons rfl r) q2
theorem pe_methE0 (he : PE X o ta) (c : L2.Cls X.K C) (hm : Meth X.K C m f) (F : FnOk X.prog X.w X.K X.mg X.base CX k f fd ps sp) (hr : Room k X.A) (hb : Binds X.K fd ps []) (hx : ∀ σ, PassesAt CX X σ (E σ))
    (ab : attributeBase o m X.env (eval o X.env) = eval o X.env) (hl : (apos.endLine == pos.line) = true) :
    PE X (.Call (.Attribute o m apos) [] [] pos) (tMethE C m sp E ta tNil) := by
  refine ⟨fun pins s σ H Q I h => ?_⟩
  refine PySem.W.methodCall_KW (thn (he.run pins s σ H _ I h) fun u s1 ⟨x, H1, I1, rx, a, dx, fs, ex, ea, l, q⟩ => ?_) (meth_form ab rfl hl)
  subst ex
  obtain rfl : u = Value.ref a := rx
  refine getmeth_ok I1 ea c hm l ?_
  exact PySem.W.callWith_K0 (first := [.ref a]) I1.kIn hm.kp (run_fnS (us := [.ref a]) (vs := [.ref a]) F hr hb (hx σ) I1 (.cons rfl .nil) q)
theorem run_makeE {pins : List (Addr × Obj)} {σ : L2.St} {H : Hp} {s : Shared} {Q : VK} {us : List Value} {vs : List V} (M : Mk X.K C f) (F : FnOk X.prog X.w X.K X.mg X.base CX k f fd ps sp) (hr : Room (k + 1) X.A) (hb : Binds X.K fd ps [])
    (hx : ∀ σ, PassesAt CX X σ (E σ)) (I : Inv X pins σ H s) (r : Vals vs us)
    (h : ∀ x dx, H x = none → H dx = none → dx ≠ x → sp (.ref x :: vs) (upd (upd H dx (.own x)) x (.ins C dx [])) (fun v H2 => v = .non ∧ Q (.ref x) H2) (E σ)) :
    wpAny (model X.prog X.w) X.A (call (.ref C) us) (EP X pins σ Q) X.xe s := by
  have hq := h (s.heap.objs.size + 1) s.heap.objs.size (I.hok.fresh (Nat.le_succ _)) (I.hok.fresh (Nat.le_refl _)) (Nat.ne_of_lt (Nat.lt_succ_self _))
  have I2 := Inv.made (C := C) I
  have r2 : Vals (V.ref (s.heap.objs.size + 1) :: vs) (Value.ref (s.heap.objs.size + 1) :: us) := .cons rfl r
  have hl : (Value.ref (s.heap.objs.size + 1) :: us).length = ps.length := by
    have e := r2.length
    rw [F.len _ _ _ _ hq] at e
    exact e.symm
  have b := hb { s with heap := (s.heap.push PySem.W.emptyDict).push (PySem.W.instObj C s.heap.objs.size) } (Value.ref (s.heap.objs.size + 1) :: us) I2.kIn (by rw [List.append_nil]; exact hl)
  rw [List.append_nil] at b
  refine wpAny_call (make_map (f := f) I.kIn M.makes M.init (beq_iff_eq.mp M.fn) (codeAny_mono (F.run _ X.stack _ _ ⟨Value.ref (s.heap.objs.size + 1) :: us, []⟩ (Value.ref (s.heap.objs.size + 1) :: us) _ _ (E σ) (hr.make C us [])
    (I2.env0.make C us []) b r2 hq) fun r s' hq' => ?_))
  cases r with
  | error e => exact hx σ pins _ _ e s' I2 hq'
  | ok fl =>
    cases fl with
    | ret u =>
      obtain ⟨v, H', I3, rv, ev, q3⟩ := I2.after hq'
      subst ev
      exact ⟨rv, ⟨V.ref (s.heap.objs.size + 1), H', I3, rfl, q3⟩⟩
    | next => exact False.elim hq'
    | brk => exact False.elim hq'
    | cont => exact False.elim hq'
def tMakeE (C : Addr) (sp : Sp) (E : L2.St → XK) (t : TA) : TE := fun σ H Q => t σ H fun vs H1 => ∀ x dx, H1 x = none → H1 dx = none → dx ≠ x →
  sp (.ref x :: vs) (upd (upd H1 dx (.own x)) x (.ins C dx [])) (fun v H2 => v = .non ∧ Q (.ref x) H2) (E σ)
theorem pe_makeE (M : Mk X.K C f) (F : FnOk X.prog X.w X.K X.mg X.base CX k f fd ps sp) (hr : Room (k + 1) X.A) (hg : Gl X x) (hm : X.mg x = some (.ref C)) (hb : Binds X.K fd ps []) (hx : ∀ σ, PassesAt CX X σ (E σ))
    (ha : PA X (e :: es) t) (hdb : (x == ("__debug__" : Str)) = false) (he : starEach (e :: es) X.env = (false, eval e X.env) :: starEach es X.env) (hpl : (backTo pos (starEach es X.env)).any (·.1) = false) :
    PE X (.Call (.Name x p) (e :: es) [] pos) (tMakeE C sp E t) := by
  refine ⟨fun pins s σ H Q I h => ?_⟩
  refine wpAny_Call_Name_kw (ld_glob I hg hm ?_ hdb)
  refine PySem.W.callWith_K (h₀ := X.base) I.ok.mod.kin M.kp (thn (ha.run pos pins s σ H _ I h) fun us s1 ⟨vs, H1, I1, r, q⟩ => ⟨I1.kIn, ?_⟩) he hpl
  exact run_makeE M F hr hb hx I1 r q
end
/-! ### by value -/
section
variable {X : Cx} {M : MK} {W : WX}
theorem k_call0 {k : Nat} {fa : Addr} {fd : FuncData} {ps : List Str} {fc : List D → MH → Out D} {x : Str} {np pos : Pos}
    (F : FnOk X.prog X.w X.K X.mg X.base (L2.CX X.prog X.w) k fa fd ps (spF M 0 fc)) (hr : Room k X.A) (hg : Gl X x) (hm : X.mg x = some (.ref fa)) (hk : PySem.W.keepIn X.K (.ref fa) = true) (hb : Binds X.K fd ps []) (tk : Takes X W) (hn : ∀ ds h, fc ds h ≠ .bad → ds.length = 0)
    (hdb : (x == ("__debug__" : Str)) = false) :
    PE X (.Call (.Name x np) [] [] pos) (kE M .n W (semF fc semNil)) := by
  refine PE.mono (pe_callS0 F hr hg hm hk hb (passAt tk) hdb) fun σ H Q q => ?_
  have q' := call_core hn q
  obtain ⟨B, L, A, h, env, g, p⟩ := q'
  exact p [] H L (Ext.refl H L) g .nil
def insC (c : Nat) (h : MH) : D → Bool
  | .loc n => match h[n]? with
    | some (.ins c' _) => Nat.beq c' c
    | _ => false
  | _ => false
theorem insC_rel {B : Bs} {A : List (Option Addr)} {Hs H : Hp} {L : List Addr} {h : MH} {env : KF.Env} {σ : L2.St} {d : D} {v : V} {m : Mode} {c : Nat} (g : Good M B H L A h env σ) (r : RelM M m B A Hs H L d v) (e : insC c h d = true) :
    ∃ n a dx vs fs, d = .loc n ∧ L[n]? = some a ∧ v = .ref a ∧ h[n]? = some (.ins c fs) ∧ H a = some (.ins (M.cls c) dx ((M.flds c).zip vs)) ∧ vs.length ≤ (M.flds c).length ∧ RelDs M.K H L (Zf B L A) fs vs := by
  unfold insC at e
  split at e
  · rename_i n
    split at e
    · rename_i c' fs q
      obtain rfl := Nat.eq_of_beq_eq_true e
      obtain ⟨a, ea, rfl⟩ := r.loc
      have m := g.obj n _ a q ea
      cases m with
      | ins h1 h2 h3 => exact ⟨n, a, _, _, fs, rfl, ea, rfl, q, h1, h2, h3⟩
    · cases e
  · cases e
theorem zip_none {fs : List Str} {vs : List V} {m : Str} (h : m ∉ fs) : (fs.zip vs).lookup m = none := by
  induction fs generalizing vs with
  | nil => rfl
  | cons f r ih =>
    cases vs with
    | nil => rfl
    | cons v s =>
      have h1 : m ≠ f := fun z => h (z ▸ List.mem_cons_self)
      rw [List.zip_cons_cons, List.lookup_cons, beq_eq_false_iff_ne.mpr h1]
      exact ih fun z => h (List.mem_cons_of_mem _ z)
theorem zip_at {fs : List Str} {vs : List V} {f : Str} {j : Nat} {v : V} (nd : fs.Nodup) (e1 : fs[j]? = some f) (e2 : vs[j]? = some v) : (fs.zip vs).lookup f = some v := by
  induction fs generalizing vs j with
  | nil => simp at e1
  | cons g r ih =>
    cases vs with
    | nil => simp at e2
    | cons w s =>
      cases j with
      | zero =>
        simp at e1 e2
        subst e1 e2
        rw [List.zip_cons_cons, List.lookup_cons, beq_self_eq_true]
      | succ j =>
        simp only [List.getElem?_cons_succ] at e1 e2
        have ne : f ≠ g := fun z => by
          subst z
          exact (List.nodup_cons.mp nd).1 (List.mem_of_getElem? e1)
        rw [List.zip_cons_cons, List.lookup_cons, beq_eq_false_iff_ne.mpr ne]
        exact ih (List.nodup_cons.mp nd).2 e1 e2
theorem putF_zip {fs : List Str} {vs : List V} {f : Str} {j : Nat} {v : V} (nd : fs.Nodup) (e1 : fs[j]? = some f) (hj : j < vs.length) : putF f v (fs.zip vs) = fs.zip (vs.set j v) := by
  induction fs generalizing vs j with
  | nil => simp at e1
  | cons g r ih =>
    cases vs with
    | nil => simp at hj
    | cons w s =>
      cases j with
      | zero =>
        simp at e1
        subst e1
        show (if g = g then (g, v) :: r.zip s else _) = _
        rw [if_pos rfl]; rfl
      | succ j =>
        simp only [List.getElem?_cons_succ] at e1
        have ne : g ≠ f := fun z => by
          subst z
          exact (List.nodup_cons.mp nd).1 (List.mem_of_getElem? e1)
        show (if g = f then _ else (g, w) :: putF f v (r.zip s)) = _
        rw [if_neg ne, ih (List.nodup_cons.mp nd).2 e1 (by simpa using hj)]; rfl
theorem putF_new {fs : List Str} {vs : List V} {f : Str} {v : V} (nd : fs.Nodup) (e1 : fs[vs.length]? = some f) : putF f v (fs.zip vs) = fs.zip (vs ++ [v]) := by
  induction fs generalizing vs with
  | nil => simp at e1
  | cons g r ih =>
    cases vs with
    | nil =>
      simp at e1
      subst e1
      show [(g, v)] = (g, v) :: r.zip []
      rw [List.zip_nil_right]
    | cons w s =>
      simp only [List.length_cons, List.getElem?_cons_succ] at e1
      have ne : g ≠ f := fun z => by
        subst z
        exact (List.nodup_cons.mp nd).1 (List.mem_of_getElem? e1)
      show (if g = f then _ else (g, w) :: putF f v (r.zip s)) = _
      rw [if_neg ne, ih (List.nodup_cons.mp nd).2 e1]; rfl
/-! o.f -/
def fldD (c j : Nat) : MH → D → Option D := fun h d => match d with
  | .loc n => match h[n]? with
    | some (.ins c' fs) => if Nat.beq c' c = true then fs[j]? else none
    | _ => none
  | _ => none
theorem fldD_some {c j : Nat} {h : MH} {d r : D} (e : fldD c j h d = some r) : insC c h d = true ∧ ∀ n fs, d = .loc n → h[n]? = some (.ins c fs) → fs[j]? = some r := by
  unfold fldD at e
  split at e
  · rename_i n
    split at e
    · rename_i c' fs q
      split at e
      · rename_i b
        refine ⟨by unfold insC; dsimp only; rw [q]; exact b, fun n' fs' e1 e2 => ?_⟩
        cases e1
        rw [q] at e2
        cases e2
        exact e
      · cases e
    · cases e
  · cases e
theorem k_fld (hK : M.K = X.K) {c j : Nat} {f : Str} {e : Expr} {fa : EvF D} {pos : Pos} (ha : PE X e (kE M .b W fa)) (hc : L2.Cls X.K (M.cls c)) (hn : NoAttr X.K (M.cls c) f) (hj : (M.flds c)[j]? = some f) (nd : (M.flds c).Nodup) (ab : attributeBase e f X.env (eval e X.env) = eval e X.env) :
    PE X (.Attribute e f pos) (kE M .n W (sem1 fa (fldD c j))) := by
  refine PE.mono (pe_fld ha ab) fun σ H Q ⟨B, L, A, h, env, g, p⟩ => ?_
  refine tG_bind sm_M g p fun x h1 v H1 L1 e1 x1 g1 r1 p1 => ?_
  cases e2 : fldD c j h1 x with
  | none => rw [e2] at p1; exact p1.elim
  | some d =>
    rw [e2] at p1
    obtain ⟨q1, q2⟩ := fldD_some e2
    obtain ⟨n, a, dx, vs, fs, rfl, ea, rfl, eh, eH, l, r⟩ := insC_rel g1 r1 q1
    obtain ⟨w, hw, rw'⟩ := r.get (q2 n fs rfl eh)
    exact ⟨a, M.cls c, dx, _, w, rfl, eH, hc, hn, zip_at nd hj hw, p1.fin g1 (Same.refl _) (show RelD _ _ _ _ _ _ from rw')⟩
/-! o.f = e -/
def fsetD (c j lim : Nat) (h : MH) (r d : D) : Option MH := match r with
  | .loc n => match h[n]? with
    | some (.ins c' fs) => if Nat.beq c' c = true then
        if j < fs.length then some (h.set n (.ins c (fs.set j d)))
        else if (j = fs.length ∧ j < lim) then some (h.set n (.ins c (fs ++ [d]))) else none
      else none
    | _ => none
  | _ => none
def semFset (c j lim : Nat) (fo fa : EvF D) : EvS := fun env h => (fa env h).toS env fun d h1 => (fo env h1).toS env fun r h2 => match fsetD c j lim h2 r d with
  | some h' => .nx env h'
  | none => .bad
theorem RelDs.append1 {K : PySem.W.Frag} {H : Hp} {L : List Addr} {Z : Addr → Prop} : ∀ {ds es : List D} {vs us : List V}, RelDs K H L Z ds vs → RelDs K H L Z es us → RelDs K H L Z (ds ++ es) (vs ++ us)
  | _, _, _, _, .nil, s => s
  | _, _, _, _, .cons r t, s => .cons r (RelDs.append1 t s)
theorem RelDs.upd_ins {B : Bs} {A : List (Option Addr)} {H : Hp} {L : List Addr} {C dx : Addr} {fs fs' : List (Str × V)} {a : Addr} (aL : a ∈ L) (eH : H a = some (.ins C dx fs)) : Stay H (Zf B L A) (upd H a (.ins C dx fs')) (Zf B L A) := by
  have ne : ∀ b o, H b = some o → b ≠ a → (upd H a (.ins C dx fs')) b = some o := fun b o e q => by rw [upd_ne q]; exact e
  exact ⟨fun b o e z => ne b o e fun q => z (q ▸ .inl aL), fun b xs e => ne b _ e (fun q => by subst q; rw [eH] at e; cases e), fun b o u e => ne b _ e (fun q => by subst q; rw [eH] at e; cases e), fun b o _ z => z⟩
theorem s_fset (hK : M.K = X.K) {c j lim : Nat} {f : Str} {o e : Expr} {fo fa : EvF D} {p1 pos : Pos} (ho : PE X o (kE M .b W fo)) (ha : PE X e (kE M .n W fa)) (hc : L2.Cls X.K (M.cls c)) (hn : NoAttr X.K (M.cls c) f) (hj : (M.flds c)[j]? = some f) (nd : (M.flds c).Nodup) (hlim : lim = (M.flds c).length) (hsm : (M.flds c).length < 1000)
    (hs : swapsWith e (some (.Attribute o f p1)) pos.line X.env = pure false) : PS X (.Assign [.Attribute o f p1] e pos) (kS M W (semFset c j lim fo fa)) := by
  refine PS.mono (ps_fld ho ha hs) fun De σ H ⟨B, L, A, h, env, g, p⟩ => ?_
  refine tG_toS g p fun d h1 v H1 L1 e1 x1 g1 r1 p1 => ?_
  refine tG_toS g1 p1 fun r h2 u H2 L2 e2 x2 g2 r2 p2 => ?_
  have r1' : RelM M .n B A H2 H2 L2 d v := RelM.stay (m := .n) (Hs := H2) r1 x2 fun i a ha => (g1.own i a ha).1
  cases e3 : fsetD c j lim h2 r d with
  | none => rw [e3] at p2; exact p2.elim
  | some h' =>
    rw [e3] at p2
    have hi : insC c h2 r = true := by
      unfold fsetD at e3
      unfold insC
      cases r with
      | loc n =>
        dsimp only at e3 ⊢
        cases q : h2[n]? with
        | none => rw [q] at e3; cases e3
        | some ob =>
          rw [q] at e3
          cases ob with
          | ins c' fs =>
            dsimp only at e3 ⊢
            split at e3
            · assumption
            · cases e3
          | _ => cases e3
      | _ => cases e3
    obtain ⟨n, a, dx, vs, fs, rfl, ea, rfl, eh, eH, l, rr⟩ := insC_rel g2 r2 hi
    have aL : a ∈ L2 := List.mem_of_getElem? ea
    have hl2 := rr.length
    unfold fsetD at e3
    dsimp only at e3
    rw [eh] at e3
    dsimp only at e3
    rw [if_pos (Nat.beq_refl c)] at e3
    have zl : ((M.flds c).zip vs).length < 1000 := by rw [List.length_zip]; omega
    refine ⟨a, M.cls c, dx, _, rfl, eH, hc, hn, zl, ?_⟩
    have st := fun fs' => RelDs.upd_ins (B := B) (A := A) (fs' := fs') aL eH
    split at e3
    · rename_i hlt
      cases e3
      rw [putF_zip nd hj (by omega)]
      refine p2 _ _ _ _ (g2.setL ea eH (fun _ z => nomatch z) (fun _ _ z => nomatch z) (.ins upd_same (by rw [List.length_set]; exact l) ?_))
      have := (RelDs.set (show RelD _ _ _ _ _ _ from r1') j rr).stay (M := []) (st ((M.flds c).zip (vs.set j v)))
      rw [List.append_nil] at this
      exact this
    · split at e3
      · rename_i hq
        obtain ⟨hq1, hq2⟩ := hq
        cases e3
        have hj' : (M.flds c)[vs.length]? = some f := by rw [← hl2, ← hq1]; exact hj
        rw [putF_new nd hj']
        refine p2 _ _ _ _ (g2.setL ea eH (fun _ z => nomatch z) (fun _ _ z => nomatch z) (.ins upd_same (by rw [List.length_append, List.length_singleton]; omega) ?_))
        have := (RelDs.append1 rr (.cons (show RelD _ _ _ _ _ _ from r1') .nil)).stay (M := []) (st ((M.flds c).zip (vs ++ [v])))
        rw [List.append_nil] at this
        exact this
      · cases e3
/-! o.m(..) -/
def semM (c : Nat) (fc : List D → MH → Out D) (fo : EvF D) (f : EvF (List D)) : EvF D := fun env h => (fo env h).bind fun d h1 => if insC c h1 d = true then (f env h1).bind fun ds h2 => fc (d :: ds) h2 else .bad
theorem meth_core {c n : Nat} {m : Str} {fc : List D → MH → Out D} {fo : EvF D} {f : EvF (List D)} {σ : L2.St} {H : Hp} {Q : VK} (hm : m ∉ M.flds c) (hn : ∀ ds h, fc ds h ≠ .bad → ds.length = n) (q : kE M .n W (semM c fc fo f) σ H Q) : tMethE (M.cls c) m (spF M n fc) (WE W) (kE M .b W fo) (kA M .n W f) σ H Q := by
  obtain ⟨B, L, A, h, env, g, p⟩ := q
  refine tG_bind sm_M g p fun d h1 v H1 L1 e1 x1 g1 r1 p1 => ?_
  split at p1
  · rename_i hi
    obtain ⟨nn, a, dx, vs, fs, rfl, ea, rfl, eh, eH, l, rr⟩ := insC_rel g1 r1 hi
    refine ⟨a, dx, _, rfl, eH, zip_none hm, ?_⟩
    refine tG_bind sm_M g1 p1 fun ds h2 us H2 L2 e2 x2 g2 r2 p2 => ?_
    have nb : fc (.loc nn :: ds) h2 ≠ .bad := fun z => by rw [z] at p2; exact p2
    obtain ⟨N2, eN2, _⟩ := id x2.pre
    have el : L2[nn]? = some a := by rw [eN2]; exact pre_get ea
    refine ⟨B.sub A H2 L2, L2, h2, .loc nn :: ds, by rw [← hn _ _ nb, List.length_cons, List.length_cons, r2.length], rfl, rfl, g2.enter, .cons (.loc el) (r2.ds.weak fun a z => zf_sub.mp z), ?_⟩
    cases e : fc (.loc nn :: ds) h2 with
    | ok d h3 =>
      rw [e] at p2
      exact fun v H' L' x en r => p2 v H' L' x (g2.back x en) (r.weak fun a z => zf_sub.mpr z)
    | exc c fs h3 =>
      rw [e] at p2
      exact fun cls dd H' L' x en r => p2 cls dd H' L' x (g2.back x en) (r.weak fun a z => zf_sub.mpr z)
    | bad => rw [e] at p2; exact p2
  · exact p1.elim
theorem k_meth {c k : Nat} {m : Str} {fa : Addr} {fd : FuncData} {ps : List Str} {n : Nat} {fc : List D → MH → Out D} {apos pos : Pos} {o e : Expr} {es : List Expr} {fo : EvF D} {f : EvF (List D)} (ho : PE X o (kE M .b W fo)) (hc : L2.Cls X.K (M.cls c)) (hm : Meth X.K (M.cls c) m fa) (nm : m ∉ M.flds c)
    (F : FnOk X.prog X.w X.K X.mg X.base (L2.CX X.prog X.w) k fa fd ps (spF M n fc)) (hr : Room k X.A) (hb : Binds X.K fd ps []) (tk : Takes X W) (hn : ∀ ds h, fc ds h ≠ .bad → ds.length = n)
    (ha : PA X (e :: es) (kA M .n W f)) (hst : starEach (e :: es) X.env = (false, eval e X.env) :: starEach es X.env) (hpl : (backTo pos (starEach es X.env)).any (·.1) = false)
    (ab : attributeBase o m X.env (eval o X.env) = eval o X.env) (hf : methodCallForm ((e :: es).length + ([] : List Keyword).length) (backTo pos (starEach (e :: es) X.env)) (backToKw pos (keywordEach [] X.env)) = true) (hl : (apos.endLine == pos.line) = true) :
    PE X (.Call (.Attribute o m apos) (e :: es) [] pos) (kE M .n W (semM c fc fo f)) := PE.mono (pe_methE ho hc hm F hr hb (passAt tk) ha hst hpl ab hf hl) fun _ _ _ q => meth_core nm hn q
theorem k_meth0 {c k : Nat} {m : Str} {fa : Addr} {fd : FuncData} {ps : List Str} {n : Nat} {fc : List D → MH → Out D} {apos pos : Pos} {o : Expr} {fo : EvF D} (ho : PE X o (kE M .b W fo)) (hc : L2.Cls X.K (M.cls c)) (hm : Meth X.K (M.cls c) m fa) (nm : m ∉ M.flds c)
    (F : FnOk X.prog X.w X.K X.mg X.base (L2.CX X.prog X.w) k fa fd ps (spF M n fc)) (hr : Room k X.A) (hb : Binds X.K fd ps []) (tk : Takes X W) (hn : ∀ ds h, fc ds h ≠ .bad → ds.length = n)
    (ab : attributeBase o m X.env (eval o X.env) = eval o X.env) (hl : (apos.endLine == pos.line) = true) :
    PE X (.Call (.Attribute o m apos) [] [] pos) (kE M .n W (semM c fc fo semNil)) := by
  refine PE.mono (pe_methE0 ho hc hm F hr hb (passAt tk) ab hl) fun σ H Q q => ?_
  have q' := meth_core nm hn q
  obtain ⟨B, L, A, h, env, g, p⟩ := q'
  refine ⟨B, L, A, h, env, g, ?_⟩
  cases ef : fo env h with
  | ok d h1 =>
    rw [ef] at p
    intro v H1 L1 x1 g1 r1
    obtain ⟨a, dx, fs, h1, h2, h3, B', L', A', h', env', g', p'⟩ := p v H1 L1 x1 g1 r1
    exact ⟨a, dx, fs, h1, h2, h3, p' [] H1 L' (Ext.refl _ _) g' .nil⟩
  | exc c fs h1 => rw [ef] at p; exact p
  | bad => rw [ef] at p; exact p
/-! C(..) -/
def newO (n : Nat) : Out D → Out D
  | .ok (.py .none) h => .ok (.loc n) h
  | .ok _ _ => .bad
  | .exc c fs h => .exc c fs h
  | .bad => .bad
def semNew (c : Nat) (fc : List D → MH → Out D) (f : EvF (List D)) : EvF D := fun env h => (f env h).bind fun ds h1 => newO h1.length (fc (.loc h1.length :: ds) (h1 ++ [.ins c []]))
theorem new_core {c n : Nat} {fc : List D → MH → Out D} {f : EvF (List D)} {σ : L2.St} {H : Hp} {Q : VK} (hn : ∀ ds h, fc ds h ≠ .bad → ds.length = n) (q : kE M .n W (semNew c fc f) σ H Q) : tMakeE (M.cls c) (spF M n fc) (WE W) (kA M .n W f) σ H Q := by
  obtain ⟨B, L, A, h, env, g, p⟩ := q
  refine tG_bind sm_M g p fun ds h1 us H1 L1 e1 x1 g1 r1 p1 => ?_
  intro x dx nx ndx ne
  have nb : fc (.loc h1.length :: ds) (h1 ++ [.ins c []]) ≠ .bad := fun z => by rw [z] at p1; exact p1
  have s1 : Same H1 (upd H1 dx (.own x)) := same_upd ndx
  have g2 := g1.same s1
  have nx2 : (upd H1 dx (.own x)) x = none := by rw [upd_ne (Ne.symm ne)]; exact nx
  have s2 : Same (upd H1 dx (.own x)) (upd (upd H1 dx (.own x)) x (.ins (M.cls c) dx [])) := same_upd nx2
  have g3 : Good M B (upd (upd H1 dx (.own x)) x (.ins (M.cls c) dx [])) (L1 ++ [x]) A (h1 ++ [.ins c []]) env σ := g2.newL nx2 fun Z _ => .ins (vs := []) (by rw [upd_same, List.zip_nil_right]) (by simp) .nil
  have x3 : Ext H1 L1 (upd (upd H1 dx (.own x)) x (.ins (M.cls c) dx [])) (L1 ++ [x]) := by
    refine ⟨fun a o e _ => s2 _ _ (s1 _ _ e), fun a xs e => s2 _ _ (s1 _ _ e), fun a o u e => s2 _ _ (s1 _ _ e), ⟨[x], rfl, fun a ha => ?_⟩, fun a o e => ⟨o, s2 _ _ (s1 _ _ e)⟩⟩
    have : a = x := by simpa using ha
    subst this
    exact nx
  have r3 : RelMs M .n B A H (upd (upd H1 dx (.own x)) x (.ins (M.cls c) dx [])) (L1 ++ [x]) ds us := RelMs.stay (m := .n) r1 x3 fun i a ha => (g1.own i a ha).1
  have lx : (L1 ++ [x])[h1.length]? = some x := by rw [← g1.len, List.getElem?_append_right (Nat.le_refl _)]; simp
  refine ⟨B.sub A (upd (upd H1 dx (.own x)) x (.ins (M.cls c) dx [])) (L1 ++ [x]), L1 ++ [x], h1 ++ [.ins c []], .loc h1.length :: ds, by rw [← hn _ _ nb, List.length_cons, List.length_cons, r1.length], rfl, rfl, g3.enter, .cons (.loc lx) (r3.ds.weak fun a z => zf_sub.mp z), ?_⟩
  cases e : fc (.loc h1.length :: ds) (h1 ++ [.ins c []]) with
  | ok d h3 =>
    rw [e] at p1
    intro v H' L' x' en r
    obtain ⟨N', eN', _⟩ := id x'.pre
    have lx' : L'[h1.length]? = some x := by rw [eN']; exact pre_get lx
    cases d with
    | py d =>
      cases d with
      | none =>
        cases r with
        | py r => cases r; exact ⟨rfl, p1 (.ref x) H' L' (x3.trans x') (g3.back x' en) (show RelD _ _ _ _ _ _ from .loc lx')⟩
      | _ => exact p1.elim
    | _ => exact p1.elim
  | exc c fs h3 =>
    rw [e] at p1
    exact fun cls dd H' L' x' en r => p1 cls dd H' L' (x3.trans x') (g3.back x' en) (r.weak fun a z => zf_sub.mpr z)
  | bad => rw [e] at p1; exact p1.elim
theorem k_new {c k : Nat} {fa : Addr} {fd : FuncData} {ps : List Str} {n : Nat} {fc : List D → MH → Out D} {x : Str} {np pos : Pos} {e : Expr} {es : List Expr} {f : EvF (List D)} (mk : Mk X.K (M.cls c) fa)
    (F : FnOk X.prog X.w X.K X.mg X.base (L2.CX X.prog X.w) k fa fd ps (spF M n fc)) (hr : Room (k + 1) X.A) (hg : Gl X x) (hm : X.mg x = some (.ref (M.cls c))) (hb : Binds X.K fd ps []) (tk : Takes X W) (hn : ∀ ds h, fc ds h ≠ .bad → ds.length = n)
    (ha : PA X (e :: es) (kA M .n W f)) (hdb : (x == ("__debug__" : Str)) = false) (he : starEach (e :: es) X.env = (false, eval e X.env) :: starEach es X.env) (hpl : (backTo pos (starEach es X.env)).any (·.1) = false) :
    PE X (.Call (.Name x np) (e :: es) [] pos) (kE M .n W (semNew c fc f)) := PE.mono (pe_makeE mk F hr hg hm hb (passAt tk) ha hdb he hpl) fun _ _ _ q => new_core hn q
/-! o.p, a property: no error leaves it -/
def noX : Out D → Out D
  | .ok d h => .ok d h
  | _ => .bad
def semProp (c : Nat) (fc : List D → MH → Out D) (fo : EvF D) : EvF D := fun env h => (fo env h).bind fun d h1 => if insC c h1 d = true then noX (fc [d] h1) else .bad
theorem k_prop {c k : Nat} {f : Str} {pa fa : Addr} {fd : FuncData} {ps : List Str} {fc : List D → MH → Out D} {pos : Pos} {o : Expr} {fo : EvF D} (ho : PE X o (kE M .b W fo)) (hc : L2.Cls X.K (M.cls c)) (hp : PropOf X.K (M.cls c) f pa fa)
    (F : FnOk X.prog X.w X.K X.mg X.base (L2.CX X.prog X.w) k fa fd ps (spF M 1 fc)) (hr : Room (k + 1) X.A) (hb : Binds X.K fd ps []) (hn : ∀ ds h, fc ds h ≠ .bad → ds.length = 1)
    (ab : attributeBase o f X.env (eval o X.env) = eval o X.env) : PE X (.Attribute o f pos) (kE M .n W (semProp c fc fo)) := by
  have hx : Passes (L2.CX X.prog X.w) X.nox (fun _ _ _ => False) := by
    intro pins σ H s e s' I q
    obtain ⟨_, _, _, _, _, _, _, _, _, _, _, _, z⟩ := q
    exact z.elim
  refine PE.mono (pe_prop (E := fun _ _ _ => False) ho hc hp F hr hb .nil hx ab) fun σ H Q ⟨B, L, A, h, env, g, p⟩ => ?_
  refine tG_bind sm_M g p fun d h1 v H1 L1 e1 x1 g1 r1 p1 => ?_
  split at p1
  · rename_i hi
    obtain ⟨nn, a, dx, vs, fs, rfl, ea, rfl, eh, eH, l, rr⟩ := insC_rel g1 r1 hi
    refine ⟨a, dx, _, rfl, eH, B.sub A H1 L1, L1, h1, [.loc nn], rfl, rfl, rfl, g1.enter, .cons (.loc ea) .nil, ?_⟩
    cases e : fc [.loc nn] h1 with
    | ok d h3 =>
      rw [e] at p1
      exact fun v H' L' x en r => p1 v H' L' x (g1.back x en) (r.weak fun a z => zf_sub.mpr z)
    | exc c fs h3 => rw [e] at p1; exact p1.elim
    | bad => rw [e] at p1; exact p1.elim
  · exact p1.elim
end
end KF
set_option Elab.async false
set_option linter.all false
set_option maxRecDepth 100000
set_option maxHeartbeats 4000000
/-! KF, part U: zip of a tuple and a list; xs.pop(); o[k] = e. -/
namespace KF
open PySem PySem.Spec PyProof.Rows L2
/-- the tuple at a and the list at b, in new pairs -/
def ItzM (K : PySem.W.Frag) (a b : Addr) : It :=
  ⟨fun i H => ∃ (xs ys : List V) (x y : V), SqT K H a xs ∧ SqL K H b ys ∧ xs[i]? = some x ∧ ys[i]? = some y,
    fun i H v H' => ∃ T x y, v = .ref T ∧ H T = none ∧ H' = upd H T (.tup [x, y]) ∧ (∀ xs, SqT K H a xs → xs[i]? = some x) ∧ ∀ ys, SqL K H b ys → ys[i]? = some y,
    fun i H => ∃ xs ys : List V, SqT K H a xs ∧ SqL K H b ys ∧ (xs.length ≤ i ∨ ys.length ≤ i)⟩
/-- an iterator that is at its end -/
theorem drawsEndL {prog : Program} {w : World} {A : Around} (hh : A.handled = none) (it l i : Nat) (items : Array Value) (hx : items[i]? = none) :
    Draws prog w A it [it, l] i (fun _ _ => False) (fun j h => j = i ∧ h.IsListIter it l i ∧ h.IsList l items) where
  live := fun _ _ st => let ⟨o, ho, _⟩ := st.2.1; ⟨o, ho⟩
  frame := fun _ _ _ st hk => ⟨st.1, st.2.1.at fun o e => hk it (by simp) o e, st.2.2.at fun o e => hk l (by simp) o e⟩
  item := fun j s Q E hi st _ => absurd st.1 (Nat.ne_of_lt hi)
  done := fun s Q E st hE => wpAny_nextOf_list_end hh st.2.1 st.2.2 hx hE
theorem drawsEndT {prog : Program} {w : World} {A : Around} (hh : A.handled = none) (it l i : Nat) (items : Array Value) (hx : items[i]? = none) :
    Draws prog w A it [it, l] i (fun _ _ => False) (fun j h => j = i ∧ h.IsTupleIter it l i ∧ h.IsTuple l items) where
  live := fun _ _ st => let ⟨o, ho, _⟩ := st.2.1; ⟨o, ho⟩
  frame := fun _ _ _ st hk => ⟨st.1, st.2.1.at fun o e => hk it (by simp) o e, st.2.2.at fun o e => hk l (by simp) o e⟩
  item := fun j s Q E hi st _ => absurd st.1 (Nat.ne_of_lt hi)
  done := fun s Q E st hE => wpAny_nextOf_tuple_end hh st.2.1 st.2.2 hx hE
theorem turn_zipM {P : Program} {w : World} {K : PySem.W.Frag} {elts : List Expr} {kk : Nat} {tpos : Pos} {a b z TI TO i1 i2 : Addr} (S : ZipSep2 z TI TO i1 i2 [i1, a] [i2, b]) (ha : a ≠ i1) (hb : b ≠ i2) :
    Turn P w K (.Tuple elts kk tpos) (ItzM K a b) [z, TI, TO, i1, i2] z (fun i h => IsZip h z TI TO .none ∧ IsTupOf2 h TI (.ref i1) (.ref i2) ∧ (∃ x y, IsTupOf2 h TO x y) ∧ h.IsTupleIter i1 a i ∧ h.IsListIter i2 b i) where
  mem := by simp
  obj := fun i h st c hc => by
    obtain ⟨hz, hTI, ⟨x, y, hTO⟩, ⟨o1, e1, _, d1⟩, ⟨o2, e2, _, d2⟩⟩ := st
    have e' : c = z ∨ c = TI ∨ c = TO ∨ c = i1 ∨ c = i2 := by simpa using hc
    rcases e' with q | q | q | q | q
    · rw [q]; exact ⟨_, hz, fun v q => nomatch q⟩
    · rw [q]; exact ⟨_, hTI, fun v q => nomatch q⟩
    · rw [q]; exact ⟨_, hTO, fun v q => nomatch q⟩
    · rw [q]; exact ⟨o1, e1, fun v q => by rw [d1] at q; cases q⟩
    · rw [q]; exact ⟨o2, e2, fun v q => by rw [d2] at q; cases q⟩
  keep := fun i h h' st k => by
    obtain ⟨hz, hTI, ⟨x, y, hTO⟩, h1, h2⟩ := st
    exact ⟨k z (by simp) _ hz, k TI (by simp) _ hTI, ⟨x, y, k TO (by simp) _ hTO⟩, h1.at fun o q => k i1 (by simp) o q, h2.at fun o q => k i2 (by simp) o q⟩
  item := by
    intro X hP hw hK hc i pins s σ H E I hf st hg
    subst hP hw hK
    obtain ⟨hz, hTI, ⟨x0, y0, hTO⟩, h1, h2⟩ := st
    obtain ⟨xs, ys, x, y, hqx, hqy, hx, hy⟩ := hg
    obtain ⟨its, rv, p, _⟩ := I.tuple hqx
    obtain ⟨its2, rv2, p2, _⟩ := I.list hqy
    obtain ⟨u, hu, ru⟩ := rv.get hx
    obtain ⟨u2, hu2, ru2⟩ := rv2.get hy
    have hzl : z < s.heap.objs.size := Heap.lt_size hz
    have l1 : i < its.length := (List.getElem?_eq_some_iff.mp hu).1
    have l2 : i < its2.length := (List.getElem?_eq_some_iff.mp hu2).1
    have hh : X.A.in1.handled = none := I.ok.hd hc
    refine wpAny_pyNext_zipD2_item S (Draws.tuple (A := X.A.in1) hh i1 a ha its.toArray) (Draws.list (A := X.A.in1) hh i2 b hb its2.toArray) hz hTI hTO ⟨h1, p⟩ ⟨h2, p2.isList⟩ (by simpa using l1) (by simpa using l2) fun x1 x2 h' tk y1 y2 z' TO' h1' h2' hT hsz hk => ?_
    obtain rfl : x1 = u := by rw [List.getElem?_toArray, hu] at y1; exact (Option.some.inj y1).symm
    obtain rfl : x2 = u2 := by rw [List.getElem?_toArray, hu2] at y2; exact (Option.some.inj y2).symm
    refine ⟨_, rfl, wpAny_letOwnedTupleGo_zip (s := { s with heap := h', toks := tk }) z' fun h'' z'' sb => ?_⟩
    have hT2 : h''.get? s.heap.objs.size = some { cls := .type "tuple", data := .seq #[x1, x2] } := (sb.2 _ (Nat.ne_of_gt hzl)).trans hT
    have new : ObjOk X.prog X.w (upd H s.heap.objs.size (.tup [x, y])) h'' s.heap.objs.size (.tup [x, y]) :=
      ⟨by show 2 ≤ sizeLine; decide, [x1, x2], .cons ru (.cons ru2 .nil), ⟨_, hT2, rfl, _, rfl⟩⟩
    have I1 : Inv X pins σ (upd H s.heap.objs.size (.tup [x, y])) { s with heap := h'', toks := tk } :=
      I.turnedNew (ch := [z, TI, TO, i1, i2]) (fun c o hb q => (sb.2 c (fun q' => hb (by simp [q']))).trans (hk c o (fun q' => hb (by simp [q'])) (fun q' => hb (by simp [q'])) (fun q' => hb (by simp [q'])) (fun q' => hb (by simp [q'])) q)) hf (Nat.le_refl _) new
    refine ⟨.ref s.heap.objs.size, _, I1, rfl, ⟨_, x, y, rfl, I.hok.fresh (Nat.le_refl _), rfl, fun l hl => by rw [I.tuple_inj hl hqx]; exact hx, fun l hl => by rw [I.list_inj hl hqy]; exact hy⟩, ⟨z'', ?_, ⟨x1, x2, ?_⟩, ?_, ?_⟩, fun c hcm => ?_⟩
    · exact (sb.2 _ S.TIz).trans (hk _ _ S.TIz S.TITO S.TIi1 S.TIi2 hTI)
    · exact (sb.2 _ S.TOz).trans TO'
    · exact h1'.1.at fun o q => (sb.2 _ (Ne.symm S.zi1)).trans q
    · exact h2'.1.at fun o q => (sb.2 _ (Ne.symm S.zi2)).trans q
    · have hlt : c < s.heap.objs.size := by
        have e' : c = z ∨ c = TI ∨ c = TO ∨ c = i1 ∨ c = i2 := by simpa using hcm
        rcases e' with q | q | q | q | q
        · rw [q]; exact hzl
        · rw [q]; exact Heap.lt_size hTI
        · rw [q]; exact Heap.lt_size hTO
        · rw [q]; obtain ⟨_, e1, _⟩ := h1; exact Heap.lt_size e1
        · rw [q]; obtain ⟨_, e2, _⟩ := h2; exact Heap.lt_size e2
      rw [upd_ne (Nat.ne_of_lt hlt)]
      exact (hf c hcm).1
  done := by
    intro X hP hw hK hc i pins s σ H E I hf st hg
    subst hP hw hK
    obtain ⟨hz, hTI, ⟨x0, y0, hTO⟩, h1, h2⟩ := st
    obtain ⟨xs, ys, hqx, hqy, hend⟩ := hg
    obtain ⟨its, rv, p, _⟩ := I.tuple hqx
    obtain ⟨its2, rv2, p2, _⟩ := I.list hqy
    have l1 := rv.length
    have l2 := rv2.length
    have hh : X.A.in1.handled = none := I.ok.hd hc
    have fin : ∀ (h' : Heap) (tk : Nat), (∀ c o, c ≠ z → c ≠ TO → c ≠ i1 → c ≠ i2 → s.heap.get? c = some o → h'.get? c = some o) → Inv X pins σ H { s with heap := h', toks := tk } := fun h' tk hk => I.turnedL (t' := tk) (ch := [z, TI, TO, i1, i2]) (fun c o hb q => hk c o (fun q' => hb (by simp [q'])) (fun q' => hb (by simp [q'])) (fun q' => hb (by simp [q'])) (fun q' => hb (by simp [q'])) q) hf
    by_cases c1 : i < its.length
    · have c2 : its2.length ≤ i := by omega
      exact wpAny_pyNext_zipD2_end S (Draws.tuple (A := X.A.in1) hh i1 a ha its.toArray) (drawsEndL (A := X.A.in1) hh i2 b i its2.toArray (by simp; omega)) hz hTI hTO ⟨h1, p⟩ ⟨rfl, h2, p2.isList⟩ (by simp; omega) (Nat.le_refl _) (.inr rfl) fun h' tk hk => ⟨rfl, fin h' tk hk⟩
    · by_cases c2 : i < its2.length
      · exact wpAny_pyNext_zipD2_end S (drawsEndT (A := X.A.in1) hh i1 a i its.toArray (by simp; omega)) (Draws.list (A := X.A.in1) hh i2 b hb its2.toArray) hz hTI hTO ⟨rfl, h1, p⟩ ⟨h2, p2.isList⟩ (Nat.le_refl _) (by simp; omega) (.inl rfl) fun h' tk hk => ⟨rfl, fin h' tk hk⟩
      · exact wpAny_pyNext_zipD2_end S (drawsEndT (A := X.A.in1) hh i1 a i its.toArray (by simp; omega)) (drawsEndL (A := X.A.in1) hh i2 b i its2.toArray (by simp; omega)) hz hTI hTO ⟨rfl, h1, p⟩ ⟨rfl, h2, p2.isList⟩ (Nat.le_refl _) (Nat.le_refl _) (.inl rfl) fun h' tk hk => ⟨rfl, fin h' tk hk⟩
  self := fun A i s Q E st h => wpAny_pyIter_zip st.1 h
theorem zipSep (n a b : Nat) (la : a < n) (lb : b < n) : ZipSep2 (n + 4) (n + 2) (n + 3) n (n + 1) [n, a] [n + 1, b] where
  TIz := by show ¬ (n + 2 : Nat) = n + 4; omega
  TOz := by show ¬ (n + 3 : Nat) = n + 4; omega
  TITO := by show ¬ (n + 2 : Nat) = n + 3; omega
  TIi1 := by show ¬ (n + 2 : Nat) = n; omega
  mem1 := List.mem_cons_self
  zf1 := by rw [List.mem_cons, List.mem_singleton]; show ¬ ((n + 4 : Nat) = n ∨ (n + 4 : Nat) = a); omega
  Tf1 := by rw [List.mem_cons, List.mem_singleton]; show ¬ ((n + 3 : Nat) = n ∨ (n + 3 : Nat) = a); omega
  TIi2 := by show ¬ (n + 2 : Nat) = n + 1; omega
  mem2 := List.mem_cons_self
  zf2 := by rw [List.mem_cons, List.mem_singleton]; show ¬ ((n + 4 : Nat) = n + 1 ∨ (n + 4 : Nat) = b); omega
  Tf2 := by rw [List.mem_cons, List.mem_singleton]; show ¬ ((n + 3 : Nat) = n + 1 ∨ (n + 3 : Nat) = b); omega
  sep1_2 := by rw [List.mem_cons, List.mem_singleton]; show ¬ ((n : Nat) = n + 1 ∨ (n : Nat) = b); omega
  sep2_1 := by rw [List.mem_cons, List.mem_singleton]; show ¬ ((n + 1 : Nat) = n ∨ (n + 1 : Nat) = a); omega
def iZipM (K : PySem.W.Frag) (ta : TA) : TI := fun σ H R => ta σ H fun vs H1 => ∃ a b xs ys, vs = [.ref a, .ref b] ∧ SqT K H1 a xs ∧ SqL K H1 b ys ∧ R (ItzM K a b) H1
theorem pi_zipM {X : Cx} {e e2 : Expr} {ta : TA} {p pos tpos : Pos} {elts : List Expr} {kk : Nat} (hg : Gl X "zip") (hm : X.mg "zip" = none) (ha : PA X [e, e2] ta)
    (hs : starEach [e, e2] X.env = (false, eval e X.env) :: starEach [e2] X.env) (hpl : (backTo pos (starEach [e2] X.env)).any (·.1) = false) :
    PI X (.Tuple elts kk tpos) (.Call (.Name "zip" p) [e, e2] [] pos) (iZipM X.K ta) := by
  refine ⟨fun pins s σ H R I h => ?_⟩
  refine Call_ (ld_blt I hg hm PyProof.Rows.boot_zip (PyProof.Rows.callWith_type1 (thn (ha.run pos pins s σ H _ I h) fun us s1 ⟨vs, H1, I1, r1, q1⟩ => ?_) hs hpl))
  obtain ⟨a, b, xs, ys, ex, hqx, hqy, q⟩ := q1
  subst ex
  cases r1 with
  | cons r rr =>
    cases rr with
    | cons r' rr =>
      cases rr
      cases r
      cases r'
      obtain ⟨its, rv, p1, _⟩ := I1.tuple hqx
      obtain ⟨its2, rv2, p2, _⟩ := I1.list hqy
      have la : a < s1.heap.objs.size := p1.lt
      have lb : b < s1.heap.objs.size := p2.lt
      refine zip_begins2 (begins_tuple a its.toArray) (begins_list b its2.toArray) p1 p2.isList fun h' hz hTI hTO h1 h2 hsz hk => wpAny_pyIter_zip hz ?_
      have I2 : Inv X pins σ H1 { s1 with heap := h' } := I1.kept (t' := s1.toks) hk
      have S : ZipSep2 (s1.heap.objs.size + 4) (s1.heap.objs.size + 2) (s1.heap.objs.size + 3) s1.heap.objs.size (s1.heap.objs.size + 1) [s1.heap.objs.size, a] [s1.heap.objs.size + 1, b] := zipSep s1.heap.objs.size a b la lb
      refine ⟨s1.heap.objs.size + 4, [s1.heap.objs.size + 4, s1.heap.objs.size + 2, s1.heap.objs.size + 3, s1.heap.objs.size, s1.heap.objs.size + 1], _, _, H1, rfl, I2, turn_zipM S (Nat.ne_of_lt la) (Nat.ne_of_lt (Nat.lt_succ_of_lt lb)), ⟨hz, hTI, ⟨_, _, hTO⟩, ⟨_, h1, rfl, rfl⟩, ⟨_, h2, rfl, rfl⟩⟩, fun c hcm => ?_, q⟩
      have e' : c = s1.heap.objs.size + 4 ∨ c = s1.heap.objs.size + 2 ∨ c = s1.heap.objs.size + 3 ∨ c = s1.heap.objs.size ∨ c = s1.heap.objs.size + 1 := by simpa using hcm
      have hle : s1.heap.objs.size ≤ c := by
        rcases e' with z | z | z | z | z
        · rw [z]; exact Nat.le_add_right _ _
        · rw [z]; exact Nat.le_add_right _ _
        · rw [z]; exact Nat.le_add_right _ _
        · rw [z]; exact Nat.le_refl _
        · rw [z]; exact Nat.le_add_right _ _
      exact I1.fpOk hle (I1.hok.fresh hle)
section
variable {X : Cx} {M : MK} {W : WX}
def zipD (xs ys : List PyData) : List D := (xs.zip ys).map fun p => .py (.tuple [p.1, p.2])
theorem zipD_get {xs ys : List PyData} {i : Nat} {x : D} (h : (zipD xs ys)[i]? = some x) : ∃ d e, xs[i]? = some d ∧ ys[i]? = some e ∧ x = .py (.tuple [d, e]) := by
  unfold zipD at h
  rw [List.getElem?_map] at h
  cases q : (xs.zip ys)[i]? with
  | none => rw [q] at h; cases h
  | some p =>
    rw [q] at h
    cases h
    obtain ⟨h1, h2⟩ := List.getElem?_zip_eq_some.mp q
    exact ⟨p.1, p.2, h1, h2, rfl⟩
def SrcZ (K : PySem.W.Frag) (a b : Addr) (xs ys : List PyData) : Hp → (Addr → Prop) → Prop := fun H Z => SrcT K a xs H Z ∧ SrcL K b ys H Z
theorem wit_zip (hK : M.K = X.K) {a b : Addr} {xs ys : List PyData} : WIt M (ItzM X.K a b) (zipD xs ys) (SrcZ M.K a b xs ys) := by
  rintro B H L A h env σ g ⟨⟨vs, h1, h3⟩, ⟨us, k1, k2, k3⟩⟩ i
  refine ⟨fun hl => ⟨vs, us, hK ▸ h1, .inl k1, ?_⟩, fun x hx => ?_⟩
  · have e1 := h3.length
    have e2 := k3.length
    have : (zipD xs ys).length = min xs.length ys.length := by simp [zipD]
    omega
  · obtain ⟨d, e, q1, q2, rfl⟩ := zipD_get hx
    obtain ⟨v, e1, e2⟩ := h3.get q1
    obtain ⟨u, f1, f2⟩ := k3.get q2
    refine ⟨⟨vs, us, v, u, hK ▸ h1, .inl k1, e1, f1⟩, fun w H' ⟨T, y, y', ew, hT, eH, hy, hy'⟩ => ?_⟩
    have := hy vs (hK ▸ h1)
    rw [e1] at this; cases this
    have := hy' us (.inl k1)
    rw [f1] at this; cases this
    subst ew eH
    have st := (Ext.same L (same_upd (o := .tup [v, u]) hT)).stay (B := B) (A := A)
    exact ⟨same_upd hT, .py (.tup (.inl (.inl upd_same)) (.cons (e2.stay st) (.cons (f2.stay st) .nil)))⟩
def zipO : List D → Option (List D)
  | [.py (.tuple xs), .py (.list ys)] => some (zipD xs ys)
  | _ => none
theorem i_zip (hK : M.K = X.K) {e e2 : Expr} {elts : List Expr} {kk : Nat} {f : EvF (List D)} {p pos tpos : Pos} (hg : Gl X "zip") (hm : X.mg "zip" = none) (ha : PA X [e, e2] (kA M .n W f))
    (hs : starEach [e, e2] X.env = (false, eval e X.env) :: starEach [e2] X.env) (hpl : (backTo pos (starEach [e2] X.env)).any (·.1) = false) :
    PI X (.Tuple elts kk tpos) (.Call (.Name "zip" p) [e, e2] [] pos) (kI M W (semIt f zipO)) := by
  refine PI.mono (pi_zipM hg hm ha hs hpl) fun σ H Q ⟨B, L, A, h, env, g, p⟩ => ⟨B, L, A, h, env, g, ?_⟩
  unfold semIt at p
  cases ef : f env h with
  | bad => rw [ef] at p; exact p.elim
  | exc c fs h1 => rw [ef] at p; exact p
  | ok ds h1 =>
    rw [ef] at p
    have p : Post M B A env σ W _ H L Q (lift (zipO ds) h1) := p
    cases e2 : zipO ds with
    | none => rw [e2] at p; exact p.elim
    | some xs =>
      rw [e2] at p
      unfold zipO at e2
      split at e2
      · cases e2
        intro vs H1 L1 x1 g1 r1
        cases r1 with
        | cons r t =>
          cases t with
          | cons r' t =>
            cases t
            cases r with
            | py r =>
              cases r' with
              | py r' =>
                cases r with
                | @tup a us _ q1 q3 =>
                  cases r' with
                  | @lst b us' _ z1 z2 z3 => exact ⟨a, b, us, us', rfl, hK ▸ q1, .inl z1, p _ _ _ x1 g1 ⟨SrcZ M.K a b _ _, wit_zip hK, fun H Z H' Z' s q => ⟨srcT_stay _ _ _ _ s q.1, srcL_stay _ _ _ _ s q.2⟩, ⟨us, q1, q3⟩, ⟨us', z1, z2, z3⟩⟩⟩
      · cases e2
/-! o[k] = e, o a dict at a place -/
def semPutE (fo fk fa : EvF D) : EvS := fun env h => (fa env h).toS env fun d h1 => (fo env h1).toS env fun r h2 => (fk env h2).toS env fun k h3 => match putD h3 r k d with
  | some h' => .nx env h'
  | none => .bad
theorem s_putE (of : Of M X) (hu : X.A.units + 20 < cLine) {o k e : Expr} {fo fk fa : EvF D} {tp pos : Pos} (ho : PE X o (kE M .n W fo))
    (ha : PE X e (kE M .n W fa)) (hk : PE X k (kE M .b W fk)) (hs : swapsWithSole [.Subscript o k tp] e pos.line X.env = pure false) (hw : swappedStores [.Subscript o k tp] e X.env = pure none)
    (h1 : (assignEach [.Subscript o k tp] X.env).map (·.2) = [assign (.Subscript o k tp) X.env])
    (hasn : AsnSub o k tp X.env) : PS X (.Assign [.Subscript o k tp] e pos) (kS M W (semPutE fo fk fa)) := by
  refine PS.mono (ps_asg ha (pg_sub ho hk (set_dict of hu) hasn) hs hw h1) fun De σ H ⟨B, L, A, h, env, g, p⟩ => ?_
  refine tG_toS g p fun d h1 v H1 L1 e1 x1 g1 r1 p1 => ?_
  refine tG_toS g1 p1 fun rd h2 w H2 L2 e2 x2 g2 r2 p2 => ?_
  refine tG_toS g2 p2 fun kd h3 kv H3 L3 e3 x3 g3 r3 p3 => ?_
  cases e4 : putD h3 rd kd d with
  | none => rw [e4] at p3; exact p3.elim
  | some h' =>
    rw [e4] at p3
    obtain ⟨kvs, n, kd', dv, z1, rfl, rfl, rfl, ok, fit, rfl⟩ := putD_some e4
    have r1' : RelM M .n B A H3 H3 L3 (.py dv) v := RelM.stay (m := .n) (Hs := H3) r1 (x2.trans x3) fun i a ha => (g1.own i a ha).1
    have r2' : RelM M .n B A H3 H3 L3 (.loc n) w := RelM.stay (m := .n) (Hs := H3) r2 x3 fun i a ha => (g2.own i a ha).1
    obtain ⟨n', a, en, hn, ea, rfl, m⟩ := dctW_rel g3 r2' z1
    cases en
    cases r1' with
    | py r1' => exact ⟨a, L3, _, kvs, kd', dv, rfl, m, .inl (List.mem_of_getElem? ea), r3.keyP ok, ok, r1', fit, fun ob hm => p3 _ _ _ _ (g3.putD ea m hm)⟩
end
end KF
set_option Elab.async false
set_option linter.all false
set_option maxRecDepth 100000
set_option maxHeartbeats 4000000
/-! KF, part V: y = xs.pop(); len(d), list(d), d.update(e); a def out of a list of defs, called. -/
namespace KF
open PySem PySem.Spec PyProof.Rows L2
section
variable {X : Cx} {M : MK} {W : WX}
/-! y = xs.pop() -/
def semPop (j i : Nat) : EvS := fun env h => match env[i]? with
  | some (.o xs) => match xs.getLast? with
    | some y => if j < env.length then .nx ((env.set i (.o xs.dropLast)).set j (.v (.py y))) h else .bad
    | none => .bad
  | _ => .bad
theorem s_pop {i j : Nat} {x y : Str} {py np apos cpos pos : Pos} (nd : X.N.Nodup) (hN : X.N[i]? = some x) (hv : Vis X.env.scope x) (hd : (x == ("__debug__" : Str)) = false) (hcd : (x == ("__classdict__" : Str)) = false)
    (hj : X.N[j]? = some y) (hx : Loc X.env.scope y) (hf : X.fn y = true ∨ X.env.scope.names.lookup y = some .local) (hl : (apos.endLine == cpos.line) = true) :
    PS X (.Assign [.Name y py] (.Call (.Attribute (.Name x np) "pop" apos) [] [] cpos) pos) (kS M W (semPop j i)) := by
  refine PS.mono (ps_set nd hj hx (pe_bm0 PySem.F.plainAttrs_list PySem.F.slot_list_pop PySem.F.type_list_pop mt_pop (pe_var hN hv hd hcd) rfl hl) rfl hf) fun De σ H ⟨B, L, A, h, env, g, p⟩ => ?_
  unfold semPop at p
  cases e0 : env[i]? with
  | none => rw [e0] at p; exact p.elim
  | some sl =>
    rw [e0] at p
    cases sl with
    | u => exact p.elim
    | x _ _ => exact p.elim
    | v d => exact p.elim
    | o xs =>
      dsimp only at p
      cases e1 : xs.getLast? with
      | none => rw [e1] at p; exact p.elim
      | some d =>
        rw [e1] at p
        dsimp only at p
        split at p
        · rename_i hlt
          obtain ⟨a, vs, q1, q2, q3, q4⟩ := ownL g e0
          have el : xs[xs.length - 1]? = some d := by rw [← List.getLast?_eq_getElem?]; exact e1
          obtain ⟨v, hv1, hv2⟩ := q4.get el
          rw [q4.length] at hv1
          have za : Zf B L A a := .inr (.inr (List.mem_of_getElem? q1))
          have ne : ∀ b o, H b = some o → b ≠ a → (upd H a (.lst vs.dropLast)) b = some o := fun b o e q => by rw [upd_ne q]; exact e
          have st : Stay H (Zf B L A) (upd H a (.lst vs.dropLast)) (Zf B L A) := ⟨fun b o e z => ne b o e fun q => z (q ▸ za), fun b xs e => ne b _ e (fun q => by subst q; rw [q3] at e; cases e), fun b o u e => ne b _ e (fun q => by subst q; rw [q3] at e; cases e), fun b o _ z => z⟩
          have rd : RelPs M.K H (Zf B L A) xs.dropLast vs.dropLast := by rw [List.dropLast_eq_take, List.dropLast_eq_take, ← q4.length]; exact q4.take _
          have g2 := g.setOwn q1 q3 q2 rd
          refine ⟨.ref a, q2, .inl ⟨rfl, vs, .inl (.inl q3)⟩, a, vs, v, rfl, rfl, q3, hv1, ?_⟩
          exact p _ _ _ _ (g2.setV (.py (hv2.stay st)) (by simpa using hlt))
        · exact p.elim
/-! len(d) -/
def rLenD (M : MK) : List V → Hp → VK → Prop := fun xs H Q => ∃ (a : Addr) (Z : Addr → Prop) (kvs : KVs), xs = [.ref a] ∧ RdOk M H Z a kvs ∧ Q (.int ((kvs.length : Nat) : Int)) H
theorem call_lenU (of : Of M X) : CallR X (.builtin "len") (rLenD M) := by
  intro pins s σ H xs us Q I r h
  obtain ⟨a, Z, kvs, rfl, m, q⟩ := h
  obtain ⟨u, rfl, rx⟩ := vals1 r
  obtain rfl : u = .ref a := rx
  rcases m with ⟨ks, e, r1⟩ | ⟨zs, ep, e, ne, r1⟩
  · refine d_len I e fun t s' I' => ⟨.int ((kvs.length : Nat) : Int), H, I', ⟨t, ?_⟩, q⟩
    rw [Paired.length r1]
  · rw [of.prog, of.w] at e
    rw [of.K] at r1
    obtain ⟨h1, h2, h3⟩ := r1.dict I e
    have hl : kvs.length = zs.length := Paired.length r1
    refine call_len_dictH h1 h3 (by rw [sizeLine_eq] at h2; omega) ?_
    rw [← hl]
    exact ⟨.int ((kvs.length : Nat) : Int), H, I.tok _, ⟨_, rfl⟩, q⟩
def dlenO : MH → List D → Option D := fun h ds => match ds with
  | [d] => (dctAt h d).map fun kvs => .py (.int ((kvs.length : Nat) : Int))
  | _ => none
theorem b_dlen : Cl M .n (rLenD M) dlenO := by
  intro B A H L h env σ ds d vs Q g r e k
  unfold dlenO at e
  split at e
  · rename_i d1
    cases q : dctAt h d1 with
    | none => rw [q] at e; cases e
    | some kvs =>
      rw [q] at e
      cases e
      obtain ⟨v, rfl, rv⟩ := relMs1 r
      obtain ⟨n, a, rfl, _, _, rfl, m⟩ := dctAt_rel g rv q
      exact ⟨a, _, kvs, rfl, m, k _ _ (Same.refl _) (RelM.ofP (.int _))⟩
  · cases e
/-! list(d) -/
def rListU (M : MK) : List V → Hp → VK → Prop := fun xs H Q => ∃ (a : Addr) (Z : Addr → Prop) (kvs : KVs), xs = [.ref a] ∧ RdOk M H Z a kvs ∧ sKs kvs = true ∧ ∀ p vs, H p = none → RelPs M.K H Z (kvs.map (·.1)) vs → Q (.ref p) (upd H p (.lst vs))
theorem keysK_rel {K : PySem.W.Frag} {H : Hp} {Z : Addr → Prop} {kvs : KVs} {ks : List (Key × V)} (r : DRelK K H Z kvs ks) (hs : sKs kvs = true) : RelPs K H Z (kvs.map (·.1)) (ks.map fun kv => kV kv.1) := by
  unfold sKs at hs
  induction r with
  | nil => exact .nil
  | @cons kv x _ _ p _ ih =>
    rw [List.all_cons, Bool.and_eq_true] at hs
    refine .cons (keyOf_rel p.1 fun y e => ?_) (ih hs.2)
    have h1 := hs.1
    have e : kv.1 = .str y := e
    rw [e] at h1
    exact h1
theorem keysN_rel {K : PySem.W.Frag} {H : Hp} {Z : Addr → Prop} {kvs : KVs} {xs : List (NestedKey × Addr × Value)} (r : DRelN K H Z kvs xs) : RelPs K H Z (kvs.map (·.1)) ((xs.map fun x => x.2.1).map V.ref) := by
  induction r with
  | nil => exact .nil
  | cons p _ ih => exact .cons p.2.2.1 ih
theorem call_listU (of : Of M X) (hc : X.calm = true) : CallR X (.type "list") (rListU M) := by
  intro pins s σ H xs us Q I r h
  obtain ⟨a, Z, kvs, rfl, m, hs, q⟩ := h
  rcases m with ⟨ks, e, r1⟩ | ⟨zs, ep, e, ne, r1⟩
  · rcases e with e | ⟨od, e⟩
    · exact call_list_dK hc pins s σ H _ us Q I r ⟨a, ks, rfl, e, fun p hp => q p _ hp (keysK_rel r1 hs)⟩
    · obtain ⟨u, rfl, rx⟩ := vals1 r
      obtain rfl : u = Value.ref a := rx
      obtain ⟨z, lo, vs, rk, hd⟩ := (show ObjOk X.prog X.w H s.heap a (.dK ks) from Rd.ok (.inr ⟨od, e⟩) I.hok)
      obtain ⟨ep, hat⟩ := hd.dictAt
      have hl : ks.length = vs.length := Paired.length rk
      refine PySem.W.kdl_call (PySem.W.kdl_dict (knd := mixKind X.prog X.w) (kvs := vs) (ep := ep) lo) (I.ok.hd hc) hat (by rw [← hl]; exact z) fun h' tk acc' c' hkeep hS hacc => ?_
      refine ⟨.ref s.heap.objs.size, upd H s.heap.objs.size (.lst (ks.map fun kv => kV kv.1)), I.laid hkeep (Nat.le_refl _) (show ObjOk X.prog X.w _ _ _ (.lst (ks.map fun kv => kV kv.1)) from ⟨?_, acc'.toList, c', ?_, ?_⟩), rfl, q _ _ (I.hok.fresh (Nat.le_refl _)) (keysK_rel r1 hs)⟩
      · rw [List.length_map]; exact z
      · have el : acc'.toList.length = acc'.size := by simp
        refine vals_of_at (by rw [List.length_map, el, hacc.1, hl]) fun j x w h1 h2 => ?_
        obtain ⟨k, y, hky, hi⟩ := hacc.2 j w (by rw [← Array.getElem?_toList]; exact h2)
        have e1 : (ks.map (·.1))[j]? = some k := by
          rw [KV.keys rk, List.getElem?_map, hky] <;> rfl
        have e2 : (ks.map fun kv => kV kv.1)[j]? = some (kV k) := by
          have e3 : (ks.map fun kv => kV kv.1) = (ks.map (·.1)).map kV := by rw [List.map_map] <;> rfl
          rw [e3, List.getElem?_map, e1] <;> rfl
        rw [e2] at h1
        cases h1
        exact keyIs_rel hi
      · rw [Array.toArray_toList]; exact hS
  · obtain ⟨u, rfl, rx⟩ := vals1 r
    obtain rfl : u = Value.ref a := rx
    have r0 := r1
    rw [of.prog, of.w] at e
    rw [of.K] at r1
    obtain ⟨hs', hz, o, es, ep', ho, hx, hdt, he, hi, hn⟩ := r1.dict I e
    have l1 : es.size = zs.length := size_of_entries he
    refine PySem.W.kdl_call (kdl_raw hs' hx hdt) (I.ok.hd hc) ho (by omega) fun h' tk acc' c' kp e it => ?_
    have ea : acc'.toList = zs.map fun x => Value.ref x.2.1 := by
      have hl : acc'.toList.length = zs.length := by rw [Array.length_toList, it.1]; exact l1
      apply List.ext_getElem?
      intro j
      rw [List.getElem?_map]
      cases hj : acc'.toList[j]? with
      | none =>
        have h1 := List.getElem?_eq_none_iff.mp hj
        rw [List.getElem?_eq_none (by omega)]
        all_goals rfl
      | some v =>
        obtain ⟨en, hen, hv⟩ := it.2 j v (by rw [← Array.getElem?_toList]; exact hj)
        have qe := entry_at he j
        rw [hen] at qe
        cases hb : zs[j]? with
        | none =>
          rw [hb] at qe
          exact nomatch (show some en = none from qe)
        | some b =>
          rw [hb] at qe
          have e2 : en = entryOfKey (nestedKind X.prog X.w) b := Option.some.inj qe
          rw [hv, e2]
          all_goals rfl
    have eb : acc'.toList = (zs.map fun x => x.2.1).map Value.ref := by rw [ea, List.map_map]; all_goals rfl
    have rv : Vals ((zs.map fun x => x.2.1).map V.ref) acc'.toList := by rw [eb]; exact vals_refs _
    have hz2 : ((zs.map fun x => x.2.1).map V.ref).length ≤ sizeLine := by rw [List.length_map, List.length_map]; exact hz
    refine ⟨.ref s.heap.objs.size, _, I.laid (t' := tk) (o := .lst ((zs.map fun x => x.2.1).map V.ref)) kp (Nat.le_refl _) ?_, rfl, q _ _ (I.hok.fresh (Nat.le_refl _)) (keysN_rel r0)⟩
    exact ⟨hz2, acc'.toList, c', rv, by rw [Array.toArray_toList]; exact e⟩
def dlstO : MH → List D → Option D := fun h ds => match ds with
  | [d] => (dctAt h d).bind fun kvs => if sKs kvs = true then some (.py (.list (kvs.map (·.1)))) else none
  | _ => none
theorem b_dlst : ClF M (rListU M) dlstO := by
  intro B A H L h env σ ds d vs Q g r e k
  unfold dlstO at e
  split at e
  · rename_i d1
    cases q : dctAt h d1 with
    | none => rw [q] at e; cases e
    | some kvs =>
      rw [q] at e
      have e : (if sKs kvs = true then some (D.py (.list (kvs.map (·.1)))) else none) = some d := e
      split at e
      · rename_i hs
        cases e
        obtain ⟨v, rfl, rv⟩ := relMs1 r
        obtain ⟨n, a, rfl, _, _, rfl, m⟩ := dctAt_rel g rv q
        exact ⟨a, _, kvs, rfl, m, hs, fun p us hp ru => k _ p us rfl hp ru⟩
      · cases e
  · cases e
theorem dlstO_isL {h : MH} {ds : List D} {d : D} (e : dlstO h ds = some d) : isL d = true := by
  unfold dlstO at e
  split at e
  · cases q : dctAt h _ with
    | none => rw [q] at e; cases e
    | some kvs =>
      rw [q] at e
      have e : (if sKs kvs = true then some (D.py (.list (kvs.map (·.1)))) else none) = some d := e
      split at e
      · cases e; rfl
      · cases e
  · cases e
/-! d.update(e), tuple keys -/
def mergeKD (kvs more : KVs) : KVs := more.foldl (fun acc kv => putKD acc kv.1 kv.2) kvs
theorem DRelN.merge {K : PySem.W.Frag} {H : Hp} {Z : Addr → Prop} {more : KVs} {ys : List (NestedKey × Addr × Value)} (r2 : DRelN K H Z more ys) : ∀ {kvs : KVs} {xs : List (NestedKey × Addr × Value)}, DRelN K H Z kvs xs → DRelN K H Z (mergeKD kvs more) (storedAllH xs ys) := by
  induction r2 with
  | nil => exact fun r => r
  | cons p _ ih =>
    obtain ⟨p1, p2, p3, v, p4, p5⟩ := p
    exact fun r => ih (r.put p1 p2 p3 p5 p4)
theorem storedAllH_len {K : Type} [DecidableEq K] : ∀ (ys xs : List (K × Addr × Value)), (storedAllH xs ys).length ≤ xs.length + ys.length ∧ (xs ≠ [] → storedAllH xs ys ≠ [])
  | [], xs => ⟨by simp [storedAllH], fun h => h⟩
  | y :: r, xs => by
    obtain ⟨h1, h2⟩ := storedAllH_len r (storedH xs y.1 y.2.1 y.2.2)
    obtain ⟨h3, h4⟩ := storedH_len xs y.1 y.2.1 y.2.2
    exact ⟨by show (storedAllH (storedH xs y.1 y.2.1 y.2.2) r).length ≤ _; rw [List.length_cons]; omega, fun _ => h2 h4⟩
def allT (kvs : KVs) : Bool := kvs.all fun kv => isT kv.1
def updD (h : MH) (r e : D) : Option MH := match dctW h r, dctW h e, r, e with
  | some kvs, some more, .loc n, .loc m => if (!(Nat.beq n m) && allT kvs && allT more && (!kvs.isEmpty || more.isEmpty) && Nat.blt (kvs.length + more.length) 16000000) = true then some (h.set n (.dct (mergeKD kvs more))) else none
  | _, _, _, _ => none
def semUpd (fo fe : EvF D) : EvF D := fun env h => (fo env h).bind fun r h1 => match dctW h1 r with
  | none => .bad
  | some _ => (fe env h1).bind fun e h2 => match updD h2 r e with
    | some h' => .ok (.py .none) h'
    | none => .bad
theorem updD_some {h h' : MH} {r e : D} (q : updD h r e = some h') : ∃ kvs more n m, dctW h r = some kvs ∧ dctW h e = some more ∧ r = .loc n ∧ e = .loc m ∧ n ≠ m ∧ allT kvs = true ∧ allT more = true ∧ (kvs ≠ [] ∨ more = []) ∧ kvs.length + more.length < 16000000 ∧ h' = h.set n (.dct (mergeKD kvs more)) := by
  unfold updD at q
  split at q
  · rename_i kvs more n m z1 z2
    split at q
    · rename_i c
      cases q
      simp only [Bool.and_eq_true, Bool.or_eq_true, Bool.not_eq_true'] at c
      obtain ⟨⟨⟨⟨c1, c2⟩, c3⟩, c4⟩, c5⟩ := c
      refine ⟨kvs, more, n, m, z1, z2, rfl, rfl, fun z => ?_, c2, c3, ?_, Nat.le_of_ble_eq_true c5, rfl⟩
      · rw [z, Nat.beq_refl] at c1; cases c1
      · rcases c4 with c4 | c4
        · exact .inl fun z => by rw [z] at c4; cases c4
        · exact .inr (List.isEmpty_iff.mp c4)
    · cases q
  · cases q
/-- a dict with tuple keys, or an empty one -/
theorem nest_at (of : Of M X) {pins : List (Addr × Obj)} {σ : L2.St} {H : Hp} {s : Shared} {L : List Addr} {Z : Addr → Prop} {a : Addr} {kvs : KVs} (I : Inv X pins σ H s) (m : MOk M H L Z a (.dct kvs)) (ht : allT kvs = true) : ∃ xs, DRelN X.K H Z kvs xs ∧ (a == sysModules) = false ∧ xs.length ≤ sizeLine ∧ s.heap.DictOfH (nestedKind X.prog X.w) a xs ∧ Mut (H a) ∧ (kvs = [] → H a = some (.dK [])) := by
  have hT : ∀ kv ∈ kvs, isT kv.1 = true := fun kv hk => List.all_eq_true.mp ht kv hk
  cases m with
  | dK e r =>
    obtain ⟨rfl, rfl⟩ := r.tup hT
    obtain ⟨h1, h2⟩ := dK_nil I (.inl e)
    exact ⟨[], .nil, h1, by simp, h2, by rw [e]; exact True.intro, fun _ => e⟩
  | dN e ne r =>
    have e' := e
    rw [of.prog, of.w] at e'
    rw [of.K] at r
    obtain ⟨h1, h2, h3⟩ := r.dict I (.inl e')
    refine ⟨_, r, h1, h2, h3, isDO.mut (u := nestO M.prog M.w a _ _) (by first | exact True.intro | exact ⟨_, _, rfl⟩ | trivial) |> fun z => by rw [e]; exact z, fun z => ?_⟩
    subst z
    cases r
    exact absurd rfl ne
def tUpd (M : MK) (td te : TE) : TE := fun σ H Q => td σ H fun x H1 => ∃ (a : Addr) (Z1 : Addr → Prop) (kv1 : KVs), x = .ref a ∧ RdOk M H1 Z1 a kv1 ∧ te σ H1 fun y H2 => ∃ (b : Addr) (L : List Addr) (Z : Addr → Prop) (kvs more : KVs), y = .ref b ∧ a ≠ b ∧ MOk M H2 L Z a (.dct kvs) ∧ MOk M H2 L Z b (.dct more) ∧ Z a ∧ allT kvs = true ∧ allT more = true ∧ (kvs ≠ [] ∨ more = []) ∧ kvs.length + more.length < 16000000 ∧
  ∀ ob, (∀ L' Z', Stay H2 Z (upd H2 a ob) Z' → MOk M (upd H2 a ob) L' Z' a (.dct (mergeKD kvs more))) → Q .non (upd H2 a ob)
theorem pe_upd (of : Of M X) (hu : X.A.units + 20 < cLine) {o e : Expr} {apos cpos : Pos} {td te : TE} (ho : PE X o td) (he : PE X e te) (m : M1 X o "update" apos e cpos) : PE X (.Call (.Attribute o "update" apos) [e] [] cpos) (tUpd M td te) := by
  refine ⟨fun pins s σ H Q I h => wpAny_Call_method m.base m.few m.line PySem.F.plainAttrs_dict PySem.F.slot_dict_update PySem.F.type_dict_update (thn (ho.run pins s σ H _ I h) fun u s1 ⟨x, H1, I1, rx, a, Z1, kv1, ex, d, q1⟩ => ?_)⟩
  subst ex
  obtain rfl : u = Value.ref a := rx
  obtain ⟨t1, t2⟩ := mok_typ of I1 d
  refine ⟨t1, t2, ?_⟩
  rw [m.trees]
  refine Calls.callWith_builtin rfl (Calls.evalArgs_plain (Calls.spliced_cons (thn (he.run pins s1 σ H1 _ I1 q1) fun iv s2 ⟨y, H2, I2, ry, b, L, Z, kvs, more, ey, nab, m1, m2, za, ht1, ht2, hne, fit, q2⟩ => Calls.spliced_nil ?_)))
  subst ey
  obtain rfl : iv = Value.ref b := ry
  obtain ⟨xs, r1, h1, h2, h3, mu, em⟩ := nest_at of I2 m1 ht1
  obtain ⟨ys, r2, k1, k2, k3, _, _⟩ := nest_at of I2 m2 ht2
  have l1 : kvs.length = xs.length := Paired.length r1
  have l2 : more.length = ys.length := Paired.length r2
  refine call_update_dictH (knd := nestedKind X.prog X.w) (room8 hu) nab k1 h3 k3 ?_ (by rw [sizeLine_eq]; omega) fun h' d' _ hs => ?_
  · rcases hne with hne | hne
    · refine .inl fun z => hne ?_
      subst z
      exact List.length_eq_zero_iff.mp l1
    · subst hne
      have : ys = [] := List.length_eq_zero_iff.mp l2.symm
      subst this
      exact .inr ⟨fun x hx => absurd hx (by simp), List.nodup_nil⟩
  · by_cases hk : kvs = []
    · have hm : more = [] := by
        rcases hne with hne | hne
        · exact absurd hk hne
        · exact hne
      subst hk hm
      have ex : xs = [] := List.length_eq_zero_iff.mp l1.symm
      have ey : ys = [] := List.length_eq_zero_iff.mp l2.symm
      subst ex ey
      obtain ⟨o, es, ep, q1, q3, q4, q5, _, _⟩ := d'
      have q5 : es.toList = [] := q5
      have e0 : es = #[] := by cases es; simp at q5; subst q5; rfl
      subst e0
      have new : ObjOk X.prog X.w (upd H2 a (.dK [])) h' a (.dK []) := dk_new (vs := []) (by simp) h1 .nil ⟨o, #[], ep, q1, q3, q4, fun e he => absurd he (by simp), .nil, List.nodup_nil⟩
      exact ⟨.non, _, d_write (t' := s2.toks) I2 mu hs ⟨o, q1⟩ new, rfl, q2 _ fun L' Z' st => .dK upd_same .nil⟩
    · have nx : xs ≠ [] := fun z => hk (by subst z; exact List.length_eq_zero_iff.mp l1)
      obtain ⟨z1, z2⟩ := storedAllH_len ys xs
      obtain ⟨ep, I3⟩ := nest_write (t' := s2.toks) I2 mu h1 (xs := storedAllH xs ys) (by rw [sizeLine_eq]; omega) hs d'
      refine ⟨.non, _, I3, rfl, q2 _ fun L' Z' st => ?_⟩
      refine .dN (ep := ep) (by rw [of.prog, of.w]; exact upd_same) (z2 nx) ?_
      rw [of.K]
      exact (r2.merge r1).stay st
theorem k_upd (of : Of M X) (hu : X.A.units + 20 < cLine) {o e : Expr} {apos cpos : Pos} {fo fe : EvF D} (ho : PE X o (kE M .n W fo)) (he : PE X e (kE M .n W fe)) (m : M1 X o "update" apos e cpos) : PE X (.Call (.Attribute o "update" apos) [e] [] cpos) (kE M .n W (semUpd fo fe)) := by
  refine PE.mono (pe_upd of hu ho he m) fun σ H Q ⟨B, L, A, h, env, g, p⟩ => ?_
  refine tG_bind sm_M g p fun r h1 v H1 L1 e1 x1 g1 r1 p1 => ?_
  cases q1 : dctW h1 r with
  | none => rw [q1] at p1; exact p1.elim
  | some kv1 =>
    rw [q1] at p1
    obtain ⟨n, a, rfl, hn, ea, rfl, m1⟩ := dctW_rel g1 r1 q1
    refine ⟨a, _, kv1, rfl, m1.rdD, ?_⟩
    refine tG_bind sm_M g1 p1 fun y h2 u H2 L2 e2 x2 g2 r2 p2 => ?_
    have r1' : RelM M .n B A H2 H2 L2 (.loc n) (.ref a) := RelM.stay (m := .n) (Hs := H2) r1 x2 fun i a ha => (g1.own i a ha).1
    cases q2 : updD h2 (.loc n) y with
    | none => rw [q2] at p2; exact p2.elim
    | some h' =>
      rw [q2] at p2
      obtain ⟨kvs, more, n', k, z1, z2, en, rfl, nk, t1, t2, hne, fit, rfl⟩ := updD_some q2
      cases en
      obtain ⟨_, a', en, hn2, ea2, eq2, m2⟩ := dctW_rel g2 r1' z1
      cases en
      cases eq2
      obtain ⟨_, b, en, hn3, eb, rfl, m3⟩ := dctW_rel g2 r2 z2
      cases en
      have nab : a ≠ b := fun z => by
        subst z
        exact nk ((List.getElem?_inj (List.getElem?_eq_some_iff.mp ea2).1 g2.nd).mp (ea2.trans eb.symm))
      refine ⟨b, L2, _, kvs, more, rfl, nab, m2, m3, .inl (List.mem_of_getElem? ea2), t1, t2, hne, fit, fun ob hm => ?_⟩
      have g3 := g2.putD ea2 m2 hm
      refine p2 .non _ L2 ?_ g3 (RelM.ofP .non)
      obtain ⟨w, hw⟩ := m2.there
      have mm : ∀ b o, H2 b = some o → b ≠ a → (upd H2 a ob) b = some o := fun b o e q => by rw [upd_ne q]; exact e
      have aL : a ∈ L2 := List.mem_of_getElem? ea2
      refine ⟨fun b o e hb => mm b o e fun q => hb (q ▸ aL), fun b xs e => mm b _ e fun q => ?_, fun b o u e => mm b _ e fun q => ?_, ⟨[], by simp⟩, fun b o e => ?_⟩
      · subst q; cases m2 with
        | dK z _ => rw [z] at e; cases e
        | dN z _ _ => rw [z] at e; cases e
      · subst q; cases m2 with
        | dK z _ => rw [z] at e; cases e
        | dN z _ _ => rw [z] at e; cases e
      · by_cases q : b = a
        · subst q; exact ⟨_, upd_same⟩
        · exact ⟨o, mm b o e q⟩
end
end KF
set_option Elab.async false
set_option linter.all false
set_option maxRecDepth 100000
set_option maxHeartbeats 4000000
/-! KF, part W: a def out of a list of defs, called; tuples of the module. -/
namespace KF
open PySem PySem.Spec PyProof.Rows L2
section
variable {X : Cx} {M : MK} {W : WX}
structure FnA (X : Cx) (M : MK) (n : Nat) (fc : List D → MH → Out D) (fa : Addr) : Prop where
  ex : ∃ (fd : FuncData) (ps : List Str) (k : Nat), PySem.W.keepIn X.K (.ref fa) = true ∧ Binds X.K fd ps [] ∧ Room k X.A ∧ FnOk X.prog X.w X.K X.mg X.base (L2.CX X.prog X.w) k fa fd ps (spF M n fc)
  ar : ∀ ds h, fc ds h ≠ .bad → ds.length = n
inductive FnL (X : Cx) (M : MK) (n : Nat) : List Expr → List (List D → MH → Out D) → Prop
  | nil : FnL X M n [] []
  | cons {x : Str} {p : Pos} {fa : Addr} {fc : List D → MH → Out D} {r : List Expr} {fcs : List (List D → MH → Out D)} : Gl X x → X.mg x = some (.ref fa) → (x == ("__debug__" : Str)) = false → FnA X M n fc fa → FnL X M n r fcs → FnL X M n (.Name x p :: r) (fc :: fcs)
theorem FnL.pa {n : Nat} {es : List Expr} {fcs : List (List D → MH → Out D)} (l : FnL X M n es fcs) : ∃ as : List Addr, as.length = fcs.length ∧ (∀ (j : Nat) (a : Addr), as[j]? = some a → ∃ fc, fcs[j]? = some fc ∧ FnA X M n fc a) ∧ PA X es (fun _ H Q => Q (as.map V.ref) H) := by
  induction l with
  | nil => exact ⟨[], rfl, fun j a e => by simp at e, pa_nil⟩
  | @cons x p fa fc r fcs hg hm hd hf _ ih =>
    obtain ⟨as, h1, h2, h3⟩ := ih
    refine ⟨fa :: as, by simp [h1], fun j a e => ?_, pa_cons (pe_glob (v := .ref fa) hg hm rfl hd) h3 rfl⟩
    cases j with
    | zero => simp at e; subst e; exact ⟨fc, rfl, hf⟩
    | succ j => simpa using h2 j a (by simpa using e)
def semSel (fcs : List (List D → MH → Out D)) (fi : EvF D) (f : EvF (List D)) : EvF D := fun env h => (fi env h).bind fun d h1 => match d with
  | .py (.int i) => match atI fcs i with
    | some fc => (f env h1).bind fun ds h2 => fc ds h2
    | none => .bad
  | _ => .bad
def tSel (X : Cx) (M : MK) (W : WX) (n : Nat) (tf : TE) (t : TA) : TE := fun σ H Q => tf σ H fun x H1 => ∃ fa fc, x = .ref fa ∧ FnA X M n fc fa ∧ t σ H1 fun vs H2 => spF M n fc vs H2 Q (WE W σ)
theorem pe_sel {n : Nat} {fe e : Expr} {es : List Expr} {tf : TE} {t : TA} {pos : Pos} (hf : PE X fe tf) (tk : Takes X W) (ha : PA X (e :: es) t)
    (ht : eval (.Call fe (e :: es) [] pos) X.env = (do callWith pos (← eval fe X.env) [] (backTo pos (starEach (e :: es) X.env)) (backToKw pos (keywordEach [] X.env))))
    (he : starEach (e :: es) X.env = (false, eval e X.env) :: starEach es X.env) (hpl : (backTo pos (starEach es X.env)).any (·.1) = false) : PE X (.Call fe (e :: es) [] pos) (tSel X M W n tf t) := by
  refine ⟨fun pins s σ H Q I h => ?_⟩
  refine Call_ (thn (hf.run pins s σ H _ I h) fun u s1 ⟨y, H1, I1, ry, a, fc, ey, ⟨⟨fd, ps, k, q1, q2, q3, q4⟩, q5⟩, q⟩ => ?_) ht
  subst ey
  obtain rfl : u = Value.ref a := ry
  refine PySem.W.callWith_K (h₀ := X.base) I.ok.mod.kin q1 (thn (ha.run pos pins s1 σ H1 _ I1 q) fun us s2 ⟨vs, H2, I2, r, q⟩ => ⟨I2.kIn, ?_⟩) he hpl
  exact run_fnS q4 q3 q2 (passAt tk σ) I2 r q
theorem pe_sel0 {n : Nat} {fe : Expr} {tf : TE} {pos : Pos} (hf : PE X fe tf) (tk : Takes X W)
    (ht : eval (.Call fe [] [] pos) X.env = (do callWith pos (← eval fe X.env) [] (backTo pos (starEach [] X.env)) (backToKw pos (keywordEach [] X.env)))) : PE X (.Call fe [] [] pos) (tSel X M W n tf tNil) := by
  refine ⟨fun pins s σ H Q I h => ?_⟩
  refine Call_ (thn (hf.run pins s σ H _ I h) fun u s1 ⟨y, H1, I1, ry, a, fc, ey, ⟨⟨fd, ps, k, q1, q2, q3, q4⟩, q5⟩, q⟩ => ?_) ht
  subst ey
  obtain rfl : u = Value.ref a := ry
  exact PySem.W.callWith_K0 I1.kIn q1 (run_fnS (us := []) q4 q3 q2 (passAt tk σ) I1 .nil q)
theorem atI_fn {n : Nat} {as : List Addr} {fcs : List (List D → MH → Out D)} (hl : as.length = fcs.length) (hA : ∀ (j : Nat) (a : Addr), as[j]? = some a → ∃ fc, fcs[j]? = some fc ∧ FnA X M n fc a) {i : Int} {fc : List D → MH → Out D} (e : atI fcs i = some fc) : ∃ a, atI (as.map V.ref) i = some (.ref a) ∧ FnA X M n fc a := by
  unfold atI at e ⊢
  rw [List.length_map, hl]
  cases q : ixN fcs.length i with
  | none => rw [q] at e; cases e
  | some j =>
    rw [q] at e
    have e : fcs[j]? = some fc := e
    have hj : j < as.length := by rw [hl]; exact (List.getElem?_eq_some_iff.mp e).1
    obtain ⟨fc', q1, q2⟩ := hA j as[j] (List.getElem?_eq_getElem hj)
    rw [e] at q1
    cases q1
    refine ⟨as[j], ?_, q2⟩
    show (as.map V.ref)[j]? = _
    rw [List.getElem?_map, List.getElem?_eq_getElem hj]; rfl
theorem sel_core {n : Nat} {fns : List Expr} {ix : Expr} {fcs : List (List D → MH → Out D)} {as : List Addr} {fi : EvF D} {f : EvF (List D)} (hK : M.K = X.K) (hl : as.length = fcs.length) (hA : ∀ (j : Nat) (a : Addr), as[j]? = some a → ∃ fc, fcs[j]? = some fc ∧ FnA X M n fc a) (hz : fcs.length ≤ 1000) {σ : L2.St} {H : Hp} {Q : VK} (q : kE M .n W (semSel fcs fi f) σ H Q) :
    tSel X M W n (tOp (rIxL X.K) (tLst fun _ H Q => Q (as.map V.ref) H) (kE M .b W fi)) (kA M .n W f) σ H Q := by
  obtain ⟨B, L, A, h, env, g, p⟩ := q
  refine ⟨by rw [List.length_map, sizeLine_eq]; omega, fun l nl => ?_⟩
  have sm := same_upd (o := .lst (as.map V.ref)) nl
  have p := Post.from (R := RelM M .n) sm_M (Ext.same L sm) p
  refine tG_bind sm_M (g.same sm) p fun d h1 v H1 L1 e1 x1 g1 r1 p1 => ?_
  cases d with
  | loc n => exact p1.elim
  | scr n => exact p1.elim
  | py d =>
    cases d with
    | int i =>
      dsimp only at p1
      cases e : atI fcs i with
      | none => rw [e] at p1; exact p1.elim
      | some fc =>
        rw [e] at p1
        obtain ⟨a, ea, fa⟩ := atI_fn hl hA e
        have nL : l ∉ L := fun hm => by obtain ⟨o, eo⟩ := g.there hm; rw [nl] at eo; cases eo
        have hl1 : H1 l = some (.lst (as.map V.ref)) := x1.keep l _ upd_same nL
        refine ⟨l, _, i, _, rfl, r1.int, .inl (.inl hl1), ea, a, fc, rfl, fa, ?_⟩
        refine tG_bind sm_M g1 p1 fun ds h2 us H2 L2 e2 x2 g2 r2 p2 => ?_
        have nb : fc ds h2 ≠ .bad := fun z => by rw [z] at p2; exact p2
        refine ⟨B.sub A H2 L2, L2, h2, ds, by rw [← r2.length]; exact fa.ar ds h2 nb, rfl, rfl, g2.enter, r2.ds.weak fun a z => zf_sub.mp z, ?_⟩
        cases e : fc ds h2 with
        | ok d h3 =>
          rw [e] at p2
          exact fun v H' L' x en r => p2 v H' L' x (g2.back x en) (r.weak fun a z => zf_sub.mpr z)
        | exc c fs h3 =>
          rw [e] at p2
          exact fun cls dd H' L' x en r => p2 cls dd H' L' x (g2.back x en) (r.weak fun a z => zf_sub.mpr z)
        | bad => rw [e] at p2; exact p2
    | _ => exact p1.elim
theorem k_sel {n : Nat} {fns : List Expr} {ix e : Expr} {es : List Expr} {fcs : List (List D → MH → Out D)} {fi : EvF D} {f : EvF (List D)} {lp p2 pos : Pos} (hK : M.K = X.K) (hf : FnL X M n fns fcs) (hz : fcs.length ≤ 1000) (hi : PE X ix (kE M .b W fi)) (hp : PlainIx ix) (tk : Takes X W) (ha : PA X (e :: es) (kA M .n W f))
    (he : starEach (e :: es) X.env = (false, eval e X.env) :: starEach es X.env) (hpl : (backTo pos (starEach es X.env)).any (·.1) = false) :
    PE X (.Call (.Subscript (.List fns lp) ix p2) (e :: es) [] pos) (kE M .n W (semSel fcs fi f)) := by
  obtain ⟨as, h1, h2, h3⟩ := hf.pa
  exact PE.mono (pe_sel (M := M) (n := n) (pe_ix ix_list (pe_lst h3) hi hp) tk ha rfl he hpl) fun _ _ _ q => sel_core (fns := fns) (ix := ix) hK h1 h2 hz q
theorem k_sel0 {fns : List Expr} {ix : Expr} {fcs : List (List D → MH → Out D)} {fi : EvF D} {lp p2 pos : Pos} (hK : M.K = X.K) (hf : FnL X M 0 fns fcs) (hz : fcs.length ≤ 1000) (hi : PE X ix (kE M .b W fi)) (hp : PlainIx ix) (tk : Takes X W) :
    PE X (.Call (.Subscript (.List fns lp) ix p2) [] [] pos) (kE M .n W (semSel fcs fi semNil)) := by
  obtain ⟨as, h1, h2, h3⟩ := hf.pa
  refine PE.mono (pe_sel0 (M := M) (n := 0) (pe_ix ix_list (pe_lst h3) hi hp) tk rfl) fun σ H Q q => ?_
  obtain ⟨c1, c2⟩ := sel_core (fns := fns) (ix := ix) (W := W) hK h1 h2 hz q
  refine ⟨c1, fun l nl => ?_⟩
  obtain ⟨B, L, A, h, env, g, p⟩ := c2 l nl
  refine ⟨B, L, A, h, env, g, ?_⟩
  cases ef : fi env h with
  | ok d h1 =>
    rw [ef] at p
    intro v H1 L1 x1 g1 r1
    obtain ⟨l', xs, i, z, h1, h2, h3, h4, a, fc, h5, h6, B', L', A', h', env', g', p'⟩ := p v H1 L1 x1 g1 r1
    exact ⟨l', xs, i, z, h1, h2, h3, h4, a, fc, h5, h6, p' [] H1 L' (Ext.refl _ _) g' .nil⟩
  | exc c fs h1 => rw [ef] at p; exact p
  | bad => rw [ef] at p; exact p
/-! a tuple of the module: texts, numbers -/
theorem k_gtup {x : Str} {pos : Pos} {a : Addr} {ds : List PyData} {vs : List V} (hK : M.K = X.K) (hg : Gl X x) (hm : X.mg x = some (.ref a)) (hd : (x == ("__debug__" : Str)) = false) (hs : ∀ H, SqT X.K H a vs) (hr : ∀ H Z, RelPs M.K H Z ds vs) : PE X (.Name x pos) (kE M .n W fun _ h => .ok (.py (.tuple ds)) h) :=
  PE.mono (pe_glob (v := .ref a) hg hm rfl hd) fun σ H Q ⟨B, L, A, h, env, g, p⟩ => p.fin g (Same.refl H) (RelM.ofP (.tup (hK ▸ hs H) (hr _ _)))
end
end KF
set_option Elab.async false
set_option linter.all false
set_option maxRecDepth 100000
set_option maxHeartbeats 4000000
/-! KF, part X: t * n, text * n, list(range(n)), xs[k] -= e, swaps, len(o) of an own class, displays of dicts. -/
namespace KF
open PySem PySem.Spec PyProof.Rows L2
section
variable {X : Cx} {M : MK} {W : WX}
/-! t * n -/
theorem tuple_mul1 (l : Addr) (items : Array Value) (n : Nat) (sl : Array (Option Value)) (dd : Option Addr) (u : Tok) :
    Meets (Builtin.«tuple.__mul__» ⟨[.ref l, .int 1 u], []⟩) (fun _ R s => s.heap.get? l = some { cls := .type "tuple", dict := dd, data := .seq items n, slots := sl } ∧ R (.ok (.ret (Value.ref l))) s) :=
  .of_wp fun prog w A R s h => by
    obtain ⟨hp, g, d, tk, os⟩ := s
    obtain ⟨hl, h⟩ := h
    have f1 := AutoSeq1.idx_int
    have c1 : (items.isEmpty || (1 : Int) == 1) = true := by simp
    wp_walk using wpAny_loadPart' hl
    repeat (first
      | (refine wpAny_ite_true (decide_eq_true c1) ?_; wp_walk using wpAny_loadPart' hl)
      | (refine wpAny_ite_false (by decide) ?_; wp_walk using wpAny_loadPart' hl))
    exact ⟨_, rfl, h⟩
def rRep1 (K : PySem.W.Frag) : R2 := fun x y H Q => ∃ l xs, x = .ref l ∧ y = .int 1 ∧ SqT K H l xs ∧ Q (.ref l) H
theorem op_rep1 : OpR X (binaryOp .Mult) (rRep1 X.K) := by
  intro pins s σ H x y v u Q I rx ry h
  obtain ⟨l, xs, rfl, rfl, hT, q⟩ := h
  cases rx
  obtain ⟨t, rfl⟩ := ry
  obtain ⟨its, r, ⟨⟨cls, dd, data, sl⟩, ho, hc, n, hd⟩, hs⟩ := I.tuple hT
  simp only at hc hd
  subst hc hd
  exact wpAny_binaryOp_repeat_ref (T := "tuple") (U := "int") (by decide) ⟨_, ho, rfl⟩ (fun s' => typeIs_int s' 1 t) noFill_tuple_mul PySem.F.fills_int_mul PySem.F.slot_int_rmul repeat_tuple PySem.F.slot_int_index.lookup
    (call_meets PySem.F.slot_int_rmul (typeIs_int s 1 t) PySem.F.entry_int_rmul (PySem.F.args_int_rmul_2 _ _) (int_rmul_tuple 1 t l its.toArray n dd sl)
      ⟨ho, rfl, ⟨_, ho, rfl⟩, call_meets PySem.F.slot_tuple_mul ⟨_, ho, rfl⟩ PySem.F.entry_tuple_mul (PySem.F.args_tuple_mul_2 _ _) (tuple_mul1 l its.toArray n sl dd t) ⟨ho, ⟨.ref l, H, I, rfl, q⟩⟩⟩)
theorem RelPs.rep {K : PySem.W.Frag} {H : Hp} {Z : Addr → Prop} {ds : List PyData} {vs : List V} (r : RelPs K H Z ds vs) : ∀ n : Nat, RelPs K H Z (List.replicate n ds).flatten (List.replicate n vs).flatten
  | 0 => .nil
  | n + 1 => by
    rw [List.replicate_succ, List.replicate_succ, List.flatten_cons, List.flatten_cons]
    exact r.append (RelPs.rep r n)
def mulT : MH → D → D → Option D := fun _ x y => match x, y with
  | .py (.tuple xs), .py (.int k) => if (!xs.isEmpty && decide (1 ≤ k) && decide (k ≤ 1000) && Nat.ble xs.length 1000) = true then some (.py (.tuple (List.replicate k.toNat xs).flatten)) else none
  | _, _ => none
theorem o_mulT : Op2 M .n (fun x y H Q => rRepT M.K x y H Q ∨ rRep1 M.K x y H Q) mulT := by
  intro B A H L h env σ d1 d2 d3 v1 v2 Q g r1 r2 e k
  unfold mulT at e
  split at e
  · rename_i xs i
    split at e
    · rename_i c
      cases e
      simp only [Bool.and_eq_true, Bool.not_eq_true', decide_eq_true_eq] at c
      obtain ⟨⟨⟨c1, c2⟩, c3⟩, c4⟩ := c
      obtain ⟨a, vs, rfl, hT, rv⟩ := r1.tup
      obtain rfl := r2.int
      by_cases hk : i = 1
      · subst hk
        refine .inr ⟨a, vs, rfl, rfl, hT, k _ _ (Same.refl H) (RelM.ofP ?_)⟩
        have : (List.replicate (1 : Int).toNat xs).flatten = xs := by simp
        rw [this]
        exact .tup hT rv
      · refine .inl ⟨a, i, vs, rfl, rfl, hT, fun z => ?_, by omega, c3, by rw [← rv.length]; exact Nat.le_of_ble_eq_true c4, fun p hp => k _ _ (same_upd hp) (RelM.ofP (.tup (.inl (.inl upd_same)) ((rv.rep i.toNat).stay (Ext.same L (same_upd hp)).stay)))⟩
        subst z
        have hl := rv.length
        cases xs with
        | nil => cases c1
        | cons a b => cases hl
    · cases e
  · cases e
theorem op_mulT : OpR X (binaryOp .Mult) (fun x y H Q => rRepT X.K x y H Q ∨ rRep1 X.K x y H Q) := op_or op_repT op_rep1
/-! text * n -/
def strRep (x : Str) (n : Nat) : Str := ⟨(List.replicate n x.cps).foldl (· ++ ·) #[]⟩
def rRepS : R2 := fun x y H Q => ∃ (z : Str) (k : Int), x = .str z ∧ y = .int k ∧ 1 ≤ k ∧ k ≤ 1000 ∧ 1 ≤ z.length ∧ z.length ≤ 1000 ∧ (strRep z k.toNat).length ≤ sizeLine ∧ Q (.str (strRep z k.toNat)) H
theorem strRep1 (z : Str) : strRep z (1 : Int).toNat = z := by
  unfold strRep
  obtain ⟨c⟩ := z
  simp
theorem op_repS : OpR X (binaryOp .Mult) rRepS := by
  intro pins s σ H x y v u Q I rx ry h
  obtain ⟨z, k, rfl, rfl, h1, h2, h3, h4, h5, q⟩ := h
  obtain ⟨t, rfl⟩ := rx
  obtain ⟨t', rfl⟩ := ry
  have e1 : ¬ k < 1 := by omega
  refine PySem.P.mul_str (by rw [decide_eq_false (by omega), decide_eq_false (by omega)]; rfl) (fun _ _ => ?_) (fun _ _ => ?_) ?_
  · have : (1000 : Int) ≤ (2 ^ 63 - 1) / k := by
      rw [Int.le_ediv_iff_mul_le (by omega)]
      omega
    omega
  · unfold Builtin.Str.tooLong
    have a1 : z.length * k.toNat ≤ 1000 * 1000 := Nat.mul_le_mul h4 (by omega)
    rw [sizeLine_eq]
    exact decide_eq_false (by omega)
  · rw [if_neg e1]
    by_cases hk : k = 1
    · subst hk
      rw [strRep1] at q
      exact ⟨.str z, H, I, ⟨_, rfl⟩, q⟩
    · have e2 : (k == 1 || z.length == 0) = false := by
        rw [Bool.or_eq_false_iff]
        exact ⟨beq_eq_false_iff_ne.mpr (by omega), beq_eq_false_iff_ne.mpr (by omega)⟩
      rw [e2]
      exact ⟨h5, ⟨.str (strRep z k.toNat), H, I.tok _, ⟨_, rfl⟩, q⟩⟩
def mulS : MH → D → D → Option D := fun _ x y => match x, y with
  | .py (.str z), .py (.int k) => if (decide (1 ≤ k) && decide (k ≤ 1000) && Nat.ble 1 z.length && Nat.ble z.length 1000 && sOk (strRep z k.toNat)) = true then some (.py (.str (strRep z k.toNat))) else none
  | _, _ => none
theorem o_mulS : Op2 M .n rRepS mulS := by
  intro B A H L h env σ d1 d2 d3 v1 v2 Q g r1 r2 e k
  unfold mulS at e
  split at e
  · rename_i z i
    split at e
    · rename_i c
      cases e
      simp only [Bool.and_eq_true, decide_eq_true_eq] at c
      obtain ⟨⟨⟨⟨c1, c2⟩, c3⟩, c4⟩, c5⟩ := c
      obtain ⟨rfl, _⟩ := r1.str
      obtain rfl := r2.int
      exact ⟨z, i, rfl, rfl, c1, c2, Nat.le_of_ble_eq_true c3, Nat.le_of_ble_eq_true c4, sOk.line c5, k _ _ (Same.refl H) (RelM.ofP (.str _ c5))⟩
    · cases e
  · cases e
/-! list(range(n)) -/
def rgP (n : Nat) : List PyData := (List.range n).map fun k => .int (0 + (k : Nat))
theorem rgP_rel {K : PySem.W.Frag} {H : Hp} {Z : Addr → Prop} (n : Nat) : RelPs K H Z (rgP n) ((List.range n).map fun i => V.int (0 + (i : Nat))) := by
  unfold rgP
  induction List.range n with
  | nil => exact .nil
  | cons a r ih => exact .cons (.int _) ih
def lrO : D → Option D
  | .py (.int n) => if (decide (0 ≤ n) && decide (n ≤ 100000)) = true then some (.py (.list (rgP n.toNat))) else none
  | _ => none
def semLr (fa : EvF D) : EvF D := fun env h => (fa env h).bind fun d h1 => lift (lrO d) h1
theorem lrO_isL {x d : D} (e : lrO x = some d) : isL d = true := by
  unfold lrO at e
  split at e
  · split at e
    · cases e; rfl
    · cases e
  · cases e
theorem k_lrng {a : Expr} {fa : EvF D} {p1 p2 pos1 pos : Pos} (hc : X.calm = true) (hg : Gl X "list") (hm : X.mg "list" = none) (hg2 : Gl X "range") (hm2 : X.mg "range" = none) (ha : PE X a (kE M .b W fa)) (hs : starEach [a] X.env = (false, eval a X.env) :: starEach [] X.env) :
    PE X (.Call (.Name "list" p1) [.Call (.Name "range" p2) [a] [] pos1] [] pos) (kF M W (semLr fa)) := by
  refine PE.mono (pe_listRg hc hg hm (prg_1 hg2 hm2 ha hs) rfl) fun σ H Q ⟨B, L, A, h, env, g, p⟩ => ?_
  refine tG_bindF g p fun x h1 v H1 L1 e1 x1 g1 r1 p1 => ?_
  cases e : lrO x with
  | none => rw [e] at p1; exact p1.elim
  | some d =>
    rw [e] at p1
    unfold lrO at e
    split at e
    · rename_i n
      split at e
      · rename_i c
        cases e
        obtain ⟨c1, c2⟩ := Bool.and_eq_true_iff.mp c
        have c1 := of_decide_eq_true c1
        have c2 := of_decide_eq_true c2
        obtain rfl := r1.int
        refine ⟨n, rfl, RgOk.of_le (by omega) (by omega) (by omega) (by omega), fun q nq => ?_⟩
        have : rgV 0 n = (List.range n.toNat).map fun i => V.int (0 + (i : Nat)) := by unfold rgV; rw [Int.sub_zero]
        rw [this]
        exact p1.fin g1 nq (rgP_rel _)
      · cases e
    · cases e
/-! xs[k] op= e, xs the frame's own, ints -/
theorem get_listG : PGet X (rIxL X.K) := by
  intro pins s σ H o i ov iv Q I ro ri h
  obtain ⟨p, xs, k, z, rfl, rfl, hq, he, q⟩ := h
  cases ro
  obtain ⟨t, rfl⟩ := ri
  obtain ⟨its, r, pl, hz⟩ := I.list hq
  obtain ⟨j, h1, h2, h3, h4, h5⟩ := atI_get he
  obtain ⟨w, ew, rw'⟩ := r.get h2
  have hl := r.length
  have hn := line63
  have fin : EP X pins σ Q w s := ⟨z, H, I, rw', q⟩
  by_cases h0 : 0 ≤ k
  · have hj : k.toNat = j := by
      rw [seqIndex_of h0 h5] at h1
      exact Option.some.inj h1
    exact wpAny_getItem_list pl.isList h0 (by omega) (by rw [hj]; simpa using ew) fin
  · have hj : (k + (its.toArray.size : Int)).toNat = j := by
      rw [seqIndex_neg (by omega) h4] at h1
      rw [List.size_toArray, ← hl]
      exact Option.some.inj h1
    exact wpAny_getItem_list_neg pl.isList (by omega) (by rw [List.size_toArray, ← hl]; omega) (by omega) (by rw [hj]; simpa using ew) fin
def oldAt (xs : List PyData) : D → Option (Nat × Int)
  | .py (.int i) => (ixN xs.length i).bind fun j => match xs[j]? with
    | some (.int a) => some (j, a)
    | _ => none
  | _ => none
theorem oldAt_some {xs : List PyData} {k : D} {j : Nat} {a : Int} (e : oldAt xs k = some (j, a)) : ∃ m : Int, k = .py (.int m) ∧ ixN xs.length m = some j ∧ xs[j]? = some (.int a) := by
  unfold oldAt at e
  split at e
  · rename_i m
    cases q : ixN xs.length m with
    | none => rw [q] at e; cases e
    | some j' =>
      rw [q] at e
      have e : (match xs[j']? with
        | some (.int a) => some (j', a)
        | _ => none) = some (j, a) := e
      split at e
      · cases e; exact ⟨m, rfl, q, by assumption⟩
      · cases e
  · cases e
def semAugL (i : Nat) (f : Int → Int → Int) (fk fe : EvF D) : EvS := fun env h => match env[i]? with
  | some (.o xs) => (fk env h).toS env fun k h1 => match oldAt xs k with
    | some (j, a) => (fe env h1).toS env fun y h2 => match y with
      | .py (.int b) => .nx (env.set i (.o (xs.set j (.int (f a b))))) h2
      | _ => .bad
    | none => .bad
  | _ => .bad
theorem s_augL (hK : M.K = X.K) {i : Nat} {x : Str} {k e : Expr} {fk fe : EvF D} {op : Operator} {f : Int → Int → Int} {np tp pos : Pos} (hN : X.N[i]? = some x) (hv : Vis X.env.scope x) (hd : (x == ("__debug__" : Str)) = false) (hcd : (x == ("__classdict__" : Str)) = false)
    (hk : PE X k (kE M .b W fk)) (he : PE X e (kE M .b W fe)) (hp : PIp X op (ipI f))
    (ha : ∀ ov iv new, augStore k ov iv new = (do holding [new, ov, iv] (setItem ov iv new); release [new, ov, iv] []; pure .next)) : PS X (.AugAssign (.Subscript (.Name x np) k tp) op e pos) (kS M W (semAugL i f fk fe)) := by
  refine PS.mono (ps_augS (pe_var hN hv hd hcd) hk get_listG he hp set_list ha) fun De σ H ⟨B, L, A, h, env, g, p⟩ => ?_
  unfold semAugL at p
  cases e0 : env[i]? with
  | none => rw [e0] at p; exact p.elim
  | some sl =>
    rw [e0] at p
    cases sl with
    | u => exact p.elim
    | x _ _ => exact p.elim
    | v d => exact p.elim
    | o xs =>
      obtain ⟨a, vs, q1, q2, q3, q4⟩ := ownL g e0
      refine ⟨.ref a, q2, ?_⟩
      refine tG_toS g p fun kd h1 kv H1 L1 e1 x1 g1 r1 p1 => ?_
      have q3' := x1.keep a _ q3 (g.own i a q1).1
      have q4' := q4.stay x1.stay (Z' := Zf B L1 A)
      cases eo : oldAt xs kd with
      | none => rw [eo] at p1; exact p1.elim
      | some ja =>
        obtain ⟨j, b⟩ := ja
        rw [eo] at p1
        obtain ⟨m, rfl, hj, hb⟩ := oldAt_some eo
        obtain rfl := r1.int
        obtain ⟨w, hw1, hw2⟩ := q4'.get hb
        cases hw2
        have hj' : ixN vs.length m = some j := by rw [← q4.length]; exact hj
        have at_ : atI vs m = some (.int b) := by unfold atI; rw [hj']; exact hw1
        refine ⟨a, vs, m, _, rfl, rfl, .inl (.inl q3'), at_, ?_⟩
        have p1 : PostS M B W De ((fe env h1).toS env fun y h2 => match y with
          | .py (.int c) => .nx (env.set i (.o (xs.set j (.int (f b c))))) h2
          | _ => .bad) := p1
        refine tG_toS g1 p1 fun y h2 u H2 L2 e2 x2 g2 r2 p2 => ?_
        cases y with
        | loc n => exact p2.elim
        | scr n => exact p2.elim
        | py y =>
          cases y with
          | int c =>
            obtain rfl := r2.int
            have q3'' := x2.keep a _ q3' (g1.own i a q1).1
            have q4'' := q4'.stay x2.stay (Z' := Zf B L2 A)
            exact ⟨b, c, rfl, rfl, a, vs, m, j, rfl, rfl, q3'', hj', p2 _ _ _ _ (g2.setOwn q1 q3'' q2 (RelPs.set (.int _) j q4''))⟩
          | _ => exact p2.elim
/-! len(o), o an instance of an own class -/
theorem len_own {pins : List (Addr × Obj)} {σ : L2.St} {H : Hp} {s : Shared} {Q : VK} {CX : CXT} {k : Nat} {C g a dx : Addr} {fs : List (Str × V)} {fd : FuncData} {ps : List Str} {sp : Sp} (I : Inv X pins σ H s) (ea : H a = some (.ins C dx fs)) (hm : Meth X.K C "__len__" g)
    (F : FnOk X.prog X.w X.K X.mg X.base CX k g fd ps sp) (hr : Room (k + 1) X.A) (hb : Binds X.K fd ps []) (hx : Passes CX X.nox (fun _ _ _ => False)) (h : sp [.ref a] H (fun v H' => ∃ n : Int, v = .int n ∧ 0 ≤ n ∧ n < 2 ^ 62 ∧ Q (.int n) H') (fun _ _ _ => False)) :
    wpAny (model X.prog X.w) X.A (call (.builtin "len") [.ref a]) (EP X pins σ Q) X.xe s := by
  obtain ⟨mA, O, _, _, _, _⟩ := ins_get I.hok ea
  obtain ⟨od, J, _⟩ := O.look
  have hl : ([Value.ref a]).length = ps.length := by rw [← F.len _ _ _ _ h]; rfl
  have bd := hb s [.ref a] I.kIn (by rw [List.append_nil]; exact hl)
  rw [List.append_nil] at bd
  refine Calls.call_function_entry kind_len plain_len entry_len (args_len1 _) ?_
  unfold Builtin.«len»
  refine wpAny_bind (m := oneArg "len" _) (wpAny_pure ?_)
  refine wpAny_bind (m := callSpecial? (.ref a) (Str.ofString "__len__")) (PySem.W.special_fn I.kIn J hm.at_ (beq_iff_eq.mp hm.fn) ?_)
  refine wpAny_call (codeAny_mono (F.run X.A.in1 X.stack s H ⟨[.ref a], []⟩ [.ref a] [.ref a] _ _ hr.in1 I.env0.in1 bd (.cons rfl .nil) h) fun r s' hq => ?_)
  cases r with
  | error er => exact False.elim (hx pins σ H s er s' (I.wish _) hq)
  | ok fl =>
    cases fl with
    | ret u =>
      obtain ⟨v, H', I3, rv, n, rfl, h0, h1, q3⟩ := I.after hq
      obtain ⟨t, rfl⟩ := rv
      refine wpAny_bind (wpAny_holding (wpAny_pure ?_))
      refine wpAny_bind (wpAny_letGo ?_)
      show wpAny _ _ (if n < 0 then _ else _) _ _ _
      rw [if_neg (by omega)]
      show wpAny _ _ (if n ≥ 2 ^ 63 then _ else _) _ _ _
      rw [if_neg (by omega)]
      exact wpAny_bind (wpAny_mkInt (wpAny_pure ⟨_, rfl, ⟨.int n, H', I3.tok _, ⟨_, rfl⟩, q3⟩⟩))
    | next => exact False.elim hq
    | brk => exact False.elim hq
    | cont => exact False.elim hq
def lenX : Out D → Out D
  | .ok (.py (.int n)) h => if (decide (0 ≤ n) && decide (n ≤ 1000000)) = true then .ok (.py (.int n)) h else .bad
  | _ => .bad
def semLenI (c : Nat) (fc : List D → MH → Out D) (f : EvF (List D)) : EvF D := fun env h => (f env h).bind fun ds h1 => match ds with
  | [d] => if insC c h1 d = true then lenX (fc [d] h1) else .bad
  | _ => .bad
def tLenI (X : Cx) (M : MK) (C : Addr) (sp : Sp) (ta : TA) : TE := fun σ H Q => ta σ H fun vs H1 => ∃ a dx fs, vs = [.ref a] ∧ H1 a = some (.ins C dx fs) ∧ sp [.ref a] H1 (fun v H' => ∃ n : Int, v = .int n ∧ 0 ≤ n ∧ n < 2 ^ 62 ∧ Q (.int n) H') (fun _ _ _ => False)
theorem noPass : Passes (L2.CX X.prog X.w) X.nox (fun _ _ _ => False) := by
  intro pins σ H s e s' I q
  obtain ⟨_, _, _, _, _, _, _, _, _, _, _, _, z⟩ := q
  exact z.elim
theorem k_lenI {c k : Nat} {fa : Addr} {fd : FuncData} {ps : List Str} {fc : List D → MH → Out D} {np pos : Pos} {e : Expr} {f : EvF (List D)} (hm : Meth X.K (M.cls c) "__len__" fa)
    (F : FnOk X.prog X.w X.K X.mg X.base (L2.CX X.prog X.w) k fa fd ps (spF M 1 fc)) (hr : Room (k + 1) X.A) (hb : Binds X.K fd ps []) (hn : ∀ ds h, fc ds h ≠ .bad → ds.length = 1)
    (hg : Gl X "len") (hgm : X.mg "len" = none) (ha : PA X [e] (kA M .b W f)) (he : starEach [e] X.env = (false, eval e X.env) :: starEach [] X.env) :
    PE X (.Call (.Name "len" np) [e] [] pos) (kE M .n W (semLenI c fc f)) := by
  have cr : CallR X (.builtin "len") (fun vs H Q => ∃ a dx fs, vs = [.ref a] ∧ H a = some (.ins (M.cls c) dx fs) ∧ spF M 1 fc [.ref a] H (fun v H' => ∃ n : Int, v = .int n ∧ 0 ≤ n ∧ n < 2 ^ 62 ∧ Q (.int n) H') (fun _ _ _ => False)) := by
    intro pins s σ H xs us Q I r h
    obtain ⟨a, dx, fs, rfl, ea, hs⟩ := h
    obtain ⟨u, rfl, ru⟩ := vals1 r
    obtain rfl : u = Value.ref a := ru
    exact len_own I ea hm F hr hb noPass hs
  refine PE.mono (pe_callB cr hg hgm (by decide +kernel) ha (by decide) (by decide) he rfl) fun σ H Q ⟨B, L, A, h, env, g, p⟩ => ?_
  refine tG_bind sm_M g p fun ds h1 vs H1 L1 e1 x1 g1 r1 p1 => ?_
  split at p1
  · rename_i d
    split at p1
    · rename_i hi
      obtain ⟨v, rfl, rv⟩ : ∃ v, vs = [v] ∧ RelM M .b B A H H1 L1 d v := by
        cases r1 with
        | cons r t => cases t; exact ⟨_, rfl, r⟩
      obtain ⟨nn, a, dx, us, fs, rfl, ea, rfl, eh, eH, l, rr⟩ := insC_rel g1 rv hi
      refine ⟨a, dx, _, rfl, eH, B.sub A H1 L1, L1, h1, [.loc nn], rfl, rfl, rfl, g1.enter, .cons (.loc ea) .nil, ?_⟩
      cases e : fc [.loc nn] h1 with
      | ok d h3 =>
        rw [e] at p1
        intro v H' L' x en r
        cases d with
        | loc n => exact p1.elim
        | scr n => exact p1.elim
        | py d =>
          cases d with
          | int n =>
            have p1 : Post M B A env σ W (RelM M .n B A) H1 L1 Q (if (decide (0 ≤ n) && decide (n ≤ 1000000)) = true then .ok (.py (.int n)) h3 else .bad) := p1
            split at p1
            · rename_i c
              obtain ⟨c1, c2⟩ := Bool.and_eq_true_iff.mp c
              cases r with
              | py r =>
                cases r
                exact ⟨n, rfl, of_decide_eq_true c1, by have := of_decide_eq_true c2; omega, p1 _ _ _ x (g1.back x en) (RelM.ofP (.int n))⟩
            · exact p1.elim
          | _ => exact p1.elim
      | exc c fs h3 => rw [e] at p1; exact p1.elim
      | bad => rw [e] at p1; exact p1.elim
    · exact p1.elim
  · exact p1.elim
end
end KF
set_option Elab.async false
set_option linter.all false
set_option maxRecDepth 100000
set_option maxHeartbeats 4000000
/-! KF, part Y: displays of dicts; x[c], y = a, b; x[a], x[b] = u, v. -/
namespace KF
open PySem PySem.Spec PyProof.Rows L2
section
variable {X : Cx} {M : MK} {W : WX}
theorem Out.bind_assoc {α β γ : Type} (o : Out α) (f : α → MH → Out β) (g : β → MH → Out γ) : (o.bind f).bind g = o.bind fun a h => (f a h).bind g := by
  cases o <;> rfl
inductive DispL (X : Cx) (M : MK) (W : WX) : List (Option Expr) → List Expr → EvF (List D) → List (TE × TE) → Prop
  | nil : DispL X M W [] [] semNil []
  | cons {k v : Expr} {ks : List (Option Expr)} {vs : List Expr} {fk fv : EvF D} {f : EvF (List D)} {trs : List (TE × TE)} : PE X k (kE M .n W fk) → PE X v (kE M .n W fv) → DispL X M W ks vs f trs → DispL X M W (some k :: ks) (v :: vs) (semCons fk (semCons fv f)) ((kE M .n W fk, kE M .n W fv) :: trs)
theorem DispL.pps {ks : List (Option Expr)} {vs : List Expr} {f : EvF (List D)} {trs : List (TE × TE)} {pos : Pos} (d : DispL X M W ks vs f trs) : PPs X pos ks vs trs ∧ ks.all (·.isSome) = true ∧ ks.length = vs.length := by
  induction d with
  | nil => exact ⟨pps_nil, rfl, rfl⟩
  | cons h1 h2 _ ih => exact ⟨pps_cons h1 h2 ih.1, by rw [List.all_cons, ih.2.1]; rfl, by rw [List.length_cons, List.length_cons, ih.2.2]⟩
def flat2 (ps : List (V × V)) : List V := ps.flatMap fun p => [p.1, p.2]
def RPairs (M : MK) : RT (List D) (List (V × V)) := fun B A Hs H L ds ps => RelMs M .n B A Hs H L ds (flat2 ps)
theorem sm_Pairs : SM (RPairs M) := fun B A H L H1 L1 H' L' ds ps x r => sm_Ms B A H L H1 L1 H' L' ds (flat2 ps) x r
theorem disp_run {ks : List (Option Expr)} {vs : List Expr} {f : EvF (List D)} {trs : List (TE × TE)} (d : DispL X M W ks vs f trs) : ∀ {B : Bs} {L : List Addr} {A : List (Option Addr)} {h : MH} {env : KF.Env} {σ : L2.St} {H : Hp} {T : List (V × V) → Hp → Prop}, Good M B H L A h env σ → Post M B A env σ W (RPairs M B A) H L T (f env h) → tPairs trs σ H T := by
  induction d with
  | nil => exact fun g p => p [] _ _ (Ext.refl _ _) g .nil
  | @cons k v ks vs fk fv f trs h1 h2 _ ih =>
    intro B L A h env σ H T g p
    refine tG_bind (sm_Pairs (M := M)) g p fun x h1 vx H1 L1 e1 x1 g1 r1 p1 => ?_
    have p1 : Post M B A env σ W (RPairs M B A) H1 L1 T (((fv env h1).bind fun y h2 => (f env h2).bind fun ys h3 => .ok (y :: ys) h3).bind fun xs h2 => .ok (x :: xs) h2) := p1
    rw [Out.bind_assoc] at p1
    refine tG_bind (sm_Pairs (M := M)) g1 p1 fun y h2 vy H2 L2 e2 x2 g2 r2 p2 => ?_
    rw [Out.bind_assoc] at p2
    refine ih g2 ?_
    have r1' : RelM M .n B A H2 H2 L2 x vx := RelM.stay (m := .n) (Hs := H2) r1 x2 fun i a ha => (g1.own i a ha).1
    cases ef : f env h2 with
    | ok ys h3 =>
      rw [ef] at p2
      intro ps H3 L3 x3 g3 r3
      refine p2 ((vx, vy) :: ps) H3 L3 x3 g3 ?_
      have r1'' : RelM M .n B A H2 H3 L3 x vx := RelM.stay (m := .n) r1' x3 fun i a ha => (g2.own i a ha).1
      have r2'' : RelM M .n B A H2 H3 L3 y vy := RelM.stay (m := .n) (Hs := H2) r2 x3 fun i a ha => (g2.own i a ha).1
      exact .cons r1'' (.cons r2'' r3)
    | exc c fs h3 => rw [ef] at p2; exact p2
    | bad => rw [ef] at p2; exact p2
def pairUp : List D → Option KVs
  | [] => some []
  | .py k :: .py v :: r => (pairUp r).map ((k, v) :: ·)
  | _ => none
inductive PairR (K : PySem.W.Frag) (H : Hp) (Z : Addr → Prop) : KVs → List (V × V) → Prop
  | nil : PairR K H Z [] []
  | cons {kd vd : PyData} {kv vv : V} {kvs : KVs} {ps : List (V × V)} : RelP K H Z kd kv → RelP K H Z vd vv → PairR K H Z kvs ps → PairR K H Z ((kd, vd) :: kvs) ((kv, vv) :: ps)
theorem pairUp_rel {B : Bs} {A : List (Option Addr)} {Hs H : Hp} {L : List Addr} : ∀ {ps : List (V × V)} {ds : List D} {kvs : KVs}, pairUp ds = some kvs → RelMs M .n B A Hs H L ds (flat2 ps) → PairR M.K H (Zf B L A) kvs ps
  | [], ds, kvs, e, r => by
    cases r
    cases e
    exact .nil
  | p :: ps, ds, kvs, e, r => by
    obtain ⟨vx, vy⟩ := p
    have r : RelMs M .n B A Hs H L ds (vx :: vy :: flat2 ps) := r
    cases r with
    | @cons dx dr _ _ r1 t =>
      cases t with
      | @cons dy ds' _ _ r2 t =>
        cases dx with
        | loc n => cases e
        | scr n => cases e
        | py dx =>
          cases dy with
          | loc n => cases e
          | scr n => cases e
          | py dy =>
            have e : (pairUp ds').map ((dx, dy) :: ·) = some kvs := e
            cases q : pairUp ds' with
            | none => rw [q] at e; cases e
            | some kvs' =>
              rw [q] at e
              cases e
              cases r1 with
              | py r1 => cases r2 with
                | py r2 => exact .cons r1 r2 (pairUp_rel q t)
def allK (kvs : KVs) : Bool := kvs.all fun kv => (keyOf kv.1).isSome
def allN (kvs : KVs) : Bool := kvs.all fun kv => isT kv.1 && match nk kv.1 with
  | some k => Nat.ble k.depth 8
  | none => false
/-- the dict's place is made ahead of the pairs -/
def dispO (n : Nat) (ds : List D) (h : MH) : Out D := match h[n]?, pairUp ds with
  | some (.dct []), some kvs => if (Nat.ble kvs.length 15 && !kvs.isEmpty && (allK kvs || allN kvs)) = true then .ok (.loc n) (h.set n (.dct (mergeKD [] kvs))) else .bad
  | _, _ => .bad
def semDisp (f : EvF (List D)) : EvF D := fun env h => (f env (h ++ [.dct []])).bind (dispO h.length)
theorem PairR.k {K : PySem.W.Frag} {H : Hp} {Z : Addr → Prop} {kvs : KVs} {ps : List (V × V)} (r : PairR K H Z kvs ps) (ha : allK kvs = true) : ∃ ks : List (Key × V), ps = ks.map (fun kv => (kV kv.1, kv.2)) ∧ DRelK K H Z kvs ks := by
  induction r with
  | nil => exact ⟨[], rfl, .nil⟩
  | @cons kd vd kv vv kvs ps r1 r2 _ ih =>
    have ha : ((keyOf kd).isSome && allK kvs) = true := ha
    obtain ⟨h1, h2⟩ := Bool.and_eq_true_iff.mp ha
    obtain ⟨ks, e, q⟩ := ih h2
    cases ek : keyOf kd with
    | none => rw [ek] at h1; cases h1
    | some k =>
      have : kv = kV k := by
        rcases keyOf_V ek with ⟨i, rfl, rfl⟩ | ⟨x, rfl, rfl⟩
        · cases r1; rfl
        · cases r1; rfl
      subst this
      exact ⟨(k, vv) :: ks, by rw [e]; rfl, .cons ⟨ek, r2⟩ q⟩
theorem mergeK_rel {K : PySem.W.Frag} {H : Hp} {Z : Addr → Prop} {more : KVs} {ms : List (Key × V)} (r2 : DRelK K H Z more ms) : ∀ {kvs : KVs} {ks : List (Key × V)}, DRelK K H Z kvs ks → DRelK K H Z (mergeKD kvs more) (mergeK ks ms) := by
  induction r2 with
  | nil => exact fun r => r
  | cons p _ ih => exact fun r => ih (r.put p.1 p.2)
/-- tuple keys -/
def tDispN (M : MK) (trs : List (TE × TE)) : TE := fun σ H Q => ∀ p, H p = none → tPairs trs σ (upd H p (.dK [])) fun ps H2 => H2 p = some (.dK []) ∧ ∃ (Z : Addr → Prop) (kvs : KVs), PairR M.K H2 Z kvs ps ∧ allN kvs = true ∧ kvs ≠ [] ∧ kvs.length ≤ 15 ∧
  ∀ ob, (∀ L' Z', Stay H2 Z (upd H2 p ob) Z' → MOk M (upd H2 p ob) L' Z' p (.dct (mergeKD [] kvs))) → Q (.ref p) (upd H2 p ob)
theorem PairR.n {pins : List (Addr × Obj)} {σ : L2.St} {s : Shared} {H : Hp} {Z : Addr → Prop} (I : Inv X pins σ H s) : ∀ {kvs : KVs} {ps : List (V × V)} {vs : List (Value × Value)}, PairR X.K H Z kvs ps → VV ps vs → allN kvs = true → ∃ xs : List (NestedKey × Addr × Value), CarriesH (nestedKind X.prog X.w) s.heap vs xs ∧ DRelN X.K H Z kvs xs
  | [], [], vs, .nil, rel, _ => by
    cases rel
    exact ⟨[], trivial, .nil⟩
  | (kd, vd) :: kvs, (kv, vv) :: ps, vs, .cons r1 r2 t, rel, ha => by
    cases rel with
    | @cons _ q _ vs' h1 h2 =>
      obtain ⟨q1, q2⟩ := q
      have ha : ((isT kd && match nk kd with
        | some k => Nat.ble k.depth 8
        | none => false) && allN kvs) = true := ha
      obtain ⟨a1, a2⟩ := Bool.and_eq_true_iff.mp ha
      obtain ⟨a3, a4⟩ := Bool.and_eq_true_iff.mp a1
      obtain ⟨xs, c1, c2⟩ := PairR.n I t h2 a2
      cases en : nk kd with
      | none => rw [en] at a4; cases a4
      | some k =>
        rw [en] at a4
        have dep := Nat.le_of_ble_eq_true a4
        have nest := RelP.nest I r1 h1.1 en
        cases r1 with
        | @tup b us ds hT hr =>
          obtain rfl : q1 = Value.ref b := h1.1
          exact ⟨(k, b, q2) :: xs, ⟨rfl, rfl, ⟨nest, dep⟩, c1⟩, .cons ⟨en, dep, .tup hT hr, vv, h1.2, r2⟩ c2⟩
        | _ => cases a3
theorem pe_dispN (of : Of M X) (hu : X.A.units + 20 < cLine) {pos : Pos} {keys : List (Option Expr)} {values : List Expr} {trs : List (TE × TE)} (h : PPs X pos keys values trs) (hall : keys.all (·.isSome) = true) (hl : keys.length = values.length) (h0 : keys ≠ [])
    (h15 : keys.length ≤ 15) : PE X (.Dict keys values pos) (tDispN M trs) := by
  refine ⟨fun pins s σ H Q I q => ?_⟩
  have hn := I.hok.fresh (Nat.le_refl s.heap.objs.size)
  have I1 := I.laid (a := s.heap.objs.size) (o := .dK []) (h' := s.heap.push { cls := .type "dict", data := .dict #[] }) (t' := s.toks) (fun _ _ q => Heap.get?_push_of_some _ q) (Nat.le_refl _) (dk_empty s.heap I.big)
  have hpl := pairTrees_length keys values X.env pos hall hl
  rw [arm_eval_Dict, zip_pairTrees keys values X.env pos hall hl, dictDisplay_pairs (pairTrees keys values X.env pos) (fun he => h0 (by rw [he] at hpl; exact List.length_eq_zero_iff.mp hpl.symm)) (by omega)]
  refine wpAny_bind (wpAny_standAt (wpAny_bind (wpAny_subDictH (knd := nestedKind X.prog X.w) (show X.A.units + 8 < cLine by omega) (by rw [hpl]; exact h15) (thn (h.run pins _ σ _ _ I1 (q _ hn)) fun ws s2 ⟨ps, H2, I2, rel, e, Z, kvs, pr, an, nek, lk, q2⟩ => ?_))))
  have pr' := pr
  rw [of.K] at pr
  obtain ⟨xs, c1, c2⟩ := PairR.n I2 pr rel an
  obtain ⟨z1, z2⟩ := dK_nil I2 (.inl e)
  have lx : kvs.length = xs.length := Paired.length c2
  have ln := storedAllH_len xs ([] : List (NestedKey × Addr × Value))
  refine ⟨xs, c1, z2, fun h' tk dd hs => wpAny_pure ?_⟩
  obtain ⟨ep, I3⟩ := nest_write (t' := tk) I2 (by rw [e]; exact True.intro) z1 (xs := storedAllH [] xs) (by rw [sizeLine_eq]; have := ln.1; simp at this; omega) hs dd
  refine ⟨.ref s.heap.objs.size, _, I3, rfl, q2 _ fun L' Z' st => ?_⟩
  refine .dN (ep := ep) (by rw [of.prog, of.w]; exact upd_same) ?_ ?_
  · cases xs with
    | nil => exact absurd (List.length_eq_zero_iff.mp lx) nek
    | cons y r => exact (storedAllH_len r (storedH [] y.1 y.2.1 y.2.2)).2 (storedH_len [] y.1 y.2.1 y.2.2).2
  · rw [of.K]
    exact (c2.merge (kvs := []) (xs := []) .nil).stay st
theorem PE.or {e : Expr} {t t' : TE} (h : PE X e t) (h' : PE X e t') : PE X e (fun σ H Q => t σ H Q ∨ t' σ H Q) := ⟨fun pins s σ H Q I q => by
  rcases q with q | q
  · exact h.run pins s σ H Q I q
  · exact h'.run pins s σ H Q I q⟩
theorem k_disp (of : Of M X) (hu : X.A.units + 20 < cLine) {pos : Pos} {keys : List (Option Expr)} {values : List Expr} {f : EvF (List D)} {trs : List (TE × TE)} (d : DispL X M W keys values f trs) (h0 : keys ≠ []) (h15 : keys.length ≤ 15) : PE X (.Dict keys values pos) (kE M .n W (semDisp f)) := by
  obtain ⟨p1, p2, p3⟩ := d.pps (pos := pos)
  refine PE.mono (PE.or (pe_disp p1 p2 p3 h0 h15) (pe_dispN of hu p1 p2 p3 h0 h15)) fun σ H Q ⟨B, L, A, h, env, g, p⟩ => ?_
  have hl := g.len
  have start : ∀ q, H q = none → Good M B (upd H q (.dK [])) (L ++ [q]) A (h ++ [.dct []]) env σ ∧ Ext H L (upd H q (.dK [])) (L ++ [q]) := fun q nq => ⟨g.newL nq fun Z _ => .dK upd_same .nil, ⟨fun a o e _ => same_upd nq a o e, fun a xs e => same_upd nq a _ e, fun a o u e => same_upd nq a _ e, ⟨[q], rfl, fun a ha => (List.mem_singleton.mp ha) ▸ nq⟩, fun a o e => ⟨o, same_upd nq a o e⟩⟩⟩
  unfold semDisp at p
  cases ef : f env (h ++ [.dct []]) with
  | bad => rw [ef] at p; exact p.elim
  | exc c fs h1 =>
    rw [ef] at p
    refine .inl fun q nq => ?_
    obtain ⟨g1, x1⟩ := start q nq
    exact disp_run d g1 (by rw [ef]; exact fun cls dd H' L' x g' r => p cls dd H' L' (x1.trans x) g' r)
  | ok ds h1 =>
    rw [ef] at p
    have p : Post M B A env σ W (RelM M .n B A) H L Q (dispO h.length ds h1) := p
    unfold dispO at p
    split at p
    · rename_i kvs eh ek
      split at p
      · rename_i c
        simp only [Bool.and_eq_true, Bool.or_eq_true, Bool.not_eq_true'] at c
        obtain ⟨⟨c1, c2⟩, c3⟩ := c
        have nek : kvs ≠ [] := fun z => by rw [z] at c2; cases c2
        have l15 := Nat.le_of_ble_eq_true c1
        /- behind the pairs -/
        have fin : ∀ q (nq : H q = none) H2 L2 ob, Ext (upd H q (.dK [])) (L ++ [q]) H2 L2 → Good M B H2 L2 A h1 env σ → H2 q = some (.dK []) → (∀ L' Z', Stay H2 (Zf B L2 A) (upd H2 q ob) Z' → MOk M (upd H2 q ob) L' Z' q (.dct (mergeKD [] kvs))) → Q (.ref q) (upd H2 q ob) := fun q nq H2 L2 ob x2 g2 eq2 hm => by
          obtain ⟨g1, x1⟩ := start q nq
          obtain ⟨N, eN, _⟩ := id x2.pre
          have eL : L2[h.length]? = some q := by rw [eN, ← hl]; refine pre_get ?_; rw [List.getElem?_append_right (Nat.le_refl _)]; simp
          have qL : q ∈ L2 := List.mem_of_getElem? eL
          have m := g2.obj _ _ q eh eL
          refine p (.ref q) _ L2 ?_ (g2.putD eL m hm) (show RelD _ _ _ _ _ _ from .loc eL)
          have mm : ∀ b o, H2 b = some o → b ≠ q → (upd H2 q ob) b = some o := fun b o e z => by rw [upd_ne z]; exact e
          have x12 := x1.trans x2
          have nH : ∀ b o, H b = some o → b ≠ q := fun b o e z => by subst z; rw [nq] at e; cases e
          refine ⟨fun b o e hb => mm b o (x12.keep b o e hb) (nH b o e), fun b xs e => mm b _ (x12.tups b xs e) (nH b _ e), fun b o u e => mm b _ (x12.frzs b o u e) (nH b _ e), x12.pre, fun b o e => ?_⟩
          obtain ⟨o', e'⟩ := x12.dom b o e
          exact ⟨o', mm b o' e' (nH b o e)⟩
        have stand : ∀ q (nq : H q = none) H2 L2, Ext (upd H q (.dK [])) (L ++ [q]) H2 L2 → Good M B H2 L2 A h1 env σ → H2 q = some (.dK []) := fun q nq H2 L2 x2 g2 => by
          obtain ⟨N, eN, _⟩ := id x2.pre
          have eL : L2[h.length]? = some q := by rw [eN, ← hl]; refine pre_get ?_; rw [List.getElem?_append_right (Nat.le_refl _)]; simp
          have m := g2.obj _ _ q eh eL
          cases m with
          | dK e r => cases r; exact e
          | dN e ne r => cases r; exact absurd rfl ne
        rcases c3 with c3 | c3
        · refine .inl fun q nq => ?_
          obtain ⟨g1, x1⟩ := start q nq
          refine disp_run d g1 ?_
          rw [ef]
          intro ps H2 L2 x2 g2 r2
          have pr := pairUp_rel ek r2
          obtain ⟨ks, e1, e2⟩ := pr.k c3
          have hq := stand q nq H2 L2 x2 g2
          refine ⟨hq, ks, e1, by rw [← Paired.length e2]; exact l15, fin q nq H2 L2 _ x2 g2 hq fun L' Z' st => .dK upd_same ((mergeK_rel e2 (kvs := []) (ks := []) .nil).stay st)⟩
        · refine .inr fun q nq => ?_
          obtain ⟨g1, x1⟩ := start q nq
          refine disp_run d g1 ?_
          rw [ef]
          intro ps H2 L2 x2 g2 r2
          have hq := stand q nq H2 L2 x2 g2
          exact ⟨hq, _, kvs, pairUp_rel ek r2, c3, nek, l15, fun ob hm => fin q nq H2 L2 ob x2 g2 hq hm⟩
      · exact p.elim
    · exact p.elim
/-! x[c], y = a, b -/
def semParS (i : Nat) (c : Int) (j : Nat) (f : EvF (List D)) : EvS := fun env h => (f env h).toS env fun ds h1 => match ds, env[i]? with
  | [.py d, e], some (.o xs) => match ixN xs.length c with
    | some m => if j < env.length ∧ i ≠ j then .nx ((env.set i (.o (xs.set m d))).set j (.v e)) h1 else .bad
    | none => .bad
  | _, _ => .bad
theorem s_parS (hK : M.K = X.K) {i j : Nat} {x y : Str} {c : Int} {a b : Expr} {f : EvF (List D)} {px py pt pk ps pos : Pos} {kt k2 kk : Nat} {pt2 : Pos} (hc : X.calm = true) (nd : X.N.Nodup) (hN : X.N[i]? = some x) (hv : Vis X.env.scope x) (hd : (x == ("__debug__" : Str)) = false) (hcd : (x == ("__classdict__" : Str)) = false)
    (hj : X.N[j]? = some y) (hx : Loc X.env.scope y) (hf : X.fn y = true ∨ X.env.scope.names.lookup y = some .local) (ha : PA X [a, b] (kA M .n W f))
    (hs : swapsWithSole [.Tuple [.Subscript (.Name x px) (.Constant (.int c) kk pk) ps, .Name y py] kt pt] (.Tuple [a, b] k2 pt2) pos.line X.env = pure false) (hw : swappedStores [.Tuple [.Subscript (.Name x px) (.Constant (.int c) kk pk) ps, .Name y py] kt pt] (.Tuple [a, b] k2 pt2) X.env = pure none) :
    PS X (.Assign [.Tuple [.Subscript (.Name x px) (.Constant (.int c) kk pk) ps, .Name y py] kt pt] (.Tuple [a, b] k2 pt2) pos) (kS M W (semParS i c j f)) := by
  refine PS.mono (ps_asg (pe_tup ha) (pg_tup hc (pgs_cons (pg_sub (pe_var hN hv hd hcd) pe_int set_list (fun _ => rfl)) (pgs_cons (pg_name nd hj hx hf) pgs_nil rfl) rfl) rfl rfl) hs hw rfl) fun De σ H ⟨B, L, A, h, env, g, p⟩ => ?_
  refine tG_toS g p fun ds h1 vs H1 L1 e1 x1 g1 r1 p1 => ?_
  split at p1
  · rename_i d e xs e0
    split at p1
    · rename_i m em
      split at p1
      · rename_i hlt
        obtain ⟨hlt, nij⟩ := hlt
        cases r1 with
        | cons ra t =>
          cases t with
          | cons rb t =>
            cases t
            rename_i va vb
            refine ⟨by show 2 ≤ sizeLine; decide, fun q nq => ?_⟩
            have sm := same_upd (o := .tup [va, vb]) nq
            have g2 := g1.same sm
            obtain ⟨ad, us, q1, q2, q3, q4⟩ := ownL g2 e0
            have st := (Ext.same L1 sm).stay (B := B) (A := A)
            refine ⟨q, [va, vb], rfl, .inl (.inl upd_same), rfl, va, [vb], rfl, .ref ad, q2, ad, us, c, m, rfl, rfl, q3, by rw [← q4.length]; exact em, vb, [], rfl, ?_⟩
            cases ra with
            | py ra =>
              have g3 := g2.setOwn q1 q3 q2 (RelPs.set (ra.stay st) m q4)
              refine ⟨rfl, p1 _ _ _ _ (g3.setV ?_ (by simpa using hlt))⟩
              have rb2 : RelD M.K (upd H1 q (.tup [va, vb])) L1 (Zf B L1 A) e vb := by
                have := RelD.stay (M := []) st (show RelD M.K H1 L1 (Zf B L1 A) e vb from rb)
                rw [List.append_nil] at this
                exact this
              have za : Zf B L1 A ad := .inr (.inr (List.mem_of_getElem? q1))
              have ne : ∀ b' o, (upd H1 q (.tup [va, vb])) b' = some o → b' ≠ ad → (upd (upd H1 q (.tup [va, vb])) ad (.lst (us.set m va))) b' = some o := fun b' o e q => by rw [upd_ne q]; exact e
              have st2 : Stay (upd H1 q (.tup [va, vb])) (Zf B L1 A) (upd (upd H1 q (.tup [va, vb])) ad (.lst (us.set m va))) (Zf B L1 A) := ⟨fun b' o e z => ne b' o e fun q => z (q ▸ za), fun b' xs e => ne b' _ e (fun q => by subst q; rw [q3] at e; cases e), fun b' o u e => ne b' _ e (fun q => by subst q; rw [q3] at e; cases e), fun b' o _ z => z⟩
              have := RelD.stay (M := []) st2 rb2
              rw [List.append_nil] at this
              exact this
      · exact p1.elim
    · exact p1.elim
  · exact p1.elim
end
end KF
set_option Elab.async false
set_option linter.all false
set_option maxRecDepth 100000
set_option maxHeartbeats 4000000
/-! KF, part Z: texts. -/
namespace KF
open PySem PySem.Spec PyProof.Rows L2
section
variable {X : Cx} {M : MK} {W : WX}
def strsOf : List PyData → Option (List Str)
  | [] => some []
  | .str x :: r => (strsOf r).map (x :: ·)
  | _ => none
theorem strsOf_rel {K : PySem.W.Frag} {H : Hp} {Z : Addr → Prop} : ∀ {xs : List PyData} {vs : List V} {ys : List Str}, strsOf xs = some ys → RelPs K H Z xs vs → vs = ys.map V.str
  | [], _, _, e, .nil => by cases e; rfl
  | x :: r, _, _, e, .cons h t => by
    cases x with
    | str z =>
      have e : (strsOf r).map (z :: ·) = _ := e
      cases q : strsOf r with
      | none => rw [q] at e; cases e
      | some zs =>
        rw [q] at e
        cases e
        cases h
        rw [strsOf_rel q t]; rfl
    | _ => cases e
def joinO (h : MH) (a : Str) (d : D) : Option D := (listOf h d).bind fun xs => (strsOf xs).bind fun ys => if (Nat.ble ((ys.map (·.length)).sum + ys.length * a.length) 100000 && sOk (Txt.join a ys)) = true then some (.py (.str (Txt.join a ys))) else none
def semJoin (fo fe : EvF D) : EvF D := fun env h => (fo env h).bind fun x h1 => match x with
  | .py (.str a) => (fe env h1).bind fun d h2 => lift (joinO h2 a d) h2
  | _ => .bad
theorem k_join (hK : M.K = X.K) {o e : Expr} {apos cpos : Pos} {fo fe : EvF D} (ho : PE X o (kE M .b W fo)) (he : PE X e (kE M .b W fe)) (hs : starEach [e] X.env = [(false, eval e X.env)]) (hb : attributeBase o "join" X.env (eval o X.env) = eval o X.env) (hl : (apos.endLine == cpos.line) = true) :
    PE X (.Call (.Attribute o "join" apos) [e] [] cpos) (kE M .n W (semJoin fo fe)) := by
  refine PE.mono (pe_join ho he hs hb hl) fun σ H Q ⟨B, L, A, h, env, g, p⟩ => ?_
  refine tG_bind sm_M g p fun x h1 v H1 L1 e1 x1 g1 r1 p1 => ?_
  split at p1
  · rename_i a
    obtain ⟨rfl, _⟩ := r1.str
    refine ⟨⟨a, rfl⟩, ?_⟩
    refine tG_bind sm_M g1 p1 fun d h2 u H2 L2 e2 x2 g2 r2 p2 => ?_
    cases ej : joinO h2 a d with
    | none => rw [ej] at p2; exact p2.elim
    | some z =>
      rw [ej] at p2
      unfold joinO at ej
      cases q1 : listOf h2 d with
      | none => rw [q1] at ej; cases ej
      | some xs =>
        rw [q1] at ej
        have ej : ((strsOf xs).bind fun ys => if (Nat.ble ((ys.map (·.length)).sum + ys.length * a.length) 100000 && sOk (Txt.join a ys)) = true then some (D.py (.str (Txt.join a ys))) else none) = some z := ej
        cases q2 : strsOf xs with
        | none => rw [q2] at ej; cases ej
        | some ys =>
          rw [q2] at ej
          have ej : (if (Nat.ble ((ys.map (·.length)).sum + ys.length * a.length) 100000 && sOk (Txt.join a ys)) = true then some (D.py (.str (Txt.join a ys))) else none) = some z := ej
          split at ej
          · rename_i c
            cases ej
            obtain ⟨c1, c2⟩ := Bool.and_eq_true_iff.mp c
            obtain ⟨b, vs, rfl, hr, rel⟩ := listOf_rel g2 r2 q1
            have ev := strsOf_rel q2 rel
            subst ev
            exact ⟨a, b, ys, rfl, rfl, .inl (hK ▸ .inl hr), Nat.le_trans (Nat.le_of_ble_eq_true c1) (by decide), p2.fin g2 (Same.refl _) (RelM.ofP (.str _ c2))⟩
          · cases ej
  · exact p1.elim
end
end KF
set_option Elab.async false
set_option linter.all false
set_option maxRecDepth 100000
set_option maxHeartbeats 4000000
/-! KF: what a suite asks of the exception that it holds: isinstance, a field; an exception made with a field. -/
namespace PySem.W
open PySem PySem.Spec PySem.Calls PyProof.Rows
section
variable {prog : Program} {w : World} {A : Around} {E : Value → Shared → Prop} {s : Shared} {K : Frag} {x D : Addr} {ox od : Obj}
theorem kf_classE {Q : Option Value → Shared → Prop} (hga : findIn K (.ref D) "__getattribute__" = some (some (.builtin "BaseException.__getattribute__"))) (hgt : findIn K (.ref D) "__getattr__" = some none) (hsub : subIn K (.ref D) (.type "BaseException") = some true)
    (hf : findObj K D (some od) "__class__" = some (.bind (.builtin "getset_descriptor.__get__") (.builtin "object.__class__"))) (hm : mroIn K D (.type "object") = some true)
    (X : K.In s.heap) (I : InstAt s.heap x ox D (some od)) (h : Q (some (.ref D)) { s with toks := s.toks + 1 }) : wpAny (model prog w) A (getAttr? (.ref x) "__class__") Q E s := by
  obtain ⟨hp, g, d, t, os⟩ := s
  have L0 := I.type (M := model prog w)
  have L1 := looks_findIn (M := model prog w) X hga
  have L2 := looks_findIn (M := model prog w) X hgt
  have L3 := looks_find (M := model prog w) X I hf
  have sub : Looks (model prog w) hp (isInstance (.ref x) (.type "BaseException")) true := L0.andThen (looks_subIn X hsub)
  have n2 : (Value.builtin "BaseException.__getattribute__" == Value.builtin "object.__getattribute__") = false := by decide +kernel
  have n1 : (onTheHeap (Value.ref D) && Value.builtin "BaseException.__getattribute__" == Value.builtin "object.__getattribute__") = false := by rw [n2]; rfl
  unfold getAttr? getAttrBy? getAttrBy
  refine wpAny_bind (wpAny_mkText (wpAny_bind (wpAny_attempt (wpAny_holding (wpAny_bind (L0.at (wpAny_bind (L1.at ?_))))))))
  show wpAny _ _ (if (onTheHeap (Value.ref D) && Value.builtin "BaseException.__getattribute__" == Value.builtin "object.__getattribute__") = true then _ else _) _ _ _
  rw [n1, if_neg Bool.false_ne_true]
  unfold getAttrByItsOwn hookBefore
  refine wpAny_bind ?_
  rw [if_pos (show onTheHeap (Value.ref D) = true from rfl)]
  refine L2.at (wpAny_bind (wpAny_attempt (wpAny_holding ?_)))
  unfold callGetattribute
  rw [show (false && onTheHeap (Value.builtin "BaseException.__getattribute__")) = false from rfl, if_neg Bool.false_ne_true]
  unfold boundAndCalled
  rw [PySem.F.excAttr_ValueError.ga.bind (.ref x)]
  refine wpAny_bind (wpAny_pure ?_)
  show wpAny _ _ (call (.builtin "BaseException.__getattribute__") [.ref x, .str "__class__" t]) _ _ _
  refine wpAny_call (codeAny_call_builtin PySem.F.excAttr_ValueError.ga.plain PySem.F.entry_bexc_ga ?_)
  refine @check_slot (model prog w) _ _ ⟨hp, g, d, t + 1, os⟩ "BaseException.__getattribute__" "BaseException" "__getattribute__" (.ref x) [.str "__class__" t] [] _ (by decide +kernel) (by decide +kernel) sub (PySem.F.args_bexc_ga (.ref x) (.str "__class__" t)) ?_
  unfold Builtin.«object.__getattribute__»
  refine wpAny_bind (wpAny_of_eq (a := ((Value.ref x : Value), [Value.str "__class__" t])) (by first | rfl | (simp only [slotArgs]; rfl)) ?_)
  refine wpAny_bind (wpAny_pure (wpAny_bind (L0.at (wpAny_bind (L3.at ?_)))))
  show wpAny _ _ (holding [Value.builtin "object.__class__"] (call (.builtin "getset_descriptor.__get__") [.builtin "object.__class__", .ref x, .ref D]) >>= ret) _ _ _
  refine wpAny_bind (wpAny_holding (wpAny_call (class_get (s := ⟨hp, g, d, t + 1, os⟩) (ox := ox) (od := some od) X I hm ?_)))
  refine wpAny_pure ?_
  show wpAny _ _ (handedOut (.ref D)) _ _ _
  rw [handedOut_of (v := .ref D) rfl]
  first
    | exact wpAny_pure (wpAny_pure h)
    | exact wpAny_pure h
    | exact wpAny_pure (wpAny_bind (wpAny_pure (wpAny_pure h)))
end
end PySem.W
namespace KF
open PySem PySem.Spec PyProof.Rows L2
theorem kitX_dict {K : PySem.W.Frag} {x D : Addr} {ox od : Obj} (C : ExcC K D) : PySem.W.KitX K (.ref x) (.ref D) (fun h => PySem.W.InstAt h x ox D (some od)) where
  ty := fun _ _ _ I => I.type
  it := fun _ _ X _ => by
    obtain ⟨cdD, hcD, _⟩ := PySem.W.any_some C.hd
    unfold PySem.W.clsIn at hcD
    split at hcD
    · rename_i c' d' cd' sl' ho
      intro A' Q' E' s' k q
      unfold isType loadHead
      exact wpAny_bind (wpAny_loadPart (k _ _ (X _ _ ho)) (wpAny_pure q))
    · cases hcD
  ne := (PySem.W.handS_kitx_exc (x := x) (ox := ox) C.hg C.hk C.hs C.hd C.ha C.hn C.ht C.hm).ne
  ca := fun X I k => PySem.W.kf_classE C.hg C.hk C.hs (PySem.W.findObj_data (by obtain ⟨cd, hc, _⟩ := PySem.W.any_some C.hd; rw [hc]; rfl) C.ha C.hn C.ht) C.hm X I k
/-- the context of a suite and the exception that it holds -/
def SuiteOf (X : Cx) (M : MK) : Prop := ∃ (X0 : Cx) (a : Addr) (oe : Obj) (pn : List (Addr × Obj)) (cls : Value) (dd : Option Addr), X = X0.suite a ((a, oe) :: pn) ∧ Zc cls dd oe ∧ (∃ vs, oe.data = .fields vs) ∧ M.cur = some (a, cls, dd)
def rIsX (K : PySem.W.Frag) (a : Addr) (cls : Value) (dd : Option Addr) : List V → Hp → VK → Prop := fun xs H Q => ∃ (D cv : Addr) (b : Bool), xs = [.ref a, .ref cv] ∧ cls = .ref D ∧ ExcC K D ∧ PySem.W.kitOne K (.ref D) (.ref cv) = some b ∧ (∀ d, dd = some d → ∃ fs, H d = some (.xd fs)) ∧ Q (.bl b) H
theorem call_isX {X : Cx} {a : Addr} {oe : Obj} {pn : List (Addr × Obj)} {cls : Value} {dd : Option Addr} (hz : Zc cls dd oe) (hf : ∃ vs, oe.data = .fields vs) : CallR (X.suite a ((a, oe) :: pn)) (.builtin "isinstance") (rIsX X.K a cls dd) := by
  intro pins s σ H xs us Q I r h
  obtain ⟨D, cv, b, rfl, rfl, C, e, hd, q⟩ := h
  cases dd with
  | none => exact call_isE C hz hf pins s σ H _ us Q I r ⟨.ref cv, .ref cv, b, rfl, fun u ru => by cases ru; rfl, e, q⟩
  | some d =>
    cases r with
    | cons rx rr =>
      cases rr with
      | cons rt rr =>
        cases rr
        cases rx
        cases rt
        obtain ⟨hget, _⟩ := I.pin (a, oe) (List.mem_append.mpr (.inl List.mem_cons_self))
        obtain ⟨vs, hv⟩ := hf
        obtain ⟨fs, hx⟩ := hd d rfl
        have ho : ObjOk X.prog X.w H s.heap d (.xd fs) := I.hok d _ hx
        obtain ⟨mA, hns, hr⟩ := ho
        obtain ⟨od, ho, hl⟩ := lookIn_ns hns
        have J : PySem.W.InstAt s.heap a oe D (some od) := ⟨hget, hz.1, by unfold PySem.W.notCls; rw [hv] <;> rfl, by rw [hz.2]; exact ho⟩
        exact PySem.W.kia_one (kitX_dict C) I.kIn J e (fun z => nomatch z) fun tk => ⟨.bl b, H, I.kept (t' := tk) fun _ _ z => z, rfl, q⟩
section
variable {X : Cx} {M : MK} {W : WX}
def semXis (ids : List Nat) (i b : Nat) : EvF D := fun env h => match env[i]? with
  | some (.x c _) => match subE ids c b with
    | some t => .ok (.py (.bool t)) h
    | none => .bad
  | _ => .bad
theorem k_xis {ids : List Nat} {i b : Nat} {x C : Str} {Cb : Addr} {p1 px pc pos : Pos} (su : SuiteOf X M) (hN : X.N[i]? = some x) (hv : Vis X.env.scope x) (hd : (x == ("__debug__" : Str)) = false) (hcd : (x == ("__classdict__" : Str)) = false)
    (hg : Gl X "isinstance") (hm : X.mg "isinstance" = none) (gC : Gl X C) (mC : X.mg C = some (.ref Cb)) (eb : M.xcls b = .ref Cb) (dC : (C == ("__debug__" : Str)) = false)
    (ei : ∀ a b t, subE ids a b = some t → ∃ D E, M.xcls a = .ref D ∧ M.xcls b = .ref E ∧ ExcC X.K D ∧ PySem.W.kitOne X.K (.ref D) (.ref E) = some t) :
    PE X (.Call (.Name "isinstance" p1) [.Name x px, .Name C pc] [] pos) (kE M .n W (semXis ids i b)) := by
  have hb : bootBuiltins "isinstance" = some (.builtin "isinstance") := by decide +kernel
  obtain ⟨X0, a, oe, pn, cls, dd, rfl, hz, hf, hc⟩ := su
  refine PE.mono (pe_callB (call_isX hz hf) hg hm hb (pa_cons (pe_var hN hv hd hcd) (pa_cons (pe_glob (v := .ref Cb) gC mC rfl dC) pa_nil rfl) rfl) (by decide) (by decide) rfl rfl) fun σ H Q ⟨B, L, A, h, env, g, p⟩ => ?_
  unfold semXis at p
  cases e0 : env[i]? with
  | none => rw [e0] at p; exact p.elim
  | some sl =>
    rw [e0] at p
    cases sl with
    | u => exact p.elim
    | v d => exact p.elim
    | o xs => exact p.elim
    | x c fs =>
      dsimp only at p
      cases es : subE ids c b with
      | none => rw [es] at p; exact p.elim
      | some t =>
        rw [es] at p
        cases g.slot i _ e0 with
        | x q1 q2 q3 q4 =>
          rw [hc] at q3
          cases q3
          obtain ⟨D, E, d1, d2, d3, d4⟩ := ei c b t es
          rw [eb] at d2
          cases d2
          refine ⟨_, q2, D, Cb, t, rfl, ?_, d3, d4, ?_, p.fin g (Same.refl H) (RelM.ofP (.bl _))⟩
          · cases q4 with
            | bare => exact d1
            | fld => exact d1
          · intro d ed
            cases q4 with
            | bare => cases ed
            | fld e1 e2 e3 e4 => cases ed; exact ⟨_, e2⟩
def semXfld (cs : List Nat) (i : Nat) : EvF D := fun env h => match env[i]? with
  | some (.x c [d]) => if cs.contains c = true then .ok d h else .bad
  | _ => .bad
theorem k_xfld {cs : List Nat} {i : Nat} {x f : Str} {px pos : Pos} (su : SuiteOf X M) (hN : X.N[i]? = some x) (hv : Vis X.env.scope x) (hd : (x == ("__debug__" : Str)) = false) (hcd : (x == ("__classdict__" : Str)) = false)
    (hcs : ∀ c ∈ cs, M.xflds c = [f] ∧ ∃ C, M.xcls c = .ref C ∧ XfC X.K C ∧ PySem.W.findIn X.K (.ref C) f = some none) :
    PE X (.Attribute (.Name x px) f pos) (kE M .n W (semXfld cs i)) := by
  obtain ⟨X0, a, oe, pn, cls, dd, rfl, hz, hf, hc⟩ := su
  refine ⟨fun pins s σ H Q I ⟨B, L, A, h, env, g, p⟩ => ?_⟩
  unfold semXfld at p
  cases e0 : env[i]? with
  | none => rw [e0] at p; exact p.elim
  | some sl =>
    rw [e0] at p
    cases sl with
    | u => exact p.elim
    | v d => exact p.elim
    | o xs => exact p.elim
    | x c fs =>
      cases fs with
      | nil => exact p.elim
      | cons d r =>
        cases r with
        | cons _ _ => exact p.elim
        | nil =>
          dsimp only at p
          by_cases hm : cs.contains c = true
          · rw [if_pos hm] at p
            obtain ⟨h1, C, h2, h3, h4⟩ := hcs c (by simpa using hm)
            cases g.slot i _ e0 with
            | x q1 q2 q3 q4 =>
              rw [hc] at q3
              cases q3
              cases q4 with
              | @fld _ v ad f' e1 e2 e3 e4 =>
                rw [h1] at e1
                cases e1
                exact (pe_xf h3 h4 hz hf (pe_var (X := X0.suite a ((a, oe) :: pn)) hN hv hd hcd) rfl).run pins s σ H Q I ⟨_, q2, rfl, h2, ad, _, v, rfl, e2, by simp [List.lookup], p.fin g (Same.refl H) e4⟩
          · rw [if_neg hm] at p; exact p.elim
end
end KF
set_option Elab.async false
set_option linter.all false
set_option maxRecDepth 100000
set_option maxHeartbeats 4000000
/-! KF: raise C(e) with a field; try .. except C as e. -/
namespace KF
open PySem PySem.Spec PyProof.Rows L2
/-! ### C(e): its __init__ keeps e in a field -/
def spI (C : Addr) (f : Str) : Sp := fun vs H Q _ => ∃ (a : Addr) (y : V), vs = [.ref a, y] ∧ H a = some (exo a C none) ∧ ∀ dx, H dx = none → dx ≠ a → Q .non (upd (upd H dx (exd dx [(f, y)])) a (exo a C (some dx)))
/-- def __init__(self, f): self.f = f -/
def iniS (f : Str) : List Stmt → Option (Pos × Pos × Pos × Pos)
  | [.Assign [.Attribute (.Name s p1) g p2] (.Name v p3) p4] => if (decide (s = "self") && decide (g = f) && decide (v = f)) = true then some (p1, p2, p3, p4) else none
  | _ => none
theorem iniS_ok {f : Str} {b : List Stmt} {q : Pos × Pos × Pos × Pos} (h : iniS f b = some q) : b = [.Assign [.Attribute (.Name "self" q.1) f q.2.1] (.Name f q.2.2.1) q.2.2.2] := by
  unfold iniS at h
  split at h
  · split at h
    · rename_i hc
      cases h
      simp only [Bool.and_eq_true, decide_eq_true_eq] at hc
      obtain ⟨⟨rfl, rfl⟩, rfl⟩ := hc
      rfl
    · cases h
  · cases h
def visL (sc : Scope) (x : Str) : Bool := match sc.names.lookup x with
  | some .local => true
  | _ => false
theorem visL_ok {sc : Scope} {x : Str} (h : visL sc x = true) : Vis sc x := by
  unfold visL at h
  split at h
  · exact .inl (by assumption)
  · cases h
def okNm (x : Str) : Bool := !(x == ("__debug__" : Str)) && !(x == ("__classdict__" : Str))
theorem okNm_ok {x : Str} (h : okNm x = true) : (x == ("__debug__" : Str)) = false ∧ (x == ("__classdict__" : Str)) = false := by
  unfold okNm at h
  obtain ⟨h1, h2⟩ := Bool.and_eq_true_iff.mp h
  exact ⟨by simpa using h1, by simpa using h2⟩
theorem ini_ok {P : Program} {w : World} {K : PySem.W.Frag} {mg : Str → Option Value} {base : Heap} {x qual : Str} {params : Arguments} {body : List Stmt} {scope : Scope} {fI C : Addr} {fd : FuncData} {f : Str} {q : Pos × Pos × Pos × Pos}
    (FD : FunD K x qual params body scope [] [] fI fd) (S : FnScope ["self", f] ["self", f] scope) (hb : iniS f body = some q) (v1 : visL scope "self" = true) (v2 : visL scope f = true) (o2 : okNm f = true) (T : OexC K C) (no : PySem.W.findIn K (.ref C) f = some none) :
    FnOk P w K mg base (L2.CX P w) 1 fI fd ["self", f] (spI C f) := by
  refine FD.ok S (fun vs H Q E h => ?_) fun cdv A outer s H vs Q E hr h => ?_
  · obtain ⟨a, y, rfl, _⟩ := h; rfl
  · obtain ⟨a, y, rfl, e1, e2⟩ := h
    rw [iniS_ok hb]
    refine ⟨_, pss_one (ps_ost (pe_var (i := 0) rfl (visL_ok v1) (by decide) (by decide)) (pe_var (i := 1) rfl (visL_ok v2) (okNm_ok o2).1 (okNm_ok o2).2) rfl), ?_⟩
    exact ⟨y, rfl, .ref a, rfl, a, C, rfl, T, no, .inl ⟨e1, fun dx n ne => e2 dx n ne⟩⟩
section
variable {X : Cx} {M : MK} {W : WX}
/-- what a raise of C(e) wants -/
structure RaI (X : Cx) (M : MK) (x : Str) (c : Nat) (f : Str) : Prop where
  ex : ∃ (C fI : Addr) (fd : FuncData), X.mg x = some (.ref C) ∧ M.xcls c = .ref C ∧ M.xflds c = [f] ∧ OexC X.K C ∧ PySem.W.findIn X.K (.ref C) "__init__" = some (some (.ref fI)) ∧ PySem.W.typeIn X.K (.ref fI) = some (.type "function") ∧
    FnOk X.prog X.w X.K X.mg X.base (L2.CX X.prog X.w) 1 fI fd ["self", f] (spI C f) ∧ Room 2 X.A ∧ Binds X.K fd ["self", f] []
theorem relD_st {K : PySem.W.Frag} {H H' : Hp} {L : List Addr} {Z Z' : Addr → Prop} (s : Stay H Z H' Z') {d : D} {v : V} (r : RelD K H L Z d v) : RelD K H' L Z' d v := by
  have := r.stay (M := []) s
  rw [List.append_nil] at this
  exact this
def semRaisF (c : Nat) (fa : EvF D) : EvS := fun env h => (fa env h).toS env fun d h1 => .exc c [d] env h1
theorem upd_mk {H1 : Hp} {a d C : Addr} {f : Str} {y : V} (na : H1 a = none) (ne : d ≠ a) :
    upd (L2.del (upd (upd (upd H1 a (exo a C none)) d (exd d [(f, y)])) a (exo a C (some d))) a) d (.xd [(f, y)]) = upd H1 d (.xd [(f, y)]) := by
  funext b
  by_cases hb : b = d
  · subst hb; rw [upd_same, upd_same]
  · rw [upd_ne hb, upd_ne hb]
    by_cases ha : b = a
    · subst ha; rw [L2.del_same, na]
    · rw [L2.del_ne ha, upd_ne ha, upd_ne hb, upd_ne ha]
theorem s_raisF {c : Nat} {x f : Str} {e : Expr} {fa : EvF D} {p pos pos' : Pos} (hc : X.calm = true) (tk : Takes X W) (R : RaI X M x c f) (hg : Gl X x) (hdb : (x == ("__debug__" : Str)) = false) (ha : PE X e (kE M .n W fa)) (he : starEach [e] X.env = [(false, eval e X.env)]) :
    PS X (.Raise (some (.Call (.Name x p) [e] [] pos)) none pos') (kS M W (semRaisF c fa)) := by
  obtain ⟨C, fI, fd, r1, r2, r3, r4, r5, r6, r7, r8, r9⟩ := R.ex
  have he' : starEach [e] X.env = (false, eval e X.env) :: starEach [] X.env := he
  refine PS.mono (ps_raise hc tk (pmk_oex (ds := []) (dvs := []) r4 r5 r6 r7 r8 r9 .nil (passes_call tk fun _ _ _ _ z => z.elim) hg r1 (pa_cons ha pa_nil he') hdb he' rfl)) fun De σ H ⟨B, L, A, h, env, g, p⟩ => ?_
  refine tG_toS g p fun d h1 v H1 L1 e1 x1 g1 rr p1 => ?_
  refine ⟨by simp, fun a na => ⟨a, v, rfl, upd_same, fun dx n ne => ⟨rfl, dx, [(f, v)], upd_same, by rw [upd_ne ne, upd_same], ?_, ?_⟩⟩⟩
  · rw [upd_ne ne] at n; exact n
  · have nd : H1 dx = none := by rw [upd_ne ne] at n; exact n
    have sm : Same H1 (upd H1 dx (.xd [(f, v)])) := same_upd nd
    rw [upd_mk na ne]
    have q := p1 (M.xcls c) (some dx) σ _ L1 A (g1.same sm) (.fld r3 upd_same (g1.free nd) (relD_st (Ext.same L1 sm).stay rr))
    rw [r2] at q
    exact q
end
/-! ### try .. except C as e: suite -/
def slX : Sl → Sl
  | .x _ _ => .u
  | s => s
def unx (env : KF.Env) : KF.Env := env.map slX
abbrev MK.at_ (M : MK) (c : Option (Addr × Value × Option Addr)) : MK := { M with cur := c }
section
variable {M : MK} {B : Bs} {A : List (Option Addr)} {H H' : Hp} {L L' : List Addr} {h h' : MH} {env : KF.Env} {σ : L2.St} {c : Option (Addr × Value × Option Addr)}
theorem MOk.toC {Z : Addr → Prop} {a : Addr} {o : MO} (m : MOk M H L Z a o) : MOk (M.at_ c) H L Z a o := by
  cases m with
  | lst h r => exact .lst h r
  | ins h l r => exact .ins h l r
  | dK h r => exact .dK h r
  | dN h l r => exact .dN h l r
  | lK h r => exact .lK h r
  | lN h l r => exact .lN h l r
theorem MOk.ofC {Z : Addr → Prop} {a : Addr} {o : MO} (m : MOk (M.at_ c) H L Z a o) : MOk M H L Z a o := by
  cases m with
  | lst h r => exact .lst h r
  | ins h l r => exact .ins h l r
  | dK h r => exact .dK h r
  | dN h l r => exact .dN h l r
  | lK h r => exact .lK h r
  | lN h l r => exact .lN h l r
theorem XRelZ.toC {Z : Addr → Prop} {n : Nat} {fs : List D} {cls : Value} {dd : Option Addr} (r : XRelZ M H L Z n fs cls dd) : XRelZ (M.at_ c) H L Z n fs cls dd := by
  cases r with
  | bare => exact .bare (M := M.at_ c) _
  | fld e1 e2 e3 e4 => exact .fld (M := M.at_ c) e1 e2 e3 e4
theorem Good.toC (g : Good M B H L A h env σ) (n : M.cur = none) : Good (M.at_ c) B H L A h env σ := by
  refine ⟨g.len, g.nd, fun n o a e1 e2 => (g.obj n o a e1 e2).toC, g.ls, g.lpre, g.base, g.btup, g.bfrz, g.dom, g.sdom, g.alen, g.slen, g.own, g.odis, fun i sl e => ?_⟩
  cases g.slot i sl e with
  | u q => exact .u q
  | v q1 q2 q3 => exact .v q1 q2 q3
  | o q1 q2 q3 q4 => exact .o q1 q2 q3 q4
  | x q1 q2 q3 q4 => rw [n] at q3; cases q3
theorem Good.ofC (g : Good (M.at_ c) B H L A h env σ) : Good M B H L A h (unx env) σ := by
  refine ⟨g.len, g.nd, fun n o a e1 e2 => (g.obj n o a e1 e2).ofC, g.ls, g.lpre, g.base, g.btup, g.bfrz, g.dom, g.sdom, by simp [unx, g.alen], by simp [unx, g.slen], g.own, g.odis, fun i sl e => ?_⟩
  unfold unx at e
  rw [List.getElem?_map] at e
  cases e0 : env[i]? with
  | none => rw [e0] at e; cases e
  | some s =>
    rw [e0] at e
    cases e
    cases g.slot i s e0 with
    | u q => exact .u q
    | v q1 q2 q3 => exact .v q1 q2 q3
    | o q1 q2 q3 q4 => exact .o q1 q2 q3 q4
    | x q1 q2 q3 q4 => exact .u q1
theorem Good.setU (g : Good M B H L A h env σ) {i : Nat} (hi : i < env.length) : Good M B H L (A.set i none) h (env.set i .u) (σ.set i none) := by
  have hA : i < A.length := by rw [g.alen]; exact hi
  refine ⟨g.len, g.nd, fun n o a e1 e2 => (g.obj n o a e1 e2).zed fun b z => zf_none z, g.ls, g.lpre, g.base, g.btup, g.bfrz, g.dom, g.sdom, by simp [g.alen], by simp [g.slen], fun j a e => ?_, fun j k a e1 e2 => ?_, fun j sl e => ?_⟩
  · by_cases hj : j = i
    · subst hj; rw [List.getElem?_set_self hA] at e; cases e
    · rw [List.getElem?_set_ne (Ne.symm hj)] at e; exact g.own j a e
  · by_cases hj : j = i
    · subst hj; rw [List.getElem?_set_self hA] at e1; cases e1
    · by_cases hk : k = i
      · subst hk; rw [List.getElem?_set_self hA] at e2; cases e2
      · rw [List.getElem?_set_ne (Ne.symm hj)] at e1
        rw [List.getElem?_set_ne (Ne.symm hk)] at e2
        exact g.odis j k a e1 e2
  · by_cases hj : j = i
    · subst hj
      rw [List.getElem?_set_self hi] at e; cases e
      exact .u (List.getElem?_set_self hA)
    · rw [List.getElem?_set_ne (Ne.symm hj)] at e
      exact (g.slot j sl e).zed (List.getElem?_set_ne (Ne.symm hj)) (List.getElem?_set_ne (Ne.symm hj)) fun b z => zf_none z
theorem Good.setX (g : Good M B H L A h env σ) {i n : Nat} {fs : List D} {a : Addr} {cls : Value} {dd : Option Addr} (hA : A[i]? = some none) (hc : M.cur = some (a, cls, dd)) (r : XRel M B A H L n fs cls dd) : Good M B H L A h (env.set i (.x n fs)) (σ.set i (some (.ref a))) := by
  have hi : i < env.length := by rw [← g.alen]; exact (List.getElem?_eq_some_iff.mp hA).1
  have hS : i < σ.length := by rw [g.slen]; exact hi
  refine ⟨g.len, g.nd, g.obj, g.ls, g.lpre, g.base, g.btup, g.bfrz, g.dom, g.sdom, by simp [g.alen], by simp [g.slen], g.own, g.odis, fun j sl e => ?_⟩
  by_cases hj : j = i
  · subst hj
    rw [List.getElem?_set_self hi] at e; cases e
    exact .x hA (List.getElem?_set_self hS) hc r
  · rw [List.getElem?_set_ne (Ne.symm hj)] at e
    exact (g.slot j sl e).zed rfl (List.getElem?_set_ne (Ne.symm hj)) fun b z => z
theorem Good.aNone (g : Good M B H L A h env σ) {i : Nat} {sl : Sl} (e : env[i]? = some sl) (no : ∀ xs, sl ≠ .o xs) : A[i]? = some none := by
  cases g.slot i sl e with
  | u q => exact q
  | v q _ _ => exact q
  | o q _ _ _ => exact absurd rfl (no _)
  | x q _ _ _ => exact q
end
def endX (i : Nat) : OutS → OutS
  | .nx env h => if i < env.length then .nx ((unx env).set i .u) h else .bad
  | .rt d h => .rt d h
  | _ => .bad
def sufX (i c : Nat) (fs : List D) (f : EvS) (env : KF.Env) (h : MH) : OutS := match env[i]? with
  | some (.o _) => .bad
  | some _ => endX i (f (env.set i (.x c fs)) h)
  | none => .bad
def tryA (ids : List Nat) (i b c : Nat) (fs : List D) (f : EvS) (env : KF.Env) (h : MH) : OutS := match subE ids c b with
  | some true => sufX i c fs f env h
  | some false => .exc c fs env h
  | none => .bad
def semTryA (ids : List Nat) (i b : Nat) (f fsu : EvS) : EvS := fun env h => match f env h with
  | .exc c fs env' h' => tryA ids i b c fs fsu env' h'
  | o => o
section
variable {X : Cx} {M : MK} {W : WX}
theorem s_tryA {ids : List Nat} {i b : Nat} {x n : Str} {f fsu : EvS} {body suite : List Stmt} {b0 : Stmt} {np pos pos' : Pos} (hcur : M.cur = none) (hs : X.stack = X.env :: X.outer) (hf : X.env.frame = some X.env.locals) (hN : X.N.Nodup) (hi : X.N[i]? = some n) (hln : X.env.kindOf n = some .local)
    (hc : Names X x (M.xcls b)) (tk : Takes X W) (hm : ∀ a b t, subE ids a b = some t → PySem.W.exmOne X.K (M.xcls a) (M.xcls b) = some t)
    (hb : ∀ (W' : WX) (pn : List (Addr × Obj)) (xe : Value → Shared → Prop), Takes (X.tr pn xe) W' → PassesOwn (model X.prog X.w) X.A X.env xe → PSs (X.tr pn xe) body (kS M W' f))
    (hsu : ∀ (a : Addr) (oe : Obj) (cls : Value) (d : Option Addr) (pn : List (Addr × Obj)), Zc cls d oe → (∃ vs, oe.data = .fields vs) → PSs (X.suite a ((a, oe) :: pn)) (b0 :: suite) (kS (M.at_ (some (a, cls, d))) WX0 fsu)) :
    PS X (.Try body [.ExceptHandler (some (.Name x np)) (some n) (b0 :: suite) pos'] [] [] pos) (kS M W (semTryA ids i b f fsu)) := by
  refine PS.mono (ps_try_as (tb := fun W' => kS M W' f) (ts := fun a cls d => kS (M.at_ (some (a, cls, d))) WX0 fsu) hs hf hN hi hln hc tk hb hsu) fun De σ H ⟨B, L, A, h, env, g, p⟩ => ⟨B, L, A, h, env, g, ?_⟩
  unfold semTryA at p
  cases e : f env h with
  | nx env' h' => rw [e] at p; exact p
  | rt d h' => rw [e] at p; exact p
  | bad => rw [e] at p; exact p
  | exc c fs env' h' =>
    rw [e] at p
    have p : PostS M B W De (tryA ids i b c fs fsu env' h') := p
    intro cls dd σ' H' L' A' g' r'
    have ec : cls = M.xcls c := by cases r' <;> rfl
    unfold tryA at p
    cases es : subE ids c b with
    | none => rw [es] at p; exact p.elim
    | some t =>
      rw [es] at p
      refine ⟨t, ec ▸ hm c b t es, fun et a na => ?_, fun et => ?_⟩
      · subst et
        have p : PostS M B W De (sufX i c fs fsu env' h') := p
        unfold sufX at p
        cases e0 : env'[i]? with
        | none => rw [e0] at p; exact p.elim
        | some sl =>
          rw [e0] at p
          have key : (∀ xs, sl ≠ .o xs) → PostS M B W De (endX i (fsu (env'.set i (.x c fs)) h')) → kS (M.at_ (some (a, cls, dd))) WX0 fsu { nx := fun σ' H' => De.nx (σ'.set i none) H', rt := De.rt, bk := fun σ' H' => De.bk (σ'.set i none) H', ct := fun σ' H' => De.ct (σ'.set i none) H' } (σ'.set i (some (.ref a))) H' := fun no p => by
            refine ⟨B, L', A', h', env'.set i (.x c fs), Good.setX (g'.toC hcur) (g'.aNone e0 no) rfl r'.toC, ?_⟩
            cases eo : fsu (env'.set i (.x c fs)) h' with
            | nx env2 h2 =>
              rw [eo] at p
              have p : PostS M B W De (if i < env2.length then .nx ((unx env2).set i .u) h2 else .bad) := p
              intro σ2 H2 L2 A2 g2
              by_cases hl : i < env2.length
              · rw [if_pos hl] at p
                exact p _ _ _ _ (g2.ofC.setU (by simpa [unx] using hl))
              · rw [if_neg hl] at p; exact p.elim
            | rt d h2 =>
              rw [eo] at p
              exact fun v H2 L2 A2 env2 σ2 g2 r2 => p v H2 L2 A2 (unx env2) σ2 g2.ofC r2
            | exc _ _ _ _ => rw [eo] at p; exact p.elim
            | bad => rw [eo] at p; exact p.elim
          cases sl with
          | u => exact key (fun _ z => nomatch z) p
          | v d => exact key (fun _ z => nomatch z) p
          | o xs => exact p.elim
          | x _ _ => exact key (fun _ z => nomatch z) p
      · subst et
        exact p cls dd σ' H' L' A' g' r'
end
end KF
set_option Elab.async false
set_option linter.all false
set_option maxRecDepth 100000
set_option maxHeartbeats 4000000
/-! KF, part 14: looks at the text; the language and what it means. -/
namespace KF
open PySem PySem.Spec PyProof.Rows L2
/-! ### looks at the text -/
def starOk : Expr → Bool
  | .Starred _ _ => false
  | _ => true
theorem star1 {e : Expr} {es : List Expr} {env : PySem.Env} (h : starOk e = true) : starEach (e :: es) env = (false, eval e env) :: starEach es env := by
  cases e <;> first | rfl | cases h
theorem star_any {env : PySem.Env} {pos : Pos} : ∀ {es : List Expr}, es.all starOk = true → (backTo pos (starEach es env)).any (·.1) = false := by
  intro es h
  induction es with
  | nil => rfl
  | cons e es ih =>
    rw [List.all_cons, Bool.and_eq_true] at h
    rw [star1 h.1]
    exact ih h.2
def trueOk : Expr → Bool
  | .UnaryOp .Not _ _ => false
  | .BoolOp _ _ _ => false
  | .IfExp _ _ _ _ => false
  | .Compare _ _ _ _ => false
  | _ => true
theorem isTrue1 {e : Expr} {env : PySem.Env} (h : trueOk e = true) : ∀ whole, isTrue e env whole = (do let v ← whole; standAt e.pos; holding [v] (truthy v)) := by
  cases e with
  | UnaryOp op x p => cases op <;> first | exact fun _ => rfl | cases h
  | _ => first | exact fun _ => rfl | cases h
def noComp : Expr → Bool
  | .ListComp _ _ _ _ => false
  | .SetComp _ _ _ _ => false
  | .DictComp _ _ _ _ _ => false
  | _ => true
theorem swaps1 {e : Expr} {t : Option Expr} {l : Nat} {env : PySem.Env} (h : noComp e = true) : swapsWith e t l env = pure false := by
  cases e <;> first | rfl | cases h
def noSet : Expr → Bool
  | .Set _ _ _ => false
  | _ => true
theorem folded1 {e : Expr} {env : PySem.Env} (h : noSet e = true) : ∀ x, foldedSetIterable e env x = pure x := by
  intro x
  cases e <;> first | rfl | cases h
theorem marks1 {op : CmpOp} {e : Expr} (h : noSet e = true) : behindInMarks op e = false := by
  cases e <;> first | rfl | cases h
def noSlice : Expr → Bool
  | .Slice _ _ _ _ => false
  | .Tuple _ _ _ => false
  | _ => true
theorem plain1 {e : Expr} (h : noSlice e = true) : PlainIx e := by
  cases e <;> first | (intro _ _; rfl) | cases h
def isTup : Expr → Bool
  | .Tuple _ _ _ => true
  | _ => false
theorem sw_none {tg e : Expr} {env : PySem.Env} (h : isTup e = false) : swappedStores [tg] e env = pure none := by
  cases e <;> first | (cases tg <;> rfl) | cases h
theorem sw_sub {a b : Expr} {p : Pos} {e : Expr} {env : PySem.Env} : swappedStores [.Subscript a b p] e env = pure none := by
  cases e <;> rfl
theorem asnSub {o k : Expr} {tp : Pos} {env : PySem.Env} (h : noSlice k = true) : AsnSub o k tp env := by
  intro v
  cases k <;> first | rfl | cases h
def isStar : Expr → Bool
  | .Starred _ _ => true
  | _ => false
/-- a, b = x, y with plain names: no tuple is made -/
theorem sw_two {x y : Str} {px py pt p2 : Pos} {kt k2 : Nat} {a b : Expr} {env : PySem.Env} (hk : env.scope.kind = .function) (hx : env.scope.names.lookup x = some .local) (hy : env.scope.names.lookup y = some .local) (hl : (py.line == px.line) = true) (ne : x ≠ y)
    (ns : isStar a = false) (ns2 : isStar b = false) (c1 : [a, b].all (foldedForSure 8) = false) (c2 : [a, b].all (constantsAlone 8) = false) :
    swappedStores [.Tuple [.Name x px, .Name y py] kt pt] (.Tuple [a, b] k2 p2) env = pure (some [x, y]) := by
  have hb : env.blockKind = .function := by unfold Env.blockKind; rw [hk]; rfl
  have kx : env.kindOf x = some .local := hx
  have ky : env.kindOf y = some .local := hy
  have nyx : (y == x) = false := beq_eq_false_iff_ne.mpr (Ne.symm ne)
  unfold swappedStores
  dsimp only
  rw [hb]
  simp only [List.length_cons, List.length_nil]
  rw [if_neg (by decide), if_neg (by
    intro h
    simp only [List.any_cons, List.any_nil, Bool.or_false, Bool.or_eq_true] at h
    rcases h with h | h
    · cases a <;> first | exact absurd (show false = true from h) Bool.false_ne_true | exact absurd (show true = false from ns) (by decide)
    · cases b <;> first | exact absurd (show false = true from h) Bool.false_ne_true | exact absurd (show true = false from ns2) (by decide))]
  simp only [List.head?_cons, Option.map_some, Option.getD_some, Expr.pos, List.filterMap_cons, List.filterMap_nil, kx, ky, beq_self_eq_true, Bool.true_and, hl, if_true]
  rw [c1, c2]
  have e2 : ([x, y].eraseDups).length = 2 := by
    rw [List.eraseDups_cons]
    simp [List.filter, nyx, List.eraseDups_cons]
  simp only [List.length_cons, List.length_nil, e2]
  rfl

/-- .. a name that is a cell: the tuple is made -/
theorem sw_cell {x y : Str} {px py pt p2 : Pos} {kt k2 : Nat} {a b : Expr} {env : PySem.Env} (hk : env.scope.kind = .function) (h : (env.scope.names.lookup x == some .local) = false ∨ (env.scope.names.lookup y == some .local) = false)
    (ns : isStar a = false) (ns2 : isStar b = false) : swappedStores [.Tuple [.Name x px, .Name y py] kt pt] (.Tuple [a, b] k2 p2) env = pure none := by
  have hb : env.blockKind = .function := by unfold Env.blockKind; rw [hk]; rfl
  unfold swappedStores
  dsimp only
  rw [hb]
  simp only [List.length_cons, List.length_nil]
  rw [if_neg (by decide), if_neg (by
    intro h
    simp only [List.any_cons, List.any_nil, Bool.or_false, Bool.or_eq_true] at h
    rcases h with h | h
    · cases a <;> first | exact absurd (show false = true from h) Bool.false_ne_true | exact absurd (show true = false from ns) (by decide)
    · cases b <;> first | exact absurd (show false = true from h) Bool.false_ne_true | exact absurd (show true = false from ns2) (by decide))]
  simp only [List.head?_cons, Option.map_some, Option.getD_some, Expr.pos, List.filterMap_cons, List.filterMap_nil]
  have hh : (env.kindOf x == some .local) = false ∨ (env.kindOf y == some .local) = false := h
  rcases hh with hx | hy
  · by_cases e : (env.kindOf y == some .local && py.line == px.line) = true
    · simp only [hx, e, Bool.false_and, Bool.false_eq_true, if_false, if_true]
      rfl
    · simp only [hx, e, Bool.false_and, Bool.false_eq_true, if_false]
      rfl
  · by_cases e : (env.kindOf x == some .local && px.line == px.line) = true
    · simp only [hy, e, Bool.false_and, Bool.false_eq_true, if_false, if_true]
      rfl
    · simp only [hy, e, Bool.false_and, Bool.false_eq_true, if_false]
      rfl
/-- x, y, z = [], [], c -/
theorem sw_three {x y z : Str} {px py pz pt p2 q1 q2 q3 : Pos} {kt k2 k3 : Nat} {c : Int} {env : PySem.Env} (hk : env.scope.kind = .function) (hx : env.scope.names.lookup x = some .local) (hy : env.scope.names.lookup y = some .local) (hz : env.scope.names.lookup z = some .local) (l1 : (py.line == px.line) = true) (l2 : (pz.line == px.line) = true) (n1 : x ≠ y) (n2 : x ≠ z) (n3 : y ≠ z) :
    swappedStores [.Tuple [.Name x px, .Name y py, .Name z pz] kt pt] (.Tuple [.List [] q1, .List [] q2, .Constant (.int c) k3 q3] k2 p2) env = pure (some [x, y, z]) := by
  have hb : env.blockKind = .function := by unfold Env.blockKind; rw [hk]; rfl
  have kx : env.kindOf x = some .local := hx
  have ky : env.kindOf y = some .local := hy
  have kz : env.kindOf z = some .local := hz
  have m1 : (y == x) = false := beq_eq_false_iff_ne.mpr (Ne.symm n1)
  have m2 : (z == x) = false := beq_eq_false_iff_ne.mpr (Ne.symm n2)
  have m3 : (z == y) = false := beq_eq_false_iff_ne.mpr (Ne.symm n3)
  unfold swappedStores
  dsimp only
  rw [hb]
  simp only [List.length_cons, List.length_nil]
  rw [if_neg (by decide), if_neg (by intro z; exact absurd (show false = true from z) Bool.false_ne_true)]
  simp only [List.head?_cons, Option.map_some, Option.getD_some, Expr.pos, List.filterMap_cons, List.filterMap_nil, kx, ky, kz, beq_self_eq_true, Bool.true_and, l1, l2, if_true]
  have e2 : ([x, y, z].eraseDups).length = 3 := by
    rw [List.eraseDups_cons]
    simp [List.filter, m1, m2, m3, List.eraseDups_cons]
  simp only [List.length_cons, List.length_nil, e2]
  rfl
theorem sw_cell3 {x y z : Str} {px py pz pt p2 q1 q2 q3 : Pos} {kt k2 k3 : Nat} {c : Int} {env : PySem.Env} (hk : env.scope.kind = .function) (hh : ((env.scope.names.lookup x == some .local) && (env.scope.names.lookup y == some .local) && (env.scope.names.lookup z == some .local)) = false) :
    swappedStores [.Tuple [.Name x px, .Name y py, .Name z pz] kt pt] (.Tuple [.List [] q1, .List [] q2, .Constant (.int c) k3 q3] k2 p2) env = pure none := by
  have hb : env.blockKind = .function := by unfold Env.blockKind; rw [hk]; rfl
  have hh : ((env.kindOf x == some .local) && (env.kindOf y == some .local) && (env.kindOf z == some .local)) = false := hh
  unfold swappedStores
  dsimp only
  rw [hb]
  simp only [List.length_cons, List.length_nil]
  rw [if_neg (by decide), if_neg (by intro z; exact absurd (show false = true from z) Bool.false_ne_true)]
  simp only [List.head?_cons, Option.map_some, Option.getD_some, Expr.pos, List.filterMap_cons, List.filterMap_nil, beq_self_eq_true, Bool.and_true]
  have bt : ∀ b : Bool, b = false ∨ b = true := fun b => by cases b <;> simp
  rcases bt (env.kindOf x == some .local) with e1 | e1 <;> rcases bt (env.kindOf y == some .local && py.line == px.line) with e2 | e2 <;> rcases bt (env.kindOf z == some .local && pz.line == px.line) with e3 | e3 <;> simp only [e1, e2, e3, if_true, Bool.false_eq_true, if_false] <;> try rfl
  rw [e1, (Bool.and_eq_true_iff.mp e2).1, (Bool.and_eq_true_iff.mp e3).1] at hh
  cases hh
/-! ### the language -/
inductive BOp | add | sub | mul | div | mod | pow
  deriving DecidableEq, Repr
inductive COp | eq | ne | lt | le | gt | ge | isN | notN | isin | notin
  deriving DecidableEq, Repr
inductive BI | len | int | max2 | min2 | abs | tup | lst | sum | max1 | min1 | sort
  deriving DecidableEq, Repr
/-- constants of an except clause -/
inductive CK | non | str (x : Str) | int (i : Int) | bl (b : Bool)
  deriving DecidableEq, Repr
def CK.d : CK → PyData
  | .non => .none
  | .str x => .str x
  | .int i => .int i
  | .bl b => .bool b
def ckL (hs : List (Nat × CK)) : List (Nat × PyData) := hs.map fun x => (x.1, x.2.d)
/-- expressions, tests, arguments, targets, what is walked, statements -/
inductive K where
  | nil | cons (a r : K)
  | int (i : Int) | bl (b : Bool) | non | str (x : Str)
  | var (i : Nat) | varV (i : Nat)
  | bin (o : BOp) (a b : K)
  | neg (a : K) | no (a : K) | and (a b : K) | or (a b : K) | ifx (t a b : K)
  | cmp (o : COp) (a b : K) | chn (o1 o2 : COp) (a b c : K)
  | tup (es : K) | lst (es : K) | lstL (es : K) | prom (a : K)
  | ix (a b : K) | slc (a lo hi : K) | rev (a : K)
  | lc (vs : List Nat) (g it t e : K)
  | fn (i : Nat) (es : K) | bi (b : BI) (es : K) | isi (t : String) (a : K)
  | yes
  | tn (i : Nat) | tt (n : Nat) (es : K)
  | rng1 (es : K) | rng2 (es : K) | seq (a : K) | enu (es : K) | lset (a : K) | dnew | dget (a k x : K) | par3 (i j l : Nat) (c : Int)
  | skip | sq (a b : K) | ret (a : K) | exp (a : K) | ite (t a b : K) | asg (g e : K) | sto (i : Nat) (e : K) | par2 (i j : Nat) (a b : K) | parN (i j : Nat) (es : K)
  | aug (i : Nat) (o : BOp) (e : K) | put (i : Nat) (k e : K) | app (i : Nat) (e : K) | ext (i : Nat) (e : K)
  | whl (t b : K) | fr (g it b : K) | never | frz (i : Nat)
  | dk (i : Nat) | lk (i : Nat) (k : K) | parL (i j : Nat)
  | lc2 (vs vs1 : List Nat) (g it g1 it1 t e : K)
  | sset (a : K) | idx (a es : K)
  | rais (c : Nat) | tryR (ids : List Nat) (hs : List (Nat × CK)) (b : K)
  | fld (c j : Nat) (a : K) | meth (c i : Nat) (o es : K) | new (c i : Nat) (es : K) | prop (c i : Nat) (o : K)
  | sel (is : List Nat) (ix es : K) | cst (ds : List CK) | dlen (es : K) | dlst (es : K) | dupd (o e : K) | zip (es : K)
  | fset (c j lim : Nat) (o e : K) | putE (o k e : K) | popS (j i : Nat)
  | tmul (a b : K) | smul (a b : K) | lrng (a : K) | augL (i : Nat) (o : BOp) (k e : K) | lenI (c i : Nat) (es : K) | disp (es : K) | parS (i : Nat) (c : Int) (j : Nat) (es : K) | join (o e : K)
  | xis (ids : List Nat) (i b : Nat) | xfld (cs : List Nat) (i : Nat) | raisF (c : Nat) (e : K) | tryA (ids : List Nat) (i b : Nat) (k s : K)
  deriving DecidableEq, Repr
structure Den where
  E : EvF D
  T : EvF Bool
  A : EvF (List D)
  O : EvF (Option Int)
  I : EvF (List D)
  G : TgF
  Gs : TgFs
  ts : List Nat
  S : EvS
def Den.none : Den := ⟨fun _ _ => .bad, fun _ _ => .bad, fun _ _ => .bad, fun _ _ => .bad, fun _ _ => .bad, fun _ _ => Option.none, fun _ _ => Option.none, [], fun _ _ => .bad⟩
/-- an expression; it may stand as a test and as an end of a slice -/
def Den.e (f : EvF D) : Den := { Den.none with E := f, T := semV f, O := semSo f }
def Den.s (f : EvS) : Den := { Den.none with S := f }
def Den.i (f : EvF (List D)) : Den := { Den.none with I := f }
abbrev FnS := Nat → List D → MH → Out D
def gMulU : Int → Int → Option Int := gMul
def binF : BOp → MH → D → D → Option D
  | .add => addO
  | .sub => iop gSub
  | .mul => iop gMul
  | .div => iop gDiv
  | .mod => iop gMod
  | .pow => iop gPow
def cmpF : COp → MH → D → D → Option Bool
  | .eq => eqD
  | .ne => neD
  | .lt => icmp fun i j => decide (i < j)
  | .le => icmp fun i j => decide (i ≤ j)
  | .gt => icmp fun i j => decide (i > j)
  | .ge => icmp fun i j => decide (i ≥ j)
  | .isN => isND
  | .notN => notND
  | .isin => inUD
  | .notin => ninUD
def biF : BI → MH → List D → Option D
  | .len => fLen
  | .int => fInt
  | .max2 => fMax2
  | .min2 => fMin2
  | .abs => fAbs
  | .tup => fTup
  | .lst => fLst
  | .sum => fSum
  | .max1 => fMm PySem.W.maxD
  | .min1 => fMm PySem.W.minD
  | .sort => fSort
def itU : D → Option (List D)
  | .py (.list xs) => some (xs.map .py)
  | .py (.tuple xs) => some (xs.map .py)
  | .scr ns => some (ns.map fun i => .py (.int i))
  | _ => none
def notT (f : EvF Bool) : EvF Bool := fun env h => (f env h).bind fun b h1 => .ok (!b) h1
def bE (f : EvF Bool) : EvF D := fun env h => (f env h).bind fun b h1 => .ok (.py (.bool b)) h1
def augF : BOp → MH → D → D → Option D
  | .add => iop gAdd
  | .sub => iop gSub
  | _ => fun _ _ _ => none
def augI : BOp → Int → Int → Int
  | .sub => fun i j => i - j
  | _ => fun i j => i + j
/-- how often a while may turn -/
def turns : Nat := 100000
def ev (F : FnS) : K → Den
  | .nil => { Den.none with A := semNil, O := semNo, Gs := tgNil }
  | .cons a r => { Den.none with A := semCons (ev F a).E (ev F r).A, Gs := tgCons (ev F a).G (ev F r).Gs, ts := (ev F a).ts ++ (ev F r).ts }
  | .int i => .e fun _ h => .ok (.py (.int i)) h
  | .bl b => .e fun _ h => .ok (.py (.bool b)) h
  | .non => .e fun _ h => .ok (.py .none) h
  | .str x => .e fun _ h => .ok (.py (.str x)) h
  | .var i => .e fun env h => lift (look env i) h
  | .varV i => .e fun env h => lift (lookV env i) h
  | .bin o a b => .e (sem2 (ev F a).E (ev F b).E (binF o))
  | .neg a => .e (sem1 (ev F a).E negD)
  | .no a => { Den.none with E := bE (notT (semV (ev F a).E)), T := notT (ev F a).T }
  | .and a b => { Den.none with E := semAndE (ev F a).E (ev F b).E, T := semAnd (ev F a).T (ev F b).T }
  | .or a b => { Den.none with E := semOrE (ev F a).E (ev F b).E, T := semOr (ev F a).T (ev F b).T }
  | .ifx t a b => .e (semIf (ev F t).T (ev F a).E (ev F b).E)
  | .cmp o a b => { Den.none with E := bE (semC (ev F a).E (ev F b).E (cmpF o)), T := semC (ev F a).E (ev F b).E (cmpF o) }
  | .chn o1 o2 a b c => { Den.none with E := bE (semCh (ev F a).E (ev F b).E (ev F c).E (cmpF o1) (cmpF o2)), T := semCh (ev F a).E (ev F b).E (ev F c).E (cmpF o1) (cmpF o2) }
  | .tup es => .e (semTup (ev F es).A)
  | .lst es => .e (semLst (ev F es).A)
  | .lstL es => .e (semLstL (ev F es).A)
  | .prom a => .e (semProm (ev F a).E)
  | .ix a b => .e (sem2 (ev F a).E (ev F b).E ixU)
  | .slc a lo hi => .e (semSl (ev F a).E (ev F lo).O (ev F hi).O cutU)
  | .rev a => .e (sem1 (ev F a).E revT)
  | .lc vs g it t e => .e (semLc vs (ev F it).I (ev F g).G (ev F t).T (ev F e).E)
  | .fn i es => .e (semF (F i) (ev F es).A)
  | .bi b es => .e (semCl (ev F es).A (biF b))
  | .isi t a => .e (sem1 (ev F a).E (isiD t))
  | .yes => { Den.none with T := semYes }
  | .tn i => { Den.none with G := tgName i, ts := [i] }
  | .tt n es => { Den.none with G := tgTup n (ev F es).Gs, ts := (ev F es).ts }
  | .rng1 es => .i (semIt (ev F es).A rng1)
  | .rng2 es => .i (semIt (ev F es).A rng2)
  | .seq a => .i (semIt1 (ev F a).E itU)
  | .enu es => .i (semIt (ev F es).A enumO)
  | .lset a => .e (sem1 (ev F a).E lsO)
  | .dnew => .e semDNew
  | .par3 i j l c => .s (semPar3 i j l c)
  | .dget a k x => .e (semGet (ev F a).E (ev F k).E (ev F x).E)
  | .skip => .s semSkip
  | .sq a b => .s (semSeq (ev F a).S (ev F b).S)
  | .ret a => .s (semRet (ev F a).E)
  | .exp a => .s (semExp (ev F a).E)
  | .ite t a b => .s (semIfS (ev F t).T (ev F a).S (ev F b).S)
  | .asg g e => .s (semAsg (ev F e).E (ev F g).G)
  | .sto i e => .s (semSto i (ev F e).E)
  | .par2 i j a b => .s (semPar2 i j (ev F a).E (ev F b).E)
  | .parN i j es => .s (semPar i j (ev F es).A)
  | .aug i o e => .s (semAug i (ev F e).E (augF o))
  | .put i k e => .s (semPutU i (ev F k).E (ev F e).E)
  | .app i e => .s (semApp i (ev F e).E)
  | .ext i e => .s (semExt i (ev F e).E)
  | .whl t b => .s (whileF (ev F t).T (ev F b).S turns)
  | .fr g it b => .s (semFor (ev F it).I (ev F g).G (ev F b).S)
  | .never => .s semNever
  | .frz i => .s (semFrz i)
  | .dk i => .i (semKeysS i)
  | .lk i k => { Den.e (semLockE i (ev F k).E) with S := semLockS i (ev F k).S }
  | .parL i j => .s (semParL i j)
  | .sset a => .e (sem1 (ev F a).E ssO)
  | .rais c => .s (semRais c)
  | .tryR ids hs b => .s (semTry ids (ckL hs) (ev F b).S)
  | .idx a es => .e (semIdx (ev F a).E (ev F es).A)
  | .fld c j a => .e (sem1 (ev F a).E (fldD c j))
  | .meth c i o es => .e (semM c (F i) (ev F o).E (ev F es).A)
  | .new c i es => .e (semNew c (F i) (ev F es).A)
  | .prop c i o => .e (semProp c (F i) (ev F o).E)
  | .sel is ix es => .e (semSel (is.map F) (ev F ix).E (ev F es).A)
  | .cst ds => .e fun _ h => .ok (.py (.tuple (ds.map CK.d))) h
  | .dlen es => .e (semCl (ev F es).A dlenO)
  | .dlst es => .e (semCl (ev F es).A dlstO)
  | .dupd o e => .e (semUpd (ev F o).E (ev F e).E)
  | .zip es => .i (semIt (ev F es).A zipO)
  | .fset c j lim o e => .s (semFset c j lim (ev F o).E (ev F e).E)
  | .putE o k e => .s (semPutE (ev F o).E (ev F k).E (ev F e).E)
  | .popS j i => .s (semPop j i)
  | .tmul a b => .e (sem2 (ev F a).E (ev F b).E mulT)
  | .smul a b => .e (sem2 (ev F a).E (ev F b).E mulS)
  | .lrng a => .e (semLr (ev F a).E)
  | .augL i o k e => .s (semAugL i (augI o) (ev F k).E (ev F e).E)
  | .lenI c i es => .e (semLenI c (F i) (ev F es).A)
  | .disp es => .e (semDisp (ev F es).A)
  | .parS i c j es => .s (semParS i c j (ev F es).A)
  | .join o e => .e (semJoin (ev F o).E (ev F e).E)
  | .xis ids i b => .e (semXis ids i b)
  | .xfld cs i => .e (semXfld cs i)
  | .raisF c e => .s (semRaisF c (ev F e).E)
  | .tryA ids i b k s => .s (semTryA ids i b (ev F k).S (ev F s).S)
  | .lc2 vs vs1 g it g1 it1 t e => .e (semLc2 vs vs1 (ev F it).I (ev F g).G (ev F it1).I (ev F g1).G (ev F t).T (ev F e).E)
end KF
set_option Elab.async false
set_option linter.all false
set_option maxRecDepth 100000
set_option maxHeartbeats 4000000
/-! KF, part 15: from the text to the language. -/
namespace KF
open PySem PySem.Spec PyProof.Rows L2
/-- what a module's name stands for -/
inductive GK where
  | fn (i n : Nat) | int (i : Int) | str (x : Str) | blt | exc (i : Nat)
  | tup (ds : List CK) | cls (c : Nat) (fs : List Str) (ini : Nat × Nat) (ms : List (Str × Nat × Nat)) (pr : List (Str × Nat))
  | exf (i : Nat) (f : Str) (r : Bool) | dead
  deriving DecidableEq, Repr
structure TC where
  N : List Str
  sc : Scope
  fn : Str → Bool
  G : List (Str × GK)
  own : List Nat
  top : Bool
  hot : Bool
def GK.ex : GK → Option Nat
  | .exc i => some i
  | .exf i _ _ => some i
  | _ => none
/-- the errors that are there -/
def exIds (G : List (Str × GK)) : List Nat := G.filterMap fun p => p.2.ex
/-- what of the module's names a suite may use -/
def GK.hot : GK → GK
  | .fn _ _ => .dead
  | .cls _ _ _ _ _ => .dead
  | .exf i f _ => .exf i f false
  | g => g
def hotG (G : List (Str × GK)) : List (Str × GK) := G.map fun p => (p.1, p.2.hot)
theorem hotG_look (G : List (Str × GK)) (x : Str) : (hotG G).lookup x = (G.lookup x).map GK.hot := by
  unfold hotG
  induction G with
  | nil => rfl
  | cons p r ih =>
    rw [List.map_cons, List.lookup_cons, List.lookup_cons]
    cases x == p.1 with
    | true => rfl
    | false => exact ih
theorem hot_ex (g : GK) : g.hot.ex = g.ex := by cases g <;> rfl
theorem hotG_ids (G : List (Str × GK)) : exIds (hotG G) = exIds G := by
  unfold exIds hotG
  rw [List.filterMap_map]
  congr 1
  funext p
  exact hot_ex p.2
/-- the errors with a field f -/
def xfIds (G : List (Str × GK)) (f : Str) : List Nat := G.filterMap fun p => match G.lookup p.1 with
  | some (.exf i g _) => if g = f then some i else none
  | _ => none
theorem xfIds_ok {G : List (Str × GK)} {f : Str} {i : Nat} (h : i ∈ xfIds G f) : ∃ x r, G.lookup x = some (.exf i f r) := by
  unfold xfIds at h
  obtain ⟨p, _, hp⟩ := List.mem_filterMap.mp h
  split at hp
  · split at hp
    · rename_i e ef
      cases hp
      subst ef
      exact ⟨p.1, _, e⟩
    · cases hp
  · cases hp
def TC.suite (C : TC) : TC := { C with G := hotG C.G, hot := true, top := false }
inductive Md | b | n | x
  deriving DecidableEq, Repr
def Md.leN : Md → Bool
  | .x => false
  | _ => true
def ixOf : List Str → Str → Option Nat
  | [], _ => none
  | y :: r, x => if y = x then some 0 else (ixOf r x).map (· + 1)
theorem ixOf_ok : ∀ {N : List Str} {x : Str} {i : Nat}, ixOf N x = some i → N[i]? = some x
  | [], _, _, h => by cases h
  | y :: r, x, i, h => by
    unfold ixOf at h
    split at h
    · rename_i e; cases h; rw [e]; rfl
    · cases q : ixOf r x with
      | none => rw [q] at h; cases h
      | some j => rw [q] at h; cases h; exact ixOf_ok (N := r) q
def kindB (sc : Scope) (x : Str) : Option NameKind := sc.names.lookup x
def visB (sc : Scope) (x : Str) : Bool := match sc.names.lookup x with
  | some .local => true
  | some .cell => true
  | some .free => true
  | _ => false
def locB (sc : Scope) (x : Str) : Bool := match sc.names.lookup x with
  | some .local => true
  | some .cell => true
  | _ => false
def locL (sc : Scope) (x : Str) : Bool := match sc.names.lookup x with
  | some .local => true
  | _ => false
def glB (sc : Scope) (x : Str) : Bool := match sc.names.lookup x with
  | some .globalImplicit => true
  | _ => false
def okN (x : Str) : Bool := !(x == ("__debug__" : Str)) && !(x == ("__classdict__" : Str))
theorem visB_ok {sc : Scope} {x : Str} (h : visB sc x = true) : Vis sc x := by
  unfold visB at h
  split at h
  · exact .inl (by assumption)
  · exact .inr (.inl (by assumption))
  · exact .inr (.inr (by assumption))
  · cases h
theorem locB_ok {sc : Scope} {x : Str} (h : locB sc x = true) : Loc sc x := by
  unfold locB at h
  split at h
  · exact .inl (by assumption)
  · exact .inr (by assumption)
  · cases h
theorem locL_ok {sc : Scope} {x : Str} (h : locL sc x = true) : sc.names.lookup x = some .local := by
  unfold locL at h
  split at h
  · assumption
  · cases h
theorem glB_ok {sc : Scope} {x : Str} (h : glB sc x = true) : sc.names.lookup x = some .globalImplicit := by
  unfold glB at h
  split at h
  · assumption
  · cases h
theorem okN_ok {x : Str} (h : okN x = true) : (x == ("__debug__" : Str)) = false ∧ (x == ("__classdict__" : Str)) = false := by
  unfold okN at h
  obtain ⟨h1, h2⟩ := Bool.and_eq_true_iff.mp h
  exact ⟨by simpa using h1, by simpa using h2⟩
def trConst (m : Md) (c : Const) : Option K := if m.leN = true then match c with
  | .int i => some (.int i)
  | .bool b => some (.bl b)
  | .none => some .non
  | .str x => if sOk x = true then some (.str x) else none
  | _ => none
  else none
def trName (C : TC) (m : Md) (x : Str) : Option K := if (visB C.sc x && okN x) = true then (ixOf C.N x).bind fun i => match m with
    | .b => some (.var i)
    | .n => some (.varV i)
    | .x => none
  else if (glB C.sc x && okN x && m.leN) = true then match C.G.lookup x with
    | some (.int i) => some (.int i)
    | some (.str z) => if sOk z = true then some (.str z) else none
    | some (.tup ds) => some (.cst ds)
    | _ => none
  else none
def trBin (m : Md) : Operator → K → K → Option K
  | .Add, a, b => some (.bin .add a b)
  | .Sub, a, b => if m.leN = true then some (.bin .sub a b) else none
  | .Mult, a, b => if m.leN = true then some (.bin .mul a b) else none
  | .FloorDiv, a, b => if m.leN = true then some (.bin .div a b) else none
  | .Mod, a, b => if m.leN = true then some (.bin .mod a b) else none
  | .Pow, a, b => if m.leN = true then some (.bin .pow a b) else none
  | _, _, _ => none
def copOf : CmpOp → Option COp
  | .Eq => some .eq
  | .NotEq => some .ne
  | .Lt => some .lt
  | .LtE => some .le
  | .Gt => some .gt
  | .GtE => some .ge
  | .Is => some .isN
  | .IsNot => some .notN
  | .In => some .isin
  | .NotIn => some .notin
def biName : BI → Str
  | .len => "len"
  | .int => "int"
  | .max2 => "max"
  | .min2 => "min"
  | .abs => "abs"
  | .tup => "tuple"
  | .lst => "list"
  | .sum => "sum"
  | .max1 => "max"
  | .min1 => "min"
  | .sort => "sorted"
def biAr : BI → Nat
  | .max2 => 2
  | .min2 => 2
  | _ => 1
def allBI : List BI := [.len, .int, .max2, .min2, .abs, .tup, .lst, .sum, .max1, .min1, .sort]
def biOf (x : Str) (n : Nat) : Option BI := allBI.find? fun b => decide (biName b = x) && biAr b == n
def biX : BI → Bool
  | .lst => true
  | .sort => true
  | _ => false
def isBlt (C : TC) (x : Str) : Bool := glB C.sc x && decide (C.G.lookup x = some .blt)
def ownOf (N : List Str) (sc : Scope) : List (Str × Nat) := sc.names.filterMap fun (x, k) => match k with
  | .local => (ixOf N x).map fun i => (x, i)
  | .cell => (ixOf N x).map fun i => (x, i)
  | _ => none
def vsOf (N : List Str) (sc : Scope) : List Nat := (ownOf N sc).map (·.2)
def TC.blk (C : TC) (sc : Scope) : TC := { C with sc := relS sc C.sc, fn := fun x => sc.names.lookup x == some .cell, top := false }
def tsK : K → List Nat
  | .cons a r => tsK a ++ tsK r
  | .tn i => [i]
  | .tt _ es => tsK es
  | _ => []
theorem ev_ts (F : FnS) : ∀ k : K, (ev F k).ts = tsK k := by
  intro k
  induction k with
  | cons a r iha ihr => show (ev F a).ts ++ (ev F r).ts = _; rw [iha, ihr]; rfl
  | tt n es ih => exact ih
  | _ => rfl
def isListCall : Expr → Bool
  | .Call (.Name x _) [_] [] _ => decide (x = "list")
  | _ => false
def isZero : Expr → Bool
  | .Constant (.int i) _ _ => decide (i = 0)
  | _ => false
/-- the slots that are read for good -/
def allV : K → List Nat
  | .varV i => [i]
  | .cons a r => allV a ++ allV r
  | .bin _ a b => allV a ++ allV b
  | .neg a => allV a
  | .no a => allV a
  | .and a b => allV a ++ allV b
  | .or a b => allV a ++ allV b
  | .ifx t a b => allV t ++ allV a ++ allV b
  | .cmp _ a b => allV a ++ allV b
  | .chn _ _ a b c => allV a ++ allV b ++ allV c
  | .tup es => allV es
  | .lst es => allV es
  | .lstL es => allV es
  | .prom a => allV a
  | .ix a b => allV a ++ allV b
  | .slc a lo hi => allV a ++ allV lo ++ allV hi
  | .rev a => allV a
  | .lc vs g it t e => allV it ++ (allV t ++ allV e).filter fun i => !vs.contains i
  | .fn _ es => allV es
  | .bi _ es => allV es
  | .isi _ a => allV a
  | .rng1 a => allV a
  | .rng2 a => allV a
  | .seq a => allV a
  | .enu a => allV a
  | .lset a => allV a
  | .dget a k x => allV a ++ allV k ++ allV x
  | .ret a => allV a
  | .exp a => allV a
  | .ite t _ _ => allV t
  | .asg _ e => allV e
  | .sto _ e => allV e
  | .par2 _ _ a b => allV a ++ allV b
  | .parN _ _ es => allV es
  | .aug _ _ e => allV e
  | .put _ k e => allV k ++ allV e
  | .app _ e => allV e
  | .ext _ e => allV e
  | .fr _ it _ => allV it
  | .lk _ k => allV k
  | .sset a => allV a
  | .idx a es => allV a ++ allV es
  | .fld _ _ a => allV a
  | .meth _ _ o es => allV o ++ allV es
  | .new _ _ es => allV es
  | .prop _ _ o => allV o
  | .sel _ ix es => allV ix ++ allV es
  | .dlen es => allV es
  | .dlst es => allV es
  | .dupd o e => allV o ++ allV e
  | .zip es => allV es
  | .fset _ _ _ o e => allV o ++ allV e
  | .putE o k e => allV o ++ allV k ++ allV e
  | .tmul a b => allV a ++ allV b
  | .smul a b => allV a ++ allV b
  | .lrng a => allV a
  | .augL _ _ k e => allV k ++ allV e
  | .lenI _ _ es => allV es
  | .disp es => allV es
  | .parS _ _ _ es => allV es
  | .join o es => allV o ++ allV es
  | .raisF _ e => allV e
  | .lc2 vs _ _ it _ it1 t e => allV it ++ (allV it1 ++ allV t ++ allV e).filter fun i => !vs.contains i
  | _ => []
def frzs : List Nat → K → K
  | [], k => k
  | i :: r, k => .sq (.frz i) (frzs r k)
def swB (sc : Scope) (x : Str) (p : Pos) (s2 : Scope) (pos : Pos) : Bool := locL sc x && (p.line == pos.line) && !(s2.names.any fun (n, k) => n == x && (k == .local || k == .cell))
def plainT : K → Bool
  | .no _ => false
  | .and _ _ => false
  | .or _ _ => false
  | .cmp _ _ _ => false
  | .chn _ _ _ _ _ => false
  | .nil => false
  | .cons _ _ => false
  | .yes => false
  | .tn _ => false
  | .tt _ _ => false
  | .rng1 _ => false
  | .rng2 _ => false
  | .seq _ => false
  | .enu _ => false
  | .lset _ => true
  | .dnew => true
  | .dget _ _ _ => true
  | .int _ => true
  | .bl _ => true
  | .non => true
  | .str _ => true
  | .var _ => true
  | .varV _ => true
  | .bin _ _ _ => true
  | .neg _ => true
  | .ifx _ _ _ => true
  | .tup _ => true
  | .lst _ => true
  | .lstL _ => true
  | .prom _ => true
  | .ix _ _ => true
  | .slc _ _ _ => true
  | .rev _ => true
  | .lc _ _ _ _ _ => true
  | .fn _ _ => true
  | .bi _ _ => true
  | .isi _ _ => true
  | .lk _ _ => true
  | .lc2 _ _ _ _ _ _ _ _ => true
  | .sset _ => true
  | .idx _ _ => true
  | .fld _ _ _ => true
  | .meth _ _ _ _ => true
  | .new _ _ _ => true
  | .prop _ _ _ => true
  | .sel _ _ _ => true
  | .cst _ => true
  | .dlen _ => true
  | .dlst _ => true
  | .dupd _ _ => true
  | .tmul _ _ => true
  | .smul _ _ => true
  | .lrng _ => true
  | .lenI _ _ _ => true
  | .disp _ => true
  | .join _ _ => true
  | .xis _ _ _ => true
  | .xfld _ _ => true
  | _ => false
/-- one name whose slot holds a dict: a hint -/
def dctA (C : TC) : List Expr → Bool
  | [.Name y _] => match ixOf C.N y with
    | some i => C.own.contains (1000 + i)
    | none => false
  | _ => false
/-- one name whose slot holds an instance of a class with __len__: a hint -/
def insA (C : TC) : List Expr → Bool
  | [.Name y _] => match ixOf C.N y with
    | some i => C.own.contains (2000 + i)
    | none => false
  | _ => false
def isTupE : Expr → Bool
  | .Tuple _ _ _ => true
  | _ => false
def isStrE : Expr → Bool
  | .Constant (.str _) _ _ => true
  | _ => false
def isMul : Operator → Bool
  | .Mult => true
  | _ => false
/-- keys and values one after the other -/
def kvEs : List (Option Expr) → List Expr → Option (List Expr)
  | [], [] => some []
  | some k :: ks, v :: vs => (kvEs ks vs).map fun r => k :: v :: r
  | _, _ => none
/-- no super().f -/
def noSup : Expr → Bool
  | .Call (.Name _ _) [] [] _ => false
  | _ => true
theorem noSup_ok {o : Expr} {f : Str} {env : PySem.Env} {w : Sem Value} (h : noSup o = true) : attributeBase o f env w = w := by
  unfold attributeBase
  split
  · cases h
  · rfl
/-- the class that has a field, a method, a property; the names are looked up -/
def inCls {α : Type} (G : List (Str × GK)) (f : Nat → List Str → List (Str × Nat × Nat) → List (Str × Nat) → Option α) : Option α := G.findSome? fun p => match G.lookup p.1 with
  | some (.cls c fs _ ms pr) => f c fs ms pr
  | _ => none
/-- a field; a class that is hinted at goes ahead -/
def clsF (C : TC) (x : Str) : Option (Nat × Nat × Nat) := match inCls C.G fun c fs _ _ => if C.own.contains (3000 + c) = true then (ixOf fs x).map fun j => (c, j, fs.length) else none with
  | some r => some r
  | none => inCls C.G fun c fs _ _ => (ixOf fs x).map fun j => (c, j, fs.length)
def clsM (G : List (Str × GK)) (m : Str) : Option (Nat × Nat × Nat) := inCls G fun c _ ms _ => (ms.lookup m).map fun q => (c, q.1, q.2)
def clsP (G : List (Str × GK)) (m : Str) : Option (Nat × Nat) := inCls G fun c _ _ pr => (pr.lookup m).map fun q => (c, q)
theorem inCls_ok {α : Type} {G : List (Str × GK)} {f : Nat → List Str → List (Str × Nat × Nat) → List (Str × Nat) → Option α} {a : α} (h : inCls G f = some a) : ∃ x c fs ini ms pr, G.lookup x = some (.cls c fs ini ms pr) ∧ f c fs ms pr = some a := by
  unfold inCls at h
  obtain ⟨p, _, hp⟩ := List.exists_of_findSome?_eq_some h
  split at hp
  · exact ⟨p.1, _, _, _, _, _, by assumption, hp⟩
  · cases hp
theorem clsF_ok {C : TC} {x : Str} {c j l : Nat} (h : clsF C x = some (c, j, l)) : ∃ y fs ini ms pr, C.G.lookup y = some (.cls c fs ini ms pr) ∧ ixOf fs x = some j ∧ l = fs.length := by
  have key : ∀ {o : Option Nat} {fs : List Str} {c' : Nat}, o.map (fun j => (c', j, fs.length)) = some (c, j, l) → o = some j ∧ c' = c ∧ l = fs.length := fun {o fs c'} e => by
    cases o with
    | none => cases e
    | some i => cases e; exact ⟨rfl, rfl, rfl⟩
  unfold clsF at h
  split at h
  · rename_i r e
    cases h
    obtain ⟨y, c', fs, ini, ms, pr, e1, e2⟩ := inCls_ok e
    split at e2
    · obtain ⟨k1, rfl, k3⟩ := key e2
      exact ⟨y, fs, ini, ms, pr, e1, k1, k3⟩
    · cases e2
  · obtain ⟨y, c', fs, ini, ms, pr, e1, e2⟩ := inCls_ok h
    obtain ⟨k1, rfl, k3⟩ := key e2
    exact ⟨y, fs, ini, ms, pr, e1, k1, k3⟩
/-- the defs of a list of names -/
def fnsOf (C : TC) (n : Nat) : List Expr → Option (List Nat)
  | [] => some []
  | .Name x _ :: r => if (glB C.sc x && okN x) = true then match C.G.lookup x with
    | some (.fn i k) => if Nat.beq k n = true then (fnsOf C n r).map (i :: ·) else none
    | _ => none
    else none
  | _ => none
/-- a slot that holds a dict: a hint -/
def dctS (C : TC) (i : Nat) : Bool := C.own.contains (1000 + i)
/-- a walk of a dict's keys stands under its lock -/
def lkOf : K → Option Nat
  | .lc _ _ (.dk i) _ _ => some i
  | .fr _ (.dk i) _ => some i
  | _ => none
def lkW (k s : K) : K := match lkOf k with
  | some i => .lk i s
  | none => s
def isDk : K → Bool
  | .dk _ => true
  | _ => false
def isLL : Expr → Bool
  | .List [] _ => true
  | _ => false
def coolB : BI → Bool
  | .max2 => false
  | .min2 => false
  | .sum => false
  | .max1 => false
  | .min1 => false
  | _ => true
/-- isinstance(e, C), e.f in a suite -/
def trXis (C : TC) (m : Md) (a : Expr) (t : Str) : Option K := match a with
  | .Name x _ => if (m.leN && isBlt C "isinstance" && visB C.sc x && okN x && glB C.sc t && okN t) = true then ((C.G.lookup t).bind GK.ex).bind fun b => (ixOf C.N x).map fun i => .xis (exIds C.G) i b else none
  | _ => none
def trXfld (C : TC) (m : Md) (o : Expr) (f : Str) : Option K := match o with
  | .Name x _ => if (m.leN && visB C.sc x && okN x) = true then (ixOf C.N x).map fun i => .xfld (xfIds C.G f) i else none
  | _ => none
def tyOf (t : Str) : Option String := tys.find? fun s => decide (Str.ofString s = t) && decide (bootBuiltins t = some (.type s))
mutual
def trE : Nat → TC → Md → Expr → Option K
  | 0, _, _, _ => none
  | n + 1, C, m, e => match e with
    | .Constant c _ _ => trConst m c
    | .Name x _ => trName C m x
    | .BinOp a op b _ => if (isMul op && (isTupE a || isStrE a)) = true then
        (if m.leN = true then (trE n C .b a).bind fun ka => (trE n C .b b).bind fun kb => some (if isTupE a = true then .tmul ka kb else .smul ka kb) else none)
      else (trE n C .b a).bind fun ka => (trE n C .b b).bind fun kb => trBin m op ka kb
    | .UnaryOp .USub a _ => if m.leN = true then (trE n C .b a).map .neg else none
    | .UnaryOp .Not a _ => if m.leN = true then (trE n C .b a).map .no else none
    | .BoolOp op vs _ => if m.leN = true then trV n C op vs else none
    | .IfExp t a b _ => (trT n C t).bind fun kt => (trE n C m a).bind fun ka => (trE n C m b).bind fun kb => some (.ifx kt ka kb)
    | .Compare a [op] [b] _ => if (m.leN && noSet b) = true then (copOf op).bind fun o => (trE n C .b a).bind fun ka => (trE n C .b b).bind fun kb => some (.cmp o ka kb) else none
    | .Compare a [op, op'] [b, c] _ => if (m.leN && noSet c) = true then (copOf op).bind fun o => (copOf op').bind fun o' => (trE n C .b a).bind fun ka => (trE n C .b b).bind fun kb => (trE n C .b c).bind fun kc => some (.chn o o' ka kb kc) else none
    | .Tuple es _ _ => if m.leN = true then (trA n C .n es).map .tup else none
    | .List es _ => trLst n C m es
    | .Subscript a (.Slice lo hi none _) _ => (trE n C .b a).bind fun ka => (trO n C lo).bind fun kl => (trO n C hi).bind fun kh => some (.slc ka kl kh)
    | .Subscript a (.Slice none none (some (.UnaryOp .USub (.Constant (.int i) _ _) _)) _) _ => if (m.leN && decide (i = 1)) = true then (trE n C .b a).map .rev else none
    | .Subscript a b _ => if (m.leN && noSlice b) = true then (trE n C .b a).bind fun ka => (trE n C .b b).bind fun kb => some (.ix ka kb) else none
    | .ListComp elt [⟨tg, it, ifs, as⟩] sc _ => if as = 0 then (trLc n C elt tg it ifs sc).map (fun k => lkW k k) else none
    | .ListComp elt [⟨tg, it, [], as⟩, ⟨tg1, it1, ifs1, as1⟩] sc _ => if (decide (as = 0) && decide (as1 = 0)) = true then trLc2 n C elt tg it tg1 it1 ifs1 sc else none
    | .Call (.Name x _) (a :: es) [] _ => trCall n C m x (a :: es)
    | .Dict [] [] _ => if m.leN = true then some .dnew else none
    | .Dict (k :: ks) vs _ => if (m.leN && Nat.ble (ks.length + 1) 15) = true then (kvEs (k :: ks) vs).bind fun es => (trA n C .n es).map .disp else none
    | .Call (.Attribute o f apos) es [] cpos => if (m.leN && noSup o && (apos.endLine == cpos.line)) = true then trAt n C o f es else none
    | .Call (.Name x _) [] [] _ => if (m.leN && glB C.sc x && okN x) = true then match C.G.lookup x with
      | some (.fn i 0) => some (.fn i .nil)
      | _ => none
      else none
    | .Call (.Subscript (.List fns _) ix _) es [] _ => if (m.leN && noSlice ix && es.all starOk && Nat.ble fns.length 1000) = true then (fnsOf C es.length fns).bind fun is => (trE n C .b ix).bind fun ki => (trA n C .n es).bind fun ka => some (.sel is ki ka) else none
    | .Attribute o f _ => if C.hot = true then trXfld C m o f else if (m.leN && noSup o) = true then (trE n C .b o).bind fun ko => match clsF C f with
        | some (c, j, _) => some (.fld c j ko)
        | none => (clsP C.G f).map fun q => .prop q.1 q.2 ko
      else none
    | _ => none
/-- o.f(..) -/
def trAt : Nat → TC → Expr → Str → List Expr → Option K
  | 0, _, _, _, _ => none
  | n + 1, C, o, f, es => if es.all starOk = true then match clsM C.G f with
      | some (c, i, k) => if (Nat.beq k (es.length + 1) && Nat.ble es.length 20) = true then (trE n C .b o).bind fun ko => (trA n C .n es).bind fun ka => some (.meth c i ko ka) else none
      | none => (match es with
        | [e1] => if f = "index" then (trE n C .b o).bind fun ka => (trA n C .b [e1]).bind fun k1 => some (.idx ka k1)
          else if f = "join" then (trE n C .b o).bind fun ka => (trE n C .b e1).bind fun k1 => some (.join ka k1)
          else if f = "update" then (trE n C .n o).bind fun ka => (trE n C .n e1).bind fun k1 => some (.dupd ka k1)
          else none
        | [e1, e2] => if f = "get" then (trE n C .n o).bind fun ka => (trE n C .b e1).bind fun k1 => (trE n C .n e2).bind fun k2 => some (.dget ka k1 k2) else none
        | _ => none)
    else none
def trV : Nat → TC → BoolOp → List Expr → Option K
  | 0, _, _, _ => none
  | n + 1, C, op, es => match es with
    | [a] => trE n C .n a
    | a :: b :: r => (trE n C .n a).bind fun ka => (trV n C op (b :: r)).bind fun kr => match op with
      | .And => some (.and ka kr)
      | .Or => some (.or ka kr)
    | [] => none
def trT : Nat → TC → Expr → Option K
  | 0, _, _ => none
  | n + 1, C, e => match e with
    | .UnaryOp .Not a _ => (trT n C a).map .no
    | .BoolOp op vs _ => trVT n C op vs
    | .Compare a [op] [b] _ => if noSet b = true then (copOf op).bind fun o => (trE n C .b a).bind fun ka => (trE n C .b b).bind fun kb => some (.cmp o ka kb) else none
    | .Compare a [op, op'] [b, c] _ => if noSet c = true then (copOf op).bind fun o => (copOf op').bind fun o' => (trE n C .b a).bind fun ka => (trE n C .b b).bind fun kb => (trE n C .b c).bind fun kc => some (.chn o o' ka kb kc) else none
    | e => if trueOk e = true then (trE n C .b e).bind fun k => if plainT k = true then some k else none else none
def trVT : Nat → TC → BoolOp → List Expr → Option K
  | 0, _, _, _ => none
  | n + 1, C, op, es => match es with
    | [a] => trT n C a
    | a :: b :: r => (trT n C a).bind fun ka => (trVT n C op (b :: r)).bind fun kr => match op with
      | .And => some (.and ka kr)
      | .Or => some (.or ka kr)
    | [] => none
def trA : Nat → TC → Md → List Expr → Option K
  | 0, _, _, _ => none
  | n + 1, C, m, es => match es with
    | [] => some .nil
    | e :: r => if starOk e = true then (trE n C m e).bind fun k => (trA n C m r).bind fun kr => some (.cons k kr) else none
def trO : Nat → TC → Option Expr → Option K
  | 0, _, _ => none
  | n + 1, C, o => match o with
    | none => some .nil
    | some e => (trE n C .b e).bind fun k => if plainT k = true then some k else none
def trLst : Nat → TC → Md → List Expr → Option K
  | 0, _, _, _ => none
  | n + 1, C, m, es => match es with
    | [a, l, z] => if (isListCall l && isZero z) = true then
        if (m.leN && starOk a && starOk l && starOk z) = true then (trE n C .n a).bind fun ka => (trE n C .x l).bind fun kl => (trE n C .n z).bind fun kz => some (.lstL (.cons ka (.cons (.prom kl) (.cons kz .nil)))) else none
      else (trA n C .n es).map .lst
    | _ => (trA n C .n es).map .lst
def trLc : Nat → TC → Expr → Expr → Expr → List Expr → Scope → Option K
  | 0, _, _, _, _, _, _ => none
  | n + 1, C, elt, tg, it, ifs, sc => if (blkC C.N C.sc sc (ownOf C.N sc) && noSet it && !C.hot) = true then
      (trI n C tg it).bind fun ki => (trG n (C.blk sc) tg).bind fun kg => if ((tsK kg).all fun i => (vsOf C.N sc).contains i) = true then
        (match ifs with
          | [] => some K.yes
          | [t] => trT n (C.blk sc) t
          | _ => none).bind fun kt => (trE n (C.blk sc) .n elt).bind fun ke => some (K.lc (vsOf C.N sc) kg ki kt ke)
      else none
    else none
def trLc2 : Nat → TC → Expr → Expr → Expr → Expr → Expr → List Expr → Scope → Option K
  | 0, _, _, _, _, _, _, _, _ => none
  | n + 1, C, elt, tg, it, tg1, it1, ifs1, sc => if (blkC C.N C.sc sc (ownOf C.N sc) && noSet it && noSet it1 && !C.hot) = true then
      (trI n C tg it).bind fun ki => (trG n (C.blk sc) tg).bind fun kg => (trI n (C.blk sc) tg1 it1).bind fun ki1 => (trG n (C.blk sc) tg1).bind fun kg1 => if ((tsK kg).all (fun i => (vsOf C.N sc).contains i) && (tsK kg1).all (fun i => (vsOf C.N sc).contains i) && !isDk ki && !isDk ki1) = true then
        (match ifs1 with
          | [] => some K.yes
          | [t] => trT n (C.blk sc) t
          | _ => none).bind fun kt => (trE n (C.blk sc) .n elt).bind fun ke => some (K.lc2 (vsOf C.N sc) (tsK kg1) kg ki kg1 ki1 kt ke)
      else none
    else none
def trCall : Nat → TC → Md → Str → List Expr → Option K
  | 0, _, _, _, _ => none
  | n + 1, C, m, x, es => if (es.all starOk && okN x && glB C.sc x) = true then
      if insA C es = true then
        (if (isBlt C x && decide (x = "len") && m.leN) = true then match clsM C.G "__len__" with
          | some (c, i, 1) => (trA n C .b es).map (.lenI c i)
          | _ => none
        else trCallO n C m x es)
      else if dctA C es = true then
        (if (isBlt C x && decide (x = "len") && m.leN) = true then (trA n C .b es).map .dlen
        else if (isBlt C x && decide (x = "list") && !C.hot) = true then (trA n C .b es).map .dlst
        else trCallO n C m x es)
      else if x = "len" then
        (match es with
          | [.Call (.Name y _) [b] [] _] => if y = "set" then
              if (m.leN && isBlt C "len" && isBlt C "set" && starOk b && !C.hot) = true then (trE n C .b b).map .lset else none
            else trCallO n C m x es
          | _ => trCallO n C m x es)
      else if x = "list" then
        (match es with
          | [.Call (.Name y _) [b] [] _] => if y = "range" then
              if (isBlt C "list" && isBlt C "range" && starOk b && !C.hot) = true then (trE n C .b b).map .lrng else none
            else trCallO n C m x es
          | _ => trCallO n C m x es)
      else if x = "sorted" then
        (match es with
          | [.Call (.Name y _) [b] [] _] => if y = "set" then
              if (isBlt C "sorted" && isBlt C "set" && starOk b && !C.hot) = true then (trE n C .b b).map .sset else none
            else trCallO n C m x es
          | _ => trCallO n C m x es)
      else if x = "isinstance" then
        (match es with
          | [a, .Name t _] => if C.hot = true then trXis C m a t else if (m.leN && isBlt C "isinstance" && isBlt C t && okN t) = true then match tyOf t with
            | some ty => (trE n C .b a).map (.isi ty)
            | none => none
            else none
          | _ => none)
      else trCallO n C m x es
    else none
def trCallO : Nat → TC → Md → Str → List Expr → Option K
  | 0, _, _, _, _ => none
  | n + 1, C, m, x, es => match C.G.lookup x with
        | some (.fn i k) => if (m.leN && es.length == k) = true then (trA n C .n es).map (.fn i) else none
        | some (.cls c _ ini _ _) => if (m.leN && es.length + 1 == ini.2) = true then (trA n C .n es).map (.new c ini.1) else none
        | some .blt => (match biOf x es.length with
          | some b => if ((m.leN || biX b) && (!C.hot || coolB b)) = true then (trA n C .b es).map (.bi b) else none
          | none => none)
        | _ => none
def trI : Nat → TC → Expr → Expr → Option K
  | 0, _, _, _ => none
  | n + 1, C, tg, e => match e with
    | .Call (.Name x p) es [] pos => if x = "range" then
        (if isBlt C "range" = true then match es with
          | [a] => if starOk a = true then (trA n C .b [a]).map .rng1 else none
          | [a, b] => if (starOk a && starOk b) = true then (trA n C .b [a, b]).map .rng2 else none
          | _ => none
        else none)
      else if x = "enumerate" then
        (match tg, es with
          | .Tuple _ _ _, [a] => if (isBlt C "enumerate" && starOk a) = true then (trA n C .n [a]).map .enu else none
          | _, _ => none)
      else if x = "zip" then
        (match tg, es with
          | .Tuple _ _ _, [a, b] => if (isBlt C "zip" && starOk a && starOk b) = true then (trA n C .n [a, b]).map .zip else none
          | _, _ => none)
      else (trE n C .n (.Call (.Name x p) es [] pos)).map .seq
    | .Name x p => (match ixOf C.N x with
      | some i => if (dctS C i && visB C.sc x && okN x) = true then some (.dk i) else (trE n C .n (.Name x p)).map .seq
      | none => (trE n C .n (.Name x p)).map .seq)
    | e => (trE n C .n e).map .seq
def trG : Nat → TC → Expr → Option K
  | 0, _, _ => none
  | n + 1, C, tg => match tg with
    | .Name x _ => if (locB C.sc x && (C.fn x || locL C.sc x)) = true then (ixOf C.N x).map .tn else none
    | .Tuple es _ _ => if C.hot = true then none else (trGs n C es).map (.tt es.length)
    | _ => none
def trGs : Nat → TC → List Expr → Option K
  | 0, _, _ => none
  | n + 1, C, es => match es with
    | [] => some .nil
    | e :: r => if starOk e = true then (trG n C e).bind fun k => (trGs n C r).bind fun kr => some (.cons k kr) else none
end
def trX (n : Nat) (C : TC) (e : Expr) : Option K := match e with
    | .Call (.Attribute (.Name x xp) f apos) [a] [] cpos => if (decide (f = "append") || decide (f = "extend")) = true then
        if (visB C.sc x && okN x && starOk a && (apos.endLine == cpos.line)) = true then
          (ixOf C.N x).bind fun i => (trE n C .n a).bind fun k => if f = "append" then some (.app i k) else if f = "extend" then some (.ext i k) else none
        else none
      else (trE n C .b (.Call (.Attribute (.Name x xp) f apos) [a] [] cpos)).map .exp
    | e => if noComp e = true then (trE n C .b e).map .exp else none
def trAsg (n : Nat) (C : TC) (tg e : Expr) : Option K := match tg with
    | .Name x p => if (locB C.sc x && (C.fn x || locL C.sc x)) = true then (ixOf C.N x).bind fun i => match e with
        | .ListComp elt [⟨tg', it, ifs, as⟩] sc pos => if as = 0 then (trLc n C elt tg' it ifs sc).map (fun k => lkW k (.sto i k)) else none
        | .ListComp elt [⟨tg', it, [], as⟩, ⟨tg1, it1, ifs1, as1⟩] sc pos => if (decide (as = 0) && decide (as1 = 0)) = true then (trLc2 n C elt tg' it tg1 it1 ifs1 sc).map (.sto i) else none
        | .Call (.Attribute (.Name y yp) f apos) [] [] cpos => if f = "pop" then
            if (visB C.sc y && okN y && (apos.endLine == cpos.line)) = true then (ixOf C.N y).map fun j => .popS i j else none
          else (trE n C .n (.Call (.Attribute (.Name y yp) f apos) [] [] cpos)).map fun k => .asg (.tn i) k
        | e => if noComp e = true then match trE n C .x e with
          | some k => some (.sto i k)
          | none => (trE n C .n e).map fun k => .asg (.tn i) k
          else none
      else none
    | .Subscript (.Name x _) k _ => if (visB C.sc x && okN x && noSlice k && noComp e) = true then (ixOf C.N x).bind fun i => (trE n C .b k).bind fun kk => (trE n C .n e).bind fun ke => some (.put i kk ke) else none
    | .Subscript o k _ => if (noSlice k && noComp e) = true then (trE n C .n o).bind fun ko => (trE n C .b k).bind fun kk => (trE n C .n e).bind fun ke => some (.putE ko kk ke) else none
    | .Attribute o f _ => if noComp e = true then match clsF C f with
        | some (c, j, l) => (trE n C .b o).bind fun ko => (trE n C .n e).bind fun ke => some (.fset c j l ko ke)
        | none => none
      else none
    | .Tuple ts kt pt => if C.hot = true then none else (match ts, e with
        | [.Name x px, .Name y py], .Tuple [.List [] _, .List [] _] _ _ => if (locL C.sc x && locL C.sc y && (py.line == px.line) && !decide (x = y)) = true then
            (ixOf C.N x).bind fun i => (ixOf C.N y).bind fun j => some (.parL i j)
          else if ((!locL C.sc x || !locL C.sc y) && locB C.sc x && locB C.sc y && (C.fn x || locL C.sc x) && (C.fn y || locL C.sc y)) = true then
            (ixOf C.N x).bind fun i => (ixOf C.N y).bind fun j => some (.parL i j) else none
        | [.Name x px, .Name y py], .Tuple [a, b] _ _ => if (locL C.sc x && locL C.sc y && (py.line == px.line) && !decide (x = y) && starOk a && starOk b && !([a, b].all (foldedForSure 8)) && !([a, b].all (constantsAlone 8))) = true then
            (ixOf C.N x).bind fun i => (ixOf C.N y).bind fun j => (trE n C .n a).bind fun ka => match trE n C .x b with
              | some kb => some (.par2 i j ka kb)
              | none => (trE n C .n b).bind fun kb => some (.parN i j (.cons ka (.cons kb .nil)))
          else if ((!locL C.sc x || !locL C.sc y) && starOk a && starOk b) = true then
            (trG n C (.Tuple [.Name x px, .Name y py] kt pt)).bind fun kg => (trA n C .n [a, b]).bind fun ke => some (.asg kg (.tup ke))
          else none
        | [.Name x px, .Name y py, .Name z pz], .Tuple [.List [] _, .List [] _, .Constant (.int c) _ _] _ _ => if (locL C.sc x && locL C.sc y && locL C.sc z && (py.line == px.line) && (pz.line == px.line) && !decide (x = y) && !decide (x = z) && !decide (y = z)) = true then
            (ixOf C.N x).bind fun i => (ixOf C.N y).bind fun j => (ixOf C.N z).bind fun l => some (.par3 i j l c)
          else if (!(locL C.sc x && locL C.sc y && locL C.sc z) && locB C.sc x && locB C.sc y && locB C.sc z && (C.fn x || locL C.sc x) && (C.fn y || locL C.sc y) && (C.fn z || locL C.sc z)) = true then
            (ixOf C.N x).bind fun i => (ixOf C.N y).bind fun j => (ixOf C.N z).bind fun l => some (.par3 i j l c) else none
        | [.Subscript (.Name x px) (.Constant (.int c) ck cp) sp, .Name y py], .Tuple [a, b] _ _ => if (visB C.sc x && okN x && locB C.sc y && (C.fn y || locL C.sc y) && starOk a && starOk b) = true then
            (ixOf C.N x).bind fun i => (ixOf C.N y).bind fun j => (trA n C .n [a, b]).bind fun ka => some (.parS i c j ka) else none
        | ts, e => if (!isTup e && noComp e) = true then (trG n C (.Tuple ts kt pt)).bind fun kg => (trE n C .n e).bind fun ke => some (.asg kg ke) else none)
    | _ => none
def ckOf : Const → Option CK
  | .none => some .non
  | .str x => if sOk x = true then some (.str x) else none
  | .int i => some (.int i)
  | .bool b => some (.bl b)
  | _ => none
/-- except C: return constant -/
def trH (C : TC) : List ExceptHandler → Option (List (Nat × CK))
  | [] => some []
  | h :: r => match h with
    | .ExceptHandler (some (.Name x _)) none [.Return (some (.Constant c _ _)) _] _ => if (glB C.sc x && okN x) = true then match C.G.lookup x with
      | some g => g.ex.bind fun i => (ckOf c).bind fun k => (trH C r).bind fun l => some ((i, k) :: l)
      | _ => none
      else none
    | _ => none
def trRais (n : Nat) (C : TC) : Expr → Option K
  | .Call (.Name x _) [a] [] _ => if (glB C.sc x && okN x && starOk a) = true then match C.G.lookup x with
    | some (.exf i _ true) => (trE n C .n a).map (.raisF i)
    | _ => some .never
    else some .never
  | .Call (.Name x _) [] [] _ => if (glB C.sc x && okN x) = true then match C.G.lookup x with
    | some (.exc i) => some (.rais i)
    | _ => some .never
    else some .never
  | _ => some .never
mutual
def trS : Nat → TC → Stmt → Option K
  | 0, _, _ => none
  | n + 1, C, st => match st with
    | .Pass _ => some .skip
    | .Return (some e) _ => (trE n C .b e).map .ret
    | .Expr e _ => trX n C e
    | .If t a b _ => (trT n C t).bind fun kt => (trSs n C a).bind fun ka => (trSs n C b).bind fun kb => some (.ite kt ka kb)
    | .Assign [tg] e pos => trAsg n C tg e
    | .AugAssign (.Name x _) op e _ => if (locB C.sc x && (C.fn x || locL C.sc x)) = true then (ixOf C.N x).bind fun i => (trE n C .b e).bind fun k => match op with
        | .Add => some (.aug i .add k)
        | .Sub => some (.aug i .sub k)
        | _ => none
      else none
    | .AugAssign (.Subscript (.Name x xp) k sp) op e _ => if (visB C.sc x && okN x && noSlice k) = true then (ixOf C.N x).bind fun i => (trE n C .b k).bind fun kk => (trE n C .b e).bind fun ke => match op with
        | .Add => some (.augL i .add kk ke)
        | .Sub => some (.augL i .sub kk ke)
        | _ => none
      else none
    | .For tg it body [] _ => if (noSet it && !C.hot) = true then (trI n C tg it).bind fun ki => (trG n C tg).bind fun kg => (trSs n C body).bind fun kb => some (lkW (.fr kg ki kb) (.fr kg ki kb)) else none
    | .While t body [] _ => (trT n C t).bind fun kt => (trSs n C body).bind fun kb => some (.whl kt kb)
    | .Raise (some e) none _ => if C.hot = true then some .never else trRais n C e
    | .Raise _ _ _ => some .never
    | .Try body [.ExceptHandler (some (.Name x _)) (some nm) (b0 :: su) _] [] [] _ => if (C.top && !C.hot && glB C.sc x && okN x && locL C.sc nm) = true then
        ((C.G.lookup x).bind GK.ex).bind fun b => (ixOf C.N nm).bind fun i => (trSs n C body).bind fun kb => (trSs n C.suite (b0 :: su)).bind fun ks => some (.tryA (exIds C.G) i b kb ks) else none
    | .Try body (h :: hs) [] [] _ => if (C.top && !C.hot) = true then (trSs n C body).bind fun kb => (trH C (h :: hs)).bind fun l => some (.tryR (exIds C.G) l kb) else none
    | _ => none
def trSs : Nat → TC → List Stmt → Option K
  | 0, _, _ => none
  | n + 1, C, sts => match sts with
    | [] => some .skip
    | [st] => (trS n C st).bind fun k1 => some (frzs ((allV k1).eraseDups.filter fun i => C.own.contains i) k1)
    | st :: rest => (trS n C st).bind fun k1 => (trSs n C rest).bind fun k2 => some (frzs ((allV k1).eraseDups.filter fun i => C.own.contains i) (.sq k1 k2))
end
end KF
set_option Elab.async false
set_option linter.all false
set_option maxRecDepth 100000
set_option maxHeartbeats 4000000
/-! KF, part 16: what the language means is what the text does. -/
namespace KF
open PySem PySem.Spec PyProof.Rows L2
section
variable {X : Cx} {M : MK} {W : WX}
theorem k_promX {e : Expr} {f : EvF D} (p : PE X e (kX M W f)) : PE X e (kE M .n W (semProm f)) := by
  refine PE.mono p fun σ H Q ⟨B, L, A, h, env, g, q⟩ => ⟨B, L, A, h, env, g, ?_⟩
  unfold semProm at q
  cases ef : f env h with
  | ok d h' =>
    rw [ef] at q
    unfold PostX
    dsimp only
    by_cases el : isL d = true
    · rw [if_pos el]
      intro ps H1 L1 a vs ed x g1 ha r
      subst ed
      exact newP_rel g1 ha (RelDs.ofPs r) (Post.from (R := RelM M .n) sm_M x q)
    · rw [if_neg el]
      have q : Post M B A env σ W (RelM M .n B A) H L Q (promO d h') := q
      unfold promO at q
      split at q
      · exact absurd rfl el
      · exact q.elim
  | exc c fs h' => rw [ef] at q; exact q
  | bad => rw [ef] at q; exact q
theorem bE_semC {fa fb : EvF D} {fo : MH → D → D → Option Bool} : bE (semC fa fb fo) = sem2 fa fb (boolD fo) := by
  funext env h
  unfold bE semC sem2
  cases fa env h with
  | ok x h1 =>
    show ((Out.bind (fb env h1) fun y h2 => lift (fo h2 x y) h2).bind fun b h1 => .ok (.py (.bool b)) h1) = (fb env h1).bind fun y h2 => lift (boolD fo h2 x y) h2
    cases fb env h1 with
    | ok y h2 =>
      show ((lift (fo h2 x y) h2).bind fun b h1 => .ok (.py (.bool b)) h1) = lift (boolD fo h2 x y) h2
      unfold boolD
      cases fo h2 x y <;> rfl
    | exc c fs h2 => rfl
    | bad => rfl
  | exc c fs h1 => rfl
  | bad => rfl
theorem bE_not {f : EvF Bool} : bE (notT f) = fun env h => (f env h).bind fun b h1 => .ok (.py (.bool (!b))) h1 := by
  funext env h
  unfold bE notT
  cases f env h <;> rfl
def SrcS (K : PySem.W.Frag) (a : Addr) (ns : List Int) : Hp → (Addr → Prop) → Prop := fun H _ => SqF K H a (ns.map V.int)
theorem srcS_stay {K : PySem.W.Frag} {a : Addr} {ns : List Int} : ∀ H Z H' Z', Stay H Z H' Z' → SrcS K a ns H Z → SrcS K a ns H' Z' := by
  rintro H Z H' Z' s (⟨o, e⟩ | e)
  · exact .inl ⟨o, s.frzs _ _ _ e⟩
  · exact .inr e
theorem wit_scr (hK : M.K = X.K) {a : Addr} {ns : List Int} : WIt M (Itl X.K a) (ns.map fun i => .py (.int i)) (SrcS M.K a ns) := by
  rintro B H L A h env σ g src i
  have h1 : SqL X.K H a (ns.map V.int) := hK ▸ SqF.l src
  refine ⟨fun hl => ⟨_, h1, by rw [List.length_map] at hl ⊢; exact hl⟩, fun x hx => ?_⟩
  rw [List.getElem?_map] at hx
  cases q : ns[i]? with
  | none => rw [q] at hx; cases hx
  | some d =>
    rw [q] at hx; cases hx
    have e1 : (ns.map V.int)[i]? = some (V.int d) := by rw [List.getElem?_map, q]; rfl
    refine ⟨⟨_, _, h1, e1⟩, fun w H' hy => ?_⟩
    obtain ⟨rfl, hy⟩ := hy
    have := hy _ h1
    rw [e1] at this; cases this
    exact ⟨Same.refl _, .py (.int _)⟩
def itS : D → Option (List D)
  | .scr ns => some (ns.map fun i => .py (.int i))
  | _ => none
theorem i_scr (hK : M.K = X.K) {tg a : Expr} {f : EvF D} (ha : PE X a (kE M .n W f)) : PI X tg a (kI M W (semIt1 f itS)) := by
  refine PI.mono (pi_list ha) fun σ H Q ⟨B, L, A, h, env, g, p⟩ => ?_
  refine ⟨B, L, A, h, env, g, ?_⟩
  unfold semIt1 at p
  cases e : f env h with
  | ok d h1 =>
    rw [e] at p
    intro v H1 L1 x1 g1 r1
    have p : Post M B A env σ W _ H L Q (lift (itS d) h1) := p
    cases e2 : itS d with
    | none => rw [e2] at p; exact p.elim
    | some xs =>
      rw [e2] at p
      unfold itS at e2
      split at e2
      · cases e2
        cases r1 with
        | @scr _ a h1 => exact ⟨a, rfl, ⟨_, hK ▸ h1.l⟩, p _ _ _ x1 g1 ⟨SrcS M.K a _, wit_scr hK, srcS_stay, h1⟩⟩
      · cases e2
  | exc c fs h1 => rw [e] at p; exact p
  | bad => rw [e] at p; exact p
theorem i_seq (hK : M.K = X.K) {tg a : Expr} {f : EvF D} (ha : PE X a (kE M .n W f)) : PI X tg a (kI M W (semIt1 f itU)) := by
  refine PI.mono (PI.or (i_list hK ha) (PI.or (i_tup hK ha) (i_scr hK ha))) fun σ H Q ⟨B, L, A, h, env, g, p⟩ => ?_
  unfold semIt1 at p
  cases e : f env h with
  | ok d h1 =>
    rw [e] at p
    have key : ∀ it : D → Option (List D), itU d = it d → kI M W (semIt1 f it) σ H Q := fun it ei => ⟨B, L, A, h, env, g, by
      unfold semIt1
      rw [e]
      have p : Post M B A env σ W _ H L Q (lift (itU d) h1) := p
      rw [ei] at p
      exact p⟩
    cases d with
    | loc n => exact .inl (key itL rfl)
    | scr n => exact .inr (.inr (key itS rfl))
    | py d =>
      cases d with
      | list xs => exact .inl (key itL rfl)
      | tuple xs => exact .inr (.inl (key itT rfl))
      | _ => exact .inl (key itL rfl)
  | exc c fs h1 => exact .inl ⟨B, L, A, h, env, g, by unfold semIt1; rw [e] at p ⊢; exact p⟩
  | bad => rw [e] at p; exact p.elim
theorem semLc_isL {vs : List Nat} {fi : EvF (List D)} {g : TgF} {ft : EvF Bool} {fe : EvF D} : ∀ env h d h', semLc vs fi g ft fe env h = .ok d h' → isL d = true := by
  intro env h d h' e
  unfold semLc at e
  cases q : fi env h with
  | exc c fs h1 => rw [q] at e; cases e
  | bad => rw [q] at e; cases e
  | ok xs h1 =>
    rw [q] at e
    have e : (match wipeE env vs with
      | none => Out.bad
      | some ew => (lcF g ft fe ew xs h1).nx mkL) = .ok d h' := e
    split at e
    · cases e
    · obtain ⟨a, h2, _, e2⟩ := Out.nx_ok e
      obtain ⟨rfl, _⟩ := mkL_ok e2
      rfl
theorem kF_of_kX {f : EvF D} (hl : ∀ env h d h', f env h = .ok d h' → isL d = true) {σ : L2.St} {H : Hp} {Q : VK} (q : kX M W f σ H Q) : kF M W f σ H Q := by
  obtain ⟨B, L, A, h, env, g, q⟩ := q
  refine ⟨B, L, A, h, env, g, ?_⟩
  cases ef : f env h with
  | ok d h' =>
    rw [ef] at q
    unfold PostX at q
    dsimp only at q
    rw [if_pos (hl _ _ _ _ ef)] at q
    exact q
  | exc c fs h' => rw [ef] at q; exact q
  | bad => rw [ef] at q; exact q
theorem s_stoLc {i : Nat} {y : Str} {py : Pos} {elt tg iter : Expr} {ifs : List Expr} {scope : Scope} {own : List (Str × Nat)} {pos spos : Pos} {ts : List Nat} {fi : EvF (List D)} {g : TgF} {ft : EvF Bool} {fe : EvF D} (hc : X.calm = true) (hN : X.N.Nodup) (hy : X.N[i]? = some y) (hyl : X.env.scope.names.lookup y = some .local)
    (hsw : swapsWith (.ListComp elt [⟨tg, iter, ifs, 0⟩] scope pos) (some (.Name y py)) spos.line X.env = pure true) (hi : PI X tg iter (kI M W fi)) (ok : BlkOk X.N X.env.scope scope own)
    (sub : ∀ i ∈ ts, i ∈ own.map (·.2)) (hg : BlkPE X scope fun Y => PG Y tg (kG M ts g)) (ht : BlkPE X scope fun Y => PTs Y ifs (kT M WX0 ft)) (he : BlkPE X scope fun Y => PE Y elt (kE M .n WX0 fe)) (hs : ∀ x, foldedSetIterable iter X.env x = pure x) :
    PS X (.Assign [.Name y py] (.ListComp elt [⟨tg, iter, ifs, 0⟩] scope pos) spos) (kS M W (semSto i (semLc (own.map (·.2)) fi g ft fe))) :=
  PS.mono (ps_setLc hc hN hy hyl hsw hi ok hg ht he hs) fun _ _ _ q => lc_read sub (kF_of_kX semLc_isL (sto_core q))
theorem sw_comp {elt : Expr} {gs : List Comprehension} {scope : Scope} {pos py : Pos} {y : Str} {l : Nat} {env : PySem.Env} (hk : env.scope.kind = .function) : swapsWith (.ListComp elt gs scope pos) (some (.Name y py)) l env = pure (swB env.scope y py scope pos) := by
  have hb : env.blockKind = .function := by unfold Env.blockKind; rw [hk]; rfl
  have e1 : (env.kindOf y == some .local) = locL env.scope y := by
    unfold locL
    show (env.scope.names.lookup y == some .local) = _
    cases env.scope.names.lookup y with
    | none => rfl
    | some k => cases k <;> rfl
  unfold swapsWith swB
  simp only [hb, e1, Expr.pos, beq_self_eq_true, Bool.true_and]
theorem s_one {st : Stmt} {f : EvS} (h1 : PS X st (kS M W f)) : PSs X [st] (kS M W f) := by
  refine PSs.mono (s_cons h1 s_nil) fun De σ H ⟨B, L, A, h, env, g, p⟩ => ⟨B, L, A, h, env, g, ?_⟩
  unfold semSeq
  cases e : f env h with
  | nx env' h' => rw [e] at p; exact p
  | rt d h' => rw [e] at p; exact p
  | exc c fs env' h' => rw [e] at p; exact p
  | bad => rw [e] at p; exact p
def kM (M : MK) : Md → WX → EvF D → TE
  | .b, W, f => kE M .b W f
  | .n, W, f => kE M .n W f
  | .x, W, f => kX M W f
theorem of_n {m : Md} {e : Expr} {f : EvF D} (h : m.leN = true) (p : PE X e (kE M .n W f)) : PE X e (kM M m W f) := by
  cases m with
  | b => exact PE.weak (m' := .b) p rfl
  | n => exact p
  | x => cases h
theorem of_x {m : Md} {e : Expr} {f : EvF D} (p : PE X e (kX M W f)) : PE X e (kM M m W f) := by
  cases m with
  | b => exact PE.weak (m' := .b) (PE.ofX p) rfl
  | n => exact PE.ofX p
  | x => exact p
theorem bnd {α β : Type} {o : Option α} {f : α → Option β} {b : β} (h : o.bind f = some b) : ∃ a, o = some a ∧ f a = some b := by
  cases o with
  | none => cases h
  | some a => exact ⟨a, rfl, h⟩
theorem mp_ {α β : Type} {o : Option α} {f : α → β} {b : β} (h : o.map f = some b) : ∃ a, o = some a ∧ f a = b := by
  cases o with
  | none => cases h
  | some a => exact ⟨a, rfl, Option.some.inj h⟩
theorem ite_ {α : Type} {c : Bool} {o : Option α} {b : α} (h : (if c = true then o else none) = some b) : c = true ∧ o = some b := by
  cases c with
  | false => cases h
  | true => exact ⟨rfl, h⟩
theorem itp_ {α : Type} {c : Prop} [Decidable c] {o : Option α} {b : α} (h : (if c then o else none) = some b) : c ∧ o = some b := by
  by_cases hc : c
  · rw [if_pos hc] at h; exact ⟨hc, h⟩
  · rw [if_neg hc] at h; cases h
end
/-! ### the place -/
structure FnI (F : FnS) (X : Cx) (M : MK) (x : Str) (i n : Nat) : Prop where
  ex : ∃ (fa : Addr) (fd : FuncData) (ps : List Str) (k : Nat), X.mg x = some (.ref fa) ∧ PySem.W.keepIn X.K (.ref fa) = true ∧ Binds X.K fd ps [] ∧ Room k X.A ∧ FnOk X.prog X.w X.K X.mg X.base (L2.CX X.prog X.w) k fa fd ps (spF M n (F i))
  ar : ∀ ds h, F i ds h ≠ .bad → ds.length = n
def CK.v : CK → V
  | .non => .non
  | .str x => .str x
  | .int i => .int i
  | .bl b => .bl b
def CK.ok : CK → Bool
  | .str x => sOk x
  | _ => true
theorem ck_rel {K : PySem.W.Frag} {H : Hp} {Z : Addr → Prop} : ∀ {ds : List CK}, ds.all CK.ok = true → RelPs K H Z (ds.map CK.d) (ds.map CK.v)
  | [], _ => .nil
  | c :: r, h => by
    rw [List.all_cons, Bool.and_eq_true] at h
    refine .cons ?_ (ck_rel h.2)
    cases c with
    | non => exact .non
    | str x => exact .str x h.1
    | int i => exact .int i
    | bl b => exact .bl b
/-- a def at an address -/
def FnAt (F : FnS) (X : Cx) (M : MK) (i n r : Nat) (fa : Addr) : Prop := (∃ (fd : FuncData) (ps : List Str) (k : Nat), Binds X.K fd ps [] ∧ Room (k + r) X.A ∧ FnOk X.prog X.w X.K X.mg X.base (L2.CX X.prog X.w) k fa fd ps (spF M n (F i))) ∧ ∀ ds h, F i ds h ≠ .bad → ds.length = n
structure ClsI (F : FnS) (X : Cx) (M : MK) (x : Str) (c : Nat) (fs : List Str) (ini : Nat × Nat) (ms : List (Str × Nat × Nat)) (pr : List (Str × Nat)) : Prop where
  cl : L2.Cls X.K (M.cls c)
  mg : X.mg x = some (.ref (M.cls c))
  fl : M.flds c = fs
  nd : fs.Nodup
  sm : fs.length < 1000
  na : ∀ f ∈ fs, NoAttr X.K (M.cls c) f
  mak : ∃ fa, Mk X.K (M.cls c) fa ∧ FnAt F X M ini.1 ini.2 1 fa
  me : ∀ m i n, ms.lookup m = some (i, n) → m ∉ fs ∧ ∃ fa, Meth X.K (M.cls c) m fa ∧ FnAt F X M i n 0 fa
  pr : ∀ f i, pr.lookup f = some i → ∃ pa fa, PropOf X.K (M.cls c) f pa fa ∧ FnAt F X M i 1 1 fa
  ro : ∀ m i n, ms.lookup m = some (i, n) → ∃ fa, Meth X.K (M.cls c) m fa ∧ FnAt F X M i n 1 fa
def GOk (F : FnS) (X : Cx) (M : MK) (x : Str) : GK → Prop
  | .tup ds => (∃ a, X.mg x = some (.ref a) ∧ ∀ H, SqT X.K H a (ds.map CK.v)) ∧ ds.all CK.ok = true
  | .cls c fs ini ms pr => ClsI F X M x c fs ini ms pr
  | .int i => ∃ t, X.mg x = some (.int i t)
  | .str z => ∃ t, X.mg x = some (.str z t)
  | .blt => X.mg x = none
  | .fn i n => FnI F X M x i n
  | .dead => True
  | .exf i f r => ∃ C, X.mg x = some (.ref C) ∧ M.xcls i = .ref C ∧ M.xflds i = [f] ∧ XfC X.K C ∧ PySem.W.findIn X.K (.ref C) f = some none ∧ (r = true → RaI X M x i f)
  | .exc i => ∃ C, X.mg x = some (.ref C) ∧ M.xcls i = .ref C ∧ PySem.W.excIn X.K C He.veBase "ValueError.__new__" = true ∧ PySem.W.keepIn X.K (.ref C) = true ∧ PySem.W.subIn X.K (.ref C) (.type "BaseException") = some true ∧ PySem.W.typeIn X.K (.ref C) = some (.type "type")
structure XOk (F : FnS) (C : TC) (X : Cx) (M : MK) (W : WX) : Prop where
  N : X.N = C.N
  nd : C.N.Nodup
  sc : X.env.scope = C.sc
  kind : C.sc.kind = .function
  fn : ∀ x, C.fn x = true → X.fn x = true
  K : M.K = X.K
  of : Of M X
  calm : C.hot = false → X.calm = true
  tk : Takes X W
  own : PassesOwn (model X.prog X.w) X.A X.env X.xe
  un : X.A.units + 200 < cLine
  gl : ∀ x g, C.G.lookup x = some g → GOk F X M x g
  fr : C.top = true → X.stack = X.env :: X.outer ∧ X.env.frame = some X.env.locals
  ex : ∀ a b t, subE (exIds C.G) a b = some t → PySem.W.exmOne X.K (M.xcls a) (M.xcls b) = some t
  ei : ∀ a b t, subE (exIds C.G) a b = some t → ∃ D E, M.xcls a = .ref D ∧ M.xcls b = .ref E ∧ ExcC X.K D ∧ PySem.W.kitOne X.K (.ref D) (.ref E) = some t
  cur : C.hot = false → M.cur = none
  hotX : C.hot = true → SuiteOf X M
section
variable {F : FnS} {C : TC} {X : Cx} {M : MK} {W : WX}
theorem XOk.ix (k : XOk F C X M W) {x : Str} {i : Nat} (h : ixOf C.N x = some i) : X.N[i]? = some x := by rw [k.N]; exact ixOf_ok h
theorem XOk.nodup (k : XOk F C X M W) : X.N.Nodup := by rw [k.N]; exact k.nd
theorem XOk.vis (k : XOk F C X M W) {x : Str} (h : visB C.sc x = true) : Vis X.env.scope x := by rw [k.sc]; exact visB_ok h
theorem XOk.lo (k : XOk F C X M W) {x : Str} (h : locB C.sc x = true) : Loc X.env.scope x := by rw [k.sc]; exact locB_ok h
theorem XOk.ll (k : XOk F C X M W) {x : Str} (h : locL C.sc x = true) : X.env.scope.names.lookup x = some .local := by rw [k.sc]; exact locL_ok h
theorem XOk.g (k : XOk F C X M W) {x : Str} (h : glB C.sc x = true) : Gl X x := by
  show X.env.scope.names.lookup x = _
  rw [k.sc]; exact glB_ok h
theorem XOk.f (k : XOk F C X M W) {x : Str} (h : (C.fn x || locL C.sc x) = true) : X.fn x = true ∨ X.env.scope.names.lookup x = some .local := by
  rcases Bool.or_eq_true_iff.mp h with h | h
  · exact .inl (k.fn x h)
  · exact .inr (k.ll h)
theorem XOk.bl (k : XOk F C X M W) {x : Str} (h : isBlt C x = true) : Gl X x ∧ X.mg x = none := by
  obtain ⟨h1, h2⟩ := Bool.and_eq_true_iff.mp h
  exact ⟨k.g h1, k.gl x _ (of_decide_eq_true h2)⟩
theorem GOk.exOf {x : Str} {g : GK} {i : Nat} (h : GOk F X M x g) (e : g.ex = some i) : ∃ C, X.mg x = some (.ref C) ∧ M.xcls i = .ref C := by
  cases g with
  | exc j => cases e; obtain ⟨C, h1, h2, _⟩ := h; exact ⟨C, h1, h2⟩
  | exf j f r => cases e; obtain ⟨C, h1, h2, _⟩ := h; exact ⟨C, h1, h2⟩
  | _ => cases e
theorem XOk.blk (k : XOk F C X M W) (hh : C.hot = false) {sc : Scope} (hk : sc.kind = .function) (s : Shared) (H : Hp) (Cc : Addr) (cl : List (Str × Addr)) (fp : List Addr) : XOk F (C.blk sc) (X.blk s H sc (compEnvC sc cl Cc X.env) fp) M WX0 where
  N := k.N
  nd := k.nd
  sc := by
    show relS sc X.env.scope = relS sc C.sc
    rw [k.sc]
  kind := hk
  fn := fun x h => h
  K := k.K
  of := ⟨k.of.K, k.of.prog, k.of.w⟩
  calm := k.calm
  ei := k.ei
  cur := k.cur
  hotX := fun z => by rw [show (C.blk sc).hot = C.hot from rfl, hh] at z; cases z
  tk := takes0
  own := PassesOwn.never
  un := k.un
  gl := fun x g h => by
    have := k.gl x g h
    cases g with
    | int i => exact this
    | str z => exact this
    | blt => exact this
    | fn i n => exact ⟨this.ex, this.ar⟩
    | exc i => exact this
    | tup ds => exact this
    | dead => exact this
    | exf i f r => obtain ⟨Cc, h1, h2, h3, h4, h5, h6⟩ := this; exact ⟨Cc, h1, h2, h3, h4, h5, fun z => ⟨(h6 z).ex⟩⟩
    | cls c fs ini ms pr => exact ⟨this.cl, this.mg, this.fl, this.nd, this.sm, this.na, this.mak, this.me, this.pr, this.ro⟩
  fr := fun h => by cases h
  ex := k.ex
theorem cmp_ok (k : XOk F C X M W) {op : CmpOp} {o : COp} (h : copOf op = some o) : ∃ r, OpR X (compareOp op) r ∧ Cm2 M r (cmpF o) := by
  have hu : X.A.units + 64 < cLine := by have := k.un; omega
  have hu2 : X.A.units + 65 < cLine := by have := k.un; omega
  cases op <;> cases h
  · exact ⟨_, op_eqS hu, k.K ▸ c_eq⟩
  · exact ⟨_, op_neS hu, k.K ▸ c_ne⟩
  · exact ⟨_, op_lt, c_int _⟩
  · exact ⟨_, op_le, c_int _⟩
  · exact ⟨_, op_gt, c_int _⟩
  · exact ⟨_, op_ge, c_int _⟩
  · exact ⟨_, op_isN, c_isN⟩
  · exact ⟨_, op_notN, c_notN⟩
  · exact ⟨_, op_or (op_inU hu2) (op_inDct k.of (by have := k.un; omega)), k.K ▸ c_inU⟩
  · exact ⟨_, op_or (op_ninU hu2) (op_ninDct k.of (by have := k.un; omega)), k.K ▸ c_ninU⟩
/-- built-ins -/
theorem bi_n (k : XOk F C X M W) {b : BI} (cb : (!C.hot || coolB b) = true) {np pos : Pos} {e : Expr} {es : List Expr} {f : EvF (List D)} (hn : biX b = false) (hg : Gl X (biName b)) (hm : X.mg (biName b) = none) (ha : PA X (e :: es) (kA M .b W f)) (hs : (e :: es).all starOk = true) :
    PE X (.Call (.Name (biName b) np) (e :: es) [] pos) (kE M .n W (semCl f (biF b))) := by
  rw [List.all_cons, Bool.and_eq_true] at hs
  have hh : coolB b = false → C.hot = false := fun z => by rw [z, Bool.or_false] at cb; simpa using cb
  cases b with
  | len => exact k_callB call_len (k.K ▸ b_len) hg hm (by decide +kernel) ha (by decide) (by decide) (star1 hs.1) (star_any hs.2)
  | int => exact k_callTy call_int1 b_int hg hm (by decide +kernel) ha (by decide) (by decide) (star1 hs.1) (star_any hs.2)
  | max2 => exact k_callB (call_max2 (k.calm (hh rfl))) b_max2 hg hm (by decide +kernel) ha (by decide) (by decide) (star1 hs.1) (star_any hs.2)
  | min2 => exact k_callB (call_min2 (k.calm (hh rfl))) b_min2 hg hm (by decide +kernel) ha (by decide) (by decide) (star1 hs.1) (star_any hs.2)
  | abs => exact k_callB call_abs b_abs hg hm (by decide +kernel) ha (by decide) (by decide) (star1 hs.1) (star_any hs.2)
  | tup => exact k_callTy call_tuple_of (b_tup k.K) hg hm (by decide +kernel) ha (by decide) (by decide) (star1 hs.1) (star_any hs.2)
  | lst => cases hn
  | sum => exact k_callB (cr_sumU (k.calm (hh rfl))) (k.K ▸ b_sum) hg hm (by decide +kernel) ha (by decide) (by decide) (star1 hs.1) (star_any hs.2)
  | max1 => exact k_callB (cr_maxU (k.calm (hh rfl)) (by have := k.un; omega)) (k.K ▸ b_mm maxD_mem) hg hm (by decide +kernel) ha (by decide) (by decide) (star1 hs.1) (star_any hs.2)
  | min1 => exact k_callB (cr_minU (k.calm (hh rfl)) (by have := k.un; omega)) (k.K ▸ b_mm minD_mem) hg hm (by decide +kernel) ha (by decide) (by decide) (star1 hs.1) (star_any hs.2)
  | sort => cases hn
theorem fSort_isL {h : MH} {ds : List D} {d : D} (e : fSort h ds = some d) : isL d = true := by
  unfold fSort at e
  split at e
  · obtain ⟨a, _, e⟩ := bnd e
    split at e
    · cases e; rfl
    · cases e
  · cases e
theorem fLst_isL {h : MH} {ds : List D} {d : D} (e : fLst h ds = some d) : isL d = true := by
  unfold fLst at e
  split at e
  · cases e; rfl
  · cases e; rfl
  · obtain ⟨a, _, rfl⟩ := mp_ e; rfl
  · cases e
theorem ssO_isL {h : MH} {x d : D} (e : ssO h x = some d) : isL d = true := by
  unfold ssO at e
  split at e
  · obtain ⟨a, _, rfl⟩ := mp_ e; rfl
  · obtain ⟨a, _, e⟩ := bnd e
    obtain ⟨b, _, rfl⟩ := mp_ e; rfl
theorem sem1_isL {f : EvF D} {fo : MH → D → Option D} (hl : ∀ h x d, fo h x = some d → isL d = true) : ∀ env h d h', sem1 f fo env h = .ok d h' → isL d = true := by
  intro env h d h' e
  unfold sem1 at e
  cases q : f env h with
  | exc c fs h1 => rw [q] at e; cases e
  | bad => rw [q] at e; cases e
  | ok x h1 =>
    rw [q] at e
    have e : lift (fo h1 x) h1 = .ok d h' := e
    cases q2 : fo h1 x with
    | none => rw [q2] at e; cases e
    | some y => rw [q2] at e; cases e; exact hl _ _ _ q2
theorem semCl_isL {f : EvF (List D)} {fo : MH → List D → Option D} (hl : ∀ h ds d, fo h ds = some d → isL d = true) : ∀ env h d h', semCl f fo env h = .ok d h' → isL d = true := by
  intro env h d h' e
  unfold semCl at e
  cases q : f env h with
  | exc c fs h1 => rw [q] at e; cases e
  | bad => rw [q] at e; cases e
  | ok xs h1 =>
    rw [q] at e
    have e : lift (fo h1 xs) h1 = .ok d h' := e
    cases q2 : fo h1 xs with
    | none => rw [q2] at e; cases e
    | some d2 => rw [q2] at e; cases e; exact hl _ _ _ q2
theorem bi_x (k : XOk F C X M W) {b : BI} {np pos : Pos} {e : Expr} {es : List Expr} {f : EvF (List D)} (hn : biX b = true) (hg : Gl X (biName b)) (hm : X.mg (biName b) = none) (ha : PA X (e :: es) (kA M .b W f)) (hs : (e :: es).all starOk = true) :
    PE X (.Call (.Name (biName b) np) (e :: es) [] pos) (kX M W (semCl f (biF b))) := by
  rw [List.all_cons, Bool.and_eq_true] at hs
  cases b with
  | sort => exact PE.xOfF (k_callBF (cr_sortedU (by have := k.un; omega)) (k.K ▸ b_sort) hg hm (by decide +kernel) ha (by decide) (by decide) (star1 hs.1) (star_any hs.2)) (semCl_isL fun _ _ _ e => fSort_isL e)
  | lst => exact PE.xOfF (k_callTyF call_list_of (b_lst k.K) hg hm (by decide +kernel) ha (by decide) (by decide) (star1 hs.1) (star_any hs.2)) (semCl_isL fun _ _ _ e => fLst_isL e)
  | _ => cases hn
theorem bin_n {op : Operator} {m : Md} {ka kb k2 : K} {a b : Expr} {pos : Pos} (k : XOk F C X M W) (h : trBin m op ka kb = some k2) (ha : PE X a (kE M .b W (ev F ka).E)) (hb : PE X b (kE M .b W (ev F kb).E)) : PE X (.BinOp a op b pos) (kM M m W (ev F k2).E) := by
  cases op <;> try (cases h; done)
  · cases h
    exact of_x (k_opX op_addU (k.K ▸ o_addU) ha hb)
  · obtain ⟨hm, h⟩ := ite_ h
    cases h
    exact of_n hm (k_op op_sub o_sub ha hb)
  · obtain ⟨hm, h⟩ := ite_ h
    cases h
    exact of_n hm (k_op op_mul o_mul ha hb)
  · obtain ⟨hm, h⟩ := ite_ h
    cases h
    exact of_n hm (k_op op_mod o_mod ha hb)
  · obtain ⟨hm, h⟩ := ite_ h
    cases h
    exact of_n hm (k_op op_pow o_pow ha hb)
  · obtain ⟨hm, h⟩ := ite_ h
    cases h
    exact of_n hm (k_op op_fdiv o_div ha hb)
theorem const_ok {m : Md} {c : Const} {k2 : K} {kk : Nat} {pos : Pos} (h : trConst m c = some k2) : PE X (.Constant c kk pos) (kM M m W (ev F k2).E) := by
  obtain ⟨hm, h⟩ := ite_ h
  cases c <;> try (cases h; done)
  · cases h; exact of_n hm k_none
  · cases h; exact of_n hm k_bool
  · cases h; exact of_n hm k_int
  · obtain ⟨ho, h⟩ := ite_ h
    cases h; exact of_n hm (k_str ho)
theorem name_ok (k : XOk F C X M W) {m : Md} {x : Str} {k2 : K} {pos : Pos} (h : trName C m x = some k2) : PE X (.Name x pos) (kM M m W (ev F k2).E) := by
  unfold trName at h
  split at h
  · rename_i c
    obtain ⟨c1, c2⟩ := Bool.and_eq_true_iff.mp c
    obtain ⟨d1, d2⟩ := okN_ok c2
    obtain ⟨i, hi, h⟩ := bnd h
    cases m with
    | b => cases h; exact k_var (k.ix hi) (k.vis c1) d1 d2
    | n => cases h; exact k_varV (k.ix hi) (k.vis c1) d1 d2
    | x => cases h
  · obtain ⟨c, h⟩ := ite_ h
    obtain ⟨c, hm⟩ := Bool.and_eq_true_iff.mp c
    obtain ⟨c1, c2⟩ := Bool.and_eq_true_iff.mp c
    obtain ⟨d1, d2⟩ := okN_ok c2
    split at h
    · rename_i i e
      cases h
      obtain ⟨t, et⟩ := k.gl x _ e
      exact of_n hm (k_const (pe_glob (v := .int i) (k.g c1) et ⟨t, rfl⟩ d1) fun _ _ => .int i)
    · rename_i z e
      obtain ⟨ho, h⟩ := ite_ h
      cases h
      obtain ⟨t, et⟩ := k.gl x _ e
      exact of_n hm (k_const (pe_glob (v := .str z) (k.g c1) et ⟨t, rfl⟩ d1) fun _ _ => .str z ho)
    · rename_i ds el
      cases h
      obtain ⟨⟨a, q1, q2⟩, q3⟩ := k.gl _ _ el
      exact of_n hm (k_gtup k.K (k.g c1) q1 d1 q2 fun _ _ => ck_rel q3)
    · cases h
end
theorem m2_of {X : Cx} {o : Expr} {apos cpos : Pos} {e f : Expr} (hb : noSup o = true) (s1 : starOk e = true) (s2 : starOk f = true) (hl : (apos.endLine == cpos.line) = true) : M2 X o "get" apos e f cpos := by
  have t : starEach [e, f] X.env = [(false, eval e X.env), (false, eval f X.env)] := by rw [star1 s1, star1 s2]; rfl
  exact ⟨noSup_ok hb, by rw [t]; rfl, hl, by rw [t]; rfl⟩
theorem m1_of {X : Cx} {o : Expr} {m : Str} {apos cpos : Pos} {e : Expr} (hb : noSup o = true) (s1 : starOk e = true) (hl : (apos.endLine == cpos.line) = true) : M1 X o m apos e cpos := by
  have t : starEach [e] X.env = [(false, eval e X.env)] := by rw [star1 s1]; rfl
  exact ⟨noSup_ok hb, by rw [t]; rfl, hl, by rw [t]; rfl⟩
theorem star_form {env : PySem.Env} {pos : Pos} {es : List Expr} (h : es.all starOk = true) (hl : es.length ≤ 20) : methodCallForm (es.length + ([] : List Keyword).length) (backTo pos (starEach es env)) (backToKw pos (keywordEach [] env)) = true := by
  have t : ∀ {es : List Expr}, es.all starOk = true → (backTo pos (starEach es env)).all (fun x => !x.1) = true := fun {es} h => by
    induction es with
    | nil => rfl
    | cons e es ih =>
      rw [List.all_cons, Bool.and_eq_true] at h
      rw [star1 h.1]
      exact ih h.2
  unfold methodCallForm
  rw [Bool.and_eq_true, Bool.and_eq_true]
  exact ⟨⟨t h, rfl⟩, decide_eq_true (by show es.length + 0 + 0 < 30; omega)⟩
/-! ### the statements of soundness, by the fuel -/
abbrev At (P : FnS → TC → Cx → MK → WX → Prop) : Prop := ∀ F C X M W, XOk F C X M W → P F C X M W
def SE (n : Nat) : Prop := At fun F C X M W => ∀ m e k, trE n C m e = some k → PE X e (kM M m W (ev F k).E)
def SV (n : Nat) : Prop := At fun F C X M W => ∀ op es k pos, trV n C op es = some k → PE X (.BoolOp op es pos) (kE M .n W (ev F k).E)
def ST (n : Nat) : Prop := At fun F C X M W => ∀ e k, trT n C e = some k → PT X e (kT M W (ev F k).T)
def SVT (n : Nat) : Prop := At fun F C X M W => ∀ op es k pos, trVT n C op es = some k → PW X (.BoolOp op es pos) (kT M W (ev F k).T)
def mdM : Md → Mode
  | .b => .b
  | _ => .n
def SA (n : Nat) : Prop := At fun F C X M W => ∀ m es k, m ≠ .x → trA n C m es = some k → PA X es (kA M (mdM m) W (ev F k).A) ∧ es.all starOk = true
def SO (n : Nat) : Prop := At fun F C X M W => ∀ o k, trO n C o = some k → PO X o (kO M W (ev F k).O)
def SL (n : Nat) : Prop := At fun F C X M W => ∀ m es k pos, trLst n C m es = some k → PE X (.List es pos) (kM M m W (ev F k).E)
structure LcP (F : FnS) (C : TC) (X : Cx) (M : MK) (W : WX) (elt tg it : Expr) (ifs : List Expr) (sc : Scope) (k : K) : Prop where
  hh : C.hot = false
  ex : ∃ (kg ki kt ke : K), k = .lc ((ownOf C.N sc).map (·.2)) kg ki kt ke ∧ PI X tg it (kI M W (ev F ki).I) ∧ BlkOk X.N X.env.scope sc (ownOf C.N sc) ∧ (∀ i ∈ tsK kg, i ∈ (ownOf C.N sc).map (·.2)) ∧
    (BlkPE X sc fun Y => PG Y tg (kG M (tsK kg) (ev F kg).G)) ∧ (BlkPE X sc fun Y => PTs Y ifs (kT M WX0 (ev F kt).T)) ∧ (BlkPE X sc fun Y => PE Y elt (kE M .n WX0 (ev F ke).E)) ∧ ∀ x, foldedSetIterable it X.env x = pure x
def SLc (n : Nat) : Prop := At fun F C X M W => ∀ elt tg it ifs sc k, trLc n C elt tg it ifs sc = some k → LcP F C X M W elt tg it ifs sc k
structure Lc2P (F : FnS) (C : TC) (X : Cx) (M : MK) (W : WX) (elt tg it tg1 it1 : Expr) (ifs1 : List Expr) (sc : Scope) (k : K) : Prop where
  hh : C.hot = false
  ex : ∃ kg ki kg1 ki1 kt ke, k = .lc2 (vsOf C.N sc) (tsK kg1) kg ki kg1 ki1 kt ke ∧ PI X tg it (kI M W (ev F ki).I) ∧ BlkOk X.N X.env.scope sc (ownOf C.N sc) ∧ (∀ i ∈ tsK kg1, i ∈ (ownOf C.N sc).map (·.2)) ∧ (∀ i ∈ tsK kg, i ∈ (ownOf C.N sc).map (·.2)) ∧
    BlkPE X sc (fun Y => PG Y tg (kG M (tsK kg) (ev F kg).G)) ∧ BlkPE X sc (fun Y => PI Y tg1 it1 (kI M WX0 (ev F ki1).I)) ∧ BlkPE X sc (fun Y => PG Y tg1 (kG M (tsK kg1) (ev F kg1).G)) ∧ BlkPE X sc (fun Y => PTs Y ifs1 (kT M WX0 (ev F kt).T)) ∧ BlkPE X sc (fun Y => PE Y elt (kE M .n WX0 (ev F ke).E)) ∧ (∀ x, foldedSetIterable it X.env x = pure x) ∧ ∀ env x, foldedSetIterable it1 env x = pure x
def SLc2 (n : Nat) : Prop := At fun F C X M W => ∀ elt tg it tg1 it1 ifs1 sc k, trLc2 n C elt tg it tg1 it1 ifs1 sc = some k → Lc2P F C X M W elt tg it tg1 it1 ifs1 sc k
def SC (n : Nat) : Prop := At fun F C X M W => ∀ m x e es k np pos, trCall n C m x (e :: es) = some k → PE X (.Call (.Name x np) (e :: es) [] pos) (kM M m W (ev F k).E)
def SCO (n : Nat) : Prop := At fun F C X M W => ∀ m x e es k np pos, (e :: es).all starOk = true → okN x = true → glB C.sc x = true → trCallO n C m x (e :: es) = some k → PE X (.Call (.Name x np) (e :: es) [] pos) (kM M m W (ev F k).E)
def SAt (n : Nat) : Prop := At fun F C X M W => ∀ o f es k apos cpos, noSup o = true → (apos.endLine == cpos.line) = true → trAt n C o f es = some k → PE X (.Call (.Attribute o f apos) es [] cpos) (kE M .n W (ev F k).E)
def SI (n : Nat) : Prop := At fun F C X M W => ∀ tg e k, trI n C tg e = some k → PI X tg e (kI M W (ev F k).I)
def SG (n : Nat) : Prop := At fun F C X M W => ∀ tg k, trG n C tg = some k → PG X tg (kG M (tsK k) (ev F k).G)
def SGs (n : Nat) : Prop := At fun F C X M W => ∀ es k, trGs n C es = some k → PGs X es (kGs M (tsK k) (ev F k).Gs) ∧ es.all starOk = true
structure Snd (n : Nat) : Prop where
  e : SE n
  v : SV n
  t : ST n
  vt : SVT n
  a : SA n
  o : SO n
  l : SL n
  lc : SLc n
  lc2 : SLc2 n
  c : SC n
  co : SCO n
  at_ : SAt n
  i : SI n
  g : SG n
  gs : SGs n
  lo : ∀ m, m ≤ n → SE m
theorem plainT_ok {F : FnS} {k : K} (h : plainT k = true) : (ev F k).T = semV (ev F k).E ∧ (ev F k).O = semSo (ev F k).E := by
  cases k <;> first | exact ⟨rfl, rfl⟩ | cases h
theorem semLockE_isL {i : Nat} {f : EvF D} (hl : ∀ env h d h', f env h = .ok d h' → isL d = true) : ∀ env h d h', semLockE i f env h = .ok d h' → isL d = true := by
  intro env h d h' e
  unfold semLockE at e
  split at e
  · rename_i n kvs q
    cases q2 : f env (h.set n (.lck kvs)) with
    | exc c fs h1 => rw [q2] at e; cases e
    | bad => rw [q2] at e; cases e
    | ok d2 h2 =>
      rw [q2] at e
      unfold unlkE at e
      dsimp only at e
      split at e
      · cases e; exact hl _ _ _ _ q2
      · cases e
  · cases e
theorem lkW_e {F : FnS} {X : Cx} {M : MK} {W : WX} {e : Expr} {k : K} {vs : List Nat} {kg ki kt ke : K} (hk : k = .lc vs kg ki kt ke) (p : PE X e (kF M W (ev F k).E)) (hl : ∀ env h d h', (ev F k).E env h = .ok d h' → isL d = true) : PE X e (kX M W (ev F (lkW k k)).E) := by
  unfold lkW
  cases q : lkOf k with
  | none => exact PE.xOfF p hl
  | some i => exact PE.xOfF (k_lockF p) (semLockE_isL hl)
theorem lkW_s {F : FnS} {X : Cx} {M : MK} {W : WX} {st : Stmt} {k s : K} (p : PS X st (kS M W (ev F s).S)) : PS X st (kS M W (ev F (lkW k s)).S) := by
  unfold lkW
  cases q : lkOf k with
  | none => exact p
  | some i => exact s_lock p
theorem semLc2_isL {vs vs1 : List Nat} {fi fi1 : EvF (List D)} {g g1 : TgF} {ft : EvF Bool} {fe : EvF D} : ∀ env h d h', semLc2 vs vs1 fi g fi1 g1 ft fe env h = .ok d h' → isL d = true := by
  intro env h d h' e
  unfold semLc2 at e
  cases q : fi env h with
  | exc c fs h1 => rw [q] at e; cases e
  | bad => rw [q] at e; cases e
  | ok xs h1 =>
    rw [q] at e
    have e : (match wipeE env vs with
      | none => Out.bad
      | some ew => (lc2F g fi1 g1 vs1 ft fe ew xs h1).nx mkL) = .ok d h' := e
    split at e
    · cases e
    · obtain ⟨a, h2, _, e2⟩ := Out.nx_ok e
      obtain ⟨rfl, _⟩ := mkL_ok e2
      rfl
theorem semLst_isL {f : EvF (List D)} : ∀ env h d h', semLst f env h = .ok d h' → isL d = true := by
  intro env h d h' e
  unfold semLst at e
  cases q : f env h with
  | exc c fs h1 => rw [q] at e; cases e
  | bad => rw [q] at e; cases e
  | ok xs h1 =>
    rw [q] at e
    have e : lift (mkLst xs) h1 = .ok d h' := e
    cases q2 : mkLst xs with
    | none => rw [q2] at e; cases e
    | some d2 => rw [q2] at e; cases e; obtain ⟨ps, _, rfl, _⟩ := mkLst_some q2; rfl
end KF
set_option Elab.async false
set_option linter.all false
set_option maxRecDepth 100000
set_option maxHeartbeats 4000000
/-! KF, part 17: soundness. -/
namespace KF
open PySem PySem.Spec PyProof.Rows L2
theorem trA_cons {n : Nat} {C : TC} {m : Md} {e : Expr} {r : List Expr} {k2 : K} (h : trA (n + 1) C m (e :: r) = some k2) : starOk e = true ∧ ∃ ka kr, trE n C m e = some ka ∧ trA n C m r = some kr ∧ k2 = .cons ka kr := by
  unfold trA at h
  obtain ⟨hs, h⟩ := ite_ h
  obtain ⟨ka, h1, h⟩ := bnd h
  obtain ⟨kr, h2, h⟩ := bnd h
  cases h
  exact ⟨hs, ka, kr, h1, h2, rfl⟩
theorem insA_one {C : TC} {es : List Expr} (h : insA C es = true) : ∃ y p, es = [.Name y p] := by
  unfold insA at h
  split at h
  · exact ⟨_, _, rfl⟩
  · cases h
/-- translations with less fuel are sound as well -/
structure SndB (n : Nat) : Prop where
  e : ∀ m, m ≤ n → SE m
theorem disp_lB : ∀ {n : Nat} (sb : SndB n) {F : FnS} {C : TC} {X : Cx} {M : MK} {W : WX} (k : XOk F C X M W) {ks : List (Option Expr)} {vs es : List Expr} {ka : K}, kvEs ks vs = some es → trA n C .n es = some ka → ∃ trs, DispL X M W ks vs (ev F ka).A trs
  | n, sb, F, C, X, M, W, k, [], [], es, ka, he, h => by
    cases he
    cases n with
    | zero => cases h
    | succ n => unfold trA at h; cases h; exact ⟨[], .nil⟩
  | n, sb, F, C, X, M, W, k, some kx :: ks, v :: vs, es, ka, he, h => by
    have he : (kvEs ks vs).map (fun r => kx :: v :: r) = some es := he
    obtain ⟨r, e1, rfl⟩ := mp_ he
    cases n with
    | zero => cases h
    | succ n =>
      obtain ⟨s1, ka1, kr1, h1, h2, rfl⟩ := trA_cons h
      cases n with
      | zero => cases h2
      | succ n =>
        obtain ⟨s2, ka2, kr2, h3, h4, rfl⟩ := trA_cons h2
        obtain ⟨trs, dl⟩ := disp_lB (n := n) ⟨fun m hm => sb.e m (by omega)⟩ k e1 h4
        exact ⟨_, .cons (sb.e (n + 1) (by omega) F C X M W k .n kx ka1 h1) (sb.e n (by omega) F C X M W k .n v ka2 h3) dl⟩
  | n, sb, F, C, X, M, W, k, [], _ :: _, es, ka, he, h => by cases he
  | n, sb, F, C, X, M, W, k, none :: _, [], es, ka, he, h => by cases he
  | n, sb, F, C, X, M, W, k, none :: _, _ :: _, es, ka, he, h => by cases he
  | n, sb, F, C, X, M, W, k, some _ :: _, [], es, ka, he, h => by cases he
theorem disp_l {n : Nat} (s : Snd n) {F : FnS} {C : TC} {X : Cx} {M : MK} {W : WX} (k : XOk F C X M W) {ks : List (Option Expr)} {vs es : List Expr} {ka : K} (he : kvEs ks vs = some es) (h : trA n C .n es = some ka) : ∃ trs, DispL X M W ks vs (ev F ka).A trs := disp_lB ⟨s.lo⟩ k he h
theorem fns_ok {F : FnS} {C : TC} {X : Cx} {M : MK} {W : WX} (k : XOk F C X M W) {n : Nat} : ∀ {fns : List Expr} {is : List Nat}, fnsOf C n fns = some is → FnL X M n fns (is.map F) ∧ is.length = fns.length
  | [], is, h => by unfold fnsOf at h; cases h; exact ⟨.nil, rfl⟩
  | e :: r, is, h => by
    unfold fnsOf at h
    split at h
    · rename_i eq; cases eq
    · rename_i x p r' eq
      cases eq
      obtain ⟨hc, h⟩ := ite_ h
      obtain ⟨hg, ho⟩ := Bool.and_eq_true_iff.mp hc
      split at h
      · rename_i i kk eg
        obtain ⟨hk, h⟩ := ite_ h
        obtain rfl := Nat.eq_of_beq_eq_true hk
        obtain ⟨js, h1, rfl⟩ := mp_ h
        obtain ⟨f1, f2⟩ := fns_ok k h1
        obtain ⟨⟨fa, fd, ps, kl, q1, q2, q3, q4, q5⟩, q6⟩ := k.gl x _ eg
        exact ⟨.cons (k.g hg) q1 (okN_ok ho).1 ⟨⟨fd, ps, kl, q2, q3, q4, q5⟩, q6⟩ f1, by simp [f2]⟩
      · cases h
    · cases h
theorem fns_len {F : FnS} {is : List Nat} {n : Nat} (h : is.length = n) : (is.map F).length = n := by rw [List.length_map]; exact h
theorem snd_e {n : Nat} (s : Snd n) : SE (n + 1) := by
  intro F C X M W k m e k2 h
  unfold trE at h
  split at h
  · exact const_ok h
  · exact name_ok k h
  · rename_i a op b _
    split at h
    · rename_i hc
      obtain ⟨ho, ht⟩ := Bool.and_eq_true_iff.mp hc
      obtain ⟨hm, h⟩ := ite_ h
      obtain ⟨ka, h1, h⟩ := bnd h
      obtain ⟨kb, h2, h⟩ := bnd h
      have op_ : op = .Mult := by cases op <;> first | rfl | cases ho
      subst op_
      have pa := s.e F C X M W k .b a ka h1
      have pb := s.e F C X M W k .b b kb h2
      cases ct : isTupE a with
      | true => rw [ct, if_pos rfl] at h; cases h; exact of_n hm (k_op op_mulT (k.K ▸ o_mulT) pa pb)
      | false => rw [ct, if_neg (by decide)] at h; cases h; exact of_n hm (k_op op_repS o_mulS pa pb)
    · obtain ⟨ka, h1, h⟩ := bnd h
      obtain ⟨kb, h2, h⟩ := bnd h
      exact bin_n k h (s.e F C X M W k .b a ka h1) (s.e F C X M W k .b b kb h2)
  · rename_i a _
    obtain ⟨hm, h⟩ := ite_ h
    obtain ⟨ka, h1, rfl⟩ := mp_ h
    exact of_n hm (k_neg (s.e F C X M W k .b a ka h1))
  · rename_i a _
    obtain ⟨hm, h⟩ := ite_ h
    obtain ⟨ka, h1, rfl⟩ := mp_ h
    refine of_n hm ?_
    show PE X _ (kE M .n W (bE (notT (semV (ev F ka).E))))
    rw [bE_not]
    exact k_notE k.K (s.e F C X M W k .b a ka h1)
  · rename_i op vs pos
    obtain ⟨hm, h⟩ := ite_ h
    exact of_n hm (s.v F C X M W k op vs k2 pos h)
  · rename_i t a b _
    obtain ⟨kt, h0, h⟩ := bnd h
    obtain ⟨ka, h1, h⟩ := bnd h
    obtain ⟨kb, h2, h⟩ := bnd h
    cases h
    have pt := s.t F C X M W k t kt h0
    have pa := s.e F C X M W k m a ka h1
    have pb := s.e F C X M W k m b kb h2
    cases m with
    | b => exact k_ifx (m := .b) pt pa pb
    | n => exact k_ifx (m := .n) pt pa pb
    | x => exact k_ifxX pt pa pb
  · rename_i a op b _
    obtain ⟨hm, h⟩ := ite_ h
    obtain ⟨hm, hs⟩ := Bool.and_eq_true_iff.mp hm
    obtain ⟨o, ho, h⟩ := bnd h
    obtain ⟨ka, h1, h⟩ := bnd h
    obtain ⟨kb, h2, h⟩ := bnd h
    cases h
    obtain ⟨r, q1, q2⟩ := cmp_ok k ho
    refine of_n hm ?_
    show PE X _ (kE M .n W (bE (semC (ev F ka).E (ev F kb).E (cmpF o))))
    rw [bE_semC]
    exact k_cmp q1 q2.op (s.e F C X M W k .b a ka h1) (s.e F C X M W k .b b kb h2) (marks1 hs)
  · rename_i a op op' b c _
    obtain ⟨hm, h⟩ := ite_ h
    obtain ⟨hm, hs⟩ := Bool.and_eq_true_iff.mp hm
    obtain ⟨o, ho, h⟩ := bnd h
    obtain ⟨o', ho', h⟩ := bnd h
    obtain ⟨ka, h1, h⟩ := bnd h
    obtain ⟨kb, h2, h⟩ := bnd h
    obtain ⟨kc, h3, h⟩ := bnd h
    cases h
    obtain ⟨r, q1, q2⟩ := cmp_ok k ho
    obtain ⟨r', q1', q2'⟩ := cmp_ok k ho'
    exact of_n hm (k_chain q1 q1' q2 q2' (s.e F C X M W k .b a ka h1) (s.e F C X M W k .b b kb h2) (s.e F C X M W k .b c kc h3) (marks1 hs))
  · rename_i es _ _
    obtain ⟨hm, h⟩ := ite_ h
    obtain ⟨ka, h1, rfl⟩ := mp_ h
    exact of_n hm (k_tup (s.a F C X M W k .n es ka (by decide) h1).1)
  · rename_i es pos
    exact s.l F C X M W k m es k2 pos h
  · rename_i a lo hi _ _
    obtain ⟨ka, h1, h⟩ := bnd h
    obtain ⟨kl, h2, h⟩ := bnd h
    obtain ⟨kh, h3, h⟩ := bnd h
    cases h
    exact of_x (k_slX k.K (s.e F C X M W k .b a ka h1) (s.o F C X M W k lo kl h2) (s.o F C X M W k hi kh h3))
  · rename_i a i _ _ _ _ _
    obtain ⟨hc, h2⟩ := ite_ h
    obtain ⟨hm, hi⟩ := Bool.and_eq_true_iff.mp hc
    obtain ⟨ka, h1, rfl⟩ := mp_ h2
    clear h h2 hc
    obtain rfl : i = 1 := of_decide_eq_true hi
    exact of_n hm (k_revT k.K (s.e F C X M W k .b a ka h1))
  · rename_i a b _ _ _
    obtain ⟨hm, h⟩ := ite_ h
    obtain ⟨hm, hs⟩ := Bool.and_eq_true_iff.mp hm
    obtain ⟨ka, h1, h⟩ := bnd h
    obtain ⟨kb, h2, h⟩ := bnd h
    cases h
    exact of_n hm (k_ix (IxR.or ix_seq (ix_dict k.of (by have := k.un; omega))) (k.K ▸ o_ixU) (s.e F C X M W k .b a ka h1) (s.e F C X M W k .b b kb h2) (plain1 hs))
  · rename_i elt tg it ifs as sc pos
    obtain ⟨ha, h⟩ := itp_ h
    subst ha
    obtain ⟨kl, h1, rfl⟩ := mp_ h
    have hh := (s.lc F C X M W k elt tg it ifs sc kl h1).hh
    obtain ⟨kg, ki, kt, ke, rfl, q1, q2, q3, q4, q5, q6, q7⟩ := (s.lc F C X M W k elt tg it ifs sc kl h1).ex
    exact of_x (lkW_e rfl (k_lc (k.calm hh) k.nodup q1 q2 q3 q4 q5 q6 q7) semLc_isL)
  · rename_i elt tg it as tg1 it1 ifs1 as1 sc pos
    obtain ⟨hc, h⟩ := ite_ h
    obtain ⟨ha, ha1⟩ := Bool.and_eq_true_iff.mp hc
    obtain rfl : as = 0 := of_decide_eq_true ha
    obtain rfl : as1 = 0 := of_decide_eq_true ha1
    have hh := (s.lc2 F C X M W k elt tg it tg1 it1 ifs1 sc k2 h).hh
    obtain ⟨kg, ki, kg1, ki1, kt, ke, rfl, q1, q2, q3, q4, q5, q6, q7, q8, q9, q10, q11⟩ := (s.lc2 F C X M W k elt tg it tg1 it1 ifs1 sc k2 h).ex
    exact of_x (PE.xOfF (k_lc2 (k.calm hh) k.nodup q1 q2 q3 q4 (fun _ z => z) q5 q6 q7 q8 q9 q10 q11) semLc2_isL)
  · rename_i x np a es pos
    exact s.c F C X M W k m x a es k2 np pos h
  · obtain ⟨hm, h⟩ := ite_ h
    cases h
    exact of_n hm k_dnew
  · rename_i kx ks vs pos
    obtain ⟨hc, h⟩ := ite_ h
    obtain ⟨hm, hz⟩ := Bool.and_eq_true_iff.mp hc
    obtain ⟨es, he, h⟩ := bnd h
    obtain ⟨ka, h1, rfl⟩ := mp_ h
    obtain ⟨trs, dl⟩ := disp_l s k he h1
    exact of_n hm (k_disp k.of (by have := k.un; omega) dl (by simp) (by have := Nat.le_of_ble_eq_true hz; simpa using this))
  · rename_i o f apos es cpos
    obtain ⟨hc, h⟩ := ite_ h
    simp only [Bool.and_eq_true] at hc
    obtain ⟨⟨hm, hb⟩, hl⟩ := hc
    exact of_n hm (s.at_ F C X M W k o f es k2 apos cpos hb hl h)
  · rename_i x np cpos
    obtain ⟨hc, h⟩ := ite_ h
    simp only [Bool.and_eq_true] at hc
    obtain ⟨⟨hm, hg⟩, ho⟩ := hc
    split at h
    · rename_i i eg
      cases h
      obtain ⟨⟨fa, fd, ps, kl, q1, q2, q3, q4, q5⟩, q6⟩ := k.gl x _ eg
      exact of_n hm (k_call0 q5 q4 (k.g hg) q1 q2 q3 k.tk q6 (okN_ok ho).1)
    · cases h
  · rename_i fns lp ix p2 es pos
    obtain ⟨hc, h⟩ := ite_ h
    simp only [Bool.and_eq_true] at hc
    obtain ⟨⟨⟨hm, hs⟩, ha⟩, hz⟩ := hc
    obtain ⟨is, h1, h⟩ := bnd h
    obtain ⟨ki, h2, h⟩ := bnd h
    obtain ⟨ka, h3, h⟩ := bnd h
    cases h
    have fl := fns_ok k h1
    have fz : (is.map F).length ≤ 1000 := by rw [fns_len fl.2]; exact Nat.le_of_ble_eq_true hz
    cases es with
    | nil =>
      cases n with
      | zero => cases h3
      | succ n =>
        unfold trA at h3
        cases h3
        exact of_n hm (k_sel0 k.K fl.1 fz (s.e F C X M W k .b ix ki h2) (plain1 hs) k.tk)
    | cons e es =>
      rw [List.all_cons, Bool.and_eq_true] at ha
      exact of_n hm (k_sel k.K fl.1 fz (s.e F C X M W k .b ix ki h2) (plain1 hs) k.tk (s.a F C X M W k .n (e :: es) ka (by decide) h3).1 (star1 ha.1) (star_any ha.2))
  · rename_i o f pos
    split at h
    · rename_i hot
      unfold trXfld at h
      split at h
      · rename_i x px
        obtain ⟨hc, h⟩ := ite_ h
        simp only [Bool.and_eq_true] at hc
        obtain ⟨⟨hm, v1⟩, v2⟩ := hc
        obtain ⟨i, hi, rfl⟩ := mp_ h
        exact of_n hm (k_xfld (k.hotX hot) (k.ix hi) (k.vis v1) (okN_ok v2).1 (okN_ok v2).2 fun c hc => by
          obtain ⟨y, r, ey⟩ := xfIds_ok hc
          obtain ⟨Cc, _, y2, y3, y4, y5, _⟩ := k.gl _ _ ey
          exact ⟨y3, Cc, y2, y4, y5⟩)
      · cases h
    obtain ⟨hc, h⟩ := ite_ h
    obtain ⟨hm, hb⟩ := Bool.and_eq_true_iff.mp hc
    obtain ⟨ko, h1, h⟩ := bnd h
    have po := s.e F C X M W k .b o ko h1
    split at h
    · rename_i c j l ef
      cases h
      obtain ⟨x, fs, ini, ms, pr, eg, e3, rfl⟩ := clsF_ok ef
      have ci := k.gl x _ eg
      exact of_n hm (k_fld k.K po ci.cl (ci.na f (List.mem_of_getElem? (ixOf_ok e3))) (by rw [ci.fl]; exact ixOf_ok e3) (by rw [ci.fl]; exact ci.nd) (noSup_ok hb))
    · obtain ⟨q, ep, rfl⟩ := mp_ h
      obtain ⟨x, c', fs, ini, ms, pr, eg, e2⟩ := inCls_ok ep
      obtain ⟨i', e3, e4⟩ := mp_ e2
      cases e4
      have ci := k.gl x _ eg
      obtain ⟨pa, fa, q1, ⟨fd, ps, kl, q2, q3, q4⟩, q5⟩ := ci.pr f i' e3
      exact of_n hm (k_prop po ci.cl q1 q4 q3 q2 q5 (noSup_ok hb))
  · cases h
theorem snd_at {n : Nat} (s : Snd n) : SAt (n + 1) := by
  intro F C X M W k o f es k2 apos cpos hb hl h
  unfold trAt at h
  obtain ⟨ha, h0⟩ := ite_ h
  clear h
  have h := h0
  clear h0
  split at h
  · rename_i c i kk ef
    obtain ⟨hc, h⟩ := ite_ h
    obtain ⟨hk, hz⟩ := Bool.and_eq_true_iff.mp hc
    obtain ⟨ko, h1, h⟩ := bnd h
    obtain ⟨ka, h2, h⟩ := bnd h
    cases h
    obtain ⟨x, c', fs, ini, ms, pr, eg, e2⟩ := inCls_ok ef
    obtain ⟨q, e3, e4⟩ := mp_ e2
    cases e4
    have ci := k.gl x _ eg
    obtain ⟨nm, fa, q1, ⟨fd, ps, kl, q2, q3, q4⟩, q5⟩ := ci.me f q.1 q.2 e3
    have nm' : f ∉ M.flds c := by rw [ci.fl]; exact nm
    have po := s.e F C X M W k .b o ko h1
    cases es with
    | nil =>
      cases n with
      | zero => cases h2
      | succ n =>
        unfold trA at h2
        cases h2
        exact k_meth0 po ci.cl q1 nm' q4 q3 q2 k.tk q5 (noSup_ok hb) hl
    | cons e es =>
      have hf := star_form (env := X.env) (pos := cpos) ha (Nat.le_of_ble_eq_true hz)
      rw [List.all_cons, Bool.and_eq_true] at ha
      exact k_meth po ci.cl q1 nm' q4 q3 q2 k.tk q5 (s.a F C X M W k .n (e :: es) ka (by decide) h2).1 (star1 ha.1) (star_any ha.2) (noSup_ok hb) hf hl
  · split at h
    · rename_i e1
      have s1 : starOk e1 = true := by simpa using ha
      split at h
      · rename_i ef
        subst ef
        obtain ⟨ka, h1, h⟩ := bnd h
        obtain ⟨kb, h2, h⟩ := bnd h
        cases h
        exact k_idx k.K (by have := k.un; omega) (s.e F C X M W k .b _ ka h1) (s.a F C X M W k .b _ kb (by decide) h2).1 (by rw [star1 s1]; rfl) (noSup_ok hb) hl
      · split at h
        · rename_i ef
          subst ef
          obtain ⟨ka, h1, h⟩ := bnd h
          obtain ⟨kb, h2, h⟩ := bnd h
          cases h
          exact k_join k.K (s.e F C X M W k .b _ ka h1) (s.e F C X M W k .b _ kb h2) (by rw [star1 s1]; rfl) (noSup_ok hb) hl
        · split at h
          case isFalse => cases h
          rename_i ef
          subst ef
          obtain ⟨ka, h1, h⟩ := bnd h
          obtain ⟨kb, h2, h⟩ := bnd h
          cases h
          exact k_upd k.of (by have := k.un; omega) (s.e F C X M W k .n _ ka h1) (s.e F C X M W k .n _ kb h2) (m1_of hb s1 hl)
    · rename_i e1 e2
      simp only [List.all_cons, List.all_nil, Bool.and_true, Bool.and_eq_true] at ha
      split at h
      · rename_i ef
        subst ef
        obtain ⟨ka, h1, h⟩ := bnd h
        obtain ⟨kb, h2, h⟩ := bnd h
        obtain ⟨kc, h3, h⟩ := bnd h
        cases h
        exact k_get2 k.of (by have := k.un; omega) (s.e F C X M W k .n _ ka h1) (s.e F C X M W k .b _ kb h2) (s.e F C X M W k .n _ kc h3) (m2_of hb ha.1 ha.2 hl)
      · cases h
    · cases h
theorem snd_v {n : Nat} (s : Snd n) : SV (n + 1) := by
  intro F C X M W k op es k2 pos h
  unfold trV at h
  split at h
  · rename_i a
    exact pe_one (s.e F C X M W k .n a k2 h)
  · rename_i a b r
    obtain ⟨ka, h1, h⟩ := bnd h
    obtain ⟨kr, h2, h⟩ := bnd h
    cases op with
    | And => cases h; exact k_andE k.K (s.e F C X M W k .n a ka h1) (s.v F C X M W k .And (b :: r) kr pos h2)
    | Or => cases h; exact k_orE k.K (s.e F C X M W k .n a ka h1) (s.v F C X M W k .Or (b :: r) kr pos h2)
  · cases h
theorem snd_t {n : Nat} (s : Snd n) : ST (n + 1) := by
  intro F C X M W k e k2 h
  unfold trT at h
  split at h
  · rename_i a _
    obtain ⟨ka, h1, rfl⟩ := mp_ h
    exact k_not (s.t F C X M W k a ka h1)
  · rename_i op vs pos
    exact (s.vt F C X M W k op vs k2 pos h).pt
  · rename_i a op b _
    obtain ⟨hs, h⟩ := ite_ h
    obtain ⟨o, ho, h⟩ := bnd h
    obtain ⟨ka, h1, h⟩ := bnd h
    obtain ⟨kb, h2, h⟩ := bnd h
    cases h
    obtain ⟨r, q1, q2⟩ := cmp_ok k ho
    exact k_cmpT q1 q2 (s.e F C X M W k .b a ka h1) (s.e F C X M W k .b b kb h2) (marks1 hs)
  · rename_i a op op' b c _
    obtain ⟨hs, h⟩ := ite_ h
    obtain ⟨o, ho, h⟩ := bnd h
    obtain ⟨o', ho', h⟩ := bnd h
    obtain ⟨ka, h1, h⟩ := bnd h
    obtain ⟨kb, h2, h⟩ := bnd h
    obtain ⟨kc, h3, h⟩ := bnd h
    cases h
    obtain ⟨r, q1, q2⟩ := cmp_ok k ho
    obtain ⟨r', q1', q2'⟩ := cmp_ok k ho'
    exact k_chainT q1 q1' q2 q2' (s.e F C X M W k .b a ka h1) (s.e F C X M W k .b b kb h2) (s.e F C X M W k .b c kc h3) (marks1 hs)
  · rename_i e _ _ _ _
    obtain ⟨ht, h⟩ := ite_ h
    obtain ⟨ka, h1, h⟩ := bnd h
    obtain ⟨hp, h⟩ := ite_ h
    cases h
    rw [(plainT_ok hp).1]
    exact k_val k.K (s.e F C X M W k .b _ k2 h1) (isTrue1 ht)
theorem snd_vt {n : Nat} (s : Snd n) : SVT (n + 1) := by
  intro F C X M W k op es k2 pos h
  unfold trVT at h
  split at h
  · rename_i a
    have p := s.t F C X M W k a k2 h
    cases op with
    | And => exact k_and1 p
    | Or => exact k_or1 p
  · rename_i a b r
    obtain ⟨ka, h1, h⟩ := bnd h
    obtain ⟨kr, h2, h⟩ := bnd h
    cases op with
    | And => cases h; exact k_and (s.t F C X M W k a ka h1) (s.vt F C X M W k .And (b :: r) kr pos h2)
    | Or => cases h; exact k_or (s.t F C X M W k a ka h1) (s.vt F C X M W k .Or (b :: r) kr pos h2)
  · cases h
theorem snd_a {n : Nat} (s : Snd n) : SA (n + 1) := by
  intro F C X M W k m es k2 hx h
  unfold trA at h
  split at h
  · cases h; exact ⟨k_nil, rfl⟩
  · rename_i e r
    obtain ⟨hs, h⟩ := ite_ h
    obtain ⟨ka, h1, h⟩ := bnd h
    obtain ⟨kr, h2, h⟩ := bnd h
    cases h
    obtain ⟨p2, a2⟩ := s.a F C X M W k m r kr hx h2
    have p1 := s.e F C X M W k m e ka h1
    refine ⟨?_, by rw [List.all_cons, hs, a2]; rfl⟩
    cases m with
    | b => exact k_cons p1 p2 (star1 hs)
    | n => exact k_cons p1 p2 (star1 hs)
    | x => exact absurd rfl hx
theorem snd_o {n : Nat} (s : Snd n) : SO (n + 1) := by
  intro F C X M W k o k2 h
  unfold trO at h
  split at h
  · cases h; exact k_no
  · rename_i e
    obtain ⟨ka, h1, h⟩ := bnd h
    obtain ⟨hp, h⟩ := ite_ h
    cases h
    rw [(plainT_ok hp).2]
    exact k_so (s.e F C X M W k .b e k2 h1)
theorem lst_ok {n : Nat} (s : Snd n) {F : FnS} {C : TC} {X : Cx} {M : MK} {W : WX} (k : XOk F C X M W) {m : Md} {es : List Expr} {k2 : K} {pos : Pos} (h : (trA n C .n es).map K.lst = some k2) : PE X (.List es pos) (kM M m W (ev F k2).E) := by
  obtain ⟨ka, h1, rfl⟩ := mp_ h
  exact of_x (PE.xOfF (k_lst (s.a F C X M W k .n es ka (by decide) h1).1) semLst_isL)
theorem snd_l {n : Nat} (s : Snd n) : SL (n + 1) := by
  intro F C X M W k m es k2 pos h
  unfold trLst at h
  split at h
  · rename_i a l z
    split at h
    · obtain ⟨hc, h⟩ := ite_ h
      simp only [Bool.and_eq_true] at hc
      obtain ⟨⟨⟨hm, s1⟩, s2⟩, s3⟩ := hc
      obtain ⟨ka, h1, h⟩ := bnd h
      obtain ⟨kl, h2, h⟩ := bnd h
      obtain ⟨kz, h3, h⟩ := bnd h
      cases h
      refine of_n hm (k_lstL (k_cons (s.e F C X M W k .n a ka h1) (k_cons (k_promX (s.e F C X M W k .x l kl h2)) (k_cons (s.e F C X M W k .n z kz h3) k_nil (star1 s3)) (star1 s2)) (star1 s1)))
    · exact lst_ok s k h
  · exact lst_ok s k h
theorem snd_lc {n : Nat} (s : Snd n) : SLc (n + 1) := by
  intro F C X M W k elt tg it ifs sc k2 h
  unfold trLc at h
  obtain ⟨hc, h⟩ := ite_ h
  simp only [Bool.and_eq_true, Bool.not_eq_true'] at hc
  obtain ⟨⟨hb, hs⟩, hh⟩ := hc
  obtain ⟨ki, h1, h⟩ := bnd h
  obtain ⟨kg, h2, h⟩ := bnd h
  obtain ⟨ht, h⟩ := ite_ h
  obtain ⟨kt, h3, h⟩ := bnd h
  obtain ⟨ke, h4, h⟩ := bnd h
  cases h
  have bo : BlkOk X.N X.env.scope sc (ownOf C.N sc) := by rw [k.N, k.sc]; exact blkOk_by hb
  refine ⟨hh, kg, ki, kt, ke, rfl, s.i F C X M W k tg it ki h1, bo, fun i hi => ?_, fun s' H Cc cl fp => ?_, fun s' H Cc cl fp => ?_, fun s' H Cc cl fp => ?_, folded1 hs⟩
  · have := List.all_eq_true.mp ht i hi
    simpa [vsOf] using this
  · exact s.g _ _ _ _ _ (k.blk hh bo.kind s' H Cc cl fp) tg kg h2
  · have kb := k.blk hh bo.kind s' H Cc cl fp
    split at h3
    · cases h3; exact k_yes
    · exact pts_one (s.t _ _ _ _ _ kb _ kt h3)
    · cases h3
  · exact s.e _ _ _ _ _ (k.blk hh bo.kind s' H Cc cl fp) .n elt ke h4
theorem snd_lc2 {n : Nat} (s : Snd n) : SLc2 (n + 1) := by
  intro F C X M W k elt tg it tg1 it1 ifs1 sc k2 h
  unfold trLc2 at h
  obtain ⟨hc, h⟩ := ite_ h
  simp only [Bool.and_eq_true, Bool.not_eq_true'] at hc
  obtain ⟨⟨⟨hb, hs⟩, hs1⟩, hh⟩ := hc
  obtain ⟨ki, h1, h⟩ := bnd h
  obtain ⟨kg, h2, h⟩ := bnd h
  obtain ⟨ki1, h3, h⟩ := bnd h
  obtain ⟨kg1, h4, h⟩ := bnd h
  obtain ⟨ht, h⟩ := ite_ h
  simp only [Bool.and_eq_true] at ht
  obtain ⟨⟨⟨t1, t2⟩, _⟩, _⟩ := ht
  obtain ⟨kt, h5, h⟩ := bnd h
  obtain ⟨ke, h6, h⟩ := bnd h
  cases h
  have bo : BlkOk X.N X.env.scope sc (ownOf C.N sc) := by rw [k.N, k.sc]; exact blkOk_by hb
  refine ⟨hh, kg, ki, kg1, ki1, kt, ke, rfl, s.i F C X M W k tg it ki h1, bo, fun i hi => ?_, fun i hi => ?_, fun s' H Cc cl fp => ?_, fun s' H Cc cl fp => ?_, fun s' H Cc cl fp => ?_, fun s' H Cc cl fp => ?_, fun s' H Cc cl fp => ?_, folded1 hs, fun env => folded1 hs1⟩
  · have := List.all_eq_true.mp t2 i hi
    simpa [vsOf] using this
  · have := List.all_eq_true.mp t1 i hi
    simpa [vsOf] using this
  · exact s.g _ _ _ _ _ (k.blk hh bo.kind s' H Cc cl fp) tg kg h2
  · exact s.i _ _ _ _ _ (k.blk hh bo.kind s' H Cc cl fp) tg1 it1 ki1 h3
  · exact s.g _ _ _ _ _ (k.blk hh bo.kind s' H Cc cl fp) tg1 kg1 h4
  · have kb := k.blk hh bo.kind s' H Cc cl fp
    split at h5
    · cases h5; exact k_yes
    · exact pts_one (s.t _ _ _ _ _ kb _ kt h5)
    · cases h5
  · exact s.e _ _ _ _ _ (k.blk hh bo.kind s' H Cc cl fp) .n elt ke h6
theorem tyOf_ok {t : Str} {ty : String} (h : tyOf t = some ty) : t = Str.ofString ty ∧ ty ∈ tys ∧ bootBuiltins t = some (.type ty) := by
  unfold tyOf at h
  have h1 := List.find?_some h
  simp only [Bool.and_eq_true, decide_eq_true_eq] at h1
  exact ⟨h1.1.symm, List.mem_of_find?_eq_some h, h1.2⟩
theorem biOf_ok {x : Str} {n : Nat} {b : BI} (h : biOf x n = some b) : biName b = x ∧ biAr b = n := by
  unfold biOf at h
  have h1 := List.find?_some h
  simp only [Bool.and_eq_true, decide_eq_true_eq, beq_iff_eq] at h1
  exact h1
theorem ne_name {ty : String} (h : ty ∈ tys) : Str.ofString ty ≠ "__name__" := by
  have : ∀ t ∈ tys, Str.ofString t ≠ "__name__" := by decide +kernel
  exact this ty h
theorem semLr_isL {fa : EvF D} : ∀ env h d h', semLr fa env h = .ok d h' → isL d = true := by
  intro env h d h' e
  unfold semLr at e
  cases q : fa env h with
  | exc c fs h1 => rw [q] at e; cases e
  | bad => rw [q] at e; cases e
  | ok x h1 =>
    rw [q] at e
    have e : lift (lrO x) h1 = .ok d h' := e
    cases q2 : lrO x with
    | none => rw [q2] at e; cases e
    | some y => rw [q2] at e; cases e; exact lrO_isL q2
theorem snd_c {n : Nat} (s : Snd n) : SC (n + 1) := by
  intro F C X M W k m x e es k2 np pos h
  unfold trCall at h
  obtain ⟨hc, h'⟩ := ite_ h
  clear h
  simp only [Bool.and_eq_true] at hc
  obtain ⟨⟨hs, ho⟩, hg⟩ := hc
  obtain ⟨d1, d2⟩ := okN_ok ho
  split at h'
  · rename_i hia
    split at h'
    · rename_i hc
      simp only [Bool.and_eq_true, decide_eq_true_eq] at hc
      obtain ⟨⟨hb, ex⟩, hm⟩ := hc
      subst ex
      split at h'
      · rename_i c i ef
        obtain ⟨ka, h1, rfl⟩ := mp_ h'
        obtain ⟨g1, m1⟩ := k.bl hb
        obtain ⟨x, c', fs, ini, ms, pr, eg, e2⟩ := inCls_ok ef
        obtain ⟨q, e3, e4⟩ := mp_ e2
        have ci := k.gl x _ eg
        obtain ⟨q1, q2⟩ := q
        cases e4
        have rm := ci.ro "__len__" _ 1 e3
        rw [List.all_cons, Bool.and_eq_true] at hs
        obtain ⟨y, yp, ey⟩ := insA_one hia
        cases ey
        obtain ⟨fa', z1', ⟨fd', ps', kl', z2', z3', z4'⟩, z5'⟩ := rm
        exact of_n hm (k_lenI z1' z4' z3' z2' z5' g1 m1 (s.a F C X M W k .b _ ka (by decide) h1).1 (star1 hs.1))
      · cases h'
    · exact s.co F C X M W k m _ _ _ k2 np pos hs ho hg h'
  split at h'
  · split at h'
    · rename_i hc
      simp only [Bool.and_eq_true, decide_eq_true_eq] at hc
      obtain ⟨⟨hb, ex⟩, hm⟩ := hc
      subst ex
      obtain ⟨ka, h1, rfl⟩ := mp_ h'
      obtain ⟨g1, m1⟩ := k.bl hb
      rw [List.all_cons, Bool.and_eq_true] at hs
      exact of_n hm (k_callB (call_lenU k.of) b_dlen g1 m1 (by decide +kernel) (s.a F C X M W k .b _ ka (by decide) h1).1 (by decide) (by decide) (star1 hs.1) (star_any hs.2))
    · split at h'
      · rename_i hc
        simp only [Bool.and_eq_true, decide_eq_true_eq, Bool.not_eq_true'] at hc
        obtain ⟨⟨hb, ex⟩, hh⟩ := hc
        subst ex
        obtain ⟨ka, h1, rfl⟩ := mp_ h'
        obtain ⟨g1, m1⟩ := k.bl hb
        rw [List.all_cons, Bool.and_eq_true] at hs
        exact of_x (PE.xOfF (k_callTyF (call_listU k.of (k.calm hh)) b_dlst g1 m1 (by decide +kernel) (s.a F C X M W k .b _ ka (by decide) h1).1 (by decide) (by decide) (star1 hs.1) (star_any hs.2)) (semCl_isL fun _ _ _ e => dlstO_isL e))
      · exact s.co F C X M W k m _ _ _ k2 np pos hs ho hg h'
  split at h'
  · rename_i ex
    subst ex
    split at h'
    · rename_i y p2 b p3 el
      cases el
      split at h'
      · rename_i ey
        subst ey
        obtain ⟨hc, h⟩ := ite_ h'
        simp only [Bool.and_eq_true, Bool.not_eq_true'] at hc
        obtain ⟨⟨⟨⟨hm, b1⟩, b2⟩, sb⟩, hh⟩ := hc
        obtain ⟨ka, h1, rfl⟩ := mp_ h
        obtain ⟨g1, m1⟩ := k.bl b1
        obtain ⟨g2, m2⟩ := k.bl b2
        exact of_n hm (k_lenSet k.K (k.calm hh) g1 m1 g2 m2 (s.e F C X M W k .b b ka h1) (star1 sb))
      · exact s.co F C X M W k m _ _ _ k2 np pos hs ho hg h'
    · exact s.co F C X M W k m _ _ _ k2 np pos hs ho hg h'
  split at h'
  · rename_i ex
    subst ex
    split at h'
    · rename_i y p2 b p3 el
      cases el
      split at h'
      · rename_i ey
        subst ey
        obtain ⟨hc, h⟩ := ite_ h'
        simp only [Bool.and_eq_true, Bool.not_eq_true'] at hc
        obtain ⟨⟨⟨b1, b2⟩, sb⟩, hh⟩ := hc
        obtain ⟨ka, h1, rfl⟩ := mp_ h
        obtain ⟨g1, m1⟩ := k.bl b1
        obtain ⟨g2, m2⟩ := k.bl b2
        exact of_x (PE.xOfF (k_lrng (k.calm hh) g1 m1 g2 m2 (s.e F C X M W k .b b ka h1) (star1 sb)) semLr_isL)
      · exact s.co F C X M W k m _ _ _ k2 np pos hs ho hg h'
    · exact s.co F C X M W k m _ _ _ k2 np pos hs ho hg h'
  split at h'
  · rename_i ex
    subst ex
    split at h'
    · rename_i y p2 b p3 el
      cases el
      split at h'
      · rename_i ey
        subst ey
        obtain ⟨hc, h⟩ := ite_ h'
        simp only [Bool.and_eq_true, Bool.not_eq_true'] at hc
        obtain ⟨⟨⟨b1, b2⟩, sb⟩, hh⟩ := hc
        obtain ⟨ka, h1, rfl⟩ := mp_ h
        obtain ⟨g1, m1⟩ := k.bl b1
        obtain ⟨g2, m2⟩ := k.bl b2
        exact of_x (PE.xOfF (k_sset k.K (k.calm hh) (by have := k.un; omega) g1 m1 g2 m2 (s.e F C X M W k .b b ka h1) (star1 sb)) (sem1_isL fun _ _ _ e => ssO_isL e))
      · exact s.co F C X M W k m _ _ _ k2 np pos hs ho hg h'
    · exact s.co F C X M W k m _ _ _ k2 np pos hs ho hg h'
  split at h'
  · rename_i ex
    subst ex
    split at h'
    · rename_i a t p2 el
      cases el
      split at h'
      · rename_i hot
        unfold trXis at h'
        split at h'
        · rename_i x px
          obtain ⟨hc, h⟩ := ite_ h'
          simp only [Bool.and_eq_true] at hc
          obtain ⟨⟨⟨⟨⟨hm, b1⟩, v1⟩, v2⟩, t1⟩, t2⟩ := hc
          obtain ⟨b, h1, h⟩ := bnd h
          obtain ⟨g, hg', h1⟩ := bnd h1
          obtain ⟨i, hi, rfl⟩ := mp_ h
          obtain ⟨Cb, m1, m2⟩ := (k.gl _ _ hg').exOf h1
          obtain ⟨g1, m3⟩ := k.bl b1
          exact of_n hm (k_xis (k.hotX hot) (k.ix hi) (k.vis v1) (okN_ok v2).1 (okN_ok v2).2 g1 m3 (k.g t1) m1 m2 (okN_ok t2).1 k.ei)
        · cases h'
      obtain ⟨hc, h⟩ := ite_ h'
      simp only [Bool.and_eq_true] at hc
      obtain ⟨⟨⟨hm, b1⟩, b2⟩, ht⟩ := hc
      split at h
      · rename_i ty et
        obtain ⟨ka, h1, rfl⟩ := mp_ h
        obtain ⟨e1, e2, e3⟩ := tyOf_ok et
        obtain ⟨g1, m1⟩ := k.bl b1
        obtain ⟨g2, m2⟩ := k.bl b2
        rw [List.all_cons, Bool.and_eq_true] at hs
        exact of_n hm (k_isi k.K (s.e F C X M W k .b _ ka h1) e1 e2 g1 m1 g2 m2 e3 (e1 ▸ ne_name e2) (okN_ok ht).1 (star1 hs.1))
      · cases h
    · cases h'
  · exact s.co F C X M W k m x e es k2 np pos hs ho hg h'
theorem snd_co {n : Nat} (s : Snd n) : SCO (n + 1) := by
  intro F C X M W k m x e es k2 np pos hs ho hg h'
  unfold trCallO at h'
  obtain ⟨d1, d2⟩ := okN_ok ho
  split at h'
  · rename_i i kk eg
    obtain ⟨hc, h⟩ := ite_ h'
    obtain ⟨hm, hl⟩ := Bool.and_eq_true_iff.mp hc
    obtain ⟨ka, h1, rfl⟩ := mp_ h
    obtain ⟨⟨fa, fd, ps, kl, q1, q2, q3, q4, q5⟩, q6⟩ := k.gl x _ eg
    rw [List.all_cons, Bool.and_eq_true] at hs
    exact of_n hm (k_call q5 q4 (k.g hg) q1 q2 q3 k.tk q6 (s.a F C X M W k .n (e :: es) ka (by decide) h1).1 d1 (star1 hs.1) (star_any hs.2))
  · rename_i c fs ini ms pr eg
    obtain ⟨hc, h⟩ := ite_ h'
    obtain ⟨hm, hl⟩ := Bool.and_eq_true_iff.mp hc
    obtain ⟨ka, h1, rfl⟩ := mp_ h
    have ci := k.gl x _ eg
    obtain ⟨fa, q1, ⟨fd, ps, kl, q2, q3, q4⟩, q5⟩ := ci.mak
    rw [List.all_cons, Bool.and_eq_true] at hs
    exact of_n hm (k_new q1 q4 q3 (k.g hg) ci.mg q2 k.tk q5 (s.a F C X M W k .n (e :: es) ka (by decide) h1).1 d1 (star1 hs.1) (star_any hs.2))
  · rename_i eg
    split at h'
    · rename_i b eb
      obtain ⟨hc, h⟩ := ite_ h'
      obtain ⟨hc, cb⟩ := Bool.and_eq_true_iff.mp hc
      obtain ⟨ka, h1, rfl⟩ := mp_ h
      obtain ⟨e1, e2⟩ := biOf_ok eb
      subst e1
      have hm : X.mg (biName b) = none := k.gl _ _ eg
      have pa := (s.a F C X M W k .b (e :: es) ka (by decide) h1).1
      cases hx : biX b with
      | true => exact of_x (bi_x k hx (k.g hg) hm pa hs)
      | false =>
        rw [hx, Bool.or_false] at hc
        exact of_n hc (bi_n k cb hx (k.g hg) hm pa hs)
    · cases h'
  · cases h'
theorem snd_i {n : Nat} (s : Snd n) : SI (n + 1) := by
  intro F C X M W k tg e k2 h
  unfold trI at h
  split at h
  · rename_i x p es pos
    split at h
    · rename_i ex
      subst ex
      obtain ⟨hb, h⟩ := ite_ h
      obtain ⟨g1, m1⟩ := k.bl hb
      split at h
      · obtain ⟨hs, h⟩ := ite_ h
        obtain ⟨ka, h1, rfl⟩ := mp_ h
        exact i_rng1 g1 m1 (s.a F C X M W k .b _ ka (by decide) h1).1 (star1 hs)
      · obtain ⟨hs, h⟩ := ite_ h
        obtain ⟨hs1, hs2⟩ := Bool.and_eq_true_iff.mp hs
        obtain ⟨ka, h1, rfl⟩ := mp_ h
        exact i_rng2 g1 m1 (s.a F C X M W k .b _ ka (by decide) h1).1 (by rw [star1 hs1, star1 hs2]; rfl) (star1 hs2)
      · cases h
    · split at h
      · rename_i ex
        subst ex
        split at h
        · obtain ⟨hc, h⟩ := ite_ h
          obtain ⟨hb, hs⟩ := Bool.and_eq_true_iff.mp hc
          obtain ⟨g1, m1⟩ := k.bl hb
          obtain ⟨ka, h1, rfl⟩ := mp_ h
          exact i_enum k.K g1 m1 (s.a F C X M W k .n _ ka (by decide) h1).1 (star1 hs)
        · cases h
      · split at h
        · rename_i ex
          subst ex
          split at h
          · obtain ⟨hc, h⟩ := ite_ h
            simp only [Bool.and_eq_true] at hc
            obtain ⟨⟨hb, hs1⟩, hs2⟩ := hc
            obtain ⟨g1, m1⟩ := k.bl hb
            obtain ⟨ka, h1, rfl⟩ := mp_ h
            exact i_zip k.K g1 m1 (s.a F C X M W k .n _ ka (by decide) h1).1 (star1 hs1) (star_any (by rw [List.all_cons, hs2]; rfl))
          · cases h
        · obtain ⟨ka, h1, rfl⟩ := mp_ h
          exact i_seq k.K (s.e F C X M W k .n _ ka h1)
  · rename_i x p
    split at h
    · rename_i i hi
      split at h
      · rename_i hc
        cases h
        simp only [Bool.and_eq_true] at hc
        obtain ⟨⟨_, h1⟩, h2⟩ := hc
        obtain ⟨d1, d2⟩ := okN_ok h2
        exact i_keys k.of (k.ix hi) (k.vis h1) d1 d2
      · obtain ⟨ka, h1, rfl⟩ := mp_ h
        exact i_seq k.K (s.e F C X M W k .n _ ka h1)
    · obtain ⟨ka, h1, rfl⟩ := mp_ h
      exact i_seq k.K (s.e F C X M W k .n _ ka h1)
  · obtain ⟨ka, h1, rfl⟩ := mp_ h
    exact i_seq k.K (s.e F C X M W k .n _ ka h1)
theorem asgEach1 {e : Expr} {es : List Expr} {env : PySem.Env} (h : starOk e = true) : assignEach (e :: es) env = (false, assign e env) :: assignEach es env := by
  cases e <;> first | rfl | cases h
theorem asg_len {env : PySem.Env} : ∀ {es : List Expr}, es.all starOk = true → (assignEach es env).length = es.length ∧ (assignEach es env).findIdx? (·.1) = none
  | [], _ => ⟨rfl, rfl⟩
  | e :: es, h => by
    rw [List.all_cons, Bool.and_eq_true] at h
    obtain ⟨h1, h2⟩ := asg_len (env := env) h.2
    rw [asgEach1 h.1]
    refine ⟨by rw [List.length_cons, List.length_cons, h1], ?_⟩
    rw [List.findIdx?_cons]
    simp [h2]
theorem snd_g {n : Nat} (s : Snd n) : SG (n + 1) := by
  intro F C X M W k tg k2 h
  unfold trG at h
  split at h
  · rename_i x _
    obtain ⟨hc, h⟩ := ite_ h
    obtain ⟨h1, h2⟩ := Bool.and_eq_true_iff.mp hc
    obtain ⟨i, hi, rfl⟩ := mp_ h
    exact g_name k.nodup (k.ix hi) (k.lo h1) (k.f h2)
  · rename_i es _ _
    split at h
    · cases h
    rename_i hh
    obtain ⟨kg, h1, rfl⟩ := mp_ h
    obtain ⟨p, a⟩ := s.gs F C X M W k es kg h1
    exact g_tup k.K (k.calm (by simpa using hh)) p (asg_len a).1 (asg_len a).2
  · cases h
theorem snd_gs {n : Nat} (s : Snd n) : SGs (n + 1) := by
  intro F C X M W k es k2 h
  unfold trGs at h
  split at h
  · cases h; exact ⟨gs_nil, rfl⟩
  · rename_i e r
    obtain ⟨hs, h⟩ := ite_ h
    obtain ⟨ka, h1, h⟩ := bnd h
    obtain ⟨kr, h2, h⟩ := bnd h
    cases h
    obtain ⟨p2, a2⟩ := s.gs F C X M W k r kr h2
    exact ⟨gs_cons (s.g F C X M W k e ka h1) p2 (by rw [asgEach1 hs]; rfl), by rw [List.all_cons, hs, a2]; rfl⟩
theorem snd : ∀ n : Nat, Snd n
  | 0 => by
    refine ⟨?_, ?_, ?_, ?_, ?_, ?_, ?_, ?_, ?_, ?_, ?_, ?_, ?_, ?_, ?_, ?_⟩
    · intro F C X M W k m e k2 h; unfold trE at h; cases h
    · intro F C X M W k op es k2 pos h; unfold trV at h; cases h
    · intro F C X M W k e k2 h; unfold trT at h; cases h
    · intro F C X M W k op es k2 pos h; unfold trVT at h; cases h
    · intro F C X M W k m es k2 _ h; unfold trA at h; cases h
    · intro F C X M W k o k2 h; unfold trO at h; cases h
    · intro F C X M W k m es k2 pos h; unfold trLst at h; cases h
    · intro F C X M W k elt tg it ifs sc k2 h; unfold trLc at h; cases h
    · intro F C X M W k elt tg it tg1 it1 ifs1 sc k2 h; unfold trLc2 at h; cases h
    · intro F C X M W k m x e es k2 np pos h; unfold trCall at h; cases h
    · intro F C X M W k m x e es k2 np pos _ _ _ h; unfold trCallO at h; cases h
    · intro F C X M W k o f es k2 apos cpos _ _ h; unfold trAt at h; cases h
    · intro F C X M W k tg e k2 h; unfold trI at h; cases h
    · intro F C X M W k tg k2 h; unfold trG at h; cases h
    · intro F C X M W k es k2 h; unfold trGs at h; cases h
    · intro m hm F C X M W k md e k2 h
      obtain rfl : m = 0 := by omega
      unfold trE at h; cases h
  | n + 1 => have s := snd n; ⟨snd_e s, snd_v s, snd_t s, snd_vt s, snd_a s, snd_o s, snd_l s, snd_lc s, snd_lc2 s, snd_c s, snd_co s, snd_at s, snd_i s, snd_g s, snd_gs s, fun m hm => (Nat.lt_or_ge m (n + 1)).elim (fun h => s.lo m (by omega)) (fun h => (show m = n + 1 by omega) ▸ snd_e s)⟩
end KF
set_option Elab.async false
set_option linter.all false
set_option maxRecDepth 100000
set_option maxHeartbeats 4000000
/-! KF, part 18: soundness of statements; defs, programs. -/
namespace KF
open PySem PySem.Spec PyProof.Rows L2
def SS (n : Nat) : Prop := At fun F C X M W => ∀ st k, trS n C st = some k → PS X st (kS M W (ev F k).S)
def SX (n : Nat) : Prop := At fun F C X M W => ∀ e k pos, trX n C e = some k → PS X (.Expr e pos) (kS M W (ev F k).S)
def SAs (n : Nat) : Prop := At fun F C X M W => ∀ tg e k pos, trAsg n C tg e = some k → PS X (.Assign [tg] e pos) (kS M W (ev F k).S)
def SSs (n : Nat) : Prop := At fun F C X M W => ∀ sts k, trSs n C sts = some k → PSs X sts (kS M W (ev F k).S)
theorem sole1 {t e : Expr} {l : Nat} {env : PySem.Env} (h : noComp e = true) : swapsWithSole [t] e l env = pure false := swaps1 h
structure SndS (n : Nat) : Prop where
  s : SS n
  x : SX n
  a : SAs n
  ss : SSs n
theorem frzs_ok {F : FnS} {X : Cx} {M : MK} {W : WX} {sts : List Stmt} {k : K} (p : PSs X sts (kS M W (ev F k).S)) : ∀ is : List Nat, PSs X sts (kS M W (ev F (frzs is k)).S)
  | [] => p
  | i :: r => s_frz (frzs_ok p r)
theorem snd_ss {n : Nat} (s : SndS n) : SSs (n + 1) := by
  intro F C X M W k sts k2 h
  unfold trSs at h
  split at h
  · cases h; exact s_nil
  · obtain ⟨k1, h1, h⟩ := bnd h
    cases h
    exact frzs_ok (s_one (s.s F C X M W k _ k1 h1)) _
  · obtain ⟨k1, h1, h⟩ := bnd h
    obtain ⟨k3, h3, h⟩ := bnd h
    cases h
    exact frzs_ok (s_cons (s.s F C X M W k _ k1 h1) (s.ss F C X M W k _ k3 h3)) _
theorem snd_x {n : Nat} : SX n := by
  intro F C X M W k e k2 pos h
  have s := snd n
  unfold trX at h
  split at h
  · split at h
    case isFalse =>
      obtain ⟨ka, h1, rfl⟩ := mp_ h
      exact s_exp (s.e F C X M W k .b _ ka h1) (swaps1 rfl)
    obtain ⟨hc, h'⟩ := ite_ h
    clear h
    simp only [Bool.and_eq_true] at hc
    obtain ⟨⟨⟨h1, h2⟩, h3⟩, h4⟩ := hc
    obtain ⟨d1, d2⟩ := okN_ok h2
    obtain ⟨i, hi, h6⟩ := bnd h'
    obtain ⟨ka, h5, h7⟩ := bnd h6
    clear h6 h'
    have pe := s.e F C X M W k .n _ ka h5
    split at h7
    · rename_i ef
      subst ef
      cases h7
      exact s_app (k.ix hi) (k.vis h1) d1 d2 pe (star1 h3) h4
    · split at h7
      · rename_i ef
        subst ef
        cases h7
        exact s_ext (k.ix hi) (k.vis h1) d1 d2 pe (star1 h3) h4
      · cases h7
  · obtain ⟨hc, h'⟩ := ite_ h
    obtain ⟨ka, h1, rfl⟩ := mp_ h'
    exact s_exp (s.e F C X M W k .b _ ka h1) (swaps1 hc)
theorem sw_subs {o kx : Expr} {y : Str} {ps py pt p2 : Pos} {kt k2 : Nat} {a b : Expr} {env : PySem.Env} (hk : env.scope.kind = .function) (ns : starOk a = true) (ns2 : starOk b = true) : swappedStores [.Tuple [.Subscript o kx ps, .Name y py] kt pt] (.Tuple [a, b] k2 p2) env = pure none := by
  have hb : env.blockKind = .function := by unfold Env.blockKind; rw [hk]; rfl
  unfold swappedStores
  dsimp only
  rw [hb]
  simp only [List.length_cons, List.length_nil]
  rw [if_neg (by decide), if_neg (by
    intro h
    simp only [List.any_cons, List.any_nil, Bool.or_false, Bool.or_eq_true] at h
    rcases h with h | h
    · cases a <;> first | exact absurd (show false = true from h) Bool.false_ne_true | cases ns
    · cases b <;> first | exact absurd (show false = true from h) Bool.false_ne_true | cases ns2)]
  simp only [List.head?_cons, Option.map_some, Option.getD_some, Expr.pos, List.filterMap_cons, List.filterMap_nil]
  by_cases e : (env.kindOf y == some .local && py.line == ps.line) = true
  · simp only [e, if_true]
    rfl
  · simp only [e, Bool.false_eq_true, if_false]
    rfl
theorem snd_as {n : Nat} : SAs n := by
  intro F C X M W k tg e k2 pos h
  have s := snd n
  unfold trAsg at h
  split at h
  · rename_i x p
    obtain ⟨hc, h'⟩ := ite_ h
    clear h
    obtain ⟨h1, h2⟩ := Bool.and_eq_true_iff.mp hc
    obtain ⟨i, hi, h'⟩ := bnd h'
    split at h'
    · rename_i elt tg' it ifs as sc pos' _
      obtain ⟨ha, h3⟩ := itp_ h'
      clear h'
      subst ha
      obtain ⟨kl, h4, rfl⟩ := mp_ h3
      have hh := (s.lc F C X M W k elt tg' it ifs sc kl h4).hh
      obtain ⟨kg, ki, kt, ke, rfl, q1, q2, q3, q4, q5, q6, q7⟩ := (s.lc F C X M W k elt tg' it ifs sc kl h4).ex
      have hk : X.env.scope.kind = .function := by rw [k.sc]; exact k.kind
      cases hsw : swB X.env.scope x p sc pos' with
      | true =>
        have hl : locL X.env.scope x = true := by
          unfold swB at hsw
          simp only [Bool.and_eq_true] at hsw
          exact hsw.1.1
        exact lkW_s (s_stoLc (k.calm hh) k.nodup (k.ix hi) (locL_ok hl) (by rw [sw_comp hk, hsw]) q1 q2 q3 q4 q5 q6 q7)
      | false => exact lkW_s (s_sto k.nodup (k.ix hi) (k.lo h1) (k.f h2) (PE.xOfF (k_lc (k.calm hh) k.nodup q1 q2 q3 q4 q5 q6 q7) semLc_isL) (by rw [sw_comp hk, hsw]))
    · rename_i elt tg' it as tg1 it1 ifs1 as1 sc pos' _
      obtain ⟨hc, h3⟩ := ite_ h'
      clear h'
      obtain ⟨ha, ha1⟩ := Bool.and_eq_true_iff.mp hc
      obtain rfl : as = 0 := of_decide_eq_true ha
      obtain rfl : as1 = 0 := of_decide_eq_true ha1
      obtain ⟨kl, h4, rfl⟩ := mp_ h3
      have hh := (s.lc2 F C X M W k elt tg' it tg1 it1 ifs1 sc kl h4).hh
      obtain ⟨kg, ki, kg1, ki1, kt, ke, rfl, q1, q2, q3, q4, q5, q6, q7, q8, q9, q10, q11⟩ := (s.lc2 F C X M W k elt tg' it tg1 it1 ifs1 sc kl h4).ex
      have hk : X.env.scope.kind = .function := by rw [k.sc]; exact k.kind
      cases hsw : swB X.env.scope x p sc pos' with
      | true =>
        have hl : locL X.env.scope x = true := by
          unfold swB at hsw
          simp only [Bool.and_eq_true] at hsw
          exact hsw.1.1
        exact PS.mono (k_setLc2 (k.calm hh) k.nodup (k.ix hi) (locL_ok hl) (by rw [sw_comp hk, hsw]) q1 q2 q3 q4 (fun _ z => z) q5 q6 q7 q8 q9 q10 q11) fun _ _ _ q => kF_of_kX semLc2_isL (sto_core q)
      | false => exact s_sto k.nodup (k.ix hi) (k.lo h1) (k.f h2) (PE.xOfF (k_lc2 (k.calm hh) k.nodup q1 q2 q3 q4 (fun _ z => z) q5 q6 q7 q8 q9 q10 q11) semLc2_isL) (by rw [sw_comp hk, hsw])
    · rename_i y yp f apos cpos h8
      have h9 := h'
      clear h' h8
      split at h9
      · rename_i ef
        subst ef
        obtain ⟨hc, h3⟩ := ite_ h9
        simp only [Bool.and_eq_true] at hc
        obtain ⟨⟨v1, v2⟩, v3⟩ := hc
        obtain ⟨j, hj, rfl⟩ := mp_ h3
        exact s_pop k.nodup (k.ix hj) (k.vis v1) (okN_ok v2).1 (okN_ok v2).2 (k.ix hi) (k.lo h1) (k.f h2) v3
      · obtain ⟨ka, h4, rfl⟩ := mp_ h9
        exact s_set k.nodup (k.ix hi) (k.lo h1) (k.f h2) (s.e F C X M W k .n _ ka h4) (swaps1 rfl)
    · obtain ⟨hn, h3⟩ := ite_ h'
      clear h'
      split at h3
      · rename_i kx ex
        cases h3
        exact s_sto k.nodup (k.ix hi) (k.lo h1) (k.f h2) (s.e F C X M W k .x _ kx ex) (swaps1 hn)
      · obtain ⟨ka, h4, rfl⟩ := mp_ h3
        exact s_set k.nodup (k.ix hi) (k.lo h1) (k.f h2) (s.e F C X M W k .n _ ka h4) (swaps1 hn)
  · rename_i x p1 kx p2
    obtain ⟨hc, h'⟩ := ite_ h
    clear h
    simp only [Bool.and_eq_true] at hc
    obtain ⟨⟨⟨h1, h2⟩, h3⟩, h4⟩ := hc
    obtain ⟨d1, d2⟩ := okN_ok h2
    obtain ⟨i, hi, h'⟩ := bnd h'
    obtain ⟨kk, h5, h'⟩ := bnd h'
    obtain ⟨ke, h6, h'⟩ := bnd h'
    cases h'
    exact s_putU k.of (by have := k.un; omega) (k.ix hi) (k.vis h1) d1 d2 (s.e F C X M W k .n _ ke h6) (s.e F C X M W k .b _ kk h5) (sole1 h4) sw_sub rfl (asnSub h3)
  · rename_i o kx p2 _
    obtain ⟨hc, h'⟩ := ite_ h
    clear h
    obtain ⟨h3, h4⟩ := Bool.and_eq_true_iff.mp hc
    obtain ⟨ko, h1, h'⟩ := bnd h'
    obtain ⟨kk, h5, h'⟩ := bnd h'
    obtain ⟨ke, h6, h'⟩ := bnd h'
    cases h'
    exact s_putE k.of (by have := k.un; omega) (s.e F C X M W k .n _ ko h1) (s.e F C X M W k .n _ ke h6) (s.e F C X M W k .b _ kk h5) (sole1 h4) sw_sub rfl (asnSub h3)
  · rename_i o f p1
    obtain ⟨hn, h'⟩ := ite_ h
    clear h
    split at h'
    · rename_i c j l ef
      obtain ⟨ko, h1, h'⟩ := bnd h'
      obtain ⟨ke, h6, h'⟩ := bnd h'
      cases h'
      obtain ⟨x, fs, ini, ms, pr, eg, e3, rfl⟩ := clsF_ok ef
      have ci := k.gl x _ eg
      exact s_fset k.K (s.e F C X M W k .b _ ko h1) (s.e F C X M W k .n _ ke h6) ci.cl (ci.na f (List.mem_of_getElem? (ixOf_ok e3))) (by rw [ci.fl]; exact ixOf_ok e3) (by rw [ci.fl]; exact ci.nd) (by rw [ci.fl]) (by rw [ci.fl]; exact ci.sm) (swaps1 hn)
    · cases h'
  · rename_i ts kt pt
    split at h
    · cases h
    rename_i hh
    have hh : C.hot = false := by simpa using hh
    split at h
    · rename_i x px y py q1 q2 k3 p3
      have hk : X.env.scope.kind = .function := by rw [k.sc]; exact k.kind
      split at h
      case isFalse =>
        obtain ⟨hc, h'⟩ := ite_ h
        clear h
        simp only [Bool.and_eq_true, Bool.or_eq_true, Bool.not_eq_true'] at hc
        obtain ⟨⟨⟨⟨h1, l1⟩, l2⟩, f1⟩, f2⟩ := hc
        obtain ⟨i, hi, h'⟩ := bnd h'
        obtain ⟨j, hj, h'⟩ := bnd h'
        cases h'
        have nl : ∀ z, locL C.sc z = false → (X.env.scope.names.lookup z == some .local) = false := fun z hz => by
          rw [k.sc]
          unfold locL at hz
          cases q : C.sc.names.lookup z with
          | none => rfl
          | some kd => cases kd <;> first | rfl | (rw [q] at hz; cases hz)
        have w : swappedStores [.Tuple [.Name x px, .Name y py] kt pt] (.Tuple [.List [] q1, .List [] q2] k3 p3) X.env = pure none := by
          refine sw_cell hk ?_ rfl rfl
          rcases h1 with h1 | h1
          · exact .inl (nl x h1)
          · exact .inr (nl y h1)
        exact s_parLC (k.calm hh) k.nodup (k.ix hi) (k.ix hj) (k.lo l1) (k.lo l2) (k.f (Bool.or_eq_true_iff.mpr f1)) (k.f (Bool.or_eq_true_iff.mpr f2)) w
      rename_i hc
      simp only [Bool.and_eq_true, Bool.not_eq_true'] at hc
      obtain ⟨⟨⟨h1, h2⟩, h3⟩, h4⟩ := hc
      have ne : x ≠ y := of_decide_eq_false h4
      obtain ⟨i, hi, h⟩ := bnd h
      obtain ⟨j, hj, h⟩ := bnd h
      cases h
      have ij : i ≠ j := fun z => ne (by
        have e1 := ixOf_ok hi
        have e2 := ixOf_ok hj
        rw [z, e2] at e1
        exact (Option.some.inj e1).symm)
      exact s_parL (k.calm hh) k.nodup (k.ix hi) (k.ix hj) ij (k.ll h1) (k.ll h2) (sw_two hk (k.ll h1) (k.ll h2) h3 ne rfl rfl rfl rfl)
    · rename_i x px y py a b k3 p3 _
      have hk : X.env.scope.kind = .function := by rw [k.sc]; exact k.kind
      split at h
      case isFalse =>
        obtain ⟨hc, h'⟩ := ite_ h
        clear h
        simp only [Bool.and_eq_true, Bool.or_eq_true, Bool.not_eq_true'] at hc
        obtain ⟨⟨h1, h5⟩, h6⟩ := hc
        have sA : isStar a = false := by cases a <;> first | rfl | cases h5
        have sB : isStar b = false := by cases b <;> first | rfl | cases h6
        obtain ⟨kg, h7, h'⟩ := bnd h'
        obtain ⟨ke, h8, h'⟩ := bnd h'
        cases h'
        have nl : ∀ z, locL C.sc z = false → (X.env.scope.names.lookup z == some .local) = false := fun z hz => by
          rw [k.sc]
          unfold locL at hz
          cases q : C.sc.names.lookup z with
          | none => rfl
          | some kd => cases kd <;> first | rfl | (rw [q] at hz; cases hz)
        refine s_asg (k_tup (s.a F C X M W k .n _ ke (by decide) h8).1) (s.g F C X M W k _ kg h7) (sole1 rfl) (sw_cell hk ?_ sA sB) rfl
        rcases h1 with h1 | h1
        · exact .inl (nl x h1)
        · exact .inr (nl y h1)
      rename_i hc
      have h' := h
      clear h
      simp only [Bool.and_eq_true, Bool.not_eq_true'] at hc
      obtain ⟨⟨⟨⟨⟨⟨⟨h1, h2⟩, h3⟩, h4⟩, h5⟩, h6⟩, h7⟩, h8⟩ := hc
      have ne : x ≠ y := of_decide_eq_false h4
      obtain ⟨i, hi, h'⟩ := bnd h'
      obtain ⟨j, hj, h'⟩ := bnd h'
      obtain ⟨ka, h9, h'⟩ := bnd h'
      have ij : i ≠ j := fun z => ne (by
        have e1 := ixOf_ok hi
        have e2 := ixOf_ok hj
        rw [z, e2] at e1
        exact (Option.some.inj e1).symm)
      have sA : isStar a = false := by cases a <;> first | rfl | cases h5
      have sB : isStar b = false := by cases b <;> first | rfl | cases h6
      have pa := s.e F C X M W k .n a ka h9
      have sw := sw_two (px := px) (py := py) (pt := pt) (p2 := p3) (kt := kt) (k2 := k3) hk (k.ll h1) (k.ll h2) h3 ne sA sB h7 h8
      split at h'
      · rename_i kb eb
        cases h'
        exact s_par2 (k.calm hh) k.nodup (k.ix hi) (k.ix hj) ij (k.ll h1) (k.ll h2) pa (s.e F C X M W k .x b kb eb) (star1 h5) (star1 h6) sw (sole1 rfl)
      · obtain ⟨kb, h10, h'⟩ := bnd h'
        cases h'
        have pb := s.e F C X M W k .n b kb h10
        exact s_par (k.calm hh) k.nodup (k.ix hi) (k.ix hj) ij (k.ll h1) (k.ll h2) (k_cons pa (k_cons pb k_nil (star1 h6)) (star1 h5)) sw (sole1 rfl)
    · rename_i x px y py z pz q1 q2 c k3 q3 k4 q4
      split at h
      case isFalse =>
        obtain ⟨hc, h'⟩ := ite_ h
        clear h
        simp only [Bool.and_eq_true, Bool.not_eq_true'] at hc
        obtain ⟨⟨⟨⟨⟨⟨h0, h1⟩, h2⟩, h3⟩, f1⟩, f2⟩, f3⟩ := hc
        obtain ⟨i, hi, h'⟩ := bnd h'
        obtain ⟨j, hj, h'⟩ := bnd h'
        obtain ⟨l, hl, h'⟩ := bnd h'
        cases h'
        have nl : ∀ z, (X.env.scope.names.lookup z == some .local) = locL C.sc z := fun z => by
          rw [k.sc]
          unfold locL
          cases q : C.sc.names.lookup z with
          | none => rfl
          | some kd => cases kd <;> rfl
        exact s_par3C (k.calm hh) k.nodup (k.ix hi) (k.ix hj) (k.ix hl) (k.lo h1) (k.lo h2) (k.lo h3) (k.f f1) (k.f f2) (k.f f3) (sw_cell3 (by rw [k.sc]; exact k.kind) (by rw [nl, nl, nl]; exact h0))
      rename_i hc
      have h' := h
      clear h
      simp only [Bool.and_eq_true, Bool.not_eq_true', decide_eq_false_iff_not] at hc
      obtain ⟨⟨⟨⟨⟨⟨⟨h1, h2⟩, h3⟩, l1⟩, l2⟩, n1⟩, n2⟩, n3⟩ := hc
      obtain ⟨i, hi, h'⟩ := bnd h'
      obtain ⟨j, hj, h'⟩ := bnd h'
      obtain ⟨l, hl, h'⟩ := bnd h'
      cases h'
      have ne : ∀ {u v : Str} {m n : Nat}, ixOf C.N u = some m → ixOf C.N v = some n → u ≠ v → m ≠ n := fun hu hv hn z => hn (by
        have e1 := ixOf_ok hu
        have e2 := ixOf_ok hv
        rw [z, e2] at e1
        exact (Option.some.inj e1).symm)
      exact s_par3 (k.calm hh) k.nodup (k.ix hi) (k.ix hj) (k.ix hl) (ne hi hj n1) (ne hi hl n2) (ne hj hl n3) (k.ll h1) (k.ll h2) (k.ll h3) (sw_three (by rw [k.sc]; exact k.kind) (k.ll h1) (k.ll h2) (k.ll h3) l1 l2 n1 n2 n3)
    · rename_i x px c ck cp sp y py a b k3 p3
      obtain ⟨hc, h'⟩ := ite_ h
      clear h
      simp only [Bool.and_eq_true] at hc
      obtain ⟨⟨⟨⟨⟨v1, v2⟩, l1⟩, f1⟩, s1⟩, s2⟩ := hc
      obtain ⟨i, hi, h'⟩ := bnd h'
      obtain ⟨j, hj, h'⟩ := bnd h'
      obtain ⟨ka, h3, h'⟩ := bnd h'
      cases h'
      have hk : X.env.scope.kind = .function := by rw [k.sc]; exact k.kind
      exact s_parS k.K (k.calm hh) k.nodup (k.ix hi) (k.vis v1) (okN_ok v2).1 (okN_ok v2).2 (k.ix hj) (k.lo l1) (k.f f1) (s.a F C X M W k .n _ ka (by decide) h3).1 (sole1 rfl) (sw_subs hk s1 s2)
    · obtain ⟨hc, h'⟩ := ite_ h
      clear h
      simp only [Bool.and_eq_true, Bool.not_eq_true'] at hc
      obtain ⟨kg, h1, h'⟩ := bnd h'
      obtain ⟨ke, h2, h'⟩ := bnd h'
      cases h'
      exact s_asg (s.e F C X M W k .n _ ke h2) (s.g F C X M W k _ kg h1) (sole1 hc.2) (sw_none hc.1) rfl
  · cases h
theorem snd_rais {n : Nat} {F : FnS} {C : TC} {X : Cx} {M : MK} {W : WX} (k : XOk F C X M W) (hh : C.hot = false) {e : Expr} {k2 : K} {pos : Pos} (h : trRais n C e = some k2) : PS X (.Raise (some e) none pos) (kS M W (ev F k2).S) := by
  unfold trRais at h
  split at h
  · split at h
    · rename_i hc
      simp only [Bool.and_eq_true] at hc
      obtain ⟨⟨h1, h2⟩, h3⟩ := hc
      split at h
      · rename_i i f eg
        obtain ⟨ka, h4, rfl⟩ := mp_ h
        obtain ⟨Cc, _, _, _, _, _, q6⟩ := k.gl _ _ eg
        exact s_raisF (k.calm hh) k.tk (q6 rfl) (k.g h1) (okN_ok h2).1 ((snd n).e F C X M W k .n _ ka h4) (star1 h3)
      · cases h; exact s_never
    · cases h; exact s_never
  · split at h
    · rename_i hc
      obtain ⟨h1, h2⟩ := Bool.and_eq_true_iff.mp hc
      split at h
      · rename_i i eg
        cases h
        obtain ⟨Cc, q1, q2, q3, q4, q5, q6⟩ := k.gl _ _ eg
        exact s_rais (k.calm hh) k.tk q2 q3 q1 q4 (raises_own q5 q6) (k.g h1) (okN_ok h2).1
      · cases h; exact s_never
    · cases h; exact s_never
  · cases h; exact s_never
theorem XOk.tr {F : FnS} {C : TC} {X : Cx} {M : MK} {W W' : WX} (k : XOk F C X M W) (hh : C.hot = false) {pn : List (Addr × Obj)} {xe : Value → Shared → Prop} (t : Takes (X.tr pn xe) W') (o : PassesOwn (model X.prog X.w) X.A X.env xe) : XOk F C (X.tr pn xe) M W' where
  N := k.N
  nd := k.nd
  sc := k.sc
  kind := k.kind
  fn := k.fn
  K := k.K
  of := ⟨k.of.K, k.of.prog, k.of.w⟩
  calm := k.calm
  ei := k.ei
  cur := k.cur
  hotX := fun z => by rw [hh] at z; cases z
  tk := t
  own := o
  un := k.un
  gl := fun x g h => by
    have := k.gl x g h
    cases g with
    | int i => exact this
    | str z => exact this
    | blt => exact this
    | fn i n => exact ⟨this.ex, this.ar⟩
    | exc i => exact this
    | tup ds => exact this
    | dead => exact this
    | exf i f r => obtain ⟨Cc, h1, h2, h3, h4, h5, h6⟩ := this; exact ⟨Cc, h1, h2, h3, h4, h5, fun z => ⟨(h6 z).ex⟩⟩
    | cls c fs ini ms pr => exact ⟨this.cl, this.mg, this.fl, this.nd, this.sm, this.na, this.mak, this.me, this.pr, this.ro⟩
  fr := k.fr
  ex := k.ex
theorem XOk.suite {F : FnS} {C : TC} {X : Cx} {M : MK} {W : WX} (k : XOk F C X M W) {a : Addr} {oe : Obj} {cls : Value} {d : Option Addr} (pn : List (Addr × Obj)) (hz : Zc cls d oe) (hf : ∃ vs, oe.data = .fields vs) : XOk F C.suite (X.suite a ((a, oe) :: pn)) (M.at_ (some (a, cls, d))) WX0 where
  N := k.N
  nd := k.nd
  sc := k.sc
  kind := k.kind
  fn := k.fn
  K := k.K
  of := ⟨k.of.K, k.of.prog, k.of.w⟩
  calm := fun z => by cases z
  ei := by rw [show C.suite.G = hotG C.G from rfl, hotG_ids]; exact k.ei
  cur := fun z => by cases z
  hotX := fun _ => ⟨X, a, oe, pn, cls, d, rfl, hz, hf, rfl⟩
  tk := takes0
  own := PassesOwn.never
  un := k.un
  gl := fun x g h => by
    have h : (hotG C.G).lookup x = some g := h
    rw [hotG_look] at h
    cases e : C.G.lookup x with
    | none => rw [e] at h; cases h
    | some g' =>
      rw [e] at h
      cases h
      have := k.gl x g' e
      cases g' with
      | int i => exact this
      | str z => exact this
      | blt => exact this
      | fn i n => exact True.intro
      | exc i => exact this
      | tup ds => exact this
      | dead => exact True.intro
      | exf i f r => obtain ⟨Cc, h1, h2, h3, h4, h5, h6⟩ := this; exact ⟨Cc, h1, h2, h3, h4, h5, fun z => by cases z⟩
      | cls c fs ini ms pr => exact True.intro
  fr := fun z => by cases z
  ex := by rw [show C.suite.G = hotG C.G from rfl, hotG_ids]; exact k.ex
theorem ckOf_ok {c : Const} {ck : CK} (h : ckOf c = some ck) : ∃ v, cV ck.d = some v ∧ ∀ (X' : Cx) (j : Nat) (p : Pos), PE X' (.Constant c j p) (tC v) := by
  cases c with
  | none => cases h; exact ⟨.non, rfl, fun _ _ _ => pe_non⟩
  | str x =>
    unfold ckOf at h
    dsimp only at h
    split at h
    · rename_i q
      cases h
      exact ⟨.str x, by show (if sOk x = true then some (V.str x) else none) = _; rw [if_pos q], fun _ _ _ => pe_str⟩
    · cases h
  | int i => cases h; exact ⟨.int i, rfl, fun _ _ _ => pe_int⟩
  | bool b => cases h; exact ⟨.bl b, rfl, fun _ _ _ => pe_bl⟩
  | _ => cases h
theorem cls_of {F : FnS} {C : TC} {X : Cx} {M : MK} {W : WX} (k : XOk F C X M W) : ∀ {hds : List ExceptHandler} {l : List (Nat × CK)}, trH C hds = some l → Cls X M hds (ckL l)
  | [], l, h => by cases h; exact .nil
  | hd :: r, l, h => by
    unfold trH at h
    split at h
    · rename_i x np c j p rp pos
      split at h
      · rename_i hc
        obtain ⟨h1, h2⟩ := Bool.and_eq_true_iff.mp hc
        split at h
        · rename_i g eg
          obtain ⟨i, ei, h⟩ := bnd h
          obtain ⟨ck, e1, h⟩ := bnd h
          obtain ⟨l', e2, h⟩ := bnd h
          cases h
          obtain ⟨Cc, q1, q2⟩ := (k.gl _ _ eg).exOf ei
          obtain ⟨v, v1, v2⟩ := ckOf_ok e1
          exact .cons ⟨k.g h1, (okN_ok h2).1, .inl (q2 ▸ q1)⟩ v1 (fun X' => v2 X' _ _) (cls_of k e2)
        · cases h
      · cases h
    · cases h
theorem augSt {k : Expr} (h : noSlice k = true) : ∀ ov iv new, augStore k ov iv new = (do holding [new, ov, iv] (setItem ov iv new); release [new, ov, iv] []; pure .next) := by
  intro ov iv new
  cases k <;> first | rfl | cases h
theorem snd_s {n : Nat} (ss : SndS n) : SS (n + 1) := by
  intro F C X M W k st k2 h
  have s := snd n
  unfold trS at h
  split at h
  · cases h; exact s_pass
  · obtain ⟨ka, h1, rfl⟩ := mp_ h
    exact s_ret (s.e F C X M W k .b _ ka h1)
  · exact ss.x F C X M W k _ k2 _ h
  · obtain ⟨kt, h1, h⟩ := bnd h
    obtain ⟨ka, h2, h⟩ := bnd h
    obtain ⟨kb, h3, h⟩ := bnd h
    cases h
    exact s_if (s.t F C X M W k _ kt h1) (ss.ss F C X M W k _ ka h2) (ss.ss F C X M W k _ kb h3)
  · exact ss.a F C X M W k _ _ k2 _ h
  · obtain ⟨hc, h'⟩ := ite_ h
    clear h
    obtain ⟨h1, h2⟩ := Bool.and_eq_true_iff.mp hc
    obtain ⟨i, hi, h'⟩ := bnd h'
    obtain ⟨ka, h3, h'⟩ := bnd h'
    have pe := s.e F C X M W k .b _ ka h3
    split at h'
    · cases h'; exact s_augI k.nodup (k.ix hi) (k.lo h1) (k.f h2) pe ip_add fun _ _ _ e => (Option.some.inj e).symm
    · cases h'; exact s_augI k.nodup (k.ix hi) (k.lo h1) (k.f h2) pe ip_sub fun _ _ _ e => (Option.some.inj e).symm
    · cases h'
  · obtain ⟨hc, h'⟩ := ite_ h
    clear h
    simp only [Bool.and_eq_true] at hc
    obtain ⟨⟨v1, v2⟩, v3⟩ := hc
    obtain ⟨i, hi, h'⟩ := bnd h'
    obtain ⟨kk, h1, h'⟩ := bnd h'
    obtain ⟨ke, h2, h'⟩ := bnd h'
    have pk := s.e F C X M W k .b _ kk h1
    have pe := s.e F C X M W k .b _ ke h2
    split at h'
    · cases h'; exact s_augL (op := .Add) k.K (k.ix hi) (k.vis v1) (okN_ok v2).1 (okN_ok v2).2 pk pe ip_add (augSt v3)
    · cases h'; exact s_augL (op := .Sub) k.K (k.ix hi) (k.vis v1) (okN_ok v2).1 (okN_ok v2).2 pk pe ip_sub (augSt v3)
    · cases h'
  · obtain ⟨hs, h'⟩ := ite_ h
    clear h
    simp only [Bool.and_eq_true, Bool.not_eq_true'] at hs
    obtain ⟨hs, hh⟩ := hs
    obtain ⟨ki, h1, h'⟩ := bnd h'
    obtain ⟨kg, h2, h'⟩ := bnd h'
    obtain ⟨kb, h3, h'⟩ := bnd h'
    cases h'
    exact lkW_s (s_for k.own (k.calm hh) (s.i F C X M W k _ _ ki h1) (s.g F C X M W k _ kg h2) (ss.ss F C X M W k _ kb h3) (folded1 hs))
  · obtain ⟨kt, h1, h⟩ := bnd h
    obtain ⟨kb, h2, h⟩ := bnd h
    cases h
    exact s_while k.own (s.t F C X M W k _ kt h1) (ss.ss F C X M W k _ kb h2)
  · split at h
    · cases h; exact s_never
    rename_i hh
    exact snd_rais k (by simpa using hh) h
  · cases h; exact s_never
  · rename_i body x np nm b0 su pos' pos
    obtain ⟨ht, h'⟩ := ite_ h
    clear h
    simp only [Bool.and_eq_true, Bool.not_eq_true'] at ht
    obtain ⟨⟨⟨⟨ht, hh⟩, g1⟩, o1⟩, l1⟩ := ht
    obtain ⟨b, h1, h'⟩ := bnd h'
    obtain ⟨g, hg, h1⟩ := bnd h1
    obtain ⟨i, hi, h'⟩ := bnd h'
    obtain ⟨kb, h2, h'⟩ := bnd h'
    obtain ⟨ks, h3, h'⟩ := bnd h'
    cases h'
    obtain ⟨f1, f2⟩ := k.fr ht
    obtain ⟨Cc, q1, q2⟩ := (k.gl _ _ hg).exOf h1
    exact s_tryA (k.cur hh) f1 f2 k.nodup (k.ix hi) (k.ll l1) ⟨k.g g1, (okN_ok o1).1, .inl (q2 ▸ q1)⟩ k.tk k.ex (fun W' pn xe t' o' => ss.ss F C (X.tr pn xe) M W' (k.tr hh t' o') body kb h2)
      fun a oe cls d pn hz hf => ss.ss F C.suite _ _ _ (k.suite pn hz hf) (b0 :: su) ks h3
  · rename_i body h0 hs pos _
    obtain ⟨ht, h'⟩ := ite_ h
    clear h
    simp only [Bool.and_eq_true, Bool.not_eq_true'] at ht
    obtain ⟨ht, hh⟩ := ht
    obtain ⟨kb, h1, h'⟩ := bnd h'
    obtain ⟨l, h2, h'⟩ := bnd h'
    cases h'
    obtain ⟨f1, f2⟩ := k.fr ht
    exact s_try f1 f2 k.tk (fun W' pn xe t' o' => ss.ss F C (X.tr pn xe) M W' (k.tr hh t' o') body kb h1) (cls_of k h2) k.ex
  · cases h
theorem sndS : ∀ n : Nat, SndS n
  | 0 => by
    refine ⟨?_, ?_, ?_, ?_⟩
    · intro F C X M W k st k2 h; unfold trS at h; cases h
    · exact snd_x
    · exact snd_as
    · intro F C X M W k sts k2 h; unfold trSs at h; cases h
  | n + 1 => have s := sndS n; ⟨snd_s s, snd_x, snd_as, snd_ss s⟩
/-! ### defs -/
structure DefK where
  ps : List Str
  N : List Str
  own : List Nat
  body : K
def startE (n : Nat) (ds : List D) : KF.Env := ds.map .v ++ List.replicate (n - ds.length) .u
def endS : OutS → Out D
  | .nx _ h' => .ok (.py .none) h'
  | .rt v h' => .ok v h'
  | .exc c fs _ h' => .exc c fs h'
  | .bad => .bad
def callD (F : FnS) (d : DefK) (ds : List D) (h : MH) : Out D := if ds.length = d.ps.length then endS ((ev F d.body).S (startE d.N.length ds) h) else .bad
abbrev Prog := List (Nat × DefK)
def findD : Prog → Nat → Option DefK
  | [], _ => none
  | (j, d) :: r, i => if Nat.beq i j = true then some d else findD r i
def runF (P : Prog) : Nat → FnS
  | 0 => fun _ _ _ => .bad
  | n + 1 => fun i ds h => match findD P i with
    | none => .bad
    | some d => callD (runF P n) d ds h
section
variable {M : MK} {B : Bs} {A : List (Option Addr)} {H H' : Hp} {L L' : List Addr} {h h' : MH} {env : KF.Env} {σ : L2.St}
theorem Good.ent (g : Good M B H L A h env σ) : Ent M B H L h := by
  refine ⟨g.len, g.nd, fun n o a e1 e2 => (g.obj n o a e1 e2).zed fun b z => ?_, g.ls, g.lpre, g.base, g.btup, g.bfrz, g.dom, g.sdom, rfl, rfl, fun i a e => by simp at e, fun i j a e => by simp at e, fun i sl e => by simp at e⟩
  rcases z with z | z | z
  · exact .inl z
  · exact .inr (.inl z)
  · cases z
theorem Good.extB (g : Good M B H L A h env σ) : Ext B.H0 B.L0 H L := ⟨g.base, g.btup, g.bfrz, g.lpre, g.dom⟩
theorem Good.begin {ds : List D} {vs : List V} {N : List Str} (e : Ent M B H L h) (r : RelDs M.K H L (Zf B L []) ds vs) (hl : ds.length ≤ N.length) : Good M B H L (List.replicate N.length none) h (startE N.length ds) (L2.start N vs) := by
  have nA : ∀ (i : Nat) (a : Addr), (List.replicate N.length (none : Option Addr))[i]? = some (some a) → False := fun i a q => by
    rw [List.getElem?_replicate] at q
    split at q <;> cases q
  have zz : ∀ b, Zf B L (List.replicate N.length none) b → Zf B L [] b := fun b z => by
    rcases z with z | z | z
    · exact .inl z
    · exact .inr (.inl z)
    · obtain ⟨i, hi⟩ := List.getElem?_of_mem z
      exact (nA i b hi).elim
  have hle := r.length
  refine ⟨e.len, e.nd, fun n o a e1 e2 => (e.obj n o a e1 e2).zed zz, e.ls, e.lpre, e.base, e.btup, e.bfrz, e.dom, e.sdom, ?_, ?_, fun i a q => (nA i a q).elim, fun i j a q => (nA i a q).elim, fun i sl q => ?_⟩
  · simp [startE]; omega
  · simp [startE, L2.start]; omega
  · have hi : i < N.length := by
      have := (List.getElem?_eq_some_iff.mp q).1
      simp [startE] at this
      omega
    have hA : (List.replicate N.length (none : Option Addr))[i]? = some none := by rw [List.getElem?_replicate, if_pos hi]
    unfold startE at q
    by_cases hd : i < ds.length
    · rw [List.getElem?_append_left (by simpa using hd), List.getElem?_map] at q
      cases q2 : ds[i]? with
      | none => rw [q2] at q; cases q
      | some d =>
        rw [q2] at q; cases q
        obtain ⟨v, h1, h2⟩ := r.get q2
        refine .v hA ?_ (h2.weak zz)
        unfold L2.start
        rw [List.getElem?_append_left (by simp; omega), List.getElem?_map, h1]; rfl
    · rw [List.getElem?_append_right (by simpa using hd), List.getElem?_replicate] at q
      split at q
      · cases q; exact .u hA
      · cases q
end
/-- a def of the text keeps what its image promises -/
theorem def_ok {P : Program} {w : World} {mg : Str → Option Value} {base : Heap} {M : MK} {F : FnS} {d : DefK} {G : List (Str × GK)} {x qual : Str} {params : Arguments} {body : List Stmt} {scope : Scope} {f : Addr} {fd : FuncData} {n fuel : Nat}
    (hMP : M.prog = P) (hMw : M.w = w) (FD : FunD M.K x qual params body scope [] [] f fd) (S : FnScope d.N d.ps scope) (ht : trSs fuel ⟨d.N, scope, fun _ => true, G, d.own, true, false⟩ body = some d.body) (hex : ∀ a b t, subE (exIds G) a b = some t → PySem.W.exmOne M.K (M.xcls a) (M.xcls b) = some t) (hcur : M.cur = none)
    (hei : ∀ a b t, subE (exIds G) a b = some t → ∃ D E, M.xcls a = .ref D ∧ M.xcls b = .ref E ∧ ExcC M.K D ∧ PySem.W.kitOne M.K (.ref D) (.ref E) = some t)
    (gl : ∀ (A : Around), Room n A → ∀ y g, G.lookup y = some g → ∀ X : Cx, X.prog = P → X.w = w → X.K = M.K → X.mg = mg → X.base = base → X.A = A → GOk F X M y g) :
    FnOk P w M.K mg base (L2.CX P w) (n + 1) f fd d.ps (spF M d.ps.length (callD F d)) := by
  refine FD.ok S (fun vs H Q E h => ?_) fun cdv A outer s H vs Q E hr h => ?_
  · obtain ⟨B, L, h, ds, h1, _⟩ := h; exact h1
  · obtain ⟨B, L, h, ds, h1, rfl, rfl, en, r, p⟩ := h
    have ok : XOk F ⟨d.N, scope, fun _ => true, G, d.own, true, false⟩ (cxOf (L2.CX P w) P w M.K mg base d.N qual scope f cdv A outer s B.H0 E) M (fun cls d _ H => E cls d H) :=
      { N := rfl, nd := S.nd, sc := rfl, kind := S.kind, fn := fun _ _ => rfl, K := rfl, of := ⟨rfl, hMP, hMw⟩, calm := fun _ => rfl, ei := hei, cur := fun _ => hcur, hotX := (fun z => by cases z), tk := takes_of rfl rfl rfl rfl, own := passes_of rfl, un := by have := hr.un; show (A.deeper _).units + 200 < cLine; omega,
        gl := fun y g e => gl _ hr y g e _ rfl rfl rfl rfl rfl rfl, fr := fun _ => ⟨rfl, rfl⟩, ex := hex }
    refine ⟨_, (sndS fuel).ss F _ _ M _ ok body d.body ht, ?_⟩
    have hds : ds.length = d.ps.length := by rw [r.length]; exact h1
    have hN : d.ps.length ≤ d.N.length := by
      have := congrArg List.length S.pre
      rw [List.length_take] at this
      omega
    refine ⟨B, B.L0, _, h, _, Good.begin en r (by omega), ?_⟩
    unfold callD at p
    rw [if_pos hds] at p
    cases e : (ev F d.body).S (startE d.N.length ds) h with
    | nx env' h' => rw [e] at p; exact fun σ' H' L' A' g' => p .non H' L' g'.extB g'.ent (.py .non)
    | rt v h' => rw [e] at p; exact fun v' H' L' A' env' σ' g' r' => p v' H' L' g'.extB g'.ent r'
    | exc c fs env' h' =>
      rw [e] at p
      refine fun cls dd σ' H' L' A' g' r' => p cls dd H' L' g'.extB g'.ent (r'.weak fun a z => ?_)
      rcases z with z | z | z
      · exact .inl z
      · exact .inr (.inl z)
      · cases z
    | bad => rw [e] at p; exact p
theorem runF_ar (P : Prog) {i : Nat} {d : DefK} (e : findD P i = some d) : ∀ (n : Nat) (ds : List D) (h : MH), runF P n i ds h ≠ .bad → ds.length = d.ps.length
  | 0, ds, h, q => (q rfl).elim
  | n + 1, ds, h, q => by
    unfold runF at q
    rw [e] at q
    have q : callD (runF P n) d ds h ≠ .bad := q
    unfold callD at q
    by_cases hl : ds.length = d.ps.length
    · exact hl
    · rw [if_neg hl] at q; exact (q rfl).elim
end KF
set_option Elab.async false
set_option linter.all false
set_option maxRecDepth 100000
set_option maxHeartbeats 4000000
/-! KF, part 19: programs; a law's end. -/
namespace KF
open PySem PySem.Spec PyProof.Rows L2
def fnScB (N ps : List Str) (sc : Scope) : Bool := decide (sc.kind = .function) && !sc.isCoroutine && !sc.isGenerator && decide N.Nodup && decide (N.take ps.length = ps) &&
  (ps.all fun x => decide (sc.names.lookup x = some .local) || decide (sc.names.lookup x = some .cell)) && sc.names.all fun y => !decide (y.2 = .free)
theorem fnScB_ok {N ps : List Str} {sc : Scope} (h : fnScB N ps sc = true) : FnScope N ps sc := by
  unfold fnScB at h
  simp only [Bool.and_eq_true, decide_eq_true_eq, Bool.not_eq_true', List.all_eq_true, Bool.or_eq_true] at h
  obtain ⟨⟨⟨⟨⟨⟨h1, h2⟩, h3⟩, h4⟩, h5⟩, h6⟩, h7⟩ := h
  exact ⟨h1, h2, h3, h4, h5, h6, fun y hy e => of_decide_eq_false (h7 y hy) e⟩
/-- what the head is asked for a name -/
def faOf : Str × GK → List He.Fa
  | (x, .int i) => [.int x i]
  | (x, .str z) => [.str x z]
  | (x, .blt) => [.free x]
  | (x, .fn _ _) => [.glo x]
  | (x, .exc _) => [.glo x, .exc x]
  | (x, .tup _) => [.glo x]
  | (_, .dead) => []
  | (x, .exf _ f r) => [.glo x, .noat x f] ++ if r = true then [.meth x "__init__"] else []
  | (x, .cls _ fs _ ms _) => [.glo x, .cls x, .mkr x] ++ fs.map (.noat x) ++ ms.map fun q => .meth x q.1
def exOf (p : Str × GK) : Option (Str × Nat) := p.2.ex.map fun i => (p.1, i)
def exs (G : List (Str × GK)) : List (Str × Nat) := G.filterMap exOf
/-- .. and of each two errors -/
def exPairs (G : List (Str × GK)) : List He.Fa := (exs G).flatMap fun p => (exs G).map fun q => .exm p.1 q.1 (Nat.beq p.2 q.2 || Nat.beq q.2 0)
def fasOf (G : List (Str × GK)) : List He.Fa := G.flatMap faOf ++ exPairs G
def exName (G : List (Str × GK)) (i : Nat) : Str := (((exs G).find? fun p => Nat.beq p.2 i).map (·.1)).getD ""
theorem exs_ids (G : List (Str × GK)) : exIds G = (exs G).map (·.2) := by
  unfold exIds exs
  induction G with
  | nil => rfl
  | cons p r ih =>
    rw [List.filterMap_cons, List.filterMap_cons]
    unfold exOf
    cases p.2.ex with
    | none => exact ih
    | some i => exact congrArg (i :: ·) ih
theorem exName_mem {G : List (Str × GK)} {i : Nat} (h : i ∈ exIds G) : (exName G i, i) ∈ exs G := by
  rw [exs_ids] at h
  obtain ⟨p, hp, e⟩ := List.mem_map.mp h
  unfold exName
  cases q : (exs G).find? fun p => Nat.beq p.2 i with
  | none =>
    have := List.find?_eq_none.mp q p hp
    rw [e] at this
    simp at this
  | some z =>
    have h1 := List.mem_of_find?_eq_some q
    have h2 := List.find?_some q
    have h3 : z.2 = i := Nat.eq_of_beq_eq_true h2
    rw [← h3]
    exact h1
/-- the error's name is its own -/
def exB (G : List (Str × GK)) : Bool := G.all fun p => match p.2.ex with
  | some i => decide (exName G i = p.1)
  | none => true
/-- the field of an error -/
def exFld (G : List (Str × GK)) (i : Nat) : List Str := match G.find? (fun p => match p.2 with
    | .exf j _ _ => Nat.beq j i
    | _ => false) with
  | some (_, .exf _ f _) => [f]
  | _ => []
/-- what isinstance asks of an error's class -/
def excB (K : PySem.W.Frag) (D : Addr) : Bool := decide (PySem.W.findIn K (.ref D) "__getattribute__" = some (some (.builtin "BaseException.__getattribute__"))) && decide (PySem.W.findIn K (.ref D) "__getattr__" = some none) && decide (PySem.W.subIn K (.ref D) (.type "BaseException") = some true) && PySem.W.hasDictIn K D &&
  decide (PySem.W.findIn K (.ref D) "__class__" = some (some (.builtin "object.__class__"))) && decide (PySem.W.specialIn K (.builtin "object.__class__") "__get__" = some (some (.builtin "getset_descriptor.__get__"))) && decide (PySem.W.takesIn K (.builtin "object.__class__") = some true) && decide (PySem.W.mroIn K D (.type "object") = some true)
theorem excB_ok {K : PySem.W.Frag} {D : Addr} (h : excB K D = true) : ExcC K D := by
  unfold excB at h
  simp only [Bool.and_eq_true, decide_eq_true_eq] at h
  obtain ⟨⟨⟨⟨⟨⟨⟨h1, h2⟩, h3⟩, h4⟩, h5⟩, h6⟩, h7⟩, h8⟩ := h
  exact ⟨h1, h2, h3, h4, h5, h6, h7, h8⟩
def isiB (G : List (Str × GK)) (K : PySem.W.Frag) : Bool := (exs G).all fun p => excB K (He.ga K p.1) && (exs G).all fun q => decide (PySem.W.kitOne K (.ref (He.ga K p.1)) (.ref (He.ga K q.1)) = some (Nat.beq p.2 q.2 || Nat.beq q.2 0))
/-- an error's class whose __init__ is its own -/
def oexB (K : PySem.W.Frag) (C : Addr) : Bool := (match K.lookup C with
    | some ⟨.type "type", _, .cls cd, sl⟩ => (match cd.mro, sl.toList with
      | .ref C' :: bm, [_, _, _, _, some (.builtin n), _] => C' == C && n == "ValueError.__new__" && !cd.hasDel && cd.hasDict && PySem.HandSPX.refsVE bm
      | _, _ => false)
    | _ => false) && decide (PySem.W.findIn K (.ref C) "__setattr__" = some (some (.builtin "object.__setattr__"))) && decide (PySem.W.subIn K (.ref C) (.type "BaseException") = some true) && decide (PySem.W.typeIn K (.ref C) = some (.type "type")) && PySem.W.keepIn K (.ref C)
theorem oexB_ok {K : PySem.W.Frag} {C : Addr} (h : oexB K C = true) : OexC K C := by
  unfold oexB at h
  simp only [Bool.and_eq_true, decide_eq_true_eq] at h
  obtain ⟨⟨⟨⟨q, h2⟩, h3⟩, h4⟩, h5⟩ := h
  refine ⟨?_, h2, h3, h4, h5⟩
  split at q
  · rename_i dd cd sl ho
    split at q
    · rename_i C' bm k0 k1 k2 k3 n k5 hm hs
      simp only [Bool.and_eq_true, beq_iff_eq, Bool.not_eq_true'] at q
      obtain ⟨⟨⟨⟨rfl, rfl⟩, hdel⟩, hdic⟩, hr⟩ := q
      obtain ⟨nm, bs, mro, ns, qn, hd, sn, sub, ab, col, del⟩ := cd
      dsimp only at hm hdel hdic
      subst hm hdel hdic
      have hsl : sl = #[k0, k1, k2, k3, some (.builtin "ValueError.__new__"), k5] := by
        obtain ⟨l⟩ := sl
        simp only at hs
        rw [hs]
      subst hsl
      exact ⟨nm, qn, ns, bs, bm, sn, sub, ab, col, dd, k0, k1, k2, k3, k5, ho, hr⟩
    · cases q
  · cases q
/-! ### defs by where they stand: a global, a method, the getter of a property -/
structure DefX where
  at_ : Str × Option Str
  prop : Bool
  name : Str
  qual : Str
  params : Arguments
  body : List Stmt
  scope : Scope
def paAd (K : PySem.W.Frag) (C : Addr) (f : Str) : Addr := match PySem.W.findIn K (.ref C) f with
  | some (some (.ref p)) => p
  | _ => 0
def gtAd (K : PySem.W.Frag) (C : Addr) (f : Str) : Addr := match PySem.W.recIn K (paAd K C f) "property" with
  | some (.ref g :: _) => g
  | _ => 0
def DefX.ad (K : PySem.W.Frag) (d : DefX) : Addr := match d.prop, d.at_.2 with
  | true, some m => gtAd K (He.ga K d.at_.1) m
  | _, _ => He.fAd K d.at_
def fnX (K : PySem.W.Frag) (d : DefX) : He.FnW := match K.lookup (d.ad K) with
  | some ⟨_, _, .func fd, _⟩ => some (fd.name, fd.qualname, fd.params, fd.body, fd.scope, fd.globals, fd.closure, fd.builtins)
  | _ => none
def DefX.val (d : DefX) : He.FnW := some (d.name, d.qual, d.params, .stmts d.body, d.scope, mainGlobals, [], builtinsNs)
def DefX.ok (K : PySem.W.Frag) (d : DefX) : Bool := PySem.W.keepIn K (.ref (d.ad K)) && (match K.lookup (d.ad K) with
  | some ⟨_, _, .func fd, _⟩ => PySem.W.codeIn K fd.code d.qual && (He.dflB K fd.defaults [] && He.kwdB K fd.kwdefaults [])
  | _ => false)
theorem DefX.funD {K : PySem.W.Frag} {d : DefX} (e : fnX K d = d.val) (c : d.ok K = true) : ∃ fd, FunD K d.name d.qual d.params d.body d.scope [] [] (d.ad K) fd := by
  obtain ⟨kp, c2⟩ := He.ba c
  unfold fnX at e
  cases q : K.lookup (d.ad K) with
  | none =>
    rw [q] at c2
    cases c2
  | some o =>
    obtain ⟨oc, od, dt, osl⟩ := o
    rw [q] at c2 e
    cases dt with
    | func fd =>
      obtain ⟨n1, n2, n3, n4, n5, n6, n7, n8, n9, n10, n11, n12, n13, n14, n15⟩ := fd
      have e2 : (some (n1, n2, n3, n4, n5, n6, n7, n15) : He.FnW) = some (d.name, d.qual, d.params, .stmts d.body, d.scope, mainGlobals, [], builtinsNs) := e
      simp only [Option.some.injEq, Prod.mk.injEq] at e2
      obtain ⟨h1, h2, h3, h4, h5, h6, h7, h8⟩ := e2
      subst h1 h2 h3 h4 h5 h6 h7 h8
      have c3 : (PySem.W.codeIn K n13 d.qual && (He.dflB K n8 [] && He.kwdB K n9 [])) = true := c2
      obtain ⟨k1, k2⟩ := He.ba c3
      obtain ⟨k3, k4⟩ := He.ba k2
      exact ⟨_, ⟨oc, od, n8, n9, n10, n11, n12, n13, n14, osl, rfl, q, k1, He.dflB_ok k3, He.kwdB_ok k4⟩, kp⟩
    | _ => cases c2
def CK.dv : CK → He.Dv
  | .non => .non
  | .str x => .str x
  | .int i => .int i
  | .bl b => .bl b
theorem ck_dv (K : PySem.W.Frag) (ds : List CK) : (ds.map CK.dv).map (He.Dv.v K) = ds.map CK.v := by
  rw [List.map_map]
  refine List.map_congr_left fun c _ => ?_
  cases c <;> rfl
def propB (K : PySem.W.Frag) (x f : Str) : Bool := decide (PySem.W.findIn K (.ref (He.ga K x)) f = some (some (.ref (paAd K (He.ga K x) f)))) && decide (PySem.W.specialIn K (.ref (paAd K (He.ga K x) f)) "__get__" = some (some (.builtin "property.__get__"))) &&
  decide (PySem.W.takesIn K (.ref (paAd K (He.ga K x) f)) = some true) && match PySem.W.recIn K (paAd K (He.ga K x) f) "property" with
    | some (.ref _ :: _) => true
    | _ => false
theorem propB_ok {K : PySem.W.Frag} {x f : Str} (h : propB K x f = true) : PropOf K (He.ga K x) f (paAd K (He.ga K x) f) (gtAd K (He.ga K x) f) := by
  unfold propB at h
  simp only [Bool.and_eq_true, decide_eq_true_eq] at h
  obtain ⟨⟨⟨h1, h2⟩, h3⟩, h4⟩ := h
  refine ⟨h1, h2, h3, ?_⟩
  unfold gtAd
  split at h4
  · rename_i g rest e
    rw [e]
    exact ⟨rest, rfl⟩
  · cases h4
/-- further facts of a name -/
def xok (K : PySem.W.Frag) : Str × GK → Bool
  | (x, .tup ds) => He.tupB K x (ds.map CK.dv)
  | (x, .cls _ _ _ _ pr) => pr.all fun q => propB K x q.1
  | (x, .exf _ _ r) => xfB K (He.ga K x) && (!r || oexB K (He.ga K x))
  | _ => true
def obsX (G : List (Str × GK)) (fn : List DefX) (K : PySem.W.Frag) : He.AlD := (((fasOf G).all fun f => f.ok K) && ((fn.all fun d => d.ok K) && (G.all (xok K) && isiB G K)), fn.map (fnX K))
def valX (fn : List DefX) : He.AlD := (true, fn.map DefX.val)
def SaysX (G : List (Str × GK)) (fn : List DefX) (K : PySem.W.Frag) : Prop := obsX G fn K = valX fn
def obsXG (n : Nat) (G : List (Str × GK)) (fn : List DefX) (g : Addr → Option Obj) : He.AlD := obsX G fn (He.frG g (He.asD g n))
def hookX (n : Nat) (G : List (Str × GK)) (fn : List DefX) : PySem.W.Hook where
  α := He.AlD
  obs := fun s => obsXG n G fn s.heap.get?
  val := fun _ => valX fn
  says := fun _ h => ∃ K : PySem.W.Frag, K.In h ∧ SaysX G fn K
  of := fun _ _ e => ⟨_, He.frG_in, e⟩
  keeps := fun _ _ _ ⟨K, hK, c⟩ k => ⟨K, PySem.W.Frag.In.keeps hK k, c⟩
theorem obsXG_eq {n : Nat} {G : List (Str × GK)} {fn : List DefX} {g : Addr → Option Obj} {s : Shared} (h : ∀ a, g a = s.heap.get? a) : obsXG n G fn g = (hookX n G fn).obs s := by
  have e : g = s.heap.get? := funext h
  rw [e] <;> rfl
section
variable {G : List (Str × GK)} {fn : List DefX} {K : PySem.W.Frag}
theorem SaysX.and3 (c : SaysX G fn K) : ((fasOf G).all fun f => f.ok K) = true ∧ (fn.all fun d => d.ok K) = true ∧ G.all (xok K) = true ∧ isiB G K = true := by
  obtain ⟨c1, c2⟩ := He.ba (show (((fasOf G).all fun f => f.ok K) && ((fn.all fun d => d.ok K) && (G.all (xok K) && isiB G K))) = true from congrArg (fun z : He.AlD => z.1) c)
  exact ⟨c1, (He.ba c2).1, He.ba (He.ba c2).2⟩
theorem SaysX.def_ (c : SaysX G fn K) (i : Nat) {d : DefX} (h : fn[i]? = some d) : ∃ fd, FunD K d.name d.qual d.params d.body d.scope [] [] (d.ad K) fd := by
  have c2 := c.and3.2.1
  have e : fn.map (fnX K) = fn.map DefX.val := congrArg (fun z : He.AlD => z.2) c
  have e2 : (fn.map (fnX K))[i]? = (fn.map DefX.val)[i]? := by rw [e]
  rw [List.getElem?_map, List.getElem?_map, h] at e2
  exact DefX.funD (Option.some.inj e2) (List.all_eq_true.mp c2 d (List.mem_of_getElem? h))
end
def clsOf (p : Str × GK) : Option (Str × Nat × List Str) := match p.2 with
  | .cls c fs _ _ _ => some (p.1, c, fs)
  | _ => none
def clsAt (G : List (Str × GK)) (c : Nat) : Str × Nat × List Str := ((G.filterMap clsOf).find? fun p => Nat.beq p.2.1 c).getD ("", 0, [])
def fuel : Nat := 400
/-- a def that has no image: its meaning is bad -/
def isNv : K → Bool
  | .never => true
  | _ => false
def defB (G : List (Str × GK)) (dd : DefX) (d : DefK) : Bool := isNv d.body || (fnScB d.N d.ps dd.scope && decide (trSs fuel ⟨d.N, dd.scope, fun _ => true, G, d.own, true, false⟩ dd.body = some d.body))
/-- the __init__ of an error with a field -/
def iniB (x f : Str) : List DefX → Prog → Bool
  | dd :: r, (_, d) :: s => (decide (dd.at_ = (x, some ("__init__" : Str))) && decide (dd.prop = false) && decide (d.ps = [("self" : Str), f]) && (iniS f dd.body).isSome && fnScB [("self" : Str), f] [("self" : Str), f] dd.scope && visL dd.scope "self" && visL dd.scope f && okNm f) || iniB x f r s
  | _, _ => false
theorem iniB_ok {x f : Str} : ∀ {fn : List DefX} {P : Prog}, iniB x f fn P = true → ∃ (p : Nat) (dd : DefX) (j : Nat) (d : DefK), fn[p]? = some dd ∧ P[p]? = some (j, d) ∧ (decide (dd.at_ = (x, some ("__init__" : Str))) && decide (dd.prop = false) && decide (d.ps = [("self" : Str), f]) && (iniS f dd.body).isSome && fnScB [("self" : Str), f] [("self" : Str), f] dd.scope && visL dd.scope "self" && visL dd.scope f && okNm f) = true
  | [], _, h => by cases h
  | _ :: _, [], h => by cases h
  | a :: r, (j, d) :: s, h => by
    rcases Bool.or_eq_true_iff.mp (show (_ || iniB x f r s) = true from h) with h | h
    · exact ⟨0, a, j, d, rfl, rfl, h⟩
    · obtain ⟨p, dd, j, d, h1, h2, h3⟩ := iniB_ok h
      exact ⟨p + 1, dd, j, d, by simpa using h1, by simpa using h2, h3⟩
def hasB (x : Str × Option Str) (b : Bool) (i n : Nat) : List DefX → Prog → Bool
  | dd :: r, (j, d) :: s => (Nat.beq i j && decide (dd.at_ = x) && decide (dd.prop = b) && d.ps.length == n) || hasB x b i n r s
  | _, _ => false
def gB (G : List (Str × GK)) (fn : List DefX) (P : Prog) : Str × GK → Bool
  | (x, .fn i n) => hasB (x, none) false i n fn P
  | (_, .tup ds) => ds.all CK.ok
  | (x, .exf i f r) => decide (exFld G i = [f]) && (!r || iniB x f fn P)
  | (x, .cls c fs ini ms pr) => decide (clsAt G c = (x, c, fs)) && decide fs.Nodup && Nat.blt fs.length 1000 && hasB (x, some "__init__") false ini.1 ini.2 fn P && (ms.all fun q => hasB (x, some q.1) false q.2.1 q.2.2 fn P && !fs.contains q.1) && pr.all fun q => hasB (x, some q.1) true q.2 1 fn P
  | _ => true
def newB (i : Nat) : Prog → Bool
  | [] => true
  | (j, _) :: r => !Nat.beq j i && newB i r
def ndB : Prog → Bool
  | [] => true
  | (i, _) :: r => newB i r && ndB r
def allB (G : List (Str × GK)) : List DefX → Prog → Bool
  | [], [] => true
  | dd :: r, (_, d) :: s => defB G dd d && allB G r s
  | _, _ => false
theorem newB_find {i : Nat} : ∀ {P : Prog} {p j : Nat} {d : DefK}, newB i P = true → P[p]? = some (j, d) → j ≠ i
  | [], p, _, _, _, e => by simp at e
  | (a, b) :: r, 0, j, d, h, e => by
    simp at e
    obtain ⟨rfl, rfl⟩ := e
    have := (Bool.and_eq_true_iff.mp h).1
    intro z
    rw [z] at this
    simp at this
  | (a, b) :: r, p + 1, j, d, h, e => newB_find (P := r) (p := p) (Bool.and_eq_true_iff.mp h).2 (by simpa using e)
theorem find_at : ∀ {P : Prog} {p i : Nat} {d : DefK}, ndB P = true → P[p]? = some (i, d) → findD P i = some d
  | [], p, _, _, _, e => by simp at e
  | (a, b) :: r, 0, i, d, h, e => by
    simp at e
    obtain ⟨rfl, rfl⟩ := e
    unfold findD
    rw [if_pos (Nat.beq_refl _)]
  | (a, b) :: r, p + 1, i, d, h, e => by
    have h : (newB a r && ndB r) = true := h
    obtain ⟨h1, h2⟩ := Bool.and_eq_true_iff.mp h
    have e : r[p]? = some (i, d) := by simpa using e
    have ne := newB_find h1 e
    unfold findD
    rw [if_neg (fun z => ne (Nat.eq_of_beq_eq_true z))]
    exact find_at h2 e
theorem allB_ok {G : List (Str × GK)} : ∀ {fn : List DefX} {P : Prog}, allB G fn P = true → ∀ (p : Nat) (dd : DefX) (i : Nat) (d : DefK), fn[p]? = some dd → P[p]? = some (i, d) → defB G dd d = true
  | [], [], _, p, _, _, _, e, _ => by simp at e
  | [], _ :: _, h, _, _, _, _, _, _ => by cases h
  | _ :: _, [], h, _, _, _, _, _, _ => by cases h
  | a :: r, (j, b) :: s, h, 0, dd, i, d, e1, e2 => by
    simp at e1 e2
    obtain ⟨rfl, rfl⟩ := e2
    subst e1
    exact (Bool.and_eq_true_iff.mp h).1
  | a :: r, (j, b) :: s, h, p + 1, dd, i, d, e1, e2 => allB_ok (Bool.and_eq_true_iff.mp h).2 p dd i d (by simpa using e1) (by simpa using e2)
theorem hasB_ok {x : Str × Option Str} {b : Bool} {i n : Nat} : ∀ {fn : List DefX} {P : Prog}, hasB x b i n fn P = true → ∃ (p : Nat) (dd : DefX) (d : DefK), fn[p]? = some dd ∧ P[p]? = some (i, d) ∧ dd.at_ = x ∧ dd.prop = b ∧ d.ps.length = n
  | [], _, h => by cases h
  | _ :: _, [], h => by cases h
  | a :: r, (j, d) :: s, h => by
    have h : ((Nat.beq i j && decide (a.at_ = x) && decide (a.prop = b) && d.ps.length == n) || hasB x b i n r s) = true := h
    rcases Bool.or_eq_true_iff.mp h with h | h
    · simp only [Bool.and_eq_true, decide_eq_true_eq, beq_iff_eq] at h
      refine ⟨0, a, d, rfl, ?_, h.1.1.2, h.1.2, h.2⟩
      rw [Nat.eq_of_beq_eq_true h.1.1.1]
      rfl
    · obtain ⟨p, dd, d, h1, h2, h3⟩ := hasB_ok h
      exact ⟨p + 1, dd, d, by simpa using h1, by simpa using h2, h3⟩
def PlainB (dd : DefX) (d : DefK) : Prop := ∀ (kV doc pm : Value) (an : Option Addr) (cdv ct : Value) (us : List Value), us.length = d.ps.length → bindArgs (PySem.W.fnOf dd.name dd.qual dd.params dd.body dd.scope .none kV doc pm an cdv ct) ⟨us, []⟩ = pure (d.ps.zip us)
def PlainAll : List DefX → Prog → Prop
  | [], [] => True
  | dd :: r, (_, d) :: s => PlainB dd d ∧ PlainAll r s
  | _, _ => False
theorem PlainAll.get : ∀ {fn : List DefX} {P : Prog}, PlainAll fn P → ∀ (p : Nat) (dd : DefX) (i : Nat) (d : DefK), fn[p]? = some dd → P[p]? = some (i, d) → PlainB dd d
  | [], [], _, p, _, _, _, e, _ => by simp at e
  | [], _ :: _, h, _, _, _, _, _, _ => h.elim
  | _ :: _, [], h, _, _, _, _, _, _ => h.elim
  | a :: r, (j, b) :: s, h, 0, dd, i, d, e1, e2 => by
    simp at e1 e2
    obtain ⟨rfl, rfl⟩ := e2
    subst e1
    exact h.1
  | a :: r, (j, b) :: s, h, p + 1, dd, i, d, e1, e2 => PlainAll.get h.2 p dd i d (by simpa using e1) (by simpa using e2)
theorem lookup_mem {α : Type} {G : List (Str × α)} {x : Str} {g : α} (h : G.lookup x = some g) : (x, g) ∈ G := by
  induction G with
  | nil => cases h
  | cons p r ih =>
    obtain ⟨y, b⟩ := p
    rw [List.lookup_cons] at h
    cases q : x == y with
    | true =>
      rw [q] at h
      have h : b = g := Option.some.inj h
      have e : x = y := by simpa using q
      rw [e, h]
      exact List.mem_cons_self
    | false => rw [q] at h; exact List.mem_cons_of_mem _ (ih h)
def mk0 (P : Program) (w : World) (K : PySem.W.Frag) (G : List (Str × GK)) : MK := ⟨P, w, K, fun c => He.ga K (clsAt G c).1, fun c => (clsAt G c).2.2, fun i => .ref (He.ga K (exName G i)), exFld G, none⟩
theorem lookup_mem2 {β : Type} {l : List (Str × β)} {x : Str} {b : β} (h : l.lookup x = some b) : (x, b) ∈ l := lookup_mem h
section
variable {prog : Program} {w : World} {K : PySem.W.Frag} {h base : Heap} {mg : Str → Option Value} {fn : List DefX} {P : Prog} {G : List (Str × GK)}
abbrev okB (G : List (Str × GK)) (fn : List DefX) (P : Prog) : Bool := allB G fn P && (ndB P && (G.all (gB G fn P) && exB G))
theorem prog_ok (KX : K.In h) (NG : h.Ns mainGlobals mg) (c : SaysX G fn K) (cB : okB G fn P = true) (pl : PlainAll fn P) :
    ∀ (n p : Nat) (dd : DefX) (i : Nat) (d : DefK), fn[p]? = some dd → P[p]? = some (i, d) → ∃ fd, FunD K dd.name dd.qual dd.params dd.body dd.scope [] [] (dd.ad K) fd ∧ FnOk prog w K mg base (L2.CX prog w) (2 * n + 1) (dd.ad K) fd d.ps (spF (mk0 prog w K G) d.ps.length (runF P n i)) := by
  obtain ⟨c1, c3⟩ := Bool.and_eq_true_iff.mp cB
  obtain ⟨c4, c5⟩ := Bool.and_eq_true_iff.mp c3
  obtain ⟨c2, c6⟩ := Bool.and_eq_true_iff.mp c5
  obtain ⟨f1, f2, f3, f4⟩ := c.and3
  have fmem : ∀ y g f, (y, g) ∈ G → f ∈ faOf (y, g) → f.ok K = true := fun y g f m hf => List.all_eq_true.mp f1 _ (List.mem_append_left _ (List.mem_flatMap.mpr ⟨_, m, hf⟩))
  have hex : ∀ a b t, subE (exIds G) a b = some t → PySem.W.exmOne K (.ref (He.ga K (exName G a))) (.ref (He.ga K (exName G b))) = some t := fun a b t e => by
    unfold subE at e
    split at e
    · rename_i q
      obtain ⟨q1, q2⟩ := Bool.and_eq_true_iff.mp q
      cases e
      have m1 := exName_mem (G := G) (i := a) (by simpa using q1)
      have m2 := exName_mem (G := G) (i := b) (by simpa using q2)
      exact He.exm_ok (List.all_eq_true.mp f1 _ (List.mem_append_right _ (List.mem_flatMap.mpr ⟨_, m1, List.mem_map.mpr ⟨_, m2, rfl⟩⟩)))
    · cases e
  have hei : ∀ a b t, subE (exIds G) a b = some t → ∃ D E, (mk0 prog w K G).xcls a = .ref D ∧ (mk0 prog w K G).xcls b = .ref E ∧ ExcC K D ∧ PySem.W.kitOne K (.ref D) (.ref E) = some t := fun a b t e => by
    unfold subE at e
    split at e
    · rename_i q
      obtain ⟨q1, q2⟩ := Bool.and_eq_true_iff.mp q
      cases e
      have m1 := exName_mem (G := G) (i := a) (by simpa using q1)
      have m2 := exName_mem (G := G) (i := b) (by simpa using q2)
      obtain ⟨z1, z2⟩ := Bool.and_eq_true_iff.mp (List.all_eq_true.mp f4 _ m1)
      exact ⟨_, _, rfl, rfl, excB_ok z1, of_decide_eq_true (List.all_eq_true.mp z2 _ m2)⟩
    · cases e
  intro n
  induction n with
  | zero =>
    intro p dd i d e1 e2
    obtain ⟨fd, F⟩ := c.def_ p e1
    refine ⟨fd, F, ⟨fun vs H Q E q => ?_, fun A outer s H args us vs Q E hr he hb hv q => ?_⟩⟩
    · obtain ⟨B, L, h, ds, _, _, _, _, _, p⟩ := q; exact p.elim
    · obtain ⟨B, L, h, ds, _, _, _, _, _, p⟩ := q; exact p.elim
  | succ n ih =>
    intro p dd i d e1 e2
    have hd := allB_ok c1 p dd i d e1 e2
    obtain ⟨fd, F⟩ := c.def_ p e1
    refine ⟨fd, F, ?_⟩
    have e : spF (mk0 prog w K G) d.ps.length (runF P (n + 1) i) = spF (mk0 prog w K G) d.ps.length (callD (runF P n) d) := by
      congr 1
      funext ds h
      show (match findD P i with
        | none => Out.bad
        | some d => callD (runF P n) d ds h) = _
      rw [find_at c4 e2]
    rw [e]
    unfold defB at hd
    rcases Bool.or_eq_true_iff.mp hd with hd | hd
    · have bd : ∀ ds h, callD (runF P n) d ds h = .bad := fun ds h => by
        unfold callD
        split
        · cases hb : d.body <;> first | rfl | (rw [hb] at hd; cases hd)
        · rfl
      refine ⟨fun vs H Q E q => ?_, fun A outer s H args us vs Q E hr he hb hv q => ?_⟩
      · obtain ⟨B, L, h, ds, _, _, _, _, _, p⟩ := q; rw [bd] at p; exact p.elim
      · obtain ⟨B, L, h, ds, _, _, _, _, _, p⟩ := q; rw [bd] at p; exact p.elim
    simp only [Bool.and_eq_true, decide_eq_true_eq] at hd
    obtain ⟨d3, d4⟩ := hd
    refine def_ok (n := 2 * n + 2) (M := mk0 prog w K G) rfl rfl F (fnScB_ok d3) d4 hex rfl hei fun A hr y g ey X e1 e2 e3 e4 e5 e6 => ?_
    have mem := lookup_mem ey
    have fm := fmem y g
    have hg := List.all_eq_true.mp c2 _ mem
    /- a def, by where it stands -/
    have at_ : ∀ (x : Str × Option Str) (b : Bool) (j m r : Nat), r ≤ 1 → hasB x b j m fn P = true → ∀ a, (∀ dj : DefX, dj.at_ = x → dj.prop = b → dj.ad K = a) → FnAt (runF P n) X (mk0 prog w K G) j m r a := fun x b j m r hr1 hb a ha => by
      obtain ⟨p2, dj, pj, q1, q2, q3, q4, q5⟩ := hasB_ok hb
      obtain ⟨fdj, Fj, Oj⟩ := ih p2 dj j pj q1 q2
      subst q5
      subst e1 e2 e3 e4 e5
      have ea := ha dj q3 q4
      rw [ea] at Oj
      exact ⟨⟨fdj, pj.ps, 2 * n + 1, Fj.bindsN (pl.get p2 dj j pj q1 q2), e6 ▸ hr.mono (by omega), Oj⟩, runF_ar P (find_at c4 q2) n⟩
    cases g with
    | int i =>
      obtain ⟨t, et⟩ := He.int_ok KX NG (fm _ mem List.mem_cons_self)
      exact ⟨t, by rw [e4]; exact et⟩
    | str z =>
      obtain ⟨t, et⟩ := He.str_ok KX NG (fm _ mem List.mem_cons_self)
      exact ⟨t, by rw [e4]; exact et⟩
    | blt =>
      show X.mg y = none
      rw [e4]
      exact He.free_ok KX NG (fm _ mem List.mem_cons_self)
    | fn j m =>
      obtain ⟨⟨fdj, psj, kj, z1, z2, z3⟩, z4⟩ := at_ (y, none) false j m 0 (by omega) hg (He.ga K y) fun dj h1 h2 => by unfold DefX.ad; rw [h1, h2]; rfl
      have gl := He.glo_ok KX NG (fm _ mem List.mem_cons_self)
      have kp : PySem.W.keepIn K (.ref (He.ga K y)) = true := by
        obtain ⟨p2, dj, pj, q1, q2, q3, q4, q5⟩ := hasB_ok (show hasB (y, none) false j m fn P = true from hg)
        obtain ⟨fd2, F2⟩ := c.def_ p2 q1
        have ea : dj.ad K = He.ga K y := by unfold DefX.ad; rw [q3, q4]; rfl
        have := F2.kp
        rw [ea] at this
        exact this
      exact ⟨⟨He.ga K y, fdj, psj, kj, by rw [e4]; exact gl, by rw [e3]; exact kp, z1, z2, z3⟩, z4⟩
    | exc i =>
      have hg := fm _ mem List.mem_cons_self
      obtain ⟨x1, x2, x3, x4⟩ := He.exc_ok (fm (.exc y) mem (List.mem_cons_of_mem _ List.mem_cons_self))
      have hn : exName G i = y := of_decide_eq_true (List.all_eq_true.mp c6 _ mem)
      refine ⟨He.ga K y, by rw [e4]; exact He.glo_ok KX NG hg, ?_, e3 ▸ x1, e3 ▸ x2, e3 ▸ x3, e3 ▸ x4⟩
      show Value.ref (He.ga K (exName G i)) = _
      rw [hn]
    | dead => exact True.intro
    | exf i f r =>
      have hx : (xfB K (He.ga K y) && (!r || oexB K (He.ga K y))) = true := List.all_eq_true.mp f3 _ mem
      obtain ⟨x1, x2⟩ := Bool.and_eq_true_iff.mp hx
      obtain ⟨g1, g2⟩ := Bool.and_eq_true_iff.mp (show (decide (exFld G i = [f]) && (!r || iniB y f fn P)) = true from hg)
      have g1 : exFld G i = [f] := of_decide_eq_true g1
      have gl := He.glo_ok KX NG (fm _ mem (List.mem_append_left _ List.mem_cons_self))
      have nf := He.noat_ok (fm (.noat y f) mem (List.mem_append_left _ (List.mem_cons_of_mem _ List.mem_cons_self)))
      have hn : exName G i = y := of_decide_eq_true (List.all_eq_true.mp c6 _ mem)
      have ec : (mk0 prog w K G).xcls i = .ref (He.ga K y) := by
        show Value.ref (He.ga K (exName G i)) = _
        rw [hn]
      refine ⟨He.ga K y, by rw [e4]; exact gl, ec, g1, e3 ▸ xfB_ok x1, e3 ▸ nf, fun er => ?_⟩
      subst er
      obtain ⟨p2, dj, j, pj, q1, q2, q3⟩ := iniB_ok g2
      simp only [Bool.and_eq_true, decide_eq_true_eq] at q3
      obtain ⟨⟨⟨⟨⟨⟨⟨q4, q5⟩, q6⟩, q7⟩, q8⟩, q9⟩, q10⟩, q11⟩ := q3
      obtain ⟨fdj, Fj⟩ := c.def_ p2 q1
      have ea : dj.ad K = He.ma K (He.ga K y) "__init__" := by unfold DefX.ad; rw [q4, q5]; rfl
      obtain ⟨qq, eqq⟩ := Option.isSome_iff_exists.mp q7
      have mm := He.meth_ok (fm (.meth y "__init__") mem (List.mem_append_right _ (by rw [if_pos rfl]; exact List.mem_cons_self)))
      have T := oexB_ok (show oexB K (He.ga K y) = true from x2)
      subst e1 e2 e3 e4 e5
      have O := ini_ok (P := X.prog) (w := X.w) (mg := X.mg) (base := X.base) Fj (fnScB_ok q8) eqq q9 q10 q11 T nf
      have bn := Fj.bindsN (pl.get p2 dj j pj q1 q2)
      rw [q6] at bn
      rw [ea] at O
      exact ⟨He.ga X.K y, He.ma X.K (He.ga X.K y) "__init__", fdj, gl, ec, g1, T, mm.at_, of_decide_eq_true (by have := mm.fn; unfold PySem.W.isFn at this; simpa using this), O, e6 ▸ hr.mono (by omega), bn⟩
    | tup ds =>
      have hx := List.all_eq_true.mp f3 _ mem
      refine ⟨⟨He.ga K y, by rw [e4]; exact He.glo_ok KX NG (fm _ mem List.mem_cons_self), fun H => ?_⟩, hg⟩
      have := He.tupB_ok (show He.tupB K y (ds.map CK.dv) = true from hx) H
      rw [ck_dv] at this
      rw [e3]
      exact this
    | cls cn fs ini ms pr =>
      have hx : (pr.all fun q => propB K y q.1) = true := List.all_eq_true.mp f3 _ mem
      simp only [gB, Bool.and_eq_true, decide_eq_true_eq] at hg
      obtain ⟨⟨⟨⟨⟨g1, g2⟩, g3⟩, g4⟩, g5⟩, g6⟩ := hg
      have ec : (mk0 prog w K G).cls cn = He.ga K y := by show He.ga K (clsAt G cn).1 = _; rw [g1]
      have ef : (mk0 prog w K G).flds cn = fs := by show (clsAt G cn).2.2 = _; rw [g1]
      have m0 : ∀ f, f ∈ [He.Fa.glo y, .cls y, .mkr y] → f ∈ faOf (y, .cls cn fs ini ms pr) := fun f hf => List.mem_append_left _ (List.mem_append_left _ hf)
      refine ⟨?_, ?_, ef, g2, Nat.le_of_ble_eq_true g3, fun f hf => ?_, ?_, fun m j k el => ?_, fun f j el => ?_, fun m j k el => ?_⟩
      · rw [ec, e3]; exact He.cls_ok (fm _ mem (m0 _ (by simp)))
      · rw [ec, e4]; exact He.glo_ok KX NG (fm _ mem (m0 _ (by simp)))
      · rw [ec, e3]; exact He.noat_ok (fm _ mem (List.mem_append_left _ (List.mem_append_right _ (List.mem_map.mpr ⟨f, hf, rfl⟩))))
      · refine ⟨He.ma K (He.ga K y) "__init__", ?_, at_ (y, some "__init__") false ini.1 ini.2 1 (by omega) g4 _ fun dj h1 h2 => by unfold DefX.ad; rw [h1, h2]; rfl⟩
        rw [ec, e3]; exact He.mkr_ok (fm _ mem (m0 _ (by simp)))
      · have hm := lookup_mem2 el
        obtain ⟨z1, z2⟩ := Bool.and_eq_true_iff.mp (List.all_eq_true.mp g5 _ hm)
        refine ⟨by simpa using z2, He.ma K (He.ga K y) m, ?_, at_ (y, some m) false j k 0 (by omega) z1 _ fun dj h1 h2 => by unfold DefX.ad; rw [h1, h2]; rfl⟩
        rw [ec, e3]; exact He.meth_ok (fm _ mem (List.mem_append_right _ (List.mem_map.mpr ⟨_, hm, rfl⟩)))
      · have hm := lookup_mem2 el
        have z1 := List.all_eq_true.mp g6 _ hm
        refine ⟨paAd K (He.ga K y) f, gtAd K (He.ga K y) f, ?_, at_ (y, some f) true j 1 1 (by omega) z1 _ fun dj h1 h2 => by unfold DefX.ad; rw [h1, h2]⟩
        rw [ec, e3]; exact propB_ok (List.all_eq_true.mp hx _ hm)
      · have hm := lookup_mem2 el
        obtain ⟨z1, z2⟩ := Bool.and_eq_true_iff.mp (List.all_eq_true.mp g5 _ hm)
        refine ⟨He.ma K (He.ga K y) m, ?_, at_ (y, some m) false j k 1 (by omega) z1 _ fun dj h1 h2 => by unfold DefX.ad; rw [h1, h2]; rfl⟩
        rw [ec, e3]; exact He.meth_ok (fm _ mem (List.mem_append_right _ (List.mem_map.mpr ⟨_, hm, rfl⟩)))
end
/-- an exception that no one wishes for -/
def CXU (P : Program) : CXT := fun outer H s E u s' => ∃ w, L2.CX P w outer H s E u s'
theorem CXU.no {P : Program} {H : Hp} {s : Shared} {e : Value} {s' : Shared} (h : CXU P [] H s (fun _ _ _ => False) e s') : False := by
  obtain ⟨w, _, _, _, _, _, _, _, _, _, _, _, _, z⟩ := h
  exact z
theorem fnOk_cx {P : Program} {w : World} {K : PySem.W.Frag} {mg : Str → Option Value} {base : Heap} {CX CX' : CXT} {k : Nat} {f : Addr} {fd : FuncData} {ps : List Str} {sp : Sp} (F : FnOk P w K mg base CX k f fd ps sp)
    (i : ∀ outer H s E u s', CX outer H s E u s' → CX' outer H s E u s') : FnOk P w K mg base CX' k f fd ps sp := by
  refine ⟨F.len, fun A outer s H args us vs Q E hr he hb hv hs => codeAny_mono (F.run A outer s H args us vs Q E hr he hb hv hs) fun r s' q => ?_⟩
  cases r with
  | error e => exact i _ _ _ _ _ _ q
  | ok fl => cases fl <;> exact q
/-- the law's end -/
theorem law_end {prog : Program} {w : World} {K : PySem.W.Frag} {h : Heap} {mg : Str → Option Value} {fn : List DefX} {P : Prog} {G : List (Str × GK)} {f : Addr} {x y : Str} {n il pp : Nat} {dl : DefX} {pl : DefK}
    (X : K.In h) (NG : h.Ns mainGlobals mg) (hfa : mg x = some (.ref f)) (c : SaysX G fn K) (cB : okB G fn P = true) (pa : PlainAll fn P)
    (e1 : fn[pp]? = some dl) (e2 : P[pp]? = some (il, pl)) (ex : G.lookup x = some (.fn il 1)) (ea : dl.at_ = (x, none)) (eb : dl.prop = false) (ep : pl.ps = [y])
    (hm : ∀ ns : List Int, ns.length ≤ 63 → ∃ h', runF P n il [.scr ns] [] = .ok (.py (.bool true)) h') :
    ∃ (fd : FuncData) (sp : Sp), (∀ (s : Shared) (u : Value), BindsTo s fd ⟨[u], []⟩ [(y, u)]) ∧
      (∀ (H : Hp) (a : Addr) (ns : List Int), ns.length ≤ 63 → Only H → SqL K H a (ns.map V.int) → sp [.ref a] H (fun v _ => v = .bl true) fun _ _ _ => False) ∧
      ∀ base : Heap, K.In base → base.Ns mainGlobals mg → FnOk prog w K mg base (CXU prog) (2 * n + 1) f fd [y] sp := by
  obtain ⟨fd, F⟩ := c.def_ pp e1
  have pb := pa.get pp dl il pl e1 e2
  have fok : (He.Fa.glo x).ok K = true := List.all_eq_true.mp c.and3.1 _ (List.mem_append_left _ (List.mem_flatMap.mpr ⟨_, lookup_mem ex, List.mem_cons_self⟩))
  have ef : f = dl.ad K := by
    have := He.glo_ok X NG fok
    rw [hfa] at this
    unfold DefX.ad
    rw [ea, eb]
    exact Value.ref.inj (Option.some.inj this)
  refine ⟨fd, spF (mk0 prog w K G) 1 (runF P n il), fun s u => ?_, fun H a ns hl hO hS => ?_, fun base KB NB => ?_⟩
  · have b := FunD.bindsA F (ps := pl.ps) pb s [u] (by rw [ep]; rfl)
    rw [ep] at b
    exact b
  · obtain ⟨h', er⟩ := hm ns hl
    have sf : SqF K H a (ns.map V.int) := by
      rcases hS with (hS | hS) | hS
      · rcases hO a with z | ⟨o, xs, z⟩
        · rw [z] at hS; cases hS
        · rw [z] at hS; cases hS
      · exact .inl hS
      · exact .inr hS
    refine ⟨⟨H, [], fun _ => False⟩, [], [], [.scr ns], rfl, rfl, rfl, ?_, .cons (.scr sf) .nil, ?_⟩
    · exact ⟨rfl, List.nodup_nil, fun n o a e => (by simp at e), fun a ha => (by cases ha), ⟨[], rfl, fun a ha => (by cases ha)⟩, fun a o e _ => e, fun a xs e => e, fun a o u e => e, fun a o e => ⟨o, e⟩, fun a e => e.elim, rfl, rfl, fun i a e => by simp at e, fun i j a e => by simp at e, fun i sl e => by simp at e⟩
    · rw [er]
      intro v H' L' _ _ r
      cases r with
      | py r => cases r; rfl
  · obtain ⟨fd', F', O'⟩ := prog_ok (prog := prog) (w := w) (base := base) X NG c cB pa n pp dl il pl e1 e2
    have : fd' = fd := by
      obtain ⟨oc, od, dV, kV, doc, pm, an, cdv, ct, osl, r1, lk, _⟩ := F.ex
      obtain ⟨oc', od', dV', kV', doc', pm', an', cdv', ct', osl', r1', lk', _⟩ := F'.ex
      rw [lk] at lk'
      have := Option.some.inj lk'
      injection this with _ _ z _
      injection z with z
      exact z.symm
    subst this
    rw [ef, ← ep]
    have e : pl.ps.length = 1 := by rw [ep]; rfl
    rw [e] at O'
    exact fnOk_cx O' fun _ _ _ _ _ _ q => ⟨w, q⟩
end KF
set_option Elab.async false
set_option linter.all false
set_option maxRecDepth 100000
set_option maxHeartbeats 4000000
/-! KF: the meaning, step by step. -/
namespace KF
open PySem
section
variable {α β : Type}
@[simp] theorem bind_ok (a : α) (h : MH) (f : α → MH → Out β) : (Out.ok a h).bind f = f a h := rfl
@[simp] theorem bind_exc (c : Nat) (fs : List D) (h : MH) (f : α → MH → Out β) : (Out.exc c fs h).bind f = .exc c fs h := rfl
@[simp] theorem nx_ok' (a : α) (h : MH) (f : α → MH → Out β) : (Out.ok a h).nx f = f a h := rfl
@[simp] theorem toS_ok (a : α) (h : MH) (env : KF.Env) (f : α → MH → OutS) : (Out.ok a h).toS env f = f a h := rfl
@[simp] theorem toS_exc (c : Nat) (fs : List D) (h : MH) (env : KF.Env) (f : α → MH → OutS) : (Out.exc c fs h).toS env f = .exc c fs env h := rfl
@[simp] theorem thn_nx (env : KF.Env) (h : MH) (f : EvS) : (OutS.nx env h).thn f = f env h := rfl
@[simp] theorem thn_rt (d : D) (h : MH) (f : EvS) : (OutS.rt d h).thn f = .rt d h := rfl
@[simp] theorem thn_exc (c : Nat) (fs : List D) (env : KF.Env) (h : MH) (f : EvS) : (OutS.exc c fs env h).thn f = .exc c fs env h := rfl
@[simp] theorem lift_some (a : α) (h : MH) : lift (some a) h = .ok a h := rfl
@[simp] theorem endS_nx (env : KF.Env) (h : MH) : endS (.nx env h) = .ok (.py .none) h := rfl
@[simp] theorem endS_rt (d : D) (h : MH) : endS (.rt d h) = .ok d h := rfl
@[simp] theorem endS_exc (c : Nat) (fs : List D) (env : KF.Env) (h : MH) : endS (.exc c fs env h) = .exc c fs h := rfl
theorem bind_congr {o o' : Out α} {f : α → MH → Out β} (e : o = o') : o.bind f = o'.bind f := by rw [e]
theorem nx_congr {o o' : Out α} {f : α → MH → Out β} (e : o = o') : o.nx f = o'.nx f := by rw [e]
theorem toS_congr {o o' : Out α} {env : KF.Env} {f : α → MH → OutS} (e : o = o') : o.toS env f = o'.toS env f := by rw [e]
theorem thn_congr {o o' : OutS} {f : EvS} (e : o = o') : o.thn f = o'.thn f := by rw [e]
theorem bind_ite (c : Prop) [Decidable c] (a b : Out α) (f : α → MH → Out β) : (if c then a else b).bind f = if c then a.bind f else b.bind f := by split <;> rfl
theorem thn_ite (c : Prop) [Decidable c] (a b : OutS) (f : EvS) : (if c then a else b).thn f = if c then a.thn f else b.thn f := by split <;> rfl
end
section
variable {F : FnS} {env : KF.Env} {h : MH}
@[simp] theorem E_int (i : Int) : (ev F (.int i)).E env h = .ok (.py (.int i)) h := rfl
@[simp] theorem E_bl (i : Bool) : (ev F (.bl i)).E env h = .ok (.py (.bool i)) h := rfl
@[simp] theorem E_non : (ev F .non).E env h = .ok (.py .none) h := rfl
@[simp] theorem E_str (x : Str) : (ev F (.str x)).E env h = .ok (.py (.str x)) h := rfl
@[simp] theorem E_var (i : Nat) : (ev F (.var i)).E env h = lift (look env i) h := rfl
@[simp] theorem E_varV (i : Nat) : (ev F (.varV i)).E env h = lift (lookV env i) h := rfl
@[simp] theorem E_bin (o : BOp) (a b : K) : (ev F (.bin o a b)).E env h = ((ev F a).E env h).bind fun x h1 => ((ev F b).E env h1).bind fun y h2 => lift (binF o h2 x y) h2 := rfl
@[simp] theorem E_neg (a : K) : (ev F (.neg a)).E env h = ((ev F a).E env h).bind fun x h1 => lift (negD h1 x) h1 := rfl
@[simp] theorem E_no (a : K) : (ev F (.no a)).E env h = (((ev F a).E env h).bind fun x h1 => lift (truD h1 x) h1).bind fun b h1 => .ok (.py (.bool (!b))) h1 := by
  show bE (notT (semV (ev F a).E)) env h = _
  unfold bE notT semV
  cases (ev F a).E env h with
  | ok x h1 => simp only [bind_ok]; cases truD h1 x <;> rfl
  | exc c fs h1 => rfl
  | bad => rfl
@[simp] theorem E_and (a b : K) : (ev F (.and a b)).E env h = ((ev F a).E env h).bind fun x h1 => (lift (truD h1 x) h1).bind fun t h2 => if t = true then (ev F b).E env h2 else .ok x h2 := rfl
@[simp] theorem E_or (a b : K) : (ev F (.or a b)).E env h = ((ev F a).E env h).bind fun x h1 => (lift (truD h1 x) h1).bind fun t h2 => if t = true then .ok x h2 else (ev F b).E env h2 := rfl
@[simp] theorem E_ifx (t a b : K) : (ev F (.ifx t a b)).E env h = ((ev F t).T env h).bind fun t h1 => if t = true then (ev F a).E env h1 else (ev F b).E env h1 := rfl
@[simp] theorem E_cmp (o : COp) (a b : K) : (ev F (.cmp o a b)).E env h = ((ev F (.cmp o a b)).T env h).bind fun b h1 => .ok (.py (.bool b)) h1 := rfl
@[simp] theorem E_chn (o o' : COp) (a b c : K) : (ev F (.chn o o' a b c)).E env h = ((ev F (.chn o o' a b c)).T env h).bind fun b h1 => .ok (.py (.bool b)) h1 := rfl
@[simp] theorem E_tup (es : K) : (ev F (.tup es)).E env h = ((ev F es).A env h).bind fun ds h1 => lift (mkTup ds) h1 := rfl
@[simp] theorem E_lst (es : K) : (ev F (.lst es)).E env h = ((ev F es).A env h).bind fun ds h1 => lift (mkLst ds) h1 := rfl
@[simp] theorem E_lstL (es : K) : (ev F (.lstL es)).E env h = ((ev F es).A env h).bind fun ds h1 => if fits ds.length = true then .ok (.loc h1.length) (h1 ++ [.lst ds]) else .bad := rfl
@[simp] theorem E_prom (a : K) : (ev F (.prom a)).E env h = ((ev F a).E env h).bind promO := rfl
@[simp] theorem E_ix (a b : K) : (ev F (.ix a b)).E env h = ((ev F a).E env h).bind fun x h1 => ((ev F b).E env h1).bind fun y h2 => lift (ixU h2 x y) h2 := rfl
@[simp] theorem E_slc (a lo hi : K) : (ev F (.slc a lo hi)).E env h = ((ev F a).E env h).bind fun x h1 => ((ev F lo).O env h1).bind fun lo h2 => ((ev F hi).O env h2).bind fun hi h3 => lift (cutU x lo hi) h3 := rfl
@[simp] theorem E_rev (a : K) : (ev F (.rev a)).E env h = ((ev F a).E env h).bind fun x h1 => lift (revT h1 x) h1 := rfl
@[simp] theorem E_lc (vs : List Nat) (g it t e : K) : (ev F (.lc vs g it t e)).E env h = ((ev F it).I env h).bind fun xs h1 => match wipeE env vs with
  | none => .bad
  | some ew => (lcF (ev F g).G (ev F t).T (ev F e).E ew xs h1).nx mkL := rfl
@[simp] theorem E_fn (i : Nat) (es : K) : (ev F (.fn i es)).E env h = ((ev F es).A env h).bind fun ds h1 => F i ds h1 := rfl
@[simp] theorem E_bi (b : BI) (es : K) : (ev F (.bi b es)).E env h = ((ev F es).A env h).bind fun ds h1 => lift (biF b h1 ds) h1 := rfl
@[simp] theorem E_isi (t : String) (a : K) : (ev F (.isi t a)).E env h = ((ev F a).E env h).bind fun x h1 => lift (isiD t h1 x) h1 := rfl
@[simp] theorem A_nil : (ev F .nil).A env h = .ok [] h := rfl
@[simp] theorem A_cons (a r : K) : (ev F (.cons a r)).A env h = ((ev F a).E env h).bind fun x h1 => ((ev F r).A env h1).bind fun xs h2 => .ok (x :: xs) h2 := rfl
@[simp] theorem O_nil : (ev F .nil).O env h = .ok none h := rfl
theorem O_e {a : K} (p : plainT a = true) : (ev F a).O env h = ((ev F a).E env h).bind fun x h1 => lift (asI x) h1 := by
  rw [(plainT_ok p).2]; rfl
@[simp] theorem O_int (i : Int) : (ev F (.int i)).O env h = .ok (some i) h := rfl
@[simp] theorem O_var (i : Nat) : (ev F (.var i)).O env h = (lift (look env i) h).bind fun x h1 => lift (asI x) h1 := rfl
@[simp] theorem O_bin (o : BOp) (a b : K) : (ev F (.bin o a b)).O env h = ((ev F (.bin o a b)).E env h).bind fun x h1 => lift (asI x) h1 := rfl
@[simp] theorem O_bi (b : BI) (es : K) : (ev F (.bi b es)).O env h = ((ev F (.bi b es)).E env h).bind fun x h1 => lift (asI x) h1 := rfl
@[simp] theorem O_neg (a : K) : (ev F (.neg a)).O env h = ((ev F (.neg a)).E env h).bind fun x h1 => lift (asI x) h1 := rfl
@[simp] theorem O_fn (i : Nat) (es : K) : (ev F (.fn i es)).O env h = ((ev F (.fn i es)).E env h).bind fun x h1 => lift (asI x) h1 := rfl
@[simp] theorem T_no (a : K) : (ev F (.no a)).T env h = ((ev F a).T env h).bind fun b h1 => .ok (!b) h1 := rfl
@[simp] theorem T_and (a b : K) : (ev F (.and a b)).T env h = ((ev F a).T env h).bind fun t h1 => if t = true then (ev F b).T env h1 else .ok false h1 := rfl
@[simp] theorem T_or (a b : K) : (ev F (.or a b)).T env h = ((ev F a).T env h).bind fun t h1 => if t = true then .ok true h1 else (ev F b).T env h1 := rfl
@[simp] theorem T_cmp (o : COp) (a b : K) : (ev F (.cmp o a b)).T env h = ((ev F a).E env h).bind fun x h1 => ((ev F b).E env h1).bind fun y h2 => lift (cmpF o h2 x y) h2 := rfl
@[simp] theorem T_chn (o o' : COp) (a b c : K) : (ev F (.chn o o' a b c)).T env h = ((ev F a).E env h).bind fun x h1 => ((ev F b).E env h1).bind fun y h2 => (lift (cmpF o h2 x y) h2).bind fun k h3 => if k = true then ((ev F c).E env h3).bind fun z h4 => lift (cmpF o' h4 y z) h4 else .ok false h3 := rfl
@[simp] theorem T_yes : (ev F .yes).T env h = .ok true h := rfl
@[simp] theorem T_var (i : Nat) : (ev F (.var i)).T env h = (lift (look env i) h).bind fun x h1 => lift (truD h1 x) h1 := rfl
@[simp] theorem T_fn (i : Nat) (es : K) : (ev F (.fn i es)).T env h = ((ev F (.fn i es)).E env h).bind fun x h1 => lift (truD h1 x) h1 := rfl
@[simp] theorem T_isi (t : String) (a : K) : (ev F (.isi t a)).T env h = ((ev F (.isi t a)).E env h).bind fun x h1 => lift (truD h1 x) h1 := rfl
@[simp] theorem T_bi (b : BI) (es : K) : (ev F (.bi b es)).T env h = ((ev F (.bi b es)).E env h).bind fun x h1 => lift (truD h1 x) h1 := rfl
@[simp] theorem T_bin (o : BOp) (a b : K) : (ev F (.bin o a b)).T env h = ((ev F (.bin o a b)).E env h).bind fun x h1 => lift (truD h1 x) h1 := rfl
@[simp] theorem T_lc (vs : List Nat) (g it t e : K) : (ev F (.lc vs g it t e)).T env h = ((ev F (.lc vs g it t e)).E env h).bind fun x h1 => lift (truD h1 x) h1 := rfl
@[simp] theorem T_bl (b : Bool) : (ev F (.bl b)).T env h = .ok b h := rfl
@[simp] theorem I_rng1 (es : K) : (ev F (.rng1 es)).I env h = ((ev F es).A env h).bind fun ds h1 => lift (rng1 ds) h1 := rfl
@[simp] theorem I_rng2 (es : K) : (ev F (.rng2 es)).I env h = ((ev F es).A env h).bind fun ds h1 => lift (rng2 ds) h1 := rfl
@[simp] theorem I_enu (es : K) : (ev F (.enu es)).I env h = ((ev F es).A env h).bind fun ds h1 => lift (enumO ds) h1 := rfl
@[simp] theorem S_rais (c : Nat) : (ev F (.rais c)).S env h = .exc c [] env h := rfl
@[simp] theorem S_tryR (ids : List Nat) (hs : List (Nat × CK)) (b : K) : (ev F (.tryR ids hs b)).S env h = match (ev F b).S env h with
  | .exc c fs env' h' => tryO ids (ckL hs) c fs env' h'
  | o => o := rfl
@[simp] theorem E_sset (a : K) : (ev F (.sset a)).E env h = ((ev F a).E env h).bind fun x h1 => lift (ssO h1 x) h1 := rfl
@[simp] theorem E_idx (a es : K) : (ev F (.idx a es)).E env h = ((ev F a).E env h).bind fun x h1 => if isLst h1 x = true then ((ev F es).A env h1).bind fun ds h2 => lift (idxO h2 x ds) h2 else .bad := rfl
@[simp] theorem E_lset (a : K) : (ev F (.lset a)).E env h = ((ev F a).E env h).bind fun x h1 => lift (lsO h1 x) h1 := rfl
@[simp] theorem E_dnew : (ev F .dnew).E env h = .ok (.loc h.length) (h ++ [.dct []]) := rfl
@[simp] theorem E_dget (a k x : K) : (ev F (.dget a k x)).E env h = ((ev F a).E env h).bind fun d h1 => match dctAt h1 d with
  | none => .bad
  | some _ => ((ev F k).E env h1).bind fun k h2 => ((ev F x).E env h2).bind fun x h3 => lift (getX h3 d k x) h3 := rfl
@[simp] theorem I_seq (a : K) : (ev F (.seq a)).I env h = ((ev F a).E env h).bind fun d h1 => lift (itU d) h1 := rfl
@[simp] theorem G_tn (i : Nat) (d : D) : (ev F (.tn i)).G d env = if i < env.length then some (env.set i (.v d)) else none := rfl
@[simp] theorem G_tt (n : Nat) (es : K) (d : D) : (ev F (.tt n es)).G d env = match d with
  | .py (.tuple ds) => if ds.length = n then (ev F es).Gs ds env else none
  | _ => none := rfl
@[simp] theorem Gs_nil : (ev F .nil).Gs [] env = some env := rfl
@[simp] theorem Gs_cons (a r : K) (d : PyData) (ds : List PyData) : (ev F (.cons a r)).Gs (d :: ds) env = ((ev F a).G (.py d) env).bind ((ev F r).Gs ds) := rfl
@[simp] theorem S_skip : (ev F .skip).S env h = .nx env h := rfl
@[simp] theorem S_sq (a b : K) : (ev F (.sq a b)).S env h = ((ev F a).S env h).thn (ev F b).S := rfl
@[simp] theorem S_ret (a : K) : (ev F (.ret a)).S env h = ((ev F a).E env h).toS env fun d h1 => .rt d h1 := rfl
@[simp] theorem S_exp (a : K) : (ev F (.exp a)).S env h = ((ev F a).E env h).toS env fun _ h1 => .nx env h1 := rfl
@[simp] theorem S_ite (t a b : K) : (ev F (.ite t a b)).S env h = ((ev F t).T env h).toS env fun t h1 => if t = true then (ev F a).S env h1 else (ev F b).S env h1 := rfl
@[simp] theorem S_asg (g e : K) : (ev F (.asg g e)).S env h = ((ev F e).E env h).toS env fun d h1 => match (ev F g).G d env with
  | some env' => .nx env' h1
  | none => .bad := rfl
@[simp] theorem S_sto (i : Nat) (e : K) : (ev F (.sto i e)).S env h = ((ev F e).E env h).toS env fun d h1 => match stoE i d env with
  | some env' => .nx env' h1
  | none => .bad := rfl
@[simp] theorem S_par2 (i j : Nat) (a b : K) : (ev F (.par2 i j a b)).S env h = ((ev F a).E env h).toS env fun d h1 => ((ev F b).E env h1).toS env fun e h2 => if i < env.length then match stoE j e (env.set i (.v d)) with
  | some env' => .nx env' h2
  | none => .bad
  else .bad := rfl
@[simp] theorem S_par3 (i j l : Nat) (c : Int) : (ev F (.par3 i j l c)).S env h = if i < env.length ∧ j < env.length ∧ l < env.length then .nx (((env.set i (.o [])).set j (.o [])).set l (.v (.py (.int c)))) h else .bad := rfl
@[simp] theorem S_parN (i j : Nat) (es : K) : (ev F (.parN i j es)).S env h = ((ev F es).A env h).toS env fun ds h1 => match ds with
  | [d, e] => if i < env.length ∧ j < env.length then .nx ((env.set i (.v d)).set j (.v e)) h1 else .bad
  | _ => .bad := rfl
@[simp] theorem S_aug (i : Nat) (o : BOp) (e : K) : (ev F (.aug i o e)).S env h = match lookV env i with
  | some x => ((ev F e).E env h).toS env fun y h1 => match augF o h1 x y with
    | some z => .nx (env.set i (.v z)) h1
    | none => .bad
  | none => .bad := rfl
@[simp] theorem S_put (i : Nat) (k e : K) : (ev F (.put i k e)).S env h = ((ev F e).E env h).toS env fun d h1 => match env[i]? with
  | some (.o xs) => ((ev F k).E env h1).toS env fun k h2 => match putO i xs env k d with
    | some env' => .nx env' h2
    | none => .bad
  | some (.v r) => ((ev F k).E env h1).toS env fun k h2 => match putU h2 r k d with
    | some h' => .nx env h'
    | none => .bad
  | _ => .bad := rfl
@[simp] theorem S_app (i : Nat) (e : K) : (ev F (.app i e)).S env h = match env[i]? with
  | some (.o xs) => ((ev F e).E env h).toS env fun d h1 => match d with
    | .py y => if fits (xs.length + 1) = true then .nx (env.set i (.o (xs ++ [y]))) h1 else .bad
    | _ => .bad
  | _ => .bad := rfl
@[simp] theorem S_ext (i : Nat) (e : K) : (ev F (.ext i e)).S env h = match env[i]? with
  | some (.o xs) => ((ev F e).E env h).toS env fun d h1 => match d with
    | .py (.list ys) => if fits (xs.length + ys.length) = true then .nx (env.set i (.o (xs ++ ys))) h1 else .bad
    | _ => .bad
  | _ => .bad := rfl
@[simp] theorem S_fr (g it b : K) : (ev F (.fr g it b)).S env h = ((ev F it).I env h).toS env fun xs h1 => forF (ev F g).G (ev F b).S xs env h1 := rfl
@[simp] theorem S_whl (t b : K) : (ev F (.whl t b)).S env h = whileF (ev F t).T (ev F b).S turns env h := by
  show (Den.s (whileF (ev F t).T (ev F b).S turns)).S env h = _
  rfl
@[simp] theorem S_frz (i : Nat) : (ev F (.frz i)).S env h = match frzE i env with
  | some env' => .nx env' h
  | none => .bad := rfl
@[simp] theorem S_parL (i j : Nat) : (ev F (.parL i j)).S env h = if i < env.length ∧ j < env.length then .nx ((env.set i (.o [])).set j (.o [])) h else .bad := rfl
@[simp] theorem I_dk (i : Nat) : (ev F (.dk i)).I env h = match lckAt h (look env i) with
  | some (_, kvs) => if sKs kvs = true then .ok (keysL kvs) h else .bad
  | none => .bad := rfl
@[simp] theorem E_lk (i : Nat) (k : K) : (ev F (.lk i k)).E env h = match dctO h (look env i) with
  | some (n, kvs) => unlkE n ((ev F k).E env (h.set n (.lck kvs)))
  | none => .bad := rfl
@[simp] theorem T_lk (i : Nat) (k : K) : (ev F (.lk i k)).T env h = ((ev F (.lk i k)).E env h).bind fun x h1 => lift (truD h1 x) h1 := rfl
@[simp] theorem S_lk (i : Nat) (k : K) : (ev F (.lk i k)).S env h = match dctO h (look env i) with
  | some (n, kvs) => unlkS n ((ev F k).S env (h.set n (.lck kvs)))
  | none => .bad := rfl
@[simp] theorem E_lc2 (vs vs1 : List Nat) (g it g1 it1 t e : K) : (ev F (.lc2 vs vs1 g it g1 it1 t e)).E env h = ((ev F it).I env h).bind fun xs h1 => match wipeE env vs with
  | none => .bad
  | some ew => (lc2F (ev F g).G (ev F it1).I (ev F g1).G vs1 (ev F t).T (ev F e).E ew xs h1).nx mkL := rfl
@[simp] theorem S_never : (ev F .never).S env h = .bad := rfl
@[simp] theorem E_fld (c j : Nat) (a : K) : (ev F (.fld c j a)).E env h = ((ev F a).E env h).bind fun x h1 => lift (fldD c j h1 x) h1 := rfl
@[simp] theorem E_meth (c i : Nat) (o es : K) : (ev F (.meth c i o es)).E env h = ((ev F o).E env h).bind fun d h1 => if insC c h1 d = true then ((ev F es).A env h1).bind fun ds h2 => F i (d :: ds) h2 else .bad := rfl
@[simp] theorem E_new (c i : Nat) (es : K) : (ev F (.new c i es)).E env h = ((ev F es).A env h).bind fun ds h1 => newO h1.length (F i (.loc h1.length :: ds) (h1 ++ [.ins c []])) := rfl
@[simp] theorem E_prop (c i : Nat) (o : K) : (ev F (.prop c i o)).E env h = ((ev F o).E env h).bind fun d h1 => if insC c h1 d = true then noX (F i [d] h1) else .bad := rfl
@[simp] theorem E_cst (ds : List CK) : (ev F (.cst ds)).E env h = .ok (.py (.tuple (ds.map CK.d))) h := rfl
@[simp] theorem E_dlen (es : K) : (ev F (.dlen es)).E env h = ((ev F es).A env h).bind fun ds h1 => lift (dlenO h1 ds) h1 := rfl
@[simp] theorem E_dlst (es : K) : (ev F (.dlst es)).E env h = ((ev F es).A env h).bind fun ds h1 => lift (dlstO h1 ds) h1 := rfl
@[simp] theorem E_sel (is : List Nat) (ix es : K) : (ev F (.sel is ix es)).E env h = ((ev F ix).E env h).bind fun d h1 => match d with
  | .py (.int i) => match L2.atI (is.map F) i with
    | some fc => ((ev F es).A env h1).bind fun ds h2 => fc ds h2
    | none => .bad
  | _ => .bad := rfl
@[simp] theorem E_dupd (o e : K) : (ev F (.dupd o e)).E env h = ((ev F o).E env h).bind fun r h1 => match dctW h1 r with
  | none => .bad
  | some _ => ((ev F e).E env h1).bind fun e h2 => match updD h2 r e with
    | some h' => .ok (.py .none) h'
    | none => .bad := rfl
@[simp] theorem T_meth (c i : Nat) (o es : K) : (ev F (.meth c i o es)).T env h = ((ev F (.meth c i o es)).E env h).bind fun x h1 => lift (truD h1 x) h1 := rfl
@[simp] theorem T_fld (c j : Nat) (o : K) : (ev F (.fld c j o)).T env h = ((ev F (.fld c j o)).E env h).bind fun x h1 => lift (truD h1 x) h1 := rfl
@[simp] theorem I_zip (es : K) : (ev F (.zip es)).I env h = ((ev F es).A env h).bind fun ds h1 => lift (zipO ds) h1 := rfl
@[simp] theorem S_fset (c j l : Nat) (o e : K) : (ev F (.fset c j l o e)).S env h = ((ev F e).E env h).toS env fun d h1 => ((ev F o).E env h1).toS env fun r h2 => match fsetD c j l h2 r d with
  | some h' => .nx env h'
  | none => .bad := rfl
@[simp] theorem S_putE (o k e : K) : (ev F (.putE o k e)).S env h = ((ev F e).E env h).toS env fun d h1 => ((ev F o).E env h1).toS env fun r h2 => ((ev F k).E env h2).toS env fun k h3 => match putD h3 r k d with
  | some h' => .nx env h'
  | none => .bad := rfl
@[simp] theorem E_tmul (a b : K) : (ev F (.tmul a b)).E env h = ((ev F a).E env h).bind fun x h1 => ((ev F b).E env h1).bind fun y h2 => lift (mulT h2 x y) h2 := rfl
@[simp] theorem E_smul (a b : K) : (ev F (.smul a b)).E env h = ((ev F a).E env h).bind fun x h1 => ((ev F b).E env h1).bind fun y h2 => lift (mulS h2 x y) h2 := rfl
@[simp] theorem E_lrng (a : K) : (ev F (.lrng a)).E env h = ((ev F a).E env h).bind fun d h1 => lift (lrO d) h1 := rfl
@[simp] theorem E_lenI (c i : Nat) (es : K) : (ev F (.lenI c i es)).E env h = ((ev F es).A env h).bind fun ds h1 => match ds with
  | [d] => if insC c h1 d = true then lenX (F i [d] h1) else .bad
  | _ => .bad := rfl
@[simp] theorem E_disp (es : K) : (ev F (.disp es)).E env h = ((ev F es).A env (h ++ [.dct []])).bind (dispO h.length) := rfl
@[simp] theorem S_augL (i : Nat) (o : BOp) (k e : K) : (ev F (.augL i o k e)).S env h = match env[i]? with
  | some (.o xs) => ((ev F k).E env h).toS env fun k h1 => match oldAt xs k with
    | some (j, a) => ((ev F e).E env h1).toS env fun y h2 => match y with
      | .py (.int b) => .nx (env.set i (.o (xs.set j (.int (augI o a b))))) h2
      | _ => .bad
    | none => .bad
  | _ => .bad := rfl
@[simp] theorem S_popS (j i : Nat) : (ev F (.popS j i)).S env h = match env[i]? with
  | some (.o xs) => match xs.getLast? with
    | some y => if j < env.length then .nx ((env.set i (.o xs.dropLast)).set j (.v (.py y))) h else .bad
    | none => .bad
  | _ => .bad := rfl
@[simp] theorem E_xis (ids : List Nat) (i b : Nat) : (ev F (.xis ids i b)).E env h = semXis ids i b env h := rfl
@[simp] theorem T_xis (ids : List Nat) (i b : Nat) : (ev F (.xis ids i b)).T env h = (semXis ids i b env h).bind fun x h1 => lift (truD h1 x) h1 := rfl
@[simp] theorem E_xfld (cs : List Nat) (i : Nat) : (ev F (.xfld cs i)).E env h = semXfld cs i env h := rfl
@[simp] theorem S_raisF (c : Nat) (e : K) : (ev F (.raisF c e)).S env h = ((ev F e).E env h).toS env fun d h1 => .exc c [d] env h1 := rfl
@[simp] theorem S_tryA (ids : List Nat) (i b : Nat) (k s : K) : (ev F (.tryA ids i b k s)).S env h = match (ev F k).S env h with
  | .exc c fs env' h' => tryA ids i b c fs (ev F s).S env' h'
  | o => o := rfl
end
@[simp] theorem fits_1 : fits 1 = true := rfl
@[simp] theorem fits_0 : fits 0 = true := rfl
@[simp] theorem fits_2 : fits 2 = true := rfl
@[simp] theorem fits_3 : fits 3 = true := rfl
@[simp] theorem fits_4 : fits 4 = true := rfl
@[simp] theorem fits_5 : fits 5 = true := rfl
end KF
set_option Elab.async false
set_option linter.all false
set_option maxRecDepth 100000
set_option maxHeartbeats 4000000
/-! KF, mathematics of the meaning: what all laws use. -/
namespace KF
open PySem
def iL (xs : List Int) : List PyData := xs.map .int
theorem iL_len (xs : List Int) : (iL xs).length = xs.length := by simp [iL]
theorem iL_app (xs ys : List Int) : iL (xs ++ ys) = iL xs ++ iL ys := by simp [iL]
theorem iL_get (xs : List Int) (i : Nat) : (iL xs)[i]? = (xs[i]?).map .int := by simp [iL]
theorem iL_inj {xs ys : List Int} (h : iL xs = iL ys) : xs = ys := by
  induction xs generalizing ys with
  | nil => cases ys with
    | nil => rfl
    | cons y r => cases h
  | cons x r ih => cases ys with
    | nil => cases h
    | cons y s =>
      have h : PyData.int x :: iL r = PyData.int y :: iL s := h
      injection h with h1 h2
      injection h1 with h1
      rw [h1, ih h2]
theorem eqvAll_ints : ∀ a b : List Int, PyData.eqvAll (iL a) (iL b) = decide (a = b)
  | [], [] => by simp [iL, PyData.eqvAll]
  | [], y :: s => by simp [iL, PyData.eqvAll]
  | x :: r, [] => by simp [iL, PyData.eqvAll]
  | x :: r, y :: s => by
    have := eqvAll_ints r s
    simp only [iL] at this
    simp only [iL, List.map_cons, PyData.eqvAll, PyData.eqv, this]
    by_cases h : x = y
    · subst h; simp
    · simp [h]
theorem eqv_T (a b : List Int) : PyData.eqv (.tuple (iL a)) (.tuple (iL b)) = decide (a = b) := by
  rw [PyData.eqv]; exact eqvAll_ints a b
theorem shal_int (i : Int) (n : Nat) : shal n (.int i) = true := by cases n <;> rfl
theorem shal_T (a : List Int) (n : Nat) : shal (n + 1) (.tuple (iL a)) = true := by
  simp only [shal, List.all_eq_true, iL, List.mem_map]
  rintro d ⟨i, _, rfl⟩
  exact shal_int i n
theorem lcF_pure {g : TgF} {ft : EvF Bool} {fe : EvF D} {env : KF.Env} {h : MH} (t : D → Bool) (f : D → PyData) : ∀ {xs : List D}, (∀ x ∈ xs, ∃ env1, g x env = some env1 ∧ ft env1 h = .ok (t x) h ∧ (t x = true → fe env1 h = .ok (.py (f x)) h)) → lcF g ft fe env xs h = .ok ((xs.filter t).map f) h
  | [], _ => rfl
  | x :: r, H => by
    obtain ⟨env1, e1, e2, e3⟩ := H x List.mem_cons_self
    have ih := lcF_pure (xs := r) t f fun y hy => H y (List.mem_cons_of_mem _ hy)
    unfold lcF
    rw [e1]
    simp only [e2, Out.nx]
    cases ht : t x with
    | true =>
      simp only [if_true, e3 ht, ih, List.filter_cons, ht, List.map_cons]
    | false =>
      simp only [Bool.false_eq_true, if_false, ih, List.filter_cons, ht]
theorem fits_small {n : Nat} (h : n ≤ 1000000) : fits n = true := by
  unfold fits
  exact Nat.ble_eq_true_of_le (by omega)
theorem rOk_small {j : Int} (h : j.natAbs ≤ 1000000) : rOk j = true := Nat.ble_eq_true_of_le (by omega)
theorem rng1_nat (n : Nat) (h : n ≤ 1000000) : rng1 [.py (.int n)] = some (rngL 0 n) := by
  unfold rng1
  simp only
  rw [if_pos (rOk_small (by omega))]
  rfl
theorem atI_nat {α : Type} (xs : List α) (i : Nat) (h : i < xs.length) : L2.atI xs (i : Int) = xs[i]? := by
  unfold L2.atI L2.ixN
  simp [h]
end KF
set_option Elab.async false
set_option linter.all false
set_option maxRecDepth 100000
/-! images of the defs -/
namespace LW
open PySem KF
def k_is_integer : K := .ret (.and (.isi "int" (.var 0)) (.no (.isi "bool" (.var 0))))
def p_is_integer : DefK := ⟨["value"], ["value"], [], k_is_integer⟩
def k_is_from : K := .ret (.and (.fn 0 (.cons (.varV 0) (.nil))) (.chn (.le) (.le) (.var 1) (.var 0) (.var 2)))
def p_is_from : DefK := ⟨["value", "low", "high"], ["value", "low", "high"], [], k_is_from⟩
def k_are_shapes : K := .sq (.ite (.or (.no (.isi "tuple" (.var 0))) (.no (.chn (.le) (.le) (.var 1) (.bi (.len) (.cons (.var 0) (.nil))) (.var 2)))) (.ret (.bl false)) (.skip)) (.sq (.fr (.tn 4) (.seq (.varV 0)) (.ite (.no (.fn 1 (.cons (.varV 4) (.cons (.int 0) (.cons (.varV 3) (.nil)))))) (.ret (.bl false)) (.skip))) (.ret (.bl true)))
def p_are_shapes : DefK := ⟨["value", "least", "most", "high"], ["value", "least", "most", "high", "shape"], [], k_are_shapes⟩
def k_check_ring : K := .ite (.no (.fn 2 (.cons (.varV 0) (.cons (.int 1) (.cons (.int 9) (.cons (.int 8) (.nil))))))) (.rais 1) (.skip)
def p_check_ring : DefK := ⟨["value"], ["value"], [], k_check_ring⟩
def k_check_hold : K := .sq (.ite (.or (.no (.isi "tuple" (.var 1))) (.or (.cmp (.ne) (.bi (.len) (.cons (.var 1) (.nil))) (.int 2)) (.no (.fn 1 (.cons (.ix (.var 1) (.int 0)) (.cons (.int 0) (.cons (.bin (.sub) (.bi (.len) (.cons (.var 0) (.nil))) (.int 1)) (.nil)))))))) (.rais 2) (.skip)) (.ite (.or (.no (.fn 0 (.cons (.ix (.var 1) (.int 1)) (.nil)))) (.cmp (.notin) (.ix (.var 1) (.int 1)) (.tup (.cons (.int 1) (.cons (.neg (.int 1)) (.nil)))))) (.rais 2) (.skip))
def p_check_hold : DefK := ⟨["ring", "value"], ["ring", "value"], [], k_check_hold⟩
def k_check_number : K := .ite (.no (.fn 1 (.cons (.varV 0) (.cons (.varV 1) (.cons (.varV 2) (.nil)))))) (.rais 3) (.skip)
def p_check_number : DefK := ⟨["value", "low", "high"], ["value", "low", "high"], [], k_check_number⟩
def k_shape_at : K := .sq (.asg (.tt 2 (.cons (.tn 3) (.cons (.tn 4) (.nil)))) (.varV 1)) (.ret (.ix (.var 0) (.bin (.mod) (.bin (.add) (.var 3) (.bin (.mul) (.var 4) (.var 2))) (.bi (.len) (.cons (.var 0) (.nil))))))
def p_shape_at : DefK := ⟨["ring", "hold", "far"], ["ring", "hold", "far", "key", "way"], [], k_shape_at⟩
def k_felt_by : K := .ret (.bi (.tup) (.cons (.lc [3] (.tn 3) (.rng1 (.cons (.var 2) (.nil))) (.yes) (.fn 6 (.cons (.varV 0) (.cons (.varV 1) (.cons (.varV 3) (.nil)))))) (.nil)))
def p_felt_by : DefK := ⟨["ring", "hold", "many"], ["ring", "hold", "many", "far"], [], k_felt_by⟩
def k_felt : K := .sq (.exp (.fn 3 (.cons (.varV 0) (.nil)))) (.sq (.exp (.fn 4 (.cons (.varV 0) (.cons (.varV 1) (.nil))))) (.sq (.exp (.fn 5 (.cons (.varV 2) (.cons (.int 0) (.cons (.int 40) (.nil)))))) (.ret (.fn 7 (.cons (.varV 0) (.cons (.varV 1) (.cons (.varV 2) (.nil))))))))
def p_felt : DefK := ⟨["ring", "hold", "many"], ["ring", "hold", "many"], [], k_felt⟩
def k_all_holds : K := .sq (.sto 1 (.lst (.nil))) (.sq (.fr (.tn 2) (.rng1 (.cons (.bi (.len) (.cons (.var 0) (.nil))) (.nil))) (.ext 1 (.lst (.cons (.tup (.cons (.varV 2) (.cons (.neg (.int 1)) (.nil)))) (.cons (.tup (.cons (.varV 2) (.cons (.int 1) (.nil)))) (.nil)))))) (.ret (.var 1)))
def p_all_holds : DefK := ⟨["ring"], ["ring", "found", "key"], [1], k_all_holds⟩
def k_holds_like : K := .sq (.exp (.fn 3 (.cons (.varV 0) (.nil)))) (.sq (.exp (.fn 4 (.cons (.varV 0) (.cons (.varV 1) (.nil))))) (.sq (.asg (.tn 2) (.fn 7 (.cons (.varV 0) (.cons (.varV 1) (.cons (.bi (.len) (.cons (.var 0) (.nil))) (.nil)))))) (.ret (.lc [3] (.tn 3) (.seq (.fn 9 (.cons (.varV 0) (.nil)))) (.cmp (.eq) (.fn 7 (.cons (.varV 0) (.cons (.varV 3) (.cons (.bi (.len) (.cons (.var 0) (.nil))) (.nil))))) (.var 2)) (.varV 3)))))
def p_holds_like : DefK := ⟨["ring", "hold"], ["ring", "hold", "told", "other"], [], k_holds_like⟩
def k__law_mix : K := .sq (.asg (.tn 2) (.varV 1)) (.sq (.fr (.tn 3) (.seq (.varV 0)) (.asg (.tn 2) (.bin (.mod) (.bi (.int) (.cons (.bin (.add) (.bin (.add) (.bin (.mul) (.var 2) (.int 48271)) (.bin (.mod) (.bi (.int) (.cons (.var 3) (.nil))) (.int 2147483629))) (.int 1)) (.nil))) (.int 2147483647)))) (.ret (.lstL (.cons (.varV 2) (.cons (.prom (.bi (.lst) (.cons (.var 0) (.nil)))) (.cons (.int 0) (.nil)))))))
def p__law_mix : DefK := ⟨["_law_script", "_law_seed"], ["_law_script", "_law_seed", "_law_state", "_law_cell"], [], k__law_mix⟩
def k__law_next : K := .sq (.asg (.tn 2) (.ix (.bin (.add) (.ix (.var 0) (.int 1)) (.lst (.cons (.int 0) (.nil)))) (.bin (.mod) (.bi (.int) (.cons (.ix (.var 0) (.int 2)) (.nil))) (.bi (.max2) (.cons (.int 1) (.cons (.bi (.len) (.cons (.ix (.var 0) (.int 1)) (.nil))) (.nil))))))) (.sq (.ite (.cmp (.ge) (.var 2) (.bin (.pow) (.int 10) (.int 18))) (.sq (.asg (.tn 3) (.ix (.var 0) (.int 1))) (.sq (.put 3 (.bin (.mod) (.bi (.int) (.cons (.ix (.var 0) (.int 2)) (.nil))) (.bi (.len) (.cons (.var 3) (.nil)))) (.bin (.div) (.var 2) (.var 1))) (.ret (.bin (.mod) (.bi (.int) (.cons (.var 2) (.nil))) (.var 1))))) (.skip)) (.sq (.put 0 (.int 0) (.bin (.mod) (.bi (.int) (.cons (.bin (.add) (.bin (.add) (.bin (.mul) (.ix (.var 0) (.int 0)) (.int 48271)) (.bin (.mul) (.var 2) (.int 69621))) (.int 11)) (.nil))) (.int 2147483647))) (.sq (.put 0 (.int 2) (.bin (.add) (.ix (.var 0) (.int 2)) (.int 1))) (.ret (.bin (.mod) (.bi (.int) (.cons (.bin (.div) (.ix (.var 0) (.int 0)) (.int 7)) (.nil))) (.var 1))))))
def p__law_next : DefK := ⟨["_law_h", "_law_bound"], ["_law_h", "_law_bound", "_law_cell", "_law_cells"], [], k__law_next⟩
def k__law_ring : K := .sq (.asg (.tt 2 (.cons (.tn 2) (.cons (.tn 3) (.nil)))) (.tup (.cons (.bin (.add) (.int 1) (.fn 12 (.cons (.varV 0) (.cons (.varV 1) (.nil))))) (.cons (.bin (.add) (.int 1) (.fn 12 (.cons (.varV 0) (.cons (.ix (.lst (.cons (.int 2) (.cons (.int 3) (.cons (.int 9) (.nil))))) (.fn 12 (.cons (.varV 0) (.cons (.int 3) (.nil))))) (.nil))))) (.nil))))) (.sq (.frz 3) (.sq (.asg (.tn 4) (.bi (.tup) (.cons (.lc [5] (.tn 5) (.rng1 (.cons (.var 2) (.nil))) (.yes) (.fn 12 (.cons (.varV 0) (.cons (.varV 3) (.nil))))) (.nil)))) (.sq (.asg (.tn 6) (.fn 12 (.cons (.varV 0) (.cons (.int 5) (.nil))))) (.sq (.ite (.cmp (.eq) (.var 6) (.int 0)) (.sq (.sto 7 (.slc (.var 4) (.nil) (.bi (.max2) (.cons (.int 1) (.cons (.bin (.div) (.var 2) (.int 2)) (.nil)))))) (.sto 4 (.bin (.add) (.var 7) (.var 7)))) (.skip)) (.sq (.ite (.cmp (.eq) (.var 6) (.int 1)) (.sq (.sto 7 (.slc (.var 4) (.nil) (.bi (.max2) (.cons (.int 1) (.cons (.bin (.div) (.var 2) (.int 2)) (.nil)))))) (.sto 4 (.bin (.add) (.var 7) (.rev (.var 7))))) (.skip)) (.ret (.slc (.var 4) (.nil) (.var 1))))))))
def p__law_ring : DefK := ⟨["_law_h", "_law_most"], ["_law_h", "_law_most", "_law_size", "_law_kinds", "_law_row", "_law_k", "_law_kind", "_law_part"], [2, 3, 4, 7], k__law_ring⟩
def k__law_holds : K := .sq (.sto 1 (.lst (.nil))) (.sq (.fr (.tn 2) (.rng1 (.cons (.bi (.len) (.cons (.var 0) (.nil))) (.nil))) (.sto 1 (.bin (.add) (.var 1) (.lst (.cons (.tup (.cons (.varV 2) (.cons (.neg (.int 1)) (.nil)))) (.cons (.tup (.cons (.varV 2) (.cons (.int 1) (.nil)))) (.nil))))))) (.ret (.var 1)))
def p__law_holds : DefK := ⟨["_law_ring_here"], ["_law_ring_here", "_law_found", "_law_key"], [1], k__law_holds⟩
def k__law_felt : K := .sq (.par2 3 4 (.ix (.var 1) (.int 0)) (.lst (.nil))) (.sq (.fr (.tn 5) (.rng1 (.cons (.var 2) (.nil))) (.sq (.app 4 (.ix (.var 0) (.var 3))) (.sq (.sto 3 (.bin (.add) (.var 3) (.ix (.var 1) (.int 1)))) (.sq (.frz 3) (.asg (.tn 3) (.ifx (.cmp (.eq) (.var 3) (.bi (.len) (.cons (.var 0) (.nil)))) (.int 0) (.ifx (.cmp (.lt) (.var 3) (.int 0)) (.bin (.sub) (.bi (.len) (.cons (.var 0) (.nil))) (.int 1)) (.varV 3)))))))) (.ret (.bi (.tup) (.cons (.var 4) (.nil)))))
def p__law_felt : DefK := ⟨["_law_ring_here", "_law_hold", "_law_many"], ["_law_ring_here", "_law_hold", "_law_many", "_law_key", "_law_found", "_law_k"], [3, 4], k__law_felt⟩
def k__law_unlike : K := .ret (.or (.cmp (.ne) (.ix (.var 0) (.int 0)) (.ix (.var 1) (.int 0))) (.and (.cmp (.eq) (.var 2) (.str "hold")) (.cmp (.ne) (.var 0) (.var 1))))
def p__law_unlike : DefK := ⟨["_law_one", "_law_other", "_law_aim"], ["_law_one", "_law_other", "_law_aim"], [], k__law_unlike⟩
def k_check_aim : K := .ite (.or (.no (.isi "str" (.var 0))) (.cmp (.notin) (.var 0) (.tup (.cons (.str "key") (.cons (.str "hold") (.nil)))))) (.rais 4) (.skip)
def p_check_aim : DefK := ⟨["value"], ["value"], [], k_check_aim⟩
def k_is_known : K := .sq (.ite (.cmp (.eq) (.var 1) (.str "hold")) (.ret (.cmp (.eq) (.bi (.len) (.cons (.var 0) (.nil))) (.int 1))) (.skip)) (.ret (.cmp (.eq) (.lset (.lc [2, 3] (.tt 2 (.cons (.tn 2) (.cons (.tn 3) (.nil)))) (.seq (.varV 0)) (.yes) (.varV 2))) (.int 1)))
def p_is_known : DefK := ⟨["holds", "aim"], ["holds", "aim", "key", "way"], [], k_is_known⟩
def b_least_by_1 : K := .sq (.asg (.tn 5) (.fn 7 (.cons (.varV 0) (.cons (.varV 4) (.cons (.varV 2) (.nil)))))) (.put 3 (.var 5) (.bin (.add) (.dget (.varV 3) (.var 5) (.lst (.nil))) (.lst (.cons (.varV 4) (.nil)))))
def t_least_by_1 : K := .no (.fn 20 (.cons (.ix (.var 3) (.var 5)) (.cons (.varV 1) (.nil))))
def b_least_by_2 : K := .sq (.asg (.tn 3) (.dnew)) (.sq (.fr (.tn 4) (.seq (.fn 9 (.cons (.varV 0) (.nil)))) (b_least_by_1)) (.ite (.no (.lk 3 (.lc [5] (.tn 5) (.dk 3) (t_least_by_1) (.varV 5)))) (.ret (.var 2)) (.skip)))
def k_least_by : K := .sq (.fr (.tn 2) (.rng1 (.cons (.bin (.add) (.bi (.len) (.cons (.var 0) (.nil))) (.int 1)) (.nil))) (b_least_by_2)) (.ret (.non))
def p_least_by : DefK := ⟨["ring", "aim"], ["ring", "aim", "many", "groups", "hold", "told"], [1003], k_least_by⟩
def b_grouped_1 : K := .put 1 (.var 2) (.bin (.add) (.dget (.varV 1) (.var 2) (.lst (.nil))) (.lst (.cons (.varV 3) (.nil))))
def e_grouped_1 : K := .tup (.cons (.varV 2) (.cons (.bi (.tup) (.cons (.bi (.sort) (.cons (.ix (.var 1) (.var 2)) (.nil))) (.nil))) (.nil)))
def k_grouped : K := .sq (.asg (.tn 1) (.dnew)) (.sq (.fr (.tt 2 (.cons (.tn 2) (.cons (.tn 3) (.nil)))) (.seq (.varV 0)) (b_grouped_1)) (.ret (.lc [2] (.tn 2) (.seq (.bi (.sort) (.cons (.dlst (.cons (.var 1) (.nil))) (.nil)))) (.yes) (e_grouped_1))))
def p_grouped : DefK := ⟨["rows"], ["rows", "found", "shape", "thing"], [1001], k_grouped⟩
def e_felt_on_1 : K := .tup (.cons (.fn 6 (.cons (.varV 0) (.cons (.varV 7) (.cons (.varV 5) (.nil))))) (.cons (.varV 7) (.nil)))
def e_felt_on_2 : K := .tup (.cons (.fn 6 (.cons (.varV 0) (.cons (.varV 7) (.cons (.neg (.var 4)) (.nil))))) (.cons (.varV 7) (.nil)))
def e_felt_on_3 : K := .tup (.cons (.varV 8) (.cons (.tup (.cons (.varV 9) (.cons (.varV 4) (.cons (.varV 5) (.nil))))) (.nil)))
def k_felt_on : K := .sq (.asg (.tt 3 (.cons (.tn 3) (.cons (.tn 4) (.cons (.tn 5) (.nil))))) (.varV 1)) (.sq (.ite (.cmp (.eq) (.bin (.add) (.bin (.add) (.var 4) (.var 5)) (.int 1)) (.bi (.len) (.cons (.var 0) (.nil)))) (.ret (.non)) (.skip)) (.sq (.ite (.cmp (.eq) (.var 2) (.str "right")) (.sq (.aug 5 (.add) (.int 1)) (.sto 6 (.lc [7] (.tn 7) (.seq (.varV 3)) (.yes) (e_felt_on_1)))) (.sq (.aug 4 (.add) (.int 1)) (.sto 6 (.lc [7] (.tn 7) (.seq (.varV 3)) (.yes) (e_felt_on_2))))) (.sq (.frz 6) (.ret (.lc [8, 9] (.tt 2 (.cons (.tn 8) (.cons (.tn 9) (.nil)))) (.seq (.fn 27 (.cons (.varV 6) (.nil)))) (.yes) (e_felt_on_3))))))
def p_felt_on : DefK := ⟨["ring", "state", "side"], ["ring", "state", "side", "holds", "left", "right", "rows", "hold", "shape", "group"], [6], k_felt_on⟩
def e_moved_on_1 : K := .tup (.cons (.bin (.mod) (.bin (.add) (.var 8) (.bin (.mul) (.var 9) (.var 6))) (.bi (.len) (.cons (.var 0) (.nil)))) (.cons (.varV 9) (.nil)))
def e_moved_on_2 : K := .tup (.cons (.fn 6 (.cons (.varV 0) (.cons (.varV 11) (.cons (.int 0) (.nil))))) (.cons (.varV 11) (.nil)))
def e_moved_on_3 : K := .tup (.cons (.varV 12) (.cons (.tup (.cons (.varV 13) (.cons (.int 0) (.cons (.int 0) (.nil))))) (.nil)))
def k_moved_on : K := .sq (.asg (.tt 3 (.cons (.tn 3) (.cons (.tn 4) (.cons (.tn 5) (.nil))))) (.varV 1)) (.sq (.asg (.tn 6) (.int 1)) (.sq (.ite (.cmp (.eq) (.var 2) (.str "left")) (.asg (.tn 6) (.neg (.int 1))) (.skip)) (.sq (.sto 7 (.lc [8, 9] (.tt 2 (.cons (.tn 8) (.cons (.tn 9) (.nil)))) (.seq (.varV 3)) (.yes) (e_moved_on_1))) (.sq (.frz 7) (.sq (.sto 10 (.lc [11] (.tn 11) (.seq (.varV 7)) (.yes) (e_moved_on_2))) (.sq (.frz 10) (.ret (.lc [12, 13] (.tt 2 (.cons (.tn 12) (.cons (.tn 13) (.nil)))) (.seq (.fn 27 (.cons (.varV 10) (.nil)))) (.yes) (e_moved_on_3)))))))))
def p_moved_on : DefK := ⟨["ring", "state", "side"], ["ring", "state", "side", "holds", "left", "right", "step", "moved", "key", "way", "rows", "hold", "shape", "group"], [7, 10], k_moved_on⟩
def e_first_states_1 : K := .tup (.cons (.fn 6 (.cons (.varV 0) (.cons (.varV 2) (.cons (.int 0) (.nil))))) (.cons (.varV 2) (.nil)))
def e_first_states_2 : K := .tup (.cons (.varV 3) (.cons (.tup (.cons (.varV 4) (.cons (.int 0) (.cons (.int 0) (.nil))))) (.nil)))
def k_first_states : K := .sq (.sto 1 (.lc [2] (.tn 2) (.seq (.fn 9 (.cons (.varV 0) (.nil)))) (.yes) (e_first_states_1))) (.sq (.frz 1) (.ret (.lc [3, 4] (.tt 2 (.cons (.tn 3) (.cons (.tn 4) (.nil)))) (.seq (.fn 27 (.cons (.varV 1) (.nil)))) (.yes) (e_first_states_2))))
def p_first_states : DefK := ⟨["ring"], ["ring", "rows", "hold", "shape", "group"], [1], k_first_states⟩
def k_Search___init__ : K := .sq (.fset 0 0 4 (.var 0) (.varV 1)) (.sq (.fset 0 1 4 (.var 0) (.varV 2)) (.sq (.fset 0 2 4 (.var 0) (.varV 3)) (.fset 0 3 4 (.var 0) (.dnew))))
def p_Search___init__ : DefK := ⟨["self", "ring", "aim", "wanted"], ["self", "ring", "aim", "wanted"], [3000], k_Search___init__⟩
def t_Search_is_done_1 : K := .cmp (.ne) (.var 2) (.fld 0 2 (.var 0))
def k_Search_is_done : K := .sq (.ite (.cmp (.isN) (.fld 0 2 (.var 0)) (.non)) (.ret (.fn 20 (.cons (.ix (.var 1) (.int 0)) (.cons (.fld 0 1 (.var 0)) (.nil))))) (.skip)) (.ret (.no (.lc [2, 3] (.tt 2 (.cons (.tn 2) (.cons (.tn 3) (.nil)))) (.seq (.ix (.var 1) (.int 0))) (t_Search_is_done_1) (.varV 2))))
def p_Search_is_done : DefK := ⟨["self", "state"], ["self", "state", "key", "way"], [3000], k_Search_is_done⟩
def k_Search_on : K := .sq (.ite (.cmp (.isN) (.fld 0 2 (.var 0)) (.non)) (.ret (.fn 28 (.cons (.fld 0 0 (.var 0)) (.cons (.varV 1) (.cons (.varV 2) (.nil)))))) (.skip)) (.ret (.fn 29 (.cons (.fld 0 0 (.var 0)) (.cons (.varV 1) (.cons (.varV 2) (.nil))))))
def p_Search_on : DefK := ⟨["self", "state", "side"], ["self", "state", "side"], [3000], k_Search_on⟩
def k_Search_depth : K := .sq (.ite (.no (.isi "tuple" (.var 2))) (.ret (.non)) (.skip)) (.sq (.ite (.cmp (.eq) (.var 2) (.tup (.nil))) (.sq (.ite (.meth 0 32 (.var 0) (.cons (.varV 1) (.nil))) (.ret (.int 0)) (.skip)) (.ret (.non))) (.skip)) (.sq (.ite (.or (.cmp (.ne) (.bi (.len) (.cons (.var 2) (.nil))) (.int 2)) (.or (.no (.isi "str" (.ix (.var 2) (.int 0)))) (.cmp (.notin) (.ix (.var 2) (.int 0)) (.cst [.str "right", .str "left"])))) (.ret (.non)) (.skip)) (.sq (.asg (.tn 3) (.meth 0 33 (.var 0) (.cons (.varV 1) (.cons (.ix (.var 2) (.int 0)) (.nil))))) (.sq (.ite (.cmp (.isN) (.var 3) (.non)) (.ret (.non)) (.skip)) (.sq (.asg (.tn 4) (.meth 0 39 (.var 0) (.cons (.varV 3) (.cons (.ix (.var 2) (.int 1)) (.nil))))) (.sq (.ite (.cmp (.isN) (.var 4) (.non)) (.ret (.non)) (.skip)) (.ret (.bin (.add) (.var 4) (.int 1)))))))))
def p_Search_depth : DefK := ⟨["self", "state", "value"], ["self", "state", "value", "later", "found"], [3000], k_Search_depth⟩
def b_Search_branches_depth_1 : K := .sq (.ite (.or (.no (.isi "tuple" (.var 4))) (.or (.cmp (.ne) (.bi (.len) (.cons (.var 4) (.nil))) (.int 2)) (.no (.fn 1 (.cons (.ix (.var 4) (.int 0)) (.cons (.ix (.var 5) (.int 0)) (.cons (.ix (.var 5) (.int 0)) (.nil)))))))) (.ret (.non)) (.skip)) (.sq (.asg (.tn 6) (.meth 0 38 (.var 0) (.cons (.ix (.var 5) (.int 1)) (.cons (.ix (.var 4) (.int 1)) (.nil))))) (.sq (.ite (.cmp (.isN) (.var 6) (.non)) (.ret (.non)) (.skip)) (.asg (.tn 3) (.bi (.max2) (.cons (.var 3) (.cons (.var 6) (.nil)))))))
def k_Search_branches_depth : K := .sq (.ite (.or (.no (.isi "tuple" (.var 2))) (.cmp (.ne) (.bi (.len) (.cons (.var 2) (.nil))) (.bi (.len) (.cons (.var 1) (.nil))))) (.ret (.non)) (.skip)) (.sq (.asg (.tn 3) (.int 0)) (.sq (.fr (.tt 2 (.cons (.tn 4) (.cons (.tn 5) (.nil)))) (.zip (.cons (.varV 2) (.cons (.varV 1) (.nil)))) (b_Search_branches_depth_1)) (.ret (.var 3))))
def p_Search_branches_depth : DefK := ⟨["self", "later", "value"], ["self", "later", "value", "found", "thing", "branch", "own"], [3000], k_Search_branches_depth⟩
def k_check_question : K := .sq (.exp (.fn 3 (.cons (.varV 0) (.nil)))) (.exp (.fn 19 (.cons (.varV 1) (.nil))))
def p_check_question : DefK := ⟨["ring", "aim"], ["ring", "aim"], [], k_check_question⟩
def k_depth_of : K := .sq (.exp (.fn 42 (.cons (.varV 0) (.cons (.varV 1) (.nil))))) (.ret (.meth 0 39 (.new 0 31 (.cons (.varV 0) (.cons (.varV 1) (.cons (.non) (.nil))))) (.cons (.fn 30 (.cons (.varV 0) (.nil))) (.cons (.varV 2) (.nil)))))
def p_depth_of : DefK := ⟨["ring", "aim", "value"], ["ring", "aim", "value"], [], k_depth_of⟩
def e_least_of_v2_1 : K := .fn 7 (.cons (.varV 0) (.cons (.varV 1) (.cons (.bi (.len) (.cons (.var 0) (.nil))) (.nil))))
def k_least_of_v2 : K := .ret (.bi (.min1) (.cons (.lc [1] (.tn 1) (.seq (.fn 9 (.cons (.varV 0) (.nil)))) (.yes) (e_least_of_v2_1)) (.nil)))
def p_least_of_v2 : DefK := ⟨["ring"], ["ring", "hold"], [], k_least_of_v2⟩
def k_check_counts : K := .ite (.or (.no (.fn 2 (.cons (.varV 0) (.cons (.int 1) (.cons (.int 9) (.cons (.int 40) (.nil))))))) (.no (.chn (.le) (.le) (.int 1) (.bi (.sum) (.cons (.var 0) (.nil))) (.int 40)))) (.rais 6) (.skip)
def p_check_counts : DefK := ⟨["value"], ["value"], [], k_check_counts⟩
def b_all_rows_1 : K := .ite (.cmp (.gt) (.var 7) (.int 0)) (.app 3 (.tup (.cons (.bin (.add) (.var 4) (.tup (.cons (.varV 6) (.nil)))) (.cons (.bin (.add) (.bin (.add) (.slc (.var 5) (.nil) (.var 6)) (.tup (.cons (.bin (.sub) (.var 7) (.int 1)) (.nil)))) (.slc (.var 5) (.bin (.add) (.var 6) (.int 1)) (.nil))) (.nil))))) (.skip)
def b_all_rows_2 : K := .fr (.tt 2 (.cons (.tn 6) (.cons (.tn 7) (.nil)))) (.enu (.cons (.varV 5) (.nil))) (b_all_rows_1)
def b_all_rows_3 : K := .sq (.sto 3 (.lst (.nil))) (.sq (.frz 1) (.sq (.fr (.tt 2 (.cons (.tn 4) (.cons (.tn 5) (.nil)))) (.seq (.varV 1)) (b_all_rows_2)) (.sq (.frz 3) (.asg (.tn 1) (.varV 3)))))
def k_all_rows : K := .sq (.sto 1 (.lst (.cons (.tup (.cons (.tup (.nil)) (.cons (.varV 0) (.nil)))) (.nil)))) (.sq (.fr (.tn 2) (.rng1 (.cons (.bi (.sum) (.cons (.var 0) (.nil))) (.nil))) (b_all_rows_3)) (.sq (.frz 1) (.ret (.lc [4, 5] (.tt 2 (.cons (.tn 4) (.cons (.tn 5) (.nil)))) (.seq (.varV 1)) (.yes) (.varV 4)))))
def p_all_rows : DefK := ⟨["counts"], ["counts", "found", "turn", "longer", "row", "left", "shape", "count"], [1, 3], k_all_rows⟩
def e_all_rings_1 : K := .fn 71 (.cons (.varV 1) (.nil))
def k_all_rings : K := .sq (.exp (.fn 74 (.cons (.varV 0) (.nil)))) (.sq (.ite (.cmp (.gt) (.bi (.sum) (.cons (.var 0) (.nil))) (.int 8)) (.rais 7) (.skip)) (.ret (.sset (.lc [1] (.tn 1) (.seq (.fn 81 (.cons (.varV 0) (.nil)))) (.yes) (e_all_rings_1)))))
def p_all_rings : DefK := ⟨["counts"], ["counts", "row"], [], k_all_rings⟩
def b_check_pieces_1 : K := .ite (.no (.fn 2 (.cons (.varV 2) (.cons (.int 0) (.cons (.int 12) (.cons (.bin (.sub) (.var 1) (.int 1)) (.nil))))))) (.rais 9) (.skip)
def k_check_pieces : K := .sq (.ite (.or (.no (.isi "tuple" (.var 0))) (.cmp (.gt) (.bi (.len) (.cons (.var 0) (.nil))) (.int 8))) (.rais 9) (.skip)) (.fr (.tn 2) (.seq (.varV 0)) (b_check_pieces_1))
def p_check_pieces : DefK := ⟨["value", "shapes"], ["value", "shapes", "piece"], [], k_check_pieces⟩
def e_has_piece_1 : K := .fn 7 (.cons (.varV 0) (.cons (.varV 2) (.cons (.bi (.len) (.cons (.var 1) (.nil))) (.nil))))
def k_has_piece : K := .ret (.cmp (.isin) (.var 1) (.lc [2] (.tn 2) (.seq (.fn 9 (.cons (.varV 0) (.nil)))) (.yes) (e_has_piece_1)))
def p_has_piece : DefK := ⟨["ring", "piece"], ["ring", "piece", "hold"], [], k_has_piece⟩
def i_rings_with_1 : K := .rng1 (.cons (.var 1) (.nil))
def e_rings_with_1 : K := .bin (.add) (.var 5) (.tup (.cons (.varV 6) (.nil)))
def b_rings_with_1 : K := .sq (.frz 3) (.sto 3 (.lc2 [5, 6] [6] (.tn 5) (.seq (.varV 3)) (.tn 6) (i_rings_with_1) (.yes) (e_rings_with_1)))
def t_rings_with_1 : K := .no (.fn 94 (.cons (.varV 5) (.cons (.varV 8) (.nil))))
def b_rings_with_2 : K := .ite (.and (.cmp (.eq) (.fn 71 (.cons (.varV 5) (.nil))) (.var 5)) (.no (.lc [8] (.tn 8) (.seq (.varV 2)) (t_rings_with_1) (.varV 8)))) (.app 7 (.varV 5)) (.skip)
def k_rings_with : K := .sq (.exp (.fn 5 (.cons (.varV 0) (.cons (.int 1) (.cons (.int 6) (.nil)))))) (.sq (.exp (.fn 5 (.cons (.varV 1) (.cons (.int 1) (.cons (.int 3) (.nil)))))) (.sq (.exp (.fn 93 (.cons (.varV 2) (.cons (.varV 1) (.nil))))) (.sq (.sto 3 (.lst (.cons (.tup (.nil)) (.nil)))) (.sq (.fr (.tn 4) (.rng1 (.cons (.var 0) (.nil))) (b_rings_with_1)) (.sq (.sto 7 (.lst (.nil))) (.sq (.frz 3) (.sq (.fr (.tn 5) (.seq (.varV 3)) (b_rings_with_2)) (.ret (.var 7)))))))))
def p_rings_with : DefK := ⟨["keys", "shapes", "pieces"], ["keys", "shapes", "pieces", "rows", "turn", "row", "shape", "found", "piece"], [3, 7], k_rings_with⟩
def k_places_apart : K := .ret (.bi (.len) (.cons (.lc [2, 3] (.tt 2 (.cons (.tn 2) (.cons (.tn 3) (.nil)))) (.enu (.cons (.varV 0) (.nil))) (.cmp (.ne) (.var 3) (.ix (.var 1) (.var 2))) (.varV 2)) (.nil)))
def p_places_apart : DefK := ⟨["one", "other"], ["one", "other", "place", "shape"], [], k_places_apart⟩
def k_holds_if_wrong : K := .sq (.exp (.fn 3 (.cons (.varV 0) (.nil)))) (.sq (.ite (.no (.fn 2 (.cons (.varV 1) (.cons (.int 0) (.cons (.int 40) (.cons (.int 8) (.nil))))))) (.rais 8) (.skip)) (.sq (.exp (.fn 5 (.cons (.varV 2) (.cons (.int 0) (.cons (.int 10) (.nil)))))) (.ret (.lc [3] (.tn 3) (.seq (.fn 9 (.cons (.varV 0) (.nil)))) (.cmp (.le) (.fn 167 (.cons (.varV 1) (.cons (.fn 7 (.cons (.varV 0) (.cons (.varV 3) (.cons (.bi (.len) (.cons (.var 1) (.nil))) (.nil))))) (.nil)))) (.var 2)) (.varV 3)))))
def p_holds_if_wrong : DefK := ⟨["ring", "row", "wrong"], ["ring", "row", "wrong", "hold"], [], k_holds_if_wrong⟩
def k_keys_for : K := .sq (.asg (.tn 4) (.int 0)) (.sq (.asg (.tn 5) (.int 0)) (.sq (.whl (.cmp (.lt) (.var 5) (.var 3)) (.sq (.aug 5 (.add) (.bi (.int) (.cons (.cmp (.ne) (.fn 6 (.cons (.varV 0) (.cons (.varV 1) (.cons (.varV 4) (.nil))))) (.fn 6 (.cons (.varV 0) (.cons (.varV 2) (.cons (.varV 4) (.nil)))))) (.nil)))) (.aug 4 (.add) (.int 1)))) (.ret (.var 4))))
def p_keys_for : DefK := ⟨["ring", "one", "other", "wanted"], ["ring", "one", "other", "wanted", "many", "found"], [], k_keys_for⟩
def k_least_if_wrong : K := .sq (.exp (.fn 3 (.cons (.varV 0) (.nil)))) (.sq (.exp (.fn 19 (.cons (.varV 1) (.nil)))) (.sq (.exp (.fn 5 (.cons (.varV 2) (.cons (.int 0) (.cons (.int 10) (.nil)))))) (.sq (.asg (.tn 3) (.fn 9 (.cons (.varV 0) (.nil)))) (.sq (.asg (.tn 4) (.int 0)) (.sq (.fr (.tt 2 (.cons (.tn 5) (.cons (.tn 6) (.nil)))) (.enu (.cons (.varV 3) (.nil))) (.fr (.tn 7) (.seq (.slc (.var 3) (.bin (.add) (.var 5) (.int 1)) (.nil))) (.ite (.no (.fn 20 (.cons (.lst (.cons (.varV 6) (.cons (.varV 7) (.nil)))) (.cons (.varV 1) (.nil))))) (.sq (.ite (.cmp (.eq) (.fn 7 (.cons (.varV 0) (.cons (.varV 6) (.cons (.bi (.len) (.cons (.var 0) (.nil))) (.nil))))) (.fn 7 (.cons (.varV 0) (.cons (.varV 7) (.cons (.bi (.len) (.cons (.var 0) (.nil))) (.nil)))))) (.ret (.non)) (.skip)) (.asg (.tn 4) (.bi (.max2) (.cons (.var 4) (.cons (.fn 169 (.cons (.varV 0) (.cons (.varV 6) (.cons (.varV 7) (.cons (.bin (.add) (.bin (.mul) (.int 2) (.var 2)) (.int 1)) (.nil)))))) (.nil)))))) (.skip)))) (.ret (.var 4)))))))
def p_least_if_wrong : DefK := ⟨["ring", "aim", "wrong"], ["ring", "aim", "wrong", "holds", "found", "place", "one", "other"], [], k_least_if_wrong⟩
def k_BadRings___init__ : K := .never
def p_BadRings___init__ : DefK := ⟨["self", "index"], ["self", "index"], [], k_BadRings___init__⟩
def b_check_rings_1 : K := .ite (.no (.fn 2 (.cons (.varV 2) (.cons (.int 1) (.cons (.int 9) (.cons (.int 8) (.nil))))))) (.raisF 13 (.varV 1)) (.skip)
def k_check_rings : K := .sq (.ite (.or (.no (.isi "tuple" (.var 0))) (.no (.chn (.le) (.le) (.int 1) (.bi (.len) (.cons (.var 0) (.nil))) (.int 6)))) (.raisF 13 (.non)) (.skip)) (.fr (.tt 2 (.cons (.tn 1) (.cons (.tn 2) (.nil)))) (.enu (.cons (.varV 0) (.nil))) (b_check_rings_1))
def p_check_rings : DefK := ⟨["value"], ["value", "index", "ring"], [], k_check_rings⟩
def b_least_which_1 : K := .sq (.ite (.cmp (.ne) (.dget (.varV 2) (.fn 7 (.cons (.varV 5) (.cons (.varV 6) (.cons (.varV 1) (.nil))))) (.varV 4)) (.var 4)) (.asg (.tn 3) (.bl false)) (.skip)) (.put 2 (.fn 7 (.cons (.varV 5) (.cons (.varV 6) (.cons (.varV 1) (.nil))))) (.varV 4))
def b_least_which_2 : K := .fr (.tn 6) (.seq (.fn 9 (.cons (.varV 5) (.nil)))) (b_least_which_1)
def b_least_which_3 : K := .sq (.asg (.tn 2) (.dnew)) (.sq (.asg (.tn 3) (.bl true)) (.sq (.fr (.tt 2 (.cons (.tn 4) (.cons (.tn 5) (.nil)))) (.enu (.cons (.varV 0) (.nil))) (b_least_which_2)) (.ite (.var 3) (.ret (.var 1)) (.skip))))
def k_least_which : K := .sq (.exp (.fn 175 (.cons (.varV 0) (.nil)))) (.sq (.fr (.tn 1) (.rng1 (.cons (.bin (.add) (.bin (.mul) (.int 2) (.int 9)) (.int 1)) (.nil))) (b_least_which_3)) (.ret (.non)))
def p_least_which : DefK := ⟨["rings"], ["rings", "many", "owners", "fine", "index", "ring", "hold"], [1002], k_least_which⟩
def b_alike_in_1 : K := .ite (.cmp (.eq) (.fn 7 (.cons (.ix (.var 0) (.var 6)) (.cons (.varV 7) (.cons (.varV 1) (.nil))))) (.var 5)) (.ret (.tup (.cons (.varV 2) (.cons (.varV 4) (.cons (.varV 6) (.cons (.varV 7) (.nil))))))) (.skip)
def b_alike_in_2 : K := .fr (.tn 7) (.seq (.fn 9 (.cons (.ix (.var 0) (.var 6)) (.nil)))) (b_alike_in_1)
def b_alike_in_3 : K := .sq (.asg (.tn 5) (.fn 7 (.cons (.varV 3) (.cons (.varV 4) (.cons (.varV 1) (.nil)))))) (.fr (.tn 6) (.rng2 (.cons (.bin (.add) (.var 2) (.int 1)) (.cons (.bi (.len) (.cons (.var 0) (.nil))) (.nil)))) (b_alike_in_2))
def b_alike_in_4 : K := .fr (.tn 4) (.seq (.fn 9 (.cons (.varV 3) (.nil)))) (b_alike_in_3)
def k_alike_in : K := .sq (.exp (.fn 175 (.cons (.varV 0) (.nil)))) (.sq (.asg (.tn 1) (.bin (.mul) (.int 2) (.int 9))) (.sq (.fr (.tt 2 (.cons (.tn 2) (.cons (.tn 3) (.nil)))) (.enu (.cons (.varV 0) (.nil))) (b_alike_in_4)) (.ret (.non))))
def p_alike_in : DefK := ⟨["rings"], ["rings", "many", "index", "ring", "hold", "told", "place", "other"], [], k_alike_in⟩
def b_best_of_1 : K := .sq (.asg (.tn 6) (.fn 181 (.cons (.varV 0) (.cons (.varV 1) (.cons (.fn 28 (.cons (.varV 0) (.cons (.varV 2) (.cons (.varV 5) (.nil))))) (.cons (.varV 3) (.nil))))))) (.ite (.and (.cmp (.notN) (.var 6) (.non)) (.or (.cmp (.isN) (.var 4) (.non)) (.cmp (.lt) (.bin (.add) (.var 6) (.bi (.len) (.cons (.ix (.var 2) (.int 0)) (.nil)))) (.ix (.var 4) (.int 0))))) (.asg (.tn 4) (.tup (.cons (.bin (.add) (.var 6) (.bi (.len) (.cons (.ix (.var 2) (.int 0)) (.nil)))) (.cons (.varV 5) (.nil))))) (.skip))
def k_best_of : K := .sq (.ite (.cmp (.notin) (.var 2) (.var 3)) (.sq (.asg (.tn 4) (.non)) (.sq (.ite (.fn 20 (.cons (.ix (.var 2) (.int 0)) (.cons (.varV 1) (.nil)))) (.asg (.tn 4) (.tup (.cons (.int 0) (.cons (.non) (.nil))))) (.fr (.tn 5) (.seq (.cst [.str "right", .str "left"])) (b_best_of_1))) (.put 3 (.var 2) (.varV 4)))) (.skip)) (.ret (.ix (.var 3) (.var 2)))
def p_best_of : DefK := ⟨["ring", "aim", "state", "known"], ["ring", "aim", "state", "known", "best", "side", "own"], [], k_best_of⟩
def b_total_on_1 : K := .sq (.asg (.tn 7) (.fn 180 (.cons (.varV 0) (.cons (.varV 1) (.cons (.varV 6) (.cons (.varV 3) (.nil))))))) (.sq (.ite (.cmp (.isN) (.var 7) (.non)) (.ret (.non)) (.skip)) (.aug 4 (.add) (.ix (.var 7) (.int 0))))
def k_total_on : K := .sq (.ite (.cmp (.isN) (.var 2) (.non)) (.ret (.non)) (.skip)) (.sq (.asg (.tn 4) (.int 0)) (.sq (.fr (.tt 2 (.cons (.tn 5) (.cons (.tn 6) (.nil)))) (.seq (.varV 2)) (b_total_on_1)) (.ret (.var 4))))
def p_total_on : DefK := ⟨["ring", "aim", "later", "known"], ["ring", "aim", "later", "known", "whole", "shape", "state", "best"], [], k_total_on⟩
def k_least_total : K := .sq (.exp (.fn 42 (.cons (.varV 0) (.cons (.varV 1) (.nil))))) (.ret (.fn 181 (.cons (.varV 0) (.cons (.varV 1) (.cons (.fn 30 (.cons (.varV 0) (.nil))) (.cons (.dnew) (.nil)))))))
def p_least_total : DefK := ⟨["ring", "aim"], ["ring", "aim"], [], k_least_total⟩
def e_tree_by_1 : K := .tup (.cons (.varV 4) (.cons (.fn 183 (.cons (.varV 0) (.cons (.varV 5) (.cons (.varV 2) (.nil))))) (.nil)))
def k_tree_by : K := .sq (.asg (.tn 3) (.ix (.ix (.var 2) (.var 1)) (.int 1))) (.sq (.ite (.cmp (.isN) (.var 3) (.non)) (.ret (.tup (.nil))) (.skip)) (.ret (.tup (.cons (.varV 3) (.cons (.bi (.tup) (.cons (.lc [4, 5] (.tt 2 (.cons (.tn 4) (.cons (.tn 5) (.nil)))) (.seq (.fn 28 (.cons (.varV 0) (.cons (.varV 1) (.cons (.varV 3) (.nil)))))) (.yes) (e_tree_by_1)) (.nil))) (.nil))))))
def p_tree_by : DefK := ⟨["ring", "state", "known"], ["ring", "state", "known", "side", "shape", "new"], [], k_tree_by⟩
def e_mean_plan_1 : K := .tup (.cons (.varV 3) (.cons (.fn 183 (.cons (.varV 0) (.cons (.varV 4) (.cons (.varV 2) (.nil))))) (.nil)))
def k_mean_plan : K := .sq (.exp (.fn 42 (.cons (.varV 0) (.cons (.varV 1) (.nil))))) (.sq (.asg (.tn 2) (.dnew)) (.sq (.ite (.cmp (.isN) (.fn 181 (.cons (.varV 0) (.cons (.varV 1) (.cons (.fn 30 (.cons (.varV 0) (.nil))) (.cons (.varV 2) (.nil)))))) (.non)) (.ret (.non)) (.skip)) (.ret (.bi (.tup) (.cons (.lc [3, 4] (.tt 2 (.cons (.tn 3) (.cons (.tn 4) (.nil)))) (.seq (.fn 30 (.cons (.varV 0) (.nil)))) (.yes) (e_mean_plan_1)) (.nil))))))
def p_mean_plan : DefK := ⟨["ring", "aim"], ["ring", "aim", "known", "shape", "state"], [1002], k_mean_plan⟩
def b_count_in_1 : K := .aug 3 (.add) (.fn 185 (.cons (.varV 0) (.cons (.ix (.var 5) (.int 1)) (.cons (.ix (.var 4) (.int 1)) (.nil)))))
def k_count_in : K := .sq (.ite (.cmp (.eq) (.var 2) (.tup (.nil))) (.ret (.int 0)) (.skip)) (.sq (.asg (.tn 3) (.bi (.len) (.cons (.ix (.var 1) (.int 0)) (.nil)))) (.sq (.fr (.tt 2 (.cons (.tn 4) (.cons (.tn 5) (.nil)))) (.zip (.cons (.ix (.var 2) (.int 1)) (.cons (.fn 28 (.cons (.varV 0) (.cons (.varV 1) (.cons (.ix (.var 2) (.int 0)) (.nil))))) (.nil)))) (b_count_in_1)) (.ret (.var 3))))
def p_count_in : DefK := ⟨["ring", "state", "value"], ["ring", "state", "value", "found", "branch", "later"], [], k_count_in⟩
def e_total_of_1 : K := .fn 185 (.cons (.varV 0) (.cons (.varV 5) (.cons (.ix (.var 3) (.int 1)) (.nil))))
def k_total_of : K := .sq (.ite (.cmp (.isN) (.fn 43 (.cons (.varV 0) (.cons (.varV 1) (.cons (.varV 2) (.nil))))) (.non)) (.ret (.non)) (.skip)) (.ret (.bi (.sum) (.cons (.lc [3, 4, 5] (.tt 2 (.cons (.tn 3) (.cons (.tt 2 (.cons (.tn 4) (.cons (.tn 5) (.nil)))) (.nil)))) (.zip (.cons (.varV 2) (.cons (.fn 30 (.cons (.varV 0) (.nil))) (.nil)))) (.yes) (e_total_of_1)) (.nil))))
def p_total_of : DefK := ⟨["ring", "aim", "value"], ["ring", "aim", "value", "branch", "shape", "state"], [], k_total_of⟩
def e_best_rings_1 : K := .tup (.cons (.fn 21 (.cons (.varV 4) (.cons (.varV 1) (.nil)))) (.cons (.varV 4) (.nil)))
def t_best_rings_1 : K := .cmp (.notN) (.var 5) (.non)
def e_best_rings_2 : K := .tup (.cons (.varV 5) (.cons (.varV 4) (.nil)))
def t_best_rings_2 : K := .cmp (.eq) (.var 5) (.var 6)
def k_best_rings : K := .sq (.asg (.tn 2) (.fn 82 (.cons (.varV 0) (.nil)))) (.sq (.exp (.fn 19 (.cons (.varV 1) (.nil)))) (.sq (.sto 3 (.lc [4] (.tn 4) (.seq (.varV 2)) (.yes) (e_best_rings_1))) (.sq (.frz 3) (.sq (.sto 3 (.lc [5, 4] (.tt 2 (.cons (.tn 5) (.cons (.tn 4) (.nil)))) (.seq (.varV 3)) (t_best_rings_1) (e_best_rings_2))) (.sq (.ite (.no (.var 3)) (.ret (.non)) (.skip)) (.sq (.asg (.tn 6) (.ix (.bi (.min1) (.cons (.var 3) (.nil))) (.int 0))) (.sq (.frz 3) (.ret (.tup (.cons (.varV 6) (.cons (.lc [5, 4] (.tt 2 (.cons (.tn 5) (.cons (.tn 4) (.nil)))) (.seq (.varV 3)) (t_best_rings_2) (.varV 4)) (.nil))))))))))))
def p_best_rings : DefK := ⟨["counts", "aim"], ["counts", "aim", "every", "told", "ring", "many", "least"], [3], k_best_rings⟩
def b_told_rings_1 : K := .sq (.asg (.tn 6) (.fn 21 (.cons (.varV 5) (.cons (.varV 3) (.nil))))) (.ite (.and (.cmp (.notN) (.var 6) (.non)) (.cmp (.le) (.var 6) (.var 2))) (.app 4 (.varV 5)) (.skip))
def k_told_rings : K := .sq (.exp (.fn 5 (.cons (.varV 0) (.cons (.int 1) (.cons (.int 6) (.nil)))))) (.sq (.exp (.fn 5 (.cons (.varV 1) (.cons (.int 1) (.cons (.int 3) (.nil)))))) (.sq (.exp (.fn 5 (.cons (.varV 2) (.cons (.int 0) (.cons (.int 20) (.nil)))))) (.sq (.exp (.fn 19 (.cons (.varV 3) (.nil)))) (.sq (.sto 4 (.lst (.nil))) (.sq (.fr (.tn 5) (.seq (.fn 95 (.cons (.varV 0) (.cons (.varV 1) (.cons (.tup (.nil)) (.nil)))))) (b_told_rings_1)) (.ret (.var 4)))))))
def p_told_rings : DefK := ⟨["keys", "shapes", "many", "aim"], ["keys", "shapes", "many", "aim", "found", "ring", "least"], [4], k_told_rings⟩
def k__law_ask_v2 : K := .sq (.ite (.cmp (.eq) (.var 0) (.int 0)) (.ret (.fn 168 (.cons (.ix (.var 1) (.int 0)) (.cons (.ix (.var 1) (.int 1)) (.cons (.ix (.var 1) (.int 2)) (.nil)))))) (.skip)) (.sq (.ite (.cmp (.eq) (.var 0) (.int 1)) (.ret (.fn 170 (.cons (.ix (.var 1) (.int 0)) (.cons (.ix (.var 1) (.int 1)) (.cons (.ix (.var 1) (.int 2)) (.nil)))))) (.skip)) (.sq (.ite (.cmp (.eq) (.var 0) (.int 2)) (.ret (.sel [176, 177] (.bin (.mod) (.var 2) (.int 2)) (.cons (.ix (.var 1) (.int 0)) (.nil)))) (.skip)) (.sq (.ite (.cmp (.eq) (.var 0) (.int 3)) (.ret (.ifx (.cmp (.eq) (.bin (.mod) (.var 2) (.int 3)) (.int 2)) (.fn 186 (.cons (.ix (.var 1) (.int 0)) (.cons (.ix (.var 1) (.int 1)) (.cons (.int 3) (.nil))))) (.sel [182, 184] (.bin (.mod) (.var 2) (.int 3)) (.cons (.ix (.var 1) (.int 0)) (.cons (.ix (.var 1) (.int 1)) (.nil)))))) (.skip)) (.sq (.ite (.cmp (.eq) (.var 0) (.int 4)) (.ret (.fn 191 (.cons (.ix (.var 1) (.int 0)) (.cons (.ix (.var 1) (.int 1)) (.nil))))) (.skip)) (.ret (.fn 192 (.cons (.ix (.var 1) (.int 0)) (.cons (.ix (.var 1) (.int 1)) (.cons (.ix (.var 1) (.int 2)) (.cons (.ix (.var 1) (.int 3)) (.nil)))))))))))
def p__law_ask_v2 : DefK := ⟨["_law_kind", "_law_t", "_law_turn"], ["_law_kind", "_law_t", "_law_turn"], [], k__law_ask_v2⟩
def k__law_told_v4 : K := .sq (.tryA [4, 6, 3, 9, 1, 13, 8, 0, 7] 3 0 (.exp (.fn 198 (.cons (.varV 0) (.cons (.varV 1) (.cons (.varV 2) (.nil)))))) (.sq (.sto 4 (.ifx (.xis [4, 6, 3, 9, 1, 13, 8, 0, 7] 3 1) (.lst (.cons (.str "ring") (.nil))) (.lst (.nil)))) (.sq (.sto 4 (.bin (.add) (.var 4) (.ifx (.xis [4, 6, 3, 9, 1, 13, 8, 0, 7] 3 8) (.lst (.cons (.str "row") (.nil))) (.lst (.nil))))) (.sq (.sto 4 (.bin (.add) (.var 4) (.ifx (.xis [4, 6, 3, 9, 1, 13, 8, 0, 7] 3 3) (.lst (.cons (.str "number") (.nil))) (.lst (.nil))))) (.sq (.sto 4 (.bin (.add) (.var 4) (.ifx (.xis [4, 6, 3, 9, 1, 13, 8, 0, 7] 3 4) (.lst (.cons (.str "aim") (.nil))) (.lst (.nil))))) (.sq (.sto 4 (.bin (.add) (.var 4) (.ifx (.xis [4, 6, 3, 9, 1, 13, 8, 0, 7] 3 6) (.lst (.cons (.str "counts") (.nil))) (.lst (.nil))))) (.sq (.ite (.xis [4, 6, 3, 9, 1, 13, 8, 0, 7] 3 13) (.app 4 (.ifx (.cmp (.isin) (.xfld [13] 3) (.lst (.cons (.non) (.cons (.int 1) (.nil))))) (.str "rings") (.str "wrong"))) (.skip)) (.ret (.bin (.add) (.var 4) (.ifx (.xis [4, 6, 3, 9, 1, 13, 8, 0, 7] 3 7) (.lst (.cons (.str "many") (.nil))) (.lst (.nil)))))))))))) (.ret (.lst (.cons (.str "good") (.nil))))
def p__law_told_v4 : DefK := ⟨["_law_kind", "_law_t", "_law_turn"], ["_law_kind", "_law_t", "_law_turn", "e", "_law_found"], [4], k__law_told_v4⟩
def k__law_good_one_v2 : K := .sq (.asg (.tn 1) (.disp (.cons (.str "ring") (.cons (.tup (.cons (.int 0) (.cons (.int 1) (.cons (.int 8) (.nil))))) (.cons (.str "row") (.cons (.tmul (.tup (.cons (.int 0) (.cons (.int 8) (.nil)))) (.int 20)) (.cons (.str "wrong") (.cons (.int 10) (.cons (.str "aim") (.cons (.str "hold") (.cons (.str "rings") (.cons (.tup (.cons (.tup (.cons (.int 0) (.cons (.int 1) (.nil)))) (.cons (.tmul (.tup (.cons (.int 2) (.nil))) (.int 9)) (.nil)))) (.nil))))))))))))) (.sq (.asg (.tn 2) (.disp (.cons (.str "counts") (.cons (.tup (.cons (.int 2) (.cons (.int 0) (.cons (.int 1) (.nil))))) (.cons (.str "six") (.cons (.int 3) (.cons (.str "three") (.cons (.int 3) (.cons (.str "twenty") (.cons (.int 20) (.nil))))))))))) (.ret (.ifx (.cmp (.isin) (.var 0) (.var 1)) (.ix (.var 1) (.var 0)) (.ix (.var 2) (.var 0)))))
def p__law_good_one_v2 : DefK := ⟨["_law_name"], ["_law_name", "_law_good", "_law_more"], [1001, 1002], k__law_good_one_v2⟩
def k__law_kind_of_v2 : K := .ret (.ifx (.cmp (.isin) (.var 0) (.lst (.cons (.str "wrong") (.cons (.str "six") (.cons (.str "three") (.cons (.str "twenty") (.nil))))))) (.str "number") (.var 0))
def p__law_kind_of_v2 : DefK := ⟨["_law_name"], ["_law_name"], [], k__law_kind_of_v2⟩
def k__law_bad_one_v2 : K := .sq (.sto 2 (.lst (.cons (.non) (.cons (.bl true) (.cons (.str "1") (.cons (.neg (.int 1)) (.cons (.tup (.cons (.int 1) (.nil))) (.cons (.lst (.cons (.int 1) (.nil))) (.nil))))))))) (.sq (.asg (.tn 3) (.disp (.cons (.str "wrong") (.cons (.int 11) (.cons (.str "six") (.cons (.int 7) (.cons (.str "three") (.cons (.int 4) (.cons (.str "twenty") (.cons (.int 21) (.nil))))))))))) (.sq (.ite (.cmp (.isin) (.var 1) (.var 3)) (.sto 2 (.bin (.add) (.bin (.add) (.var 2) (.lst (.cons (.ix (.var 3) (.var 1)) (.nil)))) (.ifx (.cmp (.isin) (.var 1) (.lst (.cons (.str "six") (.cons (.str "three") (.nil))))) (.lst (.cons (.int 0) (.nil))) (.lst (.nil))))) (.skip)) (.sq (.ite (.cmp (.eq) (.var 1) (.str "ring")) (.sto 2 (.lst (.cons (.non) (.cons (.tup (.nil)) (.cons (.lst (.cons (.int 0) (.cons (.int 1) (.cons (.int 8) (.nil))))) (.cons (.tup (.cons (.int 0) (.cons (.int 9) (.cons (.int 8) (.nil))))) (.cons (.tup (.cons (.int 0) (.cons (.neg (.int 1)) (.cons (.int 8) (.nil))))) (.cons (.tup (.cons (.int 0) (.cons (.bl true) (.cons (.int 8) (.nil))))) (.cons (.tup (.cons (.str "0") (.cons (.int 1) (.cons (.int 8) (.nil))))) (.cons (.tmul (.tup (.cons (.int 0) (.nil))) (.int 10)) (.cons (.int 3) (.nil)))))))))))) (.skip)) (.sq (.ite (.cmp (.eq) (.var 1) (.str "row")) (.sto 2 (.lst (.cons (.non) (.cons (.lst (.cons (.int 0) (.nil))) (.cons (.tmul (.tup (.cons (.int 0) (.nil))) (.int 41)) (.cons (.tup (.cons (.int 0) (.cons (.int 9) (.nil)))) (.cons (.tup (.cons (.neg (.int 1)) (.nil))) (.cons (.tup (.cons (.bl true) (.nil))) (.cons (.tup (.cons (.str "0") (.nil))) (.cons (.int 3) (.nil))))))))))) (.skip)) (.sq (.ite (.cmp (.eq) (.var 1) (.str "aim")) (.sto 2 (.lst (.cons (.non) (.cons (.bl true) (.cons (.str "keys") (.cons (.str "") (.cons (.tup (.cons (.str "key") (.nil))) (.cons (.int 3) (.nil))))))))) (.skip)) (.sq (.ite (.cmp (.eq) (.var 1) (.str "counts")) (.sto 2 (.lst (.cons (.non) (.cons (.tup (.nil)) (.cons (.lst (.cons (.int 1) (.nil))) (.cons (.tup (.cons (.int 0) (.cons (.int 0) (.nil)))) (.cons (.tup (.cons (.int 41) (.nil))) (.cons (.tup (.cons (.int 1) (.cons (.neg (.int 1)) (.nil)))) (.cons (.tup (.cons (.int 1) (.cons (.bl true) (.nil)))) (.cons (.int 3) (.nil))))))))))) (.skip)) (.sq (.ite (.cmp (.eq) (.var 1) (.str "rings")) (.sq (.asg (.tn 4) (.tup (.cons (.int 0) (.cons (.int 1) (.nil))))) (.sto 2 (.lst (.cons (.non) (.cons (.tup (.nil)) (.cons (.lst (.cons (.varV 4) (.nil))) (.cons (.tmul (.tup (.cons (.varV 4) (.nil))) (.int 7)) (.cons (.tup (.cons (.varV 4) (.cons (.tup (.nil)) (.nil)))) (.cons (.tup (.cons (.varV 4) (.cons (.tup (.cons (.int 9) (.nil))) (.nil)))) (.cons (.tup (.cons (.varV 4) (.cons (.lst (.cons (.int 0) (.nil))) (.nil)))) (.cons (.tup (.cons (.varV 4) (.cons (.int 0) (.nil)))) (.cons (.tup (.cons (.varV 4) (.cons (.non) (.nil)))) (.cons (.int 3) (.nil)))))))))))))) (.skip)) (.ret (.ix (.var 2) (.fn 12 (.cons (.varV 0) (.cons (.bi (.len) (.cons (.var 2) (.nil))) (.nil)))))))))))))
def p__law_bad_one_v2 : DefK := ⟨["_law_h", "_law_name"], ["_law_h", "_law_name", "_law_bad", "_law_ends", "_law_one"], [2, 1003], k__law_bad_one_v2⟩
def e_law19_1 : K := .cmp (.eq) (.fn 12 (.cons (.varV 1) (.cons (.int 3) (.nil)))) (.int 0)
def b_law19_1 : K := .app 8 (.ifx (.ix (.var 6) (.var 9)) (.fn 202 (.cons (.varV 1) (.cons (.ix (.var 5) (.var 9)) (.nil)))) (.fn 200 (.cons (.ix (.var 5) (.var 9)) (.nil))))
def t_law19_1 : K := .ix (.var 6) (.var 9)
def e_law19_2 : K := .fn 201 (.cons (.ix (.var 5) (.var 9)) (.nil))
def k_law19 : K := .sq (.asg (.tn 1) (.fn 11 (.cons (.varV 0) (.cons (.int 19) (.nil))))) (.sq (.sto 2 (.lst (.cons (.lst (.cons (.str "ring") (.cons (.str "row") (.cons (.str "wrong") (.nil))))) (.cons (.lst (.cons (.str "ring") (.cons (.str "aim") (.cons (.str "wrong") (.nil))))) (.cons (.lst (.cons (.str "rings") (.nil))) (.cons (.lst (.cons (.str "ring") (.cons (.str "aim") (.nil)))) (.cons (.lst (.cons (.str "counts") (.cons (.str "aim") (.nil)))) (.nil)))))))) (.sq (.app 2 (.lst (.cons (.str "six") (.cons (.str "three") (.cons (.str "twenty") (.cons (.str "aim") (.nil))))))) (.sq (.parN 3 4 (.cons (.fn 12 (.cons (.varV 1) (.cons (.int 6) (.nil)))) (.cons (.fn 12 (.cons (.varV 1) (.cons (.int 6) (.nil)))) (.nil)))) (.sq (.asg (.tn 5) (.ix (.var 2) (.var 3))) (.sq (.sto 6 (.lc [7] (.tn 7) (.seq (.varV 5)) (.yes) (e_law19_1))) (.sq (.sto 8 (.lst (.nil))) (.sq (.fr (.tn 9) (.rng1 (.cons (.bi (.len) (.cons (.var 5) (.nil))) (.nil))) (b_law19_1)) (.sq (.sto 10 (.bin (.add) (.lc [9] (.tn 9) (.rng1 (.cons (.bi (.len) (.cons (.var 5) (.nil))) (.nil))) (t_law19_1) (e_law19_2)) (.lst (.cons (.str "good") (.nil))))) (.sq (.ite (.and (.cmp (.eq) (.var 3) (.int 4)) (.and (.no (.ix (.var 6) (.int 0))) (.cmp (.eq) (.fn 12 (.cons (.varV 1) (.cons (.int 2) (.nil)))) (.int 0)))) (.parS 8 0 10 (.cons (.tup (.cons (.int 9) (.nil))) (.cons (.lst (.cons (.str "many") (.nil))) (.nil)))) (.skip)) (.sq (.frz 8) (.ret (.cmp (.eq) (.fn 199 (.cons (.varV 3) (.cons (.varV 8) (.cons (.varV 4) (.nil))))) (.slc (.var 10) (.nil) (.int 1))))))))))))))
def p_law19 : DefK := ⟨["_law_script"], ["_law_script", "_law_h", "_law_asked", "_law_kind", "_law_turn", "_law_words", "_law_wrong", "_law_word", "_law_t", "_law_k", "_law_due"], [2, 6, 8, 10], k_law19⟩
end LW
set_option Elab.async false
set_option linter.all false
set_option maxRecDepth 100000
set_option maxHeartbeats 4000000
namespace LW
open PySem KF
variable {P : Prog}
theorem run_of {i : Nat} {d : DefK} (e : findD P i = some d) (n : Nat) (ds : List D) (h : MH) : runF P (n + 1) i ds h = callD (runF P n) d ds h := by
  show (match findD P i with
    | none => Out.bad
    | some d => callD (runF P n) d ds h) = _
  rw [e]
/-- the source of draws stands at the places 0 and 1 -/
def HS (h : MH) : Prop := ∃ (cs : List Int) (st ix : Int), cs.length ≤ 63 ∧ h[0]? = some (.lst (cs.map fun c => .py (.int c))) ∧ h[1]? = some (.lst [.py (.int st), .loc 0, .py (.int ix)])
/-- all but the source stands as it was -/
def Rest (h h' : MH) : Prop := h'.length = h.length ∧ ∀ j, 2 ≤ j → h'[j]? = h[j]?
theorem Rest.refl (h : MH) : Rest h h := ⟨rfl, fun _ _ => rfl⟩
theorem Rest.trans {h h1 h2 : MH} (a : Rest h h1) (b : Rest h1 h2) : Rest h h2 := ⟨b.1.trans a.1, fun j hj => (b.2 j hj).trans (a.2 j hj)⟩
theorem allPy_ints (cs : List Int) : allPy (cs.map fun c => D.py (.int c)) = some (iL cs) := by
  induction cs with
  | nil => rfl
  | cons c r ih =>
    show (allPy (r.map fun c => D.py (.int c))).map _ = _
    rw [ih]
    rfl
theorem next_ok (H : findD P 12 = some p__law_next) (n : Nat) {h : MH} {b : Int} (hs : HS h) (b0 : 0 < b) (b1 : b < 1073741824) :
    ∃ r h', runF P (n + 1) 12 [.loc 1, .py (.int b)] h = .ok (.py (.int r)) h' ∧ 0 ≤ r ∧ r < b ∧ HS h' ∧ Rest h h' := by
  obtain ⟨cs, st, ix, hl, e0, e1⟩ := hs
  have hf : fits (cs.length + 1) = true := fits_small (by omega)
  have l1 : 1 < h.length := (List.getElem?_eq_some_iff.mp e1).1
  have l0 : 0 < h.length := by omega
  rw [run_of H]
  have g1 : ∀ x, (List.set h 1 x)[1]? = some x := fun x => by simp [List.getElem?_set, l1]
  have g0 : ∀ x, (List.set h 1 x)[0]? = h[0]? := fun x => by simp [List.getElem?_set]
  have g3 : ∀ x, (List.set h 0 x)[0]? = some x := fun x => by simp [List.getElem?_set, l0]
  have g4 : ∀ x, (List.set h 0 x)[1]? = h[1]? := fun x => by simp [List.getElem?_set]
  have fin : ∀ (st v : Int) (cs' : List Int), cs'.length ≤ 63 → h[0]? = some (.lst (cs'.map fun c => .py (.int c))) →
      HS (h.set 1 (.lst [.py (.int st), .loc 0, .py (.int v)])) ∧ Rest h (h.set 1 (.lst [.py (.int st), .loc 0, .py (.int v)])) := fun st v cs' hl' e => by
    refine ⟨⟨cs', st, v, hl', ?_, g1 _⟩, ?_, fun j hj => ?_⟩
    · rw [g0]; exact e
    · simp
    · have : (1 : Nat) ≠ j := by omega
      simp [List.getElem?_set, this]
  by_cases hc : cs = []
  · subst hc
    refine ⟨((st * 48271 + 11) % 2147483647 / 7) % b, _, ?_, ?_, ?_, (fin ((st * 48271 + 11) % 2147483647) (ix + 1) [] (by simp) e0).1, (fin _ (ix + 1) [] (by simp) e0).2⟩
    · simp [callD, startE, look, lookV, Sl.get, Sl.getV, frzE, stoE, binF, addO, catL, iop, gAdd, gSub, gMul, gDiv, gMod, gPow, KF.listOf, ixU, dctAt, inUD, ninUD, inK, putU, ixO, ixD, L2.atI, L2.ixN, negD, truD, cmpF, icmp, isND, notND, isN, biF, fLen, lenD, fInt, fMax2, fMin2, fAbs, fTup, fLst, allPy, mkTup, mkLst, asI, revT, isiD, tyD, isTy, putO, putL, augF, promO, wipeE, itU, p__law_next, k__law_next, e0, e1, allPy_ints, List.length_map, iL_len, hf, b0, b1, iL, g0, g1]
    · exact Int.emod_nonneg _ (by omega)
    · exact Int.emod_lt_of_pos _ b0
  · have hp : 0 < cs.length := List.length_pos_iff.mpr hc
    have m1 : (if (1 : Int) < (cs.length : Int) then (cs.length : Int) else 1) = cs.length := by split <;> omega
    have i0 : 0 ≤ ix % (cs.length : Int) := Int.emod_nonneg _ (by omega)
    have i1 : ix % (cs.length : Int) < cs.length := Int.emod_lt_of_pos _ (by omega)
    have i2 : ix % (cs.length : Int) < (cs.length : Int) + 1 := by omega
    have hp2 : (0 : Int) < cs.length := by omega
    obtain ⟨c, hcc⟩ : ∃ c, cs[(ix % (cs.length : Int)).toNat]? = some c := ⟨_, List.getElem?_eq_getElem (by omega)⟩
    have hcc2 : (iL cs ++ [PyData.int 0])[(ix % (cs.length : Int)).toNat]? = some (.int c) := by
      rw [List.getElem?_append_left (by rw [iL_len]; omega), iL_get, hcc]; rfl
    have hcc3 : ∀ pf, (iL cs)[(ix % (cs.length : Int)).toNat]'pf = .int c := fun pf => by
      have e := iL_get cs (ix % (cs.length : Int)).toNat
      rw [hcc, List.getElem?_eq_getElem pf] at e
      exact Option.some.inj e
    by_cases hbig : (1000000000000000000 : Int) ≤ c
    · refine ⟨c % b, h.set 0 (.lst ((cs.set (ix % (cs.length : Int)).toNat (c / b)).map fun c => .py (.int c))), ?_, Int.emod_nonneg _ (by omega), Int.emod_lt_of_pos _ b0, ⟨cs.set (ix % (cs.length : Int)).toNat (c / b), st, ix, ?_, ?_, ?_⟩, ?_, fun j hj => ?_⟩
      · simp [callD, startE, look, lookV, Sl.get, Sl.getV, frzE, stoE, binF, addO, catL, iop, gAdd, gSub, gMul, gDiv, gMod, gPow, KF.listOf, ixU, dctAt, inUD, ninUD, inK, putU, ixO, ixD, L2.atI, L2.ixN, negD, truD, cmpF, icmp, isND, notND, isN, biF, fLen, lenD, fInt, fMax2, fMin2, fAbs, fTup, fLst, allPy, mkTup, mkLst, asI, revT, isiD, tyD, isTy, putO, putL, augF, promO, wipeE, itU, p__law_next, k__law_next, e0, e1, allPy_ints, List.length_map, iL_len, hf, b0, b1, hp, hp2, m1, i0, i1, i2, hcc2, hcc3, hbig, g3, g4, List.map_set]
      · simpa using hl
      · simp [List.getElem?_set, l0]
      · simp [List.getElem?_set, e1]
      · simp
      · have : (0 : Nat) ≠ j := by omega
        simp [List.getElem?_set, this]
    · refine ⟨((st * 48271 + c * 69621 + 11) % 2147483647 / 7) % b, _, ?_, ?_, ?_, (fin ((st * 48271 + c * 69621 + 11) % 2147483647) (ix + 1) cs hl e0).1, (fin _ (ix + 1) cs hl e0).2⟩
      · simp [callD, startE, look, lookV, Sl.get, Sl.getV, frzE, stoE, binF, addO, catL, iop, gAdd, gSub, gMul, gDiv, gMod, gPow, KF.listOf, ixU, dctAt, inUD, ninUD, inK, putU, ixO, ixD, L2.atI, L2.ixN, negD, truD, cmpF, icmp, isND, notND, isN, biF, fLen, lenD, fInt, fMax2, fMin2, fAbs, fTup, fLst, allPy, mkTup, mkLst, asI, revT, isiD, tyD, isTy, putO, putL, augF, promO, wipeE, itU, p__law_next, k__law_next, e0, e1, allPy_ints, List.length_map, iL_len, hf, b0, b1, hp, hp2, m1, i0, i1, i2, hcc2, hcc3, hbig, g0, g1]
      · exact Int.emod_nonneg _ (by omega)
      · exact Int.emod_lt_of_pos _ b0
end LW
set_option Elab.async false
set_option linter.all false
set_option maxRecDepth 100000
set_option maxHeartbeats 4000000
namespace LW
open PySem KF
variable {P : Prog}
/-! ### the script mixed -/
theorem mix_loop {F : FnS} {h : MH} {a b : Sl} : ∀ (xs : List Int) (st : Int) (s3 : Sl), ∃ st' s3', forF (ev F (.tn 3)).G (ev F (.asg (.tn 2) (.bin (.mod) (.bi (.int) (.cons (.bin (.add) (.bin (.add) (.bin (.mul) (.var 2) (.int 48271)) (.bin (.mod) (.bi (.int) (.cons (.var 3) (.nil))) (.int 2147483629))) (.int 1)) (.nil))) (.int 2147483647)))).S
    (xs.map fun i => .py (.int i)) [a, b, .v (.py (.int st)), s3] h = .nx [a, b, .v (.py (.int st')), s3'] h
  | [], st, s3 => ⟨st, s3, rfl⟩
  | x :: r, st, s3 => by
    obtain ⟨st', s3', e⟩ := mix_loop (F := F) (h := h) (a := a) (b := b) r ((st * 48271 + x % 2147483629 + 1) % 2147483647) (.v (.py (.int x)))
    refine ⟨st', s3', ?_⟩
    rw [List.map_cons, forF]
    simp [callD, startE, look, lookV, Sl.get, Sl.getV, frzE, stoE, binF, addO, catL, iop, gAdd, gSub, gMul, gDiv, gMod, gPow, KF.listOf, ixU, dctAt, inUD, ninUD, inK, putU, ixO, ixD, L2.atI, L2.ixN, negD, truD, cmpF, icmp, isND, notND, isN, biF, fLen, lenD, fInt, fMax2, fMin2, fAbs, fTup, fLst, allPy, mkTup, mkLst, asI, revT, isiD, tyD, isTy, putO, putL, augF, promO, wipeE, itU]
    exact e
theorem mix_ok (H : findD P 11 = some p__law_mix) (n : Nat) (ns : List Int) (seed : Int) (hl : ns.length ≤ 63) :
    ∃ h', runF P (n + 1) 11 [.scr ns, .py (.int seed)] [] = .ok (.loc 1) h' ∧ HS h' ∧ h'.length = 2 := by
  obtain ⟨st', s3', e⟩ := mix_loop (F := runF P n) (h := []) (a := .v (.scr ns)) (b := .v (.py (.int seed))) ns seed .u
  refine ⟨[.lst (ns.map fun c => .py (.int c)), .lst [.py (.int st'), .loc 0, .py (.int 0)]], ?_, ⟨ns, st', 0, hl, rfl, rfl⟩, rfl⟩
  rw [run_of H]
  simp [callD, startE, look, lookV, Sl.get, Sl.getV, frzE, stoE, binF, addO, catL, iop, gAdd, gSub, gMul, gDiv, gMod, gPow, KF.listOf, ixU, dctAt, inUD, ninUD, inK, putU, ixO, ixD, L2.atI, L2.ixN, negD, truD, cmpF, icmp, isND, notND, isN, biF, fLen, lenD, fInt, fMax2, fMin2, fAbs, fTup, fLst, allPy, mkTup, mkLst, asI, revT, isiD, tyD, isTy, putO, putL, augF, promO, wipeE, itU, p__law_mix, k__law_mix, e]
/-! ### draws in a comprehension -/
theorem lcF_draw {g : TgF} {ft : EvF Bool} {fe : EvF D} {env : KF.Env} {Q : Int → Prop} (H : ∀ x h, HS h → ∃ env1 r h', g x env = some env1 ∧ ft env1 h = .ok true h ∧ fe env1 h = .ok (.py (.int r)) h' ∧ Q r ∧ HS h' ∧ Rest h h') :
    ∀ (xs : List D) (h : MH), HS h → ∃ ys h', lcF g ft fe env xs h = .ok (iL ys) h' ∧ ys.length = xs.length ∧ (∀ y ∈ ys, Q y) ∧ HS h' ∧ Rest h h'
  | [], h, hs => ⟨[], h, rfl, rfl, fun _ z => (by cases z), hs, Rest.refl h⟩
  | x :: r, h, hs => by
    obtain ⟨env1, v, h1, e1, e2, e3, q, hs1, r1⟩ := H x h hs
    obtain ⟨ys, h2, e4, l, qs, hs2, r2⟩ := lcF_draw H r h1 hs1
    refine ⟨v :: ys, h2, ?_, by simp [l], fun y hy => ?_, hs2, r1.trans r2⟩
    · unfold lcF
      rw [e1]
      simp [e2, e3, e4, iL]
    · rcases List.mem_cons.mp hy with z | z
      · rw [z]; exact q
      · exact qs y z
/-! ### slices -/
theorem cut_to {α : Type} (xs : List α) (k : Int) (h : 0 ≤ k) : cut xs none (some k) = xs.take k.toNat := by
  unfold cut HT.sIx
  have : ¬ k < 0 := by omega
  simp [this]
theorem cut_from {α : Type} (xs : List α) (k : Int) (h : 0 ≤ k) : cut xs (some k) none = xs.drop k.toNat := by
  unfold cut HT.sIx
  have : ¬ k < 0 := by omega
  simp [this]
  rcases Nat.le_total k.toNat xs.length with q | q
  · rw [Nat.min_eq_left q, List.take_of_length_le (by simp)]
  · rw [Nat.min_eq_right q, List.drop_of_length_le (by omega), List.drop_of_length_le q]
    simp
def Ring (m : Nat) (r : List Int) : Prop := 1 ≤ r.length ∧ r.length ≤ m ∧ ∀ x ∈ r, 0 ≤ x ∧ x ≤ 8
theorem rngL_len (lo : Int) (n : Nat) : (rngL lo n).length = n := by simp [rngL]
theorem ring_ok (H : findD P 12 = some p__law_next) (H2 : findD P 13 = some p__law_ring) (n : Nat) {h : MH} (hs : HS h) (m : Nat) (m1 : 1 ≤ m) (m2 : m ≤ 9) :
    ∃ r h', runF P (n + 2) 13 [.loc 1, .py (.int m)] h = .ok (.py (.tuple (iL r))) h' ∧ Ring m r ∧ HS h' ∧ Rest h h' := by
  obtain ⟨v1, h1, e1, p1, q1, s1, r1⟩ := next_ok H n (b := m) hs (by omega) (by omega)
  obtain ⟨v2, h2, e2, p2, q2, s2, r2⟩ := next_ok H n (b := 3) s1 (by omega) (by omega)
  obtain ⟨b3, hb, b31, b32⟩ : ∃ b3 : Int, [PyData.int 2, .int 3, .int 9][v2.toNat]? = some (.int b3) ∧ 0 < b3 ∧ b3 ≤ 9 := by
    have : v2.toNat = 0 ∨ v2.toNat = 1 ∨ v2.toNat = 2 := by omega
    rcases this with z | z | z <;> rw [z]
    · exact ⟨2, rfl, by omega, by omega⟩
    · exact ⟨3, rfl, by omega, by omega⟩
    · exact ⟨9, rfl, by omega, by omega⟩
  obtain ⟨v3, h3, e3, p3, q3, s3, r3⟩ := next_ok H n (b := b3) s2 (by omega) (by omega)
  obtain ⟨ys, h4, e4, l4, q4, s4, r4⟩ := lcF_draw (g := (ev (runF P (n + 1)) (.tn 5)).G) (ft := (ev (runF P (n + 1)) .yes).T) (fe := (ev (runF P (n + 1)) (.fn 12 (.cons (.varV 0) (.cons (.varV 3) (.nil))))).E)
    (env := [.v (.loc 1), .v (.py (.int m)), .v (.py (.int (1 + v1))), .v (.py (.int (1 + v3))), .u, .u, .u, .u]) (Q := fun y => 0 ≤ y ∧ y < 1 + v3) (fun x h hs => by
      obtain ⟨v, h', e, p, q, s, r⟩ := next_ok H n (b := 1 + v3) hs (by omega) (by omega)
      exact ⟨_, v, h', rfl, rfl, by simp [callD, startE, look, lookV, Sl.get, Sl.getV, frzE, stoE, binF, addO, catL, iop, gAdd, gSub, gMul, gDiv, gMod, gPow, KF.listOf, ixU, dctAt, inUD, ninUD, inK, putU, ixO, ixD, L2.atI, L2.ixN, negD, truD, cmpF, icmp, isND, notND, isN, biF, fLen, lenD, fInt, fMax2, fMin2, fAbs, fTup, fLst, allPy, mkTup, mkLst, asI, revT, isiD, tyD, isTy, putO, putL, augF, promO, wipeE, itU, e], ⟨p, q⟩, s, r⟩) (rngL 0 (1 + v1).toNat) h3 s3
  rw [rngL_len] at l4
  obtain ⟨v5, h5, e5, p5, q5, s5, r5⟩ := next_ok H n (b := 5) s4 (by omega) (by omega)
  have rall := ((((r1.trans r2).trans r3).trans r4).trans r5)
  have qy : ∀ y ∈ ys, 0 ≤ y ∧ y ≤ 8 := fun y hy => by have := q4 y hy; omega
  have hd : 0 ≤ (1 + v1) / 2 := by omega
  generalize hk : (if (1 : Int) < (1 + v1) / 2 then (1 + v1) / 2 else 1) = kk
  have hk0 : 0 ≤ kk := by rw [← hk]; split <;> omega
  have hk1 : 1 ≤ kk := by rw [← hk]; split <;> omega
  have hv1 : (0 : Int) ≤ v1 := p1
  have f4 : fits ys.length = true := fits_small (by omega)
  have z1 : rOk (1 + v1) = true := rOk_small (by omega)
  have z3 : v2 < 3 := q2
  have base : ∀ (row : List Int), (∀ y ∈ row, 0 ≤ y ∧ y ≤ 8) → 1 ≤ row.length → Ring m (row.take m) := fun row hr hl => ⟨by rw [List.length_take]; omega, by rw [List.length_take]; omega, fun x hx => hr x (List.mem_of_mem_take hx)⟩
  have hb2 : ∀ pf, [PyData.int 2, .int 3, .int 9][v2.toNat]'pf = .int b3 := fun pf => by
    rw [List.getElem?_eq_getElem pf] at hb
    exact Option.some.inj hb
  have f5 : fits (min kk.toNat ys.length + min kk.toNat ys.length) = true := fits_small (by omega)
  have hm0 : (0 : Int) ≤ (m : Int) := by omega
  have iT : ∀ (k : Nat) (zs : List Int), (iL zs).take k = iL (zs.take k) := fun k zs => by unfold iL; rw [List.map_take]
  have iA : ∀ (zs ws : List Int), iL zs ++ iL ws = iL (zs ++ ws) := fun zs ws => by unfold iL; rw [List.map_append]
  have iR : ∀ (zs : List Int), (iL zs).reverse = iL zs.reverse := fun zs => by unfold iL; rw [List.map_reverse]
  rw [run_of H2]
  by_cases c0 : v5 = 0
  · refine ⟨(ys.take kk.toNat ++ ys.take kk.toNat).take m, h5, ?_, base _ (fun y hy => ?_) ?_, s5, rall⟩
    · simp [callD, startE, look, lookV, Sl.get, Sl.getV, frzE, stoE, binF, addO, catL, iop, gAdd, gSub, gMul, gDiv, gMod, gPow, KF.listOf, ixU, dctAt, inUD, ninUD, inK, putU, ixO, ixD, L2.atI, L2.ixN, negD, truD, cmpF, icmp, isND, notND, isN, biF, fLen, lenD, fInt, fMax2, fMin2, fAbs, fTup, fLst, allPy, mkTup, mkLst, asI, revT, isiD, tyD, isTy, putO, putL, augF, promO, wipeE, itU, p__law_ring, k__law_ring, e1, e2, hb2, p2, z3, e3, rng1, z1, e4, mkL, f4, f5, iL_len, e5, c0, eqD, shal_int, PyData.eqv, hk, cutU, cut_to _ _ hk0, cut_to _ _ hm0, hd, iT, iA, iR]
    · rcases List.mem_append.mp hy with z | z <;> exact qy y (List.mem_of_mem_take z)
    · rw [List.length_append, List.length_take]; omega
  · by_cases c1 : v5 = 1
    · refine ⟨(ys.take kk.toNat ++ (ys.take kk.toNat).reverse).take m, h5, ?_, base _ (fun y hy => ?_) ?_, s5, rall⟩
      · simp [callD, startE, look, lookV, Sl.get, Sl.getV, frzE, stoE, binF, addO, catL, iop, gAdd, gSub, gMul, gDiv, gMod, gPow, KF.listOf, ixU, dctAt, inUD, ninUD, inK, putU, ixO, ixD, L2.atI, L2.ixN, negD, truD, cmpF, icmp, isND, notND, isN, biF, fLen, lenD, fInt, fMax2, fMin2, fAbs, fTup, fLst, allPy, mkTup, mkLst, asI, revT, isiD, tyD, isTy, putO, putL, augF, promO, wipeE, itU, p__law_ring, k__law_ring, e1, e2, hb2, p2, z3, e3, rng1, z1, e4, mkL, f4, f5, iL_len, e5, c1, eqD, shal_int, PyData.eqv, hk, cutU, cut_to _ _ hk0, cut_to _ _ hm0, hd, iT, iA, iR]
      · rcases List.mem_append.mp hy with z | z
        · exact qy y (List.mem_of_mem_take z)
        · exact qy y (List.mem_of_mem_take (List.mem_reverse.mp z))
      · rw [List.length_append, List.length_take]; omega
    · refine ⟨ys.take m, h5, ?_, base _ qy (by omega), s5, rall⟩
      simp [callD, startE, look, lookV, Sl.get, Sl.getV, frzE, stoE, binF, addO, catL, iop, gAdd, gSub, gMul, gDiv, gMod, gPow, KF.listOf, ixU, dctAt, inUD, ninUD, inK, putU, ixO, ixD, L2.atI, L2.ixN, negD, truD, cmpF, icmp, isND, notND, isN, biF, fLen, lenD, fInt, fMax2, fMin2, fAbs, fTup, fLst, allPy, mkTup, mkLst, asI, revT, isiD, tyD, isTy, putO, putL, augF, promO, wipeE, itU, p__law_ring, k__law_ring, e1, e2, hb2, p2, z3, e3, rng1, z1, e4, mkL, f4, f5, iL_len, e5, c0, c1, eqD, shal_int, PyData.eqv, hk, cutU, cut_to _ _ hk0, cut_to _ _ hm0, hd, iT, iA, iR]
end LW
set_option Elab.async false
set_option linter.all false
set_option maxRecDepth 100000
set_option maxHeartbeats 0
namespace LW
open PySem PySem.Spec PyProof.Rows L2 KF
def topS (i : Nat) : Stmt := PySem.Challenge.pw_keysfelt_k19_further_questions_refused.main.body.getD i (.Pass ⟨0, 0, 0, 0⟩)
def G : List (Str × GK) := ([("is_integer", .fn 0 1), ("is_from", .fn 1 3), ("are_shapes", .fn 2 4), ("check_ring", .fn 3 1), ("check_number", .fn 5 3), ("check_aim", .fn 19 1), ("shape_at", .fn 6 3), ("felt_by", .fn 7 3), ("all_holds", .fn 9 1), ("is_known", .fn 20 2), ("least_by", .fn 21 2), ("places_apart", .fn 167 2), ("holds_if_wrong", .fn 168 3), ("keys_for", .fn 169 4), ("least_if_wrong", .fn 170 3), ("least_of", .fn 71 1), ("check_counts", .fn 74 1), ("all_rows", .fn 81 1), ("all_rings", .fn 82 1), ("check_pieces", .fn 93 2)] : List (Str × GK)) ++ ([("has_piece", .fn 94 2), ("rings_with", .fn 95 3), ("best_rings", .fn 191 2), ("told_rings", .fn 192 4), ("grouped", .fn 27 1), ("felt_on", .fn 28 3), ("moved_on", .fn 29 3), ("first_states", .fn 30 1), ("check_question", .fn 42 2), ("depth_of", .fn 43 3), ("best_of", .fn 180 4), ("total_on", .fn 181 4), ("least_total", .fn 182 2), ("tree_by", .fn 183 3), ("mean_plan", .fn 184 2), ("count_in", .fn 185 3), ("total_of", .fn 186 3), ("check_rings", .fn 175 1), ("least_which", .fn 176 1), ("alike_in", .fn 177 1)] : List (Str × GK)) ++ ([("_law_mix", .fn 11 2), ("_law_next", .fn 12 2), ("_law_ask", .fn 198 3), ("_law_told", .fn 199 3), ("_law_good_one", .fn 200 1), ("_law_kind_of", .fn 201 1), ("_law_bad_one", .fn 202 2), ("law", .fn 203 1), ("Search", .cls 0 ["ring", "aim", "wanted", "known"] (31, 4) [("is_done", 32, 2), ("on", 33, 3), ("depth", 38, 3), ("branches_depth", 39, 3)] []), ("MOST_KEYS", .int 9), ("MOST_SHAPE", .int 8), ("MOST_FELT", .int 40), ("KEY", .str "key"), ("HOLD", .str "hold"), ("MOST_WRONG", .int 10), ("MOST_COUNTS", .int 9), ("MOST_TOLD", .int 40), ("MOST_LISTED", .int 8), ("MOST_ROUND", .int 6), ("MOST_KINDS", .int 3)] : List (Str × GK)) ++ ([("MOST_PIECES", .int 8), ("MOST_PIECE", .int 12), ("MOST_WITHIN", .int 20), ("RIGHT", .str "right"), ("LEFT", .str "left"), ("SIDES", .tup [.str "right", .str "left"]), ("MOST_RINGS", .int 6), ("bool", .blt), ("enumerate", .blt), ("int", .blt), ("isinstance", .blt), ("len", .blt), ("list", .blt), ("max", .blt), ("min", .blt), ("range", .blt), ("set", .blt), ("sorted", .blt), ("str", .blt), ("sum", .blt)] : List (Str × GK)) ++ ([("tuple", .blt), ("zip", .blt), ("BadAim", .exc 4), ("BadCounts", .exc 6), ("BadNumber", .exc 3), ("BadPieces", .exc 9), ("BadRing", .exc 1), ("BadRings", .exf 13 "index" true), ("BadSeen", .exc 8), ("FeelError", .exc 0), ("TooMany", .exc 7)] : List (Str × GK))
abbrev s_0 : Stmt := inClass (topS 10) 0
def d_0 : DefX := ⟨("BadRings", some "__init__"), false, "__init__", "BadRings.__init__", defArgs s_0, defBody s_0, defScope s_0⟩
abbrev s_1 : Stmt := topS 17
def d_1 : DefX := ⟨("is_integer", none), false, "is_integer", "is_integer", defArgs s_1, defBody s_1, defScope s_1⟩
abbrev s_2 : Stmt := topS 18
def d_2 : DefX := ⟨("is_from", none), false, "is_from", "is_from", defArgs s_2, defBody s_2, defScope s_2⟩
abbrev s_3 : Stmt := topS 19
def d_3 : DefX := ⟨("are_shapes", none), false, "are_shapes", "are_shapes", defArgs s_3, defBody s_3, defScope s_3⟩
abbrev s_4 : Stmt := topS 20
def d_4 : DefX := ⟨("check_ring", none), false, "check_ring", "check_ring", defArgs s_4, defBody s_4, defScope s_4⟩
abbrev s_5 : Stmt := topS 21
def d_5 : DefX := ⟨("check_number", none), false, "check_number", "check_number", defArgs s_5, defBody s_5, defScope s_5⟩
abbrev s_6 : Stmt := topS 22
def d_6 : DefX := ⟨("check_aim", none), false, "check_aim", "check_aim", defArgs s_6, defBody s_6, defScope s_6⟩
abbrev s_7 : Stmt := topS 23
def d_7 : DefX := ⟨("shape_at", none), false, "shape_at", "shape_at", defArgs s_7, defBody s_7, defScope s_7⟩
abbrev s_8 : Stmt := topS 24
def d_8 : DefX := ⟨("felt_by", none), false, "felt_by", "felt_by", defArgs s_8, defBody s_8, defScope s_8⟩
abbrev s_9 : Stmt := topS 25
def d_9 : DefX := ⟨("all_holds", none), false, "all_holds", "all_holds", defArgs s_9, defBody s_9, defScope s_9⟩
abbrev s_10 : Stmt := topS 26
def d_10 : DefX := ⟨("is_known", none), false, "is_known", "is_known", defArgs s_10, defBody s_10, defScope s_10⟩
abbrev s_11 : Stmt := topS 27
def d_11 : DefX := ⟨("least_by", none), false, "least_by", "least_by", defArgs s_11, defBody s_11, defScope s_11⟩
abbrev s_12 : Stmt := topS 30
def d_12 : DefX := ⟨("places_apart", none), false, "places_apart", "places_apart", defArgs s_12, defBody s_12, defScope s_12⟩
abbrev s_13 : Stmt := topS 31
def d_13 : DefX := ⟨("holds_if_wrong", none), false, "holds_if_wrong", "holds_if_wrong", defArgs s_13, defBody s_13, defScope s_13⟩
abbrev s_14 : Stmt := topS 32
def d_14 : DefX := ⟨("keys_for", none), false, "keys_for", "keys_for", defArgs s_14, defBody s_14, defScope s_14⟩
abbrev s_15 : Stmt := topS 33
def d_15 : DefX := ⟨("least_if_wrong", none), false, "least_if_wrong", "least_if_wrong", defArgs s_15, defBody s_15, defScope s_15⟩
abbrev s_16 : Stmt := topS 42
def d_16 : DefX := ⟨("least_of", none), false, "least_of", "least_of", defArgs s_16, defBody s_16, defScope s_16⟩
abbrev s_17 : Stmt := topS 43
def d_17 : DefX := ⟨("check_counts", none), false, "check_counts", "check_counts", defArgs s_17, defBody s_17, defScope s_17⟩
abbrev s_18 : Stmt := topS 44
def d_18 : DefX := ⟨("all_rows", none), false, "all_rows", "all_rows", defArgs s_18, defBody s_18, defScope s_18⟩
abbrev s_19 : Stmt := topS 45
def d_19 : DefX := ⟨("all_rings", none), false, "all_rings", "all_rings", defArgs s_19, defBody s_19, defScope s_19⟩
abbrev s_20 : Stmt := topS 46
def d_20 : DefX := ⟨("check_pieces", none), false, "check_pieces", "check_pieces", defArgs s_20, defBody s_20, defScope s_20⟩
abbrev s_21 : Stmt := topS 47
def d_21 : DefX := ⟨("has_piece", none), false, "has_piece", "has_piece", defArgs s_21, defBody s_21, defScope s_21⟩
abbrev s_22 : Stmt := topS 48
def d_22 : DefX := ⟨("rings_with", none), false, "rings_with", "rings_with", defArgs s_22, defBody s_22, defScope s_22⟩
abbrev s_23 : Stmt := topS 51
def d_23 : DefX := ⟨("best_rings", none), false, "best_rings", "best_rings", defArgs s_23, defBody s_23, defScope s_23⟩
abbrev s_24 : Stmt := topS 52
def d_24 : DefX := ⟨("told_rings", none), false, "told_rings", "told_rings", defArgs s_24, defBody s_24, defScope s_24⟩
abbrev s_25 : Stmt := topS 57
def d_25 : DefX := ⟨("grouped", none), false, "grouped", "grouped", defArgs s_25, defBody s_25, defScope s_25⟩
abbrev s_26 : Stmt := topS 58
def d_26 : DefX := ⟨("felt_on", none), false, "felt_on", "felt_on", defArgs s_26, defBody s_26, defScope s_26⟩
abbrev s_27 : Stmt := topS 59
def d_27 : DefX := ⟨("moved_on", none), false, "moved_on", "moved_on", defArgs s_27, defBody s_27, defScope s_27⟩
abbrev s_28 : Stmt := topS 60
def d_28 : DefX := ⟨("first_states", none), false, "first_states", "first_states", defArgs s_28, defBody s_28, defScope s_28⟩
abbrev s_29 : Stmt := inClass (topS 61) 0
def d_29 : DefX := ⟨("Search", some "__init__"), false, "__init__", "Search.__init__", defArgs s_29, defBody s_29, defScope s_29⟩
abbrev s_30 : Stmt := inClass (topS 61) 1
def d_30 : DefX := ⟨("Search", some "is_done"), false, "is_done", "Search.is_done", defArgs s_30, defBody s_30, defScope s_30⟩
abbrev s_31 : Stmt := inClass (topS 61) 2
def d_31 : DefX := ⟨("Search", some "on"), false, "on", "Search.on", defArgs s_31, defBody s_31, defScope s_31⟩
abbrev s_32 : Stmt := inClass (topS 61) 7
def d_32 : DefX := ⟨("Search", some "depth"), false, "depth", "Search.depth", defArgs s_32, defBody s_32, defScope s_32⟩
abbrev s_33 : Stmt := inClass (topS 61) 8
def d_33 : DefX := ⟨("Search", some "branches_depth"), false, "branches_depth", "Search.branches_depth", defArgs s_33, defBody s_33, defScope s_33⟩
abbrev s_34 : Stmt := topS 62
def d_34 : DefX := ⟨("check_question", none), false, "check_question", "check_question", defArgs s_34, defBody s_34, defScope s_34⟩
abbrev s_35 : Stmt := topS 63
def d_35 : DefX := ⟨("depth_of", none), false, "depth_of", "depth_of", defArgs s_35, defBody s_35, defScope s_35⟩
abbrev s_36 : Stmt := topS 65
def d_36 : DefX := ⟨("best_of", none), false, "best_of", "best_of", defArgs s_36, defBody s_36, defScope s_36⟩
abbrev s_37 : Stmt := topS 66
def d_37 : DefX := ⟨("total_on", none), false, "total_on", "total_on", defArgs s_37, defBody s_37, defScope s_37⟩
abbrev s_38 : Stmt := topS 67
def d_38 : DefX := ⟨("least_total", none), false, "least_total", "least_total", defArgs s_38, defBody s_38, defScope s_38⟩
abbrev s_39 : Stmt := topS 68
def d_39 : DefX := ⟨("tree_by", none), false, "tree_by", "tree_by", defArgs s_39, defBody s_39, defScope s_39⟩
abbrev s_40 : Stmt := topS 69
def d_40 : DefX := ⟨("mean_plan", none), false, "mean_plan", "mean_plan", defArgs s_40, defBody s_40, defScope s_40⟩
abbrev s_41 : Stmt := topS 70
def d_41 : DefX := ⟨("count_in", none), false, "count_in", "count_in", defArgs s_41, defBody s_41, defScope s_41⟩
abbrev s_42 : Stmt := topS 71
def d_42 : DefX := ⟨("total_of", none), false, "total_of", "total_of", defArgs s_42, defBody s_42, defScope s_42⟩
abbrev s_43 : Stmt := topS 74
def d_43 : DefX := ⟨("check_rings", none), false, "check_rings", "check_rings", defArgs s_43, defBody s_43, defScope s_43⟩
abbrev s_44 : Stmt := topS 75
def d_44 : DefX := ⟨("least_which", none), false, "least_which", "least_which", defArgs s_44, defBody s_44, defScope s_44⟩
abbrev s_45 : Stmt := topS 76
def d_45 : DefX := ⟨("alike_in", none), false, "alike_in", "alike_in", defArgs s_45, defBody s_45, defScope s_45⟩
abbrev s_46 : Stmt := topS 78
def d_46 : DefX := ⟨("_law_mix", none), false, "_law_mix", "_law_mix", defArgs s_46, defBody s_46, defScope s_46⟩
abbrev s_47 : Stmt := topS 79
def d_47 : DefX := ⟨("_law_next", none), false, "_law_next", "_law_next", defArgs s_47, defBody s_47, defScope s_47⟩
abbrev s_48 : Stmt := topS 80
def d_48 : DefX := ⟨("_law_ask", none), false, "_law_ask", "_law_ask", defArgs s_48, defBody s_48, defScope s_48⟩
abbrev s_49 : Stmt := topS 81
def d_49 : DefX := ⟨("_law_told", none), false, "_law_told", "_law_told", defArgs s_49, defBody s_49, defScope s_49⟩
abbrev s_50 : Stmt := topS 82
def d_50 : DefX := ⟨("_law_good_one", none), false, "_law_good_one", "_law_good_one", defArgs s_50, defBody s_50, defScope s_50⟩
abbrev s_51 : Stmt := topS 83
def d_51 : DefX := ⟨("_law_kind_of", none), false, "_law_kind_of", "_law_kind_of", defArgs s_51, defBody s_51, defScope s_51⟩
abbrev s_52 : Stmt := topS 84
def d_52 : DefX := ⟨("_law_bad_one", none), false, "_law_bad_one", "_law_bad_one", defArgs s_52, defBody s_52, defScope s_52⟩
abbrev s_53 : Stmt := topS 85
def d_53 : DefX := ⟨("law", none), false, "law", "law", defArgs s_53, defBody s_53, defScope s_53⟩
def fn : List DefX := [d_0, d_1, d_2, d_3, d_4, d_5, d_6, d_7, d_8, d_9, d_10, d_11, d_12, d_13, d_14, d_15, d_16, d_17, d_18, d_19, d_20, d_21, d_22, d_23, d_24, d_25, d_26, d_27, d_28, d_29, d_30, d_31, d_32, d_33, d_34, d_35, d_36, d_37, d_38, d_39, d_40, d_41, d_42, d_43, d_44, d_45, d_46, d_47, d_48, d_49, d_50, d_51, d_52, d_53]
def P : Prog := [(174, p_BadRings___init__), (0, p_is_integer), (1, p_is_from), (2, p_are_shapes), (3, p_check_ring), (5, p_check_number), (19, p_check_aim), (6, p_shape_at), (7, p_felt_by), (9, p_all_holds), (20, p_is_known), (21, p_least_by), (167, p_places_apart), (168, p_holds_if_wrong), (169, p_keys_for), (170, p_least_if_wrong), (71, p_least_of_v2), (74, p_check_counts), (81, p_all_rows), (82, p_all_rings), (93, p_check_pieces), (94, p_has_piece), (95, p_rings_with), (191, p_best_rings), (192, p_told_rings), (27, p_grouped), (28, p_felt_on), (29, p_moved_on), (30, p_first_states), (31, p_Search___init__), (32, p_Search_is_done), (33, p_Search_on), (38, p_Search_depth), (39, p_Search_branches_depth), (42, p_check_question), (43, p_depth_of), (180, p_best_of), (181, p_total_on), (182, p_least_total), (183, p_tree_by), (184, p_mean_plan), (185, p_count_in), (186, p_total_of), (175, p_check_rings), (176, p_least_which), (177, p_alike_in), (11, p__law_mix), (12, p__law_next), (198, p__law_ask_v2), (199, p__law_told_v4), (200, p__law_good_one_v2), (201, p__law_kind_of_v2), (202, p__law_bad_one_v2), (203, p_law19)]
theorem b_0 : PlainB d_0 p_BadRings___init__ := fun _ _ _ _ _ _ us hl => match us, hl with | [_, _], _ => rfl
theorem b_1 : PlainB d_1 p_is_integer := fun _ _ _ _ _ _ us hl => match us, hl with | [_], _ => rfl
theorem b_2 : PlainB d_2 p_is_from := fun _ _ _ _ _ _ us hl => match us, hl with | [_, _, _], _ => rfl
theorem b_3 : PlainB d_3 p_are_shapes := fun _ _ _ _ _ _ us hl => match us, hl with | [_, _, _, _], _ => rfl
theorem b_4 : PlainB d_4 p_check_ring := fun _ _ _ _ _ _ us hl => match us, hl with | [_], _ => rfl
theorem b_5 : PlainB d_5 p_check_number := fun _ _ _ _ _ _ us hl => match us, hl with | [_, _, _], _ => rfl
theorem b_6 : PlainB d_6 p_check_aim := fun _ _ _ _ _ _ us hl => match us, hl with | [_], _ => rfl
theorem b_7 : PlainB d_7 p_shape_at := fun _ _ _ _ _ _ us hl => match us, hl with | [_, _, _], _ => rfl
theorem b_8 : PlainB d_8 p_felt_by := fun _ _ _ _ _ _ us hl => match us, hl with | [_, _, _], _ => rfl
theorem b_9 : PlainB d_9 p_all_holds := fun _ _ _ _ _ _ us hl => match us, hl with | [_], _ => rfl
theorem b_10 : PlainB d_10 p_is_known := fun _ _ _ _ _ _ us hl => match us, hl with | [_, _], _ => rfl
theorem b_11 : PlainB d_11 p_least_by := fun _ _ _ _ _ _ us hl => match us, hl with | [_, _], _ => rfl
theorem b_12 : PlainB d_12 p_places_apart := fun _ _ _ _ _ _ us hl => match us, hl with | [_, _], _ => rfl
theorem b_13 : PlainB d_13 p_holds_if_wrong := fun _ _ _ _ _ _ us hl => match us, hl with | [_, _, _], _ => rfl
theorem b_14 : PlainB d_14 p_keys_for := fun _ _ _ _ _ _ us hl => match us, hl with | [_, _, _, _], _ => rfl
theorem b_15 : PlainB d_15 p_least_if_wrong := fun _ _ _ _ _ _ us hl => match us, hl with | [_, _, _], _ => rfl
theorem b_16 : PlainB d_16 p_least_of_v2 := fun _ _ _ _ _ _ us hl => match us, hl with | [_], _ => rfl
theorem b_17 : PlainB d_17 p_check_counts := fun _ _ _ _ _ _ us hl => match us, hl with | [_], _ => rfl
theorem b_18 : PlainB d_18 p_all_rows := fun _ _ _ _ _ _ us hl => match us, hl with | [_], _ => rfl
theorem b_19 : PlainB d_19 p_all_rings := fun _ _ _ _ _ _ us hl => match us, hl with | [_], _ => rfl
theorem b_20 : PlainB d_20 p_check_pieces := fun _ _ _ _ _ _ us hl => match us, hl with | [_, _], _ => rfl
theorem b_21 : PlainB d_21 p_has_piece := fun _ _ _ _ _ _ us hl => match us, hl with | [_, _], _ => rfl
theorem b_22 : PlainB d_22 p_rings_with := fun _ _ _ _ _ _ us hl => match us, hl with | [_, _, _], _ => rfl
theorem b_23 : PlainB d_23 p_best_rings := fun _ _ _ _ _ _ us hl => match us, hl with | [_, _], _ => rfl
theorem b_24 : PlainB d_24 p_told_rings := fun _ _ _ _ _ _ us hl => match us, hl with | [_, _, _, _], _ => rfl
theorem b_25 : PlainB d_25 p_grouped := fun _ _ _ _ _ _ us hl => match us, hl with | [_], _ => rfl
theorem b_26 : PlainB d_26 p_felt_on := fun _ _ _ _ _ _ us hl => match us, hl with | [_, _, _], _ => rfl
theorem b_27 : PlainB d_27 p_moved_on := fun _ _ _ _ _ _ us hl => match us, hl with | [_, _, _], _ => rfl
theorem b_28 : PlainB d_28 p_first_states := fun _ _ _ _ _ _ us hl => match us, hl with | [_], _ => rfl
theorem b_29 : PlainB d_29 p_Search___init__ := fun _ _ _ _ _ _ us hl => match us, hl with | [_, _, _, _], _ => rfl
theorem b_30 : PlainB d_30 p_Search_is_done := fun _ _ _ _ _ _ us hl => match us, hl with | [_, _], _ => rfl
theorem b_31 : PlainB d_31 p_Search_on := fun _ _ _ _ _ _ us hl => match us, hl with | [_, _, _], _ => rfl
theorem b_32 : PlainB d_32 p_Search_depth := fun _ _ _ _ _ _ us hl => match us, hl with | [_, _, _], _ => rfl
theorem b_33 : PlainB d_33 p_Search_branches_depth := fun _ _ _ _ _ _ us hl => match us, hl with | [_, _, _], _ => rfl
theorem b_34 : PlainB d_34 p_check_question := fun _ _ _ _ _ _ us hl => match us, hl with | [_, _], _ => rfl
theorem b_35 : PlainB d_35 p_depth_of := fun _ _ _ _ _ _ us hl => match us, hl with | [_, _, _], _ => rfl
theorem b_36 : PlainB d_36 p_best_of := fun _ _ _ _ _ _ us hl => match us, hl with | [_, _, _, _], _ => rfl
theorem b_37 : PlainB d_37 p_total_on := fun _ _ _ _ _ _ us hl => match us, hl with | [_, _, _, _], _ => rfl
theorem b_38 : PlainB d_38 p_least_total := fun _ _ _ _ _ _ us hl => match us, hl with | [_, _], _ => rfl
theorem b_39 : PlainB d_39 p_tree_by := fun _ _ _ _ _ _ us hl => match us, hl with | [_, _, _], _ => rfl
theorem b_40 : PlainB d_40 p_mean_plan := fun _ _ _ _ _ _ us hl => match us, hl with | [_, _], _ => rfl
theorem b_41 : PlainB d_41 p_count_in := fun _ _ _ _ _ _ us hl => match us, hl with | [_, _, _], _ => rfl
theorem b_42 : PlainB d_42 p_total_of := fun _ _ _ _ _ _ us hl => match us, hl with | [_, _, _], _ => rfl
theorem b_43 : PlainB d_43 p_check_rings := fun _ _ _ _ _ _ us hl => match us, hl with | [_], _ => rfl
theorem b_44 : PlainB d_44 p_least_which := fun _ _ _ _ _ _ us hl => match us, hl with | [_], _ => rfl
theorem b_45 : PlainB d_45 p_alike_in := fun _ _ _ _ _ _ us hl => match us, hl with | [_], _ => rfl
theorem b_46 : PlainB d_46 p__law_mix := fun _ _ _ _ _ _ us hl => match us, hl with | [_, _], _ => rfl
theorem b_47 : PlainB d_47 p__law_next := fun _ _ _ _ _ _ us hl => match us, hl with | [_, _], _ => rfl
theorem b_48 : PlainB d_48 p__law_ask_v2 := fun _ _ _ _ _ _ us hl => match us, hl with | [_, _, _], _ => rfl
theorem b_49 : PlainB d_49 p__law_told_v4 := fun _ _ _ _ _ _ us hl => match us, hl with | [_, _, _], _ => rfl
theorem b_50 : PlainB d_50 p__law_good_one_v2 := fun _ _ _ _ _ _ us hl => match us, hl with | [_], _ => rfl
theorem b_51 : PlainB d_51 p__law_kind_of_v2 := fun _ _ _ _ _ _ us hl => match us, hl with | [_], _ => rfl
theorem b_52 : PlainB d_52 p__law_bad_one_v2 := fun _ _ _ _ _ _ us hl => match us, hl with | [_, _], _ => rfl
theorem b_53 : PlainB d_53 p_law19 := fun _ _ _ _ _ _ us hl => match us, hl with | [_], _ => rfl
theorem pl : PlainAll fn P := ⟨b_0, b_1, b_2, b_3, b_4, b_5, b_6, b_7, b_8, b_9, b_10, b_11, b_12, b_13, b_14, b_15, b_16, b_17, b_18, b_19, b_20, b_21, b_22, b_23, b_24, b_25, b_26, b_27, b_28, b_29, b_30, b_31, b_32, b_33, b_34, b_35, b_36, b_37, b_38, b_39, b_40, b_41, b_42, b_43, b_44, b_45, b_46, b_47, b_48, b_49, b_50, b_51, b_52, b_53, trivial⟩
theorem cB : okB G fn P = true := by decide +kernel
end LW
set_option Elab.async false
set_option linter.all false
set_option maxRecDepth 100000
set_option maxHeartbeats 4000000
/-! k19: the values, and what is told of them. Printed by gen19.py. -/
namespace LW
open PySem KF
def isW (x : Str) : Out D → Bool
  | .ok (.py (.list [.str y])) _ => decide (y = x)
  | _ => false
theorem isW_ok {x : Str} {o : Out D} (h : isW x o = true) : ∃ h', o = .ok (.py (.list [.str x])) h' := by
  unfold isW at h
  split at h
  · rename_i y h'
    obtain rfl := of_decide_eq_true h
    exact ⟨h', rfl⟩
  · cases h
def tst (k : Int) (t : List PyData) (u : Int) (h : MH) (x : Str) : Bool := isW x (runF P 99 199 [.py (.int k), .py (.list t), .py (.int u)] h)
def g_ring : PyData := .tuple [.int 0, .int 1, .int 8]
def b_ring : List PyData := [.none, .tuple [], .list [.int 0, .int 1, .int 8], .tuple [.int 0, .int 9, .int 8], .tuple [.int 0, .int (-1), .int 8], .tuple [.int 0, .bool true, .int 8], .tuple [.str "0", .int 1, .int 8], .tuple [.int 0, .int 0, .int 0, .int 0, .int 0, .int 0, .int 0, .int 0, .int 0, .int 0], .int 3]
def g_row : PyData := .tuple [.int 0, .int 8, .int 0, .int 8, .int 0, .int 8, .int 0, .int 8, .int 0, .int 8, .int 0, .int 8, .int 0, .int 8, .int 0, .int 8, .int 0, .int 8, .int 0, .int 8, .int 0, .int 8, .int 0, .int 8, .int 0, .int 8, .int 0, .int 8, .int 0, .int 8, .int 0, .int 8, .int 0, .int 8, .int 0, .int 8, .int 0, .int 8, .int 0, .int 8]
def b_row : List PyData := [.none, .list [.int 0], .tuple [.int 0, .int 0, .int 0, .int 0, .int 0, .int 0, .int 0, .int 0, .int 0, .int 0, .int 0, .int 0, .int 0, .int 0, .int 0, .int 0, .int 0, .int 0, .int 0, .int 0, .int 0, .int 0, .int 0, .int 0, .int 0, .int 0, .int 0, .int 0, .int 0, .int 0, .int 0, .int 0, .int 0, .int 0, .int 0, .int 0, .int 0, .int 0, .int 0, .int 0, .int 0], .tuple [.int 0, .int 9], .tuple [.int (-1)], .tuple [.bool true], .tuple [.str "0"], .int 3]
def g_wrong : PyData := .int 10
def b_wrong : List PyData := [.none, .bool true, .str "1", .int (-1), .tuple [.int 1], .list [.int 1], .int 11]
def g_aim : PyData := .str "hold"
def b_aim : List PyData := [.none, .bool true, .str "keys", .str "", .tuple [.str "key"], .int 3]
def g_rings : PyData := .tuple [.tuple [.int 0, .int 1], .tuple [.int 2, .int 2, .int 2, .int 2, .int 2, .int 2, .int 2, .int 2, .int 2]]
def b_rings : List PyData := [.none, .tuple [], .list [.tuple [.int 0, .int 1]], .tuple [.tuple [.int 0, .int 1], .tuple [.int 0, .int 1], .tuple [.int 0, .int 1], .tuple [.int 0, .int 1], .tuple [.int 0, .int 1], .tuple [.int 0, .int 1], .tuple [.int 0, .int 1]], .tuple [.tuple [.int 0, .int 1], .tuple []], .tuple [.tuple [.int 0, .int 1], .tuple [.int 9]], .tuple [.tuple [.int 0, .int 1], .list [.int 0]], .tuple [.tuple [.int 0, .int 1], .int 0], .tuple [.tuple [.int 0, .int 1], .none], .int 3]
def g_counts : PyData := .tuple [.int 2, .int 0, .int 1]
def b_counts : List PyData := [.none, .tuple [], .list [.int 1], .tuple [.int 0, .int 0], .tuple [.int 41], .tuple [.int 1, .int (-1)], .tuple [.int 1, .bool true], .int 3]
def g_six : PyData := .int 3
def b_six : List PyData := [.none, .bool true, .str "1", .int (-1), .tuple [.int 1], .list [.int 1], .int 7, .int 0]
def g_three : PyData := .int 3
def b_three : List PyData := [.none, .bool true, .str "1", .int (-1), .tuple [.int 1], .list [.int 1], .int 4, .int 0]
def g_twenty : PyData := .int 20
def b_twenty : List PyData := [.none, .bool true, .str "1", .int (-1), .tuple [.int 1], .list [.int 1], .int 21]
theorem e0_0 (u : Int) (h : MH) (v1 v2 : PyData) : (b_ring.all fun v => tst 0 [v, v1, v2] u h "ring") = true := by kernel_rfl
theorem e0_1 (u : Int) (h : MH) (v2 : PyData) : (b_row.all fun v => tst 0 [g_ring, v, v2] u h "row") = true := by kernel_rfl
theorem e0_2 (u : Int) (h : MH) : (b_wrong.all fun v => tst 0 [g_ring, g_row, v] u h "number") = true := by kernel_rfl
theorem e1_0 (u : Int) (h : MH) (v1 v2 : PyData) : (b_ring.all fun v => tst 1 [v, v1, v2] u h "ring") = true := by kernel_rfl
theorem e1_1 (u : Int) (h : MH) (v2 : PyData) : (b_aim.all fun v => tst 1 [g_ring, v, v2] u h "aim") = true := by kernel_rfl
theorem e1_2 (u : Int) (h : MH) : (b_wrong.all fun v => tst 1 [g_ring, g_aim, v] u h "number") = true := by kernel_rfl
theorem e2_0 (h : MH) : ([0, 1, 2, 3, 4, 5].all fun (u : Int) => b_rings.all fun v => tst 2 [v] u h "rings") = true := by kernel_rfl
theorem e3_0 (h : MH) (v1 : PyData) : ([0, 1, 2, 3, 4, 5].all fun (u : Int) => b_ring.all fun v => tst 3 [v, v1] u h "ring") = true := by kernel_rfl
theorem e3_1 (h : MH) : ([0, 1, 2, 3, 4, 5].all fun (u : Int) => b_aim.all fun v => tst 3 [g_ring, v] u h "aim") = true := by kernel_rfl
theorem e4_0 (u : Int) (h : MH) (v1 : PyData) : (b_counts.all fun v => tst 4 [v, v1] u h "counts") = true := by kernel_rfl
theorem e4_1 (u : Int) (h : MH) : (b_aim.all fun v => tst 4 [g_counts, v] u h "aim") = true := by kernel_rfl
theorem e5_0 (u : Int) (h : MH) (v1 v2 v3 : PyData) : (b_six.all fun v => tst 5 [v, v1, v2, v3] u h "number") = true := by kernel_rfl
theorem e5_1 (u : Int) (h : MH) (v2 v3 : PyData) : (b_three.all fun v => tst 5 [g_six, v, v2, v3] u h "number") = true := by kernel_rfl
theorem e5_2 (u : Int) (h : MH) (v3 : PyData) : (b_twenty.all fun v => tst 5 [g_six, g_three, v, v3] u h "number") = true := by kernel_rfl
theorem e5_3 (u : Int) (h : MH) : (b_aim.all fun v => tst 5 [g_six, g_three, g_twenty, v] u h "aim") = true := by kernel_rfl
theorem m4 (u : Int) (v : PyData) (h : MH) : tst 4 [.tuple [.int 9], v] u h "many" = true := by kernel_rfl
end LW
set_option Elab.async false
set_option linter.all false
set_option maxRecDepth 100000
set_option maxHeartbeats 4000000
/-! k19: good values, values that are none. Printed by gen19.py. -/
namespace LW
open PySem KF
def gdKV : KVs := [(.str "ring", g_ring), (.str "row", g_row), (.str "wrong", g_wrong), (.str "aim", g_aim), (.str "rings", g_rings)]
def mdKV : KVs := [(.str "counts", g_counts), (.str "six", g_six), (.str "three", g_three), (.str "twenty", g_twenty)]
def enKV : KVs := [(.str "wrong", .int 11), (.str "six", .int 7), (.str "three", .int 4), (.str "twenty", .int 21)]
def lastB : K := .ret (.ix (.var 2) (.fn 12 (.cons (.varV 0) (.cons (.bi (.len) (.cons (.var 2) (.nil))) (.nil)))))
theorem gd_aim_3 (x0 x1 x2 : MO) : runF P 99 200 [.py (.str "aim")] [x0, x1, x2] = .ok (.py g_aim) ([x0, x1, x2] ++ [.dct gdKV, .dct mdKV]) := by kernel_rfl
theorem bp_aim_3 (F : FnS) (x0 x1 x2 : MO) : (ev F k__law_bad_one_v2).S [.v (.loc 1), .v (.py (.str "aim")), .u, .u, .u] [x0, x1, x2] = (ev F lastB).S [.v (.loc 1), .v (.py (.str "aim")), .o b_aim, .v (.loc 3), .u] ([x0, x1, x2] ++ [.dct enKV]) := by kernel_rfl
theorem gd_aim_4 (x0 x1 x2 x3 : MO) : runF P 99 200 [.py (.str "aim")] [x0, x1, x2, x3] = .ok (.py g_aim) ([x0, x1, x2, x3] ++ [.dct gdKV, .dct mdKV]) := by kernel_rfl
theorem bp_aim_4 (F : FnS) (x0 x1 x2 x3 : MO) : (ev F k__law_bad_one_v2).S [.v (.loc 1), .v (.py (.str "aim")), .u, .u, .u] [x0, x1, x2, x3] = (ev F lastB).S [.v (.loc 1), .v (.py (.str "aim")), .o b_aim, .v (.loc 4), .u] ([x0, x1, x2, x3] ++ [.dct enKV]) := by kernel_rfl
theorem gd_aim_5 (x0 x1 x2 x3 x4 : MO) : runF P 99 200 [.py (.str "aim")] [x0, x1, x2, x3, x4] = .ok (.py g_aim) ([x0, x1, x2, x3, x4] ++ [.dct gdKV, .dct mdKV]) := by kernel_rfl
theorem bp_aim_5 (F : FnS) (x0 x1 x2 x3 x4 : MO) : (ev F k__law_bad_one_v2).S [.v (.loc 1), .v (.py (.str "aim")), .u, .u, .u] [x0, x1, x2, x3, x4] = (ev F lastB).S [.v (.loc 1), .v (.py (.str "aim")), .o b_aim, .v (.loc 5), .u] ([x0, x1, x2, x3, x4] ++ [.dct enKV]) := by kernel_rfl
theorem gd_aim_6 (x0 x1 x2 x3 x4 x5 : MO) : runF P 99 200 [.py (.str "aim")] [x0, x1, x2, x3, x4, x5] = .ok (.py g_aim) ([x0, x1, x2, x3, x4, x5] ++ [.dct gdKV, .dct mdKV]) := by kernel_rfl
theorem bp_aim_6 (F : FnS) (x0 x1 x2 x3 x4 x5 : MO) : (ev F k__law_bad_one_v2).S [.v (.loc 1), .v (.py (.str "aim")), .u, .u, .u] [x0, x1, x2, x3, x4, x5] = (ev F lastB).S [.v (.loc 1), .v (.py (.str "aim")), .o b_aim, .v (.loc 6), .u] ([x0, x1, x2, x3, x4, x5] ++ [.dct enKV]) := by kernel_rfl
theorem gd_aim_7 (x0 x1 x2 x3 x4 x5 x6 : MO) : runF P 99 200 [.py (.str "aim")] [x0, x1, x2, x3, x4, x5, x6] = .ok (.py g_aim) ([x0, x1, x2, x3, x4, x5, x6] ++ [.dct gdKV, .dct mdKV]) := by kernel_rfl
theorem bp_aim_7 (F : FnS) (x0 x1 x2 x3 x4 x5 x6 : MO) : (ev F k__law_bad_one_v2).S [.v (.loc 1), .v (.py (.str "aim")), .u, .u, .u] [x0, x1, x2, x3, x4, x5, x6] = (ev F lastB).S [.v (.loc 1), .v (.py (.str "aim")), .o b_aim, .v (.loc 7), .u] ([x0, x1, x2, x3, x4, x5, x6] ++ [.dct enKV]) := by kernel_rfl
theorem gd_aim_8 (x0 x1 x2 x3 x4 x5 x6 x7 : MO) : runF P 99 200 [.py (.str "aim")] [x0, x1, x2, x3, x4, x5, x6, x7] = .ok (.py g_aim) ([x0, x1, x2, x3, x4, x5, x6, x7] ++ [.dct gdKV, .dct mdKV]) := by kernel_rfl
theorem bp_aim_8 (F : FnS) (x0 x1 x2 x3 x4 x5 x6 x7 : MO) : (ev F k__law_bad_one_v2).S [.v (.loc 1), .v (.py (.str "aim")), .u, .u, .u] [x0, x1, x2, x3, x4, x5, x6, x7] = (ev F lastB).S [.v (.loc 1), .v (.py (.str "aim")), .o b_aim, .v (.loc 8), .u] ([x0, x1, x2, x3, x4, x5, x6, x7] ++ [.dct enKV]) := by kernel_rfl
theorem gd_counts_2 (x0 x1 : MO) : runF P 99 200 [.py (.str "counts")] [x0, x1] = .ok (.py g_counts) ([x0, x1] ++ [.dct gdKV, .dct mdKV]) := by kernel_rfl
theorem bp_counts_2 (F : FnS) (x0 x1 : MO) : (ev F k__law_bad_one_v2).S [.v (.loc 1), .v (.py (.str "counts")), .u, .u, .u] [x0, x1] = (ev F lastB).S [.v (.loc 1), .v (.py (.str "counts")), .o b_counts, .v (.loc 2), .u] ([x0, x1] ++ [.dct enKV]) := by kernel_rfl
theorem gd_ring_2 (x0 x1 : MO) : runF P 99 200 [.py (.str "ring")] [x0, x1] = .ok (.py g_ring) ([x0, x1] ++ [.dct gdKV, .dct mdKV]) := by kernel_rfl
theorem bp_ring_2 (F : FnS) (x0 x1 : MO) : (ev F k__law_bad_one_v2).S [.v (.loc 1), .v (.py (.str "ring")), .u, .u, .u] [x0, x1] = (ev F lastB).S [.v (.loc 1), .v (.py (.str "ring")), .o b_ring, .v (.loc 2), .u] ([x0, x1] ++ [.dct enKV]) := by kernel_rfl
theorem gd_rings_2 (x0 x1 : MO) : runF P 99 200 [.py (.str "rings")] [x0, x1] = .ok (.py g_rings) ([x0, x1] ++ [.dct gdKV, .dct mdKV]) := by kernel_rfl
theorem bp_rings_2 (F : FnS) (x0 x1 : MO) : (ev F k__law_bad_one_v2).S [.v (.loc 1), .v (.py (.str "rings")), .u, .u, .u] [x0, x1] = (ev F lastB).S [.v (.loc 1), .v (.py (.str "rings")), .o b_rings, .v (.loc 2), .v (.py (.tuple [.int 0, .int 1]))] ([x0, x1] ++ [.dct enKV]) := by kernel_rfl
theorem gd_row_3 (x0 x1 x2 : MO) : runF P 99 200 [.py (.str "row")] [x0, x1, x2] = .ok (.py g_row) ([x0, x1, x2] ++ [.dct gdKV, .dct mdKV]) := by kernel_rfl
theorem bp_row_3 (F : FnS) (x0 x1 x2 : MO) : (ev F k__law_bad_one_v2).S [.v (.loc 1), .v (.py (.str "row")), .u, .u, .u] [x0, x1, x2] = (ev F lastB).S [.v (.loc 1), .v (.py (.str "row")), .o b_row, .v (.loc 3), .u] ([x0, x1, x2] ++ [.dct enKV]) := by kernel_rfl
theorem gd_row_4 (x0 x1 x2 x3 : MO) : runF P 99 200 [.py (.str "row")] [x0, x1, x2, x3] = .ok (.py g_row) ([x0, x1, x2, x3] ++ [.dct gdKV, .dct mdKV]) := by kernel_rfl
theorem bp_row_4 (F : FnS) (x0 x1 x2 x3 : MO) : (ev F k__law_bad_one_v2).S [.v (.loc 1), .v (.py (.str "row")), .u, .u, .u] [x0, x1, x2, x3] = (ev F lastB).S [.v (.loc 1), .v (.py (.str "row")), .o b_row, .v (.loc 4), .u] ([x0, x1, x2, x3] ++ [.dct enKV]) := by kernel_rfl
theorem gd_six_2 (x0 x1 : MO) : runF P 99 200 [.py (.str "six")] [x0, x1] = .ok (.py g_six) ([x0, x1] ++ [.dct gdKV, .dct mdKV]) := by kernel_rfl
theorem bp_six_2 (F : FnS) (x0 x1 : MO) : (ev F k__law_bad_one_v2).S [.v (.loc 1), .v (.py (.str "six")), .u, .u, .u] [x0, x1] = (ev F lastB).S [.v (.loc 1), .v (.py (.str "six")), .o b_six, .v (.loc 2), .u] ([x0, x1] ++ [.dct enKV]) := by kernel_rfl
theorem gd_three_3 (x0 x1 x2 : MO) : runF P 99 200 [.py (.str "three")] [x0, x1, x2] = .ok (.py g_three) ([x0, x1, x2] ++ [.dct gdKV, .dct mdKV]) := by kernel_rfl
theorem bp_three_3 (F : FnS) (x0 x1 x2 : MO) : (ev F k__law_bad_one_v2).S [.v (.loc 1), .v (.py (.str "three")), .u, .u, .u] [x0, x1, x2] = (ev F lastB).S [.v (.loc 1), .v (.py (.str "three")), .o b_three, .v (.loc 3), .u] ([x0, x1, x2] ++ [.dct enKV]) := by kernel_rfl
theorem gd_three_4 (x0 x1 x2 x3 : MO) : runF P 99 200 [.py (.str "three")] [x0, x1, x2, x3] = .ok (.py g_three) ([x0, x1, x2, x3] ++ [.dct gdKV, .dct mdKV]) := by kernel_rfl
theorem bp_three_4 (F : FnS) (x0 x1 x2 x3 : MO) : (ev F k__law_bad_one_v2).S [.v (.loc 1), .v (.py (.str "three")), .u, .u, .u] [x0, x1, x2, x3] = (ev F lastB).S [.v (.loc 1), .v (.py (.str "three")), .o b_three, .v (.loc 4), .u] ([x0, x1, x2, x3] ++ [.dct enKV]) := by kernel_rfl
theorem gd_twenty_4 (x0 x1 x2 x3 : MO) : runF P 99 200 [.py (.str "twenty")] [x0, x1, x2, x3] = .ok (.py g_twenty) ([x0, x1, x2, x3] ++ [.dct gdKV, .dct mdKV]) := by kernel_rfl
theorem bp_twenty_4 (F : FnS) (x0 x1 x2 x3 : MO) : (ev F k__law_bad_one_v2).S [.v (.loc 1), .v (.py (.str "twenty")), .u, .u, .u] [x0, x1, x2, x3] = (ev F lastB).S [.v (.loc 1), .v (.py (.str "twenty")), .o b_twenty, .v (.loc 4), .u] ([x0, x1, x2, x3] ++ [.dct enKV]) := by kernel_rfl
theorem gd_twenty_5 (x0 x1 x2 x3 x4 : MO) : runF P 99 200 [.py (.str "twenty")] [x0, x1, x2, x3, x4] = .ok (.py g_twenty) ([x0, x1, x2, x3, x4] ++ [.dct gdKV, .dct mdKV]) := by kernel_rfl
theorem bp_twenty_5 (F : FnS) (x0 x1 x2 x3 x4 : MO) : (ev F k__law_bad_one_v2).S [.v (.loc 1), .v (.py (.str "twenty")), .u, .u, .u] [x0, x1, x2, x3, x4] = (ev F lastB).S [.v (.loc 1), .v (.py (.str "twenty")), .o b_twenty, .v (.loc 5), .u] ([x0, x1, x2, x3, x4] ++ [.dct enKV]) := by kernel_rfl
theorem gd_twenty_6 (x0 x1 x2 x3 x4 x5 : MO) : runF P 99 200 [.py (.str "twenty")] [x0, x1, x2, x3, x4, x5] = .ok (.py g_twenty) ([x0, x1, x2, x3, x4, x5] ++ [.dct gdKV, .dct mdKV]) := by kernel_rfl
theorem bp_twenty_6 (F : FnS) (x0 x1 x2 x3 x4 x5 : MO) : (ev F k__law_bad_one_v2).S [.v (.loc 1), .v (.py (.str "twenty")), .u, .u, .u] [x0, x1, x2, x3, x4, x5] = (ev F lastB).S [.v (.loc 1), .v (.py (.str "twenty")), .o b_twenty, .v (.loc 6), .u] ([x0, x1, x2, x3, x4, x5] ++ [.dct enKV]) := by kernel_rfl
theorem gd_wrong_4 (x0 x1 x2 x3 : MO) : runF P 99 200 [.py (.str "wrong")] [x0, x1, x2, x3] = .ok (.py g_wrong) ([x0, x1, x2, x3] ++ [.dct gdKV, .dct mdKV]) := by kernel_rfl
theorem bp_wrong_4 (F : FnS) (x0 x1 x2 x3 : MO) : (ev F k__law_bad_one_v2).S [.v (.loc 1), .v (.py (.str "wrong")), .u, .u, .u] [x0, x1, x2, x3] = (ev F lastB).S [.v (.loc 1), .v (.py (.str "wrong")), .o b_wrong, .v (.loc 4), .u] ([x0, x1, x2, x3] ++ [.dct enKV]) := by kernel_rfl
theorem gd_wrong_5 (x0 x1 x2 x3 x4 : MO) : runF P 99 200 [.py (.str "wrong")] [x0, x1, x2, x3, x4] = .ok (.py g_wrong) ([x0, x1, x2, x3, x4] ++ [.dct gdKV, .dct mdKV]) := by kernel_rfl
theorem bp_wrong_5 (F : FnS) (x0 x1 x2 x3 x4 : MO) : (ev F k__law_bad_one_v2).S [.v (.loc 1), .v (.py (.str "wrong")), .u, .u, .u] [x0, x1, x2, x3, x4] = (ev F lastB).S [.v (.loc 1), .v (.py (.str "wrong")), .o b_wrong, .v (.loc 5), .u] ([x0, x1, x2, x3, x4] ++ [.dct enKV]) := by kernel_rfl
theorem gd_wrong_6 (x0 x1 x2 x3 x4 x5 : MO) : runF P 99 200 [.py (.str "wrong")] [x0, x1, x2, x3, x4, x5] = .ok (.py g_wrong) ([x0, x1, x2, x3, x4, x5] ++ [.dct gdKV, .dct mdKV]) := by kernel_rfl
theorem bp_wrong_6 (F : FnS) (x0 x1 x2 x3 x4 x5 : MO) : (ev F k__law_bad_one_v2).S [.v (.loc 1), .v (.py (.str "wrong")), .u, .u, .u] [x0, x1, x2, x3, x4, x5] = (ev F lastB).S [.v (.loc 1), .v (.py (.str "wrong")), .o b_wrong, .v (.loc 6), .u] ([x0, x1, x2, x3, x4, x5] ++ [.dct enKV]) := by kernel_rfl
theorem kd_ring (h : MH) : runF P 99 201 [.py (.str "ring")] h = .ok (.py (.str "ring")) h := by kernel_rfl
theorem kd_row (h : MH) : runF P 99 201 [.py (.str "row")] h = .ok (.py (.str "row")) h := by kernel_rfl
theorem kd_wrong (h : MH) : runF P 99 201 [.py (.str "wrong")] h = .ok (.py (.str "number")) h := by kernel_rfl
theorem kd_aim (h : MH) : runF P 99 201 [.py (.str "aim")] h = .ok (.py (.str "aim")) h := by kernel_rfl
theorem kd_rings (h : MH) : runF P 99 201 [.py (.str "rings")] h = .ok (.py (.str "rings")) h := by kernel_rfl
theorem kd_counts (h : MH) : runF P 99 201 [.py (.str "counts")] h = .ok (.py (.str "counts")) h := by kernel_rfl
theorem kd_six (h : MH) : runF P 99 201 [.py (.str "six")] h = .ok (.py (.str "number")) h := by kernel_rfl
theorem kd_three (h : MH) : runF P 99 201 [.py (.str "three")] h = .ok (.py (.str "number")) h := by kernel_rfl
theorem kd_twenty (h : MH) : runF P 99 201 [.py (.str "twenty")] h = .ok (.py (.str "number")) h := by kernel_rfl
end LW
set_option Elab.async false
set_option linter.all false
set_option maxRecDepth 100000
set_option maxHeartbeats 4000000
/-! k19: a word at a place of its row. Printed by gen19.py. -/
namespace LW
open PySem KF
theorem HS_app {h : MH} (s : HS h) (r : MH) : HS (h ++ r) := by
  obtain ⟨cs, st, ix, l, e0, e1⟩ := s
  have l1 : 1 < h.length := (List.getElem?_eq_some_iff.mp e1).1
  exact ⟨cs, st, ix, l, by rw [List.getElem?_append_left (by omega)]; exact e0, by rw [List.getElem?_append_left l1]; exact e1⟩
structure W19 where
  w : Str
  g : PyData
  b : List PyData
  kd : Str
def WOk (x : W19) (i : Nat) : Prop := (∀ h, HS h → 2 + i ≤ h.length → h.length ≤ 2 + 2 * i →
    (∃ h', runF P 99 200 [.py (.str x.w)] h = .ok (.py x.g) h' ∧ HS h' ∧ h'.length = h.length + 2) ∧
    (∃ v h', runF P 99 202 [.loc 1, .py (.str x.w)] h = .ok (.py v) h' ∧ v ∈ x.b ∧ HS h' ∧ h'.length = h.length + 1)) ∧
    ∀ h, runF P 99 201 [.py (.str x.w)] h = .ok (.py (.str x.kd)) h
theorem good_of {w : Str} {g : PyData} {h : MH} (s : HS h) (e : runF P 99 200 [.py (.str w)] h = .ok (.py g) (h ++ [.dct gdKV, .dct mdKV])) : ∃ h', runF P 99 200 [.py (.str w)] h = .ok (.py g) h' ∧ HS h' ∧ h'.length = h.length + 2 := ⟨_, e, HS_app s _, by simp⟩
theorem bad_of {w : Str} {b : List PyData} {h : MH} {s4 : Sl} (s : HS h) (b0 : 0 < b.length) (b1 : b.length < 1000)
    (e : ∀ F, (ev F k__law_bad_one_v2).S [.v (.loc 1), .v (.py (.str w)), .u, .u, .u] h = (ev F lastB).S [.v (.loc 1), .v (.py (.str w)), .o b, .v (.loc h.length), s4] (h ++ [.dct enKV])) :
    ∃ v h', runF P 99 202 [.loc 1, .py (.str w)] h = .ok (.py v) h' ∧ v ∈ b ∧ HS h' ∧ h'.length = h.length + 1 := by
  obtain ⟨r, h2, e2, r0, r1, s2, q2⟩ := next_ok (P := P) rfl 97 (b := (b.length : Int)) (HS_app s [.dct enKV]) (by omega) (by omega)
  have hx : L2.atI b r = some (b[r.toNat]'(by omega)) := by
    have := atI_nat b r.toNat (by omega)
    rw [List.getElem?_eq_getElem (by omega)] at this
    rw [show ((r.toNat : Nat) : Int) = r by omega] at this
    exact this
  refine ⟨b[r.toNat]'(by omega), h2, ?_, List.getElem_mem _, s2, by rw [q2.1]; simp⟩
  rw [run_of (d := p__law_bad_one_v2) rfl]
  show endS ((ev (runF P 98) k__law_bad_one_v2).S [.v (.loc 1), .v (.py (.str w)), .u, .u, .u] h) = _
  rw [e]
  simp [lastB, look, lookV, Sl.get, Sl.getV, biF, fLen, lenD, ixU, ixO, ixD, dctAt, e2, hx]
def w_ring : W19 := ⟨"ring", g_ring, b_ring, "ring"⟩
def w_row : W19 := ⟨"row", g_row, b_row, "row"⟩
def w_wrong : W19 := ⟨"wrong", g_wrong, b_wrong, "number"⟩
def w_aim : W19 := ⟨"aim", g_aim, b_aim, "aim"⟩
def w_rings : W19 := ⟨"rings", g_rings, b_rings, "rings"⟩
def w_counts : W19 := ⟨"counts", g_counts, b_counts, "counts"⟩
def w_six : W19 := ⟨"six", g_six, b_six, "number"⟩
def w_three : W19 := ⟨"three", g_three, b_three, "number"⟩
def w_twenty : W19 := ⟨"twenty", g_twenty, b_twenty, "number"⟩
theorem wk_ring_0 : WOk w_ring 0 := by
  refine ⟨fun h s l0 l1 => ?_, kd_ring⟩
  have hl : h.length = 2 := by omega
  · match h, hl, s with
    | [x0, x1], _, s => exact ⟨good_of s (gd_ring_2 x0 x1), bad_of s (by decide) (by decide) (fun F => bp_ring_2 F x0 x1)⟩
theorem wk_row_1 : WOk w_row 1 := by
  refine ⟨fun h s l0 l1 => ?_, kd_row⟩
  have hl : h.length = 3 ∨ h.length = 4 := by omega
  rcases hl with hl | hl
  · match h, hl, s with
    | [x0, x1, x2], _, s => exact ⟨good_of s (gd_row_3 x0 x1 x2), bad_of s (by decide) (by decide) (fun F => bp_row_3 F x0 x1 x2)⟩
  · match h, hl, s with
    | [x0, x1, x2, x3], _, s => exact ⟨good_of s (gd_row_4 x0 x1 x2 x3), bad_of s (by decide) (by decide) (fun F => bp_row_4 F x0 x1 x2 x3)⟩
theorem wk_wrong_2 : WOk w_wrong 2 := by
  refine ⟨fun h s l0 l1 => ?_, kd_wrong⟩
  have hl : h.length = 4 ∨ h.length = 5 ∨ h.length = 6 := by omega
  rcases hl with hl | hl | hl
  · match h, hl, s with
    | [x0, x1, x2, x3], _, s => exact ⟨good_of s (gd_wrong_4 x0 x1 x2 x3), bad_of s (by decide) (by decide) (fun F => bp_wrong_4 F x0 x1 x2 x3)⟩
  · match h, hl, s with
    | [x0, x1, x2, x3, x4], _, s => exact ⟨good_of s (gd_wrong_5 x0 x1 x2 x3 x4), bad_of s (by decide) (by decide) (fun F => bp_wrong_5 F x0 x1 x2 x3 x4)⟩
  · match h, hl, s with
    | [x0, x1, x2, x3, x4, x5], _, s => exact ⟨good_of s (gd_wrong_6 x0 x1 x2 x3 x4 x5), bad_of s (by decide) (by decide) (fun F => bp_wrong_6 F x0 x1 x2 x3 x4 x5)⟩
theorem wk_aim_1 : WOk w_aim 1 := by
  refine ⟨fun h s l0 l1 => ?_, kd_aim⟩
  have hl : h.length = 3 ∨ h.length = 4 := by omega
  rcases hl with hl | hl
  · match h, hl, s with
    | [x0, x1, x2], _, s => exact ⟨good_of s (gd_aim_3 x0 x1 x2), bad_of s (by decide) (by decide) (fun F => bp_aim_3 F x0 x1 x2)⟩
  · match h, hl, s with
    | [x0, x1, x2, x3], _, s => exact ⟨good_of s (gd_aim_4 x0 x1 x2 x3), bad_of s (by decide) (by decide) (fun F => bp_aim_4 F x0 x1 x2 x3)⟩
theorem wk_rings_0 : WOk w_rings 0 := by
  refine ⟨fun h s l0 l1 => ?_, kd_rings⟩
  have hl : h.length = 2 := by omega
  · match h, hl, s with
    | [x0, x1], _, s => exact ⟨good_of s (gd_rings_2 x0 x1), bad_of s (by decide) (by decide) (fun F => bp_rings_2 F x0 x1)⟩
theorem wk_counts_0 : WOk w_counts 0 := by
  refine ⟨fun h s l0 l1 => ?_, kd_counts⟩
  have hl : h.length = 2 := by omega
  · match h, hl, s with
    | [x0, x1], _, s => exact ⟨good_of s (gd_counts_2 x0 x1), bad_of s (by decide) (by decide) (fun F => bp_counts_2 F x0 x1)⟩
theorem wk_six_0 : WOk w_six 0 := by
  refine ⟨fun h s l0 l1 => ?_, kd_six⟩
  have hl : h.length = 2 := by omega
  · match h, hl, s with
    | [x0, x1], _, s => exact ⟨good_of s (gd_six_2 x0 x1), bad_of s (by decide) (by decide) (fun F => bp_six_2 F x0 x1)⟩
theorem wk_three_1 : WOk w_three 1 := by
  refine ⟨fun h s l0 l1 => ?_, kd_three⟩
  have hl : h.length = 3 ∨ h.length = 4 := by omega
  rcases hl with hl | hl
  · match h, hl, s with
    | [x0, x1, x2], _, s => exact ⟨good_of s (gd_three_3 x0 x1 x2), bad_of s (by decide) (by decide) (fun F => bp_three_3 F x0 x1 x2)⟩
  · match h, hl, s with
    | [x0, x1, x2, x3], _, s => exact ⟨good_of s (gd_three_4 x0 x1 x2 x3), bad_of s (by decide) (by decide) (fun F => bp_three_4 F x0 x1 x2 x3)⟩
theorem wk_twenty_2 : WOk w_twenty 2 := by
  refine ⟨fun h s l0 l1 => ?_, kd_twenty⟩
  have hl : h.length = 4 ∨ h.length = 5 ∨ h.length = 6 := by omega
  rcases hl with hl | hl | hl
  · match h, hl, s with
    | [x0, x1, x2, x3], _, s => exact ⟨good_of s (gd_twenty_4 x0 x1 x2 x3), bad_of s (by decide) (by decide) (fun F => bp_twenty_4 F x0 x1 x2 x3)⟩
  · match h, hl, s with
    | [x0, x1, x2, x3, x4], _, s => exact ⟨good_of s (gd_twenty_5 x0 x1 x2 x3 x4), bad_of s (by decide) (by decide) (fun F => bp_twenty_5 F x0 x1 x2 x3 x4)⟩
  · match h, hl, s with
    | [x0, x1, x2, x3, x4, x5], _, s => exact ⟨good_of s (gd_twenty_6 x0 x1 x2 x3 x4 x5), bad_of s (by decide) (by decide) (fun F => bp_twenty_6 F x0 x1 x2 x3 x4 x5)⟩
theorem wk_aim_3 : WOk w_aim 3 := by
  refine ⟨fun h s l0 l1 => ?_, kd_aim⟩
  have hl : h.length = 5 ∨ h.length = 6 ∨ h.length = 7 ∨ h.length = 8 := by omega
  rcases hl with hl | hl | hl | hl
  · match h, hl, s with
    | [x0, x1, x2, x3, x4], _, s => exact ⟨good_of s (gd_aim_5 x0 x1 x2 x3 x4), bad_of s (by decide) (by decide) (fun F => bp_aim_5 F x0 x1 x2 x3 x4)⟩
  · match h, hl, s with
    | [x0, x1, x2, x3, x4, x5], _, s => exact ⟨good_of s (gd_aim_6 x0 x1 x2 x3 x4 x5), bad_of s (by decide) (by decide) (fun F => bp_aim_6 F x0 x1 x2 x3 x4 x5)⟩
  · match h, hl, s with
    | [x0, x1, x2, x3, x4, x5, x6], _, s => exact ⟨good_of s (gd_aim_7 x0 x1 x2 x3 x4 x5 x6), bad_of s (by decide) (by decide) (fun F => bp_aim_7 F x0 x1 x2 x3 x4 x5 x6)⟩
  · match h, hl, s with
    | [x0, x1, x2, x3, x4, x5, x6, x7], _, s => exact ⟨good_of s (gd_aim_8 x0 x1 x2 x3 x4 x5 x6 x7), bad_of s (by decide) (by decide) (fun F => bp_aim_8 F x0 x1 x2 x3 x4 x5 x6 x7)⟩
def ws19 : Nat → List W19
  | 0 => [w_ring, w_row, w_wrong]
  | 1 => [w_ring, w_aim, w_wrong]
  | 2 => [w_rings]
  | 3 => [w_ring, w_aim]
  | 4 => [w_counts, w_aim]
  | _ => [w_six, w_three, w_twenty, w_aim]
theorem ws_ok (k : Nat) : ∀ i x, (ws19 k)[i]? = some x → WOk x i := by
  intro i x e
  match k with
  | 0 => 
    match i with
      | 0 => obtain rfl := Option.some.inj e; exact wk_ring_0
      | 1 => obtain rfl := Option.some.inj e; exact wk_row_1
      | 2 => obtain rfl := Option.some.inj e; exact wk_wrong_2
      | i + 3 => cases e
  | 1 => 
    match i with
      | 0 => obtain rfl := Option.some.inj e; exact wk_ring_0
      | 1 => obtain rfl := Option.some.inj e; exact wk_aim_1
      | 2 => obtain rfl := Option.some.inj e; exact wk_wrong_2
      | i + 3 => cases e
  | 2 => 
    match i with
      | 0 => obtain rfl := Option.some.inj e; exact wk_rings_0
      | i + 1 => cases e
  | 3 => 
    match i with
      | 0 => obtain rfl := Option.some.inj e; exact wk_ring_0
      | 1 => obtain rfl := Option.some.inj e; exact wk_aim_1
      | i + 2 => cases e
  | 4 => 
    match i with
      | 0 => obtain rfl := Option.some.inj e; exact wk_counts_0
      | 1 => obtain rfl := Option.some.inj e; exact wk_aim_1
      | i + 2 => cases e
  | k + 5 => 
    match i with
      | 0 => obtain rfl := Option.some.inj e; exact wk_six_0
      | 1 => obtain rfl := Option.some.inj e; exact wk_three_1
      | 2 => obtain rfl := Option.some.inj e; exact wk_twenty_2
      | 3 => obtain rfl := Option.some.inj e; exact wk_aim_3
      | i + 4 => cases e
end LW
set_option Elab.async false
set_option linter.all false
set_option maxRecDepth 100000
set_option maxHeartbeats 4000000
/-! k19: the good questions. Printed by gen19.py. -/
namespace LW
open PySem KF
theorem g0 (u : Int) (x0 x1 x2 x3 x4 x5 x6 x7 : MO) : tst 0 [g_ring, g_row, g_wrong] u [x0, x1, x2, x3, x4, x5, x6, x7] "good" = true := by kernel_rfl
theorem g1 (u : Int) (x0 x1 x2 x3 x4 x5 x6 x7 : MO) : tst 1 [g_ring, g_aim, g_wrong] u [x0, x1, x2, x3, x4, x5, x6, x7] "good" = true := by kernel_rfl
theorem g2_0 (x0 x1 x2 x3 : MO) : tst 2 [g_rings] 0 [x0, x1, x2, x3] "good" = true := by kernel_rfl
theorem g2_1 (x0 x1 x2 x3 : MO) : tst 2 [g_rings] 1 [x0, x1, x2, x3] "good" = true := by kernel_rfl
theorem g2_2 (x0 x1 x2 x3 : MO) : tst 2 [g_rings] 2 [x0, x1, x2, x3] "good" = true := by kernel_rfl
theorem g2_3 (x0 x1 x2 x3 : MO) : tst 2 [g_rings] 3 [x0, x1, x2, x3] "good" = true := by kernel_rfl
theorem g2_4 (x0 x1 x2 x3 : MO) : tst 2 [g_rings] 4 [x0, x1, x2, x3] "good" = true := by kernel_rfl
theorem g2_5 (x0 x1 x2 x3 : MO) : tst 2 [g_rings] 5 [x0, x1, x2, x3] "good" = true := by kernel_rfl
theorem g3_0 (x0 x1 x2 x3 x4 x5 : MO) : tst 3 [g_ring, g_aim] 0 [x0, x1, x2, x3, x4, x5] "good" = true := by kernel_rfl
theorem g3_1 (x0 x1 x2 x3 x4 x5 : MO) : tst 3 [g_ring, g_aim] 1 [x0, x1, x2, x3, x4, x5] "good" = true := by kernel_rfl
theorem g3_2 (x0 x1 x2 x3 x4 x5 : MO) : tst 3 [g_ring, g_aim] 2 [x0, x1, x2, x3, x4, x5] "good" = true := by kernel_rfl
theorem g3_3 (x0 x1 x2 x3 x4 x5 : MO) : tst 3 [g_ring, g_aim] 3 [x0, x1, x2, x3, x4, x5] "good" = true := by kernel_rfl
theorem g3_4 (x0 x1 x2 x3 x4 x5 : MO) : tst 3 [g_ring, g_aim] 4 [x0, x1, x2, x3, x4, x5] "good" = true := by kernel_rfl
theorem g3_5 (x0 x1 x2 x3 x4 x5 : MO) : tst 3 [g_ring, g_aim] 5 [x0, x1, x2, x3, x4, x5] "good" = true := by kernel_rfl
theorem g4 (u : Int) (x0 x1 x2 x3 x4 x5 : MO) : tst 4 [g_counts, g_aim] u [x0, x1, x2, x3, x4, x5] "good" = true := by kernel_rfl
theorem g5 (u : Int) (x0 x1 x2 x3 x4 x5 x6 x7 x8 x9 : MO) : tst 5 [g_six, g_three, g_twenty, g_aim] u [x0, x1, x2, x3, x4, x5, x6, x7, x8, x9] "good" = true := by kernel_rfl
end LW
set_option Elab.async false
set_option linter.all false
set_option maxRecDepth 100000
set_option maxHeartbeats 4000000
/-! k19: what is told. Printed by gen19.py. -/
namespace LW
open PySem KF
def Sel (x : W19) (f : Bool) (v : PyData) : Prop := if f = true then v ∈ x.b else v = x.g
def dueH : List W19 → List Bool → Str
  | x :: r, f :: s => if f = true then x.kd else dueH r s
  | _, _ => "good"
theorem in6 {u : Int} (u0 : 0 ≤ u) (u1 : u < 6) : u ∈ [(0 : Int), 1, 2, 3, 4, 5] := by
  have : u = 0 ∨ u = 1 ∨ u = 2 ∨ u = 3 ∨ u = 4 ∨ u = 5 := by omega
  simpa using this
theorem told_0 (f0 f1 f2 : Bool) (v0 v1 v2 : PyData) (c0 : Sel w_ring f0 v0) (c1 : Sel w_row f1 v1) (c2 : Sel w_wrong f2 v2) (u : Int) (u0 : 0 ≤ u) (u1 : u < 6) (h : MH) (hl : h.length = 2 + ((if f0 = true then 1 else 2) + (if f1 = true then 1 else 2) + (if f2 = true then 1 else 2))) : ∃ h', runF P 99 199 [.py (.int 0), .py (.list [v0, v1, v2]), .py (.int u)] h = .ok (.py (.list [.str (dueH [w_ring, w_row, w_wrong] [f0, f1, f2])])) h' := by
  have mi := in6 u0 u1
  cases f0 with
  | true =>
    exact isW_ok (List.all_eq_true.mp (e0_0 u h v1 v2) v0 c0)
  | false =>
    obtain rfl : v0 = g_ring := c0
    cases f1 with
    | true =>
      exact isW_ok (List.all_eq_true.mp (e0_1 u h v2) v1 c1)
    | false =>
      obtain rfl : v1 = g_row := c1
      cases f2 with
      | true =>
        exact isW_ok (List.all_eq_true.mp (e0_2 u h ) v2 c2)
      | false =>
        obtain rfl : v2 = g_wrong := c2
        match h, (show h.length = 8 from hl) with
        | [x0, x1, x2, x3, x4, x5, x6, x7], _ =>
          exact isW_ok (g0 u x0 x1 x2 x3 x4 x5 x6 x7)
theorem told_1 (f0 f1 f2 : Bool) (v0 v1 v2 : PyData) (c0 : Sel w_ring f0 v0) (c1 : Sel w_aim f1 v1) (c2 : Sel w_wrong f2 v2) (u : Int) (u0 : 0 ≤ u) (u1 : u < 6) (h : MH) (hl : h.length = 2 + ((if f0 = true then 1 else 2) + (if f1 = true then 1 else 2) + (if f2 = true then 1 else 2))) : ∃ h', runF P 99 199 [.py (.int 1), .py (.list [v0, v1, v2]), .py (.int u)] h = .ok (.py (.list [.str (dueH [w_ring, w_aim, w_wrong] [f0, f1, f2])])) h' := by
  have mi := in6 u0 u1
  cases f0 with
  | true =>
    exact isW_ok (List.all_eq_true.mp (e1_0 u h v1 v2) v0 c0)
  | false =>
    obtain rfl : v0 = g_ring := c0
    cases f1 with
    | true =>
      exact isW_ok (List.all_eq_true.mp (e1_1 u h v2) v1 c1)
    | false =>
      obtain rfl : v1 = g_aim := c1
      cases f2 with
      | true =>
        exact isW_ok (List.all_eq_true.mp (e1_2 u h ) v2 c2)
      | false =>
        obtain rfl : v2 = g_wrong := c2
        match h, (show h.length = 8 from hl) with
        | [x0, x1, x2, x3, x4, x5, x6, x7], _ =>
          exact isW_ok (g1 u x0 x1 x2 x3 x4 x5 x6 x7)
theorem told_2 (f0 : Bool) (v0 : PyData) (c0 : Sel w_rings f0 v0) (u : Int) (u0 : 0 ≤ u) (u1 : u < 6) (h : MH) (hl : h.length = 2 + ((if f0 = true then 1 else 2))) : ∃ h', runF P 99 199 [.py (.int 2), .py (.list [v0]), .py (.int u)] h = .ok (.py (.list [.str (dueH [w_rings] [f0])])) h' := by
  have mi := in6 u0 u1
  cases f0 with
  | true =>
    exact isW_ok (List.all_eq_true.mp (List.all_eq_true.mp (e2_0 h ) _ mi) v0 c0)
  | false =>
    obtain rfl : v0 = g_rings := c0
    match h, (show h.length = 4 from hl) with
    | [x0, x1, x2, x3], _ =>
      rcases (by omega : u = 0 ∨ u = 1 ∨ u = 2 ∨ u = 3 ∨ u = 4 ∨ u = 5) with rfl | rfl | rfl | rfl | rfl | rfl
      · exact isW_ok (g2_0 x0 x1 x2 x3)
      · exact isW_ok (g2_1 x0 x1 x2 x3)
      · exact isW_ok (g2_2 x0 x1 x2 x3)
      · exact isW_ok (g2_3 x0 x1 x2 x3)
      · exact isW_ok (g2_4 x0 x1 x2 x3)
      · exact isW_ok (g2_5 x0 x1 x2 x3)
theorem told_3 (f0 f1 : Bool) (v0 v1 : PyData) (c0 : Sel w_ring f0 v0) (c1 : Sel w_aim f1 v1) (u : Int) (u0 : 0 ≤ u) (u1 : u < 6) (h : MH) (hl : h.length = 2 + ((if f0 = true then 1 else 2) + (if f1 = true then 1 else 2))) : ∃ h', runF P 99 199 [.py (.int 3), .py (.list [v0, v1]), .py (.int u)] h = .ok (.py (.list [.str (dueH [w_ring, w_aim] [f0, f1])])) h' := by
  have mi := in6 u0 u1
  cases f0 with
  | true =>
    exact isW_ok (List.all_eq_true.mp (List.all_eq_true.mp (e3_0 h v1) _ mi) v0 c0)
  | false =>
    obtain rfl : v0 = g_ring := c0
    cases f1 with
    | true =>
      exact isW_ok (List.all_eq_true.mp (List.all_eq_true.mp (e3_1 h ) _ mi) v1 c1)
    | false =>
      obtain rfl : v1 = g_aim := c1
      match h, (show h.length = 6 from hl) with
      | [x0, x1, x2, x3, x4, x5], _ =>
        rcases (by omega : u = 0 ∨ u = 1 ∨ u = 2 ∨ u = 3 ∨ u = 4 ∨ u = 5) with rfl | rfl | rfl | rfl | rfl | rfl
        · exact isW_ok (g3_0 x0 x1 x2 x3 x4 x5)
        · exact isW_ok (g3_1 x0 x1 x2 x3 x4 x5)
        · exact isW_ok (g3_2 x0 x1 x2 x3 x4 x5)
        · exact isW_ok (g3_3 x0 x1 x2 x3 x4 x5)
        · exact isW_ok (g3_4 x0 x1 x2 x3 x4 x5)
        · exact isW_ok (g3_5 x0 x1 x2 x3 x4 x5)
theorem told_4 (f0 f1 : Bool) (v0 v1 : PyData) (c0 : Sel w_counts f0 v0) (c1 : Sel w_aim f1 v1) (u : Int) (u0 : 0 ≤ u) (u1 : u < 6) (h : MH) (hl : h.length = 2 + ((if f0 = true then 1 else 2) + (if f1 = true then 1 else 2))) : ∃ h', runF P 99 199 [.py (.int 4), .py (.list [v0, v1]), .py (.int u)] h = .ok (.py (.list [.str (dueH [w_counts, w_aim] [f0, f1])])) h' := by
  have mi := in6 u0 u1
  cases f0 with
  | true =>
    exact isW_ok (List.all_eq_true.mp (e4_0 u h v1) v0 c0)
  | false =>
    obtain rfl : v0 = g_counts := c0
    cases f1 with
    | true =>
      exact isW_ok (List.all_eq_true.mp (e4_1 u h ) v1 c1)
    | false =>
      obtain rfl : v1 = g_aim := c1
      match h, (show h.length = 6 from hl) with
      | [x0, x1, x2, x3, x4, x5], _ =>
        exact isW_ok (g4 u x0 x1 x2 x3 x4 x5)
theorem told_5 (f0 f1 f2 f3 : Bool) (v0 v1 v2 v3 : PyData) (c0 : Sel w_six f0 v0) (c1 : Sel w_three f1 v1) (c2 : Sel w_twenty f2 v2) (c3 : Sel w_aim f3 v3) (u : Int) (u0 : 0 ≤ u) (u1 : u < 6) (h : MH) (hl : h.length = 2 + ((if f0 = true then 1 else 2) + (if f1 = true then 1 else 2) + (if f2 = true then 1 else 2) + (if f3 = true then 1 else 2))) : ∃ h', runF P 99 199 [.py (.int 5), .py (.list [v0, v1, v2, v3]), .py (.int u)] h = .ok (.py (.list [.str (dueH [w_six, w_three, w_twenty, w_aim] [f0, f1, f2, f3])])) h' := by
  have mi := in6 u0 u1
  cases f0 with
  | true =>
    exact isW_ok (List.all_eq_true.mp (e5_0 u h v1 v2 v3) v0 c0)
  | false =>
    obtain rfl : v0 = g_six := c0
    cases f1 with
    | true =>
      exact isW_ok (List.all_eq_true.mp (e5_1 u h v2 v3) v1 c1)
    | false =>
      obtain rfl : v1 = g_three := c1
      cases f2 with
      | true =>
        exact isW_ok (List.all_eq_true.mp (e5_2 u h v3) v2 c2)
      | false =>
        obtain rfl : v2 = g_twenty := c2
        cases f3 with
        | true =>
          exact isW_ok (List.all_eq_true.mp (e5_3 u h ) v3 c3)
        | false =>
          obtain rfl : v3 = g_aim := c3
          match h, (show h.length = 10 from hl) with
          | [x0, x1, x2, x3, x4, x5, x6, x7, x8, x9], _ =>
            exact isW_ok (g5 u x0 x1 x2 x3 x4 x5 x6 x7 x8 x9)
end LW
set_option Elab.async false
set_option linter.all false
set_option maxRecDepth 100000
set_option maxHeartbeats 4000000
namespace LW
open PySem KF
variable {P : Prog}
/-! ### holds and what is felt -/
abbrev TI (r : List Int) : D := .py (.tuple (iL r))
def hP (p : Int × Int) : PyData := .tuple [.int p.1, .int p.2]
def hdL (n : Nat) : List (Int × Int) := (List.range n).flatMap fun (k : Nat) => [((k : Int), (-1 : Int)), ((k : Int), (1 : Int))]
def feltZ (r : List Int) (p : Int × Int) (j : Int) : Int := r.getD ((p.1 + p.2 * j) % (r.length : Int)).toNat 0
def feltL (r : List Int) (p : Int × Int) (n : Nat) : List Int := (List.range n).map fun j => feltZ r p (j : Nat)
/-- a hold that may be taken -/
def HdOk (n : Nat) (p : Int × Int) : Prop := 0 ≤ p.1 ∧ p.1 < n ∧ (p.2 = -1 ∨ p.2 = 1)
theorem hdL_ok {n : Nat} {p : Int × Int} (h : p ∈ hdL n) : HdOk n p := by
  unfold hdL at h
  obtain ⟨k, hk, h⟩ := List.mem_flatMap.mp h
  have := List.mem_range.mp hk
  simp only [List.mem_cons, List.not_mem_nil, or_false] at h
  rcases h with e | e <;> subst e
  · exact ⟨by simp, by simpa using this, Or.inl rfl⟩
  · exact ⟨by simp, by simpa using this, Or.inr rfl⟩
theorem hdL_succ (n : Nat) : hdL (n + 1) = hdL n ++ [((n : Int), -1), ((n : Int), 1)] := by
  unfold hdL
  rw [List.range_succ, List.flatMap_append]
  simp
theorem hdL_len (n : Nat) : (hdL n).length = 2 * n := by
  induction n with
  | zero => rfl
  | succ n ih => rw [hdL_succ, List.length_append, ih]; simp; omega
theorem rngL_succ (n : Nat) : rngL 0 (n + 1) = rngL 0 n ++ [.py (.int n)] := by
  unfold rngL
  rw [List.range_succ, List.map_append]
  simp
theorem forF_app {g : TgF} {b : EvS} : ∀ (xs ys : List D) (env : KF.Env) (h : MH), forF g b (xs ++ ys) env h = (forF g b xs env h).thn (forF g b ys)
  | [], ys, env, h => rfl
  | x :: r, ys, env, h => by
    show (match g x env with
      | some env1 => (b env1 h).thn (forF g b (r ++ ys))
      | none => OutS.bad) = (match g x env with
      | some env1 => (b env1 h).thn (forF g b r)
      | none => OutS.bad).thn (forF g b ys)
    cases g x env with
    | none => rfl
    | some env1 =>
      show (b env1 h).thn (forF g b (r ++ ys)) = ((b env1 h).thn (forF g b r)).thn (forF g b ys)
      cases b env1 h <;> first | rfl | exact forF_app r ys _ _
/-- a loop over the numbers below n -/
theorem forF_rng {g : TgF} {b : EvS} {h : MH} (st : Nat → KF.Env) (H : ∀ k : Nat, ∃ e, g (.py (.int k)) (st k) = some e ∧ b e h = .nx (st (k + 1)) h) : ∀ n : Nat, forF g b (rngL 0 n) (st 0) h = .nx (st n) h
  | 0 => rfl
  | n + 1 => by
    rw [rngL_succ, forF_app, forF_rng st H n, thn_nx]
    obtain ⟨e, e1, e2⟩ := H n
    show (match g (.py (.int n)) (st n) with
      | some env1 => (b env1 h).thn (forF g b [])
      | none => OutS.bad) = _
    rw [e1]
    show (b e h).thn _ = _
    rw [e2]
    rfl
theorem forF_rngB {g : TgF} {b : EvS} {h : MH} (st : Nat → KF.Env) : ∀ n : Nat, (∀ k : Nat, k < n → ∃ e, g (.py (.int k)) (st k) = some e ∧ b e h = .nx (st (k + 1)) h) → forF g b (rngL 0 n) (st 0) h = .nx (st n) h
  | 0, _ => rfl
  | n + 1, H => by
    rw [rngL_succ, forF_app, forF_rngB st n (fun k hk => H k (by omega)), thn_nx]
    obtain ⟨e, e1, e2⟩ := H n (by omega)
    show (match g (.py (.int n)) (st n) with
      | some env1 => (b env1 h).thn (forF g b [])
      | none => OutS.bad) = _
    rw [e1]
    show (b e h).thn _ = _
    rw [e2]
    rfl
theorem holds_ok (H : findD P 14 = some p__law_holds) (n : Nat) (h : MH) (r : List Int) (hr : r.length ≤ 9) :
    runF P (n + 1) 14 [TI r] h = .ok (.py (.list ((hdL r.length).map hP))) h := by
  rw [run_of H]
  have L := forF_rngB (g := (ev (runF P n) (.tn 2)).G) (b := (ev (runF P n) (.sto 1 (.bin (.add) (.var 1) (.lst (.cons (.tup (.cons (.varV 2) (.cons (.neg (.int 1)) (.nil)))) (.cons (.tup (.cons (.varV 2) (.cons (.int 1) (.nil)))) (.nil))))))).S) (h := h)
    (fun k => [.v (TI r), .o ((hdL k).map hP), if k = 0 then .u else .v (.py (.int (k - 1 : Nat)))]) r.length (fun k hk => by
      have f5 : fits (2 * k + 2) = true := fits_small (by omega)
      refine ⟨[.v (TI r), .o ((hdL k).map hP), .v (.py (.int k))], ?_, ?_⟩
      · split <;> rfl
      · simp [callD, startE, look, lookV, Sl.get, Sl.getV, frzE, stoE, binF, addO, catL, iop, gAdd, gSub, gMul, gDiv, gMod, gPow, KF.listOf, ixU, dctAt, inUD, ninUD, inK, putU, ixO, ixD, L2.atI, L2.ixN, negD, truD, cmpF, icmp, isND, notND, isN, biF, fLen, lenD, fInt, fMax2, fMin2, fAbs, fTup, fLst, allPy, mkTup, mkLst, asI, revT, isiD, tyD, isTy, putO, putL, augF, promO, wipeE, itU, hdL_len, f5, hdL_succ, hP])
  have f4 : fits (2 * r.length) = true := fits_small (by omega)
  simp [callD, startE, look, lookV, Sl.get, Sl.getV, frzE, stoE, binF, addO, catL, iop, gAdd, gSub, gMul, gDiv, gMod, gPow, KF.listOf, ixU, dctAt, inUD, ninUD, inK, putU, ixO, ixD, L2.atI, L2.ixN, negD, truD, cmpF, icmp, isND, notND, isN, biF, fLen, lenD, fInt, fMax2, fMin2, fAbs, fTup, fLst, allPy, mkTup, mkLst, asI, revT, isiD, tyD, isTy, putO, putL, augF, promO, wipeE, itU, p__law_holds, k__law_holds, iL_len, rng1_nat _ (show r.length ≤ 1000000 by omega)]
  have Lq : forF (ev (runF P n) (.tn 2)).G (ev (runF P n) (.sto 1 (.bin (.add) (.var 1) (.lst (.cons (.tup (.cons (.varV 2) (.cons (.neg (.int 1)) (.nil)))) (.cons (.tup (.cons (.varV 2) (.cons (.int 1) (.nil)))) (.nil))))))).S (rngL 0 r.length) [.v (TI r), .o [], .u] h = _ := L
  rw [Lq]
  simp [callD, startE, look, lookV, Sl.get, Sl.getV, frzE, stoE, binF, addO, catL, iop, gAdd, gSub, gMul, gDiv, gMod, gPow, KF.listOf, ixU, dctAt, inUD, ninUD, inK, putU, ixO, ixD, L2.atI, L2.ixN, negD, truD, cmpF, icmp, isND, notND, isN, biF, fLen, lenD, fInt, fMax2, fMin2, fAbs, fTup, fLst, allPy, mkTup, mkLst, asI, revT, isiD, tyD, isTy, putO, putL, augF, promO, wipeE, itU]
end LW
set_option Elab.async false
set_option linter.all false
set_option maxRecDepth 100000
set_option maxHeartbeats 4000000
namespace LW
open PySem KF
variable {P : Prog}
theorem allholds_ok (H : findD P 9 = some p_all_holds) (n : Nat) (h : MH) (r : List Int) (hr : r.length ≤ 9) :
    runF P (n + 1) 9 [TI r] h = .ok (.py (.list ((hdL r.length).map hP))) h := by
  rw [run_of H]
  have L := forF_rngB (g := (ev (runF P n) (.tn 2)).G) (b := (ev (runF P n) (.ext 1 (.lst (.cons (.tup (.cons (.varV 2) (.cons (.neg (.int 1)) (.nil)))) (.cons (.tup (.cons (.varV 2) (.cons (.int 1) (.nil)))) (.nil)))))).S) (h := h)
    (fun k => [.v (TI r), .o ((hdL k).map hP), if k = 0 then .u else .v (.py (.int (k - 1 : Nat)))]) r.length (fun k hk => by
      have f5 : fits (2 * k + 2) = true := fits_small (by omega)
      refine ⟨[.v (TI r), .o ((hdL k).map hP), .v (.py (.int k))], ?_, ?_⟩
      · split <;> rfl
      · simp [callD, startE, look, lookV, Sl.get, Sl.getV, frzE, stoE, binF, addO, catL, iop, gAdd, gSub, gMul, gDiv, gMod, gPow, KF.listOf, ixU, dctAt, inUD, ninUD, inK, putU, ixO, ixD, L2.atI, L2.ixN, negD, truD, cmpF, icmp, isND, notND, isN, biF, fLen, lenD, fInt, fMax2, fMin2, fAbs, fTup, fLst, allPy, mkTup, mkLst, asI, revT, isiD, tyD, isTy, putO, putL, augF, promO, wipeE, itU, hdL_len, f5, hdL_succ, hP])
  simp [callD, startE, look, lookV, Sl.get, Sl.getV, frzE, stoE, binF, addO, catL, iop, gAdd, gSub, gMul, gDiv, gMod, gPow, KF.listOf, ixU, dctAt, inUD, ninUD, inK, putU, ixO, ixD, L2.atI, L2.ixN, negD, truD, cmpF, icmp, isND, notND, isN, biF, fLen, lenD, fInt, fMax2, fMin2, fAbs, fTup, fLst, allPy, mkTup, mkLst, asI, revT, isiD, tyD, isTy, putO, putL, augF, promO, wipeE, itU, p_all_holds, k_all_holds, iL_len, rng1_nat _ (show r.length ≤ 1000000 by omega)]
  have Lq : forF (ev (runF P n) (.tn 2)).G (ev (runF P n) (.ext 1 (.lst (.cons (.tup (.cons (.varV 2) (.cons (.neg (.int 1)) (.nil)))) (.cons (.tup (.cons (.varV 2) (.cons (.int 1) (.nil)))) (.nil)))))).S (rngL 0 r.length) [.v (TI r), .o [], .u] h = _ := L
  rw [Lq]
  simp [callD, startE, look, lookV, Sl.get, Sl.getV, frzE, stoE, binF, addO, catL, iop, gAdd, gSub, gMul, gDiv, gMod, gPow, KF.listOf, ixU, dctAt, inUD, ninUD, inK, putU, ixO, ixD, L2.atI, L2.ixN, negD, truD, cmpF, icmp, isND, notND, isN, biF, fLen, lenD, fInt, fMax2, fMin2, fAbs, fTup, fLst, allPy, mkTup, mkLst, asI, revT, isiD, tyD, isTy, putO, putL, augF, promO, wipeE, itU]
theorem modIx {r : List Int} (h : 1 ≤ r.length) (x : Int) : 0 ≤ x % (r.length : Int) ∧ x % (r.length : Int) < r.length := ⟨Int.emod_nonneg _ (by omega), Int.emod_lt_of_pos _ (by omega)⟩
theorem getIx {r : List Int} {x : Int} (h1 : x.toNat < r.length) : ∀ pf, (iL r)[x.toNat]'pf = .int (r.getD x.toNat 0) := fun pf => by
  have e := iL_get r x.toNat
  rw [List.getElem?_eq_getElem pf] at e
  have e2 : r[x.toNat]? = some (r.getD x.toNat 0) := by
    rw [List.getD_eq_getElem?_getD, List.getElem?_eq_getElem h1]; rfl
  rw [e2] at e
  exact Option.some.inj e
theorem shape_ok (H : findD P 6 = some p_shape_at) (n : Nat) (h : MH) (r : List Int) (hr : 1 ≤ r.length) (p : Int × Int) (j : Int) (hw : p.2.natAbs ≤ 1) :
    runF P (n + 1) 6 [TI r, .py (hP p), .py (.int j)] h = .ok (.py (.int (feltZ r p j))) h := by
  rw [run_of H]
  obtain ⟨m0, m1⟩ := modIx hr (p.1 + p.2 * j)
  have hn : (r.length : Int) ≠ 0 := by omega
  have hg := getIx (r := r) (x := (p.1 + p.2 * j) % (r.length : Int)) (by omega)
  have hp : 0 < r.length := by omega
  have hw2 : p.2.natAbs < 18446744073709551616 := by omega
  simp [callD, startE, look, lookV, Sl.get, Sl.getV, frzE, stoE, binF, addO, catL, iop, gAdd, gSub, gMul, gDiv, gMod, gPow, KF.listOf, ixU, dctAt, inUD, ninUD, inK, putU, ixO, ixD, L2.atI, L2.ixN, negD, truD, cmpF, icmp, isND, notND, isN, biF, fLen, lenD, fInt, fMax2, fMin2, fAbs, fTup, fLst, allPy, mkTup, mkLst, asI, revT, isiD, tyD, isTy, putO, putL, augF, promO, wipeE, itU, p_shape_at, k_shape_at, hP, iL_len, m0, m1, hg, feltZ, hn, hp, hw2]
theorem iL_map (f : Nat → Int) (n : Nat) : iL ((List.range n).map f) = (List.range n).map fun k => PyData.int (f k) := by
  unfold iL; rw [List.map_map]; rfl
theorem filter_true {α : Type} (xs : List α) : xs.filter (fun _ => true) = xs := by induction xs <;> simp_all
theorem feltby_ok (H : findD P 6 = some p_shape_at) (H7 : findD P 7 = some p_felt_by) (n : Nat) (h : MH) (r : List Int) (hr : 1 ≤ r.length) (p : Int × Int) (hw : p.2.natAbs ≤ 1) (k : Nat) (hk : k ≤ 100000) :
    runF P (n + 2) 7 [TI r, .py (hP p), .py (.int k)] h = .ok (.py (.tuple (iL (feltL r p k)))) h := by
  rw [run_of H7]
  have L := lcF_pure (g := (ev (runF P (n + 1)) (.tn 3)).G) (ft := (ev (runF P (n + 1)) .yes).T) (fe := (ev (runF P (n + 1)) (.fn 6 (.cons (.varV 0) (.cons (.varV 1) (.cons (.varV 3) (.nil)))))).E)
    (env := [.v (TI r), .v (.py (hP p)), .v (.py (.int k)), .u]) (h := h) (fun _ => true) (fun d => match d with | .py (.int j) => .int (feltZ r p j) | _ => .none) (xs := rngL 0 k) (fun x hx => by
      unfold rngL at hx
      obtain ⟨j, hj, e⟩ := List.mem_map.mp hx
      subst e
      refine ⟨_, rfl, rfl, fun _ => ?_⟩
      have := shape_ok H n h r hr p (0 + (j : Nat)) hw
      simp [callD, startE, look, lookV, Sl.get, Sl.getV, frzE, stoE, binF, addO, catL, iop, gAdd, gSub, gMul, gDiv, gMod, gPow, KF.listOf, ixU, dctAt, inUD, ninUD, inK, putU, ixO, ixD, L2.atI, L2.ixN, negD, truD, cmpF, icmp, isND, notND, isN, biF, fLen, lenD, fInt, fMax2, fMin2, fAbs, fTup, fLst, allPy, mkTup, mkLst, asI, revT, isiD, tyD, isTy, putO, putL, augF, promO, wipeE, itU] at this ⊢
      exact this)
  rw [filter_true] at L
  have e : (rngL 0 k).map (fun d => match d with | .py (.int j) => PyData.int (feltZ r p j) | _ => .none) = iL (feltL r p k) := by
    unfold feltL rngL
    rw [iL_map, List.map_map]
    apply List.map_congr_left
    intro a _
    show PyData.int (feltZ r p (0 + a)) = _
    rw [Int.zero_add]
  rw [e] at L
  have f4 : fits k = true := fits_small (by omega)
  have l4 : (feltL r p k).length = k := by simp [feltL]
  simp [callD, startE, look, lookV, Sl.get, Sl.getV, frzE, stoE, binF, addO, catL, iop, gAdd, gSub, gMul, gDiv, gMod, gPow, KF.listOf, ixU, dctAt, inUD, ninUD, inK, putU, ixO, ixD, L2.atI, L2.ixN, negD, truD, cmpF, icmp, isND, notND, isN, biF, fLen, lenD, fInt, fMax2, fMin2, fAbs, fTup, fLst, allPy, mkTup, mkLst, asI, revT, isiD, tyD, isTy, putO, putL, augF, promO, wipeE, itU, p_felt_by, k_felt_by, rng1_nat _ (show k ≤ 1000000 by omega), L, mkL, iL_len, l4, f4]
theorem feltL_succ (r : List Int) (p : Int × Int) (k : Nat) : feltL r p (k + 1) = feltL r p k ++ [feltZ r p k] := by
  unfold feltL
  rw [List.range_succ, List.map_append]
  rfl
theorem step_mod {n a w : Int} (hn : 1 ≤ n) (hw : w = -1 ∨ w = 1) : (if a % n + w = n then (0 : Int) else if a % n + w < 0 then n - 1 else a % n + w) = (a + w) % n := by
  have h0 : 0 ≤ a % n := Int.emod_nonneg _ (by omega)
  have h1 : a % n < n := Int.emod_lt_of_pos _ (by omega)
  have e : (a + w) % n = (a % n + w) % n := by
    have q : a + w = (a % n + w) + n * (a / n) := by have := Int.emod_add_mul_ediv a n; omega
    rw [q, Int.add_mul_emod_self_left]
  rw [e]
  by_cases c1 : a % n + w = n
  · rw [if_pos c1, c1, Int.emod_self]
  · rw [if_neg c1]
    by_cases c2 : a % n + w < 0
    · rw [if_pos c2, ← Int.add_emod_right, Int.emod_eq_of_lt (by omega) (by omega)]
      omega
    · rw [if_neg c2, Int.emod_eq_of_lt (a := a % n + w) (by omega) (by omega)]
theorem iL_one (x : Int) : iL [x] = [.int x] := rfl
theorem lawfelt_ok (H : findD P 15 = some p__law_felt) (n : Nat) (h : MH) (r : List Int) (hr : 1 ≤ r.length) (p : Int × Int) (hp : HdOk r.length p) (k : Nat) (hk : k ≤ 100000) :
    runF P (n + 1) 15 [TI r, .py (hP p), .py (.int k)] h = .ok (.py (.tuple (iL (feltL r p k)))) h := by
  rw [run_of H]
  have L := forF_rngB (g := (ev (runF P n) (.tn 5)).G) (b := (ev (runF P n) (.sq (.app 4 (.ix (.var 0) (.var 3))) (.sq (.sto 3 (.bin (.add) (.var 3) (.ix (.var 1) (.int 1)))) (.sq (.frz 3) (.asg (.tn 3) (.ifx (.cmp (.eq) (.var 3) (.bi (.len) (.cons (.var 0) (.nil)))) (.int 0) (.ifx (.cmp (.lt) (.var 3) (.int 0)) (.bin (.sub) (.bi (.len) (.cons (.var 0) (.nil))) (.int 1)) (.varV 3)))))))).S) (h := h)
    (fun j => [.v (TI r), .v (.py (hP p)), .v (.py (.int k)), .v (.py (.int ((p.1 + p.2 * j) % (r.length : Int)))), .o (iL (feltL r p j)), if j = 0 then .u else .v (.py (.int (j - 1 : Nat)))]) k (fun j hj => by
      have f5 : fits (j + 1) = true := fits_small (by omega)
      have l5 : (feltL r p j).length = j := by simp [feltL]
      obtain ⟨m0, m1⟩ := modIx hr (p.1 + p.2 * j)
      have hg := getIx (r := r) (x := (p.1 + p.2 * j) % (r.length : Int)) (by omega)
      refine ⟨[.v (TI r), .v (.py (hP p)), .v (.py (.int k)), .v (.py (.int ((p.1 + p.2 * j) % (r.length : Int)))), .o (iL (feltL r p j)), .v (.py (.int j))], ?_, ?_⟩
      · split <;> rfl
      · have key : (if (p.1 + p.2 * j) % (r.length : Int) + p.2 = r.length then (0 : Int) else if (p.1 + p.2 * j) % (r.length : Int) + p.2 < 0 then (r.length : Int) - 1 else (p.1 + p.2 * j) % (r.length : Int) + p.2) = (p.1 + p.2 * (j + 1)) % (r.length : Int) := by
          have e1 : p.1 + p.2 * ((j : Int) + 1) = (p.1 + p.2 * j) + p.2 := by rw [Int.mul_add, Int.mul_one, Int.add_assoc]
          rw [e1]
          exact step_mod (by omega) hp.2.2
        by_cases q1 : (p.1 + p.2 * j) % (r.length : Int) + p.2 = r.length
        · rw [if_pos q1] at key
          simp [callD, startE, look, lookV, Sl.get, Sl.getV, frzE, stoE, binF, addO, catL, iop, gAdd, gSub, gMul, gDiv, gMod, gPow, KF.listOf, ixU, dctAt, inUD, ninUD, inK, putU, ixO, ixD, L2.atI, L2.ixN, negD, truD, cmpF, icmp, isND, notND, isN, biF, fLen, lenD, fInt, fMax2, fMin2, fAbs, fTup, fLst, allPy, mkTup, mkLst, asI, revT, isiD, tyD, isTy, putO, putL, augF, promO, wipeE, itU, iL_len, l5, f5, hP, m0, m1, hg, feltL_succ, iL_app, eqD, shal_int, PyData.eqv, q1, key.symm, iL_one, feltZ]
        · rw [if_neg q1] at key
          by_cases q2 : (p.1 + p.2 * j) % (r.length : Int) + p.2 < 0
          · rw [if_pos q2] at key
            simp [callD, startE, look, lookV, Sl.get, Sl.getV, frzE, stoE, binF, addO, catL, iop, gAdd, gSub, gMul, gDiv, gMod, gPow, KF.listOf, ixU, dctAt, inUD, ninUD, inK, putU, ixO, ixD, L2.atI, L2.ixN, negD, truD, cmpF, icmp, isND, notND, isN, biF, fLen, lenD, fInt, fMax2, fMin2, fAbs, fTup, fLst, allPy, mkTup, mkLst, asI, revT, isiD, tyD, isTy, putO, putL, augF, promO, wipeE, itU, iL_len, l5, f5, hP, m0, m1, hg, feltL_succ, iL_app, eqD, shal_int, PyData.eqv, q1, q2, key.symm, iL_one, feltZ]
          · rw [if_neg q2] at key
            simp [callD, startE, look, lookV, Sl.get, Sl.getV, frzE, stoE, binF, addO, catL, iop, gAdd, gSub, gMul, gDiv, gMod, gPow, KF.listOf, ixU, dctAt, inUD, ninUD, inK, putU, ixO, ixD, L2.atI, L2.ixN, negD, truD, cmpF, icmp, isND, notND, isN, biF, fLen, lenD, fInt, fMax2, fMin2, fAbs, fTup, fLst, allPy, mkTup, mkLst, asI, revT, isiD, tyD, isTy, putO, putL, augF, promO, wipeE, itU, iL_len, l5, f5, hP, m0, m1, hg, feltL_succ, iL_app, eqD, shal_int, PyData.eqv, q1, q2, key.symm, iL_one, feltZ])
  have e0 : (p.1 + p.2 * ((0 : Nat) : Int)) % (r.length : Int) = p.1 := by
    rw [show p.1 + p.2 * ((0 : Nat) : Int) = p.1 by simp, Int.emod_eq_of_lt hp.1 hp.2.1]
  have f4 : fits k = true := fits_small (by omega)
  have l4 : (feltL r p k).length = k := by simp [feltL]
  simp only [e0] at L
  have Lq : forF (ev (runF P n) (.tn 5)).G (ev (runF P n) (.sq (.app 4 (.ix (.var 0) (.var 3))) (.sq (.sto 3 (.bin (.add) (.var 3) (.ix (.var 1) (.int 1)))) (.sq (.frz 3) (.asg (.tn 3) (.ifx (.cmp (.eq) (.var 3) (.bi (.len) (.cons (.var 0) (.nil)))) (.int 0) (.ifx (.cmp (.lt) (.var 3) (.int 0)) (.bin (.sub) (.bi (.len) (.cons (.var 0) (.nil))) (.int 1)) (.varV 3)))))))).S (rngL 0 k) [.v (TI r), .v (.py (.tuple [.int p.1, .int p.2])), .v (.py (.int k)), .v (.py (.int p.1)), .o [], .u] h = _ := L
  simp [callD, startE, look, lookV, Sl.get, Sl.getV, frzE, stoE, binF, addO, catL, iop, gAdd, gSub, gMul, gDiv, gMod, gPow, KF.listOf, ixU, dctAt, inUD, ninUD, inK, putU, ixO, ixD, L2.atI, L2.ixN, negD, truD, cmpF, icmp, isND, notND, isN, biF, fLen, lenD, fInt, fMax2, fMin2, fAbs, fTup, fLst, allPy, mkTup, mkLst, asI, revT, isiD, tyD, isTy, putO, putL, augF, promO, wipeE, itU, p__law_felt, k__law_felt, hP, rng1_nat _ (show k ≤ 1000000 by omega)]
  rw [Lq]
  simp [callD, startE, look, lookV, Sl.get, Sl.getV, frzE, stoE, binF, addO, catL, iop, gAdd, gSub, gMul, gDiv, gMod, gPow, KF.listOf, ixU, dctAt, inUD, ninUD, inK, putU, ixO, ixD, L2.atI, L2.ixN, negD, truD, cmpF, icmp, isND, notND, isN, biF, fLen, lenD, fInt, fMax2, fMin2, fAbs, fTup, fLst, allPy, mkTup, mkLst, asI, revT, isiD, tyD, isTy, putO, putL, augF, promO, wipeE, itU, l4, f4, iL_len]
/-! ### what repeats -/
theorem feltZ_per (r : List Int) (p : Int × Int) (j : Int) : feltZ r p (j % (r.length : Int)) = feltZ r p j := by
  unfold feltZ
  have q : p.1 + p.2 * (j % (r.length : Int)) = (p.1 + p.2 * j) + r.length * (-(p.2 * (j / (r.length : Int)))) := by
    have := Int.emod_add_mul_ediv j r.length
    have e : j % (r.length : Int) = j - r.length * (j / (r.length : Int)) := by omega
    rw [e, Int.mul_sub, Int.mul_neg, ← Int.mul_assoc, ← Int.mul_assoc, Int.mul_comm p.2 (r.length : Int)]
    omega
  rw [q, Int.add_mul_emod_self_left]
theorem felt_eq (r : List Int) (p q : Int × Int) (n : Nat) : feltL r p n = feltL r q n ↔ ∀ j : Nat, j < n → feltZ r p j = feltZ r q j := by
  unfold feltL
  constructor
  · intro h j hj
    have := congrArg (fun l => l[j]?) h
    simpa [hj] using this
  · intro h
    exact List.map_congr_left fun j hj => h j (List.mem_range.mp hj)
theorem felt_more (r : List Int) (hr : 1 ≤ r.length) (p q : Int × Int) {n m : Nat} (hn : r.length ≤ n) (hm : r.length ≤ m) : feltL r p n = feltL r q n ↔ feltL r p m = feltL r q m := by
  have key : ∀ n, r.length ≤ n → (feltL r p n = feltL r q n ↔ ∀ j : Int, feltZ r p j = feltZ r q j) := fun n hn => by
    rw [felt_eq]
    constructor
    · intro h j
      rw [← feltZ_per r p, ← feltZ_per r q]
      obtain ⟨a, b⟩ := modIx hr j
      have := h (j % (r.length : Int)).toNat (by omega)
      rwa [Int.toNat_of_nonneg a] at this
    · exact fun h j _ => h j
  rw [key n hn, key m hm]
end LW
set_option Elab.async false
set_option linter.all false
set_option maxRecDepth 100000
set_option maxHeartbeats 4000000
namespace LW
open PySem KF
variable {P : Prog}
/-! ### the checks -/
structure Chk (P : Prog) : Prop where
  a0 : findD P 0 = some p_is_integer
  a1 : findD P 1 = some p_is_from
  a2 : findD P 2 = some p_are_shapes
theorem isint_ok (C : Chk P) (n : Nat) (h : MH) (i : Int) : runF P (n + 1) 0 [.py (.int i)] h = .ok (.py (.bool true)) h := by
  rw [run_of C.a0]
  simp [callD, startE, look, lookV, Sl.get, Sl.getV, frzE, stoE, binF, addO, catL, iop, gAdd, gSub, gMul, gDiv, gMod, gPow, KF.listOf, ixU, dctAt, inUD, ninUD, inK, putU, ixO, ixD, L2.atI, L2.ixN, negD, truD, cmpF, icmp, isND, notND, isN, biF, fLen, lenD, fInt, fMax2, fMin2, fAbs, fTup, fLst, allPy, mkTup, mkLst, asI, revT, isiD, tyD, isTy, putO, putL, augF, promO, wipeE, itU, p_is_integer, k_is_integer]
theorem from_ok (C : Chk P) (n : Nat) (h : MH) (i lo hi : Int) (h1 : lo ≤ i) (h2 : i ≤ hi) : runF P (n + 2) 1 [.py (.int i), .py (.int lo), .py (.int hi)] h = .ok (.py (.bool true)) h := by
  rw [run_of C.a1]
  simp [callD, startE, look, lookV, Sl.get, Sl.getV, frzE, stoE, binF, addO, catL, iop, gAdd, gSub, gMul, gDiv, gMod, gPow, KF.listOf, ixU, dctAt, inUD, ninUD, inK, putU, ixO, ixD, L2.atI, L2.ixN, negD, truD, cmpF, icmp, isND, notND, isN, biF, fLen, lenD, fInt, fMax2, fMin2, fAbs, fTup, fLst, allPy, mkTup, mkLst, asI, revT, isiD, tyD, isTy, putO, putL, augF, promO, wipeE, itU, p_is_from, k_is_from, isint_ok C n h i, h1, h2]
theorem shapes_ok (C : Chk P) (n : Nat) (h : MH) (r : List Int) (lo m hi : Int) (h1 : lo ≤ r.length) (h2 : r.length ≤ m) (h3 : ∀ x ∈ r, 0 ≤ x ∧ x ≤ hi) : runF P (n + 3) 2 [TI r, .py (.int lo), .py (.int m), .py (.int hi)] h = .ok (.py (.bool true)) h := by
  rw [run_of C.a2]
  have L : ∀ (xs : List Int) (s : Sl), (∀ x ∈ xs, 0 ≤ x ∧ x ≤ hi) → ∃ s', forF (ev (runF P (n + 2)) (.tn 4)).G (ev (runF P (n + 2)) (.ite (.no (.fn 1 (.cons (.varV 4) (.cons (.int 0) (.cons (.varV 3) (.nil)))))) (.ret (.bl false)) (.skip))).S (xs.map fun i => .py (.int i)) [.v (TI r), .v (.py (.int lo)), .v (.py (.int m)), .v (.py (.int hi)), s] h = .nx [.v (TI r), .v (.py (.int lo)), .v (.py (.int m)), .v (.py (.int hi)), s'] h := by
    intro xs
    induction xs with
    | nil => exact fun s _ => ⟨s, rfl⟩
    | cons x r ih =>
      intro s hx
      obtain ⟨s', e⟩ := ih (.v (.py (.int x))) fun y hy => hx y (List.mem_cons_of_mem _ hy)
      obtain ⟨x1, x2⟩ := hx x List.mem_cons_self
      refine ⟨s', ?_⟩
      rw [List.map_cons, forF]
      simp [callD, startE, look, lookV, Sl.get, Sl.getV, frzE, stoE, binF, addO, catL, iop, gAdd, gSub, gMul, gDiv, gMod, gPow, KF.listOf, ixU, dctAt, inUD, ninUD, inK, putU, ixO, ixD, L2.atI, L2.ixN, negD, truD, cmpF, icmp, isND, notND, isN, biF, fLen, lenD, fInt, fMax2, fMin2, fAbs, fTup, fLst, allPy, mkTup, mkLst, asI, revT, isiD, tyD, isTy, putO, putL, augF, promO, wipeE, itU, from_ok C n h x 0 hi x1 x2, e]
  obtain ⟨s', e⟩ := L r .u h3
  have e2 : (iL r).map D.py = r.map fun i => D.py (.int i) := by unfold iL; rw [List.map_map]; rfl
  simp [callD, startE, look, lookV, Sl.get, Sl.getV, frzE, stoE, binF, addO, catL, iop, gAdd, gSub, gMul, gDiv, gMod, gPow, KF.listOf, ixU, dctAt, inUD, ninUD, inK, putU, ixO, ixD, L2.atI, L2.ixN, negD, truD, cmpF, icmp, isND, notND, isN, biF, fLen, lenD, fInt, fMax2, fMin2, fAbs, fTup, fLst, allPy, mkTup, mkLst, asI, revT, isiD, tyD, isTy, putO, putL, augF, promO, wipeE, itU, p_are_shapes, k_are_shapes, iL_len, h1, h2, e2, e]
theorem chkring_ok (C : Chk P) (a3 : findD P 3 = some p_check_ring) (n : Nat) (h : MH) (r : List Int) (hr : Ring 9 r) : runF P (n + 4) 3 [TI r] h = .ok (.py .none) h := by
  rw [run_of a3]
  have := shapes_ok C n h r 1 9 8 (by have := hr.1; omega) (by have := hr.2.1; omega) hr.2.2
  simp [callD, startE, look, lookV, Sl.get, Sl.getV, frzE, stoE, binF, addO, catL, iop, gAdd, gSub, gMul, gDiv, gMod, gPow, KF.listOf, ixU, dctAt, inUD, ninUD, inK, putU, ixO, ixD, L2.atI, L2.ixN, negD, truD, cmpF, icmp, isND, notND, isN, biF, fLen, lenD, fInt, fMax2, fMin2, fAbs, fTup, fLst, allPy, mkTup, mkLst, asI, revT, isiD, tyD, isTy, putO, putL, augF, promO, wipeE, itU, p_check_ring, k_check_ring, this]
theorem chkhold_ok (C : Chk P) (a4 : findD P 4 = some p_check_hold) (n : Nat) (h : MH) (r : List Int) (p : Int × Int) (hp : HdOk r.length p) : runF P (n + 3) 4 [TI r, .py (hP p)] h = .ok (.py .none) h := by
  rw [run_of a4]
  have h1 := from_ok C n h p.1 0 ((r.length : Int) - 1) hp.1 (by have := hp.2.1; omega)
  have h2 := isint_ok C (n + 1) h p.2
  rcases hp.2.2 with q | q <;> rw [q] at h2
  · simp [callD, startE, look, lookV, Sl.get, Sl.getV, frzE, stoE, binF, addO, catL, iop, gAdd, gSub, gMul, gDiv, gMod, gPow, KF.listOf, ixU, dctAt, inUD, ninUD, inK, putU, ixO, ixD, L2.atI, L2.ixN, negD, truD, cmpF, icmp, isND, notND, isN, biF, fLen, lenD, fInt, fMax2, fMin2, fAbs, fTup, fLst, allPy, mkTup, mkLst, asI, revT, isiD, tyD, isTy, putO, putL, augF, promO, wipeE, itU, p_check_hold, k_check_hold, hP, iL_len, h1, h2, q, eqD, neD, shal_int, PyData.eqv, inD, ninD, seqD]
  · simp [callD, startE, look, lookV, Sl.get, Sl.getV, frzE, stoE, binF, addO, catL, iop, gAdd, gSub, gMul, gDiv, gMod, gPow, KF.listOf, ixU, dctAt, inUD, ninUD, inK, putU, ixO, ixD, L2.atI, L2.ixN, negD, truD, cmpF, icmp, isND, notND, isN, biF, fLen, lenD, fInt, fMax2, fMin2, fAbs, fTup, fLst, allPy, mkTup, mkLst, asI, revT, isiD, tyD, isTy, putO, putL, augF, promO, wipeE, itU, p_check_hold, k_check_hold, hP, iL_len, h1, h2, q, eqD, neD, shal_int, PyData.eqv, inD, ninD, seqD]
theorem chknum_ok (C : Chk P) (a5 : findD P 5 = some p_check_number) (n : Nat) (h : MH) (i lo hi : Int) (h1 : lo ≤ i) (h2 : i ≤ hi) : runF P (n + 3) 5 [.py (.int i), .py (.int lo), .py (.int hi)] h = .ok (.py .none) h := by
  rw [run_of a5]
  simp [callD, startE, look, lookV, Sl.get, Sl.getV, frzE, stoE, binF, addO, catL, iop, gAdd, gSub, gMul, gDiv, gMod, gPow, KF.listOf, ixU, dctAt, inUD, ninUD, inK, putU, ixO, ixD, L2.atI, L2.ixN, negD, truD, cmpF, icmp, isND, notND, isN, biF, fLen, lenD, fInt, fMax2, fMin2, fAbs, fTup, fLst, allPy, mkTup, mkLst, asI, revT, isiD, tyD, isTy, putO, putL, augF, promO, wipeE, itU, p_check_number, k_check_number, from_ok C n h i lo hi h1 h2]
theorem felt_ok (C : Chk P) (a3 : findD P 3 = some p_check_ring) (a4 : findD P 4 = some p_check_hold) (a5 : findD P 5 = some p_check_number) (a6 : findD P 6 = some p_shape_at) (a7 : findD P 7 = some p_felt_by) (H : findD P 8 = some p_felt) (n : Nat) (h : MH) (r : List Int) (hr : Ring 9 r) (p : Int × Int) (hp : HdOk r.length p) (k : Nat) (hk : k ≤ 40) :
    runF P (n + 5) 8 [TI r, .py (hP p), .py (.int k)] h = .ok (TI (feltL r p k)) h := by
  rw [run_of H]
  have h1 := chkring_ok C a3 n h r hr
  have h2 := chkhold_ok C a4 (n + 1) h r p hp
  have h3 := chknum_ok C a5 (n + 1) h k 0 40 (by omega) (by omega)
  have h4 := feltby_ok a6 a7 (n + 2) h r hr.1 p (by rcases hp.2.2 with q | q <;> omega) k (by omega)
  simp [callD, startE, look, lookV, Sl.get, Sl.getV, frzE, stoE, binF, addO, catL, iop, gAdd, gSub, gMul, gDiv, gMod, gPow, KF.listOf, ixU, dctAt, inUD, ninUD, inK, putU, ixO, ixD, L2.atI, L2.ixN, negD, truD, cmpF, icmp, isND, notND, isN, biF, fLen, lenD, fInt, fMax2, fMin2, fAbs, fTup, fLst, allPy, mkTup, mkLst, asI, revT, isiD, tyD, isTy, putO, putL, augF, promO, wipeE, itU, p_felt, k_felt, h1, h2, h3, h4]
theorem hP_inj {p q : Int × Int} (h : hP p = hP q) : p = q := by
  obtain ⟨a, b⟩ := p
  obtain ⟨c, d⟩ := q
  unfold hP at h
  injection h with h
  injection h with h1 h2
  injection h2 with h2 _
  injection h1 with h1
  injection h2 with h2
  exact Prod.ext h1 h2
theorem lcF_pureA {α : Type} {g : TgF} {ft : EvF Bool} {fe : EvF D} {env : KF.Env} {h : MH} (c : α → D) (t : α → Bool) (f : α → PyData) : ∀ {xs : List α}, (∀ x ∈ xs, ∃ env1, g (c x) env = some env1 ∧ ft env1 h = .ok (t x) h ∧ (t x = true → fe env1 h = .ok (.py (f x)) h)) → lcF g ft fe env (xs.map c) h = .ok ((xs.filter t).map f) h
  | [], _ => rfl
  | x :: r, H => by
    obtain ⟨env1, e1, e2, e3⟩ := H x List.mem_cons_self
    have ih := lcF_pureA (xs := r) c t f fun y hy => H y (List.mem_cons_of_mem _ hy)
    rw [List.map_cons]
    unfold lcF
    rw [e1]
    simp only [e2, Out.nx]
    cases ht : t x with
    | true =>
      simp only [if_true, e3 ht, ih, List.filter_cons, ht, List.map_cons]
    | false =>
      simp only [Bool.false_eq_true, if_false, ih, List.filter_cons, ht]
theorem like_ok (C : Chk P) (a3 : findD P 3 = some p_check_ring) (a4 : findD P 4 = some p_check_hold) (a6 : findD P 6 = some p_shape_at) (a7 : findD P 7 = some p_felt_by) (H9 : findD P 9 = some p_all_holds) (H : findD P 10 = some p_holds_like) (n : Nat) (h : MH) (r : List Int) (hr : Ring 9 r) (p : Int × Int) (hp : HdOk r.length p) :
    runF P (n + 5) 10 [TI r, .py (hP p)] h = .ok (.py (.list (((hdL r.length).filter fun q => feltL r q r.length = feltL r p r.length).map hP))) h := by
  rw [run_of H]
  have h1 := chkring_ok C a3 n h r hr
  have h2 := chkhold_ok C a4 (n + 1) h r p hp
  have hl := hr.2.1
  have h4 : ∀ q, HdOk r.length q → runF P (n + 4) 7 [TI r, .py (hP q), .py (.int r.length)] h = .ok (TI (feltL r q r.length)) h := fun q hq => feltby_ok a6 a7 (n + 2) h r hr.1 q (by rcases hq.2.2 with q | q <;> omega) r.length (by omega)
  have h5 := allholds_ok H9 (n + 3) h r hr.2.1
  have L := lcF_pureA (g := (ev (runF P (n + 4)) (.tn 3)).G) (ft := (ev (runF P (n + 4)) (.cmp (.eq) (.fn 7 (.cons (.varV 0) (.cons (.varV 3) (.cons (.bi (.len) (.cons (.var 0) (.nil))) (.nil))))) (.var 2))).T) (fe := (ev (runF P (n + 4)) (.varV 3)).E)
    (env := [.v (TI r), .v (.py (hP p)), .v (TI (feltL r p r.length)), .u]) (h := h) (D.py ∘ hP) (fun q => decide (feltL r q r.length = feltL r p r.length)) hP (xs := hdL r.length) (fun q hq => by
      refine ⟨_, rfl, ?_, fun _ => rfl⟩
      have := h4 q (hdL_ok hq)
      simp [callD, startE, look, lookV, Sl.get, Sl.getV, frzE, stoE, binF, addO, catL, iop, gAdd, gSub, gMul, gDiv, gMod, gPow, KF.listOf, ixU, dctAt, inUD, ninUD, inK, putU, ixO, ixD, L2.atI, L2.ixN, negD, truD, cmpF, icmp, isND, notND, isN, biF, fLen, lenD, fInt, fMax2, fMin2, fAbs, fTup, fLst, allPy, mkTup, mkLst, asI, revT, isiD, tyD, isTy, putO, putL, augF, promO, wipeE, itU, iL_len, this, eqD, shal_T, eqv_T])
  have h40 := h4 p hp
  have f4 : fits ((hdL r.length).filter fun q => feltL r q r.length = feltL r p r.length).length = true := fits_small (Nat.le_trans (List.length_filter_le _ _) (by rw [hdL_len]; omega))
  simp [callD, startE, look, lookV, Sl.get, Sl.getV, frzE, stoE, binF, addO, catL, iop, gAdd, gSub, gMul, gDiv, gMod, gPow, KF.listOf, ixU, dctAt, inUD, ninUD, inK, putU, ixO, ixD, L2.atI, L2.ixN, negD, truD, cmpF, icmp, isND, notND, isN, biF, fLen, lenD, fInt, fMax2, fMin2, fAbs, fTup, fLst, allPy, mkTup, mkLst, asI, revT, isiD, tyD, isTy, putO, putL, augF, promO, wipeE, itU, p_holds_like, k_holds_like, h1, h2, iL_len, h40, h5, L, mkL, f4]
end LW
set_option Elab.async false
set_option linter.all false
set_option maxRecDepth 100000
set_option maxHeartbeats 4000000
namespace LW
open PySem KF
variable {P : Prog}
/-! ### aims; holds that are told apart -/
def aimS (a : Bool) : Str := if a = true then "hold" else "key"
abbrev AimD (a : Bool) : D := .py (.str (aimS a))
theorem eqv_kh : PyData.eqv (.str "key") (.str "hold") = false := by decide +kernel
theorem eqv_hh : PyData.eqv (.str "hold") (.str "hold") = true := by decide +kernel
theorem eqv_hk : PyData.eqv (.str "hold") (.str "key") = false := by decide +kernel
theorem eqv_kk : PyData.eqv (.str "key") (.str "key") = true := by decide +kernel
theorem eqv_ii (a b : Int) : PyData.eqv (.int a) (.int b) = decide (a = b) := by
  rw [PyData.eqv]; by_cases h : a = b <;> simp [h]
theorem aim_ok (H : findD P 19 = some p_check_aim) (n : Nat) (h : MH) (a : Bool) : runF P (n + 1) 19 [AimD a] h = .ok (.py .none) h := by
  rw [run_of H]
  cases a <;> simp [callD, startE, look, lookV, Sl.get, Sl.getV, frzE, stoE, binF, addO, catL, iop, gAdd, gSub, gMul, gDiv, gMod, gPow, KF.listOf, ixU, dctAt, inUD, ninUD, inK, putU, ixO, ixD, L2.atI, L2.ixN, negD, truD, cmpF, icmp, isND, notND, isN, biF, fLen, lenD, fInt, fMax2, fMin2, fAbs, fTup, fLst, allPy, mkTup, mkLst, asI, revT, isiD, tyD, isTy, putO, putL, augF, promO, wipeE, itU, p_check_aim, k_check_aim, aimS, ninD, inD, seqD, shal, eqv_kh, eqv_hh, eqv_hk, eqv_kk]
def unlike (a : Bool) (p q : Int × Int) : Bool := decide (p.1 ≠ q.1) || (a && decide (p ≠ q))
theorem unlike_ok (H : findD P 17 = some p__law_unlike) (n : Nat) (h : MH) (a : Bool) (p q : Int × Int) : runF P (n + 1) 17 [.py (hP p), .py (hP q), AimD a] h = .ok (.py (.bool (unlike a p q))) h := by
  rw [run_of H]
  obtain ⟨p1, p2⟩ := p
  obtain ⟨q1, q2⟩ := q
  have e := eqv_T [p1, p2] [q1, q2]
  have e : ∀ a b c d : Int, PyData.eqv (.tuple [.int a, .int b]) (.tuple [.int c, .int d]) = decide ([a, b] = [c, d]) := fun a b c d => eqv_T [a, b] [c, d]
  have s : ∀ n i j, shal (n + 1) (.tuple [.int i, .int j]) = true := fun n i j => shal_T [i, j] n
  cases a <;> by_cases c : p1 = q1 <;> simp [callD, startE, look, lookV, Sl.get, Sl.getV, frzE, stoE, binF, addO, catL, iop, gAdd, gSub, gMul, gDiv, gMod, gPow, KF.listOf, ixU, dctAt, inUD, ninUD, inK, putU, ixO, ixD, L2.atI, L2.ixN, negD, truD, cmpF, icmp, isND, notND, isN, biF, fLen, lenD, fInt, fMax2, fMin2, fAbs, fTup, fLst, allPy, mkTup, mkLst, asI, revT, isiD, tyD, isTy, putO, putL, augF, promO, wipeE, itU, p__law_unlike, k__law_unlike, aimS, hP, neD, eqD, shal_int, s, shal, eqv_kh, eqv_hh, e, eqv_ii, c, unlike]
theorem isknown2 (H : findD P 20 = some p_is_known) (n : Nat) (h : MH) (a : Bool) (p q : Int × Int) : runF P (n + 1) 20 [.py (.list [hP p, hP q]), AimD a] h = .ok (.py (.bool (!a && decide (p.1 = q.1)))) h := by
  rw [run_of H]
  obtain ⟨p1, p2⟩ := p
  obtain ⟨q1, q2⟩ := q
  cases a
  · simp [callD, startE, look, lookV, Sl.get, Sl.getV, frzE, stoE, binF, addO, catL, iop, gAdd, gSub, gMul, gDiv, gMod, gPow, KF.listOf, ixU, dctAt, inUD, ninUD, inK, putU, ixO, ixD, L2.atI, L2.ixN, negD, truD, cmpF, icmp, isND, notND, isN, biF, fLen, lenD, fInt, fMax2, fMin2, fAbs, fTup, fLst, allPy, mkTup, mkLst, asI, revT, isiD, tyD, isTy, putO, putL, augF, promO, wipeE, itU, p_is_known, k_is_known, aimS, hP, eqD, shal, eqv_kh, lcF, mkL, lsO, intsOf]
    rw [eqv_ii]
    unfold ddI PyProof.Rows.firstMet
    by_cases c : p1 = q1
    · subst c
      simp [List.range_succ, PyProof.Rows.step_dedup]
    · have c' : ¬ q1 = p1 := fun z => c z.symm
      simp [List.range_succ, PyProof.Rows.step_dedup, c, c']
  · simp [callD, startE, look, lookV, Sl.get, Sl.getV, frzE, stoE, binF, addO, catL, iop, gAdd, gSub, gMul, gDiv, gMod, gPow, KF.listOf, ixU, dctAt, inUD, ninUD, inK, putU, ixO, ixD, L2.atI, L2.ixN, negD, truD, cmpF, icmp, isND, notND, isN, biF, fLen, lenD, fInt, fMax2, fMin2, fAbs, fTup, fLst, allPy, mkTup, mkLst, asI, revT, isiD, tyD, isTy, putO, putL, augF, promO, wipeE, itU, p_is_known, k_is_known, aimS, hP, eqD, shal, shal_int, eqv_hh, eqv_ii]
theorem eqv_hP (p q : Int × Int) : PyData.eqv (hP p) (hP q) = decide (p = q) := by
  obtain ⟨a, b⟩ := p
  obtain ⟨c, d⟩ := q
  have := eqv_T [a, b] [c, d]
  have e : PyData.eqv (hP (a, b)) (hP (c, d)) = decide ([a, b] = [c, d]) := this
  rw [e]
  simp
theorem eqvAll_hP : ∀ xs : List (Int × Int), PyData.eqvAll (xs.map hP) (xs.map hP) = true
  | [] => rfl
  | x :: r => by
    rw [List.map_cons, PyData.eqvAll, eqv_hP, eqvAll_hP r]
    simp
theorem shal_hP (p : Int × Int) (n : Nat) : shal (n + 1) (hP p) = true := shal_T [p.1, p.2] n
theorem shal_L {xs : List PyData} {n : Nat} (h : ∀ x ∈ xs, shal n x = true) : shal (n + 1) (.list xs) = true := by
  simp only [shal, List.all_eq_true]
  exact h
theorem getD_mem {α : Type} {xs : List α} {i : Nat} (h : i < xs.length) (d : α) : ∃ x, xs[i]? = some x ∧ x ∈ xs := ⟨xs[i], List.getElem?_eq_getElem h, List.getElem_mem h⟩
theorem pick {xs : List PyData} {v : Int} (Q : PyData → Prop) (h0 : 0 ≤ v) (h1 : v < xs.length) (hQ : ∀ x ∈ xs, Q x) : ∃ x, Q x ∧ ∀ pf, xs[v.toNat]'pf = x := by
  have hl : v.toNat < xs.length := by omega
  exact ⟨xs[v.toNat], hQ _ (List.getElem_mem hl), fun _ => rfl⟩
theorem hsh (xs : List (Int × Int)) : shal 64 (.list (xs.map hP)) = true := shal_L fun x hx => by
  obtain ⟨q, _, e⟩ := List.mem_map.mp hx
  subst e
  exact shal_hP q 62
theorem Ring.le {m n : Nat} {r : List Int} (h : Ring m r) (l : m ≤ n) : Ring n r := ⟨h.1, Nat.le_trans h.2.1 l, h.2.2⟩
theorem felt_shp {m : Nat} {r : List Int} (hr : Ring m r) (p : Int × Int) (n : Nat) : ∀ x ∈ feltL r p n, 0 ≤ x ∧ x ≤ 8 := fun x hx => by
  unfold feltL at hx
  obtain ⟨j, _, e⟩ := List.mem_map.mp hx
  subst e
  unfold feltZ
  rw [List.getD_eq_getElem?_getD]
  cases q : r[((p.1 + p.2 * (j : Nat)) % (r.length : Int)).toNat]? with
  | none => simp
  | some y => exact hr.2.2 y (List.mem_of_getElem? q)
/-! ### places at which two feelings differ -/
def dif (r : List Int) (p q : Int × Int) (j : Nat) : Bool := decide (feltZ r p j ≠ feltZ r q j)
def cnt (d : Nat → Bool) (m : Nat) : Nat := ((List.range m).filter d).length
theorem cnt_succ (d : Nat → Bool) (m : Nat) : cnt d (m + 1) = cnt d m + if d m = true then 1 else 0 := by
  unfold cnt
  rw [List.range_succ, List.filter_append, List.length_append]
  cases h : d m <;> simp [h]
theorem cnt_mono (d : Nat → Bool) {a b : Nat} (h : a ≤ b) : cnt d a ≤ cnt d b := by
  induction b with
  | zero => rw [Nat.le_zero.mp h]; exact Nat.le_refl _
  | succ b ih =>
    rcases Nat.lt_or_ge a (b + 1) with q | q
    · have := ih (by omega)
      rw [cnt_succ]; omega
    · rw [show a = b + 1 by omega]; exact Nat.le_refl _
theorem spot_get (d : Nat → Bool) : ∀ (n k j : Nat), ((List.range n).filter d)[k]? = some j → d j = true ∧ cnt d j = k ∧ j < n
  | 0, k, j, h => by simp at h
  | n + 1, k, j, h => by
    rw [List.range_succ, List.filter_append] at h
    by_cases hk : k < ((List.range n).filter d).length
    · rw [List.getElem?_append_left hk] at h
      obtain ⟨a, b, c⟩ := spot_get d n k j h
      exact ⟨a, b, by omega⟩
    · rw [List.getElem?_append_right (by omega)] at h
      cases q : d n with
      | false => simp [q] at h
      | true =>
        simp only [List.filter_cons, q, if_true, List.filter_nil] at h
        have e : k - ((List.range n).filter d).length = 0 := by
          cases z : k - ((List.range n).filter d).length with
          | zero => rfl
          | succ m => rw [z] at h; simp at h
        rw [e] at h
        simp at h
        subst h
        exact ⟨q, by unfold cnt; omega, by omega⟩
/-- the first number of keys with so many differences -/
structure Fst (d : Nat → Bool) (k t : Nat) : Prop where
  at' : k ≤ cnt d t
  low : ∀ m, m < t → cnt d m < k
theorem Fst.of_spot {d : Nat → Bool} {n k j : Nat} (h : ((List.range n).filter d)[k]? = some j) : Fst d (k + 1) (j + 1) := by
  obtain ⟨a, b, c⟩ := spot_get d n k j h
  refine ⟨by rw [cnt_succ, a]; simp; omega, fun m hm => ?_⟩
  have := cnt_mono d (show m ≤ j by omega)
  omega
theorem many_dif (d : Nat → Bool) (L j0 : Nat) (hL : 0 < L) (h0 : d j0 = true) (per : ∀ j, d (j + L) = d j) (i : Nat) : i + 1 ≤ cnt d (j0 + i * L + 1) := by
  have hd : ∀ i, d (j0 + i * L) = true := fun i => by
    induction i with
    | zero => simpa using h0
    | succ i ih => rw [Nat.succ_mul, ← Nat.add_assoc, per]; exact ih
  induction i with
  | zero => rw [cnt_succ]; simp [h0]
  | succ i ih =>
    rw [cnt_succ, hd (i + 1)]
    simp
    have := cnt_mono d (show j0 + i * L + 1 ≤ j0 + (i + 1) * L by rw [Nat.succ_mul]; omega)
    omega
end LW
set_option Elab.async false
set_option linter.all false
set_option maxRecDepth 100000
set_option maxHeartbeats 4000000
namespace LW
open PySem KF
variable {P : Prog}
theorem boolI (b : Bool) : ((if b = true then 1 else 0 : Nat) : Int) = if b = true then 1 else 0 := by cases b <;> rfl
theorem keysfor_loop (H6 : findD P 6 = some p_shape_at) (n : Nat) (h : MH) (r : List Int) (hr : 1 ≤ r.length) (p q : Int × Int) (hp : p.2.natAbs ≤ 1) (hq : q.2.natAbs ≤ 1) (k t : Nat) (ft : Fst (dif r p q) k t) : ∀ (d m fuel : Nat), m + d = t → d < fuel →
    whileF (ev (runF P (n + 1)) (.cmp (.lt) (.var 5) (.var 3))).T (ev (runF P (n + 1)) (.sq (.aug 5 (.add) (.bi (.int) (.cons (.cmp (.ne) (.fn 6 (.cons (.varV 0) (.cons (.varV 1) (.cons (.varV 4) (.nil))))) (.fn 6 (.cons (.varV 0) (.cons (.varV 2) (.cons (.varV 4) (.nil)))))) (.nil)))) (.aug 4 (.add) (.int 1)))).S fuel [.v (TI r), .v (.py (hP p)), .v (.py (hP q)), .v (.py (.int k)), .v (.py (.int m)), .v (.py (.int (cnt (dif r p q) m)))] h
     = .nx [.v (TI r), .v (.py (hP p)), .v (.py (hP q)), .v (.py (.int k)), .v (.py (.int t)), .v (.py (.int (cnt (dif r p q) t)))] h
  | 0, m, fuel + 1, hm, _ => by
    have hm : m = t := hm
    subst hm
    have := ft.at'
    have c : ¬ ((cnt (dif r p q) m : Int) < (k : Int)) := by omega
    unfold whileF
    simp [callD, startE, look, lookV, Sl.get, Sl.getV, frzE, stoE, binF, addO, catL, iop, gAdd, gSub, gMul, gDiv, gMod, gPow, KF.listOf, ixU, dctAt, inUD, ninUD, inK, putU, ixO, ixD, L2.atI, L2.ixN, negD, truD, cmpF, icmp, isND, notND, isN, biF, fLen, lenD, fInt, fMax2, fMin2, fAbs, fTup, fLst, allPy, mkTup, mkLst, asI, revT, isiD, tyD, isTy, putO, putL, augF, promO, wipeE, itU, c]
  | d + 1, m, fuel + 1, hm, hf => by
    have c0 := ft.low m (by omega)
    have c : ((cnt (dif r p q) m : Int) < (k : Int)) := by omega
    have ih := keysfor_loop H6 n h r hr p q hp hq k t ft d (m + 1) fuel (by omega) (by omega)
    have e1 := shape_ok H6 n h r hr p m hp
    have e2 := shape_ok H6 n h r hr q m hq
    have e3 := cnt_succ (dif r p q) m
    unfold whileF
    by_cases z : feltZ r p m = feltZ r q m
    · have z' : dif r p q m = false := by simp [dif, z]
      rw [e3, z'] at ih
      simp [callD, startE, look, lookV, Sl.get, Sl.getV, frzE, stoE, binF, addO, catL, iop, gAdd, gSub, gMul, gDiv, gMod, gPow, KF.listOf, ixU, dctAt, inUD, ninUD, inK, putU, ixO, ixD, L2.atI, L2.ixN, negD, truD, cmpF, icmp, isND, notND, isN, biF, fLen, lenD, fInt, fMax2, fMin2, fAbs, fTup, fLst, allPy, mkTup, mkLst, asI, revT, isiD, tyD, isTy, putO, putL, augF, promO, wipeE, itU, c, e1, e2, neD, eqD, shal_int, eqv_ii, z] at ih ⊢
      exact ih
    · have z' : dif r p q m = true := by simp [dif, z]
      rw [e3, z'] at ih
      simp [callD, startE, look, lookV, Sl.get, Sl.getV, frzE, stoE, binF, addO, catL, iop, gAdd, gSub, gMul, gDiv, gMod, gPow, KF.listOf, ixU, dctAt, inUD, ninUD, inK, putU, ixO, ixD, L2.atI, L2.ixN, negD, truD, cmpF, icmp, isND, notND, isN, biF, fLen, lenD, fInt, fMax2, fMin2, fAbs, fTup, fLst, allPy, mkTup, mkLst, asI, revT, isiD, tyD, isTy, putO, putL, augF, promO, wipeE, itU, c, e1, e2, neD, eqD, shal_int, eqv_ii, z] at ih ⊢
      exact ih
theorem keysfor_ok (H6 : findD P 6 = some p_shape_at) (H : findD P 169 = some p_keys_for) (n : Nat) (h : MH) (r : List Int) (hr : 1 ≤ r.length) (p q : Int × Int) (hp : p.2.natAbs ≤ 1) (hq : q.2.natAbs ≤ 1) (k t : Nat) (ht : t ≤ 1000) (ft : Fst (dif r p q) k t) :
    runF P (n + 2) 169 [TI r, .py (hP p), .py (hP q), .py (.int k)] h = .ok (.py (.int t)) h := by
  rw [run_of H]
  have L := keysfor_loop H6 n h r hr p q hp hq k t ft t 0 turns (by omega) (by unfold turns; omega)
  have c0 : cnt (dif r p q) 0 = 0 := rfl
  rw [c0] at L
  have L' : whileF (ev (runF P (n + 1)) (.cmp (.lt) (.var 5) (.var 3))).T (ev (runF P (n + 1)) (.sq (.aug 5 (.add) (.bi (.int) (.cons (.cmp (.ne) (.fn 6 (.cons (.varV 0) (.cons (.varV 1) (.cons (.varV 4) (.nil))))) (.fn 6 (.cons (.varV 0) (.cons (.varV 2) (.cons (.varV 4) (.nil)))))) (.nil)))) (.aug 4 (.add) (.int 1)))).S turns [.v (TI r), .v (.py (hP p)), .v (.py (hP q)), .v (.py (.int k)), .v (.py (.int 0)), .v (.py (.int 0))] h = _ := L
  simp [callD, startE, look, lookV, Sl.get, Sl.getV, frzE, stoE, binF, addO, catL, iop, gAdd, gSub, gMul, gDiv, gMod, gPow, KF.listOf, ixU, dctAt, inUD, ninUD, inK, putU, ixO, ixD, L2.atI, L2.ixN, negD, truD, cmpF, icmp, isND, notND, isN, biF, fLen, lenD, fInt, fMax2, fMin2, fAbs, fTup, fLst, allPy, mkTup, mkLst, asI, revT, isiD, tyD, isTy, putO, putL, augF, promO, wipeE, itU, p_keys_for, k_keys_for, L']
end LW
set_option Elab.async false
set_option linter.all false
set_option maxRecDepth 100000
set_option maxHeartbeats 4000000
/-! loops by invariants; dicts as lists of pairs; order of data -/
namespace KF
open PySem
/-! ### loops -/
theorem forF_cons (g : TgF) (b : EvS) (x : D) (r : List D) (env : KF.Env) (h : MH) : forF g b (x :: r) env h = match g x env with
  | some env1 => (b env1 h).thn (forF g b r)
  | none => .bad := rfl
theorem forF_rel {α : Type} {g : TgF} {b : EvS} (c : α → D) (I : List α → KF.Env → MH → Prop) (xs : List α)
    (H : ∀ pre x suf env h, xs = pre ++ x :: suf → I pre env h → ∃ e env' h', g (c x) env = some e ∧ b e h = .nx env' h' ∧ I (pre ++ [x]) env' h') :
    ∀ env h, I [] env h → ∃ env' h', forF g b (xs.map c) env h = .nx env' h' ∧ I xs env' h' := by
  have key : ∀ suf pre env h, xs = pre ++ suf → I pre env h → ∃ env' h', forF g b (suf.map c) env h = .nx env' h' ∧ I xs env' h' := by
    intro suf
    induction suf with
    | nil => intro pre env h e i; rw [List.append_nil] at e; subst e; exact ⟨env, h, rfl, i⟩
    | cons x r ih =>
      intro pre env h e i
      obtain ⟨e1, env', h', h1, h2, h3⟩ := H pre x r env h e i
      obtain ⟨env2, h2', h4, h5⟩ := ih (pre ++ [x]) env' h' (by rw [e]; simp) h3
      refine ⟨env2, h2', ?_, h5⟩
      rw [List.map_cons, forF_cons, h1]
      show (b e1 h).thn _ = _
      rw [h2]
      exact h4
  exact fun env h i => key xs [] env h rfl i
/-- a loop that may return -/
theorem forF_exit {α : Type} {g : TgF} {b : EvS} (c : α → D) (I : List α → KF.Env → MH → Prop) (R : D → MH → Prop) (xs : List α)
    (H : ∀ pre x suf env h, xs = pre ++ x :: suf → I pre env h → ∃ e, g (c x) env = some e ∧ ((∃ env' h', b e h = .nx env' h' ∧ I (pre ++ [x]) env' h') ∨ ∃ d h', b e h = .rt d h' ∧ R d h')) :
    ∀ env h, I [] env h → (∃ env' h', forF g b (xs.map c) env h = .nx env' h' ∧ I xs env' h') ∨ ∃ d h', forF g b (xs.map c) env h = .rt d h' ∧ R d h' := by
  have key : ∀ suf pre env h, xs = pre ++ suf → I pre env h → (∃ env' h', forF g b (suf.map c) env h = .nx env' h' ∧ I xs env' h') ∨ ∃ d h', forF g b (suf.map c) env h = .rt d h' ∧ R d h' := by
    intro suf
    induction suf with
    | nil => intro pre env h e i; rw [List.append_nil] at e; subst e; exact .inl ⟨env, h, rfl, i⟩
    | cons x r ih =>
      intro pre env h e i
      obtain ⟨e1, h1, h2⟩ := H pre x r env h e i
      rcases h2 with ⟨env', h', h2, h3⟩ | ⟨d, h', h2, h3⟩
      · rcases ih (pre ++ [x]) env' h' (by rw [e]; simp) h3 with ⟨env2, h2', h4, h5⟩ | ⟨d, h2', h4, h5⟩
        · refine .inl ⟨env2, h2', ?_, h5⟩
          rw [List.map_cons, forF_cons, h1]
          show (b e1 h).thn _ = _
          rw [h2]
          exact h4
        · refine .inr ⟨d, h2', ?_, h5⟩
          rw [List.map_cons, forF_cons, h1]
          show (b e1 h).thn _ = _
          rw [h2]
          exact h4
      · refine .inr ⟨d, h', ?_, h3⟩
        rw [List.map_cons, forF_cons, h1]
        show (b e1 h).thn _ = _
        rw [h2]
        rfl
  exact fun env h i => key xs [] env h rfl i
theorem rngL_map (n : Nat) : rngL 0 n = (List.range n).map fun (k : Nat) => D.py (.int (k : Nat)) := by
  unfold rngL
  apply List.map_congr_left
  intro a _
  simp
/-! ### dicts -/
structure KeyEnc {κ : Type} [DecidableEq κ] (c : κ → PyData) : Prop where
  eq : ∀ a b, keq (c a) (c b) = decide (a = b)
  ok : ∀ (kvs : KVs) (a : κ), (∀ kv ∈ kvs, ∃ b, kv.1 = c b) → kOk kvs (c a) = true
  st : ∀ (a : κ) x, c a ≠ .str x
def lookG {κ β : Type} [DecidableEq κ] (G : List (κ × β)) (k : κ) : Option β := (G.find? fun x => decide (x.1 = k)).map (·.2)
def putG {κ β : Type} [DecidableEq κ] (G : List (κ × β)) (k : κ) (b : β) : List (κ × β) := if (lookG G k).isSome = true then G.map fun x => if x.1 = k then (x.1, b) else x else G ++ [(k, b)]
def encG {κ β : Type} (c : κ → PyData) (v : β → PyData) (G : List (κ × β)) : KVs := G.map fun x => (c x.1, v x.2)
section
variable {κ β : Type} [DecidableEq κ] {c : κ → PyData} {v : β → PyData}
theorem getK_enc (E : KeyEnc c) (G : List (κ × β)) (k : κ) : getK (encG c v G) (c k) = (lookG G k).map v := by
  unfold getK encG lookG
  induction G with
  | nil => rfl
  | cons x r ih =>
    rw [List.map_cons, List.find?_cons, List.find?_cons, E.eq]
    by_cases h : x.1 = k
    · simp [h]
    · simp only [h, decide_false]
      exact ih
theorem putK_enc (E : KeyEnc c) (G : List (κ × β)) (k : κ) (b : β) : putKD (encG c v G) (c k) (v b) = encG c v (putG G k b) := by
  unfold putKD putG
  rw [getK_enc E]
  cases h : lookG G k with
  | none => simp [encG]
  | some b' =>
    simp only [Option.map_some, Option.isSome_some, if_true]
    unfold encG
    rw [List.map_map, List.map_map]
    apply List.map_congr_left
    intro x _
    simp only [Function.comp, E.eq, decide_eq_true_eq]
    split <;> rfl
theorem kOk_enc (E : KeyEnc c) (G : List (κ × β)) (k : κ) : kOk (encG c v G) (c k) = true := E.ok _ _ fun kv h => by
  unfold encG at h
  obtain ⟨x, _, e⟩ := List.mem_map.mp h
  exact ⟨x.1, by rw [← e]⟩
theorem encG_len (G : List (κ × β)) : (encG c v G).length = G.length := by simp [encG]
theorem sKs_enc (E : KeyEnc c) (G : List (κ × β)) : sKs (encG c v G) = true := by
  unfold sKs
  rw [List.all_eq_true]
  intro kv h
  unfold encG at h
  obtain ⟨x, _, e⟩ := List.mem_map.mp h
  subst e
  have := E.st x.1
  dsimp only
  split
  · rename_i q; exact absurd q (this _)
  · rfl
theorem keysL_enc (G : List (κ × β)) : keysL (encG c v G) = G.map fun x => .py (c x.1) := by
  unfold keysL encG
  rw [List.map_map]
  rfl
theorem putG_len (G : List (κ × β)) (k : κ) (b : β) : (putG G k b).length ≤ G.length + 1 := by
  unfold putG
  split <;> simp
theorem lookG_put (G : List (κ × β)) (k k' : κ) (b : β) : lookG (putG G k b) k' = if k = k' then some b else lookG G k' := by
  unfold putG
  by_cases hs : (lookG G k).isSome = true
  · rw [if_pos hs]
    unfold lookG at hs ⊢
    induction G with
    | nil => simp at hs
    | cons x r ih =>
      rw [List.map_cons, List.find?_cons]
      by_cases hx : x.1 = k
      · simp only [hx, if_true]
        by_cases hk : k = k'
        · simp [hk]
        · simp only [hk, decide_false, if_false]
          have hx' : ¬ x.1 = k' := fun z => hk (hx.symm.trans z)
          rw [List.find?_cons]
          simp only [hx', decide_false]
          have e : (r.map fun x => if x.1 = k then (x.1, b) else x).find? (fun x => decide (x.1 = k')) = r.find? fun x => decide (x.1 = k') := by
            clear ih hs
            induction r with
            | nil => rfl
            | cons y s ih2 =>
              rw [List.map_cons, List.find?_cons, List.find?_cons]
              by_cases hy : y.1 = k
              · have hy' : ¬ y.1 = k' := fun z => hk (hy.symm.trans z)
                simp only [hy, if_true, hk, decide_false]
                exact ih2
              · simp only [hy, if_false]
                cases q : decide (y.1 = k') with
                | true => rfl
                | false => exact ih2
          rw [e]
      · simp only [hx, if_false]
        rw [List.find?_cons] at hs
        simp only [hx, decide_false] at hs
        by_cases hk' : x.1 = k'
        · have : ¬ k = k' := fun z => hx (hk'.trans z.symm)
          simp [hk', this]
        · rw [List.find?_cons]
          simp only [hk', decide_false]
          exact ih hs
  · rw [if_neg hs]
    have hn : lookG G k = none := by simpa using hs
    unfold lookG at hn ⊢
    rw [List.find?_append]
    by_cases hk : k = k'
    · subst hk
      have : G.find? (fun x => decide (x.1 = k)) = none := by simpa using hn
      simp [this]
    · simp [hk]
theorem putG_keys (G : List (κ × β)) (k : κ) (b : β) : (putG G k b).map (·.1) = if (lookG G k).isSome = true then G.map (·.1) else G.map (·.1) ++ [k] := by
  unfold putG
  split
  · rw [List.map_map]
    apply List.map_congr_left
    intro x _
    simp only [Function.comp]
    split <;> rfl
  · simp
theorem lookG_none {G : List (κ × β)} {k : κ} : lookG G k = none ↔ k ∉ G.map (·.1) := by
  unfold lookG
  simp only [Option.map_eq_none_iff, List.find?_eq_none, List.mem_map, decide_eq_true_eq]
  constructor
  · rintro h ⟨x, hx, e⟩; exact h x hx e
  · intro h x hx e; exact h ⟨x, hx, e⟩
theorem putG_nodup {G : List (κ × β)} (h : (G.map (·.1)).Nodup) (k : κ) (b : β) : ((putG G k b).map (·.1)).Nodup := by
  rw [putG_keys]
  split
  · exact h
  · rename_i q
    have hn : lookG G k = none := by simpa using q
    refine List.nodup_append.mpr ⟨h, by simp, fun a ha c hc e => ?_⟩
    have : c = k := by simpa using hc
    subst this e
    exact lookG_none.mp hn ha
theorem lookG_mem {G : List (κ × β)} (h : (G.map (·.1)).Nodup) {k : κ} {b : β} : (k, b) ∈ G ↔ lookG G k = some b := by
  unfold lookG
  induction G with
  | nil => simp
  | cons x r ih =>
    rw [List.map_cons, List.nodup_cons] at h
    rw [List.mem_cons, List.find?_cons]
    by_cases hx : x.1 = k
    · simp only [hx, decide_true, Option.map_some, Option.some.injEq]
      constructor
      · rintro (e | e)
        · rw [← e]
        · exact absurd (List.mem_map.mpr ⟨_, e, rfl⟩) (hx ▸ h.1)
      · intro e; exact .inl (by rw [← e, ← hx])
    · simp only [hx, decide_false]
      rw [← ih h.2]
      constructor
      · rintro (e | e)
        · exact absurd (by rw [← e]) hx
        · exact e
      · exact .inr
/-! things put together by their keys -/
def grpG {ν : Type} (xs : List (κ × ν)) : List (κ × List ν) := xs.foldl (fun G x => putG G x.1 ((lookG G x.1).getD [] ++ [x.2])) []
def grpOf {ν : Type} (xs : List (κ × ν)) (k : κ) : List ν := (xs.filter fun x => decide (x.1 = k)).map (·.2)
theorem grp_snoc {ν : Type} (xs : List (κ × ν)) (x : κ × ν) : grpG (xs ++ [x]) = putG (grpG xs) x.1 ((lookG (grpG xs) x.1).getD [] ++ [x.2]) := by
  unfold grpG
  rw [List.foldl_append]
  rfl
theorem snoc_ind {α : Type} {p : List α → Prop} (h0 : p []) (h1 : ∀ xs x, p xs → p (xs ++ [x])) : ∀ xs, p xs := by
  intro xs
  have : ∀ ys : List α, p ys.reverse := by
    intro ys
    induction ys with
    | nil => exact h0
    | cons y r ih => rw [List.reverse_cons]; exact h1 _ _ ih
  have := this xs.reverse
  rwa [List.reverse_reverse] at this
theorem grp_nodup {ν : Type} (xs : List (κ × ν)) : ((grpG xs).map (·.1)).Nodup := by
  induction xs using snoc_ind with
  | h0 => exact List.nodup_nil
  | h1 xs x ih => rw [grp_snoc]; exact putG_nodup ih _ _
theorem grp_look {ν : Type} (xs : List (κ × ν)) (k : κ) : lookG (grpG xs) k = if k ∈ xs.map (·.1) then some (grpOf xs k) else none := by
  induction xs using snoc_ind with
  | h0 => rfl
  | h1 xs x ih =>
    rw [grp_snoc, lookG_put]
    have e : ∀ k, grpOf (xs ++ [x]) k = grpOf xs k ++ if x.1 = k then [x.2] else [] := fun k => by
      unfold grpOf
      rw [List.filter_append, List.map_append]
      by_cases h : x.1 = k <;> simp [h]
    by_cases h : x.1 = k
    · subst h
      have hm2 : x.1 ∈ (xs ++ [x]).map (·.1) := by rw [List.map_append]; exact List.mem_append_right _ List.mem_cons_self
      have e2 : (if x.1 ∈ (xs ++ [x]).map (·.1) then some (grpOf (xs ++ [x]) x.1) else none) = some (grpOf (xs ++ [x]) x.1) := if_pos hm2
      rw [if_pos rfl, ih, e2, e, if_pos rfl]
      by_cases hm : x.1 ∈ xs.map (·.1)
      · rw [if_pos hm]; rfl
      · rw [if_neg hm]
        have : grpOf xs x.1 = [] := by
          unfold grpOf
          rw [List.map_eq_nil_iff, List.filter_eq_nil_iff]
          intro y hy q
          exact hm (List.mem_map.mpr ⟨y, hy, of_decide_eq_true q⟩)
        rw [this]; rfl
    · rw [if_neg h, ih, e, if_neg h, List.append_nil]
      by_cases hm : k ∈ xs.map (·.1)
      · rw [if_pos hm, if_pos (by rw [List.map_append]; exact List.mem_append_left _ hm)]
      · rw [if_neg hm, if_neg]
        rw [List.map_append]
        intro q
        rcases List.mem_append.mp q with q | q
        · exact hm q
        · have q : k = x.1 := by simpa using q
          exact h q.symm
theorem grp_mem {ν : Type} (xs : List (κ × ν)) (k : κ) (b : List ν) : (k, b) ∈ grpG xs ↔ k ∈ xs.map (·.1) ∧ b = grpOf xs k := by
  rw [lookG_mem (grp_nodup xs), grp_look]
  by_cases h : k ∈ xs.map (·.1)
  · rw [if_pos h]; simp [h, eq_comm]
  · rw [if_neg h]; simp [h]
theorem grp_len {ν : Type} (xs : List (κ × ν)) : (grpG xs).length ≤ xs.length := by
  induction xs using snoc_ind with
  | h0 => exact Nat.le_refl _
  | h1 xs x ih =>
    rw [grp_snoc]
    have := putG_len (grpG xs) x.1 ((lookG (grpG xs) x.1).getD [] ++ [x.2])
    simp only [List.length_append, List.length_singleton]
    omega
end
/-! tuples of ints as keys -/
def kTu (k : List Int) : PyData := .tuple (iL k)
theorem nks_ints (k : List Int) : nks (iL k) = some (k.map .num) := by
  induction k with
  | nil => rfl
  | cons x r ih =>
    show ((nk (.int x)).bind fun k => (nks (iL r)).bind fun ks => some (k :: ks)) = _
    rw [ih]
    rfl
theorem depth_ints (k : List Int) : NestedKey.depthAll (k.map .num) = 0 := by
  induction k with
  | nil => simp [NestedKey.depthAll]
  | cons x r ih => simp [NestedKey.depthAll, NestedKey.depth, ih]
theorem num_inj {a b : List Int} (h : a.map NestedKey.num = b.map .num) : a = b := by
  induction a generalizing b with
  | nil => cases b with
    | nil => rfl
    | cons => cases h
  | cons x r ih => cases b with
    | nil => cases h
    | cons y s =>
      rw [List.map_cons, List.map_cons] at h
      injection h with h1 h2
      injection h1 with h1
      rw [h1, ih h2]
theorem encT : KeyEnc kTu where
  eq := fun a b => by
    have e : ∀ k, nk (kTu k) = some (.tup (k.map .num)) := fun k => by
      show (nks (iL k)).map NestedKey.tup = _
      rw [nks_ints]; rfl
    rw [keq_nk (e a) (e b)]
    apply decide_eq_decide.mpr
    constructor
    · intro h; injection h with h; exact num_inj h
    · intro h; rw [h]
  ok := fun kvs a h => by
    show ((match nks (iL a) with
      | some ks => Nat.ble (NestedKey.depthAll ks + 1) 8
      | none => false) && (kvs.all fun kv => isT kv.1)) = true
    rw [nks_ints]
    simp only [depth_ints]
    rw [Bool.and_eq_true]
    refine ⟨rfl, List.all_eq_true.mpr fun kv hk => ?_⟩
    obtain ⟨b, e⟩ := h kv hk
    rw [e]; rfl
  st := fun a x h => by cases h
/-! ### order of data -/
open PySem.W (dataLt alike alikeAll minD)
theorem ltT_cons {x y : PyData} {xs ys : List PyData} (h : alike x y = true) : dataLt (.tuple (x :: xs)) (.tuple (y :: ys)) = if PyData.eqv x y = true then dataLt (.tuple xs) (.tuple ys) else dataLt x y := by
  rw [PySem.W.dataLt_tuple, PySem.W.dataLt_tuple]
  cases e : PyData.eqv x y with
  | true => rw [PySem.W.dataLt_all_yes h e]; rfl
  | false => rw [PySem.W.dataLt_all_no h e]; rfl
theorem ltT_nil : dataLt (.tuple []) (.tuple []) = false := by
  rw [PySem.W.dataLt_tuple]
  decide +kernel
theorem minD_head {x : PyData} : ∀ {xs : List PyData}, (∀ y ∈ xs, dataLt y x = false) → minD x xs = x
  | [], _ => rfl
  | y :: r, h => by
    show r.foldl _ (if dataLt y x = true then y else x) = x
    rw [h y List.mem_cons_self]
    exact minD_head fun z hz => h z (List.mem_cons_of_mem _ hz)
end KF
namespace LW
open PySem KF
open PySem.W (dataLt alike alikeAll minD)
def hLt (p q : Int × Int) : Bool := decide (p.1 < q.1 ∨ (p.1 = q.1 ∧ p.2 < q.2))
theorem alike_ii (a b : Int) : alike (.int a) (.int b) = true := by rw [alike]
theorem lt_hP (p q : Int × Int) : dataLt (hP p) (hP q) = hLt p q := by
  unfold hP hLt
  rw [ltT_cons (alike_ii _ _), ltT_cons (alike_ii _ _), ltT_nil, eqv_ii, eqv_ii, PySem.W.dataLt_int, PySem.W.dataLt_int]
  by_cases h1 : p.1 = q.1
  · by_cases h2 : p.2 = q.2
    · simp [h1, h2]
    · simp [h1, h2]
  · simp [h1]
theorem alike_hP (p q : Int × Int) : alike (hP p) (hP q) = true := by
  unfold hP
  rw [alike, alikeAll, alikeAll, alikeAll, alike_ii, alike_ii]
  rfl
theorem hdL_pw (n : Nat) : (hdL n).Pairwise fun p q => hLt p q = true := by
  induction n with
  | zero => exact .nil
  | succ n ih =>
    rw [hdL_succ, List.pairwise_append]
    refine ⟨ih, ?_, fun a ha b hb => ?_⟩
    · simp [hLt]
    · have h1 := (hdL_ok ha).2.1
      simp only [List.mem_cons, List.not_mem_nil, or_false] at hb
      rcases hb with e | e <;> subst e <;> simp [hLt] <;> omega
theorem hLt_asym {p q : Int × Int} (h : hLt p q = true) : hLt q p = false := by
  unfold hLt at *
  simp only [decide_eq_true_eq, decide_eq_false_iff_not] at *
  omega
theorem hLt_ne {p q : Int × Int} (h : hLt p q = true) : p ≠ q := by
  rintro rfl
  unfold hLt at h
  simp at h
theorem hdL_nodup (n : Nat) : (hdL n).Nodup := (hdL_pw n).imp fun h => hLt_ne h
end LW
set_option Elab.async false
set_option linter.all false
set_option maxRecDepth 100000
set_option maxHeartbeats 4000000
/-! k19: the law. Printed by gen19z.py. -/
namespace LW
open PySem KF
def q19_0 : K := .asg (.tn 1) (.fn 11 (.cons (.varV 0) (.cons (.int 19) (.nil))))
def q19_1 : K := .sto 2 (.lst (.cons (.lst (.cons (.str "ring") (.cons (.str "row") (.cons (.str "wrong") (.nil))))) (.cons (.lst (.cons (.str "ring") (.cons (.str "aim") (.cons (.str "wrong") (.nil))))) (.cons (.lst (.cons (.str "rings") (.nil))) (.cons (.lst (.cons (.str "ring") (.cons (.str "aim") (.nil)))) (.cons (.lst (.cons (.str "counts") (.cons (.str "aim") (.nil)))) (.nil)))))))
def q19_2 : K := .app 2 (.lst (.cons (.str "six") (.cons (.str "three") (.cons (.str "twenty") (.cons (.str "aim") (.nil))))))
def q19_3 : K := .parN 3 4 (.cons (.fn 12 (.cons (.varV 1) (.cons (.int 6) (.nil)))) (.cons (.fn 12 (.cons (.varV 1) (.cons (.int 6) (.nil)))) (.nil)))
def q19_4 : K := .asg (.tn 5) (.ix (.var 2) (.var 3))
def q19_5 : K := .sto 6 (.lc [7] (.tn 7) (.seq (.varV 5)) (.yes) (e_law19_1))
def q19_6 : K := .sto 8 (.lst (.nil))
def q19_7 : K := .fr (.tn 9) (.rng1 (.cons (.bi (.len) (.cons (.var 5) (.nil))) (.nil))) (b_law19_1)
def q19_8 : K := .sto 10 (.bin (.add) (.lc [9] (.tn 9) (.rng1 (.cons (.bi (.len) (.cons (.var 5) (.nil))) (.nil))) (t_law19_1) (e_law19_2)) (.lst (.cons (.str "good") (.nil))))
def q19_9 : K := .ite (.and (.cmp (.eq) (.var 3) (.int 4)) (.and (.no (.ix (.var 6) (.int 0))) (.cmp (.eq) (.fn 12 (.cons (.varV 1) (.cons (.int 2) (.nil)))) (.int 0)))) (.parS 8 0 10 (.cons (.tup (.cons (.int 9) (.nil))) (.cons (.lst (.cons (.str "many") (.nil))) (.nil)))) (.skip)
def q19_10 : K := .frz 8
def q19_z : K := .ret (.cmp (.eq) (.fn 199 (.cons (.varV 3) (.cons (.varV 8) (.cons (.varV 4) (.nil))))) (.slc (.var 10) (.nil) (.int 1)))
def tail19 : K := .sq q19_5 (.sq q19_6 (.sq q19_7 (.sq q19_8 (.sq q19_9 (.sq q19_10 q19_z)))))
theorem k19_eq : k_law19 = .sq q19_0 (.sq q19_1 (.sq q19_2 (.sq q19_3 (.sq q19_4 tail19)))) := rfl
def asked19 : List PyData := [.list [.str "ring", .str "row", .str "wrong"], .list [.str "ring", .str "aim", .str "wrong"], .list [.str "rings"], .list [.str "ring", .str "aim"], .list [.str "counts", .str "aim"], .list [.str "six", .str "three", .str "twenty", .str "aim"]]
theorem hd19 (F : FnS) (R : K) (sc : D) (h : MH) : (ev F (.sq q19_1 (.sq q19_2 R))).S [.v sc, .v (.loc 1), .u, .u, .u, .u, .u, .u, .u, .u, .u] h = (ev F R).S [.v sc, .v (.loc 1), .o asked19, .u, .u, .u, .u, .u, .u, .u, .u] h := by kernel_rfl
def wl (k : Nat) : List PyData := (ws19 k).map fun x => .str x.w
theorem wd (k : Nat) (hk : k < 6) : L2.atI asked19 (k : Int) = some (.list (wl k)) := by
  rcases (by omega : k = 0 ∨ k = 1 ∨ k = 2 ∨ k = 3 ∨ k = 4 ∨ k = 5) with rfl | rfl | rfl | rfl | rfl | rfl <;> rfl
theorem wl_len (k : Nat) (hk : k < 6) : 1 ≤ (ws19 k).length ∧ (ws19 k).length ≤ 4 := by
  rcases (by omega : k = 0 ∨ k = 1 ∨ k = 2 ∨ k = 3 ∨ k = 4 ∨ k = 5) with rfl | rfl | rfl | rfl | rfl | rfl <;> decide
/-! ### what is told, for every kind -/
def cost : List Bool → Nat
  | [] => 0
  | f :: r => (if f = true then 1 else 2) + cost r
def Sels : List W19 → List Bool → List PyData → Prop
  | x :: r, f :: s, v :: t => Sel x f v ∧ Sels r s t
  | [], [], [] => True
  | _, _, _ => False
theorem sels_len : ∀ {ws : List W19} {fs : List Bool} {t : List PyData}, Sels ws fs t → t.length = ws.length
  | [], [], [], _ => rfl
  | a :: ws, b :: fs, c :: t, hs => by
    have := sels_len hs.2
    simp [this]
theorem told_all (k : Nat) (hk : k < 6) (fs : List Bool) (t : List PyData) (hf : fs.length = (ws19 k).length) (hS : Sels (ws19 k) fs t) (u : Int) (u0 : 0 ≤ u) (u1 : u < 6) (h : MH) (hl : h.length = 2 + cost fs) :
    ∃ h', runF P 99 199 [.py (.int (k : Nat)), .py (.list t), .py (.int u)] h = .ok (.py (.list [.str (dueH (ws19 k) fs)])) h' := by
  have ht := sels_len hS
  rcases (by omega : k = 0 ∨ k = 1 ∨ k = 2 ∨ k = 3 ∨ k = 4 ∨ k = 5) with rfl | rfl | rfl | rfl | rfl | rfl
  · match fs, t, (show fs.length = 3 from hf), (show t.length = 3 from ht), hS, hl with
    | [f0, f1, f2], [v0, v1, v2], _, _, ⟨c0, c1, c2, _⟩, hl => exact told_0 f0 f1 f2 v0 v1 v2 c0 c1 c2 u u0 u1 h (by simp only [cost] at hl; omega)
  · match fs, t, (show fs.length = 3 from hf), (show t.length = 3 from ht), hS, hl with
    | [f0, f1, f2], [v0, v1, v2], _, _, ⟨c0, c1, c2, _⟩, hl => exact told_1 f0 f1 f2 v0 v1 v2 c0 c1 c2 u u0 u1 h (by simp only [cost] at hl; omega)
  · match fs, t, (show fs.length = 1 from hf), (show t.length = 1 from ht), hS, hl with
    | [f0], [v0], _, _, ⟨c0, _⟩, hl => exact told_2 f0 v0 c0 u u0 u1 h (by simp only [cost] at hl; omega)
  · match fs, t, (show fs.length = 2 from hf), (show t.length = 2 from ht), hS, hl with
    | [f0, f1], [v0, v1], _, _, ⟨c0, c1, _⟩, hl => exact told_3 f0 f1 v0 v1 c0 c1 u u0 u1 h (by simp only [cost] at hl; omega)
  · match fs, t, (show fs.length = 2 from hf), (show t.length = 2 from ht), hS, hl with
    | [f0, f1], [v0, v1], _, _, ⟨c0, c1, _⟩, hl => exact told_4 f0 f1 v0 v1 c0 c1 u u0 u1 h (by simp only [cost] at hl; omega)
  · match fs, t, (show fs.length = 4 from hf), (show t.length = 4 from ht), hS, hl with
    | [f0, f1, f2, f3], [v0, v1, v2, v3], _, _, ⟨c0, c1, c2, c3, _⟩, hl => exact told_5 f0 f1 f2 f3 v0 v1 v2 v3 c0 c1 c2 c3 u u0 u1 h (by simp only [cost] at hl; omega)
def dueL (ws : List W19) (fs : List Bool) : List PyData := ((List.range ws.length).filter fun i => fs.getD i false).map fun i => .str ((ws.map W19.kd).getD i "")
theorem due_head (k : Nat) (hk : k < 6) (fs : List Bool) (hf : fs.length = (ws19 k).length) : ∃ r, dueL (ws19 k) fs ++ [.str "good"] = .str (dueH (ws19 k) fs) :: r := by
  rcases (by omega : k = 0 ∨ k = 1 ∨ k = 2 ∨ k = 3 ∨ k = 4 ∨ k = 5) with rfl | rfl | rfl | rfl | rfl | rfl
  · match fs, hf with
    | [f0, f1, f2], _ => cases f0 <;> cases f1 <;> cases f2 <;> exact ⟨_, rfl⟩
  · match fs, hf with
    | [f0, f1, f2], _ => cases f0 <;> cases f1 <;> cases f2 <;> exact ⟨_, rfl⟩
  · match fs, hf with
    | [f0], _ => cases f0 <;> exact ⟨_, rfl⟩
  · match fs, hf with
    | [f0, f1], _ => cases f0 <;> cases f1 <;> exact ⟨_, rfl⟩
  · match fs, hf with
    | [f0, f1], _ => cases f0 <;> cases f1 <;> exact ⟨_, rfl⟩
  · match fs, hf with
    | [f0, f1, f2, f3], _ => cases f0 <;> cases f1 <;> cases f2 <;> cases f3 <;> exact ⟨_, rfl⟩
/-! ### the flags -/
theorem lcF_flags {g : TgF} {ft : EvF Bool} {fe : EvF D} {env : KF.Env} (H : ∀ x h, HS h → ∃ env1 r h', g x env = some env1 ∧ ft env1 h = .ok true h ∧ fe env1 h = .ok (.py (.bool r)) h' ∧ HS h' ∧ Rest h h') :
    ∀ (xs : List D) (h : MH), HS h → ∃ (ys : List Bool) (h' : MH), lcF g ft fe env xs h = .ok (ys.map PyData.bool) h' ∧ ys.length = xs.length ∧ HS h' ∧ Rest h h'
  | [], h, hs => ⟨[], h, rfl, rfl, hs, Rest.refl h⟩
  | x :: r, h, hs => by
    obtain ⟨env1, v, h1, e1, e2, e3, hs1, r1⟩ := H x h hs
    obtain ⟨ys, h2, e4, l, hs2, r2⟩ := lcF_flags H r h1 hs1
    refine ⟨v :: ys, h2, ?_, by simp [l], hs2, r1.trans r2⟩
    unfold lcF
    rw [e1]
    simp [e2, e3, e4]
theorem itU_list (xs : List PyData) : itU (.py (.list xs)) = some (xs.map D.py) := rfl
abbrev F19 (sc : D) (k : Nat) (u : Int) : KF.Env := [.v sc, .v (.loc 1), .o asked19, .v (.py (.int (k : Nat))), .v (.py (.int u)), .v (.py (.list (wl k))), .u, .u, .u, .u, .u]
theorem flags_ok (k : Nat) (hk : k < 6) (sc : D) (u : Int) {h : MH} (s : HS h) : ∃ (fs : List Bool) (h' : MH), (ev (runF P 99) q19_5).S (F19 sc k u) h
    = .nx [.v sc, .v (.loc 1), .o asked19, .v (.py (.int (k : Nat))), .v (.py (.int u)), .v (.py (.list (wl k))), .o (fs.map .bool), .u, .u, .u, .u] h' ∧ fs.length = (ws19 k).length ∧ HS h' ∧ Rest h h' := by
  obtain ⟨fs, h', e, l, s', r'⟩ := lcF_flags (g := (ev (runF P 99) (.tn 7)).G) (ft := (ev (runF P 99) .yes).T) (fe := (ev (runF P 99) e_law19_1).E) (env := F19 sc k u) (fun x h hs => by
      obtain ⟨v, h', e, p, q, s, r⟩ := next_ok (P := P) rfl 98 (b := 3) hs (by omega) (by omega)
      exact ⟨_, (v == 0), h', rfl, rfl, by simp [callD, startE, look, lookV, Sl.get, Sl.getV, frzE, stoE, binF, addO, catL, iop, gAdd, gSub, gMul, gDiv, gMod, gPow, KF.listOf, ixU, dctAt, inUD, ninUD, inK, putU, ixO, ixD, L2.atI, L2.ixN, negD, truD, cmpF, icmp, isND, notND, isN, biF, fLen, lenD, fInt, fMax2, fMin2, fAbs, fTup, fLst, allPy, mkTup, mkLst, asI, revT, isiD, tyD, isTy, putO, putL, augF, promO, wipeE, itU, e_law19_1, e, eqD, shal_int, PyData.eqv], s, r⟩) ((wl k).map D.py) h s
  have ln : fs.length = (ws19 k).length := by simpa [wl] using l
  have := wl_len k hk
  refine ⟨fs, h', ?_, ln, s', r'⟩
  have f1 : fits fs.length = true := fits_small (by omega)
  simp [callD, startE, look, lookV, Sl.get, Sl.getV, frzE, stoE, binF, addO, catL, iop, gAdd, gSub, gMul, gDiv, gMod, gPow, KF.listOf, ixU, dctAt, inUD, ninUD, inK, putU, ixO, ixD, L2.atI, L2.ixN, negD, truD, cmpF, icmp, isND, notND, isN, biF, fLen, lenD, fInt, fMax2, fMin2, fAbs, fTup, fLst, allPy, mkTup, mkLst, asI, revT, isiD, tyD, isTy, putO, putL, augF, promO, wipeE, itU, q19_5, itU_list, e, mkL, f1]
/-! ### the values -/
theorem T_ix (F : FnS) (a b : K) (env : KF.Env) (h : MH) : (ev F (.ix a b)).T env h = ((ev F (.ix a b)).E env h).bind fun x h1 => lift (truD h1 x) h1 := rfl
def E19 (sc : D) (k : Nat) (u : Int) (fs : List Bool) (t : List PyData) (s9 : Sl) : KF.Env := [.v sc, .v (.loc 1), .o asked19, .v (.py (.int (k : Nat))), .v (.py (.int u)), .v (.py (.list (wl k))), .o (fs.map .bool), .u, .o t, s9, .u]
theorem sels_snoc : ∀ {ws : List W19} {fs : List Bool} {t : List PyData} {x : W19} {f : Bool} {v : PyData}, Sels ws fs t → Sel x f v → Sels (ws ++ [x]) (fs ++ [f]) (t ++ [v])
  | [], [], [], x, f, v, _, c => ⟨c, trivial⟩
  | a :: ws, b :: fs, c :: t, x, f, v, hs, e => ⟨hs.1, sels_snoc hs.2 e⟩
theorem cost_snoc : ∀ (fs : List Bool) (f : Bool), cost (fs ++ [f]) = cost fs + (if f = true then 1 else 2)
  | [], f => by simp [cost]
  | b :: r, f => by
    have := cost_snoc r f
    simp only [List.cons_append, cost, this]
    omega
theorem cost_le : ∀ fs : List Bool, fs.length ≤ cost fs ∧ cost fs ≤ 2 * fs.length
  | [] => by simp [cost]
  | b :: r => by
    have := cost_le r
    simp only [cost, List.length_cons]
    split <;> omega
theorem take_snoc {α : Type} {xs : List α} {i : Nat} {x : α} (h : xs[i]? = some x) : xs.take (i + 1) = xs.take i ++ [x] := by
  rw [List.take_add_one, h]; rfl
theorem vals_ok (k : Nat) (hk : k < 6) (sc : D) (u : Int) (fs : List Bool) (hf : fs.length = (ws19 k).length) {h : MH} (s : HS h) (l2 : h.length = 2) :
    ∃ t s9 h', (ev (runF P 99) q19_7).S (E19 sc k u fs [] .u) h = .nx (E19 sc k u fs t s9) h' ∧ (s9 = .u ∨ ∃ d, s9 = .v d) ∧ Sels (ws19 k) fs t ∧ HS h' ∧ h'.length = 2 + cost fs := by
  have hL := wl_len k hk
  obtain ⟨env', h', e, t, s9, rfl, i0, i1, i2, i3⟩ := forF_rel (g := (ev (runF P 99) (.tn 9)).G) (b := (ev (runF P 99) b_law19_1).S) (fun (i : Nat) => D.py (.int (i : Nat)))
    (fun pre env h' => ∃ t s9, env = E19 sc k u fs t s9 ∧ (s9 = .u ∨ ∃ d, s9 = .v d) ∧ Sels ((ws19 k).take pre.length) (fs.take pre.length) t ∧ HS h' ∧ h'.length = 2 + cost (fs.take pre.length)) (List.range (ws19 k).length) (fun pre i suf env h' hx ⟨t, s9, he, q0, q1, q2, q3⟩ => by
      have hi : i = pre.length := by
        have : (List.range (ws19 k).length)[pre.length]? = some i := by rw [hx]; simp
        rw [List.getElem?_range (by have := congrArg List.length hx; simp at this; omega)] at this
        exact (Option.some.inj this).symm
      have hlt : i < (ws19 k).length := by have := congrArg List.length hx; simp at this; omega
      subst hi he
      obtain ⟨x, hxx⟩ : ∃ x, (ws19 k)[pre.length]? = some x := ⟨_, List.getElem?_eq_getElem hlt⟩
      obtain ⟨f, hff⟩ : ∃ f, fs[pre.length]? = some f := ⟨_, List.getElem?_eq_getElem (by omega)⟩
      have lt := sels_len q1
      rw [List.length_take] at lt
      have cl := cost_le (fs.take pre.length)
      rw [List.length_take] at cl
      obtain ⟨⟨hg, eg, sg, lg⟩, ⟨v, hb, eb, mb, sb, lb⟩⟩ := (ws_ok k _ _ hxx).1 h' q2 (by omega) (by omega)
      have aw : L2.atI (wl k) (pre.length : Int) = some (.str x.w) := by
        rw [atI_nat _ _ (by simp [wl]; omega)]; simp [wl, hxx]
      have af : L2.atI (fs.map PyData.bool) (pre.length : Int) = some (.bool f) := by
        rw [atI_nat _ _ (by simp; omega)]; simp [hff]
      have f1 : fits (t.length + 1) = true := fits_small (by omega)
      rw [List.length_append, List.length_singleton, take_snoc hxx, take_snoc hff, cost_snoc]
      cases f with
      | true =>
        exact ⟨_, _, hb, rfl, by simp [callD, startE, look, lookV, Sl.get, Sl.getV, truD, ixU, dctAt, ixO, ixD, b_law19_1, E19, af, aw, eb, f1, T_ix], t ++ [v], .v (.py (.int (pre.length : Nat))), rfl, .inr ⟨_, rfl⟩, sels_snoc q1 (by simpa [Sel] using mb), sb, by simp; omega⟩
      | false =>
        exact ⟨_, _, hg, rfl, by simp [callD, startE, look, lookV, Sl.get, Sl.getV, truD, ixU, dctAt, ixO, ixD, b_law19_1, E19, af, aw, eg, f1, T_ix], t ++ [x.g], .v (.py (.int (pre.length : Nat))), rfl, .inr ⟨_, rfl⟩, sels_snoc q1 (by simp [Sel]), sg, by simp; omega⟩)
    (E19 sc k u fs [] .u) h ⟨[], .u, rfl, .inl rfl, trivial, s, by simp [cost, l2]⟩
  rw [List.length_range] at i1 i3
  rw [List.take_of_length_le (Nat.le_refl _), List.take_of_length_le (by omega)] at i1
  rw [List.take_of_length_le (by omega)] at i3
  refine ⟨t, s9, h', ?_, i0, i1, i2, i3⟩
  have z := rng1_nat (ws19 k).length (by omega)
  have zz : ((wl k).length : Int) = ((ws19 k).length : Nat) := by simp [wl]
  rw [← rngL_map] at e
  simp [look, lookV, Sl.get, Sl.getV, biF, fLen, lenD, q19_7, E19, zz, z]
  exact e
/-! ### what is due -/
theorem due_ok (k : Nat) (hk : k < 6) (sc : D) (u : Int) (fs : List Bool) (hf : fs.length = (ws19 k).length) (t : List PyData) (s9 : Sl) (hs9 : s9 = .u ∨ ∃ d, s9 = .v d) (h : MH) :
    (ev (runF P 99) q19_8).S (E19 sc k u fs t s9) h = .nx ((E19 sc k u fs t s9).set 10 (.o (dueL (ws19 k) fs ++ [.str "good"]))) h := by
  have hL := wl_len k hk
  have L := lcF_pureA (g := (ev (runF P 99) (.tn 9)).G) (ft := (ev (runF P 99) t_law19_1).T) (fe := (ev (runF P 99) e_law19_2).E) (env := E19 sc k u fs t .u) (h := h) (fun (i : Nat) => D.py (.int (i : Nat))) (fun i => fs.getD i false) (fun i => .str (((ws19 k).map W19.kd).getD i "")) (xs := List.range (ws19 k).length) (fun i hi => by
    have hlt := List.mem_range.mp hi
    obtain ⟨x, hxx⟩ : ∃ x, (ws19 k)[i]? = some x := ⟨_, List.getElem?_eq_getElem hlt⟩
    obtain ⟨f, hff⟩ : ∃ f, fs[i]? = some f := ⟨_, List.getElem?_eq_getElem (by omega)⟩
    have aw : L2.atI (wl k) (i : Int) = some (.str x.w) := by
      rw [atI_nat _ _ (by simp [wl]; omega)]; simp [wl, hxx]
    have af : L2.atI (fs.map PyData.bool) (i : Int) = some (.bool f) := by
      rw [atI_nat _ _ (by simp; omega)]; simp [hff]
    have ek := (ws_ok k _ _ hxx).2 h
    refine ⟨E19 sc k u fs t (.v (.py (.int (i : Nat)))), rfl, ?_, fun _ => ?_⟩
    · simp [look, lookV, Sl.get, Sl.getV, truD, ixU, dctAt, ixO, ixD, t_law19_1, E19, af, T_ix, hff]
    · simp [look, lookV, Sl.get, Sl.getV, truD, ixU, dctAt, ixO, ixD, e_law19_2, E19, aw, ek, hxx])
  rw [← rngL_map] at L
  have z := rng1_nat (ws19 k).length (by omega)
  have zz : ((wl k).length : Int) = ((ws19 k).length : Nat) := by simp [wl]
  have dl : (dueL (ws19 k) fs).length ≤ 4 := by
    unfold dueL
    rw [List.length_map]
    have := List.length_filter_le (fun i => fs.getD i false) (List.range (ws19 k).length)
    rw [List.length_range] at this
    omega
  have f1 : fits (dueL (ws19 k) fs).length = true := fits_small (by omega)
  have f2 : fits ((dueL (ws19 k) fs).length + 1) = true := fits_small (by omega)
  have w8 : wipeE (E19 sc k u fs t s9) [9] = some (E19 sc k u fs t .u) := by rcases hs9 with rfl | ⟨d, rfl⟩ <;> rfl
  have L : lcF (ev (runF P 99) (.tn 9)).G (ev (runF P 99) t_law19_1).T (ev (runF P 99) e_law19_2).E (E19 sc k u fs t .u) (rngL 0 (ws19 k).length) h = .ok (dueL (ws19 k) fs) h := L
  have lk : look (E19 sc k u fs t s9) 5 = some (.py (.list (wl k))) := rfl
  have ln : List.length (E19 sc k u fs t s9) = 11 := rfl
  simp [lk, w8, biF, fLen, lenD, binF, addO, catL, KF.listOf, mkLst, allPy, stoE, q19_8, zz, z, L, mkL, f1, f2, ln]
/-! ### the law -/
theorem eq_one (h : MH) (x : Str) : cmpF .eq h (.py (.list [.str x])) (.py (.list [.str x])) = some true := by
  have s : shal 64 (.list [.str x]) = true := rfl
  have e : PyData.eqv (.list [.str x]) (.list [.str x]) = true := by simp [PyData.eqv, PyData.eqvAll]
  simp only [cmpF, eqD, s, e]
  rfl
theorem cut_one (x : PyData) (r : List PyData) : cutU (.py (.list (x :: r))) none (some 1) = some (.py (.list [x])) := by
  have := cut_to (x :: r) 1 (by omega)
  simp only [cutU, this]
  rfl
abbrev G19 (sc : D) (k : Nat) (u : Int) (fs : List Bool) (t : List PyData) (s9 s10 : Sl) : KF.Env := [.v sc, .v (.loc 1), .o asked19, .v (.py (.int (k : Nat))), .v (.py (.int u)), .v (.py (.list (wl k))), .o (fs.map .bool), .u, .o t, s9, s10]
theorem math (ns : List Int) (hl : ns.length ≤ 63) : ∃ h', runF P 100 203 [.scr ns] [] = .ok (.py (.bool true)) h' := by
  obtain ⟨h1, e1, s1, l1⟩ := mix_ok (P := P) rfl 98 ns 19 hl
  obtain ⟨v, h2, e2, v0, v1, s2, r2⟩ := next_ok (P := P) rfl 98 (b := 6) s1 (by omega) (by omega)
  obtain ⟨u, hb, e2b, u0, u1, s2b, r2b⟩ := next_ok (P := P) rfl 98 (b := 6) s2 (by omega) (by omega)
  obtain ⟨k, rfl⟩ : ∃ k : Nat, v = k := ⟨v.toNat, by omega⟩
  have hk : k < 6 := by omega
  obtain ⟨fs, h3, e3, lf, s3, r3⟩ := flags_ok k hk (.scr ns) u s2b
  obtain ⟨t, s9, h4, e4, o4, q4, s4, l4⟩ := vals_ok k hk (.scr ns) u fs lf s3 (by rw [r3.1, r2b.1, r2.1, l1])
  have e5 := due_ok k hk (.scr ns) u fs lf t s9 o4 h4
  obtain ⟨rr, hd⟩ := due_head k hk fs lf
  rw [hd] at e5
  have t1 : ∀ (h : MH), h.length = 2 + cost fs → ∃ h', runF P 99 199 [.py (.int (k : Nat)), .py (.list t), .py (.int u)] h = .ok (.py (.list [.str (dueH (ws19 k) fs)])) h' := fun h hh => told_all k hk fs t lf q4 u u0 u1 h hh
  have hw := wd k hk
  rw [run_of (d := p_law19) rfl]
  have body : ∃ h', (ev (runF P 99) tail19).S (F19 (.scr ns) k u) hb = .rt (.py (.bool true)) h' := by
    have e7 : (ev (runF P 99) q19_6).S [.v (.scr ns), .v (.loc 1), .o asked19, .v (.py (.int (k : Nat))), .v (.py (.int u)), .v (.py (.list (wl k))), .o (fs.map .bool), .u, .u, .u, .u] h3 = .nx (E19 (.scr ns) k u fs [] .u) h3 := rfl
    unfold tail19
    simp only [S_sq, e3, thn_nx, e7, e4, e5]
    have fin : ∀ (h : MH), h.length = 2 + cost fs → ∃ h', (ev (runF P 99) (.sq q19_10 q19_z)).S (G19 (.scr ns) k u fs t s9 (.o (.str (dueH (ws19 k) fs) :: rr))) h = .rt (.py (.bool true)) h' := fun h hh => by
      obtain ⟨h', e⟩ := t1 h hh
      refine ⟨h', ?_⟩
      simp [look, lookV, Sl.get, Sl.getV, frzE, q19_10, q19_z, e, cut_one, eq_one, asI]
    show ∃ h', ((ev (runF P 99) q19_9).S (G19 (.scr ns) k u fs t s9 (.o (.str (dueH (ws19 k) fs) :: rr))) h4).thn (ev (runF P 99) (.sq q19_10 q19_z)).S = .rt (.py (.bool true)) h'
    by_cases k4 : k = 4
    · subst k4
      match fs, t, (show fs.length = 2 from lf), (show t.length = 2 from sels_len q4), q4, l4, fin with
      | [f, f'], [w, w'], _, _, q4, l4, fin =>
        cases f with
        | true =>
          obtain ⟨h', e⟩ := fin h4 l4
          refine ⟨h', ?_⟩
          rw [show (ev (runF P 99) q19_9).S (G19 (.scr ns) 4 u [true, f'] [w, w'] s9 (.o (.str (dueH (ws19 4) [true, f']) :: rr))) h4 = .nx (G19 (.scr ns) 4 u [true, f'] [w, w'] s9 (.o (.str (dueH (ws19 4) [true, f']) :: rr))) h4 by
            simp [look, lookV, Sl.get, Sl.getV, q19_9, ixU, dctAt, ixO, ixD, L2.atI, L2.ixN, cmpF, eqD, shal, PyData.eqv, truD, T_ix], thn_nx]
          exact e
        | false =>
          obtain ⟨x, h7, e7, x0, x1, s7, r7⟩ := next_ok (P := P) rfl 98 (b := 2) s4 (by omega) (by omega)
          by_cases hx : x = 0
          · subst hx
            obtain ⟨h', em⟩ := isW_ok (m4 u w' h7)
            refine ⟨h', ?_⟩
            rw [show (ev (runF P 99) q19_9).S (G19 (.scr ns) 4 u [false, f'] [w, w'] s9 (.o (.str (dueH (ws19 4) [false, f']) :: rr))) h4 = .nx (G19 (.scr ns) 4 u [false, f'] [.tuple [.int 9], w'] s9 (.v (.py (.list [.str "many"])))) h7 by
              simp [look, lookV, Sl.get, Sl.getV, q19_9, ixU, dctAt, ixO, ixD, L2.atI, L2.ixN, cmpF, eqD, shal, PyData.eqv, truD, T_ix, e7]
              rfl, thn_nx]
            simp [look, lookV, Sl.get, Sl.getV, frzE, q19_10, q19_z, em, cut_one, eq_one, asI]
          · obtain ⟨h', e⟩ := fin h7 (by rw [r7.1, l4])
            refine ⟨h', ?_⟩
            rw [show (ev (runF P 99) q19_9).S (G19 (.scr ns) 4 u [false, f'] [w, w'] s9 (.o (.str (dueH (ws19 4) [false, f']) :: rr))) h4 = .nx (G19 (.scr ns) 4 u [false, f'] [w, w'] s9 (.o (.str (dueH (ws19 4) [false, f']) :: rr))) h7 by
              simp [look, lookV, Sl.get, Sl.getV, q19_9, ixU, dctAt, ixO, ixD, L2.atI, L2.ixN, cmpF, eqD, shal, PyData.eqv, truD, T_ix, e7, hx], thn_nx]
            exact e
    · obtain ⟨h', e⟩ := fin h4 l4
      refine ⟨h', ?_⟩
      have k4' : ¬ ((k : Nat) : Int) = 4 := by omega
      rw [show (ev (runF P 99) q19_9).S (G19 (.scr ns) k u fs t s9 (.o (.str (dueH (ws19 k) fs) :: rr))) h4 = .nx (G19 (.scr ns) k u fs t s9 (.o (.str (dueH (ws19 k) fs) :: rr))) h4 by
        simp [look, lookV, Sl.get, Sl.getV, q19_9, cmpF, eqD, shal, PyData.eqv, k4'], thn_nx]
      exact e
  obtain ⟨h', eb⟩ := body
  refine ⟨h', ?_⟩
  show endS ((ev (runF P 99) k_law19).S [.v (.scr ns), .u, .u, .u, .u, .u, .u, .u, .u, .u, .u] []) = _
  rw [k19_eq, S_sq]
  rw [show (ev (runF P 99) q19_0).S [.v (.scr ns), .u, .u, .u, .u, .u, .u, .u, .u, .u, .u] [] = .nx [.v (.scr ns), .v (.loc 1), .u, .u, .u, .u, .u, .u, .u, .u, .u] h1 by
    simp [look, lookV, Sl.get, Sl.getV, q19_0, e1]]
  rw [thn_nx, hd19, S_sq]
  rw [show (ev (runF P 99) q19_3).S [.v (.scr ns), .v (.loc 1), .o asked19, .u, .u, .u, .u, .u, .u, .u, .u] h1 = .nx [.v (.scr ns), .v (.loc 1), .o asked19, .v (.py (.int (k : Nat))), .v (.py (.int u)), .u, .u, .u, .u, .u, .u] hb by
    simp [look, lookV, Sl.get, Sl.getV, q19_3, e2, e2b]]
  rw [thn_nx, S_sq]
  rw [show (ev (runF P 99) q19_4).S [.v (.scr ns), .v (.loc 1), .o asked19, .v (.py (.int (k : Nat))), .v (.py (.int u)), .u, .u, .u, .u, .u, .u] hb = .nx (F19 (.scr ns) k u) hb by
    simp [look, lookV, Sl.get, Sl.getV, q19_4, ixU, dctAt, ixO, ixD, hw]]
  rw [thn_nx, eb]
  rfl
end LW
set_option Elab.async false
set_option linter.all false
set_option maxRecDepth 100000
/-! KF: what the head made, walked breadth first with a set of bits. -/
namespace KF
open PySem PySem.Spec PyProof.Rows L2
def bitIn (m a : Nat) : Bool := Nat.beq (Nat.land (Nat.shiftRight m a) 1) 1
def pickN : List Addr → Nat → List Addr → Nat × List Addr
  | [], m, acc => (m, acc)
  | a :: r, m, acc => bif bitIn m a then pickN r m acc else pickN r (Nat.lor m (Nat.shiftLeft 1 a)) (a :: acc)
def refsAt (g : Addr → Option Obj) (a : Addr) : List Addr := match g a with
  | some o => He.refsD o
  | none => []
def nextN (g : Addr → Option Obj) : List Addr → Nat → List Addr → Nat × List Addr
  | [], m, acc => (m, acc)
  | a :: r, m, acc => match pickN (refsAt g a) m acc with
    | (m', acc') => nextN g r m' acc'
def asN (g : Addr → Option Obj) : Nat → List Addr → Nat → List Addr
  | 0, fr, _ => fr
  | n + 1, fr, m => match nextN g fr m [] with
    | (m', fr') => fr ++ asN g n fr' m'
def asX (g : Addr → Option Obj) (n : Nat) : List Addr := asN g n [mainGlobals] (Nat.shiftLeft 1 mainGlobals)
def obsYG (n : Nat) (G : List (Str × GK)) (fn : List DefX) (g : Addr → Option Obj) : He.AlD := obsX G fn (He.frG g (asX g n))
def hookY (n : Nat) (G : List (Str × GK)) (fn : List DefX) : PySem.W.Hook where
  α := He.AlD
  obs := fun s => obsYG n G fn s.heap.get?
  val := fun _ => valX fn
  says := fun _ h => ∃ K : PySem.W.Frag, K.In h ∧ SaysX G fn K
  of := fun _ _ e => ⟨_, He.frG_in, e⟩
  keeps := fun _ _ _ ⟨K, hK, c⟩ k => ⟨K, PySem.W.Frag.In.keeps hK k, c⟩
theorem obsYG_eq {n : Nat} {G : List (Str × GK)} {fn : List DefX} {g : Addr → Option Obj} {s : Shared} (h : ∀ a, g a = s.heap.get? a) : obsYG n G fn g = (hookY n G fn).obs s := by
  have e : g = s.heap.get? := funext h
  rw [e] <;> rfl
end KF
set_option Elab.async false
set_option linter.all false
set_option maxRecDepth 100000
set_option maxHeartbeats 0
namespace LW
open PySem PySem.Spec PyProof.Rows L2 KF
abbrev R : PySem.W.OpenRow := PySem.W.OpenLaw.row PySem.Challenge.rw_keysfelt_k19_further_questions_refused
abbrev hk : PySem.W.Hook := hookY 6 G fn
def ob (s : PySem.W.SharedT) : He.AlD := obsYG 6 G fn (HandSHeadRun.getT s)
theorem ob_eq (s : PySem.W.SharedT) : ob s = hk.obs s.abs := obsYG_eq (HandSHeadRun.getT_eq s)
def loose : List Str := (["_wall", "FeelError", "BadRing", "BadNumber", "BadAim", "BadCounts", "TooMany", "BadSeen", "BadPieces", "BadRings", "MOST_KEYS", "MOST_SHAPE", "MOST_FELT", "KEY", "HOLD", "is_integer", "is_from", "are_shapes", "check_ring", "check_number"] : List Str) ++ (["check_aim", "shape_at", "felt_by", "all_holds", "is_known", "least_by", "MOST_WRONG", "places_apart", "holds_if_wrong", "keys_for", "least_if_wrong", "MOST_COUNTS", "MOST_TOLD", "MOST_LISTED", "MOST_ROUND", "MOST_KINDS", "MOST_PIECES", "MOST_PIECE", "least_of", "check_counts"] : List Str) ++ (["all_rows", "all_rings", "check_pieces", "has_piece", "rings_with", "MOST_WITHIN", "best_rings", "told_rings", "RIGHT", "LEFT", "SIDES", "grouped", "felt_on", "moved_on", "first_states", "Search", "check_question", "depth_of", "best_of", "total_on"] : List Str) ++ (["least_total", "tree_by", "mean_plan", "count_in", "total_of", "MOST_RINGS", "check_rings", "least_which", "alike_in", "_law_mix", "_law_next", "_law_ask", "_law_told", "_law_good_one", "_law_kind_of", "_law_bad_one"] : List Str)
theorem run (w : World) : HandSHeadRun.RunEq R (PySem.W.view R.prog [85]) hk ob 40000 loose w := by
  intro os
  kernel_rfl
end LW
open PySem PySem.W PySem.Calls PyProof.Rows
theorem PySem.Challenge.cw_keysfelt_k19_further_questions_refused_holds : PySem.Challenge.rw_keysfelt_k19_further_questions_refused.Holds := by
  w_on; o_law
  refine HandSHeadRun.head_any (r := OpenLaw.row PySem.Challenge.rw_keysfelt_k19_further_questions_refused) (q := view (OpenLaw.row PySem.Challenge.rw_keysfelt_k19_further_questions_refused).prog [85]) (H := LW.hk) (ob := LW.ob) (M := 40000) (loose := LW.loose) (d := HandSHeadRun.topDef (OpenLaw.row PySem.Challenge.rw_keysfelt_k19_further_questions_refused).prog 85) (kwd := []) LW.ob_eq
    (by kernel_rfl) (fun s => by kernel_rfl) LW.run (by kernel_rfl) (by kernel_rfl) (by kernel_rfl) (by rfl) (by first | assumption | decide +kernel) (by decide +kernel) ⟨rfl, rfl, rfl, rfl, rfl, by decide +kernel⟩ ?hw ?hc
  case hw => w_witness2
  case hc =>
    refine L2.walk_ofE (l := PySem.Challenge.rw_keysfelt_k19_further_questions_refused) (n := 63) (k := 2 * 100 + 1) (x := "_law_script") (CX := KF.CXU (PySem.Challenge.rw_keysfelt_k19_further_questions_refused).prog) rfl (by decide) (by kernel_rfl) ⟨rfl, by decide, by decide⟩ ?F (fun _ _ _ _ z => z.no)
    intro w mg fa h Y G hmg0
    obtain ⟨K, KX, c⟩ := Y
    have hmg : mg ("law" : PySem.Str) = some (.ref fa) := by
      have e : (HandSHeadRun.topDef (OpenLaw.row PySem.Challenge.rw_keysfelt_k19_further_questions_refused).prog 85).name = ("law" : PySem.Str) := by kernel_rfl
      rw [← e]
      exact hmg0
    obtain ⟨fd, sp, hb, hs, hF⟩ := KF.law_end (prog := (PySem.Challenge.rw_keysfelt_k19_further_questions_refused).prog) (w := w) (n := 100) (il := 203) (pp := 53) (y := "_law_script") KX G hmg c LW.cB LW.pl rfl rfl (by decide +kernel) rfl rfl rfl LW.math
    exact ⟨K, fd, sp, KX, hb, hs, hF⟩
